/- T10 T11 T12 T13 T14 T15 T16 T17 T18 T19 T20 T21 T22 T23 -/
import Derived.Test.YtoohlnnpalgnaaaGreatPart05
import Derived.Test.YtoohlnnpalgnaaaGreatPart00
set_option linter.all false
namespace Orq
def IU(A B:Um)(b J J' n k j:Nat):Int:=if n<b*J then MZ (n / J) (n % J) (fA A) k j else MZ ((n-b*J) / J') ((n-b*J) % J') (gc B) k j
theorem Qkz{F:Nat->Nat->Int}{h:Nat}(hF:∀k j,(F k j).natAbs<=h)(i j' k j:Nat):(MZ i j' F k j).natAbs<=h:=by
 unfold MZ;split
 ·split
  ·exact hF _ _
  ·exact Qh _
 ·exact Qh _
theorem Qsp{i b J j:Nat}(hi:i<b)(hj:j<J):i*J+j<b*J:=by
 have:(i+1)*J<=b*J:=Q0 J hi;rw[Xa]at this;omega
theorem RB{i J j:Nat}(hj:j<J):(i*J+j) / J=i/\(i*J+j) % J=j:=by
 rw[Zq,W9 (by omega),Ua,V3 hj,Xu hj];exact⟨by omega,rfl⟩
theorem xQ(A B:Um)(a b J J':Nat)(v:Nat->Int)(k j:Nat):sm (b*J+a*J') (λn=>IU A B b J J' n k j*v n) =
 (sm b λi=>sm J λj1=>MZ i j1 (fA A) k j*v (i*J+j1))+sm a λi=>sm J' λj1=>MZ i j1 (gc B) k j*v (b*J+(i*J'+j1)):=by
 rw[dJ,dY,dY];congr 1
 ·refine Lu b λi hi=>Lu J λj1 hj=>?_
  unfold IU;rw[if_pos (Qsp hi hj),(RB hj).1,(RB hj).2]
 ·refine Lu a λi hi=>Lu J' λj1 hj=>?_
  unfold IU;rw[if_neg (by omega),Jl,(RB hj).1,(RB hj).2]
theorem Qye(A:Um)(v:Nat->Int){i J k j:Nat}(hj:j<J):(sm J λj1=>MZ i j1 (fA A) k j*v (i*J+j1))=if i<=k then A.getD (k-i) 0*v (i*J+j)else 0:=by
 rw[EL (k:=j) J hj λj1 _ hne=>?_]
 ·unfold MZ fA;by_cases h:i<=k
  ·rw[if_pos h,if_pos h,if_pos (Ql _),if_pos (Ki _)]
  ·rw[if_neg h,if_neg h,Yy]
 ·unfold MZ fA;by_cases h:i<=k
  ·rw[if_pos h];by_cases h':j1<=j
   ·rw[if_pos h',if_neg (by omega),Yy]
   ·rw[if_neg h',Yy]
  ·rw[if_neg h,Yy]
section
variable{A B:Um}{a b J J':Nat}(hA:A.length=a+1)(hB:B.length=b+1)(lA:A.getD a 0≠0)(lB:B.getD b 0≠0)(hJ:J=J'+b){v:Nat->Int}(hW:∀k j,k<a+b->j<J->sm (b*J+a*J') (λn=>IU A B b J J' n k j*v n)=0)
include hA lA hW in
theorem Qsd{jj:Nat}(hj:jj<J)(hV:∀k,a<=k->k<a+b->(sm a λi=>sm J' λj1=>MZ i j1 (gc B) k jj*v (b*J+(i*J'+j1)))=0):∀d i,i<b->b-i<=d->v (i*J+jj)=0:=by
 intro d
 induction d with
 |zero=>intro i hi hd;omega
 |
  succ d ih =>
  intro i hi hd;have h1:=hW (i+a) jj (by omega) hj;rw[xQ,hV (i+a) (by omega) (by omega)]at h1;rw[Lu b (λi' hi'=>Qye A v hj)]at h1;rw[EL (k:=i) b hi λi' hi' hne=>?_]at h1
  ·rw[if_pos (by omega),Jl,Int.add_zero]at h1;rcases Yf.1 h1 with h2|h2
   ·exact absurd h2 lA
   ·exact h2
  ·rcases Zb i i' with h|h
   ·rw[ih i' hi' (by omega)];simp
   ·rw[if_pos (by omega),Qi,Qw (by omega)];simp
include hA hB lA lB hJ hW in
theorem Qyj:∀d js,js<J'->J'-js<=d->∀i,i<a->v (b*J+(i*J'+js))=0:=by
 intro d
 induction d with
 |zero=>intro js hi hd;omega
 |
  succ d ih =>
  intro js hjs hd i hi;have hin:∀i' k,i'<a->(sm J' λj1=>MZ i' j1 (gc B) k (js+b)*v (b*J+(i'*J'+j1)))=if i'=k then gc B 0 b*v (b*J+(i'*J'+js))else 0:=λi' k hi'=>by
   rw[EL (k:=js) J' hjs λj1 hj1 hne=>?_]
   ·unfold MZ;by_cases h:i'<=k
    ·rw[if_pos h,if_pos (by omega),Jl];by_cases h':i'=k
     ·rw[if_pos h',h',Ki]
     ·rw[if_neg h',ML B _ _ (by omega),Yy]
    ·rw[if_neg h,if_neg (by omega),Yy]
   ·rcases Zb js j1 with h|h
    ·rw[ih j1 hj1 (by omega) i' hi',Wa]
    ·unfold MZ;by_cases h':i'<=k
     ·rw[if_pos h',if_pos (by omega),ML B _ _ (by omega),Yy]
     ·rw[if_neg h',Yy]
  have hU:=Qsd hA lA hW (jj:=js+b) (by omega) (λk hk hk'=>VK a λi' hi'=>by rw[hin i' k hi',if_neg (by omega)]) (b+1);have h1:=hW i (js+b) (by omega) (by omega);rw[xQ,Lu a (λi' hi'=>hin i' i hi')]at h1;rw[VK b λi' hi'=>by
   rw[Qye A v (by omega),hU i' hi' (by omega)];simp]at h1
  rw[EL (k:=i) a hi λi' hi' hne=>if_neg hne,if_pos rfl,Int.zero_add]at h1;rcases Yf.1 h1 with h2|h2
  ·have:=Qh0 B b hB;rw[h2]at this;omega
  ·exact h2
include hA hB lA lB hJ hW in
theorem Qef:∀n,n<b*J+a*J'->v n=0:=by
 intro n hn;have hV:=Qyj hA hB lA lB hJ hW;rcases Zb n (b*J)with h|h
 ·have hJp:0<J:=by
   rcases Q3 J with e|e
   ·rw[e,Yz]at h;omega
   ·exact e
  have e1:=Z4 n hJp;have e2:n / J<b:=Jb (by rw[Zq];exact h);have:=Qsd hA lA hW e1 (λk _ _=>VK a λi hi=>VK J' λj1 hj1=>by rw[hV J' j1 hj1 (by omega) i hi,Wa]) (b+1) (n / J) e2 (Qa (Nat.sub_le _ _) (Nat.le_succ _));rwa[Zq,Xe]at this
 ·have hJp:0<J':=by
   rcases Q3 J' with e|e
   ·rw[e,Yz]at hn;omega
   ·exact e
  have e1:=Z4 (n-b*J) hJp;have e2:(n-b*J) / J'<a:=Jb (by rw[Zq J' a];omega);have:=hV J' _ e1 (by omega) _ e2;rw[Zq ((n-b*J) / J'),Xe]at this;rwa[show b*J+(n-b*J)=n by omega]at this
end
theorem VZ{R x:Rat}(h1:1<=R)(hx:Fl x<=R):∀k:Nat,Fl (x^k)<=R^k/\1<=R^k
 | 0=>by rw[Xg,Xg];exact⟨by decide,by decide⟩
 |
  k+1=>by
  obtain⟨i1,i2⟩:=VZ h1 hx k;rw[Z7,Z7];have:=Cw (a:=1) (c:=1) (by decide) i2 (by decide) h1;exact⟨He i1 hx,by grind⟩
theorem Qaa{R:Rat}(h1:1<=R){i:Nat}:∀k,i<=k->R^i<=R^k
 | 0,h=>by rw[show i=0 by omega];exact Qr
 |
  k+1,h=>by
  rcases Vm h with e|e
  ·have:=Qaa h1 (i:=i) k (by omega);have h2:=(VZ h1 (x:=0) (by rw[Rl];grind) k).2;rw[Z7];have:=Cw (a:=R^k) (b:=R^k) (c:=1) (d:=R) (by grind) Qr (by decide) h1;grind
  ·rw[e];exact Qr
theorem Qky{F:Nat->Nat->Int}{i j' K J:Nat}{x y R X:Rat}{K2 J2:Nat}(h1:1<=R)(hx:Fl x<=R)(hy:Fl y<=R)(hK:K=i+K2)(hJ:J=j'+J2)(hF:E2 F K2 J2 x y=X):Fl (E2 (MZ i j' F) K J x y)<=R^(K+J)*Fl X:=by
 subst hK;subst hJ;rw[DJ,hF,Ip];have a1:=(VZ h1 hy i).1;have a2:=(VZ h1 hx j').1;have a3:=He a1 a2;rw[<-GG]at a3;have a4:=Qaa h1 (i:=i+j') (i+K2+(j'+J2)) (by omega);exact Cw (Hx _) (Zl a3 a4) (Hx _) Qr
theorem Qwk{A B:Um}{a b h:Nat}(hA:A.length=a+1)(hB:B.length=b+1)(lA:A.getD a 0≠0)(lB:B.getD b 0≠0)(ha:0<a)(hb:0<b)(h0:1<=h)(bA:∀k,(A.getD k 0).natAbs<=h)(bB:gB B<=h){J J' N H:Nat}(hJ:J=2*(a*b))(hJ':J=J'+b)(hN:N=b*J+a*J')(hH:H=(2*(N*h))^(2*(a+b-1))) :
 ∃w:Nat->Int,(∃j,j<J/\w j≠0)/\(∀j,(w j).natAbs<=N*(h*H))/\∀R:Rat,1<=R->∃C:Rat,0<=C/\∀x y,Fl x<=R->Fl y<=R->Fl (sq J λj=>(w j:Rat)*x^j)<=C*(Fl (Fa A y)+Fl (Fa B (y-x))):=by
 have hab:0<a*b:=J5 ha hb;have hbd:∀n k j,(IU A B b J J' n k j).natAbs<=h:=λn k j=>by
  unfold IU
  split
  ·exact Qkz (λk j=>by unfold fA;split;exact bA k;exact Nat.zero_le _) _ _ _ _
  ·exact Qkz (λk j=>Qa (Qhz B k j) bB) _ _ _ _
 have hJp:0<J:=by omega
 have hNp:1<=N:=by
  have:0<b*J:=J5 hb hJp;omega
 have hNh:1<=N*h:=J5 hNp h0;obtain⟨E,hE⟩:=nmE ((a+b-1)*J);have hNE:N=E+a*b:=by
  have e1:(a+b-1)*J+J=(a+b)*J:=by
   rw[<-Xa];congr 1;omega
  have e2:a*J=a*J'+a*b:=by rw[hJ',Xj]
  rw[X5]at e1;omega
 have hc:(2*(N*(h*H))+1)^E<(H+1)^N:=by
  have c1:2*(N*(h*H))+1<=2*(N*h)*(H+1):=by
   rw[Xj,Yw,Xz 2,Xz N];omega
  refine Z3 (Nat.pow_le_pow_left c1 E) ?_;rw[Nat.mul_pow,hNE,Xf,Zq];refine Nat.mul_lt_mul_of_pos_left ?_ (Z2 (by omega));have e1:(2*(N*h))^E=H^(a*b):=by
   rw[hH,<-Ks,hE,hJ];congr 1;rw[Zq 2 (a+b-1),Xz]
  rw[<-hNE,e1];exact Nat.pow_lt_pow_left (by omega) (by omega)
 obtain⟨v,v1,⟨n0,n1,n2⟩,v3⟩:=Qwo (M:=λe n=>IU A B b J J' n (e / J+1) (e % J)) (h:=h) (N:=N) (E:=E) (H:=H) (λe n=>hbd n _ _) hc;have hW:∀k j,1<=k->k<a+b->j<J->sm N (λn=>IU A B b J J' n k j*v n)=0:=λk j k1 k2 hj=>by
  have:=v3 ((k-1)*J+j) (by rw[hE];exact Qsp (by omega) hj);rwa[(RB hj).1,(RB hj).2,show k-1+1=k by omega]at this
 refine⟨λj=>sm N λn=>IU A B b J J' n 0 j*v n,?_,λj=>?_,λR hR=>?_⟩
 ·rcases Classical.em (∃j,j<J/\(sm N λn=>IU A B b J J' n 0 j*v n)≠0)with e|e
  ·exact e
  ·exfalso;refine n2 (Qef hA hB lA lB hJ' (v:=v) (λk j hk hj=>?_) n0 (by rw[<-hN];exact n1));rw[<-hN];rcases Q3 k with e'|e'
   ·subst e';rcases Classical.em ((sm N λn=>IU A B b J J' n 0 j*v n)=0)with e2|e2
    ·exact e2
    ·exact absurd ⟨j,hj,e2⟩ e
   ·exact hW k j e' hk hj
 ·refine Qk5 N λn _=>?_
  rw[J9];exact Zc (hbd n 0 j) (v1 n)
 ·have hRp:∀k:Nat,1<=R^k:=λk=>(VZ hR (x:=0) (by rw[Rl];grind) k).2
  have hHn:(0:Rat)<=(H:Rat):=Xi;have hNn:(0:Rat)<=(N:Rat):=Xi;refine⟨(N:Rat)*((H:Rat)*R^(a+b+J)),Bn hNn (Bn hHn (by have:=hRp (a+b+J);grind)),λx y hx hy=>?_⟩;have e1:(sq J λj=>((sm N λn=>IU A B b J J' n 0 j*v n:Int):Rat)*x^j)=E2 (λk j=>sm N λn=>IU A B b J J' n k j*v n) (a+b) J x y:=by
   unfold E2;obtain⟨m,hm⟩:∃m,a+b=m+1:=⟨a+b-1,by omega⟩;rw[hm,QQ,Da (n:=m)]
   ·have:(sq J λj=>((sm N λn=>IU A B b J J' n 0 j*v n:Int):Rat)*(y^0*x^j))=sq J λj=>((sm N λn=>IU A B b J J' n 0 j*v n:Int):Rat)*x^j:=Pz J λj _=>by rw[Xg];grind
    rw[this];grind
   ·intro k hk;refine Da J λj hj=>?_
    show((sm N λn=>IU A B b J J' n (k+1) j*v n:Int):Rat)*_=0;rw[hW (k+1) j (by omega) (by omega) hj,show((0:Int):Rat)=0 from rfl];grind
  rw[e1,Qhf];have key:∀n,n<N->Fl ((v n:Rat)*E2 (IU A B b J J' n) (a+b) J x y)<=(H:Rat)*(R^(a+b+J)*(Fl (Fa A y)+Fl (Fa B (y-x)))):=λn hn=>by
   have hvn:Fl (v n:Rat)<=(H:Rat):=by
    have h1:=v1 n;have h2:(v n)<=(H:Int):=by omega
    have h3:-(H:Int)<=v n:=by omega
    have h2:=Je.2 h2;have h3:=Je.2 h3;rw[Vn]at h3;rw[Ml];exact⟨h3,h2⟩
   refine He hvn ?_;have hRk:=hRp (a+b+J);have n1:=Hx (Fa A y);have n2:=Hx (Fa B (y-x));rcases Zb n (b*J)with h|h
   ·have e:IU A B b J J' n=MZ (n / J) (n % J) (fA A):=by funext k j;unfold IU;rw[if_pos h]
    have d1:n / J<b:=Jb (by rw[Zq];exact h);have d2:=Z4 n hJp;rw[e];refine Zl (Qky (K2:=a+b-n / J) (J2:=J-n % J) hR hx hy (by omega) (by omega) (X:=Fa A y) ?_) (Cw (by grind) Qr n1 (by grind));obtain⟨m,hm⟩:∃m,J-n % J=m+1:=⟨J-n % J-1,by omega⟩;rw[hm];exact Qyl A _ _ x y (by omega)
   ·have e:IU A B b J J' n=MZ ((n-b*J) / J') ((n-b*J) % J') (gc B):=by funext k j;unfold IU;rw[if_neg (by omega)]
    have hJp':0<J':=by
     rcases Q3 J' with e|e
     ·rw[e,Yz]at hN;omega
     ·exact e
    have d1:(n-b*J) / J'<a:=Jb (by rw[Zq J' a];omega);have d2:=Z4 (n-b*J) hJp';rw[e];refine Zl (Qky (K2:=a+b-(n-b*J) / J') (J2:=J-(n-b*J) % J') hR hx hy (by omega) (by omega) (X:=Fa B (y-x)) ?_) (Cw (by grind) Qr n2 (by grind));exact Quv x y B _ _ (by omega) (by omega)
  have:=Qs4 N key;refine Zl this ?_;have:(N:Rat)*((H:Rat)*(R^(a+b+J)*(Fl (Fa A y)+Fl (Fa B (y-x)))))=(N:Rat)*((H:Rat)*R^(a+b+J))*(Fl (Fa A y)+Fl (Fa B (y-x))):=by grind
  rw[this];exact Qr
end Orq
namespace Orq
theorem Qla{w:Nat->Int}{x:Rat}{D:Rat}(hx:Fl x*2<=1)(hw:∀j,Fl (w j:Rat)<=D):∀J (k:Nat),Fl (sq J λj=>(w (k+j):Rat)*x^j)<=2*D
 | 0,k=>by have:=hw 0;have:=Hx (w 0:Rat);simp only[sq,Rl];clear hw;grind
 |
  J+1,k=>by
  have ih:=Qla hx hw J (k+1);rw[QQ];have e:(sq J λi=>(w (k+(i+1)):Rat)*x^(i+1))=x*sq J λi=>(w (k+1+i):Rat)*x^i:=by
   rw[<-JE];exact Pz J λi _=>by rw[Z7,show k+(i+1)=k+1+i by omega];grind
  rw[e,Xg,Xn];have h1:=hw k;have h2:=Sx ((w k:Rat)*1) (x*sq J λi=>(w (k+1+i):Rat)*x^i);have h3:=He (x:=x) (y:=sq J λi=>(w (k+1+i):Rat)*x^i) Qr ih;have h4:=Ze hx (show(0:Rat)<=D by have:=Hx (w k:Rat);clear hw;grind);have h5:(w k:Rat)*1=w k:=by grind
  rw[h5]at h2 ⊢;clear hw;grind
theorem WU{z:Int}(h:z≠0):1<=Fl (z:Rat):=by
 unfold Fl;rcases Ke h with h|h
 ·have:((z:Int):Rat)<((0:Int):Rat):=Jn.2 h;have h2:((1:Int):Rat)<=((-z:Int):Rat):=Je.2 (by omega);rw[if_pos (by simpa using this)];rw[Vn]at h2;simpa using h2
 ·have:((0:Int):Rat)<((z:Int):Rat):=Jn.2 h;have h2:((1:Int):Rat)<=((z:Int):Rat):=Je.2 (by omega);rw[if_neg (by
   have:(0:Rat)<z:=by simpa using this
   grind)]
  simpa using h2
theorem bY{w:Nat->Int}{x:Rat}{D:Rat}(hD:1<=D)(hx0:0<Fl x)(hx:Fl x*(4*D)<=1)(hw:∀j,Fl (w j:Rat)<=D):∀J (k:Nat),(∃j,j<J/\w (k+j)≠0)->Fl x^J / 2<=Fl (sq J λj=>(w (k+j):Rat)*x^j)
 | 0,k,⟨j,h,_⟩=>by omega
 |
  J+1,k,⟨j,h1,h2⟩=>by
  have hx2:Fl x*2<=1:=by
   have:=Cw (a:=Fl x) (c:=2) (Qt hx0) Qr (by decide) (show(2:Rat)<=4*D by clear hw;grind);exact Zl this hx
  have hx1:Fl x<=1:=by clear hw;grind
  have hp:∀k:Nat,Fl x^k<=1/\0<=Fl x^k:=λk=>by
   induction k with
   |zero=>rw[Xg];exact⟨by decide,by decide⟩
   |
    succ k ih =>
    rw[Z7];have:=Cw ih.2 ih.1 (Qt hx0) hx1;have:=Bn ih.2 (Qt hx0);constructor <;> (clear hw;grind)
  rw[QQ];have e:(sq J λi=>(w (k+(i+1)):Rat)*x^(i+1))=x*sq J λi=>(w (k+1+i):Rat)*x^i:=by
   rw[<-JE];exact Pz J λi _=>by rw[Z7,show k+(i+1)=k+1+i by omega];grind
  rw[e,Xg,Xn k,show(w k:Rat)*1=w k by grind];by_cases h0:w k=0
  ·have hj:j≠0:=λe=>h2 (by rw[e];exact h0)
   have ih:=bY hD hx0 hx hw J (k+1) ⟨j-1,by omega,by rw[show k+1+(j-1)=k+j by omega];exact h2⟩;rw[h0,show((0:Int):Rat)+x*(sq J λi=>(w (k+1+i):Rat)*x^i)=x*sq J λi=>(w (k+1+i):Rat)*x^i by rw[show((0:Int):Rat)=0 from rfl];grind,Ip,Z7];have:=Z1 ih (Qt hx0);have e2:Fl x*(Fl x^J / 2)=Fl x^J*Fl x / 2:=by rw[J6,J6];grind
   rw[e2]at this;exact this
  ·have a1:=WU h0;have a2:=Qla hx2 hw J (k+1);have a3:=He (x:=x) (y:=sq J λi=>(w (k+1+i):Rat)*x^i) Qr a2;have a4:=Sx ((w k:Rat)+x*sq J λi=>(w (k+1+i):Rat)*x^i) (-(x*sq J λi=>(w (k+1+i):Rat)*x^i));rw[Ew,show(w k:Rat)+(x*sq J λi=>(w (k+1+i):Rat)*x^i)+-(x*sq J λi=>(w (k+1+i):Rat)*x^i)=w k by grind]at a4;have a5:=(hp (J+1)).1;have a6:Fl x^(J+1) / 2*2=Fl x^(J+1):=Hg (by decide);have a7:Fl x*(2*D)*2=Fl x*(4*D):=by grind
   clear hw hp;grind
theorem Qvd{A B:Um}{a b h:Nat}(hA:A.length=a+1)(hB:B.length=b+1)(lA:A.getD a 0≠0)(lB:B.getD b 0≠0)(ha:0<a)(hb:0<b)(h0:1<=h)(bA:∀k,(A.getD k 0).natAbs<=h)(bB:gB B<=h){N D:Nat}(hN:b*(2*(a*b))+a*(2*(a*b)-b)=N)(hD:N*(h*(2*(N*h))^(2*(a+b-1)))<=D){R d:Rat}(hR:1<=R)(dp:0<d)
 (hs:∀e:Rat,0<e->∃q r,Fl q<=R/\Fl r<=R/\d<=Fl (q-r)/\Fl (q-r)*(4*(D:Rat))<=1/\Fl (Fa A q)<e/\Fl (Fa B r)<e):False:=by
 have hab:0<a*b:=J5 ha hb;have hbab:b<=a*b:=by
  have:=Q0 b (show 1<=a from ha);omega
 obtain⟨w,⟨j,hj,hw0⟩,hw,hC⟩:=Qwk hA hB lA lB ha hb h0 bA bB (J:=2*(a*b)) (J':=2*(a*b)-b) rfl (by omega) hN.symm rfl;obtain⟨C,hC0,hC⟩:=hC (2*R) (by grind);have hw':∀j,Fl (w j:Rat)<=(D:Rat):=λj=>by
  have h1:=Qa (hw j) hD;have h2:w j<=(D:Int):=by omega
  have h3:-(D:Int)<=w j:=by omega
  have h2:=Je.2 h2;have h3:=Je.2 h3;rw[Vn]at h3;rw[Ml];exact⟨h3,h2⟩
 have hD1:(1:Rat)<=(D:Rat):=by
  have:=WU hw0;exact Zl this (hw' j)
 have hdJ:0<d^(2*(a*b)) / 2:=Ak (Rat.pow_pos dp) (by decide);obtain⟨e,ep,_,he⟩:=Hj (b:=C*2) (d:=d^(2*(a*b)) / 2) (by grind) hdJ;obtain⟨q,r,q1,r1,d1,d2,aq,br⟩:=hs e ep;have h1:=hC (q-r) q (by
  have:=Sx q (-r);rw[Ew]at this;have:q-r=q+-r:=by grind
  grind) (by grind)
 rw[show q-(q-r)=r by grind]at h1;have h2:=bY (x:=q-r) hD1 (by grind) d2 hw' (2*(a*b)) 0 ⟨j,hj,by rw[Zz];exact hw0⟩;simp only[Zz]at h2;have h3:C*(Fl (Fa A q)+Fl (Fa B r))<=C*(e+e):=Z1 (by grind) hC0;have h4:d^(2*(a*b))<=Fl (q-r)^(2*(a*b)):=by
  generalize 2*(a*b)=J
  induction J with
  |zero=>rw[Xg,Xg];exact Qr
  |
   succ J ih =>
   rw[Z7,Z7];exact Cw (Qt (Rat.pow_pos dp)) ih (Qt dp) d1
 have h5:d^(2*(a*b)) / 2*2=d^(2*(a*b)):=Hg (by decide);have h6:Fl (q-r)^(2*(a*b)) / 2*2=Fl (q-r)^(2*(a*b)):=Hg (by decide);clear hC hs hw hw';grind
def HD(p:Up)(n:Nat):Prop:=p.getD n 0≠0/\∀k,n<k->p.getD k 0=0
theorem Ro:∀(p q:Up) (k:Nat),(Sy p q).getD k 0=p.getD k 0+q.getD k 0
 | [],q,k=>by simp only[Sy,Kt];grind
 |a::p,[],k=>by simp only[Sy,Kt];grind
 |a::p,b::q,0=>by simp only[Sy,Zt]
 |a::p,b::q,k+1=>by simp only[Sy,Q4];exact Ro p q k
theorem Su(c:Rat):∀(p:Up) (k:Nat),(D9 c p).getD k 0=c*p.getD k 0
 | [],k=>by simp only[D9,X9,Kt];grind
 |a::p,0=>by simp[D9]
 |a::p,k+1=>by have:=Su c p k;simp only[D9,Z0,Q4]at *;exact this
theorem Qh7{p:Up}{k:Nat}(h:∀x∈p,x=0):p.getD k 0=0:=by
 rw[Qi];cases e:p[k]? with
 |none=>rfl
 |some x=>exact h x (Qc e)
theorem D4{p q:Up}(h:∀t,ev p t=ev q t)(k:Nat):p.getD k 0=q.getD k 0:=by
 have h1:=Qh7 (k:=k) (UZ (p:=Sy p (D9 (-1) q)) λt _ _=>by rw[G0,Gu,h t];grind);rw[Ro,Su]at h1;grind
theorem Lf:∀{p:Up},(∀k,p.getD k 0=0)->∀t,ev p t=0
 | [],_,t=>rfl
 |
  a::p,h,t=>by
  have h0:=h 0;have h1:=Lf (p:=p) (λk=>by have:=h (k+1);rwa[Q4]at this) t;rw[Zt]at h0;simp only[ev,h0,h1];grind
theorem LX:∀(p:Up),(∀t,ev p t=0)\/∃n,n<p.length/\HD p n
 | []=>.inl λ_=>rfl
 |
  a::p=>by
  rcases LX p with h|⟨n,hn,h1,h2⟩
  ·rcases Classical.em (a=0)with e|e
   ·exact .inl λt=>by simp only[ev,e,h t];grind
   ·refine .inr ⟨0,by simp,by simpa using e,λk hk=>?_⟩;obtain⟨m,rfl⟩:∃m,k=m+1:=⟨k-1,by omega⟩;rw[Q4];exact(D4 (p:=p) (q:=[]) h m).trans (by simp)
  ·refine .inr ⟨n+1,by simp;omega,by rw[Q4];exact h1,λk hk=>?_⟩;obtain⟨m,rfl⟩:∃m,k=m+1:=⟨k-1,by omega⟩;rw[Q4];exact h2 m (by omega)
theorem Qsm{p q:Up}{n:Nat}(h:∀t,ev p t=ev q t)(hp:HD p n):HD q n :=
 ⟨by rw[<-D4 h];exact hp.1,λk hk=>by rw[<-D4 h];exact hp.2 k hk⟩
theorem Qsn{p:Up}{n m:Nat}(h:HD p n)(h':HD p m):n=m:=by
 rcases Kn n m with e|e|e
 ·exact absurd (h.2 m e) h'.1
 ·exact e
 ·exact absurd (h'.2 n e) h.1
theorem aN{p:Up}{n:Nat}(h:HD p n):¬∀t,ev p t=0:=λh0=>h.1 ((D4 (p:=p) (q:=[]) h0 n).trans (by simp))
theorem SD{p q:Up}(h:∀k,p.getD k 0=0)(k:Nat):(G8 p q).getD k 0=0:=by
 have:=D4 (p:=G8 p q) (q:=[]) (λt=>by rw[Fi,Lf h t];simp only[ev];grind) k;rw[this];simp
theorem LJ:∀{p q:Up} {m n:Nat},HD p m->HD q n->HD (G8 p q) (m+n)
 | [],q,m,n,h,_=>absurd (by simp) h.1
 |
  a::p,q,0,n,h,h'=>by
  have h1:∀k,p.getD k 0=0:=λk=>by have:=h.2 (k+1) (by omega);rwa[Q4]at this
  have h2:∀k,(G8 (a::p) q).getD k 0=a*q.getD k 0:=λk=>by
   simp only[G8];rw[Ro,Su];cases k with
   |zero=>rw[Zt];grind
   |succ k=>rw[Q4,SD h1];grind
  have h3:=h.1;rw[Zt]at h3;refine⟨?_,λk hk=>?_⟩
  ·rw[h2,Zz];exact λh=>(Y3.1 h).elim h3 h'.1
  ·rw[h2,h'.2 k (by omega)];grind
 |
  a::p,q,m+1,n,h,h'=>by
  have ih:=LJ (p:=p) (q:=q) (m:=m) ⟨by have:=h.1;rwa[Q4]at this,λk hk=>by have:=h.2 (k+1) (by omega);rwa[Q4]at this⟩ h';refine⟨?_,λk hk=>?_⟩
  ·simp only[G8];rw[Ro,Su,show m+1+n=(m+n)+1 by omega,Q4,h'.2 _ (by omega)];have:=ih.1;grind
  ·obtain⟨j,rfl⟩:∃j,k=j+1:=⟨k-1,by omega⟩;simp only[G8];rw[Ro,Su,Q4,h'.2 _ (by omega),ih.2 j (by omega)];grind
def ZA(g f:Up):Prop:=∃u,∀t,ev f t=ev g t*ev u t
theorem dvd_refl(f:Up):ZA f f:=⟨[1],λt=>by rw[Tg];grind⟩
theorem dvd_trans{f g h:Up}:ZA f g->ZA g h->ZA f h
 |⟨u,hu⟩,⟨v,hv⟩=>⟨G8 u v,λt=>by rw[hv,hu,Fi];grind⟩
theorem hQ{p q:Up}(h:∀t,ev p t*ev q t=0)(hp:¬∀t,ev p t=0):∀t,ev q t=0:=by
 rcases LX p with h1|⟨m,_,h1⟩
 ·exact absurd h1 hp
 ·rcases LX q with h2|⟨n,_,h2⟩
  ·exact h2
  ·exact absurd (λt=>by rw[Fi];exact h t) (aN (LJ h1 h2))
theorem mD{p q r:Up}(hp:¬∀t,ev p t=0)(h:∀t,ev p t*ev q t=ev p t*ev r t)(t:Rat):ev q t=ev r t:=by
 have:=hQ (p:=p) (q:=Sy q (D9 (-1) r)) (λt=>by rw[G0,Gu];have:=h t;grind) hp t;rw[G0,Gu]at this;grind
theorem Qg8{b:Up}{n:Nat}(hb:HD b n):∀(l:Nat) (a:Up),(∀k,l<=k->a.getD k 0=0)->∃q r,(∀t,ev a t=ev q t*ev b t+ev r t)/\∀k,n<=k->r.getD k 0=0
 | 0,a,ha=>⟨[],a,λt=>by simp only[ev];grind,λk _=>ha k (Qh _)⟩
 |
  l+1,a,ha=>by
  rcases Zb l n with h|h
  ·exact⟨[],a,λt=>by simp only[ev];grind,λk hk=>ha k (by omega)⟩
  ·-- the leading term is taken away
   obtain⟨c,hc⟩:=nmE (a.getD l 0 / b.getD n 0);have hcb:c*b.getD n 0=a.getD l 0:=by rw[hc];exact Zj hb.1
   obtain⟨m,hm⟩:∃m:Up,m=List.replicate (l-n) 0++[c]:=⟨_,rfl⟩;have hsh:∀(i:Nat) (k:Nat),(G8 (List.replicate i 0++[c]) b).getD k 0=if i<=k then c*b.getD (k-i) 0 else 0:=λi=>by
    induction i with
    |zero=>intro k;simp only[Wj,Yj,G8];rw[Ro,Su];cases k <;> simp <;> grind
    |
     succ i ih =>
     intro k;simp only[J4,Xb,G8];rw[Ro,Su];cases k with
     |zero=>rw[Zt,if_neg (by omega)];grind
     |
      succ k =>
      rw[Q4,ih k];by_cases h:i<=k
      ·rw[if_pos h,if_pos (by omega),Nat.add_sub_add_right];grind
      ·rw[if_neg h,if_neg (by omega)];grind
   obtain⟨q,r,h1,h2⟩:=Qg8 hb l (Sy a (D9 (-1) (G8 m b))) λk hk=>by
    rw[Ro,Su,hm,hsh,if_pos (by omega)];rcases Vm hk with e|e
    ·rw[ha k (by omega),hb.2 _ (by omega)];grind
    ·subst e;rw[show l-(l-n)=n by omega,hcb];grind
   refine⟨Sy q m,r,λt=>?_,h2⟩;have:=h1 t;rw[G0,Gu,Fi]at this;rw[G0];grind
theorem nT:∀(n:Nat) (a b:Up),(∀k,n<=k->b.getD k 0=0)->∃g U V,ZA g a/\ZA g b/\∀t,ev g t=ev U t*ev a t+ev V t*ev b t
 |
  0,a,b,h=>by
  have h0:=Lf λk=>h k (Qh _)
  exact⟨a,[1],[],dvd_refl a,⟨[],λt=>by rw[h0];simp only[ev];grind⟩,λt=>by rw[Tg];simp only[ev];grind⟩
 |
  n+1,a,b,h=>by
  rcases Classical.em (b.getD n 0=0)with e|e
  ·exact nT n a b λk hk=>by
    rcases Vm hk with e'|e'
    ·exact h k (by omega)
    ·rw[<-e'];exact e
  ·obtain⟨q,r,h1,h2⟩:=Qg8 (b:=b) (n:=n) ⟨e,λk hk=>h k (by omega)⟩ a.length a λk hk=>by rw[Qi,Qw hk];rfl
   obtain⟨g,U,V,⟨u,hu⟩,⟨v,hv⟩,hg⟩:=nT n b r h2;refine⟨g,V,Sy U (D9 (-1) (G8 V q)),⟨Sy (G8 q u) v,λt=>?_⟩,⟨u,hu⟩,λt=>?_⟩
   ·rw[h1,hv,G0,Fi,hu];grind
   ·rw[hg,G0,Gu,Fi,h1];grind
theorem Qh2(a b:Up):∃g U V,ZA g a/\ZA g b/\∀t,ev g t=ev U t*ev a t+ev V t*ev b t :=
 nT b.length a b λk hk=>by rw[Qi,Qw hk];rfl
def Cop(a b:Up):Prop:=∃U V,∀t,ev U t*ev a t+ev V t*ev b t=1
theorem jH{c d e:Up}(h:Cop c d)(h1:∃u,∀t,ev d t*ev e t=ev c t*ev u t):ZA c e:=by
 obtain⟨U,V,h⟩:=h;obtain⟨u,hu⟩:=h1;refine⟨Sy (G8 U e) (G8 V u),λt=>?_⟩;rw[G0,Fi,Fi];have a1:=h t;have a2:=hu t;have:ev e t=(ev U t*ev c t+ev V t*ev d t)*ev e t:=by rw[a1];grind
 rw[this];have:(ev U t*ev c t+ev V t*ev d t)*ev e t=ev U t*ev c t*ev e t+ev V t*(ev d t*ev e t):=by grind
 rw[this,a2];grind
def EM(d:Up):Nat->Up
 | 0=>[1]
 |k+1=>G8 d (EM d k)
theorem cT(d:Up)(t:Rat):∀k:Nat,ev d t*dv (EM d k) t=(k:Rat)*(dv d t*ev (EM d k) t)
 | 0=>by simp only[EM,dv,ev];rw[show((0:Nat):Rat)=0 from rfl];grind
 |
  k+1=>by
  have ih:=cT d t k;have hn':(((k+1:Nat):Rat))=(k:Rat)+1:=by push_cast;rfl
  simp only[EM];rw[jM,Fi,hn'];grind
theorem Qj8{d:Up}{m:Nat}(h:HD d m):∀k,HD (EM d k) (k*m)
 | 0=>by rw[Yl];exact⟨by simp[EM],λk hk=>by simp only[EM];rw[Qi,Qw (by simp;omega)];rfl⟩
 |k+1=>by rw[Xa,Ju (k*m) m];exact LJ h (Qj8 h k)
theorem zY{d g:Up}{m n:Nat}(hd:HD d m)(hg:HD g n)(h:∀k,ZA (EM d k) g):m=0:=by
 obtain⟨u,hu⟩:=h (n+1);rcases LX u with h1|⟨j,_,h1⟩
 ·exact absurd (λt=>by rw[hu,h1];grind) (aN hg)
 ·have:=Qsn (Qsm (λt=>by rw[hu,Fi]) hg) (LJ (Qj8 hd (n+1)) h1);rcases Q3 m with e|e
  ·exact e
  ·have:(n+1)*1<=(n+1)*m:=Zu _ e;omega
theorem sqf{a g q d U V:Up}{k:Rat}(hk:k≠0)(ha:∀t,ev a t=ev g t*ev q t)(hg:∀t,k*ev g t=ev U t*ev a t+ev V t*dv a t)(h1:ZA d q)(h2:ZA d (Bs q)):∀n,ZA (EM d n) g
 | 0=>⟨g,λt=>by simp only[EM];rw[Tg];grind⟩
 |
  n+1=>by
  obtain⟨g1,e1⟩:=sqf hk ha hg h1 h2 n;obtain⟨q1,e2⟩:=h1;obtain⟨q2,e3⟩:=h2;have d1:=λt=>QB ha t
  have d2:=λt=>QB e1 t
  have d3:=λt=>QB e2 t
  have d4:=cT d;refine⟨D9 (1 / k) (Sy (G8 U (G8 g1 q1)) (G8 V (Sy (G8 g1 q2) (Sy (D9 n (G8 g1 (Sy q2 (D9 (-1) (Bs q1))))) (G8 (Bs g1) q1))))),λt=>?_⟩;have hkk:1 / k*k=1:=Zj hk;simp only[EM,Gu,G0,Fi,Tt];have b1:=ha t;have b2:=hg t;have b3:=e1 t;have b4:=e2 t;have b5:=e3 t;have b6:=d1 t;have b7:=d2 t;have b8:=d3 t;have b9:=d4 t n;rw[Tt]at b5;generalize ev d t=x0 at *;generalize ev (EM d n) t=x1 at *;generalize ev g t=x2 at *;generalize ev q t=x3 at *;generalize ev a t=x4 at *;generalize dv a t=x5 at *;generalize dv g t=x6 at *;generalize dv q t=x7 at *;generalize ev g1 t=x8 at *;generalize dv g1 t=x9 at *;generalize ev q1 t=y0 at *;generalize dv q1 t=y1 at *;generalize ev q2 t=y2 at *;generalize dv d t=y3 at *;generalize dv (EM d n) t=y4 at *;generalize ev U t=y5 at *;generalize ev V t=y6 at *;generalize (n:Rat)=y7 at *;have:x2=1 / k*(k*x2):=by grind
  rw[this,b2];have c1:x5=x0*x1*(x8*y2+(y7*(x8*(y2+-1*y1))+x9*y0)):=by
   rw[b6,b7,b4,b3];have:y3*y0=x0*y2-x0*y1:=by grind
   have:x0*y4*(x8*y0)=y7*(x1*x8*(x0*y2-x0*y1)):=by rw[b9,<-this];grind
   grind
  have c2:x4=x0*x1*(x8*y0):=by rw[b1,b3,b4];grind
  rw[c1,c2];grind
theorem Qok{a b c:Up}(h1:Cop a b)(h2:Cop a c){d:Up}(hd:∀t,ev d t=ev b t*ev c t):Cop a d:=by
 obtain⟨U,V,h1⟩:=h1;obtain⟨X,Y,h2⟩:=h2;refine⟨Sy U (G8 (G8 V b) X),G8 V Y,λt=>?_⟩;have a1:=h1 t;have a2:=h2 t;simp only[G0,Fi,hd];have:ev V t*ev b t*(ev X t*ev a t+ev Y t*ev c t)=ev V t*ev b t:=by rw[a2];grind
 grind
theorem Qq3{a g q z r X Y:Up}{n:Nat}(ha:∀t,ev a t=ev g t*ev q t)(hz:∀t,dv a t=ev g t*ev z t)(hg:HD g n)(hr:∀t,ev X t*ev r t+ev Y t*dv r t=1)(h:ZA r a):ZA r q:=by
 obtain⟨b,hb⟩:=h;obtain⟨e,U,V,⟨r1,e1⟩,⟨q3,e2⟩,e3⟩:=Qh2 r q;have hr0:¬∀t,ev r t=0:=λh=>by
  have h1:=hr 0;have h2:dv r 0=0:=by have:=Qhd (p:=r) (q:=[]) h 0;rw[this];rfl
  rw[h,h2]at h1;grind
 have he0:¬∀t,ev e t=0:=λh=>hr0 λt=>by rw[e1,h];grind
 have d1:=λt=>QB e1 t
 have c1:Cop r1 q3:=⟨U,V,λt=>by
  have:=mD (p:=e) (q:=Sy (G8 U r1) (G8 V q3)) (r:=[1]) he0 (λt=>by
   rw[G0,Fi,Fi,Tg];have a1:=e1 t;have a2:=e2 t;have a3:=e3 t;rw[a1,a2]at a3;grind) t
  rw[G0,Fi,Fi,Tg]at this;exact this⟩
 have c2:Cop r1 e:=⟨Sy (G8 X e) (G8 Y (Bs e)),G8 Y (Bs r1),λt=>by
  have a1:=hr t;have a2:=e1 t;have a3:=d1 t;simp only[G0,Fi,Tt];rw[a2,a3]at a1;grind⟩
 have c3:Cop r1 (Bs r1):=⟨Sy (G8 X e) (G8 Y (Bs e)),G8 Y e,λt=>by
  have a1:=hr t;have a2:=e1 t;have a3:=d1 t;simp only[G0,Fi,Tt];rw[a2,a3]at a1;grind⟩
 have c4:Cop r1 q:=Qok c2 c1 e2;have hgz:=aN hg;have hp:∀k,ZA (EM r1 k) g:=λk=>by
  induction k with
  |zero=>exact⟨g,λt=>by simp only[EM];rw[Tg];grind⟩
  |
   succ k ih =>
   obtain⟨h,eh⟩:=ih;have hpz:¬∀t,ev (EM r1 k) t=0:=λh0=>hgz λt=>by rw[eh,h0];grind
   have key:ZA r1 h:=by
    cases k with
    |
     zero =>
     refine jH c4 ⟨G8 e b,λt=>?_⟩;have a1:=ha t;have a2:=hb t;have a3:=e1 t;have a4:=eh t;simp only[EM]at a4;rw[Tg]at a4;rw[Fi];grind
    |
     succ k =>
     have hn:((k+1:Nat):Rat)≠0:=by
      have:(0:Rat)<((k+1:Nat):Rat):=by
       have h1:((0:Nat):Rat)<((k+1:Nat):Rat):=Vp.2 (by omega);simpa using h1
      grind
     have d2:=λt=>QB (f:=a) (w:=EM r1 (k+1)) (u:=G8 h q) (λt=>by rw[ha,eh,Fi];grind) t
     have d4:=cT r1;have h3:=mD (p:=EM r1 (k+1)) (q:=G8 (Bs r1) (G8 h q)) (r:=G8 r1 (D9 (1 / ((k+1:Nat):Rat)) (Sy (G8 h z) (D9 (-1) (Bs (G8 h q)))))) hpz λt=>by
      simp only[Fi,Gu,G0,Tt];have a1:=d2 t;have a2:=d4 t (k+1);have a3:=hz t;have a4:=eh t;rw[Fi]at a1;generalize ((k+1:Nat):Rat)=c at *;have hc:1 / c*c=1:=Zj hn;generalize ev (EM r1 (k+1)) t=x0 at *;generalize dv (EM r1 (k+1)) t=x1 at *;generalize dv (G8 h q) t=x2 at *;generalize ev r1 t=x3 at *;generalize dv r1 t=x4 at *;generalize ev h t=x5 at *;generalize ev q t=x6 at *;generalize ev z t=x7 at *;generalize dv a t=x8 at *;generalize ev g t=x9 at *;generalize 1 / c=c' at *;have s1:x0*(x4*(x5*x6))=c'*(c*(x4*x0))*(x5*x6):=by
       have:c'*(c*(x4*x0))=(c'*c)*(x4*x0):=by grind
       rw[this,hc];grind
      rw[s1,<-a2];have s2:x3*(x1*(x5*x6))=x3*(x0*(x5*x7+-1*x2)):=by
       rw[a3,a4]at a1;grind
      grind
     refine jH c4 ?_;obtain⟨u,hu⟩:=jH (e:=G8 q h) c3 ⟨D9 (1 / ((k+1:Nat):Rat)) (Sy (G8 h z) (D9 (-1) (Bs (G8 h q)))),λt=>by
      have:=h3 t;simp only[Fi]at this ⊢;rw[<-this];grind⟩
     exact⟨u,λt=>by rw[<-hu,Fi]⟩
   obtain⟨u,hu⟩:=key;exact⟨u,λt=>by simp only[EM];rw[Fi,eh,hu];grind⟩
 rcases LX r1 with h1|⟨m,_,h1⟩
 ·exact absurd (λt=>by rw[e1,h1];grind) hr0
 ·obtain rfl:=zY h1 hg hp;have h2:∀t,ev r1 t=r1.getD 0 0:=λt=>by
   cases r1 with
   |nil=>simp[ev]
   |
    cons c l =>
    have:∀t,ev l t=0:=Lf λk=>by have:=h1.2 (k+1) (by omega);rwa[Q4]at this
    simp only[ev,this,Zt];grind
  have h3:=h1.1;refine⟨D9 (1 / r1.getD 0 0) q3,λt=>?_⟩;rw[e2,e1,h2,Gu];have:1 / r1.getD 0 0*r1.getD 0 0=1:=Zj h3;have:ev e t*r1.getD 0 0*(1 / r1.getD 0 0*ev q3 t)=ev e t*ev q3 t*(1 / r1.getD 0 0*r1.getD 0 0):=by grind
  rw[this,Zj h3];grind
def Ou:Uq->Up
 | []=>[1]
 |w::l=>G8 w (Ou l)
def Lay:Uq->Uq->Prop
 | [],[]=>True
 | [w],[f]=>∀t,ev w t=ev f t
 |w::v::l,f::fs=>(∀t,ev w t=ev f t*ev v t)/\Lay (v::l) fs
 |_,_=>False
def PI:Uq->Up
 | []=>[1]
 | [f]=>f
 |f::_::l=>G8 f (PI l)
theorem iJ:∀{ws fs:Uq},Lay ws fs->∃S,∀t,ev (Ou ws) t=ev (PI fs) t*(ev S t*ev S t)
 | [],[],_=>⟨[1],λt=>by simp only[Ou,PI];rw[Tg];grind⟩
 | [w],[f],h=>⟨[1],λt=>by simp only[Ou,PI];rw[Fi,Tg,h t];grind⟩
 |
  [w,v],[f,f2],h=>⟨v,λt=>by
  have h1:=h.1 t;have h2:ev v t=ev f2 t:=h.2 t;simp only[Ou,PI,Fi];rw[Tg,h1];grind⟩
 |
  w::v::x::l,f::f2::fs,h=>by
  obtain⟨S,hS⟩:=iJ h.2.2;refine⟨G8 v S,λt=>?_⟩;have h1:=h.1 t;have h2:=hS t;have e1:ev (Ou (w::v::x::l)) t=ev w t*(ev v t*ev (Ou (x::l)) t):=by simp only[Ou,Fi]
  rw[e1,h2,h1];have e2:ev (PI (f::f2::fs)) t=ev f t*ev (PI fs) t:=by
   cases fs with
   |nil=>cases l <;> exact False.elim h.2.2
   |cons y l=>simp only[PI,Fi]
  rw[e2,Fi];grind
 | [w],[],h=>h.elim
 | [w],_::_::_,h=>h.elim
 | [],_::_,h=>h.elim
 | [w,v],[f],h=>h.2.elim
 | [w,v],_::_::_::_,h=>h.2.elim
 |w::v::x::l,[f],h=>h.2.elim
 |w::v::l,[],h=>h.elim
end Orq
namespace Orq
open Orr Go
theorem cQ(p:Um)(t:Rat):Fa p t=((p.getD 0 0:Int):Rat)+t*Fa p.tail t:=by
 cases p with
 |nil=>show(0:Rat)=((0:Int):Rat)+t*0;grind
 |cons a p=>rfl
theorem RP(p:Um)(k:Nat):p.tail.getD k 0=p.getD (k+1) 0:=by
 cases p <;> simp
theorem Cx(c d:Int)(t:Rat):∀(n:Nat) (p q r:Um),p.length<=n->q.length<=n->r.length<=n->(∀k,r.getD k 0=c*p.getD k 0+d*q.getD k 0)->Fa r t=(c:Rat)*Fa p t+(d:Rat)*Fa q t
 |
  0,p,q,r,hp,hq,hr,_=>by
  rw[Qj (Nat.le_zero.1 hp),Qj (Nat.le_zero.1 hq),Qj (Nat.le_zero.1 hr)];show(0:Rat)=_*0+_*0;grind
 |
  n+1,p,q,r,hp,hq,hr,h=>by
  have ih:=Cx c d t n p.tail q.tail r.tail (by rw[Wz];omega) (by rw[Wz];omega) (by rw[Wz];omega) λk=>by
   rw[RP,RP,RP];exact h (k+1)
  rw[cQ p,cQ q,cQ r,ih,h 0]
  push_cast
  grind
theorem oK{p q:Um}(h:∀k,p.getD k 0=q.getD k 0)(t:Rat):Fa p t=Fa q t:=by
 have:=Cx 1 0 t (max p.length q.length) q q p (W3 ..) (W3 ..) (Nat.le_max_left ..) λk=>by rw[h k];omega
 rw[this]
 push_cast
 grind
theorem Oy(p:Um)(t:Rat):Fa (trim p) t=Fa p t:=oK (VG p) t
theorem Bj{p:Um}{k:Nat}(h:p.length<=k):p.getD k 0=0:=by
 rw[Qi,Qw h];rfl
theorem qI(p q:Um)(k:Nat):(A8 p q).getD k 0=p.getD k 0+q.getD k 0:=by
 unfold A8;rw[Pf]
 split
 ·rfl
 ·rename_i h;rw[Bj (p:=p) (by omega),Bj (p:=q) (by omega)];rfl
theorem O6(p q:Um)(k:Nat):(Nf p q).getD k 0=p.getD k 0-q.getD k 0:=by
 unfold Nf;rw[Pf]
 split
 ·rfl
 ·rename_i h;rw[Bj (p:=p) (by omega),Bj (p:=q) (by omega)];rfl
theorem Mj(p:Um)(c:Int)(k:Nat):(Fq p c).getD k 0=p.getD k 0*c:=by
 unfold Fq;rw[Pf]
 split
 ·rfl
 ·rename_i h;rw[Bj (p:=p) (by omega),Int.zero_mul]
theorem Qdb(p:Um)(k:Nat):(My p).getD k 0=-(p.getD k 0):=by
 unfold My;rw[Pf]
 split
 ·rfl
 ·rename_i h;rw[Bj (p:=p) (by omega)];rfl
theorem B6(p:Um)(k:Nat):(Gx p).getD k 0=p.getD (k+1) 0*((k+1:Nat):Int):=by
 unfold Gx;rw[Pf]
 split
 ·rfl
 ·rename_i h;rw[Bj (p:=p) (by omega),Int.zero_mul]
theorem EX(p q:Um)(t:Rat):Fa (A8 p q) t=Fa p t+Fa q t:=by
 have:=Cx 1 1 t (max (max p.length q.length) (A8 p q).length) p q (A8 p q) (by omega) (by omega) (by omega) λk=>by rw[qI];omega
 rw[this];push_cast;grind
theorem Np(p q:Um)(t:Rat):Fa (Nf p q) t=Fa p t-Fa q t:=by
 have:=Cx 1 (-1) t (max (max p.length q.length) (Nf p q).length) p q (Nf p q) (by omega) (by omega) (by omega) λk=>by rw[O6];omega
 rw[this];push_cast;grind
theorem GZ(p:Um)(t:Rat):Fa (My p) t=-Fa p t:=by
 have:=Cx (-1) 0 t (max p.length (My p).length) p p (My p) (by omega) (by omega) (by omega) λk=>by rw[Qdb];omega
 rw[this];push_cast;grind
theorem Rq(p:Um)(c:Int)(t:Rat):Fa (Fq p c) t=Fa p t*(c:Rat):=by
 have:=Cx c 0 t (max p.length (Fq p c).length) p p (Fq p c) (by omega) (by omega) (by omega) λk=>by rw[Mj,K8];omega
 rw[this];push_cast;grind
theorem vZ:∀(l:Um) (j:Nat) (v:Int) (t:Rat),j<l.length->Fa (l.set j v) t=Fa l t+((v:Rat)-((l.getD j 0:Int):Rat))*t^j
 | [],_,_,_,h=>by simp at h
 |
  a::l,0,v,t,_=>by
  show(v:Rat)+t*Fa l t=(a:Rat)+t*Fa l t+((v:Rat)-(a:Rat))*t^0;rw[Xg];grind
 |
  a::l,j+1,v,t,h=>by
  have ih:=vZ l j v t (by simpa using h);show(a:Rat)+t*Fa (l.set j v) t=(a:Rat)+t*Fa l t+((v:Rat)-((l.getD j 0:Int):Rat))*t^(j+1);rw[ih,Z7];grind
theorem EJ:∀(l:Um) (k:Nat) (t:Rat),k<l.length->Fa (l.take (k+1)) t=Fa (l.take k) t+((l.getD k 0:Int):Rat)*t^k
 | [],_,_,h=>by simp at h
 |
  a::l,0,t,_=>by
  show(a:Rat)+t*Fa (l.take 0) t=0+(a:Rat)*t^0;rw[Xg,Vv];show(a:Rat)+t*0=_;grind
 |
  a::l,k+1,t,h=>by
  have ih:=EJ l k t (by simpa using h);show(a:Rat)+t*Fa (l.take (k+1)) t=(a:Rat)+t*Fa (l.take k) t+((l.getD k 0:Int):Rat)*t^(k+1);rw[ih,Z7];grind
theorem zZ(n:Nat)(t:Rat):Fa (List.replicate n 0) t=0:=by
 induction n with
 |zero=>rfl
 |
  succ n ih =>
  show((0:Int):Rat)+t*Fa (List.replicate n 0) t=0;rw[ih];push_cast;grind
theorem tD(t:Rat)(i:Nat):∀k,t^(i+k)=t^i*t^k
 | 0=>by rw[Xn,Xg];grind
 |k+1=>by rw[<-Yp,Z7,Z7,tD t i k];grind
theorem rN(x:Int)(b:Um)(i:Nat)(o:Um)(t:Rat):∀k,k<=b.length->i+k<=o.length->Fa (Oo x b i o k) t=Fa o t+(x:Rat)*t^i*Fa (b.take k) t
 |
  0,_,_=>by
  show Fa o t=Fa o t+(x:Rat)*t^i*0;grind
 |
  k+1,h1,h2=>by
  have ih:=rN x b i o t k (by omega) (by omega);simp only[Oo];rw[vZ _ _ _ _ (by rw[Oq];omega),ih,EJ b k t (by omega)];have hp:t^(i+k)=t^i*t^k:=tD t i k;rw[hp]
  push_cast
  grind
theorem rM(a b o:Um)(t:Rat):∀i,i<=a.length->i+b.length<=o.length+1->Fa (Aw a b o i) t=Fa o t+Fa (a.take i) t*Fa b t
 |
  0,_,_=>by
  show Fa o t=Fa o t+0*Fa b t;grind
 |
  i+1,h1,h2=>by
  have ih:=rM a b o t i (by omega) (by omega);simp only[Aw];rw[rN _ _ _ _ _ b.length (Ql _) (by rw[Ll];omega),ih,EJ a i t (by omega),Q6];grind
theorem Gl(a b:Um)(t:Rat):Fa (Gm a b) t=Fa a t*Fa b t:=by
 unfold Gm
 split
 ·rename_i h;rcases h with h|h
  ·rw[Qj h];show(0:Rat)=0*_;grind
  ·rw[Qj h];show(0:Rat)=_*0;grind
 ·rename_i h;rw[Oy,rM a b _ t a.length (Ql _) (by rw[Jg];omega),zZ,Q6];grind
theorem Ra(z d:Int):(z:Rat) / (d:Rat)=Rat.divInt z d:=by
 by_cases h:d=0
 ·subst h;simp;grind
 ·rw[J6];exact(Rat.divInt_eq_div z d ▸ by rw[J6])
theorem Qaw(a:Um)(n d:Int)(hd:(d:Rat)≠0):∀k,k<=a.length->(((Ef a n d k).2:Int):Rat)=(d:Rat)^k/\(((Ef a n d k).1:Int):Rat)*d=(d:Rat)^k*Fa (a.drop (a.length-k)) ((n:Rat) / d)
 |
  0,_=>by
  refine⟨by rw[Xg];rfl,?_⟩;rw[W5,Yt];show((0:Int):Rat)*d=(d:Rat)^0*0
  push_cast;grind
 |
  k+1,hk=>by
  obtain⟨h1,h2⟩:=Qaw a n d hd k (by omega);have hi:a.length-1-k<a.length:=by omega
  have e1:a.drop (a.length-(k+1))=a.getD (a.length-1-k) 0::a.drop (a.length-k):=by
   rw[show a.length-(k+1)=a.length-1-k by omega,Zp hi,show a.length-1-k+1=a.length-k by omega];congr 1;rw[Qi,Qe hi];rfl
  refine⟨?_,?_⟩
  ·show(((Ef a n d k).2*d:Int):Rat)=_;rw[X1,h1,Z7]
  ·rw[e1];show(((Ef a n d k).1*n+a.getD (a.length-1-k) 0*(Ef a n d k).2:Int):Rat)*d=_*(((a.getD (a.length-1-k) 0:Int):Rat)+(n:Rat) / d*Fa (a.drop (a.length-k)) ((n:Rat) / d));rw[Kc,X1,X1,h1,Z7];have h3:(n:Rat) / d*d=n:=by rw[Zj hd]
   have h4:(d:Rat)^k*d*((n:Rat) / d*Fa (a.drop (a.length-k)) ((n:Rat) / d))=((n:Rat) / d*d)*((d:Rat)^k*Fa (a.drop (a.length-k)) ((n:Rat) / d)):=by grind
   have h5:(d:Rat)^k*d*(((a.getD (a.length-1-k) 0:Int):Rat)+(n:Rat) / d*Fa (a.drop (a.length-k)) ((n:Rat) / d))=(d:Rat)^k*d*((a.getD (a.length-1-k) 0:Int):Rat)+(d:Rat)^k*d*((n:Rat) / d*Fa (a.drop (a.length-k)) ((n:Rat) / d)):=by grind
   rw[h5,h4,h3,<-h2];grind
theorem oR{d:Rat}(h:0<d):∀k:Nat,0<d^k
 | 0=>by rw[Xg];decide
 |k+1=>by rw[Z7];exact Xs (oR h k) h
theorem C9{x y:Rat}(h:0<y):Fh (y*x)=Fh x:=by
 unfold Fh;have h1:y*x<0↔x<0:=by
  constructor
  ·intro h2;rcases Vx (a:=0) (b:=x)with h3|h3
   ·have:=Vy (Qt h) h3;grind
   ·rcases Rat.le_iff_lt_or_eq.1 h3 with h4|h4
    ·exact h4
    ·rw[h4]at h2;grind
  ·intro h2;have:=Xs h (show 0 < -x by grind);grind
 have h2:0<y*x↔0<x:=by
  constructor
  ·intro h2;rcases Vx (a:=x) (b:=0)with h3|h3
   ·have:=Vy (Qt h) (show 0<=-x by grind);grind
   ·rcases Rat.le_iff_lt_or_eq.1 h3 with h4|h4
    ·exact h4
    ·rw[<-h4]at h2;grind
  ·intro h2;exact Xs h h2
 simp only[h1,h2]
theorem Qgz(z:Int):Ld z 0=Fh (z:Rat):=by
 unfold Ld Fh;have h1:((z:Int):Rat)<0↔z<0:=by
  have := @Rat.intCast_lt_intCast z 0;simpa using this
 have h2:0<((z:Int):Rat)↔0<z:=by
  have := @Rat.intCast_lt_intCast 0 z;simpa using this
 simp only[h1,h2]
theorem Ns(p:Um)(q:Rat):Re p q=Fh (Fa p q):=by
 have hd0:(0:Rat)<((q.den:Int):Rat):=by
  have := @Rat.intCast_lt_intCast 0 (q.den:Int);rw[show((0:Int):Rat)=0 from rfl]at this;exact this.2 (den_pos q)
 have hd:((q.den:Int):Rat)≠0:=by intro h;rw[h]at hd0;exact absurd hd0 (by decide)
 obtain⟨_,h⟩:=Qaw p q.num q.den hd p.length (Ql _);rw[Ki,Xy,Ra,Z5]at h;unfold Re;rw[Qgz,<-C9 hd0,W7];show Fh ((((Ef p q.num q.den p.length).1:Int):Rat)*_)=_;rw[h,C9 (oR hd0 _)]
def cz(p:Um):Up:=p.map λz:Int=>(z:Rat)
theorem Fb(t:Rat):∀p,ev (cz p) t=Fa p t
 | []=>rfl
 |a::p=>by have:=Fb t p;simp only[cz,Z0,ev,Fa]at *;rw[this]
theorem Mv:∀(p:Um) (k:Nat),(cz p).getD k 0=((p.getD k 0:Int):Rat)
 | [],k=>by simp[cz]
 |a::p,0=>by simp[cz]
 |a::p,k+1=>by have:=Mv p k;simp only[cz,Z0,Q4]at *;exact this
theorem Ls{p q:Um}(h:∀t,Fa p t=Fa q t)(k:Nat):p.getD k 0=q.getD k 0:=by
 have:=D4 (p:=cz p) (q:=cz q) (λt=>by rw[Fb,Fb,h]) k;rw[Mv,Mv]at this
 exact_mod_cast this
theorem Qrb{p q:Um}(hp:Fg p)(hq:Fg q)(h:∀k,p.getD k 0=q.getD k 0):p=q:=by
 have key:∀{p q:Um},Fg p->Fg q->(∀k,p.getD k 0=q.getD k 0)->p.length<=q.length:=λ{p q} hp hq h=>by
  rcases Zb q.length p.length with e|e
  ·have:=H6 hp (by omega);rw[h,Qi,Qw (by omega)]at this;exact absurd rfl this
  ·exact e
 exact DK (Kb (key hp hq h) (key hq hp λk=>(h k).symm)) λj _=>h j
theorem oW{p q:Um}(hp:Fg p)(hq:Fg q)(h:∀t,Fa p t=Fa q t):p=q:=Qrb hp hq (Ls h)
theorem Qp4{p:Um}(hp:Fg p)(h:∀t,Fa p t=0):p=[]:=oW hp rfl λt=>by rw[h];rfl
theorem D7{p:Um}(h:p.length=0)(t:Rat):Fa p t=0:=by rw[Qj h];rfl
theorem oV:∀(p r:Um) (t:Rat),(∀k,r.getD k 0=p.getD (k+1) 0*((k+1:Nat):Int))->Fa r t=dv (cz p) t
 |
  [],r,t,h=>by
  rw[oK (q:=[]) (λk=>by rw[h];simp) t];rfl
 |
  a::p,r,t,h=>by
  have ih:=oV p (Gx p) t λk=>B6 p k
  have e:Fa r t=Fa p t+t*Fa (Gx p) t:=by
   have:=Cx 1 1 t (max (max p.length (0::Gx p).length) r.length) p (0::Gx p) r (by omega) (by omega) (by omega) λk=>by
    rw[h,Q4];cases k with
    |zero=>simp
    |succ k=>rw[Q4,B6];push_cast;grind
   rw[this];simp only[Fa];push_cast;grind
  rw[e,ih];show _=ev (cz p) t+t*dv (cz p) t;rw[Fb]
theorem Ox(p:Um)(t:Rat):Fa (Gx p) t=dv (cz p) t:=oV p _ t λk=>B6 p k
theorem SC{p:Um}(hp:Fg p)(h:0<p.length):HD (cz p) (p.length-1):=by
 refine⟨?_,λk hk=>?_⟩
 ·rw[Mv];have:=H6 hp h;exact λe=>this (by exact_mod_cast e)
 ·rw[Mv,Qi,Qw (by omega)];rfl
theorem SH{p:Um}(hp:Fg p)(h:0<p.length):¬∀t,Fa p t=0:=λh0=>by
 rw[Qp4 hp h0]at h;exact absurd h (by simp)
theorem Mx{a b c:Um}(ha:Fg a)(hb:Fg b)(hc:Fg c)(h:∀t,Fa c t=Fa a t*Fa b t)(la:0<a.length)(lb:0<b.length):c.length=a.length+b.length-1:=by
 have h1:=LJ (SC ha la) (SC hb lb);have h2:HD (cz c) (a.length-1+(b.length-1)):=Qsm (λt=>by rw[Fi,Fb,Fb,Fb,h]) h1;have lc:0<c.length:=by
  rcases Q3 c.length with e|e
  ·exact absurd (λt=>by rw[Fb];exact D7 e t) (aN h2)
  ·exact e
 have:=Qsn (SC hc lc) h2;omega
theorem rI:∀(n m:Nat),m<=n->2<=m->∃P,2<=P/\P∣m/\∀d,2<=d->d∣P->d=P
 | 0,m,h,h2=>by omega
 |
  n+1,m,h,h2=>by
  rcases Classical.em (∃d,2<=d/\d<m/\d∣m)with⟨d,d1,d2,d3⟩|h0
  ·obtain⟨P,p1,p2,p3⟩:=rI n d (by omega) d1;exact⟨P,p1,Nat.dvd_trans p2 d3,p3⟩
  ·refine⟨m,h2,Nat.dvd_refl m,λd d1 d2=>?_⟩;rcases Vm (Kv (by omega) d2)with e|e
   ·exact absurd ⟨d,d1,e,d2⟩ h0
   ·exact e
theorem jD{P:Nat}(h2:2<=P)(hP:∀d,2<=d->d∣P->d=P){x y:Int}(h:(P:Int)∣x*y):(P:Int)∣x\/(P:Int)∣y:=by
 have h:=X4.2 h;rw[J9,Xh]at h;have hg:=W0 P x.natAbs;rcases Zb (Nat.gcd P x.natAbs) 2 with e|e
 ·right;have h1:Nat.gcd P x.natAbs=1:=by
   have:=Nat.gcd_pos_of_pos_left x.natAbs (show 0<P by omega);omega
  have:=Nat.Coprime.dvd_of_dvd_mul_left h1 h;exact X4.1 (by rwa[Xh])
 ·left;have:=hP _ e hg;have h3:=Nat.gcd_dvd_right P x.natAbs;rw[this]at h3;exact X4.1 (by rwa[Xh])
def pV(P:Int)(l:Um):Prop:=∀k,P∣l.getD k 0
theorem HG{P:Nat}(h2:2<=P)(hP:∀d,2<=d->d∣P->d=P):∀(n:Nat) (b h c:Um),b.length+h.length<=n->(∀t,Fa c t=Fa b t*Fa h t)->pV P c->pV P b\/pV P h
 |_,[],h,c,_,_,_=>.inl λk=>by simp
 |_,x::b,[],c,_,_,_=>.inr λk=>by simp
 | 0,x::b,y::h,c,hn,_,_=>by simp at hn
 |
  n+1,x::b,y::h,c,hn,hc,hd=>by
  simp only[Q5]at hn;by_cases hx:(P:Int)∣x
  ·-- x h is taken away
   have e:∀t,Fa (0::Gm b (y::h)) t=Fa (Nf c (Fq (y::h) x)) t:=λt=>by
    rw[Np,Rq,hc];simp only[Fa];rw[Gl];simp only[Fa];push_cast;grind
   have hd':pV P (Gm b (y::h)):=λk=>by
    have:=Ls e (k+1);rw[Q4,O6,Mj]at this;rw[this];exact Int.dvd_sub (hd (k+1)) (V6 hx (Vb _ _))
   rcases HG h2 hP n b (y::h) _ (by simp only[Q5];omega) (λt=>Gl _ _ t) hd' with h1|h1
   ·refine .inl λk=>?_
    cases k with
    |zero=>rw[Zt];exact hx
    |succ k=>rw[Q4];exact h1 k
   ·exact .inr h1
  ·have h0:(P:Int)∣y:=by
    have e:c.getD 0 0=x*y:=by
     have:=Ls (p:=c) (q:=Gm (x::b) (y::h)) (λt=>by rw[hc,Gl]) 0;have e2:=Ls (p:=Gm (x::b) (y::h)) (q:=A8 (Fq (y::h) x) (0::Gm b (y::h))) (λt=>by
      rw[EX,Rq,Gl];simp only[Fa];rw[Gl];simp only[Fa];push_cast;grind) 0
     rw[this,e2,qI,Mj,Zt,Zt,K8];omega
    have:=hd 0;rw[e]at this;rcases jD h2 hP this with h1|h1
    ·exact absurd h1 hx
    ·exact h1
   have e:∀t,Fa (0::Gm (x::b) h) t=Fa (Nf c (Fq (x::b) y)) t:=λt=>by
    rw[Np,Rq,hc];simp only[Fa];rw[Gl];simp only[Fa];push_cast;grind
   have hd':pV P (Gm (x::b) h):=λk=>by
    have:=Ls e (k+1);rw[Q4,O6,Mj]at this;rw[this];exact Int.dvd_sub (hd (k+1)) (V6 h0 (Vb _ _))
   rcases HG h2 hP n (x::b) h _ (by simp only[Q5];omega) (λt=>Gl _ _ t) hd' with h1|h1
   ·exact absurd (by have:=h1 0;rwa[Zt]at this) hx
   ·refine .inr λk=>?_
    cases k with
    |zero=>rw[Zt];exact h0
    |succ k=>rw[Q4];exact h1 k
def Prm(b:Um):Prop:=∀d:Int,pV d b->d∣1
theorem Qhy{a b:Um}(hb:Prm b):∀(n:Nat) (c:Int) (h:Um),c.natAbs<=n->c≠0->(∀t,(c:Rat)*Fa a t=Fa b t*Fa h t)->∃h',∀t,Fa a t=Fa b t*Fa h' t
 | 0,c,h,hn,h0,_=>absurd (by omega) h0
 |
  n+1,c,h,hn,h0,hc=>by
  rcases Zb c.natAbs 2 with h1|h1
  ·refine⟨Fq h c,λt=>?_⟩;have hcc:(c:Rat)*c=1:=by
    have:c*c=1:=by
     rcases(show c=1\/c=-1 by omega)with rfl|rfl <;> rfl
    have:=congrArg (λz:Int=>(z:Rat)) this
    push_cast at this;exact this
   rw[Rq];have:=hc t;have:Fa a t=(c:Rat)*((c:Rat)*Fa a t):=by
    have:(c:Rat)*((c:Rat)*Fa a t)=((c:Rat)*c)*Fa a t:=by grind
    rw[this,hcc];grind
   rw[this,hc];grind
  ·obtain⟨P,p1,p2,p3⟩:=rI c.natAbs c.natAbs (Ql _) h1;obtain⟨d,hd⟩:∃d,c=(P:Int)*d:=Wp.2 p2;have hall:pV P (Fq a c):=λk=>by
    rw[Mj,hd];exact V6 (Int.dvd_mul_right _ _) (Vb _ _)
   have hP0:(P:Rat)≠0:=by
    have:((0:Nat):Rat)<(P:Rat):=Vp.2 (by omega);grind
   rcases HG p1 p3 _ b h (Fq a c) (Ql _) (λt=>by rw[Rq,W7,hc]) hall with e|e
   ·have:=hb P e;have:=X4.2 this;rw[Xh]at this;have:=Kv (by decide) this;exact absurd this (by show ¬P<=1;omega)
   ·refine Qhy hb n d (h.map (· / (P:Int))) ?_ (λe0=>h0 (by rw[hd,e0,Wa])) λt=>?_
    ·rw[hd,J9,Xh]at hn h1;have:2*d.natAbs<=P*d.natAbs:=Q0 _ p1;omega
    ·have e1:Fa h t=(P:Rat)*Fa (h.map (· / (P:Int))) t:=by
      have:=Cx P 0 t (max h.length (h.map (· / (P:Int))).length) (h.map (· / (P:Int))) [] h (by omega) (by simp) (by omega) λk=>by
       have:=e k;have e2:(h.map (· / (P:Int))).getD k 0=h.getD k 0 / (P:Int):=by
        rw[Qi,Qi,Q7];cases h[k]? <;> simp
       rw[e2,K9 this];simp
      rw[this];simp only[Fa];push_cast;grind
     have:=hc t;rw[hd,e1]at this
     push_cast at this
     have h3:(P:Rat)*((d:Rat)*Fa a t)=(P:Rat)*(Fa b t*Fa (h.map (· / (P:Int))) t):=by grind
     have h4:=Y3.1 (show(P:Rat)*((d:Rat)*Fa a t-Fa b t*Fa (h.map (· / (P:Int))) t)=0 by grind);rcases h4 with h4|h4
     ·exact absurd h4 hP0
     ·grind
theorem OJ:∀u:Up,∃c:Int,c≠0/\∃h:Um,∀t,(c:Rat)*ev u t=Fa h t
 | []=>⟨1,by decide,[],λt=>by simp only[ev,Fa];grind⟩
 |
  a::u=>by
  obtain⟨c,hc,h,hh⟩:=OJ u;refine⟨c*(a.den:Int),X7 hc (by have:=a.den_nz;omega),(c*a.num)::Fq h (a.den:Int),λt=>?_⟩;have e:(a.den:Rat)*a=a.num:=by
   rw[W7];have:(a.num:Rat) / (((a.den:Int)):Rat)=a:=by rw[Ra,Z5]
   have hd:(a.den:Rat)≠0:=by
    have:((0:Nat):Rat)<(a.den:Rat):=Vp.2 a.den_pos;grind
   have h2:(a.num:Rat) / (a.den:Rat)*(a.den:Rat)=a.num:=Zj hd;rw[show(a.num:Rat) / (a.den:Rat)=a from this]at h2;exact h2
  simp only[ev,Fa];rw[Rq,<-hh]
  push_cast
  rw[<-e];have e3:(((a.den:Int)):Rat)=(a.den:Rat):=rfl;grind
theorem Qhx{a b:Um}(hb:Prm b)(h:ZA (cz b) (cz a)):∃h',Fg h'/\∀t,Fa a t=Fa b t*Fa h' t:=by
 obtain⟨u,hu⟩:=h;obtain⟨c,hc,h,hh⟩:=OJ u;obtain⟨h',e⟩:=Qhy hb c.natAbs c h (Ql _) hc λt=>by
  have:=hu t;rw[Fb,Fb]at this;rw[this,<-hh];grind
 exact⟨trim h',Rt _,λt=>by rw[Oy,e]⟩
def sd(x0:Rat):Up->Up
 | []=>[]
 |_::p=>Sy p (D9 x0 (sd x0 p))
theorem Qhp(x0 x:Rat):∀p,ev (sd x0 p) x=dq p x x0
 | []=>rfl
 |a::p=>by simp only[sd,dq];rw[G0,Gu,Qhp x0 x p]
theorem dQ(x0:Rat):∀(g:Up) (n:Nat),(∀j,n<j->g.getD j 0=0)->∀j,n<=j->(sd x0 g).getD j 0=0
 | [],n,_,j,_=>by simp[sd]
 |
  a::p,0,h,j,_=>by
  have hp:∀j,p.getD j 0=0:=λj=>by have:=h (j+1) (by omega);rwa[Q4]at this
  simp only[sd];rw[Ro,Su,hp,dQ x0 p 0 (λj _=>hp j) j (Qh _)];grind
 |
  a::p,n+1,h,j,hj=>by
  have hp:∀j,n<j->p.getD j 0=0:=λj hj=>by have:=h (j+1) (by omega);rwa[Q4]at this
  simp only[sd];rw[Ro,Su,hp j (by omega),dQ x0 p n hp j (by omega)];grind
theorem nC{K:Rat}(hK:0≤K):∀(e:Nat) (g:Up) (pts:Um) (M:Rat),pts.length=e+1->pts.Nodup->(∀x∈pts,Fl (x:Rat)≤K)->(∀k,e<k->g.getD k 0=0)->(∀x∈pts,Fl (ev g (x:Rat))≤M)->∀k,Fl (g.getD k 0)≤(2*K+3)^e*M
 |_,_,[],_,h,_,_,_,_=>by simp at h
 |
  0,g,x0::xs,M,_,_,_,hg,hM=>λk=>by
  have h0:=hM x0 (by simp);rw[Xg];cases k with
  |
   zero =>
   have e:ev g (x0:Rat)=g.getD 0 0:=by
    cases g with
    |nil=>rfl
    |
     cons a p =>
     have hp:=Lf (p:=p) λj=>by have:=hg (j+1) (by omega);rwa[Q4]at this
     simp only[ev,hp,Zt];grind
   rw[<-e];grind
  |
   succ k =>
   rw[hg (k+1) (by omega),Rl];have:=Hx (ev g (x0:Rat));grind
 |
  e+1,g,x0::xs,M,hl,hn,hb,hg,hM=>λk=>by
  have hx0:=hb x0 (by simp);have hM0:=hM x0 (by simp);have hMn:0<=M:=Zl (Hx _) hM0;rw[List.nodup_cons]at hn;have ih:=nC hK e (sd x0 g) xs (2*M) (by simpa using hl) hn.2 (λx hx=>hb x (by simp[hx])) (λj hj=>dQ _ g (e+1) hg j (by omega)) λx hx=>by
   have h1:=hM x (by simp[hx]);have h2:=OH (x:Rat) (x0:Rat) g;rw[<-Qhp]at h2;have hne:x-x0≠0:=λh=>hn.1 (by rw[show x0=x by omega];exact hx)
   have h3:=WU hne;rw[Rat.intCast_sub]at h3;have h4:Fl (ev g (x:Rat)-ev g (x0:Rat))<=2*M:=by
    have:=Sx (ev g (x:Rat)) (-ev g (x0:Rat));rw[Ew,show ev g (x:Rat)+-ev g (x0:Rat)=ev g (x:Rat)-ev g (x0:Rat) by grind]at this;clear hM hb hg;grind
   rw[h2,Ip]at h4;have h5:=Ze h3 (Hx (ev (sd x0 g) x));clear hM hb hg;grind
  have e1:∀t,ev g t=ev (Sy [ev g x0] (Sy (D9 (-x0) (sd x0 g)) (0::sd x0 g))) t:=λt=>by
   have:=OH t (x0:Rat) g;rw[<-Qhp]at this;simp only[G0,Gu,ev];grind
  have hp1:1<=(2*K+3)^e:=(VZ (R:=2*K+3) (x:=0) (by grind) (by rw[Rl];grind) e).2;have hpM:=Bn (x:=(2*K+3)^e) (y:=M) (by grind) hMn;have hpM1:=Ze hp1 hMn;rw[Z7,D4 e1 k,Ro,Ro,Su];have a1:=ih k;have a2:Fl (-(x0:Rat)*(sd (x0:Rat) g).getD k 0)<=K*((2*K+3)^e*(2*M)):=He (by rw[Ew];exact hx0) a1;have fin:∀u v w:Rat,Fl u<=M->Fl v<=K*((2*K+3)^e*(2*M))->Fl w<=(2*K+3)^e*(2*M)->Fl (u+(v+w))<=(2*K+3)^e*(2*K+3)*M:=λu v w h1 h2 h3=>by
   have b1:=Sx u (v+w);have b2:=Sx v w;clear ih e1 hM hb hg a1 a2;grind
  refine fin _ _ _ ?_ a2 ?_
  ·cases k with
   |zero=>rw[Zt];exact hM0
   |succ k=>rw[Q4,Kt,Rl];exact hMn
  ·cases k with
   |zero=>rw[Zt,Rl];clear ih e1 hM hb hg a1 a2 fin;grind
   |succ k=>rw[Q4];exact ih k
theorem Qkj{g:Up}{e:Nat}(hg:∀k,e<k->g.getD k 0=0)(hz:¬∀t,ev g t=0){pts:Um}(hn:pts.Nodup)(hr:∀x∈pts,ev g (x:Rat)=0):pts.length≤e:=by
 rcases Zb e pts.length with h|h
 ·exfalso;obtain⟨K,hK,hb⟩:∃K:Rat,0≤K/\∀x∈pts,Fl (x:Rat)≤K:=by
   clear hn hr h
   induction pts with
   |nil=>exact⟨0,by decide,λx hx=>by cases hx⟩
   |
    cons y pts ih =>
    obtain⟨K,h1,h2⟩:=ih;refine⟨K+Fl (y:Rat),by have:=Hx (y:Rat);grind,λx hx=>?_⟩;have hy:=Hx (y:Rat);rcases Qn.1 hx with rfl|hx
    ·grind
    ·have:=h2 x hx;grind
  refine hz (Lf λk=>?_);have:=nC hK e g (pts.take (e+1)) 0 (by rw[Qp];omega) (hn.sublist (List.take_sublist ..)) (λx hx=>hb x (Qo hx)) hg (λx hx=>by rw[hr x (Qo hx),Rl];exact Qr) k;have h2:=Hx (g.getD k 0);exact Qqd (by grind)
 ·exact h
def spots:Um:=(List.range 19).map λi:Nat=>(i:Int)-9
theorem spots_nd:spots.Nodup:=by decide
theorem sY:∀x∈spots,x.natAbs≤9:=by decide
theorem DF{α:Type}(p:α->Bool):∀l:List α,(l.filter p).length+(l.filter λx => !p x).length=l.length
 | []=>rfl
 |
  x::l=>by
  have:=DF p l;cases h:p x <;> simp[h] <;> omega
def geo:Nat->Nat
 | 0=>0
 |n+1=>1+9*geo n
theorem aG{B:Rat}:∀(p:Um),(∀z∈p,Fl (z:Rat)≤B)->fX 9 (cz p)≤B*(geo p.length:Nat)
 | [],_=>by simp only[cz,X9,fX,geo,Xl];rw[show((0:Nat):Rat)=0 from rfl];grind
 |
  a::p,h=>by
  have h1:=aG p λz hz=>h z (Qg _ hz)
  have h2:=h a (Qy ..);simp only[cz,Z0,fX,geo,Q5]at *
  push_cast
  clear h;grind
theorem Qh5{m n:Nat}(h:m<=n):geo m<=geo n:=by
 induction h with
 |refl=>exact Ql _
 |step h ih=>simp only[geo];omega
def pz:Um->Int->Int
 | [],_=>0
 |a::p,x=>a+x*pz p x
theorem WH(x:Int):∀p,Fa p (x:Rat)=((pz p x:Int):Rat)
 | []=>rfl
 |a::p=>by simp only[Fa,pz,WH x p];push_cast;rfl
theorem S6(z:Int):Fl (z:Rat)=((z.natAbs:Nat):Rat):=by
 unfold Fl;rcases Kd z 0 with h|h
 ·have h1:(z:Rat)<((0:Int):Rat):=Jn.2 h;rw[if_pos (by simpa using h1)];have:(z.natAbs:Int)=-z:=by omega
  have:=congrArg (λu:Int=>(u:Rat)) this
  push_cast at this
  exact this.symm
 ·have h1:((0:Int):Rat)<=(z:Rat):=Je.2 h;have h1:(0:Rat)<=(z:Rat):=by simpa using h1
  rw[if_neg (by grind)];have:(z.natAbs:Int)=z:=by omega
  have:=congrArg (λu:Int=>(u:Rat)) this;exact this.symm
theorem XH{p g h:Um}{s:Nat}(hp:Bd s p)(hl:p.length<=10)(tp:Fg p)(tg:Fg g)(th:Fg h)(h0:p.length≠0)(e:∀t,Fa p t=Fa g t*Fa h t):Bd (s+69) g:=by
 have lg:0<g.length:=by
  rcases Q3 g.length with e'|e'
  ·exact absurd (λt=>by rw[e,D7 e'];grind) (SH tp (by omega))
  ·exact e'
 have lh:0<h.length:=by
  rcases Q3 h.length with e'|e'
  ·exact absurd (λt=>by rw[e,D7 e'];grind) (SH tp (by omega))
  ·exact e'
 have hlen:=Mx tg th tp e lg lh;obtain⟨q,hq⟩:=nmE (spots.filter λx => !decide (pz p x=0));have hr:(spots.filter λx=>decide (pz p x=0)).length<=9:=by
  refine Qkj (g:=cz p) (e:=9) (λk hk=>?_) (λh=>SH tp (by omega) λt=>by rw[<-Fb];exact h t) (spots_nd.sublist List.filter_sublist) λx hx=>?_
  ·rw[Mv,Qi,Qw (by omega)];rfl
  ·have:=(Yi.1 hx).2;rw[Fb,WH,of_decide_eq_true this];rfl
 have hc:=DF (λx=>decide (pz p x=0)) spots;rw[<-hq]at hc;have hsl:spots.length=19:=by decide
 have hB:∀z∈p,Fl (z:Rat)≤((2^s:Nat):Rat):=λz hz=>by
  rw[S6];have:=hp z hz;rw[Sj]at this;exact Zm.2 (Yk this)
 have key:=nC (K:=9) (by decide) 9 (cz g) (q.take 10) (((2^s*435848050:Nat)):Rat) (by rw[Qp];omega) ((spots_nd.sublist (by rw[hq];exact List.filter_sublist)).sublist (List.take_sublist ..)) (λx hx=>by
  have hx:=Qo hx;rw[hq]at hx;have:=sY x (Yi.1 hx).1;rw[S6]
  exact_mod_cast Zm.2 this) (λk hk=>by rw[Mv,Qi,Qw (by omega)];rfl) (λx hx=>by
  have hx:=Qo hx;rw[hq]at hx;obtain⟨hx1,hx2⟩:=Yi.1 hx;have hne:pz p x≠0:=by simpa using hx2
  have e1:=e (x:Rat);rw[WH,WH,WH]at e1;have e2:pz p x=pz g x*pz h x:=by exact_mod_cast e1
  have hh:1<=(pz h x).natAbs:=by
   rcases Q3 (pz h x).natAbs with e'|e'
   ·exact absurd (by rw[e2,Int.natAbs_eq_zero.1 e',Wa]) hne
   ·exact e'
  have h3:(pz g x).natAbs<=(pz p x).natAbs:=by
   rw[e2,J9];exact Ys _ hh
  rw[Fb,WH,S6];refine Zl (Zm.2 h3) ?_;rw[<-S6,<-WH,<-Fb];refine Zl (SS (R:=9) (by
   have:=sY x hx1;rw[S6]
   exact_mod_cast Zm.2 this) _) ?_
  refine Zl (aG p hB) ?_;have:2^s*geo p.length<=2^s*435848050:=Zu _ (Qa (Qh5 hl) (by decide));have:=Zm.2 this
  push_cast at this ⊢
  exact this)
 refine BY λk=>?_
 have h1:=key k;rw[Mv,S6]at h1;have e3:(2*(9:Rat)+3)^9*((2^s*435848050:Nat):Rat)=(((794280046581*(2^s*435848050)):Nat):Rat):=by
  rw[show(2*(9:Rat)+3)^9=794280046581 by grind]
  push_cast;rfl
 rw[e3]at h1;have h2:=Zm.1 h1;rw[Sj];refine Z3 h2 ?_;have:794280046581*(2^s*435848050)=2^s*(794280046581*435848050):=by
  rw[Nat.mul_left_comm]
 rw[this,Xf];exact Nat.mul_lt_mul_of_pos_left (by decide) (Z2 (by decide))
theorem uL{l:Um}{d:Int}(h:∀z∈l,d∣z):d∣((Ta l:Nat):Int):=by
 have key:∀(l:Um) (g:Nat),d.natAbs∣g->(∀z∈l,d∣z)->d.natAbs∣l.foldl (λg z=>Nat.gcd g z.natAbs) g:=by
  intro l
  induction l with
  |nil=>exact λg h _=>h
  |cons z l ih=>exact λg hg h=>ih _ (Nat.dvd_gcd hg (X4.2 (h z (Qy ..)))) λu hu=>h u (Qg _ hu)
 have:=key l 0 (Nat.dvd_zero _) h;exact X4.1 (by rw[Xh];exact this)
theorem FK(p:Um)(c:Int)(k:Nat):(p.map (· / c)).getD k 0=p.getD k 0 / c:=by
 rw[Qi,Qi,Q7];cases p[k]? <;> simp
theorem WR(p:Um)(c:Int)(k:Nat):(Di p c).getD k 0=p.getD k 0 / c:=by
 unfold Di;rw[VG,FK]
theorem zQ{p:Um}{c:Int}(h:∀z∈p,c∣z)(t:Rat):Fa p t=(c:Rat)*Fa (Di p c) t:=by
 have:=Cx c 0 t (max p.length (Di p c).length) (Di p c) [] p (by omega) (by simp) (by omega) λk=>by
  rw[WR];have hd:c∣p.getD k 0:=by
   rw[Qi];cases e:p[k]? with
   |none=>exact Int.dvd_zero _
   |some z=>exact h z (Qc e)
  rw[K9 hd];simp
 rw[this];simp only[Fa];push_cast;grind
theorem XN{c:Int}(h:c≠0):(c:Rat)≠0:=λe=>h (by exact_mod_cast e)
theorem ZQ{p q:Um}{c:Rat}(tp:Fg p)(tq:Fg q)(hc:c≠0)(h:∀t,Fa p t=c*Fa q t):p.length=q.length:=by
 have key:∀{p q:Um} {c:Rat},Fg p->Fg q->c≠0->(∀t,Fa p t=c*Fa q t)->p.length<=q.length:=λ{p q c} tp tq hc h=>by
  rcases Zb q.length p.length with e|e
  ·have h1:=H6 tp (by omega);have:=D4 (p:=cz p) (q:=D9 c (cz q)) (λt=>by rw[Fb,Gu,Fb,h]) (p.length-1);rw[Mv,Su,Mv,Qi (l:=q),Qw (by omega)]at this;have:((p.getD (p.length-1) 0:Int):Rat)=0:=by rw[this];simp
   exact absurd (by exact_mod_cast this) h1
  ·exact e
 refine Kb (key tp tq hc h) (key (c:=1 / c) tq tp (λe=>?_) λt=>?_)
 ·have:=Zj (a:=1) hc;rw[e]at this;grind
 ·rw[h];have:=Zj (a:=1) hc;grind
theorem Cz{p:Um}(tp:Fg p)(h:p.length≠0):Fg (Fj p)/\(Fj p).length=p.length/\Prm (Fj p)/\0<Fu (Fj p)/\(∀s,Bd s p->Bd s (Fj p))/\Hp p≠0/\∀t,Fa p t=(Hp p:Rat)*Fa (Fj p) t:=by
 have h0:=oU tp h;have e:Fj p=Di p (Hp p):=by unfold Fj;rw[if_neg h]
 have h1:=zQ (p:=p) (c:=Hp p) GX;have hl:=ZQ tp (ZK p (Hp p)) (XN h0) h1;have hcp:0<Pn p:=by
  have:=JF tp h;unfold Pn at this ⊢;omega
 rw[e];refine⟨ZK _ _,hl.symm,λd hd=>?_,?_,λs hs=>BV hs _,h0,h1⟩
 ·have h2:∀z∈p,d*Hp p∣z:=λz hz=>by
   obtain⟨i,hi⟩:=Zk.1 hz;have h3:=hd i;rw[WR,Qi,hi]at h3;obtain⟨k,hk⟩:=h3;have h4:=GX z hz;refine⟨k,?_⟩;have:z / Hp p*Hp p=z:=Int.ediv_mul_cancel h4;rw[<-this];rw[show z / Hp p=d*k from hk,Int.mul_right_comm]
  have h3:=uL h2;have h4:Hp p∣((Ta p:Nat):Int)/\((Ta p:Nat):Int)∣Hp p:=by
   unfold Hp Pn;split
   ·exact⟨Uc.2 (K7 _),Int.dvd_neg.2 (K7 _)⟩
   ·exact⟨K7 _,K7 _⟩
  obtain⟨k,hk⟩:=V6 h3 h4.2;refine⟨k,?_⟩;have:Hp p*(d*k)=Hp p*1:=by rw[Ub,<-Int.mul_assoc,K8 (Hp p) d,<-hk]
  exact(Int.eq_of_mul_eq_mul_left h0 this).symm
 ·have h2:Fu (Di p (Hp p))=Fu p / Hp p:=by unfold Fu;rw[<-hl,WR]
  have h3:Hp p∣Fu p:=GX _ (LF h);have h5:Fu p / Hp p*Hp p=Fu p:=Int.ediv_mul_cancel h3;rw[h2];have h6:=Et tp h;rcases Km (Fu p / Hp p) 0 with e1|e1|e1
  ·exfalso;by_cases hn:Fu p<0
   ·have:Hp p=-Pn p:=by unfold Hp;rw[if_pos hn]
    have:0<Fu p / Hp p*Hp p:=V9 e1 (by omega);omega
   ·have:Hp p=Pn p:=by unfold Hp;rw[if_neg hn]
    have:Fu p / Hp p*Hp p<0:=Int.mul_neg_of_neg_of_pos e1 (by omega);omega
  ·rw[e1]at h5;omega
  ·exact e1
theorem Qjv{r:Um}(tr:Fg r):∃c:Rat,0<c/\∀t,Fa r t=c*Fa (KY r) t:=by
 unfold KY;by_cases h:r.length=0
 ·rw[if_pos h];exact⟨1,by decide,λt=>by rw[D7 h,D7 rfl];grind⟩
 ·rw[if_neg h];have h1:0<Pn r:=by
   have:=JF tr h;unfold Pn at this ⊢;omega
  have h2:((0:Int):Rat)<(Pn r:Rat):=Jn.2 h1;exact⟨Pn r,by simpa using h2,zQ Aa⟩
theorem JG(x:Int)(t:Rat):∀i,Fa (mono i x) t=(x:Rat)*t^i
 | 0=>by simp only[mono,Wj,Yj,Fa,Xg];grind
 |
  i+1=>by
  have ih:=JG x t i;simp only[mono,J4,Xb,Fa]at *;rw[ih,Z7];push_cast;grind
theorem iT(x:Int)(b:Um)(i k:Nat):(Gm (trim (mono i x)) b).getD k 0=if i<=k then x*b.getD (k-i) 0 else 0:=by
 have e:∀t,Fa (Gm (trim (mono i x)) b) t=Fa (List.replicate i 0++b.map (x * ·)) t:=λt=>by
  rw[Gl,Oy,JG];have h2:∀i,Fa (List.replicate i 0++b.map (x * ·)) t=t^i*((x:Rat)*Fa b t):=λi=>by
   induction i with
   |
    zero =>
    simp only[Wj,Yj,Xg];have:=Cx x 0 t (max b.length (b.map (x * ·)).length) b [] (b.map (x * ·)) (by omega) (by simp) (by omega) λk=>by
     rw[Qi,Qi,Q7];cases b[k]? <;> simp
    rw[this];simp only[Fa];push_cast;grind
   |succ i ih=>simp only[J4,Xb,Fa,ih,Z7];push_cast;grind
  rw[h2];grind
 rw[Ls e k,Qi,List.getElem?_append,Jg];by_cases h:i<=k
 ·rw[if_neg (by omega),if_pos h,Q7,Qi];cases b[k-i]? <;> simp
 ·rw[if_pos (by omega),if_neg h,Jz,if_pos (by omega)];rfl
theorem Qip{p:Um}{n:Nat}(tp:Fg p)(h:p.length<=n+1)(h0:p.getD n 0=0):p.length<=n:=by
 rcases Zb n p.length with e|e
 ·have:=H6 tp (by omega);rw[show p.length-1=n by omega]at this;exact absurd h0 this
 ·exact e
theorem Qq6{b r:Um}{i:Nat}(tr:Fg r)(h:r.length<=b.length+i)(hb:b.length≠0){x:Int}(hx:x=if r.length=b.length+i then Fu r else 0):(str b (Fu b) i x r).length<b.length+i:=by
 have hl:=yW (c:=Fu b) (x:=x) (i:=i) (b:=b) (r:=r);have:=Qip (p:=str b (Fu b) i x r) (n:=b.length+i-1) (Fz _ _) (by omega) (by
  unfold str;rw[O6,Mj,iT,if_pos (by omega),hx,show b.length+i-1-i=b.length-1 by omega]
  split
  ·rename_i he;unfold Fu;rw[he,Int.sub_eq_zero]
  ·rw[Qi (l:=r),Qw (by omega)];simp)
 omega
theorem Qwu(b r:Um)(c:Int)(i:Nat)(x:Int)(t:Rat):(c:Rat)*Fa r t=(x:Rat)*t^i*Fa b t+Fa (str b c i x r) t:=by
 unfold str;rw[Np,Rq,Gl,Oy,JG];grind
theorem Qj0(b:Um)(c:Int):∀(i:Nat) (q r:Um),∃X:Up,∀t,((c^i:Int):Rat)*Fa r t=ev X t*Fa b t+Fa (tZ b c i (q,r)).2 t
 | 0,q,r=>⟨[],λt=>by simp only[tZ,ev];rw[Wy];push_cast;grind⟩
 |
  i+1,q,r=>by
  obtain⟨x,hx⟩:=nmE (if r.length=b.length+i then Fu r else 0);obtain⟨X,hX⟩:=Qj0 b c i (stq c i x q) (str b c i x r);obtain⟨m,hm⟩:∃m:Up,∀t,ev m t=(x:Rat)*t^i:=⟨cz (mono i x),λt=>by rw[Fb,JG]⟩;refine⟨Sy (D9 ((c^i:Int):Rat) m) X,λt=>?_⟩;rw[JP hx,G0,Gu,hm];have h1:=hX t;have h2:=Qwu b r c i x t;rw[Wx]
  push_cast at h1 ⊢
  have:(c:Rat)^i*c*Fa r t=(c:Rat)^i*((c:Rat)*Fa r t):=by grind
  rw[this,h2];grind
theorem oN{b:Um}(hb:b.length≠0):∀(i:Nat) (q r:Um),Fg r->r.length<b.length+i->Fg (tZ b (Fu b) i (q,r)).2/\(tZ b (Fu b) i (q,r)).2.length<b.length
 | 0,q,r,tr,h=>⟨tr,h⟩
 |
  i+1,q,r,tr,h=>by
  rw[JP rfl];exact oN hb i _ _ (Fz _ _) (Qq6 tr (by omega) hb rfl)
theorem Qjz{b:Um}{c:Int}{t:Nat}(hb:Bd t b)(hc:Ff c<=t):∀(i u:Nat) (q r:Um),i<=64->Bd u r->Bd (u+i*(t+8)) (tZ b c i (q,r)).2
 | 0,u,q,r,_,h=>by simpa[tZ]using h
 |
  i+1,u,q,r,hi,h=>by
  rw[JP rfl];have hx:Ff (if r.length=b.length+i then Fu r else 0)<=u:=by
   split
   ·exact Nj h
   ·rw[Nk];exact Qh _
  have:=Qjz hb hc i (u+t+8) (stq c i (if r.length=b.length+i then Fu r else 0) q) (str b c i (if r.length=b.length+i then Fu r else 0) r) (by omega) (pM h hb hc hx (by omega));exact U6 this (by rw[Xa];omega)
theorem EF{c:Int}(h:c<0):∀k:Nat,(k % 2=1->c^k<0)/\(k % 2=0->0<c^k)
 | 0=>⟨λh=>by omega,λ_=>by rw[Wy];decide⟩
 |
  k+1=>by
  obtain⟨i1,i2⟩:=EF h k;rw[Wx];exact⟨λhk=>Y8 (i2 (by omega)) h,λhk=>V9 (i1 (by omega)) h⟩
theorem NR{a b:Um}(ta:Fg a)(tb:Fg b)(hb:b.length≠0)(hl:a.length<=60):Fg (Tc a b)/\(Tc a b).length<b.length/\(∀s,Bd s a->Bd s b->Bd (s+(a.length+1-b.length)*(s+8)) (Tc a b)) /\
 ∃u v:Rat,0<u/\0<v/\∃X:Up,∀t,u*Fa a t=ev X t*Fa b t+v*Fa (Tc a b) t:=by
 obtain⟨k,hk⟩:=nmE (a.length+1-b.length);have h1:Fg (Mg a b)/\(Mg a b).length<b.length:=oN hb _ _ _ ta (by omega);obtain⟨X,hX⟩:=Qj0 b (Fu b) k [] a;have hX:∀t,(((Fu b)^k:Int):Rat)*Fa a t=ev X t*Fa b t+Fa (Mg a b) t:=by unfold Mg;rw[<-hk];exact hX
 have h2:=GW (a:=a) (b:=b) (r:=Mg a b) (n:=(Mg a b).length) (s:=(Mg a b).foldl (λm z=>m+Ff z) 0) h1.1 (Ql _) (λz hz=>by
  have key:∀(l:Um) (m:Nat),m≤l.foldl (λm z=>m+Ff z) m/\∀z∈l,Ff z≤l.foldl (λm z=>m+Ff z) m:=by
   intro l
   induction l with
   |nil=>exact λm=>⟨Ql _,λz hz=>by cases hz⟩
   |
    cons y l ih =>
    intro m;obtain⟨i1,i2⟩:=ih (m+Ff y);refine⟨by simp only[Z9];omega,λz hz=>?_⟩;simp only[Z9];rcases Qn.1 hz with rfl|hz
    ·omega
    ·exact i2 z hz
  exact(key _ 0).2 z hz)
 have h3:=EK (r:=B7 a b (Mg a b)) (n:=(Mg a b).length) h2.2.1 h2.2.2;refine⟨h3.1,by unfold Tc;omega,λs ha hbs=>?_,?_⟩
 ·have h4:=Qjz (c:=Fu b) hbs (Nj hbs) k s [] a (by omega) ha;have h5:=GW (a:=a) (b:=b) (n:=(Mg a b).length) h1.1 (Nat.le_refl _) (show Bd (s+k*(s+8)) (Mg a b) by unfold Mg;rw[<-hk];exact h4);rw[<-hk];exact(EK h5.2.1 h5.2.2).2.2
 ·obtain⟨v,vp,hv⟩:=Qjv h2.1;have hc:=Et tb hb;by_cases ht:k % 2=1/\Fu b<0
  ·have e1:B7 a b (Mg a b)=My (Mg a b):=by unfold B7;rw[<-hk,if_pos ht]
   have hneg:(Fu b)^k<0:=(EF ht.2 k).1 ht.1;have h5:(((Fu b)^k:Int):Rat)<((0:Int):Rat):=Jn.2 hneg;have h5:(((Fu b)^k:Int):Rat)<0:=by simpa using h5
   refine⟨-(((Fu b)^k:Int):Rat),v,by grind,vp,D9 (-1) X,λt=>?_⟩;have h6:=hX t;have h7:=hv t;rw[e1,GZ]at h7;show _=_+v*Fa (KY (B7 a b (Mg a b))) t;rw[e1,<-h7,Gu];grind
  ·have e1:B7 a b (Mg a b)=Mg a b:=by unfold B7;rw[<-hk,if_neg ht]
   have hpos:0<(Fu b)^k:=by
    rcases Ke hc with h|h
    ·exact(EF h k).2 (by omega)
    ·exact Int.pow_pos h
   have h5:((0:Int):Rat)<(((Fu b)^k:Int):Rat):=Jn.2 hpos;refine⟨(((Fu b)^k:Int):Rat),v,by simpa using h5,vp,X,λt=>?_⟩;have h7:=hv t;show _=_+v*Fa (KY (B7 a b (Mg a b))) t;rw[<-h7,e1,hX]
theorem Ai{p:Um}(h1:p.length<=64)(h2:Bd 16777216 p):OX p=some p:=by
 unfold OX;rw[if_pos ⟨h1,Jt.2 λz hz=>Nat.ble_eq_true_of_le (h2 z hz)⟩]
theorem OF{a b:Um}{g:Up}{c:Rat}(hc:c≠0)(h:∀t,Fa a t=c*Fa b t):ZA g (cz a)↔ZA g (cz b):=by
 constructor
 ·rintro⟨u,hu⟩
  refine⟨D9 (1 / c) u,λt=>?_⟩;have h1:=hu t;rw[Fb,h]at h1;rw[Fb,Gu];have h2:1 / c*c=1:=Zj hc;have:Fa b t=1 / c*(c*Fa b t):=by grind
  rw[this,h1];grind
 ·rintro⟨u,hu⟩
  refine⟨D9 c u,λt=>?_⟩;have h1:=hu t;rw[Fb]at h1;rw[Fb,Gu,h,h1];grind
structure Gc(g a b:List Int):Prop where
 t:Fg g
 da:ZA (cz g) (cz a)
 db:ZA (cz g) (cz b)
 c:∃U V,∀t,Fa g t=ev U t*Fa a t+ev V t*Fa b t
 n:g.length≠0
theorem Gc.scale{g a b g' a' b':Um}{x y z:Rat}(h:Gc g a b)(hx:x≠0)(hy:y≠0)(hz:z≠0)(tg:Fg g')(eg:∀t,Fa g t=x*Fa g' t)(ea:∀t,Fa a' t=y*Fa a t)(eb:∀t,Fa b' t=z*Fa b t):Gc g' a' b':=by
 have hx1:1 / x*x=1:=Zj hx;have hy1:1 / y*y=1:=Zj hy;have hz1:1 / z*z=1:=Zj hz;have hg:∀c,ZA (cz g) c->ZA (cz g') c:=λc ⟨u,hu⟩=>⟨D9 x u,λt=>by rw[hu,Fb,Fb,eg,Gu];grind⟩
 obtain⟨U,V,hc⟩:=h.c;refine⟨tg,hg _ ((OF hy ea).2 h.da),hg _ ((OF hz eb).2 h.db),⟨D9 (1 / x*(1 / y)) U,D9 (1 / x*(1 / z)) V,λt=>?_⟩,?_⟩
 ·have h1:=hc t;have h2:Fa g' t=1 / x*Fa g t:=by rw[eg];grind
  rw[h2,h1,Gu,Gu,ea,eb];generalize ev U t=u at *;generalize ev V t=v at *;grind
 ·rw[<-ZQ h.t tg hx eg];exact h.n
theorem Qv8:∀d:Nat,1<=d->d+2<=3^d
 | 0,h=>by omega
 | 1,_=>by decide
 |d+2,_=>by have:=Qv8 (d+1) (by omega);rw[Zr];omega
theorem sM{k:Nat}{a b:Um}(ta:Fg a)(tb:Fg b)(hb:b.length≠0)(hl:a.length<=60)(hbl:b.length<=60)(hr:Bd 16777216 (Tc a b))(ih:∃g,TA k b (Tc a b)=some g/\Gc g b (Tc a b)):∃g,TA (k+1) a b=some g/\Gc g a b:=by
 obtain⟨h1,h2,h3,u,v,up,vp,X,hX⟩:=NR ta tb hb hl;obtain⟨g,e,hg⟩:=ih;refine⟨g,?_,?_⟩
 ·simp only[TA];rw[if_neg hb,Ai (by omega) hr];exact e
 ·obtain⟨U,V,hc⟩:=hg.c;obtain⟨y,hy⟩:=hg.da;obtain⟨z,hz⟩:=hg.db;have hu:1 / u*u=1:=Hg up;have hv:1 / v*v=1:=Hg vp;refine⟨hg.t,⟨D9 (1 / u) (Sy (G8 X y) (D9 v z)),λt=>?_⟩,hg.da,⟨D9 (u / v) V,Sy U (D9 (-1 / v) (G8 V X)),λt=>?_⟩,hg.n⟩
  ·have a1:=hX t;have a2:=hy t;have a3:=hz t;rw[Fb,Fb]at a2 a3;rw[Fb,Fb,Gu,G0,Fi,Gu];have:Fa a t=1 / u*(u*Fa a t):=by grind
   rw[this,a1,a2,a3];grind
  ·have a1:=hX t;have a2:=hc t;rw[Gu,G0,Gu,Fi,a2];have:Fa (Tc a b) t=1 / v*(v*Fa (Tc a b) t):=by grind
   rw[this,show v*Fa (Tc a b) t=u*Fa a t-ev X t*Fa b t by grind,J6,J6,J6];grind
theorem Qas{k:Nat}{a:Um}(ta:Fg a)(ha:a.length≠0):∃g,TA (k+1) a []=some g/\Gc g a [] :=
 ⟨a,rfl,ta,dvd_refl _,⟨[],λt=>by simp only[cz,X9,ev];grind⟩,⟨[1],[],λt=>by rw[Tg];simp only[ev];grind⟩,ha⟩
theorem TO{s:Nat}:∀(k:Nat) (a b:Um),Fg a->Fg b->b.length<k->b.length<a.length->a.length<=60->Bd s a->Bd s b->(s+8)*3^(a.length-1)<=16777216->∃g,TA k a b=some g/\Gc g a b
 | 0,_,_,_,_,h,_,_,_,_,_=>by omega
 |
  k+1,a,b,ta,tb,hk,hab,hl,ba,bb,hs=>by
  by_cases hb:b.length=0
  ·rw[Qj hb];exact Qas ta (by omega)
  ·obtain⟨h1,h2,h3,_⟩:=NR ta tb hb hl;have h3:=h3 s ba bb;obtain⟨m,hm⟩:=nmE (a.length-b.length);have e1:a.length+1-b.length=m+1:=by omega
   rw[e1]at h3;have e2:s+(m+1)*(s+8)+8=(m+2)*(s+8):=by
    rw[show m+2=(m+1)+1 by omega,Xa (m+1)];omega
   have e3:(m+2)*(s+8)*3^(b.length-1)<=(s+8)*3^(a.length-1):=by
    rw[show a.length-1=m+(b.length-1) by omega,Xf,<-Xz,Zq (s+8)];exact Q0 _ (Q0 _ (Qv8 m (by omega)))
   have e4:s+(m+1)*(s+8)<=16777216:=by
    have:(m+2)*(s+8)<=(m+2)*(s+8)*3^(b.length-1):=Ys _ (Z2 (by decide));omega
   refine sM ta tb hb hl (by omega) (U6 h3 e4) (TO (s:=s+(m+1)*(s+8)) k b (Tc a b) tb h1 (by omega) h2 (by omega) (U6 bb (by omega)) h3 ?_);rw[e2];omega
def Szz(n s:Nat):Prop:=n<=10/\2*(s+8)*3^(n-1)<=16777216
theorem Qlp{n s:Nat}(hz:Szz n s){a b:Um}(ta:Fg a)(tb:Fg b)(la:a.length<=n)(lb:b.length<=n)(ba:Bd s a)(bb:Bd s b)(h0:a.length≠0\/b.length≠0):∃g,TA 66 a b=some g/\Gc g a b:=by
 obtain⟨hn,hz⟩:=hz;have hp:∀l,l<=n->(s+8)*3^(l-1)<=8388608:=λl hl=>by
  have:(s+8)*3^(l-1)<=(s+8)*3^(n-1):=Zu _ (Zs (by decide) (by omega));rw[Xz]at hz;omega
 rcases Zb b.length a.length with h|h
 ·exact TO 66 a b ta tb (by omega) h (by omega) ba bb (by have:=hp a.length la;omega)
 ·by_cases hb:b.length=0
  ·rw[Qj hb];exact Qas ta (by omega)
  ·obtain⟨h1,h2,h3,_⟩:=NR ta tb hb (by omega);have h3:=h3 s ba bb;have h4:(a.length+1-b.length)*(s+8)<=1*(s+8):=Q0 _ (by omega);have h5:=hp b.length lb;have h6:(s+8)*1<=(s+8)*3^(b.length-1):=Zu _ (Z2 (by decide));refine sM ta tb hb (by omega) (by omega) (U6 h3 (by omega)) (TO (s:=2*s+8) 65 b (Tc a b) tb h1 (by omega) h2 (by omega) (U6 bb (by omega)) (U6 h3 (by omega)) ?_);rw[show 2*s+8+8=2*(s+8) by omega,Xz];omega
theorem zV:Fj []=[]:=rfl
theorem GK{a:Um}(ta:Fg a):Fg (Fj a)/\(Fj a).length=a.length/\(∀s,Bd s a->Bd s (Fj a))/\∃c:Rat,c≠0/\∀t,Fa a t=c*Fa (Fj a) t:=by
 by_cases h:a.length=0
 ·rw[Qj h];exact⟨rfl,rfl,λs _=>KH,1,by decide,λt=>by rw[zV];grind⟩
 ·obtain⟨h1,h2,h3,h4,h5,h6,h7⟩:=Cz ta h;exact⟨h1,h2,h5,_,XN h6,h7⟩
theorem UQ{n s:Nat}(hz:Szz n s){a b:Um}(ta:Fg a)(tb:Fg b)(la:a.length<=n)(lb:b.length<=n)(ba:Bd s a)(bb:Bd s b)(h0:a.length≠0\/b.length≠0):∃g,JM a b=some g/\Gc g a b/\Prm g/\0<Fu g:=by
 obtain⟨a1,a2,a3,x,xn,ax⟩:=GK ta;obtain⟨b1,b2,b3,y,yn,bx⟩:=GK tb;obtain⟨g,e,hg⟩:=Qlp hz a1 b1 (by omega) (by omega) (a3 s ba) (b3 s bb) (by omega);obtain⟨g1,g2,g3,g4,g5,g6,g7⟩:=Cz hg.t hg.n;refine⟨Fj g,?_,hg.scale (XN g6) xn yn g1 g7 ax bx,g3,g4⟩;unfold JM;rw[e];rfl
theorem Qdt{a:Um}(ta:Fg a):JM [] a=some (Fj (Fj a)):=by
 unfold JM;rw[zV];by_cases h:(Fj a).length=0
 ·have e:Fj a=[]:=Qj h;rw[e];rfl
 ·have e:Tc [] (Fj a)=[]:=by
   have e1:Mg [] (Fj a)=[]:=by unfold Mg;rw[show([]:Um).length+1-(Fj a).length=0 by simp;omega];rfl
   unfold Tc;rw[e1];unfold B7
   split <;> rfl
  have:TA 66 [] (Fj a)=some (Fj a):=by
   show(if (Fj a).length=0 then _ else _)=_;rw[if_neg h,e];rfl
  rw[this];rfl
theorem Qh3{n s:Nat}(hz:Szz n s){a b:Um}(ta:Fg a)(tb:Fg b)(la:a.length<=n)(lb:b.length<=n)(ba:Bd s a)(bb:Bd s b)(h0:a.length≠0):∃g,vY a b=some g/\Gc g a b/\Prm g/\0<Fu g:=by
 obtain⟨a1,a2,a3,x,xn,ax⟩:=GK ta;obtain⟨b1,b2,b3,y,yn,bx⟩:=GK a1;obtain⟨g,e,hg,h1,h2⟩:=UQ hz b1 tb (by omega) lb (b3 s (a3 s ba)) bb (by omega);refine⟨g,?_,hg.scale (x:=1) (y:=x*y) (z:=1) (by decide) (λh=>(Y3.1 h).elim xn yn) (by decide) hg.t (λt=>by grind) (λt=>by rw[ax,bx];grind) (λt=>by grind),h1,h2⟩;unfold vY;rw[Qdt ta];exact e
theorem Qao:∀{p q:Up} {m n:Nat},HD p m->HD q n->(G8 p q).getD (m+n) 0=p.getD m 0*q.getD n 0
 | [],q,m,n,h,_=>absurd (by simp) h.1
 |
  a::p,q,0,n,h,h'=>by
  have h1:∀k,p.getD k 0=0:=λk=>by have:=h.2 (k+1) (by omega);rwa[Q4]at this
  simp only[G8];rw[Ro,Su,Zt,Zz];cases n with
  |zero=>rw[Zt];grind
  |succ n=>rw[Q4,SD h1];grind
 |
  a::p,q,m+1,n,h,h'=>by
  have ih:=Qao (p:=p) (q:=q) (m:=m) ⟨by have:=h.1;rwa[Q4]at this,λk hk=>by have:=h.2 (k+1) (by omega);rwa[Q4]at this⟩ h';simp only[G8];rw[Ro,Su,show m+1+n=(m+n)+1 by omega,Q4,h'.2 _ (by omega),ih,Q4];grind
theorem gX{a b c:Um}(ta:Fg a)(tb:Fg b)(tc:Fg c)(h:∀t,Fa c t=Fa a t*Fa b t)(la:0<a.length)(lb:0<b.length):Fu c=Fu a*Fu b:=by
 have h1:=SC ta la;have h2:=SC tb lb;have h3:=Qao h1 h2;have hl:=Mx ta tb tc h la lb;rw[<-D4 (p:=cz c) (λt=>by rw[Fi,Fb,Fb,Fb,h]),Mv,Mv,Mv,show a.length-1+(b.length-1)=c.length-1 by omega]at h3;unfold Fu;exact_mod_cast h3
theorem Ti{a b c:Um}(tc:Fg c)(hc:c.length≠0)(h:∀t,Fa c t=Fa a t*Fa b t):0<a.length/\0<b.length:=by
 constructor
 ·rcases Q3 a.length with e|e
  ·exact absurd (λt=>by rw[h,D7 e];grind) (SH tc (by omega))
  ·exact e
 ·rcases Q3 b.length with e|e
  ·exact absurd (λt=>by rw[h,D7 e];grind) (SH tc (by omega))
  ·exact e
theorem vJ{b:Um}(tb:Fg b)(hb:b.length≠0):∀(i:Nat) (a q h:Um),Fg a->Fg h->(∀t,Fa a t=Fa b t*Fa h t)->a.length<b.length+i->i<=q.length->(∀j,j<i->q.getD j 0=0)->∃q',vX b i a q=some q'/\q'.length=q.length/\∀t,Fa q' t=Fa q t+Fa h t
 |
  0,a,q,h,ta,th,e,hl,_,_=>by
  have ha:a.length=0:=by
   rcases Q3 a.length with e'|e'
   ·exact e'
   ·obtain⟨p1,p2⟩:=Ti ta (by omega) e;have:=Mx tb th ta e p1 p2;omega
  refine⟨q,by simp only[vX];rw[if_pos ha],rfl,λt=>?_⟩;have:∀t,Fa h t=0:=λt=>by
   have:=mD (p:=cz b) (q:=cz h) (r:=[]) (λh0=>SH tb (by omega) λt=>by rw[<-Fb];exact h0 t) (λt=>by rw[Fb,Fb,<-e,D7 ha];simp only[ev];grind) t;rwa[Fb]at this
  rw[this];grind
 |
  i+1,a,q,h,ta,th,e,hl,hq,h0=>by
  simp only[vX];by_cases hlt:a.length<b.length+i
  ·rw[if_pos hlt];exact vJ tb hb i a q h ta th e hlt (by omega) λj hj=>h0 j (by omega)
  ·rw[if_neg hlt];obtain⟨p1,p2⟩:=Ti ta (by omega) e;have hln:=Mx tb th ta e p1 p2;have hld:=gX tb th ta e p1 p2;have hlb:=Et tb hb;rw[hld,if_pos (Int.mul_emod_right _ _),Jf _ hlb];have hli:h.length=i+1:=by omega
   have e2:∀t,Fa (Nf a (Gm (trim (mono i (Fu h))) b)) t=Fa b t*Fa (Nf h (mono i (Fu h))) t:=λt=>by
    rw[Np,Np,Gl,Oy,e];grind
   have hl2:(Nf a (Gm (trim (mono i (Fu h))) b)).length<b.length+i:=by
    have hl:=iK (i:=i) (x:=Fu h) (b:=b) (a:=a);unfold sta at hl;have:=Qip (p:=Nf a (Gm (trim (mono i (Fu h))) b)) (n:=b.length+i-1) (Fz _ _) (by omega) (by
     rw[O6,iT,if_pos (by omega),show b.length+i-1-i=b.length-1 by omega,show b.length+i-1=a.length-1 by omega];have:Fu a=a.getD (a.length-1) 0:=rfl;rw[<-this,hld];unfold Fu;rw[K8,Int.sub_eq_zero])
    omega
   obtain⟨q',h1,h2,h3⟩:=vJ tb hb i _ (q.set i (Fu h)) (Nf h (mono i (Fu h))) (Fz _ _) (Fz _ _) e2 hl2 (by simp;omega) λj hj=>by
    rw[Qi,Yn,if_neg (by omega),<-Qi];exact h0 j (by omega)
   refine⟨q',h1,by rw[h2,Xd],λt=>?_⟩;rw[h3,vZ q i _ t (by omega),h0 i (by omega),Np,JG]
   push_cast;grind
theorem Qka{a b h:Um}{s:Nat}(ta:Fg a)(tb:Fg b)(th:Fg h)(ha:a.length≠0)(la:a.length<=10)(ba:Bd s a)(hs:s+69<=16777216)(e:∀t,Fa a t=Fa b t*Fa h t):JS a b=some h:=by
 obtain⟨p1,p2⟩:=Ti ta ha e;have hln:=Mx tb th ta e p1 p2;obtain⟨q,h1,h2,h3⟩:=vJ tb (by omega) (a.length+1-b.length) a (List.replicate (a.length+1-b.length) 0) h ta th e (by omega) (by simp) λj _=>Cq _ _
 have h4:trim q=h:=oW (Rt _) th λt=>by rw[Oy,h3,zZ];grind
 unfold JS;rw[if_neg (by omega),h1];show OX (trim q)=_;rw[h4];exact Ai (by omega) (U6 (XH ba la ta th tb ha λt=>by rw[e];grind) (by omega))
structure Pr1(p:List Int):Prop where
 t:Fg p
 m:Prm p
 l:0<Fu p
theorem Pr1.n{p:Um}(h:Pr1 p):p.length≠0:=λe=>by
 have:=h.l;rw[Qj e]at this;exact absurd this (by decide)
theorem Pr1.one{p:Um}(h:Pr1 p)(hl:p.length<2):p=[1]:=by
 have hn:=h.n;obtain⟨c,rfl⟩:∃c,p=[c]:=Kr.1 (by omega);have h1:=h.m c λk=>by cases k <;> simp
 have h2:0<c:=h.l;have:=Int.le_of_dvd (by decide) h1;rw[show c=1 by omega]
theorem Qp7{p g h:Um}(hp:Prm p)(e:∀t,Fa p t=Fa g t*Fa h t):Prm h:=λd hd=>by
 refine hp d λk=>?_
 have:=Ls (p:=p) (q:=Gm g h) (λt=>by rw[e,Gl]) k;rw[this];have e2:∀t,Fa (Gm g h) t=(d:Rat)*Fa (Gm g (h.map (· / d))) t:=λt=>by
  have h1:Fa h t=(d:Rat)*Fa (h.map (· / d)) t:=by
   have:=Cx d 0 t (max h.length (h.map (· / d)).length) (h.map (· / d)) [] h (by omega) (by simp) (by omega) λk=>by
    rw[FK,K9 (hd k)];simp
   rw[this];simp only[Fa];push_cast;grind
  rw[Gl,Gl,h1];grind
 have:=Ls (p:=Gm g h) (q:=Fq (Gm g (h.map (· / d))) d) (λt=>by rw[e2,Rq];grind) k;rw[this,Mj];exact Vb _ _
theorem Qp6{p g h:Um}(hp:Pr1 p)(hg:0<Fu g)(tg:Fg g)(th:Fg h)(e:∀t,Fa p t=Fa g t*Fa h t):Pr1 h:=by
 obtain⟨p1,p2⟩:=Ti hp.t hp.n e;have:=gX tg th hp.t e p1 p2;refine⟨th,Qp7 hp.m e,?_⟩;have hl:=hp.l;rw[this]at hl;rcases Km (Fu h) 0 with h1|h1|h1
 ·have:=Y8 hg h1;omega
 ·rw[h1]at hl;omega
 ·exact h1
structure Sqp(p g q:List Int):Prop where
 pp:Pr1 p
 pg:Pr1 g
 pq:Pr1 q
 e:∀t,Fa p t=Fa g t*Fa q t
 c:∃U V,∀t,Fa g t=ev U t*Fa p t+ev V t*dv (cz p) t
 d:∃z,∀t,dv (cz p) t=Fa g t*ev z t
theorem Sqp.num{p g q:Um}(h:Sqp p g q){d:Up}(h1:ZA d (cz q))(h2:ZA d (Bs (cz q))):∃c:Rat,c≠0/\∀t,ev d t=c:=by
 obtain⟨U,V,hc⟩:=h.c;have hpow:=sqf (k:=1) (a:=cz p) (g:=cz g) (q:=cz q) (d:=d) (U:=U) (V:=V) (by decide) (λt=>by rw[Fb,Fb,Fb,h.e]) (λt=>by rw[Fb,Fb,hc];grind) h1 h2;rcases LX d with h3|⟨m,_,h3⟩
 ·obtain⟨u,hu⟩:=h1;exact absurd (λt=>by rw[<-Fb,hu,h3];grind) (SH h.pq.t (by have:=h.pq.n;omega))
 ·obtain rfl:=zY h3 (SC h.pg.t (by have:=h.pg.n;omega)) hpow;refine⟨d.getD 0 0,h3.1,λt=>?_⟩;cases d with
  |nil=>exact absurd (by simp) h3.1
  |
   cons c l =>
   have:=Lf (p:=l) λk=>by have:=h3.2 (k+1) (by omega);rwa[Q4]at this
   simp only[ev,this,Zt];grind
theorem Sqp.bez{p g q:Um}(h:Sqp p g q):∃X Y,∀t,ev X t*ev (cz q) t+ev Y t*dv (cz q) t=1:=by
 obtain⟨d,U,V,h1,h2,h3⟩:=Qh2 (cz q) (Bs (cz q));obtain⟨c,hc,hd⟩:=h.num h1 h2;refine⟨D9 (1 / c) U,D9 (1 / c) V,λt=>?_⟩;have h5:=h3 t;rw[hd,Tt]at h5;have h4:1 / c*c=1:=Zj hc;rw[Gu,Gu];have:1 / c*ev U t*ev (cz q) t+1 / c*ev V t*dv (cz q) t=1 / c*(ev U t*ev (cz q) t+ev V t*dv (cz q) t):=by grind
 rw[this,<-h5,h4]
theorem Qlh{n s:Nat}(h:Szz n s):s<=8388600:=by
 have:2*(s+8)*1<=2*(s+8)*3^(n-1):=Zu _ (Z2 (by decide));have:=h.2;omega
theorem pP{s:Nat}{p:Um}(h:Bd s p)(hl:p.length<=10):Bd (s+4) (Gx p):=xB h (t:=4) (by omega)
theorem Qaj{n s:Nat}(hz:Szz n (s+73)){p:Um}(pp:Pr1 p)(l2:2<=p.length)(lp:p.length<=n)(bp:Bd (s+69) p){p0 h0:Um}(b0:Bd s p0)(l0:p0.length<=10)(t0:Fg p0)(th0:Fg h0)(z0:p0.length≠0)(e0:∀t,Fa p0 t=Fa h0 t*Fa p t) :
 ∃g q,OX (Gx p)=some (Gx p)/\JM p (Gx p)=some g/\JS p g=some q/\Sqp p g q/\g.length<p.length:=by
 have hn:=hz.1;have hs:=Qlh hz;have bd:=pP bp (by omega);have ld:=Nl p;have td:Fg (Gx p):=Fz _ _;obtain⟨g,e1,hg,m,l⟩:=UQ hz pp.t td lp (by omega) (U6 bp (by omega)) bd (.inl pp.n);obtain⟨q,tq,eq⟩:=Qhx m hg.da;have hdnz:(Gx p).length≠0:=λh=>by
  have h1:=B6 p (p.length-2);rw[Qj h,show p.length-2+1=p.length-1 by omega]at h1;have h2:p.getD (p.length-1) 0≠0:=H6 pp.t (by omega);rcases Yf.1 (h1.symm.trans (by simp))with h3|h3
  ·exact h2 h3
  ·omega
 have pg:Pr1 g:=⟨hg.t,m,l⟩;have hql:=Qka (s:=s+69) pp.t hg.t tq pp.n (by omega) bp (by omega) eq;refine⟨g,q,Ai (by omega) (U6 bd (by omega)),e1,hql,⟨pp,pg,Qp6 pp l hg.t tq eq,eq,?_,?_⟩,?_⟩
 ·obtain⟨U,V,hc⟩:=hg.c;exact⟨U,V,λt=>by rw[hc,Ox]⟩
 ·obtain⟨z,hz⟩:=hg.db;exact⟨z,λt=>by rw[<-Ox,<-Fb,hz,Fb]⟩
 ·obtain⟨z,tz,ez⟩:=Qhx m hg.db;obtain⟨q1,q2⟩:=Ti td hdnz ez;have:=Mx hg.t tz td ez q1 q2;omega
theorem Qpv:Sqp [1] [1] [1]:=by
 have p1:Pr1 [1]:=⟨rfl,λd hd=>by have:=hd 0;rwa[Zt]at this,by decide⟩;have e1:∀t,Fa [1] t=1:=λt=>by simp only[Fa];push_cast;grind
 exact⟨p1,p1,p1,λt=>by rw[e1];grind,⟨[1],[],λt=>by rw[e1,Tg];simp only[ev];grind⟩,⟨[],λt=>by simp only[cz,Z0,X9,dv,ev];grind⟩⟩
structure Okp(n s:Nat)(p:List Int):Prop where
 z:Szz n (s+73)
 t:Fg p
 nz:p.length≠0
 l:p.length<=n
 b:Bd s p
theorem Okp.pr{n s:Nat}{p:Um}(h:Okp n s p):Pr1 (Fj p)/\(Fj p).length=p.length/\Bd s (Fj p):=by
 obtain⟨h1,h2,h3,h4,h5,_⟩:=Cz h.t h.nz;exact⟨⟨h1,h3,h4⟩,h2,h5 s h.b⟩
theorem VW{n s:Nat}{p:Um}(h:Okp n s p):∃g q,Pw p=some q/\Sqp (Fj p) g q:=by
 obtain⟨pp,hl,hb⟩:=h.pr;have hn:=h.z.1;have:=h.l;unfold Pw;by_cases h2:(Fj p).length<2
 ·rw[if_pos h2,pp.one h2];exact⟨[1],[1],rfl,Qpv⟩
 ·rw[if_neg h2];obtain⟨g,q,h3,h4,h5,h6,_⟩:=Qaj h.z pp (by omega) (by omega) (U6 hb (by omega)) (p0:=Fj p) (h0:=[1]) hb (by omega) pp.t rfl pp.n λt=>by simp only[Fa];push_cast;grind
  exact⟨g,q,by rw[h3];show(JM (Fj p) (Gx (Fj p))).bind _=_;rw[h4];exact h5,h6⟩
inductive LW:List Int->List (List Int)->Prop
 |nil:LW [1] []
 |cons {g h w:List Int} {ws:List (List Int)} (hs:Sqp g h w) (hl:LW h ws):LW g (w::ws)
theorem Qvu{g:Um}{ws:Un}(h:LW g ws):∀t,Fa g t=ev (Ou (ws.map cz)) t:=by
 induction h with
 |nil=>intro t;simp only[X9,Ou,Fa];rw[Tg];push_cast;grind
 |cons hs hl ih=>intro t;simp only[Z0,Ou];rw[Fi,Fb,hs.e,ih];grind
theorem iR{g:Um}{w v:Um}{ws:Un}(h:LW g (w::v::ws)):∃f,Fg f/\∀t,Fa w t=Fa f t*Fa v t:=by
 cases h with
 |
  @cons _ h _ _ hs hl =>
  cases hl with
  |
   @cons _ h2 _ _ hs2 hl2 =>
   obtain⟨X,Y,hb⟩:=hs2.bez;obtain⟨z,hz⟩:=hs.d;have hd:=Qq3 (a:=cz g) (g:=cz h) (q:=cz w) (z:=z) (r:=cz v) (X:=X) (Y:=Y) (n:=h.length-1) (λt=>by rw[Fb,Fb,Fb,hs.e]) (λt=>by rw[hz,Fb]) (SC hs.pg.t (by have:=hs.pg.n;omega)) hb
    ⟨G8 (cz h2) (cz w),λt=>by rw[Fi,Fb,Fb,Fb,Fb,hs.e,hs2.e];grind⟩
   obtain⟨f,tf,ef⟩:=Qhx hs2.pq.m hd;exact⟨f,tf,λt=>by rw[ef];grind⟩
theorem gW{g w:Um}{ws:Un}(h:LW g (w::ws)):∀v∈w::ws,Pr1 v/\ZA (cz v) (cz w):=by
 have key:∀(ws:Un) (g w:Um),LW g (w::ws)->∀v∈w::ws,Pr1 v/\ZA (cz v) (cz w):=by
  intro ws
  induction ws with
  |
   nil =>
   intro g w h v hv;rw[Qk.1 hv];cases h with
   |cons hs hl=>exact⟨hs.pq,dvd_refl _⟩
  |
   cons u ws ih =>
   intro g w h v hv;have hn:=iR h;cases h with
   |
    @cons _ h _ _ hs hl =>
    rcases Qn.1 hv with rfl|hv
    ·exact⟨hs.pq,dvd_refl _⟩
    ·obtain⟨i1,i2⟩:=ih h u hl v hv;obtain⟨f,_,hf⟩:=hn;exact⟨i1,dvd_trans i2 ⟨cz f,λt=>by rw[Fb,Fb,Fb,hf];grind⟩⟩
 exact key ws g w h
theorem lay_ok{n s:Nat}(hz:Szz n (s+73)){p0:Um}(b0:Bd s p0)(l0:p0.length<=10)(t0:Fg p0)(z0:p0.length≠0):∀(k:Nat) (g h0:Um),Pr1 g->g.length<=k->g.length<=n->Fg h0->(∀t,Fa p0 t=Fa h0 t*Fa g t)->∃ws,RE k g=some ws/\LW g ws
 | 0,g,_,pg,hk,_,_,_=>absurd pg.n (by omega)
 |
  k+1,g,h0,pg,hk,hn,th0,e0=>by
  simp only[RE];by_cases h2:g.length<2
  ·rw[if_pos h2,pg.one h2];exact⟨[],rfl,.nil⟩
  ·rw[if_neg h2];have bg:Bd (s+69) g:=XH b0 l0 t0 pg.t th0 z0 λt=>by rw[e0];grind
   obtain⟨h,w,h3,h4,h5,h6,h7⟩:=Qaj hz pg (by omega) hn bg b0 l0 t0 th0 z0 e0;obtain⟨ws,i1,i2⟩:=lay_ok hz b0 l0 t0 z0 k h (Gm h0 w) h6.pg (by omega) (by omega) (H5 _ _) λt=>by rw[e0,Gl,h6.e];grind
   refine⟨w::ws,?_,.cons h6 i2⟩;rw[h3];show(JM g (Gx g)).bind _=_;rw[h4];show(JS g h).bind _=_;rw[h5];show(RE k h).bind _=_;rw[i1];rfl
theorem Qhq{s:Nat}{p0:Um}(b0:Bd s p0)(l0:p0.length≤10)(t0:Fg p0)(z0:p0.length≠0)(hs:s+69+69≤16777216):∀(ws:Un) (g h0:Um),LW g ws->Fg h0->(∀t,Fa p0 t=Fa h0 t*Fa g t)->∃fs,IQ ws=some fs/\Lay (ws.map cz) (fs.map cz)/\∀f∈fs,Fg f
 | [],g,_,_,_,_=>⟨[],rfl,trivial,λf hf=>by cases hf⟩
 |
  [w],g,_,hl,_,_=>by
  cases hl with
  |cons hs hl=>exact⟨[w],rfl,λt=>rfl,λf hf=>by rw[Qk.1 hf];exact hs.pq.t⟩
 |
  w::v::ws,g,h0,hl,th0,e0=>by
  obtain⟨f,tf,ef⟩:=iR hl;cases hl with
  |
   @cons _ h _ _ hs1 hl =>
   have hpv:=(gW hl v (Qy ..)).1;obtain⟨fs,i1,i2,i3⟩:=Qhq b0 l0 t0 z0 hs (v::ws) h (Gm h0 w) hl (H5 _ _) λt=>by rw[e0,Gl,hs1.e];grind
   have ew:∀t,Fa p0 t=Fa w t*Fa (Gm h0 h) t:=λt=>by rw[e0,Gl,hs1.e];grind
   have bw:Bd (s+69) w:=XH b0 l0 t0 hs1.pq.t (H5 _ _) z0 ew;obtain⟨p1,p2⟩:=Ti t0 z0 ew;have lw:=Mx hs1.pq.t (H5 _ _) t0 ew p1 p2;have hq:=Qka (s:=s+69) hs1.pq.t hpv.t tf hs1.pq.n (by omega) bw hs λt=>by rw[ef];grind
   refine⟨f::fs,?_,⟨λt=>by rw[Fb,Fb,Fb,ef],i2⟩,λx hx=>?_⟩
   ·show(JS w v).bind _=_;rw[hq];show(IQ (v::ws)).bind _=_;rw[i1];rfl
   ·rcases Qn.1 hx with rfl|hx
    ·exact tf
    ·exact i3 x hx
def No:Un->Um
 | []=>[1]
 | [f]=>f
 |f::_::l=>Gm f (No l)
theorem rY:∀(fs:Un) (t:Rat),ev (PI (fs.map cz)) t=Fa (No fs) t
 | [],t=>by simp only[X9,PI,No,Fa];rw[Tg];push_cast;grind
 | [f],t=>by simp only[Z0,X9,PI,No];rw[Fb]
 |f::g::l,t=>by simp only[Z0,PI,No];rw[Fi,Fb,Gl,rY l]
theorem Bb(t:Rat):Fa [1] t=1:=by simp only[Fa];push_cast;grind
theorem OC:∀{w:Um} {ws fs:Un},Lay ((w::ws).map cz) (fs.map cz)->(∀f∈fs,Fg f)->(∀v∈w::ws,Fg v)->∃E,Fg E/\∀t,Fa w t=Fa (No fs) t*Fa E t
 |
  w,[],[f],h,_,_=>⟨[1],rfl,λt=>by
  have:=h t;rw[Fb,Fb]at this;rw[this,Bb];simp only[No];grind⟩
 |
  w,[v],[f,f2],h,_,hw=>⟨v,hw v (by simp),λt=>by
  have:=h.1 t;rw[Fb,Fb,Fb]at this;rw[this];simp only[No];rw[Gl,Bb];grind⟩
 |
  w,v::x::l,f::f2::fs,h,hf,hw=>by
  obtain⟨E,hE,e⟩:=OC (w:=x) (ws:=l) (fs:=fs) h.2.2 (λg hg=>hf g (by simp[hg])) (λg hg=>hw g (by simp at hg ⊢;exact .inr (.inr hg)));refine⟨Gm f2 E,H5 _ _,λt=>?_⟩;have a1:=h.1 t;have a2:=h.2.1 t;rw[Fb,Fb,Fb]at a1 a2;have e2:Fa (No (f::f2::fs)) t=Fa f t*Fa (No fs) t:=by simp only[No];rw[Gl]
  rw[a1,a2,e,e2,Gl];grind
 |w,[],[],h,_,_=>h.elim
 |w,[],_::_::_,h,_,_=>h.elim
 |w,[v],[],h,_,_=>h.elim
 |w,[v],[f],h,_,_=>h.2.elim
 |w,[v],_::_::_::_,h,_,_=>h.2.elim
 |w,v::x::l,[f],h,_,_=>h.2.elim
 |w,v::x::l,[],h,_,_=>h.elim
theorem YI{s:Nat}{p0:Um}(b0:Bd s p0)(l0:p0.length≤10)(t0:Fg p0)(z0:p0.length≠0)(hs:s+69≤16777216):∀(fs:Un) (i:Nat) (a E:Um),i % 2=0->Fg a->Fg E->(∀f∈fs,Fg f)->(∀t,Fa p0 t=Fa a t*Fa (No fs) t*Fa E t)->∃o,FI i a fs=some o/\Fg o/\∀t,Fa o t=Fa a t*Fa (No fs) t
 | [],i,a,E,hi,ta,_,_,_=>⟨a,rfl,ta,λt=>by simp only[No];rw[Bb];grind⟩
 |
  [f],i,a,E,hi,ta,tE,tf,hE=>by
  have e1:∀t,Fa p0 t=Fa (Gm a f) t*Fa E t:=λt=>by rw[hE,Gl];rfl
  have b1:=XH b0 l0 t0 (H5 a f) tE z0 e1;obtain⟨p1,p2⟩:=Ti t0 z0 e1;have hl:=Mx (H5 a f) tE t0 e1 p1 p2;refine⟨Gm a f,?_,H5 _ _,λt=>by rw[Gl];rfl⟩;simp only[FI];rw[if_pos hi,Ai (by omega) (U6 b1 (by omega))];rfl
 |
  f::g::fs,i,a,E,hi,ta,tE,tf,hE=>by
  have e0:∀t,Fa (No (f::g::fs)) t=Fa f t*Fa (No fs) t:=λt=>by simp only[No];rw[Gl]
  have e1:∀t,Fa p0 t=Fa (Gm a f) t*Fa (Gm (No fs) E) t:=λt=>by rw[hE,e0,Gl,Gl];grind
  have b1:=XH b0 l0 t0 (H5 a f) (H5 _ _) z0 e1;obtain⟨p1,p2⟩:=Ti t0 z0 e1;have hl:=Mx (H5 a f) (H5 _ _) t0 e1 p1 p2;obtain⟨o,o1,o2,o3⟩:=YI b0 l0 t0 z0 hs fs (i+2) (Gm a f) E (by omega) (H5 _ _) tE (λx hx=>tf x (by simp[hx])) λt=>by rw[hE,e0,Gl];grind
  refine⟨o,?_,o2,λt=>by rw[o3,e0,Gl];grind⟩;have h1:FI (i+1) (Gm a f) (g::fs)=FI (i+2) (Gm a f) fs:=by
   show(if (i+1) % 2=0 then _ else _)=_;rw[if_neg (by omega)]
  show(if i % 2=0 then(OX (Gm a f)).bind λq=>FI (i+1) q (g::fs)else _)=_;rw[if_pos hi,Ai (by omega) (U6 b1 (by omega))];exact h1.trans o1
structure Parts(p q o:List Int):Prop where
 sq:∃g,Sqp (Fj p) g q
 ws:∃ws:List (List Int),(∀w∈ws,Pr1 w/\ZA (cz w) (cz q))/\∀t,Fa (Fj p) t=ev (Ou (ws.map cz)) t
 oq:ZA (cz o) (cz q)
 ot:Fg o
 oh:∃h,Fg h/\∀t,Fa (Fj p) t=Fa o t*Fa h t
 os:∃S,∀t,Fa (Fj p) t=Fa o t*(ev S t*ev S t)
theorem Qjg{n s:Nat}{p:Um}(h:Okp n s p):∃q o,Pw p=some q/\cX p=some o/\Parts p q o:=by
 obtain⟨pp,hl,hb⟩:=h.pr;have hn:=h.z.1;have hpl:=h.l;have hs:=Qlh h.z;obtain⟨g,q,hq,sq⟩:=VW h;obtain⟨ws,w1,w2⟩:=lay_ok h.z hb (by omega) pp.t pp.n 66 (Fj p) [1] pp (by omega) (by omega) rfl λt=>by rw[Bb];grind
 obtain⟨fs,f1,f2,f3⟩:=Qhq hb (by omega) pp.t pp.n (by omega) ws (Fj p) [1] w2 rfl λt=>by rw[Bb];grind
 have hw:=Qvu w2;have hfirst:(∀w∈ws,Pr1 w/\ZA (cz w) (cz q))/\∃E,Fg E/\∀t,Fa q t=Fa (No fs) t*Fa E t:=by
  cases ws with
  |
   nil =>
   have e:fs=[]:=by
    cases fs with
    |nil=>rfl
    |cons f l=>exact f2.elim
   subst e;exact⟨(λw hw=>by cases hw),q,sq.pq.t,λt=>by simp only[No];rw[Bb];grind⟩
  |
   cons w ws =>
   have hwq:w=q:=by
    have w3:(if (Fj p).length<2 then some []else(OX (Gx (Fj p))).bind λd=>(JM (Fj p) d).bind λh=>(JS (Fj p) h).bind λw=>(RE 65 h).bind λl=>some (w::l))=some (w::ws):=w1;have hlen:¬(Fj p).length<2:=λh2=>by
     rw[if_pos h2]at w3;injection w3 with w3;cases w3
    rw[if_neg hlen]at w3;unfold Pw at hq;rw[if_neg hlen]at hq;obtain⟨d,d1,w3⟩:=Qd.1 w3;obtain⟨h,d2,w3⟩:=Qd.1 w3;obtain⟨w',d3,w3⟩:=Qd.1 w3;obtain⟨l,d4,w3⟩:=Qd.1 w3;rw[d1]at hq;have hq:(JM (Fj p) d).bind (λg=>JS (Fj p) g)=some q:=hq;rw[d2]at hq;have hq:JS (Fj p) h=some q:=hq;rw[d3]at hq;injection hq with hq;injection w3 with w3;injection w3 with w3 _;rw[<-w3,hq]
   subst hwq;have hall:=gW w2;exact⟨hall,OC f2 f3 λv hv=>(hall v hv).1.t⟩
 obtain⟨ha,E,tE,hE⟩:=hfirst;obtain⟨o,o1,o2,o3⟩:=YI hb (by omega) pp.t pp.n (by omega) fs 0 [1] (Gm E g) rfl rfl (H5 _ _) f3 λt=>by rw[Bb,Gl,sq.e,hE];grind
 have o3:∀t,Fa o t=Fa (No fs) t:=λt=>by rw[o3,Bb];grind
 refine⟨q,o,hq,?_,⟨g,sq⟩,⟨ws,ha,hw⟩,⟨cz E,λt=>by rw[Fb,Fb,Fb,hE,o3]⟩,o2,⟨Gm E g,H5 _ _,λt=>by rw[sq.e,hE,o3,Gl];grind⟩,?_⟩
 ·unfold cX;rw[if_neg pp.n,w1];show(IQ ws).bind _=_;rw[f1];exact o1
 ·obtain⟨S,hS⟩:=iJ f2;exact⟨S,λt=>by rw[hw,hS,rY,o3]⟩
theorem eM{s:Nat}:∀(k:Nat) (a b:Um),Fg a->Fg b->b.length≠0->b.length<k->b.length<a.length->a.length<=60->Bd s a->Bd s b->(s+8)*3^(a.length-1)<=16777216->(∀d,ZA d (cz a)->ZA d (cz b)->∃c:Rat,c≠0/\∀t,ev d t=c)->∃l,pZ k a b=some (b::l)/\SCl (cz a) (cz b) (l.map cz)
 | 0,_,_,_,_,_,h,_,_,_,_,_,_=>by omega
 |
  k+1,a,b,ta,tb,hb,hk,hab,hl,ba,bb,hs,hd=>by
  obtain⟨h1,h2,h3,u,v,up,vp,X,hX⟩:=NR ta tb hb hl;have h3:=h3 s ba bb;obtain⟨m,hm⟩:=nmE (a.length-b.length);have e1:a.length+1-b.length=m+1:=by omega
  rw[e1]at h3;have e2:s+(m+1)*(s+8)+8=(m+2)*(s+8):=by
   rw[show m+2=(m+1)+1 by omega,Xa (m+1)];omega
  have e3:(m+2)*(s+8)*3^(b.length-1)<=(s+8)*3^(a.length-1):=by
   rw[show a.length-1=m+(b.length-1) by omega,Xf,<-Xz,Zq (s+8)];exact Q0 _ (Q0 _ (Qv8 m (by omega)))
  have e4:s+(m+1)*(s+8)<=16777216:=by
   have:(m+2)*(s+8)<=(m+2)*(s+8)*3^(b.length-1):=Ys _ (Z2 (by decide));omega
  simp only[pZ];rw[if_neg hb,Ai (by omega) (U6 h3 e4)];show ∃l,((pZ k b (My (Tc a b))).bind λl=>some (b::l))=some (b::l)/\_;have lneg:(My (Tc a b)).length<=(Tc a b).length:=XI _;by_cases hr:(Tc a b).length=0
  ·have e:My (Tc a b)=[]:=Qj (by omega);rw[e];refine⟨[],?_,?_⟩
   ·obtain⟨j,rfl⟩:∃j,k=j+1:=⟨k-1,by omega⟩;rfl
   ·obtain⟨c,hc,hcc⟩:=hd (cz b) ⟨D9 (1 / u) X,λt=>by
     have:=hX t;rw[D7 hr]at this;have hu:1 / u*u=1:=Hg up;rw[Fb,Fb,Gu];have:Fa a t=1 / u*(u*Fa a t):=by grind
     rw[this,hX,D7 hr];grind⟩ (dvd_refl _)
    exact .base hc hcc
  ·have tn:Fg (My (Tc a b)):=Fz _ _;have hn0:(My (Tc a b)).length≠0:=λh0=>by
    have:=ZQ (c:=-1) h1 tn (by decide) λt=>by rw[GZ];grind
    omega
   obtain⟨l,i1,i2⟩:=eM (s:=s+(m+1)*(s+8)) k b (My (Tc a b)) tb tn hn0 (by omega) (by omega) (by omega) (U6 bb (by omega)) (MK h3) (by rw[e2];omega) λd d1 d2=>by
    refine hd d ?_ d1;obtain⟨y,hy⟩:=d1;obtain⟨z,hz⟩:=d2;have hu:1 / u*u=1:=Hg up;refine⟨D9 (1 / u) (Sy (G8 X y) (D9 (-v) z)),λt=>?_⟩;have a1:=hX t;have a2:=hy t;have a3:=hz t;rw[Fb]at a2 a3;rw[GZ]at a3;rw[Fb,Gu,G0,Fi,Gu];have:Fa a t=1 / u*(u*Fa a t):=by grind
    rw[this,a1,a2,show Fa (Tc a b) t=-(ev d t*ev z t) by grind];grind
   refine⟨My (Tc a b)::l,by rw[i1];rfl,?_⟩;rw[Z0];exact .step (q:=X) up vp (λt=>by rw[Fb,Fb,Fb,hX,GZ];clear i2 i1 hd h3 hs;grind) i2
theorem WO(x:Rat):∀(l:Un) (n:Nat) (s:Int),(l.foldl (P0 λp=>Re p x) (n,s)).1=n+tc x s (l.map cz)
 | [],n,s=>rfl
 |
  p::l,n,s=>by
  simp only[Z9,Z0,tc,P0];rw[Ns,Fb]
  split
  ·exact WO x l n s
  ·rw[WO x l]
   split <;> omega
theorem ZU(l:Un)(x:Rat):Dc l x=vv (l.map cz) x:=by
 have:=WO x l 0 0;unfold Dc Db vv;rw[this];omega
theorem Qgv{n s:Nat}(hz:Szz n (s+73)){P g q:Um}(sq:Sqp P g q)(lq:q.length<=n)(bq:Bd (s+69) q):∃d,OX (Gx q)=some d/\∃l,pZ 66 q (Fj d)=some l/\HF (cz q) ((q::l).map cz)/\(q.length<2->l=[]):=by
 have hn:=hz.1;have hs:=Qlh hz;have bd:=pP bq (by omega);have ld:=Nl q;refine⟨Gx q,Ai (by omega) (U6 bd (by omega)),?_⟩;have hq0:=sq.pq.n;by_cases h2:q.length<2
 ·have e:Fj (Gx q)=[]:=by rw[Qj (l:=Gx q) (by omega)];rfl
  rw[e];refine⟨[],rfl,.inl ⟨1,by decide,λt=>?_,rfl⟩,λ_=>rfl⟩;rw[Fb,sq.pq.one h2,Bb]
 ·have hdnz:(Gx q).length≠0:=λh=>by
   have h1:=B6 q (q.length-2);rw[Qj h,show q.length-2+1=q.length-1 by omega]at h1;have h3:q.getD (q.length-1) 0≠0:=H6 sq.pq.t (by omega);rcases Yf.1 (h1.symm.trans (by simp))with h4|h4
   ·exact h3 h4
   ·omega
  obtain⟨p1,p2,p3,p4,p5,p6,p7⟩:=Cz (p:=Gx q) (Fz _ _) hdnz;have hdl:Fu (Gx q)=Fu q*((q.length-1:Nat):Int):=by
   have hld:(Gx q).length=q.length-1:=by
    rcases Zb (Gx q).length (q.length-1)with h|h
    ·have h1:=B6 q (q.length-2);rw[Qi,Qw (by omega),show q.length-2+1=q.length-1 by omega]at h1;have h3:q.getD (q.length-1) 0≠0:=H6 sq.pq.t (by omega);rcases Yf.1 (h1.symm.trans (by simp))with h4|h4
     ·exact absurd h4 h3
     ·omega
    ·omega
   unfold Fu;rw[hld,B6,show q.length-1-1+1=q.length-1 by omega]
  have hfac:0<Hp (Gx q):=by
   have hlp:0<Fu (Gx q):=by rw[hdl];exact Int.mul_pos sq.pq.l (by omega)
   have hc:=JF (p:=Gx q) (Fz _ _) hdnz;unfold Hp;rw[if_neg (by omega)];unfold Pn at hc ⊢;omega
  have hfq:((0:Int):Rat)<(Hp (Gx q):Rat):=Jn.2 hfac;have hfq:(0:Rat)<(Hp (Gx q):Rat):=by simpa using hfq
  have hff:1 / (Hp (Gx q):Rat)*(Hp (Gx q):Rat)=1:=Hg hfq;have hz2:=hz.2;have hp3:(s+73+8)*3^(q.length-1)<=16777216:=by
   have:(s+73+8)*3^(q.length-1)<=(s+73+8)*3^(n-1):=Zu _ (Zs (by decide) (by omega));rw[Xz]at hz2;omega
  obtain⟨l,h3,h4⟩:=eM (s:=s+73) 66 q (Fj (Gx q)) sq.pq.t p1 (by omega) (by omega) (by omega) (by omega) (U6 bq (by omega)) (p5 _ bd) hp3 λd d1 d2=>sq.num d1 (by
   obtain⟨z,hz⟩:=d2;exact⟨D9 (Hp (Gx q)) z,λt=>by
    have:=hz t;rw[Fb]at this;rw[Tt,<-Ox,p7,this,Gu];grind⟩)
  refine⟨Fj (Gx q)::l,h3,.inr ⟨cz (Fj (Gx q)),l.map cz,1 / (Hp (Gx q):Rat),Ak (by decide) hfq,λt=>?_,h4,rfl⟩,λh=>absurd h h2⟩;rw[Fb,<-Ox,p7 t];grind
theorem chain_ok{n s:Nat}{p:Um}(h:Okp n s p):∃q l,Pw p=some q/\Eg p=some (q::l)/\HF (cz q) ((q::l).map cz)/\(q.length<2->l=[]):=by
 obtain⟨pp,hl,hb⟩:=h.pr;have hn:=h.z.1;have hpl:=h.l;obtain⟨g,q,hq,sq⟩:=VW h;have e1:∀t,Fa (Fj p) t=Fa q t*Fa g t:=λt=>by rw[sq.e];grind
 obtain⟨p1,p2⟩:=Ti pp.t pp.n e1;have hll:=Mx sq.pq.t sq.pg.t pp.t e1 p1 p2;obtain⟨d,d1,l,d2,d3⟩:=Qgv h.z sq (by omega) (XH hb (by omega) pp.t sq.pq.t sq.pg.t pp.n e1);refine⟨q,l,hq,?_,d3⟩;unfold Eg;rw[hq];show(if q.length=0 then none else _)=_;rw[if_neg sq.pq.n,d1];show(pZ 66 q (Fj d)).bind _=_;rw[d2];rfl
structure Gr(D M k:Nat)(q:Rat):Prop where
 u:∃u:Int,q*((D*2^k:Nat):Rat)=(u:Rat)
 b:Fl q<=(M:Rat)
 d:0<D
theorem nat_pos{n:Nat}(h:0<n):(0:Rat)<(n:Rat):=by
 have:((0:Nat):Rat)<(n:Rat):=Vp.2 h;simpa using this
theorem qU{D M k:Nat}{q:Rat}(h:Gr D M k q):Gr D M (k+1) q:=by
 obtain⟨u,hu⟩:=h.u;refine⟨⟨u*2,?_⟩,h.b,h.d⟩;rw[Zr,<-Xz]
 push_cast at hu ⊢
 rw[<-hu];grind
theorem Qia{D M k:Nat}{a b:Rat}(ha:Gr D M k a)(hb:Gr D M k b):Gr D M (k+1) ((a+b) / 2):=by
 obtain⟨u,hu⟩:=ha.u;obtain⟨v,hv⟩:=hb.u;have h2:(a+b) / 2*2=a+b:=Hg (by decide);refine⟨⟨u+v,?_⟩,?_,ha.d⟩
 ·rw[Zr,<-Xz]
  push_cast at hu hv ⊢
  rw[<-hu,<-hv];generalize (a+b) / 2=c at *;generalize (D:Rat)*2^k=z at *;have:c*(z*2)=(c*2)*z:=by grind
  rw[this,h2];grind
 ·have h3:=ha.b;have h4:=hb.b;rw[Ml]at *;constructor <;> grind
theorem Qvh{D M k:Nat}{q:Rat}(h:Gr D M k q):q.den<=D*2^k:=by
 obtain⟨u,hu⟩:=h.u;have hp:0<D*2^k:=J5 h.d (Z2 (by decide));have e:q=Rat.divInt u ((D*2^k:Nat):Int):=by
  rw[<-Ra,<-hu];have hz:=nat_pos hp;rw[show((((D*2^k:Nat):Int)):Rat)=((D*2^k:Nat):Rat) from rfl];rw[J6];have:=Ws ((D*2^k:Nat):Rat) (by grind);generalize ((D*2^k:Nat):Rat)=z at *;have:q*z*z⁻¹=q*(z*z⁻¹):=by grind
  rw[this,‹z*z⁻¹=1›];grind
 rw[e,Wm,if_neg (by omega),Xh];exact Jq _ _
theorem LK{a b k:Nat}{z:Int}(h:z.natAbs<=a*(b*2^k)):Ff z<=Ff (a:Int)+Ff (b:Int)+k:=by
 have h1:Ff (a:Int)<=Ff (a:Int):=Ql _;have h2:Ff (b:Int)<=Ff (b:Int):=Ql _;rw[Sj]at h1 h2 ⊢;rw[Xh]at h1 h2;rw[Xf,Xf];have h3:a*b<2^Ff (a:Int)*2^Ff (b:Int):=Nat.mul_lt_mul_of_lt_of_le h1 (Yk h2) (Z2 (by decide));have h4:=Xo h3 (show 0<2^k from Z2 (by decide));rw[<-Xz]at h;omega
theorem qW{D M k B:Nat}{q:Rat}(h:Gr D M k q)(hM:0<M)(hs:Ff (D:Int)+Ff (M:Int)+k<=B):Qs B q:=by
 have hd:=Qvh h;have hden:=nat_pos q.den_pos;have h1:(q.num.natAbs:Rat)<=((M*(D*2^k):Nat):Rat):=by
  have e:(q.num:Rat)=q*(q.den:Rat):=by
   have:(q.num:Rat) / (((q.den:Int)):Rat)=q:=by rw[Ra,Z5]
   have h2:(q.num:Rat) / (q.den:Rat)*(q.den:Rat)=q.num:=Zj (by grind);rw[show(q.num:Rat) / (q.den:Rat)=q from this]at h2;exact h2.symm
  rw[<-S6,e];have h3:=He (x:=q) (y:=(q.den:Rat)) (b:=((D*2^k:Nat):Rat)) h.b (by
   have:Fl (q.den:Rat)=(q.den:Rat):=by unfold Fl;rw[if_neg (by grind)]
   rw[this];exact Zm.2 hd)
  push_cast at h3 ⊢;exact h3
 have h1:=Zm.1 h1;refine⟨?_,?_⟩
 ·have:=LK (z:=q.num) h1;omega
 ·have:=LK (z:=(q.den:Int)) (a:=M) (b:=D) (k:=k) (by
   rw[Xh];exact Qa hd (Nat.le_mul_of_pos_left _ hM))
  omega
theorem bW(a b:Rat):mid a b=(a+b) / 2:=by
 unfold mid;rw[<-Ra];have ha:(a.num:Rat)=a*(a.den:Rat):=by
  have:(a.num:Rat) / (((a.den:Int)):Rat)=a:=by rw[Ra,Z5]
  have h2:(a.num:Rat) / (a.den:Rat)*(a.den:Rat)=a.num:=Zj (by have:=nat_pos a.den_pos;grind);rw[show(a.num:Rat) / (a.den:Rat)=a from this]at h2;exact h2.symm
 have hb:(b.num:Rat)=b*(b.den:Rat):=by
  have:(b.num:Rat) / (((b.den:Int)):Rat)=b:=by rw[Ra,Z5]
  have h2:(b.num:Rat) / (b.den:Rat)*(b.den:Rat)=b.num:=Zj (by have:=nat_pos b.den_pos;grind);rw[show(b.num:Rat) / (b.den:Rat)=b from this]at h2;exact h2.symm
 have pa:=nat_pos a.den_pos;have pb:=nat_pos b.den_pos;rw[Kc,X1,X1,X1,X1,ha,hb];rw[show(((a.den:Int)):Rat)=(a.den:Rat) from rfl,show(((b.den:Int)):Rat)=(b.den:Rat) from rfl,show(((2:Int)):Rat)=2 from rfl];generalize (a.den:Rat)=x at *;generalize (b.den:Rat)=y at *;have hxy:=I1 (I1 pa pb) (show(0:Rat)<2 by decide);have h1:(a*x*y+b*y*x) / (x*y*2)*(x*y*2)=a*x*y+b*y*x:=Hg hxy;have h2:(a+b) / 2*2=a+b:=Hg (by decide);generalize (a*x*y+b*y*x) / (x*y*2)=c at *;generalize (a+b) / 2=d at *;have h3:(x*y*2)*(c-d)=0:=by grind
 rcases Y3.1 h3 with h4|h4 <;> grind
theorem NS(a b:Rat):EB a b=a-b:=by
 unfold EB;rw[Rat.sub_def',<-Rat.divInt_ofNat]
 push_cast;rfl
theorem eO{a b:Rat}:Hf a b=0↔a=b:=by
 constructor
 ·intro h;have h1:¬a<b:=λh'=>by have:=Ba.2 h';omega
  have h2:¬b<a:=λh'=>by have:=Eo.2 h';omega
  grind
 ·intro h;subst h;exact E5 a
theorem MN{a b:Rat}:Hf a b<=0↔a<=b:=by
 constructor
 ·intro h;have h2:¬b<a:=λh'=>by have:=Eo.2 h';omega
  grind
 ·intro h;have h2:¬0<Hf a b:=λh'=>by have:=Eo.1 h';grind
  omega
theorem MM{a b:Rat}:0<=Hf a b↔b<=a:=by
 constructor
 ·intro h;have h2:¬a<b:=λh'=>by have:=Ba.2 h';omega
  grind
 ·intro h;have h2:¬Hf a b<0:=λh'=>by have:=Ba.1 h';grind
  omega
theorem Ng(a b:Rat):Hf a b=1/\b<a\/Hf a b=0/\a=b\/Hf a b=-1/\a<b:=by
 have hb:=QP a b;rcases(show Hf a b=1\/Hf a b=0\/Hf a b=-1 by omega)with h|h|h
 ·exact .inl ⟨h,Eo.1 (by omega)⟩
 ·exact .inr (.inl ⟨h,eO.1 h⟩)
 ·exact .inr (.inr ⟨h,Ba.1 (by omega)⟩)
theorem gK(p:Um)(x:Rat):low p x=Py (cz p) x:=by
 unfold low Py;rw[Ns,Ns,Fb,Ox]
theorem Cm{t:Tm}(h:t.lo<t.hi)(q:Rat):Ft t q=cq (cz t.p) t.lo t.hi q:=by
 have hp:t.point=false:=by
  unfold Tm.point;have:¬0<=Hf t.lo t.hi:=λh'=>by have:=MM.1 h';grind
  simp[this]
 unfold Ft cq;rw[hp,if_neg (by decide)];have e1:(Hf q t.lo<=0)=(q<=t.lo):=propext MN;have e2:(0<Hf q t.hi)=(t.hi<q):=propext Eo;rw[Ns,gK,<-Fb];simp only[e1,e2]
theorem Mz{t:Tm}:t.point=true↔t.hi<=t.lo:=by
 unfold Tm.point;rw[decide_eq_true_iff];exact MM
theorem Ig{t:Tm}(h:t.lo=t.hi)(q:Rat):Ft t q=Hf t.lo q:=by
 have hp:t.point=true:=Mz.2 (by rw[h];exact Qr);unfold Ft;rw[if_pos hp]
theorem Qus{c:Rat->Int}{x:Rat}(h:∀q,c q=Hf x q):Cut c where
 val q:=by rw[h];have:=QP x q;omega
 mono q r hqr h1:=by
  rw[h]at h1 ⊢;rcases Ng x q with⟨e,e'⟩|⟨e,e'⟩|⟨e,e'⟩
  ·exact absurd e h1
  ·rcases Ng x r with⟨f,f'⟩|⟨f,f'⟩|⟨f,f'⟩ <;> grind
  ·rcases Ng x r with⟨f,f'⟩|⟨f,f'⟩|⟨f,f'⟩ <;> grind
 up q h1:=by
  rw[h]at h1;have h2:=Eo.1 (show 0<Hf x q by omega);have h3:(x+q) / 2*2=x+q:=Hg (by decide);have h4:=Eo.2 (show(x+q) / 2<x by grind);have:=QP x ((x+q) / 2);exact⟨(x+q) / 2,by grind,by rw[h];omega⟩
 dn q h1:=by
  rw[h]at h1;have h2:=Ba.1 (show Hf x q<0 by omega);have h3:(x+q) / 2*2=x+q:=Hg (by decide);have h4:=Ba.2 (show x<(x+q) / 2 by grind);have:=QP x ((x+q) / 2);exact⟨(x+q) / 2,by grind,by rw[h];omega⟩
 lo:=⟨x-1,by
  rw[h];have h4:=Eo.2 (show x-1<x by grind);have:=QP x (x-1);omega⟩
 hi:=⟨x+1,by
  rw[h];have h4:=Ba.2 (show x<x+1 by grind);have:=QP x (x+1);omega⟩
def lim(t:Tm):Nat:=if t.point=true then 3300000 else 1000000
theorem yU{t:Tm}(h:t.point=false):lim t=1000000:=by simp[lim,h]
theorem Qvn(t:Tm):1000000<=lim t:=by unfold lim;split <;> omega
theorem Qvo(t:Tm):lim t<=3300000:=by unfold lim;split <;> omega
structure Va(t:Tm):Prop where
 i:t.lo=t.hi/\Fa t.p t.lo=0\/∃L,Vt (cz t.p) L t.lo t.hi
 tr:Fg t.p
 n:t.p.length<=9
 n2:2<=t.p.length
 b:Bd 3300000 t.p
 bi:t.point=false->Bd 1260 t.p
 sc:t.point=false->∃(l:List (List Int)) (P g:List Int),pZ 66 t.p (Fj (Gx t.p))=some l/\Sqp P g t.p/\Vt (cz t.p) ((t.p::l).map cz) t.lo t.hi
 g:∃D M k,Gr D M k t.lo/\Gr D M k t.hi/\0<M/\Ff (D:Int)+Ff (M:Int)+k<=lim t
theorem Va.pt{t:Tm}(h:Va t)(hp:t.point=true):t.lo=t.hi/\Fa t.p t.lo=0:=by
 rcases h.i with e|⟨L,V⟩
 ·exact e
 ·have:=Mz.1 hp;have:=V.l;grind
theorem Va.iv{t:Tm}(h:Va t)(hp:t.point=false):∃L,Vt (cz t.p) L t.lo t.hi:=by
 rcases h.i with⟨e,_⟩|h
 ·have:=Mz.2 (show t.hi<=t.lo by rw[e];exact Qr);rw[hp]at this;cases this
 ·exact h
theorem Va.cut{t:Tm}(h:Va t):Cut (Ft t):=by
 rcases h.i with⟨e,_⟩|⟨L,V⟩
 ·exact Qus (x:=t.lo) λq=>Ig e q
 ·have:Ft t=cq (cz t.p) t.lo t.hi:=funext λq=>Cm V.l q
  rw[this];exact V.cut
theorem Qw5{c:Rat->Int}(hc:Cut c){p:Up}{x:Rat}(h:c x=0)(h0:ev p x=0):I5 p c:=by
 rcases YQ hc p with h1|⟨s,hs,h1⟩
 ·exact h1
 ·have:=rJ hc h h1;rw[Gs.2 h0]at this;exact absurd this.symm hs
theorem Va.van{t:Tm}(h:Va t):I5 (cz t.p) (Ft t):=by
 have hc:=h.cut;rcases h.i with⟨e,h0⟩|⟨L,V⟩
 ·exact Qw5 hc (x:=t.lo) (by rw[Ig e,E5]) (by rw[Fb];exact h0)
 ·have:Ft t=cq (cz t.p) t.lo t.hi:=funext λq=>Cm V.l q
  rw[this];exact V.van
theorem Va.qs{t:Tm}(h:Va t):Qs 3300000 t.lo/\Qs 3300000 t.hi:=by
 obtain⟨D,M,k,h1,h2,h3,h4⟩:=h.g;have h4:=Qa h4 (Qvo t);exact⟨qW h1 h3 h4,qW h2 h3 h4⟩
theorem Va.qsn{t:Tm}(h:Va t)(hp:t.point=false):Qs 1000000 t.lo/\Qs 1000000 t.hi:=by
 obtain⟨D,M,k,h1,h2,h3,h4⟩:=h.g;rw[yU hp]at h4;exact⟨qW h1 h3 h4,qW h2 h3 h4⟩
theorem Va.tb{t:Tm}(h:Va t):Tb t:=⟨⟨h.tr,by have:=h.n;omega,U6 h.b (by omega)⟩,h.qs.1.mono (t:=16777216) (by omega),h.qs.2.mono (t:=16777216) (by omega)⟩
structure Hv(t:Tm)(D M k:Nat)(u:Tm):Prop where
 p:u.p=t.p
 i:u.lo=u.hi/\Fa u.p u.lo=0\/∃L,Vt (cz u.p) L u.lo u.hi
 c:∀q,Ft u q=Ft t q
 l:Gr D M k u.lo
 h:Gr D M k u.hi
theorem uR{c:Rat->Int}(hc:Cut c){x:Rat}(h:c x=0)(q:Rat):c q=Hf x q:=by
 rcases Ng x q with⟨e,e'⟩|⟨e,e'⟩|⟨e,e'⟩
 ·rw[e];exact hc.mono' e' (by omega)
 ·rw[e,<-e',h]
 ·rw[e];exact hc.mono x q e' (by omega)
theorem yZ{t u:Tm}{D M k:Nat}(hu:Hv t D M k u)(hM:0<M)(hs:Ff (D:Int)+Ff (M:Int)+(k+1)<=16777216):∃v,yQ u=some v/\Hv t D M (k+1) v/\v.hi-v.lo<=(u.hi-u.lo) / 2/\u.lo<=v.lo/\v.hi<=u.hi:=by
 have h2:∀x:Rat,x / 2*2=x:=λx=>Hg (by decide)
 unfold yQ;rcases hu.i with⟨e,h0⟩|⟨L,V⟩
 ·have hp:u.point=true:=Mz.2 (by rw[e];exact Qr);rw[if_pos hp];refine⟨u,rfl,⟨hu.p,hu.i,hu.c,qU hu.l,qU hu.h⟩,?_,Qr,Qr⟩;rw[e];have:=h2 (u.hi-u.hi);grind
 ·have hp:u.point=false:=by
   have:¬u.point=true:=λh=>by have:=Mz.1 h;have:=V.l;grind
   simpa using this
  rw[hp,if_neg (by decide)];obtain⟨m,hm⟩:=nmE ((u.lo+u.hi) / 2);have hmg:Gr D M (k+1) m:=by rw[hm];exact Qia hu.l hu.h
  have hmm:=h2 (u.lo+u.hi);rw[<-hm]at hmm;have hl:=V.l;have hl1:u.lo<m:=by grind
  have hl2:m<u.hi:=by grind
  have hch:chq (mid u.lo u.hi)=some m:=by
   rw[bW,<-hm];have:=qW hmg hM hs;unfold chq;rw[if_pos ⟨this.1,this.2⟩]
  have hcm:mid u.lo u.hi=m:=by rw[bW,<-hm]
  rw[hch];show ∃v,some (if Ft u m=0 then(⟨u.p,m,m⟩:Tm)else if Ft u m=-1 then ⟨u.p,u.lo,m⟩else ⟨u.p,m,u.hi⟩)=some v/\_;have hw:=h2 (u.hi-u.lo);have hcu:=Cm hl;have hcut:=V.cut;have hcut':Cut (Ft u):=by rw[show Ft u=cq (cz u.p) u.lo u.hi from funext hcu];exact hcut
  by_cases c0:Ft u m=0
  ·rw[if_pos c0];have hz:Fa u.p m=0:=by
    have:=SZ hcut (q:=m) (by rw[<-hcu];exact c0) V.van;rwa[Fb]at this
   refine⟨_,rfl,⟨hu.p,.inl ⟨rfl,hz⟩,λq=>?_,hmg,hmg⟩,by show m-m<=_;grind,by show u.lo<=m;grind,by show m<=u.hi;grind⟩;rw[Ig rfl,<-hu.c];exact(uR hcut' c0 q).symm
  ·rw[if_neg c0];by_cases c1:Ft u m=-1
   ·rw[if_pos c1];have hv:vv L m=vv L u.hi:=V.eq_hi hl1 (Qt hl2) (by rw[<-hcu,c1];decide);have V':Vt (cz u.p) L u.lo m:=⟨V.s,hl1,by rw[hv];exact V.v⟩;refine⟨_,rfl,⟨hu.p,.inr ⟨L,V'⟩,λq=>?_,qU hu.l,hmg⟩,by show m-u.lo<=_;grind,Qr,by show m<=u.hi;grind⟩;rw[Cm hl1,<-hu.c,hcu];exact V.uniq V'.cut (Aj Qr) (by rw[UC hl1 hl2];decide) V'.van q
   ·rw[if_neg c1];have c2:Ft u m=1:=by rcases hcut'.val m with h|h|h <;> omega
    have hv:vv L m=vv L u.lo:=V.eq_lo hl1 (Qt hl2) (by rw[<-hcu];exact c2);have V':Vt (cz u.p) L m u.hi:=⟨V.s,hl2,by rw[hv];exact V.v⟩;refine⟨_,rfl,⟨hu.p,.inr ⟨L,V'⟩,λq=>?_,hmg,qU hu.h⟩,by show u.hi-m<=_;grind,by show u.lo<=m;grind,Qr⟩;rw[Cm hl2,<-hu.c,hcu];exact V.uniq V'.cut (Aj (by grind)) V'.hi1 V'.van q
def Bh(a b:Tm):Prop:=∃q,Ft a q=-1/\Ft b q=1
def TEq(a b:Tm):Prop:=∀q,Ft a q=Ft b q
theorem tri{a b:Tm}(ha:Cut (Ft a))(hb:Cut (Ft b)):Bh a b\/TEq a b\/Bh b a:=by
 rcases Classical.em (TEq a b)with h|h
 ·exact .inr (.inl h)
 ·obtain⟨q,hq⟩:=Classical.not_forall.1 h;obtain⟨r,⟨h1,h2⟩|⟨h1,h2⟩⟩:=uH ha hb hq
  ·exact .inl ⟨r,h1,h2⟩
  ·exact .inr (.inr ⟨r,h2,h1⟩)
theorem I0{a b:Tm}(ha:Cut (Ft a))(hb:Cut (Ft b))(h:Bh a b)(h':Bh b a):False:=by
 obtain⟨q,q1,q2⟩:=h;obtain⟨r,r1,r2⟩:=h';have:=ha.lt r2 q1;have:=hb.lt q2 r1;grind
theorem tX{p:Um}(k:Nat):(p.getD k 0).natAbs<=2^Hb p:=by
 have h:Ff (p.getD k 0)<=Hb p:=by
  have key:∀(l:Um) (n:Nat),n≤l.foldl (λn z=>max n (Ff z)) n/\∀z∈l,Ff z≤l.foldl (λn z=>max n (Ff z)) n:=by
   intro l
   induction l with
   |nil=>exact λn=>⟨Ql _,λz hz=>by cases hz⟩
   |
    cons y l ih =>
    intro n;obtain⟨i1,i2⟩:=ih (max n (Ff y));refine⟨by simp only[Z9];omega,λz hz=>?_⟩;simp only[Z9];rcases Qn.1 hz with rfl|hz
    ·omega
    ·exact i2 z hz
  exact Fv (s:=Hb p) (λz hz=>(key p 0).2 z hz) k
 rw[Sj]at h;omega
theorem Qsj{s:Nat}:∀(B:Um),(∀z∈B,z.natAbs≤2^s)->gB B≤2^(s+(B.length-1))
 | [],_=>Qh _
 |
  c::B,h=>by
  have h1:=h c (Qy ..);have h2:=Qsj B λz hz=>h z (Qg _ hz)
  simp only[gB,Q5,Yb];have h3:2^s<=2^(s+B.length):=Zs (by decide) (by omega);cases B with
  |nil=>simp only[gB,Xl]at *;omega
  |
   cons d B =>
   have h4:2^(s+(d::B).length)=2*2^(s+((d::B).length-1)):=by
    rw[Zq,<-Zr];congr 1
   rw[h4];omega
def Si(A B:Um):Nat:=(Hb A+Hb B+(A.length+B.length)+8)*(2*(A.length+B.length-2)-1)
theorem Qhv{A B:Um}(tA:Fg A)(tB:Fg B)(nA:A.length<=9)(nB:B.length<=9)(lA:2<=A.length)(lB:2<=B.length){R d:Rat}(hR:1<=R)(dp:0<d)
 (hs:∀e:Rat,0<e->∃q r,Fl q<=R/\Fl r<=R/\d<=Fl (q-r)/\Fl (q-r)*((2^(Si A B+1):Nat):Rat)<=1/\Fl (Fa A q)<e/\Fl (Fa B r)<e):False:=by
 obtain⟨a,ha⟩:∃a,A.length=a+1:=⟨A.length-1,by omega⟩;obtain⟨b,hb⟩:∃b,B.length=b+1:=⟨B.length-1,by omega⟩;obtain⟨s,hsd⟩:=nmE (Hb A+Hb B+b);obtain⟨N,hN⟩:∃N,b*(2*(a*b))+a*(2*(a*b)-b)=N:=⟨_,rfl⟩;have hNt:N<=2^(a+9):=by
  rw[<-hN];have hab:∀a b:Fin 9,b.1*(2*(a.1*b.1))+a.1*(2*(a.1*b.1)-b.1)<=2^(a.1+9):=by decide
  exact hab ⟨a,by omega⟩ ⟨b,by omega⟩
 have hK:Si A B=(s+a+10)*(2*(a+b-1)+1):=by
  unfold Si;rw[ha,hb,hsd,show a+1+(b+1)-2=a+b by omega,show 2*(a+b)-1=2*(a+b-1)+1 by omega];congr 1;omega
 have h0A:A.getD a 0≠0:=by have:=H6 tA (by omega);rwa[ha]at this
 have h0B:B.getD b 0≠0:=by have:=H6 tB (by omega);rwa[hb]at this
 have hp:∀m,1<=2^m:=λm=>Z2 (by decide)
 refine Qvd (N:=N) (D:=2^(Si A B-1)) ha hb h0A h0B (by omega) (by omega) (h:=2^s) (hp s) (λk=>Qa (tX k) (Zs (by decide) (by omega))) ?_ hN ?_ hR dp λe ep=>?_
 ·refine Qa (Qsj (s:=Hb B) B λz hz=>?_) (Zs (by decide) (by omega));obtain⟨i,hi⟩:=Zk.1 hz;have:=tX (p:=B) i;rwa[Qi,hi]at this
 ·have h1:2*(N*2^s)<=2^(s+a+10):=by
   have:N*2^s<=2^(a+9)*2^s:=Q0 _ hNt;rw[<-Xf]at this;rw[show s+a+10=(a+9+s)+1 by omega,Zr];omega
  have h2:N*2^s<=2^(s+a+9):=by
   rw[show s+a+9=(a+9)+s by omega,Xf];exact Q0 _ hNt
  have h3:=Nat.pow_le_pow_left h1 (2*(a+b-1));have h4:=Zc h2 h3;rw[<-Ks,<-Xf]at h4;rw[<-Xz];refine Qa h4 (Zs (by decide) ?_);rw[hK,Xj,Yw];omega
 ·obtain⟨q,r,h1,h2,h3,h4,h5,h6⟩:=hs e ep;refine⟨q,r,h1,h2,h3,?_,h5,h6⟩;have hK1:1<=Si A B:=by
   rw[hK];exact J5 (by omega) (by omega)
  have e1:2^(Si A B+1)=4*2^(Si A B-1):=by
   obtain⟨m,hm⟩:∃m,Si A B=m+1:=⟨Si A B-1,by omega⟩;rw[hm,Yb,Zr,Zr];omega
  rw[e1]at h4
  push_cast at h4 ⊢
  exact h4
theorem Hv.lo'{t:Tm}{D M k:Nat}{u:Tm}(h:Hv t D M k u):Ft t u.lo=1\/Ft t u.lo=0/\u.lo=u.hi:=by
 rw[<-h.c];rcases h.i with⟨e,_⟩|⟨L,V⟩
 ·exact .inr ⟨by rw[Ig e,E5],e⟩
 ·exact .inl (by rw[Cm V.l];exact Aj Qr)
theorem Hv.hi'{t:Tm}{D M k:Nat}{u:Tm}(h:Hv t D M k u):Ft t u.hi=0\/Ft t u.hi=-1:=by
 rw[<-h.c];rcases h.i with⟨e,_⟩|⟨L,V⟩
 ·exact .inl (by rw[Ig e,e,E5])
 ·rw[Cm V.l];have:=V.hi1;rcases V.cut.val u.hi with h|h|h <;> omega
theorem Hv.le{t:Tm}{D M k:Nat}{u:Tm}(h:Hv t D M k u):u.lo<=u.hi:=by
 rcases h.i with⟨e,_⟩|⟨L,V⟩
 ·rw[e];exact Qr
 ·exact Qt V.l
theorem Qhw{a b:Tm}(ha:Va a)(hb:Va b){D M k D' M' k':Nat}{u v:Tm}(hu:Hv a D M k u)(hv:Hv b D' M' k' v)(h:Bh a b):1<(v.hi-u.lo)*((2^(Si a.p b.p+1):Nat):Rat):=by
 rcases Gi ((v.hi-u.lo)*((2^(Si a.p b.p+1):Nat):Rat)) 1 with hw|hw
 ·exfalso;have ca:=ha.cut;have cb:=hb.cut;obtain⟨m,m1,m2⟩:=h;obtain⟨m',hm',m3⟩:=ca.dn m m1;have hpow:(0:Rat)<=((2^(Si a.p b.p+1):Nat):Rat):=Xi;obtain⟨R,hR⟩:=nmE (Fl u.lo+Fl m'+Fl m+Fl v.hi+1);have n1:=Hx u.lo;have n2:=Hx m';have n3:=Hx m;have n4:=Hx v.hi;refine Qhv (R:=R) (d:=m-m') ha.tr hb.tr ha.n hb.n ha.n2 hb.n2 (by grind) (by grind) λe ep=>?_
  obtain⟨q,q1,q2,q3⟩:∃q,u.lo<=q/\q<=m'/\Fl (Fa a.p q)<e:=by
   rcases hu.lo' with h1|⟨h1,_⟩
   ·obtain⟨x,y,hx,hy,hq⟩:=ha.van e ep;rcases Gi x u.lo with e1|e1
    ·exact⟨u.lo,Qr,Qt (ca.lt h1 m3),by rw[<-Fb];exact hq u.lo e1 (Qt (ca.lt h1 hy))⟩
    ·exact⟨x,Qt e1,Qt (ca.lt hx m3),by rw[<-Fb];exact hq x Qr (Qt (ca.lt hx hy))⟩
   ·refine⟨u.lo,Qr,?_,by rw[<-Fb,SZ ca h1 ha.van,Rl];exact ep⟩;rcases Gi u.lo m' with e1|e1
    ·exact e1
    ·have:=ca.mono m' u.lo e1 (by omega);omega
  obtain⟨r,r1,r2,r3⟩:∃r,r<=v.hi/\m<=r/\Fl (Fa b.p r)<e:=by
   rcases hv.hi' with h1|h1
   ·refine⟨v.hi,Qr,?_,by rw[<-Fb,SZ cb h1 hb.van,Rl];exact ep⟩;rcases Gi m v.hi with e1|e1
    ·exact e1
    ·have:=cb.mono v.hi m e1 (by omega);omega
   ·obtain⟨x,y,hx,hy,hq⟩:=hb.van e ep;rcases Gi v.hi y with e1|e1
    ·exact⟨v.hi,Qr,Qt (cb.lt m2 h1),by rw[<-Fb];exact hq v.hi (Qt (cb.lt hx h1)) e1⟩
    ·exact⟨y,Qt e1,Qt (cb.lt m2 hy),by rw[<-Fb];exact hq y (Qt (cb.lt hx hy)) Qr⟩
  have e1:Fl (q-r)=r-q:=by unfold Fl;split <;> grind
  have b1:Fl q<=R:=by
   have:=FG (R:=R) (x:=u.lo) (y:=m') (t:=q) (by grind) (by grind) q1 q2;exact this
  have b2:Fl r<=R:=by
   have:=FG (R:=R) (x:=m) (y:=v.hi) (t:=r) (by grind) (by grind) r2 r1;exact this
  refine⟨q,r,b1,b2,by rw[e1];grind,?_,q3,r3⟩;rw[e1];have:=Ze (show r-q<=v.hi-u.lo by grind) hpow;exact Zl this hw
 ·exact hw
theorem wG{a b:Tm}(ha:Va a)(hb:Va b){D M k D' M' k':Nat}{u v:Tm}(hu:Hv a D M k u)(hv:Hv b D' M' k' v)(hne:¬TEq a b)(h:Lb u v=true):Bh a b:=by
 have h1:=(of_decide_eq_true h).1;have h1:=MN.1 h1;rcases tri ha.cut hb.cut with h2|h2|⟨m,m1,m2⟩
 ·exact h2
 ·exact absurd h2 hne
 ·exfalso;have e1:m<u.hi:=by
   rcases Gi u.hi m with e|e
   ·rcases Classical.em (u.hi=m)with e'|e'
    ·have:=hu.hi';rw[e']at this;omega
    ·have:=ha.cut.mono u.hi m (by grind) (by have:=hu.hi';omega);omega
   ·exact e
  have e2:v.lo<m:=by
   rcases Gi m v.lo with e|e
   ·rcases Classical.em (m=v.lo)with e'|e'
    ·have:=hv.lo';rw[<-e']at this;omega
    ·have:=hb.cut.mono m v.lo (by grind) (by omega);have:=hv.lo';omega
   ·exact e
  grind
theorem oQ{a b:Tm}(ha:Va a)(hb:Va b){D M k D' M' k':Nat}{u v:Tm}(hu:Hv a D M k u)(hv:Hv b D' M' k' v)(hlt:Bh a b)(h:Lb u v≠true):v.lo<=u.hi:=by
 rcases Gi v.lo u.hi with e|e
 ·exact e
 ·refine absurd (decide_eq_true ⟨MN.2 (Qt e),λh'=>?_⟩) h;have:=eO.1 h'.2;grind
theorem rE(m:Nat):((2^(m+1):Nat):Rat)=2*((2^m:Nat):Rat):=by rw[Zr];push_cast;grind
def Qtb(a b:Tm)(r:Tm×Tm×Int):Prop:=r.2.2=-1/\Bh a b\/r.2.2=1/\Bh b a
theorem Qck(A B:Um):Si A B=Si B A:=by unfold Si;rw[Nat.add_comm A.length,Nat.add_comm (Hb A)]
theorem Qxq{a b:Tm}(ha:Va a)(hb:Va b)(hne:¬TEq a b){D M D' M':Nat}(hM:0<M)(hM':0<M'):∀(i j:Nat) (u v:Tm) (k k':Nat) (W:Rat),2*i+1<=j->Hv a D M k u->Hv b D' M' k' v->Ff (D:Int)+Ff (M:Int)+(k+j)<=16777216->Ff (D':Int)+Ff (M':Int)+(k'+j)<=16777216->u.hi-u.lo<=W->v.hi-v.lo<=W->2*W*((2^(Si a.p b.p+1):Nat):Rat)<=((2^i:Nat):Rat)->∃r,AL j u v=some r/\Qtb a b r:=by
 intro i;have step:∀(j:Nat) (u v:Tm) (k k':Nat),Hv a D M k u->Hv b D' M' k' v->Ff (D:Int)+Ff (M:Int)+(k+(j+1))<=16777216->Ff (D':Int)+Ff (M':Int)+(k'+(j+1))<=16777216->(∃r,AL (j+1) u v=some r/\Qtb a b r)\/(Lb u v≠true/\Lb v u≠true/\∃u' v' k1 k1',AL (j+1) u v=AL j u' v'/\Hv a D M k1 u'/\Hv b D' M' k1' v'/\k1<=k+1/\k1'<=k'+1/\(v.hi-v.lo<=u.hi-u.lo/\u'.hi-u'.lo<=(u.hi-u.lo) / 2/\v'=v\/u.hi-u.lo<=v.hi-v.lo/\v'.hi-v'.lo<=(v.hi-v.lo) / 2/\u'=u)):=by
  intro j u v k k' hu hv hs hs';by_cases h1:Lb u v=true
  ·exact .inl ⟨(u,v,-1),by simp only[AL];rw[if_pos h1],.inl ⟨rfl,wG ha hb hu hv hne h1⟩⟩
  by_cases h2:Lb v u=true
  ·exact .inl ⟨(u,v,1),by simp only[AL];rw[if_neg h1,if_pos h2],.inr ⟨rfl,wG hb ha hv hu (λh=>hne λq=>(h q).symm) h2⟩⟩
  refine .inr ⟨h1,h2,?_⟩;by_cases h3:0<=Hf (EB u.hi u.lo) (EB v.hi v.lo)
  ·obtain⟨x,x1,x2,x3,_⟩:=yZ hu hM (by omega);refine⟨x,v,k+1,k',?_,x2,hv,by omega,by omega,.inl ⟨?_,x3,rfl⟩⟩
   ·simp only[AL];rw[if_neg h1,if_neg h2,if_pos h3,x1];rfl
   ·have:=MM.1 h3;rwa[NS,NS]at this
  ·obtain⟨x,x1,x2,x3,_⟩:=yZ hv hM' (by omega);refine⟨u,x,k,k'+1,?_,hu,x2,by omega,by omega,.inr ⟨?_,x3,rfl⟩⟩
   ·simp only[AL];rw[if_neg h1,if_neg h2,if_neg h3,x1];rfl
   ·rcases Gi (u.hi-u.lo) (v.hi-v.lo)with e|e
    ·exact e
    ·refine absurd (MM.2 ?_) h3;rw[NS,NS];exact Qt e
 induction i with
 |
  zero =>
  intro j u v k k' W hj hu hv hs hs' hW hW' hK;obtain⟨j,rfl⟩:∃m,j=m+1:=⟨j-1,by omega⟩;rcases step j u v k k' hu hv hs hs' with h|⟨h1,h2,_⟩
  ·exact h
  ·exfalso;have hpow:(0:Rat)<=((2^(Si a.p b.p+1):Nat):Rat):=Xi;rw[Ve]at hK;rcases tri ha.cut hb.cut with h3|h3|h3
   ·have h4:=oQ ha hb hu hv h3 h1;have h5:=Qhw ha hb hu hv h3;have h6:=Ze (show v.hi-u.lo<=2*W by clear step;grind) hpow;have h7:((1:Nat):Rat)=1:=rfl;rw[h7]at hK;clear step;grind
   ·exact hne h3
   ·have h4:=oQ hb ha hv hu h3 h2;have h5:=Qhw hb ha hv hu h3;rw[Qck]at h5;have h6:=Ze (show u.hi-v.lo<=2*W by clear step;grind) hpow;have h7:((1:Nat):Rat)=1:=rfl;rw[h7]at hK;clear step;grind
 |
  succ i ih =>
  intro j u v k k' W hj hu hv hs hs' hW hW' hK;obtain⟨j,rfl⟩:∃m,j=m+2:=⟨j-2,by omega⟩;have hd:∀x:Rat,x / 2*2=x:=λx=>Hg (by decide)
  rcases step (j+1) u v k k' hu hv hs hs' with h|⟨_,_,u1,v1,k1,k1',e1,hu1,hv1,hk1,hk1',hw1⟩
  ·exact h
  ·rw[e1];rcases step j u1 v1 k1 k1' hu1 hv1 (by omega) (by omega)with h|⟨_,_,u2,v2,k2,k2',e2,hu2,hv2,hk2,hk2',hw2⟩
   ·exact h
   ·rw[e2];have a1:=hd (u.hi-u.lo);have a2:=hd (v.hi-v.lo);have a3:=hd (u1.hi-u1.lo);have a4:=hd (v1.hi-v1.lo);have a5:=hd W;have b1:=hu.le;have b2:=hv.le;have b3:=hu1.le;have b4:=hv1.le;have b5:=hu2.le;have b6:=hv2.le;have hww:u2.hi-u2.lo<=W / 2/\v2.hi-v2.lo<=W / 2:=by
     clear step ih;rcases hw1 with⟨c1,c2,rfl⟩|⟨c1,c2,rfl⟩ <;> rcases hw2 with⟨d1,d2,rfl⟩|⟨d1,d2,rfl⟩ <;> constructor <;> grind
    refine ih j u2 v2 k2 k2' (W / 2) (by omega) hu2 hv2 (by omega) (by omega) hww.1 hww.2 ?_;rw[rE i]at hK;have:2*(W / 2)*((2^(Si a.p b.p+1):Nat):Rat)*2=2*W*((2^(Si a.p b.p+1):Nat):Rat):=by clear step ih hw1 hw2;grind
    clear step ih hw1 hw2;grind
def CmpOk(a b:Tm)(c:Int):Prop:=c=-1/\Bh a b\/c=0/\TEq a b\/c=1/\Bh b a
theorem Va.hv0{t:Tm}(h:Va t):∃D M k,Hv t D M k t/\0<M/\Ff (D:Int)+Ff (M:Int)+k<=lim t:=by
 obtain⟨D,M,k,h1,h2,h3,h4⟩:=h.g;exact⟨D,M,k,⟨rfl,h.i,λ_=>rfl,h1,h2⟩,h3,h4⟩
theorem cU{a:Tm}(ha:Va a)(hp:a.point=true)(q:Rat):Ft a q=Hf a.lo q:=Ig (ha.pt hp).1 q
theorem Qg0{a b:Tm}(hb:Va b){x:Rat}(hx:∀q,Ft a q=Hf x q):CmpOk a b (-Ft b x):=by
 have cb:=hb.cut;rcases cb.val x with h|h|h
 ·obtain⟨q,q1,q2⟩:=cb.up x h;refine .inl ⟨by omega,q,?_,q2⟩;rw[hx];rcases Ng x q with⟨e,e'⟩|⟨e,e'⟩|⟨e,e'⟩ <;> grind
 ·exact .inr (.inl ⟨by omega,λq=>by rw[hx,uR cb h]⟩)
 ·obtain⟨q,q1,q2⟩:=cb.dn x h;refine .inr (.inr ⟨by omega,q,q2,?_⟩);rw[hx];rcases Ng x q with⟨e,e'⟩|⟨e,e'⟩|⟨e,e'⟩ <;> grind
theorem CmpOk.symm{a b:Tm}{c:Int}(h:CmpOk a b c):CmpOk b a (-c):=by
 rcases h with⟨h1,h2⟩|⟨h1,h2⟩|⟨h1,h2⟩
 ·exact .inr (.inr ⟨by omega,h2⟩)
 ·exact .inr (.inl ⟨by omega,λq=>(h2 q).symm⟩)
 ·exact .inl ⟨by omega,h2⟩
theorem Qzl:Szz 9 1260:=⟨by decide,by decide⟩
theorem FU(g:Um)(lo hi:Rat):FW g lo hi=true↔nP (cz g) lo hi:=by
 unfold FW nP;rw[decide_eq_true_iff,Ns,gK,Fb]
theorem fB{g:Um}(tg:Fg g)(hn:g.length≠0){lo hi:Rat}(h:nP (cz g) lo hi):1<g.length:=by
 rcases Zb 1 g.length with e|e
 ·exact e
 ·exfalso;obtain⟨c,rfl⟩:∃c,g=[c]:=Kr.1 (by omega);have hc:c≠0:=by have:=H6 tg (by simp);simpa using this
  have hv:∀t,ev (cz [c]) t=(c:Rat):=λt=>by rw[Fb];simp only[Fa];grind
  have hs:Fh (c:Rat)≠0:=λh=>XN hc (Gs.1 h)
  unfold nP at h;rw[hv,Aq (by rw[hv];exact hs),hv]at h;rcases h with h|h
  ·exact hs h
  ·exact h rfl
theorem LY{q:Rat}:Fl q<=((2^Ff q.num:Nat):Rat):=by
 have h1:Ff q.num<=Ff q.num:=Ql _;rw[Sj]at h1;have e:(q.num:Rat)=q*(q.den:Rat):=by
  have:(q.num:Rat) / (((q.den:Int)):Rat)=q:=by rw[Ra,Z5]
  have h2:(q.num:Rat) / (q.den:Rat)*(q.den:Rat)=q.num:=Zj (by have:=nat_pos q.den_pos;grind);rw[show(q.num:Rat) / (q.den:Rat)=q from this]at h2;exact h2.symm
 have hd:(1:Rat)<=(q.den:Rat):=by
  have:((1:Nat):Rat)<=(q.den:Rat):=Zm.2 q.den_pos;exact this
 have h2:Fl q<=Fl (q.num:Rat):=by
  rw[e,Ip];have:Fl (q.den:Rat)=(q.den:Rat):=by unfold Fl;rw[if_neg (by grind)]
  rw[this];have:=Cw (a:=Fl q) (c:=1) (Hx q) Qr (by decide) hd;grind
 rw[S6]at h2;exact Zl h2 (Zm.2 (Yk h1))
theorem SX{a:Tm}{w:Nat}(h:Ff a.lo.num+Ff a.hi.num<=w):a.hi-a.lo<=((2^(w+1):Nat):Rat):=by
 have h1:=LY (q:=a.lo);have h2:=LY (q:=a.hi);have h3:((2^Ff a.lo.num:Nat):Rat)<=((2^w:Nat):Rat):=Zm.2 (Zs (by decide) (by omega));have h4:((2^Ff a.hi.num:Nat):Rat)<=((2^w:Nat):Rat):=Zm.2 (Zs (by decide) (by omega));rw[rE];rw[Ml]at h1 h2;grind
theorem O5{p:Um}{s:Nat}(h:Bd s p):Hb p<=s:=by
 have:=Mk h p.length;rwa[Q6]at this
theorem Qlb{a b:Tm}(ha:Va a)(hb:Va b)(pa:a.point=false)(pb:b.point=false):Mb a b<=9000000:=by
 have q1:=ha.qsn pa;have q2:=hb.qsn pb;have l1:=ha.n;have l2:=hb.n;have s1:=O5 (ha.bi pa);have s2:=O5 (hb.bi pb);have b1:=q1.1.1;have b2:=q1.2.1;have b3:=q2.1.1;have b4:=q2.2.1;have:4*(a.p.length+b.p.length)*(Hb a.p+Hb b.p+(a.p.length+b.p.length)+8)<=4*18*2600:=Zc (by omega) (by omega);unfold Mb;omega
theorem Qeg{a b:Tm}(ha:Va a)(hb:Va b)(pa:a.point=false)(pb:b.point=false)(hne:¬TEq a b):∃r,AL (Mb a b) a b=some r/\Qtb a b r:=by
 obtain⟨D,M,k,h1,h2,h3⟩:=ha.hv0;obtain⟨D',M',k',h1',h2',h3'⟩:=hb.hv0;rw[yU pa]at h3;rw[yU pb]at h3';have hst:=Qlb ha hb pa pb;obtain⟨w,hw⟩:=nmE (Ff a.lo.num+Ff a.hi.num+Ff b.lo.num+Ff b.hi.num);obtain⟨K,hK⟩:=nmE (Hb a.p+Hb b.p+(a.p.length+b.p.length)+8);obtain⟨n,hn⟩:=nmE (a.p.length+b.p.length);have l1:=ha.n2;have l2:=hb.n2;have hsteps:Mb a b=64+2*w+4*n*K:=by unfold Mb;rw[hw,hK,hn]
 have hg:Si a.p b.p=K*(2*(n-2)-1):=by unfold Si;rw[hK,hn]
 have hgle:Si a.p b.p+5*K<=2*n*K:=by
  rw[hg,Zq K,<-X5];exact Q0 _ (by omega)
 have hKp:8<=K:=by omega
 refine Qxq ha hb hne h2 h2' (31+w+2*n*K) (Mb a b) a b k k' ((2^(w+1):Nat):Rat) ?_ h1 h1' (by omega) (by omega) (SX (by omega)) (SX (by omega)) ?_
 ·rw[hsteps,Xj,Xz 4,Xz 2 n];omega
 ·have e:2*(2^(w+1))*(2^(Si a.p b.p+1))<=2^(31+w+2*n*K):=by
   rw[Zq 2,<-Zr,<-Xf];exact Zs (by decide) (by omega)
  have:=Zm.2 e
  push_cast at this ⊢
  exact this
theorem UN{a b:Tm}(ha:Va a)(hb:Va b):∃c,UM a b=some c/\CmpOk a b c:=by
 unfold UM;by_cases pa:a.point=true
 ·rw[if_pos pa];exact⟨_,rfl,Qg0 hb (cU ha pa)⟩
 rw[if_neg pa];by_cases pb:b.point=true
 ·rw[if_pos pb];have:=(Qg0 ha (cU hb pb)).symm;rw[Int.neg_neg]at this;exact⟨_,rfl,this⟩
 rw[if_neg pb];have pa:a.point=false:=by simpa using pa
 have pb:b.point=false:=by simpa using pb
 obtain⟨L,V⟩:=ha.iv pa;obtain⟨L',V'⟩:=hb.iv pb;have eqa:∀q,Ft a q=cq (cz a.p) a.lo a.hi q:=Cm V.l;have eqb:∀q,Ft b q=cq (cz b.p) b.lo b.hi q:=Cm V'.l;obtain⟨lo,hlo⟩:=nmE (if 0<Hf b.lo a.lo then b.lo else a.lo);obtain⟨hi,hhi⟩:=nmE (if Hf b.hi a.hi<0 then b.hi else a.hi);show ∃c,(if Hf (if 0<Hf b.lo a.lo then b.lo else a.lo) (if Hf b.hi a.hi<0 then b.hi else a.hi)<0 then _ else _)=some c/\_;rw[<-hlo,<-hhi];have e1:(0<Hf b.lo a.lo)=(a.lo<b.lo):=propext Eo;have e2:(Hf b.hi a.hi<0)=(b.hi<a.hi):=propext Ba;have e3:(Hf lo hi<0)=(lo<hi):=propext Ba;simp only[e1]at hlo;simp only[e2]at hhi;simp only[e3];obtain⟨g,g1,g2,g3,g4⟩:=Qh3 Qzl ha.tr hb.tr ha.n hb.n (ha.bi pa) (hb.bi pb) (by have:=ha.n2;omega);obtain⟨U,W,hc⟩:=g2.c;obtain⟨u,hu⟩:=g2.da;obtain⟨u',hu'⟩:=g2.db;have key:=V.same V' (g:=cz g) (u:=u) (u':=u') (U:=U) (W:=W) (k:=1) (by decide) hu hu' (λt=>by rw[Fb,Fb,Fb,hc];grind) (a:=lo) (b:=hi) (by rw[hlo];split <;> grind) (by rw[hlo];split <;> grind) (by rw[hlo];split <;> simp) (by rw[hhi];split <;> grind) (by rw[hhi];split <;> grind) (by rw[hhi];split <;> simp);have hTE:(∀q,cq (cz a.p) a.lo a.hi q=cq (cz b.p) b.lo b.hi q)↔TEq a b:=by
  unfold TEq;constructor
  ·intro h q;rw[eqa,eqb];exact h q
  ·intro h q;rw[<-eqa,<-eqb];exact h q
 rw[hTE]at key;have fin:¬TEq a b->∃c,((AL (Mb a b) a b).bind λr=>some r.2.2)=some c/\CmpOk a b c:=λhne=>by
  obtain⟨r,r1,r2⟩:=Qeg ha hb pa pb hne;refine⟨r.2.2,by rw[r1];rfl,?_⟩;rcases r2 with h|h
  ·exact .inl h
  ·exact .inr (.inr h)
 by_cases hl:lo<hi
 ·rw[if_pos hl,g1];show ∃c,(if 1<g.length/\FW g lo hi=true then some 0 else(AL (Mb a b) a b).bind λr=>some r.2.2)=some c/\_;by_cases hh:FW g lo hi=true
  ·have hq:=(FU g lo hi).1 hh;rw[if_pos ⟨fB g2.t g2.n hq,hh⟩];exact⟨0,rfl,.inr (.inl ⟨rfl,key.1 ⟨hl,hq⟩⟩)⟩
  ·rw[if_neg λh=>hh h.2];exact fin λh=>hh ((FU g lo hi).2 (key.2 h).2)
 ·rw[if_neg hl];exact fin λh=>hl (key.2 h).1
def SgT(p:Um)(a:Tm)(s:Int):Prop:=s=0/\I5 (cz p) (Ft a)\/s≠0/\NZ (cz p) (Ft a) s
theorem Qwl{p:Um}{c:Rat->Int}(hc:Cut c){x:Rat}(h:c x=0):Re p x=0/\I5 (cz p) c\/Re p x≠0/\NZ (cz p) c (Re p x):=by
 rw[Ns,<-Fb];rcases YQ hc (cz p)with h1|⟨s,hs,h1⟩
 ·exact .inl ⟨Gs.2 (SZ hc h h1),h1⟩
 ·have:=rJ hc h h1;rw[this];exact .inr ⟨hs,h1⟩
theorem QK{l:Un}{lo hi:Rat}(h:lo<=hi):Ts l lo hi=(vv (l.map cz) lo:Int)-(vv (l.map cz) hi:Int):=by
 unfold Ts;rw[if_neg λh'=>by have:=Ba.1 h';grind,ZU,ZU]
theorem Qwm{p q:Um}{L:Uq}(hp:Fg p)(np:p.length<=9)(lp:2<=p.length)(hS:HF (cz q) L)(hpq:ZA (cz q) (cz p)){a:Tm}(ha:Va a){s:Int}(hnz:NZ (cz p) (Ft a) s){D M k:Nat}{x:Tm}(hx:Hv a D M k x)(hl:x.lo<x.hi)(hv:vv L x.lo≠vv L x.hi):1<(x.hi-x.lo)*((2^(Si a.p p+1):Nat):Rat):=by
 rcases Gi ((x.hi-x.lo)*((2^(Si a.p p+1):Nat):Rat)) 1 with hw|hw
 ·exfalso;have ca:=ha.cut;obtain⟨d,dp,x1,y1,c1,c2,hn⟩:=hnz;obtain⟨x2,x12,c3⟩:=ca.up x1 c1;obtain⟨y2,y12,c4⟩:=ca.dn y1 c2;have hpow:(0:Rat)<=((2^(Si a.p p+1):Nat):Rat):=Xi;obtain⟨z,zp,z1,z2⟩:=min2 (a:=x2-x1) (b:=y1-y2) (by clear hn;grind) (by clear hn;grind);obtain⟨R0,hR0,r1,r2⟩:=xG x.lo x.hi;obtain⟨u,hu⟩:=hpq;refine Qhv (R:=R0+1) (d:=z) ha.tr hp ha.n np ha.n2 lp (by clear hn;grind) zp λe ep=>?_
  obtain⟨q0,q1,q2,q3,q4,q5⟩:∃q0,x.lo<=q0/\q0<=x.hi/\x2<=q0/\q0<=y2/\Fl (Fa a.p q0)<e:=by
   rcases hx.lo' with h1|⟨h1,h2⟩
   ·obtain⟨x',y',hx',hy',hq⟩:=ha.van e ep;obtain⟨m,m1,m2,m3,m4⟩:∃m,Ft a m=1/\x.lo<=m/\x2<=m/\x'<=m:=by
     rcases Gi x.lo x2 with e1|e1
     ·rcases Gi x2 x' with e2|e2
      ·exact⟨x',hx',by clear hn hq;grind,e2,Qr⟩
      ·exact⟨x2,c3,e1,Qr,Qt e2⟩
     ·rcases Gi x.lo x' with e2|e2
      ·exact⟨x',hx',e2,by clear hn hq;grind,Qr⟩
      ·exact⟨x.lo,h1,Qr,Qt e1,Qt e2⟩
    refine⟨m,m2,?_,m3,Qt (ca.lt m1 c4),by rw[<-Fb];exact hq m m4 (Qt (ca.lt m1 hy'))⟩;rcases hx.hi' with h3|h3
    ·rcases Gi m x.hi with e1|e1
     ·exact e1
     ·have:=ca.mono x.hi m e1 (by omega);omega
    ·exact Qt (ca.lt m1 h3)
   ·exact absurd h2 (by clear hn;grind)
  obtain⟨b,hb⟩:=nmE (fX R0 u);have hb0:0<=b:=by rw[hb];exact XG hR0 u
  obtain⟨f,fp,_,hf⟩:=Hj (b:=b) (d:=if e<=d then e else d) hb0 (by split <;> assumption);obtain⟨r,r3,r4,r5⟩:=kX hS hl hv fp;have hrR:Fl r<=R0:=FG r1 r2 r3 r4;have hpr:Fl (Fa p r)<(if e<=d then e else d):=by
   rw[<-Fb,hu];have:=He (Qt r5) (SS hrR u);rw[<-hb]at this;exact Jr.1 λh=>absurd (Zl h this) (Jr.2 hf)
  have hpe:Fl (Fa p r)<e:=by split at hpr <;> (clear hn;grind)
  have hpd:Fl (Fa p r)<d:=by split at hpr <;> (clear hn;grind)
  have hrout:r<x1\/y1<r:=by
   rcases Gi x1 r with e1|e1
   ·rcases Gi r y1 with e2|e2
    ·have:=(hn r e1 e2).2;rw[Fb]at this;exact absurd this (Jr.2 hpd)
    ·exact .inr e2
   ·exact .inl e1
  have hqr:z<=Fl (q0-r):=by
   clear hn;rcases hrout with h|h
   ·have:Fl (q0-r)=q0-r:=by unfold Fl;split <;> grind
    rw[this];grind
   ·have:Fl (q0-r)=r-q0:=by unfold Fl;split <;> grind
    rw[this];grind
  have hq0R:Fl q0<=R0:=FG r1 r2 q1 q2;refine⟨q0,r,by clear hn;grind,by clear hn;grind,hqr,?_,q5,hpe⟩;have h1:Fl (q0-r)<=x.hi-x.lo:=by rw[Ml];clear hn;constructor <;> grind
  exact Zl (Ze h1 hpow) hw
 ·exact hw
theorem Qkw{p q:Um}{l:Un}(hp:Fg p)(np:p.length<=9)(lp:2<=p.length)(hS:HF (cz q) (l.map cz))(hpq:ZA (cz q) (cz p)){a:Tm}(ha:Va a){s:Int}(hnz:NZ (cz p) (Ft a) s){D M:Nat}(hM:0<M):∀(j i:Nat) (x:Tm) (k:Nat) (W:Rat),i+1<=j->Hv a D M k x->Ff (D:Int)+Ff (M:Int)+(k+j)<=16777216->x.hi-x.lo<=W->W*((2^(Si a.p p+1):Nat):Rat)<=((2^i:Nat):Rat)->∃u k',sgF l j x=some u/\Hv a D M k' u/\(u.point=true\/Ts l u.lo u.hi=0)
 | 0,i,x,k,W,h,_,_,_,_=>by omega
 |
  j+1,i,x,k,W,hj,hx,hs,hW,hK=>by
  simp only[sgF];by_cases h:x.point=true\/Ts l x.lo x.hi=0
  ·rw[if_pos h];exact⟨x,k,rfl,hx,h⟩
  ·rw[if_neg h];obtain⟨v,v1,v2,v3,_⟩:=yZ hx hM (by omega);rw[v1];show ∃u k',sgF l j v=some u/\_;have hpt:¬x.hi<=x.lo:=λh'=>h (.inl (Mz.2 h'))
   have hl:x.lo<x.hi:=by grind
   have hvv:vv (l.map cz) x.lo≠vv (l.map cz) x.hi:=λh'=>h (.inr (by rw[QK (Qt hl)];omega))
   have hg:=Qwm hp np lp hS hpq ha hnz hx hl hvv;have hpow:(0:Rat)<=((2^(Si a.p p+1):Nat):Rat):=Xi;have hd:∀x:Rat,x / 2*2=x:=λx=>Hg (by decide)
   cases i with
   |
    zero =>
    exfalso;rw[Ve]at hK;have:=Ze hW hpow;have h7:((1:Nat):Rat)=1:=rfl;rw[h7]at hK;grind
   |
    succ i =>
    refine Qkw hp np lp hS hpq ha hnz hM j i v (k+1) (W / 2) (by omega) v2 (by omega) ?_ ?_
    ·have:=hd (x.hi-x.lo);have:=hd W;grind
    ·rw[rE i]at hK;have:=hd W;have:W / 2*((2^(Si a.p p+1):Nat):Rat)*2=W*((2^(Si a.p p+1):Nat):Rat):=by grind
     grind
theorem rH{x y:Rat}:∀{ws:Uq},(∀w∈ws,Fh (ev w x)=Fh (ev w y))->Fh (ev (Ou ws) x)=Fh (ev (Ou ws) y)
 | [],_=>by simp only[Ou];rw[Tg,Tg]
 |
  w::l,h=>by
  simp only[Ou];rw[Fi,Fi,S0,S0,h w (Qy ..),rH λv hv=>h v (Qg _ hv)]
theorem Qda{p q o:Um}(hpt:Parts p q o)(tp:Fg p)(hp:p.length≠0){L:Uq}(hS:HF (cz q) L){x y:Rat}(hxy:x<y)(hv:vv L x=vv L y):∃s,s≠0/\∀z,x<z->z<=y->Fh (Fa p z)=s:=by
 obtain⟨ws,w1,w2⟩:=hpt.ws;obtain⟨_,_,_,_,_,p6,p7⟩:=Cz tp hp;have key:∀z,x<z->z≤y->∀w∈ws.map cz,Sm w x z:=λz h1 h2 w hw=>by
  obtain⟨v,hv',rfl⟩:=Za.1 hw;obtain⟨u,hu⟩:=(w1 v hv').2;have a1:=A5 hS h1;have a2:vv L y<=vv L z:=by
   rcases Classical.em (z=y)with e|e
   ·rw[e];exact Ql _
   ·exact A5 hS (by grind)
  exact KU hS hu h1 (by omega)
 have hval:∀z,Fa p z=(Hp p:Rat)*ev (Ou (ws.map cz)) z:=λz=>by rw[p7,w2]
 refine⟨Fh (Fa p y),λh0=>?_,λz h1 h2=>?_⟩
 ·rw[hval,S0]at h0;rcases Yf.1 h0 with h|h
  ·exact XN p6 (Gs.1 h)
  ·have:∀l:Uq,(∀w∈l,Fh (ev w y)≠0)->Fh (ev (Ou l) y)≠0:=by
    intro l
    induction l with
    |nil=>intro _;simp only[Ou];rw[Tg];decide
    |
     cons w l ih =>
     intro h;simp only[Ou];rw[Fi,S0];exact X7 (h w (Qy ..)) (ih λv hv=>h v (Qg _ hv))
   refine this _ (λw hw=>?_) h;have hs:=key y hxy Qr w hw;rw[hs.s];exact hs.n
 ·rw[hval,hval,S0,S0,rH (y:=y) λw hw=>(key z h1 h2 w hw).s.trans (key y hxy Qr w hw).s.symm]
theorem Qve{g p P:Um}{c:Rat->Int}(hc:Cut c)(hg:Gc g p P):I5 (cz g) c↔I5 (cz p) c/\I5 (cz P) c:=by
 constructor
 ·intro h;obtain⟨u,hu⟩:=hg.da;obtain⟨v,hv⟩:=hg.db;exact⟨Me hc hu h,Me hc hv h⟩
 ·rintro⟨h1,h2⟩
  obtain⟨U,V,hcc⟩:=hg.c;have a1:I5 (G8 U (cz p)) c:=Me hc (p:=cz p) (q:=U) (λt=>by rw[Fi];grind) h1;have a2:I5 (G8 V (cz P)) c:=Me hc (p:=cz P) (q:=V) (λt=>by rw[Fi];grind) h2;exact ND (λt=>by rw[Fb,hcc,Fi,Fi,Fb,Fb]) a1 a2
theorem Qk3{p:Um}(hp:Okp 9 1180 p){a:Tm}(ha:Va a):∃s,GM p a=some s/\SgT p a s:=by
 unfold GM;rw[if_neg hp.nz];have ca:=ha.cut;by_cases pa:a.point=true
 ·rw[if_pos pa];exact⟨_,rfl,Qwl ca (x:=a.lo) (by rw[cU ha pa,E5])⟩
 rw[if_neg pa];have pa:a.point=false:=by simpa using pa
 obtain⟨L,V⟩:=ha.iv pa;have eqa:∀q,Ft a q=cq (cz a.p) a.lo a.hi q:=Cm V.l;obtain⟨g,g1,g2,g3,g4⟩:=Qh3 Qzl hp.t ha.tr hp.l ha.n (U6 hp.b (by omega)) (ha.bi pa) hp.nz;obtain⟨u',hu'⟩:=g2.db;have hhas:=V.has hu' (a:=a.lo) (b:=a.hi) Qr V.l Qr;have hvan:=Qve ca g2;rw[show cq (cz a.p) a.lo a.hi=Ft a from(funext eqa).symm]at hhas;rw[g1];show ∃s,(if 1<g.length/\FW g a.lo a.hi=true then some 0 else _)=some s/\_;by_cases hh:FW g a.lo a.hi=true
 ·have hq:=(FU g _ _).1 hh;rw[if_pos ⟨fB g2.t g2.n hq,hh⟩];exact⟨0,rfl,.inl ⟨rfl,(hvan.1 (hhas.1 hq).1).1⟩⟩
 ·rw[if_neg λh=>hh h.2];have hnv:¬I5 (cz p) (Ft a):=λh=>hh ((FU g _ _).2 (hhas.2 ⟨hvan.2 ⟨h,ha.van⟩,by rw[eqa];exact Aj Qr,by rw[eqa];exact V.hi1⟩))
  rcases YQ ca (cz p)with h|⟨s,AN,hnz⟩
  ·exact absurd h hnv
  obtain⟨q,o,q1,q2,hpt⟩:=Qjg hp;obtain⟨q',l,r1,r2,hS,hl0⟩:=chain_ok hp;rw[q1]at r1;injection r1 with r1;subst r1;rw[r2];show ∃s,((sgF (q::l) (64+2*(Ff a.lo.num+Ff a.hi.num)+4*(a.p.length+p.length)*(Hb a.p+Hb p+(a.p.length+p.length)+8)) a).bind λx=>some (Re p x.hi))=some s/\_;obtain⟨w,hw⟩:=nmE (Ff a.lo.num+Ff a.hi.num);obtain⟨K,hK⟩:=nmE (Hb a.p+Hb p+(a.p.length+p.length)+8);obtain⟨n,hn⟩:=nmE (a.p.length+p.length);rw[<-hw,<-hK,<-hn];obtain⟨gg,sq⟩:=hpt.sq;obtain⟨_,_,_,_,_,pf0,pfe⟩:=Cz hp.t hp.nz;have hpq:ZA (cz q) (cz p):=⟨D9 (Hp p) (cz gg),λt=>by rw[Fb,Fb,Gu,Fb,pfe,sq.e];grind⟩;obtain⟨D,M,k,h1,h2,h3⟩:=ha.hv0;rw[yU pa]at h3;have b1:=(ha.qsn pa).1.1;have b2:=(ha.qsn pa).2.1;have l1:=ha.n;have l2:=hp.l;have l3:=ha.n2;have s1:=O5 (ha.bi pa);have s2:=O5 hp.b;have hst:4*n*K<=4*18*2466:=Zc (by omega) (by omega);have hend:∃u k',sgF (q::l) (64+2*w+4*n*K) a=some u/\Hv a D M k' u/\(u.point=true\/Ts (q::l) u.lo u.hi=0):=by
   by_cases hpl:p.length<2
   ·have hq1:(Fj p)=[1]:=hp.pr.1.one (by have:=hp.pr.2.1;omega);have hql:q.length<2:=by
     have e:=sq.e;rw[hq1]at e;obtain⟨p1,p2⟩:=Ti (c:=[1]) rfl (by simp) e;have:=Mx sq.pg.t sq.pq.t (c:=[1]) rfl e p1 p2;simp at this;omega
    have hbt:Ts (q::l) a.lo a.hi=0:=by
     rw[QK (Qt V.l),hl0 hql,sq.pq.one hql];have hv1:∀x:Rat,ev (cz [1]) x=1:=λx=>by rw[Fb,Bb]
     simp only[Z0,X9,vv,tc,hv1];omega
    refine⟨a,k,?_,h1,.inr hbt⟩;obtain⟨m,hm⟩:∃m,64+2*w+4*n*K=m+1:=⟨63+2*w+4*n*K,by omega⟩;rw[hm];simp only[sgF];rw[if_pos (.inr hbt)]
   ·have hg:Si a.p p=K*(2*(n-2)-1):=by unfold Si;rw[hK,hn]
    have hgle:Si a.p p+5*K<=2*n*K:=by
     rw[hg,Zq K,<-X5];exact Q0 _ (by omega)
    have hKp:8<=K:=by omega
    have hnK:2*n*K<=4*n*K:=Q0 _ (by omega);obtain⟨u,k',u1,u2,u3⟩:=Qkw hp.t hp.l (by omega) hS hpq ha hnz h2 (64+2*w+4*n*K) (2+w+2*n*K) a k ((2^(w+1):Nat):Rat) (by omega) h1 (by omega) (SX (by omega)) (by
     have e:(2^(w+1))*(2^(Si a.p p+1))<=2^(2+w+2*n*K):=by
      rw[<-Xf];exact Zs (by decide) (by omega)
     have:=Zm.2 e
     push_cast at this ⊢
     exact this)
    exact⟨u,k',u1,u2,u3⟩
  obtain⟨u,k',u1,u2,u3⟩:=hend;rw[u1];refine⟨_,rfl,.inr ?_⟩;have hfin:Re p u.hi=s:=by
   rcases u2.hi' with hz|hz
   ·have:=rJ ca hz hnz;rw[Ns,<-Fb];exact this
   ·rcases u2.i with⟨e,_⟩|⟨L',V'⟩
    ·have:=u2.c u.hi;rw[Ig e,e,E5]at this;omega
    ·have hup:u.point=false:=by
      have:¬u.point=true:=λh=>by have:=Mz.1 h;have:=V'.l;grind
      simpa using this
     rcases u3 with h|h
     ·rw[hup]at h;cases h
     ·rw[QK (Qt V'.l)]at h;obtain⟨s',hs',hps⟩:=Qda hpt hp.t hp.nz hS V'.l (by omega);obtain⟨d,dp,x,y,hx,hy,hq⟩:=hnz;have hlo1:Ft a u.lo=1:=by
       rcases u2.lo' with h|⟨_,h⟩
       ·exact h
       ·have:=V'.l;clear hps hq;grind
      obtain⟨m,m1,m2,m3⟩:=CP ca hlo1 hx;have e1:=(hq m (Qt m3) (Qt (ca.lt m1 hy))).1;have e2:=hps m m2 (Qt (ca.lt m1 hz));have e3:=hps u.hi V'.l Qr;rw[Ns,e3,<-e2,<-Fb,e1]
  rw[hfin];exact⟨AN,hnz⟩
structure Dp(p:List Int):Prop where
 t:Fg p
 l:p.length<=9
 b:Bd (1130+4*(9-p.length)) p
theorem iO:Szz 9 1253:=⟨by decide,by decide⟩
theorem Dp.ok{p:Um}(h:Dp p)(h0:p.length≠0):Okp 9 1180 p:=⟨iO,h.t,h0,h.l,U6 h.b (by omega)⟩
theorem Dp.der{p:Um}(h:Dp p):Dp (Gx p):=by
 have hl:=Nl p;have hl2:=h.l;refine⟨Fz _ _,by omega,?_⟩;by_cases h0:p.length=0
 ·rw[Qj (l:=Gx p) (by omega)];exact KH
 ·exact U6 (pP h.b (by omega)) (by omega)
def Fw(a:Tm)(p:Um):Int:=(GM p a).getD 0
theorem Qku{p:Um}(h:Dp p){a:Tm}(ha:Va a):GM p a=some (Fw a p)/\SgT p a (Fw a p):=by
 by_cases h0:p.length=0
 ·have e:p=[]:=Qj h0;subst e;refine⟨rfl,.inl ⟨rfl,λd dp=>?_⟩⟩;obtain⟨x,y,h1,h2,_⟩:=ha.cut.near (e:=1) (by decide);exact⟨x,y,h1,h2,λq _ _=>by simp only[cz,X9,ev,Rl];exact dp⟩
 ·obtain⟨s,h1,h2⟩:=Qk3 (h.ok h0) ha;have e:Fw a p=s:=by unfold Fw;rw[h1];rfl
  rw[e];exact⟨h1,h2⟩
theorem Qwi{c:Rat->Int}{p q:Up}{s:Int}(h:∀t,ev p t=ev q t)(hp:RS p c s):RS q c s:=by
 obtain⟨y,h1,h2⟩:=hp;exact⟨y,h1,λz h3 h4=>by rw[<-h];exact h2 z h3 h4⟩
theorem qK{a:Tm}(ha:Va a):∀(k:Nat) (p:Um),Dp p->p.length<=k->p.length≠0->RS (cz p) (Ft a) (Tw (Fw a) k p)/\Tw (Fw a) k p≠0
 | 0,p,_,h1,h2=>by omega
 |
  k+1,p,h,h1,h2=>by
  simp only[Tw];rw[if_neg h2];obtain⟨_,hs⟩:=Qku h ha;rcases hs with⟨e,hv⟩|⟨e,hn⟩
  ·rw[if_pos e];have hdn:(Gx p).length≠0:=λh0=>by
    by_cases h3:p.length=1
    ·obtain⟨c,rfl⟩:∃c,p=[c]:=Kr.1 h3;have hc:c≠0:=by have:=H6 h.t (by simp);simpa using this
     obtain⟨q,hq,_⟩:=rX ha.cut (hv (Fl (c:Rat)) (C6 (XN hc)));rw[Fb]at hq;have:Fa [c] q=(c:Rat):=by simp only[Fa];grind
     rw[this]at hq;grind
    ·have h4:=B6 p (p.length-2);rw[Qj h0,show p.length-2+1=p.length-1 by omega]at h4;have h5:p.getD (p.length-1) 0≠0:=H6 h.t (by omega);rcases Yf.1 (h4.symm.trans (by simp))with h6|h6
     ·exact h5 h6
     ·omega
   have hl:=Nl p;obtain⟨i1,i2⟩:=qK ha k (Gx p) h.der (by omega) hdn;exact⟨vM ha.cut hv (Qwi (λt=>by rw[Fb,Ox,Tt]) i1) i2,i2⟩
  ·rw[if_neg e];exact⟨zM ha.cut hn,e⟩
theorem Er{a:Tm}(ha:Va a){p:Um}(h:Dp p)(h0:p.length≠0):RS (cz p) (Ft a) (Hk (Fw a) p)/\Hk (Fw a) p≠0:=qK ha _ p h (Ql _) h0
theorem XS{a:Tm}:Hk (Fw a) []=0:=rfl
theorem Qpm{l:Um}:∀z∈l,z.natAbs≤most l:=by
 have key:∀(l:Um) (m:Nat),m≤l.foldl (λm z=>if m<z.natAbs then z.natAbs else m) m/\∀z∈l,z.natAbs≤l.foldl (λm z=>if m<z.natAbs then z.natAbs else m) m:=by
  intro l
  induction l with
  |nil=>exact λm=>⟨Ql _,λz hz=>by cases hz⟩
  |
   cons y l ih =>
   intro m;obtain⟨e,he⟩:=nmE (if m<y.natAbs then y.natAbs else m);have h1:m<=e/\y.natAbs<=e:=by rw[he];split <;> omega
   obtain⟨i1,i2⟩:=ih e;simp only[Z9];rw[<-he];refine⟨by omega,λz hz=>?_⟩;rcases Qn.1 hz with rfl|hz
   ·omega
   ·exact i2 z hz
 exact(key l 0).2
theorem BF{p:Um}(h:Fu p≠0):Gy p*((Fu p).natAbs:Rat)=((Fu p).natAbs:Rat)+((most (p.take (p.length-1)):Nat):Rat):=by
 unfold Gy;rw[<-Ra];have hp:0<(Fu p).natAbs:=by omega
 have:=nat_pos hp;rw[show((((Fu p).natAbs:Int)):Rat)=((Fu p).natAbs:Rat) from rfl,Hg this];rw[Kc];rfl
theorem aT{m:Nat}{x:Rat}(hx:1≤Fl x):∀(p:Um) (lp:p.length≠0),(∀z∈p.take (p.length-1),z.natAbs≤m)->Fu p≠0->(m:Rat)≤(Fl x-1)*((Fu p).natAbs:Rat)->((Fu p).natAbs:Rat)≤Fa p x*(((Int.sign (Fu p))*(if x<0/\p.length % 2=0 then -1 else 1):Int):Rat)
 | [],lp,_,_,_=>absurd rfl lp
 |
  [c],_,_,hc,_=>by
  have hl:Fu [c]=c:=rfl;rw[hl]at hc ⊢;rw[if_neg (by simp),Ub];have h1:Fa [c] x=(c:Rat):=by simp only[Fa];grind
  rw[h1];have h2:c*Int.sign c=(c.natAbs:Int):=Int.mul_sign_self c;have:=congrArg (λz:Int=>(z:Rat)) h2;rw[X1]at this;rw[this];exact Qr
 |
  c::d::p,_,hm,hc,hb=>by
  have hl:Fu (c::d::p)=Fu (d::p):=by unfold Fu;simp[List.getD_cons_succ]
  have ih:=aT hx (d::p) (by simp) (λz hz=>hm z (by
   have e:(c::d::p).take ((c::d::p).length-1)=c::(d::p).take ((d::p).length-1):=by simp
   rw[e];exact Qg _ hz)) (by rw[<-hl];exact hc) (by rw[<-hl];exact hb)
  rw[hl]at hc hb ⊢;have hcm:=hm c (by simp);obtain⟨s,hs⟩:∃s:Int,s=Int.sign (Fu (d::p)):=⟨_,rfl⟩;have hsv:s=1\/s=-1:=by
   rw[hs];rcases Ke hc with h|h
   ·exact .inr (J7 h)
   ·exact .inl (Yu h)
  rw[<-hs]at ih ⊢;obtain⟨ld,hld⟩:∃ld:Rat,ld=((Fu (d::p)).natAbs:Rat):=⟨_,rfl⟩;rw[<-hld]at ih hb ⊢;have hcq:Fl (c:Rat)<=(m:Rat):=by rw[S6];exact Zm.2 hcm
  rw[Ml]at hcq;have e1:Fa (c::d::p) x=(c:Rat)+x*Fa (d::p) x:=rfl;rw[e1];have hlen:(c::d::p).length % 2=0↔¬(d::p).length % 2=0:=by simp only[Q5];omega
  generalize Fa (d::p) x=y at *;generalize (m:Rat)=mm at *;generalize (c:Rat)=cc at *;have hx0:=hx;by_cases hneg:x<0
  ·have hq:Fl x=-x:=by unfold Fl;rw[if_pos hneg]
   rw[hq]at hx0 hb;by_cases hpar:(d::p).length % 2=0
   ·rw[if_pos ⟨hneg,hpar⟩]at ih;rw[if_neg λh=>(hlen.1 h.2) hpar];rcases hsv with rfl|rfl
    ·have ih:ld<=y*(-1):=by simpa using ih
     have:=Z1 ih (show 0<=-x by grind);have e:(((1:Int)*1:Int):Rat)=1:=rfl;rw[e];grind
    ·have ih:ld<=y*1:=by simpa using ih
     have:=Z1 ih (show 0<=-x by grind);have e:(((-1:Int)*1:Int):Rat)=-1:=rfl;rw[e];grind
   ·rw[if_neg λh=>hpar h.2]at ih;rw[if_pos ⟨hneg,hlen.2 hpar⟩];rcases hsv with rfl|rfl
    ·have ih:ld<=y*1:=by simpa using ih
     have:=Z1 ih (show 0<=-x by grind);have e:(((1:Int)*-1:Int):Rat)=-1:=rfl;rw[e];grind
    ·have ih:ld<=y*(-1):=by simpa using ih
     have:=Z1 ih (show 0<=-x by grind);have e:(((-1:Int)*-1:Int):Rat)=1:=rfl;rw[e];grind
  ·have hq:Fl x=x:=by unfold Fl;rw[if_neg hneg]
   rw[hq]at hx0 hb;rw[if_neg λh=>hneg h.1]at ih ⊢;rcases hsv with rfl|rfl
   ·have ih:ld<=y*1:=by simpa using ih
    have:=Z1 ih (show 0<=x by grind);have e:(((1:Int)*1:Int):Rat)=1:=rfl;rw[e];grind
   ·have ih:ld<=y*(-1):=by simpa using ih
    have:=Z1 ih (show 0<=x by grind);have e:(((-1:Int)*1:Int):Rat)=-1:=rfl;rw[e];grind
theorem pC{p:Um}(tp:Fg p)(lp:p.length≠0){x:Rat}(hx:Gy p<=Fl x):1<=Fl (Fa p x)/\(0<=x->Re p x=FZ p)/\(x<0->Re p x=ZB p):=by
 have hl:=Et tp lp;have hpos:0<(Fu p).natAbs:=by omega
 have h1:(1:Rat)<=((Fu p).natAbs:Rat):=by
  have:((1:Nat):Rat)<=((Fu p).natAbs:Rat):=Zm.2 hpos;exact this
 have hm0:(0:Rat)<=((most (p.take (p.length-1)):Nat):Rat):=Xi;have hb:=BF hl;have hx1:=Ze hx (show(0:Rat)<=((Fu p).natAbs:Rat) by grind);have hx2:1<=Fl x:=by
  rcases Gi 1 (Fl x)with h|h
  ·exact h
  ·exfalso;have:=Vz h (show(0:Rat)<((Fu p).natAbs:Rat) by grind);grind
 have key:=aT (m:=most (p.take (p.length-1))) hx2 p lp (λz hz=>Qpm z hz) hl (by grind);obtain⟨s,hs⟩:∃s:Int,s=Int.sign (Fu p)*(if x<0/\p.length % 2=0 then -1 else 1):=⟨_,rfl⟩;rw[<-hs]at key;have hsv:s=1\/s=-1:=by
  rw[hs];rcases Ke hl with h|h
  ·rw[J7 h];split <;> simp
  ·rw[Yu h];split <;> simp
 have hsg:Re p x=s/\1<=Fl (Fa p x):=by
  rw[Ns];rcases hsv with e|e
  ·rw[e]at key ⊢;have key:((Fu p).natAbs:Rat)<=Fa p x:=by simpa using key
   exact⟨Hz.2 (by grind),by unfold Fl;rw[if_neg (by grind)];grind⟩
  ·rw[e]at key ⊢;have key:((Fu p).natAbs:Rat)<=Fa p x*(-1):=by simpa using key
   exact⟨Pk.2 (by grind),by unfold Fl;rw[if_pos (by grind)];grind⟩
 refine⟨hsg.2,λh=>?_,λh=>?_⟩
 ·rw[hsg.1,hs,if_neg λh'=>by have:=h'.1;grind];unfold FZ;omega
 ·rw[hsg.1,hs];unfold ZB;by_cases he:p.length % 2=0
  ·rw[if_pos ⟨h,he⟩,if_pos he];omega
  ·rw[if_neg λh'=>he h'.2,if_neg he];omega
theorem JI{f g:Um->Int}:∀{l:Un} (s:Nat×Int),(∀p∈l,f p=g p)->l.foldl (P0 f) s=l.foldl (P0 g) s
 | [],s,_=>rfl
 |
  p::l,s,h=>by
  simp only[Z9];have e:P0 f s p=P0 g s p:=by unfold P0;rw[h p (List.mem_cons_self ..)]
  rw[e];exact JI _ λq hq=>h q (Qg _ hq)
theorem aU:∀(l:Un),(∀p∈l,Fg p/\p.length≠0)->∃X:Rat,0<X/\∀x,X≤x->(∀p∈l,Re p x=FZ p)/\∀p∈l,Re p (-x)=ZB p
 | [],_=>⟨1,by decide,λx _=>⟨(λp hp=>by cases hp),(λp hp=>by cases hp)⟩⟩
 |
  p::l,h=>by
  obtain⟨X,hX,hl⟩:=aU l λq hq=>h q (Qg _ hq)
  obtain⟨tp,lp⟩:=h p (Qy ..);refine⟨X+Fl (Gy p),by have:=Hx (Gy p);grind,λx hx=>?_⟩;have hb0:=Hx (Gy p);have hb1:Gy p<=Fl (Gy p):=by unfold Fl;split <;> grind
  obtain⟨l1,l2⟩:=hl x (by grind);have e1:Fl x=x:=by unfold Fl;rw[if_neg (by grind)]
  have e2:Fl (-x)=x:=by rw[Ew,e1]
  refine⟨λq hq=>?_,λq hq=>?_⟩
  ·rcases Qn.1 hq with rfl|hq
   ·exact(pC tp lp (x:=x) (by rw[e1];grind)).2.1 (by grind)
   ·exact l1 q hq
  ·rcases Qn.1 hq with rfl|hq
   ·exact(pC tp lp (x:=-x) (by rw[e2];grind)).2.2 (by grind)
   ·exact l2 q hq
theorem dD{q:Um}{L:Uq}(hS:HF (cz q) L)(tq:Fg q)(lq:q.length≠0){x y:Rat}(hxy:x<y)(h:Gy q<=x\/y<=-Gy q)(hb:0<Gy q):vv L x=vv L y:=by
 rcases Classical.em (vv L x=vv L y)with e|e
 ·exact e
 ·exfalso;obtain⟨r,r1,r2,r3⟩:=kX hS hxy e (d:=1) (by decide);have:=(pC tq lq (x:=r) (by rcases h with h|h <;> (unfold Fl;split <;> grind))).1;rw[Fb]at r3;grind
theorem HN{p:Um}(h:Fu p≠0):1<=Gy p:=by
 have hb:=BF h;have hp:=nat_pos (show 0<(Fu p).natAbs by omega);have hm0:(0:Rat)<=((most (p.take (p.length-1)):Nat):Rat):=Xi;rcases Gi 1 (Gy p)with h'|h'
 ·exact h'
 ·have:=Vz h' hp;grind
theorem Qdj{q:Um}{l:Un}(hS:HF (cz q) ((q::l).map cz))(hl:∀p∈q::l,Fg p/\p.length≠0):WN (q::l)=(vv ((q::l).map cz) (-Gy q):Int)-(vv ((q::l).map cz) (Gy q):Int):=by
 obtain⟨tq,lq⟩:=hl q (Qy ..);have hb:=HN (Et tq lq);obtain⟨X,hX,hx⟩:=aU (q::l) hl;obtain⟨h1,h2⟩:=hx (X+Gy q) (by grind);have e1:Db FZ (q::l)=vv ((q::l).map cz) (X+Gy q):=by
  rw[<-ZU];unfold Dc Db;rw[JI (f:=FZ) (g:=λp=>Re p (X+Gy q)) (0,0) λp hp=>(h1 p hp).symm]
 have e2:Db ZB (q::l)=vv ((q::l).map cz) (-(X+Gy q)):=by
  rw[<-ZU];unfold Dc Db;rw[JI (f:=ZB) (g:=λp=>Re p (-(X+Gy q))) (0,0) λp hp=>(h2 p hp).symm]
 unfold WN;rw[e1,e2,dD hS tq lq (x:=-(X+Gy q)) (y:=-Gy q) (by grind) (.inr Qr) (by grind),<-dD hS tq lq (x:=Gy q) (y:=X+Gy q) (by grind) (.inl Qr) (by grind)]
theorem Qvv{f:Up}{L:Uq}(hS:HF f L){x y:Rat}(hxy:x<y)(hv:vv L y+2<=vv L x):∃m,x<m/\m<y/\vv L m<vv L x/\vv L y<vv L m/\ev f m≠0:=by
 obtain⟨R,hR,hx,hy⟩:=xG x y;obtain⟨e,ep,he⟩:=Qls hS R hR;have key:∀n:Nat,∀x,Fl x<=R->x<y->vv L y+2<=vv L x->y-x<=(n:Rat)*e->∃m,x<m/\m<y/\vv L m<vv L x/\vv L y<vv L m:=by
  intro n
  induction n with
  |zero=>intro x _ hxy _ hn;rw[show((0:Nat):Rat)=0 from rfl]at hn;exfalso;clear he;grind
  |
   succ n ih =>
   intro x hx hxy hv hn;have hn':(((n+1:Nat):Rat))=(n:Rat)+1:=by push_cast;rfl
   rw[hn']at hn;rcases Gi (y-x) e with h1|h1
   ·have:=he x y hx hy hxy h1;omega
   ·have hm:Fl (x+e)<=R:=FG hx hy (by clear he ih;grind) (by clear he ih;grind);have h2:=he x (x+e) hx hm (by clear he ih;grind) (by clear he ih;grind);have h3:=A5 hS (show x<x+e by clear he ih;grind);by_cases h4:vv L x=vv L (x+e)
    ·obtain⟨m,m1,m2,m3,m4⟩:=ih (x+e) hm (by clear he ih;grind) (by omega) (by clear he ih;grind);exact⟨m,by clear he ih;grind,m2,by omega,m4⟩
    ·exact⟨x+e,by clear he ih;grind,by clear he ih;grind,by omega,by omega⟩
 obtain⟨n,hn⟩:=XQ (z:=y-x) ep;obtain⟨m,m1,m2,m3,m4⟩:=key n x hx hxy hv hn;rcases Classical.em (ev f m=0)with h0|h0
 ·-- a little farther on
  obtain⟨e2,e2p,hl⟩:=loc hR hS (w:=f) (u:=[1]) (λt=>by rw[Tg];grind);obtain⟨d,dp,d1,d2⟩:=min2 (a:=e2) (b:=(y-m) / 2) e2p (Ak (by clear he key hl;grind) (by decide));have h2:(y-m) / 2*2=y-m:=Hg (by decide);have hmR:Fl m<=R:=FG hx hy (Qt m1) (Qt m2);have hmR2:Fl (m+d)<=R:=FG hx hy (by clear he key hl;grind) (by clear he key hl;grind);rcases hl m (m+d) hmR hmR2 (by clear he key hl;grind) (by clear he key hl;grind)with⟨p1,p2,_⟩|⟨_,p1,_,p3,_⟩
  ·refine⟨m+d,by clear he key hl;grind,by clear he key hl;grind,by omega,by omega,λh'=>?_⟩;have:=p2.s;rw[Gs.2 h']at this;exact p2.n this.symm
  ·rw[Gs.2 h0]at p3;exact absurd p3.symm p1
 ·exact⟨m,m1,m2,m3,m4,h0⟩
theorem Qrd{q:Um}{L:Uq}(hS:HF (cz q) L)(tq:Fg q)(nq:q.length<=9)(lq:2<=q.length){lo hi:Rat}(hl:lo<hi)(hv:vv L hi+2<=vv L lo):1<(hi-lo)*((2^(Si q q+1):Nat):Rat):=by
 rcases Gi ((hi-lo)*((2^(Si q q+1):Nat):Rat)) 1 with hw|hw
 ·exfalso;have hpow:(0:Rat)<=((2^(Si q q+1):Nat):Rat):=Xi;obtain⟨m,m1,m2,m3,m4,m0⟩:=Qvv hS hl hv;obtain⟨R,hR,r1,r2⟩:=xG lo hi;have hd:=C6 m0;obtain⟨d,dp,_,db⟩:=Hj (b:=AO R (cz q)) (d:=Fl (ev (cz q) m) / 2) (Nb hR _) (Ak hd (by decide));have hd2:Fl (ev (cz q) m) / 2*2=Fl (ev (cz q) m):=Hg (by decide);have hmR:Fl m<=R:=FG r1 r2 (Qt m1) (Qt m2);have hnear:∀r,Fl r<=R->Fl (ev (cz q) r)<Fl (ev (cz q) m) / 2->d<Fl (r-m):=λr hr hs=>by
   rcases Gi (Fl (r-m)) d with h|h
   ·exfalso;have h1:=Mi (p:=cz q) hmR hr hR h db;have h2:=Sx (ev (cz q) m-ev (cz q) r) (ev (cz q) r);rw[show ev (cz q) m-ev (cz q) r+ev (cz q) r=ev (cz q) m by grind,oO]at h2;grind
   ·exact h
  refine Qhv (R:=R+1) (d:=d+d) tq tq nq nq lq lq (by grind) (by grind) λe ep=>?_
  obtain⟨e',ep',e1,e2⟩:=min2 (a:=e) (b:=Fl (ev (cz q) m) / 2) ep (Ak hd (by decide));obtain⟨x,x1,x2,x3⟩:=kX hS m1 (by omega) ep';obtain⟨y,y1,y2,y3⟩:=kX hS m2 (by omega) ep';have hxR:Fl x<=R:=FG r1 r2 x1 (by grind);have hyR:Fl y<=R:=FG r1 r2 (by grind) y2;have nx:=hnear x hxR (by grind);have ny:=hnear y hyR (by grind);have ex:Fl (x-m)=m-x:=by unfold Fl;split <;> grind
  have ey:Fl (y-m)=y-m:=by unfold Fl;split <;> grind
  rw[ex]at nx;rw[ey]at ny;have exy:Fl (x-y)=y-x:=by unfold Fl;split <;> grind
  refine⟨x,y,by grind,by grind,by rw[exy];grind,?_,by rw[<-Fb];grind,by rw[<-Fb];grind⟩;rw[exy];exact Zl (Ze (show y-x<=hi-lo by grind) hpow) hw
 ·exact hw
end Orq
