/- T10 T11 T12 T13 T14 T15 T16 T17 T18 T19 T20 T21 T22 T23 -/
import Derived.Test.YtoohlnnpalgnaaaGreatPart05
import Derived.Test.YtoohlnnpalgnaaaGreatPart00
set_option linter.all false
namespace Orq
def IJ(A B:Uo)(b J J' n k j:Nat):Int:=if n<b*J then PC (n / J) (n % J) (fA A) k j else PC ((n-b*J) / J') ((n-b*J) % J') (gc B) k j
theorem Qkt{F:Nat->Nat->Int}{h:Nat}(hF:∀k j,(F k j).natAbs<=h)(i j' k j:Nat):(PC i j' F k j).natAbs<=h:=by
 unfold PC;split
 ·split
  ·exact hF _ _
  ·exact Qh _
 ·exact Qh _
theorem Qse{i b J j:Nat}(hi:i<b)(hj:j<J):i*J+j<b*J:=by
 have:(i+1)*J<=b*J:=Q0 J hi;rw[Xb]at this;omega
theorem RV{i J j:Nat}(hj:j<J):(i*J+j) / J=i/\(i*J+j) % J=j:=by
 rw[Zq,Ua (by omega),Ub,V2 hj,Xw hj];exact⟨by omega,rfl⟩
theorem zD(A B:Uo)(a b J J':Nat)(v:Nat->Int)(k j:Nat):sm (b*J+a*J') (λn=>IJ A B b J J' n k j*v n) =
 (sm b λi=>sm J λj1=>PC i j1 (fA A) k j*v (i*J+j1))+sm a λi=>sm J' λj1=>PC i j1 (gc B) k j*v (b*J+(i*J'+j1)):=by
 rw[cL,cE,cE];congr 1
 ·refine Lr b λi hi=>Lr J λj1 hj=>?_
  unfold IJ;rw[if_pos (Qse hi hj),(RV hj).1,(RV hj).2]
 ·refine Lr a λi hi=>Lr J' λj1 hj=>?_
  unfold IJ;rw[if_neg (by omega),Jk,(RV hj).1,(RV hj).2]
theorem Qx8(A:Uo)(v:Nat->Int){i J k j:Nat}(hj:j<J):(sm J λj1=>PC i j1 (fA A) k j*v (i*J+j1))=if i<=k then A.getD (k-i) 0*v (i*J+j)else 0:=by
 rw[EP (k:=j) J hj λj1 _ hne=>?_]
 ·unfold PC fA;by_cases h:i<=k
  ·rw[if_pos h,if_pos h,if_pos (Qm _),if_pos (Ki _)]
  ·rw[if_neg h,if_neg h,Yz]
 ·unfold PC fA;by_cases h:i<=k
  ·rw[if_pos h];by_cases h':j1<=j
   ·rw[if_pos h',if_neg (by omega),Yz]
   ·rw[if_neg h',Yz]
  ·rw[if_neg h,Yz]
section
variable{A B:Uo}{a b J J':Nat}(hA:A.length=a+1)(hB:B.length=b+1)(lA:A.getD a 0≠0)(lB:B.getD b 0≠0)(hJ:J=J'+b){v:Nat->Int}(hW:∀k j,k<a+b->j<J->sm (b*J+a*J') (λn=>IJ A B b J J' n k j*v n)=0)
include hA lA hW in
theorem Qr3{jj:Nat}(hj:jj<J)(hV:∀k,a<=k->k<a+b->(sm a λi=>sm J' λj1=>PC i j1 (gc B) k jj*v (b*J+(i*J'+j1)))=0):∀d i,i<b->b-i<=d->v (i*J+jj)=0:=by
 intro d
 induction d with
 |zero=>intro i hi hd;omega
 |
  succ d ih =>
  intro i hi hd;have h1:=hW (i+a) jj (by omega) hj;rw[zD,hV (i+a) (by omega) (by omega)]at h1;rw[Lr b (λi' hi'=>Qx8 A v hj)]at h1;rw[EP (k:=i) b hi λi' hi' hne=>?_]at h1
  ·rw[if_pos (by omega),Jk,Int.add_zero]at h1;rcases Yh.1 h1 with h2|h2
   ·exact absurd h2 lA
   ·exact h2
  ·rcases Zc i i' with h|h
   ·rw[ih i' hi' (by omega)];simp
   ·rw[if_pos (by omega),Qi,Qu (by omega)];simp
include hA hB lA lB hJ hW in
theorem Qyd:∀d js,js<J'->J'-js<=d->∀i,i<a->v (b*J+(i*J'+js))=0:=by
 intro d
 induction d with
 |zero=>intro js hi hd;omega
 |
  succ d ih =>
  intro js hjs hd i hi;have hin:∀i' k,i'<a->(sm J' λj1=>PC i' j1 (gc B) k (js+b)*v (b*J+(i'*J'+j1)))=if i'=k then gc B 0 b*v (b*J+(i'*J'+js))else 0:=λi' k hi'=>by
   rw[EP (k:=js) J' hjs λj1 hj1 hne=>?_]
   ·unfold PC;by_cases h:i'<=k
    ·rw[if_pos h,if_pos (by omega),Jk];by_cases h':i'=k
     ·rw[if_pos h',h',Ki]
     ·rw[if_neg h',MS B _ _ (by omega),Yz]
    ·rw[if_neg h,if_neg (by omega),Yz]
   ·rcases Zc js j1 with h|h
    ·rw[ih j1 hj1 (by omega) i' hi',Wa]
    ·unfold PC;by_cases h':i'<=k
     ·rw[if_pos h',if_pos (by omega),MS B _ _ (by omega),Yz]
     ·rw[if_neg h',Yz]
  have hU:=Qr3 hA lA hW (jj:=js+b) (by omega) (λk hk hk'=>VQ a λi' hi'=>by rw[hin i' k hi',if_neg (by omega)]) (b+1);have h1:=hW i (js+b) (by omega) (by omega);rw[zD,Lr a (λi' hi'=>hin i' i hi')]at h1;rw[VQ b λi' hi'=>by
   rw[Qx8 A v (by omega),hU i' hi' (by omega)];simp]at h1
  rw[EP (k:=i) a hi λi' hi' hne=>if_neg hne,if_pos rfl,Int.zero_add]at h1;rcases Yh.1 h1 with h2|h2
  ·have:=Qhv B b hB;rw[h2]at this;omega
  ·exact h2
include hA hB lA lB hJ hW in
theorem Qea:∀n,n<b*J+a*J'->v n=0:=by
 intro n hn;have hV:=Qyd hA hB lA lB hJ hW;rcases Zc n (b*J)with h|h
 ·have hJp:0<J:=by
   rcases Q3 J with e|e
   ·rw[e,Y0]at h;omega
   ·exact e
  have e1:=Z6 n hJp;have e2:n / J<b:=X8 (by rw[Zq];exact h);have:=Qr3 hA lA hW e1 (λk _ _=>VQ a λi hi=>VQ J' λj1 hj1=>by rw[hV J' j1 hj1 (by omega) i hi,Wa]) (b+1) (n / J) e2 (Qc (Nat.sub_le _ _) (Nat.le_succ _));rwa[Zq,Xf]at this
 ·have hJp:0<J':=by
   rcases Q3 J' with e|e
   ·rw[e,Y0]at hn;omega
   ·exact e
  have e1:=Z6 (n-b*J) hJp;have e2:(n-b*J) / J'<a:=X8 (by rw[Zq J' a];omega);have:=hV J' _ e1 (by omega) _ e2;rw[Zq ((n-b*J) / J'),Xf]at this;rwa[show b*J+(n-b*J)=n by omega]at this
end
theorem YE{R x:Rat}(h1:1<=R)(hx:Fi x<=R):∀k:Nat,Fi (x^k)<=R^k/\1<=R^k
 | 0=>by rw[Xh,Xh];exact⟨by decide,by decide⟩
 |
  k+1=>by
  obtain⟨i1,i2⟩:=YE h1 hx k;rw[Z9,Z9];have:=Cn (a:=1) (c:=1) (by decide) i2 (by decide) h1;exact⟨He i1 hx,by grind⟩
theorem Qaa{R:Rat}(h1:1<=R){i:Nat}:∀k,i<=k->R^i<=R^k
 | 0,h=>by rw[show i=0 by omega];exact Qq
 |
  k+1,h=>by
  rcases Vm h with e|e
  ·have:=Qaa h1 (i:=i) k (by omega);have h2:=(YE h1 (x:=0) (by rw[Rl];grind) k).2;rw[Z9];have:=Cn (a:=R^k) (b:=R^k) (c:=1) (d:=R) (by grind) Qq (by decide) h1;grind
  ·rw[e];exact Qq
theorem Qks{F:Nat->Nat->Int}{i j' K J:Nat}{x y R X:Rat}{K2 J2:Nat}(h1:1<=R)(hx:Fi x<=R)(hy:Fi y<=R)(hK:K=i+K2)(hJ:J=j'+J2)(hF:E2 F K2 J2 x y=X):Fi (E2 (PC i j' F) K J x y)<=R^(K+J)*Fi X:=by
 subst hK;subst hJ;rw[CP,hF,Il];have a1:=(YE h1 hy i).1;have a2:=(YE h1 hx j').1;have a3:=He a1 a2;rw[<-GZ]at a3;have a4:=Qaa h1 (i:=i+j') (i+K2+(j'+J2)) (by omega);exact Cn (Hw _) (Zl a3 a4) (Hw _) Qq
theorem Qwc{A B:Uo}{a b h:Nat}(hA:A.length=a+1)(hB:B.length=b+1)(lA:A.getD a 0≠0)(lB:B.getD b 0≠0)(ha:0<a)(hb:0<b)(h0:1<=h)(bA:∀k,(A.getD k 0).natAbs<=h)(bB:gB B<=h){J J' N H:Nat}(hJ:J=2*(a*b))(hJ':J=J'+b)(hN:N=b*J+a*J')(hH:H=(2*(N*h))^(2*(a+b-1))) :
 ∃w:Nat->Int,(∃j,j<J/\w j≠0)/\(∀j,(w j).natAbs<=N*(h*H))/\∀R:Rat,1<=R->∃C:Rat,0<=C/\∀x y,Fi x<=R->Fi y<=R->Fi (sq J λj=>(w j:Rat)*x^j)<=C*(Fi (U8 A y)+Fi (U8 B (y-x))):=by
 have hab:0<a*b:=J8 ha hb;have hbd:∀n k j,(IJ A B b J J' n k j).natAbs<=h:=λn k j=>by
  unfold IJ
  split
  ·exact Qkt (λk j=>by unfold fA;split;exact bA k;exact Nat.zero_le _) _ _ _ _
  ·exact Qkt (λk j=>Qc (Qhu B k j) bB) _ _ _ _
 have hJp:0<J:=by omega
 have hNp:1<=N:=by
  have:0<b*J:=J8 hb hJp;omega
 have hNh:1<=N*h:=J8 hNp h0;obtain⟨E,hE⟩:=nmE ((a+b-1)*J);have hNE:N=E+a*b:=by
  have e1:(a+b-1)*J+J=(a+b)*J:=by
   rw[<-Xb];congr 1;omega
  have e2:a*J=a*J'+a*b:=by rw[hJ',Xk]
  rw[X4]at e1;omega
 have hc:(2*(N*(h*H))+1)^E<(H+1)^N:=by
  have c1:2*(N*(h*H))+1<=2*(N*h)*(H+1):=by
   rw[Xk,Yx,Xz 2,Xz N];omega
  refine Z3 (Nat.pow_le_pow_left c1 E) ?_;rw[Nat.mul_pow,hNE,Xg,Zq];refine Nat.mul_lt_mul_of_pos_left ?_ (Z2 (by omega));have e1:(2*(N*h))^E=H^(a*b):=by
   rw[hH,<-Ks,hE,hJ];congr 1;rw[Zq 2 (a+b-1),Xz]
  rw[<-hNE,e1];exact Nat.pow_lt_pow_left (by omega) (by omega)
 obtain⟨v,v1,⟨n0,n1,n2⟩,v3⟩:=Qwg (M:=λe n=>IJ A B b J J' n (e / J+1) (e % J)) (h:=h) (N:=N) (E:=E) (H:=H) (λe n=>hbd n _ _) hc;have hW:∀k j,1<=k->k<a+b->j<J->sm N (λn=>IJ A B b J J' n k j*v n)=0:=λk j k1 k2 hj=>by
  have:=v3 ((k-1)*J+j) (by rw[hE];exact Qse (by omega) hj);rwa[(RV hj).1,(RV hj).2,show k-1+1=k by omega]at this
 refine⟨λj=>sm N λn=>IJ A B b J J' n 0 j*v n,?_,λj=>?_,λR hR=>?_⟩
 ·rcases Classical.em (∃j,j<J/\(sm N λn=>IJ A B b J J' n 0 j*v n)≠0)with e|e
  ·exact e
  ·exfalso;refine n2 (Qea hA hB lA lB hJ' (v:=v) (λk j hk hj=>?_) n0 (by rw[<-hN];exact n1));rw[<-hN];rcases Q3 k with e'|e'
   ·subst e';rcases Classical.em ((sm N λn=>IJ A B b J J' n 0 j*v n)=0)with e2|e2
    ·exact e2
    ·exact absurd ⟨j,hj,e2⟩ e
   ·exact hW k j e' hk hj
 ·refine Qkz N λn _=>?_
  rw[Yc];exact Zd (hbd n 0 j) (v1 n)
 ·have hRp:∀k:Nat,1<=R^k:=λk=>(YE hR (x:=0) (by rw[Rl];grind) k).2
  have hHn:(0:Rat)<=(H:Rat):=Xj;have hNn:(0:Rat)<=(N:Rat):=Xj;refine⟨(N:Rat)*((H:Rat)*R^(a+b+J)),Bl hNn (Bl hHn (by have:=hRp (a+b+J);grind)),λx y hx hy=>?_⟩;have e1:(sq J λj=>((sm N λn=>IJ A B b J J' n 0 j*v n:Int):Rat)*x^j)=E2 (λk j=>sm N λn=>IJ A B b J J' n k j*v n) (a+b) J x y:=by
   unfold E2;obtain⟨m,hm⟩:∃m,a+b=m+1:=⟨a+b-1,by omega⟩;rw[hm,O6,Cz (n:=m)]
   ·have:(sq J λj=>((sm N λn=>IJ A B b J J' n 0 j*v n:Int):Rat)*(y^0*x^j))=sq J λj=>((sm N λn=>IJ A B b J J' n 0 j*v n:Int):Rat)*x^j:=Pv J λj _=>by rw[Xh];grind
    rw[this];grind
   ·intro k hk;refine Cz J λj hj=>?_
    show((sm N λn=>IJ A B b J J' n (k+1) j*v n:Int):Rat)*_=0;rw[hW (k+1) j (by omega) (by omega) hj,show((0:Int):Rat)=0 from rfl];grind
  rw[e1,Qhc];have key:∀n,n<N->Fi ((v n:Rat)*E2 (IJ A B b J J' n) (a+b) J x y)<=(H:Rat)*(R^(a+b+J)*(Fi (U8 A y)+Fi (U8 B (y-x)))):=λn hn=>by
   have hvn:Fi (v n:Rat)<=(H:Rat):=by
    have h1:=v1 n;have h2:(v n)<=(H:Int):=by omega
    have h3:-(H:Int)<=v n:=by omega
    have h2:=Jb.2 h2;have h3:=Jb.2 h3;rw[Vn]at h3;rw[Mj];exact⟨h3,h2⟩
   refine He hvn ?_;have hRk:=hRp (a+b+J);have n1:=Hw (U8 A y);have n2:=Hw (U8 B (y-x));rcases Zc n (b*J)with h|h
   ·have e:IJ A B b J J' n=PC (n / J) (n % J) (fA A):=by funext k j;unfold IJ;rw[if_pos h]
    have d1:n / J<b:=X8 (by rw[Zq];exact h);have d2:=Z6 n hJp;rw[e];refine Zl (Qks (K2:=a+b-n / J) (J2:=J-n % J) hR hx hy (by omega) (by omega) (X:=U8 A y) ?_) (Cn (by grind) Qq n1 (by grind));obtain⟨m,hm⟩:∃m,J-n % J=m+1:=⟨J-n % J-1,by omega⟩;rw[hm];exact Qyf A _ _ x y (by omega)
   ·have e:IJ A B b J J' n=PC ((n-b*J) / J') ((n-b*J) % J') (gc B):=by funext k j;unfold IJ;rw[if_neg (by omega)]
    have hJp':0<J':=by
     rcases Q3 J' with e|e
     ·rw[e,Y0]at hN;omega
     ·exact e
    have d1:(n-b*J) / J'<a:=X8 (by rw[Zq J' a];omega);have d2:=Z6 (n-b*J) hJp';rw[e];refine Zl (Qks (K2:=a+b-(n-b*J) / J') (J2:=J-(n-b*J) % J') hR hx hy (by omega) (by omega) (X:=U8 B (y-x)) ?_) (Cn (by grind) Qq n2 (by grind));exact Qun x y B _ _ (by omega) (by omega)
  have:=Qsu N key;refine Zl this ?_;have:(N:Rat)*((H:Rat)*(R^(a+b+J)*(Fi (U8 A y)+Fi (U8 B (y-x)))))=(N:Rat)*((H:Rat)*R^(a+b+J))*(Fi (U8 A y)+Fi (U8 B (y-x))):=by grind
  rw[this];exact Qq
end Orq
namespace Orq
theorem Qk3{w:Nat->Int}{x:Rat}{D:Rat}(hx:Fi x*2<=1)(hw:∀j,Fi (w j:Rat)<=D):∀J (k:Nat),Fi (sq J λj=>(w (k+j):Rat)*x^j)<=2*D
 | 0,k=>by have:=hw 0;have:=Hw (w 0:Rat);simp only[sq,Rl];clear hw;grind
 |
  J+1,k=>by
  have ih:=Qk3 hx hw J (k+1);rw[O6];have e:(sq J λi=>(w (k+(i+1)):Rat)*x^(i+1))=x*sq J λi=>(w (k+1+i):Rat)*x^i:=by
   rw[<-JP];exact Pv J λi _=>by rw[Z9,show k+(i+1)=k+1+i by omega];grind
  rw[e,Xh,Xo];have h1:=hw k;have h2:=Su ((w k:Rat)*1) (x*sq J λi=>(w (k+1+i):Rat)*x^i);have h3:=He (x:=x) (y:=sq J λi=>(w (k+1+i):Rat)*x^i) Qq ih;have h4:=Zf hx (show(0:Rat)<=D by have:=Hw (w k:Rat);clear hw;grind);have h5:(w k:Rat)*1=w k:=by grind
  rw[h5]at h2 ⊢;clear hw;grind
theorem WX{z:Int}(h:z≠0):1<=Fi (z:Rat):=by
 unfold Fi;rcases Ke h with h|h
 ·have:((z:Int):Rat)<((0:Int):Rat):=Jo.2 h;have h2:((1:Int):Rat)<=((-z:Int):Rat):=Jb.2 (by omega);rw[if_pos (by simpa using this)];rw[Vn]at h2;simpa using h2
 ·have:((0:Int):Rat)<((z:Int):Rat):=Jo.2 h;have h2:((1:Int):Rat)<=((z:Int):Rat):=Jb.2 (by omega);rw[if_neg (by
   have:(0:Rat)<z:=by simpa using this
   grind)]
  simpa using h2
theorem nI{w:Nat->Int}{x:Rat}{D:Rat}(hD:1<=D)(hx0:0<Fi x)(hx:Fi x*(4*D)<=1)(hw:∀j,Fi (w j:Rat)<=D):∀J (k:Nat),(∃j,j<J/\w (k+j)≠0)->Fi x^J / 2<=Fi (sq J λj=>(w (k+j):Rat)*x^j)
 | 0,k,⟨j,h,_⟩=>by omega
 |
  J+1,k,⟨j,h1,h2⟩=>by
  have hx2:Fi x*2<=1:=by
   have:=Cn (a:=Fi x) (c:=2) (Qt hx0) Qq (by decide) (show(2:Rat)<=4*D by clear hw;grind);exact Zl this hx
  have hx1:Fi x<=1:=by clear hw;grind
  have hp:∀k:Nat,Fi x^k<=1/\0<=Fi x^k:=λk=>by
   induction k with
   |zero=>rw[Xh];exact⟨by decide,by decide⟩
   |
    succ k ih =>
    rw[Z9];have:=Cn ih.2 ih.1 (Qt hx0) hx1;have:=Bl ih.2 (Qt hx0);constructor <;> (clear hw;grind)
  rw[O6];have e:(sq J λi=>(w (k+(i+1)):Rat)*x^(i+1))=x*sq J λi=>(w (k+1+i):Rat)*x^i:=by
   rw[<-JP];exact Pv J λi _=>by rw[Z9,show k+(i+1)=k+1+i by omega];grind
  rw[e,Xh,Xo k,show(w k:Rat)*1=w k by grind];by_cases h0:w k=0
  ·have hj:j≠0:=λe=>h2 (by rw[e];exact h0)
   have ih:=nI hD hx0 hx hw J (k+1) ⟨j-1,by omega,by rw[show k+1+(j-1)=k+j by omega];exact h2⟩;rw[h0,show((0:Int):Rat)+x*(sq J λi=>(w (k+1+i):Rat)*x^i)=x*sq J λi=>(w (k+1+i):Rat)*x^i by rw[show((0:Int):Rat)=0 from rfl];grind,Il,Z9];have:=Z0 ih (Qt hx0);have e2:Fi x*(Fi x^J / 2)=Fi x^J*Fi x / 2:=by rw[J9,J9];grind
   rw[e2]at this;exact this
  ·have a1:=WX h0;have a2:=Qk3 hx2 hw J (k+1);have a3:=He (x:=x) (y:=sq J λi=>(w (k+1+i):Rat)*x^i) Qq a2;have a4:=Su ((w k:Rat)+x*sq J λi=>(w (k+1+i):Rat)*x^i) (-(x*sq J λi=>(w (k+1+i):Rat)*x^i));rw[Er,show(w k:Rat)+(x*sq J λi=>(w (k+1+i):Rat)*x^i)+-(x*sq J λi=>(w (k+1+i):Rat)*x^i)=w k by grind]at a4;have a5:=(hp (J+1)).1;have a6:Fi x^(J+1) / 2*2=Fi x^(J+1):=Hf (by decide);have a7:Fi x*(2*D)*2=Fi x*(4*D):=by grind
   clear hw hp;grind
theorem Qu5{A B:Uo}{a b h:Nat}(hA:A.length=a+1)(hB:B.length=b+1)(lA:A.getD a 0≠0)(lB:B.getD b 0≠0)(ha:0<a)(hb:0<b)(h0:1<=h)(bA:∀k,(A.getD k 0).natAbs<=h)(bB:gB B<=h){N D:Nat}(hN:b*(2*(a*b))+a*(2*(a*b)-b)=N)(hD:N*(h*(2*(N*h))^(2*(a+b-1)))<=D){R d:Rat}(hR:1<=R)(dp:0<d)
 (hs:∀e:Rat,0<e->∃q r,Fi q<=R/\Fi r<=R/\d<=Fi (q-r)/\Fi (q-r)*(4*(D:Rat))<=1/\Fi (U8 A q)<e/\Fi (U8 B r)<e):False:=by
 have hab:0<a*b:=J8 ha hb;have hbab:b<=a*b:=by
  have:=Q0 b (show 1<=a from ha);omega
 obtain⟨w,⟨j,hj,hw0⟩,hw,hC⟩:=Qwc hA hB lA lB ha hb h0 bA bB (J:=2*(a*b)) (J':=2*(a*b)-b) rfl (by omega) hN.symm rfl;obtain⟨C,hC0,hC⟩:=hC (2*R) (by grind);have hw':∀j,Fi (w j:Rat)<=(D:Rat):=λj=>by
  have h1:=Qc (hw j) hD;have h2:w j<=(D:Int):=by omega
  have h3:-(D:Int)<=w j:=by omega
  have h2:=Jb.2 h2;have h3:=Jb.2 h3;rw[Vn]at h3;rw[Mj];exact⟨h3,h2⟩
 have hD1:(1:Rat)<=(D:Rat):=by
  have:=WX hw0;exact Zl this (hw' j)
 have hdJ:0<d^(2*(a*b)) / 2:=Af (Rat.pow_pos dp) (by decide);obtain⟨e,ep,_,he⟩:=Hj (b:=C*2) (d:=d^(2*(a*b)) / 2) (by grind) hdJ;obtain⟨q,r,q1,r1,d1,d2,aq,br⟩:=hs e ep;have h1:=hC (q-r) q (by
  have:=Su q (-r);rw[Er]at this;have:q-r=q+-r:=by grind
  grind) (by grind)
 rw[show q-(q-r)=r by grind]at h1;have h2:=nI (x:=q-r) hD1 (by grind) d2 hw' (2*(a*b)) 0 ⟨j,hj,by rw[Zy];exact hw0⟩;simp only[Zy]at h2;have h3:C*(Fi (U8 A q)+Fi (U8 B r))<=C*(e+e):=Z0 (by grind) hC0;have h4:d^(2*(a*b))<=Fi (q-r)^(2*(a*b)):=by
  generalize 2*(a*b)=J
  induction J with
  |zero=>rw[Xh,Xh];exact Qq
  |
   succ J ih =>
   rw[Z9,Z9];exact Cn (Qt (Rat.pow_pos dp)) ih (Qt dp) d1
 have h5:d^(2*(a*b)) / 2*2=d^(2*(a*b)):=Hf (by decide);have h6:Fi (q-r)^(2*(a*b)) / 2*2=Fi (q-r)^(2*(a*b)):=Hf (by decide);clear hC hs hw hw';grind
def HD(p:Ur)(n:Nat):Prop:=p.getD n 0≠0/\∀k,n<k->p.getD k 0=0
theorem Ro:∀(p q:Ur) (k:Nat),(Sv p q).getD k 0=p.getD k 0+q.getD k 0
 | [],q,k=>by simp only[Sv,Kt];grind
 |a::p,[],k=>by simp only[Sv,Kt];grind
 |a::p,b::q,0=>by simp only[Sv,Zt]
 |a::p,b::q,k+1=>by simp only[Sv,Q4];exact Ro p q k
theorem Sp(c:Rat):∀(p:Ur) (k:Nat),(D5 c p).getD k 0=c*p.getD k 0
 | [],k=>by simp only[D5,X7,Kt];grind
 |a::p,0=>by simp[D5]
 |a::p,k+1=>by have:=Sp c p k;simp only[D5,Zz,Q4]at *;exact this
theorem Qh3{p:Ur}{k:Nat}(h:∀x∈p,x=0):p.getD k 0=0:=by
 rw[Qi];cases e:p[k]? with
 |none=>rfl
 |some x=>exact h x (Qa e)
theorem Dy{p q:Ur}(h:∀t,ev p t=ev q t)(k:Nat):p.getD k 0=q.getD k 0:=by
 have h1:=Qh3 (k:=k) (WL (p:=Sv p (D5 (-1) q)) λt _ _=>by rw[G5,Gt,h t];grind);rw[Ro,Sp]at h1;grind
theorem Lb:∀{p:Ur},(∀k,p.getD k 0=0)->∀t,ev p t=0
 | [],_,t=>rfl
 |
  a::p,h,t=>by
  have h0:=h 0;have h1:=Lb (p:=p) (λk=>by have:=h (k+1);rwa[Q4]at this) t;rw[Zt]at h0;simp only[ev,h0,h1];grind
theorem DG:∀(p:Ur),(∀t,ev p t=0)\/∃n,n<p.length/\HD p n
 | []=>.inl λ_=>rfl
 |
  a::p=>by
  rcases DG p with h|⟨n,hn,h1,h2⟩
  ·rcases Classical.em (a=0)with e|e
   ·exact .inl λt=>by simp only[ev,e,h t];grind
   ·refine .inr ⟨0,by simp,by simpa using e,λk hk=>?_⟩;obtain⟨m,rfl⟩:∃m,k=m+1:=⟨k-1,by omega⟩;rw[Q4];exact(Dy (p:=p) (q:=[]) h m).trans (by simp)
  ·refine .inr ⟨n+1,by simp;omega,by rw[Q4];exact h1,λk hk=>?_⟩;obtain⟨m,rfl⟩:∃m,k=m+1:=⟨k-1,by omega⟩;rw[Q4];exact h2 m (by omega)
theorem Qsc{p q:Ur}{n:Nat}(h:∀t,ev p t=ev q t)(hp:HD p n):HD q n :=
 ⟨by rw[<-Dy h];exact hp.1,λk hk=>by rw[<-Dy h];exact hp.2 k hk⟩
theorem Qsd{p:Ur}{n m:Nat}(h:HD p n)(h':HD p m):n=m:=by
 rcases Kn n m with e|e|e
 ·exact absurd (h.2 m e) h'.1
 ·exact e
 ·exact absurd (h'.2 n e) h.1
theorem aN{p:Ur}{n:Nat}(h:HD p n):¬∀t,ev p t=0:=λh0=>h.1 ((Dy (p:=p) (q:=[]) h0 n).trans (by simp))
theorem SV{p q:Ur}(h:∀k,p.getD k 0=0)(k:Nat):(G8 p q).getD k 0=0:=by
 have:=Dy (p:=G8 p q) (q:=[]) (λt=>by rw[Fg,Lb h t];simp only[ev];grind) k;rw[this];simp
theorem DT:∀{p q:Ur} {m n:Nat},HD p m->HD q n->HD (G8 p q) (m+n)
 | [],q,m,n,h,_=>absurd (by simp) h.1
 |
  a::p,q,0,n,h,h'=>by
  have h1:∀k,p.getD k 0=0:=λk=>by have:=h.2 (k+1) (by omega);rwa[Q4]at this
  have h2:∀k,(G8 (a::p) q).getD k 0=a*q.getD k 0:=λk=>by
   simp only[G8];rw[Ro,Sp];cases k with
   |zero=>rw[Zt];grind
   |succ k=>rw[Q4,SV h1];grind
  have h3:=h.1;rw[Zt]at h3;refine⟨?_,λk hk=>?_⟩
  ·rw[h2,Zy];exact λh=>(Y4.1 h).elim h3 h'.1
  ·rw[h2,h'.2 k (by omega)];grind
 |
  a::p,q,m+1,n,h,h'=>by
  have ih:=DT (p:=p) (q:=q) (m:=m) ⟨by have:=h.1;rwa[Q4]at this,λk hk=>by have:=h.2 (k+1) (by omega);rwa[Q4]at this⟩ h';refine⟨?_,λk hk=>?_⟩
  ·simp only[G8];rw[Ro,Sp,show m+1+n=(m+n)+1 by omega,Q4,h'.2 _ (by omega)];have:=ih.1;grind
  ·obtain⟨j,rfl⟩:∃j,k=j+1:=⟨k-1,by omega⟩;simp only[G8];rw[Ro,Sp,Q4,h'.2 _ (by omega),ih.2 j (by omega)];grind
def ZB(g f:Ur):Prop:=∃u,∀t,ev f t=ev g t*ev u t
theorem dvd_refl(f:Ur):ZB f f:=⟨[1],λt=>by rw[Tf];grind⟩
theorem dvd_trans{f g h:Ur}:ZB f g->ZB g h->ZB f h
 |⟨u,hu⟩,⟨v,hv⟩=>⟨G8 u v,λt=>by rw[hv,hu,Fg];grind⟩
theorem gY{p q:Ur}(h:∀t,ev p t*ev q t=0)(hp:¬∀t,ev p t=0):∀t,ev q t=0:=by
 rcases DG p with h1|⟨m,_,h1⟩
 ·exact absurd h1 hp
 ·rcases DG q with h2|⟨n,_,h2⟩
  ·exact h2
  ·exact absurd (λt=>by rw[Fg];exact h t) (aN (DT h1 h2))
theorem mU{p q r:Ur}(hp:¬∀t,ev p t=0)(h:∀t,ev p t*ev q t=ev p t*ev r t)(t:Rat):ev q t=ev r t:=by
 have:=gY (p:=p) (q:=Sv q (D5 (-1) r)) (λt=>by rw[G5,Gt];have:=h t;grind) hp t;rw[G5,Gt]at this;grind
theorem Qg5{b:Ur}{n:Nat}(hb:HD b n):∀(l:Nat) (a:Ur),(∀k,l<=k->a.getD k 0=0)->∃q r,(∀t,ev a t=ev q t*ev b t+ev r t)/\∀k,n<=k->r.getD k 0=0
 | 0,a,ha=>⟨[],a,λt=>by simp only[ev];grind,λk _=>ha k (Qh _)⟩
 |
  l+1,a,ha=>by
  rcases Zc l n with h|h
  ·exact⟨[],a,λt=>by simp only[ev];grind,λk hk=>ha k (by omega)⟩
  ·-- the leading term is taken away
   obtain⟨c,hc⟩:=nmE (a.getD l 0 / b.getD n 0);have hcb:c*b.getD n 0=a.getD l 0:=by rw[hc];exact Zj hb.1
   obtain⟨m,hm⟩:∃m:Ur,m=List.replicate (l-n) 0++[c]:=⟨_,rfl⟩;have hsh:∀(i:Nat) (k:Nat),(G8 (List.replicate i 0++[c]) b).getD k 0=if i<=k then c*b.getD (k-i) 0 else 0:=λi=>by
    induction i with
    |zero=>intro k;simp only[Wj,Yk,G8];rw[Ro,Sp];cases k <;> simp <;> grind
    |
     succ i ih =>
     intro k;simp only[J6,Xc,G8];rw[Ro,Sp];cases k with
     |zero=>rw[Zt,if_neg (by omega)];grind
     |
      succ k =>
      rw[Q4,ih k];by_cases h:i<=k
      ·rw[if_pos h,if_pos (by omega),Nat.add_sub_add_right];grind
      ·rw[if_neg h,if_neg (by omega)];grind
   obtain⟨q,r,h1,h2⟩:=Qg5 hb l (Sv a (D5 (-1) (G8 m b))) λk hk=>by
    rw[Ro,Sp,hm,hsh,if_pos (by omega)];rcases Vm hk with e|e
    ·rw[ha k (by omega),hb.2 _ (by omega)];grind
    ·subst e;rw[show l-(l-n)=n by omega,hcb];grind
   refine⟨Sv q m,r,λt=>?_,h2⟩;have:=h1 t;rw[G5,Gt,Fg]at this;rw[G5];grind
theorem nK:∀(n:Nat) (a b:Ur),(∀k,n<=k->b.getD k 0=0)->∃g U V,ZB g a/\ZB g b/\∀t,ev g t=ev U t*ev a t+ev V t*ev b t
 |
  0,a,b,h=>by
  have h0:=Lb λk=>h k (Qh _)
  exact⟨a,[1],[],dvd_refl a,⟨[],λt=>by rw[h0];simp only[ev];grind⟩,λt=>by rw[Tf];simp only[ev];grind⟩
 |
  n+1,a,b,h=>by
  rcases Classical.em (b.getD n 0=0)with e|e
  ·exact nK n a b λk hk=>by
    rcases Vm hk with e'|e'
    ·exact h k (by omega)
    ·rw[<-e'];exact e
  ·obtain⟨q,r,h1,h2⟩:=Qg5 (b:=b) (n:=n) ⟨e,λk hk=>h k (by omega)⟩ a.length a λk hk=>by rw[Qi,Qu hk];rfl
   obtain⟨g,U,V,⟨u,hu⟩,⟨v,hv⟩,hg⟩:=nK n b r h2;refine⟨g,V,Sv U (D5 (-1) (G8 V q)),⟨Sv (G8 q u) v,λt=>?_⟩,⟨u,hu⟩,λt=>?_⟩
   ·rw[h1,hv,G5,Fg,hu];grind
   ·rw[hg,G5,Gt,Fg,h1];grind
theorem Qhy(a b:Ur):∃g U V,ZB g a/\ZB g b/\∀t,ev g t=ev U t*ev a t+ev V t*ev b t :=
 nK b.length a b λk hk=>by rw[Qi,Qu hk];rfl
def Cop(a b:Ur):Prop:=∃U V,∀t,ev U t*ev a t+ev V t*ev b t=1
theorem jX{c d e:Ur}(h:Cop c d)(h1:∃u,∀t,ev d t*ev e t=ev c t*ev u t):ZB c e:=by
 obtain⟨U,V,h⟩:=h;obtain⟨u,hu⟩:=h1;refine⟨Sv (G8 U e) (G8 V u),λt=>?_⟩;rw[G5,Fg,Fg];have a1:=h t;have a2:=hu t;have:ev e t=(ev U t*ev c t+ev V t*ev d t)*ev e t:=by rw[a1];grind
 rw[this];have:(ev U t*ev c t+ev V t*ev d t)*ev e t=ev U t*ev c t*ev e t+ev V t*(ev d t*ev e t):=by grind
 rw[this,a2];grind
def EW(d:Ur):Nat->Ur
 | 0=>[1]
 |k+1=>G8 d (EW d k)
theorem cK(d:Ur)(t:Rat):∀k:Nat,ev d t*dv (EW d k) t=(k:Rat)*(dv d t*ev (EW d k) t)
 | 0=>by simp only[EW,dv,ev];rw[show((0:Nat):Rat)=0 from rfl];grind
 |
  k+1=>by
  have ih:=cK d t k;have hn':(((k+1:Nat):Rat))=(k:Rat)+1:=by push_cast;rfl
  simp only[EW];rw[jW,Fg,hn'];grind
theorem Qj4{d:Ur}{m:Nat}(h:HD d m):∀k,HD (EW d k) (k*m)
 | 0=>by rw[Ym];exact⟨by simp[EW],λk hk=>by simp only[EW];rw[Qi,Qu (by simp;omega)];rfl⟩
 |k+1=>by rw[Xb,Jv (k*m) m];exact DT h (Qj4 h k)
theorem qA{d g:Ur}{m n:Nat}(hd:HD d m)(hg:HD g n)(h:∀k,ZB (EW d k) g):m=0:=by
 obtain⟨u,hu⟩:=h (n+1);rcases DG u with h1|⟨j,_,h1⟩
 ·exact absurd (λt=>by rw[hu,h1];grind) (aN hg)
 ·have:=Qsd (Qsc (λt=>by rw[hu,Fg]) hg) (DT (Qj4 hd (n+1)) h1);rcases Q3 m with e|e
  ·exact e
  ·have:(n+1)*1<=(n+1)*m:=Zu _ e;omega
theorem sqf{a g q d U V:Ur}{k:Rat}(hk:k≠0)(ha:∀t,ev a t=ev g t*ev q t)(hg:∀t,k*ev g t=ev U t*ev a t+ev V t*dv a t)(h1:ZB d q)(h2:ZB d (Bn q)):∀n,ZB (EW d n) g
 | 0=>⟨g,λt=>by simp only[EW];rw[Tf];grind⟩
 |
  n+1=>by
  obtain⟨g1,e1⟩:=sqf hk ha hg h1 h2 n;obtain⟨q1,e2⟩:=h1;obtain⟨q2,e3⟩:=h2;have d1:=λt=>QS ha t
  have d2:=λt=>QS e1 t
  have d3:=λt=>QS e2 t
  have d4:=cK d;refine⟨D5 (1 / k) (Sv (G8 U (G8 g1 q1)) (G8 V (Sv (G8 g1 q2) (Sv (D5 n (G8 g1 (Sv q2 (D5 (-1) (Bn q1))))) (G8 (Bn g1) q1))))),λt=>?_⟩;have hkk:1 / k*k=1:=Zj hk;simp only[EW,Gt,G5,Fg,Tr];have b1:=ha t;have b2:=hg t;have b3:=e1 t;have b4:=e2 t;have b5:=e3 t;have b6:=d1 t;have b7:=d2 t;have b8:=d3 t;have b9:=d4 t n;rw[Tr]at b5;generalize ev d t=x0 at *;generalize ev (EW d n) t=x1 at *;generalize ev g t=x2 at *;generalize ev q t=x3 at *;generalize ev a t=x4 at *;generalize dv a t=x5 at *;generalize dv g t=x6 at *;generalize dv q t=x7 at *;generalize ev g1 t=x8 at *;generalize dv g1 t=x9 at *;generalize ev q1 t=y0 at *;generalize dv q1 t=y1 at *;generalize ev q2 t=y2 at *;generalize dv d t=y3 at *;generalize dv (EW d n) t=y4 at *;generalize ev U t=y5 at *;generalize ev V t=y6 at *;generalize (n:Rat)=y7 at *;have:x2=1 / k*(k*x2):=by grind
  rw[this,b2];have c1:x5=x0*x1*(x8*y2+(y7*(x8*(y2+-1*y1))+x9*y0)):=by
   rw[b6,b7,b4,b3];have:y3*y0=x0*y2-x0*y1:=by grind
   have:x0*y4*(x8*y0)=y7*(x1*x8*(x0*y2-x0*y1)):=by rw[b9,<-this];grind
   grind
  have c2:x4=x0*x1*(x8*y0):=by rw[b1,b3,b4];grind
  rw[c1,c2];grind
theorem Qn7{a b c:Ur}(h1:Cop a b)(h2:Cop a c){d:Ur}(hd:∀t,ev d t=ev b t*ev c t):Cop a d:=by
 obtain⟨U,V,h1⟩:=h1;obtain⟨X,Y,h2⟩:=h2;refine⟨Sv U (G8 (G8 V b) X),G8 V Y,λt=>?_⟩;have a1:=h1 t;have a2:=h2 t;simp only[G5,Fg,hd];have:ev V t*ev b t*(ev X t*ev a t+ev Y t*ev c t)=ev V t*ev b t:=by rw[a2];grind
 grind
theorem Qqt{a g q z r X Y:Ur}{n:Nat}(ha:∀t,ev a t=ev g t*ev q t)(hz:∀t,dv a t=ev g t*ev z t)(hg:HD g n)(hr:∀t,ev X t*ev r t+ev Y t*dv r t=1)(h:ZB r a):ZB r q:=by
 obtain⟨b,hb⟩:=h;obtain⟨e,U,V,⟨r1,e1⟩,⟨q3,e2⟩,e3⟩:=Qhy r q;have hr0:¬∀t,ev r t=0:=λh=>by
  have h1:=hr 0;have h2:dv r 0=0:=by have:=Qha (p:=r) (q:=[]) h 0;rw[this];rfl
  rw[h,h2]at h1;grind
 have he0:¬∀t,ev e t=0:=λh=>hr0 λt=>by rw[e1,h];grind
 have d1:=λt=>QS e1 t
 have c1:Cop r1 q3:=⟨U,V,λt=>by
  have:=mU (p:=e) (q:=Sv (G8 U r1) (G8 V q3)) (r:=[1]) he0 (λt=>by
   rw[G5,Fg,Fg,Tf];have a1:=e1 t;have a2:=e2 t;have a3:=e3 t;rw[a1,a2]at a3;grind) t
  rw[G5,Fg,Fg,Tf]at this;exact this⟩
 have c2:Cop r1 e:=⟨Sv (G8 X e) (G8 Y (Bn e)),G8 Y (Bn r1),λt=>by
  have a1:=hr t;have a2:=e1 t;have a3:=d1 t;simp only[G5,Fg,Tr];rw[a2,a3]at a1;grind⟩
 have c3:Cop r1 (Bn r1):=⟨Sv (G8 X e) (G8 Y (Bn e)),G8 Y e,λt=>by
  have a1:=hr t;have a2:=e1 t;have a3:=d1 t;simp only[G5,Fg,Tr];rw[a2,a3]at a1;grind⟩
 have c4:Cop r1 q:=Qn7 c2 c1 e2;have hgz:=aN hg;have hp:∀k,ZB (EW r1 k) g:=λk=>by
  induction k with
  |zero=>exact⟨g,λt=>by simp only[EW];rw[Tf];grind⟩
  |
   succ k ih =>
   obtain⟨h,eh⟩:=ih;have hpz:¬∀t,ev (EW r1 k) t=0:=λh0=>hgz λt=>by rw[eh,h0];grind
   have key:ZB r1 h:=by
    cases k with
    |
     zero =>
     refine jX c4 ⟨G8 e b,λt=>?_⟩;have a1:=ha t;have a2:=hb t;have a3:=e1 t;have a4:=eh t;simp only[EW]at a4;rw[Tf]at a4;rw[Fg];grind
    |
     succ k =>
     have hn:((k+1:Nat):Rat)≠0:=by
      have:(0:Rat)<((k+1:Nat):Rat):=by
       have h1:((0:Nat):Rat)<((k+1:Nat):Rat):=Vp.2 (by omega);simpa using h1
      grind
     have d2:=λt=>QS (f:=a) (w:=EW r1 (k+1)) (u:=G8 h q) (λt=>by rw[ha,eh,Fg];grind) t
     have d4:=cK r1;have h3:=mU (p:=EW r1 (k+1)) (q:=G8 (Bn r1) (G8 h q)) (r:=G8 r1 (D5 (1 / ((k+1:Nat):Rat)) (Sv (G8 h z) (D5 (-1) (Bn (G8 h q)))))) hpz λt=>by
      simp only[Fg,Gt,G5,Tr];have a1:=d2 t;have a2:=d4 t (k+1);have a3:=hz t;have a4:=eh t;rw[Fg]at a1;generalize ((k+1:Nat):Rat)=c at *;have hc:1 / c*c=1:=Zj hn;generalize ev (EW r1 (k+1)) t=x0 at *;generalize dv (EW r1 (k+1)) t=x1 at *;generalize dv (G8 h q) t=x2 at *;generalize ev r1 t=x3 at *;generalize dv r1 t=x4 at *;generalize ev h t=x5 at *;generalize ev q t=x6 at *;generalize ev z t=x7 at *;generalize dv a t=x8 at *;generalize ev g t=x9 at *;generalize 1 / c=c' at *;have s1:x0*(x4*(x5*x6))=c'*(c*(x4*x0))*(x5*x6):=by
       have:c'*(c*(x4*x0))=(c'*c)*(x4*x0):=by grind
       rw[this,hc];grind
      rw[s1,<-a2];have s2:x3*(x1*(x5*x6))=x3*(x0*(x5*x7+-1*x2)):=by
       rw[a3,a4]at a1;grind
      grind
     refine jX c4 ?_;obtain⟨u,hu⟩:=jX (e:=G8 q h) c3 ⟨D5 (1 / ((k+1:Nat):Rat)) (Sv (G8 h z) (D5 (-1) (Bn (G8 h q)))),λt=>by
      have:=h3 t;simp only[Fg]at this ⊢;rw[<-this];grind⟩
     exact⟨u,λt=>by rw[<-hu,Fg]⟩
   obtain⟨u,hu⟩:=key;exact⟨u,λt=>by simp only[EW];rw[Fg,eh,hu];grind⟩
 rcases DG r1 with h1|⟨m,_,h1⟩
 ·exact absurd (λt=>by rw[e1,h1];grind) hr0
 ·obtain rfl:=qA h1 hg hp;have h2:∀t,ev r1 t=r1.getD 0 0:=λt=>by
   cases r1 with
   |nil=>simp[ev]
   |
    cons c l =>
    have:∀t,ev l t=0:=Lb λk=>by have:=h1.2 (k+1) (by omega);rwa[Q4]at this
    simp only[ev,this,Zt];grind
  have h3:=h1.1;refine⟨D5 (1 / r1.getD 0 0) q3,λt=>?_⟩;rw[e2,e1,h2,Gt];have:1 / r1.getD 0 0*r1.getD 0 0=1:=Zj h3;have:ev e t*r1.getD 0 0*(1 / r1.getD 0 0*ev q3 t)=ev e t*ev q3 t*(1 / r1.getD 0 0*r1.getD 0 0):=by grind
  rw[this,Zj h3];grind
def On:Us->Ur
 | []=>[1]
 |w::l=>G8 w (On l)
def Lay:Us->Us->Prop
 | [],[]=>True
 | [w],[f]=>∀t,ev w t=ev f t
 |w::v::l,f::fs=>(∀t,ev w t=ev f t*ev v t)/\Lay (v::l) fs
 |_,_=>False
def PP:Us->Ur
 | []=>[1]
 | [f]=>f
 |f::_::l=>G8 f (PP l)
theorem iJ:∀{ws fs:Us},Lay ws fs->∃S,∀t,ev (On ws) t=ev (PP fs) t*(ev S t*ev S t)
 | [],[],_=>⟨[1],λt=>by simp only[On,PP];rw[Tf];grind⟩
 | [w],[f],h=>⟨[1],λt=>by simp only[On,PP];rw[Fg,Tf,h t];grind⟩
 |
  [w,v],[f,f2],h=>⟨v,λt=>by
  have h1:=h.1 t;have h2:ev v t=ev f2 t:=h.2 t;simp only[On,PP,Fg];rw[Tf,h1];grind⟩
 |
  w::v::x::l,f::f2::fs,h=>by
  obtain⟨S,hS⟩:=iJ h.2.2;refine⟨G8 v S,λt=>?_⟩;have h1:=h.1 t;have h2:=hS t;have e1:ev (On (w::v::x::l)) t=ev w t*(ev v t*ev (On (x::l)) t):=by simp only[On,Fg]
  rw[e1,h2,h1];have e2:ev (PP (f::f2::fs)) t=ev f t*ev (PP fs) t:=by
   cases fs with
   |nil=>cases l <;> exact False.elim h.2.2
   |cons y l=>simp only[PP,Fg]
  rw[e2,Fg];grind
 | [w],[],h=>h.elim
 | [w],_::_::_,h=>h.elim
 | [],_::_,h=>h.elim
 | [w,v],[f],h=>h.2.elim
 | [w,v],_::_::_::_,h=>h.2.elim
 |w::v::x::l,[f],h=>h.2.elim
 |w::v::l,[],h=>h.elim
end Orq
namespace Orq
open Orr Go
theorem bN(p:Uo)(t:Rat):U8 p t=((p.getD 0 0:Int):Rat)+t*U8 p.tail t:=by
 cases p with
 |nil=>show(0:Rat)=((0:Int):Rat)+t*0;grind
 |cons a p=>rfl
theorem RJ(p:Uo)(k:Nat):p.tail.getD k 0=p.getD (k+1) 0:=by
 cases p <;> simp
theorem Co(c d:Int)(t:Rat):∀(n:Nat) (p q r:Uo),p.length<=n->q.length<=n->r.length<=n->(∀k,r.getD k 0=c*p.getD k 0+d*q.getD k 0)->U8 r t=(c:Rat)*U8 p t+(d:Rat)*U8 q t
 |
  0,p,q,r,hp,hq,hr,_=>by
  rw[Qj (Nat.le_zero.1 hp),Qj (Nat.le_zero.1 hq),Qj (Nat.le_zero.1 hr)];show(0:Rat)=_*0+_*0;grind
 |
  n+1,p,q,r,hp,hq,hr,h=>by
  have ih:=Co c d t n p.tail q.tail r.tail (by rw[W0];omega) (by rw[W0];omega) (by rw[W0];omega) λk=>by
   rw[RJ,RJ,RJ];exact h (k+1)
  rw[bN p,bN q,bN r,ih,h 0]
  push_cast
  grind
theorem oK{p q:Uo}(h:∀k,p.getD k 0=q.getD k 0)(t:Rat):U8 p t=U8 q t:=by
 have:=Co 1 0 t (max p.length q.length) q q p (W4 ..) (W4 ..) (Nat.le_max_left ..) λk=>by rw[h k];omega
 rw[this]
 push_cast
 grind
theorem Ot(p:Uo)(t:Rat):U8 (trim p) t=U8 p t:=oK (VV p) t
theorem Bh{p:Uo}{k:Nat}(h:p.length<=k):p.getD k 0=0:=by
 rw[Qi,Qu h];rfl
theorem qN(p q:Uo)(k:Nat):(A5 p q).getD k 0=p.getD k 0+q.getD k 0:=by
 unfold A5;rw[S9]
 split
 ·rfl
 ·rename_i h;rw[Bh (p:=p) (by omega),Bh (p:=q) (by omega)];rfl
theorem O2(p q:Uo)(k:Nat):(Na p q).getD k 0=p.getD k 0-q.getD k 0:=by
 unfold Na;rw[S9]
 split
 ·rfl
 ·rename_i h;rw[Bh (p:=p) (by omega),Bh (p:=q) (by omega)];rfl
theorem Mh(p:Uo)(c:Int)(k:Nat):(Fu p c).getD k 0=p.getD k 0*c:=by
 unfold Fu;rw[S9]
 split
 ·rfl
 ·rename_i h;rw[Bh (p:=p) (by omega),Int.zero_mul]
theorem Qc8(p:Uo)(k:Nat):(Mw p).getD k 0=-(p.getD k 0):=by
 unfold Mw;rw[S9]
 split
 ·rfl
 ·rename_i h;rw[Bh (p:=p) (by omega)];rfl
theorem By(p:Uo)(k:Nat):(Gy p).getD k 0=p.getD (k+1) 0*((k+1:Nat):Int):=by
 unfold Gy;rw[S9]
 split
 ·rfl
 ·rename_i h;rw[Bh (p:=p) (by omega),Int.zero_mul]
theorem LC(p q:Uo)(t:Rat):U8 (A5 p q) t=U8 p t+U8 q t:=by
 have:=Co 1 1 t (max (max p.length q.length) (A5 p q).length) p q (A5 p q) (by omega) (by omega) (by omega) λk=>by rw[qN];omega
 rw[this];push_cast;grind
theorem No(p q:Uo)(t:Rat):U8 (Na p q) t=U8 p t-U8 q t:=by
 have:=Co 1 (-1) t (max (max p.length q.length) (Na p q).length) p q (Na p q) (by omega) (by omega) (by omega) λk=>by rw[O2];omega
 rw[this];push_cast;grind
theorem FN(p:Uo)(t:Rat):U8 (Mw p) t=-U8 p t:=by
 have:=Co (-1) 0 t (max p.length (Mw p).length) p p (Mw p) (by omega) (by omega) (by omega) λk=>by rw[Qc8];omega
 rw[this];push_cast;grind
theorem Rp(p:Uo)(c:Int)(t:Rat):U8 (Fu p c) t=U8 p t*(c:Rat):=by
 have:=Co c 0 t (max p.length (Fu p c).length) p p (Fu p c) (by omega) (by omega) (by omega) λk=>by rw[Mh,K8];omega
 rw[this];push_cast;grind
theorem yC:∀(l:Uo) (j:Nat) (v:Int) (t:Rat),j<l.length->U8 (l.set j v) t=U8 l t+((v:Rat)-((l.getD j 0:Int):Rat))*t^j
 | [],_,_,_,h=>by simp at h
 |
  a::l,0,v,t,_=>by
  show(v:Rat)+t*U8 l t=(a:Rat)+t*U8 l t+((v:Rat)-(a:Rat))*t^0;rw[Xh];grind
 |
  a::l,j+1,v,t,h=>by
  have ih:=yC l j v t (by simpa using h);show(a:Rat)+t*U8 (l.set j v) t=(a:Rat)+t*U8 l t+((v:Rat)-((l.getD j 0:Int):Rat))*t^(j+1);rw[ih,Z9];grind
theorem LD:∀(l:Uo) (k:Nat) (t:Rat),k<l.length->U8 (l.take (k+1)) t=U8 (l.take k) t+((l.getD k 0:Int):Rat)*t^k
 | [],_,_,h=>by simp at h
 |
  a::l,0,t,_=>by
  show(a:Rat)+t*U8 (l.take 0) t=0+(a:Rat)*t^0;rw[Xh,Vv];show(a:Rat)+t*0=_;grind
 |
  a::l,k+1,t,h=>by
  have ih:=LD l k t (by simpa using h);show(a:Rat)+t*U8 (l.take (k+1)) t=(a:Rat)+t*U8 (l.take k) t+((l.getD k 0:Int):Rat)*t^(k+1);rw[ih,Z9];grind
theorem qD(n:Nat)(t:Rat):U8 (List.replicate n 0) t=0:=by
 induction n with
 |zero=>rfl
 |
  succ n ih =>
  show((0:Int):Rat)+t*U8 (List.replicate n 0) t=0;rw[ih];push_cast;grind
theorem tW(t:Rat)(i:Nat):∀k,t^(i+k)=t^i*t^k
 | 0=>by rw[Xo,Xh];grind
 |k+1=>by rw[<-Yq,Z9,Z9,tW t i k];grind
theorem rU(x:Int)(b:Uo)(i:Nat)(o:Uo)(t:Rat):∀k,k<=b.length->i+k<=o.length->U8 (Oj x b i o k) t=U8 o t+(x:Rat)*t^i*U8 (b.take k) t
 |
  0,_,_=>by
  show U8 o t=U8 o t+(x:Rat)*t^i*0;grind
 |
  k+1,h1,h2=>by
  have ih:=rU x b i o t k (by omega) (by omega);simp only[Oj];rw[yC _ _ _ _ (by rw[Ol];omega),ih,LD b k t (by omega)];have hp:t^(i+k)=t^i*t^k:=tW t i k;rw[hp]
  push_cast
  grind
theorem rW(a b o:Uo)(t:Rat):∀i,i<=a.length->i+b.length<=o.length+1->U8 (Aq a b o i) t=U8 o t+U8 (a.take i) t*U8 b t
 |
  0,_,_=>by
  show U8 o t=U8 o t+0*U8 b t;grind
 |
  i+1,h1,h2=>by
  have ih:=rW a b o t i (by omega) (by omega);simp only[Aq];rw[rU _ _ _ _ _ b.length (Qm _) (by rw[Li];omega),ih,LD a i t (by omega),Q7];grind
theorem Gk(a b:Uo)(t:Rat):U8 (Gl a b) t=U8 a t*U8 b t:=by
 unfold Gl
 split
 ·rename_i h;rcases h with h|h
  ·rw[Qj h];show(0:Rat)=0*_;grind
  ·rw[Qj h];show(0:Rat)=_*0;grind
 ·rename_i h;rw[Ot,rW a b _ t a.length (Qm _) (by rw[Jd];omega),qD,Q7];grind
theorem Ra(z d:Int):(z:Rat) / (d:Rat)=Rat.divInt z d:=by
 by_cases h:d=0
 ·subst h;simp;grind
 ·rw[J9];exact(Rat.divInt_eq_div z d ▸ by rw[J9])
theorem Qav(a:Uo)(n d:Int)(hd:(d:Rat)≠0):∀k,k<=a.length->(((L9 a n d k).2:Int):Rat)=(d:Rat)^k/\(((L9 a n d k).1:Int):Rat)*d=(d:Rat)^k*U8 (a.drop (a.length-k)) ((n:Rat) / d)
 |
  0,_=>by
  refine⟨by rw[Xh];rfl,?_⟩;rw[W6,Yu];show((0:Int):Rat)*d=(d:Rat)^0*0
  push_cast;grind
 |
  k+1,hk=>by
  obtain⟨h1,h2⟩:=Qav a n d hd k (by omega);have hi:a.length-1-k<a.length:=by omega
  have e1:a.drop (a.length-(k+1))=a.getD (a.length-1-k) 0::a.drop (a.length-k):=by
   rw[show a.length-(k+1)=a.length-1-k by omega,Zp hi,show a.length-1-k+1=a.length-k by omega];congr 1;rw[Qi,Qf hi];rfl
  refine⟨?_,?_⟩
  ·show(((L9 a n d k).2*d:Int):Rat)=_;rw[X1,h1,Z9]
  ·rw[e1];show(((L9 a n d k).1*n+a.getD (a.length-1-k) 0*(L9 a n d k).2:Int):Rat)*d=_*(((a.getD (a.length-1-k) 0:Int):Rat)+(n:Rat) / d*U8 (a.drop (a.length-k)) ((n:Rat) / d));rw[Kc,X1,X1,h1,Z9];have h3:(n:Rat) / d*d=n:=by rw[Zj hd]
   have h4:(d:Rat)^k*d*((n:Rat) / d*U8 (a.drop (a.length-k)) ((n:Rat) / d))=((n:Rat) / d*d)*((d:Rat)^k*U8 (a.drop (a.length-k)) ((n:Rat) / d)):=by grind
   have h5:(d:Rat)^k*d*(((a.getD (a.length-1-k) 0:Int):Rat)+(n:Rat) / d*U8 (a.drop (a.length-k)) ((n:Rat) / d))=(d:Rat)^k*d*((a.getD (a.length-1-k) 0:Int):Rat)+(d:Rat)^k*d*((n:Rat) / d*U8 (a.drop (a.length-k)) ((n:Rat) / d)):=by grind
   rw[h5,h4,h3,<-h2];grind
theorem oR{d:Rat}(h:0<d):∀k:Nat,0<d^k
 | 0=>by rw[Xh];decide
 |k+1=>by rw[Z9];exact Xu (oR h k) h
theorem Cy{x y:Rat}(h:0<y):Ff (y*x)=Ff x:=by
 unfold Ff;have h1:y*x<0↔x<0:=by
  constructor
  ·intro h2;rcases Vx (a:=0) (b:=x)with h3|h3
   ·have:=Vy (Qt h) h3;grind
   ·rcases Rat.le_iff_lt_or_eq.1 h3 with h4|h4
    ·exact h4
    ·rw[h4]at h2;grind
  ·intro h2;have:=Xu h (show 0 < -x by grind);grind
 have h2:0<y*x↔0<x:=by
  constructor
  ·intro h2;rcases Vx (a:=x) (b:=0)with h3|h3
   ·have:=Vy (Qt h) (show 0<=-x by grind);grind
   ·rcases Rat.le_iff_lt_or_eq.1 h3 with h4|h4
    ·exact h4
    ·rw[<-h4]at h2;grind
  ·intro h2;exact Xu h h2
 simp only[h1,h2]
theorem Qgt(z:Int):D9 z 0=Ff (z:Rat):=by
 unfold D9 Ff;have h1:((z:Int):Rat)<0↔z<0:=by
  have := @Rat.intCast_lt_intCast z 0;simpa using this
 have h2:0<((z:Int):Rat)↔0<z:=by
  have := @Rat.intCast_lt_intCast 0 z;simpa using this
 simp only[h1,h2]
theorem Np(p:Uo)(q:Rat):Re p q=Ff (U8 p q):=by
 have hd0:(0:Rat)<((q.den:Int):Rat):=by
  have := @Rat.intCast_lt_intCast 0 (q.den:Int);rw[show((0:Int):Rat)=0 from rfl]at this;exact this.2 (den_pos q)
 have hd:((q.den:Int):Rat)≠0:=by intro h;rw[h]at hd0;exact absurd hd0 (by decide)
 obtain⟨_,h⟩:=Qav p q.num q.den hd p.length (Qm _);rw[Ki,Xy,Ra,Z7]at h;unfold Re;rw[Qgt,<-Cy hd0,W8];show Ff ((((L9 p q.num q.den p.length).1:Int):Rat)*_)=_;rw[h,Cy (oR hd0 _)]
def cz(p:Uo):Ur:=p.map λz:Int=>(z:Rat)
theorem U9(t:Rat):∀p,ev (cz p) t=U8 p t
 | []=>rfl
 |a::p=>by have:=U9 t p;simp only[cz,Zz,ev,U8]at *;rw[this]
theorem Mr:∀(p:Uo) (k:Nat),(cz p).getD k 0=((p.getD k 0:Int):Rat)
 | [],k=>by simp[cz]
 |a::p,0=>by simp[cz]
 |a::p,k+1=>by have:=Mr p k;simp only[cz,Zz,Q4]at *;exact this
theorem Lp{p q:Uo}(h:∀t,U8 p t=U8 q t)(k:Nat):p.getD k 0=q.getD k 0:=by
 have:=Dy (p:=cz p) (q:=cz q) (λt=>by rw[U9,U9,h]) k;rw[Mr,Mr]at this
 exact_mod_cast this
theorem Qq1{p q:Uo}(hp:Fe p)(hq:Fe q)(h:∀k,p.getD k 0=q.getD k 0):p=q:=by
 have key:∀{p q:Uo},Fe p->Fe q->(∀k,p.getD k 0=q.getD k 0)->p.length<=q.length:=λ{p q} hp hq h=>by
  rcases Zc q.length p.length with e|e
  ·have:=H9 hp (by omega);rw[h,Qi,Qu (by omega)]at this;exact absurd rfl this
  ·exact e
 exact CB (Kb (key hp hq h) (key hq hp λk=>(h k).symm)) λj _=>h j
theorem oW{p q:Uo}(hp:Fe p)(hq:Fe q)(h:∀t,U8 p t=U8 q t):p=q:=Qq1 hp hq (Lp h)
theorem Qpr{p:Uo}(hp:Fe p)(h:∀t,U8 p t=0):p=[]:=oW hp rfl λt=>by rw[h];rfl
theorem D3{p:Uo}(h:p.length=0)(t:Rat):U8 p t=0:=by rw[Qj h];rfl
theorem oV:∀(p r:Uo) (t:Rat),(∀k,r.getD k 0=p.getD (k+1) 0*((k+1:Nat):Int))->U8 r t=dv (cz p) t
 |
  [],r,t,h=>by
  rw[oK (q:=[]) (λk=>by rw[h];simp) t];rfl
 |
  a::p,r,t,h=>by
  have ih:=oV p (Gy p) t λk=>By p k
  have e:U8 r t=U8 p t+t*U8 (Gy p) t:=by
   have:=Co 1 1 t (max (max p.length (0::Gy p).length) r.length) p (0::Gy p) r (by omega) (by omega) (by omega) λk=>by
    rw[h,Q4];cases k with
    |zero=>simp
    |succ k=>rw[Q4,By];push_cast;grind
   rw[this];simp only[U8];push_cast;grind
  rw[e,ih];show _=ev (cz p) t+t*dv (cz p) t;rw[U9]
theorem Oq(p:Uo)(t:Rat):U8 (Gy p) t=dv (cz p) t:=oV p _ t λk=>By p k
theorem SY{p:Uo}(hp:Fe p)(h:0<p.length):HD (cz p) (p.length-1):=by
 refine⟨?_,λk hk=>?_⟩
 ·rw[Mr];have:=H9 hp h;exact λe=>this (by exact_mod_cast e)
 ·rw[Mr,Qi,Qu (by omega)];rfl
theorem TO{p:Uo}(hp:Fe p)(h:0<p.length):¬∀t,U8 p t=0:=λh0=>by
 rw[Qpr hp h0]at h;exact absurd h (by simp)
theorem Mv{a b c:Uo}(ha:Fe a)(hb:Fe b)(hc:Fe c)(h:∀t,U8 c t=U8 a t*U8 b t)(la:0<a.length)(lb:0<b.length):c.length=a.length+b.length-1:=by
 have h1:=DT (SY ha la) (SY hb lb);have h2:HD (cz c) (a.length-1+(b.length-1)):=Qsc (λt=>by rw[Fg,U9,U9,U9,h]) h1;have lc:0<c.length:=by
  rcases Q3 c.length with e|e
  ·exact absurd (λt=>by rw[U9];exact D3 e t) (aN h2)
  ·exact e
 have:=Qsd (SY hc lc) h2;omega
theorem rP:∀(n m:Nat),m<=n->2<=m->∃P,2<=P/\P∣m/\∀d,2<=d->d∣P->d=P
 | 0,m,h,h2=>by omega
 |
  n+1,m,h,h2=>by
  rcases Classical.em (∃d,2<=d/\d<m/\d∣m)with⟨d,d1,d2,d3⟩|h0
  ·obtain⟨P,p1,p2,p3⟩:=rP n d (by omega) d1;exact⟨P,p1,Nat.dvd_trans p2 d3,p3⟩
  ·refine⟨m,h2,Nat.dvd_refl m,λd d1 d2=>?_⟩;rcases Vm (Kv (by omega) d2)with e|e
   ·exact absurd ⟨d,d1,e,d2⟩ h0
   ·exact e
theorem jH{P:Nat}(h2:2<=P)(hP:∀d,2<=d->d∣P->d=P){x y:Int}(h:(P:Int)∣x*y):(P:Int)∣x\/(P:Int)∣y:=by
 have h:=X3.2 h;rw[Yc,Xi]at h;have hg:=W3 P x.natAbs;rcases Zc (Nat.gcd P x.natAbs) 2 with e|e
 ·right;have h1:Nat.gcd P x.natAbs=1:=by
   have:=Nat.gcd_pos_of_pos_left x.natAbs (show 0<P by omega);omega
  have:=Nat.Coprime.dvd_of_dvd_mul_left h1 h;exact X3.1 (by rwa[Xi])
 ·left;have:=hP _ e hg;have h3:=Nat.gcd_dvd_right P x.natAbs;rw[this]at h3;exact X3.1 (by rwa[Xi])
def sE(P:Int)(l:Uo):Prop:=∀k,P∣l.getD k 0
theorem HQ{P:Nat}(h2:2<=P)(hP:∀d,2<=d->d∣P->d=P):∀(n:Nat) (b h c:Uo),b.length+h.length<=n->(∀t,U8 c t=U8 b t*U8 h t)->sE P c->sE P b\/sE P h
 |_,[],h,c,_,_,_=>.inl λk=>by simp
 |_,x::b,[],c,_,_,_=>.inr λk=>by simp
 | 0,x::b,y::h,c,hn,_,_=>by simp at hn
 |
  n+1,x::b,y::h,c,hn,hc,hd=>by
  simp only[Q5]at hn;by_cases hx:(P:Int)∣x
  ·-- x h is taken away
   have e:∀t,U8 (0::Gl b (y::h)) t=U8 (Na c (Fu (y::h) x)) t:=λt=>by
    rw[No,Rp,hc];simp only[U8];rw[Gk];simp only[U8];push_cast;grind
   have hd':sE P (Gl b (y::h)):=λk=>by
    have:=Lp e (k+1);rw[Q4,O2,Mh]at this;rw[this];exact Int.dvd_sub (hd (k+1)) (V5 hx (Vb _ _))
   rcases HQ h2 hP n b (y::h) _ (by simp only[Q5];omega) (λt=>Gk _ _ t) hd' with h1|h1
   ·refine .inl λk=>?_
    cases k with
    |zero=>rw[Zt];exact hx
    |succ k=>rw[Q4];exact h1 k
   ·exact .inr h1
  ·have h0:(P:Int)∣y:=by
    have e:c.getD 0 0=x*y:=by
     have:=Lp (p:=c) (q:=Gl (x::b) (y::h)) (λt=>by rw[hc,Gk]) 0;have e2:=Lp (p:=Gl (x::b) (y::h)) (q:=A5 (Fu (y::h) x) (0::Gl b (y::h))) (λt=>by
      rw[LC,Rp,Gk];simp only[U8];rw[Gk];simp only[U8];push_cast;grind) 0
     rw[this,e2,qN,Mh,Zt,Zt,K8];omega
    have:=hd 0;rw[e]at this;rcases jH h2 hP this with h1|h1
    ·exact absurd h1 hx
    ·exact h1
   have e:∀t,U8 (0::Gl (x::b) h) t=U8 (Na c (Fu (x::b) y)) t:=λt=>by
    rw[No,Rp,hc];simp only[U8];rw[Gk];simp only[U8];push_cast;grind
   have hd':sE P (Gl (x::b) h):=λk=>by
    have:=Lp e (k+1);rw[Q4,O2,Mh]at this;rw[this];exact Int.dvd_sub (hd (k+1)) (V5 h0 (Vb _ _))
   rcases HQ h2 hP n (x::b) h _ (by simp only[Q5];omega) (λt=>Gk _ _ t) hd' with h1|h1
   ·exact absurd (by have:=h1 0;rwa[Zt]at this) hx
   ·refine .inr λk=>?_
    cases k with
    |zero=>rw[Zt];exact h0
    |succ k=>rw[Q4];exact h1 k
def Prm(b:Uo):Prop:=∀d:Int,sE d b->d∣1
theorem Qht{a b:Uo}(hb:Prm b):∀(n:Nat) (c:Int) (h:Uo),c.natAbs<=n->c≠0->(∀t,(c:Rat)*U8 a t=U8 b t*U8 h t)->∃h',∀t,U8 a t=U8 b t*U8 h' t
 | 0,c,h,hn,h0,_=>absurd (by omega) h0
 |
  n+1,c,h,hn,h0,hc=>by
  rcases Zc c.natAbs 2 with h1|h1
  ·refine⟨Fu h c,λt=>?_⟩;have hcc:(c:Rat)*c=1:=by
    have:c*c=1:=by
     rcases(show c=1\/c=-1 by omega)with rfl|rfl <;> rfl
    have:=congrArg (λz:Int=>(z:Rat)) this
    push_cast at this;exact this
   rw[Rp];have:=hc t;have:U8 a t=(c:Rat)*((c:Rat)*U8 a t):=by
    have:(c:Rat)*((c:Rat)*U8 a t)=((c:Rat)*c)*U8 a t:=by grind
    rw[this,hcc];grind
   rw[this,hc];grind
  ·obtain⟨P,p1,p2,p3⟩:=rP c.natAbs c.natAbs (Qm _) h1;obtain⟨d,hd⟩:∃d,c=(P:Int)*d:=Wp.2 p2;have hall:sE P (Fu a c):=λk=>by
    rw[Mh,hd];exact V5 (Int.dvd_mul_right _ _) (Vb _ _)
   have hP0:(P:Rat)≠0:=by
    have:((0:Nat):Rat)<(P:Rat):=Vp.2 (by omega);grind
   rcases HQ p1 p3 _ b h (Fu a c) (Qm _) (λt=>by rw[Rp,W8,hc]) hall with e|e
   ·have:=hb P e;have:=X3.2 this;rw[Xi]at this;have:=Kv (by decide) this;exact absurd this (by show ¬P<=1;omega)
   ·refine Qht hb n d (h.map (· / (P:Int))) ?_ (λe0=>h0 (by rw[hd,e0,Wa])) λt=>?_
    ·rw[hd,Yc,Xi]at hn h1;have:2*d.natAbs<=P*d.natAbs:=Q0 _ p1;omega
    ·have e1:U8 h t=(P:Rat)*U8 (h.map (· / (P:Int))) t:=by
      have:=Co P 0 t (max h.length (h.map (· / (P:Int))).length) (h.map (· / (P:Int))) [] h (by omega) (by simp) (by omega) λk=>by
       have:=e k;have e2:(h.map (· / (P:Int))).getD k 0=h.getD k 0 / (P:Int):=by
        rw[Qi,Qi,Za];cases h[k]? <;> simp
       rw[e2,K9 this];simp
      rw[this];simp only[U8];push_cast;grind
     have:=hc t;rw[hd,e1]at this
     push_cast at this
     have h3:(P:Rat)*((d:Rat)*U8 a t)=(P:Rat)*(U8 b t*U8 (h.map (· / (P:Int))) t):=by grind
     have h4:=Y4.1 (show(P:Rat)*((d:Rat)*U8 a t-U8 b t*U8 (h.map (· / (P:Int))) t)=0 by grind);rcases h4 with h4|h4
     ·exact absurd h4 hP0
     ·grind
theorem IE:∀u:Ur,∃c:Int,c≠0/\∃h:Uo,∀t,(c:Rat)*ev u t=U8 h t
 | []=>⟨1,by decide,[],λt=>by simp only[ev,U8];grind⟩
 |
  a::u=>by
  obtain⟨c,hc,h,hh⟩:=IE u;refine⟨c*(a.den:Int),Jf hc (by have:=a.den_nz;omega),(c*a.num)::Fu h (a.den:Int),λt=>?_⟩;have e:(a.den:Rat)*a=a.num:=by
   rw[W8];have:(a.num:Rat) / (((a.den:Int)):Rat)=a:=by rw[Ra,Z7]
   have hd:(a.den:Rat)≠0:=by
    have:((0:Nat):Rat)<(a.den:Rat):=Vp.2 a.den_pos;grind
   have h2:(a.num:Rat) / (a.den:Rat)*(a.den:Rat)=a.num:=Zj hd;rw[show(a.num:Rat) / (a.den:Rat)=a from this]at h2;exact h2
  simp only[ev,U8];rw[Rp,<-hh]
  push_cast
  rw[<-e];have e3:(((a.den:Int)):Rat)=(a.den:Rat):=rfl;grind
theorem Qhs{a b:Uo}(hb:Prm b)(h:ZB (cz b) (cz a)):∃h',Fe h'/\∀t,U8 a t=U8 b t*U8 h' t:=by
 obtain⟨u,hu⟩:=h;obtain⟨c,hc,h,hh⟩:=IE u;obtain⟨h',e⟩:=Qht hb c.natAbs c h (Qm _) hc λt=>by
  have:=hu t;rw[U9,U9]at this;rw[this,<-hh];grind
 exact⟨trim h',Rt _,λt=>by rw[Ot,e]⟩
def sd(x0:Rat):Ur->Ur
 | []=>[]
 |_::p=>Sv p (D5 x0 (sd x0 p))
theorem Qhk(x0 x:Rat):∀p,ev (sd x0 p) x=dq p x x0
 | []=>rfl
 |a::p=>by simp only[sd,dq];rw[G5,Gt,Qhk x0 x p]
theorem cN(x0:Rat):∀(g:Ur) (n:Nat),(∀j,n<j->g.getD j 0=0)->∀j,n<=j->(sd x0 g).getD j 0=0
 | [],n,_,j,_=>by simp[sd]
 |
  a::p,0,h,j,_=>by
  have hp:∀j,p.getD j 0=0:=λj=>by have:=h (j+1) (by omega);rwa[Q4]at this
  simp only[sd];rw[Ro,Sp,hp,cN x0 p 0 (λj _=>hp j) j (Qh _)];grind
 |
  a::p,n+1,h,j,hj=>by
  have hp:∀j,n<j->p.getD j 0=0:=λj hj=>by have:=h (j+1) (by omega);rwa[Q4]at this
  simp only[sd];rw[Ro,Sp,hp j (by omega),cN x0 p n hp j (by omega)];grind
theorem nR{K:Rat}(hK:0≤K):∀(e:Nat) (g:Ur) (pts:Uo) (M:Rat),pts.length=e+1->pts.Nodup->(∀x∈pts,Fi (x:Rat)≤K)->(∀k,e<k->g.getD k 0=0)->(∀x∈pts,Fi (ev g (x:Rat))≤M)->∀k,Fi (g.getD k 0)≤(2*K+3)^e*M
 |_,_,[],_,h,_,_,_,_=>by simp at h
 |
  0,g,x0::xs,M,_,_,_,hg,hM=>λk=>by
  have h0:=hM x0 (by simp);rw[Xh];cases k with
  |
   zero =>
   have e:ev g (x0:Rat)=g.getD 0 0:=by
    cases g with
    |nil=>rfl
    |
     cons a p =>
     have hp:=Lb (p:=p) λj=>by have:=hg (j+1) (by omega);rwa[Q4]at this
     simp only[ev,hp,Zt];grind
   rw[<-e];grind
  |
   succ k =>
   rw[hg (k+1) (by omega),Rl];have:=Hw (ev g (x0:Rat));grind
 |
  e+1,g,x0::xs,M,hl,hn,hb,hg,hM=>λk=>by
  have hx0:=hb x0 (by simp);have hM0:=hM x0 (by simp);have hMn:0<=M:=Zl (Hw _) hM0;rw[List.nodup_cons]at hn;have ih:=nR hK e (sd x0 g) xs (2*M) (by simpa using hl) hn.2 (λx hx=>hb x (by simp[hx])) (λj hj=>cN _ g (e+1) hg j (by omega)) λx hx=>by
   have h1:=hM x (by simp[hx]);have h2:=OV (x:Rat) (x0:Rat) g;rw[<-Qhk]at h2;have hne:x-x0≠0:=λh=>hn.1 (by rw[show x0=x by omega];exact hx)
   have h3:=WX hne;rw[Rat.intCast_sub]at h3;have h4:Fi (ev g (x:Rat)-ev g (x0:Rat))<=2*M:=by
    have:=Su (ev g (x:Rat)) (-ev g (x0:Rat));rw[Er,show ev g (x:Rat)+-ev g (x0:Rat)=ev g (x:Rat)-ev g (x0:Rat) by grind]at this;clear hM hb hg;grind
   rw[h2,Il]at h4;have h5:=Zf h3 (Hw (ev (sd x0 g) x));clear hM hb hg;grind
  have e1:∀t,ev g t=ev (Sv [ev g x0] (Sv (D5 (-x0) (sd x0 g)) (0::sd x0 g))) t:=λt=>by
   have:=OV t (x0:Rat) g;rw[<-Qhk]at this;simp only[G5,Gt,ev];grind
  have hp1:1<=(2*K+3)^e:=(YE (R:=2*K+3) (x:=0) (by grind) (by rw[Rl];grind) e).2;have hpM:=Bl (x:=(2*K+3)^e) (y:=M) (by grind) hMn;have hpM1:=Zf hp1 hMn;rw[Z9,Dy e1 k,Ro,Ro,Sp];have a1:=ih k;have a2:Fi (-(x0:Rat)*(sd (x0:Rat) g).getD k 0)<=K*((2*K+3)^e*(2*M)):=He (by rw[Er];exact hx0) a1;have fin:∀u v w:Rat,Fi u<=M->Fi v<=K*((2*K+3)^e*(2*M))->Fi w<=(2*K+3)^e*(2*M)->Fi (u+(v+w))<=(2*K+3)^e*(2*K+3)*M:=λu v w h1 h2 h3=>by
   have b1:=Su u (v+w);have b2:=Su v w;clear ih e1 hM hb hg a1 a2;grind
  refine fin _ _ _ ?_ a2 ?_
  ·cases k with
   |zero=>rw[Zt];exact hM0
   |succ k=>rw[Q4,Kt,Rl];exact hMn
  ·cases k with
   |zero=>rw[Zt,Rl];clear ih e1 hM hb hg a1 a2 fin;grind
   |succ k=>rw[Q4];exact ih k
theorem Qkd{g:Ur}{e:Nat}(hg:∀k,e<k->g.getD k 0=0)(hz:¬∀t,ev g t=0){pts:Uo}(hn:pts.Nodup)(hr:∀x∈pts,ev g (x:Rat)=0):pts.length≤e:=by
 rcases Zc e pts.length with h|h
 ·exfalso;obtain⟨K,hK,hb⟩:∃K:Rat,0≤K/\∀x∈pts,Fi (x:Rat)≤K:=by
   clear hn hr h
   induction pts with
   |nil=>exact⟨0,by decide,λx hx=>by cases hx⟩
   |
    cons y pts ih =>
    obtain⟨K,h1,h2⟩:=ih;refine⟨K+Fi (y:Rat),by have:=Hw (y:Rat);grind,λx hx=>?_⟩;have hy:=Hw (y:Rat);rcases Ql.1 hx with rfl|hx
    ·grind
    ·have:=h2 x hx;grind
  refine hz (Lb λk=>?_);have:=nR hK e g (pts.take (e+1)) 0 (by rw[Qr];omega) (hn.sublist (List.take_sublist ..)) (λx hx=>hb x (Qn hx)) hg (λx hx=>by rw[hr x (Qn hx),Rl];exact Qq) k;have h2:=Hw (g.getD k 0);exact Qp2 (by grind)
 ·exact h
def spots:Uo:=(List.range 19).map λi:Nat=>(i:Int)-9
theorem spots_nd:spots.Nodup:=by decide
theorem tD:∀x∈spots,x.natAbs≤9:=by decide
theorem CE{α:Type}(p:α->Bool):∀l:List α,(l.filter p).length+(l.filter λx => !p x).length=l.length
 | []=>rfl
 |
  x::l=>by
  have:=CE p l;cases h:p x <;> simp[h] <;> omega
def geo:Nat->Nat
 | 0=>0
 |n+1=>1+9*geo n
theorem aG{B:Rat}:∀(p:Uo),(∀z∈p,Fi (z:Rat)≤B)->uD 9 (cz p)≤B*(geo p.length:Nat)
 | [],_=>by simp only[cz,X7,uD,geo,Jg];rw[show((0:Nat):Rat)=0 from rfl];grind
 |
  a::p,h=>by
  have h1:=aG p λz hz=>h z (Qg _ hz)
  have h2:=h a (Qy ..);simp only[cz,Zz,uD,geo,Q5]at *
  push_cast
  clear h;grind
theorem Qh1{m n:Nat}(h:m<=n):geo m<=geo n:=by
 induction h with
 |refl=>exact Qm _
 |step h ih=>simp only[geo];omega
def pz:Uo->Int->Int
 | [],_=>0
 |a::p,x=>a+x*pz p x
theorem WV(x:Int):∀p,U8 p (x:Rat)=((pz p x:Int):Rat)
 | []=>rfl
 |a::p=>by simp only[U8,pz,WV x p];push_cast;rfl
theorem S4(z:Int):Fi (z:Rat)=((z.natAbs:Nat):Rat):=by
 unfold Fi;rcases Kd z 0 with h|h
 ·have h1:(z:Rat)<((0:Int):Rat):=Jo.2 h;rw[if_pos (by simpa using h1)];have:(z.natAbs:Int)=-z:=by omega
  have:=congrArg (λu:Int=>(u:Rat)) this
  push_cast at this
  exact this.symm
 ·have h1:((0:Int):Rat)<=(z:Rat):=Jb.2 h;have h1:(0:Rat)<=(z:Rat):=by simpa using h1
  rw[if_neg (by grind)];have:(z.natAbs:Int)=z:=by omega
  have:=congrArg (λu:Int=>(u:Rat)) this;exact this.symm
theorem XV{p g h:Uo}{s:Nat}(hp:Bd s p)(hl:p.length<=10)(tp:Fe p)(tg:Fe g)(th:Fe h)(h0:p.length≠0)(e:∀t,U8 p t=U8 g t*U8 h t):Bd (s+69) g:=by
 have lg:0<g.length:=by
  rcases Q3 g.length with e'|e'
  ·exact absurd (λt=>by rw[e,D3 e'];grind) (TO tp (by omega))
  ·exact e'
 have lh:0<h.length:=by
  rcases Q3 h.length with e'|e'
  ·exact absurd (λt=>by rw[e,D3 e'];grind) (TO tp (by omega))
  ·exact e'
 have hlen:=Mv tg th tp e lg lh;obtain⟨q,hq⟩:=nmE (spots.filter λx => !decide (pz p x=0));have hr:(spots.filter λx=>decide (pz p x=0)).length<=9:=by
  refine Qkd (g:=cz p) (e:=9) (λk hk=>?_) (λh=>TO tp (by omega) λt=>by rw[<-U9];exact h t) (spots_nd.sublist List.filter_sublist) λx hx=>?_
  ·rw[Mr,Qi,Qu (by omega)];rfl
  ·have:=(J4.1 hx).2;rw[U9,WV,of_decide_eq_true this];rfl
 have hc:=CE (λx=>decide (pz p x=0)) spots;rw[<-hq]at hc;have hsl:spots.length=19:=by decide
 have hB:∀z∈p,Fi (z:Rat)≤((2^s:Nat):Rat):=λz hz=>by
  rw[S4];have:=hp z hz;rw[S0]at this;exact Zm.2 (Yl this)
 have key:=nR (K:=9) (by decide) 9 (cz g) (q.take 10) (((2^s*435848050:Nat)):Rat) (by rw[Qr];omega) ((spots_nd.sublist (by rw[hq];exact List.filter_sublist)).sublist (List.take_sublist ..)) (λx hx=>by
  have hx:=Qn hx;rw[hq]at hx;have:=tD x (J4.1 hx).1;rw[S4]
  exact_mod_cast Zm.2 this) (λk hk=>by rw[Mr,Qi,Qu (by omega)];rfl) (λx hx=>by
  have hx:=Qn hx;rw[hq]at hx;obtain⟨hx1,hx2⟩:=J4.1 hx;have hne:pz p x≠0:=by simpa using hx2
  have e1:=e (x:Rat);rw[WV,WV,WV]at e1;have e2:pz p x=pz g x*pz h x:=by exact_mod_cast e1
  have hh:1<=(pz h x).natAbs:=by
   rcases Q3 (pz h x).natAbs with e'|e'
   ·exact absurd (by rw[e2,Int.natAbs_eq_zero.1 e',Wa]) hne
   ·exact e'
  have h3:(pz g x).natAbs<=(pz p x).natAbs:=by
   rw[e2,Yc];exact Yt _ hh
  rw[U9,WV,S4];refine Zl (Zm.2 h3) ?_;rw[<-S4,<-WV,<-U9];refine Zl (SZ (R:=9) (by
   have:=tD x hx1;rw[S4]
   exact_mod_cast Zm.2 this) _) ?_
  refine Zl (aG p hB) ?_;have:2^s*geo p.length<=2^s*435848050:=Zu _ (Qc (Qh1 hl) (by decide));have:=Zm.2 this
  push_cast at this ⊢
  exact this)
 refine ND λk=>?_
 have h1:=key k;rw[Mr,S4]at h1;have e3:(2*(9:Rat)+3)^9*((2^s*435848050:Nat):Rat)=(((794280046581*(2^s*435848050)):Nat):Rat):=by
  rw[show(2*(9:Rat)+3)^9=794280046581 by grind]
  push_cast;rfl
 rw[e3]at h1;have h2:=Zm.1 h1;rw[S0];refine Z3 h2 ?_;have:794280046581*(2^s*435848050)=2^s*(794280046581*435848050):=by
  rw[Nat.mul_left_comm]
 rw[this,Xg];exact Nat.mul_lt_mul_of_pos_left (by decide) (Z2 (by decide))
theorem uS{l:Uo}{d:Int}(h:∀z∈l,d∣z):d∣((Tc l:Nat):Int):=by
 have key:∀(l:Uo) (g:Nat),d.natAbs∣g->(∀z∈l,d∣z)->d.natAbs∣l.foldl (λg z=>Nat.gcd g z.natAbs) g:=by
  intro l
  induction l with
  |nil=>exact λg h _=>h
  |cons z l ih=>exact λg hg h=>ih _ (Nat.dvd_gcd hg (X3.2 (h z (Qy ..)))) λu hu=>h u (Qg _ hu)
 have:=key l 0 (Nat.dvd_zero _) h;exact X3.1 (by rw[Xi];exact this)
theorem UA(p:Uo)(c:Int)(k:Nat):(p.map (· / c)).getD k 0=p.getD k 0 / c:=by
 rw[Qi,Qi,Za];cases p[k]? <;> simp
theorem WW(p:Uo)(c:Int)(k:Nat):(Dc p c).getD k 0=p.getD k 0 / c:=by
 unfold Dc;rw[VV,UA]
theorem qC{p:Uo}{c:Int}(h:∀z∈p,c∣z)(t:Rat):U8 p t=(c:Rat)*U8 (Dc p c) t:=by
 have:=Co c 0 t (max p.length (Dc p c).length) (Dc p c) [] p (by omega) (by simp) (by omega) λk=>by
  rw[WW];have hd:c∣p.getD k 0:=by
   rw[Qi];cases e:p[k]? with
   |none=>exact Int.dvd_zero _
   |some z=>exact h z (Qa e)
  rw[K9 hd];simp
 rw[this];simp only[U8];push_cast;grind
theorem XH{c:Int}(h:c≠0):(c:Rat)≠0:=λe=>h (by exact_mod_cast e)
theorem QE{p q:Uo}{c:Rat}(tp:Fe p)(tq:Fe q)(hc:c≠0)(h:∀t,U8 p t=c*U8 q t):p.length=q.length:=by
 have key:∀{p q:Uo} {c:Rat},Fe p->Fe q->c≠0->(∀t,U8 p t=c*U8 q t)->p.length<=q.length:=λ{p q c} tp tq hc h=>by
  rcases Zc q.length p.length with e|e
  ·have h1:=H9 tp (by omega);have:=Dy (p:=cz p) (q:=D5 c (cz q)) (λt=>by rw[U9,Gt,U9,h]) (p.length-1);rw[Mr,Sp,Mr,Qi (l:=q),Qu (by omega)]at this;have:((p.getD (p.length-1) 0:Int):Rat)=0:=by rw[this];simp
   exact absurd (by exact_mod_cast this) h1
  ·exact e
 refine Kb (key tp tq hc h) (key (c:=1 / c) tq tp (λe=>?_) λt=>?_)
 ·have:=Zj (a:=1) hc;rw[e]at this;grind
 ·rw[h];have:=Zj (a:=1) hc;grind
theorem Cu{p:Uo}(tp:Fe p)(h:p.length≠0):Fe (Fh p)/\(Fh p).length=p.length/\Prm (Fh p)/\0<Fp (Fh p)/\(∀s,Bd s p->Bd s (Fh p))/\Hp p≠0/\∀t,U8 p t=(Hp p:Rat)*U8 (Fh p) t:=by
 have h0:=oU tp h;have e:Fh p=Dc p (Hp p):=by unfold Fh;rw[if_neg h]
 have h1:=qC (p:=p) (c:=Hp p) FB;have hl:=QE tp (ZJ p (Hp p)) (XH h0) h1;have hcp:0<Pg p:=by
  have:=JJ tp h;unfold Pg at this ⊢;omega
 rw[e];refine⟨ZJ _ _,hl.symm,λd hd=>?_,?_,λs hs=>NL hs _,h0,h1⟩
 ·have h2:∀z∈p,d*Hp p∣z:=λz hz=>by
   obtain⟨i,hi⟩:=Zk.1 hz;have h3:=hd i;rw[WW,Qi,hi]at h3;obtain⟨k,hk⟩:=h3;have h4:=FB z hz;refine⟨k,?_⟩;have:z / Hp p*Hp p=z:=Int.ediv_mul_cancel h4;rw[<-this];rw[show z / Hp p=d*k from hk,Int.mul_right_comm]
  have h3:=uS h2;have h4:Hp p∣((Tc p:Nat):Int)/\((Tc p:Nat):Int)∣Hp p:=by
   unfold Hp Pg;split
   ·exact⟨Ue.2 (K7 _),Int.dvd_neg.2 (K7 _)⟩
   ·exact⟨K7 _,K7 _⟩
  obtain⟨k,hk⟩:=V5 h3 h4.2;refine⟨k,?_⟩;have:Hp p*(d*k)=Hp p*1:=by rw[Ud,<-Int.mul_assoc,K8 (Hp p) d,<-hk]
  exact(Int.eq_of_mul_eq_mul_left h0 this).symm
 ·have h2:Fp (Dc p (Hp p))=Fp p / Hp p:=by unfold Fp;rw[<-hl,WW]
  have h3:Hp p∣Fp p:=FB _ (DL h);have h5:Fp p / Hp p*Hp p=Fp p:=Int.ediv_mul_cancel h3;rw[h2];have h6:=Ek tp h;rcases Km (Fp p / Hp p) 0 with e1|e1|e1
  ·exfalso;by_cases hn:Fp p<0
   ·have:Hp p=-Pg p:=by unfold Hp;rw[if_pos hn]
    have:0<Fp p / Hp p*Hp p:=V9 e1 (by omega);omega
   ·have:Hp p=Pg p:=by unfold Hp;rw[if_neg hn]
    have:Fp p / Hp p*Hp p<0:=Int.mul_neg_of_neg_of_pos e1 (by omega);omega
  ·rw[e1]at h5;omega
  ·exact e1
theorem Qjt{r:Uo}(tr:Fe r):∃c:Rat,0<c/\∀t,U8 r t=c*U8 (VI r) t:=by
 unfold VI;by_cases h:r.length=0
 ·rw[if_pos h];exact⟨1,by decide,λt=>by rw[D3 h,D3 rfl];grind⟩
 ·rw[if_neg h];have h1:0<Pg r:=by
   have:=JJ tr h;unfold Pg at this ⊢;omega
  have h2:((0:Int):Rat)<(Pg r:Rat):=Jo.2 h1;exact⟨Pg r,by simpa using h2,qC E5⟩
theorem JY(x:Int)(t:Rat):∀i,U8 (mono i x) t=(x:Rat)*t^i
 | 0=>by simp only[mono,Wj,Yk,U8,Xh];grind
 |
  i+1=>by
  have ih:=JY x t i;simp only[mono,J6,Xc,U8]at *;rw[ih,Z9];push_cast;grind
theorem iT(x:Int)(b:Uo)(i k:Nat):(Gl (trim (mono i x)) b).getD k 0=if i<=k then x*b.getD (k-i) 0 else 0:=by
 have e:∀t,U8 (Gl (trim (mono i x)) b) t=U8 (List.replicate i 0++b.map (x * ·)) t:=λt=>by
  rw[Gk,Ot,JY];have h2:∀i,U8 (List.replicate i 0++b.map (x * ·)) t=t^i*((x:Rat)*U8 b t):=λi=>by
   induction i with
   |
    zero =>
    simp only[Wj,Yk,Xh];have:=Co x 0 t (max b.length (b.map (x * ·)).length) b [] (b.map (x * ·)) (by omega) (by simp) (by omega) λk=>by
     rw[Qi,Qi,Za];cases b[k]? <;> simp
    rw[this];simp only[U8];push_cast;grind
   |succ i ih=>simp only[J6,Xc,U8,ih,Z9];push_cast;grind
  rw[h2];grind
 rw[Lp e k,Qi,List.getElem?_append,Jd];by_cases h:i<=k
 ·rw[if_neg (by omega),if_pos h,Za,Qi];cases b[k-i]? <;> simp
 ·rw[if_pos (by omega),if_neg h,J0,if_pos (by omega)];rfl
theorem Qim{p:Uo}{n:Nat}(tp:Fe p)(h:p.length<=n+1)(h0:p.getD n 0=0):p.length<=n:=by
 rcases Zc n p.length with e|e
 ·have:=H9 tp (by omega);rw[show p.length-1=n by omega]at this;exact absurd h0 this
 ·exact e
theorem Qqw{b r:Uo}{i:Nat}(tr:Fe r)(h:r.length<=b.length+i)(hb:b.length≠0){x:Int}(hx:x=if r.length=b.length+i then Fp r else 0):(str b (Fp b) i x r).length<b.length+i:=by
 have hl:=jO (c:=Fp b) (x:=x) (i:=i) (b:=b) (r:=r);have:=Qim (p:=str b (Fp b) i x r) (n:=b.length+i-1) (Fy _ _) (by omega) (by
  unfold str;rw[O2,Mh,iT,if_pos (by omega),hx,show b.length+i-1-i=b.length-1 by omega]
  split
  ·rename_i he;unfold Fp;rw[he,Int.sub_eq_zero]
  ·rw[Qi (l:=r),Qu (by omega)];simp)
 omega
theorem Qwm(b r:Uo)(c:Int)(i:Nat)(x:Int)(t:Rat):(c:Rat)*U8 r t=(x:Rat)*t^i*U8 b t+U8 (str b c i x r) t:=by
 unfold str;rw[No,Rp,Gk,Ot,JY];grind
theorem Qjx(b:Uo)(c:Int):∀(i:Nat) (q r:Uo),∃X:Ur,∀t,((c^i:Int):Rat)*U8 r t=ev X t*U8 b t+U8 (rB b c i (q,r)).2 t
 | 0,q,r=>⟨[],λt=>by simp only[rB,ev];rw[Wz];push_cast;grind⟩
 |
  i+1,q,r=>by
  obtain⟨x,hx⟩:=nmE (if r.length=b.length+i then Fp r else 0);obtain⟨X,hX⟩:=Qjx b c i (stq c i x q) (str b c i x r);obtain⟨m,hm⟩:∃m:Ur,∀t,ev m t=(x:Rat)*t^i:=⟨cz (mono i x),λt=>by rw[U9,JY]⟩;refine⟨Sv (D5 ((c^i:Int):Rat) m) X,λt=>?_⟩;rw[JU hx,G5,Gt,hm];have h1:=hX t;have h2:=Qwm b r c i x t;rw[Wy]
  push_cast at h1 ⊢
  have:(c:Rat)^i*c*U8 r t=(c:Rat)^i*((c:Rat)*U8 r t):=by grind
  rw[this,h2];grind
theorem oN{b:Uo}(hb:b.length≠0):∀(i:Nat) (q r:Uo),Fe r->r.length<b.length+i->Fe (rB b (Fp b) i (q,r)).2/\(rB b (Fp b) i (q,r)).2.length<b.length
 | 0,q,r,tr,h=>⟨tr,h⟩
 |
  i+1,q,r,tr,h=>by
  rw[JU rfl];exact oN hb i _ _ (Fy _ _) (Qqw tr (by omega) hb rfl)
theorem Qjw{b:Uo}{c:Int}{t:Nat}(hb:Bd t b)(hc:Fc c<=t):∀(i u:Nat) (q r:Uo),i<=64->Bd u r->Bd (u+i*(t+8)) (rB b c i (q,r)).2
 | 0,u,q,r,_,h=>by simpa[rB]using h
 |
  i+1,u,q,r,hi,h=>by
  rw[JU rfl];have hx:Fc (if r.length=b.length+i then Fp r else 0)<=u:=by
   split
   ·exact Ni h
   ·rw[Nj];exact Qh _
  have:=Qjw hb hc i (u+t+8) (stq c i (if r.length=b.length+i then Fp r else 0) q) (str b c i (if r.length=b.length+i then Fp r else 0) r) (by omega) (pU h hb hc hx (by omega));exact U5 this (by rw[Xb];omega)
theorem EX{c:Int}(h:c<0):∀k:Nat,(k % 2=1->c^k<0)/\(k % 2=0->0<c^k)
 | 0=>⟨λh=>by omega,λ_=>by rw[Wz];decide⟩
 |
  k+1=>by
  obtain⟨i1,i2⟩:=EX h k;rw[Wy];exact⟨λhk=>V8 (i2 (by omega)) h,λhk=>V9 (i1 (by omega)) h⟩
theorem NY{a b:Uo}(ta:Fe a)(tb:Fe b)(hb:b.length≠0)(hl:a.length<=60):Fe (Te a b)/\(Te a b).length<b.length/\(∀s,Bd s a->Bd s b->Bd (s+(a.length+1-b.length)*(s+8)) (Te a b)) /\
 ∃u v:Rat,0<u/\0<v/\∃X:Ur,∀t,u*U8 a t=ev X t*U8 b t+v*U8 (Te a b) t:=by
 obtain⟨k,hk⟩:=nmE (a.length+1-b.length);have h1:Fe (Mc a b)/\(Mc a b).length<b.length:=oN hb _ _ _ ta (by omega);obtain⟨X,hX⟩:=Qjx b (Fp b) k [] a;have hX:∀t,(((Fp b)^k:Int):Rat)*U8 a t=ev X t*U8 b t+U8 (Mc a b) t:=by unfold Mc;rw[<-hk];exact hX
 have h2:=FI (a:=a) (b:=b) (r:=Mc a b) (n:=(Mc a b).length) (s:=(Mc a b).foldl (λm z=>m+Fc z) 0) h1.1 (Qm _) (λz hz=>by
  have key:∀(l:Uo) (m:Nat),m≤l.foldl (λm z=>m+Fc z) m/\∀z∈l,Fc z≤l.foldl (λm z=>m+Fc z) m:=by
   intro l
   induction l with
   |nil=>exact λm=>⟨Qm _,λz hz=>by cases hz⟩
   |
    cons y l ih =>
    intro m;obtain⟨i1,i2⟩:=ih (m+Fc y);refine⟨by simp only[Z5];omega,λz hz=>?_⟩;simp only[Z5];rcases Ql.1 hz with rfl|hz
    ·omega
    ·exact i2 z hz
  exact(key _ 0).2 z hz)
 have h3:=LI (r:=Bz a b (Mc a b)) (n:=(Mc a b).length) h2.2.1 h2.2.2;refine⟨h3.1,by unfold Te;omega,λs ha hbs=>?_,?_⟩
 ·have h4:=Qjw (c:=Fp b) hbs (Ni hbs) k s [] a (by omega) ha;have h5:=FI (a:=a) (b:=b) (n:=(Mc a b).length) h1.1 (Nat.le_refl _) (show Bd (s+k*(s+8)) (Mc a b) by unfold Mc;rw[<-hk];exact h4);rw[<-hk];exact(LI h5.2.1 h5.2.2).2.2
 ·obtain⟨v,vp,hv⟩:=Qjt h2.1;have hc:=Ek tb hb;by_cases ht:k % 2=1/\Fp b<0
  ·have e1:Bz a b (Mc a b)=Mw (Mc a b):=by unfold Bz;rw[<-hk,if_pos ht]
   have hneg:(Fp b)^k<0:=(EX ht.2 k).1 ht.1;have h5:(((Fp b)^k:Int):Rat)<((0:Int):Rat):=Jo.2 hneg;have h5:(((Fp b)^k:Int):Rat)<0:=by simpa using h5
   refine⟨-(((Fp b)^k:Int):Rat),v,by grind,vp,D5 (-1) X,λt=>?_⟩;have h6:=hX t;have h7:=hv t;rw[e1,FN]at h7;show _=_+v*U8 (VI (Bz a b (Mc a b))) t;rw[e1,<-h7,Gt];grind
  ·have e1:Bz a b (Mc a b)=Mc a b:=by unfold Bz;rw[<-hk,if_neg ht]
   have hpos:0<(Fp b)^k:=by
    rcases Ke hc with h|h
    ·exact(EX h k).2 (by omega)
    ·exact Int.pow_pos h
   have h5:((0:Int):Rat)<(((Fp b)^k:Int):Rat):=Jo.2 hpos;refine⟨(((Fp b)^k:Int):Rat),v,by simpa using h5,vp,X,λt=>?_⟩;have h7:=hv t;show _=_+v*U8 (VI (Bz a b (Mc a b))) t;rw[<-h7,e1,hX]
theorem Ad{p:Uo}(h1:p.length<=64)(h2:Bd 16777216 p):IL p=some p:=by
 unfold IL;rw[if_pos ⟨h1,Ju.2 λz hz=>Nat.ble_eq_true_of_le (h2 z hz)⟩]
theorem OJ{a b:Uo}{g:Ur}{c:Rat}(hc:c≠0)(h:∀t,U8 a t=c*U8 b t):ZB g (cz a)↔ZB g (cz b):=by
 constructor
 ·rintro⟨u,hu⟩
  refine⟨D5 (1 / c) u,λt=>?_⟩;have h1:=hu t;rw[U9,h]at h1;rw[U9,Gt];have h2:1 / c*c=1:=Zj hc;have:U8 b t=1 / c*(c*U8 b t):=by grind
  rw[this,h1];grind
 ·rintro⟨u,hu⟩
  refine⟨D5 c u,λt=>?_⟩;have h1:=hu t;rw[U9]at h1;rw[U9,Gt,h,h1];grind
structure Gc(g a b:List Int):Prop where
 t:Fe g
 da:ZB (cz g) (cz a)
 db:ZB (cz g) (cz b)
 c:∃U V,∀t,U8 g t=ev U t*U8 a t+ev V t*U8 b t
 n:g.length≠0
theorem Gc.scale{g a b g' a' b':Uo}{x y z:Rat}(h:Gc g a b)(hx:x≠0)(hy:y≠0)(hz:z≠0)(tg:Fe g')(eg:∀t,U8 g t=x*U8 g' t)(ea:∀t,U8 a' t=y*U8 a t)(eb:∀t,U8 b' t=z*U8 b t):Gc g' a' b':=by
 have hx1:1 / x*x=1:=Zj hx;have hy1:1 / y*y=1:=Zj hy;have hz1:1 / z*z=1:=Zj hz;have hg:∀c,ZB (cz g) c->ZB (cz g') c:=λc ⟨u,hu⟩=>⟨D5 x u,λt=>by rw[hu,U9,U9,eg,Gt];grind⟩
 obtain⟨U,V,hc⟩:=h.c;refine⟨tg,hg _ ((OJ hy ea).2 h.da),hg _ ((OJ hz eb).2 h.db),⟨D5 (1 / x*(1 / y)) U,D5 (1 / x*(1 / z)) V,λt=>?_⟩,?_⟩
 ·have h1:=hc t;have h2:U8 g' t=1 / x*U8 g t:=by rw[eg];grind
  rw[h2,h1,Gt,Gt,ea,eb];generalize ev U t=u at *;generalize ev V t=v at *;grind
 ·rw[<-QE h.t tg hx eg];exact h.n
theorem Qvz:∀d:Nat,1<=d->d+2<=3^d
 | 0,h=>by omega
 | 1,_=>by decide
 |d+2,_=>by have:=Qvz (d+1) (by omega);rw[Zr];omega
theorem sG{k:Nat}{a b:Uo}(ta:Fe a)(tb:Fe b)(hb:b.length≠0)(hl:a.length<=60)(hbl:b.length<=60)(hr:Bd 16777216 (Te a b))(ih:∃g,TS k b (Te a b)=some g/\Gc g b (Te a b)):∃g,TS (k+1) a b=some g/\Gc g a b:=by
 obtain⟨h1,h2,h3,u,v,up,vp,X,hX⟩:=NY ta tb hb hl;obtain⟨g,e,hg⟩:=ih;refine⟨g,?_,?_⟩
 ·simp only[TS];rw[if_neg hb,Ad (by omega) hr];exact e
 ·obtain⟨U,V,hc⟩:=hg.c;obtain⟨y,hy⟩:=hg.da;obtain⟨z,hz⟩:=hg.db;have hu:1 / u*u=1:=Hf up;have hv:1 / v*v=1:=Hf vp;refine⟨hg.t,⟨D5 (1 / u) (Sv (G8 X y) (D5 v z)),λt=>?_⟩,hg.da,⟨D5 (u / v) V,Sv U (D5 (-1 / v) (G8 V X)),λt=>?_⟩,hg.n⟩
  ·have a1:=hX t;have a2:=hy t;have a3:=hz t;rw[U9,U9]at a2 a3;rw[U9,U9,Gt,G5,Fg,Gt];have:U8 a t=1 / u*(u*U8 a t):=by grind
   rw[this,a1,a2,a3];grind
  ·have a1:=hX t;have a2:=hc t;rw[Gt,G5,Gt,Fg,a2];have:U8 (Te a b) t=1 / v*(v*U8 (Te a b) t):=by grind
   rw[this,show v*U8 (Te a b) t=u*U8 a t-ev X t*U8 b t by grind,J9,J9,J9];grind
theorem Qar{k:Nat}{a:Uo}(ta:Fe a)(ha:a.length≠0):∃g,TS (k+1) a []=some g/\Gc g a [] :=
 ⟨a,rfl,ta,dvd_refl _,⟨[],λt=>by simp only[cz,X7,ev];grind⟩,⟨[1],[],λt=>by rw[Tf];simp only[ev];grind⟩,ha⟩
theorem TP{s:Nat}:∀(k:Nat) (a b:Uo),Fe a->Fe b->b.length<k->b.length<a.length->a.length<=60->Bd s a->Bd s b->(s+8)*3^(a.length-1)<=16777216->∃g,TS k a b=some g/\Gc g a b
 | 0,_,_,_,_,h,_,_,_,_,_=>by omega
 |
  k+1,a,b,ta,tb,hk,hab,hl,ba,bb,hs=>by
  by_cases hb:b.length=0
  ·rw[Qj hb];exact Qar ta (by omega)
  ·obtain⟨h1,h2,h3,_⟩:=NY ta tb hb hl;have h3:=h3 s ba bb;obtain⟨m,hm⟩:=nmE (a.length-b.length);have e1:a.length+1-b.length=m+1:=by omega
   rw[e1]at h3;have e2:s+(m+1)*(s+8)+8=(m+2)*(s+8):=by
    rw[show m+2=(m+1)+1 by omega,Xb (m+1)];omega
   have e3:(m+2)*(s+8)*3^(b.length-1)<=(s+8)*3^(a.length-1):=by
    rw[show a.length-1=m+(b.length-1) by omega,Xg,<-Xz,Zq (s+8)];exact Q0 _ (Q0 _ (Qvz m (by omega)))
   have e4:s+(m+1)*(s+8)<=16777216:=by
    have:(m+2)*(s+8)<=(m+2)*(s+8)*3^(b.length-1):=Yt _ (Z2 (by decide));omega
   refine sG ta tb hb hl (by omega) (U5 h3 e4) (TP (s:=s+(m+1)*(s+8)) k b (Te a b) tb h1 (by omega) h2 (by omega) (U5 bb (by omega)) h3 ?_);rw[e2];omega
def Szz(n s:Nat):Prop:=n<=10/\2*(s+8)*3^(n-1)<=16777216
theorem Qlh{n s:Nat}(hz:Szz n s){a b:Uo}(ta:Fe a)(tb:Fe b)(la:a.length<=n)(lb:b.length<=n)(ba:Bd s a)(bb:Bd s b)(h0:a.length≠0\/b.length≠0):∃g,TS 66 a b=some g/\Gc g a b:=by
 obtain⟨hn,hz⟩:=hz;have hp:∀l,l<=n->(s+8)*3^(l-1)<=8388608:=λl hl=>by
  have:(s+8)*3^(l-1)<=(s+8)*3^(n-1):=Zu _ (Zs (by decide) (by omega));rw[Xz]at hz;omega
 rcases Zc b.length a.length with h|h
 ·exact TP 66 a b ta tb (by omega) h (by omega) ba bb (by have:=hp a.length la;omega)
 ·by_cases hb:b.length=0
  ·rw[Qj hb];exact Qar ta (by omega)
  ·obtain⟨h1,h2,h3,_⟩:=NY ta tb hb (by omega);have h3:=h3 s ba bb;have h4:(a.length+1-b.length)*(s+8)<=1*(s+8):=Q0 _ (by omega);have h5:=hp b.length lb;have h6:(s+8)*1<=(s+8)*3^(b.length-1):=Zu _ (Z2 (by decide));refine sG ta tb hb (by omega) (by omega) (U5 h3 (by omega)) (TP (s:=2*s+8) 65 b (Te a b) tb h1 (by omega) h2 (by omega) (U5 bb (by omega)) (U5 h3 (by omega)) ?_);rw[show 2*s+8+8=2*(s+8) by omega,Xz];omega
theorem qI:Fh []=[]:=rfl
theorem FA{a:Uo}(ta:Fe a):Fe (Fh a)/\(Fh a).length=a.length/\(∀s,Bd s a->Bd s (Fh a))/\∃c:Rat,c≠0/\∀t,U8 a t=c*U8 (Fh a) t:=by
 by_cases h:a.length=0
 ·rw[Qj h];exact⟨rfl,rfl,λs _=>ZL,1,by decide,λt=>by rw[qI];grind⟩
 ·obtain⟨h1,h2,h3,h4,h5,h6,h7⟩:=Cu ta h;exact⟨h1,h2,h5,_,XH h6,h7⟩
theorem WC{n s:Nat}(hz:Szz n s){a b:Uo}(ta:Fe a)(tb:Fe b)(la:a.length<=n)(lb:b.length<=n)(ba:Bd s a)(bb:Bd s b)(h0:a.length≠0\/b.length≠0):∃g,JF a b=some g/\Gc g a b/\Prm g/\0<Fp g:=by
 obtain⟨a1,a2,a3,x,xn,ax⟩:=FA ta;obtain⟨b1,b2,b3,y,yn,bx⟩:=FA tb;obtain⟨g,e,hg⟩:=Qlh hz a1 b1 (by omega) (by omega) (a3 s ba) (b3 s bb) (by omega);obtain⟨g1,g2,g3,g4,g5,g6,g7⟩:=Cu hg.t hg.n;refine⟨Fh g,?_,hg.scale (XH g6) xn yn g1 g7 ax bx,g3,g4⟩;unfold JF;rw[e];rfl
theorem Qdq{a:Uo}(ta:Fe a):JF [] a=some (Fh (Fh a)):=by
 unfold JF;rw[qI];by_cases h:(Fh a).length=0
 ·have e:Fh a=[]:=Qj h;rw[e];rfl
 ·have e:Te [] (Fh a)=[]:=by
   have e1:Mc [] (Fh a)=[]:=by unfold Mc;rw[show([]:Uo).length+1-(Fh a).length=0 by simp;omega];rfl
   unfold Te;rw[e1];unfold Bz
   split <;> rfl
  have:TS 66 [] (Fh a)=some (Fh a):=by
   show(if (Fh a).length=0 then _ else _)=_;rw[if_neg h,e];rfl
  rw[this];rfl
theorem Qhz{n s:Nat}(hz:Szz n s){a b:Uo}(ta:Fe a)(tb:Fe b)(la:a.length<=n)(lb:b.length<=n)(ba:Bd s a)(bb:Bd s b)(h0:a.length≠0):∃g,yE a b=some g/\Gc g a b/\Prm g/\0<Fp g:=by
 obtain⟨a1,a2,a3,x,xn,ax⟩:=FA ta;obtain⟨b1,b2,b3,y,yn,bx⟩:=FA a1;obtain⟨g,e,hg,h1,h2⟩:=WC hz b1 tb (by omega) lb (b3 s (a3 s ba)) bb (by omega);refine⟨g,?_,hg.scale (x:=1) (y:=x*y) (z:=1) (by decide) (λh=>(Y4.1 h).elim xn yn) (by decide) hg.t (λt=>by grind) (λt=>by rw[ax,bx];grind) (λt=>by grind),h1,h2⟩;unfold yE;rw[Qdq ta];exact e
theorem Qan:∀{p q:Ur} {m n:Nat},HD p m->HD q n->(G8 p q).getD (m+n) 0=p.getD m 0*q.getD n 0
 | [],q,m,n,h,_=>absurd (by simp) h.1
 |
  a::p,q,0,n,h,h'=>by
  have h1:∀k,p.getD k 0=0:=λk=>by have:=h.2 (k+1) (by omega);rwa[Q4]at this
  simp only[G8];rw[Ro,Sp,Zt,Zy];cases n with
  |zero=>rw[Zt];grind
  |succ n=>rw[Q4,SV h1];grind
 |
  a::p,q,m+1,n,h,h'=>by
  have ih:=Qan (p:=p) (q:=q) (m:=m) ⟨by have:=h.1;rwa[Q4]at this,λk hk=>by have:=h.2 (k+1) (by omega);rwa[Q4]at this⟩ h';simp only[G8];rw[Ro,Sp,show m+1+n=(m+n)+1 by omega,Q4,h'.2 _ (by omega),ih,Q4];grind
theorem fM{a b c:Uo}(ta:Fe a)(tb:Fe b)(tc:Fe c)(h:∀t,U8 c t=U8 a t*U8 b t)(la:0<a.length)(lb:0<b.length):Fp c=Fp a*Fp b:=by
 have h1:=SY ta la;have h2:=SY tb lb;have h3:=Qan h1 h2;have hl:=Mv ta tb tc h la lb;rw[<-Dy (p:=cz c) (λt=>by rw[Fg,U9,U9,U9,h]),Mr,Mr,Mr,show a.length-1+(b.length-1)=c.length-1 by omega]at h3;unfold Fp;exact_mod_cast h3
theorem Ti{a b c:Uo}(tc:Fe c)(hc:c.length≠0)(h:∀t,U8 c t=U8 a t*U8 b t):0<a.length/\0<b.length:=by
 constructor
 ·rcases Q3 a.length with e|e
  ·exact absurd (λt=>by rw[h,D3 e];grind) (TO tc (by omega))
  ·exact e
 ·rcases Q3 b.length with e|e
  ·exact absurd (λt=>by rw[h,D3 e];grind) (TO tc (by omega))
  ·exact e
theorem yL{b:Uo}(tb:Fe b)(hb:b.length≠0):∀(i:Nat) (a q h:Uo),Fe a->Fe h->(∀t,U8 a t=U8 b t*U8 h t)->a.length<b.length+i->i<=q.length->(∀j,j<i->q.getD j 0=0)->∃q',yD b i a q=some q'/\q'.length=q.length/\∀t,U8 q' t=U8 q t+U8 h t
 |
  0,a,q,h,ta,th,e,hl,_,_=>by
  have ha:a.length=0:=by
   rcases Q3 a.length with e'|e'
   ·exact e'
   ·obtain⟨p1,p2⟩:=Ti ta (by omega) e;have:=Mv tb th ta e p1 p2;omega
  refine⟨q,by simp only[yD];rw[if_pos ha],rfl,λt=>?_⟩;have:∀t,U8 h t=0:=λt=>by
   have:=mU (p:=cz b) (q:=cz h) (r:=[]) (λh0=>TO tb (by omega) λt=>by rw[<-U9];exact h0 t) (λt=>by rw[U9,U9,<-e,D3 ha];simp only[ev];grind) t;rwa[U9]at this
  rw[this];grind
 |
  i+1,a,q,h,ta,th,e,hl,hq,h0=>by
  simp only[yD];by_cases hlt:a.length<b.length+i
  ·rw[if_pos hlt];exact yL tb hb i a q h ta th e hlt (by omega) λj hj=>h0 j (by omega)
  ·rw[if_neg hlt];obtain⟨p1,p2⟩:=Ti ta (by omega) e;have hln:=Mv tb th ta e p1 p2;have hld:=fM tb th ta e p1 p2;have hlb:=Ek tb hb;rw[hld,if_pos (Int.mul_emod_right _ _),Jc _ hlb];have hli:h.length=i+1:=by omega
   have e2:∀t,U8 (Na a (Gl (trim (mono i (Fp h))) b)) t=U8 b t*U8 (Na h (mono i (Fp h))) t:=λt=>by
    rw[No,No,Gk,Ot,e];grind
   have hl2:(Na a (Gl (trim (mono i (Fp h))) b)).length<b.length+i:=by
    have hl:=iK (i:=i) (x:=Fp h) (b:=b) (a:=a);unfold sta at hl;have:=Qim (p:=Na a (Gl (trim (mono i (Fp h))) b)) (n:=b.length+i-1) (Fy _ _) (by omega) (by
     rw[O2,iT,if_pos (by omega),show b.length+i-1-i=b.length-1 by omega,show b.length+i-1=a.length-1 by omega];have:Fp a=a.getD (a.length-1) 0:=rfl;rw[<-this,hld];unfold Fp;rw[K8,Int.sub_eq_zero])
    omega
   obtain⟨q',h1,h2,h3⟩:=yL tb hb i _ (q.set i (Fp h)) (Na h (mono i (Fp h))) (Fy _ _) (Fy _ _) e2 hl2 (by simp;omega) λj hj=>by
    rw[Qi,Yo,if_neg (by omega),<-Qi];exact h0 j (by omega)
   refine⟨q',h1,by rw[h2,Xe],λt=>?_⟩;rw[h3,yC q i _ t (by omega),h0 i (by omega),No,JY]
   push_cast;grind
theorem Qj5{a b h:Uo}{s:Nat}(ta:Fe a)(tb:Fe b)(th:Fe h)(ha:a.length≠0)(la:a.length<=10)(ba:Bd s a)(hs:s+69<=16777216)(e:∀t,U8 a t=U8 b t*U8 h t):JW a b=some h:=by
 obtain⟨p1,p2⟩:=Ti ta ha e;have hln:=Mv tb th ta e p1 p2;obtain⟨q,h1,h2,h3⟩:=yL tb (by omega) (a.length+1-b.length) a (List.replicate (a.length+1-b.length) 0) h ta th e (by omega) (by simp) λj _=>Cj _ _
 have h4:trim q=h:=oW (Rt _) th λt=>by rw[Ot,h3,qD];grind
 unfold JW;rw[if_neg (by omega),h1];show IL (trim q)=_;rw[h4];exact Ad (by omega) (U5 (XV ba la ta th tb ha λt=>by rw[e];grind) (by omega))
structure Pr1(p:List Int):Prop where
 t:Fe p
 m:Prm p
 l:0<Fp p
theorem Pr1.n{p:Uo}(h:Pr1 p):p.length≠0:=λe=>by
 have:=h.l;rw[Qj e]at this;exact absurd this (by decide)
theorem Pr1.one{p:Uo}(h:Pr1 p)(hl:p.length<2):p=[1]:=by
 have hn:=h.n;obtain⟨c,rfl⟩:∃c,p=[c]:=Kr.1 (by omega);have h1:=h.m c λk=>by cases k <;> simp
 have h2:0<c:=h.l;have:=Int.le_of_dvd (by decide) h1;rw[show c=1 by omega]
theorem Qpu{p g h:Uo}(hp:Prm p)(e:∀t,U8 p t=U8 g t*U8 h t):Prm h:=λd hd=>by
 refine hp d λk=>?_
 have:=Lp (p:=p) (q:=Gl g h) (λt=>by rw[e,Gk]) k;rw[this];have e2:∀t,U8 (Gl g h) t=(d:Rat)*U8 (Gl g (h.map (· / d))) t:=λt=>by
  have h1:U8 h t=(d:Rat)*U8 (h.map (· / d)) t:=by
   have:=Co d 0 t (max h.length (h.map (· / d)).length) (h.map (· / d)) [] h (by omega) (by simp) (by omega) λk=>by
    rw[UA,K9 (hd k)];simp
   rw[this];simp only[U8];push_cast;grind
  rw[Gk,Gk,h1];grind
 have:=Lp (p:=Gl g h) (q:=Fu (Gl g (h.map (· / d))) d) (λt=>by rw[e2,Rp];grind) k;rw[this,Mh];exact Vb _ _
theorem Qpt{p g h:Uo}(hp:Pr1 p)(hg:0<Fp g)(tg:Fe g)(th:Fe h)(e:∀t,U8 p t=U8 g t*U8 h t):Pr1 h:=by
 obtain⟨p1,p2⟩:=Ti hp.t hp.n e;have:=fM tg th hp.t e p1 p2;refine⟨th,Qpu hp.m e,?_⟩;have hl:=hp.l;rw[this]at hl;rcases Km (Fp h) 0 with h1|h1|h1
 ·have:=V8 hg h1;omega
 ·rw[h1]at hl;omega
 ·exact h1
structure Sqp(p g q:List Int):Prop where
 pp:Pr1 p
 pg:Pr1 g
 pq:Pr1 q
 e:∀t,U8 p t=U8 g t*U8 q t
 c:∃U V,∀t,U8 g t=ev U t*U8 p t+ev V t*dv (cz p) t
 d:∃z,∀t,dv (cz p) t=U8 g t*ev z t
theorem Sqp.num{p g q:Uo}(h:Sqp p g q){d:Ur}(h1:ZB d (cz q))(h2:ZB d (Bn (cz q))):∃c:Rat,c≠0/\∀t,ev d t=c:=by
 obtain⟨U,V,hc⟩:=h.c;have hpow:=sqf (k:=1) (a:=cz p) (g:=cz g) (q:=cz q) (d:=d) (U:=U) (V:=V) (by decide) (λt=>by rw[U9,U9,U9,h.e]) (λt=>by rw[U9,U9,hc];grind) h1 h2;rcases DG d with h3|⟨m,_,h3⟩
 ·obtain⟨u,hu⟩:=h1;exact absurd (λt=>by rw[<-U9,hu,h3];grind) (TO h.pq.t (by have:=h.pq.n;omega))
 ·obtain rfl:=qA h3 (SY h.pg.t (by have:=h.pg.n;omega)) hpow;refine⟨d.getD 0 0,h3.1,λt=>?_⟩;cases d with
  |nil=>exact absurd (by simp) h3.1
  |
   cons c l =>
   have:=Lb (p:=l) λk=>by have:=h3.2 (k+1) (by omega);rwa[Q4]at this
   simp only[ev,this,Zt];grind
theorem Sqp.bez{p g q:Uo}(h:Sqp p g q):∃X Y,∀t,ev X t*ev (cz q) t+ev Y t*dv (cz q) t=1:=by
 obtain⟨d,U,V,h1,h2,h3⟩:=Qhy (cz q) (Bn (cz q));obtain⟨c,hc,hd⟩:=h.num h1 h2;refine⟨D5 (1 / c) U,D5 (1 / c) V,λt=>?_⟩;have h5:=h3 t;rw[hd,Tr]at h5;have h4:1 / c*c=1:=Zj hc;rw[Gt,Gt];have:1 / c*ev U t*ev (cz q) t+1 / c*ev V t*dv (cz q) t=1 / c*(ev U t*ev (cz q) t+ev V t*dv (cz q) t):=by grind
 rw[this,<-h5,h4]
theorem Qla{n s:Nat}(h:Szz n s):s<=8388600:=by
 have:2*(s+8)*1<=2*(s+8)*3^(n-1):=Zu _ (Z2 (by decide));have:=h.2;omega
theorem pW{s:Nat}{p:Uo}(h:Bd s p)(hl:p.length<=10):Bd (s+4) (Gy p):=xG h (t:=4) (by omega)
theorem Qaj{n s:Nat}(hz:Szz n (s+73)){p:Uo}(pp:Pr1 p)(l2:2<=p.length)(lp:p.length<=n)(bp:Bd (s+69) p){p0 h0:Uo}(b0:Bd s p0)(l0:p0.length<=10)(t0:Fe p0)(th0:Fe h0)(z0:p0.length≠0)(e0:∀t,U8 p0 t=U8 h0 t*U8 p t) :
 ∃g q,IL (Gy p)=some (Gy p)/\JF p (Gy p)=some g/\JW p g=some q/\Sqp p g q/\g.length<p.length:=by
 have hn:=hz.1;have hs:=Qla hz;have bd:=pW bp (by omega);have ld:=Nk p;have td:Fe (Gy p):=Fy _ _;obtain⟨g,e1,hg,m,l⟩:=WC hz pp.t td lp (by omega) (U5 bp (by omega)) bd (.inl pp.n);obtain⟨q,tq,eq⟩:=Qhs m hg.da;have hdnz:(Gy p).length≠0:=λh=>by
  have h1:=By p (p.length-2);rw[Qj h,show p.length-2+1=p.length-1 by omega]at h1;have h2:p.getD (p.length-1) 0≠0:=H9 pp.t (by omega);rcases Yh.1 (h1.symm.trans (by simp))with h3|h3
  ·exact h2 h3
  ·omega
 have pg:Pr1 g:=⟨hg.t,m,l⟩;have hql:=Qj5 (s:=s+69) pp.t hg.t tq pp.n (by omega) bp (by omega) eq;refine⟨g,q,Ad (by omega) (U5 bd (by omega)),e1,hql,⟨pp,pg,Qpt pp l hg.t tq eq,eq,?_,?_⟩,?_⟩
 ·obtain⟨U,V,hc⟩:=hg.c;exact⟨U,V,λt=>by rw[hc,Oq]⟩
 ·obtain⟨z,hz⟩:=hg.db;exact⟨z,λt=>by rw[<-Oq,<-U9,hz,U9]⟩
 ·obtain⟨z,tz,ez⟩:=Qhs m hg.db;obtain⟨q1,q2⟩:=Ti td hdnz ez;have:=Mv hg.t tz td ez q1 q2;omega
theorem Qph:Sqp [1] [1] [1]:=by
 have p1:Pr1 [1]:=⟨rfl,λd hd=>by have:=hd 0;rwa[Zt]at this,by decide⟩;have e1:∀t,U8 [1] t=1:=λt=>by simp only[U8];push_cast;grind
 exact⟨p1,p1,p1,λt=>by rw[e1];grind,⟨[1],[],λt=>by rw[e1,Tf];simp only[ev];grind⟩,⟨[],λt=>by simp only[cz,Zz,X7,dv,ev];grind⟩⟩
structure Okp(n s:Nat)(p:List Int):Prop where
 z:Szz n (s+73)
 t:Fe p
 nz:p.length≠0
 l:p.length<=n
 b:Bd s p
theorem Okp.pr{n s:Nat}{p:Uo}(h:Okp n s p):Pr1 (Fh p)/\(Fh p).length=p.length/\Bd s (Fh p):=by
 obtain⟨h1,h2,h3,h4,h5,_⟩:=Cu h.t h.nz;exact⟨⟨h1,h3,h4⟩,h2,h5 s h.b⟩
theorem VX{n s:Nat}{p:Uo}(h:Okp n s p):∃g q,Po p=some q/\Sqp (Fh p) g q:=by
 obtain⟨pp,hl,hb⟩:=h.pr;have hn:=h.z.1;have:=h.l;unfold Po;by_cases h2:(Fh p).length<2
 ·rw[if_pos h2,pp.one h2];exact⟨[1],[1],rfl,Qph⟩
 ·rw[if_neg h2];obtain⟨g,q,h3,h4,h5,h6,_⟩:=Qaj h.z pp (by omega) (by omega) (U5 hb (by omega)) (p0:=Fh p) (h0:=[1]) hb (by omega) pp.t rfl pp.n λt=>by simp only[U8];push_cast;grind
  exact⟨g,q,by rw[h3];show(JF (Fh p) (Gy (Fh p))).bind _=_;rw[h4];exact h5,h6⟩
inductive LW:List Int->List (List Int)->Prop
 |nil:LW [1] []
 |cons {g h w:List Int} {ws:List (List Int)} (hs:Sqp g h w) (hl:LW h ws):LW g (w::ws)
theorem Qvl{g:Uo}{ws:Up}(h:LW g ws):∀t,U8 g t=ev (On (ws.map cz)) t:=by
 induction h with
 |nil=>intro t;simp only[X7,On,U8];rw[Tf];push_cast;grind
 |cons hs hl ih=>intro t;simp only[Zz,On];rw[Fg,U9,hs.e,ih];grind
theorem iR{g:Uo}{w v:Uo}{ws:Up}(h:LW g (w::v::ws)):∃f,Fe f/\∀t,U8 w t=U8 f t*U8 v t:=by
 cases h with
 |
  @cons _ h _ _ hs hl =>
  cases hl with
  |
   @cons _ h2 _ _ hs2 hl2 =>
   obtain⟨X,Y,hb⟩:=hs2.bez;obtain⟨z,hz⟩:=hs.d;have hd:=Qqt (a:=cz g) (g:=cz h) (q:=cz w) (z:=z) (r:=cz v) (X:=X) (Y:=Y) (n:=h.length-1) (λt=>by rw[U9,U9,U9,hs.e]) (λt=>by rw[hz,U9]) (SY hs.pg.t (by have:=hs.pg.n;omega)) hb
    ⟨G8 (cz h2) (cz w),λt=>by rw[Fg,U9,U9,U9,U9,hs.e,hs2.e];grind⟩
   obtain⟨f,tf,ef⟩:=Qhs hs2.pq.m hd;exact⟨f,tf,λt=>by rw[ef];grind⟩
theorem fL{g w:Uo}{ws:Up}(h:LW g (w::ws)):∀v∈w::ws,Pr1 v/\ZB (cz v) (cz w):=by
 have key:∀(ws:Up) (g w:Uo),LW g (w::ws)->∀v∈w::ws,Pr1 v/\ZB (cz v) (cz w):=by
  intro ws
  induction ws with
  |
   nil =>
   intro g w h v hv;rw[Qk.1 hv];cases h with
   |cons hs hl=>exact⟨hs.pq,dvd_refl _⟩
  |
   cons u ws ih =>
   intro g w h v hv;have hn:=iR h;cases h with
   |
    @cons _ h _ _ hs hl =>
    rcases Ql.1 hv with rfl|hv
    ·exact⟨hs.pq,dvd_refl _⟩
    ·obtain⟨i1,i2⟩:=ih h u hl v hv;obtain⟨f,_,hf⟩:=hn;exact⟨i1,dvd_trans i2 ⟨cz f,λt=>by rw[U9,U9,U9,hf];grind⟩⟩
 exact key ws g w h
theorem lay_ok{n s:Nat}(hz:Szz n (s+73)){p0:Uo}(b0:Bd s p0)(l0:p0.length<=10)(t0:Fe p0)(z0:p0.length≠0):∀(k:Nat) (g h0:Uo),Pr1 g->g.length<=k->g.length<=n->Fe h0->(∀t,U8 p0 t=U8 h0 t*U8 g t)->∃ws,RG k g=some ws/\LW g ws
 | 0,g,_,pg,hk,_,_,_=>absurd pg.n (by omega)
 |
  k+1,g,h0,pg,hk,hn,th0,e0=>by
  simp only[RG];by_cases h2:g.length<2
  ·rw[if_pos h2,pg.one h2];exact⟨[],rfl,.nil⟩
  ·rw[if_neg h2];have bg:Bd (s+69) g:=XV b0 l0 t0 pg.t th0 z0 λt=>by rw[e0];grind
   obtain⟨h,w,h3,h4,h5,h6,h7⟩:=Qaj hz pg (by omega) hn bg b0 l0 t0 th0 z0 e0;obtain⟨ws,i1,i2⟩:=lay_ok hz b0 l0 t0 z0 k h (Gl h0 w) h6.pg (by omega) (by omega) (Hz _ _) λt=>by rw[e0,Gk,h6.e];grind
   refine⟨w::ws,?_,.cons h6 i2⟩;rw[h3];show(JF g (Gy g)).bind _=_;rw[h4];show(JW g h).bind _=_;rw[h5];show(RG k h).bind _=_;rw[i1];rfl
theorem Qhl{s:Nat}{p0:Uo}(b0:Bd s p0)(l0:p0.length≤10)(t0:Fe p0)(z0:p0.length≠0)(hs:s+69+69≤16777216):∀(ws:Up) (g h0:Uo),LW g ws->Fe h0->(∀t,U8 p0 t=U8 h0 t*U8 g t)->∃fs,AL ws=some fs/\Lay (ws.map cz) (fs.map cz)/\∀f∈fs,Fe f
 | [],g,_,_,_,_=>⟨[],rfl,trivial,λf hf=>by cases hf⟩
 |
  [w],g,_,hl,_,_=>by
  cases hl with
  |cons hs hl=>exact⟨[w],rfl,λt=>rfl,λf hf=>by rw[Qk.1 hf];exact hs.pq.t⟩
 |
  w::v::ws,g,h0,hl,th0,e0=>by
  obtain⟨f,tf,ef⟩:=iR hl;cases hl with
  |
   @cons _ h _ _ hs1 hl =>
   have hpv:=(fL hl v (Qy ..)).1;obtain⟨fs,i1,i2,i3⟩:=Qhl b0 l0 t0 z0 hs (v::ws) h (Gl h0 w) hl (Hz _ _) λt=>by rw[e0,Gk,hs1.e];grind
   have ew:∀t,U8 p0 t=U8 w t*U8 (Gl h0 h) t:=λt=>by rw[e0,Gk,hs1.e];grind
   have bw:Bd (s+69) w:=XV b0 l0 t0 hs1.pq.t (Hz _ _) z0 ew;obtain⟨p1,p2⟩:=Ti t0 z0 ew;have lw:=Mv hs1.pq.t (Hz _ _) t0 ew p1 p2;have hq:=Qj5 (s:=s+69) hs1.pq.t hpv.t tf hs1.pq.n (by omega) bw hs λt=>by rw[ef];grind
   refine⟨f::fs,?_,⟨λt=>by rw[U9,U9,U9,ef],i2⟩,λx hx=>?_⟩
   ·show(JW w v).bind _=_;rw[hq];show(AL (v::ws)).bind _=_;rw[i1];rfl
   ·rcases Ql.1 hx with rfl|hx
    ·exact tf
    ·exact i3 x hx
def Nn:Up->Uo
 | []=>[1]
 | [f]=>f
 |f::_::l=>Gl f (Nn l)
theorem gR:∀(fs:Up) (t:Rat),ev (PP (fs.map cz)) t=U8 (Nn fs) t
 | [],t=>by simp only[X7,PP,Nn,U8];rw[Tf];push_cast;grind
 | [f],t=>by simp only[Zz,X7,PP,Nn];rw[U9]
 |f::g::l,t=>by simp only[Zz,PP,Nn];rw[Fg,U9,Gk,gR l]
theorem Nz(t:Rat):U8 [1] t=1:=by simp only[U8];push_cast;grind
theorem OR:∀{w:Uo} {ws fs:Up},Lay ((w::ws).map cz) (fs.map cz)->(∀f∈fs,Fe f)->(∀v∈w::ws,Fe v)->∃E,Fe E/\∀t,U8 w t=U8 (Nn fs) t*U8 E t
 |
  w,[],[f],h,_,_=>⟨[1],rfl,λt=>by
  have:=h t;rw[U9,U9]at this;rw[this,Nz];simp only[Nn];grind⟩
 |
  w,[v],[f,f2],h,_,hw=>⟨v,hw v (by simp),λt=>by
  have:=h.1 t;rw[U9,U9,U9]at this;rw[this];simp only[Nn];rw[Gk,Nz];grind⟩
 |
  w,v::x::l,f::f2::fs,h,hf,hw=>by
  obtain⟨E,hE,e⟩:=OR (w:=x) (ws:=l) (fs:=fs) h.2.2 (λg hg=>hf g (by simp[hg])) (λg hg=>hw g (by simp at hg ⊢;exact .inr (.inr hg)));refine⟨Gl f2 E,Hz _ _,λt=>?_⟩;have a1:=h.1 t;have a2:=h.2.1 t;rw[U9,U9,U9]at a1 a2;have e2:U8 (Nn (f::f2::fs)) t=U8 f t*U8 (Nn fs) t:=by simp only[Nn];rw[Gk]
  rw[a1,a2,e,e2,Gk];grind
 |w,[],[],h,_,_=>h.elim
 |w,[],_::_::_,h,_,_=>h.elim
 |w,[v],[],h,_,_=>h.elim
 |w,[v],[f],h,_,_=>h.2.elim
 |w,[v],_::_::_::_,h,_,_=>h.2.elim
 |w,v::x::l,[f],h,_,_=>h.2.elim
 |w,v::x::l,[],h,_,_=>h.elim
theorem YC{s:Nat}{p0:Uo}(b0:Bd s p0)(l0:p0.length≤10)(t0:Fe p0)(z0:p0.length≠0)(hs:s+69≤16777216):∀(fs:Up) (i:Nat) (a E:Uo),i % 2=0->Fe a->Fe E->(∀f∈fs,Fe f)->(∀t,U8 p0 t=U8 a t*U8 (Nn fs) t*U8 E t)->∃o,FS i a fs=some o/\Fe o/\∀t,U8 o t=U8 a t*U8 (Nn fs) t
 | [],i,a,E,hi,ta,_,_,_=>⟨a,rfl,ta,λt=>by simp only[Nn];rw[Nz];grind⟩
 |
  [f],i,a,E,hi,ta,tE,tf,hE=>by
  have e1:∀t,U8 p0 t=U8 (Gl a f) t*U8 E t:=λt=>by rw[hE,Gk];rfl
  have b1:=XV b0 l0 t0 (Hz a f) tE z0 e1;obtain⟨p1,p2⟩:=Ti t0 z0 e1;have hl:=Mv (Hz a f) tE t0 e1 p1 p2;refine⟨Gl a f,?_,Hz _ _,λt=>by rw[Gk];rfl⟩;simp only[FS];rw[if_pos hi,Ad (by omega) (U5 b1 (by omega))];rfl
 |
  f::g::fs,i,a,E,hi,ta,tE,tf,hE=>by
  have e0:∀t,U8 (Nn (f::g::fs)) t=U8 f t*U8 (Nn fs) t:=λt=>by simp only[Nn];rw[Gk]
  have e1:∀t,U8 p0 t=U8 (Gl a f) t*U8 (Gl (Nn fs) E) t:=λt=>by rw[hE,e0,Gk,Gk];grind
  have b1:=XV b0 l0 t0 (Hz a f) (Hz _ _) z0 e1;obtain⟨p1,p2⟩:=Ti t0 z0 e1;have hl:=Mv (Hz a f) (Hz _ _) t0 e1 p1 p2;obtain⟨o,o1,o2,o3⟩:=YC b0 l0 t0 z0 hs fs (i+2) (Gl a f) E (by omega) (Hz _ _) tE (λx hx=>tf x (by simp[hx])) λt=>by rw[hE,e0,Gk];grind
  refine⟨o,?_,o2,λt=>by rw[o3,e0,Gk];grind⟩;have h1:FS (i+1) (Gl a f) (g::fs)=FS (i+2) (Gl a f) fs:=by
   show(if (i+1) % 2=0 then _ else _)=_;rw[if_neg (by omega)]
  show(if i % 2=0 then(IL (Gl a f)).bind λq=>FS (i+1) q (g::fs)else _)=_;rw[if_pos hi,Ad (by omega) (U5 b1 (by omega))];exact h1.trans o1
structure Parts(p q o:List Int):Prop where
 sq:∃g,Sqp (Fh p) g q
 ws:∃ws:List (List Int),(∀w∈ws,Pr1 w/\ZB (cz w) (cz q))/\∀t,U8 (Fh p) t=ev (On (ws.map cz)) t
 oq:ZB (cz o) (cz q)
 ot:Fe o
 oh:∃h,Fe h/\∀t,U8 (Fh p) t=U8 o t*U8 h t
 os:∃S,∀t,U8 (Fh p) t=U8 o t*(ev S t*ev S t)
theorem Qje{n s:Nat}{p:Uo}(h:Okp n s p):∃q o,Po p=some q/\bL p=some o/\Parts p q o:=by
 obtain⟨pp,hl,hb⟩:=h.pr;have hn:=h.z.1;have hpl:=h.l;have hs:=Qla h.z;obtain⟨g,q,hq,sq⟩:=VX h;obtain⟨ws,w1,w2⟩:=lay_ok h.z hb (by omega) pp.t pp.n 66 (Fh p) [1] pp (by omega) (by omega) rfl λt=>by rw[Nz];grind
 obtain⟨fs,f1,f2,f3⟩:=Qhl hb (by omega) pp.t pp.n (by omega) ws (Fh p) [1] w2 rfl λt=>by rw[Nz];grind
 have hw:=Qvl w2;have hfirst:(∀w∈ws,Pr1 w/\ZB (cz w) (cz q))/\∃E,Fe E/\∀t,U8 q t=U8 (Nn fs) t*U8 E t:=by
  cases ws with
  |
   nil =>
   have e:fs=[]:=by
    cases fs with
    |nil=>rfl
    |cons f l=>exact f2.elim
   subst e;exact⟨(λw hw=>by cases hw),q,sq.pq.t,λt=>by simp only[Nn];rw[Nz];grind⟩
  |
   cons w ws =>
   have hwq:w=q:=by
    have w3:(if (Fh p).length<2 then some []else(IL (Gy (Fh p))).bind λd=>(JF (Fh p) d).bind λh=>(JW (Fh p) h).bind λw=>(RG 65 h).bind λl=>some (w::l))=some (w::ws):=w1;have hlen:¬(Fh p).length<2:=λh2=>by
     rw[if_pos h2]at w3;injection w3 with w3;cases w3
    rw[if_neg hlen]at w3;unfold Po at hq;rw[if_neg hlen]at hq;obtain⟨d,d1,w3⟩:=Qd.1 w3;obtain⟨h,d2,w3⟩:=Qd.1 w3;obtain⟨w',d3,w3⟩:=Qd.1 w3;obtain⟨l,d4,w3⟩:=Qd.1 w3;rw[d1]at hq;have hq:(JF (Fh p) d).bind (λg=>JW (Fh p) g)=some q:=hq;rw[d2]at hq;have hq:JW (Fh p) h=some q:=hq;rw[d3]at hq;injection hq with hq;injection w3 with w3;injection w3 with w3 _;rw[<-w3,hq]
   subst hwq;have hall:=fL w2;exact⟨hall,OR f2 f3 λv hv=>(hall v hv).1.t⟩
 obtain⟨ha,E,tE,hE⟩:=hfirst;obtain⟨o,o1,o2,o3⟩:=YC hb (by omega) pp.t pp.n (by omega) fs 0 [1] (Gl E g) rfl rfl (Hz _ _) f3 λt=>by rw[Nz,Gk,sq.e,hE];grind
 have o3:∀t,U8 o t=U8 (Nn fs) t:=λt=>by rw[o3,Nz];grind
 refine⟨q,o,hq,?_,⟨g,sq⟩,⟨ws,ha,hw⟩,⟨cz E,λt=>by rw[U9,U9,U9,hE,o3]⟩,o2,⟨Gl E g,Hz _ _,λt=>by rw[sq.e,hE,o3,Gk];grind⟩,?_⟩
 ·unfold bL;rw[if_neg pp.n,w1];show(AL ws).bind _=_;rw[f1];exact o1
 ·obtain⟨S,hS⟩:=iJ f2;exact⟨S,λt=>by rw[hw,hS,gR,o3]⟩
theorem eS{s:Nat}:∀(k:Nat) (a b:Uo),Fe a->Fe b->b.length≠0->b.length<k->b.length<a.length->a.length<=60->Bd s a->Bd s b->(s+8)*3^(a.length-1)<=16777216->(∀d,ZB d (cz a)->ZB d (cz b)->∃c:Rat,c≠0/\∀t,ev d t=c)->∃l,sC k a b=some (b::l)/\SCl (cz a) (cz b) (l.map cz)
 | 0,_,_,_,_,_,h,_,_,_,_,_,_=>by omega
 |
  k+1,a,b,ta,tb,hb,hk,hab,hl,ba,bb,hs,hd=>by
  obtain⟨h1,h2,h3,u,v,up,vp,X,hX⟩:=NY ta tb hb hl;have h3:=h3 s ba bb;obtain⟨m,hm⟩:=nmE (a.length-b.length);have e1:a.length+1-b.length=m+1:=by omega
  rw[e1]at h3;have e2:s+(m+1)*(s+8)+8=(m+2)*(s+8):=by
   rw[show m+2=(m+1)+1 by omega,Xb (m+1)];omega
  have e3:(m+2)*(s+8)*3^(b.length-1)<=(s+8)*3^(a.length-1):=by
   rw[show a.length-1=m+(b.length-1) by omega,Xg,<-Xz,Zq (s+8)];exact Q0 _ (Q0 _ (Qvz m (by omega)))
  have e4:s+(m+1)*(s+8)<=16777216:=by
   have:(m+2)*(s+8)<=(m+2)*(s+8)*3^(b.length-1):=Yt _ (Z2 (by decide));omega
  simp only[sC];rw[if_neg hb,Ad (by omega) (U5 h3 e4)];show ∃l,((sC k b (Mw (Te a b))).bind λl=>some (b::l))=some (b::l)/\_;have lneg:(Mw (Te a b)).length<=(Te a b).length:=XB _;by_cases hr:(Te a b).length=0
  ·have e:Mw (Te a b)=[]:=Qj (by omega);rw[e];refine⟨[],?_,?_⟩
   ·obtain⟨j,rfl⟩:∃j,k=j+1:=⟨k-1,by omega⟩;rfl
   ·obtain⟨c,hc,hcc⟩:=hd (cz b) ⟨D5 (1 / u) X,λt=>by
     have:=hX t;rw[D3 hr]at this;have hu:1 / u*u=1:=Hf up;rw[U9,U9,Gt];have:U8 a t=1 / u*(u*U8 a t):=by grind
     rw[this,hX,D3 hr];grind⟩ (dvd_refl _)
    exact .base hc hcc
  ·have tn:Fe (Mw (Te a b)):=Fy _ _;have hn0:(Mw (Te a b)).length≠0:=λh0=>by
    have:=QE (c:=-1) h1 tn (by decide) λt=>by rw[FN];grind
    omega
   obtain⟨l,i1,i2⟩:=eS (s:=s+(m+1)*(s+8)) k b (Mw (Te a b)) tb tn hn0 (by omega) (by omega) (by omega) (U5 bb (by omega)) (PO h3) (by rw[e2];omega) λd d1 d2=>by
    refine hd d ?_ d1;obtain⟨y,hy⟩:=d1;obtain⟨z,hz⟩:=d2;have hu:1 / u*u=1:=Hf up;refine⟨D5 (1 / u) (Sv (G8 X y) (D5 (-v) z)),λt=>?_⟩;have a1:=hX t;have a2:=hy t;have a3:=hz t;rw[U9]at a2 a3;rw[FN]at a3;rw[U9,Gt,G5,Fg,Gt];have:U8 a t=1 / u*(u*U8 a t):=by grind
    rw[this,a1,a2,show U8 (Te a b) t=-(ev d t*ev z t) by grind];grind
   refine⟨Mw (Te a b)::l,by rw[i1];rfl,?_⟩;rw[Zz];exact .step (q:=X) up vp (λt=>by rw[U9,U9,U9,hX,FN];clear i2 i1 hd h3 hs;grind) i2
theorem WB(x:Rat):∀(l:Up) (n:Nat) (s:Int),(l.foldl (Pw λp=>Re p x) (n,s)).1=n+tc x s (l.map cz)
 | [],n,s=>rfl
 |
  p::l,n,s=>by
  simp only[Z5,Zz,tc,Pw];rw[Np,U9]
  split
  ·exact WB x l n s
  ·rw[WB x l]
   split <;> omega
theorem ZY(l:Up)(x:Rat):C6 l x=vv (l.map cz) x:=by
 have:=WB x l 0 0;unfold C6 C5 vv;rw[this];omega
theorem Qgp{n s:Nat}(hz:Szz n (s+73)){P g q:Uo}(sq:Sqp P g q)(lq:q.length<=n)(bq:Bd (s+69) q):∃d,IL (Gy q)=some d/\∃l,sC 66 q (Fh d)=some l/\GO (cz q) ((q::l).map cz)/\(q.length<2->l=[]):=by
 have hn:=hz.1;have hs:=Qla hz;have bd:=pW bq (by omega);have ld:=Nk q;refine⟨Gy q,Ad (by omega) (U5 bd (by omega)),?_⟩;have hq0:=sq.pq.n;by_cases h2:q.length<2
 ·have e:Fh (Gy q)=[]:=by rw[Qj (l:=Gy q) (by omega)];rfl
  rw[e];refine⟨[],rfl,.inl ⟨1,by decide,λt=>?_,rfl⟩,λ_=>rfl⟩;rw[U9,sq.pq.one h2,Nz]
 ·have hdnz:(Gy q).length≠0:=λh=>by
   have h1:=By q (q.length-2);rw[Qj h,show q.length-2+1=q.length-1 by omega]at h1;have h3:q.getD (q.length-1) 0≠0:=H9 sq.pq.t (by omega);rcases Yh.1 (h1.symm.trans (by simp))with h4|h4
   ·exact h3 h4
   ·omega
  obtain⟨p1,p2,p3,p4,p5,p6,p7⟩:=Cu (p:=Gy q) (Fy _ _) hdnz;have hdl:Fp (Gy q)=Fp q*((q.length-1:Nat):Int):=by
   have hld:(Gy q).length=q.length-1:=by
    rcases Zc (Gy q).length (q.length-1)with h|h
    ·have h1:=By q (q.length-2);rw[Qi,Qu (by omega),show q.length-2+1=q.length-1 by omega]at h1;have h3:q.getD (q.length-1) 0≠0:=H9 sq.pq.t (by omega);rcases Yh.1 (h1.symm.trans (by simp))with h4|h4
     ·exact absurd h4 h3
     ·omega
    ·omega
   unfold Fp;rw[hld,By,show q.length-1-1+1=q.length-1 by omega]
  have hfac:0<Hp (Gy q):=by
   have hlp:0<Fp (Gy q):=by rw[hdl];exact Int.mul_pos sq.pq.l (by omega)
   have hc:=JJ (p:=Gy q) (Fy _ _) hdnz;unfold Hp;rw[if_neg (by omega)];unfold Pg at hc ⊢;omega
  have hfq:((0:Int):Rat)<(Hp (Gy q):Rat):=Jo.2 hfac;have hfq:(0:Rat)<(Hp (Gy q):Rat):=by simpa using hfq
  have hff:1 / (Hp (Gy q):Rat)*(Hp (Gy q):Rat)=1:=Hf hfq;have hz2:=hz.2;have hp3:(s+73+8)*3^(q.length-1)<=16777216:=by
   have:(s+73+8)*3^(q.length-1)<=(s+73+8)*3^(n-1):=Zu _ (Zs (by decide) (by omega));rw[Xz]at hz2;omega
  obtain⟨l,h3,h4⟩:=eS (s:=s+73) 66 q (Fh (Gy q)) sq.pq.t p1 (by omega) (by omega) (by omega) (by omega) (U5 bq (by omega)) (p5 _ bd) hp3 λd d1 d2=>sq.num d1 (by
   obtain⟨z,hz⟩:=d2;exact⟨D5 (Hp (Gy q)) z,λt=>by
    have:=hz t;rw[U9]at this;rw[Tr,<-Oq,p7,this,Gt];grind⟩)
  refine⟨Fh (Gy q)::l,h3,.inr ⟨cz (Fh (Gy q)),l.map cz,1 / (Hp (Gy q):Rat),Af (by decide) hfq,λt=>?_,h4,rfl⟩,λh=>absurd h h2⟩;rw[U9,<-Oq,p7 t];grind
theorem chain_ok{n s:Nat}{p:Uo}(h:Okp n s p):∃q l,Po p=some q/\Ea p=some (q::l)/\GO (cz q) ((q::l).map cz)/\(q.length<2->l=[]):=by
 obtain⟨pp,hl,hb⟩:=h.pr;have hn:=h.z.1;have hpl:=h.l;obtain⟨g,q,hq,sq⟩:=VX h;have e1:∀t,U8 (Fh p) t=U8 q t*U8 g t:=λt=>by rw[sq.e];grind
 obtain⟨p1,p2⟩:=Ti pp.t pp.n e1;have hll:=Mv sq.pq.t sq.pg.t pp.t e1 p1 p2;obtain⟨d,d1,l,d2,d3⟩:=Qgp h.z sq (by omega) (XV hb (by omega) pp.t sq.pq.t sq.pg.t pp.n e1);refine⟨q,l,hq,?_,d3⟩;unfold Ea;rw[hq];show(if q.length=0 then none else _)=_;rw[if_neg sq.pq.n,d1];show(sC 66 q (Fh d)).bind _=_;rw[d2];rfl
structure Gr(D M k:Nat)(q:Rat):Prop where
 u:∃u:Int,q*((D*2^k:Nat):Rat)=(u:Rat)
 b:Fi q<=(M:Rat)
 d:0<D
theorem nat_pos{n:Nat}(h:0<n):(0:Rat)<(n:Rat):=by
 have:((0:Nat):Rat)<(n:Rat):=Vp.2 h;simpa using this
theorem qX{D M k:Nat}{q:Rat}(h:Gr D M k q):Gr D M (k+1) q:=by
 obtain⟨u,hu⟩:=h.u;refine⟨⟨u*2,?_⟩,h.b,h.d⟩;rw[Zr,<-Xz]
 push_cast at hu ⊢
 rw[<-hu];grind
theorem Qh6{D M k:Nat}{a b:Rat}(ha:Gr D M k a)(hb:Gr D M k b):Gr D M (k+1) ((a+b) / 2):=by
 obtain⟨u,hu⟩:=ha.u;obtain⟨v,hv⟩:=hb.u;have h2:(a+b) / 2*2=a+b:=Hf (by decide);refine⟨⟨u+v,?_⟩,?_,ha.d⟩
 ·rw[Zr,<-Xz]
  push_cast at hu hv ⊢
  rw[<-hu,<-hv];generalize (a+b) / 2=c at *;generalize (D:Rat)*2^k=z at *;have:c*(z*2)=(c*2)*z:=by grind
  rw[this,h2];grind
 ·have h3:=ha.b;have h4:=hb.b;rw[Mj]at *;constructor <;> grind
theorem Qu9{D M k:Nat}{q:Rat}(h:Gr D M k q):q.den<=D*2^k:=by
 obtain⟨u,hu⟩:=h.u;have hp:0<D*2^k:=J8 h.d (Z2 (by decide));have e:q=Rat.divInt u ((D*2^k:Nat):Int):=by
  rw[<-Ra,<-hu];have hz:=nat_pos hp;rw[show((((D*2^k:Nat):Int)):Rat)=((D*2^k:Nat):Rat) from rfl];rw[J9];have:=Wu ((D*2^k:Nat):Rat) (by grind);generalize ((D*2^k:Nat):Rat)=z at *;have:q*z*z⁻¹=q*(z*z⁻¹):=by grind
  rw[this,‹z*z⁻¹=1›];grind
 rw[e,Wm,if_neg (by omega),Xi];exact Jr _ _
theorem DC{a b k:Nat}{z:Int}(h:z.natAbs<=a*(b*2^k)):Fc z<=Fc (a:Int)+Fc (b:Int)+k:=by
 have h1:Fc (a:Int)<=Fc (a:Int):=Qm _;have h2:Fc (b:Int)<=Fc (b:Int):=Qm _;rw[S0]at h1 h2 ⊢;rw[Xi]at h1 h2;rw[Xg,Xg];have h3:a*b<2^Fc (a:Int)*2^Fc (b:Int):=Nat.mul_lt_mul_of_lt_of_le h1 (Yl h2) (Z2 (by decide));have h4:=Xp h3 (show 0<2^k from Z2 (by decide));rw[<-Xz]at h;omega
theorem qZ{D M k B:Nat}{q:Rat}(h:Gr D M k q)(hM:0<M)(hs:Fc (D:Int)+Fc (M:Int)+k<=B):Qs B q:=by
 have hd:=Qu9 h;have hden:=nat_pos q.den_pos;have h1:(q.num.natAbs:Rat)<=((M*(D*2^k):Nat):Rat):=by
  have e:(q.num:Rat)=q*(q.den:Rat):=by
   have:(q.num:Rat) / (((q.den:Int)):Rat)=q:=by rw[Ra,Z7]
   have h2:(q.num:Rat) / (q.den:Rat)*(q.den:Rat)=q.num:=Zj (by grind);rw[show(q.num:Rat) / (q.den:Rat)=q from this]at h2;exact h2.symm
  rw[<-S4,e];have h3:=He (x:=q) (y:=(q.den:Rat)) (b:=((D*2^k:Nat):Rat)) h.b (by
   have:Fi (q.den:Rat)=(q.den:Rat):=by unfold Fi;rw[if_neg (by grind)]
   rw[this];exact Zm.2 hd)
  push_cast at h3 ⊢;exact h3
 have h1:=Zm.1 h1;refine⟨?_,?_⟩
 ·have:=DC (z:=q.num) h1;omega
 ·have:=DC (z:=(q.den:Int)) (a:=M) (b:=D) (k:=k) (by
   rw[Xi];exact Qc hd (Nat.le_mul_of_pos_left _ hM))
  omega
theorem bZ(a b:Rat):mid a b=(a+b) / 2:=by
 unfold mid;rw[<-Ra];have ha:(a.num:Rat)=a*(a.den:Rat):=by
  have:(a.num:Rat) / (((a.den:Int)):Rat)=a:=by rw[Ra,Z7]
  have h2:(a.num:Rat) / (a.den:Rat)*(a.den:Rat)=a.num:=Zj (by have:=nat_pos a.den_pos;grind);rw[show(a.num:Rat) / (a.den:Rat)=a from this]at h2;exact h2.symm
 have hb:(b.num:Rat)=b*(b.den:Rat):=by
  have:(b.num:Rat) / (((b.den:Int)):Rat)=b:=by rw[Ra,Z7]
  have h2:(b.num:Rat) / (b.den:Rat)*(b.den:Rat)=b.num:=Zj (by have:=nat_pos b.den_pos;grind);rw[show(b.num:Rat) / (b.den:Rat)=b from this]at h2;exact h2.symm
 have pa:=nat_pos a.den_pos;have pb:=nat_pos b.den_pos;rw[Kc,X1,X1,X1,X1,ha,hb];rw[show(((a.den:Int)):Rat)=(a.den:Rat) from rfl,show(((b.den:Int)):Rat)=(b.den:Rat) from rfl,show(((2:Int)):Rat)=2 from rfl];generalize (a.den:Rat)=x at *;generalize (b.den:Rat)=y at *;have hxy:=Ix (Ix pa pb) (show(0:Rat)<2 by decide);have h1:(a*x*y+b*y*x) / (x*y*2)*(x*y*2)=a*x*y+b*y*x:=Hf hxy;have h2:(a+b) / 2*2=a+b:=Hf (by decide);generalize (a*x*y+b*y*x) / (x*y*2)=c at *;generalize (a+b) / 2=d at *;have h3:(x*y*2)*(c-d)=0:=by grind
 rcases Y4.1 h3 with h4|h4 <;> grind
theorem NK(a b:Rat):EH a b=a-b:=by
 unfold EH;rw[Rat.sub_def',<-Rat.divInt_ofNat]
 push_cast;rfl
theorem eL{a b:Rat}:Hk a b=0↔a=b:=by
 constructor
 ·intro h;have h1:¬a<b:=λh'=>by have:=Ny.2 h';omega
  have h2:¬b<a:=λh'=>by have:=Eh.2 h';omega
  grind
 ·intro h;subst h;exact Ew a
theorem MF{a b:Rat}:Hk a b<=0↔a<=b:=by
 constructor
 ·intro h;have h2:¬b<a:=λh'=>by have:=Eh.2 h';omega
  grind
 ·intro h;have h2:¬0<Hk a b:=λh'=>by have:=Eh.1 h';grind
  omega
theorem MU{a b:Rat}:0<=Hk a b↔b<=a:=by
 constructor
 ·intro h;have h2:¬a<b:=λh'=>by have:=Ny.2 h';omega
  grind
 ·intro h;have h2:¬Hk a b<0:=λh'=>by have:=Ny.1 h';grind
  omega
theorem Cf(a b:Rat):Hk a b=1/\b<a\/Hk a b=0/\a=b\/Hk a b=-1/\a<b:=by
 have hb:=QH a b;rcases(show Hk a b=1\/Hk a b=0\/Hk a b=-1 by omega)with h|h|h
 ·exact .inl ⟨h,Eh.1 (by omega)⟩
 ·exact .inr (.inl ⟨h,eL.1 h⟩)
 ·exact .inr (.inr ⟨h,Ny.1 (by omega)⟩)
theorem fD(p:Uo)(x:Rat):low p x=Pq (cz p) x:=by
 unfold low Pq;rw[Np,Np,U9,Oq]
theorem Cg{t:Tm}(h:t.lo<t.hi)(q:Rat):Fo t q=cq (cz t.p) t.lo t.hi q:=by
 have hp:t.point=false:=by
  unfold Tm.point;have:¬0<=Hk t.lo t.hi:=λh'=>by have:=MU.1 h';grind
  simp[this]
 unfold Fo cq;rw[hp,if_neg (by decide)];have e1:(Hk q t.lo<=0)=(q<=t.lo):=propext MF;have e2:(0<Hk q t.hi)=(t.hi<q):=propext Eh;rw[Np,fD,<-U9];simp only[e1,e2]
theorem Mx{t:Tm}:t.point=true↔t.hi<=t.lo:=by
 unfold Tm.point;rw[decide_eq_true_iff];exact MU
theorem Ib{t:Tm}(h:t.lo=t.hi)(q:Rat):Fo t q=Hk t.lo q:=by
 have hp:t.point=true:=Mx.2 (by rw[h];exact Qq);unfold Fo;rw[if_pos hp]
theorem Quk{c:Rat->Int}{x:Rat}(h:∀q,c q=Hk x q):Cut c where
 val q:=by rw[h];have:=QH x q;omega
 mono q r hqr h1:=by
  rw[h]at h1 ⊢;rcases Cf x q with⟨e,e'⟩|⟨e,e'⟩|⟨e,e'⟩
  ·exact absurd e h1
  ·rcases Cf x r with⟨f,f'⟩|⟨f,f'⟩|⟨f,f'⟩ <;> grind
  ·rcases Cf x r with⟨f,f'⟩|⟨f,f'⟩|⟨f,f'⟩ <;> grind
 up q h1:=by
  rw[h]at h1;have h2:=Eh.1 (show 0<Hk x q by omega);have h3:(x+q) / 2*2=x+q:=Hf (by decide);have h4:=Eh.2 (show(x+q) / 2<x by grind);have:=QH x ((x+q) / 2);exact⟨(x+q) / 2,by grind,by rw[h];omega⟩
 dn q h1:=by
  rw[h]at h1;have h2:=Ny.1 (show Hk x q<0 by omega);have h3:(x+q) / 2*2=x+q:=Hf (by decide);have h4:=Ny.2 (show x<(x+q) / 2 by grind);have:=QH x ((x+q) / 2);exact⟨(x+q) / 2,by grind,by rw[h];omega⟩
 lo:=⟨x-1,by
  rw[h];have h4:=Eh.2 (show x-1<x by grind);have:=QH x (x-1);omega⟩
 hi:=⟨x+1,by
  rw[h];have h4:=Ny.2 (show x<x+1 by grind);have:=QH x (x+1);omega⟩
def lim(t:Tm):Nat:=if t.point=true then 3300000 else 1000000
theorem yQ{t:Tm}(h:t.point=false):lim t=1000000:=by simp[lim,h]
theorem Qve(t:Tm):1000000<=lim t:=by unfold lim;split <;> omega
theorem Qvf(t:Tm):lim t<=3300000:=by unfold lim;split <;> omega
structure Va(t:Tm):Prop where
 i:t.lo=t.hi/\U8 t.p t.lo=0\/∃L,Vt (cz t.p) L t.lo t.hi
 tr:Fe t.p
 n:t.p.length<=9
 n2:2<=t.p.length
 b:Bd 3300000 t.p
 bi:t.point=false->Bd 1260 t.p
 sc:t.point=false->∃(l:List (List Int)) (P g:List Int),sC 66 t.p (Fh (Gy t.p))=some l/\Sqp P g t.p/\Vt (cz t.p) ((t.p::l).map cz) t.lo t.hi
 g:∃D M k,Gr D M k t.lo/\Gr D M k t.hi/\0<M/\Fc (D:Int)+Fc (M:Int)+k<=lim t
theorem Va.le{t:Tm}(h:Va t):t.lo<=t.hi:=by
 rcases h.i with⟨e,_⟩|⟨L,V⟩
 ·rw[e];exact Qq
 ·exact Qt V.l
theorem Va.pt{t:Tm}(h:Va t)(hp:t.point=true):t.lo=t.hi/\U8 t.p t.lo=0:=by
 rcases h.i with e|⟨L,V⟩
 ·exact e
 ·have:=Mx.1 hp;have:=V.l;grind
theorem Va.iv{t:Tm}(h:Va t)(hp:t.point=false):∃L,Vt (cz t.p) L t.lo t.hi:=by
 rcases h.i with⟨e,_⟩|h
 ·have:=Mx.2 (show t.hi<=t.lo by rw[e];exact Qq);rw[hp]at this;cases this
 ·exact h
theorem Va.cut{t:Tm}(h:Va t):Cut (Fo t):=by
 rcases h.i with⟨e,_⟩|⟨L,V⟩
 ·exact Quk (x:=t.lo) λq=>Ib e q
 ·have:Fo t=cq (cz t.p) t.lo t.hi:=funext λq=>Cg V.l q
  rw[this];exact V.cut
theorem Qwx{c:Rat->Int}(hc:Cut c){p:Ur}{x:Rat}(h:c x=0)(h0:ev p x=0):I2 p c:=by
 rcases JD hc p with h1|⟨s,hs,h1⟩
 ·exact h1
 ·have:=gG hc h h1;rw[Gs.2 h0]at this;exact absurd this.symm hs
theorem Va.van{t:Tm}(h:Va t):I2 (cz t.p) (Fo t):=by
 have hc:=h.cut;rcases h.i with⟨e,h0⟩|⟨L,V⟩
 ·exact Qwx hc (x:=t.lo) (by rw[Ib e,Ew]) (by rw[U9];exact h0)
 ·have:Fo t=cq (cz t.p) t.lo t.hi:=funext λq=>Cg V.l q
  rw[this];exact V.van
theorem Va.qs{t:Tm}(h:Va t):Qs 3300000 t.lo/\Qs 3300000 t.hi:=by
 obtain⟨D,M,k,h1,h2,h3,h4⟩:=h.g;have h4:=Qc h4 (Qvf t);exact⟨qZ h1 h3 h4,qZ h2 h3 h4⟩
theorem Va.qsn{t:Tm}(h:Va t)(hp:t.point=false):Qs 1000000 t.lo/\Qs 1000000 t.hi:=by
 obtain⟨D,M,k,h1,h2,h3,h4⟩:=h.g;rw[yQ hp]at h4;exact⟨qZ h1 h3 h4,qZ h2 h3 h4⟩
theorem Va.tb{t:Tm}(h:Va t):Tb t:=⟨⟨h.tr,by have:=h.n;omega,U5 h.b (by omega)⟩,h.qs.1.mono (t:=16777216) (by omega),h.qs.2.mono (t:=16777216) (by omega)⟩
structure Hv(t:Tm)(D M k:Nat)(u:Tm):Prop where
 p:u.p=t.p
 i:u.lo=u.hi/\U8 u.p u.lo=0\/∃L,Vt (cz u.p) L u.lo u.hi
 c:∀q,Fo u q=Fo t q
 l:Gr D M k u.lo
 h:Gr D M k u.hi
theorem uV{c:Rat->Int}(hc:Cut c){x:Rat}(h:c x=0)(q:Rat):c q=Hk x q:=by
 rcases Cf x q with⟨e,e'⟩|⟨e,e'⟩|⟨e,e'⟩
 ·rw[e];exact hc.mono' e' (by omega)
 ·rw[e,<-e',h]
 ·rw[e];exact hc.mono x q e' (by omega)
theorem jB{t u:Tm}{D M k:Nat}(hu:Hv t D M k u)(hM:0<M)(hs:Fc (D:Int)+Fc (M:Int)+(k+1)<=16777216):∃v,jN u=some v/\Hv t D M (k+1) v/\v.hi-v.lo<=(u.hi-u.lo) / 2/\u.lo<=v.lo/\v.hi<=u.hi:=by
 have h2:∀x:Rat,x / 2*2=x:=λx=>Hf (by decide)
 unfold jN;rcases hu.i with⟨e,h0⟩|⟨L,V⟩
 ·have hp:u.point=true:=Mx.2 (by rw[e];exact Qq);rw[if_pos hp];refine⟨u,rfl,⟨hu.p,hu.i,hu.c,qX hu.l,qX hu.h⟩,?_,Qq,Qq⟩;rw[e];have:=h2 (u.hi-u.hi);grind
 ·have hp:u.point=false:=by
   have:¬u.point=true:=λh=>by have:=Mx.1 h;have:=V.l;grind
   simpa using this
  rw[hp,if_neg (by decide)];obtain⟨m,hm⟩:=nmE ((u.lo+u.hi) / 2);have hmg:Gr D M (k+1) m:=by rw[hm];exact Qh6 hu.l hu.h
  have hmm:=h2 (u.lo+u.hi);rw[<-hm]at hmm;have hl:=V.l;have hl1:u.lo<m:=by grind
  have hl2:m<u.hi:=by grind
  have hch:chq (mid u.lo u.hi)=some m:=by
   rw[bZ,<-hm];have:=qZ hmg hM hs;unfold chq;rw[if_pos ⟨this.1,this.2⟩]
  have hcm:mid u.lo u.hi=m:=by rw[bZ,<-hm]
  rw[hch];show ∃v,some (if Fo u m=0 then(⟨u.p,m,m⟩:Tm)else if Fo u m=-1 then ⟨u.p,u.lo,m⟩else ⟨u.p,m,u.hi⟩)=some v/\_;have hw:=h2 (u.hi-u.lo);have hcu:=Cg hl;have hcut:=V.cut;have hcut':Cut (Fo u):=by rw[show Fo u=cq (cz u.p) u.lo u.hi from funext hcu];exact hcut
  by_cases c0:Fo u m=0
  ·rw[if_pos c0];have hz:U8 u.p m=0:=by
    have:=TN hcut (q:=m) (by rw[<-hcu];exact c0) V.van;rwa[U9]at this
   refine⟨_,rfl,⟨hu.p,.inl ⟨rfl,hz⟩,λq=>?_,hmg,hmg⟩,by show m-m<=_;grind,by show u.lo<=m;grind,by show m<=u.hi;grind⟩;rw[Ib rfl,<-hu.c];exact(uV hcut' c0 q).symm
  ·rw[if_neg c0];by_cases c1:Fo u m=-1
   ·rw[if_pos c1];have hv:vv L m=vv L u.hi:=V.eq_hi hl1 (Qt hl2) (by rw[<-hcu,c1];decide);have V':Vt (cz u.p) L u.lo m:=⟨V.s,hl1,by rw[hv];exact V.v⟩;refine⟨_,rfl,⟨hu.p,.inr ⟨L,V'⟩,λq=>?_,qX hu.l,hmg⟩,by show m-u.lo<=_;grind,Qq,by show m<=u.hi;grind⟩;rw[Cg hl1,<-hu.c,hcu];exact V.uniq V'.cut (Ae Qq) (by rw[UR hl1 hl2];decide) V'.van q
   ·rw[if_neg c1];have c2:Fo u m=1:=by rcases hcut'.val m with h|h|h <;> omega
    have hv:vv L m=vv L u.lo:=V.eq_lo hl1 (Qt hl2) (by rw[<-hcu];exact c2);have V':Vt (cz u.p) L m u.hi:=⟨V.s,hl2,by rw[hv];exact V.v⟩;refine⟨_,rfl,⟨hu.p,.inr ⟨L,V'⟩,λq=>?_,hmg,qX hu.h⟩,by show u.hi-m<=_;grind,by show u.lo<=m;grind,Qq⟩;rw[Cg hl2,<-hu.c,hcu];exact V.uniq V'.cut (Ae (by grind)) V'.hi1 V'.van q
def Nv(a b:Tm):Prop:=∃q,Fo a q=-1/\Fo b q=1
def TEq(a b:Tm):Prop:=∀q,Fo a q=Fo b q
theorem tri{a b:Tm}(ha:Cut (Fo a))(hb:Cut (Fo b)):Nv a b\/TEq a b\/Nv b a:=by
 rcases Classical.em (TEq a b)with h|h
 ·exact .inr (.inl h)
 ·obtain⟨q,hq⟩:=Classical.not_forall.1 h;obtain⟨r,⟨h1,h2⟩|⟨h1,h2⟩⟩:=uY ha hb hq
  ·exact .inl ⟨r,h1,h2⟩
  ·exact .inr (.inr ⟨r,h2,h1⟩)
theorem Iw{a b:Tm}(ha:Cut (Fo a))(hb:Cut (Fo b))(h:Nv a b)(h':Nv b a):False:=by
 obtain⟨q,q1,q2⟩:=h;obtain⟨r,r1,r2⟩:=h';have:=ha.lt r2 q1;have:=hb.lt q2 r1;grind
theorem rC{p:Uo}(k:Nat):(p.getD k 0).natAbs<=2^Hb p:=by
 have h:Fc (p.getD k 0)<=Hb p:=by
  have key:∀(l:Uo) (n:Nat),n≤l.foldl (λn z=>max n (Fc z)) n/\∀z∈l,Fc z≤l.foldl (λn z=>max n (Fc z)) n:=by
   intro l
   induction l with
   |nil=>exact λn=>⟨Qm _,λz hz=>by cases hz⟩
   |
    cons y l ih =>
    intro n;obtain⟨i1,i2⟩:=ih (max n (Fc y));refine⟨by simp only[Z5];omega,λz hz=>?_⟩;simp only[Z5];rcases Ql.1 hz with rfl|hz
    ·omega
    ·exact i2 z hz
  exact Ft (s:=Hb p) (λz hz=>(key p 0).2 z hz) k
 rw[S0]at h;omega
theorem Qr8{s:Nat}:∀(B:Uo),(∀z∈B,z.natAbs≤2^s)->gB B≤2^(s+(B.length-1))
 | [],_=>Qh _
 |
  c::B,h=>by
  have h1:=h c (Qy ..);have h2:=Qr8 B λz hz=>h z (Qg _ hz)
  simp only[gB,Q5,Ye];have h3:2^s<=2^(s+B.length):=Zs (by decide) (by omega);cases B with
  |nil=>simp only[gB,Jg]at *;omega
  |
   cons d B =>
   have h4:2^(s+(d::B).length)=2*2^(s+((d::B).length-1)):=by
    rw[Zq,<-Zr];congr 1
   rw[h4];omega
def T0(A B:Uo):Nat:=(Hb A+Hb B+(A.length+B.length)+8)*(2*(A.length+B.length-2)-1)
theorem Qhq{A B:Uo}(tA:Fe A)(tB:Fe B)(nA:A.length<=9)(nB:B.length<=9)(lA:2<=A.length)(lB:2<=B.length){R d:Rat}(hR:1<=R)(dp:0<d)
 (hs:∀e:Rat,0<e->∃q r,Fi q<=R/\Fi r<=R/\d<=Fi (q-r)/\Fi (q-r)*((2^(T0 A B+1):Nat):Rat)<=1/\Fi (U8 A q)<e/\Fi (U8 B r)<e):False:=by
 obtain⟨a,ha⟩:∃a,A.length=a+1:=⟨A.length-1,by omega⟩;obtain⟨b,hb⟩:∃b,B.length=b+1:=⟨B.length-1,by omega⟩;obtain⟨s,hsd⟩:=nmE (Hb A+Hb B+b);obtain⟨N,hN⟩:∃N,b*(2*(a*b))+a*(2*(a*b)-b)=N:=⟨_,rfl⟩;have hNt:N<=2^(a+9):=by
  rw[<-hN];have hab:∀a b:Fin 9,b.1*(2*(a.1*b.1))+a.1*(2*(a.1*b.1)-b.1)<=2^(a.1+9):=by decide
  exact hab ⟨a,by omega⟩ ⟨b,by omega⟩
 have hK:T0 A B=(s+a+10)*(2*(a+b-1)+1):=by
  unfold T0;rw[ha,hb,hsd,show a+1+(b+1)-2=a+b by omega,show 2*(a+b)-1=2*(a+b-1)+1 by omega];congr 1;omega
 have h0A:A.getD a 0≠0:=by have:=H9 tA (by omega);rwa[ha]at this
 have h0B:B.getD b 0≠0:=by have:=H9 tB (by omega);rwa[hb]at this
 have hp:∀m,1<=2^m:=λm=>Z2 (by decide)
 refine Qu5 (N:=N) (D:=2^(T0 A B-1)) ha hb h0A h0B (by omega) (by omega) (h:=2^s) (hp s) (λk=>Qc (rC k) (Zs (by decide) (by omega))) ?_ hN ?_ hR dp λe ep=>?_
 ·refine Qc (Qr8 (s:=Hb B) B λz hz=>?_) (Zs (by decide) (by omega));obtain⟨i,hi⟩:=Zk.1 hz;have:=rC (p:=B) i;rwa[Qi,hi]at this
 ·have h1:2*(N*2^s)<=2^(s+a+10):=by
   have:N*2^s<=2^(a+9)*2^s:=Q0 _ hNt;rw[<-Xg]at this;rw[show s+a+10=(a+9+s)+1 by omega,Zr];omega
  have h2:N*2^s<=2^(s+a+9):=by
   rw[show s+a+9=(a+9)+s by omega,Xg];exact Q0 _ hNt
  have h3:=Nat.pow_le_pow_left h1 (2*(a+b-1));have h4:=Zd h2 h3;rw[<-Ks,<-Xg]at h4;rw[<-Xz];refine Qc h4 (Zs (by decide) ?_);rw[hK,Xk,Yx];omega
 ·obtain⟨q,r,h1,h2,h3,h4,h5,h6⟩:=hs e ep;refine⟨q,r,h1,h2,h3,?_,h5,h6⟩;have hK1:1<=T0 A B:=by
   rw[hK];exact J8 (by omega) (by omega)
  have e1:2^(T0 A B+1)=4*2^(T0 A B-1):=by
   obtain⟨m,hm⟩:∃m,T0 A B=m+1:=⟨T0 A B-1,by omega⟩;rw[hm,Ye,Zr,Zr];omega
  rw[e1]at h4
  push_cast at h4 ⊢
  exact h4
theorem Hv.lo'{t:Tm}{D M k:Nat}{u:Tm}(h:Hv t D M k u):Fo t u.lo=1\/Fo t u.lo=0/\u.lo=u.hi:=by
 rw[<-h.c];rcases h.i with⟨e,_⟩|⟨L,V⟩
 ·exact .inr ⟨by rw[Ib e,Ew],e⟩
 ·exact .inl (by rw[Cg V.l];exact Ae Qq)
theorem Hv.hi'{t:Tm}{D M k:Nat}{u:Tm}(h:Hv t D M k u):Fo t u.hi=0\/Fo t u.hi=-1:=by
 rw[<-h.c];rcases h.i with⟨e,_⟩|⟨L,V⟩
 ·exact .inl (by rw[Ib e,e,Ew])
 ·rw[Cg V.l];have:=V.hi1;rcases V.cut.val u.hi with h|h|h <;> omega
theorem Hv.le{t:Tm}{D M k:Nat}{u:Tm}(h:Hv t D M k u):u.lo<=u.hi:=by
 rcases h.i with⟨e,_⟩|⟨L,V⟩
 ·rw[e];exact Qq
 ·exact Qt V.l
theorem Qhr{a b:Tm}(ha:Va a)(hb:Va b){D M k D' M' k':Nat}{u v:Tm}(hu:Hv a D M k u)(hv:Hv b D' M' k' v)(h:Nv a b):1<(v.hi-u.lo)*((2^(T0 a.p b.p+1):Nat):Rat):=by
 rcases Gg ((v.hi-u.lo)*((2^(T0 a.p b.p+1):Nat):Rat)) 1 with hw|hw
 ·exfalso;have ca:=ha.cut;have cb:=hb.cut;obtain⟨m,m1,m2⟩:=h;obtain⟨m',hm',m3⟩:=ca.dn m m1;have hpow:(0:Rat)<=((2^(T0 a.p b.p+1):Nat):Rat):=Xj;obtain⟨R,hR⟩:=nmE (Fi u.lo+Fi m'+Fi m+Fi v.hi+1);have n1:=Hw u.lo;have n2:=Hw m';have n3:=Hw m;have n4:=Hw v.hi;refine Qhq (R:=R) (d:=m-m') ha.tr hb.tr ha.n hb.n ha.n2 hb.n2 (by grind) (by grind) λe ep=>?_
  obtain⟨q,q1,q2,q3⟩:∃q,u.lo<=q/\q<=m'/\Fi (U8 a.p q)<e:=by
   rcases hu.lo' with h1|⟨h1,_⟩
   ·obtain⟨x,y,hx,hy,hq⟩:=ha.van e ep;rcases Gg x u.lo with e1|e1
    ·exact⟨u.lo,Qq,Qt (ca.lt h1 m3),by rw[<-U9];exact hq u.lo e1 (Qt (ca.lt h1 hy))⟩
    ·exact⟨x,Qt e1,Qt (ca.lt hx m3),by rw[<-U9];exact hq x Qq (Qt (ca.lt hx hy))⟩
   ·refine⟨u.lo,Qq,?_,by rw[<-U9,TN ca h1 ha.van,Rl];exact ep⟩;rcases Gg u.lo m' with e1|e1
    ·exact e1
    ·have:=ca.mono m' u.lo e1 (by omega);omega
  obtain⟨r,r1,r2,r3⟩:∃r,r<=v.hi/\m<=r/\Fi (U8 b.p r)<e:=by
   rcases hv.hi' with h1|h1
   ·refine⟨v.hi,Qq,?_,by rw[<-U9,TN cb h1 hb.van,Rl];exact ep⟩;rcases Gg m v.hi with e1|e1
    ·exact e1
    ·have:=cb.mono v.hi m e1 (by omega);omega
   ·obtain⟨x,y,hx,hy,hq⟩:=hb.van e ep;rcases Gg v.hi y with e1|e1
    ·exact⟨v.hi,Qq,Qt (cb.lt m2 h1),by rw[<-U9];exact hq v.hi (Qt (cb.lt hx h1)) e1⟩
    ·exact⟨y,Qt e1,Qt (cb.lt m2 hy),by rw[<-U9];exact hq y (Qt (cb.lt hx hy)) Qq⟩
  have e1:Fi (q-r)=r-q:=by unfold Fi;split <;> grind
  have b1:Fi q<=R:=by
   have:=FQ (R:=R) (x:=u.lo) (y:=m') (t:=q) (by grind) (by grind) q1 q2;exact this
  have b2:Fi r<=R:=by
   have:=FQ (R:=R) (x:=m) (y:=v.hi) (t:=r) (by grind) (by grind) r2 r1;exact this
  refine⟨q,r,b1,b2,by rw[e1];grind,?_,q3,r3⟩;rw[e1];have:=Zf (show r-q<=v.hi-u.lo by grind) hpow;exact Zl this hw
 ·exact hw
theorem wX{a b:Tm}(ha:Va a)(hb:Va b){D M k D' M' k':Nat}{u v:Tm}(hu:Hv a D M k u)(hv:Hv b D' M' k' v)(hne:¬TEq a b)(h:D7 u v=true):Nv a b:=by
 have h1:=(of_decide_eq_true h).1;have h1:=MF.1 h1;rcases tri ha.cut hb.cut with h2|h2|⟨m,m1,m2⟩
 ·exact h2
 ·exact absurd h2 hne
 ·exfalso;have e1:m<u.hi:=by
   rcases Gg u.hi m with e|e
   ·rcases Classical.em (u.hi=m)with e'|e'
    ·have:=hu.hi';rw[e']at this;omega
    ·have:=ha.cut.mono u.hi m (by grind) (by have:=hu.hi';omega);omega
   ·exact e
  have e2:v.lo<m:=by
   rcases Gg m v.lo with e|e
   ·rcases Classical.em (m=v.lo)with e'|e'
    ·have:=hv.lo';rw[<-e']at this;omega
    ·have:=hb.cut.mono m v.lo (by grind) (by omega);have:=hv.lo';omega
   ·exact e
  grind
theorem oQ{a b:Tm}(ha:Va a)(hb:Va b){D M k D' M' k':Nat}{u v:Tm}(hu:Hv a D M k u)(hv:Hv b D' M' k' v)(hlt:Nv a b)(h:D7 u v≠true):v.lo<=u.hi:=by
 rcases Gg v.lo u.hi with e|e
 ·exact e
 ·refine absurd (decide_eq_true ⟨MF.2 (Qt e),λh'=>?_⟩) h;have:=eL.1 h'.2;grind
theorem rT(m:Nat):((2^(m+1):Nat):Rat)=2*((2^m:Nat):Rat):=by rw[Zr];push_cast;grind
def Qs1(a b:Tm)(r:Tm×Tm×Int):Prop:=r.2.2=-1/\Nv a b\/r.2.2=1/\Nv b a
theorem Qcj(A B:Uo):T0 A B=T0 B A:=by unfold T0;rw[Nat.add_comm A.length,Nat.add_comm (Hb A)]
theorem Qxk{a b:Tm}(ha:Va a)(hb:Va b)(hne:¬TEq a b){D M D' M':Nat}(hM:0<M)(hM':0<M'):∀(i j:Nat) (u v:Tm) (k k':Nat) (W:Rat),2*i+1<=j->Hv a D M k u->Hv b D' M' k' v->Fc (D:Int)+Fc (M:Int)+(k+j)<=16777216->Fc (D':Int)+Fc (M':Int)+(k'+j)<=16777216->u.hi-u.lo<=W->v.hi-v.lo<=W->2*W*((2^(T0 a.p b.p+1):Nat):Rat)<=((2^i:Nat):Rat)->∃r,AP j u v=some r/\Qs1 a b r:=by
 intro i;have step:∀(j:Nat) (u v:Tm) (k k':Nat),Hv a D M k u->Hv b D' M' k' v->Fc (D:Int)+Fc (M:Int)+(k+(j+1))<=16777216->Fc (D':Int)+Fc (M':Int)+(k'+(j+1))<=16777216->(∃r,AP (j+1) u v=some r/\Qs1 a b r)\/(D7 u v≠true/\D7 v u≠true/\∃u' v' k1 k1',AP (j+1) u v=AP j u' v'/\Hv a D M k1 u'/\Hv b D' M' k1' v'/\k1<=k+1/\k1'<=k'+1/\(v.hi-v.lo<=u.hi-u.lo/\u'.hi-u'.lo<=(u.hi-u.lo) / 2/\v'=v\/u.hi-u.lo<=v.hi-v.lo/\v'.hi-v'.lo<=(v.hi-v.lo) / 2/\u'=u)):=by
  intro j u v k k' hu hv hs hs';by_cases h1:D7 u v=true
  ·exact .inl ⟨(u,v,-1),by simp only[AP];rw[if_pos h1],.inl ⟨rfl,wX ha hb hu hv hne h1⟩⟩
  by_cases h2:D7 v u=true
  ·exact .inl ⟨(u,v,1),by simp only[AP];rw[if_neg h1,if_pos h2],.inr ⟨rfl,wX hb ha hv hu (λh=>hne λq=>(h q).symm) h2⟩⟩
  refine .inr ⟨h1,h2,?_⟩;by_cases h3:0<=Hk (EH u.hi u.lo) (EH v.hi v.lo)
  ·obtain⟨x,x1,x2,x3,_⟩:=jB hu hM (by omega);refine⟨x,v,k+1,k',?_,x2,hv,by omega,by omega,.inl ⟨?_,x3,rfl⟩⟩
   ·simp only[AP];rw[if_neg h1,if_neg h2,if_pos h3,x1];rfl
   ·have:=MU.1 h3;rwa[NK,NK]at this
  ·obtain⟨x,x1,x2,x3,_⟩:=jB hv hM' (by omega);refine⟨u,x,k,k'+1,?_,hu,x2,by omega,by omega,.inr ⟨?_,x3,rfl⟩⟩
   ·simp only[AP];rw[if_neg h1,if_neg h2,if_neg h3,x1];rfl
   ·rcases Gg (u.hi-u.lo) (v.hi-v.lo)with e|e
    ·exact e
    ·refine absurd (MU.2 ?_) h3;rw[NK,NK];exact Qt e
 induction i with
 |
  zero =>
  intro j u v k k' W hj hu hv hs hs' hW hW' hK;obtain⟨j,rfl⟩:∃m,j=m+1:=⟨j-1,by omega⟩;rcases step j u v k k' hu hv hs hs' with h|⟨h1,h2,_⟩
  ·exact h
  ·exfalso;have hpow:(0:Rat)<=((2^(T0 a.p b.p+1):Nat):Rat):=Xj;rw[Ve]at hK;rcases tri ha.cut hb.cut with h3|h3|h3
   ·have h4:=oQ ha hb hu hv h3 h1;have h5:=Qhr ha hb hu hv h3;have h6:=Zf (show v.hi-u.lo<=2*W by clear step;grind) hpow;have h7:((1:Nat):Rat)=1:=rfl;rw[h7]at hK;clear step;grind
   ·exact hne h3
   ·have h4:=oQ hb ha hv hu h3 h2;have h5:=Qhr hb ha hv hu h3;rw[Qcj]at h5;have h6:=Zf (show u.hi-v.lo<=2*W by clear step;grind) hpow;have h7:((1:Nat):Rat)=1:=rfl;rw[h7]at hK;clear step;grind
 |
  succ i ih =>
  intro j u v k k' W hj hu hv hs hs' hW hW' hK;obtain⟨j,rfl⟩:∃m,j=m+2:=⟨j-2,by omega⟩;have hd:∀x:Rat,x / 2*2=x:=λx=>Hf (by decide)
  rcases step (j+1) u v k k' hu hv hs hs' with h|⟨_,_,u1,v1,k1,k1',e1,hu1,hv1,hk1,hk1',hw1⟩
  ·exact h
  ·rw[e1];rcases step j u1 v1 k1 k1' hu1 hv1 (by omega) (by omega)with h|⟨_,_,u2,v2,k2,k2',e2,hu2,hv2,hk2,hk2',hw2⟩
   ·exact h
   ·rw[e2];have a1:=hd (u.hi-u.lo);have a2:=hd (v.hi-v.lo);have a3:=hd (u1.hi-u1.lo);have a4:=hd (v1.hi-v1.lo);have a5:=hd W;have b1:=hu.le;have b2:=hv.le;have b3:=hu1.le;have b4:=hv1.le;have b5:=hu2.le;have b6:=hv2.le;have hww:u2.hi-u2.lo<=W / 2/\v2.hi-v2.lo<=W / 2:=by
     clear step ih;rcases hw1 with⟨c1,c2,rfl⟩|⟨c1,c2,rfl⟩ <;> rcases hw2 with⟨d1,d2,rfl⟩|⟨d1,d2,rfl⟩ <;> constructor <;> grind
    refine ih j u2 v2 k2 k2' (W / 2) (by omega) hu2 hv2 (by omega) (by omega) hww.1 hww.2 ?_;rw[rT i]at hK;have:2*(W / 2)*((2^(T0 a.p b.p+1):Nat):Rat)*2=2*W*((2^(T0 a.p b.p+1):Nat):Rat):=by clear step ih hw1 hw2;grind
    clear step ih hw1 hw2;grind
def CmpOk(a b:Tm)(c:Int):Prop:=c=-1/\Nv a b\/c=0/\TEq a b\/c=1/\Nv b a
theorem Va.hv0{t:Tm}(h:Va t):∃D M k,Hv t D M k t/\0<M/\Fc (D:Int)+Fc (M:Int)+k<=lim t:=by
 obtain⟨D,M,k,h1,h2,h3,h4⟩:=h.g;exact⟨D,M,k,⟨rfl,h.i,λ_=>rfl,h1,h2⟩,h3,h4⟩
theorem cZ{a:Tm}(ha:Va a)(hp:a.point=true)(q:Rat):Fo a q=Hk a.lo q:=Ib (ha.pt hp).1 q
theorem Qgu{a b:Tm}(hb:Va b){x:Rat}(hx:∀q,Fo a q=Hk x q):CmpOk a b (-Fo b x):=by
 have cb:=hb.cut;rcases cb.val x with h|h|h
 ·obtain⟨q,q1,q2⟩:=cb.up x h;refine .inl ⟨by omega,q,?_,q2⟩;rw[hx];rcases Cf x q with⟨e,e'⟩|⟨e,e'⟩|⟨e,e'⟩ <;> grind
 ·exact .inr (.inl ⟨by omega,λq=>by rw[hx,uV cb h]⟩)
 ·obtain⟨q,q1,q2⟩:=cb.dn x h;refine .inr (.inr ⟨by omega,q,q2,?_⟩);rw[hx];rcases Cf x q with⟨e,e'⟩|⟨e,e'⟩|⟨e,e'⟩ <;> grind
theorem CmpOk.symm{a b:Tm}{c:Int}(h:CmpOk a b c):CmpOk b a (-c):=by
 rcases h with⟨h1,h2⟩|⟨h1,h2⟩|⟨h1,h2⟩
 ·exact .inr (.inr ⟨by omega,h2⟩)
 ·exact .inr (.inl ⟨by omega,λq=>(h2 q).symm⟩)
 ·exact .inl ⟨by omega,h2⟩
theorem Qzh:Szz 9 1260:=⟨by decide,by decide⟩
theorem UO(g:Uo)(lo hi:Rat):UI g lo hi=true↔nU (cz g) lo hi:=by
 unfold UI nU;rw[decide_eq_true_iff,Np,fD,U9]
theorem fW{g:Uo}(tg:Fe g)(hn:g.length≠0){lo hi:Rat}(h:nU (cz g) lo hi):1<g.length:=by
 rcases Zc 1 g.length with e|e
 ·exact e
 ·exfalso;obtain⟨c,rfl⟩:∃c,g=[c]:=Kr.1 (by omega);have hc:c≠0:=by have:=H9 tg (by simp);simpa using this
  have hv:∀t,ev (cz [c]) t=(c:Rat):=λt=>by rw[U9];simp only[U8];grind
  have hs:Ff (c:Rat)≠0:=λh=>XH hc (Gs.1 h)
  unfold nU at h;rw[hv,Al (by rw[hv];exact hs),hv]at h;rcases h with h|h
  ·exact hs h
  ·exact h rfl
theorem DN{q:Rat}:Fi q<=((2^Fc q.num:Nat):Rat):=by
 have h1:Fc q.num<=Fc q.num:=Qm _;rw[S0]at h1;have e:(q.num:Rat)=q*(q.den:Rat):=by
  have:(q.num:Rat) / (((q.den:Int)):Rat)=q:=by rw[Ra,Z7]
  have h2:(q.num:Rat) / (q.den:Rat)*(q.den:Rat)=q.num:=Zj (by have:=nat_pos q.den_pos;grind);rw[show(q.num:Rat) / (q.den:Rat)=q from this]at h2;exact h2.symm
 have hd:(1:Rat)<=(q.den:Rat):=by
  have:((1:Nat):Rat)<=(q.den:Rat):=Zm.2 q.den_pos;exact this
 have h2:Fi q<=Fi (q.num:Rat):=by
  rw[e,Il];have:Fi (q.den:Rat)=(q.den:Rat):=by unfold Fi;rw[if_neg (by grind)]
  rw[this];have:=Cn (a:=Fi q) (c:=1) (Hw q) Qq (by decide) hd;grind
 rw[S4]at h2;exact Zl h2 (Zm.2 (Yl h1))
theorem TB{a:Tm}{w:Nat}(h:Fc a.lo.num+Fc a.hi.num<=w):a.hi-a.lo<=((2^(w+1):Nat):Rat):=by
 have h1:=DN (q:=a.lo);have h2:=DN (q:=a.hi);have h3:((2^Fc a.lo.num:Nat):Rat)<=((2^w:Nat):Rat):=Zm.2 (Zs (by decide) (by omega));have h4:((2^Fc a.hi.num:Nat):Rat)<=((2^w:Nat):Rat):=Zm.2 (Zs (by decide) (by omega));rw[rT];rw[Mj]at h1 h2;grind
theorem O1{p:Uo}{s:Nat}(h:Bd s p):Hb p<=s:=by
 have:=Mi h p.length;rwa[Q7]at this
theorem Qk4{a b:Tm}(ha:Va a)(hb:Va b)(pa:a.point=false)(pb:b.point=false):P7 a b<=9000000:=by
 have q1:=ha.qsn pa;have q2:=hb.qsn pb;have l1:=ha.n;have l2:=hb.n;have s1:=O1 (ha.bi pa);have s2:=O1 (hb.bi pb);have b1:=q1.1.1;have b2:=q1.2.1;have b3:=q2.1.1;have b4:=q2.2.1;have:4*(a.p.length+b.p.length)*(Hb a.p+Hb b.p+(a.p.length+b.p.length)+8)<=4*18*2600:=Zd (by omega) (by omega);unfold P7;omega
theorem Qeb{a b:Tm}(ha:Va a)(hb:Va b)(pa:a.point=false)(pb:b.point=false)(hne:¬TEq a b):∃r,AP (P7 a b) a b=some r/\Qs1 a b r:=by
 obtain⟨D,M,k,h1,h2,h3⟩:=ha.hv0;obtain⟨D',M',k',h1',h2',h3'⟩:=hb.hv0;rw[yQ pa]at h3;rw[yQ pb]at h3';have hst:=Qk4 ha hb pa pb;obtain⟨w,hw⟩:=nmE (Fc a.lo.num+Fc a.hi.num+Fc b.lo.num+Fc b.hi.num);obtain⟨K,hK⟩:=nmE (Hb a.p+Hb b.p+(a.p.length+b.p.length)+8);obtain⟨n,hn⟩:=nmE (a.p.length+b.p.length);have l1:=ha.n2;have l2:=hb.n2;have hsteps:P7 a b=64+2*w+4*n*K:=by unfold P7;rw[hw,hK,hn]
 have hg:T0 a.p b.p=K*(2*(n-2)-1):=by unfold T0;rw[hK,hn]
 have hgle:T0 a.p b.p+5*K<=2*n*K:=by
  rw[hg,Zq K,<-X4];exact Q0 _ (by omega)
 have hKp:8<=K:=by omega
 refine Qxk ha hb hne h2 h2' (31+w+2*n*K) (P7 a b) a b k k' ((2^(w+1):Nat):Rat) ?_ h1 h1' (by omega) (by omega) (TB (by omega)) (TB (by omega)) ?_
 ·rw[hsteps,Xk,Xz 4,Xz 2 n];omega
 ·have e:2*(2^(w+1))*(2^(T0 a.p b.p+1))<=2^(31+w+2*n*K):=by
   rw[Zq 2,<-Zr,<-Xg];exact Zs (by decide) (by omega)
  have:=Zm.2 e
  push_cast at this ⊢
  exact this
theorem UG{a b:Tm}(ha:Va a)(hb:Va b):∃c,UF a b=some c/\CmpOk a b c:=by
 unfold UF;by_cases pa:a.point=true
 ·rw[if_pos pa];exact⟨_,rfl,Qgu hb (cZ ha pa)⟩
 rw[if_neg pa];by_cases pb:b.point=true
 ·rw[if_pos pb];have:=(Qgu ha (cZ hb pb)).symm;rw[Int.neg_neg]at this;exact⟨_,rfl,this⟩
 rw[if_neg pb];have pa:a.point=false:=by simpa using pa
 have pb:b.point=false:=by simpa using pb
 obtain⟨L,V⟩:=ha.iv pa;obtain⟨L',V'⟩:=hb.iv pb;have eqa:∀q,Fo a q=cq (cz a.p) a.lo a.hi q:=Cg V.l;have eqb:∀q,Fo b q=cq (cz b.p) b.lo b.hi q:=Cg V'.l;obtain⟨lo,hlo⟩:=nmE (if 0<Hk b.lo a.lo then b.lo else a.lo);obtain⟨hi,hhi⟩:=nmE (if Hk b.hi a.hi<0 then b.hi else a.hi);show ∃c,(if Hk (if 0<Hk b.lo a.lo then b.lo else a.lo) (if Hk b.hi a.hi<0 then b.hi else a.hi)<0 then _ else _)=some c/\_;rw[<-hlo,<-hhi];have e1:(0<Hk b.lo a.lo)=(a.lo<b.lo):=propext Eh;have e2:(Hk b.hi a.hi<0)=(b.hi<a.hi):=propext Ny;have e3:(Hk lo hi<0)=(lo<hi):=propext Ny;simp only[e1]at hlo;simp only[e2]at hhi;simp only[e3];obtain⟨g,g1,g2,g3,g4⟩:=Qhz Qzh ha.tr hb.tr ha.n hb.n (ha.bi pa) (hb.bi pb) (by have:=ha.n2;omega);obtain⟨U,W,hc⟩:=g2.c;obtain⟨u,hu⟩:=g2.da;obtain⟨u',hu'⟩:=g2.db;have key:=V.same V' (g:=cz g) (u:=u) (u':=u') (U:=U) (W:=W) (k:=1) (by decide) hu hu' (λt=>by rw[U9,U9,U9,hc];grind) (a:=lo) (b:=hi) (by rw[hlo];split <;> grind) (by rw[hlo];split <;> grind) (by rw[hlo];split <;> simp) (by rw[hhi];split <;> grind) (by rw[hhi];split <;> grind) (by rw[hhi];split <;> simp);have hTE:(∀q,cq (cz a.p) a.lo a.hi q=cq (cz b.p) b.lo b.hi q)↔TEq a b:=by
  unfold TEq;constructor
  ·intro h q;rw[eqa,eqb];exact h q
  ·intro h q;rw[<-eqa,<-eqb];exact h q
 rw[hTE]at key;have fin:¬TEq a b->∃c,((AP (P7 a b) a b).bind λr=>some r.2.2)=some c/\CmpOk a b c:=λhne=>by
  obtain⟨r,r1,r2⟩:=Qeb ha hb pa pb hne;refine⟨r.2.2,by rw[r1];rfl,?_⟩;rcases r2 with h|h
  ·exact .inl h
  ·exact .inr (.inr h)
 by_cases hl:lo<hi
 ·rw[if_pos hl,g1];show ∃c,(if 1<g.length/\UI g lo hi=true then some 0 else(AP (P7 a b) a b).bind λr=>some r.2.2)=some c/\_;by_cases hh:UI g lo hi=true
  ·have hq:=(UO g lo hi).1 hh;rw[if_pos ⟨fW g2.t g2.n hq,hh⟩];exact⟨0,rfl,.inr (.inl ⟨rfl,key.1 ⟨hl,hq⟩⟩)⟩
  ·rw[if_neg λh=>hh h.2];exact fin λh=>hh ((UO g lo hi).2 (key.2 h).2)
 ·rw[if_neg hl];exact fin λh=>hl (key.2 h).1
def SgT(p:Uo)(a:Tm)(s:Int):Prop:=s=0/\I2 (cz p) (Fo a)\/s≠0/\NZ (cz p) (Fo a) s
theorem Qwd{p:Uo}{c:Rat->Int}(hc:Cut c){x:Rat}(h:c x=0):Re p x=0/\I2 (cz p) c\/Re p x≠0/\NZ (cz p) c (Re p x):=by
 rw[Np,<-U9];rcases JD hc (cz p)with h1|⟨s,hs,h1⟩
 ·exact .inl ⟨Gs.2 (TN hc h h1),h1⟩
 ·have:=gG hc h h1;rw[this];exact .inr ⟨hs,h1⟩
theorem QX{l:Up}{lo hi:Rat}(h:lo<=hi):Tq l lo hi=(vv (l.map cz) lo:Int)-(vv (l.map cz) hi:Int):=by
 unfold Tq;rw[if_neg λh'=>by have:=Ny.1 h';grind,ZY,ZY]
theorem Qwe{p q:Uo}{L:Us}(hp:Fe p)(np:p.length<=9)(lp:2<=p.length)(hS:GO (cz q) L)(hpq:ZB (cz q) (cz p)){a:Tm}(ha:Va a){s:Int}(hnz:NZ (cz p) (Fo a) s){D M k:Nat}{x:Tm}(hx:Hv a D M k x)(hl:x.lo<x.hi)(hv:vv L x.lo≠vv L x.hi):1<(x.hi-x.lo)*((2^(T0 a.p p+1):Nat):Rat):=by
 rcases Gg ((x.hi-x.lo)*((2^(T0 a.p p+1):Nat):Rat)) 1 with hw|hw
 ·exfalso;have ca:=ha.cut;obtain⟨d,dp,x1,y1,c1,c2,hn⟩:=hnz;obtain⟨x2,x12,c3⟩:=ca.up x1 c1;obtain⟨y2,y12,c4⟩:=ca.dn y1 c2;have hpow:(0:Rat)<=((2^(T0 a.p p+1):Nat):Rat):=Xj;obtain⟨z,zp,z1,z2⟩:=min2 (a:=x2-x1) (b:=y1-y2) (by clear hn;grind) (by clear hn;grind);obtain⟨R0,hR0,r1,r2⟩:=xX x.lo x.hi;obtain⟨u,hu⟩:=hpq;refine Qhq (R:=R0+1) (d:=z) ha.tr hp ha.n np ha.n2 lp (by clear hn;grind) zp λe ep=>?_
  obtain⟨q0,q1,q2,q3,q4,q5⟩:∃q0,x.lo<=q0/\q0<=x.hi/\x2<=q0/\q0<=y2/\Fi (U8 a.p q0)<e:=by
   rcases hx.lo' with h1|⟨h1,h2⟩
   ·obtain⟨x',y',hx',hy',hq⟩:=ha.van e ep;obtain⟨m,m1,m2,m3,m4⟩:∃m,Fo a m=1/\x.lo<=m/\x2<=m/\x'<=m:=by
     rcases Gg x.lo x2 with e1|e1
     ·rcases Gg x2 x' with e2|e2
      ·exact⟨x',hx',by clear hn hq;grind,e2,Qq⟩
      ·exact⟨x2,c3,e1,Qq,Qt e2⟩
     ·rcases Gg x.lo x' with e2|e2
      ·exact⟨x',hx',e2,by clear hn hq;grind,Qq⟩
      ·exact⟨x.lo,h1,Qq,Qt e1,Qt e2⟩
    refine⟨m,m2,?_,m3,Qt (ca.lt m1 c4),by rw[<-U9];exact hq m m4 (Qt (ca.lt m1 hy'))⟩;rcases hx.hi' with h3|h3
    ·rcases Gg m x.hi with e1|e1
     ·exact e1
     ·have:=ca.mono x.hi m e1 (by omega);omega
    ·exact Qt (ca.lt m1 h3)
   ·exact absurd h2 (by clear hn;grind)
  obtain⟨b,hb⟩:=nmE (uD R0 u);have hb0:0<=b:=by rw[hb];exact XY hR0 u
  obtain⟨f,fp,_,hf⟩:=Hj (b:=b) (d:=if e<=d then e else d) hb0 (by split <;> assumption);obtain⟨r,r3,r4,r5⟩:=vD hS hl hv fp;have hrR:Fi r<=R0:=FQ r1 r2 r3 r4;have hpr:Fi (U8 p r)<(if e<=d then e else d):=by
   rw[<-U9,hu];have:=He (Qt r5) (SZ hrR u);rw[<-hb]at this;exact Js.1 λh=>absurd (Zl h this) (Js.2 hf)
  have hpe:Fi (U8 p r)<e:=by split at hpr <;> (clear hn;grind)
  have hpd:Fi (U8 p r)<d:=by split at hpr <;> (clear hn;grind)
  have hrout:r<x1\/y1<r:=by
   rcases Gg x1 r with e1|e1
   ·rcases Gg r y1 with e2|e2
    ·have:=(hn r e1 e2).2;rw[U9]at this;exact absurd this (Js.2 hpd)
    ·exact .inr e2
   ·exact .inl e1
  have hqr:z<=Fi (q0-r):=by
   clear hn;rcases hrout with h|h
   ·have:Fi (q0-r)=q0-r:=by unfold Fi;split <;> grind
    rw[this];grind
   ·have:Fi (q0-r)=r-q0:=by unfold Fi;split <;> grind
    rw[this];grind
  have hq0R:Fi q0<=R0:=FQ r1 r2 q1 q2;refine⟨q0,r,by clear hn;grind,by clear hn;grind,hqr,?_,q5,hpe⟩;have h1:Fi (q0-r)<=x.hi-x.lo:=by rw[Mj];clear hn;constructor <;> grind
  exact Zl (Zf h1 hpow) hw
 ·exact hw
theorem Qkq{p q:Uo}{l:Up}(hp:Fe p)(np:p.length<=9)(lp:2<=p.length)(hS:GO (cz q) (l.map cz))(hpq:ZB (cz q) (cz p)){a:Tm}(ha:Va a){s:Int}(hnz:NZ (cz p) (Fo a) s){D M:Nat}(hM:0<M):∀(j i:Nat) (x:Tm) (k:Nat) (W:Rat),i+1<=j->Hv a D M k x->Fc (D:Int)+Fc (M:Int)+(k+j)<=16777216->x.hi-x.lo<=W->W*((2^(T0 a.p p+1):Nat):Rat)<=((2^i:Nat):Rat)->∃u k',sgF l j x=some u/\Hv a D M k' u/\(u.point=true\/Tq l u.lo u.hi=0)
 | 0,i,x,k,W,h,_,_,_,_=>by omega
 |
  j+1,i,x,k,W,hj,hx,hs,hW,hK=>by
  simp only[sgF];by_cases h:x.point=true\/Tq l x.lo x.hi=0
  ·rw[if_pos h];exact⟨x,k,rfl,hx,h⟩
  ·rw[if_neg h];obtain⟨v,v1,v2,v3,_⟩:=jB hx hM (by omega);rw[v1];show ∃u k',sgF l j v=some u/\_;have hpt:¬x.hi<=x.lo:=λh'=>h (.inl (Mx.2 h'))
   have hl:x.lo<x.hi:=by grind
   have hvv:vv (l.map cz) x.lo≠vv (l.map cz) x.hi:=λh'=>h (.inr (by rw[QX (Qt hl)];omega))
   have hg:=Qwe hp np lp hS hpq ha hnz hx hl hvv;have hpow:(0:Rat)<=((2^(T0 a.p p+1):Nat):Rat):=Xj;have hd:∀x:Rat,x / 2*2=x:=λx=>Hf (by decide)
   cases i with
   |
    zero =>
    exfalso;rw[Ve]at hK;have:=Zf hW hpow;have h7:((1:Nat):Rat)=1:=rfl;rw[h7]at hK;grind
   |
    succ i =>
    refine Qkq hp np lp hS hpq ha hnz hM j i v (k+1) (W / 2) (by omega) v2 (by omega) ?_ ?_
    ·have:=hd (x.hi-x.lo);have:=hd W;grind
    ·rw[rT i]at hK;have:=hd W;have:W / 2*((2^(T0 a.p p+1):Nat):Rat)*2=W*((2^(T0 a.p p+1):Nat):Rat):=by grind
     grind
theorem rX{x y:Rat}:∀{ws:Us},(∀w∈ws,Ff (ev w x)=Ff (ev w y))->Ff (ev (On ws) x)=Ff (ev (On ws) y)
 | [],_=>by simp only[On];rw[Tf,Tf]
 |
  w::l,h=>by
  simp only[On];rw[Fg,Fg,Sx,Sx,h w (Qy ..),rX λv hv=>h v (Qg _ hv)]
theorem Qc7{p q o:Uo}(hpt:Parts p q o)(tp:Fe p)(hp:p.length≠0){L:Us}(hS:GO (cz q) L){x y:Rat}(hxy:x<y)(hv:vv L x=vv L y):∃s,s≠0/\∀z,x<z->z<=y->Ff (U8 p z)=s:=by
 obtain⟨ws,w1,w2⟩:=hpt.ws;obtain⟨_,_,_,_,_,p6,p7⟩:=Cu tp hp;have key:∀z,x<z->z≤y->∀w∈ws.map cz,Sm w x z:=λz h1 h2 w hw=>by
  obtain⟨v,hv',rfl⟩:=Q9.1 hw;obtain⟨u,hu⟩:=(w1 v hv').2;have a1:=Ay hS h1;have a2:vv L y<=vv L z:=by
   rcases Classical.em (z=y)with e|e
   ·rw[e];exact Qm _
   ·exact Ay hS (by grind)
  exact KZ hS hu h1 (by omega)
 have hval:∀z,U8 p z=(Hp p:Rat)*ev (On (ws.map cz)) z:=λz=>by rw[p7,w2]
 refine⟨Ff (U8 p y),λh0=>?_,λz h1 h2=>?_⟩
 ·rw[hval,Sx]at h0;rcases Yh.1 h0 with h|h
  ·exact XH p6 (Gs.1 h)
  ·have:∀l:Us,(∀w∈l,Ff (ev w y)≠0)->Ff (ev (On l) y)≠0:=by
    intro l
    induction l with
    |nil=>intro _;simp only[On];rw[Tf];decide
    |
     cons w l ih =>
     intro h;simp only[On];rw[Fg,Sx];exact Jf (h w (Qy ..)) (ih λv hv=>h v (Qg _ hv))
   refine this _ (λw hw=>?_) h;have hs:=key y hxy Qq w hw;rw[hs.s];exact hs.n
 ·rw[hval,hval,Sx,Sx,rX (y:=y) λw hw=>(key z h1 h2 w hw).s.trans (key y hxy Qq w hw).s.symm]
theorem Qu6{g p P:Uo}{c:Rat->Int}(hc:Cut c)(hg:Gc g p P):I2 (cz g) c↔I2 (cz p) c/\I2 (cz P) c:=by
 constructor
 ·intro h;obtain⟨u,hu⟩:=hg.da;obtain⟨v,hv⟩:=hg.db;exact⟨Ma hc hu h,Ma hc hv h⟩
 ·rintro⟨h1,h2⟩
  obtain⟨U,V,hcc⟩:=hg.c;have a1:I2 (G8 U (cz p)) c:=Ma hc (p:=cz p) (q:=U) (λt=>by rw[Fg];grind) h1;have a2:I2 (G8 V (cz P)) c:=Ma hc (p:=cz P) (q:=V) (λt=>by rw[Fg];grind) h2;exact NR (λt=>by rw[U9,hcc,Fg,Fg,U9,U9]) a1 a2
theorem Qkx{p:Uo}(hp:Okp 9 1180 p){a:Tm}(ha:Va a):∃s,GW p a=some s/\SgT p a s:=by
 unfold GW;rw[if_neg hp.nz];have ca:=ha.cut;by_cases pa:a.point=true
 ·rw[if_pos pa];exact⟨_,rfl,Qwd ca (x:=a.lo) (by rw[cZ ha pa,Ew])⟩
 rw[if_neg pa];have pa:a.point=false:=by simpa using pa
 obtain⟨L,V⟩:=ha.iv pa;have eqa:∀q,Fo a q=cq (cz a.p) a.lo a.hi q:=Cg V.l;obtain⟨g,g1,g2,g3,g4⟩:=Qhz Qzh hp.t ha.tr hp.l ha.n (U5 hp.b (by omega)) (ha.bi pa) hp.nz;obtain⟨u',hu'⟩:=g2.db;have hhas:=V.has hu' (a:=a.lo) (b:=a.hi) Qq V.l Qq;have hvan:=Qu6 ca g2;rw[show cq (cz a.p) a.lo a.hi=Fo a from(funext eqa).symm]at hhas;rw[g1];show ∃s,(if 1<g.length/\UI g a.lo a.hi=true then some 0 else _)=some s/\_;by_cases hh:UI g a.lo a.hi=true
 ·have hq:=(UO g _ _).1 hh;rw[if_pos ⟨fW g2.t g2.n hq,hh⟩];exact⟨0,rfl,.inl ⟨rfl,(hvan.1 (hhas.1 hq).1).1⟩⟩
 ·rw[if_neg λh=>hh h.2];have hnv:¬I2 (cz p) (Fo a):=λh=>hh ((UO g _ _).2 (hhas.2 ⟨hvan.2 ⟨h,ha.van⟩,by rw[eqa];exact Ae Qq,by rw[eqa];exact V.hi1⟩))
  rcases JD ca (cz p)with h|⟨s,AH,hnz⟩
  ·exact absurd h hnv
  obtain⟨q,o,q1,q2,hpt⟩:=Qje hp;obtain⟨q',l,r1,r2,hS,hl0⟩:=chain_ok hp;rw[q1]at r1;injection r1 with r1;subst r1;rw[r2];show ∃s,((sgF (q::l) (64+2*(Fc a.lo.num+Fc a.hi.num)+4*(a.p.length+p.length)*(Hb a.p+Hb p+(a.p.length+p.length)+8)) a).bind λx=>some (Re p x.hi))=some s/\_;obtain⟨w,hw⟩:=nmE (Fc a.lo.num+Fc a.hi.num);obtain⟨K,hK⟩:=nmE (Hb a.p+Hb p+(a.p.length+p.length)+8);obtain⟨n,hn⟩:=nmE (a.p.length+p.length);rw[<-hw,<-hK,<-hn];obtain⟨gg,sq⟩:=hpt.sq;obtain⟨_,_,_,_,_,pf0,pfe⟩:=Cu hp.t hp.nz;have hpq:ZB (cz q) (cz p):=⟨D5 (Hp p) (cz gg),λt=>by rw[U9,U9,Gt,U9,pfe,sq.e];grind⟩;obtain⟨D,M,k,h1,h2,h3⟩:=ha.hv0;rw[yQ pa]at h3;have b1:=(ha.qsn pa).1.1;have b2:=(ha.qsn pa).2.1;have l1:=ha.n;have l2:=hp.l;have l3:=ha.n2;have s1:=O1 (ha.bi pa);have s2:=O1 hp.b;have hst:4*n*K<=4*18*2466:=Zd (by omega) (by omega);have hend:∃u k',sgF (q::l) (64+2*w+4*n*K) a=some u/\Hv a D M k' u/\(u.point=true\/Tq (q::l) u.lo u.hi=0):=by
   by_cases hpl:p.length<2
   ·have hq1:(Fh p)=[1]:=hp.pr.1.one (by have:=hp.pr.2.1;omega);have hql:q.length<2:=by
     have e:=sq.e;rw[hq1]at e;obtain⟨p1,p2⟩:=Ti (c:=[1]) rfl (by simp) e;have:=Mv sq.pg.t sq.pq.t (c:=[1]) rfl e p1 p2;simp at this;omega
    have hbt:Tq (q::l) a.lo a.hi=0:=by
     rw[QX (Qt V.l),hl0 hql,sq.pq.one hql];have hv1:∀x:Rat,ev (cz [1]) x=1:=λx=>by rw[U9,Nz]
     simp only[Zz,X7,vv,tc,hv1];omega
    refine⟨a,k,?_,h1,.inr hbt⟩;obtain⟨m,hm⟩:∃m,64+2*w+4*n*K=m+1:=⟨63+2*w+4*n*K,by omega⟩;rw[hm];simp only[sgF];rw[if_pos (.inr hbt)]
   ·have hg:T0 a.p p=K*(2*(n-2)-1):=by unfold T0;rw[hK,hn]
    have hgle:T0 a.p p+5*K<=2*n*K:=by
     rw[hg,Zq K,<-X4];exact Q0 _ (by omega)
    have hKp:8<=K:=by omega
    have hnK:2*n*K<=4*n*K:=Q0 _ (by omega);obtain⟨u,k',u1,u2,u3⟩:=Qkq hp.t hp.l (by omega) hS hpq ha hnz h2 (64+2*w+4*n*K) (2+w+2*n*K) a k ((2^(w+1):Nat):Rat) (by omega) h1 (by omega) (TB (by omega)) (by
     have e:(2^(w+1))*(2^(T0 a.p p+1))<=2^(2+w+2*n*K):=by
      rw[<-Xg];exact Zs (by decide) (by omega)
     have:=Zm.2 e
     push_cast at this ⊢
     exact this)
    exact⟨u,k',u1,u2,u3⟩
  obtain⟨u,k',u1,u2,u3⟩:=hend;rw[u1];refine⟨_,rfl,.inr ?_⟩;have hfin:Re p u.hi=s:=by
   rcases u2.hi' with hz|hz
   ·have:=gG ca hz hnz;rw[Np,<-U9];exact this
   ·rcases u2.i with⟨e,_⟩|⟨L',V'⟩
    ·have:=u2.c u.hi;rw[Ib e,e,Ew]at this;omega
    ·have hup:u.point=false:=by
      have:¬u.point=true:=λh=>by have:=Mx.1 h;have:=V'.l;grind
      simpa using this
     rcases u3 with h|h
     ·rw[hup]at h;cases h
     ·rw[QX (Qt V'.l)]at h;obtain⟨s',hs',hps⟩:=Qc7 hpt hp.t hp.nz hS V'.l (by omega);obtain⟨d,dp,x,y,hx,hy,hq⟩:=hnz;have hlo1:Fo a u.lo=1:=by
       rcases u2.lo' with h|⟨_,h⟩
       ·exact h
       ·have:=V'.l;clear hps hq;grind
      obtain⟨m,m1,m2,m3⟩:=CZ ca hlo1 hx;have e1:=(hq m (Qt m3) (Qt (ca.lt m1 hy))).1;have e2:=hps m m2 (Qt (ca.lt m1 hz));have e3:=hps u.hi V'.l Qq;rw[Np,e3,<-e2,<-U9,e1]
  rw[hfin];exact⟨AH,hnz⟩
structure Dp(p:List Int):Prop where
 t:Fe p
 l:p.length<=9
 b:Bd (1130+4*(9-p.length)) p
theorem iO:Szz 9 1253:=⟨by decide,by decide⟩
theorem Dp.ok{p:Uo}(h:Dp p)(h0:p.length≠0):Okp 9 1180 p:=⟨iO,h.t,h0,h.l,U5 h.b (by omega)⟩
theorem Dp.der{p:Uo}(h:Dp p):Dp (Gy p):=by
 have hl:=Nk p;have hl2:=h.l;refine⟨Fy _ _,by omega,?_⟩;by_cases h0:p.length=0
 ·rw[Qj (l:=Gy p) (by omega)];exact ZL
 ·exact U5 (pW h.b (by omega)) (by omega)
def Fq(a:Tm)(p:Uo):Int:=(GW p a).getD 0
theorem Qko{p:Uo}(h:Dp p){a:Tm}(ha:Va a):GW p a=some (Fq a p)/\SgT p a (Fq a p):=by
 by_cases h0:p.length=0
 ·have e:p=[]:=Qj h0;subst e;refine⟨rfl,.inl ⟨rfl,λd dp=>?_⟩⟩;obtain⟨x,y,h1,h2,_⟩:=ha.cut.near (e:=1) (by decide);exact⟨x,y,h1,h2,λq _ _=>by simp only[cz,X7,ev,Rl];exact dp⟩
 ·obtain⟨s,h1,h2⟩:=Qkx (h.ok h0) ha;have e:Fq a p=s:=by unfold Fq;rw[h1];rfl
  rw[e];exact⟨h1,h2⟩
theorem Qwa{c:Rat->Int}{p q:Ur}{s:Int}(h:∀t,ev p t=ev q t)(hp:RS p c s):RS q c s:=by
 obtain⟨y,h1,h2⟩:=hp;exact⟨y,h1,λz h3 h4=>by rw[<-h];exact h2 z h3 h4⟩
theorem qQ{a:Tm}(ha:Va a):∀(k:Nat) (p:Uo),Dp p->p.length<=k->p.length≠0->RS (cz p) (Fo a) (Tw (Fq a) k p)/\Tw (Fq a) k p≠0
 | 0,p,_,h1,h2=>by omega
 |
  k+1,p,h,h1,h2=>by
  simp only[Tw];rw[if_neg h2];obtain⟨_,hs⟩:=Qko h ha;rcases hs with⟨e,hv⟩|⟨e,hn⟩
  ·rw[if_pos e];have hdn:(Gy p).length≠0:=λh0=>by
    by_cases h3:p.length=1
    ·obtain⟨c,rfl⟩:∃c,p=[c]:=Kr.1 h3;have hc:c≠0:=by have:=H9 h.t (by simp);simpa using this
     obtain⟨q,hq,_⟩:=gU ha.cut (hv (Fi (c:Rat)) (Cw (XH hc)));rw[U9]at hq;have:U8 [c] q=(c:Rat):=by simp only[U8];grind
     rw[this]at hq;grind
    ·have h4:=By p (p.length-2);rw[Qj h0,show p.length-2+1=p.length-1 by omega]at h4;have h5:p.getD (p.length-1) 0≠0:=H9 h.t (by omega);rcases Yh.1 (h4.symm.trans (by simp))with h6|h6
     ·exact h5 h6
     ·omega
   have hl:=Nk p;obtain⟨i1,i2⟩:=qQ ha k (Gy p) h.der (by omega) hdn;exact⟨vU ha.cut hv (Qwa (λt=>by rw[U9,Oq,Tr]) i1) i2,i2⟩
  ·rw[if_neg e];exact⟨zU ha.cut hn,e⟩
theorem Ej{a:Tm}(ha:Va a){p:Uo}(h:Dp p)(h0:p.length≠0):RS (cz p) (Fo a) (Hl (Fq a) p)/\Hl (Fq a) p≠0:=qQ ha _ p h (Qm _) h0
theorem XU{a:Tm}:Hl (Fq a) []=0:=rfl
theorem Qo8{l:Uo}:∀z∈l,z.natAbs≤most l:=by
 have key:∀(l:Uo) (m:Nat),m≤l.foldl (λm z=>if m<z.natAbs then z.natAbs else m) m/\∀z∈l,z.natAbs≤l.foldl (λm z=>if m<z.natAbs then z.natAbs else m) m:=by
  intro l
  induction l with
  |nil=>exact λm=>⟨Qm _,λz hz=>by cases hz⟩
  |
   cons y l ih =>
   intro m;obtain⟨e,he⟩:=nmE (if m<y.natAbs then y.natAbs else m);have h1:m<=e/\y.natAbs<=e:=by rw[he];split <;> omega
   obtain⟨i1,i2⟩:=ih e;simp only[Z5];rw[<-he];refine⟨by omega,λz hz=>?_⟩;rcases Ql.1 hz with rfl|hz
   ·omega
   ·exact i2 z hz
 exact(key l 0).2
theorem BZ{p:Uo}(h:Fp p≠0):Gz p*((Fp p).natAbs:Rat)=((Fp p).natAbs:Rat)+((most (p.take (p.length-1)):Nat):Rat):=by
 unfold Gz;rw[<-Ra];have hp:0<(Fp p).natAbs:=by omega
 have:=nat_pos hp;rw[show((((Fp p).natAbs:Int)):Rat)=((Fp p).natAbs:Rat) from rfl,Hf this];rw[Kc];rfl
theorem aT{m:Nat}{x:Rat}(hx:1≤Fi x):∀(p:Uo) (lp:p.length≠0),(∀z∈p.take (p.length-1),z.natAbs≤m)->Fp p≠0->(m:Rat)≤(Fi x-1)*((Fp p).natAbs:Rat)->((Fp p).natAbs:Rat)≤U8 p x*(((Int.sign (Fp p))*(if x<0/\p.length % 2=0 then -1 else 1):Int):Rat)
 | [],lp,_,_,_=>absurd rfl lp
 |
  [c],_,_,hc,_=>by
  have hl:Fp [c]=c:=rfl;rw[hl]at hc ⊢;rw[if_neg (by simp),Ud];have h1:U8 [c] x=(c:Rat):=by simp only[U8];grind
  rw[h1];have h2:c*Int.sign c=(c.natAbs:Int):=Int.mul_sign_self c;have:=congrArg (λz:Int=>(z:Rat)) h2;rw[X1]at this;rw[this];exact Qq
 |
  c::d::p,_,hm,hc,hb=>by
  have hl:Fp (c::d::p)=Fp (d::p):=by unfold Fp;simp[List.getD_cons_succ]
  have ih:=aT hx (d::p) (by simp) (λz hz=>hm z (by
   have e:(c::d::p).take ((c::d::p).length-1)=c::(d::p).take ((d::p).length-1):=by simp
   rw[e];exact Qg _ hz)) (by rw[<-hl];exact hc) (by rw[<-hl];exact hb)
  rw[hl]at hc hb ⊢;have hcm:=hm c (by simp);obtain⟨s,hs⟩:∃s:Int,s=Int.sign (Fp (d::p)):=⟨_,rfl⟩;have hsv:s=1\/s=-1:=by
   rw[hs];rcases Ke hc with h|h
   ·exact .inr (Ya h)
   ·exact .inl (Yv h)
  rw[<-hs]at ih ⊢;obtain⟨ld,hld⟩:∃ld:Rat,ld=((Fp (d::p)).natAbs:Rat):=⟨_,rfl⟩;rw[<-hld]at ih hb ⊢;have hcq:Fi (c:Rat)<=(m:Rat):=by rw[S4];exact Zm.2 hcm
  rw[Mj]at hcq;have e1:U8 (c::d::p) x=(c:Rat)+x*U8 (d::p) x:=rfl;rw[e1];have hlen:(c::d::p).length % 2=0↔¬(d::p).length % 2=0:=by simp only[Q5];omega
  generalize U8 (d::p) x=y at *;generalize (m:Rat)=mm at *;generalize (c:Rat)=cc at *;have hx0:=hx;by_cases hneg:x<0
  ·have hq:Fi x=-x:=by unfold Fi;rw[if_pos hneg]
   rw[hq]at hx0 hb;by_cases hpar:(d::p).length % 2=0
   ·rw[if_pos ⟨hneg,hpar⟩]at ih;rw[if_neg λh=>(hlen.1 h.2) hpar];rcases hsv with rfl|rfl
    ·have ih:ld<=y*(-1):=by simpa using ih
     have:=Z0 ih (show 0<=-x by grind);have e:(((1:Int)*1:Int):Rat)=1:=rfl;rw[e];grind
    ·have ih:ld<=y*1:=by simpa using ih
     have:=Z0 ih (show 0<=-x by grind);have e:(((-1:Int)*1:Int):Rat)=-1:=rfl;rw[e];grind
   ·rw[if_neg λh=>hpar h.2]at ih;rw[if_pos ⟨hneg,hlen.2 hpar⟩];rcases hsv with rfl|rfl
    ·have ih:ld<=y*1:=by simpa using ih
     have:=Z0 ih (show 0<=-x by grind);have e:(((1:Int)*-1:Int):Rat)=-1:=rfl;rw[e];grind
    ·have ih:ld<=y*(-1):=by simpa using ih
     have:=Z0 ih (show 0<=-x by grind);have e:(((-1:Int)*-1:Int):Rat)=1:=rfl;rw[e];grind
  ·have hq:Fi x=x:=by unfold Fi;rw[if_neg hneg]
   rw[hq]at hx0 hb;rw[if_neg λh=>hneg h.1]at ih ⊢;rcases hsv with rfl|rfl
   ·have ih:ld<=y*1:=by simpa using ih
    have:=Z0 ih (show 0<=x by grind);have e:(((1:Int)*1:Int):Rat)=1:=rfl;rw[e];grind
   ·have ih:ld<=y*(-1):=by simpa using ih
    have:=Z0 ih (show 0<=x by grind);have e:(((-1:Int)*1:Int):Rat)=-1:=rfl;rw[e];grind
theorem pH{p:Uo}(tp:Fe p)(lp:p.length≠0){x:Rat}(hx:Gz p<=Fi x):1<=Fi (U8 p x)/\(0<=x->Re p x=UC p)/\(x<0->Re p x=ZT p):=by
 have hl:=Ek tp lp;have hpos:0<(Fp p).natAbs:=by omega
 have h1:(1:Rat)<=((Fp p).natAbs:Rat):=by
  have:((1:Nat):Rat)<=((Fp p).natAbs:Rat):=Zm.2 hpos;exact this
 have hm0:(0:Rat)<=((most (p.take (p.length-1)):Nat):Rat):=Xj;have hb:=BZ hl;have hx1:=Zf hx (show(0:Rat)<=((Fp p).natAbs:Rat) by grind);have hx2:1<=Fi x:=by
  rcases Gg 1 (Fi x)with h|h
  ·exact h
  ·exfalso;have:=Vz h (show(0:Rat)<((Fp p).natAbs:Rat) by grind);grind
 have key:=aT (m:=most (p.take (p.length-1))) hx2 p lp (λz hz=>Qo8 z hz) hl (by grind);obtain⟨s,hs⟩:∃s:Int,s=Int.sign (Fp p)*(if x<0/\p.length % 2=0 then -1 else 1):=⟨_,rfl⟩;rw[<-hs]at key;have hsv:s=1\/s=-1:=by
  rw[hs];rcases Ke hl with h|h
  ·rw[Ya h];split <;> simp
  ·rw[Yv h];split <;> simp
 have hsg:Re p x=s/\1<=Fi (U8 p x):=by
  rw[Np];rcases hsv with e|e
  ·rw[e]at key ⊢;have key:((Fp p).natAbs:Rat)<=U8 p x:=by simpa using key
   exact⟨Hy.2 (by grind),by unfold Fi;rw[if_neg (by grind)];grind⟩
  ·rw[e]at key ⊢;have key:((Fp p).natAbs:Rat)<=U8 p x*(-1):=by simpa using key
   exact⟨Pf.2 (by grind),by unfold Fi;rw[if_pos (by grind)];grind⟩
 refine⟨hsg.2,λh=>?_,λh=>?_⟩
 ·rw[hsg.1,hs,if_neg λh'=>by have:=h'.1;grind];unfold UC;omega
 ·rw[hsg.1,hs];unfold ZT;by_cases he:p.length % 2=0
  ·rw[if_pos ⟨h,he⟩,if_pos he];omega
  ·rw[if_neg λh'=>he h'.2,if_neg he];omega
theorem JB{f g:Uo->Int}:∀{l:Up} (s:Nat×Int),(∀p∈l,f p=g p)->l.foldl (Pw f) s=l.foldl (Pw g) s
 | [],s,_=>rfl
 |
  p::l,s,h=>by
  simp only[Z5];have e:Pw f s p=Pw g s p:=by unfold Pw;rw[h p (List.mem_cons_self ..)]
  rw[e];exact JB _ λq hq=>h q (Qg _ hq)
theorem aU:∀(l:Up),(∀p∈l,Fe p/\p.length≠0)->∃X:Rat,0<X/\∀x,X≤x->(∀p∈l,Re p x=UC p)/\∀p∈l,Re p (-x)=ZT p
 | [],_=>⟨1,by decide,λx _=>⟨(λp hp=>by cases hp),(λp hp=>by cases hp)⟩⟩
 |
  p::l,h=>by
  obtain⟨X,hX,hl⟩:=aU l λq hq=>h q (Qg _ hq)
  obtain⟨tp,lp⟩:=h p (Qy ..);refine⟨X+Fi (Gz p),by have:=Hw (Gz p);grind,λx hx=>?_⟩;have hb0:=Hw (Gz p);have hb1:Gz p<=Fi (Gz p):=by unfold Fi;split <;> grind
  obtain⟨l1,l2⟩:=hl x (by grind);have e1:Fi x=x:=by unfold Fi;rw[if_neg (by grind)]
  have e2:Fi (-x)=x:=by rw[Er,e1]
  refine⟨λq hq=>?_,λq hq=>?_⟩
  ·rcases Ql.1 hq with rfl|hq
   ·exact(pH tp lp (x:=x) (by rw[e1];grind)).2.1 (by grind)
   ·exact l1 q hq
  ·rcases Ql.1 hq with rfl|hq
   ·exact(pH tp lp (x:=-x) (by rw[e2];grind)).2.2 (by grind)
   ·exact l2 q hq
theorem dR{q:Uo}{L:Us}(hS:GO (cz q) L)(tq:Fe q)(lq:q.length≠0){x y:Rat}(hxy:x<y)(h:Gz q<=x\/y<=-Gz q)(hb:0<Gz q):vv L x=vv L y:=by
 rcases Classical.em (vv L x=vv L y)with e|e
 ·exact e
 ·exfalso;obtain⟨r,r1,r2,r3⟩:=vD hS hxy e (d:=1) (by decide);have:=(pH tq lq (x:=r) (by rcases h with h|h <;> (unfold Fi;split <;> grind))).1;rw[U9]at r3;grind
theorem HV{p:Uo}(h:Fp p≠0):1<=Gz p:=by
 have hb:=BZ h;have hp:=nat_pos (show 0<(Fp p).natAbs by omega);have hm0:(0:Rat)<=((most (p.take (p.length-1)):Nat):Rat):=Xj;rcases Gg 1 (Gz p)with h'|h'
 ·exact h'
 ·have:=Vz h' hp;grind
theorem Qdg{q:Uo}{l:Up}(hS:GO (cz q) ((q::l).map cz))(hl:∀p∈q::l,Fe p/\p.length≠0):WR (q::l)=(vv ((q::l).map cz) (-Gz q):Int)-(vv ((q::l).map cz) (Gz q):Int):=by
 obtain⟨tq,lq⟩:=hl q (Qy ..);have hb:=HV (Ek tq lq);obtain⟨X,hX,hx⟩:=aU (q::l) hl;obtain⟨h1,h2⟩:=hx (X+Gz q) (by grind);have e1:C5 UC (q::l)=vv ((q::l).map cz) (X+Gz q):=by
  rw[<-ZY];unfold C6 C5;rw[JB (f:=UC) (g:=λp=>Re p (X+Gz q)) (0,0) λp hp=>(h1 p hp).symm]
 have e2:C5 ZT (q::l)=vv ((q::l).map cz) (-(X+Gz q)):=by
  rw[<-ZY];unfold C6 C5;rw[JB (f:=ZT) (g:=λp=>Re p (-(X+Gz q))) (0,0) λp hp=>(h2 p hp).symm]
 unfold WR;rw[e1,e2,dR hS tq lq (x:=-(X+Gz q)) (y:=-Gz q) (by grind) (.inr Qq) (by grind),<-dR hS tq lq (x:=Gz q) (y:=X+Gz q) (by grind) (.inl Qq) (by grind)]
theorem Qvm{f:Ur}{L:Us}(hS:GO f L){x y:Rat}(hxy:x<y)(hv:vv L y+2<=vv L x):∃m,x<m/\m<y/\vv L m<vv L x/\vv L y<vv L m/\ev f m≠0:=by
 obtain⟨R,hR,hx,hy⟩:=xX x y;obtain⟨e,ep,he⟩:=Qlk hS R hR;have key:∀n:Nat,∀x,Fi x<=R->x<y->vv L y+2<=vv L x->y-x<=(n:Rat)*e->∃m,x<m/\m<y/\vv L m<vv L x/\vv L y<vv L m:=by
  intro n
  induction n with
  |zero=>intro x _ hxy _ hn;rw[show((0:Nat):Rat)=0 from rfl]at hn;exfalso;clear he;grind
  |
   succ n ih =>
   intro x hx hxy hv hn;have hn':(((n+1:Nat):Rat))=(n:Rat)+1:=by push_cast;rfl
   rw[hn']at hn;rcases Gg (y-x) e with h1|h1
   ·have:=he x y hx hy hxy h1;omega
   ·have hm:Fi (x+e)<=R:=FQ hx hy (by clear he ih;grind) (by clear he ih;grind);have h2:=he x (x+e) hx hm (by clear he ih;grind) (by clear he ih;grind);have h3:=Ay hS (show x<x+e by clear he ih;grind);by_cases h4:vv L x=vv L (x+e)
    ·obtain⟨m,m1,m2,m3,m4⟩:=ih (x+e) hm (by clear he ih;grind) (by omega) (by clear he ih;grind);exact⟨m,by clear he ih;grind,m2,by omega,m4⟩
    ·exact⟨x+e,by clear he ih;grind,by clear he ih;grind,by omega,by omega⟩
 obtain⟨n,hn⟩:=ZD (z:=y-x) ep;obtain⟨m,m1,m2,m3,m4⟩:=key n x hx hxy hv hn;rcases Classical.em (ev f m=0)with h0|h0
 ·-- a little farther on
  obtain⟨e2,e2p,hl⟩:=loc hR hS (w:=f) (u:=[1]) (λt=>by rw[Tf];grind);obtain⟨d,dp,d1,d2⟩:=min2 (a:=e2) (b:=(y-m) / 2) e2p (Af (by clear he key hl;grind) (by decide));have h2:(y-m) / 2*2=y-m:=Hf (by decide);have hmR:Fi m<=R:=FQ hx hy (Qt m1) (Qt m2);have hmR2:Fi (m+d)<=R:=FQ hx hy (by clear he key hl;grind) (by clear he key hl;grind);rcases hl m (m+d) hmR hmR2 (by clear he key hl;grind) (by clear he key hl;grind)with⟨p1,p2,_⟩|⟨_,p1,_,p3,_⟩
  ·refine⟨m+d,by clear he key hl;grind,by clear he key hl;grind,by omega,by omega,λh'=>?_⟩;have:=p2.s;rw[Gs.2 h']at this;exact p2.n this.symm
  ·rw[Gs.2 h0]at p3;exact absurd p3.symm p1
 ·exact⟨m,m1,m2,m3,m4,h0⟩
theorem Qq3{q:Uo}{L:Us}(hS:GO (cz q) L)(tq:Fe q)(nq:q.length<=9)(lq:2<=q.length){lo hi:Rat}(hl:lo<hi)(hv:vv L hi+2<=vv L lo):1<(hi-lo)*((2^(T0 q q+1):Nat):Rat):=by
 rcases Gg ((hi-lo)*((2^(T0 q q+1):Nat):Rat)) 1 with hw|hw
 ·exfalso;have hpow:(0:Rat)<=((2^(T0 q q+1):Nat):Rat):=Xj;obtain⟨m,m1,m2,m3,m4,m0⟩:=Qvm hS hl hv;obtain⟨R,hR,r1,r2⟩:=xX lo hi;have hd:=Cw m0;obtain⟨d,dp,_,db⟩:=Hj (b:=AD R (cz q)) (d:=Fi (ev (cz q) m) / 2) (M7 hR _) (Af hd (by decide));have hd2:Fi (ev (cz q) m) / 2*2=Fi (ev (cz q) m):=Hf (by decide);have hmR:Fi m<=R:=FQ r1 r2 (Qt m1) (Qt m2);have hnear:∀r,Fi r<=R->Fi (ev (cz q) r)<Fi (ev (cz q) m) / 2->d<Fi (r-m):=λr hr hs=>by
   rcases Gg (Fi (r-m)) d with h|h
   ·exfalso;have h1:=Me (p:=cz q) hmR hr hR h db;have h2:=Su (ev (cz q) m-ev (cz q) r) (ev (cz q) r);rw[show ev (cz q) m-ev (cz q) r+ev (cz q) r=ev (cz q) m by grind,oO]at h2;grind
   ·exact h
  refine Qhq (R:=R+1) (d:=d+d) tq tq nq nq lq lq (by grind) (by grind) λe ep=>?_
  obtain⟨e',ep',e1,e2⟩:=min2 (a:=e) (b:=Fi (ev (cz q) m) / 2) ep (Af hd (by decide));obtain⟨x,x1,x2,x3⟩:=vD hS m1 (by omega) ep';obtain⟨y,y1,y2,y3⟩:=vD hS m2 (by omega) ep';have hxR:Fi x<=R:=FQ r1 r2 x1 (by grind);have hyR:Fi y<=R:=FQ r1 r2 (by grind) y2;have nx:=hnear x hxR (by grind);have ny:=hnear y hyR (by grind);have ex:Fi (x-m)=m-x:=by unfold Fi;split <;> grind
  have ey:Fi (y-m)=y-m:=by unfold Fi;split <;> grind
  rw[ex]at nx;rw[ey]at ny;have exy:Fi (x-y)=y-x:=by unfold Fi;split <;> grind
  refine⟨x,y,by grind,by grind,by rw[exy];grind,?_,by rw[<-U9];grind,by rw[<-U9];grind⟩;rw[exy];exact Zl (Zf (show y-x<=hi-lo by grind) hpow) hw
 ·exact hw
end Orq
