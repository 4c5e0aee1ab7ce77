/- T23 T24 ZB DigL R1 R3 R2 R4 F4 F5 T25 G1 G2 SortL KinL K1 K2 F6 F7 F8 F9 G3 G4 K3 K4 S1 S2 S3 R5 -/
import Derived.Test.YtdcbpgmmopdelaaGreatPart06
import Derived.Test.YtdcbpgmmopdelaaGreatPart00
import Derived.Test.YtdcbpgmmopdelaaGreatPart04
import Derived.Test.YtdcbpgmmopdelaaGreatPart05
set_option linter.all false
namespace Orq
open Orr Go
structure Dp(p:List Int):Prop where
 t:Uz p
 l:p.length<=9
 b:Bd (1130+4*(9-p.length)) p
theorem PH:aX 9 1253:=⟨by decide,by decide⟩
theorem Dp.ok{p:Um}(h:Dp p)(h0:p.length≠0):Okp 9 1180 p:=⟨PH,h.t,h0,h.l,Uv h.b (by omega)⟩
theorem Dp.der{p:Um}(h:Dp p):Dp (Fv p):=by
 have hl:=Tq p;have hl2:=h.l;refine⟨U7 _ _,by omega,?_⟩;by_cases h0:p.length=0
 ·rw[Qh (l:=Fv p) (by omega)];exact QI
 ·exact Uv (FK h.b (by omega)) (by omega)
def Rh(a:Tm)(p:Um):Int:=(YO p a).getD 0
theorem mV{p:Um}(h:Dp p){a:Tm}(ha:Va a):YO p a=some (Rh a p)/\SgT p a (Rh a p):=by
 by_cases h0:p.length=0
 ·have e:p=[]:=Qh h0;subst e;refine⟨rfl,.inl ⟨rfl,λd dp=>?_⟩⟩;obtain⟨x,y,h1,h2,_⟩:=ha.cut.near (e:=1) (by decide);exact⟨x,y,h1,h2,λq _ _=>by simp only[cz,Ja,ev,Rp];exact dp⟩
 ·obtain⟨s,h1,h2⟩:=Qg5 (h.ok h0) ha;have e:Rh a p=s:=by unfold Rh;rw[h1];rfl
  rw[e];exact⟨h1,h2⟩
theorem Qqd{c:Rat->Int}{p q:Up}{s:Int}(h:∀t,ev p t=ev q t)(hp:RS p c s):RS q c s:=by
 obtain⟨y,h1,h2⟩:=hp;exact⟨y,h1,λz h3 h4=>by rw[<-h];exact h2 z h3 h4⟩
theorem AB{a:Tm}(ha:Va a):∀(k:Nat) (p:Um),Dp p->p.length<=k->p.length≠0->RS (cz p) (Gb a) (Tf (Rh a) k p)/\Tf (Rh a) k p≠0
 | 0,p,_,h1,h2=>by omega
 |
  k+1,p,h,h1,h2=>by
  simp only[Tf];rw[if_neg h2];obtain⟨_,hs⟩:=mV h ha;rcases hs with⟨e,hv⟩|⟨e,hn⟩
  ·rw[if_pos e];have hdn:(Fv p).length≠0:=λh0=>by
    by_cases h3:p.length=1
    ·obtain⟨c,rfl⟩:∃c,p=[c]:=Jv.1 h3;have hc:c≠0:=by have:=Hk h.t (by simp);simpa using this
     obtain⟨q,hq,_⟩:=CZ ha.cut (hv (Fe (c:Rat)) (Cj (A0 hc)));rw[Uy]at hq;have:Ux [c] q=(c:Rat):=by simp only[Ux];grind
     rw[this]at hq;grind
    ·have h4:=Pa p (p.length-2);rw[Qh h0,show p.length-2+1=p.length-1 by omega]at h4;have h5:p.getD (p.length-1) 0≠0:=Hk h.t (by omega);rcases Jy.1 (h4.symm.trans (by simp))with h6|h6
     ·exact h5 h6
     ·omega
   have hl:=Tq p;obtain⟨i1,i2⟩:=AB ha k (Fv p) h.der (by omega) hdn;exact⟨jF ha.cut hv (Qqd (λt=>by rw[Uy,Ni,Rl]) i1) i2,i2⟩
  ·rw[if_neg e];exact⟨OY ha.cut hn,e⟩
theorem dY{a:Tm}(ha:Va a){p:Um}(h:Dp p)(h0:p.length≠0):RS (cz p) (Gb a) (Gl (Rh a) p)/\Gl (Rh a) p≠0:=AB ha _ p h (Qj _) h0
theorem Qkn{l:Um}:∀z∈l,z.natAbs≤most l:=by
 have key:∀(l:Um) (m:Nat),m≤l.foldl (λm z=>if m<z.natAbs then z.natAbs else m) m/\∀z∈l,z.natAbs≤l.foldl (λm z=>if m<z.natAbs then z.natAbs else m) m:=by
  intro l
  induction l with
  |nil=>exact λm=>⟨Qj _,λz hz=>by cases hz⟩
  |
   cons y l ih =>
   intro m;obtain⟨e,he⟩:=nmE (if m<y.natAbs then y.natAbs else m);have h1:m<=e/\y.natAbs<=e:=by rw[he];split <;> omega
   obtain⟨i1,i2⟩:=ih e;simp only[Xl];rw[<-he];refine⟨by omega,λz hz=>?_⟩;rcases Qt.1 hz with rfl|hz
   ·omega
   ·exact i2 z hz
 exact(key l 0).2
theorem QO{p:Um}(h:U8 p≠0):Ge p*((U8 p).natAbs:Rat)=((U8 p).natAbs:Rat)+((most (p.take (p.length-1)):Nat):Rat):=by
 unfold Ge;rw[<-Hp];have hp:0<(U8 p).natAbs:=by omega
 have:=nat_pos hp;rw[show((((U8 p).natAbs:Int)):Rat)=((U8 p).natAbs:Rat) from rfl,Gd this];rw[Kg];rfl
theorem dZ{m:Nat}{x:Rat}(hx:1≤Fe x):∀(p:Um) (lp:p.length≠0),(∀z∈p.take (p.length-1),z.natAbs≤m)->U8 p≠0->(m:Rat)≤(Fe x-1)*((U8 p).natAbs:Rat)->((U8 p).natAbs:Rat)≤Ux p x*(((Int.sign (U8 p))*(if x<0/\p.length % 2=0 then -1 else 1):Int):Rat)
 | [],lp,_,_,_=>absurd rfl lp
 |
  [c],_,_,hc,_=>by
  have hl:U8 [c]=c:=rfl;rw[hl]at hc ⊢;rw[if_neg (by simp),Wm];have h1:Ux [c] x=(c:Rat):=by simp only[Ux];grind
  rw[h1];have h2:c*Int.sign c=(c.natAbs:Int):=Int.mul_sign_self c;have:=congrArg (λz:Int=>(z:Rat)) h2;rw[X3]at this;rw[this];exact Qk
 |
  c::d::p,_,hm,hc,hb=>by
  have hl:U8 (c::d::p)=U8 (d::p):=by unfold U8;simp[List.getD_cons_succ]
  have ih:=dZ hx (d::p) (by simp) (λz hz=>hm z (by
   have e:(c::d::p).take ((c::d::p).length-1)=c::(d::p).take ((d::p).length-1):=by simp
   rw[e];exact Qp _ hz)) (by rw[<-hl];exact hc) (by rw[<-hl];exact hb)
  rw[hl]at hc hb ⊢;have hcm:=hm c (by simp);obtain⟨s,hs⟩:∃s:Int,s=Int.sign (U8 (d::p)):=⟨_,rfl⟩;have hsv:s=1\/s=-1:=by
   rw[hs];rcases Kh hc with h|h
   ·exact .inr (Jd h)
   ·exact .inl (Ju h)
  rw[<-hs]at ih ⊢;obtain⟨ld,hld⟩:∃ld:Rat,ld=((U8 (d::p)).natAbs:Rat):=⟨_,rfl⟩;rw[<-hld]at ih hb ⊢;have hcq:Fe (c:Rat)<=(m:Rat):=by rw[S0];exact Za.2 hcm
  rw[Sp]at hcq;have e1:Ux (c::d::p) x=(c:Rat)+x*Ux (d::p) x:=rfl;rw[e1];have hlen:(c::d::p).length % 2=0↔¬(d::p).length % 2=0:=by simp only[Zc];omega
  generalize Ux (d::p) x=y at *;generalize (m:Rat)=mm at *;generalize (c:Rat)=cc at *;have hx0:=hx;by_cases hneg:x<0
  ·have hq:Fe x=-x:=by unfold Fe;rw[if_pos hneg]
   rw[hq]at hx0 hb;by_cases hpar:(d::p).length % 2=0
   ·rw[if_pos ⟨hneg,hpar⟩]at ih;rw[if_neg λh=>(hlen.1 h.2) hpar];rcases hsv with rfl|rfl
    ·have ih:ld<=y*(-1):=by simpa using ih
     have:=Zq ih (show 0<=-x by grind);have e:(((1:Int)*1:Int):Rat)=1:=rfl;rw[e];grind
    ·have ih:ld<=y*1:=by simpa using ih
     have:=Zq ih (show 0<=-x by grind);have e:(((-1:Int)*1:Int):Rat)=-1:=rfl;rw[e];grind
   ·rw[if_neg λh=>hpar h.2]at ih;rw[if_pos ⟨hneg,hlen.2 hpar⟩];rcases hsv with rfl|rfl
    ·have ih:ld<=y*1:=by simpa using ih
     have:=Zq ih (show 0<=-x by grind);have e:(((1:Int)*-1:Int):Rat)=-1:=rfl;rw[e];grind
    ·have ih:ld<=y*(-1):=by simpa using ih
     have:=Zq ih (show 0<=-x by grind);have e:(((-1:Int)*-1:Int):Rat)=1:=rfl;rw[e];grind
  ·have hq:Fe x=x:=by unfold Fe;rw[if_neg hneg]
   rw[hq]at hx0 hb;rw[if_neg λh=>hneg h.1]at ih ⊢;rcases hsv with rfl|rfl
   ·have ih:ld<=y*1:=by simpa using ih
    have:=Zq ih (show 0<=x by grind);have e:(((1:Int)*1:Int):Rat)=1:=rfl;rw[e];grind
   ·have ih:ld<=y*(-1):=by simpa using ih
    have:=Zq ih (show 0<=x by grind);have e:(((-1:Int)*1:Int):Rat)=-1:=rfl;rw[e];grind
theorem gC{p:Um}(tp:Uz p)(lp:p.length≠0){x:Rat}(hx:Ge p<=Fe x):1<=Fe (Ux p x)/\(0<=x->Fy p x=iD p)/\(x<0->Fy p x=iC p):=by
 have hl:=B8 tp lp;have hpos:0<(U8 p).natAbs:=by omega
 have h1:(1:Rat)<=((U8 p).natAbs:Rat):=by
  have:((1:Nat):Rat)<=((U8 p).natAbs:Rat):=Za.2 hpos;exact this
 have hm0:(0:Rat)<=((most (p.take (p.length-1)):Nat):Rat):=Xg;have hb:=QO hl;have hx1:=Q4 hx (show(0:Rat)<=((U8 p).natAbs:Rat) by grind);have hx2:1<=Fe x:=by
  rcases Fz 1 (Fe x)with h|h
  ·exact h
  ·exfalso;have:=Jp h (show(0:Rat)<((U8 p).natAbs:Rat) by grind);grind
 have key:=dZ (m:=most (p.take (p.length-1))) hx2 p lp (λz hz=>Qkn z hz) hl (by grind);obtain⟨s,hs⟩:∃s:Int,s=Int.sign (U8 p)*(if x<0/\p.length % 2=0 then -1 else 1):=⟨_,rfl⟩;rw[<-hs]at key;have hsv:s=1\/s=-1:=by
  rw[hs];rcases Kh hl with h|h
  ·rw[Jd h];split <;> simp
  ·rw[Ju h];split <;> simp
 have hsg:Fy p x=s/\1<=Fe (Ux p x):=by
  rw[H7];rcases hsv with e|e
  ·rw[e]at key ⊢;have key:((U8 p).natAbs:Rat)<=Ux p x:=by simpa using key
   exact⟨Rq.2 (by grind),by unfold Fe;rw[if_neg (by grind)];grind⟩
  ·rw[e]at key ⊢;have key:((U8 p).natAbs:Rat)<=Ux p x*(-1):=by simpa using key
   exact⟨Pf.2 (by grind),by unfold Fe;rw[if_pos (by grind)];grind⟩
 refine⟨hsg.2,λh=>?_,λh=>?_⟩
 ·rw[hsg.1,hs,if_neg λh'=>by have:=h'.1;grind];unfold iD;omega
 ·rw[hsg.1,hs];unfold iC;by_cases he:p.length % 2=0
  ·rw[if_pos ⟨h,he⟩,if_pos he];omega
  ·rw[if_neg λh'=>he h'.2,if_neg he];omega
theorem XE{f g:Um->Int}:∀{l:Un} (s:Nat×Int),(∀p∈l,f p=g p)->l.foldl (Pg f) s=l.foldl (Pg g) s
 | [],s,_=>rfl
 |
  p::l,s,h=>by
  simp only[Xl];have e:Pg f s p=Pg g s p:=by unfold Pg;rw[h p (List.mem_cons_self ..)]
  rw[e];exact XE _ λq hq=>h q (Qp _ hq)
theorem cB:∀(l:Un),(∀p∈l,Uz p/\p.length≠0)->∃X:Rat,0<X/\∀x,X≤x->(∀p∈l,Fy p x=iD p)/\∀p∈l,Fy p (-x)=iC p
 | [],_=>⟨1,by decide,λx _=>⟨(λp hp=>by cases hp),(λp hp=>by cases hp)⟩⟩
 |
  p::l,h=>by
  obtain⟨X,hX,hl⟩:=cB l λq hq=>h q (Qp _ hq)
  obtain⟨tp,lp⟩:=h p (Q0 ..);refine⟨X+Fe (Ge p),by have:=Hw (Ge p);grind,λx hx=>?_⟩;have hb0:=Hw (Ge p);have hb1:Ge p<=Fe (Ge p):=by unfold Fe;split <;> grind
  obtain⟨l1,l2⟩:=hl x (by grind);have e1:Fe x=x:=by unfold Fe;rw[if_neg (by grind)]
  have e2:Fe (-x)=x:=by rw[Ln,e1]
  refine⟨λq hq=>?_,λq hq=>?_⟩
  ·rcases Qt.1 hq with rfl|hq
   ·exact(gC tp lp (x:=x) (by rw[e1];grind)).2.1 (by grind)
   ·exact l1 q hq
  ·rcases Qt.1 hq with rfl|hq
   ·exact(gC tp lp (x:=-x) (by rw[e2];grind)).2.2 (by grind)
   ·exact l2 q hq
theorem mC{q:Um}{L:Uq}(hS:YH (cz q) L)(tq:Uz q)(lq:q.length≠0){x y:Rat}(hxy:x<y)(h:Ge q<=x\/y<=-Ge q)(hb:0<Ge q):vv L x=vv L y:=by
 rcases Classical.em (vv L x=vv L y)with e|e
 ·exact e
 ·exfalso;obtain⟨r,r1,r2,r3⟩:=jA hS hxy e (d:=1) (by decide);have:=(gC tq lq (x:=r) (by rcases h with h|h <;> (unfold Fe;split <;> grind))).1;rw[Uy]at r3;grind
theorem Ig{p:Um}(h:U8 p≠0):1<=Ge p:=by
 have hb:=QO h;have hp:=nat_pos (show 0<(U8 p).natAbs by omega);have hm0:(0:Rat)<=((most (p.take (p.length-1)):Nat):Rat):=Xg;rcases Fz 1 (Ge p)with h'|h'
 ·exact h'
 ·have:=Jp h' hp;grind
theorem OJ{q:Um}{l:Un}(hS:YH (cz q) ((q::l).map cz))(hl:∀p∈q::l,Uz p/\p.length≠0):jU (q::l)=(vv ((q::l).map cz) (-Ge q):Int)-(vv ((q::l).map cz) (Ge q):Int):=by
 obtain⟨tq,lq⟩:=hl q (Q0 ..);have hb:=Ig (B8 tq lq);obtain⟨X,hX,hx⟩:=cB (q::l) hl;obtain⟨h1,h2⟩:=hx (X+Ge q) (by grind);have e1:I7 iD (q::l)=vv ((q::l).map cz) (X+Ge q):=by
  rw[<-QQ];unfold Me I7;rw[XE (f:=iD) (g:=λp=>Fy p (X+Ge q)) (0,0) λp hp=>(h1 p hp).symm]
 have e2:I7 iC (q::l)=vv ((q::l).map cz) (-(X+Ge q)):=by
  rw[<-QQ];unfold Me I7;rw[XE (f:=iC) (g:=λp=>Fy p (-(X+Ge q))) (0,0) λp hp=>(h2 p hp).symm]
 unfold jU;rw[e1,e2,mC hS tq lq (x:=-(X+Ge q)) (y:=-Ge q) (by grind) (.inr Qk) (by grind),<-mC hS tq lq (x:=Ge q) (y:=X+Ge q) (by grind) (.inl Qk) (by grind)]
theorem Qe8{f:Up}{L:Uq}(hS:YH f L){x y:Rat}(hxy:x<y)(hv:vv L y+2<=vv L x):∃m,x<m/\m<y/\vv L m<vv L x/\vv L y<vv L m/\ev f m≠0:=by
 obtain⟨R,hR,hx,hy⟩:=OI x y;obtain⟨e,ep,he⟩:=Qhv hS R hR;have key:∀n:Nat,∀x,Fe x<=R->x<y->vv L y+2<=vv L x->y-x<=(n:Rat)*e->∃m,x<m/\m<y/\vv L m<vv L x/\vv L y<vv L m:=by
  intro n
  induction n with
  |zero=>intro x _ hxy _ hn;rw[show((0:Nat):Rat)=0 from rfl]at hn;exfalso;clear he;grind
  |
   succ n ih =>
   intro x hx hxy hv hn;have hn':(((n+1:Nat):Rat))=(n:Rat)+1:=by push_cast;rfl
   rw[hn']at hn;rcases Fz (y-x) e with h1|h1
   ·have:=he x y hx hy hxy h1;omega
   ·have hm:Fe (x+e)<=R:=WF hx hy (by clear he ih;grind) (by clear he ih;grind);have h2:=he x (x+e) hx hm (by clear he ih;grind) (by clear he ih;grind);have h3:=Dx hS (show x<x+e by clear he ih;grind);by_cases h4:vv L x=vv L (x+e)
    ·obtain⟨m,m1,m2,m3,m4⟩:=ih (x+e) hm (by clear he ih;grind) (by omega) (by clear he ih;grind);exact⟨m,by clear he ih;grind,m2,by omega,m4⟩
    ·exact⟨x+e,by clear he ih;grind,by clear he ih;grind,by omega,by omega⟩
 obtain⟨n,hn⟩:=QL (z:=y-x) ep;obtain⟨m,m1,m2,m3,m4⟩:=key n x hx hxy hv hn;rcases Classical.em (ev f m=0)with h0|h0
 ·-- a little farther on
  obtain⟨e2,e2p,hl⟩:=loc hR hS (w:=f) (u:=[1]) (λt=>by rw[Rx];grind);obtain⟨d,dp,d1,d2⟩:=min2 (a:=e2) (b:=(y-m) / 2) e2p (C4 (by clear he key hl;grind) (by decide));have h2:(y-m) / 2*2=y-m:=Gd (by decide);have hmR:Fe m<=R:=WF hx hy (Qm m1) (Qm m2);have hmR2:Fe (m+d)<=R:=WF hx hy (by clear he key hl;grind) (by clear he key hl;grind);rcases hl m (m+d) hmR hmR2 (by clear he key hl;grind) (by clear he key hl;grind)with⟨p1,p2,_⟩|⟨_,p1,_,p3,_⟩
  ·refine⟨m+d,by clear he key hl;grind,by clear he key hl;grind,by omega,by omega,λh'=>?_⟩;have:=p2.s;rw[Gm.2 h']at this;exact p2.n this.symm
  ·rw[Gm.2 h0]at p3;exact absurd p3.symm p1
 ·exact⟨m,m1,m2,m3,m4,h0⟩
theorem Qme{q:Um}{L:Uq}(hS:YH (cz q) L)(tq:Uz q)(nq:q.length<=9)(lq:2<=q.length){lo hi:Rat}(hl:lo<hi)(hv:vv L hi+2<=vv L lo):1<(hi-lo)*((2^(Ry q q+1):Nat):Rat):=by
 rcases Fz ((hi-lo)*((2^(Ry q q+1):Nat):Rat)) 1 with hw|hw
 ·exfalso;have hpow:(0:Rat)<=((2^(Ry q q+1):Nat):Rat):=Xg;obtain⟨m,m1,m2,m3,m4,m0⟩:=Qe8 hS hl hv;obtain⟨R,hR,r1,r2⟩:=OI lo hi;have hd:=Cj m0;obtain⟨d,dp,_,db⟩:=Hb (b:=NT R (cz q)) (d:=Fe (ev (cz q) m) / 2) (Mk hR _) (C4 hd (by decide));have hd2:Fe (ev (cz q) m) / 2*2=Fe (ev (cz q) m):=Gd (by decide);have hmR:Fe m<=R:=WF r1 r2 (Qm m1) (Qm m2);have hnear:∀r,Fe r<=R->Fe (ev (cz q) r)<Fe (ev (cz q) m) / 2->d<Fe (r-m):=λr hr hs=>by
   rcases Fz (Fe (r-m)) d with h|h
   ·exfalso;have h1:=Mm (p:=cz q) hmR hr hR h db;have h2:=Sv (ev (cz q) m-ev (cz q) r) (ev (cz q) r);rw[show ev (cz q) m-ev (cz q) r+ev (cz q) r=ev (cz q) m by grind,eQ]at h2;grind
   ·exact h
  refine Qd5 (R:=R+1) (d:=d+d) tq tq nq nq lq lq (by grind) (by grind) λe ep=>?_
  obtain⟨e',ep',e1,e2⟩:=min2 (a:=e) (b:=Fe (ev (cz q) m) / 2) ep (C4 hd (by decide));obtain⟨x,x1,x2,x3⟩:=jA hS m1 (by omega) ep';obtain⟨y,y1,y2,y3⟩:=jA hS m2 (by omega) ep';have hxR:Fe x<=R:=WF r1 r2 x1 (by grind);have hyR:Fe y<=R:=WF r1 r2 (by grind) y2;have nx:=hnear x hxR (by grind);have ny:=hnear y hyR (by grind);have ex:Fe (x-m)=m-x:=by unfold Fe;split <;> grind
  have ey:Fe (y-m)=y-m:=by unfold Fe;split <;> grind
  rw[ex]at nx;rw[ey]at ny;have exy:Fe (x-y)=y-x:=by unfold Fe;split <;> grind
  refine⟨x,y,by grind,by grind,by rw[exy];grind,?_,by rw[<-Uy];grind,by rw[<-Uy];grind⟩;rw[exy];exact Zb (Q4 (show y-x<=hi-lo by grind) hpow) hw
 ·exact hw
theorem Qc3:∀{k:Nat} {a b:Um} {l:Un},LQ k a b=some l->∀p∈l,p.length≠0
 | 0,_,_,_,h=>by cases h
 |
  k+1,a,b,l,h=>by
  simp only[LQ]at h
  split at h
  ·injection h with h;subst h;exact λp hp=>by cases hp
  ·rename_i h0;obtain⟨r,_,h⟩:=Qi.1 h;obtain⟨l',h1,h⟩:=Qi.1 h;injection h with h;subst h;intro p hp;rcases Qt.1 hp with rfl|hp
   ·exact h0
   ·exact Qc3 h1 p hp
theorem Okp.pb{n s:Nat}{p:Um}(h:Okp n s p)(hs:s<=16777216):Pb p:=⟨h.t,by have:=h.l;have:=h.z.1;omega,Uv h.b hs⟩
theorem EG{p:Um}{q:Um}{l:Un}(hp:Pb p)(h:chain p=some (q::l))(hq:q.length≠0):∀r∈q::l,Uz r/\r.length≠0:=by
 have h1:=(Orr.chain_ok hp h).2;unfold chain at h;obtain⟨a,_,h⟩:=Qi.1 h
 split at h
 ·cases h
 ·obtain⟨d,_,h⟩:=Qi.1 h;obtain⟨l',h3,h⟩:=Qi.1 h;injection h with h;injection h with e1 e2;subst e1;subst e2;intro r hr;refine⟨(h1 r hr).t,?_⟩;rcases Qt.1 hr with rfl|hr
  ·exact hq
  ·exact Qc3 h3 r hr
inductive RI (q:List Int) (L:List (List Rat)):Rat->List Tm->Rat->Prop
 |nil {lo hi:Rat} (h:lo<=hi) (hv:vv L lo=vv L hi):RI q L lo [] hi
 |cons {lo hi:Rat} {t:Tm} {l:List Tm} (h:lo<=t.lo) (hv:vv L lo=vv L t.lo) (ht:Vt (cz q) L t.lo t.hi) (hp:t.p=q) (hl:RI q L t.hi l hi):RI q L lo (t::l) hi
theorem RI.app{q:Um}{L:Uq}{lo m hi:Rat}{l l':List Tm}(h:RI q L lo l m)(h':RI q L m l' hi):RI q L lo (l++l') hi:=by
 induction h with
 |
  nil h hv =>
  cases h' with
  |nil h2 hv2=>exact .nil (by grind) (by omega)
  |cons h2 hv2 ht hp hl=>exact .cons (by grind) (by omega) ht hp hl
 |cons h hv ht hp _ ih=>exact .cons h hv ht hp (ih h')
theorem Qc5{D M k:Nat}{m:Rat}(h:Gr D M k m)(hM:0<M)(hs:Ff (D:Int)+Ff (M:Int)+k<=16777216):bR m=some m:=by
 have:=Ak h hM hs;unfold bR;rw[if_pos ⟨this.1,this.2⟩]
theorem PP{q:Um}{c:Un}(hS:YH (cz q) (c.map cz))(tq:Uz q)(nq:q.length<=9)(hc1:q.length<2->c=[q]){D M F:Nat}(hM:0<M):∀(k j:Nat) (lo hi:Rat),lo<hi->Gr D M j lo->Gr D M j hi->Ff (D:Int)+Ff (M:Int)+(j+k)<=16777216->(hi-lo)*((2^(Ry q q+1):Nat):Rat)<=((2^k:Nat):Rat) ->
 ∃l,E3 q c (F+k+1) lo hi ((vv (c.map cz) lo:Int)-(vv (c.map cz) hi:Int))=some l/\RI q (c.map cz) lo l hi/\∀t∈l,∃k',k'≤j+k/\Gr D M k' t.lo/\Gr D M k' t.hi:=by
 intro k
 induction k with
 |
  zero =>
  intro j lo hi hl g1 g2 hs hK;have hle:=Dx hS hl;have h2:vv (c.map cz) lo<vv (c.map cz) hi+2:=by
   rcases Q9 (vv (c.map cz) lo) (vv (c.map cz) hi+2)with h|h
   ·exact h
   ·exfalso;have lq:2<=q.length:=by
     rcases Q9 q.length 2 with e|e
     ·have hvv:∀x,vv (c.map cz) x=vv (c.map cz) 0:=λx=>by
       rcases hS with⟨c0,hc0,hcc,hl'⟩|⟨g',l',k',hk,hg,hsc,hl'⟩
       ·rw[hl'];simp only[vv,tc,hcc]
       ·rw[hc1 e]at hl';cases hl'
      rw[hvv lo,hvv hi]at h;omega
     ·exact e
    have:=Qme hS tq nq lq hl h;rw[Ys]at hK;have h7:((1:Nat):Rat)=1:=rfl;rw[h7]at hK;grind
  simp only[E3];by_cases e0:vv (c.map cz) lo=vv (c.map cz) hi
  ·rw[if_pos (by omega)];exact⟨[],rfl,.nil (Qm hl) e0,λt ht=>by cases ht⟩
  ·rw[if_neg (by omega),if_pos (by omega)];refine⟨[⟨q,lo,hi⟩],rfl,.cons Qk rfl ⟨hS,hl,by show vv _ lo=vv _ hi+1;omega⟩ rfl (.nil Qk rfl),λt ht=>?_⟩;rw[Qo.1 ht];exact⟨j,by omega,g1,g2⟩
 |
  succ k ih =>
  intro j lo hi hl g1 g2 hs hK;have hle:=Dx hS hl;show ∃l,(if (vv (c.map cz) lo:Int)-(vv (c.map cz) hi:Int)=0 then some []else if (vv (c.map cz) lo:Int)-(vv (c.map cz) hi:Int)=1 then some [⟨q,lo,hi⟩]else(bR (A2 lo hi)).bind λm=>(E3 q c (F+k+1) lo m (Gw c lo m)).bind λl=>(E3 q c (F+k+1) m hi ((vv (c.map cz) lo:Int)-(vv (c.map cz) hi:Int)-Gw c lo m)).bind λr=>some (l++r))=some l/\_;by_cases e0:vv (c.map cz) lo=vv (c.map cz) hi
  ·rw[if_pos (by omega)];exact⟨[],rfl,.nil (Qm hl) e0,λt ht=>by cases ht⟩
  by_cases e1:vv (c.map cz) lo=vv (c.map cz) hi+1
  ·rw[if_neg (by omega),if_pos (by omega)];refine⟨[⟨q,lo,hi⟩],rfl,.cons Qk rfl ⟨hS,hl,e1⟩ rfl (.nil Qk rfl),λt ht=>?_⟩;rw[Qo.1 ht];exact⟨j,by omega,g1,g2⟩
  ·rw[if_neg (by omega),if_neg (by omega)];obtain⟨m,hm⟩:=nmE ((lo+hi) / 2);have h2:(lo+hi) / 2*2=lo+hi:=Gd (by decide);rw[<-hm]at h2;have gm:Gr D M (j+1) m:=by rw[hm];exact GG g1 g2
   have l1:lo<m:=by grind
   have l2:m<hi:=by grind
   rw[D5,<-hm,Qc5 gm hM (by omega)];show ∃l,((E3 q c (F+k+1) lo m (Gw c lo m)).bind λl=>(E3 q c (F+k+1) m hi ((vv (c.map cz) lo:Int)-(vv (c.map cz) hi:Int)-Gw c lo m)).bind λr=>some (l++r))=some l/\_;rw[Sy (Qm l1),show(vv (c.map cz) lo:Int)-(vv (c.map cz) hi:Int)-((vv (c.map cz) lo:Int)-(vv (c.map cz) m:Int))=(vv (c.map cz) m:Int)-(vv (c.map cz) hi:Int) by omega];rw[IB k]at hK;have hp:∀x y:Rat,(y-x)*2=hi-lo->(y-x)*((2^(Ry q q+1):Nat):Rat)<=((2^k:Nat):Rat):=λx y h=>by
    have:(y-x)*((2^(Ry q q+1):Nat):Rat)*2=(hi-lo)*((2^(Ry q q+1):Nat):Rat):=by rw[<-h];grind
    grind
   obtain⟨la,a1,a2,a3⟩:=ih (j+1) lo m l1 (QW g1) gm (by omega) (hp lo m (by grind));obtain⟨lb,b1,b2,b3⟩:=ih (j+1) m hi l2 gm (QW g2) (by omega) (hp m hi (by grind));rw[a1];show ∃l,((E3 q c (F+k+1) m hi ((vv (c.map cz) m:Int)-(vv (c.map cz) hi:Int))).bind λr=>some (la++r))=some l/\_;rw[b1];refine⟨la++lb,rfl,a2.app b2,λt ht=>?_⟩;rcases Qr.1 ht with ht|ht
   ·obtain⟨k',h1,h2,h3⟩:=a3 t ht;exact⟨k',by omega,h2,h3⟩
   ·obtain⟨k',h1,h2,h3⟩:=b3 t ht;exact⟨k',by omega,h2,h3⟩
theorem Qei{D M k:Nat}{q:Rat}(h:Gr D M k q):Gr D M k (-q):=by
 obtain⟨u,hu⟩:=h.u;exact⟨⟨-u,by rw[Vn,<-hu];grind⟩,by rw[Ln];exact h.b,h.d⟩
theorem WR{m s:Nat}(h:m<2^s):Ff ((m+1:Nat):Int)<=s+1:=by
 rw[Tg,Zr,Zl];omega
theorem oV{z:Int}{s:Nat}(h:Ff z<=s):Ff ((z.natAbs+1:Nat):Int)<=s+1:=WR (Tg.1 h)
theorem Ql2{x:Rat}{m s g N:Nat}(hx:x<=2*((m+1:Nat):Rat))(hm:m+1<=2^s)(hN:s+1+g<=N):x*((2^g:Nat):Rat)<=((2^N:Nat):Rat):=by
 have h3:=Za.2 hm;have e:=IB s;have h4:(0:Rat)<=((2^s:Nat):Rat):=Xg;have h1:x<=((2^(s+1):Nat):Rat):=by rw[e];grind
 have h5:(0:Rat)<=((2^g:Nat):Rat):=Xg;refine Zb (Q4 h1 h5) ?_;have h6:2^(s+1)*2^g<=2^N:=by
  rw[<-Xc];exact Zo (by decide) hN
 have:=Za.2 h6;rw[Rat.natCast_mul]at this;exact this
theorem nW{s:Nat}{l:Um}(h:Bd s l):most l<2^s:=by
 have key:∀(l:Um) (m:Nat),m<2^s->Bd s l->l.foldl (λm z=>if m<z.natAbs then z.natAbs else m) m<2^s:=by
  intro l
  induction l with
  |nil=>exact λm h _=>h
  |
   cons y l ih =>
   intro m hm hb;simp only[Xl];refine ih _ ?_ λz hz=>hb z (Qp _ hz)
   have:=hb y (Q0 ..);rw[Tg]at this
   split <;> assumption
 exact key l 0 (Zu (by decide)) h
theorem qP{p q:Um}(h:LZ p=some q):q=p:=by
 unfold LZ at h
 split at h
 ·injection h with h;exact h.symm
 ·cases h
theorem Qaf{s N:Nat}{p:Um}(hNe:N=63*s+5160)(hs9:s≤1180)(h:Okp 9 s p):∃q c l,Sj p=some q/\chain p=some c/\CO p=some l/\YH (cz q) (c.map cz)/\RI q (c.map cz) (-Ge q) l (Ge q)/\(∀t∈l,Va t)/\(∀x y,x<y->Ge q≤x\/y≤-Ge q->vv (c.map cz) x=vv (c.map cz) y)/\q.length≤p.length/\∀t∈l,t.p=q/\t.lo<t.hi/\Bd (s+69) q/\∃D M k,Gr D M k t.lo/\Gr D M k t.hi/\0<M/\Ff (D:Int)≤s+69/\Ff (M:Int)≤s+70/\k≤N:=by
 obtain⟨pp,De,hpb⟩:=h.pr;obtain⟨g,q',hq',sq⟩:=L6 h;obtain⟨q,l,q1,q2,hS,hl0⟩:=chain_ok h;rw[hq']at q1;injection q1 with q1;subst q1;have e1:∀t,Ux (U5 p) t=Ux q' t*Ux g t:=λt=>by rw[sq.e];grind
 obtain⟨p1,p2⟩:=G7 pp.t pp.n e1;have hch:LQ 66 q' (U5 (Fv q'))=some l:=by
  have h2:=q2;unfold chain at h2;rw[hq']at h2;simp only[Yk]at h2
  split at h2
  ·cases h2
  ·cases hd:LZ (Fv q')with
   |none=>rw[hd]at h2;cases h2
   |
    some d =>
    rw[hd]at h2;simp only[Yk]at h2;obtain rfl:d=Fv q':=qP hd;cases hc:LQ 66 q' (U5 (Fv q'))with
    |none=>rw[hc]at h2;cases h2
    |some l'=>rw[hc]at h2;simp at h2;rw[h2]
 have hll:=Rv sq.pq.t sq.pg.t pp.t e1 p1 p2;have hl9:=h.l;have bq:Bd (s+69) q':=D2 hpb (by omega) pp.t sq.pq.t sq.pg.t pp.n e1;have hall:=EG (h.pb (by omega)) q2 sq.pq.n;have hld:U8 q'≠0:=by have:=sq.pq.l;omega
 have hb1:=Ig hld;obtain⟨D,hD⟩:=nmE ((U8 q').natAbs);obtain⟨m,hm⟩:=nmE (most (q'.take (q'.length-1)));have hm2:m<2^(s+69):=by rw[hm];exact nW (s:=s+69) λz hz=>bq z (Ql hz)
 have hD0:0<D:=by omega
 have hDs:Ff (D:Int)<=s+69:=by
  have:=Pw bq;rw[Tg]at this ⊢;rw[Zr,hD];exact this
 have hbe:=QO hld;rw[<-hD,<-hm]at hbe;have hDq:=nat_pos hD0;have hbm:Ge q'<=((m+1:Nat):Rat):=by
  have hD1:(1:Rat)<=(D:Rat):=by
   have:((1:Nat):Rat)<=(D:Rat):=Za.2 hD0;exact this
  have hm0:(0:Rat)<=(m:Rat):=Xg;have h3:=Pp (a:=(m:Rat)) (c:=1) hm0 Qk (by decide) hD1;rcases Fz (Ge q') ((m+1:Nat):Rat)with h'|h'
  ·exact h'
  ·exfalso;have:=Jp h' hDq
   push_cast at this;grind
 have gb:Gr D (m+1) 0 (Ge q'):=by
  refine⟨⟨(D+m:Nat),?_⟩,?_,hD0⟩
  ·rw[Ys,Yf,hbe];rw[show((((D+m:Nat):Int)):Rat)=((D+m:Nat):Rat) from rfl];push_cast;rfl
  ·have:Fe (Ge q')=Ge q':=by unfold Fe;rw[if_neg (by grind)]
   rw[this];exact hbm
 have hMs:Ff ((m+1:Nat):Int)<=s+69+1:=WR (s:=s+69) hm2;have hK:(Ge q' - -Ge q')*((2^(Ry q' q'+1):Nat):Rat)<=((2^N:Nat):Rat):=by
  have hps:=C6 bq;have hg:Ry q' q'<=(2*s+164)*31:=by
   unfold Ry;exact Zs (by omega) (by omega)
  exact Ql2 (s:=s+69) (g:=Ry q' q'+1) (N:=N) (by grind) hm2 (by omega)
 have hN:Ff (D:Int)+Ff ((m+1:Nat):Int)+(0+N)<=16777216:=by omega
 obtain⟨F,hFe⟩:=nmE (99999-N);obtain⟨ls,r1,r2,r3⟩:=PP (F:=F) hS sq.pq.t (by omega) (λh=>by rw[hl0 h]) (Kl m) N 0 (-Ge q') (Ge q') (by grind) (Qei gb) gb hN hK;rw[show F+N+1=100000 by omega]at r1;have hchq:bR (Ge q')=some (Ge q'):=Qc5 gb (Kl m) (by omega);have key:∀t∈ls,Va t/\t.p=q'/\t.lo<t.hi/\Bd (s+69) q'/\∃D M k,Gr D M k t.lo/\Gr D M k t.hi/\0<M/\Ff (D:Int)≤s+69/\Ff (M:Int)≤s+70/\k≤N:=λt ht=>by
  obtain⟨k',k1,k2,k3⟩:=r3 t ht;have hmem:∀{lo hi:Rat} {ls:List Tm},RI q' ((q'::l).map cz) lo ls hi->t∈ls->Vt (cz q') ((q'::l).map cz) t.lo t.hi/\t.p=q':=λh=>by
   induction h with
   |nil=>intro ht;cases ht
   |
    cons h hv ht' hp hl ih =>
    intro ht;rcases Qt.1 ht with rfl|ht
    ·exact⟨ht',hp⟩
    ·exact ih ht
  obtain⟨v1,v2⟩:=hmem r2 ht;have lq2:2<=q'.length:=by
   rcases Q9 q'.length 2 with e|e
   ·exfalso;have hvv:∀x,vv ((q'::l).map cz) x=0:=λx=>by
     rw[hl0 e,sq.pq.one e];have hv1:∀x:Rat,ev (cz [1]) x=1:=λx=>by rw[Uy,G9]
     simp only[Z0,Ja,vv,tc,hv1];have:Fj 1=1:=by decide
     rw[this];decide
    have:=v1.v;rw[hvv,hvv]at this;omega
   ·exact e
  exact⟨⟨.inr ⟨_,by rw[v2];exact v1⟩,by rw[v2];exact sq.pq.t,by rw[v2];omega,by rw[v2];exact lq2,by rw[v2];exact Uv bq (by omega),λ_=>by rw[v2];exact Uv bq (by omega),λ_=>by rw[v2];exact⟨l,_,g,hch,sq,v1⟩,D,m+1,k',k2,k3,Kl m,Qc (show _<=1000000 by omega) (Qpk t)⟩,v2,v1.l,bq,D,m+1,k',k2,k3,Kl m,hDs,Qc hMs (Qj (s+70)),by rw[Zz]at k1;exact k1⟩
 refine⟨q',q'::l,ls,hq',q2,?_,hS,r2,λt ht=>(key t ht).1,λx y hxy hb=>mC hS sq.pq.t sq.pq.n hxy hb (by grind),by omega,λt ht=>(key t ht).2⟩
 ·unfold CO;rw[q2,hq'];show(bR (Ge q')).bind _=_;rw[hchq];simp only[Yk];rw[OJ hS hall];exact r1
theorem uE{s:Nat}{p:Um}(hs9:s≤1180)(h:Okp 9 s p):∃q c l,Sj p=some q/\chain p=some c/\CO p=some l/\YH (cz q) (c.map cz)/\RI q (c.map cz) (-Ge q) l (Ge q)/\(∀t∈l,Va t)/\(∀x y,x<y->Ge q≤x\/y≤-Ge q->vv (c.map cz) x=vv (c.map cz) y)/\q.length≤p.length/\∀t∈l,t.p=q/\t.lo<t.hi/\Bd (s+69) q/\∃D M k,Gr D M k t.lo/\Gr D M k t.hi/\0<M/\Ff (D:Int)≤s+69/\Ff (M:Int)≤s+70/\k≤63*s+5160:=Qaf rfl hs9 h
theorem Qgg{p:Um}(h:Okp 9 1180 p):∃q c l,Sj p=some q/\chain p=some c/\CO p=some l/\YH (cz q) (c.map cz)/\RI q (c.map cz) (-Ge q) l (Ge q)/\(∀t∈l,Va t)/\(∀x y,x<y->Ge q≤x\/y≤-Ge q->vv (c.map cz) x=vv (c.map cz) y):=by
 obtain⟨q,c,l,h1,h2,h3,h4,h5,h6,h7,_⟩:=uE (Qj _) h;exact⟨q,c,l,h1,h2,h3,h4,h5,h6,h7⟩
theorem Ld{q:Um}{L:Uq}(hS:YH (cz q) L){c:Rat->Int}(hc:Cut c){lo:Rat}(hH:∀z,c z=-1->z<=lo->vv L z=vv L lo){y0:Rat}(hy:c y0=-1)(hv:∀z,lo<z->z<=y0->vv L z=vv L lo):∃s,s≠0/\∀z,c z=-1->z<=y0->Fj (ev (cz q) z)=s:=by
 have hall:∀z,c z=-1->z<=y0->vv L z=vv L lo:=λz h1 h2=>by
  rcases Fz z lo with e|e
  ·exact hH z h1 e
  ·exact hv z e h2
 have hne:∀z,c z=-1->z<=y0->Fj (ev (cz q) z)≠0:=λz h1 h2=>by
  obtain⟨w,w1,w2⟩:=hc.dn z h1;have:=yK hS w1 (by rw[hall w w2 (by grind),hall z h1 h2]);rw[this.s];exact this.n
 refine⟨Fj (ev (cz q) y0),hne y0 hy Qk,λz h1 h2=>?_⟩;rcases Classical.em (z=y0)with e|e
 ·rw[e]
 ·have:=yK hS (x:=z) (y:=y0) (by grind) (by rw[hall z h1 h2,hall y0 hy Qk]);rw[this.s,Em (hne z h1 h2)]
structure Fst(o:List Int)(a t:Tm):Prop where
 lt:YR a t
 s:∃s,s≠0/\(∀z,Gb a z=-1->Gb t z=1->Fj (ev (cz o) z)=s)/\RS (cz o) (Gb t) (-s)
def Non(o:Um)(a:Tm):Prop:=∃s,s≠0/\∀z,Gb a z=-1->Fj (ev (cz o) z)=s
theorem oP{q:Um}{L:Uq}(hS:YH (cz q) L){a:Tm}(ha:Va a){lo hi:Rat}{l:List Tm}(hR:RI q L lo l hi):(∀t∈l,Va t)->(∀z,hi<z->vv L z=vv L hi)->(∀z,Gb a z=-1->z≤lo->vv L z=vv L lo)->∃r,IJ a l=some r/\match r with
 |none=>Non q a
 |some t=>t∈l/\Fst q a t:=by
 have ca:=ha.cut
 induction hR with
 |
  @nil lo hi h hv =>
  intro _ hhi hH;refine⟨none,rfl,?_⟩;obtain⟨y1,hy1⟩:=ca.hi;have hall:∀z,lo<z->vv L z=vv L lo:=λz hz=>by
   rcases Fz z hi with e|e
   ·have h1:=Dx hS hz;have h2:vv L hi<=vv L z:=by
     rcases Classical.em (z=hi)with e'|e'
     ·rw[e'];exact Qj _
     ·exact Dx hS (by grind)
    omega
   ·rw[hhi z e,hv]
  obtain⟨s,s0,hs⟩:=Ld hS ca hH hy1 λz h1 _=>hall z h1
  refine⟨s,s0,λz hz=>?_⟩;rcases Fz z y1 with e|e
  ·exact hs z hz e
  ·obtain⟨s',s0',hs'⟩:=Ld hS ca hH hz λz h1 _=>hall z h1
   rw[hs' z hz Qk,<-hs' y1 hy1 (Qm e),hs y1 hy1 Qk]
 |
  @cons lo hi t l h hv ht hp hl ih =>
  intro hV hhi hH;have hvt:=hV t (Q0 ..);have ct:=hvt.cut;have ht':=ht;rw[<-hp]at ht';have ect:∀z,Gb t z=cq (cz t.p) t.lo t.hi z:=Tt ht.l;obtain⟨c,c1,c2⟩:=bC hvt ha;show ∃r,((vL t a).bind λc=>if 0<c then some (some t)else IJ a l)=some r/\_;rw[c1];show ∃r,(if 0<c then some (some t)else IJ a l)=some r/\_;have hlo1:Gb t t.lo=1:=by rw[ect];exact Mj Qk
  have hlow:∀z,lo<z->Gb t z=1->vv L z=vv L lo:=λz h1 h2=>by
   rcases Fz z t.lo with e|e
   ·have a1:=Dx hS h1;have a2:vv L t.lo<=vv L z:=by
     rcases Classical.em (z=t.lo)with e'|e'
     ·rw[e'];exact Qj _
     ·exact Dx hS (by grind)
    omega
   ·rw[ect]at h2;have hz:z<=t.hi:=by
     rcases Fz z t.hi with e'|e'
     ·exact e'
     ·rw[Ij ht.l e']at h2;omega
    rw[ht'.eq_lo e hz h2,hv]
  by_cases hc:0<c
  ·rw[if_pos hc];refine⟨some t,rfl,Q0 ..,?_⟩;have hlt:YR a t:=by
    rcases c2 with⟨e,_⟩|⟨e,_⟩|⟨_,h⟩
    ·omega
    ·omega
    ·exact h
   refine⟨hlt,?_⟩;obtain⟨m,m1,m2⟩:=hlt;obtain⟨s,s0,hs⟩:=Ld hS ca hH m1 λz h1 h2=>hlow z h1 (by
    rcases Classical.em (z=m)with e|e
    ·rw[e];exact m2
    ·exact ct.mono' (q:=z) (r:=m) (by grind) (by omega))
   have hall:∀z,Gb a z=-1->Gb t z=1->Fj (ev (cz q) z)=s:=λz h1 h2=>by
    rcases Fz z m with e|e
    ·exact hs z h1 e
    ·obtain⟨s',s0',hs'⟩:=Ld hS ca hH h1 λw w1 w2=>hlow w w1 (by
      rcases Classical.em (w=z)with e|e
      ·rw[e];exact h2
      ·exact ct.mono' (q:=w) (r:=z) (by grind) (by omega))
     rw[hs' z h1 Qk,<-hs' m m1 (Qm e),hs m m1 Qk]
   refine⟨s,s0,hall,?_⟩;obtain⟨w,w1,w2,w3⟩:=FP ct m2 hlo1;have hwa:Gb a w=-1:=ca.mono m w w2 (by omega);have hsw:=hall w hwa w1;have hwh:w<t.hi:=by
    rw[ect]at w1;rcases Fz t.hi w with e|e
    ·have:=ht'.hi1;rcases Classical.em (t.hi=w)with e'|e'
     ·rw[<-e']at w1;exact absurd w1 this
     ·rw[Ij ht.l (by grind)]at w1;omega
    ·exact e
   have hww:vv L w=vv L t.lo:=ht'.eq_lo w3 (Qm hwh) (by rw[<-ect];exact w1);have hvv:=ht.v;have hone:=yV hS hwh (by omega);have hlw:Ph (cz q) w=s:=by rw[Em (by rw[hsw];exact s0),hsw]
   rw[hlw]at hone;have hd:∀z,w<z->z<=t.hi->Gb t z=-1->Fj (ev (cz q) z)=-s:=λz z1 z2 z3=>by
    rw[ect]at z3;have e1:=ht'.eq_hi (by grind) z2 (by omega);have e2:=yV hS z1 (by omega);rw[hlw]at e2;have hz0:Fj (ev (cz q) z)≠0:=by
     rw[Nu (by grind) z2,hp]at z3;intro h0;rw[if_pos h0]at z3;omega
    rw[Em hz0]at e2;exact e2.2
   rcases ct.val t.hi with e|e|e
   ·rw[ect]at e;exact absurd e ht'.hi1
   ·obtain⟨d,dp,hd'⟩:=Qsb (p:=cz q) (x:=t.hi) (by rw[hone.2];omega);refine⟨t.hi+d,ct.mono t.hi _ (by grind) (by omega),λz h1 h2=>?_⟩;have hz:t.hi<z:=by
     rcases Fz z t.hi with e'|e'
     ·rcases Classical.em (z=t.hi)with e''|e''
      ·rw[e'']at h1;omega
      ·have:=ct.mono z t.hi (by grind) (by omega);omega
     ·exact e'
    rw[hd' z hz (by grind),hone.2]
   ·exact⟨t.hi,e,λz h1 h2=>hd z (ct.lt w1 h1) h2 h1⟩
  ·rw[if_neg hc];have hle:¬YR a t:=λh=>by
    rcases c2 with⟨e,h'⟩|⟨e,h'⟩|⟨e,_⟩
    ·exact zI ct ca h' h
    ·obtain⟨z,z1,z2⟩:=h;have:=h' z;omega
    ·omega
   obtain⟨r,r1,r2⟩:=ih (λx hx=>hV x (Qp _ hx)) hhi λz z1 z2=>by
    have hz:Gb t z≠1:=λh=>hle ⟨z,z1,h⟩
    have hzl:t.lo<z:=by
     rcases Fz z t.lo with e|e
     ·refine absurd ?_ hz;rw[ect];exact Mj e
     ·exact e
    exact ht'.eq_hi hzl z2 (by rw[<-ect];exact hz)
   refine⟨r,r1,?_⟩;cases r with
   |none=>exact r2
   |some x=>exact⟨Qp _ r2.1,r2.2⟩
def A5(f:Nat->Um):Nat->Um
 | 0=>[1]
 |i+1=>if i % 2=0 then U9 (A5 f i) (f i)else A5 f i
theorem dM:∀{ws fs:Un},Lay (ws.map cz) (fs.map cz)->fs.length=ws.length/\∀i,i<ws.length->∀t,Ux (ws.getD i []) t=Ux (fs.getD i []) t*Ux ((ws++[[1]]).getD (i+1) []) t
 | [],[],_=>⟨rfl,λi h=>absurd h (Xt i)⟩
 | [],f::fs,h=>h.elim
 |
  [w],[f],h=>⟨rfl,λi hi t=>by
  have hi:i<1:=hi;obtain rfl:i=0:=by omega
  have:=h t;rw[Uy,Uy]at this;show Ux w t=Ux f t*Ux [1] t;rw[G9,this];grind⟩
 | [w],[],h=>h.elim
 | [w],_::_::_,h=>h.elim
 |
  w::v::ws,f::fs,h=>by
  obtain⟨h1,h2⟩:=h;obtain⟨i1,i2⟩:=dM (ws:=v::ws) (fs:=fs) h2;refine⟨by simp only[Zc]at i1 ⊢;omega,λi hi t=>?_⟩;cases i with
  |
   zero =>
   have:=h1 t;rw[Uy,Uy,Uy]at this;exact this
  |succ i=>exact i2 i (by simpa using hi) t
 |w::v::ws,[],h=>h.elim
theorem sN{f:Nat->Um}:∀(fs:Un) (i:Nat) (o:Um),VP i (A5 f i) fs=some o->(∀j,j<fs.length->fs.getD j []=f (i+j))->o=A5 f (i+fs.length)
 | [],i,o,h,_=>by injection h with h;exact h.symm
 |
  g::fs,i,o,h,hf=>by
  have h0:=hf 0 (by simp);have hn:∀j,j<fs.length->fs.getD j []=f (i+1+j):=λj hj=>by
   have:=hf (j+1) (by simpa using hj);rw[Qz]at this;rw[this];congr 1;omega
  have e:i+(g::fs).length=i+1+fs.length:=by simp;omega
  rw[e];by_cases hi:i % 2=0
  ·simp only[VP]at h;rw[if_pos hi]at h;obtain⟨q,hq,h⟩:=Qi.1 h;have hq:=qP hq;refine sN fs (i+1) o ?_ hn;have:A5 f (i+1)=q:=by
    simp only[A5];rw[if_pos hi,hq];congr 1;exact h0.symm
   rw[this];exact h
  ·simp only[VP]at h;rw[if_neg hi]at h;refine sN fs (i+1) o ?_ hn;have:A5 f (i+1)=A5 f i:=by simp only[A5];rw[if_neg hi]
   rw[this];exact h
theorem jM{p:Um}{w:Um}{ws:Un}(h2:¬(U5 p).length<2)(h:BN 66 (U5 p)=some (w::ws)):Sj p=some w:=by
 have w3:(if (U5 p).length<2 then some []else(LZ (Fv (U5 p))).bind λd=>(I4 (U5 p) d).bind λh=>(O5 (U5 p) h).bind λw=>(BN 65 h).bind λl=>some (w::l))=some (w::ws):=h;rw[if_neg h2]at w3;unfold Sj;rw[if_neg h2];obtain⟨d,d1,w3⟩:=Qi.1 w3;obtain⟨h,d2,w3⟩:=Qi.1 w3;obtain⟨w',d3,w3⟩:=Qi.1 w3;obtain⟨l,d4,w3⟩:=Qi.1 w3;injection w3 with w3;injection w3 with w3 _;rw[d1];show(I4 (U5 p) d).bind _=_;rw[d2];show O5 (U5 p) h=_;rw[d3,w3]
theorem Qj1{s:Nat}{p:Um}(h:Okp 9 s p)(l2:2<=p.length)(hs9:(s+69+4+8)*3^8<=9000000) :
 ∃m f,1<=m/\m<=9/\FRun p m f/\Qid m f/\Sj p=some (Pi f m)/\oN p=some (A5 f m)/\Pr1 (A5 f m)/\∀i,i<=m->Bd 9000000 (A5 f i)/\(A5 f i).length<=1000:=by
 obtain⟨pp,hl,hb⟩:=h.pr;have De:=h.l;have hss:=eC h.z;have h9:s+69+4+8<=1371:=by
  have:(s+69+4+8)*3^8=(s+69+4+8)*6561:=rfl;omega
 obtain⟨ws,gs,n,i1,i2,i3,i4,i5,i6,i7,i8⟩:=dB h.z hs9 hb (by omega) pp.t pp.n 66 (U5 p) [1] [] pp (by omega) (by omega) rfl (λt=>by rw[G9];grind) (by simp;omega);rw[Jl,Jl]at i3;obtain⟨fs,f1,f2,f3⟩:=tM hb (by omega) pp.t pp.n (by omega) ws (U5 p) [1] i2 rfl λt=>by rw[G9];grind
 obtain⟨o1,o2⟩:=dM f2;obtain⟨m,hm⟩:=nmE (ws.length);obtain⟨f,hf⟩:∃f:Nat->Um,f=λi=>fs.getD i []:=⟨_,rfl⟩
 obtain⟨v,hv⟩:∃v:Nat->Um,v=λi=>(ws++[[1]]).getD i []:=⟨_,rfl⟩
 have hm1:1<=m:=by
  rcases Qy m with e|e
  ·exfalso;have:ws=[]:=Qh (by omega);rw[this]at i7;have:gs.getD 0 []=[1]:=i7;rw[i6]at this;rw[this]at hl;simp at hl;omega
  ·exact e
 have vw:∀i,i<m->v i=ws.getD i []:=λi hi=>by
  rw[hv];dsimp only;rw[Qd,Q6 (by omega),<-Qd]
 have vm:v m=[1]:=by
  rw[hv];dsimp only;rw[Qd,hm,Zp (Qj _)];simp
 have XF:Pr1 [1]:=one_sqp.pp;have vp:∀i,i<=m->Pr1 (v i):=λi hi=>by
  rcases Q9 i m with h|h
  ·rw[vw i h];exact(i8 i (by omega)).pq
  ·rw[show i=m by omega,vm];exact XF
 have vf:∀i,i<m->∀t,Ux (v i) t=Ux (v (i+1)) t*Ux (f i) t:=λi hi t=>by
  rw[vw i hi,o2 i (by omega) t,hf,hv];dsimp only;grind
 have fp:∀i,i<m->Pr1 (f i):=λi hi=>by
  refine lN (vp i (by omega)) (vp (i+1) (by omega)).l (vp (i+1) (by omega)).t ?_ (vf i hi);have:fs.getD i []∈fs:=by
   rw[Qd,Qe (show i<fs.length by omega)];exact Xx _
  rw[hf];exact f3 _ this
 have gp:∀i,i<=m->∃H,Uz H/\∀t,Ux (U5 p) t=Ux (gs.getD i []) t*Ux H t:=λi=>by
  induction i with
  |zero=>intro _;exact⟨[1],rfl,λt=>by rw[i6,G9];grind⟩
  |
   succ i ih =>
   intro hi;obtain⟨H,tH,eH⟩:=ih (by omega);exact⟨U9 H (ws.getD i []),Fx _ _,λt=>by rw[eH,U6,(i8 i (by omega)).e];grind⟩
 have gpr:∀i,i<=m->Pr1 (gs.getD i []):=λi hi=>by
  rcases Q9 i m with h|h
  ·exact(i8 i (by omega)).pp
  ·rw[show i=ws.length by omega,i7];exact XF
 have wp:∀i,i<=m->∃H,Uz H/\∀t,Ux (U5 p) t=Ux (v i) t*Ux H t:=λi hi=>by
  rcases Q9 i m with h|h
  ·obtain⟨H,tH,eH⟩:=gp i hi;exact⟨U9 H (gs.getD (i+1) []),Fx _ _,λt=>by rw[eH,vw i h,U6,(i8 i (by omega)).e];grind⟩
  ·exact⟨U5 p,pp.t,λt=>by rw[show i=m by omega,vm,G9];grind⟩
 have sz:∀{a H:Um},Uz a->Uz H->(∀t,Ux (U5 p) t=Ux a t*Ux H t)->Bd (s+69) a/\a.length<=9:=λ{a H} ta tH e=>by
  obtain⟨p1,p2⟩:=G7 pp.t pp.n e;have:=Rv ta tH pp.t e p1 p2;exact⟨D2 hb (by omega) pp.t ta tH pp.n e,by omega⟩
 have gsz:∀i,i<=m->Bd (s+69) (gs.getD i [])/\(gs.getD i []).length<=9:=λi hi=>by
  obtain⟨H,tH,eH⟩:=gp i hi;exact sz (gpr i hi).t tH eH
 have vsz:∀i,i<=m->Bd (s+69) (v i)/\(v i).length<=9:=λi hi=>by
  obtain⟨H,tH,eH⟩:=wp i hi;exact sz (vp i hi).t tH eH
 have fsz:∀i,i<m->Bd (s+69) (f i)/\(f i).length<=9:=λi hi=>by
  obtain⟨H,tH,eH⟩:=wp i (by omega);exact sz (H:=U9 H (v (i+1))) (fp i hi).t (Fx _ _) λt=>by rw[eH,vf i hi,U6];grind
 have pv:∀i,i<=m->Uz (Pi f i)/\∀t,Ux (Pi f i) t*Ux (v i) t=Ux (v 0) t:=λi=>by
  induction i with
  |zero=>intro _;exact⟨rfl,λt=>by simp only[Pi];rw[G9];grind⟩
  |
   succ i ih =>
   intro hi;obtain⟨t1,t2⟩:=ih (by omega);exact⟨Fx _ _,λt=>by rw[<-t2 t,vf i (by omega)];simp only[Pi];rw[U6];grind⟩
 have psz:∀i,i<=m->Bd (s+69) (Pi f i)/\(Pi f i).length<=9:=λi hi=>by
  obtain⟨H,tH,eH⟩:=wp 0 (by omega);obtain⟨t1,t2⟩:=pv i hi;exact sz (H:=U9 (v i) H) t1 (Fx _ _) λt=>by rw[eH,U6,<-t2 t];grind
 have ov:∀i,i<=m->Uz (A5 f i)/\0<U8 (A5 f i)/\∃E,Uz E/\∀t,Ux (Pi f i) t=Ux (A5 f i) t*Ux E t:=λi=>by
  induction i with
  |zero=>intro _;exact⟨rfl,(show 0<U8 [1] by decide),[1],rfl,λt=>by simp only[Pi,A5];rw[G9];grind⟩
  |
   succ i ih =>
   intro hi;obtain⟨t1,t0,E,t2,t3⟩:=ih (by omega);simp only[A5,Pi];by_cases h2:i % 2=0
   ·rw[if_pos h2];have hne:0<(A5 f i).length:=by
     rcases Qy (A5 f i).length with e|e
     ·rw[Qh e]at t0;exact absurd t0 (by decide)
     ·exact e
    have f1:=fp i (by omega);have:=ZO t1 f1.t (Fx _ _) (λt=>U6 (A5 f i) (f i) t) hne (by have:=f1.n;omega);exact⟨Fx _ _,by rw[this];exact W8 t0 f1.l,E,t2,λt=>by rw[U6,U6,t3];grind⟩
   ·rw[if_neg h2];exact⟨t1,t0,U9 E (f i),Fx _ _,λt=>by rw[U6,U6,t3];grind⟩
 refine⟨m,f,hm1,by omega,⟨⟨n,gs,by rw[Gn];exact i3,by omega,λk hk=>?_⟩,by omega⟩,λi hi=>?_,?_,?_,?_,λi hi=>?_⟩
 ·have ga:(gs++[[1]]).getD k []=gs.getD k []:=by rw[Qd,Q6 (by omega),<-Qd]
  have gb:(gs++[[1]]).getD (k+1) []=gs.getD (k+1) []:=by rw[Qd,Q6 (by omega),<-Qd]
  rw[ga,gb];have s1:=i8 k (by omega);have a1:=gsz k (by omega);have a2:=gsz (k+1) (by omega);have a3:=vsz k (by omega);have a4:=vsz (k+1) (by omega);have a5:=fsz k hk;have nz:∀{q},Pr1 q->q.length≠0:=λh=>h.n
  refine⟨v k,v (k+1),f k,?_,?_,?_,?_⟩
  ·exact tY s1.pp.t s1.pg.t (vp k (by omega)).t s1.pg.n (vp k (by omega)).n (λt=>by rw[vw k hk];exact s1.e t) (by omega) a2.1 a3.1 (by omega)
  ·rcases Q9 (k+1) m with h|h
   ·have gc:(gs++[[1]]).getD (k+2) []=gs.getD (k+2) []:=by rw[Qd,Q6 (by omega),<-Qd]
    have s2:=i8 (k+1) (by omega);rw[gc];exact tY s2.pp.t s2.pg.t (vp (k+1) (by omega)).t s2.pg.n (vp (k+1) (by omega)).n (λt=>by rw[vw (k+1) h];exact s2.e t) (by omega) (gsz (k+2) (by omega)).1 a4.1 (by omega)
   ·have gc:(gs++[[1]]).getD (k+2) []=[1]:=by
     rw[Qd,Zp (by omega)];rw[show k+2-gs.length=0 by omega];rfl
    rw[gc,show k+1=m by omega,vm,hm,i7];exact cU rfl (by decide) (b1 (by decide))
  ·rw[Gn,Gn,Ch (vp k (by omega)),Ch (vp (k+1) (by omega))];exact tY (vp k (by omega)).t (vp (k+1) (by omega)).t (fp k hk).t (vp (k+1) (by omega)).n (fp k hk).n (vf k hk) (by omega) a4.1 a5.1 (by omega)
  ·rw[Gn,Ch (fp k hk)]
 ·have a:=psz i (by omega);have b:=fsz i hi;exact⟨Uv a.1 (by omega),by omega,Uv b.1 (by omega),by omega⟩
 ·have e0:Pi f m=v 0:=by
   obtain⟨t1,t2⟩:=pv m (Qj _);exact Ao t1 (vp 0 (by omega)).t λt=>by rw[<-t2 t,vm,G9];grind
  rw[e0,vw 0 (by omega)];cases ws with
  |nil=>simp at hm;omega
  |cons w ws=>exact jM (by omega) i1
 ·unfold oN;rw[if_neg (by omega),i1];show(tP ws).bind _=_;rw[f1];show VP 0 [1] fs=_;obtain⟨E0,tE0,hE0⟩:∃E,Uz E/\∀t,Ux (U5 p) t=Ux [1] t*Ux (M3 fs) t*Ux E t:=by
   obtain⟨q,o,q1,q2,pt⟩:=xH h;unfold oN at q2;rw[if_neg (by omega),i1]at q2;have q2:(tP ws).bind _=_:=q2;rw[f1]at q2;obtain⟨H,tH,eH⟩:=pt.oh;cases ws with
   |nil=>simp at hm;omega
   |
    cons w ws' =>
    obtain⟨E,tE,eE⟩:=FO f2 f3 λu hu=>(BD i2 u hu).1.t
    obtain⟨H,tH,eH⟩:=wp 0 (by omega);exact⟨U9 E H,Fx _ _,λt=>by
     have:=eE t;have e0:v 0=w:=vw 0 (by omega);rw[eH,e0,this,G9,U6];grind⟩
  obtain⟨o,q1,_,_⟩:=JM hb (by omega) pp.t pp.n (by omega) fs 0 [1] E0 rfl rfl tE0 f3 hE0;have:=sN (f:=f) fs 0 o q1 λj hj=>by rw[hf,Zz]
  rw[q1,this,Zz,o1,<-hm]
 ·obtain⟨t1,t0,E,t2,t3⟩:=ov m (Qj _);obtain⟨H,tH,eH⟩:=wp 0 (by omega);obtain⟨u1,u2⟩:=pv m (Qj _);exact⟨t1,lD (g:=U9 E (U9 (v m) H)) pp.m λt=>by rw[eH,U6,U6,<-u2 t,t3];grind,t0⟩
 ·obtain⟨t1,_,E,t2,t3⟩:=ov i hi;obtain⟨H,tH,eH⟩:=wp 0 (by omega);obtain⟨u1,u2⟩:=pv i hi;have:=sz (H:=U9 E (U9 (v i) H)) t1 (Fx _ _) λt=>by rw[eH,U6,U6,<-u2 t,t3];grind
  exact⟨Uv this.1 (by omega),by omega⟩
end Orq
namespace Orr
open Go
def Tl:Uo->Nat
 | []=>0
 |x::l=>x+10000*Tl l
def Dg(l:Uo):Prop:=∀x∈l,x<10000
def Gg(x:Nat):Uo:=if h:x=0 then []else(x % 10000)::Gg (x / 10000)
termination_by x
decreasing_by omega
theorem Hm:Gg 0=[]:=by unfold Gg;simp
theorem Oq{x:Nat}(h:x≠0):Gg x=(x % 10000)::Gg (x / 10000):=by rw[Gg];simp[h]
theorem Rk(x:Nat):Tl (Gg x)=x:=by
 induction x using Nat.strongRecOn with
 |
  _ x ih =>
  rcases Qy x with h|h
  ·subst h;rw[Hm];rfl
  ·rw[Oq (by omega)];simp only[Tl];rw[ih _ (by omega)];omega
theorem Bw(x:Nat):Dg (Gg x):=by
 induction x using Nat.strongRecOn with
 |
  _ x ih =>
  rcases Qy x with h|h
  ·subst h;rw[Hm];intro y hy;cases hy
  ·rw[Oq (by omega)];intro y hy;rcases Qt.1 hy with rfl|hy
   ·omega
   ·exact ih _ (by omega) y hy
theorem WZ{x:Nat}:(Gg x).length=0↔x=0:=by
 constructor
 ·intro h;have h0:=Qh h;have:=Rk x;rw[h0]at this;exact this.symm
 ·rintro rfl;rw[Hm];rfl
theorem Ag{x:Nat}(h:x≠0):(Gg (x / 10000)).length+1=(Gg x).length:=by rw[Oq h];rfl
theorem iH{x:Nat}(h:x<1000000000000):(Gg x).length<=3:=by
 by_cases h0:x=0
 ·subst h0;rw[Hm];exact Qg _
 ·have h1:=Ag h0;by_cases h2:x / 10000=0
  ·rw[h2,Hm]at h1;simp at h1;omega
  ·have h3:=Ag h2;by_cases h4:x / 10000 / 10000=0
   ·rw[h4,Hm]at h3;simp at h3;omega
   ·have h5:=Ag h4;have h6:x / 10000 / 10000 / 10000=0:=by omega
    rw[h6,Hm]at h5;simp at h5;omega
theorem Ms(x:Nat):(Gg x).length<=sz x:=by
 induction x using Nat.strongRecOn with
 |
  _ x ih =>
  by_cases h0:x=0
  ·subst h0;rw[Hm];exact Qg _
  ·have h1:=Ag h0;have h2:=ih (x / 10000) (by omega);have h3:sz (x / 10000)+1<=sz x:=by
    have h4:x<2^sz x:=WP x;rcases hs:sz x with _|k
    ·rw[hs]at h4;simp at h4;omega
    ·rw[hs]at h4;have:sz (x / 10000)<=k:=Bl.2 (by rw[Zl]at h4;omega);omega
   omega
theorem Pm(a b:Uo):Tl (a++b)=Tl a+10000^a.length*Tl b:=by
 induction a with
 |nil=>simp[Tl]
 |
  cons x a ih =>
  simp only[Xf,Tl,ih,Zc,Zl];rw[Xw,<-Xk,Zg 10000 (10000^a.length)];omega
theorem Sb{l:Uo}{i x:Nat}(h:l[i]? = some x):Tl (l.take (i+1))=Tl (l.take i)+10000^i*x:=by
 have hi:=(Qf.1 h).1;rw[show l.take (i+1)=l.take i++[x] by rw[Xd,h];rfl,Pm,Qq,Zx (by omega)];simp[Tl]
theorem NN:∀{l:Uo},Dg l->Tl l<10000^l.length
 | [],_=>by simp[Tl]
 |
  x::l,h=>by
  have h1:=h x (Q0 ..);have h2:=NN (l:=l) λy hy=>h y (Qp _ hy)
  simp only[Tl,Zc,Zl];omega
theorem NB:∀{l:Uo},(∀x∈l,x=0)->Tl l=0
 | [],_=>rfl
 |
  x::l,h=>by
  have h1:=h x (Q0 ..);have h2:=NB (l:=l) λy hy=>h y (Qp _ hy)
  simp[Tl,h1,h2]
theorem Dg.take{l:Uo}(h:Dg l)(k:Nat):Dg (l.take k):=λx hx=>h x (Ql hx)
theorem Dg.snoc{l:Uo}(h:Dg l){x:Nat}(hx:x<10000):Dg (l++[x]):=by
 intro y hy;rcases Qr.1 hy with hy|hy
 ·exact h y hy
 ·rw[Qo.1 hy];exact hx
theorem Dg.nil:Dg []:=λx h=>by cases h
theorem tX:∀{l:Uo},Dg l->(∀x,l[l.length-1]? = some x->x≠0)->l=Gg (Tl l)
 | [],_,_=>by rw[Tl,Hm]
 |
  x::l,h,hl=>by
  have h1:=h x (Q0 ..);have h2:l=Gg (Tl l):=tX (λy hy=>h y (Qp _ hy)) λy hy=>hl y (by
   rcases l with _|⟨z,t⟩
   ·simp at hy
   ·simpa using hy)
  have h3:x+10000*Tl l≠0:=by
   intro e;have hx:x=0:=by omega
   have hd:Tl l=0:=by omega
   rw[hd,Hm]at h2;subst h2;exact hl x rfl hx
  simp only[Tl];rw[Oq h3,show(x+10000*Tl l) % 10000=x by omega,show(x+10000*Tl l) / 10000=Tl l by omega,<-h2]
theorem kK{l:Uo}{m:Nat}(hd:Dg l)(hm:m<=l.length)(h1:∀j x,m<=j->l[j]? = some x->x=0)(h2:0<m->∃y,l[m-1]? = some y/\y≠0):l.take m=Gg (Tl l):=by
 have e:Tl l=Tl (l.take m):=by
  conv=>lhs;rw[<-Zj m l,Pm]
  rw[NB (l:=l.drop m) λx hx=>?_]
  ·omega
  ·obtain⟨j,hj⟩:=Zi.1 hx;rw[Xb]at hj;exact h1 (m+j) x (by omega) hj
 rw[e];refine tX (hd.take m) λx hx=>?_
 have hl:(l.take m).length=m:=by rw[Qq];omega
 rw[hl]at hx;rcases Qy m with h0|h0
 ·subst h0;simp at hx
 ·obtain⟨y,hy,hy0⟩:=h2 h0;rw[Jj (by omega),hy]at hx;injection hx with hx;rw[<-hx];exact hy0
theorem EC{o c i d m P V:Nat}(hP:P=10000^i)(h:o+c*P=V):o+P*((c+d*m) % 10000)+(c+d*m) / 10000*(P*10000)=V+P*d*m:=by
 have e:=Xj (c+d*m) 10000;generalize (c+d*m) / 10000=q at *;generalize (c+d*m) % 10000=r at *;have e2:P*(c+d*m)=P*(10000*q+r):=by rw[e]
 grind
theorem ZV{x y:Nat}(h:x<=y):(Gg x).length<=(Gg y).length:=by
 induction y using Nat.strongRecOn generalizing x with
 |
  _ y ih =>
  by_cases h0:x=0
  ·subst h0;rw[Hm];exact Qg _
  ·have h1:=Ag h0;have h2:=Ag (x:=y) (by omega);have:=ih (y / 10000) (by omega) (x:=x / 10000) (Nat.div_le_div_right h);omega
theorem iG{n x:Nat}(h:10000^n<=x):n+1<=(Gg x).length:=by
 have h1:=NN (Bw x);rw[Rk]at h1;have h2:n<(Gg x).length:=(Nat.pow_lt_pow_iff_right (by decide)).1 (Z8 h h1);omega
theorem kY{x y:Nat}(h:(Gg x).length<(Gg y).length):x<y:=by
 rcases Q9 x y with h1|h1
 ·exact h1
 ·have:=ZV h1;omega
theorem iR{k y:Nat}(h:y<10000^k):(Gg y).length<=k:=by
 induction k generalizing y with
 |
  zero =>
  have:y=0:=by simpa using h
  subst this;rw[Hm];exact Qj _
 |
  succ k ih =>
  by_cases hy0:y=0
  ·subst hy0;rw[Hm];exact Qg _
  ·have h8:=Ag hy0;have:=ih (y:=y / 10000) (by rw[Zl]at h;omega);omega
theorem Qdg{o:Uo}(h:Dg o)(hl:o.length<=(Gg (Tl o)).length):o=Gg (Tl o):=by
 refine tX h λx hx h0=>?_
 subst h0;have hne:0<o.length:=by
  rcases o with _|⟨a,o⟩
  ·simp at hx
  ·simp
 have h1:Tl o=Tl (o.take (o.length-1)):=by
  have:=Sb hx;rw[show o.length-1+1=o.length by omega,Q7]at this;omega
 have h2:=NN (h.take (o.length-1));rw[<-h1,Qq,Zx (by omega)]at h2;have:=iR h2;omega
theorem ZU{l:Uo}{j d:Nat}(h:l[j]? = some d):Tl (l.drop j)=d+10000*Tl (l.drop (j+1)):=by
 obtain⟨hj,he⟩:=Qf.1 h;rw[Zt hj,he];rfl
theorem FN{l:Uo}{j y:Nat}(h:j<l.length):(l.set j y).drop j=y::l.drop (j+1):=by
 rw[Zt (by simpa using h)];simp only[List.getElem_set_self];rw[List.drop_set_of_lt (by omega)]
theorem Dg.set{l:Uo}(h:Dg l){j y:Nat}(hy:y<10000):Dg (l.set j y):=by
 intro x hx;rcases Yo hx with hx|rfl
 ·exact h x hx
 ·exact hy
theorem Dg.zeros(n:Nat):Dg (List.replicate n 0):=by
 intro x hx;rw[Zv hx];decide
theorem kU{V kd d:Nat}(hk:0<kd):(d+10000*V) / kd=(V % kd*10000+d) / kd+10000*(V / kd)/\(d+10000*V) % kd=(V % kd*10000+d) % kd/\(d<10000->(V % kd*10000+d) / kd<10000):=by
 have e:=Xj V kd;have e2:d+10000*V=(V % kd*10000+d)+kd*(10000*(V / kd)):=by
  conv=>lhs;rw[<-e]
  grind
 refine⟨?_,?_,λhd=>?_⟩
 ·rw[e2,Wa _ _ hk]
 ·rw[e2,Ke]
 ·have:=Xe V hk;exact(V1 hk).2 (by grind)
theorem PQ(l:Uo)(j:Nat)(h:j<=l.length):Tl l=Tl (l.take j)+10000^j*Tl (l.drop j):=by
 conv=>lhs;rw[<-Zj j l,Pm]
 rw[Qq,Zx h]
theorem NF{a b:Uo}{j d e:Nat}(ha:Dg a)(hd:a[j]? = some d)(he:b[j]? = some e)(hs:a.drop (j+1)=b.drop (j+1))(h:d<e):Tl a<Tl b:=by
 have h1:=(Qf.1 hd).1;have h2:=(Qf.1 he).1;rw[PQ a j (by omega),PQ b j (by omega),ZU hd,ZU he,hs];have h3:=NN (ha.take j);rw[Qq,Zx (by omega)]at h3;generalize 10000^j=P at *;have h4:P*(d+10000*Tl (b.drop (j+1)))+P<=P*(e+10000*Tl (b.drop (j+1))):=by
  rw[<-Kk];exact Zd _ (by omega)
 omega
def dl(l:Uo):LV:=.row (l.map λ(x:Nat)=>[.int .i64 (x:Int)])
theorem Ru(l:Uo):(l.map λ(x:Nat)=>[LV.int .i64 (x:Int)]).length=l.length:=by simp
theorem Gy{l:Uo}{i x:Nat}(h:l[i]? = some x):(l.map λ(x:Nat)=>[LV.int .i64 (x:Int)])[i]? = some [.int .i64 (x:Int)]:=by rw[Ze,h];rfl
abbrev nd(x:Nat):LV:=dl (Gg x)
end Orr
namespace Orr
open Go Go.Proofs Tryz
set_option maxRecDepth 10000
abbrev Bi(l:Uo):Us:=l.map λ(x:Nat)=>[.int .i64 (x:Int)]
theorem Qo4(l:Uo):∀c∈Bi l,c.length=1:=λc hc=>by obtain⟨x,_,rfl⟩:=Zw.1 hc;rfl
theorem FT{l:Uo}(hd:Dg l):Uj 379 [.one (.row (Bi l))] [.one (nd (Tl l))]:=by
 refine Hz func379 rfl (ln 0 rfl rfl λhl=>?_);rw[Q8]at hl;refine Ud [] rfl ?_;refine lp (S:=Nat) 0 (λL1 n=>(3,.v (.oi n))::L1) (λ_=>[]) id (λn=>n<=l.length/\∀j x,n<=j->l[j]? = some x->x=0) (Bi l).length ⟨by simp,λj x h1 h2=>by
  have:=(Qf.1 h2).1;simp at h1;omega⟩ rfl (λ_ _=>rfl) rfl λn ⟨h1,h2⟩=>?_
 cases n with
 |zero=>exact Uf [.g 8 false (by simp),.f rfl,.i 0] rfl (by have:=kK hd h1 h2 (λh=>by omega);unfold nd;rw[<-this];simp[dl]) (by simp[Uw])
 |
  succ n =>
  obtain⟨x,hx⟩:=gxE (l:=l) (i:=n) (by omega);by_cases h0:x=0
  ·refine Ue [.g 8 true (by simp),.r 11 (v:=.oi n) (by simp),.x (Gy hx),.t (by simp[h0]),.r 17 (v:=.oi n) (by simp)] rfl ?_;exact rd n (by simp) ⟨by omega,λj y h3 h4=>by
    rcases Vl h3 with rfl|h3
    ·rw[hx]at h4;injection h4 with h4;rw[<-h4,h0]
    ·exact h2 j y h3 h4⟩ rfl
  ·exact Uf [.g 8 true (by simp),.r 11 (v:=.oi n) (by simp),.x (Gy hx),.f (by simp[h0]),.i (n+1)] rfl (by have:=kK hd h1 h2 (λ_=>⟨x,hx,h0⟩);unfold nd;rw[<-this];simp[dl,List.map_take]) (by simp[Uw] <;> omega)
theorem bW{x kd:Nat}(hxs:sz x<=100000000)(hk:0<kd/\kd<=65536):Uj 350 [.one (nd x),.oi kd] [.one (nd (x / kd)),.oi ((x % kd:Nat):Int)]:=by
 have hln:=Qc (Ms x) hxs;obtain⟨l,hl⟩:=nmE (Gg x);have hx:Tl l=x:=by rw[hl,Rk]
 have hd:Dg l:=by rw[hl];exact Bw x
 show Uj 350 [.one (.row (Bi (Gg x))),.oi kd] _;rw[<-hl]at hln ⊢;rw[<-hx];have hll:=Ru l;refine Hz func350 rfl ?_;refine Ue [.i (Bi l).length,.i (Bi l).length] rfl ?_;rw[hll,show List.replicate l.length [LV.int .i64 0]=Bi (List.replicate l.length 0) from by simp[Bi]];refine Ui (S:=Nat×Uo×Nat) 1 (λL1 s=>(8,.v (.oi ((s.1:Int)-1)))::(7,.v (.oi (s.2.2:Int)))::L1) (λs=>[.row false 3 1 (Bi s.2.1)]) (λs=>s.1) (λs=>s.1<=l.length/\s.2.1.length=l.length/\Dg s.2.1/\Tl (s.2.1.drop s.1)=Tl (l.drop s.1) / kd/\s.2.2=Tl (l.drop s.1) % kd) (l.length,List.replicate l.length 0,0) ⟨Qj _,by simp,Dg.zeros _,by simp[Tl],by simp[Tl]⟩ rfl rfl λ⟨k,o,R⟩ ⟨j1,j2,j3,j4,hR⟩=>?_
 dsimp only at j1 j2 j3 j4 hR ⊢;cases k with
 |
  zero =>
  have cc:=FT j3;rw[X9,X9]at j4;rw[j4]at cc;exact Uf [.f (by simp),.k cc] rfl (by rw[hR,X9]) trivial
 |
  succ k =>
  obtain⟨d,hdk⟩:=gxE (l:=l) (i:=k) (by omega);have hd0:=hd d (Qa hdk);have hdd:=ZU hdk;obtain⟨s1,s2,s3⟩:=kU (V:=Tl (l.drop (k+1))) (kd:=kd) (d:=d) hk.1;rw[<-hdd]at s1 s2;have hr:=Xe (Tl (l.drop (k+1))) hk.1;rw[<-hR]at s1 s2 s3 hr;have e:((k+1:Nat):Int)-1=(k:Int):=by omega
  have htd:((R:Int)*10000+(d:Int)).tdiv (kd:Int)=(((R*10000+d) / kd:Nat):Int):=rfl;have hle:=Ya (R*10000+d) kd;have htb:0<=((R:Int)*10000+(d:Int)).tdiv (kd:Int)/\((R:Int)*10000+(d:Int)).tdiv (kd:Int)<=655369999:=by
   rw[htd];revert hle;generalize (R*10000+d) / kd=Q;intro hle;omega
  rw[e];refine Ue [.t (by simp),.x (Gy hdk),.r 26 (eI (b:=((R*10000+d:Nat):Int)) (by omega)),.r 31 (eI (b:=(((R*10000+d) / kd:Nat):Int)) (by rfl)),.i k,.r 35 (eI (b:=(((R*10000+d) % kd:Nat):Int)) (by rfl))] rfl ?_;exact rd (k,o.set k ((R*10000+d) / kd),(R*10000+d) % kd) (by dsimp only;omega) ⟨by dsimp only;omega,by simp[j2],j3.set (s3 hd0),by dsimp only;rw[FN (by omega)];simp only[Tl];rw[j4,s1],by dsimp only;exact s2.symm⟩ (by simp[Bi,List.map_set];rfl)
theorem Qqo(x k:Nat):sz (x / k)<=sz x:=Te (Ya _ _)
theorem sU{x y:Nat}{o:Uo}(h:Gf x=o++Gf y)(h0:y≠0):Gf x=(o++[y % 4294967296])++Gf (y / 4294967296):=by
 rw[h,Lu h0];simp
theorem Qkf(o:Uo)(z:Nat):lm (o++[z])=lm o++[[.int .u32 (z:Int)]]:=by simp[lm]
theorem Qrw{x:Nat}(hx:sz x<=100000000):Uj 269 [.one (nd x)] [lr (Gf x)]:=by
 have hlx:=T0 hx;refine Hz func269 rfl ?_;refine Ud [.o 3 222 1] rfl ?_;refine Ui (S:=Nat×Uo) 1 (λL1 s=>(0,.v (.one (nd s.1)))::(3,.v (.one (.orow 0 1 none)))::L1) (λs=>[.row false 222 1 (lm s.2)]) (λs=>s.1) (λs=>Gf x=s.2++Gf s.1/\s.1<=x) (x,[]) ⟨rfl,Qj _⟩ rfl rfl λ⟨y,o⟩ ⟨j1,j2⟩=>?_
 dsimp only at j1 j2 ⊢;by_cases h0:y=0
 ·subst h0;rw[Hn,Xi]at j1;rw[j1];exact Uf [.f (by simp[Hm])] rfl
 ·have hs:=sU j1 h0;have hsy:sz y<=100000000:=Qc (Te j2) hx;have c1:=bW (x:=y) (kd:=65536) hsy (by decide);have c2:=bW (x:=y / 65536) (kd:=65536) (Qc (Qqo _ _) hsy) (by decide);have hl:(Gg y).length≠0:=λh=>h0 (WZ.1 h)
  have ol:o.length<=(Gf x).length:=by rw[j1];simp
  have e:y / 65536 % 65536*65536+y % 65536=y % 4294967296:=by omega
  have e2:y / 65536 / 65536=y / 4294967296:=by omega
  refine go tt [.t (by simp;omega),.k c1,.k c2,.r 26 (Li (b:=((y % 4294967296:Nat):Int)) (by omega)),.s (sz:=1) (l:=[[.int .u32 ((y % 4294967296:Nat):Int)]]) (λc hc=>by rw[Qo.1 hc];rfl)] rfl (by simp[Uw,U0];omega) ?_;rw[<-e2]at hs;exact rd (y / 65536 / 65536,o++[y % 4294967296]) (by dsimp only;omega) ⟨hs,by dsimp only;omega⟩ (by rw[Qkf];rfl)
abbrev ri(z:Int):Ur:=[nd z.natAbs,sg z]
theorem Qs1(b:Bool)(m:Nat):[nd m,LV.bool (b && decide (0<m))]=ri (Fb b m):=by
 simp only[ri,sg,Tx,CY]
theorem Qpt(x:Nat):(0<(Gg x).length)↔0<x:=by
 have:=WZ (x:=x);omega
theorem Ae(b:Bool)(m:Nat):Uj 253 [.one (nd m),.one (.bool b)] [.agg (ri (Fb b m))]:=by
 rw[<-Qs1];have e:=Qpt m;cases b with
 |false=>exact Ug func253 rfl [.g 7 false rfl] rfl
 |true=>exact Ug func253 rfl [.g 7 true rfl] rfl (by simp[e]) trivial
theorem Nm{z:Int}:Uj 247 [.agg (ri z)] [.one (.bool (decide (z=0)))] :=
 Ug func247 rfl [] rfl (by have h:=WZ (x:=z.natAbs);simp only[Ru];congr 3;rw[decide_eq_decide];omega) trivial
theorem Oi{z:Int}:Uj 250 [.agg (ri z)] [.agg (ri (-z))]:=by
 have h:=Ae (!decide (z<0)) z.natAbs;have e:Fb (!decide (z<0)) z.natAbs=-z:=by unfold Fb;by_cases h:z<0 <;> simp[h] <;> omega
 rw[e]at h;exact Ug func250 rfl [.k h] rfl
theorem Qb2{z:Int}(hz:Ff z<=100000000):Uj 172 [.agg (ri z)] [.agg (H9 z)] :=
 Ug func172 rfl [.k (Qrw hz)] rfl
theorem eBo{a b:Bool}(h:a=b):TV.one (LV.bool a)=.one (.bool b):=h ▸ rfl
theorem Ai(l:Uo)(x:Nat):Bi (l++[x])=Bi l++[[.int .i64 (x:Int)]]:=by simp[Bi]
theorem kV{x y:Nat}{o:Uo}(h:Gg x=o++Gg y)(h0:y≠0):Gg x=(o++[y % 10000])++Gg (y / 10000):=by
 rw[h,Oq h0];simp
theorem Qoo{b:Bool}{x:Nat}(hx:x<=4000000000000000000)(hb:b=true->0<x):Uj 156 [.oi (Fb b x)] [.agg (ri (Fb b x))]:=by
 have hl:(Gg x).length<=100:=by
  have:=Ms x;have h2:sz x<=64:=Bl.2 (by omega);omega
 have hm:=Ae b x;refine Hz func156 rfl ?_;cases b with
 |
  false =>
  show AK prog _ _ _ (YT 0 [.oi x]) [];refine Ud [.f (by simp <;> omega),.r 3 (eBo (b:=false) (by simp)),.f rfl,.o 4 3 1] rfl ?_;refine Ui (S:=Nat×Uo) 2 (λL1 s=>(0,.v (.oi (s.1:Int)))::(4,.v (.one (.orow 1 1 none)))::L1) (λs=>[.blk 32 [.nils,.bool false],.row false 3 1 (Bi s.2)]) (λs=>s.1) (λs=>Gg x=s.2++Gg s.1/\s.1<=x) (x,[]) ⟨rfl,Qj _⟩ rfl rfl λ⟨y,o⟩ ⟨j1,j2⟩=>?_
  dsimp only at j1 j2 ⊢;by_cases h0:y=0
  ·subst h0;rw[Hm,Xi]at j1;rw[<-j1];exact Uf [.f (by simp),.k hm] rfl
  ·have hs:=kV j1 h0;have ol:o.length<=(Gg x).length:=by rw[j1];simp
   refine go tt [.t (by simp;omega),.r 18 (eI (b:=((y % 10000:Nat):Int)) (by rfl)),.s (sz:=1) (l:=[[.int .i64 ((y % 10000:Nat):Int)]]) (λc hc=>by rw[Qo.1 hc];rfl),.r 22 (eI (b:=((y / 10000:Nat):Int)) (by rfl))] rfl (by simp[Uw,Ru];omega) ?_;exact rd (y / 10000,o++[y % 10000]) (by dsimp only;omega) ⟨hs,by dsimp only;omega⟩ (by rw[Ai];rfl)
 |
  true =>
  show AK prog _ _ _ (YT 0 [.oi (-(x:Int))]) [];refine Ue [.f (by simp <;> omega),.r 3 (eBo (b:=true) (by simpa using hb rfl)),.t rfl,.r 0 (eI (b:=(x:Int)) (by omega)),.o 4 3 1] rfl ?_;refine Ui (S:=Nat×Uo) 2 (λL1 s=>(0,.v (.oi (s.1:Int)))::(4,.v (.one (.orow 1 1 none)))::L1) (λs=>[.blk 32 [.nils,.bool false],.row false 3 1 (Bi s.2)]) (λs=>s.1) (λs=>Gg x=s.2++Gg s.1/\s.1<=x) (x,[]) ⟨rfl,Qj _⟩ rfl rfl λ⟨y,o⟩ ⟨j1,j2⟩=>?_
  dsimp only at j1 j2 ⊢;by_cases h0:y=0
  ·subst h0;rw[Hm,Xi]at j1;rw[<-j1];exact Uf [.f (by simp),.k hm] rfl
  ·have hs:=kV j1 h0;have ol:o.length<=(Gg x).length:=by rw[j1];simp
   refine go tt [.t (by simp;omega),.r 18 (eI (b:=((y % 10000:Nat):Int)) (by rfl)),.s (sz:=1) (l:=[[.int .i64 ((y % 10000:Nat):Int)]]) (λc hc=>by rw[Qo.1 hc];rfl),.r 22 (eI (b:=((y / 10000:Nat):Int)) (by rfl))] rfl (by simp[Uw,Ru];omega) ?_;exact rd (y / 10000,o++[y % 10000]) (by dsimp only;omega) ⟨hs,by dsimp only;omega⟩ (by rw[Ai];rfl)
theorem D9{n:Int}(hn:-4000000000000000000<=n/\n<=4000000000000000000):Uj 156 [.oi n] [.agg (ri n)]:=by
 have e:Fb (decide (n<0)) n.natAbs=n:=by unfold Fb;by_cases h:n<0 <;> simp[h] <;> omega
 have h:=Qoo (b:=decide (n<0)) (x:=n.natAbs) (by omega) (λh=>by have:=of_decide_eq_true h;omega);rwa[e]at h
theorem VW(x:Nat):(Bi (Gg x)).length=(Gg x).length:=Ru _
theorem XF(z:Int):∀c∈[[LV.int .i64 z]],c.length=1:=λc hc=>by rw[Qo.1 hc];rfl
theorem Qr1{x:Nat}(h:x<=1000000000):(Gg x).length<=3:=iH (by omega)
theorem tdn(n:Nat):((n:Nat):Int).tdiv 10000=((n / 10000:Nat):Int):=rfl
theorem KJ(n:Nat):((n:Nat):Int).tdiv 2=((n / 2:Nat):Int):=rfl
theorem KC{x mu c0:Nat}(hx:sz x<=100000000)(hmu:mu<=65536)(hc:c0<=1000000000):Uj 345 [.one (nd x),.oi mu,.oi c0] [.one (nd (x*mu+c0))]:=by
 have hxl:=Qc (Ms x) hx;have hll:=VW x;show Uj 345 [.one (.row (Bi (Gg x))),.oi mu,.oi c0] _;refine Hz func345 rfl ?_;refine Ue [.r 11 (eI (b:=(((Gg x).length+2:Nat):Int)) (by rw[hll];omega)),.i 0,.i ((Gg x).length+2)] rfl ?_;refine Ui (S:=Nat×Nat×Uo) 1 (λL1 s=>(8,.v (.oi (s.1:Int)))::(7,.v (.one (.orow 0 1 none)))::(2,.v (.oi (s.2.1:Int)))::L1.filter (λx=>x.1 != 12)) (λs=>[.row false 3 1 (Bi s.2.2)]) (λs=>((Gg x).length-s.1)*4+(Gg s.2.1).length) (λs=>Dg s.2.2/\s.2.2.length=s.1/\Tl s.2.2+s.2.1*10000^s.1=Tl ((Gg x).take s.1)*mu+c0/\(s.1<=(Gg x).length\/s.1+(Gg s.2.1).length<=(Gg x).length+3)/\s.2.1<=1000000000) (0,c0,[]) ⟨Dg.nil,rfl,by simp[Tl],.inl (Qg _),hc⟩ rfl rfl λs hs=>?_
 obtain⟨i,c,o⟩:=s;obtain⟨hp0,hp1,hp2,hp3,hp4⟩:=hs;dsimp only at hp0 hp1 hp2 hp3 hp4 ⊢;have hcl:=Qr1 (x:=c) hp4;by_cases h1:i<(Gg x).length
 ·obtain⟨d,hd⟩:=gxE (l:=(Gg x)) (i:=i) h1;have hd9:=Bw x d (Qa hd);have hdm:d*mu<=9999*65536:=Zs (by omega) hmu;have hc3:=Qr1 (x:=(c+d*mu) / 10000) (by omega);have hol:(Bi o).length=i:=by rw[Ru,hp1]
  refine go tt [.g 17 true Ul,.t rfl,.T,.x (Gy hd),.r 33 (eI (b:=((d*mu:Nat):Int)) (by simp)),.r 34 (eI (b:=((c+d*mu:Nat):Int)) (by omega)),.r 37 (eI (b:=(((c+d*mu) % 10000:Nat):Int)) (by rfl)),.s (sz:=1) (XF _),.r 41 (eI (b:=(((c+d*mu) / 10000:Nat):Int)) (by rfl))] rfl (by simp[Uw,hol,tdn,KJ,-Int.natCast_add,-Int.natCast_mul];omega) ?_;exact rd (i+1,(c+d*mu) / 10000,o++[(c+d*mu) % 10000]) (by dsimp only;omega) ⟨hp0.snoc (Nat.mod_lt _ (by decide)),by dsimp only;rw[List.length_append];show o.length+1=_;omega,by
   dsimp only;rw[Pm,Sb hd,hp1,Nat.pow_succ];simp only[Tl,Nat.mul_zero,Nat.add_zero];have:=EC (d:=d) (m:=mu) rfl hp2;rw[this];grind,.inl (by dsimp only;omega),by dsimp only;omega⟩ (by rw[Ai];rfl)
 ·by_cases h2:0<c
  ·have hdc:=Ag (x:=c) (by omega);have hol:(Bi o).length=i:=by rw[Ru,hp1]
   refine go tt [.g 17 false Uk,.T,.F,.r 37 (eI (b:=((c % 10000:Nat):Int)) (by rfl)),.s (sz:=1) (XF _),.r 41 (eI (b:=((c / 10000:Nat):Int)) (by rfl))] rfl (by simp[Uw,hol,tdn,KJ,-Int.natCast_add];omega) ?_;exact rd (i+1,c / 10000,o++[c % 10000]) (by dsimp only;omega) ⟨hp0.snoc (Nat.mod_lt _ (by decide)),by dsimp only;rw[List.length_append];show o.length+1=_;omega,by
    dsimp only;rw[Pm,hp1,Nat.pow_succ];simp only[Tl,Nat.mul_zero,Nat.add_zero];have:=EC (d:=0) (m:=mu) rfl hp2;simp only[Nat.zero_mul,Nat.mul_zero,Nat.add_zero]at this;rw[this,List.take_of_length_le (by omega),List.take_of_length_le (by omega)],.inr (by dsimp only;omega),by dsimp only;omega⟩ (by rw[Ai];rfl)
  ·have cc:=FT hp0;rw[show Tl o=x*mu+c0 from by
    have h:=hp2;rw[Qn (by omega),Rk,show c=0 by omega]at h;omega]at cc
   exact Uf [.g 17 false Uk,.F,.k cc] rfl
theorem Qau{l:Uo}{j d:Nat}(h:l[j]? = some d):val (l.drop j)=d+4294967296*val (l.drop (j+1)):=by
 have hi:=(Qf.1 h).1;rw[Zt hi,(Qf.1 h).2];rfl
theorem TO:∀(l:Uo) (j:Nat),val (l.drop j)<=val l
 |l,0=>Qj _
 | [],j+1=>by simp
 |
  x::l,j+1=>by
  have:=TO l j;rw[List.drop_succ_cons];simp only[val];omega
theorem Qiu{l:Uo}(hu:∀u∈l,u<4294967296)(hl:l.length≤1099511627776)(hx:sz (val l)≤100000000):Uj 342 [lr l] [.one (nd (val l))]:=by
 have hll:=U0 l;show Uj 342 [.one (.row (lm l))] _;refine Hz func342 rfl ?_;refine Ue [.z 3,.r 7 (eI (b:=((l.length:Nat):Int)-1) (by rw[hll]))] rfl ?_;refine Ui (S:=Nat×Uo) 0 (λL1 s=>(4,.v (.oi ((s.1:Int)-1)))::(3,.v (.one (.row (Bi s.2))))::L1) (λ_=>[]) (λs=>s.1) (λs=>s.1<=l.length/\s.2=Gg (val (l.drop s.1))) (l.length,[]) ⟨Nat.le_refl _,by dsimp only;rw[List.drop_eq_nil_of_le (Nat.le_refl _)];show []=Gg 0;rw[Hm]⟩ rfl rfl λs hs=>?_
 obtain⟨j,o⟩:=s;obtain⟨hj,ho⟩:=hs;dsimp only at hj ho ⊢;subst ho;cases j with
 |zero=>exact Uf [.f (by simp)] rfl (by rw[X9];rfl) trivial
 |
  succ j =>
  obtain⟨d,hd⟩:=gxE (l:=l) (i:=j) (by omega);have hd9:=hu d (Qa hd);have hdd:=Qau hd;have hle:=TO l j;have hs2:sz (val (l.drop (j+1))*65536+d / 65536)<=100000000:=Qc (Te (by omega)) hx;have hs1:sz (val (l.drop (j+1)))<=100000000:=Qc (Te (by omega)) hx;have c1:=KC (x:=val (l.drop (j+1))) (mu:=65536) (c0:=d / 65536) hs1 (by omega) (by omega);have c2:=KC (x:=val (l.drop (j+1))*65536+d / 65536) (mu:=65536) (c0:=d % 65536) hs2 (by omega) (by omega);have ej:((j+1:Nat):Int)-1=(j:Int):=by omega
  have e2:(val (l.drop (j+1))*65536+d / 65536)*65536+d % 65536=val (l.drop j):=by rw[hdd];omega
  rw[e2]at c2;rw[ej];refine go tt [.T,.x (Gz hd),.r 17 (Li (b:=((d / 65536:Nat):Int)) (by rfl)),.k c1,.x (Gz hd),.r 25 (Li (b:=((d % 65536:Nat):Int)) (by rfl)),.k c2] rfl (by simp[Uw,IntKind.bits];omega) ?_;exact rd (j,Gg (val (l.drop j))) (by dsimp only;omega) ⟨by dsimp only;omega,rfl⟩ rfl
theorem rX{x y:Nat}(hx:sz x<=200000000)(hy:sz y<=200000000):Uj 324 [.one (nd x),.one (nd y)] [.oi (QS x y)]:=by
 have hxl:=Qc (Ms x) hx;have hyl:=Qc (Ms y) hy;have lx:=VW x;have ly:=VW y;show Uj 324 [.one (.row (Bi (Gg x))),.one (.row (Bi (Gg y)))] _;refine Hz func324 rfl ?_;by_cases hl:(Gg x).length=(Gg y).length
 ·refine Ue [.f (by simp;omega),.r 18 (eI (b:=((Gg x).length:Int)-1) (by rw[lx]))] rfl ?_;refine Ui (S:=Nat) 0 (λL1 j=>(5,.v (.oi ((j:Int)-1)))::L1) (λ_=>[]) (λj=>j) (λj=>j<=(Gg x).length/\(Gg x).drop j=(Gg y).drop j) (Gg x).length ⟨Qj _,by rw[Ye (Qj _),Ye (by omega)]⟩ rfl rfl λj hs=>?_
  obtain⟨hj,hp⟩:=hs;cases j with
  |
   zero =>
   have hxy:x=y:=by rw[X9,X9]at hp;rw[<-Rk x,<-Rk y,hp]
   exact Uf [.f (by simp)] rfl (by rw[bS hxy]) trivial
  |
   succ j =>
   obtain⟨d,hd⟩:=gxE (l:=(Gg x)) (i:=j) (by omega);obtain⟨e,he⟩:=gxE (l:=(Gg y)) (i:=j) (by omega);have ej:((j+1:Nat):Int)-1=(j:Int):=by omega
   rw[ej];by_cases h2:d=e
   ·refine Ue [.T,.x (Gy hd),.x (Gy he),.f (by simp[h2])] rfl ?_;exact rd j (by omega) ⟨by omega,by rw[Zt (by omega:j<(Gg x).length),Zt (by omega:j<(Gg y).length),hp,(Qf.1 hd).2,(Qf.1 he).2,h2]⟩ rfl
   ·by_cases h3:d<e
    ·have hxy:=NF (Bw x) hd he hp h3;rw[Rk,Rk]at hxy;exact Uf [.T,.x (Gy hd),.x (Gy he),.t (by simp;omega),.x (Gy hd),.x (Gy he),.T] rfl (by rw[SI hxy]) trivial
    ·have hxy:=NF (Bw y) he hd hp.symm (by omega);rw[Rk,Rk]at hxy;exact Uf [.T,.x (Gy hd),.x (Gy he),.t (by simp;omega),.x (Gy hd),.x (Gy he),.F] rfl (by rw[SE hxy]) trivial
 ·by_cases hlt:(Gg x).length<(Gg y).length
  ·exact Uf [.t (by simp;omega),.T] rfl (by rw[SI (kY hlt)]) trivial
  ·exact Uf [.t (by simp;omega),.F] rfl (by rw[SE (kY (by omega))]) trivial
theorem JY{o c s P V:Nat}(h:o+c*P=V):o+P*((c+s) % 10000)+(c+s) / 10000*(P*10000)=V+P*s:=by
 have e:=Xj (c+s) 10000;generalize (c+s) / 10000=q at *;generalize (c+s) % 10000=r at *;have e2:P*(c+s)=P*(10000*q+r):=by rw[e]
 grind
theorem Ik{l:Uo}{i:Nat}(h:l.length<=i):Tl (l.take (i+1))=Tl (l.take i):=by rw[Qn (by omega),Qn h]
theorem cN{l:Uo}{p v u:Nat}(h:l[p]? = some v):Tl (l.set p u)+10000^p*v=Tl l+10000^p*u:=by
 have hp:=(Qf.1 h).1;rw[PQ (l.set p u) p (by rw[X2];omega),PQ l p (by omega),ZU h,FN hp,List.take_set_of_le (Qj _)];simp only[Tl];generalize 10000^p=P;grind
theorem Aj{l:Uo}{p u:Nat}(h:p<l.length):Tl ((l.set p u).take (p+1))=Tl (l.take p)+10000^p*u:=by
 rw[Sb (l:=l.set p u) (i:=p) (x:=u) (by simp[h]),List.take_set_of_le (Qj _)]
structure AddI(x y:Nat)(s:Nat×Nat×List Nat):Prop where
 d:Dg s.2.2
 l:s.2.2.length=s.1
 v:Tl s.2.2+s.2.1*10000^s.1=Tl ((Gg x).take s.1)+Tl ((Gg y).take s.1)
 c:s.2.1<=1
 b:s.1<=max (Gg x).length (Gg y).length\/s.1=max (Gg x).length (Gg y).length+1/\10000^(max (Gg x).length (Gg y).length)<=x+y/\s.2.1=0
theorem Qod{x y:Nat}(hx:sz x<=200000000)(hy:sz y<=200000000):Uj 323 [.one (nd x),.one (nd y)] [.one (nd (x+y))]:=by
 have hxl:=Qc (Ms x) hx;have hyl:=Qc (Ms y) hy;have lx:=VW x;have ly:=VW y;show Uj 323 [.one (.row (Bi (Gg x))),.one (.row (Bi (Gg y)))] _;refine Hz func323 rfl ?_;refine Ud [.o 5 3 1] rfl ?_;refine Ui (S:=Nat×Nat×Uo) 1 (λL1 s=>(7,.v (.oi (s.1:Int)))::(6,.v (.oi (s.2.1:Int)))::(5,.v (.one (.orow 0 1 none)))::L1) (λs=>[.row false 3 1 (Bi s.2.2)]) (λs=>(max (Gg x).length (Gg y).length-s.1)*2+s.2.1) (AddI x y) (0,0,[]) ⟨Dg.nil,rfl,by simp[Tl],by decide,.inl (Qg _)⟩ rfl rfl λs hs=>?_
 obtain⟨i,c,o⟩:=s;obtain⟨hp0,hp1,hp2,hp3,hp4⟩:=hs;dsimp only at hp0 hp1 hp2 hp3 hp4 ⊢;have hol:(Bi o).length=i:=by rw[Ru,hp1]
 by_cases h1:i<(Gg x).length
 ·obtain⟨d,hd⟩:=gxE (l:=(Gg x)) (i:=i) h1;have hd9:=Bw x d (Qa hd);by_cases h2:i<(Gg y).length
  ·obtain⟨e,he⟩:=gxE (l:=(Gg y)) (i:=i) h2;have he9:=Bw y e (Qa he);refine go tt [.g 12 true Ul,.g 18 true rfl,.t rfl,.T,.x (Gy hd),.r 33 (eI (b:=((c+d:Nat):Int)) (by omega)),.T,.x (Gy he),.r 43 (eI (b:=((c+(d+e):Nat):Int)) (by omega)),.r 46 (eI (b:=(((c+(d+e)) % 10000:Nat):Int)) (by rfl)),.s (sz:=1) (XF _),.r 50 (eI (b:=(((c+(d+e)) / 10000:Nat):Int)) (by rfl))] rfl (by simp[Uw,hol,tdn,KJ,-Int.natCast_add];omega) ?_;exact rd (i+1,(c+(d+e)) / 10000,o++[(c+(d+e)) % 10000]) (by dsimp only;omega) ⟨hp0.snoc (Nat.mod_lt _ (by decide)),by dsimp only;rw[List.length_append];show o.length+1=_;omega,by
    dsimp only;rw[Pm,hp1,Nat.pow_succ];simp only[Tl,Nat.mul_zero,Nat.add_zero];have:=JY (s:=d+e) hp2;rw[this,Sb hd,Sb he];grind,by dsimp only;omega,.inl (by dsimp only;omega)⟩ (by rw[Ai];rfl)
  ·refine go tt [.g 12 true Ul,.g 18 true rfl,.t rfl,.T,.x (Gy hd),.r 33 (eI (b:=((c+d:Nat):Int)) (by omega)),.F,.r 46 (eI (b:=(((c+d) % 10000:Nat):Int)) (by rfl)),.s (sz:=1) (XF _),.r 50 (eI (b:=(((c+d) / 10000:Nat):Int)) (by rfl))] rfl (by simp[Uw,hol,tdn,KJ,-Int.natCast_add];omega) ?_;exact rd (i+1,(c+d) / 10000,o++[(c+d) % 10000]) (by dsimp only;omega) ⟨hp0.snoc (Nat.mod_lt _ (by decide)),by dsimp only;rw[List.length_append];show o.length+1=_;omega,by
    dsimp only;rw[Pm,hp1,Nat.pow_succ];simp only[Tl,Nat.mul_zero,Nat.add_zero];have:=JY (s:=d) hp2;rw[this,Sb hd,Ik (l:=Gg y) (by omega)];grind,by dsimp only;omega,.inl (by dsimp only;omega)⟩ (by rw[Ai];rfl)
 ·by_cases h2:i<(Gg y).length
  ·obtain⟨e,he⟩:=gxE (l:=(Gg y)) (i:=i) h2;have he9:=Bw y e (Qa he);refine go tt [.g 12 false Uk,.g 18 true Ul,.t rfl,.F,.T,.x (Gy he),.r 43 (eI (b:=((c+e:Nat):Int)) (by omega)),.r 46 (eI (b:=(((c+e) % 10000:Nat):Int)) (by rfl)),.s (sz:=1) (XF _),.r 50 (eI (b:=(((c+e) / 10000:Nat):Int)) (by rfl))] rfl (by simp[Uw,hol,tdn,KJ,-Int.natCast_add];omega) ?_;exact rd (i+1,(c+e) / 10000,o++[(c+e) % 10000]) (by dsimp only;omega) ⟨hp0.snoc (Nat.mod_lt _ (by decide)),by dsimp only;rw[List.length_append];show o.length+1=_;omega,by
    dsimp only;rw[Pm,hp1,Nat.pow_succ];simp only[Tl,Nat.mul_zero,Nat.add_zero];have:=JY (s:=e) hp2;rw[this,Sb he,Ik (l:=Gg x) (by omega)];grind,by dsimp only;omega,.inl (by dsimp only;omega)⟩ (by rw[Ai];rfl)
  ·by_cases h3:0<c
   ·refine go tt [.g 12 false Uk,.g 18 false Uk,.T,.F,.F,.r 46 (eI (b:=((c % 10000:Nat):Int)) (by rfl)),.s (sz:=1) (XF _),.r 50 (eI (b:=((c / 10000:Nat):Int)) (by rfl))] rfl (by simp[Uw,hol,tdn,KJ,-Int.natCast_add];omega) ?_;exact rd (i+1,c / 10000,o++[c % 10000]) (by dsimp only;omega) ⟨hp0.snoc (Nat.mod_lt _ (by decide)),by dsimp only;rw[List.length_append];show o.length+1=_;omega,by
     dsimp only;rw[Pm,hp1,Nat.pow_succ];simp only[Tl,Nat.mul_zero,Nat.add_zero];have:=JY (s:=0) hp2;rw[Nat.add_zero,Nat.mul_zero,Nat.add_zero]at this;rw[this,Ik (l:=Gg y) (by omega),Ik (l:=Gg x) (by omega)],by dsimp only;omega,.inr ⟨by dsimp only;omega,by
      have h:=hp2;rw[List.take_of_length_le (by omega),List.take_of_length_le (by omega),Rk,Rk,show c=1 by omega,Nat.one_mul,show i=(max (Gg x).length (Gg y).length) by omega]at h;omega,by dsimp only;omega⟩⟩ (by rw[Ai];rfl)
   ·have hv:Tl o=x+y:=by
     have h:=hp2;rw[Qn (by omega),Qn (by omega),Rk,Rk,show c=0 by omega]at h;omega
    have hfin:o=Gg (x+y):=by
     have h:=Qdg (o:=o) hp0;rw[hv]at h;refine h ?_;have m1:=ZV (x:=x) (y:=x+y) (by omega);have m2:=ZV (x:=y) (y:=x+y) (by omega);rcases hp4 with hb|⟨_,hb,_⟩
     ·omega
     ·have:=iG hb;omega
    exact Uf [.g 12 false Uk,.g 18 false Uk,.F] rfl (by rw[hfin];rfl) trivial
theorem JV{o b a c P u d e c':Nat}(h:o+b=a+c*P)(hs:u+e+c=d+10000*c'):(o+P*u)+(b+P*e)=(a+P*d)+c'*(P*10000):=by
 have e2:P*(u+e+c)=P*(d+10000*c'):=by rw[hs]
 grind
theorem Ou(o:Uo)(i u:Nat):Bi (o.set i u)=(Bi o).set i [.int .i64 (u:Int)]:=by simp[Bi,V0]
theorem rF{x y:Nat}(hx:sz x<=200000000)(hy:sz y<=200000000)(hyx:y<=x):Uj 325 [.one (nd x),.one (nd y)] [.one (nd (x-y))]:=by
 have hxl:=Qc (Ms x) hx;have hyl:=Qc (Ms y) hy;have lx:=VW x;have ly:=VW y;have hmy:=ZV hyx;show Uj 325 [.one (.row (Bi (Gg x))),.one (.row (Bi (Gg y)))] _;refine Hz func325 rfl ?_;refine Ue [.i (Bi (Gg x)).length,.i (Bi (Gg x)).length] rfl ?_;rw[lx,show List.replicate (Gg x).length [LV.int .i64 0]=Bi (List.replicate (Gg x).length 0) from by simp[Bi]];refine Ui (S:=Nat×Nat×Uo) 1 (λL1 s=>(14,.v (.oi (s.1:Int)))::(6,.v (.oi (s.2.1:Int)))::L1) (λs=>[.row false 3 1 (Bi s.2.2)]) (λs=>(Gg x).length-s.1) (λs=>s.1<=(Gg x).length/\s.2.2.length=(Gg x).length/\Dg s.2.2/\Tl (s.2.2.take s.1)+Tl ((Gg y).take s.1)=Tl ((Gg x).take s.1)+s.2.1*10000^s.1/\s.2.1<=1) (0,0,List.replicate (Gg x).length 0) ⟨Qg _,X1 ..,Dg.zeros _,by simp[Tl],Qg _⟩ rfl rfl λs hs=>?_
 obtain⟨i,c,o⟩:=s;obtain⟨hp0,hp1,hp2,hp3,hp4⟩:=hs;dsimp only at hp0 hp1 hp2 hp3 hp4 ⊢;have hol:(Bi o).length=(Gg x).length:=by rw[Ru,hp1]
 by_cases h1:i<(Gg x).length
 ·obtain⟨d,hd⟩:=gxE (l:=(Gg x)) (i:=i) h1;have hd9:=Bw x d (Qa hd);by_cases h2:i<(Gg y).length
  ·obtain⟨e,he⟩:=gxE (l:=(Gg y)) (i:=i) h2;have he9:=Bw y e (Qa he);by_cases h3:d<c+e
   ·refine go tt [.T,.x (Gy hd),.T,.x (Gy he),.T,.r 36 (eI (b:=((d+10000-c-e:Nat):Int)) (by omega)),.i i] rfl (by simp[Uw,hol,tdn,KJ,-Int.natCast_add];omega) ?_;exact rd (i+1,1,o.set i (d+10000-c-e)) (by dsimp only;omega) ⟨by dsimp only;omega,by dsimp only;rw[List.length_set];exact hp1,hp2.set (by omega),by
     dsimp only;rw[Aj (by omega),Sb hd,Sb he,Nat.pow_succ];exact JV hp3 (u:=d+10000-c-e) (d:=d) (e:=e) (c':=1) (by omega),by dsimp only;omega⟩ (by rw[Ou];rfl)
   ·refine go tt [.T,.x (Gy hd),.T,.x (Gy he),.r 32 (eI (b:=((d-c-e:Nat):Int)) (by omega)),.F,.i i] rfl (by simp[Uw,hol,tdn,KJ,-Int.natCast_add];omega) ?_;exact rd (i+1,0,o.set i (d-c-e)) (by dsimp only;omega) ⟨by dsimp only;omega,by dsimp only;rw[List.length_set];exact hp1,hp2.set (by omega),by
     dsimp only;rw[Aj (by omega),Sb hd,Sb he,Nat.pow_succ];exact JV hp3 (u:=d-c-e) (d:=d) (e:=e) (c':=0) (by omega),by dsimp only;omega⟩ (by rw[Ou];rfl)
  ·have hy0:Tl ((Gg y).take (i+1))=Tl ((Gg y).take i)+10000^i*0:=by rw[Ik (by omega),Y4,Xy]
   by_cases h3:d<c
   ·refine go tt [.T,.x (Gy hd),.F,.T,.r 36 (eI (b:=((d+10000-c:Nat):Int)) (by omega)),.i i] rfl (by simp[Uw,hol,tdn,KJ,-Int.natCast_add];omega) ?_;exact rd (i+1,1,o.set i (d+10000-c)) (by dsimp only;omega) ⟨by dsimp only;omega,by dsimp only;rw[List.length_set];exact hp1,hp2.set (by omega),by
     dsimp only;rw[Aj (by omega),Sb hd,hy0,Nat.pow_succ];exact JV hp3 (u:=d+10000-c) (d:=d) (e:=0) (c':=1) (by omega),by dsimp only;omega⟩ (by rw[Ou];rfl)
   ·refine go tt [.T,.x (Gy hd),.r 22 (eI (b:=((d-c:Nat):Int)) (by omega)),.F,.F,.i i] rfl (by simp[Uw,hol,tdn,KJ,-Int.natCast_add];omega) ?_;exact rd (i+1,0,o.set i (d-c)) (by dsimp only;omega) ⟨by dsimp only;omega,by dsimp only;rw[List.length_set];exact hp1,hp2.set (by omega),by
     dsimp only;rw[Aj (by omega),Sb hd,hy0,Nat.pow_succ];exact JV hp3 (u:=d-c) (d:=d) (e:=0) (c':=0) (by omega),by dsimp only;omega⟩ (by rw[Ou];rfl)
 ·have hi:i=(Gg x).length:=by omega
  have hv:Tl o=x-y:=by
   have h:=hp3;rw[Qn (by omega),Qn (by omega),Qn (by omega),Rk,Rk]at h;have hlt:=NN hp2;rw[hp1,<-hi]at hlt;have hc0:c=0:=by
    rcases Qy c with h0|h0
    ·exact h0
    ·exfalso;have:c=1:=by omega
     rw[this,Ub]at h;omega
   rw[hc0]at h;omega
  have cc:=FT hp2;rw[hv]at cc;exact Uf [.F,.k cc] rfl
theorem NR{o o2 c P u v s V:Nat}(h:o+c*P=V)(hs:o2+P*v=o+P*u){q:Nat}(hu:u+10000*q=v+c+s):o2+q*(P*10000)=V+P*s:=by
 have e2:P*(u+10000*q)=P*(v+c+s):=by rw[hu]
 grind
theorem Qr3(S:Nat):S % 10000+10000*(S / 10000)=S:=W4 S 10000
structure MulI(x y i d:Nat)(s:Nat×Nat×List Nat):Prop where
 l:s.2.2.length=(Gg x).length+(Gg y).length
 dg:Dg s.2.2
 v:Tl s.2.2+s.2.1*10000^(i+s.1)=Tl ((Gg x).take i)*y+10000^i*d*Tl ((Gg y).take s.1)
 c:s.2.1<10000
 b:s.1<=(Gg y).length/\(∀j v,i+(Gg y).length<=j->s.2.2[j]? = some v->v=0)\/s.1=(Gg y).length+1/\s.2.1=0/\∀j v,i+(Gg y).length+1<=j->s.2.2[j]? = some v->v=0
theorem Qoh{x y:Nat}(hx:sz x<=200000000)(hy:sz y<=200000000):Uj 326 [.one (nd x),.one (nd y)] [.one (nd (x*y))]:=by
 have hxl:=Qc (Ms x) hx;have hyl:=Qc (Ms y) hy;have lx:=VW x;have ly:=VW y;show Uj 326 [.one (.row (Bi (Gg x))),.one (.row (Bi (Gg y)))] _;refine Hz func326 rfl ?_;refine Ue [.r 14 (eI (b:=(((Gg x).length+(Gg y).length:Nat):Int)) (by rw[lx,ly];omega)),.i ((Gg x).length+(Gg y).length),.i ((Gg x).length+(Gg y).length)] rfl ?_;rw[show List.replicate ((Gg x).length+(Gg y).length) [LV.int .i64 0]=Bi (List.replicate ((Gg x).length+(Gg y).length) 0) from by simp[Bi]];refine Ui (S:=Nat×Uo) 1 (λL1 s=>(18,.v (.oi (s.1:Int)))::L1) (λs=>[.row false 3 1 (Bi s.2)]) (λs=>(Gg x).length-s.1) (λs=>s.1<=(Gg x).length/\s.2.length=(Gg x).length+(Gg y).length/\Dg s.2/\Tl s.2=Tl ((Gg x).take s.1)*y/\∀j v,s.1+(Gg y).length<=j->s.2[j]? = some v->v=0) (0,List.replicate ((Gg x).length+(Gg y).length) 0) ⟨Qg _,X1 ..,Dg.zeros _,by rw[NB (λx hx=>Zv hx)];simp[Tl],λj v _ hv=>Zv (Qa hv)⟩ rfl rfl λs hs=>?_
 obtain⟨i,o⟩:=s;obtain⟨hp0,hp1,hp2,hp3,hp4⟩:=hs;dsimp only at hp0 hp1 hp2 hp3 hp4 ⊢;by_cases h1:i<(Gg x).length
 ·obtain⟨d,hd⟩:=gxE (l:=(Gg x)) (i:=i) h1;have hd9:=Bw x d (Qa hd);refine Ud [.T] rfl ?_;refine Ui (S:=Nat×Nat×Uo) 1 (λL1 s=>(8,.v (.oi (s.1:Int)))::(7,.v (.oi (s.2.1:Int)))::L1) (λs=>[.row false 3 1 (Bi s.2.2)]) (λs=>((Gg y).length-s.1)*2+min s.2.1 1) (MulI x y i d) (0,0,o) ⟨hp1,hp2,by dsimp only;rw[hp3];simp[Tl],by show 0<10000;decide,.inl ⟨Nat.zero_le _,hp4⟩⟩ rfl rfl λs hs=>?_
  obtain⟨k,c,o2⟩:=s;obtain⟨hq0,hq1,hq2,hq3,hq4⟩:=hs;dsimp only at hq0 hq1 hq2 hq3 hq4 ⊢;have hol:(Bi o2).length=(Gg x).length+(Gg y).length:=by rw[Ru,hq0]
  by_cases h2:k<(Gg y).length
  ·obtain⟨e,he⟩:=gxE (l:=(Gg y)) (i:=k) h2;have he9:=Bw y e (Qa he);have hde:d*e<=9999*9999:=Zs (by omega) (by omega);obtain⟨v,hoi⟩:=gxE (l:=o2) (i:=i+k) (by omega);have hv9:=hq1 v (Qa hoi);refine go tt [.g 25 true Ul,.t rfl,.r 34 (eI (b:=((i+k:Nat):Int)) (by omega)),.i (i+k),.x (Gy hoi),.r 38 (eI (b:=((v+c:Nat):Int)) (by omega)),.T,.x (Gy hd),.x (Gy he),.r 52 (eI (b:=((d*e:Nat):Int)) (by simp)),.r 53 (eI (b:=((v+c+d*e:Nat):Int)) (by omega)),.r 57 (eI (b:=((i+k:Nat):Int)) (by omega)),.r 59 (eI (b:=(((v+c+d*e) % 10000:Nat):Int)) (by rfl)),.i (i+k),.r 62 (eI (b:=(((v+c+d*e) / 10000:Nat):Int)) (by rfl))] rfl (by simp[Uw,hol,tdn,KJ,-Int.natCast_add,-Int.natCast_mul];omega) ?_;exact rd (k+1,(v+c+d*e) / 10000,o2.set (i+k) ((v+c+d*e) % 10000)) (by dsimp only;omega) ⟨by dsimp only;rw[List.length_set];exact hq0,hq1.set (Nat.mod_lt _ (by decide)),by
    dsimp only;rw[<-Nat.add_assoc i k 1,Nat.pow_succ];have:=NR hq2 (cN hoi (u:=((v+c)+(d*e)) % 10000)) (s:=d*e) (q:=((v+c)+(d*e)) / 10000) (by rw[Qr3]);rw[this,Sb he,Nat.pow_add];grind,by dsimp only;omega,.inl ⟨by dsimp only;omega,λj w hj hw=>(by
     dsimp only at hw;rcases hq4 with⟨_,h⟩|⟨_,_,h⟩ <;> (rw[Yq (by omega)]at hw;exact h j w (by omega) hw))⟩⟩ (by rw[Ou];rfl)
  ·by_cases h3:0<c
   ·have hk:k=(Gg y).length:=by omega
    have hz:∀j v,i+(Gg y).length<=j->o2[j]? = some v->v=0:=by
     rcases hq4 with⟨_,h⟩|⟨_,h,_⟩
     ·exact h
     ·omega
    obtain⟨v,hoi⟩:=gxE (l:=o2) (i:=i+k) (by omega);have hv0:v=0:=hz (i+k) v (by omega) hoi;have hv9:=hq1 v (Qa hoi);refine go tt [.g 25 false Uk,.T,.r 34 (eI (b:=((i+k:Nat):Int)) (by omega)),.i (i+k),.x (Gy hoi),.r 38 (eI (b:=((v+c:Nat):Int)) (by omega)),.F,.r 57 (eI (b:=((i+k:Nat):Int)) (by omega)),.r 59 (eI (b:=(((v+c) % 10000:Nat):Int)) (by rfl)),.i (i+k),.r 62 (eI (b:=(((v+c) / 10000:Nat):Int)) (by rfl))] rfl (by simp[Uw,hol,tdn,KJ,-Int.natCast_add];omega) ?_;exact rd (k+1,(v+c) / 10000,o2.set (i+k) ((v+c) % 10000)) (by dsimp only;omega) ⟨by dsimp only;rw[List.length_set];exact hq0,hq1.set (Nat.mod_lt _ (by decide)),by
     dsimp only;rw[<-Nat.add_assoc i k 1,Nat.pow_succ];have:=NR hq2 (cN hoi (u:=(v+c) % 10000)) (s:=0) (q:=(v+c) / 10000) (by rw[Qr3];rfl);rw[this,Nat.mul_zero,Nat.add_zero,Ik (by omega)],by dsimp only;omega,.inr ⟨by dsimp only;omega,by dsimp only;omega,λj w hj hw=>(by
      dsimp only at hw;rw[Yq (by omega)]at hw;exact hz j w (by omega) hw)⟩⟩ (by rw[Ou];rfl)
   ·refine Ue [.g 25 false Uk,.F] rfl ?_;exact rd (i+1,o2) (by dsimp only;omega) ⟨by dsimp only;omega,hq0,hq1,by
     dsimp only;rw[Sb hd,Jm];have h:=hq2;rw[show c=0 by omega,Qn (l:=Gg y) (i:=k) (by omega),Rk]at h;rw[Yh,Xy]at h;exact h,by
     dsimp only;rcases hq4 with⟨_,h⟩|⟨_,_,h⟩
     ·exact λj w hj hw=>h j w (by omega) hw
     ·exact λj w hj hw=>h j w (by omega) hw⟩ rfl
 ·have hv:Tl o=x*y:=by rw[hp3,Qn (by omega),Rk]
  have cc:=FT hp2;rw[hv]at cc;exact Uf [.F,.k cc] rfl
theorem bN{x y:Nat}:QS x y<=0↔x<=y:=by
 unfold QS;constructor
 ·intro h;split at h
  ·omega
  ·split at h <;> omega
 ·intro h;split
  ·omega
  ·split <;> omega
theorem iP{R y lo:Nat}(h1:y*lo<=R)(h2:R<y*(lo+1)):R / y=lo/\R % y=R-y*lo:=by
 have hy:0<y:=by
  rcases Qy y with h|h
  ·subst h;simp at h2
  ·exact h
 have e:R / y=lo:=Nat.div_eq_of_lt_le (by rw[Zg];exact h1) (by rw[Zg];exact h2);refine⟨e,?_⟩;have:=Xj R y;rw[e]at this;omega
theorem Qhi{R y:Nat}(h:R<y*10000):sz R<=sz y+14:=by
 refine Bl.2 (Xo h ?_);have:=WP y;rw[Xc];have e:(2:Nat)^14=16384:=by decide
 rw[e];exact Zs (by omega) (by decide)
theorem Qao(y:Nat):sz (y*10000)<=sz y+14:=by
 refine Bl.2 ?_;have:=WP y;rw[Xc];have e:(2:Nat)^14=16384:=by decide
 rw[e];omega
theorem Qbm{x y:Nat}(hx:sz x<=90000000)(hy:sz y<=90000000)(hy0:0<y):Uj 344 [.one (nd x),.one (nd y)] [.one (nd (x / y)),.one (nd (x % y))]:=by
 have hxl:=Qc (Ms x) hx;have hyl:=Qc (Ms y) hy;have lx:=VW x;show Uj 344 [.one (.row (Bi (Gg x))),.one (nd y)] _;refine Hz func344 rfl ?_;refine Ue [.i (Bi (Gg x)).length,.i (Bi (Gg x)).length,.z 7,.r 17 (eI (b:=((Gg x).length:Int)-1) (by rw[lx]))] rfl ?_;rw[lx,show List.replicate (Gg x).length [LV.int .i64 0]=Bi (List.replicate (Gg x).length 0) from by simp[Bi]];refine Ui (S:=Nat×Uo×Uo) 1 (λL1 s=>(8,.v (.oi ((s.1:Int)-1)))::(7,.v (.one (.row (Bi s.2.1))))::L1) (λs=>[.row false 3 1 (Bi s.2.2)]) (λs=>s.1) (λs=>s.1<=(Gg x).length/\s.2.2.length=(Gg x).length/\Dg s.2.2/\Tl (s.2.2.drop s.1)=Tl ((Gg x).drop s.1) / y/\s.2.1=Gg (Tl ((Gg x).drop s.1) % y)) ((Gg x).length,[],List.replicate (Gg x).length 0) ⟨Nat.le_refl _,List.length_replicate ..,Dg.zeros _,by dsimp only;rw[List.drop_eq_nil_of_le (by simp),List.drop_eq_nil_of_le (Nat.le_refl _)];simp[Tl],by dsimp only;rw[List.drop_eq_nil_of_le (Nat.le_refl _)];simp[Tl,Hm]⟩ rfl rfl λs hs=>?_
 obtain⟨j,R,o⟩:=s;obtain⟨hp0,hp1,hp2,hp3,hp4⟩:=hs;dsimp only at hp0 hp1 hp2 hp3 hp4 ⊢;cases j with
 |
  zero =>
  have cc:=FT hp2;rw[X9,X9,Rk]at hp3;rw[X9,Rk]at hp4;rw[hp3]at cc;exact Uf [.f (by simp),.k cc] rfl (by rw[hp4];rfl) trivial
 |
  succ j =>
  obtain⟨d,hd⟩:=gxE (l:=(Gg x)) (i:=j) (by omega);have hd9:=Bw x d (Qa hd);have hdd:=ZU hd;obtain⟨hq1,hq2,hq3⟩:=kU (V:=Tl ((Gg x).drop (j+1))) (kd:=y) (d:=d) hy0;rw[<-hdd]at hq1 hq2;have hq3:=hq3 hd9;obtain⟨rr,hrr0⟩:=nmE (Tl ((Gg x).drop (j+1)) % y);have hrr:rr<y:=by rw[hrr0];exact Xe _ hy0
  rw[<-hrr0]at hp4 hq1 hq2 hq3;subst hp4;have hrl:(Gg rr).length<=(Gg y).length:=ZV (by omega);have hR:rr*10000+d<y*10000:=by omega
  have hRs:=Qhi hR;have hdv:Dg (d::Gg rr):=λz hz=>by
   rcases Qt.1 hz with rfl|hz
   ·exact hd9
   ·exact Bw rr z hz
  have cc:=FT hdv;rw[show Tl (d::Gg rr)=rr*10000+d from by simp only[Tl];rw[Rk];omega]at cc;have hol:(Bi o).length=(Gg x).length:=by rw[Ru,hp1]
  have hrrl:=Ru (Gg rr);have ej:((j+1:Nat):Int)-1=(j:Int):=by omega
  rw[ej];refine go tt [.T,.x (Gy hd),.lo,.s (sz:=1) (Qo4 (Gg rr)),.k cc] rfl (by simp[Uw,VW];omega) ?_;refine Ui (S:=Nat×Nat) 2 (λL1 s=>(9,.v (.oi (s.1:Int)))::(10,.v (.oi (s.2:Int)))::L1) (λ_=>[.row false 3 1 (Bi o),.gone]) (λs=>s.2-s.1) (λs=>s.1<=s.2/\s.2<=9999/\y*s.1<=rr*10000+d/\rr*10000+d<y*(s.2+1)) (0,9999) ⟨by decide,by decide,by dsimp only;omega,by dsimp only;omega⟩ rfl rfl λs hs=>?_
  obtain⟨lo,hi⟩:=s;obtain⟨hb0,hb1,hb2,hb3⟩:=hs;dsimp only at hb0 hb1 hb2 hb3 ⊢;by_cases h2:lo<hi
  ·obtain⟨m,hm⟩:=nmE ((lo+hi+1) / 2);have hym:y*m<=y*10000:=Zd y (by omega);have c1:=KC (x:=y) (mu:=m) (c0:=0) (by omega) (by omega) (by omega);have c2:=rX (x:=y*m+0) (y:=rr*10000+d) (Qc (Te (show _<=y*10000 by omega)) (Qc (Qao y) (by omega))) (by omega);by_cases h3:y*m+0<=rr*10000+d
   ·refine go tt [.T,.r 35 (eI (b:=((lo+hi:Nat):Int)) (by omega)),.r 36 (eI (b:=((lo+hi+1:Nat):Int)) (by omega)),.r 37 (eI (b:=(m:Int)) (by rw[hm];rfl)),.k c1,.k c2,.t (decide_eq_true (bN.2 h3))] rfl (by simp[Uw,KJ,-Int.natCast_add];omega) ?_;exact rd (m,hi) (by dsimp only;omega) ⟨by dsimp only;omega,hb1,by dsimp only;omega,hb3⟩ rfl
   ·refine go tt [.T,.r 35 (eI (b:=((lo+hi:Nat):Int)) (by omega)),.r 36 (eI (b:=((lo+hi+1:Nat):Int)) (by omega)),.r 37 (eI (b:=(m:Int)) (by rw[hm];rfl)),.k c1,.k c2,.f (decide_eq_false λh=>h3 (bN.1 h)),.r 46 (eI (b:=((m-1:Nat):Int)) (by omega))] rfl (by simp[Uw,KJ,-Int.natCast_add];omega) ?_;exact rd (lo,m-1) (by dsimp only;omega) ⟨by dsimp only;omega,by dsimp only;omega,hb2,by dsimp only;rw[show m-1+1=m by omega];omega⟩ rfl
  ·have hlh:lo=hi:=by omega
   have hfd:=iP hb2 (by rw[hlh];exact hb3);have c1:=KC (x:=y) (mu:=lo) (c0:=0) (by omega) (by omega) (by omega);have c2:=rF (x:=rr*10000+d) (y:=y*lo+0) (by omega) (Qc (Te (show _<=rr*10000+d by omega)) (by omega)) (by omega);rw[show rr*10000+d-(y*lo+0)=Tl ((Gg x).drop j) % y from by rw[hq2,hfd.2];omega]at c2;refine go tt [.F,.i j,.k c1,.k c2] rfl (by simp[Uw,hol,tdn,KJ,-Int.natCast_add];omega) ?_;exact rd (j,Gg (Tl ((Gg x).drop j) % y),o.set j lo) (by dsimp only;omega) ⟨by dsimp only;omega,by dsimp only;rw[List.length_set];exact hp1,hp2.set (by omega),by
    dsimp only;rw[FN (by omega)];simp only[Tl];rw[hp3,hq1,hfd.1],rfl⟩ (by rw[Ou];rfl)
abbrev fr(q:Rat):Ur:=ri q.num++ri (q.den:Int)
theorem Ah:Gg 1=[1]:=by rw[Oq (by decide)];rw[Hm]
theorem Nc{n:Int}:Uj 155 [.agg (ri n),.agg (ri 1)] [.agg (fr (n:Rat))]:=by
 have h0:(Bi (Gg (1:Int).natAbs))[0]? = some [LV.int .i64 1]:=by rw[show(1:Int).natAbs=1 from rfl,Ah];rfl
 have h1:decide (((Bi (Gg (1:Int).natAbs)).length:Int)=1)=true:=by rw[show(1:Int).natAbs=1 from rfl,Ah];rfl
 exact Ug func155 rfl [.k (Nm (z:=1)),.f rfl,.f rfl,.g 19 true h1,.x h0,.t rfl] rfl
theorem VJ{n:Int}(hn:-4000000000000000000<=n/\n<=4000000000000000000):Uj 101 [.oi n,.oi 1] [.agg (fr (n:Rat))] :=
 Ug func101 rfl [.k (D9 hn),.k (D9 (n:=1) (by decide)),.k Nc] rfl
theorem Qm5{q:Rat}(hq:Qs 100000000 q):Uj 63 [.agg (fr q)] [.agg (rl q)] :=
 Ug func63 rfl [.k (Qb2 hq.1),.k (Qb2 hq.2)] rfl
theorem Qly{a b:Int}(h:(decide (a<0) == decide (b<0))=true):Fb (decide (a<0)) (a.natAbs+b.natAbs)=a+b:=by
 unfold Fb;by_cases h1:a<0 <;> by_cases h2:b<0 <;> simp[h1,h2]at h ⊢ <;> omega
theorem Ql0{a b:Int}(h:¬(decide (a<0) == decide (b<0))=true)(hl:b.natAbs<=a.natAbs):Fb (decide (a<0)) (a.natAbs-b.natAbs)=a+b:=by
 unfold Fb;by_cases h1:a<0 <;> by_cases h2:b<0 <;> simp[h1,h2]at h ⊢ <;> omega
theorem Qgz{a b:Int}(h:¬(decide (a<0) == decide (b<0))=true)(hl:¬b.natAbs<=a.natAbs):Fb (decide (b<0)) (b.natAbs-a.natAbs)=a+b:=by
 unfold Fb;by_cases h1:a<0 <;> by_cases h2:b<0 <;> simp[h1,h2]at h ⊢ <;> omega
theorem JO(a:Int):(∃m:Nat,a=(m:Int))\/∃m:Nat,a=-(m:Int)/\0<m:=by
 rcases K7 a 0 with h|h
 ·exact .inr ⟨a.natAbs,by omega,by omega⟩
 ·exact .inl ⟨a.natAbs,by omega⟩
theorem eS(a b:Int):Fb (!(decide (a<0) == decide (b<0))) (a.natAbs*b.natAbs)=a*b:=by
 rcases JO a with⟨m,rfl⟩|⟨m,rfl,hm⟩ <;> rcases JO b with⟨n,rfl⟩|⟨n,rfl,hn⟩
 ·simp[Fb,show ¬((m:Int)<0) by omega,show ¬((n:Int)<0) by omega]
 ·simp[Fb,show ¬((m:Int)<0) by omega,show(-(n:Int)<0) by omega,hn,Kb]
 ·simp[Fb,show(-(m:Int)<0) by omega,show ¬((n:Int)<0) by omega,hm,Vo]
 ·simp[Fb,show(-(m:Int)<0) by omega,show(-(n:Int)<0) by omega,hm,hn,W3]
theorem Qlz{a b:Int}(h:a % b=0):Fb (!(decide (a<0) == decide (b<0))) (a.natAbs / b.natAbs)=a / b:=by
 by_cases hb:b=0
 ·subst hb;simp[Fb]
 obtain⟨c,rfl⟩:=Yu h;rw[Xp _ hb,J5,Nat.mul_div_cancel_left _ (by omega)];rcases JO b with⟨n,rfl⟩|⟨n,rfl,hn⟩ <;> rcases JO c with⟨m,rfl⟩|⟨m,rfl,hm⟩
 ·have:¬((n:Int)*(m:Int)<0):=by rw[<-Kd];omega
  simp[Fb,this,show ¬((n:Int)<0) by omega]
 ·have h1:0<n*m:=Yg (by omega) hm;have:((n:Int)*-(m:Int)<0):=by rw[Kb,<-Kd];omega
  simp only[this,show ¬((n:Int)<0) by omega];simp[Fb]
 ·by_cases h0:m=0
  ·subst h0;simp[Fb]
  ·have h1:0<n*m:=Yg hn (by omega);have:(-(n:Int)*(m:Int)<0):=by rw[Vo,<-Kd];omega
   simp only[this,show(-(n:Int)<0) by omega];simp[Fb]
 ·have:¬(-(n:Int)*-(m:Int)<0):=by rw[W3,<-Kd];omega
  simp only[this,show(-(n:Int)<0) by omega];simp[Fb]
theorem Qg6(a b:Int):Int.sign (a-b)=Dz a b:=by
 unfold Dz;rcases Jw a b with h|h|h
 ·rw[if_pos h,Jd (by omega)]
 ·rw[if_neg (by omega),if_neg (by omega),h,Int.sub_self];rfl
 ·rw[if_neg (by omega),if_pos h,Ju (by omega)]
theorem bM{x y:Nat}:0<=QS x y↔y<=x:=by
 unfold QS;constructor
 ·intro h;split at h
  ·omega
  ·omega
 ·intro h;split
  ·omega
  ·split <;> omega
theorem NK{x e:Nat}(h:(Gg x).length=1)(he:(Gg x)[0]? = some e):x=e:=by
 rcases hd:Gg x with _|⟨u,l⟩
 ·rw[hd]at h;cases h
 ·rcases l with _|⟨w,l⟩
  ·rw[hd]at he;simp at he;have:=Rk x;rw[hd]at this;simp[Tl]at this;omega
  ·rw[hd]at h;simp at h
theorem tC{a b:Int}(hb:0<b):ri (a / ((Int.gcd a b:Nat):Int))++ri (b / ((Int.gcd a b:Nat):Int))=fr (Rat.divInt a b):=by
 obtain⟨h1,h2⟩:=zA (n:=a) hb;rw[B6,Int.gcd_comm]at h1 h2;rw[h1,h2]
theorem tD(a:Int):ri a++ri 1=fr (Rat.divInt a 1):=by
 have h:=tC (a:=a) (b:=1) (by decide);rw[show((Int.gcd a 1:Nat):Int)=1 by simp]at h;simpa using h
theorem AN{a b:Int}(hb:b≠0)(ha2:Ff a<=90000000)(hb2:Ff b<=90000000):Ff ((Int.gcd a b:Nat):Int)<=90000000/\((Int.gcd a b:Nat):Int)≠0/\a % ((Int.gcd a b:Nat):Int)=0/\b % ((Int.gcd a b:Nat):Int)=0:=by
 have h1:=dH (n:=a) hb hb2;have h2:=kD (n:=a) hb;have h3:=BW a b;have h4:=BU a b;rw[B6,Int.gcd_comm]at h1 h2 h3 h4;exact⟨h1,by omega,h3,h4⟩
theorem OQ{a b:Int}(h:b<0):H4 a b=Rat.divInt (-a) (-b):=by
 unfold H4;rw[if_neg (by omega)];exact(Rat.neg_divInt_neg a b).symm
theorem HY{a b:Int}(h:0<b):H4 a b=Rat.divInt a b:=by
 unfold H4;rw[if_neg (by omega)]
theorem EX(a b:Rat):H4 (a.num*(b.den:Int)+b.num*(a.den:Int)) ((a.den:Int)*(b.den:Int))=a+b:=by
 unfold H4;rw[if_neg (Xq (Nv a) (Nv b)),<-Rat.divInt_add_divInt _ _ (Nv a) (Nv b),Zy,Zy]
theorem IZ(a b:Rat):H4 (a.num*b.num) ((a.den:Int)*(b.den:Int))=a*b:=by
 unfold H4;rw[if_neg (Xq (Nv a) (Nv b)),<-Kz,Zy,Zy]
theorem II{a b:Rat}(h:b≠0):H4 (a.num*(b.den:Int)) ((a.den:Int)*b.num)=a / b:=by
 have hn:b.num≠0:=λe=>h (Rat.num_eq_zero.1 e)
 unfold H4;rw[if_neg (Xq (Nv a) hn),<-Kz,Zy,Yp];congr 1
 conv=>rhs;rw[<-Zy b,Rat.inv_divInt]
theorem Qp4{s:Nat}{a b:Rat}(ha:Qs s a)(hb:Qs s b):Qs (2*s+1) (a+b):=by
 rw[<-EX];unfold H4;rw[if_neg (Xq (Nv a) (Nv b))];refine Qs.divInt (Qc (JH _ _) ?_) (Qc (Ga _ _) (by have:=ha.2;have:=hb.2;omega)) (by omega);have h1:=Ga a.num (b.den:Int);have h2:=Ga b.num (a.den:Int);have:=ha.1;have:=ha.2;have:=hb.1;have:=hb.2;omega
theorem qY{z:Int}(hz:Ff z<=100000000):Uj 246 [.agg (H9 z)] [.agg (ri z)]:=by
 have hl:(Gf z.natAbs).length<=1099511627776:=by have h2:32*(Gf z.natAbs).length<=100000000+31:=T0 hz;omega
 have h:=Qiu (l:=Gf z.natAbs) (λu hu=>(Lx _).1 u hu) hl (by rw[G5];exact hz);rw[G5]at h;have hm:=Ae (decide (z<0)) z.natAbs;have e:Fb (decide (z<0)) z.natAbs=z:=by unfold Fb;by_cases h:z<0 <;> simp[h] <;> omega
 rw[e]at hm;exact Ug func246 rfl [.k h,.k hm] rfl
theorem nI{z:Int}:Uj 266 [.agg (ri z)] [.oi (Int.sign z)]:=by
 have hn:=WZ (x:=z.natAbs);have hl:=VW z.natAbs;rcases Jw z 0 with h|h|h
 ·rw[Jd h];exact Ug func266 rfl [.f (by simp only[Ru];exact decide_eq_false (by omega)),.t (decide_eq_true h)] rfl
 ·subst h;exact Ug func266 rfl [.t (by simp only[Ru];show decide (((Gg 0).length:Int)=0)=true;rw[Hm];rfl)] rfl
 ·rw[Ju h];exact Ug func266 rfl [.f (by simp only[Ru];exact decide_eq_false (by omega)),.F] rfl
theorem rT{a b:Int}(ha:Ff a<=200000000)(hb:Ff b<=200000000):Uj 220 [.agg (ri a),.agg (ri b)] [.agg (ri (a+b))]:=by
 by_cases hs:(decide (a<0) == decide (b<0))=true
 ·have cm:=Ae (decide (a<0)) (a.natAbs+b.natAbs);rw[Qly hs]at cm;exact Ug func220 rfl [.t hs,.k (Qod ha hb),.k cm] rfl
 ·have hs':(decide (a<0) == decide (b<0))=false:=by simpa using hs
  by_cases hl:b.natAbs<=a.natAbs
  ·have cm:=Ae (decide (a<0)) (a.natAbs-b.natAbs);rw[Ql0 hs hl]at cm;exact Ug func220 rfl [.f hs',.k (rX ha hb),.t (decide_eq_true (bM.2 hl)),.k (rF ha hb hl),.k cm] rfl
  ·have cm:=Ae (decide (b<0)) (b.natAbs-a.natAbs);rw[Qgz hs hl]at cm;exact Ug func220 rfl [.f hs',.k (rX ha hb),.f (decide_eq_false λh=>hl (bM.1 h)),.k (rF hb ha (by omega)),.k cm] rfl
theorem Qca{a b:Int}(ha:Ff a<=200000000)(hb:Ff b<=200000000):Uj 346 [.agg (ri a),.agg (ri b)] [.agg (ri (a-b))]:=by
 have ca:=rT (a:=a) (b:=-b) ha (by rw[Hy];exact hb);rw[show a+-b=a-b from by omega]at ca;exact Ug func346 rfl [.k (Oi (z:=b)),.k ca] rfl
theorem Mh{a b:Int}(ha:Ff a<=200000000)(hb:Ff b<=200000000):Uj 221 [.agg (ri a),.agg (ri b)] [.agg (ri (a*b))]:=by
 have cm:=Ae (!(decide (a<0) == decide (b<0))) (a.natAbs*b.natAbs);rw[eS]at cm;exact Ug func221 rfl [.k (Qoh ha hb),.k cm] rfl
theorem Qon{a b:Int}(ha:Ff a<=200000000)(hb:Ff b<=200000000):Uj 314 [.agg (ri a),.agg (ri b)] [.oi (Dz a b)]:=by
 have h:=nI (z:=a-b);rw[Qg6]at h;exact Ug func314 rfl [.k (Qca ha hb),.k h] rfl
theorem FR{a b:Int}(ha:Ff a<=90000000)(hb:Ff b<=90000000)(h0:b≠0)(hd:a % b=0):Uj 252 [.agg (ri a),.agg (ri b)] [.agg (ri (a / b))]:=by
 have cm:=Ae (!(decide (a<0) == decide (b<0))) (a.natAbs / b.natAbs);rw[Qlz hd]at cm;exact Ug func252 rfl [.k (Qbm ha hb (by omega)),.k cm] rfl
theorem Qp9(x:Nat):ri ((x:Nat):Int)=[nd x,.bool false]:=by
 unfold ri sg;rw[Zr,decide_eq_false (by omega)]
theorem MM{a b:Int}(ha:Ff a<=90000000)(hb:Ff b<=90000000):Uj 251 [.agg (ri a),.agg (ri b)] [.agg (ri ((Int.gcd a b:Nat):Int))]:=by
 rw[Qp9];refine Hz func251 rfl ?_;refine Ud [] rfl ?_;refine Ui (S:=Nat×Nat) 3 (λL1 s=>(5,.v (.one (nd s.1)))::(6,.v (.one (nd s.2)))::L1) (λ_=>[.blk 32 (ri a),.blk 32 (ri b),.blk 32 [.nils,.bool false]]) (λs=>s.2) (λs=>Nat.gcd s.1 s.2=Int.gcd a b/\sz s.1<=90000000/\sz s.2<=90000000) (a.natAbs,b.natAbs) ⟨rfl,ha,hb⟩ rfl rfl λs hs=>?_
 obtain⟨x,y⟩:=s;obtain⟨hp0,hp1,hp2⟩:=hs;dsimp only at hp0 hp1 hp2 ⊢;have hyn:=WZ (x:=y);have hyl:=VW y;by_cases h1:y=0
 ·have e:Int.gcd a b=x:=by rw[<-hp0,h1,Nat.gcd_zero_right]
  rw[e];exact Uf [.f (by simp only[Ru];exact decide_eq_false (by omega))] rfl
 ·have hlt:=Xe x (show 0<y by omega);refine Ud [.t (by simp only[Ru];exact decide_eq_true (by omega)),.k (Qbm hp1 hp2 (by omega))] rfl ?_;exact rd (y,x % y) (by dsimp only;omega) ⟨by dsimp only;rw[<-hp0,Nat.gcd_comm x y,Nat.gcd_rec y x,Nat.gcd_comm],hp2,Nat.le_trans (Te (by dsimp only;omega)) hp2⟩ rfl
theorem KN{a b:Int}(ha:Ff a<=90000000)(hb:Ff b<=90000000):Uj 155 [.agg (ri a),.agg (ri b)] [.agg (fr (H4 a b))]:=by
 rcases Jw b 0 with hs|hs|hs
 ·skip
  by_cases h1:-b=1
  ·have h0:(Bi (Gg (-b).natAbs))[0]? = some [LV.int .i64 1]:=by rw[h1,show(1:Int).natAbs=1 from rfl,Ah];rfl
   have hl1:decide (((Bi (Gg (-b).natAbs)).length:Int)=1)=true:=by rw[h1,show(1:Int).natAbs=1 from rfl,Ah];rfl
   have e:fr (H4 a b)=ri (-a)++ri (-b):=by rw[OQ hs,h1];exact(tD _).symm
   rw[e];exact Ug func155 rfl [.k (Nm (z:=b)),.F,.t (decide_eq_true hs),.k (Oi (z:=a)),.k (Oi (z:=b)),.g 19 true hl1,.x h0,.t rfl] rfl
  ·have hgf:=AN (a:=-a) (b:=-b) (by omega) (by first|exact ha|(rw[Hy];exact ha)) (by first|exact hb|(rw[Hy];exact hb));have cg:=MM (a:=-a) (b:=-b) (by first|exact ha|(rw[Hy];exact ha)) (by first|exact hb|(rw[Hy];exact hb));have q1:=FR (a:=-a) (b:=((Int.gcd (-a) (-b):Nat):Int)) (by first|exact ha|(rw[Hy];exact ha)) hgf.1 hgf.2.1 hgf.2.2.1;have q2:=FR (a:=-b) (b:=((Int.gcd (-a) (-b):Nat):Int)) (by first|exact hb|(rw[Hy];exact hb)) hgf.1 hgf.2.1 hgf.2.2.2;have e:fr (H4 a b)=ri ((-a) / ((Int.gcd (-a) (-b):Nat):Int))++ri ((-b) / ((Int.gcd (-a) (-b):Nat):Int)):=by rw[OQ hs];exact(tC (by omega)).symm
   rw[e];have hl:=VW (-b).natAbs;by_cases hl1:(Gg (-b).natAbs).length=1
   ·obtain⟨u,hu⟩:=gxE (l:=(Gg (-b).natAbs)) (i:=0) (by omega);have hue:=NK hl1 hu;exact Ug func155 rfl [.k (Nm (z:=b)),.F,.t (decide_eq_true hs),.k (Oi (z:=a)),.k (Oi (z:=b)),.g 19 true (by simp only[Ru];exact decide_eq_true (by omega)),.x (Gy hu),.F,.k cg,.k q1,.k q2] rfl
   ·exact Ug func155 rfl [.k (Nm (z:=b)),.F,.t (decide_eq_true hs),.k (Oi (z:=a)),.k (Oi (z:=b)),.g 19 false (by simp only[Ru];exact decide_eq_false (by omega)),.f rfl,.k cg,.k q1,.k q2] rfl
 ·subst hs;have h0:(Bi (Gg (1:Int).natAbs))[0]? = some [LV.int .i64 1]:=by rw[show(1:Int).natAbs=1 from rfl,Ah];rfl
  have h1:decide (((Bi (Gg (1:Int).natAbs)).length:Int)=1)=true:=by rw[show(1:Int).natAbs=1 from rfl,Ah];rfl
  have e:fr (H4 a 0)=ri a++ri 1:=(tD a).symm;rw[e];exact Ug func155 rfl [.k (Nm (z:=0)),.t rfl,.k (D9 (n:=1) (by decide)),.f rfl,.g 19 true h1,.x h0,.t rfl] rfl
 ·skip
  by_cases h1:b=1
  ·have h0:(Bi (Gg (b).natAbs))[0]? = some [LV.int .i64 1]:=by rw[h1,show(1:Int).natAbs=1 from rfl,Ah];rfl
   have hl1:decide (((Bi (Gg (b).natAbs)).length:Int)=1)=true:=by rw[h1,show(1:Int).natAbs=1 from rfl,Ah];rfl
   have e:fr (H4 a b)=ri (a)++ri (b):=by rw[HY hs,h1];exact(tD _).symm
   rw[e];exact Ug func155 rfl [.k (Nm (z:=b)),.F,.F,.g 19 true hl1,.x h0,.t rfl] rfl
  ·have hgf:=AN (a:=a) (b:=b) (by omega) (by first|exact ha|(rw[Hy];exact ha)) (by first|exact hb|(rw[Hy];exact hb));have cg:=MM (a:=a) (b:=b) (by first|exact ha|(rw[Hy];exact ha)) (by first|exact hb|(rw[Hy];exact hb));have q1:=FR (a:=a) (b:=((Int.gcd (a) (b):Nat):Int)) (by first|exact ha|(rw[Hy];exact ha)) hgf.1 hgf.2.1 hgf.2.2.1;have q2:=FR (a:=b) (b:=((Int.gcd (a) (b):Nat):Int)) (by first|exact hb|(rw[Hy];exact hb)) hgf.1 hgf.2.1 hgf.2.2.2;have e:fr (H4 a b)=ri ((a) / ((Int.gcd (a) (b):Nat):Int))++ri ((b) / ((Int.gcd (a) (b):Nat):Int)):=by rw[HY hs];exact(tC (by omega)).symm
   rw[e];have hl:=VW (b).natAbs;by_cases hl1:(Gg (b).natAbs).length=1
   ·obtain⟨u,hu⟩:=gxE (l:=(Gg (b).natAbs)) (i:=0) (by omega);have hue:=NK hl1 hu;exact Ug func155 rfl [.k (Nm (z:=b)),.F,.F,.g 19 true (by simp only[Ru];exact decide_eq_true (by omega)),.x (Gy hu),.F,.k cg,.k q1,.k q2] rfl
   ·exact Ug func155 rfl [.k (Nm (z:=b)),.F,.F,.g 19 false (by simp only[Ru];exact decide_eq_false (by omega)),.f rfl,.k cg,.k q1,.k q2] rfl
theorem Qm3{n d:Int}(hn:-1000000000<=n/\n<=1000000000)(hd:-1000000000<=d/\d<=1000000000):Uj 101 [.oi n,.oi d] [.agg (fr (H4 n d))]:=by
 have b1:Ff n<=90000000:=Qc (Tg.2 (show n.natAbs<2^40 by omega)) (by decide);have b2:Ff d<=90000000:=Qc (Tg.2 (show d.natAbs<2^40 by omega)) (by decide);exact Ug func101 rfl [.k (D9 (by omega)),.k (D9 (by omega)),.k (KN b1 b2)] rfl
theorem Qbq{a:Rat}:Uj 154 [.agg (fr a)] [.agg (fr (-a))]:=by
 have e:fr (-a)=ri (-a.num)++ri (a.den:Int):=rfl;rw[e];exact Ug func154 rfl [.k (Oi (z:=a.num))] rfl
theorem qX{a b:Rat}(ha:Qs 20000000 a)(hb:Qs 20000000 b):Uj 100 [.agg (fr a),.agg (fr b)] [.agg (fr (a+b))]:=by
 have k1:=Ga a.num (b.den:Int);have k2:=Ga b.num (a.den:Int);have k3:=Ga (a.den:Int) (b.den:Int);have k4:=JH (a.num*(b.den:Int)) (b.num*(a.den:Int));have h1:=ha.1;have h2:=ha.2;have h3:=hb.1;have h4:=hb.2;have cm:=KN (a:=a.num*(b.den:Int)+b.num*(a.den:Int)) (b:=(a.den:Int)*(b.den:Int)) (by omega) (by omega);rw[EX]at cm;exact Ug func100 rfl [.k (Mh (a:=a.num) (b:=(b.den:Int)) (by omega) (by omega)),.k (Mh (a:=b.num) (b:=(a.den:Int)) (by omega) (by omega)),.k (rT (by omega) (by omega)),.k (Mh (a:=(a.den:Int)) (b:=(b.den:Int)) (by omega) (by omega)),.k cm] rfl
theorem rY{a b:Rat}(ha:Qs 40000000 a)(hb:Qs 40000000 b):Uj 171 [.agg (fr a),.agg (fr b)] [.agg (fr (a*b))]:=by
 have k1:=Ga a.num b.num;have k3:=Ga (a.den:Int) (b.den:Int);have h1:=ha.1;have h2:=ha.2;have h3:=hb.1;have h4:=hb.2;have cm:=KN (a:=a.num*b.num) (b:=(a.den:Int)*(b.den:Int)) (by omega) (by omega);rw[IZ]at cm;exact Ug func171 rfl [.k (Mh (a:=a.num) (b:=b.num) (by omega) (by omega)),.k (Mh (a:=(a.den:Int)) (b:=(b.den:Int)) (by omega) (by omega)),.k cm] rfl
theorem qK{a b:Rat}(ha:Qs 40000000 a)(hb:Qs 40000000 b)(h0:b≠0):Uj 261 [.agg (fr a),.agg (fr b)] [.agg (fr (a / b))]:=by
 have k1:=Ga a.num (b.den:Int);have k3:=Ga (a.den:Int) b.num;have h1:=ha.1;have h2:=ha.2;have h3:=hb.1;have h4:=hb.2;have cm:=KN (a:=a.num*(b.den:Int)) (b:=(a.den:Int)*b.num) (by omega) (by omega);rw[II h0]at cm;exact Ug func261 rfl [.k (Mh (a:=a.num) (b:=(b.den:Int)) (by omega) (by omega)),.k (Mh (a:=(a.den:Int)) (b:=b.num) (by omega) (by omega)),.k cm] rfl
theorem KP{a b:Rat}(ha:Qs 40000000 a)(hb:Qs 40000000 b):Uj 201 [.agg (fr a),.agg (fr b)] [.oi (Hl a b)]:=by
 have k1:=Ga a.num (b.den:Int);have k2:=Ga b.num (a.den:Int);have h1:=ha.1;have h2:=ha.2;have h3:=hb.1;have h4:=hb.2;exact Ug func201 rfl [.k (Mh (a:=a.num) (b:=(b.den:Int)) (by omega) (by omega)),.k (Mh (a:=b.num) (b:=(a.den:Int)) (by omega) (by omega)),.k (Qon (a:=a.num*(b.den:Int)) (b:=b.num*(a.den:Int)) (by omega) (by omega))] rfl
def QN(sg:Um->Int)(l:Un)(i:Nat):Nat×Int:=(l.take i).foldl (Pg sg) (0,0)
theorem jE{sg:Um->Int}(hs:∀p,-1<=sg p/\sg p<=1)(l:Un):∀i,(QN sg l i).1<=i/\-1<=(QN sg l i).2/\(QN sg l i).2<=1
 | 0=>⟨Qj _,show(-1:Int)<=0 by decide,show(0:Int)<=1 by decide⟩
 |
  i+1=>by
  obtain⟨h1,h2,h3⟩:=jE hs l i;cases h:l[i]? with
  |
   none =>
   have:QN sg l (i+1)=QN sg l i:=by unfold QN;rw[List.take_of_length_le (by have:=List.getElem?_eq_none_iff.1 h;omega),List.take_of_length_le (List.getElem?_eq_none_iff.1 h)]
   rw[this];omega
  |
   some p =>
   have:QN sg l (i+1)=Pg sg (QN sg l i) p:=No _ _ _ h;rw[this];have:=hs p;unfold Pg
   split
   ·omega
   ·dsimp only;split <;> omega
theorem Qja{l:Un}{fid:Nat}{l1:Ur}{sg:Um->Int}(hl:l.length≤1000)(hs:∀p,-1≤sg p/\sg p≤1)(h:∀p∈l,OA prog fid [pr p,.one (.sh l1)] [.oi (sg p)]):Uj 398 [.one (.sh [.row (Eu l)]),.one (.fn fid [] [.sh l1])] [.oi (I7 sg l:Nat)]:=by
 have De:=IS l;refine Hz func398 rfl ?_;refine Ud [] rfl ?_;refine Ui (S:=Nat) 0 (λL1 i=>(15,.v (.oi i))::(5,.v (.oi ((QN sg l i).1:Int)))::(6,.v (.one (.int .i64 (QN sg l i).2)))::L1) (λ_=>[]) (λi=>l.length-i) (λi=>i<=l.length) 0 (Qg _) rfl rfl λi hi=>?_
 by_cases hlt:i<l.length
 ·obtain⟨p,hp⟩:=gxE (l:=l) (i:=i) hlt;have hst:QN sg l (i+1)=Pg sg (QN sg l i) p:=No _ _ _ hp;obtain⟨b1,b2,b3⟩:=jE hs l i;have b4:=hs p;by_cases h0:sg p=0
  ·refine Ue [.t (by simp[De];omega),.x (C5 hp),.k (h p (Qa hp)),.t (by simpa using h0)] rfl ?_;exact rd (i+1) (by omega) hlt (by rw[hst,show Pg sg (QN sg l i) p=QN sg l i from by unfold Pg;rw[if_pos h0]];rfl)
  ·by_cases h1:(QN sg l i).2=-(sg p)
   ·refine Ue [.t (by simp[De];omega),.x (C5 hp),.k (h p (Qa hp)),.f (by simpa using h0),.t (by simpa using h1)] rfl ?_;exact rd (i+1) (by omega) hlt (by rw[hst,show Pg sg (QN sg l i) p=((QN sg l i).1+1,sg p) from by unfold Pg;rw[if_neg h0,if_pos h1]];rfl)
   ·refine Ue [.t (by simp[De];omega),.x (C5 hp),.k (h p (Qa hp)),.f (by simpa using h0),.f (by simpa using h1)] rfl ?_;exact rd (i+1) (by omega) hlt (by rw[hst,show Pg sg (QN sg l i) p=((QN sg l i).1,sg p) from by unfold Pg;rw[if_neg h0,if_neg h1]];rfl)
 ·obtain rfl:i=l.length:=by omega
  refine Uf [.f (by simp[De])] rfl ?_ trivial;unfold QN I7;rw[List.take_length]
theorem Qb3{p:Um}{q:Rat}(hp:Pb p)(hq:Qb q):Uj 399 [pr p,.one (.sh (rl q))] [.oi (Fy p q)]:=Ug func399 rfl [.k (SQ hp hq)] rfl
theorem nP{l:Un}{q:Rat}(hl:l.length≤1000)(hp:∀p∈l,Pb p)(hq:Qb q):Uj 370 [.one (.sh [.row (Eu l)]),.agg (rl q)] [.oi (Me l q:Nat)] :=
 Ug func370 rfl [.k (Qja (fid:=399) (l1:=rl q) (sg:=λp=>Fy p q) hl (λp=>Ew p q) λp h=>Qb3 (hp p h) hq)] rfl
theorem UB{sg:Um->Int}(hs:∀p,-1<=sg p/\sg p<=1)(l:Un):I7 sg l<=l.length:=by
 have:=(jE hs l l.length).1;unfold QN at this;rwa[List.take_length]at this
theorem aK{l:Un}{lo hi:Rat}(hl:l.length≤1000)(hp:∀p∈l,Pb p)(ql:Qb lo)(qh:Qb hi):Uj 293 [.one (.sh [.row (Eu l)]),.agg (rl lo),.agg (rl hi)] [.oi (Gw l lo hi)]:=by
 have b1:Me l lo<=l.length:=UB (λp=>Ew p lo) l;have b2:Me l hi<=l.length:=UB (λp=>Ew p hi) l;have c1:=ME qh.s31 ql.s31;unfold Gw;by_cases h:Hl hi lo<0
 ·rw[if_pos h];exact Ug func293 rfl [.k c1,.t (by simpa using h)] rfl
 ·rw[if_neg h];exact Ug func293 rfl [.k c1,.f (by simpa using h),.k (nP hl hp ql),.k (nP hl hp qh)] rfl rfl (by simp[Uw];omega)
theorem Qit{p:Um}{a:Tm}{s:Int}(hp:Pb p)(ha:Tb a)(h:YO p a=some s):Uj 190 [pr p,.agg (ta a)] [.oi s]:=by
 have ca:=Qi9 ha;have pa:=KI ha;have cn:=Ss hp.t hp.ln hp.bd;unfold YO at h;by_cases h0:p.length=0
 ·rw[if_pos h0]at h;injection h with h;subst h;exact Ug func190 rfl [.k cn,.k ca,.t (by simp;exact Qh h0)] rfl
 rw[if_neg h0]at h;have h0:p≠[]:=λe=>h0 (by rw[e];rfl)
 by_cases h1:a.point=true
 ·rw[if_pos h1]at h;injection h with h;subst h;exact Ug func190 rfl [.k cn,.k ca,.f (by simpa using h0),.k pa,.t h1,.k (SQ hp ha.lo)] rfl
 rw[if_neg h1]at h;have h1:a.point=false:=by simpa using h1
 obtain⟨g,g1,h⟩:=Qi.1 h;have cg:=Qoj hp ha.p g1;have pg:=Qp0 hp ha.p g1;have ch:=Qor pg ha.lo ha.hi;by_cases G:1<g.length/\SX g a.lo a.hi=true
 ·rw[if_pos G]at h;injection h with h;subst h;exact Ug func190 rfl [.k cn,.k ca,.f (by simpa using h0),.k pa,.f h1,.k cg,.k (L9 g),.g 29 true (by simp;omega),.k ch,.t G.2] rfl
 rw[if_neg G]at h;obtain⟨c,c1,h⟩:=Qi.1 h;obtain⟨u,u1,h⟩:=Qi.1 h;injection h with h;subst h;obtain⟨cl,call⟩:=chain_ok hp c1;obtain⟨n,hn⟩:=nmE (64+2*(Ff a.lo.num+Ff a.hi.num)+4*(a.p.length+p.length)*(Hr a.p+Hr p+(a.p.length+p.length)+8));have cst:=Qcy ha hp;rw[show mR p a=n from hn.symm]at cst;rw[<-hn]at u1;have hnb:n<=17179938816+200000000:=by
  have l1:=ha.p.l;have l2:=hp.l;have b1:=ha.lo.1;have b2:=ha.hi.1;have s1:Hr a.p<=16777216:=by have:=Ex ha.p.b a.p.length;rwa[Q7]at this
  have s2:Hr p<=16777216:=by have:=Ex hp.b p.length;rwa[Q7]at this
  have:4*(a.p.length+p.length)*(Hr a.p+Hr p+(a.p.length+p.length)+8)<=512*33554568:=Zs (by omega) (by omega);omega
 refine Hz func190 rfl ?_;refine Ud [.k cn,.k ca,.f (by simpa using h0),.k pa,.f h1,.k cg] rfl ?_;refine ct 2 (S:=Unit) (λ_=>[(3,.v (.one (.ow 0 0))),(0,.v (pr p))]) (λ_=>[.blk 59 (ta a)]) (λ_=>True) rfl ?_ ?_
 ·by_cases G1:1<g.length
  ·exact go tt [.k (L9 g),.g 29 true (by simp;omega),.k ch,.f (by simpa using λh=>G ⟨G1,h⟩)] rfl trivial (rc () trivial rfl)
  ·exact go tt [.k (L9 g),.g 29 false (by simp;omega),.f rfl] rfl trivial (rc () trivial rfl)
 rintro _ _
 refine Ud [.k (Qok hp c1),.k cst] rfl ?_;refine Ui (S:=Nat×Tm) 1 (λL1 s=>(46,.v (.oi (s.1:Int)))::L1) (λs=>[.blk 59 (ta s.2)]) (λs=>n-s.1) (λs=>s.1<=n/\Tb s.2/\sgF c (n-s.1) s.2=some u) (0,a) ⟨Qg _,ha,u1⟩ rfl rfl λ⟨i,x⟩ ⟨j1,j2,j3⟩=>?_
 dsimp only at j1 j2 j3 ⊢;by_cases hi:i<n
 ·obtain⟨k,hk⟩:∃k,n-i=k+1:=⟨n-i-1,by omega⟩;have hk':n-(i+1)=k:=by omega
  rw[hk]at j3;simp only[sgF]at j3;have px:=KI j2;have cb:=aK (by omega) call j2.lo j2.hi;have hlt:decide ((i:Int)<(n:Int))=true:=by simp;omega
  by_cases X:x.point=true
  ·rw[if_pos (.inl X)]at j3;injection j3 with j3;subst j3;exact Uf [.t hlt,.k px,.g 50 true X,.t rfl,.k (SQ hp j2.hi)] rfl
  ·have X':x.point=false:=by simpa using X
   by_cases Z:Gw c x.lo x.hi=0
   ·rw[if_pos (.inr Z)]at j3;injection j3 with j3;subst j3;exact Uf [.t hlt,.k px,.g 50 false X',.k cb,.t (by simpa using Z),.k (SQ hp j2.hi)] rfl
   ·rw[if_neg (by rintro (h|h);exact X h;exact Z h)]at j3;obtain⟨v,v1,v2⟩:=Qi.1 j3;refine Ue [.t hlt,.k px,.g 50 false X',.k cb,.f (by simpa using Z),.k (Qoq j2 v1)] rfl ?_;exact rd (i+1,v) (by dsimp only;omega) ⟨hi,Qma j2 v1,by dsimp only;rw[hk'];exact v2⟩ rfl
 ·obtain rfl:i=n:=by omega
  rw[J4]at j3;simp only[sgF]at j3;injection j3 with j3;subst j3;exact Uf [.f (by simp),.k (SQ hp j2.hi)] rfl
end Orr
namespace Orq
open Orr Go
theorem Qns{c:Rat->Int}(hc:Cut c):∀(n:Nat) (f:Up),HD f n->∃s,s≠0/\RS f c s
 |
  n,f,h=>by
  rcases QJ hc f with hv|⟨s,hs,hn⟩
  ·cases n with
   |
    zero =>
    exfalso;obtain⟨q,hq,_⟩:=CZ hc (hv (Fe (f.getD 0 0)) (Cj h.1));cases f with
    |nil=>exact h.1 (by simp)
    |
     cons a l =>
     have:=Do (p:=l) λk=>by have:=h.2 (k+1) (by omega);rwa[Qz]at this
     simp only[ev,this,Zn]at hq;grind
   |
    succ n =>
    have hd:HD (Na f) n:=by
     have key:∀(f:Up) (k:Nat),(Na f).getD k 0=((k+1:Nat):Rat)*f.getD (k+1) 0:=by
      intro f
      induction f with
      |nil=>intro k;simp only[Na,Kt];grind
      |
       cons a f ih =>
       intro k;simp only[Na];rw[Rj,Qz];cases k with
       |zero=>rw[Zn];push_cast;grind
       |succ k=>rw[Qz,ih];push_cast;grind
     refine⟨λh0=>?_,λk hk=>by rw[key,h.2 (k+1) (by omega)];grind⟩;rw[key]at h0;rcases Jn.1 h0 with h1|h1
     ·have:=nat_pos (show 0<n+1 by omega);grind
     ·exact h.1 h1
    obtain⟨s,hs,h1⟩:=Qns hc n (Na f) hd;exact⟨s,hs,jF hc hv h1 hs⟩
  ·exact⟨s,hs,OY hc hn⟩
theorem Qgi{c:Rat->Int}(hc:Cut c){f p q:Up}{s s':Int}(hf:∀t,ev f t=ev p t*ev q t)(h:RS p c s)(h':RS q c s'):RS f c (s*s'):=by
 obtain⟨y,h1,h2⟩:=h;obtain⟨y',h3,h4⟩:=h';refine⟨if y<=y' then y else y',by split <;> assumption,λz z1 z2=>?_⟩;rw[hf,Sx,h2 z z1 (by clear h2 h4;grind),h4 z z1 (by clear h2 h4;grind)]
theorem Qgj{c:Rat->Int}(hc:Cut c){f o S:Up}{k:Rat}(hk:k≠0)(hf:∀t,ev f t=k*(ev o t*(ev S t*ev S t)))(hnz:¬∀t,ev f t=0){s:Int}(h:RS o c s):RS f c (Fj k*s):=by
 obtain⟨n,_,hn⟩:∃n,n<S.length/\HD S n:=by
  rcases RL S with h1|h1
  ·exact absurd (λt=>by rw[hf,h1];grind) hnz
  ·exact h1
 obtain⟨s',hs',h'⟩:=Qns hc n S hn;have h1:=Qgi hc (f:=Gj S S) (λt=>U3 t _ _) h' h';have h2:=Qgi hc (f:=Gj o (Gj S S)) (λt=>U3 t _ _) h h1;have hsq:s'*s'=1:=by
  obtain⟨y,y1,y2⟩:=h';have:=y2 y y1 Qk;rcases Gv (ev S y)with⟨e,_⟩|⟨e,_⟩|⟨e,_⟩
  ·rw[<-this,e];rfl
  ·omega
  ·rw[<-this,e];rfl
 rw[hsq,Wm]at h2;obtain⟨y,y1,y2⟩:=h2;exact⟨y,y1,λz z1 z2=>by
  have:=y2 z z1 z2;rw[U3,U3]at this;rw[hf,Sx,this]⟩
structure Cp(p:List Int):Prop where
 t:Uz p
 l:p.length<=9
 b:Bd 1110 p
theorem Cp.dp{p:Um}(h:Cp p):Dp p:=⟨h.t,h.l,Uv h.b (by omega)⟩
theorem Cp.ok{p:Um}(h:Cp p)(h0:p.length≠0):Okp 9 1180 p:=h.dp.ok h0
def Leq(a:Tm)(c:Rat->Int):Prop:=∀q,c q=-1->Gb a q=-1
def Ac(p:Um)(a:Tm):Option Tm->Prop
 |none=>p=[]\/∃s,s≠0/\∀c,Cut c->Leq a c->RS (cz p) c s
 |some t=>p≠[]/\Va t/\YR a t/\∃s,s≠0/\(∀c,Cut c->Leq a c->(∃m,c m=-1/\Gb t m=1)->RS (cz p) c s)/\RS (cz p) (Gb t) (-s)
theorem RI.len{q:Um}{L:Uq}{lo hi:Rat}{l:List Tm}(h:RI q L lo l hi):l.length+vv L hi<=vv L lo:=by
 induction h with
 |nil h hv=>simp;omega
 |cons h hv ht hp hl ih=>have:=ht.v;simp only[Zc];omega
theorem Qhl(x:Rat):∀(L:Uq) (s:Int),tc x s L<=L.length
 | [],_=>Qj _
 |
  f::l,s=>by
  have h1:=Qhl x l;simp only[tc,Zc]
  repeat' split
  all_goals (first|(have:=h1 s;omega)|(have:=h1 (Fj (ev f x));omega))
theorem Qhu(L:Uq)(x:Rat):vv L x<=L.length:=Qhl x L 0
theorem fP{p:Um}(h:Cp p):∃l,DL p=some l/\l.length≤67/\(∀t∈l,Va t)/\∀a,Va a->∃r,IJ a l=some r/\Ac p a r/\∀t,r=some t->t∈l:=by
 unfold DL;by_cases h0:p.length=0
 ·have e:p=[]:=Qh h0;subst e;exact⟨[],rfl,by decide,(λt ht=>by cases ht),λa _=>⟨none,rfl,.inl rfl,λt ht=>by cases ht⟩⟩
 ·obtain⟨qp,o,q1,o1,hpt⟩:=xH (n:=9) (s:=1110) (p:=p) ⟨⟨by decide,by decide⟩,h.t,h0,h.l,h.b⟩;obtain⟨g,sq⟩:=hpt.sq;obtain⟨S,hS⟩:=hpt.os;obtain⟨p1,p2,p3,p4,p5,p6,p7⟩:=Pe h.t h0;have De:=h.l;obtain⟨hh,th,eh⟩:=hpt.oh;have bo:Bd 1179 o:=D2 (p5 1110 h.b) (by omega) p1 hpt.ot th (by omega) eh;obtain⟨lo1,lo2⟩:=G7 p1 (by omega) eh;have hlen:=Rv hpt.ot th p1 eh lo1 lo2;have oko:Okp 9 1180 o:=⟨PH,hpt.ot,by omega,by omega,Uv bo (by omega)⟩;obtain⟨q,c,l,r1,r2,r3,hSt,hRI,hVa,hout⟩:=Qgg oko;obtain⟨g',q',s1,s2⟩:=L6 oko;rw[r1]at s1;injection s1 with s1;subst s1;obtain⟨_,_,_,_,_,o6,o7⟩:=Pe hpt.ot (by omega);have hg1:g'=[1]:=by
   refine s2.pg.one ?_;obtain⟨E,hE⟩:=hpt.oq;have hE:∀t,Ux qp t=Ux o t*ev E t:=λt=>by have:=hE t;rwa[Uy,Uy]at this
   obtain⟨z,hz⟩:=s2.d;have hd1:∀t,Ux o t=Ux g' t*(G0 o*Ux q t):=λt=>by rw[o7,s2.e];grind
   have hdo:∀t,dv (cz o) t=Ux g' t*(G0 o*ev z t):=λt=>by
    have:=Qdq (p:=cz o) (q:=Pv (G0 o) (cz (U5 o))) (λt=>by rw[Uy,Fq,Uy,o7]) t;rw[this,FD,hz];grind
   obtain⟨k,hk,hkk⟩:=sq.num (d:=cz g') ⟨Gj (Pv (G0 o) (cz q)) E,λt=>by rw[Uy,Uy,hE,hd1,U3,Fq,Uy];grind⟩ ⟨Rf (Gj (Pv (G0 o) z) E) (Gj (Pv (G0 o) (cz q)) (Na E)),λt=>by
    have:=Aw (f:=cz qp) (w:=cz o) (u:=E) (λt=>by rw[Uy,Uy,hE]) t;rw[Rl,this,hdo,Uy,Uy,hd1,Fu,U3,U3,Fq,Fq,Rl,Uy];grind⟩
   rcases Q9 g'.length 2 with e|e
   ·exact e
   ·exfalso;have h1:=(YC s2.pg.t (by omega)).1;have h2:=B7 (p:=cz g') (q:=[k]) (λt=>by rw[hkk];simp only[ev];grind) (g'.length-1);rw[h2,Qd,Qx (by simp;omega)]at h1;exact h1 rfl
  have hpq:∀t,ev (cz p) t=((G0 p:Rat)*(G0 o:Rat))*(ev (cz q) t*(ev S t*ev S t)):=λt=>by
   rw[Uy,Uy,p7,hS,o7,s2.e,hg1,G9];grind
  have hk0:(G0 p:Rat)*(G0 o:Rat)≠0:=λh=>(Jn.1 h).elim (A0 p6) (A0 o6)
  have hpz:¬∀t,ev (cz p) t=0:=λh'=>QK h.t (by omega) λt=>by rw[<-Uy];exact h' t
  obtain⟨k,hk⟩:=nmE (Fj ((G0 p:Rat)*(G0 o:Rat)));have hkn:k≠0:=λh=>hk0 (Gm.1 (by rw[<-hk];exact h))
  have ho:o.length≠0:=by omega
  rw[o1];show ∃l,(if o.length=0 then some []else CO o)=some l/\l.length<=67/\_;rw[if_neg ho];have hb1:=Ig (B8 s2.pq.t s2.pq.n);have hll:=hRI.len;have hlv:=Qhu (c.map cz) (-Ge q);have hcl:=(Orr.chain_ok (p:=o) ⟨hpt.ot,by omega,Uv bo (by omega)⟩ r2).1;rw[Q8]at hlv;refine⟨l,r3,by omega,hVa,λa ha=>?_⟩;obtain⟨r,n1,n2⟩:=oP hSt ha hRI hVa (λz hz=>(hout _ _ hz (.inl Qk)).symm) λz _ hz=>by
   rcases Classical.em (z=-Ge q)with e|e
   ·rw[e]
   ·exact hout z _ (by grind) (.inr Qk)
  refine⟨r,n1,?_,λt ht=>by subst ht;exact n2.1⟩;cases r with
  |
   none =>
   obtain⟨s,hs,hz⟩:=n2;refine .inr ⟨k*s,Xq hkn hs,λc hc hac=>?_⟩;obtain⟨y,hy⟩:=hc.hi;have h1:RS (cz q) c s:=⟨y,hy,λz z1 _=>hz z (hac z z1)⟩;rw[hk];exact Qgj hc hk0 hpq hpz h1
  |
   some t =>
   obtain⟨hm,hlt,s,hs,hz,hrs⟩:=n2;refine⟨λe=>h0 (by rw[e];rfl),hVa t hm,hlt,k*s,Xq hkn hs,λc hc hac ⟨m,m1,m2⟩=>?_,?_⟩
   ·have h1:RS (cz q) c s:=⟨m,m1,λz z1 z2=>hz z (hac z z1) (by
     rcases Classical.em (z=m)with e|e
     ·rw[e];exact m2
     ·exact(hVa t hm).cut.mono' (q:=z) (r:=m) (by grind) (by omega))⟩
    rw[hk];exact Qgj hc hk0 hpq hpz h1
   ·have:=Qgj (hVa t hm).cut hk0 hpq hpz hrs;rw[<-hk]at this;rw[show -(k*s)=k*-s by rw[Kb]];exact this
structure Sz(s n:Nat)(t:Tm):Prop where
 n:t.p.length<=n
 b:Bd (s+138) t.p
 g:∃D M k,Gr D M k t.lo/\Gr D M k t.hi/\0<M/\Ff (D:Int)<=s+138/\Ff (M:Int)<=s+139/\k<=63*s+9507
theorem Qfd{p:Um}(h:Cp p){a:Tm}(ha:Va a):∃r,IY p a=some r/\Ac p a r:=by
 obtain⟨l,l1,_,_,l3⟩:=fP h;obtain⟨r,r1,r2,_⟩:=l3 a ha;refine⟨r,?_,r2⟩;unfold IY;rw[l1];exact r1
theorem AL:∀(l:List Tm) (b:Tm),(∀t∈b::l,Va t)->∃m,BB b l=some m/\m∈b::l/\∀t∈b::l,¬YR t m
 |
  [],b,h=>⟨b,rfl,Q0 ..,λt ht h'=>by
  rw[Qo.1 ht]at h';have hb:=(h b (Q0 ..)).cut;exact zI hb hb h' h'⟩
 |
  a::l,b,h=>by
  have ha:=h a (by simp);have hb:=h b (by simp);obtain⟨c,c1,c2⟩:=bC ha hb;obtain⟨m,m1,m2,m3⟩:=AL l (if c<0 then a else b) λt ht=>by
   rcases Qt.1 ht with rfl|ht
   ·split <;> assumption
   ·exact h t (by simp[ht])
  refine⟨m,by simp only[BB];rw[c1];exact m1,?_,λt ht=>?_⟩
  ·rcases Qt.1 m2 with e|e
   ·rw[e];split <;> simp
   ·simp[e]
  ·have hm:Va m:=by
    rcases Qt.1 m2 with e|e
    ·rw[e];split <;> assumption
    ·exact h m (by simp[e])
   have hfst:=m3 _ (Q0 ..);have tr:∀x y:Tm,Va x->Va y->¬YR x y->¬YR y m->¬YR x m:=λx y hx hy h1 h2 h3=>by
    rcases tri hy.cut hm.cut with h4|h4|h4
    ·exact h2 h4
    ·obtain⟨q,q1,q2⟩:=h3;exact h1 ⟨q,q1,by rw[h4];exact q2⟩
    ·obtain⟨q,q1,q2⟩:=h3;obtain⟨r,r1,r2⟩:=h4;have:=hm.cut.lt q2 r1;exact h1 ⟨q,q1,hy.cut.mono' this (by omega)⟩
   rcases Qt.1 ht with rfl|ht
   ·by_cases hc:c<0
    ·rw[if_pos hc]at hfst;refine tr _ a hb ha ?_ hfst;rcases c2 with⟨_,h'⟩|⟨e,_⟩|⟨e,_⟩
     ·exact λh''=>zI ha.cut hb.cut h' h''
     ·omega
     ·omega
    ·rw[if_neg hc]at hfst;exact hfst
   ·rcases Qt.1 ht with rfl|ht
    ·by_cases hc:c<0
     ·rw[if_pos hc]at hfst;exact hfst
     ·rw[if_neg hc]at hfst;refine tr _ b ha hb ?_ hfst;rcases c2 with⟨e,_⟩|⟨_,h'⟩|⟨_,h'⟩
      ·omega
      ·rintro⟨q,q1,q2⟩
       have:=h' q;omega
      ·exact λh''=>zI ha.cut hb.cut h'' h'
    ·exact m3 t (by simp[ht])
end Orq
namespace Orr
open Go Go.Proofs Tryz Orq
set_option maxRecDepth 10000
theorem Dp.pb{p:Um}(h:Dp p):Pb p:=⟨h.t,by have:=h.l;omega,Uv h.b (by have:=h.l;omega)⟩
theorem Qrt{p:Um}{a:Tm}(hp:Dp p)(ha:Va a):Uj 190 [pr p,.agg (ta a)] [.oi (Rh a p)]:=Qit (Dp.pb hp) ha.tb (mV hp ha).1
theorem Qrn{p:Um}{a:Tm}(hp:Dp p)(ha:Va a):Uj 189 [pr p,.one (.sh (ta a))] [.oi (Rh a p)]:=Ug func189 rfl [.k (Qrt hp ha)] rfl
theorem Qi0{p:Um}{fid:Nat}{l1:Ur}{sgn:Um->Int}(hp:Dp p)(h:∀p,Dp p->OA prog fid [pr p,.one (.sh l1)] [.oi (sgn p)]):Uj 188 [pr p,.one (.fn fid [] [.sh l1])] [.oi (Tf sgn p.length p)]:=by
 have hpb:=Dp.pb hp;refine Hz func188 rfl ?_;refine Ud [.k (Ss hpb.t hpb.ln hpb.bd)] rfl ?_;refine Ui (S:=Um) 0 (λL1 s=>(0,.v (pr s))::L1) (λ_=>[]) (λs=>s.length) (λs=>Dp s/\Tf sgn s.length s=Tf sgn p.length p) p ⟨hp,rfl⟩ rfl rfl λr ⟨j1,j4⟩=>?_
 rw[<-j4];have jb:=Dp.pb j1;by_cases h0:r.length=0
 ·have e:=ZM sgn h0;rw[e];exact Uf [.f (by simp;exact Qh h0)] rfl
 ·have hs:=h r j1;by_cases hz:sgn r=0
  ·have hlp:=Tq r;refine Ud [.t (by simp;omega),.k hs,.f (by simpa using hz),.k (XO jb.ln jb.bd)] rfl ?_;exact rd (Fv r) (by omega) ⟨j1.der,by rw[<-ZP sgn (by omega) hz]⟩ rfl
  ·rw[ZS sgn (by omega) hz];exact Uf [.t (by simp;omega),.k hs,.t (by simpa using hz)] rfl
abbrev gmA(a:Tm)(p:Um):Int:=Gl (Rh a) p
theorem nO{p:Um}{a:Tm}(hp:Dp p)(ha:Va a):Uj 79 [pr p,.agg (ta a)] [.oi (gmA a p)] :=
 Ug func79 rfl [.k (Qi0 (sgn:=Rh a) hp λ_ h=>Qrn h ha)] rfl
theorem vY{t:Tm}{a b:Pt}{ps:Un}(hps:∀p∈ps,Dp p)(ht:Va t)(hl:ps.length<1000):Uj 180 [.agg (ta t),.agg (Sa a),.agg (Sa b),.one (.row (Eu ps))] [.one (.bool (XR (Rh t) a b ps))]:=by
 refine Hz func180 rfl ?_;have De:(Eu ps).length=ps.length:=by simp[Eu]
 refine Ud [] rfl ?_;refine Ui (S:=Nat) 3 (λL1 i=>(13,.v (.oi i))::L1) (λ_=>[.blk 59 (ta t),.blk 76 (Sa a),.blk 76 (Sa b)]) (λi=>ps.length-i) (λi=>i<=ps.length/\XR (Rh t) a b (ps.drop i)=XR (Rh t) a b ps) 0 ⟨Qg _,rfl⟩ rfl rfl λi ⟨hi,he⟩=>?_
 rw[<-he];by_cases hlt:i<ps.length
 ·obtain⟨p,hp⟩:=gxE (l:=ps) (i:=i) hlt;have hd:ps.drop i=p::ps.drop (i+1):=by
   rw[Zt hlt];rw[Qe hlt]at hp;injection hp with hp;rw[hp]
  have hpb:=hps p (Qa hp);rw[hd]at he ⊢;by_cases h0:0<p.length
  ·exact Uf [.t (by simp[De];omega),.x (C5 hp),.t (by simp;omega),.k (nO hpb ht)] rfl (by simp only[XR];rw[if_pos h0]) trivial
  ·refine Ue [.t (by simp[De];omega),.x (C5 hp),.f (by simp;exact Qh (by omega))] rfl ?_;exact rd (i+1) (by omega) ⟨hlt,by simp only[XR];rw[if_neg h0]⟩ rfl
 ·have hd:ps.drop i=[]:=Ye (by omega);rw[hd];exact Uf [.f (by simp[De];omega)] rfl
structure Sc(k:Crv):Prop where
 n:gZ k
 c:Cs 128 3 k
theorem Sc.cb{k:Crv}(h:Sc k):Cb k:=h.c.mono (by omega) (by omega)
theorem Dn{a b:Crv}(ha:Sc a)(hb:Sc b):Cp (Gu a b):=by
 refine⟨U7 _ _,?_,Uv (Db (Fw hb.c.x ha.c.d) (Fw ha.c.x hb.c.d)) (by omega)⟩;have:=Px (Fc b.x a.d) (Fc a.x b.d);have:=Ft b.x a.d;have:=Ft a.x b.d;have:=ha.c.lx;have:=hb.c.lx;unfold Gu;omega
theorem Dm{a b:Crv}(ha:Sc a)(hb:Sc b):Cp (Gt a b):=by
 refine⟨U7 _ _,?_,Uv (Db (Fw hb.c.y ha.c.d) (Fw ha.c.y hb.c.d)) (by omega)⟩;have:=Px (Fc b.y a.d) (Fc a.y b.d);have:=Ft b.y a.d;have:=Ft a.y b.d;have:=ha.c.ly;have:=hb.c.ly;unfold Gt;omega
theorem Qnz(q:Rat){P:Prop}(h:(tq q).point=false):P:=by
 have e:(tq q).point=true:=Pd.2 Qk;rw[e]at h;cases h
theorem Qpm(q:Rat):dL (tq q)=3300000:=by unfold dL;rw[if_pos (Pd.2 Rat.le_refl)]
theorem Qu9{q:Rat}(hq:Qs 1640000 q):Va (tq q):=by
 have hd:=q.den_nz;refine⟨.inl ⟨rfl,?_⟩,jC q,by show 2<=9;omega,by show 2<=2;omega,Qmw (hq.mono (by omega)),Qnz q,Qnz q,q.den,q.num.natAbs+1,0,?_,?_,by omega,?_⟩
 ·have e:(q.num:Rat)=q*(q.den:Rat):=by
   have:(q.num:Rat) / (((q.den:Int)):Rat)=q:=by rw[Hp,Zy]
   have h2:(q.num:Rat) / (q.den:Rat)*(q.den:Rat)=q.num:=Zh (by have:=Orq.nat_pos q.den_pos;grind);rw[show(q.num:Rat) / (q.den:Rat)=q from this]at h2;exact h2.symm
  show Ux [-q.num,(q.den:Int)] q=0;simp only[Ux];rw[Vn,e,show(((q.den:Int)):Rat)=(q.den:Rat) from rfl];grind
 all_goals first|(have h1:Ff (q.den:Int)<=1640000:=hq.2;have h2:Ff ((q.num.natAbs+1:Nat):Int)<=1640001:=oV hq.1;rw[Qpm];omega)|skip
 all_goals
  refine⟨⟨q.num,?_⟩,?_,q.den_pos⟩
  ·rw[Ys,Yf];have:(q.num:Rat) / (((q.den:Int)):Rat)=q:=by rw[Hp,Zy]
   have h2:(q.num:Rat) / (q.den:Rat)*(q.den:Rat)=q.num:=Zh (by have:=Orq.nat_pos q.den_pos;grind);rw[show(q.num:Rat) / (q.den:Rat)=q from this]at h2;exact h2
  ·have h1:Fe q<=Fe (q.num:Rat):=by
    have e:(q.num:Rat)=q*(q.den:Rat):=by
     have:(q.num:Rat) / (((q.den:Int)):Rat)=q:=by rw[Hp,Zy]
     have h2:(q.num:Rat) / (q.den:Rat)*(q.den:Rat)=q.num:=Zh (by have:=Orq.nat_pos q.den_pos;grind);rw[show(q.num:Rat) / (q.den:Rat)=q from this]at h2;exact h2.symm
    rw[e,Lm];have hd1:(1:Rat)<=(q.den:Rat):=by
     have:((1:Nat):Rat)<=(q.den:Rat):=Za.2 q.den_pos;exact this
    have e2:Fe (q.den:Rat)=(q.den:Rat):=by unfold Fe;rw[if_neg (by grind)]
    rw[e2];have:=Pp (a:=Fe q) (c:=1) (Hw q) Qk (by decide) hd1;grind
   rw[S0]at h1;refine Zb h1 (Za.2 (by omega))
theorem ED{p q:Um}(hp:Cp p)(hq:Cp q):Cp (qO p q):=by unfold qO;split <;> assumption
end Orr
namespace Orr
variable{α:Type}
def Mb(lt:α->α->Bool)(out:List α)(x:α):Nat->Nat
 | 0=>0
 |
  k+1=>match out[k]? with
  |some y=>if lt x y=true then Mb lt out x k else k+1
  |none=>k+1
theorem lS(lt:α->α->Bool)(out:List α)(x:α):∀k,Mb lt out x k<=k
 | 0=>Qj _
 |
  k+1=>by
  simp only[Mb]
  split
  ·split
   ·exact Nat.le_succ_of_le (lS lt out x k)
   ·exact Qj _
  ·exact Qj _
theorem WE{lt:α->α->Bool}{out:List α}{x y:α}{k:Nat}(hx:out[k]? = some y)(h:lt x y=true):Mb lt out x (k+1)=Mb lt out x k:=by
 simp only[Mb,hx,h,if_true]
theorem XT{lt:α->α->Bool}{out:List α}{x y:α}{k:Nat}(hx:out[k]? = some y)(h:lt x y=false):Mb lt out x (k+1)=k+1:=by
 simp[Mb,hx,h]
def E9(lt:α->α->Bool)(out:List α)(x:α):List α:=out.take (Mb lt out x out.length)++x::out.drop (Mb lt out x out.length)
theorem Qes(lt:α->α->Bool)(out:List α)(x:α):(E9 lt out x).length=out.length+1:=by
 have:=lS lt out x out.length;simp[E9];omega
theorem Qet{lt:α->α->Bool}{out:List α}{x y:α}:y∈E9 lt out x↔y=x\/y∈out:=by
 have h:y∈out↔y∈out.take (Mb lt out x out.length)\/y∈out.drop (Mb lt out x out.length):=by
  rw[<-Qr,Zj]
 simp only[E9,Qr,Qt,h];constructor
 ·rintro (h|h|h)
  ·exact .inr (.inl h)
  ·exact .inl h
  ·exact .inr (.inr h)
 ·rintro (h|h|h)
  ·exact .inr (.inl h)
  ·exact .inl h
  ·exact .inr (.inr h)
def Fg(lt:α->α->Bool)(l:List α):List α:=l.foldl (E9 lt) []
theorem mG(lt:α->α->Bool)(l:List α)(x:α):Fg lt (l++[x])=E9 lt (Fg lt l) x:=by simp[Fg,Ko]
theorem E6{lt:α->α->Bool}{l:List α}{i:Nat}{x:α}(h:l[i]? = some x):Fg lt (l.take (i+1))=E9 lt (Fg lt (l.take i)) x:=by
 rw[Xd,h];exact mG _ _ _
theorem BJ(lt:α->α->Bool):∀(l acc:List α),(l.foldl (E9 lt) acc).length=acc.length+l.length
 | [],acc=>by simp
 |c::l,acc=>by simp only[Xl];rw[BJ lt l (E9 lt acc c),Qes];simp;omega
theorem Gq(lt:α->α->Bool)(l:List α):(Fg lt l).length=l.length:=by unfold Fg;rw[BJ];simp
theorem BY(lt:α->α->Bool):∀(l acc:List α) {y:α},y∈l.foldl (E9 lt) acc↔y∈l\/y∈acc
 | [],acc,y=>by simp
 |
  c::l,acc,y=>by
  simp only[Xl];rw[BY lt l,Qet,Qt];constructor
  ·rintro (h|h|h)
   ·exact .inl (.inr h)
   ·exact .inl (.inl h)
   ·exact .inr h
  ·rintro ((h|h)|h)
   ·exact .inr (.inl h)
   ·exact .inl h
   ·exact .inr (.inr h)
theorem Hd{lt:α->α->Bool}{l:List α}{y:α}:y∈Fg lt l↔y∈l:=by
 unfold Fg;rw[BY];simp
end Orr
namespace Orr
open Go Orq
structure Wt where
 c:Ct
 known:Bool
 fails:Option Tm
def f0:Option Tm->LV|none=>.row []|some t=>pl t.p
def f1:Option Tm->LV|none=>.bool false|some t=>sg t.lo.num
def f2:Option Tm->LV|none=>.row []|some t=>mg t.lo.num
def f3:Option Tm->LV|none=>.bool false|some t=>sg (t.lo.den:Int)
def f4:Option Tm->LV|none=>.row []|some t=>mg (t.lo.den:Int)
def f5:Option Tm->LV|none=>.bool false|some t=>sg t.hi.num
def f6:Option Tm->LV|none=>.row []|some t=>mg t.hi.num
def f7:Option Tm->LV|none=>.bool false|some t=>sg (t.hi.den:Int)
def f8:Option Tm->LV|none=>.row []|some t=>mg (t.hi.den:Int)
abbrev fl(o:Option Tm):Ur:=[f0 o,f1 o,f2 o,f3 o,f4 o,f5 o,f6 o,f7 o,f8 o]
structure Cr where
 now:Tm
 l:List Wt
 ev:Int
structure WtOk(w:Wt):Prop where
 p:Cp w.c.p
 f:∀t,w.fails=some t->Va t
structure CrOk(c:Cr):Prop where
 n:Va c.now
 l:∀w∈c.l,WtOk w
 k:c.l.length<=1000
def Qs6(a b:Ct):Bool:=decide ([a.kind,a.i0,a.i1,a.i2,a.i3]=[b.kind,b.i0,b.i1,b.i2,b.i3])
def fresh(x:Ct):Wt:=⟨x,false,none⟩
def RO:List Wt->Ct->Tm->Option Wt
 | [],x,_=>some (fresh x)
 |
  w::l,x,at_=>if Qs6 w.c x=true/\w.known=true/\w.c.p=x.p then
   match w.fails with
   |none=>some ⟨x,true,none⟩
   |some t=>(vL t at_).bind λc=>if 0<c then some ⟨x,true,some t⟩else RO l x at_
  else RO l x at_
def dP(old:List Wt)(at_:Tm):List Ct->Option (List Wt)
 | []=>some []
 |x::l=>(RO old x at_).bind λw=>(dP old at_ l).bind λr=>some (w::r)
end Orr
namespace Orr
open Go Go.Proofs Tryz Orq
set_option maxRecDepth 10000
theorem wK{old:List Wt}{at_:Tm}:∀{l:List Ct} {ws:List Wt},dP old at_ l=some ws->ws.length=l.length/\∀(i:Nat) (x:Ct),l[i]? = some x->∃w,RO old x at_=some w/\ws[i]? = some w
 | [],ws,h=>by injection h with h;subst h;exact⟨rfl,λi x hx=>by simp at hx⟩
 |
  y::l,ws,h=>by
  simp only[dP]at h;obtain⟨w,hw,h⟩:=Qi.1 h;obtain⟨r,hr,h⟩:=Qi.1 h;injection h with h;subst h;obtain⟨a,b⟩:=wK hr;refine⟨by simp[a],λi x hx=>?_⟩;cases i with
  |zero=>injection hx with hx;subst hx;exact⟨w,hw,rfl⟩
  |succ i=>exact b i x (by simpa using hx)
theorem eB{a b:Bool}(h:a=b):TV.one (LV.bool a)=.one (.bool b):=h ▸ rfl
theorem JM:∀{l:Un} {i:Nat} {p o:Um},Pb p->(∀f∈l,Pb f)->VP i p l=some o->Pb o
 | [],i,p,o,hp,_,h=>by simp only[VP]at h;injection h with h;subst h;exact hp
 |
  f::l,i,p,o,hp,hl,h=>by
  simp only[VP]at h
  split at h
  ·obtain⟨q,hq,h⟩:=Qi.1 h;obtain⟨rfl,hq'⟩:=ZX (Fx _ _) hq;exact JM hq' (λf hf=>hl f (Qp _ hf)) h
  ·exact JM hp (λf hf=>hl f (Qp _ hf)) h
theorem zT(z:Int):Ff (z.natAbs:Int)=Ff z:=by unfold Ff;simp
theorem oG(l:Um)(z:Int):most (l++[z])=if most l<z.natAbs then z.natAbs else most l:=by unfold most;rw[List.foldl_append];rfl
theorem Qkm{s:Nat}:∀{l:Um},Bd s l->Ff (most l:Int)<=s:=λ{l}=>by
 suffices h:∀(l:Um) (m:Nat),Bd s l->Ff (m:Int)<=s->Ff ((l.foldl (λm z=>if m<z.natAbs then z.natAbs else m) m:Nat):Int)<=s from λhb=>h l 0 hb (by simp[Ff,sz])
 intro l
 induction l with
 |nil=>exact λm _ h=>h
 |
  cons z l ih =>
  intro m hb hm;refine ih _ (λy hy=>hb y (Qp _ hy)) ?_;show Ff ((if m<z.natAbs then z.natAbs else m:Nat):Int)<=s
  split
  ·rw[zT];exact hb z (Q0 ..)
  ·exact hm

theorem PP{p:Um}{c:Un}(hp:Pb p):∀{k:Nat} {lo hi:Rat} {n:Int} {r:List Tm},Qb lo->Qb hi->E3 p c k lo hi n=some r->∀t∈r,Tb t
 | 0,_,_,_,_,_,_,h=>by cases h
 |
  k+1,lo,hi,n,r,hl,hh,h=>by
  simp only[E3]at h
  split at h
  ·injection h with h;subst h;exact λt ht=>by cases ht
  ·split at h
   ·injection h with h;subst h;intro t ht;rw[Qo.1 ht];exact⟨hp,hl,hh⟩
   ·obtain⟨m,hm,h⟩:=Qi.1 h;obtain⟨rfl,qm⟩:=rI hm;obtain⟨x,hx,h⟩:=Qi.1 h;obtain⟨y,hy,h⟩:=Qi.1 h;injection h with h;subst h;intro t ht;rcases Qr.1 ht with ht|ht
    ·exact PP hp hl qm hx t ht
    ·exact PP hp qm hh hy t ht
def Gx(l:List Pt):Us:=l.map Sa
theorem Ra{l:List Pt}{i:Nat}{c:Pt}(h:l[i]? = some c):(Gx l)[i]? = some (Sa c):=He h
theorem S5(l:List Pt):(Gx l).length=l.length:=by simp[Gx]
theorem Qlo(l:List Pt):∀c∈Gx l,c.length=5:=λc hc=>by
 obtain⟨x,_,rfl⟩:=Zw.1 hc;rfl
abbrev zPt:Ur:=[.nils,.nils,.bool false,.nils,.int .i64 0]
theorem dW{lt:Pt->Pt->Bool}{O:List Pt}{z:Ur}{c:Pt}{k m:Nat}{l2:Us}(hk:k<=O.length)(hp:Mb lt O c O.length=k)(hm:m=O.length-k)(h2:l2.take m=((Gx O++[z]).drop k).take m) :
 ((Gx O++[z]).take (k+1)++(l2.take m++(Gx O++[z]).drop (k+1+m))).set k (Sa c)=Gx (E9 lt O c):=by
 rw[h2,<-Zk,Qeu (Gx O) z (Sa c) (by rw[S5];omega) (by rw[S5];omega)];simp[E9,hp,Gx,V8,Ku]
def Qqc(t:Tm)(l:List Pt):List Pt:=Fg (Sl (Rh t)) l
def Ck(sg:Um->Int):List Pt->List Ct
 |a::b::l=>Al sg a b::Ck sg (b::l)
 |_=>[]
theorem JI(sg:Um->Int):∀l:List Pt,(Ck sg l).length=l.length-1
 | []=>rfl
 | [_]=>rfl
 |a::b::l=>by simp only[Ck,Zc,JI sg (b::l)];omega
theorem HF(sg:Um->Int):∀{l:List Pt} {i:Nat} {a b:Pt},l[i]? = some a->l[i+1]? = some b->(Ck sg l).take (i+1)=(Ck sg l).take i++[Al sg a b]
 | [],i,a,b,h,_=>by simp at h
 | [x],i,a,b,_,h=>by cases i <;> simp at h
 |x::y::l,0,a,b,h1,h2=>by simp at h1 h2;subst h1;subst h2;simp[Ck]
 |
  x::y::l,i+1,a,b,h1,h2=>by
  have ih:=HF sg (l:=y::l) (i:=i) (a:=a) (b:=b) (by simpa using h1) (by simpa using h2);simp only[Ck,Vf]at ih ⊢;rw[ih];rfl

def TY(now:Tm):List Wt->Option (List Wt)
 | []=>some []
 |w::l=>(if w.known=true then some w else(IY w.c.p now).bind λr=>some ⟨w.c,true,r⟩).bind λw'=>(TY now l).bind λr=>some (w'::r)
theorem AI{now:Tm}:∀{l ws:List Wt},TY now l=some ws->ws.length=l.length/\∀(i:Nat) (w:Wt),l[i]? = some w->∃v,ws[i]? = some v/\(w.known=true/\v=w\/w.known=false/\∃r,IY w.c.p now=some r/\v=⟨w.c,true,r⟩)
 | [],ws,h=>by injection h with h;subst h;exact⟨rfl,λi x hx=>by simp at hx⟩
 |
  y::l,ws,h=>by
  simp only[TY]at h;obtain⟨v,hv,h⟩:=Qi.1 h;obtain⟨r,hr,h⟩:=Qi.1 h;injection h with h;subst h;obtain⟨a,b⟩:=AI hr;refine⟨by simp[a],λi x hx=>?_⟩;cases i with
  |
   zero =>
   injection hx with hx;subst hx;refine⟨v,rfl,?_⟩
   split at hv
   ·rename_i hk;injection hv with hv;exact .inl ⟨hk,hv.symm⟩
   ·rename_i hk;obtain⟨q,hq,hv⟩:=Qi.1 hv;injection hv with hv;exact .inr ⟨by simpa using hk,q,hq,hv.symm⟩
  |succ i=>exact b i x (by simpa using hx)
def Qpu(ws:List Wt):Option (Option Tm):=match ws.filterMap (·.fails)with
 | []=>some none
 |b::l=>(BB b l).map some
theorem Qkh{c:Cr}{ws:List Wt}(hc:CrOk c)(h:TY c.now c.l=some ws):CrOk { c with l:=ws }:=by
 obtain⟨h1,h2⟩:=AI h;refine⟨hc.n,λv hv=>?_,by show ws.length<=1000;rw[h1];exact hc.k⟩;obtain⟨i,hi⟩:=J6 hv;have hil:i<c.l.length:=by rw[<-h1];exact(Qf.1 hi).1
 obtain⟨v',h3,h4⟩:=h2 i _ (Qe hil);rw[hi]at h3;injection h3 with h3;subst h3;have hw:=hc.l _ (Xx hil);rcases h4 with⟨_,rfl⟩|⟨_,r,k2,rfl⟩
 ·exact hw
 ·obtain⟨r',r1,r2⟩:=Qfd hw.p hc.n;rw[k2]at r1;injection r1 with r1;subst r1;refine⟨hw.p,λt ht=>?_⟩;have ht:r=some t:=ht;subst ht;exact r2.2.1
theorem wJ{at_:Tm}{x:Ct}:∀{l:List Wt} {w:Wt},RO l x at_=some w->w=fresh x\/∃v∈l,v.known=true/\v.c.p=x.p/\w=⟨x,true,v.fails⟩/\∀t,v.fails=some t->∃c,vL t at_=some c/\0<c
 | [],w,h=>by simp only[RO]at h;injection h with h;exact .inl h.symm
 |
  v::l,w,h=>by
  simp only[RO]at h;have tl:RO l x at_=some w->w=fresh x\/∃v'∈v::l,v'.known=true/\v'.c.p=x.p/\w=⟨x,true,v'.fails⟩/\∀t,v'.fails=some t->∃c,vL t at_=some c/\0<c:=λh=>by
   rcases wJ h with h|⟨v',h1,h2⟩
   ·exact .inl h
   ·exact .inr ⟨v',Qp _ h1,h2⟩
  split at h
  ·rename_i hk;cases hf:v.fails with
   |
    none =>
    rw[hf]at h;injection h with h;exact .inr ⟨v,Q0 ..,hk.2.1,hk.2.2,by rw[hf];exact h.symm,λt ht=>by rw[hf]at ht;cases ht⟩
   |
    some t =>
    rw[hf]at h;obtain⟨c,c1,h⟩:=Qi.1 h
    split at h
    ·rename_i h0;injection h with h;exact .inr ⟨v,Q0 ..,hk.2.1,hk.2.2,by rw[hf];exact h.symm,λu hu=>by rw[hf]at hu;injection hu with hu;subst hu;exact⟨c,c1,h0⟩⟩
    ·exact tl h
  ·exact tl h
theorem sV{c:Cr}{at_:Tm}{l:List Ct}{ws:List Wt}(ev:Int)(hc:CrOk c)(ha:Va at_)(hl:∀x∈l,Cp x.p)(hn:l.length≤1000)(h:dP c.l at_ (TD l)=some ws):CrOk ⟨at_,ws,ev⟩:=by
 obtain⟨h1,h2⟩:=wK h;refine⟨ha,λw hw=>?_,by show ws.length<=1000;rw[h1,Qal];exact hn⟩;obtain⟨i,hi⟩:=J6 hw;have hil:i<(TD l).length:=by rw[<-h1];exact(Qf.1 hi).1
 obtain⟨v,h3,h4⟩:=h2 i _ (Qe hil);rw[hi]at h4;injection h4 with h4;subst h4;have hx:=hl _ (Qam (Xx hil));rcases wJ h3 with e|⟨v,v1,_,v3,e,_⟩
 ·rw[e];exact⟨hx,λt ht=>by cases ht⟩
 ·rw[e];exact⟨hx,λt ht=>(hc.l v v1).f t ht⟩
structure BuildOk(Bc:Tm->List Ct):Prop where
 p:∀a,Va a->∀x∈Bc a,Cp x.p
 n:∀a,Va a->(Bc a).length<=1000
theorem Qda{a b:Pt}(ha:Sc a.c)(hb:Sc b.c):Cp (CV a b):=ED (Dn ha hb) (Dm ha hb)

abbrev Ic(l:Um):Us:=l.map λ(z:Int)=>[.int .i64 z]
theorem zG{l:Um}{i:Nat}{z:Int}(h:l[i]? = some z):(Ic l)[i]? = some [.int .i64 z]:=He h
def Da(v n:Int):Int:=if n<1 then 0 else v.emod n
theorem Qas{v n:Int}(h:0<n):(if v.tmod n<0 then v.tmod n+n else v.tmod n)=v % n:=by
 have h3:=Vj v (show n≠0 by omega);have h4:=Y0 v h;have h1:=Int.tmod_eq_emod (a:=v) (b:=n);have hn:((n.natAbs:Nat):Int)=n:=by omega
 split at h1
 ·rw[h1];simp;omega
 ·rename_i hc;rw[h1,hn];have:v % n≠0:=λe=>hc (.inr (Yu e))
  rw[if_pos (by omega)];omega
theorem Dk{v n:Int}(hv:-9223372036854775808<=v/\v<=9223372036854775807)(hn:n<=1000000000):Uj 15 [.oi v,.oi n] [.oi (Da v n)]:=by
 unfold Da;by_cases h:n<1
 ·rw[if_pos h];exact Ug func15 rfl [.t (by simpa using h)] rfl
 ·rw[if_neg h];have e:=Qas (v:=v) (n:=n) (by omega);have h3:=Vj v (show n≠0 by omega);have h4:=Y0 v (show 0<n by omega);show Uj 15 [.oi v,.oi n] [.oi (v % n)];by_cases h0:v.tmod n<0
  ·rw[if_pos h0]at e;have b:-n<=v.tmod n:=by omega
   exact Ug func15 rfl [.f (by simpa using h),.t (by simpa using h0)] rfl (by rw[e]) (by simp[Uw];omega)
  ·rw[if_neg h0]at e;exact Ug func15 rfl [.f (by simpa using h),.f (by simpa using h0)] rfl (by rw[e]) (by simp[Uw];omega)
end Orr
namespace Orr
open Go Go.Proofs Tryz
set_option maxRecDepth 10000
def frow(p:Up):Us:=p.map fr
theorem To(p:Up):(frow p).length=p.length:=by simp[frow]
theorem Ei{p:Up}{i:Nat}{q:Rat}(h:p[i]? = some q):(frow p)[i]? = some (fr q):=He h
theorem GY(p:Up)(q:Rat):frow (p++[q])=frow p++[fr q]:=by simp[frow]
theorem GX(p:Up):∀c∈frow p,c.length=4:=λc hc=>by obtain⟨x,_,rfl⟩:=Zw.1 hc;rfl
abbrev rp(p:Up):LV:=.row (frow p)
theorem wM(q:Rat):∀c∈[fr q],c.length=4:=λc hc=>by rw[Qo.1 hc];rfl
theorem aS:Uj 260 [] [.agg (fr 0)]:=Ug func260 rfl [.k (VJ (n:=0) (by decide))] rfl
theorem On{p:Up}:Uj 153 [.one (rp p)] [.one (rp (Cy p))]:=by
 refine Hz func153 rfl (ln 0 rfl rfl λhl=>?_);rw[To]at hl;have De:=To p;refine Ud [] rfl ?_;refine lp (S:=Nat) 0 (λL1 n=>(3,.v (.oi n))::L1) (λ_=>[]) id (λn=>n<=p.length/\∀j x,n<=j->p[j]? = some x->x=0) (frow p).length ⟨by rw[De];exact Qj _,λj x h1 h2=>by
  have:=(Qf.1 h2).1;rw[De]at h1;omega⟩ rfl (λ_ _=>rfl) rfl λn hs=>?_
 obtain⟨h1,h2⟩:=hs;cases n with
 |
  zero =>
  have e:=HT h1 (λj x h=>h2 j x h) (λh=>absurd h (by decide));exact Uf [.g 8 false (by simp),.f rfl,.i 0] rfl (by rw[e];rfl) (by simp[Uw])
 |
  succ n =>
  obtain⟨x,hx⟩:=gxE (l:=p) (i:=n) (by omega);have hn:=Rat.num_eq_zero (q:=x);by_cases h0:x=0
  ·refine Ue [.g 8 true (by simp),.r 11 (eI (b:=(n:Int)) (by simp)),.x (Ei hx),.k (Nm (z:=x.num)),.t (decide_eq_true (hn.2 h0)),.r 18 (eI (b:=(n:Int)) (by simp))] rfl ?_;exact rd n (by simp) ⟨by omega,λj y h3 h4=>by
    rcases Vl h3 with rfl|h3
    ·rw[hx]at h4;injection h4 with h4;rw[<-h4,h0]
    ·exact h2 j y h3 h4⟩ rfl
  ·have e:=HT h1 (λj x h=>h2 j x h) (λ_=>⟨x,hx,h0⟩);exact Uf [.g 8 true (by simp),.r 11 (eI (b:=(n:Int)) (by simp)),.x (Ei hx),.k (Nm (z:=x.num)),.f (decide_eq_false λh=>h0 (hn.1 h)),.i (n+1)] rfl (by rw[e];simp[rp,frow,V8]) (by simp[Uw,De] <;> omega)
theorem Qm7{p:Up}{i:Nat}(hi:i<1099511627776):Uj 352 [.one (rp p),.oi i] [.agg (fr (p.getD i 0))]:=by
 have De:=To p;by_cases h:i<p.length
 ·have e:p.getD i 0=p[i]:=by rw[Qd,Qe h];rfl
  rw[e];exact Ug func352 rfl [.g 7 false Uk,.F,.x (Ei (Qe h))] rfl
 ·have e:p.getD i 0=0:=by rw[Qd,Qx (by omega)];rfl
  rw[e];exact Ug func352 rfl [.g 7 false Uk,.T,.k aS] rfl
theorem rB:Uj 54 [.one (ids [1])] [.one (rp (zp [1]))]:=by
 have cc:=On (p:=zp [1]);rw[Ns,show trim [1]=[1] from rfl]at cc;refine Hz func54 rfl ?_;refine Ud [.o 3 34 4] rfl ?_;refine Ui (S:=Nat) 1 (λL1 i=>(7,.v (.oi i))::(3,.v (.one (.orow 0 4 none)))::L1) (λi=>[.row false 34 4 (frow ((zp [1]).take i))]) (λi=>1-i) (λi=>i<=1) 0 (by decide) rfl rfl λi hi=>?_
 rcases(show i=0\/i=1 by omega)with rfl|rfl
 ·refine go tt [.t rfl,.x (l:=Ic [1]) (i:=0) (xs:=[.int .i64 1]) rfl,.k (VJ (n:=1) (by decide)),.s (sz:=4) (wM _)] rfl (by simp[Uw,frow]) ?_;exact rd 1 (by omega) (by omega) rfl
 ·exact Uf [.f rfl,.k cc] rfl
theorem JQ{p:Um}(hb:Bd 90000000 p)(hl:p.length<=1000000):Uj 203 [pr p] [.one (rp (zp (trim p)))]:=by
 have De:(p.map H9).length=p.length:=by simp
 have cc:=On (p:=zp p);rw[Ns]at cc;show Uj 203 [.one (.row (p.map H9))] _;refine Hz func203 rfl ?_;refine Ud [.o 3 34 4] rfl ?_;refine Ui (S:=Nat) 1 (λL1 i=>(7,.v (.oi i))::(3,.v (.one (.orow 0 4 none)))::L1) (λi=>[.row false 34 4 (frow (zp (p.take i)))]) (λi=>p.length-i) (λi=>i<=p.length) 0 (Qg _) rfl rfl λi hi=>?_
 have hol:(frow (zp (p.take i))).length=i:=by rw[To,Sf,Qq];omega
 by_cases h:i<p.length
 ·obtain⟨z,hz⟩:=gxE (l:=p) (i:=i) h;have hzb:=hb z (Qa hz);have hg:frow (zp (p.take (i+1)))=frow (zp (p.take i))++[fr (z:Rat)]:=by
   rw[Xd,hz];simp[frow,zp]
  refine go tt [.T,.x (He (f:=H9) hz),.k (qY (z:=z) (by omega)),.k (D9 (n:=1) (by decide)),.k (Nc (n:=z)),.s (sz:=4) (wM _)] rfl (by simp[Uw,hol,-List.getD_eq_getElem?_getD];omega) ?_;exact rd (i+1) (by omega) h (by rw[hg];rfl)
 ·have e:i=p.length:=by omega
  rw[e,Q7];exact Uf [.F,.k cc] rfl
theorem bX{p:Um}(hb:Bd 90000000 p)(hl:p.length<=1000000):Uj 61 [.one (rp (zp p))] [pr p]:=by
 have De:(frow (zp p)).length=p.length:=by rw[To,Sf]
 show Uj 61 [.one (rp (zp p))] [.one (.row (p.map H9))];refine Hz func61 rfl ?_;refine Ud [.o 3 55 2] rfl ?_;refine Ui (S:=Nat) 1 (λL1 i=>(7,.v (.oi i))::(3,.v (.one (.orow 0 2 none)))::L1) (λi=>[.row false 55 2 ((p.take i).map H9)]) (λi=>p.length-i) (λi=>i<=p.length) 0 (Qg _) rfl rfl λi hi=>?_
 have hol:((p.take i).map H9).length=i:=by rw[Q8,Qq];omega
 by_cases h:i<p.length
 ·obtain⟨z,hz⟩:=gxE (l:=p) (i:=i) h;have hzb:=hb z (Qa hz);have hq:∀c∈[H9 z],c.length=2:=λc hc=>by rw[Qo.1 hc];rfl
  have hg:(p.take (i+1)).map H9=(p.take i).map H9++[H9 z]:=by
   rw[Xd,hz];simp
  refine Ue [.T,.x (Ei (Qh5 hz)),.k (Qb2 (z:=z) (by omega)),.s (sz:=2) hq] rfl ?_;exact rd (i+1) (by omega) h (by rw[hg];rfl)
 ·have e:i=p.length:=by omega
  rw[e,Q7];exact Uf [.F] rfl
theorem rP{p q:Up}(hp:Rb 20000000 p)(hq:Rb 20000000 q)(hlp:p.length<=1000000)(hlq:q.length<=1000000):Uj 275 [.one (rp p),.one (rp q)] [.one (rp (Qaa p q))]:=by
 have h1:=To p;have h2:=To q;obtain⟨M,hM⟩:=nmE (max p.length q.length);have cc:=On (p:=QP (λi=>p.getD i 0+q.getD i 0) M);unfold Qaa;rw[<-hM];refine Hz func275 rfl ?_;refine Ud [.o 5 34 4] rfl ?_;refine Ui (S:=Nat) 1 (λL1 i=>(6,.v (.oi i))::(5,.v (.one (.orow 0 4 none)))::L1) (λi=>[.row false 34 4 (frow (QP (λi=>p.getD i 0+q.getD i 0) i))]) (λi=>M-i) (λi=>i<=M) 0 (Qg _) rfl rfl λi hi=>?_
 have hol:(frow (QP (λi=>p.getD i 0+q.getD i 0) i)).length=i:=by rw[To,UT]
 by_cases h:i<M
 ·refine go tt [.r 12 (eI (b:=(M:Int)) (by omega)),.T,.k (Qm7 (p:=p) (i:=i) (by omega)),.k (Qm7 (p:=q) (i:=i) (by omega)),.k (qX (hp.getD (by decide) i) (hq.getD (by decide) i)),.s (sz:=4) (wM _)] rfl (by simp[Uw,hol,-List.getD_eq_getElem?_getD];omega) ?_;exact rd (i+1) (by omega) h (by rw[OT,GY];rfl)
 ·have e:i=M:=by omega
  rw[e];exact Uf [.r 12 (eI (b:=(M:Int)) (by omega)),.F,.k cc] rfl
theorem Ii{p:Up}{c:Rat}(hp:Rb 40000000 p)(hc:Qs 40000000 c)(hlp:p.length<=1000000):Uj 249 [.one (rp p),.agg (fr c)] [.one (rp (Nb p c))]:=by
 have h1:=To p;have cc:=On (p:=QP (λi=>p.getD i 0*c) p.length);unfold Nb;refine Hz func249 rfl ?_;refine Ud [.o 5 34 4] rfl ?_;refine Ui (S:=Nat) 2 (λL1 i=>(9,.v (.oi i))::(5,.v (.one (.orow 1 4 none)))::L1) (λi=>[.blk 34 (fr c),.row false 34 4 (frow (QP (λi=>p.getD i 0*c) i))]) (λi=>p.length-i) (λi=>i<=p.length) 0 (Qg _) rfl rfl λi hi=>?_
 have hol:(frow (QP (λi=>p.getD i 0*c) i)).length=i:=by rw[To,UT]
 by_cases h:i<p.length
 ·have hg:p[i]? = some (p.getD i 0):=by rw[Qd,Qe h];rfl
  refine go tt [.T,.x (Ei hg),.k (rY (hp.getD (by decide) i) hc),.s (sz:=4) (wM _)] rfl (by simp[Uw,hol,-List.getD_eq_getElem?_getD];omega) ?_;exact rd (i+1) (by omega) h (by rw[OT,GY];rfl)
 ·have e:i=p.length:=by omega
  rw[e];exact Uf [.F,.k cc] rfl
theorem rN{p:Up}(hp:Rb 40000000 p)(hlp:p.length<=1000000):Uj 256 [.one (rp p)] [.one (rp (jW p))]:=by
 have cs:=Ii (p:=p) (c:=-1) hp ⟨by decide,by decide⟩ hlp;have co:=VJ (n:=-1) (by decide);rw[show((-1:Int):Rat)=-1 from rfl]at co;exact Ug func256 rfl [.k co,.k cs] rfl
theorem Qld{s t:Nat}{a b:Rat}(ha:Qs s a)(hb:Qs t b):Qs (s+t+1) (a*b):=by
 rw[<-IZ];unfold H4;rw[if_neg (Xq (Nv a) (Nv b))];have h1:=Ga a.num b.num;have h2:=Ga (a.den:Int) (b.den:Int);have:=ha.1;have:=ha.2;have:=hb.1;have:=hb.2;exact Qs.divInt (by omega) (by omega) (by omega)
theorem Qga{s:Nat}{p:Up}(hp:Rb s p):Rb (s+2) (jW p):=by
 unfold jW Nb;refine Rb.trim (Ql9 λi hi=>?_);have h1:Qs (s+0) (p.getD i 0):=by
  have hi:i<p.length:=hi;rw[Qd,Qe hi];exact hp _ (Xx hi)
 have:=Qld h1 (show Qs 1 (-1:Rat) from⟨by decide,by decide⟩);exact this.mono (by omega)
theorem uL(p:Up):(jW p).length<=p.length:=by
 unfold jW Nb;exact Qc (OW _) (by rw[UT];exact Qj _)
theorem rC{p q:Up}(hp:Rb 19000000 p)(hq:Rb 19000000 q)(hlp:p.length<=1000000)(hlq:q.length<=1000000):Uj 276 [.one (rp p),.one (rp q)] [.one (rp (DX p q))] :=
 Ug func276 rfl [.k (rN (hq.mono (by decide)) hlq),.k (rP (hp.mono (by decide)) ((Qga hq).mono (by decide)) hlp (Qc (uL q) hlq))] rfl
end Orr
