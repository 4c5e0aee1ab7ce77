/- T23 T24 ZB DigL R1 R3 R2 R4 F4 F5 T25 G1 G2 SortL KinL K1 K2 F6 F7 F8 F9 G3 G4 K3 K4 S1 S2 S3 R5 -/
import Derived.Test.YtdcbpgmmopdelaaGreatPart06
import Derived.Test.YtdcbpgmmopdelaaGreatPart00
import Derived.Test.YtdcbpgmmopdelaaGreatPart04
import Derived.Test.YtdcbpgmmopdelaaGreatPart05
set_option linter.all false
namespace Orq
open Orr Go
structure Dp(p:List Int):Prop where
 t:Gh p
 l:p.length<=9
 b:Bd (1130+4*(9-p.length)) p
theorem CH:Szz 9 1253:=⟨by decide,by decide⟩
theorem Dp.ok{p:Ft}(h:Dp p)(h0:p.length≠0):Okp 9 1180 p:=⟨CH,h.t,h0,h.l,Gd h.b (by omega)⟩
theorem Dp.der{p:Ft}(h:Dp p):Dp (Hn p):=by
 have hl:=Pw p;have hl2:=h.l;refine⟨Gk _ _,by omega,?_⟩;by_cases h0:p.length=0
 ·rw[Qf (l:=Hn p) (by omega)];exact YV
 ·exact Gd (TA h.b (by omega)) (by omega)
def Hb(a:Tm)(p:Ft):Int:=(UK p a).getD 0
theorem aX{p:Ft}(h:Dp p){a:Tm}(ha:Va a):UK p a=some (Hb a p)/\SgT p a (Hb a p):=by
 by_cases h0:p.length=0
 ·have e:p=[]:=Qf h0;subst e;refine⟨rfl,.inl ⟨rfl,λd dp=>?_⟩⟩;obtain⟨x,y,h1,h2,_⟩:=ha.cut.near (e:=1) (by decide);exact⟨x,y,h1,h2,λq _ _=>by simp only[cz,Jo,ev,Sy];exact dp⟩
 ·obtain⟨s,h1,h2⟩:=Ql9 (h.ok h0) ha;have e:Hb a p=s:=by unfold Hb;rw[h1];rfl
  rw[e];exact⟨h1,h2⟩
theorem Qvo{c:Rat->Int}{p q:Fw}{s:Int}(h:∀t,ev p t=ev q t)(hp:RS p c s):RS q c s:=by
 obtain⟨y,h1,h2⟩:=hp;exact⟨y,h1,λz h3 h4=>by rw[<-h];exact h2 z h3 h4⟩
theorem xX{a:Tm}(ha:Va a):∀(k:Nat) (p:Ft),Dp p->p.length<=k->p.length≠0->RS (cz p) (Hl a) (Pm (Hb a) k p)/\Pm (Hb a) k p≠0
 | 0,p,_,h1,h2=>by omega
 |
  k+1,p,h,h1,h2=>by
  simp only[Pm];rw[if_neg h2];obtain⟨_,hs⟩:=aX h ha;rcases hs with⟨e,hv⟩|⟨e,hn⟩
  ·rw[if_pos e];have hdn:(Hn p).length≠0:=λh0=>by
    by_cases h3:p.length=1
    ·obtain⟨c,rfl⟩:∃c,p=[c]:=Jx.1 h3;have hc:c≠0:=by have:=Rz h.t (by simp);simpa using this
     obtain⟨q,hq,_⟩:=IF ha.cut (hv (Gw (c:Rat)) (L8 (O5 hc)));rw[Gg]at hq;have:Gf [c] q=(c:Rat):=by simp only[Gf];grind
     rw[this]at hq;grind
    ·have h4:=M3 p (p.length-2);rw[Qf h0,show p.length-2+1=p.length-1 by omega]at h4;have h5:p.getD (p.length-1) 0≠0:=Rz h.t (by omega);rcases Yj.1 (h4.symm.trans (by simp))with h6|h6
     ·exact h5 h6
     ·omega
   have hl:=Pw p;obtain⟨i1,i2⟩:=xX ha k (Hn p) h.der (by omega) hdn;exact⟨uK ha.cut hv (Qvo (λt=>by rw[Gg,Da,Sw]) i1) i2,i2⟩
  ·rw[if_neg e];exact⟨jC ha.cut hn,e⟩
theorem B9{a:Tm}(ha:Va a){p:Ft}(h:Dp p)(h0:p.length≠0):RS (cz p) (Hl a) (Hk (Hb a) p)/\Hk (Hb a) p≠0:=xX ha _ p h (Qn _) h0
theorem YC{a:Tm}:Hk (Hb a) []=0:=rfl
theorem Qpw{l:Ft}:∀z∈l,z.natAbs≤most l:=by
 have key:∀(l:Ft) (m:Nat),m≤l.foldl (λm z=>if m<z.natAbs then z.natAbs else m) m/\∀z∈l,z.natAbs≤l.foldl (λm z=>if m<z.natAbs then z.natAbs else m) m:=by
  intro l
  induction l with
  |nil=>exact λm=>⟨Qn _,λz hz=>by cases hz⟩
  |
   cons y l ih =>
   intro m;obtain⟨e,he⟩:=nmE (if m<y.natAbs then y.natAbs else m);have h1:m<=e/\y.natAbs<=e:=by rw[he];split <;> omega
   obtain⟨i1,i2⟩:=ih e;simp only[Z0];rw[<-he];refine⟨by omega,λz hz=>?_⟩;rcases Qj.1 hz with rfl|hz
   ·omega
   ·exact i2 z hz
 exact(key l 0).2
theorem YK{p:Ft}(h:Gp p≠0):Hw p*((Gp p).natAbs:Rat)=((Gp p).natAbs:Rat)+((most (p.take (p.length-1)):Nat):Rat):=by
 unfold Hw;rw[<-Tt];have hp:0<(Gp p).natAbs:=by omega
 have:=nat_pos hp;rw[show((((Gp p).natAbs:Int)):Rat)=((Gp p).natAbs:Rat) from rfl,Hu this];rw[Wd];rfl
theorem Qa1{m:Nat}{x:Rat}(hx:1≤Gw x):∀(p:Ft) (lp:p.length≠0),(∀z∈p.take (p.length-1),z.natAbs≤m)->Gp p≠0->(m:Rat)≤(Gw x-1)*((Gp p).natAbs:Rat)->((Gp p).natAbs:Rat)≤Gf p x*(((Int.sign (Gp p))*(if x<0/\p.length % 2=0 then -1 else 1):Int):Rat)
 | [],lp,_,_,_=>absurd rfl lp
 |
  [c],_,_,hc,_=>by
  have hl:Gp [c]=c:=rfl;rw[hl]at hc ⊢;rw[if_neg (by simp),Ui];have h1:Gf [c] x=(c:Rat):=by simp only[Gf];grind
  rw[h1];have h2:c*Int.sign c=(c.natAbs:Int):=Int.mul_sign_self c;have:=congrArg (λz:Int=>(z:Rat)) h2;rw[Jc]at this;rw[this];exact Ql
 |
  c::d::p,_,hm,hc,hb=>by
  have hl:Gp (c::d::p)=Gp (d::p):=by unfold Gp;simp[List.getD_cons_succ]
  have ih:=Qa1 hx (d::p) (by simp) (λz hz=>hm z (by
   have e:(c::d::p).take ((c::d::p).length-1)=c::(d::p).take ((d::p).length-1):=by simp
   rw[e];exact Qi _ hz)) (by rw[<-hl];exact hc) (by rw[<-hl];exact hb)
  rw[hl]at hc hb ⊢;have hcm:=hm c (by simp);obtain⟨s,hs⟩:∃s:Int,s=Int.sign (Gp (d::p)):=⟨_,rfl⟩;have hsv:s=1\/s=-1:=by
   rw[hs];rcases Wg hc with h|h
   ·exact .inr (Ju h)
   ·exact .inl (Ye h)
  rw[<-hs]at ih ⊢;obtain⟨ld,hld⟩:∃ld:Rat,ld=((Gp (d::p)).natAbs:Rat):=⟨_,rfl⟩;rw[<-hld]at ih hb ⊢;have hcq:Gw (c:Rat)<=(m:Rat):=by rw[Mr];exact Zg.2 hcm
  rw[Mh]at hcq;have e1:Gf (c::d::p) x=(c:Rat)+x*Gf (d::p) x:=rfl;rw[e1];have hlen:(c::d::p).length % 2=0↔¬(d::p).length % 2=0:=by simp only[Zf];omega
  generalize Gf (d::p) x=y at *;generalize (m:Rat)=mm at *;generalize (c:Rat)=cc at *;have hx0:=hx;by_cases hneg:x<0
  ·have hq:Gw x=-x:=by unfold Gw;rw[if_pos hneg]
   rw[hq]at hx0 hb;by_cases hpar:(d::p).length % 2=0
   ·rw[if_pos ⟨hneg,hpar⟩]at ih;rw[if_neg λh=>(hlen.1 h.2) hpar];rcases hsv with rfl|rfl
    ·have ih:ld<=y*(-1):=by simpa using ih
     have:=Zt ih (show 0<=-x by grind);have e:(((1:Int)*1:Int):Rat)=1:=rfl;rw[e];grind
    ·have ih:ld<=y*1:=by simpa using ih
     have:=Zt ih (show 0<=-x by grind);have e:(((-1:Int)*1:Int):Rat)=-1:=rfl;rw[e];grind
   ·rw[if_neg λh=>hpar h.2]at ih;rw[if_pos ⟨hneg,hlen.2 hpar⟩];rcases hsv with rfl|rfl
    ·have ih:ld<=y*1:=by simpa using ih
     have:=Zt ih (show 0<=-x by grind);have e:(((1:Int)*-1:Int):Rat)=-1:=rfl;rw[e];grind
    ·have ih:ld<=y*(-1):=by simpa using ih
     have:=Zt ih (show 0<=-x by grind);have e:(((-1:Int)*-1:Int):Rat)=1:=rfl;rw[e];grind
  ·have hq:Gw x=x:=by unfold Gw;rw[if_neg hneg]
   rw[hq]at hx0 hb;rw[if_neg λh=>hneg h.1]at ih ⊢;rcases hsv with rfl|rfl
   ·have ih:ld<=y*1:=by simpa using ih
    have:=Zt ih (show 0<=x by grind);have e:(((1:Int)*1:Int):Rat)=1:=rfl;rw[e];grind
   ·have ih:ld<=y*(-1):=by simpa using ih
    have:=Zt ih (show 0<=x by grind);have e:(((-1:Int)*1:Int):Rat)=-1:=rfl;rw[e];grind
theorem bJ{p:Ft}(tp:Gh p)(lp:p.length≠0){x:Rat}(hx:Hw p<=Gw x):1<=Gw (Gf p x)/\(0<=x->Hq p x=Qd7 p)/\(x<0->Hq p x=Qd6 p):=by
 have hl:=Lq tp lp;have hpos:0<(Gp p).natAbs:=by omega
 have h1:(1:Rat)<=((Gp p).natAbs:Rat):=by
  have:((1:Nat):Rat)<=((Gp p).natAbs:Rat):=Zg.2 hpos;exact this
 have hm0:(0:Rat)<=((most (p.take (p.length-1)):Nat):Rat):=Xt;have hb:=YK hl;have hx1:=Q7 hx (show(0:Rat)<=((Gp p).natAbs:Rat) by grind);have hx2:1<=Gw x:=by
  rcases Hr 1 (Gw x)with h|h
  ·exact h
  ·exfalso;have:=J8 h (show(0:Rat)<((Gp p).natAbs:Rat) by grind);grind
 have key:=Qa1 (m:=most (p.take (p.length-1))) hx2 p lp (λz hz=>Qpw z hz) hl (by grind);obtain⟨s,hs⟩:∃s:Int,s=Int.sign (Gp p)*(if x<0/\p.length % 2=0 then -1 else 1):=⟨_,rfl⟩;rw[<-hs]at key;have hsv:s=1\/s=-1:=by
  rw[hs];rcases Wg hl with h|h
  ·rw[Ju h];split <;> simp
  ·rw[Ye h];split <;> simp
 have hsg:Hq p x=s/\1<=Gw (Gf p x):=by
  rw[Sf];rcases hsv with e|e
  ·rw[e]at key ⊢;have key:((Gp p).natAbs:Rat)<=Gf p x:=by simpa using key
   exact⟨Sp.2 (by grind),by unfold Gw;rw[if_neg (by grind)];grind⟩
  ·rw[e]at key ⊢;have key:((Gp p).natAbs:Rat)<=Gf p x*(-1):=by simpa using key
   exact⟨M7.2 (by grind),by unfold Gw;rw[if_pos (by grind)];grind⟩
 refine⟨hsg.2,λh=>?_,λh=>?_⟩
 ·rw[hsg.1,hs,if_neg λh'=>by have:=h'.1;grind];unfold Qd7;omega
 ·rw[hsg.1,hs];unfold Qd6;by_cases he:p.length % 2=0
  ·rw[if_pos ⟨h,he⟩,if_pos he];omega
  ·rw[if_neg λh'=>he h'.2,if_neg he];omega
theorem VE{f g:Ft->Int}:∀{l:Fu} (s:Nat×Int),(∀p∈l,f p=g p)->l.foldl (M8 f) s=l.foldl (M8 g) s
 | [],s,_=>rfl
 |
  p::l,s,h=>by
  simp only[Z0];have e:M8 f s p=M8 g s p:=by unfold M8;rw[h p (List.mem_cons_self ..)]
  rw[e];exact VE _ λq hq=>h q (Qi _ hq)
theorem Qau:∀(l:Fu),(∀p∈l,Gh p/\p.length≠0)->∃X:Rat,0<X/\∀x,X≤x->(∀p∈l,Hq p x=Qd7 p)/\∀p∈l,Hq p (-x)=Qd6 p
 | [],_=>⟨1,by decide,λx _=>⟨(λp hp=>by cases hp),(λp hp=>by cases hp)⟩⟩
 |
  p::l,h=>by
  obtain⟨X,hX,hl⟩:=Qau l λq hq=>h q (Qi _ hq)
  obtain⟨tp,lp⟩:=h p (Qw ..);refine⟨X+Gw (Hw p),by have:=Tz (Hw p);grind,λx hx=>?_⟩;have hb0:=Tz (Hw p);have hb1:Hw p<=Gw (Hw p):=by unfold Gw;split <;> grind
  obtain⟨l1,l2⟩:=hl x (by grind);have e1:Gw x=x:=by unfold Gw;rw[if_neg (by grind)]
  have e2:Gw (-x)=x:=by rw[Az,e1]
  refine⟨λq hq=>?_,λq hq=>?_⟩
  ·rcases Qj.1 hq with rfl|hq
   ·exact(bJ tp lp (x:=x) (by rw[e1];grind)).2.1 (by grind)
   ·exact l1 q hq
  ·rcases Qj.1 hq with rfl|hq
   ·exact(bJ tp lp (x:=-x) (by rw[e2];grind)).2.2 (by grind)
   ·exact l2 q hq
theorem aE{q:Ft}{L:Fx}(hS:WB (cz q) L)(tq:Gh q)(lq:q.length≠0){x y:Rat}(hxy:x<y)(h:Hw q<=x\/y<=-Hw q)(hb:0<Hw q):vv L x=vv L y:=by
 rcases Classical.em (vv L x=vv L y)with e|e
 ·exact e
 ·exfalso;obtain⟨r,r1,r2,r3⟩:=uE hS hxy e (d:=1) (by decide);have:=(bJ tq lq (x:=r) (by rcases h with h|h <;> (unfold Gw;split <;> grind))).1;rw[Gg]at r3;grind
theorem QT{p:Ft}(h:Gp p≠0):1<=Hw p:=by
 have hb:=YK h;have hp:=nat_pos (show 0<(Gp p).natAbs by omega);have hm0:(0:Rat)<=((most (p.take (p.length-1)):Nat):Rat):=Xt;rcases Hr 1 (Hw p)with h'|h'
 ·exact h'
 ·have:=J8 h' hp;grind
theorem jB{q:Ft}{l:Fu}(hS:WB (cz q) ((q::l).map cz))(hl:∀p∈q::l,Gh p/\p.length≠0):uY (q::l)=(vv ((q::l).map cz) (-Hw q):Int)-(vv ((q::l).map cz) (Hw q):Int):=by
 obtain⟨tq,lq⟩:=hl q (Qw ..);have hb:=QT (Lq tq lq);obtain⟨X,hX,hx⟩:=Qau (q::l) hl;obtain⟨h1,h2⟩:=hx (X+Hw q) (by grind);have e1:XV Qd7 (q::l)=vv ((q::l).map cz) (X+Hw q):=by
  rw[<-JF];unfold Be XV;rw[VE (f:=Qd7) (g:=λp=>Hq p (X+Hw q)) (0,0) λp hp=>(h1 p hp).symm]
 have e2:XV Qd6 (q::l)=vv ((q::l).map cz) (-(X+Hw q)):=by
  rw[<-JF];unfold Be XV;rw[VE (f:=Qd6) (g:=λp=>Hq p (-(X+Hw q))) (0,0) λp hp=>(h2 p hp).symm]
 unfold uY;rw[e1,e2,aE hS tq lq (x:=-(X+Hw q)) (y:=-Hw q) (by grind) (.inr Ql) (by grind),<-aE hS tq lq (x:=Hw q) (y:=X+Hw q) (by grind) (.inl Ql) (by grind)]
theorem Qj7{f:Fw}{L:Fx}(hS:WB f L){x y:Rat}(hxy:x<y)(hv:vv L y+2<=vv L x):∃m,x<m/\m<y/\vv L m<vv L x/\vv L y<vv L m/\ev f m≠0:=by
 obtain⟨R,hR,hx,hy⟩:=yS x y;obtain⟨e,ep,he⟩:=Qm0 hS R hR;have key:∀n:Nat,∀x,Gw x<=R->x<y->vv L y+2<=vv L x->y-x<=(n:Rat)*e->∃m,x<m/\m<y/\vv L m<vv L x/\vv L y<vv L m:=by
  intro n
  induction n with
  |zero=>intro x _ hxy _ hn;rw[show((0:Nat):Rat)=0 from rfl]at hn;exfalso;clear he;grind
  |
   succ n ih =>
   intro x hx hxy hv hn;have hn':(((n+1:Nat):Rat))=(n:Rat)+1:=by push_cast;rfl
   rw[hn']at hn;rcases Hr (y-x) e with h1|h1
   ·have:=he x y hx hy hxy h1;omega
   ·have hm:Gw (x+e)<=R:=HV hx hy (by clear he ih;grind) (by clear he ih;grind);have h2:=he x (x+e) hx hm (by clear he ih;grind) (by clear he ih;grind);have h3:=Aa hS (show x<x+e by clear he ih;grind);by_cases h4:vv L x=vv L (x+e)
    ·obtain⟨m,m1,m2,m3,m4⟩:=ih (x+e) hm (by clear he ih;grind) (by omega) (by clear he ih;grind);exact⟨m,by clear he ih;grind,m2,by omega,m4⟩
    ·exact⟨x+e,by clear he ih;grind,by clear he ih;grind,by omega,by omega⟩
 obtain⟨n,hn⟩:=YY (z:=y-x) ep;obtain⟨m,m1,m2,m3,m4⟩:=key n x hx hxy hv hn;rcases Classical.em (ev f m=0)with h0|h0
 ·-- a little farther on
  obtain⟨e2,e2p,hl⟩:=loc hR hS (w:=f) (u:=[1]) (λt=>by rw[S9];grind);obtain⟨d,dp,d1,d2⟩:=min2 (a:=e2) (b:=(y-m) / 2) e2p (Em (by clear he key hl;grind) (by decide));have h2:(y-m) / 2*2=y-m:=Hu (by decide);have hmR:Gw m<=R:=HV hx hy (Qm m1) (Qm m2);have hmR2:Gw (m+d)<=R:=HV hx hy (by clear he key hl;grind) (by clear he key hl;grind);rcases hl m (m+d) hmR hmR2 (by clear he key hl;grind) (by clear he key hl;grind)with⟨p1,p2,_⟩|⟨_,p1,_,p3,_⟩
  ·refine⟨m+d,by clear he key hl;grind,by clear he key hl;grind,by omega,by omega,λh'=>?_⟩;have:=p2.s;rw[Ha.2 h']at this;exact p2.n this.symm
  ·rw[Ha.2 h0]at p3;exact absurd p3.symm p1
 ·exact⟨m,m1,m2,m3,m4,h0⟩
theorem Qrj{q:Ft}{L:Fx}(hS:WB (cz q) L)(tq:Gh q)(nq:q.length<=9)(lq:2<=q.length){lo hi:Rat}(hl:lo<hi)(hv:vv L hi+2<=vv L lo):1<(hi-lo)*((2^(Pa q q+1):Nat):Rat):=by
 rcases Hr ((hi-lo)*((2^(Pa q q+1):Nat):Rat)) 1 with hw|hw
 ·exfalso;have hpow:(0:Rat)<=((2^(Pa q q+1):Nat):Rat):=Xt;obtain⟨m,m1,m2,m3,m4,m0⟩:=Qj7 hS hl hv;obtain⟨R,hR,r1,r2⟩:=yS lo hi;have hd:=L8 m0;obtain⟨d,dp,_,db⟩:=Ry (b:=EH R (cz q)) (d:=Gw (ev (cz q) m) / 2) (Bm hR _) (Em hd (by decide));have hd2:Gw (ev (cz q) m) / 2*2=Gw (ev (cz q) m):=Hu (by decide);have hmR:Gw m<=R:=HV r1 r2 (Qm m1) (Qm m2);have hnear:∀r,Gw r<=R->Gw (ev (cz q) r)<Gw (ev (cz q) m) / 2->d<Gw (r-m):=λr hr hs=>by
   rcases Hr (Gw (r-m)) d with h|h
   ·exfalso;have h1:=Bp (p:=cz q) hmR hr hR h db;have h2:=Mn (ev (cz q) m-ev (cz q) r) (ev (cz q) r);rw[show ev (cz q) m-ev (cz q) r+ev (cz q) r=ev (cz q) m by grind,Qci]at h2;grind
   ·exact h
  refine Qiy (R:=R+1) (d:=d+d) tq tq nq nq lq lq (by grind) (by grind) λe ep=>?_
  obtain⟨e',ep',e1,e2⟩:=min2 (a:=e) (b:=Gw (ev (cz q) m) / 2) ep (Em hd (by decide));obtain⟨x,x1,x2,x3⟩:=uE hS m1 (by omega) ep';obtain⟨y,y1,y2,y3⟩:=uE hS m2 (by omega) ep';have hxR:Gw x<=R:=HV r1 r2 x1 (by grind);have hyR:Gw y<=R:=HV r1 r2 (by grind) y2;have nx:=hnear x hxR (by grind);have ny:=hnear y hyR (by grind);have ex:Gw (x-m)=m-x:=by unfold Gw;split <;> grind
  have ey:Gw (y-m)=y-m:=by unfold Gw;split <;> grind
  rw[ex]at nx;rw[ey]at ny;have exy:Gw (x-y)=y-x:=by unfold Gw;split <;> grind
  refine⟨x,y,by grind,by grind,by rw[exy];grind,?_,by rw[<-Gg];grind,by rw[<-Gg];grind⟩;rw[exy];exact Zi (Q7 (show y-x<=hi-lo by grind) hpow) hw
 ·exact hw
theorem Qhy:∀{k:Nat} {a b:Ft} {l:Fu},OO k a b=some l->∀p∈l,p.length≠0
 | 0,_,_,_,h=>by cases h
 |
  k+1,a,b,l,h=>by
  simp only[OO]at h
  split at h
  ·injection h with h;subst h;exact λp hp=>by cases hp
  ·rename_i h0;obtain⟨r,_,h⟩:=Qk.1 h;obtain⟨l',h1,h⟩:=Qk.1 h;injection h with h;subst h;intro p hp;rcases Qj.1 hp with rfl|hp
   ·exact h0
   ·exact Qhy h1 p hp
theorem Okp.pb{n s:Nat}{p:Ft}(h:Okp n s p)(hs:s<=16777216):Pb p:=⟨h.t,by have:=h.l;have:=h.z.1;omega,Gd h.b hs⟩
theorem qO{p:Ft}{q:Ft}{l:Fu}(hp:Pb p)(h:chain p=some (q::l))(hq:q.length≠0):∀r∈q::l,Gh r/\r.length≠0:=by
 have h1:=(Orr.chain_ok hp h).2;unfold chain at h;obtain⟨a,_,h⟩:=Qk.1 h
 split at h
 ·cases h
 ·obtain⟨d,_,h⟩:=Qk.1 h;obtain⟨l',h3,h⟩:=Qk.1 h;injection h with h;injection h with e1 e2;subst e1;subst e2;intro r hr;refine⟨(h1 r hr).t,?_⟩;rcases Qj.1 hr with rfl|hr
  ·exact hq
  ·exact Qhy h3 r hr
inductive RI (q:List Int) (L:List (List Rat)):Rat->List Tm->Rat->Prop
 |nil {lo hi:Rat} (h:lo<=hi) (hv:vv L lo=vv L hi):RI q L lo [] hi
 |cons {lo hi:Rat} {t:Tm} {l:List Tm} (h:lo<=t.lo) (hv:vv L lo=vv L t.lo) (ht:Vt (cz q) L t.lo t.hi) (hp:t.p=q) (hl:RI q L t.hi l hi):RI q L lo (t::l) hi
theorem RI.app{q:Ft}{L:Fx}{lo m hi:Rat}{l l':List Tm}(h:RI q L lo l m)(h':RI q L m l' hi):RI q L lo (l++l') hi:=by
 induction h with
 |
  nil h hv =>
  cases h' with
  |nil h2 hv2=>exact .nil (by grind) (by omega)
  |cons h2 hv2 ht hp hl=>exact .cons (by grind) (by omega) ht hp hl
 |cons h hv ht hp _ ih=>exact .cons h hv ht hp (ih h')
theorem Qh0{D M k:Nat}{m:Rat}(h:Gr D M k m)(hM:0<M)(hs:Gy (D:Int)+Gy (M:Int)+k<=16777216):chq m=some m:=by
 have:=Oj h hM hs;unfold chq;rw[if_pos ⟨this.1,this.2⟩]
theorem CN{q:Ft}{c:Fu}(hS:WB (cz q) (c.map cz))(tq:Gh q)(nq:q.length<=9)(hc1:q.length<2->c=[q]){D M F:Nat}(hM:0<M):∀(k j:Nat) (lo hi:Rat),lo<hi->Gr D M j lo->Gr D M j hi->Gy (D:Int)+Gy (M:Int)+(j+k)<=16777216->(hi-lo)*((2^(Pa q q+1):Nat):Rat)<=((2^k:Nat):Rat) ->
 ∃l,I5 q c (F+k+1) lo hi ((vv (c.map cz) lo:Int)-(vv (c.map cz) hi:Int))=some l/\RI q (c.map cz) lo l hi/\∀t∈l,∃k',k'≤j+k/\Gr D M k' t.lo/\Gr D M k' t.hi:=by
 intro k
 induction k with
 |
  zero =>
  intro j lo hi hl g1 g2 hs hK;have hle:=Aa hS hl;have h2:vv (c.map cz) lo<vv (c.map cz) hi+2:=by
   rcases Q8 (vv (c.map cz) lo) (vv (c.map cz) hi+2)with h|h
   ·exact h
   ·exfalso;have lq:2<=q.length:=by
     rcases Q8 q.length 2 with e|e
     ·have hvv:∀x,vv (c.map cz) x=vv (c.map cz) 0:=λx=>by
       rcases hS with⟨c0,hc0,hcc,hl'⟩|⟨g',l',k',hk,hg,hsc,hl'⟩
       ·rw[hl'];simp only[vv,tc,hcc]
       ·rw[hc1 e]at hl';cases hl'
      rw[hvv lo,hvv hi]at h;omega
     ·exact e
    have:=Qrj hS tq nq lq hl h;rw[Ve]at hK;have h7:((1:Nat):Rat)=1:=rfl;rw[h7]at hK;grind
  simp only[I5];by_cases e0:vv (c.map cz) lo=vv (c.map cz) hi
  ·rw[if_pos (by omega)];exact⟨[],rfl,.nil (Qm hl) e0,λt ht=>by cases ht⟩
  ·rw[if_neg (by omega),if_pos (by omega)];refine⟨[⟨q,lo,hi⟩],rfl,.cons Ql rfl ⟨hS,hl,by show vv _ lo=vv _ hi+1;omega⟩ rfl (.nil Ql rfl),λt ht=>?_⟩;rw[Qo.1 ht];exact⟨j,by omega,g1,g2⟩
 |
  succ k ih =>
  intro j lo hi hl g1 g2 hs hK;have hle:=Aa hS hl;show ∃l,(if (vv (c.map cz) lo:Int)-(vv (c.map cz) hi:Int)=0 then some []else if (vv (c.map cz) lo:Int)-(vv (c.map cz) hi:Int)=1 then some [⟨q,lo,hi⟩]else(chq (O7 lo hi)).bind λm=>(I5 q c (F+k+1) lo m (Rf c lo m)).bind λl=>(I5 q c (F+k+1) m hi ((vv (c.map cz) lo:Int)-(vv (c.map cz) hi:Int)-Rf c lo m)).bind λr=>some (l++r))=some l/\_;by_cases e0:vv (c.map cz) lo=vv (c.map cz) hi
  ·rw[if_pos (by omega)];exact⟨[],rfl,.nil (Qm hl) e0,λt ht=>by cases ht⟩
  by_cases e1:vv (c.map cz) lo=vv (c.map cz) hi+1
  ·rw[if_neg (by omega),if_pos (by omega)];refine⟨[⟨q,lo,hi⟩],rfl,.cons Ql rfl ⟨hS,hl,e1⟩ rfl (.nil Ql rfl),λt ht=>?_⟩;rw[Qo.1 ht];exact⟨j,by omega,g1,g2⟩
  ·rw[if_neg (by omega),if_neg (by omega)];obtain⟨m,hm⟩:=nmE ((lo+hi) / 2);have h2:(lo+hi) / 2*2=lo+hi:=Hu (by decide);rw[<-hm]at h2;have gm:Gr D M (j+1) m:=by rw[hm];exact PU g1 g2
   have l1:lo<m:=by grind
   have l2:m<hi:=by grind
   rw[Ae,<-hm,Qh0 gm hM (by omega)];show ∃l,((I5 q c (F+k+1) lo m (Rf c lo m)).bind λl=>(I5 q c (F+k+1) m hi ((vv (c.map cz) lo:Int)-(vv (c.map cz) hi:Int)-Rf c lo m)).bind λr=>some (l++r))=some l/\_;rw[Mq (Qm l1),show(vv (c.map cz) lo:Int)-(vv (c.map cz) hi:Int)-((vv (c.map cz) lo:Int)-(vv (c.map cz) m:Int))=(vv (c.map cz) m:Int)-(vv (c.map cz) hi:Int) by omega];rw[jW k]at hK;have hp:∀x y:Rat,(y-x)*2=hi-lo->(y-x)*((2^(Pa q q+1):Nat):Rat)<=((2^k:Nat):Rat):=λx y h=>by
    have:(y-x)*((2^(Pa q q+1):Nat):Rat)*2=(hi-lo)*((2^(Pa q q+1):Nat):Rat):=by rw[<-h];grind
    grind
   obtain⟨la,a1,a2,a3⟩:=ih (j+1) lo m l1 (JD g1) gm (by omega) (hp lo m (by grind));obtain⟨lb,b1,b2,b3⟩:=ih (j+1) m hi l2 gm (JD g2) (by omega) (hp m hi (by grind));rw[a1];show ∃l,((I5 q c (F+k+1) m hi ((vv (c.map cz) m:Int)-(vv (c.map cz) hi:Int))).bind λr=>some (la++r))=some l/\_;rw[b1];refine⟨la++lb,rfl,a2.app b2,λt ht=>?_⟩;rcases Qr.1 ht with ht|ht
   ·obtain⟨k',h1,h2,h3⟩:=a3 t ht;exact⟨k',by omega,h2,h3⟩
   ·obtain⟨k',h1,h2,h3⟩:=b3 t ht;exact⟨k',by omega,h2,h3⟩
theorem Qjd{D M k:Nat}{q:Rat}(h:Gr D M k q):Gr D M k (-q):=by
 obtain⟨u,hu⟩:=h.u;exact⟨⟨-u,by rw[Ka,<-hu];grind⟩,by rw[Az];exact h.b,h.d⟩
theorem HU{m s:Nat}(h:m<2^s):Gy ((m+1:Nat):Int)<=s+1:=by
 rw[Pn,Zw,Zq];omega
theorem Qeh{z:Int}{s:Nat}(h:Gy z<=s):Gy ((z.natAbs+1:Nat):Int)<=s+1:=HU (Pn.1 h)
theorem Qq9{x:Rat}{m s g N:Nat}(hx:x<=2*((m+1:Nat):Rat))(hm:m+1<=2^s)(hN:s+1+g<=N):x*((2^g:Nat):Rat)<=((2^N:Nat):Rat):=by
 have h3:=Zg.2 hm;have e:=jW s;have h4:(0:Rat)<=((2^s:Nat):Rat):=Xt;have h1:x<=((2^(s+1):Nat):Rat):=by rw[e];grind
 have h5:(0:Rat)<=((2^g:Nat):Rat):=Xt;refine Zi (Q7 h1 h5) ?_;have h6:2^(s+1)*2^g<=2^N:=by
  rw[<-Xs];exact Zs (by decide) hN
 have:=Zg.2 h6;rw[Rat.natCast_mul]at this;exact this
theorem iH{s:Nat}{l:Ft}(h:Bd s l):most l<2^s:=by
 have key:∀(l:Ft) (m:Nat),m<2^s->Bd s l->l.foldl (λm z=>if m<z.natAbs then z.natAbs else m) m<2^s:=by
  intro l
  induction l with
  |nil=>exact λm h _=>h
  |
   cons y l ih =>
   intro m hm hb;simp only[Z0];refine ih _ ?_ λz hz=>hb z (Qi _ hz)
   have:=hb y (Qw ..);rw[Pn]at this
   split <;> assumption
 exact key l 0 (Zy (by decide)) h
theorem vK{p q:Ft}(h:qQ p=some q):q=p:=by
 unfold qQ at h
 split at h
 ·injection h with h;exact h.symm
 ·cases h
theorem Qe3{s N:Nat}{p:Ft}(hNe:N=63*s+5160)(hs9:s≤1180)(h:Okp 9 s p):∃q c l,Me p=some q/\chain p=some c/\OK p=some l/\WB (cz q) (c.map cz)/\RI q (c.map cz) (-Hw q) l (Hw q)/\(∀t∈l,Va t)/\(∀x y,x<y->Hw q≤x\/y≤-Hw q->vv (c.map cz) x=vv (c.map cz) y)/\q.length≤p.length/\∀t∈l,t.p=q/\t.lo<t.hi/\Bd (s+69) q/\∃D M k,Gr D M k t.lo/\Gr D M k t.hi/\0<M/\Gy (D:Int)≤s+69/\Gy (M:Int)≤s+70/\k≤N:=by
 obtain⟨pp,Ee,hpb⟩:=h.pr;obtain⟨g,q',hq',sq⟩:=Ic h;obtain⟨q,l,q1,q2,hS,hl0⟩:=chain_ok h;rw[hq']at q1;injection q1 with q1;subst q1;have e1:∀t,Gf (Gm p) t=Gf q' t*Gf g t:=λt=>by rw[sq.e];grind
 obtain⟨p1,p2⟩:=Rp pp.t pp.n e1;have hch:OO 66 q' (Gm (Hn q'))=some l:=by
  have h2:=q2;unfold chain at h2;rw[hq']at h2;simp only[Y6]at h2
  split at h2
  ·cases h2
  ·cases hd:qQ (Hn q')with
   |none=>rw[hd]at h2;cases h2
   |
    some d =>
    rw[hd]at h2;simp only[Y6]at h2;obtain rfl:d=Hn q':=vK hd;cases hc:OO 66 q' (Gm (Hn q'))with
    |none=>rw[hc]at h2;cases h2
    |some l'=>rw[hc]at h2;simp at h2;rw[h2]
 have hll:=S8 sq.pq.t sq.pg.t pp.t e1 p1 p2;have hl9:=h.l;have bq:Bd (s+69) q':=Ad hpb (by omega) pp.t sq.pq.t sq.pg.t pp.n e1;have hall:=qO (h.pb (by omega)) q2 sq.pq.n;have hld:Gp q'≠0:=by have:=sq.pq.l;omega
 have hb1:=QT hld;obtain⟨D,hD⟩:=nmE ((Gp q').natAbs);obtain⟨m,hm⟩:=nmE (most (q'.take (q'.length-1)));have hm2:m<2^(s+69):=by rw[hm];exact iH (s:=s+69) λz hz=>bq z (Qq hz)
 have hD0:0<D:=by omega
 have hDs:Gy (D:Int)<=s+69:=by
  have:=Nl bq;rw[Pn]at this ⊢;rw[Zw,hD];exact this
 have hbe:=YK hld;rw[<-hD,<-hm]at hbe;have hDq:=nat_pos hD0;have hbm:Hw q'<=((m+1:Nat):Rat):=by
  have hD1:(1:Rat)<=(D:Rat):=by
   have:((1:Nat):Rat)<=(D:Rat):=Zg.2 hD0;exact this
  have hm0:(0:Rat)<=(m:Rat):=Xt;have h3:=Ni (a:=(m:Rat)) (c:=1) hm0 Ql (by decide) hD1;rcases Hr (Hw q') ((m+1:Nat):Rat)with h'|h'
  ·exact h'
  ·exfalso;have:=J8 h' hDq
   push_cast at this;grind
 have gb:Gr D (m+1) 0 (Hw q'):=by
  refine⟨⟨(D+m:Nat),?_⟩,?_,hD0⟩
  ·rw[Ve,Y0,hbe];rw[show((((D+m:Nat):Int)):Rat)=((D+m:Nat):Rat) from rfl];push_cast;rfl
  ·have:Gw (Hw q')=Hw q':=by unfold Gw;rw[if_neg (by grind)]
   rw[this];exact hbm
 have hMs:Gy ((m+1:Nat):Int)<=s+69+1:=HU (s:=s+69) hm2;have hK:(Hw q' - -Hw q')*((2^(Pa q' q'+1):Nat):Rat)<=((2^N:Nat):Rat):=by
  have hps:=Ep bq;have hg:Pa q' q'<=(2*s+164)*31:=by
   unfold Pa;exact Xl (by omega) (by omega)
  exact Qq9 (s:=s+69) (g:=Pa q' q'+1) (N:=N) (by grind) hm2 (by omega)
 have hN:Gy (D:Int)+Gy ((m+1:Nat):Int)+(0+N)<=16777216:=by omega
 obtain⟨F,hFe⟩:=nmE (99999-N);obtain⟨ls,r1,r2,r3⟩:=CN (F:=F) hS sq.pq.t (by omega) (λh=>by rw[hl0 h]) (Wm m) N 0 (-Hw q') (Hw q') (by grind) (Qjd gb) gb hN hK;rw[show F+N+1=100000 by omega]at r1;have hchq:chq (Hw q')=some (Hw q'):=Qh0 gb (Wm m) (by omega);have key:∀t∈ls,Va t/\t.p=q'/\t.lo<t.hi/\Bd (s+69) q'/\∃D M k,Gr D M k t.lo/\Gr D M k t.hi/\0<M/\Gy (D:Int)≤s+69/\Gy (M:Int)≤s+70/\k≤N:=λt ht=>by
  obtain⟨k',k1,k2,k3⟩:=r3 t ht;have hmem:∀{lo hi:Rat} {ls:List Tm},RI q' ((q'::l).map cz) lo ls hi->t∈ls->Vt (cz q') ((q'::l).map cz) t.lo t.hi/\t.p=q':=λh=>by
   induction h with
   |nil=>intro ht;cases ht
   |
    cons h hv ht' hp hl ih =>
    intro ht;rcases Qj.1 ht with rfl|ht
    ·exact⟨ht',hp⟩
    ·exact ih ht
  obtain⟨v1,v2⟩:=hmem r2 ht;have lq2:2<=q'.length:=by
   rcases Q8 q'.length 2 with e|e
   ·exfalso;have hvv:∀x,vv ((q'::l).map cz) x=0:=λx=>by
     rw[hl0 e,sq.pq.one e];have hv1:∀x:Rat,ev (cz [1]) x=1:=λx=>by rw[Gg,Ru]
     simp only[Zx,Jo,vv,tc,hv1];have:Gt 1=1:=by decide
     rw[this];decide
    have:=v1.v;rw[hvv,hvv]at this;omega
   ·exact e
  exact⟨⟨.inr ⟨_,by rw[v2];exact v1⟩,by rw[v2];exact sq.pq.t,by rw[v2];omega,by rw[v2];exact lq2,by rw[v2];exact Gd bq (by omega),λ_=>by rw[v2];exact Gd bq (by omega),λ_=>by rw[v2];exact⟨l,_,g,hch,sq,v1⟩,D,m+1,k',k2,k3,Wm m,Qe (show _<=1000000 by omega) (Qut t)⟩,v2,v1.l,bq,D,m+1,k',k2,k3,Wm m,hDs,Qe hMs (Qn (s+70)),by rw[Xd]at k1;exact k1⟩
 refine⟨q',q'::l,ls,hq',q2,?_,hS,r2,λt ht=>(key t ht).1,λx y hxy hb=>aE hS sq.pq.t sq.pq.n hxy hb (by grind),by omega,λt ht=>(key t ht).2⟩
 ·unfold OK;rw[q2,hq'];show(chq (Hw q')).bind _=_;rw[hchq];simp only[Y6];rw[jB hS hall];exact r1
theorem mU{s:Nat}{p:Ft}(hs9:s≤1180)(h:Okp 9 s p):∃q c l,Me p=some q/\chain p=some c/\OK p=some l/\WB (cz q) (c.map cz)/\RI q (c.map cz) (-Hw q) l (Hw q)/\(∀t∈l,Va t)/\(∀x y,x<y->Hw q≤x\/y≤-Hw q->vv (c.map cz) x=vv (c.map cz) y)/\q.length≤p.length/\∀t∈l,t.p=q/\t.lo<t.hi/\Bd (s+69) q/\∃D M k,Gr D M k t.lo/\Gr D M k t.hi/\0<M/\Gy (D:Int)≤s+69/\Gy (M:Int)≤s+70/\k≤63*s+5160:=Qe3 rfl hs9 h
theorem Qll{p:Ft}(h:Okp 9 1180 p):∃q c l,Me p=some q/\chain p=some c/\OK p=some l/\WB (cz q) (c.map cz)/\RI q (c.map cz) (-Hw q) l (Hw q)/\(∀t∈l,Va t)/\(∀x y,x<y->Hw q≤x\/y≤-Hw q->vv (c.map cz) x=vv (c.map cz) y):=by
 obtain⟨q,c,l,h1,h2,h3,h4,h5,h6,h7,_⟩:=mU (Qn _) h;exact⟨q,c,l,h1,h2,h3,h4,h5,h6,h7⟩
theorem Ao{q:Ft}{L:Fx}(hS:WB (cz q) L){c:Rat->Int}(hc:Cut c){lo:Rat}(hH:∀z,c z=-1->z<=lo->vv L z=vv L lo){y0:Rat}(hy:c y0=-1)(hv:∀z,lo<z->z<=y0->vv L z=vv L lo):∃s,s≠0/\∀z,c z=-1->z<=y0->Gt (ev (cz q) z)=s:=by
 have hall:∀z,c z=-1->z<=y0->vv L z=vv L lo:=λz h1 h2=>by
  rcases Hr z lo with e|e
  ·exact hH z h1 e
  ·exact hv z e h2
 have hne:∀z,c z=-1->z<=y0->Gt (ev (cz q) z)≠0:=λz h1 h2=>by
  obtain⟨w,w1,w2⟩:=hc.dn z h1;have:=fV hS w1 (by rw[hall w w2 (by grind),hall z h1 h2]);rw[this.s];exact this.n
 refine⟨Gt (ev (cz q) y0),hne y0 hy Ql,λz h1 h2=>?_⟩;rcases Classical.em (z=y0)with e|e
 ·rw[e]
 ·have:=fV hS (x:=z) (y:=y0) (by grind) (by rw[hall z h1 h2,hall y0 hy Ql]);rw[this.s,Ix (hne z h1 h2)]
structure Fst(o:List Int)(a t:Tm):Prop where
 lt:WC a t
 s:∃s,s≠0/\(∀z,Hl a z=-1->Hl t z=1->Gt (ev (cz o) z)=s)/\RS (cz o) (Hl t) (-s)
def Non(o:Ft)(a:Tm):Prop:=∃s,s≠0/\∀z,Hl a z=-1->Gt (ev (cz o) z)=s
theorem Qep{q:Ft}{L:Fx}(hS:WB (cz q) L){a:Tm}(ha:Va a){lo hi:Rat}{l:List Tm}(hR:RI q L lo l hi):(∀t∈l,Va t)->(∀z,hi<z->vv L z=vv L hi)->(∀z,Hl a z=-1->z≤lo->vv L z=vv L lo)->∃r,xT a l=some r/\match r with
 |none=>Non q a
 |some t=>t∈l/\Fst q a t:=by
 have ca:=ha.cut
 induction hR with
 |
  @nil lo hi h hv =>
  intro _ hhi hH;refine⟨none,rfl,?_⟩;obtain⟨y1,hy1⟩:=ca.hi;have hall:∀z,lo<z->vv L z=vv L lo:=λz hz=>by
   rcases Hr z hi with e|e
   ·have h1:=Aa hS hz;have h2:vv L hi<=vv L z:=by
     rcases Classical.em (z=hi)with e'|e'
     ·rw[e'];exact Qn _
     ·exact Aa hS (by grind)
    omega
   ·rw[hhi z e,hv]
  obtain⟨s,s0,hs⟩:=Ao hS ca hH hy1 λz h1 _=>hall z h1
  refine⟨s,s0,λz hz=>?_⟩;rcases Hr z y1 with e|e
  ·exact hs z hz e
  ·obtain⟨s',s0',hs'⟩:=Ao hS ca hH hz λz h1 _=>hall z h1
   rw[hs' z hz Ql,<-hs' y1 hy1 (Qm e),hs y1 hy1 Ql]
 |
  @cons lo hi t l h hv ht hp hl ih =>
  intro hV hhi hH;have hvt:=hV t (Qw ..);have ct:=hvt.cut;have ht':=ht;rw[<-hp]at ht';have ect:∀z,Hl t z=cq (cz t.p) t.lo t.hi z:=Py ht.l;obtain⟨c,c1,c2⟩:=Qaf hvt ha;show ∃r,((rM t a).bind λc=>if 0<c then some (some t)else xT a l)=some r/\_;rw[c1];show ∃r,(if 0<c then some (some t)else xT a l)=some r/\_;have hlo1:Hl t t.lo=1:=by rw[ect];exact Bl Ql
  have hlow:∀z,lo<z->Hl t z=1->vv L z=vv L lo:=λz h1 h2=>by
   rcases Hr z t.lo with e|e
   ·have a1:=Aa hS h1;have a2:vv L t.lo<=vv L z:=by
     rcases Classical.em (z=t.lo)with e'|e'
     ·rw[e'];exact Qn _
     ·exact Aa hS (by grind)
    omega
   ·rw[ect]at h2;have hz:z<=t.hi:=by
     rcases Hr z t.hi with e'|e'
     ·exact e'
     ·rw[QL ht.l e']at h2;omega
    rw[ht'.eq_lo e hz h2,hv]
  by_cases hc:0<c
  ·rw[if_pos hc];refine⟨some t,rfl,Qw ..,?_⟩;have hlt:WC a t:=by
    rcases c2 with⟨e,_⟩|⟨e,_⟩|⟨_,h⟩
    ·omega
    ·omega
    ·exact h
   refine⟨hlt,?_⟩;obtain⟨m,m1,m2⟩:=hlt;obtain⟨s,s0,hs⟩:=Ao hS ca hH m1 λz h1 h2=>hlow z h1 (by
    rcases Classical.em (z=m)with e|e
    ·rw[e];exact m2
    ·exact ct.mono' (q:=z) (r:=m) (by grind) (by omega))
   have hall:∀z,Hl a z=-1->Hl t z=1->Gt (ev (cz q) z)=s:=λz h1 h2=>by
    rcases Hr z m with e|e
    ·exact hs z h1 e
    ·obtain⟨s',s0',hs'⟩:=Ao hS ca hH h1 λw w1 w2=>hlow w w1 (by
      rcases Classical.em (w=z)with e|e
      ·rw[e];exact h2
      ·exact ct.mono' (q:=w) (r:=z) (by grind) (by omega))
     rw[hs' z h1 Ql,<-hs' m m1 (Qm e),hs m m1 Ql]
   refine⟨s,s0,hall,?_⟩;obtain⟨w,w1,w2,w3⟩:=SU ct m2 hlo1;have hwa:Hl a w=-1:=ca.mono m w w2 (by omega);have hsw:=hall w hwa w1;have hwh:w<t.hi:=by
    rw[ect]at w1;rcases Hr t.hi w with e|e
    ·have:=ht'.hi1;rcases Classical.em (t.hi=w)with e'|e'
     ·rw[<-e']at w1;exact absurd w1 this
     ·rw[QL ht.l (by grind)]at w1;omega
    ·exact e
   have hww:vv L w=vv L t.lo:=ht'.eq_lo w3 (Qm hwh) (by rw[<-ect];exact w1);have hvv:=ht.v;have hone:=fY hS hwh (by omega);have hlw:M9 (cz q) w=s:=by rw[Ix (by rw[hsw];exact s0),hsw]
   rw[hlw]at hone;have hd:∀z,w<z->z<=t.hi->Hl t z=-1->Gt (ev (cz q) z)=-s:=λz z1 z2 z3=>by
    rw[ect]at z3;have e1:=ht'.eq_hi (by grind) z2 (by omega);have e2:=fY hS z1 (by omega);rw[hlw]at e2;have hz0:Gt (ev (cz q) z)≠0:=by
     rw[Ds (by grind) z2,hp]at z3;intro h0;rw[if_pos h0]at z3;omega
    rw[Ix hz0]at e2;exact e2.2
   rcases ct.val t.hi with e|e|e
   ·rw[ect]at e;exact absurd e ht'.hi1
   ·obtain⟨d,dp,hd'⟩:=Qxl (p:=cz q) (x:=t.hi) (by rw[hone.2];omega);refine⟨t.hi+d,ct.mono t.hi _ (by grind) (by omega),λz h1 h2=>?_⟩;have hz:t.hi<z:=by
     rcases Hr z t.hi with e'|e'
     ·rcases Classical.em (z=t.hi)with e''|e''
      ·rw[e'']at h1;omega
      ·have:=ct.mono z t.hi (by grind) (by omega);omega
     ·exact e'
    rw[hd' z hz (by grind),hone.2]
   ·exact⟨t.hi,e,λz h1 h2=>hd z (ct.lt w1 h1) h2 h1⟩
  ·rw[if_neg hc];have hle:¬WC a t:=λh=>by
    rcases c2 with⟨e,h'⟩|⟨e,h'⟩|⟨e,_⟩
    ·exact kM ct ca h' h
    ·obtain⟨z,z1,z2⟩:=h;have:=h' z;omega
    ·omega
   obtain⟨r,r1,r2⟩:=ih (λx hx=>hV x (Qi _ hx)) hhi λz z1 z2=>by
    have hz:Hl t z≠1:=λh=>hle ⟨z,z1,h⟩
    have hzl:t.lo<z:=by
     rcases Hr z t.lo with e|e
     ·refine absurd ?_ hz;rw[ect];exact Bl e
     ·exact e
    exact ht'.eq_hi hzl z2 (by rw[<-ect];exact hz)
   refine⟨r,r1,?_⟩;cases r with
   |none=>exact r2
   |some x=>exact⟨Qi _ r2.1,r2.2⟩
def QQ(f:Nat->Ft):Nat->Ft
 | 0=>[1]
 |i+1=>if i % 2=0 then Gq (QQ f i) (f i)else QQ f i
theorem Qbj:∀{ws fs:Fu},Lay (ws.map cz) (fs.map cz)->fs.length=ws.length/\∀i,i<ws.length->∀t,Gf (ws.getD i []) t=Gf (fs.getD i []) t*Gf ((ws++[[1]]).getD (i+1) []) t
 | [],[],_=>⟨rfl,λi h=>absurd h (Xe i)⟩
 | [],f::fs,h=>h.elim
 |
  [w],[f],h=>⟨rfl,λi hi t=>by
  have hi:i<1:=hi;obtain rfl:i=0:=by omega
  have:=h t;rw[Gg,Gg]at this;show Gf w t=Gf f t*Gf [1] t;rw[Ru,this];grind⟩
 | [w],[],h=>h.elim
 | [w],_::_::_,h=>h.elim
 |
  w::v::ws,f::fs,h=>by
  obtain⟨h1,h2⟩:=h;obtain⟨i1,i2⟩:=Qbj (ws:=v::ws) (fs:=fs) h2;refine⟨by simp only[Zf]at i1 ⊢;omega,λi hi t=>?_⟩;cases i with
  |
   zero =>
   have:=h1 t;rw[Gg,Gg,Gg]at this;exact this
  |succ i=>exact i2 i (by simpa using hi) t
 |w::v::ws,[],h=>h.elim
theorem lJ{f:Nat->Ft}:∀(fs:Fu) (i:Nat) (o:Ft),UI i (QQ f i) fs=some o->(∀j,j<fs.length->fs.getD j []=f (i+j))->o=QQ f (i+fs.length)
 | [],i,o,h,_=>by injection h with h;exact h.symm
 |
  g::fs,i,o,h,hf=>by
  have h0:=hf 0 (by simp);have hn:∀j,j<fs.length->fs.getD j []=f (i+1+j):=λj hj=>by
   have:=hf (j+1) (by simpa using hj);rw[Q0]at this;rw[this];congr 1;omega
  have e:i+(g::fs).length=i+1+fs.length:=by simp;omega
  rw[e];by_cases hi:i % 2=0
  ·simp only[UI]at h;rw[if_pos hi]at h;obtain⟨q,hq,h⟩:=Qk.1 h;have hq:=vK hq;refine lJ fs (i+1) o ?_ hn;have:QQ f (i+1)=q:=by
    simp only[QQ];rw[if_pos hi,hq];congr 1;exact h0.symm
   rw[this];exact h
  ·simp only[UI]at h;rw[if_neg hi]at h;refine lJ fs (i+1) o ?_ hn;have:QQ f (i+1)=QQ f i:=by simp only[QQ];rw[if_neg hi]
   rw[this];exact h
theorem uS{p:Ft}{w:Ft}{ws:Fu}(h2:¬(Gm p).length<2)(h:AD 66 (Gm p)=some (w::ws)):Me p=some w:=by
 have w3:(if (Gm p).length<2 then some []else(qQ (Hn (Gm p))).bind λd=>(XX (Gm p) d).bind λh=>(JY (Gm p) h).bind λw=>(AD 65 h).bind λl=>some (w::l))=some (w::ws):=h;rw[if_neg h2]at w3;unfold Me;rw[if_neg h2];obtain⟨d,d1,w3⟩:=Qk.1 w3;obtain⟨h,d2,w3⟩:=Qk.1 w3;obtain⟨w',d3,w3⟩:=Qk.1 w3;obtain⟨l,d4,w3⟩:=Qk.1 w3;injection w3 with w3;injection w3 with w3 _;rw[d1];show(XX (Gm p) d).bind _=_;rw[d2];show JY (Gm p) h=_;rw[d3,w3]
theorem Qo9{s:Nat}{p:Ft}(h:Okp 9 s p)(l2:2<=p.length)(hs9:(s+69+4+8)*3^8<=9000000) :
 ∃m f,1<=m/\m<=9/\FRun p m f/\Qnm m f/\Me p=some (Na f m)/\Qeq p=some (QQ f m)/\Pr1 (QQ f m)/\∀i,i<=m->Bd 9000000 (QQ f i)/\(QQ f i).length<=1000:=by
 obtain⟨pp,hl,hb⟩:=h.pr;have Ee:=h.l;have hss:=Qcx h.z;have h9:s+69+4+8<=1371:=by
  have:(s+69+4+8)*3^8=(s+69+4+8)*6561:=rfl;omega
 obtain⟨ws,gs,n,i1,i2,i3,i4,i5,i6,i7,i8⟩:=Qbl h.z hs9 hb (by omega) pp.t pp.n 66 (Gm p) [1] [] pp (by omega) (by omega) rfl (λt=>by rw[Ru];grind) (by simp;omega);rw[J5,J5]at i3;obtain⟨fs,f1,f2,f3⟩:=dV hb (by omega) pp.t pp.n (by omega) ws (Gm p) [1] i2 rfl λt=>by rw[Ru];grind
 obtain⟨o1,o2⟩:=Qbj f2;obtain⟨m,hm⟩:=nmE (ws.length);obtain⟨f,hf⟩:∃f:Nat->Ft,f=λi=>fs.getD i []:=⟨_,rfl⟩
 obtain⟨v,hv⟩:∃v:Nat->Ft,v=λi=>(ws++[[1]]).getD i []:=⟨_,rfl⟩
 have hm1:1<=m:=by
  rcases Qx m with e|e
  ·exfalso;have:ws=[]:=Qf (by omega);rw[this]at i7;have:gs.getD 0 []=[1]:=i7;rw[i6]at this;rw[this]at hl;simp at hl;omega
  ·exact e
 have vw:∀i,i<m->v i=ws.getD i []:=λi hi=>by
  rw[hv];dsimp only;rw[Qc,Q3 (by omega),<-Qc]
 have vm:v m=[1]:=by
  rw[hv];dsimp only;rw[Qc,hm,Zk (Qn _)];simp
 have VG:Pr1 [1]:=one_sqp.pp;have vp:∀i,i<=m->Pr1 (v i):=λi hi=>by
  rcases Q8 i m with h|h
  ·rw[vw i h];exact(i8 i (by omega)).pq
  ·rw[show i=m by omega,vm];exact VG
 have vf:∀i,i<m->∀t,Gf (v i) t=Gf (v (i+1)) t*Gf (f i) t:=λi hi t=>by
  rw[vw i hi,o2 i (by omega) t,hf,hv];dsimp only;grind
 have fp:∀i,i<m->Pr1 (f i):=λi hi=>by
  refine Qca (vp i (by omega)) (vp (i+1) (by omega)).l (vp (i+1) (by omega)).t ?_ (vf i hi);have:fs.getD i []∈fs:=by
   rw[Qc,Qg (show i<fs.length by omega)];exact Jf _
  rw[hf];exact f3 _ this
 have gp:∀i,i<=m->∃H,Gh H/\∀t,Gf (Gm p) t=Gf (gs.getD i []) t*Gf H t:=λi=>by
  induction i with
  |zero=>intro _;exact⟨[1],rfl,λt=>by rw[i6,Ru];grind⟩
  |
   succ i ih =>
   intro hi;obtain⟨H,tH,eH⟩:=ih (by omega);exact⟨Gq H (ws.getD i []),Hp _ _,λt=>by rw[eH,Gn,(i8 i (by omega)).e];grind⟩
 have gpr:∀i,i<=m->Pr1 (gs.getD i []):=λi hi=>by
  rcases Q8 i m with h|h
  ·exact(i8 i (by omega)).pp
  ·rw[show i=ws.length by omega,i7];exact VG
 have wp:∀i,i<=m->∃H,Gh H/\∀t,Gf (Gm p) t=Gf (v i) t*Gf H t:=λi hi=>by
  rcases Q8 i m with h|h
  ·obtain⟨H,tH,eH⟩:=gp i hi;exact⟨Gq H (gs.getD (i+1) []),Hp _ _,λt=>by rw[eH,vw i h,Gn,(i8 i (by omega)).e];grind⟩
  ·exact⟨Gm p,pp.t,λt=>by rw[show i=m by omega,vm,Ru];grind⟩
 have sz:∀{a H:Ft},Gh a->Gh H->(∀t,Gf (Gm p) t=Gf a t*Gf H t)->Bd (s+69) a/\a.length<=9:=λ{a H} ta tH e=>by
  obtain⟨p1,p2⟩:=Rp pp.t pp.n e;have:=S8 ta tH pp.t e p1 p2;exact⟨Ad hb (by omega) pp.t ta tH pp.n e,by omega⟩
 have gsz:∀i,i<=m->Bd (s+69) (gs.getD i [])/\(gs.getD i []).length<=9:=λi hi=>by
  obtain⟨H,tH,eH⟩:=gp i hi;exact sz (gpr i hi).t tH eH
 have vsz:∀i,i<=m->Bd (s+69) (v i)/\(v i).length<=9:=λi hi=>by
  obtain⟨H,tH,eH⟩:=wp i hi;exact sz (vp i hi).t tH eH
 have fsz:∀i,i<m->Bd (s+69) (f i)/\(f i).length<=9:=λi hi=>by
  obtain⟨H,tH,eH⟩:=wp i (by omega);exact sz (H:=Gq H (v (i+1))) (fp i hi).t (Hp _ _) λt=>by rw[eH,vf i hi,Gn];grind
 have pv:∀i,i<=m->Gh (Na f i)/\∀t,Gf (Na f i) t*Gf (v i) t=Gf (v 0) t:=λi=>by
  induction i with
  |zero=>intro _;exact⟨rfl,λt=>by simp only[Na];rw[Ru];grind⟩
  |
   succ i ih =>
   intro hi;obtain⟨t1,t2⟩:=ih (by omega);exact⟨Hp _ _,λt=>by rw[<-t2 t,vf i (by omega)];simp only[Na];rw[Gn];grind⟩
 have psz:∀i,i<=m->Bd (s+69) (Na f i)/\(Na f i).length<=9:=λi hi=>by
  obtain⟨H,tH,eH⟩:=wp 0 (by omega);obtain⟨t1,t2⟩:=pv i hi;exact sz (H:=Gq (v i) H) t1 (Hp _ _) λt=>by rw[eH,Gn,<-t2 t];grind
 have ov:∀i,i<=m->Gh (QQ f i)/\0<Gp (QQ f i)/\∃E,Gh E/\∀t,Gf (Na f i) t=Gf (QQ f i) t*Gf E t:=λi=>by
  induction i with
  |zero=>intro _;exact⟨rfl,(show 0<Gp [1] by decide),[1],rfl,λt=>by simp only[Na,QQ];rw[Ru];grind⟩
  |
   succ i ih =>
   intro hi;obtain⟨t1,t0,E,t2,t3⟩:=ih (by omega);simp only[QQ,Na];by_cases h2:i % 2=0
   ·rw[if_pos h2];have hne:0<(QQ f i).length:=by
     rcases Qx (QQ f i).length with e|e
     ·rw[Qf e]at t0;exact absurd t0 (by decide)
     ·exact e
    have f1:=fp i (by omega);have:=VZ t1 f1.t (Hp _ _) (λt=>Gn (QQ f i) (f i) t) hne (by have:=f1.n;omega);exact⟨Hp _ _,by rw[this];exact Fa t0 f1.l,E,t2,λt=>by rw[Gn,Gn,t3];grind⟩
   ·rw[if_neg h2];exact⟨t1,t0,Gq E (f i),Hp _ _,λt=>by rw[Gn,Gn,t3];grind⟩
 refine⟨m,f,hm1,by omega,⟨⟨n,gs,by rw[H9];exact i3,by omega,λk hk=>?_⟩,by omega⟩,λi hi=>?_,?_,?_,?_,λi hi=>?_⟩
 ·have ga:(gs++[[1]]).getD k []=gs.getD k []:=by rw[Qc,Q3 (by omega),<-Qc]
  have gb:(gs++[[1]]).getD (k+1) []=gs.getD (k+1) []:=by rw[Qc,Q3 (by omega),<-Qc]
  rw[ga,gb];have s1:=i8 k (by omega);have a1:=gsz k (by omega);have a2:=gsz (k+1) (by omega);have a3:=vsz k (by omega);have a4:=vsz (k+1) (by omega);have a5:=fsz k hk;have nz:∀{q},Pr1 q->q.length≠0:=λh=>h.n
  refine⟨v k,v (k+1),f k,?_,?_,?_,?_⟩
  ·exact cD s1.pp.t s1.pg.t (vp k (by omega)).t s1.pg.n (vp k (by omega)).n (λt=>by rw[vw k hk];exact s1.e t) (by omega) a2.1 a3.1 (by omega)
  ·rcases Q8 (k+1) m with h|h
   ·have gc:(gs++[[1]]).getD (k+2) []=gs.getD (k+2) []:=by rw[Qc,Q3 (by omega),<-Qc]
    have s2:=i8 (k+1) (by omega);rw[gc];exact cD s2.pp.t s2.pg.t (vp (k+1) (by omega)).t s2.pg.n (vp (k+1) (by omega)).n (λt=>by rw[vw (k+1) h];exact s2.e t) (by omega) (gsz (k+2) (by omega)).1 a4.1 (by omega)
   ·have gc:(gs++[[1]]).getD (k+2) []=[1]:=by
     rw[Qc,Zk (by omega)];rw[show k+2-gs.length=0 by omega];rfl
    rw[gc,show k+1=m by omega,vm,hm,i7];exact Qao rfl (by decide) (b1 (by decide))
  ·rw[H9,H9,Lz (vp k (by omega)),Lz (vp (k+1) (by omega))];exact cD (vp k (by omega)).t (vp (k+1) (by omega)).t (fp k hk).t (vp (k+1) (by omega)).n (fp k hk).n (vf k hk) (by omega) a4.1 a5.1 (by omega)
  ·rw[H9,Lz (fp k hk)]
 ·have a:=psz i (by omega);have b:=fsz i hi;exact⟨Gd a.1 (by omega),by omega,Gd b.1 (by omega),by omega⟩
 ·have e0:Na f m=v 0:=by
   obtain⟨t1,t2⟩:=pv m (Qn _);exact Om t1 (vp 0 (by omega)).t λt=>by rw[<-t2 t,vm,Ru];grind
  rw[e0,vw 0 (by omega)];cases ws with
  |nil=>simp at hm;omega
  |cons w ws=>exact uS (by omega) i1
 ·unfold Qeq;rw[if_neg (by omega),i1];show(dY ws).bind _=_;rw[f1];show UI 0 [1] fs=_;obtain⟨E0,tE0,hE0⟩:∃E,Gh E/\∀t,Gf (Gm p) t=Gf [1] t*Gf (Cj fs) t*Gf E t:=by
   obtain⟨q,o,q1,q2,pt⟩:=wJ h;unfold Qeq at q2;rw[if_neg (by omega),i1]at q2;have q2:(dY ws).bind _=_:=q2;rw[f1]at q2;obtain⟨H,tH,eH⟩:=pt.oh;cases ws with
   |nil=>simp at hm;omega
   |
    cons w ws' =>
    obtain⟨E,tE,eE⟩:=SD f2 f3 λu hu=>(AO i2 u hu).1.t
    obtain⟨H,tH,eH⟩:=wp 0 (by omega);exact⟨Gq E H,Hp _ _,λt=>by
     have:=eE t;have e0:v 0=w:=vw 0 (by omega);rw[eH,e0,this,Ru,Gn];grind⟩
  obtain⟨o,q1,_,_⟩:=KD hb (by omega) pp.t pp.n (by omega) fs 0 [1] E0 rfl rfl tE0 f3 hE0;have:=lJ (f:=f) fs 0 o q1 λj hj=>by rw[hf,Xd]
  rw[q1,this,Xd,o1,<-hm]
 ·obtain⟨t1,t0,E,t2,t3⟩:=ov m (Qn _);obtain⟨H,tH,eH⟩:=wp 0 (by omega);obtain⟨u1,u2⟩:=pv m (Qn _);exact⟨t1,Qcc (g:=Gq E (Gq (v m) H)) pp.m λt=>by rw[eH,Gn,Gn,<-u2 t,t3];grind,t0⟩
 ·obtain⟨t1,_,E,t2,t3⟩:=ov i hi;obtain⟨H,tH,eH⟩:=wp 0 (by omega);obtain⟨u1,u2⟩:=pv i hi;have:=sz (H:=Gq E (Gq (v i) H)) t1 (Hp _ _) λt=>by rw[eH,Gn,Gn,<-u2 t,t3];grind
  exact⟨Gd this.1 (by omega),by omega⟩
end Orq
namespace Orr
open Go
def Pp:Fv->Nat
 | []=>0
 |x::l=>x+10000*Pp l
def Dg(l:Fv):Prop:=∀x∈l,x<10000
def Hz(x:Nat):Fv:=if h:x=0 then []else(x % 10000)::Hz (x / 10000)
termination_by x
decreasing_by omega
theorem To:Hz 0=[]:=by unfold Hz;simp
theorem XC{x:Nat}(h:x≠0):Hz x=(x % 10000)::Hz (x / 10000):=by rw[Hz];simp[h]
theorem Sv(x:Nat):Pp (Hz x)=x:=by
 induction x using Nat.strongRecOn with
 |
  _ x ih =>
  rcases Qx x with h|h
  ·subst h;rw[To];rfl
  ·rw[XC (by omega)];simp only[Pp];rw[ih _ (by omega)];omega
theorem Ll(x:Nat):Dg (Hz x):=by
 induction x using Nat.strongRecOn with
 |
  _ x ih =>
  rcases Qx x with h|h
  ·subst h;rw[To];intro y hy;cases hy
  ·rw[XC (by omega)];intro y hy;rcases Qj.1 hy with rfl|hy
   ·omega
   ·exact ih _ (by omega) y hy
theorem GM{x:Nat}:(Hz x).length=0↔x=0:=by
 constructor
 ·intro h;have h0:=Qf h;have:=Sv x;rw[h0]at this;exact this.symm
 ·rintro rfl;rw[To];rfl
theorem Oe{x:Nat}(h:x≠0):(Hz (x / 10000)).length+1=(Hz x).length:=by rw[XC h];rfl
theorem Qd0{x:Nat}(h:x<1000000000000):(Hz x).length<=3:=by
 by_cases h0:x=0
 ·subst h0;rw[To];exact Qh _
 ·have h1:=Oe h0;by_cases h2:x / 10000=0
  ·rw[h2,To]at h1;simp at h1;omega
  ·have h3:=Oe h2;by_cases h4:x / 10000 / 10000=0
   ·rw[h4,To]at h3;simp at h3;omega
   ·have h5:=Oe h4;have h6:x / 10000 / 10000 / 10000=0:=by omega
    rw[h6,To]at h5;simp at h5;omega
theorem B7(x:Nat):(Hz x).length<=sz x:=by
 induction x using Nat.strongRecOn with
 |
  _ x ih =>
  by_cases h0:x=0
  ·subst h0;rw[To];exact Qh _
  ·have h1:=Oe h0;have h2:=ih (x / 10000) (by omega);have h3:sz (x / 10000)+1<=sz x:=by
    have h4:x<2^sz x:=HM x;rcases hs:sz x with _|k
    ·rw[hs]at h4;simp at h4;omega
    ·rw[hs]at h4;have:sz (x / 10000)<=k:=La.2 (by rw[Zq]at h4;omega);omega
   omega
theorem Nf(a b:Fv):Pp (a++b)=Pp a+10000^a.length*Pp b:=by
 induction a with
 |nil=>simp[Pp]
 |
  cons x a ih =>
  simp only[Xa,Pp,ih,Zf,Zq];rw[Jg,<-Xy,Zo 10000 (10000^a.length)];omega
theorem P9{l:Fv}{i x:Nat}(h:l[i]? = some x):Pp (l.take (i+1))=Pp (l.take i)+10000^i*x:=by
 have hi:=(Qd.1 h).1;rw[show l.take (i+1)=l.take i++[x] by rw[X6,h];rfl,Nf,Qz,Z8 (by omega)];simp[Pp]
theorem EP:∀{l:Fv},Dg l->Pp l<10000^l.length
 | [],_=>by simp[Pp]
 |
  x::l,h=>by
  have h1:=h x (Qw ..);have h2:=EP (l:=l) λy hy=>h y (Qi _ hy)
  simp only[Pp,Zf,Zq];omega
theorem EM:∀{l:Fv},(∀x∈l,x=0)->Pp l=0
 | [],_=>rfl
 |
  x::l,h=>by
  have h1:=h x (Qw ..);have h2:=EM (l:=l) λy hy=>h y (Qi _ hy)
  simp[Pp,h1,h2]
theorem Dg.take{l:Fv}(h:Dg l)(k:Nat):Dg (l.take k):=λx hx=>h x (Qq hx)
theorem Dg.snoc{l:Fv}(h:Dg l){x:Nat}(hx:x<10000):Dg (l++[x]):=by
 intro y hy;rcases Qr.1 hy with hy|hy
 ·exact h y hy
 ·rw[Qo.1 hy];exact hx
theorem Dg.nil:Dg []:=λx h=>by cases h
theorem cN:∀{l:Fv},Dg l->(∀x,l[l.length-1]? = some x->x≠0)->l=Hz (Pp l)
 | [],_,_=>by rw[Pp,To]
 |
  x::l,h,hl=>by
  have h1:=h x (Qw ..);have h2:l=Hz (Pp l):=cN (λy hy=>h y (Qi _ hy)) λy hy=>hl y (by
   rcases l with _|⟨z,t⟩
   ·simp at hy
   ·simpa using hy)
  have h3:x+10000*Pp l≠0:=by
   intro e;have hx:x=0:=by omega
   have hd:Pp l=0:=by omega
   rw[hd,To]at h2;subst h2;exact hl x rfl hx
  simp only[Pp];rw[XC h3,show(x+10000*Pp l) % 10000=x by omega,show(x+10000*Pp l) / 10000=Pp l by omega,<-h2]
theorem tJ{l:Fv}{m:Nat}(hd:Dg l)(hm:m<=l.length)(h1:∀j x,m<=j->l[j]? = some x->x=0)(h2:0<m->∃y,l[m-1]? = some y/\y≠0):l.take m=Hz (Pp l):=by
 have e:Pp l=Pp (l.take m):=by
  conv=>lhs;rw[<-Zh m l,Nf]
  rw[EM (l:=l.drop m) λx hx=>?_]
  ·omega
  ·obtain⟨j,hj⟩:=Zp.1 hx;rw[Xi]at hj;exact h1 (m+j) x (by omega) hj
 rw[e];refine cN (hd.take m) λx hx=>?_
 have hl:(l.take m).length=m:=by rw[Qz];omega
 rw[hl]at hx;rcases Qx m with h0|h0
 ·subst h0;simp at hx
 ·obtain⟨y,hy,hy0⟩:=h2 h0;rw[Ja (by omega),hy]at hx;injection hx with hx;rw[<-hx];exact hy0
theorem zU{o c i d m P V:Nat}(hP:P=10000^i)(h:o+c*P=V):o+P*((c+d*m) % 10000)+(c+d*m) / 10000*(P*10000)=V+P*d*m:=by
 have e:=Xx (c+d*m) 10000;generalize (c+d*m) / 10000=q at *;generalize (c+d*m) % 10000=r at *;have e2:P*(c+d*m)=P*(10000*q+r):=by rw[e]
 grind
theorem YT{x y:Nat}(h:x<=y):(Hz x).length<=(Hz y).length:=by
 induction y using Nat.strongRecOn generalizing x with
 |
  _ y ih =>
  by_cases h0:x=0
  ·subst h0;rw[To];exact Qh _
  ·have h1:=Oe h0;have h2:=Oe (x:=y) (by omega);have:=ih (y / 10000) (by omega) (x:=x / 10000) (Nat.div_le_div_right h);omega
theorem Qdz{n x:Nat}(h:10000^n<=x):n+1<=(Hz x).length:=by
 have h1:=EP (Ll x);rw[Sv]at h1;have h2:n<(Hz x).length:=(Nat.pow_lt_pow_iff_right (by decide)).1 (Xj h h1);omega
theorem tZ{x y:Nat}(h:(Hz x).length<(Hz y).length):x<y:=by
 rcases Q8 x y with h1|h1
 ·exact h1
 ·have:=YT h1;omega
theorem Qd1{k y:Nat}(h:y<10000^k):(Hz y).length<=k:=by
 induction k generalizing y with
 |
  zero =>
  have:y=0:=by simpa using h
  subst this;rw[To];exact Qn _
 |
  succ k ih =>
  by_cases hy0:y=0
  ·subst hy0;rw[To];exact Qh _
  ·have h8:=Oe hy0;have:=ih (y:=y / 10000) (by rw[Zq]at h;omega);omega
theorem Qh7{o:Fv}(h:Dg o)(hl:o.length<=(Hz (Pp o)).length):o=Hz (Pp o):=by
 refine cN h λx hx h0=>?_
 subst h0;have hne:0<o.length:=by
  rcases o with _|⟨a,o⟩
  ·simp at hx
  ·simp
 have h1:Pp o=Pp (o.take (o.length-1)):=by
  have:=P9 hx;rw[show o.length-1+1=o.length by omega,Za]at this;omega
 have h2:=EP (h.take (o.length-1));rw[<-h1,Qz,Z8 (by omega)]at h2;have:=Qd1 h2;omega
theorem YM{l:Fv}{j d:Nat}(h:l[j]? = some d):Pp (l.drop j)=d+10000*Pp (l.drop (j+1)):=by
 obtain⟨hj,he⟩:=Qd.1 h;rw[Xc hj,he];rfl
theorem SR{l:Fv}{j y:Nat}(h:j<l.length):(l.set j y).drop j=y::l.drop (j+1):=by
 rw[Xc (by simpa using h)];simp only[List.getElem_set_self];rw[List.drop_set_of_lt (by omega)]
theorem Dg.set{l:Fv}(h:Dg l){j y:Nat}(hy:y<10000):Dg (l.set j y):=by
 intro x hx;rcases Y8 hx with hx|rfl
 ·exact h x hx
 ·exact hy
theorem Dg.zeros(n:Nat):Dg (List.replicate n 0):=by
 intro x hx;rw[Zz hx];decide
theorem tV{V kd d:Nat}(hk:0<kd):(d+10000*V) / kd=(V % kd*10000+d) / kd+10000*(V / kd)/\(d+10000*V) % kd=(V % kd*10000+d) % kd/\(d<10000->(V % kd*10000+d) / kd<10000):=by
 have e:=Xx V kd;have e2:d+10000*V=(V % kd*10000+d)+kd*(10000*(V / kd)):=by
  conv=>lhs;rw[<-e]
  grind
 refine⟨?_,?_,λhd=>?_⟩
 ·rw[e2,W7 _ _ hk]
 ·rw[e2,Wc]
 ·have:=Xp V hk;exact(Kq hk).2 (by grind)
theorem CQ(l:Fv)(j:Nat)(h:j<=l.length):Pp l=Pp (l.take j)+10000^j*Pp (l.drop j):=by
 conv=>lhs;rw[<-Zh j l,Nf]
 rw[Qz,Z8 h]
theorem EW{a b:Fv}{j d e:Nat}(ha:Dg a)(hd:a[j]? = some d)(he:b[j]? = some e)(hs:a.drop (j+1)=b.drop (j+1))(h:d<e):Pp a<Pp b:=by
 have h1:=(Qd.1 hd).1;have h2:=(Qd.1 he).1;rw[CQ a j (by omega),CQ b j (by omega),YM hd,YM he,hs];have h3:=EP (ha.take j);rw[Qz,Z8 (by omega)]at h3;generalize 10000^j=P at *;have h4:P*(d+10000*Pp (b.drop (j+1)))+P<=P*(e+10000*Pp (b.drop (j+1))):=by
  rw[<-Wl];exact Zl _ (by omega)
 omega
def dl(l:Fv):LV:=.row (l.map λ(x:Nat)=>[.int .i64 (x:Int)])
theorem S7(l:Fv):(l.map λ(x:Nat)=>[LV.int .i64 (x:Int)]).length=l.length:=by simp
theorem Ri{l:Fv}{i x:Nat}(h:l[i]? = some x):(l.map λ(x:Nat)=>[LV.int .i64 (x:Int)])[i]? = some [.int .i64 (x:Int)]:=by rw[Zb,h];rfl
abbrev nd(x:Nat):LV:=dl (Hz x)
end Orr
namespace Orr
open Go Go.Proofs Tryz
set_option maxRecDepth 10000
abbrev D7(l:Fv):Fz:=l.map λ(x:Nat)=>[.int .i64 (x:Int)]
theorem Quc(l:Fv):∀c∈D7 l,c.length=1:=λc hc=>by obtain⟨x,_,rfl⟩:=Zd.1 hc;rfl
theorem SY{l:Fv}(hd:Dg l):Fo 379 [.one (.row (D7 l))] [.one (nd (Pp l))]:=by
 refine Sk func379 rfl (ln 0 rfl rfl λhl=>?_);rw[Q4]at hl;refine Ff [] rfl ?_;refine lp (S:=Nat) 0 (λL1 n=>(3,.v (.oi n))::L1) (λ_=>[]) id (λn=>n<=l.length/\∀j x,n<=j->l[j]? = some x->x=0) (D7 l).length ⟨by simp,λj x h1 h2=>by
  have:=(Qd.1 h2).1;simp at h1;omega⟩ rfl (λ_ _=>rfl) rfl λn ⟨h1,h2⟩=>?_
 cases n with
 |zero=>exact Fh [.g 8 false (by simp),.f rfl,.i 0] rfl (by have:=tJ hd h1 h2 (λh=>by omega);unfold nd;rw[<-this];simp[dl]) (by simp[Ge])
 |
  succ n =>
  obtain⟨x,hx⟩:=gxE (l:=l) (i:=n) (by omega);by_cases h0:x=0
  ·refine Fg [.g 8 true (by simp),.r 11 (v:=.oi n) (by simp),.x (Ri hx),.t (by simp[h0]),.r 17 (v:=.oi n) (by simp)] rfl ?_;exact rd n (by simp) ⟨by omega,λj y h3 h4=>by
    rcases V8 h3 with rfl|h3
    ·rw[hx]at h4;injection h4 with h4;rw[<-h4,h0]
    ·exact h2 j y h3 h4⟩ rfl
  ·exact Fh [.g 8 true (by simp),.r 11 (v:=.oi n) (by simp),.x (Ri hx),.f (by simp[h0]),.i (n+1)] rfl (by have:=tJ hd h1 h2 (λ_=>⟨x,hx,h0⟩);unfold nd;rw[<-this];simp[dl,List.map_take]) (by simp[Ge] <;> omega)
theorem oN{x kd:Nat}(hxs:sz x<=100000000)(hk:0<kd/\kd<=65536):Fo 350 [.one (nd x),.oi kd] [.one (nd (x / kd)),.oi ((x % kd:Nat):Int)]:=by
 have hln:=Qe (B7 x) hxs;obtain⟨l,hl⟩:=nmE (Hz x);have hx:Pp l=x:=by rw[hl,Sv]
 have hd:Dg l:=by rw[hl];exact Ll x
 show Fo 350 [.one (.row (D7 (Hz x))),.oi kd] _;rw[<-hl]at hln ⊢;rw[<-hx];have hll:=S7 l;refine Sk func350 rfl ?_;refine Fg [.i (D7 l).length,.i (D7 l).length] rfl ?_;rw[hll,show List.replicate l.length [LV.int .i64 0]=D7 (List.replicate l.length 0) from by simp[D7]];refine Fl (S:=Nat×Fv×Nat) 1 (λL1 s=>(8,.v (.oi ((s.1:Int)-1)))::(7,.v (.oi (s.2.2:Int)))::L1) (λs=>[.row false 3 1 (D7 s.2.1)]) (λs=>s.1) (λs=>s.1<=l.length/\s.2.1.length=l.length/\Dg s.2.1/\Pp (s.2.1.drop s.1)=Pp (l.drop s.1) / kd/\s.2.2=Pp (l.drop s.1) % kd) (l.length,List.replicate l.length 0,0) ⟨Qn _,by simp,Dg.zeros _,by simp[Pp],by simp[Pp]⟩ rfl rfl λ⟨k,o,R⟩ ⟨j1,j2,j3,j4,hR⟩=>?_
 dsimp only at j1 j2 j3 j4 hR ⊢;cases k with
 |
  zero =>
  have cc:=SY j3;rw[Je,Je]at j4;rw[j4]at cc;exact Fh [.f (by simp),.k cc] rfl (by rw[hR,Je]) trivial
 |
  succ k =>
  obtain⟨d,hdk⟩:=gxE (l:=l) (i:=k) (by omega);have hd0:=hd d (Qa hdk);have hdd:=YM hdk;obtain⟨s1,s2,s3⟩:=tV (V:=Pp (l.drop (k+1))) (kd:=kd) (d:=d) hk.1;rw[<-hdd]at s1 s2;have hr:=Xp (Pp (l.drop (k+1))) hk.1;rw[<-hR]at s1 s2 s3 hr;have e:((k+1:Nat):Int)-1=(k:Int):=by omega
  have htd:((R:Int)*10000+(d:Int)).tdiv (kd:Int)=(((R*10000+d) / kd:Nat):Int):=rfl;have hle:=Yv (R*10000+d) kd;have htb:0<=((R:Int)*10000+(d:Int)).tdiv (kd:Int)/\((R:Int)*10000+(d:Int)).tdiv (kd:Int)<=655369999:=by
   rw[htd];revert hle;generalize (R*10000+d) / kd=Q;intro hle;omega
  rw[e];refine Fg [.t (by simp),.x (Ri hdk),.r 26 (eI (b:=((R*10000+d:Nat):Int)) (by omega)),.r 31 (eI (b:=(((R*10000+d) / kd:Nat):Int)) (by rfl)),.i k,.r 35 (eI (b:=(((R*10000+d) % kd:Nat):Int)) (by rfl))] rfl ?_;exact rd (k,o.set k ((R*10000+d) / kd),(R*10000+d) % kd) (by dsimp only;omega) ⟨by dsimp only;omega,by simp[j2],j3.set (s3 hd0),by dsimp only;rw[SR (by omega)];simp only[Pp];rw[j4,s1],by dsimp only;exact s2.symm⟩ (by simp[D7,List.map_set];rfl)
theorem Qv1(x k:Nat):sz (x / k)<=sz x:=Pi (Yv _ _)
theorem dD{x y:Nat}{o:Fv}(h:Hx x=o++Hx y)(h0:y≠0):Hx x=(o++[y % 4294967296])++Hx (y / 4294967296):=by
 rw[h,A7 h0];simp
theorem Qpo(o:Fv)(z:Nat):lm (o++[z])=lm o++[[.int .u32 (z:Int)]]:=by simp[lm]
theorem Qw6{x:Nat}(hx:sz x<=100000000):Fo 269 [.one (nd x)] [lr (Hx x)]:=by
 have hlx:=P8 hx;refine Sk func269 rfl ?_;refine Ff [.o 3 222 1] rfl ?_;refine Fl (S:=Nat×Fv) 1 (λL1 s=>(0,.v (.one (nd s.1)))::(3,.v (.one (.orow 0 1 none)))::L1) (λs=>[.row false 222 1 (lm s.2)]) (λs=>s.1) (λs=>Hx x=s.2++Hx s.1/\s.1<=x) (x,[]) ⟨rfl,Qn _⟩ rfl rfl λ⟨y,o⟩ ⟨j1,j2⟩=>?_
 dsimp only at j1 j2 ⊢;by_cases h0:y=0
 ·subst h0;rw[Tp,Xg]at j1;rw[j1];exact Fh [.f (by simp[To])] rfl
 ·have hs:=dD j1 h0;have hsy:sz y<=100000000:=Qe (Pi j2) hx;have c1:=oN (x:=y) (kd:=65536) hsy (by decide);have c2:=oN (x:=y / 65536) (kd:=65536) (Qe (Qv1 _ _) hsy) (by decide);have hl:(Hz y).length≠0:=λh=>h0 (GM.1 h)
  have ol:o.length<=(Hx x).length:=by rw[j1];simp
  have e:y / 65536 % 65536*65536+y % 65536=y % 4294967296:=by omega
  have e2:y / 65536 / 65536=y / 4294967296:=by omega
  refine go tt [.t (by simp;omega),.k c1,.k c2,.r 26 (Ar (b:=((y % 4294967296:Nat):Int)) (by omega)),.s (sz:=1) (l:=[[.int .u32 ((y % 4294967296:Nat):Int)]]) (λc hc=>by rw[Qo.1 hc];rfl)] rfl (by simp[Ge,Gi];omega) ?_;rw[<-e2]at hs;exact rd (y / 65536 / 65536,o++[y % 4294967296]) (by dsimp only;omega) ⟨hs,by dsimp only;omega⟩ (by rw[Qpo];rfl)
abbrev ri(z:Int):Fy:=[nd z.natAbs,sg z]
theorem Qyc(b:Bool)(m:Nat):[nd m,LV.bool (b && decide (0<m))]=ri (Gv b m):=by
 simp only[ri,sg,P6,IR]
theorem Qu5(x:Nat):(0<(Hz x).length)↔0<x:=by
 have:=GM (x:=x);omega
theorem Oc(b:Bool)(m:Nat):Fo 253 [.one (nd m),.one (.bool b)] [.agg (ri (Gv b m))]:=by
 rw[<-Qyc];have e:=Qu5 m;cases b with
 |false=>exact Fi func253 rfl [.g 7 false rfl] rfl
 |true=>exact Fi func253 rfl [.g 7 true rfl] rfl (by simp[e]) trivial
theorem Di{z:Int}:Fo 247 [.agg (ri z)] [.one (.bool (decide (z=0)))] :=
 Fi func247 rfl [] rfl (by have h:=GM (x:=z.natAbs);simp only[S7];congr 3;rw[decide_eq_decide];omega) trivial
theorem XS{z:Int}:Fo 250 [.agg (ri z)] [.agg (ri (-z))]:=by
 have h:=Oc (!decide (z<0)) z.natAbs;have e:Gv (!decide (z<0)) z.natAbs=-z:=by unfold Gv;by_cases h:z<0 <;> simp[h] <;> omega
 rw[e]at h;exact Fi func250 rfl [.k h] rfl
theorem Qgy{z:Int}(hz:Gy z<=100000000):Fo 172 [.agg (ri z)] [.agg (Sj z)] :=
 Fi func172 rfl [.k (Qw6 hz)] rfl
theorem eBo{a b:Bool}(h:a=b):TV.one (LV.bool a)=.one (.bool b):=h ▸ rfl
theorem Og(l:Fv)(x:Nat):D7 (l++[x])=D7 l++[[.int .i64 (x:Int)]]:=by simp[D7]
theorem tX{x y:Nat}{o:Fv}(h:Hz x=o++Hz y)(h0:y≠0):Hz x=(o++[y % 10000])++Hz (y / 10000):=by
 rw[h,XC h0];simp
theorem Qtx{b:Bool}{x:Nat}(hx:x<=4000000000000000000)(hb:b=true->0<x):Fo 156 [.oi (Gv b x)] [.agg (ri (Gv b x))]:=by
 have hl:(Hz x).length<=100:=by
  have:=B7 x;have h2:sz x<=64:=La.2 (by omega);omega
 have hm:=Oc b x;refine Sk func156 rfl ?_;cases b with
 |
  false =>
  show AK prog _ _ _ (WL 0 [.oi x]) [];refine Ff [.f (by simp <;> omega),.r 3 (eBo (b:=false) (by simp)),.f rfl,.o 4 3 1] rfl ?_;refine Fl (S:=Nat×Fv) 2 (λL1 s=>(0,.v (.oi (s.1:Int)))::(4,.v (.one (.orow 1 1 none)))::L1) (λs=>[.blk 32 [.nils,.bool false],.row false 3 1 (D7 s.2)]) (λs=>s.1) (λs=>Hz x=s.2++Hz s.1/\s.1<=x) (x,[]) ⟨rfl,Qn _⟩ rfl rfl λ⟨y,o⟩ ⟨j1,j2⟩=>?_
  dsimp only at j1 j2 ⊢;by_cases h0:y=0
  ·subst h0;rw[To,Xg]at j1;rw[<-j1];exact Fh [.f (by simp),.k hm] rfl
  ·have hs:=tX j1 h0;have ol:o.length<=(Hz x).length:=by rw[j1];simp
   refine go tt [.t (by simp;omega),.r 18 (eI (b:=((y % 10000:Nat):Int)) (by rfl)),.s (sz:=1) (l:=[[.int .i64 ((y % 10000:Nat):Int)]]) (λc hc=>by rw[Qo.1 hc];rfl),.r 22 (eI (b:=((y / 10000:Nat):Int)) (by rfl))] rfl (by simp[Ge,S7];omega) ?_;exact rd (y / 10000,o++[y % 10000]) (by dsimp only;omega) ⟨hs,by dsimp only;omega⟩ (by rw[Og];rfl)
 |
  true =>
  show AK prog _ _ _ (WL 0 [.oi (-(x:Int))]) [];refine Fg [.f (by simp <;> omega),.r 3 (eBo (b:=true) (by simpa using hb rfl)),.t rfl,.r 0 (eI (b:=(x:Int)) (by omega)),.o 4 3 1] rfl ?_;refine Fl (S:=Nat×Fv) 2 (λL1 s=>(0,.v (.oi (s.1:Int)))::(4,.v (.one (.orow 1 1 none)))::L1) (λs=>[.blk 32 [.nils,.bool false],.row false 3 1 (D7 s.2)]) (λs=>s.1) (λs=>Hz x=s.2++Hz s.1/\s.1<=x) (x,[]) ⟨rfl,Qn _⟩ rfl rfl λ⟨y,o⟩ ⟨j1,j2⟩=>?_
  dsimp only at j1 j2 ⊢;by_cases h0:y=0
  ·subst h0;rw[To,Xg]at j1;rw[<-j1];exact Fh [.f (by simp),.k hm] rfl
  ·have hs:=tX j1 h0;have ol:o.length<=(Hz x).length:=by rw[j1];simp
   refine go tt [.t (by simp;omega),.r 18 (eI (b:=((y % 10000:Nat):Int)) (by rfl)),.s (sz:=1) (l:=[[.int .i64 ((y % 10000:Nat):Int)]]) (λc hc=>by rw[Qo.1 hc];rfl),.r 22 (eI (b:=((y / 10000:Nat):Int)) (by rfl))] rfl (by simp[Ge,S7];omega) ?_;exact rd (y / 10000,o++[y % 10000]) (by dsimp only;omega) ⟨hs,by dsimp only;omega⟩ (by rw[Og];rfl)
theorem Aj{n:Int}(hn:-4000000000000000000<=n/\n<=4000000000000000000):Fo 156 [.oi n] [.agg (ri n)]:=by
 have e:Gv (decide (n<0)) n.natAbs=n:=by unfold Gv;by_cases h:n<0 <;> simp[h] <;> omega
 have h:=Qtx (b:=decide (n<0)) (x:=n.natAbs) (by omega) (λh=>by have:=of_decide_eq_true h;omega);rwa[e]at h
theorem UM(x:Nat):(D7 (Hz x)).length=(Hz x).length:=S7 _
theorem VG(z:Int):∀c∈[[LV.int .i64 z]],c.length=1:=λc hc=>by rw[Qo.1 hc];rfl
theorem Qxb{x:Nat}(h:x<=1000000000):(Hz x).length<=3:=Qd0 (by omega)
theorem tdn(n:Nat):((n:Nat):Int).tdiv 10000=((n / 10000:Nat):Int):=rfl
theorem FR(n:Nat):((n:Nat):Int).tdiv 2=((n / 2:Nat):Int):=rfl
theorem GU{x mu c0:Nat}(hx:sz x<=100000000)(hmu:mu<=65536)(hc:c0<=1000000000):Fo 345 [.one (nd x),.oi mu,.oi c0] [.one (nd (x*mu+c0))]:=by
 have hxl:=Qe (B7 x) hx;have hll:=UM x;show Fo 345 [.one (.row (D7 (Hz x))),.oi mu,.oi c0] _;refine Sk func345 rfl ?_;refine Fg [.r 11 (eI (b:=(((Hz x).length+2:Nat):Int)) (by rw[hll];omega)),.i 0,.i ((Hz x).length+2)] rfl ?_;refine Fl (S:=Nat×Nat×Fv) 1 (λL1 s=>(8,.v (.oi (s.1:Int)))::(7,.v (.one (.orow 0 1 none)))::(2,.v (.oi (s.2.1:Int)))::L1.filter (λx=>x.1 != 12)) (λs=>[.row false 3 1 (D7 s.2.2)]) (λs=>((Hz x).length-s.1)*4+(Hz s.2.1).length) (λs=>Dg s.2.2/\s.2.2.length=s.1/\Pp s.2.2+s.2.1*10000^s.1=Pp ((Hz x).take s.1)*mu+c0/\(s.1<=(Hz x).length\/s.1+(Hz s.2.1).length<=(Hz x).length+3)/\s.2.1<=1000000000) (0,c0,[]) ⟨Dg.nil,rfl,by simp[Pp],.inl (Qh _),hc⟩ rfl rfl λs hs=>?_
 obtain⟨i,c,o⟩:=s;obtain⟨hp0,hp1,hp2,hp3,hp4⟩:=hs;dsimp only at hp0 hp1 hp2 hp3 hp4 ⊢;have hcl:=Qxb (x:=c) hp4;by_cases h1:i<(Hz x).length
 ·obtain⟨d,hd⟩:=gxE (l:=(Hz x)) (i:=i) h1;have hd9:=Ll x d (Qa hd);have hdm:d*mu<=9999*65536:=Xl (by omega) hmu;have hc3:=Qxb (x:=(c+d*mu) / 10000) (by omega);have hol:(D7 o).length=i:=by rw[S7,hp1]
  refine go tt [.g 17 true Fq,.t rfl,.T,.x (Ri hd),.r 33 (eI (b:=((d*mu:Nat):Int)) (by simp)),.r 34 (eI (b:=((c+d*mu:Nat):Int)) (by omega)),.r 37 (eI (b:=(((c+d*mu) % 10000:Nat):Int)) (by rfl)),.s (sz:=1) (VG _),.r 41 (eI (b:=(((c+d*mu) / 10000:Nat):Int)) (by rfl))] rfl (by simp[Ge,hol,tdn,FR,-Int.natCast_add,-Int.natCast_mul];omega) ?_;exact rd (i+1,(c+d*mu) / 10000,o++[(c+d*mu) % 10000]) (by dsimp only;omega) ⟨hp0.snoc (Nat.mod_lt _ (by decide)),by dsimp only;rw[List.length_append];show o.length+1=_;omega,by
   dsimp only;rw[Nf,P9 hd,hp1,Nat.pow_succ];simp only[Pp,Nat.mul_zero,Nat.add_zero];have:=zU (d:=d) (m:=mu) rfl hp2;rw[this];grind,.inl (by dsimp only;omega),by dsimp only;omega⟩ (by rw[Og];rfl)
 ·by_cases h2:0<c
  ·have hdc:=Oe (x:=c) (by omega);have hol:(D7 o).length=i:=by rw[S7,hp1]
   refine go tt [.g 17 false Fp,.T,.F,.r 37 (eI (b:=((c % 10000:Nat):Int)) (by rfl)),.s (sz:=1) (VG _),.r 41 (eI (b:=((c / 10000:Nat):Int)) (by rfl))] rfl (by simp[Ge,hol,tdn,FR,-Int.natCast_add];omega) ?_;exact rd (i+1,c / 10000,o++[c % 10000]) (by dsimp only;omega) ⟨hp0.snoc (Nat.mod_lt _ (by decide)),by dsimp only;rw[List.length_append];show o.length+1=_;omega,by
    dsimp only;rw[Nf,hp1,Nat.pow_succ];simp only[Pp,Nat.mul_zero,Nat.add_zero];have:=zU (d:=0) (m:=mu) rfl hp2;simp only[Nat.zero_mul,Nat.mul_zero,Nat.add_zero]at this;rw[this,List.take_of_length_le (by omega),List.take_of_length_le (by omega)],.inr (by dsimp only;omega),by dsimp only;omega⟩ (by rw[Og];rfl)
  ·have cc:=SY hp0;rw[show Pp o=x*mu+c0 from by
    have h:=hp2;rw[Qp (by omega),Sv,show c=0 by omega]at h;omega]at cc
   exact Fh [.g 17 false Fp,.F,.k cc] rfl
theorem Qfj{l:Fv}{j d:Nat}(h:l[j]? = some d):val (l.drop j)=d+4294967296*val (l.drop (j+1)):=by
 have hi:=(Qd.1 h).1;rw[Xc hi,(Qd.1 h).2];rfl
theorem BJ:∀(l:Fv) (j:Nat),val (l.drop j)<=val l
 |l,0=>Qn _
 | [],j+1=>by simp
 |
  x::l,j+1=>by
  have:=BJ l j;rw[K5];simp only[val];omega
theorem Qn5{l:Fv}(hu:∀u∈l,u<4294967296)(hl:l.length≤1099511627776)(hx:sz (val l)≤100000000):Fo 342 [lr l] [.one (nd (val l))]:=by
 have hll:=Gi l;show Fo 342 [.one (.row (lm l))] _;refine Sk func342 rfl ?_;refine Fg [.z 3,.r 7 (eI (b:=((l.length:Nat):Int)-1) (by rw[hll]))] rfl ?_;refine Fl (S:=Nat×Fv) 0 (λL1 s=>(4,.v (.oi ((s.1:Int)-1)))::(3,.v (.one (.row (D7 s.2))))::L1) (λ_=>[]) (λs=>s.1) (λs=>s.1<=l.length/\s.2=Hz (val (l.drop s.1))) (l.length,[]) ⟨Nat.le_refl _,by dsimp only;rw[List.drop_eq_nil_of_le (Nat.le_refl _)];show []=Hz 0;rw[To]⟩ rfl rfl λs hs=>?_
 obtain⟨j,o⟩:=s;obtain⟨hj,ho⟩:=hs;dsimp only at hj ho ⊢;subst ho;cases j with
 |zero=>exact Fh [.f (by simp)] rfl (by rw[Je];rfl) trivial
 |
  succ j =>
  obtain⟨d,hd⟩:=gxE (l:=l) (i:=j) (by omega);have hd9:=hu d (Qa hd);have hdd:=Qfj hd;have hle:=BJ l j;have hs2:sz (val (l.drop (j+1))*65536+d / 65536)<=100000000:=Qe (Pi (by omega)) hx;have hs1:sz (val (l.drop (j+1)))<=100000000:=Qe (Pi (by omega)) hx;have c1:=GU (x:=val (l.drop (j+1))) (mu:=65536) (c0:=d / 65536) hs1 (by omega) (by omega);have c2:=GU (x:=val (l.drop (j+1))*65536+d / 65536) (mu:=65536) (c0:=d % 65536) hs2 (by omega) (by omega);have ej:((j+1:Nat):Int)-1=(j:Int):=by omega
  have e2:(val (l.drop (j+1))*65536+d / 65536)*65536+d % 65536=val (l.drop j):=by rw[hdd];omega
  rw[e2]at c2;rw[ej];refine go tt [.T,.x (Rj hd),.r 17 (Ar (b:=((d / 65536:Nat):Int)) (by rfl)),.k c1,.x (Rj hd),.r 25 (Ar (b:=((d % 65536:Nat):Int)) (by rfl)),.k c2] rfl (by simp[Ge,IntKind.bits];omega) ?_;exact rd (j,Hz (val (l.drop j))) (by dsimp only;omega) ⟨by dsimp only;omega,rfl⟩ rfl
theorem bW{x y:Nat}(hx:sz x<=200000000)(hy:sz y<=200000000):Fo 324 [.one (nd x),.one (nd y)] [.oi (JO x y)]:=by
 have hxl:=Qe (B7 x) hx;have hyl:=Qe (B7 y) hy;have lx:=UM x;have ly:=UM y;show Fo 324 [.one (.row (D7 (Hz x))),.one (.row (D7 (Hz y)))] _;refine Sk func324 rfl ?_;by_cases hl:(Hz x).length=(Hz y).length
 ·refine Fg [.f (by simp;omega),.r 18 (eI (b:=((Hz x).length:Int)-1) (by rw[lx]))] rfl ?_;refine Fl (S:=Nat) 0 (λL1 j=>(5,.v (.oi ((j:Int)-1)))::L1) (λ_=>[]) (λj=>j) (λj=>j<=(Hz x).length/\(Hz x).drop j=(Hz y).drop j) (Hz x).length ⟨Qn _,by rw[Yz (Qn _),Yz (by omega)]⟩ rfl rfl λj hs=>?_
  obtain⟨hj,hp⟩:=hs;cases j with
  |
   zero =>
   have hxy:x=y:=by rw[Je,Je]at hp;rw[<-Sv x,<-Sv y,hp]
   exact Fh [.f (by simp)] rfl (by rw[Qac hxy]) trivial
  |
   succ j =>
   obtain⟨d,hd⟩:=gxE (l:=(Hz x)) (i:=j) (by omega);obtain⟨e,he⟩:=gxE (l:=(Hz y)) (i:=j) (by omega);have ej:((j+1:Nat):Int)-1=(j:Int):=by omega
   rw[ej];by_cases h2:d=e
   ·refine Fg [.T,.x (Ri hd),.x (Ri he),.f (by simp[h2])] rfl ?_;exact rd j (by omega) ⟨by omega,by rw[Xc (by omega:j<(Hz x).length),Xc (by omega:j<(Hz y).length),hp,(Qd.1 hd).2,(Qd.1 he).2,h2]⟩ rfl
   ·by_cases h3:d<e
    ·have hxy:=EW (Ll x) hd he hp h3;rw[Sv,Sv]at hxy;exact Fh [.T,.x (Ri hd),.x (Ri he),.t (by simp;omega),.x (Ri hd),.x (Ri he),.T] rfl (by rw[BI hxy]) trivial
    ·have hxy:=EW (Ll y) he hd hp.symm (by omega);rw[Sv,Sv]at hxy;exact Fh [.T,.x (Ri hd),.x (Ri he),.t (by simp;omega),.x (Ri hd),.x (Ri he),.F] rfl (by rw[BA hxy]) trivial
 ·by_cases hlt:(Hz x).length<(Hz y).length
  ·exact Fh [.t (by simp;omega),.T] rfl (by rw[BI (tZ hlt)]) trivial
  ·exact Fh [.t (by simp;omega),.F] rfl (by rw[BA (tZ (by omega))]) trivial
theorem KV{o c s P V:Nat}(h:o+c*P=V):o+P*((c+s) % 10000)+(c+s) / 10000*(P*10000)=V+P*s:=by
 have e:=Xx (c+s) 10000;generalize (c+s) / 10000=q at *;generalize (c+s) % 10000=r at *;have e2:P*(c+s)=P*(10000*q+r):=by rw[e]
 grind
theorem QO{l:Fv}{i:Nat}(h:l.length<=i):Pp (l.take (i+1))=Pp (l.take i):=by rw[Qp (by omega),Qp h]
theorem Qat{l:Fv}{p v u:Nat}(h:l[p]? = some v):Pp (l.set p u)+10000^p*v=Pp l+10000^p*u:=by
 have hp:=(Qd.1 h).1;rw[CQ (l.set p u) p (by rw[Jk];omega),CQ l p (by omega),YM h,SR hp,List.take_set_of_le (Qn _)];simp only[Pp];generalize 10000^p=P;grind
theorem Oh{l:Fv}{p u:Nat}(h:p<l.length):Pp ((l.set p u).take (p+1))=Pp (l.take p)+10000^p*u:=by
 rw[P9 (l:=l.set p u) (i:=p) (x:=u) (by simp[h]),List.take_set_of_le (Qn _)]
structure AddI(x y:Nat)(s:Nat×Nat×List Nat):Prop where
 d:Dg s.2.2
 l:s.2.2.length=s.1
 v:Pp s.2.2+s.2.1*10000^s.1=Pp ((Hz x).take s.1)+Pp ((Hz y).take s.1)
 c:s.2.1<=1
 b:s.1<=max (Hz x).length (Hz y).length\/s.1=max (Hz x).length (Hz y).length+1/\10000^(max (Hz x).length (Hz y).length)<=x+y/\s.2.1=0
theorem Qtl{x y:Nat}(hx:sz x<=200000000)(hy:sz y<=200000000):Fo 323 [.one (nd x),.one (nd y)] [.one (nd (x+y))]:=by
 have hxl:=Qe (B7 x) hx;have hyl:=Qe (B7 y) hy;have lx:=UM x;have ly:=UM y;show Fo 323 [.one (.row (D7 (Hz x))),.one (.row (D7 (Hz y)))] _;refine Sk func323 rfl ?_;refine Ff [.o 5 3 1] rfl ?_;refine Fl (S:=Nat×Nat×Fv) 1 (λL1 s=>(7,.v (.oi (s.1:Int)))::(6,.v (.oi (s.2.1:Int)))::(5,.v (.one (.orow 0 1 none)))::L1) (λs=>[.row false 3 1 (D7 s.2.2)]) (λs=>(max (Hz x).length (Hz y).length-s.1)*2+s.2.1) (AddI x y) (0,0,[]) ⟨Dg.nil,rfl,by simp[Pp],by decide,.inl (Qh _)⟩ rfl rfl λs hs=>?_
 obtain⟨i,c,o⟩:=s;obtain⟨hp0,hp1,hp2,hp3,hp4⟩:=hs;dsimp only at hp0 hp1 hp2 hp3 hp4 ⊢;have hol:(D7 o).length=i:=by rw[S7,hp1]
 by_cases h1:i<(Hz x).length
 ·obtain⟨d,hd⟩:=gxE (l:=(Hz x)) (i:=i) h1;have hd9:=Ll x d (Qa hd);by_cases h2:i<(Hz y).length
  ·obtain⟨e,he⟩:=gxE (l:=(Hz y)) (i:=i) h2;have he9:=Ll y e (Qa he);refine go tt [.g 12 true Fq,.g 18 true rfl,.t rfl,.T,.x (Ri hd),.r 33 (eI (b:=((c+d:Nat):Int)) (by omega)),.T,.x (Ri he),.r 43 (eI (b:=((c+(d+e):Nat):Int)) (by omega)),.r 46 (eI (b:=(((c+(d+e)) % 10000:Nat):Int)) (by rfl)),.s (sz:=1) (VG _),.r 50 (eI (b:=(((c+(d+e)) / 10000:Nat):Int)) (by rfl))] rfl (by simp[Ge,hol,tdn,FR,-Int.natCast_add];omega) ?_;exact rd (i+1,(c+(d+e)) / 10000,o++[(c+(d+e)) % 10000]) (by dsimp only;omega) ⟨hp0.snoc (Nat.mod_lt _ (by decide)),by dsimp only;rw[List.length_append];show o.length+1=_;omega,by
    dsimp only;rw[Nf,hp1,Nat.pow_succ];simp only[Pp,Nat.mul_zero,Nat.add_zero];have:=KV (s:=d+e) hp2;rw[this,P9 hd,P9 he];grind,by dsimp only;omega,.inl (by dsimp only;omega)⟩ (by rw[Og];rfl)
  ·refine go tt [.g 12 true Fq,.g 18 true rfl,.t rfl,.T,.x (Ri hd),.r 33 (eI (b:=((c+d:Nat):Int)) (by omega)),.F,.r 46 (eI (b:=(((c+d) % 10000:Nat):Int)) (by rfl)),.s (sz:=1) (VG _),.r 50 (eI (b:=(((c+d) / 10000:Nat):Int)) (by rfl))] rfl (by simp[Ge,hol,tdn,FR,-Int.natCast_add];omega) ?_;exact rd (i+1,(c+d) / 10000,o++[(c+d) % 10000]) (by dsimp only;omega) ⟨hp0.snoc (Nat.mod_lt _ (by decide)),by dsimp only;rw[List.length_append];show o.length+1=_;omega,by
    dsimp only;rw[Nf,hp1,Nat.pow_succ];simp only[Pp,Nat.mul_zero,Nat.add_zero];have:=KV (s:=d) hp2;rw[this,P9 hd,QO (l:=Hz y) (by omega)];grind,by dsimp only;omega,.inl (by dsimp only;omega)⟩ (by rw[Og];rfl)
 ·by_cases h2:i<(Hz y).length
  ·obtain⟨e,he⟩:=gxE (l:=(Hz y)) (i:=i) h2;have he9:=Ll y e (Qa he);refine go tt [.g 12 false Fp,.g 18 true Fq,.t rfl,.F,.T,.x (Ri he),.r 43 (eI (b:=((c+e:Nat):Int)) (by omega)),.r 46 (eI (b:=(((c+e) % 10000:Nat):Int)) (by rfl)),.s (sz:=1) (VG _),.r 50 (eI (b:=(((c+e) / 10000:Nat):Int)) (by rfl))] rfl (by simp[Ge,hol,tdn,FR,-Int.natCast_add];omega) ?_;exact rd (i+1,(c+e) / 10000,o++[(c+e) % 10000]) (by dsimp only;omega) ⟨hp0.snoc (Nat.mod_lt _ (by decide)),by dsimp only;rw[List.length_append];show o.length+1=_;omega,by
    dsimp only;rw[Nf,hp1,Nat.pow_succ];simp only[Pp,Nat.mul_zero,Nat.add_zero];have:=KV (s:=e) hp2;rw[this,P9 he,QO (l:=Hz x) (by omega)];grind,by dsimp only;omega,.inl (by dsimp only;omega)⟩ (by rw[Og];rfl)
  ·by_cases h3:0<c
   ·refine go tt [.g 12 false Fp,.g 18 false Fp,.T,.F,.F,.r 46 (eI (b:=((c % 10000:Nat):Int)) (by rfl)),.s (sz:=1) (VG _),.r 50 (eI (b:=((c / 10000:Nat):Int)) (by rfl))] rfl (by simp[Ge,hol,tdn,FR,-Int.natCast_add];omega) ?_;exact rd (i+1,c / 10000,o++[c % 10000]) (by dsimp only;omega) ⟨hp0.snoc (Nat.mod_lt _ (by decide)),by dsimp only;rw[List.length_append];show o.length+1=_;omega,by
     dsimp only;rw[Nf,hp1,Nat.pow_succ];simp only[Pp,Nat.mul_zero,Nat.add_zero];have:=KV (s:=0) hp2;rw[Nat.add_zero,Nat.mul_zero,Nat.add_zero]at this;rw[this,QO (l:=Hz y) (by omega),QO (l:=Hz x) (by omega)],by dsimp only;omega,.inr ⟨by dsimp only;omega,by
      have h:=hp2;rw[List.take_of_length_le (by omega),List.take_of_length_le (by omega),Sv,Sv,show c=1 by omega,Nat.one_mul,show i=(max (Hz x).length (Hz y).length) by omega]at h;omega,by dsimp only;omega⟩⟩ (by rw[Og];rfl)
   ·have hv:Pp o=x+y:=by
     have h:=hp2;rw[Qp (by omega),Qp (by omega),Sv,Sv,show c=0 by omega]at h;omega
    have hfin:o=Hz (x+y):=by
     have h:=Qh7 (o:=o) hp0;rw[hv]at h;refine h ?_;have m1:=YT (x:=x) (y:=x+y) (by omega);have m2:=YT (x:=y) (y:=x+y) (by omega);rcases hp4 with hb|⟨_,hb,_⟩
     ·omega
     ·have:=Qdz hb;omega
    exact Fh [.g 12 false Fp,.g 18 false Fp,.F] rfl (by rw[hfin];rfl) trivial
theorem KW{o b a c P u d e c':Nat}(h:o+b=a+c*P)(hs:u+e+c=d+10000*c'):(o+P*u)+(b+P*e)=(a+P*d)+c'*(P*10000):=by
 have e2:P*(u+e+c)=P*(d+10000*c'):=by rw[hs]
 grind
theorem XL(o:Fv)(i u:Nat):D7 (o.set i u)=(D7 o).set i [.int .i64 (u:Int)]:=by simp[D7,V1]
theorem bT{x y:Nat}(hx:sz x<=200000000)(hy:sz y<=200000000)(hyx:y<=x):Fo 325 [.one (nd x),.one (nd y)] [.one (nd (x-y))]:=by
 have hxl:=Qe (B7 x) hx;have hyl:=Qe (B7 y) hy;have lx:=UM x;have ly:=UM y;have hmy:=YT hyx;show Fo 325 [.one (.row (D7 (Hz x))),.one (.row (D7 (Hz y)))] _;refine Sk func325 rfl ?_;refine Fg [.i (D7 (Hz x)).length,.i (D7 (Hz x)).length] rfl ?_;rw[lx,show List.replicate (Hz x).length [LV.int .i64 0]=D7 (List.replicate (Hz x).length 0) from by simp[D7]];refine Fl (S:=Nat×Nat×Fv) 1 (λL1 s=>(14,.v (.oi (s.1:Int)))::(6,.v (.oi (s.2.1:Int)))::L1) (λs=>[.row false 3 1 (D7 s.2.2)]) (λs=>(Hz x).length-s.1) (λs=>s.1<=(Hz x).length/\s.2.2.length=(Hz x).length/\Dg s.2.2/\Pp (s.2.2.take s.1)+Pp ((Hz y).take s.1)=Pp ((Hz x).take s.1)+s.2.1*10000^s.1/\s.2.1<=1) (0,0,List.replicate (Hz x).length 0) ⟨Qh _,Jj ..,Dg.zeros _,by simp[Pp],Qh _⟩ rfl rfl λs hs=>?_
 obtain⟨i,c,o⟩:=s;obtain⟨hp0,hp1,hp2,hp3,hp4⟩:=hs;dsimp only at hp0 hp1 hp2 hp3 hp4 ⊢;have hol:(D7 o).length=(Hz x).length:=by rw[S7,hp1]
 by_cases h1:i<(Hz x).length
 ·obtain⟨d,hd⟩:=gxE (l:=(Hz x)) (i:=i) h1;have hd9:=Ll x d (Qa hd);by_cases h2:i<(Hz y).length
  ·obtain⟨e,he⟩:=gxE (l:=(Hz y)) (i:=i) h2;have he9:=Ll y e (Qa he);by_cases h3:d<c+e
   ·refine go tt [.T,.x (Ri hd),.T,.x (Ri he),.T,.r 36 (eI (b:=((d+10000-c-e:Nat):Int)) (by omega)),.i i] rfl (by simp[Ge,hol,tdn,FR,-Int.natCast_add];omega) ?_;exact rd (i+1,1,o.set i (d+10000-c-e)) (by dsimp only;omega) ⟨by dsimp only;omega,by dsimp only;rw[List.length_set];exact hp1,hp2.set (by omega),by
     dsimp only;rw[Oh (by omega),P9 hd,P9 he,Nat.pow_succ];exact KW hp3 (u:=d+10000-c-e) (d:=d) (e:=e) (c':=1) (by omega),by dsimp only;omega⟩ (by rw[XL];rfl)
   ·refine go tt [.T,.x (Ri hd),.T,.x (Ri he),.r 32 (eI (b:=((d-c-e:Nat):Int)) (by omega)),.F,.i i] rfl (by simp[Ge,hol,tdn,FR,-Int.natCast_add];omega) ?_;exact rd (i+1,0,o.set i (d-c-e)) (by dsimp only;omega) ⟨by dsimp only;omega,by dsimp only;rw[List.length_set];exact hp1,hp2.set (by omega),by
     dsimp only;rw[Oh (by omega),P9 hd,P9 he,Nat.pow_succ];exact KW hp3 (u:=d-c-e) (d:=d) (e:=e) (c':=0) (by omega),by dsimp only;omega⟩ (by rw[XL];rfl)
  ·have hy0:Pp ((Hz y).take (i+1))=Pp ((Hz y).take i)+10000^i*0:=by rw[QO (by omega),Vo,Jh]
   by_cases h3:d<c
   ·refine go tt [.T,.x (Ri hd),.F,.T,.r 36 (eI (b:=((d+10000-c:Nat):Int)) (by omega)),.i i] rfl (by simp[Ge,hol,tdn,FR,-Int.natCast_add];omega) ?_;exact rd (i+1,1,o.set i (d+10000-c)) (by dsimp only;omega) ⟨by dsimp only;omega,by dsimp only;rw[List.length_set];exact hp1,hp2.set (by omega),by
     dsimp only;rw[Oh (by omega),P9 hd,hy0,Nat.pow_succ];exact KW hp3 (u:=d+10000-c) (d:=d) (e:=0) (c':=1) (by omega),by dsimp only;omega⟩ (by rw[XL];rfl)
   ·refine go tt [.T,.x (Ri hd),.r 22 (eI (b:=((d-c:Nat):Int)) (by omega)),.F,.F,.i i] rfl (by simp[Ge,hol,tdn,FR,-Int.natCast_add];omega) ?_;exact rd (i+1,0,o.set i (d-c)) (by dsimp only;omega) ⟨by dsimp only;omega,by dsimp only;rw[List.length_set];exact hp1,hp2.set (by omega),by
     dsimp only;rw[Oh (by omega),P9 hd,hy0,Nat.pow_succ];exact KW hp3 (u:=d-c) (d:=d) (e:=0) (c':=0) (by omega),by dsimp only;omega⟩ (by rw[XL];rfl)
 ·have hi:i=(Hz x).length:=by omega
  have hv:Pp o=x-y:=by
   have h:=hp3;rw[Qp (by omega),Qp (by omega),Qp (by omega),Sv,Sv]at h;have hlt:=EP hp2;rw[hp1,<-hi]at hlt;have hc0:c=0:=by
    rcases Qx c with h0|h0
    ·exact h0
    ·exfalso;have:c=1:=by omega
     rw[this,Uj]at h;omega
   rw[hc0]at h;omega
  have cc:=SY hp2;rw[hv]at cc;exact Fh [.F,.k cc] rfl
theorem EG{o o2 c P u v s V:Nat}(h:o+c*P=V)(hs:o2+P*v=o+P*u){q:Nat}(hu:u+10000*q=v+c+s):o2+q*(P*10000)=V+P*s:=by
 have e2:P*(u+10000*q)=P*(v+c+s):=by rw[hu]
 grind
theorem Qxe(S:Nat):S % 10000+10000*(S / 10000)=S:=U6 S 10000
structure MulI(x y i d:Nat)(s:Nat×Nat×List Nat):Prop where
 l:s.2.2.length=(Hz x).length+(Hz y).length
 dg:Dg s.2.2
 v:Pp s.2.2+s.2.1*10000^(i+s.1)=Pp ((Hz x).take i)*y+10000^i*d*Pp ((Hz y).take s.1)
 c:s.2.1<10000
 b:s.1<=(Hz y).length/\(∀j v,i+(Hz y).length<=j->s.2.2[j]? = some v->v=0)\/s.1=(Hz y).length+1/\s.2.1=0/\∀j v,i+(Hz y).length+1<=j->s.2.2[j]? = some v->v=0
theorem Qtp{x y:Nat}(hx:sz x<=200000000)(hy:sz y<=200000000):Fo 326 [.one (nd x),.one (nd y)] [.one (nd (x*y))]:=by
 have hxl:=Qe (B7 x) hx;have hyl:=Qe (B7 y) hy;have lx:=UM x;have ly:=UM y;show Fo 326 [.one (.row (D7 (Hz x))),.one (.row (D7 (Hz y)))] _;refine Sk func326 rfl ?_;refine Fg [.r 14 (eI (b:=(((Hz x).length+(Hz y).length:Nat):Int)) (by rw[lx,ly];omega)),.i ((Hz x).length+(Hz y).length),.i ((Hz x).length+(Hz y).length)] rfl ?_;rw[show List.replicate ((Hz x).length+(Hz y).length) [LV.int .i64 0]=D7 (List.replicate ((Hz x).length+(Hz y).length) 0) from by simp[D7]];refine Fl (S:=Nat×Fv) 1 (λL1 s=>(18,.v (.oi (s.1:Int)))::L1) (λs=>[.row false 3 1 (D7 s.2)]) (λs=>(Hz x).length-s.1) (λs=>s.1<=(Hz x).length/\s.2.length=(Hz x).length+(Hz y).length/\Dg s.2/\Pp s.2=Pp ((Hz x).take s.1)*y/\∀j v,s.1+(Hz y).length<=j->s.2[j]? = some v->v=0) (0,List.replicate ((Hz x).length+(Hz y).length) 0) ⟨Qh _,Jj ..,Dg.zeros _,by rw[EM (λx hx=>Zz hx)];simp[Pp],λj v _ hv=>Zz (Qa hv)⟩ rfl rfl λs hs=>?_
 obtain⟨i,o⟩:=s;obtain⟨hp0,hp1,hp2,hp3,hp4⟩:=hs;dsimp only at hp0 hp1 hp2 hp3 hp4 ⊢;by_cases h1:i<(Hz x).length
 ·obtain⟨d,hd⟩:=gxE (l:=(Hz x)) (i:=i) h1;have hd9:=Ll x d (Qa hd);refine Ff [.T] rfl ?_;refine Fl (S:=Nat×Nat×Fv) 1 (λL1 s=>(8,.v (.oi (s.1:Int)))::(7,.v (.oi (s.2.1:Int)))::L1) (λs=>[.row false 3 1 (D7 s.2.2)]) (λs=>((Hz y).length-s.1)*2+min s.2.1 1) (MulI x y i d) (0,0,o) ⟨hp1,hp2,by dsimp only;rw[hp3];simp[Pp],by show 0<10000;decide,.inl ⟨Nat.zero_le _,hp4⟩⟩ rfl rfl λs hs=>?_
  obtain⟨k,c,o2⟩:=s;obtain⟨hq0,hq1,hq2,hq3,hq4⟩:=hs;dsimp only at hq0 hq1 hq2 hq3 hq4 ⊢;have hol:(D7 o2).length=(Hz x).length+(Hz y).length:=by rw[S7,hq0]
  by_cases h2:k<(Hz y).length
  ·obtain⟨e,he⟩:=gxE (l:=(Hz y)) (i:=k) h2;have he9:=Ll y e (Qa he);have hde:d*e<=9999*9999:=Xl (by omega) (by omega);obtain⟨v,hoi⟩:=gxE (l:=o2) (i:=i+k) (by omega);have hv9:=hq1 v (Qa hoi);refine go tt [.g 25 true Fq,.t rfl,.r 34 (eI (b:=((i+k:Nat):Int)) (by omega)),.i (i+k),.x (Ri hoi),.r 38 (eI (b:=((v+c:Nat):Int)) (by omega)),.T,.x (Ri hd),.x (Ri he),.r 52 (eI (b:=((d*e:Nat):Int)) (by simp)),.r 53 (eI (b:=((v+c+d*e:Nat):Int)) (by omega)),.r 57 (eI (b:=((i+k:Nat):Int)) (by omega)),.r 59 (eI (b:=(((v+c+d*e) % 10000:Nat):Int)) (by rfl)),.i (i+k),.r 62 (eI (b:=(((v+c+d*e) / 10000:Nat):Int)) (by rfl))] rfl (by simp[Ge,hol,tdn,FR,-Int.natCast_add,-Int.natCast_mul];omega) ?_;exact rd (k+1,(v+c+d*e) / 10000,o2.set (i+k) ((v+c+d*e) % 10000)) (by dsimp only;omega) ⟨by dsimp only;rw[List.length_set];exact hq0,hq1.set (Nat.mod_lt _ (by decide)),by
    dsimp only;rw[<-Nat.add_assoc i k 1,Nat.pow_succ];have:=EG hq2 (Qat hoi (u:=((v+c)+(d*e)) % 10000)) (s:=d*e) (q:=((v+c)+(d*e)) / 10000) (by rw[Qxe]);rw[this,P9 he,Nat.pow_add];grind,by dsimp only;omega,.inl ⟨by dsimp only;omega,λj w hj hw=>(by
     dsimp only at hw;rcases hq4 with⟨_,h⟩|⟨_,_,h⟩ <;> (rw[Yq (by omega)]at hw;exact h j w (by omega) hw))⟩⟩ (by rw[XL];rfl)
  ·by_cases h3:0<c
   ·have hk:k=(Hz y).length:=by omega
    have hz:∀j v,i+(Hz y).length<=j->o2[j]? = some v->v=0:=by
     rcases hq4 with⟨_,h⟩|⟨_,h,_⟩
     ·exact h
     ·omega
    obtain⟨v,hoi⟩:=gxE (l:=o2) (i:=i+k) (by omega);have hv0:v=0:=hz (i+k) v (by omega) hoi;have hv9:=hq1 v (Qa hoi);refine go tt [.g 25 false Fp,.T,.r 34 (eI (b:=((i+k:Nat):Int)) (by omega)),.i (i+k),.x (Ri hoi),.r 38 (eI (b:=((v+c:Nat):Int)) (by omega)),.F,.r 57 (eI (b:=((i+k:Nat):Int)) (by omega)),.r 59 (eI (b:=(((v+c) % 10000:Nat):Int)) (by rfl)),.i (i+k),.r 62 (eI (b:=(((v+c) / 10000:Nat):Int)) (by rfl))] rfl (by simp[Ge,hol,tdn,FR,-Int.natCast_add];omega) ?_;exact rd (k+1,(v+c) / 10000,o2.set (i+k) ((v+c) % 10000)) (by dsimp only;omega) ⟨by dsimp only;rw[List.length_set];exact hq0,hq1.set (Nat.mod_lt _ (by decide)),by
     dsimp only;rw[<-Nat.add_assoc i k 1,Nat.pow_succ];have:=EG hq2 (Qat hoi (u:=(v+c) % 10000)) (s:=0) (q:=(v+c) / 10000) (by rw[Qxe];rfl);rw[this,Nat.mul_zero,Nat.add_zero,QO (by omega)],by dsimp only;omega,.inr ⟨by dsimp only;omega,by dsimp only;omega,λj w hj hw=>(by
      dsimp only at hw;rw[Yq (by omega)]at hw;exact hz j w (by omega) hw)⟩⟩ (by rw[XL];rfl)
   ·refine Fg [.g 25 false Fp,.F] rfl ?_;exact rd (i+1,o2) (by dsimp only;omega) ⟨by dsimp only;omega,hq0,hq1,by
     dsimp only;rw[P9 hd,Yf];have h:=hq2;rw[show c=0 by omega,Qp (l:=Hz y) (i:=k) (by omega),Sv]at h;rw[Yc,Jh]at h;exact h,by
     dsimp only;rcases hq4 with⟨_,h⟩|⟨_,_,h⟩
     ·exact λj w hj hw=>h j w (by omega) hw
     ·exact λj w hj hw=>h j w (by omega) hw⟩ rfl
 ·have hv:Pp o=x*y:=by rw[hp3,Qp (by omega),Sv]
  have cc:=SY hp2;rw[hv]at cc;exact Fh [.F,.k cc] rfl
theorem Qae{x y:Nat}:JO x y<=0↔x<=y:=by
 unfold JO;constructor
 ·intro h;split at h
  ·omega
  ·split at h <;> omega
 ·intro h;split
  ·omega
  ·split <;> omega
theorem Qd3{R y lo:Nat}(h1:y*lo<=R)(h2:R<y*(lo+1)):R / y=lo/\R % y=R-y*lo:=by
 have hy:0<y:=by
  rcases Qx y with h|h
  ·subst h;simp at h2
  ·exact h
 have e:R / y=lo:=Nat.div_eq_of_lt_le (by rw[Zo];exact h1) (by rw[Zo];exact h2);refine⟨e,?_⟩;have:=Xx R y;rw[e]at this;omega
theorem Qmn{R y:Nat}(h:R<y*10000):sz R<=sz y+14:=by
 refine La.2 (X7 h ?_);have:=HM y;rw[Xs];have e:(2:Nat)^14=16384:=by decide
 rw[e];exact Xl (by omega) (by decide)
theorem Qfd(y:Nat):sz (y*10000)<=sz y+14:=by
 refine La.2 ?_;have:=HM y;rw[Xs];have e:(2:Nat)^14=16384:=by decide
 rw[e];omega
theorem Qgj{x y:Nat}(hx:sz x<=90000000)(hy:sz y<=90000000)(hy0:0<y):Fo 344 [.one (nd x),.one (nd y)] [.one (nd (x / y)),.one (nd (x % y))]:=by
 have hxl:=Qe (B7 x) hx;have hyl:=Qe (B7 y) hy;have lx:=UM x;show Fo 344 [.one (.row (D7 (Hz x))),.one (nd y)] _;refine Sk func344 rfl ?_;refine Fg [.i (D7 (Hz x)).length,.i (D7 (Hz x)).length,.z 7,.r 17 (eI (b:=((Hz x).length:Int)-1) (by rw[lx]))] rfl ?_;rw[lx,show List.replicate (Hz x).length [LV.int .i64 0]=D7 (List.replicate (Hz x).length 0) from by simp[D7]];refine Fl (S:=Nat×Fv×Fv) 1 (λL1 s=>(8,.v (.oi ((s.1:Int)-1)))::(7,.v (.one (.row (D7 s.2.1))))::L1) (λs=>[.row false 3 1 (D7 s.2.2)]) (λs=>s.1) (λs=>s.1<=(Hz x).length/\s.2.2.length=(Hz x).length/\Dg s.2.2/\Pp (s.2.2.drop s.1)=Pp ((Hz x).drop s.1) / y/\s.2.1=Hz (Pp ((Hz x).drop s.1) % y)) ((Hz x).length,[],List.replicate (Hz x).length 0) ⟨Nat.le_refl _,List.length_replicate ..,Dg.zeros _,by dsimp only;rw[List.drop_eq_nil_of_le (by simp),List.drop_eq_nil_of_le (Nat.le_refl _)];simp[Pp],by dsimp only;rw[List.drop_eq_nil_of_le (Nat.le_refl _)];simp[Pp,To]⟩ rfl rfl λs hs=>?_
 obtain⟨j,R,o⟩:=s;obtain⟨hp0,hp1,hp2,hp3,hp4⟩:=hs;dsimp only at hp0 hp1 hp2 hp3 hp4 ⊢;cases j with
 |
  zero =>
  have cc:=SY hp2;rw[Je,Je,Sv]at hp3;rw[Je,Sv]at hp4;rw[hp3]at cc;exact Fh [.f (by simp),.k cc] rfl (by rw[hp4];rfl) trivial
 |
  succ j =>
  obtain⟨d,hd⟩:=gxE (l:=(Hz x)) (i:=j) (by omega);have hd9:=Ll x d (Qa hd);have hdd:=YM hd;obtain⟨hq1,hq2,hq3⟩:=tV (V:=Pp ((Hz x).drop (j+1))) (kd:=y) (d:=d) hy0;rw[<-hdd]at hq1 hq2;have hq3:=hq3 hd9;obtain⟨rr,hrr0⟩:=nmE (Pp ((Hz x).drop (j+1)) % y);have hrr:rr<y:=by rw[hrr0];exact Xp _ hy0
  rw[<-hrr0]at hp4 hq1 hq2 hq3;subst hp4;have hrl:(Hz rr).length<=(Hz y).length:=YT (by omega);have hR:rr*10000+d<y*10000:=by omega
  have hRs:=Qmn hR;have hdv:Dg (d::Hz rr):=λz hz=>by
   rcases Qj.1 hz with rfl|hz
   ·exact hd9
   ·exact Ll rr z hz
  have cc:=SY hdv;rw[show Pp (d::Hz rr)=rr*10000+d from by simp only[Pp];rw[Sv];omega]at cc;have hol:(D7 o).length=(Hz x).length:=by rw[S7,hp1]
  have hrrl:=S7 (Hz rr);have ej:((j+1:Nat):Int)-1=(j:Int):=by omega
  rw[ej];refine go tt [.T,.x (Ri hd),.lo,.s (sz:=1) (Quc (Hz rr)),.k cc] rfl (by simp[Ge,UM];omega) ?_;refine Fl (S:=Nat×Nat) 2 (λL1 s=>(9,.v (.oi (s.1:Int)))::(10,.v (.oi (s.2:Int)))::L1) (λ_=>[.row false 3 1 (D7 o),.gone]) (λs=>s.2-s.1) (λs=>s.1<=s.2/\s.2<=9999/\y*s.1<=rr*10000+d/\rr*10000+d<y*(s.2+1)) (0,9999) ⟨by decide,by decide,by dsimp only;omega,by dsimp only;omega⟩ rfl rfl λs hs=>?_
  obtain⟨lo,hi⟩:=s;obtain⟨hb0,hb1,hb2,hb3⟩:=hs;dsimp only at hb0 hb1 hb2 hb3 ⊢;by_cases h2:lo<hi
  ·obtain⟨m,hm⟩:=nmE ((lo+hi+1) / 2);have hym:y*m<=y*10000:=Zl y (by omega);have c1:=GU (x:=y) (mu:=m) (c0:=0) (by omega) (by omega) (by omega);have c2:=bW (x:=y*m+0) (y:=rr*10000+d) (Qe (Pi (show _<=y*10000 by omega)) (Qe (Qfd y) (by omega))) (by omega);by_cases h3:y*m+0<=rr*10000+d
   ·refine go tt [.T,.r 35 (eI (b:=((lo+hi:Nat):Int)) (by omega)),.r 36 (eI (b:=((lo+hi+1:Nat):Int)) (by omega)),.r 37 (eI (b:=(m:Int)) (by rw[hm];rfl)),.k c1,.k c2,.t (decide_eq_true (Qae.2 h3))] rfl (by simp[Ge,FR,-Int.natCast_add];omega) ?_;exact rd (m,hi) (by dsimp only;omega) ⟨by dsimp only;omega,hb1,by dsimp only;omega,hb3⟩ rfl
   ·refine go tt [.T,.r 35 (eI (b:=((lo+hi:Nat):Int)) (by omega)),.r 36 (eI (b:=((lo+hi+1:Nat):Int)) (by omega)),.r 37 (eI (b:=(m:Int)) (by rw[hm];rfl)),.k c1,.k c2,.f (decide_eq_false λh=>h3 (Qae.1 h)),.r 46 (eI (b:=((m-1:Nat):Int)) (by omega))] rfl (by simp[Ge,FR,-Int.natCast_add];omega) ?_;exact rd (lo,m-1) (by dsimp only;omega) ⟨by dsimp only;omega,by dsimp only;omega,hb2,by dsimp only;rw[show m-1+1=m by omega];omega⟩ rfl
  ·have hlh:lo=hi:=by omega
   have hfd:=Qd3 hb2 (by rw[hlh];exact hb3);have c1:=GU (x:=y) (mu:=lo) (c0:=0) (by omega) (by omega) (by omega);have c2:=bT (x:=rr*10000+d) (y:=y*lo+0) (by omega) (Qe (Pi (show _<=rr*10000+d by omega)) (by omega)) (by omega);rw[show rr*10000+d-(y*lo+0)=Pp ((Hz x).drop j) % y from by rw[hq2,hfd.2];omega]at c2;refine go tt [.F,.i j,.k c1,.k c2] rfl (by simp[Ge,hol,tdn,FR,-Int.natCast_add];omega) ?_;exact rd (j,Hz (Pp ((Hz x).drop j) % y),o.set j lo) (by dsimp only;omega) ⟨by dsimp only;omega,by dsimp only;rw[List.length_set];exact hp1,hp2.set (by omega),by
    dsimp only;rw[SR (by omega)];simp only[Pp];rw[hp3,hq1,hfd.1],rfl⟩ (by rw[XL];rfl)
abbrev fr(q:Rat):Fy:=ri q.num++ri (q.den:Int)
theorem Of:Hz 1=[1]:=by rw[XC (by decide)];rw[To]
theorem Cz{n:Int}:Fo 155 [.agg (ri n),.agg (ri 1)] [.agg (fr (n:Rat))]:=by
 have h0:(D7 (Hz (1:Int).natAbs))[0]? = some [LV.int .i64 1]:=by rw[show(1:Int).natAbs=1 from rfl,Of];rfl
 have h1:decide (((D7 (Hz (1:Int).natAbs)).length:Int)=1)=true:=by rw[show(1:Int).natAbs=1 from rfl,Of];rfl
 exact Fi func155 rfl [.k (Di (z:=1)),.f rfl,.f rfl,.g 19 true h1,.x h0,.t rfl] rfl
theorem UH{n:Int}(hn:-4000000000000000000<=n/\n<=4000000000000000000):Fo 101 [.oi n,.oi 1] [.agg (fr (n:Rat))] :=
 Fi func101 rfl [.k (Aj hn),.k (Aj (n:=1) (by decide)),.k Cz] rfl
theorem Qr9{q:Rat}(hq:Qs 100000000 q):Fo 63 [.agg (fr q)] [.agg (rl q)] :=
 Fi func63 rfl [.k (Qgy hq.1),.k (Qgy hq.2)] rfl
theorem Qq5{a b:Int}(h:(decide (a<0) == decide (b<0))=true):Gv (decide (a<0)) (a.natAbs+b.natAbs)=a+b:=by
 unfold Gv;by_cases h1:a<0 <;> by_cases h2:b<0 <;> simp[h1,h2]at h ⊢ <;> omega
theorem Qq7{a b:Int}(h:¬(decide (a<0) == decide (b<0))=true)(hl:b.natAbs<=a.natAbs):Gv (decide (a<0)) (a.natAbs-b.natAbs)=a+b:=by
 unfold Gv;by_cases h1:a<0 <;> by_cases h2:b<0 <;> simp[h1,h2]at h ⊢ <;> omega
theorem Ql3{a b:Int}(h:¬(decide (a<0) == decide (b<0))=true)(hl:¬b.natAbs<=a.natAbs):Gv (decide (b<0)) (b.natAbs-a.natAbs)=a+b:=by
 unfold Gv;by_cases h1:a<0 <;> by_cases h2:b<0 <;> simp[h1,h2]at h ⊢ <;> omega
theorem WX(a:Int):(∃m:Nat,a=(m:Int))\/∃m:Nat,a=-(m:Int)/\0<m:=by
 rcases W4 a 0 with h|h
 ·exact .inr ⟨a.natAbs,by omega,by omega⟩
 ·exact .inl ⟨a.natAbs,by omega⟩
theorem RD(a b:Int):Gv (!(decide (a<0) == decide (b<0))) (a.natAbs*b.natAbs)=a*b:=by
 rcases WX a with⟨m,rfl⟩|⟨m,rfl,hm⟩ <;> rcases WX b with⟨n,rfl⟩|⟨n,rfl,hn⟩
 ·simp[Gv,show ¬((m:Int)<0) by omega,show ¬((n:Int)<0) by omega]
 ·simp[Gv,show ¬((m:Int)<0) by omega,show(-(n:Int)<0) by omega,hn,K0]
 ·simp[Gv,show(-(m:Int)<0) by omega,show ¬((n:Int)<0) by omega,hm,Kb]
 ·simp[Gv,show(-(m:Int)<0) by omega,show(-(n:Int)<0) by omega,hm,hn,U3]
theorem Qq6{a b:Int}(h:a % b=0):Gv (!(decide (a<0) == decide (b<0))) (a.natAbs / b.natAbs)=a / b:=by
 by_cases hb:b=0
 ·subst hb;simp[Gv]
 obtain⟨c,rfl⟩:=Vh h;rw[X8 _ hb,Yd,Nat.mul_div_cancel_left _ (by omega)];rcases WX b with⟨n,rfl⟩|⟨n,rfl,hn⟩ <;> rcases WX c with⟨m,rfl⟩|⟨m,rfl,hm⟩
 ·have:¬((n:Int)*(m:Int)<0):=by rw[<-Wa];omega
  simp[Gv,this,show ¬((n:Int)<0) by omega]
 ·have h1:0<n*m:=Y3 (by omega) hm;have:((n:Int)*-(m:Int)<0):=by rw[K0,<-Wa];omega
  simp only[this,show ¬((n:Int)<0) by omega];simp[Gv]
 ·by_cases h0:m=0
  ·subst h0;simp[Gv]
  ·have h1:0<n*m:=Y3 hn (by omega);have:(-(n:Int)*(m:Int)<0):=by rw[Kb,<-Wa];omega
   simp only[this,show(-(n:Int)<0) by omega];simp[Gv]
 ·have:¬(-(n:Int)*-(m:Int)<0):=by rw[U3,<-Wa];omega
  simp only[this,show(-(n:Int)<0) by omega];simp[Gv]
theorem Qma(a b:Int):Int.sign (a-b)=Ac a b:=by
 unfold Ac;rcases Yg a b with h|h|h
 ·rw[if_pos h,Ju (by omega)]
 ·rw[if_neg (by omega),if_neg (by omega),h,Int.sub_self];rfl
 ·rw[if_neg (by omega),if_pos h,Ye (by omega)]
theorem Qad{x y:Nat}:0<=JO x y↔y<=x:=by
 unfold JO;constructor
 ·intro h;split at h
  ·omega
  ·omega
 ·intro h;split
  ·omega
  ·split <;> omega
theorem EY{x e:Nat}(h:(Hz x).length=1)(he:(Hz x)[0]? = some e):x=e:=by
 rcases hd:Hz x with _|⟨u,l⟩
 ·rw[hd]at h;cases h
 ·rcases l with _|⟨w,l⟩
  ·rw[hd]at he;simp at he;have:=Sv x;rw[hd]at this;simp[Pp]at this;omega
  ·rw[hd]at h;simp at h
theorem dW{a b:Int}(hb:0<b):ri (a / ((Int.gcd a b:Nat):Int))++ri (b / ((Int.gcd a b:Nat):Int))=fr (Rat.divInt a b):=by
 obtain⟨h1,h2⟩:=kS (n:=a) hb;rw[Lo,Int.gcd_comm]at h1 h2;rw[h1,h2]
theorem dU(a:Int):ri a++ri 1=fr (Rat.divInt a 1):=by
 have h:=dW (a:=a) (b:=1) (by decide);rw[show((Int.gcd a 1:Nat):Int)=1 by simp]at h;simpa using h
theorem xZ{a b:Int}(hb:b≠0)(ha2:Gy a<=90000000)(hb2:Gy b<=90000000):Gy ((Int.gcd a b:Nat):Int)<=90000000/\((Int.gcd a b:Nat):Int)≠0/\a % ((Int.gcd a b:Nat):Int)=0/\b % ((Int.gcd a b:Nat):Int)=0:=by
 have h1:=Qbd (n:=a) hb hb2;have h2:=tI (n:=a) hb;have h3:=AY a b;have h4:=AU a b;rw[Lo,Int.gcd_comm]at h1 h2 h3 h4;exact⟨h1,by omega,h3,h4⟩
theorem jS{a b:Int}(h:b<0):Sa a b=Rat.divInt (-a) (-b):=by
 unfold Sa;rw[if_neg (by omega)];exact(Rat.neg_divInt_neg a b).symm
theorem MZ{a b:Int}(h:0<b):Sa a b=Rat.divInt a b:=by
 unfold Sa;rw[if_neg (by omega)]
theorem qP(a b:Rat):Sa (a.num*(b.den:Int)+b.num*(a.den:Int)) ((a.den:Int)*(b.den:Int))=a+b:=by
 unfold Sa;rw[if_neg (X9 (Dt a) (Dt b)),<-Rat.divInt_add_divInt _ _ (Dt a) (Dt b),Z9,Z9]
theorem xH(a b:Rat):Sa (a.num*b.num) ((a.den:Int)*(b.den:Int))=a*b:=by
 unfold Sa;rw[if_neg (X9 (Dt a) (Dt b)),<-Wz,Z9,Z9]
theorem jT{a b:Rat}(h:b≠0):Sa (a.num*(b.den:Int)) ((a.den:Int)*b.num)=a / b:=by
 have hn:b.num≠0:=λe=>h (Rat.num_eq_zero.1 e)
 unfold Sa;rw[if_neg (X9 (Dt a) hn),<-Wz,Z9,Yp];congr 1
 conv=>rhs;rw[<-Z9 b,Rat.inv_divInt]
theorem Qvh{s:Nat}{a b:Rat}(ha:Qs s a)(hb:Qs s b):Qs (2*s+1) (a+b):=by
 rw[<-qP];unfold Sa;rw[if_neg (X9 (Dt a) (Dt b))];refine Qs.divInt (Qe (KP _ _) ?_) (Qe (Ho _ _) (by have:=ha.2;have:=hb.2;omega)) (by omega);have h1:=Ho a.num (b.den:Int);have h2:=Ho b.num (a.den:Int);have:=ha.1;have:=ha.2;have:=hb.1;have:=hb.2;omega
theorem yD{z:Int}(hz:Gy z<=100000000):Fo 246 [.agg (Sj z)] [.agg (ri z)]:=by
 have hl:(Hx z.natAbs).length<=1099511627776:=by have h2:32*(Hx z.natAbs).length<=100000000+31:=P8 hz;omega
 have h:=Qn5 (l:=Hx z.natAbs) (λu hu=>(A9 _).1 u hu) hl (by rw[Rm];exact hz);rw[Rm]at h;have hm:=Oc (decide (z<0)) z.natAbs;have e:Gv (decide (z<0)) z.natAbs=z:=by unfold Gv;by_cases h:z<0 <;> simp[h] <;> omega
 rw[e]at hm;exact Fi func246 rfl [.k h,.k hm] rfl
theorem oV{z:Int}:Fo 266 [.agg (ri z)] [.oi (Int.sign z)]:=by
 have hn:=GM (x:=z.natAbs);have hl:=UM z.natAbs;rcases Yg z 0 with h|h|h
 ·rw[Ju h];exact Fi func266 rfl [.f (by simp only[S7];exact decide_eq_false (by omega)),.t (decide_eq_true h)] rfl
 ·subst h;exact Fi func266 rfl [.t (by simp only[S7];show decide (((Hz 0).length:Int)=0)=true;rw[To];rfl)] rfl
 ·rw[Ye h];exact Fi func266 rfl [.f (by simp only[S7];exact decide_eq_false (by omega)),.F] rfl
theorem bN{a b:Int}(ha:Gy a<=200000000)(hb:Gy b<=200000000):Fo 220 [.agg (ri a),.agg (ri b)] [.agg (ri (a+b))]:=by
 by_cases hs:(decide (a<0) == decide (b<0))=true
 ·have cm:=Oc (decide (a<0)) (a.natAbs+b.natAbs);rw[Qq5 hs]at cm;exact Fi func220 rfl [.t hs,.k (Qtl ha hb),.k cm] rfl
 ·have hs':(decide (a<0) == decide (b<0))=false:=by simpa using hs
  by_cases hl:b.natAbs<=a.natAbs
  ·have cm:=Oc (decide (a<0)) (a.natAbs-b.natAbs);rw[Qq7 hs hl]at cm;exact Fi func220 rfl [.f hs',.k (bW ha hb),.t (decide_eq_true (Qad.2 hl)),.k (bT ha hb hl),.k cm] rfl
  ·have cm:=Oc (decide (b<0)) (b.natAbs-a.natAbs);rw[Ql3 hs hl]at cm;exact Fi func220 rfl [.f hs',.k (bW ha hb),.f (decide_eq_false λh=>hl (Qad.1 h)),.k (bT hb ha (by omega)),.k cm] rfl
theorem Qg7{a b:Int}(ha:Gy a<=200000000)(hb:Gy b<=200000000):Fo 346 [.agg (ri a),.agg (ri b)] [.agg (ri (a-b))]:=by
 have ca:=bN (a:=a) (b:=-b) ha (by rw[T0];exact hb);rw[show a+-b=a-b from by omega]at ca;exact Fi func346 rfl [.k (XS (z:=b)),.k ca] rfl
theorem Bh{a b:Int}(ha:Gy a<=200000000)(hb:Gy b<=200000000):Fo 221 [.agg (ri a),.agg (ri b)] [.agg (ri (a*b))]:=by
 have cm:=Oc (!(decide (a<0) == decide (b<0))) (a.natAbs*b.natAbs);rw[RD]at cm;exact Fi func221 rfl [.k (Qtp ha hb),.k cm] rfl
theorem Qtw{a b:Int}(ha:Gy a<=200000000)(hb:Gy b<=200000000):Fo 314 [.agg (ri a),.agg (ri b)] [.oi (Ac a b)]:=by
 have h:=oV (z:=a-b);rw[Qma]at h;exact Fi func314 rfl [.k (Qg7 ha hb),.k h] rfl
theorem SJ{a b:Int}(ha:Gy a<=90000000)(hb:Gy b<=90000000)(h0:b≠0)(hd:a % b=0):Fo 252 [.agg (ri a),.agg (ri b)] [.agg (ri (a / b))]:=by
 have cm:=Oc (!(decide (a<0) == decide (b<0))) (a.natAbs / b.natAbs);rw[Qq6 hd]at cm;exact Fi func252 rfl [.k (Qgj ha hb (by omega)),.k cm] rfl
theorem Qvl(x:Nat):ri ((x:Nat):Int)=[nd x,.bool false]:=by
 unfold ri sg;rw[Zw,decide_eq_false (by omega)]
theorem LK{a b:Int}(ha:Gy a<=90000000)(hb:Gy b<=90000000):Fo 251 [.agg (ri a),.agg (ri b)] [.agg (ri ((Int.gcd a b:Nat):Int))]:=by
 rw[Qvl];refine Sk func251 rfl ?_;refine Ff [] rfl ?_;refine Fl (S:=Nat×Nat) 3 (λL1 s=>(5,.v (.one (nd s.1)))::(6,.v (.one (nd s.2)))::L1) (λ_=>[.blk 32 (ri a),.blk 32 (ri b),.blk 32 [.nils,.bool false]]) (λs=>s.2) (λs=>Nat.gcd s.1 s.2=Int.gcd a b/\sz s.1<=90000000/\sz s.2<=90000000) (a.natAbs,b.natAbs) ⟨rfl,ha,hb⟩ rfl rfl λs hs=>?_
 obtain⟨x,y⟩:=s;obtain⟨hp0,hp1,hp2⟩:=hs;dsimp only at hp0 hp1 hp2 ⊢;have hyn:=GM (x:=y);have hyl:=UM y;by_cases h1:y=0
 ·have e:Int.gcd a b=x:=by rw[<-hp0,h1,Nat.gcd_zero_right]
  rw[e];exact Fh [.f (by simp only[S7];exact decide_eq_false (by omega))] rfl
 ·have hlt:=Xp x (show 0<y by omega);refine Ff [.t (by simp only[S7];exact decide_eq_true (by omega)),.k (Qgj hp1 hp2 (by omega))] rfl ?_;exact rd (y,x % y) (by dsimp only;omega) ⟨by dsimp only;rw[<-hp0,Nat.gcd_comm x y,Nat.gcd_rec y x,Nat.gcd_comm],hp2,Nat.le_trans (Pi (by dsimp only;omega)) hp2⟩ rfl
theorem GK{a b:Int}(ha:Gy a<=90000000)(hb:Gy b<=90000000):Fo 155 [.agg (ri a),.agg (ri b)] [.agg (fr (Sa a b))]:=by
 rcases Yg b 0 with hs|hs|hs
 ·skip
  by_cases h1:-b=1
  ·have h0:(D7 (Hz (-b).natAbs))[0]? = some [LV.int .i64 1]:=by rw[h1,show(1:Int).natAbs=1 from rfl,Of];rfl
   have hl1:decide (((D7 (Hz (-b).natAbs)).length:Int)=1)=true:=by rw[h1,show(1:Int).natAbs=1 from rfl,Of];rfl
   have e:fr (Sa a b)=ri (-a)++ri (-b):=by rw[jS hs,h1];exact(dU _).symm
   rw[e];exact Fi func155 rfl [.k (Di (z:=b)),.F,.t (decide_eq_true hs),.k (XS (z:=a)),.k (XS (z:=b)),.g 19 true hl1,.x h0,.t rfl] rfl
  ·have hgf:=xZ (a:=-a) (b:=-b) (by omega) (by first|exact ha|(rw[T0];exact ha)) (by first|exact hb|(rw[T0];exact hb));have cg:=LK (a:=-a) (b:=-b) (by first|exact ha|(rw[T0];exact ha)) (by first|exact hb|(rw[T0];exact hb));have q1:=SJ (a:=-a) (b:=((Int.gcd (-a) (-b):Nat):Int)) (by first|exact ha|(rw[T0];exact ha)) hgf.1 hgf.2.1 hgf.2.2.1;have q2:=SJ (a:=-b) (b:=((Int.gcd (-a) (-b):Nat):Int)) (by first|exact hb|(rw[T0];exact hb)) hgf.1 hgf.2.1 hgf.2.2.2;have e:fr (Sa a b)=ri ((-a) / ((Int.gcd (-a) (-b):Nat):Int))++ri ((-b) / ((Int.gcd (-a) (-b):Nat):Int)):=by rw[jS hs];exact(dW (by omega)).symm
   rw[e];have hl:=UM (-b).natAbs;by_cases hl1:(Hz (-b).natAbs).length=1
   ·obtain⟨u,hu⟩:=gxE (l:=(Hz (-b).natAbs)) (i:=0) (by omega);have hue:=EY hl1 hu;exact Fi func155 rfl [.k (Di (z:=b)),.F,.t (decide_eq_true hs),.k (XS (z:=a)),.k (XS (z:=b)),.g 19 true (by simp only[S7];exact decide_eq_true (by omega)),.x (Ri hu),.F,.k cg,.k q1,.k q2] rfl
   ·exact Fi func155 rfl [.k (Di (z:=b)),.F,.t (decide_eq_true hs),.k (XS (z:=a)),.k (XS (z:=b)),.g 19 false (by simp only[S7];exact decide_eq_false (by omega)),.f rfl,.k cg,.k q1,.k q2] rfl
 ·subst hs;have h0:(D7 (Hz (1:Int).natAbs))[0]? = some [LV.int .i64 1]:=by rw[show(1:Int).natAbs=1 from rfl,Of];rfl
  have h1:decide (((D7 (Hz (1:Int).natAbs)).length:Int)=1)=true:=by rw[show(1:Int).natAbs=1 from rfl,Of];rfl
  have e:fr (Sa a 0)=ri a++ri 1:=(dU a).symm;rw[e];exact Fi func155 rfl [.k (Di (z:=0)),.t rfl,.k (Aj (n:=1) (by decide)),.f rfl,.g 19 true h1,.x h0,.t rfl] rfl
 ·skip
  by_cases h1:b=1
  ·have h0:(D7 (Hz (b).natAbs))[0]? = some [LV.int .i64 1]:=by rw[h1,show(1:Int).natAbs=1 from rfl,Of];rfl
   have hl1:decide (((D7 (Hz (b).natAbs)).length:Int)=1)=true:=by rw[h1,show(1:Int).natAbs=1 from rfl,Of];rfl
   have e:fr (Sa a b)=ri (a)++ri (b):=by rw[MZ hs,h1];exact(dU _).symm
   rw[e];exact Fi func155 rfl [.k (Di (z:=b)),.F,.F,.g 19 true hl1,.x h0,.t rfl] rfl
  ·have hgf:=xZ (a:=a) (b:=b) (by omega) (by first|exact ha|(rw[T0];exact ha)) (by first|exact hb|(rw[T0];exact hb));have cg:=LK (a:=a) (b:=b) (by first|exact ha|(rw[T0];exact ha)) (by first|exact hb|(rw[T0];exact hb));have q1:=SJ (a:=a) (b:=((Int.gcd (a) (b):Nat):Int)) (by first|exact ha|(rw[T0];exact ha)) hgf.1 hgf.2.1 hgf.2.2.1;have q2:=SJ (a:=b) (b:=((Int.gcd (a) (b):Nat):Int)) (by first|exact hb|(rw[T0];exact hb)) hgf.1 hgf.2.1 hgf.2.2.2;have e:fr (Sa a b)=ri ((a) / ((Int.gcd (a) (b):Nat):Int))++ri ((b) / ((Int.gcd (a) (b):Nat):Int)):=by rw[MZ hs];exact(dW (by omega)).symm
   rw[e];have hl:=UM (b).natAbs;by_cases hl1:(Hz (b).natAbs).length=1
   ·obtain⟨u,hu⟩:=gxE (l:=(Hz (b).natAbs)) (i:=0) (by omega);have hue:=EY hl1 hu;exact Fi func155 rfl [.k (Di (z:=b)),.F,.F,.g 19 true (by simp only[S7];exact decide_eq_true (by omega)),.x (Ri hu),.F,.k cg,.k q1,.k q2] rfl
   ·exact Fi func155 rfl [.k (Di (z:=b)),.F,.F,.g 19 false (by simp only[S7];exact decide_eq_false (by omega)),.f rfl,.k cg,.k q1,.k q2] rfl
theorem Qr7{n d:Int}(hn:-1000000000<=n/\n<=1000000000)(hd:-1000000000<=d/\d<=1000000000):Fo 101 [.oi n,.oi d] [.agg (fr (Sa n d))]:=by
 have b1:Gy n<=90000000:=Qe (Pn.2 (show n.natAbs<2^40 by omega)) (by decide);have b2:Gy d<=90000000:=Qe (Pn.2 (show d.natAbs<2^40 by omega)) (by decide);exact Fi func101 rfl [.k (Aj (by omega)),.k (Aj (by omega)),.k (GK b1 b2)] rfl
theorem Qgn{a:Rat}:Fo 154 [.agg (fr a)] [.agg (fr (-a))]:=by
 have e:fr (-a)=ri (-a.num)++ri (a.den:Int):=rfl;rw[e];exact Fi func154 rfl [.k (XS (z:=a.num))] rfl
theorem yB{a b:Rat}(ha:Qs 20000000 a)(hb:Qs 20000000 b):Fo 100 [.agg (fr a),.agg (fr b)] [.agg (fr (a+b))]:=by
 have k1:=Ho a.num (b.den:Int);have k2:=Ho b.num (a.den:Int);have k3:=Ho (a.den:Int) (b.den:Int);have k4:=KP (a.num*(b.den:Int)) (b.num*(a.den:Int));have h1:=ha.1;have h2:=ha.2;have h3:=hb.1;have h4:=hb.2;have cm:=GK (a:=a.num*(b.den:Int)+b.num*(a.den:Int)) (b:=(a.den:Int)*(b.den:Int)) (by omega) (by omega);rw[qP]at cm;exact Fi func100 rfl [.k (Bh (a:=a.num) (b:=(b.den:Int)) (by omega) (by omega)),.k (Bh (a:=b.num) (b:=(a.den:Int)) (by omega) (by omega)),.k (bN (by omega) (by omega)),.k (Bh (a:=(a.den:Int)) (b:=(b.den:Int)) (by omega) (by omega)),.k cm] rfl
theorem bG{a b:Rat}(ha:Qs 40000000 a)(hb:Qs 40000000 b):Fo 171 [.agg (fr a),.agg (fr b)] [.agg (fr (a*b))]:=by
 have k1:=Ho a.num b.num;have k3:=Ho (a.den:Int) (b.den:Int);have h1:=ha.1;have h2:=ha.2;have h3:=hb.1;have h4:=hb.2;have cm:=GK (a:=a.num*b.num) (b:=(a.den:Int)*(b.den:Int)) (by omega) (by omega);rw[xH]at cm;exact Fi func171 rfl [.k (Bh (a:=a.num) (b:=b.num) (by omega) (by omega)),.k (Bh (a:=(a.den:Int)) (b:=(b.den:Int)) (by omega) (by omega)),.k cm] rfl
theorem yA{a b:Rat}(ha:Qs 40000000 a)(hb:Qs 40000000 b)(h0:b≠0):Fo 261 [.agg (fr a),.agg (fr b)] [.agg (fr (a / b))]:=by
 have k1:=Ho a.num (b.den:Int);have k3:=Ho (a.den:Int) b.num;have h1:=ha.1;have h2:=ha.2;have h3:=hb.1;have h4:=hb.2;have cm:=GK (a:=a.num*(b.den:Int)) (b:=(a.den:Int)*b.num) (by omega) (by omega);rw[jT h0]at cm;exact Fi func261 rfl [.k (Bh (a:=a.num) (b:=(b.den:Int)) (by omega) (by omega)),.k (Bh (a:=(a.den:Int)) (b:=b.num) (by omega) (by omega)),.k cm] rfl
theorem GV{a b:Rat}(ha:Qs 40000000 a)(hb:Qs 40000000 b):Fo 201 [.agg (fr a),.agg (fr b)] [.oi (Tn a b)]:=by
 have k1:=Ho a.num (b.den:Int);have k2:=Ho b.num (a.den:Int);have h1:=ha.1;have h2:=ha.2;have h3:=hb.1;have h4:=hb.2;exact Fi func201 rfl [.k (Bh (a:=a.num) (b:=(b.den:Int)) (by omega) (by omega)),.k (Bh (a:=b.num) (b:=(a.den:Int)) (by omega) (by omega)),.k (Qtw (a:=a.num*(b.den:Int)) (b:=b.num*(a.den:Int)) (by omega) (by omega))] rfl
def YX(sg:Ft->Int)(l:Fu)(i:Nat):Nat×Int:=(l.take i).foldl (M8 sg) (0,0)
theorem uL{sg:Ft->Int}(hs:∀p,-1<=sg p/\sg p<=1)(l:Fu):∀i,(YX sg l i).1<=i/\-1<=(YX sg l i).2/\(YX sg l i).2<=1
 | 0=>⟨Qn _,show(-1:Int)<=0 by decide,show(0:Int)<=1 by decide⟩
 |
  i+1=>by
  obtain⟨h1,h2,h3⟩:=uL hs l i;cases h:l[i]? with
  |
   none =>
   have:YX sg l (i+1)=YX sg l i:=by unfold YX;rw[List.take_of_length_le (by have:=List.getElem?_eq_none_iff.1 h;omega),List.take_of_length_le (List.getElem?_eq_none_iff.1 h)]
   rw[this];omega
  |
   some p =>
   have:YX sg l (i+1)=M8 sg (YX sg l i) p:=Mi _ _ _ h;rw[this];have:=hs p;unfold M8
   split
   ·omega
   ·dsimp only;split <;> omega
theorem Qoj{l:Fu}{fid:Nat}{l1:Fy}{sg:Ft->Int}(hl:l.length≤1000)(hs:∀p,-1≤sg p/\sg p≤1)(h:∀p∈l,yT prog fid [pr p,.one (.sh l1)] [.oi (sg p)]):Fo 398 [.one (.sh [.row (I1 l)]),.one (.fn fid [] [.sh l1])] [.oi (XV sg l:Nat)]:=by
 have Ee:=jX l;refine Sk func398 rfl ?_;refine Ff [] rfl ?_;refine Fl (S:=Nat) 0 (λL1 i=>(15,.v (.oi i))::(5,.v (.oi ((YX sg l i).1:Int)))::(6,.v (.one (.int .i64 (YX sg l i).2)))::L1) (λ_=>[]) (λi=>l.length-i) (λi=>i<=l.length) 0 (Qh _) rfl rfl λi hi=>?_
 by_cases hlt:i<l.length
 ·obtain⟨p,hp⟩:=gxE (l:=l) (i:=i) hlt;have hst:YX sg l (i+1)=M8 sg (YX sg l i) p:=Mi _ _ _ hp;obtain⟨b1,b2,b3⟩:=uL hs l i;have b4:=hs p;by_cases h0:sg p=0
  ·refine Fg [.t (by simp[Ee];omega),.x (Eo hp),.k (h p (Qa hp)),.t (by simpa using h0)] rfl ?_;exact rd (i+1) (by omega) hlt (by rw[hst,show M8 sg (YX sg l i) p=YX sg l i from by unfold M8;rw[if_pos h0]];rfl)
  ·by_cases h1:(YX sg l i).2=-(sg p)
   ·refine Fg [.t (by simp[Ee];omega),.x (Eo hp),.k (h p (Qa hp)),.f (by simpa using h0),.t (by simpa using h1)] rfl ?_;exact rd (i+1) (by omega) hlt (by rw[hst,show M8 sg (YX sg l i) p=((YX sg l i).1+1,sg p) from by unfold M8;rw[if_neg h0,if_pos h1]];rfl)
   ·refine Fg [.t (by simp[Ee];omega),.x (Eo hp),.k (h p (Qa hp)),.f (by simpa using h0),.f (by simpa using h1)] rfl ?_;exact rd (i+1) (by omega) hlt (by rw[hst,show M8 sg (YX sg l i) p=((YX sg l i).1,sg p) from by unfold M8;rw[if_neg h0,if_neg h1]];rfl)
 ·obtain rfl:i=l.length:=by omega
  refine Fh [.f (by simp[Ee])] rfl ?_ trivial;unfold YX XV;rw[List.take_length]
theorem Qgz{p:Ft}{q:Rat}(hp:Pb p)(hq:Qb q):Fo 399 [pr p,.one (.sh (rl q))] [.oi (Hq p q)]:=Fi func399 rfl [.k (BV hp hq)] rfl
theorem iD{l:Fu}{q:Rat}(hl:l.length≤1000)(hp:∀p∈l,Pb p)(hq:Qb q):Fo 370 [.one (.sh [.row (I1 l)]),.agg (rl q)] [.oi (Be l q:Nat)] :=
 Fi func370 rfl [.k (Qoj (fid:=399) (l1:=rl q) (sg:=λp=>Hq p q) hl (λp=>I3 p q) λp h=>Qgz (hp p h) hq)] rfl
theorem TK{sg:Ft->Int}(hs:∀p,-1<=sg p/\sg p<=1)(l:Fu):XV sg l<=l.length:=by
 have:=(uL hs l l.length).1;unfold YX at this;rwa[List.take_length]at this
theorem Qda{l:Fu}{lo hi:Rat}(hl:l.length≤1000)(hp:∀p∈l,Pb p)(ql:Qb lo)(qh:Qb hi):Fo 293 [.one (.sh [.row (I1 l)]),.agg (rl lo),.agg (rl hi)] [.oi (Rf l lo hi)]:=by
 have b1:Be l lo<=l.length:=TK (λp=>I3 p lo) l;have b2:Be l hi<=l.length:=TK (λp=>I3 p hi) l;have c1:=LP qh.s31 ql.s31;unfold Rf;by_cases h:Tn hi lo<0
 ·rw[if_pos h];exact Fi func293 rfl [.k c1,.t (by simpa using h)] rfl
 ·rw[if_neg h];exact Fi func293 rfl [.k c1,.f (by simpa using h),.k (iD hl hp ql),.k (iD hl hp qh)] rfl rfl (by simp[Ge];omega)
theorem Qn4{p:Ft}{a:Tm}{s:Int}(hp:Pb p)(ha:Tb a)(h:UK p a=some s):Fo 190 [pr p,.agg (ta a)] [.oi s]:=by
 have ca:=Qoi ha;have pa:=GR ha;have cn:=Ml hp.t hp.ln hp.bd;unfold UK at h;by_cases h0:p.length=0
 ·rw[if_pos h0]at h;injection h with h;subst h;exact Fi func190 rfl [.k cn,.k ca,.t (by simp;exact Qf h0)] rfl
 rw[if_neg h0]at h;have h0:p≠[]:=λe=>h0 (by rw[e];rfl)
 by_cases h1:a.point=true
 ·rw[if_pos h1]at h;injection h with h;subst h;exact Fi func190 rfl [.k cn,.k ca,.f (by simpa using h0),.k pa,.t h1,.k (BV hp ha.lo)] rfl
 rw[if_neg h1]at h;have h1:a.point=false:=by simpa using h1
 obtain⟨g,g1,h⟩:=Qk.1 h;have cg:=Qtr hp ha.p g1;have pg:=Qvd hp ha.p g1;have ch:=Qt1 pg ha.lo ha.hi;by_cases G:1<g.length/\BW g a.lo a.hi=true
 ·rw[if_pos G]at h;injection h with h;subst h;exact Fi func190 rfl [.k cn,.k ca,.f (by simpa using h0),.k pa,.f h1,.k cg,.k (Ig g),.g 29 true (by simp;omega),.k ch,.t G.2] rfl
 rw[if_neg G]at h;obtain⟨c,c1,h⟩:=Qk.1 h;obtain⟨u,u1,h⟩:=Qk.1 h;injection h with h;subst h;obtain⟨cl,call⟩:=chain_ok hp c1;obtain⟨n,hn⟩:=nmE (64+2*(Gy a.lo.num+Gy a.hi.num)+4*(a.p.length+p.length)*(Tw a.p+Tw p+(a.p.length+p.length)+8));have cst:=Qht ha hp;rw[show aR p a=n from hn.symm]at cst;rw[<-hn]at u1;have hnb:n<=17179938816+200000000:=by
  have l1:=ha.p.l;have l2:=hp.l;have b1:=ha.lo.1;have b2:=ha.hi.1;have s1:Tw a.p<=16777216:=by have:=I4 ha.p.b a.p.length;rwa[Za]at this
  have s2:Tw p<=16777216:=by have:=I4 hp.b p.length;rwa[Za]at this
  have:4*(a.p.length+p.length)*(Tw a.p+Tw p+(a.p.length+p.length)+8)<=512*33554568:=Xl (by omega) (by omega);omega
 refine Sk func190 rfl ?_;refine Ff [.k cn,.k ca,.f (by simpa using h0),.k pa,.f h1,.k cg] rfl ?_;refine ct 2 (S:=Unit) (λ_=>[(3,.v (.one (.ow 0 0))),(0,.v (pr p))]) (λ_=>[.blk 59 (ta a)]) (λ_=>True) rfl ?_ ?_
 ·by_cases G1:1<g.length
  ·exact go tt [.k (Ig g),.g 29 true (by simp;omega),.k ch,.f (by simpa using λh=>G ⟨G1,h⟩)] rfl trivial (rc () trivial rfl)
  ·exact go tt [.k (Ig g),.g 29 false (by simp;omega),.f rfl] rfl trivial (rc () trivial rfl)
 rintro _ _
 refine Ff [.k (Qtt hp c1),.k cst] rfl ?_;refine Fl (S:=Nat×Tm) 1 (λL1 s=>(46,.v (.oi (s.1:Int)))::L1) (λs=>[.blk 59 (ta s.2)]) (λs=>n-s.1) (λs=>s.1<=n/\Tb s.2/\sgF c (n-s.1) s.2=some u) (0,a) ⟨Qh _,ha,u1⟩ rfl rfl λ⟨i,x⟩ ⟨j1,j2,j3⟩=>?_
 dsimp only at j1 j2 j3 ⊢;by_cases hi:i<n
 ·obtain⟨k,hk⟩:∃k,n-i=k+1:=⟨n-i-1,by omega⟩;have hk':n-(i+1)=k:=by omega
  rw[hk]at j3;simp only[sgF]at j3;have px:=GR j2;have cb:=Qda (by omega) call j2.lo j2.hi;have hlt:decide ((i:Int)<(n:Int))=true:=by simp;omega
  by_cases X:x.point=true
  ·rw[if_pos (.inl X)]at j3;injection j3 with j3;subst j3;exact Fh [.t hlt,.k px,.g 50 true X,.t rfl,.k (BV hp j2.hi)] rfl
  ·have X':x.point=false:=by simpa using X
   by_cases Z:Rf c x.lo x.hi=0
   ·rw[if_pos (.inr Z)]at j3;injection j3 with j3;subst j3;exact Fh [.t hlt,.k px,.g 50 false X',.k cb,.t (by simpa using Z),.k (BV hp j2.hi)] rfl
   ·rw[if_neg (by rintro (h|h);exact X h;exact Z h)]at j3;obtain⟨v,v1,v2⟩:=Qk.1 j3;refine Fg [.t hlt,.k px,.g 50 false X',.k cb,.f (by simpa using Z),.k (Qt0 j2 v1)] rfl ?_;exact rd (i+1,v) (by dsimp only;omega) ⟨hi,Qrh j2 v1,by dsimp only;rw[hk'];exact v2⟩ rfl
 ·obtain rfl:i=n:=by omega
  rw[J4]at j3;simp only[sgF]at j3;injection j3 with j3;subst j3;exact Fh [.f (by simp),.k (BV hp j2.hi)] rfl
end Orr
namespace Orq
open Orr Go
theorem Qsx{c:Rat->Int}(hc:Cut c):∀(n:Nat) (f:Fw),HD f n->∃s,s≠0/\RS f c s
 |
  n,f,h=>by
  rcases JR hc f with hv|⟨s,hs,hn⟩
  ·cases n with
   |
    zero =>
    exfalso;obtain⟨q,hq,_⟩:=IF hc (hv (Gw (f.getD 0 0)) (L8 h.1));cases f with
    |nil=>exact h.1 (by simp)
    |
     cons a l =>
     have:=E3 (p:=l) λk=>by have:=h.2 (k+1) (by omega);rwa[Q0]at this
     simp only[ev,this,Zr]at hq;grind
   |
    succ n =>
    have hd:HD (Cx f) n:=by
     have key:∀(f:Fw) (k:Nat),(Cx f).getD k 0=((k+1:Nat):Rat)*f.getD (k+1) 0:=by
      intro f
      induction f with
      |nil=>intro k;simp only[Cx,Wu];grind
      |
       cons a f ih =>
       intro k;simp only[Cx];rw[Ss,Q0];cases k with
       |zero=>rw[Zr];push_cast;grind
       |succ k=>rw[Q0,ih];push_cast;grind
     refine⟨λh0=>?_,λk hk=>by rw[key,h.2 (k+1) (by omega)];grind⟩;rw[key]at h0;rcases Xn.1 h0 with h1|h1
     ·have:=nat_pos (show 0<n+1 by omega);grind
     ·exact h.1 h1
    obtain⟨s,hs,h1⟩:=Qsx hc n (Cx f) hd;exact⟨s,hs,uK hc hv h1 hs⟩
  ·exact⟨s,hs,jC hc hn⟩
theorem Qln{c:Rat->Int}(hc:Cut c){f p q:Fw}{s s':Int}(hf:∀t,ev f t=ev p t*ev q t)(h:RS p c s)(h':RS q c s'):RS f c (s*s'):=by
 obtain⟨y,h1,h2⟩:=h;obtain⟨y',h3,h4⟩:=h';refine⟨if y<=y' then y else y',by split <;> assumption,λz z1 z2=>?_⟩;rw[hf,Mp,h2 z z1 (by clear h2 h4;grind),h4 z z1 (by clear h2 h4;grind)]
theorem Qlo{c:Rat->Int}(hc:Cut c){f o S:Fw}{k:Rat}(hk:k≠0)(hf:∀t,ev f t=k*(ev o t*(ev S t*ev S t)))(hnz:¬∀t,ev f t=0){s:Int}(h:RS o c s):RS f c (Gt k*s):=by
 obtain⟨n,_,hn⟩:∃n,n<S.length/\HD S n:=by
  rcases NX S with h1|h1
  ·exact absurd (λt=>by rw[hf,h1];grind) hnz
  ·exact h1
 obtain⟨s',hs',h'⟩:=Qsx hc n S hn;have h1:=Qln hc (f:=H7 S S) (λt=>Gj t _ _) h' h';have h2:=Qln hc (f:=H7 o (H7 S S)) (λt=>Gj t _ _) h h1;have hsq:s'*s'=1:=by
  obtain⟨y,y1,y2⟩:=h';have:=y2 y y1 Ql;rcases Hf (ev S y)with⟨e,_⟩|⟨e,_⟩|⟨e,_⟩
  ·rw[<-this,e];rfl
  ·omega
  ·rw[<-this,e];rfl
 rw[hsq,Ui]at h2;obtain⟨y,y1,y2⟩:=h2;exact⟨y,y1,λz z1 z2=>by
  have:=y2 z z1 z2;rw[Gj,Gj]at this;rw[hf,Mp,this]⟩
structure Cp(p:List Int):Prop where
 t:Gh p
 l:p.length<=9
 b:Bd 1110 p
theorem Cp.dp{p:Ft}(h:Cp p):Dp p:=⟨h.t,h.l,Gd h.b (by omega)⟩
theorem Cp.ok{p:Ft}(h:Cp p)(h0:p.length≠0):Okp 9 1180 p:=h.dp.ok h0
def Leq(a:Tm)(c:Rat->Int):Prop:=∀q,c q=-1->Hl a q=-1
def I9(p:Ft)(a:Tm):Option Tm->Prop
 |none=>p=[]\/∃s,s≠0/\∀c,Cut c->Leq a c->RS (cz p) c s
 |some t=>p≠[]/\Va t/\WC a t/\∃s,s≠0/\(∀c,Cut c->Leq a c->(∃m,c m=-1/\Hl t m=1)->RS (cz p) c s)/\RS (cz p) (Hl t) (-s)
theorem RI.len{q:Ft}{L:Fx}{lo hi:Rat}{l:List Tm}(h:RI q L lo l hi):l.length+vv L hi<=vv L lo:=by
 induction h with
 |nil h hv=>simp;omega
 |cons h hv ht hp hl ih=>have:=ht.v;simp only[Zf];omega
theorem Qmq(x:Rat):∀(L:Fx) (s:Int),tc x s L<=L.length
 | [],_=>Qn _
 |
  f::l,s=>by
  have h1:=Qmq x l;simp only[tc,Zf]
  repeat' split
  all_goals (first|(have:=h1 s;omega)|(have:=h1 (Gt (ev f x));omega))
theorem Qmz(L:Fx)(x:Rat):vv L x<=L.length:=Qmq x L 0
theorem nY{p:Ft}(h:Cp p):∃l,OL p=some l/\l.length≤67/\(∀t∈l,Va t)/\∀a,Va a->∃r,xT a l=some r/\I9 p a r/\∀t,r=some t->t∈l:=by
 unfold OL;by_cases h0:p.length=0
 ·have e:p=[]:=Qf h0;subst e;exact⟨[],rfl,by decide,(λt ht=>by cases ht),λa _=>⟨none,rfl,.inl rfl,λt ht=>by cases ht⟩⟩
 ·obtain⟨qp,o,q1,o1,hpt⟩:=wJ (n:=9) (s:=1110) (p:=p) ⟨⟨by decide,by decide⟩,h.t,h0,h.l,h.b⟩;obtain⟨g,sq⟩:=hpt.sq;obtain⟨S,hS⟩:=hpt.os;obtain⟨p1,p2,p3,p4,p5,p6,p7⟩:=M6 h.t h0;have Ee:=h.l;obtain⟨hh,th,eh⟩:=hpt.oh;have bo:Bd 1179 o:=Ad (p5 1110 h.b) (by omega) p1 hpt.ot th (by omega) eh;obtain⟨lo1,lo2⟩:=Rp p1 (by omega) eh;have hlen:=S8 hpt.ot th p1 eh lo1 lo2;have oko:Okp 9 1180 o:=⟨CH,hpt.ot,by omega,by omega,Gd bo (by omega)⟩;obtain⟨q,c,l,r1,r2,r3,hSt,hRI,hVa,hout⟩:=Qll oko;obtain⟨g',q',s1,s2⟩:=Ic oko;rw[r1]at s1;injection s1 with s1;subst s1;obtain⟨_,_,_,_,_,o6,o7⟩:=M6 hpt.ot (by omega);have hg1:g'=[1]:=by
   refine s2.pg.one ?_;obtain⟨E,hE⟩:=hpt.oq;have hE:∀t,Gf qp t=Gf o t*ev E t:=λt=>by have:=hE t;rwa[Gg,Gg]at this
   obtain⟨z,hz⟩:=s2.d;have hd1:∀t,Gf o t=Gf g' t*(Rl o*Gf q t):=λt=>by rw[o7,s2.e];grind
   have hdo:∀t,dv (cz o) t=Gf g' t*(Rl o*ev z t):=λt=>by
    have:=Qii (p:=cz o) (q:=Nk (Rl o) (cz (Gm o))) (λt=>by rw[Gg,Hd,Gg,o7]) t;rw[this,SN,hz];grind
   obtain⟨k,hk,hkk⟩:=sq.num (d:=cz g') ⟨H7 (Nk (Rl o) (cz q)) E,λt=>by rw[Gg,Gg,hE,hd1,Gj,Hd,Gg];grind⟩ ⟨So (H7 (Nk (Rl o) z) E) (H7 (Nk (Rl o) (cz q)) (Cx E)),λt=>by
    have:=Oz (f:=cz qp) (w:=cz o) (u:=E) (λt=>by rw[Gg,Gg,hE]) t;rw[Sw,this,hdo,Gg,Gg,hd1,Hm,Gj,Gj,Hd,Hd,Sw,Gg];grind⟩
   rcases Q8 g'.length 2 with e|e
   ·exact e
   ·exfalso;have h1:=(WO s2.pg.t (by omega)).1;have h2:=Lp (p:=cz g') (q:=[k]) (λt=>by rw[hkk];simp only[ev];grind) (g'.length-1);rw[h2,Qc,Qt (by simp;omega)]at h1;exact h1 rfl
  have hpq:∀t,ev (cz p) t=((Rl p:Rat)*(Rl o:Rat))*(ev (cz q) t*(ev S t*ev S t)):=λt=>by
   rw[Gg,Gg,p7,hS,o7,s2.e,hg1,Ru];grind
  have hk0:(Rl p:Rat)*(Rl o:Rat)≠0:=λh=>(Xn.1 h).elim (O5 p6) (O5 o6)
  have hpz:¬∀t,ev (cz p) t=0:=λh'=>JC h.t (by omega) λt=>by rw[<-Gg];exact h' t
  obtain⟨k,hk⟩:=nmE (Gt ((Rl p:Rat)*(Rl o:Rat)));have hkn:k≠0:=λh=>hk0 (Ha.1 (by rw[<-hk];exact h))
  have ho:o.length≠0:=by omega
  rw[o1];show ∃l,(if o.length=0 then some []else OK o)=some l/\l.length<=67/\_;rw[if_neg ho];have hb1:=QT (Lq s2.pq.t s2.pq.n);have hll:=hRI.len;have hlv:=Qmz (c.map cz) (-Hw q);have hcl:=(Orr.chain_ok (p:=o) ⟨hpt.ot,by omega,Gd bo (by omega)⟩ r2).1;rw[Q4]at hlv;refine⟨l,r3,by omega,hVa,λa ha=>?_⟩;obtain⟨r,n1,n2⟩:=Qep hSt ha hRI hVa (λz hz=>(hout _ _ hz (.inl Ql)).symm) λz _ hz=>by
   rcases Classical.em (z=-Hw q)with e|e
   ·rw[e]
   ·exact hout z _ (by grind) (.inr Ql)
  refine⟨r,n1,?_,λt ht=>by subst ht;exact n2.1⟩;cases r with
  |
   none =>
   obtain⟨s,hs,hz⟩:=n2;refine .inr ⟨k*s,X9 hkn hs,λc hc hac=>?_⟩;obtain⟨y,hy⟩:=hc.hi;have h1:RS (cz q) c s:=⟨y,hy,λz z1 _=>hz z (hac z z1)⟩;rw[hk];exact Qlo hc hk0 hpq hpz h1
  |
   some t =>
   obtain⟨hm,hlt,s,hs,hz,hrs⟩:=n2;refine⟨λe=>h0 (by rw[e];rfl),hVa t hm,hlt,k*s,X9 hkn hs,λc hc hac ⟨m,m1,m2⟩=>?_,?_⟩
   ·have h1:RS (cz q) c s:=⟨m,m1,λz z1 z2=>hz z (hac z z1) (by
     rcases Classical.em (z=m)with e|e
     ·rw[e];exact m2
     ·exact(hVa t hm).cut.mono' (q:=z) (r:=m) (by grind) (by omega))⟩
    rw[hk];exact Qlo hc hk0 hpq hpz h1
   ·have:=Qlo (hVa t hm).cut hk0 hpq hpz hrs;rw[<-hk]at this;rw[show -(k*s)=k*-s by rw[K0]];exact this
structure Sz(s n:Nat)(t:Tm):Prop where
 n:t.p.length<=n
 b:Bd (s+138) t.p
 g:∃D M k,Gr D M k t.lo/\Gr D M k t.hi/\0<M/\Gy (D:Int)<=s+138/\Gy (M:Int)<=s+139/\k<=63*s+9507
theorem Qkc{p:Ft}(h:Cp p){a:Tm}(ha:Va a):∃r,xP p a=some r/\I9 p a r:=by
 obtain⟨l,l1,_,_,l3⟩:=nY h;obtain⟨r,r1,r2,_⟩:=l3 a ha;refine⟨r,?_,r2⟩;unfold xP;rw[l1];exact r1
theorem xY:∀(l:List Tm) (b:Tm),(∀t∈b::l,Va t)->∃m,AL b l=some m/\m∈b::l/\∀t∈b::l,¬WC t m
 |
  [],b,h=>⟨b,rfl,Qw ..,λt ht h'=>by
  rw[Qo.1 ht]at h';have hb:=(h b (Qw ..)).cut;exact kM hb hb h' h'⟩
 |
  a::l,b,h=>by
  have ha:=h a (by simp);have hb:=h b (by simp);obtain⟨c,c1,c2⟩:=Qaf ha hb;obtain⟨m,m1,m2,m3⟩:=xY l (if c<0 then a else b) λt ht=>by
   rcases Qj.1 ht with rfl|ht
   ·split <;> assumption
   ·exact h t (by simp[ht])
  refine⟨m,by simp only[AL];rw[c1];exact m1,?_,λt ht=>?_⟩
  ·rcases Qj.1 m2 with e|e
   ·rw[e];split <;> simp
   ·simp[e]
  ·have hm:Va m:=by
    rcases Qj.1 m2 with e|e
    ·rw[e];split <;> assumption
    ·exact h m (by simp[e])
   have hfst:=m3 _ (Qw ..);have tr:∀x y:Tm,Va x->Va y->¬WC x y->¬WC y m->¬WC x m:=λx y hx hy h1 h2 h3=>by
    rcases tri hy.cut hm.cut with h4|h4|h4
    ·exact h2 h4
    ·obtain⟨q,q1,q2⟩:=h3;exact h1 ⟨q,q1,by rw[h4];exact q2⟩
    ·obtain⟨q,q1,q2⟩:=h3;obtain⟨r,r1,r2⟩:=h4;have:=hm.cut.lt q2 r1;exact h1 ⟨q,q1,hy.cut.mono' this (by omega)⟩
   rcases Qj.1 ht with rfl|ht
   ·by_cases hc:c<0
    ·rw[if_pos hc]at hfst;refine tr _ a hb ha ?_ hfst;rcases c2 with⟨_,h'⟩|⟨e,_⟩|⟨e,_⟩
     ·exact λh''=>kM ha.cut hb.cut h' h''
     ·omega
     ·omega
    ·rw[if_neg hc]at hfst;exact hfst
   ·rcases Qj.1 ht with rfl|ht
    ·by_cases hc:c<0
     ·rw[if_pos hc]at hfst;exact hfst
     ·rw[if_neg hc]at hfst;refine tr _ b ha hb ?_ hfst;rcases c2 with⟨e,_⟩|⟨_,h'⟩|⟨_,h'⟩
      ·omega
      ·rintro⟨q,q1,q2⟩
       have:=h' q;omega
      ·exact λh''=>kM ha.cut hb.cut h'' h'
    ·exact m3 t (by simp[ht])
end Orq
namespace Orr
open Go Go.Proofs Tryz Orq
set_option maxRecDepth 10000
theorem Dp.pb{p:Ft}(h:Dp p):Pb p:=⟨h.t,by have:=h.l;omega,Gd h.b (by have:=h.l;omega)⟩
theorem Qw3{p:Ft}{a:Tm}(hp:Dp p)(ha:Va a):Fo 190 [pr p,.agg (ta a)] [.oi (Hb a p)]:=Qn4 (Dp.pb hp) ha.tb (aX hp ha).1
theorem Qwx{p:Ft}{a:Tm}(hp:Dp p)(ha:Va a):Fo 189 [pr p,.one (.sh (ta a))] [.oi (Hb a p)]:=Fi func189 rfl [.k (Qw3 hp ha)] rfl
theorem Qn9{p:Ft}{fid:Nat}{l1:Fy}{sgn:Ft->Int}(hp:Dp p)(h:∀p,Dp p->yT prog fid [pr p,.one (.sh l1)] [.oi (sgn p)]):Fo 188 [pr p,.one (.fn fid [] [.sh l1])] [.oi (Pm sgn p.length p)]:=by
 have hpb:=Dp.pb hp;refine Sk func188 rfl ?_;refine Ff [.k (Ml hpb.t hpb.ln hpb.bd)] rfl ?_;refine Fl (S:=Ft) 0 (λL1 s=>(0,.v (pr s))::L1) (λ_=>[]) (λs=>s.length) (λs=>Dp s/\Pm sgn s.length s=Pm sgn p.length p) p ⟨hp,rfl⟩ rfl rfl λr ⟨j1,j4⟩=>?_
 rw[<-j4];have jb:=Dp.pb j1;by_cases h0:r.length=0
 ·have e:=YA sgn h0;rw[e];exact Fh [.f (by simp;exact Qf h0)] rfl
 ·have hs:=h r j1;by_cases hz:sgn r=0
  ·have hlp:=Pw r;refine Ff [.t (by simp;omega),.k hs,.f (by simpa using hz),.k (KQ jb.ln jb.bd)] rfl ?_;exact rd (Hn r) (by omega) ⟨j1.der,by rw[<-YE sgn (by omega) hz]⟩ rfl
  ·rw[YL sgn (by omega) hz];exact Fh [.t (by simp;omega),.k hs,.t (by simpa using hz)] rfl
abbrev gmA(a:Tm)(p:Ft):Int:=Hk (Hb a) p
theorem oK{p:Ft}{a:Tm}(hp:Dp p)(ha:Va a):Fo 79 [pr p,.agg (ta a)] [.oi (gmA a p)] :=
 Fi func79 rfl [.k (Qn9 (sgn:=Hb a) hp λ_ h=>Qwx h ha)] rfl
theorem gI{t:Tm}{a b:Pt}{ps:Fu}(hps:∀p∈ps,Dp p)(ht:Va t)(hl:ps.length<1000):Fo 180 [.agg (ta t),.agg (Sl a),.agg (Sl b),.one (.row (I1 ps))] [.one (.bool (Af (Hb t) a b ps))]:=by
 refine Sk func180 rfl ?_;have Ee:(I1 ps).length=ps.length:=by simp[I1]
 refine Ff [] rfl ?_;refine Fl (S:=Nat) 3 (λL1 i=>(13,.v (.oi i))::L1) (λ_=>[.blk 59 (ta t),.blk 76 (Sl a),.blk 76 (Sl b)]) (λi=>ps.length-i) (λi=>i<=ps.length/\Af (Hb t) a b (ps.drop i)=Af (Hb t) a b ps) 0 ⟨Qh _,rfl⟩ rfl rfl λi ⟨hi,he⟩=>?_
 rw[<-he];by_cases hlt:i<ps.length
 ·obtain⟨p,hp⟩:=gxE (l:=ps) (i:=i) hlt;have hd:ps.drop i=p::ps.drop (i+1):=by
   rw[Xc hlt];rw[Qg hlt]at hp;injection hp with hp;rw[hp]
  have hpb:=hps p (Qa hp);rw[hd]at he ⊢;by_cases h0:0<p.length
  ·exact Fh [.t (by simp[Ee];omega),.x (Eo hp),.t (by simp;omega),.k (oK hpb ht)] rfl (by simp only[Af];rw[if_pos h0]) trivial
  ·refine Fg [.t (by simp[Ee];omega),.x (Eo hp),.f (by simp;exact Qf (by omega))] rfl ?_;exact rd (i+1) (by omega) ⟨hlt,by simp only[Af];rw[if_neg h0]⟩ rfl
 ·have hd:ps.drop i=[]:=Yz (by omega);rw[hd];exact Fh [.f (by simp[Ee];omega)] rfl
structure Sc(k:Crv):Prop where
 n:UF k
 c:Cs 128 3 k
theorem Sc.cb{k:Crv}(h:Sc k):Cb k:=h.c.mono (by omega) (by omega)
theorem C4{a b:Crv}(ha:Sc a)(hb:Sc b):Cp (Hi a b):=by
 refine⟨Gk _ _,?_,Gd (Dh (G9 hb.c.x ha.c.d) (G9 ha.c.x hb.c.d)) (by omega)⟩;have:=Mm (Gs b.x a.d) (Gs a.x b.d);have:=Gz b.x a.d;have:=Gz a.x b.d;have:=ha.c.lx;have:=hb.c.lx;unfold Hi;omega
theorem C3{a b:Crv}(ha:Sc a)(hb:Sc b):Cp (Hh a b):=by
 refine⟨Gk _ _,?_,Gd (Dh (G9 hb.c.y ha.c.d) (G9 ha.c.y hb.c.d)) (by omega)⟩;have:=Mm (Gs b.y a.d) (Gs a.y b.d);have:=Gz b.y a.d;have:=Gz a.y b.d;have:=ha.c.ly;have:=hb.c.ly;unfold Hh;omega
theorem Qs5(q:Rat){P:Prop}(h:(tq q).point=false):P:=by
 have e:(tq q).point=true:=M5.2 Ql;rw[e]at h;cases h
theorem Quv(q:Rat):lim (tq q)=3300000:=by unfold lim;rw[if_pos (M5.2 Rat.le_refl)]
theorem Q0d{q:Rat}(hq:Qs 1640000 q):Va (tq q):=by
 have hd:=q.den_nz;refine⟨.inl ⟨rfl,?_⟩,uB q,by show 2<=9;omega,by show 2<=2;omega,Qr3 (hq.mono (by omega)),Qs5 q,Qs5 q,q.den,q.num.natAbs+1,0,?_,?_,by omega,?_⟩
 ·have e:(q.num:Rat)=q*(q.den:Rat):=by
   have:(q.num:Rat) / (((q.den:Int)):Rat)=q:=by rw[Tt,Z9]
   have h2:(q.num:Rat) / (q.den:Rat)*(q.den:Rat)=q.num:=Zc (by have:=Orq.nat_pos q.den_pos;grind);rw[show(q.num:Rat) / (q.den:Rat)=q from this]at h2;exact h2.symm
  show Gf [-q.num,(q.den:Int)] q=0;simp only[Gf];rw[Ka,e,show(((q.den:Int)):Rat)=(q.den:Rat) from rfl];grind
 all_goals first|(have h1:Gy (q.den:Int)<=1640000:=hq.2;have h2:Gy ((q.num.natAbs+1:Nat):Int)<=1640001:=Qeh hq.1;rw[Quv];omega)|skip
 all_goals
  refine⟨⟨q.num,?_⟩,?_,q.den_pos⟩
  ·rw[Ve,Y0];have:(q.num:Rat) / (((q.den:Int)):Rat)=q:=by rw[Tt,Z9]
   have h2:(q.num:Rat) / (q.den:Rat)*(q.den:Rat)=q.num:=Zc (by have:=Orq.nat_pos q.den_pos;grind);rw[show(q.num:Rat) / (q.den:Rat)=q from this]at h2;exact h2
  ·have h1:Gw q<=Gw (q.num:Rat):=by
    have e:(q.num:Rat)=q*(q.den:Rat):=by
     have:(q.num:Rat) / (((q.den:Int)):Rat)=q:=by rw[Tt,Z9]
     have h2:(q.num:Rat) / (q.den:Rat)*(q.den:Rat)=q.num:=Zc (by have:=Orq.nat_pos q.den_pos;grind);rw[show(q.num:Rat) / (q.den:Rat)=q from this]at h2;exact h2.symm
    rw[e,Ay];have hd1:(1:Rat)<=(q.den:Rat):=by
     have:((1:Nat):Rat)<=(q.den:Rat):=Zg.2 q.den_pos;exact this
    have e2:Gw (q.den:Rat)=(q.den:Rat):=by unfold Gw;rw[if_neg (by grind)]
    rw[e2];have:=Ni (a:=Gw q) (c:=1) (Tz q) Ql (by decide) hd1;grind
   rw[Mr]at h1;refine Zi h1 (Zg.2 (by omega))
end Orr
namespace Orr
variable{α:Type}
def Bs(lt:α->α->Bool)(out:List α)(x:α):Nat->Nat
 | 0=>0
 |
  k+1=>match out[k]? with
  |some y=>if lt x y=true then Bs lt out x k else k+1
  |none=>k+1
theorem wN(lt:α->α->Bool)(out:List α)(x:α):∀k,Bs lt out x k<=k
 | 0=>Qn _
 |
  k+1=>by
  simp only[Bs]
  split
  ·split
   ·exact Nat.le_succ_of_le (wN lt out x k)
   ·exact Qn _
  ·exact Qn _
theorem KI{lt:α->α->Bool}{out:List α}{x y:α}{k:Nat}(hx:out[k]? = some y)(h:lt x y=true):Bs lt out x (k+1)=Bs lt out x k:=by
 simp only[Bs,hx,h,if_true]
theorem XQ{lt:α->α->Bool}{out:List α}{x y:α}{k:Nat}(hx:out[k]? = some y)(h:lt x y=false):Bs lt out x (k+1)=k+1:=by
 simp[Bs,hx,h]
def Cq(lt:α->α->Bool)(out:List α)(x:α):List α:=out.take (Bs lt out x out.length)++x::out.drop (Bs lt out x out.length)
theorem Qjp(lt:α->α->Bool)(out:List α)(x:α):(Cq lt out x).length=out.length+1:=by
 have:=wN lt out x out.length;simp[Cq];omega
theorem HK{lt:α->α->Bool}{out:List α}{x y:α}:y∈Cq lt out x↔y=x\/y∈out:=by
 have h:y∈out↔y∈out.take (Bs lt out x out.length)\/y∈out.drop (Bs lt out x out.length):=by
  rw[<-Qr,Zh]
 simp only[Cq,Qr,Qj,h];constructor
 ·rintro (h|h|h)
  ·exact .inr (.inl h)
  ·exact .inl h
  ·exact .inr (.inr h)
 ·rintro (h|h|h)
  ·exact .inr (.inl h)
  ·exact .inl h
  ·exact .inr (.inr h)
def He(lt:α->α->Bool)(l:List α):List α:=l.foldl (Cq lt) []
theorem aF(lt:α->α->Bool)(l:List α)(x:α):He lt (l++[x])=Cq lt (He lt l) x:=by simp[He,Wo]
theorem FH{lt:α->α->Bool}{l:List α}{i:Nat}{x:α}(h:l[i]? = some x):He lt (l.take (i+1))=Cq lt (He lt (l.take i)) x:=by
 rw[X6,h];exact aF _ _ _
theorem AQ(lt:α->α->Bool):∀(l acc:List α),(l.foldl (Cq lt) acc).length=acc.length+l.length
 | [],acc=>by simp
 |c::l,acc=>by simp only[Z0];rw[AQ lt l (Cq lt acc c),Qjp];simp;omega
theorem Pg(lt:α->α->Bool)(l:List α):(He lt l).length=l.length:=by unfold He;rw[AQ];simp
theorem UN(lt:α->α->Bool):∀(l acc:List α) {y:α},y∈l.foldl (Cq lt) acc↔y∈l\/y∈acc
 | [],acc,y=>by simp
 |
  c::l,acc,y=>by
  simp only[Z0];rw[UN lt l,HK,Qj];constructor
  ·rintro (h|h|h)
   ·exact .inl (.inr h)
   ·exact .inl (.inl h)
   ·exact .inr h
  ·rintro ((h|h)|h)
   ·exact .inr (.inl h)
   ·exact .inl h
   ·exact .inr (.inr h)
theorem Ph{lt:α->α->Bool}{l:List α}{y:α}:y∈He lt l↔y∈l:=by
 unfold He;rw[UN];simp
end Orr
namespace Orr
open Go Orq
structure Wt where
 c:Ct
 known:Bool
 fails:Option Tm
def f0:Option Tm->LV|none=>.row []|some t=>pl t.p
def f1:Option Tm->LV|none=>.bool false|some t=>sg t.lo.num
def f2:Option Tm->LV|none=>.row []|some t=>mg t.lo.num
def f3:Option Tm->LV|none=>.bool false|some t=>sg (t.lo.den:Int)
def f4:Option Tm->LV|none=>.row []|some t=>mg (t.lo.den:Int)
def f5:Option Tm->LV|none=>.bool false|some t=>sg t.hi.num
def f6:Option Tm->LV|none=>.row []|some t=>mg t.hi.num
def f7:Option Tm->LV|none=>.bool false|some t=>sg (t.hi.den:Int)
def f8:Option Tm->LV|none=>.row []|some t=>mg (t.hi.den:Int)
abbrev fl(o:Option Tm):Fy:=[f0 o,f1 o,f2 o,f3 o,f4 o,f5 o,f6 o,f7 o,f8 o]
structure Cr where
 now:Tm
 l:List Wt
 ev:Int
structure WtOk(w:Wt):Prop where
 p:Cp w.c.p
 f:∀t,w.fails=some t->Va t
structure CrOk(c:Cr):Prop where
 n:Va c.now
 l:∀w∈c.l,WtOk w
 k:c.l.length<=1000
def Qyg(a b:Ct):Bool:=decide ([a.kind,a.i0,a.i1,a.i2,a.i3]=[b.kind,b.i0,b.i1,b.i2,b.i3])
def fresh(x:Ct):Wt:=⟨x,false,none⟩
def NY:List Wt->Ct->Tm->Option Wt
 | [],x,_=>some (fresh x)
 |
  w::l,x,at_=>if Qyg w.c x=true/\w.known=true/\w.c.p=x.p then
   match w.fails with
   |none=>some ⟨x,true,none⟩
   |some t=>(rM t at_).bind λc=>if 0<c then some ⟨x,true,some t⟩else NY l x at_
  else NY l x at_
def Qbi(old:List Wt)(at_:Tm):List Ct->Option (List Wt)
 | []=>some []
 |x::l=>(NY old x at_).bind λw=>(Qbi old at_ l).bind λr=>some (w::r)
end Orr
namespace Orr
open Go Go.Proofs Tryz Orq
set_option maxRecDepth 10000
theorem sG{old:List Wt}{at_:Tm}:∀{l:List Ct} {ws:List Wt},Qbi old at_ l=some ws->ws.length=l.length/\∀(i:Nat) (x:Ct),l[i]? = some x->∃w,NY old x at_=some w/\ws[i]? = some w
 | [],ws,h=>by injection h with h;subst h;exact⟨rfl,λi x hx=>by simp at hx⟩
 |
  y::l,ws,h=>by
  simp only[Qbi]at h;obtain⟨w,hw,h⟩:=Qk.1 h;obtain⟨r,hr,h⟩:=Qk.1 h;injection h with h;subst h;obtain⟨a,b⟩:=sG hr;refine⟨by simp[a],λi x hx=>?_⟩;cases i with
  |zero=>injection hx with hx;subst hx;exact⟨w,hw,rfl⟩
  |succ i=>exact b i x (by simpa using hx)
theorem eB{a b:Bool}(h:a=b):TV.one (LV.bool a)=.one (.bool b):=h ▸ rfl
theorem KD:∀{l:Fu} {i:Nat} {p o:Ft},Pb p->(∀f∈l,Pb f)->UI i p l=some o->Pb o
 | [],i,p,o,hp,_,h=>by simp only[UI]at h;injection h with h;subst h;exact hp
 |
  f::l,i,p,o,hp,hl,h=>by
  simp only[UI]at h
  split at h
  ·obtain⟨q,hq,h⟩:=Qk.1 h;obtain⟨rfl,hq'⟩:=YH (Hp _ _) hq;exact KD hq' (λf hf=>hl f (Qi _ hf)) h
  ·exact KD hp (λf hf=>hl f (Qi _ hf)) h
theorem kJ(z:Int):Gy (z.natAbs:Int)=Gy z:=by unfold Gy;simp
theorem Qem(l:Ft)(z:Int):most (l++[z])=if most l<z.natAbs then z.natAbs else most l:=by unfold most;rw[List.foldl_append];rfl
theorem Qpv{s:Nat}:∀{l:Ft},Bd s l->Gy (most l:Int)<=s:=λ{l}=>by
 suffices h:∀(l:Ft) (m:Nat),Bd s l->Gy (m:Int)<=s->Gy ((l.foldl (λm z=>if m<z.natAbs then z.natAbs else m) m:Nat):Int)<=s from λhb=>h l 0 hb (by simp[Gy,sz])
 intro l
 induction l with
 |nil=>exact λm _ h=>h
 |
  cons z l ih =>
  intro m hb hm;refine ih _ (λy hy=>hb y (Qi _ hy)) ?_;show Gy ((if m<z.natAbs then z.natAbs else m:Nat):Int)<=s
  split
  ·rw[kJ];exact hb z (Qw ..)
  ·exact hm

theorem CN{p:Ft}{c:Fu}(hp:Pb p):∀{k:Nat} {lo hi:Rat} {n:Int} {r:List Tm},Qb lo->Qb hi->I5 p c k lo hi n=some r->∀t∈r,Tb t
 | 0,_,_,_,_,_,_,h=>by cases h
 |
  k+1,lo,hi,n,r,hl,hh,h=>by
  simp only[I5]at h
  split at h
  ·injection h with h;subst h;exact λt ht=>by cases ht
  ·split at h
   ·injection h with h;subst h;intro t ht;rw[Qo.1 ht];exact⟨hp,hl,hh⟩
   ·obtain⟨m,hm,h⟩:=Qk.1 h;obtain⟨rfl,qm⟩:=cU hm;obtain⟨x,hx,h⟩:=Qk.1 h;obtain⟨y,hy,h⟩:=Qk.1 h;injection h with h;subst h;intro t ht;rcases Qr.1 ht with ht|ht
    ·exact CN hp hl qm hx t ht
    ·exact CN hp qm hh hy t ht
def Hy(l:List Pt):Fz:=l.map Sl
theorem Hg{l:List Pt}{i:Nat}{c:Pt}(h:l[i]? = some c):(Hy l)[i]? = some (Sl c):=Tk h
theorem Su(l:List Pt):(Hy l).length=l.length:=by simp[Hy]
theorem Qqv(l:List Pt):∀c∈Hy l,c.length=5:=λc hc=>by
 obtain⟨x,_,rfl⟩:=Zd.1 hc;rfl
abbrev zPt:Fy:=[.nils,.nils,.bool false,.nils,.int .i64 0]
theorem Qa8{lt:Pt->Pt->Bool}{O:List Pt}{z:Fy}{c:Pt}{k m:Nat}{l2:Fz}(hk:k<=O.length)(hp:Bs lt O c O.length=k)(hm:m=O.length-k)(h2:l2.take m=((Hy O++[z]).drop k).take m) :
 ((Hy O++[z]).take (k+1)++(l2.take m++(Hy O++[z]).drop (k+1+m))).set k (Sl c)=Hy (Cq lt O c):=by
 rw[h2,<-Zj,Qjq (Hy O) z (Sl c) (by rw[Su];omega) (by rw[Su];omega)];simp[Cq,hp,Hy,Kx,Y5]
def Rk(t:Tm)(l:List Pt):List Pt:=He (Rh (Hb t)) l

def NF(now:Tm):List Wt->Option (List Wt)
 | []=>some []
 |w::l=>(if w.known=true then some w else(xP w.c.p now).bind λr=>some ⟨w.c,true,r⟩).bind λw'=>(NF now l).bind λr=>some (w'::r)
theorem xU{now:Tm}:∀{l ws:List Wt},NF now l=some ws->ws.length=l.length/\∀(i:Nat) (w:Wt),l[i]? = some w->∃v,ws[i]? = some v/\(w.known=true/\v=w\/w.known=false/\∃r,xP w.c.p now=some r/\v=⟨w.c,true,r⟩)
 | [],ws,h=>by injection h with h;subst h;exact⟨rfl,λi x hx=>by simp at hx⟩
 |
  y::l,ws,h=>by
  simp only[NF]at h;obtain⟨v,hv,h⟩:=Qk.1 h;obtain⟨r,hr,h⟩:=Qk.1 h;injection h with h;subst h;obtain⟨a,b⟩:=xU hr;refine⟨by simp[a],λi x hx=>?_⟩;cases i with
  |
   zero =>
   injection hx with hx;subst hx;refine⟨v,rfl,?_⟩
   split at hv
   ·rename_i hk;injection hv with hv;exact .inl ⟨hk,hv.symm⟩
   ·rename_i hk;obtain⟨q,hq,hv⟩:=Qk.1 hv;injection hv with hv;exact .inr ⟨by simpa using hk,q,hq,hv.symm⟩
  |succ i=>exact b i x (by simpa using hx)
def Qu6(ws:List Wt):Option (Option Tm):=match ws.filterMap (·.fails)with
 | []=>some none
 |b::l=>(AL b l).map some
theorem Qpq{c:Cr}{ws:List Wt}(hc:CrOk c)(h:NF c.now c.l=some ws):CrOk { c with l:=ws }:=by
 obtain⟨h1,h2⟩:=xU h;refine⟨hc.n,λv hv=>?_,by show ws.length<=1000;rw[h1];exact hc.k⟩;obtain⟨i,hi⟩:=Ze hv;have hil:i<c.l.length:=by rw[<-h1];exact(Qd.1 hi).1
 obtain⟨v',h3,h4⟩:=h2 i _ (Qg hil);rw[hi]at h3;injection h3 with h3;subst h3;have hw:=hc.l _ (Jf hil);rcases h4 with⟨_,rfl⟩|⟨_,r,k2,rfl⟩
 ·exact hw
 ·obtain⟨r',r1,r2⟩:=Qkc hw.p hc.n;rw[k2]at r1;injection r1 with r1;subst r1;refine⟨hw.p,λt ht=>?_⟩;have ht:r=some t:=ht;subst ht;exact r2.2.1
theorem sW{at_:Tm}{x:Ct}:∀{l:List Wt} {w:Wt},NY l x at_=some w->w=fresh x\/∃v∈l,v.known=true/\v.c.p=x.p/\w=⟨x,true,v.fails⟩/\∀t,v.fails=some t->∃c,rM t at_=some c/\0<c
 | [],w,h=>by simp only[NY]at h;injection h with h;exact .inl h.symm
 |
  v::l,w,h=>by
  simp only[NY]at h;have tl:NY l x at_=some w->w=fresh x\/∃v'∈v::l,v'.known=true/\v'.c.p=x.p/\w=⟨x,true,v'.fails⟩/\∀t,v'.fails=some t->∃c,rM t at_=some c/\0<c:=λh=>by
   rcases sW h with h|⟨v',h1,h2⟩
   ·exact .inl h
   ·exact .inr ⟨v',Qi _ h1,h2⟩
  split at h
  ·rename_i hk;cases hf:v.fails with
   |
    none =>
    rw[hf]at h;injection h with h;exact .inr ⟨v,Qw ..,hk.2.1,hk.2.2,by rw[hf];exact h.symm,λt ht=>by rw[hf]at ht;cases ht⟩
   |
    some t =>
    rw[hf]at h;obtain⟨c,c1,h⟩:=Qk.1 h
    split at h
    ·rename_i h0;injection h with h;exact .inr ⟨v,Qw ..,hk.2.1,hk.2.2,by rw[hf];exact h.symm,λu hu=>by rw[hf]at hu;injection hu with hu;subst hu;exact⟨c,c1,h0⟩⟩
    ·exact tl h
  ·exact tl h
theorem dN{c:Cr}{at_:Tm}{l:List Ct}{ws:List Wt}(ev:Int)(hc:CrOk c)(ha:Va at_)(hl:∀x∈l,Cp x.p)(hn:l.length≤1000)(h:Qbi c.l at_ (NE l)=some ws):CrOk ⟨at_,ws,ev⟩:=by
 obtain⟨h1,h2⟩:=sG h;refine⟨ha,λw hw=>?_,by show ws.length<=1000;rw[h1,Qfa];exact hn⟩;obtain⟨i,hi⟩:=Ze hw;have hil:i<(NE l).length:=by rw[<-h1];exact(Qd.1 hi).1
 obtain⟨v,h3,h4⟩:=h2 i _ (Qg hil);rw[hi]at h4;injection h4 with h4;subst h4;have hx:=hl _ (Qfb (Jf hil));rcases sW h3 with e|⟨v,v1,_,v3,e,_⟩
 ·rw[e];exact⟨hx,λt ht=>by cases ht⟩
 ·rw[e];exact⟨hx,λt ht=>(hc.l v v1).f t ht⟩
structure BuildOk(Bc:Tm->List Ct):Prop where
 p:∀a,Va a->∀x∈Bc a,Cp x.p
 n:∀a,Va a->(Bc a).length<=1000
theorem Rx{t:Tm}{l:List Pt}{p:Pt}:p∈Rk t l↔p∈l:=by
 unfold Rk He;rw[UN];simp
theorem Dd(t:Tm)(l:List Pt):(Rk t l).length=l.length:=Pg _ _

abbrev Mx(l:Ft):Fz:=l.map λ(z:Int)=>[.int .i64 z]
theorem HY{l:Ft}{i:Nat}{z:Int}(h:l[i]? = some z):(Mx l)[i]? = some [.int .i64 z]:=Tk h
def Er(v n:Int):Int:=if n<1 then 0 else v.emod n
theorem Qfh{v n:Int}(h:0<n):(if v.tmod n<0 then v.tmod n+n else v.tmod n)=v % n:=by
 have h3:=K8 v (show n≠0 by omega);have h4:=V7 v h;have h1:=Int.tmod_eq_emod (a:=v) (b:=n);have hn:((n.natAbs:Nat):Int)=n:=by omega
 split at h1
 ·rw[h1];simp;omega
 ·rename_i hc;rw[h1,hn];have:v % n≠0:=λe=>hc (.inr (Vh e))
  rw[if_pos (by omega)];omega
theorem Ex{v n:Int}(hv:-9223372036854775808<=v/\v<=9223372036854775807)(hn:n<=1000000000):Fo 15 [.oi v,.oi n] [.oi (Er v n)]:=by
 unfold Er;by_cases h:n<1
 ·rw[if_pos h];exact Fi func15 rfl [.t (by simpa using h)] rfl
 ·rw[if_neg h];have e:=Qfh (v:=v) (n:=n) (by omega);have h3:=K8 v (show n≠0 by omega);have h4:=V7 v (show 0<n by omega);show Fo 15 [.oi v,.oi n] [.oi (v % n)];by_cases h0:v.tmod n<0
  ·rw[if_pos h0]at e;have b:-n<=v.tmod n:=by omega
   exact Fi func15 rfl [.f (by simpa using h),.t (by simpa using h0)] rfl (by rw[e]) (by simp[Ge];omega)
  ·rw[if_neg h0]at e;exact Fi func15 rfl [.f (by simpa using h),.f (by simpa using h0)] rfl (by rw[e]) (by simp[Ge];omega)
end Orr
namespace Orr
open Go Go.Proofs Tryz
set_option maxRecDepth 10000
def frow(p:Fw):Fz:=p.map fr
theorem Pu(p:Fw):(frow p).length=p.length:=by simp[frow]
theorem Is{p:Fw}{i:Nat}{q:Rat}(h:p[i]? = some q):(frow p)[i]? = some (fr q):=Tk h
theorem SO(p:Fw)(q:Rat):frow (p++[q])=frow p++[fr q]:=by simp[frow]
theorem SI(p:Fw):∀c∈frow p,c.length=4:=λc hc=>by obtain⟨x,_,rfl⟩:=Zd.1 hc;rfl
abbrev rp(p:Fw):LV:=.row (frow p)
theorem pQ(q:Rat):∀c∈[fr q],c.length=4:=λc hc=>by rw[Qo.1 hc];rfl
theorem Qdg:Fo 260 [] [.agg (fr 0)]:=Fi func260 rfl [.k (UH (n:=0) (by decide))] rfl
theorem XB{p:Fw}:Fo 153 [.one (rp p)] [.one (rp (Bb p))]:=by
 refine Sk func153 rfl (ln 0 rfl rfl λhl=>?_);rw[Pu]at hl;have Ee:=Pu p;refine Ff [] rfl ?_;refine lp (S:=Nat) 0 (λL1 n=>(3,.v (.oi n))::L1) (λ_=>[]) id (λn=>n<=p.length/\∀j x,n<=j->p[j]? = some x->x=0) (frow p).length ⟨by rw[Ee];exact Qn _,λj x h1 h2=>by
  have:=(Qd.1 h2).1;rw[Ee]at h1;omega⟩ rfl (λ_ _=>rfl) rfl λn hs=>?_
 obtain⟨h1,h2⟩:=hs;cases n with
 |
  zero =>
  have e:=MK h1 (λj x h=>h2 j x h) (λh=>absurd h (by decide));exact Fh [.g 8 false (by simp),.f rfl,.i 0] rfl (by rw[e];rfl) (by simp[Ge])
 |
  succ n =>
  obtain⟨x,hx⟩:=gxE (l:=p) (i:=n) (by omega);have hn:=Rat.num_eq_zero (q:=x);by_cases h0:x=0
  ·refine Fg [.g 8 true (by simp),.r 11 (eI (b:=(n:Int)) (by simp)),.x (Is hx),.k (Di (z:=x.num)),.t (decide_eq_true (hn.2 h0)),.r 18 (eI (b:=(n:Int)) (by simp))] rfl ?_;exact rd n (by simp) ⟨by omega,λj y h3 h4=>by
    rcases V8 h3 with rfl|h3
    ·rw[hx]at h4;injection h4 with h4;rw[<-h4,h0]
    ·exact h2 j y h3 h4⟩ rfl
  ·have e:=MK h1 (λj x h=>h2 j x h) (λ_=>⟨x,hx,h0⟩);exact Fh [.g 8 true (by simp),.r 11 (eI (b:=(n:Int)) (by simp)),.x (Is hx),.k (Di (z:=x.num)),.f (decide_eq_false λh=>h0 (hn.1 h)),.i (n+1)] rfl (by rw[e];simp[rp,frow,Kx]) (by simp[Ge,Ee] <;> omega)
theorem Qsb{p:Fw}{i:Nat}(hi:i<1099511627776):Fo 352 [.one (rp p),.oi i] [.agg (fr (p.getD i 0))]:=by
 have Ee:=Pu p;by_cases h:i<p.length
 ·have e:p.getD i 0=p[i]:=by rw[Qc,Qg h];rfl
  rw[e];exact Fi func352 rfl [.g 7 false Fp,.F,.x (Is (Qg h))] rfl
 ·have e:p.getD i 0=0:=by rw[Qc,Qt (by omega)];rfl
  rw[e];exact Fi func352 rfl [.g 7 false Fp,.T,.k Qdg] rfl
theorem bI:Fo 54 [.one (ids [1])] [.one (rp (zp [1]))]:=by
 have cc:=XB (p:=zp [1]);rw[Dn,show trim [1]=[1] from rfl]at cc;refine Sk func54 rfl ?_;refine Ff [.o 3 34 4] rfl ?_;refine Fl (S:=Nat) 1 (λL1 i=>(7,.v (.oi i))::(3,.v (.one (.orow 0 4 none)))::L1) (λi=>[.row false 34 4 (frow ((zp [1]).take i))]) (λi=>1-i) (λi=>i<=1) 0 (by decide) rfl rfl λi hi=>?_
 rcases(show i=0\/i=1 by omega)with rfl|rfl
 ·refine go tt [.t rfl,.x (l:=Mx [1]) (i:=0) (xs:=[.int .i64 1]) rfl,.k (UH (n:=1) (by decide)),.s (sz:=4) (pQ _)] rfl (by simp[Ge,frow]) ?_;exact rd 1 (by omega) (by omega) rfl
 ·exact Fh [.f rfl,.k cc] rfl
theorem KZ{p:Ft}(hb:Bd 90000000 p)(hl:p.length<=1000000):Fo 203 [pr p] [.one (rp (zp (trim p)))]:=by
 have Ee:(p.map Sj).length=p.length:=by simp
 have cc:=XB (p:=zp p);rw[Dn]at cc;show Fo 203 [.one (.row (p.map Sj))] _;refine Sk func203 rfl ?_;refine Ff [.o 3 34 4] rfl ?_;refine Fl (S:=Nat) 1 (λL1 i=>(7,.v (.oi i))::(3,.v (.one (.orow 0 4 none)))::L1) (λi=>[.row false 34 4 (frow (zp (p.take i)))]) (λi=>p.length-i) (λi=>i<=p.length) 0 (Qh _) rfl rfl λi hi=>?_
 have hol:(frow (zp (p.take i))).length=i:=by rw[Pu,Mc,Qz];omega
 by_cases h:i<p.length
 ·obtain⟨z,hz⟩:=gxE (l:=p) (i:=i) h;have hzb:=hb z (Qa hz);have hg:frow (zp (p.take (i+1)))=frow (zp (p.take i))++[fr (z:Rat)]:=by
   rw[X6,hz];simp[frow,zp]
  refine go tt [.T,.x (Tk (f:=Sj) hz),.k (yD (z:=z) (by omega)),.k (Aj (n:=1) (by decide)),.k (Cz (n:=z)),.s (sz:=4) (pQ _)] rfl (by simp[Ge,hol,-List.getD_eq_getElem?_getD];omega) ?_;exact rd (i+1) (by omega) h (by rw[hg];rfl)
 ·have e:i=p.length:=by omega
  rw[e,Za];exact Fh [.F,.k cc] rfl
theorem Qhh{p:Ft}(hb:Bd 90000000 p)(hl:p.length<=1000000):Fo 61 [.one (rp (zp p))] [pr p]:=by
 have Ee:(frow (zp p)).length=p.length:=by rw[Pu,Mc]
 show Fo 61 [.one (rp (zp p))] [.one (.row (p.map Sj))];refine Sk func61 rfl ?_;refine Ff [.o 3 55 2] rfl ?_;refine Fl (S:=Nat) 1 (λL1 i=>(7,.v (.oi i))::(3,.v (.one (.orow 0 2 none)))::L1) (λi=>[.row false 55 2 ((p.take i).map Sj)]) (λi=>p.length-i) (λi=>i<=p.length) 0 (Qh _) rfl rfl λi hi=>?_
 have hol:((p.take i).map Sj).length=i:=by rw[Q4,Qz];omega
 by_cases h:i<p.length
 ·obtain⟨z,hz⟩:=gxE (l:=p) (i:=i) h;have hzb:=hb z (Qa hz);have hq:∀c∈[Sj z],c.length=2:=λc hc=>by rw[Qo.1 hc];rfl
  have hg:(p.take (i+1)).map Sj=(p.take i).map Sj++[Sj z]:=by
   rw[X6,hz];simp
  refine Fg [.T,.x (Is (Qnd hz)),.k (Qgy (z:=z) (by omega)),.s (sz:=2) hq] rfl ?_;exact rd (i+1) (by omega) h (by rw[hg];rfl)
 ·have e:i=p.length:=by omega
  rw[e,Za];exact Fh [.F] rfl
theorem bD{p q:Fw}(hp:Rb 20000000 p)(hq:Rb 20000000 q)(hlp:p.length<=1000000)(hlq:q.length<=1000000):Fo 275 [.one (rp p),.one (rp q)] [.one (rp (mX p q))]:=by
 have h1:=Pu p;have h2:=Pu q;obtain⟨M,hM⟩:=nmE (max p.length q.length);have cc:=XB (p:=JW (λi=>p.getD i 0+q.getD i 0) M);unfold mX;rw[<-hM];refine Sk func275 rfl ?_;refine Ff [.o 5 34 4] rfl ?_;refine Fl (S:=Nat) 1 (λL1 i=>(6,.v (.oi i))::(5,.v (.one (.orow 0 4 none)))::L1) (λi=>[.row false 34 4 (frow (JW (λi=>p.getD i 0+q.getD i 0) i))]) (λi=>M-i) (λi=>i<=M) 0 (Qh _) rfl rfl λi hi=>?_
 have hol:(frow (JW (λi=>p.getD i 0+q.getD i 0) i)).length=i:=by rw[Pu,TQ]
 by_cases h:i<M
 ·refine go tt [.r 12 (eI (b:=(M:Int)) (by omega)),.T,.k (Qsb (p:=p) (i:=i) (by omega)),.k (Qsb (p:=q) (i:=i) (by omega)),.k (yB (hp.getD (by decide) i) (hq.getD (by decide) i)),.s (sz:=4) (pQ _)] rfl (by simp[Ge,hol,-List.getD_eq_getElem?_getD];omega) ?_;exact rd (i+1) (by omega) h (by rw[yY,SO];rfl)
 ·have e:i=M:=by omega
  rw[e];exact Fh [.r 12 (eI (b:=(M:Int)) (by omega)),.F,.k cc] rfl
theorem QP{p:Fw}{c:Rat}(hp:Rb 40000000 p)(hc:Qs 40000000 c)(hlp:p.length<=1000000):Fo 249 [.one (rp p),.agg (fr c)] [.one (rp (Bv p c))]:=by
 have h1:=Pu p;have cc:=XB (p:=JW (λi=>p.getD i 0*c) p.length);unfold Bv;refine Sk func249 rfl ?_;refine Ff [.o 5 34 4] rfl ?_;refine Fl (S:=Nat) 2 (λL1 i=>(9,.v (.oi i))::(5,.v (.one (.orow 1 4 none)))::L1) (λi=>[.blk 34 (fr c),.row false 34 4 (frow (JW (λi=>p.getD i 0*c) i))]) (λi=>p.length-i) (λi=>i<=p.length) 0 (Qh _) rfl rfl λi hi=>?_
 have hol:(frow (JW (λi=>p.getD i 0*c) i)).length=i:=by rw[Pu,TQ]
 by_cases h:i<p.length
 ·have hg:p[i]? = some (p.getD i 0):=by rw[Qc,Qg h];rfl
  refine go tt [.T,.x (Is hg),.k (bG (hp.getD (by decide) i) hc),.s (sz:=4) (pQ _)] rfl (by simp[Ge,hol,-List.getD_eq_getElem?_getD];omega) ?_;exact rd (i+1) (by omega) h (by rw[yY,SO];rfl)
 ·have e:i=p.length:=by omega
  rw[e];exact Fh [.F,.k cc] rfl
theorem bE{p:Fw}(hp:Rb 40000000 p)(hlp:p.length<=1000000):Fo 256 [.one (rp p)] [.one (rp (OV p))]:=by
 have cs:=QP (p:=p) (c:=-1) hp ⟨by decide,by decide⟩ hlp;have co:=UH (n:=-1) (by decide);rw[show((-1:Int):Rat)=-1 from rfl]at co;exact Fi func256 rfl [.k co,.k cs] rfl
theorem Qqn{s t:Nat}{a b:Rat}(ha:Qs s a)(hb:Qs t b):Qs (s+t+1) (a*b):=by
 rw[<-xH];unfold Sa;rw[if_neg (X9 (Dt a) (Dt b))];have h1:=Ho a.num b.num;have h2:=Ho (a.den:Int) (b.den:Int);have:=ha.1;have:=ha.2;have:=hb.1;have:=hb.2;exact Qs.divInt (by omega) (by omega) (by omega)
theorem Qld{s:Nat}{p:Fw}(hp:Rb s p):Rb (s+2) (OV p):=by
 unfold OV Bv;refine Rb.trim (Qrg λi hi=>?_);have h1:Qs (s+0) (p.getD i 0):=by
  have hi:i<p.length:=hi;rw[Qc,Qg hi];exact hp _ (Jf hi)
 have:=Qqn h1 (show Qs 1 (-1:Rat) from⟨by decide,by decide⟩);exact this.mono (by omega)
theorem mK(p:Fw):(OV p).length<=p.length:=by
 unfold OV Bv;exact Qe (jA _) (by rw[TQ];exact Qn _)
theorem bO{p q:Fw}(hp:Rb 19000000 p)(hq:Rb 19000000 q)(hlp:p.length<=1000000)(hlq:q.length<=1000000):Fo 276 [.one (rp p),.one (rp q)] [.one (rp (RP p q))] :=
 Fi func276 rfl [.k (bE (hq.mono (by decide)) hlq),.k (bD (hp.mono (by decide)) ((Qld hq).mono (by decide)) hlp (Qe (mK q) hlq))] rfl
end Orr
