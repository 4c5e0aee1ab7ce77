/- EmpL AudL AudW HulA AudC RiseL AscL HLineL HAro2 AudH MeshK AudX AudM AudY AR AX1 AX2 AX3 AudZ AudT AX4 PL1 QH PL2 WK26 QI -/
import Derived.Test.YtdcbpgmmopdelaaGreatPart09
import Derived.Test.YtdcbpgmmopdelaaGreatPart08
import Derived.Test.YtdcbpgmmopdelaaGreatPart00
import Derived.Test.YtdcbpgmmopdelaaGreatPart07
import Derived.Test.YtdcbpgmmopdelaaGreatPart05
set_option linter.all false
namespace Orr
open Go Go.Proofs Tryz Orq
theorem MW:∀{l:Fw},Bb l=[]->∀x∈l,x=0
 | [],_,x,hx=>by simp at hx
 |
  y::l,h,x,hx=>by
  simp only[Bb]at h;cases ht:Bb l with
  |
   nil =>
   rw[ht]at h;by_cases hy:y=0
   ·rcases Qj.1 hx with rfl|hx
    ·exact hy
    ·exact MW ht x hx
   ·simp[hy]at h
  |cons z k=>rw[ht]at h;simp at h
theorem Qex{p q:Fw}:(mX p q).length=0↔∀i,p.getD i 0+q.getD i 0=0:=by
 unfold mX;constructor
 ·intro h i;have h:=MW (Qf h);by_cases hi:i<max p.length q.length
  ·exact h _ (Zd.2 ⟨i,Kn.2 hi,rfl⟩)
  ·rw[Qc,Qc,Qt (by omega),Qt (by omega)];show(0:Rat)+0=0;grind
 ·intro h;rw[Oq λx hx=>?_]
  ·rfl
  ·obtain⟨i,_,rfl⟩:=Zd.1 hx;exact h i
theorem Qe1(p:Fw)(i:Nat):(OV p).getD i 0=-(p.getD i 0):=by
 have h:∀(l:Fw) (i:Nat),(Bb l).getD i 0=l.getD i 0:=by
  intro l
  induction l with
  |nil=>intro i;rfl
  |
   cons x l ih =>
   intro i;simp only[Bb];cases ht:Bb l with
   |
    nil =>
    have h0:=MW ht;have hz:∀j,l.getD j 0=0:=λj=>by
     rw[Qc];cases hj:l[j]? with
     |none=>rfl
     |some z=>exact h0 z (Qa hj)
    dsimp only;cases i with
    |zero=>split <;> simp_all
    |
     succ i =>
     have:=hz i
     split <;> simp_all
   |
    cons y k =>
    rw[ht]at ih;cases i with
    |zero=>rfl
    |succ i=>simpa using ih i
 unfold OV Bv;rw[h];unfold JW;rw[Qc,Zb];by_cases hi:i<p.length
 ·rw[Jn hi];show p.getD i 0*(-1)=_;grind
 ·rw[Qt (by simp;omega),Qc,Qt (by omega)];show(0:Rat)=-0;grind
theorem jL{x y:Ft}{d e:Int}(hd:0<d)(he:0<e):(RP (QK x d) (QK y e)).length=0↔∀i,x.getD i 0*e=y.getD i 0*d:=by
 unfold RP;rw[Qex];have hd':(d:Rat)≠0:=by exact_mod_cast (by omega:d≠0)
 have he':(e:Rat)≠0:=by exact_mod_cast (by omega:e≠0)
 refine forall_congr' λi=>?_
 rw[Qe1,OF,OF];constructor
 ·intro h;have h2:((x.getD i 0:Int):Rat)*(e:Rat)=((y.getD i 0:Int):Rat)*(d:Rat):=by
   have:((x.getD i 0:Int):Rat) / (d:Rat)=((y.getD i 0:Int):Rat) / (e:Rat):=by grind
   have h3:=congrArg (· * ((d:Rat)*(e:Rat))) this;have a1:=Zc (a:=((x.getD i 0:Int):Rat)) hd';have a2:=Zc (a:=((y.getD i 0:Int):Rat)) he';grind
  exact_mod_cast h2
 ·intro h;have h2:((x.getD i 0:Int):Rat)*(e:Rat)=((y.getD i 0:Int):Rat)*(d:Rat):=by exact_mod_cast h
  have a1:=Zc (a:=((x.getD i 0:Int):Rat)) hd';have a2:=Zc (a:=((y.getD i 0:Int):Rat)) he';generalize ((x.getD i 0:Int):Rat) / (d:Rat)=u at *;generalize ((y.getD i 0:Int):Rat) / (e:Rat)=v at *;have:(u-v)*((d:Rat)*(e:Rat))=0:=by grind
  rcases Xn.1 this with h4|h4
  ·grind
  ·rcases Xn.1 h4 with h4|h4
   ·exact absurd h4 hd'
   ·exact absurd h4 he'
theorem yQ{a b:Crv}(ha:UF a)(hb:UF b):UV a b=true↔a=b:=by
 have hda:=ha.2.2.1;have hdb:=hb.2.2.1;unfold UV;rw[Zn,decide_eq_true_eq,decide_eq_true_eq,jL hda hdb,jL hda hdb];constructor
 ·rintro⟨h1,h2⟩
  have z:∀{p q:Ft},(∀i,p.getD i 0=q.getD i 0)->Ma p q=[]:=λ{p q} h=>by
   refine WF (Gk _ _) rfl λk=>?_
   rw[D9,h k];simp
  refine Qb1 ha hb (z λi=>?_) (z λi=>?_)
  ·rw[Tv,Tv];have:=h1 i;grind
  ·rw[Tv,Tv];have:=h2 i;grind
 ·rintro rfl
  exact⟨λ_=>rfl,λ_=>rfl⟩
theorem Qm2{M:List Pt}(hs:Mj M)(hn:∀p∈M,UF p.c):Mf M=Gu M:=by
 have hd:If M:=hs.imp λh=>by omega
 have e:He Td M=M:=WY (A0 hd) hs λx=>Ph
 unfold Mf Gu;rw[e];have key:∀(l out:List Pt),(∀p∈out,UF p.c)->(∀p∈l,UF p.c)->l.foldl FN out=l.foldl Nb out:=by
  intro l
  induction l with
  |nil=>intro out _ _;rfl
  |
   cons p l ih =>
   intro out ho hl;have hp:=hl p (Qw ..);have e1:FN out p=Nb out p:=by
    have e2:(out.any λo=>UV o.c p.c)=out.any (λq=>Ak p.c q.c):=by
     rw[Y9,Ks,Ks];constructor
     ·rintro⟨x,hx,h⟩;exact⟨x,hx,cR.2 ((yQ (ho x hx) hp).1 h).symm⟩
     ·rintro⟨x,hx,h⟩;exact⟨x,hx,(yQ (ho x hx) hp).2 (cR.1 h).symm⟩
    unfold FN Nb;rw[e2]
   rw[Z0,Z0,e1];exact ih _ (λx hx=>(yH hx).elim (ho x) λh=>h ▸ hp) λx hx=>hl x (Qi _ hx)
 exact key M [] (λp hp=>by simp at hp) hn
theorem B5(l:List Pt):(Gu l).Sublist l:=by
 have key:∀(m acc out:List Pt),out.Sublist acc->(m.foldl Nb out).Sublist (acc++m):=by
  intro m
  induction m with
  |nil=>intro acc out h;simpa using h
  |
   cons p m ih =>
   intro acc out h;have:(Nb out p).Sublist (acc++[p]):=by
    unfold Nb
    split
    ·exact h.trans (List.sublist_append_left _ _)
    ·exact h.append (List.Sublist.refl _)
   have:=ih _ _ this;rwa[Zj]at this
 exact key l [] [] (List.Sublist.refl _)
theorem Et{l:List Pt}(h:If l){a b:Pt}(ha:a∈l)(hb:b∈l)(e:a.id=b.id):a=b:=by
 obtain⟨i,hi,rfl⟩:=Vd.1 ha;obtain⟨j,hj,rfl⟩:=Vd.1 hb;have hp:=Xh.1 h;rcases J0 i j with h1|h1|h1
 ·exact absurd e (hp i j hi hj h1)
 ·subst h1;rfl
 ·exact absurd e.symm (hp j i hj hi h1)
end Orr
namespace Orq
open Orr Go
section
variable{M:List Pt}(hM:MOk M){a:Tm}(ha:Va a)
include hM ha
end
theorem xB:∀(k:Nat) {l:List Pt},Mj l->(Tr k l).Pairwise λm m'=>m.1.id<m'.1.id\/m.1.id=m'.1.id/\m.2.id<m'.2.id
 | 0,l,_=>by simp[Tr]
 |k+1,[],_=>by simp[Tr]
 |
  k+1,x::l,hs=>by
  obtain⟨s1,s2⟩:=Q5.1 hs;refine Zv.2 ⟨?_,xB k s2,λm hm m' hm'=>?_⟩
  ·rw[List.pairwise_map];exact s2.imp λh=>.inr ⟨rfl,h⟩
  ·obtain⟨y,hy,rfl⟩:=Zd.1 hm;exact .inl (s1 _ (En _ _ _ hm').1)
theorem Qkm{l:List Pt}(hs:Mj l){u v:Pt}(hu:u∈l)(hv:v∈l)(h:u.id<v.id):(u,v)∈H5 l:=by
 rcases xC hu hv with e|e|e
 ·rw[e]at h;omega
 ·exact e
 ·have:v.id<u.id:=PE _ hs (v,u) e;omega
theorem Qf9{M:List Pt}(hM:MOk M){a:Tm}(ha:Va a){x y:Pt}(hp:UZ (Hb a) M=[x,y]){u v:Pt}(hu:u∈M)(hv:v∈M)(huv:u.id<v.id)(hne:¬(u.id=x.id/\v.id=y.id)):0<=Hk (Hb a) (H8 x.c y.c u.c v.c)/\(Hk (Hb a) (H8 x.c y.c u.c v.c)=0->¬(u.id<x.id\/u.id=x.id/\v.id<y.id)):=by
 obtain⟨q,q1,q2⟩:=Qa0 hM.sc ha;have hg:=q2 q q1 Ql
 match M,hM,hp,hu,hv,hg with
 | [],_,hp,_,_,_=>cases hp
 | [_],_,hp,_,_,_=>cases hp
 |
  b::c::l,hM,hp,hu,hv,hg =>
  have hf:=Qpy (f:=λm=>zT m q) hg;injection hp with e1 e2;injection e2 with e2 _;obtain⟨P1,P2,hP,h1,h2⟩:=hf;have hr:Ta (Hb a) (b,c) (H5 (b::c::l))=(x,y):=by rw[<-e1,<-e2]
  rw[hr]at hP h1 h2;have hxy:(x,y)∈H5 (b::c::l):=by rw[hP];simp
  obtain⟨mx,my⟩:=En _ _ _ hxy;have hgm:=hg (x,y) (u,v) mx my hu hv;have hin:=Qkm hM.so hu hv huv;rw[hP]at hin;rw[hgm];have hpw:=xB (b::c::l).length hM.so;have hpw:(H5 (b::c::l)).Pairwise λm m'=>m.1.id<m'.1.id\/m.1.id=m'.1.id/\m.2.id<m'.2.id:=hpw
  rw[hP]at hpw;rcases Qr.1 hin with h|h
  ·have:=h1 _ h;have:Gt (zT (u,v) q-zT (x,y) q)=1:=Sp.2 (by grind);exact⟨by omega,λh=>by omega⟩
  ·rcases Qj.1 h with h|h
   ·injection h with e e';exact absurd ⟨by rw[e],by rw[e']⟩ hne
   ·have h3:=h2 _ h;have h4:=(Q5.1 (Zv.1 hpw).2.1).1 _ h;refine⟨?_,λ_ h5=>?_⟩
    ·rcases Hf (zT (u,v) q-zT (x,y) q)with⟨e,_⟩|⟨e,_⟩|⟨e,e'⟩ <;> first|omega|(exfalso;grind)
    ·dsimp only at h4;omega
end Orq
namespace Orr
open Go Go.Proofs Tryz Orq
set_option maxRecDepth 10000
abbrev BY(t:Tm):OB:=.blk 59 (ta t)
abbrev GZ(p:Pt):OB:=.blk 76 (Sl p)
section
variable{M:List Pt}{t:Tm}(hd:If M)(hs:∀p∈M,Sc p.c)(hn:M.length≤1000000)(ht:Va t)
include hd hs hn ht
end
end Orr
namespace Orq
open Orr Go
variable{X Y:Pt->Rat}
def Ext(X Y:Pt->Rat)(R:List Pt)(x:Pt):Prop:=∃α β γ δ:Rat,∀y∈R,y≠x->0<α*(X y-X x)+β*(Y y-Y x)\/α*(X y-X x)+β*(Y y-Y x)=0/\0<γ*(X y-X x)+δ*(Y y-Y x)
theorem nG{W L1 L2:Rat}(hW:0<=W)(hL:0<L1\/L1=0/\0<L2)(h0:W*L1=0):0<=W*L2/\(W*L2=0->W=0):=by
 rcases Xn.1 h0 with h|h
 ·subst h;exact⟨by rw[U0];exact Ql,λ_=>rfl⟩
 ·rcases hL with hL|⟨_,hL⟩
  ·rw[h]at hL;exact absurd hL (by decide)
  ·refine⟨Jt hW (Qm hL),λh'=>?_⟩;rcases Xn.1 h' with e|e
   ·exact e
   ·rw[e]at hL;exact absurd hL (by decide)
theorem fB{L1 L2:Rat}(h:0<L1\/L1=0/\0<L2):0<=L1:=by
 rcases h with h|⟨h,_⟩
 ·exact Qm h
 ·rw[h];exact Ql
theorem Qis{R:List Pt}{x a b c:Pt}(h:Ext X Y R x)(ha:a∈R)(hb:b∈R)(hc:c∈R)(na:a≠x)(nb:b≠x)(nc:c≠x)(ht:H4 X Y a b c≠0)(h1:0<=H4 X Y a b x*H4 X Y a b c)(h2:0<=H4 X Y b c x*H4 X Y a b c)(h3:0<=H4 X Y c a x*H4 X Y a b c):False:=by
 obtain⟨α,β,γ,δ,hl⟩:=h;have la:=hl a ha na;have lb:=hl b hb nb;have lc:=hl c hc nc;obtain⟨t,hte⟩:=nmE (H4 X Y a b c);obtain⟨wa,hwa⟩:=nmE (H4 X Y b c x);obtain⟨wb,hwb⟩:=nmE (H4 X Y c a x);obtain⟨wc,hwc⟩:=nmE (H4 X Y a b x);have sx:wa*(X a-X x)+wb*(X b-X x)+wc*(X c-X x)=0:=by rw[hwa,hwb,hwc];unfold H4;grind
 have sy:wa*(Y a-Y x)+wb*(Y b-Y x)+wc*(Y c-Y x)=0:=by rw[hwa,hwb,hwc];unfold H4;grind
 have st:wa+wb+wc=t:=by rw[hwa,hwb,hwc,hte];unfold H4;grind
 rw[<-hte]at ht h1 h2 h3;rw[<-hwa]at h2;rw[<-hwb]at h3;rw[<-hwc]at h1;clear hte hwa hwb hwc;have key:∀p q:Rat,wa*t*(p*(X a-X x)+q*(Y a-Y x))+wb*t*(p*(X b-X x)+q*(Y b-Y x))+wc*t*(p*(X c-X x)+q*(Y c-Y x))=0:=λp q=>by
  have e:wa*t*(p*(X a-X x)+q*(Y a-Y x))+wb*t*(p*(X b-X x)+q*(Y b-Y x))+wc*t*(p*(X c-X x)+q*(Y c-Y x))=t*p*(wa*(X a-X x)+wb*(X b-X x)+wc*(X c-X x))+t*q*(wa*(Y a-Y x)+wb*(Y b-Y x)+wc*(Y c-Y x)):=by grind
  rw[e,sx,sy];grind
 have k1:=key α β;have k2:=key γ δ;have n1:=Jt h2 (fB la);have n2:=Jt h3 (fB lb);have n3:=Jt h1 (fB lc);obtain⟨m1,e1⟩:=nG h2 la (by grind);obtain⟨m2,e2⟩:=nG h3 lb (by grind);obtain⟨m3,e3⟩:=nG h1 lc (by grind);have z1:=e1 (by grind);have z2:=e2 (by grind);have z3:=e3 (by grind);have:t*t=0:=by
  have e:t*t=wa*t+wb*t+wc*t:=by rw[<-st];grind
  rw[e,z1,z2,z3];grind
 rcases Xn.1 this with h|h <;> exact ht h
theorem Oi{R:List Pt}{x a b:Pt}(h:Ext X Y R x)(ha:a∈R)(hb:b∈R)(na:a≠x)(nb:b≠x)(h0:H4 X Y a b x=0)(h1:lx X Y a x)(h2:lx X Y x b):False:=by
 obtain⟨α,β,γ,δ,hl⟩:=h;have la:=hl a ha na;have lb:=hl b hb nb;obtain⟨ux,hux⟩:=nmE (X x-X a);obtain⟨uy,huy⟩:=nmE (Y x-Y a);obtain⟨vx,hvx⟩:=nmE (X b-X x);obtain⟨vy,hvy⟩:=nmE (Y b-Y x);have hu:=Dw h1;have hv:=Dw h2;rw[<-hux,<-huy]at hu;rw[<-hvx,<-hvy]at hv;have hc:ux*vy-vx*uy=0:=by unfold H4 at h0;rw[hux,huy,hvx,hvy];grind
 have ea:X a-X x=-ux:=by rw[hux];grind
 have ea':Y a-Y x=-uy:=by rw[huy];grind
 rw[ea,ea']at la;rw[<-hvx,<-hvy]at lb;clear hux huy hvx hvy ea ea' h0 h1 h2;obtain⟨m,n,hm,hn,e1,e2⟩:∃m n:Rat,0<m/\0<n/\m*vx=n*ux/\m*vy=n*uy:=by
  rcases hu with hu|⟨hu,hu'⟩
  ·rcases hv with hv|⟨hv,hv'⟩
   ·exact⟨ux,vx,hu,hv,by grind,by grind⟩
   ·exfalso;rw[hv]at hc;have:=Xm hu hv';grind
  ·rcases hv with hv|⟨hv,hv'⟩
   ·exfalso;rw[hu]at hc;have:=Xm hv hu';grind
   ·exact⟨uy,vy,hu',hv',by rw[hu,hv];grind,by grind⟩
 have key:∀p q:Rat,n*(p*-ux+q*-uy)+m*(p*vx+q*vy)=0:=λp q=>by
  have e:n*(p*-ux+q*-uy)+m*(p*vx+q*vy)=p*(m*vx-n*ux)+q*(m*vy-n*uy):=by grind
  rw[e,e1,e2];grind
 have k1:=key α β;have k2:=key γ δ;have n1:=Jt (Qm hn) (fB la);have n2:=Jt (Qm hm) (fB lb);obtain⟨m1,f1⟩:=nG (Qm hn) la (by grind);obtain⟨m2,f2⟩:=nG (Qm hm) lb (by grind);have:=f1 (by grind);rw[this]at hn;exact absurd hn (by decide)
theorem zQ{R:List Pt}{f z p:Pt}{A:List Pt}(hd:∀x∈R,∀y∈R,y≠x->X y≠X x\/Y y≠Y x)(c:LowC X Y R (f::A++[z]))(hp:p∈A):Ext X Y R p:=by
 obtain⟨A1,A2,rfl⟩:=Wh hp;obtain⟨L1,x,hx⟩:∃L1 x,f::A1=L1++[x]:=⟨(f::A1).dropLast,(f::A1).getLast (by simp),(Vj (by simp)).symm⟩;obtain⟨y,L2,hy⟩:∃y L2,A2++[z]=y::L2:=by
  cases A2 with
  |nil=>exact⟨z,[],rfl⟩
  |cons y A2=>exact⟨y,A2++[z],rfl⟩
 have e:f::(A1++p::A2)++[z]=L1++x::p::y::L2:=by
  have e1:f::(A1++p::A2)++[z]=(f::A1)++p::(A2++[z]):=by simp
  rw[e1,hx,hy];simp
 have edg:=c.edg;have cnv:=c.cnv;have hpR:p∈R:=c.mem p (by simp);rw[e]at edg cnv;have t0:=vF L1 cnv;have t1:=GL L1 edg;have t2:∀w∈R,0≤H4 X Y p y w:=by
  have e2:L1++x::p::y::L2=(L1++[x])++p::y::L2:=by simp
  rw[e2]at edg;exact GL _ edg
 refine⟨-(Y p-Y x),X p-X x,-(Y y-Y p),X y-X p,λw hw hne=>?_⟩;have g1:=t1 w hw;have g2:=t2 w hw;have e1:H4 X Y x p w=-(Y p-Y x)*(X w-X p)+(X p-X x)*(Y w-Y p):=by unfold H4;grind
 have e2:H4 X Y p y w=-(Y y-Y p)*(X w-X p)+(X y-X p)*(Y w-Y p):=by unfold H4;grind
 rw[<-e1,<-e2];rcases Yi.1 g1 with h1|h1
 ·exact .inl h1
 ·right;refine⟨h1.symm,?_⟩;rcases Yi.1 g2 with h2|h2
  ·exact h2
  ·exfalso;have d1:(X w-X p)*H4 X Y x p y=0:=by
    have:(X w-X p)*H4 X Y x p y=(X y-X p)*H4 X Y x p w-(X p-X x)*H4 X Y p y w:=by unfold H4;grind
    rw[this,<-h1,<-h2];grind
   have d2:(Y w-Y p)*H4 X Y x p y=0:=by
    have:(Y w-Y p)*H4 X Y x p y=(Y y-Y p)*H4 X Y x p w-(Y p-Y x)*H4 X Y p y w:=by unfold H4;grind
    rw[this,<-h1,<-h2];grind
   rcases Xn.1 d1 with d1|d1
   ·rcases Xn.1 d2 with d2|d2
    ·rcases hd p hpR w hw hne with h|h
     ·exact h (by grind)
     ·exact h (by grind)
    ·rw[d2]at t0;exact absurd t0 (by decide)
   ·rw[d1]at t0;exact absurd t0 (by decide)
theorem Qaz{R:List Pt}{x:Pt}(h:Ext (λp=>-X p) (λp=>-Y p) R x):Ext X Y R x:=by
 obtain⟨α,β,γ,δ,hl⟩:=h;refine⟨-α,-β,-γ,-δ,λy hy hne=>?_⟩;have:=hl y hy hne;have e1:-α*(X y-X x)+-β*(Y y-Y x)=α*(-X y - -X x)+β*(-Y y - -Y x):=by grind
 have e2:-γ*(X y-X x)+-δ*(Y y-Y x)=γ*(-X y - -X x)+δ*(-Y y - -Y x):=by grind
 rw[e1,e2];exact this
theorem zM{R:List Pt}{x:Pt}(h:∀y∈R,y≠x->lx X Y x y):Ext X Y R x :=
 ⟨1,0,0,1,λy hy hne=>by
  have:=h y hy hne;unfold lx at this;rcases this with h|⟨h,h'⟩
  ·exact .inl (by grind)
  ·exact .inr ⟨by grind,by grind⟩⟩
section
variable{M:List Pt}{a:Tm}{q:Rat}(S:Soon M a q)
include S
theorem lS:∀x∈Rk a (Gu M),∀y∈Rk a (Gu M),y≠x->px y q≠px x q\/py y q≠py x q:=λx hx y hy hne=>by
 have key:∀(l:List Pt),l.Pairwise (lx (px · q) (py · q))->∀x∈l,∀y∈l,y≠x->lx (px · q) (py · q) x y\/lx (px · q) (py · q) y x:=by
  intro l
  induction l with
  |nil=>intro _ x hx;cases hx
  |
   cons w l ih =>
   intro h x hx y hy hne;obtain⟨h1,h2⟩:=Q5.1 h;rcases Qj.1 hx with e|hx'
   ·rcases Qj.1 hy with e'|hy'
    ·exact absurd (e'.trans e.symm) hne
    ·rw[e];exact .inl (h1 y hy')
   ·rcases Qj.1 hy with e'|hy'
    ·rw[e'];exact .inr (h1 x hx')
    ·exact ih h2 x hx' y hy' hne
 rcases key _ S.r x hx y hy hne with h|h <;> unfold lx at h <;> grind
theorem GP{x:Pt}(hx:x∈Gx M a)(h3:3<=(Rk a (Gu M)).length):Ext (px · q) (py · q) (Rk a (Gu M)) x:=by
 obtain⟨f,z,A,B,hA,hB,c1,c2,_⟩:=Bj S h3;have hC:Gx M a=f::A++(z::B):=by
  unfold Gx Ms;rw[if_neg (by omega),hA,hB,Zu,Zu]
 rw[hC]at hx;have hd:=lS S;have hd':∀x∈(Rk a (Gu M)).reverse,∀y∈(Rk a (Gu M)).reverse,y≠x->-px y q≠-px x q\/-py y q≠-py x q:=λx hx y hy hne=>by
  rcases hd x (Xw.1 hx) y (Xw.1 hy) hne with h|h
  ·exact .inl λe=>h (by grind)
  ·exact .inr λe=>h (by grind)
 have hrev:∀{x:Pt},Ext (px · q) (py · q) (Rk a (Gu M)).reverse x->Ext (px · q) (py · q) (Rk a (Gu M)) x:=λ⟨α,β,γ,δ,hl⟩=>⟨α,β,γ,δ,λy hy hne=>hl y (Xw.2 hy) hne⟩
 have hr:=S.r;obtain⟨g,G,hg⟩:∃g G,Rk a (Gu M)=g::G:=by
  cases h:Rk a (Gu M)with
  |nil=>rw[h]at h3;simp at h3
  |cons g G=>exact⟨g,G,rfl⟩
 rcases Qr.1 hx with hx|hx
 ·rcases Qj.1 hx with rfl|hx
  ·refine zM λy hy hne=>?_
   have hh:=c1.hd;rw[hg]at hh;have e:x=g:=by simpa using hh
   rw[hg]at hr hy;rcases Qj.1 hy with h|h
   ·exact absurd (h.trans e.symm) hne
   ·rw[e];exact(Q5.1 hr).1 y h
  ·exact zQ hd c1 hx
 ·rcases Qj.1 hx with rfl|hx
  ·refine hrev (Qaz (zM λy hy hne=>?_));have hh:=c2.hd;have hr':(Rk a (Gu M)).reverse.Pairwise (lx (λp=>-px p q) (λp=>-py p q)):=by
    rw[Ko];exact hr.imp λh=>IQ.2 h
   cases hR:(Rk a (Gu M)).reverse with
   |nil=>rw[hR]at hy;cases hy
   |
    cons w W =>
    rw[hR]at hh hy hr';have e:x=w:=by simpa using hh
    rcases Qj.1 hy with h|h
    ·exact absurd (h.trans e.symm) hne
    ·rw[e];exact(Q5.1 hr').1 y h
  ·exact hrev (Qaz (zQ hd' c2 hx))
end
theorem rE{M:List Pt}{a:Tm}{q:Rat}(S:Soon M a q)(h4:(Gu M).length<=4){x:Pt}(hx:x∈Gu M)(hC:x∉Gx M a) :
 (∃u v,u∈Gu M/\v∈Gu M/\u≠x/\v≠x/\H4 (px · q) (py · q) u v x=0/\lx (px · q) (py · q) u x/\lx (px · q) (py · q) x v) \/
 ∃u v w,u∈Gu M/\v∈Gu M/\w∈Gu M/\u≠x/\v≠x/\w≠x/\0<H4 (px · q) (py · q) u v w/\0<=H4 (px · q) (py · q) u v x/\0<=H4 (px · q) (py · q) v w x/\0<=H4 (px · q) (py · q) w u x:=by
 have hxR:=(Rx (t:=a)).2 hx;have hln:(Rk a (Gu M)).length<=4:=by rw[Dd];exact h4
 by_cases h3:3<=(Rk a (Gu M)).length
 ·obtain⟨f,z,A,B,hA,hB,c1,c2,_⟩:=Bj S h3;have hCC:Gx M a=f::A++(z::B):=by
   unfold Gx Ms;rw[if_neg (by omega),hA,hB,Zu,Zu]
  rw[hCC]at hC;have nf:f≠x:=λe=>hC (by rw[e];simp)
  have nz:z≠x:=λe=>hC (by rw[e];simp)
  have hf:f∈Gu M:=(Rx (t:=a)).1 (c1.mem f (by simp));have hz:z∈Gu M:=(Rx (t:=a)).1 (c1.mem z (by simp));have hnd:(x::(f::A++(z::B))).Pairwise (λu v=>u≠v):=by
   have:=Im S;rw[hCC]at this;exact Q5.2 ⟨λy hy e=>hC (by rw[e];exact hy),this⟩
  have hle:=C7 _ (R:=Rk a (Gu M)) hnd λy hy=>by
   rcases Qj.1 hy with rfl|hy
   ·exact hxR
   ·rcases Qr.1 hy with hy|hy
    ·exact c1.mem y (Xv _ hy)
    ·exact Xw.1 (c2.mem y (Xv _ hy))
  have hsum:A.length+B.length<=1:=by
   simp only[Zf,Q6]at hle;omega
  have neg:∀u v w:Pt,H4 (λp=>-px p q) (λp=>-py p q) u v w=H4 (px · q) (py · q) u v w:=λu v w=>by unfold H4;grind
  have hxr:=Xw.2 hxR
  match A,B,hsum with
  |
   [],[],_ =>
   left;have g1:0<=H4 (px · q) (py · q) f z x:=c1.edg.1 x hxR;have g2:0<=H4 (px · q) (py · q) z f x:=by
    have:=c2.edg.1 x hxr;rwa[neg]at this
   have hr:=S.r;refine⟨f,z,hf,hz,nf,nz,by unfold H4 at g1 g2 ⊢;grind,?_,?_⟩
   ·have hh:=c1.hd;cases hR:Rk a (Gu M)with
    |nil=>rw[hR]at hxR;cases hxR
    |
     cons w W =>
     rw[hR]at hh hr hxR;have e:f=w:=by simpa using hh
     rcases Qj.1 hxR with h|h
     ·exact absurd (e.trans h.symm) nf
     ·rw[e];exact(Q5.1 hr).1 x h
   ·have hh:=c2.hd;have hr':(Rk a (Gu M)).reverse.Pairwise (lx (λp=>-px p q) (λp=>-py p q)):=by
     rw[Ko];exact hr.imp λh=>IQ.2 h
    cases hR:(Rk a (Gu M)).reverse with
    |nil=>rw[hR]at hxr;cases hxr
    |
     cons w W =>
     rw[hR]at hh hr' hxr;have e:z=w:=by simpa using hh
     rcases Qj.1 hxr with h|h
     ·exact absurd (e.trans h.symm) nz
     ·rw[e];exact IQ.1 ((Q5.1 hr').1 x h)
  |
   [p],[],_ =>
   right;have hp:p∈Gu M:=(Rx (t:=a)).1 (c1.mem p (by simp));have np:p≠x:=λe=>hC (by rw[e];simp)
   have g3:0<=H4 (px · q) (py · q) z f x:=by
    have:=c2.edg.1 x hxr;rwa[neg]at this
   exact⟨f,p,z,hf,hp,hz,nf,np,nz,c1.cnv.1,c1.edg.1 x hxR,c1.edg.2.1 x hxR,g3⟩
  |
   [],[p],_ =>
   right;have hp:p∈Gu M:=(Rx (t:=a)).1 (Xw.1 (c2.mem p (by simp)));have np:p≠x:=λe=>hC (by rw[e];simp)
   have g1:0<H4 (λp=>-px p q) (λp=>-py p q) z p f:=c2.cnv.1;have g2:0<=H4 (λp=>-px p q) (λp=>-py p q) z p x:=c2.edg.1 x hxr;have g3:0<=H4 (λp=>-px p q) (λp=>-py p q) p f x:=c2.edg.2.1 x hxr;rw[neg]at g1 g2 g3;exact⟨z,p,f,hz,hp,hf,nz,np,nf,g1,g2,g3,c1.edg.1 x hxR⟩
  |_::_::_,_,h=>simp at h;omega
  | [_],_::_,h=>simp at h;omega
  | [],_::_::_,h=>simp at h
 ·have e:Gx M a=Rk a (Gu M):=by unfold Gx Ms;rw[if_pos (by omega)]
  rw[e]at hC;exact absurd hxR hC
end Orq
namespace Orq
open Orr Go
def nT(sg:Ft->Int)(a b c:Pt):Prop:=Hk sg (G8 a.c b.c c.c)=0/\(Rh sg a c=true/\Rh sg c b=true\/Rh sg b c=true/\Rh sg c a=true)
def O4(sg:Ft->Int)(a b c x:Pt):Prop:=Hk sg (G8 a.c b.c c.c)≠0/\0<=Hk sg (G8 a.c b.c x.c)*Hk sg (G8 a.c b.c c.c)/\0<=Hk sg (G8 b.c c.c x.c)*Hk sg (G8 a.c b.c c.c)/\0<=Hk sg (G8 c.c a.c x.c)*Hk sg (G8 a.c b.c c.c)
def JM(sg:Ft->Int)(x:Pt)(l:List Pt):Prop:=∀(i j:Nat) (a b:Pt),j<i->l[i]? = some a->l[j]? = some b->a.id≠x.id->b.id≠x.id->¬nT sg a b x/\∀(k:Nat) (c:Pt),k<j->l[k]? = some c->c.id≠x.id->¬O4 sg a b c x
theorem RD{u v:Rat}:0<=Gt u*Gt v↔0<=u*v:=by
 rcases Hf u with⟨e1,h1⟩|⟨e1,h1⟩|⟨e1,h1⟩ <;> rcases Hf v with⟨e2,h2⟩|⟨e2,h2⟩|⟨e2,h2⟩ <;> rw[e1,e2]
 ·have:=Xm (show 0 < -u by grind) (show 0 < -v by grind);exact⟨λ_=>by grind,λ_=>by decide⟩
 ·rw[h2,Rat.mul_zero];exact⟨λ_=>Ql,λ_=>by decide⟩
 ·have:=Xm (show 0 < -u by grind) h2;exact⟨λh=>absurd h (by decide),λh=>by exfalso;grind⟩
 ·rw[h1,U0];exact⟨λ_=>Ql,λ_=>by decide⟩
 ·rw[h1,U0];exact⟨λ_=>Ql,λ_=>by decide⟩
 ·rw[h1,U0];exact⟨λ_=>Ql,λ_=>by decide⟩
 ·have:=Xm h1 (show 0 < -v by grind);exact⟨λh=>absurd h (by decide),λh=>by exfalso;grind⟩
 ·rw[h2,Rat.mul_zero];exact⟨λ_=>Ql,λ_=>by decide⟩
 ·have:=Xm h1 h2;exact⟨λ_=>by grind,λ_=>by decide⟩
section
variable{M:List Pt}{a:Tm}{q:Rat}(S:Soon M a q)
include S
theorem Se{u v:Pt}(hu:u∈Gu M)(hv:v∈Gu M)(hne:u≠v):Rh (Hb a) u v=true↔lx (px · q) (py · q) u v:=by
 rw[S.b u (Ht hu) v (Ht hv)];have hp:=lS S v (Rx.2 hv) u (Rx.2 hu) hne;unfold ZY lx;constructor
 ·rintro (h|⟨h,h'|⟨h',_⟩⟩)
  ·exact .inl h
  ·exact .inr ⟨h,h'⟩
  ·exact absurd (hp.elim (λe=>absurd h e) λe=>absurd h' e) id
 ·rintro (h|⟨h,h'⟩)
  ·exact .inl h
  ·exact .inr ⟨h,.inl h'⟩
theorem Ba{u v w x:Pt}(hu:u∈Gu M)(hv:v∈Gu M)(hw:w∈Gu M)(hx:x∈Gu M):O4 (Hb a) u v w x↔H4 (px · q) (py · q) u v w≠0/\0<=H4 (px · q) (py · q) u v x*H4 (px · q) (py · q) u v w/\0<=H4 (px · q) (py · q) v w x*H4 (px · q) (py · q) u v w/\0<=H4 (px · q) (py · q) w u x*H4 (px · q) (py · q) u v w:=by
 have hu:=Ht hu;have hv:=Ht hv;have hw:=Ht hw;have hx:=Ht hx;unfold O4;rw[S.o _ hu _ hv _ hw,S.o _ hu _ hv _ hx,S.o _ hv _ hw _ hx,S.o _ hw _ hu _ hx,RD,RD,RD];exact⟨λ⟨h,h'⟩=>⟨λe=>h (Ha.2 e),h'⟩,λ⟨h,h'⟩=>⟨λe=>h (Ha.1 e),h'⟩⟩
end
theorem kO{p t:Rat}(hp:0<=p)(ht:0<t):0<=p*t:=Jt hp (Qm ht)
theorem fM{p t p' t':Rat}(hp:0<=p)(ht:0<t)(e:p'=-p)(e':t'=-t):0<=p'*t':=by
 have:=kO hp ht;have e2:p'*t'=p*t:=by rw[e,e'];grind
 rw[e2];exact this
theorem EX{M:List Pt}(hl:∀p∈M,Sc p.c)(hd:M.Pairwise λx y=>x.id≠y.id){a:Tm}(ha:Va a)(h4:(Gu M).length≤4){x:Pt}(hx:x∈Gu M):JM (Hb a) x (Gu M)↔x∈Gx M a:=by
 obtain⟨q,S⟩:=Mv hl hd ha;have hWd:If (Gu M):=List.Pairwise.sublist (B5 M) hd;have ne_id:∀{u v:Pt},u∈Gu M->v∈Gu M->u≠v->u.id≠v.id:=λhu hv hne e=>hne (Et hWd hu hv e)
 constructor
 ·intro hc;apply Classical.byContradiction;intro hC;have key:∀{u v:Pt},u∈Gu M->v∈Gu M->u≠x->v≠x->u≠v->∃(i j:Nat) (a' b':Pt),j<i/\(Gu M)[i]? = some a'/\(Gu M)[j]? = some b'/\(a'=u/\b'=v\/a'=v/\b'=u):=λ{u v} hu hv _ _ hne=>by
   obtain⟨i,hi⟩:=Ze hu;obtain⟨j,hj⟩:=Ze hv;rcases J0 i j with h|h|h
   ·exact⟨j,i,v,u,h,hj,hi,.inr ⟨rfl,rfl⟩⟩
   ·subst h;rw[hi]at hj;injection hj with hj;exact absurd hj hne
   ·exact⟨i,j,u,v,h,hi,hj,.inl ⟨rfl,rfl⟩⟩
  rcases rE S h4 hx hC with⟨u,v,hu,hv,nu,nv,h0,h1,h2⟩|⟨u,v,w,hu,hv,hw,nu,nv,nw,h0,h1,h2,h3⟩
  ·have hne:u≠v:=λe=>by rw[e]at h1;exact Dv _ (sP h1 h2)
   have hw1:nT (Hb a) u v x:=by
    refine⟨?_,.inl ⟨(Se S hu hx nu).2 h1,(Se S hx hv nv.symm).2 h2⟩⟩;rw[S.o _ (Ht hu) _ (Ht hv) _ (Ht hx)];exact Ha.2 h0
   have hw2:nT (Hb a) v u x:=by
    refine⟨?_,hw1.2.symm⟩;rw[S.o _ (Ht hv) _ (Ht hu) _ (Ht hx)];exact Ha.2 (by unfold H4 at h0 ⊢;grind)
   obtain⟨i,j,a',b',hij,hi,hj,⟨rfl,rfl⟩|⟨rfl,rfl⟩⟩:=key hu hv nu nv hne
   ·exact(hc i j _ _ hij hi hj (ne_id hu hx nu) (ne_id hv hx nv)).1 hw1
   ·exact(hc i j _ _ hij hi hj (ne_id hv hx nv) (ne_id hu hx nu)).1 hw2
  ·obtain⟨i,hi⟩:=Ze hu;obtain⟨j,hj⟩:=Ze hv;obtain⟨k,hk⟩:=Ze hw;have o0:∀y z,H4 (px · q) (py · q) y y z=0:=λy z=>by unfold H4;grind
   have o1:∀y z,H4 (px · q) (py · q) y z y=0:=λy z=>by unfold H4;grind
   have o2:∀y z,H4 (px · q) (py · q) z y y=0:=λy z=>by unfold H4;grind
   have irr:¬(0:Rat)<0:=by decide
   have nij:i≠j:=λe=>by
    subst e;rw[hi]at hj;injection hj with hj;subst hj;rw[o0]at h0;exact irr h0
   have nik:i≠k:=λe=>by
    subst e;rw[hi]at hk;injection hk with hk;subst hk;rw[o1]at h0;exact irr h0
   have njk:j≠k:=λe=>by
    subst e;rw[hj]at hk;injection hk with hk;subst hk;rw[o2]at h0;exact irr h0
   have a1:H4 (px · q) (py · q) v w u=H4 (px · q) (py · q) u v w:=by unfold H4;grind
   have a2:H4 (px · q) (py · q) w u v=H4 (px · q) (py · q) u v w:=by unfold H4;grind
   have b1:H4 (px · q) (py · q) v u w=-H4 (px · q) (py · q) u v w:=by unfold H4;grind
   have b2:H4 (px · q) (py · q) u w v=-H4 (px · q) (py · q) u v w:=by unfold H4;grind
   have b3:H4 (px · q) (py · q) w v u=-H4 (px · q) (py · q) u v w:=by unfold H4;grind
   have sw:∀y z,H4 (px · q) (py · q) y z x=-H4 (px · q) (py · q) z y x:=λy z=>by unfold H4;grind
   have i1:O4 (Hb a) u v w x:=(Ba S hu hv hw hx).2 ⟨λe=>by rw[e]at h0;exact irr h0,kO h1 h0,kO h2 h0,kO h3 h0⟩;have i2:O4 (Hb a) v w u x:=(Ba S hv hw hu hx).2 ⟨λe=>by rw[a1]at e;rw[e]at h0;exact irr h0,by rw[a1];exact kO h2 h0,by rw[a1];exact kO h3 h0,by rw[a1];exact kO h1 h0⟩;have i3:O4 (Hb a) w u v x:=(Ba S hw hu hv hx).2 ⟨λe=>by rw[a2]at e;rw[e]at h0;exact irr h0,by rw[a2];exact kO h3 h0,by rw[a2];exact kO h1 h0,by rw[a2];exact kO h2 h0⟩;have neg0:∀{t:Rat},t=-H4 (px · q) (py · q) u v w->t≠0:=λ{t} e e'=>by
    rw[e']at e;have:H4 (px · q) (py · q) u v w=0:=by grind
    rw[this]at h0;exact irr h0
   have i4:O4 (Hb a) v u w x:=(Ba S hv hu hw hx).2 ⟨neg0 b1,fM h1 h0 (sw _ _) b1,fM h3 h0 (sw _ _) b1,fM h2 h0 (sw _ _) b1⟩;have i5:O4 (Hb a) u w v x:=(Ba S hu hw hv hx).2 ⟨neg0 b2,fM h3 h0 (sw _ _) b2,fM h2 h0 (sw _ _) b2,fM h1 h0 (sw _ _) b2⟩;have i6:O4 (Hb a) w v u x:=(Ba S hw hv hu hx).2 ⟨neg0 b3,fM h2 h0 (sw _ _) b3,fM h1 h0 (sw _ _) b3,fM h3 h0 (sw _ _) b3⟩;have mu:=ne_id hu hx nu;have mv:=ne_id hv hx nv;have mw:=ne_id hw hx nw;rcases(show(k<j/\j<i)\/(j<k/\k<i)\/(k<i/\i<j)\/(i<k/\k<j)\/(j<i/\i<k)\/(i<j/\j<k) by omega)with⟨s1,s2⟩|⟨s1,s2⟩|⟨s1,s2⟩|⟨s1,s2⟩|⟨s1,s2⟩|⟨s1,s2⟩
   ·exact(hc i j _ _ s2 hi hj mu mv).2 k _ s1 hk mw i1
   ·exact(hc i k _ _ s2 hi hk mu mw).2 j _ s1 hj mv i5
   ·exact(hc j i _ _ s2 hj hi mv mu).2 k _ s1 hk mw i4
   ·exact(hc j k _ _ s2 hj hk mv mw).2 i _ s1 hi mu i2
   ·exact(hc k i _ _ s2 hk hi mw mu).2 j _ s1 hj mv i3
   ·exact(hc k j _ _ s2 hk hj mw mv).2 i _ s1 hi mu i6
 ·intro hC i j u v hij hi hj mu mv;have hu:=Qa hi;have hv:=Qa hj;have nu:u≠x:=λe=>mu (by rw[e])
  have nv:v≠x:=λe=>mv (by rw[e])
  have h3:3<=(Rk a (Gu M)).length:=by
   rw[Dd];obtain⟨n,hn⟩:=Ze hx;have l1:=(Qd.1 hi).1;have l2:=(Qd.1 hn).1;have n1:n≠i:=λe=>by subst e;rw[hi]at hn;injection hn with hn;exact nu hn
   have n2:n≠j:=λe=>by subst e;rw[hj]at hn;injection hn with hn;exact nv hn
   omega
  have E:=GP S hC h3;have R:∀{y},y∈Gu M->y∈Rk a (Gu M):=λh=>Rx.2 h
  constructor
  ·rintro⟨h0,hb⟩
   rw[S.o _ (Ht hu) _ (Ht hv) _ (Ht hx)]at h0;have h0:=Ha.1 h0;rcases hb with⟨h1,h2⟩|⟨h1,h2⟩
   ·exact Oi E (R hu) (R hv) nu nv h0 ((Se S hu hx nu).1 h1) ((Se S hx hv nv.symm).1 h2)
   ·exact Oi E (R hv) (R hu) nv nu (by unfold H4 at h0 ⊢;grind) ((Se S hv hx nv).1 h1) ((Se S hx hu nu.symm).1 h2)
  ·intro k w hk hw mw hin;have hw:=Qa hw;have nw:w≠x:=λe=>mw (by rw[e])
   obtain⟨g0,g1,g2,g3⟩:=(Ba S hu hv hw hx).1 hin;exact Qis E (R hu) (R hv) (R hw) nu nv nw g0 g1 g2 g3
end Orq
namespace Orr
open Orq
end Orr
namespace Orq
open Orr Go
def FW(s:Ft)(i:Nat):Pt:=⟨⟨trim [(i:Int)],trim [s.getD i 0,(i:Int)],1⟩,10-(i:Int)⟩
end Orq
namespace Orr
end Orr
namespace Orq
open Orr Go
section
variable{α:Type}{s:α->α->α->Bool}{S:α->Prop}
end
def hfn(s:Ft)(same:Bool)(i:Nat):Ft:=if same=true then [3,2]else trim [s.getD i 0,(i:Int)]
def hpt(s:Ft)(same:Bool)(i:Nat):Pt:=⟨⟨hfn s same i,Mt (hfn s same i) (hfn s same i),1⟩,(i:Int)⟩
def Ee(s:Ft)(t:Int)(i:Nat):Int:=s.getD i 0+(i:Int)*t
end Orq
namespace Orq
open Orr Go
theorem Qil{C:List Pt}{i:Nat}{x y:Pt}(hx:C[i]? = some x)(hy:C[(i+1) % C.length]? = some y):(x,y)∈Ln C:=by
 have hi:=(Qd.1 hx).1;unfold Ln;refine Qa (i:=i) ?_;rw[List.getElem?_zip_eq_some];refine⟨hx,?_⟩;by_cases h:i+1<C.length
 ·rw[Xf h]at hy;rw[Q3 (by rw[Xz];omega),Xi,Yl 1 i];exact hy
 ·have e:i+1=C.length:=by omega
  rw[e,W9]at hy;rw[Zk (by rw[Xz];omega),Xz,show i-(C.length-1)=0 by omega,Ja (by decide)];exact hy
theorem Qdu{l:List Pt}(hl:∀p∈l,Sc p.c)(hd:l.Pairwise λx y=>x.id≠y.id){a:Tm}(ha:Va a)(h0:0<l.length):0<(Gx l a).length:=by
 obtain⟨q,S⟩:=Mv hl hd ha;by_cases h3:3<=(Rk a (Gu l)).length
 ·obtain⟨f,z,A,B,hA,hB,_⟩:=Bj S h3;unfold Gx Ms;rw[if_neg (by omega),hA,hB,Zu,Zu];simp
 ·have hC:Gx l a=Rk a (Gu l):=by unfold Gx Ms;rw[if_pos (by omega)]
  rw[hC];cases l with
  |nil=>exact absurd h0 (by decide)
  |
   cons p l =>
   obtain⟨w,hw,_⟩:=OA (l:=p::l) (p:=p) (by simp);exact List.length_pos_of_mem (Rx.2 hw)
noncomputable def cd0(P:Prop):Bool := @decide P (Classical.propDecidable P)
theorem WA{P:Prop}(h:P):cd0 P=true := @decide_eq_true P (Classical.propDecidable P) h
theorem Ch{P:Prop}(h:¬P):cd0 P=false := @decide_eq_false P (Classical.propDecidable P) h
theorem vV{P:Prop}:cd0 P=true↔P := @decide_eq_true_iff P (Classical.propDecidable P)
noncomputable def cornF(sg:Ft->Int)(W:List Pt):List Pt:=W.filter λx=>cd0 (JM sg x W)
def Qwm(sg:Ft->Int)(ids:Ft)(W:List Pt):Prop:=ids.length=(cornF sg W).length/\∃out:List Pt,out.map (·.id)=ids/\(∀x∈out,x∈cornF sg W)/\(∀(i:Nat) (f x:Pt),0<i->out[0]? = some f->out[i]? = some x->Rh sg f x=true)/\∀(i j k:Nat) (x y z:Pt),k<j->j<i->out[i]? = some x->out[j]? = some y->out[k]? = some z->0<Hk sg (G8 z.c y.c x.c)
theorem Qf8{M:List Pt}(hM:MOk M){a:Tm}(ha:Va a)(h4:M.length<=4):Qwm (Hb a) ((Gx M a).map (·.id)) (Gu M):=by
 have hl:=hM.sc;have hd:=hM.df;have hw4:(Gu M).length<=4:=Qe (VA M) h4;have hmem:∀x,x∈cornF (Hb a) (Gu M)↔x∈Gx M a:=λx=>by
  unfold cornF;rw[Jl,vV];constructor
  ·rintro⟨h1,h2⟩;exact(EX hl hd ha hw4 h1).1 h2
  ·intro h;have h1:x∈Gu M:=Rx.1 (Bu h);exact⟨h1,(EX hl hd ha hw4 h1).2 h⟩
 obtain⟨q,S⟩:=Mv hl hd ha;have nd1:=Im S;have nd2:(cornF (Hb a) (Gu M)).Pairwise λx y=>x≠y:=by
  have:M.Pairwise λx y=>x≠y:=hd.imp λh e=>h (by rw[e])
  exact List.Pairwise.sublist (List.filter_sublist.trans (B5 M)) this
 have hc4:(Gx M a).length<=4:=Qe (Qjj hM ha) h4;refine⟨?_,Gx M a,rfl,λx hx=>(hmem x).2 hx,λi f x hi h0 hx=>yN hl hd ha h0 hx hi,λi j k x y z hkj hji hx hy hz=>?_⟩
 ·rw[Q4];exact Vq (C7 _ nd1 λx hx=>(hmem x).2 hx) (C7 _ nd2 λx hx=>(hmem x).1 hx)
 ·have li:=(Qd.1 hx).1;have tn:=λ{i:Nat} {x y w:Pt}=>gQ (i:=i) (x:=x) (y:=y) (w:=w) hl hd ha (show 2<(Gx M a).length by omega)
  have cyc:∀u v w:Pt,u∈Gx M a->v∈Gx M a->w∈Gx M a->Hk (Hb a) (G8 u.c v.c w.c)=Hk (Hb a) (G8 v.c w.c u.c):=λu v w hu hv hw=>by
   rw[S.o _ (S4 hu) _ (S4 hv) _ (S4 hw),S.o _ (S4 hv) _ (S4 hw) _ (S4 hu)];congr 1;unfold H4;grind
  have mx:=Qa hx;have my:=Qa hy;have mz:=Qa hz;rcases(show(Gx M a).length=3\/(Gx M a).length=4 by omega)with e|e
  ·obtain⟨rfl,rfl,rfl⟩:k=0/\j=1/\i=2:=by omega
   exact tn hz (by rw[e];exact hy) (by rw[e];exact hx)
  ·rcases(show(k=0/\j=1/\i=2)\/(k=0/\j=1/\i=3)\/(k=0/\j=2/\i=3)\/(k=1/\j=2/\i=3) by omega)with⟨rfl,rfl,rfl⟩|⟨rfl,rfl,rfl⟩|⟨rfl,rfl,rfl⟩|⟨rfl,rfl,rfl⟩
   ·exact tn hz (by rw[e];exact hy) (by rw[e];exact hx)
   ·rw[cyc _ _ _ mz my mx,cyc _ _ _ my mx mz];exact tn hx (by rw[e];exact hz) (by rw[e];exact hy)
   ·rw[cyc _ _ _ mz my mx];exact tn hy (by rw[e];exact hx) (by rw[e];exact hz)
   ·exact tn hz (by rw[e];exact hy) (by rw[e];exact hx)
def lK(W:List Pt)(x:Pt)(i j:Nat):List P3:=Df i W++(Tr j (W.drop (i+1))).map (λm=>(x,m))
def YZ(W:List Pt)(x y:Pt)(i j k:Nat):List P3:=Df i W++(Tr j (W.drop (i+1))++(((W.drop (i+1)).drop (j+1)).take k).map (λz=>(y,z))).map (λm=>(x,m))
theorem VH(W:List Pt)(x:Pt)(i:Nat):lK W x i 0=Df i W:=by simp[lK,Tr]
theorem VR(W:List Pt)(x y:Pt)(i j:Nat):YZ W x y i j 0=lK W x i j:=by simp[YZ,lK]
theorem IS{W:List Pt}{x y z:Pt}{i j k:Nat}(h:((W.drop (i+1)).drop (j+1))[k]? = some z):YZ W x y i j (k+1)=YZ W x y i j k++[(x,y,z)]:=by
 unfold YZ;rw[X6,h];simp
theorem wW{W:List Pt}{x y:Pt}{i j k:Nat}(hy:(W.drop (i+1))[j]? = some y)(hk:((W.drop (i+1)).drop (j+1)).length<=k):YZ W x y i j k=lK W x i (j+1):=by
 unfold YZ lK;rw[Qp hk,E6 _ j y hy]
theorem wK{W:List Pt}{x:Pt}{i j:Nat}(hx:W[i]? = some x)(hj:j=(W.drop (i+1)).length):lK W x i j=Df (i+1) W:=by
 unfold lK;rw[hj,WU W i x hx];rfl
theorem uN{W:List Pt}{i:Nat}(h:i=W.length):Df i W=Pj W:=by rw[h];rfl
theorem UO:∀(k:Nat) (l:List Pt),∃r,H5 l=Tr k l++r
 | 0,l=>⟨H5 l,rfl⟩
 |k+1,[]=>⟨[],rfl⟩
 |
  k+1,x::l=>by
  obtain⟨r,h⟩:=UO k l;exact⟨r,by show l.map _++Tr l.length l=l.map _++Tr k l++r;rw[show Tr l.length l=H5 l from rfl,h,Zj]⟩
theorem ON:∀(k:Nat) (l:List Pt),∃r,Pj l=Df k l++r
 | 0,l=>⟨Pj l,rfl⟩
 |k+1,[]=>⟨[],rfl⟩
 |
  k+1,x::l=>by
  obtain⟨r,h⟩:=ON k l;exact⟨r,by show(H5 l).map _++Df l.length l=(H5 l).map _++Df k l++r;rw[show Df l.length l=Pj l from rfl,h,Zj]⟩
theorem Qb3{W:List Pt}(h6:W.length<=6){x y:Pt}{i j k:Nat}(hx:W[i]? = some x)(hy:(W.drop (i+1))[j]? = some y):(YZ W x y i j k).length<=20:=by
 have h0:=(RE h6).1;obtain⟨r,hr⟩:=ON (i+1) W;rw[WU W i x hx]at hr;obtain⟨r2,hr2⟩:=UO (j+1) (W.drop (i+1));rw[E6 _ j y hy]at hr2;have e1:=congrArg List.length hr;have e2:=congrArg List.length hr2;have e3:(((W.drop (i+1)).drop (j+1)).take k).length<=((W.drop (i+1)).drop (j+1)).length:=by rw[Qz];exact Nat.min_le_right _ _
 unfold YZ;simp only[Q6,Q4]at e1 e2 ⊢;omega
theorem jH(p:Ft)(q:Rat):-1<=Hq p q/\Hq p q<=1:=by
 rw[Sf];unfold Gt
 split
 ·exact⟨by decide,by decide⟩
 ·split <;> exact⟨by decide,by decide⟩
theorem Ql8{p:Ft}{a:Tm}{s:Int}(h:UK p a=some s):-1<=s/\s<=1:=by
 unfold UK at h
 split at h
 ·injection h with h;subst h;exact⟨by decide,by decide⟩
 ·split at h
  ·injection h with h;subst h;exact jH _ _
  ·obtain⟨g,_,h⟩:=Qk.1 h
   split at h
   ·injection h with h;subst h;exact⟨by decide,by decide⟩
   ·obtain⟨c,_,h⟩:=Qk.1 h;obtain⟨x,_,h⟩:=Qk.1 h;injection h with h;subst h;exact jH _ _
theorem Iu(a:Tm)(p:Ft):-1<=Hk (Hb a) p/\Hk (Hb a) p<=1:=by
 have hs:∀p,-1<=Hb a p/\Hb a p<=1:=λp=>by
  unfold Hb;cases h:UK p a with
  |none=>exact⟨by decide,by decide⟩
  |some s=>exact Ql8 h
 have key:∀(k:Nat) (p:Ft),-1<=Pm (Hb a) k p/\Pm (Hb a) k p<=1:=by
  intro k
  induction k with
  |zero=>intro p;exact⟨by simp[Pm],by simp[Pm]⟩
  |
   succ k ih =>
   intro p;simp only[Pm]
   split
   ·exact⟨by decide,by decide⟩
   ·split
    ·exact ih _
    ·exact hs p
 exact key _ p
end Orq
namespace Orr
open Go Go.Proofs Tryz Orq
set_option maxRecDepth 10000
def Qm5(sg:Ft->Int)(a b c:Pt):Bool:=decide (Hk sg (G8 a.c b.c c.c)=0) && ((Rh sg a c && Rh sg c b) || (Rh sg b c && Rh sg c a))
theorem nR{sg:Ft->Int}{a b c:Pt}:Qm5 sg a b c=true↔nT sg a b c:=by
 unfold Qm5 nT;simp
def Qjl(sg:Ft->Int)(a b c x:Pt):Bool := !decide (Hk sg (G8 a.c b.c c.c)=0) && (decide (0<=Hk sg (G8 a.c b.c x.c)*Hk sg (G8 a.c b.c c.c)) && (decide (0<=Hk sg (G8 b.c c.c x.c)*Hk sg (G8 a.c b.c c.c)) && decide (0<=Hk sg (G8 c.c a.c x.c)*Hk sg (G8 a.c b.c c.c))))
theorem sV{sg:Ft->Int}{a b c x:Pt}:Qjl sg a b c x=true↔O4 sg a b c x:=by
 unfold Qjl O4;simp
section
variable{l:List Pt}{t:Tm}{x:Pt}
def Gd1(sg:Ft->Int)(x:Pt)(l:List Pt)(j:Nat)(a b:Pt):Prop:=a.id≠x.id->b.id≠x.id->¬nT sg a b x/\∀(k:Nat) (c:Pt),k<j->l[k]? = some c->c.id≠x.id->¬O4 sg a b c x
end
end Orr
namespace Orr
open Go Go.Proofs Tryz Orq
def qJ(sg:Ft->Int)(W:List Pt)(m:P3):Bool:=decide (Hk sg (G8 m.1.c m.2.1.c m.2.2.c)≠0) && W.all λd=>decide (d.id=m.1.id\/d.id=m.2.1.id\/d.id=m.2.2.id) || !decide (0<Hk sg (G8 m.1.c m.2.1.c m.2.2.c)*Hk sg (Ei m.1.c m.2.1.c m.2.2.c d.c))
end Orr
namespace Orr
open Go Go.Proofs Tryz Orq
set_option maxRecDepth 10000
def AI(M:List Pt)(x:Pt):Bool:=M.all λy=>decide (x.id<=y.id) || !Ak x.c y.c
theorem Qfm(A:List Pt)(x:Pt):Gu (A++[x])=Nb (Gu A) x:=by unfold Gu;rw[List.foldl_append];rfl
theorem yG:∀(n:Nat) {A:List Pt},A.length=n->Mj A->A.filter (AI A)=Gu A
 |
  0,A,h,_=>by
  obtain rfl:=Qf h;rfl
 |
  n+1,A,h,hs=>by
  obtain⟨B,x,rfl⟩:∃B x,A=B++[x]:=⟨A.dropLast,A.getLast (by intro e;rw[e]at h;cases h),(Vj _).symm⟩;obtain⟨s1,_,s3⟩:=Zv.1 hs;have ih:=yG n (A:=B) (by simpa using h) s1;have hlt:∀y∈B,y.id<x.id:=λy hy=>s3 y hy x (by simp)
  rw[Qfm,J7];have e1:B.filter (AI (B++[x]))=Gu B:=by
   rw[<-ih];refine List.filter_congr λz hz=>?_
   unfold AI;rw[U4];have:decide (z.id<=x.id)=true:=decide_eq_true (by have:=hlt z hz;omega);simp[this]
  rw[e1];have e2:AI (B++[x]) x = !((Gu B).any λq=>Ak x.c q.c):=by
   unfold AI;rw[Y9,Jd,Kg,List.any_eq_false];constructor
   ·intro h q hq;have hqB:=Ht hq;have:=h q (Xv _ hqB);have l:=hlt q hqB;rw[Vp,decide_eq_true_eq,Kg]at this;rcases this with h'|h'
    ·omega
    ·rw[h'];decide
   ·intro h y hy;rcases Qr.1 hy with hy|hy
    ·obtain⟨w,hw,hc⟩:=OA hy;have:=h w hw;rw[hc]at this;rw[Vp,Kg];exact .inr (by simpa using this)
    ·rw[Qo.1 hy];simp
  unfold Nb;by_cases hb:((Gu B).any λq=>Ak x.c q.c)=true
  ·rw[if_pos hb];simp[e2,hb]
  ·rw[if_neg hb];simp[e2,hb]
theorem Qm1{M:List Pt}(hs:Mj M):M.filter (AI M)=Gu M:=yG _ rfl hs
section
variable{M:List Pt}{t:Tm}(hs:Mj M)(hsc:∀p∈M,Sc p.c)(hn:M.length≤1000000)
include hsc hn
include hs in
end
end Orr
namespace Orr
open Go Go.Proofs Tryz Orq
set_option maxRecDepth 10000
structure Rw(k m:Crv):Prop where
 c:Cs 128 3 k
 e:Crv.norm k=m
theorem Rw.s{k m:Crv}(h:Rw k m):Sc m:=by
 rw[<-h.e];exact⟨k.nml,h.c.norm (by decide)⟩
theorem Ny{p:Pt}(h:Cs 128 3 p.c):Rw p.c p.nrm.c:=⟨h,rfl⟩
theorem C0{k m:Crv}(r:Rw k m):Fo 192 [.agg (cl k)] [.agg (cl m)]:=by
 have hk:Cs 4294967294 1073741824 k:=r.c.mono (by decide) (by decide);rw[<-r.e];by_cases h0:k.d=0
 ·have co:=bH (z:=1) (by decide);have hk1:Cs 4294967294 1073741824 (Crv.mk k.x k.y 1):=⟨hk.x,hk.y,by show Gy (1:Int)<=4294967294;decide,hk.lx,hk.ly⟩;have cm:=iO (Pe k.x) (Pe k.y) (Gl 1) hk1 (by decide);have e:Crv.norm (Crv.mk k.x k.y 1)=k.norm:=by
   have e1:(Crv.mk k.x k.y 1).d'=k.d':=by unfold Crv.d';rw[if_pos h0];rfl
   unfold Crv.norm Crv.g;rw[e1]
  rw[e]at cm;exact Fi func192 rfl [.k (XT (Gl k.d) (Qe hk.d (by omega))),.k YU,.t (by simpa using h0),.k co,.k cm] rfl
 have cm:=iO (Pe k.x) (Pe k.y) (Gl k.d) hk h0;rw[show Crv.mk k.x k.y k.d=k from rfl]at cm;exact Fi func192 rfl [.k (XT (Gl k.d) (Qe hk.d (by omega))),.k YU,.f (by simpa using h0),.k cm] rfl
theorem gA{k m:Crv}(r:Rw k m):Fo 239 [.agg (cl k)] [.agg (cl m)]:=by
 have h:=oQ (Pe k.x) (Pe k.y) (Gl k.d) (r.c.mono (by decide) (by decide));rw[show Crv.mk k.x k.y k.d=k from rfl,r.e]at h;exact h
theorem LZ{a0 b0 a b:Crv}(ra:Rw a0 a)(rb:Rw b0 b)(ha:UF a)(hb:UF b)(ca:Cb a)(cb:Cb b):Fo 181 [.agg (cl a0),.agg (cl b0)] [pr (Hi a b)]:=by
 have l1:=ca.lx;have l2:=cb.lx;have l3:=Gz b.x a.d;have l4:=Gz a.x b.d;exact Fi func181 rfl [.k (C0 ra),.k (C0 rb),.k (Cy (by omega) (Gd cb.x (by omega)) (Qe ca.d (by omega))),.k (Cy (by omega) (Gd ca.x (by omega)) (Qe cb.d (by omega))),.k (SX (by omega) (by omega) (Gd (G9 cb.x ca.d) (by omega)) (Gd (G9 ca.x cb.d) (by omega)))] rfl
theorem DO{a0 b0 a b:Crv}(ra:Rw a0 a)(rb:Rw b0 b)(ha:UF a)(hb:UF b)(ca:Cb a)(cb:Cb b):Fo 182 [.agg (cl a0),.agg (cl b0)] [pr (Hh a b)]:=by
 have l1:=ca.ly;have l2:=cb.ly;have l3:=Gz b.y a.d;have l4:=Gz a.y b.d;exact Fi func182 rfl [.k (C0 ra),.k (C0 rb),.k (Cy (by omega) (Gd cb.y (by omega)) (Qe ca.d (by omega))),.k (Cy (by omega) (Gd ca.y (by omega)) (Qe cb.d (by omega))),.k (SX (by omega) (by omega) (Gd (G9 cb.y ca.d) (by omega)) (Gd (G9 ca.y cb.d) (by omega)))] rfl
theorem qB{a0 b0 a b:Crv}(ra:Rw a0 a)(rb:Rw b0 b)(ha:UF a)(hb:UF b)(ca:Cb a)(cb:Cb b):Fo 195 [.agg (cl a0),.agg (cl b0)] [pr (Ts a b)]:=by
 obtain⟨p1,l1,b1⟩:=pG ca cb;obtain⟨p2,l2,b2⟩:=pU ca cb;have m1:=Te (Hi a b) (Hi a b);have m2:=Te (Hh a b) (Hh a b);have q1:=Si (u:=5) b1 b1 (by omega);have q2:=Si (u:=5) b2 b2 (by omega);exact Fi func195 rfl [.k (LZ ra rb ha hb ca cb),.k (DO ra rb ha hb ca cb),.k (LQ p1.t p1.t (by omega) (by omega) b1 b1 (by omega)),.k (LQ p2.t p2.t (by omega) (by omega) b2 b2 (by omega)),.k (yL (by omega) (by omega) (Gd q1 (by omega)) (Gd q2 (by omega)))] rfl
theorem bF{a0 b0 c0 d0 a b c d:Crv}(ra:Rw a0 a)(rb:Rw b0 b)(rc:Rw c0 c)(rd:Rw d0 d)(ha:UF a)(hb:UF b)(hc:UF c)(hd:UF d)(ca:Cb a)(cb:Cb b)(cc:Cb c)(cd:Cb d):Fo 80 [.agg (cl a0),.agg (cl b0),.agg (cl c0),.agg (cl d0)] [pr (H8 a b c d)]:=by
 have na:=C0 ra;have nb:=C0 rb;have nc:=C0 rc;have nd:=C0 rd;have s1:=dM ca cb;have s2:=dM cc cd;have s3:=Qbc ca cb;have s4:=Qbc cc cd;have da:=ca.d;have db:=cb.d;have dc:=cc.d;have dd:=cd.d;obtain⟨t1,l1,b1⟩:=pF cc cd;obtain⟨t2,l2,b2⟩:=pF ca cb;have k1:=Gz (Ts c d) ((a.d*b.d)*(a.d*b.d));have k2:=Gz (Ts a b) ((c.d*d.d)*(c.d*d.d));have w1:=Do (Gl a.d) (Gl b.d) (by omega) (by omega);have w2:=Do (Gl c.d) (Gl d.d) (by omega) (by omega);have w3:=Do (Gl (a.d*b.d)) (Gl (a.d*b.d)) (by omega) (by omega);have w4:=Do (Gl (c.d*d.d)) (Gl (c.d*d.d)) (by omega) (by omega);have p1:=Cy (p:=Ts c d) (c:=(a.d*b.d)*(a.d*b.d)) (by omega) (Gd b1 (by omega)) (by omega);have p2:=Cy (p:=Ts a b) (c:=(c.d*d.d)*(c.d*d.d)) (by omega) (Gd b2 (by omega)) (by omega);have p3:=SX (p:=Gs (Ts c d) ((a.d*b.d)*(a.d*b.d))) (q:=Gs (Ts a b) ((c.d*d.d)*(c.d*d.d))) (by omega) (by omega) (Gd (G9 b1 s3) (by omega)) (Gd (G9 b2 s4) (by omega));exact Fi func80 rfl [.k na,.k nb,.k w1,.k nc,.k nd,.k w2,.k (qB rc rd hc hd cc cd),.k w3,.k p1,.k (qB ra rb ha hb ca cb),.k w4,.k p2,.k p3] rfl
theorem vZ{k0 k:Crv}(rk:Rw k0 k)(hk:Sc k):Fo 279 [.agg (cl k0)] [.one (.row (VP [k.x,k.y,[k.d]]))]:=by
 have h0:k.d≠0:=by have:=hk.n.2.2.1;omega
 have td:Gh [k.d]:=by unfold Gh;simp[trim,h0]
 have cd:=Qgi (r:=[k.x,k.y,[k.d]]) (λp hp=>by
  rcases Qj.1 hp with rfl|hp
  ·exact hk.n.1
  rcases Qj.1 hp with rfl|hp
  ·exact hk.n.2.1
  ·rw[Qo.1 hp];exact td) (λp hp=>by
  rcases Qj.1 hp with rfl|hp
  ·exact Gd hk.c.x (by decide)
  rcases Qj.1 hp with rfl|hp
  ·exact Gd hk.c.y (by decide)
  ·rw[Qo.1 hp];intro z hz;rw[Qo.1 hz];exact Qe hk.c.d (by decide)) (λp hp=>by
  rcases Qj.1 hp with rfl|hp
  ·have:=hk.c.lx;omega
  rcases Qj.1 hp with rfl|hp
  ·have:=hk.c.ly;omega
  ·rw[Qo.1 hp];show 1<=1000000;decide) (by show 3<=1000;decide)
 exact Fi func279 rfl [.k (C0 rk),.k cd] rfl
theorem Qdd{a0 b0 c0 a b c:Crv}(ra:Rw a0 a)(rb:Rw b0 b)(rc:Rw c0 c)(ha:Sc a)(hb:Sc b)(hc:Sc c):Fo 186 [.agg (cl a0),.agg (cl b0),.agg (cl c0)] [pr (G8 a b c)]:=by
 have cd:=Qr6 (by decide) (k:=3) (ds:=[2,2,0]) (by decide) rfl (by decide) (mC ha hb hc);exact Fi func186 rfl [.k (vZ ra ha),.k (vZ rb hb),.k (vZ rc hc),.k cd] rfl
theorem BC{k0 k:Crv}(rk:Rw k0 k)(hk:Sc k):Fo 282 [.agg (cl k0)] [.one (.row (VP (JE k)))]:=by
 have ok:=HE hk.n hk.c;have l1:=Te k.x k.x;have l2:=Te k.y k.y;have:=hk.c.lx;have:=hk.c.ly;have bx:Bd 258 (Gq k.x k.x):=Si (u:=2) hk.c.x hk.c.x (by omega);have by_:Bd 258 (Gq k.y k.y):=Si (u:=2) hk.c.y hk.c.y (by omega);have c1:=Cy (p:=k.x) (c:=k.d) (by omega) (Gd hk.c.x (by decide)) (Qe hk.c.d (by decide));have c2:=Cy (p:=k.y) (c:=k.d) (by omega) (Gd hk.c.y (by decide)) (Qe hk.c.d (by decide));have c3:=LQ (p:=k.x) (q:=k.x) hk.n.1 hk.n.1 (by omega) (by omega) hk.c.x hk.c.x (by decide);have c4:=LQ (p:=k.y) (q:=k.y) hk.n.2.1 hk.n.2.1 (by omega) (by omega) hk.c.y hk.c.y (by decide);have c5:=yL (p:=Gq k.x k.x) (q:=Gq k.y k.y) (by omega) (by omega) (Gd bx (by decide)) (Gd by_ (by decide));have c6:=Do (Gl k.d) (Gl k.d) (Qe hk.c.d (by decide)) (Qe hk.c.d (by decide));have hl:∀p∈JE k,p.length≤1000000:=λp hp=>by
  obtain⟨j,hj⟩:=Ze hp;have h1:=ok.2 j p hj;have:[2,2,4,0].getD j 0<=4:=by
   match j with
   | 0=>decide
   | 1=>decide
   | 2=>decide
   | 3=>decide
   |j+4=>simp
  omega
 have cd:=Qgi (r:=JE k) (λp hp=>(ok.1 p hp).1) (λp hp=>Gd (ok.1 p hp).2 (by decide)) hl (by show 4<=1000;decide);exact Fi func282 rfl [.k (C0 rk),.k c1,.k c2,.k c3,.k c4,.k c5,.k c6,.k cd] rfl
theorem Qdc{a0 b0 c0 d0 a b c d:Crv}(ra:Rw a0 a)(rb:Rw b0 b)(rc:Rw c0 c)(rd:Rw d0 d)(ha:Sc a)(hb:Sc b)(hc:Sc c)(hd:Sc d):Fo 187 [.agg (cl a0),.agg (cl b0),.agg (cl c0),.agg (cl d0)] [pr (Ei a b c d)]:=by
 have cd:=Qr6 (by decide) (k:=4) (ds:=[2,2,4,0]) (by decide) rfl (by decide) (mB ha.n hb.n hc.n hd.n ha.c hb.c hc.c hd.c);exact Fi func187 rfl [.k (BC ra ha),.k (BC rb hb),.k (BC rc hc),.k (BC rd hd),.k cd] rfl
theorem Qg5{a0 b0 a b:Crv}(ra:Rw a0 a)(rb:Rw b0 b)(ha:UF a)(hb:UF b)(ca:Cs 4294967294 1073741824 a)(cb:Cs 4294967294 1073741824 b):Fo 278 [.agg (cl a0),.agg (cl b0)] [.one (.bool (Ak a b))]:=by
 have na:=gA ra;have nb:=gA rb;have alx:=ca.lx;have aly:=ca.ly;have blx:=cb.lx;have bly:=cb.ly;have sx:=iP (p:=a.x) (q:=b.x) (by omega) (by omega) (Gd ca.x (by omega)) (Gd cb.x (by omega));have sy:=iP (p:=a.y) (q:=b.y) (by omega) (by omega) (Gd ca.y (by omega)) (Gd cb.y (by omega));have sd:=yI (Gl a.d) (Gl b.d) (Qe ca.d (by omega)) (Qe cb.d (by omega));rw[ha.1,hb.1]at sx;rw[ha.2.1,hb.2.1]at sy;by_cases h1:a.x=b.x
 ·by_cases h2:a.y=b.y
  ·exact Fi func278 rfl [.k na,.k nb,.k sx,.t (by simpa using h1),.k sy,.t (by simpa using h2),.k sd] rfl (by simp[Ak,h1,h2,vW]) trivial
  exact Fi func278 rfl [.k na,.k nb,.k sx,.t (by simpa using h1),.k sy,.f (by simpa using h2)] rfl (by simp[Ak,h1,h2]) trivial
 exact Fi func278 rfl [.k na,.k nb,.k sx,.f (by simpa using h1),.f rfl] rfl (by simp[Ak,h1]) trivial
section
variable{a b c d:Pt}{t:Tm}(ha:Cs 128 3 a.c)(hb:Cs 128 3 b.c)
include ha hb
theorem D5(ht:Va t):Fo 72 [.agg (Sl a),.agg (Sl b),.agg (ta t)] [.one (.bool (Rh (Hb t) a.nrm b.nrm))]:=by
 have ra:=Ny ha;have rb:=Ny hb;exact Fi func72 rfl [.k (LZ ra rb ra.s.n rb.s.n ra.s.cb rb.s.cb),.k (DO ra rb ra.s.n rb.s.n ra.s.cb rb.s.cb),.k (gI (t:=t) (a:=a) (b:=b) (ps:=[Hi a.nrm.c b.nrm.c,Hh a.nrm.c b.nrm.c]) (λp hp=>by
  simp at hp;rcases hp with rfl|rfl
  ·exact(C4 ra.s rb.s).dp
  ·exact(C3 ra.s rb.s).dp) ht (show 2<1000 by decide))] rfl
theorem Qgf(ht:Va t):Fo 78 [.agg (Sl a),.agg (Sl b),.agg (ta t)] [.one (.bool (JB (Hb t) a.nrm b.nrm))]:=by
 have ra:=Ny ha;have rb:=Ny hb;exact Fi func78 rfl [.k (DO rb ra rb.s.n ra.s.n rb.s.cb ra.s.cb),.k (LZ rb ra rb.s.n ra.s.n rb.s.cb ra.s.cb),.k (gI (t:=t) (a:=a) (b:=b) (ps:=[Hh b.nrm.c a.nrm.c,Hi b.nrm.c a.nrm.c]) (λp hp=>by
  simp at hp;rcases hp with rfl|rfl
  ·exact(C3 rb.s ra.s).dp
  ·exact(C4 rb.s ra.s).dp) ht (show 2<1000 by decide))] rfl
theorem Qdh:Fo 183 [.agg (cl a.c),.agg (cl b.c)] [.one (.bool (Ak a.nrm.c b.nrm.c))]:=by
 have ra:=Ny ha;have rb:=Ny hb;exact Fi func183 rfl [.k (Qg5 ra rb ra.s.n rb.s.n (ra.s.c.mono (by decide) (by decide)) (rb.s.c.mono (by decide) (by decide)))] rfl
variable(hc:Cs 128 3 c.c)
include hc
theorem Ey(ht:Va t):Fo 75 [.agg (ta t),.agg (Sl a),.agg (Sl b),.agg (Sl c)] [.oi (Hk (Hb t) (G8 a.nrm.c b.nrm.c c.nrm.c))]:=by
 have ra:=Ny ha;have rb:=Ny hb;have rc:=Ny hc;exact Fi func75 rfl [.k (Qdd ra rb rc ra.s rb.s rc.s),.k (oK (SK ra.s rb.s rc.s).dp ht)] rfl
variable(hd:Cs 128 3 d.c)
include hd
theorem Qtz(ht:Va t):Fo 80 [.agg (cl a.c),.agg (cl b.c),.agg (cl c.c),.agg (cl d.c)] [pr (H8 a.nrm.c b.nrm.c c.nrm.c d.nrm.c)]/\Fo 79 [pr (H8 a.nrm.c b.nrm.c c.nrm.c d.nrm.c),.agg (ta t)] [.oi (Hk (Hb t) (H8 a.nrm.c b.nrm.c c.nrm.c d.nrm.c))]:=by
 have ra:=Ny ha;have rb:=Ny hb;have rc:=Ny hc;have rd:=Ny hd;exact⟨bF ra rb rc rd ra.s.n rb.s.n rc.s.n rd.s.n ra.s.cb rb.s.cb rc.s.cb rd.s.cb,oK (US ra.s rb.s rc.s rd.s).dp ht⟩
theorem Qty(ht:Va t):Fo 187 [.agg (cl a.c),.agg (cl b.c),.agg (cl c.c),.agg (cl d.c)] [pr (Ei a.nrm.c b.nrm.c c.nrm.c d.nrm.c)]/\Fo 79 [pr (Ei a.nrm.c b.nrm.c c.nrm.c d.nrm.c),.agg (ta t)] [.oi (Hk (Hb t) (Ei a.nrm.c b.nrm.c c.nrm.c d.nrm.c))]:=by
 have ra:=Ny ha;have rb:=Ny hb;have rc:=Ny hc;have rd:=Ny hd;exact⟨Qdc ra rb rc rd ra.s rb.s rc.s rd.s,oK (Qah ra.s rb.s rc.s rd.s).dp ht⟩
end
end Orr
namespace Orr
open Go Go.Proofs Tryz Orq
set_option maxRecDepth 10000
def fnd(l:List Pt)(id:Int):Option Pt:=l.find? λx=>decide (x.id=id)
theorem Tc{l:List Pt}{id:Int}{x:Pt}(h:fnd l id=some x):x∈l/\x.id=id:=⟨Wb h,of_decide_eq_true (U5 (p:=λx:Pt=>decide (x.id=id)) h)⟩
theorem EI{l:List Pt}{id:Int}(h:fnd l id=none):∀x∈l,x.id≠id:=λx hx e=>by
 have:=Um.1 h x hx;rw[decide_eq_true e]at this;exact this rfl
theorem Ih{id:Int}{l:List Pt}(hl:l.length<=1000000):(∃x,fnd l id=some x/\Fo 71 [.oi id,.one (pts l)] [.agg (Sl x),.one (.bool true)])\/(fnd l id=none/\Fo 71 [.oi id,.one (pts l)] [.agg [.row [],.row [],.bool false,.row [],.int .i64 0],.one (.bool false)]):=by
 have hcl:=Su l;cases hf:fnd l id with
 |
  some x =>
  refine .inl ⟨x,rfl,?_⟩;show Fo 71 [.oi id,.one (.row (Hy l))] _;refine Sk func71 rfl ?_;refine Ff [] rfl ?_;refine Fl (S:=Nat) 1 (λL1 i=>(10,.v (.oi i))::L1) (λ_=>[.blk 76 zPt]) (λi=>l.length-i) (λi=>i<=l.length/\fnd (l.drop i) id=some x) 0 ⟨Qh _,hf⟩ rfl rfl λi ⟨hi,hn⟩=>?_
  by_cases h:i<l.length
  ·obtain⟨y,hy⟩:=gxE (l:=l) (i:=i) h;have hd:l.drop i=y::l.drop (i+1):=by
    rw[Xc h];rw[Qg h]at hy;injection hy with hy;rw[hy]
   rw[hd]at hn;unfold fnd at hn;rw[List.find?_cons]at hn;by_cases he:y.id=id
   ·rw[decide_eq_true he]at hn;obtain rfl:=Option.some.inj hn;exact Fh [.T,.x (Hg hy),.t (decide_eq_true he)] rfl rfl (by simp[Ge] <;> omega)
   ·rw[decide_eq_false he]at hn;refine go tt [.T,.x (Hg hy),.f (decide_eq_false he)] rfl (by simp[Ge] <;> omega) ?_;exact rd (i+1) (by omega) ⟨h,hn⟩ rfl
  ·rw[List.drop_of_length_le (by omega)]at hn;cases hn
 |
  none =>
  have hno:=EI hf;refine .inr ⟨rfl,?_⟩;show Fo 71 [.oi id,.one (.row (Hy l))] _;refine Sk func71 rfl ?_;refine Ff [] rfl ?_;refine Fl (S:=Nat) 1 (λL1 i=>(10,.v (.oi i))::L1) (λ_=>[.blk 76 zPt]) (λi=>l.length-i) (λi=>i<=l.length) 0 (Qh _) rfl rfl λi hi=>?_
  by_cases h:i<l.length
  ·obtain⟨y,hy⟩:=gxE (l:=l) (i:=i) h;refine go tt [.T,.x (Hg hy),.f (decide_eq_false (hno y (Qa hy)))] rfl (by simp[Ge] <;> omega) ?_;exact rd (i+1) (by omega) h rfl
  ·exact Fh [.F] rfl
def LG(sg:Ft->Int)(O:List Pt)(is:Ft)(i:Nat):Prop:=∃id x,is[i]? = some id/\fnd O id=some x/\∀j id' y,i=j+1->is[j]? = some id'->fnd O id'=some y->Rh sg y.nrm x.nrm=true
def fC(sg:Ft->Int)(O:List Pt)(is:Ft):Prop:=is.length=O.length/\∀i,i<is.length->LG sg O is i
def Qws(sg:Ft->Int)(O:List Pt)(id:Int):Prop:=∃w,fnd O id=some w/\∀x∈O,x.id≠id->JB sg w.nrm x.nrm=true
def Qo4(sg:Ft->Int)(x y u v:Pt):Int:=Hk sg (H8 x.nrm.c y.nrm.c u.nrm.c v.nrm.c)
def DU(sg:Ft->Int)(a b:Int)(x y u v:Pt):Prop:=u.id<v.id->¬(u.id=a/\v.id=b)->0<=Qo4 sg x y u v/\(Qo4 sg x y u v=0->¬(u.id<a\/u.id=a/\v.id<b))
def FO(sg:Ft->Int)(O:List Pt)(a b:Int):Prop:=∃x y,fnd O a=some x/\fnd O b=some y/\a<b/\∀u∈O,∀v∈O,DU sg a b x y u v
section
variable{O:List Pt}{t:Tm}(hs:∀p∈O,Cs 128 3 p.c)(hn:O.length≤1000000)(ht:Va t)
include hs hn ht
theorem gR{is:Ft}(hi1:is.length<=1000000):Fo 22 [.agg (ta t),.one (ids is),.one (pts O)] [.one (.bool (cd0 (fC (Hb t) O is)))]:=by
 have hcl:=Su O;have hil:(Mx is).length=is.length:=by simp[Mx]
 show Fo 22 [.agg (ta t),.one (.row (Mx is)),.one (.row (Hy O))] _;by_cases hlen:is.length=O.length
 ·refine Sk func22 rfl ?_;refine Ff [.F] rfl ?_;refine Fl (S:=Nat×LV×LV×LV×LV×LV) 2 (λL1 s=>(19,.v (.oi (s.1:Int)))::L1) (λs=>[BY t,.blk 76 [s.2.1,s.2.2.1,s.2.2.2.1,s.2.2.2.2.1,s.2.2.2.2.2]]) (λs=>is.length-s.1) (λs=>s.1<=is.length/\(∀j,j<s.1->LG (Hb t) O is j)/\(s.1=0\/∃k id y,s.1=k+1/\is[k]? = some id/\fnd O id=some y/\s.2=(pl y.c.x,pl y.c.y,sg y.c.d,mg y.c.d,.int .i64 y.id))) (0,.nils,.nils,.bool false,.nils,.int .i64 0) ⟨Qh _,(λj h=>absurd h (Xe j)),.inl rfl⟩ rfl rfl λ⟨i,z⟩ ⟨hi,hg,hy⟩=>?_
  dsimp only at hi hg hy ⊢;by_cases h:i<is.length
  ·obtain⟨id,hid⟩:=gxE (l:=is) (i:=i) h;have hgx:=HY (l:=is) (i:=i) hid;have no:¬LG (Hb t) O is i->cd0 (fC (Hb t) O is)=false:=λhng=>Ch λhq=>hng (hq.2 i h)
   rcases Ih (id:=id) (l:=O) hn with⟨x,hx,cf⟩|⟨hx,cf⟩
   ·obtain⟨hxm,hxi⟩:=Tc hx;rcases hy with rfl|⟨k,id',y,rfl,hk,hky,rfl⟩
    ·refine go tt [.T,.x hgx,.k cf,.g 32 false rfl,.g 35 false rfl,.f rfl] rfl (by simp[Ge] <;> omega) ?_;refine rd (1,pl x.c.x,pl x.c.y,sg x.c.d,mg x.c.d,.int .i64 x.id) (by dsimp only;omega) ⟨h,λj hj=>?_,.inr ⟨0,id,x,rfl,hid,hx,rfl⟩⟩ rfl;obtain rfl:j=0:=by omega
     exact⟨id,x,hid,hx,λj id' y e=>by omega⟩
    have cb:=D5 (hs y (Tc hky).1) (hs x hxm) ht;cases hb:Rh (Hb t) y.nrm x.nrm with
    |
     true =>
     rw[hb]at cb;refine go tt [.T,.x hgx,.k cf,.g 32 false rfl,.g 35 true Fq,.k cb,.f rfl] rfl (by simp[Ge] <;> omega) ?_;refine rd (k+1+1,pl x.c.x,pl x.c.y,sg x.c.d,mg x.c.d,.int .i64 x.id) (by dsimp only;omega) ⟨h,λj hj=>?_,.inr ⟨k+1,id,x,rfl,hid,hx,rfl⟩⟩ rfl;by_cases e:j=k+1
     ·subst e;refine⟨id,x,hid,hx,λj id2 y2 e h1 h2=>?_⟩;obtain rfl:j=k:=by omega
      rw[hk]at h1;obtain rfl:=Option.some.inj h1;rw[hky]at h2;obtain rfl:=Option.some.inj h2;exact hb
     ·exact hg j (by omega)
    |
     false =>
     rw[hb]at cb;rw[no λ⟨id2,x2,h1,h2,h3⟩=>by
      rw[hid]at h1;obtain rfl:=Option.some.inj h1;rw[hx]at h2;obtain rfl:=Option.some.inj h2;have:=h3 k id' y rfl hk hky;rw[hb]at this;cases this]
     exact Fh [.T,.x hgx,.k cf,.g 32 false rfl,.g 35 true Fq,.k cb,.t rfl] rfl rfl (by simp[Ge] <;> omega)
   rw[no λ⟨id2,x2,h1,h2,_⟩=>by
    rw[hid]at h1;obtain rfl:=Option.some.inj h1;rw[hx]at h2;cases h2]
   exact Fh [.T,.x hgx,.k cf,.g 32 true rfl,.t rfl] rfl rfl (by simp[Ge] <;> omega)
  rw[WA ⟨hlen,λj hj=>hg j (by omega)⟩];exact Fh [.F] rfl
 rw[Ch λh=>hlen h.1];exact Fi func22 rfl [.T] rfl
theorem iI{id:Int}:Fo 25 [.agg (ta t),.oi id,.one (pts O)] [.one (.bool (cd0 (Qws (Hb t) O id)))]:=by
 have hcl:=Su O;rcases Ih (id:=id) (l:=O) hn with⟨w_,hw,cf⟩|⟨hw,cf⟩
 ·obtain⟨hwm,hwi⟩:=Tc hw;show Fo 25 [.agg (ta t),.oi id,.one (.row (Hy O))] _;refine Sk func25 rfl ?_;refine Ff [.k cf,.f rfl] rfl ?_;refine Fl (S:=Nat) 2 (λL1 i=>(21,.v (.oi i))::L1) (λ_=>[BY t,GZ w_]) (λi=>O.length-i) (λi=>i<=O.length/\∀j x,j<i->O[j]? = some x->x.id≠id->JB (Hb t) w_.nrm x.nrm=true) 0 ⟨Qh _,λj _ h=>absurd h (Xe j)⟩ rfl rfl λi ⟨hi,hg⟩=>?_
  by_cases h:i<O.length
  ·obtain⟨x,hx⟩:=gxE (l:=O) (i:=i) h;have hxm:=Qa hx;have nxt:(x.id≠id->JB (Hb t) w_.nrm x.nrm=true)->∀j y,j<i+1->O[j]? = some y->y.id≠id->JB (Hb t) w_.nrm y.nrm=true:=λhb j y hj hy=>by
    by_cases e:j=i
    ·subst e;rw[hx]at hy;obtain rfl:=Option.some.inj hy;exact hb
    ·exact hg j y (by omega) hy
   by_cases he:x.id=id
   ·refine go tt [.T,.x (Hg hx),.g 29 false (decide_eq_false (λh=>h he)),.f rfl] rfl (by simp[Ge] <;> omega) ?_;exact rd (i+1) (by omega) ⟨h,nxt λh=>absurd he h⟩ rfl
   have cb:=Qgf (hs w_ hwm) (hs x hxm) ht;cases hb:JB (Hb t) w_.nrm x.nrm with
   |true =>
    rw[hb]at cb;refine go tt [.T,.x (Hg hx),.g 29 true (decide_eq_true he),.k cb,.f rfl] rfl (by simp[Ge] <;> omega) ?_;exact rd (i+1) (by omega) ⟨h,nxt λ_=>hb⟩ rfl
   |
    false =>
    rw[hb]at cb;rw[Ch λ⟨w2,h1,h2⟩=>by
     rw[hw]at h1;obtain rfl:=Option.some.inj h1;rw[h2 x hxm he]at hb;cases hb]
    exact Fh [.T,.x (Hg hx),.g 29 true (decide_eq_true he),.k cb,.t rfl] rfl rfl (by simp[Ge] <;> omega)
  rw[WA ⟨w_,hw,λx hx=>by
   obtain⟨j,hj⟩:=Ze hx;exact hg j x (by have:=(Qd.1 hj).1;omega) hj⟩]
  exact Fh [.F] rfl
 rw[Ch λ⟨w2,h1,_⟩=>by rw[hw]at h1;cases h1];exact Fi func25 rfl [.k cf,.t rfl] rfl
set_option maxHeartbeats 1000000 in
theorem Qg3{a b:Int}:Fo 26 [.agg (ta t),.oi a,.oi b,.one (pts O)] [.one (.bool (cd0 (FO (Hb t) O a b)))]:=by
 have hcl:=Su O;show Fo 26 [.agg (ta t),.oi a,.oi b,.one (.row (Hy O))] _;rcases Ih (id:=a) (l:=O) hn with⟨x,hx,cf⟩|⟨hx,cf⟩ <;> rcases Ih (id:=b) (l:=O) hn with⟨y,hy,cg⟩|⟨hy,cg⟩
 ·obtain⟨hxm,hxi⟩:=Tc hx;obtain⟨hym,hyi⟩:=Tc hy;by_cases hab:a<b
  ·refine Sk func26 rfl ?_;refine Ff [.k cf,.k cg,.g 32 false rfl,.g 36 false rfl,.F] rfl ?_;have no:∀u∈O,∀v∈O,¬DU (Hb t) a b x y u v->cd0 (FO (Hb t) O a b)=false:=λu hu v hv hng=>Ch λ⟨x2,y2,h1,h2,_,h4⟩=>by
    rw[hx]at h1;obtain rfl:=Option.some.inj h1;rw[hy]at h2;obtain rfl:=Option.some.inj h2;exact hng (h4 u hu v hv)
   refine Fl (S:=Nat) 3 (λL1 i=>(43,.v (.oi i))::L1) (λ_=>[BY t,GZ x,GZ y]) (λi=>O.length-i) (λi=>i≤O.length/\∀j u,j<i->O[j]? = some u->∀v∈O,DU (Hb t) a b x y u v) 0 ⟨Qh _,λj _ h=>absurd h (Xe j)⟩ rfl rfl λi ⟨hi,g1⟩=>?_
   by_cases h:i<O.length
   ·obtain⟨u,hu⟩:=gxE (l:=O) (i:=i) h;have hum:=Qa hu;refine go tt [.T,.x (Hg hu)] rfl (by simp[Ge] <;> omega) ?_;refine Fl (S:=Nat) 4 (λL1 j=>(49,.v (.oi j))::L1) (λ_=>[BY t,GZ x,GZ y,GZ u]) (λj=>O.length-j) (λj=>j<=O.length/\∀k v,k<j->O[k]? = some v->DU (Hb t) a b x y u v) 0 ⟨Qh _,λk _ h=>absurd h (Xe k)⟩ rfl rfl λj ⟨hj,g2⟩=>?_
    by_cases h':j<O.length
    ·obtain⟨v,hv⟩:=gxE (l:=O) (i:=j) h';have hvm:=Qa hv;have nxt:DU (Hb t) a b x y u v->∀k z,k<j+1->O[k]? = some z->DU (Hb t) a b x y u z:=λhb k z hk hz=>by
      by_cases e:k=j
      ·subst e;rw[hv]at hz;obtain rfl:=Option.some.inj hz;exact hb
      ·exact g2 k z (by omega) hz
     by_cases q1:v.id<=u.id
     ·refine go tt [.T,.x (Hg hv),.g 58 true (decide_eq_true q1),.t rfl] rfl (by simp[Ge] <;> omega) ?_;exact rd (j+1) (by omega) ⟨h',nxt λh=>by omega⟩ rfl
     by_cases q2:u.id=a/\v.id=b
     ·refine go tt [.T,.x (Hg hv),.g 58 false (decide_eq_false q1),.g 63 true (decide_eq_true q2.1),.t (decide_eq_true q2.2)] rfl (by simp[Ge] <;> omega) ?_;exact rd (j+1) (by omega) ⟨h',nxt λ_ h=>absurd q2 h⟩ rfl
     obtain⟨ck,ca⟩:=Qtz (hs x hxm) (hs y hym) (hs u hum) (hs v hvm) ht;obtain⟨s,hs'⟩:=nmE (Qo4 (Hb t) x y u v);rw[show Hk (Hb t) (H8 x.nrm.c y.nrm.c u.nrm.c v.nrm.c)=s from hs'.symm]at ca;have yes:0<=s->(s=0->¬(u.id<a\/u.id=a/\v.id<b))->DU (Hb t) a b x y u v:=λh1 h2 _ _=>by rw[<-hs'];exact⟨h1,h2⟩
     have bad:s<0\/s=0/\(u.id<a\/u.id=a/\v.id<b)->cd0 (FO (Hb t) O a b)=false:=λhb=>no u hum v hvm λhg=>by
      have:=hg (by omega) q2;rw[<-hs']at this;rcases hb with hb|⟨hb,hc⟩
      ·omega
      ·exact this.2 hb hc
     by_cases g3:u.id=a
     ·have g4:¬v.id=b:=λe=>q2 ⟨g3,e⟩
      by_cases sn:s<0
      ·rw[bad (.inl sn)];exact Fh [.T,.x (Hg hv),.g 58 false (decide_eq_false q1),.g 63 true (decide_eq_true g3),.f (decide_eq_false g4),.k ck,.k ca,.g 83 true (decide_eq_true sn),.t rfl] rfl rfl (by simp[Ge] <;> omega)
      by_cases s0:s=0
      ·by_cases g5:v.id<b
       ·rw[bad (.inr ⟨s0,.inr ⟨g3,g5⟩⟩)];exact Fh [.T,.x (Hg hv),.g 58 false (decide_eq_false q1),.g 63 true (decide_eq_true g3),.f (decide_eq_false g4),.k ck,.k ca,.g 83 false (decide_eq_false sn),.g 86 true (decide_eq_true s0),.g 91 false Fp,.g 96 true (decide_eq_true g3),.t (decide_eq_true g5)] rfl rfl (by simp[Ge] <;> omega)
       refine go tt [.T,.x (Hg hv),.g 58 false (decide_eq_false q1),.g 63 true (decide_eq_true g3),.f (decide_eq_false g4),.k ck,.k ca,.g 83 false (decide_eq_false sn),.g 86 true (decide_eq_true s0),.g 91 false Fp,.g 96 true (decide_eq_true g3),.f (decide_eq_false g5)] rfl (by simp[Ge] <;> omega) ?_;exact rd (j+1) (by omega) ⟨h',nxt (yes (by omega) λ_=>by omega)⟩ rfl
      refine go tt [.T,.x (Hg hv),.g 58 false (decide_eq_false q1),.g 63 true (decide_eq_true g3),.f (decide_eq_false g4),.k ck,.k ca,.g 83 false (decide_eq_false sn),.g 86 false (decide_eq_false s0),.f rfl] rfl (by simp[Ge] <;> omega) ?_;exact rd (j+1) (by omega) ⟨h',nxt (yes (by omega) λh=>absurd h s0)⟩ rfl
     by_cases sn:s<0
     ·rw[bad (.inl sn)];exact Fh [.T,.x (Hg hv),.g 58 false (decide_eq_false q1),.g 63 false (decide_eq_false g3),.f rfl,.k ck,.k ca,.g 83 true (decide_eq_true sn),.t rfl] rfl rfl (by simp[Ge] <;> omega)
     by_cases s0:s=0
     ·by_cases g5:u.id<a
      ·rw[bad (.inr ⟨s0,.inl g5⟩)];exact Fh [.T,.x (Hg hv),.g 58 false (decide_eq_false q1),.g 63 false (decide_eq_false g3),.f rfl,.k ck,.k ca,.g 83 false (decide_eq_false sn),.g 86 true (decide_eq_true s0),.g 91 true (decide_eq_true g5),.t rfl] rfl rfl (by simp[Ge] <;> omega)
      refine go tt [.T,.x (Hg hv),.g 58 false (decide_eq_false q1),.g 63 false (decide_eq_false g3),.f rfl,.k ck,.k ca,.g 83 false (decide_eq_false sn),.g 86 true (decide_eq_true s0),.g 91 false (decide_eq_false g5),.g 96 false (decide_eq_false g3),.f rfl] rfl (by simp[Ge] <;> omega) ?_;exact rd (j+1) (by omega) ⟨h',nxt (yes (by omega) λ_=>by omega)⟩ rfl
     refine go tt [.T,.x (Hg hv),.g 58 false (decide_eq_false q1),.g 63 false (decide_eq_false g3),.f rfl,.k ck,.k ca,.g 83 false (decide_eq_false sn),.g 86 false (decide_eq_false s0),.f rfl] rfl (by simp[Ge] <;> omega) ?_;exact rd (j+1) (by omega) ⟨h',nxt (yes (by omega) λh=>absurd h s0)⟩ rfl
    refine go tt [.F] rfl (by simp[Ge] <;> omega) ?_;refine rd (i+1) (by omega) ⟨h,λk z hk hz v hv=>?_⟩ rfl;by_cases e:k=i
    ·subst e;rw[hu]at hz;obtain rfl:=Option.some.inj hz;obtain⟨m,hm⟩:=Ze hv;exact g2 m v (by have:=(Qd.1 hm).1;omega) hm
    exact g1 k z (by omega) hz v hv
   rw[WA ⟨x,y,hx,hy,hab,λu hu v hv=>by
    obtain⟨m,hm⟩:=Ze hu;exact g1 m u (by have:=(Qd.1 hm).1;omega) hm v hv⟩]
   exact Fh [.F] rfl
  rw[Ch λ⟨_,_,_,_,h,_⟩=>hab h];exact Fi func26 rfl [.k cf,.k cg,.g 32 false rfl,.g 36 false rfl,.T] rfl
 ·rw[Ch λ⟨_,_,_,h,_⟩=>by rw[hy]at h;cases h];exact Fi func26 rfl [.k cf,.k cg,.g 32 false rfl,.g 36 true rfl,.t rfl] rfl
 ·rw[Ch λ⟨_,_,h,_⟩=>by rw[hx]at h;cases h];exact Fi func26 rfl [.k cf,.k cg,.g 32 true rfl,.g 36 true rfl,.t rfl] rfl
 rw[Ch λ⟨_,_,h,_⟩=>by rw[hx]at h;cases h];exact Fi func26 rfl [.k cf,.k cg,.g 32 true rfl,.g 36 true rfl,.t rfl] rfl
end
end Orr
namespace Orr
open Go Go.Proofs Tryz Orq
set_option maxRecDepth 10000
theorem bM{a b c:Pt}{t:Tm}(ha:Cs 128 3 a.c)(hb:Cs 128 3 b.c)(hc:Cs 128 3 c.c)(ht:Va t):Fo 184 [.agg (ta t),.agg (Sl a),.agg (Sl b),.agg (Sl c)] [.one (.bool (Qm5 (Hb t) a.nrm b.nrm c.nrm))]:=by
 have c1:=Ey ha hb hc ht;have c2:=D5 ha hc ht;have c3:=D5 hc hb ht;have c4:=D5 hb hc ht;have c5:=D5 hc ha ht;unfold Qm5;generalize Rh (Hb t) a.nrm c.nrm=x1 at *;generalize Rh (Hb t) c.nrm b.nrm=x2 at *;generalize Rh (Hb t) b.nrm c.nrm=x3 at *;generalize Rh (Hb t) c.nrm a.nrm=x4 at *;generalize Hk (Hb t) (G8 a.nrm.c b.nrm.c c.nrm.c)=o at *;by_cases h0:o=0
 ·rw[decide_eq_true h0];cases x1 with
  |false =>
   cases x3 with
   |false=>exact Fi func184 rfl [.k c1,.g 15 true (decide_eq_true h0),.k c2,.g 20 false rfl,.g 26 false rfl,.k c4,.g 31 false rfl] rfl
   |true=>exact Fi func184 rfl [.k c1,.g 15 true (decide_eq_true h0),.k c2,.g 20 false rfl,.g 26 false rfl,.k c4,.g 31 true rfl,.k c5] rfl
  |
   true =>
   cases x2 with
   |true=>exact Fi func184 rfl [.k c1,.g 15 true (decide_eq_true h0),.k c2,.g 20 true rfl,.k c3,.g 26 true rfl] rfl
   |false =>
    cases x3 with
    |false=>exact Fi func184 rfl [.k c1,.g 15 true (decide_eq_true h0),.k c2,.g 20 true rfl,.k c3,.g 26 false rfl,.k c4,.g 31 false rfl] rfl
    |true=>exact Fi func184 rfl [.k c1,.g 15 true (decide_eq_true h0),.k c2,.g 20 true rfl,.k c3,.g 26 false rfl,.k c4,.g 31 true rfl,.k c5] rfl
 rw[decide_eq_false h0];exact Fi func184 rfl [.k c1,.g 15 false (decide_eq_false h0)] rfl
theorem bS{a b c x:Pt}{t:Tm}(ha:Cs 128 3 a.c)(hb:Cs 128 3 b.c)(hc:Cs 128 3 c.c)(hx:Cs 128 3 x.c)(ht:Va t):Fo 185 [.agg (ta t),.agg (Sl a),.agg (Sl b),.agg (Sl c),.agg (Sl x)] [.one (.bool (Qjl (Hb t) a.nrm b.nrm c.nrm x.nrm))]:=by
 have c1:=Ey ha hb hc ht;have c2:=Ey ha hb hx ht;have c3:=Ey hb hc hx ht;have c4:=Ey hc ha hx ht;have b1:=Iu t (G8 a.nrm.c b.nrm.c c.nrm.c);have b2:=Iu t (G8 a.nrm.c b.nrm.c x.nrm.c);have b3:=Iu t (G8 b.nrm.c c.nrm.c x.nrm.c);have b4:=Iu t (G8 c.nrm.c a.nrm.c x.nrm.c);unfold Qjl;generalize Hk (Hb t) (G8 a.nrm.c b.nrm.c c.nrm.c)=o at *;generalize Hk (Hb t) (G8 a.nrm.c b.nrm.c x.nrm.c)=o2 at *;generalize Hk (Hb t) (G8 b.nrm.c c.nrm.c x.nrm.c)=o3 at *;generalize Hk (Hb t) (G8 c.nrm.c a.nrm.c x.nrm.c)=o4 at *;have m2:=ZW b2 b1;have m3:=ZW b3 b1;have m4:=ZW b4 b1;by_cases h0:o=0
 ·rw[decide_eq_true h0];exact Fi func185 rfl [.k c1,.t (decide_eq_true h0)] rfl
 rw[decide_eq_false h0];by_cases h2:0<=o2*o
 ·rw[decide_eq_true h2];by_cases h3:0<=o3*o
  ·rw[decide_eq_true h3];exact Fi func185 rfl [.k c1,.f (decide_eq_false h0),.k c2,.g 27 true (decide_eq_true h2),.k c3,.g 37 true (decide_eq_true h3),.k c4] rfl rfl (by simp[Ge,IntKind.bits] <;> omega)
  rw[decide_eq_false h3];exact Fi func185 rfl [.k c1,.f (decide_eq_false h0),.k c2,.g 27 true (decide_eq_true h2),.k c3,.g 37 false (decide_eq_false h3)] rfl rfl (by simp[Ge,IntKind.bits] <;> omega)
 rw[decide_eq_false h2];exact Fi func185 rfl [.k c1,.f (decide_eq_false h0),.k c2,.g 27 false (decide_eq_false h2),.g 37 false rfl] rfl rfl (by simp[Ge,IntKind.bits] <;> omega)
theorem LY{l:List Pt}{t:Tm}{x:Pt}(hs:∀p∈l,Cs 128 3 p.c)(hx:Cs 128 3 x.c)(hn:l.length≤1000000)(ht:Va t):Fo 74 [.agg (ta t),.agg (Sl x),.one (pts l)] [.one (.bool (cd0 (JM (Hb t) x.nrm (l.map Pt.nrm))))]:=by
 have hcl:=Su l;have hL:∀{i:Nat} {a:Pt},l[i]? = some a->(l.map Pt.nrm)[i]? = some a.nrm:=λh=>Tk h
 have hlL:(l.map Pt.nrm).length=l.length:=Q4 _;show Fo 74 [.agg (ta t),.agg (Sl x),.one (.row (Hy l))] _;refine Sk func74 rfl ?_;refine Ff [] rfl ?_;refine Fl (S:=Nat) 2 (λL1 i=>(15,.v (.oi i))::L1) (λ_=>[BY t,GZ x]) (λi=>l.length-i) (λi=>i<=l.length/\∀(i' j:Nat) (a b:Pt),i'<i->j<i'->(l.map Pt.nrm)[i']? = some a->(l.map Pt.nrm)[j]? = some b->Gd1 (Hb t) x.nrm (l.map Pt.nrm) j a b) 0 ⟨Qh _,λi' _ _ _ h=>absurd h (Xe i')⟩ rfl rfl λi ⟨hi,g1⟩=>?_
 by_cases h:i<l.length
 ·obtain⟨a,ha⟩:=gxE (l:=l) (i:=i) h;have sa:=hs a (Qa ha);refine go tt [.T,.x (Hg ha),.i i] rfl (by simp[Ge] <;> omega) ?_;have hcl2:((Hy l).take i).length=i:=by rw[Qz];omega
  refine Fl (S:=Nat) 3 (λL1 j=>(24,.v (.oi j))::L1) (λ_=>[BY t,GZ x,GZ a]) (λj=>i-j) (λj=>j<=i/\∀(j':Nat) (b:Pt),j'<j->(l.map Pt.nrm)[j']? = some b->Gd1 (Hb t) x.nrm (l.map Pt.nrm) j' a.nrm b) 0 ⟨Qh _,λj' _ h=>absurd h (Xe j')⟩ rfl rfl λj ⟨hj,g2⟩=>?_
  by_cases h':j<i
  ·obtain⟨b,hb⟩:=gxE (l:=l) (i:=j) (by omega);have sb:=hs b (Qa hb);have hgb:((Hy l).take i)[j]? = some (Sl b):=by rw[Ja h'];exact Hg hb
   have nxt:Gd1 (Hb t) x.nrm (l.map Pt.nrm) j a.nrm b.nrm->∀(j':Nat) (b':Pt),j'<j+1->(l.map Pt.nrm)[j']? = some b'->Gd1 (Hb t) x.nrm (l.map Pt.nrm) j' a.nrm b':=λhg j' b' hj' hb'=>by
    by_cases e:j'=j
    ·subst e;rw[hL hb]at hb';injection hb' with hb';subst hb';exact hg
    ·exact g2 j' b' (by omega) hb'
   by_cases e1:a.id=x.id
   ·refine go tt [.T,.x hgb,.g 34 true (decide_eq_true e1),.t rfl] rfl (by simp[Ge] <;> omega) ?_;exact rd (j+1) (by omega) ⟨h',nxt λh=>absurd e1 h⟩ rfl
   by_cases e2:b.id=x.id
   ·refine go tt [.T,.x hgb,.g 34 false (decide_eq_false e1),.t (decide_eq_true e2)] rfl (by simp[Ge] <;> omega) ?_;exact rd (j+1) (by omega) ⟨h',nxt λ_ h=>absurd e2 h⟩ rfl
   have cw:=bM sa sb hx ht;by_cases hw:Qm5 (Hb t) a.nrm b.nrm x.nrm=true
   ·have hf:cd0 (JM (Hb t) x.nrm (l.map Pt.nrm))=false:=Ch λhc=>(hc i j _ _ h' (hL ha) (hL hb) e1 e2).1 (nR.1 hw)
    rw[hf];exact Fh [.T,.x hgb,.g 34 false (decide_eq_false e1),.f (decide_eq_false e2),.k cw,.t hw] rfl rfl (by simp[Ge] <;> omega)
   have hcl3:((Hy l).take j).length=j:=by rw[Qz];omega
   refine go tt [.T,.x hgb,.g 34 false (decide_eq_false e1),.f (decide_eq_false e2),.k cw,.f (by simpa using hw),.i j] rfl (by simp[Ge] <;> omega) ?_;refine Fl (S:=Nat) 4 (λL1 k=>(50,.v (.oi k))::L1) (λ_=>[BY t,GZ x,GZ a,GZ b]) (λk=>j-k) (λk=>k<=j/\∀(k':Nat) (c:Pt),k'<k->(l.map Pt.nrm)[k']? = some c->c.id≠x.id->¬O4 (Hb t) a.nrm b.nrm c x.nrm) 0 ⟨Qh _,λk' _ h=>absurd h (Xe k')⟩ rfl rfl λk ⟨hk,g3⟩=>?_
   by_cases h'':k<j
   ·obtain⟨c,hc⟩:=gxE (l:=l) (i:=k) (by omega);have sc:=hs c (Qa hc);have hgc:((Hy l).take j)[k]? = some (Sl c):=by rw[Ja h''];exact Hg hc
    have nxt3:(c.id≠x.id->¬O4 (Hb t) a.nrm b.nrm c.nrm x.nrm)->∀(k':Nat) (c':Pt),k'<k+1->(l.map Pt.nrm)[k']? = some c'->c'.id≠x.id->¬O4 (Hb t) a.nrm b.nrm c' x.nrm:=λhg k' c' hk' hc'=>by
     by_cases e:k'=k
     ·subst e;rw[hL hc]at hc';injection hc' with hc';subst hc';exact hg
     ·exact g3 k' c' (by omega) hc'
    by_cases e3:c.id=x.id
    ·refine go tt [.T,.x hgc,.g 59 false (decide_eq_false (λh=>h e3)),.f rfl] rfl (by simp[Ge] <;> omega) ?_;exact rd (k+1) (by omega) ⟨h'',nxt3 λh=>absurd e3 h⟩ rfl
    have ci:=bS sa sb sc hx ht;by_cases hin:Qjl (Hb t) a.nrm b.nrm c.nrm x.nrm=true
    ·have hf:cd0 (JM (Hb t) x.nrm (l.map Pt.nrm))=false:=Ch λhcn=>(hcn i j _ _ h' (hL ha) (hL hb) e1 e2).2 k _ h'' (hL hc) e3 (sV.1 hin)
     rw[hf];exact Fh [.T,.x hgc,.g 59 true (decide_eq_true e3),.k ci,.t hin] rfl rfl (by simp[Ge] <;> omega)
    refine go tt [.T,.x hgc,.g 59 true (decide_eq_true e3),.k ci,.f (by simpa using hin)] rfl (by simp[Ge] <;> omega) ?_;exact rd (k+1) (by omega) ⟨h'',nxt3 λ_ h=>hin (sV.2 h)⟩ rfl
   obtain rfl:k=j:=by omega
   refine go tt [.F] rfl (by simp[Ge] <;> omega) ?_;exact rd (k+1) (by omega) ⟨h',nxt λ_ _=>⟨λh=>hw (nR.2 h),g3⟩⟩ rfl
  obtain rfl:j=i:=by omega
  refine go tt [.F] rfl (by simp[Ge] <;> omega) ?_;refine rd (j+1) (by omega) ⟨h,λi' j' a' b' hi' hj' ha' hb'=>?_⟩ rfl;by_cases e:i'=j
  ·subst e;rw[hL ha]at ha';injection ha' with ha';subst ha';exact g2 j' b' hj' hb'
  exact g1 i' j' a' b' (by omega) hj' ha' hb'
 have ht:cd0 (JM (Hb t) x.nrm (l.map Pt.nrm))=true:=WA λi' j a b hj ha hb=>g1 i' j a b (by have:=(Qd.1 ha).1;omega) hj ha hb
 rw[ht];exact Fh [.F] rfl
def dA(O:List Pt)(x:Pt):Bool:=AI (O.map Pt.nrm) x.nrm
def S0(O:List Pt):List Pt:=O.filter (dA O)
theorem XW{O:List Pt}{p:Pt}(h:p∈S0 O):p∈O:=(Jl.1 h).1
theorem WT(O:List Pt):(S0 O).length<=O.length:=X4 _ _
theorem SC{l:List Pt}{i:Nat}{x:Pt}(g:Pt->Bool)(hx:l[i]? = some x):(l.take (i+1)).filter g=(l.take i).filter g++(if g x=true then [x]else []):=by
 rw[X2,hx,Jr,J7];congr 1;cases hb:g x <;> simp[hb]
theorem GY{M:List Pt}(hsc:∀p∈M,Cs 128 3 p.c)(hn:M.length≤1000000):Fo 73 [.one (pts M)] [.one (pts (S0 M))]:=by
 have hcl:=Su M;show Fo 73 [.one (.row (Hy M))] [.one (.row (Hy (S0 M)))];unfold S0;refine Sk func73 rfl ?_;refine Ff [.o 3 76 5] rfl ?_;refine Fl (S:=Nat) 1 (λL1 i=>(11,.v (.oi i))::(3,.v (.one (.orow 0 5 none)))::L1) (λi=>[.row false 76 5 (Hy ((M.take i).filter (dA M)))]) (λi=>M.length-i) (λi=>i<=M.length) 0 (Qh _) rfl rfl λi hi=>?_
 by_cases h:i<M.length
 ·obtain⟨x,hx⟩:=gxE (l:=M) (i:=i) h;have sx:=hsc x (Qa hx);have hnx:=SC (dA M) hx;obtain⟨O,hO⟩:=nmE ((M.take i).filter (dA M));have hOl:O.length<=i:=by rw[hO];exact Qe (X4 _ _) (by rw[Qz];omega)
  have hOc:=Su O;rw[<-hO]at hnx ⊢;refine go tt [.T,.x (Hg hx)] rfl (by simp[Ge] <;> omega) ?_;obtain⟨f,hf⟩:∃f:Nat->Bool,f=λj=>(M.take j).all λy=>decide (x.id<=y.id) || !Ak x.nrm.c y.nrm.c:=⟨_,rfl⟩
  have f0:f 0=true:=by rw[hf];rfl
  have fl:f M.length=dA M x:=by
   rw[hf];simp only[Za];unfold dA AI;rw[List.all_map];rfl
  have fs:∀j y,M[j]? = some y->f (j+1)=(f j && (decide (x.id<=y.id) || !Ak x.nrm.c y.nrm.c)):=λj y hy=>by
   rw[hf];simp only[X2,hy,Jr,U4];simp
  refine lp (S:=Nat) 2 (λL1 j=>(17,.v (.oi j))::(6,.v (.one (.bool (f j))))::L1) (λ_=>[.row false 76 5 (Hy O),GZ x]) (λj=>M.length-j) (λj=>j<=M.length) 0 (Qh _) rfl (λ_ _=>rfl) (by rw[f0];rfl) λj hj=>?_
  by_cases h':j<M.length
  ·obtain⟨y,hy⟩:=gxE (l:=M) (i:=j) h';have sy:=hsc y (Qa hy);have hnf:=fs j y hy;cases hb:f j with
   |false =>
    rw[hb,Vx]at hnf;refine go tt [.T,.x (Hg hy),.g 22 false rfl,.g 28 false rfl] rfl (by simp[Ge] <;> omega) ?_;exact rd (j+1) (by omega) h' (by rw[hnf];rfl)
   |
    true =>
    rw[hb,Yo]at hnf;by_cases hle:x.id<=y.id
    ·rw[decide_eq_true hle,We]at hnf;refine go tt [.T,.x (Hg hy),.g 22 true rfl,.g 28 true (decide_eq_true hle)] rfl (by simp[Ge] <;> omega) ?_;exact rd (j+1) (by omega) h' (by rw[hnf];rfl)
    ·rw[decide_eq_false hle,J3]at hnf;refine go tt [.T,.x (Hg hy),.g 22 true rfl,.g 28 false (decide_eq_false hle),.k (Qdh sx sy)] rfl (by simp[Ge] <;> omega) ?_;exact rd (j+1) (by omega) h' (by rw[hnf];rfl)
  obtain rfl:j=M.length:=by omega
  rw[fl];cases hb:dA M x with
  |true =>
   rw[hb,if_pos rfl]at hnx;refine go tt [.F,.t rfl] rfl (by simp[Ge] <;> omega) ?_;exact rd (i+1) (by omega) h (by rw[hnx];simp[Hy];rfl)
  |false =>
   rw[hb,if_neg (by decide),Xg]at hnx;refine go tt [.F,.f rfl] rfl (by simp[Ge] <;> omega) ?_;exact rd (i+1) (by omega) h (by rw[hnx];rfl)
 obtain rfl:i=M.length:=by omega
 exact Fh [.F] rfl (by rw[Za]) trivial
noncomputable def cornU(sg:Ft->Int)(W:List Pt):List Pt:=W.filter λx=>cd0 (JM sg x.nrm (W.map Pt.nrm))
def FA(A:List Pt)(is:Ft)(i:Nat)(x:Pt):Prop:=∃id,is[i]? = some id/\fnd A id=some x
theorem FA.un{A:List Pt}{is:Ft}{i:Nat}{x y:Pt}(h:FA A is i x)(h':FA A is i y):x=y:=by
 obtain⟨a,h1,h2⟩:=h;obtain⟨b,h3,h4⟩:=h';rw[h1]at h3;obtain rfl:=Option.some.inj h3;rw[h2]at h4;exact Option.some.inj h4
def HG(sg:Ft->Int)(A:List Pt)(is:Ft)(i:Nat):Prop:=∃x,FA A is i x/\∀f,0<i->FA A is 0 f->Rh sg f.nrm x.nrm=true
def TG(sg:Ft->Int)(A:List Pt)(is:Ft)(i j k:Nat):Prop:=∀x y z,FA A is i x->FA A is j y->FA A is k z->0<Hk sg (G8 z.nrm.c y.nrm.c x.nrm.c)
def FI(sg:Ft->Int)(A:List Pt)(is:Ft):Prop:=is.length=A.length/\(∀i,i<is.length->HG sg A is i)/\∀i j k,k<j->j<i->i<is.length->TG sg A is i j k
set_option maxHeartbeats 2000000 in
theorem gG{M:List Pt}{t:Tm}{is:Ft}(hsc:∀p∈M,Cs 128 3 p.c)(hn:M.length≤1000)(hil1:is.length≤1000000)(ht:Va t):Fo 23 [.agg (ta t),.one (ids is),.one (pts M)] [.one (.bool (cd0 (FI (Hb t) (cornU (Hb t) (S0 M)) is)))]:=by
 have cW:=GY hsc (by omega);have hWs:∀p∈S0 M,Cs 128 3 p.c:=λp hp=>hsc p (XW hp)
 have hWl:=WT M;obtain⟨W,hW⟩:=nmE (S0 M);rw[<-hW]at cW hWs hWl ⊢;obtain⟨g,hg⟩:∃g:Pt->Bool,g=λx=>cd0 (JM (Hb t) x.nrm (W.map Pt.nrm)):=⟨_,rfl⟩
 obtain⟨A,hA⟩:=nmE (cornU (Hb t) W);have hAg:A=W.filter g:=by rw[hA,hg];rfl
 rw[<-hA];have hAm:∀x∈A,x∈W:=λx hx=>by rw[hAg]at hx;exact(Jl.1 hx).1
 have hAl:A.length<=W.length:=by rw[hAg];exact X4 _ _
 have hcl:=Su W;have hcl':(List.map Sl W).length=W.length:=by simp
 have hcA:=Su A;have hil:(Mx is).length=is.length:=by simp[Mx]
 show Fo 23 [.agg (ta t),.one (.row (Mx is)),.one (.row (Hy M))] _;refine Sk func23 rfl ?_;refine Ff [.k cW,.o 8 76 5] rfl ?_;refine Fl (S:=Nat) 2 (λL1 i=>(26,.v (.oi i))::(8,.v (.one (.orow 1 5 none)))::L1) (λi=>[BY t,.row false 76 5 (Hy ((W.take i).filter g))]) (λi=>W.length-i) (λi=>i<=W.length) 0 (Qh _) rfl rfl λi hi=>?_
 by_cases h:i<W.length
 ·obtain⟨x,hx⟩:=gxE (l:=W) (i:=i) h;have cc:=LY (l:=W) (x:=x) hWs (hWs x (Qa hx)) (by omega) ht;rw[show cd0 (JM (Hb t) x.nrm (W.map Pt.nrm))=g x by rw[hg]]at cc;have hnx:=SC g hx;have hOl:((W.take i).filter g).length<=i:=Qe (X4 _ _) (by rw[Qz];omega);have hOc:=Su ((W.take i).filter g);cases hb:g x with
  |true =>
   rw[hb]at cc;rw[hb,if_pos rfl]at hnx;refine go tt [.T,.x (Hg hx),.k cc,.t rfl] rfl (by simp[Ge] <;> omega) ?_;exact rd (i+1) (by omega) h (by rw[hnx];simp[Hy];rfl)
  |false =>
   rw[hb]at cc;rw[hb,if_neg (by decide),Xg]at hnx;refine go tt [.T,.x (Hg hx),.k cc,.f rfl] rfl (by simp[Ge] <;> omega) ?_;exact rd (i+1) (by omega) h (by rw[hnx];rfl)
 obtain rfl:i=W.length:=by omega
 rw[Za,<-hAg];by_cases hlen:is.length=A.length
 case neg =>
  rw[Ch λh=>hlen h.1];exact Fh [.F,.T] rfl
 refine Ff [.F,.F,.o 11 76 5] rfl ?_;refine pb 1 rfl rfl ?_;refine Fl (S:=List Pt) 3 (λL1 o=>(46,.v (.oi (o.length:Int)))::(11,.v (.one (.orow 2 5 none)))::L1) (λo=>[BY t,.gone,.row false 76 5 (Hy o)]) (λo=>is.length-o.length) (λo=>o.length<=is.length/\(∀j x,o[j]? = some x->FA A is j x)/\∀j,j<o.length->HG (Hb t) A is j) [] ⟨Qh _,(λj x h=>by cases h),λj h=>absurd h (Xe j)⟩ rfl rfl λo ⟨ho,o1,o2⟩=>?_
 have hco:=Su o;by_cases h:o.length<is.length
 ·obtain⟨id,hid⟩:=gxE (l:=is) (i:=o.length) h;have hgi:=HY (l:=is) (i:=o.length) hid;have no:¬HG (Hb t) A is o.length->cd0 (FI (Hb t) A is)=false:=λhng=>Ch λhq=>hng (hq.2.1 _ h)
  rcases Ih (id:=id) (l:=A) (by omega)with⟨x,hx,cf⟩|⟨hx,cf⟩
  ·have hfx:FA A is o.length x:=⟨id,hid,hx⟩;have hxm:=(Tc hx).1;have e1:∀j y,(o++[x])[j]? = some y->FA A is j y:=λj y hy=>by
    rcases Q8 j o.length with hj|hj
    ·rw[Q3 hj]at hy;exact o1 j y hy
    ·have:=(Qd.1 hy).1;rw[Q6,X5]at this;obtain rfl:j=o.length:=by omega
     rw[Zk (Qn _),J4]at hy;obtain rfl:=Option.some.inj hy;exact hfx
   have e2:HG (Hb t) A is o.length->∀j,j<(o++[x]).length->HG (Hb t) A is j:=λhg j hj=>by
    rw[Q6,X5]at hj;by_cases e:j=o.length
    ·subst e;exact hg
    ·exact o2 j (by omega)
   have hl1:(o++[x]).length=o.length+1:=by simp
   have hp1:Hy (o++[x])=Hy o++[Sl x]:=by simp[Hy]
   by_cases h0:o.length=0
   ·have hg0:HG (Hb t) A is o.length:=⟨x,hfx,λf h=>by omega⟩;refine go tt [.T,.x hgi,.k cf,.g 59 false rfl,.g 62 false Fp,.f rfl] rfl (by simp[Ge] <;> omega) ?_;exact rd (o++[x]) (by omega) ⟨by omega,e1,e2 hg0⟩ (by rw[hl1,hp1];rfl)
   obtain⟨f,hf⟩:=gxE (l:=o) (i:=0) (by omega);have hff:=o1 0 f hf;have hfm:f∈A:=by obtain⟨_,_,h⟩:=hff;exact(Tc h).1
   have cb:=D5 (hWs f (hAm f hfm)) (hWs x (hAm x hxm)) ht;cases hb:Rh (Hb t) f.nrm x.nrm with
   |true =>
    rw[hb]at cb;have hg0:HG (Hb t) A is o.length:=⟨x,hfx,λf' _ h'=>by rw[h'.un hff];exact hb⟩;refine go tt [.T,.x hgi,.k cf,.g 59 false rfl,.g 62 true Fq,.i 0,.x (Hg hf),.k cb,.f rfl] rfl (by simp[Ge] <;> omega) ?_;exact rd (o++[x]) (by omega) ⟨by omega,e1,e2 hg0⟩ (by rw[hl1,hp1];rfl)
   |
    false =>
    rw[hb]at cb;rw[no λ⟨x',h1,h2⟩=>by
     have:=h2 f (by omega) hff;rw[h1.un hfx,hb]at this;cases this]
    exact Fh [.T,.x hgi,.k cf,.g 59 false rfl,.g 62 true Fq,.i 0,.x (Hg hf),.k cb,.t rfl] rfl rfl (by simp[Ge] <;> omega)
  rw[no λ⟨x',⟨id',h1,h2⟩,_⟩=>by
   rw[hid]at h1;obtain rfl:=Option.some.inj h1;rw[hx]at h2;cases h2]
  exact Fh [.T,.x hgi,.k cf,.g 59 true rfl,.t rfl] rfl rfl (by simp[Ge] <;> omega)
 have hol:o.length=is.length:=by omega
 have all2:∀i,i<is.length->HG (Hb t) A is i:=λi hi=>o2 i (by omega)
 refine go tt [.F] rfl (by simp[Ge] <;> omega) ?_;refine pb 2 rfl rfl ?_;have sO:=λ{j:Nat} {y:Pt} (hy:o[j]? = some y)=>hWs y (hAm y (by obtain⟨_,_,h⟩:=o1 j y hy;exact(Tc h).1))
 refine Fl (S:=Nat) 3 (λL1 i=>(79,.v (.oi i))::L1) (λ_=>[BY t,.gone,.gone]) (λi=>o.length-i) (λi=>i<=o.length/\∀i' j k,k<j->j<i'->i'<i->TG (Hb t) A is i' j k) 0 ⟨Qh _,λ_ _ _ _ _ h=>absurd h (Xe _)⟩ rfl rfl λi ⟨hi,g1⟩=>?_
 by_cases h:i<o.length
 ·obtain⟨x,hx⟩:=gxE (l:=o) (i:=i) h;refine go tt [.T,.x (Hg hx),.i i] rfl (by simp[Ge] <;> omega) ?_;have hcl2:((Hy o).take i).length=i:=by rw[Qz];omega
  refine Fl (S:=Nat) 4 (λL1 j=>(88,.v (.oi j))::L1) (λ_=>[BY t,.gone,.gone,GZ x]) (λj=>i-j) (λj=>j<=i/\∀j' k,k<j'->j'<j->TG (Hb t) A is i j' k) 0 ⟨Qh _,λ_ _ _ h=>absurd h (Xe _)⟩ rfl rfl λj ⟨hj,g2⟩=>?_
  by_cases h':j<i
  ·obtain⟨y,hy⟩:=gxE (l:=o) (i:=j) (by omega);have hgy:((Hy o).take i)[j]? = some (Sl y):=by rw[Ja h'];exact Hg hy
   have hcl3:((Hy o).take j).length=j:=by rw[Qz];omega
   refine go tt [.T,.x hgy,.i j] rfl (by simp[Ge] <;> omega) ?_;refine Fl (S:=Nat) 5 (λL1 k=>(97,.v (.oi k))::L1) (λ_=>[BY t,.gone,.gone,GZ x,GZ y]) (λk=>j-k) (λk=>k<=j/\∀k',k'<k->TG (Hb t) A is i j k') 0 ⟨Qh _,λ_ h=>absurd h (Xe _)⟩ rfl rfl λk ⟨hk,g3⟩=>?_
   by_cases h'':k<j
   ·obtain⟨z,hz⟩:=gxE (l:=o) (i:=k) (by omega);have hgz:((Hy o).take j)[k]? = some (Sl z):=by rw[Ja h''];exact Hg hz
    have ct_:=Ey (sO hz) (sO hy) (sO hx) ht;obtain⟨s,hs⟩:=nmE (Hk (Hb t) (G8 z.nrm.c y.nrm.c x.nrm.c));rw[<-hs]at ct_;by_cases h4:0<s
    ·refine go tt [.T,.x hgz,.k ct_,.F] rfl (by simp[Ge] <;> omega) ?_;refine rd (k+1) (by omega) ⟨h'',λk' hk'=>?_⟩ rfl;by_cases e:k'=k
     ·subst e;exact λx' y' z' h1 h2 h3=>by
       rw[h1.un (o1 i x hx),h2.un (o1 j y hy),h3.un (o1 _ z hz),<-hs];exact h4
     exact g3 k' (by omega)
    rw[Ch λhq=>by
     have:=hq.2.2 i j k h'' h' (by omega) x y z (o1 i x hx) (o1 j y hy) (o1 k z hz);rw[<-hs]at this;exact h4 this]
    exact Fh [.T,.x hgz,.k ct_,.T] rfl rfl (by simp[Ge] <;> omega)
   obtain rfl:k=j:=by omega
   refine go tt [.F] rfl (by simp[Ge] <;> omega) ?_;refine rd (k+1) (by omega) ⟨h',λj' k' h1 h2=>?_⟩ rfl;by_cases e:j'=k
   ·subst e;exact g3 k' h1
   exact g2 j' k' h1 (by omega)
  obtain rfl:j=i:=by omega
  refine go tt [.F] rfl (by simp[Ge] <;> omega) ?_;refine rd (j+1) (by omega) ⟨h,λi' j' k' h1 h2 h3=>?_⟩ rfl;by_cases e:i'=j
  ·subst e;exact g2 j' k' h1 h2
  exact g1 i' j' k' h1 h2 (by omega)
 rw[WA ⟨hlen,all2,λi' j k h1 h2 h3=>g1 i' j k h1 h2 (by omega)⟩];exact Fh [.F] rfl
theorem iE{l:List Pt}(hn:l.length<=1000000):Fo 76 [.one (pts l)] [.one (pts (He Td l))]:=by
 have hcl:=Su l;show Fo 76 [.one (.row (Hy l))] [.one (.row (Hy (He Td l)))];refine Sk func76 rfl ?_;refine Ff [.o 3 76 5] rfl ?_;refine Fl (S:=Nat) 1 (λL1 i=>(9,.v (.oi i))::(3,.v (.one (.orow 0 5 none)))::L1) (λi=>[.row false 76 5 (Hy (He Td (l.take i)))]) (λi=>l.length-i) (λi=>i<=l.length) 0 (Qh _) rfl rfl λi hi=>?_
 by_cases hlt:i<l.length
 ·obtain⟨c,hc⟩:=gxE (l:=l) (i:=i) hlt;have hst:He Td (l.take (i+1))=Cq Td (He Td (l.take i)) c:=FH hc;obtain⟨O,hO⟩:=nmE (He Td (l.take i));have hOl:O.length=i:=by rw[hO,Pg,Qz];omega
  rw[<-hO]at hst ⊢;refine Ff [.t (by simp[hcl];omega),.x (Hg hc)] rfl ?_;refine Fl (S:=Nat) 2 (λL1 k=>(6,.v (.oi k))::L1) (λk=>[.row false 76 5 (Hy O),GZ c]) id (λk=>k<=O.length/\Bs Td O c k=Bs Td O c O.length) (Hy O).length ⟨by rw[Su];exact Qn _,by rw[Su]⟩ rfl rfl λk ⟨hk,hp⟩=>?_
  have hz:∀y∈[zPt],y.length=5:=λy hy=>by rw[Qo.1 hy];rfl
  have h77:∀y∈Hy O++[zPt],y.length=5:=λy hy=>by
   rcases Qr.1 hy with hy|hy
   ·exact Qqv O y hy
   ·exact hz y hy
  cases k with
  |
   zero =>
   have hp:Bs Td O c O.length=0:=by rw[<-hp];rfl
   refine go tt [.g 17 false (by simp),.f rfl,.s (sz:=5) hz,.r 36 (eI (b:=((0+1:Nat):Int)) (by simp)),.i (0+1),.i (0),.s (sz:=5) (λy hy=>h77 y (Qq hy)),.i (O.length),.i (0)] rfl (by simp[Ge,Su];omega) ?_;exact rd (i+1) (by omega) hlt (by rw[hst,<-Qa8 (z:=zPt) (l2:=(Hy O++[zPt]).take ((Hy O++[zPt]).length-0)) (k:=0) (m:=O.length) (by omega) hp (by omega) (by congr 1;exact Qp (by simp))];rfl)
  |
   succ k =>
   obtain⟨x,hx⟩:=gxE (l:=O) (i:=k) (by omega);by_cases hlc:c.id<x.id
   ·refine go tt [.g 17 true (by simp),.r 22 (eI (b:=(k:Int)) (by simp)),.i k,.x (Hg hx),.t (decide_eq_true hlc),.r 29 (eI (b:=(k:Int)) (by simp))] rfl (by simp[Ge,Su];omega) ?_;exact rd k (by simp) ⟨by omega,by rw[<-hp,KI hx (show Td c x=true from decide_eq_true hlc)]⟩ rfl
   ·have hp:Bs Td O c O.length=k+1:=by rw[<-hp,XQ hx (show Td c x=false from decide_eq_false hlc)]
    refine go tt [.g 17 true (by simp),.r 22 (eI (b:=(k:Int)) (by simp)),.i k,.x (Hg hx),.f (decide_eq_false hlc),.s (sz:=5) hz,.r 36 (eI (b:=((k+1+1:Nat):Int)) (by simp)),.i (k+1+1),.i (k+1),.s (sz:=5) (λy hy=>h77 y (Q9 (Qq hy))),.i (O.length-(k+1)),.i (k+1)] rfl (by simp[Ge,Su];omega) ?_;exact rd (i+1) (by omega) hlt (by rw[hst,<-Qa8 (z:=zPt) (l2:=((Hy O++[zPt]).drop (k+1)).take ((Hy O++[zPt]).length-(k+1))) (k:=k+1) (m:=O.length-(k+1)) (by omega) hp (by omega) (by congr 1;exact Qp (by simp))];rfl)
 ·obtain rfl:i=l.length:=by omega
  rw[Za];exact Fh [.f (by simp[hcl])] rfl
theorem wU{W:List Pt}{x y:Pt}{i j k:Nat}(hx:W[i]? = some x)(hy:(W.drop (i+1))[j]? = some y):∃r,Pj W=YZ W x y i j k++r:=by
 obtain⟨r,hr⟩:=ON (i+1) W;rw[WU W i x hx]at hr;obtain⟨r2,hr2⟩:=UO (j+1) (W.drop (i+1));rw[E6 _ j y hy]at hr2;have e3:((W.drop (i+1)).drop (j+1)).map (λz=>(y,z))=(((W.drop (i+1)).drop (j+1)).take k).map (λz=>(y,z))++(((W.drop (i+1)).drop (j+1)).drop k).map (λz=>(y,z)):=by
  rw[<-Xo,Zh]
 rw[hr2,e3]at hr;rw[hr];unfold YZ;simp only[Xo,Zj];exact⟨_,rfl⟩
theorem qN{W:List Pt}{a b c:Pt}{t:Tm}(ha:Cs 128 3 a.c)(hb:Cs 128 3 b.c)(hc:Cs 128 3 c.c)(hs:∀p∈W,Cs 128 3 p.c)(hn:W.length≤1000000)(ht:Va t):Fo 77 [.agg (ta t),.agg (Sl a),.agg (Sl b),.agg (Sl c),.one (pts W)] [.one (.bool (qJ (Hb t) (W.map Pt.nrm) (a.nrm,b.nrm,c.nrm)))]:=by
 have hcl:=Su W;have c1:=Ey ha hb hc ht;have b1:=Iu t (G8 a.nrm.c b.nrm.c c.nrm.c);show Fo 77 [.agg (ta t),.agg (Sl a),.agg (Sl b),.agg (Sl c),.one (.row (Hy W))] _;unfold qJ;dsimp only;obtain⟨o,ho⟩:=nmE (Hk (Hb t) (G8 a.nrm.c b.nrm.c c.nrm.c));rw[<-ho]at c1 b1 ⊢;rw[List.all_map];obtain⟨f,hf⟩:∃f:Pt->Bool,f=λd=>decide (d.id=a.id\/d.id=b.id\/d.id=c.id) || !decide (0<o*Hk (Hb t) (Ei a.nrm.c b.nrm.c c.nrm.c d.nrm.c)):=⟨_,rfl⟩
 rw[show(W.all ((λd=>decide (d.id=a.nrm.id\/d.id=b.nrm.id\/d.id=c.nrm.id) || !decide (0<o*Hk (Hb t) (Ei a.nrm.c b.nrm.c c.nrm.c d.c))) ∘ Pt.nrm))=W.all f from by rw[hf];rfl];refine Sk func77 rfl ?_;refine Ff [.k c1] rfl ?_;refine Fl (S:=Nat) 4 (λL1 i=>(21,.v (.oi i))::L1) (λ_=>[BY t,GZ a,GZ b,GZ c]) (λi=>W.length-i) (λi=>i<=W.length/\∀j d,j<i->W[j]? = some d->f d=true) 0 ⟨Qh _,λj _ h=>absurd h (Xe j)⟩ rfl rfl λi ⟨hi,hj⟩=>?_
 by_cases h:i<W.length
 ·obtain⟨d,hd⟩:=gxE (l:=W) (i:=i) h;have hdm:=Qa hd;have sd:=hs d hdm;have nxt:f d=true->∀j e,j<i+1->W[j]? = some e->f e=true:=λhfd j e hj' he=>by
   by_cases q:j=i
   ·subst q;rw[hd]at he;injection he with he;subst he;exact hfd
   ·exact hj j e (by omega) he
  have on:d.id=a.id\/d.id=b.id\/d.id=c.id->f d=true:=λh=>by rw[hf];simp only[decide_eq_true h,We]
  by_cases e1:d.id=a.id
  ·refine go tt [.T,.x (Hg hd),.g 30 false (decide_eq_false λh=>h e1),.g 37 false rfl,.g 44 false rfl,.f rfl] rfl (by simp[Ge] <;> omega) ?_;exact rd (i+1) (by omega) ⟨h,nxt (on (.inl e1))⟩ rfl
  by_cases e2:d.id=b.id
  ·refine go tt [.T,.x (Hg hd),.g 30 true (decide_eq_true e1),.g 37 false (decide_eq_false λh=>h e2),.g 44 false rfl,.f rfl] rfl (by simp[Ge] <;> omega) ?_;exact rd (i+1) (by omega) ⟨h,nxt (on (.inr (.inl e2)))⟩ rfl
  by_cases e3:d.id=c.id
  ·refine go tt [.T,.x (Hg hd),.g 30 true (decide_eq_true e1),.g 37 true (decide_eq_true e2),.g 44 false (decide_eq_false λh=>h e3),.f rfl] rfl (by simp[Ge] <;> omega) ?_;exact rd (i+1) (by omega) ⟨h,nxt (on (.inr (.inr e3)))⟩ rfl
  obtain⟨ci,ca⟩:=Qty ha hb hc sd ht;have b2:=Iu t (Ei a.nrm.c b.nrm.c c.nrm.c d.nrm.c);have hfd:f d = !decide (0<o*Hk (Hb t) (Ei a.nrm.c b.nrm.c c.nrm.c d.nrm.c)):=by
   rw[hf];simp only[decide_eq_false (show ¬(d.id=a.id\/d.id=b.id\/d.id=c.id) from λh=>h.elim e1 λh=>h.elim e2 e3),J3]
  have hms:=ZW b1 b2;by_cases hp:0<o*Hk (Hb t) (Ei a.nrm.c b.nrm.c c.nrm.c d.nrm.c)
  ·rw[decide_eq_true hp]at hfd;have hall:W.all f=false:=by
    cases hb:W.all f with
    |false=>rfl
    |true=>rw[Jd]at hb;rw[hb d hdm]at hfd;cases hfd
   rw[hall,Bool.and_false];exact Fh [.T,.x (Hg hd),.g 30 true (decide_eq_true e1),.g 37 true (decide_eq_true e2),.g 44 true (decide_eq_true e3),.k ci,.k ca,.t (decide_eq_true hp)] rfl rfl (by simp[Ge,IntKind.bits] <;> omega)
  rw[decide_eq_false hp]at hfd;refine go tt [.T,.x (Hg hd),.g 30 true (decide_eq_true e1),.g 37 true (decide_eq_true e2),.g 44 true (decide_eq_true e3),.k ci,.k ca,.f (decide_eq_false hp)] rfl (by simp[Ge,IntKind.bits] <;> omega) ?_;exact rd (i+1) (by omega) ⟨h,nxt hfd⟩ rfl
 have hall:W.all f=true:=Jd.2 λd hd=>by
  obtain⟨j,hj'⟩:=Ze hd;exact hj j d (by have:=(Qd.1 hj').1;omega) hj'
 rw[hall,Bool.and_true];exact Fh [.F] rfl
abbrev T3:=Int×Int×Int
def Ef(l:List T3):Fz:=l.map λm=>[.int .i64 m.1,.int .i64 m.2.1,.int .i64 m.2.2]
theorem VL(l:List T3):(Ef l).length=l.length:=Q4 _
theorem TY{l:List T3}{i:Nat}{m:T3}(h:l[i]? = some m):(Ef l)[i]? = some [.int .i64 m.1,.int .i64 m.2.1,.int .i64 m.2.2]:=Tk (f:=λm:T3=>[LV.int .i64 m.1,.int .i64 m.2.1,.int .i64 m.2.2]) h
abbrev TB(m:P3):T3:=(m.1.id,m.2.1.id,m.2.2.id)
theorem Qms{a b c a' b' c':Int}(h:¬((a,b,c):T3)=(a',b',c')):¬a=a'\/¬b=b'\/¬c=c':=by
 by_cases q1:a=a'
 ·by_cases q2:b=b'
  ·exact .inr (.inr λq3=>h (by rw[q1,q2,q3]))
  exact .inr (.inl q2)
 exact .inl q1
def Qim(sg:Ft->Int)(W:List Pt)(m:P3):Bool:=qJ sg (W.map Pt.nrm) (m.1.nrm,m.2.1.nrm,m.2.2.nrm)
theorem pC{α β:Type}{f:α->β}{l:List β}{F:List α}{n:Nat}{m:α}(h:l.take n=F.map f)(hn:n=F.length){b:β}(hb:l[n]? = some b)(e:b=f m):l.take (n+1)=(F++[m]).map f:=by
 rw[X2,hb,Jr,h,Xo,e];rfl
set_option maxHeartbeats 2000000 in
theorem gC{M:List Pt}{t:Tm}{l:List T3}(hsc:∀p∈M,Cs 128 3 p.c)(hn:M.length≤6)(hl:l.length≤1000000)(ht:Va t):Fo 24 [.agg (ta t),.one (.row (Ef l)),.one (pts M)] [.one (.bool (decide (l=((Pj (He Td (S0 M))).filter (Qim (Hb t) (He Td (S0 M)))).map TB)))]:=by
 have cW:=GY hsc (by omega);have hWl:=WT M;have cS:=iE (l:=S0 M) (by omega);have hWs:∀p∈He Td (S0 M),Cs 128 3 p.c:=λp hp=>hsc p (XW (Ph.1 hp))
 have hWl2:(He Td (S0 M)).length=(S0 M).length:=Pg _ _;obtain⟨W,hW⟩:=nmE (He Td (S0 M));rw[<-hW]at cS hWs hWl2 ⊢;have hWl3:W.length<=6:=by omega
 obtain⟨E,hE⟩:=nmE (Qim (Hb t) W);rw[<-hE];obtain⟨T,hT⟩:=nmE ((Pj W).filter E);rw[<-hT];have hTl:T.length<=20:=by rw[hT];exact Qe (X4 _ _) (RE (l:=W) (by omega)).1
 have htl:=VL l;have hcl:(List.map Sl W).length=W.length:=by simp
 have pre:∀{F:List P3} {r:List P3} {m:P3},T=F++[m]++r->l.take F.length=F.map TB->¬l[F.length]? = some (TB m)->decide (l=T.map TB)=false:=λ{F r m} hTF h1 h2=>decide_eq_false λe=>h2 (by
  rw[e,hTF,Xo,Xo,Zj,Zk (by rw[Q4];exact Qn _),Q4,J4];rfl)
 refine Sk func24 rfl ?_;refine Ff [.k cW,.k cS] rfl ?_;refine lp (S:=Nat) 1 (λL1 i=>(20,.v (.oi i))::(8,.v (.oi ((((Df i W).filter E).length:Nat):Int)))::L1) (λ_=>[BY t]) (λi=>W.length-i) (λi=>i<=W.length/\l.take ((Df i W).filter E).length=((Df i W).filter E).map TB) 0 ⟨Qh _,by rw[show Df 0 W=[] from by cases W <;> rfl];rfl⟩ rfl (λ_ _=>rfl) (by rw[show Df 0 W=[] from by cases W <;> rfl];rfl) λi ⟨hi,k1⟩=>?_
 by_cases h:i<W.length
 ·obtain⟨x,hx⟩:=gxE (l:=W) (i:=i) h;have sx:=hWs x (Qa hx);have hcl2:((List.map Sl W).drop (i+1)).length=W.length-(i+1):=by simp
  have hdl:(W.drop (i+1)).length=W.length-(i+1):=by simp
  refine go tt [.T,.x (Hg hx),.r 27 (eI (b:=((i+1:Nat):Int)) (by simp)),.i (i+1)] rfl (by simp[Ge];exact⟨by omega,λ_ _=>rfl,by omega⟩) ?_;refine lp (S:=Nat) 2 (λL1 j=>(30,.v (.oi j))::(8,.v (.oi ((((lK W x i j).filter E).length:Nat):Int)))::L1) (λ_=>[BY t,GZ x]) (λj=>W.length-(i+1)-j) (λj=>j<=W.length-(i+1)/\l.take ((lK W x i j).filter E).length=((lK W x i j).filter E).map TB) 0 ⟨Qh _,by rw[VH];exact k1⟩ rfl (λ_ _=>rfl) (by rw[VH];rfl) λj ⟨hj,k2⟩=>?_
  by_cases h':j<W.length-(i+1)
  ·obtain⟨y,hy⟩:=gxE (l:=(W.drop (i+1))) (i:=j) (by omega);have sy:=hWs y (Q9 (Qa hy));have hgy:((List.map Sl W).drop (i+1))[j]? = some (Sl y):=by rw[<-Y5];exact Tk hy
   have hdd:(W.drop (i+1)).drop (j+1)=W.drop (i+j+2):=by rw[Kl];congr 1;omega
   have hcl3:((List.map Sl W).drop (i+j+2)).length=W.length-(i+j+2):=by simp
   have hdl3:(W.drop (i+j+2)).length=W.length-(i+j+2):=by simp
   refine go tt [.T,.x hgy,.r 39 (eI (b:=((i+j+2:Nat):Int)) (by simp)),.i (i+j+2)] rfl (by simp[Ge];exact⟨by omega,λ_ _=>rfl,by omega⟩) ?_;refine lp (S:=Nat) 3 (λL1 k=>(42,.v (.oi k))::(8,.v (.oi ((((YZ W x y i j k).filter E).length:Nat):Int)))::L1) (λ_=>[BY t,GZ x,GZ y]) (λk=>W.length-(i+j+2)-k) (λk=>k<=W.length-(i+j+2)/\l.take ((YZ W x y i j k).filter E).length=((YZ W x y i j k).filter E).map TB) 0 ⟨Qh _,by rw[VR];exact k2⟩ rfl (λ_ _=>rfl) (by rw[VR];rfl) λk ⟨hk,k3⟩=>?_
   have Ee:((YZ W x y i j k).filter E).length<=20:=Qe (X4 _ _) (Qb3 (by omega) hx hy);by_cases h'':k<W.length-(i+j+2)
   ·obtain⟨z,hz⟩:=gxE (l:=(W.drop (i+j+2))) (i:=k) (by omega);have sz:=hWs z (Q9 (Qa hz));have hgz:((List.map Sl W).drop (i+j+2))[k]? = some (Sl z):=by rw[<-Y5];exact Tk hz
    have hnx:=IS (W:=W) (x:=x) (y:=y) (i:=i) (j:=j) (k:=k) (z:=z) (by rw[hdd];exact hz);have ce:=qN sx sy sz hWs (by omega) ht;rw[show qJ (Hb t) (W.map Pt.nrm) (x.nrm,y.nrm,z.nrm)=E (x,y,z) by rw[hE];rfl]at ce;cases hb:E (x,y,z)with
    |false =>
     rw[hb]at ce;have e:(YZ W x y i j (k+1)).filter E=(YZ W x y i j k).filter E:=by rw[hnx,J7];simp[hb]
     refine go tt [.T,.x hgz,.k ce,.t rfl] rfl (by simp[Ge] <;> omega) ?_;exact rd (k+1) (by omega) ⟨by omega,by rw[e];exact k3⟩ (by rw[e];rfl)
    |
     true =>
     rw[hb]at ce;have e:(YZ W x y i j (k+1)).filter E=(YZ W x y i j k).filter E++[(x,y,z)]:=by rw[hnx,J7];simp[hb]
     obtain⟨r,hr⟩:∃r,T=(YZ W x y i j k).filter E++[(x,y,z)]++r:=by
      obtain⟨r,hr⟩:=wU (k:=k+1) hx hy;exact⟨r.filter E,by rw[hT,hr,J7,e]⟩
     obtain⟨F,hF⟩:=nmE ((YZ W x y i j k).filter E);rw[<-hF]at Ee k3 e hr ⊢;by_cases hnl:F.length<l.length
     ·obtain⟨m,hm⟩:=gxE (l:=l) (i:=F.length) hnl;by_cases hmm:m=TB (x,y,z)
      ·have hmm':=hmm;subst hmm;refine go tt [.T,.x hgz,.k ce,.f rfl,.g 57 false Fp,.x (TY hm),.f (by simp)] rfl (by simp[Ge] <;> omega) ?_;exact rd (k+1) (by omega) ⟨by omega,by rw[e,Q6,X5];exact pC k3 rfl hm rfl⟩ (by rw[e,Q6];rfl)
      ·rw[pre hr k3 λh=>hmm (by rw[hm]at h;exact Option.some.inj h)];obtain⟨m1,m2,m3⟩:=m;exact Fh [.T,.x hgz,.k ce,.f rfl,.g 57 false Fp,.x (TY hm),.t (by simpa using Qms hmm)] rfl rfl (by simp[Ge] <;> omega)
     ·rw[pre hr k3 λh=>by rw[Qt (by omega)]at h;cases h];exact Fh [.T,.x hgz,.k ce,.f rfl,.g 57 true Fq,.t rfl] rfl rfl (by simp[Ge] <;> omega)
   have e:=wW (x:=x) (k:=k) hy (by rw[hdd,hdl3];omega);rw[e]at k3 ⊢;refine go tt [.F] rfl (by simp[Ge] <;> omega) ?_;exact rd (j+1) (by omega) ⟨by omega,k3⟩ rfl
  have e:=wK (j:=j) hx (by omega);rw[e]at k2 ⊢;refine go tt [.F] rfl (by simp[Ge] <;> omega) ?_;exact rd (i+1) (by omega) ⟨h,k2⟩ rfl
 have e:=uN (W:=W) (i:=i) (by omega);rw[e,<-hT]at k1 ⊢;have hres:decide (((T.length:Nat):Int)=((Ef l).length:Int))=decide (l=T.map TB):=by
  rw[htl];by_cases hle:T.length=l.length
  ·rw[decide_eq_true (by omega),decide_eq_true];rw[hle,Za]at k1;exact k1
  ·rw[decide_eq_false (by omega),decide_eq_false];intro e;apply hle;rw[e,Q4]
 rw[<-hres];exact Fh [.F] rfl
end Orr
namespace Orq
open Orr Go
theorem Dc{a:Tm}(ha:Va a){u v:Pt}(hu:Sc u.c)(hv:Sc v.c):P7 (Hb a) u v=Rh (Hb a) u v:=by
 have h1:=(C4 hu hv).dp;have h2:=(C3 hu hv).dp;unfold Rh P7;simp only[Af];have e0:Hk (Hb a) []=0:=rfl;by_cases k1:(Hi u.c v.c).length=0
 ·have e1:=Qf k1;rw[e1,e0,if_neg (show ¬0<([]:Ft).length by simp),if_neg (show ¬(0:Int)≠0 by simp)];by_cases k2:(Hh u.c v.c).length=0
  ·rw[Qf k2,e0,if_neg (show ¬0<([]:Ft).length by simp),if_neg (show ¬(0:Int)≠0 by simp)]
  ·have:=(B9 ha h2 k2).2;rw[if_pos this,if_pos (by omega)]
 ·have:=(B9 ha h1 k1).2;rw[if_pos this,if_pos (by omega)]
theorem Qle{a:Tm}(ha:Va a){u v:Pt}(hu:Sc u.c)(hv:Sc v.c):Cm (Hb a) u v=JB (Hb a) u v:=by
 have h1:=(C3 hv hu).dp;have h2:=(C4 hv hu).dp;unfold JB Cm;simp only[Af];have e0:Hk (Hb a) []=0:=rfl;by_cases k1:(Hh v.c u.c).length=0
 ·have e1:=Qf k1;rw[e1,e0,if_neg (show ¬0<([]:Ft).length by simp),if_neg (show ¬(0:Int)≠0 by simp)];by_cases k2:(Hi v.c u.c).length=0
  ·rw[Qf k2,e0,if_neg (show ¬0<([]:Ft).length by simp),if_neg (show ¬(0:Int)≠0 by simp)]
  ·have:=(B9 ha h2 k2).2;rw[if_pos this,if_pos (by omega)]
 ·have:=(B9 ha h1 k1).2;rw[if_pos this,if_pos (by omega)]
theorem NA{α:Type}{lt lt':α->α->Bool}{l:List α}(h:∀x∈l,∀y∈l,lt x y=lt' x y):He lt l=He lt' l:=by
 have lD:∀{O:List α} {x:α},(∀y∈O,lt x y=lt' x y)->∀k,k≤O.length->Bs lt O x k=Bs lt' O x k:=λ{O x} hO=>by
  intro k
  induction k with
  |zero=>intro _;rfl
  |
   succ k ih =>
   intro hk;obtain⟨y,hy⟩:=gxE (l:=O) (i:=k) (by omega);have e:=hO y (Qa hy);by_cases hb:lt x y=true
   ·rw[KI hy hb,KI hy (by rw[<-e];exact hb),ih (by omega)]
   ·have hb:lt x y=false:=by simpa using hb
    rw[XQ hy hb,XQ hy (by rw[<-e];exact hb)]
 have ins:∀{O:List α} {x:α},(∀y∈O,lt x y=lt' x y)->Cq lt O x=Cq lt' O x:=λ{O x} hO=>by
  unfold Cq;rw[lD hO O.length (Qn _)]
 have key:∀(m:List α),(∀x∈m,x∈l)->∀O,(∀x∈O,x∈l)->m.foldl (Cq lt) O=m.foldl (Cq lt') O:=by
  intro m
  induction m with
  |nil=>intro _ O _;rfl
  |
   cons x m ih =>
   intro hm O hO;have hx:=hm x (by simp);rw[Z0,Z0,ins λy hy=>h x hx y (hO y hy)];refine ih (λz hz=>hm z (Qi _ hz)) _ λz hz=>?_
   have e:Cq lt' O x=(Cq lt' O x):=rfl;rw[HK]at hz;rcases hz with hz|hz
   ·rw[hz];exact hx
   ·exact hO z hz
 exact key l (λ_ h=>h) [] (λ_ h=>by cases h)
section
variable{M:List Pt}{a:Tm}(hl:∀p∈M,Sc p.c)(hd:M.Pairwise λx y=>x.id≠y.id)(ha:Va a)
include hl hd ha
theorem Qox{x y:Pt}(he:(x,y)∈Ln (Gx M a))(hx:x∈Gx M a)(hy:y∈Gx M a)(exy:x≠y):Co (Hb a) x y (Gu M)=true:=by
 obtain⟨q,S⟩:=Mv hl hd ha;have mW:∀{u},u∈Gx M a->u∈Gu M:=λh=>Rx.1 (Bu h)
 unfold Co;rw[Jd];intro c hc;unfold Nu;by_cases e1:c.id=x.id
 ·rw[decide_eq_true e1];rfl
 by_cases e2:c.id=y.id
 ·rw[decide_eq_true e2];simp
 have nx:c≠x:=λe=>e1 (by rw[e])
 have ny:c≠y:=λe=>e2 (by rw[e])
 have wx:=mW hx;have wy:=mW hy;have ml:=λ{u} (h:u∈Gu M)=>Ht h
 rw[decide_eq_false e1,decide_eq_false e2,J3,J3,JJ];have h0:=fO hl hd ha he (ml hc);rw[decide_eq_false (by dsimp only at h0;omega),Bool.false_or];by_cases z:Hk (Hb a) (G8 x.c y.c c.c)=0
 case neg=>rw[decide_eq_false z];rfl
 rw[decide_eq_true z,Yo,Bool.not_not];rw[S.o _ (ml wx) _ (ml wy) _ (ml hc)]at z;have z:=Ha.1 z;have R:∀{u},u∈Gu M->u∈Rk a (Gu M):=λh=>Rx.2 h
 have h3:3<=(Rk a (Gu M)).length:=by
  rw[Dd];obtain⟨i,hi⟩:=Ze wx;obtain⟨j,hj⟩:=Ze wy;obtain⟨k,hk⟩:=Ze hc;have l1:=(Qd.1 hi).1;have l2:=(Qd.1 hj).1;have l3:=(Qd.1 hk).1;have n1:i≠j:=λe=>by subst e;rw[hi]at hj;exact exy (Option.some.inj hj)
  have n2:i≠k:=λe=>by subst e;rw[hi]at hk;exact nx (Option.some.inj hk).symm
  have n3:j≠k:=λe=>by subst e;rw[hj]at hk;exact ny (Option.some.inj hk).symm
  omega
 have E1:=GP S hx h3;have E2:=GP S hy h3;have tot:∀{u v:Pt},u∈Gu M->v∈Gu M->u≠v->lx (px · q) (py · q) u v\/lx (px · q) (py · q) v u:=λhu hv hne=>by
  have hp:=lS S _ (R hv) _ (R hu) hne;unfold lx;grind
 have bl:=λ{u v:Pt} (hu:u∈Gu M) (hv:v∈Gu M) (hne:u≠v)=>Se S hu hv hne
 have goal:(P7 (Hb a) x c=true/\P7 (Hb a) c y=true)\/(P7 (Hb a) y c=true/\P7 (Hb a) c x=true):=by
  rw[Dc ha (hl _ (ml wx)) (hl _ (ml hc)),Dc ha (hl _ (ml hc)) (hl _ (ml wy)),Dc ha (hl _ (ml wy)) (hl _ (ml hc)),Dc ha (hl _ (ml hc)) (hl _ (ml wx))];rw[bl wx hc nx.symm,bl hc wy ny,bl wy hc ny.symm,bl hc wx nx];have z1:H4 (px · q) (py · q) c y x=0:=by unfold H4 at z ⊢;grind
  have z2:H4 (px · q) (py · q) y c x=0:=by unfold H4 at z ⊢;grind
  have z3:H4 (px · q) (py · q) c x y=0:=by unfold H4 at z ⊢;grind
  have z4:H4 (px · q) (py · q) x c y=0:=by unfold H4 at z ⊢;grind
  rcases tot wx hc nx.symm with h1|h1
  ·rcases tot hc wy ny with h2|h2
   ·exact .inl ⟨h1,h2⟩
   ·exfalso;rcases tot wx wy exy with h3'|h3'
    ·exact Oi E2 (R wx) (R hc) exy ny z4 h3' h2
    ·exact Oi E1 (R wy) (R hc) (Ne.symm exy) nx z2 h3' h1
  ·rcases tot hc wy ny with h2|h2
   ·exfalso;rcases tot wx wy exy with h3'|h3'
    ·exact Oi E1 (R hc) (R wy) nx (Ne.symm exy) z1 h1 h3'
    ·exact Oi E2 (R hc) (R wx) ny exy z3 h2 h3'
   ·exact .inr ⟨h2,h1⟩
 unfold gV;rcases goal with⟨h1,h2⟩|⟨h1,h2⟩
 ·rw[h1,h2];rfl
 ·rw[h1,h2];simp
theorem tR{q:Rat}(S:Soon M a q){x y c:Pt}(hx:x∈Gu M)(hy:y∈Gu M)(hc:c∈Gu M)(n1:c≠x)(n2:c≠y)(h:Co (Hb a) x y (Gu M)=true):0<H4 (px · q) (py · q) x y c\/H4 (px · q) (py · q) x y c=0/\(lx (px · q) (py · q) x c/\lx (px · q) (py · q) c y\/lx (px · q) (py · q) y c/\lx (px · q) (py · q) c x):=by
 have hWd:If (Gu M):=List.Pairwise.sublist (B5 M) hd;have ml:=λ{u} (h:u∈Gu M)=>Ht h
 unfold Co at h;have h:=Jd.1 h c hc;unfold Nu at h;rw[decide_eq_false λe=>n1 (Et hWd hc hx e),decide_eq_false λe=>n2 (Et hWd hc hy e),J3,J3,JJ,S.o _ (ml hx) _ (ml hy) _ (ml hc)]at h;rcases Hf (H4 (px · q) (py · q) x y c)with⟨e,e'⟩|⟨e,e'⟩|⟨e,e'⟩
 ·rw[e]at h;simp at h
 ·refine .inr ⟨e',?_⟩;rw[e,show decide ((0:Int)<0)=false from rfl,show decide ((0:Int)=0)=true from rfl,J3,Yo,Bool.not_not]at h;unfold gV at h;rw[Dc ha (hl _ (ml hx)) (hl _ (ml hc)),Dc ha (hl _ (ml hc)) (hl _ (ml hy)),Dc ha (hl _ (ml hy)) (hl _ (ml hc)),Dc ha (hl _ (ml hc)) (hl _ (ml hx))]at h;rw[Vp,Zn,Zn,Se S hx hc n1.symm,Se S hc hy n2,Se S hy hc n2.symm,Se S hc hx n1]at h;exact h
 ·exact .inl e'
theorem Qoy{x y p:Pt}(hx:x∈Gu M)(hy:y∈Gu M)(hp:p∈Gu M)(nxy:y≠x)(nxp:p≠x)(h:Co (Hb a) x y (Gu M)=true)(h':Co (Hb a) x p (Gu M)=true):p=y:=by
 obtain⟨q,S⟩:=Mv hl hd ha;refine Classical.byContradiction λhne=>?_
 have a1:=tR hl hd ha S hx hy hp nxp hne h;have a2:=tR hl hd ha S hx hp hy nxy (Ne.symm hne) h';have e:H4 (px · q) (py · q) x p y=-H4 (px · q) (py · q) x y p:=by unfold H4;grind
 rw[e]at a2;have irr:∀u,¬lx (px · q) (py · q) u u:=λu=>Dv u
 rcases a1 with a1|⟨a1,a3⟩
 ·rcases a2 with a2|⟨a2,_⟩ <;> grind
 ·rcases a2 with a2|⟨_,a4⟩
  ·grind
  ·unfold lx at a3 a4;grind
theorem Qpz{i:Nat}(h2:2<=(Gx M a).length){x y:Pt}(hx:(Gx M a)[i]? = some x)(hy:(Gx M a)[(i+1) % (Gx M a).length]? = some y):O9 (Hb a) (Gu M) x=some y/\x≠y:=by
 obtain⟨q,S⟩:=Mv hl hd ha;have hWd:If (Gu M):=List.Pairwise.sublist (B5 M) hd;have nd:=Im S;have mW:∀{u},u∈Gx M a->u∈Gu M:=λh=>Rx.1 (Bu h)
 have hi1:=(Qd.1 hx).1;have hlt:(i+1) % (Gx M a).length<(Gx M a).length:=Xp _ (by omega);have hneq:i≠(i+1) % (Gx M a).length:=by
  by_cases hl:i+1<(Gx M a).length
  ·rw[Xf hl];omega
  ·rw[show i+1=(Gx M a).length by omega,W9];omega
 have exy:x≠y:=λe=>by
  have np:=Xh.1 nd;obtain⟨_,g1⟩:=Qd.1 hx;obtain⟨_,g2⟩:=Qd.1 hy;rcases Nat.lt_or_gt_of_ne hneq with h|h
  ·exact np _ _ hi1 hlt h (by rw[g1,g2];exact e)
  ·exact np _ _ hlt hi1 h (by rw[g1,g2];exact e.symm)
 refine⟨?_,exy⟩;have mx:=Qa hx;have my:=Qa hy;have he:=Qox hl hd ha (Qil hx hy) mx my exy;have hid:y.id≠x.id:=λe=>exy (Et hWd (mW my) (mW mx) e).symm
 unfold O9;cases hf:(Gu M).find? λp=>decide (p.id≠x.id) && Co (Hb a) x p (Gu M)with
 |
  none =>
  have:=Um.1 hf y (mW my);rw[decide_eq_true hid,he]at this;exact absurd rfl this
 |
  some p =>
  have h1:=U5 hf;rw[Zn,decide_eq_true_eq]at h1;have hpm:=Wb hf;rw[Qoy hl hd ha (mW mx) (mW my) hpm (Ne.symm exy) (λe=>h1.1 (by rw[e])) he h1.2]
theorem rL(h2:2<=(Gx M a).length){s:Pt}(hs:(Gx M a)[0]? = some s):∀(k i:Nat) (x:Pt),(Gx M a)[i]? = some x->(Gx M a).length-i<=k->Nt (Hb a) (Gu M) s k x ((Gx M a).take (i+1))=Gx M a
 | 0,i,x,hx,hk=>by have:=(Qd.1 hx).1;omega
 |
  k+1,i,x,hx,hk=>by
  obtain⟨q,S⟩:=Mv hl hd ha;have nd:=Im S;have hWd:If (Gu M):=List.Pairwise.sublist (B5 M) hd;have mW:∀{u},u∈Gx M a->u∈Gu M:=λh=>Rx.1 (Bu h)
  have hi1:=(Qd.1 hx).1;obtain⟨y,hy⟩:=gxE (l:=(Gx M a)) (i:=(i+1) % (Gx M a).length) (Xp _ (by omega));obtain⟨hn,_⟩:=Qpz hl hd ha h2 hx hy;unfold Nt;rw[hn];dsimp only;by_cases hlast:i+1<(Gx M a).length
  ·rw[Xf hlast]at hy;have hne:y.id≠s.id:=λe=>by
    have e:=Et hWd (mW (Qa hy)) (mW (Qa hs)) e;have np:=Xh.1 nd;obtain⟨l1,g1⟩:=Qd.1 hs;obtain⟨_,g2⟩:=Qd.1 hy;exact np 0 (i+1) l1 hlast (by omega) (by rw[g1,g2];exact e.symm)
   rw[if_neg hne];have e:(Gx M a).take (i+1)++[y]=(Gx M a).take (i+1+1):=by rw[X2 (i:=i+1),hy];rfl
   rw[e];exact rL h2 hs k (i+1) y hy (by omega)
  ·have e:i+1=(Gx M a).length:=by omega
   rw[e,W9,hs]at hy;rw[if_pos (by rw[Option.some.inj hy]),e,Za]
end
theorem Qop{M0 M:List Pt}{a:Tm}(hM:M=He Td M0)(hl:∀p∈M,Sc p.c)(hd:M.Pairwise λx y=>x.id≠y.id)(ha:Va a)(hwR:Mf M0=Gu M):Ox (Hb a) M0=Gx M a:=by
 obtain⟨q,S⟩:=Mv hl hd ha;unfold Ox;rw[hwR];have ml:=λ{u} (h:u∈Gu M)=>Ht h
 by_cases h2:(Gu M).length<2
 ·rw[if_pos h2];have e:Gx M a=Rk a (Gu M):=by unfold Gx Ms;rw[if_pos (by rw[Dd];omega)]
  rw[e]
  match hw:Gu M,h2 with
  | [],_=>rfl
  | [x],_=>rfl
 rw[if_neg h2];have es:He (P7 (Hb a)) (Gu M)=Rk a (Gu M):=NA λx hx y hy=>Dc ha (hl _ (ml hx)) (hl _ (ml hy))
 rw[es];have hrl:=Dd a (Gu M);have hC2:2<=(Gx M a).length/\(Gx M a)[0]? = (Rk a (Gu M))[0]? := by
  by_cases h3:3<=(Rk a (Gu M)).length
  ·obtain⟨f,z,A,B,hA,hB,c1,c2,_⟩:=Bj S h3;have hC:Gx M a=f::A++(z::B):=by
    unfold Gx Ms;rw[if_neg (by omega),hA,hB,Zu,Zu]
   rw[hC];refine⟨by simp;omega,?_⟩;have hh:=c1.hd;rw[<-List.head?_eq_getElem?,<-List.head?_eq_getElem?,<-hh];rfl
  ·have e:Gx M a=Rk a (Gu M):=by unfold Gx Ms;rw[if_pos (by omega)]
   rw[e];exact⟨by omega,rfl⟩
 have hCl:(Gx M a).length<=(Gu M).length:=by
  rw[<-hrl];exact C7 _ (Im S) λx hx=>Bu hx
 obtain⟨s,hs⟩:=gxE (l:=(Rk a (Gu M))) (i:=0) (by omega);have hs':=hC2.2.trans hs;cases hr:Rk a (Gu M)with
 |nil=>rw[hr]at hs;cases hs
 |
  cons r R =>
  rw[hr]at hs;obtain rfl:=Option.some.inj hs;have:=rL hl hd ha hC2.1 hs' (Gu M).length 0 r hs' (by omega);rw[X2,hs']at this;exact this
end Orq
namespace Orr
open Go Go.Proofs Tryz Orq
set_option maxRecDepth 10000
theorem rK{l:List Pt}{T:Ti}(hl:∀p∈l,Sc p.c)(hn:l.length≤6)(hw:Mj (Mf l))(hb:∀p,-1≤Hk T.sg p/\Hk T.sg p≤1)(hq:RT T):Fo 67 [.one (.row (Hj l)),.agg T.tl] [.one (.row (Ef (((Pj (Mf l)).filter (qJ T.sg (Mf l))).map TB)))]:=by
 have c1:=rW hl (by omega);have hWl:∀p∈Mf l,Sc p.c:=λp hp=>hl p (WR hp)
 have hWn:=MP l;obtain⟨W,hW⟩:=nmE (Mf l);rw[<-hW]at c1 hWl hWn hw ⊢;have hcl:=Rr W;obtain⟨E,hE⟩:=nmE (qJ T.sg W);rw[<-hE];have hTl:∀F:List P3,(∃r,Pj W=F++r)->(F.filter E).length<=20:=λF ⟨r,hr⟩=>by
  have h1:=(RE (l:=W) (by omega)).1;have h2:=X4 E F;rw[hr,Q6]at h1;omega
 have idx:∀{u v:Nat} {a b:Pt},W[u]? = some a->W[v]? = some b->(a.id=b.id↔u=v):=λ{u v a b} ha hb=>by
  constructor
  ·intro e;obtain⟨hu,eu⟩:=Qd.1 ha;obtain⟨hv,ev⟩:=Qd.1 hb;have hp:=Xh.1 hw;rcases J0 u v with h|h|h
   ·have:=hp u v hu hv h;rw[eu,ev]at this;omega
   ·exact h
   ·have:=hp v u hv hu h;rw[eu,ev]at this;omega
  ·rintro rfl
   rw[ha]at hb;injection hb with hb;rw[hb]
 refine Sk func67 rfl ?_;refine Ff [.k c1,.o 6 79 3] rfl ?_;refine lp (S:=Nat) 2 (λL1 i=>(17,.v (.oi i))::(6,.v (.one (.orow 1 3 none)))::L1) (λi=>[.blk 36 T.tl,.row false 79 3 (Ef (((Df i W).filter E).map TB))]) (λi=>W.length-i) (λi=>i<=W.length) 0 (Qh _) rfl (λ_ _=>rfl) (by rw[show Df 0 W=[] from by cases W <;> rfl];rfl) λi hi=>?_
 by_cases h:i<W.length
 case neg =>
  have e:=uN (W:=W) (i:=i) (by omega);rw[e];exact Fh [.F] rfl
 obtain⟨x,hx⟩:=gxE (l:=W) (i:=i) h;have sx:=hWl x (Qa hx);have hdl:(W.drop (i+1)).length=W.length-(i+1):=by simp
 refine Fg [.T,.r 21 (eI (b:=((i+1:Nat):Int)) (by simp))] rfl ?_;refine lp (S:=Nat) 2 (λL1 j=>(8,.v (.oi ((i+1+j:Nat):Int)))::(6,.v (.one (.orow 1 3 none)))::L1) (λj=>[.blk 36 T.tl,.row false 79 3 (Ef (((lK W x i j).filter E).map TB))]) (λj=>W.length-(i+1)-j) (λj=>j<=W.length-(i+1)) 0 (Qh _) rfl (λ_ _=>rfl) (by rw[VH];rfl) λj hj=>?_
 by_cases h':j<W.length-(i+1)
 case neg =>
  have e:=wK (j:=j) hx (by omega);rw[e];refine go tt [.F] rfl (by simp[Ge] <;> omega) ?_;exact rd (i+1) (by omega) h rfl
 obtain⟨y,hy⟩:=gxE (l:=(W.drop (i+1))) (i:=j) (by omega);have hy':W[i+1+j]? = some y:=by rw[<-hy,Xi]
 have sy:=hWl y (Qa hy');have hdd:(W.drop (i+1)).drop (j+1)=W.drop (i+j+2):=by rw[Kl];congr 1;omega
 have hdl3:(W.drop (i+j+2)).length=W.length-(i+j+2):=by simp
 refine Fg [.T,.r 29 (eI (b:=((i+j+2:Nat):Int)) (by push_cast;omega))] rfl ?_;refine lp (S:=Nat) 2 (λL1 k=>(9,.v (.oi ((i+j+2+k:Nat):Int)))::(6,.v (.one (.orow 1 3 none)))::L1) (λk=>[.blk 36 T.tl,.row false 79 3 (Ef (((YZ W x y i j k).filter E).map TB))]) (λk=>W.length-(i+j+2)-k) (λk=>k<=W.length-(i+j+2)) 0 (Qh _) rfl (λ_ _=>rfl) (by rw[VR];rfl) λk hk=>?_
 by_cases h'':k<W.length-(i+j+2)
 case neg =>
  have e:=wW (x:=x) (k:=k) hy (by rw[hdd,hdl3];omega);rw[e];refine go tt [.F] rfl (by simp[Ge] <;> omega) ?_;exact rd (j+1) (by omega) (by omega) rfl
 obtain⟨z,hz⟩:=gxE (l:=(W.drop (i+j+2))) (i:=k) (by omega);have hz':W[i+j+2+k]? = some z:=by rw[<-hz,Xi]
 have sz:=hWl z (Qa hz');have hnx:=IS (W:=W) (x:=x) (y:=y) (i:=i) (j:=j) (k:=k) (z:=z) (by rw[hdd];exact hz);have co:=LM sx sy sz;have ca:=hq.a (NR sx sy sz).dp;rw[JJ]at co ca;obtain⟨o,ho⟩:=nmE (Hk T.sg (G8 x.c y.c z.c));have ob:=hb (G8 x.c y.c z.c);rw[<-ho]at ca ob;obtain⟨f,hf⟩:∃f:Pt->Bool,f=λd=>decide (d.id=x.id\/d.id=y.id\/d.id=z.id) || !decide (0<o*Hk T.sg (Ei x.c y.c z.c d.c)):=⟨_,rfl⟩
 have hEf:E (x,y,z)=(decide (o≠0) && W.all f):=by rw[hE,hf,ho];rfl
 obtain⟨F,hF⟩:=nmE ((YZ W x y i j k).filter E);have hFl:F.length<=20:=by
  rw[hF];exact hTl _ (wU hx hy)
 have hFt:(Ef (F.map TB)).length=F.length:=by rw[VL,Q4]
 have hnF:(YZ W x y i j (k+1)).filter E=F++(if E (x,y,z)=true then [(x,y,z)]else []):=by
  rw[hnx,J7,<-hF];congr 1;cases hb:E (x,y,z) <;> simp[hb]
 rw[<-hF];obtain⟨jj,hjj⟩:=nmE (i+1+j);obtain⟨kk,hkk⟩:=nmE (i+j+2+k);rw[<-hjj]at hy' ⊢;rw[<-hkk]at hz' ⊢;refine Ff [.T,.x (G0 hx),.x (G0 hy'),.x (G0 hz'),.k co,.k ca] rfl ?_ (by simp[Ge]);obtain⟨g,hg⟩:∃g:Nat->Bool,g=λm=>decide (o≠0) && (W.take m).all f:=⟨_,rfl⟩
 have g0:g 0=decide (o≠0):=by rw[hg];simp
 have gs:∀m d,W[m]? = some d->g (m+1)=(g m && f d):=λm d hd=>by
  rw[hg];simp only[X2,hd,Jr,U4];simp[Bool.and_assoc]
 have gl:g W.length=E (x,y,z):=by rw[hg,hEf];simp only[Za]
 have gend:∀m,m<=W.length->g m=false->E (x,y,z)=false:=λm hm hgm=>by
  rw[hEf];rw[hg]at hgm;simp only[Wx]at hgm ⊢;rcases hgm with h|h
  ·exact .inl h
  ·right;rw[List.all_eq_false]at h ⊢;obtain⟨d,hd,hd2⟩:=h;exact⟨d,Qq hd,hd2⟩
 refine lp (S:=Nat) 2 (λL1 m=>(12,.v (.oi m))::(11,.v (.one (.bool (g m))))::L1) (λm=>[.blk 36 T.tl,.row false 79 3 (Ef (F.map TB))]) (λm=>W.length-m) (λm=>m<=W.length) 0 (Qh _) rfl (λ_ _=>rfl) (by rw[g0];rfl) λm hm=>?_
 have fin_f:E (x,y,z)=false->(YZ W x y i j (k+1)).filter E=F:=λhb=>by rw[hnF,hb];simp
 have fin_t:E (x,y,z)=true->(YZ W x y i j (k+1)).filter E=F++[(x,y,z)]:=λhb=>by rw[hnF,hb];simp
 have h3:∀v∈[[LV.int .i64 x.id,.int .i64 y.id,.int .i64 z.id]],v.length=3:=λv hv=>by rw[Qo.1 hv];rfl
 by_cases hmW:m<W.length
 case neg =>
  obtain rfl:m=W.length:=by omega
  rw[gl];cases hE1:E (x,y,z)with
  |
   false =>
   refine go tt [.g 60 false Fp,.f rfl,.f rfl] rfl (by simp[Ge] <;> omega) ?_;exact rd (k+1) (by omega) (by omega) (by rw[fin_f hE1,hkk];rfl)
  |
   true =>
   refine go tt [.g 60 false Fp,.f rfl,.t rfl,.x (G0 hx),.x (G0 hy'),.x (G0 hz'),.s (sz:=3) h3] rfl (by simp[Ge,hFt] <;> omega) ?_;exact rd (k+1) (by omega) (by omega) (by rw[fin_t hE1,hkk];simp[Ef];rfl)
 obtain⟨d,hd⟩:=gxE (l:=W) (i:=m) hmW;have hgs:=gs m d hd;cases hgm:g m with
 |
  false =>
  have hE1:=gend m (by omega) hgm;refine go tt [.g 60 true Fq,.f rfl,.f rfl] rfl (by simp[Ge] <;> omega) ?_;exact rd (k+1) (by omega) (by omega) (by rw[fin_f hE1,hkk];rfl)
 |
  true =>
  rw[hgm,Yo]at hgs;have ix:=idx hd hx;have iy:=idx hd hy';have iz:=idx hd hz';have on:d.id=x.id\/d.id=y.id\/d.id=z.id->f d=true:=λh=>by rw[hf];simp only[decide_eq_true h,We]
  by_cases e1:m=i
  ·have hfd:=on (.inl (ix.2 e1));refine go tt [.g 60 true Fq,.t rfl,.g 68 false Fp,.g 73 false rfl,.f rfl] rfl (by simp[Ge] <;> omega) ?_;exact rd (m+1) (by omega) hmW (by rw[hgs,hfd];rfl)
  by_cases e2:m=jj
  ·have hfd:=on (.inr (.inl (iy.2 e2)));refine go tt [.g 60 true Fq,.t rfl,.g 68 true Fq,.g 73 false Fp,.f rfl] rfl (by simp[Ge] <;> omega) ?_;exact rd (m+1) (by omega) hmW (by rw[hgs,hfd];rfl)
  by_cases e3:m=kk
  ·have hfd:=on (.inr (.inr (iz.2 e3)));refine go tt [.g 60 true Fq,.t rfl,.g 68 true Fq,.g 73 true Fq,.F] rfl (by simp[Ge] <;> omega) ?_;exact rd (m+1) (by omega) hmW (by rw[hgs,hfd];rfl)
  have sd:=hWl d (Qa hd);have cc:=Qhn sx sy sz sd;have cd:=hq.a (Qdq sx sy sz sd).dp;rw[rS]at cc cd;have cb:=hb (Ei x.c y.c z.c d.c);have hfd:f d=decide (o*Hk T.sg (Ei x.c y.c z.c d.c)<=0):=by
   rw[hf];simp only[decide_eq_false (show ¬(d.id=x.id\/d.id=y.id\/d.id=z.id) from λh=>h.elim (λh=>e1 (ix.1 h)) λh=>h.elim (λh=>e2 (iy.1 h)) λh=>e3 (iz.1 h)),J3];rw[Y9,Kg,decide_eq_false_iff_not,decide_eq_true_eq];omega
  obtain⟨g1,hg1⟩:=nmE (Hk T.sg (Ei x.c y.c z.c d.c));rw[<-hg1]at cd cb hfd;have ms:=ZW ob cb;refine go tt [.g 60 true Fq,.t rfl,.g 68 true Fq,.g 73 true Fq,.T,.x (G0 hx),.x (G0 hy'),.x (G0 hz'),.x (G0 hd),.k cc,.k cd] rfl (by simp[Ge,IntKind.bits] <;> omega) ?_;exact rd (m+1) (by omega) hmW (by rw[hgs,hfd];rfl)
end Orr
namespace Orq
open Orr Go
theorem rA{M W:List Pt}(hW:∀x,x∈W↔x∈Gu M)(hl:∀p∈M,Sc p.c)(hd:M.Pairwise λx y=>x.id≠y.id){a:Tm}(ha:Va a)(h4:(Gu M).length≤4){x:Pt}(hx:x∈Gu M)(hdup:∀(i j:Nat) (u:Pt),j<i->W[i]? = some u->W[j]? = some u->False):JM (Hb a) x W↔x∈Gx M a:=by
 obtain⟨q,S⟩:=Mv hl hd ha;have hWd:If (Gu M):=List.Pairwise.sublist (B5 M) hd;have ne_id:∀{u v:Pt},u∈Gu M->v∈Gu M->u≠v->u.id≠v.id:=λhu hv hne e=>hne (Et hWd hu hv e)
 constructor
 ·intro hc;apply Classical.byContradiction;intro hC;have key:∀{u v:Pt},u∈Gu M->v∈Gu M->u≠x->v≠x->u≠v->∃(i j:Nat) (a' b':Pt),j<i/\W[i]? = some a'/\W[j]? = some b'/\(a'=u/\b'=v\/a'=v/\b'=u):=λ{u v} hu hv _ _ hne=>by
   obtain⟨i,hi⟩:=Ze ((hW _).2 hu);obtain⟨j,hj⟩:=Ze ((hW _).2 hv);rcases J0 i j with h|h|h
   ·exact⟨j,i,v,u,h,hj,hi,.inr ⟨rfl,rfl⟩⟩
   ·subst h;rw[hi]at hj;injection hj with hj;exact absurd hj hne
   ·exact⟨i,j,u,v,h,hi,hj,.inl ⟨rfl,rfl⟩⟩
  rcases rE S h4 hx hC with⟨u,v,hu,hv,nu,nv,h0,h1,h2⟩|⟨u,v,w,hu,hv,hw,nu,nv,nw,h0,h1,h2,h3⟩
  ·have hne:u≠v:=λe=>by rw[e]at h1;exact Dv _ (sP h1 h2)
   have hw1:nT (Hb a) u v x:=by
    refine⟨?_,.inl ⟨(Se S hu hx nu).2 h1,(Se S hx hv nv.symm).2 h2⟩⟩;rw[S.o _ (Ht hu) _ (Ht hv) _ (Ht hx)];exact Ha.2 h0
   have hw2:nT (Hb a) v u x:=by
    refine⟨?_,hw1.2.symm⟩;rw[S.o _ (Ht hv) _ (Ht hu) _ (Ht hx)];exact Ha.2 (by unfold H4 at h0 ⊢;grind)
   obtain⟨i,j,a',b',hij,hi,hj,⟨rfl,rfl⟩|⟨rfl,rfl⟩⟩:=key hu hv nu nv hne
   ·exact(hc i j _ _ hij hi hj (ne_id hu hx nu) (ne_id hv hx nv)).1 hw1
   ·exact(hc i j _ _ hij hi hj (ne_id hv hx nv) (ne_id hu hx nu)).1 hw2
  ·obtain⟨i,hi⟩:=Ze ((hW _).2 hu);obtain⟨j,hj⟩:=Ze ((hW _).2 hv);obtain⟨k,hk⟩:=Ze ((hW _).2 hw);have o0:∀y z,H4 (px · q) (py · q) y y z=0:=λy z=>by unfold H4;grind
   have o1:∀y z,H4 (px · q) (py · q) y z y=0:=λy z=>by unfold H4;grind
   have o2:∀y z,H4 (px · q) (py · q) z y y=0:=λy z=>by unfold H4;grind
   have irr:¬(0:Rat)<0:=by decide
   have nij:i≠j:=λe=>by
    subst e;rw[hi]at hj;injection hj with hj;subst hj;rw[o0]at h0;exact irr h0
   have nik:i≠k:=λe=>by
    subst e;rw[hi]at hk;injection hk with hk;subst hk;rw[o1]at h0;exact irr h0
   have njk:j≠k:=λe=>by
    subst e;rw[hj]at hk;injection hk with hk;subst hk;rw[o2]at h0;exact irr h0
   have a1:H4 (px · q) (py · q) v w u=H4 (px · q) (py · q) u v w:=by unfold H4;grind
   have a2:H4 (px · q) (py · q) w u v=H4 (px · q) (py · q) u v w:=by unfold H4;grind
   have b1:H4 (px · q) (py · q) v u w=-H4 (px · q) (py · q) u v w:=by unfold H4;grind
   have b2:H4 (px · q) (py · q) u w v=-H4 (px · q) (py · q) u v w:=by unfold H4;grind
   have b3:H4 (px · q) (py · q) w v u=-H4 (px · q) (py · q) u v w:=by unfold H4;grind
   have sw:∀y z,H4 (px · q) (py · q) y z x=-H4 (px · q) (py · q) z y x:=λy z=>by unfold H4;grind
   have i1:O4 (Hb a) u v w x:=(Ba S hu hv hw hx).2 ⟨λe=>by rw[e]at h0;exact irr h0,kO h1 h0,kO h2 h0,kO h3 h0⟩;have i2:O4 (Hb a) v w u x:=(Ba S hv hw hu hx).2 ⟨λe=>by rw[a1]at e;rw[e]at h0;exact irr h0,by rw[a1];exact kO h2 h0,by rw[a1];exact kO h3 h0,by rw[a1];exact kO h1 h0⟩;have i3:O4 (Hb a) w u v x:=(Ba S hw hu hv hx).2 ⟨λe=>by rw[a2]at e;rw[e]at h0;exact irr h0,by rw[a2];exact kO h3 h0,by rw[a2];exact kO h1 h0,by rw[a2];exact kO h2 h0⟩;have neg0:∀{t:Rat},t=-H4 (px · q) (py · q) u v w->t≠0:=λ{t} e e'=>by
    rw[e']at e;have:H4 (px · q) (py · q) u v w=0:=by grind
    rw[this]at h0;exact irr h0
   have i4:O4 (Hb a) v u w x:=(Ba S hv hu hw hx).2 ⟨neg0 b1,fM h1 h0 (sw _ _) b1,fM h3 h0 (sw _ _) b1,fM h2 h0 (sw _ _) b1⟩;have i5:O4 (Hb a) u w v x:=(Ba S hu hw hv hx).2 ⟨neg0 b2,fM h3 h0 (sw _ _) b2,fM h2 h0 (sw _ _) b2,fM h1 h0 (sw _ _) b2⟩;have i6:O4 (Hb a) w v u x:=(Ba S hw hv hu hx).2 ⟨neg0 b3,fM h2 h0 (sw _ _) b3,fM h1 h0 (sw _ _) b3,fM h3 h0 (sw _ _) b3⟩;have mu:=ne_id hu hx nu;have mv:=ne_id hv hx nv;have mw:=ne_id hw hx nw;rcases(show(k<j/\j<i)\/(j<k/\k<i)\/(k<i/\i<j)\/(i<k/\k<j)\/(j<i/\i<k)\/(i<j/\j<k) by omega)with⟨s1,s2⟩|⟨s1,s2⟩|⟨s1,s2⟩|⟨s1,s2⟩|⟨s1,s2⟩|⟨s1,s2⟩
   ·exact(hc i j _ _ s2 hi hj mu mv).2 k _ s1 hk mw i1
   ·exact(hc i k _ _ s2 hi hk mu mw).2 j _ s1 hj mv i5
   ·exact(hc j i _ _ s2 hj hi mv mu).2 k _ s1 hk mw i4
   ·exact(hc j k _ _ s2 hj hk mv mw).2 i _ s1 hi mu i2
   ·exact(hc k i _ _ s2 hk hi mw mu).2 j _ s1 hj mv i3
   ·exact(hc k j _ _ s2 hk hj mw mv).2 i _ s1 hi mu i6
 ·intro hC i j u v hij hi hj mu mv;have hu:=(hW _).1 (Qa hi);have hv:=(hW _).1 (Qa hj);have nu:u≠x:=λe=>mu (by rw[e])
  have nv:v≠x:=λe=>mv (by rw[e])
  have h3:3<=(Rk a (Gu M)).length:=by
   rw[Dd];have nuv:u≠v:=λe=>by
    have hWd':(Gu M).Pairwise λx y=>x≠y:=hWd.imp λh e=>h (by rw[e])
    have:=hij;subst e;exact hdup i j u hij hi hj
   have:=C7 [u,v,x] (R:=Gu M) (by simp[nuv,nu,nv]) (by simp;exact⟨hu,hv,hx⟩);simpa using this
  have E:=GP S hC h3;have R:∀{y},y∈Gu M->y∈Rk a (Gu M):=λh=>Rx.2 h
  constructor
  ·rintro⟨h0,hb⟩
   rw[S.o _ (Ht hu) _ (Ht hv) _ (Ht hx)]at h0;have h0:=Ha.1 h0;rcases hb with⟨h1,h2⟩|⟨h1,h2⟩
   ·exact Oi E (R hu) (R hv) nu nv h0 ((Se S hu hx nu).1 h1) ((Se S hx hv nv.symm).1 h2)
   ·exact Oi E (R hv) (R hu) nv nu (by unfold H4 at h0 ⊢;grind) ((Se S hv hx nv).1 h1) ((Se S hx hu nu.symm).1 h2)
  ·intro k w hk hw mw hin;have hw:=(hW _).1 (Qa hw);have nw:w≠x:=λe=>mw (by rw[e])
   obtain⟨g0,g1,g2,g3⟩:=(Ba S hu hv hw hx).1 hin;exact Qis E (R hu) (R hv) (R hw) nu nv nw g0 g1 g2 g3
theorem Qa4{R M:List Pt}(nd:R.Pairwise λx y=>x≠y)(sub:∀x∈R,x∈M)(len:M.length≤R.length):∀x∈M,x∈R:=λx hx=>Classical.byContradiction λhn=>by
 have:=C7 (x::R) (R:=M) (Q5.2 ⟨λy hy e=>hn (by rw[e];exact hy),nd⟩) λy hy=>by
  rcases Qj.1 hy with e|h
  ·rw[e];exact hx
  ·exact sub y h
 rw[Zf]at this;omega
theorem Qch{R:Pt->Pt->Prop}(tr:∀x y z,R x y->R y z->R x z):∀{l:List Pt},(∀i x y,l[i]? = some x->l[i+1]? = some y->R x y)->l.Pairwise R
 | [],_=>List.Pairwise.nil
 | [x],_=>V5 _ _
 |
  x::y::l,h=>by
  have ih:(y::l).Pairwise R:=Qch tr λi u v hu hv=>h (i+1) u v hu hv
  have h0:=h 0 x y rfl rfl;refine Q5.2 ⟨λz hz=>?_,ih⟩;rcases Qj.1 hz with e|hz
  ·rw[e];exact h0
  ·exact tr _ _ _ h0 ((Q5.1 ih).1 z hz)
theorem Qcg{R:Pt->Pt->Prop}(asy:∀x y,R x y->R y x->False):∀{l m:List Pt},l.Pairwise R->m.Pairwise R->(∀x,x∈l↔x∈m)->l=m
 | [],[],_,_,_=>rfl
 | [],y::m,_,_,h=>by have:=(h y).2 (by simp);cases this
 |x::l,[],_,_,h=>by have:=(h x).1 (by simp);cases this
 |
  x::l,y::m,hl,hm,h=>by
  rw[Q5]at hl hm;have e:x=y:=by
   rcases Qj.1 ((h x).1 (by simp))with e|h1
   ·exact e
   ·rcases Qj.1 ((h y).2 (by simp))with e|h2
    ·exact e.symm
    ·exact(asy _ _ (hl.1 y h2) (hm.1 x h1)).elim
  subst e;rw[Qcg asy hl.2 hm.2 λz=>?_];constructor
  ·intro hz;rcases Qj.1 ((h z).1 (Qi _ hz))with e|h1
   ·subst e;exact(asy _ _ (hl.1 z hz) (hl.1 z hz)).elim
   ·exact h1
  ·intro hz;rcases Qj.1 ((h z).2 (Qi _ hz))with e|h1
   ·subst e;exact(asy _ _ (hm.1 z hz) (hm.1 z hz)).elim
   ·exact h1
structure Rt(O:List Pt):Prop where
 s:∀p∈O,Cs 128 3 p.c
 d:If O
 n:O.length<=4
def Eh(O:List Pt):List Pt:=He Td (O.map Pt.nrm)
theorem Au{O:List Pt}{x:Pt}:x∈Eh O↔x∈O.map Pt.nrm:=Ph
theorem HB(O:List Pt):(Eh O).length=O.length:=by unfold Eh;rw[Pg,List.length_map]
section
variable{O:List Pt}{a:Tm}(h:Rt O)
include h
theorem Rt.dn:If (O.map Pt.nrm):=List.Pairwise.map Pt.nrm (λ_ _ h=>h) h.d
theorem Rt.sn:∀p∈O.map Pt.nrm,Sc p.c:=λp hp=>by
 obtain⟨x,hx,rfl⟩:=Zd.1 hp;exact(Ny (h.s x hx)).s
theorem Rt.mok:MOk (Eh O):=⟨λp hp=>h.sn p (Au.1 hp),by rw[HB];have:=h.n;omega,A0 h.dn⟩
theorem Rt.fnd{p:Pt}(hp:p∈O):fnd O p.id=some p:=by
 cases hf:Orr.fnd O p.id with
 |none=>exact absurd rfl (EI hf p hp)
 |
  some x =>
  obtain⟨h1,h2⟩:=Tc hf;rw[Et h.d h1 hp h2]
theorem Rt.inj{p r:Pt}(hp:p∈O)(hr:r∈O)(e:p.nrm=r.nrm):p=r:=Et h.d hp hr (by have:=congrArg Pt.id e;exact this)
end
theorem wV{A:List Pt}:∀{is:Ft},(∀i,i<is.length->∃x,FA A is i x)->∃R:List Pt,R.length=is.length/\(∀i x,R[i]? = some x->FA A is i x)/\R.map (·.id)=is
 | [],_=>⟨[],rfl,(λi x h=>by cases h),rfl⟩
 |
  id::is,h=>by
  obtain⟨x,id',h1,h2⟩:=h 0 (by simp);obtain rfl:id=id':=by simpa using h1
  obtain⟨R,r1,r2,r3⟩:=wV (A:=A) (is:=is) λi hi=>by
   obtain⟨y,id2,h3,h4⟩:=h (i+1) (by simp;omega);exact⟨y,id2,by simpa using h3,h4⟩
  refine⟨x::R,by simp[r1],λi y hy=>?_,?_⟩
  ·cases i with
   |
    zero =>
    obtain rfl:x=y:=by simpa using hy
    exact⟨id,rfl,h2⟩
   |
    succ i =>
    obtain⟨id3,h5,h6⟩:=r2 i y (by simpa using hy);exact⟨id3,by simpa using h5,h6⟩
  ·rw[Zx,r3,(Tc h2).2]
section
variable{O:List Pt}{a:Tm}(h:Rt O)(ha:Va a)
include h ha
theorem sT{is:Ft}:fC (Hb a) O is↔is=(Rk a (O.map Pt.nrm)).map (·.id):=by
 have hl:=h.sn;have hd:=h.dn;obtain⟨q,S⟩:=Mv hl hd ha;have hrl:(Rk a (O.map Pt.nrm)).length=O.length:=by rw[Dd,Q4]
 have hpw:=uV (a:=a) (l:=O.map Pt.nrm) (q:=q) S.b hd;constructor
 ·rintro⟨h1,h2⟩
  obtain⟨R,r1,r2,r3⟩:=wV (A:=O) (is:=is) λi hi=>by
   obtain⟨id,x,g1,g2,_⟩:=h2 i hi;exact⟨x,id,g1,g2⟩
  have hm:∀x∈R,x∈O:=λx hx=>by
   obtain⟨i,hi⟩:=Ze hx;obtain⟨_,_,g⟩:=r2 i x hi;exact(Tc g).1
  have hmN:∀x∈R.map Pt.nrm,x∈O.map Pt.nrm:=λx hx=>by
   obtain⟨y,hy,rfl⟩:=Zd.1 hx;exact Jb (hm y hy)
  have hpR:(R.map Pt.nrm).Pairwise (ZY q):=by
   refine Qch (CV q) λi x y hx hy=>?_
   rw[Zb,Y4]at hx hy;obtain⟨x0,hx,rfl⟩:=hx;obtain⟨y0,hy,rfl⟩:=hy;obtain⟨id1,a1,a2⟩:=r2 i x0 hx;obtain⟨id2,b1,b2⟩:=r2 (i+1) y0 hy;obtain⟨id3,z,c1,c2,c3⟩:=h2 (i+1) (by have:=(Qd.1 hy).1;omega);rw[b1]at c1;obtain rfl:=Option.some.inj c1;rw[b2]at c2;obtain rfl:=Option.some.inj c2;exact(S.b _ (Jb (hm x0 (Qa hx))) _ (Jb (hm _ (Qa hy)))).1 (c3 i id1 x0 rfl a1 a2)
  have hnd:(R.map Pt.nrm).Pairwise λx y=>x≠y:=hpR.imp λ{x y} hxy e=>by subst e;exact AA q _ hxy
  have e:=jR (AA q) (CV q) hpR hpw λx=>⟨λhx=>Rx.2 (hmN x hx),λhx=>Qa4 hnd hmN (by simp;omega) x (Rx.1 hx)⟩
  rw[<-e,<-r3,V0];rfl
 ·rintro rfl
  refine⟨by rw[Q4];exact hrl,λi hi=>?_⟩;rw[Q4]at hi;have get:∀{i:Nat} {x:Pt},(Rk a (O.map Pt.nrm))[i]? = some x->∃p∈O,p.nrm=x/\((Rk a (O.map Pt.nrm)).map (·.id))[i]? = some p.id:=λ{i x} hx=>by
   obtain⟨p,hp,rfl⟩:=Zd.1 (Rx.1 (Qa hx));exact⟨p,hp,rfl,by rw[Zb,hx];rfl⟩
  obtain⟨x,hx⟩:=gxE (l:=(Rk a (O.map Pt.nrm))) (i:=i) hi;obtain⟨p,hp,rfl,hpi⟩:=get hx;refine⟨p.id,p,hpi,h.fnd hp,λj id' y ej hj hy=>?_⟩;subst ej;obtain⟨z,hz⟩:=gxE (l:=(Rk a (O.map Pt.nrm))) (i:=j) (by omega);obtain⟨r,hr,rfl,hri⟩:=get hz;rw[hri]at hj;obtain rfl:=Option.some.inj hj;rw[h.fnd hr]at hy;obtain rfl:=Option.some.inj hy;refine(S.b _ (Jb hr) _ (Jb hp)).2 ?_;obtain⟨l1,g1⟩:=Qd.1 hz;obtain⟨l2,g2⟩:=Qd.1 hx;have:=Xh.1 hpw j (j+1) l1 l2 (by omega);rw[g1,g2]at this;exact this
theorem Qrn{w:Pt}(hw:w∈O.map Pt.nrm)(hb:∀x∈O.map Pt.nrm,x.id≠w.id->JB (Hb a) w x=true){id:Int}:Qws (Hb a) O id↔id=w.id:=by
 obtain⟨y,y1,y2⟩:=gJ h.sn ha;have B:=y2 y y1 Ql;obtain⟨p,hp,rfl⟩:=Zd.1 hw;constructor
 ·rintro⟨r,h1,h2⟩
  obtain⟨hr,rfl⟩:=Tc h1;refine Classical.byContradiction λhne=>?_
  have hrm:r.nrm∈O.map Pt.nrm:=Jb hr;have b1:=(B _ hrm _ hw).1 (h2 p hp λe=>hne e.symm);have b2:=(B _ hw _ hrm).1 (hb _ hrm hne);exact Qjw y _ (Qbo y _ _ _ b1 b2)
 ·rintro rfl
  exact⟨p,h.fnd hp,λx hx hne=>hb _ (Jb hx) hne⟩
theorem Qkl{x y:Pt}(hp:UZ (Hb a) (Eh O)=[x,y])(hx:x∈Eh O)(hy:y∈Eh O)(hxy:x.id<y.id){u v:Int}:FO (Hb a) O u v↔u=x.id/\v=y.id:=by
 have hM:=h.mok;have ap:=λ{u v:Pt}=>Qf9 (u:=u) (v:=v) hM ha hp
 obtain⟨q,q1,q2⟩:=Qa0 hM.sc ha;have hg:=q2 q q1 Ql;have mM:∀{p:Pt},p∈O->p.nrm∈Eh O:=λhp=>Au.2 (Jb hp)
 obtain⟨x0,hx0,rfl⟩:=Zd.1 (Au.1 hx);obtain⟨y0,hy0,rfl⟩:=Zd.1 (Au.1 hy);constructor
 ·rintro⟨x2,y2,h1,h2,h3,h4⟩
  obtain⟨m1,rfl⟩:=Tc h1;obtain⟨m2,rfl⟩:=Tc h2;refine Classical.byContradiction λhne=>?_
  have a1:=ap (mM m1) (mM m2) h3 hne;have a2:=h4 x0 hx0 y0 hy0 hxy λe=>hne ⟨e.1.symm,e.2.symm⟩
  unfold Qo4 at a2;have e1:=hg (x0.nrm,y0.nrm) (x2.nrm,y2.nrm) hx hy (mM m1) (mM m2);have e2:=hg (x2.nrm,y2.nrm) (x0.nrm,y0.nrm) (mM m1) (mM m2) hx hy;dsimp only at e1 e2;rw[e1]at a1;rw[e2]at a2;have hs:Gt (zT (x2.nrm,y2.nrm) q-zT (x0.nrm,y0.nrm) q)=0/\Gt (zT (x0.nrm,y0.nrm) q-zT (x2.nrm,y2.nrm) q)=0:=by
   rcases Hf (zT (x2.nrm,y2.nrm) q-zT (x0.nrm,y0.nrm) q)with⟨e,e'⟩|⟨e,e'⟩|⟨e,e'⟩ <;> rcases Hf (zT (x0.nrm,y0.nrm) q-zT (x2.nrm,y2.nrm) q)with⟨f,f'⟩|⟨f,f'⟩|⟨f,f'⟩ <;> first|(exact⟨e,f⟩)|(exfalso;omega)|(exfalso;grind)
  have n1:=a1.2 hs.1;have n2:=a2.2 hs.2;have i1:x0.nrm.id=x0.id:=rfl;have i2:y0.nrm.id=y0.id:=rfl;have i3:x2.nrm.id=x2.id:=rfl;have i4:y2.nrm.id=y2.id:=rfl;omega
 ·rintro⟨rfl,rfl⟩
  refine⟨x0,y0,h.fnd hx0,h.fnd hy0,hxy,λu hu v hv huv hne=>?_⟩;exact ap (mM hu) (mM hv) huv hne
end
section
variable{O:List Pt}{a:Tm}(h:Rt O)
include h
theorem DK{x:Pt}:x∈(S0 O).map Pt.nrm↔x∈Gu (Eh O):=by
 rw[<-Qm1 h.mok.so,Jl,Zd];have e:AI (O.map Pt.nrm) x=AI (Eh O) x:=by
  unfold AI;rw[Y9,Jd,Jd];exact⟨λh y hy=>h y (Au.1 hy),λh y hy=>h y (Au.2 hy)⟩
 rw[<-e,Au,Zd];constructor
 ·rintro⟨p,hp,rfl⟩
  obtain⟨h1,h2⟩:=Jl.1 hp;exact⟨⟨p,h1,rfl⟩,h2⟩
 ·rintro⟨⟨p,hp,rfl⟩,h2⟩
  exact⟨p,Jl.2 ⟨hp,h2⟩,rfl⟩
theorem FB:If (S0 O):=List.Pairwise.sublist K6 h.d
theorem Qfn:(He Td (S0 O)).map Pt.nrm=Gu (Eh O):=by
 have s1:Mj ((He Td (S0 O)).map Pt.nrm):=List.Pairwise.map Pt.nrm (λ_ _ h=>h) (A0 (FB h));have s2:Mj (Gu (Eh O)):=List.Pairwise.sublist (B5 _) h.mok.so;refine WY s1 s2 λx=>?_
 rw[<-DK h,Zd,Zd];exact⟨λ⟨p,hp,e⟩=>⟨p,Ph.1 hp,e⟩,λ⟨p,hp,e⟩=>⟨p,Ph.2 hp,e⟩⟩
omit h
abbrev nr2(m:Pt×Pt):Pt×Pt:=(m.1.nrm,m.2.nrm)
abbrev nr3(m:P3):P3:=(m.1.nrm,m.2.1.nrm,m.2.2.nrm)
theorem IP:∀(k:Nat) (l:List Pt),Tr k (l.map Pt.nrm)=(Tr k l).map nr2
 | 0,_=>rfl
 |k+1,[]=>rfl
 |
  k+1,x::l=>by
  show(l.map Pt.nrm).map (λy=>(x.nrm,y))++Tr k (l.map Pt.nrm)=(l.map (λy=>(x,y))++Tr k l).map nr2;rw[IP k l,Xo,V0,V0];rfl
theorem pV(l:List Pt):H5 (l.map Pt.nrm)=(H5 l).map nr2:=by unfold H5;rw[List.length_map];exact IP _ _
theorem mI:∀(k:Nat) (l:List Pt),Df k (l.map Pt.nrm)=(Df k l).map nr3
 | 0,_=>rfl
 |k+1,[]=>rfl
 |
  k+1,x::l=>by
  show(H5 (l.map Pt.nrm)).map (λm=>(x.nrm,m))++Df k (l.map Pt.nrm)=((H5 l).map (λm=>(x,m))++Df k l).map nr3;rw[mI k l,pV,Xo,V0,V0];rfl
theorem nX(l:List Pt):Pj (l.map Pt.nrm)=(Pj l).map nr3:=by unfold Pj;rw[List.length_map];exact mI _ _
include h
theorem sN:((Pj (He Td (S0 O))).filter (Qim (Hb a) (He Td (S0 O)))).map TB=((Pj (Gu (Eh O))).filter (qJ (Hb a) (Gu (Eh O)))).map TB:=by
 rw[<-Qfn h,nX,List.filter_map,V0];rfl
variable(ha:Va a)
include ha
theorem Qh4{x:Pt}:x∈(cornU (Hb a) (S0 O)).map Pt.nrm↔x∈Gx (Eh O) a:=by
 have hM:=h.mok;have hw4:(Gu (Eh O)).length<=4:=Qe (VA _) (by rw[HB];exact h.n);have hWd:=FB h;have hdup:∀(i j:Nat) (u:Pt),j<i->((S0 O).map Pt.nrm)[i]? = some u->((S0 O).map Pt.nrm)[j]? = some u->False:=λi j u hij hi hj=>by
  have hd:If ((S0 O).map Pt.nrm):=List.Pairwise.map Pt.nrm (λ_ _ h=>h) hWd;obtain⟨l1,g1⟩:=Qd.1 hi;obtain⟨l2,g2⟩:=Qd.1 hj;have:=Xh.1 hd j i l2 l1 hij;rw[g1,g2]at this;exact this rfl
 have ci:=λ{x:Pt} (hx:x∈Gu (Eh O))=>rA (λx=>DK h (x:=x)) hM.sc hM.df ha hw4 hx hdup
 constructor
 ·intro hx;obtain⟨p,hp,rfl⟩:=Zd.1 hx;obtain⟨h1,h2⟩:=Jl.1 hp;exact(ci ((DK h).1 (Jb h1))).1 (vV.1 h2)
 ·intro hx;have hxw:x∈Gu (Eh O):=Rx.1 (Bu hx);obtain⟨p,hp,rfl⟩:=Zd.1 ((DK h).2 hxw);exact Jb (Jl.2 ⟨hp,vV.2 ((ci hxw).2 hx)⟩)
theorem Qdw:(∀(i:Nat) (f x:Pt),0<i->(Gx (Eh O) a)[0]? = some f->(Gx (Eh O) a)[i]? = some x->Rh (Hb a) f x=true)/\∀(i j k:Nat) (x y z:Pt),k<j->j<i->(Gx (Eh O) a)[i]? = some x->(Gx (Eh O) a)[j]? = some y->(Gx (Eh O) a)[k]? = some z->0<Hk (Hb a) (G8 z.c y.c x.c):=by
 have hM:=h.mok;obtain⟨_,out,o1,o2,o3,o4⟩:=Qf8 hM ha (by rw[HB];exact h.n);have e:out=Gx (Eh O) a:=by
  refine X1 λi=>?_
  have:=congrArg (λl=>l[i]?) o1;simp only[Zb]at this;cases h1:out[i]? with
  |
   none =>
   cases h2:(Gx (Eh O) a)[i]? with
   |none=>rfl
   |some y=>rw[h1,h2]at this;cases this
  |
   some x =>
   cases h2:(Gx (Eh O) a)[i]? with
   |none=>rw[h1,h2]at this;cases this
   |
    some y =>
    rw[h1,h2]at this;have hid:x.id=y.id:=Option.some.inj this;have m1:x∈Eh O:=Ht (Jl.1 (o2 x (Qa h1))).1;rw[Et hM.df m1 (S4 (Qa h2)) hid]
 rw[e]at o3 o4;exact⟨o3,o4⟩
theorem sX{is:Ft}:FI (Hb a) (cornU (Hb a) (S0 O)) is↔is=(Gx (Eh O) a).map (·.id):=by
 have hM:=h.mok;obtain⟨q,S⟩:=Mv hM.sc hM.df ha;obtain⟨c1,c2⟩:=Qdw h ha;have nd:=Im S;have cm:=λ{x}=>Qh4 h ha (x:=x)
 obtain⟨A,hA⟩:=nmE (cornU (Hb a) (S0 O));rw[<-hA]at cm ⊢;obtain⟨C,hC⟩:=nmE (Gx (Eh O) a);rw[<-hC]at cm c1 c2 nd ⊢;have hAO:∀p∈A,p∈O:=λp hp=>by rw[hA]at hp;exact XW (Jl.1 hp).1
 have hAd:If A:=by rw[hA];exact List.Pairwise.sublist K6 (FB h)
 have hAn:(A.map Pt.nrm).Pairwise λx y=>x≠y:=by
  have:If (A.map Pt.nrm):=List.Pairwise.map Pt.nrm (λ_ _ h=>h) hAd;exact this.imp λh e=>h (by rw[e])
 have hlen:A.length=C.length:=by
  have h1:=C7 _ hAn (R:=C) λx hx=>cm.1 hx
  have h2:=C7 _ nd (R:=A.map Pt.nrm) λx hx=>cm.2 hx
  rw[Q4]at h1 h2;omega
 have hCM:∀x∈C,x∈Eh O:=λx hx=>by rw[hC]at hx;exact S4 hx
 have fA:∀{p:Pt},p∈A->Orr.fnd A p.id=some p:=λ{p} hp=>by
  cases hf:Orr.fnd A p.id with
  |none=>exact absurd rfl (EI hf p hp)
  |
   some x =>
   obtain⟨h1,h2⟩:=Tc hf;rw[Et hAd h1 hp h2]
 have bas:∀{x y:Pt},x∈C->y∈C->Rh (Hb a) x y=true->Rh (Hb a) y x=true->False:=λhx hy h1 h2=>by
  have l1:=(S.b _ (hCM _ hx) _ (hCM _ hy)).1 h1;have l2:=(S.b _ (hCM _ hy) _ (hCM _ hx)).1 h2;exact AA q _ (CV q _ _ _ l1 l2)
 have oS:∀{x y z:Pt},x∈C->y∈C->z∈C->(0<Hk (Hb a) (G8 z.c y.c x.c)↔0<H4 (px · q) (py · q) z y x):=λ{x y z} hx hy hz=>by
  rw[S.o _ (hCM _ hz) _ (hCM _ hy) _ (hCM _ hx)];rcases Hf (H4 (px · q) (py · q) z y x)with⟨e,e'⟩|⟨e,e'⟩|⟨e,e'⟩ <;> rw[e] <;> constructor <;> intro h' <;> first|exact e'|(exfalso;omega)|(exfalso;grind)|decide
 constructor
 ·rintro⟨h1,h2,h3⟩
  obtain⟨R,r1,r2,r3⟩:=wV (A:=A) (is:=is) λi hi=>by
   obtain⟨x,g,_⟩:=h2 i hi;exact⟨x,g⟩
  have hRA:∀x∈R,x∈A:=λx hx=>by
   obtain⟨i,hi⟩:=Ze hx;obtain⟨_,_,g⟩:=r2 i x hi;exact(Tc g).1
  have hRC:∀x∈R.map Pt.nrm,x∈C:=λx hx=>by
   obtain⟨y,hy,rfl⟩:=Zd.1 hx;exact cm.1 (Jb (hRA y hy))
  have hRl:(R.map Pt.nrm).length=C.length:=by rw[Q4];omega
  have f1:∀(i:Nat) (f x:Pt),0<i->(R.map Pt.nrm)[0]? = some f->(R.map Pt.nrm)[i]? = some x->Rh (Hb a) f x=true:=λi f x hi hf hx=>by
   rw[Zb,Y4]at hf hx;obtain⟨f0,hf,rfl⟩:=hf;obtain⟨x0,hx,rfl⟩:=hx;obtain⟨y,g1,g2⟩:=h2 i (by have:=(Qd.1 hx).1;omega);rw[g1.un (r2 i x0 hx)]at g2;exact g2 f0 hi (r2 0 f0 hf)
  have f2:∀(i j k:Nat) (x y z:Pt),k<j->j<i->(R.map Pt.nrm)[i]? = some x->(R.map Pt.nrm)[j]? = some y->(R.map Pt.nrm)[k]? = some z->0<Hk (Hb a) (G8 z.c y.c x.c):=λi j k x y z hkj hji hx hy hz=>by
   rw[Zb,Y4]at hx hy hz;obtain⟨x0,hx,rfl⟩:=hx;obtain⟨y0,hy,rfl⟩:=hy;obtain⟨z0,hz,rfl⟩:=hz;exact h3 i j k hkj hji (by have:=(Qd.1 hx).1;omega) x0 y0 z0 (r2 i x0 hx) (r2 j y0 hy) (r2 k z0 hz)
  have e:R.map Pt.nrm=C:=by
   cases hR:R.map Pt.nrm with
   |nil=>rw[hR]at hRl;exact(Qf hRl.symm).symm
   |
    cons x l =>
    rw[hR]at f1 f2 hRC hRl;cases C with
    |nil=>cases hRl
    |cons y m =>
     have hxC:x∈y::m:=hRC x (by simp);have xl:∀z∈l,Rh (Hb a) x z=true:=λz hz=>by
      obtain⟨i,hi⟩:=Ze hz;exact f1 (i+1) x z (by omega) rfl (by simpa using hi)
     have ym:∀z∈m,Rh (Hb a) y z=true:=λz hz=>by
      obtain⟨i,hi⟩:=Ze hz;exact c1 (i+1) y z (by omega) rfl (by simpa using hi)
     have tl:l.Pairwise λu v=>0<H4 (px · q) (py · q) x u v:=by
      rw[Xh];intro i j hi hj hij;have:=f2 (j+1) (i+1) 0 l[j] l[i] x (by omega) (by omega) (by simp) (by simp) rfl;exact(oS (hRC _ (by simp)) (hRC _ (by simp)) hxC).1 this
     have tm:m.Pairwise λu v=>0<H4 (px · q) (py · q) y u v:=by
      rw[Xh];intro i j hi hj hij;have:=c2 (j+1) (i+1) 0 m[j] m[i] y (by omega) (by omega) (by simp) (by simp) rfl;exact(oS (by simp) (by simp) (by simp)).1 this
     have asy:∀w u v,0<H4 (px · q) (py · q) w u v->0<H4 (px · q) (py · q) w v u->False:=λw u v g1 g2=>by unfold H4 at g1 g2;grind
     have hnd:(x::l).Pairwise λu v=>u≠v:=Q5.2 ⟨λz hz e=>by
      subst e;exact bas hxC hxC (xl x hz) (xl x hz),tl.imp λ{u v} g e=>by subst e;exact asy _ _ _ g g⟩
     have hfull:=Qa4 hnd (λz hz=>hRC z hz) (Nat.le_of_eq hRl.symm);have exy:x=y:=by
      refine Classical.byContradiction λhne=>?_
      have m1:x∈m:=by
       rcases Qj.1 hxC with e|g
       ·exact absurd e hne
       ·exact g
      have m2:y∈l:=by
       rcases Qj.1 (hfull y (by simp))with e|g
       ·exact absurd e.symm hne
       ·exact g
      exact bas hxC (by simp) (xl y m2) (ym x m1)
     subst exy;congr 1;refine Qcg (asy x) tl tm λz=>?_
     have n1:=(Q5.1 hnd).1;have n2:=(Q5.1 nd).1;constructor
     ·intro hz;rcases Qj.1 (hRC z (Qi _ hz))with e|g
      ·exact absurd e.symm (n1 z hz)
      ·exact g
     ·intro hz;rcases Qj.1 (hfull z (Qi _ hz))with e|g
      ·exact absurd e.symm (n2 z hz)
      ·exact g
  rw[<-e,<-r3,V0];rfl
 ·rintro rfl
  have get:∀{i:Nat} {x:Pt},C[i]? = some x->∃p∈A,p.nrm=x/\FA A (C.map (·.id)) i p:=λ{i x} hx=>by
   obtain⟨p,hp,rfl⟩:=Zd.1 (cm.2 (Qa hx));exact⟨p,hp,rfl,p.id,by rw[Zb,hx];rfl,fA hp⟩
  have back:∀{i:Nat} {p:Pt},FA A (C.map (·.id)) i p->C[i]? = some p.nrm:=λ{i p} hf=>by
   obtain⟨id,g1,_⟩:=id hf;rw[Zb,Y4]at g1;obtain⟨x,hx,_⟩:=g1;obtain⟨p',_,rfl,hf'⟩:=get hx;rw[hf.un hf'];exact hx
  refine⟨by rw[Q4];omega,λi hi=>?_,λi j k h1 h2 h3 x y z hx hy hz=>c2 i j k _ _ _ h1 h2 (back hx) (back hy) (back hz)⟩;rw[Q4]at hi;obtain⟨x,hx⟩:=gxE (l:=C) (i:=i) hi;obtain⟨p,hp,rfl,hf⟩:=get hx;exact⟨p,hf,λf h0 hff=>c1 i _ _ h0 (back hff) hx⟩
end
end Orq
namespace Orr
open Go Go.Proofs Tryz Orq
set_option maxRecDepth 10000
theorem Qgr:Fo 13 [.one (.row []),.oi 30] [.agg (aq 0 [[0,1],[1]])]:=by
 have c1:=iC (n:=30) (d:=0) (by decide) (by decide);rw[show Sa (Er 30 61-30) (1+Er 0 6)=(0:Rat) by decide +kernel]at c1;have hr:=Qsu (q:=0) ⟨by decide,by decide⟩;have c2:=ME (q:=0) (c:=[[0,1],[1]]) ⟨by decide,by decide⟩ hr;have c0:=Qsa (l:=[]) (by decide) (λz hz=>by cases hz);refine Sk func13 rfl ?_;refine Ff [] rfl ?_;refine Fl (S:=Unit) 1 (λL1 _=>(6,.v (.oi 0))::(5,.v (.one .nils))::L1) (λ_=>[.blk 36 [.nils,.nils,.nils,.bool false,.nils,.bool false,.nils,.bool false,.nils,.bool false]]) (λ_=>0) (λ_=>True) () trivial rfl rfl λ_ _=>?_
 exact Fh [.f rfl,.f rfl,.k c0,.t rfl,.k c1,.k c2] rfl
theorem SH:Fo 20 [] [.one (.bool true)]:=by
 have pk:=Qx6 (q:=0) (c:=[[0,1],[1]]) ⟨by decide,by decide⟩;have hv:=pk.va;have h0:∀p∈([]:List Pt),Cs 128 3 p.c:=λp hp=>by cases hp
 have cL:Fo 22 [.agg (ta (tq 0)),.one (.row []),.one (.row [])] [.one (.bool true)]:=by
  have:=gR (O:=[]) (is:=[]) h0 (by decide) hv (by decide);rwa[WA ⟨rfl,λi h=>absurd h (Xe i)⟩]at this
 have cL2:Fo 22 [.agg (ta (tq 0)),.one (ids [1]),.one (.row [])] [.one (.bool false)]:=Fi func22 rfl [.t rfl] rfl;have cH:Fo 23 [.agg (ta (tq 0)),.one (.row []),.one (.row [])] [.one (.bool true)]:=by
  have:=gG (M:=[]) (is:=[]) h0 (by decide) (by decide) hv;rwa[WA ⟨rfl,(λi h=>absurd h (Xe i)),λi _ _ _ _ h=>absurd h (Xe i)⟩]at this
 have cM:Fo 24 [.agg (ta (tq 0)),.one (.row []),.one (.row [])] [.one (.bool true)]:=gC (M:=[]) (l:=[]) h0 (by decide) (by decide) hv;have cW:Fo 25 [.agg (ta (tq 0)),.oi 0,.one (.row [])] [.one (.bool false)]:=by
  have:=iI (O:=[]) (id:=0) h0 (by decide) hv;rwa[Ch λ⟨_,h,_⟩=>by cases h]at this
 exact Fi func20 rfl [.k Qgr,.k pk.to,.k cL,.g 6 true rfl,.k cL2,.g 12 true rfl,.k cH,.g 16 true rfl,.k cM,.g 20 true rfl,.k cW] rfl
theorem Qhp{l:List Pt}(hn:l.length<=1000000):Fo 64 [.one (.row (Hj l))] [.one (ids (l.map (·.id)))]:=by
 have hcl:=Rr l;show Fo 64 [.one (.row (Hj l))] [.one (.row (Mx (l.map (·.id))))];refine Sk func64 rfl ?_;refine Ff [.o 3 3 1] rfl ?_;refine Fl (S:=Nat) 1 (λL1 i=>(7,.v (.oi i))::(3,.v (.one (.orow 0 1 none)))::L1) (λi=>[.row false 3 1 (Mx ((l.take i).map (·.id)))]) (λi=>l.length-i) (λi=>i<=l.length) 0 (Qh _) rfl rfl λi hi=>?_
 have htl:(Mx ((l.take i).map (·.id))).length=i:=by simp[Mx];omega
 by_cases h:i<l.length
 ·obtain⟨x,hx⟩:=gxE (l:=l) (i:=i) h;have hm:∀y∈[[LV.int .i64 x.id]],y.length=1:=λy hy=>by rw[Qo.1 hy];rfl
  have hnx:Mx ((l.take (i+1)).map (·.id))=Mx ((l.take i).map (·.id))++[[.int .i64 x.id]]:=by
   rw[X2,hx];simp[Mx]
  refine go tt [.T,.x (G0 hx),.s (sz:=1) hm] rfl (by simp[Ge,htl];omega) ?_;exact rd (i+1) (by omega) h (by rw[hnx];rfl)
 ·obtain rfl:i=l.length:=by omega
  rw[Za];exact Fh [.F] rfl
def Qm3(sg:Ft->Int)(l:List Pt):Ft:=if l.length=0 then []else [(YW (Cm sg) (He Td l).length (He Td l)).1.id]
theorem Qrk{l:List Pt}(h:2<=l.length):∃a b M,l=a::b::M:=by
 match l,h with
 |a::b::M,_=>exact⟨a,b,M,rfl⟩
abbrev Qf3(sg:Ft->Int)(l:List Pt):Fy:=[ids ((He (P7 sg) l).map (·.id)),ids (Qm3 sg l),ids ((Ox sg l).map (·.id)),ids (UZ sg (He Td l) |>.map (·.id)),.row (Ef (((Pj (Mf l)).filter (qJ sg (Mf l))).map TB))]
set_option maxHeartbeats 1000000 in
theorem bV{l:List Pt}{T:Ti}(hl:∀p∈l,Sc p.c)(hn:l.length≤6)(hw:Mj (Mf l))(hb:∀p,-1≤Hk T.sg p/\Hk T.sg p≤1)(hq:RT T):Fo 21 [.one (.row (Hj l)),.agg T.tl] [.agg (Qf3 T.sg l)]:=by
 have hcl:=Rr l;have c1:=LN hl (by omega) hq;have c2:=Qhp (l:=He (P7 T.sg) l) (by rw[Pg];omega);have c3:=rJ hl (by omega) hq;have c4:=Qhp (l:=Ox T.sg l) (by have:=(Qdv T.sg l).2;omega);have c5:=rK hl hn hw hb hq;have hML:(He Td l).length=l.length:=Pg _ _;by_cases h0:l.length=0
 ·have e1:Qm3 T.sg l=[]:=if_pos h0;have e2:He Td l=[]:=Qf (by omega);have c6:=GH (T:=T) (l:=l) (by omega) (by omega);unfold Qf3;rw[e1,e2];exact Fi func21 rfl [.k c1,.k c2,.k c3,.k c4,.k c5,.F,.k c6,.f rfl] rfl
 have e1:Qm3 T.sg l=[(YW (Cm T.sg) (He Td l).length (He Td l)).1.id]:=if_neg h0;have c7:=BE (l:=l) (by omega);have c8:=YF hq (He Td l).length (He Td l) (by omega) (Qn _) (by omega) λp hp=>hl p (Ph.1 hp)
 unfold Qf3;rw[e1];by_cases h2:l.length<2
 ·have c6:=GH (T:=T) (l:=l) (by omega) h2;have e2:(UZ T.sg (He Td l)).map (·.id)=[]:=by
   match hm:He Td l with
   | []=>rfl
   | [_]=>rfl
   |a::b::M=>rw[hm]at hML;simp at hML;omega
  rw[e2];exact Fi func21 rfl [.k c1,.k c2,.k c3,.k c4,.k c5,.T,.k c7,.k c8,.k c6,.f rfl] rfl
 ·obtain⟨a,b,M',hM⟩:=Qrk (l:=He Td l) (by omega);have c6:=rX hl (by omega) hq hM;have e2:(UZ T.sg (He Td l)).map (·.id)=[(Ta T.sg (a,b) (H5 (a::b::M'))).1.id,(Ta T.sg (a,b) (H5 (a::b::M'))).2.id]:=by rw[hM];rfl
  rw[e2];exact Fi func21 rfl [.k c1,.k c2,.k c3,.k c4,.k c5,.T,.k c7,.k c8,.k c6,.t rfl] rfl
theorem Qic{l m:List Pt}(h:l.Perm m)(hd:If l):If m:=(h.pairwise_iff (λh=>λe=>h e.symm)).1 hd
theorem DI{bt:Pt->Pt->Bool}{R:Pt->Pt->Prop}(tr:∀x y z,R x y->R y z->R x z):∀(k:Nat) (l:List Pt),0<l.length->l.length≤k->If l->(∀x∈l,∀y∈l,x.id≠y.id->(bt x y=true->R x y)/\(bt x y=false->R y x))->∀x∈l,x=(YW bt k l).1\/R (YW bt k l).1 x
 | 0,l,h0,hk,_,_=>by omega
 |
  k+1,l,h0,hk,hd,h=>by
  by_cases h1:l.length<=1
  ·obtain⟨p,rfl⟩:=Jx.1 (show l.length=1 by omega);intro x hx;left;rw[Qo.1 hx];simp[YW]
  ·obtain⟨k1,k2,k3,k4,k5⟩:=UP h1 hk;obtain⟨a1,_,_⟩:=UG bt k _ k3 k1;obtain⟨b1,_,_⟩:=UG bt k _ k4 k2;have hdt:If (l.take ((l.length+1) / 2)):=List.Pairwise.sublist (Us _ _) hd;have hdd:If (l.drop ((l.length+1) / 2)):=List.Pairwise.sublist (List.drop_sublist _ _) hd;have i1:=DI tr k _ k3 k1 hdt λx hx y hy=>h x (Qq hx) y (Qq hy)
   have i2:=DI tr k _ k4 k2 hdd λx hx y hy=>h x (Q9 hx) y (Q9 hy)
   have hne:(YW bt k (l.take ((l.length+1) / 2))).1.id≠(YW bt k (l.drop ((l.length+1) / 2))).1.id:=by
    have:=Zh ((l.length+1) / 2) l;have hd':=hd;rw[<-this]at hd';exact(Zv.1 hd').2.2 _ a1 _ b1
   obtain⟨g1,g2⟩:=h _ (Qq a1) _ (Q9 b1) hne;simp only[YW,if_neg h1];intro x hx;have hx':x∈l.take ((l.length+1) / 2)\/x∈l.drop ((l.length+1) / 2):=by
    rw[<-Zh ((l.length+1) / 2) l]at hx;exact Qr.1 hx
   split
   ·rename_i hb;have r:=g1 hb;rcases hx' with hx'|hx'
    ·exact i1 x hx'
    ·rcases i2 x hx' with e|e
     ·right;rw[e];exact r
     ·right;exact tr _ _ _ r e
   ·rename_i hb;have r:=g2 (by simpa using hb);rcases hx' with hx'|hx'
    ·rcases i1 x hx' with e|e
     ·right;rw[e];exact r
     ·right;exact tr _ _ _ r e
    ·exact i2 x hx'
theorem Qi9(t:Tm)(p:Ft):-1<=Hk (Hb t) p/\Hk (Hb t) p<=1:=Iu t p
structure Ans(O:List Pt)(t:Tm)(L W H P:List Int)(M:List T3):Prop where
 l:L=(Rk t (O.map Pt.nrm)).map (·.id)
 ln:L.length=O.length
 nd:L.Pairwise λx y=>x≠y
 w0:O.length=0->W=[]
 w1:0<O.length->∃w,W=[w]
 h1:0<O.length->0<H.length
 hn:H.length<=8
 p0:O.length<2->P=[]
 p1:2<=O.length->∃x y,P=[x,y]
 mn:M.length<=20
 aL:∀is:List Int,is.length<=1000000->Fo 22 [.agg (ta t),.one (ids is),.one (pts O)] [.one (.bool (decide (is=L)))]
 aW:∀id:Int,Fo 25 [.agg (ta t),.oi id,.one (pts O)] [.one (.bool (decide (W=[id])))]
 aH:∀is:List Int,is.length<=1000000->Fo 23 [.agg (ta t),.one (ids is),.one (pts O)] [.one (.bool (decide (is=H)))]
 aP:∀a b:Int,Fo 26 [.agg (ta t),.oi a,.oi b,.one (pts O)] [.one (.bool (decide (P=[a,b])))]
 aM:∀l:List T3,l.length<=1000000->Fo 24 [.agg (ta t),.one (.row (Ef l)),.one (pts O)] [.one (.bool (decide (l=M)))]
theorem KX{P:Prop}{Q:Prop}[Decidable Q](h:P↔Q):cd0 P=decide Q:=by
 by_cases hq:Q
 ·rw[decide_eq_true hq,WA (h.2 hq)]
 ·rw[decide_eq_false hq,Ch λhp=>hq (h.1 hp)]
theorem Qu9{O:List Pt}(h2:O.length<2){x y:Pt}(hx:x∈O)(hy:y∈O):x=y:=by
 cases O with
 |nil=>cases hx
 |
  cons z l =>
  cases l with
  |nil=>rw[Qo.1 hx,Qo.1 hy]
  |cons u l=>simp at h2;omega
theorem Qkk{O:List Pt}{t:Tm}(h:Rt O)(hv:Va t){a b:Int}:FO (Hb t) O a b↔(UZ (Hb t) (Eh O)).map (·.id)=[a,b]:=by
 have hM:=h.mok;have hMl:=HB O;rcases wF (Hb t) hM.so with⟨m2,e⟩|⟨m2,x,y,e,hx,hy,hxy⟩
 ·rw[e];refine⟨λ⟨x,y,h1,h2,h3,_⟩=>?_,λh=>by cases h⟩;obtain⟨a1,a2⟩:=Tc h1;obtain⟨b1,b2⟩:=Tc h2;have e2:=Qu9 (show O.length<2 by omega) a1 b1;rw[e2]at a2;omega
 ·rw[Qkl h hv e hx hy hxy,e];exact⟨λ⟨h1,h2⟩=>by rw[h1,h2];rfl,λh=>by
   simp only[Zx,Jo,List.cons.injEq,and_true]at h;exact⟨h.1.symm,h.2.symm⟩⟩
def Qf1(O:List Pt)(t:Tm):Ft:=(Rk t (O.map Pt.nrm)).map (·.id)
def Qn0(O:List Pt)(t:Tm):Ft:=Qm3 (Hb t) (O.map Pt.nrm)
def Qf0(O:List Pt)(t:Tm):Ft:=(Gx (Eh O) t).map (·.id)
def Qnz(O:List Pt)(t:Tm):Ft:=(UZ (Hb t) (Eh O)).map (·.id)
def Qf2(O:List Pt)(t:Tm):List T3:=((Pj (Gu (Eh O))).filter (qJ (Hb t) (Gu (Eh O)))).map TB
set_option maxHeartbeats 2000000 in
theorem Qtc{O:List Pt}{t:Tm}{C:Fu}(h:Rt O)(pk:Pk t C):Ans O t (Qf1 O t) (Qn0 O t) (Qf0 O t) (Qnz O t) (Qf2 O t)/\Fo 21 [.one (.row (Hj (O.map Pt.nrm))),.agg (ax t.p C t.lo t.hi)] [.agg [ids (Qf1 O t),ids (Qn0 O t),ids (Qf0 O t),ids (Qnz O t),.row (Ef (Qf2 O t))]]:=by
 unfold Qf1 Qn0 Qf0 Qnz Qf2;have hv:=pk.va;have hM:=h.mok;have ho4:=h.n;have hml:(O.map Pt.nrm).length=O.length:=Q4 _;have hMl:=HB O;have hwR:Mf (O.map Pt.nrm)=Gu (Eh O):=by
  have e:Mf (O.map Pt.nrm)=Mf (Eh O):=by
   unfold Mf;rw[show He Td (Eh O)=Eh O from WY (A0 hM.df) hM.so λx=>Ph];rfl
  rw[e];exact Qm2 hM.so λp hp=>(hM.sc p hp).n
 have hws:Mj (Gu (Eh O)):=List.Pairwise.sublist (B5 _) hM.so;have ca:=bV (T:=⟨t.p,C,t.lo,t.hi,Hb t⟩) h.sn (by rw[hml];omega) (by rw[hwR];exact hws) (Qi9 t) pk.rt;have e1:He (P7 (Hb t)) (O.map Pt.nrm)=Rk t (O.map Pt.nrm):=NA λx hx y hy=>Dc hv (h.sn x hx) (h.sn y hy)
 have e2:Ox (Hb t) (O.map Pt.nrm)=Gx (Eh O) t:=Qop rfl hM.sc hM.df hv hwR;have hrl:(Rk t (O.map Pt.nrm)).length=O.length:=by rw[Dd,hml]
 obtain⟨q,S⟩:=Mv h.sn h.dn hv;have hpw:=uV (a:=t) (l:=O.map Pt.nrm) (q:=q) S.b h.dn;have rd_:If (Rk t (O.map Pt.nrm)):=Qic (OH _).symm h.dn;refine⟨⟨rfl,by rw[Q4];exact hrl,?_,?_,?_,?_,?_,?_,?_,?_,λis hl=>?_,λid=>?_,λis hl=>?_,λa b=>?_,λl hl=>?_⟩,?_⟩
 case refine_14 =>
  have ca:Fo 21 [.one (.row (Hj (O.map Pt.nrm))),.agg (ax t.p C t.lo t.hi)] [.agg (Qf3 (Hb t) (O.map Pt.nrm))]:=ca;unfold Qf3 at ca;rw[e1,e2,hwR]at ca;exact ca
 ·rw[List.pairwise_map];exact rd_
 ·intro h0;exact if_pos (by omega)
 ·intro h0;exact⟨_,if_neg (by omega)⟩
 ·intro h0;rw[Q4];exact Qdu hM.sc hM.df hv (by omega)
 ·rw[Q4];have:=Qdt (Eh O) t;omega
 ·intro h2;rcases wF (Hb t) hM.so with⟨_,e⟩|⟨m2,_⟩
  ·rw[e];rfl
  ·omega
 ·intro h2;rcases wF (Hb t) hM.so with⟨m2,_⟩|⟨_,x,y,e,_⟩
  ·omega
  ·rw[e];exact⟨_,_,rfl⟩
 ·rw[Q4];have hwl:=VA (Eh O);exact Qe (X4 _ _) (RE (l:=Gu (Eh O)) (by omega)).1
 ·have:=gR h.s (by omega) hv hl;rwa[KX (sT h hv)]at this
 ·have:=iI (id:=id) h.s (by omega) hv;by_cases h0:O.length=0
  ·obtain rfl:=Qf h0;rw[Ch λ⟨_,h,_⟩=>by cases h]at this;exact this
  ·have e:Qm3 (Hb t) (O.map Pt.nrm)=[(YW (Cm (Hb t)) (Eh O).length (Eh O)).1.id]:=if_neg (by omega);obtain⟨y,y1,y2⟩:=gJ hM.sc hv;have B:=y2 y y1 Ql;obtain⟨wm,_,_⟩:=UG (Cm (Hb t)) (Eh O).length (Eh O) (by omega) (Qn _);have hbest:=DI (bt:=Cm (Hb t)) (Qbo y) (Eh O).length (Eh O) (by omega) (Qn _) hM.df λx hx z hz hne=>by
    rw[Qle hv (hM.sc x hx) (hM.sc z hz)];exact⟨λhb=>(B x hx z hz).1 hb,λhb=>Qjx hne λh'=>by rw[(B x hx z hz).2 h']at hb;cases hb⟩
   rw[KX (Qrn h hv (w:=(YW (Cm (Hb t)) (Eh O).length (Eh O)).1) (Au.1 wm) λx hx hne=>by
    have hxM:=Au.2 hx;rcases hbest x hxM with e|e
    ·exact absurd (congrArg Pt.id e) hne
    ·exact(B _ wm x hxM).2 e)]at this
   rw[e];have e3:decide (id=(YW (Cm (Hb t)) (Eh O).length (Eh O)).1.id)=decide ([(YW (Cm (Hb t)) (Eh O).length (Eh O)).1.id]=[id]):=by
    rw[Y9,decide_eq_true_eq,decide_eq_true_eq];exact⟨λh=>by rw[h],λh=>by injection h with h;exact h.symm⟩
   rwa[e3]at this
 ·have:=gG h.s (by omega) hl hv;rwa[KX (sX h hv)]at this
 ·have:=Qg3 (a:=a) (b:=b) h.s (by omega) hv;rw[KX (Qkk h hv)]at this;exact this
 ·have:=gC h.s (by omega) hl hv;rwa[sN h]at this
end Orr
