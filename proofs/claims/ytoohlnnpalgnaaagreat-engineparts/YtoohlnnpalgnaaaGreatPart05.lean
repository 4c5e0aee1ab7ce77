/- C2 D1 E1 AlgL F1 F2 F3 F4 F5 T1 T2 T3 T4 T5 T6 T7 T8 T9 -/
import Derived.Test.YtoohlnnpalgnaaaGreatPart04
import Derived.Test.YtoohlnnpalgnaaaGreatPart00
set_option linter.all false
namespace Orr
open Go Go.Proofs Tryz
set_option maxRecDepth 10000
theorem Sf{l:List Pt}{i:Nat}{p:Pt}(h:l[i]? = some p):(l.map Fb)[i]? = some [pl p.c.x,pl p.c.y,sg p.c.d,mg p.c.d,.int .i64 p.id]:=Gx h
theorem Ss(l:List Pt):∀c∈l.map Fb,c.length=5:=Qsh l λ_=>rfl
theorem lI{lx ly:Uu}{px py:Uo}{x y:LV}{d:Int}(hx:IsInts lx px)(hy:IsInts ly py)(hd:Gd x y d)(hk:Cs 4294967294 1073741824 (Crv.mk px py d))(id:Int):Ul 287 [.agg [.row lx,.row ly,x,y,.int .i64 id]] [.agg (Fb ⟨Crv.norm (Crv.mk px py d),id⟩)]:=by
 have cd:=Mp hd (Qc hk.d (by omega));by_cases h0:d=0
 ·subst h0;have ck:Cs 4294967294 1073741824 (Crv.mk px py 1):=⟨hk.x,hk.y,show Fc 1<=4294967294 by decide,hk.lx,hk.ly⟩;have cm:=UV hx hy (U4 1) ck (by decide);have e:Crv.norm (Crv.mk px py 1)=Crv.norm (Crv.mk px py 0):=by simp only[Crv.norm,Crv.g,Crv.d'];rfl
  rw[e]at cm;obtain⟨b,l,rfl,rfl,_⟩:=hd;exact Ui func287 rfl [.k cd,.k Di,.t (by simp),.k (BK (z:=1) (by decide)),.k cm] rfl
 ·have cm:=UV hx hy hd hk h0;obtain⟨b,l,rfl,rfl,_⟩:=hd;exact Ui func287 rfl [.k cd,.k Di,.f (by simpa using h0),.k cm] rfl
theorem Qfv{l:List Pt}(id:Int)(hl:l.length<1073741824):Ul 286 [.agg [pts l],.oi id] [.oi (Rx l id:Int),.one (.bool (has l id))]:=by
 refine Fv func286 rfl ?_;refine Uf [] rfl ?_;refine ct 2 (S:=Unit) (λ_=>[(1,.v (.oi id)),(2,.v (.one (.ow 0 0))),(6,.v (.oi (Rx l id:Int)))]) (λ_=>[.blk 218 [pts l]]) (λ_=>True) rfl ?_ ?_
 ·refine Uk (S:=Nat) 1 (λL1 k=>(6,.v (.oi k))::L1) (λ_=>[.blk 218 [pts l]]) (λk=>l.length-k) (λk=>k<=l.length/\∀j p,j<k->l[j]? = some p->p.id<id) 0 ⟨Qh _,λj p h=>by omega⟩ rfl rfl λk ⟨hk,hlt⟩=>?_
  by_cases h:k<l.length
  ·obtain⟨p,hp⟩:=gxE (l:=l) (i:=k) h;by_cases hid:p.id<id
   ·refine Ug [.t (by simp;omega),.x (Sf hp),.t (by simpa using hid)] rfl ?_;exact rd (k+1) (by omega) ⟨h,λj q hj hq=>by
     rcases Zc j k with h2|h2
     ·exact hlt j q h2 hq
     ·have:j=k:=by omega
      subst this;rw[hp]at hq;injection hq with hq;rw[<-hq];exact hid⟩ rfl
   ·have e:=EZ hlt (.inr ⟨p,hp,hid⟩);refine Uf [.t (by simp;omega),.x (Sf hp),.f (by simpa using hid)] rfl ?_;rw[e];exact rc () trivial rfl
  ·obtain rfl:k=l.length:=by omega
   have e:=EZ hlt (.inl rfl);refine Uf [.f (by simp),.f rfl] rfl ?_;rw[e];exact rc () trivial rfl
 ·intro _ _;by_cases h:Rx l id<l.length
  ·obtain⟨p,hp⟩:=gxE (l:=l) (i:=Rx l id) h;have e:has l id=decide (p.id=id):=by simp[has,hp]
   rw[e];exact Uh [.g 30 true (by simp;omega),.x (Sf hp)] rfl
  ·have e:has l id=false:=by simp[has,Qu (Yb h)]
   rw[e];exact Uh [.g 30 false (by simp;omega)] rfl
theorem Iq{l:List Pt}:Ul 252 [.agg [pts l]] [.one (pts l)]:=Ui func252 rfl [] rfl
theorem wU{lx ly:Uu}{px py:Uo}{x y:LV}{d id:Int}{l:List Pt}(hx:IsInts lx px)(hy:IsInts ly py)(hd:Gd x y d)(hk:Cs 4294967294 1073741824 (Crv.mk px py d))(hl:l.length<=1000000) :
 Ul 249 [.agg [pts l],.agg [.row lx,.row ly,x,y,.int .i64 id]] [.agg [pts (if WU l (Pt.mk (Crv.norm (Crv.mk px py d)) id)=0 then put l (Pt.mk (Crv.norm (Crv.mk px py d)) id)else l)],.oi (WU l (Pt.mk (Crv.norm (Crv.mk px py d)) id))]:=by
 have ca:=Qfv (l:=l) id (by omega);have cf:=lI hx hy hd hk id;obtain⟨b,r,rfl,rfl,_⟩:=hd;obtain⟨q,hq⟩:=nmE (Pt.mk (Crv.norm (Crv.mk px py d)) id);have hqi:q.id=id:=by rw[hq]
 rw[<-hq]at cf ⊢;have hpl:=yI l id;by_cases h1:has l id=true
 ·have e:WU l q=6:=by simp[WU,hqi,h1]
  rw[e,if_neg (by decide)];exact Ui func249 rfl [.k ca,.t h1] rfl
 by_cases h2:6<=l.length
 ·have e:WU l q=9:=by simp[WU,hqi,h1,h2]
  rw[e,if_neg (by decide)];exact Ui func249 rfl [.k ca,.f (by simpa using h1),.t (by simp;omega)] rfl
 have e:WU l q=0:=by simp[WU,hqi,h1,h2]
 rw[e,if_pos rfl];have s1:∀c∈(l.map Fb).take (Rx l id),c.length=5:=λc hc=>Ss l c (Qn hc)
 have s3:∀c∈(l.map Fb).drop (Rx l id),c.length=5:=λc hc=>Ss l c (Qz hc)
 refine Ui func249 rfl [.k ca,.f (by simpa using h1),.f (by simp;omega),.i (Rx l id),.s s1,.k cf,.i (Rx l id),.s s3] rfl ?_ ?_
 ·simp[put,hqi,pts,Jw,Vi,Fb]
 ·simp[U3];exact⟨by omega,hpl,λ_ _=>rfl,by omega,by omega,hpl⟩
theorem mZ{l:List Pt}(hok:∀p∈l,Qd4 4294967294 1073741824 p)(hl:l.length<1073741824):Ul 257 [.agg [pts l]] [.one (pts (H7 l))]:=by
 refine Fv func257 rfl ?_;refine Uf [.o 3 40 5] rfl ?_;refine Uk (S:=Nat) 2 (λL1 i=>(12,.v (.oi i))::(3,.v (.one (.orow 1 5 none)))::L1) (λi=>[.blk 218 [pts l],.row false 40 5 (((l.take i).foldl Ph []).map Fb)]) (λi=>l.length-i) (λi=>i<=l.length) 0 (Qh _) rfl rfl λi hi=>?_
 by_cases hlt:i<l.length
 ·obtain⟨p,hp⟩:=gxE (l:=l) (i:=i) hlt;obtain⟨hn,hk⟩:=hok p (Qa hp);have hws:=Si Ph [] l hp;have hwl:=KX l i;have hwm:=KJ l i;obtain⟨o,ho⟩:=nmE ((l.take i).foldl Ph []);rw[<-ho]at hws hwl hwm ⊢;refine Uf [.t (by simp;omega),.x (Sf hp)] rfl ?_;refine Uk (S:=Nat) 3 (λL1 k=>(18,.v (.oi k))::(6,.v (.one (.bool ((o.take k).any λq=>La p.c q.c))))::L1) (λk=>[.blk 218 [pts l],.row false 40 5 (o.map Fb),.blk 40 (Fb p)]) (λk=>o.length-k) (λk=>k<=o.length) 0 (Qh _) rfl rfl λk hk2=>?_
  by_cases hk3:k<o.length
  ·obtain⟨q,hq⟩:=gxE (l:=o) (i:=k) hk3;obtain⟨hqn,hqk⟩:=hok q (hwm q (Qa hq));have hany:((o.take (k+1)).any λq=>La p.c q.c)=(((o.take k).any λq=>La p.c q.c) || La p.c q.c):=by rw[Y8,hq,List.any_append];simp
   cases hb:(o.take k).any λq=>La p.c q.c with
   |
    true =>
    rw[hb]at hany;refine Ug [.t (by simp;omega),.i k,.x (Sf hq),.t rfl,.r 29 (v:=.one (.bool ((o.take (k+1)).any λq=>La p.c q.c))) (by rw[hany];rfl)] rfl ?_;exact rd (k+1) (by omega) hk3 rfl
   |
    false =>
    rw[hb]at hany;refine Ug [.t (by simp;omega),.i k,.x (Sf hq),.f rfl,.k (Qnl hn hqn hk hqk),.r 29 (v:=.one (.bool ((o.take (k+1)).any λq=>La p.c q.c))) (by rw[hany];rfl)] rfl ?_;exact rd (k+1) (by omega) hk3 rfl
  ·obtain rfl:k=o.length:=by omega
   rw[Q7];cases hb:o.any λq=>La p.c q.c with
   |
    true =>
    have e:Ph o p=o:=by unfold Ph;rw[if_pos hb]
    exact go tt [.f (by simp),.f rfl] rfl (by simp[U3];omega) (rd (i+1) (by omega) hlt (by rw[hws,e];rfl))
   |
    false =>
    have e:Ph o p=o++[p]:=by unfold Ph;rw[if_neg (by rw[hb];decide)]
    exact go tt [.f (by simp),.t rfl] rfl (by simp[U3];omega) (rd (i+1) (by omega) hlt (by rw[hws,e,Yj];rfl))
 ·obtain rfl:i=l.length:=by omega
  exact Uh [.f (by simp)] rfl (by rw[Q7];rfl) trivial
theorem Qaq(q:Rat):Fe [-q.num,(q.den:Int)]:=by
 have:=q.den_nz;simp[Fe,trim,this]
theorem Qxl{s:Nat}{q:Rat}(h:Qs s q):Bd s [-q.num,(q.den:Int)]:=λz hz=>by
 simp at hz;rcases hz with rfl|rfl
 ·rw[Ho];exact h.1
 ·exact h.2
theorem VC{x y x' y':LV}{n d:Int}(h1:Gd x y n)(h2:Gd x' y' d)(hn:Fc n<=4294967295)(hd:Fc d<=4294967295)(hq:Qs 4294967295 (Gh n d)):Ul 98 [.agg [x,y,x',y']] [.agg (qa (Gh n d))]:=by
 have c1:=BC h1 h2 hn hd;obtain⟨b,l,rfl,rfl,_⟩:=h1;obtain⟨b',l',rfl,rfl,_⟩:=h2;exact Ui func98 rfl [.k c1,.k (BV (U4 _) hq.1),.k (Nx hq)] rfl
theorem Dw{k:Crv}(hn:ZC k)(hk:Cs 4294967294 1073741824 k):Ul 242 [.agg (cl k)] [.agg (cl k)]:=by
 have h0:k.d≠0:=by have:=hn.2.2.1;omega
 have cm:=UV (Gp k.x) (Gp k.y) (U4 k.d) hk h0;rw[show Crv.mk k.x k.y k.d=k from rfl,Crv.norm_of hn]at cm;exact Ui func242 rfl [.k (Mp (U4 k.d) (Qc hk.d (by omega))),.k Di,.f (by simpa using h0),.k cm] rfl
theorem UJ{a b:Crv}(ha:ZC a)(hb:ZC b)(ca:Cb a)(cb:Cb b):Ul 232 [.agg (cl a),.agg (cl b)] [pr (Gn a b)]:=by
 have l1:=ca.lx;have l2:=cb.lx;have l3:=Fx b.x a.d;have l4:=Fx a.x b.d;exact Ui func232 rfl [.k (Dw ha (ca.mono (by omega) (by omega))),.k (Dw hb (cb.mono (by omega) (by omega))),.k (Pp (by omega) (U5 cb.x (by omega)) (Qc ca.d (by omega))),.k (Pp (by omega) (U5 ca.x (by omega)) (Qc cb.d (by omega))),.k (HW (by omega) (by omega) (U5 (Ge cb.x ca.d) (by omega)) (U5 (Ge ca.x cb.d) (by omega)))] rfl
theorem UZ{a b:Crv}(ha:ZC a)(hb:ZC b)(ca:Cb a)(cb:Cb b):Ul 233 [.agg (cl a),.agg (cl b)] [pr (Gm a b)]:=by
 have l1:=ca.ly;have l2:=cb.ly;have l3:=Fx b.y a.d;have l4:=Fx a.y b.d;exact Ui func233 rfl [.k (Dw ha (ca.mono (by omega) (by omega))),.k (Dw hb (cb.mono (by omega) (by omega))),.k (Pp (by omega) (U5 cb.y (by omega)) (Qc ca.d (by omega))),.k (Pp (by omega) (U5 ca.y (by omega)) (Qc cb.d (by omega))),.k (HW (by omega) (by omega) (U5 (Ge cb.y ca.d) (by omega)) (U5 (Ge ca.y cb.d) (by omega)))] rfl
def Pe(ps:Up):Uu:=ps.map λp=>[pl p]
theorem Rq{ps:Up}{i:Nat}{p:Uo}(h:ps[i]? = some p):(Pe ps)[i]? = some [pl p]:=Gx h
theorem wR{p q:Uo}:Ul 291 [pr p,pr q] [pr (Lu p q)]:=by
 by_cases h:0<p.length
 ·exact Ui func291 rfl [.t (by simp;omega)] rfl (by simp only[Lu];rw[if_pos h]) trivial
 ·exact Ui func291 rfl [.f (by simp;exact Qj (by omega))] rfl (by simp only[Lu];rw[if_neg h]) trivial
theorem Qbr:Ul 290 [.oi 1] [.oi 2]:=Ui func290 rfl [.t rfl,.t rfl] rfl
theorem Qbs:Ul 290 [.oi 2] [.oi 2]:=Ui func290 rfl [.f rfl,.t rfl] rfl
theorem Qbt:Ul 290 [.oi 3] [.oi 3]:=Ui func290 rfl [.f rfl,.f rfl,.t rfl] rfl
theorem Qbu:Ul 290 [.oi 4] [.oi 4]:=Ui func290 rfl [.f rfl,.f rfl,.f rfl,.t rfl,.t rfl] rfl
theorem Qbv:Ul 290 [.oi 5] [.oi 4]:=Ui func290 rfl [.f rfl,.f rfl,.f rfl,.f rfl,.t rfl] rfl
theorem Qey{k i0 i1 i2 i3 l j0 j1 j2 j3:Int}:Ul 322 [.agg [.int .i64 k,.int .i64 i0,.int .i64 i1,.int .i64 i2,.int .i64 i3],.agg [.int .i64 l,.int .i64 j0,.int .i64 j1,.int .i64 j2,.int .i64 j3]] [.one (.bool (Db [k,i0,i1,i2,i3] [l,j0,j1,j2,j3]))]:=by
 by_cases hk:k=l
 ·subst hk;rw[show Db [k,i0,i1,i2,i3] [k,j0,j1,j2,j3]=Db [i0,i1,i2,i3] [j0,j1,j2,j3] from by simp[Db]];refine Fv func322 rfl ?_;refine Uf [.f (by simp)] rfl ?_;refine Uk (S:=Nat) 2 (λL1 i=>(19,.v (.oi i))::L1) (λ_=>[.blk 97 [.int .i64 k,.int .i64 i0,.int .i64 i1,.int .i64 i2,.int .i64 i3],.blk 97 [.int .i64 k,.int .i64 j0,.int .i64 j1,.int .i64 j2,.int .i64 j3]]) (λi=>4-i) (λi=>i<=4/\Db ([i0,i1,i2,i3].drop i) ([j0,j1,j2,j3].drop i)=Db [i0,i1,i2,i3] [j0,j1,j2,j3]) 0 ⟨by omega,rfl⟩ rfl rfl λi ⟨hi,he⟩=>?_
  rw[<-he];rcases(show i=0\/i=1\/i=2\/i=3\/i=4 by omega)with rfl|rfl|rfl|rfl|rfl
  ·by_cases h:i0=j0
   ·exact go tt [.t rfl,.i 0,.i 0,.f (by simpa using h)] rfl (by simp[U3]) (rd 1 (by omega) ⟨by omega,by simp[Db,h]⟩ rfl)
   ·exact Uh [.t rfl,.i 0,.i 0,.t (by simpa using h),.i 0] rfl (by simp[Db,h]) trivial
  ·by_cases h:i1=j1
   ·exact go tt [.t rfl,.i 1,.i 1,.f (by simpa using h)] rfl (by simp[U3]) (rd 2 (by omega) ⟨by omega,by simp[Db,h]⟩ rfl)
   ·exact Uh [.t rfl,.i 1,.i 1,.t (by simpa using h),.i 1] rfl (by simp[Db,h]) trivial
  ·by_cases h:i2=j2
   ·exact go tt [.t rfl,.i 2,.i 2,.f (by simpa using h)] rfl (by simp[U3]) (rd 3 (by omega) ⟨by omega,by simp[Db,h]⟩ rfl)
   ·exact Uh [.t rfl,.i 2,.i 2,.t (by simpa using h),.i 2] rfl (by simp[Db,h]) trivial
  ·by_cases h:i3=j3
   ·exact go tt [.t rfl,.i 3,.i 3,.f (by simpa using h)] rfl (by simp[U3]) (rd 4 (by omega) ⟨by omega,by simp[Db,h]⟩ rfl)
   ·exact Uh [.t rfl,.i 3,.i 3,.t (by simpa using h),.i 3] rfl (by simp[Db,h]) trivial
  ·exact Uh [.f rfl] rfl (by simp[Db]) trivial
 ·exact Ui func322 rfl [.t (by simpa using hk)] rfl (by simp[Db,hk]) trivial
abbrev zCt:Ut:=[.int .i64 0,.int .i64 0,.int .i64 0,.int .i64 0,.int .i64 0,.nils,.int .i64 0]
def Fl(l:List Ct):Uu:=l.map Lx
theorem KB{l:List Ct}{i:Nat}{c:Ct}(h:l[i]? = some c):(Fl l)[i]? = some (Lx c):=Gx h
theorem Be(l:List Ct):(Fl l).length=l.length:=by simp[Fl]
theorem Qgy(l:List Ct):∀c∈Fl l,c.length=7:=λc hc=>by
 obtain⟨x,_,rfl⟩:=Q9.1 hc;rfl
theorem Qie{O:List Ct}{z:Ut}{c:Ct}{k m:Nat}{l2:Uu}(hk:k<=O.length)(hp:JK O c O.length=k)(hm:m=O.length-k)(h2:l2.take m=((Fl O++[z]).drop k).take m) :
 ((Fl O++[z]).take (k+1)++(l2.take m++(Fl O++[z]).drop (k+1+m))).set k (Lx c)=Fl (KE O c):=by
 rw[h2,<-Ze,fG (Fl O) z (Lx c) (by rw[Be];omega) (by rw[Be];omega)];simp[KE,hp,Fl,Jw,Vi]
theorem xM{l:List Ct}(hl:∀c∈l,Pb c.p)(hn:l.length≤1000000):Ul 288 [.one (.row (Fl l))] [.one (.row (Fl (Fw l)))]:=by
 have hcl:=Be l;refine Fv func288 rfl ?_;refine Uf [.o 3 99 7] rfl ?_;refine Uk (S:=Nat) 1 (λL1 i=>(9,.v (.oi i))::(3,.v (.one (.orow 0 7 none)))::L1) (λi=>[.row false 99 7 (Fl (Fw (l.take i)))]) (λi=>l.length-i) (λi=>i<=l.length) 0 (Qh _) rfl rfl λi hi=>?_
 by_cases hlt:i<l.length
 ·obtain⟨c,hc⟩:=gxE (l:=l) (i:=i) hlt;have hst:=cI hc;have hcp:=hl c (Qa hc);obtain⟨O,hO⟩:=nmE (Fw (l.take i));have hOl:O.length=i:=by rw[hO,Ds,Qr];omega
  rw[<-hO]at hst ⊢;refine Uf [.t (by simp[hcl];omega),.x (KB hc)] rfl ?_;refine Uk (S:=Nat) 2 (λL1 k=>(6,.v (.oi k))::L1) (λk=>[.row false 99 7 (Fl O),.blk 99 (Lx c)]) id (λk=>k<=O.length/\JK O c k=JK O c O.length) (Fl O).length ⟨by rw[Be];exact Qm _,by rw[Be]⟩ rfl rfl λk ⟨hk,hp⟩=>?_
  have hz:∀y∈[zCt],y.length=7:=λy hy=>by rw[Qk.1 hy];rfl
  have h77:∀y∈Fl O++[zCt],y.length=7:=λy hy=>by
   rcases Qp.1 hy with hy|hy
   ·exact Qgy O y hy
   ·exact hz y hy
  cases k with
  |
   zero =>
   have hp:JK O c O.length=0:=by rw[<-hp];rfl
   refine go tt [.g 17 false (by simp),.f rfl,.s (sz:=7) hz,.r 36 (eI (b:=((0+1:Nat):Int)) (by simp)),.i (0+1),.i (0),.s (sz:=7) (λy hy=>h77 y (Qn hy)),.i (O.length),.k (Hr hcp.t (by have:=hcp.l;omega) (U5 hcp.b (by omega))),.i (0)] rfl (by simp[U3,Be];omega) ?_;exact rd (i+1) (by omega) hlt (by rw[hst,<-Qie (z:=zCt) (l2:=(Fl O++[zCt]).take ((Fl O++[zCt]).length-0)) (k:=0) (m:=O.length) (by omega) hp (by omega) (by congr 1;exact Qo (by simp))];rfl)
  |
   succ k =>
   obtain⟨x,hx⟩:=gxE (l:=O) (i:=k) (by omega);by_cases hlc:fN c x=true
   ·refine go tt [.g 17 true (by simp),.r 22 (eI (b:=(k:Int)) (by simp)),.i k,.x (KB hx),.k Qey,.t hlc,.r 29 (eI (b:=(k:Int)) (by simp))] rfl (by simp[U3,Be];omega) ?_;exact rd k (by simp) ⟨by omega,by rw[<-hp,Qps hx hlc]⟩ rfl
   ·have hlc:fN c x=false:=by simpa using hlc
    have hp:JK O c O.length=k+1:=by rw[<-hp,Qjv hx hlc]
    refine go tt [.g 17 true (by simp),.r 22 (eI (b:=(k:Int)) (by simp)),.i k,.x (KB hx),.k Qey,.f hlc,.s (sz:=7) hz,.r 36 (eI (b:=((k+1+1:Nat):Int)) (by simp)),.i (k+1+1),.i (k+1),.s (sz:=7) (λy hy=>h77 y (Qz (Qn hy))),.i (O.length-(k+1)),.k (Hr hcp.t (by have:=hcp.l;omega) (U5 hcp.b (by omega))),.i (k+1)] rfl (by simp[U3,Be];omega) ?_;exact rd (i+1) (by omega) hlt (by rw[hst,<-Qie (z:=zCt) (l2:=((Fl O++[zCt]).drop (k+1)).take ((Fl O++[zCt]).length-(k+1))) (k:=k+1) (m:=O.length-(k+1)) (by omega) hp (by omega) (by congr 1;exact Qo (by simp))];rfl)
 ·obtain rfl:i=l.length:=by omega
  rw[Q7];exact Uh [.f (by simp[hcl])] rfl
end Orr
namespace Orr
def Fp(p:Uo):Int:=p.getD (p.length-1) 0
def IL(p:Uo):Option Uo:=if p.length<=64/\(p.all λz=>Nat.ble (Fc z) 16777216)=true then some p else none
def chq(q:Rat):Option Rat:=if Fc q.num<=16777216/\Fc (q.den:Int)<=16777216 then some q else none
def Pg(p:Uo):Int:=(Tc p:Nat)
def Dc(p:Uo)(c:Int):Uo:=trim (p.map (· / c))
def Hp(p:Uo):Int:=if Fp p<0 then -Pg p else Pg p
def Fh(p:Uo):Uo:=if p.length=0 then []else Dc p (Hp p)
def mono(i:Nat)(x:Int):Uo:=List.replicate i 0++[x]
def rB(b:Uo)(c:Int):Nat->Uo×Uo->Uo×Uo
 | 0,s=>s
 |
  i+1,(q,r) =>
  rB b c i (A5 (Fu q c) (mono i (if r.length=b.length+i then Fp r else 0)),Na (Fu r c) (Gl (trim (mono i (if r.length=b.length+i then Fp r else 0))) b))
def Mc(a b:Uo):Uo:=(rB b (Fp b) (a.length+1-b.length) ([],a)).2
def Bz(a b r:Uo):Uo:=if (a.length+1-b.length) % 2=1/\Fp b<0 then Mw r else r
def VI(r:Uo):Uo:=if r.length=0 then []else Dc r (Pg r)
def Te(a b:Uo):Uo:=VI (Bz a b (Mc a b))
def yD(b:Uo):Nat->Uo->Uo->Option Uo
 | 0,a,q=>if a.length=0 then some q else none
 |i+1,a,q=>if a.length<b.length+i then yD b i a q else if Fp a % Fp b=0 then yD b i (Na a (Gl (trim (mono i (Fp a / Fp b))) b)) (q.set i (Fp a / Fp b))else none
def JW(a b:Uo):Option Uo:=if b.length=0 then none else(yD b (a.length+1-b.length) a (List.replicate (a.length+1-b.length) 0)).bind λq=>IL (trim q)
def TS:Nat->Uo->Uo->Option Uo
 | 0,_,_=>none
 |k+1,a,b=>if b.length=0 then some a else(IL (Te a b)).bind λr=>TS k b r
def JF(a b:Uo):Option Uo:=(TS 66 (Fh a) (Fh b)).map Fh
def yE(a b:Uo):Option Uo:=(JF [] a).bind λg=>JF g b
def Po(a:Uo):Option Uo:=if (Fh a).length<2 then some (Fh a)else(IL (Gy (Fh a))).bind λd=>(JF (Fh a) d).bind λg=>JW (Fh a) g
def RG:Nat->Uo->Option Up
 | 0,_=>none
 |k+1,g=>if g.length<2 then some []else(IL (Gy g)).bind λd=>(JF g d).bind λh=>(JW g h).bind λw=>(RG k h).bind λl=>some (w::l)
def AL:Up->Option Up
 | []=>some []
 | [w]=>some [w]
 |w::v::l=>(JW w v).bind λf=>(AL (v::l)).bind λr=>some (f::r)
def FS:Nat->Uo->Up->Option Uo
 |_,p,[]=>some p
 |i,p,f::l=>if i % 2=0 then(IL (Gl p f)).bind λq=>FS (i+1) q l else FS (i+1) p l
def bL(a:Uo):Option Uo:=if (Fh a).length=0 then some []else(RG 66 (Fh a)).bind λl=>(AL l).bind λfs=>FS 0 [1] fs
def sC:Nat->Uo->Uo->Option Up
 | 0,_,_=>none
 |k+1,a,b=>if b.length=0 then some []else(IL (Te a b)).bind λr=>(sC k b (Mw r)).bind λl=>some (b::l)
def Ea(p:Uo):Option Up:=(Po p).bind λa=>if a.length=0 then none else(IL (Gy a)).bind λd=>(sC 66 a (Fh d)).bind λl=>some (a::l)
def Pw(sg:Uo->Int)(s:Nat×Int)(p:Uo):Nat×Int:=if sg p=0 then s else(if s.2=-(sg p)then s.1+1 else s.1,sg p)
def C5(sg:Uo->Int)(l:Up):Nat:=(l.foldl (Pw sg) (0,0)).1
def C6(l:Up)(q:Rat):Nat:=C5 (λp=>Re p q) l
def Tq(l:Up)(lo hi:Rat):Int:=if Hk hi lo<0 then 0 else(C6 l lo:Int)-(C6 l hi:Int)
def UC(p:Uo):Int:=Int.sign (Fp p)
def ZT(p:Uo):Int:=if p.length % 2=0 then -Int.sign (Fp p)else Int.sign (Fp p)
def WR(l:Up):Int:=(C5 ZT l:Int)-(C5 UC l:Int)
def most:Uo->Nat:=λl=>l.foldl (λm z=>if m<z.natAbs then z.natAbs else m) 0
def Gz(p:Uo):Rat:=Rat.divInt (((Fp p).natAbs:Int)+(most (p.take (p.length-1)):Int)) ((Fp p).natAbs:Int)
def mid(a b:Rat):Rat:=Rat.divInt (a.num*(b.den:Int)+b.num*(a.den:Int)) ((a.den:Int)*(b.den:Int)*2)
def Im(p:Uo)(c:Up):Nat->Rat->Rat->Int->Option (List Tm)
 | 0,_,_,_=>none
 |k+1,lo,hi,n=>if n=0 then some []else if n=1 then some [⟨p,lo,hi⟩]else(chq (mid lo hi)).bind λm=>(Im p c k lo m (Tq c lo m)).bind λl=>(Im p c k m hi (n-Tq c lo m)).bind λr=>some (l++r)
def SI(p:Uo):Option (List Tm):=(Ea p).bind λc=>(Po p).bind λq=>(chq (Gz q)).bind λb=>Im q c 100000 (-b) b (WR c)
def Tm.point(a:Tm):Bool:=decide (0<=Hk a.lo a.hi)
def low(p:Uo)(q:Rat):Int:=if Re p q≠0 then Re p q else Re (Gy p) q
def UI(p:Uo)(lo hi:Rat):Bool:=decide (Re p hi=0\/Re p hi≠low p lo)
def Fo(a:Tm)(t:Rat):Int :=
 if a.point=true then Hk a.lo t else if Hk t a.lo<=0 then 1 else if 0<Hk t a.hi then -1 else if Re a.p t=0 then 0 else if Re a.p t=low a.p a.lo then 1 else -1
def jN(a:Tm):Option Tm:=if a.point=true then some a else(chq (mid a.lo a.hi)).bind λm =>
 some (if Fo a m=0 then ⟨a.p,m,m⟩else if Fo a m=-1 then ⟨a.p,a.lo,m⟩else ⟨a.p,m,a.hi⟩)
def Hb(p:Uo):Nat:=p.foldl (λn z=>max n (Fc z)) 0
def P7(a b:Tm):Nat:=64+2*(Fc a.lo.num+Fc a.hi.num+Fc b.lo.num+Fc b.hi.num)+4*(a.p.length+b.p.length)*(Hb a.p+Hb b.p+(a.p.length+b.p.length)+8)
def EH(a b:Rat):Rat:=Rat.divInt (a.num*(b.den:Int)-b.num*(a.den:Int)) ((a.den:Int)*(b.den:Int))
def D7(a b:Tm):Bool:=decide (Hk a.hi b.lo<=0/\¬((a.point=true/\b.point=true)/\Hk a.hi b.lo=0))
def AP:Nat->Tm->Tm->Option (Tm×Tm×Int)
 | 0,a,b=>some (a,b,0)
 |
  k+1,a,b=>if D7 a b=true then some (a,b,-1)else if D7 b a=true then some (a,b,1)else
  if 0<=Hk (EH a.hi a.lo) (EH b.hi b.lo)then(jN a).bind λx=>AP k x b else(jN b).bind λx=>AP k a x
def UF(a b:Tm):Option Int:=if a.point=true then some (-Fo b a.lo)else if b.point=true then some (Fo a b.lo)else
 let lo:=if 0<Hk b.lo a.lo then b.lo else a.lo
 let hi:=if Hk b.hi a.hi<0 then b.hi else a.hi
 if Hk lo hi<0 then(yE a.p b.p).bind λg=>if 1<g.length/\UI g lo hi=true then some 0 else(AP (P7 a b) a b).bind λr=>some r.2.2
 else(AP (P7 a b) a b).bind λr=>some r.2.2
def sgF(c:Up):Nat->Tm->Option Tm
 | 0,a=>some a
 |k+1,a=>if a.point=true\/Tq c a.lo a.hi=0 then some a else(jN a).bind λx=>sgF c k x
def GW(p:Uo)(a:Tm):Option Int:=if p.length=0 then some 0 else if a.point=true then some (Re p a.lo)else
 (yE p a.p).bind λg=>if 1<g.length/\UI g a.lo a.hi=true then some 0 else(Ea p).bind λc=>(sgF c (64+2*(Fc a.lo.num+Fc a.hi.num)+4*(a.p.length+p.length)*(Hb a.p+Hb p+(a.p.length+p.length)+8)) a).bind λx=>some (Re p x.hi)
def QD:Tm->List Tm->Option Tm
 |b,[]=>some b
 |b,a::l=>(UF a b).bind λc=>QD (if c<0 then a else b) l
def VE(a:Tm):List Tm->Option (Option Tm)
 | []=>some none
 |r::l=>(UF r a).bind λc=>if 0<c then some (some r)else VE a l
def WN(p:Uo):Option (List Tm):=(bL p).bind λq=>if q.length=0 then some []else SI q
def SB(p:Uo)(a:Tm):Option (Option Tm):=(WN p).bind λl=>VE a l
end Orr
namespace Orr
open Go Go.Proofs Tryz
set_option maxRecDepth 10000
theorem Ek{p:Uo}(tp:Fe p)(h:p.length≠0):Fp p≠0:=H9 tp (by omega)
theorem DL{p:Uo}(h:p.length≠0):Fp p∈p:=Qa (Ry (by omega))
theorem Ni{s:Nat}{p:Uo}(h:Bd s p):Fc (Fp p)<=s:=Ft h _
theorem E5{p:Uo}:∀z∈p,Pg p∣z:=XW
theorem JJ{p:Uo}(tp:Fe p)(h:p.length≠0):Pg p≠0:=λh0=>Ek tp h (Int.zero_dvd.1 (h0 ▸ E5 _ (DL h)))
theorem YP{p:Uo}(h:Bd 4294967295 p):Fc (Pg p)<=4294967295:=MP h
theorem oU{p:Uo}(tp:Fe p)(h:p.length≠0):Hp p≠0:=by
 have:=JJ tp h;unfold Hp;split <;> omega
theorem FB{p:Uo}:∀z∈p,Hp p∣z:=λz hz=>by
 unfold Hp;split
 ·exact Ue.2 (E5 z hz)
 ·exact E5 z hz
theorem Qij{p:Uo}(h:Bd 4294967295 p):Fc (Hp p)<=4294967295:=by
 unfold Hp;split
 ·rw[Ho];exact YP h
 ·exact YP h
theorem NL{s:Nat}{p:Uo}(h:Bd s p)(c:Int):Bd s (Dc p c):=Ty (HY h c)
theorem qY(p:Uo)(c:Int):(Dc p c).length<=p.length:=Qc (H8 _) (by simp)
theorem ZJ(p:Uo)(c:Int):Fe (Dc p c):=Rt _
theorem Qjp{p:Uo}(h:Pb p)(c:Int):Pb (Dc p c):=⟨ZJ _ _,Qc (qY _ _) h.l,NL h.b c⟩
theorem RE:Pb []:=⟨rfl,by simp,ZL⟩
theorem Ta{p:Uo}(h:Pb p):Pb (Fh p):=by
 unfold Fh;split
 ·exact RE
 ·exact Qjp h _
theorem Pb.bd{p:Uo}(h:Pb p):Bd 4294967295 p:=U5 h.b (by omega)
theorem Pb.ln{p:Uo}(h:Pb p):p.length<274877906944:=Z3 h.l (by omega)
theorem Pb.ln'{p:Uo}(h:Pb p):p.length<8589934592:=Z3 h.l (by omega)
theorem QG{p q:Uo}(tp:Fe p)(h:IL p=some q):q=p/\Pb p:=by
 unfold IL at h
 split at h
 ·rename_i hc;injection h with h;refine⟨h.symm,tp,hc.1,λz hz=>?_⟩;have:=Ju.1 hc.2 z hz;exact Zg this
 ·cases h
theorem lL{p:Uo}{g:Int}(hl:p.length<274877906944)(hp:Bd 4294967295 p)(hg:Fc g≤4294967295)(h0:g≠0)(hd:∀z∈p,g∣z):Ul 335 [pr p,.agg (Hg g)] [pr (Dc p g)]:=by
 refine Fv func335 rfl ?_;refine Ug [.r 9 (eI (b:=(p.length:Int)) (by simp)),.i p.length,.i p.length,.r 12 (eI (b:=(p.length:Int)) (by simp))] rfl ?_;rw[Ah λk=>Hg (p.getD k 0 / g)];refine Uk (S:=Nat) 2 (λL1 k=>(13,.v (.oi k))::L1) (λk=>[.blk 36 (Hg g),.row false 36 2 (AG (λk=>Hg (p.getD k 0 / g)) [.bool false,.nils] p.length k)]) (λk=>p.length-k) (λk=>k<=p.length) 0 (Qh _) rfl rfl λk hk=>?_
 by_cases hlt:k<p.length
 ·have hg2:=Ry hlt;refine go tt [.t (by simp;omega),.x (Pn hg2),.k (A8 (U4 _) (U4 _) (Ft hp k) hg h0 (Jy (hd _ (Qa hg2)))),.i k] rfl (by simp[U3,Ii];omega) ?_;have e:=QM (λk=>Hg (p.getD k 0 / g)) [.bool false,.nils] hlt;rw[e];exact rd (k+1) (by omega) hlt rfl
 ·obtain rfl:k=p.length:=by omega
  have e:AG (λk=>Hg (p.getD k 0 / g)) [.bool false,.nils] p.length p.length=(p.map (· / g)).map Hg:=by
   rw[QP];refine Xl λi=>?_
   by_cases hi:i<p.length
   ·simp[X2 hi,List.getD,Qf hi]
   ·simp[Qu,hi]
  rw[e];exact Uh [.f (by simp),.k (Ce (Gp (p.map (· / g))) (by simp;exact hl) (HY hp g))] rfl
theorem HK{p:Uo}(hl:p.length<8589934592)(hp:Bd 4294967295 p):Ul 336 [.one (.row [[pl p]])] [.agg (Hg (Pg p))]:=by
 refine Fv func336 rfl ?_;refine Uf [.o 3 36 2] rfl ?_;refine Uk (S:=Nat) 2 (λL1 i=>(8,.v (.oi i))::(3,.v (.one (.orow 1 2 none)))::L1) (λi=>[.blk 36 [.bool false,.nils],.row false 36 2 (if i=0 then []else p.map Hg)]) (λi=>1-i) (λi=>i<=1) 0 (Qh _) rfl rfl λi hi=>?_
 rcases(show i=0\/i=1 by omega)with rfl|rfl
 ·refine Ug [.t rfl,.x (i:=0) (xs:=[pl p]) rfl,.s (LL p)] rfl ?_;exact rd 1 (by omega) (by omega) rfl
 ·exact Uh [.f rfl,.k (Qet (Gp p) hp)] rfl
theorem Qf7{p:Uo}(tp:Fe p)(hl':p.length<8589934592)(hp:Bd 4294967295 p):Ul 319 [pr p] [.agg (Hg (if p.length=0 then 0 else Hp p)),pr (Fh p)]:=by
 have hl:p.length<274877906944:=by omega
 have cn:=Hr tp hl hp;by_cases h0:p.length=0
 ·have e:p=[]:=Qj h0;subst e;exact Ui func319 rfl [.k cn,.t rfl] rfl (by simp[Ll,Fh];rfl) trivial
 ·have hpf:Fh p=Dc p (Hp p):=by unfold Fh;rw[if_neg h0]
  rw[if_neg h0,hpf];have co:=lL hl hp (Qij hp) (oU tp h0) FB;by_cases hneg:Fp p<0
  ·have e:Hp p=-Pg p:=by unfold Hp;rw[if_pos hneg]
   rw[e]at co ⊢;exact Ui func319 rfl [.k cn,.f (by simpa using h0),.k (HK hl' hp),.k (Du tp hl hp),.t (by simpa[Fp]using hneg),.k (BV (U4 _) (YP hp)),.k co] rfl
  ·have e:Hp p=Pg p:=by unfold Hp;rw[if_neg hneg]
   rw[e]at co ⊢;exact Ui func319 rfl [.k cn,.f (by simpa using h0),.k (HK hl' hp),.k (Du tp hl hp),.f (by simpa[Fp]using hneg),.k co] rfl
theorem A9{p:Uo}(hp:Pb p):Ul 311 [pr p] [pr (Fh p)] :=
 Ui func311 rfl [.k (Qf7 hp.t hp.ln' hp.bd)] rfl
theorem P9(p:Uo):Ul 208 [pr p] [.oi ((p.length:Int)-1)]:=by
 have h:Ul 208 [pr p] [.oi (((p.map Hg).length:Int)-1)]:=Fv func208 rfl (ln 0 rfl rfl λhl=>Uh [] rfl rfl (by simp[U3]at hl ⊢;omega));rw[Zb]at h;exact h
theorem Oh(i:Nat)(x:Int):(mono i x).length=i+1:=by simp[mono]
theorem NC{s i:Nat}{x:Int}(h:Fc x<=s):Bd s (mono i x):=λz hz=>by
 simp only[mono,Qp,Qk]at hz;rcases hz with hz|rfl
 ·rw[(List.mem_replicate.1 hz).2,Nj];exact Qh _
 ·exact h
def stq(c:Int)(i:Nat)(x:Int)(q:Uo):Uo:=A5 (Fu q c) (mono i x)
def str(b:Uo)(c:Int)(i:Nat)(x:Int)(r:Uo):Uo:=Na (Fu r c) (Gl (trim (mono i x)) b)
theorem Qtb{u t i:Nat}{c x:Int}{q:Uo}(hq:Bd u q)(hc:Fc c<=t)(hx:Fc x<=u):Bd (u+t+8) (stq c i x q) :=
 U5 (JO (Ge hq hc) (NC hx)) (by omega)
theorem Qoz{c x:Int}{i:Nat}{q:Uo}:(stq c i x q).length<=max q.length (i+1):=by
 have h:=Oe (Fu q c) (mono i x);have h1:=Fx q c;rw[Oh]at h;unfold stq;omega
theorem jI{i:Nat}{x:Int}{b:Uo}:(Gl (trim (mono i x)) b).length<=i+b.length:=by
 have h:=Tx (trim (mono i x)) b;have h1:=H8 (mono i x);rw[Oh]at h1;omega
theorem dO{u t i:Nat}{x:Int}{b:Uo}(hb:Bd t b)(hx:Fc x<=u)(hi:i<=64):Bd (u+t+7) (Gl (trim (mono i x)) b) :=
 Pi (Ty (NC hx)) hb (Z3 (H8 _) (by rw[Oh];omega))
theorem pU{u t i:Nat}{c x:Int}{b r:Uo}(hr:Bd u r)(hb:Bd t b)(hc:Fc c<=t)(hx:Fc x<=u)(hi:i<=64):Bd (u+t+8) (str b c i x r) :=
 U5 (Dt (Ge hr hc) (dO hb hx hi)) (by omega)
theorem jO{c x:Int}{i:Nat}{b r:Uo}:(str b c i x r).length<=max r.length (i+b.length):=by
 have h:=Nl (Fu r c) (Gl (trim (mono i x)) b);have h1:=Fx r c;have h2:=jI (i:=i) (x:=x) (b:=b);unfold str;omega
theorem gX(i:Nat)(x:Int):((List.replicate (i+1) (0:Int)).map Hg).set i (Hg x)=(mono i x).map Hg:=by
 rw[bC,mono];congr 1;refine Xl λj=>?_
 simp only[Yo,List.getElem?_append,J0,Jd];by_cases h:j=i
 ·subst h;simp
 ·rw[if_neg (by omega)];by_cases h2:j<i
  ·simp[h2];omega
  ·rw[if_neg (by omega),if_neg h2];cases hj:j-i with
   |zero=>omega
   |succ m=>simp
theorem iS(i:Nat){x:Int}{y:Ut}(h:y.map FG=Hg x):(((List.replicate (i+1) [LV.bool false,LV.nils]).set i y).map λc=>c.map FG)=(mono i x).map Hg:=by
 rw[Vu,NX,h];exact gX i x
theorem JU{b:Uo}{c:Int}{i:Nat}{q r:Uo}{x:Int}(hx:x=if r.length=b.length+i then Fp r else 0):rB b c (i+1) (q,r)=rB b c i (stq c i x q,str b c i x r):=by
 subst hx;rfl
theorem Qfb{a b:Uo}(ha:Pb a)(hb:Pb b)(h0:b.length≠0):Ul 333 [pr a,pr b] [pr (rB b (Fp b) (a.length+1-b.length) ([],a)).1,pr (Mc a b),.oi ((a.length+1-b.length:Nat):Int),.oi 0]:=by
 have hal:=ha.l;have hbl:=hb.l;have hlb:Fc (Fp b)<=16777216:=Ni hb.b;obtain⟨c,hc⟩:=nmE (Fp b);have cl:=Du hb.t hb.ln hb.bd;rw[show b.getD (b.length-1) 0=c from hc.symm]at cl;obtain⟨k,hk⟩:=nmE (a.length+1-b.length);unfold Mc;rw[<-hc,<-hk];rw[<-hc]at hlb;refine Fv func333 rfl ?_;refine Ug [.z 4,.k (Hr ha.t ha.ln ha.bd),.k (Hr hb.t hb.ln hb.bd),.f (by simpa using h0),.k cl,.k (P9 a),.k (P9 b),.r 27 (eI (b:=(k:Int)) (by omega))] rfl ?_;refine Uk (S:=Nat×Uo×Uo) 1 (λL1 s=>(4,.v (pr s.2.1))::(5,.v (pr s.2.2))::(9,.v (.oi ((s.1:Int)-1)))::L1) (λ_=>[.blk 36 (Hg c)]) (λs=>s.1) (λs=>s.1<=k/\Fe s.2.2/\s.2.1.length<=66/\s.2.2.length<=a.length/\Bd (16777216+(k-s.1)*16777224) s.2.1/\Bd (16777216+(k-s.1)*16777224) s.2.2/\rB b c s.1 s.2=rB b c k ([],a)) (k,[],a) ⟨Qm _,ha.t,by simp,Qm _,ZL,by simpa using ha.b,rfl⟩ rfl rfl λ⟨i,q,r⟩ ⟨j1,j2,j3,j4,j5,j6,j7⟩=>?_
 dsimp only at j1 j2 j3 j4 j5 j6 j7 ⊢;rw[<-j7];cases i with
 |zero=>exact Uh [.f (by simp)] rfl
 |
  succ i =>
  obtain⟨x,hx⟩:=nmE (if r.length=b.length+i then Fp r else 0);obtain⟨u,hu⟩:=nmE (16777216+(k-(i+1))*16777224);rw[<-hu]at j5 j6;have hub:u<=1107296256:=by
   have:(k-(i+1))*16777224<=64*16777224:=Q0 _ (by omega);omega
  have hxs:Fc x<=u:=by
   rw[hx];split
   ·exact Ni j6
   ·rw[Nj];exact Qh _
  have cs:=Pp (p:=q) (c:=c) (by omega) (U5 j5 (by omega)) (by omega);have cs2:=Pp (p:=r) (c:=c) (by omega) (U5 j6 (by omega)) (by omega);have l1:=Fx q c;have l2:=Fx r c;have ca:=BW (p:=Fu q c) (q:=mono i x) (by omega) (by rw[Oh];omega) (U5 (Ge j5 hlb) (by omega)) (U5 (NC hxs) (by omega));have cm:=xT (p0:=mono i x) hb.t (by rw[Oh];omega) (by omega) (NC hxs) hb.b (by omega);have l3:=jI (i:=i) (x:=x) (b:=b);have cb:=HW (p:=Fu r c) (q:=Gl (trim (mono i x)) b) (by omega) (by omega) (U5 (Ge j6 hlb) (by omega)) (U5 (dO hb.b hxs (by omega)) (by omega));have hst:=JU (b:=b) (c:=c) (q:=q) hx;have hI:i<=k/\Fe (str b c i x r)/\(stq c i x q).length<=66/\(str b c i x r).length<=a.length/\Bd (16777216+(k-i)*16777224) (stq c i x q)/\Bd (16777216+(k-i)*16777224) (str b c i x r):=by
   have l5:=Qoz (c:=c) (x:=x) (i:=i) (q:=q);have l6:=jO (c:=c) (x:=x) (i:=i) (b:=b) (r:=r);have hku:u+16777216+8=16777216+(k-i)*16777224:=by
    rw[hu,show k-i=(k-(i+1))+1 from by omega,X4];omega
   refine⟨by omega,Fy _ _,by omega,by omega,?_,?_⟩
   ·rw[<-hku];exact Qtb j5 hlb hxs
   ·rw[<-hku];exact pU j6 hb.b hlb hxs (by omega)
  rw[hst];by_cases h:r.length=b.length+i
  ·refine Ug [.t (by simp <;> omega),.k (P9 r),.k (P9 b),.t (by simp;omega),.k (Du j2 (by omega) (U5 j6 (by omega))),.r 44 (eI (b:=((i+1:Nat):Int)) (by omega)),.i (i+1),.i (i+1),.r 47 (eI (b:=(i:Int)) (by omega)),.i i] rfl ?_;refine nl 2 rfl rfl rfl ?_;rw[iS i (x:=x) (by rw[hx,if_pos h];rfl)];refine Ug [.k cs,.k ca,.k cs2,.k cm,.k cb,.r 33 (eI (b:=(i:Int)-1) (by omega))] rfl ?_;exact rd (i,stq c i x q,str b c i x r) (by dsimp only;omega) ⟨hI.1,hI.2.1,hI.2.2.1,hI.2.2.2.1,hI.2.2.2.2.1,hI.2.2.2.2.2,rfl⟩ rfl
  ·refine Ug [.t (by simp <;> omega),.k (P9 r),.k (P9 b),.f (by simp;omega),.r 44 (eI (b:=((i+1:Nat):Int)) (by omega)),.i (i+1),.i (i+1),.r 47 (eI (b:=(i:Int)) (by omega)),.i i] rfl ?_;refine nl 2 rfl rfl rfl ?_;rw[iS i (x:=x) (by rw[hx,if_neg h,Ll];rfl)];refine Ug [.k cs,.k ca,.k cs2,.k cm,.k cb,.r 33 (eI (b:=(i:Int)-1) (by omega))] rfl ?_;exact rd (i,stq c i x q,str b c i x r) (by dsimp only;omega) ⟨hI.1,hI.2.1,hI.2.2.1,hI.2.2.2.1,hI.2.2.2.2.1,hI.2.2.2.2.2,rfl⟩ rfl
theorem Qjy{b:Uo}{c:Int}(hb:Bd 16777216 b)(hc:Fc c<=16777216){n:Nat}:∀(i u:Nat) (q r:Uo),i<=64->i+b.length<=n+1->Fe r->r.length<=n->Bd u r->Fe (rB b c i (q,r)).2/\(rB b c i (q,r)).2.length<=n/\Bd (u+i*16777224) (rB b c i (q,r)).2
 | 0,u,q,r,_,_,h1,h2,h3=>⟨h1,h2,by simpa[rB]using h3⟩
 |
  i+1,u,q,r,hi,hn,h1,h2,h3=>by
  rw[JU rfl];have hx:Fc (if r.length=b.length+i then Fp r else 0)<=u:=by
   split
   ·exact Ni h3
   ·rw[Nj];exact Qh _
  have l6:=jO (c:=c) (x:=if r.length=b.length+i then Fp r else 0) (i:=i) (b:=b) (r:=r);have:=Qjy hb hc (n:=n) i (u+16777216+8) (stq c i (if r.length=b.length+i then Fp r else 0) q) (str b c i (if r.length=b.length+i then Fp r else 0) r) (by omega) (by omega) (Fy _ _) (by omega) (pU h3 hb hc hx (by omega));exact⟨this.1,this.2.1,U5 this.2.2 (by omega)⟩
theorem oS{a b:Uo}(ha:Pb a)(hb:Pb b)(h0:b.length≠0):Fe (Mc a b)/\(Mc a b).length<=a.length/\Bd 1107296256 (Mc a b):=by
 have hal:=ha.l;by_cases h:b.length<=a.length+1
 ·obtain⟨h1,h2,h3⟩:=Qjy hb.b (Ni hb.b) (n:=a.length) (a.length+1-b.length) 16777216 [] a (by omega) (by omega) ha.t (Qm _) ha.b;refine⟨h1,h2,U5 h3 ?_⟩;have:(a.length+1-b.length)*16777224<=64*16777224:=Q0 _ (by omega);omega
 ·have e:Mc a b=a:=by unfold Mc;rw[show a.length+1-b.length=0 from by omega];rfl
  rw[e];exact⟨ha.t,Qm _,U5 ha.b (by omega)⟩
theorem FI{a b r:Uo}{s n:Nat}(h1:Fe r)(h2:r.length<=n)(h3:Bd s r):Fe (Bz a b r)/\(Bz a b r).length<=n/\Bd s (Bz a b r):=by
 unfold Bz;split
 ·exact⟨Fy _ _,Qc (XB r) h2,PO h3⟩
 ·exact⟨h1,h2,h3⟩
theorem LI{r:Uo}{s n:Nat}(h2:r.length<=n)(h3:Bd s r):Fe (VI r)/\(VI r).length<=n/\Bd s (VI r):=by
 unfold VI;split
 ·exact⟨rfl,by simp,ZL⟩
 ·exact⟨ZJ _ _,Qc (qY _ _) h2,NL h3 _⟩
theorem FD{a b:Uo}(ha:Pb a)(hb:Pb b)(h0:b.length≠0):Fe (Te a b)/\(Te a b).length<=a.length/\Bd 1107296256 (Te a b):=by
 obtain⟨h1,h2,h3⟩:=oS ha hb h0;obtain⟨h4,h5,h6⟩:=FI (a:=a) (b:=b) h1 h2 h3;exact LI h5 h6
theorem Qfg{a b:Uo}(ha:Pb a)(hb:Pb b)(h0:b.length≠0):Ul 312 [pr a,pr b] [pr (Te a b),.oi 0]:=by
 obtain⟨h1,h2,h3⟩:=oS ha hb h0;obtain⟨h4,h5,h6⟩:=FI (a:=a) (b:=b) h1 h2 h3;have hal:=ha.l;have cp:=Qfb ha hb h0;have cl:=Du hb.t hb.ln hb.bd;have cn:=Qe7 (p:=Mc a b) (by omega) (U5 h3 (by omega));unfold Te;obtain⟨r,hr⟩:=nmE (Bz a b (Mc a b));have cc:=HK (p:=r) (by rw[hr];omega) (by rw[hr];exact U5 h6 (by omega));rw[<-hr]at h4 h5 h6 ⊢;obtain⟨k,hk⟩:=nmE (a.length+1-b.length);rw[<-hk]at cp;have em:((k:Int).tmod 2)=((k % 2:Nat):Int):=by rw[Y6 (by omega)];omega
 have key:VI r=if r.length=0 then []else Dc r (Pg r):=rfl
 by_cases hz:r.length=0
 ·rw[key,if_pos hz];by_cases hodd:k % 2=1
  ·by_cases hneg:Fp b<0
   ·have e:r=Mw (Mc a b):=by rw[hr];unfold Bz;rw[if_pos ⟨by rw[<-hk];exact hodd,hneg⟩]
    rw[e]at hz;exact Ui func312 rfl [.k cp,.f (by simp),.r 22 (eI em),.t (by simp;omega),.k cl,.t (by simpa[Fp]using hneg),.k cn,.t (by simpa using hz)] rfl rfl (by simp[U3])
   ·have e:r=Mc a b:=by rw[hr];unfold Bz;rw[if_neg (λh=>hneg h.2)]
    rw[e]at hz;exact Ui func312 rfl [.k cp,.f (by simp),.r 22 (eI em),.t (by simp;omega),.k cl,.f (by simpa[Fp]using hneg),.t (by simpa using hz)] rfl rfl (by simp[U3])
  ·have e:r=Mc a b:=by rw[hr];unfold Bz;rw[if_neg (λh=>hodd (by rw[hk];exact h.1))]
   rw[e]at hz;exact Ui func312 rfl [.k cp,.f (by simp),.r 22 (eI em),.f (by simp;omega),.f rfl,.t (by simpa using hz)] rfl rfl (by simp[U3])
 ·rw[key,if_neg hz];have cd:=lL (p:=r) (g:=Pg r) (by omega) (U5 h6 (by omega)) (YP (U5 h6 (by omega))) (JJ h4 hz) E5;by_cases hodd:k % 2=1
  ·by_cases hneg:Fp b<0
   ·have e:r=Mw (Mc a b):=by rw[hr];unfold Bz;rw[if_pos ⟨by rw[<-hk];exact hodd,hneg⟩]
    rw[e]at hz cc cd ⊢;exact Ui func312 rfl [.k cp,.f (by simp),.r 22 (eI em),.t (by simp;omega),.k cl,.t (by simpa[Fp]using hneg),.k cn,.f (by simpa using hz),.k cc,.k cd] rfl rfl (by simp[U3])
   ·have e:r=Mc a b:=by rw[hr];unfold Bz;rw[if_neg (λh=>hneg h.2)]
    rw[e]at hz cc cd ⊢;exact Ui func312 rfl [.k cp,.f (by simp),.r 22 (eI em),.t (by simp;omega),.k cl,.f (by simpa[Fp]using hneg),.f (by simpa using hz),.k cc,.k cd] rfl rfl (by simp[U3])
  ·have e:r=Mc a b:=by rw[hr];unfold Bz;rw[if_neg (λh=>hodd (by rw[hk];exact h.1))]
   rw[e]at hz cc cd ⊢;exact Ui func312 rfl [.k cp,.f (by simp),.r 22 (eI em),.f (by simp;omega),.f rfl,.f (by simpa using hz),.k cc,.k cd] rfl rfl (by simp[U3])
theorem Qox{s:Nat}{x:Int}(h:Fc x<=s)(g:Int):Fc (x / g)<=s:=HY (p:=[x]) (λz hz=>by rw[Qk.1 hz];exact h) g _ (by simp)
def sta(b:Uo)(i:Nat)(x:Int)(a:Uo):Uo:=Na a (Gl (trim (mono i x)) b)
theorem Qta{u t i:Nat}{x:Int}{b a:Uo}(ha:Bd u a)(hb:Bd t b)(hx:Fc x<=u)(hi:i<=64):Bd (u+t+8) (sta b i x a) :=
 U5 (Dt ha (dO hb hx hi)) (by omega)
theorem iK{x:Int}{i:Nat}{b a:Uo}:(sta b i x a).length<=max a.length (i+b.length):=by
 have h:=Nl a (Gl (trim (mono i x)) b);have h2:=jI (i:=i) (x:=x) (b:=b);unfold sta;omega
theorem Qmn(s n:Nat):Bd s (List.replicate n 0):=λz hz=>by rw[(List.mem_replicate.1 hz).2,Nj];exact Qh _
theorem Qs9{s i:Nat}{l:Uo}{x:Int}(h:Bd s l)(hx:Fc x<=s):Bd s (l.set i x):=λz hz=>by
 rcases Jq hz with hz|rfl
 ·exact h z hz
 ·exact hx
theorem Qe5{a b q:Uo}(ha:Pb a)(hb:Pb b)(h:JW a b=some q):Ul 349 [pr a,pr b] [pr q,.oi 0]:=by
 unfold JW at h
 split at h
 ·cases h
 rename_i h0;obtain⟨k,hk⟩:=nmE (a.length+1-b.length);rw[<-hk]at h;obtain⟨q',hq,hq2⟩:=Qd.1 h;obtain⟨rfl,hpb⟩:=QG (Rt _) hq2;have hal:=ha.l;have hbl:=hb.l;refine Fv func349 rfl ?_;refine Ug [.k (Hr ha.t ha.ln ha.bd),.k (Hr hb.t hb.ln hb.bd),.f (by simpa using h0),.r 24 (eI (b:=(k:Int)) (by simp;omega)),.i k,.i k,.r 27 (eI (b:=(k:Int)) (by simp))] rfl ?_;refine nl 0 rfl rfl rfl ?_;rw[NX];refine Uk (S:=Nat×Uo×Uo) 1 (λL1 s=>(0,.v (pr s.2.1))::(7,.v (.oi ((s.1:Int)-1)))::L1) (λs=>[.row false 36 2 (s.2.2.map Hg)]) (λs=>s.1) (λs=>s.1<=k/\Fe s.2.1/\s.2.1.length<=a.length/\Bd (16777216+(k-s.1)*16777224) s.2.1/\s.2.2.length=k/\Bd 1107296256 s.2.2/\yD b s.1 s.2.1 s.2.2=some q') (k,a,List.replicate k 0) ⟨Qm _,ha.t,Qm _,by simpa using ha.b,by simp,Qmn _ _,hq⟩ rfl rfl λ⟨i,A,Q⟩ ⟨j1,j2,j3,j4,j5,j7,j6⟩=>?_
 dsimp only at j1 j2 j3 j4 j5 j6 j7 ⊢;cases i with
 |
  zero =>
  simp only[yD]at j6
  split at j6
  ·rename_i hA;injection j6 with j6;subst j6;exact Uh [.f (by simp),.f (by simpa using hA),.k (Ce (Gp Q) (by omega) (U5 j7 (by omega)))] rfl
  ·cases j6
 |
  succ i =>
  obtain⟨u,hu⟩:=nmE (16777216+(k-(i+1))*16777224);rw[<-hu]at j4;have hub:u<=1107296256:=by
   have:(k-(i+1))*16777224<=64*16777224:=Q0 _ (by omega);omega
  have hku:u+16777216+8=16777216+(k-i)*16777224:=by
   rw[hu,show k-i=(k-(i+1))+1 from by omega,X4];omega
  simp only[yD]at j6;by_cases hlt:A.length<b.length+i
  ·rw[if_pos hlt]at j6;refine Ug [.t (by simp <;> omega),.k (P9 A),.k (P9 b),.t (by simp;omega),.r 32 (eI (b:=(i:Int)-1) (by omega))] rfl ?_;exact rd (i,A,Q) (by dsimp only;omega) ⟨by dsimp only;omega,j2,j3,U5 j4 (by dsimp only;omega),j5,j7,j6⟩ rfl
  ·rw[if_neg hlt]at j6
   split at j6
   ·rename_i hdv;obtain⟨x,hx⟩:=nmE (Fp A / Fp b);rw[<-hx]at j6;have hxs:Fc x<=u:=by rw[hx];exact Qox (Ni j4) _
    have ce:=A8 (U4 (Fp A)) (U4 (Fp b)) (Qc (Ni j4) (by omega)) (Qc (Ni hb.b) (by omega)) (Ek hb.t h0) hdv;rw[<-hx]at ce;have cm:Ul 266 [.one (.row ((mono i x).map Hg)),pr b] [pr (Gl (trim (mono i x)) b)]:=xT (p0:=mono i x) hb.t (by rw[Oh];omega) (by omega) (NC hxs) hb.b (by omega);have l3:=jI (i:=i) (x:=x) (b:=b);have l4:=iK (i:=i) (x:=x) (b:=b) (a:=A);have cb:=HW (p:=A) (q:=Gl (trim (mono i x)) b) (by omega) (by omega) (U5 j4 (by omega)) (U5 (dO hb.b hxs (by omega)) (by omega));refine Ug [.t (by simp <;> omega),.k (P9 A),.k (P9 b),.f (by simp;omega),.k (Du j2 (by omega) (U5 j4 (by omega))),.k (Du hb.t hb.ln hb.bd),.k ce,.f rfl,.r 51 (eI (b:=(i:Int)) (by omega)),.i i,.r 55 (eI (b:=((i+1:Nat):Int)) (by omega)),.i (i+1),.i (i+1),.r 58 (eI (b:=(i:Int)) (by omega))] rfl ?_;refine nl 2 rfl rfl rfl ?_;rw[NX,bC];rw[<-gX i x]at cm;refine Ug [.i i,.k cm,.k cb,.r 32 (eI (b:=(i:Int)-1) (by omega))] rfl ?_;exact rd (i,sta b i x A,Q.set i x) (by dsimp only;omega) ⟨by dsimp only;omega,Fy _ _,by dsimp only;omega,by dsimp only;rw[<-hku];exact Qta j4 hb.b hxs (by omega),by simpa using j5,Qs9 j7 (Nat.le_trans hxs hub),j6⟩ rfl
   ·cases j6
theorem bM{a b q:Uo}(h:JW a b=some q):Pb q:=by
 unfold JW at h
 split at h
 ·cases h
 ·obtain⟨q',_,hq2⟩:=Qd.1 h;obtain⟨rfl,hpb⟩:=QG (Rt _) hq2;exact hpb
theorem Qgc{a b q:Uo}(ha:Pb a)(hb:Pb b)(h:JW a b=some q):Ul 338 [pr a,pr b] [pr q] :=
 Ui func338 rfl [.k (Qe5 ha hb h)] rfl
theorem vE:∀{k:Nat} {a b g:Uo},Pb a->Pb b->TS k a b=some g->Pb g
 | 0,_,_,_,_,_,h=>by cases h
 |
  k+1,a,b,g,ha,hb,h=>by
  simp only[TS]at h
  split at h
  ·injection h with h;subst h;exact ha
  ·rename_i h0;obtain⟨r,hr,h⟩:=Qd.1 h;obtain⟨rfl,hpb⟩:=QG (FD ha hb h0).1 hr;exact vE hb hpb h
theorem eK{a b g:Uo}(ha:Pb a)(hb:Pb b)(h:JF a b=some g):Ul 272 [pr a,pr b] [pr g]:=by
 unfold JF at h;obtain⟨g',h2,rfl⟩:=Yy.1 h;have hg:=vE (Ta ha) (Ta hb) h2;refine Fv func272 rfl ?_;refine Uf [.k (A9 ha),.k (A9 hb)] rfl ?_;refine Uk (S:=Nat×Uo×Uo) 0 (λL1 s=>(0,.v (pr s.2.1))::(1,.v (pr s.2.2))::L1) (λ_=>[]) (λs=>s.1) (λs=>Pb s.2.1/\Pb s.2.2/\TS s.1 s.2.1 s.2.2=some g') (66,Fh a,Fh b) ⟨Ta ha,Ta hb,h2⟩ rfl rfl λ⟨k,A,C⟩ ⟨j1,j2,j3⟩=>?_
 dsimp only at j1 j2 j3 ⊢;cases k with
 |zero=>cases j3
 |
  succ k =>
  simp only[TS]at j3
  split at j3
  ·rename_i h0;injection j3 with j3;subst j3;exact Uh [.f (by simpa using h0),.k (A9 j1)] rfl
  ·rename_i h0;obtain⟨r,hr,j3⟩:=Qd.1 j3;obtain⟨rfl,hpb⟩:=QG (FD j1 j2 h0).1 hr;refine Uf [.t (by simp;omega),.k (Qfg j1 j2 h0)] rfl ?_;exact rd (k,C,Te A C) (by dsimp only;omega) ⟨j2,hpb,j3⟩ rfl
theorem RO{a b g:Uo}(ha:Pb a)(hb:Pb b)(h:JF a b=some g):Pb g:=by
 unfold JF at h;obtain⟨g',h2,rfl⟩:=Yy.1 h;exact Ta (vE (Ta ha) (Ta hb) h2)
theorem Qe6{a b g:Uo}(ha:Pb a)(hb:Pb b)(h:yE a b=some g):Ul 227 [.one (.row (Pe [a,b]))] [pr g]:=by
 unfold yE at h;obtain⟨g1,h1,h2⟩:=Qd.1 h;have hg1:=RO RE ha h1;refine Fv func227 rfl ?_;refine Uf [.z 3] rfl ?_;refine Uk (S:=Nat) 0 (λL1 i=>(8,.v (.oi i))::(3,.v (pr (if i=0 then []else if i=1 then g1 else g)))::L1) (λ_=>[]) (λi=>2-i) (λi=>i<=2) 0 (Qh _) rfl rfl λi hi=>?_
 rcases(show i=0\/i=1\/i=2 by omega)with rfl|rfl|rfl
 ·refine Uf [.t rfl,.x (Rq (i:=0) (p:=a) rfl),.k (eK RE ha h1)] rfl ?_ (by simp[U3]);exact rd 1 (by omega) (by omega) rfl
 ·refine Uf [.t rfl,.x (Rq (i:=1) (p:=b) rfl),.k (eK hg1 hb h2)] rfl ?_ (by simp[U3]);exact rd 2 (by omega) (by omega) rfl
 ·exact Uh [.f rfl] rfl
theorem Qjm{a b g:Uo}(ha:Pb a)(hb:Pb b)(h:yE a b=some g):Pb g:=by
 unfold yE at h;obtain⟨g1,h1,h2⟩:=Qd.1 h;exact RO (RO RE ha h1) hb h2
theorem LM{p d:Uo}(h:IL (Gy p)=some d):d=Gy p/\Pb (Gy p):=QG (Fy _ _) h
theorem BG{a g:Uo}(ha:Pb a)(h:Po a=some g):Ul 318 [pr a] [pr g]:=by
 have hp:=Ta ha;unfold Po at h
 split at h
 ·rename_i h0;injection h with h;subst h;exact Ui func318 rfl [.k (A9 ha),.k (P9 _),.t (by simp;omega)] rfl
 ·rename_i h0;obtain⟨d,h1,h⟩:=Qd.1 h;obtain⟨rfl,hd⟩:=LM h1;obtain⟨g1,h1,h⟩:=Qd.1 h;exact Ui func318 rfl [.k (A9 ha),.k (P9 _),.f (by simp;omega),.k (I3 hp.ln hp.bd),.k (eK hp hd h1),.k (Qgc hp (RO hp hd h1) h)] rfl
theorem RA{a g:Uo}(ha:Pb a)(h:Po a=some g):Pb g:=by
 unfold Po at h
 split at h
 ·injection h with h;subst h;exact Ta ha
 ·obtain⟨d,h1,h⟩:=Qd.1 h;obtain⟨g1,h1,h⟩:=Qd.1 h;exact bM h
theorem Qjn{p:Uo}(h:Pb p):Pb (Mw p):=⟨Fy _ _,Qc (XB p) h.l,PO h.b⟩
theorem mF:∀{k:Nat} {a b:Uo} {l:Up},Pb a->Pb b->sC k a b=some l->l.length≤k/\∀p∈l,Pb p
 | 0,_,_,_,_,_,h=>by cases h
 |
  k+1,a,b,l,ha,hb,h=>by
  simp only[sC]at h
  split at h
  ·injection h with h;subst h;exact⟨by simp,λp hp=>by cases hp⟩
  ·rename_i h0;obtain⟨r,hr,h⟩:=Qd.1 h;obtain⟨rfl,hpb⟩:=QG (FD ha hb h0).1 hr;obtain⟨l',h1,h⟩:=Qd.1 h;injection h with h;subst h;obtain⟨i1,i2⟩:=mF hb (Qjn hpb) h1;refine⟨by simp;exact i1,λp hp=>?_⟩;rcases Ql.1 hp with rfl|hp
   ·exact hb
   ·exact i2 p hp
theorem chain_ok{p:Uo}{l:Up}(hp:Pb p)(h:Ea p=some l):l.length≤67/\∀q∈l,Pb q:=by
 unfold Ea at h;obtain⟨a,h1,h⟩:=Qd.1 h;have ha:=RA hp h1
 split at h
 ·cases h
 ·obtain⟨d,h2,h⟩:=Qd.1 h;obtain⟨rfl,hd⟩:=LM h2;obtain⟨l',h3,h⟩:=Qd.1 h;injection h with h;subst h;obtain⟨i1,i2⟩:=mF ha (Ta hd) h3;refine⟨by simp;omega,λp hp=>?_⟩;rcases Ql.1 hp with rfl|hp
  ·exact ha
  ·exact i2 p hp
theorem LA(l:Up)(p:Uo):Pe l++[[pl p]]=Pe (l++[p]):=by simp[Pe]
theorem E6(l:Up):(Pe l).length=l.length:=by simp[Pe]
theorem Qfj{p:Uo}{l:Up}(hp:Pb p)(h:Ea p=some l):Ul 281 [pr p] [.one (.sh [.row (Pe l)]),.oi 0]:=by
 unfold Ea at h;obtain⟨a,h1,h⟩:=Qd.1 h;have ha:=RA hp h1
 split at h
 ·cases h
 rename_i h0;obtain⟨d,h2,h⟩:=Qd.1 h;obtain⟨rfl,hd⟩:=LM h2;obtain⟨l',h3,h⟩:=Qd.1 h;injection h with h;subst h;refine Fv func281 rfl ?_;refine Uf [.k (BG hp h1),.f (by simpa using h0),.lo,.k (I3 ha.ln ha.bd),.k (Qf7 hd.t hd.ln' hd.bd)] rfl ?_ (by simp[U3]);obtain⟨z,hz⟩:=nmE (if (Gy a).length=0 then 0 else Hp (Gy a));rw[<-hz];refine sb [(4,.v (pr a)),(7,.v (pr (Fh (Gy a)))),(5,.v (.one (.ow 1 0)))] [.row false 33 1 [[pl a]],.blk 369 [.orow 0 1 none],.blk 36 (Hg z)] rfl rfl ?_;have hll:=(mF ha (Ta hd) h3).1;refine Uk (S:=Nat×Up×Uo×Uo) 3 (λL1 s=>(4,.v (pr s.2.2.1))::(7,.v (pr s.2.2.2))::L1) (λs=>[.row false 33 1 (Pe s.2.1),.blk 369 [.orow 0 1 none],.blk 36 (Hg z)]) (λs=>s.1) (λs=>Pb s.2.2.1/\Pb s.2.2.2/\∃m,sC s.1 s.2.2.1 s.2.2.2=some m/\s.2.1++m=a::l') (66,[a],a,Fh (Gy a)) ⟨ha,Ta hd,l',h3,rfl⟩ rfl rfl λ⟨k,out,A,C⟩ ⟨j1,j2,m,j3,j4⟩=>?_
 dsimp only at j1 j2 j3 j4 ⊢;have hol:out.length<=67:=by have:=congrArg List.length j4;simp at this;omega
 cases k with
 |zero=>cases j3
 |
  succ k =>
  simp only[sC]at j3
  split at j3
  ·rename_i h0;injection j3 with j3;subst j3;rw[Zv]at j4;rw[<-j4];exact Uh [.f (by simpa using h0)] rfl
  ·rename_i h0;obtain⟨r,hr,j3⟩:=Qd.1 j3;obtain⟨rfl,hpb⟩:=QG (FD j1 j2 h0).1 hr;obtain⟨m',j6,j5⟩:=Qd.1 j3;injection j5 with j5;subst j5;refine go tt [.t (by simp;omega),.s (sz:=1) (λc hc=>by rw[Qk.1 hc];rfl),.k (Qfg j1 j2 h0),.k (Qe7 hpb.ln hpb.bd)] rfl (by simp[U3,E6];omega) ?_;exact rd (k,out++[C],C,Mw (Te A C)) (by dsimp only;omega) ⟨j2,Qjn hpb,m',j6,by rw[<-j4];simp⟩ (by rw[LA];rfl)
structure Tb(t:Tm):Prop where
 p:Pb t.p
 lo:Qb t.lo
 hi:Qb t.hi
theorem eA(x y:Int):-1<=D9 x y/\D9 x y<=1:=by unfold D9;split <;> (try split) <;> omega
theorem QH(a b:Rat):-1<=Hk a b/\Hk a b<=1:=eA _ _
theorem Oz(p:Uo)(q:Rat):-1<=Re p q/\Re p q<=1:=eA _ _
theorem nI(p:Uo)(q:Rat):-1<=low p q/\low p q<=1:=by unfold low;split <;> exact Oz _ _
theorem Qb.s31{q:Rat}(h:Qb q):Qs 2147483647 q:=h.mono (by decide)
theorem Qb.s32{q:Rat}(h:Qb q):Qs 4294967295 q:=h.mono (by decide)
theorem PG{p:Uo}{q:Rat}(hp:Pb p)(hq:Qb q):Ul 270 [pr p,.agg (rl q)] [.oi (Re p q)]:=by
 have hm:p.length*(16777216+1)<=64*16777217:=Q0 _ hp.l;exact lR hp.t hp.ln hp.b hq (by omega)
theorem Qxz{p:Uo}{q:Rat}(hp:Pb p)(hq:Qb q):Ul 270 [pr (Gy p),.agg (rl q)] [.oi (Re (Gy p) q)]:=by
 have hl:=Qc (Nk p) (show p.length-1<=64 by have:=hp.l;omega);have hm:(Gy p).length*(16777216+1)<=64*16777217:=Q0 _ hl;exact lR (Fy _ _) (Z3 hl (by omega)) (xG (t:=6) hp.b hp.l) hq (by omega)
theorem D8{t:Tm}(ht:Tb t):Ul 225 [.agg (ta t)] [.one (.bool t.point)] :=
 Ui func225 rfl [.k (Dk ht.lo.s31 ht.hi.s31)] rfl
theorem MV{t:Tm}(ht:Tb t):Ul 224 [.agg (ta t)] [.agg (ta t)] :=
 Ui func224 rfl [.k (Hr ht.p.t ht.p.ln ht.p.bd),.k (Nx ht.lo.s32),.k (Nx ht.hi.s32)] rfl
theorem Qgj{t:Tm}(ht:Tb t):Ul 163 [.agg (ta t)] [.agg (ta t)]:=Ui func163 rfl [.k (MV ht)] rfl
theorem Qf1{p:Uo}{q:Rat}(hp:Pb p)(hq:Qb q):Ul 271 [pr p,.agg (rl q)] [.oi (low p q)]:=by
 unfold low;by_cases h:Re p q=0
 ·rw[if_neg (by simpa using h)];exact Ui func271 rfl [.k (PG hp hq),.f (by simpa using h),.k (I3 hp.ln hp.bd),.k (Qxz hp hq)] rfl
 ·rw[if_pos h];exact Ui func271 rfl [.k (PG hp hq),.t (by simpa using h)] rfl
theorem Qfz{p:Uo}{lo hi:Rat}(hp:Pb p)(hl:Qb lo)(hh:Qb hi):Ul 228 [pr p,.agg (rl lo),.agg (rl hi)] [.one (.bool (UI p lo hi))]:=by
 by_cases h:Re p hi=0
 ·exact Ui func228 rfl [.k (PG hp hh),.t (by simpa using h)] rfl (by simp[UI,h]) trivial
 ·exact Ui func228 rfl [.k (PG hp hh),.f (by simpa using h),.k (Qf1 hp hl)] rfl (by simp[UI,h]) trivial
theorem Dh{t:Tm}{q:Rat}(ht:Tb t)(hq:Qb q):Ul 226 [.agg (ta t),.agg (rl q)] [.oi (Fo t q)]:=by
 have cp:=D8 ht;unfold Fo;by_cases h1:t.point=true
 ·rw[if_pos h1];exact Ui func226 rfl [.k cp,.t h1,.k (Dk ht.lo.s31 hq.s31)] rfl
 rw[if_neg h1];have h1:t.point=false:=by simpa using h1
 have c1:=Dk hq.s31 ht.lo.s31;have c2:=Dk hq.s31 ht.hi.s31;by_cases h2:Hk q t.lo<=0
 ·rw[if_pos h2];exact Ui func226 rfl [.k cp,.f h1,.k c1,.t (by simpa using h2)] rfl
 rw[if_neg h2];by_cases h3:0<Hk q t.hi
 ·rw[if_pos h3];exact Ui func226 rfl [.k cp,.f h1,.k c1,.f (by simpa using h2),.k c2,.t (by simpa using h3)] rfl
 rw[if_neg h3];by_cases h4:Re t.p q=0
 ·rw[if_pos h4];exact Ui func226 rfl [.k cp,.f h1,.k c1,.f (by simpa using h2),.k c2,.f (by simpa using h3),.k (PG ht.p hq),.t (by simpa using h4)] rfl
 rw[if_neg h4];by_cases h5:Re t.p q=low t.p t.lo
 ·rw[if_pos h5];exact Ui func226 rfl [.k cp,.f h1,.k c1,.f (by simpa using h2),.k c2,.f (by simpa using h3),.k (PG ht.p hq),.f (by simpa using h4),.k (Qf1 ht.p ht.lo),.t (by simpa using h5)] rfl
 ·rw[if_neg h5];exact Ui func226 rfl [.k cp,.f h1,.k c1,.f (by simpa using h2),.k c2,.f (by simpa using h3),.k (PG ht.p hq),.f (by simpa using h4),.k (Qf1 ht.p ht.lo),.f (by simpa using h5)] rfl
theorem Qn6(t:Tm)(q:Rat):-1<=Fo t q/\Fo t q<=1:=by
 unfold Fo;have:=QH t.lo q
 repeat' split
 all_goals omega
theorem Qod(q:Rat):0<(q.den:Int):=by have:=q.den_pos;omega
theorem Qrs{a b:Rat}(ha:Qb a)(hb:Qb b):Ul 314 [.agg (rl a),.agg (rl b)] [.agg (rl (mid a b))]:=by
 have h1:Fc (a.num*(b.den:Int))<=33554432:=Qc (Ga _ _) (by have:=ha.1;have:=hb.2;omega);have h2:Fc (b.num*(a.den:Int))<=33554432:=Qc (Ga _ _) (by have:=hb.1;have:=ha.2;omega);have h3:Fc ((a.den:Int)*(b.den:Int))<=33554432:=Qc (Ga _ _) (by have:=ha.2;have:=hb.2;omega);have h4:Fc (2:Int)<=2:=by decide
 have h5:Fc (a.num*(b.den:Int)+b.num*(a.den:Int))<=33554433:=Qc (QC _ _) (by omega);have h6:Fc ((a.den:Int)*(b.den:Int)*2)<=33554434:=Qc (Ga _ _) (by omega);have h0:(a.den:Int)*(b.den:Int)*2≠0:=by
  have:=Int.mul_pos (Qod a) (Qod b);omega
 exact Ui func314 rfl [.k (xC ha.s31 hb.s31),.k (KF (U4 _) (U4 _) (by omega) (by omega)),.k (BK (z:=2) (by decide)),.k (P0 (U4 _) (U4 _) (by omega) (by omega)),.k (ZA h0 (by omega) (by omega))] rfl
theorem xO{a b:Rat}(ha:Qb a)(hb:Qb b):Ul 274 [.agg (rl a),.agg (rl b)] [.agg (rl (EH a b))]:=by
 have h1:Fc (a.num*(b.den:Int))<=33554432:=Qc (Ga _ _) (by have:=ha.1;have:=hb.2;omega);have h2:Fc (b.num*(a.den:Int))<=33554432:=Qc (Ga _ _) (by have:=hb.1;have:=ha.2;omega);have h3:Fc ((a.den:Int)*(b.den:Int))<=33554432:=Qc (Ga _ _) (by have:=ha.2;have:=hb.2;omega);have h5:Fc (a.num*(b.den:Int)-b.num*(a.den:Int))<=33554433:=Qc (jA _ _) (by omega);have h0:(a.den:Int)*(b.den:Int)≠0:=by
  have:=Int.mul_pos (Qod a) (Qod b);omega
 exact Ui func274 rfl [.k (xC ha.s31 hb.s31),.k (Qft (U4 _) (U4 _) (by omega) (by omega)),.k (ZA h0 (by omega) (by omega))] rfl
theorem BI{q r:Rat}(h:chq q=some r):r=q/\Qb q:=by
 unfold chq at h
 split at h
 ·rename_i hc;injection h with h;exact⟨h.symm,hc⟩
 ·cases h
theorem mJ{t u:Tm}(ht:Tb t)(h:jN t=some u):Ul 275 [.agg (ta t)] [.agg (ta u)]:=by
 have cp:=D8 ht;unfold jN at h
 split at h
 ·rename_i h1;injection h with h;subst h;exact Ui func275 rfl [.k cp,.t h1] rfl
 ·rename_i h1;have h1:t.point=false:=by simpa using h1
  obtain⟨m,hm0,h⟩:=Qd.1 h;obtain⟨rfl,hm⟩:=BI hm0;injection h with h;subst h;have cm:=Qrs ht.lo ht.hi;have cc:=Dh ht hm;by_cases h2:Fo t (mid t.lo t.hi)=0
  ·rw[if_pos h2];exact Ui func275 rfl [.k cp,.f h1,.k cm,.k cc,.t (by simpa using h2)] rfl
  rw[if_neg h2];by_cases h3:Fo t (mid t.lo t.hi)=-1
  ·rw[if_pos h3];exact Ui func275 rfl [.k cp,.f h1,.k cm,.k cc,.f (by simpa using h2),.t (by simpa using h3)] rfl
  ·rw[if_neg h3];exact Ui func275 rfl [.k cp,.f h1,.k cm,.k cc,.f (by simpa using h2),.f (by simpa using h3)] rfl
theorem vP{t u:Tm}(ht:Tb t)(h:jN t=some u):Tb u:=by
 unfold jN at h
 split at h
 ·injection h with h;subst h;exact ht
 ·obtain⟨m,hm0,h⟩:=Qd.1 h;obtain⟨rfl,hm⟩:=BI hm0;injection h with h;subst h
  repeat' split
  ·exact⟨ht.p,hm,hm⟩
  ·exact⟨ht.p,ht.lo,hm⟩
  ·exact⟨ht.p,hm,ht.hi⟩
theorem QY{z:Int}(h:Fc z<=4294967296):Ul 267 [.one (mg z)] [.oi (Fc z:Int)]:=by
 have h1:=pB (l:=Gb z.natAbs) (Ls _) (by rw[Ha];exact h);rw[Ha]at h1;exact h1
theorem EJ{p:Uo}{i:Nat}{z:Int}(h:p[i]? = some z):Hb (p.take (i+1))=max (Hb (p.take i)) (Fc z):=by
 unfold Hb;rw[List.take_succ,h,Option.toList_some,List.foldl_append];rfl
theorem Mi{p:Uo}{s:Nat}(h:Bd s p):∀i,Hb (p.take i)<=s
 | 0=>by simp[Hb]
 |
  i+1=>by
  cases hz:p[i]? with
  |
   none =>
   rw[Qo (by have:=Jp.1 hz;omega),<-Qo (l:=p) (i:=i) (by have:=Jp.1 hz;omega)];exact Mi h i
  |some z=>rw[EJ hz];have:=Mi h i;have:=Qeg h hz;omega
theorem jQ{p:Uo}(hp:Pb p):Ul 313 [pr p] [.oi (Hb p:Int)]:=by
 have hl:=hp.l;refine Fv func313 rfl ?_;refine Uf [] rfl ?_;refine Uk (S:=Nat) 0 (λL1 i=>(8,.v (.oi i))::(3,.v (.oi (Hb (p.take i):Int)))::L1) (λ_=>[]) (λi=>p.length-i) (λi=>i<=p.length) 0 (Qh _) rfl rfl λi hi=>?_
 by_cases hlt:i<p.length
 ·have hg:=Ry hlt;have hz:=Ft hp.b i;have hs:=EJ hg;refine Ug [.t (by simp;omega),.x (Pn hg),.k (QY (by omega)),.r 16 (eI (b:=(Hb (p.take (i+1)):Int)) (by rw[hs];omega))] rfl ?_;exact rd (i+1) (by omega) hlt rfl
 ·obtain rfl:i=p.length:=by omega
  rw[Q7];exact Uh [.f (by simp)] rfl
theorem Qn0{a:Tm}{b:Tm}(ha:Tb a)(hb:Tb b):Ul 273 [.agg (ta a),.agg (ta b)] [.oi (P7 a b:Nat)]:=by
 have l1:=ha.p.l;have l2:=hb.p.l;have b1:=ha.lo.1;have b2:=ha.hi.1;have b3:=hb.lo.1;have b4:=hb.hi.1;have s1:Hb a.p<=16777216:=by have:=Mi ha.p.b a.p.length;rwa[Q7]at this
 have s2:Hb b.p<=16777216:=by have:=Mi hb.p.b b.p.length;rwa[Q7]at this
 obtain⟨N,hN⟩:=nmE (4*(a.p.length+b.p.length));obtain⟨S,hS⟩:=nmE (Hb a.p+Hb b.p+(a.p.length+b.p.length)+8);have hNS:N*S<=512*33554568:=Zd (by omega) (by omega);have h0:(N:Int)*(S:Int)=((N*S:Nat):Int):=(Vj _ _).symm;have hst:P7 a b=64+2*(Fc a.lo.num+Fc a.hi.num+Fc b.lo.num+Fc b.hi.num)+N*S:=by rw[hN,hS];rfl
 rw[hst];exact Ui func273 rfl [.k (QY (z:=a.lo.num) (by omega)),.k (QY (z:=a.hi.num) (by omega)),.k (QY (z:=b.lo.num) (by omega)),.k (QY (z:=b.hi.num) (by omega)),.r 41 (eI (b:=(N:Int)) (by rw[hN];simp)),.k (jQ ha.p),.k (jQ hb.p),.r 51 (eI (b:=(S:Int)) (by rw[hS];simp)),.r 52 (eI (b:=((N*S:Nat):Int)) h0)] rfl (by simp) (by rw[h0];simp[U3];omega)
def dY(p:Uo)(a:Tm):Nat:=64+2*(Fc a.lo.num+Fc a.hi.num)+4*(a.p.length+p.length)*(Hb a.p+Hb p+(a.p.length+p.length)+8)
theorem lQ:Ul 267 [lr []] [.oi 0]:=pB (l:=[]) (by simp[Sm]) (by decide)
theorem Qgg{a:Tm}{p:Uo}(ha:Tb a)(hp:Pb p):Ul 273 [.agg (ta a),.agg ([pl p,.bool false,.row [],.bool false,.row [],.bool false,.row [],.bool false,.row []])] [.oi (dY p a:Nat)]:=by
 have l1:=ha.p.l;have l2:=hp.l;have b1:=ha.lo.1;have b2:=ha.hi.1;have s1:Hb a.p<=16777216:=by have:=Mi ha.p.b a.p.length;rwa[Q7]at this
 have s2:Hb p<=16777216:=by have:=Mi hp.b p.length;rwa[Q7]at this
 obtain⟨N,hN⟩:=nmE (4*(a.p.length+p.length));obtain⟨S,hS⟩:=nmE (Hb a.p+Hb p+(a.p.length+p.length)+8);have hNS:N*S<=512*33554568:=Zd (by omega) (by omega);have h0:(N:Int)*(S:Int)=((N*S:Nat):Int):=(Vj _ _).symm;have hst:dY p a=64+2*(Fc a.lo.num+Fc a.hi.num)+N*S:=by rw[hN,hS];rfl
 rw[hst];exact Ui func273 rfl [.k (QY (z:=a.lo.num) (by omega)),.k (QY (z:=a.hi.num) (by omega)),.k lQ,.k lQ,.r 41 (eI (b:=(N:Int)) (by rw[hN];simp)),.k (jQ ha.p),.k (jQ hp),.r 51 (eI (b:=(S:Int)) (by rw[hS];simp)),.r 52 (eI (b:=((N*S:Nat):Int)) h0)] rfl (by simp) (by rw[h0];simp[U3];omega)
def VM(sg:Uo->Int)(l:Up)(i:Nat):Nat×Int:=(l.take i).foldl (Pw sg) (0,0)
theorem vC{sg:Uo->Int}(hs:∀p,-1<=sg p/\sg p<=1)(l:Up):∀i,(VM sg l i).1<=i/\-1<=(VM sg l i).2/\(VM sg l i).2<=1
 | 0=>⟨Qm _,show(-1:Int)<=0 by decide,show(0:Int)<=1 by decide⟩
 |
  i+1=>by
  obtain⟨h1,h2,h3⟩:=vC hs l i;cases h:l[i]? with
  |
   none =>
   have:VM sg l (i+1)=VM sg l i:=by unfold VM;rw[List.take_of_length_le (by have:=List.getElem?_eq_none_iff.1 h;omega),List.take_of_length_le (List.getElem?_eq_none_iff.1 h)]
   rw[this];omega
  |
   some p =>
   have:VM sg l (i+1)=Pw sg (VM sg l i) p:=Si _ _ _ h;rw[this];have:=hs p;unfold Pw
   split
   ·omega
   ·dsimp only;split <;> omega
theorem Qn3{l:Up}{fid:Nat}{l1:Ut}{sg:Uo->Int}(hl:l.length≤1000)(hs:∀p,-1≤sg p/\sg p≤1)(h:∀p∈l,AT prog fid [pr p,.one (.sh l1)] [.oi (sg p)]):Ul 340 [.one (.sh [.row (Pe l)]),.one (.fn fid [] [.sh l1])] [.oi (C5 sg l:Nat)]:=by
 have hpl:=E6 l;refine Fv func340 rfl ?_;refine Uf [] rfl ?_;refine Uk (S:=Nat) 0 (λL1 i=>(15,.v (.oi i))::(5,.v (.oi ((VM sg l i).1:Int)))::(6,.v (.one (.int .i64 (VM sg l i).2)))::L1) (λ_=>[]) (λi=>l.length-i) (λi=>i<=l.length) 0 (Qh _) rfl rfl λi hi=>?_
 by_cases hlt:i<l.length
 ·obtain⟨p,hp⟩:=gxE (l:=l) (i:=i) hlt;have hst:VM sg l (i+1)=Pw sg (VM sg l i) p:=Si _ _ _ hp;obtain⟨b1,b2,b3⟩:=vC hs l i;have b4:=hs p;by_cases h0:sg p=0
  ·refine Ug [.t (by simp[hpl];omega),.x (Rq hp),.k (h p (Qa hp)),.t (by simpa using h0)] rfl ?_;exact rd (i+1) (by omega) hlt (by rw[hst,show Pw sg (VM sg l i) p=VM sg l i from by unfold Pw;rw[if_pos h0]];rfl)
  ·by_cases h1:(VM sg l i).2=-(sg p)
   ·refine Ug [.t (by simp[hpl];omega),.x (Rq hp),.k (h p (Qa hp)),.f (by simpa using h0),.t (by simpa using h1)] rfl ?_;exact rd (i+1) (by omega) hlt (by rw[hst,show Pw sg (VM sg l i) p=((VM sg l i).1+1,sg p) from by unfold Pw;rw[if_neg h0,if_pos h1]];rfl)
   ·refine Ug [.t (by simp[hpl];omega),.x (Rq hp),.k (h p (Qa hp)),.f (by simpa using h0),.f (by simpa using h1)] rfl ?_;exact rd (i+1) (by omega) hlt (by rw[hst,show Pw sg (VM sg l i) p=((VM sg l i).1,sg p) from by unfold Pw;rw[if_neg h0,if_neg h1]];rfl)
 ·obtain rfl:i=l.length:=by omega
  refine Uh [.f (by simp[hpl])] rfl ?_ trivial;unfold VM C5;rw[List.take_length]
theorem Qfr{p:Uo}{q:Rat}(hp:Pb p)(hq:Qb q):Ul 341 [pr p,.one (.sh (rl q))] [.oi (Re p q)]:=Ui func341 rfl [.k (PG hp hq)] rfl
theorem lC{l:Up}{q:Rat}(hl:l.length≤1000)(hp:∀p∈l,Pb p)(hq:Qb q):Ul 321 [.one (.sh [.row (Pe l)]),.agg (rl q)] [.oi (C6 l q:Nat)] :=
 Ui func321 rfl [.k (Qn3 (fid:=341) (l1:=rl q) (sg:=λp=>Re p q) hl (λp=>Oz p q) λp h=>Qfr (hp p h) hq)] rfl
theorem Lt{sg:Uo->Int}(hs:∀p,-1<=sg p/\sg p<=1)(l:Up):C5 sg l<=l.length:=by
 have:=(vC hs l l.length).1;unfold VM at this;rwa[List.take_length]at this
theorem IG{l:Up}{lo hi:Rat}(hl:l.length≤1000)(hp:∀p∈l,Pb p)(ql:Qb lo)(qh:Qb hi):Ul 282 [.one (.sh [.row (Pe l)]),.agg (rl lo),.agg (rl hi)] [.oi (Tq l lo hi)]:=by
 have b1:C6 l lo<=l.length:=Lt (λp=>Oz p lo) l;have b2:C6 l hi<=l.length:=Lt (λp=>Oz p hi) l;have c1:=Dk qh.s31 ql.s31;unfold Tq;by_cases h:Hk hi lo<0
 ·rw[if_pos h];exact Ui func282 rfl [.k c1,.t (by simpa using h)] rfl
 ·rw[if_neg h];exact Ui func282 rfl [.k c1,.f (by simpa using h),.k (lC hl hp ql),.k (lC hl hp qh)] rfl rfl (by simp[U3];omega)
def zTm:Ut:=[.nils,.bool false,.nils,.bool false,.nils,.bool false,.nils,.bool false,.nils]
theorem Qdj{a b:Tm}(ha:Tb a)(hb:Tb b):P7 a b<=17179938816+200000000:=by
 have l1:=ha.p.l;have l2:=hb.p.l;have b1:=ha.lo.1;have b2:=ha.hi.1;have b3:=hb.lo.1;have b4:=hb.hi.1;have s1:Hb a.p<=16777216:=by have:=Mi ha.p.b a.p.length;rwa[Q7]at this
 have s2:Hb b.p<=16777216:=by have:=Mi hb.p.b b.p.length;rwa[Q7]at this
 have:4*(a.p.length+b.p.length)*(Hb a.p+Hb b.p+(a.p.length+b.p.length)+8)<=512*33554568:=Zd (by omega) (by omega);unfold P7;omega
theorem Qp4{a b:Rat}(ha:Qb a)(hb:Qb b):Qs 2147483647 (EH a b):=by
 have h1:Fc (a.num*(b.den:Int))<=33554432:=Qc (Ga _ _) (by have:=ha.1;have:=hb.2;omega);have h2:Fc (b.num*(a.den:Int))<=33554432:=Qc (Ga _ _) (by have:=hb.1;have:=ha.2;omega);have h3:Fc ((a.den:Int)*(b.den:Int))<=33554432:=Qc (Ga _ _) (by have:=ha.2;have:=hb.2;omega);have h5:Fc (a.num*(b.den:Int)-b.num*(a.den:Int))<=33554433:=Qc (jA _ _) (by omega);exact(Qs.divInt (s:=33554433) h5 (by omega) (by omega)).mono (by omega)
theorem xB{a b:Tm}{r:Tm×Tm×Int}(ha:Tb a)(hb:Tb b)(h:AP (P7 a b) a b=some r):Ul 229 [.agg (ta a),.agg (ta b)] [.agg (ta r.1),.agg (ta r.2.1),.oi r.2.2]:=by
 have hsb:=Qdj ha hb;refine Fv func229 rfl ?_;refine Uf [.k (Qn0 ha hb)] rfl ?_;obtain⟨n,hn⟩:=nmE (P7 a b);rw[<-hn]at h hsb ⊢;refine sb [(10,.v (.oi 0)),(9,.v (.oi n)),(5,.v (.one (.ow 3 0))),(4,.v (.one (.ow 2 0))),(3,.v (.one (.ow 1 0))),(2,.v (.one (.ow 0 0)))] [.blk 105 (ta a),.blk 105 (ta b),.blk 105 zTm,.blk 105 zTm] rfl rfl ?_;refine Uk (S:=Nat×Tm×Tm) 4 (λL1 s=>(10,.v (.oi (s.1:Int)))::L1) (λs=>[.blk 105 (ta s.2.1),.blk 105 (ta s.2.2),.blk 105 zTm,.blk 105 zTm]) (λs=>n-s.1) (λs=>s.1<=n/\Tb s.2.1/\Tb s.2.2/\AP (n-s.1) s.2.1 s.2.2=some r) (0,a,b) ⟨Qh _,ha,hb,h⟩ rfl rfl λ⟨i,u,v⟩ ⟨j1,j2,j3,j4⟩=>?_
 dsimp only at j1 j2 j3 j4 ⊢;by_cases hi:i<n
 ·obtain⟨k,hk⟩:∃k,n-i=k+1:=⟨n-i-1,by omega⟩;have hk':n-(i+1)=k:=by omega
  rw[hk]at j4;have c1:=Dk j2.hi.s31 j3.lo.s31;have c2:=Dk j3.hi.s31 j2.lo.s31;have pu:=D8 j2;have pv:=D8 j3;have hlt:decide ((i:Int)<(n:Int))=true:=by simp;omega
  simp only[AP]at j4;refine Uf [.t hlt] rfl ?_;refine ct 3 (S:=Unit) (λ_=>[(10,.v (.oi i)),(9,.v (.oi n)),(5,.v (.one (.ow 3 0))),(4,.v (.one (.ow 2 0))),(3,.v (.one (.ow 1 0))),(2,.v (.one (.ow 0 0)))]) (λ_=>[.blk 105 (ta u),.blk 105 (ta v),.blk 105 zTm,.blk 105 zTm]) (λ_=>¬D7 u v=true/\¬D7 v u=true) rfl ?_ ?_
  ·have bA:D7 u v=(decide (Hk u.hi v.lo<=0) && !(u.point && v.point && decide (Hk u.hi v.lo=0))):=by
    unfold D7;cases u.point <;> cases v.point <;> simp
   have bB:D7 v u=(decide (Hk v.hi u.lo<=0) && !(u.point && v.point && decide (Hk v.hi u.lo=0))):=by
    unfold D7;cases u.point <;> cases v.point <;> simp
   obtain⟨a0,A'⟩:∃b,decide (Hk u.hi v.lo<=0)=b:=⟨_,rfl⟩;obtain⟨b0,B'⟩:∃b,decide (Hk v.hi u.lo<=0)=b:=⟨_,rfl⟩;obtain⟨p0,P'⟩:∃b,u.point=b:=⟨_,rfl⟩;obtain⟨q0,Q'⟩:∃b,v.point=b:=⟨_,rfl⟩;obtain⟨x0,X'⟩:∃b,decide (Hk u.hi v.lo=0)=b:=⟨_,rfl⟩;obtain⟨y0,Y'⟩:∃b,decide (Hk v.hi u.lo=0)=b:=⟨_,rfl⟩;rw[A',P',Q',X']at bA;rw[B',P',Q',Y']at bB;have r1:D7 u v=true->(u,v,-1)=r:=λh=>by rw[if_pos h]at j4;injection j4
   have r2:¬D7 u v=true->D7 v u=true->(u,v,1)=r:=λh h'=>by rw[if_neg h,if_pos h']at j4;injection j4
   clear j4;cases a0
   ·cases b0
    ·exact go tt [.k c1,.g 19 false A',.f rfl,.k c2,.g 45 false B',.f rfl] rfl trivial (rc () ⟨by rw[bA];simp,by rw[bB];simp⟩ rfl)
    ·cases p0
     ·obtain rfl:=r2 (by rw[bA];simp) (by rw[bB];rfl);exact Uh [.k c1,.g 19 false A',.f rfl,.k c2,.g 45 true B',.k pu,.g 48 false P',.g 52 false rfl,.t rfl] rfl
     ·cases q0
      ·obtain rfl:=r2 (by rw[bA];simp) (by rw[bB];rfl);exact Uh [.k c1,.g 19 false A',.f rfl,.k c2,.g 45 true B',.k pu,.g 48 true P',.k pv,.g 52 false Q',.t rfl] rfl
      ·cases y0
       ·obtain rfl:=r2 (by rw[bA];simp) (by rw[bB];rfl);exact Uh [.k c1,.g 19 false A',.f rfl,.k c2,.g 45 true B',.k pu,.g 48 true P',.k pv,.g 52 true Q',.k c2,.t (by simpa using Y')] rfl
       ·exact go tt [.k c1,.g 19 false A',.f rfl,.k c2,.g 45 true B',.k pu,.g 48 true P',.k pv,.g 52 true Q',.k c2,.f (by simpa using Y')] rfl trivial (rc () ⟨by rw[bA];simp,by rw[bB];simp⟩ rfl)
   ·cases p0
    ·obtain rfl:=r1 (by rw[bA];rfl);exact Uh [.k c1,.g 19 true A',.k pu,.g 22 false P',.g 26 false rfl,.t rfl] rfl
    ·cases q0
     ·obtain rfl:=r1 (by rw[bA];rfl);exact Uh [.k c1,.g 19 true A',.k pu,.g 22 true P',.k pv,.g 26 false Q',.t rfl] rfl
     ·cases x0
      ·obtain rfl:=r1 (by rw[bA];rfl);exact Uh [.k c1,.g 19 true A',.k pu,.g 22 true P',.k pv,.g 26 true Q',.k c1,.t (by simpa using X')] rfl
      ·cases b0
       ·exact go tt [.k c1,.g 19 true A',.k pu,.g 22 true P',.k pv,.g 26 true Q',.k c1,.f (by simpa using X'),.k c2,.g 45 false B',.f rfl] rfl trivial (rc () ⟨by rw[bA];simp,by rw[bB];simp⟩ rfl)
       ·cases y0
        ·obtain rfl:=r2 (by rw[bA];simp) (by rw[bB];rfl);exact Uh [.k c1,.g 19 true A',.k pu,.g 22 true P',.k pv,.g 26 true Q',.k c1,.f (by simpa using X'),.k c2,.g 45 true B',.k pu,.g 48 true P',.k pv,.g 52 true Q',.k c2,.t (by simpa using Y')] rfl
        ·exact go tt [.k c1,.g 19 true A',.k pu,.g 22 true P',.k pv,.g 26 true Q',.k c1,.f (by simpa using X'),.k c2,.g 45 true B',.k pu,.g 48 true P',.k pv,.g 52 true Q',.k c2,.f (by simpa using Y')] rfl trivial (rc () ⟨by rw[bA];simp,by rw[bB];simp⟩ rfl)
  ·rintro _ ⟨n1,n2⟩
   rw[if_neg n1,if_neg n2]at j4;have qr:∀{x y:Rat},Qb x->Qb y->Qs 2147483647 (EH x y):=λh1 h2=>Qp4 h1 h2
   have cc:=Dk (qr j2.hi j2.lo) (qr j3.hi j3.lo);by_cases D:0<=Hk (EH u.hi u.lo) (EH v.hi v.lo)
   ·rw[if_pos D]at j4;obtain⟨x,x1,x2⟩:=Qd.1 j4;refine Ug [.k (xO j2.hi j2.lo),.k (xO j3.hi j3.lo),.k cc,.t (by simpa using D),.k (mJ j2 x1)] rfl ?_;exact rd (i+1,x,v) (by dsimp only;omega) ⟨hi,vP j2 x1,j3,by dsimp only;rw[hk'];exact x2⟩ rfl
   ·rw[if_neg D]at j4;obtain⟨x,x1,x2⟩:=Qd.1 j4;refine Ug [.k (xO j2.hi j2.lo),.k (xO j3.hi j3.lo),.k cc,.f (by simpa using D),.k (mJ j3 x1)] rfl ?_;exact rd (i+1,u,x) (by dsimp only;omega) ⟨hi,j2,vP j3 x1,by dsimp only;rw[hk'];exact x2⟩ rfl
 ·obtain rfl:i=n:=by omega
  rw[Ki]at j4;simp only[AP]at j4;injection j4 with j4;subst j4;exact Uh [.f (by simp)] rfl
theorem Qnz{a b:Rat}(ha:Qb a)(hb:Qb b):Ul 69 [.agg (rl a),.one (.row [rl b])] [.agg (rl (if 0<Hk b a then b else a))]:=by
 have ca:=MY (U4 a.num) (U4 (a.den:Int)) ha.s32.1 ha.s32.2;have cb:=MY (U4 b.num) (U4 (b.den:Int)) hb.s32.1 hb.s32.2;rw[Sw]at ca cb;have cc:=Dk hb.s31 ha.s31;refine Fv func69 rfl ?_;refine Uf [.k ca] rfl ?_;refine Uk (S:=Nat) 3 (λL1 i=>(12,.v (.oi i))::L1) (λi=>[.blk 42 (rl a),.blk 42 [.bool false,.nils,.bool false,.nils],.blk 42 (rl (if i=0 then a else if 0<Hk b a then b else a))]) (λi=>1-i) (λi=>i<=1) 0 (Qh _) rfl rfl λi hi=>?_
 rcases(show i=0\/i=1 by omega)with rfl|rfl
 ·by_cases h:0<Hk b a
  ·refine Uf [.t rfl,.x (i:=0) (xs:=rl b) rfl,.k cc,.t (by simpa using h),.k cb] rfl ?_ (by simp[U3]);exact rd 1 (by omega) (by omega) (by rw[if_pos h];rfl)
  ·refine Uf [.t rfl,.x (i:=0) (xs:=rl b) rfl,.k cc,.f (by simpa using h)] rfl ?_ (by simp[U3]);exact rd 1 (by omega) (by omega) (by rw[if_neg h];rfl)
 ·exact Uh [.f rfl] rfl
theorem KY{a b:Tm}{c:Int}(ha:Tb a)(hb:Tb b)(h:UF a b=some c):Ul 162 [.agg (ta a),.agg (ta b)] [.oi c]:=by
 have ca:=MV ha;have cb:=MV hb;have pa:=D8 ha;have pb:=D8 hb;unfold UF at h;by_cases h1:a.point=true
 ·rw[if_pos h1]at h;injection h with h;subst h;have:=Qn6 b a.lo;exact Ui func162 rfl [.k ca,.k cb,.k pa,.t h1,.k (Dh hb ha.lo)] rfl rfl (by simp[U3];omega)
 rw[if_neg h1]at h;have h1:a.point=false:=by simpa using h1
 by_cases h2:b.point=true
 ·rw[if_pos h2]at h;injection h with h;subst h;exact Ui func162 rfl [.k ca,.k cb,.k pa,.f h1,.k pb,.t h2,.k (Dh ha hb.lo)] rfl
 rw[if_neg h2]at h;have h2:b.point=false:=by simpa using h2
 obtain⟨lo,hlo⟩:=nmE (if 0<Hk b.lo a.lo then b.lo else a.lo);obtain⟨hi,hhi⟩:=nmE (if Hk b.hi a.hi<0 then b.hi else a.hi);have h:(if Hk lo hi<0 then(yE a.p b.p).bind λg=>if 1<g.length/\UI g lo hi=true then some 0 else(AP (P7 a b) a b).bind λr=>some r.2.2 else(AP (P7 a b) a b).bind λr=>some r.2.2)=some c:=by rw[hlo,hhi];exact h
 have qlo:Qb lo:=by rw[hlo];split;exact hb.lo;exact ha.lo
 have qhi:Qb hi:=by rw[hhi];split;exact hb.hi;exact ha.hi
 have cm:=Qnz ha.lo hb.lo;rw[<-hlo]at cm;have cc1:=Dk hb.hi.s31 ha.hi.s31;have cc2:=Dk qlo.s31 qhi.s31;refine Fv func162 rfl ?_;refine Uf [.k ca,.k cb,.k pa,.f h1,.k pb,.f h2,.k cm] rfl ?_;refine ct 2 (S:=Unit) (λ_=>[(6,.v (.one (.ow 3 0))),(5,.v (.one (.ow 2 0))),(4,.v (.oi 0)),(3,.v (.one (.ow 1 0))),(2,.v (.one (.ow 0 0)))]) (λ_=>[.blk 105 (ta a),.blk 105 (ta b),.blk 42 (rl lo),.blk 42 (rl hi)]) (λ_=>True) rfl ?_ ?_
 ·by_cases D:Hk b.hi a.hi<0
  ·rw[if_pos D]at hhi;subst hhi;exact go tt [.k cc1,.t (by simpa using D)] rfl trivial (rc () trivial rfl)
  ·rw[if_neg D]at hhi;subst hhi;exact go tt [.k cc1,.f (by simpa using D)] rfl trivial (rc () trivial rfl)
 ·rintro _ _
  by_cases D:Hk lo hi<0
  ·rw[if_pos D]at h;obtain⟨g,g1,h⟩:=Qd.1 h;have cg:=Qe6 ha.p hb.p g1;have pg:=Qjm ha.p hb.p g1;have ch:=Qfz pg qlo qhi;by_cases G:1<g.length
   ·by_cases R:UI g lo hi=true
    ·rw[if_pos ⟨G,R⟩]at h;injection h with h;subst h;exact Uh [.k cc2,.t (by simpa using D),.k cg,.k (P9 g),.g 58 true (by simp;omega),.k ch,.t R] rfl
    ·rw[if_neg λh=>R h.2]at h;obtain⟨r,r1,h⟩:=Qd.1 h;injection h with h;subst h;exact Uh [.k cc2,.t (by simpa using D),.k cg,.k (P9 g),.g 58 true (by simp;omega),.k ch,.f (by simpa using R),.k (xB ha hb r1)] rfl
   ·rw[if_neg λh=>G h.1]at h;obtain⟨r,r1,h⟩:=Qd.1 h;injection h with h;subst h;exact Uh [.k cc2,.t (by simpa using D),.k cg,.k (P9 g),.g 58 false (by simp;omega),.f rfl,.k (xB ha hb r1)] rfl
  ·rw[if_neg D]at h;obtain⟨r,r1,h⟩:=Qd.1 h;injection h with h;subst h;exact Uh [.k cc2,.f (by simpa using D),.k (xB ha hb r1)] rfl
theorem Qmq{p:Uo}{a:Tm}{s:Int}(hp:Pb p)(ha:Tb a)(h:GW p a=some s):Ul 241 [pr p,.agg (ta a)] [.oi s]:=by
 have ca:=MV ha;have pa:=D8 ha;have cn:=Hr hp.t hp.ln hp.bd;unfold GW at h;by_cases h0:p.length=0
 ·rw[if_pos h0]at h;injection h with h;subst h;exact Ui func241 rfl [.k cn,.k ca,.t (by simp;exact Qj h0)] rfl
 rw[if_neg h0]at h;have h0:p≠[]:=λe=>h0 (by rw[e];rfl)
 by_cases h1:a.point=true
 ·rw[if_pos h1]at h;injection h with h;subst h;exact Ui func241 rfl [.k cn,.k ca,.f (by simpa using h0),.k pa,.t h1,.k (PG hp ha.lo)] rfl
 rw[if_neg h1]at h;have h1:a.point=false:=by simpa using h1
 obtain⟨g,g1,h⟩:=Qd.1 h;have cg:=Qe6 hp ha.p g1;have pg:=Qjm hp ha.p g1;have ch:=Qfz pg ha.lo ha.hi;by_cases G:1<g.length/\UI g a.lo a.hi=true
 ·rw[if_pos G]at h;injection h with h;subst h;exact Ui func241 rfl [.k cn,.k ca,.f (by simpa using h0),.k pa,.f h1,.k cg,.k (P9 g),.g 29 true (by simp;omega),.k ch,.t G.2] rfl
 rw[if_neg G]at h;obtain⟨c,c1,h⟩:=Qd.1 h;obtain⟨u,u1,h⟩:=Qd.1 h;injection h with h;subst h;obtain⟨cl,call⟩:=chain_ok hp c1;obtain⟨n,hn⟩:=nmE (64+2*(Fc a.lo.num+Fc a.hi.num)+4*(a.p.length+p.length)*(Hb a.p+Hb p+(a.p.length+p.length)+8));have cst:=Qgg ha hp;rw[show dY p a=n from hn.symm]at cst;rw[<-hn]at u1;have hnb:n<=17179938816+200000000:=by
  have l1:=ha.p.l;have l2:=hp.l;have b1:=ha.lo.1;have b2:=ha.hi.1;have s1:Hb a.p<=16777216:=by have:=Mi ha.p.b a.p.length;rwa[Q7]at this
  have s2:Hb p<=16777216:=by have:=Mi hp.b p.length;rwa[Q7]at this
  have:4*(a.p.length+p.length)*(Hb a.p+Hb p+(a.p.length+p.length)+8)<=512*33554568:=Zd (by omega) (by omega);omega
 refine Fv func241 rfl ?_;refine Uf [.k cn,.k ca,.f (by simpa using h0),.k pa,.f h1,.k cg] rfl ?_;refine ct 2 (S:=Unit) (λ_=>[(3,.v (.one (.ow 0 0))),(0,.v (pr p))]) (λ_=>[.blk 105 (ta a)]) (λ_=>True) rfl ?_ ?_
 ·by_cases G1:1<g.length
  ·exact go tt [.k (P9 g),.g 29 true (by simp;omega),.k ch,.f (by simpa using λh=>G ⟨G1,h⟩)] rfl trivial (rc () trivial rfl)
  ·exact go tt [.k (P9 g),.g 29 false (by simp;omega),.f rfl] rfl trivial (rc () trivial rfl)
 rintro _ _
 refine Uf [.k (Qfj hp c1),.k cst] rfl ?_;refine Uk (S:=Nat×Tm) 1 (λL1 s=>(46,.v (.oi (s.1:Int)))::L1) (λs=>[.blk 105 (ta s.2)]) (λs=>n-s.1) (λs=>s.1<=n/\Tb s.2/\sgF c (n-s.1) s.2=some u) (0,a) ⟨Qh _,ha,u1⟩ rfl rfl λ⟨i,x⟩ ⟨j1,j2,j3⟩=>?_
 dsimp only at j1 j2 j3 ⊢;by_cases hi:i<n
 ·obtain⟨k,hk⟩:∃k,n-i=k+1:=⟨n-i-1,by omega⟩;have hk':n-(i+1)=k:=by omega
  rw[hk]at j3;simp only[sgF]at j3;have px:=D8 j2;have cb:=IG (by omega) call j2.lo j2.hi;have hlt:decide ((i:Int)<(n:Int))=true:=by simp;omega
  by_cases X:x.point=true
  ·rw[if_pos (.inl X)]at j3;injection j3 with j3;subst j3;exact Uh [.t hlt,.k px,.g 50 true X,.t rfl,.k (PG hp j2.hi)] rfl
  ·have X':x.point=false:=by simpa using X
   by_cases Z:Tq c x.lo x.hi=0
   ·rw[if_pos (.inr Z)]at j3;injection j3 with j3;subst j3;exact Uh [.t hlt,.k px,.g 50 false X',.k cb,.t (by simpa using Z),.k (PG hp j2.hi)] rfl
   ·rw[if_neg (by rintro (h|h);exact X h;exact Z h)]at j3;obtain⟨v,v1,v2⟩:=Qd.1 j3;refine Ug [.t hlt,.k px,.g 50 false X',.k cb,.f (by simpa using Z),.k (mJ j2 v1)] rfl ?_;exact rd (i+1,v) (by dsimp only;omega) ⟨hi,vP j2 v1,by dsimp only;rw[hk'];exact v2⟩ rfl
 ·obtain rfl:i=n:=by omega
  rw[Ki]at j3;simp only[sgF]at j3;injection j3 with j3;subst j3;exact Uh [.f (by simp),.k (PG hp j2.hi)] rfl
abbrev tas(l:List Tm):LV:=.row (l.map λt=>ta t)
theorem NH{l:List Tm}{i:Nat}{t:Tm}(h:l[i]? = some t):(l.map λt=>ta t)[i]? = some (ta t):=Gx h
def zTr:Ut:=[.row [],.bool false,.row [],.bool false,.row [],.bool false,.row [],.bool false,.row []]
theorem wV:Ul 96 [.one (.row [])] [.agg zTr,.one (.bool false)]:=Ui func96 rfl [.t rfl] rfl
theorem S8{b:Tm}{l:List Tm}{m:Tm}(hb:Tb b)(hl:∀t∈l,Tb t)(hn:l.length≤1000000)(h:QD b l=some m):Ul 96 [.one (tas (b::l))] [.agg (ta m),.one (.bool true)]:=by
 refine Fv func96 rfl ?_;refine go tt [.f (by simp;omega),.x (i:=0) (xs:=ta b) rfl,.i 1] rfl (by simp[U3];exact⟨rfl,λ_ _=>rfl⟩) ?_;refine Uk (S:=Nat×Tm) 2 (λL1 s=>(17,.v (.oi (s.1:Int)))::L1) (λs=>[.blk 105 zTm,.blk 105 (ta s.2)]) (λs=>l.length-s.1) (λs=>s.1<=l.length/\Tb s.2/\QD s.2 (l.drop s.1)=some m) (0,b) ⟨Qh _,hb,h⟩ rfl rfl λ⟨i,x⟩ ⟨j1,j2,j3⟩=>?_
 dsimp only at j1 j2 j3 ⊢;by_cases hi:i<l.length
 ·obtain⟨a,ha⟩:=gxE (l:=l) (i:=i) hi;have hdr:l.drop i=a::l.drop (i+1):=by
   rw[Zp hi];congr 1;have:=Qf hi;rw[ha]at this;injection this with this;exact this.symm
  rw[hdr]at j3;simp only[QD]at j3;obtain⟨c,c1,j3⟩:=Qd.1 j3;have ta':=hl a (Qa ha);by_cases hc:c<0
  ·rw[if_pos hc]at j3;refine Ug [.t (by simp;omega),.x (NH ha),.k (KY ta' j2 c1),.t (by simpa using hc)] rfl ?_;exact rd (i+1,a) (by dsimp only;omega) ⟨hi,ta',j3⟩ rfl
  ·rw[if_neg hc]at j3;refine Ug [.t (by simp;omega),.x (NH ha),.k (KY ta' j2 c1),.f (by simpa using hc)] rfl ?_;exact rd (i+1,x) (by dsimp only;omega) ⟨hi,j2,j3⟩ rfl
 ·obtain rfl:i=l.length:=by omega
  rw[Yu]at j3;simp only[QD]at j3;injection j3 with j3;subst j3;exact Uh [.f (by simp),.k (Qgj j2)] rfl
end Orr
namespace Orq
def Fi(x:Rat):Rat:=if x<0 then -x else x
theorem Hw(x:Rat):0<=Fi x:=by unfold Fi;split <;> grind
theorem Mj{x b:Rat}:Fi x<=b↔-b<=x/\x<=b:=by unfold Fi;split <;> constructor <;> grind
theorem vJ{x b:Rat}:Fi x<b↔-b<x/\x<b:=by unfold Fi;split <;> constructor <;> grind
theorem Su(x y:Rat):Fi (x+y)<=Fi x+Fi y:=by unfold Fi;split <;> split <;> split <;> grind
theorem oO(x y:Rat):Fi (x-y)=Fi (y-x):=by unfold Fi;split <;> split <;> grind
theorem Er(x:Rat):Fi (-x)=Fi x:=by unfold Fi;split <;> split <;> grind
theorem Rl:Fi 0=0:=by decide
theorem Cw{x:Rat}(h:x≠0):0<Fi x:=by unfold Fi;split <;> grind
theorem Qp2{x:Rat}(h:Fi x=0):x=0:=by unfold Fi at h;split at h <;> grind
theorem Bl{x y:Rat}(h1:0<=x)(h2:0<=y):0<=x*y:=Vy h1 h2
theorem Ix{x y:Rat}(h1:0<x)(h2:0<y):0<x*y:=Xu h1 h2
theorem Cn{a b c d:Rat}(h0:0<=a)(h1:a<=b)(h2:0<=c)(h3:c<=d):a*c<=b*d:=by
 have e1:=Zf h1 h2;have e2:=Z0 h3 (Zl h0 h1);exact Zl e1 e2
theorem Il(x y:Rat):Fi (x*y)=Fi x*Fi y:=by
 unfold Fi;by_cases h1:x<0 <;> by_cases h2:y<0
 ·have:=Ix (x:=-x) (y:=-y) (by grind) (by grind);simp only[h1,h2,if_true];split <;> grind
 ·have:=Bl (x:=-x) (y:=y) (by grind) (by grind);simp only[h1,h2,if_true,if_false];split <;> grind
 ·have:=Bl (x:=x) (y:=-y) (by grind) (by grind);simp only[h1,h2,if_true,if_false];split <;> grind
 ·have:=Bl (x:=x) (y:=y) (by grind) (by grind);simp only[h1,h2,if_false];split <;> grind
theorem He{x y a b:Rat}(h1:Fi x<=a)(h2:Fi y<=b):Fi (x*y)<=a*b:=by
 rw[Il];exact Cn (Hw x) h1 (Hw y) h2
theorem Af{x y:Rat}(h1:0<x)(h2:0<y):0<x / y:=by rw[J9];exact Ix h1 (Rat.inv_pos.2 h2)
theorem Hf{x y:Rat}(h2:0<y):x / y*y=x:=Zj (by grind)
theorem Hj{b d:Rat}(hb:0<=b)(hd:0<d):∃e:Rat,0<e/\e<=1/\e*b<d:=by
 have h1:0<d / (b+1):=Af hd (by grind);have h2:d / (b+1)*(b+1)=d:=Hf (by grind);rcases Vx (a:=d / (b+1)) (b:=1)with h|h
 ·exact⟨d / (b+1),h1,h,by
   have:d / (b+1)*(b+1)=d / (b+1)*b+d / (b+1):=by grind
   grind⟩
 ·refine⟨1,by decide,by decide,?_⟩;have:1*(b+1)<=d / (b+1)*(b+1):=Zf h (by grind);grind
def ev:Ur->Rat->Rat
 | [],_=>0
 |a::p,t=>a+t*ev p t
def dv:Ur->Rat->Rat
 | [],_=>0
 |_::p,t=>ev p t+t*dv p t
def dq:Ur->Rat->Rat->Rat
 | [],_,_=>0
 |_::p,x,y=>ev p x+y*dq p x y
def dd:Ur->Rat->Rat->Rat
 | [],_,_=>0
 |_::p,x,y=>dq p x y+y*dd p x y
theorem OV(x y:Rat):∀p,ev p x-ev p y=(x-y)*dq p x y
 | []=>by simp only[ev,dq];grind
 |a::p=>by have:=OV x y p;simp only[ev,dq];grind
theorem jY(y:Rat):∀p,dq p y y=dv p y
 | []=>rfl
 |a::p=>by simp only[dq,dv,jY y p]
theorem Qr4(x y:Rat):∀p,dq p x y-dv p y=(x-y)*dd p x y
 | []=>by simp only[dv,dq,dd];grind
 |
  a::p=>by
  have h1:=Qr4 x y p;have h2:=OV x y p;simp only[dv,dq,dd];grind
theorem Qr7(p:Ur)(x y:Rat):ev p x-ev p y=(x-y)*dv p y+(x-y)*(x-y)*dd p x y:=by
 have h1:=OV x y p;have h2:=Qr4 x y p;grind
def uD(R:Rat):Ur->Rat
 | []=>0
 |a::p=>Fi a+R*uD R p
def AD(R:Rat):Ur->Rat
 | []=>0
 |_::p=>uD R p+R*AD R p
def ddB(R:Rat):Ur->Rat
 | []=>0
 |_::p=>AD R p+R*ddB R p
theorem XY{R:Rat}(hR:0<=R):∀p,0<=uD R p
 | []=>by simp only[uD];grind
 |a::p=>by have:=Bl hR (XY hR p);have:=Hw a;simp only[uD];grind
theorem M7{R:Rat}(hR:0<=R):∀p,0<=AD R p
 | []=>by simp only[AD];grind
 |a::p=>by have:=Bl hR (M7 hR p);have:=XY hR p;simp only[AD];grind
theorem CJ{R:Rat}(hR:0<=R):∀p,0<=ddB R p
 | []=>by simp only[ddB];grind
 |a::p=>by have:=Bl hR (CJ hR p);have:=M7 hR p;simp only[ddB];grind
theorem SZ{R x:Rat}(hx:Fi x<=R):∀p,Fi (ev p x)<=uD R p
 | []=>by simp only[ev,uD,Rl];grind
 |
  a::p=>by
  have h1:=Su a (x*ev p x);have h2:=He hx (SZ hx p);simp only[ev,uD];grind
theorem uH{R x y:Rat}(hx:Fi x<=R)(hy:Fi y<=R):∀p,Fi (dq p x y)<=AD R p
 | []=>by simp only[dq,AD,Rl];grind
 |
  a::p=>by
  have h1:=Su (ev p x) (y*dq p x y);have h2:=He hy (uH hx hy p);have h3:=SZ hx p;simp only[dq,AD];grind
theorem Qg2{R x y:Rat}(hx:Fi x<=R)(hy:Fi y<=R):∀p,Fi (dd p x y)<=ddB R p
 | []=>by simp only[dd,ddB,Rl];grind
 |
  a::p=>by
  have h1:=Su (dq p x y) (y*dd p x y);have h2:=He hy (Qg2 hx hy p);have h3:=uH hx hy p;simp only[dd,ddB];grind
theorem Quz{R x y:Rat}(hx:Fi x<=R)(hy:Fi y<=R)(p:Ur):Fi (ev p x-ev p y)<=Fi (x-y)*AD R p:=by
 rw[OV,Il];exact Cn (Hw _) Qq (Hw _) (uH hx hy p)
def Sv:Ur->Ur->Ur
 | [],q=>q
 |a::p,[]=>a::p
 |a::p,b::q=>(a+b)::Sv p q
def D5(c:Rat)(p:Ur):Ur:=p.map (c * ·)
def G8:Ur->Ur->Ur
 | [],_=>[]
 |a::p,q=>Sv (D5 a q) (0::G8 p q)
def Bn:Ur->Ur
 | []=>[]
 |_::p=>Sv p (0::Bn p)
theorem G5(t:Rat):∀p q,ev (Sv p q) t=ev p t+ev q t
 | [],q=>by simp only[Sv,ev];grind
 |a::p,[]=>by simp only[Sv,ev];grind
 |a::p,b::q=>by have:=G5 t p q;simp only[Sv,ev];grind
theorem Gt(c t:Rat):∀p,ev (D5 c p) t=c*ev p t
 | []=>by simp only[D5,X7,ev];grind
 |a::p=>by have:=Gt c t p;simp only[D5,Zz,ev]at *;grind
theorem Fg(t:Rat):∀p q,ev (G8 p q) t=ev p t*ev q t
 | [],q=>by simp only[G8,ev];grind
 |a::p,q=>by have:=Fg t p q;simp only[G8,G5,Gt,ev];grind
theorem Tr(t:Rat):∀p,ev (Bn p) t=dv p t
 | []=>rfl
 |a::p=>by have:=Tr t p;simp only[Bn,G5,ev,dv];grind
theorem jK(t:Rat):∀p q,dv (Sv p q) t=dv p t+dv q t
 | [],q=>by simp only[Sv,dv];grind
 |a::p,[]=>by simp only[Sv,dv];grind
 |a::p,b::q=>by have:=jK t p q;have:=G5 t p q;simp only[Sv,dv];grind
theorem HE(c t:Rat):∀p,dv (D5 c p) t=c*dv p t
 | []=>by simp only[D5,X7,dv];grind
 |a::p=>by have:=HE c t p;have:=Gt c t p;simp only[D5,Zz,dv]at *;grind
theorem jW(t:Rat):∀p q,dv (G8 p q) t=dv p t*ev q t+ev p t*dv q t
 | [],q=>by simp only[G8,dv,ev];grind
 |a::p,q=>by have:=jW t p q;have:=Fg t p q;simp only[G8,jK,HE,dv,ev];grind
theorem aH:∀{p:Ur},(∀x∈p,x=0)->∀t,ev p t=0
 | [],_,t=>rfl
 |
  a::p,h,t=>by
  have h1:=aH (p:=p) (λx hx=>h x (Qg _ hx)) t;have h2:=h a (Qy ..);simp only[ev,h1,h2];grind
theorem aV:∀{p:Ur},(∀x∈p,x=0)->∀t,dv p t=0
 | [],_,t=>rfl
 |
  a::p,h,t=>by
  have h0:=λx hx=>h x (Qg _ hx)
  have h1:=aH (p:=p) h0 t;have h2:=aV (p:=p) h0 t;simp only[dv,h1,h2];grind
theorem WL:∀{p:Ur},(∀t,0<t->t<1->ev p t=0)->∀x∈p,x=0
 | [],_=>λx hx=>by cases hx
 |
  a::p,h=>by
  have ha:a=0:=by
   rcases Classical.em (a=0)with h0|h0
   ·exact h0
   ·obtain⟨e,e1,e2,e3⟩:=Hj (XY (R:=1) (by decide) p) (Cw h0);obtain⟨f,f1,f2,f3⟩:=Hj (b:=1) (d:=e) (by decide) e1;have h1:=h f f1 (by grind);have h2:=SZ (R:=1) (x:=f) (by unfold Fi;split <;> grind) p;have h3:=Il f (ev p f);have h4:Fi f=f:=by unfold Fi;split <;> grind
    have h5:a=-(f*ev p f):=by simp only[ev]at h1;grind
    have h6:Fi a=f*Fi (ev p f):=by rw[h5,Er,h3,h4]
    have h7:f*Fi (ev p f)<=e*uD 1 p:=Cn (Qt f1) (by grind) (Hw _) h2;grind
  intro x hx;rcases Ql.1 hx with rfl|hx
  ·exact ha
  ·refine WL (p:=p) (λt h1 h2=>?_) x hx;have:=h t h1 h2;simp only[ev,ha]at this;have h3:t*ev p t=0:=by grind
   rcases Y4.1 h3 with h4|h4
   ·grind
   ·exact h4
theorem Qha{p q:Ur}(h:∀t,ev p t=ev q t)(t:Rat):dv p t=dv q t:=by
 have h1:=aV (p:=Sv p (D5 (-1) q)) (WL λt _ _=>by rw[G5,Gt,h t];grind) t;rw[jK,HE]at h1;grind
def Ff(x:Rat):Int:=if x<0 then -1 else if 0<x then 1 else 0
theorem Gs{x:Rat}:Ff x=0↔x=0:=by
 unfold Ff;constructor
 ·intro h;split at h <;> (try split at h) <;> grind
 ·intro h;subst h;rfl
theorem Hy{x:Rat}:Ff x=1↔0<x:=by
 unfold Ff;constructor
 ·intro h;split at h <;> (try split at h) <;> grind
 ·intro h;rw[if_neg (by grind),if_pos h]
theorem Pf{x:Rat}:Ff x=-1↔x<0:=by
 unfold Ff;constructor
 ·intro h;split at h <;> (try split at h) <;> grind
 ·intro h;rw[if_pos h]
theorem Fz(x:Rat):Ff x=-1/\x<0\/Ff x=0/\x=0\/Ff x=1/\0<x:=by
 rcases Vx (a:=x) (b:=0)with h|h
 ·rcases Classical.em (x=0)with h0|h0
  ·exact .inr (.inl ⟨Gs.2 h0,h0⟩)
  ·exact .inl ⟨Pf.2 (by grind),by grind⟩
 ·rcases Classical.em (x=0)with h0|h0
  ·exact .inr (.inl ⟨Gs.2 h0,h0⟩)
  ·exact .inr (.inr ⟨Hy.2 (by grind),by grind⟩)
theorem Sx(x y:Rat):Ff (x*y)=Ff x*Ff y:=by
 rcases Fz x with⟨e1,h1⟩|⟨e1,h1⟩|⟨e1,h1⟩ <;> rcases Fz y with⟨e2,h2⟩|⟨e2,h2⟩|⟨e2,h2⟩ <;> rw[e1,e2]
 ·have:=Ix (x:=-x) (y:=-y) (by grind) (by grind);exact Hy.2 (by grind)
 ·subst h2;exact Gs.2 (by grind)
 ·have:=Ix (x:=-x) (y:=y) (by grind) (by grind);exact Pf.2 (by grind)
 ·subst h1;exact Gs.2 (by grind)
 ·subst h1;exact Gs.2 (by grind)
 ·subst h1;exact Gs.2 (by grind)
 ·have:=Ix (x:=x) (y:=-y) (by grind) (by grind);exact Pf.2 (by grind)
 ·subst h2;exact Gs.2 (by grind)
 ·exact Hy.2 (Ix h1 h2)
theorem Pz{a b d:Rat}(h1:d<=Fi a)(h2:Fi (b-a)<d):Ff b=Ff a/\Ff a≠0:=by
 rw[vJ]at h2;rcases Fz a with⟨e,h⟩|⟨e,h⟩|⟨e,h⟩
 ·rw[e,Pf];unfold Fi at h1;rw[if_pos h]at h1;exact⟨by grind,by decide⟩
 ·subst h;rw[Rl]at h1;grind
 ·rw[e,Hy];unfold Fi at h1;rw[if_neg (by grind)]at h1;exact⟨by grind,by decide⟩
def tc(x:Rat):Int->Us->Nat
 |_,[]=>0
 |s,p::l=>if Ff (ev p x)=0 then tc x s l else(if s=-(Ff (ev p x))then 1 else 0)+tc x (Ff (ev p x)) l
inductive SCl:List Rat->List Rat->List (List Rat)->Prop
 |base {f g:List Rat} {c:Rat} (hc:c≠0) (hg:∀t,ev g t=c):SCl f g []
 |step {f g h:List Rat} {l:List (List Rat)} {a b:Rat} {q:List Rat} (ha:0<a) (hb:0<b) (he:∀t,a*ev f t=ev q t*ev g t-b*ev h t) (hl:SCl g h l):SCl f g (h::l)
theorem Qld{x:Rat}{s:Int}{g h:Ur}{l:Us}(hh:Ff (ev h x)=-s)(hs:s≠0):tc x s (g::h::l)=1+tc x (-s) l:=by
 have h3:Ff (ev h x)≠0:=by omega
 have hv:s=1\/s=-1:=by rcases Fz (ev h x)with⟨e,_⟩|⟨e,_⟩|⟨e,_⟩ <;> omega
 simp only[tc,if_neg h3,hh];rcases Fz (ev g x)with⟨e,_⟩|⟨e,_⟩|⟨e,_⟩ <;> rw[e] <;> rcases hv with rfl|rfl <;> simp
theorem GH{x:Rat}{s:Int}{p:Ur}{l:Us}(h:Ff (ev p x)≠0):tc x s (p::l)=(if s=-(Ff (ev p x))then 1 else 0)+tc x (Ff (ev p x)) l:=by rw[tc,if_neg h]
theorem Me{R x y e d:Rat}{p:Ur}(hx:Fi x<=R)(hy:Fi y<=R)(hR:0<=R)(h:Fi (y-x)<=e)(hd:e*AD R p<d):Fi (ev p y-ev p x)<d:=by
 have h1:=Quz hy hx p;have h2:=Zf h (M7 hR p);grind
theorem qK{a x y:Rat}(ha:0<a)(h:a*x<a*y):x<y:=by
 rcases Vx (a:=y) (b:=x)with h'|h'
 ·have:=Z0 h' (Qt ha);grind
 ·rcases Classical.em (x=y)with e|e
  ·subst e;grind
  ·grind
theorem Qwh{a b d d' B f g h q:Rat}(ha:0<a)(hb:0<b)(dp:0<d)(h7:B*d+a*d<b*d')(hq:Fi q<=B)(hg:Fi g<d)(hh:d'<=Fi h)(he:a*f=q*g-b*h)(hd':0<d'):Ff h=-Ff f/\d<=Fi f:=by
 have h4:=He hq (Qt hg);rw[Mj]at h4;have had:=Ix ha dp;have h8:=Z0 hh (Qt hb);rcases Fz h with⟨s,p⟩|⟨s,p⟩|⟨s,p⟩
 ·have:Fi h=-h:=by unfold Fi;rw[if_pos p]
  rw[this]at h8;have h10:d<f:=qK ha (by grind);rw[s,Hy.2 (show 0<f by grind)];exact⟨rfl,by unfold Fi;split <;> grind⟩
 ·rw[p,Rl]at hh;grind
 ·have:Fi h=h:=by unfold Fi;rw[if_neg (by grind)]
  rw[this]at h8;have h10:f < -d:=qK ha (by grind);rw[s,Pf.2 (show f<0 by grind)];exact⟨rfl,by unfold Fi;split <;> grind⟩
theorem min2{a b:Rat}(ha:0<a)(hb:0<b):∃e:Rat,0<e/\e<=a/\e<=b:=by
 rcases Vx (a:=a) (b:=b)with h|h
 ·exact⟨a,ha,Qq,h⟩
 ·exact⟨b,hb,h,Qq⟩
theorem Gg(a b:Rat):a<=b\/b<a:=by
 rcases Vx (a:=a) (b:=b)with h|h
 ·exact .inl h
 ·rcases Classical.em (a=b)with e|e
  ·exact .inl (by grind)
  ·exact .inr (by grind)
theorem Qvk{R:Rat}(hR:0<=R){f g:Ur}{l:Us}(hc:SCl f g l):∃d e:Rat,0<d/\0<e/\∀x y,Fi x<=R->Fi y<=R->Fi (y-x)<=e ->
 (d<=Fi (ev f x)\/d<=Fi (ev g x))/\(d<=Fi (ev f x)->Ff (ev f y)=Ff (ev f x)/\Ff (ev f x)≠0)/\(d<=Fi (ev g x)->Ff (ev g y)=Ff (ev g x)/\Ff (ev g x)≠0) /\
 (Ff (ev f y)=Ff (ev f x)->Ff (ev f x)≠0->tc x (Ff (ev f x)) (g::l)=tc y (Ff (ev f x)) (g::l)) /\
 (Ff (ev g y)=Ff (ev g x)->Ff (ev g x)≠0->tc x (Ff (ev g x)) l=tc y (Ff (ev g x)) l):=by
 induction hc with
 |
  @base f g c hc hg =>
  have hd:=Cw hc;obtain⟨e,e1,e2,e3⟩:=Hj (M7 hR f) hd;refine⟨Fi c,e,hd,e1,λx y hx hy hxy=>⟨.inr (by rw[hg];exact Qq),λh=>Pz h (Me hx hy hR hxy e3),λh=>?_,λ_ _=>?_,λ_ _=>rfl⟩⟩
  ·rw[hg,hg];exact⟨rfl,λh=>hc (Gs.1 h)⟩
  ·simp only[tc,hg]
 |
  @step f g h l a b q ha hb he hl ih =>
  obtain⟨d',e',hd',he',ih⟩:=ih;obtain⟨d1,d1p,_,d1b⟩:=Hj (b:=uD R q+a) (d:=b*d') (by have:=XY hR q;grind) (Ix hb hd');obtain⟨d,dp,hd1,hdd⟩:=min2 d1p hd';obtain⟨ef,ef1,_,ef3⟩:=Hj (M7 hR f) dp;obtain⟨eg,eg1,_,eg3⟩:=Hj (M7 hR g) dp;obtain⟨e0,e0p,h1,h2⟩:=min2 ef1 eg1;obtain⟨e,ep,h0,h3⟩:=min2 e0p he';have h1:=Zl h0 h1;have h2:=Zl h0 h2;refine⟨d,e,dp,ep,λx y hx hy hxy=>?_⟩;obtain⟨i1,i2,i3,i4,i5⟩:=ih x y hx hy (Zl hxy h3);have hsm:Fi (ev g x)<d->d'<=Fi (ev h x)/\Ff (ev h x)=-Ff (ev f x)/\d<=Fi (ev f x):=λhg=>by
   have hh:d'<=Fi (ev h x):=by
    rcases i1 with i|i
    ·exact absurd (Zl hdd i) (Js.2 hg)
    ·exact i
   have h6:d*(uD R q+a)<=d1*(uD R q+a):=Zf hd1 (by have:=XY hR q;clear ih i1 i2 i3 i4 i5 he;grind);have h7:uD R q*d+a*d<b*d':=by clear ih i1 i2 i3 i4 i5 he;grind
   exact⟨hh,Qwh ha hb dp h7 (SZ hx q) hg hh (he x) hd'⟩
  have hfs:d<=Fi (ev f x)->Ff (ev f y)=Ff (ev f x)/\Ff (ev f x)≠0:=λh=>Pz h (Me hx hy hR (Zl hxy h1) ef3)
  have hgs:d<=Fi (ev g x)->Ff (ev g y)=Ff (ev g x)/\Ff (ev g x)≠0:=λh=>Pz h (Me hx hy hR (Zl hxy h2) eg3)
  refine⟨?_,hfs,hgs,λs1 s2=>?_,i4⟩
  ·rcases Gg d (Fi (ev g x))with h|h
   ·exact .inr h
   ·exact .inl (hsm h).2.2
  ·rcases Gg d (Fi (ev g x))with h|h
   ·obtain⟨g1,g2⟩:=hgs h;rw[GH (x:=x) (p:=g) g2,GH (x:=y) (p:=g) (by rw[g1];exact g2),g1,i4 g1 g2]
   ·obtain⟨h4,h5,_⟩:=hsm h;obtain⟨h6,h7⟩:=i3 h4;have i5:=i5 h6 h7;rw[Qld h5 s2,Qld (h6.trans h5) s2,<-h5,i5]
def Pq(p:Ur)(x:Rat):Int:=if Ff (ev p x)≠0 then Ff (ev p x)else Ff (dv p x)
def vv(L:Us)(x:Rat):Nat:=tc x 0 L
def GO(f:Ur)(L:Us):Prop:=(∃c:Rat,c≠0/\(∀t,ev f t=c)/\L=[f])\/∃g l,∃k:Rat,0<k/\(∀t,ev g t=k*dv f t)/\SCl f g l/\L=f::g::l
structure Sm(w:List Rat)(x y:Rat):Prop where
 s:Ff (ev w y)=Pq w x
 l:Pq w y=Pq w x
 n:Pq w x≠0
theorem Al{p:Ur}{x:Rat}(h:Ff (ev p x)≠0):Pq p x=Ff (ev p x):=by unfold Pq;rw[if_pos h]
theorem nO{p:Ur}{x:Rat}(h:Ff (ev p x)=0):Pq p x=Ff (dv p x):=by unfold Pq;rw[if_neg (by simpa using h)]
theorem tM{p:Ur}{x y:Rat}(h:Ff (ev p y)=Ff (ev p x))(h0:Ff (ev p x)≠0):Sm p x y:=by
 have h1:=Al h0;have h2:=Al (p:=p) (x:=y) (by rw[h];exact h0);exact⟨by rw[h,h1],by rw[h2,h1,h],by rw[h1];exact h0⟩
theorem QS{f w u:Ur}(h:∀t,ev f t=ev w t*ev u t)(x:Rat):dv f x=dv w x*ev u x+ev w x*dv u x:=by
 rw[<-jW];exact Qha (λt=>by rw[h,Fg]) x
theorem iF{f w u:Ur}{x:Rat}(h:∀t,ev f t=ev w t*ev u t)(hu:Ff (ev u x)≠0):Pq f x=Pq w x*Ff (ev u x):=by
 by_cases hw:Ff (ev w x)=0
 ·have hw0:=Gs.1 hw;have e1:ev f x=0:=by rw[h,hw0];grind
  have e2:dv f x=dv w x*ev u x:=by rw[QS h,hw0];grind
  rw[nO hw,nO (Gs.2 e1),e2,Sx]
 ·have e1:Ff (ev f x)=Ff (ev w x)*Ff (ev u x):=by rw[h,Sx]
  rw[Al hw,Al (by rw[e1];exact Jf hw hu),e1]
theorem Qwi{f w u:Ur}{x y:Rat}(h:∀t,ev f t=ev w t*ev u t)(hu:Ff (ev u y)=Ff (ev u x))(h0:Ff (ev u x)≠0)(hf:Sm f x y):Sm w x y:=by
 have e1:=iF h h0;have e2:=iF (x:=y) h (by rw[hu];exact h0);have e3:Ff (ev f y)=Ff (ev w y)*Ff (ev u y):=by rw[h,Sx]
 obtain⟨s,l,n⟩:=hf;rw[hu]at e2 e3;refine⟨?_,?_,λh=>n (by rw[e1,h,Yz])⟩
 ·rw[e3,e1]at s;exact Y5 h0 s
 ·rw[e2,e1]at l;exact Y5 h0 l
theorem tc0{x:Rat}{s:Int}{f g:Ur}{l:Us}(h:Ff (ev g x)=s)(hs:s≠0):tc x 0 (f::g::l)=(if Ff (ev f x)=-s then 1 else 0)+tc x s l:=by
 have hv:s=1\/s=-1:=by rcases Fz (ev g x)with⟨e,_⟩|⟨e,_⟩|⟨e,_⟩ <;> omega
 have hg:Ff (ev g x)≠0:=by omega
 rw[tc];rcases Fz (ev f x)with⟨e,_⟩|⟨e,_⟩|⟨e,_⟩ <;> rw[e] <;> rcases hv with rfl|rfl <;> simp[GH hg,h]
theorem LJ{R x y e d:Rat}{p:Ur}(hx:Fi x<=R)(hy:Fi y<=R)(hR:0<=R)(hxy:x<y)(h:y-x<=e)(hd:d<=Fi (dv p x))(he:e*ddB R p<d):Ff (ev p y-ev p x)=Ff (dv p x):=by
 have h1:=Qr7 p y x;have h2:ev p y-ev p x=(y-x)*(dv p x+(y-x)*dd p y x):=by rw[h1];grind
 have h3:=He (x:=y-x) (y:=dd p y x) (a:=e) (b:=ddB R p) (by rw[Mj];constructor <;> grind) (Qg2 hy hx p);have h4:=Pz (b:=dv p x+(y-x)*dd p y x) hd (by
  have:dv p x+(y-x)*dd p y x-dv p x=(y-x)*dd p y x:=by grind
  rw[this];exact Js.1 λh=>absurd (Zl h h3) (Js.2 he))
 rw[h2,Sx,Hy.2 (show 0<y-x by grind),h4.1,Kq]
def Qd3(f w:Ur)(L:Us)(x y:Rat):Prop :=
 (vv L x=vv L y/\Sm f x y/\Sm w x y)\/(vv L x=vv L y+1/\Pq f x≠0/\Pq f y=-Pq f x/\Ff (ev f x)=Pq f x/\(Ff (ev f y)=0\/Ff (ev f y)=-Pq f x))
theorem Qsb{R d:Rat}(hR:0<=R)(hd:0<d){f w u:Ur}(h:∀t,ev f t=ev w t*ev u t):∃e:Rat,0<e/\∀x y,Fi x<=R->Fi y<=R->Fi (y-x)<=e->d<=Fi (ev f x)->Sm f x y/\Sm w x y:=by
 obtain⟨ef,ef1,_,ef3⟩:=Hj (M7 hR f) hd;obtain⟨d1,d1p,_,d1b⟩:=Hj (XY hR u) hd;obtain⟨ew,ew1,_,ew3⟩:=Hj (M7 hR w) d1p;obtain⟨e,ep,e1,e2⟩:=min2 ef1 ew1;refine⟨e,ep,λx y hx hy hxy hf=>⟨?_,?_⟩⟩
 ·have:=Pz hf (Me hx hy hR (Zl hxy e1) ef3);exact tM this.1 this.2
 ·have hw:d1<=Fi (ev w x):=by
   rcases Gg d1 (Fi (ev w x))with h'|h'
   ·exact h'
   ·have h5:=He (Qt h') (SZ hx u);rw[<-h]at h5;exact absurd (Zl hf h5) (Js.2 d1b)
  have:=Pz hw (Me hx hy hR (Zl hxy e2) ew3);exact tM this.1 this.2
theorem loc{R:Rat}(hR:0<=R){f w u:Ur}{L:Us}(hc:GO f L)(h:∀t,ev f t=ev w t*ev u t):∃e:Rat,0<e/\∀x y,Fi x<=R->Fi y<=R->x<y->y-x<=e->Qd3 f w L x y:=by
 rcases hc with⟨c,hc,hf,rfl⟩|⟨g,l,k,hk,hg,hc,rfl⟩
 ·obtain⟨e,ep,h1⟩:=Qsb hR (Cw hc) h;refine⟨e,ep,λx y hx hy hxy he=>.inl ⟨?_,h1 x y hx hy (by rw[Mj];constructor <;> grind) (by rw[hf];exact Qq)⟩⟩;simp only[vv,tc,hf]
 ·obtain⟨d,e1,dp,e1p,h1⟩:=Qvk hR hc;obtain⟨e2,e2p,h2⟩:=Qsb hR dp h;obtain⟨d3,d3p,_,d3b⟩:=Hj (b:=k) (d:=d) (Qt hk) dp;obtain⟨e3,e3p,_,e3b⟩:=Hj (CJ hR f) d3p;obtain⟨d4,d4p,_,d4b⟩:=Hj (b:=AD R w+AD R u) (d:=d3) (by have:=M7 hR w;have:=M7 hR u;grind) d3p;obtain⟨e4,e4p,_,e4b⟩:=Hj (M7 hR w) d4p;obtain⟨e5,e5p,_,e5b⟩:=Hj (M7 hR u) d4p;obtain⟨a1,a1p,a11,a12⟩:=min2 e1p e2p;obtain⟨a2,a2p,a21,a22⟩:=min2 e3p e4p;obtain⟨a3,a3p,a31,a32⟩:=min2 a1p a2p;obtain⟨e,ep,b1,b2⟩:=min2 a3p e5p;refine⟨e,ep,λx y hx hy hxy he=>?_⟩;have hab:Fi (y-x)<=e:=by rw[Mj];clear h1 h2;constructor <;> grind
  have hab1:Fi (y-x)<=e1:=by clear h1 h2;grind
  have hab2:Fi (y-x)<=e2:=by clear h1 h2;grind
  obtain⟨i1,i2,i3,i4,i5⟩:=h1 x y hx hy hab1;rcases Gg d (Fi (ev f x))with hf|hf
  ·obtain⟨s1,s2⟩:=h2 x y hx hy hab2 hf;obtain⟨j1,j2⟩:=i2 hf;refine .inl ⟨?_,s1,s2⟩;have:=i4 j1 j2;simp only[vv];rw[GH (x:=x) (p:=f) j2,GH (x:=y) (p:=f) (by rw[j1];exact j2),j1,this]
  ·have hg1:d<=Fi (ev g x):=by
    rcases i1 with i|i
    ·exact absurd i (Js.2 hf)
    ·exact i
   obtain⟨g1,g2⟩:=i3 hg1;have i5:=i5 g1 g2;have hD:d3<=Fi (dv f x):=by
    rcases Gg d3 (Fi (dv f x))with h'|h'
    ·exact h'
    ·have h5:=He (x:=k) (a:=k) (by unfold Fi;split <;> clear h1 h2 <;> grind) (Rat.le_of_lt h');rw[<-hg]at h5;have:k*d3=d3*k:=by grind
     exact absurd (Zl hg1 h5) (Js.2 (by rw[this];exact d3b))
   have hm:=LJ hx hy hR hxy (by clear h1 h2;grind:y-x<=e3) hD e3b;have s1:Ff (ev g x)=Ff (dv f x):=by rw[hg,Sx,Hy.2 hk,Kq]
   have s2:Ff (ev g y)=Ff (dv f y):=by rw[hg,Sx,Hy.2 hk,Kq]
   obtain⟨s,hs⟩:=nmE (Ff (ev g x));rw[<-hs]at g1 g2 i5 s1;rw[g1]at s2;have v1:=tc0 (f:=f) (l:=l) hs.symm g2;have v2:=tc0 (f:=f) (l:=l) g1 g2;rw[<-i5]at v2;rw[<-s1]at hm;have hw:Sm f x y->Sm w x y:=λhf=>by
    rcases Gg d4 (Fi (ev u x))with hu|hu
    ·have hu:=Pz hu (Me hx hy hR (Zl hab b2) e5b);exact Qwi h hu.1 hu.2 hf
    ·have hw:d4<=Fi (ev w x):=by
      rcases Gg d4 (Fi (ev w x))with h'|h'
      ·exact h'
      ·have q1:=He (x:=dv w x) (y:=ev u x) (a:=AD R w) (by rw[<-jY];exact uH hx hx w) (Qt hu);have q2:=He (x:=ev w x) (y:=dv u x) (b:=AD R u) (Qt h') (by rw[<-jY];exact uH hx hx u);have q3:=Su (dv w x*ev u x) (ev w x*dv u x);rw[<-QS h]at q3;have:d4*(AD R w+AD R u)=AD R w*d4+d4*AD R u:=by grind
       rw[this]at d4b;exact absurd (Zl hD (Zl q3 (by clear h1 h2;grind:_<=AD R w*d4+d4*AD R u))) (Js.2 d4b)
     have hw:=Pz hw (Me hx hy hR (Zl hab (by clear h1 h2;grind)) e4b);exact tM hw.1 hw.2
   have lx:Pq f x=if Ff (ev f x)≠0 then Ff (ev f x)else s:=by rw[s1];rfl
   have ly:Pq f y=if Ff (ev f y)≠0 then Ff (ev f y)else s:=by rw[s2];rfl
   clear h1 h2 i1 i2 i3 i4;have hsv:s=1\/s=-1:=by rcases Fz (ev g x)with⟨e,_⟩|⟨e,_⟩|⟨e,_⟩ <;> omega
   unfold Qd3;simp only[vv,v1,v2];rcases hsv with rfl|rfl
   ·have hm:=Hy.1 hm;rcases Fz (ev f x)with⟨p1,p2⟩|⟨p1,p2⟩|⟨p1,p2⟩
    ·rcases Fz (ev f y)with⟨q1,q2⟩|⟨q1,q2⟩|⟨q1,q2⟩
     ·rw[p1,q1];have hsm:=tM (p:=f) (x:=x) (y:=y) (by rw[p1,q1]) (by rw[p1];decide);exact .inl ⟨rfl,hsm,hw hsm⟩
     ·rw[lx,ly,p1,q1];refine .inr ⟨by simp;omega,by decide,by decide,by decide,by decide⟩
     ·rw[lx,ly,p1,q1];refine .inr ⟨by simp;omega,by decide,by decide,by decide,by decide⟩
    ·have q1:=Hy.2 (show 0<ev f y by grind);have hsm:Sm f x y:=⟨by rw[lx,q1,p1];rfl,by rw[lx,ly,q1,p1];rfl,by rw[lx,p1];decide⟩;rw[p1,q1];exact .inl ⟨rfl,hsm,hw hsm⟩
    ·have q1:=Hy.2 (show 0<ev f y by grind);have hsm:Sm f x y:=⟨by rw[lx,q1,p1];rfl,by rw[lx,ly,q1,p1],by rw[lx,p1];decide⟩;rw[p1,q1];exact .inl ⟨rfl,hsm,hw hsm⟩
   ·have hm:=Pf.1 hm;rcases Fz (ev f x)with⟨p1,p2⟩|⟨p1,p2⟩|⟨p1,p2⟩
    ·have q1:=Pf.2 (show ev f y<0 by grind);have hsm:Sm f x y:=⟨by rw[lx,q1,p1];rfl,by rw[lx,ly,q1,p1],by rw[lx,p1];decide⟩;rw[p1,q1];exact .inl ⟨rfl,hsm,hw hsm⟩
    ·have q1:=Pf.2 (show ev f y<0 by grind);have hsm:Sm f x y:=⟨by rw[lx,q1,p1];rfl,by rw[lx,ly,q1,p1];rfl,by rw[lx,p1];decide⟩;rw[p1,q1];exact .inl ⟨rfl,hsm,hw hsm⟩
    ·rcases Fz (ev f y)with⟨q1,q2⟩|⟨q1,q2⟩|⟨q1,q2⟩
     ·rw[lx,ly,p1,q1];refine .inr ⟨by simp;omega,by decide,by decide,by decide,by decide⟩
     ·rw[lx,ly,p1,q1];refine .inr ⟨by simp;omega,by decide,by decide,by decide,by decide⟩
     ·rw[p1,q1];have hsm:=tM (p:=f) (x:=x) (y:=y) (by rw[p1,q1]) (by rw[p1];decide);exact .inl ⟨rfl,hsm,hw hsm⟩
theorem Q0k(z:Rat):∃n:Nat,z<=(n:Rat):=by
 refine⟨z.ceil.toNat,?_⟩;have h1:z<=(z.ceil:Rat):=Rat.le_ceil;have h2:(z.ceil:Rat)<=((z.ceil.toNat:Int):Rat):=Jb.2 (Int.self_le_toNat _);exact Zl h1 h2
theorem ZD{z e:Rat}(he:0<e):∃n:Nat,z<=(n:Rat)*e:=by
 obtain⟨n,hn⟩:=Q0k (z / e);exact⟨n,by have:=Zf hn (Qt he);rwa[Hf he]at this⟩
theorem FQ{R x y t:Rat}(hx:Fi x<=R)(hy:Fi y<=R)(h1:x<=t)(h2:t<=y):Fi t<=R:=by
 rw[Mj]at *;constructor <;> grind
def Qay(f w:Ur)(L:Us)(x y:Rat):Prop :=
 vv L y<=vv L x/\(vv L x=vv L y->Sm f x y/\Sm w x y)/\(vv L x=vv L y+1->Pq f x≠0/\Pq f y=-Pq f x)
theorem iW{f w:Ur}{L:Us}{x y:Rat}(h:Qd3 f w L x y):Qay f w L x y:=by
 rcases h with⟨h1,h2,h3⟩|⟨h1,h2,h3,_⟩
 ·exact⟨by omega,λ_=>⟨h2,h3⟩,λh=>by omega⟩
 ·exact⟨by omega,λh=>by omega,λ_=>⟨h2,h3⟩⟩
theorem tN{w:Ur}{x y z:Rat}(h1:Sm w x y)(h2:Sm w y z):Sm w x z:=⟨by rw[h2.s,h1.l],by rw[h2.l,h1.l],h1.n⟩
theorem nE{f w:Ur}{L:Us}{x y z:Rat}(h:Qay f w L x y)(h':Qay f w L y z):Qay f w L x z:=by
 obtain⟨a1,a2,a3⟩:=h;obtain⟨b1,b2,b3⟩:=h';refine⟨by omega,λh=>?_,λh=>?_⟩
 ·obtain⟨s1,s2⟩:=a2 (by omega);obtain⟨s3,s4⟩:=b2 (by omega);exact⟨tN s1 s3,tN s2 s4⟩
 ·by_cases e:vv L x=vv L y
  ·obtain⟨s1,_⟩:=a2 e;obtain⟨s3,s4⟩:=b3 (by omega);exact⟨s1.n,by rw[s4,s1.l]⟩
  ·obtain⟨s3,s4⟩:=a3 (by omega);obtain⟨s1,_⟩:=b2 (by omega);exact⟨s3,by rw[s1.l,s4]⟩
theorem Qu8{R:Rat}(hR:0<=R){f w u:Ur}{L:Us}(hc:GO f L)(h:∀t,ev f t=ev w t*ev u t){x y:Rat}(hx:Fi x<=R)(hy:Fi y<=R)(hxy:x<y):Qay f w L x y:=by
 obtain⟨e,ep,hl⟩:=loc hR hc h;have key:∀n:Nat,∀x,Fi x<=R->x<y->y-x<=(n:Rat)*e->Qay f w L x y:=by
  intro n
  induction n with
  |zero =>
   intro x hx hxy h;exfalso;have:((0:Nat):Rat)*e=0:=by simp
   grind
  |
   succ n ih =>
   intro x hx hxy hn;rcases Gg (y-x) e with h1|h1
   ·exact iW (hl x y hx hy hxy h1)
   ·have hm:Fi (x+e)<=R:=FQ hx hy (by clear hl ih;grind) (by clear hl ih;grind);have hn':(((n+1:Nat):Rat))=(n:Rat)+1:=by push_cast;rfl
    refine nE (iW (hl x (x+e) hx hm (by clear hl ih;grind) (by clear hl ih;grind))) (ih (x+e) hm (by clear hl ih;grind) ?_);rw[hn']at hn;clear hl ih;grind
 obtain⟨n,hn⟩:=ZD (z:=y-x) ep;exact key n x hx hxy hn
theorem xX(x y:Rat):∃R:Rat,0<=R/\Fi x<=R/\Fi y<=R:=by
 refine⟨Fi x+Fi y,?_,?_,?_⟩ <;> (have:=Hw x;have:=Hw y;grind)
theorem Tf(t:Rat):ev [1] t=1:=by simp only[ev];grind
theorem Ay{f:Ur}{L:Us}(hc:GO f L){x y:Rat}(hxy:x<y):vv L y<=vv L x:=by
 obtain⟨R,hR,hx,hy⟩:=xX x y;exact(Qu8 hR hc (w:=f) (u:=[1]) (λt=>by rw[Tf];grind) hx hy hxy).1
theorem KZ{f w u:Ur}{L:Us}(hc:GO f L)(h:∀t,ev f t=ev w t*ev u t){x y:Rat}(hxy:x<y)(he:vv L x=vv L y):Sm w x y:=by
 obtain⟨R,hR,hx,hy⟩:=xX x y;exact((Qu8 hR hc h hx hy hxy).2.1 he).2
theorem kZ{f:Ur}{L:Us}(hc:GO f L){x y:Rat}(hxy:x<y)(he:vv L x=vv L y):Sm f x y :=
 KZ hc (w:=f) (u:=[1]) (λt=>by rw[Tf];grind) hxy he
theorem kQ{f:Ur}{L:Us}(hc:GO f L){x y:Rat}(hxy:x<y)(he:vv L x=vv L y+1):Pq f x≠0/\Pq f y=-Pq f x:=by
 obtain⟨R,hR,hx,hy⟩:=xX x y;exact(Qu8 hR hc (w:=f) (u:=[1]) (λt=>by rw[Tf];grind) hx hy hxy).2.2 he
theorem Qlk{f:Ur}{L:Us}(hc:GO f L)(R:Rat)(hR:0<=R):∃e:Rat,0<e/\∀x y,Fi x<=R->Fi y<=R->x<y->y-x<=e->vv L x<=vv L y+1:=by
 obtain⟨e,ep,hl⟩:=loc hR hc (w:=f) (u:=[1]) (λt=>by rw[Tf];grind);refine⟨e,ep,λx y hx hy hxy he=>?_⟩;rcases hl x y hx hy hxy he with⟨h,_⟩|⟨h,_⟩ <;> omega
theorem UH{p:Ur}{x:Rat}(h:Ff (ev p x)≠0):∃e:Rat,0<e/\∀y,Fi (y-x)<=e->Ff (ev p y)=Ff (ev p x):=by
 have hd:=Cw (x:=ev p x) λh0=>h (Gs.2 h0)
 have hR:0<=Fi x+1:=by have:=Hw x;grind
 obtain⟨e,e1,e2,e3⟩:=Hj (M7 hR p) hd;refine⟨e,e1,λy hy=>(Pz Qq (Me (x:=x) (by grind) ?_ hR hy e3)).1⟩;have:=Su (y-x) x;have e:y-x+x=y:=by grind
 rw[e]at this;grind
theorem Qsm{R M:Rat}{p:Ur}(hM:M=ddB R p)(hR:0<=R){h:Rat}(hh:0<h):∀(n:Nat) (x:Rat),Fi x<=R->Fi (x+(n:Rat)*h)<=R->(∀t,x<=t->t<=x+(n:Rat)*h->0<=dv p t)->ev p x-(n:Rat)*(h*h*M)<=ev p (x+(n:Rat)*h)
 |
  0,x,_,_,_=>by
  have e1:x+((0:Nat):Rat)*h=x:=by rw[show((0:Nat):Rat)=0 from rfl];grind
  have e2:((0:Nat):Rat)*(h*h*M)=0:=by simp
  rw[e1,e2];grind
 |
  n+1,x,hx,hy,hd=>by
  have hn':(((n+1:Nat):Rat))=(n:Rat)+1:=by push_cast;rfl
  rw[hn']at hy hd ⊢;have hn0:(0:Rat)<=(n:Rat):=Xj;have hnh:=Bl hn0 (Qt hh);have e1:x+((n:Rat)+1)*h=(x+h)+(n:Rat)*h:=by grind
  rw[e1]at hy hd ⊢;have hxh:Fi (x+h)<=R:=FQ hx hy (by clear hd;grind) (by clear hd;grind);have ih:=Qsm hM hR hh n (x+h) hxh hy λt h1 h2=>hd t (by clear hd;grind) h2
  have h0:=hd x Qq (by clear hd;grind);have h1:=Qr7 p (x+h) x;have h2:=Qg2 hxh hx p;rw[<-hM,Mj]at h2;have h3:=Z0 h2.1 (Bl (Qt hh) (Qt hh));have h4:=Bl (Qt hh) h0;have e2:x+h-x=h:=by grind
  rw[e2]at h1;clear hd hx hy hxh;grind
theorem Qy4{p:Ur}{x y:Rat}(hxy:x<y)(hd:∀t,x<=t->t<=y->0<=dv p t):ev p x<=ev p y:=by
 obtain⟨R,hR,hx,hy⟩:=xX x y;rcases Gg (ev p x) (ev p y)with h|h
 ·exact h
 ·exfalso;obtain⟨M,hM⟩:=nmE (ddB R p);have hM0:=CJ hR p;rw[<-hM]at hM0;obtain⟨e,ep,_,he⟩:=Hj (b:=(y-x)*M) (d:=ev p x-ev p y) (Bl (by grind) hM0) (by grind);obtain⟨n,hn⟩:=ZD (z:=y-x) ep;have hn0:0<(n:Rat):=by
   rcases Gg (n:Rat) 0 with h'|h'
   ·have:=Zf h' (Qt ep);clear hd;grind
   ·exact h'
  have hh:0<(y-x) / n:=Af (by grind) hn0;have e1:(n:Rat)*((y-x) / n)=y-x:=by rw[W8];exact Hf hn0
  have e2:x+(n:Rat)*((y-x) / n)=y:=by rw[e1];grind
  have h1:=Qsm hM hR hh n x hx (by rw[e2];exact hy) (by rw[e2];exact hd);rw[e2]at h1;have h2:(y-x) / n<=e:=by
   rcases Gg ((y-x) / n) e with h'|h'
   ·exact h'
   ·have:=Rat.mul_lt_mul_of_pos_left h' hn0;clear hd;grind
  have h3:(n:Rat)*((y-x) / n*((y-x) / n)*M)=((y-x) / n)*((y-x)*M):=by
   have:(n:Rat)*((y-x) / n*((y-x) / n)*M)=((n:Rat)*((y-x) / n))*(((y-x) / n)*M):=by grind
   rw[this,e1];grind
  have h4:=Zf h2 (Bl (x:=y-x) (y:=M) (by grind) hM0);rw[h3]at h1;clear hd;grind
theorem Qqc{p:Ur}{x y:Rat}(hxy:x<y)(hd:∀t,x<=t->t<=y->0<dv p t):ev p x<ev p y:=by
 have hx:=hd x Qq (by grind);have hR:0<=Fi x+1:=by have:=Hw x;grind
 obtain⟨e,e1,e2,e3⟩:=Hj (CJ hR p) hx;obtain⟨f,f1,f2,f3⟩:=min2 (a:=e) (b:=y-x) e1 (by grind);have hq:Fi (x+f)<=Fi x+1:=by
  have:=Su x f;have:Fi f=f:=by unfold Fi;split <;> grind
  clear hd;grind
 have h1:=LJ (p:=p) (x:=x) (y:=x+f) (R:=Fi x+1) (e:=e) (d:=dv p x) (by clear hd;grind) hq hR (by grind) (by grind) (by unfold Fi;split <;> clear hd <;> grind) e3;rw[Hy.2 hx,Hy]at h1;rcases Classical.em (x+f=y)with e|e
 ·rw[<-e];clear hd;grind
 ·have:=Qy4 (p:=p) (x:=x+f) (y:=y) (by clear hd;grind) λt h1 h2=>Qt (hd t (by clear hd;grind) h2)
  clear hd;grind
structure Cut(c:Rat->Int):Prop where
 val:∀q,c q=1\/c q=0\/c q=-1
 mono:∀q r,q<r->c q≠1->c r=-1
 up:∀q,c q=1->∃r,q<r/\c r=1
 dn:∀q,c q=-1->∃r,r<q/\c r=-1
 lo:∃q,c q=1
 hi:∃q,c q=-1
theorem Cut.mono'{c:Rat->Int}(h:Cut c){q r:Rat}(hqr:q<r)(hr:c r≠-1):c q=1:=by
 rcases Classical.em (c q=1)with e|e
 ·exact e
 ·exact absurd (h.mono q r hqr e) hr
theorem Cut.lt{c:Rat->Int}(h:Cut c){q r:Rat}(hq:c q=1)(hr:c r=-1):q<r:=by
 rcases Gg r q with e|e
 ·rcases Classical.em (r=q)with e'|e'
  ·rw[e']at hr;omega
  ·have:=h.mono r q (by grind) (by omega);omega
 ·exact e
theorem Cut.near{c:Rat->Int}(h:Cut c){e:Rat}(he:0<e):∃x y,c x=1/\c y=-1/\y-x<=e:=by
 obtain⟨a,ha⟩:=h.lo;obtain⟨b,hb⟩:=h.hi;have he2:0<e / 2:=Af he (by decide);have h2:e / 2*2=e:=Hf (by decide);have key:∀(n:Nat) (a:Rat),c a=1->b-a<=(n:Rat)*(e / 2)->∃x y,c x=1/\c y=-1/\y-x<=e:=by
  intro n
  induction n with
  |
   zero =>
   intro a ha hn;have:=h.lt ha hb;rw[show((0:Nat):Rat)=0 from rfl]at hn;exfalso;grind
  |
   succ n ih =>
   intro a ha hn;have hn':(((n+1:Nat):Rat))=(n:Rat)+1:=by push_cast;rfl
   rw[hn']at hn;rcases h.val (a+e / 2)with h1|h1|h1
   ·exact ih _ h1 (by grind)
   ·exact⟨a,a+e,ha,h.mono (a+e / 2) _ (by grind) (by omega),by grind⟩
   ·exact⟨a,a+e / 2,ha,h1,by grind⟩
 obtain⟨n,hn⟩:=ZD (z:=b-a) he2;exact key n a ha hn
def I2(p:Ur)(c:Rat->Int):Prop:=∀d:Rat,0<d->∃x y,c x=1/\c y=-1/\∀q,x<=q->q<=y->Fi (ev p q)<d
def NZ(p:Ur)(c:Rat->Int)(s:Int):Prop:=∃d:Rat,0<d/\∃x y,c x=1/\c y=-1/\∀q,x<=q->q<=y->Ff (ev p q)=s/\d<=Fi (ev p q)
def Nr(c:Rat->Int)(P:Rat->Prop):Prop:=∃x y,c x=1/\c y=-1/\∀q,x<=q->q<=y->P q
theorem bU{c:Rat->Int}{P Q:Rat->Prop}(h1:Nr c P)(h2:Nr c Q):Nr c λq=>P q/\Q q:=by
 obtain⟨x,y,a1,a2,a3⟩:=h1;obtain⟨x',y',b1,b2,b3⟩:=h2;refine⟨if x<=x' then x' else x,if y<=y' then y else y',by split <;> assumption,by split <;> assumption,λq q1 q2=>⟨a3 q ?_ ?_,b3 q ?_ ?_⟩⟩ <;> clear a3 b3 <;> grind
theorem MD{c:Rat->Int}{P Q:Rat->Prop}(h1:Nr c P)(h:∀q,P q->Q q):Nr c Q:=by
 obtain⟨x,y,a1,a2,a3⟩:=h1;exact⟨x,y,a1,a2,λq q1 q2=>h q (a3 q q1 q2)⟩
theorem gU{c:Rat->Int}(hc:Cut c){P:Rat->Prop}(h1:Nr c P):∃q,P q/\c q=1:=by
 obtain⟨x,y,a1,a2,a3⟩:=h1;exact⟨x,a3 x Qq (Qt (hc.lt a1 a2)),a1⟩
theorem Qjc{c:Rat->Int}(hc:Cut c){e:Rat}(he:0<e){P:Rat->Prop}(h1:Nr c P):∃x y,c x=1/\c y=-1/\y-x<=e/\x<y/\∀q,x<=q->q<=y->P q:=by
 obtain⟨x,y,a1,a2,a3⟩:=h1;obtain⟨x',y',b1,b2,b3⟩:=hc.near he;refine⟨if x<=x' then x' else x,if y<=y' then y else y',by split <;> assumption,by split <;> assumption,by clear a3;grind,hc.lt (by split <;> assumption) (by split <;> assumption),λq q1 q2=>a3 q ?_ ?_⟩ <;> clear a3 <;> grind
theorem Qsk{c:Rat->Int}(hc:Cut c):∃R:Rat,0<=R/\Nr c λq=>Fi q<=R:=by
 obtain⟨x,y,a1,a2,_⟩:=hc.near (e:=1) (by decide);obtain⟨R,hR,h1,h2⟩:=xX x y;exact⟨R,hR,x,y,a1,a2,λq q1 q2=>FQ h1 h2 q1 q2⟩
theorem JD{c:Rat->Int}(hc:Cut c)(p:Ur):I2 p c\/∃s,s≠0/\NZ p c s:=by
 rcases Classical.em (I2 p c)with h|h
 ·exact .inl h
 ·refine .inr ?_;obtain⟨d,hd0⟩:=Classical.not_forall.1 h;obtain⟨dp,hd⟩:=Classical.not_imp.1 hd0;have hd:∀x y,c x=1->c y=-1->∃q,x<=q/\q<=y/\d<=Fi (ev p q):=λx y hx hy=>by
   rcases Classical.em (∃q,x<=q/\q<=y/\d<=Fi (ev p q))with h'|h'
   ·exact h'
   ·refine absurd ⟨x,y,hx,hy,λq h1 h2=>?_⟩ hd;rcases Gg d (Fi (ev p q))with h3|h3
    ·exact absurd ⟨q,h1,h2,h3⟩ h'
    ·exact h3
  obtain⟨R,hR,hn⟩:=Qsk hc;have hd2:0<d / 2:=Af dp (by decide);have h2:d / 2*2=d:=Hf (by decide);obtain⟨e,e1,_,e3⟩:=Hj (M7 hR p) hd2;obtain⟨x,y,hx,hy,hxy,_,hq⟩:=Qjc hc e1 hn;obtain⟨r,r1,r2,r3⟩:=hd x y hx hy;have key:∀q,x<=q->q<=y->Fi (ev p q-ev p r)<d / 2:=λq q1 q2 =>
   Me (hq r r1 r2) (hq q q1 q2) hR (by rw[Mj];clear hq hd;constructor <;> grind) e3
  refine⟨Ff (ev p r),λh0=>?_,d / 2,hd2,x,y,hx,hy,λq q1 q2=>⟨(Pz (d:=d) r3 ?_).1,?_⟩⟩
  ·rw[Gs.1 h0,Rl]at r3;clear hq hd key;grind
  ·have:=key q q1 q2;clear hq hd key;grind
  ·have h3:=key q q1 q2;have h4:=Su (ev p r-ev p q) (ev p q);rw[show ev p r-ev p q+ev p q=ev p r from by clear hq hd key;grind,oO]at h4;clear hq hd key;grind
theorem Qww{c:Rat->Int}(hc:Cut c){p:Ur}{s:Int}(h1:I2 p c)(h2:NZ p c s):False:=by
 obtain⟨d,dp,h2⟩:=h2;obtain⟨q,⟨a,b⟩,_⟩:=gU hc (bU (h1 d dp) h2);exact absurd b.2 (Js.2 a)
theorem Ma{c:Rat->Int}(hc:Cut c){f p q:Ur}(hf:∀t,ev f t=ev p t*ev q t)(h:I2 p c):I2 f c:=by
 intro d dp;obtain⟨R,hR,hn⟩:=Qsk hc;obtain⟨e,e1,_,e3⟩:=Hj (XY hR q) dp;refine MD (bU hn (h e e1)) λt ⟨h1,h2⟩=>?_
 rw[hf];have:=He (Qt h2) (SZ h1 q);exact Js.1 λh=>absurd (Zl h this) (Js.2 e3)
theorem NR{c:Rat->Int}{f p q:Ur}(hf:∀t,ev f t=ev p t+ev q t)(h:I2 p c)(h':I2 q c):I2 f c:=by
 intro d dp;have hd2:0<d / 2:=Af dp (by decide);have h2:d / 2*2=d:=Hf (by decide);refine MD (bU (h _ hd2) (h' _ hd2)) λt ⟨h1,h2⟩=>?_
 rw[hf];have:=Su (ev p t) (ev q t);grind
def RS(p:Ur)(c:Rat->Int)(s:Int):Prop:=∃y,c y=-1/\∀q,c q=-1->q<=y->Ff (ev p q)=s
def LS(p:Ur)(c:Rat->Int)(s:Int):Prop:=∃x,c x=1/\∀q,c q=1->x<=q->Ff (ev p q)=s
theorem zU{c:Rat->Int}(hc:Cut c){p:Ur}{s:Int}(h:NZ p c s):RS p c s:=by
 obtain⟨d,dp,x,y,a1,a2,a3⟩:=h;exact⟨y,a2,λq h1 h2=>(a3 q (Qt (hc.lt a1 h1)) h2).1⟩
theorem iH{c:Rat->Int}(hc:Cut c){p:Ur}{s:Int}(h:NZ p c s):LS p c s:=by
 obtain⟨d,dp,x,y,a1,a2,a3⟩:=h;exact⟨x,a1,λq h1 h2=>(a3 q h2 (Qt (hc.lt h1 a2))).1⟩
theorem GY{c:Rat->Int}{p:Ur}{s s':Int}(h:RS p c s)(h':RS p c s'):s=s':=by
 obtain⟨y,a1,a2⟩:=h;obtain⟨y',b1,b2⟩:=h';rcases Gg y y' with e|e
 ·rw[<-a2 y a1 Qq,<-b2 y a1 e]
 ·rw[<-a2 y' b1 (Qt e),<-b2 y' b1 Qq]
theorem Qsp{c:Rat->Int}(hc:Cut c){p:Ur}(hv:I2 p c){y:Rat}(hy:c y=-1)(h:∀q,c q=-1->q<=y->0<dv p q)(q:Rat)(hq:c q=-1)(hqy:q<=y):0<ev p q:=by
 rcases Gg (ev p q) 0 with h0|h0
 ·exfalso;obtain⟨r,r1,r2⟩:=hc.dn q hq;have hr:ev p r<ev p q:=Qqc r1 λt t1 t2=>h t (by
   rcases Classical.em (r=t)with e|e
   ·rw[<-e];exact r2
   ·exact hc.mono r t (by clear h;grind) (by omega)) (Zl t2 hqy)
  obtain⟨a,b,ha,hb,hab⟩:=hv (-ev p r) (by clear h;grind);obtain⟨m,hm1,hm2,hm3⟩:∃m,c m=-1/\m<=b/\m<=r:=by
   rcases Gg b r with e|e
   ·exact⟨b,hb,Qq,e⟩
   ·exact⟨r,r2,Qt e,Qq⟩
  have h1:=hab m (Qt (hc.lt ha hm1)) hm2;have h2:ev p m<=ev p r:=by
   rcases Classical.em (m=r)with e|e
   ·rw[e];exact Qq
   ·exact Qt (Qqc (by clear h hab;grind) λt t1 t2=>h t (by
     rcases Classical.em (m=t)with e|e
     ·rw[<-e];exact hm1
     ·exact hc.mono m t (by clear h hab;grind) (by omega)) (by clear h hab;grind))
  rw[vJ]at h1;clear h hab;grind
 ·exact h0
theorem vU{c:Rat->Int}(hc:Cut c){p:Ur}{s:Int}(hv:I2 p c)(h:RS (Bn p) c s)(hs:s≠0):RS p c s:=by
 obtain⟨y,hy,h⟩:=h;have hsv:s=1\/s=-1:=by
  have:=h y hy Qq;rcases Fz (ev (Bn p) y)with⟨e,_⟩|⟨e,_⟩|⟨e,_⟩ <;> omega
 rcases hsv with rfl|rfl
 ·refine⟨y,hy,λq h1 h2=>Hy.2 (Qsp hc hv hy (λq h1 h2=>?_) q h1 h2)⟩;rw[<-Tr];exact Hy.1 (h q h1 h2)
 ·refine⟨y,hy,λq h1 h2=>Pf.2 ?_⟩;have:=Qsp hc (p:=D5 (-1) p) (y:=y) (λd dp=>MD (hv d dp) λq hq=>by rw[Gt,show -1*ev p q=-ev p q by grind,Er];exact hq) hy (λq h1 h2=>by
   rw[HE,<-Tr];have:=Pf.1 (h q h1 h2);grind) q h1 h2
  rw[Gt]at this;grind
theorem Qsf{c:Rat->Int}(hc:Cut c){p:Ur}(hv:I2 p c){x:Rat}(hx:c x=1)(h:∀q,c q=1->x<=q->0<dv p q)(q:Rat)(hq:c q=1)(hxq:x<=q):ev p q<0:=by
 rcases Gg 0 (ev p q)with h0|h0
 ·exfalso;obtain⟨r,r1,r2⟩:=hc.up q hq;have hr:ev p q<ev p r:=Qqc r1 λt t1 t2=>h t (by
   rcases Classical.em (t=r)with e|e
   ·rw[e];exact r2
   ·exact hc.mono' (q:=t) (r:=r) (by clear h;grind) (by omega)) (Zl hxq t1)
  obtain⟨a,b,ha,hb,hab⟩:=hv (ev p r) (by clear h;grind);obtain⟨m,hm1,hm2,hm3⟩:∃m,c m=1/\a<=m/\r<=m:=by
   rcases Gg a r with e|e
   ·exact⟨r,r2,e,Qq⟩
   ·exact⟨a,ha,Qq,Qt e⟩
  have h1:=hab m hm2 (Qt (hc.lt hm1 hb));have h2:ev p r<=ev p m:=by
   rcases Classical.em (r=m)with e|e
   ·rw[e];exact Qq
   ·exact Qt (Qqc (by clear h hab;grind) λt t1 t2=>h t (by
     rcases Classical.em (t=m)with e|e
     ·rw[e];exact hm1
     ·exact hc.mono' (q:=t) (r:=m) (by clear h hab;grind) (by omega)) (by clear h hab;grind))
  rw[vJ]at h1;clear h hab;grind
 ·exact h0
theorem Qit{c:Rat->Int}(hc:Cut c){p:Ur}{s:Int}(hv:I2 p c)(h:LS (Bn p) c s)(hs:s≠0):LS p c (-s):=by
 obtain⟨x,hx,h⟩:=h;have hsv:s=1\/s=-1:=by
  have:=h x hx Qq;rcases Fz (ev (Bn p) x)with⟨e,_⟩|⟨e,_⟩|⟨e,_⟩ <;> omega
 rcases hsv with rfl|rfl
 ·refine⟨x,hx,λq h1 h2=>Pf.2 (Qsf hc hv hx (λq h1 h2=>?_) q h1 h2)⟩;rw[<-Tr];exact Hy.1 (h q h1 h2)
 ·refine⟨x,hx,λq h1 h2=>Hy.2 ?_⟩;have:=Qsf hc (p:=D5 (-1) p) (x:=x) (λd dp=>MD (hv d dp) λq hq=>by rw[Gt,show -1*ev p q=-ev p q by grind,Er];exact hq) hx (λq h1 h2=>by
   rw[HE,<-Tr];have:=Pf.1 (h q h1 h2);grind) q h1 h2
  rw[Gt]at this;grind
theorem Qqk{c:Rat->Int}(hc:Cut c){f g:Ur}{l:Us}(h:SCl f g l):I2 f c->I2 g c->False:=by
 induction h with
 |
  @base f g k hk hg =>
  intro _ hv;obtain⟨q,hq,_⟩:=gU hc (hv (Fi k) (Cw hk));rw[hg]at hq;grind
 |
  @step f g h l a b q ha hb he hl ih =>
  intro hf hg;refine ih hg ?_;have h1:I2 (G8 q g) c:=Ma hc (p:=g) (q:=q) (λt=>by rw[Fg];grind) hg;have h2:I2 (D5 (-a) f) c:=Ma hc (p:=f) (q:=[-a]) (λt=>by rw[Gt];simp only[ev];grind) hf;have h3:I2 (Sv (G8 q g) (D5 (-a) f)) c:=NR (λt=>G5 t _ _) h1 h2;refine Ma hc (p:=Sv (G8 q g) (D5 (-a) f)) (q:=[1 / b]) (λt=>?_) h3;have:=he t;rw[G5,Fg,Gt];simp only[ev];have hbb:1 / b*b=1:=Hf hb;have:ev q t*ev g t+-a*ev f t=b*ev h t:=by rw[show -a*ev f t=-(a*ev f t) by grind,he t];grind
  rw[this];have:b*ev h t*(1 / b+t*0)=ev h t*(1 / b*b):=by grind
  rw[this,hbb];grind
theorem xQ{c:Rat->Int}(hc:Cut c){f g:Ur}{k:Rat}(h:∀t,ev g t=k*ev f t)(hv:I2 f c):I2 g c :=
 Ma hc (p:=f) (q:=[k]) (λt=>by rw[h];simp only[ev];grind) hv
theorem Qqu{c:Rat->Int}(hc:Cut c){f:Ur}{L:Us}(h:GO f L)(hv:I2 f c):∃s,s≠0/\NZ (Bn f) c s:=by
 rcases JD hc (Bn f)with h1|h1
 ·exfalso;rcases h with⟨k,hk,hf,_⟩|⟨g,l,k,hk,hg,h,_⟩
  ·obtain⟨q,hq,_⟩:=gU hc (hv (Fi k) (Cw hk));rw[hf]at hq;grind
  ·exact Qqk hc h hv (xQ hc (λt=>by rw[hg,Tr]) h1)
 ·exact h1
theorem aJ{c:Rat->Int}(hc:Cut c){f w u:Ur}{L:Us}(h:GO f L)(hf:∀t,ev f t=ev w t*ev u t)(hv:I2 w c):∃s,s≠0/\NZ (Bn w) c s:=by
 rcases JD hc (Bn w)with h1|h1
 ·exfalso;obtain⟨s,_,hs⟩:=Qqu hc h (Ma hc hf hv);refine Qww hc ?_ hs;have a1:I2 (G8 (Bn w) u) c:=Ma hc (λt=>Fg t _ _) h1;have a2:I2 (G8 w (Bn u)) c:=Ma hc (λt=>Fg t _ _) hv;refine NR (λt=>?_) a1 a2;rw[Tr,QS hf,Fg,Fg,Tr,Tr]
 ·exact h1
theorem Qgz{c:Rat->Int}(hc:Cut c){q:Rat}(h:c q=0){x y:Rat}(hx:c x=1)(hy:c y=-1):x<=q/\q<=y:=by
 constructor
 ·rcases Gg x q with e|e
  ·exact e
  ·have:=hc.mono q x e (by omega);omega
 ·rcases Gg q y with e|e
  ·exact e
  ·have:=hc.mono y q e (by omega);omega
theorem TN{c:Rat->Int}(hc:Cut c){p:Ur}{q:Rat}(h:c q=0)(hv:I2 p c):ev p q=0:=by
 rcases Classical.em (ev p q=0)with e|e
 ·exact e
 ·obtain⟨x,y,hx,hy,hq⟩:=hv _ (Cw e);obtain⟨h1,h2⟩:=Qgz hc h hx hy;have:=hq q h1 h2;grind
theorem gG{c:Rat->Int}(hc:Cut c){p:Ur}{q:Rat}{s:Int}(h:c q=0)(hv:NZ p c s):Ff (ev p q)=s:=by
 obtain⟨d,dp,x,y,hx,hy,hq⟩:=hv;obtain⟨h1,h2⟩:=Qgz hc h hx hy;exact(hq q h1 h2).1
theorem mP{c:Rat->Int}(hc:Cut c){y z:Rat}(hy:c y=-1)(hz:c z=-1):∃q,c q=-1/\q<y/\q<z:=by
 obtain⟨a,a1,a2⟩:=hc.dn y hy;obtain⟨b,b1,b2⟩:=hc.dn z hz;rcases Gg a b with e|e
 ·exact⟨a,a2,a1,by grind⟩
 ·exact⟨b,b2,by grind,b1⟩
theorem CZ{c:Rat->Int}(hc:Cut c){y z:Rat}(hy:c y=1)(hz:c z=1):∃q,c q=1/\y<q/\z<q:=by
 obtain⟨a,a1,a2⟩:=hc.up y hy;obtain⟨b,b1,b2⟩:=hc.up z hz;rcases Gg a b with e|e
 ·exact⟨b,b2,by grind,b1⟩
 ·exact⟨a,a2,a1,by grind⟩
theorem Qjb{f w u:Ur}{L:Us}(h:GO f L)(hf:∀t,ev f t=ev w t*ev u t){x y:Rat}(hv:vv L x=vv L y){c:Rat->Int}(hc:Cut c)(hx:c x=1)(hy:c y≠1):¬I2 w c:=λhw=>by
 have hxy:x<y:=by
  rcases Gg y x with e|e
  ·rcases Classical.em (y=x)with e'|e'
   ·rw[e']at hy;exact absurd hx hy
   ·have:=hc.mono y x (by grind) hy;omega
  ·exact e
 have hwv:=KZ h hf hxy hv;rcases hc.val y with e|e|e
 ·exact hy e
 ·have:=TN hc e hw;have:=hwv.s;rw[Gs.2 (by assumption)]at this;exact hwv.n this.symm
 ·obtain⟨s,hs,hd⟩:=aJ hc h hf hw;obtain⟨a,ha,hal⟩:=Qit hc hw (iH hc hd) hs;obtain⟨b,hb,hbr⟩:=vU hc hw (zU hc hd) hs;obtain⟨q,q1,q2,q3⟩:=CZ hc hx ha;obtain⟨r,r1,r2,r3⟩:=mP hc hb e;have e1:=hal q q1 (Qt q3);have e2:=hbr r r1 (Qt r2);have hqr:=hc.lt q1 r1;have v1:vv L q<=vv L x:=Ay h q2;have v2:vv L y<=vv L r:=Ay h r3;have v3:vv L r<=vv L q:=Ay h hqr;have s1:=(KZ h hf q2 (by omega)).s;have s2:=(KZ h hf (x:=x) (y:=r) (by grind) (by omega)).s;omega
theorem vD{f:Ur}{L:Us}(h:GO f L){x y:Rat}(hxy:x<y)(hv:vv L x≠vv L y){d:Rat}(dp:0<d):∃q,x<=q/\q<=y/\Fi (ev f q)<d:=by
 obtain⟨R,hR,hx,hy⟩:=xX x y;obtain⟨e1,e1p,hl⟩:=loc hR h (w:=f) (u:=[1]) (λt=>by rw[Tf];grind);obtain⟨e2,e2p,_,e2b⟩:=Hj (M7 hR f) dp;obtain⟨e,ep,h1,h2⟩:=min2 e1p e2p;have key:∀n:Nat,∀x,Fi x<=R->x<y->vv L x≠vv L y->y-x<=(n:Rat)*e->∃q,x<=q/\q<=y/\Fi (ev f q)<d:=by
  intro n
  induction n with
  |zero=>intro x hx hxy _ hn;rw[show((0:Nat):Rat)=0 from rfl]at hn;exfalso;clear hl;grind
  |
   succ n ih =>
   intro x hx hxy hv hn;have hstep:∀z,Fi z<=R->x<z->z-x<=e->vv L x≠vv L z->Fi (ev f z)<d:=λz hz hxz hze hv=>by
    rcases hl x z hx hz hxz (Zl hze h1)with⟨p,_⟩|⟨_,p1,p2,p3,p4⟩
    ·exact absurd p hv
    ·have hd:=Me (p:=f) hx hz hR (e:=e2) (d:=d) (by rw[Mj];clear hl ih;constructor <;> grind) e2b;rw[<-p3]at p1 p4;clear hl ih p2 p3;rw[vJ]at *;rcases Fz (ev f x)with⟨a,a'⟩|⟨a,a'⟩|⟨a,a'⟩ <;> rcases Fz (ev f z)with⟨b,b'⟩|⟨b,b'⟩|⟨b,b'⟩ <;> rw[a,b]at p4 <;> first|(exfalso;revert p4;decide)|skip
     all_goals first|(constructor <;> grind)|(exfalso;omega)
   rcases Gg (y-x) e with h3|h3
   ·exact⟨y,Qt hxy,Qq,hstep y hy hxy h3 hv⟩
   ·have hm:Fi (x+e)<=R:=FQ hx hy (by clear hl ih hstep;grind) (by clear hl ih hstep;grind);rcases Classical.em (vv L x=vv L (x+e))with e0|e0
    ·have hn':(((n+1:Nat):Rat))=(n:Rat)+1:=by push_cast;rfl
     rw[hn']at hn;obtain⟨q,q1,q2,q3⟩:=ih (x+e) hm (by clear hl ih hstep;grind) (by omega) (by clear hl ih hstep;grind);exact⟨q,by clear hl ih hstep;grind,q2,q3⟩
    ·exact⟨x+e,by clear hl ih hstep;grind,by clear hl ih hstep;grind,hstep (x+e) hm (by clear hl ih hstep;grind) (by clear hl ih hstep;grind) e0⟩
 obtain⟨n,hn⟩:=ZD (z:=y-x) ep;exact key n x hx hxy hv hn
theorem Qyj{p:Ur}{x:Rat}(h:Pq p x≠0):∃e:Rat,0<e/\∀y,x<y->y-x<=e->Ff (ev p y)=Pq p x:=by
 by_cases h0:Ff (ev p x)=0
 ·have hx:=Gs.1 h0;rw[nO h0]at h ⊢;have hR:0<=Fi x+1:=by have:=Hw x;grind
  obtain⟨e,e1,e2,e3⟩:=Hj (CJ hR p) (Cw (x:=dv p x) λh'=>h (Gs.2 h'));refine⟨e,e1,λy h1 h2=>?_⟩;have hy:Fi y<=Fi x+1:=by
   have:=Su x (y-x);have e:x+(y-x)=y:=by grind
   have e':Fi (y-x)=y-x:=by unfold Fi;split <;> grind
   rw[e,e']at this;grind
  have:=LJ (p:=p) (by grind) hy hR h1 h2 Qq e3;rw[hx]at this;rw[<-this];congr 1;grind
 ·rw[Al h0]at h ⊢;obtain⟨e,e1,e2⟩:=UH h;exact⟨e,e1,λy h1 h2=>e2 y (by rw[Mj];constructor <;> grind)⟩
def cq(P:Ur)(lo hi q:Rat):Int:=if q<=lo then 1 else if hi<q then -1 else if Ff (ev P q)=0 then 0 else if Ff (ev P q)=Pq P lo then 1 else -1
structure Vt(P:List Rat)(L:List (List Rat))(lo hi:Rat):Prop where
 s:GO P L
 l:lo<hi
 v:vv L lo=vv L hi+1
variable{P:Ur}{L:Us}{lo hi:Rat}
theorem Ae{q:Rat}(h:q<=lo):cq P lo hi q=1:=by unfold cq;rw[if_pos h]
theorem UR{q:Rat}(h:lo<hi)(h':hi<q):cq P lo hi q=-1:=by unfold cq;rw[if_neg (by grind),if_pos h']
theorem Ir{q:Rat}(h1:lo<q)(h2:q<=hi):cq P lo hi q=if Ff (ev P q)=0 then 0 else if Ff (ev P q)=Pq P lo then 1 else -1:=by
 unfold cq;rw[if_neg (by grind),if_neg (by grind)]
theorem Vt.two(V:Vt P L lo hi){q:Rat}(h1:lo<q)(h2:q<=hi):vv L q=vv L lo/\cq P lo hi q=1/\Ff (ev P q)=Pq P lo\/vv L q=vv L hi/\cq P lo hi q≠1/\Pq P q=-Pq P lo/\Pq P lo≠0:=by
 have a:=Ay V.s h1;have b:vv L hi<=vv L q:=by
  rcases Classical.em (q=hi)with e|e
  ·rw[e];exact Qm _
  ·exact Ay V.s (by grind)
 have hv:=V.v;rcases(show vv L q=vv L lo\/vv L q=vv L hi by omega)with e|e
 ·have hs:=kZ V.s h1 e.symm;refine .inl ⟨e,?_,hs.s⟩;rw[Ir h1 h2,hs.s,if_neg hs.n,if_pos rfl]
 ·obtain⟨o1,o2⟩:=kQ V.s h1 (by omega);refine .inr ⟨e,?_,o2,o1⟩;rw[Ir h1 h2]
  split
  ·decide
  ·rename_i h0;rw[Al h0]at o2;rw[if_neg (by omega)];decide
theorem Vt.lowlo(V:Vt P L lo hi):Pq P lo≠0:=(kQ V.s V.l V.v).1
theorem Vt.eq_lo(V:Vt P L lo hi){q:Rat}(h1:lo<q)(h2:q<=hi)(h:cq P lo hi q=1):vv L q=vv L lo:=by
 rcases V.two h1 h2 with⟨e,_⟩|⟨_,e,_⟩
 ·exact e
 ·exact absurd h e
theorem Vt.eq_hi(V:Vt P L lo hi){q:Rat}(h1:lo<q)(h2:q<=hi)(h:cq P lo hi q≠1):vv L q=vv L hi:=by
 rcases V.two h1 h2 with⟨_,e,_⟩|⟨e,_⟩
 ·exact absurd e h
 ·exact e
theorem Vt.hi1(V:Vt P L lo hi):cq P lo hi hi≠1:=λh=>by have:=V.eq_lo V.l Qq h;have:=V.v;omega
theorem Vt.cut(V:Vt P L lo hi):Cut (cq P lo hi) where
 val q:=by unfold cq;split <;> (try split) <;> (try split) <;> (try split) <;> simp
 mono q r h h1:=by
  have hq:lo<q:=by
   rcases Gg q lo with e|e
   ·exact absurd (Ae e) h1
   ·exact e
  rcases Gg r hi with e|e
  ·have e1:=V.eq_hi hq (by grind) h1;rcases V.two (q:=r) (by grind) e with⟨e2,_⟩|⟨e2,_,e3,e4⟩
   ·have:=Ay V.s h;have:=V.v;omega
   ·have hs:=kZ V.s h (by omega);rcases V.two hq (by grind)with⟨e5,_⟩|⟨_,_,e5,_⟩
    ·have:=V.v;omega
    ·rw[Ir (by grind) e,hs.s,if_neg hs.n,e5,if_neg (by omega)]
  ·exact UR V.l e
 up q h:=by
  rcases Gg q lo with e|e
  ·obtain⟨d,dp,hd⟩:=Qyj V.lowlo;obtain⟨f,fp,f1,f2⟩:=min2 (a:=d) (b:=hi-lo) dp (by have:=V.l;grind);have h1:lo<lo+f:=by clear hd;grind
   have h2:lo+f<=hi:=by clear hd;grind
   have:=hd (lo+f) h1 (by clear hd;grind);exact⟨lo+f,by clear hd;grind,by rw[Ir h1 h2,this,if_neg V.lowlo,if_pos rfl]⟩
  ·have hh:q<=hi:=by
    rcases Gg q hi with e'|e'
    ·exact e'
    ·have:=UR (P:=P) V.l e';omega
   rcases V.two e hh with⟨e1,_,e2⟩|⟨_,e1,_⟩
   ·have hn:q≠hi:=λh=>by rw[h]at e1;have:=V.v;omega
    obtain⟨d,dp,hd⟩:=UH (p:=P) (x:=q) (by rw[e2];exact V.lowlo);obtain⟨f,fp,f1,f2⟩:=min2 (a:=d) (b:=hi-q) dp (by clear hd;grind);have:=hd (q+f) (by rw[Mj];clear hd;constructor <;> grind);exact⟨q+f,by clear hd;grind,by rw[Ir (by clear hd;grind) (by clear hd;grind),this,e2,if_neg V.lowlo,if_pos rfl]⟩
   ·exact absurd h e1
 dn q h:=by
  have hq:lo<q:=by
   rcases Gg q lo with e|e
   ·have:=Ae (P:=P) (hi:=hi) e;omega
   ·exact e
  rcases Gg q hi with e|e
  ·rw[Ir hq e]at h
   split at h
   ·cases h
   rename_i h0
   split at h
   ·cases h
   rename_i h1;obtain⟨d,dp,hd⟩:=UH h0;obtain⟨f,fp,f1,f2⟩:=min2 (a:=d) (b:=(q-lo) / 2) dp (Af (by clear hd;grind) (by decide));have h2:(q-lo) / 2*2=q-lo:=Hf (by decide);have:=hd (q-f) (by rw[Mj];clear hd;constructor <;> grind);exact⟨q-f,by clear hd;grind,by rw[Ir (by clear hd;grind) (by clear hd;grind),this,if_neg h0,if_neg h1]⟩
  ·have h2:(q-hi) / 2*2=q-hi:=Hf (by decide);exact⟨q-(q-hi) / 2,by grind,UR V.l (by grind)⟩
 lo:=⟨lo,Ae Qq⟩
 hi:=⟨hi+1,UR V.l (by grind)⟩
theorem Vt.van(V:Vt P L lo hi):I2 P (cq P lo hi):=by
 have hc:=V.cut;rcases JD hc P with h|⟨s,hs,h⟩
 ·exact h
 ·exfalso;have e1:s=Pq P lo:=by
   obtain⟨x,hx,hx1⟩:=iH hc h;obtain⟨q,q1,q2,q3⟩:=CZ hc hx (Ae (P:=P) (hi:=hi) (Qq (a:=lo)));have hq:q<=hi:=by
    rcases Gg q hi with e|e
    ·exact e
    ·have:=UR (P:=P) V.l e;omega
   rcases V.two q3 hq with⟨_,_,e⟩|⟨_,e,_⟩
   ·rw[<-hx1 q q1 (Qt q2),e]
   ·exact absurd q1 e
  rcases hc.val hi with e|e|e
  ·exact V.hi1 e
  ·have h0:=gG hc e h;rw[Ir V.l Qq]at e
   split at e
   ·omega
   ·split at e <;> omega
  ·obtain⟨y,hy,hy1⟩:=zU hc h;obtain⟨q,q1,q2,q3⟩:=mP hc hy e;have hq:lo<q:=hc.lt (Ae (P:=P) (hi:=hi) (Qq (a:=lo))) q1;have:=hy1 q q1 (Qt q2);rw[Ir hq (Qt q3),this,if_neg hs,if_pos e1]at q1;cases q1
def nU(w:Ur)(lo hi:Rat):Prop:=Ff (ev w hi)=0\/Ff (ev w hi)≠Pq w lo
theorem Vt.has(V:Vt P L lo hi){w u:Ur}(hf:∀t,ev P t=ev w t*ev u t){a b:Rat}(h1:lo<=a)(h2:a<b)(h3:b<=hi):nU w a b↔I2 w (cq P lo hi)/\cq P lo hi a=1/\cq P lo hi b≠1:=by
 have hc:=V.cut;have smno:vv L a=vv L b->¬nU w a b:=λh hh=>by
  have:=KZ V.s hf h2 h;rcases hh with e|e
  ·rw[this.s]at e;exact this.n e
  ·exact e this.s
 by_cases ha:cq P lo hi a=1
 ·by_cases hb:cq P lo hi b=1
  ·have e1:=V.eq_lo (by grind) h3 hb;have e2:vv L a=vv L lo:=by
    rcases Classical.em (lo=a)with e|e
    ·rw[e]
    ·exact V.eq_lo (by grind) (by grind) ha
   exact⟨λh=>absurd h (smno (by omega)),λh=>absurd hb h.2.2⟩
  ·have e1:=V.eq_hi (by grind) h3 hb;have e2:vv L a=vv L lo:=by
    rcases Classical.em (lo=a)with e|e
    ·rw[e]
    ·exact V.eq_lo (by grind) (by grind) ha
   have left:∀s,LS w (cq P lo hi) s->s=Pq w a:=λs hs=>by
    obtain⟨x,hx,hx1⟩:=hs;obtain⟨q,q1,q2,q3⟩:=CZ hc hx ha;have hqb:q<b:=by
     rcases Gg b q with e|e
     ·rcases Classical.em (b=q)with e'|e'
      ·rw[e']at hb;exact absurd q1 hb
      ·have:=hc.mono b q (by clear hx1 smno;grind) hb;omega
     ·exact e
    have:=V.eq_lo (q:=q) (by clear hx1 smno;grind) (by clear hx1 smno;grind) q1;rw[<-(KZ V.s hf q3 (by omega)).s,hx1 q q1 (Qt q2)]
   have right:∀s,RS w (cq P lo hi) s->cq P lo hi b=-1->s=Ff (ev w b):=λs hs hb=>by
    obtain⟨y,hy,hy1⟩:=hs;obtain⟨q,q1,q2,q3⟩:=mP hc hy hb;have hqa:=hc.lt ha q1;have:=V.eq_hi (q:=q) (by clear hy1 smno;grind) (by clear hy1 smno;grind) (by omega);have hs:=KZ V.s hf q3 (by omega);have hl:=hy1 q q1 (Qt q2);have h0:Ff (ev w q)≠0:=by
     have hs2:=KZ V.s hf (x:=q) (y:=b) q3 (by omega);intro h0;obtain⟨r,r1,r2⟩:=hc.dn q q1;have har:=hc.lt ha r2;have:=V.eq_hi (q:=r) (by clear hy1 smno;grind) (by clear hy1 smno;grind) (by omega);have hs3:=KZ V.s hf (x:=r) (y:=q) r1 (by omega);have hs4:=hs3.s;rw[h0]at hs4;exact hs3.n hs4.symm
    rw[hs.s,Al h0,hl]
   refine⟨λh=>⟨?_,ha,hb⟩,λ⟨hw,_,_⟩=>?_⟩
   ·rcases JD hc w with e|⟨s,AH,hs⟩
    ·exact e
    ·exfalso;have l1:=left s (iH hc hs);have r1:Ff (ev w b)=s:=by
      rcases hc.val b with e|e|e
      ·exact absurd e hb
      ·exact gG hc e hs
      ·exact(right s (zU hc hs) e).symm
     rcases h with h|h
     ·exact AH (by rw[<-r1];exact h)
     ·exact h (by rw[r1,l1])
   ·rcases hc.val b with e|e|e
    ·exact absurd e hb
    ·exact .inl (Gs.2 (TN hc e hw))
    ·obtain⟨s,AH,hs⟩:=aJ hc V.s hf hw;have l1:=left _ (Qit hc hw (iH hc hs) AH);have r1:=right _ (vU hc hw (zU hc hs) AH) e;exact .inr (by rw[<-l1,<-r1];omega)
 ·have hla:lo<a:=by
   rcases Classical.em (lo=a)with e|e
   ·rw[<-e]at ha;exact absurd (Ae Qq) ha
   ·grind
  have hb:cq P lo hi b≠1:=by have:=hc.mono a b h2 ha;omega
  have e1:=V.eq_hi hla (by grind) ha;have e2:=V.eq_hi (q:=b) (by grind) h3 hb;exact⟨λh=>absurd h (smno (by omega)),λh=>absurd h.2.1 ha⟩
theorem uY{c c':Rat->Int}(hc:Cut c)(hc':Cut c'){q:Rat}(h:c q≠c' q):∃r,(c r=-1/\c' r=1)\/(c r=1/\c' r=-1):=by
 rcases hc.val q with e|e|e <;> rcases hc'.val q with e'|e'|e'
 ·omega
 ·obtain⟨r,r1,r2⟩:=hc.up q e;exact⟨r,.inr ⟨r2,hc'.mono q r r1 (by omega)⟩⟩
 ·exact⟨q,.inr ⟨e,e'⟩⟩
 ·obtain⟨r,r1,r2⟩:=hc'.up q e';exact⟨r,.inl ⟨hc.mono q r r1 (by omega),r2⟩⟩
 ·omega
 ·obtain⟨r,r1,r2⟩:=hc'.dn q e';exact⟨r,.inr ⟨hc.mono' r1 (by omega),r2⟩⟩
 ·exact⟨q,.inl ⟨e,e'⟩⟩
 ·obtain⟨r,r1,r2⟩:=hc.dn q e;exact⟨r,.inl ⟨r2,hc'.mono' r1 (by omega)⟩⟩
 ·omega
theorem Vt.uniq(V:Vt P L lo hi){c:Rat->Int}(hc:Cut c)(h1:c lo=1)(h2:c hi≠1)(hv:I2 P c)(q:Rat):c q=cq P lo hi q:=by
 rcases Classical.em (c q=cq P lo hi q)with e|e
 ·exact e
 ·exfalso;obtain⟨r,⟨r1,r2⟩|⟨r1,r2⟩⟩:=uY hc V.cut e
  ·have hl:=hc.lt h1 r1;have hh:r<=hi:=by
    rcases Gg r hi with e|e
    ·exact e
    ·have:=UR (P:=P) V.l e;omega
   have:=V.eq_lo hl hh r2;exact Qjb V.s (w:=P) (u:=[1]) (λt=>by rw[Tf];grind) (x:=lo) (y:=r) (by omega) hc h1 (by omega) hv
  ·have hl:lo<r:=by
    rcases Gg r lo with e|e
    ·have:=Ae (P:=P) (hi:=hi) e;omega
    ·exact e
   have hh:r<=hi:=by
    rcases Gg r hi with e|e
    ·exact e
    ·have:=hc.mono hi r e h2;omega
   have:=V.eq_hi hl hh (by omega);exact Qjb V.s (w:=P) (u:=[1]) (λt=>by rw[Tf];grind) (x:=r) (y:=hi) (by omega) hc r1 h2 hv
theorem Vt.same(V:Vt P L lo hi){P':Ur}{L':Us}{lo' hi':Rat}(V':Vt P' L' lo' hi'){g u u' U W:Ur}{k:Rat}(hk:k≠0)(h1:∀t,ev P t=ev g t*ev u t)(h2:∀t,ev P' t=ev g t*ev u' t)(h3:∀t,k*ev g t=ev U t*ev P t+ev W t*ev P' t){a b:Rat}(ha1:lo<=a)(ha2:lo'<=a)(ha:a=lo\/a=lo')(hb1:b<=hi)(hb2:b<=hi')(hb:b=hi\/b=hi'):(a<b/\nU g a b)↔∀q,cq P lo hi q=cq P' lo' hi' q:=by
 have hc:=V.cut;have hc':=V'.cut;constructor
 ·rintro⟨hab,hg⟩
  obtain⟨g1,g2,g3⟩:=(V.has h1 ha1 hab hb1).1 hg;obtain⟨g4,g5,g6⟩:=(V'.has h2 ha2 hab hb2).1 hg;intro q;refine(V.uniq hc' (by
   rcases Classical.em (lo=a)with e|e
   ·rw[e];exact g5
   ·exact hc'.mono' (q:=lo) (r:=a) (by grind) (by omega)) (λh=>?_) (Ma hc' h1 g4) q).symm
  rcases Classical.em (b=hi)with e|e
  ·rw[<-e]at h;exact g6 h
  ·have:=hc'.mono b hi (by grind) g6;omega
 ·intro h;have hcc:cq P' lo' hi'=cq P lo hi:=funext λq=>(h q).symm
  have e1:cq P lo hi a=1:=by
   rcases ha with rfl|rfl
   ·exact Ae Qq
   ·rw[h];exact Ae Qq
  have e2:cq P lo hi b≠1:=by
   rcases hb with rfl|rfl
   ·exact V.hi1
   ·rw[h];exact V'.hi1
  have hab:a<b:=by
   rcases Gg b a with e|e
   ·rcases Classical.em (b=a)with e'|e'
    ·rw[e']at e2;exact absurd e1 e2
    ·have:=hc.mono b a (by grind) e2;omega
   ·exact e
  have v1:=V.van;have v2:=V'.van;rw[hcc]at v2;have hg:I2 g (cq P lo hi):=by
   have a1:I2 (G8 U P) (cq P lo hi):=Ma hc (p:=P) (q:=U) (λt=>by rw[Fg];grind) v1;have a2:I2 (G8 W P') (cq P lo hi):=Ma hc (p:=P') (q:=W) (λt=>by rw[Fg];grind) v2;have a3:=NR (λt=>G5 t _ _) a1 a2;refine xQ hc (k:=1 / k) (λt=>?_) a3;rw[G5,Fg,Fg,<-h3];have:1 / k*(k*ev g t)=1 / k*k*ev g t:=by grind
   rw[this,show 1 / k*k=1 from Zj hk];grind
  exact⟨hab,(V.has h1 ha1 hab hb1).2 ⟨hg,e1,e2⟩⟩
end Orq
namespace Orq
theorem Qjs:∀(M:Nat) (f:Nat->Nat),(∀i,i<=M->f i<M)->∃i j,i<j/\j<=M/\f i=f j
 | 0,f,h=>absurd (h 0 (Qm _)) (Uc _)
 |
  M+1,f,h=>by
  rcases Classical.em (∃i,i<=M/\f i=f (M+1))with⟨i,h1,h2⟩|hn
  ·exact⟨i,M+1,by omega,Qm _,h2⟩
  ·have hne:∀i,i<=M->f i≠f (M+1):=λi hi e=>hn ⟨i,hi,e⟩
   obtain⟨i,j,h1,h2,h3⟩:=Qjs M (λi=>if f i=M then f (M+1)else f i) λi hi=>by
    have a1:=h i (by omega);have a2:=h (M+1) (Qm _);have a3:=hne i hi;show(if f i=M then f (M+1)else f i)<M
    split <;> omega
   refine⟨i,j,h1,by omega,?_⟩;have a1:=hne i (by omega);have a2:=hne j h2
   split at h3 <;> split at h3 <;> omega
def dg(B k i:Nat):Nat:=k / B^i % B
theorem aZ(B k i:Nat):dg B k (i+1)=dg B (k / B) i:=by unfold dg;rw[Nat.pow_succ,Nat.mul_comm,Nat.div_div_eq_div_mul]
theorem Qg3{B:Nat}:∀(N:Nat) {k k':Nat},k<B^N->k'<B^N->(∀i,i<N->dg B k i=dg B k' i)->k=k'
 | 0,k,k',h,h',_=>by rw[Ve]at h h';omega
 |
  N+1,k,k',h,h',he=>by
  have h0:=he 0 (by omega);unfold dg at h0;rw[Ve,Nat.div_one,Nat.div_one]at h0;have hB:0<B:=by
   rcases Q3 B with e|e
   ·rw[e,Zr,Y0]at h;omega
   ·exact e
  have h1:=Qg3 N (k:=k / B) (k':=k' / B) (X8 (by rw[Zq,<-Zr];exact h)) (X8 (by rw[Zq,<-Zr];exact h')) λi hi=>by
   rw[<-aZ,<-aZ];exact he (i+1) (by omega)
  rw[<-We k B,<-We k' B,h0,h1]
def cd(B:Nat):Nat->(Nat->Nat)->Nat
 | 0,_=>0
 |E+1,x=>x 0+B*cd B E λe=>x (e+1)
theorem Qr0{B:Nat}:∀(E:Nat) {x:Nat->Nat},(∀e,e<E->x e<B)->cd B E x<B^E
 | 0,_,_=>by simp[cd]
 |
  E+1,x,h=>by
  have h1:=h 0 (by omega);have h2:=Qr0 E (x:=λe=>x (e+1)) λe he=>h (e+1) (by omega)
  simp only[cd];have h3:B*cd B E (λe=>x (e+1))+B<=B*B^E:=by
   rw[<-W5];exact Zu _ h2
  rw[Zr,Zq (B^E)];omega
theorem Qgn{B:Nat}:∀(E:Nat) {x y:Nat->Nat},(∀e,e<E->x e<B)->(∀e,e<E->y e<B)->cd B E x=cd B E y->∀e,e<E->x e=y e
 | 0,_,_,_,_,_,e,he=>by omega
 |
  E+1,x,y,hx,hy,h,e,he=>by
  have h1:=hx 0 (by omega);have h2:=hy 0 (by omega);simp only[cd]at h;have e0:x 0=y 0:=by
   have:=congrArg (· % B) h;simp only[Ka]at this;rwa[Xw h1,Xw h2]at this
  have e1:cd B E (λe=>x (e+1))=cd B E (λe=>y (e+1)):=Nat.eq_of_mul_eq_mul_left (by omega:0<B) (by omega);cases e with
  |zero=>exact e0
  |succ e=>exact Qgn E (λe he=>hx (e+1) (by omega)) (λe he=>hy (e+1) (by omega)) e1 e (by omega)
def sm:Nat->(Nat->Int)->Int
 | 0,_=>0
 |n+1,f=>sm n f+f n
theorem Qk0(f g:Nat->Int):∀n,sm n (λi=>f i-g i)=sm n f-sm n g
 | 0=>rfl
 |n+1=>by simp only[sm,Qk0 f g n];omega
theorem Lr{f g:Nat->Int}:∀n,(∀i,i<n->f i=g i)->sm n f=sm n g
 | 0,_=>rfl
 |n+1,h=>by simp only[sm,Lr n (λi hi=>h i (by omega)),h n (by omega)]
theorem Qkz{f:Nat->Int}{b:Nat}:∀n,(∀i,i<n->(f i).natAbs<=b)->(sm n f).natAbs<=n*b
 | 0,_=>by simp[sm]
 |
  n+1,h=>by
  have h1:=Qkz n λi hi=>h i (by omega)
  have h2:=h n (by omega);simp only[sm];rw[Xb];omega
theorem VQ{f:Nat->Int}:∀n,(∀i,i<n->f i=0)->sm n f=0
 | 0,_=>rfl
 |n+1,h=>by simp only[sm,VQ n (λi hi=>h i (by omega)),h n (by omega)];rfl
theorem cL(f:Nat->Int)(m:Nat):∀n,sm (m+n) f=sm m f+sm n λi=>f (m+i)
 | 0=>by simp[sm]
 |n+1=>by rw[<-Yq];simp only[sm,cL f m n];omega
theorem cE(f:Nat->Int)(J:Nat):∀b,sm (b*J) f=sm b λi=>sm J λj=>f (i*J+j)
 | 0=>by simp[sm]
 |b+1=>by rw[Xb,cL,cE f J b];rfl
theorem EP{f:Nat->Int}{k:Nat}:∀n,k<n->(∀i,i<n->i≠k->f i=0)->sm n f=f k
 | 0,h,_=>by omega
 |
  n+1,h,h1=>by
  simp only[sm];rcases Vm (Nat.le_of_lt_succ h)with e|e
  ·rw[EP n e λi hi=>h1 i (by omega),h1 n (by omega) (by omega)];omega
  ·subst e;rw[VQ k λi hi=>h1 i (by omega) (by omega)];omega
theorem Qwg{M:Nat->Nat->Int}{h N E H:Nat}(hM:∀e i,(M e i).natAbs<=h)(hc:(2*(N*(h*H))+1)^E<(H+1)^N) :
 ∃v:Nat->Int,(∀i,(v i).natAbs<=H)/\(∃i,i<N/\v i≠0)/\∀e,e<E->sm N (λi=>M e i*v i)=0:=by
 obtain⟨T,hT⟩:=nmE (N*(h*H));rw[<-hT]at hc;have hv:∀k i,dg (H+1) k i<=H:=λk i=>Nat.le_of_lt_succ (Z6 _ (by omega))
 have hs:∀k e,(sm N λi=>M e i*(dg (H+1) k i:Int)).natAbs<=T:=λk e=>by
  rw[hT];refine Qkz N λi _=>?_
  rw[Yc,Xi];exact Zd (hM e i) (hv k i)
 have him:∀k e,((sm N λi=>M e i*(dg (H+1) k i:Int))+T).toNat<2*T+1:=λk e=>by have:=hs k e;omega
 obtain⟨i,j,h1,h2,h3⟩:=Qjs ((2*T+1)^E) (λk=>cd (2*T+1) E λe=>((sm N λi=>M e i*(dg (H+1) k i:Int))+T).toNat) λk _=>Qr0 E λe _=>him k e
 have h4:=Qgn E (λe _=>him i e) (λe _=>him j e) h3;refine⟨λn=>(dg (H+1) i n:Int)-dg (H+1) j n,λn=>?_,?_,λe he=>?_⟩
 ·have a1:=hv i n;have a2:=hv j n;show((dg (H+1) i n:Int)-dg (H+1) j n).natAbs<=H;omega
 ·rcases Classical.em (∃n,n<N/\(dg (H+1) i n:Int)-dg (H+1) j n≠0)with e|e
  ·exact e
  ·exfalso;have:i=j:=Qg3 (B:=H+1) N (by omega) (by omega) λn hn=>by
    rcases Classical.em (dg (H+1) i n=dg (H+1) j n)with e'|e'
    ·exact e'
    ·exact absurd ⟨n,hn,by omega⟩ e
   omega
 ·have a1:=h4 e he;have a2:=hs i e;have a3:=hs j e;have:(sm N λn=>M e n*(dg (H+1) i n:Int))=sm N λn=>M e n*(dg (H+1) j n:Int):=by omega
  have e1:=Qk0 (λn=>M e n*(dg (H+1) i n:Int)) (λn=>M e n*(dg (H+1) j n:Int)) N;rw[this]at e1;rw[Lr N (g:=λn=>M e n*(dg (H+1) i n:Int)-M e n*(dg (H+1) j n:Int)) λn _=>Int.mul_sub _ _ _,e1];omega
def U8:Uo->Rat->Rat
 | [],_=>0
 |a::p,t=>(a:Rat)+t*U8 p t
def sq:Nat->(Nat->Rat)->Rat
 | 0,_=>0
 |n+1,f=>sq n f+f n
theorem Pv{f g:Nat->Rat}:∀n,(∀i,i<n->f i=g i)->sq n f=sq n g
 | 0,_=>rfl
 |n+1,h=>by simp only[sq,Pv n (λi hi=>h i (by omega)),h n (by omega)]
theorem dJ(f g:Nat->Rat):∀n,sq n (λi=>f i+g i)=sq n f+sq n g
 | 0=>by simp only[sq];grind
 |n+1=>by simp only[sq,dJ f g n];grind
theorem JP(c:Rat)(f:Nat->Rat):∀n,sq n (λi=>c*f i)=c*sq n f
 | 0=>by simp only[sq];grind
 |n+1=>by simp only[sq,JP c f n];grind
theorem Cz{f:Nat->Rat}:∀n,(∀i,i<n->f i=0)->sq n f=0
 | 0,_=>rfl
 |n+1,h=>by simp only[sq,Cz n (λi hi=>h i (by omega)),h n (by omega)];grind
theorem O6(f:Nat->Rat):∀n,sq (n+1) f=f 0+sq n λi=>f (i+1)
 | 0=>by simp only[sq];grind
 |n+1=>by rw[sq,O6 f n];simp only[sq];grind
theorem Qsu{f:Nat->Rat}{b:Rat}:∀n,(∀i,i<n->Fi (f i)<=b)->Fi (sq n f)<=(n:Rat)*b
 | 0,_=>by rw[show((0:Nat):Rat)=0 from rfl];simp only[sq,Rl];grind
 |
  n+1,h=>by
  have h1:=Qsu n λi hi=>h i (by omega)
  have h2:=h n (by omega);have h3:=Su (sq n f) (f n);have hn':(((n+1:Nat):Rat))=(n:Rat)+1:=by push_cast;rfl
  rw[hn'];simp only[sq];clear h;grind
def gc:Uo->Nat->Nat->Int
 | [],_,_=>0
 |c::B,k,j=>(if k=0/\j=0 then c else 0)+(if k=0 then 0 else gc B (k-1) j)-(if j=0 then 0 else gc B k (j-1))
def gB:Uo->Nat
 | []=>0
 |c::B=>max c.natAbs (2*gB B)
theorem MS:∀(B:Uo) (k j:Nat),B.length<=k+j->gc B k j=0
 | [],_,_,_=>rfl
 |
  c::B,k,j,h=>by
  simp only[Q5]at h;simp only[gc];rw[if_neg (by omega)];have e1:(if k=0 then 0 else gc B (k-1) j)=0:=by
   split
   ·rfl
   ·exact MS B _ _ (by omega)
  have e2:(if j=0 then 0 else gc B k (j-1))=0:=by
   split
   ·rfl
   ·exact MS B _ _ (by omega)
  rw[e1,e2];rfl
theorem Qhu:∀(B:Uo) (k j:Nat),(gc B k j).natAbs<=gB B
 | [],_,_=>Qh _
 |
  c::B,k,j=>by
  have h1:=Qhu B (k-1) j;have h2:=Qhu B k (j-1);simp only[gc,gB];by_cases hk:k=0 <;> by_cases hj:j=0 <;> simp only[hk,hj,true_and,and_true,false_and,and_false,if_true,if_false] <;> (try subst hk) <;> (try subst hj) <;> omega
theorem Qhv:∀(B:Uo) (b:Nat),B.length=b+1->(gc B 0 b).natAbs=(B.getD b 0).natAbs
 | [],_,h=>by simp at h
 | [c],0,_=>by simp[gc]
 |c::d::B,0,h=>by simp at h
 |
  c::B,b+1,h=>by
  have ih:=Qhv B b (by simpa using h);simp only[gc];simp only[Ye,Q4];rw[if_pos trivial,if_neg (Nat.succ_ne_zero b),<-ih];omega
def E2(F:Nat->Nat->Int)(K J:Nat)(x y:Rat):Rat:=sq K λk=>sq J λj=>(F k j:Rat)*(y^k*x^j)
theorem mD(F G:Nat->Nat->Int)(K J:Nat)(x y:Rat):E2 (λk j=>F k j+G k j) K J x y=E2 F K J x y+E2 G K J x y:=by
 unfold E2;rw[<-dJ];refine Pv K λk _=>?_
 rw[<-dJ];exact Pv J λj _=>by push_cast;grind
theorem Qhb(c:Int)(F:Nat->Nat->Int)(K J:Nat)(x y:Rat):E2 (λk j=>F k j*c) K J x y=(c:Rat)*E2 F K J x y:=by
 unfold E2;rw[<-JP];refine Pv K λk _=>?_
 rw[<-JP];exact Pv J λj _=>by push_cast;grind
theorem Qhc(φ:Nat->Nat->Nat->Int)(v:Nat->Int)(K J:Nat)(x y:Rat):∀N,E2 (λk j=>sm N λn=>φ n k j*v n) K J x y=sq N λn=>(v n:Rat)*E2 (φ n) K J x y
 |
  0=>by
  simp only[sq,sm];unfold E2;refine Cz K λk _=>Cz J λj _=>?_
  rw[show((0:Int):Rat)=0 from rfl];grind
 |
  N+1=>by
  simp only[sq];rw[<-Qhc φ v K J x y N,<-Qhb,<-mD];rfl
theorem GZ(t:Rat)(i:Nat):∀k,t^(i+k)=t^i*t^k
 | 0=>by rw[Xo,Xh];grind
 |k+1=>by rw[<-Yq,Z9,Z9,GZ t i k];grind
theorem EN(f:Nat->Rat):∀(i n:Nat),sq (i+n) (λk=>if i<=k then f (k-i)else 0)=sq n f
 |i,0=>Cz _ λk hk=>by rw[if_neg (by omega)]
 |
  i,n+1=>by
  rw[<-Yq];simp only[sq];rw[EN f i n,if_pos (by omega),Jk]
def PC(i j':Nat)(F:Nat->Nat->Int)(k j:Nat):Int:=if i<=k then(if j'<=j then F (k-i) (j-j')else 0)else 0
theorem CP(F:Nat->Nat->Int)(i j' K J:Nat)(x y:Rat):E2 (PC i j' F) (i+K) (j'+J) x y=y^i*x^j'*E2 F K J x y:=by
 unfold E2;rw[<-JP,<-EN _ i K];refine Pv _ λk _=>?_
 by_cases hk:i<=k
 ·rw[if_pos hk,<-JP,<-EN _ j' J];refine Pv _ λj _=>?_
  unfold PC;rw[if_pos hk];by_cases hj:j'<=j
  ·rw[if_pos hj,if_pos hj];have e1:y^k=y^i*y^(k-i):=by rw[<-GZ];congr 1;omega
   have e2:x^j=x^j'*x^(j-j'):=by rw[<-GZ];congr 1;omega
   rw[e1,e2];grind
  ·rw[if_neg hj,if_neg hj,show((0:Int):Rat)=0 from rfl];grind
 ·rw[if_neg hk];refine Cz _ λj _=>?_
  unfold PC;rw[if_neg hk,show((0:Int):Rat)=0 from rfl];grind
def fA(A:Uo)(k j:Nat):Int:=if j=0 then A.getD k 0 else 0
theorem Qjr(y:Rat):∀(A:Uo) (K:Nat),A.length<=K->sq K (λk=>((A.getD k 0:Int):Rat)*y^k)=U8 A y
 | [],K,_=>by rw[Cz];rfl;intro i _;simp
 |a::A,0,h=>by simp at h
 |
  a::A,K+1,h=>by
  have ih:=Qjr y A K (by simpa using h);rw[O6];simp only[U8,Zt,Q4,Xh];rw[<-ih,<-JP];have:(sq K λi=>((A.getD i 0:Int):Rat)*y^(i+1))=sq K λi=>y*(((A.getD i 0:Int):Rat)*y^i):=Pv K λi _=>by rw[Z9];grind
  rw[this];grind
theorem Qyf(A:Uo)(K J:Nat)(x y:Rat)(h:A.length<=K):E2 (fA A) K (J+1) x y=U8 A y:=by
 rw[<-Qjr y A K h];refine Pv K λk _=>?_
 rw[O6,Cz]
 ·simp only[fA,if_true,Xh];grind
 ·intro j _;simp only[fA];rw[if_neg (by omega),show((0:Int):Rat)=0 from rfl];grind
theorem Qun(x y:Rat):∀(B:Uo) (K J:Nat),B.length<=K->B.length<=J->E2 (gc B) K J x y=U8 B (y-x)
 |
  [],K,J,_,_=>by
  unfold E2;simp only[gc,U8];exact Cz K λk _=>Cz J λj _=>by rw[show((0:Int):Rat)=0 from rfl];grind
 |c::B,0,J,h,_=>by simp at h
 |c::B,K+1,0,_,h=>by simp at h
 |
  c::B,K+1,J+1,h1,h2=>by
  have i1:=Qun x y B K (J+1) (by simpa using h1) (by simp at h2;omega);have i2:=Qun x y B (K+1) J (by simp at h1;omega) (by simpa using h2);have s1:=CP (gc B) 1 0 K (J+1) x y;have s2:=CP (gc B) 0 1 (K+1) J x y;rw[Zy,Jv 1 K]at s1;rw[Zy,Jv 1 J]at s2;rw[i1]at s1;rw[i2]at s2;have e0:E2 (fA [c]) (K+1) (J+1) x y=(c:Rat):=by rw[Qyf [c] (K+1) J x y (by simp)];simp only[U8];grind
  have e1:gc (c::B)=λk j=>(fA [c] k j+PC 1 0 (gc B) k j)+PC 0 1 (gc B) k j*(-1):=by
   funext k j;simp only[gc,fA,PC];by_cases hk:k=0 <;> by_cases hj:j=0
   ·subst hk;subst hj;simp
   ·subst hk;simp[hj,show 1<=j by omega]
    try omega
   ·subst hj;obtain⟨m,rfl⟩:∃m,k=m+1:=⟨k-1,by omega⟩;simp
   ·obtain⟨m,rfl⟩:∃m,k=m+1:=⟨k-1,by omega⟩;obtain⟨i,rfl⟩:∃i,j=i+1:=⟨j-1,by omega⟩;simp;omega
  rw[e1,mD (λk j=>fA [c] k j+PC 1 0 (gc B) k j) (λk j=>PC 0 1 (gc B) k j*(-1)),mD (fA [c]) (PC 1 0 (gc B)),Qhb,e0,s1,s2];simp only[U8,Xh,show y^1=y by rw[Z9,Xh];grind,show x^1=x by rw[Z9,Xh];grind];rw[show(((-1:Int)):Rat)=-1 from rfl];grind
end Orq
