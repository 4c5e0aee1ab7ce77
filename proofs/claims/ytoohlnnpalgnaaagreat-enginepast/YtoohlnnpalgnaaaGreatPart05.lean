/- C2 D1 E1 AlgL F1 F2 F3 F4 F5 T1 T2 T3 T4 T5 T6 T7 T8 T9 -/
import Derived.Test.YtoohlnnpalgnaaaGreatPart04
import Derived.Test.YtoohlnnpalgnaaaGreatPart00
set_option linter.all false
namespace Orr
open Go Go.Proofs Tryz
set_option maxRecDepth 10000
theorem Tf{l:List Pt}{i:Nat}{p:Pt}(h:l[i]? = some p):(l.map Fa)[i]? = some [pl p.c.x,pl p.c.y,sg p.c.d,mg p.c.d,.int .i64 p.id]:=G6 h
theorem Sr(l:List Pt):∀c∈l.map Fa,c.length=5:=Qse l λ_=>rfl
theorem lD{lx ly:Ut}{px py:Un}{x y:LV}{d:Int}(hx:IsInts lx px)(hy:IsInts ly py)(hd:Gb x y d)(hk:Cs 4294967294 1073741824 (Crv.mk px py d))(id:Int):Uk 287 [.agg [.row lx,.row ly,x,y,.int .i64 id]] [.agg (Fa ⟨Crv.norm (Crv.mk px py d),id⟩)]:=by
 have cd:=Ml hd (Qa hk.d (by omega));by_cases h0:d=0
 ·subst h0;have ck:Cs 4294967294 1073741824 (Crv.mk px py 1):=⟨hk.x,hk.y,show Fb 1<=4294967294 by decide,hk.lx,hk.ly⟩;have cm:=UW hx hy (U3 1) ck (by decide);have e:Crv.norm (Crv.mk px py 1)=Crv.norm (Crv.mk px py 0):=by simp only[Crv.norm,Crv.g,Crv.d'];rfl
  rw[e]at cm;obtain⟨b,l,rfl,rfl,_⟩:=hd;exact Uh func287 rfl [.k cd,.k Df,.t (by simp),.k (BU (z:=1) (by decide)),.k cm] rfl
 ·have cm:=UW hx hy hd hk h0;obtain⟨b,l,rfl,rfl,_⟩:=hd;exact Uh func287 rfl [.k cd,.k Df,.f (by simpa using h0),.k cm] rfl
theorem Qfo{l:List Pt}(id:Int)(hl:l.length<1073741824):Uk 286 [.agg [pts l],.oi id] [.oi (Rt l id:Int),.one (.bool (has l id))]:=by
 refine Fu func286 rfl ?_;refine Ue [] rfl ?_;refine ct 2 (S:=Unit) (λ_=>[(1,.v (.oi id)),(2,.v (.one (.ow 0 0))),(6,.v (.oi (Rt l id:Int)))]) (λ_=>[.blk 218 [pts l]]) (λ_=>True) rfl ?_ ?_
 ·refine Uj (S:=Nat) 1 (λL1 k=>(6,.v (.oi k))::L1) (λ_=>[.blk 218 [pts l]]) (λk=>l.length-k) (λk=>k<=l.length/\∀j p,j<k->l[j]? = some p->p.id<id) 0 ⟨Qh _,λj p h=>by omega⟩ rfl rfl λk ⟨hk,hlt⟩=>?_
  by_cases h:k<l.length
  ·obtain⟨p,hp⟩:=gxE (l:=l) (i:=k) h;by_cases hid:p.id<id
   ·refine Uf [.t (by simp;omega),.x (Tf hp),.t (by simpa using hid)] rfl ?_;exact rd (k+1) (by omega) ⟨h,λj q hj hq=>by
     rcases Zb j k with h2|h2
     ·exact hlt j q h2 hq
     ·have:j=k:=by omega
      subst this;rw[hp]at hq;injection hq with hq;rw[<-hq];exact hid⟩ rfl
   ·have e:=EV hlt (.inr ⟨p,hp,hid⟩);refine Ue [.t (by simp;omega),.x (Tf hp),.f (by simpa using hid)] rfl ?_;rw[e];exact rc () trivial rfl
  ·obtain rfl:k=l.length:=by omega
   have e:=EV hlt (.inl rfl);refine Ue [.f (by simp),.f rfl] rfl ?_;rw[e];exact rc () trivial rfl
 ·intro _ _;by_cases h:Rt l id<l.length
  ·obtain⟨p,hp⟩:=gxE (l:=l) (i:=Rt l id) h;have e:has l id=decide (p.id=id):=by simp[has,hp]
   rw[e];exact Ug [.g 30 true (by simp;omega),.x (Tf hp)] rfl
  ·have e:has l id=false:=by simp[has,Qu (J8 h)]
   rw[e];exact Ug [.g 30 false (by simp;omega)] rfl
theorem Il{l:List Pt}:Uk 252 [.agg [pts l]] [.one (pts l)]:=Uh func252 rfl [] rfl
theorem wR{lx ly:Ut}{px py:Un}{x y:LV}{d id:Int}{l:List Pt}(hx:IsInts lx px)(hy:IsInts ly py)(hd:Gb x y d)(hk:Cs 4294967294 1073741824 (Crv.mk px py d))(hl:l.length<=1000000) :
 Uk 249 [.agg [pts l],.agg [.row lx,.row ly,x,y,.int .i64 id]] [.agg [pts (if WG l (Pt.mk (Crv.norm (Crv.mk px py d)) id)=0 then put l (Pt.mk (Crv.norm (Crv.mk px py d)) id)else l)],.oi (WG l (Pt.mk (Crv.norm (Crv.mk px py d)) id))]:=by
 have ca:=Qfo (l:=l) id (by omega);have cf:=lD hx hy hd hk id;obtain⟨b,r,rfl,rfl,_⟩:=hd;obtain⟨q,hq⟩:=nmE (Pt.mk (Crv.norm (Crv.mk px py d)) id);have hqi:q.id=id:=by rw[hq]
 rw[<-hq]at cf ⊢;have hpl:=yO l id;by_cases h1:has l id=true
 ·have e:WG l q=6:=by simp[WG,hqi,h1]
  rw[e,if_neg (by decide)];exact Uh func249 rfl [.k ca,.t h1] rfl
 by_cases h2:6<=l.length
 ·have e:WG l q=9:=by simp[WG,hqi,h1,h2]
  rw[e,if_neg (by decide)];exact Uh func249 rfl [.k ca,.f (by simpa using h1),.t (by simp;omega)] rfl
 have e:WG l q=0:=by simp[WG,hqi,h1,h2]
 rw[e,if_pos rfl];have s1:∀c∈(l.map Fa).take (Rt l id),c.length=5:=λc hc=>Sr l c (Qn hc)
 have s3:∀c∈(l.map Fa).drop (Rt l id),c.length=5:=λc hc=>Sr l c (Qz hc)
 refine Uh func249 rfl [.k ca,.f (by simpa using h1),.f (by simp;omega),.i (Rt l id),.s s1,.k cf,.i (Rt l id),.s s3] rfl ?_ ?_
 ·simp[put,hqi,pts,Jw,Vh,Fa]
 ·simp[U0];exact⟨by omega,hpl,λ_ _=>rfl,by omega,by omega,hpl⟩
theorem mX{l:List Pt}(hok:∀p∈l,Qaw 4294967294 1073741824 p)(hl:l.length<1073741824):Uk 257 [.agg [pts l]] [.one (pts (Tn l))]:=by
 refine Fu func257 rfl ?_;refine Ue [.o 3 40 5] rfl ?_;refine Uj (S:=Nat) 2 (λL1 i=>(12,.v (.oi i))::(3,.v (.one (.orow 1 5 none)))::L1) (λi=>[.blk 218 [pts l],.row false 40 5 (((l.take i).foldl B5 []).map Fa)]) (λi=>l.length-i) (λi=>i<=l.length) 0 (Qh _) rfl rfl λi hi=>?_
 by_cases hlt:i<l.length
 ·obtain⟨p,hp⟩:=gxE (l:=l) (i:=i) hlt;obtain⟨hn,hk⟩:=hok p (Qc hp);have hws:=Sf B5 [] l hp;have hwl:=KY l i;have hwm:=KV l i;obtain⟨o,ho⟩:=nmE ((l.take i).foldl B5 []);rw[<-ho]at hws hwl hwm ⊢;refine Ue [.t (by simp;omega),.x (Tf hp)] rfl ?_;refine Uj (S:=Nat) 3 (λL1 k=>(18,.v (.oi k))::(6,.v (.one (.bool ((o.take k).any λq=>Ea p.c q.c))))::L1) (λk=>[.blk 218 [pts l],.row false 40 5 (o.map Fa),.blk 40 (Fa p)]) (λk=>o.length-k) (λk=>k<=o.length) 0 (Qh _) rfl rfl λk hk2=>?_
  by_cases hk3:k<o.length
  ·obtain⟨q,hq⟩:=gxE (l:=o) (i:=k) hk3;obtain⟨hqn,hqk⟩:=hok q (hwm q (Qc hq));have hany:((o.take (k+1)).any λq=>Ea p.c q.c)=(((o.take k).any λq=>Ea p.c q.c) || Ea p.c q.c):=by rw[Y7,hq,List.any_append];simp
   cases hb:(o.take k).any λq=>Ea p.c q.c with
   |
    true =>
    rw[hb]at hany;refine Uf [.t (by simp;omega),.i k,.x (Tf hq),.t rfl,.r 29 (v:=.one (.bool ((o.take (k+1)).any λq=>Ea p.c q.c))) (by rw[hany];rfl)] rfl ?_;exact rd (k+1) (by omega) hk3 rfl
   |
    false =>
    rw[hb]at hany;refine Uf [.t (by simp;omega),.i k,.x (Tf hq),.f rfl,.k (lP hn hqn hk hqk),.r 29 (v:=.one (.bool ((o.take (k+1)).any λq=>Ea p.c q.c))) (by rw[hany];rfl)] rfl ?_;exact rd (k+1) (by omega) hk3 rfl
  ·obtain rfl:k=o.length:=by omega
   rw[Q6];cases hb:o.any λq=>Ea p.c q.c with
   |
    true =>
    have e:B5 o p=o:=by unfold B5;rw[if_pos hb]
    exact go tt [.f (by simp),.f rfl] rfl (by simp[U0];omega) (rd (i+1) (by omega) hlt (by rw[hws,e];rfl))
   |
    false =>
    have e:B5 o p=o++[p]:=by unfold B5;rw[if_neg (by rw[hb];decide)]
    exact go tt [.f (by simp),.t rfl] rfl (by simp[U0];omega) (rd (i+1) (by omega) hlt (by rw[hws,e,Yh];rfl))
 ·obtain rfl:i=l.length:=by omega
  exact Ug [.f (by simp)] rfl (by rw[Q6];rfl) trivial
theorem Qal(q:Rat):Fc [-q.num,(q.den:Int)]:=by
 have:=q.den_nz;simp[Fc,trim,this]
theorem Qxg{s:Nat}{q:Rat}(h:Qs s q):Bd s [-q.num,(q.den:Int)]:=λz hz=>by
 simp at hz;rcases hz with rfl|rfl
 ·rw[Hj];exact h.1
 ·exact h.2
theorem VL{x y x' y':LV}{n d:Int}(h1:Gb x y n)(h2:Gb x' y' d)(hn:Fb n<=4294967295)(hd:Fb d<=4294967295)(hq:Qs 4294967295 (Gd n d)):Uk 98 [.agg [x,y,x',y']] [.agg (qa (Gd n d))]:=by
 have c1:=BA h1 h2 hn hd;obtain⟨b,l,rfl,rfl,_⟩:=h1;obtain⟨b',l',rfl,rfl,_⟩:=h2;exact Uh func98 rfl [.k c1,.k (BW (U3 _) hq.1),.k (Ns hq)] rfl
theorem Dt{k:Crv}(hn:ZM k)(hk:Cs 4294967294 1073741824 k):Uk 242 [.agg (cl k)] [.agg (cl k)]:=by
 have h0:k.d≠0:=by have:=hn.2.2.1;omega
 have cm:=UW (Gm k.x) (Gm k.y) (U3 k.d) hk h0;rw[show Crv.mk k.x k.y k.d=k from rfl,Crv.norm_of hn]at cm;exact Uh func242 rfl [.k (Ml (U3 k.d) (Qa hk.d (by omega))),.k Df,.f (by simpa using h0),.k cm] rfl
theorem UV{a b:Crv}(ha:ZM a)(hb:ZM b)(ca:Cb a)(cb:Cb b):Uk 232 [.agg (cl a),.agg (cl b)] [pr (Gl a b)]:=by
 have l1:=ca.lx;have l2:=cb.lx;have l3:=Fw b.x a.d;have l4:=Fw a.x b.d;exact Uh func232 rfl [.k (Dt ha (ca.mono (by omega) (by omega))),.k (Dt hb (cb.mono (by omega) (by omega))),.k (Pn (by omega) (U4 cb.x (by omega)) (Qa ca.d (by omega))),.k (Pn (by omega) (U4 ca.x (by omega)) (Qa cb.d (by omega))),.k (HG (by omega) (by omega) (U4 (Ge cb.x ca.d) (by omega)) (U4 (Ge ca.x cb.d) (by omega)))] rfl
theorem UJ{a b:Crv}(ha:ZM a)(hb:ZM b)(ca:Cb a)(cb:Cb b):Uk 233 [.agg (cl a),.agg (cl b)] [pr (Gk a b)]:=by
 have l1:=ca.ly;have l2:=cb.ly;have l3:=Fw b.y a.d;have l4:=Fw a.y b.d;exact Uh func233 rfl [.k (Dt ha (ca.mono (by omega) (by omega))),.k (Dt hb (cb.mono (by omega) (by omega))),.k (Pn (by omega) (U4 cb.y (by omega)) (Qa ca.d (by omega))),.k (Pn (by omega) (U4 ca.y (by omega)) (Qa cb.d (by omega))),.k (HG (by omega) (by omega) (U4 (Ge cb.y ca.d) (by omega)) (U4 (Ge ca.y cb.d) (by omega)))] rfl
def S9(ps:Uo):Ut:=ps.map λp=>[pl p]
theorem Rl{ps:Uo}{i:Nat}{p:Un}(h:ps[i]? = some p):(S9 ps)[i]? = some [pl p]:=G6 h
theorem wP{p q:Un}:Uk 291 [pr p,pr q] [pr (Lq p q)]:=by
 by_cases h:0<p.length
 ·exact Uh func291 rfl [.t (by simp;omega)] rfl (by simp only[Lq];rw[if_pos h]) trivial
 ·exact Uh func291 rfl [.f (by simp;exact Qj (by omega))] rfl (by simp only[Lq];rw[if_neg h]) trivial
theorem Qbo:Uk 290 [.oi 1] [.oi 2]:=Uh func290 rfl [.t rfl,.t rfl] rfl
theorem Qbp:Uk 290 [.oi 2] [.oi 2]:=Uh func290 rfl [.f rfl,.t rfl] rfl
theorem Qbq:Uk 290 [.oi 3] [.oi 3]:=Uh func290 rfl [.f rfl,.f rfl,.t rfl] rfl
theorem Qbr:Uk 290 [.oi 4] [.oi 4]:=Uh func290 rfl [.f rfl,.f rfl,.f rfl,.t rfl,.t rfl] rfl
theorem Qbs:Uk 290 [.oi 5] [.oi 4]:=Uh func290 rfl [.f rfl,.f rfl,.f rfl,.f rfl,.t rfl] rfl
theorem Qeq{k i0 i1 i2 i3 l j0 j1 j2 j3:Int}:Uk 322 [.agg [.int .i64 k,.int .i64 i0,.int .i64 i1,.int .i64 i2,.int .i64 i3],.agg [.int .i64 l,.int .i64 j0,.int .i64 j1,.int .i64 j2,.int .i64 j3]] [.one (.bool (C9 [k,i0,i1,i2,i3] [l,j0,j1,j2,j3]))]:=by
 by_cases hk:k=l
 ·subst hk;rw[show C9 [k,i0,i1,i2,i3] [k,j0,j1,j2,j3]=C9 [i0,i1,i2,i3] [j0,j1,j2,j3] from by simp[C9]];refine Fu func322 rfl ?_;refine Ue [.f (by simp)] rfl ?_;refine Uj (S:=Nat) 2 (λL1 i=>(19,.v (.oi i))::L1) (λ_=>[.blk 97 [.int .i64 k,.int .i64 i0,.int .i64 i1,.int .i64 i2,.int .i64 i3],.blk 97 [.int .i64 k,.int .i64 j0,.int .i64 j1,.int .i64 j2,.int .i64 j3]]) (λi=>4-i) (λi=>i<=4/\C9 ([i0,i1,i2,i3].drop i) ([j0,j1,j2,j3].drop i)=C9 [i0,i1,i2,i3] [j0,j1,j2,j3]) 0 ⟨by omega,rfl⟩ rfl rfl λi ⟨hi,he⟩=>?_
  rw[<-he];rcases(show i=0\/i=1\/i=2\/i=3\/i=4 by omega)with rfl|rfl|rfl|rfl|rfl
  ·by_cases h:i0=j0
   ·exact go tt [.t rfl,.i 0,.i 0,.f (by simpa using h)] rfl (by simp[U0]) (rd 1 (by omega) ⟨by omega,by simp[C9,h]⟩ rfl)
   ·exact Ug [.t rfl,.i 0,.i 0,.t (by simpa using h),.i 0] rfl (by simp[C9,h]) trivial
  ·by_cases h:i1=j1
   ·exact go tt [.t rfl,.i 1,.i 1,.f (by simpa using h)] rfl (by simp[U0]) (rd 2 (by omega) ⟨by omega,by simp[C9,h]⟩ rfl)
   ·exact Ug [.t rfl,.i 1,.i 1,.t (by simpa using h),.i 1] rfl (by simp[C9,h]) trivial
  ·by_cases h:i2=j2
   ·exact go tt [.t rfl,.i 2,.i 2,.f (by simpa using h)] rfl (by simp[U0]) (rd 3 (by omega) ⟨by omega,by simp[C9,h]⟩ rfl)
   ·exact Ug [.t rfl,.i 2,.i 2,.t (by simpa using h),.i 2] rfl (by simp[C9,h]) trivial
  ·by_cases h:i3=j3
   ·exact go tt [.t rfl,.i 3,.i 3,.f (by simpa using h)] rfl (by simp[U0]) (rd 4 (by omega) ⟨by omega,by simp[C9,h]⟩ rfl)
   ·exact Ug [.t rfl,.i 3,.i 3,.t (by simpa using h),.i 3] rfl (by simp[C9,h]) trivial
  ·exact Ug [.f rfl] rfl (by simp[C9]) trivial
 ·exact Uh func322 rfl [.t (by simpa using hk)] rfl (by simp[C9,hk]) trivial
abbrev zCt:Us:=[.int .i64 0,.int .i64 0,.int .i64 0,.int .i64 0,.int .i64 0,.nils,.int .i64 0]
def Fj(l:List Ct):Ut:=l.map Lu
theorem KD{l:List Ct}{i:Nat}{c:Ct}(h:l[i]? = some c):(Fj l)[i]? = some (Lu c):=G6 h
theorem Nx(l:List Ct):(Fj l).length=l.length:=by simp[Fj]
theorem Qgr(l:List Ct):∀c∈Fj l,c.length=7:=λc hc=>by
 obtain⟨x,_,rfl⟩:=Za.1 hc;rfl
theorem Qh8{O:List Ct}{z:Us}{c:Ct}{k m:Nat}{l2:Ut}(hk:k<=O.length)(hp:JW O c O.length=k)(hm:m=O.length-k)(h2:l2.take m=((Fj O++[z]).drop k).take m) :
 ((Fj O++[z]).take (k+1)++(l2.take m++(Fj O++[z]).drop (k+1+m))).set k (Lu c)=Fj (KI O c):=by
 rw[h2,<-Zd,fP (Fj O) z (Lu c) (by rw[Nx];omega) (by rw[Nx];omega)];simp[KI,hp,Fj,Jw,Vh]
theorem xN{l:List Ct}(hl:∀c∈l,Pb c.p)(hn:l.length≤1000000):Uk 288 [.one (.row (Fj l))] [.one (.row (Fj (Fv l)))]:=by
 have hcl:=Nx l;refine Fu func288 rfl ?_;refine Ue [.o 3 99 7] rfl ?_;refine Uj (S:=Nat) 1 (λL1 i=>(9,.v (.oi i))::(3,.v (.one (.orow 0 7 none)))::L1) (λi=>[.row false 99 7 (Fj (Fv (l.take i)))]) (λi=>l.length-i) (λi=>i<=l.length) 0 (Qh _) rfl rfl λi hi=>?_
 by_cases hlt:i<l.length
 ·obtain⟨c,hc⟩:=gxE (l:=l) (i:=i) hlt;have hst:=dZ hc;have hcp:=hl c (Qc hc);obtain⟨O,hO⟩:=nmE (Fv (l.take i));have hOl:O.length=i:=by rw[hO,Dn,Qq];omega
  rw[<-hO]at hst ⊢;refine Ue [.t (by simp[hcl];omega),.x (KD hc)] rfl ?_;refine Uj (S:=Nat) 2 (λL1 k=>(6,.v (.oi k))::L1) (λk=>[.row false 99 7 (Fj O),.blk 99 (Lu c)]) id (λk=>k<=O.length/\JW O c k=JW O c O.length) (Fj O).length ⟨by rw[Nx];exact Ql _,by rw[Nx]⟩ rfl rfl λk ⟨hk,hp⟩=>?_
  have hz:∀y∈[zCt],y.length=7:=λy hy=>by rw[Qk.1 hy];rfl
  have h77:∀y∈Fj O++[zCt],y.length=7:=λy hy=>by
   rcases Qr.1 hy with hy|hy
   ·exact Qgr O y hy
   ·exact hz y hy
  cases k with
  |
   zero =>
   have hp:JW O c O.length=0:=by rw[<-hp];rfl
   refine go tt [.g 17 false (by simp),.f rfl,.s (sz:=7) hz,.r 36 (eI (b:=((0+1:Nat):Int)) (by simp)),.i (0+1),.i (0),.s (sz:=7) (λy hy=>h77 y (Qn hy)),.i (O.length),.k (Hq hcp.t (by have:=hcp.l;omega) (U4 hcp.b (by omega))),.i (0)] rfl (by simp[U0,Nx];omega) ?_;exact rd (i+1) (by omega) hlt (by rw[hst,<-Qh8 (z:=zCt) (l2:=(Fj O++[zCt]).take ((Fj O++[zCt]).length-0)) (k:=0) (m:=O.length) (by omega) hp (by omega) (by congr 1;exact Qo (by simp))];rfl)
  |
   succ k =>
   obtain⟨x,hx⟩:=gxE (l:=O) (i:=k) (by omega);by_cases hlc:fL c x=true
   ·refine go tt [.g 17 true (by simp),.r 22 (eI (b:=(k:Int)) (by simp)),.i k,.x (KD hx),.k Qeq,.t hlc,.r 29 (eI (b:=(k:Int)) (by simp))] rfl (by simp[U0,Nx];omega) ?_;exact rd k (by simp) ⟨by omega,by rw[<-hp,Qpq hx hlc]⟩ rfl
   ·have hlc:fL c x=false:=by simpa using hlc
    have hp:JW O c O.length=k+1:=by rw[<-hp,Qjp hx hlc]
    refine go tt [.g 17 true (by simp),.r 22 (eI (b:=(k:Int)) (by simp)),.i k,.x (KD hx),.k Qeq,.f hlc,.s (sz:=7) hz,.r 36 (eI (b:=((k+1+1:Nat):Int)) (by simp)),.i (k+1+1),.i (k+1),.s (sz:=7) (λy hy=>h77 y (Qz (Qn hy))),.i (O.length-(k+1)),.k (Hq hcp.t (by have:=hcp.l;omega) (U4 hcp.b (by omega))),.i (k+1)] rfl (by simp[U0,Nx];omega) ?_;exact rd (i+1) (by omega) hlt (by rw[hst,<-Qh8 (z:=zCt) (l2:=((Fj O++[zCt]).drop (k+1)).take ((Fj O++[zCt]).length-(k+1))) (k:=k+1) (m:=O.length-(k+1)) (by omega) hp (by omega) (by congr 1;exact Qo (by simp))];rfl)
 ·obtain rfl:i=l.length:=by omega
  rw[Q6];exact Ug [.f (by simp[hcl])] rfl
end Orr
namespace Orr
def Fo(p:Un):Int:=p.getD (p.length-1) 0
def IC(p:Un):Option Un:=if p.length<=64/\(p.all λz=>Nat.ble (Fb z) 16777216)=true then some p else none
def chq(q:Rat):Option Rat:=if Fb q.num<=16777216/\Fb (q.den:Int)<=16777216 then some q else none
def Pf(p:Un):Int:=(Rz p:Nat)
def Da(p:Un)(c:Int):Un:=trim (p.map (· / c))
def Hn(p:Un):Int:=if Fo p<0 then -Pf p else Pf p
def Fg(p:Un):Un:=if p.length=0 then []else Da p (Hn p)
def mono(i:Nat)(x:Int):Un:=List.replicate i 0++[x]
def rD(b:Un)(c:Int):Nat->Un×Un->Un×Un
 | 0,s=>s
 |
  i+1,(q,r) =>
  rD b c i (A0 (Ft q c) (mono i (if r.length=b.length+i then Fo r else 0)),M4 (Ft r c) (Gj (trim (mono i (if r.length=b.length+i then Fo r else 0))) b))
def Ma(a b:Un):Un:=(rD b (Fo b) (a.length+1-b.length) ([],a)).2
def Bv(a b r:Un):Un:=if (a.length+1-b.length) % 2=1/\Fo b<0 then Mr r else r
def KQ(r:Un):Un:=if r.length=0 then []else Da r (Pf r)
def Tc(a b:Un):Un:=KQ (Bv a b (Ma a b))
def yL(b:Un):Nat->Un->Un->Option Un
 | 0,a,q=>if a.length=0 then some q else none
 |i+1,a,q=>if a.length<b.length+i then yL b i a q else if Fo a % Fo b=0 then yL b i (M4 a (Gj (trim (mono i (Fo a / Fo b))) b)) (q.set i (Fo a / Fo b))else none
def JU(a b:Un):Option Un:=if b.length=0 then none else(yL b (a.length+1-b.length) a (List.replicate (a.length+1-b.length) 0)).bind λq=>IC (trim q)
def TP:Nat->Un->Un->Option Un
 | 0,_,_=>none
 |k+1,a,b=>if b.length=0 then some a else(IC (Tc a b)).bind λr=>TP k b r
def JG(a b:Un):Option Un:=(TP 66 (Fg a) (Fg b)).map Fg
def yA(a b:Un):Option Un:=(JG [] a).bind λg=>JG g b
def Pk(a:Un):Option Un:=if (Fg a).length<2 then some (Fg a)else(IC (Gv (Fg a))).bind λd=>(JG (Fg a) d).bind λg=>JU (Fg a) g
def RG:Nat->Un->Option Uo
 | 0,_=>none
 |k+1,g=>if g.length<2 then some []else(IC (Gv g)).bind λd=>(JG g d).bind λh=>(JU g h).bind λw=>(RG k h).bind λl=>some (w::l)
def AD:Uo->Option Uo
 | []=>some []
 | [w]=>some [w]
 |w::v::l=>(JU w v).bind λf=>(AD (v::l)).bind λr=>some (f::r)
def FN:Nat->Un->Uo->Option Un
 |_,p,[]=>some p
 |i,p,f::l=>if i % 2=0 then(IC (Gj p f)).bind λq=>FN (i+1) q l else FN (i+1) p l
def bE(a:Un):Option Un:=if (Fg a).length=0 then some []else(RG 66 (Fg a)).bind λl=>(AD l).bind λfs=>FN 0 [1] fs
def sC:Nat->Un->Un->Option Uo
 | 0,_,_=>none
 |k+1,a,b=>if b.length=0 then some []else(IC (Tc a b)).bind λr=>(sC k b (Mr r)).bind λl=>some (b::l)
def L9(p:Un):Option Uo:=(Pk p).bind λa=>if a.length=0 then none else(IC (Gv a)).bind λd=>(sC 66 a (Fg d)).bind λl=>some (a::l)
def Pq(sg:Un->Int)(s:Nat×Int)(p:Un):Nat×Int:=if sg p=0 then s else(if s.2=-(sg p)then s.1+1 else s.1,sg p)
def Cy(sg:Un->Int)(l:Uo):Nat:=(l.foldl (Pq sg) (0,0)).1
def Cz(l:Uo)(q:Rat):Nat:=Cy (λp=>H9 p q) l
def To(l:Uo)(lo hi:Rat):Int:=if Hb hi lo<0 then 0 else(Cz l lo:Int)-(Cz l hi:Int)
def UE(p:Un):Int:=Int.sign (Fo p)
def ZG(p:Un):Int:=if p.length % 2=0 then -Int.sign (Fo p)else Int.sign (Fo p)
def WS(l:Uo):Int:=(Cy ZG l:Int)-(Cy UE l:Int)
def most:Un->Nat:=λl=>l.foldl (λm z=>if m<z.natAbs then z.natAbs else m) 0
def Gw(p:Un):Rat:=Rat.divInt (((Fo p).natAbs:Int)+(most (p.take (p.length-1)):Int)) ((Fo p).natAbs:Int)
def mid(a b:Rat):Rat:=Rat.divInt (a.num*(b.den:Int)+b.num*(a.den:Int)) ((a.den:Int)*(b.den:Int)*2)
def Ii(p:Un)(c:Uo):Nat->Rat->Rat->Int->Option (List Tm)
 | 0,_,_,_=>none
 |k+1,lo,hi,n=>if n=0 then some []else if n=1 then some [⟨p,lo,hi⟩]else(chq (mid lo hi)).bind λm=>(Ii p c k lo m (To c lo m)).bind λl=>(Ii p c k m hi (n-To c lo m)).bind λr=>some (l++r)
def SO(p:Un):Option (List Tm):=(L9 p).bind λc=>(Pk p).bind λq=>(chq (Gw q)).bind λb=>Ii q c 100000 (-b) b (WS c)
def Tm.point(a:Tm):Bool:=decide (0<=Hb a.lo a.hi)
def low(p:Un)(q:Rat):Int:=if H9 p q≠0 then H9 p q else H9 (Gv p) q
def FZ(p:Un)(lo hi:Rat):Bool:=decide (H9 p hi=0\/H9 p hi≠low p lo)
def Fl(a:Tm)(t:Rat):Int :=
 if a.point=true then Hb a.lo t else if Hb t a.lo<=0 then 1 else if 0<Hb t a.hi then -1 else if H9 a.p t=0 then 0 else if H9 a.p t=low a.p a.lo then 1 else -1
def jB(a:Tm):Option Tm:=if a.point=true then some a else(chq (mid a.lo a.hi)).bind λm =>
 some (if Fl a m=0 then ⟨a.p,m,m⟩else if Fl a m=-1 then ⟨a.p,a.lo,m⟩else ⟨a.p,m,a.hi⟩)
def G8(p:Un):Nat:=p.foldl (λn z=>max n (Fb z)) 0
def P5(a b:Tm):Nat:=64+2*(Fb a.lo.num+Fb a.hi.num+Fb b.lo.num+Fb b.hi.num)+4*(a.p.length+b.p.length)*(G8 a.p+G8 b.p+(a.p.length+b.p.length)+8)
def ES(a b:Rat):Rat:=Rat.divInt (a.num*(b.den:Int)-b.num*(a.den:Int)) ((a.den:Int)*(b.den:Int))
def D4(a b:Tm):Bool:=decide (Hb a.hi b.lo<=0/\¬((a.point=true/\b.point=true)/\Hb a.hi b.lo=0))
def AM:Nat->Tm->Tm->Option (Tm×Tm×Int)
 | 0,a,b=>some (a,b,0)
 |
  k+1,a,b=>if D4 a b=true then some (a,b,-1)else if D4 b a=true then some (a,b,1)else
  if 0<=Hb (ES a.hi a.lo) (ES b.hi b.lo)then(jB a).bind λx=>AM k x b else(jB b).bind λx=>AM k a x
def UR(a b:Tm):Option Int:=if a.point=true then some (-Fl b a.lo)else if b.point=true then some (Fl a b.lo)else
 let lo:=if 0<Hb b.lo a.lo then b.lo else a.lo
 let hi:=if Hb b.hi a.hi<0 then b.hi else a.hi
 if Hb lo hi<0 then(yA a.p b.p).bind λg=>if 1<g.length/\FZ g lo hi=true then some 0 else(AM (P5 a b) a b).bind λr=>some r.2.2
 else(AM (P5 a b) a b).bind λr=>some r.2.2
def sgF(c:Uo):Nat->Tm->Option Tm
 | 0,a=>some a
 |k+1,a=>if a.point=true\/To c a.lo a.hi=0 then some a else(jB a).bind λx=>sgF c k x
def GG(p:Un)(a:Tm):Option Int:=if p.length=0 then some 0 else if a.point=true then some (H9 p a.lo)else
 (yA p a.p).bind λg=>if 1<g.length/\FZ g a.lo a.hi=true then some 0 else(L9 p).bind λc=>(sgF c (64+2*(Fb a.lo.num+Fb a.hi.num)+4*(a.p.length+p.length)*(G8 a.p+G8 p+(a.p.length+p.length)+8)) a).bind λx=>some (H9 p x.hi)
def QP:Tm->List Tm->Option Tm
 |b,[]=>some b
 |b,a::l=>(UR a b).bind λc=>QP (if c<0 then a else b) l
def VI(a:Tm):List Tm->Option (Option Tm)
 | []=>some none
 |r::l=>(UR r a).bind λc=>if 0<c then some (some r)else VI a l
def WC(p:Un):Option (List Tm):=(bE p).bind λq=>if q.length=0 then some []else SO q
def SC(p:Un)(a:Tm):Option (Option Tm):=(WC p).bind λl=>VI a l
end Orr
namespace Orr
open Go Go.Proofs Tryz
set_option maxRecDepth 10000
theorem Ek{p:Un}(tp:Fc p)(h:p.length≠0):Fo p≠0:=H7 tp (by omega)
theorem LX{p:Un}(h:p.length≠0):Fo p∈p:=Qc (Ru (by omega))
theorem M8{s:Nat}{p:Un}(h:Bd s p):Fb (Fo p)<=s:=Fq h _
theorem E5{p:Un}:∀z∈p,Pf p∣z:=XW
theorem JY{p:Un}(tp:Fc p)(h:p.length≠0):Pf p≠0:=λh0=>Ek tp h (Int.zero_dvd.1 (h0 ▸ E5 _ (LX h)))
theorem YM{p:Un}(h:Bd 4294967295 p):Fb (Pf p)<=4294967295:=MN h
theorem oJ{p:Un}(tp:Fc p)(h:p.length≠0):Hn p≠0:=by
 have:=JY tp h;unfold Hn;split <;> omega
theorem FA{p:Un}:∀z∈p,Hn p∣z:=λz hz=>by
 unfold Hn;split
 ·exact Ud.2 (E5 z hz)
 ·exact E5 z hz
theorem Qid{p:Un}(h:Bd 4294967295 p):Fb (Hn p)<=4294967295:=by
 unfold Hn;split
 ·rw[Hj];exact YM h
 ·exact YM h
theorem NA{s:Nat}{p:Un}(h:Bd s p)(c:Int):Bd s (Da p c):=Tw (HW h c)
theorem qV(p:Un)(c:Int):(Da p c).length<=p.length:=Qa (H6 _) (by simp)
theorem QO(p:Un)(c:Int):Fc (Da p c):=Rm _
theorem Qjj{p:Un}(h:Pb p)(c:Int):Pb (Da p c):=⟨QO _ _,Qa (qV _ _) h.l,NA h.b c⟩
theorem RL:Pb []:=⟨rfl,by simp,ZC⟩
theorem Ry{p:Un}(h:Pb p):Pb (Fg p):=by
 unfold Fg;split
 ·exact RL
 ·exact Qjj h _
theorem Pb.bd{p:Un}(h:Pb p):Bd 4294967295 p:=U4 h.b (by omega)
theorem Pb.ln{p:Un}(h:Pb p):p.length<274877906944:=Z4 h.l (by omega)
theorem Pb.ln'{p:Un}(h:Pb p):p.length<8589934592:=Z4 h.l (by omega)
theorem QK{p q:Un}(tp:Fc p)(h:IC p=some q):q=p/\Pb p:=by
 unfold IC at h
 split at h
 ·rename_i hc;injection h with h;refine⟨h.symm,tp,hc.1,λz hz=>?_⟩;have:=Ju.1 hc.2 z hz;exact Zf this
 ·cases h
theorem lN{p:Un}{g:Int}(hl:p.length<274877906944)(hp:Bd 4294967295 p)(hg:Fb g≤4294967295)(h0:g≠0)(hd:∀z∈p,g∣z):Uk 335 [pr p,.agg (He g)] [pr (Da p g)]:=by
 refine Fu func335 rfl ?_;refine Uf [.r 9 (eI (b:=(p.length:Int)) (by simp)),.i p.length,.i p.length,.r 12 (eI (b:=(p.length:Int)) (by simp))] rfl ?_;rw[Ag λk=>He (p.getD k 0 / g)];refine Uj (S:=Nat) 2 (λL1 k=>(13,.v (.oi k))::L1) (λk=>[.blk 36 (He g),.row false 36 2 (AG (λk=>He (p.getD k 0 / g)) [.bool false,.nils] p.length k)]) (λk=>p.length-k) (λk=>k<=p.length) 0 (Qh _) rfl rfl λk hk=>?_
 by_cases hlt:k<p.length
 ·have hg2:=Ru hlt;refine go tt [.t (by simp;omega),.x (Pj hg2),.k (A5 (U3 _) (U3 _) (Fq hp k) hg h0 (Jy (hd _ (Qc hg2)))),.i k] rfl (by simp[U0,If];omega) ?_;have e:=QH (λk=>He (p.getD k 0 / g)) [.bool false,.nils] hlt;rw[e];exact rd (k+1) (by omega) hlt rfl
 ·obtain rfl:k=p.length:=by omega
  have e:AG (λk=>He (p.getD k 0 / g)) [.bool false,.nils] p.length p.length=(p.map (· / g)).map He:=by
   rw[QG];refine Xk λi=>?_
   by_cases hi:i<p.length
   ·simp[X1 hi,List.getD,Qe hi]
   ·simp[Qu,hi]
  rw[e];exact Ug [.f (by simp),.k (Ca (Gm (p.map (· / g))) (by simp;exact hl) (HW hp g))] rfl
theorem HF{p:Un}(hl:p.length<8589934592)(hp:Bd 4294967295 p):Uk 336 [.one (.row [[pl p]])] [.agg (He (Pf p))]:=by
 refine Fu func336 rfl ?_;refine Ue [.o 3 36 2] rfl ?_;refine Uj (S:=Nat) 2 (λL1 i=>(8,.v (.oi i))::(3,.v (.one (.orow 1 2 none)))::L1) (λi=>[.blk 36 [.bool false,.nils],.row false 36 2 (if i=0 then []else p.map He)]) (λi=>1-i) (λi=>i<=1) 0 (Qh _) rfl rfl λi hi=>?_
 rcases(show i=0\/i=1 by omega)with rfl|rfl
 ·refine Uf [.t rfl,.x (i:=0) (xs:=[pl p]) rfl,.s (EQ p)] rfl ?_;exact rd 1 (by omega) (by omega) rfl
 ·exact Ug [.f rfl,.k (Qel (Gm p) hp)] rfl
theorem Qf1{p:Un}(tp:Fc p)(hl':p.length<8589934592)(hp:Bd 4294967295 p):Uk 319 [pr p] [.agg (He (if p.length=0 then 0 else Hn p)),pr (Fg p)]:=by
 have hl:p.length<274877906944:=by omega
 have cn:=Hq tp hl hp;by_cases h0:p.length=0
 ·have e:p=[]:=Qj h0;subst e;exact Uh func319 rfl [.k cn,.t rfl] rfl (by simp[Lf,Fg];rfl) trivial
 ·have hpf:Fg p=Da p (Hn p):=by unfold Fg;rw[if_neg h0]
  rw[if_neg h0,hpf];have co:=lN hl hp (Qid hp) (oJ tp h0) FA;by_cases hneg:Fo p<0
  ·have e:Hn p=-Pf p:=by unfold Hn;rw[if_pos hneg]
   rw[e]at co ⊢;exact Uh func319 rfl [.k cn,.f (by simpa using h0),.k (HF hl' hp),.k (Dq tp hl hp),.t (by simpa[Fo]using hneg),.k (BW (U3 _) (YM hp)),.k co] rfl
  ·have e:Hn p=Pf p:=by unfold Hn;rw[if_neg hneg]
   rw[e]at co ⊢;exact Uh func319 rfl [.k cn,.f (by simpa using h0),.k (HF hl' hp),.k (Dq tp hl hp),.f (by simpa[Fo]using hneg),.k co] rfl
theorem A6{p:Un}(hp:Pb p):Uk 311 [pr p] [pr (Fg p)] :=
 Uh func311 rfl [.k (Qf1 hp.t hp.ln' hp.bd)] rfl
theorem P7(p:Un):Uk 208 [pr p] [.oi ((p.length:Int)-1)]:=by
 have h:Uk 208 [pr p] [.oi (((p.map He).length:Int)-1)]:=Fu func208 rfl (ln 0 rfl rfl λhl=>Ug [] rfl rfl (by simp[U0]at hl ⊢;omega));rw[Q8]at h;exact h
theorem Oc(i:Nat)(x:Int):(mono i x).length=i+1:=by simp[mono]
theorem NL{s i:Nat}{x:Int}(h:Fb x<=s):Bd s (mono i x):=λz hz=>by
 simp only[mono,Qr,Qk]at hz;rcases hz with hz|rfl
 ·rw[(List.mem_replicate.1 hz).2,M9];exact Qh _
 ·exact h
def stq(c:Int)(i:Nat)(x:Int)(q:Un):Un:=A0 (Ft q c) (mono i x)
def str(b:Un)(c:Int)(i:Nat)(x:Int)(r:Un):Un:=M4 (Ft r c) (Gj (trim (mono i x)) b)
theorem Qs8{u t i:Nat}{c x:Int}{q:Un}(hq:Bd u q)(hc:Fb c<=t)(hx:Fb x<=u):Bd (u+t+8) (stq c i x q) :=
 U4 (YQ (Ge hq hc) (NL hx)) (by omega)
theorem Qoz{c x:Int}{i:Nat}{q:Un}:(stq c i x q).length<=max q.length (i+1):=by
 have h:=Oa (Ft q c) (mono i x);have h1:=Fw q c;rw[Oc]at h;unfold stq;omega
theorem jI{i:Nat}{x:Int}{b:Un}:(Gj (trim (mono i x)) b).length<=i+b.length:=by
 have h:=Tv (trim (mono i x)) b;have h1:=H6 (mono i x);rw[Oc]at h1;omega
theorem lJ{u t i:Nat}{x:Int}{b:Un}(hb:Bd t b)(hx:Fb x<=u)(hi:i<=64):Bd (u+t+7) (Gj (trim (mono i x)) b) :=
 Pg (Tw (NL hx)) hb (Z4 (H6 _) (by rw[Oc];omega))
theorem pF{u t i:Nat}{c x:Int}{b r:Un}(hr:Bd u r)(hb:Bd t b)(hc:Fb c<=t)(hx:Fb x<=u)(hi:i<=64):Bd (u+t+8) (str b c i x r) :=
 U4 (Do (Ge hr hc) (lJ hb hx hi)) (by omega)
theorem jO{c x:Int}{i:Nat}{b r:Un}:(str b c i x r).length<=max r.length (i+b.length):=by
 have h:=Nb (Ft r c) (Gj (trim (mono i x)) b);have h1:=Fw r c;have h2:=jI (i:=i) (x:=x) (b:=b);unfold str;omega
theorem gK(i:Nat)(x:Int):((List.replicate (i+1) (0:Int)).map He).set i (He x)=(mono i x).map He:=by
 rw[bL,mono];congr 1;refine Xk λj=>?_
 simp only[Yn,List.getElem?_append,J0,Jd];by_cases h:j=i
 ·subst h;simp
 ·rw[if_neg (by omega)];by_cases h2:j<i
  ·simp[h2];omega
  ·rw[if_neg (by omega),if_neg h2];cases hj:j-i with
   |zero=>omega
   |succ m=>simp
theorem iF(i:Nat){x:Int}{y:Us}(h:y.map FT=He x):(((List.replicate (i+1) [LV.bool false,LV.nils]).set i y).map λc=>c.map FT)=(mono i x).map He:=by
 rw[Vs,NV,h];exact gK i x
theorem JF{b:Un}{c:Int}{i:Nat}{q r:Un}{x:Int}(hx:x=if r.length=b.length+i then Fo r else 0):rD b c (i+1) (q,r)=rD b c i (stq c i x q,str b c i x r):=by
 subst hx;rfl
theorem Qe4{a b:Un}(ha:Pb a)(hb:Pb b)(h0:b.length≠0):Uk 333 [pr a,pr b] [pr (rD b (Fo b) (a.length+1-b.length) ([],a)).1,pr (Ma a b),.oi ((a.length+1-b.length:Nat):Int),.oi 0]:=by
 have hal:=ha.l;have hbl:=hb.l;have hlb:Fb (Fo b)<=16777216:=M8 hb.b;obtain⟨c,hc⟩:=nmE (Fo b);have cl:=Dq hb.t hb.ln hb.bd;rw[show b.getD (b.length-1) 0=c from hc.symm]at cl;obtain⟨k,hk⟩:=nmE (a.length+1-b.length);unfold Ma;rw[<-hc,<-hk];rw[<-hc]at hlb;refine Fu func333 rfl ?_;refine Uf [.z 4,.k (Hq ha.t ha.ln ha.bd),.k (Hq hb.t hb.ln hb.bd),.f (by simpa using h0),.k cl,.k (P7 a),.k (P7 b),.r 27 (eI (b:=(k:Int)) (by omega))] rfl ?_;refine Uj (S:=Nat×Un×Un) 1 (λL1 s=>(4,.v (pr s.2.1))::(5,.v (pr s.2.2))::(9,.v (.oi ((s.1:Int)-1)))::L1) (λ_=>[.blk 36 (He c)]) (λs=>s.1) (λs=>s.1<=k/\Fc s.2.2/\s.2.1.length<=66/\s.2.2.length<=a.length/\Bd (16777216+(k-s.1)*16777224) s.2.1/\Bd (16777216+(k-s.1)*16777224) s.2.2/\rD b c s.1 s.2=rD b c k ([],a)) (k,[],a) ⟨Ql _,ha.t,by simp,Ql _,ZC,by simpa using ha.b,rfl⟩ rfl rfl λ⟨i,q,r⟩ ⟨j1,j2,j3,j4,j5,j6,j7⟩=>?_
 dsimp only at j1 j2 j3 j4 j5 j6 j7 ⊢;rw[<-j7];cases i with
 |zero=>exact Ug [.f (by simp)] rfl
 |
  succ i =>
  obtain⟨x,hx⟩:=nmE (if r.length=b.length+i then Fo r else 0);obtain⟨u,hu⟩:=nmE (16777216+(k-(i+1))*16777224);rw[<-hu]at j5 j6;have hub:u<=1107296256:=by
   have:(k-(i+1))*16777224<=64*16777224:=Q0 _ (by omega);omega
  have hxs:Fb x<=u:=by
   rw[hx];split
   ·exact M8 j6
   ·rw[M9];exact Qh _
  have cs:=Pn (p:=q) (c:=c) (by omega) (U4 j5 (by omega)) (by omega);have cs2:=Pn (p:=r) (c:=c) (by omega) (U4 j6 (by omega)) (by omega);have l1:=Fw q c;have l2:=Fw r c;have ca:=BF (p:=Ft q c) (q:=mono i x) (by omega) (by rw[Oc];omega) (U4 (Ge j5 hlb) (by omega)) (U4 (NL hxs) (by omega));have cm:=xP (p0:=mono i x) hb.t (by rw[Oc];omega) (by omega) (NL hxs) hb.b (by omega);have l3:=jI (i:=i) (x:=x) (b:=b);have cb:=HG (p:=Ft r c) (q:=Gj (trim (mono i x)) b) (by omega) (by omega) (U4 (Ge j6 hlb) (by omega)) (U4 (lJ hb.b hxs (by omega)) (by omega));have hst:=JF (b:=b) (c:=c) (q:=q) hx;have hI:i<=k/\Fc (str b c i x r)/\(stq c i x q).length<=66/\(str b c i x r).length<=a.length/\Bd (16777216+(k-i)*16777224) (stq c i x q)/\Bd (16777216+(k-i)*16777224) (str b c i x r):=by
   have l5:=Qoz (c:=c) (x:=x) (i:=i) (q:=q);have l6:=jO (c:=c) (x:=x) (i:=i) (b:=b) (r:=r);have hku:u+16777216+8=16777216+(k-i)*16777224:=by
    rw[hu,show k-i=(k-(i+1))+1 from by omega,X3];omega
   refine⟨by omega,Fx _ _,by omega,by omega,?_,?_⟩
   ·rw[<-hku];exact Qs8 j5 hlb hxs
   ·rw[<-hku];exact pF j6 hb.b hlb hxs (by omega)
  rw[hst];by_cases h:r.length=b.length+i
  ·refine Uf [.t (by simp <;> omega),.k (P7 r),.k (P7 b),.t (by simp;omega),.k (Dq j2 (by omega) (U4 j6 (by omega))),.r 44 (eI (b:=((i+1:Nat):Int)) (by omega)),.i (i+1),.i (i+1),.r 47 (eI (b:=(i:Int)) (by omega)),.i i] rfl ?_;refine nl 2 rfl rfl rfl ?_;rw[iF i (x:=x) (by rw[hx,if_pos h];rfl)];refine Uf [.k cs,.k ca,.k cs2,.k cm,.k cb,.r 33 (eI (b:=(i:Int)-1) (by omega))] rfl ?_;exact rd (i,stq c i x q,str b c i x r) (by dsimp only;omega) ⟨hI.1,hI.2.1,hI.2.2.1,hI.2.2.2.1,hI.2.2.2.2.1,hI.2.2.2.2.2,rfl⟩ rfl
  ·refine Uf [.t (by simp <;> omega),.k (P7 r),.k (P7 b),.f (by simp;omega),.r 44 (eI (b:=((i+1:Nat):Int)) (by omega)),.i (i+1),.i (i+1),.r 47 (eI (b:=(i:Int)) (by omega)),.i i] rfl ?_;refine nl 2 rfl rfl rfl ?_;rw[iF i (x:=x) (by rw[hx,if_neg h,Lf];rfl)];refine Uf [.k cs,.k ca,.k cs2,.k cm,.k cb,.r 33 (eI (b:=(i:Int)-1) (by omega))] rfl ?_;exact rd (i,stq c i x q,str b c i x r) (by dsimp only;omega) ⟨hI.1,hI.2.1,hI.2.2.1,hI.2.2.2.1,hI.2.2.2.2.1,hI.2.2.2.2.2,rfl⟩ rfl
theorem Qjs{b:Un}{c:Int}(hb:Bd 16777216 b)(hc:Fb c<=16777216){n:Nat}:∀(i u:Nat) (q r:Un),i<=64->i+b.length<=n+1->Fc r->r.length<=n->Bd u r->Fc (rD b c i (q,r)).2/\(rD b c i (q,r)).2.length<=n/\Bd (u+i*16777224) (rD b c i (q,r)).2
 | 0,u,q,r,_,_,h1,h2,h3=>⟨h1,h2,by simpa[rD]using h3⟩
 |
  i+1,u,q,r,hi,hn,h1,h2,h3=>by
  rw[JF rfl];have hx:Fb (if r.length=b.length+i then Fo r else 0)<=u:=by
   split
   ·exact M8 h3
   ·rw[M9];exact Qh _
  have l6:=jO (c:=c) (x:=if r.length=b.length+i then Fo r else 0) (i:=i) (b:=b) (r:=r);have:=Qjs hb hc (n:=n) i (u+16777216+8) (stq c i (if r.length=b.length+i then Fo r else 0) q) (str b c i (if r.length=b.length+i then Fo r else 0) r) (by omega) (by omega) (Fx _ _) (by omega) (pF h3 hb hc hx (by omega));exact⟨this.1,this.2.1,U4 this.2.2 (by omega)⟩
theorem oW{a b:Un}(ha:Pb a)(hb:Pb b)(h0:b.length≠0):Fc (Ma a b)/\(Ma a b).length<=a.length/\Bd 1107296256 (Ma a b):=by
 have hal:=ha.l;by_cases h:b.length<=a.length+1
 ·obtain⟨h1,h2,h3⟩:=Qjs hb.b (M8 hb.b) (n:=a.length) (a.length+1-b.length) 16777216 [] a (by omega) (by omega) ha.t (Ql _) ha.b;refine⟨h1,h2,U4 h3 ?_⟩;have:(a.length+1-b.length)*16777224<=64*16777224:=Q0 _ (by omega);omega
 ·have e:Ma a b=a:=by unfold Ma;rw[show a.length+1-b.length=0 from by omega];rfl
  rw[e];exact⟨ha.t,Ql _,U4 ha.b (by omega)⟩
theorem GZ{a b r:Un}{s n:Nat}(h1:Fc r)(h2:r.length<=n)(h3:Bd s r):Fc (Bv a b r)/\(Bv a b r).length<=n/\Bd s (Bv a b r):=by
 unfold Bv;split
 ·exact⟨Fx _ _,Qa (XB r) h2,MZ h3⟩
 ·exact⟨h1,h2,h3⟩
theorem EX{r:Un}{s n:Nat}(h2:r.length<=n)(h3:Bd s r):Fc (KQ r)/\(KQ r).length<=n/\Bd s (KQ r):=by
 unfold KQ;split
 ·exact⟨rfl,by simp,ZC⟩
 ·exact⟨QO _ _,Qa (qV _ _) h2,NA h3 _⟩
theorem FO{a b:Un}(ha:Pb a)(hb:Pb b)(h0:b.length≠0):Fc (Tc a b)/\(Tc a b).length<=a.length/\Bd 1107296256 (Tc a b):=by
 obtain⟨h1,h2,h3⟩:=oW ha hb h0;obtain⟨h4,h5,h6⟩:=GZ (a:=a) (b:=b) h1 h2 h3;exact EX h5 h6
theorem Qe9{a b:Un}(ha:Pb a)(hb:Pb b)(h0:b.length≠0):Uk 312 [pr a,pr b] [pr (Tc a b),.oi 0]:=by
 obtain⟨h1,h2,h3⟩:=oW ha hb h0;obtain⟨h4,h5,h6⟩:=GZ (a:=a) (b:=b) h1 h2 h3;have hal:=ha.l;have cp:=Qe4 ha hb h0;have cl:=Dq hb.t hb.ln hb.bd;have cn:=Qe0 (p:=Ma a b) (by omega) (U4 h3 (by omega));unfold Tc;obtain⟨r,hr⟩:=nmE (Bv a b (Ma a b));have cc:=HF (p:=r) (by rw[hr];omega) (by rw[hr];exact U4 h6 (by omega));rw[<-hr]at h4 h5 h6 ⊢;obtain⟨k,hk⟩:=nmE (a.length+1-b.length);rw[<-hk]at cp;have em:((k:Int).tmod 2)=((k % 2:Nat):Int):=by rw[Y5 (by omega)];omega
 have key:KQ r=if r.length=0 then []else Da r (Pf r):=rfl
 by_cases hz:r.length=0
 ·rw[key,if_pos hz];by_cases hodd:k % 2=1
  ·by_cases hneg:Fo b<0
   ·have e:r=Mr (Ma a b):=by rw[hr];unfold Bv;rw[if_pos ⟨by rw[<-hk];exact hodd,hneg⟩]
    rw[e]at hz;exact Uh func312 rfl [.k cp,.f (by simp),.r 22 (eI em),.t (by simp;omega),.k cl,.t (by simpa[Fo]using hneg),.k cn,.t (by simpa using hz)] rfl rfl (by simp[U0])
   ·have e:r=Ma a b:=by rw[hr];unfold Bv;rw[if_neg (λh=>hneg h.2)]
    rw[e]at hz;exact Uh func312 rfl [.k cp,.f (by simp),.r 22 (eI em),.t (by simp;omega),.k cl,.f (by simpa[Fo]using hneg),.t (by simpa using hz)] rfl rfl (by simp[U0])
  ·have e:r=Ma a b:=by rw[hr];unfold Bv;rw[if_neg (λh=>hodd (by rw[hk];exact h.1))]
   rw[e]at hz;exact Uh func312 rfl [.k cp,.f (by simp),.r 22 (eI em),.f (by simp;omega),.f rfl,.t (by simpa using hz)] rfl rfl (by simp[U0])
 ·rw[key,if_neg hz];have cd:=lN (p:=r) (g:=Pf r) (by omega) (U4 h6 (by omega)) (YM (U4 h6 (by omega))) (JY h4 hz) E5;by_cases hodd:k % 2=1
  ·by_cases hneg:Fo b<0
   ·have e:r=Mr (Ma a b):=by rw[hr];unfold Bv;rw[if_pos ⟨by rw[<-hk];exact hodd,hneg⟩]
    rw[e]at hz cc cd ⊢;exact Uh func312 rfl [.k cp,.f (by simp),.r 22 (eI em),.t (by simp;omega),.k cl,.t (by simpa[Fo]using hneg),.k cn,.f (by simpa using hz),.k cc,.k cd] rfl rfl (by simp[U0])
   ·have e:r=Ma a b:=by rw[hr];unfold Bv;rw[if_neg (λh=>hneg h.2)]
    rw[e]at hz cc cd ⊢;exact Uh func312 rfl [.k cp,.f (by simp),.r 22 (eI em),.t (by simp;omega),.k cl,.f (by simpa[Fo]using hneg),.f (by simpa using hz),.k cc,.k cd] rfl rfl (by simp[U0])
  ·have e:r=Ma a b:=by rw[hr];unfold Bv;rw[if_neg (λh=>hodd (by rw[hk];exact h.1))]
   rw[e]at hz cc cd ⊢;exact Uh func312 rfl [.k cp,.f (by simp),.r 22 (eI em),.f (by simp;omega),.f rfl,.f (by simpa using hz),.k cc,.k cd] rfl rfl (by simp[U0])
theorem Qox{s:Nat}{x:Int}(h:Fb x<=s)(g:Int):Fb (x / g)<=s:=HW (p:=[x]) (λz hz=>by rw[Qk.1 hz];exact h) g _ (by simp)
def sta(b:Un)(i:Nat)(x:Int)(a:Un):Un:=M4 a (Gj (trim (mono i x)) b)
theorem Qs7{u t i:Nat}{x:Int}{b a:Un}(ha:Bd u a)(hb:Bd t b)(hx:Fb x<=u)(hi:i<=64):Bd (u+t+8) (sta b i x a) :=
 U4 (Do ha (lJ hb hx hi)) (by omega)
theorem iQ{x:Int}{i:Nat}{b a:Un}:(sta b i x a).length<=max a.length (i+b.length):=by
 have h:=Nb a (Gj (trim (mono i x)) b);have h2:=jI (i:=i) (x:=x) (b:=b);unfold sta;omega
theorem Qmk(s n:Nat):Bd s (List.replicate n 0):=λz hz=>by rw[(List.mem_replicate.1 hz).2,M9];exact Qh _
theorem Qs6{s i:Nat}{l:Un}{x:Int}(h:Bd s l)(hx:Fb x<=s):Bd s (l.set i x):=λz hz=>by
 rcases Jq hz with hz|rfl
 ·exact h z hz
 ·exact hx
theorem Qey{a b q:Un}(ha:Pb a)(hb:Pb b)(h:JU a b=some q):Uk 349 [pr a,pr b] [pr q,.oi 0]:=by
 unfold JU at h
 split at h
 ·cases h
 rename_i h0;obtain⟨k,hk⟩:=nmE (a.length+1-b.length);rw[<-hk]at h;obtain⟨q',hq,hq2⟩:=Qd.1 h;obtain⟨rfl,hpb⟩:=QK (Rm _) hq2;have hal:=ha.l;have hbl:=hb.l;refine Fu func349 rfl ?_;refine Uf [.k (Hq ha.t ha.ln ha.bd),.k (Hq hb.t hb.ln hb.bd),.f (by simpa using h0),.r 24 (eI (b:=(k:Int)) (by simp;omega)),.i k,.i k,.r 27 (eI (b:=(k:Int)) (by simp))] rfl ?_;refine nl 0 rfl rfl rfl ?_;rw[NV];refine Uj (S:=Nat×Un×Un) 1 (λL1 s=>(0,.v (pr s.2.1))::(7,.v (.oi ((s.1:Int)-1)))::L1) (λs=>[.row false 36 2 (s.2.2.map He)]) (λs=>s.1) (λs=>s.1<=k/\Fc s.2.1/\s.2.1.length<=a.length/\Bd (16777216+(k-s.1)*16777224) s.2.1/\s.2.2.length=k/\Bd 1107296256 s.2.2/\yL b s.1 s.2.1 s.2.2=some q') (k,a,List.replicate k 0) ⟨Ql _,ha.t,Ql _,by simpa using ha.b,by simp,Qmk _ _,hq⟩ rfl rfl λ⟨i,A,Q⟩ ⟨j1,j2,j3,j4,j5,j7,j6⟩=>?_
 dsimp only at j1 j2 j3 j4 j5 j6 j7 ⊢;cases i with
 |
  zero =>
  simp only[yL]at j6
  split at j6
  ·rename_i hA;injection j6 with j6;subst j6;exact Ug [.f (by simp),.f (by simpa using hA),.k (Ca (Gm Q) (by omega) (U4 j7 (by omega)))] rfl
  ·cases j6
 |
  succ i =>
  obtain⟨u,hu⟩:=nmE (16777216+(k-(i+1))*16777224);rw[<-hu]at j4;have hub:u<=1107296256:=by
   have:(k-(i+1))*16777224<=64*16777224:=Q0 _ (by omega);omega
  have hku:u+16777216+8=16777216+(k-i)*16777224:=by
   rw[hu,show k-i=(k-(i+1))+1 from by omega,X3];omega
  simp only[yL]at j6;by_cases hlt:A.length<b.length+i
  ·rw[if_pos hlt]at j6;refine Uf [.t (by simp <;> omega),.k (P7 A),.k (P7 b),.t (by simp;omega),.r 32 (eI (b:=(i:Int)-1) (by omega))] rfl ?_;exact rd (i,A,Q) (by dsimp only;omega) ⟨by dsimp only;omega,j2,j3,U4 j4 (by dsimp only;omega),j5,j7,j6⟩ rfl
  ·rw[if_neg hlt]at j6
   split at j6
   ·rename_i hdv;obtain⟨x,hx⟩:=nmE (Fo A / Fo b);rw[<-hx]at j6;have hxs:Fb x<=u:=by rw[hx];exact Qox (M8 j4) _
    have ce:=A5 (U3 (Fo A)) (U3 (Fo b)) (Qa (M8 j4) (by omega)) (Qa (M8 hb.b) (by omega)) (Ek hb.t h0) hdv;rw[<-hx]at ce;have cm:Uk 266 [.one (.row ((mono i x).map He)),pr b] [pr (Gj (trim (mono i x)) b)]:=xP (p0:=mono i x) hb.t (by rw[Oc];omega) (by omega) (NL hxs) hb.b (by omega);have l3:=jI (i:=i) (x:=x) (b:=b);have l4:=iQ (i:=i) (x:=x) (b:=b) (a:=A);have cb:=HG (p:=A) (q:=Gj (trim (mono i x)) b) (by omega) (by omega) (U4 j4 (by omega)) (U4 (lJ hb.b hxs (by omega)) (by omega));refine Uf [.t (by simp <;> omega),.k (P7 A),.k (P7 b),.f (by simp;omega),.k (Dq j2 (by omega) (U4 j4 (by omega))),.k (Dq hb.t hb.ln hb.bd),.k ce,.f rfl,.r 51 (eI (b:=(i:Int)) (by omega)),.i i,.r 55 (eI (b:=((i+1:Nat):Int)) (by omega)),.i (i+1),.i (i+1),.r 58 (eI (b:=(i:Int)) (by omega))] rfl ?_;refine nl 2 rfl rfl rfl ?_;rw[NV,bL];rw[<-gK i x]at cm;refine Uf [.i i,.k cm,.k cb,.r 32 (eI (b:=(i:Int)-1) (by omega))] rfl ?_;exact rd (i,sta b i x A,Q.set i x) (by dsimp only;omega) ⟨by dsimp only;omega,Fx _ _,by dsimp only;omega,by dsimp only;rw[<-hku];exact Qs7 j4 hb.b hxs (by omega),by simpa using j5,Qs6 j7 (Nat.le_trans hxs hub),j6⟩ rfl
   ·cases j6
theorem bN{a b q:Un}(h:JU a b=some q):Pb q:=by
 unfold JU at h
 split at h
 ·cases h
 ·obtain⟨q',_,hq2⟩:=Qd.1 h;obtain⟨rfl,hpb⟩:=QK (Rm _) hq2;exact hpb
theorem Qf6{a b q:Un}(ha:Pb a)(hb:Pb b)(h:JU a b=some q):Uk 338 [pr a,pr b] [pr q] :=
 Uh func338 rfl [.k (Qey ha hb h)] rfl
theorem vA:∀{k:Nat} {a b g:Un},Pb a->Pb b->TP k a b=some g->Pb g
 | 0,_,_,_,_,_,h=>by cases h
 |
  k+1,a,b,g,ha,hb,h=>by
  simp only[TP]at h
  split at h
  ·injection h with h;subst h;exact ha
  ·rename_i h0;obtain⟨r,hr,h⟩:=Qd.1 h;obtain⟨rfl,hpb⟩:=QK (FO ha hb h0).1 hr;exact vA hb hpb h
theorem eZ{a b g:Un}(ha:Pb a)(hb:Pb b)(h:JG a b=some g):Uk 272 [pr a,pr b] [pr g]:=by
 unfold JG at h;obtain⟨g',h2,rfl⟩:=Yx.1 h;have hg:=vA (Ry ha) (Ry hb) h2;refine Fu func272 rfl ?_;refine Ue [.k (A6 ha),.k (A6 hb)] rfl ?_;refine Uj (S:=Nat×Un×Un) 0 (λL1 s=>(0,.v (pr s.2.1))::(1,.v (pr s.2.2))::L1) (λ_=>[]) (λs=>s.1) (λs=>Pb s.2.1/\Pb s.2.2/\TP s.1 s.2.1 s.2.2=some g') (66,Fg a,Fg b) ⟨Ry ha,Ry hb,h2⟩ rfl rfl λ⟨k,A,C⟩ ⟨j1,j2,j3⟩=>?_
 dsimp only at j1 j2 j3 ⊢;cases k with
 |zero=>cases j3
 |
  succ k =>
  simp only[TP]at j3
  split at j3
  ·rename_i h0;injection j3 with j3;subst j3;exact Ug [.f (by simpa using h0),.k (A6 j1)] rfl
  ·rename_i h0;obtain⟨r,hr,j3⟩:=Qd.1 j3;obtain⟨rfl,hpb⟩:=QK (FO j1 j2 h0).1 hr;refine Ue [.t (by simp;omega),.k (Qe9 j1 j2 h0)] rfl ?_;exact rd (k,C,Tc A C) (by dsimp only;omega) ⟨j2,hpb,j3⟩ rfl
theorem RA{a b g:Un}(ha:Pb a)(hb:Pb b)(h:JG a b=some g):Pb g:=by
 unfold JG at h;obtain⟨g',h2,rfl⟩:=Yx.1 h;exact Ry (vA (Ry ha) (Ry hb) h2)
theorem Qez{a b g:Un}(ha:Pb a)(hb:Pb b)(h:yA a b=some g):Uk 227 [.one (.row (S9 [a,b]))] [pr g]:=by
 unfold yA at h;obtain⟨g1,h1,h2⟩:=Qd.1 h;have hg1:=RA RL ha h1;refine Fu func227 rfl ?_;refine Ue [.z 3] rfl ?_;refine Uj (S:=Nat) 0 (λL1 i=>(8,.v (.oi i))::(3,.v (pr (if i=0 then []else if i=1 then g1 else g)))::L1) (λ_=>[]) (λi=>2-i) (λi=>i<=2) 0 (Qh _) rfl rfl λi hi=>?_
 rcases(show i=0\/i=1\/i=2 by omega)with rfl|rfl|rfl
 ·refine Ue [.t rfl,.x (Rl (i:=0) (p:=a) rfl),.k (eZ RL ha h1)] rfl ?_ (by simp[U0]);exact rd 1 (by omega) (by omega) rfl
 ·refine Ue [.t rfl,.x (Rl (i:=1) (p:=b) rfl),.k (eZ hg1 hb h2)] rfl ?_ (by simp[U0]);exact rd 2 (by omega) (by omega) rfl
 ·exact Ug [.f rfl] rfl
theorem Qjg{a b g:Un}(ha:Pb a)(hb:Pb b)(h:yA a b=some g):Pb g:=by
 unfold yA at h;obtain⟨g1,h1,h2⟩:=Qd.1 h;exact RA (RA RL ha h1) hb h2
theorem LL{p d:Un}(h:IC (Gv p)=some d):d=Gv p/\Pb (Gv p):=QK (Fx _ _) h
theorem BR{a g:Un}(ha:Pb a)(h:Pk a=some g):Uk 318 [pr a] [pr g]:=by
 have hp:=Ry ha;unfold Pk at h
 split at h
 ·rename_i h0;injection h with h;subst h;exact Uh func318 rfl [.k (A6 ha),.k (P7 _),.t (by simp;omega)] rfl
 ·rename_i h0;obtain⟨d,h1,h⟩:=Qd.1 h;obtain⟨rfl,hd⟩:=LL h1;obtain⟨g1,h1,h⟩:=Qd.1 h;exact Uh func318 rfl [.k (A6 ha),.k (P7 _),.f (by simp;omega),.k (Iy hp.ln hp.bd),.k (eZ hp hd h1),.k (Qf6 hp (RA hp hd h1) h)] rfl
theorem RE{a g:Un}(ha:Pb a)(h:Pk a=some g):Pb g:=by
 unfold Pk at h
 split at h
 ·injection h with h;subst h;exact Ry ha
 ·obtain⟨d,h1,h⟩:=Qd.1 h;obtain⟨g1,h1,h⟩:=Qd.1 h;exact bN h
theorem Qjh{p:Un}(h:Pb p):Pb (Mr p):=⟨Fx _ _,Qa (XB p) h.l,MZ h.b⟩
theorem mG:∀{k:Nat} {a b:Un} {l:Uo},Pb a->Pb b->sC k a b=some l->l.length≤k/\∀p∈l,Pb p
 | 0,_,_,_,_,_,h=>by cases h
 |
  k+1,a,b,l,ha,hb,h=>by
  simp only[sC]at h
  split at h
  ·injection h with h;subst h;exact⟨by simp,λp hp=>by cases hp⟩
  ·rename_i h0;obtain⟨r,hr,h⟩:=Qd.1 h;obtain⟨rfl,hpb⟩:=QK (FO ha hb h0).1 hr;obtain⟨l',h1,h⟩:=Qd.1 h;injection h with h;subst h;obtain⟨i1,i2⟩:=mG hb (Qjh hpb) h1;refine⟨by simp;exact i1,λp hp=>?_⟩;rcases Qm.1 hp with rfl|hp
   ·exact hb
   ·exact i2 p hp
theorem chain_ok{p:Un}{l:Uo}(hp:Pb p)(h:L9 p=some l):l.length≤67/\∀q∈l,Pb q:=by
 unfold L9 at h;obtain⟨a,h1,h⟩:=Qd.1 h;have ha:=RE hp h1
 split at h
 ·cases h
 ·obtain⟨d,h2,h⟩:=Qd.1 h;obtain⟨rfl,hd⟩:=LL h2;obtain⟨l',h3,h⟩:=Qd.1 h;injection h with h;subst h;obtain⟨i1,i2⟩:=mG ha (Ry hd) h3;refine⟨by simp;omega,λp hp=>?_⟩;rcases Qm.1 hp with rfl|hp
  ·exact ha
  ·exact i2 p hp
theorem EZ(l:Uo)(p:Un):S9 l++[[pl p]]=S9 (l++[p]):=by simp[S9]
theorem E6(l:Uo):(S9 l).length=l.length:=by simp[S9]
theorem Qfc{p:Un}{l:Uo}(hp:Pb p)(h:L9 p=some l):Uk 281 [pr p] [.one (.sh [.row (S9 l)]),.oi 0]:=by
 unfold L9 at h;obtain⟨a,h1,h⟩:=Qd.1 h;have ha:=RE hp h1
 split at h
 ·cases h
 rename_i h0;obtain⟨d,h2,h⟩:=Qd.1 h;obtain⟨rfl,hd⟩:=LL h2;obtain⟨l',h3,h⟩:=Qd.1 h;injection h with h;subst h;refine Fu func281 rfl ?_;refine Ue [.k (BR hp h1),.f (by simpa using h0),.lo,.k (Iy ha.ln ha.bd),.k (Qf1 hd.t hd.ln' hd.bd)] rfl ?_ (by simp[U0]);obtain⟨z,hz⟩:=nmE (if (Gv a).length=0 then 0 else Hn (Gv a));rw[<-hz];refine sb [(4,.v (pr a)),(7,.v (pr (Fg (Gv a)))),(5,.v (.one (.ow 1 0)))] [.row false 33 1 [[pl a]],.blk 369 [.orow 0 1 none],.blk 36 (He z)] rfl rfl ?_;have hll:=(mG ha (Ry hd) h3).1;refine Uj (S:=Nat×Uo×Un×Un) 3 (λL1 s=>(4,.v (pr s.2.2.1))::(7,.v (pr s.2.2.2))::L1) (λs=>[.row false 33 1 (S9 s.2.1),.blk 369 [.orow 0 1 none],.blk 36 (He z)]) (λs=>s.1) (λs=>Pb s.2.2.1/\Pb s.2.2.2/\∃m,sC s.1 s.2.2.1 s.2.2.2=some m/\s.2.1++m=a::l') (66,[a],a,Fg (Gv a)) ⟨ha,Ry hd,l',h3,rfl⟩ rfl rfl λ⟨k,out,A,C⟩ ⟨j1,j2,m,j3,j4⟩=>?_
 dsimp only at j1 j2 j3 j4 ⊢;have hol:out.length<=67:=by have:=congrArg List.length j4;simp at this;omega
 cases k with
 |zero=>cases j3
 |
  succ k =>
  simp only[sC]at j3
  split at j3
  ·rename_i h0;injection j3 with j3;subst j3;rw[Zv]at j4;rw[<-j4];exact Ug [.f (by simpa using h0)] rfl
  ·rename_i h0;obtain⟨r,hr,j3⟩:=Qd.1 j3;obtain⟨rfl,hpb⟩:=QK (FO j1 j2 h0).1 hr;obtain⟨m',j6,j5⟩:=Qd.1 j3;injection j5 with j5;subst j5;refine go tt [.t (by simp;omega),.s (sz:=1) (λc hc=>by rw[Qk.1 hc];rfl),.k (Qe9 j1 j2 h0),.k (Qe0 hpb.ln hpb.bd)] rfl (by simp[U0,E6];omega) ?_;exact rd (k,out++[C],C,Mr (Tc A C)) (by dsimp only;omega) ⟨j2,Qjh hpb,m',j6,by rw[<-j4];simp⟩ (by rw[EZ];rfl)
structure Tb(t:Tm):Prop where
 p:Pb t.p
 lo:Qb t.lo
 hi:Qb t.hi
theorem eN(x y:Int):-1<=D6 x y/\D6 x y<=1:=by unfold D6;split <;> (try split) <;> omega
theorem QW(a b:Rat):-1<=Hb a b/\Hb a b<=1:=eN _ _
theorem Ot(p:Un)(q:Rat):-1<=H9 p q/\H9 p q<=1:=eN _ _
theorem nO(p:Un)(q:Rat):-1<=low p q/\low p q<=1:=by unfold low;split <;> exact Ot _ _
theorem Qb.s31{q:Rat}(h:Qb q):Qs 2147483647 q:=h.mono (by decide)
theorem Qb.s32{q:Rat}(h:Qb q):Qs 4294967295 q:=h.mono (by decide)
theorem PR{p:Un}{q:Rat}(hp:Pb p)(hq:Qb q):Uk 270 [pr p,.agg (rl q)] [.oi (H9 p q)]:=by
 have hm:p.length*(16777216+1)<=64*16777217:=Q0 _ hp.l;exact lG hp.t hp.ln hp.b hq (by omega)
theorem Qxt{p:Un}{q:Rat}(hp:Pb p)(hq:Qb q):Uk 270 [pr (Gv p),.agg (rl q)] [.oi (H9 (Gv p) q)]:=by
 have hl:=Qa (Na p) (show p.length-1<=64 by have:=hp.l;omega);have hm:(Gv p).length*(16777216+1)<=64*16777217:=Q0 _ hl;exact lG (Fx _ _) (Z4 hl (by omega)) (xU (t:=6) hp.b hp.l) hq (by omega)
theorem D5{t:Tm}(ht:Tb t):Uk 225 [.agg (ta t)] [.one (.bool t.point)] :=
 Uh func225 rfl [.k (Cd ht.lo.s31 ht.hi.s31)] rfl
theorem MW{t:Tm}(ht:Tb t):Uk 224 [.agg (ta t)] [.agg (ta t)] :=
 Uh func224 rfl [.k (Hq ht.p.t ht.p.ln ht.p.bd),.k (Ns ht.lo.s32),.k (Ns ht.hi.s32)] rfl
theorem Qge{t:Tm}(ht:Tb t):Uk 163 [.agg (ta t)] [.agg (ta t)]:=Uh func163 rfl [.k (MW ht)] rfl
theorem Qfv{p:Un}{q:Rat}(hp:Pb p)(hq:Qb q):Uk 271 [pr p,.agg (rl q)] [.oi (low p q)]:=by
 unfold low;by_cases h:H9 p q=0
 ·rw[if_neg (by simpa using h)];exact Uh func271 rfl [.k (PR hp hq),.f (by simpa using h),.k (Iy hp.ln hp.bd),.k (Qxt hp hq)] rfl
 ·rw[if_pos h];exact Uh func271 rfl [.k (PR hp hq),.t (by simpa using h)] rfl
theorem Qft{p:Un}{lo hi:Rat}(hp:Pb p)(hl:Qb lo)(hh:Qb hi):Uk 228 [pr p,.agg (rl lo),.agg (rl hi)] [.one (.bool (FZ p lo hi))]:=by
 by_cases h:H9 p hi=0
 ·exact Uh func228 rfl [.k (PR hp hh),.t (by simpa using h)] rfl (by simp[FZ,h]) trivial
 ·exact Uh func228 rfl [.k (PR hp hh),.f (by simpa using h),.k (Qfv hp hl)] rfl (by simp[FZ,h]) trivial
theorem De{t:Tm}{q:Rat}(ht:Tb t)(hq:Qb q):Uk 226 [.agg (ta t),.agg (rl q)] [.oi (Fl t q)]:=by
 have cp:=D5 ht;unfold Fl;by_cases h1:t.point=true
 ·rw[if_pos h1];exact Uh func226 rfl [.k cp,.t h1,.k (Cd ht.lo.s31 hq.s31)] rfl
 rw[if_neg h1];have h1:t.point=false:=by simpa using h1
 have c1:=Cd hq.s31 ht.lo.s31;have c2:=Cd hq.s31 ht.hi.s31;by_cases h2:Hb q t.lo<=0
 ·rw[if_pos h2];exact Uh func226 rfl [.k cp,.f h1,.k c1,.t (by simpa using h2)] rfl
 rw[if_neg h2];by_cases h3:0<Hb q t.hi
 ·rw[if_pos h3];exact Uh func226 rfl [.k cp,.f h1,.k c1,.f (by simpa using h2),.k c2,.t (by simpa using h3)] rfl
 rw[if_neg h3];by_cases h4:H9 t.p q=0
 ·rw[if_pos h4];exact Uh func226 rfl [.k cp,.f h1,.k c1,.f (by simpa using h2),.k c2,.f (by simpa using h3),.k (PR ht.p hq),.t (by simpa using h4)] rfl
 rw[if_neg h4];by_cases h5:H9 t.p q=low t.p t.lo
 ·rw[if_pos h5];exact Uh func226 rfl [.k cp,.f h1,.k c1,.f (by simpa using h2),.k c2,.f (by simpa using h3),.k (PR ht.p hq),.f (by simpa using h4),.k (Qfv ht.p ht.lo),.t (by simpa using h5)] rfl
 ·rw[if_neg h5];exact Uh func226 rfl [.k cp,.f h1,.k c1,.f (by simpa using h2),.k c2,.f (by simpa using h3),.k (PR ht.p hq),.f (by simpa using h4),.k (Qfv ht.p ht.lo),.f (by simpa using h5)] rfl
theorem Qn3(t:Tm)(q:Rat):-1<=Fl t q/\Fl t q<=1:=by
 unfold Fl;have:=QW t.lo q
 repeat' split
 all_goals omega
theorem Qob(q:Rat):0<(q.den:Int):=by have:=q.den_pos;omega
theorem Qrp{a b:Rat}(ha:Qb a)(hb:Qb b):Uk 314 [.agg (rl a),.agg (rl b)] [.agg (rl (mid a b))]:=by
 have h1:Fb (a.num*(b.den:Int))<=33554432:=Qa (Fz _ _) (by have:=ha.1;have:=hb.2;omega);have h2:Fb (b.num*(a.den:Int))<=33554432:=Qa (Fz _ _) (by have:=hb.1;have:=ha.2;omega);have h3:Fb ((a.den:Int)*(b.den:Int))<=33554432:=Qa (Fz _ _) (by have:=ha.2;have:=hb.2;omega);have h4:Fb (2:Int)<=2:=by decide
 have h5:Fb (a.num*(b.den:Int)+b.num*(a.den:Int))<=33554433:=Qa (QS _ _) (by omega);have h6:Fb ((a.den:Int)*(b.den:Int)*2)<=33554434:=Qa (Fz _ _) (by omega);have h0:(a.den:Int)*(b.den:Int)*2≠0:=by
  have:=Int.mul_pos (Qob a) (Qob b);omega
 exact Uh func314 rfl [.k (xC ha.s31 hb.s31),.k (KH (U3 _) (U3 _) (by omega) (by omega)),.k (BU (z:=2) (by decide)),.k (Px (U3 _) (U3 _) (by omega) (by omega)),.k (ZL h0 (by omega) (by omega))] rfl
theorem xO{a b:Rat}(ha:Qb a)(hb:Qb b):Uk 274 [.agg (rl a),.agg (rl b)] [.agg (rl (ES a b))]:=by
 have h1:Fb (a.num*(b.den:Int))<=33554432:=Qa (Fz _ _) (by have:=ha.1;have:=hb.2;omega);have h2:Fb (b.num*(a.den:Int))<=33554432:=Qa (Fz _ _) (by have:=hb.1;have:=ha.2;omega);have h3:Fb ((a.den:Int)*(b.den:Int))<=33554432:=Qa (Fz _ _) (by have:=ha.2;have:=hb.2;omega);have h5:Fb (a.num*(b.den:Int)-b.num*(a.den:Int))<=33554433:=Qa (jA _ _) (by omega);have h0:(a.den:Int)*(b.den:Int)≠0:=by
  have:=Int.mul_pos (Qob a) (Qob b);omega
 exact Uh func274 rfl [.k (xC ha.s31 hb.s31),.k (Qfm (U3 _) (U3 _) (by omega) (by omega)),.k (ZL h0 (by omega) (by omega))] rfl
theorem CX{q r:Rat}(h:chq q=some r):r=q/\Qb q:=by
 unfold chq at h
 split at h
 ·rename_i hc;injection h with h;exact⟨h.symm,hc⟩
 ·cases h
theorem mY{t u:Tm}(ht:Tb t)(h:jB t=some u):Uk 275 [.agg (ta t)] [.agg (ta u)]:=by
 have cp:=D5 ht;unfold jB at h
 split at h
 ·rename_i h1;injection h with h;subst h;exact Uh func275 rfl [.k cp,.t h1] rfl
 ·rename_i h1;have h1:t.point=false:=by simpa using h1
  obtain⟨m,hm0,h⟩:=Qd.1 h;obtain⟨rfl,hm⟩:=CX hm0;injection h with h;subst h;have cm:=Qrp ht.lo ht.hi;have cc:=De ht hm;by_cases h2:Fl t (mid t.lo t.hi)=0
  ·rw[if_pos h2];exact Uh func275 rfl [.k cp,.f h1,.k cm,.k cc,.t (by simpa using h2)] rfl
  rw[if_neg h2];by_cases h3:Fl t (mid t.lo t.hi)=-1
  ·rw[if_pos h3];exact Uh func275 rfl [.k cp,.f h1,.k cm,.k cc,.f (by simpa using h2),.t (by simpa using h3)] rfl
  ·rw[if_neg h3];exact Uh func275 rfl [.k cp,.f h1,.k cm,.k cc,.f (by simpa using h2),.f (by simpa using h3)] rfl
theorem vM{t u:Tm}(ht:Tb t)(h:jB t=some u):Tb u:=by
 unfold jB at h
 split at h
 ·injection h with h;subst h;exact ht
 ·obtain⟨m,hm0,h⟩:=Qd.1 h;obtain⟨rfl,hm⟩:=CX hm0;injection h with h;subst h
  repeat' split
  ·exact⟨ht.p,hm,hm⟩
  ·exact⟨ht.p,ht.lo,hm⟩
  ·exact⟨ht.p,hm,ht.hi⟩
theorem QQ{z:Int}(h:Fb z<=4294967296):Uk 267 [.one (mg z)] [.oi (Fb z:Int)]:=by
 have h1:=pC (l:=Ga z.natAbs) (Ln _) (by rw[G7];exact h);rw[G7]at h1;exact h1
theorem EW{p:Un}{i:Nat}{z:Int}(h:p[i]? = some z):G8 (p.take (i+1))=max (G8 (p.take i)) (Fb z):=by
 unfold G8;rw[List.take_succ,h,Option.toList_some,List.foldl_append];rfl
theorem Mg{p:Un}{s:Nat}(h:Bd s p):∀i,G8 (p.take i)<=s
 | 0=>by simp[G8]
 |
  i+1=>by
  cases hz:p[i]? with
  |
   none =>
   rw[Qo (by have:=Jp.1 hz;omega),<-Qo (l:=p) (i:=i) (by have:=Jp.1 hz;omega)];exact Mg h i
  |some z=>rw[EW hz];have:=Mg h i;have:=Qeb h hz;omega
theorem jQ{p:Un}(hp:Pb p):Uk 313 [pr p] [.oi (G8 p:Int)]:=by
 have hl:=hp.l;refine Fu func313 rfl ?_;refine Ue [] rfl ?_;refine Uj (S:=Nat) 0 (λL1 i=>(8,.v (.oi i))::(3,.v (.oi (G8 (p.take i):Int)))::L1) (λ_=>[]) (λi=>p.length-i) (λi=>i<=p.length) 0 (Qh _) rfl rfl λi hi=>?_
 by_cases hlt:i<p.length
 ·have hg:=Ru hlt;have hz:=Fq hp.b i;have hs:=EW hg;refine Uf [.t (by simp;omega),.x (Pj hg),.k (QQ (by omega)),.r 16 (eI (b:=(G8 (p.take (i+1)):Int)) (by rw[hs];omega))] rfl ?_;exact rd (i+1) (by omega) hlt rfl
 ·obtain rfl:i=p.length:=by omega
  rw[Q6];exact Ug [.f (by simp)] rfl
theorem Qnx{a:Tm}{b:Tm}(ha:Tb a)(hb:Tb b):Uk 273 [.agg (ta a),.agg (ta b)] [.oi (P5 a b:Nat)]:=by
 have l1:=ha.p.l;have l2:=hb.p.l;have b1:=ha.lo.1;have b2:=ha.hi.1;have b3:=hb.lo.1;have b4:=hb.hi.1;have s1:G8 a.p<=16777216:=by have:=Mg ha.p.b a.p.length;rwa[Q6]at this
 have s2:G8 b.p<=16777216:=by have:=Mg hb.p.b b.p.length;rwa[Q6]at this
 obtain⟨N,hN⟩:=nmE (4*(a.p.length+b.p.length));obtain⟨S,hS⟩:=nmE (G8 a.p+G8 b.p+(a.p.length+b.p.length)+8);have hNS:N*S<=512*33554568:=Zc (by omega) (by omega);have h0:(N:Int)*(S:Int)=((N*S:Nat):Int):=(Vi _ _).symm;have hst:P5 a b=64+2*(Fb a.lo.num+Fb a.hi.num+Fb b.lo.num+Fb b.hi.num)+N*S:=by rw[hN,hS];rfl
 rw[hst];exact Uh func273 rfl [.k (QQ (z:=a.lo.num) (by omega)),.k (QQ (z:=a.hi.num) (by omega)),.k (QQ (z:=b.lo.num) (by omega)),.k (QQ (z:=b.hi.num) (by omega)),.r 41 (eI (b:=(N:Int)) (by rw[hN];simp)),.k (jQ ha.p),.k (jQ hb.p),.r 51 (eI (b:=(S:Int)) (by rw[hS];simp)),.r 52 (eI (b:=((N*S:Nat):Int)) h0)] rfl (by simp) (by rw[h0];simp[U0];omega)
def dW(p:Un)(a:Tm):Nat:=64+2*(Fb a.lo.num+Fb a.hi.num)+4*(a.p.length+p.length)*(G8 a.p+G8 p+(a.p.length+p.length)+8)
theorem lV:Uk 267 [lr []] [.oi 0]:=pC (l:=[]) (by simp[Sm]) (by decide)
theorem Qga{a:Tm}{p:Un}(ha:Tb a)(hp:Pb p):Uk 273 [.agg (ta a),.agg ([pl p,.bool false,.row [],.bool false,.row [],.bool false,.row [],.bool false,.row []])] [.oi (dW p a:Nat)]:=by
 have l1:=ha.p.l;have l2:=hp.l;have b1:=ha.lo.1;have b2:=ha.hi.1;have s1:G8 a.p<=16777216:=by have:=Mg ha.p.b a.p.length;rwa[Q6]at this
 have s2:G8 p<=16777216:=by have:=Mg hp.b p.length;rwa[Q6]at this
 obtain⟨N,hN⟩:=nmE (4*(a.p.length+p.length));obtain⟨S,hS⟩:=nmE (G8 a.p+G8 p+(a.p.length+p.length)+8);have hNS:N*S<=512*33554568:=Zc (by omega) (by omega);have h0:(N:Int)*(S:Int)=((N*S:Nat):Int):=(Vi _ _).symm;have hst:dW p a=64+2*(Fb a.lo.num+Fb a.hi.num)+N*S:=by rw[hN,hS];rfl
 rw[hst];exact Uh func273 rfl [.k (QQ (z:=a.lo.num) (by omega)),.k (QQ (z:=a.hi.num) (by omega)),.k lV,.k lV,.r 41 (eI (b:=(N:Int)) (by rw[hN];simp)),.k (jQ ha.p),.k (jQ hp),.r 51 (eI (b:=(S:Int)) (by rw[hS];simp)),.r 52 (eI (b:=((N*S:Nat):Int)) h0)] rfl (by simp) (by rw[h0];simp[U0];omega)
def VB(sg:Un->Int)(l:Uo)(i:Nat):Nat×Int:=(l.take i).foldl (Pq sg) (0,0)
theorem vD{sg:Un->Int}(hs:∀p,-1<=sg p/\sg p<=1)(l:Uo):∀i,(VB sg l i).1<=i/\-1<=(VB sg l i).2/\(VB sg l i).2<=1
 | 0=>⟨Ql _,show(-1:Int)<=0 by decide,show(0:Int)<=1 by decide⟩
 |
  i+1=>by
  obtain⟨h1,h2,h3⟩:=vD hs l i;cases h:l[i]? with
  |
   none =>
   have:VB sg l (i+1)=VB sg l i:=by unfold VB;rw[List.take_of_length_le (by have:=List.getElem?_eq_none_iff.1 h;omega),List.take_of_length_le (List.getElem?_eq_none_iff.1 h)]
   rw[this];omega
  |
   some p =>
   have:VB sg l (i+1)=Pq sg (VB sg l i) p:=Sf _ _ _ h;rw[this];have:=hs p;unfold Pq
   split
   ·omega
   ·dsimp only;split <;> omega
theorem Qn0{l:Uo}{fid:Nat}{l1:Us}{sg:Un->Int}(hl:l.length≤1000)(hs:∀p,-1≤sg p/\sg p≤1)(h:∀p∈l,AS prog fid [pr p,.one (.sh l1)] [.oi (sg p)]):Uk 340 [.one (.sh [.row (S9 l)]),.one (.fn fid [] [.sh l1])] [.oi (Cy sg l:Nat)]:=by
 have hpl:=E6 l;refine Fu func340 rfl ?_;refine Ue [] rfl ?_;refine Uj (S:=Nat) 0 (λL1 i=>(15,.v (.oi i))::(5,.v (.oi ((VB sg l i).1:Int)))::(6,.v (.one (.int .i64 (VB sg l i).2)))::L1) (λ_=>[]) (λi=>l.length-i) (λi=>i<=l.length) 0 (Qh _) rfl rfl λi hi=>?_
 by_cases hlt:i<l.length
 ·obtain⟨p,hp⟩:=gxE (l:=l) (i:=i) hlt;have hst:VB sg l (i+1)=Pq sg (VB sg l i) p:=Sf _ _ _ hp;obtain⟨b1,b2,b3⟩:=vD hs l i;have b4:=hs p;by_cases h0:sg p=0
  ·refine Uf [.t (by simp[hpl];omega),.x (Rl hp),.k (h p (Qc hp)),.t (by simpa using h0)] rfl ?_;exact rd (i+1) (by omega) hlt (by rw[hst,show Pq sg (VB sg l i) p=VB sg l i from by unfold Pq;rw[if_pos h0]];rfl)
  ·by_cases h1:(VB sg l i).2=-(sg p)
   ·refine Uf [.t (by simp[hpl];omega),.x (Rl hp),.k (h p (Qc hp)),.f (by simpa using h0),.t (by simpa using h1)] rfl ?_;exact rd (i+1) (by omega) hlt (by rw[hst,show Pq sg (VB sg l i) p=((VB sg l i).1+1,sg p) from by unfold Pq;rw[if_neg h0,if_pos h1]];rfl)
   ·refine Uf [.t (by simp[hpl];omega),.x (Rl hp),.k (h p (Qc hp)),.f (by simpa using h0),.f (by simpa using h1)] rfl ?_;exact rd (i+1) (by omega) hlt (by rw[hst,show Pq sg (VB sg l i) p=((VB sg l i).1,sg p) from by unfold Pq;rw[if_neg h0,if_neg h1]];rfl)
 ·obtain rfl:i=l.length:=by omega
  refine Ug [.f (by simp[hpl])] rfl ?_ trivial;unfold VB Cy;rw[List.take_length]
theorem Qfk{p:Un}{q:Rat}(hp:Pb p)(hq:Qb q):Uk 341 [pr p,.one (.sh (rl q))] [.oi (H9 p q)]:=Uh func341 rfl [.k (PR hp hq)] rfl
theorem lS{l:Uo}{q:Rat}(hl:l.length≤1000)(hp:∀p∈l,Pb p)(hq:Qb q):Uk 321 [.one (.sh [.row (S9 l)]),.agg (rl q)] [.oi (Cz l q:Nat)] :=
 Uh func321 rfl [.k (Qn0 (fid:=341) (l1:=rl q) (sg:=λp=>H9 p q) hl (λp=>Ot p q) λp h=>Qfk (hp p h) hq)] rfl
theorem Lp{sg:Un->Int}(hs:∀p,-1<=sg p/\sg p<=1)(l:Uo):Cy sg l<=l.length:=by
 have:=(vD hs l l.length).1;unfold VB at this;rwa[List.take_length]at this
theorem IF{l:Uo}{lo hi:Rat}(hl:l.length≤1000)(hp:∀p∈l,Pb p)(ql:Qb lo)(qh:Qb hi):Uk 282 [.one (.sh [.row (S9 l)]),.agg (rl lo),.agg (rl hi)] [.oi (To l lo hi)]:=by
 have b1:Cz l lo<=l.length:=Lp (λp=>Ot p lo) l;have b2:Cz l hi<=l.length:=Lp (λp=>Ot p hi) l;have c1:=Cd qh.s31 ql.s31;unfold To;by_cases h:Hb hi lo<0
 ·rw[if_pos h];exact Uh func282 rfl [.k c1,.t (by simpa using h)] rfl
 ·rw[if_neg h];exact Uh func282 rfl [.k c1,.f (by simpa using h),.k (lS hl hp ql),.k (lS hl hp qh)] rfl rfl (by simp[U0];omega)
def zTm:Us:=[.nils,.bool false,.nils,.bool false,.nils,.bool false,.nils,.bool false,.nils]
theorem Qde{a b:Tm}(ha:Tb a)(hb:Tb b):P5 a b<=17179938816+200000000:=by
 have l1:=ha.p.l;have l2:=hb.p.l;have b1:=ha.lo.1;have b2:=ha.hi.1;have b3:=hb.lo.1;have b4:=hb.hi.1;have s1:G8 a.p<=16777216:=by have:=Mg ha.p.b a.p.length;rwa[Q6]at this
 have s2:G8 b.p<=16777216:=by have:=Mg hb.p.b b.p.length;rwa[Q6]at this
 have:4*(a.p.length+b.p.length)*(G8 a.p+G8 b.p+(a.p.length+b.p.length)+8)<=512*33554568:=Zc (by omega) (by omega);unfold P5;omega
theorem Qp2{a b:Rat}(ha:Qb a)(hb:Qb b):Qs 2147483647 (ES a b):=by
 have h1:Fb (a.num*(b.den:Int))<=33554432:=Qa (Fz _ _) (by have:=ha.1;have:=hb.2;omega);have h2:Fb (b.num*(a.den:Int))<=33554432:=Qa (Fz _ _) (by have:=hb.1;have:=ha.2;omega);have h3:Fb ((a.den:Int)*(b.den:Int))<=33554432:=Qa (Fz _ _) (by have:=ha.2;have:=hb.2;omega);have h5:Fb (a.num*(b.den:Int)-b.num*(a.den:Int))<=33554433:=Qa (jA _ _) (by omega);exact(Qs.divInt (s:=33554433) h5 (by omega) (by omega)).mono (by omega)
theorem xB{a b:Tm}{r:Tm×Tm×Int}(ha:Tb a)(hb:Tb b)(h:AM (P5 a b) a b=some r):Uk 229 [.agg (ta a),.agg (ta b)] [.agg (ta r.1),.agg (ta r.2.1),.oi r.2.2]:=by
 have hsb:=Qde ha hb;refine Fu func229 rfl ?_;refine Ue [.k (Qnx ha hb)] rfl ?_;obtain⟨n,hn⟩:=nmE (P5 a b);rw[<-hn]at h hsb ⊢;refine sb [(10,.v (.oi 0)),(9,.v (.oi n)),(5,.v (.one (.ow 3 0))),(4,.v (.one (.ow 2 0))),(3,.v (.one (.ow 1 0))),(2,.v (.one (.ow 0 0)))] [.blk 105 (ta a),.blk 105 (ta b),.blk 105 zTm,.blk 105 zTm] rfl rfl ?_;refine Uj (S:=Nat×Tm×Tm) 4 (λL1 s=>(10,.v (.oi (s.1:Int)))::L1) (λs=>[.blk 105 (ta s.2.1),.blk 105 (ta s.2.2),.blk 105 zTm,.blk 105 zTm]) (λs=>n-s.1) (λs=>s.1<=n/\Tb s.2.1/\Tb s.2.2/\AM (n-s.1) s.2.1 s.2.2=some r) (0,a,b) ⟨Qh _,ha,hb,h⟩ rfl rfl λ⟨i,u,v⟩ ⟨j1,j2,j3,j4⟩=>?_
 dsimp only at j1 j2 j3 j4 ⊢;by_cases hi:i<n
 ·obtain⟨k,hk⟩:∃k,n-i=k+1:=⟨n-i-1,by omega⟩;have hk':n-(i+1)=k:=by omega
  rw[hk]at j4;have c1:=Cd j2.hi.s31 j3.lo.s31;have c2:=Cd j3.hi.s31 j2.lo.s31;have pu:=D5 j2;have pv:=D5 j3;have hlt:decide ((i:Int)<(n:Int))=true:=by simp;omega
  simp only[AM]at j4;refine Ue [.t hlt] rfl ?_;refine ct 3 (S:=Unit) (λ_=>[(10,.v (.oi i)),(9,.v (.oi n)),(5,.v (.one (.ow 3 0))),(4,.v (.one (.ow 2 0))),(3,.v (.one (.ow 1 0))),(2,.v (.one (.ow 0 0)))]) (λ_=>[.blk 105 (ta u),.blk 105 (ta v),.blk 105 zTm,.blk 105 zTm]) (λ_=>¬D4 u v=true/\¬D4 v u=true) rfl ?_ ?_
  ·have bA:D4 u v=(decide (Hb u.hi v.lo<=0) && !(u.point && v.point && decide (Hb u.hi v.lo=0))):=by
    unfold D4;cases u.point <;> cases v.point <;> simp
   have bB:D4 v u=(decide (Hb v.hi u.lo<=0) && !(u.point && v.point && decide (Hb v.hi u.lo=0))):=by
    unfold D4;cases u.point <;> cases v.point <;> simp
   obtain⟨a0,A'⟩:∃b,decide (Hb u.hi v.lo<=0)=b:=⟨_,rfl⟩;obtain⟨b0,B'⟩:∃b,decide (Hb v.hi u.lo<=0)=b:=⟨_,rfl⟩;obtain⟨p0,P'⟩:∃b,u.point=b:=⟨_,rfl⟩;obtain⟨q0,Q'⟩:∃b,v.point=b:=⟨_,rfl⟩;obtain⟨x0,X'⟩:∃b,decide (Hb u.hi v.lo=0)=b:=⟨_,rfl⟩;obtain⟨y0,Y'⟩:∃b,decide (Hb v.hi u.lo=0)=b:=⟨_,rfl⟩;rw[A',P',Q',X']at bA;rw[B',P',Q',Y']at bB;have r1:D4 u v=true->(u,v,-1)=r:=λh=>by rw[if_pos h]at j4;injection j4
   have r2:¬D4 u v=true->D4 v u=true->(u,v,1)=r:=λh h'=>by rw[if_neg h,if_pos h']at j4;injection j4
   clear j4;cases a0
   ·cases b0
    ·exact go tt [.k c1,.g 19 false A',.f rfl,.k c2,.g 45 false B',.f rfl] rfl trivial (rc () ⟨by rw[bA];simp,by rw[bB];simp⟩ rfl)
    ·cases p0
     ·obtain rfl:=r2 (by rw[bA];simp) (by rw[bB];rfl);exact Ug [.k c1,.g 19 false A',.f rfl,.k c2,.g 45 true B',.k pu,.g 48 false P',.g 52 false rfl,.t rfl] rfl
     ·cases q0
      ·obtain rfl:=r2 (by rw[bA];simp) (by rw[bB];rfl);exact Ug [.k c1,.g 19 false A',.f rfl,.k c2,.g 45 true B',.k pu,.g 48 true P',.k pv,.g 52 false Q',.t rfl] rfl
      ·cases y0
       ·obtain rfl:=r2 (by rw[bA];simp) (by rw[bB];rfl);exact Ug [.k c1,.g 19 false A',.f rfl,.k c2,.g 45 true B',.k pu,.g 48 true P',.k pv,.g 52 true Q',.k c2,.t (by simpa using Y')] rfl
       ·exact go tt [.k c1,.g 19 false A',.f rfl,.k c2,.g 45 true B',.k pu,.g 48 true P',.k pv,.g 52 true Q',.k c2,.f (by simpa using Y')] rfl trivial (rc () ⟨by rw[bA];simp,by rw[bB];simp⟩ rfl)
   ·cases p0
    ·obtain rfl:=r1 (by rw[bA];rfl);exact Ug [.k c1,.g 19 true A',.k pu,.g 22 false P',.g 26 false rfl,.t rfl] rfl
    ·cases q0
     ·obtain rfl:=r1 (by rw[bA];rfl);exact Ug [.k c1,.g 19 true A',.k pu,.g 22 true P',.k pv,.g 26 false Q',.t rfl] rfl
     ·cases x0
      ·obtain rfl:=r1 (by rw[bA];rfl);exact Ug [.k c1,.g 19 true A',.k pu,.g 22 true P',.k pv,.g 26 true Q',.k c1,.t (by simpa using X')] rfl
      ·cases b0
       ·exact go tt [.k c1,.g 19 true A',.k pu,.g 22 true P',.k pv,.g 26 true Q',.k c1,.f (by simpa using X'),.k c2,.g 45 false B',.f rfl] rfl trivial (rc () ⟨by rw[bA];simp,by rw[bB];simp⟩ rfl)
       ·cases y0
        ·obtain rfl:=r2 (by rw[bA];simp) (by rw[bB];rfl);exact Ug [.k c1,.g 19 true A',.k pu,.g 22 true P',.k pv,.g 26 true Q',.k c1,.f (by simpa using X'),.k c2,.g 45 true B',.k pu,.g 48 true P',.k pv,.g 52 true Q',.k c2,.t (by simpa using Y')] rfl
        ·exact go tt [.k c1,.g 19 true A',.k pu,.g 22 true P',.k pv,.g 26 true Q',.k c1,.f (by simpa using X'),.k c2,.g 45 true B',.k pu,.g 48 true P',.k pv,.g 52 true Q',.k c2,.f (by simpa using Y')] rfl trivial (rc () ⟨by rw[bA];simp,by rw[bB];simp⟩ rfl)
  ·rintro _ ⟨n1,n2⟩
   rw[if_neg n1,if_neg n2]at j4;have qr:∀{x y:Rat},Qb x->Qb y->Qs 2147483647 (ES x y):=λh1 h2=>Qp2 h1 h2
   have cc:=Cd (qr j2.hi j2.lo) (qr j3.hi j3.lo);by_cases D:0<=Hb (ES u.hi u.lo) (ES v.hi v.lo)
   ·rw[if_pos D]at j4;obtain⟨x,x1,x2⟩:=Qd.1 j4;refine Uf [.k (xO j2.hi j2.lo),.k (xO j3.hi j3.lo),.k cc,.t (by simpa using D),.k (mY j2 x1)] rfl ?_;exact rd (i+1,x,v) (by dsimp only;omega) ⟨hi,vM j2 x1,j3,by dsimp only;rw[hk'];exact x2⟩ rfl
   ·rw[if_neg D]at j4;obtain⟨x,x1,x2⟩:=Qd.1 j4;refine Uf [.k (xO j2.hi j2.lo),.k (xO j3.hi j3.lo),.k cc,.f (by simpa using D),.k (mY j3 x1)] rfl ?_;exact rd (i+1,u,x) (by dsimp only;omega) ⟨hi,j2,vM j3 x1,by dsimp only;rw[hk'];exact x2⟩ rfl
 ·obtain rfl:i=n:=by omega
  rw[Ki]at j4;simp only[AM]at j4;injection j4 with j4;subst j4;exact Ug [.f (by simp)] rfl
theorem Qnw{a b:Rat}(ha:Qb a)(hb:Qb b):Uk 69 [.agg (rl a),.one (.row [rl b])] [.agg (rl (if 0<Hb b a then b else a))]:=by
 have ca:=MK (U3 a.num) (U3 (a.den:Int)) ha.s32.1 ha.s32.2;have cb:=MK (U3 b.num) (U3 (b.den:Int)) hb.s32.1 hb.s32.2;rw[Tq]at ca cb;have cc:=Cd hb.s31 ha.s31;refine Fu func69 rfl ?_;refine Ue [.k ca] rfl ?_;refine Uj (S:=Nat) 3 (λL1 i=>(12,.v (.oi i))::L1) (λi=>[.blk 42 (rl a),.blk 42 [.bool false,.nils,.bool false,.nils],.blk 42 (rl (if i=0 then a else if 0<Hb b a then b else a))]) (λi=>1-i) (λi=>i<=1) 0 (Qh _) rfl rfl λi hi=>?_
 rcases(show i=0\/i=1 by omega)with rfl|rfl
 ·by_cases h:0<Hb b a
  ·refine Ue [.t rfl,.x (i:=0) (xs:=rl b) rfl,.k cc,.t (by simpa using h),.k cb] rfl ?_ (by simp[U0]);exact rd 1 (by omega) (by omega) (by rw[if_pos h];rfl)
  ·refine Ue [.t rfl,.x (i:=0) (xs:=rl b) rfl,.k cc,.f (by simpa using h)] rfl ?_ (by simp[U0]);exact rd 1 (by omega) (by omega) (by rw[if_neg h];rfl)
 ·exact Ug [.f rfl] rfl
theorem KW{a b:Tm}{c:Int}(ha:Tb a)(hb:Tb b)(h:UR a b=some c):Uk 162 [.agg (ta a),.agg (ta b)] [.oi c]:=by
 have ca:=MW ha;have cb:=MW hb;have pa:=D5 ha;have pb:=D5 hb;unfold UR at h;by_cases h1:a.point=true
 ·rw[if_pos h1]at h;injection h with h;subst h;have:=Qn3 b a.lo;exact Uh func162 rfl [.k ca,.k cb,.k pa,.t h1,.k (De hb ha.lo)] rfl rfl (by simp[U0];omega)
 rw[if_neg h1]at h;have h1:a.point=false:=by simpa using h1
 by_cases h2:b.point=true
 ·rw[if_pos h2]at h;injection h with h;subst h;exact Uh func162 rfl [.k ca,.k cb,.k pa,.f h1,.k pb,.t h2,.k (De ha hb.lo)] rfl
 rw[if_neg h2]at h;have h2:b.point=false:=by simpa using h2
 obtain⟨lo,hlo⟩:=nmE (if 0<Hb b.lo a.lo then b.lo else a.lo);obtain⟨hi,hhi⟩:=nmE (if Hb b.hi a.hi<0 then b.hi else a.hi);have h:(if Hb lo hi<0 then(yA a.p b.p).bind λg=>if 1<g.length/\FZ g lo hi=true then some 0 else(AM (P5 a b) a b).bind λr=>some r.2.2 else(AM (P5 a b) a b).bind λr=>some r.2.2)=some c:=by rw[hlo,hhi];exact h
 have qlo:Qb lo:=by rw[hlo];split;exact hb.lo;exact ha.lo
 have qhi:Qb hi:=by rw[hhi];split;exact hb.hi;exact ha.hi
 have cm:=Qnw ha.lo hb.lo;rw[<-hlo]at cm;have cc1:=Cd hb.hi.s31 ha.hi.s31;have cc2:=Cd qlo.s31 qhi.s31;refine Fu func162 rfl ?_;refine Ue [.k ca,.k cb,.k pa,.f h1,.k pb,.f h2,.k cm] rfl ?_;refine ct 2 (S:=Unit) (λ_=>[(6,.v (.one (.ow 3 0))),(5,.v (.one (.ow 2 0))),(4,.v (.oi 0)),(3,.v (.one (.ow 1 0))),(2,.v (.one (.ow 0 0)))]) (λ_=>[.blk 105 (ta a),.blk 105 (ta b),.blk 42 (rl lo),.blk 42 (rl hi)]) (λ_=>True) rfl ?_ ?_
 ·by_cases D:Hb b.hi a.hi<0
  ·rw[if_pos D]at hhi;subst hhi;exact go tt [.k cc1,.t (by simpa using D)] rfl trivial (rc () trivial rfl)
  ·rw[if_neg D]at hhi;subst hhi;exact go tt [.k cc1,.f (by simpa using D)] rfl trivial (rc () trivial rfl)
 ·rintro _ _
  by_cases D:Hb lo hi<0
  ·rw[if_pos D]at h;obtain⟨g,g1,h⟩:=Qd.1 h;have cg:=Qez ha.p hb.p g1;have pg:=Qjg ha.p hb.p g1;have ch:=Qft pg qlo qhi;by_cases G:1<g.length
   ·by_cases R:FZ g lo hi=true
    ·rw[if_pos ⟨G,R⟩]at h;injection h with h;subst h;exact Ug [.k cc2,.t (by simpa using D),.k cg,.k (P7 g),.g 58 true (by simp;omega),.k ch,.t R] rfl
    ·rw[if_neg λh=>R h.2]at h;obtain⟨r,r1,h⟩:=Qd.1 h;injection h with h;subst h;exact Ug [.k cc2,.t (by simpa using D),.k cg,.k (P7 g),.g 58 true (by simp;omega),.k ch,.f (by simpa using R),.k (xB ha hb r1)] rfl
   ·rw[if_neg λh=>G h.1]at h;obtain⟨r,r1,h⟩:=Qd.1 h;injection h with h;subst h;exact Ug [.k cc2,.t (by simpa using D),.k cg,.k (P7 g),.g 58 false (by simp;omega),.f rfl,.k (xB ha hb r1)] rfl
  ·rw[if_neg D]at h;obtain⟨r,r1,h⟩:=Qd.1 h;injection h with h;subst h;exact Ug [.k cc2,.f (by simpa using D),.k (xB ha hb r1)] rfl
theorem Qmn{p:Un}{a:Tm}{s:Int}(hp:Pb p)(ha:Tb a)(h:GG p a=some s):Uk 241 [pr p,.agg (ta a)] [.oi s]:=by
 have ca:=MW ha;have pa:=D5 ha;have cn:=Hq hp.t hp.ln hp.bd;unfold GG at h;by_cases h0:p.length=0
 ·rw[if_pos h0]at h;injection h with h;subst h;exact Uh func241 rfl [.k cn,.k ca,.t (by simp;exact Qj h0)] rfl
 rw[if_neg h0]at h;have h0:p≠[]:=λe=>h0 (by rw[e];rfl)
 by_cases h1:a.point=true
 ·rw[if_pos h1]at h;injection h with h;subst h;exact Uh func241 rfl [.k cn,.k ca,.f (by simpa using h0),.k pa,.t h1,.k (PR hp ha.lo)] rfl
 rw[if_neg h1]at h;have h1:a.point=false:=by simpa using h1
 obtain⟨g,g1,h⟩:=Qd.1 h;have cg:=Qez hp ha.p g1;have pg:=Qjg hp ha.p g1;have ch:=Qft pg ha.lo ha.hi;by_cases G:1<g.length/\FZ g a.lo a.hi=true
 ·rw[if_pos G]at h;injection h with h;subst h;exact Uh func241 rfl [.k cn,.k ca,.f (by simpa using h0),.k pa,.f h1,.k cg,.k (P7 g),.g 29 true (by simp;omega),.k ch,.t G.2] rfl
 rw[if_neg G]at h;obtain⟨c,c1,h⟩:=Qd.1 h;obtain⟨u,u1,h⟩:=Qd.1 h;injection h with h;subst h;obtain⟨cl,call⟩:=chain_ok hp c1;obtain⟨n,hn⟩:=nmE (64+2*(Fb a.lo.num+Fb a.hi.num)+4*(a.p.length+p.length)*(G8 a.p+G8 p+(a.p.length+p.length)+8));have cst:=Qga ha hp;rw[show dW p a=n from hn.symm]at cst;rw[<-hn]at u1;have hnb:n<=17179938816+200000000:=by
  have l1:=ha.p.l;have l2:=hp.l;have b1:=ha.lo.1;have b2:=ha.hi.1;have s1:G8 a.p<=16777216:=by have:=Mg ha.p.b a.p.length;rwa[Q6]at this
  have s2:G8 p<=16777216:=by have:=Mg hp.b p.length;rwa[Q6]at this
  have:4*(a.p.length+p.length)*(G8 a.p+G8 p+(a.p.length+p.length)+8)<=512*33554568:=Zc (by omega) (by omega);omega
 refine Fu func241 rfl ?_;refine Ue [.k cn,.k ca,.f (by simpa using h0),.k pa,.f h1,.k cg] rfl ?_;refine ct 2 (S:=Unit) (λ_=>[(3,.v (.one (.ow 0 0))),(0,.v (pr p))]) (λ_=>[.blk 105 (ta a)]) (λ_=>True) rfl ?_ ?_
 ·by_cases G1:1<g.length
  ·exact go tt [.k (P7 g),.g 29 true (by simp;omega),.k ch,.f (by simpa using λh=>G ⟨G1,h⟩)] rfl trivial (rc () trivial rfl)
  ·exact go tt [.k (P7 g),.g 29 false (by simp;omega),.f rfl] rfl trivial (rc () trivial rfl)
 rintro _ _
 refine Ue [.k (Qfc hp c1),.k cst] rfl ?_;refine Uj (S:=Nat×Tm) 1 (λL1 s=>(46,.v (.oi (s.1:Int)))::L1) (λs=>[.blk 105 (ta s.2)]) (λs=>n-s.1) (λs=>s.1<=n/\Tb s.2/\sgF c (n-s.1) s.2=some u) (0,a) ⟨Qh _,ha,u1⟩ rfl rfl λ⟨i,x⟩ ⟨j1,j2,j3⟩=>?_
 dsimp only at j1 j2 j3 ⊢;by_cases hi:i<n
 ·obtain⟨k,hk⟩:∃k,n-i=k+1:=⟨n-i-1,by omega⟩;have hk':n-(i+1)=k:=by omega
  rw[hk]at j3;simp only[sgF]at j3;have px:=D5 j2;have cb:=IF (by omega) call j2.lo j2.hi;have hlt:decide ((i:Int)<(n:Int))=true:=by simp;omega
  by_cases X:x.point=true
  ·rw[if_pos (.inl X)]at j3;injection j3 with j3;subst j3;exact Ug [.t hlt,.k px,.g 50 true X,.t rfl,.k (PR hp j2.hi)] rfl
  ·have X':x.point=false:=by simpa using X
   by_cases Z:To c x.lo x.hi=0
   ·rw[if_pos (.inr Z)]at j3;injection j3 with j3;subst j3;exact Ug [.t hlt,.k px,.g 50 false X',.k cb,.t (by simpa using Z),.k (PR hp j2.hi)] rfl
   ·rw[if_neg (by rintro (h|h);exact X h;exact Z h)]at j3;obtain⟨v,v1,v2⟩:=Qd.1 j3;refine Uf [.t hlt,.k px,.g 50 false X',.k cb,.f (by simpa using Z),.k (mY j2 v1)] rfl ?_;exact rd (i+1,v) (by dsimp only;omega) ⟨hi,vM j2 v1,by dsimp only;rw[hk'];exact v2⟩ rfl
 ·obtain rfl:i=n:=by omega
  rw[Ki]at j3;simp only[sgF]at j3;injection j3 with j3;subst j3;exact Ug [.f (by simp),.k (PR hp j2.hi)] rfl
abbrev tas(l:List Tm):LV:=.row (l.map λt=>ta t)
theorem NT{l:List Tm}{i:Nat}{t:Tm}(h:l[i]? = some t):(l.map λt=>ta t)[i]? = some (ta t):=G6 h
def zTr:Us:=[.row [],.bool false,.row [],.bool false,.row [],.bool false,.row [],.bool false,.row []]
theorem wF:Uk 96 [.one (.row [])] [.agg zTr,.one (.bool false)]:=Uh func96 rfl [.t rfl] rfl
theorem S7{b:Tm}{l:List Tm}{m:Tm}(hb:Tb b)(hl:∀t∈l,Tb t)(hn:l.length≤1000000)(h:QP b l=some m):Uk 96 [.one (tas (b::l))] [.agg (ta m),.one (.bool true)]:=by
 refine Fu func96 rfl ?_;refine go tt [.f (by simp;omega),.x (i:=0) (xs:=ta b) rfl,.i 1] rfl (by simp[U0];exact⟨rfl,λ_ _=>rfl⟩) ?_;refine Uj (S:=Nat×Tm) 2 (λL1 s=>(17,.v (.oi (s.1:Int)))::L1) (λs=>[.blk 105 zTm,.blk 105 (ta s.2)]) (λs=>l.length-s.1) (λs=>s.1<=l.length/\Tb s.2/\QP s.2 (l.drop s.1)=some m) (0,b) ⟨Qh _,hb,h⟩ rfl rfl λ⟨i,x⟩ ⟨j1,j2,j3⟩=>?_
 dsimp only at j1 j2 j3 ⊢;by_cases hi:i<l.length
 ·obtain⟨a,ha⟩:=gxE (l:=l) (i:=i) hi;have hdr:l.drop i=a::l.drop (i+1):=by
   rw[Zp hi];congr 1;have:=Qe hi;rw[ha]at this;injection this with this;exact this.symm
  rw[hdr]at j3;simp only[QP]at j3;obtain⟨c,c1,j3⟩:=Qd.1 j3;have ta':=hl a (Qc ha);by_cases hc:c<0
  ·rw[if_pos hc]at j3;refine Uf [.t (by simp;omega),.x (NT ha),.k (KW ta' j2 c1),.t (by simpa using hc)] rfl ?_;exact rd (i+1,a) (by dsimp only;omega) ⟨hi,ta',j3⟩ rfl
  ·rw[if_neg hc]at j3;refine Uf [.t (by simp;omega),.x (NT ha),.k (KW ta' j2 c1),.f (by simpa using hc)] rfl ?_;exact rd (i+1,x) (by dsimp only;omega) ⟨hi,j2,j3⟩ rfl
 ·obtain rfl:i=l.length:=by omega
  rw[Yt]at j3;simp only[QP]at j3;injection j3 with j3;subst j3;exact Ug [.f (by simp),.k (Qge j2)] rfl
end Orr
namespace Orq
def Fh(x:Rat):Rat:=if x<0 then -x else x
theorem Ht(x:Rat):0<=Fh x:=by unfold Fh;split <;> grind
theorem Mh{x b:Rat}:Fh x<=b↔-b<=x/\x<=b:=by unfold Fh;split <;> constructor <;> grind
theorem vY{x b:Rat}:Fh x<b↔-b<x/\x<b:=by unfold Fh;split <;> constructor <;> grind
theorem Ss(x y:Rat):Fh (x+y)<=Fh x+Fh y:=by unfold Fh;split <;> split <;> split <;> grind
theorem oN(x y:Rat):Fh (x-y)=Fh (y-x):=by unfold Fh;split <;> split <;> grind
theorem Ep(x:Rat):Fh (-x)=Fh x:=by unfold Fh;split <;> split <;> grind
theorem Rh:Fh 0=0:=by decide
theorem Cu{x:Rat}(h:x≠0):0<Fh x:=by unfold Fh;split <;> grind
theorem Qp0{x:Rat}(h:Fh x=0):x=0:=by unfold Fh at h;split at h <;> grind
theorem Be{x y:Rat}(h1:0<=x)(h2:0<=y):0<=x*y:=Vx h1 h2
theorem Is{x y:Rat}(h1:0<x)(h2:0<y):0<x*y:=Xl h1 h2
theorem Ck{a b c d:Rat}(h0:0<=a)(h1:a<=b)(h2:0<=c)(h3:c<=d):a*c<=b*d:=by
 have e1:=Ze h1 h2;have e2:=Z0 h3 (Zl h0 h1);exact Zl e1 e2
theorem Ih(x y:Rat):Fh (x*y)=Fh x*Fh y:=by
 unfold Fh;by_cases h1:x<0 <;> by_cases h2:y<0
 ·have:=Is (x:=-x) (y:=-y) (by grind) (by grind);simp only[h1,h2,if_true];split <;> grind
 ·have:=Be (x:=-x) (y:=y) (by grind) (by grind);simp only[h1,h2,if_true,if_false];split <;> grind
 ·have:=Be (x:=x) (y:=-y) (by grind) (by grind);simp only[h1,h2,if_true,if_false];split <;> grind
 ·have:=Be (x:=x) (y:=y) (by grind) (by grind);simp only[h1,h2,if_false];split <;> grind
theorem Ha{x y a b:Rat}(h1:Fh x<=a)(h2:Fh y<=b):Fh (x*y)<=a*b:=by
 rw[Ih];exact Ck (Ht x) h1 (Ht y) h2
theorem Ae{x y:Rat}(h1:0<x)(h2:0<y):0<x / y:=by rw[Jn];exact Is h1 (Rat.inv_pos.2 h2)
theorem Hd{x y:Rat}(h2:0<y):x / y*y=x:=Zj (by grind)
theorem Hh{b d:Rat}(hb:0<=b)(hd:0<d):∃e:Rat,0<e/\e<=1/\e*b<d:=by
 have h1:0<d / (b+1):=Ae hd (by grind);have h2:d / (b+1)*(b+1)=d:=Hd (by grind);rcases Vw (a:=d / (b+1)) (b:=1)with h|h
 ·exact⟨d / (b+1),h1,h,by
   have:d / (b+1)*(b+1)=d / (b+1)*b+d / (b+1):=by grind
   grind⟩
 ·refine⟨1,by decide,by decide,?_⟩;have:1*(b+1)<=d / (b+1)*(b+1):=Ze h (by grind);grind
def ev:Uq->Rat->Rat
 | [],_=>0
 |a::p,t=>a+t*ev p t
def dv:Uq->Rat->Rat
 | [],_=>0
 |_::p,t=>ev p t+t*dv p t
def dq:Uq->Rat->Rat->Rat
 | [],_,_=>0
 |_::p,x,y=>ev p x+y*dq p x y
def dd:Uq->Rat->Rat->Rat
 | [],_,_=>0
 |_::p,x,y=>dq p x y+y*dd p x y
theorem OY(x y:Rat):∀p,ev p x-ev p y=(x-y)*dq p x y
 | []=>by simp only[ev,dq];grind
 |a::p=>by have:=OY x y p;simp only[ev,dq];grind
theorem jV(y:Rat):∀p,dq p y y=dv p y
 | []=>rfl
 |a::p=>by simp only[dq,dv,jV y p]
theorem Qr2(x y:Rat):∀p,dq p x y-dv p y=(x-y)*dd p x y
 | []=>by simp only[dv,dq,dd];grind
 |
  a::p=>by
  have h1:=Qr2 x y p;have h2:=OY x y p;simp only[dv,dq,dd];grind
theorem Qr6(p:Uq)(x y:Rat):ev p x-ev p y=(x-y)*dv p y+(x-y)*(x-y)*dd p x y:=by
 have h1:=OY x y p;have h2:=Qr2 x y p;grind
def uI(R:Rat):Uq->Rat
 | []=>0
 |a::p=>Fh a+R*uI R p
def AB(R:Rat):Uq->Rat
 | []=>0
 |_::p=>uI R p+R*AB R p
def ddB(R:Rat):Uq->Rat
 | []=>0
 |_::p=>AB R p+R*ddB R p
theorem XY{R:Rat}(hR:0<=R):∀p,0<=uI R p
 | []=>by simp only[uI];grind
 |a::p=>by have:=Be hR (XY hR p);have:=Ht a;simp only[uI];grind
theorem M3{R:Rat}(hR:0<=R):∀p,0<=AB R p
 | []=>by simp only[AB];grind
 |a::p=>by have:=Be hR (M3 hR p);have:=XY hR p;simp only[AB];grind
theorem CG{R:Rat}(hR:0<=R):∀p,0<=ddB R p
 | []=>by simp only[ddB];grind
 |a::p=>by have:=Be hR (CG hR p);have:=M3 hR p;simp only[ddB];grind
theorem SJ{R x:Rat}(hx:Fh x<=R):∀p,Fh (ev p x)<=uI R p
 | []=>by simp only[ev,uI,Rh];grind
 |
  a::p=>by
  have h1:=Ss a (x*ev p x);have h2:=Ha hx (SJ hx p);simp only[ev,uI];grind
theorem uS{R x y:Rat}(hx:Fh x<=R)(hy:Fh y<=R):∀p,Fh (dq p x y)<=AB R p
 | []=>by simp only[dq,AB,Rh];grind
 |
  a::p=>by
  have h1:=Ss (ev p x) (y*dq p x y);have h2:=Ha hy (uS hx hy p);have h3:=SJ hx p;simp only[dq,AB];grind
theorem Qgv{R x y:Rat}(hx:Fh x<=R)(hy:Fh y<=R):∀p,Fh (dd p x y)<=ddB R p
 | []=>by simp only[dd,ddB,Rh];grind
 |
  a::p=>by
  have h1:=Ss (dq p x y) (y*dd p x y);have h2:=Ha hy (Qgv hx hy p);have h3:=uS hx hy p;simp only[dd,ddB];grind
theorem Qut{R x y:Rat}(hx:Fh x<=R)(hy:Fh y<=R)(p:Uq):Fh (ev p x-ev p y)<=Fh (x-y)*AB R p:=by
 rw[OY,Ih];exact Ck (Ht _) Qp (Ht _) (uS hx hy p)
def Su:Uq->Uq->Uq
 | [],q=>q
 |a::p,[]=>a::p
 |a::p,b::q=>(a+b)::Su p q
def D2(c:Rat)(p:Uq):Uq:=p.map (c * ·)
def G5:Uq->Uq->Uq
 | [],_=>[]
 |a::p,q=>Su (D2 a q) (0::G5 p q)
def Bj:Uq->Uq
 | []=>[]
 |_::p=>Su p (0::Bj p)
theorem Gy(t:Rat):∀p q,ev (Su p q) t=ev p t+ev q t
 | [],q=>by simp only[Su,ev];grind
 |a::p,[]=>by simp only[Su,ev];grind
 |a::p,b::q=>by have:=Gy t p q;simp only[Su,ev];grind
theorem Gs(c t:Rat):∀p,ev (D2 c p) t=c*ev p t
 | []=>by simp only[D2,X6,ev];grind
 |a::p=>by have:=Gs c t p;simp only[D2,Zz,ev]at *;grind
theorem Ff(t:Rat):∀p q,ev (G5 p q) t=ev p t*ev q t
 | [],q=>by simp only[G5,ev];grind
 |a::p,q=>by have:=Ff t p q;simp only[G5,Gy,Gs,ev];grind
theorem Tp(t:Rat):∀p,ev (Bj p) t=dv p t
 | []=>rfl
 |a::p=>by have:=Tp t p;simp only[Bj,Gy,ev,dv];grind
theorem jW(t:Rat):∀p q,dv (Su p q) t=dv p t+dv q t
 | [],q=>by simp only[Su,dv];grind
 |a::p,[]=>by simp only[Su,dv];grind
 |a::p,b::q=>by have:=jW t p q;have:=Gy t p q;simp only[Su,dv];grind
theorem HE(c t:Rat):∀p,dv (D2 c p) t=c*dv p t
 | []=>by simp only[D2,X6,dv];grind
 |a::p=>by have:=HE c t p;have:=Gs c t p;simp only[D2,Zz,dv]at *;grind
theorem jU(t:Rat):∀p q,dv (G5 p q) t=dv p t*ev q t+ev p t*dv q t
 | [],q=>by simp only[G5,dv,ev];grind
 |a::p,q=>by have:=jU t p q;have:=Ff t p q;simp only[G5,jW,HE,dv,ev];grind
theorem aK:∀{p:Uq},(∀x∈p,x=0)->∀t,ev p t=0
 | [],_,t=>rfl
 |
  a::p,h,t=>by
  have h1:=aK (p:=p) (λx hx=>h x (Qg _ hx)) t;have h2:=h a (Qx ..);simp only[ev,h1,h2];grind
theorem aZ:∀{p:Uq},(∀x∈p,x=0)->∀t,dv p t=0
 | [],_,t=>rfl
 |
  a::p,h,t=>by
  have h0:=λx hx=>h x (Qg _ hx)
  have h1:=aK (p:=p) h0 t;have h2:=aZ (p:=p) h0 t;simp only[dv,h1,h2];grind
theorem WA:∀{p:Uq},(∀t,0<t->t<1->ev p t=0)->∀x∈p,x=0
 | [],_=>λx hx=>by cases hx
 |
  a::p,h=>by
  have ha:a=0:=by
   rcases Classical.em (a=0)with h0|h0
   ·exact h0
   ·obtain⟨e,e1,e2,e3⟩:=Hh (XY (R:=1) (by decide) p) (Cu h0);obtain⟨f,f1,f2,f3⟩:=Hh (b:=1) (d:=e) (by decide) e1;have h1:=h f f1 (by grind);have h2:=SJ (R:=1) (x:=f) (by unfold Fh;split <;> grind) p;have h3:=Ih f (ev p f);have h4:Fh f=f:=by unfold Fh;split <;> grind
    have h5:a=-(f*ev p f):=by simp only[ev]at h1;grind
    have h6:Fh a=f*Fh (ev p f):=by rw[h5,Ep,h3,h4]
    have h7:f*Fh (ev p f)<=e*uI 1 p:=Ck (Qt f1) (by grind) (Ht _) h2;grind
  intro x hx;rcases Qm.1 hx with rfl|hx
  ·exact ha
  ·refine WA (p:=p) (λt h1 h2=>?_) x hx;have:=h t h1 h2;simp only[ev,ha]at this;have h3:t*ev p t=0:=by grind
   rcases Y3.1 h3 with h4|h4
   ·grind
   ·exact h4
theorem Qg3{p q:Uq}(h:∀t,ev p t=ev q t)(t:Rat):dv p t=dv q t:=by
 have h1:=aZ (p:=Su p (D2 (-1) q)) (WA λt _ _=>by rw[Gy,Gs,h t];grind) t;rw[jW,HE]at h1;grind
def Fe(x:Rat):Int:=if x<0 then -1 else if 0<x then 1 else 0
theorem Gp{x:Rat}:Fe x=0↔x=0:=by
 unfold Fe;constructor
 ·intro h;split at h <;> (try split at h) <;> grind
 ·intro h;subst h;rfl
theorem Hw{x:Rat}:Fe x=1↔0<x:=by
 unfold Fe;constructor
 ·intro h;split at h <;> (try split at h) <;> grind
 ·intro h;rw[if_neg (by grind),if_pos h]
theorem Pa{x:Rat}:Fe x=-1↔x<0:=by
 unfold Fe;constructor
 ·intro h;split at h <;> (try split at h) <;> grind
 ·intro h;rw[if_pos h]
theorem Fy(x:Rat):Fe x=-1/\x<0\/Fe x=0/\x=0\/Fe x=1/\0<x:=by
 rcases Vw (a:=x) (b:=0)with h|h
 ·rcases Classical.em (x=0)with h0|h0
  ·exact .inr (.inl ⟨Gp.2 h0,h0⟩)
  ·exact .inl ⟨Pa.2 (by grind),by grind⟩
 ·rcases Classical.em (x=0)with h0|h0
  ·exact .inr (.inl ⟨Gp.2 h0,h0⟩)
  ·exact .inr (.inr ⟨Hw.2 (by grind),by grind⟩)
theorem Sv(x y:Rat):Fe (x*y)=Fe x*Fe y:=by
 rcases Fy x with⟨e1,h1⟩|⟨e1,h1⟩|⟨e1,h1⟩ <;> rcases Fy y with⟨e2,h2⟩|⟨e2,h2⟩|⟨e2,h2⟩ <;> rw[e1,e2]
 ·have:=Is (x:=-x) (y:=-y) (by grind) (by grind);exact Hw.2 (by grind)
 ·subst h2;exact Gp.2 (by grind)
 ·have:=Is (x:=-x) (y:=y) (by grind) (by grind);exact Pa.2 (by grind)
 ·subst h1;exact Gp.2 (by grind)
 ·subst h1;exact Gp.2 (by grind)
 ·subst h1;exact Gp.2 (by grind)
 ·have:=Is (x:=x) (y:=-y) (by grind) (by grind);exact Pa.2 (by grind)
 ·subst h2;exact Gp.2 (by grind)
 ·exact Hw.2 (Is h1 h2)
theorem Pw{a b d:Rat}(h1:d<=Fh a)(h2:Fh (b-a)<d):Fe b=Fe a/\Fe a≠0:=by
 rw[vY]at h2;rcases Fy a with⟨e,h⟩|⟨e,h⟩|⟨e,h⟩
 ·rw[e,Pa];unfold Fh at h1;rw[if_pos h]at h1;exact⟨by grind,by decide⟩
 ·subst h;rw[Rh]at h1;grind
 ·rw[e,Hw];unfold Fh at h1;rw[if_neg (by grind)]at h1;exact⟨by grind,by decide⟩
def tc(x:Rat):Int->Ur->Nat
 |_,[]=>0
 |s,p::l=>if Fe (ev p x)=0 then tc x s l else(if s=-(Fe (ev p x))then 1 else 0)+tc x (Fe (ev p x)) l
inductive SCl:List Rat->List Rat->List (List Rat)->Prop
 |base {f g:List Rat} {c:Rat} (hc:c≠0) (hg:∀t,ev g t=c):SCl f g []
 |step {f g h:List Rat} {l:List (List Rat)} {a b:Rat} {q:List Rat} (ha:0<a) (hb:0<b) (he:∀t,a*ev f t=ev q t*ev g t-b*ev h t) (hl:SCl g h l):SCl f g (h::l)
theorem Qla{x:Rat}{s:Int}{g h:Uq}{l:Ur}(hh:Fe (ev h x)=-s)(hs:s≠0):tc x s (g::h::l)=1+tc x (-s) l:=by
 have h3:Fe (ev h x)≠0:=by omega
 have hv:s=1\/s=-1:=by rcases Fy (ev h x)with⟨e,_⟩|⟨e,_⟩|⟨e,_⟩ <;> omega
 simp only[tc,if_neg h3,hh];rcases Fy (ev g x)with⟨e,_⟩|⟨e,_⟩|⟨e,_⟩ <;> rw[e] <;> rcases hv with rfl|rfl <;> simp
theorem GM{x:Rat}{s:Int}{p:Uq}{l:Ur}(h:Fe (ev p x)≠0):tc x s (p::l)=(if s=-(Fe (ev p x))then 1 else 0)+tc x (Fe (ev p x)) l:=by rw[tc,if_neg h]
theorem Md{R x y e d:Rat}{p:Uq}(hx:Fh x<=R)(hy:Fh y<=R)(hR:0<=R)(h:Fh (y-x)<=e)(hd:e*AB R p<d):Fh (ev p y-ev p x)<d:=by
 have h1:=Qut hy hx p;have h2:=Ze h (M3 hR p);grind
theorem qW{a x y:Rat}(ha:0<a)(h:a*x<a*y):x<y:=by
 rcases Vw (a:=y) (b:=x)with h'|h'
 ·have:=Z0 h' (Qt ha);grind
 ·rcases Classical.em (x=y)with e|e
  ·subst e;grind
  ·grind
theorem Qwa{a b d d' B f g h q:Rat}(ha:0<a)(hb:0<b)(dp:0<d)(h7:B*d+a*d<b*d')(hq:Fh q<=B)(hg:Fh g<d)(hh:d'<=Fh h)(he:a*f=q*g-b*h)(hd':0<d'):Fe h=-Fe f/\d<=Fh f:=by
 have h4:=Ha hq (Qt hg);rw[Mh]at h4;have had:=Is ha dp;have h8:=Z0 hh (Qt hb);rcases Fy h with⟨s,p⟩|⟨s,p⟩|⟨s,p⟩
 ·have:Fh h=-h:=by unfold Fh;rw[if_pos p]
  rw[this]at h8;have h10:d<f:=qW ha (by grind);rw[s,Hw.2 (show 0<f by grind)];exact⟨rfl,by unfold Fh;split <;> grind⟩
 ·rw[p,Rh]at hh;grind
 ·have:Fh h=h:=by unfold Fh;rw[if_neg (by grind)]
  rw[this]at h8;have h10:f < -d:=qW ha (by grind);rw[s,Pa.2 (show f<0 by grind)];exact⟨rfl,by unfold Fh;split <;> grind⟩
theorem min2{a b:Rat}(ha:0<a)(hb:0<b):∃e:Rat,0<e/\e<=a/\e<=b:=by
 rcases Vw (a:=a) (b:=b)with h|h
 ·exact⟨a,ha,Qp,h⟩
 ·exact⟨b,hb,h,Qp⟩
theorem Gg(a b:Rat):a<=b\/b<a:=by
 rcases Vw (a:=a) (b:=b)with h|h
 ·exact .inl h
 ·rcases Classical.em (a=b)with e|e
  ·exact .inl (by grind)
  ·exact .inr (by grind)
theorem Qve{R:Rat}(hR:0<=R){f g:Uq}{l:Ur}(hc:SCl f g l):∃d e:Rat,0<d/\0<e/\∀x y,Fh x<=R->Fh y<=R->Fh (y-x)<=e ->
 (d<=Fh (ev f x)\/d<=Fh (ev g x))/\(d<=Fh (ev f x)->Fe (ev f y)=Fe (ev f x)/\Fe (ev f x)≠0)/\(d<=Fh (ev g x)->Fe (ev g y)=Fe (ev g x)/\Fe (ev g x)≠0) /\
 (Fe (ev f y)=Fe (ev f x)->Fe (ev f x)≠0->tc x (Fe (ev f x)) (g::l)=tc y (Fe (ev f x)) (g::l)) /\
 (Fe (ev g y)=Fe (ev g x)->Fe (ev g x)≠0->tc x (Fe (ev g x)) l=tc y (Fe (ev g x)) l):=by
 induction hc with
 |
  @base f g c hc hg =>
  have hd:=Cu hc;obtain⟨e,e1,e2,e3⟩:=Hh (M3 hR f) hd;refine⟨Fh c,e,hd,e1,λx y hx hy hxy=>⟨.inr (by rw[hg];exact Qp),λh=>Pw h (Md hx hy hR hxy e3),λh=>?_,λ_ _=>?_,λ_ _=>rfl⟩⟩
  ·rw[hg,hg];exact⟨rfl,λh=>hc (Gp.1 h)⟩
  ·simp only[tc,hg]
 |
  @step f g h l a b q ha hb he hl ih =>
  obtain⟨d',e',hd',he',ih⟩:=ih;obtain⟨d1,d1p,_,d1b⟩:=Hh (b:=uI R q+a) (d:=b*d') (by have:=XY hR q;grind) (Is hb hd');obtain⟨d,dp,hd1,hdd⟩:=min2 d1p hd';obtain⟨ef,ef1,_,ef3⟩:=Hh (M3 hR f) dp;obtain⟨eg,eg1,_,eg3⟩:=Hh (M3 hR g) dp;obtain⟨e0,e0p,h1,h2⟩:=min2 ef1 eg1;obtain⟨e,ep,h0,h3⟩:=min2 e0p he';have h1:=Zl h0 h1;have h2:=Zl h0 h2;refine⟨d,e,dp,ep,λx y hx hy hxy=>?_⟩;obtain⟨i1,i2,i3,i4,i5⟩:=ih x y hx hy (Zl hxy h3);have hsm:Fh (ev g x)<d->d'<=Fh (ev h x)/\Fe (ev h x)=-Fe (ev f x)/\d<=Fh (ev f x):=λhg=>by
   have hh:d'<=Fh (ev h x):=by
    rcases i1 with i|i
    ·exact absurd (Zl hdd i) (Js.2 hg)
    ·exact i
   have h6:d*(uI R q+a)<=d1*(uI R q+a):=Ze hd1 (by have:=XY hR q;clear ih i1 i2 i3 i4 i5 he;grind);have h7:uI R q*d+a*d<b*d':=by clear ih i1 i2 i3 i4 i5 he;grind
   exact⟨hh,Qwa ha hb dp h7 (SJ hx q) hg hh (he x) hd'⟩
  have hfs:d<=Fh (ev f x)->Fe (ev f y)=Fe (ev f x)/\Fe (ev f x)≠0:=λh=>Pw h (Md hx hy hR (Zl hxy h1) ef3)
  have hgs:d<=Fh (ev g x)->Fe (ev g y)=Fe (ev g x)/\Fe (ev g x)≠0:=λh=>Pw h (Md hx hy hR (Zl hxy h2) eg3)
  refine⟨?_,hfs,hgs,λs1 s2=>?_,i4⟩
  ·rcases Gg d (Fh (ev g x))with h|h
   ·exact .inr h
   ·exact .inl (hsm h).2.2
  ·rcases Gg d (Fh (ev g x))with h|h
   ·obtain⟨g1,g2⟩:=hgs h;rw[GM (x:=x) (p:=g) g2,GM (x:=y) (p:=g) (by rw[g1];exact g2),g1,i4 g1 g2]
   ·obtain⟨h4,h5,_⟩:=hsm h;obtain⟨h6,h7⟩:=i3 h4;have i5:=i5 h6 h7;rw[Qla h5 s2,Qla (h6.trans h5) s2,<-h5,i5]
def Po(p:Uq)(x:Rat):Int:=if Fe (ev p x)≠0 then Fe (ev p x)else Fe (dv p x)
def vv(L:Ur)(x:Rat):Nat:=tc x 0 L
def HJ(f:Uq)(L:Ur):Prop:=(∃c:Rat,c≠0/\(∀t,ev f t=c)/\L=[f])\/∃g l,∃k:Rat,0<k/\(∀t,ev g t=k*dv f t)/\SCl f g l/\L=f::g::l
structure Sm(w:List Rat)(x y:Rat):Prop where
 s:Fe (ev w y)=Po w x
 l:Po w y=Po w x
 n:Po w x≠0
theorem Ak{p:Uq}{x:Rat}(h:Fe (ev p x)≠0):Po p x=Fe (ev p x):=by unfold Po;rw[if_pos h]
theorem bQ{p:Uq}{x:Rat}(h:Fe (ev p x)=0):Po p x=Fe (dv p x):=by unfold Po;rw[if_neg (by simpa using h)]
theorem tN{p:Uq}{x y:Rat}(h:Fe (ev p y)=Fe (ev p x))(h0:Fe (ev p x)≠0):Sm p x y:=by
 have h1:=Ak h0;have h2:=Ak (p:=p) (x:=y) (by rw[h];exact h0);exact⟨by rw[h,h1],by rw[h2,h1,h],by rw[h1];exact h0⟩
theorem QF{f w u:Uq}(h:∀t,ev f t=ev w t*ev u t)(x:Rat):dv f x=dv w x*ev u x+ev w x*dv u x:=by
 rw[<-jU];exact Qg3 (λt=>by rw[h,Ff]) x
theorem iY{f w u:Uq}{x:Rat}(h:∀t,ev f t=ev w t*ev u t)(hu:Fe (ev u x)≠0):Po f x=Po w x*Fe (ev u x):=by
 by_cases hw:Fe (ev w x)=0
 ·have hw0:=Gp.1 hw;have e1:ev f x=0:=by rw[h,hw0];grind
  have e2:dv f x=dv w x*ev u x:=by rw[QF h,hw0];grind
  rw[bQ hw,bQ (Gp.2 e1),e2,Sv]
 ·have e1:Fe (ev f x)=Fe (ev w x)*Fe (ev u x):=by rw[h,Sv]
  rw[Ak hw,Ak (by rw[e1];exact Jf hw hu),e1]
theorem Qwb{f w u:Uq}{x y:Rat}(h:∀t,ev f t=ev w t*ev u t)(hu:Fe (ev u y)=Fe (ev u x))(h0:Fe (ev u x)≠0)(hf:Sm f x y):Sm w x y:=by
 have e1:=iY h h0;have e2:=iY (x:=y) h (by rw[hu];exact h0);have e3:Fe (ev f y)=Fe (ev w y)*Fe (ev u y):=by rw[h,Sv]
 obtain⟨s,l,n⟩:=hf;rw[hu]at e2 e3;refine⟨?_,?_,λh=>n (by rw[e1,h,Yy])⟩
 ·rw[e3,e1]at s;exact Y4 h0 s
 ·rw[e2,e1]at l;exact Y4 h0 l
theorem tc0{x:Rat}{s:Int}{f g:Uq}{l:Ur}(h:Fe (ev g x)=s)(hs:s≠0):tc x 0 (f::g::l)=(if Fe (ev f x)=-s then 1 else 0)+tc x s l:=by
 have hv:s=1\/s=-1:=by rcases Fy (ev g x)with⟨e,_⟩|⟨e,_⟩|⟨e,_⟩ <;> omega
 have hg:Fe (ev g x)≠0:=by omega
 rw[tc];rcases Fy (ev f x)with⟨e,_⟩|⟨e,_⟩|⟨e,_⟩ <;> rw[e] <;> rcases hv with rfl|rfl <;> simp[GM hg,h]
theorem LG{R x y e d:Rat}{p:Uq}(hx:Fh x<=R)(hy:Fh y<=R)(hR:0<=R)(hxy:x<y)(h:y-x<=e)(hd:d<=Fh (dv p x))(he:e*ddB R p<d):Fe (ev p y-ev p x)=Fe (dv p x):=by
 have h1:=Qr6 p y x;have h2:ev p y-ev p x=(y-x)*(dv p x+(y-x)*dd p y x):=by rw[h1];grind
 have h3:=Ha (x:=y-x) (y:=dd p y x) (a:=e) (b:=ddB R p) (by rw[Mh];constructor <;> grind) (Qgv hy hx p);have h4:=Pw (b:=dv p x+(y-x)*dd p y x) hd (by
  have:dv p x+(y-x)*dd p y x-dv p x=(y-x)*dd p y x:=by grind
  rw[this];exact Js.1 λh=>absurd (Zl h h3) (Js.2 he))
 rw[h2,Sv,Hw.2 (show 0<y-x by grind),h4.1,Kq]
def Qdy(f w:Uq)(L:Ur)(x y:Rat):Prop :=
 (vv L x=vv L y/\Sm f x y/\Sm w x y)\/(vv L x=vv L y+1/\Po f x≠0/\Po f y=-Po f x/\Fe (ev f x)=Po f x/\(Fe (ev f y)=0\/Fe (ev f y)=-Po f x))
theorem Qr9{R d:Rat}(hR:0<=R)(hd:0<d){f w u:Uq}(h:∀t,ev f t=ev w t*ev u t):∃e:Rat,0<e/\∀x y,Fh x<=R->Fh y<=R->Fh (y-x)<=e->d<=Fh (ev f x)->Sm f x y/\Sm w x y:=by
 obtain⟨ef,ef1,_,ef3⟩:=Hh (M3 hR f) hd;obtain⟨d1,d1p,_,d1b⟩:=Hh (XY hR u) hd;obtain⟨ew,ew1,_,ew3⟩:=Hh (M3 hR w) d1p;obtain⟨e,ep,e1,e2⟩:=min2 ef1 ew1;refine⟨e,ep,λx y hx hy hxy hf=>⟨?_,?_⟩⟩
 ·have:=Pw hf (Md hx hy hR (Zl hxy e1) ef3);exact tN this.1 this.2
 ·have hw:d1<=Fh (ev w x):=by
   rcases Gg d1 (Fh (ev w x))with h'|h'
   ·exact h'
   ·have h5:=Ha (Qt h') (SJ hx u);rw[<-h]at h5;exact absurd (Zl hf h5) (Js.2 d1b)
  have:=Pw hw (Md hx hy hR (Zl hxy e2) ew3);exact tN this.1 this.2
theorem loc{R:Rat}(hR:0<=R){f w u:Uq}{L:Ur}(hc:HJ f L)(h:∀t,ev f t=ev w t*ev u t):∃e:Rat,0<e/\∀x y,Fh x<=R->Fh y<=R->x<y->y-x<=e->Qdy f w L x y:=by
 rcases hc with⟨c,hc,hf,rfl⟩|⟨g,l,k,hk,hg,hc,rfl⟩
 ·obtain⟨e,ep,h1⟩:=Qr9 hR (Cu hc) h;refine⟨e,ep,λx y hx hy hxy he=>.inl ⟨?_,h1 x y hx hy (by rw[Mh];constructor <;> grind) (by rw[hf];exact Qp)⟩⟩;simp only[vv,tc,hf]
 ·obtain⟨d,e1,dp,e1p,h1⟩:=Qve hR hc;obtain⟨e2,e2p,h2⟩:=Qr9 hR dp h;obtain⟨d3,d3p,_,d3b⟩:=Hh (b:=k) (d:=d) (Qt hk) dp;obtain⟨e3,e3p,_,e3b⟩:=Hh (CG hR f) d3p;obtain⟨d4,d4p,_,d4b⟩:=Hh (b:=AB R w+AB R u) (d:=d3) (by have:=M3 hR w;have:=M3 hR u;grind) d3p;obtain⟨e4,e4p,_,e4b⟩:=Hh (M3 hR w) d4p;obtain⟨e5,e5p,_,e5b⟩:=Hh (M3 hR u) d4p;obtain⟨a1,a1p,a11,a12⟩:=min2 e1p e2p;obtain⟨a2,a2p,a21,a22⟩:=min2 e3p e4p;obtain⟨a3,a3p,a31,a32⟩:=min2 a1p a2p;obtain⟨e,ep,b1,b2⟩:=min2 a3p e5p;refine⟨e,ep,λx y hx hy hxy he=>?_⟩;have hab:Fh (y-x)<=e:=by rw[Mh];clear h1 h2;constructor <;> grind
  have hab1:Fh (y-x)<=e1:=by clear h1 h2;grind
  have hab2:Fh (y-x)<=e2:=by clear h1 h2;grind
  obtain⟨i1,i2,i3,i4,i5⟩:=h1 x y hx hy hab1;rcases Gg d (Fh (ev f x))with hf|hf
  ·obtain⟨s1,s2⟩:=h2 x y hx hy hab2 hf;obtain⟨j1,j2⟩:=i2 hf;refine .inl ⟨?_,s1,s2⟩;have:=i4 j1 j2;simp only[vv];rw[GM (x:=x) (p:=f) j2,GM (x:=y) (p:=f) (by rw[j1];exact j2),j1,this]
  ·have hg1:d<=Fh (ev g x):=by
    rcases i1 with i|i
    ·exact absurd i (Js.2 hf)
    ·exact i
   obtain⟨g1,g2⟩:=i3 hg1;have i5:=i5 g1 g2;have hD:d3<=Fh (dv f x):=by
    rcases Gg d3 (Fh (dv f x))with h'|h'
    ·exact h'
    ·have h5:=Ha (x:=k) (a:=k) (by unfold Fh;split <;> clear h1 h2 <;> grind) (Rat.le_of_lt h');rw[<-hg]at h5;have:k*d3=d3*k:=by grind
     exact absurd (Zl hg1 h5) (Js.2 (by rw[this];exact d3b))
   have hm:=LG hx hy hR hxy (by clear h1 h2;grind:y-x<=e3) hD e3b;have s1:Fe (ev g x)=Fe (dv f x):=by rw[hg,Sv,Hw.2 hk,Kq]
   have s2:Fe (ev g y)=Fe (dv f y):=by rw[hg,Sv,Hw.2 hk,Kq]
   obtain⟨s,hs⟩:=nmE (Fe (ev g x));rw[<-hs]at g1 g2 i5 s1;rw[g1]at s2;have v1:=tc0 (f:=f) (l:=l) hs.symm g2;have v2:=tc0 (f:=f) (l:=l) g1 g2;rw[<-i5]at v2;rw[<-s1]at hm;have hw:Sm f x y->Sm w x y:=λhf=>by
    rcases Gg d4 (Fh (ev u x))with hu|hu
    ·have hu:=Pw hu (Md hx hy hR (Zl hab b2) e5b);exact Qwb h hu.1 hu.2 hf
    ·have hw:d4<=Fh (ev w x):=by
      rcases Gg d4 (Fh (ev w x))with h'|h'
      ·exact h'
      ·have q1:=Ha (x:=dv w x) (y:=ev u x) (a:=AB R w) (by rw[<-jV];exact uS hx hx w) (Qt hu);have q2:=Ha (x:=ev w x) (y:=dv u x) (b:=AB R u) (Qt h') (by rw[<-jV];exact uS hx hx u);have q3:=Ss (dv w x*ev u x) (ev w x*dv u x);rw[<-QF h]at q3;have:d4*(AB R w+AB R u)=AB R w*d4+d4*AB R u:=by grind
       rw[this]at d4b;exact absurd (Zl hD (Zl q3 (by clear h1 h2;grind:_<=AB R w*d4+d4*AB R u))) (Js.2 d4b)
     have hw:=Pw hw (Md hx hy hR (Zl hab (by clear h1 h2;grind)) e4b);exact tN hw.1 hw.2
   have lx:Po f x=if Fe (ev f x)≠0 then Fe (ev f x)else s:=by rw[s1];rfl
   have ly:Po f y=if Fe (ev f y)≠0 then Fe (ev f y)else s:=by rw[s2];rfl
   clear h1 h2 i1 i2 i3 i4;have hsv:s=1\/s=-1:=by rcases Fy (ev g x)with⟨e,_⟩|⟨e,_⟩|⟨e,_⟩ <;> omega
   unfold Qdy;simp only[vv,v1,v2];rcases hsv with rfl|rfl
   ·have hm:=Hw.1 hm;rcases Fy (ev f x)with⟨p1,p2⟩|⟨p1,p2⟩|⟨p1,p2⟩
    ·rcases Fy (ev f y)with⟨q1,q2⟩|⟨q1,q2⟩|⟨q1,q2⟩
     ·rw[p1,q1];have hsm:=tN (p:=f) (x:=x) (y:=y) (by rw[p1,q1]) (by rw[p1];decide);exact .inl ⟨rfl,hsm,hw hsm⟩
     ·rw[lx,ly,p1,q1];refine .inr ⟨by simp;omega,by decide,by decide,by decide,by decide⟩
     ·rw[lx,ly,p1,q1];refine .inr ⟨by simp;omega,by decide,by decide,by decide,by decide⟩
    ·have q1:=Hw.2 (show 0<ev f y by grind);have hsm:Sm f x y:=⟨by rw[lx,q1,p1];rfl,by rw[lx,ly,q1,p1];rfl,by rw[lx,p1];decide⟩;rw[p1,q1];exact .inl ⟨rfl,hsm,hw hsm⟩
    ·have q1:=Hw.2 (show 0<ev f y by grind);have hsm:Sm f x y:=⟨by rw[lx,q1,p1];rfl,by rw[lx,ly,q1,p1],by rw[lx,p1];decide⟩;rw[p1,q1];exact .inl ⟨rfl,hsm,hw hsm⟩
   ·have hm:=Pa.1 hm;rcases Fy (ev f x)with⟨p1,p2⟩|⟨p1,p2⟩|⟨p1,p2⟩
    ·have q1:=Pa.2 (show ev f y<0 by grind);have hsm:Sm f x y:=⟨by rw[lx,q1,p1];rfl,by rw[lx,ly,q1,p1],by rw[lx,p1];decide⟩;rw[p1,q1];exact .inl ⟨rfl,hsm,hw hsm⟩
    ·have q1:=Pa.2 (show ev f y<0 by grind);have hsm:Sm f x y:=⟨by rw[lx,q1,p1];rfl,by rw[lx,ly,q1,p1];rfl,by rw[lx,p1];decide⟩;rw[p1,q1];exact .inl ⟨rfl,hsm,hw hsm⟩
    ·rcases Fy (ev f y)with⟨q1,q2⟩|⟨q1,q2⟩|⟨q1,q2⟩
     ·rw[lx,ly,p1,q1];refine .inr ⟨by simp;omega,by decide,by decide,by decide,by decide⟩
     ·rw[lx,ly,p1,q1];refine .inr ⟨by simp;omega,by decide,by decide,by decide,by decide⟩
     ·rw[p1,q1];have hsm:=tN (p:=f) (x:=x) (y:=y) (by rw[p1,q1]) (by rw[p1];decide);exact .inl ⟨rfl,hsm,hw hsm⟩
theorem Q0b(z:Rat):∃n:Nat,z<=(n:Rat):=by
 refine⟨z.ceil.toNat,?_⟩;have h1:z<=(z.ceil:Rat):=Rat.le_ceil;have h2:(z.ceil:Rat)<=((z.ceil.toNat:Int):Rat):=Jb.2 (Int.self_le_toNat _);exact Zl h1 h2
theorem ZN{z e:Rat}(he:0<e):∃n:Nat,z<=(n:Rat)*e:=by
 obtain⟨n,hn⟩:=Q0b (z / e);exact⟨n,by have:=Ze hn (Qt he);rwa[Hd he]at this⟩
theorem FY{R x y t:Rat}(hx:Fh x<=R)(hy:Fh y<=R)(h1:x<=t)(h2:t<=y):Fh t<=R:=by
 rw[Mh]at *;constructor <;> grind
def Qav(f w:Uq)(L:Ur)(x y:Rat):Prop :=
 vv L y<=vv L x/\(vv L x=vv L y->Sm f x y/\Sm w x y)/\(vv L x=vv L y+1->Po f x≠0/\Po f y=-Po f x)
theorem iZ{f w:Uq}{L:Ur}{x y:Rat}(h:Qdy f w L x y):Qav f w L x y:=by
 rcases h with⟨h1,h2,h3⟩|⟨h1,h2,h3,_⟩
 ·exact⟨by omega,λ_=>⟨h2,h3⟩,λh=>by omega⟩
 ·exact⟨by omega,λh=>by omega,λ_=>⟨h2,h3⟩⟩
theorem tC{w:Uq}{x y z:Rat}(h1:Sm w x y)(h2:Sm w y z):Sm w x z:=⟨by rw[h2.s,h1.l],by rw[h2.l,h1.l],h1.n⟩
theorem nI{f w:Uq}{L:Ur}{x y z:Rat}(h:Qav f w L x y)(h':Qav f w L y z):Qav f w L x z:=by
 obtain⟨a1,a2,a3⟩:=h;obtain⟨b1,b2,b3⟩:=h';refine⟨by omega,λh=>?_,λh=>?_⟩
 ·obtain⟨s1,s2⟩:=a2 (by omega);obtain⟨s3,s4⟩:=b2 (by omega);exact⟨tC s1 s3,tC s2 s4⟩
 ·by_cases e:vv L x=vv L y
  ·obtain⟨s1,_⟩:=a2 e;obtain⟨s3,s4⟩:=b3 (by omega);exact⟨s1.n,by rw[s4,s1.l]⟩
  ·obtain⟨s3,s4⟩:=a3 (by omega);obtain⟨s1,_⟩:=b2 (by omega);exact⟨s3,by rw[s1.l,s4]⟩
theorem Qu2{R:Rat}(hR:0<=R){f w u:Uq}{L:Ur}(hc:HJ f L)(h:∀t,ev f t=ev w t*ev u t){x y:Rat}(hx:Fh x<=R)(hy:Fh y<=R)(hxy:x<y):Qav f w L x y:=by
 obtain⟨e,ep,hl⟩:=loc hR hc h;have key:∀n:Nat,∀x,Fh x<=R->x<y->y-x<=(n:Rat)*e->Qav f w L x y:=by
  intro n
  induction n with
  |zero =>
   intro x hx hxy h;exfalso;have:((0:Nat):Rat)*e=0:=by simp
   grind
  |
   succ n ih =>
   intro x hx hxy hn;rcases Gg (y-x) e with h1|h1
   ·exact iZ (hl x y hx hy hxy h1)
   ·have hm:Fh (x+e)<=R:=FY hx hy (by clear hl ih;grind) (by clear hl ih;grind);have hn':(((n+1:Nat):Rat))=(n:Rat)+1:=by push_cast;rfl
    refine nI (iZ (hl x (x+e) hx hm (by clear hl ih;grind) (by clear hl ih;grind))) (ih (x+e) hm (by clear hl ih;grind) ?_);rw[hn']at hn;clear hl ih;grind
 obtain⟨n,hn⟩:=ZN (z:=y-x) ep;exact key n x hx hxy hn
theorem xZ(x y:Rat):∃R:Rat,0<=R/\Fh x<=R/\Fh y<=R:=by
 refine⟨Fh x+Fh y,?_,?_,?_⟩ <;> (have:=Ht x;have:=Ht y;grind)
theorem Td(t:Rat):ev [1] t=1:=by simp only[ev];grind
theorem Ax{f:Uq}{L:Ur}(hc:HJ f L){x y:Rat}(hxy:x<y):vv L y<=vv L x:=by
 obtain⟨R,hR,hx,hy⟩:=xZ x y;exact(Qu2 hR hc (w:=f) (u:=[1]) (λt=>by rw[Td];grind) hx hy hxy).1
theorem KJ{f w u:Uq}{L:Ur}(hc:HJ f L)(h:∀t,ev f t=ev w t*ev u t){x y:Rat}(hxy:x<y)(he:vv L x=vv L y):Sm w x y:=by
 obtain⟨R,hR,hx,hy⟩:=xZ x y;exact((Qu2 hR hc h hx hy hxy).2.1 he).2
theorem kX{f:Uq}{L:Ur}(hc:HJ f L){x y:Rat}(hxy:x<y)(he:vv L x=vv L y):Sm f x y :=
 KJ hc (w:=f) (u:=[1]) (λt=>by rw[Td];grind) hxy he
theorem kZ{f:Uq}{L:Ur}(hc:HJ f L){x y:Rat}(hxy:x<y)(he:vv L x=vv L y+1):Po f x≠0/\Po f y=-Po f x:=by
 obtain⟨R,hR,hx,hy⟩:=xZ x y;exact(Qu2 hR hc (w:=f) (u:=[1]) (λt=>by rw[Td];grind) hx hy hxy).2.2 he
theorem Qlg{f:Uq}{L:Ur}(hc:HJ f L)(R:Rat)(hR:0<=R):∃e:Rat,0<e/\∀x y,Fh x<=R->Fh y<=R->x<y->y-x<=e->vv L x<=vv L y+1:=by
 obtain⟨e,ep,hl⟩:=loc hR hc (w:=f) (u:=[1]) (λt=>by rw[Td];grind);refine⟨e,ep,λx y hx hy hxy he=>?_⟩;rcases hl x y hx hy hxy he with⟨h,_⟩|⟨h,_⟩ <;> omega
theorem US{p:Uq}{x:Rat}(h:Fe (ev p x)≠0):∃e:Rat,0<e/\∀y,Fh (y-x)<=e->Fe (ev p y)=Fe (ev p x):=by
 have hd:=Cu (x:=ev p x) λh0=>h (Gp.2 h0)
 have hR:0<=Fh x+1:=by have:=Ht x;grind
 obtain⟨e,e1,e2,e3⟩:=Hh (M3 hR p) hd;refine⟨e,e1,λy hy=>(Pw Qp (Md (x:=x) (by grind) ?_ hR hy e3)).1⟩;have:=Ss (y-x) x;have e:y-x+x=y:=by grind
 rw[e]at this;grind
theorem Qsj{R M:Rat}{p:Uq}(hM:M=ddB R p)(hR:0<=R){h:Rat}(hh:0<h):∀(n:Nat) (x:Rat),Fh x<=R->Fh (x+(n:Rat)*h)<=R->(∀t,x<=t->t<=x+(n:Rat)*h->0<=dv p t)->ev p x-(n:Rat)*(h*h*M)<=ev p (x+(n:Rat)*h)
 |
  0,x,_,_,_=>by
  have e1:x+((0:Nat):Rat)*h=x:=by rw[show((0:Nat):Rat)=0 from rfl];grind
  have e2:((0:Nat):Rat)*(h*h*M)=0:=by simp
  rw[e1,e2];grind
 |
  n+1,x,hx,hy,hd=>by
  have hn':(((n+1:Nat):Rat))=(n:Rat)+1:=by push_cast;rfl
  rw[hn']at hy hd ⊢;have hn0:(0:Rat)<=(n:Rat):=Xi;have hnh:=Be hn0 (Qt hh);have e1:x+((n:Rat)+1)*h=(x+h)+(n:Rat)*h:=by grind
  rw[e1]at hy hd ⊢;have hxh:Fh (x+h)<=R:=FY hx hy (by clear hd;grind) (by clear hd;grind);have ih:=Qsj hM hR hh n (x+h) hxh hy λt h1 h2=>hd t (by clear hd;grind) h2
  have h0:=hd x Qp (by clear hd;grind);have h1:=Qr6 p (x+h) x;have h2:=Qgv hxh hx p;rw[<-hM,Mh]at h2;have h3:=Z0 h2.1 (Be (Qt hh) (Qt hh));have h4:=Be (Qt hh) h0;have e2:x+h-x=h:=by grind
  rw[e2]at h1;clear hd hx hy hxh;grind
theorem Qyv{p:Uq}{x y:Rat}(hxy:x<y)(hd:∀t,x<=t->t<=y->0<=dv p t):ev p x<=ev p y:=by
 obtain⟨R,hR,hx,hy⟩:=xZ x y;rcases Gg (ev p x) (ev p y)with h|h
 ·exact h
 ·exfalso;obtain⟨M,hM⟩:=nmE (ddB R p);have hM0:=CG hR p;rw[<-hM]at hM0;obtain⟨e,ep,_,he⟩:=Hh (b:=(y-x)*M) (d:=ev p x-ev p y) (Be (by grind) hM0) (by grind);obtain⟨n,hn⟩:=ZN (z:=y-x) ep;have hn0:0<(n:Rat):=by
   rcases Gg (n:Rat) 0 with h'|h'
   ·have:=Ze h' (Qt ep);clear hd;grind
   ·exact h'
  have hh:0<(y-x) / n:=Ae (by grind) hn0;have e1:(n:Rat)*((y-x) / n)=y-x:=by rw[W8];exact Hd hn0
  have e2:x+(n:Rat)*((y-x) / n)=y:=by rw[e1];grind
  have h1:=Qsj hM hR hh n x hx (by rw[e2];exact hy) (by rw[e2];exact hd);rw[e2]at h1;have h2:(y-x) / n<=e:=by
   rcases Gg ((y-x) / n) e with h'|h'
   ·exact h'
   ·have:=Rat.mul_lt_mul_of_pos_left h' hn0;clear hd;grind
  have h3:(n:Rat)*((y-x) / n*((y-x) / n)*M)=((y-x) / n)*((y-x)*M):=by
   have:(n:Rat)*((y-x) / n*((y-x) / n)*M)=((n:Rat)*((y-x) / n))*(((y-x) / n)*M):=by grind
   rw[this,e1];grind
  have h4:=Ze h2 (Be (x:=y-x) (y:=M) (by grind) hM0);rw[h3]at h1;clear hd;grind
theorem Qqa{p:Uq}{x y:Rat}(hxy:x<y)(hd:∀t,x<=t->t<=y->0<dv p t):ev p x<ev p y:=by
 have hx:=hd x Qp (by grind);have hR:0<=Fh x+1:=by have:=Ht x;grind
 obtain⟨e,e1,e2,e3⟩:=Hh (CG hR p) hx;obtain⟨f,f1,f2,f3⟩:=min2 (a:=e) (b:=y-x) e1 (by grind);have hq:Fh (x+f)<=Fh x+1:=by
  have:=Ss x f;have:Fh f=f:=by unfold Fh;split <;> grind
  clear hd;grind
 have h1:=LG (p:=p) (x:=x) (y:=x+f) (R:=Fh x+1) (e:=e) (d:=dv p x) (by clear hd;grind) hq hR (by grind) (by grind) (by unfold Fh;split <;> clear hd <;> grind) e3;rw[Hw.2 hx,Hw]at h1;rcases Classical.em (x+f=y)with e|e
 ·rw[<-e];clear hd;grind
 ·have:=Qyv (p:=p) (x:=x+f) (y:=y) (by clear hd;grind) λt h1 h2=>Qt (hd t (by clear hd;grind) h2)
  clear hd;grind
structure Cut(c:Rat->Int):Prop where
 val:∀q,c q=1\/c q=0\/c q=-1
 mono:∀q r,q<r->c q≠1->c r=-1
 up:∀q,c q=1->∃r,q<r/\c r=1
 dn:∀q,c q=-1->∃r,r<q/\c r=-1
 lo:∃q,c q=1
 hi:∃q,c q=-1
theorem Cut.mono'{c:Rat->Int}(h:Cut c){q r:Rat}(hqr:q<r)(hr:c r≠-1):c q=1:=by
 rcases Classical.em (c q=1)with e|e
 ·exact e
 ·exact absurd (h.mono q r hqr e) hr
theorem Cut.lt{c:Rat->Int}(h:Cut c){q r:Rat}(hq:c q=1)(hr:c r=-1):q<r:=by
 rcases Gg r q with e|e
 ·rcases Classical.em (r=q)with e'|e'
  ·rw[e']at hr;omega
  ·have:=h.mono r q (by grind) (by omega);omega
 ·exact e
theorem Cut.near{c:Rat->Int}(h:Cut c){e:Rat}(he:0<e):∃x y,c x=1/\c y=-1/\y-x<=e:=by
 obtain⟨a,ha⟩:=h.lo;obtain⟨b,hb⟩:=h.hi;have he2:0<e / 2:=Ae he (by decide);have h2:e / 2*2=e:=Hd (by decide);have key:∀(n:Nat) (a:Rat),c a=1->b-a<=(n:Rat)*(e / 2)->∃x y,c x=1/\c y=-1/\y-x<=e:=by
  intro n
  induction n with
  |
   zero =>
   intro a ha hn;have:=h.lt ha hb;rw[show((0:Nat):Rat)=0 from rfl]at hn;exfalso;grind
  |
   succ n ih =>
   intro a ha hn;have hn':(((n+1:Nat):Rat))=(n:Rat)+1:=by push_cast;rfl
   rw[hn']at hn;rcases h.val (a+e / 2)with h1|h1|h1
   ·exact ih _ h1 (by grind)
   ·exact⟨a,a+e,ha,h.mono (a+e / 2) _ (by grind) (by omega),by grind⟩
   ·exact⟨a,a+e / 2,ha,h1,by grind⟩
 obtain⟨n,hn⟩:=ZN (z:=b-a) he2;exact key n a ha hn
def Ix(p:Uq)(c:Rat->Int):Prop:=∀d:Rat,0<d->∃x y,c x=1/\c y=-1/\∀q,x<=q->q<=y->Fh (ev p q)<d
def NZ(p:Uq)(c:Rat->Int)(s:Int):Prop:=∃d:Rat,0<d/\∃x y,c x=1/\c y=-1/\∀q,x<=q->q<=y->Fe (ev p q)=s/\d<=Fh (ev p q)
def Nr(c:Rat->Int)(P:Rat->Prop):Prop:=∃x y,c x=1/\c y=-1/\∀q,x<=q->q<=y->P q
theorem bF{c:Rat->Int}{P Q:Rat->Prop}(h1:Nr c P)(h2:Nr c Q):Nr c λq=>P q/\Q q:=by
 obtain⟨x,y,a1,a2,a3⟩:=h1;obtain⟨x',y',b1,b2,b3⟩:=h2;refine⟨if x<=x' then x' else x,if y<=y' then y else y',by split <;> assumption,by split <;> assumption,λq q1 q2=>⟨a3 q ?_ ?_,b3 q ?_ ?_⟩⟩ <;> clear a3 b3 <;> grind
theorem ME{c:Rat->Int}{P Q:Rat->Prop}(h1:Nr c P)(h:∀q,P q->Q q):Nr c Q:=by
 obtain⟨x,y,a1,a2,a3⟩:=h1;exact⟨x,y,a1,a2,λq q1 q2=>h q (a3 q q1 q2)⟩
theorem gC{c:Rat->Int}(hc:Cut c){P:Rat->Prop}(h1:Nr c P):∃q,P q/\c q=1:=by
 obtain⟨x,y,a1,a2,a3⟩:=h1;exact⟨x,a3 x Qp (Qt (hc.lt a1 a2)),a1⟩
theorem Qi6{c:Rat->Int}(hc:Cut c){e:Rat}(he:0<e){P:Rat->Prop}(h1:Nr c P):∃x y,c x=1/\c y=-1/\y-x<=e/\x<y/\∀q,x<=q->q<=y->P q:=by
 obtain⟨x,y,a1,a2,a3⟩:=h1;obtain⟨x',y',b1,b2,b3⟩:=hc.near he;refine⟨if x<=x' then x' else x,if y<=y' then y else y',by split <;> assumption,by split <;> assumption,by clear a3;grind,hc.lt (by split <;> assumption) (by split <;> assumption),λq q1 q2=>a3 q ?_ ?_⟩ <;> clear a3 <;> grind
theorem Qsh{c:Rat->Int}(hc:Cut c):∃R:Rat,0<=R/\Nr c λq=>Fh q<=R:=by
 obtain⟨x,y,a1,a2,_⟩:=hc.near (e:=1) (by decide);obtain⟨R,hR,h1,h2⟩:=xZ x y;exact⟨R,hR,x,y,a1,a2,λq q1 q2=>FY h1 h2 q1 q2⟩
theorem JE{c:Rat->Int}(hc:Cut c)(p:Uq):Ix p c\/∃s,s≠0/\NZ p c s:=by
 rcases Classical.em (Ix p c)with h|h
 ·exact .inl h
 ·refine .inr ?_;obtain⟨d,hd0⟩:=Classical.not_forall.1 h;obtain⟨dp,hd⟩:=Classical.not_imp.1 hd0;have hd:∀x y,c x=1->c y=-1->∃q,x<=q/\q<=y/\d<=Fh (ev p q):=λx y hx hy=>by
   rcases Classical.em (∃q,x<=q/\q<=y/\d<=Fh (ev p q))with h'|h'
   ·exact h'
   ·refine absurd ⟨x,y,hx,hy,λq h1 h2=>?_⟩ hd;rcases Gg d (Fh (ev p q))with h3|h3
    ·exact absurd ⟨q,h1,h2,h3⟩ h'
    ·exact h3
  obtain⟨R,hR,hn⟩:=Qsh hc;have hd2:0<d / 2:=Ae dp (by decide);have h2:d / 2*2=d:=Hd (by decide);obtain⟨e,e1,_,e3⟩:=Hh (M3 hR p) hd2;obtain⟨x,y,hx,hy,hxy,_,hq⟩:=Qi6 hc e1 hn;obtain⟨r,r1,r2,r3⟩:=hd x y hx hy;have key:∀q,x<=q->q<=y->Fh (ev p q-ev p r)<d / 2:=λq q1 q2 =>
   Md (hq r r1 r2) (hq q q1 q2) hR (by rw[Mh];clear hq hd;constructor <;> grind) e3
  refine⟨Fe (ev p r),λh0=>?_,d / 2,hd2,x,y,hx,hy,λq q1 q2=>⟨(Pw (d:=d) r3 ?_).1,?_⟩⟩
  ·rw[Gp.1 h0,Rh]at r3;clear hq hd key;grind
  ·have:=key q q1 q2;clear hq hd key;grind
  ·have h3:=key q q1 q2;have h4:=Ss (ev p r-ev p q) (ev p q);rw[show ev p r-ev p q+ev p q=ev p r from by clear hq hd key;grind,oN]at h4;clear hq hd key;grind
theorem Qwp{c:Rat->Int}(hc:Cut c){p:Uq}{s:Int}(h1:Ix p c)(h2:NZ p c s):False:=by
 obtain⟨d,dp,h2⟩:=h2;obtain⟨q,⟨a,b⟩,_⟩:=gC hc (bF (h1 d dp) h2);exact absurd b.2 (Js.2 a)
theorem P8{c:Rat->Int}(hc:Cut c){f p q:Uq}(hf:∀t,ev f t=ev p t*ev q t)(h:Ix p c):Ix f c:=by
 intro d dp;obtain⟨R,hR,hn⟩:=Qsh hc;obtain⟨e,e1,_,e3⟩:=Hh (XY hR q) dp;refine ME (bF hn (h e e1)) λt ⟨h1,h2⟩=>?_
 rw[hf];have:=Ha (Qt h2) (SJ h1 q);exact Js.1 λh=>absurd (Zl h this) (Js.2 e3)
theorem NS{c:Rat->Int}{f p q:Uq}(hf:∀t,ev f t=ev p t+ev q t)(h:Ix p c)(h':Ix q c):Ix f c:=by
 intro d dp;have hd2:0<d / 2:=Ae dp (by decide);have h2:d / 2*2=d:=Hd (by decide);refine ME (bF (h _ hd2) (h' _ hd2)) λt ⟨h1,h2⟩=>?_
 rw[hf];have:=Ss (ev p t) (ev q t);grind
def RS(p:Uq)(c:Rat->Int)(s:Int):Prop:=∃y,c y=-1/\∀q,c q=-1->q<=y->Fe (ev p q)=s
def LS(p:Uq)(c:Rat->Int)(s:Int):Prop:=∃x,c x=1/\∀q,c q=1->x<=q->Fe (ev p q)=s
theorem zU{c:Rat->Int}(hc:Cut c){p:Uq}{s:Int}(h:NZ p c s):RS p c s:=by
 obtain⟨d,dp,x,y,a1,a2,a3⟩:=h;exact⟨y,a2,λq h1 h2=>(a3 q (Qt (hc.lt a1 h1)) h2).1⟩
theorem iK{c:Rat->Int}(hc:Cut c){p:Uq}{s:Int}(h:NZ p c s):LS p c s:=by
 obtain⟨d,dp,x,y,a1,a2,a3⟩:=h;exact⟨x,a1,λq h1 h2=>(a3 q h2 (Qt (hc.lt h1 a2))).1⟩
theorem GW{c:Rat->Int}{p:Uq}{s s':Int}(h:RS p c s)(h':RS p c s'):s=s':=by
 obtain⟨y,a1,a2⟩:=h;obtain⟨y',b1,b2⟩:=h';rcases Gg y y' with e|e
 ·rw[<-a2 y a1 Qp,<-b2 y a1 e]
 ·rw[<-a2 y' b1 (Qt e),<-b2 y' b1 Qp]
theorem Qsm{c:Rat->Int}(hc:Cut c){p:Uq}(hv:Ix p c){y:Rat}(hy:c y=-1)(h:∀q,c q=-1->q<=y->0<dv p q)(q:Rat)(hq:c q=-1)(hqy:q<=y):0<ev p q:=by
 rcases Gg (ev p q) 0 with h0|h0
 ·exfalso;obtain⟨r,r1,r2⟩:=hc.dn q hq;have hr:ev p r<ev p q:=Qqa r1 λt t1 t2=>h t (by
   rcases Classical.em (r=t)with e|e
   ·rw[<-e];exact r2
   ·exact hc.mono r t (by clear h;grind) (by omega)) (Zl t2 hqy)
  obtain⟨a,b,ha,hb,hab⟩:=hv (-ev p r) (by clear h;grind);obtain⟨m,hm1,hm2,hm3⟩:∃m,c m=-1/\m<=b/\m<=r:=by
   rcases Gg b r with e|e
   ·exact⟨b,hb,Qp,e⟩
   ·exact⟨r,r2,Qt e,Qp⟩
  have h1:=hab m (Qt (hc.lt ha hm1)) hm2;have h2:ev p m<=ev p r:=by
   rcases Classical.em (m=r)with e|e
   ·rw[e];exact Qp
   ·exact Qt (Qqa (by clear h hab;grind) λt t1 t2=>h t (by
     rcases Classical.em (m=t)with e|e
     ·rw[<-e];exact hm1
     ·exact hc.mono m t (by clear h hab;grind) (by omega)) (by clear h hab;grind))
  rw[vY]at h1;clear h hab;grind
 ·exact h0
theorem vF{c:Rat->Int}(hc:Cut c){p:Uq}{s:Int}(hv:Ix p c)(h:RS (Bj p) c s)(hs:s≠0):RS p c s:=by
 obtain⟨y,hy,h⟩:=h;have hsv:s=1\/s=-1:=by
  have:=h y hy Qp;rcases Fy (ev (Bj p) y)with⟨e,_⟩|⟨e,_⟩|⟨e,_⟩ <;> omega
 rcases hsv with rfl|rfl
 ·refine⟨y,hy,λq h1 h2=>Hw.2 (Qsm hc hv hy (λq h1 h2=>?_) q h1 h2)⟩;rw[<-Tp];exact Hw.1 (h q h1 h2)
 ·refine⟨y,hy,λq h1 h2=>Pa.2 ?_⟩;have:=Qsm hc (p:=D2 (-1) p) (y:=y) (λd dp=>ME (hv d dp) λq hq=>by rw[Gs,show -1*ev p q=-ev p q by grind,Ep];exact hq) hy (λq h1 h2=>by
   rw[HE,<-Tp];have:=Pa.1 (h q h1 h2);grind) q h1 h2
  rw[Gs]at this;grind
theorem Qsd{c:Rat->Int}(hc:Cut c){p:Uq}(hv:Ix p c){x:Rat}(hx:c x=1)(h:∀q,c q=1->x<=q->0<dv p q)(q:Rat)(hq:c q=1)(hxq:x<=q):ev p q<0:=by
 rcases Gg 0 (ev p q)with h0|h0
 ·exfalso;obtain⟨r,r1,r2⟩:=hc.up q hq;have hr:ev p q<ev p r:=Qqa r1 λt t1 t2=>h t (by
   rcases Classical.em (t=r)with e|e
   ·rw[e];exact r2
   ·exact hc.mono' (q:=t) (r:=r) (by clear h;grind) (by omega)) (Zl hxq t1)
  obtain⟨a,b,ha,hb,hab⟩:=hv (ev p r) (by clear h;grind);obtain⟨m,hm1,hm2,hm3⟩:∃m,c m=1/\a<=m/\r<=m:=by
   rcases Gg a r with e|e
   ·exact⟨r,r2,e,Qp⟩
   ·exact⟨a,ha,Qp,Qt e⟩
  have h1:=hab m hm2 (Qt (hc.lt hm1 hb));have h2:ev p r<=ev p m:=by
   rcases Classical.em (r=m)with e|e
   ·rw[e];exact Qp
   ·exact Qt (Qqa (by clear h hab;grind) λt t1 t2=>h t (by
     rcases Classical.em (t=m)with e|e
     ·rw[e];exact hm1
     ·exact hc.mono' (q:=t) (r:=m) (by clear h hab;grind) (by omega)) (by clear h hab;grind))
  rw[vY]at h1;clear h hab;grind
 ·exact h0
theorem Qin{c:Rat->Int}(hc:Cut c){p:Uq}{s:Int}(hv:Ix p c)(h:LS (Bj p) c s)(hs:s≠0):LS p c (-s):=by
 obtain⟨x,hx,h⟩:=h;have hsv:s=1\/s=-1:=by
  have:=h x hx Qp;rcases Fy (ev (Bj p) x)with⟨e,_⟩|⟨e,_⟩|⟨e,_⟩ <;> omega
 rcases hsv with rfl|rfl
 ·refine⟨x,hx,λq h1 h2=>Pa.2 (Qsd hc hv hx (λq h1 h2=>?_) q h1 h2)⟩;rw[<-Tp];exact Hw.1 (h q h1 h2)
 ·refine⟨x,hx,λq h1 h2=>Hw.2 ?_⟩;have:=Qsd hc (p:=D2 (-1) p) (x:=x) (λd dp=>ME (hv d dp) λq hq=>by rw[Gs,show -1*ev p q=-ev p q by grind,Ep];exact hq) hx (λq h1 h2=>by
   rw[HE,<-Tp];have:=Pa.1 (h q h1 h2);grind) q h1 h2
  rw[Gs]at this;grind
theorem Qqi{c:Rat->Int}(hc:Cut c){f g:Uq}{l:Ur}(h:SCl f g l):Ix f c->Ix g c->False:=by
 induction h with
 |
  @base f g k hk hg =>
  intro _ hv;obtain⟨q,hq,_⟩:=gC hc (hv (Fh k) (Cu hk));rw[hg]at hq;grind
 |
  @step f g h l a b q ha hb he hl ih =>
  intro hf hg;refine ih hg ?_;have h1:Ix (G5 q g) c:=P8 hc (p:=g) (q:=q) (λt=>by rw[Ff];grind) hg;have h2:Ix (D2 (-a) f) c:=P8 hc (p:=f) (q:=[-a]) (λt=>by rw[Gs];simp only[ev];grind) hf;have h3:Ix (Su (G5 q g) (D2 (-a) f)) c:=NS (λt=>Gy t _ _) h1 h2;refine P8 hc (p:=Su (G5 q g) (D2 (-a) f)) (q:=[1 / b]) (λt=>?_) h3;have:=he t;rw[Gy,Ff,Gs];simp only[ev];have hbb:1 / b*b=1:=Hd hb;have:ev q t*ev g t+-a*ev f t=b*ev h t:=by rw[show -a*ev f t=-(a*ev f t) by grind,he t];grind
  rw[this];have:b*ev h t*(1 / b+t*0)=ev h t*(1 / b*b):=by grind
  rw[this,hbb];grind
theorem zO{c:Rat->Int}(hc:Cut c){f g:Uq}{k:Rat}(h:∀t,ev g t=k*ev f t)(hv:Ix f c):Ix g c :=
 P8 hc (p:=f) (q:=[k]) (λt=>by rw[h];simp only[ev];grind) hv
theorem Qqs{c:Rat->Int}(hc:Cut c){f:Uq}{L:Ur}(h:HJ f L)(hv:Ix f c):∃s,s≠0/\NZ (Bj f) c s:=by
 rcases JE hc (Bj f)with h1|h1
 ·exfalso;rcases h with⟨k,hk,hf,_⟩|⟨g,l,k,hk,hg,h,_⟩
  ·obtain⟨q,hq,_⟩:=gC hc (hv (Fh k) (Cu hk));rw[hf]at hq;grind
  ·exact Qqi hc h hv (zO hc (λt=>by rw[hg,Tp]) h1)
 ·exact h1
theorem eO{c:Rat->Int}(hc:Cut c){f w u:Uq}{L:Ur}(h:HJ f L)(hf:∀t,ev f t=ev w t*ev u t)(hv:Ix w c):∃s,s≠0/\NZ (Bj w) c s:=by
 rcases JE hc (Bj w)with h1|h1
 ·exfalso;obtain⟨s,_,hs⟩:=Qqs hc h (P8 hc hf hv);refine Qwp hc ?_ hs;have a1:Ix (G5 (Bj w) u) c:=P8 hc (λt=>Ff t _ _) h1;have a2:Ix (G5 w (Bj u)) c:=P8 hc (λt=>Ff t _ _) hv;refine NS (λt=>?_) a1 a2;rw[Tp,QF hf,Ff,Ff,Tp,Tp]
 ·exact h1
theorem Qgs{c:Rat->Int}(hc:Cut c){q:Rat}(h:c q=0){x y:Rat}(hx:c x=1)(hy:c y=-1):x<=q/\q<=y:=by
 constructor
 ·rcases Gg x q with e|e
  ·exact e
  ·have:=hc.mono q x e (by omega);omega
 ·rcases Gg q y with e|e
  ·exact e
  ·have:=hc.mono y q e (by omega);omega
theorem TC{c:Rat->Int}(hc:Cut c){p:Uq}{q:Rat}(h:c q=0)(hv:Ix p c):ev p q=0:=by
 rcases Classical.em (ev p q=0)with e|e
 ·exact e
 ·obtain⟨x,y,hx,hy,hq⟩:=hv _ (Cu e);obtain⟨h1,h2⟩:=Qgs hc h hx hy;have:=hq q h1 h2;grind
theorem gA{c:Rat->Int}(hc:Cut c){p:Uq}{q:Rat}{s:Int}(h:c q=0)(hv:NZ p c s):Fe (ev p q)=s:=by
 obtain⟨d,dp,x,y,hx,hy,hq⟩:=hv;obtain⟨h1,h2⟩:=Qgs hc h hx hy;exact(hq q h1 h2).1
theorem mP{c:Rat->Int}(hc:Cut c){y z:Rat}(hy:c y=-1)(hz:c z=-1):∃q,c q=-1/\q<y/\q<z:=by
 obtain⟨a,a1,a2⟩:=hc.dn y hy;obtain⟨b,b1,b2⟩:=hc.dn z hz;rcases Gg a b with e|e
 ·exact⟨a,a2,a1,by grind⟩
 ·exact⟨b,b2,by grind,b1⟩
theorem CW{c:Rat->Int}(hc:Cut c){y z:Rat}(hy:c y=1)(hz:c z=1):∃q,c q=1/\y<q/\z<q:=by
 obtain⟨a,a1,a2⟩:=hc.up y hy;obtain⟨b,b1,b2⟩:=hc.up z hz;rcases Gg a b with e|e
 ·exact⟨b,b2,by grind,b1⟩
 ·exact⟨a,a2,a1,by grind⟩
theorem Qi5{f w u:Uq}{L:Ur}(h:HJ f L)(hf:∀t,ev f t=ev w t*ev u t){x y:Rat}(hv:vv L x=vv L y){c:Rat->Int}(hc:Cut c)(hx:c x=1)(hy:c y≠1):¬Ix w c:=λhw=>by
 have hxy:x<y:=by
  rcases Gg y x with e|e
  ·rcases Classical.em (y=x)with e'|e'
   ·rw[e']at hy;exact absurd hx hy
   ·have:=hc.mono y x (by grind) hy;omega
  ·exact e
 have hwv:=KJ h hf hxy hv;rcases hc.val y with e|e|e
 ·exact hy e
 ·have:=TC hc e hw;have:=hwv.s;rw[Gp.2 (by assumption)]at this;exact hwv.n this.symm
 ·obtain⟨s,hs,hd⟩:=eO hc h hf hw;obtain⟨a,ha,hal⟩:=Qin hc hw (iK hc hd) hs;obtain⟨b,hb,hbr⟩:=vF hc hw (zU hc hd) hs;obtain⟨q,q1,q2,q3⟩:=CW hc hx ha;obtain⟨r,r1,r2,r3⟩:=mP hc hb e;have e1:=hal q q1 (Qt q3);have e2:=hbr r r1 (Qt r2);have hqr:=hc.lt q1 r1;have v1:vv L q<=vv L x:=Ax h q2;have v2:vv L y<=vv L r:=Ax h r3;have v3:vv L r<=vv L q:=Ax h hqr;have s1:=(KJ h hf q2 (by omega)).s;have s2:=(KJ h hf (x:=x) (y:=r) (by grind) (by omega)).s;omega
theorem vL{f:Uq}{L:Ur}(h:HJ f L){x y:Rat}(hxy:x<y)(hv:vv L x≠vv L y){d:Rat}(dp:0<d):∃q,x<=q/\q<=y/\Fh (ev f q)<d:=by
 obtain⟨R,hR,hx,hy⟩:=xZ x y;obtain⟨e1,e1p,hl⟩:=loc hR h (w:=f) (u:=[1]) (λt=>by rw[Td];grind);obtain⟨e2,e2p,_,e2b⟩:=Hh (M3 hR f) dp;obtain⟨e,ep,h1,h2⟩:=min2 e1p e2p;have key:∀n:Nat,∀x,Fh x<=R->x<y->vv L x≠vv L y->y-x<=(n:Rat)*e->∃q,x<=q/\q<=y/\Fh (ev f q)<d:=by
  intro n
  induction n with
  |zero=>intro x hx hxy _ hn;rw[show((0:Nat):Rat)=0 from rfl]at hn;exfalso;clear hl;grind
  |
   succ n ih =>
   intro x hx hxy hv hn;have hstep:∀z,Fh z<=R->x<z->z-x<=e->vv L x≠vv L z->Fh (ev f z)<d:=λz hz hxz hze hv=>by
    rcases hl x z hx hz hxz (Zl hze h1)with⟨p,_⟩|⟨_,p1,p2,p3,p4⟩
    ·exact absurd p hv
    ·have hd:=Md (p:=f) hx hz hR (e:=e2) (d:=d) (by rw[Mh];clear hl ih;constructor <;> grind) e2b;rw[<-p3]at p1 p4;clear hl ih p2 p3;rw[vY]at *;rcases Fy (ev f x)with⟨a,a'⟩|⟨a,a'⟩|⟨a,a'⟩ <;> rcases Fy (ev f z)with⟨b,b'⟩|⟨b,b'⟩|⟨b,b'⟩ <;> rw[a,b]at p4 <;> first|(exfalso;revert p4;decide)|skip
     all_goals first|(constructor <;> grind)|(exfalso;omega)
   rcases Gg (y-x) e with h3|h3
   ·exact⟨y,Qt hxy,Qp,hstep y hy hxy h3 hv⟩
   ·have hm:Fh (x+e)<=R:=FY hx hy (by clear hl ih hstep;grind) (by clear hl ih hstep;grind);rcases Classical.em (vv L x=vv L (x+e))with e0|e0
    ·have hn':(((n+1:Nat):Rat))=(n:Rat)+1:=by push_cast;rfl
     rw[hn']at hn;obtain⟨q,q1,q2,q3⟩:=ih (x+e) hm (by clear hl ih hstep;grind) (by omega) (by clear hl ih hstep;grind);exact⟨q,by clear hl ih hstep;grind,q2,q3⟩
    ·exact⟨x+e,by clear hl ih hstep;grind,by clear hl ih hstep;grind,hstep (x+e) hm (by clear hl ih hstep;grind) (by clear hl ih hstep;grind) e0⟩
 obtain⟨n,hn⟩:=ZN (z:=y-x) ep;exact key n x hx hxy hv hn
theorem Qye{p:Uq}{x:Rat}(h:Po p x≠0):∃e:Rat,0<e/\∀y,x<y->y-x<=e->Fe (ev p y)=Po p x:=by
 by_cases h0:Fe (ev p x)=0
 ·have hx:=Gp.1 h0;rw[bQ h0]at h ⊢;have hR:0<=Fh x+1:=by have:=Ht x;grind
  obtain⟨e,e1,e2,e3⟩:=Hh (CG hR p) (Cu (x:=dv p x) λh'=>h (Gp.2 h'));refine⟨e,e1,λy h1 h2=>?_⟩;have hy:Fh y<=Fh x+1:=by
   have:=Ss x (y-x);have e:x+(y-x)=y:=by grind
   have e':Fh (y-x)=y-x:=by unfold Fh;split <;> grind
   rw[e,e']at this;grind
  have:=LG (p:=p) (by grind) hy hR h1 h2 Qp e3;rw[hx]at this;rw[<-this];congr 1;grind
 ·rw[Ak h0]at h ⊢;obtain⟨e,e1,e2⟩:=US h;exact⟨e,e1,λy h1 h2=>e2 y (by rw[Mh];constructor <;> grind)⟩
def cq(P:Uq)(lo hi q:Rat):Int:=if q<=lo then 1 else if hi<q then -1 else if Fe (ev P q)=0 then 0 else if Fe (ev P q)=Po P lo then 1 else -1
structure Vt(P:List Rat)(L:List (List Rat))(lo hi:Rat):Prop where
 s:HJ P L
 l:lo<hi
 v:vv L lo=vv L hi+1
variable{P:Uq}{L:Ur}{lo hi:Rat}
theorem Ad{q:Rat}(h:q<=lo):cq P lo hi q=1:=by unfold cq;rw[if_pos h]
theorem UP{q:Rat}(h:lo<hi)(h':hi<q):cq P lo hi q=-1:=by unfold cq;rw[if_neg (by grind),if_pos h']
theorem Im{q:Rat}(h1:lo<q)(h2:q<=hi):cq P lo hi q=if Fe (ev P q)=0 then 0 else if Fe (ev P q)=Po P lo then 1 else -1:=by
 unfold cq;rw[if_neg (by grind),if_neg (by grind)]
theorem Vt.two(V:Vt P L lo hi){q:Rat}(h1:lo<q)(h2:q<=hi):vv L q=vv L lo/\cq P lo hi q=1/\Fe (ev P q)=Po P lo\/vv L q=vv L hi/\cq P lo hi q≠1/\Po P q=-Po P lo/\Po P lo≠0:=by
 have a:=Ax V.s h1;have b:vv L hi<=vv L q:=by
  rcases Classical.em (q=hi)with e|e
  ·rw[e];exact Ql _
  ·exact Ax V.s (by grind)
 have hv:=V.v;rcases(show vv L q=vv L lo\/vv L q=vv L hi by omega)with e|e
 ·have hs:=kX V.s h1 e.symm;refine .inl ⟨e,?_,hs.s⟩;rw[Im h1 h2,hs.s,if_neg hs.n,if_pos rfl]
 ·obtain⟨o1,o2⟩:=kZ V.s h1 (by omega);refine .inr ⟨e,?_,o2,o1⟩;rw[Im h1 h2]
  split
  ·decide
  ·rename_i h0;rw[Ak h0]at o2;rw[if_neg (by omega)];decide
theorem Vt.lowlo(V:Vt P L lo hi):Po P lo≠0:=(kZ V.s V.l V.v).1
theorem Vt.eq_lo(V:Vt P L lo hi){q:Rat}(h1:lo<q)(h2:q<=hi)(h:cq P lo hi q=1):vv L q=vv L lo:=by
 rcases V.two h1 h2 with⟨e,_⟩|⟨_,e,_⟩
 ·exact e
 ·exact absurd h e
theorem Vt.eq_hi(V:Vt P L lo hi){q:Rat}(h1:lo<q)(h2:q<=hi)(h:cq P lo hi q≠1):vv L q=vv L hi:=by
 rcases V.two h1 h2 with⟨_,e,_⟩|⟨e,_⟩
 ·exact absurd e h
 ·exact e
theorem Vt.hi1(V:Vt P L lo hi):cq P lo hi hi≠1:=λh=>by have:=V.eq_lo V.l Qp h;have:=V.v;omega
theorem Vt.cut(V:Vt P L lo hi):Cut (cq P lo hi) where
 val q:=by unfold cq;split <;> (try split) <;> (try split) <;> (try split) <;> simp
 mono q r h h1:=by
  have hq:lo<q:=by
   rcases Gg q lo with e|e
   ·exact absurd (Ad e) h1
   ·exact e
  rcases Gg r hi with e|e
  ·have e1:=V.eq_hi hq (by grind) h1;rcases V.two (q:=r) (by grind) e with⟨e2,_⟩|⟨e2,_,e3,e4⟩
   ·have:=Ax V.s h;have:=V.v;omega
   ·have hs:=kX V.s h (by omega);rcases V.two hq (by grind)with⟨e5,_⟩|⟨_,_,e5,_⟩
    ·have:=V.v;omega
    ·rw[Im (by grind) e,hs.s,if_neg hs.n,e5,if_neg (by omega)]
  ·exact UP V.l e
 up q h:=by
  rcases Gg q lo with e|e
  ·obtain⟨d,dp,hd⟩:=Qye V.lowlo;obtain⟨f,fp,f1,f2⟩:=min2 (a:=d) (b:=hi-lo) dp (by have:=V.l;grind);have h1:lo<lo+f:=by clear hd;grind
   have h2:lo+f<=hi:=by clear hd;grind
   have:=hd (lo+f) h1 (by clear hd;grind);exact⟨lo+f,by clear hd;grind,by rw[Im h1 h2,this,if_neg V.lowlo,if_pos rfl]⟩
  ·have hh:q<=hi:=by
    rcases Gg q hi with e'|e'
    ·exact e'
    ·have:=UP (P:=P) V.l e';omega
   rcases V.two e hh with⟨e1,_,e2⟩|⟨_,e1,_⟩
   ·have hn:q≠hi:=λh=>by rw[h]at e1;have:=V.v;omega
    obtain⟨d,dp,hd⟩:=US (p:=P) (x:=q) (by rw[e2];exact V.lowlo);obtain⟨f,fp,f1,f2⟩:=min2 (a:=d) (b:=hi-q) dp (by clear hd;grind);have:=hd (q+f) (by rw[Mh];clear hd;constructor <;> grind);exact⟨q+f,by clear hd;grind,by rw[Im (by clear hd;grind) (by clear hd;grind),this,e2,if_neg V.lowlo,if_pos rfl]⟩
   ·exact absurd h e1
 dn q h:=by
  have hq:lo<q:=by
   rcases Gg q lo with e|e
   ·have:=Ad (P:=P) (hi:=hi) e;omega
   ·exact e
  rcases Gg q hi with e|e
  ·rw[Im hq e]at h
   split at h
   ·cases h
   rename_i h0
   split at h
   ·cases h
   rename_i h1;obtain⟨d,dp,hd⟩:=US h0;obtain⟨f,fp,f1,f2⟩:=min2 (a:=d) (b:=(q-lo) / 2) dp (Ae (by clear hd;grind) (by decide));have h2:(q-lo) / 2*2=q-lo:=Hd (by decide);have:=hd (q-f) (by rw[Mh];clear hd;constructor <;> grind);exact⟨q-f,by clear hd;grind,by rw[Im (by clear hd;grind) (by clear hd;grind),this,if_neg h0,if_neg h1]⟩
  ·have h2:(q-hi) / 2*2=q-hi:=Hd (by decide);exact⟨q-(q-hi) / 2,by grind,UP V.l (by grind)⟩
 lo:=⟨lo,Ad Qp⟩
 hi:=⟨hi+1,UP V.l (by grind)⟩
theorem Vt.van(V:Vt P L lo hi):Ix P (cq P lo hi):=by
 have hc:=V.cut;rcases JE hc P with h|⟨s,hs,h⟩
 ·exact h
 ·exfalso;have e1:s=Po P lo:=by
   obtain⟨x,hx,hx1⟩:=iK hc h;obtain⟨q,q1,q2,q3⟩:=CW hc hx (Ad (P:=P) (hi:=hi) (Qp (a:=lo)));have hq:q<=hi:=by
    rcases Gg q hi with e|e
    ·exact e
    ·have:=UP (P:=P) V.l e;omega
   rcases V.two q3 hq with⟨_,_,e⟩|⟨_,e,_⟩
   ·rw[<-hx1 q q1 (Qt q2),e]
   ·exact absurd q1 e
  rcases hc.val hi with e|e|e
  ·exact V.hi1 e
  ·have h0:=gA hc e h;rw[Im V.l Qp]at e
   split at e
   ·omega
   ·split at e <;> omega
  ·obtain⟨y,hy,hy1⟩:=zU hc h;obtain⟨q,q1,q2,q3⟩:=mP hc hy e;have hq:lo<q:=hc.lt (Ad (P:=P) (hi:=hi) (Qp (a:=lo))) q1;have:=hy1 q q1 (Qt q2);rw[Im hq (Qt q3),this,if_neg hs,if_pos e1]at q1;cases q1
def nG(w:Uq)(lo hi:Rat):Prop:=Fe (ev w hi)=0\/Fe (ev w hi)≠Po w lo
theorem Vt.has(V:Vt P L lo hi){w u:Uq}(hf:∀t,ev P t=ev w t*ev u t){a b:Rat}(h1:lo<=a)(h2:a<b)(h3:b<=hi):nG w a b↔Ix w (cq P lo hi)/\cq P lo hi a=1/\cq P lo hi b≠1:=by
 have hc:=V.cut;have smno:vv L a=vv L b->¬nG w a b:=λh hh=>by
  have:=KJ V.s hf h2 h;rcases hh with e|e
  ·rw[this.s]at e;exact this.n e
  ·exact e this.s
 by_cases ha:cq P lo hi a=1
 ·by_cases hb:cq P lo hi b=1
  ·have e1:=V.eq_lo (by grind) h3 hb;have e2:vv L a=vv L lo:=by
    rcases Classical.em (lo=a)with e|e
    ·rw[e]
    ·exact V.eq_lo (by grind) (by grind) ha
   exact⟨λh=>absurd h (smno (by omega)),λh=>absurd hb h.2.2⟩
  ·have e1:=V.eq_hi (by grind) h3 hb;have e2:vv L a=vv L lo:=by
    rcases Classical.em (lo=a)with e|e
    ·rw[e]
    ·exact V.eq_lo (by grind) (by grind) ha
   have left:∀s,LS w (cq P lo hi) s->s=Po w a:=λs hs=>by
    obtain⟨x,hx,hx1⟩:=hs;obtain⟨q,q1,q2,q3⟩:=CW hc hx ha;have hqb:q<b:=by
     rcases Gg b q with e|e
     ·rcases Classical.em (b=q)with e'|e'
      ·rw[e']at hb;exact absurd q1 hb
      ·have:=hc.mono b q (by clear hx1 smno;grind) hb;omega
     ·exact e
    have:=V.eq_lo (q:=q) (by clear hx1 smno;grind) (by clear hx1 smno;grind) q1;rw[<-(KJ V.s hf q3 (by omega)).s,hx1 q q1 (Qt q2)]
   have right:∀s,RS w (cq P lo hi) s->cq P lo hi b=-1->s=Fe (ev w b):=λs hs hb=>by
    obtain⟨y,hy,hy1⟩:=hs;obtain⟨q,q1,q2,q3⟩:=mP hc hy hb;have hqa:=hc.lt ha q1;have:=V.eq_hi (q:=q) (by clear hy1 smno;grind) (by clear hy1 smno;grind) (by omega);have hs:=KJ V.s hf q3 (by omega);have hl:=hy1 q q1 (Qt q2);have h0:Fe (ev w q)≠0:=by
     have hs2:=KJ V.s hf (x:=q) (y:=b) q3 (by omega);intro h0;obtain⟨r,r1,r2⟩:=hc.dn q q1;have har:=hc.lt ha r2;have:=V.eq_hi (q:=r) (by clear hy1 smno;grind) (by clear hy1 smno;grind) (by omega);have hs3:=KJ V.s hf (x:=r) (y:=q) r1 (by omega);have hs4:=hs3.s;rw[h0]at hs4;exact hs3.n hs4.symm
    rw[hs.s,Ak h0,hl]
   refine⟨λh=>⟨?_,ha,hb⟩,λ⟨hw,_,_⟩=>?_⟩
   ·rcases JE hc w with e|⟨s,AH,hs⟩
    ·exact e
    ·exfalso;have l1:=left s (iK hc hs);have r1:Fe (ev w b)=s:=by
      rcases hc.val b with e|e|e
      ·exact absurd e hb
      ·exact gA hc e hs
      ·exact(right s (zU hc hs) e).symm
     rcases h with h|h
     ·exact AH (by rw[<-r1];exact h)
     ·exact h (by rw[r1,l1])
   ·rcases hc.val b with e|e|e
    ·exact absurd e hb
    ·exact .inl (Gp.2 (TC hc e hw))
    ·obtain⟨s,AH,hs⟩:=eO hc V.s hf hw;have l1:=left _ (Qin hc hw (iK hc hs) AH);have r1:=right _ (vF hc hw (zU hc hs) AH) e;exact .inr (by rw[<-l1,<-r1];omega)
 ·have hla:lo<a:=by
   rcases Classical.em (lo=a)with e|e
   ·rw[<-e]at ha;exact absurd (Ad Qp) ha
   ·grind
  have hb:cq P lo hi b≠1:=by have:=hc.mono a b h2 ha;omega
  have e1:=V.eq_hi hla (by grind) ha;have e2:=V.eq_hi (q:=b) (by grind) h3 hb;exact⟨λh=>absurd h (smno (by omega)),λh=>absurd h.2.1 ha⟩
theorem uW{c c':Rat->Int}(hc:Cut c)(hc':Cut c'){q:Rat}(h:c q≠c' q):∃r,(c r=-1/\c' r=1)\/(c r=1/\c' r=-1):=by
 rcases hc.val q with e|e|e <;> rcases hc'.val q with e'|e'|e'
 ·omega
 ·obtain⟨r,r1,r2⟩:=hc.up q e;exact⟨r,.inr ⟨r2,hc'.mono q r r1 (by omega)⟩⟩
 ·exact⟨q,.inr ⟨e,e'⟩⟩
 ·obtain⟨r,r1,r2⟩:=hc'.up q e';exact⟨r,.inl ⟨hc.mono q r r1 (by omega),r2⟩⟩
 ·omega
 ·obtain⟨r,r1,r2⟩:=hc'.dn q e';exact⟨r,.inr ⟨hc.mono' r1 (by omega),r2⟩⟩
 ·exact⟨q,.inl ⟨e,e'⟩⟩
 ·obtain⟨r,r1,r2⟩:=hc.dn q e;exact⟨r,.inl ⟨r2,hc'.mono' r1 (by omega)⟩⟩
 ·omega
theorem Vt.uniq(V:Vt P L lo hi){c:Rat->Int}(hc:Cut c)(h1:c lo=1)(h2:c hi≠1)(hv:Ix P c)(q:Rat):c q=cq P lo hi q:=by
 rcases Classical.em (c q=cq P lo hi q)with e|e
 ·exact e
 ·exfalso;obtain⟨r,⟨r1,r2⟩|⟨r1,r2⟩⟩:=uW hc V.cut e
  ·have hl:=hc.lt h1 r1;have hh:r<=hi:=by
    rcases Gg r hi with e|e
    ·exact e
    ·have:=UP (P:=P) V.l e;omega
   have:=V.eq_lo hl hh r2;exact Qi5 V.s (w:=P) (u:=[1]) (λt=>by rw[Td];grind) (x:=lo) (y:=r) (by omega) hc h1 (by omega) hv
  ·have hl:lo<r:=by
    rcases Gg r lo with e|e
    ·have:=Ad (P:=P) (hi:=hi) e;omega
    ·exact e
   have hh:r<=hi:=by
    rcases Gg r hi with e|e
    ·exact e
    ·have:=hc.mono hi r e h2;omega
   have:=V.eq_hi hl hh (by omega);exact Qi5 V.s (w:=P) (u:=[1]) (λt=>by rw[Td];grind) (x:=r) (y:=hi) (by omega) hc r1 h2 hv
theorem Vt.same(V:Vt P L lo hi){P':Uq}{L':Ur}{lo' hi':Rat}(V':Vt P' L' lo' hi'){g u u' U W:Uq}{k:Rat}(hk:k≠0)(h1:∀t,ev P t=ev g t*ev u t)(h2:∀t,ev P' t=ev g t*ev u' t)(h3:∀t,k*ev g t=ev U t*ev P t+ev W t*ev P' t){a b:Rat}(ha1:lo<=a)(ha2:lo'<=a)(ha:a=lo\/a=lo')(hb1:b<=hi)(hb2:b<=hi')(hb:b=hi\/b=hi'):(a<b/\nG g a b)↔∀q,cq P lo hi q=cq P' lo' hi' q:=by
 have hc:=V.cut;have hc':=V'.cut;constructor
 ·rintro⟨hab,hg⟩
  obtain⟨g1,g2,g3⟩:=(V.has h1 ha1 hab hb1).1 hg;obtain⟨g4,g5,g6⟩:=(V'.has h2 ha2 hab hb2).1 hg;intro q;refine(V.uniq hc' (by
   rcases Classical.em (lo=a)with e|e
   ·rw[e];exact g5
   ·exact hc'.mono' (q:=lo) (r:=a) (by grind) (by omega)) (λh=>?_) (P8 hc' h1 g4) q).symm
  rcases Classical.em (b=hi)with e|e
  ·rw[<-e]at h;exact g6 h
  ·have:=hc'.mono b hi (by grind) g6;omega
 ·intro h;have hcc:cq P' lo' hi'=cq P lo hi:=funext λq=>(h q).symm
  have e1:cq P lo hi a=1:=by
   rcases ha with rfl|rfl
   ·exact Ad Qp
   ·rw[h];exact Ad Qp
  have e2:cq P lo hi b≠1:=by
   rcases hb with rfl|rfl
   ·exact V.hi1
   ·rw[h];exact V'.hi1
  have hab:a<b:=by
   rcases Gg b a with e|e
   ·rcases Classical.em (b=a)with e'|e'
    ·rw[e']at e2;exact absurd e1 e2
    ·have:=hc.mono b a (by grind) e2;omega
   ·exact e
  have v1:=V.van;have v2:=V'.van;rw[hcc]at v2;have hg:Ix g (cq P lo hi):=by
   have a1:Ix (G5 U P) (cq P lo hi):=P8 hc (p:=P) (q:=U) (λt=>by rw[Ff];grind) v1;have a2:Ix (G5 W P') (cq P lo hi):=P8 hc (p:=P') (q:=W) (λt=>by rw[Ff];grind) v2;have a3:=NS (λt=>Gy t _ _) a1 a2;refine zO hc (k:=1 / k) (λt=>?_) a3;rw[Gy,Ff,Ff,<-h3];have:1 / k*(k*ev g t)=1 / k*k*ev g t:=by grind
   rw[this,show 1 / k*k=1 from Zj hk];grind
  exact⟨hab,(V.has h1 ha1 hab hb1).2 ⟨hg,e1,e2⟩⟩
end Orq
namespace Orq
theorem Qjm:∀(M:Nat) (f:Nat->Nat),(∀i,i<=M->f i<M)->∃i j,i<j/\j<=M/\f i=f j
 | 0,f,h=>absurd (h 0 (Ql _)) (Nat.not_lt_zero _)
 |
  M+1,f,h=>by
  rcases Classical.em (∃i,i<=M/\f i=f (M+1))with⟨i,h1,h2⟩|hn
  ·exact⟨i,M+1,by omega,Ql _,h2⟩
  ·have hne:∀i,i<=M->f i≠f (M+1):=λi hi e=>hn ⟨i,hi,e⟩
   obtain⟨i,j,h1,h2,h3⟩:=Qjm M (λi=>if f i=M then f (M+1)else f i) λi hi=>by
    have a1:=h i (by omega);have a2:=h (M+1) (Ql _);have a3:=hne i hi;show(if f i=M then f (M+1)else f i)<M
    split <;> omega
   refine⟨i,j,h1,by omega,?_⟩;have a1:=hne i (by omega);have a2:=hne j h2
   split at h3 <;> split at h3 <;> omega
def dg(B k i:Nat):Nat:=k / B^i % B
theorem eL(B k i:Nat):dg B k (i+1)=dg B (k / B) i:=by unfold dg;rw[Nat.pow_succ,Nat.mul_comm,Nat.div_div_eq_div_mul]
theorem Qgw{B:Nat}:∀(N:Nat) {k k':Nat},k<B^N->k'<B^N->(∀i,i<N->dg B k i=dg B k' i)->k=k'
 | 0,k,k',h,h',_=>by rw[Vd]at h h';omega
 |
  N+1,k,k',h,h',he=>by
  have h0:=he 0 (by omega);unfold dg at h0;rw[Vd,Nat.div_one,Nat.div_one]at h0;have hB:0<B:=by
   rcases Q3 B with e|e
   ·rw[e,Zr,Yz]at h;omega
   ·exact e
  have h1:=Qgw N (k:=k / B) (k':=k' / B) (X8 (by rw[Zq,<-Zr];exact h)) (X8 (by rw[Zq,<-Zr];exact h')) λi hi=>by
   rw[<-eL,<-eL];exact he (i+1) (by omega)
  rw[<-Wg k B,<-Wg k' B,h0,h1]
def cd(B:Nat):Nat->(Nat->Nat)->Nat
 | 0,_=>0
 |E+1,x=>x 0+B*cd B E λe=>x (e+1)
theorem Qry{B:Nat}:∀(E:Nat) {x:Nat->Nat},(∀e,e<E->x e<B)->cd B E x<B^E
 | 0,_,_=>by simp[cd]
 |
  E+1,x,h=>by
  have h1:=h 0 (by omega);have h2:=Qry E (x:=λe=>x (e+1)) λe he=>h (e+1) (by omega)
  simp only[cd];have h3:B*cd B E (λe=>x (e+1))+B<=B*B^E:=by
   rw[<-W5];exact Zu _ h2
  rw[Zr,Zq (B^E)];omega
theorem Qgi{B:Nat}:∀(E:Nat) {x y:Nat->Nat},(∀e,e<E->x e<B)->(∀e,e<E->y e<B)->cd B E x=cd B E y->∀e,e<E->x e=y e
 | 0,_,_,_,_,_,e,he=>by omega
 |
  E+1,x,y,hx,hy,h,e,he=>by
  have h1:=hx 0 (by omega);have h2:=hy 0 (by omega);simp only[cd]at h;have e0:x 0=y 0:=by
   have:=congrArg (· % B) h;simp only[Ka]at this;rwa[Xt h1,Xt h2]at this
  have e1:cd B E (λe=>x (e+1))=cd B E (λe=>y (e+1)):=Nat.eq_of_mul_eq_mul_left (by omega:0<B) (by omega);cases e with
  |zero=>exact e0
  |succ e=>exact Qgi E (λe he=>hx (e+1) (by omega)) (λe he=>hy (e+1) (by omega)) e1 e (by omega)
def sm:Nat->(Nat->Int)->Int
 | 0,_=>0
 |n+1,f=>sm n f+f n
theorem Qkx(f g:Nat->Int):∀n,sm n (λi=>f i-g i)=sm n f-sm n g
 | 0=>rfl
 |n+1=>by simp only[sm,Qkx f g n];omega
theorem Lm{f g:Nat->Int}:∀n,(∀i,i<n->f i=g i)->sm n f=sm n g
 | 0,_=>rfl
 |n+1,h=>by simp only[sm,Lm n (λi hi=>h i (by omega)),h n (by omega)]
theorem Qkw{f:Nat->Int}{b:Nat}:∀n,(∀i,i<n->(f i).natAbs<=b)->(sm n f).natAbs<=n*b
 | 0,_=>by simp[sm]
 |
  n+1,h=>by
  have h1:=Qkw n λi hi=>h i (by omega)
  have h2:=h n (by omega);simp only[sm];rw[Xa];omega
theorem VX{f:Nat->Int}:∀n,(∀i,i<n->f i=0)->sm n f=0
 | 0,_=>rfl
 |n+1,h=>by simp only[sm,VX n (λi hi=>h i (by omega)),h n (by omega)];rfl
theorem cI(f:Nat->Int)(m:Nat):∀n,sm (m+n) f=sm m f+sm n λi=>f (m+i)
 | 0=>by simp[sm]
 |n+1=>by rw[<-Yp];simp only[sm,cI f m n];omega
theorem cO(f:Nat->Int)(J:Nat):∀b,sm (b*J) f=sm b λi=>sm J λj=>f (i*J+j)
 | 0=>by simp[sm]
 |b+1=>by rw[Xa,cI,cO f J b];rfl
theorem EN{f:Nat->Int}{k:Nat}:∀n,k<n->(∀i,i<n->i≠k->f i=0)->sm n f=f k
 | 0,h,_=>by omega
 |
  n+1,h,h1=>by
  simp only[sm];rcases Vl (Nat.le_of_lt_succ h)with e|e
  ·rw[EN n e λi hi=>h1 i (by omega),h1 n (by omega) (by omega)];omega
  ·subst e;rw[VX k λi hi=>h1 i (by omega) (by omega)];omega
theorem Qv9{M:Nat->Nat->Int}{h N E H:Nat}(hM:∀e i,(M e i).natAbs<=h)(hc:(2*(N*(h*H))+1)^E<(H+1)^N) :
 ∃v:Nat->Int,(∀i,(v i).natAbs<=H)/\(∃i,i<N/\v i≠0)/\∀e,e<E->sm N (λi=>M e i*v i)=0:=by
 obtain⟨T,hT⟩:=nmE (N*(h*H));rw[<-hT]at hc;have hv:∀k i,dg (H+1) k i<=H:=λk i=>Nat.le_of_lt_succ (Z5 _ (by omega))
 have hs:∀k e,(sm N λi=>M e i*(dg (H+1) k i:Int)).natAbs<=T:=λk e=>by
  rw[hT];refine Qkw N λi _=>?_
  rw[J9,Xh];exact Zc (hM e i) (hv k i)
 have him:∀k e,((sm N λi=>M e i*(dg (H+1) k i:Int))+T).toNat<2*T+1:=λk e=>by have:=hs k e;omega
 obtain⟨i,j,h1,h2,h3⟩:=Qjm ((2*T+1)^E) (λk=>cd (2*T+1) E λe=>((sm N λi=>M e i*(dg (H+1) k i:Int))+T).toNat) λk _=>Qry E λe _=>him k e
 have h4:=Qgi E (λe _=>him i e) (λe _=>him j e) h3;refine⟨λn=>(dg (H+1) i n:Int)-dg (H+1) j n,λn=>?_,?_,λe he=>?_⟩
 ·have a1:=hv i n;have a2:=hv j n;show((dg (H+1) i n:Int)-dg (H+1) j n).natAbs<=H;omega
 ·rcases Classical.em (∃n,n<N/\(dg (H+1) i n:Int)-dg (H+1) j n≠0)with e|e
  ·exact e
  ·exfalso;have:i=j:=Qgw (B:=H+1) N (by omega) (by omega) λn hn=>by
    rcases Classical.em (dg (H+1) i n=dg (H+1) j n)with e'|e'
    ·exact e'
    ·exact absurd ⟨n,hn,by omega⟩ e
   omega
 ·have a1:=h4 e he;have a2:=hs i e;have a3:=hs j e;have:(sm N λn=>M e n*(dg (H+1) i n:Int))=sm N λn=>M e n*(dg (H+1) j n:Int):=by omega
  have e1:=Qkx (λn=>M e n*(dg (H+1) i n:Int)) (λn=>M e n*(dg (H+1) j n:Int)) N;rw[this]at e1;rw[Lm N (g:=λn=>M e n*(dg (H+1) i n:Int)-M e n*(dg (H+1) j n:Int)) λn _=>Int.mul_sub _ _ _,e1];omega
def U7:Un->Rat->Rat
 | [],_=>0
 |a::p,t=>(a:Rat)+t*U7 p t
def sq:Nat->(Nat->Rat)->Rat
 | 0,_=>0
 |n+1,f=>sq n f+f n
theorem Pp{f g:Nat->Rat}:∀n,(∀i,i<n->f i=g i)->sq n f=sq n g
 | 0,_=>rfl
 |n+1,h=>by simp only[sq,Pp n (λi hi=>h i (by omega)),h n (by omega)]
theorem dK(f g:Nat->Rat):∀n,sq n (λi=>f i+g i)=sq n f+sq n g
 | 0=>by simp only[sq];grind
 |n+1=>by simp only[sq,dK f g n];grind
theorem JM(c:Rat)(f:Nat->Rat):∀n,sq n (λi=>c*f i)=c*sq n f
 | 0=>by simp only[sq];grind
 |n+1=>by simp only[sq,JM c f n];grind
theorem Cx{f:Nat->Rat}:∀n,(∀i,i<n->f i=0)->sq n f=0
 | 0,_=>rfl
 |n+1,h=>by simp only[sq,Cx n (λi hi=>h i (by omega)),h n (by omega)];grind
theorem O1(f:Nat->Rat):∀n,sq (n+1) f=f 0+sq n λi=>f (i+1)
 | 0=>by simp only[sq];grind
 |n+1=>by rw[sq,O1 f n];simp only[sq];grind
theorem Qsr{f:Nat->Rat}{b:Rat}:∀n,(∀i,i<n->Fh (f i)<=b)->Fh (sq n f)<=(n:Rat)*b
 | 0,_=>by rw[show((0:Nat):Rat)=0 from rfl];simp only[sq,Rh];grind
 |
  n+1,h=>by
  have h1:=Qsr n λi hi=>h i (by omega)
  have h2:=h n (by omega);have h3:=Ss (sq n f) (f n);have hn':(((n+1:Nat):Rat))=(n:Rat)+1:=by push_cast;rfl
  rw[hn'];simp only[sq];clear h;grind
def gc:Un->Nat->Nat->Int
 | [],_,_=>0
 |c::B,k,j=>(if k=0/\j=0 then c else 0)+(if k=0 then 0 else gc B (k-1) j)-(if j=0 then 0 else gc B k (j-1))
def gB:Un->Nat
 | []=>0
 |c::B=>max c.natAbs (2*gB B)
theorem MM:∀(B:Un) (k j:Nat),B.length<=k+j->gc B k j=0
 | [],_,_,_=>rfl
 |
  c::B,k,j,h=>by
  simp only[Q5]at h;simp only[gc];rw[if_neg (by omega)];have e1:(if k=0 then 0 else gc B (k-1) j)=0:=by
   split
   ·rfl
   ·exact MM B _ _ (by omega)
  have e2:(if j=0 then 0 else gc B k (j-1))=0:=by
   split
   ·rfl
   ·exact MM B _ _ (by omega)
  rw[e1,e2];rfl
theorem Qho:∀(B:Un) (k j:Nat),(gc B k j).natAbs<=gB B
 | [],_,_=>Qh _
 |
  c::B,k,j=>by
  have h1:=Qho B (k-1) j;have h2:=Qho B k (j-1);simp only[gc,gB];by_cases hk:k=0 <;> by_cases hj:j=0 <;> simp only[hk,hj,true_and,and_true,false_and,and_false,if_true,if_false] <;> (try subst hk) <;> (try subst hj) <;> omega
theorem Qhp:∀(B:Un) (b:Nat),B.length=b+1->(gc B 0 b).natAbs=(B.getD b 0).natAbs
 | [],_,h=>by simp at h
 | [c],0,_=>by simp[gc]
 |c::d::B,0,h=>by simp at h
 |
  c::B,b+1,h=>by
  have ih:=Qhp B b (by simpa using h);simp only[gc];simp only[Yb,Q4];rw[if_pos trivial,if_neg (Nat.succ_ne_zero b),<-ih];omega
def E2(F:Nat->Nat->Int)(K J:Nat)(x y:Rat):Rat:=sq K λk=>sq J λj=>(F k j:Rat)*(y^k*x^j)
theorem mL(F G:Nat->Nat->Int)(K J:Nat)(x y:Rat):E2 (λk j=>F k j+G k j) K J x y=E2 F K J x y+E2 G K J x y:=by
 unfold E2;rw[<-dK];refine Pp K λk _=>?_
 rw[<-dK];exact Pp J λj _=>by push_cast;grind
theorem Qg4(c:Int)(F:Nat->Nat->Int)(K J:Nat)(x y:Rat):E2 (λk j=>F k j*c) K J x y=(c:Rat)*E2 F K J x y:=by
 unfold E2;rw[<-JM];refine Pp K λk _=>?_
 rw[<-JM];exact Pp J λj _=>by push_cast;grind
theorem Qg5(φ:Nat->Nat->Nat->Int)(v:Nat->Int)(K J:Nat)(x y:Rat):∀N,E2 (λk j=>sm N λn=>φ n k j*v n) K J x y=sq N λn=>(v n:Rat)*E2 (φ n) K J x y
 |
  0=>by
  simp only[sq,sm];unfold E2;refine Cx K λk _=>Cx J λj _=>?_
  rw[show((0:Int):Rat)=0 from rfl];grind
 |
  N+1=>by
  simp only[sq];rw[<-Qg5 φ v K J x y N,<-Qg4,<-mL];rfl
theorem GV(t:Rat)(i:Nat):∀k,t^(i+k)=t^i*t^k
 | 0=>by rw[Xm,Xg];grind
 |k+1=>by rw[<-Yp,Z7,Z7,GV t i k];grind
theorem EC(f:Nat->Rat):∀(i n:Nat),sq (i+n) (λk=>if i<=k then f (k-i)else 0)=sq n f
 |i,0=>Cx _ λk hk=>by rw[if_neg (by omega)]
 |
  i,n+1=>by
  rw[<-Yp];simp only[sq];rw[EC f i n,if_pos (by omega),Jk]
def PL(i j':Nat)(F:Nat->Nat->Int)(k j:Nat):Int:=if i<=k then(if j'<=j then F (k-i) (j-j')else 0)else 0
theorem CL(F:Nat->Nat->Int)(i j' K J:Nat)(x y:Rat):E2 (PL i j' F) (i+K) (j'+J) x y=y^i*x^j'*E2 F K J x y:=by
 unfold E2;rw[<-JM,<-EC _ i K];refine Pp _ λk _=>?_
 by_cases hk:i<=k
 ·rw[if_pos hk,<-JM,<-EC _ j' J];refine Pp _ λj _=>?_
  unfold PL;rw[if_pos hk];by_cases hj:j'<=j
  ·rw[if_pos hj,if_pos hj];have e1:y^k=y^i*y^(k-i):=by rw[<-GV];congr 1;omega
   have e2:x^j=x^j'*x^(j-j'):=by rw[<-GV];congr 1;omega
   rw[e1,e2];grind
  ·rw[if_neg hj,if_neg hj,show((0:Int):Rat)=0 from rfl];grind
 ·rw[if_neg hk];refine Cx _ λj _=>?_
  unfold PL;rw[if_neg hk,show((0:Int):Rat)=0 from rfl];grind
def fA(A:Un)(k j:Nat):Int:=if j=0 then A.getD k 0 else 0
theorem Qjl(y:Rat):∀(A:Un) (K:Nat),A.length<=K->sq K (λk=>((A.getD k 0:Int):Rat)*y^k)=U7 A y
 | [],K,_=>by rw[Cx];rfl;intro i _;simp
 |a::A,0,h=>by simp at h
 |
  a::A,K+1,h=>by
  have ih:=Qjl y A K (by simpa using h);rw[O1];simp only[U7,Zt,Q4,Xg];rw[<-ih,<-JM];have:(sq K λi=>((A.getD i 0:Int):Rat)*y^(i+1))=sq K λi=>y*(((A.getD i 0:Int):Rat)*y^i):=Pp K λi _=>by rw[Z7];grind
  rw[this];grind
theorem Qx9(A:Un)(K J:Nat)(x y:Rat)(h:A.length<=K):E2 (fA A) K (J+1) x y=U7 A y:=by
 rw[<-Qjl y A K h];refine Pp K λk _=>?_
 rw[O1,Cx]
 ·simp only[fA,if_true,Xg];grind
 ·intro j _;simp only[fA];rw[if_neg (by omega),show((0:Int):Rat)=0 from rfl];grind
theorem Quh(x y:Rat):∀(B:Un) (K J:Nat),B.length<=K->B.length<=J->E2 (gc B) K J x y=U7 B (y-x)
 |
  [],K,J,_,_=>by
  unfold E2;simp only[gc,U7];exact Cx K λk _=>Cx J λj _=>by rw[show((0:Int):Rat)=0 from rfl];grind
 |c::B,0,J,h,_=>by simp at h
 |c::B,K+1,0,_,h=>by simp at h
 |
  c::B,K+1,J+1,h1,h2=>by
  have i1:=Quh x y B K (J+1) (by simpa using h1) (by simp at h2;omega);have i2:=Quh x y B (K+1) J (by simp at h1;omega) (by simpa using h2);have s1:=CL (gc B) 1 0 K (J+1) x y;have s2:=CL (gc B) 0 1 (K+1) J x y;rw[Zy,Jv 1 K]at s1;rw[Zy,Jv 1 J]at s2;rw[i1]at s1;rw[i2]at s2;have e0:E2 (fA [c]) (K+1) (J+1) x y=(c:Rat):=by rw[Qx9 [c] (K+1) J x y (by simp)];simp only[U7];grind
  have e1:gc (c::B)=λk j=>(fA [c] k j+PL 1 0 (gc B) k j)+PL 0 1 (gc B) k j*(-1):=by
   funext k j;simp only[gc,fA,PL];by_cases hk:k=0 <;> by_cases hj:j=0
   ·subst hk;subst hj;simp
   ·subst hk;simp[hj,show 1<=j by omega]
    try omega
   ·subst hj;obtain⟨m,rfl⟩:∃m,k=m+1:=⟨k-1,by omega⟩;simp
   ·obtain⟨m,rfl⟩:∃m,k=m+1:=⟨k-1,by omega⟩;obtain⟨i,rfl⟩:∃i,j=i+1:=⟨j-1,by omega⟩;simp;omega
  rw[e1,mL (λk j=>fA [c] k j+PL 1 0 (gc B) k j) (λk j=>PL 0 1 (gc B) k j*(-1)),mL (fA [c]) (PL 1 0 (gc B)),Qg4,e0,s1,s2];simp only[U7,Xg,show y^1=y by rw[Z7,Xg];grind,show x^1=x by rw[Z7,Xg];grind];rw[show(((-1:Int)):Rat)=-1 from rfl];grind
end Orq
