/- C2 D1 E1 AlgL F1 F2 F3 F4 F5 T1 T2 T3 T4 T5 T6 T7 T8 T9 -/
import Derived.Test.YtoohlnnpalgnaaaGreatPart04
import Derived.Test.YtoohlnnpalgnaaaGreatPart00
set_option linter.all false
namespace Orr
open Go Go.Proofs Tryz
set_option maxRecDepth 10000
theorem Tj{l:List Pt}{i:Nat}{p:Pt}(h:l[i]? = some p):(l.map Fe)[i]? = some [pl p.c.x,pl p.c.y,sg p.c.d,mg p.c.d,.int .i64 p.id]:=G6 h
theorem Sw(l:List Pt):∀c∈l.map Fe,c.length=5:=Qsr l λ_=>rfl
theorem eQ{lx ly:Us}{px py:Um}{x y:LV}{d:Int}(hx:IsInts lx px)(hy:IsInts ly py)(hd:Gg x y d)(hk:Cs 4294967294 1073741824 (Crv.mk px py d))(id:Int):Uj 287 [.agg [.row lx,.row ly,x,y,.int .i64 id]] [.agg (Fe ⟨Crv.norm (Crv.mk px py d),id⟩)]:=by
 have cd:=Mr hd (Qa hk.d (by omega));by_cases h0:d=0
 ·subst h0;have ck:Cs 4294967294 1073741824 (Crv.mk px py 1):=⟨hk.x,hk.y,show Ff 1<=4294967294 by decide,hk.lx,hk.ly⟩;have cm:=UH hx hy (U5 1) ck (by decide);have e:Crv.norm (Crv.mk px py 1)=Crv.norm (Crv.mk px py 0):=by simp only[Crv.norm,Crv.g,Crv.d'];rfl
  rw[e]at cm;obtain⟨b,l,rfl,rfl,_⟩:=hd;exact Ug func287 rfl [.k cd,.k Do,.t (by simp),.k (BP (z:=1) (by decide)),.k cm] rfl
 ·have cm:=UH hx hy hd hk h0;obtain⟨b,l,rfl,rfl,_⟩:=hd;exact Ug func287 rfl [.k cd,.k Do,.f (by simpa using h0),.k cm] rfl
theorem Qfz{l:List Pt}(id:Int)(hl:l.length<1073741824):Uj 286 [.agg [pts l],.oi id] [.oi (Rk l id:Int),.one (.bool (has l id))]:=by
 refine Fx func286 rfl ?_;refine Ud [] rfl ?_;refine ct 2 (S:=Unit) (λ_=>[(1,.v (.oi id)),(2,.v (.one (.ow 0 0))),(6,.v (.oi (Rk l id:Int)))]) (λ_=>[.blk 218 [pts l]]) (λ_=>True) rfl ?_ ?_
 ·refine Ui (S:=Nat) 1 (λL1 k=>(6,.v (.oi k))::L1) (λ_=>[.blk 218 [pts l]]) (λk=>l.length-k) (λk=>k<=l.length/\∀j p,j<k->l[j]? = some p->p.id<id) 0 ⟨Qh _,λj p h=>by omega⟩ rfl rfl λk ⟨hk,hlt⟩=>?_
  by_cases h:k<l.length
  ·obtain⟨p,hp⟩:=gxE (l:=l) (i:=k) h;by_cases hid:p.id<id
   ·refine Ue [.t (by simp;omega),.x (Tj hp),.t (by simpa using hid)] rfl ?_;exact rd (k+1) (by omega) ⟨h,λj q hj hq=>by
     rcases Zb j k with h2|h2
     ·exact hlt j q h2 hq
     ·have:j=k:=by omega
      subst this;rw[hp]at hq;injection hq with hq;rw[<-hq];exact hid⟩ rfl
   ·have e:=TR hlt (.inr ⟨p,hp,hid⟩);refine Ud [.t (by simp;omega),.x (Tj hp),.f (by simpa using hid)] rfl ?_;rw[e];exact rc () trivial rfl
  ·obtain rfl:k=l.length:=by omega
   have e:=TR hlt (.inl rfl);refine Ud [.f (by simp),.f rfl] rfl ?_;rw[e];exact rc () trivial rfl
 ·intro _ _;by_cases h:Rk l id<l.length
  ·obtain⟨p,hp⟩:=gxE (l:=l) (i:=Rk l id) h;have e:has l id=decide (p.id=id):=by simp[has,hp]
   rw[e];exact Uf [.g 30 true (by simp;omega),.x (Tj hp)] rfl
  ·have e:has l id=false:=by simp[has,Qw (J8 h)]
   rw[e];exact Uf [.g 30 false (by simp;omega)] rfl
theorem Iu{l:List Pt}:Uj 252 [.agg [pts l]] [.one (pts l)]:=Ug func252 rfl [] rfl
theorem wN{lx ly:Us}{px py:Um}{x y:LV}{d id:Int}{l:List Pt}(hx:IsInts lx px)(hy:IsInts ly py)(hd:Gg x y d)(hk:Cs 4294967294 1073741824 (Crv.mk px py d))(hl:l.length<=1000000) :
 Uj 249 [.agg [pts l],.agg [.row lx,.row ly,x,y,.int .i64 id]] [.agg [pts (if WT l (Pt.mk (Crv.norm (Crv.mk px py d)) id)=0 then put l (Pt.mk (Crv.norm (Crv.mk px py d)) id)else l)],.oi (WT l (Pt.mk (Crv.norm (Crv.mk px py d)) id))]:=by
 have ca:=Qfz (l:=l) id (by omega);have cf:=eQ hx hy hd hk id;obtain⟨b,r,rfl,rfl,_⟩:=hd;obtain⟨q,hq⟩:=nmE (Pt.mk (Crv.norm (Crv.mk px py d)) id);have hqi:q.id=id:=by rw[hq]
 rw[<-hq]at cf ⊢;have hpl:=vK l id;by_cases h1:has l id=true
 ·have e:WT l q=6:=by simp[WT,hqi,h1]
  rw[e,if_neg (by decide)];exact Ug func249 rfl [.k ca,.t h1] rfl
 by_cases h2:6<=l.length
 ·have e:WT l q=9:=by simp[WT,hqi,h1,h2]
  rw[e,if_neg (by decide)];exact Ug func249 rfl [.k ca,.f (by simpa using h1),.t (by simp;omega)] rfl
 have e:WT l q=0:=by simp[WT,hqi,h1,h2]
 rw[e,if_pos rfl];have s1:∀c∈(l.map Fe).take (Rk l id),c.length=5:=λc hc=>Sw l c (Qo hc)
 have s3:∀c∈(l.map Fe).drop (Rk l id),c.length=5:=λc hc=>Sw l c (Qz hc)
 refine Ug func249 rfl [.k ca,.f (by simpa using h1),.f (by simp;omega),.i (Rk l id),.s s1,.k cf,.i (Rk l id),.s s3] rfl ?_ ?_
 ·simp[put,hqi,pts,Jv,Vi,Fe]
 ·simp[U4];exact⟨by omega,hpl,λ_ _=>rfl,by omega,by omega,hpl⟩
theorem mG{l:List Pt}(hok:∀p∈l,Qd8 4294967294 1073741824 p)(hl:l.length<1073741824):Uj 257 [.agg [pts l]] [.one (pts (Tq l))]:=by
 refine Fx func257 rfl ?_;refine Ud [.o 3 40 5] rfl ?_;refine Ui (S:=Nat) 2 (λL1 i=>(12,.v (.oi i))::(3,.v (.one (.orow 1 5 none)))::L1) (λi=>[.blk 218 [pts l],.row false 40 5 (((l.take i).foldl Cc []).map Fe)]) (λi=>l.length-i) (λi=>i<=l.length) 0 (Qh _) rfl rfl λi hi=>?_
 by_cases hlt:i<l.length
 ·obtain⟨p,hp⟩:=gxE (l:=l) (i:=i) hlt;obtain⟨hn,hk⟩:=hok p (Qc hp);have hws:=Sl Cc [] l hp;have hwl:=KF l i;have hwm:=KG l i;obtain⟨o,ho⟩:=nmE ((l.take i).foldl Cc []);rw[<-ho]at hws hwl hwm ⊢;refine Ud [.t (by simp;omega),.x (Tj hp)] rfl ?_;refine Ui (S:=Nat) 3 (λL1 k=>(18,.v (.oi k))::(6,.v (.one (.bool ((o.take k).any λq=>Eh p.c q.c))))::L1) (λk=>[.blk 218 [pts l],.row false 40 5 (o.map Fe),.blk 40 (Fe p)]) (λk=>o.length-k) (λk=>k<=o.length) 0 (Qh _) rfl rfl λk hk2=>?_
  by_cases hk3:k<o.length
  ·obtain⟨q,hq⟩:=gxE (l:=o) (i:=k) hk3;obtain⟨hqn,hqk⟩:=hok q (hwm q (Qc hq));have hany:((o.take (k+1)).any λq=>Eh p.c q.c)=(((o.take k).any λq=>Eh p.c q.c) || Eh p.c q.c):=by rw[Y7,hq,List.any_append];simp
   cases hb:(o.take k).any λq=>Eh p.c q.c with
   |
    true =>
    rw[hb]at hany;refine Ue [.t (by simp;omega),.i k,.x (Tj hq),.t rfl,.r 29 (v:=.one (.bool ((o.take (k+1)).any λq=>Eh p.c q.c))) (by rw[hany];rfl)] rfl ?_;exact rd (k+1) (by omega) hk3 rfl
   |
    false =>
    rw[hb]at hany;refine Ue [.t (by simp;omega),.i k,.x (Tj hq),.f rfl,.k (lL hn hqn hk hqk),.r 29 (v:=.one (.bool ((o.take (k+1)).any λq=>Eh p.c q.c))) (by rw[hany];rfl)] rfl ?_;exact rd (k+1) (by omega) hk3 rfl
  ·obtain rfl:k=o.length:=by omega
   rw[Q6];cases hb:o.any λq=>Eh p.c q.c with
   |
    true =>
    have e:Cc o p=o:=by unfold Cc;rw[if_pos hb]
    exact go tt [.f (by simp),.f rfl] rfl (by simp[U4];omega) (rd (i+1) (by omega) hlt (by rw[hws,e];rfl))
   |
    false =>
    have e:Cc o p=o++[p]:=by unfold Cc;rw[if_neg (by rw[hb];decide)]
    exact go tt [.f (by simp),.t rfl] rfl (by simp[U4];omega) (rd (i+1) (by omega) hlt (by rw[hws,e,Yh];rfl))
 ·obtain rfl:i=l.length:=by omega
  exact Uf [.f (by simp)] rfl (by rw[Q6];rfl) trivial
theorem Qar(q:Rat):Fg [-q.num,(q.den:Int)]:=by
 have:=q.den_nz;simp[Fg,trim,this]
theorem Qxr{s:Nat}{q:Rat}(h:Qs s q):Bd s [-q.num,(q.den:Int)]:=λz hz=>by
 simp at hz;rcases hz with rfl|rfl
 ·rw[Hn];exact h.1
 ·exact h.2
theorem VO{x y x' y':LV}{n d:Int}(h1:Gg x y n)(h2:Gg x' y' d)(hn:Ff n<=4294967295)(hd:Ff d<=4294967295)(hq:Qs 4294967295 (Gj n d)):Uj 98 [.agg [x,y,x',y']] [.agg (qa (Gj n d))]:=by
 have c1:=CZ h1 h2 hn hd;obtain⟨b,l,rfl,rfl,_⟩:=h1;obtain⟨b',l',rfl,rfl,_⟩:=h2;exact Ug func98 rfl [.k c1,.k (BS (U5 _) hq.1),.k (Nz hq)] rfl
theorem D2{k:Crv}(hn:ZI k)(hk:Cs 4294967294 1073741824 k):Uj 242 [.agg (cl k)] [.agg (cl k)]:=by
 have h0:k.d≠0:=by have:=hn.2.2.1;omega
 have cm:=UH (Gf k.x) (Gf k.y) (U5 k.d) hk h0;rw[show Crv.mk k.x k.y k.d=k from rfl,Crv.norm_of hn]at cm;exact Ug func242 rfl [.k (Mr (U5 k.d) (Qa hk.d (by omega))),.k Do,.f (by simpa using h0),.k cm] rfl
theorem UF{a b:Crv}(ha:ZI a)(hb:ZI b)(ca:Cb a)(cb:Cb b):Uj 232 [.agg (cl a),.agg (cl b)] [pr (Gp a b)]:=by
 have l1:=ca.lx;have l2:=cb.lx;have l3:=Fy b.x a.d;have l4:=Fy a.x b.d;exact Ug func232 rfl [.k (D2 ha (ca.mono (by omega) (by omega))),.k (D2 hb (cb.mono (by omega) (by omega))),.k (Sr (by omega) (U6 cb.x (by omega)) (Qa ca.d (by omega))),.k (Sr (by omega) (U6 ca.x (by omega)) (Qa cb.d (by omega))),.k (HC (by omega) (by omega) (U6 (Ge cb.x ca.d) (by omega)) (U6 (Ge ca.x cb.d) (by omega)))] rfl
theorem UK{a b:Crv}(ha:ZI a)(hb:ZI b)(ca:Cb a)(cb:Cb b):Uj 233 [.agg (cl a),.agg (cl b)] [pr (Gn a b)]:=by
 have l1:=ca.ly;have l2:=cb.ly;have l3:=Fy b.y a.d;have l4:=Fy a.y b.d;exact Ug func233 rfl [.k (D2 ha (ca.mono (by omega) (by omega))),.k (D2 hb (cb.mono (by omega) (by omega))),.k (Sr (by omega) (U6 cb.y (by omega)) (Qa ca.d (by omega))),.k (Sr (by omega) (U6 ca.y (by omega)) (Qa cb.d (by omega))),.k (HC (by omega) (by omega) (U6 (Ge cb.y ca.d) (by omega)) (U6 (Ge ca.y cb.d) (by omega)))] rfl
def Pj(ps:Un):Us:=ps.map λp=>[pl p]
theorem Rr{ps:Un}{i:Nat}{p:Um}(h:ps[i]? = some p):(Pj ps)[i]? = some [pl p]:=G6 h
theorem wC{p q:Um}:Uj 291 [pr p,pr q] [pr (Lz p q)]:=by
 by_cases h:0<p.length
 ·exact Ug func291 rfl [.t (by simp;omega)] rfl (by simp only[Lz];rw[if_pos h]) trivial
 ·exact Ug func291 rfl [.f (by simp;exact Qj (by omega))] rfl (by simp only[Lz];rw[if_neg h]) trivial
theorem Qbs:Uj 290 [.oi 1] [.oi 2]:=Ug func290 rfl [.t rfl,.t rfl] rfl
theorem Qbt:Uj 290 [.oi 2] [.oi 2]:=Ug func290 rfl [.f rfl,.t rfl] rfl
theorem Qbu:Uj 290 [.oi 3] [.oi 3]:=Ug func290 rfl [.f rfl,.f rfl,.t rfl] rfl
theorem Qbv:Uj 290 [.oi 4] [.oi 4]:=Ug func290 rfl [.f rfl,.f rfl,.f rfl,.t rfl,.t rfl] rfl
theorem Qbw:Uj 290 [.oi 5] [.oi 4]:=Ug func290 rfl [.f rfl,.f rfl,.f rfl,.f rfl,.t rfl] rfl
theorem Qe1{k i0 i1 i2 i3 l j0 j1 j2 j3:Int}:Uj 322 [.agg [.int .i64 k,.int .i64 i0,.int .i64 i1,.int .i64 i2,.int .i64 i3],.agg [.int .i64 l,.int .i64 j0,.int .i64 j1,.int .i64 j2,.int .i64 j3]] [.one (.bool (Dh [k,i0,i1,i2,i3] [l,j0,j1,j2,j3]))]:=by
 by_cases hk:k=l
 ·subst hk;rw[show Dh [k,i0,i1,i2,i3] [k,j0,j1,j2,j3]=Dh [i0,i1,i2,i3] [j0,j1,j2,j3] from by simp[Dh]];refine Fx func322 rfl ?_;refine Ud [.f (by simp)] rfl ?_;refine Ui (S:=Nat) 2 (λL1 i=>(19,.v (.oi i))::L1) (λ_=>[.blk 97 [.int .i64 k,.int .i64 i0,.int .i64 i1,.int .i64 i2,.int .i64 i3],.blk 97 [.int .i64 k,.int .i64 j0,.int .i64 j1,.int .i64 j2,.int .i64 j3]]) (λi=>4-i) (λi=>i<=4/\Dh ([i0,i1,i2,i3].drop i) ([j0,j1,j2,j3].drop i)=Dh [i0,i1,i2,i3] [j0,j1,j2,j3]) 0 ⟨by omega,rfl⟩ rfl rfl λi ⟨hi,he⟩=>?_
  rw[<-he];rcases(show i=0\/i=1\/i=2\/i=3\/i=4 by omega)with rfl|rfl|rfl|rfl|rfl
  ·by_cases h:i0=j0
   ·exact go tt [.t rfl,.i 0,.i 0,.f (by simpa using h)] rfl (by simp[U4]) (rd 1 (by omega) ⟨by omega,by simp[Dh,h]⟩ rfl)
   ·exact Uf [.t rfl,.i 0,.i 0,.t (by simpa using h),.i 0] rfl (by simp[Dh,h]) trivial
  ·by_cases h:i1=j1
   ·exact go tt [.t rfl,.i 1,.i 1,.f (by simpa using h)] rfl (by simp[U4]) (rd 2 (by omega) ⟨by omega,by simp[Dh,h]⟩ rfl)
   ·exact Uf [.t rfl,.i 1,.i 1,.t (by simpa using h),.i 1] rfl (by simp[Dh,h]) trivial
  ·by_cases h:i2=j2
   ·exact go tt [.t rfl,.i 2,.i 2,.f (by simpa using h)] rfl (by simp[U4]) (rd 3 (by omega) ⟨by omega,by simp[Dh,h]⟩ rfl)
   ·exact Uf [.t rfl,.i 2,.i 2,.t (by simpa using h),.i 2] rfl (by simp[Dh,h]) trivial
  ·by_cases h:i3=j3
   ·exact go tt [.t rfl,.i 3,.i 3,.f (by simpa using h)] rfl (by simp[U4]) (rd 4 (by omega) ⟨by omega,by simp[Dh,h]⟩ rfl)
   ·exact Uf [.t rfl,.i 3,.i 3,.t (by simpa using h),.i 3] rfl (by simp[Dh,h]) trivial
  ·exact Uf [.f rfl] rfl (by simp[Dh]) trivial
 ·exact Ug func322 rfl [.t (by simpa using hk)] rfl (by simp[Dh,hk]) trivial
abbrev zCt:Ur:=[.int .i64 0,.int .i64 0,.int .i64 0,.int .i64 0,.int .i64 0,.nils,.int .i64 0]
def U9(l:List Ct):Us:=l.map Du
theorem XY{l:List Ct}{i:Nat}{c:Ct}(h:l[i]? = some c):(U9 l)[i]? = some (Du c):=G6 h
theorem Pu(l:List Ct):(U9 l).length=l.length:=by simp[U9]
theorem Oa(l:List Ct):∀c∈U9 l,c.length=7:=λc hc=>by
 obtain⟨x,_,rfl⟩:=Za.1 hc;rfl
theorem Qih{O:List Ct}{z:Ur}{c:Ct}{k m:Nat}{l2:Us}(hk:k<=O.length)(hp:JR O c O.length=k)(hm:m=O.length-k)(h2:l2.take m=((U9 O++[z]).drop k).take m) :
 ((U9 O++[z]).take (k+1)++(l2.take m++(U9 O++[z]).drop (k+1+m))).set k (Du c)=U9 (WZ O c):=by
 rw[h2,<-Zd,fL (U9 O) z (Du c) (by rw[Pu];omega) (by rw[Pu];omega)];simp[WZ,hp,U9,Jv,Vi]
theorem HL{l:List Ct}(hl:∀c∈l,Pb c.p)(hn:l.length≤1000000):Uj 288 [.one (.row (U9 l))] [.one (.row (U9 (Fp l)))]:=by
 have hcl:=Pu l;refine Fx func288 rfl ?_;refine Ud [.o 3 99 7] rfl ?_;refine Ui (S:=Nat) 1 (λL1 i=>(9,.v (.oi i))::(3,.v (.one (.orow 0 7 none)))::L1) (λi=>[.row false 99 7 (U9 (Fp (l.take i)))]) (λi=>l.length-i) (λi=>i<=l.length) 0 (Qh _) rfl rfl λi hi=>?_
 by_cases hlt:i<l.length
 ·obtain⟨c,hc⟩:=gxE (l:=l) (i:=i) hlt;have hst:=dK hc;have hcp:=hl c (Qc hc);obtain⟨O,hO⟩:=nmE (Fp (l.take i));have hOl:O.length=i:=by rw[hO,M4,Qp];omega
  rw[<-hO]at hst ⊢;refine Ud [.t (by simp[hcl];omega),.x (XY hc)] rfl ?_;refine Ui (S:=Nat) 2 (λL1 k=>(6,.v (.oi k))::L1) (λk=>[.row false 99 7 (U9 O),.blk 99 (Du c)]) id (λk=>k<=O.length/\JR O c k=JR O c O.length) (U9 O).length ⟨by rw[Pu];exact Ql _,by rw[Pu]⟩ rfl rfl λk ⟨hk,hp⟩=>?_
  have hz:∀y∈[zCt],y.length=7:=λy hy=>by rw[Qk.1 hy];rfl
  have h77:∀y∈U9 O++[zCt],y.length=7:=λy hy=>by
   rcases Qq.1 hy with hy|hy
   ·exact Oa O y hy
   ·exact hz y hy
  cases k with
  |
   zero =>
   have hp:JR O c O.length=0:=by rw[<-hp];rfl
   refine go tt [.g 17 false (by simp),.f rfl,.s (sz:=7) hz,.r 36 (eI (b:=((0+1:Nat):Int)) (by simp)),.i (0+1),.i (0),.s (sz:=7) (λy hy=>h77 y (Qo hy)),.i (O.length),.k (Hu hcp.t (by have:=hcp.l;omega) (U6 hcp.b (by omega))),.i (0)] rfl (by simp[U4,Pu];omega) ?_;exact rd (i+1) (by omega) hlt (by rw[hst,<-Qih (z:=zCt) (l2:=(U9 O++[zCt]).take ((U9 O++[zCt]).length-0)) (k:=0) (m:=O.length) (by omega) hp (by omega) (by congr 1;exact Qm (by simp))];rfl)
  |
   succ k =>
   obtain⟨x,hx⟩:=gxE (l:=O) (i:=k) (by omega);by_cases hlc:gJ c x=true
   ·refine go tt [.g 17 true (by simp),.r 22 (eI (b:=(k:Int)) (by simp)),.i k,.x (XY hx),.k Qe1,.t hlc,.r 29 (eI (b:=(k:Int)) (by simp))] rfl (by simp[U4,Pu];omega) ?_;exact rd k (by simp) ⟨by omega,by rw[<-hp,Qp5 hx hlc]⟩ rfl
   ·have hlc:gJ c x=false:=by simpa using hlc
    have hp:JR O c O.length=k+1:=by rw[<-hp,Qjx hx hlc]
    refine go tt [.g 17 true (by simp),.r 22 (eI (b:=(k:Int)) (by simp)),.i k,.x (XY hx),.k Qe1,.f hlc,.s (sz:=7) hz,.r 36 (eI (b:=((k+1+1:Nat):Int)) (by simp)),.i (k+1+1),.i (k+1),.s (sz:=7) (λy hy=>h77 y (Qz (Qo hy))),.i (O.length-(k+1)),.k (Hu hcp.t (by have:=hcp.l;omega) (U6 hcp.b (by omega))),.i (k+1)] rfl (by simp[U4,Pu];omega) ?_;exact rd (i+1) (by omega) hlt (by rw[hst,<-Qih (z:=zCt) (l2:=((U9 O++[zCt]).drop (k+1)).take ((U9 O++[zCt]).length-(k+1))) (k:=k+1) (m:=O.length-(k+1)) (by omega) hp (by omega) (by congr 1;exact Qm (by simp))];rfl)
 ·obtain rfl:i=l.length:=by omega
  rw[Q6];exact Uf [.f (by simp[hcl])] rfl
end Orr
namespace Orr
def Fu(p:Um):Int:=p.getD (p.length-1) 0
def OX(p:Um):Option Um:=if p.length<=64/\(p.all λz=>Nat.ble (Ff z) 16777216)=true then some p else none
def chq(q:Rat):Option Rat:=if Ff q.num<=16777216/\Ff (q.den:Int)<=16777216 then some q else none
def Pn(p:Um):Int:=(Ta p:Nat)
def Di(p:Um)(c:Int):Um:=trim (p.map (· / c))
def Hp(p:Um):Int:=if Fu p<0 then -Pn p else Pn p
def Fj(p:Um):Um:=if p.length=0 then []else Di p (Hp p)
def mono(i:Nat)(x:Int):Um:=List.replicate i 0++[x]
def tZ(b:Um)(c:Int):Nat->Um×Um->Um×Um
 | 0,s=>s
 |
  i+1,(q,r) =>
  tZ b c i (A8 (Fq q c) (mono i (if r.length=b.length+i then Fu r else 0)),Nf (Fq r c) (Gm (trim (mono i (if r.length=b.length+i then Fu r else 0))) b))
def Mg(a b:Um):Um:=(tZ b (Fu b) (a.length+1-b.length) ([],a)).2
def B7(a b r:Um):Um:=if (a.length+1-b.length) % 2=1/\Fu b<0 then My r else r
def KY(r:Um):Um:=if r.length=0 then []else Di r (Pn r)
def Tc(a b:Um):Um:=KY (B7 a b (Mg a b))
def vX(b:Um):Nat->Um->Um->Option Um
 | 0,a,q=>if a.length=0 then some q else none
 |i+1,a,q=>if a.length<b.length+i then vX b i a q else if Fu a % Fu b=0 then vX b i (Nf a (Gm (trim (mono i (Fu a / Fu b))) b)) (q.set i (Fu a / Fu b))else none
def JS(a b:Um):Option Um:=if b.length=0 then none else(vX b (a.length+1-b.length) a (List.replicate (a.length+1-b.length) 0)).bind λq=>OX (trim q)
def TA:Nat->Um->Um->Option Um
 | 0,_,_=>none
 |k+1,a,b=>if b.length=0 then some a else(OX (Tc a b)).bind λr=>TA k b r
def JM(a b:Um):Option Um:=(TA 66 (Fj a) (Fj b)).map Fj
def vY(a b:Um):Option Um:=(JM [] a).bind λg=>JM g b
def Pw(a:Um):Option Um:=if (Fj a).length<2 then some (Fj a)else(OX (Gx (Fj a))).bind λd=>(JM (Fj a) d).bind λg=>JS (Fj a) g
def RE:Nat->Um->Option Un
 | 0,_=>none
 |k+1,g=>if g.length<2 then some []else(OX (Gx g)).bind λd=>(JM g d).bind λh=>(JS g h).bind λw=>(RE k h).bind λl=>some (w::l)
def IQ:Un->Option Un
 | []=>some []
 | [w]=>some [w]
 |w::v::l=>(JS w v).bind λf=>(IQ (v::l)).bind λr=>some (f::r)
def FI:Nat->Um->Un->Option Um
 |_,p,[]=>some p
 |i,p,f::l=>if i % 2=0 then(OX (Gm p f)).bind λq=>FI (i+1) q l else FI (i+1) p l
def cX(a:Um):Option Um:=if (Fj a).length=0 then some []else(RE 66 (Fj a)).bind λl=>(IQ l).bind λfs=>FI 0 [1] fs
def pZ:Nat->Um->Um->Option Un
 | 0,_,_=>none
 |k+1,a,b=>if b.length=0 then some []else(OX (Tc a b)).bind λr=>(pZ k b (My r)).bind λl=>some (b::l)
def Eg(p:Um):Option Un:=(Pw p).bind λa=>if a.length=0 then none else(OX (Gx a)).bind λd=>(pZ 66 a (Fj d)).bind λl=>some (a::l)
def P0(sg:Um->Int)(s:Nat×Int)(p:Um):Nat×Int:=if sg p=0 then s else(if s.2=-(sg p)then s.1+1 else s.1,sg p)
def Db(sg:Um->Int)(l:Un):Nat:=(l.foldl (P0 sg) (0,0)).1
def Dc(l:Un)(q:Rat):Nat:=Db (λp=>Re p q) l
def Ts(l:Un)(lo hi:Rat):Int:=if Hf hi lo<0 then 0 else(Dc l lo:Int)-(Dc l hi:Int)
def FZ(p:Um):Int:=Int.sign (Fu p)
def ZB(p:Um):Int:=if p.length % 2=0 then -Int.sign (Fu p)else Int.sign (Fu p)
def WN(l:Un):Int:=(Db ZB l:Int)-(Db FZ l:Int)
def most:Um->Nat:=λl=>l.foldl (λm z=>if m<z.natAbs then z.natAbs else m) 0
def Gy(p:Um):Rat:=Rat.divInt (((Fu p).natAbs:Int)+(most (p.take (p.length-1)):Int)) ((Fu p).natAbs:Int)
def mid(a b:Rat):Rat:=Rat.divInt (a.num*(b.den:Int)+b.num*(a.den:Int)) ((a.den:Int)*(b.den:Int)*2)
def Iq(p:Um)(c:Un):Nat->Rat->Rat->Int->Option (List Tm)
 | 0,_,_,_=>none
 |k+1,lo,hi,n=>if n=0 then some []else if n=1 then some [⟨p,lo,hi⟩]else(chq (mid lo hi)).bind λm=>(Iq p c k lo m (Ts c lo m)).bind λl=>(Iq p c k m hi (n-Ts c lo m)).bind λr=>some (l++r)
def PG(p:Um):Option (List Tm):=(Eg p).bind λc=>(Pw p).bind λq=>(chq (Gy q)).bind λb=>Iq q c 100000 (-b) b (WN c)
def Tm.point(a:Tm):Bool:=decide (0<=Hf a.lo a.hi)
def low(p:Um)(q:Rat):Int:=if Re p q≠0 then Re p q else Re (Gx p) q
def FW(p:Um)(lo hi:Rat):Bool:=decide (Re p hi=0\/Re p hi≠low p lo)
def Ft(a:Tm)(t:Rat):Int :=
 if a.point=true then Hf a.lo t else if Hf t a.lo<=0 then 1 else if 0<Hf t a.hi then -1 else if Re a.p t=0 then 0 else if Re a.p t=low a.p a.lo then 1 else -1
def yQ(a:Tm):Option Tm:=if a.point=true then some a else(chq (mid a.lo a.hi)).bind λm =>
 some (if Ft a m=0 then ⟨a.p,m,m⟩else if Ft a m=-1 then ⟨a.p,a.lo,m⟩else ⟨a.p,m,a.hi⟩)
def Hb(p:Um):Nat:=p.foldl (λn z=>max n (Ff z)) 0
def Mb(a b:Tm):Nat:=64+2*(Ff a.lo.num+Ff a.hi.num+Ff b.lo.num+Ff b.hi.num)+4*(a.p.length+b.p.length)*(Hb a.p+Hb b.p+(a.p.length+b.p.length)+8)
def EB(a b:Rat):Rat:=Rat.divInt (a.num*(b.den:Int)-b.num*(a.den:Int)) ((a.den:Int)*(b.den:Int))
def Lb(a b:Tm):Bool:=decide (Hf a.hi b.lo<=0/\¬((a.point=true/\b.point=true)/\Hf a.hi b.lo=0))
def AL:Nat->Tm->Tm->Option (Tm×Tm×Int)
 | 0,a,b=>some (a,b,0)
 |
  k+1,a,b=>if Lb a b=true then some (a,b,-1)else if Lb b a=true then some (a,b,1)else
  if 0<=Hf (EB a.hi a.lo) (EB b.hi b.lo)then(yQ a).bind λx=>AL k x b else(yQ b).bind λx=>AL k a x
def UM(a b:Tm):Option Int:=if a.point=true then some (-Ft b a.lo)else if b.point=true then some (Ft a b.lo)else
 let lo:=if 0<Hf b.lo a.lo then b.lo else a.lo
 let hi:=if Hf b.hi a.hi<0 then b.hi else a.hi
 if Hf lo hi<0 then(vY a.p b.p).bind λg=>if 1<g.length/\FW g lo hi=true then some 0 else(AL (Mb a b) a b).bind λr=>some r.2.2
 else(AL (Mb a b) a b).bind λr=>some r.2.2
def sgF(c:Un):Nat->Tm->Option Tm
 | 0,a=>some a
 |k+1,a=>if a.point=true\/Ts c a.lo a.hi=0 then some a else(yQ a).bind λx=>sgF c k x
def GM(p:Um)(a:Tm):Option Int:=if p.length=0 then some 0 else if a.point=true then some (Re p a.lo)else
 (vY p a.p).bind λg=>if 1<g.length/\FW g a.lo a.hi=true then some 0 else(Eg p).bind λc=>(sgF c (64+2*(Ff a.lo.num+Ff a.hi.num)+4*(a.p.length+p.length)*(Hb a.p+Hb p+(a.p.length+p.length)+8)) a).bind λx=>some (Re p x.hi)
def QI:Tm->List Tm->Option Tm
 |b,[]=>some b
 |b,a::l=>(UM a b).bind λc=>QI (if c<0 then a else b) l
def KX(a:Tm):List Tm->Option (Option Tm)
 | []=>some none
 |r::l=>(UM r a).bind λc=>if 0<c then some (some r)else KX a l
def WI(p:Um):Option (List Tm):=(cX p).bind λq=>if q.length=0 then some []else PG q
def PX(p:Um)(a:Tm):Option (Option Tm):=(WI p).bind λl=>KX a l
end Orr
namespace Orr
open Go Go.Proofs Tryz
set_option maxRecDepth 10000
theorem Et{p:Um}(tp:Fg p)(h:p.length≠0):Fu p≠0:=H6 tp (by omega)
theorem LF{p:Um}(h:p.length≠0):Fu p∈p:=Qc (Rj (by omega))
theorem Nj{s:Nat}{p:Um}(h:Bd s p):Ff (Fu p)<=s:=Fv h _
theorem Aa{p:Um}:∀z∈p,Pn p∣z:=XT
theorem JF{p:Um}(tp:Fg p)(h:p.length≠0):Pn p≠0:=λh0=>Et tp h (Int.zero_dvd.1 (h0 ▸ Aa _ (LF h)))
theorem YD{p:Um}(h:Bd 4294967295 p):Ff (Pn p)<=4294967295:=ME h
theorem oU{p:Um}(tp:Fg p)(h:p.length≠0):Hp p≠0:=by
 have:=JF tp h;unfold Hp;split <;> omega
theorem GX{p:Um}:∀z∈p,Hp p∣z:=λz hz=>by
 unfold Hp;split
 ·exact Uc.2 (Aa z hz)
 ·exact Aa z hz
theorem Qim{p:Um}(h:Bd 4294967295 p):Ff (Hp p)<=4294967295:=by
 unfold Hp;split
 ·rw[Hn];exact YD h
 ·exact YD h
theorem BV{s:Nat}{p:Um}(h:Bd s p)(c:Int):Bd s (Di p c):=Tz (HM h c)
theorem qG(p:Um)(c:Int):(Di p c).length<=p.length:=Qa (H9 _) (by simp)
theorem ZK(p:Um)(c:Int):Fg (Di p c):=Rt _
theorem Qjr{p:Um}(h:Pb p)(c:Int):Pb (Di p c):=⟨ZK _ _,Qa (qG _ _) h.l,BV h.b c⟩
theorem TK:Pb []:=⟨rfl,by simp,KH⟩
theorem Rz{p:Um}(h:Pb p):Pb (Fj p):=by
 unfold Fj;split
 ·exact TK
 ·exact Qjr h _
theorem Pb.bd{p:Um}(h:Pb p):Bd 4294967295 p:=U6 h.b (by omega)
theorem Pb.ln{p:Um}(h:Pb p):p.length<274877906944:=Z3 h.l (by omega)
theorem Pb.ln'{p:Um}(h:Pb p):p.length<8589934592:=Z3 h.l (by omega)
theorem QS{p q:Um}(tp:Fg p)(h:OX p=some q):q=p/\Pb p:=by
 unfold OX at h
 split at h
 ·rename_i hc;injection h with h;refine⟨h.symm,tp,hc.1,λz hz=>?_⟩;have:=Jt.1 hc.2 z hz;exact Zf this
 ·cases h
theorem lI{p:Um}{g:Int}(hl:p.length<274877906944)(hp:Bd 4294967295 p)(hg:Ff g≤4294967295)(h0:g≠0)(hd:∀z∈p,g∣z):Uj 335 [pr p,.agg (G9 g)] [pr (Di p g)]:=by
 refine Fx func335 rfl ?_;refine Ue [.r 9 (eI (b:=(p.length:Int)) (by simp)),.i p.length,.i p.length,.r 12 (eI (b:=(p.length:Int)) (by simp))] rfl ?_;rw[Am λk=>G9 (p.getD k 0 / g)];refine Ui (S:=Nat) 2 (λL1 k=>(13,.v (.oi k))::L1) (λk=>[.blk 36 (G9 g),.row false 36 2 (AM (λk=>G9 (p.getD k 0 / g)) [.bool false,.nils] p.length k)]) (λk=>p.length-k) (λk=>k<=p.length) 0 (Qh _) rfl rfl λk hk=>?_
 by_cases hlt:k<p.length
 ·have hg2:=Rj hlt;refine go tt [.t (by simp;omega),.x (Pi hg2),.k (Ic (U5 _) (U5 _) (Fv hp k) hg h0 (Jx (hd _ (Qc hg2)))),.i k] rfl (by simp[U4,Im];omega) ?_;have e:=QD (λk=>G9 (p.getD k 0 / g)) [.bool false,.nils] hlt;rw[e];exact rd (k+1) (by omega) hlt rfl
 ·obtain rfl:k=p.length:=by omega
  have e:AM (λk=>G9 (p.getD k 0 / g)) [.bool false,.nils] p.length p.length=(p.map (· / g)).map G9:=by
   rw[QC];refine Xm λi=>?_
   by_cases hi:i<p.length
   ·simp[X3 hi,List.getD,Qe hi]
   ·simp[Qw,hi]
  rw[e];exact Uf [.f (by simp),.k (Ci (Gf (p.map (· / g))) (by simp;exact hl) (HM hp g))] rfl
theorem HB{p:Um}(hl:p.length<8589934592)(hp:Bd 4294967295 p):Uj 336 [.one (.row [[pl p]])] [.agg (G9 (Pn p))]:=by
 refine Fx func336 rfl ?_;refine Ud [.o 3 36 2] rfl ?_;refine Ui (S:=Nat) 2 (λL1 i=>(8,.v (.oi i))::(3,.v (.one (.orow 1 2 none)))::L1) (λi=>[.blk 36 [.bool false,.nils],.row false 36 2 (if i=0 then []else p.map G9)]) (λi=>1-i) (λi=>i<=1) 0 (Qh _) rfl rfl λi hi=>?_
 rcases(show i=0\/i=1 by omega)with rfl|rfl
 ·refine Ue [.t rfl,.x (i:=0) (xs:=[pl p]) rfl,.s (EY p)] rfl ?_;exact rd 1 (by omega) (by omega) rfl
 ·exact Uf [.f rfl,.k (Qew (Gf p) hp)] rfl
theorem Qgc{p:Um}(tp:Fg p)(hl':p.length<8589934592)(hp:Bd 4294967295 p):Uj 319 [pr p] [.agg (G9 (if p.length=0 then 0 else Hp p)),pr (Fj p)]:=by
 have hl:p.length<274877906944:=by omega
 have cn:=Hu tp hl hp;by_cases h0:p.length=0
 ·have e:p=[]:=Qj h0;subst e;exact Ug func319 rfl [.k cn,.t rfl] rfl (by simp[Lo,Fj];rfl) trivial
 ·have hpf:Fj p=Di p (Hp p):=by unfold Fj;rw[if_neg h0]
  rw[if_neg h0,hpf];have co:=lI hl hp (Qim hp) (oU tp h0) GX;by_cases hneg:Fu p<0
  ·have e:Hp p=-Pn p:=by unfold Hp;rw[if_pos hneg]
   rw[e]at co ⊢;exact Ug func319 rfl [.k cn,.f (by simpa using h0),.k (HB hl' hp),.k (Dy tp hl hp),.t (by simpa[Fu]using hneg),.k (BS (U5 _) (YD hp)),.k co] rfl
  ·have e:Hp p=Pn p:=by unfold Hp;rw[if_neg hneg]
   rw[e]at co ⊢;exact Ug func319 rfl [.k cn,.f (by simpa using h0),.k (HB hl' hp),.k (Dy tp hl hp),.f (by simpa[Fu]using hneg),.k co] rfl
theorem Ie{p:Um}(hp:Pb p):Uj 311 [pr p] [pr (Fj p)] :=
 Ug func311 rfl [.k (Qgc hp.t hp.ln' hp.bd)] rfl
theorem Md(p:Um):Uj 208 [pr p] [.oi ((p.length:Int)-1)]:=by
 have h:Uj 208 [pr p] [.oi (((p.map G9).length:Int)-1)]:=Fx func208 rfl (ln 0 rfl rfl λhl=>Uf [] rfl rfl (by simp[U4]at hl ⊢;omega));rw[Q9]at h;exact h
theorem Om(i:Nat)(x:Int):(mono i x).length=i+1:=by simp[mono]
theorem BJ{s i:Nat}{x:Int}(h:Ff x<=s):Bd s (mono i x):=λz hz=>by
 simp only[mono,Qq,Qk]at hz;rcases hz with hz|rfl
 ·rw[(List.mem_replicate.1 hz).2,Nk];exact Qh _
 ·exact h
def stq(c:Int)(i:Nat)(x:Int)(q:Um):Um:=A8 (Fq q c) (mono i x)
def str(b:Um)(c:Int)(i:Nat)(x:Int)(r:Um):Um:=Nf (Fq r c) (Gm (trim (mono i x)) b)
theorem Qtk{u t i:Nat}{c x:Int}{q:Um}(hq:Bd u q)(hc:Ff c<=t)(hx:Ff x<=u):Bd (u+t+8) (stq c i x q) :=
 U6 (YY (Ge hq hc) (BJ hx)) (by omega)
theorem Qpd{c x:Int}{i:Nat}{q:Um}:(stq c i x q).length<=max q.length (i+1):=by
 have h:=Oi (Fq q c) (mono i x);have h1:=Fy q c;rw[Om]at h;unfold stq;omega
theorem yK{i:Nat}{x:Int}{b:Um}:(Gm (trim (mono i x)) b).length<=i+b.length:=by
 have h:=Tx (trim (mono i x)) b;have h1:=H9 (mono i x);rw[Om]at h1;omega
theorem lU{u t i:Nat}{x:Int}{b:Um}(hb:Bd t b)(hx:Ff x<=u)(hi:i<=64):Bd (u+t+7) (Gm (trim (mono i x)) b) :=
 Po (Tz (BJ hx)) hb (Z3 (H9 _) (by rw[Om];omega))
theorem pM{u t i:Nat}{c x:Int}{b r:Um}(hr:Bd u r)(hb:Bd t b)(hc:Ff c<=t)(hx:Ff x<=u)(hi:i<=64):Bd (u+t+8) (str b c i x r) :=
 U6 (Dx (Ge hr hc) (lU hb hx hi)) (by omega)
theorem yW{c x:Int}{i:Nat}{b r:Um}:(str b c i x r).length<=max r.length (i+b.length):=by
 have h:=Nm (Fq r c) (Gm (trim (mono i x)) b);have h1:=Fy r c;have h2:=yK (i:=i) (x:=x) (b:=b);unfold str;omega
theorem gA(i:Nat)(x:Int):((List.replicate (i+1) (0:Int)).map G9).set i (G9 x)=(mono i x).map G9:=by
 rw[cZ,mono];congr 1;refine Xm λj=>?_
 simp only[Yn,List.getElem?_append,Jz,Jg];by_cases h:j=i
 ·subst h;simp
 ·rw[if_neg (by omega)];by_cases h2:j<i
  ·simp[h2];omega
  ·rw[if_neg (by omega),if_neg h2];cases hj:j-i with
   |zero=>omega
   |succ m=>simp
theorem iS(i:Nat){x:Int}{y:Ur}(h:y.map FB=G9 x):(((List.replicate (i+1) [LV.bool false,LV.nils]).set i y).map λc=>c.map FB)=(mono i x).map G9:=by
 rw[Vu,NG,h];exact gA i x
theorem JP{b:Um}{c:Int}{i:Nat}{q r:Um}{x:Int}(hx:x=if r.length=b.length+i then Fu r else 0):tZ b c (i+1) (q,r)=tZ b c i (stq c i x q,str b c i x r):=by
 subst hx;rfl
theorem Qfe{a b:Um}(ha:Pb a)(hb:Pb b)(h0:b.length≠0):Uj 333 [pr a,pr b] [pr (tZ b (Fu b) (a.length+1-b.length) ([],a)).1,pr (Mg a b),.oi ((a.length+1-b.length:Nat):Int),.oi 0]:=by
 have hal:=ha.l;have hbl:=hb.l;have hlb:Ff (Fu b)<=16777216:=Nj hb.b;obtain⟨c,hc⟩:=nmE (Fu b);have cl:=Dy hb.t hb.ln hb.bd;rw[show b.getD (b.length-1) 0=c from hc.symm]at cl;obtain⟨k,hk⟩:=nmE (a.length+1-b.length);unfold Mg;rw[<-hc,<-hk];rw[<-hc]at hlb;refine Fx func333 rfl ?_;refine Ue [.z 4,.k (Hu ha.t ha.ln ha.bd),.k (Hu hb.t hb.ln hb.bd),.f (by simpa using h0),.k cl,.k (Md a),.k (Md b),.r 27 (eI (b:=(k:Int)) (by omega))] rfl ?_;refine Ui (S:=Nat×Um×Um) 1 (λL1 s=>(4,.v (pr s.2.1))::(5,.v (pr s.2.2))::(9,.v (.oi ((s.1:Int)-1)))::L1) (λ_=>[.blk 36 (G9 c)]) (λs=>s.1) (λs=>s.1<=k/\Fg s.2.2/\s.2.1.length<=66/\s.2.2.length<=a.length/\Bd (16777216+(k-s.1)*16777224) s.2.1/\Bd (16777216+(k-s.1)*16777224) s.2.2/\tZ b c s.1 s.2=tZ b c k ([],a)) (k,[],a) ⟨Ql _,ha.t,by simp,Ql _,KH,by simpa using ha.b,rfl⟩ rfl rfl λ⟨i,q,r⟩ ⟨j1,j2,j3,j4,j5,j6,j7⟩=>?_
 dsimp only at j1 j2 j3 j4 j5 j6 j7 ⊢;rw[<-j7];cases i with
 |zero=>exact Uf [.f (by simp)] rfl
 |
  succ i =>
  obtain⟨x,hx⟩:=nmE (if r.length=b.length+i then Fu r else 0);obtain⟨u,hu⟩:=nmE (16777216+(k-(i+1))*16777224);rw[<-hu]at j5 j6;have hub:u<=1107296256:=by
   have:(k-(i+1))*16777224<=64*16777224:=Q0 _ (by omega);omega
  have hxs:Ff x<=u:=by
   rw[hx];split
   ·exact Nj j6
   ·rw[Nk];exact Qh _
  have cs:=Sr (p:=q) (c:=c) (by omega) (U6 j5 (by omega)) (by omega);have cs2:=Sr (p:=r) (c:=c) (by omega) (U6 j6 (by omega)) (by omega);have l1:=Fy q c;have l2:=Fy r c;have ca:=BM (p:=Fq q c) (q:=mono i x) (by omega) (by rw[Om];omega) (U6 (Ge j5 hlb) (by omega)) (U6 (BJ hxs) (by omega));have cm:=jQ (p0:=mono i x) hb.t (by rw[Om];omega) (by omega) (BJ hxs) hb.b (by omega);have l3:=yK (i:=i) (x:=x) (b:=b);have cb:=HC (p:=Fq r c) (q:=Gm (trim (mono i x)) b) (by omega) (by omega) (U6 (Ge j6 hlb) (by omega)) (U6 (lU hb.b hxs (by omega)) (by omega));have hst:=JP (b:=b) (c:=c) (q:=q) hx;have hI:i<=k/\Fg (str b c i x r)/\(stq c i x q).length<=66/\(str b c i x r).length<=a.length/\Bd (16777216+(k-i)*16777224) (stq c i x q)/\Bd (16777216+(k-i)*16777224) (str b c i x r):=by
   have l5:=Qpd (c:=c) (x:=x) (i:=i) (q:=q);have l6:=yW (c:=c) (x:=x) (i:=i) (b:=b) (r:=r);have hku:u+16777216+8=16777216+(k-i)*16777224:=by
    rw[hu,show k-i=(k-(i+1))+1 from by omega,X5];omega
   refine⟨by omega,Fz _ _,by omega,by omega,?_,?_⟩
   ·rw[<-hku];exact Qtk j5 hlb hxs
   ·rw[<-hku];exact pM j6 hb.b hlb hxs (by omega)
  rw[hst];by_cases h:r.length=b.length+i
  ·refine Ue [.t (by simp <;> omega),.k (Md r),.k (Md b),.t (by simp;omega),.k (Dy j2 (by omega) (U6 j6 (by omega))),.r 44 (eI (b:=((i+1:Nat):Int)) (by omega)),.i (i+1),.i (i+1),.r 47 (eI (b:=(i:Int)) (by omega)),.i i] rfl ?_;refine nl 2 rfl rfl rfl ?_;rw[iS i (x:=x) (by rw[hx,if_pos h];rfl)];refine Ue [.k cs,.k ca,.k cs2,.k cm,.k cb,.r 33 (eI (b:=(i:Int)-1) (by omega))] rfl ?_;exact rd (i,stq c i x q,str b c i x r) (by dsimp only;omega) ⟨hI.1,hI.2.1,hI.2.2.1,hI.2.2.2.1,hI.2.2.2.2.1,hI.2.2.2.2.2,rfl⟩ rfl
  ·refine Ue [.t (by simp <;> omega),.k (Md r),.k (Md b),.f (by simp;omega),.r 44 (eI (b:=((i+1:Nat):Int)) (by omega)),.i (i+1),.i (i+1),.r 47 (eI (b:=(i:Int)) (by omega)),.i i] rfl ?_;refine nl 2 rfl rfl rfl ?_;rw[iS i (x:=x) (by rw[hx,if_neg h,Lo];rfl)];refine Ue [.k cs,.k ca,.k cs2,.k cm,.k cb,.r 33 (eI (b:=(i:Int)-1) (by omega))] rfl ?_;exact rd (i,stq c i x q,str b c i x r) (by dsimp only;omega) ⟨hI.1,hI.2.1,hI.2.2.1,hI.2.2.2.1,hI.2.2.2.2.1,hI.2.2.2.2.2,rfl⟩ rfl
theorem Qj1{b:Um}{c:Int}(hb:Bd 16777216 b)(hc:Ff c<=16777216){n:Nat}:∀(i u:Nat) (q r:Um),i<=64->i+b.length<=n+1->Fg r->r.length<=n->Bd u r->Fg (tZ b c i (q,r)).2/\(tZ b c i (q,r)).2.length<=n/\Bd (u+i*16777224) (tZ b c i (q,r)).2
 | 0,u,q,r,_,_,h1,h2,h3=>⟨h1,h2,by simpa[tZ]using h3⟩
 |
  i+1,u,q,r,hi,hn,h1,h2,h3=>by
  rw[JP rfl];have hx:Ff (if r.length=b.length+i then Fu r else 0)<=u:=by
   split
   ·exact Nj h3
   ·rw[Nk];exact Qh _
  have l6:=yW (c:=c) (x:=if r.length=b.length+i then Fu r else 0) (i:=i) (b:=b) (r:=r);have:=Qj1 hb hc (n:=n) i (u+16777216+8) (stq c i (if r.length=b.length+i then Fu r else 0) q) (str b c i (if r.length=b.length+i then Fu r else 0) r) (by omega) (by omega) (Fz _ _) (by omega) (pM h3 hb hc hx (by omega));exact⟨this.1,this.2.1,U6 this.2.2 (by omega)⟩
theorem oS{a b:Um}(ha:Pb a)(hb:Pb b)(h0:b.length≠0):Fg (Mg a b)/\(Mg a b).length<=a.length/\Bd 1107296256 (Mg a b):=by
 have hal:=ha.l;by_cases h:b.length<=a.length+1
 ·obtain⟨h1,h2,h3⟩:=Qj1 hb.b (Nj hb.b) (n:=a.length) (a.length+1-b.length) 16777216 [] a (by omega) (by omega) ha.t (Ql _) ha.b;refine⟨h1,h2,U6 h3 ?_⟩;have:(a.length+1-b.length)*16777224<=64*16777224:=Q0 _ (by omega);omega
 ·have e:Mg a b=a:=by unfold Mg;rw[show a.length+1-b.length=0 from by omega];rfl
  rw[e];exact⟨ha.t,Ql _,U6 ha.b (by omega)⟩
theorem GW{a b r:Um}{s n:Nat}(h1:Fg r)(h2:r.length<=n)(h3:Bd s r):Fg (B7 a b r)/\(B7 a b r).length<=n/\Bd s (B7 a b r):=by
 unfold B7;split
 ·exact⟨Fz _ _,Qa (XI r) h2,MK h3⟩
 ·exact⟨h1,h2,h3⟩
theorem EK{r:Um}{s n:Nat}(h2:r.length<=n)(h3:Bd s r):Fg (KY r)/\(KY r).length<=n/\Bd s (KY r):=by
 unfold KY;split
 ·exact⟨rfl,by simp,KH⟩
 ·exact⟨ZK _ _,Qa (qG _ _) h2,BV h3 _⟩
theorem GV{a b:Um}(ha:Pb a)(hb:Pb b)(h0:b.length≠0):Fg (Tc a b)/\(Tc a b).length<=a.length/\Bd 1107296256 (Tc a b):=by
 obtain⟨h1,h2,h3⟩:=oS ha hb h0;obtain⟨h4,h5,h6⟩:=GW (a:=a) (b:=b) h1 h2 h3;exact EK h5 h6
theorem Qfj{a b:Um}(ha:Pb a)(hb:Pb b)(h0:b.length≠0):Uj 312 [pr a,pr b] [pr (Tc a b),.oi 0]:=by
 obtain⟨h1,h2,h3⟩:=oS ha hb h0;obtain⟨h4,h5,h6⟩:=GW (a:=a) (b:=b) h1 h2 h3;have hal:=ha.l;have cp:=Qfe ha hb h0;have cl:=Dy hb.t hb.ln hb.bd;have cn:=Qfa (p:=Mg a b) (by omega) (U6 h3 (by omega));unfold Tc;obtain⟨r,hr⟩:=nmE (B7 a b (Mg a b));have cc:=HB (p:=r) (by rw[hr];omega) (by rw[hr];exact U6 h6 (by omega));rw[<-hr]at h4 h5 h6 ⊢;obtain⟨k,hk⟩:=nmE (a.length+1-b.length);rw[<-hk]at cp;have em:((k:Int).tmod 2)=((k % 2:Nat):Int):=by rw[Y5 (by omega)];omega
 have key:KY r=if r.length=0 then []else Di r (Pn r):=rfl
 by_cases hz:r.length=0
 ·rw[key,if_pos hz];by_cases hodd:k % 2=1
  ·by_cases hneg:Fu b<0
   ·have e:r=My (Mg a b):=by rw[hr];unfold B7;rw[if_pos ⟨by rw[<-hk];exact hodd,hneg⟩]
    rw[e]at hz;exact Ug func312 rfl [.k cp,.f (by simp),.r 22 (eI em),.t (by simp;omega),.k cl,.t (by simpa[Fu]using hneg),.k cn,.t (by simpa using hz)] rfl rfl (by simp[U4])
   ·have e:r=Mg a b:=by rw[hr];unfold B7;rw[if_neg (λh=>hneg h.2)]
    rw[e]at hz;exact Ug func312 rfl [.k cp,.f (by simp),.r 22 (eI em),.t (by simp;omega),.k cl,.f (by simpa[Fu]using hneg),.t (by simpa using hz)] rfl rfl (by simp[U4])
  ·have e:r=Mg a b:=by rw[hr];unfold B7;rw[if_neg (λh=>hodd (by rw[hk];exact h.1))]
   rw[e]at hz;exact Ug func312 rfl [.k cp,.f (by simp),.r 22 (eI em),.f (by simp;omega),.f rfl,.t (by simpa using hz)] rfl rfl (by simp[U4])
 ·rw[key,if_neg hz];have cd:=lI (p:=r) (g:=Pn r) (by omega) (U6 h6 (by omega)) (YD (U6 h6 (by omega))) (JF h4 hz) Aa;by_cases hodd:k % 2=1
  ·by_cases hneg:Fu b<0
   ·have e:r=My (Mg a b):=by rw[hr];unfold B7;rw[if_pos ⟨by rw[<-hk];exact hodd,hneg⟩]
    rw[e]at hz cc cd ⊢;exact Ug func312 rfl [.k cp,.f (by simp),.r 22 (eI em),.t (by simp;omega),.k cl,.t (by simpa[Fu]using hneg),.k cn,.f (by simpa using hz),.k cc,.k cd] rfl rfl (by simp[U4])
   ·have e:r=Mg a b:=by rw[hr];unfold B7;rw[if_neg (λh=>hneg h.2)]
    rw[e]at hz cc cd ⊢;exact Ug func312 rfl [.k cp,.f (by simp),.r 22 (eI em),.t (by simp;omega),.k cl,.f (by simpa[Fu]using hneg),.f (by simpa using hz),.k cc,.k cd] rfl rfl (by simp[U4])
  ·have e:r=Mg a b:=by rw[hr];unfold B7;rw[if_neg (λh=>hodd (by rw[hk];exact h.1))]
   rw[e]at hz cc cd ⊢;exact Ug func312 rfl [.k cp,.f (by simp),.r 22 (eI em),.f (by simp;omega),.f rfl,.f (by simpa using hz),.k cc,.k cd] rfl rfl (by simp[U4])
theorem Qpb{s:Nat}{x:Int}(h:Ff x<=s)(g:Int):Ff (x / g)<=s:=HM (p:=[x]) (λz hz=>by rw[Qk.1 hz];exact h) g _ (by simp)
def sta(b:Um)(i:Nat)(x:Int)(a:Um):Um:=Nf a (Gm (trim (mono i x)) b)
theorem Qtj{u t i:Nat}{x:Int}{b a:Um}(ha:Bd u a)(hb:Bd t b)(hx:Ff x<=u)(hi:i<=64):Bd (u+t+8) (sta b i x a) :=
 U6 (Dx ha (lU hb hx hi)) (by omega)
theorem iK{x:Int}{i:Nat}{b a:Um}:(sta b i x a).length<=max a.length (i+b.length):=by
 have h:=Nm a (Gm (trim (mono i x)) b);have h2:=yK (i:=i) (x:=x) (b:=b);unfold sta;omega
theorem Qmx(s n:Nat):Bd s (List.replicate n 0):=λz hz=>by rw[(List.mem_replicate.1 hz).2,Nk];exact Qh _
theorem Qti{s i:Nat}{l:Um}{x:Int}(h:Bd s l)(hx:Ff x<=s):Bd s (l.set i x):=λz hz=>by
 rcases Jp hz with hz|rfl
 ·exact h z hz
 ·exact hx
theorem Qe8{a b q:Um}(ha:Pb a)(hb:Pb b)(h:JS a b=some q):Uj 349 [pr a,pr b] [pr q,.oi 0]:=by
 unfold JS at h
 split at h
 ·cases h
 rename_i h0;obtain⟨k,hk⟩:=nmE (a.length+1-b.length);rw[<-hk]at h;obtain⟨q',hq,hq2⟩:=Qd.1 h;obtain⟨rfl,hpb⟩:=QS (Rt _) hq2;have hal:=ha.l;have hbl:=hb.l;refine Fx func349 rfl ?_;refine Ue [.k (Hu ha.t ha.ln ha.bd),.k (Hu hb.t hb.ln hb.bd),.f (by simpa using h0),.r 24 (eI (b:=(k:Int)) (by simp;omega)),.i k,.i k,.r 27 (eI (b:=(k:Int)) (by simp))] rfl ?_;refine nl 0 rfl rfl rfl ?_;rw[NG];refine Ui (S:=Nat×Um×Um) 1 (λL1 s=>(0,.v (pr s.2.1))::(7,.v (.oi ((s.1:Int)-1)))::L1) (λs=>[.row false 36 2 (s.2.2.map G9)]) (λs=>s.1) (λs=>s.1<=k/\Fg s.2.1/\s.2.1.length<=a.length/\Bd (16777216+(k-s.1)*16777224) s.2.1/\s.2.2.length=k/\Bd 1107296256 s.2.2/\vX b s.1 s.2.1 s.2.2=some q') (k,a,List.replicate k 0) ⟨Ql _,ha.t,Ql _,by simpa using ha.b,by simp,Qmx _ _,hq⟩ rfl rfl λ⟨i,A,Q⟩ ⟨j1,j2,j3,j4,j5,j7,j6⟩=>?_
 dsimp only at j1 j2 j3 j4 j5 j6 j7 ⊢;cases i with
 |
  zero =>
  simp only[vX]at j6
  split at j6
  ·rename_i hA;injection j6 with j6;subst j6;exact Uf [.f (by simp),.f (by simpa using hA),.k (Ci (Gf Q) (by omega) (U6 j7 (by omega)))] rfl
  ·cases j6
 |
  succ i =>
  obtain⟨u,hu⟩:=nmE (16777216+(k-(i+1))*16777224);rw[<-hu]at j4;have hub:u<=1107296256:=by
   have:(k-(i+1))*16777224<=64*16777224:=Q0 _ (by omega);omega
  have hku:u+16777216+8=16777216+(k-i)*16777224:=by
   rw[hu,show k-i=(k-(i+1))+1 from by omega,X5];omega
  simp only[vX]at j6;by_cases hlt:A.length<b.length+i
  ·rw[if_pos hlt]at j6;refine Ue [.t (by simp <;> omega),.k (Md A),.k (Md b),.t (by simp;omega),.r 32 (eI (b:=(i:Int)-1) (by omega))] rfl ?_;exact rd (i,A,Q) (by dsimp only;omega) ⟨by dsimp only;omega,j2,j3,U6 j4 (by dsimp only;omega),j5,j7,j6⟩ rfl
  ·rw[if_neg hlt]at j6
   split at j6
   ·rename_i hdv;obtain⟨x,hx⟩:=nmE (Fu A / Fu b);rw[<-hx]at j6;have hxs:Ff x<=u:=by rw[hx];exact Qpb (Nj j4) _
    have ce:=Ic (U5 (Fu A)) (U5 (Fu b)) (Qa (Nj j4) (by omega)) (Qa (Nj hb.b) (by omega)) (Et hb.t h0) hdv;rw[<-hx]at ce;have cm:Uj 266 [.one (.row ((mono i x).map G9)),pr b] [pr (Gm (trim (mono i x)) b)]:=jQ (p0:=mono i x) hb.t (by rw[Om];omega) (by omega) (BJ hxs) hb.b (by omega);have l3:=yK (i:=i) (x:=x) (b:=b);have l4:=iK (i:=i) (x:=x) (b:=b) (a:=A);have cb:=HC (p:=A) (q:=Gm (trim (mono i x)) b) (by omega) (by omega) (U6 j4 (by omega)) (U6 (lU hb.b hxs (by omega)) (by omega));refine Ue [.t (by simp <;> omega),.k (Md A),.k (Md b),.f (by simp;omega),.k (Dy j2 (by omega) (U6 j4 (by omega))),.k (Dy hb.t hb.ln hb.bd),.k ce,.f rfl,.r 51 (eI (b:=(i:Int)) (by omega)),.i i,.r 55 (eI (b:=((i+1:Nat):Int)) (by omega)),.i (i+1),.i (i+1),.r 58 (eI (b:=(i:Int)) (by omega))] rfl ?_;refine nl 2 rfl rfl rfl ?_;rw[NG,cZ];rw[<-gA i x]at cm;refine Ue [.i i,.k cm,.k cb,.r 32 (eI (b:=(i:Int)-1) (by omega))] rfl ?_;exact rd (i,sta b i x A,Q.set i x) (by dsimp only;omega) ⟨by dsimp only;omega,Fz _ _,by dsimp only;omega,by dsimp only;rw[<-hku];exact Qtj j4 hb.b hxs (by omega),by simpa using j5,Qti j7 (Nat.le_trans hxs hub),j6⟩ rfl
   ·cases j6
theorem bO{a b q:Um}(h:JS a b=some q):Pb q:=by
 unfold JS at h
 split at h
 ·cases h
 ·obtain⟨q',_,hq2⟩:=Qd.1 h;obtain⟨rfl,hpb⟩:=QS (Rt _) hq2;exact hpb
theorem Qgh{a b q:Um}(ha:Pb a)(hb:Pb b)(h:JS a b=some q):Uj 338 [pr a,pr b] [pr q] :=
 Ug func338 rfl [.k (Qe8 ha hb h)] rfl
theorem kY:∀{k:Nat} {a b g:Um},Pb a->Pb b->TA k a b=some g->Pb g
 | 0,_,_,_,_,_,h=>by cases h
 |
  k+1,a,b,g,ha,hb,h=>by
  simp only[TA]at h
  split at h
  ·injection h with h;subst h;exact ha
  ·rename_i h0;obtain⟨r,hr,h⟩:=Qd.1 h;obtain⟨rfl,hpb⟩:=QS (GV ha hb h0).1 hr;exact kY hb hpb h
theorem eG{a b g:Um}(ha:Pb a)(hb:Pb b)(h:JM a b=some g):Uj 272 [pr a,pr b] [pr g]:=by
 unfold JM at h;obtain⟨g',h2,rfl⟩:=Yx.1 h;have hg:=kY (Rz ha) (Rz hb) h2;refine Fx func272 rfl ?_;refine Ud [.k (Ie ha),.k (Ie hb)] rfl ?_;refine Ui (S:=Nat×Um×Um) 0 (λL1 s=>(0,.v (pr s.2.1))::(1,.v (pr s.2.2))::L1) (λ_=>[]) (λs=>s.1) (λs=>Pb s.2.1/\Pb s.2.2/\TA s.1 s.2.1 s.2.2=some g') (66,Fj a,Fj b) ⟨Rz ha,Rz hb,h2⟩ rfl rfl λ⟨k,A,C⟩ ⟨j1,j2,j3⟩=>?_
 dsimp only at j1 j2 j3 ⊢;cases k with
 |zero=>cases j3
 |
  succ k =>
  simp only[TA]at j3
  split at j3
  ·rename_i h0;injection j3 with j3;subst j3;exact Uf [.f (by simpa using h0),.k (Ie j1)] rfl
  ·rename_i h0;obtain⟨r,hr,j3⟩:=Qd.1 j3;obtain⟨rfl,hpb⟩:=QS (GV j1 j2 h0).1 hr;refine Ud [.t (by simp;omega),.k (Qfj j1 j2 h0)] rfl ?_;exact rd (k,C,Tc A C) (by dsimp only;omega) ⟨j2,hpb,j3⟩ rfl
theorem TU{a b g:Um}(ha:Pb a)(hb:Pb b)(h:JM a b=some g):Pb g:=by
 unfold JM at h;obtain⟨g',h2,rfl⟩:=Yx.1 h;exact Rz (kY (Rz ha) (Rz hb) h2)
theorem Qe9{a b g:Um}(ha:Pb a)(hb:Pb b)(h:vY a b=some g):Uj 227 [.one (.row (Pj [a,b]))] [pr g]:=by
 unfold vY at h;obtain⟨g1,h1,h2⟩:=Qd.1 h;have hg1:=TU TK ha h1;refine Fx func227 rfl ?_;refine Ud [.z 3] rfl ?_;refine Ui (S:=Nat) 0 (λL1 i=>(8,.v (.oi i))::(3,.v (pr (if i=0 then []else if i=1 then g1 else g)))::L1) (λ_=>[]) (λi=>2-i) (λi=>i<=2) 0 (Qh _) rfl rfl λi hi=>?_
 rcases(show i=0\/i=1\/i=2 by omega)with rfl|rfl|rfl
 ·refine Ud [.t rfl,.x (Rr (i:=0) (p:=a) rfl),.k (eG TK ha h1)] rfl ?_ (by simp[U4]);exact rd 1 (by omega) (by omega) rfl
 ·refine Ud [.t rfl,.x (Rr (i:=1) (p:=b) rfl),.k (eG hg1 hb h2)] rfl ?_ (by simp[U4]);exact rd 2 (by omega) (by omega) rfl
 ·exact Uf [.f rfl] rfl
theorem Qjo{a b g:Um}(ha:Pb a)(hb:Pb b)(h:vY a b=some g):Pb g:=by
 unfold vY at h;obtain⟨g1,h1,h2⟩:=Qd.1 h;exact TU (TU TK ha h1) hb h2
theorem EQ{p d:Um}(h:OX (Gx p)=some d):d=Gx p/\Pb (Gx p):=QS (Fz _ _) h
theorem BC{a g:Um}(ha:Pb a)(h:Pw a=some g):Uj 318 [pr a] [pr g]:=by
 have hp:=Rz ha;unfold Pw at h
 split at h
 ·rename_i h0;injection h with h;subst h;exact Ug func318 rfl [.k (Ie ha),.k (Md _),.t (by simp;omega)] rfl
 ·rename_i h0;obtain⟨d,h1,h⟩:=Qd.1 h;obtain⟨rfl,hd⟩:=EQ h1;obtain⟨g1,h1,h⟩:=Qd.1 h;exact Ug func318 rfl [.k (Ie ha),.k (Md _),.f (by simp;omega),.k (I6 hp.ln hp.bd),.k (eG hp hd h1),.k (Qgh hp (TU hp hd h1) h)] rfl
theorem TW{a g:Um}(ha:Pb a)(h:Pw a=some g):Pb g:=by
 unfold Pw at h
 split at h
 ·injection h with h;subst h;exact Rz ha
 ·obtain⟨d,h1,h⟩:=Qd.1 h;obtain⟨g1,h1,h⟩:=Qd.1 h;exact bO h
theorem Qjp{p:Um}(h:Pb p):Pb (My p):=⟨Fz _ _,Qa (XI p) h.l,MK h.b⟩
theorem mL:∀{k:Nat} {a b:Um} {l:Un},Pb a->Pb b->pZ k a b=some l->l.length≤k/\∀p∈l,Pb p
 | 0,_,_,_,_,_,h=>by cases h
 |
  k+1,a,b,l,ha,hb,h=>by
  simp only[pZ]at h
  split at h
  ·injection h with h;subst h;exact⟨by simp,λp hp=>by cases hp⟩
  ·rename_i h0;obtain⟨r,hr,h⟩:=Qd.1 h;obtain⟨rfl,hpb⟩:=QS (GV ha hb h0).1 hr;obtain⟨l',h1,h⟩:=Qd.1 h;injection h with h;subst h;obtain⟨i1,i2⟩:=mL hb (Qjp hpb) h1;refine⟨by simp;exact i1,λp hp=>?_⟩;rcases Qn.1 hp with rfl|hp
   ·exact hb
   ·exact i2 p hp
theorem chain_ok{p:Um}{l:Un}(hp:Pb p)(h:Eg p=some l):l.length≤67/\∀q∈l,Pb q:=by
 unfold Eg at h;obtain⟨a,h1,h⟩:=Qd.1 h;have ha:=TW hp h1
 split at h
 ·cases h
 ·obtain⟨d,h2,h⟩:=Qd.1 h;obtain⟨rfl,hd⟩:=EQ h2;obtain⟨l',h3,h⟩:=Qd.1 h;injection h with h;subst h;obtain⟨i1,i2⟩:=mL ha (Rz hd) h3;refine⟨by simp;omega,λp hp=>?_⟩;rcases Qn.1 hp with rfl|hp
  ·exact ha
  ·exact i2 p hp
theorem EV(l:Un)(p:Um):Pj l++[[pl p]]=Pj (l++[p]):=by simp[Pj]
theorem Ab(l:Un):(Pj l).length=l.length:=by simp[Pj]
theorem Qfm{p:Um}{l:Un}(hp:Pb p)(h:Eg p=some l):Uj 281 [pr p] [.one (.sh [.row (Pj l)]),.oi 0]:=by
 unfold Eg at h;obtain⟨a,h1,h⟩:=Qd.1 h;have ha:=TW hp h1
 split at h
 ·cases h
 rename_i h0;obtain⟨d,h2,h⟩:=Qd.1 h;obtain⟨rfl,hd⟩:=EQ h2;obtain⟨l',h3,h⟩:=Qd.1 h;injection h with h;subst h;refine Fx func281 rfl ?_;refine Ud [.k (BC hp h1),.f (by simpa using h0),.lo,.k (I6 ha.ln ha.bd),.k (Qgc hd.t hd.ln' hd.bd)] rfl ?_ (by simp[U4]);obtain⟨z,hz⟩:=nmE (if (Gx a).length=0 then 0 else Hp (Gx a));rw[<-hz];refine sb [(4,.v (pr a)),(7,.v (pr (Fj (Gx a)))),(5,.v (.one (.ow 1 0)))] [.row false 33 1 [[pl a]],.blk 369 [.orow 0 1 none],.blk 36 (G9 z)] rfl rfl ?_;have hll:=(mL ha (Rz hd) h3).1;refine Ui (S:=Nat×Un×Um×Um) 3 (λL1 s=>(4,.v (pr s.2.2.1))::(7,.v (pr s.2.2.2))::L1) (λs=>[.row false 33 1 (Pj s.2.1),.blk 369 [.orow 0 1 none],.blk 36 (G9 z)]) (λs=>s.1) (λs=>Pb s.2.2.1/\Pb s.2.2.2/\∃m,pZ s.1 s.2.2.1 s.2.2.2=some m/\s.2.1++m=a::l') (66,[a],a,Fj (Gx a)) ⟨ha,Rz hd,l',h3,rfl⟩ rfl rfl λ⟨k,out,A,C⟩ ⟨j1,j2,m,j3,j4⟩=>?_
 dsimp only at j1 j2 j3 j4 ⊢;have hol:out.length<=67:=by have:=congrArg List.length j4;simp at this;omega
 cases k with
 |zero=>cases j3
 |
  succ k =>
  simp only[pZ]at j3
  split at j3
  ·rename_i h0;injection j3 with j3;subst j3;rw[Zw]at j4;rw[<-j4];exact Uf [.f (by simpa using h0)] rfl
  ·rename_i h0;obtain⟨r,hr,j3⟩:=Qd.1 j3;obtain⟨rfl,hpb⟩:=QS (GV j1 j2 h0).1 hr;obtain⟨m',j6,j5⟩:=Qd.1 j3;injection j5 with j5;subst j5;refine go tt [.t (by simp;omega),.s (sz:=1) (λc hc=>by rw[Qk.1 hc];rfl),.k (Qfj j1 j2 h0),.k (Qfa hpb.ln hpb.bd)] rfl (by simp[U4,Ab];omega) ?_;exact rd (k,out++[C],C,My (Tc A C)) (by dsimp only;omega) ⟨j2,Qjp hpb,m',j6,by rw[<-j4];simp⟩ (by rw[EV];rfl)
structure Tb(t:Tm):Prop where
 p:Pb t.p
 lo:Qb t.lo
 hi:Qb t.hi
theorem aQ(x y:Int):-1<=Ld x y/\Ld x y<=1:=by unfold Ld;split <;> (try split) <;> omega
theorem QP(a b:Rat):-1<=Hf a b/\Hf a b<=1:=aQ _ _
theorem O4(p:Um)(q:Rat):-1<=Re p q/\Re p q<=1:=aQ _ _
theorem bY(p:Um)(q:Rat):-1<=low p q/\low p q<=1:=by unfold low;split <;> exact O4 _ _
theorem Qb.s31{q:Rat}(h:Qb q):Qs 2147483647 q:=h.mono (by decide)
theorem Qb.s32{q:Rat}(h:Qb q):Qs 4294967295 q:=h.mono (by decide)
theorem PC{p:Um}{q:Rat}(hp:Pb p)(hq:Qb q):Uj 270 [pr p,.agg (rl q)] [.oi (Re p q)]:=by
 have hm:p.length*(16777216+1)<=64*16777217:=Q0 _ hp.l;exact lS hp.t hp.ln hp.b hq (by omega)
theorem Qx6{p:Um}{q:Rat}(hp:Pb p)(hq:Qb q):Uj 270 [pr (Gx p),.agg (rl q)] [.oi (Re (Gx p) q)]:=by
 have hl:=Qa (Nl p) (show p.length-1<=64 by have:=hp.l;omega);have hm:(Gx p).length*(16777216+1)<=64*16777217:=Q0 _ hl;exact lS (Fz _ _) (Z3 hl (by omega)) (xB (t:=6) hp.b hp.l) hq (by omega)
theorem Lc{t:Tm}(ht:Tb t):Uj 225 [.agg (ta t)] [.one (.bool t.point)] :=
 Ug func225 rfl [.k (Ck ht.lo.s31 ht.hi.s31)] rfl
theorem MR{t:Tm}(ht:Tb t):Uj 224 [.agg (ta t)] [.agg (ta t)] :=
 Ug func224 rfl [.k (Hu ht.p.t ht.p.ln ht.p.bd),.k (Nz ht.lo.s32),.k (Nz ht.hi.s32)] rfl
theorem Qgo{t:Tm}(ht:Tb t):Uj 163 [.agg (ta t)] [.agg (ta t)]:=Ug func163 rfl [.k (MR ht)] rfl
theorem Qf6{p:Um}{q:Rat}(hp:Pb p)(hq:Qb q):Uj 271 [pr p,.agg (rl q)] [.oi (low p q)]:=by
 unfold low;by_cases h:Re p q=0
 ·rw[if_neg (by simpa using h)];exact Ug func271 rfl [.k (PC hp hq),.f (by simpa using h),.k (I6 hp.ln hp.bd),.k (Qx6 hp hq)] rfl
 ·rw[if_pos h];exact Ug func271 rfl [.k (PC hp hq),.t (by simpa using h)] rfl
theorem Qf4{p:Um}{lo hi:Rat}(hp:Pb p)(hl:Qb lo)(hh:Qb hi):Uj 228 [pr p,.agg (rl lo),.agg (rl hi)] [.one (.bool (FW p lo hi))]:=by
 by_cases h:Re p hi=0
 ·exact Ug func228 rfl [.k (PC hp hh),.t (by simpa using h)] rfl (by simp[FW,h]) trivial
 ·exact Ug func228 rfl [.k (PC hp hh),.f (by simpa using h),.k (Qf6 hp hl)] rfl (by simp[FW,h]) trivial
theorem Dn{t:Tm}{q:Rat}(ht:Tb t)(hq:Qb q):Uj 226 [.agg (ta t),.agg (rl q)] [.oi (Ft t q)]:=by
 have cp:=Lc ht;unfold Ft;by_cases h1:t.point=true
 ·rw[if_pos h1];exact Ug func226 rfl [.k cp,.t h1,.k (Ck ht.lo.s31 hq.s31)] rfl
 rw[if_neg h1];have h1:t.point=false:=by simpa using h1
 have c1:=Ck hq.s31 ht.lo.s31;have c2:=Ck hq.s31 ht.hi.s31;by_cases h2:Hf q t.lo<=0
 ·rw[if_pos h2];exact Ug func226 rfl [.k cp,.f h1,.k c1,.t (by simpa using h2)] rfl
 rw[if_neg h2];by_cases h3:0<Hf q t.hi
 ·rw[if_pos h3];exact Ug func226 rfl [.k cp,.f h1,.k c1,.f (by simpa using h2),.k c2,.t (by simpa using h3)] rfl
 rw[if_neg h3];by_cases h4:Re t.p q=0
 ·rw[if_pos h4];exact Ug func226 rfl [.k cp,.f h1,.k c1,.f (by simpa using h2),.k c2,.f (by simpa using h3),.k (PC ht.p hq),.t (by simpa using h4)] rfl
 rw[if_neg h4];by_cases h5:Re t.p q=low t.p t.lo
 ·rw[if_pos h5];exact Ug func226 rfl [.k cp,.f h1,.k c1,.f (by simpa using h2),.k c2,.f (by simpa using h3),.k (PC ht.p hq),.f (by simpa using h4),.k (Qf6 ht.p ht.lo),.t (by simpa using h5)] rfl
 ·rw[if_neg h5];exact Ug func226 rfl [.k cp,.f h1,.k c1,.f (by simpa using h2),.k c2,.f (by simpa using h3),.k (PC ht.p hq),.f (by simpa using h4),.k (Qf6 ht.p ht.lo),.f (by simpa using h5)] rfl
theorem Qoj(t:Tm)(q:Rat):-1<=Ft t q/\Ft t q<=1:=by
 unfold Ft;have:=QP t.lo q
 repeat' split
 all_goals omega
theorem Qoq(q:Rat):0<(q.den:Int):=by have:=q.den_pos;omega
theorem Qr3{a b:Rat}(ha:Qb a)(hb:Qb b):Uj 314 [.agg (rl a),.agg (rl b)] [.agg (rl (mid a b))]:=by
 have h1:Ff (a.num*(b.den:Int))<=33554432:=Qa (Ga _ _) (by have:=ha.1;have:=hb.2;omega);have h2:Ff (b.num*(a.den:Int))<=33554432:=Qa (Ga _ _) (by have:=hb.1;have:=ha.2;omega);have h3:Ff ((a.den:Int)*(b.den:Int))<=33554432:=Qa (Ga _ _) (by have:=ha.2;have:=hb.2;omega);have h4:Ff (2:Int)<=2:=by decide
 have h5:Ff (a.num*(b.den:Int)+b.num*(a.den:Int))<=33554433:=Qa (QA _ _) (by omega);have h6:Ff ((a.den:Int)*(b.den:Int)*2)<=33554434:=Qa (Ga _ _) (by omega);have h0:(a.den:Int)*(b.den:Int)*2≠0:=by
  have:=Int.mul_pos (Qoq a) (Qoq b);omega
 exact Ug func314 rfl [.k (jY ha.s31 hb.s31),.k (KB (U5 _) (U5 _) (by omega) (by omega)),.k (BP (z:=2) (by decide)),.k (Pp (U5 _) (U5 _) (by omega) (by omega)),.k (XX h0 (by omega) (by omega))] rfl
theorem jU{a b:Rat}(ha:Qb a)(hb:Qb b):Uj 274 [.agg (rl a),.agg (rl b)] [.agg (rl (EB a b))]:=by
 have h1:Ff (a.num*(b.den:Int))<=33554432:=Qa (Ga _ _) (by have:=ha.1;have:=hb.2;omega);have h2:Ff (b.num*(a.den:Int))<=33554432:=Qa (Ga _ _) (by have:=hb.1;have:=ha.2;omega);have h3:Ff ((a.den:Int)*(b.den:Int))<=33554432:=Qa (Ga _ _) (by have:=ha.2;have:=hb.2;omega);have h5:Ff (a.num*(b.den:Int)-b.num*(a.den:Int))<=33554433:=Qa (yV _ _) (by omega);have h0:(a.den:Int)*(b.den:Int)≠0:=by
  have:=Int.mul_pos (Qoq a) (Qoq b);omega
 exact Ug func274 rfl [.k (jY ha.s31 hb.s31),.k (Qfx (U5 _) (U5 _) (by omega) (by omega)),.k (XX h0 (by omega) (by omega))] rfl
theorem CW{q r:Rat}(h:chq q=some r):r=q/\Qb q:=by
 unfold chq at h
 split at h
 ·rename_i hc;injection h with h;exact⟨h.symm,hc⟩
 ·cases h
theorem mT{t u:Tm}(ht:Tb t)(h:yQ t=some u):Uj 275 [.agg (ta t)] [.agg (ta u)]:=by
 have cp:=Lc ht;unfold yQ at h
 split at h
 ·rename_i h1;injection h with h;subst h;exact Ug func275 rfl [.k cp,.t h1] rfl
 ·rename_i h1;have h1:t.point=false:=by simpa using h1
  obtain⟨m,hm0,h⟩:=Qd.1 h;obtain⟨rfl,hm⟩:=CW hm0;injection h with h;subst h;have cm:=Qr3 ht.lo ht.hi;have cc:=Dn ht hm;by_cases h2:Ft t (mid t.lo t.hi)=0
  ·rw[if_pos h2];exact Ug func275 rfl [.k cp,.f h1,.k cm,.k cc,.t (by simpa using h2)] rfl
  rw[if_neg h2];by_cases h3:Ft t (mid t.lo t.hi)=-1
  ·rw[if_pos h3];exact Ug func275 rfl [.k cp,.f h1,.k cm,.k cc,.f (by simpa using h2),.t (by simpa using h3)] rfl
  ·rw[if_neg h3];exact Ug func275 rfl [.k cp,.f h1,.k cm,.k cc,.f (by simpa using h2),.f (by simpa using h3)] rfl
theorem vA{t u:Tm}(ht:Tb t)(h:yQ t=some u):Tb u:=by
 unfold yQ at h
 split at h
 ·injection h with h;subst h;exact ht
 ·obtain⟨m,hm0,h⟩:=Qd.1 h;obtain⟨rfl,hm⟩:=CW hm0;injection h with h;subst h
  repeat' split
  ·exact⟨ht.p,hm,hm⟩
  ·exact⟨ht.p,ht.lo,hm⟩
  ·exact⟨ht.p,hm,ht.hi⟩
theorem QU{z:Int}(h:Ff z<=4294967296):Uj 267 [.one (mg z)] [.oi (Ff z:Int)]:=by
 have h1:=mQ (l:=Gd z.natAbs) (Lv _) (by rw[Ha];exact h);rw[Ha]at h1;exact h1
theorem EH{p:Um}{i:Nat}{z:Int}(h:p[i]? = some z):Hb (p.take (i+1))=max (Hb (p.take i)) (Ff z):=by
 unfold Hb;rw[List.take_succ,h,Option.toList_some,List.foldl_append];rfl
theorem Mk{p:Um}{s:Nat}(h:Bd s p):∀i,Hb (p.take i)<=s
 | 0=>by simp[Hb]
 |
  i+1=>by
  cases hz:p[i]? with
  |
   none =>
   rw[Qm (by have:=Jo.1 hz;omega),<-Qm (l:=p) (i:=i) (by have:=Jo.1 hz;omega)];exact Mk h i
  |some z=>rw[EH hz];have:=Mk h i;have:=Qel h hz;omega
theorem jF{p:Um}(hp:Pb p):Uj 313 [pr p] [.oi (Hb p:Int)]:=by
 have hl:=hp.l;refine Fx func313 rfl ?_;refine Ud [] rfl ?_;refine Ui (S:=Nat) 0 (λL1 i=>(8,.v (.oi i))::(3,.v (.oi (Hb (p.take i):Int)))::L1) (λ_=>[]) (λi=>p.length-i) (λi=>i<=p.length) 0 (Qh _) rfl rfl λi hi=>?_
 by_cases hlt:i<p.length
 ·have hg:=Rj hlt;have hz:=Fv hp.b i;have hs:=EH hg;refine Ue [.t (by simp;omega),.x (Pi hg),.k (QU (by omega)),.r 16 (eI (b:=(Hb (p.take (i+1)):Int)) (by rw[hs];omega))] rfl ?_;exact rd (i+1) (by omega) hlt rfl
 ·obtain rfl:i=p.length:=by omega
  rw[Q6];exact Uf [.f (by simp)] rfl
theorem Qod{a:Tm}{b:Tm}(ha:Tb a)(hb:Tb b):Uj 273 [.agg (ta a),.agg (ta b)] [.oi (Mb a b:Nat)]:=by
 have l1:=ha.p.l;have l2:=hb.p.l;have b1:=ha.lo.1;have b2:=ha.hi.1;have b3:=hb.lo.1;have b4:=hb.hi.1;have s1:Hb a.p<=16777216:=by have:=Mk ha.p.b a.p.length;rwa[Q6]at this
 have s2:Hb b.p<=16777216:=by have:=Mk hb.p.b b.p.length;rwa[Q6]at this
 obtain⟨N,hN⟩:=nmE (4*(a.p.length+b.p.length));obtain⟨S,hS⟩:=nmE (Hb a.p+Hb b.p+(a.p.length+b.p.length)+8);have hNS:N*S<=512*33554568:=Zc (by omega) (by omega);have h0:(N:Int)*(S:Int)=((N*S:Nat):Int):=(Vj _ _).symm;have hst:Mb a b=64+2*(Ff a.lo.num+Ff a.hi.num+Ff b.lo.num+Ff b.hi.num)+N*S:=by rw[hN,hS];rfl
 rw[hst];exact Ug func273 rfl [.k (QU (z:=a.lo.num) (by omega)),.k (QU (z:=a.hi.num) (by omega)),.k (QU (z:=b.lo.num) (by omega)),.k (QU (z:=b.hi.num) (by omega)),.r 41 (eI (b:=(N:Int)) (by rw[hN];simp)),.k (jF ha.p),.k (jF hb.p),.r 51 (eI (b:=(S:Int)) (by rw[hS];simp)),.r 52 (eI (b:=((N*S:Nat):Int)) h0)] rfl (by simp) (by rw[h0];simp[U4];omega)
def dR(p:Um)(a:Tm):Nat:=64+2*(Ff a.lo.num+Ff a.hi.num)+4*(a.p.length+p.length)*(Hb a.p+Hb p+(a.p.length+p.length)+8)
theorem lF:Uj 267 [lr []] [.oi 0]:=mQ (l:=[]) (by simp[Sm]) (by decide)
theorem Qgl{a:Tm}{p:Um}(ha:Tb a)(hp:Pb p):Uj 273 [.agg (ta a),.agg ([pl p,.bool false,.row [],.bool false,.row [],.bool false,.row [],.bool false,.row []])] [.oi (dR p a:Nat)]:=by
 have l1:=ha.p.l;have l2:=hp.l;have b1:=ha.lo.1;have b2:=ha.hi.1;have s1:Hb a.p<=16777216:=by have:=Mk ha.p.b a.p.length;rwa[Q6]at this
 have s2:Hb p<=16777216:=by have:=Mk hp.b p.length;rwa[Q6]at this
 obtain⟨N,hN⟩:=nmE (4*(a.p.length+p.length));obtain⟨S,hS⟩:=nmE (Hb a.p+Hb p+(a.p.length+p.length)+8);have hNS:N*S<=512*33554568:=Zc (by omega) (by omega);have h0:(N:Int)*(S:Int)=((N*S:Nat):Int):=(Vj _ _).symm;have hst:dR p a=64+2*(Ff a.lo.num+Ff a.hi.num)+N*S:=by rw[hN,hS];rfl
 rw[hst];exact Ug func273 rfl [.k (QU (z:=a.lo.num) (by omega)),.k (QU (z:=a.hi.num) (by omega)),.k lF,.k lF,.r 41 (eI (b:=(N:Int)) (by rw[hN];simp)),.k (jF ha.p),.k (jF hp),.r 51 (eI (b:=(S:Int)) (by rw[hS];simp)),.r 52 (eI (b:=((N*S:Nat):Int)) h0)] rfl (by simp) (by rw[h0];simp[U4];omega)
def VL(sg:Um->Int)(l:Un)(i:Nat):Nat×Int:=(l.take i).foldl (P0 sg) (0,0)
theorem kZ{sg:Um->Int}(hs:∀p,-1<=sg p/\sg p<=1)(l:Un):∀i,(VL sg l i).1<=i/\-1<=(VL sg l i).2/\(VL sg l i).2<=1
 | 0=>⟨Ql _,show(-1:Int)<=0 by decide,show(0:Int)<=1 by decide⟩
 |
  i+1=>by
  obtain⟨h1,h2,h3⟩:=kZ hs l i;cases h:l[i]? with
  |
   none =>
   have:VL sg l (i+1)=VL sg l i:=by unfold VL;rw[List.take_of_length_le (by have:=List.getElem?_eq_none_iff.1 h;omega),List.take_of_length_le (List.getElem?_eq_none_iff.1 h)]
   rw[this];omega
  |
   some p =>
   have:VL sg l (i+1)=P0 sg (VL sg l i) p:=Sl _ _ _ h;rw[this];have:=hs p;unfold P0
   split
   ·omega
   ·dsimp only;split <;> omega
theorem Qog{l:Un}{fid:Nat}{l1:Ur}{sg:Um->Int}(hl:l.length≤1000)(hs:∀p,-1≤sg p/\sg p≤1)(h:∀p∈l,AB prog fid [pr p,.one (.sh l1)] [.oi (sg p)]):Uj 340 [.one (.sh [.row (Pj l)]),.one (.fn fid [] [.sh l1])] [.oi (Db sg l:Nat)]:=by
 have hpl:=Ab l;refine Fx func340 rfl ?_;refine Ud [] rfl ?_;refine Ui (S:=Nat) 0 (λL1 i=>(15,.v (.oi i))::(5,.v (.oi ((VL sg l i).1:Int)))::(6,.v (.one (.int .i64 (VL sg l i).2)))::L1) (λ_=>[]) (λi=>l.length-i) (λi=>i<=l.length) 0 (Qh _) rfl rfl λi hi=>?_
 by_cases hlt:i<l.length
 ·obtain⟨p,hp⟩:=gxE (l:=l) (i:=i) hlt;have hst:VL sg l (i+1)=P0 sg (VL sg l i) p:=Sl _ _ _ hp;obtain⟨b1,b2,b3⟩:=kZ hs l i;have b4:=hs p;by_cases h0:sg p=0
  ·refine Ue [.t (by simp[hpl];omega),.x (Rr hp),.k (h p (Qc hp)),.t (by simpa using h0)] rfl ?_;exact rd (i+1) (by omega) hlt (by rw[hst,show P0 sg (VL sg l i) p=VL sg l i from by unfold P0;rw[if_pos h0]];rfl)
  ·by_cases h1:(VL sg l i).2=-(sg p)
   ·refine Ue [.t (by simp[hpl];omega),.x (Rr hp),.k (h p (Qc hp)),.f (by simpa using h0),.t (by simpa using h1)] rfl ?_;exact rd (i+1) (by omega) hlt (by rw[hst,show P0 sg (VL sg l i) p=((VL sg l i).1+1,sg p) from by unfold P0;rw[if_neg h0,if_pos h1]];rfl)
   ·refine Ue [.t (by simp[hpl];omega),.x (Rr hp),.k (h p (Qc hp)),.f (by simpa using h0),.f (by simpa using h1)] rfl ?_;exact rd (i+1) (by omega) hlt (by rw[hst,show P0 sg (VL sg l i) p=((VL sg l i).1,sg p) from by unfold P0;rw[if_neg h0,if_neg h1]];rfl)
 ·obtain rfl:i=l.length:=by omega
  refine Uf [.f (by simp[hpl])] rfl ?_ trivial;unfold VL Db;rw[List.take_length]
theorem Qfv{p:Um}{q:Rat}(hp:Pb p)(hq:Qb q):Uj 341 [pr p,.one (.sh (rl q))] [.oi (Re p q)]:=Ug func341 rfl [.k (PC hp hq)] rfl
theorem lD{l:Un}{q:Rat}(hl:l.length≤1000)(hp:∀p∈l,Pb p)(hq:Qb q):Uj 321 [.one (.sh [.row (Pj l)]),.agg (rl q)] [.oi (Dc l q:Nat)] :=
 Ug func321 rfl [.k (Qog (fid:=341) (l1:=rl q) (sg:=λp=>Re p q) hl (λp=>O4 p q) λp h=>Qfv (hp p h) hq)] rfl
theorem Ly{sg:Um->Int}(hs:∀p,-1<=sg p/\sg p<=1)(l:Un):Db sg l<=l.length:=by
 have:=(kZ hs l l.length).1;unfold VL at this;rwa[List.take_length]at this
theorem IS{l:Un}{lo hi:Rat}(hl:l.length≤1000)(hp:∀p∈l,Pb p)(ql:Qb lo)(qh:Qb hi):Uj 282 [.one (.sh [.row (Pj l)]),.agg (rl lo),.agg (rl hi)] [.oi (Ts l lo hi)]:=by
 have b1:Dc l lo<=l.length:=Ly (λp=>O4 p lo) l;have b2:Dc l hi<=l.length:=Ly (λp=>O4 p hi) l;have c1:=Ck qh.s31 ql.s31;unfold Ts;by_cases h:Hf hi lo<0
 ·rw[if_pos h];exact Ug func282 rfl [.k c1,.t (by simpa using h)] rfl
 ·rw[if_neg h];exact Ug func282 rfl [.k c1,.f (by simpa using h),.k (lD hl hp ql),.k (lD hl hp qh)] rfl rfl (by simp[U4];omega)
def zTm:Ur:=[.nils,.bool false,.nils,.bool false,.nils,.bool false,.nils,.bool false,.nils]
theorem Qdm{a b:Tm}(ha:Tb a)(hb:Tb b):Mb a b<=17179938816+200000000:=by
 have l1:=ha.p.l;have l2:=hb.p.l;have b1:=ha.lo.1;have b2:=ha.hi.1;have b3:=hb.lo.1;have b4:=hb.hi.1;have s1:Hb a.p<=16777216:=by have:=Mk ha.p.b a.p.length;rwa[Q6]at this
 have s2:Hb b.p<=16777216:=by have:=Mk hb.p.b b.p.length;rwa[Q6]at this
 have:4*(a.p.length+b.p.length)*(Hb a.p+Hb b.p+(a.p.length+b.p.length)+8)<=512*33554568:=Zc (by omega) (by omega);unfold Mb;omega
theorem Qqf{a b:Rat}(ha:Qb a)(hb:Qb b):Qs 2147483647 (EB a b):=by
 have h1:Ff (a.num*(b.den:Int))<=33554432:=Qa (Ga _ _) (by have:=ha.1;have:=hb.2;omega);have h2:Ff (b.num*(a.den:Int))<=33554432:=Qa (Ga _ _) (by have:=hb.1;have:=ha.2;omega);have h3:Ff ((a.den:Int)*(b.den:Int))<=33554432:=Qa (Ga _ _) (by have:=ha.2;have:=hb.2;omega);have h5:Ff (a.num*(b.den:Int)-b.num*(a.den:Int))<=33554433:=Qa (yV _ _) (by omega);exact(Qs.divInt (s:=33554433) h5 (by omega) (by omega)).mono (by omega)
theorem jJ{a b:Tm}{r:Tm×Tm×Int}(ha:Tb a)(hb:Tb b)(h:AL (Mb a b) a b=some r):Uj 229 [.agg (ta a),.agg (ta b)] [.agg (ta r.1),.agg (ta r.2.1),.oi r.2.2]:=by
 have hsb:=Qdm ha hb;refine Fx func229 rfl ?_;refine Ud [.k (Qod ha hb)] rfl ?_;obtain⟨n,hn⟩:=nmE (Mb a b);rw[<-hn]at h hsb ⊢;refine sb [(10,.v (.oi 0)),(9,.v (.oi n)),(5,.v (.one (.ow 3 0))),(4,.v (.one (.ow 2 0))),(3,.v (.one (.ow 1 0))),(2,.v (.one (.ow 0 0)))] [.blk 105 (ta a),.blk 105 (ta b),.blk 105 zTm,.blk 105 zTm] rfl rfl ?_;refine Ui (S:=Nat×Tm×Tm) 4 (λL1 s=>(10,.v (.oi (s.1:Int)))::L1) (λs=>[.blk 105 (ta s.2.1),.blk 105 (ta s.2.2),.blk 105 zTm,.blk 105 zTm]) (λs=>n-s.1) (λs=>s.1<=n/\Tb s.2.1/\Tb s.2.2/\AL (n-s.1) s.2.1 s.2.2=some r) (0,a,b) ⟨Qh _,ha,hb,h⟩ rfl rfl λ⟨i,u,v⟩ ⟨j1,j2,j3,j4⟩=>?_
 dsimp only at j1 j2 j3 j4 ⊢;by_cases hi:i<n
 ·obtain⟨k,hk⟩:∃k,n-i=k+1:=⟨n-i-1,by omega⟩;have hk':n-(i+1)=k:=by omega
  rw[hk]at j4;have c1:=Ck j2.hi.s31 j3.lo.s31;have c2:=Ck j3.hi.s31 j2.lo.s31;have pu:=Lc j2;have pv:=Lc j3;have hlt:decide ((i:Int)<(n:Int))=true:=by simp;omega
  simp only[AL]at j4;refine Ud [.t hlt] rfl ?_;refine ct 3 (S:=Unit) (λ_=>[(10,.v (.oi i)),(9,.v (.oi n)),(5,.v (.one (.ow 3 0))),(4,.v (.one (.ow 2 0))),(3,.v (.one (.ow 1 0))),(2,.v (.one (.ow 0 0)))]) (λ_=>[.blk 105 (ta u),.blk 105 (ta v),.blk 105 zTm,.blk 105 zTm]) (λ_=>¬Lb u v=true/\¬Lb v u=true) rfl ?_ ?_
  ·have bA:Lb u v=(decide (Hf u.hi v.lo<=0) && !(u.point && v.point && decide (Hf u.hi v.lo=0))):=by
    unfold Lb;cases u.point <;> cases v.point <;> simp
   have bB:Lb v u=(decide (Hf v.hi u.lo<=0) && !(u.point && v.point && decide (Hf v.hi u.lo=0))):=by
    unfold Lb;cases u.point <;> cases v.point <;> simp
   obtain⟨a0,A'⟩:∃b,decide (Hf u.hi v.lo<=0)=b:=⟨_,rfl⟩;obtain⟨b0,B'⟩:∃b,decide (Hf v.hi u.lo<=0)=b:=⟨_,rfl⟩;obtain⟨p0,P'⟩:∃b,u.point=b:=⟨_,rfl⟩;obtain⟨q0,Q'⟩:∃b,v.point=b:=⟨_,rfl⟩;obtain⟨x0,X'⟩:∃b,decide (Hf u.hi v.lo=0)=b:=⟨_,rfl⟩;obtain⟨y0,Y'⟩:∃b,decide (Hf v.hi u.lo=0)=b:=⟨_,rfl⟩;rw[A',P',Q',X']at bA;rw[B',P',Q',Y']at bB;have r1:Lb u v=true->(u,v,-1)=r:=λh=>by rw[if_pos h]at j4;injection j4
   have r2:¬Lb u v=true->Lb v u=true->(u,v,1)=r:=λh h'=>by rw[if_neg h,if_pos h']at j4;injection j4
   clear j4;cases a0
   ·cases b0
    ·exact go tt [.k c1,.g 19 false A',.f rfl,.k c2,.g 45 false B',.f rfl] rfl trivial (rc () ⟨by rw[bA];simp,by rw[bB];simp⟩ rfl)
    ·cases p0
     ·obtain rfl:=r2 (by rw[bA];simp) (by rw[bB];rfl);exact Uf [.k c1,.g 19 false A',.f rfl,.k c2,.g 45 true B',.k pu,.g 48 false P',.g 52 false rfl,.t rfl] rfl
     ·cases q0
      ·obtain rfl:=r2 (by rw[bA];simp) (by rw[bB];rfl);exact Uf [.k c1,.g 19 false A',.f rfl,.k c2,.g 45 true B',.k pu,.g 48 true P',.k pv,.g 52 false Q',.t rfl] rfl
      ·cases y0
       ·obtain rfl:=r2 (by rw[bA];simp) (by rw[bB];rfl);exact Uf [.k c1,.g 19 false A',.f rfl,.k c2,.g 45 true B',.k pu,.g 48 true P',.k pv,.g 52 true Q',.k c2,.t (by simpa using Y')] rfl
       ·exact go tt [.k c1,.g 19 false A',.f rfl,.k c2,.g 45 true B',.k pu,.g 48 true P',.k pv,.g 52 true Q',.k c2,.f (by simpa using Y')] rfl trivial (rc () ⟨by rw[bA];simp,by rw[bB];simp⟩ rfl)
   ·cases p0
    ·obtain rfl:=r1 (by rw[bA];rfl);exact Uf [.k c1,.g 19 true A',.k pu,.g 22 false P',.g 26 false rfl,.t rfl] rfl
    ·cases q0
     ·obtain rfl:=r1 (by rw[bA];rfl);exact Uf [.k c1,.g 19 true A',.k pu,.g 22 true P',.k pv,.g 26 false Q',.t rfl] rfl
     ·cases x0
      ·obtain rfl:=r1 (by rw[bA];rfl);exact Uf [.k c1,.g 19 true A',.k pu,.g 22 true P',.k pv,.g 26 true Q',.k c1,.t (by simpa using X')] rfl
      ·cases b0
       ·exact go tt [.k c1,.g 19 true A',.k pu,.g 22 true P',.k pv,.g 26 true Q',.k c1,.f (by simpa using X'),.k c2,.g 45 false B',.f rfl] rfl trivial (rc () ⟨by rw[bA];simp,by rw[bB];simp⟩ rfl)
       ·cases y0
        ·obtain rfl:=r2 (by rw[bA];simp) (by rw[bB];rfl);exact Uf [.k c1,.g 19 true A',.k pu,.g 22 true P',.k pv,.g 26 true Q',.k c1,.f (by simpa using X'),.k c2,.g 45 true B',.k pu,.g 48 true P',.k pv,.g 52 true Q',.k c2,.t (by simpa using Y')] rfl
        ·exact go tt [.k c1,.g 19 true A',.k pu,.g 22 true P',.k pv,.g 26 true Q',.k c1,.f (by simpa using X'),.k c2,.g 45 true B',.k pu,.g 48 true P',.k pv,.g 52 true Q',.k c2,.f (by simpa using Y')] rfl trivial (rc () ⟨by rw[bA];simp,by rw[bB];simp⟩ rfl)
  ·rintro _ ⟨n1,n2⟩
   rw[if_neg n1,if_neg n2]at j4;have qr:∀{x y:Rat},Qb x->Qb y->Qs 2147483647 (EB x y):=λh1 h2=>Qqf h1 h2
   have cc:=Ck (qr j2.hi j2.lo) (qr j3.hi j3.lo);by_cases D:0<=Hf (EB u.hi u.lo) (EB v.hi v.lo)
   ·rw[if_pos D]at j4;obtain⟨x,x1,x2⟩:=Qd.1 j4;refine Ue [.k (jU j2.hi j2.lo),.k (jU j3.hi j3.lo),.k cc,.t (by simpa using D),.k (mT j2 x1)] rfl ?_;exact rd (i+1,x,v) (by dsimp only;omega) ⟨hi,vA j2 x1,j3,by dsimp only;rw[hk'];exact x2⟩ rfl
   ·rw[if_neg D]at j4;obtain⟨x,x1,x2⟩:=Qd.1 j4;refine Ue [.k (jU j2.hi j2.lo),.k (jU j3.hi j3.lo),.k cc,.f (by simpa using D),.k (mT j3 x1)] rfl ?_;exact rd (i+1,u,x) (by dsimp only;omega) ⟨hi,j2,vA j3 x1,by dsimp only;rw[hk'];exact x2⟩ rfl
 ·obtain rfl:i=n:=by omega
  rw[Ki]at j4;simp only[AL]at j4;injection j4 with j4;subst j4;exact Uf [.f (by simp)] rfl
theorem Qoc{a b:Rat}(ha:Qb a)(hb:Qb b):Uj 69 [.agg (rl a),.one (.row [rl b])] [.agg (rl (if 0<Hf b a then b else a))]:=by
 have ca:=MH (U5 a.num) (U5 (a.den:Int)) ha.s32.1 ha.s32.2;have cb:=MH (U5 b.num) (U5 (b.den:Int)) hb.s32.1 hb.s32.2;rw[Se]at ca cb;have cc:=Ck hb.s31 ha.s31;refine Fx func69 rfl ?_;refine Ud [.k ca] rfl ?_;refine Ui (S:=Nat) 3 (λL1 i=>(12,.v (.oi i))::L1) (λi=>[.blk 42 (rl a),.blk 42 [.bool false,.nils,.bool false,.nils],.blk 42 (rl (if i=0 then a else if 0<Hf b a then b else a))]) (λi=>1-i) (λi=>i<=1) 0 (Qh _) rfl rfl λi hi=>?_
 rcases(show i=0\/i=1 by omega)with rfl|rfl
 ·by_cases h:0<Hf b a
  ·refine Ud [.t rfl,.x (i:=0) (xs:=rl b) rfl,.k cc,.t (by simpa using h),.k cb] rfl ?_ (by simp[U4]);exact rd 1 (by omega) (by omega) (by rw[if_pos h];rfl)
  ·refine Ud [.t rfl,.x (i:=0) (xs:=rl b) rfl,.k cc,.f (by simpa using h)] rfl ?_ (by simp[U4]);exact rd 1 (by omega) (by omega) (by rw[if_neg h];rfl)
 ·exact Uf [.f rfl] rfl
theorem KR{a b:Tm}{c:Int}(ha:Tb a)(hb:Tb b)(h:UM a b=some c):Uj 162 [.agg (ta a),.agg (ta b)] [.oi c]:=by
 have ca:=MR ha;have cb:=MR hb;have pa:=Lc ha;have pb:=Lc hb;unfold UM at h;by_cases h1:a.point=true
 ·rw[if_pos h1]at h;injection h with h;subst h;have:=Qoj b a.lo;exact Ug func162 rfl [.k ca,.k cb,.k pa,.t h1,.k (Dn hb ha.lo)] rfl rfl (by simp[U4];omega)
 rw[if_neg h1]at h;have h1:a.point=false:=by simpa using h1
 by_cases h2:b.point=true
 ·rw[if_pos h2]at h;injection h with h;subst h;exact Ug func162 rfl [.k ca,.k cb,.k pa,.f h1,.k pb,.t h2,.k (Dn ha hb.lo)] rfl
 rw[if_neg h2]at h;have h2:b.point=false:=by simpa using h2
 obtain⟨lo,hlo⟩:=nmE (if 0<Hf b.lo a.lo then b.lo else a.lo);obtain⟨hi,hhi⟩:=nmE (if Hf b.hi a.hi<0 then b.hi else a.hi);have h:(if Hf lo hi<0 then(vY a.p b.p).bind λg=>if 1<g.length/\FW g lo hi=true then some 0 else(AL (Mb a b) a b).bind λr=>some r.2.2 else(AL (Mb a b) a b).bind λr=>some r.2.2)=some c:=by rw[hlo,hhi];exact h
 have qlo:Qb lo:=by rw[hlo];split;exact hb.lo;exact ha.lo
 have qhi:Qb hi:=by rw[hhi];split;exact hb.hi;exact ha.hi
 have cm:=Qoc ha.lo hb.lo;rw[<-hlo]at cm;have cc1:=Ck hb.hi.s31 ha.hi.s31;have cc2:=Ck qlo.s31 qhi.s31;refine Fx func162 rfl ?_;refine Ud [.k ca,.k cb,.k pa,.f h1,.k pb,.f h2,.k cm] rfl ?_;refine ct 2 (S:=Unit) (λ_=>[(6,.v (.one (.ow 3 0))),(5,.v (.one (.ow 2 0))),(4,.v (.oi 0)),(3,.v (.one (.ow 1 0))),(2,.v (.one (.ow 0 0)))]) (λ_=>[.blk 105 (ta a),.blk 105 (ta b),.blk 42 (rl lo),.blk 42 (rl hi)]) (λ_=>True) rfl ?_ ?_
 ·by_cases D:Hf b.hi a.hi<0
  ·rw[if_pos D]at hhi;subst hhi;exact go tt [.k cc1,.t (by simpa using D)] rfl trivial (rc () trivial rfl)
  ·rw[if_neg D]at hhi;subst hhi;exact go tt [.k cc1,.f (by simpa using D)] rfl trivial (rc () trivial rfl)
 ·rintro _ _
  by_cases D:Hf lo hi<0
  ·rw[if_pos D]at h;obtain⟨g,g1,h⟩:=Qd.1 h;have cg:=Qe9 ha.p hb.p g1;have pg:=Qjo ha.p hb.p g1;have ch:=Qf4 pg qlo qhi;by_cases G:1<g.length
   ·by_cases R:FW g lo hi=true
    ·rw[if_pos ⟨G,R⟩]at h;injection h with h;subst h;exact Uf [.k cc2,.t (by simpa using D),.k cg,.k (Md g),.g 58 true (by simp;omega),.k ch,.t R] rfl
    ·rw[if_neg λh=>R h.2]at h;obtain⟨r,r1,h⟩:=Qd.1 h;injection h with h;subst h;exact Uf [.k cc2,.t (by simpa using D),.k cg,.k (Md g),.g 58 true (by simp;omega),.k ch,.f (by simpa using R),.k (jJ ha hb r1)] rfl
   ·rw[if_neg λh=>G h.1]at h;obtain⟨r,r1,h⟩:=Qd.1 h;injection h with h;subst h;exact Uf [.k cc2,.t (by simpa using D),.k cg,.k (Md g),.g 58 false (by simp;omega),.f rfl,.k (jJ ha hb r1)] rfl
  ·rw[if_neg D]at h;obtain⟨r,r1,h⟩:=Qd.1 h;injection h with h;subst h;exact Uf [.k cc2,.f (by simpa using D),.k (jJ ha hb r1)] rfl
theorem Qmz{p:Um}{a:Tm}{s:Int}(hp:Pb p)(ha:Tb a)(h:GM p a=some s):Uj 241 [pr p,.agg (ta a)] [.oi s]:=by
 have ca:=MR ha;have pa:=Lc ha;have cn:=Hu hp.t hp.ln hp.bd;unfold GM at h;by_cases h0:p.length=0
 ·rw[if_pos h0]at h;injection h with h;subst h;exact Ug func241 rfl [.k cn,.k ca,.t (by simp;exact Qj h0)] rfl
 rw[if_neg h0]at h;have h0:p≠[]:=λe=>h0 (by rw[e];rfl)
 by_cases h1:a.point=true
 ·rw[if_pos h1]at h;injection h with h;subst h;exact Ug func241 rfl [.k cn,.k ca,.f (by simpa using h0),.k pa,.t h1,.k (PC hp ha.lo)] rfl
 rw[if_neg h1]at h;have h1:a.point=false:=by simpa using h1
 obtain⟨g,g1,h⟩:=Qd.1 h;have cg:=Qe9 hp ha.p g1;have pg:=Qjo hp ha.p g1;have ch:=Qf4 pg ha.lo ha.hi;by_cases G:1<g.length/\FW g a.lo a.hi=true
 ·rw[if_pos G]at h;injection h with h;subst h;exact Ug func241 rfl [.k cn,.k ca,.f (by simpa using h0),.k pa,.f h1,.k cg,.k (Md g),.g 29 true (by simp;omega),.k ch,.t G.2] rfl
 rw[if_neg G]at h;obtain⟨c,c1,h⟩:=Qd.1 h;obtain⟨u,u1,h⟩:=Qd.1 h;injection h with h;subst h;obtain⟨cl,call⟩:=chain_ok hp c1;obtain⟨n,hn⟩:=nmE (64+2*(Ff a.lo.num+Ff a.hi.num)+4*(a.p.length+p.length)*(Hb a.p+Hb p+(a.p.length+p.length)+8));have cst:=Qgl ha hp;rw[show dR p a=n from hn.symm]at cst;rw[<-hn]at u1;have hnb:n<=17179938816+200000000:=by
  have l1:=ha.p.l;have l2:=hp.l;have b1:=ha.lo.1;have b2:=ha.hi.1;have s1:Hb a.p<=16777216:=by have:=Mk ha.p.b a.p.length;rwa[Q6]at this
  have s2:Hb p<=16777216:=by have:=Mk hp.b p.length;rwa[Q6]at this
  have:4*(a.p.length+p.length)*(Hb a.p+Hb p+(a.p.length+p.length)+8)<=512*33554568:=Zc (by omega) (by omega);omega
 refine Fx func241 rfl ?_;refine Ud [.k cn,.k ca,.f (by simpa using h0),.k pa,.f h1,.k cg] rfl ?_;refine ct 2 (S:=Unit) (λ_=>[(3,.v (.one (.ow 0 0))),(0,.v (pr p))]) (λ_=>[.blk 105 (ta a)]) (λ_=>True) rfl ?_ ?_
 ·by_cases G1:1<g.length
  ·exact go tt [.k (Md g),.g 29 true (by simp;omega),.k ch,.f (by simpa using λh=>G ⟨G1,h⟩)] rfl trivial (rc () trivial rfl)
  ·exact go tt [.k (Md g),.g 29 false (by simp;omega),.f rfl] rfl trivial (rc () trivial rfl)
 rintro _ _
 refine Ud [.k (Qfm hp c1),.k cst] rfl ?_;refine Ui (S:=Nat×Tm) 1 (λL1 s=>(46,.v (.oi (s.1:Int)))::L1) (λs=>[.blk 105 (ta s.2)]) (λs=>n-s.1) (λs=>s.1<=n/\Tb s.2/\sgF c (n-s.1) s.2=some u) (0,a) ⟨Qh _,ha,u1⟩ rfl rfl λ⟨i,x⟩ ⟨j1,j2,j3⟩=>?_
 dsimp only at j1 j2 j3 ⊢;by_cases hi:i<n
 ·obtain⟨k,hk⟩:∃k,n-i=k+1:=⟨n-i-1,by omega⟩;have hk':n-(i+1)=k:=by omega
  rw[hk]at j3;simp only[sgF]at j3;have px:=Lc j2;have cb:=IS (by omega) call j2.lo j2.hi;have hlt:decide ((i:Int)<(n:Int))=true:=by simp;omega
  by_cases X:x.point=true
  ·rw[if_pos (.inl X)]at j3;injection j3 with j3;subst j3;exact Uf [.t hlt,.k px,.g 50 true X,.t rfl,.k (PC hp j2.hi)] rfl
  ·have X':x.point=false:=by simpa using X
   by_cases Z:Ts c x.lo x.hi=0
   ·rw[if_pos (.inr Z)]at j3;injection j3 with j3;subst j3;exact Uf [.t hlt,.k px,.g 50 false X',.k cb,.t (by simpa using Z),.k (PC hp j2.hi)] rfl
   ·rw[if_neg (by rintro (h|h);exact X h;exact Z h)]at j3;obtain⟨v,v1,v2⟩:=Qd.1 j3;refine Ue [.t hlt,.k px,.g 50 false X',.k cb,.f (by simpa using Z),.k (mT j2 v1)] rfl ?_;exact rd (i+1,v) (by dsimp only;omega) ⟨hi,vA j2 v1,by dsimp only;rw[hk'];exact v2⟩ rfl
 ·obtain rfl:i=n:=by omega
  rw[Ki]at j3;simp only[sgF]at j3;injection j3 with j3;subst j3;exact Uf [.f (by simp),.k (PC hp j2.hi)] rfl
abbrev tas(l:List Tm):LV:=.row (l.map λt=>ta t)
theorem NC{l:List Tm}{i:Nat}{t:Tm}(h:l[i]? = some t):(l.map λt=>ta t)[i]? = some (ta t):=G6 h
def zTr:Ur:=[.row [],.bool false,.row [],.bool false,.row [],.bool false,.row [],.bool false,.row []]
theorem wS:Uj 96 [.one (.row [])] [.agg zTr,.one (.bool false)]:=Ug func96 rfl [.t rfl] rfl
theorem Pe{b:Tm}{l:List Tm}{m:Tm}(hb:Tb b)(hl:∀t∈l,Tb t)(hn:l.length≤1000000)(h:QI b l=some m):Uj 96 [.one (tas (b::l))] [.agg (ta m),.one (.bool true)]:=by
 refine Fx func96 rfl ?_;refine go tt [.f (by simp;omega),.x (i:=0) (xs:=ta b) rfl,.i 1] rfl (by simp[U4];exact⟨rfl,λ_ _=>rfl⟩) ?_;refine Ui (S:=Nat×Tm) 2 (λL1 s=>(17,.v (.oi (s.1:Int)))::L1) (λs=>[.blk 105 zTm,.blk 105 (ta s.2)]) (λs=>l.length-s.1) (λs=>s.1<=l.length/\Tb s.2/\QI s.2 (l.drop s.1)=some m) (0,b) ⟨Qh _,hb,h⟩ rfl rfl λ⟨i,x⟩ ⟨j1,j2,j3⟩=>?_
 dsimp only at j1 j2 j3 ⊢;by_cases hi:i<l.length
 ·obtain⟨a,ha⟩:=gxE (l:=l) (i:=i) hi;have hdr:l.drop i=a::l.drop (i+1):=by
   rw[Zp hi];congr 1;have:=Qe hi;rw[ha]at this;injection this with this;exact this.symm
  rw[hdr]at j3;simp only[QI]at j3;obtain⟨c,c1,j3⟩:=Qd.1 j3;have ta':=hl a (Qc ha);by_cases hc:c<0
  ·rw[if_pos hc]at j3;refine Ue [.t (by simp;omega),.x (NC ha),.k (KR ta' j2 c1),.t (by simpa using hc)] rfl ?_;exact rd (i+1,a) (by dsimp only;omega) ⟨hi,ta',j3⟩ rfl
  ·rw[if_neg hc]at j3;refine Ue [.t (by simp;omega),.x (NC ha),.k (KR ta' j2 c1),.f (by simpa using hc)] rfl ?_;exact rd (i+1,x) (by dsimp only;omega) ⟨hi,j2,j3⟩ rfl
 ·obtain rfl:i=l.length:=by omega
  rw[Yt]at j3;simp only[QI]at j3;injection j3 with j3;subst j3;exact Uf [.f (by simp),.k (Qgo j2)] rfl
end Orr
namespace Orq
def Fl(x:Rat):Rat:=if x<0 then -x else x
theorem Hx(x:Rat):0<=Fl x:=by unfold Fl;split <;> grind
theorem Ml{x b:Rat}:Fl x<=b↔-b<=x/\x<=b:=by unfold Fl;split <;> constructor <;> grind
theorem vH{x b:Rat}:Fl x<b↔-b<x/\x<b:=by unfold Fl;split <;> constructor <;> grind
theorem Sx(x y:Rat):Fl (x+y)<=Fl x+Fl y:=by unfold Fl;split <;> split <;> split <;> grind
theorem oO(x y:Rat):Fl (x-y)=Fl (y-x):=by unfold Fl;split <;> split <;> grind
theorem Ew(x:Rat):Fl (-x)=Fl x:=by unfold Fl;split <;> split <;> grind
theorem Rl:Fl 0=0:=by decide
theorem C6{x:Rat}(h:x≠0):0<Fl x:=by unfold Fl;split <;> grind
theorem Qqd{x:Rat}(h:Fl x=0):x=0:=by unfold Fl at h;split at h <;> grind
theorem Bn{x y:Rat}(h1:0<=x)(h2:0<=y):0<=x*y:=Vy h1 h2
theorem I1{x y:Rat}(h1:0<x)(h2:0<y):0<x*y:=Xs h1 h2
theorem Cw{a b c d:Rat}(h0:0<=a)(h1:a<=b)(h2:0<=c)(h3:c<=d):a*c<=b*d:=by
 have e1:=Ze h1 h2;have e2:=Z1 h3 (Zl h0 h1);exact Zl e1 e2
theorem Ip(x y:Rat):Fl (x*y)=Fl x*Fl y:=by
 unfold Fl;by_cases h1:x<0 <;> by_cases h2:y<0
 ·have:=I1 (x:=-x) (y:=-y) (by grind) (by grind);simp only[h1,h2,if_true];split <;> grind
 ·have:=Bn (x:=-x) (y:=y) (by grind) (by grind);simp only[h1,h2,if_true,if_false];split <;> grind
 ·have:=Bn (x:=x) (y:=-y) (by grind) (by grind);simp only[h1,h2,if_true,if_false];split <;> grind
 ·have:=Bn (x:=x) (y:=y) (by grind) (by grind);simp only[h1,h2,if_false];split <;> grind
theorem He{x y a b:Rat}(h1:Fl x<=a)(h2:Fl y<=b):Fl (x*y)<=a*b:=by
 rw[Ip];exact Cw (Hx x) h1 (Hx y) h2
theorem Ak{x y:Rat}(h1:0<x)(h2:0<y):0<x / y:=by rw[J6];exact I1 h1 (Rat.inv_pos.2 h2)
theorem Hg{x y:Rat}(h2:0<y):x / y*y=x:=Zj (by grind)
theorem Hj{b d:Rat}(hb:0<=b)(hd:0<d):∃e:Rat,0<e/\e<=1/\e*b<d:=by
 have h1:0<d / (b+1):=Ak hd (by grind);have h2:d / (b+1)*(b+1)=d:=Hg (by grind);rcases Vx (a:=d / (b+1)) (b:=1)with h|h
 ·exact⟨d / (b+1),h1,h,by
   have:d / (b+1)*(b+1)=d / (b+1)*b+d / (b+1):=by grind
   grind⟩
 ·refine⟨1,by decide,by decide,?_⟩;have:1*(b+1)<=d / (b+1)*(b+1):=Ze h (by grind);grind
def ev:Up->Rat->Rat
 | [],_=>0
 |a::p,t=>a+t*ev p t
def dv:Up->Rat->Rat
 | [],_=>0
 |_::p,t=>ev p t+t*dv p t
def dq:Up->Rat->Rat->Rat
 | [],_,_=>0
 |_::p,x,y=>ev p x+y*dq p x y
def dd:Up->Rat->Rat->Rat
 | [],_,_=>0
 |_::p,x,y=>dq p x y+y*dd p x y
theorem OH(x y:Rat):∀p,ev p x-ev p y=(x-y)*dq p x y
 | []=>by simp only[ev,dq];grind
 |a::p=>by have:=OH x y p;simp only[ev,dq];grind
theorem jT(y:Rat):∀p,dq p y y=dv p y
 | []=>rfl
 |a::p=>by simp only[dq,dv,jT y p]
theorem Qse(x y:Rat):∀p,dq p x y-dv p y=(x-y)*dd p x y
 | []=>by simp only[dv,dq,dd];grind
 |
  a::p=>by
  have h1:=Qse x y p;have h2:=OH x y p;simp only[dv,dq,dd];grind
theorem Qsi(p:Up)(x y:Rat):ev p x-ev p y=(x-y)*dv p y+(x-y)*(x-y)*dd p x y:=by
 have h1:=OH x y p;have h2:=Qse x y p;grind
def fX(R:Rat):Up->Rat
 | []=>0
 |a::p=>Fl a+R*fX R p
def AO(R:Rat):Up->Rat
 | []=>0
 |_::p=>fX R p+R*AO R p
def ddB(R:Rat):Up->Rat
 | []=>0
 |_::p=>AO R p+R*ddB R p
theorem XG{R:Rat}(hR:0<=R):∀p,0<=fX R p
 | []=>by simp only[fX];grind
 |a::p=>by have:=Bn hR (XG hR p);have:=Hx a;simp only[fX];grind
theorem Nb{R:Rat}(hR:0<=R):∀p,0<=AO R p
 | []=>by simp only[AO];grind
 |a::p=>by have:=Bn hR (Nb hR p);have:=XG hR p;simp only[AO];grind
theorem CN{R:Rat}(hR:0<=R):∀p,0<=ddB R p
 | []=>by simp only[ddB];grind
 |a::p=>by have:=Bn hR (CN hR p);have:=Nb hR p;simp only[ddB];grind
theorem SS{R x:Rat}(hx:Fl x<=R):∀p,Fl (ev p x)<=fX R p
 | []=>by simp only[ev,fX,Rl];grind
 |
  a::p=>by
  have h1:=Sx a (x*ev p x);have h2:=He hx (SS hx p);simp only[ev,fX];grind
theorem uB{R x y:Rat}(hx:Fl x<=R)(hy:Fl y<=R):∀p,Fl (dq p x y)<=AO R p
 | []=>by simp only[dq,AO,Rl];grind
 |
  a::p=>by
  have h1:=Sx (ev p x) (y*dq p x y);have h2:=He hy (uB hx hy p);have h3:=SS hx p;simp only[dq,AO];grind
theorem Qg5{R x y:Rat}(hx:Fl x<=R)(hy:Fl y<=R):∀p,Fl (dd p x y)<=ddB R p
 | []=>by simp only[dd,ddB,Rl];grind
 |
  a::p=>by
  have h1:=Sx (dq p x y) (y*dd p x y);have h2:=He hy (Qg5 hx hy p);have h3:=uB hx hy p;simp only[dd,ddB];grind
theorem Qu7{R x y:Rat}(hx:Fl x<=R)(hy:Fl y<=R)(p:Up):Fl (ev p x-ev p y)<=Fl (x-y)*AO R p:=by
 rw[OH,Ip];exact Cw (Hx _) Qr (Hx _) (uB hx hy p)
def Sy:Up->Up->Up
 | [],q=>q
 |a::p,[]=>a::p
 |a::p,b::q=>(a+b)::Sy p q
def D9(c:Rat)(p:Up):Up:=p.map (c * ·)
def G8:Up->Up->Up
 | [],_=>[]
 |a::p,q=>Sy (D9 a q) (0::G8 p q)
def Bs:Up->Up
 | []=>[]
 |_::p=>Sy p (0::Bs p)
theorem G0(t:Rat):∀p q,ev (Sy p q) t=ev p t+ev q t
 | [],q=>by simp only[Sy,ev];grind
 |a::p,[]=>by simp only[Sy,ev];grind
 |a::p,b::q=>by have:=G0 t p q;simp only[Sy,ev];grind
theorem Gu(c t:Rat):∀p,ev (D9 c p) t=c*ev p t
 | []=>by simp only[D9,X9,ev];grind
 |a::p=>by have:=Gu c t p;simp only[D9,Z0,ev]at *;grind
theorem Fi(t:Rat):∀p q,ev (G8 p q) t=ev p t*ev q t
 | [],q=>by simp only[G8,ev];grind
 |a::p,q=>by have:=Fi t p q;simp only[G8,G0,Gu,ev];grind
theorem Tt(t:Rat):∀p,ev (Bs p) t=dv p t
 | []=>rfl
 |a::p=>by have:=Tt t p;simp only[Bs,G0,ev,dv];grind
theorem jP(t:Rat):∀p q,dv (Sy p q) t=dv p t+dv q t
 | [],q=>by simp only[Sy,dv];grind
 |a::p,[]=>by simp only[Sy,dv];grind
 |a::p,b::q=>by have:=jP t p q;have:=G0 t p q;simp only[Sy,dv];grind
theorem RV(c t:Rat):∀p,dv (D9 c p) t=c*dv p t
 | []=>by simp only[D9,X9,dv];grind
 |a::p=>by have:=RV c t p;have:=Gu c t p;simp only[D9,Z0,dv]at *;grind
theorem jM(t:Rat):∀p q,dv (G8 p q) t=dv p t*ev q t+ev p t*dv q t
 | [],q=>by simp only[G8,dv,ev];grind
 |a::p,q=>by have:=jM t p q;have:=Fi t p q;simp only[G8,jP,RV,dv,ev];grind
theorem aH:∀{p:Up},(∀x∈p,x=0)->∀t,ev p t=0
 | [],_,t=>rfl
 |
  a::p,h,t=>by
  have h1:=aH (p:=p) (λx hx=>h x (Qg _ hx)) t;have h2:=h a (Qy ..);simp only[ev,h1,h2];grind
theorem aK:∀{p:Up},(∀x∈p,x=0)->∀t,dv p t=0
 | [],_,t=>rfl
 |
  a::p,h,t=>by
  have h0:=λx hx=>h x (Qg _ hx)
  have h1:=aH (p:=p) h0 t;have h2:=aK (p:=p) h0 t;simp only[dv,h1,h2];grind
theorem UZ:∀{p:Up},(∀t,0<t->t<1->ev p t=0)->∀x∈p,x=0
 | [],_=>λx hx=>by cases hx
 |
  a::p,h=>by
  have ha:a=0:=by
   rcases Classical.em (a=0)with h0|h0
   ·exact h0
   ·obtain⟨e,e1,e2,e3⟩:=Hj (XG (R:=1) (by decide) p) (C6 h0);obtain⟨f,f1,f2,f3⟩:=Hj (b:=1) (d:=e) (by decide) e1;have h1:=h f f1 (by grind);have h2:=SS (R:=1) (x:=f) (by unfold Fl;split <;> grind) p;have h3:=Ip f (ev p f);have h4:Fl f=f:=by unfold Fl;split <;> grind
    have h5:a=-(f*ev p f):=by simp only[ev]at h1;grind
    have h6:Fl a=f*Fl (ev p f):=by rw[h5,Ew,h3,h4]
    have h7:f*Fl (ev p f)<=e*fX 1 p:=Cw (Qt f1) (by grind) (Hx _) h2;grind
  intro x hx;rcases Qn.1 hx with rfl|hx
  ·exact ha
  ·refine UZ (p:=p) (λt h1 h2=>?_) x hx;have:=h t h1 h2;simp only[ev,ha]at this;have h3:t*ev p t=0:=by grind
   rcases Y3.1 h3 with h4|h4
   ·grind
   ·exact h4
theorem Qhd{p q:Up}(h:∀t,ev p t=ev q t)(t:Rat):dv p t=dv q t:=by
 have h1:=aK (p:=Sy p (D9 (-1) q)) (UZ λt _ _=>by rw[G0,Gu,h t];grind) t;rw[jP,RV]at h1;grind
def Fh(x:Rat):Int:=if x<0 then -1 else if 0<x then 1 else 0
theorem Gs{x:Rat}:Fh x=0↔x=0:=by
 unfold Fh;constructor
 ·intro h;split at h <;> (try split at h) <;> grind
 ·intro h;subst h;rfl
theorem Hz{x:Rat}:Fh x=1↔0<x:=by
 unfold Fh;constructor
 ·intro h;split at h <;> (try split at h) <;> grind
 ·intro h;rw[if_neg (by grind),if_pos h]
theorem Pk{x:Rat}:Fh x=-1↔x<0:=by
 unfold Fh;constructor
 ·intro h;split at h <;> (try split at h) <;> grind
 ·intro h;rw[if_pos h]
theorem Gb(x:Rat):Fh x=-1/\x<0\/Fh x=0/\x=0\/Fh x=1/\0<x:=by
 rcases Vx (a:=x) (b:=0)with h|h
 ·rcases Classical.em (x=0)with h0|h0
  ·exact .inr (.inl ⟨Gs.2 h0,h0⟩)
  ·exact .inl ⟨Pk.2 (by grind),by grind⟩
 ·rcases Classical.em (x=0)with h0|h0
  ·exact .inr (.inl ⟨Gs.2 h0,h0⟩)
  ·exact .inr (.inr ⟨Hz.2 (by grind),by grind⟩)
theorem S0(x y:Rat):Fh (x*y)=Fh x*Fh y:=by
 rcases Gb x with⟨e1,h1⟩|⟨e1,h1⟩|⟨e1,h1⟩ <;> rcases Gb y with⟨e2,h2⟩|⟨e2,h2⟩|⟨e2,h2⟩ <;> rw[e1,e2]
 ·have:=I1 (x:=-x) (y:=-y) (by grind) (by grind);exact Hz.2 (by grind)
 ·subst h2;exact Gs.2 (by grind)
 ·have:=I1 (x:=-x) (y:=y) (by grind) (by grind);exact Pk.2 (by grind)
 ·subst h1;exact Gs.2 (by grind)
 ·subst h1;exact Gs.2 (by grind)
 ·subst h1;exact Gs.2 (by grind)
 ·have:=I1 (x:=x) (y:=-y) (by grind) (by grind);exact Pk.2 (by grind)
 ·subst h2;exact Gs.2 (by grind)
 ·exact Hz.2 (I1 h1 h2)
theorem P7{a b d:Rat}(h1:d<=Fl a)(h2:Fl (b-a)<d):Fh b=Fh a/\Fh a≠0:=by
 rw[vH]at h2;rcases Gb a with⟨e,h⟩|⟨e,h⟩|⟨e,h⟩
 ·rw[e,Pk];unfold Fl at h1;rw[if_pos h]at h1;exact⟨by grind,by decide⟩
 ·subst h;rw[Rl]at h1;grind
 ·rw[e,Hz];unfold Fl at h1;rw[if_neg (by grind)]at h1;exact⟨by grind,by decide⟩
def tc(x:Rat):Int->Uq->Nat
 |_,[]=>0
 |s,p::l=>if Fh (ev p x)=0 then tc x s l else(if s=-(Fh (ev p x))then 1 else 0)+tc x (Fh (ev p x)) l
inductive SCl:List Rat->List Rat->List (List Rat)->Prop
 |base {f g:List Rat} {c:Rat} (hc:c≠0) (hg:∀t,ev g t=c):SCl f g []
 |step {f g h:List Rat} {l:List (List Rat)} {a b:Rat} {q:List Rat} (ha:0<a) (hb:0<b) (he:∀t,a*ev f t=ev q t*ev g t-b*ev h t) (hl:SCl g h l):SCl f g (h::l)
theorem Qlk{x:Rat}{s:Int}{g h:Up}{l:Uq}(hh:Fh (ev h x)=-s)(hs:s≠0):tc x s (g::h::l)=1+tc x (-s) l:=by
 have h3:Fh (ev h x)≠0:=by omega
 have hv:s=1\/s=-1:=by rcases Gb (ev h x)with⟨e,_⟩|⟨e,_⟩|⟨e,_⟩ <;> omega
 simp only[tc,if_neg h3,hh];rcases Gb (ev g x)with⟨e,_⟩|⟨e,_⟩|⟨e,_⟩ <;> rw[e] <;> rcases hv with rfl|rfl <;> simp
theorem GA{x:Rat}{s:Int}{p:Up}{l:Uq}(h:Fh (ev p x)≠0):tc x s (p::l)=(if s=-(Fh (ev p x))then 1 else 0)+tc x (Fh (ev p x)) l:=by rw[tc,if_neg h]
theorem Mi{R x y e d:Rat}{p:Up}(hx:Fl x<=R)(hy:Fl y<=R)(hR:0<=R)(h:Fl (y-x)<=e)(hd:e*AO R p<d):Fl (ev p y-ev p x)<d:=by
 have h1:=Qu7 hy hx p;have h2:=Ze h (Nb hR p);grind
theorem qR{a x y:Rat}(ha:0<a)(h:a*x<a*y):x<y:=by
 rcases Vx (a:=y) (b:=x)with h'|h'
 ·have:=Z1 h' (Qt ha);grind
 ·rcases Classical.em (x=y)with e|e
  ·subst e;grind
  ·grind
theorem Qwp{a b d d' B f g h q:Rat}(ha:0<a)(hb:0<b)(dp:0<d)(h7:B*d+a*d<b*d')(hq:Fl q<=B)(hg:Fl g<d)(hh:d'<=Fl h)(he:a*f=q*g-b*h)(hd':0<d'):Fh h=-Fh f/\d<=Fl f:=by
 have h4:=He hq (Qt hg);rw[Ml]at h4;have had:=I1 ha dp;have h8:=Z1 hh (Qt hb);rcases Gb h with⟨s,p⟩|⟨s,p⟩|⟨s,p⟩
 ·have:Fl h=-h:=by unfold Fl;rw[if_pos p]
  rw[this]at h8;have h10:d<f:=qR ha (by grind);rw[s,Hz.2 (show 0<f by grind)];exact⟨rfl,by unfold Fl;split <;> grind⟩
 ·rw[p,Rl]at hh;grind
 ·have:Fl h=h:=by unfold Fl;rw[if_neg (by grind)]
  rw[this]at h8;have h10:f < -d:=qR ha (by grind);rw[s,Pk.2 (show f<0 by grind)];exact⟨rfl,by unfold Fl;split <;> grind⟩
theorem min2{a b:Rat}(ha:0<a)(hb:0<b):∃e:Rat,0<e/\e<=a/\e<=b:=by
 rcases Vx (a:=a) (b:=b)with h|h
 ·exact⟨a,ha,Qr,h⟩
 ·exact⟨b,hb,h,Qr⟩
theorem Gi(a b:Rat):a<=b\/b<a:=by
 rcases Vx (a:=a) (b:=b)with h|h
 ·exact .inl h
 ·rcases Classical.em (a=b)with e|e
  ·exact .inl (by grind)
  ·exact .inr (by grind)
theorem Qvt{R:Rat}(hR:0<=R){f g:Up}{l:Uq}(hc:SCl f g l):∃d e:Rat,0<d/\0<e/\∀x y,Fl x<=R->Fl y<=R->Fl (y-x)<=e ->
 (d<=Fl (ev f x)\/d<=Fl (ev g x))/\(d<=Fl (ev f x)->Fh (ev f y)=Fh (ev f x)/\Fh (ev f x)≠0)/\(d<=Fl (ev g x)->Fh (ev g y)=Fh (ev g x)/\Fh (ev g x)≠0) /\
 (Fh (ev f y)=Fh (ev f x)->Fh (ev f x)≠0->tc x (Fh (ev f x)) (g::l)=tc y (Fh (ev f x)) (g::l)) /\
 (Fh (ev g y)=Fh (ev g x)->Fh (ev g x)≠0->tc x (Fh (ev g x)) l=tc y (Fh (ev g x)) l):=by
 induction hc with
 |
  @base f g c hc hg =>
  have hd:=C6 hc;obtain⟨e,e1,e2,e3⟩:=Hj (Nb hR f) hd;refine⟨Fl c,e,hd,e1,λx y hx hy hxy=>⟨.inr (by rw[hg];exact Qr),λh=>P7 h (Mi hx hy hR hxy e3),λh=>?_,λ_ _=>?_,λ_ _=>rfl⟩⟩
  ·rw[hg,hg];exact⟨rfl,λh=>hc (Gs.1 h)⟩
  ·simp only[tc,hg]
 |
  @step f g h l a b q ha hb he hl ih =>
  obtain⟨d',e',hd',he',ih⟩:=ih;obtain⟨d1,d1p,_,d1b⟩:=Hj (b:=fX R q+a) (d:=b*d') (by have:=XG hR q;grind) (I1 hb hd');obtain⟨d,dp,hd1,hdd⟩:=min2 d1p hd';obtain⟨ef,ef1,_,ef3⟩:=Hj (Nb hR f) dp;obtain⟨eg,eg1,_,eg3⟩:=Hj (Nb hR g) dp;obtain⟨e0,e0p,h1,h2⟩:=min2 ef1 eg1;obtain⟨e,ep,h0,h3⟩:=min2 e0p he';have h1:=Zl h0 h1;have h2:=Zl h0 h2;refine⟨d,e,dp,ep,λx y hx hy hxy=>?_⟩;obtain⟨i1,i2,i3,i4,i5⟩:=ih x y hx hy (Zl hxy h3);have hsm:Fl (ev g x)<d->d'<=Fl (ev h x)/\Fh (ev h x)=-Fh (ev f x)/\d<=Fl (ev f x):=λhg=>by
   have hh:d'<=Fl (ev h x):=by
    rcases i1 with i|i
    ·exact absurd (Zl hdd i) (Jr.2 hg)
    ·exact i
   have h6:d*(fX R q+a)<=d1*(fX R q+a):=Ze hd1 (by have:=XG hR q;clear ih i1 i2 i3 i4 i5 he;grind);have h7:fX R q*d+a*d<b*d':=by clear ih i1 i2 i3 i4 i5 he;grind
   exact⟨hh,Qwp ha hb dp h7 (SS hx q) hg hh (he x) hd'⟩
  have hfs:d<=Fl (ev f x)->Fh (ev f y)=Fh (ev f x)/\Fh (ev f x)≠0:=λh=>P7 h (Mi hx hy hR (Zl hxy h1) ef3)
  have hgs:d<=Fl (ev g x)->Fh (ev g y)=Fh (ev g x)/\Fh (ev g x)≠0:=λh=>P7 h (Mi hx hy hR (Zl hxy h2) eg3)
  refine⟨?_,hfs,hgs,λs1 s2=>?_,i4⟩
  ·rcases Gi d (Fl (ev g x))with h|h
   ·exact .inr h
   ·exact .inl (hsm h).2.2
  ·rcases Gi d (Fl (ev g x))with h|h
   ·obtain⟨g1,g2⟩:=hgs h;rw[GA (x:=x) (p:=g) g2,GA (x:=y) (p:=g) (by rw[g1];exact g2),g1,i4 g1 g2]
   ·obtain⟨h4,h5,_⟩:=hsm h;obtain⟨h6,h7⟩:=i3 h4;have i5:=i5 h6 h7;rw[Qlk h5 s2,Qlk (h6.trans h5) s2,<-h5,i5]
def Py(p:Up)(x:Rat):Int:=if Fh (ev p x)≠0 then Fh (ev p x)else Fh (dv p x)
def vv(L:Uq)(x:Rat):Nat:=tc x 0 L
def HF(f:Up)(L:Uq):Prop:=(∃c:Rat,c≠0/\(∀t,ev f t=c)/\L=[f])\/∃g l,∃k:Rat,0<k/\(∀t,ev g t=k*dv f t)/\SCl f g l/\L=f::g::l
structure Sm(w:List Rat)(x y:Rat):Prop where
 s:Fh (ev w y)=Py w x
 l:Py w y=Py w x
 n:Py w x≠0
theorem Aq{p:Up}{x:Rat}(h:Fh (ev p x)≠0):Py p x=Fh (ev p x):=by unfold Py;rw[if_pos h]
theorem bV{p:Up}{x:Rat}(h:Fh (ev p x)=0):Py p x=Fh (dv p x):=by unfold Py;rw[if_neg (by simpa using h)]
theorem sZ{p:Up}{x y:Rat}(h:Fh (ev p y)=Fh (ev p x))(h0:Fh (ev p x)≠0):Sm p x y:=by
 have h1:=Aq h0;have h2:=Aq (p:=p) (x:=y) (by rw[h];exact h0);exact⟨by rw[h,h1],by rw[h2,h1,h],by rw[h1];exact h0⟩
theorem QB{f w u:Up}(h:∀t,ev f t=ev w t*ev u t)(x:Rat):dv f x=dv w x*ev u x+ev w x*dv u x:=by
 rw[<-jM];exact Qhd (λt=>by rw[h,Fi]) x
theorem iF{f w u:Up}{x:Rat}(h:∀t,ev f t=ev w t*ev u t)(hu:Fh (ev u x)≠0):Py f x=Py w x*Fh (ev u x):=by
 by_cases hw:Fh (ev w x)=0
 ·have hw0:=Gs.1 hw;have e1:ev f x=0:=by rw[h,hw0];grind
  have e2:dv f x=dv w x*ev u x:=by rw[QB h,hw0];grind
  rw[bV hw,bV (Gs.2 e1),e2,S0]
 ·have e1:Fh (ev f x)=Fh (ev w x)*Fh (ev u x):=by rw[h,S0]
  rw[Aq hw,Aq (by rw[e1];exact X7 hw hu),e1]
theorem Qwq{f w u:Up}{x y:Rat}(h:∀t,ev f t=ev w t*ev u t)(hu:Fh (ev u y)=Fh (ev u x))(h0:Fh (ev u x)≠0)(hf:Sm f x y):Sm w x y:=by
 have e1:=iF h h0;have e2:=iF (x:=y) h (by rw[hu];exact h0);have e3:Fh (ev f y)=Fh (ev w y)*Fh (ev u y):=by rw[h,S0]
 obtain⟨s,l,n⟩:=hf;rw[hu]at e2 e3;refine⟨?_,?_,λh=>n (by rw[e1,h,Yy])⟩
 ·rw[e3,e1]at s;exact Y4 h0 s
 ·rw[e2,e1]at l;exact Y4 h0 l
theorem tc0{x:Rat}{s:Int}{f g:Up}{l:Uq}(h:Fh (ev g x)=s)(hs:s≠0):tc x 0 (f::g::l)=(if Fh (ev f x)=-s then 1 else 0)+tc x s l:=by
 have hv:s=1\/s=-1:=by rcases Gb (ev g x)with⟨e,_⟩|⟨e,_⟩|⟨e,_⟩ <;> omega
 have hg:Fh (ev g x)≠0:=by omega
 rw[tc];rcases Gb (ev f x)with⟨e,_⟩|⟨e,_⟩|⟨e,_⟩ <;> rw[e] <;> rcases hv with rfl|rfl <;> simp[GA hg,h]
theorem LN{R x y e d:Rat}{p:Up}(hx:Fl x<=R)(hy:Fl y<=R)(hR:0<=R)(hxy:x<y)(h:y-x<=e)(hd:d<=Fl (dv p x))(he:e*ddB R p<d):Fh (ev p y-ev p x)=Fh (dv p x):=by
 have h1:=Qsi p y x;have h2:ev p y-ev p x=(y-x)*(dv p x+(y-x)*dd p y x):=by rw[h1];grind
 have h3:=He (x:=y-x) (y:=dd p y x) (a:=e) (b:=ddB R p) (by rw[Ml];constructor <;> grind) (Qg5 hy hx p);have h4:=P7 (b:=dv p x+(y-x)*dd p y x) hd (by
  have:dv p x+(y-x)*dd p y x-dv p x=(y-x)*dd p y x:=by grind
  rw[this];exact Jr.1 λh=>absurd (Zl h h3) (Jr.2 he))
 rw[h2,S0,Hz.2 (show 0<y-x by grind),h4.1,Kq]
def Qd7(f w:Up)(L:Uq)(x y:Rat):Prop :=
 (vv L x=vv L y/\Sm f x y/\Sm w x y)\/(vv L x=vv L y+1/\Py f x≠0/\Py f y=-Py f x/\Fh (ev f x)=Py f x/\(Fh (ev f y)=0\/Fh (ev f y)=-Py f x))
theorem Qsl{R d:Rat}(hR:0<=R)(hd:0<d){f w u:Up}(h:∀t,ev f t=ev w t*ev u t):∃e:Rat,0<e/\∀x y,Fl x<=R->Fl y<=R->Fl (y-x)<=e->d<=Fl (ev f x)->Sm f x y/\Sm w x y:=by
 obtain⟨ef,ef1,_,ef3⟩:=Hj (Nb hR f) hd;obtain⟨d1,d1p,_,d1b⟩:=Hj (XG hR u) hd;obtain⟨ew,ew1,_,ew3⟩:=Hj (Nb hR w) d1p;obtain⟨e,ep,e1,e2⟩:=min2 ef1 ew1;refine⟨e,ep,λx y hx hy hxy hf=>⟨?_,?_⟩⟩
 ·have:=P7 hf (Mi hx hy hR (Zl hxy e1) ef3);exact sZ this.1 this.2
 ·have hw:d1<=Fl (ev w x):=by
   rcases Gi d1 (Fl (ev w x))with h'|h'
   ·exact h'
   ·have h5:=He (Qt h') (SS hx u);rw[<-h]at h5;exact absurd (Zl hf h5) (Jr.2 d1b)
  have:=P7 hw (Mi hx hy hR (Zl hxy e2) ew3);exact sZ this.1 this.2
theorem loc{R:Rat}(hR:0<=R){f w u:Up}{L:Uq}(hc:HF f L)(h:∀t,ev f t=ev w t*ev u t):∃e:Rat,0<e/\∀x y,Fl x<=R->Fl y<=R->x<y->y-x<=e->Qd7 f w L x y:=by
 rcases hc with⟨c,hc,hf,rfl⟩|⟨g,l,k,hk,hg,hc,rfl⟩
 ·obtain⟨e,ep,h1⟩:=Qsl hR (C6 hc) h;refine⟨e,ep,λx y hx hy hxy he=>.inl ⟨?_,h1 x y hx hy (by rw[Ml];constructor <;> grind) (by rw[hf];exact Qr)⟩⟩;simp only[vv,tc,hf]
 ·obtain⟨d,e1,dp,e1p,h1⟩:=Qvt hR hc;obtain⟨e2,e2p,h2⟩:=Qsl hR dp h;obtain⟨d3,d3p,_,d3b⟩:=Hj (b:=k) (d:=d) (Qt hk) dp;obtain⟨e3,e3p,_,e3b⟩:=Hj (CN hR f) d3p;obtain⟨d4,d4p,_,d4b⟩:=Hj (b:=AO R w+AO R u) (d:=d3) (by have:=Nb hR w;have:=Nb hR u;grind) d3p;obtain⟨e4,e4p,_,e4b⟩:=Hj (Nb hR w) d4p;obtain⟨e5,e5p,_,e5b⟩:=Hj (Nb hR u) d4p;obtain⟨a1,a1p,a11,a12⟩:=min2 e1p e2p;obtain⟨a2,a2p,a21,a22⟩:=min2 e3p e4p;obtain⟨a3,a3p,a31,a32⟩:=min2 a1p a2p;obtain⟨e,ep,b1,b2⟩:=min2 a3p e5p;refine⟨e,ep,λx y hx hy hxy he=>?_⟩;have hab:Fl (y-x)<=e:=by rw[Ml];clear h1 h2;constructor <;> grind
  have hab1:Fl (y-x)<=e1:=by clear h1 h2;grind
  have hab2:Fl (y-x)<=e2:=by clear h1 h2;grind
  obtain⟨i1,i2,i3,i4,i5⟩:=h1 x y hx hy hab1;rcases Gi d (Fl (ev f x))with hf|hf
  ·obtain⟨s1,s2⟩:=h2 x y hx hy hab2 hf;obtain⟨j1,j2⟩:=i2 hf;refine .inl ⟨?_,s1,s2⟩;have:=i4 j1 j2;simp only[vv];rw[GA (x:=x) (p:=f) j2,GA (x:=y) (p:=f) (by rw[j1];exact j2),j1,this]
  ·have hg1:d<=Fl (ev g x):=by
    rcases i1 with i|i
    ·exact absurd i (Jr.2 hf)
    ·exact i
   obtain⟨g1,g2⟩:=i3 hg1;have i5:=i5 g1 g2;have hD:d3<=Fl (dv f x):=by
    rcases Gi d3 (Fl (dv f x))with h'|h'
    ·exact h'
    ·have h5:=He (x:=k) (a:=k) (by unfold Fl;split <;> clear h1 h2 <;> grind) (Rat.le_of_lt h');rw[<-hg]at h5;have:k*d3=d3*k:=by grind
     exact absurd (Zl hg1 h5) (Jr.2 (by rw[this];exact d3b))
   have hm:=LN hx hy hR hxy (by clear h1 h2;grind:y-x<=e3) hD e3b;have s1:Fh (ev g x)=Fh (dv f x):=by rw[hg,S0,Hz.2 hk,Kq]
   have s2:Fh (ev g y)=Fh (dv f y):=by rw[hg,S0,Hz.2 hk,Kq]
   obtain⟨s,hs⟩:=nmE (Fh (ev g x));rw[<-hs]at g1 g2 i5 s1;rw[g1]at s2;have v1:=tc0 (f:=f) (l:=l) hs.symm g2;have v2:=tc0 (f:=f) (l:=l) g1 g2;rw[<-i5]at v2;rw[<-s1]at hm;have hw:Sm f x y->Sm w x y:=λhf=>by
    rcases Gi d4 (Fl (ev u x))with hu|hu
    ·have hu:=P7 hu (Mi hx hy hR (Zl hab b2) e5b);exact Qwq h hu.1 hu.2 hf
    ·have hw:d4<=Fl (ev w x):=by
      rcases Gi d4 (Fl (ev w x))with h'|h'
      ·exact h'
      ·have q1:=He (x:=dv w x) (y:=ev u x) (a:=AO R w) (by rw[<-jT];exact uB hx hx w) (Qt hu);have q2:=He (x:=ev w x) (y:=dv u x) (b:=AO R u) (Qt h') (by rw[<-jT];exact uB hx hx u);have q3:=Sx (dv w x*ev u x) (ev w x*dv u x);rw[<-QB h]at q3;have:d4*(AO R w+AO R u)=AO R w*d4+d4*AO R u:=by grind
       rw[this]at d4b;exact absurd (Zl hD (Zl q3 (by clear h1 h2;grind:_<=AO R w*d4+d4*AO R u))) (Jr.2 d4b)
     have hw:=P7 hw (Mi hx hy hR (Zl hab (by clear h1 h2;grind)) e4b);exact sZ hw.1 hw.2
   have lx:Py f x=if Fh (ev f x)≠0 then Fh (ev f x)else s:=by rw[s1];rfl
   have ly:Py f y=if Fh (ev f y)≠0 then Fh (ev f y)else s:=by rw[s2];rfl
   clear h1 h2 i1 i2 i3 i4;have hsv:s=1\/s=-1:=by rcases Gb (ev g x)with⟨e,_⟩|⟨e,_⟩|⟨e,_⟩ <;> omega
   unfold Qd7;simp only[vv,v1,v2];rcases hsv with rfl|rfl
   ·have hm:=Hz.1 hm;rcases Gb (ev f x)with⟨p1,p2⟩|⟨p1,p2⟩|⟨p1,p2⟩
    ·rcases Gb (ev f y)with⟨q1,q2⟩|⟨q1,q2⟩|⟨q1,q2⟩
     ·rw[p1,q1];have hsm:=sZ (p:=f) (x:=x) (y:=y) (by rw[p1,q1]) (by rw[p1];decide);exact .inl ⟨rfl,hsm,hw hsm⟩
     ·rw[lx,ly,p1,q1];refine .inr ⟨by simp;omega,by decide,by decide,by decide,by decide⟩
     ·rw[lx,ly,p1,q1];refine .inr ⟨by simp;omega,by decide,by decide,by decide,by decide⟩
    ·have q1:=Hz.2 (show 0<ev f y by grind);have hsm:Sm f x y:=⟨by rw[lx,q1,p1];rfl,by rw[lx,ly,q1,p1];rfl,by rw[lx,p1];decide⟩;rw[p1,q1];exact .inl ⟨rfl,hsm,hw hsm⟩
    ·have q1:=Hz.2 (show 0<ev f y by grind);have hsm:Sm f x y:=⟨by rw[lx,q1,p1];rfl,by rw[lx,ly,q1,p1],by rw[lx,p1];decide⟩;rw[p1,q1];exact .inl ⟨rfl,hsm,hw hsm⟩
   ·have hm:=Pk.1 hm;rcases Gb (ev f x)with⟨p1,p2⟩|⟨p1,p2⟩|⟨p1,p2⟩
    ·have q1:=Pk.2 (show ev f y<0 by grind);have hsm:Sm f x y:=⟨by rw[lx,q1,p1];rfl,by rw[lx,ly,q1,p1],by rw[lx,p1];decide⟩;rw[p1,q1];exact .inl ⟨rfl,hsm,hw hsm⟩
    ·have q1:=Pk.2 (show ev f y<0 by grind);have hsm:Sm f x y:=⟨by rw[lx,q1,p1];rfl,by rw[lx,ly,q1,p1];rfl,by rw[lx,p1];decide⟩;rw[p1,q1];exact .inl ⟨rfl,hsm,hw hsm⟩
    ·rcases Gb (ev f y)with⟨q1,q2⟩|⟨q1,q2⟩|⟨q1,q2⟩
     ·rw[lx,ly,p1,q1];refine .inr ⟨by simp;omega,by decide,by decide,by decide,by decide⟩
     ·rw[lx,ly,p1,q1];refine .inr ⟨by simp;omega,by decide,by decide,by decide,by decide⟩
     ·rw[p1,q1];have hsm:=sZ (p:=f) (x:=x) (y:=y) (by rw[p1,q1]) (by rw[p1];decide);exact .inl ⟨rfl,hsm,hw hsm⟩
theorem Q0n(z:Rat):∃n:Nat,z<=(n:Rat):=by
 refine⟨z.ceil.toNat,?_⟩;have h1:z<=(z.ceil:Rat):=Rat.le_ceil;have h2:(z.ceil:Rat)<=((z.ceil.toNat:Int):Rat):=Je.2 (Int.self_le_toNat _);exact Zl h1 h2
theorem XQ{z e:Rat}(he:0<e):∃n:Nat,z<=(n:Rat)*e:=by
 obtain⟨n,hn⟩:=Q0n (z / e);exact⟨n,by have:=Ze hn (Qt he);rwa[Hg he]at this⟩
theorem FG{R x y t:Rat}(hx:Fl x<=R)(hy:Fl y<=R)(h1:x<=t)(h2:t<=y):Fl t<=R:=by
 rw[Ml]at *;constructor <;> grind
def Qa0(f w:Up)(L:Uq)(x y:Rat):Prop :=
 vv L y<=vv L x/\(vv L x=vv L y->Sm f x y/\Sm w x y)/\(vv L x=vv L y+1->Py f x≠0/\Py f y=-Py f x)
theorem iW{f w:Up}{L:Uq}{x y:Rat}(h:Qd7 f w L x y):Qa0 f w L x y:=by
 rcases h with⟨h1,h2,h3⟩|⟨h1,h2,h3,_⟩
 ·exact⟨by omega,λ_=>⟨h2,h3⟩,λh=>by omega⟩
 ·exact⟨by omega,λh=>by omega,λ_=>⟨h2,h3⟩⟩
theorem sX{w:Up}{x y z:Rat}(h1:Sm w x y)(h2:Sm w y z):Sm w x z:=⟨by rw[h2.s,h1.l],by rw[h2.l,h1.l],h1.n⟩
theorem bJ{f w:Up}{L:Uq}{x y z:Rat}(h:Qa0 f w L x y)(h':Qa0 f w L y z):Qa0 f w L x z:=by
 obtain⟨a1,a2,a3⟩:=h;obtain⟨b1,b2,b3⟩:=h';refine⟨by omega,λh=>?_,λh=>?_⟩
 ·obtain⟨s1,s2⟩:=a2 (by omega);obtain⟨s3,s4⟩:=b2 (by omega);exact⟨sX s1 s3,sX s2 s4⟩
 ·by_cases e:vv L x=vv L y
  ·obtain⟨s1,_⟩:=a2 e;obtain⟨s3,s4⟩:=b3 (by omega);exact⟨s1.n,by rw[s4,s1.l]⟩
  ·obtain⟨s3,s4⟩:=a3 (by omega);obtain⟨s1,_⟩:=b2 (by omega);exact⟨s3,by rw[s1.l,s4]⟩
theorem Qvg{R:Rat}(hR:0<=R){f w u:Up}{L:Uq}(hc:HF f L)(h:∀t,ev f t=ev w t*ev u t){x y:Rat}(hx:Fl x<=R)(hy:Fl y<=R)(hxy:x<y):Qa0 f w L x y:=by
 obtain⟨e,ep,hl⟩:=loc hR hc h;have key:∀n:Nat,∀x,Fl x<=R->x<y->y-x<=(n:Rat)*e->Qa0 f w L x y:=by
  intro n
  induction n with
  |zero =>
   intro x hx hxy h;exfalso;have:((0:Nat):Rat)*e=0:=by simp
   grind
  |
   succ n ih =>
   intro x hx hxy hn;rcases Gi (y-x) e with h1|h1
   ·exact iW (hl x y hx hy hxy h1)
   ·have hm:Fl (x+e)<=R:=FG hx hy (by clear hl ih;grind) (by clear hl ih;grind);have hn':(((n+1:Nat):Rat))=(n:Rat)+1:=by push_cast;rfl
    refine bJ (iW (hl x (x+e) hx hm (by clear hl ih;grind) (by clear hl ih;grind))) (ih (x+e) hm (by clear hl ih;grind) ?_);rw[hn']at hn;clear hl ih;grind
 obtain⟨n,hn⟩:=XQ (z:=y-x) ep;exact key n x hx hxy hn
theorem xG(x y:Rat):∃R:Rat,0<=R/\Fl x<=R/\Fl y<=R:=by
 refine⟨Fl x+Fl y,?_,?_,?_⟩ <;> (have:=Hx x;have:=Hx y;grind)
theorem Tg(t:Rat):ev [1] t=1:=by simp only[ev];grind
theorem A5{f:Up}{L:Uq}(hc:HF f L){x y:Rat}(hxy:x<y):vv L y<=vv L x:=by
 obtain⟨R,hR,hx,hy⟩:=xG x y;exact(Qvg hR hc (w:=f) (u:=[1]) (λt=>by rw[Tg];grind) hx hy hxy).1
theorem KU{f w u:Up}{L:Uq}(hc:HF f L)(h:∀t,ev f t=ev w t*ev u t){x y:Rat}(hxy:x<y)(he:vv L x=vv L y):Sm w x y:=by
 obtain⟨R,hR,hx,hy⟩:=xG x y;exact((Qvg hR hc h hx hy hxy).2.1 he).2
theorem kU{f:Up}{L:Uq}(hc:HF f L){x y:Rat}(hxy:x<y)(he:vv L x=vv L y):Sm f x y :=
 KU hc (w:=f) (u:=[1]) (λt=>by rw[Tg];grind) hxy he
theorem kW{f:Up}{L:Uq}(hc:HF f L){x y:Rat}(hxy:x<y)(he:vv L x=vv L y+1):Py f x≠0/\Py f y=-Py f x:=by
 obtain⟨R,hR,hx,hy⟩:=xG x y;exact(Qvg hR hc (w:=f) (u:=[1]) (λt=>by rw[Tg];grind) hx hy hxy).2.2 he
theorem Qls{f:Up}{L:Uq}(hc:HF f L)(R:Rat)(hR:0<=R):∃e:Rat,0<e/\∀x y,Fl x<=R->Fl y<=R->x<y->y-x<=e->vv L x<=vv L y+1:=by
 obtain⟨e,ep,hl⟩:=loc hR hc (w:=f) (u:=[1]) (λt=>by rw[Tg];grind);refine⟨e,ep,λx y hx hy hxy he=>?_⟩;rcases hl x y hx hy hxy he with⟨h,_⟩|⟨h,_⟩ <;> omega
theorem UB{p:Up}{x:Rat}(h:Fh (ev p x)≠0):∃e:Rat,0<e/\∀y,Fl (y-x)<=e->Fh (ev p y)=Fh (ev p x):=by
 have hd:=C6 (x:=ev p x) λh0=>h (Gs.2 h0)
 have hR:0<=Fl x+1:=by have:=Hx x;grind
 obtain⟨e,e1,e2,e3⟩:=Hj (Nb hR p) hd;refine⟨e,e1,λy hy=>(P7 Qr (Mi (x:=x) (by grind) ?_ hR hy e3)).1⟩;have:=Sx (y-x) x;have e:y-x+x=y:=by grind
 rw[e]at this;grind
theorem Qsv{R M:Rat}{p:Up}(hM:M=ddB R p)(hR:0<=R){h:Rat}(hh:0<h):∀(n:Nat) (x:Rat),Fl x<=R->Fl (x+(n:Rat)*h)<=R->(∀t,x<=t->t<=x+(n:Rat)*h->0<=dv p t)->ev p x-(n:Rat)*(h*h*M)<=ev p (x+(n:Rat)*h)
 |
  0,x,_,_,_=>by
  have e1:x+((0:Nat):Rat)*h=x:=by rw[show((0:Nat):Rat)=0 from rfl];grind
  have e2:((0:Nat):Rat)*(h*h*M)=0:=by simp
  rw[e1,e2];grind
 |
  n+1,x,hx,hy,hd=>by
  have hn':(((n+1:Nat):Rat))=(n:Rat)+1:=by push_cast;rfl
  rw[hn']at hy hd ⊢;have hn0:(0:Rat)<=(n:Rat):=Xi;have hnh:=Bn hn0 (Qt hh);have e1:x+((n:Rat)+1)*h=(x+h)+(n:Rat)*h:=by grind
  rw[e1]at hy hd ⊢;have hxh:Fl (x+h)<=R:=FG hx hy (by clear hd;grind) (by clear hd;grind);have ih:=Qsv hM hR hh n (x+h) hxh hy λt h1 h2=>hd t (by clear hd;grind) h2
  have h0:=hd x Qr (by clear hd;grind);have h1:=Qsi p (x+h) x;have h2:=Qg5 hxh hx p;rw[<-hM,Ml]at h2;have h3:=Z1 h2.1 (Bn (Qt hh) (Qt hh));have h4:=Bn (Qt hh) h0;have e2:x+h-x=h:=by grind
  rw[e2]at h1;clear hd hx hy hxh;grind
theorem Qy9{p:Up}{x y:Rat}(hxy:x<y)(hd:∀t,x<=t->t<=y->0<=dv p t):ev p x<=ev p y:=by
 obtain⟨R,hR,hx,hy⟩:=xG x y;rcases Gi (ev p x) (ev p y)with h|h
 ·exact h
 ·exfalso;obtain⟨M,hM⟩:=nmE (ddB R p);have hM0:=CN hR p;rw[<-hM]at hM0;obtain⟨e,ep,_,he⟩:=Hj (b:=(y-x)*M) (d:=ev p x-ev p y) (Bn (by grind) hM0) (by grind);obtain⟨n,hn⟩:=XQ (z:=y-x) ep;have hn0:0<(n:Rat):=by
   rcases Gi (n:Rat) 0 with h'|h'
   ·have:=Ze h' (Qt ep);clear hd;grind
   ·exact h'
  have hh:0<(y-x) / n:=Ak (by grind) hn0;have e1:(n:Rat)*((y-x) / n)=y-x:=by rw[W7];exact Hg hn0
  have e2:x+(n:Rat)*((y-x) / n)=y:=by rw[e1];grind
  have h1:=Qsv hM hR hh n x hx (by rw[e2];exact hy) (by rw[e2];exact hd);rw[e2]at h1;have h2:(y-x) / n<=e:=by
   rcases Gi ((y-x) / n) e with h'|h'
   ·exact h'
   ·have:=Rat.mul_lt_mul_of_pos_left h' hn0;clear hd;grind
  have h3:(n:Rat)*((y-x) / n*((y-x) / n)*M)=((y-x) / n)*((y-x)*M):=by
   have:(n:Rat)*((y-x) / n*((y-x) / n)*M)=((n:Rat)*((y-x) / n))*(((y-x) / n)*M):=by grind
   rw[this,e1];grind
  have h4:=Ze h2 (Bn (x:=y-x) (y:=M) (by grind) hM0);rw[h3]at h1;clear hd;grind
theorem Qqn{p:Up}{x y:Rat}(hxy:x<y)(hd:∀t,x<=t->t<=y->0<dv p t):ev p x<ev p y:=by
 have hx:=hd x Qr (by grind);have hR:0<=Fl x+1:=by have:=Hx x;grind
 obtain⟨e,e1,e2,e3⟩:=Hj (CN hR p) hx;obtain⟨f,f1,f2,f3⟩:=min2 (a:=e) (b:=y-x) e1 (by grind);have hq:Fl (x+f)<=Fl x+1:=by
  have:=Sx x f;have:Fl f=f:=by unfold Fl;split <;> grind
  clear hd;grind
 have h1:=LN (p:=p) (x:=x) (y:=x+f) (R:=Fl x+1) (e:=e) (d:=dv p x) (by clear hd;grind) hq hR (by grind) (by grind) (by unfold Fl;split <;> clear hd <;> grind) e3;rw[Hz.2 hx,Hz]at h1;rcases Classical.em (x+f=y)with e|e
 ·rw[<-e];clear hd;grind
 ·have:=Qy9 (p:=p) (x:=x+f) (y:=y) (by clear hd;grind) λt h1 h2=>Qt (hd t (by clear hd;grind) h2)
  clear hd;grind
structure Cut(c:Rat->Int):Prop where
 val:∀q,c q=1\/c q=0\/c q=-1
 mono:∀q r,q<r->c q≠1->c r=-1
 up:∀q,c q=1->∃r,q<r/\c r=1
 dn:∀q,c q=-1->∃r,r<q/\c r=-1
 lo:∃q,c q=1
 hi:∃q,c q=-1
theorem Cut.mono'{c:Rat->Int}(h:Cut c){q r:Rat}(hqr:q<r)(hr:c r≠-1):c q=1:=by
 rcases Classical.em (c q=1)with e|e
 ·exact e
 ·exact absurd (h.mono q r hqr e) hr
theorem Cut.lt{c:Rat->Int}(h:Cut c){q r:Rat}(hq:c q=1)(hr:c r=-1):q<r:=by
 rcases Gi r q with e|e
 ·rcases Classical.em (r=q)with e'|e'
  ·rw[e']at hr;omega
  ·have:=h.mono r q (by grind) (by omega);omega
 ·exact e
theorem Cut.near{c:Rat->Int}(h:Cut c){e:Rat}(he:0<e):∃x y,c x=1/\c y=-1/\y-x<=e:=by
 obtain⟨a,ha⟩:=h.lo;obtain⟨b,hb⟩:=h.hi;have he2:0<e / 2:=Ak he (by decide);have h2:e / 2*2=e:=Hg (by decide);have key:∀(n:Nat) (a:Rat),c a=1->b-a<=(n:Rat)*(e / 2)->∃x y,c x=1/\c y=-1/\y-x<=e:=by
  intro n
  induction n with
  |
   zero =>
   intro a ha hn;have:=h.lt ha hb;rw[show((0:Nat):Rat)=0 from rfl]at hn;exfalso;grind
  |
   succ n ih =>
   intro a ha hn;have hn':(((n+1:Nat):Rat))=(n:Rat)+1:=by push_cast;rfl
   rw[hn']at hn;rcases h.val (a+e / 2)with h1|h1|h1
   ·exact ih _ h1 (by grind)
   ·exact⟨a,a+e,ha,h.mono (a+e / 2) _ (by grind) (by omega),by grind⟩
   ·exact⟨a,a+e / 2,ha,h1,by grind⟩
 obtain⟨n,hn⟩:=XQ (z:=b-a) he2;exact key n a ha hn
def I5(p:Up)(c:Rat->Int):Prop:=∀d:Rat,0<d->∃x y,c x=1/\c y=-1/\∀q,x<=q->q<=y->Fl (ev p q)<d
def NZ(p:Up)(c:Rat->Int)(s:Int):Prop:=∃d:Rat,0<d/\∃x y,c x=1/\c y=-1/\∀q,x<=q->q<=y->Fh (ev p q)=s/\d<=Fl (ev p q)
def Nr(c:Rat->Int)(P:Rat->Prop):Prop:=∃x y,c x=1/\c y=-1/\∀q,x<=q->q<=y->P q
theorem bC{c:Rat->Int}{P Q:Rat->Prop}(h1:Nr c P)(h2:Nr c Q):Nr c λq=>P q/\Q q:=by
 obtain⟨x,y,a1,a2,a3⟩:=h1;obtain⟨x',y',b1,b2,b3⟩:=h2;refine⟨if x<=x' then x' else x,if y<=y' then y else y',by split <;> assumption,by split <;> assumption,λq q1 q2=>⟨a3 q ?_ ?_,b3 q ?_ ?_⟩⟩ <;> clear a3 b3 <;> grind
theorem NX{c:Rat->Int}{P Q:Rat->Prop}(h1:Nr c P)(h:∀q,P q->Q q):Nr c Q:=by
 obtain⟨x,y,a1,a2,a3⟩:=h1;exact⟨x,y,a1,a2,λq q1 q2=>h q (a3 q q1 q2)⟩
theorem rX{c:Rat->Int}(hc:Cut c){P:Rat->Prop}(h1:Nr c P):∃q,P q/\c q=1:=by
 obtain⟨x,y,a1,a2,a3⟩:=h1;exact⟨x,a3 x Qr (Qt (hc.lt a1 a2)),a1⟩
theorem Qje{c:Rat->Int}(hc:Cut c){e:Rat}(he:0<e){P:Rat->Prop}(h1:Nr c P):∃x y,c x=1/\c y=-1/\y-x<=e/\x<y/\∀q,x<=q->q<=y->P q:=by
 obtain⟨x,y,a1,a2,a3⟩:=h1;obtain⟨x',y',b1,b2,b3⟩:=hc.near he;refine⟨if x<=x' then x' else x,if y<=y' then y else y',by split <;> assumption,by split <;> assumption,by clear a3;grind,hc.lt (by split <;> assumption) (by split <;> assumption),λq q1 q2=>a3 q ?_ ?_⟩ <;> clear a3 <;> grind
theorem Qst{c:Rat->Int}(hc:Cut c):∃R:Rat,0<=R/\Nr c λq=>Fl q<=R:=by
 obtain⟨x,y,a1,a2,_⟩:=hc.near (e:=1) (by decide);obtain⟨R,hR,h1,h2⟩:=xG x y;exact⟨R,hR,x,y,a1,a2,λq q1 q2=>FG h1 h2 q1 q2⟩
theorem YQ{c:Rat->Int}(hc:Cut c)(p:Up):I5 p c\/∃s,s≠0/\NZ p c s:=by
 rcases Classical.em (I5 p c)with h|h
 ·exact .inl h
 ·refine .inr ?_;obtain⟨d,hd0⟩:=Classical.not_forall.1 h;obtain⟨dp,hd⟩:=Classical.not_imp.1 hd0;have hd:∀x y,c x=1->c y=-1->∃q,x<=q/\q<=y/\d<=Fl (ev p q):=λx y hx hy=>by
   rcases Classical.em (∃q,x<=q/\q<=y/\d<=Fl (ev p q))with h'|h'
   ·exact h'
   ·refine absurd ⟨x,y,hx,hy,λq h1 h2=>?_⟩ hd;rcases Gi d (Fl (ev p q))with h3|h3
    ·exact absurd ⟨q,h1,h2,h3⟩ h'
    ·exact h3
  obtain⟨R,hR,hn⟩:=Qst hc;have hd2:0<d / 2:=Ak dp (by decide);have h2:d / 2*2=d:=Hg (by decide);obtain⟨e,e1,_,e3⟩:=Hj (Nb hR p) hd2;obtain⟨x,y,hx,hy,hxy,_,hq⟩:=Qje hc e1 hn;obtain⟨r,r1,r2,r3⟩:=hd x y hx hy;have key:∀q,x<=q->q<=y->Fl (ev p q-ev p r)<d / 2:=λq q1 q2 =>
   Mi (hq r r1 r2) (hq q q1 q2) hR (by rw[Ml];clear hq hd;constructor <;> grind) e3
  refine⟨Fh (ev p r),λh0=>?_,d / 2,hd2,x,y,hx,hy,λq q1 q2=>⟨(P7 (d:=d) r3 ?_).1,?_⟩⟩
  ·rw[Gs.1 h0,Rl]at r3;clear hq hd key;grind
  ·have:=key q q1 q2;clear hq hd key;grind
  ·have h3:=key q q1 q2;have h4:=Sx (ev p r-ev p q) (ev p q);rw[show ev p r-ev p q+ev p q=ev p r from by clear hq hd key;grind,oO]at h4;clear hq hd key;grind
theorem Qw4{c:Rat->Int}(hc:Cut c){p:Up}{s:Int}(h1:I5 p c)(h2:NZ p c s):False:=by
 obtain⟨d,dp,h2⟩:=h2;obtain⟨q,⟨a,b⟩,_⟩:=rX hc (bC (h1 d dp) h2);exact absurd b.2 (Jr.2 a)
theorem Me{c:Rat->Int}(hc:Cut c){f p q:Up}(hf:∀t,ev f t=ev p t*ev q t)(h:I5 p c):I5 f c:=by
 intro d dp;obtain⟨R,hR,hn⟩:=Qst hc;obtain⟨e,e1,_,e3⟩:=Hj (XG hR q) dp;refine NX (bC hn (h e e1)) λt ⟨h1,h2⟩=>?_
 rw[hf];have:=He (Qt h2) (SS h1 q);exact Jr.1 λh=>absurd (Zl h this) (Jr.2 e3)
theorem ND{c:Rat->Int}{f p q:Up}(hf:∀t,ev f t=ev p t+ev q t)(h:I5 p c)(h':I5 q c):I5 f c:=by
 intro d dp;have hd2:0<d / 2:=Ak dp (by decide);have h2:d / 2*2=d:=Hg (by decide);refine NX (bC (h _ hd2) (h' _ hd2)) λt ⟨h1,h2⟩=>?_
 rw[hf];have:=Sx (ev p t) (ev q t);grind
def RS(p:Up)(c:Rat->Int)(s:Int):Prop:=∃y,c y=-1/\∀q,c q=-1->q<=y->Fh (ev p q)=s
def LS(p:Up)(c:Rat->Int)(s:Int):Prop:=∃x,c x=1/\∀q,c q=1->x<=q->Fh (ev p q)=s
theorem zM{c:Rat->Int}(hc:Cut c){p:Up}{s:Int}(h:NZ p c s):RS p c s:=by
 obtain⟨d,dp,x,y,a1,a2,a3⟩:=h;exact⟨y,a2,λq h1 h2=>(a3 q (Qt (hc.lt a1 h1)) h2).1⟩
theorem iH{c:Rat->Int}(hc:Cut c){p:Up}{s:Int}(h:NZ p c s):LS p c s:=by
 obtain⟨d,dp,x,y,a1,a2,a3⟩:=h;exact⟨x,a1,λq h1 h2=>(a3 q h2 (Qt (hc.lt h1 a2))).1⟩
theorem GR{c:Rat->Int}{p:Up}{s s':Int}(h:RS p c s)(h':RS p c s'):s=s':=by
 obtain⟨y,a1,a2⟩:=h;obtain⟨y',b1,b2⟩:=h';rcases Gi y y' with e|e
 ·rw[<-a2 y a1 Qr,<-b2 y a1 e]
 ·rw[<-a2 y' b1 (Qt e),<-b2 y' b1 Qr]
theorem Qsy{c:Rat->Int}(hc:Cut c){p:Up}(hv:I5 p c){y:Rat}(hy:c y=-1)(h:∀q,c q=-1->q<=y->0<dv p q)(q:Rat)(hq:c q=-1)(hqy:q<=y):0<ev p q:=by
 rcases Gi (ev p q) 0 with h0|h0
 ·exfalso;obtain⟨r,r1,r2⟩:=hc.dn q hq;have hr:ev p r<ev p q:=Qqn r1 λt t1 t2=>h t (by
   rcases Classical.em (r=t)with e|e
   ·rw[<-e];exact r2
   ·exact hc.mono r t (by clear h;grind) (by omega)) (Zl t2 hqy)
  obtain⟨a,b,ha,hb,hab⟩:=hv (-ev p r) (by clear h;grind);obtain⟨m,hm1,hm2,hm3⟩:∃m,c m=-1/\m<=b/\m<=r:=by
   rcases Gi b r with e|e
   ·exact⟨b,hb,Qr,e⟩
   ·exact⟨r,r2,Qt e,Qr⟩
  have h1:=hab m (Qt (hc.lt ha hm1)) hm2;have h2:ev p m<=ev p r:=by
   rcases Classical.em (m=r)with e|e
   ·rw[e];exact Qr
   ·exact Qt (Qqn (by clear h hab;grind) λt t1 t2=>h t (by
     rcases Classical.em (m=t)with e|e
     ·rw[<-e];exact hm1
     ·exact hc.mono m t (by clear h hab;grind) (by omega)) (by clear h hab;grind))
  rw[vH]at h1;clear h hab;grind
 ·exact h0
theorem vM{c:Rat->Int}(hc:Cut c){p:Up}{s:Int}(hv:I5 p c)(h:RS (Bs p) c s)(hs:s≠0):RS p c s:=by
 obtain⟨y,hy,h⟩:=h;have hsv:s=1\/s=-1:=by
  have:=h y hy Qr;rcases Gb (ev (Bs p) y)with⟨e,_⟩|⟨e,_⟩|⟨e,_⟩ <;> omega
 rcases hsv with rfl|rfl
 ·refine⟨y,hy,λq h1 h2=>Hz.2 (Qsy hc hv hy (λq h1 h2=>?_) q h1 h2)⟩;rw[<-Tt];exact Hz.1 (h q h1 h2)
 ·refine⟨y,hy,λq h1 h2=>Pk.2 ?_⟩;have:=Qsy hc (p:=D9 (-1) p) (y:=y) (λd dp=>NX (hv d dp) λq hq=>by rw[Gu,show -1*ev p q=-ev p q by grind,Ew];exact hq) hy (λq h1 h2=>by
   rw[RV,<-Tt];have:=Pk.1 (h q h1 h2);grind) q h1 h2
  rw[Gu]at this;grind
theorem Qsq{c:Rat->Int}(hc:Cut c){p:Up}(hv:I5 p c){x:Rat}(hx:c x=1)(h:∀q,c q=1->x<=q->0<dv p q)(q:Rat)(hq:c q=1)(hxq:x<=q):ev p q<0:=by
 rcases Gi 0 (ev p q)with h0|h0
 ·exfalso;obtain⟨r,r1,r2⟩:=hc.up q hq;have hr:ev p q<ev p r:=Qqn r1 λt t1 t2=>h t (by
   rcases Classical.em (t=r)with e|e
   ·rw[e];exact r2
   ·exact hc.mono' (q:=t) (r:=r) (by clear h;grind) (by omega)) (Zl hxq t1)
  obtain⟨a,b,ha,hb,hab⟩:=hv (ev p r) (by clear h;grind);obtain⟨m,hm1,hm2,hm3⟩:∃m,c m=1/\a<=m/\r<=m:=by
   rcases Gi a r with e|e
   ·exact⟨r,r2,e,Qr⟩
   ·exact⟨a,ha,Qr,Qt e⟩
  have h1:=hab m hm2 (Qt (hc.lt hm1 hb));have h2:ev p r<=ev p m:=by
   rcases Classical.em (r=m)with e|e
   ·rw[e];exact Qr
   ·exact Qt (Qqn (by clear h hab;grind) λt t1 t2=>h t (by
     rcases Classical.em (t=m)with e|e
     ·rw[e];exact hm1
     ·exact hc.mono' (q:=t) (r:=m) (by clear h hab;grind) (by omega)) (by clear h hab;grind))
  rw[vH]at h1;clear h hab;grind
 ·exact h0
theorem Qiw{c:Rat->Int}(hc:Cut c){p:Up}{s:Int}(hv:I5 p c)(h:LS (Bs p) c s)(hs:s≠0):LS p c (-s):=by
 obtain⟨x,hx,h⟩:=h;have hsv:s=1\/s=-1:=by
  have:=h x hx Qr;rcases Gb (ev (Bs p) x)with⟨e,_⟩|⟨e,_⟩|⟨e,_⟩ <;> omega
 rcases hsv with rfl|rfl
 ·refine⟨x,hx,λq h1 h2=>Pk.2 (Qsq hc hv hx (λq h1 h2=>?_) q h1 h2)⟩;rw[<-Tt];exact Hz.1 (h q h1 h2)
 ·refine⟨x,hx,λq h1 h2=>Hz.2 ?_⟩;have:=Qsq hc (p:=D9 (-1) p) (x:=x) (λd dp=>NX (hv d dp) λq hq=>by rw[Gu,show -1*ev p q=-ev p q by grind,Ew];exact hq) hx (λq h1 h2=>by
   rw[RV,<-Tt];have:=Pk.1 (h q h1 h2);grind) q h1 h2
  rw[Gu]at this;grind
theorem Qqu{c:Rat->Int}(hc:Cut c){f g:Up}{l:Uq}(h:SCl f g l):I5 f c->I5 g c->False:=by
 induction h with
 |
  @base f g k hk hg =>
  intro _ hv;obtain⟨q,hq,_⟩:=rX hc (hv (Fl k) (C6 hk));rw[hg]at hq;grind
 |
  @step f g h l a b q ha hb he hl ih =>
  intro hf hg;refine ih hg ?_;have h1:I5 (G8 q g) c:=Me hc (p:=g) (q:=q) (λt=>by rw[Fi];grind) hg;have h2:I5 (D9 (-a) f) c:=Me hc (p:=f) (q:=[-a]) (λt=>by rw[Gu];simp only[ev];grind) hf;have h3:I5 (Sy (G8 q g) (D9 (-a) f)) c:=ND (λt=>G0 t _ _) h1 h2;refine Me hc (p:=Sy (G8 q g) (D9 (-a) f)) (q:=[1 / b]) (λt=>?_) h3;have:=he t;rw[G0,Fi,Gu];simp only[ev];have hbb:1 / b*b=1:=Hg hb;have:ev q t*ev g t+-a*ev f t=b*ev h t:=by rw[show -a*ev f t=-(a*ev f t) by grind,he t];grind
  rw[this];have:b*ev h t*(1 / b+t*0)=ev h t*(1 / b*b):=by grind
  rw[this,hbb];grind
theorem xU{c:Rat->Int}(hc:Cut c){f g:Up}{k:Rat}(h:∀t,ev g t=k*ev f t)(hv:I5 f c):I5 g c :=
 Me hc (p:=f) (q:=[k]) (λt=>by rw[h];simp only[ev];grind) hv
theorem Qq4{c:Rat->Int}(hc:Cut c){f:Up}{L:Uq}(h:HF f L)(hv:I5 f c):∃s,s≠0/\NZ (Bs f) c s:=by
 rcases YQ hc (Bs f)with h1|h1
 ·exfalso;rcases h with⟨k,hk,hf,_⟩|⟨g,l,k,hk,hg,h,_⟩
  ·obtain⟨q,hq,_⟩:=rX hc (hv (Fl k) (C6 hk));rw[hf]at hq;grind
  ·exact Qqu hc h hv (xU hc (λt=>by rw[hg,Tt]) h1)
 ·exact h1
theorem aY{c:Rat->Int}(hc:Cut c){f w u:Up}{L:Uq}(h:HF f L)(hf:∀t,ev f t=ev w t*ev u t)(hv:I5 w c):∃s,s≠0/\NZ (Bs w) c s:=by
 rcases YQ hc (Bs w)with h1|h1
 ·exfalso;obtain⟨s,_,hs⟩:=Qq4 hc h (Me hc hf hv);refine Qw4 hc ?_ hs;have a1:I5 (G8 (Bs w) u) c:=Me hc (λt=>Fi t _ _) h1;have a2:I5 (G8 w (Bs u)) c:=Me hc (λt=>Fi t _ _) hv;refine ND (λt=>?_) a1 a2;rw[Tt,QB hf,Fi,Fi,Tt,Tt]
 ·exact h1
theorem Qg2{c:Rat->Int}(hc:Cut c){q:Rat}(h:c q=0){x y:Rat}(hx:c x=1)(hy:c y=-1):x<=q/\q<=y:=by
 constructor
 ·rcases Gi x q with e|e
  ·exact e
  ·have:=hc.mono q x e (by omega);omega
 ·rcases Gi q y with e|e
  ·exact e
  ·have:=hc.mono y q e (by omega);omega
theorem SZ{c:Rat->Int}(hc:Cut c){p:Up}{q:Rat}(h:c q=0)(hv:I5 p c):ev p q=0:=by
 rcases Classical.em (ev p q=0)with e|e
 ·exact e
 ·obtain⟨x,y,hx,hy,hq⟩:=hv _ (C6 e);obtain⟨h1,h2⟩:=Qg2 hc h hx hy;have:=hq q h1 h2;grind
theorem rJ{c:Rat->Int}(hc:Cut c){p:Up}{q:Rat}{s:Int}(h:c q=0)(hv:NZ p c s):Fh (ev p q)=s:=by
 obtain⟨d,dp,x,y,hx,hy,hq⟩:=hv;obtain⟨h1,h2⟩:=Qg2 hc h hx hy;exact(hq q h1 h2).1
theorem mI{c:Rat->Int}(hc:Cut c){y z:Rat}(hy:c y=-1)(hz:c z=-1):∃q,c q=-1/\q<y/\q<z:=by
 obtain⟨a,a1,a2⟩:=hc.dn y hy;obtain⟨b,b1,b2⟩:=hc.dn z hz;rcases Gi a b with e|e
 ·exact⟨a,a2,a1,by grind⟩
 ·exact⟨b,b2,by grind,b1⟩
theorem CP{c:Rat->Int}(hc:Cut c){y z:Rat}(hy:c y=1)(hz:c z=1):∃q,c q=1/\y<q/\z<q:=by
 obtain⟨a,a1,a2⟩:=hc.up y hy;obtain⟨b,b1,b2⟩:=hc.up z hz;rcases Gi a b with e|e
 ·exact⟨b,b2,by grind,b1⟩
 ·exact⟨a,a2,a1,by grind⟩
theorem Qjd{f w u:Up}{L:Uq}(h:HF f L)(hf:∀t,ev f t=ev w t*ev u t){x y:Rat}(hv:vv L x=vv L y){c:Rat->Int}(hc:Cut c)(hx:c x=1)(hy:c y≠1):¬I5 w c:=λhw=>by
 have hxy:x<y:=by
  rcases Gi y x with e|e
  ·rcases Classical.em (y=x)with e'|e'
   ·rw[e']at hy;exact absurd hx hy
   ·have:=hc.mono y x (by grind) hy;omega
  ·exact e
 have hwv:=KU h hf hxy hv;rcases hc.val y with e|e|e
 ·exact hy e
 ·have:=SZ hc e hw;have:=hwv.s;rw[Gs.2 (by assumption)]at this;exact hwv.n this.symm
 ·obtain⟨s,hs,hd⟩:=aY hc h hf hw;obtain⟨a,ha,hal⟩:=Qiw hc hw (iH hc hd) hs;obtain⟨b,hb,hbr⟩:=vM hc hw (zM hc hd) hs;obtain⟨q,q1,q2,q3⟩:=CP hc hx ha;obtain⟨r,r1,r2,r3⟩:=mI hc hb e;have e1:=hal q q1 (Qt q3);have e2:=hbr r r1 (Qt r2);have hqr:=hc.lt q1 r1;have v1:vv L q<=vv L x:=A5 h q2;have v2:vv L y<=vv L r:=A5 h r3;have v3:vv L r<=vv L q:=A5 h hqr;have s1:=(KU h hf q2 (by omega)).s;have s2:=(KU h hf (x:=x) (y:=r) (by grind) (by omega)).s;omega
theorem kX{f:Up}{L:Uq}(h:HF f L){x y:Rat}(hxy:x<y)(hv:vv L x≠vv L y){d:Rat}(dp:0<d):∃q,x<=q/\q<=y/\Fl (ev f q)<d:=by
 obtain⟨R,hR,hx,hy⟩:=xG x y;obtain⟨e1,e1p,hl⟩:=loc hR h (w:=f) (u:=[1]) (λt=>by rw[Tg];grind);obtain⟨e2,e2p,_,e2b⟩:=Hj (Nb hR f) dp;obtain⟨e,ep,h1,h2⟩:=min2 e1p e2p;have key:∀n:Nat,∀x,Fl x<=R->x<y->vv L x≠vv L y->y-x<=(n:Rat)*e->∃q,x<=q/\q<=y/\Fl (ev f q)<d:=by
  intro n
  induction n with
  |zero=>intro x hx hxy _ hn;rw[show((0:Nat):Rat)=0 from rfl]at hn;exfalso;clear hl;grind
  |
   succ n ih =>
   intro x hx hxy hv hn;have hstep:∀z,Fl z<=R->x<z->z-x<=e->vv L x≠vv L z->Fl (ev f z)<d:=λz hz hxz hze hv=>by
    rcases hl x z hx hz hxz (Zl hze h1)with⟨p,_⟩|⟨_,p1,p2,p3,p4⟩
    ·exact absurd p hv
    ·have hd:=Mi (p:=f) hx hz hR (e:=e2) (d:=d) (by rw[Ml];clear hl ih;constructor <;> grind) e2b;rw[<-p3]at p1 p4;clear hl ih p2 p3;rw[vH]at *;rcases Gb (ev f x)with⟨a,a'⟩|⟨a,a'⟩|⟨a,a'⟩ <;> rcases Gb (ev f z)with⟨b,b'⟩|⟨b,b'⟩|⟨b,b'⟩ <;> rw[a,b]at p4 <;> first|(exfalso;revert p4;decide)|skip
     all_goals first|(constructor <;> grind)|(exfalso;omega)
   rcases Gi (y-x) e with h3|h3
   ·exact⟨y,Qt hxy,Qr,hstep y hy hxy h3 hv⟩
   ·have hm:Fl (x+e)<=R:=FG hx hy (by clear hl ih hstep;grind) (by clear hl ih hstep;grind);rcases Classical.em (vv L x=vv L (x+e))with e0|e0
    ·have hn':(((n+1:Nat):Rat))=(n:Rat)+1:=by push_cast;rfl
     rw[hn']at hn;obtain⟨q,q1,q2,q3⟩:=ih (x+e) hm (by clear hl ih hstep;grind) (by omega) (by clear hl ih hstep;grind);exact⟨q,by clear hl ih hstep;grind,q2,q3⟩
    ·exact⟨x+e,by clear hl ih hstep;grind,by clear hl ih hstep;grind,hstep (x+e) hm (by clear hl ih hstep;grind) (by clear hl ih hstep;grind) e0⟩
 obtain⟨n,hn⟩:=XQ (z:=y-x) ep;exact key n x hx hxy hv hn
theorem Qyr{p:Up}{x:Rat}(h:Py p x≠0):∃e:Rat,0<e/\∀y,x<y->y-x<=e->Fh (ev p y)=Py p x:=by
 by_cases h0:Fh (ev p x)=0
 ·have hx:=Gs.1 h0;rw[bV h0]at h ⊢;have hR:0<=Fl x+1:=by have:=Hx x;grind
  obtain⟨e,e1,e2,e3⟩:=Hj (CN hR p) (C6 (x:=dv p x) λh'=>h (Gs.2 h'));refine⟨e,e1,λy h1 h2=>?_⟩;have hy:Fl y<=Fl x+1:=by
   have:=Sx x (y-x);have e:x+(y-x)=y:=by grind
   have e':Fl (y-x)=y-x:=by unfold Fl;split <;> grind
   rw[e,e']at this;grind
  have:=LN (p:=p) (by grind) hy hR h1 h2 Qr e3;rw[hx]at this;rw[<-this];congr 1;grind
 ·rw[Aq h0]at h ⊢;obtain⟨e,e1,e2⟩:=UB h;exact⟨e,e1,λy h1 h2=>e2 y (by rw[Ml];constructor <;> grind)⟩
def cq(P:Up)(lo hi q:Rat):Int:=if q<=lo then 1 else if hi<q then -1 else if Fh (ev P q)=0 then 0 else if Fh (ev P q)=Py P lo then 1 else -1
structure Vt(P:List Rat)(L:List (List Rat))(lo hi:Rat):Prop where
 s:HF P L
 l:lo<hi
 v:vv L lo=vv L hi+1
variable{P:Up}{L:Uq}{lo hi:Rat}
theorem Aj{q:Rat}(h:q<=lo):cq P lo hi q=1:=by unfold cq;rw[if_pos h]
theorem UC{q:Rat}(h:lo<hi)(h':hi<q):cq P lo hi q=-1:=by unfold cq;rw[if_neg (by grind),if_pos h']
theorem Iv{q:Rat}(h1:lo<q)(h2:q<=hi):cq P lo hi q=if Fh (ev P q)=0 then 0 else if Fh (ev P q)=Py P lo then 1 else -1:=by
 unfold cq;rw[if_neg (by grind),if_neg (by grind)]
theorem Vt.two(V:Vt P L lo hi){q:Rat}(h1:lo<q)(h2:q<=hi):vv L q=vv L lo/\cq P lo hi q=1/\Fh (ev P q)=Py P lo\/vv L q=vv L hi/\cq P lo hi q≠1/\Py P q=-Py P lo/\Py P lo≠0:=by
 have a:=A5 V.s h1;have b:vv L hi<=vv L q:=by
  rcases Classical.em (q=hi)with e|e
  ·rw[e];exact Ql _
  ·exact A5 V.s (by grind)
 have hv:=V.v;rcases(show vv L q=vv L lo\/vv L q=vv L hi by omega)with e|e
 ·have hs:=kU V.s h1 e.symm;refine .inl ⟨e,?_,hs.s⟩;rw[Iv h1 h2,hs.s,if_neg hs.n,if_pos rfl]
 ·obtain⟨o1,o2⟩:=kW V.s h1 (by omega);refine .inr ⟨e,?_,o2,o1⟩;rw[Iv h1 h2]
  split
  ·decide
  ·rename_i h0;rw[Aq h0]at o2;rw[if_neg (by omega)];decide
theorem Vt.lowlo(V:Vt P L lo hi):Py P lo≠0:=(kW V.s V.l V.v).1
theorem Vt.eq_lo(V:Vt P L lo hi){q:Rat}(h1:lo<q)(h2:q<=hi)(h:cq P lo hi q=1):vv L q=vv L lo:=by
 rcases V.two h1 h2 with⟨e,_⟩|⟨_,e,_⟩
 ·exact e
 ·exact absurd h e
theorem Vt.eq_hi(V:Vt P L lo hi){q:Rat}(h1:lo<q)(h2:q<=hi)(h:cq P lo hi q≠1):vv L q=vv L hi:=by
 rcases V.two h1 h2 with⟨_,e,_⟩|⟨e,_⟩
 ·exact absurd e h
 ·exact e
theorem Vt.hi1(V:Vt P L lo hi):cq P lo hi hi≠1:=λh=>by have:=V.eq_lo V.l Qr h;have:=V.v;omega
theorem Vt.cut(V:Vt P L lo hi):Cut (cq P lo hi) where
 val q:=by unfold cq;split <;> (try split) <;> (try split) <;> (try split) <;> simp
 mono q r h h1:=by
  have hq:lo<q:=by
   rcases Gi q lo with e|e
   ·exact absurd (Aj e) h1
   ·exact e
  rcases Gi r hi with e|e
  ·have e1:=V.eq_hi hq (by grind) h1;rcases V.two (q:=r) (by grind) e with⟨e2,_⟩|⟨e2,_,e3,e4⟩
   ·have:=A5 V.s h;have:=V.v;omega
   ·have hs:=kU V.s h (by omega);rcases V.two hq (by grind)with⟨e5,_⟩|⟨_,_,e5,_⟩
    ·have:=V.v;omega
    ·rw[Iv (by grind) e,hs.s,if_neg hs.n,e5,if_neg (by omega)]
  ·exact UC V.l e
 up q h:=by
  rcases Gi q lo with e|e
  ·obtain⟨d,dp,hd⟩:=Qyr V.lowlo;obtain⟨f,fp,f1,f2⟩:=min2 (a:=d) (b:=hi-lo) dp (by have:=V.l;grind);have h1:lo<lo+f:=by clear hd;grind
   have h2:lo+f<=hi:=by clear hd;grind
   have:=hd (lo+f) h1 (by clear hd;grind);exact⟨lo+f,by clear hd;grind,by rw[Iv h1 h2,this,if_neg V.lowlo,if_pos rfl]⟩
  ·have hh:q<=hi:=by
    rcases Gi q hi with e'|e'
    ·exact e'
    ·have:=UC (P:=P) V.l e';omega
   rcases V.two e hh with⟨e1,_,e2⟩|⟨_,e1,_⟩
   ·have hn:q≠hi:=λh=>by rw[h]at e1;have:=V.v;omega
    obtain⟨d,dp,hd⟩:=UB (p:=P) (x:=q) (by rw[e2];exact V.lowlo);obtain⟨f,fp,f1,f2⟩:=min2 (a:=d) (b:=hi-q) dp (by clear hd;grind);have:=hd (q+f) (by rw[Ml];clear hd;constructor <;> grind);exact⟨q+f,by clear hd;grind,by rw[Iv (by clear hd;grind) (by clear hd;grind),this,e2,if_neg V.lowlo,if_pos rfl]⟩
   ·exact absurd h e1
 dn q h:=by
  have hq:lo<q:=by
   rcases Gi q lo with e|e
   ·have:=Aj (P:=P) (hi:=hi) e;omega
   ·exact e
  rcases Gi q hi with e|e
  ·rw[Iv hq e]at h
   split at h
   ·cases h
   rename_i h0
   split at h
   ·cases h
   rename_i h1;obtain⟨d,dp,hd⟩:=UB h0;obtain⟨f,fp,f1,f2⟩:=min2 (a:=d) (b:=(q-lo) / 2) dp (Ak (by clear hd;grind) (by decide));have h2:(q-lo) / 2*2=q-lo:=Hg (by decide);have:=hd (q-f) (by rw[Ml];clear hd;constructor <;> grind);exact⟨q-f,by clear hd;grind,by rw[Iv (by clear hd;grind) (by clear hd;grind),this,if_neg h0,if_neg h1]⟩
  ·have h2:(q-hi) / 2*2=q-hi:=Hg (by decide);exact⟨q-(q-hi) / 2,by grind,UC V.l (by grind)⟩
 lo:=⟨lo,Aj Qr⟩
 hi:=⟨hi+1,UC V.l (by grind)⟩
theorem Vt.van(V:Vt P L lo hi):I5 P (cq P lo hi):=by
 have hc:=V.cut;rcases YQ hc P with h|⟨s,hs,h⟩
 ·exact h
 ·exfalso;have e1:s=Py P lo:=by
   obtain⟨x,hx,hx1⟩:=iH hc h;obtain⟨q,q1,q2,q3⟩:=CP hc hx (Aj (P:=P) (hi:=hi) (Qr (a:=lo)));have hq:q<=hi:=by
    rcases Gi q hi with e|e
    ·exact e
    ·have:=UC (P:=P) V.l e;omega
   rcases V.two q3 hq with⟨_,_,e⟩|⟨_,e,_⟩
   ·rw[<-hx1 q q1 (Qt q2),e]
   ·exact absurd q1 e
  rcases hc.val hi with e|e|e
  ·exact V.hi1 e
  ·have h0:=rJ hc e h;rw[Iv V.l Qr]at e
   split at e
   ·omega
   ·split at e <;> omega
  ·obtain⟨y,hy,hy1⟩:=zM hc h;obtain⟨q,q1,q2,q3⟩:=mI hc hy e;have hq:lo<q:=hc.lt (Aj (P:=P) (hi:=hi) (Qr (a:=lo))) q1;have:=hy1 q q1 (Qt q2);rw[Iv hq (Qt q3),this,if_neg hs,if_pos e1]at q1;cases q1
def nP(w:Up)(lo hi:Rat):Prop:=Fh (ev w hi)=0\/Fh (ev w hi)≠Py w lo
theorem Vt.has(V:Vt P L lo hi){w u:Up}(hf:∀t,ev P t=ev w t*ev u t){a b:Rat}(h1:lo<=a)(h2:a<b)(h3:b<=hi):nP w a b↔I5 w (cq P lo hi)/\cq P lo hi a=1/\cq P lo hi b≠1:=by
 have hc:=V.cut;have smno:vv L a=vv L b->¬nP w a b:=λh hh=>by
  have:=KU V.s hf h2 h;rcases hh with e|e
  ·rw[this.s]at e;exact this.n e
  ·exact e this.s
 by_cases ha:cq P lo hi a=1
 ·by_cases hb:cq P lo hi b=1
  ·have e1:=V.eq_lo (by grind) h3 hb;have e2:vv L a=vv L lo:=by
    rcases Classical.em (lo=a)with e|e
    ·rw[e]
    ·exact V.eq_lo (by grind) (by grind) ha
   exact⟨λh=>absurd h (smno (by omega)),λh=>absurd hb h.2.2⟩
  ·have e1:=V.eq_hi (by grind) h3 hb;have e2:vv L a=vv L lo:=by
    rcases Classical.em (lo=a)with e|e
    ·rw[e]
    ·exact V.eq_lo (by grind) (by grind) ha
   have left:∀s,LS w (cq P lo hi) s->s=Py w a:=λs hs=>by
    obtain⟨x,hx,hx1⟩:=hs;obtain⟨q,q1,q2,q3⟩:=CP hc hx ha;have hqb:q<b:=by
     rcases Gi b q with e|e
     ·rcases Classical.em (b=q)with e'|e'
      ·rw[e']at hb;exact absurd q1 hb
      ·have:=hc.mono b q (by clear hx1 smno;grind) hb;omega
     ·exact e
    have:=V.eq_lo (q:=q) (by clear hx1 smno;grind) (by clear hx1 smno;grind) q1;rw[<-(KU V.s hf q3 (by omega)).s,hx1 q q1 (Qt q2)]
   have right:∀s,RS w (cq P lo hi) s->cq P lo hi b=-1->s=Fh (ev w b):=λs hs hb=>by
    obtain⟨y,hy,hy1⟩:=hs;obtain⟨q,q1,q2,q3⟩:=mI hc hy hb;have hqa:=hc.lt ha q1;have:=V.eq_hi (q:=q) (by clear hy1 smno;grind) (by clear hy1 smno;grind) (by omega);have hs:=KU V.s hf q3 (by omega);have hl:=hy1 q q1 (Qt q2);have h0:Fh (ev w q)≠0:=by
     have hs2:=KU V.s hf (x:=q) (y:=b) q3 (by omega);intro h0;obtain⟨r,r1,r2⟩:=hc.dn q q1;have har:=hc.lt ha r2;have:=V.eq_hi (q:=r) (by clear hy1 smno;grind) (by clear hy1 smno;grind) (by omega);have hs3:=KU V.s hf (x:=r) (y:=q) r1 (by omega);have hs4:=hs3.s;rw[h0]at hs4;exact hs3.n hs4.symm
    rw[hs.s,Aq h0,hl]
   refine⟨λh=>⟨?_,ha,hb⟩,λ⟨hw,_,_⟩=>?_⟩
   ·rcases YQ hc w with e|⟨s,AN,hs⟩
    ·exact e
    ·exfalso;have l1:=left s (iH hc hs);have r1:Fh (ev w b)=s:=by
      rcases hc.val b with e|e|e
      ·exact absurd e hb
      ·exact rJ hc e hs
      ·exact(right s (zM hc hs) e).symm
     rcases h with h|h
     ·exact AN (by rw[<-r1];exact h)
     ·exact h (by rw[r1,l1])
   ·rcases hc.val b with e|e|e
    ·exact absurd e hb
    ·exact .inl (Gs.2 (SZ hc e hw))
    ·obtain⟨s,AN,hs⟩:=aY hc V.s hf hw;have l1:=left _ (Qiw hc hw (iH hc hs) AN);have r1:=right _ (vM hc hw (zM hc hs) AN) e;exact .inr (by rw[<-l1,<-r1];omega)
 ·have hla:lo<a:=by
   rcases Classical.em (lo=a)with e|e
   ·rw[<-e]at ha;exact absurd (Aj Qr) ha
   ·grind
  have hb:cq P lo hi b≠1:=by have:=hc.mono a b h2 ha;omega
  have e1:=V.eq_hi hla (by grind) ha;have e2:=V.eq_hi (q:=b) (by grind) h3 hb;exact⟨λh=>absurd h (smno (by omega)),λh=>absurd h.2.1 ha⟩
theorem uH{c c':Rat->Int}(hc:Cut c)(hc':Cut c'){q:Rat}(h:c q≠c' q):∃r,(c r=-1/\c' r=1)\/(c r=1/\c' r=-1):=by
 rcases hc.val q with e|e|e <;> rcases hc'.val q with e'|e'|e'
 ·omega
 ·obtain⟨r,r1,r2⟩:=hc.up q e;exact⟨r,.inr ⟨r2,hc'.mono q r r1 (by omega)⟩⟩
 ·exact⟨q,.inr ⟨e,e'⟩⟩
 ·obtain⟨r,r1,r2⟩:=hc'.up q e';exact⟨r,.inl ⟨hc.mono q r r1 (by omega),r2⟩⟩
 ·omega
 ·obtain⟨r,r1,r2⟩:=hc'.dn q e';exact⟨r,.inr ⟨hc.mono' r1 (by omega),r2⟩⟩
 ·exact⟨q,.inl ⟨e,e'⟩⟩
 ·obtain⟨r,r1,r2⟩:=hc.dn q e;exact⟨r,.inl ⟨r2,hc'.mono' r1 (by omega)⟩⟩
 ·omega
theorem Vt.uniq(V:Vt P L lo hi){c:Rat->Int}(hc:Cut c)(h1:c lo=1)(h2:c hi≠1)(hv:I5 P c)(q:Rat):c q=cq P lo hi q:=by
 rcases Classical.em (c q=cq P lo hi q)with e|e
 ·exact e
 ·exfalso;obtain⟨r,⟨r1,r2⟩|⟨r1,r2⟩⟩:=uH hc V.cut e
  ·have hl:=hc.lt h1 r1;have hh:r<=hi:=by
    rcases Gi r hi with e|e
    ·exact e
    ·have:=UC (P:=P) V.l e;omega
   have:=V.eq_lo hl hh r2;exact Qjd V.s (w:=P) (u:=[1]) (λt=>by rw[Tg];grind) (x:=lo) (y:=r) (by omega) hc h1 (by omega) hv
  ·have hl:lo<r:=by
    rcases Gi r lo with e|e
    ·have:=Aj (P:=P) (hi:=hi) e;omega
    ·exact e
   have hh:r<=hi:=by
    rcases Gi r hi with e|e
    ·exact e
    ·have:=hc.mono hi r e h2;omega
   have:=V.eq_hi hl hh (by omega);exact Qjd V.s (w:=P) (u:=[1]) (λt=>by rw[Tg];grind) (x:=r) (y:=hi) (by omega) hc r1 h2 hv
theorem Vt.same(V:Vt P L lo hi){P':Up}{L':Uq}{lo' hi':Rat}(V':Vt P' L' lo' hi'){g u u' U W:Up}{k:Rat}(hk:k≠0)(h1:∀t,ev P t=ev g t*ev u t)(h2:∀t,ev P' t=ev g t*ev u' t)(h3:∀t,k*ev g t=ev U t*ev P t+ev W t*ev P' t){a b:Rat}(ha1:lo<=a)(ha2:lo'<=a)(ha:a=lo\/a=lo')(hb1:b<=hi)(hb2:b<=hi')(hb:b=hi\/b=hi'):(a<b/\nP g a b)↔∀q,cq P lo hi q=cq P' lo' hi' q:=by
 have hc:=V.cut;have hc':=V'.cut;constructor
 ·rintro⟨hab,hg⟩
  obtain⟨g1,g2,g3⟩:=(V.has h1 ha1 hab hb1).1 hg;obtain⟨g4,g5,g6⟩:=(V'.has h2 ha2 hab hb2).1 hg;intro q;refine(V.uniq hc' (by
   rcases Classical.em (lo=a)with e|e
   ·rw[e];exact g5
   ·exact hc'.mono' (q:=lo) (r:=a) (by grind) (by omega)) (λh=>?_) (Me hc' h1 g4) q).symm
  rcases Classical.em (b=hi)with e|e
  ·rw[<-e]at h;exact g6 h
  ·have:=hc'.mono b hi (by grind) g6;omega
 ·intro h;have hcc:cq P' lo' hi'=cq P lo hi:=funext λq=>(h q).symm
  have e1:cq P lo hi a=1:=by
   rcases ha with rfl|rfl
   ·exact Aj Qr
   ·rw[h];exact Aj Qr
  have e2:cq P lo hi b≠1:=by
   rcases hb with rfl|rfl
   ·exact V.hi1
   ·rw[h];exact V'.hi1
  have hab:a<b:=by
   rcases Gi b a with e|e
   ·rcases Classical.em (b=a)with e'|e'
    ·rw[e']at e2;exact absurd e1 e2
    ·have:=hc.mono b a (by grind) e2;omega
   ·exact e
  have v1:=V.van;have v2:=V'.van;rw[hcc]at v2;have hg:I5 g (cq P lo hi):=by
   have a1:I5 (G8 U P) (cq P lo hi):=Me hc (p:=P) (q:=U) (λt=>by rw[Fi];grind) v1;have a2:I5 (G8 W P') (cq P lo hi):=Me hc (p:=P') (q:=W) (λt=>by rw[Fi];grind) v2;have a3:=ND (λt=>G0 t _ _) a1 a2;refine xU hc (k:=1 / k) (λt=>?_) a3;rw[G0,Fi,Fi,<-h3];have:1 / k*(k*ev g t)=1 / k*k*ev g t:=by grind
   rw[this,show 1 / k*k=1 from Zj hk];grind
  exact⟨hab,(V.has h1 ha1 hab hb1).2 ⟨hg,e1,e2⟩⟩
end Orq
namespace Orq
theorem Qju:∀(M:Nat) (f:Nat->Nat),(∀i,i<=M->f i<M)->∃i j,i<j/\j<=M/\f i=f j
 | 0,f,h=>absurd (h 0 (Ql _)) (Nat.not_lt_zero _)
 |
  M+1,f,h=>by
  rcases Classical.em (∃i,i<=M/\f i=f (M+1))with⟨i,h1,h2⟩|hn
  ·exact⟨i,M+1,by omega,Ql _,h2⟩
  ·have hne:∀i,i<=M->f i≠f (M+1):=λi hi e=>hn ⟨i,hi,e⟩
   obtain⟨i,j,h1,h2,h3⟩:=Qju M (λi=>if f i=M then f (M+1)else f i) λi hi=>by
    have a1:=h i (by omega);have a2:=h (M+1) (Ql _);have a3:=hne i hi;show(if f i=M then f (M+1)else f i)<M
    split <;> omega
   refine⟨i,j,h1,by omega,?_⟩;have a1:=hne i (by omega);have a2:=hne j h2
   split at h3 <;> split at h3 <;> omega
def dg(B k i:Nat):Nat:=k / B^i % B
theorem aX(B k i:Nat):dg B k (i+1)=dg B (k / B) i:=by unfold dg;rw[Nat.pow_succ,Nat.mul_comm,Nat.div_div_eq_div_mul]
theorem Qg6{B:Nat}:∀(N:Nat) {k k':Nat},k<B^N->k'<B^N->(∀i,i<N->dg B k i=dg B k' i)->k=k'
 | 0,k,k',h,h',_=>by rw[Ve]at h h';omega
 |
  N+1,k,k',h,h',he=>by
  have h0:=he 0 (by omega);unfold dg at h0;rw[Ve,Nat.div_one,Nat.div_one]at h0;have hB:0<B:=by
   rcases Q3 B with e|e
   ·rw[e,Zr,Yz]at h;omega
   ·exact e
  have h1:=Qg6 N (k:=k / B) (k':=k' / B) (Jb (by rw[Zq,<-Zr];exact h)) (Jb (by rw[Zq,<-Zr];exact h')) λi hi=>by
   rw[<-aX,<-aX];exact he (i+1) (by omega)
  rw[<-We k B,<-We k' B,h0,h1]
def cd(B:Nat):Nat->(Nat->Nat)->Nat
 | 0,_=>0
 |E+1,x=>x 0+B*cd B E λe=>x (e+1)
theorem Qsb{B:Nat}:∀(E:Nat) {x:Nat->Nat},(∀e,e<E->x e<B)->cd B E x<B^E
 | 0,_,_=>by simp[cd]
 |
  E+1,x,h=>by
  have h1:=h 0 (by omega);have h2:=Qsb E (x:=λe=>x (e+1)) λe he=>h (e+1) (by omega)
  simp only[cd];have h3:B*cd B E (λe=>x (e+1))+B<=B*B^E:=by
   rw[<-W4];exact Zu _ h2
  rw[Zr,Zq (B^E)];omega
theorem Qgs{B:Nat}:∀(E:Nat) {x y:Nat->Nat},(∀e,e<E->x e<B)->(∀e,e<E->y e<B)->cd B E x=cd B E y->∀e,e<E->x e=y e
 | 0,_,_,_,_,_,e,he=>by omega
 |
  E+1,x,y,hx,hy,h,e,he=>by
  have h1:=hx 0 (by omega);have h2:=hy 0 (by omega);simp only[cd]at h;have e0:x 0=y 0:=by
   have:=congrArg (· % B) h;simp only[Ka]at this;rwa[Xu h1,Xu h2]at this
  have e1:cd B E (λe=>x (e+1))=cd B E (λe=>y (e+1)):=Nat.eq_of_mul_eq_mul_left (by omega:0<B) (by omega);cases e with
  |zero=>exact e0
  |succ e=>exact Qgs E (λe he=>hx (e+1) (by omega)) (λe he=>hy (e+1) (by omega)) e1 e (by omega)
def sm:Nat->(Nat->Int)->Int
 | 0,_=>0
 |n+1,f=>sm n f+f n
theorem Qk6(f g:Nat->Int):∀n,sm n (λi=>f i-g i)=sm n f-sm n g
 | 0=>rfl
 |n+1=>by simp only[sm,Qk6 f g n];omega
theorem Lu{f g:Nat->Int}:∀n,(∀i,i<n->f i=g i)->sm n f=sm n g
 | 0,_=>rfl
 |n+1,h=>by simp only[sm,Lu n (λi hi=>h i (by omega)),h n (by omega)]
theorem Qk5{f:Nat->Int}{b:Nat}:∀n,(∀i,i<n->(f i).natAbs<=b)->(sm n f).natAbs<=n*b
 | 0,_=>by simp[sm]
 |
  n+1,h=>by
  have h1:=Qk5 n λi hi=>h i (by omega)
  have h2:=h n (by omega);simp only[sm];rw[Xa];omega
theorem VK{f:Nat->Int}:∀n,(∀i,i<n->f i=0)->sm n f=0
 | 0,_=>rfl
 |n+1,h=>by simp only[sm,VK n (λi hi=>h i (by omega)),h n (by omega)];rfl
theorem dJ(f:Nat->Int)(m:Nat):∀n,sm (m+n) f=sm m f+sm n λi=>f (m+i)
 | 0=>by simp[sm]
 |n+1=>by rw[<-Yp];simp only[sm,dJ f m n];omega
theorem dY(f:Nat->Int)(J:Nat):∀b,sm (b*J) f=sm b λi=>sm J λj=>f (i*J+j)
 | 0=>by simp[sm]
 |b+1=>by rw[Xa,dJ,dY f J b];rfl
theorem EL{f:Nat->Int}{k:Nat}:∀n,k<n->(∀i,i<n->i≠k->f i=0)->sm n f=f k
 | 0,h,_=>by omega
 |
  n+1,h,h1=>by
  simp only[sm];rcases Vm (Nat.le_of_lt_succ h)with e|e
  ·rw[EL n e λi hi=>h1 i (by omega),h1 n (by omega) (by omega)];omega
  ·subst e;rw[VK k λi hi=>h1 i (by omega) (by omega)];omega
theorem Qwo{M:Nat->Nat->Int}{h N E H:Nat}(hM:∀e i,(M e i).natAbs<=h)(hc:(2*(N*(h*H))+1)^E<(H+1)^N) :
 ∃v:Nat->Int,(∀i,(v i).natAbs<=H)/\(∃i,i<N/\v i≠0)/\∀e,e<E->sm N (λi=>M e i*v i)=0:=by
 obtain⟨T,hT⟩:=nmE (N*(h*H));rw[<-hT]at hc;have hv:∀k i,dg (H+1) k i<=H:=λk i=>Nat.le_of_lt_succ (Z4 _ (by omega))
 have hs:∀k e,(sm N λi=>M e i*(dg (H+1) k i:Int)).natAbs<=T:=λk e=>by
  rw[hT];refine Qk5 N λi _=>?_
  rw[J9,Xh];exact Zc (hM e i) (hv k i)
 have him:∀k e,((sm N λi=>M e i*(dg (H+1) k i:Int))+T).toNat<2*T+1:=λk e=>by have:=hs k e;omega
 obtain⟨i,j,h1,h2,h3⟩:=Qju ((2*T+1)^E) (λk=>cd (2*T+1) E λe=>((sm N λi=>M e i*(dg (H+1) k i:Int))+T).toNat) λk _=>Qsb E λe _=>him k e
 have h4:=Qgs E (λe _=>him i e) (λe _=>him j e) h3;refine⟨λn=>(dg (H+1) i n:Int)-dg (H+1) j n,λn=>?_,?_,λe he=>?_⟩
 ·have a1:=hv i n;have a2:=hv j n;show((dg (H+1) i n:Int)-dg (H+1) j n).natAbs<=H;omega
 ·rcases Classical.em (∃n,n<N/\(dg (H+1) i n:Int)-dg (H+1) j n≠0)with e|e
  ·exact e
  ·exfalso;have:i=j:=Qg6 (B:=H+1) N (by omega) (by omega) λn hn=>by
    rcases Classical.em (dg (H+1) i n=dg (H+1) j n)with e'|e'
    ·exact e'
    ·exact absurd ⟨n,hn,by omega⟩ e
   omega
 ·have a1:=h4 e he;have a2:=hs i e;have a3:=hs j e;have:(sm N λn=>M e n*(dg (H+1) i n:Int))=sm N λn=>M e n*(dg (H+1) j n:Int):=by omega
  have e1:=Qk6 (λn=>M e n*(dg (H+1) i n:Int)) (λn=>M e n*(dg (H+1) j n:Int)) N;rw[this]at e1;rw[Lu N (g:=λn=>M e n*(dg (H+1) i n:Int)-M e n*(dg (H+1) j n:Int)) λn _=>Int.mul_sub _ _ _,e1];omega
def Fa:Um->Rat->Rat
 | [],_=>0
 |a::p,t=>(a:Rat)+t*Fa p t
def sq:Nat->(Nat->Rat)->Rat
 | 0,_=>0
 |n+1,f=>sq n f+f n
theorem Pz{f g:Nat->Rat}:∀n,(∀i,i<n->f i=g i)->sq n f=sq n g
 | 0,_=>rfl
 |n+1,h=>by simp only[sq,Pz n (λi hi=>h i (by omega)),h n (by omega)]
theorem dH(f g:Nat->Rat):∀n,sq n (λi=>f i+g i)=sq n f+sq n g
 | 0=>by simp only[sq];grind
 |n+1=>by simp only[sq,dH f g n];grind
theorem JE(c:Rat)(f:Nat->Rat):∀n,sq n (λi=>c*f i)=c*sq n f
 | 0=>by simp only[sq];grind
 |n+1=>by simp only[sq,JE c f n];grind
theorem Da{f:Nat->Rat}:∀n,(∀i,i<n->f i=0)->sq n f=0
 | 0,_=>rfl
 |n+1,h=>by simp only[sq,Da n (λi hi=>h i (by omega)),h n (by omega)];grind
theorem QQ(f:Nat->Rat):∀n,sq (n+1) f=f 0+sq n λi=>f (i+1)
 | 0=>by simp only[sq];grind
 |n+1=>by rw[sq,QQ f n];simp only[sq];grind
theorem Qs4{f:Nat->Rat}{b:Rat}:∀n,(∀i,i<n->Fl (f i)<=b)->Fl (sq n f)<=(n:Rat)*b
 | 0,_=>by rw[show((0:Nat):Rat)=0 from rfl];simp only[sq,Rl];grind
 |
  n+1,h=>by
  have h1:=Qs4 n λi hi=>h i (by omega)
  have h2:=h n (by omega);have h3:=Sx (sq n f) (f n);have hn':(((n+1:Nat):Rat))=(n:Rat)+1:=by push_cast;rfl
  rw[hn'];simp only[sq];clear h;grind
def gc:Um->Nat->Nat->Int
 | [],_,_=>0
 |c::B,k,j=>(if k=0/\j=0 then c else 0)+(if k=0 then 0 else gc B (k-1) j)-(if j=0 then 0 else gc B k (j-1))
def gB:Um->Nat
 | []=>0
 |c::B=>max c.natAbs (2*gB B)
theorem ML:∀(B:Um) (k j:Nat),B.length<=k+j->gc B k j=0
 | [],_,_,_=>rfl
 |
  c::B,k,j,h=>by
  simp only[Q5]at h;simp only[gc];rw[if_neg (by omega)];have e1:(if k=0 then 0 else gc B (k-1) j)=0:=by
   split
   ·rfl
   ·exact ML B _ _ (by omega)
  have e2:(if j=0 then 0 else gc B k (j-1))=0:=by
   split
   ·rfl
   ·exact ML B _ _ (by omega)
  rw[e1,e2];rfl
theorem Qhz:∀(B:Um) (k j:Nat),(gc B k j).natAbs<=gB B
 | [],_,_=>Qh _
 |
  c::B,k,j=>by
  have h1:=Qhz B (k-1) j;have h2:=Qhz B k (j-1);simp only[gc,gB];by_cases hk:k=0 <;> by_cases hj:j=0 <;> simp only[hk,hj,true_and,and_true,false_and,and_false,if_true,if_false] <;> (try subst hk) <;> (try subst hj) <;> omega
theorem Qh0:∀(B:Um) (b:Nat),B.length=b+1->(gc B 0 b).natAbs=(B.getD b 0).natAbs
 | [],_,h=>by simp at h
 | [c],0,_=>by simp[gc]
 |c::d::B,0,h=>by simp at h
 |
  c::B,b+1,h=>by
  have ih:=Qh0 B b (by simpa using h);simp only[gc];simp only[Yb,Q4];rw[if_pos trivial,if_neg (Nat.succ_ne_zero b),<-ih];omega
def E2(F:Nat->Nat->Int)(K J:Nat)(x y:Rat):Rat:=sq K λk=>sq J λj=>(F k j:Rat)*(y^k*x^j)
theorem nX(F G:Nat->Nat->Int)(K J:Nat)(x y:Rat):E2 (λk j=>F k j+G k j) K J x y=E2 F K J x y+E2 G K J x y:=by
 unfold E2;rw[<-dH];refine Pz K λk _=>?_
 rw[<-dH];exact Pz J λj _=>by push_cast;grind
theorem Qhe(c:Int)(F:Nat->Nat->Int)(K J:Nat)(x y:Rat):E2 (λk j=>F k j*c) K J x y=(c:Rat)*E2 F K J x y:=by
 unfold E2;rw[<-JE];refine Pz K λk _=>?_
 rw[<-JE];exact Pz J λj _=>by push_cast;grind
theorem Qhf(φ:Nat->Nat->Nat->Int)(v:Nat->Int)(K J:Nat)(x y:Rat):∀N,E2 (λk j=>sm N λn=>φ n k j*v n) K J x y=sq N λn=>(v n:Rat)*E2 (φ n) K J x y
 |
  0=>by
  simp only[sq,sm];unfold E2;refine Da K λk _=>Da J λj _=>?_
  rw[show((0:Int):Rat)=0 from rfl];grind
 |
  N+1=>by
  simp only[sq];rw[<-Qhf φ v K J x y N,<-Qhe,<-nX];rfl
theorem GG(t:Rat)(i:Nat):∀k,t^(i+k)=t^i*t^k
 | 0=>by rw[Xn,Xg];grind
 |k+1=>by rw[<-Yp,Z7,Z7,GG t i k];grind
theorem EE(f:Nat->Rat):∀(i n:Nat),sq (i+n) (λk=>if i<=k then f (k-i)else 0)=sq n f
 |i,0=>Da _ λk hk=>by rw[if_neg (by omega)]
 |
  i,n+1=>by
  rw[<-Yp];simp only[sq];rw[EE f i n,if_pos (by omega),Jl]
def MZ(i j':Nat)(F:Nat->Nat->Int)(k j:Nat):Int:=if i<=k then(if j'<=j then F (k-i) (j-j')else 0)else 0
theorem DJ(F:Nat->Nat->Int)(i j' K J:Nat)(x y:Rat):E2 (MZ i j' F) (i+K) (j'+J) x y=y^i*x^j'*E2 F K J x y:=by
 unfold E2;rw[<-JE,<-EE _ i K];refine Pz _ λk _=>?_
 by_cases hk:i<=k
 ·rw[if_pos hk,<-JE,<-EE _ j' J];refine Pz _ λj _=>?_
  unfold MZ;rw[if_pos hk];by_cases hj:j'<=j
  ·rw[if_pos hj,if_pos hj];have e1:y^k=y^i*y^(k-i):=by rw[<-GG];congr 1;omega
   have e2:x^j=x^j'*x^(j-j'):=by rw[<-GG];congr 1;omega
   rw[e1,e2];grind
  ·rw[if_neg hj,if_neg hj,show((0:Int):Rat)=0 from rfl];grind
 ·rw[if_neg hk];refine Da _ λj _=>?_
  unfold MZ;rw[if_neg hk,show((0:Int):Rat)=0 from rfl];grind
def fA(A:Um)(k j:Nat):Int:=if j=0 then A.getD k 0 else 0
theorem Qjt(y:Rat):∀(A:Um) (K:Nat),A.length<=K->sq K (λk=>((A.getD k 0:Int):Rat)*y^k)=Fa A y
 | [],K,_=>by rw[Da];rfl;intro i _;simp
 |a::A,0,h=>by simp at h
 |
  a::A,K+1,h=>by
  have ih:=Qjt y A K (by simpa using h);rw[QQ];simp only[Fa,Zt,Q4,Xg];rw[<-ih,<-JE];have:(sq K λi=>((A.getD i 0:Int):Rat)*y^(i+1))=sq K λi=>y*(((A.getD i 0:Int):Rat)*y^i):=Pz K λi _=>by rw[Z7];grind
  rw[this];grind
theorem Qyl(A:Um)(K J:Nat)(x y:Rat)(h:A.length<=K):E2 (fA A) K (J+1) x y=Fa A y:=by
 rw[<-Qjt y A K h];refine Pz K λk _=>?_
 rw[QQ,Da]
 ·simp only[fA,if_true,Xg];grind
 ·intro j _;simp only[fA];rw[if_neg (by omega),show((0:Int):Rat)=0 from rfl];grind
theorem Quv(x y:Rat):∀(B:Um) (K J:Nat),B.length<=K->B.length<=J->E2 (gc B) K J x y=Fa B (y-x)
 |
  [],K,J,_,_=>by
  unfold E2;simp only[gc,Fa];exact Da K λk _=>Da J λj _=>by rw[show((0:Int):Rat)=0 from rfl];grind
 |c::B,0,J,h,_=>by simp at h
 |c::B,K+1,0,_,h=>by simp at h
 |
  c::B,K+1,J+1,h1,h2=>by
  have i1:=Quv x y B K (J+1) (by simpa using h1) (by simp at h2;omega);have i2:=Quv x y B (K+1) J (by simp at h1;omega) (by simpa using h2);have s1:=DJ (gc B) 1 0 K (J+1) x y;have s2:=DJ (gc B) 0 1 (K+1) J x y;rw[Zz,Ju 1 K]at s1;rw[Zz,Ju 1 J]at s2;rw[i1]at s1;rw[i2]at s2;have e0:E2 (fA [c]) (K+1) (J+1) x y=(c:Rat):=by rw[Qyl [c] (K+1) J x y (by simp)];simp only[Fa];grind
  have e1:gc (c::B)=λk j=>(fA [c] k j+MZ 1 0 (gc B) k j)+MZ 0 1 (gc B) k j*(-1):=by
   funext k j;simp only[gc,fA,MZ];by_cases hk:k=0 <;> by_cases hj:j=0
   ·subst hk;subst hj;simp
   ·subst hk;simp[hj,show 1<=j by omega]
    try omega
   ·subst hj;obtain⟨m,rfl⟩:∃m,k=m+1:=⟨k-1,by omega⟩;simp
   ·obtain⟨m,rfl⟩:∃m,k=m+1:=⟨k-1,by omega⟩;obtain⟨i,rfl⟩:∃i,j=i+1:=⟨j-1,by omega⟩;simp;omega
  rw[e1,nX (λk j=>fA [c] k j+MZ 1 0 (gc B) k j) (λk j=>MZ 0 1 (gc B) k j*(-1)),nX (fA [c]) (MZ 1 0 (gc B)),Qhe,e0,s1,s2];simp only[Fa,Xg,show y^1=y by rw[Z7,Xg];grind,show x^1=x by rw[Z7,Xg];grind];rw[show(((-1:Int)):Rat)=-1 from rfl];grind
end Orq
