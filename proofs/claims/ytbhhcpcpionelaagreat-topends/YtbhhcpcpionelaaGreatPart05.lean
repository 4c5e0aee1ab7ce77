/- C2 D1 E1 AlgL F1 F2 F3 F4 F5 T1 T2 T3 T4 T5 T6 T7 T8 T9 -/
import Derived.Test.YtbhhcpcpionelaaGreatPart04
import Derived.Test.YtbhhcpcpionelaaGreatPart00
set_option linter.all false
namespace Orr
open Go Go.Proofs Tryz
set_option maxRecDepth 10000
theorem Si{l:List Pt}{i:Nat}{p:Pt}(h:l[i]? = some p):(l.map Ff)[i]? = some [pl p.c.x,pl p.c.y,sg p.c.d,mg p.c.d,.int .i64 p.id]:=Hm h
theorem Su(l:List Pt):∀c∈l.map Ff,c.length=5:=Qtc l λ_=>rfl
theorem aF{lx ly:Uw}{px py:Uq}{x y:LV}{d:Int}(hx:IsInts lx px)(hy:IsInts ly py)(hd:Gi x y d)(hk:Cs 4294967294 1073741824 (Crv.mk px py d))(id:Int):Un 193 [.agg [.row lx,.row ly,x,y,.int .i64 id]] [.agg (Ff ⟨Crv.norm (Crv.mk px py d),id⟩)]:=by
 have cd:=M4 hd (Qa hk.d (by omega));by_cases h0:d=0
 ·subst h0;have ck:Cs 4294967294 1073741824 (Crv.mk px py 1):=⟨hk.x,hk.y,show Fg 1<=4294967294 by decide,hk.lx,hk.ly⟩;have cm:=UM hx hy (U6 1) ck (by decide);have e:Crv.norm (Crv.mk px py 1)=Crv.norm (Crv.mk px py 0):=by simp only[Crv.norm,Crv.g,Crv.d'];rfl
  rw[e]at cm;obtain⟨b,l,rfl,rfl,_⟩:=hd;exact Uk func193 rfl [.k cd,.k Dl,.t (by simp),.k (BI (z:=1) (by decide)),.k cm] rfl
 ·have cm:=UM hx hy hd hk h0;obtain⟨b,l,rfl,rfl,_⟩:=hd;exact Uk func193 rfl [.k cd,.k Dl,.f (by simpa using h0),.k cm] rfl
theorem Qgs{l:List Pt}(id:Int)(hl:l.length<1073741824):Un 192 [.agg [pts l],.oi id] [.oi (Tc l id:Int),.one (.bool (has l id))]:=by
 refine Fz func192 rfl ?_;refine Uh [] rfl ?_;refine ct 2 (S:=Unit) (λ_=>[(1,.v (.oi id)),(2,.v (.one (.ow 0 0))),(6,.v (.oi (Tc l id:Int)))]) (λ_=>[.blk 194 [pts l]]) (λ_=>True) rfl ?_ ?_
 ·refine Um (S:=Nat) 1 (λL1 k=>(6,.v (.oi k))::L1) (λ_=>[.blk 194 [pts l]]) (λk=>l.length-k) (λk=>k<=l.length/\∀j p,j<k->l[j]? = some p->p.id<id) 0 ⟨Qh _,λj p h=>by omega⟩ rfl rfl λk ⟨hk,hlt⟩=>?_
  by_cases h:k<l.length
  ·obtain⟨p,hp⟩:=gxE (l:=l) (i:=k) h;by_cases hid:p.id<id
   ·refine Ui [.t (by simp;omega),.x (Si hp),.t (by simpa using hid)] rfl ?_;exact rd (k+1) (by omega) ⟨h,λj q hj hq=>by
     rcases Zd j k with h2|h2
     ·exact hlt j q h2 hq
     ·have:j=k:=by omega
      subst this;rw[hp]at hq;injection hq with hq;rw[<-hq];exact hid⟩ rfl
   ·have e:=EA hlt (.inr ⟨p,hp,hid⟩);refine Uh [.t (by simp;omega),.x (Si hp),.f (by simpa using hid)] rfl ?_;rw[e];exact rc () trivial rfl
  ·obtain rfl:k=l.length:=by omega
   have e:=EA hlt (.inl rfl);refine Uh [.f (by simp),.f rfl] rfl ?_;rw[e];exact rc () trivial rfl
 ·intro _ _;by_cases h:Tc l id<l.length
  ·obtain⟨p,hp⟩:=gxE (l:=l) (i:=Tc l id) h;have e:has l id=decide (p.id=id):=by simp[has,hp]
   rw[e];exact Uj [.g 30 true (by simp;omega),.x (Si hp)] rfl
  ·have e:has l id=false:=by simp[has,Qw (J9 h)]
   rw[e];exact Uj [.g 30 false (by simp;omega)] rfl
theorem Iv{l:List Pt}:Un 164 [.agg [pts l]] [.one (pts l)]:=Uk func164 rfl [] rfl
theorem uW{lx ly:Uw}{px py:Uq}{x y:LV}{d id:Int}{l:List Pt}(hx:IsInts lx px)(hy:IsInts ly py)(hd:Gi x y d)(hk:Cs 4294967294 1073741824 (Crv.mk px py d))(hl:l.length<=1000000) :
 Un 160 [.agg [pts l],.agg [.row lx,.row ly,x,y,.int .i64 id]] [.agg [pts (if WL l (Pt.mk (Crv.norm (Crv.mk px py d)) id)=0 then put l (Pt.mk (Crv.norm (Crv.mk px py d)) id)else l)],.oi (WL l (Pt.mk (Crv.norm (Crv.mk px py d)) id))]:=by
 have ca:=Qgs (l:=l) id (by omega);have cf:=aF hx hy hd hk id;obtain⟨b,r,rfl,rfl,_⟩:=hd;obtain⟨q,hq⟩:=nmE (Pt.mk (Crv.norm (Crv.mk px py d)) id);have hqi:q.id=id:=by rw[hq]
 rw[<-hq]at cf ⊢;have hpl:=vL l id;by_cases h1:has l id=true
 ·have e:WL l q=6:=by simp[WL,hqi,h1]
  rw[e,if_neg (by decide)];exact Uk func160 rfl [.k ca,.t h1] rfl
 by_cases h2:6<=l.length
 ·have e:WL l q=9:=by simp[WL,hqi,h1,h2]
  rw[e,if_neg (by decide)];exact Uk func160 rfl [.k ca,.f (by simpa using h1),.t (by simp;omega)] rfl
 have e:WL l q=0:=by simp[WL,hqi,h1,h2]
 rw[e,if_pos rfl];have s1:∀c∈(l.map Ff).take (Tc l id),c.length=5:=λc hc=>Su l c (Qo hc)
 have s3:∀c∈(l.map Ff).drop (Tc l id),c.length=5:=λc hc=>Su l c (Qz hc)
 refine Uk func160 rfl [.k ca,.f (by simpa using h1),.f (by simp;omega),.i (Tc l id),.s s1,.k cf,.i (Tc l id),.s s3] rfl ?_ ?_
 ·simp[put,hqi,pts,Jw,Vi,Ff]
 ·simp[U5];exact⟨by omega,hpl,λ_ _=>rfl,by omega,by omega,hpl⟩
theorem nX{l:List Pt}(hok:∀p∈l,Qtx 4294967294 1073741824 p)(hl:l.length<1073741824):Un 169 [.agg [pts l]] [.one (pts (Rw l))]:=by
 refine Fz func169 rfl ?_;refine Uh [.o 3 41 5] rfl ?_;refine Um (S:=Nat) 2 (λL1 i=>(12,.v (.oi i))::(3,.v (.one (.orow 1 5 none)))::L1) (λi=>[.blk 194 [pts l],.row false 41 5 (((l.take i).foldl B8 []).map Ff)]) (λi=>l.length-i) (λi=>i<=l.length) 0 (Qh _) rfl rfl λi hi=>?_
 by_cases hlt:i<l.length
 ·obtain⟨p,hp⟩:=gxE (l:=l) (i:=i) hlt;obtain⟨hn,hk⟩:=hok p (Qc hp);have hws:=Sj B8 [] l hp;have hwl:=KG l i;have hwm:=KH l i;obtain⟨o,ho⟩:=nmE ((l.take i).foldl B8 []);rw[<-ho]at hws hwl hwm ⊢;refine Uh [.t (by simp;omega),.x (Si hp)] rfl ?_;refine Um (S:=Nat) 3 (λL1 k=>(18,.v (.oi k))::(6,.v (.one (.bool ((o.take k).any λq=>Ih p.c q.c))))::L1) (λk=>[.blk 194 [pts l],.row false 41 5 (o.map Ff),.blk 41 (Ff p)]) (λk=>o.length-k) (λk=>k<=o.length) 0 (Qh _) rfl rfl λk hk2=>?_
  by_cases hk3:k<o.length
  ·obtain⟨q,hq⟩:=gxE (l:=o) (i:=k) hk3;obtain⟨hqn,hqk⟩:=hok q (hwm q (Qc hq));have hany:((o.take (k+1)).any λq=>Ih p.c q.c)=(((o.take k).any λq=>Ih p.c q.c) || Ih p.c q.c):=by rw[Y7,hq,List.any_append];simp
   cases hb:(o.take k).any λq=>Ih p.c q.c with
   |
    true =>
    rw[hb]at hany;refine Ui [.t (by simp;omega),.i k,.x (Si hq),.t rfl,.r 29 (v:=.one (.bool ((o.take (k+1)).any λq=>Ih p.c q.c))) (by rw[hany];rfl)] rfl ?_;exact rd (k+1) (by omega) hk3 rfl
   |
    false =>
    rw[hb]at hany;refine Ui [.t (by simp;omega),.i k,.x (Si hq),.f rfl,.k (Qoh hn hqn hk hqk),.r 29 (v:=.one (.bool ((o.take (k+1)).any λq=>Ih p.c q.c))) (by rw[hany];rfl)] rfl ?_;exact rd (k+1) (by omega) hk3 rfl
  ·obtain rfl:k=o.length:=by omega
   rw[Q7];cases hb:o.any λq=>Ih p.c q.c with
   |
    true =>
    have e:B8 o p=o:=by unfold B8;rw[if_pos hb]
    exact go tt [.f (by simp),.f rfl] rfl (by simp[U5];omega) (rd (i+1) (by omega) hlt (by rw[hws,e];rfl))
   |
    false =>
    have e:B8 o p=o++[p]:=by unfold B8;rw[if_neg (by rw[hb];decide)]
    exact go tt [.f (by simp),.t rfl] rfl (by simp[U5];omega) (rd (i+1) (by omega) hlt (by rw[hws,e,Yi];rfl))
 ·obtain rfl:i=l.length:=by omega
  exact Uj [.f (by simp)] rfl (by rw[Q7];rfl) trivial
theorem Qbi(q:Rat):Fe [-q.num,(q.den:Int)]:=by
 have:=q.den_nz;simp[Fe,trim,this]
theorem Qyh{s:Nat}{q:Rat}(h:Qs s q):Bd s [-q.num,(q.den:Int)]:=λz hz=>by
 simp at hz;rcases hz with rfl|rfl
 ·rw[Hp];exact h.1
 ·exact h.2
theorem KZ{x y x' y':LV}{n d:Int}(h1:Gi x y n)(h2:Gi x' y' d)(hn:Fg n<=4294967295)(hd:Fg d<=4294967295)(hq:Qs 4294967295 (Gn n d)):Un 120 [.agg [x,y,x',y']] [.agg (qa (Gn n d))]:=by
 have c1:=CS h1 h2 hn hd;obtain⟨b,l,rfl,rfl,_⟩:=h1;obtain⟨b',l',rfl,rfl,_⟩:=h2;exact Uk func120 rfl [.k c1,.k (BA (U6 _) hq.1),.k (Nw hq)] rfl
theorem Dz{k:Crv}(hn:YZ k)(hk:Cs 4294967294 1073741824 k):Un 215 [.agg (cl k)] [.agg (cl k)]:=by
 have h0:k.d≠0:=by have:=hn.2.2.1;omega
 have cm:=UM (Gt k.x) (Gt k.y) (U6 k.d) hk h0;rw[show Crv.mk k.x k.y k.d=k from rfl,Crv.norm_of hn]at cm;exact Uk func215 rfl [.k (M4 (U6 k.d) (Qa hk.d (by omega))),.k Dl,.f (by simpa using h0),.k cm] rfl
theorem US{a b:Crv}(ha:YZ a)(hb:YZ b)(ca:Cb a)(cb:Cb b):Un 207 [.agg (cl a),.agg (cl b)] [pr (Gd a b)]:=by
 have l1:=ca.lx;have l2:=cb.lx;have l3:=Fp b.x a.d;have l4:=Fp a.x b.d;exact Uk func207 rfl [.k (Dz ha (ca.mono (by omega) (by omega))),.k (Dz hb (cb.mono (by omega) (by omega))),.k (Pw (by omega) (U7 cb.x (by omega)) (Qa ca.d (by omega))),.k (Pw (by omega) (U7 ca.x (by omega)) (Qa cb.d (by omega))),.k (RV (by omega) (by omega) (U7 (Gj cb.x ca.d) (by omega)) (U7 (Gj ca.x cb.d) (by omega)))] rfl
theorem UR{a b:Crv}(ha:YZ a)(hb:YZ b)(ca:Cb a)(cb:Cb b):Un 208 [.agg (cl a),.agg (cl b)] [pr (Gb a b)]:=by
 have l1:=ca.ly;have l2:=cb.ly;have l3:=Fp b.y a.d;have l4:=Fp a.y b.d;exact Uk func208 rfl [.k (Dz ha (ca.mono (by omega) (by omega))),.k (Dz hb (cb.mono (by omega) (by omega))),.k (Pw (by omega) (U7 cb.y (by omega)) (Qa ca.d (by omega))),.k (Pw (by omega) (U7 ca.y (by omega)) (Qa cb.d (by omega))),.k (RV (by omega) (by omega) (U7 (Gj cb.y ca.d) (by omega)) (U7 (Gj ca.y cb.d) (by omega)))] rfl
def Pn(ps:Ur):Uw:=ps.map λp=>[pl p]
theorem Rt{ps:Ur}{i:Nat}{p:Uq}(h:ps[i]? = some p):(Pn ps)[i]? = some [pl p]:=Hm h
theorem uH{p q:Uq}:Un 206 [pr p,pr q] [pr (Ly p q)]:=by
 by_cases h:0<p.length
 ·exact Uk func206 rfl [.t (by simp;omega)] rfl (by simp only[Ly];rw[if_pos h]) trivial
 ·exact Uk func206 rfl [.f (by simp;exact Qj (by omega))] rfl (by simp only[Ly];rw[if_neg h]) trivial
theorem Qcl:Un 205 [.oi 1] [.oi 2]:=Uk func205 rfl [.t rfl,.t rfl] rfl
theorem Qcm:Un 205 [.oi 2] [.oi 2]:=Uk func205 rfl [.f rfl,.t rfl] rfl
theorem Qcn:Un 205 [.oi 3] [.oi 3]:=Uk func205 rfl [.f rfl,.f rfl,.t rfl] rfl
theorem Qco:Un 205 [.oi 4] [.oi 4]:=Uk func205 rfl [.f rfl,.f rfl,.f rfl,.t rfl,.t rfl] rfl
theorem Qcp:Un 205 [.oi 5] [.oi 4]:=Uk func205 rfl [.f rfl,.f rfl,.f rfl,.f rfl,.t rfl] rfl
theorem Qfw{k i0 i1 i2 i3 l j0 j1 j2 j3:Int}:Un 239 [.agg [.int .i64 k,.int .i64 i0,.int .i64 i1,.int .i64 i2,.int .i64 i3],.agg [.int .i64 l,.int .i64 j0,.int .i64 j1,.int .i64 j2,.int .i64 j3]] [.one (.bool (Dd [k,i0,i1,i2,i3] [l,j0,j1,j2,j3]))]:=by
 by_cases hk:k=l
 ·subst hk;rw[show Dd [k,i0,i1,i2,i3] [k,j0,j1,j2,j3]=Dd [i0,i1,i2,i3] [j0,j1,j2,j3] from by simp[Dd]];refine Fz func239 rfl ?_;refine Uh [.f (by simp)] rfl ?_;refine Um (S:=Nat) 2 (λL1 i=>(19,.v (.oi i))::L1) (λ_=>[.blk 124 [.int .i64 k,.int .i64 i0,.int .i64 i1,.int .i64 i2,.int .i64 i3],.blk 124 [.int .i64 k,.int .i64 j0,.int .i64 j1,.int .i64 j2,.int .i64 j3]]) (λi=>4-i) (λi=>i<=4/\Dd ([i0,i1,i2,i3].drop i) ([j0,j1,j2,j3].drop i)=Dd [i0,i1,i2,i3] [j0,j1,j2,j3]) 0 ⟨by omega,rfl⟩ rfl rfl λi ⟨hi,he⟩=>?_
  rw[<-he];rcases(show i=0\/i=1\/i=2\/i=3\/i=4 by omega)with rfl|rfl|rfl|rfl|rfl
  ·by_cases h:i0=j0
   ·exact go tt [.t rfl,.i 0,.i 0,.f (by simpa using h)] rfl (by simp[U5]) (rd 1 (by omega) ⟨by omega,by simp[Dd,h]⟩ rfl)
   ·exact Uj [.t rfl,.i 0,.i 0,.t (by simpa using h),.i 0] rfl (by simp[Dd,h]) trivial
  ·by_cases h:i1=j1
   ·exact go tt [.t rfl,.i 1,.i 1,.f (by simpa using h)] rfl (by simp[U5]) (rd 2 (by omega) ⟨by omega,by simp[Dd,h]⟩ rfl)
   ·exact Uj [.t rfl,.i 1,.i 1,.t (by simpa using h),.i 1] rfl (by simp[Dd,h]) trivial
  ·by_cases h:i2=j2
   ·exact go tt [.t rfl,.i 2,.i 2,.f (by simpa using h)] rfl (by simp[U5]) (rd 3 (by omega) ⟨by omega,by simp[Dd,h]⟩ rfl)
   ·exact Uj [.t rfl,.i 2,.i 2,.t (by simpa using h),.i 2] rfl (by simp[Dd,h]) trivial
  ·by_cases h:i3=j3
   ·exact go tt [.t rfl,.i 3,.i 3,.f (by simpa using h)] rfl (by simp[U5]) (rd 4 (by omega) ⟨by omega,by simp[Dd,h]⟩ rfl)
   ·exact Uj [.t rfl,.i 3,.i 3,.t (by simpa using h),.i 3] rfl (by simp[Dd,h]) trivial
  ·exact Uj [.f rfl] rfl (by simp[Dd]) trivial
 ·exact Uk func239 rfl [.t (by simpa using hk)] rfl (by simp[Dd,hk]) trivial
abbrev zCt:Uv:=[.int .i64 0,.int .i64 0,.int .i64 0,.int .i64 0,.int .i64 0,.nils,.int .i64 0]
def Ft(l:List Ct):Uw:=l.map L9
theorem WX{l:List Ct}{i:Nat}{c:Ct}(h:l[i]? = some c):(Ft l)[i]? = some (L9 c):=Hm h
theorem Bb(l:List Ct):(Ft l).length=l.length:=by simp[Ft]
theorem Qhv(l:List Ct):∀c∈Ft l,c.length=7:=λc hc=>by
 obtain⟨x,_,rfl⟩:=Q6.1 hc;rfl
theorem Qjf{O:List Ct}{z:Uv}{c:Ct}{k m:Nat}{l2:Uw}(hk:k<=O.length)(hp:JG O c O.length=k)(hm:m=O.length-k)(h2:l2.take m=((Ft O++[z]).drop k).take m) :
 ((Ft O++[z]).take (k+1)++(l2.take m++(Ft O++[z]).drop (k+1+m))).set k (L9 c)=Ft (WW O c):=by
 rw[h2,<-Ze,gI (Ft O) z (L9 c) (by rw[Bb];omega) (by rw[Bb];omega)];simp[WW,hp,Ft,Jw,Vi]
theorem jG{l:List Ct}(hl:∀c∈l,Pb c.p)(hn:l.length≤1000000):Un 194 [.one (.row (Ft l))] [.one (.row (Ft (Ga l)))]:=by
 have hcl:=Bb l;refine Fz func194 rfl ?_;refine Uh [.o 3 126 7] rfl ?_;refine Um (S:=Nat) 1 (λL1 i=>(9,.v (.oi i))::(3,.v (.one (.orow 0 7 none)))::L1) (λi=>[.row false 126 7 (Ft (Ga (l.take i)))]) (λi=>l.length-i) (λi=>i<=l.length) 0 (Qh _) rfl rfl λi hi=>?_
 by_cases hlt:i<l.length
 ·obtain⟨c,hc⟩:=gxE (l:=l) (i:=i) hlt;have hst:=lQ hc;have hcp:=hl c (Qc hc);obtain⟨O,hO⟩:=nmE (Ga (l.take i));have hOl:O.length=i:=by rw[hO,Dv,Qr];omega
  rw[<-hO]at hst ⊢;refine Uh [.t (by simp[hcl];omega),.x (WX hc)] rfl ?_;refine Um (S:=Nat) 2 (λL1 k=>(6,.v (.oi k))::L1) (λk=>[.row false 126 7 (Ft O),.blk 126 (L9 c)]) id (λk=>k<=O.length/\JG O c k=JG O c O.length) (Ft O).length ⟨by rw[Bb];exact Qk _,by rw[Bb]⟩ rfl rfl λk ⟨hk,hp⟩=>?_
  have hz:∀y∈[zCt],y.length=7:=λy hy=>by rw[Ql.1 hy];rfl
  have h77:∀y∈Ft O++[zCt],y.length=7:=λy hy=>by
   rcases Qq.1 hy with hy|hy
   ·exact Qhv O y hy
   ·exact hz y hy
  cases k with
  |
   zero =>
   have hp:JG O c O.length=0:=by rw[<-hp];rfl
   refine go tt [.g 17 false (by simp),.f rfl,.s (sz:=7) hz,.r 36 (eI (b:=((0+1:Nat):Int)) (by simp)),.i (0+1),.i (0),.s (sz:=7) (λy hy=>h77 y (Qo hy)),.i (O.length),.k (Hu hcp.t (by have:=hcp.l;omega) (U7 hcp.b (by omega))),.i (0)] rfl (by simp[U5,Bb];omega) ?_;exact rd (i+1) (by omega) hlt (by rw[hst,<-Qjf (z:=zCt) (l2:=(Ft O++[zCt]).take ((Ft O++[zCt]).length-0)) (k:=0) (m:=O.length) (by omega) hp (by omega) (by congr 1;exact Qn (by simp))];rfl)
  |
   succ k =>
   obtain⟨x,hx⟩:=gxE (l:=O) (i:=k) (by omega);by_cases hlc:rY c x=true
   ·refine go tt [.g 17 true (by simp),.r 22 (eI (b:=(k:Int)) (by simp)),.i k,.x (WX hx),.k Qfw,.t hlc,.r 29 (eI (b:=(k:Int)) (by simp))] rfl (by simp[U5,Bb];omega) ?_;exact rd k (by simp) ⟨by omega,by rw[<-hp,Qqo hx hlc]⟩ rfl
   ·have hlc:rY c x=false:=by simpa using hlc
    have hp:JG O c O.length=k+1:=by rw[<-hp,Qku hx hlc]
    refine go tt [.g 17 true (by simp),.r 22 (eI (b:=(k:Int)) (by simp)),.i k,.x (WX hx),.k Qfw,.f hlc,.s (sz:=7) hz,.r 36 (eI (b:=((k+1+1:Nat):Int)) (by simp)),.i (k+1+1),.i (k+1),.s (sz:=7) (λy hy=>h77 y (Qz (Qo hy))),.i (O.length-(k+1)),.k (Hu hcp.t (by have:=hcp.l;omega) (U7 hcp.b (by omega))),.i (k+1)] rfl (by simp[U5,Bb];omega) ?_;exact rd (i+1) (by omega) hlt (by rw[hst,<-Qjf (z:=zCt) (l2:=((Ft O++[zCt]).drop (k+1)).take ((Ft O++[zCt]).length-(k+1))) (k:=k+1) (m:=O.length-(k+1)) (by omega) hp (by omega) (by congr 1;exact Qn (by simp))];rfl)
 ·obtain rfl:i=l.length:=by omega
  rw[Q7];exact Uj [.f (by simp[hcl])] rfl
end Orr
namespace Orr
def Fu(p:Uq):Int:=p.getD (p.length-1) 0
def IK(p:Uq):Option Uq:=if p.length<=64/\(p.all λz=>Nat.ble (Fg z) 16777216)=true then some p else none
def chq(q:Rat):Option Rat:=if Fg q.num<=16777216/\Fg (q.den:Int)<=16777216 then some q else none
def Po(p:Uq):Int:=(Tg p:Nat)
def De(p:Uq)(c:Int):Uq:=trim (p.map (· / c))
def Hr(p:Uq):Int:=if Fu p<0 then -Po p else Po p
def Fj(p:Uq):Uq:=if p.length=0 then []else De p (Hr p)
def mono(i:Nat)(x:Int):Uq:=List.replicate i 0++[x]
def tL(b:Uq)(c:Int):Nat->Uq×Uq->Uq×Uq
 | 0,s=>s
 |
  i+1,(q,r) =>
  tL b c i (A7 (Fv q c) (mono i (if r.length=b.length+i then Fu r else 0)),Ni (Fv r c) (Gl (trim (mono i (if r.length=b.length+i then Fu r else 0))) b))
def Mj(a b:Uq):Uq:=(tL b (Fu b) (a.length+1-b.length) ([],a)).2
def Bz(a b r:Uq):Uq:=if (a.length+1-b.length) % 2=1/\Fu b<0 then Mq r else r
def KV(r:Uq):Uq:=if r.length=0 then []else De r (Po r)
def Ry(a b:Uq):Uq:=KV (Bz a b (Mj a b))
def vN(b:Uq):Nat->Uq->Uq->Option Uq
 | 0,a,q=>if a.length=0 then some q else none
 |i+1,a,q=>if a.length<b.length+i then vN b i a q else if Fu a % Fu b=0 then vN b i (Ni a (Gl (trim (mono i (Fu a / Fu b))) b)) (q.set i (Fu a / Fu b))else none
def JH(a b:Uq):Option Uq:=if b.length=0 then none else(vN b (a.length+1-b.length) a (List.replicate (a.length+1-b.length) 0)).bind λq=>IK (trim q)
def SK:Nat->Uq->Uq->Option Uq
 | 0,_,_=>none
 |k+1,a,b=>if b.length=0 then some a else(IK (Ry a b)).bind λr=>SK k b r
def JS(a b:Uq):Option Uq:=(SK 66 (Fj a) (Fj b)).map Fj
def vC(a b:Uq):Option Uq:=(JS [] a).bind λg=>JS g b
def Pd(a:Uq):Option Uq:=if (Fj a).length<2 then some (Fj a)else(IK (Gv (Fj a))).bind λd=>(JS (Fj a) d).bind λg=>JH (Fj a) g
def TW:Nat->Uq->Option Ur
 | 0,_=>none
 |k+1,g=>if g.length<2 then some []else(IK (Gv g)).bind λd=>(JS g d).bind λh=>(JH g h).bind λw=>(TW k h).bind λl=>some (w::l)
def IS:Ur->Option Ur
 | []=>some []
 | [w]=>some [w]
 |w::v::l=>(JH w v).bind λf=>(IS (v::l)).bind λr=>some (f::r)
def GV:Nat->Uq->Ur->Option Uq
 |_,p,[]=>some p
 |i,p,f::l=>if i % 2=0 then(IK (Gl p f)).bind λq=>GV (i+1) q l else GV (i+1) p l
def cI(a:Uq):Option Uq:=if (Fj a).length=0 then some []else(TW 66 (Fj a)).bind λl=>(IS l).bind λfs=>GV 0 [1] fs
def wH:Nat->Uq->Uq->Option Ur
 | 0,_,_=>none
 |k+1,a,b=>if b.length=0 then some []else(IK (Ry a b)).bind λr=>(wH k b (Mq r)).bind λl=>some (b::l)
def Db(p:Uq):Option Ur:=(Pd p).bind λa=>if a.length=0 then none else(IK (Gv a)).bind λd=>(wH 66 a (Fj d)).bind λl=>some (a::l)
def P0(sg:Uq->Int)(s:Nat×Int)(p:Uq):Nat×Int:=if sg p=0 then s else(if s.2=-(sg p)then s.1+1 else s.1,sg p)
def C5(sg:Uq->Int)(l:Ur):Nat:=(l.foldl (P0 sg) (0,0)).1
def C6(l:Ur)(q:Rat):Nat:=C5 (λp=>Ri p q) l
def Ts(l:Ur)(lo hi:Rat):Int:=if Hk hi lo<0 then 0 else(C6 l lo:Int)-(C6 l hi:Int)
def FK(p:Uq):Int:=Int.sign (Fu p)
def ZB(p:Uq):Int:=if p.length % 2=0 then -Int.sign (Fu p)else Int.sign (Fu p)
def WO(l:Ur):Int:=(C5 ZB l:Int)-(C5 FK l:Int)
def most:Uq->Nat:=λl=>l.foldl (λm z=>if m<z.natAbs then z.natAbs else m) 0
def Gz(p:Uq):Rat:=Rat.divInt (((Fu p).natAbs:Int)+(most (p.take (p.length-1)):Int)) ((Fu p).natAbs:Int)
def mid(a b:Rat):Rat:=Rat.divInt (a.num*(b.den:Int)+b.num*(a.den:Int)) ((a.den:Int)*(b.den:Int)*2)
def Ir(p:Uq)(c:Ur):Nat->Rat->Rat->Int->Option (List Tm)
 | 0,_,_,_=>none
 |k+1,lo,hi,n=>if n=0 then some []else if n=1 then some [⟨p,lo,hi⟩]else(chq (mid lo hi)).bind λm=>(Ir p c k lo m (Ts c lo m)).bind λl=>(Ir p c k m hi (n-Ts c lo m)).bind λr=>some (l++r)
def PC(p:Uq):Option (List Tm):=(Db p).bind λc=>(Pd p).bind λq=>(chq (Gz q)).bind λb=>Ir q c 100000 (-b) b (WO c)
def Tm.point(a:Tm):Bool:=decide (0<=Hk a.lo a.hi)
def low(p:Uq)(q:Rat):Int:=if Ri p q≠0 then Ri p q else Ri (Gv p) q
def FT(p:Uq)(lo hi:Rat):Bool:=decide (Ri p hi=0\/Ri p hi≠low p lo)
def Fq(a:Tm)(t:Rat):Int :=
 if a.point=true then Hk a.lo t else if Hk t a.lo<=0 then 1 else if 0<Hk t a.hi then -1 else if Ri a.p t=0 then 0 else if Ri a.p t=low a.p a.lo then 1 else -1
def yR(a:Tm):Option Tm:=if a.point=true then some a else(chq (mid a.lo a.hi)).bind λm =>
 some (if Fq a m=0 then ⟨a.p,m,m⟩else if Fq a m=-1 then ⟨a.p,a.lo,m⟩else ⟨a.p,m,a.hi⟩)
def Hb(p:Uq):Nat:=p.foldl (λn z=>max n (Fg z)) 0
def Mc(a b:Tm):Nat:=64+2*(Fg a.lo.num+Fg a.hi.num+Fg b.lo.num+Fg b.hi.num)+4*(a.p.length+b.p.length)*(Hb a.p+Hb b.p+(a.p.length+b.p.length)+8)
def AH(a b:Rat):Rat:=Rat.divInt (a.num*(b.den:Int)-b.num*(a.den:Int)) ((a.den:Int)*(b.den:Int))
def La(a b:Tm):Bool:=decide (Hk a.hi b.lo<=0/\¬((a.point=true/\b.point=true)/\Hk a.hi b.lo=0))
def IG:Nat->Tm->Tm->Option (Tm×Tm×Int)
 | 0,a,b=>some (a,b,0)
 |
  k+1,a,b=>if La a b=true then some (a,b,-1)else if La b a=true then some (a,b,1)else
  if 0<=Hk (AH a.hi a.lo) (AH b.hi b.lo)then(yR a).bind λx=>IG k x b else(yR b).bind λx=>IG k a x
def UD(a b:Tm):Option Int:=if a.point=true then some (-Fq b a.lo)else if b.point=true then some (Fq a b.lo)else
 let lo:=if 0<Hk b.lo a.lo then b.lo else a.lo
 let hi:=if Hk b.hi a.hi<0 then b.hi else a.hi
 if Hk lo hi<0 then(vC a.p b.p).bind λg=>if 1<g.length/\FT g lo hi=true then some 0 else(IG (Mc a b) a b).bind λr=>some r.2.2
 else(IG (Mc a b) a b).bind λr=>some r.2.2
def sgF(c:Ur):Nat->Tm->Option Tm
 | 0,a=>some a
 |k+1,a=>if a.point=true\/Ts c a.lo a.hi=0 then some a else(yR a).bind λx=>sgF c k x
def HQ(p:Uq)(a:Tm):Option Int:=if p.length=0 then some 0 else if a.point=true then some (Ri p a.lo)else
 (vC p a.p).bind λg=>if 1<g.length/\FT g a.lo a.hi=true then some 0 else(Db p).bind λc=>(sgF c (64+2*(Fg a.lo.num+Fg a.hi.num)+4*(a.p.length+p.length)*(Hb a.p+Hb p+(a.p.length+p.length)+8)) a).bind λx=>some (Ri p x.hi)
def QA:Tm->List Tm->Option Tm
 |b,[]=>some b
 |b,a::l=>(UD a b).bind λc=>QA (if c<0 then a else b) l
def KY(a:Tm):List Tm->Option (Option Tm)
 | []=>some none
 |r::l=>(UD r a).bind λc=>if 0<c then some (some r)else KY a l
def ZU(p:Uq):Option (List Tm):=(cI p).bind λq=>if q.length=0 then some []else PC q
def PT(p:Uq)(a:Tm):Option (Option Tm):=(ZU p).bind λl=>KY a l
end Orr
namespace Orr
open Go Go.Proofs Tryz
set_option maxRecDepth 10000
theorem Er{p:Uq}(tp:Fe p)(h:p.length≠0):Fu p≠0:=Rf tp (by omega)
theorem EQ{p:Uq}(h:p.length≠0):Fu p∈p:=Qc (Td (by omega))
theorem Nk{s:Nat}{p:Uq}(h:Bd s p):Fg (Fu p)<=s:=Fw h _
theorem E8{p:Uq}:∀z∈p,Po p∣z:=XG
theorem JW{p:Uq}(tp:Fe p)(h:p.length≠0):Po p≠0:=λh0=>Er tp h (Int.zero_dvd.1 (h0 ▸ E8 _ (EQ h)))
theorem YD{p:Uq}(h:Bd 4294967295 p):Fg (Po p)<=4294967295:=NU h
theorem Qao{p:Uq}(tp:Fe p)(h:p.length≠0):Hr p≠0:=by
 have:=JW tp h;unfold Hr;split <;> omega
theorem GG{p:Uq}:∀z∈p,Hr p∣z:=λz hz=>by
 unfold Hr;split
 ·exact Ug.2 (E8 z hz)
 ·exact E8 z hz
theorem Qjk{p:Uq}(h:Bd 4294967295 p):Fg (Hr p)<=4294967295:=by
 unfold Hr;split
 ·rw[Hp];exact YD h
 ·exact YD h
theorem BP{s:Nat}{p:Uq}(h:Bd s p)(c:Int):Bd s (De p c):=Tz (RX h c)
theorem qA(p:Uq)(c:Int):(De p c).length<=p.length:=Qa (Re _) (by simp)
theorem ZK(p:Uq)(c:Int):Fe (De p c):=Rv _
theorem Qko{p:Uq}(h:Pb p)(c:Int):Pb (De p c):=⟨ZK _ _,Qa (qA _ _) h.l,BP h.b c⟩
theorem TM:Pb []:=⟨rfl,by simp,KR⟩
theorem Tf{p:Uq}(h:Pb p):Pb (Fj p):=by
 unfold Fj;split
 ·exact TM
 ·exact Qko h _
theorem Pb.bd{p:Uq}(h:Pb p):Bd 4294967295 p:=U7 h.b (by omega)
theorem Pb.ln{p:Uq}(h:Pb p):p.length<274877906944:=Z2 h.l (by omega)
theorem Pb.ln'{p:Uq}(h:Pb p):p.length<8589934592:=Z2 h.l (by omega)
theorem QT{p q:Uq}(tp:Fe p)(h:IK p=some q):q=p/\Pb p:=by
 unfold IK at h
 split at h
 ·rename_i hc;injection h with h;refine⟨h.symm,tp,hc.1,λz hz=>?_⟩;have:=Ju.1 hc.2 z hz;exact Zg this
 ·cases h
theorem aW{p:Uq}{g:Int}(hl:p.length<274877906944)(hp:Bd 4294967295 p)(hg:Fg g≤4294967295)(h0:g≠0)(hd:∀z∈p,g∣z):Un 300 [pr p,.agg (Hg g)] [pr (De p g)]:=by
 refine Fz func300 rfl ?_;refine Ui [.r 9 (eI (b:=(p.length:Int)) (by simp)),.i p.length,.i p.length,.r 12 (eI (b:=(p.length:Int)) (by simp))] rfl ?_;rw[Ak λk=>Hg (p.getD k 0 / g)];refine Um (S:=Nat) 2 (λL1 k=>(13,.v (.oi k))::L1) (λk=>[.blk 37 (Hg g),.row false 37 2 (IW (λk=>Hg (p.getD k 0 / g)) [.bool false,.nils] p.length k)]) (λk=>p.length-k) (λk=>k<=p.length) 0 (Qh _) rfl rfl λk hk=>?_
 by_cases hlt:k<p.length
 ·have hg2:=Td hlt;refine go tt [.t (by simp;omega),.x (Pv hg2),.k (Ib (U6 _) (U6 _) (Fw hp k) hg h0 (Jy (hd _ (Qc hg2)))),.i k] rfl (by simp[U5,Im];omega) ?_;have e:=QC (λk=>Hg (p.getD k 0 / g)) [.bool false,.nils] hlt;rw[e];exact rd (k+1) (by omega) hlt rfl
 ·obtain rfl:k=p.length:=by omega
  have e:IW (λk=>Hg (p.getD k 0 / g)) [.bool false,.nils] p.length p.length=(p.map (· / g)).map Hg:=by
   rw[QB];refine Xo λi=>?_
   by_cases hi:i<p.length
   ·simp[X7 hi,List.getD,Qe hi]
   ·simp[Qw,hi]
  rw[e];exact Uj [.f (by simp),.k (Cf (Gt (p.map (· / g))) (by simp;exact hl) (RX hp g))] rfl
theorem RY{p:Uq}(hl:p.length<8589934592)(hp:Bd 4294967295 p):Un 301 [.one (.row [[pl p]])] [.agg (Hg (Po p))]:=by
 refine Fz func301 rfl ?_;refine Uh [.o 3 37 2] rfl ?_;refine Um (S:=Nat) 2 (λL1 i=>(8,.v (.oi i))::(3,.v (.one (.orow 1 2 none)))::L1) (λi=>[.blk 37 [.bool false,.nils],.row false 37 2 (if i=0 then []else p.map Hg)]) (λi=>1-i) (λi=>i<=1) 0 (Qh _) rfl rfl λi hi=>?_
 rcases(show i=0\/i=1 by omega)with rfl|rfl
 ·refine Ui [.t rfl,.x (i:=0) (xs:=[pl p]) rfl,.s (EB p)] rfl ?_;exact rd 1 (by omega) (by omega) rfl
 ·exact Uj [.f rfl,.k (Qfr (Gt p) hp)] rfl
theorem Qg4{p:Uq}(tp:Fe p)(hl':p.length<8589934592)(hp:Bd 4294967295 p):Un 282 [pr p] [.agg (Hg (if p.length=0 then 0 else Hr p)),pr (Fj p)]:=by
 have hl:p.length<274877906944:=by omega
 have cn:=Hu tp hl hp;by_cases h0:p.length=0
 ·have e:p=[]:=Qj h0;subst e;exact Uk func282 rfl [.k cn,.t rfl] rfl (by simp[Lo,Fj];rfl) trivial
 ·have hpf:Fj p=De p (Hr p):=by unfold Fj;rw[if_neg h0]
  rw[if_neg h0,hpf];have co:=aW hl hp (Qjk hp) (Qao tp h0) GG;by_cases hneg:Fu p<0
  ·have e:Hr p=-Po p:=by unfold Hr;rw[if_pos hneg]
   rw[e]at co ⊢;exact Uk func282 rfl [.k cn,.f (by simpa using h0),.k (RY hl' hp),.k (Dx tp hl hp),.t (by simpa[Fu]using hneg),.k (BA (U6 _) (YD hp)),.k co] rfl
  ·have e:Hr p=Po p:=by unfold Hr;rw[if_neg hneg]
   rw[e]at co ⊢;exact Uk func282 rfl [.k cn,.f (by simpa using h0),.k (RY hl' hp),.k (Dx tp hl hp),.f (by simpa[Fu]using hneg),.k co] rfl
theorem Ic{p:Uq}(hp:Pb p):Un 274 [pr p] [pr (Fj p)] :=
 Uk func274 rfl [.k (Qg4 hp.t hp.ln' hp.bd)] rfl
theorem Me(p:Uq):Un 131 [pr p] [.oi ((p.length:Int)-1)]:=by
 have h:Un 131 [pr p] [.oi (((p.map Hg).length:Int)-1)]:=Fz func131 rfl (ln 0 rfl rfl λhl=>Uj [] rfl rfl (by simp[U5]at hl ⊢;omega));rw[Za]at h;exact h
theorem Om(i:Nat)(x:Int):(mono i x).length=i+1:=by simp[mono]
theorem BR{s i:Nat}{x:Int}(h:Fg x<=s):Bd s (mono i x):=λz hz=>by
 simp only[mono,Qq,Ql]at hz;rcases hz with hz|rfl
 ·rw[(List.mem_replicate.1 hz).2,Nl];exact Qh _
 ·exact h
def stq(c:Int)(i:Nat)(x:Int)(q:Uq):Uq:=A7 (Fv q c) (mono i x)
def str(b:Uq)(c:Int)(i:Nat)(x:Int)(r:Uq):Uq:=Ni (Fv r c) (Gl (trim (mono i x)) b)
theorem Qt7{u t i:Nat}{c x:Int}{q:Uq}(hq:Bd u q)(hc:Fg c<=t)(hx:Fg x<=u):Bd (u+t+8) (stq c i x q) :=
 U7 (YY (Gj hq hc) (BR hx)) (by omega)
theorem Qpx{c x:Int}{i:Nat}{q:Uq}:(stq c i x q).length<=max q.length (i+1):=by
 have h:=Lj (Fv q c) (mono i x);have h1:=Fp q c;rw[Om]at h;unfold stq;omega
theorem yB{i:Nat}{x:Int}{b:Uq}:(Gl (trim (mono i x)) b).length<=i+b.length:=by
 have h:=H9 (trim (mono i x)) b;have h1:=Re (mono i x);rw[Om]at h1;omega
theorem eS{u t i:Nat}{x:Int}{b:Uq}(hb:Bd t b)(hx:Fg x<=u)(hi:i<=64):Bd (u+t+7) (Gl (trim (mono i x)) b) :=
 Pp (Tz (BR hx)) hb (Z2 (Re _) (by rw[Om];omega))
theorem mV{u t i:Nat}{c x:Int}{b r:Uq}(hr:Bd u r)(hb:Bd t b)(hc:Fg c<=t)(hx:Fg x<=u)(hi:i<=64):Bd (u+t+8) (str b c i x r) :=
 U7 (Dw (Gj hr hc) (eS hb hx hi)) (by omega)
theorem yC{c x:Int}{i:Nat}{b r:Uq}:(str b c i x r).length<=max r.length (i+b.length):=by
 have h:=Pm (Fv r c) (Gl (trim (mono i x)) b);have h1:=Fp r c;have h2:=yB (i:=i) (x:=x) (b:=b);unfold str;omega
theorem rS(i:Nat)(x:Int):((List.replicate (i+1) (0:Int)).map Hg).set i (Hg x)=(mono i x).map Hg:=by
 rw[cA,mono];congr 1;refine Xo λj=>?_
 simp only[Yo,List.getElem?_append,J0,Jg];by_cases h:j=i
 ·subst h;simp
 ·rw[if_neg (by omega)];by_cases h2:j<i
  ·simp[h2];omega
  ·rw[if_neg (by omega),if_neg h2];cases hj:j-i with
   |zero=>omega
   |succ m=>simp
theorem oI(i:Nat){x:Int}{y:Uv}(h:y.map GQ=Hg x):(((List.replicate (i+1) [LV.bool false,LV.nils]).set i y).map λc=>c.map GQ)=(mono i x).map Hg:=by
 rw[Vw,NL,h];exact rS i x
theorem JR{b:Uq}{c:Int}{i:Nat}{q r:Uq}{x:Int}(hx:x=if r.length=b.length+i then Fu r else 0):tL b c (i+1) (q,r)=tL b c i (stq c i x q,str b c i x r):=by
 subst hx;rfl
theorem Qf9{a b:Uq}(ha:Pb a)(hb:Pb b)(h0:b.length≠0):Un 298 [pr a,pr b] [pr (tL b (Fu b) (a.length+1-b.length) ([],a)).1,pr (Mj a b),.oi ((a.length+1-b.length:Nat):Int),.oi 0]:=by
 have hal:=ha.l;have hbl:=hb.l;have hlb:Fg (Fu b)<=16777216:=Nk hb.b;obtain⟨c,hc⟩:=nmE (Fu b);have cl:=Dx hb.t hb.ln hb.bd;rw[show b.getD (b.length-1) 0=c from hc.symm]at cl;obtain⟨k,hk⟩:=nmE (a.length+1-b.length);unfold Mj;rw[<-hc,<-hk];rw[<-hc]at hlb;refine Fz func298 rfl ?_;refine Ui [.z 4,.k (Hu ha.t ha.ln ha.bd),.k (Hu hb.t hb.ln hb.bd),.f (by simpa using h0),.k cl,.k (Me a),.k (Me b),.r 27 (eI (b:=(k:Int)) (by omega))] rfl ?_;refine Um (S:=Nat×Uq×Uq) 1 (λL1 s=>(4,.v (pr s.2.1))::(5,.v (pr s.2.2))::(9,.v (.oi ((s.1:Int)-1)))::L1) (λ_=>[.blk 37 (Hg c)]) (λs=>s.1) (λs=>s.1<=k/\Fe s.2.2/\s.2.1.length<=66/\s.2.2.length<=a.length/\Bd (16777216+(k-s.1)*16777224) s.2.1/\Bd (16777216+(k-s.1)*16777224) s.2.2/\tL b c s.1 s.2=tL b c k ([],a)) (k,[],a) ⟨Qk _,ha.t,by simp,Qk _,KR,by simpa using ha.b,rfl⟩ rfl rfl λ⟨i,q,r⟩ ⟨j1,j2,j3,j4,j5,j6,j7⟩=>?_
 dsimp only at j1 j2 j3 j4 j5 j6 j7 ⊢;rw[<-j7];cases i with
 |zero=>exact Uj [.f (by simp)] rfl
 |
  succ i =>
  obtain⟨x,hx⟩:=nmE (if r.length=b.length+i then Fu r else 0);obtain⟨u,hu⟩:=nmE (16777216+(k-(i+1))*16777224);rw[<-hu]at j5 j6;have hub:u<=1107296256:=by
   have:(k-(i+1))*16777224<=64*16777224:=Q0 _ (by omega);omega
  have hxs:Fg x<=u:=by
   rw[hx];split
   ·exact Nk j6
   ·rw[Nl];exact Qh _
  have cs:=Pw (p:=q) (c:=c) (by omega) (U7 j5 (by omega)) (by omega);have cs2:=Pw (p:=r) (c:=c) (by omega) (U7 j6 (by omega)) (by omega);have l1:=Fp q c;have l2:=Fp r c;have ca:=BO (p:=Fv q c) (q:=mono i x) (by omega) (by rw[Om];omega) (U7 (Gj j5 hlb) (by omega)) (U7 (BR hxs) (by omega));have cm:=jU (p0:=mono i x) hb.t (by rw[Om];omega) (by omega) (BR hxs) hb.b (by omega);have l3:=yB (i:=i) (x:=x) (b:=b);have cb:=RV (p:=Fv r c) (q:=Gl (trim (mono i x)) b) (by omega) (by omega) (U7 (Gj j6 hlb) (by omega)) (U7 (eS hb.b hxs (by omega)) (by omega));have hst:=JR (b:=b) (c:=c) (q:=q) hx;have hI:i<=k/\Fe (str b c i x r)/\(stq c i x q).length<=66/\(str b c i x r).length<=a.length/\Bd (16777216+(k-i)*16777224) (stq c i x q)/\Bd (16777216+(k-i)*16777224) (str b c i x r):=by
   have l5:=Qpx (c:=c) (x:=x) (i:=i) (q:=q);have l6:=yC (c:=c) (x:=x) (i:=i) (b:=b) (r:=r);have hku:u+16777216+8=16777216+(k-i)*16777224:=by
    rw[hu,show k-i=(k-(i+1))+1 from by omega,Xn];omega
   refine⟨by omega,Fy _ _,by omega,by omega,?_,?_⟩
   ·rw[<-hku];exact Qt7 j5 hlb hxs
   ·rw[<-hku];exact mV j6 hb.b hlb hxs (by omega)
  rw[hst];by_cases h:r.length=b.length+i
  ·refine Ui [.t (by simp <;> omega),.k (Me r),.k (Me b),.t (by simp;omega),.k (Dx j2 (by omega) (U7 j6 (by omega))),.r 44 (eI (b:=((i+1:Nat):Int)) (by omega)),.i (i+1),.i (i+1),.r 47 (eI (b:=(i:Int)) (by omega)),.i i] rfl ?_;refine nl 2 rfl rfl rfl ?_;rw[oI i (x:=x) (by rw[hx,if_pos h];rfl)];refine Ui [.k cs,.k ca,.k cs2,.k cm,.k cb,.r 33 (eI (b:=(i:Int)-1) (by omega))] rfl ?_;exact rd (i,stq c i x q,str b c i x r) (by dsimp only;omega) ⟨hI.1,hI.2.1,hI.2.2.1,hI.2.2.2.1,hI.2.2.2.2.1,hI.2.2.2.2.2,rfl⟩ rfl
  ·refine Ui [.t (by simp <;> omega),.k (Me r),.k (Me b),.f (by simp;omega),.r 44 (eI (b:=((i+1:Nat):Int)) (by omega)),.i (i+1),.i (i+1),.r 47 (eI (b:=(i:Int)) (by omega)),.i i] rfl ?_;refine nl 2 rfl rfl rfl ?_;rw[oI i (x:=x) (by rw[hx,if_neg h,Lo];rfl)];refine Ui [.k cs,.k ca,.k cs2,.k cm,.k cb,.r 33 (eI (b:=(i:Int)-1) (by omega))] rfl ?_;exact rd (i,stq c i x q,str b c i x r) (by dsimp only;omega) ⟨hI.1,hI.2.1,hI.2.2.1,hI.2.2.2.1,hI.2.2.2.2.1,hI.2.2.2.2.2,rfl⟩ rfl
theorem Qkx{b:Uq}{c:Int}(hb:Bd 16777216 b)(hc:Fg c<=16777216){n:Nat}:∀(i u:Nat) (q r:Uq),i<=64->i+b.length<=n+1->Fe r->r.length<=n->Bd u r->Fe (tL b c i (q,r)).2/\(tL b c i (q,r)).2.length<=n/\Bd (u+i*16777224) (tL b c i (q,r)).2
 | 0,u,q,r,_,_,h1,h2,h3=>⟨h1,h2,by simpa[tL]using h3⟩
 |
  i+1,u,q,r,hi,hn,h1,h2,h3=>by
  rw[JR rfl];have hx:Fg (if r.length=b.length+i then Fu r else 0)<=u:=by
   split
   ·exact Nk h3
   ·rw[Nl];exact Qh _
  have l6:=yC (c:=c) (x:=if r.length=b.length+i then Fu r else 0) (i:=i) (b:=b) (r:=r);have:=Qkx hb hc (n:=n) i (u+16777216+8) (stq c i (if r.length=b.length+i then Fu r else 0) q) (str b c i (if r.length=b.length+i then Fu r else 0) r) (by omega) (by omega) (Fy _ _) (by omega) (mV h3 hb hc hx (by omega));exact⟨this.1,this.2.1,U7 this.2.2 (by omega)⟩
theorem Qas{a b:Uq}(ha:Pb a)(hb:Pb b)(h0:b.length≠0):Fe (Mj a b)/\(Mj a b).length<=a.length/\Bd 1107296256 (Mj a b):=by
 have hal:=ha.l;by_cases h:b.length<=a.length+1
 ·obtain⟨h1,h2,h3⟩:=Qkx hb.b (Nk hb.b) (n:=a.length) (a.length+1-b.length) 16777216 [] a (by omega) (by omega) ha.t (Qk _) ha.b;refine⟨h1,h2,U7 h3 ?_⟩;have:(a.length+1-b.length)*16777224<=64*16777224:=Q0 _ (by omega);omega
 ·have e:Mj a b=a:=by unfold Mj;rw[show a.length+1-b.length=0 from by omega];rfl
  rw[e];exact⟨ha.t,Qk _,U7 ha.b (by omega)⟩
theorem GP{a b r:Uq}{s n:Nat}(h1:Fe r)(h2:r.length<=n)(h3:Bd s r):Fe (Bz a b r)/\(Bz a b r).length<=n/\Bd s (Bz a b r):=by
 unfold Bz;split
 ·exact⟨Fy _ _,Qa (Oj r) h2,MB h3⟩
 ·exact⟨h1,h2,h3⟩
theorem ED{r:Uq}{s n:Nat}(h2:r.length<=n)(h3:Bd s r):Fe (KV r)/\(KV r).length<=n/\Bd s (KV r):=by
 unfold KV;split
 ·exact⟨rfl,by simp,KR⟩
 ·exact⟨ZK _ _,Qa (qA _ _) h2,BP h3 _⟩
theorem GR{a b:Uq}(ha:Pb a)(hb:Pb b)(h0:b.length≠0):Fe (Ry a b)/\(Ry a b).length<=a.length/\Bd 1107296256 (Ry a b):=by
 obtain⟨h1,h2,h3⟩:=Qas ha hb h0;obtain⟨h4,h5,h6⟩:=GP (a:=a) (b:=b) h1 h2 h3;exact ED h5 h6
theorem Qge{a b:Uq}(ha:Pb a)(hb:Pb b)(h0:b.length≠0):Un 275 [pr a,pr b] [pr (Ry a b),.oi 0]:=by
 obtain⟨h1,h2,h3⟩:=Qas ha hb h0;obtain⟨h4,h5,h6⟩:=GP (a:=a) (b:=b) h1 h2 h3;have hal:=ha.l;have cp:=Qf9 ha hb h0;have cl:=Dx hb.t hb.ln hb.bd;have cn:=Qf5 (p:=Mj a b) (by omega) (U7 h3 (by omega));unfold Ry;obtain⟨r,hr⟩:=nmE (Bz a b (Mj a b));have cc:=RY (p:=r) (by rw[hr];omega) (by rw[hr];exact U7 h6 (by omega));rw[<-hr]at h4 h5 h6 ⊢;obtain⟨k,hk⟩:=nmE (a.length+1-b.length);rw[<-hk]at cp;have em:((k:Int).tmod 2)=((k % 2:Nat):Int):=by rw[Y5 (by omega)];omega
 have key:KV r=if r.length=0 then []else De r (Po r):=rfl
 by_cases hz:r.length=0
 ·rw[key,if_pos hz];by_cases hodd:k % 2=1
  ·by_cases hneg:Fu b<0
   ·have e:r=Mq (Mj a b):=by rw[hr];unfold Bz;rw[if_pos ⟨by rw[<-hk];exact hodd,hneg⟩]
    rw[e]at hz;exact Uk func275 rfl [.k cp,.f (by simp),.r 22 (eI em),.t (by simp;omega),.k cl,.t (by simpa[Fu]using hneg),.k cn,.t (by simpa using hz)] rfl rfl (by simp[U5])
   ·have e:r=Mj a b:=by rw[hr];unfold Bz;rw[if_neg (λh=>hneg h.2)]
    rw[e]at hz;exact Uk func275 rfl [.k cp,.f (by simp),.r 22 (eI em),.t (by simp;omega),.k cl,.f (by simpa[Fu]using hneg),.t (by simpa using hz)] rfl rfl (by simp[U5])
  ·have e:r=Mj a b:=by rw[hr];unfold Bz;rw[if_neg (λh=>hodd (by rw[hk];exact h.1))]
   rw[e]at hz;exact Uk func275 rfl [.k cp,.f (by simp),.r 22 (eI em),.f (by simp;omega),.f rfl,.t (by simpa using hz)] rfl rfl (by simp[U5])
 ·rw[key,if_neg hz];have cd:=aW (p:=r) (g:=Po r) (by omega) (U7 h6 (by omega)) (YD (U7 h6 (by omega))) (JW h4 hz) E8;by_cases hodd:k % 2=1
  ·by_cases hneg:Fu b<0
   ·have e:r=Mq (Mj a b):=by rw[hr];unfold Bz;rw[if_pos ⟨by rw[<-hk];exact hodd,hneg⟩]
    rw[e]at hz cc cd ⊢;exact Uk func275 rfl [.k cp,.f (by simp),.r 22 (eI em),.t (by simp;omega),.k cl,.t (by simpa[Fu]using hneg),.k cn,.f (by simpa using hz),.k cc,.k cd] rfl rfl (by simp[U5])
   ·have e:r=Mj a b:=by rw[hr];unfold Bz;rw[if_neg (λh=>hneg h.2)]
    rw[e]at hz cc cd ⊢;exact Uk func275 rfl [.k cp,.f (by simp),.r 22 (eI em),.t (by simp;omega),.k cl,.f (by simpa[Fu]using hneg),.f (by simpa using hz),.k cc,.k cd] rfl rfl (by simp[U5])
  ·have e:r=Mj a b:=by rw[hr];unfold Bz;rw[if_neg (λh=>hodd (by rw[hk];exact h.1))]
   rw[e]at hz cc cd ⊢;exact Uk func275 rfl [.k cp,.f (by simp),.r 22 (eI em),.f (by simp;omega),.f rfl,.f (by simpa using hz),.k cc,.k cd] rfl rfl (by simp[U5])
theorem Qpv{s:Nat}{x:Int}(h:Fg x<=s)(g:Int):Fg (x / g)<=s:=RX (p:=[x]) (λz hz=>by rw[Ql.1 hz];exact h) g _ (by simp)
def sta(b:Uq)(i:Nat)(x:Int)(a:Uq):Uq:=Ni a (Gl (trim (mono i x)) b)
theorem Qt6{u t i:Nat}{x:Int}{b a:Uq}(ha:Bd u a)(hb:Bd t b)(hx:Fg x<=u)(hi:i<=64):Bd (u+t+8) (sta b i x a) :=
 U7 (Dw ha (eS hb hx hi)) (by omega)
theorem oH{x:Int}{i:Nat}{b a:Uq}:(sta b i x a).length<=max a.length (i+b.length):=by
 have h:=Pm a (Gl (trim (mono i x)) b);have h2:=yB (i:=i) (x:=x) (b:=b);unfold sta;omega
theorem Qnk(s n:Nat):Bd s (List.replicate n 0):=λz hz=>by rw[(List.mem_replicate.1 hz).2,Nl];exact Qh _
theorem Qt5{s i:Nat}{l:Uq}{x:Int}(h:Bd s l)(hx:Fg x<=s):Bd s (l.set i x):=λz hz=>by
 rcases Jq hz with hz|rfl
 ·exact h z hz
 ·exact hx
theorem Qf3{a b q:Uq}(ha:Pb a)(hb:Pb b)(h:JH a b=some q):Un 314 [pr a,pr b] [pr q,.oi 0]:=by
 unfold JH at h
 split at h
 ·cases h
 rename_i h0;obtain⟨k,hk⟩:=nmE (a.length+1-b.length);rw[<-hk]at h;obtain⟨q',hq,hq2⟩:=Qd.1 h;obtain⟨rfl,hpb⟩:=QT (Rv _) hq2;have hal:=ha.l;have hbl:=hb.l;refine Fz func314 rfl ?_;refine Ui [.k (Hu ha.t ha.ln ha.bd),.k (Hu hb.t hb.ln hb.bd),.f (by simpa using h0),.r 24 (eI (b:=(k:Int)) (by simp;omega)),.i k,.i k,.r 27 (eI (b:=(k:Int)) (by simp))] rfl ?_;refine nl 0 rfl rfl rfl ?_;rw[NL];refine Um (S:=Nat×Uq×Uq) 1 (λL1 s=>(0,.v (pr s.2.1))::(7,.v (.oi ((s.1:Int)-1)))::L1) (λs=>[.row false 37 2 (s.2.2.map Hg)]) (λs=>s.1) (λs=>s.1<=k/\Fe s.2.1/\s.2.1.length<=a.length/\Bd (16777216+(k-s.1)*16777224) s.2.1/\s.2.2.length=k/\Bd 1107296256 s.2.2/\vN b s.1 s.2.1 s.2.2=some q') (k,a,List.replicate k 0) ⟨Qk _,ha.t,Qk _,by simpa using ha.b,by simp,Qnk _ _,hq⟩ rfl rfl λ⟨i,A,Q⟩ ⟨j1,j2,j3,j4,j5,j7,j6⟩=>?_
 dsimp only at j1 j2 j3 j4 j5 j6 j7 ⊢;cases i with
 |
  zero =>
  simp only[vN]at j6
  split at j6
  ·rename_i hA;injection j6 with j6;subst j6;exact Uj [.f (by simp),.f (by simpa using hA),.k (Cf (Gt Q) (by omega) (U7 j7 (by omega)))] rfl
  ·cases j6
 |
  succ i =>
  obtain⟨u,hu⟩:=nmE (16777216+(k-(i+1))*16777224);rw[<-hu]at j4;have hub:u<=1107296256:=by
   have:(k-(i+1))*16777224<=64*16777224:=Q0 _ (by omega);omega
  have hku:u+16777216+8=16777216+(k-i)*16777224:=by
   rw[hu,show k-i=(k-(i+1))+1 from by omega,Xn];omega
  simp only[vN]at j6;by_cases hlt:A.length<b.length+i
  ·rw[if_pos hlt]at j6;refine Ui [.t (by simp <;> omega),.k (Me A),.k (Me b),.t (by simp;omega),.r 32 (eI (b:=(i:Int)-1) (by omega))] rfl ?_;exact rd (i,A,Q) (by dsimp only;omega) ⟨by dsimp only;omega,j2,j3,U7 j4 (by dsimp only;omega),j5,j7,j6⟩ rfl
  ·rw[if_neg hlt]at j6
   split at j6
   ·rename_i hdv;obtain⟨x,hx⟩:=nmE (Fu A / Fu b);rw[<-hx]at j6;have hxs:Fg x<=u:=by rw[hx];exact Qpv (Nk j4) _
    have ce:=Ib (U6 (Fu A)) (U6 (Fu b)) (Qa (Nk j4) (by omega)) (Qa (Nk hb.b) (by omega)) (Er hb.t h0) hdv;rw[<-hx]at ce;have cm:Un 178 [.one (.row ((mono i x).map Hg)),pr b] [pr (Gl (trim (mono i x)) b)]:=jU (p0:=mono i x) hb.t (by rw[Om];omega) (by omega) (BR hxs) hb.b (by omega);have l3:=yB (i:=i) (x:=x) (b:=b);have l4:=oH (i:=i) (x:=x) (b:=b) (a:=A);have cb:=RV (p:=A) (q:=Gl (trim (mono i x)) b) (by omega) (by omega) (U7 j4 (by omega)) (U7 (eS hb.b hxs (by omega)) (by omega));refine Ui [.t (by simp <;> omega),.k (Me A),.k (Me b),.f (by simp;omega),.k (Dx j2 (by omega) (U7 j4 (by omega))),.k (Dx hb.t hb.ln hb.bd),.k ce,.f rfl,.r 51 (eI (b:=(i:Int)) (by omega)),.i i,.r 55 (eI (b:=((i+1:Nat):Int)) (by omega)),.i (i+1),.i (i+1),.r 58 (eI (b:=(i:Int)) (by omega))] rfl ?_;refine nl 2 rfl rfl rfl ?_;rw[NL,cA];rw[<-rS i x]at cm;refine Ui [.i i,.k cm,.k cb,.r 32 (eI (b:=(i:Int)-1) (by omega))] rfl ?_;exact rd (i,sta b i x A,Q.set i x) (by dsimp only;omega) ⟨by dsimp only;omega,Fy _ _,by dsimp only;omega,by dsimp only;rw[<-hku];exact Qt6 j4 hb.b hxs (by omega),by simpa using j5,Qt5 j7 (Nat.le_trans hxs hub),j6⟩ rfl
   ·cases j6
theorem cD{a b q:Uq}(h:JH a b=some q):Pb q:=by
 unfold JH at h
 split at h
 ·cases h
 ·obtain⟨q',_,hq2⟩:=Qd.1 h;obtain⟨rfl,hpb⟩:=QT (Rv _) hq2;exact hpb
theorem Qg9{a b q:Uq}(ha:Pb a)(hb:Pb b)(h:JH a b=some q):Un 303 [pr a,pr b] [pr q] :=
 Uk func303 rfl [.k (Qf3 ha hb h)] rfl
theorem kO:∀{k:Nat} {a b g:Uq},Pb a->Pb b->SK k a b=some g->Pb g
 | 0,_,_,_,_,_,h=>by cases h
 |
  k+1,a,b,g,ha,hb,h=>by
  simp only[SK]at h
  split at h
  ·injection h with h;subst h;exact ha
  ·rename_i h0;obtain⟨r,hr,h⟩:=Qd.1 h;obtain⟨rfl,hpb⟩:=QT (GR ha hb h0).1 hr;exact kO hb hpb h
theorem aP{a b g:Uq}(ha:Pb a)(hb:Pb b)(h:JS a b=some g):Un 243 [pr a,pr b] [pr g]:=by
 unfold JS at h;obtain⟨g',h2,rfl⟩:=Yx.1 h;have hg:=kO (Tf ha) (Tf hb) h2;refine Fz func243 rfl ?_;refine Uh [.k (Ic ha),.k (Ic hb)] rfl ?_;refine Um (S:=Nat×Uq×Uq) 0 (λL1 s=>(0,.v (pr s.2.1))::(1,.v (pr s.2.2))::L1) (λ_=>[]) (λs=>s.1) (λs=>Pb s.2.1/\Pb s.2.2/\SK s.1 s.2.1 s.2.2=some g') (66,Fj a,Fj b) ⟨Tf ha,Tf hb,h2⟩ rfl rfl λ⟨k,A,C⟩ ⟨j1,j2,j3⟩=>?_
 dsimp only at j1 j2 j3 ⊢;cases k with
 |zero=>cases j3
 |
  succ k =>
  simp only[SK]at j3
  split at j3
  ·rename_i h0;injection j3 with j3;subst j3;exact Uj [.f (by simpa using h0),.k (Ic j1)] rfl
  ·rename_i h0;obtain⟨r,hr,j3⟩:=Qd.1 j3;obtain⟨rfl,hpb⟩:=QT (GR j1 j2 h0).1 hr;refine Uh [.t (by simp;omega),.k (Qge j1 j2 h0)] rfl ?_;exact rd (k,C,Ry A C) (by dsimp only;omega) ⟨j2,hpb,j3⟩ rfl
theorem TB{a b g:Uq}(ha:Pb a)(hb:Pb b)(h:JS a b=some g):Pb g:=by
 unfold JS at h;obtain⟨g',h2,rfl⟩:=Yx.1 h;exact Tf (kO (Tf ha) (Tf hb) h2)
theorem Qf4{a b g:Uq}(ha:Pb a)(hb:Pb b)(h:vC a b=some g):Un 200 [.one (.row (Pn [a,b]))] [pr g]:=by
 unfold vC at h;obtain⟨g1,h1,h2⟩:=Qd.1 h;have hg1:=TB TM ha h1;refine Fz func200 rfl ?_;refine Uh [.z 3] rfl ?_;refine Um (S:=Nat) 0 (λL1 i=>(8,.v (.oi i))::(3,.v (pr (if i=0 then []else if i=1 then g1 else g)))::L1) (λ_=>[]) (λi=>2-i) (λi=>i<=2) 0 (Qh _) rfl rfl λi hi=>?_
 rcases(show i=0\/i=1\/i=2 by omega)with rfl|rfl|rfl
 ·refine Uh [.t rfl,.x (Rt (i:=0) (p:=a) rfl),.k (aP TM ha h1)] rfl ?_ (by simp[U5]);exact rd 1 (by omega) (by omega) rfl
 ·refine Uh [.t rfl,.x (Rt (i:=1) (p:=b) rfl),.k (aP hg1 hb h2)] rfl ?_ (by simp[U5]);exact rd 2 (by omega) (by omega) rfl
 ·exact Uj [.f rfl] rfl
theorem Qkl{a b g:Uq}(ha:Pb a)(hb:Pb b)(h:vC a b=some g):Pb g:=by
 unfold vC at h;obtain⟨g1,h1,h2⟩:=Qd.1 h;exact TB (TB TM ha h1) hb h2
theorem ES{p d:Uq}(h:IK (Gv p)=some d):d=Gv p/\Pb (Gv p):=QT (Fy _ _) h
theorem CX{a g:Uq}(ha:Pb a)(h:Pd a=some g):Un 281 [pr a] [pr g]:=by
 have hp:=Tf ha;unfold Pd at h
 split at h
 ·rename_i h0;injection h with h;subst h;exact Uk func281 rfl [.k (Ic ha),.k (Me _),.t (by simp;omega)] rfl
 ·rename_i h0;obtain⟨d,h1,h⟩:=Qd.1 h;obtain⟨rfl,hd⟩:=ES h1;obtain⟨g1,h1,h⟩:=Qd.1 h;exact Uk func281 rfl [.k (Ic ha),.k (Me _),.f (by simp;omega),.k (I8 hp.ln hp.bd),.k (aP hp hd h1),.k (Qg9 hp (TB hp hd h1) h)] rfl
theorem TN{a g:Uq}(ha:Pb a)(h:Pd a=some g):Pb g:=by
 unfold Pd at h
 split at h
 ·injection h with h;subst h;exact Tf ha
 ·obtain⟨d,h1,h⟩:=Qd.1 h;obtain⟨g1,h1,h⟩:=Qd.1 h;exact cD h
theorem Qkm{p:Uq}(h:Pb p):Pb (Mq p):=⟨Fy _ _,Qa (Oj p) h.l,MB h.b⟩
theorem nG:∀{k:Nat} {a b:Uq} {l:Ur},Pb a->Pb b->wH k a b=some l->l.length≤k/\∀p∈l,Pb p
 | 0,_,_,_,_,_,h=>by cases h
 |
  k+1,a,b,l,ha,hb,h=>by
  simp only[wH]at h
  split at h
  ·injection h with h;subst h;exact⟨by simp,λp hp=>by cases hp⟩
  ·rename_i h0;obtain⟨r,hr,h⟩:=Qd.1 h;obtain⟨rfl,hpb⟩:=QT (GR ha hb h0).1 hr;obtain⟨l',h1,h⟩:=Qd.1 h;injection h with h;subst h;obtain⟨i1,i2⟩:=nG hb (Qkm hpb) h1;refine⟨by simp;exact i1,λp hp=>?_⟩;rcases Qm.1 hp with rfl|hp
   ·exact hb
   ·exact i2 p hp
theorem chain_ok{p:Uq}{l:Ur}(hp:Pb p)(h:Db p=some l):l.length≤67/\∀q∈l,Pb q:=by
 unfold Db at h;obtain⟨a,h1,h⟩:=Qd.1 h;have ha:=TN hp h1
 split at h
 ·cases h
 ·obtain⟨d,h2,h⟩:=Qd.1 h;obtain⟨rfl,hd⟩:=ES h2;obtain⟨l',h3,h⟩:=Qd.1 h;injection h with h;subst h;obtain⟨i1,i2⟩:=nG ha (Tf hd) h3;refine⟨by simp;omega,λp hp=>?_⟩;rcases Qm.1 hp with rfl|hp
  ·exact ha
  ·exact i2 p hp
theorem EC(l:Ur)(p:Uq):Pn l++[[pl p]]=Pn (l++[p]):=by simp[Pn]
theorem E9(l:Ur):(Pn l).length=l.length:=by simp[Pn]
theorem Qgh{p:Uq}{l:Ur}(hp:Pb p)(h:Db p=some l):Un 253 [pr p] [.one (.sh [.row (Pn l)]),.oi 0]:=by
 unfold Db at h;obtain⟨a,h1,h⟩:=Qd.1 h;have ha:=TN hp h1
 split at h
 ·cases h
 rename_i h0;obtain⟨d,h2,h⟩:=Qd.1 h;obtain⟨rfl,hd⟩:=ES h2;obtain⟨l',h3,h⟩:=Qd.1 h;injection h with h;subst h;refine Fz func253 rfl ?_;refine Uh [.k (CX hp h1),.f (by simpa using h0),.lo,.k (I8 ha.ln ha.bd),.k (Qg4 hd.t hd.ln' hd.bd)] rfl ?_ (by simp[U5]);obtain⟨z,hz⟩:=nmE (if (Gv a).length=0 then 0 else Hr (Gv a));rw[<-hz];refine sb [(4,.v (pr a)),(7,.v (pr (Fj (Gv a)))),(5,.v (.one (.ow 1 0)))] [.row false 34 1 [[pl a]],.blk 355 [.orow 0 1 none],.blk 37 (Hg z)] rfl rfl ?_;have hll:=(nG ha (Tf hd) h3).1;refine Um (S:=Nat×Ur×Uq×Uq) 3 (λL1 s=>(4,.v (pr s.2.2.1))::(7,.v (pr s.2.2.2))::L1) (λs=>[.row false 34 1 (Pn s.2.1),.blk 355 [.orow 0 1 none],.blk 37 (Hg z)]) (λs=>s.1) (λs=>Pb s.2.2.1/\Pb s.2.2.2/\∃m,wH s.1 s.2.2.1 s.2.2.2=some m/\s.2.1++m=a::l') (66,[a],a,Fj (Gv a)) ⟨ha,Tf hd,l',h3,rfl⟩ rfl rfl λ⟨k,out,A,C⟩ ⟨j1,j2,m,j3,j4⟩=>?_
 dsimp only at j1 j2 j3 j4 ⊢;have hol:out.length<=67:=by have:=congrArg List.length j4;simp at this;omega
 cases k with
 |zero=>cases j3
 |
  succ k =>
  simp only[wH]at j3
  split at j3
  ·rename_i h0;injection j3 with j3;subst j3;rw[Zv]at j4;rw[<-j4];exact Uj [.f (by simpa using h0)] rfl
  ·rename_i h0;obtain⟨r,hr,j3⟩:=Qd.1 j3;obtain⟨rfl,hpb⟩:=QT (GR j1 j2 h0).1 hr;obtain⟨m',j6,j5⟩:=Qd.1 j3;injection j5 with j5;subst j5;refine go tt [.t (by simp;omega),.s (sz:=1) (λc hc=>by rw[Ql.1 hc];rfl),.k (Qge j1 j2 h0),.k (Qf5 hpb.ln hpb.bd)] rfl (by simp[U5,E9];omega) ?_;exact rd (k,out++[C],C,Mq (Ry A C)) (by dsimp only;omega) ⟨j2,Qkm hpb,m',j6,by rw[<-j4];simp⟩ (by rw[EC];rfl)
structure Tb(t:Tm):Prop where
 p:Pb t.p
 lo:Qb t.lo
 hi:Qb t.hi
theorem iQ(x y:Int):-1<=Ld x y/\Ld x y<=1:=by unfold Ld;split <;> (try split) <;> omega
theorem QS(a b:Rat):-1<=Hk a b/\Hk a b<=1:=iQ _ _
theorem O4(p:Uq)(q:Rat):-1<=Ri p q/\Ri p q<=1:=iQ _ _
theorem cX(p:Uq)(q:Rat):-1<=low p q/\low p q<=1:=by unfold low;split <;> exact O4 _ _
theorem Qb.s31{q:Rat}(h:Qb q):Qs 2147483647 q:=h.mono (by decide)
theorem Qb.s32{q:Rat}(h:Qb q):Qs 4294967295 q:=h.mono (by decide)
theorem MJ{p:Uq}{q:Rat}(hp:Pb p)(hq:Qb q):Un 241 [pr p,.agg (rl q)] [.oi (Ri p q)]:=by
 have hm:p.length*(16777216+1)<=64*16777217:=Q0 _ hp.l;exact aQ hp.t hp.ln hp.b hq (by omega)
theorem Qy1{p:Uq}{q:Rat}(hp:Pb p)(hq:Qb q):Un 241 [pr (Gv p),.agg (rl q)] [.oi (Ri (Gv p) q)]:=by
 have hl:=Qa (Mn p) (show p.length-1<=64 by have:=hp.l;omega);have hm:(Gv p).length*(16777216+1)<=64*16777217:=Q0 _ hl;exact aQ (Fy _ _) (Z2 hl (by omega)) (jV (t:=6) hp.b hp.l) hq (by omega)
theorem Lc{t:Tm}(ht:Tb t):Un 198 [.agg (ta t)] [.one (.bool t.point)] :=
 Uk func198 rfl [.k (Dm ht.lo.s31 ht.hi.s31)] rfl
theorem MI{t:Tm}(ht:Tb t):Un 197 [.agg (ta t)] [.agg (ta t)] :=
 Uk func197 rfl [.k (Hu ht.p.t ht.p.ln ht.p.bd),.k (Nw ht.lo.s32),.k (Nw ht.hi.s32)] rfl
theorem Qhg{t:Tm}(ht:Tb t):Un 240 [.agg (ta t)] [.agg (ta t)]:=Uk func240 rfl [.k (MI ht)] rfl
theorem Qgy{p:Uq}{q:Rat}(hp:Pb p)(hq:Qb q):Un 242 [pr p,.agg (rl q)] [.oi (low p q)]:=by
 unfold low;by_cases h:Ri p q=0
 ·rw[if_neg (by simpa using h)];exact Uk func242 rfl [.k (MJ hp hq),.f (by simpa using h),.k (I8 hp.ln hp.bd),.k (Qy1 hp hq)] rfl
 ·rw[if_pos h];exact Uk func242 rfl [.k (MJ hp hq),.t (by simpa using h)] rfl
theorem Qgw{p:Uq}{lo hi:Rat}(hp:Pb p)(hl:Qb lo)(hh:Qb hi):Un 201 [pr p,.agg (rl lo),.agg (rl hi)] [.one (.bool (FT p lo hi))]:=by
 by_cases h:Ri p hi=0
 ·exact Uk func201 rfl [.k (MJ hp hh),.t (by simpa using h)] rfl (by simp[FT,h]) trivial
 ·exact Uk func201 rfl [.k (MJ hp hh),.f (by simpa using h),.k (Qgy hp hl)] rfl (by simp[FT,h]) trivial
theorem Dk{t:Tm}{q:Rat}(ht:Tb t)(hq:Qb q):Un 199 [.agg (ta t),.agg (rl q)] [.oi (Fq t q)]:=by
 have cp:=Lc ht;unfold Fq;by_cases h1:t.point=true
 ·rw[if_pos h1];exact Uk func199 rfl [.k cp,.t h1,.k (Dm ht.lo.s31 hq.s31)] rfl
 rw[if_neg h1];have h1:t.point=false:=by simpa using h1
 have c1:=Dm hq.s31 ht.lo.s31;have c2:=Dm hq.s31 ht.hi.s31;by_cases h2:Hk q t.lo<=0
 ·rw[if_pos h2];exact Uk func199 rfl [.k cp,.f h1,.k c1,.t (by simpa using h2)] rfl
 rw[if_neg h2];by_cases h3:0<Hk q t.hi
 ·rw[if_pos h3];exact Uk func199 rfl [.k cp,.f h1,.k c1,.f (by simpa using h2),.k c2,.t (by simpa using h3)] rfl
 rw[if_neg h3];by_cases h4:Ri t.p q=0
 ·rw[if_pos h4];exact Uk func199 rfl [.k cp,.f h1,.k c1,.f (by simpa using h2),.k c2,.f (by simpa using h3),.k (MJ ht.p hq),.t (by simpa using h4)] rfl
 rw[if_neg h4];by_cases h5:Ri t.p q=low t.p t.lo
 ·rw[if_pos h5];exact Uk func199 rfl [.k cp,.f h1,.k c1,.f (by simpa using h2),.k c2,.f (by simpa using h3),.k (MJ ht.p hq),.f (by simpa using h4),.k (Qgy ht.p ht.lo),.t (by simpa using h5)] rfl
 ·rw[if_neg h5];exact Uk func199 rfl [.k cp,.f h1,.k c1,.f (by simpa using h2),.k c2,.f (by simpa using h3),.k (MJ ht.p hq),.f (by simpa using h4),.k (Qgy ht.p ht.lo),.f (by simpa using h5)] rfl
theorem Qo2(t:Tm)(q:Rat):-1<=Fq t q/\Fq t q<=1:=by
 unfold Fq;have:=QS t.lo q
 repeat' split
 all_goals omega
theorem Qpb(q:Rat):0<(q.den:Int):=by have:=q.den_pos;omega
theorem Qso{a b:Rat}(ha:Qb a)(hb:Qb b):Un 277 [.agg (rl a),.agg (rl b)] [.agg (rl (mid a b))]:=by
 have h1:Fg (a.num*(b.den:Int))<=33554432:=Qa (Gf _ _) (by have:=ha.1;have:=hb.2;omega);have h2:Fg (b.num*(a.den:Int))<=33554432:=Qa (Gf _ _) (by have:=hb.1;have:=ha.2;omega);have h3:Fg ((a.den:Int)*(b.den:Int))<=33554432:=Qa (Gf _ _) (by have:=ha.2;have:=hb.2;omega);have h4:Fg (2:Int)<=2:=by decide
 have h5:Fg (a.num*(b.den:Int)+b.num*(a.den:Int))<=33554433:=Qa (QE _ _) (by omega);have h6:Fg ((a.den:Int)*(b.den:Int)*2)<=33554434:=Qa (Gf _ _) (by omega);have h0:(a.den:Int)*(b.den:Int)*2≠0:=by
  have:=Int.mul_pos (Qpb a) (Qpb b);omega
 exact Uk func277 rfl [.k (jR ha.s31 hb.s31),.k (KD (U6 _) (U6 _) (by omega) (by omega)),.k (BI (z:=2) (by decide)),.k (P8 (U6 _) (U6 _) (by omega) (by omega)),.k (XQ h0 (by omega) (by omega))] rfl
theorem jM{a b:Rat}(ha:Qb a)(hb:Qb b):Un 245 [.agg (rl a),.agg (rl b)] [.agg (rl (AH a b))]:=by
 have h1:Fg (a.num*(b.den:Int))<=33554432:=Qa (Gf _ _) (by have:=ha.1;have:=hb.2;omega);have h2:Fg (b.num*(a.den:Int))<=33554432:=Qa (Gf _ _) (by have:=hb.1;have:=ha.2;omega);have h3:Fg ((a.den:Int)*(b.den:Int))<=33554432:=Qa (Gf _ _) (by have:=ha.2;have:=hb.2;omega);have h5:Fg (a.num*(b.den:Int)-b.num*(a.den:Int))<=33554433:=Qa (yN _ _) (by omega);have h0:(a.den:Int)*(b.den:Int)≠0:=by
  have:=Int.mul_pos (Qpb a) (Qpb b);omega
 exact Uk func245 rfl [.k (jR ha.s31 hb.s31),.k (Qgr (U6 _) (U6 _) (by omega) (by omega)),.k (XQ h0 (by omega) (by omega))] rfl
theorem CC{q r:Rat}(h:chq q=some r):r=q/\Qb q:=by
 unfold chq at h
 split at h
 ·rename_i hc;injection h with h;exact⟨h.symm,hc⟩
 ·cases h
theorem nV{t u:Tm}(ht:Tb t)(h:yR t=some u):Un 246 [.agg (ta t)] [.agg (ta u)]:=by
 have cp:=Lc ht;unfold yR at h
 split at h
 ·rename_i h1;injection h with h;subst h;exact Uk func246 rfl [.k cp,.t h1] rfl
 ·rename_i h1;have h1:t.point=false:=by simpa using h1
  obtain⟨m,hm0,h⟩:=Qd.1 h;obtain⟨rfl,hm⟩:=CC hm0;injection h with h;subst h;have cm:=Qso ht.lo ht.hi;have cc:=Dk ht hm;by_cases h2:Fq t (mid t.lo t.hi)=0
  ·rw[if_pos h2];exact Uk func246 rfl [.k cp,.f h1,.k cm,.k cc,.t (by simpa using h2)] rfl
  rw[if_neg h2];by_cases h3:Fq t (mid t.lo t.hi)=-1
  ·rw[if_pos h3];exact Uk func246 rfl [.k cp,.f h1,.k cm,.k cc,.f (by simpa using h2),.t (by simpa using h3)] rfl
  ·rw[if_neg h3];exact Uk func246 rfl [.k cp,.f h1,.k cm,.k cc,.f (by simpa using h2),.f (by simpa using h3)] rfl
theorem kN{t u:Tm}(ht:Tb t)(h:yR t=some u):Tb u:=by
 unfold yR at h
 split at h
 ·injection h with h;subst h;exact ht
 ·obtain⟨m,hm0,h⟩:=Qd.1 h;obtain⟨rfl,hm⟩:=CC hm0;injection h with h;subst h
  repeat' split
  ·exact⟨ht.p,hm,hm⟩
  ·exact⟨ht.p,ht.lo,hm⟩
  ·exact⟨ht.p,hm,ht.hi⟩
theorem QW{z:Int}(h:Fg z<=4294967296):Un 191 [.one (mg z)] [.oi (Fg z:Int)]:=by
 have h1:=mN (l:=Gg z.natAbs) (Lv _) (by rw[Ha];exact h);rw[Ha]at h1;exact h1
theorem EO{p:Uq}{i:Nat}{z:Int}(h:p[i]? = some z):Hb (p.take (i+1))=max (Hb (p.take i)) (Fg z):=by
 unfold Hb;rw[List.take_succ,h,Option.toList_some,List.foldl_append];rfl
theorem Mv{p:Uq}{s:Nat}(h:Bd s p):∀i,Hb (p.take i)<=s
 | 0=>by simp[Hb]
 |
  i+1=>by
  cases hz:p[i]? with
  |
   none =>
   rw[Qn (by have:=Xz.1 hz;omega),<-Qn (l:=p) (i:=i) (by have:=Xz.1 hz;omega)];exact Mv h i
  |some z=>rw[EO hz];have:=Mv h i;have:=Qfd h hz;omega
theorem jN{p:Uq}(hp:Pb p):Un 276 [pr p] [.oi (Hb p:Int)]:=by
 have hl:=hp.l;refine Fz func276 rfl ?_;refine Uh [] rfl ?_;refine Um (S:=Nat) 0 (λL1 i=>(8,.v (.oi i))::(3,.v (.oi (Hb (p.take i):Int)))::L1) (λ_=>[]) (λi=>p.length-i) (λi=>i<=p.length) 0 (Qh _) rfl rfl λi hi=>?_
 by_cases hlt:i<p.length
 ·have hg:=Td hlt;have hz:=Fw hp.b i;have hs:=EO hg;refine Ui [.t (by simp;omega),.x (Pv hg),.k (QW (by omega)),.r 16 (eI (b:=(Hb (p.take (i+1)):Int)) (by rw[hs];omega))] rfl ?_;exact rd (i+1) (by omega) hlt rfl
 ·obtain rfl:i=p.length:=by omega
  rw[Q7];exact Uj [.f (by simp)] rfl
theorem Qow{a:Tm}{b:Tm}(ha:Tb a)(hb:Tb b):Un 244 [.agg (ta a),.agg (ta b)] [.oi (Mc a b:Nat)]:=by
 have l1:=ha.p.l;have l2:=hb.p.l;have b1:=ha.lo.1;have b2:=ha.hi.1;have b3:=hb.lo.1;have b4:=hb.hi.1;have s1:Hb a.p<=16777216:=by have:=Mv ha.p.b a.p.length;rwa[Q7]at this
 have s2:Hb b.p<=16777216:=by have:=Mv hb.p.b b.p.length;rwa[Q7]at this
 obtain⟨N,hN⟩:=nmE (4*(a.p.length+b.p.length));obtain⟨S,hS⟩:=nmE (Hb a.p+Hb b.p+(a.p.length+b.p.length)+8);have hNS:N*S<=512*33554568:=Q8 (by omega) (by omega);have h0:(N:Int)*(S:Int)=((N*S:Nat):Int):=(Vj _ _).symm;have hst:Mc a b=64+2*(Fg a.lo.num+Fg a.hi.num+Fg b.lo.num+Fg b.hi.num)+N*S:=by rw[hN,hS];rfl
 rw[hst];exact Uk func244 rfl [.k (QW (z:=a.lo.num) (by omega)),.k (QW (z:=a.hi.num) (by omega)),.k (QW (z:=b.lo.num) (by omega)),.k (QW (z:=b.hi.num) (by omega)),.r 41 (eI (b:=(N:Int)) (by rw[hN];simp)),.k (jN ha.p),.k (jN hb.p),.r 51 (eI (b:=(S:Int)) (by rw[hS];simp)),.r 52 (eI (b:=((N*S:Nat):Int)) h0)] rfl (by simp) (by rw[h0];simp[U5];omega)
def lU(p:Uq)(a:Tm):Nat:=64+2*(Fg a.lo.num+Fg a.hi.num)+4*(a.p.length+p.length)*(Hb a.p+Hb p+(a.p.length+p.length)+8)
theorem eP:Un 191 [lr []] [.oi 0]:=mN (l:=[]) (by simp[Sm]) (by decide)
theorem Qhd{a:Tm}{p:Uq}(ha:Tb a)(hp:Pb p):Un 244 [.agg (ta a),.agg ([pl p,.bool false,.row [],.bool false,.row [],.bool false,.row [],.bool false,.row []])] [.oi (lU p a:Nat)]:=by
 have l1:=ha.p.l;have l2:=hp.l;have b1:=ha.lo.1;have b2:=ha.hi.1;have s1:Hb a.p<=16777216:=by have:=Mv ha.p.b a.p.length;rwa[Q7]at this
 have s2:Hb p<=16777216:=by have:=Mv hp.b p.length;rwa[Q7]at this
 obtain⟨N,hN⟩:=nmE (4*(a.p.length+p.length));obtain⟨S,hS⟩:=nmE (Hb a.p+Hb p+(a.p.length+p.length)+8);have hNS:N*S<=512*33554568:=Q8 (by omega) (by omega);have h0:(N:Int)*(S:Int)=((N*S:Nat):Int):=(Vj _ _).symm;have hst:lU p a=64+2*(Fg a.lo.num+Fg a.hi.num)+N*S:=by rw[hN,hS];rfl
 rw[hst];exact Uk func244 rfl [.k (QW (z:=a.lo.num) (by omega)),.k (QW (z:=a.hi.num) (by omega)),.k eP,.k eP,.r 41 (eI (b:=(N:Int)) (by rw[hN];simp)),.k (jN ha.p),.k (jN hp),.r 51 (eI (b:=(S:Int)) (by rw[hS];simp)),.r 52 (eI (b:=((N*S:Nat):Int)) h0)] rfl (by simp) (by rw[h0];simp[U5];omega)
def VI(sg:Uq->Int)(l:Ur)(i:Nat):Nat×Int:=(l.take i).foldl (P0 sg) (0,0)
theorem kL{sg:Uq->Int}(hs:∀p,-1<=sg p/\sg p<=1)(l:Ur):∀i,(VI sg l i).1<=i/\-1<=(VI sg l i).2/\(VI sg l i).2<=1
 | 0=>⟨Qk _,show(-1:Int)<=0 by decide,show(0:Int)<=1 by decide⟩
 |
  i+1=>by
  obtain⟨h1,h2,h3⟩:=kL hs l i;cases h:l[i]? with
  |
   none =>
   have:VI sg l (i+1)=VI sg l i:=by unfold VI;rw[List.take_of_length_le (by have:=List.getElem?_eq_none_iff.1 h;omega),List.take_of_length_le (List.getElem?_eq_none_iff.1 h)]
   rw[this];omega
  |
   some p =>
   have:VI sg l (i+1)=P0 sg (VI sg l i) p:=Sj _ _ _ h;rw[this];have:=hs p;unfold P0
   split
   ·omega
   ·dsimp only;split <;> omega
theorem Qoz{l:Ur}{fid:Nat}{l1:Uv}{sg:Uq->Int}(hl:l.length≤1000)(hs:∀p,-1≤sg p/\sg p≤1)(h:∀p∈l,IF prog fid [pr p,.one (.sh l1)] [.oi (sg p)]):Un 305 [.one (.sh [.row (Pn l)]),.one (.fn fid [] [.sh l1])] [.oi (C5 sg l:Nat)]:=by
 have hpl:=E9 l;refine Fz func305 rfl ?_;refine Uh [] rfl ?_;refine Um (S:=Nat) 0 (λL1 i=>(15,.v (.oi i))::(5,.v (.oi ((VI sg l i).1:Int)))::(6,.v (.one (.int .i64 (VI sg l i).2)))::L1) (λ_=>[]) (λi=>l.length-i) (λi=>i<=l.length) 0 (Qh _) rfl rfl λi hi=>?_
 by_cases hlt:i<l.length
 ·obtain⟨p,hp⟩:=gxE (l:=l) (i:=i) hlt;have hst:VI sg l (i+1)=P0 sg (VI sg l i) p:=Sj _ _ _ hp;obtain⟨b1,b2,b3⟩:=kL hs l i;have b4:=hs p;by_cases h0:sg p=0
  ·refine Ui [.t (by simp[hpl];omega),.x (Rt hp),.k (h p (Qc hp)),.t (by simpa using h0)] rfl ?_;exact rd (i+1) (by omega) hlt (by rw[hst,show P0 sg (VI sg l i) p=VI sg l i from by unfold P0;rw[if_pos h0]];rfl)
  ·by_cases h1:(VI sg l i).2=-(sg p)
   ·refine Ui [.t (by simp[hpl];omega),.x (Rt hp),.k (h p (Qc hp)),.f (by simpa using h0),.t (by simpa using h1)] rfl ?_;exact rd (i+1) (by omega) hlt (by rw[hst,show P0 sg (VI sg l i) p=((VI sg l i).1+1,sg p) from by unfold P0;rw[if_neg h0,if_pos h1]];rfl)
   ·refine Ui [.t (by simp[hpl];omega),.x (Rt hp),.k (h p (Qc hp)),.f (by simpa using h0),.f (by simpa using h1)] rfl ?_;exact rd (i+1) (by omega) hlt (by rw[hst,show P0 sg (VI sg l i) p=((VI sg l i).1,sg p) from by unfold P0;rw[if_neg h0,if_neg h1]];rfl)
 ·obtain rfl:i=l.length:=by omega
  refine Uj [.f (by simp[hpl])] rfl ?_ trivial;unfold VI C5;rw[List.take_length]
theorem Qgp{p:Uq}{q:Rat}(hp:Pb p)(hq:Qb q):Un 306 [pr p,.one (.sh (rl q))] [.oi (Ri p q)]:=Uk func306 rfl [.k (MJ hp hq)] rfl
theorem aV{l:Ur}{q:Rat}(hl:l.length≤1000)(hp:∀p∈l,Pb p)(hq:Qb q):Un 284 [.one (.sh [.row (Pn l)]),.agg (rl q)] [.oi (C6 l q:Nat)] :=
 Uk func284 rfl [.k (Qoz (fid:=306) (l1:=rl q) (sg:=λp=>Ri p q) hl (λp=>O4 p q) λp h=>Qgp (hp p h) hq)] rfl
theorem Lx{sg:Uq->Int}(hs:∀p,-1<=sg p/\sg p<=1)(l:Ur):C5 sg l<=l.length:=by
 have:=(kL hs l l.length).1;unfold VI at this;rwa[List.take_length]at this
theorem OX{l:Ur}{lo hi:Rat}(hl:l.length≤1000)(hp:∀p∈l,Pb p)(ql:Qb lo)(qh:Qb hi):Un 254 [.one (.sh [.row (Pn l)]),.agg (rl lo),.agg (rl hi)] [.oi (Ts l lo hi)]:=by
 have b1:C6 l lo<=l.length:=Lx (λp=>O4 p lo) l;have b2:C6 l hi<=l.length:=Lx (λp=>O4 p hi) l;have c1:=Dm qh.s31 ql.s31;unfold Ts;by_cases h:Hk hi lo<0
 ·rw[if_pos h];exact Uk func254 rfl [.k c1,.t (by simpa using h)] rfl
 ·rw[if_neg h];exact Uk func254 rfl [.k c1,.f (by simpa using h),.k (aV hl hp ql),.k (aV hl hp qh)] rfl rfl (by simp[U5];omega)
def zTm:Uv:=[.nils,.bool false,.nils,.bool false,.nils,.bool false,.nils,.bool false,.nils]
theorem Qee{a b:Tm}(ha:Tb a)(hb:Tb b):Mc a b<=17179938816+200000000:=by
 have l1:=ha.p.l;have l2:=hb.p.l;have b1:=ha.lo.1;have b2:=ha.hi.1;have b3:=hb.lo.1;have b4:=hb.hi.1;have s1:Hb a.p<=16777216:=by have:=Mv ha.p.b a.p.length;rwa[Q7]at this
 have s2:Hb b.p<=16777216:=by have:=Mv hb.p.b b.p.length;rwa[Q7]at this
 have:4*(a.p.length+b.p.length)*(Hb a.p+Hb b.p+(a.p.length+b.p.length)+8)<=512*33554568:=Q8 (by omega) (by omega);unfold Mc;omega
theorem Qqy{a b:Rat}(ha:Qb a)(hb:Qb b):Qs 2147483647 (AH a b):=by
 have h1:Fg (a.num*(b.den:Int))<=33554432:=Qa (Gf _ _) (by have:=ha.1;have:=hb.2;omega);have h2:Fg (b.num*(a.den:Int))<=33554432:=Qa (Gf _ _) (by have:=hb.1;have:=ha.2;omega);have h3:Fg ((a.den:Int)*(b.den:Int))<=33554432:=Qa (Gf _ _) (by have:=ha.2;have:=hb.2;omega);have h5:Fg (a.num*(b.den:Int)-b.num*(a.den:Int))<=33554433:=Qa (yN _ _) (by omega);exact(Qs.divInt (s:=33554433) h5 (by omega) (by omega)).mono (by omega)
theorem jH{a b:Tm}{r:Tm×Tm×Int}(ha:Tb a)(hb:Tb b)(h:IG (Mc a b) a b=some r):Un 202 [.agg (ta a),.agg (ta b)] [.agg (ta r.1),.agg (ta r.2.1),.oi r.2.2]:=by
 have hsb:=Qee ha hb;refine Fz func202 rfl ?_;refine Uh [.k (Qow ha hb)] rfl ?_;obtain⟨n,hn⟩:=nmE (Mc a b);rw[<-hn]at h hsb ⊢;refine sb [(10,.v (.oi 0)),(9,.v (.oi n)),(5,.v (.one (.ow 3 0))),(4,.v (.one (.ow 2 0))),(3,.v (.one (.ow 1 0))),(2,.v (.one (.ow 0 0)))] [.blk 189 (ta a),.blk 189 (ta b),.blk 189 zTm,.blk 189 zTm] rfl rfl ?_;refine Um (S:=Nat×Tm×Tm) 4 (λL1 s=>(10,.v (.oi (s.1:Int)))::L1) (λs=>[.blk 189 (ta s.2.1),.blk 189 (ta s.2.2),.blk 189 zTm,.blk 189 zTm]) (λs=>n-s.1) (λs=>s.1<=n/\Tb s.2.1/\Tb s.2.2/\IG (n-s.1) s.2.1 s.2.2=some r) (0,a,b) ⟨Qh _,ha,hb,h⟩ rfl rfl λ⟨i,u,v⟩ ⟨j1,j2,j3,j4⟩=>?_
 dsimp only at j1 j2 j3 j4 ⊢;by_cases hi:i<n
 ·obtain⟨k,hk⟩:∃k,n-i=k+1:=⟨n-i-1,by omega⟩;have hk':n-(i+1)=k:=by omega
  rw[hk]at j4;have c1:=Dm j2.hi.s31 j3.lo.s31;have c2:=Dm j3.hi.s31 j2.lo.s31;have pu:=Lc j2;have pv:=Lc j3;have hlt:decide ((i:Int)<(n:Int))=true:=by simp;omega
  simp only[IG]at j4;refine Uh [.t hlt] rfl ?_;refine ct 3 (S:=Unit) (λ_=>[(10,.v (.oi i)),(9,.v (.oi n)),(5,.v (.one (.ow 3 0))),(4,.v (.one (.ow 2 0))),(3,.v (.one (.ow 1 0))),(2,.v (.one (.ow 0 0)))]) (λ_=>[.blk 189 (ta u),.blk 189 (ta v),.blk 189 zTm,.blk 189 zTm]) (λ_=>¬La u v=true/\¬La v u=true) rfl ?_ ?_
  ·have bA:La u v=(decide (Hk u.hi v.lo<=0) && !(u.point && v.point && decide (Hk u.hi v.lo=0))):=by
    unfold La;cases u.point <;> cases v.point <;> simp
   have bB:La v u=(decide (Hk v.hi u.lo<=0) && !(u.point && v.point && decide (Hk v.hi u.lo=0))):=by
    unfold La;cases u.point <;> cases v.point <;> simp
   obtain⟨a0,A'⟩:∃b,decide (Hk u.hi v.lo<=0)=b:=⟨_,rfl⟩;obtain⟨b0,B'⟩:∃b,decide (Hk v.hi u.lo<=0)=b:=⟨_,rfl⟩;obtain⟨p0,P'⟩:∃b,u.point=b:=⟨_,rfl⟩;obtain⟨q0,Q'⟩:∃b,v.point=b:=⟨_,rfl⟩;obtain⟨x0,X'⟩:∃b,decide (Hk u.hi v.lo=0)=b:=⟨_,rfl⟩;obtain⟨y0,Y'⟩:∃b,decide (Hk v.hi u.lo=0)=b:=⟨_,rfl⟩;rw[A',P',Q',X']at bA;rw[B',P',Q',Y']at bB;have r1:La u v=true->(u,v,-1)=r:=λh=>by rw[if_pos h]at j4;injection j4
   have r2:¬La u v=true->La v u=true->(u,v,1)=r:=λh h'=>by rw[if_neg h,if_pos h']at j4;injection j4
   clear j4;cases a0
   ·cases b0
    ·exact go tt [.k c1,.g 19 false A',.f rfl,.k c2,.g 45 false B',.f rfl] rfl trivial (rc () ⟨by rw[bA];simp,by rw[bB];simp⟩ rfl)
    ·cases p0
     ·obtain rfl:=r2 (by rw[bA];simp) (by rw[bB];rfl);exact Uj [.k c1,.g 19 false A',.f rfl,.k c2,.g 45 true B',.k pu,.g 48 false P',.g 52 false rfl,.t rfl] rfl
     ·cases q0
      ·obtain rfl:=r2 (by rw[bA];simp) (by rw[bB];rfl);exact Uj [.k c1,.g 19 false A',.f rfl,.k c2,.g 45 true B',.k pu,.g 48 true P',.k pv,.g 52 false Q',.t rfl] rfl
      ·cases y0
       ·obtain rfl:=r2 (by rw[bA];simp) (by rw[bB];rfl);exact Uj [.k c1,.g 19 false A',.f rfl,.k c2,.g 45 true B',.k pu,.g 48 true P',.k pv,.g 52 true Q',.k c2,.t (by simpa using Y')] rfl
       ·exact go tt [.k c1,.g 19 false A',.f rfl,.k c2,.g 45 true B',.k pu,.g 48 true P',.k pv,.g 52 true Q',.k c2,.f (by simpa using Y')] rfl trivial (rc () ⟨by rw[bA];simp,by rw[bB];simp⟩ rfl)
   ·cases p0
    ·obtain rfl:=r1 (by rw[bA];rfl);exact Uj [.k c1,.g 19 true A',.k pu,.g 22 false P',.g 26 false rfl,.t rfl] rfl
    ·cases q0
     ·obtain rfl:=r1 (by rw[bA];rfl);exact Uj [.k c1,.g 19 true A',.k pu,.g 22 true P',.k pv,.g 26 false Q',.t rfl] rfl
     ·cases x0
      ·obtain rfl:=r1 (by rw[bA];rfl);exact Uj [.k c1,.g 19 true A',.k pu,.g 22 true P',.k pv,.g 26 true Q',.k c1,.t (by simpa using X')] rfl
      ·cases b0
       ·exact go tt [.k c1,.g 19 true A',.k pu,.g 22 true P',.k pv,.g 26 true Q',.k c1,.f (by simpa using X'),.k c2,.g 45 false B',.f rfl] rfl trivial (rc () ⟨by rw[bA];simp,by rw[bB];simp⟩ rfl)
       ·cases y0
        ·obtain rfl:=r2 (by rw[bA];simp) (by rw[bB];rfl);exact Uj [.k c1,.g 19 true A',.k pu,.g 22 true P',.k pv,.g 26 true Q',.k c1,.f (by simpa using X'),.k c2,.g 45 true B',.k pu,.g 48 true P',.k pv,.g 52 true Q',.k c2,.t (by simpa using Y')] rfl
        ·exact go tt [.k c1,.g 19 true A',.k pu,.g 22 true P',.k pv,.g 26 true Q',.k c1,.f (by simpa using X'),.k c2,.g 45 true B',.k pu,.g 48 true P',.k pv,.g 52 true Q',.k c2,.f (by simpa using Y')] rfl trivial (rc () ⟨by rw[bA];simp,by rw[bB];simp⟩ rfl)
  ·rintro _ ⟨n1,n2⟩
   rw[if_neg n1,if_neg n2]at j4;have qr:∀{x y:Rat},Qb x->Qb y->Qs 2147483647 (AH x y):=λh1 h2=>Qqy h1 h2
   have cc:=Dm (qr j2.hi j2.lo) (qr j3.hi j3.lo);by_cases D:0<=Hk (AH u.hi u.lo) (AH v.hi v.lo)
   ·rw[if_pos D]at j4;obtain⟨x,x1,x2⟩:=Qd.1 j4;refine Ui [.k (jM j2.hi j2.lo),.k (jM j3.hi j3.lo),.k cc,.t (by simpa using D),.k (nV j2 x1)] rfl ?_;exact rd (i+1,x,v) (by dsimp only;omega) ⟨hi,kN j2 x1,j3,by dsimp only;rw[hk'];exact x2⟩ rfl
   ·rw[if_neg D]at j4;obtain⟨x,x1,x2⟩:=Qd.1 j4;refine Ui [.k (jM j2.hi j2.lo),.k (jM j3.hi j3.lo),.k cc,.f (by simpa using D),.k (nV j3 x1)] rfl ?_;exact rd (i+1,u,x) (by dsimp only;omega) ⟨hi,j2,kN j3 x1,by dsimp only;rw[hk'];exact x2⟩ rfl
 ·obtain rfl:i=n:=by omega
  rw[Kk]at j4;simp only[IG]at j4;injection j4 with j4;subst j4;exact Uj [.f (by simp)] rfl
theorem Qov{a b:Rat}(ha:Qb a)(hb:Qb b):Un 64 [.agg (rl a),.one (.row [rl b])] [.agg (rl (if 0<Hk b a then b else a))]:=by
 have ca:=MA (U6 a.num) (U6 (a.den:Int)) ha.s32.1 ha.s32.2;have cb:=MA (U6 b.num) (U6 (b.den:Int)) hb.s32.1 hb.s32.2;rw[Sx]at ca cb;have cc:=Dm hb.s31 ha.s31;refine Fz func64 rfl ?_;refine Uh [.k ca] rfl ?_;refine Um (S:=Nat) 3 (λL1 i=>(12,.v (.oi i))::L1) (λi=>[.blk 43 (rl a),.blk 43 [.bool false,.nils,.bool false,.nils],.blk 43 (rl (if i=0 then a else if 0<Hk b a then b else a))]) (λi=>1-i) (λi=>i<=1) 0 (Qh _) rfl rfl λi hi=>?_
 rcases(show i=0\/i=1 by omega)with rfl|rfl
 ·by_cases h:0<Hk b a
  ·refine Uh [.t rfl,.x (i:=0) (xs:=rl b) rfl,.k cc,.t (by simpa using h),.k cb] rfl ?_ (by simp[U5]);exact rd 1 (by omega) (by omega) (by rw[if_pos h];rfl)
  ·refine Uh [.t rfl,.x (i:=0) (xs:=rl b) rfl,.k cc,.f (by simpa using h)] rfl ?_ (by simp[U5]);exact rd 1 (by omega) (by omega) (by rw[if_neg h];rfl)
 ·exact Uj [.f rfl] rfl
theorem KP{a b:Tm}{c:Int}(ha:Tb a)(hb:Tb b)(h:UD a b=some c):Un 162 [.agg (ta a),.agg (ta b)] [.oi c]:=by
 have ca:=MI ha;have cb:=MI hb;have pa:=Lc ha;have pb:=Lc hb;unfold UD at h;by_cases h1:a.point=true
 ·rw[if_pos h1]at h;injection h with h;subst h;have:=Qo2 b a.lo;exact Uk func162 rfl [.k ca,.k cb,.k pa,.t h1,.k (Dk hb ha.lo)] rfl rfl (by simp[U5];omega)
 rw[if_neg h1]at h;have h1:a.point=false:=by simpa using h1
 by_cases h2:b.point=true
 ·rw[if_pos h2]at h;injection h with h;subst h;exact Uk func162 rfl [.k ca,.k cb,.k pa,.f h1,.k pb,.t h2,.k (Dk ha hb.lo)] rfl
 rw[if_neg h2]at h;have h2:b.point=false:=by simpa using h2
 obtain⟨lo,hlo⟩:=nmE (if 0<Hk b.lo a.lo then b.lo else a.lo);obtain⟨hi,hhi⟩:=nmE (if Hk b.hi a.hi<0 then b.hi else a.hi);have h:(if Hk lo hi<0 then(vC a.p b.p).bind λg=>if 1<g.length/\FT g lo hi=true then some 0 else(IG (Mc a b) a b).bind λr=>some r.2.2 else(IG (Mc a b) a b).bind λr=>some r.2.2)=some c:=by rw[hlo,hhi];exact h
 have qlo:Qb lo:=by rw[hlo];split;exact hb.lo;exact ha.lo
 have qhi:Qb hi:=by rw[hhi];split;exact hb.hi;exact ha.hi
 have cm:=Qov ha.lo hb.lo;rw[<-hlo]at cm;have cc1:=Dm hb.hi.s31 ha.hi.s31;have cc2:=Dm qlo.s31 qhi.s31;refine Fz func162 rfl ?_;refine Uh [.k ca,.k cb,.k pa,.f h1,.k pb,.f h2,.k cm] rfl ?_;refine ct 2 (S:=Unit) (λ_=>[(6,.v (.one (.ow 3 0))),(5,.v (.one (.ow 2 0))),(4,.v (.oi 0)),(3,.v (.one (.ow 1 0))),(2,.v (.one (.ow 0 0)))]) (λ_=>[.blk 189 (ta a),.blk 189 (ta b),.blk 43 (rl lo),.blk 43 (rl hi)]) (λ_=>True) rfl ?_ ?_
 ·by_cases D:Hk b.hi a.hi<0
  ·rw[if_pos D]at hhi;subst hhi;exact go tt [.k cc1,.t (by simpa using D)] rfl trivial (rc () trivial rfl)
  ·rw[if_neg D]at hhi;subst hhi;exact go tt [.k cc1,.f (by simpa using D)] rfl trivial (rc () trivial rfl)
 ·rintro _ _
  by_cases D:Hk lo hi<0
  ·rw[if_pos D]at h;obtain⟨g,g1,h⟩:=Qd.1 h;have cg:=Qf4 ha.p hb.p g1;have pg:=Qkl ha.p hb.p g1;have ch:=Qgw pg qlo qhi;by_cases G:1<g.length
   ·by_cases R:FT g lo hi=true
    ·rw[if_pos ⟨G,R⟩]at h;injection h with h;subst h;exact Uj [.k cc2,.t (by simpa using D),.k cg,.k (Me g),.g 58 true (by simp;omega),.k ch,.t R] rfl
    ·rw[if_neg λh=>R h.2]at h;obtain⟨r,r1,h⟩:=Qd.1 h;injection h with h;subst h;exact Uj [.k cc2,.t (by simpa using D),.k cg,.k (Me g),.g 58 true (by simp;omega),.k ch,.f (by simpa using R),.k (jH ha hb r1)] rfl
   ·rw[if_neg λh=>G h.1]at h;obtain⟨r,r1,h⟩:=Qd.1 h;injection h with h;subst h;exact Uj [.k cc2,.t (by simpa using D),.k cg,.k (Me g),.g 58 false (by simp;omega),.f rfl,.k (jH ha hb r1)] rfl
  ·rw[if_neg D]at h;obtain⟨r,r1,h⟩:=Qd.1 h;injection h with h;subst h;exact Uj [.k cc2,.f (by simpa using D),.k (jH ha hb r1)] rfl
theorem Qnn{p:Uq}{a:Tm}{s:Int}(hp:Pb p)(ha:Tb a)(h:HQ p a=some s):Un 214 [pr p,.agg (ta a)] [.oi s]:=by
 have ca:=MI ha;have pa:=Lc ha;have cn:=Hu hp.t hp.ln hp.bd;unfold HQ at h;by_cases h0:p.length=0
 ·rw[if_pos h0]at h;injection h with h;subst h;exact Uk func214 rfl [.k cn,.k ca,.t (by simp;exact Qj h0)] rfl
 rw[if_neg h0]at h;have h0:p≠[]:=λe=>h0 (by rw[e];rfl)
 by_cases h1:a.point=true
 ·rw[if_pos h1]at h;injection h with h;subst h;exact Uk func214 rfl [.k cn,.k ca,.f (by simpa using h0),.k pa,.t h1,.k (MJ hp ha.lo)] rfl
 rw[if_neg h1]at h;have h1:a.point=false:=by simpa using h1
 obtain⟨g,g1,h⟩:=Qd.1 h;have cg:=Qf4 hp ha.p g1;have pg:=Qkl hp ha.p g1;have ch:=Qgw pg ha.lo ha.hi;by_cases G:1<g.length/\FT g a.lo a.hi=true
 ·rw[if_pos G]at h;injection h with h;subst h;exact Uk func214 rfl [.k cn,.k ca,.f (by simpa using h0),.k pa,.f h1,.k cg,.k (Me g),.g 29 true (by simp;omega),.k ch,.t G.2] rfl
 rw[if_neg G]at h;obtain⟨c,c1,h⟩:=Qd.1 h;obtain⟨u,u1,h⟩:=Qd.1 h;injection h with h;subst h;obtain⟨cl,call⟩:=chain_ok hp c1;obtain⟨n,hn⟩:=nmE (64+2*(Fg a.lo.num+Fg a.hi.num)+4*(a.p.length+p.length)*(Hb a.p+Hb p+(a.p.length+p.length)+8));have cst:=Qhd ha hp;rw[show lU p a=n from hn.symm]at cst;rw[<-hn]at u1;have hnb:n<=17179938816+200000000:=by
  have l1:=ha.p.l;have l2:=hp.l;have b1:=ha.lo.1;have b2:=ha.hi.1;have s1:Hb a.p<=16777216:=by have:=Mv ha.p.b a.p.length;rwa[Q7]at this
  have s2:Hb p<=16777216:=by have:=Mv hp.b p.length;rwa[Q7]at this
  have:4*(a.p.length+p.length)*(Hb a.p+Hb p+(a.p.length+p.length)+8)<=512*33554568:=Q8 (by omega) (by omega);omega
 refine Fz func214 rfl ?_;refine Uh [.k cn,.k ca,.f (by simpa using h0),.k pa,.f h1,.k cg] rfl ?_;refine ct 2 (S:=Unit) (λ_=>[(3,.v (.one (.ow 0 0))),(0,.v (pr p))]) (λ_=>[.blk 189 (ta a)]) (λ_=>True) rfl ?_ ?_
 ·by_cases G1:1<g.length
  ·exact go tt [.k (Me g),.g 29 true (by simp;omega),.k ch,.f (by simpa using λh=>G ⟨G1,h⟩)] rfl trivial (rc () trivial rfl)
  ·exact go tt [.k (Me g),.g 29 false (by simp;omega),.f rfl] rfl trivial (rc () trivial rfl)
 rintro _ _
 refine Uh [.k (Qgh hp c1),.k cst] rfl ?_;refine Um (S:=Nat×Tm) 1 (λL1 s=>(46,.v (.oi (s.1:Int)))::L1) (λs=>[.blk 189 (ta s.2)]) (λs=>n-s.1) (λs=>s.1<=n/\Tb s.2/\sgF c (n-s.1) s.2=some u) (0,a) ⟨Qh _,ha,u1⟩ rfl rfl λ⟨i,x⟩ ⟨j1,j2,j3⟩=>?_
 dsimp only at j1 j2 j3 ⊢;by_cases hi:i<n
 ·obtain⟨k,hk⟩:∃k,n-i=k+1:=⟨n-i-1,by omega⟩;have hk':n-(i+1)=k:=by omega
  rw[hk]at j3;simp only[sgF]at j3;have px:=Lc j2;have cb:=OX (by omega) call j2.lo j2.hi;have hlt:decide ((i:Int)<(n:Int))=true:=by simp;omega
  by_cases X:x.point=true
  ·rw[if_pos (.inl X)]at j3;injection j3 with j3;subst j3;exact Uj [.t hlt,.k px,.g 50 true X,.t rfl,.k (MJ hp j2.hi)] rfl
  ·have X':x.point=false:=by simpa using X
   by_cases Z:Ts c x.lo x.hi=0
   ·rw[if_pos (.inr Z)]at j3;injection j3 with j3;subst j3;exact Uj [.t hlt,.k px,.g 50 false X',.k cb,.t (by simpa using Z),.k (MJ hp j2.hi)] rfl
   ·rw[if_neg (by rintro (h|h);exact X h;exact Z h)]at j3;obtain⟨v,v1,v2⟩:=Qd.1 j3;refine Ui [.t hlt,.k px,.g 50 false X',.k cb,.f (by simpa using Z),.k (nV j2 v1)] rfl ?_;exact rd (i+1,v) (by dsimp only;omega) ⟨hi,kN j2 v1,by dsimp only;rw[hk'];exact v2⟩ rfl
 ·obtain rfl:i=n:=by omega
  rw[Kk]at j3;simp only[sgF]at j3;injection j3 with j3;subst j3;exact Uj [.f (by simp),.k (MJ hp j2.hi)] rfl
abbrev tas(l:List Tm):LV:=.row (l.map λt=>ta t)
theorem BY{l:List Tm}{i:Nat}{t:Tm}(h:l[i]? = some t):(l.map λt=>ta t)[i]? = some (ta t):=Hm h
def zTr:Uv:=[.row [],.bool false,.row [],.bool false,.row [],.bool false,.row [],.bool false,.row []]
theorem uY:Un 196 [.one (.row [])] [.agg zTr,.one (.bool false)]:=Uk func196 rfl [.t rfl] rfl
theorem Pf{b:Tm}{l:List Tm}{m:Tm}(hb:Tb b)(hl:∀t∈l,Tb t)(hn:l.length≤1000000)(h:QA b l=some m):Un 196 [.one (tas (b::l))] [.agg (ta m),.one (.bool true)]:=by
 refine Fz func196 rfl ?_;refine go tt [.f (by simp;omega),.x (i:=0) (xs:=ta b) rfl,.i 1] rfl (by simp[U5];exact⟨rfl,λ_ _=>rfl⟩) ?_;refine Um (S:=Nat×Tm) 2 (λL1 s=>(17,.v (.oi (s.1:Int)))::L1) (λs=>[.blk 189 zTm,.blk 189 (ta s.2)]) (λs=>l.length-s.1) (λs=>s.1<=l.length/\Tb s.2/\QA s.2 (l.drop s.1)=some m) (0,b) ⟨Qh _,hb,h⟩ rfl rfl λ⟨i,x⟩ ⟨j1,j2,j3⟩=>?_
 dsimp only at j1 j2 j3 ⊢;by_cases hi:i<l.length
 ·obtain⟨a,ha⟩:=gxE (l:=l) (i:=i) hi;have hdr:l.drop i=a::l.drop (i+1):=by
   rw[Zq hi];congr 1;have:=Qe hi;rw[ha]at this;injection this with this;exact this.symm
  rw[hdr]at j3;simp only[QA]at j3;obtain⟨c,c1,j3⟩:=Qd.1 j3;have ta':=hl a (Qc ha);by_cases hc:c<0
  ·rw[if_pos hc]at j3;refine Ui [.t (by simp;omega),.x (BY ha),.k (KP ta' j2 c1),.t (by simpa using hc)] rfl ?_;exact rd (i+1,a) (by dsimp only;omega) ⟨hi,ta',j3⟩ rfl
  ·rw[if_neg hc]at j3;refine Ui [.t (by simp;omega),.x (BY ha),.k (KP ta' j2 c1),.f (by simpa using hc)] rfl ?_;exact rd (i+1,x) (by dsimp only;omega) ⟨hi,j2,j3⟩ rfl
 ·obtain rfl:i=l.length:=by omega
  rw[Yu]at j3;simp only[QA]at j3;injection j3 with j3;subst j3;exact Uj [.f (by simp),.k (Qhg j2)] rfl
end Orr
namespace Orq
def Fl(x:Rat):Rat:=if x<0 then -x else x
theorem Hz(x:Rat):0<=Fl x:=by unfold Fl;split <;> grind
theorem Mw{x b:Rat}:Fl x<=b↔-b<=x/\x<=b:=by unfold Fl;split <;> constructor <;> grind
theorem kZ{x b:Rat}:Fl x<b↔-b<x/\x<b:=by unfold Fl;split <;> constructor <;> grind
theorem Sv(x y:Rat):Fl (x+y)<=Fl x+Fl y:=by unfold Fl;split <;> split <;> split <;> grind
theorem Qaz(x y:Rat):Fl (x-y)=Fl (y-x):=by unfold Fl;split <;> split <;> grind
theorem Ew(x:Rat):Fl (-x)=Fl x:=by unfold Fl;split <;> split <;> grind
theorem Rm:Fl 0=0:=by decide
theorem Cv{x:Rat}(h:x≠0):0<Fl x:=by unfold Fl;split <;> grind
theorem Qqw{x:Rat}(h:Fl x=0):x=0:=by unfold Fl at h;split at h <;> grind
theorem Bj{x y:Rat}(h1:0<=x)(h2:0<=y):0<=x*y:=Vz h1 h2
theorem I2{x y:Rat}(h1:0<x)(h2:0<y):0<x*y:=Xv h1 h2
theorem Cn{a b c d:Rat}(h0:0<=a)(h1:a<=b)(h2:0<=c)(h3:c<=d):a*c<=b*d:=by
 have e1:=Zf h1 h2;have e2:=Z0 h3 (Zk h0 h1);exact Zk e1 e2
theorem Iq(x y:Rat):Fl (x*y)=Fl x*Fl y:=by
 unfold Fl;by_cases h1:x<0 <;> by_cases h2:y<0
 ·have:=I2 (x:=-x) (y:=-y) (by grind) (by grind);simp only[h1,h2,if_true];split <;> grind
 ·have:=Bj (x:=-x) (y:=y) (by grind) (by grind);simp only[h1,h2,if_true,if_false];split <;> grind
 ·have:=Bj (x:=x) (y:=-y) (by grind) (by grind);simp only[h1,h2,if_true,if_false];split <;> grind
 ·have:=Bj (x:=x) (y:=y) (by grind) (by grind);simp only[h1,h2,if_false];split <;> grind
theorem He{x y a b:Rat}(h1:Fl x<=a)(h2:Fl y<=b):Fl (x*y)<=a*b:=by
 rw[Iq];exact Cn (Hz x) h1 (Hz y) h2
theorem Ai{x y:Rat}(h1:0<x)(h2:0<y):0<x / y:=by rw[J7];exact I2 h1 (Rat.inv_pos.2 h2)
theorem Hf{x y:Rat}(h2:0<y):x / y*y=x:=Zl (by grind)
theorem Hj{b d:Rat}(hb:0<=b)(hd:0<d):∃e:Rat,0<e/\e<=1/\e*b<d:=by
 have h1:0<d / (b+1):=Ai hd (by grind);have h2:d / (b+1)*(b+1)=d:=Hf (by grind);rcases Vy (a:=d / (b+1)) (b:=1)with h|h
 ·exact⟨d / (b+1),h1,h,by
   have:d / (b+1)*(b+1)=d / (b+1)*b+d / (b+1):=by grind
   grind⟩
 ·refine⟨1,by decide,by decide,?_⟩;have:1*(b+1)<=d / (b+1)*(b+1):=Zf h (by grind);grind
def ev:Ut->Rat->Rat
 | [],_=>0
 |a::p,t=>a+t*ev p t
def dv:Ut->Rat->Rat
 | [],_=>0
 |_::p,t=>ev p t+t*dv p t
def dq:Ut->Rat->Rat->Rat
 | [],_,_=>0
 |_::p,x,y=>ev p x+y*dq p x y
def dd:Ut->Rat->Rat->Rat
 | [],_,_=>0
 |_::p,x,y=>dq p x y+y*dd p x y
theorem OI(x y:Rat):∀p,ev p x-ev p y=(x-y)*dq p x y
 | []=>by simp only[ev,dq];grind
 |a::p=>by have:=OI x y p;simp only[ev,dq];grind
theorem jA(y:Rat):∀p,dq p y y=dv p y
 | []=>rfl
 |a::p=>by simp only[dq,dv,jA y p]
theorem Qsz(x y:Rat):∀p,dq p x y-dv p y=(x-y)*dd p x y
 | []=>by simp only[dv,dq,dd];grind
 |
  a::p=>by
  have h1:=Qsz x y p;have h2:=OI x y p;simp only[dv,dq,dd];grind
theorem Qs2(p:Ut)(x y:Rat):ev p x-ev p y=(x-y)*dv p y+(x-y)*(x-y)*dd p x y:=by
 have h1:=OI x y p;have h2:=Qsz x y p;grind
def fL(R:Rat):Ut->Rat
 | []=>0
 |a::p=>Fl a+R*fL R p
def IT(R:Rat):Ut->Rat
 | []=>0
 |_::p=>fL R p+R*IT R p
def ddB(R:Rat):Ut->Rat
 | []=>0
 |_::p=>IT R p+R*ddB R p
theorem XU{R:Rat}(hR:0<=R):∀p,0<=fL R p
 | []=>by simp only[fL];grind
 |a::p=>by have:=Bj hR (XU hR p);have:=Hz a;simp only[fL];grind
theorem Nh{R:Rat}(hR:0<=R):∀p,0<=IT R p
 | []=>by simp only[IT];grind
 |a::p=>by have:=Bj hR (Nh hR p);have:=XU hR p;simp only[IT];grind
theorem DK{R:Rat}(hR:0<=R):∀p,0<=ddB R p
 | []=>by simp only[ddB];grind
 |a::p=>by have:=Bj hR (DK hR p);have:=Nh hR p;simp only[ddB];grind
theorem PQ{R x:Rat}(hx:Fl x<=R):∀p,Fl (ev p x)<=fL R p
 | []=>by simp only[ev,fL,Rm];grind
 |
  a::p=>by
  have h1:=Sv a (x*ev p x);have h2:=He hx (PQ hx p);simp only[ev,fL];grind
theorem fF{R x y:Rat}(hx:Fl x<=R)(hy:Fl y<=R):∀p,Fl (dq p x y)<=IT R p
 | []=>by simp only[dq,IT,Rm];grind
 |
  a::p=>by
  have h1:=Sv (ev p x) (y*dq p x y);have h2:=He hy (fF hx hy p);have h3:=PQ hx p;simp only[dq,IT];grind
theorem Qhz{R x y:Rat}(hx:Fl x<=R)(hy:Fl y<=R):∀p,Fl (dd p x y)<=ddB R p
 | []=>by simp only[dd,ddB,Rm];grind
 |
  a::p=>by
  have h1:=Sv (dq p x y) (y*dd p x y);have h2:=He hy (Qhz hx hy p);have h3:=fF hx hy p;simp only[dd,ddB];grind
theorem Qvx{R x y:Rat}(hx:Fl x<=R)(hy:Fl y<=R)(p:Ut):Fl (ev p x-ev p y)<=Fl (x-y)*IT R p:=by
 rw[OI,Iq];exact Cn (Hz _) Qp (Hz _) (fF hx hy p)
def Sw:Ut->Ut->Ut
 | [],q=>q
 |a::p,[]=>a::p
 |a::p,b::q=>(a+b)::Sw p q
def D8(c:Rat)(p:Ut):Ut:=p.map (c * ·)
def G9:Ut->Ut->Ut
 | [],_=>[]
 |a::p,q=>Sw (D8 a q) (0::G9 p q)
def Bn:Ut->Ut
 | []=>[]
 |_::p=>Sw p (0::Bn p)
theorem G5(t:Rat):∀p q,ev (Sw p q) t=ev p t+ev q t
 | [],q=>by simp only[Sw,ev];grind
 |a::p,[]=>by simp only[Sw,ev];grind
 |a::p,b::q=>by have:=G5 t p q;simp only[Sw,ev];grind
theorem Gw(c t:Rat):∀p,ev (D8 c p) t=c*ev p t
 | []=>by simp only[D8,Jb,ev];grind
 |a::p=>by have:=Gw c t p;simp only[D8,Zz,ev]at *;grind
theorem Fi(t:Rat):∀p q,ev (G9 p q) t=ev p t*ev q t
 | [],q=>by simp only[G9,ev];grind
 |a::p,q=>by have:=Fi t p q;simp only[G9,G5,Gw,ev];grind
theorem Tt(t:Rat):∀p,ev (Bn p) t=dv p t
 | []=>rfl
 |a::p=>by have:=Tt t p;simp only[Bn,G5,ev,dv];grind
theorem jO(t:Rat):∀p q,dv (Sw p q) t=dv p t+dv q t
 | [],q=>by simp only[Sw,dv];grind
 |a::p,[]=>by simp only[Sw,dv];grind
 |a::p,b::q=>by have:=jO t p q;have:=G5 t p q;simp only[Sw,dv];grind
theorem RB(c t:Rat):∀p,dv (D8 c p) t=c*dv p t
 | []=>by simp only[D8,Jb,dv];grind
 |a::p=>by have:=RB c t p;have:=Gw c t p;simp only[D8,Zz,dv]at *;grind
theorem yQ(t:Rat):∀p q,dv (G9 p q) t=dv p t*ev q t+ev p t*dv q t
 | [],q=>by simp only[G9,dv,ev];grind
 |a::p,q=>by have:=yQ t p q;have:=Fi t p q;simp only[G9,jO,RB,dv,ev];grind
theorem iR:∀{p:Ut},(∀x∈p,x=0)->∀t,ev p t=0
 | [],_,t=>rfl
 |
  a::p,h,t=>by
  have h1:=iR (p:=p) (λx hx=>h x (Qg _ hx)) t;have h2:=h a (Qy ..);simp only[ev,h1,h2];grind
theorem iW:∀{p:Ut},(∀x∈p,x=0)->∀t,dv p t=0
 | [],_,t=>rfl
 |
  a::p,h,t=>by
  have h0:=λx hx=>h x (Qg _ hx)
  have h1:=iR (p:=p) h0 t;have h2:=iW (p:=p) h0 t;simp only[dv,h1,h2];grind
theorem UW:∀{p:Ut},(∀t,0<t->t<1->ev p t=0)->∀x∈p,x=0
 | [],_=>λx hx=>by cases hx
 |
  a::p,h=>by
  have ha:a=0:=by
   rcases Classical.em (a=0)with h0|h0
   ·exact h0
   ·obtain⟨e,e1,e2,e3⟩:=Hj (XU (R:=1) (by decide) p) (Cv h0);obtain⟨f,f1,f2,f3⟩:=Hj (b:=1) (d:=e) (by decide) e1;have h1:=h f f1 (by grind);have h2:=PQ (R:=1) (x:=f) (by unfold Fl;split <;> grind) p;have h3:=Iq f (ev p f);have h4:Fl f=f:=by unfold Fl;split <;> grind
    have h5:a=-(f*ev p f):=by simp only[ev]at h1;grind
    have h6:Fl a=f*Fl (ev p f):=by rw[h5,Ew,h3,h4]
    have h7:f*Fl (ev p f)<=e*fL 1 p:=Cn (Qt f1) (by grind) (Hz _) h2;grind
  intro x hx;rcases Qm.1 hx with rfl|hx
  ·exact ha
  ·refine UW (p:=p) (λt h1 h2=>?_) x hx;have:=h t h1 h2;simp only[ev,ha]at this;have h3:t*ev p t=0:=by grind
   rcases Y3.1 h3 with h4|h4
   ·grind
   ·exact h4
theorem Qh8{p q:Ut}(h:∀t,ev p t=ev q t)(t:Rat):dv p t=dv q t:=by
 have h1:=iW (p:=Sw p (D8 (-1) q)) (UW λt _ _=>by rw[G5,Gw,h t];grind) t;rw[jO,RB]at h1;grind
def Fh(x:Rat):Int:=if x<0 then -1 else if 0<x then 1 else 0
theorem Gs{x:Rat}:Fh x=0↔x=0:=by
 unfold Fh;constructor
 ·intro h;split at h <;> (try split at h) <;> grind
 ·intro h;subst h;rfl
theorem Hw{x:Rat}:Fh x=1↔0<x:=by
 unfold Fh;constructor
 ·intro h;split at h <;> (try split at h) <;> grind
 ·intro h;rw[if_neg (by grind),if_pos h]
theorem S4{x:Rat}:Fh x=-1↔x<0:=by
 unfold Fh;constructor
 ·intro h;split at h <;> (try split at h) <;> grind
 ·intro h;rw[if_pos h]
theorem Ge(x:Rat):Fh x=-1/\x<0\/Fh x=0/\x=0\/Fh x=1/\0<x:=by
 rcases Vy (a:=x) (b:=0)with h|h
 ·rcases Classical.em (x=0)with h0|h0
  ·exact .inr (.inl ⟨Gs.2 h0,h0⟩)
  ·exact .inl ⟨S4.2 (by grind),by grind⟩
 ·rcases Classical.em (x=0)with h0|h0
  ·exact .inr (.inl ⟨Gs.2 h0,h0⟩)
  ·exact .inr (.inr ⟨Hw.2 (by grind),by grind⟩)
theorem S0(x y:Rat):Fh (x*y)=Fh x*Fh y:=by
 rcases Ge x with⟨e1,h1⟩|⟨e1,h1⟩|⟨e1,h1⟩ <;> rcases Ge y with⟨e2,h2⟩|⟨e2,h2⟩|⟨e2,h2⟩ <;> rw[e1,e2]
 ·have:=I2 (x:=-x) (y:=-y) (by grind) (by grind);exact Hw.2 (by grind)
 ·subst h2;exact Gs.2 (by grind)
 ·have:=I2 (x:=-x) (y:=y) (by grind) (by grind);exact S4.2 (by grind)
 ·subst h1;exact Gs.2 (by grind)
 ·subst h1;exact Gs.2 (by grind)
 ·subst h1;exact Gs.2 (by grind)
 ·have:=I2 (x:=x) (y:=-y) (by grind) (by grind);exact S4.2 (by grind)
 ·subst h2;exact Gs.2 (by grind)
 ·exact Hw.2 (I2 h1 h2)
theorem Qec(x:Rat):Fh (-x)=-Fh x:=by
 rcases Ge x with⟨e1,h1⟩|⟨e1,h1⟩|⟨e1,h1⟩ <;> rw[e1]
 ·exact Hw.2 (by grind)
 ·exact Gs.2 (by grind)
 ·exact S4.2 (by grind)
theorem P7{a b d:Rat}(h1:d<=Fl a)(h2:Fl (b-a)<d):Fh b=Fh a/\Fh a≠0:=by
 rw[kZ]at h2;rcases Ge a with⟨e,h⟩|⟨e,h⟩|⟨e,h⟩
 ·rw[e,S4];unfold Fl at h1;rw[if_pos h]at h1;exact⟨by grind,by decide⟩
 ·subst h;rw[Rm]at h1;grind
 ·rw[e,Hw];unfold Fl at h1;rw[if_neg (by grind)]at h1;exact⟨by grind,by decide⟩
def tc(x:Rat):Int->Uu->Nat
 |_,[]=>0
 |s,p::l=>if Fh (ev p x)=0 then tc x s l else(if s=-(Fh (ev p x))then 1 else 0)+tc x (Fh (ev p x)) l
inductive SCl:List Rat->List Rat->List (List Rat)->Prop
 |base {f g:List Rat} {c:Rat} (hc:c≠0) (hg:∀t,ev g t=c):SCl f g []
 |step {f g h:List Rat} {l:List (List Rat)} {a b:Rat} {q:List Rat} (ha:0<a) (hb:0<b) (he:∀t,a*ev f t=ev q t*ev g t-b*ev h t) (hl:SCl g h l):SCl f g (h::l)
theorem Qma{x:Rat}{s:Int}{g h:Ut}{l:Uu}(hh:Fh (ev h x)=-s)(hs:s≠0):tc x s (g::h::l)=1+tc x (-s) l:=by
 have h3:Fh (ev h x)≠0:=by omega
 have hv:s=1\/s=-1:=by rcases Ge (ev h x)with⟨e,_⟩|⟨e,_⟩|⟨e,_⟩ <;> omega
 simp only[tc,if_neg h3,hh];rcases Ge (ev g x)with⟨e,_⟩|⟨e,_⟩|⟨e,_⟩ <;> rw[e] <;> rcases hv with rfl|rfl <;> simp
theorem HV{x:Rat}{s:Int}{p:Ut}{l:Uu}(h:Fh (ev p x)≠0):tc x s (p::l)=(if s=-(Fh (ev p x))then 1 else 0)+tc x (Fh (ev p x)) l:=by rw[tc,if_neg h]
theorem Mp{R x y e d:Rat}{p:Ut}(hx:Fl x<=R)(hy:Fl y<=R)(hR:0<=R)(h:Fl (y-x)<=e)(hd:e*IT R p<d):Fl (ev p y-ev p x)<d:=by
 have h1:=Qvx hy hx p;have h2:=Zf h (Nh hR p);grind
theorem qO{a x y:Rat}(ha:0<a)(h:a*x<a*y):x<y:=by
 rcases Vy (a:=y) (b:=x)with h'|h'
 ·have:=Z0 h' (Qt ha);grind
 ·rcases Classical.em (x=y)with e|e
  ·subst e;grind
  ·grind
theorem Qxg{a b d d' B f g h q:Rat}(ha:0<a)(hb:0<b)(dp:0<d)(h7:B*d+a*d<b*d')(hq:Fl q<=B)(hg:Fl g<d)(hh:d'<=Fl h)(he:a*f=q*g-b*h)(hd':0<d'):Fh h=-Fh f/\d<=Fl f:=by
 have h4:=He hq (Qt hg);rw[Mw]at h4;have had:=I2 ha dp;have h8:=Z0 hh (Qt hb);rcases Ge h with⟨s,p⟩|⟨s,p⟩|⟨s,p⟩
 ·have:Fl h=-h:=by unfold Fl;rw[if_pos p]
  rw[this]at h8;have h10:d<f:=qO ha (by grind);rw[s,Hw.2 (show 0<f by grind)];exact⟨rfl,by unfold Fl;split <;> grind⟩
 ·rw[p,Rm]at hh;grind
 ·have:Fl h=h:=by unfold Fl;rw[if_neg (by grind)]
  rw[this]at h8;have h10:f < -d:=qO ha (by grind);rw[s,S4.2 (show f<0 by grind)];exact⟨rfl,by unfold Fl;split <;> grind⟩
theorem min2{a b:Rat}(ha:0<a)(hb:0<b):∃e:Rat,0<e/\e<=a/\e<=b:=by
 rcases Vy (a:=a) (b:=b)with h|h
 ·exact⟨a,ha,Qp,h⟩
 ·exact⟨b,hb,h,Qp⟩
theorem Gm(a b:Rat):a<=b\/b<a:=by
 rcases Vy (a:=a) (b:=b)with h|h
 ·exact .inl h
 ·rcases Classical.em (a=b)with e|e
  ·exact .inl (by grind)
  ·exact .inr (by grind)
theorem Qwj{R:Rat}(hR:0<=R){f g:Ut}{l:Uu}(hc:SCl f g l):∃d e:Rat,0<d/\0<e/\∀x y,Fl x<=R->Fl y<=R->Fl (y-x)<=e ->
 (d<=Fl (ev f x)\/d<=Fl (ev g x))/\(d<=Fl (ev f x)->Fh (ev f y)=Fh (ev f x)/\Fh (ev f x)≠0)/\(d<=Fl (ev g x)->Fh (ev g y)=Fh (ev g x)/\Fh (ev g x)≠0) /\
 (Fh (ev f y)=Fh (ev f x)->Fh (ev f x)≠0->tc x (Fh (ev f x)) (g::l)=tc y (Fh (ev f x)) (g::l)) /\
 (Fh (ev g y)=Fh (ev g x)->Fh (ev g x)≠0->tc x (Fh (ev g x)) l=tc y (Fh (ev g x)) l):=by
 induction hc with
 |
  @base f g c hc hg =>
  have hd:=Cv hc;obtain⟨e,e1,e2,e3⟩:=Hj (Nh hR f) hd;refine⟨Fl c,e,hd,e1,λx y hx hy hxy=>⟨.inr (by rw[hg];exact Qp),λh=>P7 h (Mp hx hy hR hxy e3),λh=>?_,λ_ _=>?_,λ_ _=>rfl⟩⟩
  ·rw[hg,hg];exact⟨rfl,λh=>hc (Gs.1 h)⟩
  ·simp only[tc,hg]
 |
  @step f g h l a b q ha hb he hl ih =>
  obtain⟨d',e',hd',he',ih⟩:=ih;obtain⟨d1,d1p,_,d1b⟩:=Hj (b:=fL R q+a) (d:=b*d') (by have:=XU hR q;grind) (I2 hb hd');obtain⟨d,dp,hd1,hdd⟩:=min2 d1p hd';obtain⟨ef,ef1,_,ef3⟩:=Hj (Nh hR f) dp;obtain⟨eg,eg1,_,eg3⟩:=Hj (Nh hR g) dp;obtain⟨e0,e0p,h1,h2⟩:=min2 ef1 eg1;obtain⟨e,ep,h0,h3⟩:=min2 e0p he';have h1:=Zk h0 h1;have h2:=Zk h0 h2;refine⟨d,e,dp,ep,λx y hx hy hxy=>?_⟩;obtain⟨i1,i2,i3,i4,i5⟩:=ih x y hx hy (Zk hxy h3);have hsm:Fl (ev g x)<d->d'<=Fl (ev h x)/\Fh (ev h x)=-Fh (ev f x)/\d<=Fl (ev f x):=λhg=>by
   have hh:d'<=Fl (ev h x):=by
    rcases i1 with i|i
    ·exact absurd (Zk hdd i) (Js.2 hg)
    ·exact i
   have h6:d*(fL R q+a)<=d1*(fL R q+a):=Zf hd1 (by have:=XU hR q;clear ih i1 i2 i3 i4 i5 he;grind);have h7:fL R q*d+a*d<b*d':=by clear ih i1 i2 i3 i4 i5 he;grind
   exact⟨hh,Qxg ha hb dp h7 (PQ hx q) hg hh (he x) hd'⟩
  have hfs:d<=Fl (ev f x)->Fh (ev f y)=Fh (ev f x)/\Fh (ev f x)≠0:=λh=>P7 h (Mp hx hy hR (Zk hxy h1) ef3)
  have hgs:d<=Fl (ev g x)->Fh (ev g y)=Fh (ev g x)/\Fh (ev g x)≠0:=λh=>P7 h (Mp hx hy hR (Zk hxy h2) eg3)
  refine⟨?_,hfs,hgs,λs1 s2=>?_,i4⟩
  ·rcases Gm d (Fl (ev g x))with h|h
   ·exact .inr h
   ·exact .inl (hsm h).2.2
  ·rcases Gm d (Fl (ev g x))with h|h
   ·obtain⟨g1,g2⟩:=hgs h;rw[HV (x:=x) (p:=g) g2,HV (x:=y) (p:=g) (by rw[g1];exact g2),g1,i4 g1 g2]
   ·obtain⟨h4,h5,_⟩:=hsm h;obtain⟨h6,h7⟩:=i3 h4;have i5:=i5 h6 h7;rw[Qma h5 s2,Qma (h6.trans h5) s2,<-h5,i5]
def Px(p:Ut)(x:Rat):Int:=if Fh (ev p x)≠0 then Fh (ev p x)else Fh (dv p x)
def vv(L:Uu)(x:Rat):Nat:=tc x 0 L
def HE(f:Ut)(L:Uu):Prop:=(∃c:Rat,c≠0/\(∀t,ev f t=c)/\L=[f])\/∃g l,∃k:Rat,0<k/\(∀t,ev g t=k*dv f t)/\SCl f g l/\L=f::g::l
structure Sm(w:List Rat)(x y:Rat):Prop where
 s:Fh (ev w y)=Px w x
 l:Px w y=Px w x
 n:Px w x≠0
theorem Ao{p:Ut}{x:Rat}(h:Fh (ev p x)≠0):Px p x=Fh (ev p x):=by unfold Px;rw[if_pos h]
theorem cJ{p:Ut}{x:Rat}(h:Fh (ev p x)=0):Px p x=Fh (dv p x):=by unfold Px;rw[if_neg (by simpa using h)]
theorem sC{p:Ut}{x y:Rat}(h:Fh (ev p y)=Fh (ev p x))(h0:Fh (ev p x)≠0):Sm p x y:=by
 have h1:=Ao h0;have h2:=Ao (p:=p) (x:=y) (by rw[h];exact h0);exact⟨by rw[h,h1],by rw[h2,h1,h],by rw[h1];exact h0⟩
theorem QM{f w u:Ut}(h:∀t,ev f t=ev w t*ev u t)(x:Rat):dv f x=dv w x*ev u x+ev w x*dv u x:=by
 rw[<-yQ];exact Qh8 (λt=>by rw[h,Fi]) x
theorem oP{f w u:Ut}{x:Rat}(h:∀t,ev f t=ev w t*ev u t)(hu:Fh (ev u x)≠0):Px f x=Px w x*Fh (ev u x):=by
 by_cases hw:Fh (ev w x)=0
 ·have hw0:=Gs.1 hw;have e1:ev f x=0:=by rw[h,hw0];grind
  have e2:dv f x=dv w x*ev u x:=by rw[QM h,hw0];grind
  rw[cJ hw,cJ (Gs.2 e1),e2,S0]
 ·have e1:Fh (ev f x)=Fh (ev w x)*Fh (ev u x):=by rw[h,S0]
  rw[Ao hw,Ao (by rw[e1];exact Jh hw hu),e1]
theorem Qxh{f w u:Ut}{x y:Rat}(h:∀t,ev f t=ev w t*ev u t)(hu:Fh (ev u y)=Fh (ev u x))(h0:Fh (ev u x)≠0)(hf:Sm f x y):Sm w x y:=by
 have e1:=oP h h0;have e2:=oP (x:=y) h (by rw[hu];exact h0);have e3:Fh (ev f y)=Fh (ev w y)*Fh (ev u y):=by rw[h,S0]
 obtain⟨s,l,n⟩:=hf;rw[hu]at e2 e3;refine⟨?_,?_,λh=>n (by rw[e1,h,Yy])⟩
 ·rw[e3,e1]at s;exact Y4 h0 s
 ·rw[e2,e1]at l;exact Y4 h0 l
theorem tc0{x:Rat}{s:Int}{f g:Ut}{l:Uu}(h:Fh (ev g x)=s)(hs:s≠0):tc x 0 (f::g::l)=(if Fh (ev f x)=-s then 1 else 0)+tc x s l:=by
 have hv:s=1\/s=-1:=by rcases Ge (ev g x)with⟨e,_⟩|⟨e,_⟩|⟨e,_⟩ <;> omega
 have hg:Fh (ev g x)≠0:=by omega
 rw[tc];rcases Ge (ev f x)with⟨e,_⟩|⟨e,_⟩|⟨e,_⟩ <;> rw[e] <;> rcases hv with rfl|rfl <;> simp[HV hg,h]
theorem EK{R x y e d:Rat}{p:Ut}(hx:Fl x<=R)(hy:Fl y<=R)(hR:0<=R)(hxy:x<y)(h:y-x<=e)(hd:d<=Fl (dv p x))(he:e*ddB R p<d):Fh (ev p y-ev p x)=Fh (dv p x):=by
 have h1:=Qs2 p y x;have h2:ev p y-ev p x=(y-x)*(dv p x+(y-x)*dd p y x):=by rw[h1];grind
 have h3:=He (x:=y-x) (y:=dd p y x) (a:=e) (b:=ddB R p) (by rw[Mw];constructor <;> grind) (Qhz hy hx p);have h4:=P7 (b:=dv p x+(y-x)*dd p y x) hd (by
  have:dv p x+(y-x)*dd p y x-dv p x=(y-x)*dd p y x:=by grind
  rw[this];exact Js.1 λh=>absurd (Zk h h3) (Js.2 he))
 rw[h2,S0,Hw.2 (show 0<y-x by grind),h4.1,Ks]
def Qey(f w:Ut)(L:Uu)(x y:Rat):Prop :=
 (vv L x=vv L y/\Sm f x y/\Sm w x y)\/(vv L x=vv L y+1/\Px f x≠0/\Px f y=-Px f x/\Fh (ev f x)=Px f x/\(Fh (ev f y)=0\/Fh (ev f y)=-Px f x))
theorem Qs6{R d:Rat}(hR:0<=R)(hd:0<d){f w u:Ut}(h:∀t,ev f t=ev w t*ev u t):∃e:Rat,0<e/\∀x y,Fl x<=R->Fl y<=R->Fl (y-x)<=e->d<=Fl (ev f x)->Sm f x y/\Sm w x y:=by
 obtain⟨ef,ef1,_,ef3⟩:=Hj (Nh hR f) hd;obtain⟨d1,d1p,_,d1b⟩:=Hj (XU hR u) hd;obtain⟨ew,ew1,_,ew3⟩:=Hj (Nh hR w) d1p;obtain⟨e,ep,e1,e2⟩:=min2 ef1 ew1;refine⟨e,ep,λx y hx hy hxy hf=>⟨?_,?_⟩⟩
 ·have:=P7 hf (Mp hx hy hR (Zk hxy e1) ef3);exact sC this.1 this.2
 ·have hw:d1<=Fl (ev w x):=by
   rcases Gm d1 (Fl (ev w x))with h'|h'
   ·exact h'
   ·have h5:=He (Qt h') (PQ hx u);rw[<-h]at h5;exact absurd (Zk hf h5) (Js.2 d1b)
  have:=P7 hw (Mp hx hy hR (Zk hxy e2) ew3);exact sC this.1 this.2
theorem loc{R:Rat}(hR:0<=R){f w u:Ut}{L:Uu}(hc:HE f L)(h:∀t,ev f t=ev w t*ev u t):∃e:Rat,0<e/\∀x y,Fl x<=R->Fl y<=R->x<y->y-x<=e->Qey f w L x y:=by
 rcases hc with⟨c,hc,hf,rfl⟩|⟨g,l,k,hk,hg,hc,rfl⟩
 ·obtain⟨e,ep,h1⟩:=Qs6 hR (Cv hc) h;refine⟨e,ep,λx y hx hy hxy he=>.inl ⟨?_,h1 x y hx hy (by rw[Mw];constructor <;> grind) (by rw[hf];exact Qp)⟩⟩;simp only[vv,tc,hf]
 ·obtain⟨d,e1,dp,e1p,h1⟩:=Qwj hR hc;obtain⟨e2,e2p,h2⟩:=Qs6 hR dp h;obtain⟨d3,d3p,_,d3b⟩:=Hj (b:=k) (d:=d) (Qt hk) dp;obtain⟨e3,e3p,_,e3b⟩:=Hj (DK hR f) d3p;obtain⟨d4,d4p,_,d4b⟩:=Hj (b:=IT R w+IT R u) (d:=d3) (by have:=Nh hR w;have:=Nh hR u;grind) d3p;obtain⟨e4,e4p,_,e4b⟩:=Hj (Nh hR w) d4p;obtain⟨e5,e5p,_,e5b⟩:=Hj (Nh hR u) d4p;obtain⟨a1,a1p,a11,a12⟩:=min2 e1p e2p;obtain⟨a2,a2p,a21,a22⟩:=min2 e3p e4p;obtain⟨a3,a3p,a31,a32⟩:=min2 a1p a2p;obtain⟨e,ep,b1,b2⟩:=min2 a3p e5p;refine⟨e,ep,λx y hx hy hxy he=>?_⟩;have hab:Fl (y-x)<=e:=by rw[Mw];clear h1 h2;constructor <;> grind
  have hab1:Fl (y-x)<=e1:=by clear h1 h2;grind
  have hab2:Fl (y-x)<=e2:=by clear h1 h2;grind
  obtain⟨i1,i2,i3,i4,i5⟩:=h1 x y hx hy hab1;rcases Gm d (Fl (ev f x))with hf|hf
  ·obtain⟨s1,s2⟩:=h2 x y hx hy hab2 hf;obtain⟨j1,j2⟩:=i2 hf;refine .inl ⟨?_,s1,s2⟩;have:=i4 j1 j2;simp only[vv];rw[HV (x:=x) (p:=f) j2,HV (x:=y) (p:=f) (by rw[j1];exact j2),j1,this]
  ·have hg1:d<=Fl (ev g x):=by
    rcases i1 with i|i
    ·exact absurd i (Js.2 hf)
    ·exact i
   obtain⟨g1,g2⟩:=i3 hg1;have i5:=i5 g1 g2;have hD:d3<=Fl (dv f x):=by
    rcases Gm d3 (Fl (dv f x))with h'|h'
    ·exact h'
    ·have h5:=He (x:=k) (a:=k) (by unfold Fl;split <;> clear h1 h2 <;> grind) (Rat.le_of_lt h');rw[<-hg]at h5;have:k*d3=d3*k:=by grind
     exact absurd (Zk hg1 h5) (Js.2 (by rw[this];exact d3b))
   have hm:=EK hx hy hR hxy (by clear h1 h2;grind:y-x<=e3) hD e3b;have s1:Fh (ev g x)=Fh (dv f x):=by rw[hg,S0,Hw.2 hk,Ks]
   have s2:Fh (ev g y)=Fh (dv f y):=by rw[hg,S0,Hw.2 hk,Ks]
   obtain⟨s,hs⟩:=nmE (Fh (ev g x));rw[<-hs]at g1 g2 i5 s1;rw[g1]at s2;have v1:=tc0 (f:=f) (l:=l) hs.symm g2;have v2:=tc0 (f:=f) (l:=l) g1 g2;rw[<-i5]at v2;rw[<-s1]at hm;have hw:Sm f x y->Sm w x y:=λhf=>by
    rcases Gm d4 (Fl (ev u x))with hu|hu
    ·have hu:=P7 hu (Mp hx hy hR (Zk hab b2) e5b);exact Qxh h hu.1 hu.2 hf
    ·have hw:d4<=Fl (ev w x):=by
      rcases Gm d4 (Fl (ev w x))with h'|h'
      ·exact h'
      ·have q1:=He (x:=dv w x) (y:=ev u x) (a:=IT R w) (by rw[<-jA];exact fF hx hx w) (Qt hu);have q2:=He (x:=ev w x) (y:=dv u x) (b:=IT R u) (Qt h') (by rw[<-jA];exact fF hx hx u);have q3:=Sv (dv w x*ev u x) (ev w x*dv u x);rw[<-QM h]at q3;have:d4*(IT R w+IT R u)=IT R w*d4+d4*IT R u:=by grind
       rw[this]at d4b;exact absurd (Zk hD (Zk q3 (by clear h1 h2;grind:_<=IT R w*d4+d4*IT R u))) (Js.2 d4b)
     have hw:=P7 hw (Mp hx hy hR (Zk hab (by clear h1 h2;grind)) e4b);exact sC hw.1 hw.2
   have lx:Px f x=if Fh (ev f x)≠0 then Fh (ev f x)else s:=by rw[s1];rfl
   have ly:Px f y=if Fh (ev f y)≠0 then Fh (ev f y)else s:=by rw[s2];rfl
   clear h1 h2 i1 i2 i3 i4;have hsv:s=1\/s=-1:=by rcases Ge (ev g x)with⟨e,_⟩|⟨e,_⟩|⟨e,_⟩ <;> omega
   unfold Qey;simp only[vv,v1,v2];rcases hsv with rfl|rfl
   ·have hm:=Hw.1 hm;rcases Ge (ev f x)with⟨p1,p2⟩|⟨p1,p2⟩|⟨p1,p2⟩
    ·rcases Ge (ev f y)with⟨q1,q2⟩|⟨q1,q2⟩|⟨q1,q2⟩
     ·rw[p1,q1];have hsm:=sC (p:=f) (x:=x) (y:=y) (by rw[p1,q1]) (by rw[p1];decide);exact .inl ⟨rfl,hsm,hw hsm⟩
     ·rw[lx,ly,p1,q1];refine .inr ⟨by simp;omega,by decide,by decide,by decide,by decide⟩
     ·rw[lx,ly,p1,q1];refine .inr ⟨by simp;omega,by decide,by decide,by decide,by decide⟩
    ·have q1:=Hw.2 (show 0<ev f y by grind);have hsm:Sm f x y:=⟨by rw[lx,q1,p1];rfl,by rw[lx,ly,q1,p1];rfl,by rw[lx,p1];decide⟩;rw[p1,q1];exact .inl ⟨rfl,hsm,hw hsm⟩
    ·have q1:=Hw.2 (show 0<ev f y by grind);have hsm:Sm f x y:=⟨by rw[lx,q1,p1];rfl,by rw[lx,ly,q1,p1],by rw[lx,p1];decide⟩;rw[p1,q1];exact .inl ⟨rfl,hsm,hw hsm⟩
   ·have hm:=S4.1 hm;rcases Ge (ev f x)with⟨p1,p2⟩|⟨p1,p2⟩|⟨p1,p2⟩
    ·have q1:=S4.2 (show ev f y<0 by grind);have hsm:Sm f x y:=⟨by rw[lx,q1,p1];rfl,by rw[lx,ly,q1,p1],by rw[lx,p1];decide⟩;rw[p1,q1];exact .inl ⟨rfl,hsm,hw hsm⟩
    ·have q1:=S4.2 (show ev f y<0 by grind);have hsm:Sm f x y:=⟨by rw[lx,q1,p1];rfl,by rw[lx,ly,q1,p1];rfl,by rw[lx,p1];decide⟩;rw[p1,q1];exact .inl ⟨rfl,hsm,hw hsm⟩
    ·rcases Ge (ev f y)with⟨q1,q2⟩|⟨q1,q2⟩|⟨q1,q2⟩
     ·rw[lx,ly,p1,q1];refine .inr ⟨by simp;omega,by decide,by decide,by decide,by decide⟩
     ·rw[lx,ly,p1,q1];refine .inr ⟨by simp;omega,by decide,by decide,by decide,by decide⟩
     ·rw[p1,q1];have hsm:=sC (p:=f) (x:=x) (y:=y) (by rw[p1,q1]) (by rw[p1];decide);exact .inl ⟨rfl,hsm,hw hsm⟩
theorem Q1h(z:Rat):∃n:Nat,z<=(n:Rat):=by
 refine⟨z.ceil.toNat,?_⟩;have h1:z<=(z.ceil:Rat):=Rat.le_ceil;have h2:(z.ceil:Rat)<=((z.ceil.toNat:Int):Rat):=Je.2 (Int.self_le_toNat _);exact Zk h1 h2
theorem ZI{z e:Rat}(he:0<e):∃n:Nat,z<=(n:Rat)*e:=by
 obtain⟨n,hn⟩:=Q1h (z / e);exact⟨n,by have:=Zf hn (Qt he);rwa[Hf he]at this⟩
theorem FP{R x y t:Rat}(hx:Fl x<=R)(hy:Fl y<=R)(h1:x<=t)(h2:t<=y):Fl t<=R:=by
 rw[Mw]at *;constructor <;> grind
def Qbq(f w:Ut)(L:Uu)(x y:Rat):Prop :=
 vv L y<=vv L x/\(vv L x=vv L y->Sm f x y/\Sm w x y)/\(vv L x=vv L y+1->Px f x≠0/\Px f y=-Px f x)
theorem oR{f w:Ut}{L:Uu}{x y:Rat}(h:Qey f w L x y):Qbq f w L x y:=by
 rcases h with⟨h1,h2,h3⟩|⟨h1,h2,h3,_⟩
 ·exact⟨by omega,λ_=>⟨h2,h3⟩,λh=>by omega⟩
 ·exact⟨by omega,λh=>by omega,λ_=>⟨h2,h3⟩⟩
theorem sD{w:Ut}{x y z:Rat}(h1:Sm w x y)(h2:Sm w y z):Sm w x z:=⟨by rw[h2.s,h1.l],by rw[h2.l,h1.l],h1.n⟩
theorem cZ{f w:Ut}{L:Uu}{x y z:Rat}(h:Qbq f w L x y)(h':Qbq f w L y z):Qbq f w L x z:=by
 obtain⟨a1,a2,a3⟩:=h;obtain⟨b1,b2,b3⟩:=h';refine⟨by omega,λh=>?_,λh=>?_⟩
 ·obtain⟨s1,s2⟩:=a2 (by omega);obtain⟨s3,s4⟩:=b2 (by omega);exact⟨sD s1 s3,sD s2 s4⟩
 ·by_cases e:vv L x=vv L y
  ·obtain⟨s1,_⟩:=a2 e;obtain⟨s3,s4⟩:=b3 (by omega);exact⟨s1.n,by rw[s4,s1.l]⟩
  ·obtain⟨s3,s4⟩:=a3 (by omega);obtain⟨s1,_⟩:=b2 (by omega);exact⟨s3,by rw[s1.l,s4]⟩
theorem Qv7{R:Rat}(hR:0<=R){f w u:Ut}{L:Uu}(hc:HE f L)(h:∀t,ev f t=ev w t*ev u t){x y:Rat}(hx:Fl x<=R)(hy:Fl y<=R)(hxy:x<y):Qbq f w L x y:=by
 obtain⟨e,ep,hl⟩:=loc hR hc h;have key:∀n:Nat,∀x,Fl x<=R->x<y->y-x<=(n:Rat)*e->Qbq f w L x y:=by
  intro n
  induction n with
  |zero =>
   intro x hx hxy h;exfalso;have:((0:Nat):Rat)*e=0:=by simp
   grind
  |
   succ n ih =>
   intro x hx hxy hn;rcases Gm (y-x) e with h1|h1
   ·exact oR (hl x y hx hy hxy h1)
   ·have hm:Fl (x+e)<=R:=FP hx hy (by clear hl ih;grind) (by clear hl ih;grind);have hn':(((n+1:Nat):Rat))=(n:Rat)+1:=by push_cast;rfl
    refine cZ (oR (hl x (x+e) hx hm (by clear hl ih;grind) (by clear hl ih;grind))) (ih (x+e) hm (by clear hl ih;grind) ?_);rw[hn']at hn;clear hl ih;grind
 obtain⟨n,hn⟩:=ZI (z:=y-x) ep;exact key n x hx hxy hn
theorem xO(x y:Rat):∃R:Rat,0<=R/\Fl x<=R/\Fl y<=R:=by
 refine⟨Fl x+Fl y,?_,?_,?_⟩ <;> (have:=Hz x;have:=Hz y;grind)
theorem Tk(t:Rat):ev [1] t=1:=by simp only[ev];grind
theorem A3{f:Ut}{L:Uu}(hc:HE f L){x y:Rat}(hxy:x<y):vv L y<=vv L x:=by
 obtain⟨R,hR,hx,hy⟩:=xO x y;exact(Qv7 hR hc (w:=f) (u:=[1]) (λt=>by rw[Tk];grind) hx hy hxy).1
theorem KF{f w u:Ut}{L:Uu}(hc:HE f L)(h:∀t,ev f t=ev w t*ev u t){x y:Rat}(hxy:x<y)(he:vv L x=vv L y):Sm w x y:=by
 obtain⟨R,hR,hx,hy⟩:=xO x y;exact((Qv7 hR hc h hx hy hxy).2.1 he).2
theorem wJ{f:Ut}{L:Uu}(hc:HE f L){x y:Rat}(hxy:x<y)(he:vv L x=vv L y):Sm f x y :=
 KF hc (w:=f) (u:=[1]) (λt=>by rw[Tk];grind) hxy he
theorem wX{f:Ut}{L:Uu}(hc:HE f L){x y:Rat}(hxy:x<y)(he:vv L x=vv L y+1):Px f x≠0/\Px f y=-Px f x:=by
 obtain⟨R,hR,hx,hy⟩:=xO x y;exact(Qv7 hR hc (w:=f) (u:=[1]) (λt=>by rw[Tk];grind) hx hy hxy).2.2 he
theorem Qmh{f:Ut}{L:Uu}(hc:HE f L)(R:Rat)(hR:0<=R):∃e:Rat,0<e/\∀x y,Fl x<=R->Fl y<=R->x<y->y-x<=e->vv L x<=vv L y+1:=by
 obtain⟨e,ep,hl⟩:=loc hR hc (w:=f) (u:=[1]) (λt=>by rw[Tk];grind);refine⟨e,ep,λx y hx hy hxy he=>?_⟩;rcases hl x y hx hy hxy he with⟨h,_⟩|⟨h,_⟩ <;> omega
theorem UE{p:Ut}{x:Rat}(h:Fh (ev p x)≠0):∃e:Rat,0<e/\∀y,Fl (y-x)<=e->Fh (ev p y)=Fh (ev p x):=by
 have hd:=Cv (x:=ev p x) λh0=>h (Gs.2 h0)
 have hR:0<=Fl x+1:=by have:=Hz x;grind
 obtain⟨e,e1,e2,e3⟩:=Hj (Nh hR p) hd;refine⟨e,e1,λy hy=>(P7 Qp (Mp (x:=x) (by grind) ?_ hR hy e3)).1⟩;have:=Sv (y-x) x;have e:y-x+x=y:=by grind
 rw[e]at this;grind
theorem Qtg{R M:Rat}{p:Ut}(hM:M=ddB R p)(hR:0<=R){h:Rat}(hh:0<h):∀(n:Nat) (x:Rat),Fl x<=R->Fl (x+(n:Rat)*h)<=R->(∀t,x<=t->t<=x+(n:Rat)*h->0<=dv p t)->ev p x-(n:Rat)*(h*h*M)<=ev p (x+(n:Rat)*h)
 |
  0,x,_,_,_=>by
  have e1:x+((0:Nat):Rat)*h=x:=by rw[show((0:Nat):Rat)=0 from rfl];grind
  have e2:((0:Nat):Rat)*(h*h*M)=0:=by simp
  rw[e1,e2];grind
 |
  n+1,x,hx,hy,hd=>by
  have hn':(((n+1:Nat):Rat))=(n:Rat)+1:=by push_cast;rfl
  rw[hn']at hy hd ⊢;have hn0:(0:Rat)<=(n:Rat):=Xm;have hnh:=Bj hn0 (Qt hh);have e1:x+((n:Rat)+1)*h=(x+h)+(n:Rat)*h:=by grind
  rw[e1]at hy hd ⊢;have hxh:Fl (x+h)<=R:=FP hx hy (by clear hd;grind) (by clear hd;grind);have ih:=Qtg hM hR hh n (x+h) hxh hy λt h1 h2=>hd t (by clear hd;grind) h2
  have h0:=hd x Qp (by clear hd;grind);have h1:=Qs2 p (x+h) x;have h2:=Qhz hxh hx p;rw[<-hM,Mw]at h2;have h3:=Z0 h2.1 (Bj (Qt hh) (Qt hh));have h4:=Bj (Qt hh) h0;have e2:x+h-x=h:=by grind
  rw[e2]at h1;clear hd hx hy hxh;grind
theorem Qz2{p:Ut}{x y:Rat}(hxy:x<y)(hd:∀t,x<=t->t<=y->0<=dv p t):ev p x<=ev p y:=by
 obtain⟨R,hR,hx,hy⟩:=xO x y;rcases Gm (ev p x) (ev p y)with h|h
 ·exact h
 ·exfalso;obtain⟨M,hM⟩:=nmE (ddB R p);have hM0:=DK hR p;rw[<-hM]at hM0;obtain⟨e,ep,_,he⟩:=Hj (b:=(y-x)*M) (d:=ev p x-ev p y) (Bj (by grind) hM0) (by grind);obtain⟨n,hn⟩:=ZI (z:=y-x) ep;have hn0:0<(n:Rat):=by
   rcases Gm (n:Rat) 0 with h'|h'
   ·have:=Zf h' (Qt ep);clear hd;grind
   ·exact h'
  have hh:0<(y-x) / n:=Ai (by grind) hn0;have e1:(n:Rat)*((y-x) / n)=y-x:=by rw[Ub];exact Hf hn0
  have e2:x+(n:Rat)*((y-x) / n)=y:=by rw[e1];grind
  have h1:=Qtg hM hR hh n x hx (by rw[e2];exact hy) (by rw[e2];exact hd);rw[e2]at h1;have h2:(y-x) / n<=e:=by
   rcases Gm ((y-x) / n) e with h'|h'
   ·exact h'
   ·have:=Rat.mul_lt_mul_of_pos_left h' hn0;clear hd;grind
  have h3:(n:Rat)*((y-x) / n*((y-x) / n)*M)=((y-x) / n)*((y-x)*M):=by
   have:(n:Rat)*((y-x) / n*((y-x) / n)*M)=((n:Rat)*((y-x) / n))*(((y-x) / n)*M):=by grind
   rw[this,e1];grind
  have h4:=Zf h2 (Bj (x:=y-x) (y:=M) (by grind) hM0);rw[h3]at h1;clear hd;grind
theorem Qq6{p:Ut}{x y:Rat}(hxy:x<y)(hd:∀t,x<=t->t<=y->0<dv p t):ev p x<ev p y:=by
 have hx:=hd x Qp (by grind);have hR:0<=Fl x+1:=by have:=Hz x;grind
 obtain⟨e,e1,e2,e3⟩:=Hj (DK hR p) hx;obtain⟨f,f1,f2,f3⟩:=min2 (a:=e) (b:=y-x) e1 (by grind);have hq:Fl (x+f)<=Fl x+1:=by
  have:=Sv x f;have:Fl f=f:=by unfold Fl;split <;> grind
  clear hd;grind
 have h1:=EK (p:=p) (x:=x) (y:=x+f) (R:=Fl x+1) (e:=e) (d:=dv p x) (by clear hd;grind) hq hR (by grind) (by grind) (by unfold Fl;split <;> clear hd <;> grind) e3;rw[Hw.2 hx,Hw]at h1;rcases Classical.em (x+f=y)with e|e
 ·rw[<-e];clear hd;grind
 ·have:=Qz2 (p:=p) (x:=x+f) (y:=y) (by clear hd;grind) λt h1 h2=>Qt (hd t (by clear hd;grind) h2)
  clear hd;grind
structure Cut(c:Rat->Int):Prop where
 val:∀q,c q=1\/c q=0\/c q=-1
 mono:∀q r,q<r->c q≠1->c r=-1
 up:∀q,c q=1->∃r,q<r/\c r=1
 dn:∀q,c q=-1->∃r,r<q/\c r=-1
 lo:∃q,c q=1
 hi:∃q,c q=-1
theorem Cut.mono'{c:Rat->Int}(h:Cut c){q r:Rat}(hqr:q<r)(hr:c r≠-1):c q=1:=by
 rcases Classical.em (c q=1)with e|e
 ·exact e
 ·exact absurd (h.mono q r hqr e) hr
theorem Cut.lt{c:Rat->Int}(h:Cut c){q r:Rat}(hq:c q=1)(hr:c r=-1):q<r:=by
 rcases Gm r q with e|e
 ·rcases Classical.em (r=q)with e'|e'
  ·rw[e']at hr;omega
  ·have:=h.mono r q (by grind) (by omega);omega
 ·exact e
theorem Cut.near{c:Rat->Int}(h:Cut c){e:Rat}(he:0<e):∃x y,c x=1/\c y=-1/\y-x<=e:=by
 obtain⟨a,ha⟩:=h.lo;obtain⟨b,hb⟩:=h.hi;have he2:0<e / 2:=Ai he (by decide);have h2:e / 2*2=e:=Hf (by decide);have key:∀(n:Nat) (a:Rat),c a=1->b-a<=(n:Rat)*(e / 2)->∃x y,c x=1/\c y=-1/\y-x<=e:=by
  intro n
  induction n with
  |
   zero =>
   intro a ha hn;have:=h.lt ha hb;rw[show((0:Nat):Rat)=0 from rfl]at hn;exfalso;grind
  |
   succ n ih =>
   intro a ha hn;have hn':(((n+1:Nat):Rat))=(n:Rat)+1:=by push_cast;rfl
   rw[hn']at hn;rcases h.val (a+e / 2)with h1|h1|h1
   ·exact ih _ h1 (by grind)
   ·exact⟨a,a+e,ha,h.mono (a+e / 2) _ (by grind) (by omega),by grind⟩
   ·exact⟨a,a+e / 2,ha,h1,by grind⟩
 obtain⟨n,hn⟩:=ZI (z:=b-a) he2;exact key n a ha hn
def I7(p:Ut)(c:Rat->Int):Prop:=∀d:Rat,0<d->∃x y,c x=1/\c y=-1/\∀q,x<=q->q<=y->Fl (ev p q)<d
def NZ(p:Ut)(c:Rat->Int)(s:Int):Prop:=∃d:Rat,0<d/\∃x y,c x=1/\c y=-1/\∀q,x<=q->q<=y->Fh (ev p q)=s/\d<=Fl (ev p q)
def Nr(c:Rat->Int)(P:Rat->Prop):Prop:=∃x y,c x=1/\c y=-1/\∀q,x<=q->q<=y->P q
theorem cT{c:Rat->Int}{P Q:Rat->Prop}(h1:Nr c P)(h2:Nr c Q):Nr c λq=>P q/\Q q:=by
 obtain⟨x,y,a1,a2,a3⟩:=h1;obtain⟨x',y',b1,b2,b3⟩:=h2;refine⟨if x<=x' then x' else x,if y<=y' then y else y',by split <;> assumption,by split <;> assumption,λq q1 q2=>⟨a3 q ?_ ?_,b3 q ?_ ?_⟩⟩ <;> clear a3 b3 <;> grind
theorem NS{c:Rat->Int}{P Q:Rat->Prop}(h1:Nr c P)(h:∀q,P q->Q q):Nr c Q:=by
 obtain⟨x,y,a1,a2,a3⟩:=h1;exact⟨x,y,a1,a2,λq q1 q2=>h q (a3 q q1 q2)⟩
theorem rC{c:Rat->Int}(hc:Cut c){P:Rat->Prop}(h1:Nr c P):∃q,P q/\c q=1:=by
 obtain⟨x,y,a1,a2,a3⟩:=h1;exact⟨x,a3 x Qp (Qt (hc.lt a1 a2)),a1⟩
theorem Qkc{c:Rat->Int}(hc:Cut c){e:Rat}(he:0<e){P:Rat->Prop}(h1:Nr c P):∃x y,c x=1/\c y=-1/\y-x<=e/\x<y/\∀q,x<=q->q<=y->P q:=by
 obtain⟨x,y,a1,a2,a3⟩:=h1;obtain⟨x',y',b1,b2,b3⟩:=hc.near he;refine⟨if x<=x' then x' else x,if y<=y' then y else y',by split <;> assumption,by split <;> assumption,by clear a3;grind,hc.lt (by split <;> assumption) (by split <;> assumption),λq q1 q2=>a3 q ?_ ?_⟩ <;> clear a3 <;> grind
theorem Qte{c:Rat->Int}(hc:Cut c):∃R:Rat,0<=R/\Nr c λq=>Fl q<=R:=by
 obtain⟨x,y,a1,a2,_⟩:=hc.near (e:=1) (by decide);obtain⟨R,hR,h1,h2⟩:=xO x y;exact⟨R,hR,x,y,a1,a2,λq q1 q2=>FP h1 h2 q1 q2⟩
theorem JO{c:Rat->Int}(hc:Cut c)(p:Ut):I7 p c\/∃s,s≠0/\NZ p c s:=by
 rcases Classical.em (I7 p c)with h|h
 ·exact .inl h
 ·refine .inr ?_;obtain⟨d,hd0⟩:=Classical.not_forall.1 h;obtain⟨dp,hd⟩:=Classical.not_imp.1 hd0;have hd:∀x y,c x=1->c y=-1->∃q,x<=q/\q<=y/\d<=Fl (ev p q):=λx y hx hy=>by
   rcases Classical.em (∃q,x<=q/\q<=y/\d<=Fl (ev p q))with h'|h'
   ·exact h'
   ·refine absurd ⟨x,y,hx,hy,λq h1 h2=>?_⟩ hd;rcases Gm d (Fl (ev p q))with h3|h3
    ·exact absurd ⟨q,h1,h2,h3⟩ h'
    ·exact h3
  obtain⟨R,hR,hn⟩:=Qte hc;have hd2:0<d / 2:=Ai dp (by decide);have h2:d / 2*2=d:=Hf (by decide);obtain⟨e,e1,_,e3⟩:=Hj (Nh hR p) hd2;obtain⟨x,y,hx,hy,hxy,_,hq⟩:=Qkc hc e1 hn;obtain⟨r,r1,r2,r3⟩:=hd x y hx hy;have key:∀q,x<=q->q<=y->Fl (ev p q-ev p r)<d / 2:=λq q1 q2 =>
   Mp (hq r r1 r2) (hq q q1 q2) hR (by rw[Mw];clear hq hd;constructor <;> grind) e3
  refine⟨Fh (ev p r),λh0=>?_,d / 2,hd2,x,y,hx,hy,λq q1 q2=>⟨(P7 (d:=d) r3 ?_).1,?_⟩⟩
  ·rw[Gs.1 h0,Rm]at r3;clear hq hd key;grind
  ·have:=key q q1 q2;clear hq hd key;grind
  ·have h3:=key q q1 q2;have h4:=Sv (ev p r-ev p q) (ev p q);rw[show ev p r-ev p q+ev p q=ev p r from by clear hq hd key;grind,Qaz]at h4;clear hq hd key;grind
theorem Qxu{c:Rat->Int}(hc:Cut c){p:Ut}{s:Int}(h1:I7 p c)(h2:NZ p c s):False:=by
 obtain⟨d,dp,h2⟩:=h2;obtain⟨q,⟨a,b⟩,_⟩:=rC hc (cT (h1 d dp) h2);exact absurd b.2 (Js.2 a)
theorem Mg{c:Rat->Int}(hc:Cut c){f p q:Ut}(hf:∀t,ev f t=ev p t*ev q t)(h:I7 p c):I7 f c:=by
 intro d dp;obtain⟨R,hR,hn⟩:=Qte hc;obtain⟨e,e1,_,e3⟩:=Hj (XU hR q) dp;refine NS (cT hn (h e e1)) λt ⟨h1,h2⟩=>?_
 rw[hf];have:=He (Qt h2) (PQ h1 q);exact Js.1 λh=>absurd (Zk h this) (Js.2 e3)
theorem BV{c:Rat->Int}{f p q:Ut}(hf:∀t,ev f t=ev p t+ev q t)(h:I7 p c)(h':I7 q c):I7 f c:=by
 intro d dp;have hd2:0<d / 2:=Ai dp (by decide);have h2:d / 2*2=d:=Hf (by decide);refine NS (cT (h _ hd2) (h' _ hd2)) λt ⟨h1,h2⟩=>?_
 rw[hf];have:=Sv (ev p t) (ev q t);grind
def RS(p:Ut)(c:Rat->Int)(s:Int):Prop:=∃y,c y=-1/\∀q,c q=-1->q<=y->Fh (ev p q)=s
def LS(p:Ut)(c:Rat->Int)(s:Int):Prop:=∃x,c x=1/\∀q,c q=1->x<=q->Fh (ev p q)=s
theorem xY{c:Rat->Int}(hc:Cut c){p:Ut}{s:Int}(h:NZ p c s):RS p c s:=by
 obtain⟨d,dp,x,y,a1,a2,a3⟩:=h;exact⟨y,a2,λq h1 h2=>(a3 q (Qt (hc.lt a1 h1)) h2).1⟩
theorem oC{c:Rat->Int}(hc:Cut c){p:Ut}{s:Int}(h:NZ p c s):LS p c s:=by
 obtain⟨d,dp,x,y,a1,a2,a3⟩:=h;exact⟨x,a1,λq h1 h2=>(a3 q h2 (Qt (hc.lt h1 a2))).1⟩
theorem GA{c:Rat->Int}{p:Ut}{s s':Int}(h:RS p c s)(h':RS p c s'):s=s':=by
 obtain⟨y,a1,a2⟩:=h;obtain⟨y',b1,b2⟩:=h';rcases Gm y y' with e|e
 ·rw[<-a2 y a1 Qp,<-b2 y a1 e]
 ·rw[<-a2 y' b1 (Qt e),<-b2 y' b1 Qp]
theorem Qtj{c:Rat->Int}(hc:Cut c){p:Ut}(hv:I7 p c){y:Rat}(hy:c y=-1)(h:∀q,c q=-1->q<=y->0<dv p q)(q:Rat)(hq:c q=-1)(hqy:q<=y):0<ev p q:=by
 rcases Gm (ev p q) 0 with h0|h0
 ·exfalso;obtain⟨r,r1,r2⟩:=hc.dn q hq;have hr:ev p r<ev p q:=Qq6 r1 λt t1 t2=>h t (by
   rcases Classical.em (r=t)with e|e
   ·rw[<-e];exact r2
   ·exact hc.mono r t (by clear h;grind) (by omega)) (Zk t2 hqy)
  obtain⟨a,b,ha,hb,hab⟩:=hv (-ev p r) (by clear h;grind);obtain⟨m,hm1,hm2,hm3⟩:∃m,c m=-1/\m<=b/\m<=r:=by
   rcases Gm b r with e|e
   ·exact⟨b,hb,Qp,e⟩
   ·exact⟨r,r2,Qt e,Qp⟩
  have h1:=hab m (Qt (hc.lt ha hm1)) hm2;have h2:ev p m<=ev p r:=by
   rcases Classical.em (m=r)with e|e
   ·rw[e];exact Qp
   ·exact Qt (Qq6 (by clear h hab;grind) λt t1 t2=>h t (by
     rcases Classical.em (m=t)with e|e
     ·rw[<-e];exact hm1
     ·exact hc.mono m t (by clear h hab;grind) (by omega)) (by clear h hab;grind))
  rw[kZ]at h1;clear h hab;grind
 ·exact h0
theorem kK{c:Rat->Int}(hc:Cut c){p:Ut}{s:Int}(hv:I7 p c)(h:RS (Bn p) c s)(hs:s≠0):RS p c s:=by
 obtain⟨y,hy,h⟩:=h;have hsv:s=1\/s=-1:=by
  have:=h y hy Qp;rcases Ge (ev (Bn p) y)with⟨e,_⟩|⟨e,_⟩|⟨e,_⟩ <;> omega
 rcases hsv with rfl|rfl
 ·refine⟨y,hy,λq h1 h2=>Hw.2 (Qtj hc hv hy (λq h1 h2=>?_) q h1 h2)⟩;rw[<-Tt];exact Hw.1 (h q h1 h2)
 ·refine⟨y,hy,λq h1 h2=>S4.2 ?_⟩;have:=Qtj hc (p:=D8 (-1) p) (y:=y) (λd dp=>NS (hv d dp) λq hq=>by rw[Gw,show -1*ev p q=-ev p q by grind,Ew];exact hq) hy (λq h1 h2=>by
   rw[RB,<-Tt];have:=S4.1 (h q h1 h2);grind) q h1 h2
  rw[Gw]at this;grind
theorem Qtb{c:Rat->Int}(hc:Cut c){p:Ut}(hv:I7 p c){x:Rat}(hx:c x=1)(h:∀q,c q=1->x<=q->0<dv p q)(q:Rat)(hq:c q=1)(hxq:x<=q):ev p q<0:=by
 rcases Gm 0 (ev p q)with h0|h0
 ·exfalso;obtain⟨r,r1,r2⟩:=hc.up q hq;have hr:ev p q<ev p r:=Qq6 r1 λt t1 t2=>h t (by
   rcases Classical.em (t=r)with e|e
   ·rw[e];exact r2
   ·exact hc.mono' (q:=t) (r:=r) (by clear h;grind) (by omega)) (Zk hxq t1)
  obtain⟨a,b,ha,hb,hab⟩:=hv (ev p r) (by clear h;grind);obtain⟨m,hm1,hm2,hm3⟩:∃m,c m=1/\a<=m/\r<=m:=by
   rcases Gm a r with e|e
   ·exact⟨r,r2,e,Qp⟩
   ·exact⟨a,ha,Qp,Qt e⟩
  have h1:=hab m hm2 (Qt (hc.lt hm1 hb));have h2:ev p r<=ev p m:=by
   rcases Classical.em (r=m)with e|e
   ·rw[e];exact Qp
   ·exact Qt (Qq6 (by clear h hab;grind) λt t1 t2=>h t (by
     rcases Classical.em (t=m)with e|e
     ·rw[e];exact hm1
     ·exact hc.mono' (q:=t) (r:=m) (by clear h hab;grind) (by omega)) (by clear h hab;grind))
  rw[kZ]at h1;clear h hab;grind
 ·exact h0
theorem Qju{c:Rat->Int}(hc:Cut c){p:Ut}{s:Int}(hv:I7 p c)(h:LS (Bn p) c s)(hs:s≠0):LS p c (-s):=by
 obtain⟨x,hx,h⟩:=h;have hsv:s=1\/s=-1:=by
  have:=h x hx Qp;rcases Ge (ev (Bn p) x)with⟨e,_⟩|⟨e,_⟩|⟨e,_⟩ <;> omega
 rcases hsv with rfl|rfl
 ·refine⟨x,hx,λq h1 h2=>S4.2 (Qtb hc hv hx (λq h1 h2=>?_) q h1 h2)⟩;rw[<-Tt];exact Hw.1 (h q h1 h2)
 ·refine⟨x,hx,λq h1 h2=>Hw.2 ?_⟩;have:=Qtb hc (p:=D8 (-1) p) (x:=x) (λd dp=>NS (hv d dp) λq hq=>by rw[Gw,show -1*ev p q=-ev p q by grind,Ew];exact hq) hx (λq h1 h2=>by
   rw[RB,<-Tt];have:=S4.1 (h q h1 h2);grind) q h1 h2
  rw[Gw]at this;grind
theorem Qrd{c:Rat->Int}(hc:Cut c){f g:Ut}{l:Uu}(h:SCl f g l):I7 f c->I7 g c->False:=by
 induction h with
 |
  @base f g k hk hg =>
  intro _ hv;obtain⟨q,hq,_⟩:=rC hc (hv (Fl k) (Cv hk));rw[hg]at hq;grind
 |
  @step f g h l a b q ha hb he hl ih =>
  intro hf hg;refine ih hg ?_;have h1:I7 (G9 q g) c:=Mg hc (p:=g) (q:=q) (λt=>by rw[Fi];grind) hg;have h2:I7 (D8 (-a) f) c:=Mg hc (p:=f) (q:=[-a]) (λt=>by rw[Gw];simp only[ev];grind) hf;have h3:I7 (Sw (G9 q g) (D8 (-a) f)) c:=BV (λt=>G5 t _ _) h1 h2;refine Mg hc (p:=Sw (G9 q g) (D8 (-a) f)) (q:=[1 / b]) (λt=>?_) h3;have:=he t;rw[G5,Fi,Gw];simp only[ev];have hbb:1 / b*b=1:=Hf hb;have:ev q t*ev g t+-a*ev f t=b*ev h t:=by rw[show -a*ev f t=-(a*ev f t) by grind,he t];grind
  rw[this];have:b*ev h t*(1 / b+t*0)=ev h t*(1 / b*b):=by grind
  rw[this,hbb];grind
theorem xA{c:Rat->Int}(hc:Cut c){f g:Ut}{k:Rat}(h:∀t,ev g t=k*ev f t)(hv:I7 f c):I7 g c :=
 Mg hc (p:=f) (q:=[k]) (λt=>by rw[h];simp only[ev];grind) hv
theorem Qrn{c:Rat->Int}(hc:Cut c){f:Ut}{L:Uu}(h:HE f L)(hv:I7 f c):∃s,s≠0/\NZ (Bn f) c s:=by
 rcases JO hc (Bn f)with h1|h1
 ·exfalso;rcases h with⟨k,hk,hf,_⟩|⟨g,l,k,hk,hg,h,_⟩
  ·obtain⟨q,hq,_⟩:=rC hc (hv (Fl k) (Cv hk));rw[hf]at hq;grind
  ·exact Qrd hc h hv (xA hc (λt=>by rw[hg,Tt]) h1)
 ·exact h1
theorem iV{c:Rat->Int}(hc:Cut c){f w u:Ut}{L:Uu}(h:HE f L)(hf:∀t,ev f t=ev w t*ev u t)(hv:I7 w c):∃s,s≠0/\NZ (Bn w) c s:=by
 rcases JO hc (Bn w)with h1|h1
 ·exfalso;obtain⟨s,_,hs⟩:=Qrn hc h (Mg hc hf hv);refine Qxu hc ?_ hs;have a1:I7 (G9 (Bn w) u) c:=Mg hc (λt=>Fi t _ _) h1;have a2:I7 (G9 w (Bn u)) c:=Mg hc (λt=>Fi t _ _) hv;refine BV (λt=>?_) a1 a2;rw[Tt,QM hf,Fi,Fi,Tt,Tt]
 ·exact h1
theorem Qhw{c:Rat->Int}(hc:Cut c){q:Rat}(h:c q=0){x y:Rat}(hx:c x=1)(hy:c y=-1):x<=q/\q<=y:=by
 constructor
 ·rcases Gm x q with e|e
  ·exact e
  ·have:=hc.mono q x e (by omega);omega
 ·rcases Gm q y with e|e
  ·exact e
  ·have:=hc.mono y q e (by omega);omega
theorem SR{c:Rat->Int}(hc:Cut c){p:Ut}{q:Rat}(h:c q=0)(hv:I7 p c):ev p q=0:=by
 rcases Classical.em (ev p q=0)with e|e
 ·exact e
 ·obtain⟨x,y,hx,hy,hq⟩:=hv _ (Cv e);obtain⟨h1,h2⟩:=Qhw hc h hx hy;have:=hq q h1 h2;grind
theorem rD{c:Rat->Int}(hc:Cut c){p:Ut}{q:Rat}{s:Int}(h:c q=0)(hv:NZ p c s):Fh (ev p q)=s:=by
 obtain⟨d,dp,x,y,hx,hy,hq⟩:=hv;obtain⟨h1,h2⟩:=Qhw hc h hx hy;exact(hq q h1 h2).1
theorem nT{c:Rat->Int}(hc:Cut c){y z:Rat}(hy:c y=-1)(hz:c z=-1):∃q,c q=-1/\q<y/\q<z:=by
 obtain⟨a,a1,a2⟩:=hc.dn y hy;obtain⟨b,b1,b2⟩:=hc.dn z hz;rcases Gm a b with e|e
 ·exact⟨a,a2,a1,by grind⟩
 ·exact⟨b,b2,by grind,b1⟩
theorem DJ{c:Rat->Int}(hc:Cut c){y z:Rat}(hy:c y=1)(hz:c z=1):∃q,c q=1/\y<q/\z<q:=by
 obtain⟨a,a1,a2⟩:=hc.up y hy;obtain⟨b,b1,b2⟩:=hc.up z hz;rcases Gm a b with e|e
 ·exact⟨b,b2,by grind,b1⟩
 ·exact⟨a,a2,a1,by grind⟩
theorem Qkb{f w u:Ut}{L:Uu}(h:HE f L)(hf:∀t,ev f t=ev w t*ev u t){x y:Rat}(hv:vv L x=vv L y){c:Rat->Int}(hc:Cut c)(hx:c x=1)(hy:c y≠1):¬I7 w c:=λhw=>by
 have hxy:x<y:=by
  rcases Gm y x with e|e
  ·rcases Classical.em (y=x)with e'|e'
   ·rw[e']at hy;exact absurd hx hy
   ·have:=hc.mono y x (by grind) hy;omega
  ·exact e
 have hwv:=KF h hf hxy hv;rcases hc.val y with e|e|e
 ·exact hy e
 ·have:=SR hc e hw;have:=hwv.s;rw[Gs.2 (by assumption)]at this;exact hwv.n this.symm
 ·obtain⟨s,hs,hd⟩:=iV hc h hf hw;obtain⟨a,ha,hal⟩:=Qju hc hw (oC hc hd) hs;obtain⟨b,hb,hbr⟩:=kK hc hw (xY hc hd) hs;obtain⟨q,q1,q2,q3⟩:=DJ hc hx ha;obtain⟨r,r1,r2,r3⟩:=nT hc hb e;have e1:=hal q q1 (Qt q3);have e2:=hbr r r1 (Qt r2);have hqr:=hc.lt q1 r1;have v1:vv L q<=vv L x:=A3 h q2;have v2:vv L y<=vv L r:=A3 h r3;have v3:vv L r<=vv L q:=A3 h hqr;have s1:=(KF h hf q2 (by omega)).s;have s2:=(KF h hf (x:=x) (y:=r) (by grind) (by omega)).s;omega
theorem kE{f:Ut}{L:Uu}(h:HE f L){x y:Rat}(hxy:x<y)(hv:vv L x≠vv L y){d:Rat}(dp:0<d):∃q,x<=q/\q<=y/\Fl (ev f q)<d:=by
 obtain⟨R,hR,hx,hy⟩:=xO x y;obtain⟨e1,e1p,hl⟩:=loc hR h (w:=f) (u:=[1]) (λt=>by rw[Tk];grind);obtain⟨e2,e2p,_,e2b⟩:=Hj (Nh hR f) dp;obtain⟨e,ep,h1,h2⟩:=min2 e1p e2p;have key:∀n:Nat,∀x,Fl x<=R->x<y->vv L x≠vv L y->y-x<=(n:Rat)*e->∃q,x<=q/\q<=y/\Fl (ev f q)<d:=by
  intro n
  induction n with
  |zero=>intro x hx hxy _ hn;rw[show((0:Nat):Rat)=0 from rfl]at hn;exfalso;clear hl;grind
  |
   succ n ih =>
   intro x hx hxy hv hn;have hstep:∀z,Fl z<=R->x<z->z-x<=e->vv L x≠vv L z->Fl (ev f z)<d:=λz hz hxz hze hv=>by
    rcases hl x z hx hz hxz (Zk hze h1)with⟨p,_⟩|⟨_,p1,p2,p3,p4⟩
    ·exact absurd p hv
    ·have hd:=Mp (p:=f) hx hz hR (e:=e2) (d:=d) (by rw[Mw];clear hl ih;constructor <;> grind) e2b;rw[<-p3]at p1 p4;clear hl ih p2 p3;rw[kZ]at *;rcases Ge (ev f x)with⟨a,a'⟩|⟨a,a'⟩|⟨a,a'⟩ <;> rcases Ge (ev f z)with⟨b,b'⟩|⟨b,b'⟩|⟨b,b'⟩ <;> rw[a,b]at p4 <;> first|(exfalso;revert p4;decide)|skip
     all_goals first|(constructor <;> grind)|(exfalso;omega)
   rcases Gm (y-x) e with h3|h3
   ·exact⟨y,Qt hxy,Qp,hstep y hy hxy h3 hv⟩
   ·have hm:Fl (x+e)<=R:=FP hx hy (by clear hl ih hstep;grind) (by clear hl ih hstep;grind);rcases Classical.em (vv L x=vv L (x+e))with e0|e0
    ·have hn':(((n+1:Nat):Rat))=(n:Rat)+1:=by push_cast;rfl
     rw[hn']at hn;obtain⟨q,q1,q2,q3⟩:=ih (x+e) hm (by clear hl ih hstep;grind) (by omega) (by clear hl ih hstep;grind);exact⟨q,by clear hl ih hstep;grind,q2,q3⟩
    ·exact⟨x+e,by clear hl ih hstep;grind,by clear hl ih hstep;grind,hstep (x+e) hm (by clear hl ih hstep;grind) (by clear hl ih hstep;grind) e0⟩
 obtain⟨n,hn⟩:=ZI (z:=y-x) ep;exact key n x hx hxy hv hn
theorem Qzk{p:Ut}{x:Rat}(h:Px p x≠0):∃e:Rat,0<e/\∀y,x<y->y-x<=e->Fh (ev p y)=Px p x:=by
 by_cases h0:Fh (ev p x)=0
 ·have hx:=Gs.1 h0;rw[cJ h0]at h ⊢;have hR:0<=Fl x+1:=by have:=Hz x;grind
  obtain⟨e,e1,e2,e3⟩:=Hj (DK hR p) (Cv (x:=dv p x) λh'=>h (Gs.2 h'));refine⟨e,e1,λy h1 h2=>?_⟩;have hy:Fl y<=Fl x+1:=by
   have:=Sv x (y-x);have e:x+(y-x)=y:=by grind
   have e':Fl (y-x)=y-x:=by unfold Fl;split <;> grind
   rw[e,e']at this;grind
  have:=EK (p:=p) (by grind) hy hR h1 h2 Qp e3;rw[hx]at this;rw[<-this];congr 1;grind
 ·rw[Ao h0]at h ⊢;obtain⟨e,e1,e2⟩:=UE h;exact⟨e,e1,λy h1 h2=>e2 y (by rw[Mw];constructor <;> grind)⟩
def cq(P:Ut)(lo hi q:Rat):Int:=if q<=lo then 1 else if hi<q then -1 else if Fh (ev P q)=0 then 0 else if Fh (ev P q)=Px P lo then 1 else -1
structure Vt(P:List Rat)(L:List (List Rat))(lo hi:Rat):Prop where
 s:HE P L
 l:lo<hi
 v:vv L lo=vv L hi+1
variable{P:Ut}{L:Uu}{lo hi:Rat}
theorem Ag{q:Rat}(h:q<=lo):cq P lo hi q=1:=by unfold cq;rw[if_pos h]
theorem UA{q:Rat}(h:lo<hi)(h':hi<q):cq P lo hi q=-1:=by unfold cq;rw[if_neg (by grind),if_pos h']
theorem Iw{q:Rat}(h1:lo<q)(h2:q<=hi):cq P lo hi q=if Fh (ev P q)=0 then 0 else if Fh (ev P q)=Px P lo then 1 else -1:=by
 unfold cq;rw[if_neg (by grind),if_neg (by grind)]
theorem Vt.two(V:Vt P L lo hi){q:Rat}(h1:lo<q)(h2:q<=hi):vv L q=vv L lo/\cq P lo hi q=1/\Fh (ev P q)=Px P lo\/vv L q=vv L hi/\cq P lo hi q≠1/\Px P q=-Px P lo/\Px P lo≠0:=by
 have a:=A3 V.s h1;have b:vv L hi<=vv L q:=by
  rcases Classical.em (q=hi)with e|e
  ·rw[e];exact Qk _
  ·exact A3 V.s (by grind)
 have hv:=V.v;rcases(show vv L q=vv L lo\/vv L q=vv L hi by omega)with e|e
 ·have hs:=wJ V.s h1 e.symm;refine .inl ⟨e,?_,hs.s⟩;rw[Iw h1 h2,hs.s,if_neg hs.n,if_pos rfl]
 ·obtain⟨o1,o2⟩:=wX V.s h1 (by omega);refine .inr ⟨e,?_,o2,o1⟩;rw[Iw h1 h2]
  split
  ·decide
  ·rename_i h0;rw[Ao h0]at o2;rw[if_neg (by omega)];decide
theorem Vt.lowlo(V:Vt P L lo hi):Px P lo≠0:=(wX V.s V.l V.v).1
theorem Vt.eq_lo(V:Vt P L lo hi){q:Rat}(h1:lo<q)(h2:q<=hi)(h:cq P lo hi q=1):vv L q=vv L lo:=by
 rcases V.two h1 h2 with⟨e,_⟩|⟨_,e,_⟩
 ·exact e
 ·exact absurd h e
theorem Vt.eq_hi(V:Vt P L lo hi){q:Rat}(h1:lo<q)(h2:q<=hi)(h:cq P lo hi q≠1):vv L q=vv L hi:=by
 rcases V.two h1 h2 with⟨_,e,_⟩|⟨e,_⟩
 ·exact absurd e h
 ·exact e
theorem Vt.hi1(V:Vt P L lo hi):cq P lo hi hi≠1:=λh=>by have:=V.eq_lo V.l Qp h;have:=V.v;omega
theorem Vt.cut(V:Vt P L lo hi):Cut (cq P lo hi) where
 val q:=by unfold cq;split <;> (try split) <;> (try split) <;> (try split) <;> simp
 mono q r h h1:=by
  have hq:lo<q:=by
   rcases Gm q lo with e|e
   ·exact absurd (Ag e) h1
   ·exact e
  rcases Gm r hi with e|e
  ·have e1:=V.eq_hi hq (by grind) h1;rcases V.two (q:=r) (by grind) e with⟨e2,_⟩|⟨e2,_,e3,e4⟩
   ·have:=A3 V.s h;have:=V.v;omega
   ·have hs:=wJ V.s h (by omega);rcases V.two hq (by grind)with⟨e5,_⟩|⟨_,_,e5,_⟩
    ·have:=V.v;omega
    ·rw[Iw (by grind) e,hs.s,if_neg hs.n,e5,if_neg (by omega)]
  ·exact UA V.l e
 up q h:=by
  rcases Gm q lo with e|e
  ·obtain⟨d,dp,hd⟩:=Qzk V.lowlo;obtain⟨f,fp,f1,f2⟩:=min2 (a:=d) (b:=hi-lo) dp (by have:=V.l;grind);have h1:lo<lo+f:=by clear hd;grind
   have h2:lo+f<=hi:=by clear hd;grind
   have:=hd (lo+f) h1 (by clear hd;grind);exact⟨lo+f,by clear hd;grind,by rw[Iw h1 h2,this,if_neg V.lowlo,if_pos rfl]⟩
  ·have hh:q<=hi:=by
    rcases Gm q hi with e'|e'
    ·exact e'
    ·have:=UA (P:=P) V.l e';omega
   rcases V.two e hh with⟨e1,_,e2⟩|⟨_,e1,_⟩
   ·have hn:q≠hi:=λh=>by rw[h]at e1;have:=V.v;omega
    obtain⟨d,dp,hd⟩:=UE (p:=P) (x:=q) (by rw[e2];exact V.lowlo);obtain⟨f,fp,f1,f2⟩:=min2 (a:=d) (b:=hi-q) dp (by clear hd;grind);have:=hd (q+f) (by rw[Mw];clear hd;constructor <;> grind);exact⟨q+f,by clear hd;grind,by rw[Iw (by clear hd;grind) (by clear hd;grind),this,e2,if_neg V.lowlo,if_pos rfl]⟩
   ·exact absurd h e1
 dn q h:=by
  have hq:lo<q:=by
   rcases Gm q lo with e|e
   ·have:=Ag (P:=P) (hi:=hi) e;omega
   ·exact e
  rcases Gm q hi with e|e
  ·rw[Iw hq e]at h
   split at h
   ·cases h
   rename_i h0
   split at h
   ·cases h
   rename_i h1;obtain⟨d,dp,hd⟩:=UE h0;obtain⟨f,fp,f1,f2⟩:=min2 (a:=d) (b:=(q-lo) / 2) dp (Ai (by clear hd;grind) (by decide));have h2:(q-lo) / 2*2=q-lo:=Hf (by decide);have:=hd (q-f) (by rw[Mw];clear hd;constructor <;> grind);exact⟨q-f,by clear hd;grind,by rw[Iw (by clear hd;grind) (by clear hd;grind),this,if_neg h0,if_neg h1]⟩
  ·have h2:(q-hi) / 2*2=q-hi:=Hf (by decide);exact⟨q-(q-hi) / 2,by grind,UA V.l (by grind)⟩
 lo:=⟨lo,Ag Qp⟩
 hi:=⟨hi+1,UA V.l (by grind)⟩
theorem Vt.van(V:Vt P L lo hi):I7 P (cq P lo hi):=by
 have hc:=V.cut;rcases JO hc P with h|⟨s,hs,h⟩
 ·exact h
 ·exfalso;have e1:s=Px P lo:=by
   obtain⟨x,hx,hx1⟩:=oC hc h;obtain⟨q,q1,q2,q3⟩:=DJ hc hx (Ag (P:=P) (hi:=hi) (Qp (a:=lo)));have hq:q<=hi:=by
    rcases Gm q hi with e|e
    ·exact e
    ·have:=UA (P:=P) V.l e;omega
   rcases V.two q3 hq with⟨_,_,e⟩|⟨_,e,_⟩
   ·rw[<-hx1 q q1 (Qt q2),e]
   ·exact absurd q1 e
  rcases hc.val hi with e|e|e
  ·exact V.hi1 e
  ·have h0:=rD hc e h;rw[Iw V.l Qp]at e
   split at e
   ·omega
   ·split at e <;> omega
  ·obtain⟨y,hy,hy1⟩:=xY hc h;obtain⟨q,q1,q2,q3⟩:=nT hc hy e;have hq:lo<q:=hc.lt (Ag (P:=P) (hi:=hi) (Qp (a:=lo))) q1;have:=hy1 q q1 (Qt q2);rw[Iw hq (Qt q3),this,if_neg hs,if_pos e1]at q1;cases q1
def bU(w:Ut)(lo hi:Rat):Prop:=Fh (ev w hi)=0\/Fh (ev w hi)≠Px w lo
theorem Vt.has(V:Vt P L lo hi){w u:Ut}(hf:∀t,ev P t=ev w t*ev u t){a b:Rat}(h1:lo<=a)(h2:a<b)(h3:b<=hi):bU w a b↔I7 w (cq P lo hi)/\cq P lo hi a=1/\cq P lo hi b≠1:=by
 have hc:=V.cut;have smno:vv L a=vv L b->¬bU w a b:=λh hh=>by
  have:=KF V.s hf h2 h;rcases hh with e|e
  ·rw[this.s]at e;exact this.n e
  ·exact e this.s
 by_cases ha:cq P lo hi a=1
 ·by_cases hb:cq P lo hi b=1
  ·have e1:=V.eq_lo (by grind) h3 hb;have e2:vv L a=vv L lo:=by
    rcases Classical.em (lo=a)with e|e
    ·rw[e]
    ·exact V.eq_lo (by grind) (by grind) ha
   exact⟨λh=>absurd h (smno (by omega)),λh=>absurd hb h.2.2⟩
  ·have e1:=V.eq_hi (by grind) h3 hb;have e2:vv L a=vv L lo:=by
    rcases Classical.em (lo=a)with e|e
    ·rw[e]
    ·exact V.eq_lo (by grind) (by grind) ha
   have left:∀s,LS w (cq P lo hi) s->s=Px w a:=λs hs=>by
    obtain⟨x,hx,hx1⟩:=hs;obtain⟨q,q1,q2,q3⟩:=DJ hc hx ha;have hqb:q<b:=by
     rcases Gm b q with e|e
     ·rcases Classical.em (b=q)with e'|e'
      ·rw[e']at hb;exact absurd q1 hb
      ·have:=hc.mono b q (by clear hx1 smno;grind) hb;omega
     ·exact e
    have:=V.eq_lo (q:=q) (by clear hx1 smno;grind) (by clear hx1 smno;grind) q1;rw[<-(KF V.s hf q3 (by omega)).s,hx1 q q1 (Qt q2)]
   have right:∀s,RS w (cq P lo hi) s->cq P lo hi b=-1->s=Fh (ev w b):=λs hs hb=>by
    obtain⟨y,hy,hy1⟩:=hs;obtain⟨q,q1,q2,q3⟩:=nT hc hy hb;have hqa:=hc.lt ha q1;have:=V.eq_hi (q:=q) (by clear hy1 smno;grind) (by clear hy1 smno;grind) (by omega);have hs:=KF V.s hf q3 (by omega);have hl:=hy1 q q1 (Qt q2);have h0:Fh (ev w q)≠0:=by
     have hs2:=KF V.s hf (x:=q) (y:=b) q3 (by omega);intro h0;obtain⟨r,r1,r2⟩:=hc.dn q q1;have har:=hc.lt ha r2;have:=V.eq_hi (q:=r) (by clear hy1 smno;grind) (by clear hy1 smno;grind) (by omega);have hs3:=KF V.s hf (x:=r) (y:=q) r1 (by omega);have hs4:=hs3.s;rw[h0]at hs4;exact hs3.n hs4.symm
    rw[hs.s,Ao h0,hl]
   refine⟨λh=>⟨?_,ha,hb⟩,λ⟨hw,_,_⟩=>?_⟩
   ·rcases JO hc w with e|⟨s,IU,hs⟩
    ·exact e
    ·exfalso;have l1:=left s (oC hc hs);have r1:Fh (ev w b)=s:=by
      rcases hc.val b with e|e|e
      ·exact absurd e hb
      ·exact rD hc e hs
      ·exact(right s (xY hc hs) e).symm
     rcases h with h|h
     ·exact IU (by rw[<-r1];exact h)
     ·exact h (by rw[r1,l1])
   ·rcases hc.val b with e|e|e
    ·exact absurd e hb
    ·exact .inl (Gs.2 (SR hc e hw))
    ·obtain⟨s,IU,hs⟩:=iV hc V.s hf hw;have l1:=left _ (Qju hc hw (oC hc hs) IU);have r1:=right _ (kK hc hw (xY hc hs) IU) e;exact .inr (by rw[<-l1,<-r1];omega)
 ·have hla:lo<a:=by
   rcases Classical.em (lo=a)with e|e
   ·rw[<-e]at ha;exact absurd (Ag Qp) ha
   ·grind
  have hb:cq P lo hi b≠1:=by have:=hc.mono a b h2 ha;omega
  have e1:=V.eq_hi hla (by grind) ha;have e2:=V.eq_hi (q:=b) (by grind) h3 hb;exact⟨λh=>absurd h (smno (by omega)),λh=>absurd h.2.1 ha⟩
theorem uO{c c':Rat->Int}(hc:Cut c)(hc':Cut c'){q:Rat}(h:c q≠c' q):∃r,(c r=-1/\c' r=1)\/(c r=1/\c' r=-1):=by
 rcases hc.val q with e|e|e <;> rcases hc'.val q with e'|e'|e'
 ·omega
 ·obtain⟨r,r1,r2⟩:=hc.up q e;exact⟨r,.inr ⟨r2,hc'.mono q r r1 (by omega)⟩⟩
 ·exact⟨q,.inr ⟨e,e'⟩⟩
 ·obtain⟨r,r1,r2⟩:=hc'.up q e';exact⟨r,.inl ⟨hc.mono q r r1 (by omega),r2⟩⟩
 ·omega
 ·obtain⟨r,r1,r2⟩:=hc'.dn q e';exact⟨r,.inr ⟨hc.mono' r1 (by omega),r2⟩⟩
 ·exact⟨q,.inl ⟨e,e'⟩⟩
 ·obtain⟨r,r1,r2⟩:=hc.dn q e;exact⟨r,.inl ⟨r2,hc'.mono' r1 (by omega)⟩⟩
 ·omega
theorem Vt.uniq(V:Vt P L lo hi){c:Rat->Int}(hc:Cut c)(h1:c lo=1)(h2:c hi≠1)(hv:I7 P c)(q:Rat):c q=cq P lo hi q:=by
 rcases Classical.em (c q=cq P lo hi q)with e|e
 ·exact e
 ·exfalso;obtain⟨r,⟨r1,r2⟩|⟨r1,r2⟩⟩:=uO hc V.cut e
  ·have hl:=hc.lt h1 r1;have hh:r<=hi:=by
    rcases Gm r hi with e|e
    ·exact e
    ·have:=UA (P:=P) V.l e;omega
   have:=V.eq_lo hl hh r2;exact Qkb V.s (w:=P) (u:=[1]) (λt=>by rw[Tk];grind) (x:=lo) (y:=r) (by omega) hc h1 (by omega) hv
  ·have hl:lo<r:=by
    rcases Gm r lo with e|e
    ·have:=Ag (P:=P) (hi:=hi) e;omega
    ·exact e
   have hh:r<=hi:=by
    rcases Gm r hi with e|e
    ·exact e
    ·have:=hc.mono hi r e h2;omega
   have:=V.eq_hi hl hh (by omega);exact Qkb V.s (w:=P) (u:=[1]) (λt=>by rw[Tk];grind) (x:=r) (y:=hi) (by omega) hc r1 h2 hv
theorem Vt.same(V:Vt P L lo hi){P':Ut}{L':Uu}{lo' hi':Rat}(V':Vt P' L' lo' hi'){g u u' U W:Ut}{k:Rat}(hk:k≠0)(h1:∀t,ev P t=ev g t*ev u t)(h2:∀t,ev P' t=ev g t*ev u' t)(h3:∀t,k*ev g t=ev U t*ev P t+ev W t*ev P' t){a b:Rat}(ha1:lo<=a)(ha2:lo'<=a)(ha:a=lo\/a=lo')(hb1:b<=hi)(hb2:b<=hi')(hb:b=hi\/b=hi'):(a<b/\bU g a b)↔∀q,cq P lo hi q=cq P' lo' hi' q:=by
 have hc:=V.cut;have hc':=V'.cut;constructor
 ·rintro⟨hab,hg⟩
  obtain⟨g1,g2,g3⟩:=(V.has h1 ha1 hab hb1).1 hg;obtain⟨g4,g5,g6⟩:=(V'.has h2 ha2 hab hb2).1 hg;intro q;refine(V.uniq hc' (by
   rcases Classical.em (lo=a)with e|e
   ·rw[e];exact g5
   ·exact hc'.mono' (q:=lo) (r:=a) (by grind) (by omega)) (λh=>?_) (Mg hc' h1 g4) q).symm
  rcases Classical.em (b=hi)with e|e
  ·rw[<-e]at h;exact g6 h
  ·have:=hc'.mono b hi (by grind) g6;omega
 ·intro h;have hcc:cq P' lo' hi'=cq P lo hi:=funext λq=>(h q).symm
  have e1:cq P lo hi a=1:=by
   rcases ha with rfl|rfl
   ·exact Ag Qp
   ·rw[h];exact Ag Qp
  have e2:cq P lo hi b≠1:=by
   rcases hb with rfl|rfl
   ·exact V.hi1
   ·rw[h];exact V'.hi1
  have hab:a<b:=by
   rcases Gm b a with e|e
   ·rcases Classical.em (b=a)with e'|e'
    ·rw[e']at e2;exact absurd e1 e2
    ·have:=hc.mono b a (by grind) e2;omega
   ·exact e
  have v1:=V.van;have v2:=V'.van;rw[hcc]at v2;have hg:I7 g (cq P lo hi):=by
   have a1:I7 (G9 U P) (cq P lo hi):=Mg hc (p:=P) (q:=U) (λt=>by rw[Fi];grind) v1;have a2:I7 (G9 W P') (cq P lo hi):=Mg hc (p:=P') (q:=W) (λt=>by rw[Fi];grind) v2;have a3:=BV (λt=>G5 t _ _) a1 a2;refine xA hc (k:=1 / k) (λt=>?_) a3;rw[G5,Fi,Fi,<-h3];have:1 / k*(k*ev g t)=1 / k*k*ev g t:=by grind
   rw[this,show 1 / k*k=1 from Zl hk];grind
  exact⟨hab,(V.has h1 ha1 hab hb1).2 ⟨hg,e1,e2⟩⟩
end Orq
namespace Orq
theorem Qkr:∀(M:Nat) (f:Nat->Nat),(∀i,i<=M->f i<M)->∃i j,i<j/\j<=M/\f i=f j
 | 0,f,h=>absurd (h 0 (Qk _)) (Nat.not_lt_zero _)
 |
  M+1,f,h=>by
  rcases Classical.em (∃i,i<=M/\f i=f (M+1))with⟨i,h1,h2⟩|hn
  ·exact⟨i,M+1,by omega,Qk _,h2⟩
  ·have hne:∀i,i<=M->f i≠f (M+1):=λi hi e=>hn ⟨i,hi,e⟩
   obtain⟨i,j,h1,h2,h3⟩:=Qkr M (λi=>if f i=M then f (M+1)else f i) λi hi=>by
    have a1:=h i (by omega);have a2:=h (M+1) (Qk _);have a3:=hne i hi;show(if f i=M then f (M+1)else f i)<M
    split <;> omega
   refine⟨i,j,h1,by omega,?_⟩;have a1:=hne i (by omega);have a2:=hne j h2
   split at h3 <;> split at h3 <;> omega
def dg(B k i:Nat):Nat:=k / B^i % B
theorem iJ(B k i:Nat):dg B k (i+1)=dg B (k / B) i:=by unfold dg;rw[Nat.pow_succ,Nat.mul_comm,Nat.div_div_eq_div_mul]
theorem Qh1{B:Nat}:∀(N:Nat) {k k':Nat},k<B^N->k'<B^N->(∀i,i<N->dg B k i=dg B k' i)->k=k'
 | 0,k,k',h,h',_=>by rw[Ve]at h h';omega
 |
  N+1,k,k',h,h',he=>by
  have h0:=he 0 (by omega);unfold dg at h0;rw[Ve,Nat.div_one,Nat.div_one]at h0;have hB:0<B:=by
   rcases Q4 B with e|e
   ·rw[e,Zs,Yz]at h;omega
   ·exact e
  have h1:=Qh1 N (k:=k / B) (k':=k' / B) (Jc (by rw[Zr,<-Zs];exact h)) (Jc (by rw[Zr,<-Zs];exact h')) λi hi=>by
   rw[<-iJ,<-iJ];exact he (i+1) (by omega)
  rw[<-Wi k B,<-Wi k' B,h0,h1]
def cd(B:Nat):Nat->(Nat->Nat)->Nat
 | 0,_=>0
 |E+1,x=>x 0+B*cd B E λe=>x (e+1)
theorem Qsw{B:Nat}:∀(E:Nat) {x:Nat->Nat},(∀e,e<E->x e<B)->cd B E x<B^E
 | 0,_,_=>by simp[cd]
 |
  E+1,x,h=>by
  have h1:=h 0 (by omega);have h2:=Qsw E (x:=λe=>x (e+1)) λe he=>h (e+1) (by omega)
  simp only[cd];have h3:B*cd B E (λe=>x (e+1))+B<=B*B^E:=by
   rw[<-W8];exact Zp _ h2
  rw[Zs,Zr (B^E)];omega
theorem Qhk{B:Nat}:∀(E:Nat) {x y:Nat->Nat},(∀e,e<E->x e<B)->(∀e,e<E->y e<B)->cd B E x=cd B E y->∀e,e<E->x e=y e
 | 0,_,_,_,_,_,e,he=>by omega
 |
  E+1,x,y,hx,hy,h,e,he=>by
  have h1:=hx 0 (by omega);have h2:=hy 0 (by omega);simp only[cd]at h;have e0:x 0=y 0:=by
   have:=congrArg (· % B) h;simp only[Kc]at this;rwa[Xx h1,Xx h2]at this
  have e1:cd B E (λe=>x (e+1))=cd B E (λe=>y (e+1)):=Nat.eq_of_mul_eq_mul_left (by omega:0<B) (by omega);cases e with
  |zero=>exact e0
  |succ e=>exact Qhk E (λe he=>hx (e+1) (by omega)) (λe he=>hy (e+1) (by omega)) e1 e (by omega)
def sm:Nat->(Nat->Int)->Int
 | 0,_=>0
 |n+1,f=>sm n f+f n
theorem Qly(f g:Nat->Int):∀n,sm n (λi=>f i-g i)=sm n f-sm n g
 | 0=>rfl
 |n+1=>by simp only[sm,Qly f g n];omega
theorem Lu{f g:Nat->Int}:∀n,(∀i,i<n->f i=g i)->sm n f=sm n g
 | 0,_=>rfl
 |n+1,h=>by simp only[sm,Lu n (λi hi=>h i (by omega)),h n (by omega)]
theorem Qlx{f:Nat->Int}{b:Nat}:∀n,(∀i,i<n->(f i).natAbs<=b)->(sm n f).natAbs<=n*b
 | 0,_=>by simp[sm]
 |
  n+1,h=>by
  have h1:=Qlx n λi hi=>h i (by omega)
  have h2:=h n (by omega);simp only[sm];rw[Xc];omega
theorem VW{f:Nat->Int}:∀n,(∀i,i<n->f i=0)->sm n f=0
 | 0,_=>rfl
 |n+1,h=>by simp only[sm,VW n (λi hi=>h i (by omega)),h n (by omega)];rfl
theorem dA(f:Nat->Int)(m:Nat):∀n,sm (m+n) f=sm m f+sm n λi=>f (m+i)
 | 0=>by simp[sm]
 |n+1=>by rw[<-Yq];simp only[sm,dA f m n];omega
theorem dI(f:Nat->Int)(J:Nat):∀b,sm (b*J) f=sm b λi=>sm J λj=>f (i*J+j)
 | 0=>by simp[sm]
 |b+1=>by rw[Xc,dA,dI f J b];rfl
theorem AP{f:Nat->Int}{k:Nat}:∀n,k<n->(∀i,i<n->i≠k->f i=0)->sm n f=f k
 | 0,h,_=>by omega
 |
  n+1,h,h1=>by
  simp only[sm];rcases Vm (Nat.le_of_lt_succ h)with e|e
  ·rw[AP n e λi hi=>h1 i (by omega),h1 n (by omega) (by omega)];omega
  ·subst e;rw[VW k λi hi=>h1 i (by omega) (by omega)];omega
theorem Qxf{M:Nat->Nat->Int}{h N E H:Nat}(hM:∀e i,(M e i).natAbs<=h)(hc:(2*(N*(h*H))+1)^E<(H+1)^N) :
 ∃v:Nat->Int,(∀i,(v i).natAbs<=H)/\(∃i,i<N/\v i≠0)/\∀e,e<E->sm N (λi=>M e i*v i)=0:=by
 obtain⟨T,hT⟩:=nmE (N*(h*H));rw[<-hT]at hc;have hv:∀k i,dg (H+1) k i<=H:=λk i=>Nat.le_of_lt_succ (Z5 _ (by omega))
 have hs:∀k e,(sm N λi=>M e i*(dg (H+1) k i:Int)).natAbs<=T:=λk e=>by
  rw[hT];refine Qlx N λi _=>?_
  rw[Ya,Xj];exact Q8 (hM e i) (hv k i)
 have him:∀k e,((sm N λi=>M e i*(dg (H+1) k i:Int))+T).toNat<2*T+1:=λk e=>by have:=hs k e;omega
 obtain⟨i,j,h1,h2,h3⟩:=Qkr ((2*T+1)^E) (λk=>cd (2*T+1) E λe=>((sm N λi=>M e i*(dg (H+1) k i:Int))+T).toNat) λk _=>Qsw E λe _=>him k e
 have h4:=Qhk E (λe _=>him i e) (λe _=>him j e) h3;refine⟨λn=>(dg (H+1) i n:Int)-dg (H+1) j n,λn=>?_,?_,λe he=>?_⟩
 ·have a1:=hv i n;have a2:=hv j n;show((dg (H+1) i n:Int)-dg (H+1) j n).natAbs<=H;omega
 ·rcases Classical.em (∃n,n<N/\(dg (H+1) i n:Int)-dg (H+1) j n≠0)with e|e
  ·exact e
  ·exfalso;have:i=j:=Qh1 (B:=H+1) N (by omega) (by omega) λn hn=>by
    rcases Classical.em (dg (H+1) i n=dg (H+1) j n)with e'|e'
    ·exact e'
    ·exact absurd ⟨n,hn,by omega⟩ e
   omega
 ·have a1:=h4 e he;have a2:=hs i e;have a3:=hs j e;have:(sm N λn=>M e n*(dg (H+1) i n:Int))=sm N λn=>M e n*(dg (H+1) j n:Int):=by omega
  have e1:=Qly (λn=>M e n*(dg (H+1) i n:Int)) (λn=>M e n*(dg (H+1) j n:Int)) N;rw[this]at e1;rw[Lu N (g:=λn=>M e n*(dg (H+1) i n:Int)-M e n*(dg (H+1) j n:Int)) λn _=>Int.mul_sub _ _ _,e1];omega
def Fa:Uq->Rat->Rat
 | [],_=>0
 |a::p,t=>(a:Rat)+t*Fa p t
def sq:Nat->(Nat->Rat)->Rat
 | 0,_=>0
 |n+1,f=>sq n f+f n
theorem Pz{f g:Nat->Rat}:∀n,(∀i,i<n->f i=g i)->sq n f=sq n g
 | 0,_=>rfl
 |n+1,h=>by simp only[sq,Pz n (λi hi=>h i (by omega)),h n (by omega)]
theorem lW(f g:Nat->Rat):∀n,sq n (λi=>f i+g i)=sq n f+sq n g
 | 0=>by simp only[sq];grind
 |n+1=>by simp only[sq,lW f g n];grind
theorem JD(c:Rat)(f:Nat->Rat):∀n,sq n (λi=>c*f i)=c*sq n f
 | 0=>by simp only[sq];grind
 |n+1=>by simp only[sq,JD c f n];grind
theorem Cz{f:Nat->Rat}:∀n,(∀i,i<n->f i=0)->sq n f=0
 | 0,_=>rfl
 |n+1,h=>by simp only[sq,Cz n (λi hi=>h i (by omega)),h n (by omega)];grind
theorem O9(f:Nat->Rat):∀n,sq (n+1) f=f 0+sq n λi=>f (i+1)
 | 0=>by simp only[sq];grind
 |n+1=>by rw[sq,O9 f n];simp only[sq];grind
theorem Qto{f:Nat->Rat}{b:Rat}:∀n,(∀i,i<n->Fl (f i)<=b)->Fl (sq n f)<=(n:Rat)*b
 | 0,_=>by rw[show((0:Nat):Rat)=0 from rfl];simp only[sq,Rm];grind
 |
  n+1,h=>by
  have h1:=Qto n λi hi=>h i (by omega)
  have h2:=h n (by omega);have h3:=Sv (sq n f) (f n);have hn':(((n+1:Nat):Rat))=(n:Rat)+1:=by push_cast;rfl
  rw[hn'];simp only[sq];clear h;grind
def gc:Uq->Nat->Nat->Int
 | [],_,_=>0
 |c::B,k,j=>(if k=0/\j=0 then c else 0)+(if k=0 then 0 else gc B (k-1) j)-(if j=0 then 0 else gc B k (j-1))
def gB:Uq->Nat
 | []=>0
 |c::B=>max c.natAbs (2*gB B)
theorem NW:∀(B:Uq) (k j:Nat),B.length<=k+j->gc B k j=0
 | [],_,_,_=>rfl
 |
  c::B,k,j,h=>by
  simp only[Q3]at h;simp only[gc];rw[if_neg (by omega)];have e1:(if k=0 then 0 else gc B (k-1) j)=0:=by
   split
   ·rfl
   ·exact NW B _ _ (by omega)
  have e2:(if j=0 then 0 else gc B k (j-1))=0:=by
   split
   ·rfl
   ·exact NW B _ _ (by omega)
  rw[e1,e2];rfl
theorem Qiv:∀(B:Uq) (k j:Nat),(gc B k j).natAbs<=gB B
 | [],_,_=>Qh _
 |
  c::B,k,j=>by
  have h1:=Qiv B (k-1) j;have h2:=Qiv B k (j-1);simp only[gc,gB];by_cases hk:k=0 <;> by_cases hj:j=0 <;> simp only[hk,hj,true_and,and_true,false_and,and_false,if_true,if_false] <;> (try subst hk) <;> (try subst hj) <;> omega
theorem Qiw:∀(B:Uq) (b:Nat),B.length=b+1->(gc B 0 b).natAbs=(B.getD b 0).natAbs
 | [],_,h=>by simp at h
 | [c],0,_=>by simp[gc]
 |c::d::B,0,h=>by simp at h
 |
  c::B,b+1,h=>by
  have ih:=Qiw B b (by simpa using h);simp only[gc];simp only[Yc,Q5];rw[if_pos trivial,if_neg (Nat.succ_ne_zero b),<-ih];omega
def E2(F:Nat->Nat->Int)(K J:Nat)(x y:Rat):Rat:=sq K λk=>sq J λj=>(F k j:Rat)*(y^k*x^j)
theorem nD(F G:Nat->Nat->Int)(K J:Nat)(x y:Rat):E2 (λk j=>F k j+G k j) K J x y=E2 F K J x y+E2 G K J x y:=by
 unfold E2;rw[<-lW];refine Pz K λk _=>?_
 rw[<-lW];exact Pz J λj _=>by push_cast;grind
theorem Qh9(c:Int)(F:Nat->Nat->Int)(K J:Nat)(x y:Rat):E2 (λk j=>F k j*c) K J x y=(c:Rat)*E2 F K J x y:=by
 unfold E2;rw[<-JD];refine Pz K λk _=>?_
 rw[<-JD];exact Pz J λj _=>by push_cast;grind
theorem Qia(φ:Nat->Nat->Nat->Int)(v:Nat->Int)(K J:Nat)(x y:Rat):∀N,E2 (λk j=>sm N λn=>φ n k j*v n) K J x y=sq N λn=>(v n:Rat)*E2 (φ n) K J x y
 |
  0=>by
  simp only[sq,sm];unfold E2;refine Cz K λk _=>Cz J λj _=>?_
  rw[show((0:Int):Rat)=0 from rfl];grind
 |
  N+1=>by
  simp only[sq];rw[<-Qia φ v K J x y N,<-Qh9,<-nD];rfl
theorem GB(t:Rat)(i:Nat):∀k,t^(i+k)=t^i*t^k
 | 0=>by rw[Xp,Xi];grind
 |k+1=>by rw[<-Yq,Xa,Xa,GB t i k];grind
theorem AD(f:Nat->Rat):∀(i n:Nat),sq (i+n) (λk=>if i<=k then f (k-i)else 0)=sq n f
 |i,0=>Cz _ λk hk=>by rw[if_neg (by omega)]
 |
  i,n+1=>by
  rw[<-Yq];simp only[sq];rw[AD f i n,if_pos (by omega),Jm]
def MH(i j':Nat)(F:Nat->Nat->Int)(k j:Nat):Int:=if i<=k then(if j'<=j then F (k-i) (j-j')else 0)else 0
theorem DD(F:Nat->Nat->Int)(i j' K J:Nat)(x y:Rat):E2 (MH i j' F) (i+K) (j'+J) x y=y^i*x^j'*E2 F K J x y:=by
 unfold E2;rw[<-JD,<-AD _ i K];refine Pz _ λk _=>?_
 by_cases hk:i<=k
 ·rw[if_pos hk,<-JD,<-AD _ j' J];refine Pz _ λj _=>?_
  unfold MH;rw[if_pos hk];by_cases hj:j'<=j
  ·rw[if_pos hj,if_pos hj];have e1:y^k=y^i*y^(k-i):=by rw[<-GB];congr 1;omega
   have e2:x^j=x^j'*x^(j-j'):=by rw[<-GB];congr 1;omega
   rw[e1,e2];grind
  ·rw[if_neg hj,if_neg hj,show((0:Int):Rat)=0 from rfl];grind
 ·rw[if_neg hk];refine Cz _ λj _=>?_
  unfold MH;rw[if_neg hk,show((0:Int):Rat)=0 from rfl];grind
def fA(A:Uq)(k j:Nat):Int:=if j=0 then A.getD k 0 else 0
theorem Qkq(y:Rat):∀(A:Uq) (K:Nat),A.length<=K->sq K (λk=>((A.getD k 0:Int):Rat)*y^k)=Fa A y
 | [],K,_=>by rw[Cz];rfl;intro i _;simp
 |a::A,0,h=>by simp at h
 |
  a::A,K+1,h=>by
  have ih:=Qkq y A K (by simpa using h);rw[O9];simp only[Fa,Zu,Q5,Xi];rw[<-ih,<-JD];have:(sq K λi=>((A.getD i 0:Int):Rat)*y^(i+1))=sq K λi=>y*(((A.getD i 0:Int):Rat)*y^i):=Pz K λi _=>by rw[Xa];grind
  rw[this];grind
theorem Qzg(A:Uq)(K J:Nat)(x y:Rat)(h:A.length<=K):E2 (fA A) K (J+1) x y=Fa A y:=by
 rw[<-Qkq y A K h];refine Pz K λk _=>?_
 rw[O9,Cz]
 ·simp only[fA,if_true,Xi];grind
 ·intro j _;simp only[fA];rw[if_neg (by omega),show((0:Int):Rat)=0 from rfl];grind
theorem Qvn(x y:Rat):∀(B:Uq) (K J:Nat),B.length<=K->B.length<=J->E2 (gc B) K J x y=Fa B (y-x)
 |
  [],K,J,_,_=>by
  unfold E2;simp only[gc,Fa];exact Cz K λk _=>Cz J λj _=>by rw[show((0:Int):Rat)=0 from rfl];grind
 |c::B,0,J,h,_=>by simp at h
 |c::B,K+1,0,_,h=>by simp at h
 |
  c::B,K+1,J+1,h1,h2=>by
  have i1:=Qvn x y B K (J+1) (by simpa using h1) (by simp at h2;omega);have i2:=Qvn x y B (K+1) J (by simp at h1;omega) (by simpa using h2);have s1:=DD (gc B) 1 0 K (J+1) x y;have s2:=DD (gc B) 0 1 (K+1) J x y;rw[Zy,Jv 1 K]at s1;rw[Zy,Jv 1 J]at s2;rw[i1]at s1;rw[i2]at s2;have e0:E2 (fA [c]) (K+1) (J+1) x y=(c:Rat):=by rw[Qzg [c] (K+1) J x y (by simp)];simp only[Fa];grind
  have e1:gc (c::B)=λk j=>(fA [c] k j+MH 1 0 (gc B) k j)+MH 0 1 (gc B) k j*(-1):=by
   funext k j;simp only[gc,fA,MH];by_cases hk:k=0 <;> by_cases hj:j=0
   ·subst hk;subst hj;simp
   ·subst hk;simp[hj,show 1<=j by omega]
    try omega
   ·subst hj;obtain⟨m,rfl⟩:∃m,k=m+1:=⟨k-1,by omega⟩;simp
   ·obtain⟨m,rfl⟩:∃m,k=m+1:=⟨k-1,by omega⟩;obtain⟨i,rfl⟩:∃i,j=i+1:=⟨j-1,by omega⟩;simp;omega
  rw[e1,nD (λk j=>fA [c] k j+MH 1 0 (gc B) k j) (λk j=>MH 0 1 (gc B) k j*(-1)),nD (fA [c]) (MH 1 0 (gc B)),Qh9,e0,s1,s2];simp only[Fa,Xi,show y^1=y by rw[Xa,Xi];grind,show x^1=x by rw[Xa,Xi];grind];rw[show(((-1:Int)):Rat)=-1 from rfl];grind
end Orq
