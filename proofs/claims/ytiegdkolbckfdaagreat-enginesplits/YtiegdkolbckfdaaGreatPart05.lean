/- C2 D1 E1 AlgL F1 F2 F3 F4 F5 T1 T2 T3 T4 T5 T6 T7 T8 T9 -/
import Derived.Test.YtiegdkolbckfdaaGreatPart04
import Derived.Test.YtiegdkolbckfdaaGreatPart00
set_option linter.all false
namespace Orr
open Go Go.Proofs Tryz
set_option maxRecDepth 10000
theorem Ry {l:List Pt} {i:Nat} {p:Pt} (h:l[i]? = some p):(l.map Fa)[i]? = some [pl p.c.x,pl p.c.y,sg p.c.d,mg p.c.d,.int .i64 p.id]:=Gt h
theorem JQ (l:List Pt):∀ c∈l.map Fa,c.length=5:=Qq6 l λ_=>rfl
theorem Qmj {lx ly:Up} {px py:Uj} {x y:LV} {d:Int} (hx:IsInts lx px) (hy:IsInts ly py) (hd:Gv x y d) (hk:Cs 4294967294 1073741824 (Crv.mk px py d)) (id:Int):Ug 182 [.agg [.row lx,.row ly,x,y,.int .i64 id]] [.agg (Fa ⟨Crv.norm (Crv.mk px py d),id⟩)]:=by
 have cd:=Bz hd (Qc hk.d (by omega));by_cases h0:d=0
 ·subst h0;have ck:Cs 4294967294 1073741824 (Crv.mk px py 1):=⟨hk.x,hk.y,show Fe 1<=4294967294 by decide,hk.lx,hk.ly⟩;have cm:=WL hx hy (U3 1) ck (by decide);have e:Crv.norm (Crv.mk px py 1)=Crv.norm (Crv.mk px py 0):=by simp only [Crv.norm,Crv.g,Crv.d']; rfl
  rw [e] at cm;obtain ⟨b,l,rfl,rfl,_⟩:=hd;exact Ud func182 rfl [.k cd,.k Li,.t (by simp),.k (zC (z:=1) (by decide)),.k cm] rfl
 ·have cm:=WL hx hy hd hk h0;obtain ⟨b,l,rfl,rfl,_⟩:=hd;exact Ud func182 rfl [.k cd,.k Li,.f (by simpa using h0),.k cm] rfl
theorem Qwp {l:List Pt} (id:Int) (hl:l.length<1073741824):Ug 181 [.agg [pts l],.oi id] [.oi (Im l id:Int),.one (.bool (has l id))]:=by
 refine Fw func181 rfl ?_;refine Ua [] rfl ?_;refine ct 2 (S:=Unit) (λ_=>[(1,.v (.oi id)),(2,.v (.one (.ow 0 0))),(6,.v (.oi (Im l id:Int)))]) (λ_=>[.blk 182 [pts l]]) (λ_=>True) rfl ?_ ?_
 ·refine Uf (S:=Nat) 1 (λL1 k=>(6,.v (.oi k))::L1) (λ_=>[.blk 182 [pts l]]) (λk=>l.length-k) (λk=>k<=l.length/\∀ j p,j<k->l[j]? = some p->p.id<id) 0 ⟨Qh _,λj p h=>by omega⟩ rfl rfl λk ⟨hk,hlt⟩=>?_
  by_cases h:k<l.length
  ·obtain ⟨p,hp⟩:=gxE (l:=l) (i:=k) h;by_cases hid:p.id<id
   ·refine Ub [.t (by simp; omega),.x (Ry hp),.t (by simpa using hid)] rfl ?_;exact rd (k+1) (by omega) ⟨h,λj q hj hq=>by
     rcases Za j k with h2 | h2
     ·exact hlt j q h2 hq
     ·have:j=k:=by omega
      subst this; rw [hp] at hq; injection hq with hq; rw [<-hq]; exact hid⟩ rfl
   ·have e:=LH hlt (.inr ⟨p,hp,hid⟩);refine Ua [.t (by simp; omega),.x (Ry hp),.f (by simpa using hid)] rfl ?_;rw [e];exact rc () trivial rfl
  ·obtain rfl:k=l.length:=by omega
   have e:=LH hlt (.inl rfl);refine Ua [.f (by simp),.f rfl] rfl ?_;rw [e];exact rc () trivial rfl
 ·intro _ _;by_cases h:Im l id<l.length
  ·obtain ⟨p,hp⟩:=gxE (l:=l) (i:=Im l id) h;have e:has l id=decide (p.id=id):=by simp [has,hp]
   rw [e];exact Uc [.g 30 true (by simp; omega),.x (Ry hp)] rfl
  ·have e:has l id=false:=by simp [has,Qw (J4 h)]
   rw [e];exact Uc [.g 30 false (by simp; omega)] rfl
theorem If {l:List Pt}:Ug 160 [.agg [pts l]] [.one (pts l)]:=Ud func160 rfl [] rfl
theorem kV {lx ly:Up} {px py:Uj} {x y:LV} {d id:Int} {l:List Pt} (hx:IsInts lx px) (hy:IsInts ly py) (hd:Gv x y d) (hk:Cs 4294967294 1073741824 (Crv.mk px py d)) (hl:l.length<=1000000) :
 Ug 156 [.agg [pts l],.agg [.row lx,.row ly,x,y,.int .i64 id]] [.agg [pts (if KA l (Pt.mk (Crv.norm (Crv.mk px py d)) id)=0 then put l (Pt.mk (Crv.norm (Crv.mk px py d)) id) else l)],.oi (KA l (Pt.mk (Crv.norm (Crv.mk px py d)) id))]:=by
 have ca:=Qwp (l:=l) id (by omega);have cf:=Qmj hx hy hd hk id;obtain ⟨b,r,rfl,rfl,_⟩:=hd;obtain ⟨q,hq⟩:=nmE (Pt.mk (Crv.norm (Crv.mk px py d)) id);have hqi:q.id=id:=by rw [hq]
 rw [<-hq] at cf ⊢;have hpl:=nW l id;by_cases h1:has l id=true
 ·have e:KA l q=6:=by simp [KA,hqi,h1]
  rw [e,if_neg (by decide)];exact Ud func156 rfl [.k ca,.t h1] rfl
 by_cases h2:6<=l.length
 ·have e:KA l q=9:=by simp [KA,hqi,h1,h2]
  rw [e,if_neg (by decide)];exact Ud func156 rfl [.k ca,.f (by simpa using h1),.t (by simp; omega)] rfl
 have e:KA l q=0:=by simp [KA,hqi,h1,h2]
 rw [e,if_pos rfl];have s1:∀ c∈(l.map Fa).take (Im l id),c.length=5:=λc hc=>JQ l c (Qo hc)
 have s3:∀ c∈(l.map Fa).drop (Im l id),c.length=5:=λc hc=>JQ l c (Q3 hc)
 refine Ud func156 rfl [.k ca,.f (by simpa using h1),.f (by simp; omega),.i (Im l id),.s s1,.k cf,.i (Im l id),.s s3] rfl ?_ ?_
 ·simp [put,hqi,pts,Js,Vg,Fa]
 ·simp [Uz];exact ⟨by omega,hpl,λ_ _=>rfl,by omega,by omega,hpl⟩
theorem sD {l:List Pt} (hok:∀ p∈l,oY 4294967294 1073741824 p) (hl:l.length<1073741824):Ug 165 [.agg [pts l]] [.one (pts (Te l))]:=by
 refine Fw func165 rfl ?_;refine Ua [.o 3 40 5] rfl ?_;refine Uf (S:=Nat) 2 (λL1 i=>(12,.v (.oi i))::(3,.v (.one (.orow 1 5 none)))::L1) (λi=>[.blk 182 [pts l],.row false 40 5 (((l.take i).foldl Bq []).map Fa)]) (λi=>l.length-i) (λi=>i<=l.length) 0 (Qh _) rfl rfl λi hi=>?_
 by_cases hlt:i<l.length
 ·obtain ⟨p,hp⟩:=gxE (l:=l) (i:=i) hlt;obtain ⟨hn,hk⟩:=hok p (Qa hp);have hws:=Tt Bq [] l hp;have hwl:=VC l i;have hwm:=VD l i;obtain ⟨o,ho⟩:=nmE ((l.take i).foldl Bq []);rw [<-ho] at hws hwl hwm ⊢;refine Ua [.t (by simp; omega),.x (Ry hp)] rfl ?_;refine Uf (S:=Nat) 3 (λL1 k=>(18,.v (.oi k))::(6,.v (.one (.bool ((o.take k).any λq=>Lt p.c q.c))))::L1) (λk=>[.blk 182 [pts l],.row false 40 5 (o.map Fa),.blk 40 (Fa p)]) (λk=>o.length-k) (λk=>k<=o.length) 0 (Qh _) rfl rfl λk hk2=>?_
  by_cases hk3:k<o.length
  ·obtain ⟨q,hq⟩:=gxE (l:=o) (i:=k) hk3;obtain ⟨hqn,hqk⟩:=hok q (hwm q (Qa hq));have hany:((o.take (k+1)).any λq=>Lt p.c q.c)=(((o.take k).any λq=>Lt p.c q.c) || Lt p.c q.c):=by rw [Y5,hq,List.any_append]; simp
   cases hb:(o.take k).any λq=>Lt p.c q.c with
   |
    true =>
    rw [hb] at hany;refine Ub [.t (by simp; omega),.i k,.x (Ry hq),.t rfl,.r 29 (v:=.one (.bool ((o.take (k+1)).any λq=>Lt p.c q.c))) (by rw [hany]; rfl)] rfl ?_;exact rd (k+1) (by omega) hk3 rfl
   |
    false =>
    rw [hb] at hany;refine Ub [.t (by simp; omega),.i k,.x (Ry hq),.f rfl,.k (dK hn hqn hk hqk),.r 29 (v:=.one (.bool ((o.take (k+1)).any λq=>Lt p.c q.c))) (by rw [hany]; rfl)] rfl ?_;exact rd (k+1) (by omega) hk3 rfl
  ·obtain rfl:k=o.length:=by omega
   rw [Q5];cases hb:o.any λq=>Lt p.c q.c with
   |
    true =>
    have e:Bq o p=o:=by unfold Bq; rw [if_pos hb]
    exact go tt [.f (by simp),.f rfl] rfl (by simp [Uz]; omega) (rd (i+1) (by omega) hlt (by rw [hws,e]; rfl))
   |
    false =>
    have e:Bq o p=o++[p]:=by unfold Bq; rw [if_neg (by rw [hb]; decide)]
    exact go tt [.f (by simp),.t rfl] rfl (by simp [Uz]; omega) (rd (i+1) (by omega) hlt (by rw [hws,e,Yc]; rfl))
 ·obtain rfl:i=l.length:=by omega
  exact Uc [.f (by simp)] rfl (by rw [Q5]; rfl) trivial
theorem iN (q:Rat):U9 [-q.num,(q.den:Int)]:=by
 have:=q.den_nz;simp [U9,trim,this]
theorem Qv5 {s:Nat} {q:Rat} (h:Qs s q):Bd s [-q.num,(q.den:Int)]:=λz hz=>by
 simp at hz;rcases hz with rfl | rfl
 ·rw [Hw]; exact h.1
 ·exact h.2
theorem VF {x y x' y':LV} {n d:Int} (h1:Gv x y n) (h2:Gv x' y' d) (hn:Fe n<=4294967295) (hd:Fe d<=4294967295) (hq:Qs 4294967295 (Gw n d)):Ug 126 [.agg [x,y,x',y']] [.agg (qa (Gw n d))]:=by
 have c1:=BK h1 h2 hn hd;obtain ⟨b,l,rfl,rfl,_⟩:=h1;obtain ⟨b',l',rfl,rfl,_⟩:=h2;exact Ud func126 rfl [.k c1,.k (ND (U3 _) hq.1),.k (Nk hq)] rfl
theorem Dh {k:Crv} (hn:JP k) (hk:Cs 4294967294 1073741824 k):Ug 204 [.agg (cl k)] [.agg (cl k)]:=by
 have h0:k.d≠0:=by have:=hn.2.2.1; omega
 have cm:=WL (Gs k.x) (Gs k.y) (U3 k.d) hk h0;rw [show Crv.mk k.x k.y k.d=k from rfl,Crv.norm_of hn] at cm;exact Ud func204 rfl [.k (Bz (U3 k.d) (Qc hk.d (by omega))),.k Li,.f (by simpa using h0),.k cm] rfl
theorem WC {a b:Crv} (ha:JP a) (hb:JP b) (ca:Cb a) (cb:Cb b):Ug 196 [.agg (cl a),.agg (cl b)] [pr (Gg a b)]:=by
 have l1:=ca.lx;have l2:=cb.lx;have l3:=Fx b.x a.d;have l4:=Fx a.x b.d;exact Ud func196 rfl [.k (Dh ha (ca.mono (by omega) (by omega))),.k (Dh hb (cb.mono (by omega) (by omega))),.k (My (by omega) (U0 cb.x (by omega)) (Qc ca.d (by omega))),.k (My (by omega) (U0 ca.x (by omega)) (Qc cb.d (by omega))),.k (GE (by omega) (by omega) (U0 (Gd cb.x ca.d) (by omega)) (U0 (Gd ca.x cb.d) (by omega)))] rfl
theorem WM {a b:Crv} (ha:JP a) (hb:JP b) (ca:Cb a) (cb:Cb b):Ug 197 [.agg (cl a),.agg (cl b)] [pr (Gf a b)]:=by
 have l1:=ca.ly;have l2:=cb.ly;have l3:=Fx b.y a.d;have l4:=Fx a.y b.d;exact Ud func197 rfl [.k (Dh ha (ca.mono (by omega) (by omega))),.k (Dh hb (cb.mono (by omega) (by omega))),.k (My (by omega) (U0 cb.y (by omega)) (Qc ca.d (by omega))),.k (My (by omega) (U0 ca.y (by omega)) (Qc cb.d (by omega))),.k (GE (by omega) (by omega) (U0 (Gd cb.y ca.d) (by omega)) (U0 (Gd ca.y cb.d) (by omega)))] rfl
def S0 (ps:Uk):Up:=ps.map λp=>[pl p]
theorem Rj {ps:Uk} {i:Nat} {p:Uj} (h:ps[i]? = some p):(S0 ps)[i]? = some [pl p]:=Gt h
theorem kW {p q:Uj}:Ug 195 [pr p,pr q] [pr (Lj p q)]:=by
 by_cases h:0<p.length
 ·exact Ud func195 rfl [.t (by simp; omega)] rfl (by simp only [Lj]; rw [if_pos h]) trivial
 ·exact Ud func195 rfl [.f (by simp; exact Qj (by omega))] rfl (by simp only [Lj]; rw [if_neg h]) trivial
theorem Qak:Ug 194 [.oi 1] [.oi 2]:=Ud func194 rfl [.t rfl,.t rfl] rfl
theorem Qal:Ug 194 [.oi 2] [.oi 2]:=Ud func194 rfl [.f rfl,.t rfl] rfl
theorem Qam:Ug 194 [.oi 3] [.oi 3]:=Ud func194 rfl [.f rfl,.f rfl,.t rfl] rfl
theorem Qan:Ug 194 [.oi 4] [.oi 4]:=Ud func194 rfl [.f rfl,.f rfl,.f rfl,.t rfl,.t rfl] rfl
theorem Qao:Ug 194 [.oi 5] [.oi 4]:=Ud func194 rfl [.f rfl,.f rfl,.f rfl,.f rfl,.t rfl] rfl
theorem Qdp {k i0 i1 i2 i3 l j0 j1 j2 j3:Int}:Ug 229 [.agg [.int .i64 k,.int .i64 i0,.int .i64 i1,.int .i64 i2,.int .i64 i3],.agg [.int .i64 l,.int .i64 j0,.int .i64 j1,.int .i64 j2,.int .i64 j3]] [.one (.bool (Cx [k,i0,i1,i2,i3] [l,j0,j1,j2,j3]))]:=by
 by_cases hk:k=l
 ·subst hk;rw [show Cx [k,i0,i1,i2,i3] [k,j0,j1,j2,j3]=Cx [i0,i1,i2,i3] [j0,j1,j2,j3] from by simp [Cx]];refine Fw func229 rfl ?_;refine Ua [.f (by simp)] rfl ?_;refine Uf (S:=Nat) 2 (λL1 i=>(19,.v (.oi i))::L1) (λ_=>[.blk 118 [.int .i64 k,.int .i64 i0,.int .i64 i1,.int .i64 i2,.int .i64 i3],.blk 118 [.int .i64 k,.int .i64 j0,.int .i64 j1,.int .i64 j2,.int .i64 j3]]) (λi=>4-i) (λi=>i<=4/\Cx ([i0,i1,i2,i3].drop i) ([j0,j1,j2,j3].drop i)=Cx [i0,i1,i2,i3] [j0,j1,j2,j3]) 0 ⟨by omega,rfl⟩ rfl rfl λi ⟨hi,he⟩=>?_
  rw [<-he];rcases (show i=0\/i=1\/i=2\/i=3\/i=4 by omega) with rfl | rfl | rfl | rfl | rfl
  ·by_cases h:i0=j0
   ·exact go tt [.t rfl,.i 0,.i 0,.f (by simpa using h)] rfl (by simp [Uz]) (rd 1 (by omega) ⟨by omega,by simp [Cx,h]⟩ rfl)
   ·exact Uc [.t rfl,.i 0,.i 0,.t (by simpa using h),.i 0] rfl (by simp [Cx,h]) trivial
  ·by_cases h:i1=j1
   ·exact go tt [.t rfl,.i 1,.i 1,.f (by simpa using h)] rfl (by simp [Uz]) (rd 2 (by omega) ⟨by omega,by simp [Cx,h]⟩ rfl)
   ·exact Uc [.t rfl,.i 1,.i 1,.t (by simpa using h),.i 1] rfl (by simp [Cx,h]) trivial
  ·by_cases h:i2=j2
   ·exact go tt [.t rfl,.i 2,.i 2,.f (by simpa using h)] rfl (by simp [Uz]) (rd 3 (by omega) ⟨by omega,by simp [Cx,h]⟩ rfl)
   ·exact Uc [.t rfl,.i 2,.i 2,.t (by simpa using h),.i 2] rfl (by simp [Cx,h]) trivial
  ·by_cases h:i3=j3
   ·exact go tt [.t rfl,.i 3,.i 3,.f (by simpa using h)] rfl (by simp [Uz]) (rd 4 (by omega) ⟨by omega,by simp [Cx,h]⟩ rfl)
   ·exact Uc [.t rfl,.i 3,.i 3,.t (by simpa using h),.i 3] rfl (by simp [Cx,h]) trivial
  ·exact Uc [.f rfl] rfl (by simp [Cx]) trivial
 ·exact Ud func229 rfl [.t (by simpa using hk)] rfl (by simp [Cx,hk]) trivial
abbrev zCt:Uo:=[.int .i64 0,.int .i64 0,.int .i64 0,.int .i64 0,.int .i64 0,.nils,.int .i64 0]
def U6 (l:List Ct):Up:=l.map Da
theorem ZN {l:List Ct} {i:Nat} {c:Ct} (h:l[i]? = some c):(U6 l)[i]? = some (Da c):=Gt h
theorem Pa (l:List Ct):(U6 l).length=l.length:=by simp [U6]
theorem Ix (l:List Ct):∀ c∈U6 l,c.length=7:=λc hc=>by
 obtain ⟨x,_,rfl⟩:=Q9.1 hc; rfl
theorem Qgz {O:List Ct} {z:Uo} {c:Ct} {k m:Nat} {l2:Up} (hk:k<=O.length) (hp:XA O c O.length=k) (hm:m=O.length-k) (h2:l2.take m=((U6 O++[z]).drop k).take m) :
 ((U6 O++[z]).take (k+1)++(l2.take m++(U6 O++[z]).drop (k+1+m))).set k (Da c)=U6 (KF O c):=by
 rw [h2,<-Zb,uP (U6 O) z (Da c) (by rw [Pa]; omega) (by rw [Pa]; omega)];simp [KF,hp,U6,Js,Vg]
theorem GA {l:List Ct} (hl:∀ c∈l,Pb c.p) (hn:l.length≤1000000):Ug 183 [.one (.row (U6 l))] [.one (.row (U6 (Fp l)))]:=by
 have hcl:=Pa l;refine Fw func183 rfl ?_;refine Ua [.o 3 120 7] rfl ?_;refine Uf (S:=Nat) 1 (λL1 i=>(9,.v (.oi i))::(3,.v (.one (.orow 0 7 none)))::L1) (λi=>[.row false 120 7 (U6 (Fp (l.take i)))]) (λi=>l.length-i) (λi=>i<=l.length) 0 (Qh _) rfl rfl λi hi=>?_
 by_cases hlt:i<l.length
 ·obtain ⟨c,hc⟩:=gxE (l:=l) (i:=i) hlt;have hst:=bR hc;have hcp:=hl c (Qa hc);obtain ⟨O,hO⟩:=nmE (Fp (l.take i));have hOl:O.length=i:=by rw [hO,Mn,Qt]; omega
  rw [<-hO] at hst ⊢;refine Ua [.t (by simp [hcl]; omega),.x (ZN hc)] rfl ?_;refine Uf (S:=Nat) 2 (λL1 k=>(6,.v (.oi k))::L1) (λk=>[.row false 120 7 (U6 O),.blk 120 (Da c)]) id (λk=>k<=O.length/\XA O c k=XA O c O.length) (U6 O).length ⟨by rw [Pa]; exact Ql _,by rw [Pa]⟩ rfl rfl λk ⟨hk,hp⟩=>?_
  have hz:∀ y∈[zCt],y.length=7:=λy hy=>by rw [Qk.1 hy]; rfl
  have h77:∀ y∈U6 O++[zCt],y.length=7:=λy hy=>by
   rcases Qq.1 hy with hy | hy
   ·exact Ix O y hy
   ·exact hz y hy
  cases k with
  |
   zero =>
   have hp:XA O c O.length=0:=by rw [<-hp]; rfl
   refine go tt [.g 17 false (by simp),.f rfl,.s (sz:=7) hz,.r 36 (eI (b:=((0+1:Nat):Int)) (by simp)),.i (0+1),.i (0),.s (sz:=7) (λy hy=>h77 y (Qo hy)),.i (O.length),.k (Hr hcp.t (by have:=hcp.l; omega) (U0 hcp.b (by omega))),.i (0)] rfl (by simp [Uz,Pa]; omega) ?_;exact rd (i+1) (by omega) hlt (by rw [hst,<-Qgz (z:=zCt) (l2:=(U6 O++[zCt]).take ((U6 O++[zCt]).length-0)) (k:=0) (m:=O.length) (by omega) hp (by omega) (by congr 1; exact Qn (by simp))]; rfl)
  |
   succ k =>
   obtain ⟨x,hx⟩:=gxE (l:=O) (i:=k) (by omega);by_cases hlc:uL c x=true
   ·refine go tt [.g 17 true (by simp),.r 22 (eI (b:=(k:Int)) (by simp)),.i k,.x (ZN hx),.k Qdp,.t hlc,.r 29 (eI (b:=(k:Int)) (by simp))] rfl (by simp [Uz,Pa]; omega) ?_;exact rd k (by simp) ⟨by omega,by rw [<-hp,Qoh hx hlc]⟩ rfl
   ·have hlc:uL c x=false:=by simpa using hlc
    have hp:XA O c O.length=k+1:=by rw [<-hp,Qif hx hlc]
    refine go tt [.g 17 true (by simp),.r 22 (eI (b:=(k:Int)) (by simp)),.i k,.x (ZN hx),.k Qdp,.f hlc,.s (sz:=7) hz,.r 36 (eI (b:=((k+1+1:Nat):Int)) (by simp)),.i (k+1+1),.i (k+1),.s (sz:=7) (λy hy=>h77 y (Q3 (Qo hy))),.i (O.length-(k+1)),.k (Hr hcp.t (by have:=hcp.l; omega) (U0 hcp.b (by omega))),.i (k+1)] rfl (by simp [Uz,Pa]; omega) ?_;exact rd (i+1) (by omega) hlt (by rw [hst,<-Qgz (z:=zCt) (l2:=((U6 O++[zCt]).drop (k+1)).take ((U6 O++[zCt]).length-(k+1))) (k:=k+1) (m:=O.length-(k+1)) (by omega) hp (by omega) (by congr 1; exact Qn (by simp))]; rfl)
 ·obtain rfl:i=l.length:=by omega
  rw [Q5];exact Uc [.f (by simp [hcl])] rfl
end Orr
namespace Orr
def Fl (p:Uj):Int:=p.getD (p.length-1) 0
def AO (p:Uj):Option Uj:=if p.length<=64/\(p.all λz=>Nat.ble (Fe z) 16777216)=true then some p else none
def chq (q:Rat):Option Rat:=if Fe q.num<=16777216/\Fe (q.den:Int)<=16777216 then some q else none
def S8 (p:Uj):Int:=(Rr p:Nat)
def Cy (p:Uj) (c:Int):Uj:=trim (p.map (· / c))
def Hk (p:Uj):Int:=if Fl p<0 then -S8 p else S8 p
def Fg (p:Uj):Uj:=if p.length=0 then [] else Cy p (Hk p)
def mono (i:Nat) (x:Int):Uj:=List.replicate i 0++[x]
def gC (b:Uj) (c:Int):Nat->Uj×Uj->Uj×Uj
 | 0,s=>s
 |
  i+1,(q,r) =>
  gC b c i (ZU (Ft q c) (mono i (if r.length=b.length+i then Fl r else 0)),Mx (Ft r c) (Gk (trim (mono i (if r.length=b.length+i then Fl r else 0))) b))
def Pz (a b:Uj):Uj:=(gC b (Fl b) (a.length+1-b.length) ([],a)).2
def Bj (a b r:Uj):Uj:=if (a.length+1-b.length) % 2=1/\Fl b<0 then Mk r else r
def VP (r:Uj):Uj:=if r.length=0 then [] else Cy r (S8 r)
def Ru (a b:Uj):Uj:=VP (Bj a b (Pz a b))
def yQ (b:Uj):Nat->Uj->Uj->Option Uj
 | 0,a,q=>if a.length=0 then some q else none
 | i+1,a,q=>if a.length<b.length+i then yQ b i a q else if Fl a % Fl b=0 then yQ b i (Mx a (Gk (trim (mono i (Fl a / Fl b))) b)) (q.set i (Fl a / Fl b)) else none
def XI (a b:Uj):Option Uj:=if b.length=0 then none else (yQ b (a.length+1-b.length) a (List.replicate (a.length+1-b.length) 0)).bind λq=>AO (trim q)
def TJ:Nat->Uj->Uj->Option Uj
 | 0,_,_=>none
 | k+1,a,b=>if b.length=0 then some a else (AO (Ru a b)).bind λr=>TJ k b r
def JZ (a b:Uj):Option Uj:=(TJ 66 (Fg a) (Fg b)).map Fg
def yX (a b:Uj):Option Uj:=(JZ [] a).bind λg=>JZ g b
def Pf (a:Uj):Option Uj:=if (Fg a).length<2 then some (Fg a) else (AO (Gu (Fg a))).bind λd=>(JZ (Fg a) d).bind λg=>XI (Fg a) g
def HE:Nat->Uj->Option Uk
 | 0,_=>none
 | k+1,g=>if g.length<2 then some [] else (AO (Gu g)).bind λd=>(JZ g d).bind λh=>(XI g h).bind λw=>(HE k h).bind λl=>some (w::l)
def EE:Uk->Option Uk
 | []=>some []
 | [w]=>some [w]
 | w::v::l=>(XI w v).bind λf=>(EE (v::l)).bind λr=>some (f::r)
def UO:Nat->Uj->Uk->Option Uj
 | _,p,[]=>some p
 | i,p,f::l=>if i % 2=0 then (AO (Gk p f)).bind λq=>UO (i+1) q l else UO (i+1) p l
def nV (a:Uj):Option Uj:=if (Fg a).length=0 then some [] else (HE 66 (Fg a)).bind λl=>(EE l).bind λfs=>UO 0 [1] fs
def tR:Nat->Uj->Uj->Option Uk
 | 0,_,_=>none
 | k+1,a,b=>if b.length=0 then some [] else (AO (Ru a b)).bind λr=>(tR k b (Mk r)).bind λl=>some (b::l)
def Ls (p:Uj):Option Uk:=(Pf p).bind λa=>if a.length=0 then none else (AO (Gu a)).bind λd=>(tR 66 a (Fg d)).bind λl=>some (a::l)
def Pj (sg:Uj->Int) (s:Nat×Int) (p:Uj):Nat×Int:=if sg p=0 then s else (if s.2=-(sg p) then s.1+1 else s.1,sg p)
def Cn (sg:Uj->Int) (l:Uk):Nat:=(l.foldl (Pj sg) (0,0)).1
def Co (l:Uk) (q:Rat):Nat:=Cn (λp=>H7 p q) l
def Tg (l:Uk) (lo hi:Rat):Int:=if Ha hi lo<0 then 0 else (Co l lo:Int)-(Co l hi:Int)
def UW (p:Uj):Int:=Int.sign (Fl p)
def ZK (p:Uj):Int:=if p.length % 2=0 then -Int.sign (Fl p) else Int.sign (Fl p)
def JJ (l:Uk):Int:=(Cn ZK l:Int)-(Cn UW l:Int)
def most:Uj->Nat:=λl=>l.foldl (λm z=>if m<z.natAbs then z.natAbs else m) 0
def Gq (p:Uj):Rat:=Rat.divInt (((Fl p).natAbs:Int)+(most (p.take (p.length-1)):Int)) ((Fl p).natAbs:Int)
def mid (a b:Rat):Rat:=Rat.divInt (a.num*(b.den:Int)+b.num*(a.den:Int)) ((a.den:Int)*(b.den:Int)*2)
def Am (p:Uj) (c:Uk):Nat->Rat->Rat->Int->Option (List Tm)
 | 0,_,_,_=>none
 | k+1,lo,hi,n=>if n=0 then some [] else if n=1 then some [⟨p,lo,hi⟩] else (chq (mid lo hi)).bind λm=>(Am p c k lo m (Tg c lo m)).bind λl=>(Am p c k m hi (n-Tg c lo m)).bind λr=>some (l++r)
def SR (p:Uj):Option (List Tm):=(Ls p).bind λc=>(Pf p).bind λq=>(chq (Gq q)).bind λb=>Am q c 100000 (-b) b (JJ c)
def Tm.point (a:Tm):Bool:=decide (0<=Ha a.lo a.hi)
def low (p:Uj) (q:Rat):Int:=if H7 p q≠0 then H7 p q else H7 (Gu p) q
def UR (p:Uj) (lo hi:Rat):Bool:=decide (H7 p hi=0\/H7 p hi≠low p lo)
def Fj (a:Tm) (t:Rat):Int :=
 if a.point=true then Ha a.lo t else if Ha t a.lo<=0 then 1 else if 0<Ha t a.hi then -1 else if H7 a.p t=0 then 0 else if H7 a.p t=low a.p a.lo then 1 else -1
def xA (a:Tm):Option Tm:=if a.point=true then some a else (chq (mid a.lo a.hi)).bind λm =>
 some (if Fj a m=0 then ⟨a.p,m,m⟩ else if Fj a m=-1 then ⟨a.p,a.lo,m⟩ else ⟨a.p,m,a.hi⟩)
def G6 (p:Uj):Nat:=p.foldl (λn z=>max n (Fe z)) 0
def Pv (a b:Tm):Nat:=64+2*(Fe a.lo.num+Fe a.hi.num+Fe b.lo.num+Fe b.hi.num)+4*(a.p.length+b.p.length)*(G6 a.p+G6 b.p+(a.p.length+b.p.length)+8)
def LA (a b:Rat):Rat:=Rat.divInt (a.num*(b.den:Int)-b.num*(a.den:Int)) ((a.den:Int)*(b.den:Int))
def Dt (a b:Tm):Bool:=decide (Ha a.hi b.lo<=0/\¬((a.point=true/\b.point=true)/\Ha a.hi b.lo=0))
def EC:Nat->Tm->Tm->Option (Tm×Tm×Int)
 | 0,a,b=>some (a,b,0)
 |
  k+1,a,b=>if Dt a b=true then some (a,b,-1) else if Dt b a=true then some (a,b,1) else
  if 0<=Ha (LA a.hi a.lo) (LA b.hi b.lo) then (xA a).bind λx=>EC k x b else (xA b).bind λx=>EC k a x
def WI (a b:Tm):Option Int:=if a.point=true then some (-Fj b a.lo) else if b.point=true then some (Fj a b.lo) else
 let lo:=if 0<Ha b.lo a.lo then b.lo else a.lo
 let hi:=if Ha b.hi a.hi<0 then b.hi else a.hi
 if Ha lo hi<0 then (yX a.p b.p).bind λg=>if 1<g.length/\UR g lo hi=true then some 0 else (EC (Pv a b) a b).bind λr=>some r.2.2
 else (EC (Pv a b) a b).bind λr=>some r.2.2
def sgF (c:Uk):Nat->Tm->Option Tm
 | 0,a=>some a
 | k+1,a=>if a.point=true\/Tg c a.lo a.hi=0 then some a else (xA a).bind λx=>sgF c k x
def FN (p:Uj) (a:Tm):Option Int:=if p.length=0 then some 0 else if a.point=true then some (H7 p a.lo) else
 (yX p a.p).bind λg=>if 1<g.length/\UR g a.lo a.hi=true then some 0 else (Ls p).bind λc=>(sgF c (64+2*(Fe a.lo.num+Fe a.hi.num)+4*(a.p.length+p.length)*(G6 a.p+G6 p+(a.p.length+p.length)+8)) a).bind λx=>some (H7 p x.hi)
def QH:Tm->List Tm->Option Tm
 | b,[]=>some b
 | b,a::l=>(WI a b).bind λc=>QH (if c<0 then a else b) l
def VT (a:Tm):List Tm->Option (Option Tm)
 | []=>some none
 | r::l=>(WI r a).bind λc=>if 0<c then some (some r) else VT a l
def WV (p:Uj):Option (List Tm):=(nV p).bind λq=>if q.length=0 then some [] else SR q
def SV (p:Uj) (a:Tm):Option (Option Tm):=(WV p).bind λl=>VT a l
end Orr
namespace Orr
open Go Go.Proofs Tryz
set_option maxRecDepth 10000
theorem Eb {p:Uj} (tp:U9 p) (h:p.length≠0):Fl p≠0:=H5 tp (by omega)
theorem DV {p:Uj} (h:p.length≠0):Fl p∈p:=Qa (Ra (by omega))
theorem M4 {s:Nat} {p:Uj} (h:Bd s p):Fe (Fl p)<=s:=Fo h _
theorem Ep {p:Uj}:∀ z∈p,S8 p∣z:=ZO
theorem XD {p:Uj} (tp:U9 p) (h:p.length≠0):S8 p≠0:=λh0=>Eb tp h (Int.zero_dvd.1 (h0 ▸ Ep _ (DV h)))
theorem YW {p:Uj} (h:Bd 4294967295 p):Fe (S8 p)<=4294967295:=MV h
theorem aM {p:Uj} (tp:U9 p) (h:p.length≠0):Hk p≠0:=by
 have:=XD tp h;unfold Hk; split <;> omega
theorem FY {p:Uj}:∀ z∈p,Hk p∣z:=λz hz=>by
 unfold Hk; split
 ·exact W9.2 (Ep z hz)
 ·exact Ep z hz
theorem Qg4 {p:Uj} (h:Bd 4294967295 p):Fe (Hk p)<=4294967295:=by
 unfold Hk; split
 ·rw [Hw]; exact YW h
 ·exact YW h
theorem NT {s:Nat} {p:Uj} (h:Bd s p) (c:Int):Bd s (Cy p c):=Sr (GM h c)
theorem OH (p:Uj) (c:Int):(Cy p c).length<=p.length:=Qc (Rq _) (by simp)
theorem QL (p:Uj) (c:Int):U9 (Cy p c):=Tj _
theorem Qh9 {p:Uj} (h:Pb p) (c:Int):Pb (Cy p c):=⟨QL _ _,Qc (OH _ _) h.l,NT h.b c⟩
theorem RU:Pb []:=⟨rfl,by simp,VL⟩
theorem Rp {p:Uj} (h:Pb p):Pb (Fg p):=by
 unfold Fg; split
 ·exact RU
 ·exact Qh9 h _
theorem Pb.bd {p:Uj} (h:Pb p):Bd 4294967295 p:=U0 h.b (by omega)
theorem Pb.ln {p:Uj} (h:Pb p):p.length<274877906944:=Z3 h.l (by omega)
theorem Pb.ln' {p:Uj} (h:Pb p):p.length<8589934592:=Z3 h.l (by omega)
theorem QX {p q:Uj} (tp:U9 p) (h:AO p=some q):q=p/\Pb p:=by
 unfold AO at h
 split at h
 ·rename_i hc;injection h with h;refine ⟨h.symm,tp,hc.1,λz hz=>?_⟩;have:=Jq.1 hc.2 z hz;exact Zd this
 ·cases h
theorem dU {p:Uj} {g:Int} (hl:p.length<274877906944) (hp:Bd 4294967295 p) (hg:Fe g≤4294967295) (h0:g≠0) (hd:∀ z∈p,g∣z):Ug 292 [pr p,.agg (Hh g)] [pr (Cy p g)]:=by
 refine Fw func292 rfl ?_;refine Ub [.r 9 (eI (b:=(p.length:Int)) (by simp)),.i p.length,.i p.length,.r 12 (eI (b:=(p.length:Int)) (by simp))] rfl ?_;rw [E8 λk=>Hh (p.getD k 0 / g)];refine Uf (S:=Nat) 2 (λL1 k=>(13,.v (.oi k))::L1) (λk=>[.blk 36 (Hh g),.row false 36 2 (EP (λk=>Hh (p.getD k 0 / g)) [.bool false,.nils] p.length k)]) (λk=>p.length-k) (λk=>k<=p.length) 0 (Qh _) rfl rfl λk hk=>?_
 by_cases hlt:k<p.length
 ·have hg2:=Ra hlt;refine go tt [.t (by simp; omega),.x (Pe hg2),.k (Ay (U3 _) (U3 _) (Fo hp k) hg h0 (Ym (hd _ (Qa hg2)))),.i k] rfl (by simp [Uz,A9]; omega) ?_;have e:=QU (λk=>Hh (p.getD k 0 / g)) [.bool false,.nils] hlt;rw [e];exact rd (k+1) (by omega) hlt rfl
 ·obtain rfl:k=p.length:=by omega
  have e:EP (λk=>Hh (p.getD k 0 / g)) [.bool false,.nils] p.length p.length=(p.map (· / g)).map Hh:=by
   rw [QW];refine Xj λi=>?_
   by_cases hi:i<p.length
   ·simp [Xx hi,List.getD,Qe hi]
   ·simp [Qw,hi]
  rw [e];exact Uc [.f (by simp),.k (L8 (Gs (p.map (· / g))) (by simp; exact hl) (GM hp g))] rfl
theorem GB {p:Uj} (hl:p.length<8589934592) (hp:Bd 4294967295 p):Ug 293 [.one (.row [[pl p]])] [.agg (Hh (S8 p))]:=by
 refine Fw func293 rfl ?_;refine Ua [.o 3 36 2] rfl ?_;refine Uf (S:=Nat) 2 (λL1 i=>(8,.v (.oi i))::(3,.v (.one (.orow 1 2 none)))::L1) (λi=>[.blk 36 [.bool false,.nils],.row false 36 2 (if i=0 then [] else p.map Hh)]) (λi=>1-i) (λi=>i<=1) 0 (Qh _) rfl rfl λi hi=>?_
 rcases (show i=0\/i=1 by omega) with rfl | rfl
 ·refine Ub [.t rfl,.x (i:=0) (xs:=[pl p]) rfl,.s (LY p)] rfl ?_;exact rd 1 (by omega) (by omega) rfl
 ·exact Uc [.f rfl,.k (Qdl (Gs p) hp)] rfl
theorem Qeu {p:Uj} (tp:U9 p) (hl':p.length<8589934592) (hp:Bd 4294967295 p):Ug 274 [pr p] [.agg (Hh (if p.length=0 then 0 else Hk p)),pr (Fg p)]:=by
 have hl:p.length<274877906944:=by omega
 have cn:=Hr tp hl hp;by_cases h0:p.length=0
 ·have e:p=[]:=Qj h0;subst e;exact Ud func274 rfl [.k cn,.t rfl] rfl (by simp [D6,Fg]; rfl) trivial
 ·have hpf:Fg p=Cy p (Hk p):=by unfold Fg; rw [if_neg h0]
  rw [if_neg h0,hpf];have co:=dU hl hp (Qg4 hp) (aM tp h0) FY;by_cases hneg:Fl p<0
  ·have e:Hk p=-S8 p:=by unfold Hk; rw [if_pos hneg]
   rw [e] at co ⊢;exact Ud func274 rfl [.k cn,.f (by simpa using h0),.k (GB hl' hp),.k (De tp hl hp),.t (by simpa [Fl] using hneg),.k (ND (U3 _) (YW hp)),.k co] rfl
  ·have e:Hk p=S8 p:=by unfold Hk; rw [if_neg hneg]
   rw [e] at co ⊢;exact Ud func274 rfl [.k cn,.f (by simpa using h0),.k (GB hl' hp),.k (De tp hl hp),.f (by simpa [Fl] using hneg),.k co] rfl
theorem Az {p:Uj} (hp:Pb p):Ug 266 [pr p] [pr (Fg p)] :=
 Ud func266 rfl [.k (Qeu hp.t hp.ln' hp.bd)] rfl
theorem Mq (p:Uj):Ug 142 [pr p] [.oi ((p.length:Int)-1)]:=by
 have h:Ug 142 [pr p] [.oi (((p.map Hh).length:Int)-1)]:=Fw func142 rfl (ln 0 rfl rfl λhl=>Uc [] rfl rfl (by simp [Uz] at hl ⊢; omega));rw [Q8] at h; exact h
theorem I6 (i:Nat) (x:Int):(mono i x).length=i+1:=by simp [mono]
theorem NH {s i:Nat} {x:Int} (h:Fe x<=s):Bd s (mono i x):=λz hz=>by
 simp only [mono,Qq,Qk] at hz;rcases hz with hz | rfl
 ·rw [(List.mem_replicate.1 hz).2,M5]; exact Qh _
 ·exact h
def stq (c:Int) (i:Nat) (x:Int) (q:Uj):Uj:=ZU (Ft q c) (mono i x)
def str (b:Uj) (c:Int) (i:Nat) (x:Int) (r:Uj):Uj:=Mx (Ft r c) (Gk (trim (mono i x)) b)
theorem Qry {u t i:Nat} {c x:Int} {q:Uj} (hq:Bd u q) (hc:Fe c<=t) (hx:Fe x<=u):Bd (u+t+8) (stq c i x q) :=
 U0 (WS (Gd hq hc) (NH hx)) (by omega)
theorem Qnq {c x:Int} {i:Nat} {q:Uj}:(stq c i x q).length<=max q.length (i+1):=by
 have h:=XF (Ft q c) (mono i x);have h1:=Fx q c;rw [I6] at h;unfold stq; omega
theorem jJ {i:Nat} {x:Int} {b:Uj}:(Gk (trim (mono i x)) b).length<=i+b.length:=by
 have h:=Sy (trim (mono i x)) b;have h1:=Rq (mono i x);rw [I6] at h1; omega
theorem cD {u t i:Nat} {x:Int} {b:Uj} (hb:Bd t b) (hx:Fe x<=u) (hi:i<=64):Bd (u+t+7) (Gk (trim (mono i x)) b) :=
 Mf (Sr (NH hx)) hb (Z3 (Rq _) (by rw [I6]; omega))
theorem sV {u t i:Nat} {c x:Int} {b r:Uj} (hr:Bd u r) (hb:Bd t b) (hc:Fe c<=t) (hx:Fe x<=u) (hi:i<=64):Bd (u+t+8) (str b c i x r) :=
 U0 (Dd (Gd hr hc) (cD hb hx hi)) (by omega)
theorem jY {c x:Int} {i:Nat} {b r:Uj}:(str b c i x r).length<=max r.length (i+b.length):=by
 have h:=M7 (Ft r c) (Gk (trim (mono i x)) b);have h1:=Fx r c;have h2:=jJ (i:=i) (x:=x) (b:=b);unfold str; omega
theorem fY (i:Nat) (x:Int):((List.replicate (i+1) (0:Int)).map Hh).set i (Hh x)=(mono i x).map Hh:=by
 rw [nY,mono];congr 1;refine Xj λj=>?_
 simp only [Yi,List.getElem?_append,Jv,Jb];by_cases h:j=i
 ·subst h; simp
 ·rw [if_neg (by omega)];by_cases h2:j<i
  ·simp [h2]; omega
  ·rw [if_neg (by omega),if_neg h2];cases hj:j-i with
   | zero=>omega
   | succ m=>simp
theorem aQ (i:Nat) {x:Int} {y:Uo} (h:y.map UL=Hh x):(((List.replicate (i+1) [LV.bool false,LV.nils]).set i y).map λc=>c.map UL)=(mono i x).map Hh:=by
 rw [Vs,MN,h]; exact fY i x
theorem XO {b:Uj} {c:Int} {i:Nat} {q r:Uj} {x:Int} (hx:x=if r.length=b.length+i then Fl r else 0):gC b c (i+1) (q,r)=gC b c i (stq c i x q,str b c i x r):=by
 subst hx; rfl
theorem Qdz {a b:Uj} (ha:Pb a) (hb:Pb b) (h0:b.length≠0):Ug 290 [pr a,pr b] [pr (gC b (Fl b) (a.length+1-b.length) ([],a)).1,pr (Pz a b),.oi ((a.length+1-b.length:Nat):Int),.oi 0]:=by
 have hal:=ha.l;have hbl:=hb.l;have hlb:Fe (Fl b)<=16777216:=M4 hb.b;obtain ⟨c,hc⟩:=nmE (Fl b);have cl:=De hb.t hb.ln hb.bd;rw [show b.getD (b.length-1) 0=c from hc.symm] at cl;obtain ⟨k,hk⟩:=nmE (a.length+1-b.length);unfold Pz;rw [<-hc,<-hk];rw [<-hc] at hlb;refine Fw func290 rfl ?_;refine Ub [.z 4,.k (Hr ha.t ha.ln ha.bd),.k (Hr hb.t hb.ln hb.bd),.f (by simpa using h0),.k cl,.k (Mq a),.k (Mq b),.r 27 (eI (b:=(k:Int)) (by omega))] rfl ?_;refine Uf (S:=Nat×Uj×Uj) 1 (λL1 s=>(4,.v (pr s.2.1))::(5,.v (pr s.2.2))::(9,.v (.oi ((s.1:Int)-1)))::L1) (λ_=>[.blk 36 (Hh c)]) (λs=>s.1) (λs=>s.1<=k/\U9 s.2.2/\s.2.1.length<=66/\s.2.2.length<=a.length/\Bd (16777216+(k-s.1)*16777224) s.2.1/\Bd (16777216+(k-s.1)*16777224) s.2.2/\gC b c s.1 s.2=gC b c k ([],a)) (k,[],a) ⟨Ql _,ha.t,by simp,Ql _,VL,by simpa using ha.b,rfl⟩ rfl rfl λ⟨i,q,r⟩ ⟨j1,j2,j3,j4,j5,j6,j7⟩=>?_
 dsimp only at j1 j2 j3 j4 j5 j6 j7 ⊢;rw [<-j7];cases i with
 | zero=>exact Uc [.f (by simp)] rfl
 |
  succ i =>
  obtain ⟨x,hx⟩:=nmE (if r.length=b.length+i then Fl r else 0);obtain ⟨u,hu⟩:=nmE (16777216+(k-(i+1))*16777224);rw [<-hu] at j5 j6;have hub:u<=1107296256:=by
   have:(k-(i+1))*16777224<=64*16777224:=Qz _ (by omega);omega
  have hxs:Fe x<=u:=by
   rw [hx]; split
   ·exact M4 j6
   ·rw [M5]; exact Qh _
  have cs:=My (p:=q) (c:=c) (by omega) (U0 j5 (by omega)) (by omega);have cs2:=My (p:=r) (c:=c) (by omega) (U0 j6 (by omega)) (by omega);have l1:=Fx q c;have l2:=Fx r c;have ca:=zD (p:=Ft q c) (q:=mono i x) (by omega) (by rw [I6]; omega) (U0 (Gd j5 hlb) (by omega)) (U0 (NH hxs) (by omega));have cm:=zL (p0:=mono i x) hb.t (by rw [I6]; omega) (by omega) (NH hxs) hb.b (by omega);have l3:=jJ (i:=i) (x:=x) (b:=b);have cb:=GE (p:=Ft r c) (q:=Gk (trim (mono i x)) b) (by omega) (by omega) (U0 (Gd j6 hlb) (by omega)) (U0 (cD hb.b hxs (by omega)) (by omega));have hst:=XO (b:=b) (c:=c) (q:=q) hx;have hI:i<=k/\U9 (str b c i x r)/\(stq c i x q).length<=66/\(str b c i x r).length<=a.length/\Bd (16777216+(k-i)*16777224) (stq c i x q)/\Bd (16777216+(k-i)*16777224) (str b c i x r):=by
   have l5:=Qnq (c:=c) (x:=x) (i:=i) (q:=q);have l6:=jY (c:=c) (x:=x) (i:=i) (b:=b) (r:=r);have hku:u+16777216+8=16777216+(k-i)*16777224:=by
    rw [hu,show k-i=(k-(i+1))+1 from by omega,Xz]; omega
   refine ⟨by omega,Fv _ _,by omega,by omega,?_,?_⟩
   ·rw [<-hku]; exact Qry j5 hlb hxs
   ·rw [<-hku]; exact sV j6 hb.b hlb hxs (by omega)
  rw [hst];by_cases h:r.length=b.length+i
  ·refine Ub [.t (by simp <;> omega),.k (Mq r),.k (Mq b),.t (by simp; omega),.k (De j2 (by omega) (U0 j6 (by omega))),.r 44 (eI (b:=((i+1:Nat):Int)) (by omega)),.i (i+1),.i (i+1),.r 47 (eI (b:=(i:Int)) (by omega)),.i i] rfl ?_;refine nl 2 rfl rfl rfl ?_;rw [aQ i (x:=x) (by rw [hx,if_pos h]; rfl)];refine Ub [.k cs,.k ca,.k cs2,.k cm,.k cb,.r 33 (eI (b:=(i:Int)-1) (by omega))] rfl ?_;exact rd (i,stq c i x q,str b c i x r) (by dsimp only; omega) ⟨hI.1,hI.2.1,hI.2.2.1,hI.2.2.2.1,hI.2.2.2.2.1,hI.2.2.2.2.2,rfl⟩ rfl
  ·refine Ub [.t (by simp <;> omega),.k (Mq r),.k (Mq b),.f (by simp; omega),.r 44 (eI (b:=((i+1:Nat):Int)) (by omega)),.i (i+1),.i (i+1),.r 47 (eI (b:=(i:Int)) (by omega)),.i i] rfl ?_;refine nl 2 rfl rfl rfl ?_;rw [aQ i (x:=x) (by rw [hx,if_neg h,D6]; rfl)];refine Ub [.k cs,.k ca,.k cs2,.k cm,.k cb,.r 33 (eI (b:=(i:Int)-1) (by omega))] rfl ?_;exact rd (i,stq c i x q,str b c i x r) (by dsimp only; omega) ⟨hI.1,hI.2.1,hI.2.2.1,hI.2.2.2.1,hI.2.2.2.2.1,hI.2.2.2.2.2,rfl⟩ rfl
theorem Qii {b:Uj} {c:Int} (hb:Bd 16777216 b) (hc:Fe c<=16777216) {n:Nat}:∀ (i u:Nat) (q r:Uj),i<=64->i+b.length<=n+1->U9 r->r.length<=n->Bd u r->U9 (gC b c i (q,r)).2/\(gC b c i (q,r)).2.length<=n/\Bd (u+i*16777224) (gC b c i (q,r)).2
 | 0,u,q,r,_,_,h1,h2,h3=>⟨h1,h2,by simpa [gC] using h3⟩
 |
  i+1,u,q,r,hi,hn,h1,h2,h3=>by
  rw [XO rfl];have hx:Fe (if r.length=b.length+i then Fl r else 0)<=u:=by
   split
   ·exact M4 h3
   ·rw [M5]; exact Qh _
  have l6:=jY (c:=c) (x:=if r.length=b.length+i then Fl r else 0) (i:=i) (b:=b) (r:=r);have:=Qii hb hc (n:=n) i (u+16777216+8) (stq c i (if r.length=b.length+i then Fl r else 0) q) (str b c i (if r.length=b.length+i then Fl r else 0) r) (by omega) (by omega) (Fv _ _) (by omega) (sV h3 hb hc hx (by omega));exact ⟨this.1,this.2.1,U0 this.2.2 (by omega)⟩
theorem aD {a b:Uj} (ha:Pb a) (hb:Pb b) (h0:b.length≠0):U9 (Pz a b)/\(Pz a b).length<=a.length/\Bd 1107296256 (Pz a b):=by
 have hal:=ha.l;by_cases h:b.length<=a.length+1
 ·obtain ⟨h1,h2,h3⟩:=Qii hb.b (M4 hb.b) (n:=a.length) (a.length+1-b.length) 16777216 [] a (by omega) (by omega) ha.t (Ql _) ha.b;refine ⟨h1,h2,U0 h3 ?_⟩;have:(a.length+1-b.length)*16777224<=64*16777224:=Qz _ (by omega);omega
 ·have e:Pz a b=a:=by unfold Pz; rw [show a.length+1-b.length=0 from by omega]; rfl
  rw [e];exact ⟨ha.t,Ql _,U0 ha.b (by omega)⟩
theorem FU {a b r:Uj} {s n:Nat} (h1:U9 r) (h2:r.length<=n) (h3:Bd s r):U9 (Bj a b r)/\(Bj a b r).length<=n/\Bd s (Bj a b r):=by
 unfold Bj; split
 ·exact ⟨Fv _ _,Qc (XG r) h2,PS h3⟩
 ·exact ⟨h1,h2,h3⟩
theorem LU {r:Uj} {s n:Nat} (h2:r.length<=n) (h3:Bd s r):U9 (VP r)/\(VP r).length<=n/\Bd s (VP r):=by
 unfold VP; split
 ·exact ⟨rfl,by simp,VL⟩
 ·exact ⟨QL _ _,Qc (OH _ _) h2,NT h3 _⟩
theorem FK {a b:Uj} (ha:Pb a) (hb:Pb b) (h0:b.length≠0):U9 (Ru a b)/\(Ru a b).length<=a.length/\Bd 1107296256 (Ru a b):=by
 obtain ⟨h1,h2,h3⟩:=aD ha hb h0;obtain ⟨h4,h5,h6⟩:=FU (a:=a) (b:=b) h1 h2 h3;exact LU h5 h6
theorem Qd2 {a b:Uj} (ha:Pb a) (hb:Pb b) (h0:b.length≠0):Ug 267 [pr a,pr b] [pr (Ru a b),.oi 0]:=by
 obtain ⟨h1,h2,h3⟩:=aD ha hb h0;obtain ⟨h4,h5,h6⟩:=FU (a:=a) (b:=b) h1 h2 h3;have hal:=ha.l;have cp:=Qdz ha hb h0;have cl:=De hb.t hb.ln hb.bd;have cn:=Qdx (p:=Pz a b) (by omega) (U0 h3 (by omega));unfold Ru;obtain ⟨r,hr⟩:=nmE (Bj a b (Pz a b));have cc:=GB (p:=r) (by rw [hr]; omega) (by rw [hr]; exact U0 h6 (by omega));rw [<-hr] at h4 h5 h6 ⊢;obtain ⟨k,hk⟩:=nmE (a.length+1-b.length);rw [<-hk] at cp;have em:((k:Int).tmod 2)=((k % 2:Nat):Int):=by rw [Y3 (by omega)]; omega
 have key:VP r=if r.length=0 then [] else Cy r (S8 r):=rfl
 by_cases hz:r.length=0
 ·rw [key,if_pos hz];by_cases hodd:k % 2=1
  ·by_cases hneg:Fl b<0
   ·have e:r=Mk (Pz a b):=by rw [hr]; unfold Bj; rw [if_pos ⟨by rw [<-hk]; exact hodd,hneg⟩]
    rw [e] at hz;exact Ud func267 rfl [.k cp,.f (by simp),.r 22 (eI em),.t (by simp; omega),.k cl,.t (by simpa [Fl] using hneg),.k cn,.t (by simpa using hz)] rfl rfl (by simp [Uz])
   ·have e:r=Pz a b:=by rw [hr]; unfold Bj; rw [if_neg (λh=>hneg h.2)]
    rw [e] at hz;exact Ud func267 rfl [.k cp,.f (by simp),.r 22 (eI em),.t (by simp; omega),.k cl,.f (by simpa [Fl] using hneg),.t (by simpa using hz)] rfl rfl (by simp [Uz])
  ·have e:r=Pz a b:=by rw [hr]; unfold Bj; rw [if_neg (λh=>hodd (by rw [hk]; exact h.1))]
   rw [e] at hz;exact Ud func267 rfl [.k cp,.f (by simp),.r 22 (eI em),.f (by simp; omega),.f rfl,.t (by simpa using hz)] rfl rfl (by simp [Uz])
 ·rw [key,if_neg hz];have cd:=dU (p:=r) (g:=S8 r) (by omega) (U0 h6 (by omega)) (YW (U0 h6 (by omega))) (XD h4 hz) Ep;by_cases hodd:k % 2=1
  ·by_cases hneg:Fl b<0
   ·have e:r=Mk (Pz a b):=by rw [hr]; unfold Bj; rw [if_pos ⟨by rw [<-hk]; exact hodd,hneg⟩]
    rw [e] at hz cc cd ⊢;exact Ud func267 rfl [.k cp,.f (by simp),.r 22 (eI em),.t (by simp; omega),.k cl,.t (by simpa [Fl] using hneg),.k cn,.f (by simpa using hz),.k cc,.k cd] rfl rfl (by simp [Uz])
   ·have e:r=Pz a b:=by rw [hr]; unfold Bj; rw [if_neg (λh=>hneg h.2)]
    rw [e] at hz cc cd ⊢;exact Ud func267 rfl [.k cp,.f (by simp),.r 22 (eI em),.t (by simp; omega),.k cl,.f (by simpa [Fl] using hneg),.f (by simpa using hz),.k cc,.k cd] rfl rfl (by simp [Uz])
  ·have e:r=Pz a b:=by rw [hr]; unfold Bj; rw [if_neg (λh=>hodd (by rw [hk]; exact h.1))]
   rw [e] at hz cc cd ⊢;exact Ud func267 rfl [.k cp,.f (by simp),.r 22 (eI em),.f (by simp; omega),.f rfl,.f (by simpa using hz),.k cc,.k cd] rfl rfl (by simp [Uz])
theorem Qno {s:Nat} {x:Int} (h:Fe x<=s) (g:Int):Fe (x / g)<=s:=GM (p:=[x]) (λz hz=>by rw [Qk.1 hz]; exact h) g _ (by simp)
def sta (b:Uj) (i:Nat) (x:Int) (a:Uj):Uj:=Mx a (Gk (trim (mono i x)) b)
theorem Qrx {u t i:Nat} {x:Int} {b a:Uj} (ha:Bd u a) (hb:Bd t b) (hx:Fe x<=u) (hi:i<=64):Bd (u+t+8) (sta b i x a) :=
 U0 (Dd ha (cD hb hx hi)) (by omega)
theorem eS {x:Int} {i:Nat} {b a:Uj}:(sta b i x a).length<=max a.length (i+b.length):=by
 have h:=M7 a (Gk (trim (mono i x)) b);have h2:=jJ (i:=i) (x:=x) (b:=b);unfold sta; omega
theorem Qld (s n:Nat):Bd s (List.replicate n 0):=λz hz=>by rw [(List.mem_replicate.1 hz).2,M5]; exact Qh _
theorem Qrw {s i:Nat} {l:Uj} {x:Int} (h:Bd s l) (hx:Fe x<=s):Bd s (l.set i x):=λz hz=>by
 rcases J8 hz with hz | rfl
 ·exact h z hz
 ·exact hx
theorem Qdv {a b q:Uj} (ha:Pb a) (hb:Pb b) (h:XI a b=some q):Ug 306 [pr a,pr b] [pr q,.oi 0]:=by
 unfold XI at h
 split at h
 ·cases h
 rename_i h0;obtain ⟨k,hk⟩:=nmE (a.length+1-b.length);rw [<-hk] at h;obtain ⟨q',hq,hq2⟩:=Qd.1 h;obtain ⟨rfl,hpb⟩:=QX (Tj _) hq2;have hal:=ha.l;have hbl:=hb.l;refine Fw func306 rfl ?_;refine Ub [.k (Hr ha.t ha.ln ha.bd),.k (Hr hb.t hb.ln hb.bd),.f (by simpa using h0),.r 24 (eI (b:=(k:Int)) (by simp; omega)),.i k,.i k,.r 27 (eI (b:=(k:Int)) (by simp))] rfl ?_;refine nl 0 rfl rfl rfl ?_;rw [MN];refine Uf (S:=Nat×Uj×Uj) 1 (λL1 s=>(0,.v (pr s.2.1))::(7,.v (.oi ((s.1:Int)-1)))::L1) (λs=>[.row false 36 2 (s.2.2.map Hh)]) (λs=>s.1) (λs=>s.1<=k/\U9 s.2.1/\s.2.1.length<=a.length/\Bd (16777216+(k-s.1)*16777224) s.2.1/\s.2.2.length=k/\Bd 1107296256 s.2.2/\yQ b s.1 s.2.1 s.2.2=some q') (k,a,List.replicate k 0) ⟨Ql _,ha.t,Ql _,by simpa using ha.b,by simp,Qld _ _,hq⟩ rfl rfl λ⟨i,A,Q⟩ ⟨j1,j2,j3,j4,j5,j7,j6⟩=>?_
 dsimp only at j1 j2 j3 j4 j5 j6 j7 ⊢;cases i with
 |
  zero =>
  simp only [yQ] at j6
  split at j6
  ·rename_i hA;injection j6 with j6; subst j6;exact Uc [.f (by simp),.f (by simpa using hA),.k (L8 (Gs Q) (by omega) (U0 j7 (by omega)))] rfl
  ·cases j6
 |
  succ i =>
  obtain ⟨u,hu⟩:=nmE (16777216+(k-(i+1))*16777224);rw [<-hu] at j4;have hub:u<=1107296256:=by
   have:(k-(i+1))*16777224<=64*16777224:=Qz _ (by omega);omega
  have hku:u+16777216+8=16777216+(k-i)*16777224:=by
   rw [hu,show k-i=(k-(i+1))+1 from by omega,Xz]; omega
  simp only [yQ] at j6;by_cases hlt:A.length<b.length+i
  ·rw [if_pos hlt] at j6;refine Ub [.t (by simp <;> omega),.k (Mq A),.k (Mq b),.t (by simp; omega),.r 32 (eI (b:=(i:Int)-1) (by omega))] rfl ?_;exact rd (i,A,Q) (by dsimp only; omega) ⟨by dsimp only; omega,j2,j3,U0 j4 (by dsimp only; omega),j5,j7,j6⟩ rfl
  ·rw [if_neg hlt] at j6
   split at j6
   ·rename_i hdv;obtain ⟨x,hx⟩:=nmE (Fl A / Fl b);rw [<-hx] at j6;have hxs:Fe x<=u:=by rw [hx]; exact Qno (M4 j4) _
    have ce:=Ay (U3 (Fl A)) (U3 (Fl b)) (Qc (M4 j4) (by omega)) (Qc (M4 hb.b) (by omega)) (Eb hb.t h0) hdv;rw [<-hx] at ce;have cm:Ug 177 [.one (.row ((mono i x).map Hh)),pr b] [pr (Gk (trim (mono i x)) b)]:=zL (p0:=mono i x) hb.t (by rw [I6]; omega) (by omega) (NH hxs) hb.b (by omega);have l3:=jJ (i:=i) (x:=x) (b:=b);have l4:=eS (i:=i) (x:=x) (b:=b) (a:=A);have cb:=GE (p:=A) (q:=Gk (trim (mono i x)) b) (by omega) (by omega) (U0 j4 (by omega)) (U0 (cD hb.b hxs (by omega)) (by omega));refine Ub [.t (by simp <;> omega),.k (Mq A),.k (Mq b),.f (by simp; omega),.k (De j2 (by omega) (U0 j4 (by omega))),.k (De hb.t hb.ln hb.bd),.k ce,.f rfl,.r 51 (eI (b:=(i:Int)) (by omega)),.i i,.r 55 (eI (b:=((i+1:Nat):Int)) (by omega)),.i (i+1),.i (i+1),.r 58 (eI (b:=(i:Int)) (by omega))] rfl ?_;refine nl 2 rfl rfl rfl ?_;rw [MN,nY];rw [<-fY i x] at cm;refine Ub [.i i,.k cm,.k cb,.r 32 (eI (b:=(i:Int)-1) (by omega))] rfl ?_;exact rd (i,sta b i x A,Q.set i x) (by dsimp only; omega) ⟨by dsimp only; omega,Fv _ _,by dsimp only; omega,by dsimp only; rw [<-hku]; exact Qrx j4 hb.b hxs (by omega),by simpa using j5,Qrw j7 (Nat.le_trans hxs hub),j6⟩ rfl
   ·cases j6
theorem nX {a b q:Uj} (h:XI a b=some q):Pb q:=by
 unfold XI at h
 split at h
 ·cases h
 ·obtain ⟨q',_,hq2⟩:=Qd.1 h;obtain ⟨rfl,hpb⟩:=QX (Tj _) hq2;exact hpb
theorem Qez {a b q:Uj} (ha:Pb a) (hb:Pb b) (h:XI a b=some q):Ug 295 [pr a,pr b] [pr q] :=
 Ud func295 rfl [.k (Qdv ha hb h)] rfl
theorem vQ:∀ {k:Nat} {a b g:Uj},Pb a->Pb b->TJ k a b=some g->Pb g
 | 0,_,_,_,_,_,h=>by cases h
 |
  k+1,a,b,g,ha,hb,h=>by
  simp only [TJ] at h
  split at h
  ·injection h with h; subst h; exact ha
  ·rename_i h0;obtain ⟨r,hr,h⟩:=Qd.1 h;obtain ⟨rfl,hpb⟩:=QX (FK ha hb h0).1 hr;exact vQ hb hpb h
theorem dS {a b g:Uj} (ha:Pb a) (hb:Pb b) (h:JZ a b=some g):Ug 233 [pr a,pr b] [pr g]:=by
 unfold JZ at h;obtain ⟨g',h2,rfl⟩:=Yt.1 h;have hg:=vQ (Rp ha) (Rp hb) h2;refine Fw func233 rfl ?_;refine Ua [.k (Az ha),.k (Az hb)] rfl ?_;refine Uf (S:=Nat×Uj×Uj) 0 (λL1 s=>(0,.v (pr s.2.1))::(1,.v (pr s.2.2))::L1) (λ_=>[]) (λs=>s.1) (λs=>Pb s.2.1/\Pb s.2.2/\TJ s.1 s.2.1 s.2.2=some g') (66,Fg a,Fg b) ⟨Rp ha,Rp hb,h2⟩ rfl rfl λ⟨k,A,C⟩ ⟨j1,j2,j3⟩=>?_
 dsimp only at j1 j2 j3 ⊢;cases k with
 | zero=>cases j3
 |
  succ k =>
  simp only [TJ] at j3
  split at j3
  ·rename_i h0;injection j3 with j3; subst j3;exact Uc [.f (by simpa using h0),.k (Az j1)] rfl
  ·rename_i h0;obtain ⟨r,hr,j3⟩:=Qd.1 j3;obtain ⟨rfl,hpb⟩:=QX (FK j1 j2 h0).1 hr;refine Ua [.t (by simp; omega),.k (Qd2 j1 j2 h0)] rfl ?_;exact rd (k,C,Ru A C) (by dsimp only; omega) ⟨j2,hpb,j3⟩ rfl
theorem RG {a b g:Uj} (ha:Pb a) (hb:Pb b) (h:JZ a b=some g):Pb g:=by
 unfold JZ at h;obtain ⟨g',h2,rfl⟩:=Yt.1 h;exact Rp (vQ (Rp ha) (Rp hb) h2)
theorem Qdw {a b g:Uj} (ha:Pb a) (hb:Pb b) (h:yX a b=some g):Ug 189 [.one (.row (S0 [a,b]))] [pr g]:=by
 unfold yX at h;obtain ⟨g1,h1,h2⟩:=Qd.1 h;have hg1:=RG RU ha h1;refine Fw func189 rfl ?_;refine Ua [.z 3] rfl ?_;refine Uf (S:=Nat) 0 (λL1 i=>(8,.v (.oi i))::(3,.v (pr (if i=0 then [] else if i=1 then g1 else g)))::L1) (λ_=>[]) (λi=>2-i) (λi=>i<=2) 0 (Qh _) rfl rfl λi hi=>?_
 rcases (show i=0\/i=1\/i=2 by omega) with rfl | rfl | rfl
 ·refine Ua [.t rfl,.x (Rj (i:=0) (p:=a) rfl),.k (dS RU ha h1)] rfl ?_ (by simp [Uz]);exact rd 1 (by omega) (by omega) rfl
 ·refine Ua [.t rfl,.x (Rj (i:=1) (p:=b) rfl),.k (dS hg1 hb h2)] rfl ?_ (by simp [Uz]);exact rd 2 (by omega) (by omega) rfl
 ·exact Uc [.f rfl] rfl
theorem Qh6 {a b g:Uj} (ha:Pb a) (hb:Pb b) (h:yX a b=some g):Pb g:=by
 unfold yX at h;obtain ⟨g1,h1,h2⟩:=Qd.1 h;exact RG (RG RU ha h1) hb h2
theorem LQ {p d:Uj} (h:AO (Gu p)=some d):d=Gu p/\Pb (Gu p):=QX (Fv _ _) h
theorem NE {a g:Uj} (ha:Pb a) (h:Pf a=some g):Ug 273 [pr a] [pr g]:=by
 have hp:=Rp ha;unfold Pf at h
 split at h
 ·rename_i h0;injection h with h; subst h;exact Ud func273 rfl [.k (Az ha),.k (Mq _),.t (by simp; omega)] rfl
 ·rename_i h0;obtain ⟨d,h1,h⟩:=Qd.1 h;obtain ⟨rfl,hd⟩:=LQ h1;obtain ⟨g1,h1,h⟩:=Qd.1 h;exact Ud func273 rfl [.k (Az ha),.k (Mq _),.f (by simp; omega),.k (Is hp.ln hp.bd),.k (dS hp hd h1),.k (Qez hp (RG hp hd h1) h)] rfl
theorem RF {a g:Uj} (ha:Pb a) (h:Pf a=some g):Pb g:=by
 unfold Pf at h
 split at h
 ·injection h with h; subst h; exact Rp ha
 ·obtain ⟨d,h1,h⟩:=Qd.1 h;obtain ⟨g1,h1,h⟩:=Qd.1 h;exact nX h
theorem Qh7 {p:Uj} (h:Pb p):Pb (Mk p):=⟨Fv _ _,Qc (XG p) h.l,PS h.b⟩
theorem pX:∀ {k:Nat} {a b:Uj} {l:Uk},Pb a->Pb b->tR k a b=some l->l.length≤k/\∀ p∈l,Pb p
 | 0,_,_,_,_,_,h=>by cases h
 |
  k+1,a,b,l,ha,hb,h=>by
  simp only [tR] at h
  split at h
  ·injection h with h; subst h; exact ⟨by simp,λp hp=>by cases hp⟩
  ·rename_i h0;obtain ⟨r,hr,h⟩:=Qd.1 h;obtain ⟨rfl,hpb⟩:=QX (FK ha hb h0).1 hr;obtain ⟨l',h1,h⟩:=Qd.1 h;injection h with h; subst h;obtain ⟨i1,i2⟩:=pX hb (Qh7 hpb) h1;refine ⟨by simp; exact i1,λp hp=>?_⟩;rcases Qm.1 hp with rfl | hp
   ·exact hb
   ·exact i2 p hp
theorem chain_ok {p:Uj} {l:Uk} (hp:Pb p) (h:Ls p=some l):l.length≤67/\∀ q∈l,Pb q:=by
 unfold Ls at h;obtain ⟨a,h1,h⟩:=Qd.1 h;have ha:=RF hp h1
 split at h
 ·cases h
 ·obtain ⟨d,h2,h⟩:=Qd.1 h;obtain ⟨rfl,hd⟩:=LQ h2;obtain ⟨l',h3,h⟩:=Qd.1 h;injection h with h; subst h;obtain ⟨i1,i2⟩:=pX ha (Rp hd) h3;refine ⟨by simp; omega,λp hp=>?_⟩;rcases Qm.1 hp with rfl | hp
  ·exact ha
  ·exact i2 p hp
theorem LK (l:Uk) (p:Uj):S0 l++[[pl p]]=S0 (l++[p]):=by simp [S0]
theorem Er (l:Uk):(S0 l).length=l.length:=by simp [S0]
theorem Qd5 {p:Uj} {l:Uk} (hp:Pb p) (h:Ls p=some l):Ug 243 [pr p] [.one (.sh [.row (S0 l)]),.oi 0]:=by
 unfold Ls at h;obtain ⟨a,h1,h⟩:=Qd.1 h;have ha:=RF hp h1
 split at h
 ·cases h
 rename_i h0;obtain ⟨d,h2,h⟩:=Qd.1 h;obtain ⟨rfl,hd⟩:=LQ h2;obtain ⟨l',h3,h⟩:=Qd.1 h;injection h with h; subst h;refine Fw func243 rfl ?_;refine Ua [.k (NE hp h1),.f (by simpa using h0),.lo,.k (Is ha.ln ha.bd),.k (Qeu hd.t hd.ln' hd.bd)] rfl ?_ (by simp [Uz]);obtain ⟨z,hz⟩:=nmE (if (Gu a).length=0 then 0 else Hk (Gu a));rw [<-hz];refine sb [(4,.v (pr a)),(7,.v (pr (Fg (Gu a)))),(5,.v (.one (.ow 1 0)))] [.row false 33 1 [[pl a]],.blk 344 [.orow 0 1 none],.blk 36 (Hh z)] rfl rfl ?_;have hll:=(pX ha (Rp hd) h3).1;refine Uf (S:=Nat×Uk×Uj×Uj) 3 (λL1 s=>(4,.v (pr s.2.2.1))::(7,.v (pr s.2.2.2))::L1) (λs=>[.row false 33 1 (S0 s.2.1),.blk 344 [.orow 0 1 none],.blk 36 (Hh z)]) (λs=>s.1) (λs=>Pb s.2.2.1/\Pb s.2.2.2/\∃ m,tR s.1 s.2.2.1 s.2.2.2=some m/\s.2.1++m=a::l') (66,[a],a,Fg (Gu a)) ⟨ha,Rp hd,l',h3,rfl⟩ rfl rfl λ⟨k,out,A,C⟩ ⟨j1,j2,m,j3,j4⟩=>?_
 dsimp only at j1 j2 j3 j4 ⊢;have hol:out.length<=67:=by have:=congrArg List.length j4; simp at this; omega
 cases k with
 | zero=>cases j3
 |
  succ k =>
  simp only [tR] at j3
  split at j3
  ·rename_i h0;injection j3 with j3; subst j3;rw [Zw] at j4;rw [<-j4];exact Uc [.f (by simpa using h0)] rfl
  ·rename_i h0;obtain ⟨r,hr,j3⟩:=Qd.1 j3;obtain ⟨rfl,hpb⟩:=QX (FK j1 j2 h0).1 hr;obtain ⟨m',j6,j5⟩:=Qd.1 j3;injection j5 with j5; subst j5;refine go tt [.t (by simp; omega),.s (sz:=1) (λc hc=>by rw [Qk.1 hc]; rfl),.k (Qd2 j1 j2 h0),.k (Qdx hpb.ln hpb.bd)] rfl (by simp [Uz,Er]; omega) ?_;exact rd (k,out++[C],C,Mk (Ru A C)) (by dsimp only; omega) ⟨j2,Qh7 hpb,m',j6,by rw [<-j4]; simp⟩ (by rw [LK]; rfl)
structure Tb (t:Tm):Prop where
 p:Pb t.p
 lo:Qb t.lo
 hi:Qb t.hi
theorem dI (x y:Int):-1<=Dw x y/\Dw x y<=1:=by unfold Dw; split <;> (try split) <;> omega
theorem QJ (a b:Rat):-1<=Ha a b/\Ha a b<=1:=dI _ _
theorem Oj (p:Uj) (q:Rat):-1<=H7 p q/\H7 p q<=1:=dI _ _
theorem mS (p:Uj) (q:Rat):-1<=low p q/\low p q<=1:=by unfold low; split <;> exact Oj _ _
theorem Qb.s31 {q:Rat} (h:Qb q):Qs 2147483647 q:=h.mono (by decide)
theorem Qb.s32 {q:Rat} (h:Qb q):Qs 4294967295 q:=h.mono (by decide)
theorem SI {p:Uj} {q:Rat} (hp:Pb p) (hq:Qb q):Ug 231 [pr p,.agg (rl q)] [.oi (H7 p q)]:=by
 have hm:p.length*(16777216+1)<=64*16777217:=Qz _ hp.l;exact dQ hp.t hp.ln hp.b hq (by omega)
theorem Qwj {p:Uj} {q:Rat} (hp:Pb p) (hq:Qb q):Ug 231 [pr (Gu p),.agg (rl q)] [.oi (H7 (Gu p) q)]:=by
 have hl:=Qc (M6 p) (show p.length-1<=64 by have:=hp.l; omega);have hm:(Gu p).length*(16777216+1)<=64*16777217:=Qz _ hl;exact dQ (Fv _ _) (Z3 hl (by omega)) (zM (t:=6) hp.b hp.l) hq (by omega)
theorem Dv {t:Tm} (ht:Tb t):Ug 187 [.agg (ta t)] [.one (.bool t.point)] :=
 Ud func187 rfl [.k (B5 ht.lo.s31 ht.hi.s31)] rfl
theorem PL {t:Tm} (ht:Tb t):Ug 186 [.agg (ta t)] [.agg (ta t)] :=
 Ud func186 rfl [.k (Hr ht.p.t ht.p.ln ht.p.bd),.k (Nk ht.lo.s32),.k (Nk ht.hi.s32)] rfl
theorem Qe5 {t:Tm} (ht:Tb t):Ug 230 [.agg (ta t)] [.agg (ta t)]:=Ud func230 rfl [.k (PL ht)] rfl
theorem Qeo {p:Uj} {q:Rat} (hp:Pb p) (hq:Qb q):Ug 232 [pr p,.agg (rl q)] [.oi (low p q)]:=by
 unfold low;by_cases h:H7 p q=0
 ·rw [if_neg (by simpa using h)];exact Ud func232 rfl [.k (SI hp hq),.f (by simpa using h),.k (Is hp.ln hp.bd),.k (Qwj hp hq)] rfl
 ·rw [if_pos h];exact Ud func232 rfl [.k (SI hp hq),.t (by simpa using h)] rfl
theorem Qem {p:Uj} {lo hi:Rat} (hp:Pb p) (hl:Qb lo) (hh:Qb hi):Ug 190 [pr p,.agg (rl lo),.agg (rl hi)] [.one (.bool (UR p lo hi))]:=by
 by_cases h:H7 p hi=0
 ·exact Ud func190 rfl [.k (SI hp hh),.t (by simpa using h)] rfl (by simp [UR,h]) trivial
 ·exact Ud func190 rfl [.k (SI hp hh),.f (by simpa using h),.k (Qeo hp hl)] rfl (by simp [UR,h]) trivial
theorem C6 {t:Tm} {q:Rat} (ht:Tb t) (hq:Qb q):Ug 188 [.agg (ta t),.agg (rl q)] [.oi (Fj t q)]:=by
 have cp:=Dv ht;unfold Fj;by_cases h1:t.point=true
 ·rw [if_pos h1];exact Ud func188 rfl [.k cp,.t h1,.k (B5 ht.lo.s31 hq.s31)] rfl
 rw [if_neg h1];have h1:t.point=false:=by simpa using h1
 have c1:=B5 hq.s31 ht.lo.s31;have c2:=B5 hq.s31 ht.hi.s31;by_cases h2:Ha q t.lo<=0
 ·rw [if_pos h2];exact Ud func188 rfl [.k cp,.f h1,.k c1,.t (by simpa using h2)] rfl
 rw [if_neg h2];by_cases h3:0<Ha q t.hi
 ·rw [if_pos h3];exact Ud func188 rfl [.k cp,.f h1,.k c1,.f (by simpa using h2),.k c2,.t (by simpa using h3)] rfl
 rw [if_neg h3];by_cases h4:H7 t.p q=0
 ·rw [if_pos h4];exact Ud func188 rfl [.k cp,.f h1,.k c1,.f (by simpa using h2),.k c2,.f (by simpa using h3),.k (SI ht.p hq),.t (by simpa using h4)] rfl
 rw [if_neg h4];by_cases h5:H7 t.p q=low t.p t.lo
 ·rw [if_pos h5];exact Ud func188 rfl [.k cp,.f h1,.k c1,.f (by simpa using h2),.k c2,.f (by simpa using h3),.k (SI ht.p hq),.f (by simpa using h4),.k (Qeo ht.p ht.lo),.t (by simpa using h5)] rfl
 ·rw [if_neg h5];exact Ud func188 rfl [.k cp,.f h1,.k c1,.f (by simpa using h2),.k c2,.f (by simpa using h3),.k (SI ht.p hq),.f (by simpa using h4),.k (Qeo ht.p ht.lo),.f (by simpa using h5)] rfl
theorem Qmw (t:Tm) (q:Rat):-1<=Fj t q/\Fj t q<=1:=by
 unfold Fj;have:=QJ t.lo q
 repeat' split
 all_goals omega
theorem Qm3 (q:Rat):0<(q.den:Int):=by have:=q.den_pos; omega
theorem Qqi {a b:Rat} (ha:Qb a) (hb:Qb b):Ug 269 [.agg (rl a),.agg (rl b)] [.agg (rl (mid a b))]:=by
 have h1:Fe (a.num*(b.den:Int))<=33554432:=Qc (Gh _ _) (by have:=ha.1; have:=hb.2; omega);have h2:Fe (b.num*(a.den:Int))<=33554432:=Qc (Gh _ _) (by have:=hb.1; have:=ha.2; omega);have h3:Fe ((a.den:Int)*(b.den:Int))<=33554432:=Qc (Gh _ _) (by have:=ha.2; have:=hb.2; omega);have h4:Fe (2:Int)<=2:=by decide
 have h5:Fe (a.num*(b.den:Int)+b.num*(a.den:Int))<=33554433:=Qc (YK _ _) (by omega);have h6:Fe ((a.den:Int)*(b.den:Int)*2)<=33554434:=Qc (Gh _ _) (by omega);have h0:(a.den:Int)*(b.den:Int)*2≠0:=by
  have:=Int.mul_pos (Qm3 a) (Qm3 b); omega
 exact Ud func269 rfl [.k (zI ha.s31 hb.s31),.k (VI (U3 _) (U3 _) (by omega) (by omega)),.k (zC (z:=2) (by decide)),.k (Np (U3 _) (U3 _) (by omega) (by omega)),.k (ZS h0 (by omega) (by omega))] rfl
theorem xX {a b:Rat} (ha:Qb a) (hb:Qb b):Ug 235 [.agg (rl a),.agg (rl b)] [.agg (rl (LA a b))]:=by
 have h1:Fe (a.num*(b.den:Int))<=33554432:=Qc (Gh _ _) (by have:=ha.1; have:=hb.2; omega);have h2:Fe (b.num*(a.den:Int))<=33554432:=Qc (Gh _ _) (by have:=hb.1; have:=ha.2; omega);have h3:Fe ((a.den:Int)*(b.den:Int))<=33554432:=Qc (Gh _ _) (by have:=ha.2; have:=hb.2; omega);have h5:Fe (a.num*(b.den:Int)-b.num*(a.den:Int))<=33554433:=Qc (jX _ _) (by omega);have h0:(a.den:Int)*(b.den:Int)≠0:=by
  have:=Int.mul_pos (Qm3 a) (Qm3 b); omega
 exact Ud func235 rfl [.k (zI ha.s31 hb.s31),.k (Qeh (U3 _) (U3 _) (by omega) (by omega)),.k (ZS h0 (by omega) (by omega))] rfl
theorem BH {q r:Rat} (h:chq q=some r):r=q/\Qb q:=by
 unfold chq at h
 split at h
 ·rename_i hc; injection h with h; exact ⟨h.symm,hc⟩
 ·cases h
theorem sL {t u:Tm} (ht:Tb t) (h:xA t=some u):Ug 236 [.agg (ta t)] [.agg (ta u)]:=by
 have cp:=Dv ht;unfold xA at h
 split at h
 ·rename_i h1;injection h with h; subst h;exact Ud func236 rfl [.k cp,.t h1] rfl
 ·rename_i h1;have h1:t.point=false:=by simpa using h1
  obtain ⟨m,hm0,h⟩:=Qd.1 h;obtain ⟨rfl,hm⟩:=BH hm0;injection h with h;subst h;have cm:=Qqi ht.lo ht.hi;have cc:=C6 ht hm;by_cases h2:Fj t (mid t.lo t.hi)=0
  ·rw [if_pos h2];exact Ud func236 rfl [.k cp,.f h1,.k cm,.k cc,.t (by simpa using h2)] rfl
  rw [if_neg h2];by_cases h3:Fj t (mid t.lo t.hi)=-1
  ·rw [if_pos h3];exact Ud func236 rfl [.k cp,.f h1,.k cm,.k cc,.f (by simpa using h2),.t (by simpa using h3)] rfl
  ·rw [if_neg h3];exact Ud func236 rfl [.k cp,.f h1,.k cm,.k cc,.f (by simpa using h2),.f (by simpa using h3)] rfl
theorem yD {t u:Tm} (ht:Tb t) (h:xA t=some u):Tb u:=by
 unfold xA at h
 split at h
 ·injection h with h; subst h; exact ht
 ·obtain ⟨m,hm0,h⟩:=Qd.1 h;obtain ⟨rfl,hm⟩:=BH hm0;injection h with h;subst h
  repeat' split
  ·exact ⟨ht.p,hm,hm⟩
  ·exact ⟨ht.p,ht.lo,hm⟩
  ·exact ⟨ht.p,hm,ht.hi⟩
theorem O5 {z:Int} (h:Fe z<=4294967296):Ug 178 [.one (mg z)] [.oi (Fe z:Int)]:=by
 have h1:=sR (l:=Fy z.natAbs) (Ld _) (by rw [G5]; exact h);rw [G5] at h1; exact h1
theorem LP {p:Uj} {i:Nat} {z:Int} (h:p[i]? = some z):G6 (p.take (i+1))=max (G6 (p.take i)) (Fe z):=by
 unfold G6; rw [List.take_succ,h,Option.toList_some,List.foldl_append]; rfl
theorem Ma {p:Uj} {s:Nat} (h:Bd s p):∀ i,G6 (p.take i)<=s
 | 0=>by simp [G6]
 |
  i+1=>by
  cases hz:p[i]? with
  |
   none =>
   rw [Qn (by have:=Jn.1 hz; omega),<-Qn (l:=p) (i:=i) (by have:=Jn.1 hz; omega)];exact Ma h i
  | some z=>rw [LP hz]; have:=Ma h i; have:=Qda h hz; omega
theorem xJ {p:Uj} (hp:Pb p):Ug 268 [pr p] [.oi (G6 p:Int)]:=by
 have hl:=hp.l;refine Fw func268 rfl ?_;refine Ua [] rfl ?_;refine Uf (S:=Nat) 0 (λL1 i=>(8,.v (.oi i))::(3,.v (.oi (G6 (p.take i):Int)))::L1) (λ_=>[]) (λi=>p.length-i) (λi=>i<=p.length) 0 (Qh _) rfl rfl λi hi=>?_
 by_cases hlt:i<p.length
 ·have hg:=Ra hlt;have hz:=Fo hp.b i;have hs:=LP hg;refine Ub [.t (by simp; omega),.x (Pe hg),.k (O5 (by omega)),.r 16 (eI (b:=(G6 (p.take (i+1)):Int)) (by rw [hs]; omega))] rfl ?_;exact rd (i+1) (by omega) hlt rfl
 ·obtain rfl:i=p.length:=by omega
  rw [Q5];exact Uc [.f (by simp)] rfl
theorem Qms {a:Tm} {b:Tm} (ha:Tb a) (hb:Tb b):Ug 234 [.agg (ta a),.agg (ta b)] [.oi (Pv a b:Nat)]:=by
 have l1:=ha.p.l;have l2:=hb.p.l;have b1:=ha.lo.1;have b2:=ha.hi.1;have b3:=hb.lo.1;have b4:=hb.hi.1;have s1:G6 a.p<=16777216:=by have:=Ma ha.p.b a.p.length; rwa [Q5] at this
 have s2:G6 b.p<=16777216:=by have:=Ma hb.p.b b.p.length; rwa [Q5] at this
 obtain ⟨N,hN⟩:=nmE (4*(a.p.length+b.p.length));obtain ⟨S,hS⟩:=nmE (G6 a.p+G6 b.p+(a.p.length+b.p.length)+8);have hNS:N*S<=512*33554568:=Zi (by omega) (by omega);have h0:(N:Int)*(S:Int)=((N*S:Nat):Int):=(Vi _ _).symm;have hst:Pv a b=64+2*(Fe a.lo.num+Fe a.hi.num+Fe b.lo.num+Fe b.hi.num)+N*S:=by rw [hN,hS]; rfl
 rw [hst];exact Ud func234 rfl [.k (O5 (z:=a.lo.num) (by omega)),.k (O5 (z:=a.hi.num) (by omega)),.k (O5 (z:=b.lo.num) (by omega)),.k (O5 (z:=b.hi.num) (by omega)),.r 41 (eI (b:=(N:Int)) (by rw [hN]; simp)),.k (xJ ha.p),.k (xJ hb.p),.r 51 (eI (b:=(S:Int)) (by rw [hS]; simp)),.r 52 (eI (b:=((N*S:Nat):Int)) h0)] rfl (by simp) (by rw [h0]; simp [Uz]; omega)
def bE (p:Uj) (a:Tm):Nat:=64+2*(Fe a.lo.num+Fe a.hi.num)+4*(a.p.length+p.length)*(G6 a.p+G6 p+(a.p.length+p.length)+8)
theorem cL:Ug 178 [lr []] [.oi 0]:=sR (l:=[]) (by simp [Sm]) (by decide)
theorem Qe2 {a:Tm} {p:Uj} (ha:Tb a) (hp:Pb p):Ug 234 [.agg (ta a),.agg ([pl p,.bool false,.row [],.bool false,.row [],.bool false,.row [],.bool false,.row []])] [.oi (bE p a:Nat)]:=by
 have l1:=ha.p.l;have l2:=hp.l;have b1:=ha.lo.1;have b2:=ha.hi.1;have s1:G6 a.p<=16777216:=by have:=Ma ha.p.b a.p.length; rwa [Q5] at this
 have s2:G6 p<=16777216:=by have:=Ma hp.b p.length; rwa [Q5] at this
 obtain ⟨N,hN⟩:=nmE (4*(a.p.length+p.length));obtain ⟨S,hS⟩:=nmE (G6 a.p+G6 p+(a.p.length+p.length)+8);have hNS:N*S<=512*33554568:=Zi (by omega) (by omega);have h0:(N:Int)*(S:Int)=((N*S:Nat):Int):=(Vi _ _).symm;have hst:bE p a=64+2*(Fe a.lo.num+Fe a.hi.num)+N*S:=by rw [hN,hS]; rfl
 rw [hst];exact Ud func234 rfl [.k (O5 (z:=a.lo.num) (by omega)),.k (O5 (z:=a.hi.num) (by omega)),.k cL,.k cL,.r 41 (eI (b:=(N:Int)) (by rw [hN]; simp)),.k (xJ ha.p),.k (xJ hp),.r 51 (eI (b:=(S:Int)) (by rw [hS]; simp)),.r 52 (eI (b:=((N*S:Nat):Int)) h0)] rfl (by simp) (by rw [h0]; simp [Uz]; omega)
def VK (sg:Uj->Int) (l:Uk) (i:Nat):Nat×Int:=(l.take i).foldl (Pj sg) (0,0)
theorem yA {sg:Uj->Int} (hs:∀ p,-1<=sg p/\sg p<=1) (l:Uk):∀ i,(VK sg l i).1<=i/\-1<=(VK sg l i).2/\(VK sg l i).2<=1
 | 0=>⟨Ql _,show (-1:Int)<=0 by decide,show (0:Int)<=1 by decide⟩
 |
  i+1=>by
  obtain ⟨h1,h2,h3⟩:=yA hs l i;cases h:l[i]? with
  |
   none =>
   have:VK sg l (i+1)=VK sg l i:=by unfold VK; rw [List.take_of_length_le (by have:=List.getElem?_eq_none_iff.1 h; omega),List.take_of_length_le (List.getElem?_eq_none_iff.1 h)]
   rw [this]; omega
  |
   some p =>
   have:VK sg l (i+1)=Pj sg (VK sg l i) p:=Tt _ _ _ h;rw [this];have:=hs p;unfold Pj
   split
   ·omega
   ·dsimp only; split <;> omega
theorem Qmt {l:Uk} {fid:Nat} {l1:Uo} {sg:Uj->Int} (hl:l.length≤1000) (hs:∀ p,-1≤sg p/\sg p≤1) (h:∀ p∈l,EN prog fid [pr p,.one (.sh l1)] [.oi (sg p)]):Ug 297 [.one (.sh [.row (S0 l)]),.one (.fn fid [] [.sh l1])] [.oi (Cn sg l:Nat)]:=by
 have hpl:=Er l;refine Fw func297 rfl ?_;refine Ua [] rfl ?_;refine Uf (S:=Nat) 0 (λL1 i=>(15,.v (.oi i))::(5,.v (.oi ((VK sg l i).1:Int)))::(6,.v (.one (.int .i64 (VK sg l i).2)))::L1) (λ_=>[]) (λi=>l.length-i) (λi=>i<=l.length) 0 (Qh _) rfl rfl λi hi=>?_
 by_cases hlt:i<l.length
 ·obtain ⟨p,hp⟩:=gxE (l:=l) (i:=i) hlt;have hst:VK sg l (i+1)=Pj sg (VK sg l i) p:=Tt _ _ _ hp;obtain ⟨b1,b2,b3⟩:=yA hs l i;have b4:=hs p;by_cases h0:sg p=0
  ·refine Ub [.t (by simp [hpl]; omega),.x (Rj hp),.k (h p (Qa hp)),.t (by simpa using h0)] rfl ?_;exact rd (i+1) (by omega) hlt (by rw [hst,show Pj sg (VK sg l i) p=VK sg l i from by unfold Pj; rw [if_pos h0]]; rfl)
  ·by_cases h1:(VK sg l i).2=-(sg p)
   ·refine Ub [.t (by simp [hpl]; omega),.x (Rj hp),.k (h p (Qa hp)),.f (by simpa using h0),.t (by simpa using h1)] rfl ?_;exact rd (i+1) (by omega) hlt (by rw [hst,show Pj sg (VK sg l i) p=((VK sg l i).1+1,sg p) from by unfold Pj; rw [if_neg h0,if_pos h1]]; rfl)
   ·refine Ub [.t (by simp [hpl]; omega),.x (Rj hp),.k (h p (Qa hp)),.f (by simpa using h0),.f (by simpa using h1)] rfl ?_;exact rd (i+1) (by omega) hlt (by rw [hst,show Pj sg (VK sg l i) p=((VK sg l i).1,sg p) from by unfold Pj; rw [if_neg h0,if_neg h1]]; rfl)
 ·obtain rfl:i=l.length:=by omega
  refine Uc [.f (by simp [hpl])] rfl ?_ trivial;unfold VK Cn; rw [List.take_length]
theorem Qef {p:Uj} {q:Rat} (hp:Pb p) (hq:Qb q):Ug 298 [pr p,.one (.sh (rl q))] [.oi (H7 p q)]:=Ud func298 rfl [.k (SI hp hq)] rfl
theorem dY {l:Uk} {q:Rat} (hl:l.length≤1000) (hp:∀ p∈l,Pb p) (hq:Qb q):Ug 276 [.one (.sh [.row (S0 l)]),.agg (rl q)] [.oi (Co l q:Nat)] :=
 Ud func276 rfl [.k (Qmt (fid:=298) (l1:=rl q) (sg:=λp=>H7 p q) hl (λp=>Oj p q) λp h=>Qef (hp p h) hq)] rfl
theorem Lh {sg:Uj->Int} (hs:∀ p,-1<=sg p/\sg p<=1) (l:Uk):Cn sg l<=l.length:=by
 have:=(yA hs l l.length).1;unfold VK at this; rwa [List.take_length] at this
theorem AT {l:Uk} {lo hi:Rat} (hl:l.length≤1000) (hp:∀ p∈l,Pb p) (ql:Qb lo) (qh:Qb hi):Ug 244 [.one (.sh [.row (S0 l)]),.agg (rl lo),.agg (rl hi)] [.oi (Tg l lo hi)]:=by
 have b1:Co l lo<=l.length:=Lh (λp=>Oj p lo) l;have b2:Co l hi<=l.length:=Lh (λp=>Oj p hi) l;have c1:=B5 qh.s31 ql.s31;unfold Tg;by_cases h:Ha hi lo<0
 ·rw [if_pos h];exact Ud func244 rfl [.k c1,.t (by simpa using h)] rfl
 ·rw [if_neg h];exact Ud func244 rfl [.k c1,.f (by simpa using h),.k (dY hl hp ql),.k (dY hl hp qh)] rfl rfl (by simp [Uz]; omega)
def zTm:Uo:=[.nils,.bool false,.nils,.bool false,.nils,.bool false,.nils,.bool false,.nils]
theorem Qcb {a b:Tm} (ha:Tb a) (hb:Tb b):Pv a b<=17179938816+200000000:=by
 have l1:=ha.p.l;have l2:=hb.p.l;have b1:=ha.lo.1;have b2:=ha.hi.1;have b3:=hb.lo.1;have b4:=hb.hi.1;have s1:G6 a.p<=16777216:=by have:=Ma ha.p.b a.p.length; rwa [Q5] at this
 have s2:G6 b.p<=16777216:=by have:=Ma hb.p.b b.p.length; rwa [Q5] at this
 have:4*(a.p.length+b.p.length)*(G6 a.p+G6 b.p+(a.p.length+b.p.length)+8)<=512*33554568:=Zi (by omega) (by omega);unfold Pv; omega
theorem Qot {a b:Rat} (ha:Qb a) (hb:Qb b):Qs 2147483647 (LA a b):=by
 have h1:Fe (a.num*(b.den:Int))<=33554432:=Qc (Gh _ _) (by have:=ha.1; have:=hb.2; omega);have h2:Fe (b.num*(a.den:Int))<=33554432:=Qc (Gh _ _) (by have:=hb.1; have:=ha.2; omega);have h3:Fe ((a.den:Int)*(b.den:Int))<=33554432:=Qc (Gh _ _) (by have:=ha.2; have:=hb.2; omega);have h5:Fe (a.num*(b.den:Int)-b.num*(a.den:Int))<=33554433:=Qc (jX _ _) (by omega);exact (Qs.divInt (s:=33554433) h5 (by omega) (by omega)).mono (by omega)
theorem zE {a b:Tm} {r:Tm×Tm×Int} (ha:Tb a) (hb:Tb b) (h:EC (Pv a b) a b=some r):Ug 191 [.agg (ta a),.agg (ta b)] [.agg (ta r.1),.agg (ta r.2.1),.oi r.2.2]:=by
 have hsb:=Qcb ha hb;refine Fw func191 rfl ?_;refine Ua [.k (Qms ha hb)] rfl ?_;obtain ⟨n,hn⟩:=nmE (Pv a b);rw [<-hn] at h hsb ⊢;refine sb [(10,.v (.oi 0)),(9,.v (.oi n)),(5,.v (.one (.ow 3 0))),(4,.v (.one (.ow 2 0))),(3,.v (.one (.ow 1 0))),(2,.v (.one (.ow 0 0)))] [.blk 177 (ta a),.blk 177 (ta b),.blk 177 zTm,.blk 177 zTm] rfl rfl ?_;refine Uf (S:=Nat×Tm×Tm) 4 (λL1 s=>(10,.v (.oi (s.1:Int)))::L1) (λs=>[.blk 177 (ta s.2.1),.blk 177 (ta s.2.2),.blk 177 zTm,.blk 177 zTm]) (λs=>n-s.1) (λs=>s.1<=n/\Tb s.2.1/\Tb s.2.2/\EC (n-s.1) s.2.1 s.2.2=some r) (0,a,b) ⟨Qh _,ha,hb,h⟩ rfl rfl λ⟨i,u,v⟩ ⟨j1,j2,j3,j4⟩=>?_
 dsimp only at j1 j2 j3 j4 ⊢;by_cases hi:i<n
 ·obtain ⟨k,hk⟩:∃ k,n-i=k+1:=⟨n-i-1,by omega⟩;have hk':n-(i+1)=k:=by omega
  rw [hk] at j4;have c1:=B5 j2.hi.s31 j3.lo.s31;have c2:=B5 j3.hi.s31 j2.lo.s31;have pu:=Dv j2;have pv:=Dv j3;have hlt:decide ((i:Int)<(n:Int))=true:=by simp; omega
  simp only [EC] at j4;refine Ua [.t hlt] rfl ?_;refine ct 3 (S:=Unit) (λ_=>[(10,.v (.oi i)),(9,.v (.oi n)),(5,.v (.one (.ow 3 0))),(4,.v (.one (.ow 2 0))),(3,.v (.one (.ow 1 0))),(2,.v (.one (.ow 0 0)))]) (λ_=>[.blk 177 (ta u),.blk 177 (ta v),.blk 177 zTm,.blk 177 zTm]) (λ_=>¬Dt u v=true/\¬Dt v u=true) rfl ?_ ?_
  ·have bA:Dt u v=(decide (Ha u.hi v.lo<=0) && !(u.point && v.point && decide (Ha u.hi v.lo=0))):=by
    unfold Dt; cases u.point <;> cases v.point <;> simp
   have bB:Dt v u=(decide (Ha v.hi u.lo<=0) && !(u.point && v.point && decide (Ha v.hi u.lo=0))):=by
    unfold Dt; cases u.point <;> cases v.point <;> simp
   obtain ⟨a0,A'⟩:∃ b,decide (Ha u.hi v.lo<=0)=b:=⟨_,rfl⟩;obtain ⟨b0,B'⟩:∃ b,decide (Ha v.hi u.lo<=0)=b:=⟨_,rfl⟩;obtain ⟨p0,P'⟩:∃ b,u.point=b:=⟨_,rfl⟩;obtain ⟨q0,Q'⟩:∃ b,v.point=b:=⟨_,rfl⟩;obtain ⟨x0,X'⟩:∃ b,decide (Ha u.hi v.lo=0)=b:=⟨_,rfl⟩;obtain ⟨y0,Y'⟩:∃ b,decide (Ha v.hi u.lo=0)=b:=⟨_,rfl⟩;rw [A',P',Q',X'] at bA;rw [B',P',Q',Y'] at bB;have r1:Dt u v=true->(u,v,-1)=r:=λh=>by rw [if_pos h] at j4; injection j4
   have r2:¬Dt u v=true->Dt v u=true->(u,v,1)=r:=λh h'=>by rw [if_neg h,if_pos h'] at j4; injection j4
   clear j4;cases a0
   ·cases b0
    ·exact go tt [.k c1,.g 19 false A',.f rfl,.k c2,.g 45 false B',.f rfl] rfl trivial (rc () ⟨by rw [bA]; simp,by rw [bB]; simp⟩ rfl)
    ·cases p0
     ·obtain rfl:=r2 (by rw [bA]; simp) (by rw [bB]; rfl);exact Uc [.k c1,.g 19 false A',.f rfl,.k c2,.g 45 true B',.k pu,.g 48 false P',.g 52 false rfl,.t rfl] rfl
     ·cases q0
      ·obtain rfl:=r2 (by rw [bA]; simp) (by rw [bB]; rfl);exact Uc [.k c1,.g 19 false A',.f rfl,.k c2,.g 45 true B',.k pu,.g 48 true P',.k pv,.g 52 false Q',.t rfl] rfl
      ·cases y0
       ·obtain rfl:=r2 (by rw [bA]; simp) (by rw [bB]; rfl);exact Uc [.k c1,.g 19 false A',.f rfl,.k c2,.g 45 true B',.k pu,.g 48 true P',.k pv,.g 52 true Q',.k c2,.t (by simpa using Y')] rfl
       ·exact go tt [.k c1,.g 19 false A',.f rfl,.k c2,.g 45 true B',.k pu,.g 48 true P',.k pv,.g 52 true Q',.k c2,.f (by simpa using Y')] rfl trivial (rc () ⟨by rw [bA]; simp,by rw [bB]; simp⟩ rfl)
   ·cases p0
    ·obtain rfl:=r1 (by rw [bA]; rfl);exact Uc [.k c1,.g 19 true A',.k pu,.g 22 false P',.g 26 false rfl,.t rfl] rfl
    ·cases q0
     ·obtain rfl:=r1 (by rw [bA]; rfl);exact Uc [.k c1,.g 19 true A',.k pu,.g 22 true P',.k pv,.g 26 false Q',.t rfl] rfl
     ·cases x0
      ·obtain rfl:=r1 (by rw [bA]; rfl);exact Uc [.k c1,.g 19 true A',.k pu,.g 22 true P',.k pv,.g 26 true Q',.k c1,.t (by simpa using X')] rfl
      ·cases b0
       ·exact go tt [.k c1,.g 19 true A',.k pu,.g 22 true P',.k pv,.g 26 true Q',.k c1,.f (by simpa using X'),.k c2,.g 45 false B',.f rfl] rfl trivial (rc () ⟨by rw [bA]; simp,by rw [bB]; simp⟩ rfl)
       ·cases y0
        ·obtain rfl:=r2 (by rw [bA]; simp) (by rw [bB]; rfl);exact Uc [.k c1,.g 19 true A',.k pu,.g 22 true P',.k pv,.g 26 true Q',.k c1,.f (by simpa using X'),.k c2,.g 45 true B',.k pu,.g 48 true P',.k pv,.g 52 true Q',.k c2,.t (by simpa using Y')] rfl
        ·exact go tt [.k c1,.g 19 true A',.k pu,.g 22 true P',.k pv,.g 26 true Q',.k c1,.f (by simpa using X'),.k c2,.g 45 true B',.k pu,.g 48 true P',.k pv,.g 52 true Q',.k c2,.f (by simpa using Y')] rfl trivial (rc () ⟨by rw [bA]; simp,by rw [bB]; simp⟩ rfl)
  ·rintro _ ⟨n1,n2⟩
   rw [if_neg n1,if_neg n2] at j4;have qr:∀ {x y:Rat},Qb x->Qb y->Qs 2147483647 (LA x y):=λh1 h2=>Qot h1 h2
   have cc:=B5 (qr j2.hi j2.lo) (qr j3.hi j3.lo);by_cases D:0<=Ha (LA u.hi u.lo) (LA v.hi v.lo)
   ·rw [if_pos D] at j4;obtain ⟨x,x1,x2⟩:=Qd.1 j4;refine Ub [.k (xX j2.hi j2.lo),.k (xX j3.hi j3.lo),.k cc,.t (by simpa using D),.k (sL j2 x1)] rfl ?_;exact rd (i+1,x,v) (by dsimp only; omega) ⟨hi,yD j2 x1,j3,by dsimp only; rw [hk']; exact x2⟩ rfl
   ·rw [if_neg D] at j4;obtain ⟨x,x1,x2⟩:=Qd.1 j4;refine Ub [.k (xX j2.hi j2.lo),.k (xX j3.hi j3.lo),.k cc,.f (by simpa using D),.k (sL j3 x1)] rfl ?_;exact rd (i+1,u,x) (by dsimp only; omega) ⟨hi,j2,yD j3 x1,by dsimp only; rw [hk']; exact x2⟩ rfl
 ·obtain rfl:i=n:=by omega
  rw [Kg] at j4;simp only [EC] at j4;injection j4 with j4; subst j4;exact Uc [.f (by simp)] rfl
theorem Qmr {a b:Rat} (ha:Qb a) (hb:Qb b):Ug 61 [.agg (rl a),.one (.row [rl b])] [.agg (rl (if 0<Ha b a then b else a))]:=by
 have ca:=PD (U3 a.num) (U3 (a.den:Int)) ha.s32.1 ha.s32.2;have cb:=PD (U3 b.num) (U3 (b.den:Int)) hb.s32.1 hb.s32.2;rw [Ss] at ca cb;have cc:=B5 hb.s31 ha.s31;refine Fw func61 rfl ?_;refine Ua [.k ca] rfl ?_;refine Uf (S:=Nat) 3 (λL1 i=>(12,.v (.oi i))::L1) (λi=>[.blk 42 (rl a),.blk 42 [.bool false,.nils,.bool false,.nils],.blk 42 (rl (if i=0 then a else if 0<Ha b a then b else a))]) (λi=>1-i) (λi=>i<=1) 0 (Qh _) rfl rfl λi hi=>?_
 rcases (show i=0\/i=1 by omega) with rfl | rfl
 ·by_cases h:0<Ha b a
  ·refine Ua [.t rfl,.x (i:=0) (xs:=rl b) rfl,.k cc,.t (by simpa using h),.k cb] rfl ?_ (by simp [Uz]);exact rd 1 (by omega) (by omega) (by rw [if_pos h]; rfl)
  ·refine Ua [.t rfl,.x (i:=0) (xs:=rl b) rfl,.k cc,.f (by simpa using h)] rfl ?_ (by simp [Uz]);exact rd 1 (by omega) (by omega) (by rw [if_neg h]; rfl)
 ·exact Uc [.f rfl] rfl
theorem VE {a b:Tm} {c:Int} (ha:Tb a) (hb:Tb b) (h:WI a b=some c):Ug 158 [.agg (ta a),.agg (ta b)] [.oi c]:=by
 have ca:=PL ha;have cb:=PL hb;have pa:=Dv ha;have pb:=Dv hb;unfold WI at h;by_cases h1:a.point=true
 ·rw [if_pos h1] at h;injection h with h; subst h;have:=Qmw b a.lo;exact Ud func158 rfl [.k ca,.k cb,.k pa,.t h1,.k (C6 hb ha.lo)] rfl rfl (by simp [Uz]; omega)
 rw [if_neg h1] at h;have h1:a.point=false:=by simpa using h1
 by_cases h2:b.point=true
 ·rw [if_pos h2] at h;injection h with h; subst h;exact Ud func158 rfl [.k ca,.k cb,.k pa,.f h1,.k pb,.t h2,.k (C6 ha hb.lo)] rfl
 rw [if_neg h2] at h;have h2:b.point=false:=by simpa using h2
 obtain ⟨lo,hlo⟩:=nmE (if 0<Ha b.lo a.lo then b.lo else a.lo);obtain ⟨hi,hhi⟩:=nmE (if Ha b.hi a.hi<0 then b.hi else a.hi);have h:(if Ha lo hi<0 then (yX a.p b.p).bind λg=>if 1<g.length/\UR g lo hi=true then some 0 else (EC (Pv a b) a b).bind λr=>some r.2.2 else (EC (Pv a b) a b).bind λr=>some r.2.2)=some c:=by rw [hlo,hhi]; exact h
 have qlo:Qb lo:=by rw [hlo]; split; exact hb.lo; exact ha.lo
 have qhi:Qb hi:=by rw [hhi]; split; exact hb.hi; exact ha.hi
 have cm:=Qmr ha.lo hb.lo;rw [<-hlo] at cm;have cc1:=B5 hb.hi.s31 ha.hi.s31;have cc2:=B5 qlo.s31 qhi.s31;refine Fw func158 rfl ?_;refine Ua [.k ca,.k cb,.k pa,.f h1,.k pb,.f h2,.k cm] rfl ?_;refine ct 2 (S:=Unit) (λ_=>[(6,.v (.one (.ow 3 0))),(5,.v (.one (.ow 2 0))),(4,.v (.oi 0)),(3,.v (.one (.ow 1 0))),(2,.v (.one (.ow 0 0)))]) (λ_=>[.blk 177 (ta a),.blk 177 (ta b),.blk 42 (rl lo),.blk 42 (rl hi)]) (λ_=>True) rfl ?_ ?_
 ·by_cases D:Ha b.hi a.hi<0
  ·rw [if_pos D] at hhi; subst hhi;exact go tt [.k cc1,.t (by simpa using D)] rfl trivial (rc () trivial rfl)
  ·rw [if_neg D] at hhi; subst hhi;exact go tt [.k cc1,.f (by simpa using D)] rfl trivial (rc () trivial rfl)
 ·rintro _ _
  by_cases D:Ha lo hi<0
  ·rw [if_pos D] at h;obtain ⟨g,g1,h⟩:=Qd.1 h;have cg:=Qdw ha.p hb.p g1;have pg:=Qh6 ha.p hb.p g1;have ch:=Qem pg qlo qhi;by_cases G:1<g.length
   ·by_cases R:UR g lo hi=true
    ·rw [if_pos ⟨G,R⟩] at h;injection h with h; subst h;exact Uc [.k cc2,.t (by simpa using D),.k cg,.k (Mq g),.g 58 true (by simp; omega),.k ch,.t R] rfl
    ·rw [if_neg λh=>R h.2] at h;obtain ⟨r,r1,h⟩:=Qd.1 h;injection h with h; subst h;exact Uc [.k cc2,.t (by simpa using D),.k cg,.k (Mq g),.g 58 true (by simp; omega),.k ch,.f (by simpa using R),.k (zE ha hb r1)] rfl
   ·rw [if_neg λh=>G h.1] at h;obtain ⟨r,r1,h⟩:=Qd.1 h;injection h with h; subst h;exact Uc [.k cc2,.t (by simpa using D),.k cg,.k (Mq g),.g 58 false (by simp; omega),.f rfl,.k (zE ha hb r1)] rfl
  ·rw [if_neg D] at h;obtain ⟨r,r1,h⟩:=Qd.1 h;injection h with h; subst h;exact Uc [.k cc2,.f (by simpa using D),.k (zE ha hb r1)] rfl
theorem Qlh {p:Uj} {a:Tm} {s:Int} (hp:Pb p) (ha:Tb a) (h:FN p a=some s):Ug 203 [pr p,.agg (ta a)] [.oi s]:=by
 have ca:=PL ha;have pa:=Dv ha;have cn:=Hr hp.t hp.ln hp.bd;unfold FN at h;by_cases h0:p.length=0
 ·rw [if_pos h0] at h;injection h with h; subst h;exact Ud func203 rfl [.k cn,.k ca,.t (by simp; exact Qj h0)] rfl
 rw [if_neg h0] at h;have h0:p≠[]:=λe=>h0 (by rw [e]; rfl)
 by_cases h1:a.point=true
 ·rw [if_pos h1] at h;injection h with h; subst h;exact Ud func203 rfl [.k cn,.k ca,.f (by simpa using h0),.k pa,.t h1,.k (SI hp ha.lo)] rfl
 rw [if_neg h1] at h;have h1:a.point=false:=by simpa using h1
 obtain ⟨g,g1,h⟩:=Qd.1 h;have cg:=Qdw hp ha.p g1;have pg:=Qh6 hp ha.p g1;have ch:=Qem pg ha.lo ha.hi;by_cases G:1<g.length/\UR g a.lo a.hi=true
 ·rw [if_pos G] at h;injection h with h; subst h;exact Ud func203 rfl [.k cn,.k ca,.f (by simpa using h0),.k pa,.f h1,.k cg,.k (Mq g),.g 29 true (by simp; omega),.k ch,.t G.2] rfl
 rw [if_neg G] at h;obtain ⟨c,c1,h⟩:=Qd.1 h;obtain ⟨u,u1,h⟩:=Qd.1 h;injection h with h; subst h;obtain ⟨cl,call⟩:=chain_ok hp c1;obtain ⟨n,hn⟩:=nmE (64+2*(Fe a.lo.num+Fe a.hi.num)+4*(a.p.length+p.length)*(G6 a.p+G6 p+(a.p.length+p.length)+8));have cst:=Qe2 ha hp;rw [show bE p a=n from hn.symm] at cst;rw [<-hn] at u1;have hnb:n<=17179938816+200000000:=by
  have l1:=ha.p.l;have l2:=hp.l;have b1:=ha.lo.1;have b2:=ha.hi.1;have s1:G6 a.p<=16777216:=by have:=Ma ha.p.b a.p.length; rwa [Q5] at this
  have s2:G6 p<=16777216:=by have:=Ma hp.b p.length; rwa [Q5] at this
  have:4*(a.p.length+p.length)*(G6 a.p+G6 p+(a.p.length+p.length)+8)<=512*33554568:=Zi (by omega) (by omega);omega
 refine Fw func203 rfl ?_;refine Ua [.k cn,.k ca,.f (by simpa using h0),.k pa,.f h1,.k cg] rfl ?_;refine ct 2 (S:=Unit) (λ_=>[(3,.v (.one (.ow 0 0))),(0,.v (pr p))]) (λ_=>[.blk 177 (ta a)]) (λ_=>True) rfl ?_ ?_
 ·by_cases G1:1<g.length
  ·exact go tt [.k (Mq g),.g 29 true (by simp; omega),.k ch,.f (by simpa using λh=>G ⟨G1,h⟩)] rfl trivial (rc () trivial rfl)
  ·exact go tt [.k (Mq g),.g 29 false (by simp; omega),.f rfl] rfl trivial (rc () trivial rfl)
 rintro _ _
 refine Ua [.k (Qd5 hp c1),.k cst] rfl ?_;refine Uf (S:=Nat×Tm) 1 (λL1 s=>(46,.v (.oi (s.1:Int)))::L1) (λs=>[.blk 177 (ta s.2)]) (λs=>n-s.1) (λs=>s.1<=n/\Tb s.2/\sgF c (n-s.1) s.2=some u) (0,a) ⟨Qh _,ha,u1⟩ rfl rfl λ⟨i,x⟩ ⟨j1,j2,j3⟩=>?_
 dsimp only at j1 j2 j3 ⊢;by_cases hi:i<n
 ·obtain ⟨k,hk⟩:∃ k,n-i=k+1:=⟨n-i-1,by omega⟩;have hk':n-(i+1)=k:=by omega
  rw [hk] at j3;simp only [sgF] at j3;have px:=Dv j2;have cb:=AT (by omega) call j2.lo j2.hi;have hlt:decide ((i:Int)<(n:Int))=true:=by simp; omega
  by_cases X:x.point=true
  ·rw [if_pos (.inl X)] at j3;injection j3 with j3; subst j3;exact Uc [.t hlt,.k px,.g 50 true X,.t rfl,.k (SI hp j2.hi)] rfl
  ·have X':x.point=false:=by simpa using X
   by_cases Z:Tg c x.lo x.hi=0
   ·rw [if_pos (.inr Z)] at j3;injection j3 with j3; subst j3;exact Uc [.t hlt,.k px,.g 50 false X',.k cb,.t (by simpa using Z),.k (SI hp j2.hi)] rfl
   ·rw [if_neg (by rintro (h | h); exact X h; exact Z h)] at j3;obtain ⟨v,v1,v2⟩:=Qd.1 j3;refine Ub [.t hlt,.k px,.g 50 false X',.k cb,.f (by simpa using Z),.k (sL j2 v1)] rfl ?_;exact rd (i+1,v) (by dsimp only; omega) ⟨hi,yD j2 v1,by dsimp only; rw [hk']; exact v2⟩ rfl
 ·obtain rfl:i=n:=by omega
  rw [Kg] at j3;simp only [sgF] at j3;injection j3 with j3; subst j3;exact Uc [.f (by simp),.k (SI hp j2.hi)] rfl
abbrev tas (l:List Tm):LV:=.row (l.map λt=>ta t)
theorem MO {l:List Tm} {i:Nat} {t:Tm} (h:l[i]? = some t):(l.map λt=>ta t)[i]? = some (ta t):=Gt h
def zTr:Uo:=[.row [],.bool false,.row [],.bool false,.row [],.bool false,.row [],.bool false,.row []]
theorem kX:Ug 185 [.one (.row [])] [.agg zTr,.one (.bool false)]:=Ud func185 rfl [.t rfl] rfl
theorem Sw {b:Tm} {l:List Tm} {m:Tm} (hb:Tb b) (hl:∀ t∈l,Tb t) (hn:l.length≤1000000) (h:QH b l=some m):Ug 185 [.one (tas (b::l))] [.agg (ta m),.one (.bool true)]:=by
 refine Fw func185 rfl ?_;refine go tt [.f (by simp; omega),.x (i:=0) (xs:=ta b) rfl,.i 1] rfl (by simp [Uz]; exact ⟨rfl,λ_ _=>rfl⟩) ?_;refine Uf (S:=Nat×Tm) 2 (λL1 s=>(17,.v (.oi (s.1:Int)))::L1) (λs=>[.blk 177 zTm,.blk 177 (ta s.2)]) (λs=>l.length-s.1) (λs=>s.1<=l.length/\Tb s.2/\QH s.2 (l.drop s.1)=some m) (0,b) ⟨Qh _,hb,h⟩ rfl rfl λ⟨i,x⟩ ⟨j1,j2,j3⟩=>?_
 dsimp only at j1 j2 j3 ⊢;by_cases hi:i<l.length
 ·obtain ⟨a,ha⟩:=gxE (l:=l) (i:=i) hi;have hdr:l.drop i=a::l.drop (i+1):=by
   rw [Zu hi]; congr 1;have:=Qe hi; rw [ha] at this; injection this with this; exact this.symm
  rw [hdr] at j3;simp only [QH] at j3;obtain ⟨c,c1,j3⟩:=Qd.1 j3;have ta':=hl a (Qa ha);by_cases hc:c<0
  ·rw [if_pos hc] at j3;refine Ub [.t (by simp; omega),.x (MO ha),.k (VE ta' j2 c1),.t (by simpa using hc)] rfl ?_;exact rd (i+1,a) (by dsimp only; omega) ⟨hi,ta',j3⟩ rfl
  ·rw [if_neg hc] at j3;refine Ub [.t (by simp; omega),.x (MO ha),.k (VE ta' j2 c1),.f (by simpa using hc)] rfl ?_;exact rd (i+1,x) (by dsimp only; omega) ⟨hi,j2,j3⟩ rfl
 ·obtain rfl:i=l.length:=by omega
  rw [Y8] at j3;simp only [QH] at j3;injection j3 with j3; subst j3;exact Uc [.f (by simp),.k (Qe5 j2)] rfl
end Orr
namespace Orq
def Fh (x:Rat):Rat:=if x<0 then -x else x
theorem Hp (x:Rat):0<=Fh x:=by unfold Fh; split <;> grind
theorem Mb {x b:Rat}:Fh x<=b↔-b<=x/\x<=b:=by unfold Fh; split <;> constructor <;> grind
theorem yU {x b:Rat}:Fh x<b↔-b<x/\x<b:=by unfold Fh; split <;> constructor <;> grind
theorem T0 (x y:Rat):Fh (x+y)<=Fh x+Fh y:=by unfold Fh; split <;> split <;> split <;> grind
theorem iZ (x y:Rat):Fh (x-y)=Fh (y-x):=by unfold Fh; split <;> split <;> grind
theorem Ef (x:Rat):Fh (-x)=Fh x:=by unfold Fh; split <;> split <;> grind
theorem Re:Fh 0=0:=by decide
theorem Ci {x:Rat} (h:x≠0):0<Fh x:=by unfold Fh; split <;> grind
theorem Qor {x:Rat} (h:Fh x=0):x=0:=by unfold Fh at h; split at h <;> grind
theorem Nv {x y:Rat} (h1:0<=x) (h2:0<=y):0<=x*y:=Vx h1 h2
theorem Il {x y:Rat} (h1:0<x) (h2:0<y):0<x*y:=Xp h1 h2
theorem Cd {a b c d:Rat} (h0:0<=a) (h1:a<=b) (h2:0<=c) (h3:c<=d):a*c<=b*d:=by
 have e1:=Zc h1 h2;have e2:=Z1 h3 (Zh h0 h1);exact Zh e1 e2
theorem Ib (x y:Rat):Fh (x*y)=Fh x*Fh y:=by
 unfold Fh;by_cases h1:x<0 <;> by_cases h2:y<0
 ·have:=Il (x:=-x) (y:=-y) (by grind) (by grind); simp only [h1,h2,if_true]; split <;> grind
 ·have:=Nv (x:=-x) (y:=y) (by grind) (by grind); simp only [h1,h2,if_true,if_false]; split <;> grind
 ·have:=Nv (x:=x) (y:=-y) (by grind) (by grind); simp only [h1,h2,if_true,if_false]; split <;> grind
 ·have:=Nv (x:=x) (y:=y) (by grind) (by grind); simp only [h1,h2,if_false]; split <;> grind
theorem G9 {x y a b:Rat} (h1:Fh x<=a) (h2:Fh y<=b):Fh (x*y)<=a*b:=by
 rw [Ib]; exact Cd (Hp x) h1 (Hp y) h2
theorem E5 {x y:Rat} (h1:0<x) (h2:0<y):0<x / y:=by rw [Jt]; exact Il h1 (Rat.inv_pos.2 h2)
theorem Hb {x y:Rat} (h2:0<y):x / y*y=x:=Zf (by grind)
theorem Hf {b d:Rat} (hb:0<=b) (hd:0<d):∃ e:Rat,0<e/\e<=1/\e*b<d:=by
 have h1:0<d / (b+1):=E5 hd (by grind);have h2:d / (b+1)*(b+1)=d:=Hb (by grind);rcases Vw (a:=d / (b+1)) (b:=1) with h | h
 ·exact ⟨d / (b+1),h1,h,by
   have:d / (b+1)*(b+1)=d / (b+1)*b+d / (b+1):=by grind
   grind⟩
 ·refine ⟨1,by decide,by decide,?_⟩;have:1*(b+1)<=d / (b+1)*(b+1):=Zc h (by grind);grind
def ev:Um->Rat->Rat
 | [],_=>0
 | a::p,t=>a+t*ev p t
def dv:Um->Rat->Rat
 | [],_=>0
 | _::p,t=>ev p t+t*dv p t
def dq:Um->Rat->Rat->Rat
 | [],_,_=>0
 | _::p,x,y=>ev p x+y*dq p x y
def dd:Um->Rat->Rat->Rat
 | [],_,_=>0
 | _::p,x,y=>dq p x y+y*dd p x y
theorem IF (x y:Rat):∀ p,ev p x-ev p y=(x-y)*dq p x y
 | []=>by simp only [ev,dq]; grind
 | a::p=>by have:=IF x y p; simp only [ev,dq]; grind
theorem xU (y:Rat):∀ p,dq p y y=dv p y
 | []=>rfl
 | a::p=>by simp only [dq,dv,xU y p]
theorem Qqu (x y:Rat):∀ p,dq p x y-dv p y=(x-y)*dd p x y
 | []=>by simp only [dv,dq,dd]; grind
 |
  a::p=>by
  have h1:=Qqu x y p;have h2:=IF x y p;simp only [dv,dq,dd]; grind
theorem Qqy (p:Um) (x y:Rat):ev p x-ev p y=(x-y)*dv p y+(x-y)*(x-y)*dd p x y:=by
 have h1:=IF x y p;have h2:=Qqu x y p;grind
def wO (R:Rat):Um->Rat
 | []=>0
 | a::p=>Fh a+R*wO R p
def EL (R:Rat):Um->Rat
 | []=>0
 | _::p=>wO R p+R*EL R p
def ddB (R:Rat):Um->Rat
 | []=>0
 | _::p=>EL R p+R*ddB R p
theorem ZE {R:Rat} (hR:0<=R):∀ p,0<=wO R p
 | []=>by simp only [wO]; grind
 | a::p=>by have:=Nv hR (ZE hR p); have:=Hp a; simp only [wO]; grind
theorem Mw {R:Rat} (hR:0<=R):∀ p,0<=EL R p
 | []=>by simp only [EL]; grind
 | a::p=>by have:=Nv hR (Mw hR p); have:=ZE hR p; simp only [EL]; grind
theorem BC {R:Rat} (hR:0<=R):∀ p,0<=ddB R p
 | []=>by simp only [ddB]; grind
 | a::p=>by have:=Nv hR (BC hR p); have:=Mw hR p; simp only [ddB]; grind
theorem TD {R x:Rat} (hx:Fh x<=R):∀ p,Fh (ev p x)<=wO R p
 | []=>by simp only [ev,wO,Re]; grind
 |
  a::p=>by
  have h1:=T0 a (x*ev p x);have h2:=G9 hx (TD hx p);simp only [ev,wO]; grind
theorem wT {R x y:Rat} (hx:Fh x<=R) (hy:Fh y<=R):∀ p,Fh (dq p x y)<=EL R p
 | []=>by simp only [dq,EL,Re]; grind
 |
  a::p=>by
  have h1:=T0 (ev p x) (y*dq p x y);have h2:=G9 hy (wT hx hy p);have h3:=TD hx p;simp only [dq,EL]; grind
theorem Qfl {R x y:Rat} (hx:Fh x<=R) (hy:Fh y<=R):∀ p,Fh (dd p x y)<=ddB R p
 | []=>by simp only [dd,ddB,Re]; grind
 |
  a::p=>by
  have h1:=T0 (dq p x y) (y*dd p x y);have h2:=G9 hy (Qfl hx hy p);have h3:=wT hx hy p;simp only [dd,ddB]; grind
theorem Qtl {R x y:Rat} (hx:Fh x<=R) (hy:Fh y<=R) (p:Um):Fh (ev p x-ev p y)<=Fh (x-y)*EL R p:=by
 rw [IF,Ib]; exact Cd (Hp _) Qp (Hp _) (wT hx hy p)
def Se:Um->Um->Um
 | [],q=>q
 | a::p,[]=>a::p
 | a::p,b::q=>(a+b)::Se p q
def Dq (c:Rat) (p:Um):Um:=p.map (c * ·)
def G0:Um->Um->Um
 | [],_=>[]
 | a::p,q=>Se (Dq a q) (0::G0 p q)
def Nz:Um->Um
 | []=>[]
 | _::p=>Se p (0::Nz p)
theorem Gy (t:Rat):∀ p q,ev (Se p q) t=ev p t+ev q t
 | [],q=>by simp only [Se,ev]; grind
 | a::p,[]=>by simp only [Se,ev]; grind
 | a::p,b::q=>by have:=Gy t p q; simp only [Se,ev]; grind
theorem Gm (c t:Rat):∀ p,ev (Dq c p) t=c*ev p t
 | []=>by simp only [Dq,X5,ev]; grind
 | a::p=>by have:=Gm c t p; simp only [Dq,Z0,ev] at *; grind
theorem Ff (t:Rat):∀ p q,ev (G0 p q) t=ev p t*ev q t
 | [],q=>by simp only [G0,ev]; grind
 | a::p,q=>by have:=Ff t p q; simp only [G0,Gy,Gm,ev]; grind
theorem Ti (t:Rat):∀ p,ev (Nz p) t=dv p t
 | []=>rfl
 | a::p=>by have:=Ti t p; simp only [Nz,Gy,ev,dv]; grind
theorem xG (t:Rat):∀ p q,dv (Se p q) t=dv p t+dv q t
 | [],q=>by simp only [Se,dv]; grind
 | a::p,[]=>by simp only [Se,dv]; grind
 | a::p,b::q=>by have:=xG t p q; have:=Gy t p q; simp only [Se,dv]; grind
theorem HK (c t:Rat):∀ p,dv (Dq c p) t=c*dv p t
 | []=>by simp only [Dq,X5,dv]; grind
 | a::p=>by have:=HK c t p; have:=Gm c t p; simp only [Dq,Z0,dv] at *; grind
theorem xH (t:Rat):∀ p q,dv (G0 p q) t=dv p t*ev q t+ev p t*dv q t
 | [],q=>by simp only [G0,dv,ev]; grind
 | a::p,q=>by have:=xH t p q; have:=Ff t p q; simp only [G0,xG,HK,dv,ev]; grind
theorem lG:∀ {p:Um},(∀ x∈p,x=0)->∀ t,ev p t=0
 | [],_,t=>rfl
 |
  a::p,h,t=>by
  have h1:=lG (p:=p) (λx hx=>h x (Qg _ hx)) t;have h2:=h a (Qx ..);simp only [ev,h1,h2]; grind
theorem lY:∀ {p:Um},(∀ x∈p,x=0)->∀ t,dv p t=0
 | [],_,t=>rfl
 |
  a::p,h,t=>by
  have h0:=λx hx=>h x (Qg _ hx)
  have h1:=lG (p:=p) h0 t;have h2:=lY (p:=p) h0 t;simp only [dv,h1,h2]; grind
theorem WF:∀ {p:Um},(∀ t,0<t->t<1->ev p t=0)->∀ x∈p,x=0
 | [],_=>λx hx=>by cases hx
 |
  a::p,h=>by
  have ha:a=0:=by
   rcases Classical.em (a=0) with h0 | h0
   ·exact h0
   ·obtain ⟨e,e1,e2,e3⟩:=Hf (ZE (R:=1) (by decide) p) (Ci h0);obtain ⟨f,f1,f2,f3⟩:=Hf (b:=1) (d:=e) (by decide) e1;have h1:=h f f1 (by grind);have h2:=TD (R:=1) (x:=f) (by unfold Fh; split <;> grind) p;have h3:=Ib f (ev p f);have h4:Fh f=f:=by unfold Fh; split <;> grind
    have h5:a=-(f*ev p f):=by simp only [ev] at h1; grind
    have h6:Fh a=f*Fh (ev p f):=by rw [h5,Ef,h3,h4]
    have h7:f*Fh (ev p f)<=e*wO 1 p:=Cd (Qr f1) (by grind) (Hp _) h2;grind
  intro x hx;rcases Qm.1 hx with rfl | hx
  ·exact ha
  ·refine WF (p:=p) (λt h1 h2=>?_) x hx;have:=h t h1 h2;simp only [ev,ha] at this;have h3:t*ev p t=0:=by grind
   rcases Yz.1 h3 with h4 | h4
   ·grind
   ·exact h4
theorem Qft {p q:Um} (h:∀ t,ev p t=ev q t) (t:Rat):dv p t=dv q t:=by
 have h1:=lY (p:=Se p (Dq (-1) q)) (WF λt _ _=>by rw [Gy,Gm,h t]; grind) t;rw [xG,HK] at h1; grind
def Fc (x:Rat):Int:=if x<0 then -1 else if 0<x then 1 else 0
theorem Gj {x:Rat}:Fc x=0↔x=0:=by
 unfold Fc; constructor
 ·intro h; split at h <;> (try split at h) <;> grind
 ·intro h; subst h; rfl
theorem Ht {x:Rat}:Fc x=1↔0<x:=by
 unfold Fc; constructor
 ·intro h; split at h <;> (try split at h) <;> grind
 ·intro h; rw [if_neg (by grind),if_pos h]
theorem S6 {x:Rat}:Fc x=-1↔x<0:=by
 unfold Fc; constructor
 ·intro h; split at h <;> (try split at h) <;> grind
 ·intro h; rw [if_pos h]
theorem Fu (x:Rat):Fc x=-1/\x<0\/Fc x=0/\x=0\/Fc x=1/\0<x:=by
 rcases Vw (a:=x) (b:=0) with h | h
 ·rcases Classical.em (x=0) with h0 | h0
  ·exact .inr (.inl ⟨Gj.2 h0,h0⟩)
  ·exact .inl ⟨S6.2 (by grind),by grind⟩
 ·rcases Classical.em (x=0) with h0 | h0
  ·exact .inr (.inl ⟨Gj.2 h0,h0⟩)
  ·exact .inr (.inr ⟨Ht.2 (by grind),by grind⟩)
theorem Sf (x y:Rat):Fc (x*y)=Fc x*Fc y:=by
 rcases Fu x with ⟨e1,h1⟩ | ⟨e1,h1⟩ | ⟨e1,h1⟩ <;> rcases Fu y with ⟨e2,h2⟩ | ⟨e2,h2⟩ | ⟨e2,h2⟩ <;> rw [e1,e2]
 ·have:=Il (x:=-x) (y:=-y) (by grind) (by grind); exact Ht.2 (by grind)
 ·subst h2; exact Gj.2 (by grind)
 ·have:=Il (x:=-x) (y:=y) (by grind) (by grind); exact S6.2 (by grind)
 ·subst h1; exact Gj.2 (by grind)
 ·subst h1; exact Gj.2 (by grind)
 ·subst h1; exact Gj.2 (by grind)
 ·have:=Il (x:=x) (y:=-y) (by grind) (by grind); exact S6.2 (by grind)
 ·subst h2; exact Gj.2 (by grind)
 ·exact Ht.2 (Il h1 h2)
theorem Po {a b d:Rat} (h1:d<=Fh a) (h2:Fh (b-a)<d):Fc b=Fc a/\Fc a≠0:=by
 rw [yU] at h2;rcases Fu a with ⟨e,h⟩ | ⟨e,h⟩ | ⟨e,h⟩
 ·rw [e,S6]; unfold Fh at h1; rw [if_pos h] at h1; exact ⟨by grind,by decide⟩
 ·subst h; rw [Re] at h1; grind
 ·rw [e,Ht]; unfold Fh at h1; rw [if_neg (by grind)] at h1; exact ⟨by grind,by decide⟩
def tc (x:Rat):Int->Un->Nat
 | _,[]=>0
 | s,p::l=>if Fc (ev p x)=0 then tc x s l else (if s=-(Fc (ev p x)) then 1 else 0)+tc x (Fc (ev p x)) l
inductive SCl:List Rat->List Rat->List (List Rat)->Prop
 | base {f g:List Rat} {c:Rat} (hc:c≠0) (hg:∀ t,ev g t=c):SCl f g []
 | step {f g h:List Rat} {l:List (List Rat)} {a b:Rat} {q:List Rat} (ha:0<a) (hb:0<b) (he:∀ t,a*ev f t=ev q t*ev g t-b*ev h t) (hl:SCl g h l):SCl f g (h::l)
theorem Qj1 {x:Rat} {s:Int} {g h:Um} {l:Un} (hh:Fc (ev h x)=-s) (hs:s≠0):tc x s (g::h::l)=1+tc x (-s) l:=by
 have h3:Fc (ev h x)≠0:=by omega
 have hv:s=1\/s=-1:=by rcases Fu (ev h x) with ⟨e,_⟩ | ⟨e,_⟩ | ⟨e,_⟩ <;> omega
 simp only [tc,if_neg h3,hh];rcases Fu (ev g x) with ⟨e,_⟩ | ⟨e,_⟩ | ⟨e,_⟩ <;> rw [e] <;> rcases hv with rfl | rfl <;> simp
theorem FA {x:Rat} {s:Int} {p:Um} {l:Un} (h:Fc (ev p x)≠0):tc x s (p::l)=(if s=-(Fc (ev p x)) then 1 else 0)+tc x (Fc (ev p x)) l:=by rw [tc,if_neg h]
theorem P7 {R x y e d:Rat} {p:Um} (hx:Fh x<=R) (hy:Fh y<=R) (hR:0<=R) (h:Fh (y-x)<=e) (hd:e*EL R p<d):Fh (ev p y-ev p x)<d:=by
 have h1:=Qtl hy hx p;have h2:=Zc h (Mw hR p);grind
theorem OT {a x y:Rat} (ha:0<a) (h:a*x<a*y):x<y:=by
 rcases Vw (a:=y) (b:=x) with h' | h'
 ·have:=Z1 h' (Qr ha); grind
 ·rcases Classical.em (x=y) with e | e
  ·subst e; grind
  ·grind
theorem Qu3 {a b d d' B f g h q:Rat} (ha:0<a) (hb:0<b) (dp:0<d) (h7:B*d+a*d<b*d') (hq:Fh q<=B) (hg:Fh g<d) (hh:d'<=Fh h) (he:a*f=q*g-b*h) (hd':0<d'):Fc h=-Fc f/\d<=Fh f:=by
 have h4:=G9 hq (Qr hg);rw [Mb] at h4;have had:=Il ha dp;have h8:=Z1 hh (Qr hb);rcases Fu h with ⟨s,p⟩ | ⟨s,p⟩ | ⟨s,p⟩
 ·have:Fh h=-h:=by unfold Fh; rw [if_pos p]
  rw [this] at h8;have h10:d<f:=OT ha (by grind);rw [s,Ht.2 (show 0<f by grind)];exact ⟨rfl,by unfold Fh; split <;> grind⟩
 ·rw [p,Re] at hh; grind
 ·have:Fh h=h:=by unfold Fh; rw [if_neg (by grind)]
  rw [this] at h8;have h10:f < -d:=OT ha (by grind);rw [s,S6.2 (show f<0 by grind)];exact ⟨rfl,by unfold Fh; split <;> grind⟩
theorem min2 {a b:Rat} (ha:0<a) (hb:0<b):∃ e:Rat,0<e/\e<=a/\e<=b:=by
 rcases Vw (a:=a) (b:=b) with h | h
 ·exact ⟨a,ha,Qp,h⟩
 ·exact ⟨b,hb,h,Qp⟩
theorem Ga (a b:Rat):a<=b\/b<a:=by
 rcases Vw (a:=a) (b:=b) with h | h
 ·exact .inl h
 ·rcases Classical.em (a=b) with e | e
  ·exact .inl (by grind)
  ·exact .inr (by grind)
theorem Qt6 {R:Rat} (hR:0<=R) {f g:Um} {l:Un} (hc:SCl f g l):∃ d e:Rat,0<d/\0<e/\∀ x y,Fh x<=R->Fh y<=R->Fh (y-x)<=e ->
 (d<=Fh (ev f x)\/d<=Fh (ev g x))/\(d<=Fh (ev f x)->Fc (ev f y)=Fc (ev f x)/\Fc (ev f x)≠0)/\(d<=Fh (ev g x)->Fc (ev g y)=Fc (ev g x)/\Fc (ev g x)≠0) /\
 (Fc (ev f y)=Fc (ev f x)->Fc (ev f x)≠0->tc x (Fc (ev f x)) (g::l)=tc y (Fc (ev f x)) (g::l)) /\
 (Fc (ev g y)=Fc (ev g x)->Fc (ev g x)≠0->tc x (Fc (ev g x)) l=tc y (Fc (ev g x)) l):=by
 induction hc with
 |
  @base f g c hc hg =>
  have hd:=Ci hc;obtain ⟨e,e1,e2,e3⟩:=Hf (Mw hR f) hd;refine ⟨Fh c,e,hd,e1,λx y hx hy hxy=>⟨.inr (by rw [hg]; exact Qp),λh=>Po h (P7 hx hy hR hxy e3),λh=>?_,λ_ _=>?_,λ_ _=>rfl⟩⟩
  ·rw [hg,hg]; exact ⟨rfl,λh=>hc (Gj.1 h)⟩
  ·simp only [tc,hg]
 |
  @step f g h l a b q ha hb he hl ih =>
  obtain ⟨d',e',hd',he',ih⟩:=ih;obtain ⟨d1,d1p,_,d1b⟩:=Hf (b:=wO R q+a) (d:=b*d') (by have:=ZE hR q; grind) (Il hb hd');obtain ⟨d,dp,hd1,hdd⟩:=min2 d1p hd';obtain ⟨ef,ef1,_,ef3⟩:=Hf (Mw hR f) dp;obtain ⟨eg,eg1,_,eg3⟩:=Hf (Mw hR g) dp;obtain ⟨e0,e0p,h1,h2⟩:=min2 ef1 eg1;obtain ⟨e,ep,h0,h3⟩:=min2 e0p he';have h1:=Zh h0 h1;have h2:=Zh h0 h2;refine ⟨d,e,dp,ep,λx y hx hy hxy=>?_⟩;obtain ⟨i1,i2,i3,i4,i5⟩:=ih x y hx hy (Zh hxy h3);have hsm:Fh (ev g x)<d->d'<=Fh (ev h x)/\Fc (ev h x)=-Fc (ev f x)/\d<=Fh (ev f x):=λhg=>by
   have hh:d'<=Fh (ev h x):=by
    rcases i1 with i | i
    ·exact absurd (Zh hdd i) (Jp.2 hg)
    ·exact i
   have h6:d*(wO R q+a)<=d1*(wO R q+a):=Zc hd1 (by have:=ZE hR q; clear ih i1 i2 i3 i4 i5 he; grind);have h7:wO R q*d+a*d<b*d':=by clear ih i1 i2 i3 i4 i5 he; grind
   exact ⟨hh,Qu3 ha hb dp h7 (TD hx q) hg hh (he x) hd'⟩
  have hfs:d<=Fh (ev f x)->Fc (ev f y)=Fc (ev f x)/\Fc (ev f x)≠0:=λh=>Po h (P7 hx hy hR (Zh hxy h1) ef3)
  have hgs:d<=Fh (ev g x)->Fc (ev g y)=Fc (ev g x)/\Fc (ev g x)≠0:=λh=>Po h (P7 hx hy hR (Zh hxy h2) eg3)
  refine ⟨?_,hfs,hgs,λs1 s2=>?_,i4⟩
  ·rcases Ga d (Fh (ev g x)) with h | h
   ·exact .inr h
   ·exact .inl (hsm h).2.2
  ·rcases Ga d (Fh (ev g x)) with h | h
   ·obtain ⟨g1,g2⟩:=hgs h;rw [FA (x:=x) (p:=g) g2,FA (x:=y) (p:=g) (by rw [g1]; exact g2),g1,i4 g1 g2]
   ·obtain ⟨h4,h5,_⟩:=hsm h;obtain ⟨h6,h7⟩:=i3 h4;have i5:=i5 h6 h7;rw [Qj1 h5 s2,Qj1 (h6.trans h5) s2,<-h5,i5]
def Ph (p:Um) (x:Rat):Int:=if Fc (ev p x)≠0 then Fc (ev p x) else Fc (dv p x)
def vv (L:Un) (x:Rat):Nat:=tc x 0 L
def GH (f:Um) (L:Un):Prop:=(∃ c:Rat,c≠0/\(∀ t,ev f t=c)/\L=[f])\/∃ g l,∃ k:Rat,0<k/\(∀ t,ev g t=k*dv f t)/\SCl f g l/\L=f::g::l
structure Sm (w:List Rat) (x y:Rat):Prop where
 s:Fc (ev w y)=Ph w x
 l:Ph w y=Ph w x
 n:Ph w x≠0
theorem Ae {p:Um} {x:Rat} (h:Fc (ev p x)≠0):Ph p x=Fc (ev p x):=by unfold Ph; rw [if_pos h]
theorem mP {p:Um} {x:Rat} (h:Fc (ev p x)=0):Ph p x=Fc (dv p x):=by unfold Ph; rw [if_neg (by simpa using h)]
theorem rR {p:Um} {x y:Rat} (h:Fc (ev p y)=Fc (ev p x)) (h0:Fc (ev p x)≠0):Sm p x y:=by
 have h1:=Ae h0;have h2:=Ae (p:=p) (x:=y) (by rw [h]; exact h0);exact ⟨by rw [h,h1],by rw [h2,h1,h],by rw [h1]; exact h0⟩
theorem QK {f w u:Um} (h:∀ t,ev f t=ev w t*ev u t) (x:Rat):dv f x=dv w x*ev u x+ev w x*dv u x:=by
 rw [<-xH]; exact Qft (λt=>by rw [h,Ff]) x
theorem eN {f w u:Um} {x:Rat} (h:∀ t,ev f t=ev w t*ev u t) (hu:Fc (ev u x)≠0):Ph f x=Ph w x*Fc (ev u x):=by
 by_cases hw:Fc (ev w x)=0
 ·have hw0:=Gj.1 hw;have e1:ev f x=0:=by rw [h,hw0]; grind
  have e2:dv f x=dv w x*ev u x:=by rw [QK h,hw0]; grind
  rw [mP hw,mP (Gj.2 e1),e2,Sf]
 ·have e1:Fc (ev f x)=Fc (ev w x)*Fc (ev u x):=by rw [h,Sf]
  rw [Ae hw,Ae (by rw [e1]; exact Jm hw hu),e1]
theorem Qu4 {f w u:Um} {x y:Rat} (h:∀ t,ev f t=ev w t*ev u t) (hu:Fc (ev u y)=Fc (ev u x)) (h0:Fc (ev u x)≠0) (hf:Sm f x y):Sm w x y:=by
 have e1:=eN h h0;have e2:=eN (x:=y) h (by rw [hu]; exact h0);have e3:Fc (ev f y)=Fc (ev w y)*Fc (ev u y):=by rw [h,Sf]
 obtain ⟨s,l,n⟩:=hf;rw [hu] at e2 e3;refine ⟨?_,?_,λh=>n (by rw [e1,h,Yv])⟩
 ·rw [e3,e1] at s; exact Y0 h0 s
 ·rw [e2,e1] at l; exact Y0 h0 l
theorem tc0 {x:Rat} {s:Int} {f g:Um} {l:Un} (h:Fc (ev g x)=s) (hs:s≠0):tc x 0 (f::g::l)=(if Fc (ev f x)=-s then 1 else 0)+tc x s l:=by
 have hv:s=1\/s=-1:=by rcases Fu (ev g x) with ⟨e,_⟩ | ⟨e,_⟩ | ⟨e,_⟩ <;> omega
 have hg:Fc (ev g x)≠0:=by omega
 rw [tc];rcases Fu (ev f x) with ⟨e,_⟩ | ⟨e,_⟩ | ⟨e,_⟩ <;> rw [e] <;> rcases hv with rfl | rfl <;> simp [FA hg,h]
theorem DG {R x y e d:Rat} {p:Um} (hx:Fh x<=R) (hy:Fh y<=R) (hR:0<=R) (hxy:x<y) (h:y-x<=e) (hd:d<=Fh (dv p x)) (he:e*ddB R p<d):Fc (ev p y-ev p x)=Fc (dv p x):=by
 have h1:=Qqy p y x;have h2:ev p y-ev p x=(y-x)*(dv p x+(y-x)*dd p y x):=by rw [h1]; grind
 have h3:=G9 (x:=y-x) (y:=dd p y x) (a:=e) (b:=ddB R p) (by rw [Mb]; constructor <;> grind) (Qfl hy hx p);have h4:=Po (b:=dv p x+(y-x)*dd p y x) hd (by
  have:dv p x+(y-x)*dd p y x-dv p x=(y-x)*dd p y x:=by grind
  rw [this]; exact Jp.1 λh=>absurd (Zh h h3) (Jp.2 he))
 rw [h2,Sf,Ht.2 (show 0<y-x by grind),h4.1,Kq]
def Qcu (f w:Um) (L:Un) (x y:Rat):Prop :=
 (vv L x=vv L y/\Sm f x y/\Sm w x y)\/(vv L x=vv L y+1/\Ph f x≠0/\Ph f y=-Ph f x/\Fc (ev f x)=Ph f x/\(Fc (ev f y)=0\/Fc (ev f y)=-Ph f x))
theorem Qq1 {R d:Rat} (hR:0<=R) (hd:0<d) {f w u:Um} (h:∀ t,ev f t=ev w t*ev u t):∃ e:Rat,0<e/\∀ x y,Fh x<=R->Fh y<=R->Fh (y-x)<=e->d<=Fh (ev f x)->Sm f x y/\Sm w x y:=by
 obtain ⟨ef,ef1,_,ef3⟩:=Hf (Mw hR f) hd;obtain ⟨d1,d1p,_,d1b⟩:=Hf (ZE hR u) hd;obtain ⟨ew,ew1,_,ew3⟩:=Hf (Mw hR w) d1p;obtain ⟨e,ep,e1,e2⟩:=min2 ef1 ew1;refine ⟨e,ep,λx y hx hy hxy hf=>⟨?_,?_⟩⟩
 ·have:=Po hf (P7 hx hy hR (Zh hxy e1) ef3);exact rR this.1 this.2
 ·have hw:d1<=Fh (ev w x):=by
   rcases Ga d1 (Fh (ev w x)) with h' | h'
   ·exact h'
   ·have h5:=G9 (Qr h') (TD hx u);rw [<-h] at h5;exact absurd (Zh hf h5) (Jp.2 d1b)
  have:=Po hw (P7 hx hy hR (Zh hxy e2) ew3);exact rR this.1 this.2
theorem loc {R:Rat} (hR:0<=R) {f w u:Um} {L:Un} (hc:GH f L) (h:∀ t,ev f t=ev w t*ev u t):∃ e:Rat,0<e/\∀ x y,Fh x<=R->Fh y<=R->x<y->y-x<=e->Qcu f w L x y:=by
 rcases hc with ⟨c,hc,hf,rfl⟩ | ⟨g,l,k,hk,hg,hc,rfl⟩
 ·obtain ⟨e,ep,h1⟩:=Qq1 hR (Ci hc) h;refine ⟨e,ep,λx y hx hy hxy he=>.inl ⟨?_,h1 x y hx hy (by rw [Mb]; constructor <;> grind) (by rw [hf]; exact Qp)⟩⟩;simp only [vv,tc,hf]
 ·obtain ⟨d,e1,dp,e1p,h1⟩:=Qt6 hR hc;obtain ⟨e2,e2p,h2⟩:=Qq1 hR dp h;obtain ⟨d3,d3p,_,d3b⟩:=Hf (b:=k) (d:=d) (Qr hk) dp;obtain ⟨e3,e3p,_,e3b⟩:=Hf (BC hR f) d3p;obtain ⟨d4,d4p,_,d4b⟩:=Hf (b:=EL R w+EL R u) (d:=d3) (by have:=Mw hR w; have:=Mw hR u; grind) d3p;obtain ⟨e4,e4p,_,e4b⟩:=Hf (Mw hR w) d4p;obtain ⟨e5,e5p,_,e5b⟩:=Hf (Mw hR u) d4p;obtain ⟨a1,a1p,a11,a12⟩:=min2 e1p e2p;obtain ⟨a2,a2p,a21,a22⟩:=min2 e3p e4p;obtain ⟨a3,a3p,a31,a32⟩:=min2 a1p a2p;obtain ⟨e,ep,b1,b2⟩:=min2 a3p e5p;refine ⟨e,ep,λx y hx hy hxy he=>?_⟩;have hab:Fh (y-x)<=e:=by rw [Mb]; clear h1 h2; constructor <;> grind
  have hab1:Fh (y-x)<=e1:=by clear h1 h2; grind
  have hab2:Fh (y-x)<=e2:=by clear h1 h2; grind
  obtain ⟨i1,i2,i3,i4,i5⟩:=h1 x y hx hy hab1;rcases Ga d (Fh (ev f x)) with hf | hf
  ·obtain ⟨s1,s2⟩:=h2 x y hx hy hab2 hf;obtain ⟨j1,j2⟩:=i2 hf;refine .inl ⟨?_,s1,s2⟩;have:=i4 j1 j2;simp only [vv];rw [FA (x:=x) (p:=f) j2,FA (x:=y) (p:=f) (by rw [j1]; exact j2),j1,this]
  ·have hg1:d<=Fh (ev g x):=by
    rcases i1 with i | i
    ·exact absurd i (Jp.2 hf)
    ·exact i
   obtain ⟨g1,g2⟩:=i3 hg1;have i5:=i5 g1 g2;have hD:d3<=Fh (dv f x):=by
    rcases Ga d3 (Fh (dv f x)) with h' | h'
    ·exact h'
    ·have h5:=G9 (x:=k) (a:=k) (by unfold Fh; split <;> clear h1 h2 <;> grind) (Rat.le_of_lt h');rw [<-hg] at h5;have:k*d3=d3*k:=by grind
     exact absurd (Zh hg1 h5) (Jp.2 (by rw [this]; exact d3b))
   have hm:=DG hx hy hR hxy (by clear h1 h2; grind:y-x<=e3) hD e3b;have s1:Fc (ev g x)=Fc (dv f x):=by rw [hg,Sf,Ht.2 hk,Kq]
   have s2:Fc (ev g y)=Fc (dv f y):=by rw [hg,Sf,Ht.2 hk,Kq]
   obtain ⟨s,hs⟩:=nmE (Fc (ev g x));rw [<-hs] at g1 g2 i5 s1;rw [g1] at s2;have v1:=tc0 (f:=f) (l:=l) hs.symm g2;have v2:=tc0 (f:=f) (l:=l) g1 g2;rw [<-i5] at v2;rw [<-s1] at hm;have hw:Sm f x y->Sm w x y:=λhf=>by
    rcases Ga d4 (Fh (ev u x)) with hu | hu
    ·have hu:=Po hu (P7 hx hy hR (Zh hab b2) e5b);exact Qu4 h hu.1 hu.2 hf
    ·have hw:d4<=Fh (ev w x):=by
      rcases Ga d4 (Fh (ev w x)) with h' | h'
      ·exact h'
      ·have q1:=G9 (x:=dv w x) (y:=ev u x) (a:=EL R w) (by rw [<-xU]; exact wT hx hx w) (Qr hu);have q2:=G9 (x:=ev w x) (y:=dv u x) (b:=EL R u) (Qr h') (by rw [<-xU]; exact wT hx hx u);have q3:=T0 (dv w x*ev u x) (ev w x*dv u x);rw [<-QK h] at q3;have:d4*(EL R w+EL R u)=EL R w*d4+d4*EL R u:=by grind
       rw [this] at d4b;exact absurd (Zh hD (Zh q3 (by clear h1 h2; grind:_<=EL R w*d4+d4*EL R u))) (Jp.2 d4b)
     have hw:=Po hw (P7 hx hy hR (Zh hab (by clear h1 h2; grind)) e4b);exact rR hw.1 hw.2
   have lx:Ph f x=if Fc (ev f x)≠0 then Fc (ev f x) else s:=by rw [s1]; rfl
   have ly:Ph f y=if Fc (ev f y)≠0 then Fc (ev f y) else s:=by rw [s2]; rfl
   clear h1 h2 i1 i2 i3 i4;have hsv:s=1\/s=-1:=by rcases Fu (ev g x) with ⟨e,_⟩ | ⟨e,_⟩ | ⟨e,_⟩ <;> omega
   unfold Qcu;simp only [vv,v1,v2];rcases hsv with rfl | rfl
   ·have hm:=Ht.1 hm;rcases Fu (ev f x) with ⟨p1,p2⟩ | ⟨p1,p2⟩ | ⟨p1,p2⟩
    ·rcases Fu (ev f y) with ⟨q1,q2⟩ | ⟨q1,q2⟩ | ⟨q1,q2⟩
     ·rw [p1,q1]; have hsm:=rR (p:=f) (x:=x) (y:=y) (by rw [p1,q1]) (by rw [p1]; decide);exact .inl ⟨rfl,hsm,hw hsm⟩
     ·rw [lx,ly,p1,q1]; refine .inr ⟨by simp; omega,by decide,by decide,by decide,by decide⟩
     ·rw [lx,ly,p1,q1]; refine .inr ⟨by simp; omega,by decide,by decide,by decide,by decide⟩
    ·have q1:=Ht.2 (show 0<ev f y by grind);have hsm:Sm f x y:=⟨by rw [lx,q1,p1]; rfl,by rw [lx,ly,q1,p1]; rfl,by rw [lx,p1]; decide⟩;rw [p1,q1]; exact .inl ⟨rfl,hsm,hw hsm⟩
    ·have q1:=Ht.2 (show 0<ev f y by grind);have hsm:Sm f x y:=⟨by rw [lx,q1,p1]; rfl,by rw [lx,ly,q1,p1],by rw [lx,p1]; decide⟩;rw [p1,q1]; exact .inl ⟨rfl,hsm,hw hsm⟩
   ·have hm:=S6.1 hm;rcases Fu (ev f x) with ⟨p1,p2⟩ | ⟨p1,p2⟩ | ⟨p1,p2⟩
    ·have q1:=S6.2 (show ev f y<0 by grind);have hsm:Sm f x y:=⟨by rw [lx,q1,p1]; rfl,by rw [lx,ly,q1,p1],by rw [lx,p1]; decide⟩;rw [p1,q1]; exact .inl ⟨rfl,hsm,hw hsm⟩
    ·have q1:=S6.2 (show ev f y<0 by grind);have hsm:Sm f x y:=⟨by rw [lx,q1,p1]; rfl,by rw [lx,ly,q1,p1]; rfl,by rw [lx,p1]; decide⟩;rw [p1,q1]; exact .inl ⟨rfl,hsm,hw hsm⟩
    ·rcases Fu (ev f y) with ⟨q1,q2⟩ | ⟨q1,q2⟩ | ⟨q1,q2⟩
     ·rw [lx,ly,p1,q1]; refine .inr ⟨by simp; omega,by decide,by decide,by decide,by decide⟩
     ·rw [lx,ly,p1,q1]; refine .inr ⟨by simp; omega,by decide,by decide,by decide,by decide⟩
     ·rw [p1,q1]; have hsm:=rR (p:=f) (x:=x) (y:=y) (by rw [p1,q1]) (by rw [p1]; decide);exact .inl ⟨rfl,hsm,hw hsm⟩
theorem Qy4 (z:Rat):∃ n:Nat,z<=(n:Rat):=by
 refine ⟨z.ceil.toNat,?_⟩;have h1:z<=(z.ceil:Rat):=Rat.le_ceil;have h2:(z.ceil:Rat)<=((z.ceil.toNat:Int):Rat):=X9.2 (Int.self_le_toNat _);exact Zh h1 h2
theorem ZR {z e:Rat} (he:0<e):∃ n:Nat,z<=(n:Rat)*e:=by
 obtain ⟨n,hn⟩:=Qy4 (z / e);exact ⟨n,by have:=Zc hn (Qr he); rwa [Hb he] at this⟩
theorem US {R x y t:Rat} (hx:Fh x<=R) (hy:Fh y<=R) (h1:x<=t) (h2:t<=y):Fh t<=R:=by
 rw [Mb] at *; constructor <;> grind
def oJ (f w:Um) (L:Un) (x y:Rat):Prop :=
 vv L y<=vv L x/\(vv L x=vv L y->Sm f x y/\Sm w x y)/\(vv L x=vv L y+1->Ph f x≠0/\Ph f y=-Ph f x)
theorem eP {f w:Um} {L:Un} {x y:Rat} (h:Qcu f w L x y):oJ f w L x y:=by
 rcases h with ⟨h1,h2,h3⟩ | ⟨h1,h2,h3,_⟩
 ·exact ⟨by omega,λ_=>⟨h2,h3⟩,λh=>by omega⟩
 ·exact ⟨by omega,λh=>by omega,λ_=>⟨h2,h3⟩⟩
theorem rT {w:Um} {x y z:Rat} (h1:Sm w x y) (h2:Sm w y z):Sm w x z:=⟨by rw [h2.s,h1.l],by rw [h2.l,h1.l],h1.n⟩
theorem mT {f w:Um} {L:Un} {x y z:Rat} (h:oJ f w L x y) (h':oJ f w L y z):oJ f w L x z:=by
 obtain ⟨a1,a2,a3⟩:=h;obtain ⟨b1,b2,b3⟩:=h';refine ⟨by omega,λh=>?_,λh=>?_⟩
 ·obtain ⟨s1,s2⟩:=a2 (by omega);obtain ⟨s3,s4⟩:=b2 (by omega);exact ⟨rT s1 s3,rT s2 s4⟩
 ·by_cases e:vv L x=vv L y
  ·obtain ⟨s1,_⟩:=a2 e;obtain ⟨s3,s4⟩:=b3 (by omega);exact ⟨s1.n,by rw [s4,s1.l]⟩
  ·obtain ⟨s3,s4⟩:=a3 (by omega);obtain ⟨s1,_⟩:=b2 (by omega);exact ⟨s3,by rw [s1.l,s4]⟩
theorem Qtu {R:Rat} (hR:0<=R) {f w u:Um} {L:Un} (hc:GH f L) (h:∀ t,ev f t=ev w t*ev u t) {x y:Rat} (hx:Fh x<=R) (hy:Fh y<=R) (hxy:x<y):oJ f w L x y:=by
 obtain ⟨e,ep,hl⟩:=loc hR hc h;have key:∀ n:Nat,∀ x,Fh x<=R->x<y->y-x<=(n:Rat)*e->oJ f w L x y:=by
  intro n
  induction n with
  | zero =>
   intro x hx hxy h; exfalso; have:((0:Nat):Rat)*e=0:=by simp
   grind
  |
   succ n ih =>
   intro x hx hxy hn;rcases Ga (y-x) e with h1 | h1
   ·exact eP (hl x y hx hy hxy h1)
   ·have hm:Fh (x+e)<=R:=US hx hy (by clear hl ih; grind) (by clear hl ih; grind);have hn':(((n+1:Nat):Rat))=(n:Rat)+1:=by push_cast; rfl
    refine mT (eP (hl x (x+e) hx hm (by clear hl ih; grind) (by clear hl ih; grind))) (ih (x+e) hm (by clear hl ih; grind) ?_);rw [hn'] at hn;clear hl ih; grind
 obtain ⟨n,hn⟩:=ZR (z:=y-x) ep;exact key n x hx hxy hn
theorem zW (x y:Rat):∃ R:Rat,0<=R/\Fh x<=R/\Fh y<=R:=by
 refine ⟨Fh x+Fh y,?_,?_,?_⟩ <;> (have:=Hp x; have:=Hp y; grind)
theorem Rw (t:Rat):ev [1] t=1:=by simp only [ev]; grind
theorem As {f:Um} {L:Un} (hc:GH f L) {x y:Rat} (hxy:x<y):vv L y<=vv L x:=by
 obtain ⟨R,hR,hx,hy⟩:=zW x y;exact (Qtu hR hc (w:=f) (u:=[1]) (λt=>by rw [Rw]; grind) hx hy hxy).1
theorem VB {f w u:Um} {L:Un} (hc:GH f L) (h:∀ t,ev f t=ev w t*ev u t) {x y:Rat} (hxy:x<y) (he:vv L x=vv L y):Sm w x y:=by
 obtain ⟨R,hR,hx,hy⟩:=zW x y;exact ((Qtu hR hc h hx hy hxy).2.1 he).2
theorem vY {f:Um} {L:Un} (hc:GH f L) {x y:Rat} (hxy:x<y) (he:vv L x=vv L y):Sm f x y :=
 VB hc (w:=f) (u:=[1]) (λt=>by rw [Rw]; grind) hxy he
theorem vJ {f:Um} {L:Un} (hc:GH f L) {x y:Rat} (hxy:x<y) (he:vv L x=vv L y+1):Ph f x≠0/\Ph f y=-Ph f x:=by
 obtain ⟨R,hR,hx,hy⟩:=zW x y;exact (Qtu hR hc (w:=f) (u:=[1]) (λt=>by rw [Rw]; grind) hx hy hxy).2.2 he
theorem Qj7 {f:Um} {L:Un} (hc:GH f L) (R:Rat) (hR:0<=R):∃ e:Rat,0<e/\∀ x y,Fh x<=R->Fh y<=R->x<y->y-x<=e->vv L x<=vv L y+1:=by
 obtain ⟨e,ep,hl⟩:=loc hR hc (w:=f) (u:=[1]) (λt=>by rw [Rw]; grind);refine ⟨e,ep,λx y hx hy hxy he=>?_⟩;rcases hl x y hx hy hxy he with ⟨h,_⟩ | ⟨h,_⟩ <;> omega
theorem UQ {p:Um} {x:Rat} (h:Fc (ev p x)≠0):∃ e:Rat,0<e/\∀ y,Fh (y-x)<=e->Fc (ev p y)=Fc (ev p x):=by
 have hd:=Ci (x:=ev p x) λh0=>h (Gj.2 h0)
 have hR:0<=Fh x+1:=by have:=Hp x; grind
 obtain ⟨e,e1,e2,e3⟩:=Hf (Mw hR p) hd;refine ⟨e,e1,λy hy=>(Po Qp (P7 (x:=x) (by grind) ?_ hR hy e3)).1⟩;have:=T0 (y-x) x;have e:y-x+x=y:=by grind
 rw [e] at this; grind
theorem Qra {R M:Rat} {p:Um} (hM:M=ddB R p) (hR:0<=R) {h:Rat} (hh:0<h):∀ (n:Nat) (x:Rat),Fh x<=R->Fh (x+(n:Rat)*h)<=R->(∀ t,x<=t->t<=x+(n:Rat)*h->0<=dv p t)->ev p x-(n:Rat)*(h*h*M)<=ev p (x+(n:Rat)*h)
 |
  0,x,_,_,_=>by
  have e1:x+((0:Nat):Rat)*h=x:=by rw [show ((0:Nat):Rat)=0 from rfl]; grind
  have e2:((0:Nat):Rat)*(h*h*M)=0:=by simp
  rw [e1,e2]; grind
 |
  n+1,x,hx,hy,hd=>by
  have hn':(((n+1:Nat):Rat))=(n:Rat)+1:=by push_cast; rfl
  rw [hn'] at hy hd ⊢;have hn0:(0:Rat)<=(n:Rat):=Xh;have hnh:=Nv hn0 (Qr hh);have e1:x+((n:Rat)+1)*h=(x+h)+(n:Rat)*h:=by grind
  rw [e1] at hy hd ⊢;have hxh:Fh (x+h)<=R:=US hx hy (by clear hd; grind) (by clear hd; grind);have ih:=Qra hM hR hh n (x+h) hxh hy λt h1 h2=>hd t (by clear hd; grind) h2
  have h0:=hd x Qp (by clear hd; grind);have h1:=Qqy p (x+h) x;have h2:=Qfl hxh hx p;rw [<-hM,Mb] at h2;have h3:=Z1 h2.1 (Nv (Qr hh) (Qr hh));have h4:=Nv (Qr hh) h0;have e2:x+h-x=h:=by grind
  rw [e2] at h1;clear hd hx hy hxh;grind
theorem Qxo {p:Um} {x y:Rat} (hxy:x<y) (hd:∀ t,x<=t->t<=y->0<=dv p t):ev p x<=ev p y:=by
 obtain ⟨R,hR,hx,hy⟩:=zW x y;rcases Ga (ev p x) (ev p y) with h | h
 ·exact h
 ·exfalso;obtain ⟨M,hM⟩:=nmE (ddB R p);have hM0:=BC hR p;rw [<-hM] at hM0;obtain ⟨e,ep,_,he⟩:=Hf (b:=(y-x)*M) (d:=ev p x-ev p y) (Nv (by grind) hM0) (by grind);obtain ⟨n,hn⟩:=ZR (z:=y-x) ep;have hn0:0<(n:Rat):=by
   rcases Ga (n:Rat) 0 with h' | h'
   ·have:=Zc h' (Qr ep); clear hd; grind
   ·exact h'
  have hh:0<(y-x) / n:=E5 (by grind) hn0;have e1:(n:Rat)*((y-x) / n)=y-x:=by rw [W3]; exact Hb hn0
  have e2:x+(n:Rat)*((y-x) / n)=y:=by rw [e1]; grind
  have h1:=Qra hM hR hh n x hx (by rw [e2]; exact hy) (by rw [e2]; exact hd);rw [e2] at h1;have h2:(y-x) / n<=e:=by
   rcases Ga ((y-x) / n) e with h' | h'
   ·exact h'
   ·have:=Rat.mul_lt_mul_of_pos_left h' hn0; clear hd; grind
  have h3:(n:Rat)*((y-x) / n*((y-x) / n)*M)=((y-x) / n)*((y-x)*M):=by
   have:(n:Rat)*((y-x) / n*((y-x) / n)*M)=((n:Rat)*((y-x) / n))*(((y-x) / n)*M):=by grind
   rw [this,e1]; grind
  have h4:=Zc h2 (Nv (x:=y-x) (y:=M) (by grind) hM0);rw [h3] at h1;clear hd; grind
theorem Qo2 {p:Um} {x y:Rat} (hxy:x<y) (hd:∀ t,x<=t->t<=y->0<dv p t):ev p x<ev p y:=by
 have hx:=hd x Qp (by grind);have hR:0<=Fh x+1:=by have:=Hp x; grind
 obtain ⟨e,e1,e2,e3⟩:=Hf (BC hR p) hx;obtain ⟨f,f1,f2,f3⟩:=min2 (a:=e) (b:=y-x) e1 (by grind);have hq:Fh (x+f)<=Fh x+1:=by
  have:=T0 x f; have:Fh f=f:=by unfold Fh; split <;> grind
  clear hd; grind
 have h1:=DG (p:=p) (x:=x) (y:=x+f) (R:=Fh x+1) (e:=e) (d:=dv p x) (by clear hd; grind) hq hR (by grind) (by grind) (by unfold Fh; split <;> clear hd <;> grind) e3;rw [Ht.2 hx,Ht] at h1;rcases Classical.em (x+f=y) with e | e
 ·rw [<-e]; clear hd; grind
 ·have:=Qxo (p:=p) (x:=x+f) (y:=y) (by clear hd; grind) λt h1 h2=>Qr (hd t (by clear hd; grind) h2)
  clear hd; grind
structure Cut (c:Rat->Int):Prop where
 val:∀ q,c q=1\/c q=0\/c q=-1
 mono:∀ q r,q<r->c q≠1->c r=-1
 up:∀ q,c q=1->∃ r,q<r/\c r=1
 dn:∀ q,c q=-1->∃ r,r<q/\c r=-1
 lo:∃ q,c q=1
 hi:∃ q,c q=-1
theorem Cut.mono' {c:Rat->Int} (h:Cut c) {q r:Rat} (hqr:q<r) (hr:c r≠-1):c q=1:=by
 rcases Classical.em (c q=1) with e | e
 ·exact e
 ·exact absurd (h.mono q r hqr e) hr
theorem Cut.lt {c:Rat->Int} (h:Cut c) {q r:Rat} (hq:c q=1) (hr:c r=-1):q<r:=by
 rcases Ga r q with e | e
 ·rcases Classical.em (r=q) with e' | e'
  ·rw [e'] at hr; omega
  ·have:=h.mono r q (by grind) (by omega); omega
 ·exact e
theorem Cut.near {c:Rat->Int} (h:Cut c) {e:Rat} (he:0<e):∃ x y,c x=1/\c y=-1/\y-x<=e:=by
 obtain ⟨a,ha⟩:=h.lo;obtain ⟨b,hb⟩:=h.hi;have he2:0<e / 2:=E5 he (by decide);have h2:e / 2*2=e:=Hb (by decide);have key:∀ (n:Nat) (a:Rat),c a=1->b-a<=(n:Rat)*(e / 2)->∃ x y,c x=1/\c y=-1/\y-x<=e:=by
  intro n
  induction n with
  |
   zero =>
   intro a ha hn;have:=h.lt ha hb;rw [show ((0:Nat):Rat)=0 from rfl] at hn;exfalso; grind
  |
   succ n ih =>
   intro a ha hn;have hn':(((n+1:Nat):Rat))=(n:Rat)+1:=by push_cast; rfl
   rw [hn'] at hn;rcases h.val (a+e / 2) with h1 | h1 | h1
   ·exact ih _ h1 (by grind)
   ·exact ⟨a,a+e,ha,h.mono (a+e / 2) _ (by grind) (by omega),by grind⟩
   ·exact ⟨a,a+e / 2,ha,h1,by grind⟩
 obtain ⟨n,hn⟩:=ZR (z:=b-a) he2;exact key n a ha hn
def Ir (p:Um) (c:Rat->Int):Prop:=∀ d:Rat,0<d->∃ x y,c x=1/\c y=-1/\∀ q,x<=q->q<=y->Fh (ev p q)<d
def NZ (p:Um) (c:Rat->Int) (s:Int):Prop:=∃ d:Rat,0<d/\∃ x y,c x=1/\c y=-1/\∀ q,x<=q->q<=y->Fc (ev p q)=s/\d<=Fh (ev p q)
def Nr (c:Rat->Int) (P:Rat->Prop):Prop:=∃ x y,c x=1/\c y=-1/\∀ q,x<=q->q<=y->P q
theorem mI {c:Rat->Int} {P Q:Rat->Prop} (h1:Nr c P) (h2:Nr c Q):Nr c λq=>P q/\Q q:=by
 obtain ⟨x,y,a1,a2,a3⟩:=h1;obtain ⟨x',y',b1,b2,b3⟩:=h2;refine ⟨if x<=x' then x' else x,if y<=y' then y else y',by split <;> assumption,by split <;> assumption,λq q1 q2=>⟨a3 q ?_ ?_,b3 q ?_ ?_⟩⟩ <;> clear a3 b3 <;> grind
theorem MF {c:Rat->Int} {P Q:Rat->Prop} (h1:Nr c P) (h:∀ q,P q->Q q):Nr c Q:=by
 obtain ⟨x,y,a1,a2,a3⟩:=h1;exact ⟨x,y,a1,a2,λq q1 q2=>h q (a3 q q1 q2)⟩
theorem fF {c:Rat->Int} (hc:Cut c) {P:Rat->Prop} (h1:Nr c P):∃ q,P q/\c q=1:=by
 obtain ⟨x,y,a1,a2,a3⟩:=h1;exact ⟨x,a3 x Qp (Qr (hc.lt a1 a2)),a1⟩
theorem Qhv {c:Rat->Int} (hc:Cut c) {e:Rat} (he:0<e) {P:Rat->Prop} (h1:Nr c P):∃ x y,c x=1/\c y=-1/\y-x<=e/\x<y/\∀ q,x<=q->q<=y->P q:=by
 obtain ⟨x,y,a1,a2,a3⟩:=h1;obtain ⟨x',y',b1,b2,b3⟩:=hc.near he;refine ⟨if x<=x' then x' else x,if y<=y' then y else y',by split <;> assumption,by split <;> assumption,by clear a3; grind,hc.lt (by split <;> assumption) (by split <;> assumption),λq q1 q2=>a3 q ?_ ?_⟩ <;> clear a3 <;> grind
theorem Qq8 {c:Rat->Int} (hc:Cut c):∃ R:Rat,0<=R/\Nr c λq=>Fh q<=R:=by
 obtain ⟨x,y,a1,a2,_⟩:=hc.near (e:=1) (by decide);obtain ⟨R,hR,h1,h2⟩:=zW x y;exact ⟨R,hR,x,y,a1,a2,λq q1 q2=>US h1 h2 q1 q2⟩
theorem JR {c:Rat->Int} (hc:Cut c) (p:Um):Ir p c\/∃ s,s≠0/\NZ p c s:=by
 rcases Classical.em (Ir p c) with h | h
 ·exact .inl h
 ·refine .inr ?_;obtain ⟨d,hd0⟩:=Classical.not_forall.1 h;obtain ⟨dp,hd⟩:=Classical.not_imp.1 hd0;have hd:∀ x y,c x=1->c y=-1->∃ q,x<=q/\q<=y/\d<=Fh (ev p q):=λx y hx hy=>by
   rcases Classical.em (∃ q,x<=q/\q<=y/\d<=Fh (ev p q)) with h' | h'
   ·exact h'
   ·refine absurd ⟨x,y,hx,hy,λq h1 h2=>?_⟩ hd;rcases Ga d (Fh (ev p q)) with h3 | h3
    ·exact absurd ⟨q,h1,h2,h3⟩ h'
    ·exact h3
  obtain ⟨R,hR,hn⟩:=Qq8 hc;have hd2:0<d / 2:=E5 dp (by decide);have h2:d / 2*2=d:=Hb (by decide);obtain ⟨e,e1,_,e3⟩:=Hf (Mw hR p) hd2;obtain ⟨x,y,hx,hy,hxy,_,hq⟩:=Qhv hc e1 hn;obtain ⟨r,r1,r2,r3⟩:=hd x y hx hy;have key:∀ q,x<=q->q<=y->Fh (ev p q-ev p r)<d / 2:=λq q1 q2 =>
   P7 (hq r r1 r2) (hq q q1 q2) hR (by rw [Mb]; clear hq hd; constructor <;> grind) e3
  refine ⟨Fc (ev p r),λh0=>?_,d / 2,hd2,x,y,hx,hy,λq q1 q2=>⟨(Po (d:=d) r3 ?_).1,?_⟩⟩
  ·rw [Gj.1 h0,Re] at r3; clear hq hd key; grind
  ·have:=key q q1 q2; clear hq hd key; grind
  ·have h3:=key q q1 q2;have h4:=T0 (ev p r-ev p q) (ev p q);rw [show ev p r-ev p q+ev p q=ev p r from by clear hq hd key; grind,iZ] at h4;clear hq hd key; grind
theorem Qvi {c:Rat->Int} (hc:Cut c) {p:Um} {s:Int} (h1:Ir p c) (h2:NZ p c s):False:=by
 obtain ⟨d,dp,h2⟩:=h2;obtain ⟨q,⟨a,b⟩,_⟩:=fF hc (mI (h1 d dp) h2);exact absurd b.2 (Jp.2 a)
theorem Px {c:Rat->Int} (hc:Cut c) {f p q:Um} (hf:∀ t,ev f t=ev p t*ev q t) (h:Ir p c):Ir f c:=by
 intro d dp;obtain ⟨R,hR,hn⟩:=Qq8 hc;obtain ⟨e,e1,_,e3⟩:=Hf (ZE hR q) dp;refine MF (mI hn (h e e1)) λt ⟨h1,h2⟩=>?_
 rw [hf];have:=G9 (Qr h2) (TD h1 q);exact Jp.1 λh=>absurd (Zh h this) (Jp.2 e3)
theorem NJ {c:Rat->Int} {f p q:Um} (hf:∀ t,ev f t=ev p t+ev q t) (h:Ir p c) (h':Ir q c):Ir f c:=by
 intro d dp;have hd2:0<d / 2:=E5 dp (by decide);have h2:d / 2*2=d:=Hb (by decide);refine MF (mI (h _ hd2) (h' _ hd2)) λt ⟨h1,h2⟩=>?_
 rw [hf];have:=T0 (ev p t) (ev q t);grind
def RS (p:Um) (c:Rat->Int) (s:Int):Prop:=∃ y,c y=-1/\∀ q,c q=-1->q<=y->Fc (ev p q)=s
def LS (p:Um) (c:Rat->Int) (s:Int):Prop:=∃ x,c x=1/\∀ q,c q=1->x<=q->Fc (ev p q)=s
theorem qM {c:Rat->Int} (hc:Cut c) {p:Um} {s:Int} (h:NZ p c s):RS p c s:=by
 obtain ⟨d,dp,x,y,a1,a2,a3⟩:=h;exact ⟨y,a2,λq h1 h2=>(a3 q (Qr (hc.lt a1 h1)) h2).1⟩
theorem eL {c:Rat->Int} (hc:Cut c) {p:Um} {s:Int} (h:NZ p c s):LS p c s:=by
 obtain ⟨d,dp,x,y,a1,a2,a3⟩:=h;exact ⟨x,a1,λq h1 h2=>(a3 q h2 (Qr (hc.lt h1 a2))).1⟩
theorem FS {c:Rat->Int} {p:Um} {s s':Int} (h:RS p c s) (h':RS p c s'):s=s':=by
 obtain ⟨y,a1,a2⟩:=h;obtain ⟨y',b1,b2⟩:=h';rcases Ga y y' with e | e
 ·rw [<-a2 y a1 Qp,<-b2 y a1 e]
 ·rw [<-a2 y' b1 (Qr e),<-b2 y' b1 Qp]
theorem Qrd {c:Rat->Int} (hc:Cut c) {p:Um} (hv:Ir p c) {y:Rat} (hy:c y=-1) (h:∀ q,c q=-1->q<=y->0<dv p q) (q:Rat) (hq:c q=-1) (hqy:q<=y):0<ev p q:=by
 rcases Ga (ev p q) 0 with h0 | h0
 ·exfalso;obtain ⟨r,r1,r2⟩:=hc.dn q hq;have hr:ev p r<ev p q:=Qo2 r1 λt t1 t2=>h t (by
   rcases Classical.em (r=t) with e | e
   ·rw [<-e]; exact r2
   ·exact hc.mono r t (by clear h; grind) (by omega)) (Zh t2 hqy)
  obtain ⟨a,b,ha,hb,hab⟩:=hv (-ev p r) (by clear h; grind);obtain ⟨m,hm1,hm2,hm3⟩:∃ m,c m=-1/\m<=b/\m<=r:=by
   rcases Ga b r with e | e
   ·exact ⟨b,hb,Qp,e⟩
   ·exact ⟨r,r2,Qr e,Qp⟩
  have h1:=hab m (Qr (hc.lt ha hm1)) hm2;have h2:ev p m<=ev p r:=by
   rcases Classical.em (m=r) with e | e
   ·rw [e]; exact Qp
   ·exact Qr (Qo2 (by clear h hab; grind) λt t1 t2=>h t (by
     rcases Classical.em (m=t) with e | e
     ·rw [<-e]; exact hm1
     ·exact hc.mono m t (by clear h hab; grind) (by omega)) (by clear h hab; grind))
  rw [yU] at h1;clear h hab; grind
 ·exact h0
theorem yT {c:Rat->Int} (hc:Cut c) {p:Um} {s:Int} (hv:Ir p c) (h:RS (Nz p) c s) (hs:s≠0):RS p c s:=by
 obtain ⟨y,hy,h⟩:=h;have hsv:s=1\/s=-1:=by
  have:=h y hy Qp;rcases Fu (ev (Nz p) y) with ⟨e,_⟩ | ⟨e,_⟩ | ⟨e,_⟩ <;> omega
 rcases hsv with rfl | rfl
 ·refine ⟨y,hy,λq h1 h2=>Ht.2 (Qrd hc hv hy (λq h1 h2=>?_) q h1 h2)⟩;rw [<-Ti]; exact Ht.1 (h q h1 h2)
 ·refine ⟨y,hy,λq h1 h2=>S6.2 ?_⟩;have:=Qrd hc (p:=Dq (-1) p) (y:=y) (λd dp=>MF (hv d dp) λq hq=>by rw [Gm,show -1*ev p q=-ev p q by grind,Ef]; exact hq) hy (λq h1 h2=>by
   rw [HK,<-Ti];have:=S6.1 (h q h1 h2); grind) q h1 h2
  rw [Gm] at this; grind
theorem Qq5 {c:Rat->Int} (hc:Cut c) {p:Um} (hv:Ir p c) {x:Rat} (hx:c x=1) (h:∀ q,c q=1->x<=q->0<dv p q) (q:Rat) (hq:c q=1) (hxq:x<=q):ev p q<0:=by
 rcases Ga 0 (ev p q) with h0 | h0
 ·exfalso;obtain ⟨r,r1,r2⟩:=hc.up q hq;have hr:ev p q<ev p r:=Qo2 r1 λt t1 t2=>h t (by
   rcases Classical.em (t=r) with e | e
   ·rw [e]; exact r2
   ·exact hc.mono' (q:=t) (r:=r) (by clear h; grind) (by omega)) (Zh hxq t1)
  obtain ⟨a,b,ha,hb,hab⟩:=hv (ev p r) (by clear h; grind);obtain ⟨m,hm1,hm2,hm3⟩:∃ m,c m=1/\a<=m/\r<=m:=by
   rcases Ga a r with e | e
   ·exact ⟨r,r2,e,Qp⟩
   ·exact ⟨a,ha,Qp,Qr e⟩
  have h1:=hab m hm2 (Qr (hc.lt hm1 hb));have h2:ev p r<=ev p m:=by
   rcases Classical.em (r=m) with e | e
   ·rw [e]; exact Qp
   ·exact Qr (Qo2 (by clear h hab; grind) λt t1 t2=>h t (by
     rcases Classical.em (t=m) with e | e
     ·rw [e]; exact hm1
     ·exact hc.mono' (q:=t) (r:=m) (by clear h hab; grind) (by omega)) (by clear h hab; grind))
  rw [yU] at h1;clear h hab; grind
 ·exact h0
theorem Qhd {c:Rat->Int} (hc:Cut c) {p:Um} {s:Int} (hv:Ir p c) (h:LS (Nz p) c s) (hs:s≠0):LS p c (-s):=by
 obtain ⟨x,hx,h⟩:=h;have hsv:s=1\/s=-1:=by
  have:=h x hx Qp;rcases Fu (ev (Nz p) x) with ⟨e,_⟩ | ⟨e,_⟩ | ⟨e,_⟩ <;> omega
 rcases hsv with rfl | rfl
 ·refine ⟨x,hx,λq h1 h2=>S6.2 (Qq5 hc hv hx (λq h1 h2=>?_) q h1 h2)⟩;rw [<-Ti]; exact Ht.1 (h q h1 h2)
 ·refine ⟨x,hx,λq h1 h2=>Ht.2 ?_⟩;have:=Qq5 hc (p:=Dq (-1) p) (x:=x) (λd dp=>MF (hv d dp) λq hq=>by rw [Gm,show -1*ev p q=-ev p q by grind,Ef]; exact hq) hx (λq h1 h2=>by
   rw [HK,<-Ti];have:=S6.1 (h q h1 h2); grind) q h1 h2
  rw [Gm] at this; grind
theorem Qpa {c:Rat->Int} (hc:Cut c) {f g:Um} {l:Un} (h:SCl f g l):Ir f c->Ir g c->False:=by
 induction h with
 |
  @base f g k hk hg =>
  intro _ hv;obtain ⟨q,hq,_⟩:=fF hc (hv (Fh k) (Ci hk));rw [hg] at hq; grind
 |
  @step f g h l a b q ha hb he hl ih =>
  intro hf hg;refine ih hg ?_;have h1:Ir (G0 q g) c:=Px hc (p:=g) (q:=q) (λt=>by rw [Ff]; grind) hg;have h2:Ir (Dq (-a) f) c:=Px hc (p:=f) (q:=[-a]) (λt=>by rw [Gm]; simp only [ev]; grind) hf;have h3:Ir (Se (G0 q g) (Dq (-a) f)) c:=NJ (λt=>Gy t _ _) h1 h2;refine Px hc (p:=Se (G0 q g) (Dq (-a) f)) (q:=[1 / b]) (λt=>?_) h3;have:=he t;rw [Gy,Ff,Gm];simp only [ev];have hbb:1 / b*b=1:=Hb hb;have:ev q t*ev g t+-a*ev f t=b*ev h t:=by rw [show -a*ev f t=-(a*ev f t) by grind,he t]; grind
  rw [this];have:b*ev h t*(1 / b+t*0)=ev h t*(1 / b*b):=by grind
  rw [this,hbb]; grind
theorem zY {c:Rat->Int} (hc:Cut c) {f g:Um} {k:Rat} (h:∀ t,ev g t=k*ev f t) (hv:Ir f c):Ir g c :=
 Px hc (p:=f) (q:=[k]) (λt=>by rw [h]; simp only [ev]; grind) hv
theorem Qpk {c:Rat->Int} (hc:Cut c) {f:Um} {L:Un} (h:GH f L) (hv:Ir f c):∃ s,s≠0/\NZ (Nz f) c s:=by
 rcases JR hc (Nz f) with h1 | h1
 ·exfalso;rcases h with ⟨k,hk,hf,_⟩ | ⟨g,l,k,hk,hg,h,_⟩
  ·obtain ⟨q,hq,_⟩:=fF hc (hv (Fh k) (Ci hk));rw [hf] at hq; grind
  ·exact Qpa hc h hv (zY hc (λt=>by rw [hg,Ti]) h1)
 ·exact h1
theorem lX {c:Rat->Int} (hc:Cut c) {f w u:Um} {L:Un} (h:GH f L) (hf:∀ t,ev f t=ev w t*ev u t) (hv:Ir w c):∃ s,s≠0/\NZ (Nz w) c s:=by
 rcases JR hc (Nz w) with h1 | h1
 ·exfalso;obtain ⟨s,_,hs⟩:=Qpk hc h (Px hc hf hv);refine Qvi hc ?_ hs;have a1:Ir (G0 (Nz w) u) c:=Px hc (λt=>Ff t _ _) h1;have a2:Ir (G0 w (Nz u)) c:=Px hc (λt=>Ff t _ _) hv;refine NJ (λt=>?_) a1 a2;rw [Ti,QK hf,Ff,Ff,Ti,Ti]
 ·exact h1
theorem Qfi {c:Rat->Int} (hc:Cut c) {q:Rat} (h:c q=0) {x y:Rat} (hx:c x=1) (hy:c y=-1):x<=q/\q<=y:=by
 constructor
 ·rcases Ga x q with e | e
  ·exact e
  ·have:=hc.mono q x e (by omega); omega
 ·rcases Ga q y with e | e
  ·exact e
  ·have:=hc.mono y q e (by omega); omega
theorem TW {c:Rat->Int} (hc:Cut c) {p:Um} {q:Rat} (h:c q=0) (hv:Ir p c):ev p q=0:=by
 rcases Classical.em (ev p q=0) with e | e
 ·exact e
 ·obtain ⟨x,y,hx,hy,hq⟩:=hv _ (Ci e);obtain ⟨h1,h2⟩:=Qfi hc h hx hy;have:=hq q h1 h2; grind
theorem fG {c:Rat->Int} (hc:Cut c) {p:Um} {q:Rat} {s:Int} (h:c q=0) (hv:NZ p c s):Fc (ev p q)=s:=by
 obtain ⟨d,dp,x,y,hx,hy,hq⟩:=hv;obtain ⟨h1,h2⟩:=Qfi hc h hx hy;exact (hq q h1 h2).1
theorem pK {c:Rat->Int} (hc:Cut c) {y z:Rat} (hy:c y=-1) (hz:c z=-1):∃ q,c q=-1/\q<y/\q<z:=by
 obtain ⟨a,a1,a2⟩:=hc.dn y hy;obtain ⟨b,b1,b2⟩:=hc.dn z hz;rcases Ga a b with e | e
 ·exact ⟨a,a2,a1,by grind⟩
 ·exact ⟨b,b2,by grind,b1⟩
theorem BM {c:Rat->Int} (hc:Cut c) {y z:Rat} (hy:c y=1) (hz:c z=1):∃ q,c q=1/\y<q/\z<q:=by
 obtain ⟨a,a1,a2⟩:=hc.up y hy;obtain ⟨b,b1,b2⟩:=hc.up z hz;rcases Ga a b with e | e
 ·exact ⟨b,b2,by grind,b1⟩
 ·exact ⟨a,a2,a1,by grind⟩
theorem Qhu {f w u:Um} {L:Un} (h:GH f L) (hf:∀ t,ev f t=ev w t*ev u t) {x y:Rat} (hv:vv L x=vv L y) {c:Rat->Int} (hc:Cut c) (hx:c x=1) (hy:c y≠1):¬Ir w c:=λhw=>by
 have hxy:x<y:=by
  rcases Ga y x with e | e
  ·rcases Classical.em (y=x) with e' | e'
   ·rw [e'] at hy; exact absurd hx hy
   ·have:=hc.mono y x (by grind) hy; omega
  ·exact e
 have hwv:=VB h hf hxy hv;rcases hc.val y with e | e | e
 ·exact hy e
 ·have:=TW hc e hw;have:=hwv.s;rw [Gj.2 (by assumption)] at this;exact hwv.n this.symm
 ·obtain ⟨s,hs,hd⟩:=lX hc h hf hw;obtain ⟨a,ha,hal⟩:=Qhd hc hw (eL hc hd) hs;obtain ⟨b,hb,hbr⟩:=yT hc hw (qM hc hd) hs;obtain ⟨q,q1,q2,q3⟩:=BM hc hx ha;obtain ⟨r,r1,r2,r3⟩:=pK hc hb e;have e1:=hal q q1 (Qr q3);have e2:=hbr r r1 (Qr r2);have hqr:=hc.lt q1 r1;have v1:vv L q<=vv L x:=As h q2;have v2:vv L y<=vv L r:=As h r3;have v3:vv L r<=vv L q:=As h hqr;have s1:=(VB h hf q2 (by omega)).s;have s2:=(VB h hf (x:=x) (y:=r) (by grind) (by omega)).s;omega
theorem yI {f:Um} {L:Un} (h:GH f L) {x y:Rat} (hxy:x<y) (hv:vv L x≠vv L y) {d:Rat} (dp:0<d):∃ q,x<=q/\q<=y/\Fh (ev f q)<d:=by
 obtain ⟨R,hR,hx,hy⟩:=zW x y;obtain ⟨e1,e1p,hl⟩:=loc hR h (w:=f) (u:=[1]) (λt=>by rw [Rw]; grind);obtain ⟨e2,e2p,_,e2b⟩:=Hf (Mw hR f) dp;obtain ⟨e,ep,h1,h2⟩:=min2 e1p e2p;have key:∀ n:Nat,∀ x,Fh x<=R->x<y->vv L x≠vv L y->y-x<=(n:Rat)*e->∃ q,x<=q/\q<=y/\Fh (ev f q)<d:=by
  intro n
  induction n with
  | zero=>intro x hx hxy _ hn; rw [show ((0:Nat):Rat)=0 from rfl] at hn; exfalso; clear hl; grind
  |
   succ n ih =>
   intro x hx hxy hv hn;have hstep:∀ z,Fh z<=R->x<z->z-x<=e->vv L x≠vv L z->Fh (ev f z)<d:=λz hz hxz hze hv=>by
    rcases hl x z hx hz hxz (Zh hze h1) with ⟨p,_⟩ | ⟨_,p1,p2,p3,p4⟩
    ·exact absurd p hv
    ·have hd:=P7 (p:=f) hx hz hR (e:=e2) (d:=d) (by rw [Mb]; clear hl ih; constructor <;> grind) e2b;rw [<-p3] at p1 p4;clear hl ih p2 p3;rw [yU] at *;rcases Fu (ev f x) with ⟨a,a'⟩ | ⟨a,a'⟩ | ⟨a,a'⟩ <;> rcases Fu (ev f z) with ⟨b,b'⟩ | ⟨b,b'⟩ | ⟨b,b'⟩ <;> rw [a,b] at p4 <;> first | (exfalso; revert p4; decide) | skip
     all_goals first | (constructor <;> grind) | (exfalso; omega)
   rcases Ga (y-x) e with h3 | h3
   ·exact ⟨y,Qr hxy,Qp,hstep y hy hxy h3 hv⟩
   ·have hm:Fh (x+e)<=R:=US hx hy (by clear hl ih hstep; grind) (by clear hl ih hstep; grind);rcases Classical.em (vv L x=vv L (x+e)) with e0 | e0
    ·have hn':(((n+1:Nat):Rat))=(n:Rat)+1:=by push_cast; rfl
     rw [hn'] at hn;obtain ⟨q,q1,q2,q3⟩:=ih (x+e) hm (by clear hl ih hstep; grind) (by omega) (by clear hl ih hstep; grind);exact ⟨q,by clear hl ih hstep; grind,q2,q3⟩
    ·exact ⟨x+e,by clear hl ih hstep; grind,by clear hl ih hstep; grind,hstep (x+e) hm (by clear hl ih hstep; grind) (by clear hl ih hstep; grind) e0⟩
 obtain ⟨n,hn⟩:=ZR (z:=y-x) ep;exact key n x hx hxy hv hn
theorem Qw7 {p:Um} {x:Rat} (h:Ph p x≠0):∃ e:Rat,0<e/\∀ y,x<y->y-x<=e->Fc (ev p y)=Ph p x:=by
 by_cases h0:Fc (ev p x)=0
 ·have hx:=Gj.1 h0;rw [mP h0] at h ⊢;have hR:0<=Fh x+1:=by have:=Hp x; grind
  obtain ⟨e,e1,e2,e3⟩:=Hf (BC hR p) (Ci (x:=dv p x) λh'=>h (Gj.2 h'));refine ⟨e,e1,λy h1 h2=>?_⟩;have hy:Fh y<=Fh x+1:=by
   have:=T0 x (y-x);have e:x+(y-x)=y:=by grind
   have e':Fh (y-x)=y-x:=by unfold Fh; split <;> grind
   rw [e,e'] at this; grind
  have:=DG (p:=p) (by grind) hy hR h1 h2 Qp e3;rw [hx] at this;rw [<-this]; congr 1; grind
 ·rw [Ae h0] at h ⊢;obtain ⟨e,e1,e2⟩:=UQ h;exact ⟨e,e1,λy h1 h2=>e2 y (by rw [Mb]; constructor <;> grind)⟩
def cq (P:Um) (lo hi q:Rat):Int:=if q<=lo then 1 else if hi<q then -1 else if Fc (ev P q)=0 then 0 else if Fc (ev P q)=Ph P lo then 1 else -1
structure Vt (P:List Rat) (L:List (List Rat)) (lo hi:Rat):Prop where
 s:GH P L
 l:lo<hi
 v:vv L lo=vv L hi+1
variable {P:Um} {L:Un} {lo hi:Rat}
theorem Ez {q:Rat} (h:q<=lo):cq P lo hi q=1:=by unfold cq; rw [if_pos h]
theorem UZ {q:Rat} (h:lo<hi) (h':hi<q):cq P lo hi q=-1:=by unfold cq; rw [if_neg (by grind),if_pos h']
theorem Ig {q:Rat} (h1:lo<q) (h2:q<=hi):cq P lo hi q=if Fc (ev P q)=0 then 0 else if Fc (ev P q)=Ph P lo then 1 else -1:=by
 unfold cq; rw [if_neg (by grind),if_neg (by grind)]
theorem Vt.two (V:Vt P L lo hi) {q:Rat} (h1:lo<q) (h2:q<=hi):vv L q=vv L lo/\cq P lo hi q=1/\Fc (ev P q)=Ph P lo\/vv L q=vv L hi/\cq P lo hi q≠1/\Ph P q=-Ph P lo/\Ph P lo≠0:=by
 have a:=As V.s h1;have b:vv L hi<=vv L q:=by
  rcases Classical.em (q=hi) with e | e
  ·rw [e]; exact Ql _
  ·exact As V.s (by grind)
 have hv:=V.v;rcases (show vv L q=vv L lo\/vv L q=vv L hi by omega) with e | e
 ·have hs:=vY V.s h1 e.symm;refine .inl ⟨e,?_,hs.s⟩;rw [Ig h1 h2,hs.s,if_neg hs.n,if_pos rfl]
 ·obtain ⟨o1,o2⟩:=vJ V.s h1 (by omega);refine .inr ⟨e,?_,o2,o1⟩;rw [Ig h1 h2]
  split
  ·decide
  ·rename_i h0;rw [Ae h0] at o2;rw [if_neg (by omega)]; decide
theorem Vt.lowlo (V:Vt P L lo hi):Ph P lo≠0:=(vJ V.s V.l V.v).1
theorem Vt.eq_lo (V:Vt P L lo hi) {q:Rat} (h1:lo<q) (h2:q<=hi) (h:cq P lo hi q=1):vv L q=vv L lo:=by
 rcases V.two h1 h2 with ⟨e,_⟩ | ⟨_,e,_⟩
 ·exact e
 ·exact absurd h e
theorem Vt.eq_hi (V:Vt P L lo hi) {q:Rat} (h1:lo<q) (h2:q<=hi) (h:cq P lo hi q≠1):vv L q=vv L hi:=by
 rcases V.two h1 h2 with ⟨_,e,_⟩ | ⟨e,_⟩
 ·exact absurd e h
 ·exact e
theorem Vt.hi1 (V:Vt P L lo hi):cq P lo hi hi≠1:=λh=>by have:=V.eq_lo V.l Qp h; have:=V.v; omega
theorem Vt.cut (V:Vt P L lo hi):Cut (cq P lo hi) where
 val q:=by unfold cq; split <;> (try split) <;> (try split) <;> (try split) <;> simp
 mono q r h h1:=by
  have hq:lo<q:=by
   rcases Ga q lo with e | e
   ·exact absurd (Ez e) h1
   ·exact e
  rcases Ga r hi with e | e
  ·have e1:=V.eq_hi hq (by grind) h1;rcases V.two (q:=r) (by grind) e with ⟨e2,_⟩ | ⟨e2,_,e3,e4⟩
   ·have:=As V.s h; have:=V.v; omega
   ·have hs:=vY V.s h (by omega);rcases V.two hq (by grind) with ⟨e5,_⟩ | ⟨_,_,e5,_⟩
    ·have:=V.v; omega
    ·rw [Ig (by grind) e,hs.s,if_neg hs.n,e5,if_neg (by omega)]
  ·exact UZ V.l e
 up q h:=by
  rcases Ga q lo with e | e
  ·obtain ⟨d,dp,hd⟩:=Qw7 V.lowlo;obtain ⟨f,fp,f1,f2⟩:=min2 (a:=d) (b:=hi-lo) dp (by have:=V.l; grind);have h1:lo<lo+f:=by clear hd; grind
   have h2:lo+f<=hi:=by clear hd; grind
   have:=hd (lo+f) h1 (by clear hd; grind);exact ⟨lo+f,by clear hd; grind,by rw [Ig h1 h2,this,if_neg V.lowlo,if_pos rfl]⟩
  ·have hh:q<=hi:=by
    rcases Ga q hi with e' | e'
    ·exact e'
    ·have:=UZ (P:=P) V.l e'; omega
   rcases V.two e hh with ⟨e1,_,e2⟩ | ⟨_,e1,_⟩
   ·have hn:q≠hi:=λh=>by rw [h] at e1; have:=V.v; omega
    obtain ⟨d,dp,hd⟩:=UQ (p:=P) (x:=q) (by rw [e2]; exact V.lowlo);obtain ⟨f,fp,f1,f2⟩:=min2 (a:=d) (b:=hi-q) dp (by clear hd; grind);have:=hd (q+f) (by rw [Mb]; clear hd; constructor <;> grind);exact ⟨q+f,by clear hd; grind,by rw [Ig (by clear hd; grind) (by clear hd; grind),this,e2,if_neg V.lowlo,if_pos rfl]⟩
   ·exact absurd h e1
 dn q h:=by
  have hq:lo<q:=by
   rcases Ga q lo with e | e
   ·have:=Ez (P:=P) (hi:=hi) e; omega
   ·exact e
  rcases Ga q hi with e | e
  ·rw [Ig hq e] at h
   split at h
   ·cases h
   rename_i h0
   split at h
   ·cases h
   rename_i h1;obtain ⟨d,dp,hd⟩:=UQ h0;obtain ⟨f,fp,f1,f2⟩:=min2 (a:=d) (b:=(q-lo) / 2) dp (E5 (by clear hd; grind) (by decide));have h2:(q-lo) / 2*2=q-lo:=Hb (by decide);have:=hd (q-f) (by rw [Mb]; clear hd; constructor <;> grind);exact ⟨q-f,by clear hd; grind,by rw [Ig (by clear hd; grind) (by clear hd; grind),this,if_neg h0,if_neg h1]⟩
  ·have h2:(q-hi) / 2*2=q-hi:=Hb (by decide);exact ⟨q-(q-hi) / 2,by grind,UZ V.l (by grind)⟩
 lo:=⟨lo,Ez Qp⟩
 hi:=⟨hi+1,UZ V.l (by grind)⟩
theorem Vt.van (V:Vt P L lo hi):Ir P (cq P lo hi):=by
 have hc:=V.cut;rcases JR hc P with h | ⟨s,hs,h⟩
 ·exact h
 ·exfalso;have e1:s=Ph P lo:=by
   obtain ⟨x,hx,hx1⟩:=eL hc h;obtain ⟨q,q1,q2,q3⟩:=BM hc hx (Ez (P:=P) (hi:=hi) (Qp (a:=lo)));have hq:q<=hi:=by
    rcases Ga q hi with e | e
    ·exact e
    ·have:=UZ (P:=P) V.l e; omega
   rcases V.two q3 hq with ⟨_,_,e⟩ | ⟨_,e,_⟩
   ·rw [<-hx1 q q1 (Qr q2),e]
   ·exact absurd q1 e
  rcases hc.val hi with e | e | e
  ·exact V.hi1 e
  ·have h0:=fG hc e h;rw [Ig V.l Qp] at e
   split at e
   ·omega
   ·split at e <;> omega
  ·obtain ⟨y,hy,hy1⟩:=qM hc h;obtain ⟨q,q1,q2,q3⟩:=pK hc hy e;have hq:lo<q:=hc.lt (Ez (P:=P) (hi:=hi) (Qp (a:=lo))) q1;have:=hy1 q q1 (Qr q2);rw [Ig hq (Qr q3),this,if_neg hs,if_pos e1] at q1;cases q1
def mQ (w:Um) (lo hi:Rat):Prop:=Fc (ev w hi)=0\/Fc (ev w hi)≠Ph w lo
theorem Vt.has (V:Vt P L lo hi) {w u:Um} (hf:∀ t,ev P t=ev w t*ev u t) {a b:Rat} (h1:lo<=a) (h2:a<b) (h3:b<=hi):mQ w a b↔Ir w (cq P lo hi)/\cq P lo hi a=1/\cq P lo hi b≠1:=by
 have hc:=V.cut;have smno:vv L a=vv L b->¬mQ w a b:=λh hh=>by
  have:=VB V.s hf h2 h;rcases hh with e | e
  ·rw [this.s] at e; exact this.n e
  ·exact e this.s
 by_cases ha:cq P lo hi a=1
 ·by_cases hb:cq P lo hi b=1
  ·have e1:=V.eq_lo (by grind) h3 hb;have e2:vv L a=vv L lo:=by
    rcases Classical.em (lo=a) with e | e
    ·rw [e]
    ·exact V.eq_lo (by grind) (by grind) ha
   exact ⟨λh=>absurd h (smno (by omega)),λh=>absurd hb h.2.2⟩
  ·have e1:=V.eq_hi (by grind) h3 hb;have e2:vv L a=vv L lo:=by
    rcases Classical.em (lo=a) with e | e
    ·rw [e]
    ·exact V.eq_lo (by grind) (by grind) ha
   have left:∀ s,LS w (cq P lo hi) s->s=Ph w a:=λs hs=>by
    obtain ⟨x,hx,hx1⟩:=hs;obtain ⟨q,q1,q2,q3⟩:=BM hc hx ha;have hqb:q<b:=by
     rcases Ga b q with e | e
     ·rcases Classical.em (b=q) with e' | e'
      ·rw [e'] at hb; exact absurd q1 hb
      ·have:=hc.mono b q (by clear hx1 smno; grind) hb; omega
     ·exact e
    have:=V.eq_lo (q:=q) (by clear hx1 smno; grind) (by clear hx1 smno; grind) q1;rw [<-(VB V.s hf q3 (by omega)).s,hx1 q q1 (Qr q2)]
   have right:∀ s,RS w (cq P lo hi) s->cq P lo hi b=-1->s=Fc (ev w b):=λs hs hb=>by
    obtain ⟨y,hy,hy1⟩:=hs;obtain ⟨q,q1,q2,q3⟩:=pK hc hy hb;have hqa:=hc.lt ha q1;have:=V.eq_hi (q:=q) (by clear hy1 smno; grind) (by clear hy1 smno; grind) (by omega);have hs:=VB V.s hf q3 (by omega);have hl:=hy1 q q1 (Qr q2);have h0:Fc (ev w q)≠0:=by
     have hs2:=VB V.s hf (x:=q) (y:=b) q3 (by omega);intro h0;obtain ⟨r,r1,r2⟩:=hc.dn q q1;have har:=hc.lt ha r2;have:=V.eq_hi (q:=r) (by clear hy1 smno; grind) (by clear hy1 smno; grind) (by omega);have hs3:=VB V.s hf (x:=r) (y:=q) r1 (by omega);have hs4:=hs3.s;rw [h0] at hs4; exact hs3.n hs4.symm
    rw [hs.s,Ae h0,hl]
   refine ⟨λh=>⟨?_,ha,hb⟩,λ⟨hw,_,_⟩=>?_⟩
   ·rcases JR hc w with e | ⟨s,EM,hs⟩
    ·exact e
    ·exfalso;have l1:=left s (eL hc hs);have r1:Fc (ev w b)=s:=by
      rcases hc.val b with e | e | e
      ·exact absurd e hb
      ·exact fG hc e hs
      ·exact (right s (qM hc hs) e).symm
     rcases h with h | h
     ·exact EM (by rw [<-r1]; exact h)
     ·exact h (by rw [r1,l1])
   ·rcases hc.val b with e | e | e
    ·exact absurd e hb
    ·exact .inl (Gj.2 (TW hc e hw))
    ·obtain ⟨s,EM,hs⟩:=lX hc V.s hf hw;have l1:=left _ (Qhd hc hw (eL hc hs) EM);have r1:=right _ (yT hc hw (qM hc hs) EM) e;exact .inr (by rw [<-l1,<-r1]; omega)
 ·have hla:lo<a:=by
   rcases Classical.em (lo=a) with e | e
   ·rw [<-e] at ha; exact absurd (Ez Qp) ha
   ·grind
  have hb:cq P lo hi b≠1:=by have:=hc.mono a b h2 ha; omega
  have e1:=V.eq_hi hla (by grind) ha;have e2:=V.eq_hi (q:=b) (by grind) h3 hb;exact ⟨λh=>absurd h (smno (by omega)),λh=>absurd h.2.1 ha⟩
theorem wV {c c':Rat->Int} (hc:Cut c) (hc':Cut c') {q:Rat} (h:c q≠c' q):∃ r,(c r=-1/\c' r=1)\/(c r=1/\c' r=-1):=by
 rcases hc.val q with e | e | e <;> rcases hc'.val q with e' | e' | e'
 ·omega
 ·obtain ⟨r,r1,r2⟩:=hc.up q e;exact ⟨r,.inr ⟨r2,hc'.mono q r r1 (by omega)⟩⟩
 ·exact ⟨q,.inr ⟨e,e'⟩⟩
 ·obtain ⟨r,r1,r2⟩:=hc'.up q e';exact ⟨r,.inl ⟨hc.mono q r r1 (by omega),r2⟩⟩
 ·omega
 ·obtain ⟨r,r1,r2⟩:=hc'.dn q e';exact ⟨r,.inr ⟨hc.mono' r1 (by omega),r2⟩⟩
 ·exact ⟨q,.inl ⟨e,e'⟩⟩
 ·obtain ⟨r,r1,r2⟩:=hc.dn q e;exact ⟨r,.inl ⟨r2,hc'.mono' r1 (by omega)⟩⟩
 ·omega
theorem Vt.uniq (V:Vt P L lo hi) {c:Rat->Int} (hc:Cut c) (h1:c lo=1) (h2:c hi≠1) (hv:Ir P c) (q:Rat):c q=cq P lo hi q:=by
 rcases Classical.em (c q=cq P lo hi q) with e | e
 ·exact e
 ·exfalso;obtain ⟨r,⟨r1,r2⟩ | ⟨r1,r2⟩⟩:=wV hc V.cut e
  ·have hl:=hc.lt h1 r1;have hh:r<=hi:=by
    rcases Ga r hi with e | e
    ·exact e
    ·have:=UZ (P:=P) V.l e; omega
   have:=V.eq_lo hl hh r2;exact Qhu V.s (w:=P) (u:=[1]) (λt=>by rw [Rw]; grind) (x:=lo) (y:=r) (by omega) hc h1 (by omega) hv
  ·have hl:lo<r:=by
    rcases Ga r lo with e | e
    ·have:=Ez (P:=P) (hi:=hi) e; omega
    ·exact e
   have hh:r<=hi:=by
    rcases Ga r hi with e | e
    ·exact e
    ·have:=hc.mono hi r e h2; omega
   have:=V.eq_hi hl hh (by omega);exact Qhu V.s (w:=P) (u:=[1]) (λt=>by rw [Rw]; grind) (x:=r) (y:=hi) (by omega) hc r1 h2 hv
theorem Vt.same (V:Vt P L lo hi) {P':Um} {L':Un} {lo' hi':Rat} (V':Vt P' L' lo' hi') {g u u' U W:Um} {k:Rat} (hk:k≠0) (h1:∀ t,ev P t=ev g t*ev u t) (h2:∀ t,ev P' t=ev g t*ev u' t) (h3:∀ t,k*ev g t=ev U t*ev P t+ev W t*ev P' t) {a b:Rat} (ha1:lo<=a) (ha2:lo'<=a) (ha:a=lo\/a=lo') (hb1:b<=hi) (hb2:b<=hi') (hb:b=hi\/b=hi'):(a<b/\mQ g a b)↔∀ q,cq P lo hi q=cq P' lo' hi' q:=by
 have hc:=V.cut;have hc':=V'.cut;constructor
 ·rintro ⟨hab,hg⟩
  obtain ⟨g1,g2,g3⟩:=(V.has h1 ha1 hab hb1).1 hg;obtain ⟨g4,g5,g6⟩:=(V'.has h2 ha2 hab hb2).1 hg;intro q;refine (V.uniq hc' (by
   rcases Classical.em (lo=a) with e | e
   ·rw [e]; exact g5
   ·exact hc'.mono' (q:=lo) (r:=a) (by grind) (by omega)) (λh=>?_) (Px hc' h1 g4) q).symm
  rcases Classical.em (b=hi) with e | e
  ·rw [<-e] at h; exact g6 h
  ·have:=hc'.mono b hi (by grind) g6; omega
 ·intro h;have hcc:cq P' lo' hi'=cq P lo hi:=funext λq=>(h q).symm
  have e1:cq P lo hi a=1:=by
   rcases ha with rfl | rfl
   ·exact Ez Qp
   ·rw [h]; exact Ez Qp
  have e2:cq P lo hi b≠1:=by
   rcases hb with rfl | rfl
   ·exact V.hi1
   ·rw [h]; exact V'.hi1
  have hab:a<b:=by
   rcases Ga b a with e | e
   ·rcases Classical.em (b=a) with e' | e'
    ·rw [e'] at e2; exact absurd e1 e2
    ·have:=hc.mono b a (by grind) e2; omega
   ·exact e
  have v1:=V.van;have v2:=V'.van;rw [hcc] at v2;have hg:Ir g (cq P lo hi):=by
   have a1:Ir (G0 U P) (cq P lo hi):=Px hc (p:=P) (q:=U) (λt=>by rw [Ff]; grind) v1;have a2:Ir (G0 W P') (cq P lo hi):=Px hc (p:=P') (q:=W) (λt=>by rw [Ff]; grind) v2;have a3:=NJ (λt=>Gy t _ _) a1 a2;refine zY hc (k:=1 / k) (λt=>?_) a3;rw [Gy,Ff,Ff,<-h3];have:1 / k*(k*ev g t)=1 / k*k*ev g t:=by grind
   rw [this,show 1 / k*k=1 from Zf hk]; grind
  exact ⟨hab,(V.has h1 ha1 hab hb1).2 ⟨hg,e1,e2⟩⟩
end Orq
namespace Orq
theorem Qic:∀ (M:Nat) (f:Nat->Nat),(∀ i,i<=M->f i<M)->∃ i j,i<j/\j<=M/\f i=f j
 | 0,f,h=>absurd (h 0 (Ql _)) (Nat.not_lt_zero _)
 |
  M+1,f,h=>by
  rcases Classical.em (∃ i,i<=M/\f i=f (M+1)) with ⟨i,h1,h2⟩ | hn
  ·exact ⟨i,M+1,by omega,Ql _,h2⟩
  ·have hne:∀ i,i<=M->f i≠f (M+1):=λi hi e=>hn ⟨i,hi,e⟩
   obtain ⟨i,j,h1,h2,h3⟩:=Qic M (λi=>if f i=M then f (M+1) else f i) λi hi=>by
    have a1:=h i (by omega);have a2:=h (M+1) (Ql _);have a3:=hne i hi;show (if f i=M then f (M+1) else f i)<M
    split <;> omega
   refine ⟨i,j,h1,by omega,?_⟩;have a1:=hne i (by omega);have a2:=hne j h2
   split at h3 <;> split at h3 <;> omega
def dg (B k i:Nat):Nat:=k / B^i % B
theorem lQ (B k i:Nat):dg B k (i+1)=dg B (k / B) i:=by unfold dg; rw [Nat.pow_succ,Nat.mul_comm,Nat.div_div_eq_div_mul]
theorem Qfm {B:Nat}:∀ (N:Nat) {k k':Nat},k<B^N->k'<B^N->(∀ i,i<N->dg B k i=dg B k' i)->k=k'
 | 0,k,k',h,h',_=>by rw [Vb] at h h'; omega
 |
  N+1,k,k',h,h',he=>by
  have h0:=he 0 (by omega);unfold dg at h0;rw [Vb,Nat.div_one,Nat.div_one] at h0;have hB:0<B:=by
   rcases Q0 B with e | e
   ·rw [e,Zq,Yw] at h; omega
   ·exact e
  have h1:=Qfm N (k:=k / B) (k':=k' / B) (X7 (by rw [Zp,<-Zq]; exact h)) (X7 (by rw [Zp,<-Zq]; exact h')) λi hi=>by
   rw [<-lQ,<-lQ]; exact he (i+1) (by omega)
  rw [<-W5 k B,<-W5 k' B,h0,h1]
def cd (B:Nat):Nat->(Nat->Nat)->Nat
 | 0,_=>0
 | E+1,x=>x 0+B*cd B E λe=>x (e+1)
theorem Qqq {B:Nat}:∀ (E:Nat) {x:Nat->Nat},(∀ e,e<E->x e<B)->cd B E x<B^E
 | 0,_,_=>by simp [cd]
 |
  E+1,x,h=>by
  have h1:=h 0 (by omega);have h2:=Qqq E (x:=λe=>x (e+1)) λe he=>h (e+1) (by omega)
  simp only [cd];have h3:B*cd B E (λe=>x (e+1))+B<=B*B^E:=by
   rw [<-Nat.mul_succ]; exact Zt _ h2
  rw [Zq,Zp (B^E)]; omega
theorem Qe8 {B:Nat}:∀ (E:Nat) {x y:Nat->Nat},(∀ e,e<E->x e<B)->(∀ e,e<E->y e<B)->cd B E x=cd B E y->∀ e,e<E->x e=y e
 | 0,_,_,_,_,_,e,he=>by omega
 |
  E+1,x,y,hx,hy,h,e,he=>by
  have h1:=hx 0 (by omega);have h2:=hy 0 (by omega);simp only [cd] at h;have e0:x 0=y 0:=by
   have:=congrArg (· % B) h;simp only [V9] at this;rwa [Xs h1,Xs h2] at this
  have e1:cd B E (λe=>x (e+1))=cd B E (λe=>y (e+1)):=Nat.eq_of_mul_eq_mul_left (by omega:0<B) (by omega);cases e with
  | zero=>exact e0
  | succ e=>exact Qe8 E (λe he=>hx (e+1) (by omega)) (λe he=>hy (e+1) (by omega)) e1 e (by omega)
def sm:Nat->(Nat->Int)->Int
 | 0,_=>0
 | n+1,f=>sm n f+f n
theorem Qjo (f g:Nat->Int):∀ n,sm n (λi=>f i-g i)=sm n f-sm n g
 | 0=>rfl
 | n+1=>by simp only [sm,Qjo f g n]; omega
theorem Lc {f g:Nat->Int}:∀ n,(∀ i,i<n->f i=g i)->sm n f=sm n g
 | 0,_=>rfl
 | n+1,h=>by simp only [sm,Lc n (λi hi=>h i (by omega)),h n (by omega)]
theorem Qjn {f:Nat->Int} {b:Nat}:∀ n,(∀ i,i<n->(f i).natAbs<=b)->(sm n f).natAbs<=n*b
 | 0,_=>by simp [sm]
 |
  n+1,h=>by
  have h1:=Qjn n λi hi=>h i (by omega)
  have h2:=h n (by omega);simp only [sm];rw [Xa]; omega
theorem YN {f:Nat->Int}:∀ n,(∀ i,i<n->f i=0)->sm n f=0
 | 0,_=>rfl
 | n+1,h=>by simp only [sm,YN n (λi hi=>h i (by omega)),h n (by omega)]; rfl
theorem bU (f:Nat->Int) (m:Nat):∀ n,sm (m+n) f=sm m f+sm n λi=>f (m+i)
 | 0=>by simp [sm]
 | n+1=>by rw [<-Yk]; simp only [sm,bU f m n]; omega
theorem bF (f:Nat->Int) (J:Nat):∀ b,sm (b*J) f=sm b λi=>sm J λj=>f (i*J+j)
 | 0=>by simp [sm]
 | b+1=>by rw [Xa,bU,bF f J b]; rfl
theorem EQ {f:Nat->Int} {k:Nat}:∀ n,k<n->(∀ i,i<n->i≠k->f i=0)->sm n f=f k
 | 0,h,_=>by omega
 |
  n+1,h,h1=>by
  simp only [sm];rcases Vl (Nat.le_of_lt_succ h) with e | e
  ·rw [EQ n e λi hi=>h1 i (by omega),h1 n (by omega) (by omega)]; omega
  ·subst e; rw [YN k λi hi=>h1 i (by omega) (by omega)]; omega
theorem Qu2 {M:Nat->Nat->Int} {h N E H:Nat} (hM:∀ e i,(M e i).natAbs<=h) (hc:(2*(N*(h*H))+1)^E<(H+1)^N) :
 ∃ v:Nat->Int,(∀ i,(v i).natAbs<=H)/\(∃ i,i<N/\v i≠0)/\∀ e,e<E->sm N (λi=>M e i*v i)=0:=by
 obtain ⟨T,hT⟩:=nmE (N*(h*H));rw [<-hT] at hc;have hv:∀ k i,dg (H+1) k i<=H:=λk i=>Nat.le_of_lt_succ (Z5 _ (by omega))
 have hs:∀ k e,(sm N λi=>M e i*(dg (H+1) k i:Int)).natAbs<=T:=λk e=>by
  rw [hT];refine Qjn N λi _=>?_
  rw [J5,Xg];exact Zi (hM e i) (hv k i)
 have him:∀ k e,((sm N λi=>M e i*(dg (H+1) k i:Int))+T).toNat<2*T+1:=λk e=>by have:=hs k e; omega
 obtain ⟨i,j,h1,h2,h3⟩:=Qic ((2*T+1)^E) (λk=>cd (2*T+1) E λe=>((sm N λi=>M e i*(dg (H+1) k i:Int))+T).toNat) λk _=>Qqq E λe _=>him k e
 have h4:=Qe8 E (λe _=>him i e) (λe _=>him j e) h3;refine ⟨λn=>(dg (H+1) i n:Int)-dg (H+1) j n,λn=>?_,?_,λe he=>?_⟩
 ·have a1:=hv i n;have a2:=hv j n;show ((dg (H+1) i n:Int)-dg (H+1) j n).natAbs<=H;omega
 ·rcases Classical.em (∃ n,n<N/\(dg (H+1) i n:Int)-dg (H+1) j n≠0) with e | e
  ·exact e
  ·exfalso;have:i=j:=Qfm (B:=H+1) N (by omega) (by omega) λn hn=>by
    rcases Classical.em (dg (H+1) i n=dg (H+1) j n) with e' | e'
    ·exact e'
    ·exact absurd ⟨n,hn,by omega⟩ e
   omega
 ·have a1:=h4 e he;have a2:=hs i e;have a3:=hs j e;have:(sm N λn=>M e n*(dg (H+1) i n:Int))=sm N λn=>M e n*(dg (H+1) j n:Int):=by omega
  have e1:=Qjo (λn=>M e n*(dg (H+1) i n:Int)) (λn=>M e n*(dg (H+1) j n:Int)) N;rw [this] at e1;rw [Lc N (g:=λn=>M e n*(dg (H+1) i n:Int)-M e n*(dg (H+1) j n:Int)) λn _=>Int.mul_sub _ _ _,e1]; omega
def U7:Uj->Rat->Rat
 | [],_=>0
 | a::p,t=>(a:Rat)+t*U7 p t
def sq:Nat->(Nat->Rat)->Rat
 | 0,_=>0
 | n+1,f=>sq n f+f n
theorem Pi {f g:Nat->Rat}:∀ n,(∀ i,i<n->f i=g i)->sq n f=sq n g
 | 0,_=>rfl
 | n+1,h=>by simp only [sq,Pi n (λi hi=>h i (by omega)),h n (by omega)]
theorem bL (f g:Nat->Rat):∀ n,sq n (λi=>f i+g i)=sq n f+sq n g
 | 0=>by simp only [sq]; grind
 | n+1=>by simp only [sq,bL f g n]; grind
theorem JW (c:Rat) (f:Nat->Rat):∀ n,sq n (λi=>c*f i)=c*sq n f
 | 0=>by simp only [sq]; grind
 | n+1=>by simp only [sq,JW c f n]; grind
theorem Cm {f:Nat->Rat}:∀ n,(∀ i,i<n->f i=0)->sq n f=0
 | 0,_=>rfl
 | n+1,h=>by simp only [sq,Cm n (λi hi=>h i (by omega)),h n (by omega)]; grind
theorem Ot (f:Nat->Rat):∀ n,sq (n+1) f=f 0+sq n λi=>f (i+1)
 | 0=>by simp only [sq]; grind
 | n+1=>by rw [sq,Ot f n]; simp only [sq]; grind
theorem Qrh {f:Nat->Rat} {b:Rat}:∀ n,(∀ i,i<n->Fh (f i)<=b)->Fh (sq n f)<=(n:Rat)*b
 | 0,_=>by rw [show ((0:Nat):Rat)=0 from rfl]; simp only [sq,Re]; grind
 |
  n+1,h=>by
  have h1:=Qrh n λi hi=>h i (by omega)
  have h2:=h n (by omega);have h3:=T0 (sq n f) (f n);have hn':(((n+1:Nat):Rat))=(n:Rat)+1:=by push_cast; rfl
  rw [hn']; simp only [sq]; clear h; grind
def gc:Uj->Nat->Nat->Int
 | [],_,_=>0
 | c::B,k,j=>(if k=0/\j=0 then c else 0)+(if k=0 then 0 else gc B (k-1) j)-(if j=0 then 0 else gc B k (j-1))
def gB:Uj->Nat
 | []=>0
 | c::B=>max c.natAbs (2*gB B)
theorem MY:∀ (B:Uj) (k j:Nat),B.length<=k+j->gc B k j=0
 | [],_,_,_=>rfl
 |
  c::B,k,j,h=>by
  simp only [Q7] at h;simp only [gc];rw [if_neg (by omega)];have e1:(if k=0 then 0 else gc B (k-1) j)=0:=by
   split
   ·rfl
   ·exact MY B _ _ (by omega)
  have e2:(if j=0 then 0 else gc B k (j-1))=0:=by
   split
   ·rfl
   ·exact MY B _ _ (by omega)
  rw [e1,e2]; rfl
theorem Qgf:∀ (B:Uj) (k j:Nat),(gc B k j).natAbs<=gB B
 | [],_,_=>Qh _
 |
  c::B,k,j=>by
  have h1:=Qgf B (k-1) j;have h2:=Qgf B k (j-1);simp only [gc,gB];by_cases hk:k=0 <;> by_cases hj:j=0 <;> simp only [hk,hj,true_and,and_true,false_and,and_false,if_true,if_false] <;> (try subst hk) <;> (try subst hj) <;> omega
theorem Qgg:∀ (B:Uj) (b:Nat),B.length=b+1->(gc B 0 b).natAbs=(B.getD b 0).natAbs
 | [],_,h=>by simp at h
 | [c],0,_=>by simp [gc]
 | c::d::B,0,h=>by simp at h
 |
  c::B,b+1,h=>by
  have ih:=Qgg B b (by simpa using h);simp only [gc];simp only [J7,Q4];rw [if_pos trivial,if_neg (Nat.succ_ne_zero b),<-ih]; omega
def E2 (F:Nat->Nat->Int) (K J:Nat) (x y:Rat):Rat:=sq K λk=>sq J λj=>(F k j:Rat)*(y^k*x^j)
theorem pH (F G:Nat->Nat->Int) (K J:Nat) (x y:Rat):E2 (λk j=>F k j+G k j) K J x y=E2 F K J x y+E2 G K J x y:=by
 unfold E2;rw [<-bL];refine Pi K λk _=>?_
 rw [<-bL];exact Pi J λj _=>by push_cast; grind
theorem Qfu (c:Int) (F:Nat->Nat->Int) (K J:Nat) (x y:Rat):E2 (λk j=>F k j*c) K J x y=(c:Rat)*E2 F K J x y:=by
 unfold E2;rw [<-JW];refine Pi K λk _=>?_
 rw [<-JW];exact Pi J λj _=>by push_cast; grind
theorem Qfv (φ:Nat->Nat->Nat->Int) (v:Nat->Int) (K J:Nat) (x y:Rat):∀ N,E2 (λk j=>sm N λn=>φ n k j*v n) K J x y=sq N λn=>(v n:Rat)*E2 (φ n) K J x y
 |
  0=>by
  simp only [sq,sm];unfold E2;refine Cm K λk _=>Cm J λj _=>?_
  rw [show ((0:Int):Rat)=0 from rfl]; grind
 |
  N+1=>by
  simp only [sq];rw [<-Qfv φ v K J x y N,<-Qfu,<-pH];rfl
theorem FR (t:Rat) (i:Nat):∀ k,t^(i+k)=t^i*t^k
 | 0=>by rw [Xk,Xf]; grind
 | k+1=>by rw [<-Yk,Z7,Z7,FR t i k]; grind
theorem EX (f:Nat->Rat):∀ (i n:Nat),sq (i+n) (λk=>if i<=k then f (k-i) else 0)=sq n f
 | i,0=>Cm _ λk hk=>by rw [if_neg (by omega)]
 |
  i,n+1=>by
  rw [<-Yk]; simp only [sq];rw [EX f i n,if_pos (by omega),Jg]
def PW (i j':Nat) (F:Nat->Nat->Int) (k j:Nat):Int:=if i<=k then (if j'<=j then F (k-i) (j-j') else 0) else 0
theorem CZ (F:Nat->Nat->Int) (i j' K J:Nat) (x y:Rat):E2 (PW i j' F) (i+K) (j'+J) x y=y^i*x^j'*E2 F K J x y:=by
 unfold E2;rw [<-JW,<-EX _ i K];refine Pi _ λk _=>?_
 by_cases hk:i<=k
 ·rw [if_pos hk,<-JW,<-EX _ j' J];refine Pi _ λj _=>?_
  unfold PW;rw [if_pos hk];by_cases hj:j'<=j
  ·rw [if_pos hj,if_pos hj];have e1:y^k=y^i*y^(k-i):=by rw [<-FR]; congr 1; omega
   have e2:x^j=x^j'*x^(j-j'):=by rw [<-FR]; congr 1; omega
   rw [e1,e2]; grind
  ·rw [if_neg hj,if_neg hj,show ((0:Int):Rat)=0 from rfl]; grind
 ·rw [if_neg hk];refine Cm _ λj _=>?_
  unfold PW;rw [if_neg hk,show ((0:Int):Rat)=0 from rfl]; grind
def fA (A:Uj) (k j:Nat):Int:=if j=0 then A.getD k 0 else 0
theorem Qib (y:Rat):∀ (A:Uj) (K:Nat),A.length<=K->sq K (λk=>((A.getD k 0:Int):Rat)*y^k)=U7 A y
 | [],K,_=>by rw [Cm]; rfl; intro i _; simp
 | a::A,0,h=>by simp at h
 |
  a::A,K+1,h=>by
  have ih:=Qib y A K (by simpa using h);rw [Ot];simp only [U7,Zs,Q4,Xf];rw [<-ih,<-JW];have:(sq K λi=>((A.getD i 0:Int):Rat)*y^(i+1))=sq K λi=>y*(((A.getD i 0:Int):Rat)*y^i):=Pi K λi _=>by rw [Z7]; grind
  rw [this]; grind
theorem Qw2 (A:Uj) (K J:Nat) (x y:Rat) (h:A.length<=K):E2 (fA A) K (J+1) x y=U7 A y:=by
 rw [<-Qib y A K h];refine Pi K λk _=>?_
 rw [Ot,Cm]
 ·simp only [fA,if_true,Xf]; grind
 ·intro j _;simp only [fA];rw [if_neg (by omega),show ((0:Int):Rat)=0 from rfl]; grind
theorem Qtb (x y:Rat):∀ (B:Uj) (K J:Nat),B.length<=K->B.length<=J->E2 (gc B) K J x y=U7 B (y-x)
 |
  [],K,J,_,_=>by
  unfold E2;simp only [gc,U7];exact Cm K λk _=>Cm J λj _=>by rw [show ((0:Int):Rat)=0 from rfl]; grind
 | c::B,0,J,h,_=>by simp at h
 | c::B,K+1,0,_,h=>by simp at h
 |
  c::B,K+1,J+1,h1,h2=>by
  have i1:=Qtb x y B K (J+1) (by simpa using h1) (by simp at h2; omega);have i2:=Qtb x y B (K+1) J (by simp at h1; omega) (by simpa using h2);have s1:=CZ (gc B) 1 0 K (J+1) x y;have s2:=CZ (gc B) 0 1 (K+1) J x y;rw [Zz,Jr 1 K] at s1;rw [Zz,Jr 1 J] at s2;rw [i1] at s1;rw [i2] at s2;have e0:E2 (fA [c]) (K+1) (J+1) x y=(c:Rat):=by rw [Qw2 [c] (K+1) J x y (by simp)]; simp only [U7]; grind
  have e1:gc (c::B)=λk j=>(fA [c] k j+PW 1 0 (gc B) k j)+PW 0 1 (gc B) k j*(-1):=by
   funext k j;simp only [gc,fA,PW];by_cases hk:k=0 <;> by_cases hj:j=0
   ·subst hk; subst hj; simp
   ·subst hk; simp [hj,show 1<=j by omega]
    try omega
   ·subst hj;obtain ⟨m,rfl⟩:∃ m,k=m+1:=⟨k-1,by omega⟩;simp
   ·obtain ⟨m,rfl⟩:∃ m,k=m+1:=⟨k-1,by omega⟩;obtain ⟨i,rfl⟩:∃ i,j=i+1:=⟨j-1,by omega⟩;simp; omega
  rw [e1,pH (λk j=>fA [c] k j+PW 1 0 (gc B) k j) (λk j=>PW 0 1 (gc B) k j*(-1)),pH (fA [c]) (PW 1 0 (gc B)),Qfu,e0,s1,s2];simp only [U7,Xf,show y^1=y by rw [Z7,Xf]; grind,show x^1=x by rw [Z7,Xf]; grind];rw [show (((-1:Int)):Rat)=-1 from rfl];grind
end Orq
