/- C2 D1 E1 AlgL F1 F2 F3 F4 F5 T1 T2 T3 T4 T5 T6 T7 T8 T9 -/
import Derived.Test.YtoohlnnpalgnaaaGreatPart04
import Derived.Test.YtoohlnnpalgnaaaGreatPart00
set_option linter.all false
namespace Orr
open Go Go.Proofs Tryz
set_option maxRecDepth 10000
theorem Ta {l:List Pt} {i:Nat} {p:Pt} (h:l[i]? = some p):(l.map Fa)[i]? = some [pl p.c.x,pl p.c.y,sg p.c.d,mg p.c.d,.int .i64 p.id]:=Gt h
theorem XI (l:List Pt):∀ c∈l.map Fa,c.length=5:=Qq7 l λ_=>rfl
theorem Qmn {lx ly:Uq} {px py:Uk} {x y:LV} {d:Int} (hx:IsInts lx px) (hy:IsInts ly py) (hd:Gs x y d) (hk:Cs 4294967294 1073741824 (Crv.mk px py d)) (id:Int):Uh 287 [.agg [.row lx,.row ly,x,y,.int .i64 id]] [.agg (Fa ⟨Crv.norm (Crv.mk px py d),id⟩)]:=by
 have cd:=Bz hd (Qc hk.d (by omega));by_cases h0:d=0
 ·subst h0;have ck:Cs 4294967294 1073741824 (Crv.mk px py 1):=⟨hk.x,hk.y,show Fe 1<=4294967294 by decide,hk.lx,hk.ly⟩;have cm:=WB hx hy (U3 1) ck (by decide);have e:Crv.norm (Crv.mk px py 1)=Crv.norm (Crv.mk px py 0):=by simp only [Crv.norm,Crv.g,Crv.d']; rfl
  rw [e] at cm;obtain ⟨b,l,rfl,rfl,_⟩:=hd;exact Ue func287 rfl [.k cd,.k Lj,.t (by simp),.k (zP (z:=1) (by decide)),.k cm] rfl
 ·have cm:=WB hx hy hd hk h0;obtain ⟨b,l,rfl,rfl,_⟩:=hd;exact Ue func287 rfl [.k cd,.k Lj,.f (by simpa using h0),.k cm] rfl
theorem Qwu {l:List Pt} (id:Int) (hl:l.length<1073741824):Uh 286 [.agg [pts l],.oi id] [.oi (Im l id:Int),.one (.bool (has l id))]:=by
 refine Fw func286 rfl ?_;refine Ub [] rfl ?_;refine ct 2 (S:=Unit) (λ_=>[(1,.v (.oi id)),(2,.v (.one (.ow 0 0))),(6,.v (.oi (Im l id:Int)))]) (λ_=>[.blk 218 [pts l]]) (λ_=>True) rfl ?_ ?_
 ·refine Ug (S:=Nat) 1 (λL1 k=>(6,.v (.oi k))::L1) (λ_=>[.blk 218 [pts l]]) (λk=>l.length-k) (λk=>k<=l.length/\∀ j p,j<k->l[j]? = some p->p.id<id) 0 ⟨Qh _,λj p h=>by omega⟩ rfl rfl λk ⟨hk,hlt⟩=>?_
  by_cases h:k<l.length
  ·obtain ⟨p,hp⟩:=gxE (l:=l) (i:=k) h;by_cases hid:p.id<id
   ·refine Uc [.t (by simp; omega),.x (Ta hp),.t (by simpa using hid)] rfl ?_;exact rd (k+1) (by omega) ⟨h,λj q hj hq=>by
     rcases Q9 j k with h2 | h2
     ·exact hlt j q h2 hq
     ·have:j=k:=by omega
      subst this; rw [hp] at hq; injection hq with hq; rw [<-hq]; exact hid⟩ rfl
   ·have e:=LJ hlt (.inr ⟨p,hp,hid⟩);refine Ub [.t (by simp; omega),.x (Ta hp),.f (by simpa using hid)] rfl ?_;rw [e];exact rc () trivial rfl
  ·obtain rfl:k=l.length:=by omega
   have e:=LJ hlt (.inl rfl);refine Ub [.f (by simp),.f rfl] rfl ?_;rw [e];exact rc () trivial rfl
 ·intro _ _;by_cases h:Im l id<l.length
  ·obtain ⟨p,hp⟩:=gxE (l:=l) (i:=Im l id) h;have e:has l id=decide (p.id=id):=by simp [has,hp]
   rw [e];exact Ud [.g 30 true (by simp; omega),.x (Ta hp)] rfl
  ·have e:has l id=false:=by simp [has,Qw (J5 h)]
   rw [e];exact Ud [.g 30 false (by simp; omega)] rfl
theorem If {l:List Pt}:Uh 252 [.agg [pts l]] [.one (pts l)]:=Ue func252 rfl [] rfl
theorem kZ {lx ly:Uq} {px py:Uk} {x y:LV} {d id:Int} {l:List Pt} (hx:IsInts lx px) (hy:IsInts ly py) (hd:Gs x y d) (hk:Cs 4294967294 1073741824 (Crv.mk px py d)) (hl:l.length<=1000000) :
 Uh 249 [.agg [pts l],.agg [.row lx,.row ly,x,y,.int .i64 id]] [.agg [pts (if KL l (Pt.mk (Crv.norm (Crv.mk px py d)) id)=0 then put l (Pt.mk (Crv.norm (Crv.mk px py d)) id) else l)],.oi (KL l (Pt.mk (Crv.norm (Crv.mk px py d)) id))]:=by
 have ca:=Qwu (l:=l) id (by omega);have cf:=Qmn hx hy hd hk id;obtain ⟨b,r,rfl,rfl,_⟩:=hd;obtain ⟨q,hq⟩:=nmE (Pt.mk (Crv.norm (Crv.mk px py d)) id);have hqi:q.id=id:=by rw [hq]
 rw [<-hq] at cf ⊢;have hpl:=nY l id;by_cases h1:has l id=true
 ·have e:KL l q=6:=by simp [KL,hqi,h1]
  rw [e,if_neg (by decide)];exact Ue func249 rfl [.k ca,.t h1] rfl
 by_cases h2:6<=l.length
 ·have e:KL l q=9:=by simp [KL,hqi,h1,h2]
  rw [e,if_neg (by decide)];exact Ue func249 rfl [.k ca,.f (by simpa using h1),.t (by simp; omega)] rfl
 have e:KL l q=0:=by simp [KL,hqi,h1,h2]
 rw [e,if_pos rfl];have s1:∀ c∈(l.map Fa).take (Im l id),c.length=5:=λc hc=>XI l c (Qo hc)
 have s3:∀ c∈(l.map Fa).drop (Im l id),c.length=5:=λc hc=>XI l c (Q3 hc)
 refine Ue func249 rfl [.k ca,.f (by simpa using h1),.f (by simp; omega),.i (Im l id),.s s1,.k cf,.i (Im l id),.s s3] rfl ?_ ?_
 ·simp [put,hqi,pts,Jv,Vh,Fa]
 ·simp [Uz];exact ⟨by omega,hpl,λ_ _=>rfl,by omega,by omega,hpl⟩
theorem sN {l:List Pt} (hok:∀ p∈l,oV 4294967294 1073741824 p) (hl:l.length<1073741824):Uh 257 [.agg [pts l]] [.one (pts (Tg l))]:=by
 refine Fw func257 rfl ?_;refine Ub [.o 3 40 5] rfl ?_;refine Ug (S:=Nat) 2 (λL1 i=>(12,.v (.oi i))::(3,.v (.one (.orow 1 5 none)))::L1) (λi=>[.blk 218 [pts l],.row false 40 5 (((l.take i).foldl Bs []).map Fa)]) (λi=>l.length-i) (λi=>i<=l.length) 0 (Qh _) rfl rfl λi hi=>?_
 by_cases hlt:i<l.length
 ·obtain ⟨p,hp⟩:=gxE (l:=l) (i:=i) hlt;obtain ⟨hn,hk⟩:=hok p (Qa hp);have hws:=Tv Bs [] l hp;have hwl:=VN l i;have hwm:=VB l i;obtain ⟨o,ho⟩:=nmE ((l.take i).foldl Bs []);rw [<-ho] at hws hwl hwm ⊢;refine Ub [.t (by simp; omega),.x (Ta hp)] rfl ?_;refine Ug (S:=Nat) 3 (λL1 k=>(18,.v (.oi k))::(6,.v (.one (.bool ((o.take k).any λq=>Lu p.c q.c))))::L1) (λk=>[.blk 218 [pts l],.row false 40 5 (o.map Fa),.blk 40 (Fa p)]) (λk=>o.length-k) (λk=>k<=o.length) 0 (Qh _) rfl rfl λk hk2=>?_
  by_cases hk3:k<o.length
  ·obtain ⟨q,hq⟩:=gxE (l:=o) (i:=k) hk3;obtain ⟨hqn,hqk⟩:=hok q (hwm q (Qa hq));have hany:((o.take (k+1)).any λq=>Lu p.c q.c)=(((o.take k).any λq=>Lu p.c q.c) || Lu p.c q.c):=by rw [Y5,hq,List.any_append]; simp
   cases hb:(o.take k).any λq=>Lu p.c q.c with
   |
    true =>
    rw [hb] at hany;refine Uc [.t (by simp; omega),.i k,.x (Ta hq),.t rfl,.r 29 (v:=.one (.bool ((o.take (k+1)).any λq=>Lu p.c q.c))) (by rw [hany]; rfl)] rfl ?_;exact rd (k+1) (by omega) hk3 rfl
   |
    false =>
    rw [hb] at hany;refine Uc [.t (by simp; omega),.i k,.x (Ta hq),.f rfl,.k (dV hn hqn hk hqk),.r 29 (v:=.one (.bool ((o.take (k+1)).any λq=>Lu p.c q.c))) (by rw [hany]; rfl)] rfl ?_;exact rd (k+1) (by omega) hk3 rfl
  ·obtain rfl:k=o.length:=by omega
   rw [Q5];cases hb:o.any λq=>Lu p.c q.c with
   |
    true =>
    have e:Bs o p=o:=by unfold Bs; rw [if_pos hb]
    exact go tt [.f (by simp),.f rfl] rfl (by simp [Uz]; omega) (rd (i+1) (by omega) hlt (by rw [hws,e]; rfl))
   |
    false =>
    have e:Bs o p=o++[p]:=by unfold Bs; rw [if_neg (by rw [hb]; decide)]
    exact go tt [.f (by simp),.t rfl] rfl (by simp [Uz]; omega) (rd (i+1) (by omega) hlt (by rw [hws,e,Yd]; rfl))
 ·obtain rfl:i=l.length:=by omega
  exact Ud [.f (by simp)] rfl (by rw [Q5]; rfl) trivial
theorem iC (q:Rat):U9 [-q.num,(q.den:Int)]:=by
 have:=q.den_nz;simp [U9,trim,this]
theorem Qwa {s:Nat} {q:Rat} (h:Qs s q):Bd s [-q.num,(q.den:Int)]:=λz hz=>by
 simp at hz;rcases hz with rfl | rfl
 ·rw [Hx]; exact h.1
 ·exact h.2
theorem VW {x y x' y':LV} {n d:Int} (h1:Gs x y n) (h2:Gs x' y' d) (hn:Fe n<=4294967295) (hd:Fe d<=4294967295) (hq:Qs 4294967295 (Gu n d)):Uh 98 [.agg [x,y,x',y']] [.agg (qa (Gu n d))]:=by
 have c1:=BX h1 h2 hn hd;obtain ⟨b,l,rfl,rfl,_⟩:=h1;obtain ⟨b',l',rfl,rfl,_⟩:=h2;exact Ue func98 rfl [.k c1,.k (NN (U3 _) hq.1),.k (Nl hq)] rfl
theorem Di {k:Crv} (hn:JH k) (hk:Cs 4294967294 1073741824 k):Uh 242 [.agg (cl k)] [.agg (cl k)]:=by
 have h0:k.d≠0:=by have:=hn.2.2.1; omega
 have cm:=WB (Gl k.x) (Gl k.y) (U3 k.d) hk h0;rw [show Crv.mk k.x k.y k.d=k from rfl,Crv.norm_of hn] at cm;exact Ue func242 rfl [.k (Bz (U3 k.d) (Qc hk.d (by omega))),.k Lj,.f (by simpa using h0),.k cm] rfl
theorem WN {a b:Crv} (ha:JH a) (hb:JH b) (ca:Cb a) (cb:Cb b):Uh 232 [.agg (cl a),.agg (cl b)] [pr (Gh a b)]:=by
 have l1:=ca.lx;have l2:=cb.lx;have l3:=Fx b.x a.d;have l4:=Fx a.x b.d;exact Ue func232 rfl [.k (Di ha (ca.mono (by omega) (by omega))),.k (Di hb (cb.mono (by omega) (by omega))),.k (Mz (by omega) (U0 cb.x (by omega)) (Qc ca.d (by omega))),.k (Mz (by omega) (U0 ca.x (by omega)) (Qc cb.d (by omega))),.k (GA (by omega) (by omega) (U0 (Gf cb.x ca.d) (by omega)) (U0 (Gf ca.x cb.d) (by omega)))] rfl
theorem WS {a b:Crv} (ha:JH a) (hb:JH b) (ca:Cb a) (cb:Cb b):Uh 233 [.agg (cl a),.agg (cl b)] [pr (Gg a b)]:=by
 have l1:=ca.ly;have l2:=cb.ly;have l3:=Fx b.y a.d;have l4:=Fx a.y b.d;exact Ue func233 rfl [.k (Di ha (ca.mono (by omega) (by omega))),.k (Di hb (cb.mono (by omega) (by omega))),.k (Mz (by omega) (U0 cb.y (by omega)) (Qc ca.d (by omega))),.k (Mz (by omega) (U0 ca.y (by omega)) (Qc cb.d (by omega))),.k (GA (by omega) (by omega) (U0 (Gf cb.y ca.d) (by omega)) (U0 (Gf ca.y cb.d) (by omega)))] rfl
def S6 (ps:Ul):Uq:=ps.map λp=>[pl p]
theorem Rk {ps:Ul} {i:Nat} {p:Uk} (h:ps[i]? = some p):(S6 ps)[i]? = some [pl p]:=Gt h
theorem kJ {p q:Uk}:Uh 291 [pr p,pr q] [pr (Lk p q)]:=by
 by_cases h:0<p.length
 ·exact Ue func291 rfl [.t (by simp; omega)] rfl (by simp only [Lk]; rw [if_pos h]) trivial
 ·exact Ue func291 rfl [.f (by simp; exact Qj (by omega))] rfl (by simp only [Lk]; rw [if_neg h]) trivial
theorem Qal:Uh 290 [.oi 1] [.oi 2]:=Ue func290 rfl [.t rfl,.t rfl] rfl
theorem Qam:Uh 290 [.oi 2] [.oi 2]:=Ue func290 rfl [.f rfl,.t rfl] rfl
theorem Qan:Uh 290 [.oi 3] [.oi 3]:=Ue func290 rfl [.f rfl,.f rfl,.t rfl] rfl
theorem Qao:Uh 290 [.oi 4] [.oi 4]:=Ue func290 rfl [.f rfl,.f rfl,.f rfl,.t rfl,.t rfl] rfl
theorem Qap:Uh 290 [.oi 5] [.oi 4]:=Ue func290 rfl [.f rfl,.f rfl,.f rfl,.f rfl,.t rfl] rfl
theorem Qdw {k i0 i1 i2 i3 l j0 j1 j2 j3:Int}:Uh 322 [.agg [.int .i64 k,.int .i64 i0,.int .i64 i1,.int .i64 i2,.int .i64 i3],.agg [.int .i64 l,.int .i64 j0,.int .i64 j1,.int .i64 j2,.int .i64 j3]] [.one (.bool (Cx [k,i0,i1,i2,i3] [l,j0,j1,j2,j3]))]:=by
 by_cases hk:k=l
 ·subst hk;rw [show Cx [k,i0,i1,i2,i3] [k,j0,j1,j2,j3]=Cx [i0,i1,i2,i3] [j0,j1,j2,j3] from by simp [Cx]];refine Fw func322 rfl ?_;refine Ub [.f (by simp)] rfl ?_;refine Ug (S:=Nat) 2 (λL1 i=>(19,.v (.oi i))::L1) (λ_=>[.blk 97 [.int .i64 k,.int .i64 i0,.int .i64 i1,.int .i64 i2,.int .i64 i3],.blk 97 [.int .i64 k,.int .i64 j0,.int .i64 j1,.int .i64 j2,.int .i64 j3]]) (λi=>4-i) (λi=>i<=4/\Cx ([i0,i1,i2,i3].drop i) ([j0,j1,j2,j3].drop i)=Cx [i0,i1,i2,i3] [j0,j1,j2,j3]) 0 ⟨by omega,rfl⟩ rfl rfl λi ⟨hi,he⟩=>?_
  rw [<-he];rcases (show i=0\/i=1\/i=2\/i=3\/i=4 by omega) with rfl | rfl | rfl | rfl | rfl
  ·by_cases h:i0=j0
   ·exact go tt [.t rfl,.i 0,.i 0,.f (by simpa using h)] rfl (by simp [Uz]) (rd 1 (by omega) ⟨by omega,by simp [Cx,h]⟩ rfl)
   ·exact Ud [.t rfl,.i 0,.i 0,.t (by simpa using h),.i 0] rfl (by simp [Cx,h]) trivial
  ·by_cases h:i1=j1
   ·exact go tt [.t rfl,.i 1,.i 1,.f (by simpa using h)] rfl (by simp [Uz]) (rd 2 (by omega) ⟨by omega,by simp [Cx,h]⟩ rfl)
   ·exact Ud [.t rfl,.i 1,.i 1,.t (by simpa using h),.i 1] rfl (by simp [Cx,h]) trivial
  ·by_cases h:i2=j2
   ·exact go tt [.t rfl,.i 2,.i 2,.f (by simpa using h)] rfl (by simp [Uz]) (rd 3 (by omega) ⟨by omega,by simp [Cx,h]⟩ rfl)
   ·exact Ud [.t rfl,.i 2,.i 2,.t (by simpa using h),.i 2] rfl (by simp [Cx,h]) trivial
  ·by_cases h:i3=j3
   ·exact go tt [.t rfl,.i 3,.i 3,.f (by simpa using h)] rfl (by simp [Uz]) (rd 4 (by omega) ⟨by omega,by simp [Cx,h]⟩ rfl)
   ·exact Ud [.t rfl,.i 3,.i 3,.t (by simpa using h),.i 3] rfl (by simp [Cx,h]) trivial
  ·exact Ud [.f rfl] rfl (by simp [Cx]) trivial
 ·exact Ue func322 rfl [.t (by simpa using hk)] rfl (by simp [Cx,hk]) trivial
abbrev zCt:Up:=[.int .i64 0,.int .i64 0,.int .i64 0,.int .i64 0,.int .i64 0,.nils,.int .i64 0]
def U6 (l:List Ct):Uq:=l.map Db
theorem ZM {l:List Ct} {i:Nat} {c:Ct} (h:l[i]? = some c):(U6 l)[i]? = some (Db c):=Gt h
theorem Pa (l:List Ct):(U6 l).length=l.length:=by simp [U6]
theorem Iz (l:List Ct):∀ c∈U6 l,c.length=7:=λc hc=>by
 obtain ⟨x,_,rfl⟩:=Q8.1 hc; rfl
theorem Qg5 {O:List Ct} {z:Up} {c:Ct} {k m:Nat} {l2:Uq} (hk:k<=O.length) (hp:XL O c O.length=k) (hm:m=O.length-k) (h2:l2.take m=((U6 O++[z]).drop k).take m) :
 ((U6 O++[z]).take (k+1)++(l2.take m++(U6 O++[z]).drop (k+1+m))).set k (Db c)=U6 (KW O c):=by
 rw [h2,<-Za,uG (U6 O) z (Db c) (by rw [Pa]; omega) (by rw [Pa]; omega)];simp [KW,hp,U6,Jv,Vh]
theorem GI {l:List Ct} (hl:∀ c∈l,Pb c.p) (hn:l.length≤1000000):Uh 288 [.one (.row (U6 l))] [.one (.row (U6 (Fq l)))]:=by
 have hcl:=Pa l;refine Fw func288 rfl ?_;refine Ub [.o 3 99 7] rfl ?_;refine Ug (S:=Nat) 1 (λL1 i=>(9,.v (.oi i))::(3,.v (.one (.orow 0 7 none)))::L1) (λi=>[.row false 99 7 (U6 (Fq (l.take i)))]) (λi=>l.length-i) (λi=>i<=l.length) 0 (Qh _) rfl rfl λi hi=>?_
 by_cases hlt:i<l.length
 ·obtain ⟨c,hc⟩:=gxE (l:=l) (i:=i) hlt;have hst:=bF hc;have hcp:=hl c (Qa hc);obtain ⟨O,hO⟩:=nmE (Fq (l.take i));have hOl:O.length=i:=by rw [hO,Ml,Qt]; omega
  rw [<-hO] at hst ⊢;refine Ub [.t (by simp [hcl]; omega),.x (ZM hc)] rfl ?_;refine Ug (S:=Nat) 2 (λL1 k=>(6,.v (.oi k))::L1) (λk=>[.row false 99 7 (U6 O),.blk 99 (Db c)]) id (λk=>k<=O.length/\XL O c k=XL O c O.length) (U6 O).length ⟨by rw [Pa]; exact Ql _,by rw [Pa]⟩ rfl rfl λk ⟨hk,hp⟩=>?_
  have hz:∀ y∈[zCt],y.length=7:=λy hy=>by rw [Qk.1 hy]; rfl
  have h77:∀ y∈U6 O++[zCt],y.length=7:=λy hy=>by
   rcases Qq.1 hy with hy | hy
   ·exact Iz O y hy
   ·exact hz y hy
  cases k with
  |
   zero =>
   have hp:XL O c O.length=0:=by rw [<-hp]; rfl
   refine go tt [.g 17 false (by simp),.f rfl,.s (sz:=7) hz,.r 36 (eI (b:=((0+1:Nat):Int)) (by simp)),.i (0+1),.i (0),.s (sz:=7) (λy hy=>h77 y (Qo hy)),.i (O.length),.k (Ht hcp.t (by have:=hcp.l; omega) (U0 hcp.b (by omega))),.i (0)] rfl (by simp [Uz,Pa]; omega) ?_;exact rd (i+1) (by omega) hlt (by rw [hst,<-Qg5 (z:=zCt) (l2:=(U6 O++[zCt]).take ((U6 O++[zCt]).length-0)) (k:=0) (m:=O.length) (by omega) hp (by omega) (by congr 1; exact Qn (by simp))]; rfl)
  |
   succ k =>
   obtain ⟨x,hx⟩:=gxE (l:=O) (i:=k) (by omega);by_cases hlc:uM c x=true
   ·refine go tt [.g 17 true (by simp),.r 22 (eI (b:=(k:Int)) (by simp)),.i k,.x (ZM hx),.k Qdw,.t hlc,.r 29 (eI (b:=(k:Int)) (by simp))] rfl (by simp [Uz,Pa]; omega) ?_;exact rd k (by simp) ⟨by omega,by rw [<-hp,Qok hx hlc]⟩ rfl
   ·have hlc:uM c x=false:=by simpa using hlc
    have hp:XL O c O.length=k+1:=by rw [<-hp,Qih hx hlc]
    refine go tt [.g 17 true (by simp),.r 22 (eI (b:=(k:Int)) (by simp)),.i k,.x (ZM hx),.k Qdw,.f hlc,.s (sz:=7) hz,.r 36 (eI (b:=((k+1+1:Nat):Int)) (by simp)),.i (k+1+1),.i (k+1),.s (sz:=7) (λy hy=>h77 y (Q3 (Qo hy))),.i (O.length-(k+1)),.k (Ht hcp.t (by have:=hcp.l; omega) (U0 hcp.b (by omega))),.i (k+1)] rfl (by simp [Uz,Pa]; omega) ?_;exact rd (i+1) (by omega) hlt (by rw [hst,<-Qg5 (z:=zCt) (l2:=((U6 O++[zCt]).drop (k+1)).take ((U6 O++[zCt]).length-(k+1))) (k:=k+1) (m:=O.length-(k+1)) (by omega) hp (by omega) (by congr 1; exact Qn (by simp))]; rfl)
 ·obtain rfl:i=l.length:=by omega
  rw [Q5];exact Ud [.f (by simp [hcl])] rfl
end Orr
namespace Orr
def Fl (p:Uk):Int:=p.getD (p.length-1) 0
def AA (p:Uk):Option Uk:=if p.length<=64/\(p.all λz=>Nat.ble (Fe z) 16777216)=true then some p else none
def chq (q:Rat):Option Rat:=if Fe q.num<=16777216/\Fe (q.den:Int)<=16777216 then some q else none
def S8 (p:Uk):Int:=(Ru p:Nat)
def Cy (p:Uk) (c:Int):Uk:=trim (p.map (· / c))
def Hk (p:Uk):Int:=if Fl p<0 then -S8 p else S8 p
def Fg (p:Uk):Uk:=if p.length=0 then [] else Cy p (Hk p)
def mono (i:Nat) (x:Int):Uk:=List.replicate i 0++[x]
def gW (b:Uk) (c:Int):Nat->Uk×Uk->Uk×Uk
 | 0,s=>s
 |
  i+1,(q,r) =>
  gW b c i (ZK (Ft q c) (mono i (if r.length=b.length+i then Fl r else 0)),Mx (Ft r c) (Gk (trim (mono i (if r.length=b.length+i then Fl r else 0))) b))
def Py (a b:Uk):Uk:=(gW b (Fl b) (a.length+1-b.length) ([],a)).2
def Bm (a b r:Uk):Uk:=if (a.length+1-b.length) % 2=1/\Fl b<0 then Mi r else r
def VT (r:Uk):Uk:=if r.length=0 then [] else Cy r (S8 r)
def Rv (a b:Uk):Uk:=VT (Bm a b (Py a b))
def jA (b:Uk):Nat->Uk->Uk->Option Uk
 | 0,a,q=>if a.length=0 then some q else none
 | i+1,a,q=>if a.length<b.length+i then jA b i a q else if Fl a % Fl b=0 then jA b i (Mx a (Gk (trim (mono i (Fl a / Fl b))) b)) (q.set i (Fl a / Fl b)) else none
def XE (a b:Uk):Option Uk:=if b.length=0 then none else (jA b (a.length+1-b.length) a (List.replicate (a.length+1-b.length) 0)).bind λq=>AA (trim q)
def TJ:Nat->Uk->Uk->Option Uk
 | 0,_,_=>none
 | k+1,a,b=>if b.length=0 then some a else (AA (Rv a b)).bind λr=>TJ k b r
def XO (a b:Uk):Option Uk:=(TJ 66 (Fg a) (Fg b)).map Fg
def jO (a b:Uk):Option Uk:=(XO [] a).bind λg=>XO g b
def Pf (a:Uk):Option Uk:=if (Fg a).length<2 then some (Fg a) else (AA (Gv (Fg a))).bind λd=>(XO (Fg a) d).bind λg=>XE (Fg a) g
def HE:Nat->Uk->Option Ul
 | 0,_=>none
 | k+1,g=>if g.length<2 then some [] else (AA (Gv g)).bind λd=>(XO g d).bind λh=>(XE g h).bind λw=>(HE k h).bind λl=>some (w::l)
def EC:Ul->Option Ul
 | []=>some []
 | [w]=>some [w]
 | w::v::l=>(XE w v).bind λf=>(EC (v::l)).bind λr=>some (f::r)
def FQ:Nat->Uk->Ul->Option Uk
 | _,p,[]=>some p
 | i,p,f::l=>if i % 2=0 then (AA (Gk p f)).bind λq=>FQ (i+1) q l else FQ (i+1) p l
def nX (a:Uk):Option Uk:=if (Fg a).length=0 then some [] else (HE 66 (Fg a)).bind λl=>(EC l).bind λfs=>FQ 0 [1] fs
def tU:Nat->Uk->Uk->Option Ul
 | 0,_,_=>none
 | k+1,a,b=>if b.length=0 then some [] else (AA (Rv a b)).bind λr=>(tU k b (Mi r)).bind λl=>some (b::l)
def Lt (p:Uk):Option Ul:=(Pf p).bind λa=>if a.length=0 then none else (AA (Gv a)).bind λd=>(tU 66 a (Fg d)).bind λl=>some (a::l)
def Pj (sg:Uk->Int) (s:Nat×Int) (p:Uk):Nat×Int:=if sg p=0 then s else (if s.2=-(sg p) then s.1+1 else s.1,sg p)
def Co (sg:Uk->Int) (l:Ul):Nat:=(l.foldl (Pj sg) (0,0)).1
def Cq (l:Ul) (q:Rat):Nat:=Co (λp=>H7 p q) l
def Tj (l:Ul) (lo hi:Rat):Int:=if G6 hi lo<0 then 0 else (Cq l lo:Int)-(Cq l hi:Int)
def UW (p:Uk):Int:=Int.sign (Fl p)
def ZY (p:Uk):Int:=if p.length % 2=0 then -Int.sign (Fl p) else Int.sign (Fl p)
def KO (l:Ul):Int:=(Co ZY l:Int)-(Co UW l:Int)
def most:Uk->Nat:=λl=>l.foldl (λm z=>if m<z.natAbs then z.natAbs else m) 0
def Gw (p:Uk):Rat:=Rat.divInt (((Fl p).natAbs:Int)+(most (p.take (p.length-1)):Int)) ((Fl p).natAbs:Int)
def mid (a b:Rat):Rat:=Rat.divInt (a.num*(b.den:Int)+b.num*(a.den:Int)) ((a.den:Int)*(b.den:Int)*2)
def Ib (p:Uk) (c:Ul):Nat->Rat->Rat->Int->Option (List Tm)
 | 0,_,_,_=>none
 | k+1,lo,hi,n=>if n=0 then some [] else if n=1 then some [⟨p,lo,hi⟩] else (chq (mid lo hi)).bind λm=>(Ib p c k lo m (Tj c lo m)).bind λl=>(Ib p c k m hi (n-Tj c lo m)).bind λr=>some (l++r)
def SS (p:Uk):Option (List Tm):=(Lt p).bind λc=>(Pf p).bind λq=>(chq (Gw q)).bind λb=>Ib q c 100000 (-b) b (KO c)
def Tm.point (a:Tm):Bool:=decide (0<=G6 a.lo a.hi)
def low (p:Uk) (q:Rat):Int:=if H7 p q≠0 then H7 p q else H7 (Gv p) q
def UT (p:Uk) (lo hi:Rat):Bool:=decide (H7 p hi=0\/H7 p hi≠low p lo)
def Fj (a:Tm) (t:Rat):Int :=
 if a.point=true then G6 a.lo t else if G6 t a.lo<=0 then 1 else if 0<G6 t a.hi then -1 else if H7 a.p t=0 then 0 else if H7 a.p t=low a.p a.lo then 1 else -1
def xB (a:Tm):Option Tm:=if a.point=true then some a else (chq (mid a.lo a.hi)).bind λm =>
 some (if Fj a m=0 then ⟨a.p,m,m⟩ else if Fj a m=-1 then ⟨a.p,a.lo,m⟩ else ⟨a.p,m,a.hi⟩)
def G8 (p:Uk):Nat:=p.foldl (λn z=>max n (Fe z)) 0
def Pu (a b:Tm):Nat:=64+2*(Fe a.lo.num+Fe a.hi.num+Fe b.lo.num+Fe b.hi.num)+4*(a.p.length+b.p.length)*(G8 a.p+G8 b.p+(a.p.length+b.p.length)+8)
def LP (a b:Rat):Rat:=Rat.divInt (a.num*(b.den:Int)-b.num*(a.den:Int)) ((a.den:Int)*(b.den:Int))
def Dv (a b:Tm):Bool:=decide (G6 a.hi b.lo<=0/\¬((a.point=true/\b.point=true)/\G6 a.hi b.lo=0))
def EM:Nat->Tm->Tm->Option (Tm×Tm×Int)
 | 0,a,b=>some (a,b,0)
 |
  k+1,a,b=>if Dv a b=true then some (a,b,-1) else if Dv b a=true then some (a,b,1) else
  if 0<=G6 (LP a.hi a.lo) (LP b.hi b.lo) then (xB a).bind λx=>EM k x b else (xB b).bind λx=>EM k a x
def WI (a b:Tm):Option Int:=if a.point=true then some (-Fj b a.lo) else if b.point=true then some (Fj a b.lo) else
 let lo:=if 0<G6 b.lo a.lo then b.lo else a.lo
 let hi:=if G6 b.hi a.hi<0 then b.hi else a.hi
 if G6 lo hi<0 then (jO a.p b.p).bind λg=>if 1<g.length/\UT g lo hi=true then some 0 else (EM (Pu a b) a b).bind λr=>some r.2.2
 else (EM (Pu a b) a b).bind λr=>some r.2.2
def sgF (c:Ul):Nat->Tm->Option Tm
 | 0,a=>some a
 | k+1,a=>if a.point=true\/Tj c a.lo a.hi=0 then some a else (xB a).bind λx=>sgF c k x
def FB (p:Uk) (a:Tm):Option Int:=if p.length=0 then some 0 else if a.point=true then some (H7 p a.lo) else
 (jO p a.p).bind λg=>if 1<g.length/\UT g a.lo a.hi=true then some 0 else (Lt p).bind λc=>(sgF c (64+2*(Fe a.lo.num+Fe a.hi.num)+4*(a.p.length+p.length)*(G8 a.p+G8 p+(a.p.length+p.length)+8)) a).bind λx=>some (H7 p x.hi)
def QF:Tm->List Tm->Option Tm
 | b,[]=>some b
 | b,a::l=>(WI a b).bind λc=>QF (if c<0 then a else b) l
def VH (a:Tm):List Tm->Option (Option Tm)
 | []=>some none
 | r::l=>(WI r a).bind λc=>if 0<c then some (some r) else VH a l
def WY (p:Uk):Option (List Tm):=(nX p).bind λq=>if q.length=0 then some [] else SS q
def SK (p:Uk) (a:Tm):Option (Option Tm):=(WY p).bind λl=>VH a l
end Orr
namespace Orr
open Go Go.Proofs Tryz
set_option maxRecDepth 10000
theorem Eb {p:Uk} (tp:U9 p) (h:p.length≠0):Fl p≠0:=H5 tp (by omega)
theorem CO {p:Uk} (h:p.length≠0):Fl p∈p:=Qa (Ra (by omega))
theorem M5 {s:Nat} {p:Uk} (h:Bd s p):Fe (Fl p)<=s:=Fo h _
theorem Ep {p:Uk}:∀ z∈p,S8 p∣z:=ZI
theorem XB {p:Uk} (tp:U9 p) (h:p.length≠0):S8 p≠0:=λh0=>Eb tp h (Int.zero_dvd.1 (h0 ▸ Ep _ (CO h)))
theorem YY {p:Uk} (h:Bd 4294967295 p):Fe (S8 p)<=4294967295:=MY h
theorem aP {p:Uk} (tp:U9 p) (h:p.length≠0):Hk p≠0:=by
 have:=XB tp h;unfold Hk; split <;> omega
theorem FV {p:Uk}:∀ z∈p,Hk p∣z:=λz hz=>by
 unfold Hk; split
 ·exact Ua.2 (Ep z hz)
 ·exact Ep z hz
theorem Qha {p:Uk} (h:Bd 4294967295 p):Fe (Hk p)<=4294967295:=by
 unfold Hk; split
 ·rw [Hx]; exact YY h
 ·exact YY h
theorem NG {s:Nat} {p:Uk} (h:Bd s p) (c:Int):Bd s (Cy p c):=Su (GM h c)
theorem OU (p:Uk) (c:Int):(Cy p c).length<=p.length:=Qc (Rt _) (by simp)
theorem QC (p:Uk) (c:Int):U9 (Cy p c):=Tl _
theorem Qib {p:Uk} (h:Pb p) (c:Int):Pb (Cy p c):=⟨QC _ _,Qc (OU _ _) h.l,NG h.b c⟩
theorem RU:Pb []:=⟨rfl,by simp,GN⟩
theorem Rr {p:Uk} (h:Pb p):Pb (Fg p):=by
 unfold Fg; split
 ·exact RU
 ·exact Qib h _
theorem Pb.bd {p:Uk} (h:Pb p):Bd 4294967295 p:=U0 h.b (by omega)
theorem Pb.ln {p:Uk} (h:Pb p):p.length<274877906944:=Z4 h.l (by omega)
theorem Pb.ln' {p:Uk} (h:Pb p):p.length<8589934592:=Z4 h.l (by omega)
theorem QZ {p q:Uk} (tp:U9 p) (h:AA p=some q):q=p/\Pb p:=by
 unfold AA at h
 split at h
 ·rename_i hc;injection h with h;refine ⟨h.symm,tp,hc.1,λz hz=>?_⟩;have:=Jt.1 hc.2 z hz;exact Zd this
 ·cases h
theorem dW {p:Uk} {g:Int} (hl:p.length<274877906944) (hp:Bd 4294967295 p) (hg:Fe g≤4294967295) (h0:g≠0) (hd:∀ z∈p,g∣z):Uh 335 [pr p,.agg (Hh g)] [pr (Cy p g)]:=by
 refine Fw func335 rfl ?_;refine Uc [.r 9 (eI (b:=(p.length:Int)) (by simp)),.i p.length,.i p.length,.r 12 (eI (b:=(p.length:Int)) (by simp))] rfl ?_;rw [E7 λk=>Hh (p.getD k 0 / g)];refine Ug (S:=Nat) 2 (λL1 k=>(13,.v (.oi k))::L1) (λk=>[.blk 36 (Hh g),.row false 36 2 (EG (λk=>Hh (p.getD k 0 / g)) [.bool false,.nils] p.length k)]) (λk=>p.length-k) (λk=>k<=p.length) 0 (Qh _) rfl rfl λk hk=>?_
 by_cases hlt:k<p.length
 ·have hg2:=Ra hlt;refine go tt [.t (by simp; omega),.x (Pe hg2),.k (Aw (U3 _) (U3 _) (Fo hp k) hg h0 (Yn (hd _ (Qa hg2)))),.i k] rfl (by simp [Uz,A7]; omega) ?_;have e:=QK (λk=>Hh (p.getD k 0 / g)) [.bool false,.nils] hlt;rw [e];exact rd (k+1) (by omega) hlt rfl
 ·obtain rfl:k=p.length:=by omega
  have e:EG (λk=>Hh (p.getD k 0 / g)) [.bool false,.nils] p.length p.length=(p.map (· / g)).map Hh:=by
   rw [QV];refine Xj λi=>?_
   by_cases hi:i<p.length
   ·simp [Xz hi,List.getD,Qe hi]
   ·simp [Qw,hi]
  rw [e];exact Ud [.f (by simp),.k (L8 (Gl (p.map (· / g))) (by simp; exact hl) (GM hp g))] rfl
theorem GL {p:Uk} (hl:p.length<8589934592) (hp:Bd 4294967295 p):Uh 336 [.one (.row [[pl p]])] [.agg (Hh (S8 p))]:=by
 refine Fw func336 rfl ?_;refine Ub [.o 3 36 2] rfl ?_;refine Ug (S:=Nat) 2 (λL1 i=>(8,.v (.oi i))::(3,.v (.one (.orow 1 2 none)))::L1) (λi=>[.blk 36 [.bool false,.nils],.row false 36 2 (if i=0 then [] else p.map Hh)]) (λi=>1-i) (λi=>i<=1) 0 (Qh _) rfl rfl λi hi=>?_
 rcases (show i=0\/i=1 by omega) with rfl | rfl
 ·refine Uc [.t rfl,.x (i:=0) (xs:=[pl p]) rfl,.s (DI p)] rfl ?_;exact rd 1 (by omega) (by omega) rfl
 ·exact Ud [.f rfl,.k (Qds (Gl p) hp)] rfl
theorem Qe1 {p:Uk} (tp:U9 p) (hl':p.length<8589934592) (hp:Bd 4294967295 p):Uh 319 [pr p] [.agg (Hh (if p.length=0 then 0 else Hk p)),pr (Fg p)]:=by
 have hl:p.length<274877906944:=by omega
 have cn:=Ht tp hl hp;by_cases h0:p.length=0
 ·have e:p=[]:=Qj h0;subst e;exact Ue func319 rfl [.k cn,.t rfl] rfl (by simp [D7,Fg]; rfl) trivial
 ·have hpf:Fg p=Cy p (Hk p):=by unfold Fg; rw [if_neg h0]
  rw [if_neg h0,hpf];have co:=dW hl hp (Qha hp) (aP tp h0) FV;by_cases hneg:Fl p<0
  ·have e:Hk p=-S8 p:=by unfold Hk; rw [if_pos hneg]
   rw [e] at co ⊢;exact Ue func319 rfl [.k cn,.f (by simpa using h0),.k (GL hl' hp),.k (Df tp hl hp),.t (by simpa [Fl] using hneg),.k (NN (U3 _) (YY hp)),.k co] rfl
  ·have e:Hk p=S8 p:=by unfold Hk; rw [if_neg hneg]
   rw [e] at co ⊢;exact Ue func319 rfl [.k cn,.f (by simpa using h0),.k (GL hl' hp),.k (Df tp hl hp),.f (by simpa [Fl] using hneg),.k co] rfl
theorem Ay {p:Uk} (hp:Pb p):Uh 311 [pr p] [pr (Fg p)] :=
 Ue func311 rfl [.k (Qe1 hp.t hp.ln' hp.bd)] rfl
theorem Mn (p:Uk):Uh 208 [pr p] [.oi ((p.length:Int)-1)]:=by
 have h:Uh 208 [pr p] [.oi (((p.map Hh).length:Int)-1)]:=Fw func208 rfl (ln 0 rfl rfl λhl=>Ud [] rfl rfl (by simp [Uz] at hl ⊢; omega));rw [Q6] at h; exact h
theorem I8 (i:Nat) (x:Int):(mono i x).length=i+1:=by simp [mono]
theorem NU {s i:Nat} {x:Int} (h:Fe x<=s):Bd s (mono i x):=λz hz=>by
 simp only [mono,Qq,Qk] at hz;rcases hz with hz | rfl
 ·rw [(List.mem_replicate.1 hz).2,M6]; exact Qh _
 ·exact h
def stq (c:Int) (i:Nat) (x:Int) (q:Uk):Uk:=ZK (Ft q c) (mono i x)
def str (b:Uk) (c:Int) (i:Nat) (x:Int) (r:Uk):Uk:=Mx (Ft r c) (Gk (trim (mono i x)) b)
theorem Qr1 {u t i:Nat} {c x:Int} {q:Uk} (hq:Bd u q) (hc:Fe c<=t) (hx:Fe x<=u):Bd (u+t+8) (stq c i x q) :=
 U0 (WR (Gf hq hc) (NU hx)) (by omega)
theorem Qnu {c x:Int} {i:Nat} {q:Uk}:(stq c i x q).length<=max q.length (i+1):=by
 have h:=XW (Ft q c) (mono i x);have h1:=Fx q c;rw [I8] at h;unfold stq; omega
theorem jQ {i:Nat} {x:Int} {b:Uk}:(Gk (trim (mono i x)) b).length<=i+b.length:=by
 have h:=S0 (trim (mono i x)) b;have h1:=Rt (mono i x);rw [I8] at h1; omega
theorem cN {u t i:Nat} {x:Int} {b:Uk} (hb:Bd t b) (hx:Fe x<=u) (hi:i<=64):Bd (u+t+7) (Gk (trim (mono i x)) b) :=
 Md (Su (NU hx)) hb (Z4 (Rt _) (by rw [I8]; omega))
theorem sX {u t i:Nat} {c x:Int} {b r:Uk} (hr:Bd u r) (hb:Bd t b) (hc:Fe c<=t) (hx:Fe x<=u) (hi:i<=64):Bd (u+t+8) (str b c i x r) :=
 U0 (De (Gf hr hc) (cN hb hx hi)) (by omega)
theorem jZ {c x:Int} {i:Nat} {b r:Uk}:(str b c i x r).length<=max r.length (i+b.length):=by
 have h:=M8 (Ft r c) (Gk (trim (mono i x)) b);have h1:=Fx r c;have h2:=jQ (i:=i) (x:=x) (b:=b);unfold str; omega
theorem uO (i:Nat) (x:Int):((List.replicate (i+1) (0:Int)).map Hh).set i (Hh x)=(mono i x).map Hh:=by
 rw [nZ,mono];congr 1;refine Xj λj=>?_
 simp only [Yj,List.getElem?_append,Jx,Je];by_cases h:j=i
 ·subst h; simp
 ·rw [if_neg (by omega)];by_cases h2:j<i
  ·simp [h2]; omega
  ·rw [if_neg (by omega),if_neg h2];cases hj:j-i with
   | zero=>omega
   | succ m=>simp
theorem eO (i:Nat) {x:Int} {y:Up} (h:y.map UE=Hh x):(((List.replicate (i+1) [LV.bool false,LV.nils]).set i y).map λc=>c.map UE)=(mono i x).map Hh:=by
 rw [Vu,MM,h]; exact uO i x
theorem XA {b:Uk} {c:Int} {i:Nat} {q r:Uk} {x:Int} (hx:x=if r.length=b.length+i then Fl r else 0):gW b c (i+1) (q,r)=gW b c i (stq c i x q,str b c i x r):=by
 subst hx; rfl
theorem Qd6 {a b:Uk} (ha:Pb a) (hb:Pb b) (h0:b.length≠0):Uh 333 [pr a,pr b] [pr (gW b (Fl b) (a.length+1-b.length) ([],a)).1,pr (Py a b),.oi ((a.length+1-b.length:Nat):Int),.oi 0]:=by
 have hal:=ha.l;have hbl:=hb.l;have hlb:Fe (Fl b)<=16777216:=M5 hb.b;obtain ⟨c,hc⟩:=nmE (Fl b);have cl:=Df hb.t hb.ln hb.bd;rw [show b.getD (b.length-1) 0=c from hc.symm] at cl;obtain ⟨k,hk⟩:=nmE (a.length+1-b.length);unfold Py;rw [<-hc,<-hk];rw [<-hc] at hlb;refine Fw func333 rfl ?_;refine Uc [.z 4,.k (Ht ha.t ha.ln ha.bd),.k (Ht hb.t hb.ln hb.bd),.f (by simpa using h0),.k cl,.k (Mn a),.k (Mn b),.r 27 (eI (b:=(k:Int)) (by omega))] rfl ?_;refine Ug (S:=Nat×Uk×Uk) 1 (λL1 s=>(4,.v (pr s.2.1))::(5,.v (pr s.2.2))::(9,.v (.oi ((s.1:Int)-1)))::L1) (λ_=>[.blk 36 (Hh c)]) (λs=>s.1) (λs=>s.1<=k/\U9 s.2.2/\s.2.1.length<=66/\s.2.2.length<=a.length/\Bd (16777216+(k-s.1)*16777224) s.2.1/\Bd (16777216+(k-s.1)*16777224) s.2.2/\gW b c s.1 s.2=gW b c k ([],a)) (k,[],a) ⟨Ql _,ha.t,by simp,Ql _,GN,by simpa using ha.b,rfl⟩ rfl rfl λ⟨i,q,r⟩ ⟨j1,j2,j3,j4,j5,j6,j7⟩=>?_
 dsimp only at j1 j2 j3 j4 j5 j6 j7 ⊢;rw [<-j7];cases i with
 | zero=>exact Ud [.f (by simp)] rfl
 |
  succ i =>
  obtain ⟨x,hx⟩:=nmE (if r.length=b.length+i then Fl r else 0);obtain ⟨u,hu⟩:=nmE (16777216+(k-(i+1))*16777224);rw [<-hu] at j5 j6;have hub:u<=1107296256:=by
   have:(k-(i+1))*16777224<=64*16777224:=Qz _ (by omega);omega
  have hxs:Fe x<=u:=by
   rw [hx]; split
   ·exact M5 j6
   ·rw [M6]; exact Qh _
  have cs:=Mz (p:=q) (c:=c) (by omega) (U0 j5 (by omega)) (by omega);have cs2:=Mz (p:=r) (c:=c) (by omega) (U0 j6 (by omega)) (by omega);have l1:=Fx q c;have l2:=Fx r c;have ca:=zM (p:=Ft q c) (q:=mono i x) (by omega) (by rw [I8]; omega) (U0 (Gf j5 hlb) (by omega)) (U0 (NU hxs) (by omega));have cm:=zN (p0:=mono i x) hb.t (by rw [I8]; omega) (by omega) (NU hxs) hb.b (by omega);have l3:=jQ (i:=i) (x:=x) (b:=b);have cb:=GA (p:=Ft r c) (q:=Gk (trim (mono i x)) b) (by omega) (by omega) (U0 (Gf j6 hlb) (by omega)) (U0 (cN hb.b hxs (by omega)) (by omega));have hst:=XA (b:=b) (c:=c) (q:=q) hx;have hI:i<=k/\U9 (str b c i x r)/\(stq c i x q).length<=66/\(str b c i x r).length<=a.length/\Bd (16777216+(k-i)*16777224) (stq c i x q)/\Bd (16777216+(k-i)*16777224) (str b c i x r):=by
   have l5:=Qnu (c:=c) (x:=x) (i:=i) (q:=q);have l6:=jZ (c:=c) (x:=x) (i:=i) (b:=b) (r:=r);have hku:u+16777216+8=16777216+(k-i)*16777224:=by
    rw [hu,show k-i=(k-(i+1))+1 from by omega,X2]; omega
   refine ⟨by omega,Fv _ _,by omega,by omega,?_,?_⟩
   ·rw [<-hku]; exact Qr1 j5 hlb hxs
   ·rw [<-hku]; exact sX j6 hb.b hlb hxs (by omega)
  rw [hst];by_cases h:r.length=b.length+i
  ·refine Uc [.t (by simp <;> omega),.k (Mn r),.k (Mn b),.t (by simp; omega),.k (Df j2 (by omega) (U0 j6 (by omega))),.r 44 (eI (b:=((i+1:Nat):Int)) (by omega)),.i (i+1),.i (i+1),.r 47 (eI (b:=(i:Int)) (by omega)),.i i] rfl ?_;refine nl 2 rfl rfl rfl ?_;rw [eO i (x:=x) (by rw [hx,if_pos h]; rfl)];refine Uc [.k cs,.k ca,.k cs2,.k cm,.k cb,.r 33 (eI (b:=(i:Int)-1) (by omega))] rfl ?_;exact rd (i,stq c i x q,str b c i x r) (by dsimp only; omega) ⟨hI.1,hI.2.1,hI.2.2.1,hI.2.2.2.1,hI.2.2.2.2.1,hI.2.2.2.2.2,rfl⟩ rfl
  ·refine Uc [.t (by simp <;> omega),.k (Mn r),.k (Mn b),.f (by simp; omega),.r 44 (eI (b:=((i+1:Nat):Int)) (by omega)),.i (i+1),.i (i+1),.r 47 (eI (b:=(i:Int)) (by omega)),.i i] rfl ?_;refine nl 2 rfl rfl rfl ?_;rw [eO i (x:=x) (by rw [hx,if_neg h,D7]; rfl)];refine Uc [.k cs,.k ca,.k cs2,.k cm,.k cb,.r 33 (eI (b:=(i:Int)-1) (by omega))] rfl ?_;exact rd (i,stq c i x q,str b c i x r) (by dsimp only; omega) ⟨hI.1,hI.2.1,hI.2.2.1,hI.2.2.2.1,hI.2.2.2.2.1,hI.2.2.2.2.2,rfl⟩ rfl
theorem Qik {b:Uk} {c:Int} (hb:Bd 16777216 b) (hc:Fe c<=16777216) {n:Nat}:∀ (i u:Nat) (q r:Uk),i<=64->i+b.length<=n+1->U9 r->r.length<=n->Bd u r->U9 (gW b c i (q,r)).2/\(gW b c i (q,r)).2.length<=n/\Bd (u+i*16777224) (gW b c i (q,r)).2
 | 0,u,q,r,_,_,h1,h2,h3=>⟨h1,h2,by simpa [gW] using h3⟩
 |
  i+1,u,q,r,hi,hn,h1,h2,h3=>by
  rw [XA rfl];have hx:Fe (if r.length=b.length+i then Fl r else 0)<=u:=by
   split
   ·exact M5 h3
   ·rw [M6]; exact Qh _
  have l6:=jZ (c:=c) (x:=if r.length=b.length+i then Fl r else 0) (i:=i) (b:=b) (r:=r);have:=Qik hb hc (n:=n) i (u+16777216+8) (stq c i (if r.length=b.length+i then Fl r else 0) q) (str b c i (if r.length=b.length+i then Fl r else 0) r) (by omega) (by omega) (Fv _ _) (by omega) (sX h3 hb hc hx (by omega));exact ⟨this.1,this.2.1,U0 this.2.2 (by omega)⟩
theorem aC {a b:Uk} (ha:Pb a) (hb:Pb b) (h0:b.length≠0):U9 (Py a b)/\(Py a b).length<=a.length/\Bd 1107296256 (Py a b):=by
 have hal:=ha.l;by_cases h:b.length<=a.length+1
 ·obtain ⟨h1,h2,h3⟩:=Qik hb.b (M5 hb.b) (n:=a.length) (a.length+1-b.length) 16777216 [] a (by omega) (by omega) ha.t (Ql _) ha.b;refine ⟨h1,h2,U0 h3 ?_⟩;have:(a.length+1-b.length)*16777224<=64*16777224:=Qz _ (by omega);omega
 ·have e:Py a b=a:=by unfold Py; rw [show a.length+1-b.length=0 from by omega]; rfl
  rw [e];exact ⟨ha.t,Ql _,U0 ha.b (by omega)⟩
theorem FG {a b r:Uk} {s n:Nat} (h1:U9 r) (h2:r.length<=n) (h3:Bd s r):U9 (Bm a b r)/\(Bm a b r).length<=n/\Bd s (Bm a b r):=by
 unfold Bm; split
 ·exact ⟨Fv _ _,Qc (XU r) h2,PP h3⟩
 ·exact ⟨h1,h2,h3⟩
theorem LQ {r:Uk} {s n:Nat} (h2:r.length<=n) (h3:Bd s r):U9 (VT r)/\(VT r).length<=n/\Bd s (VT r):=by
 unfold VT; split
 ·exact ⟨rfl,by simp,GN⟩
 ·exact ⟨QC _ _,Qc (OU _ _) h2,NG h3 _⟩
theorem FW {a b:Uk} (ha:Pb a) (hb:Pb b) (h0:b.length≠0):U9 (Rv a b)/\(Rv a b).length<=a.length/\Bd 1107296256 (Rv a b):=by
 obtain ⟨h1,h2,h3⟩:=aC ha hb h0;obtain ⟨h4,h5,h6⟩:=FG (a:=a) (b:=b) h1 h2 h3;exact LQ h5 h6
theorem Qd9 {a b:Uk} (ha:Pb a) (hb:Pb b) (h0:b.length≠0):Uh 312 [pr a,pr b] [pr (Rv a b),.oi 0]:=by
 obtain ⟨h1,h2,h3⟩:=aC ha hb h0;obtain ⟨h4,h5,h6⟩:=FG (a:=a) (b:=b) h1 h2 h3;have hal:=ha.l;have cp:=Qd6 ha hb h0;have cl:=Df hb.t hb.ln hb.bd;have cn:=Qd4 (p:=Py a b) (by omega) (U0 h3 (by omega));unfold Rv;obtain ⟨r,hr⟩:=nmE (Bm a b (Py a b));have cc:=GL (p:=r) (by rw [hr]; omega) (by rw [hr]; exact U0 h6 (by omega));rw [<-hr] at h4 h5 h6 ⊢;obtain ⟨k,hk⟩:=nmE (a.length+1-b.length);rw [<-hk] at cp;have em:((k:Int).tmod 2)=((k % 2:Nat):Int):=by rw [Y0 (by omega)]; omega
 have key:VT r=if r.length=0 then [] else Cy r (S8 r):=rfl
 by_cases hz:r.length=0
 ·rw [key,if_pos hz];by_cases hodd:k % 2=1
  ·by_cases hneg:Fl b<0
   ·have e:r=Mi (Py a b):=by rw [hr]; unfold Bm; rw [if_pos ⟨by rw [<-hk]; exact hodd,hneg⟩]
    rw [e] at hz;exact Ue func312 rfl [.k cp,.f (by simp),.r 22 (eI em),.t (by simp; omega),.k cl,.t (by simpa [Fl] using hneg),.k cn,.t (by simpa using hz)] rfl rfl (by simp [Uz])
   ·have e:r=Py a b:=by rw [hr]; unfold Bm; rw [if_neg (λh=>hneg h.2)]
    rw [e] at hz;exact Ue func312 rfl [.k cp,.f (by simp),.r 22 (eI em),.t (by simp; omega),.k cl,.f (by simpa [Fl] using hneg),.t (by simpa using hz)] rfl rfl (by simp [Uz])
  ·have e:r=Py a b:=by rw [hr]; unfold Bm; rw [if_neg (λh=>hodd (by rw [hk]; exact h.1))]
   rw [e] at hz;exact Ue func312 rfl [.k cp,.f (by simp),.r 22 (eI em),.f (by simp; omega),.f rfl,.t (by simpa using hz)] rfl rfl (by simp [Uz])
 ·rw [key,if_neg hz];have cd:=dW (p:=r) (g:=S8 r) (by omega) (U0 h6 (by omega)) (YY (U0 h6 (by omega))) (XB h4 hz) Ep;by_cases hodd:k % 2=1
  ·by_cases hneg:Fl b<0
   ·have e:r=Mi (Py a b):=by rw [hr]; unfold Bm; rw [if_pos ⟨by rw [<-hk]; exact hodd,hneg⟩]
    rw [e] at hz cc cd ⊢;exact Ue func312 rfl [.k cp,.f (by simp),.r 22 (eI em),.t (by simp; omega),.k cl,.t (by simpa [Fl] using hneg),.k cn,.f (by simpa using hz),.k cc,.k cd] rfl rfl (by simp [Uz])
   ·have e:r=Py a b:=by rw [hr]; unfold Bm; rw [if_neg (λh=>hneg h.2)]
    rw [e] at hz cc cd ⊢;exact Ue func312 rfl [.k cp,.f (by simp),.r 22 (eI em),.t (by simp; omega),.k cl,.f (by simpa [Fl] using hneg),.f (by simpa using hz),.k cc,.k cd] rfl rfl (by simp [Uz])
  ·have e:r=Py a b:=by rw [hr]; unfold Bm; rw [if_neg (λh=>hodd (by rw [hk]; exact h.1))]
   rw [e] at hz cc cd ⊢;exact Ue func312 rfl [.k cp,.f (by simp),.r 22 (eI em),.f (by simp; omega),.f rfl,.f (by simpa using hz),.k cc,.k cd] rfl rfl (by simp [Uz])
theorem Qns {s:Nat} {x:Int} (h:Fe x<=s) (g:Int):Fe (x / g)<=s:=GM (p:=[x]) (λz hz=>by rw [Qk.1 hz]; exact h) g _ (by simp)
def sta (b:Uk) (i:Nat) (x:Int) (a:Uk):Uk:=Mx a (Gk (trim (mono i x)) b)
theorem Qr0 {u t i:Nat} {x:Int} {b a:Uk} (ha:Bd u a) (hb:Bd t b) (hx:Fe x<=u) (hi:i<=64):Bd (u+t+8) (sta b i x a) :=
 U0 (De ha (cN hb hx hi)) (by omega)
theorem eH {x:Int} {i:Nat} {b a:Uk}:(sta b i x a).length<=max a.length (i+b.length):=by
 have h:=M8 a (Gk (trim (mono i x)) b);have h2:=jQ (i:=i) (x:=x) (b:=b);unfold sta; omega
theorem Qlg (s n:Nat):Bd s (List.replicate n 0):=λz hz=>by rw [(List.mem_replicate.1 hz).2,M6]; exact Qh _
theorem Qrz {s i:Nat} {l:Uk} {x:Int} (h:Bd s l) (hx:Fe x<=s):Bd s (l.set i x):=λz hz=>by
 rcases J9 hz with hz | rfl
 ·exact h z hz
 ·exact hx
theorem Qd2 {a b q:Uk} (ha:Pb a) (hb:Pb b) (h:XE a b=some q):Uh 349 [pr a,pr b] [pr q,.oi 0]:=by
 unfold XE at h
 split at h
 ·cases h
 rename_i h0;obtain ⟨k,hk⟩:=nmE (a.length+1-b.length);rw [<-hk] at h;obtain ⟨q',hq,hq2⟩:=Qd.1 h;obtain ⟨rfl,hpb⟩:=QZ (Tl _) hq2;have hal:=ha.l;have hbl:=hb.l;refine Fw func349 rfl ?_;refine Uc [.k (Ht ha.t ha.ln ha.bd),.k (Ht hb.t hb.ln hb.bd),.f (by simpa using h0),.r 24 (eI (b:=(k:Int)) (by simp; omega)),.i k,.i k,.r 27 (eI (b:=(k:Int)) (by simp))] rfl ?_;refine nl 0 rfl rfl rfl ?_;rw [MM];refine Ug (S:=Nat×Uk×Uk) 1 (λL1 s=>(0,.v (pr s.2.1))::(7,.v (.oi ((s.1:Int)-1)))::L1) (λs=>[.row false 36 2 (s.2.2.map Hh)]) (λs=>s.1) (λs=>s.1<=k/\U9 s.2.1/\s.2.1.length<=a.length/\Bd (16777216+(k-s.1)*16777224) s.2.1/\s.2.2.length=k/\Bd 1107296256 s.2.2/\jA b s.1 s.2.1 s.2.2=some q') (k,a,List.replicate k 0) ⟨Ql _,ha.t,Ql _,by simpa using ha.b,by simp,Qlg _ _,hq⟩ rfl rfl λ⟨i,A,Q⟩ ⟨j1,j2,j3,j4,j5,j7,j6⟩=>?_
 dsimp only at j1 j2 j3 j4 j5 j6 j7 ⊢;cases i with
 |
  zero =>
  simp only [jA] at j6
  split at j6
  ·rename_i hA;injection j6 with j6; subst j6;exact Ud [.f (by simp),.f (by simpa using hA),.k (L8 (Gl Q) (by omega) (U0 j7 (by omega)))] rfl
  ·cases j6
 |
  succ i =>
  obtain ⟨u,hu⟩:=nmE (16777216+(k-(i+1))*16777224);rw [<-hu] at j4;have hub:u<=1107296256:=by
   have:(k-(i+1))*16777224<=64*16777224:=Qz _ (by omega);omega
  have hku:u+16777216+8=16777216+(k-i)*16777224:=by
   rw [hu,show k-i=(k-(i+1))+1 from by omega,X2]; omega
  simp only [jA] at j6;by_cases hlt:A.length<b.length+i
  ·rw [if_pos hlt] at j6;refine Uc [.t (by simp <;> omega),.k (Mn A),.k (Mn b),.t (by simp; omega),.r 32 (eI (b:=(i:Int)-1) (by omega))] rfl ?_;exact rd (i,A,Q) (by dsimp only; omega) ⟨by dsimp only; omega,j2,j3,U0 j4 (by dsimp only; omega),j5,j7,j6⟩ rfl
  ·rw [if_neg hlt] at j6
   split at j6
   ·rename_i hdv;obtain ⟨x,hx⟩:=nmE (Fl A / Fl b);rw [<-hx] at j6;have hxs:Fe x<=u:=by rw [hx]; exact Qns (M5 j4) _
    have ce:=Aw (U3 (Fl A)) (U3 (Fl b)) (Qc (M5 j4) (by omega)) (Qc (M5 hb.b) (by omega)) (Eb hb.t h0) hdv;rw [<-hx] at ce;have cm:Uh 266 [.one (.row ((mono i x).map Hh)),pr b] [pr (Gk (trim (mono i x)) b)]:=zN (p0:=mono i x) hb.t (by rw [I8]; omega) (by omega) (NU hxs) hb.b (by omega);have l3:=jQ (i:=i) (x:=x) (b:=b);have l4:=eH (i:=i) (x:=x) (b:=b) (a:=A);have cb:=GA (p:=A) (q:=Gk (trim (mono i x)) b) (by omega) (by omega) (U0 j4 (by omega)) (U0 (cN hb.b hxs (by omega)) (by omega));refine Uc [.t (by simp <;> omega),.k (Mn A),.k (Mn b),.f (by simp; omega),.k (Df j2 (by omega) (U0 j4 (by omega))),.k (Df hb.t hb.ln hb.bd),.k ce,.f rfl,.r 51 (eI (b:=(i:Int)) (by omega)),.i i,.r 55 (eI (b:=((i+1:Nat):Int)) (by omega)),.i (i+1),.i (i+1),.r 58 (eI (b:=(i:Int)) (by omega))] rfl ?_;refine nl 2 rfl rfl rfl ?_;rw [MM,nZ];rw [<-uO i x] at cm;refine Uc [.i i,.k cm,.k cb,.r 32 (eI (b:=(i:Int)-1) (by omega))] rfl ?_;exact rd (i,sta b i x A,Q.set i x) (by dsimp only; omega) ⟨by dsimp only; omega,Fv _ _,by dsimp only; omega,by dsimp only; rw [<-hku]; exact Qr0 j4 hb.b hxs (by omega),by simpa using j5,Qrz j7 (Nat.le_trans hxs hub),j6⟩ rfl
   ·cases j6
theorem mO {a b q:Uk} (h:XE a b=some q):Pb q:=by
 unfold XE at h
 split at h
 ·cases h
 ·obtain ⟨q',_,hq2⟩:=Qd.1 h;obtain ⟨rfl,hpb⟩:=QZ (Tl _) hq2;exact hpb
theorem Qe6 {a b q:Uk} (ha:Pb a) (hb:Pb b) (h:XE a b=some q):Uh 338 [pr a,pr b] [pr q] :=
 Ue func338 rfl [.k (Qd2 ha hb h)] rfl
theorem yI:∀ {k:Nat} {a b g:Uk},Pb a->Pb b->TJ k a b=some g->Pb g
 | 0,_,_,_,_,_,h=>by cases h
 |
  k+1,a,b,g,ha,hb,h=>by
  simp only [TJ] at h
  split at h
  ·injection h with h; subst h; exact ha
  ·rename_i h0;obtain ⟨r,hr,h⟩:=Qd.1 h;obtain ⟨rfl,hpb⟩:=QZ (FW ha hb h0).1 hr;exact yI hb hpb h
theorem dT {a b g:Uk} (ha:Pb a) (hb:Pb b) (h:XO a b=some g):Uh 272 [pr a,pr b] [pr g]:=by
 unfold XO at h;obtain ⟨g',h2,rfl⟩:=Yt.1 h;have hg:=yI (Rr ha) (Rr hb) h2;refine Fw func272 rfl ?_;refine Ub [.k (Ay ha),.k (Ay hb)] rfl ?_;refine Ug (S:=Nat×Uk×Uk) 0 (λL1 s=>(0,.v (pr s.2.1))::(1,.v (pr s.2.2))::L1) (λ_=>[]) (λs=>s.1) (λs=>Pb s.2.1/\Pb s.2.2/\TJ s.1 s.2.1 s.2.2=some g') (66,Fg a,Fg b) ⟨Rr ha,Rr hb,h2⟩ rfl rfl λ⟨k,A,C⟩ ⟨j1,j2,j3⟩=>?_
 dsimp only at j1 j2 j3 ⊢;cases k with
 | zero=>cases j3
 |
  succ k =>
  simp only [TJ] at j3
  split at j3
  ·rename_i h0;injection j3 with j3; subst j3;exact Ud [.f (by simpa using h0),.k (Ay j1)] rfl
  ·rename_i h0;obtain ⟨r,hr,j3⟩:=Qd.1 j3;obtain ⟨rfl,hpb⟩:=QZ (FW j1 j2 h0).1 hr;refine Ub [.t (by simp; omega),.k (Qd9 j1 j2 h0)] rfl ?_;exact rd (k,C,Rv A C) (by dsimp only; omega) ⟨j2,hpb,j3⟩ rfl
theorem RG {a b g:Uk} (ha:Pb a) (hb:Pb b) (h:XO a b=some g):Pb g:=by
 unfold XO at h;obtain ⟨g',h2,rfl⟩:=Yt.1 h;exact Rr (yI (Rr ha) (Rr hb) h2)
theorem Qd3 {a b g:Uk} (ha:Pb a) (hb:Pb b) (h:jO a b=some g):Uh 227 [.one (.row (S6 [a,b]))] [pr g]:=by
 unfold jO at h;obtain ⟨g1,h1,h2⟩:=Qd.1 h;have hg1:=RG RU ha h1;refine Fw func227 rfl ?_;refine Ub [.z 3] rfl ?_;refine Ug (S:=Nat) 0 (λL1 i=>(8,.v (.oi i))::(3,.v (pr (if i=0 then [] else if i=1 then g1 else g)))::L1) (λ_=>[]) (λi=>2-i) (λi=>i<=2) 0 (Qh _) rfl rfl λi hi=>?_
 rcases (show i=0\/i=1\/i=2 by omega) with rfl | rfl | rfl
 ·refine Ub [.t rfl,.x (Rk (i:=0) (p:=a) rfl),.k (dT RU ha h1)] rfl ?_ (by simp [Uz]);exact rd 1 (by omega) (by omega) rfl
 ·refine Ub [.t rfl,.x (Rk (i:=1) (p:=b) rfl),.k (dT hg1 hb h2)] rfl ?_ (by simp [Uz]);exact rd 2 (by omega) (by omega) rfl
 ·exact Ud [.f rfl] rfl
theorem Qh8 {a b g:Uk} (ha:Pb a) (hb:Pb b) (h:jO a b=some g):Pb g:=by
 unfold jO at h;obtain ⟨g1,h1,h2⟩:=Qd.1 h;exact RG (RG RU ha h1) hb h2
theorem DN {p d:Uk} (h:AA (Gv p)=some d):d=Gv p/\Pb (Gv p):=QZ (Fv _ _) h
theorem NC {a g:Uk} (ha:Pb a) (h:Pf a=some g):Uh 318 [pr a] [pr g]:=by
 have hp:=Rr ha;unfold Pf at h
 split at h
 ·rename_i h0;injection h with h; subst h;exact Ue func318 rfl [.k (Ay ha),.k (Mn _),.t (by simp; omega)] rfl
 ·rename_i h0;obtain ⟨d,h1,h⟩:=Qd.1 h;obtain ⟨rfl,hd⟩:=DN h1;obtain ⟨g1,h1,h⟩:=Qd.1 h;exact Ue func318 rfl [.k (Ay ha),.k (Mn _),.f (by simp; omega),.k (Iv hp.ln hp.bd),.k (dT hp hd h1),.k (Qe6 hp (RG hp hd h1) h)] rfl
theorem RF {a g:Uk} (ha:Pb a) (h:Pf a=some g):Pb g:=by
 unfold Pf at h
 split at h
 ·injection h with h; subst h; exact Rr ha
 ·obtain ⟨d,h1,h⟩:=Qd.1 h;obtain ⟨g1,h1,h⟩:=Qd.1 h;exact mO h
theorem Qh9 {p:Uk} (h:Pb p):Pb (Mi p):=⟨Fv _ _,Qc (XU p) h.l,PP h.b⟩
theorem sO:∀ {k:Nat} {a b:Uk} {l:Ul},Pb a->Pb b->tU k a b=some l->l.length≤k/\∀ p∈l,Pb p
 | 0,_,_,_,_,_,h=>by cases h
 |
  k+1,a,b,l,ha,hb,h=>by
  simp only [tU] at h
  split at h
  ·injection h with h; subst h; exact ⟨by simp,λp hp=>by cases hp⟩
  ·rename_i h0;obtain ⟨r,hr,h⟩:=Qd.1 h;obtain ⟨rfl,hpb⟩:=QZ (FW ha hb h0).1 hr;obtain ⟨l',h1,h⟩:=Qd.1 h;injection h with h; subst h;obtain ⟨i1,i2⟩:=sO hb (Qh9 hpb) h1;refine ⟨by simp; exact i1,λp hp=>?_⟩;rcases Qm.1 hp with rfl | hp
   ·exact hb
   ·exact i2 p hp
theorem chain_ok {p:Uk} {l:Ul} (hp:Pb p) (h:Lt p=some l):l.length≤67/\∀ q∈l,Pb q:=by
 unfold Lt at h;obtain ⟨a,h1,h⟩:=Qd.1 h;have ha:=RF hp h1
 split at h
 ·cases h
 ·obtain ⟨d,h2,h⟩:=Qd.1 h;obtain ⟨rfl,hd⟩:=DN h2;obtain ⟨l',h3,h⟩:=Qd.1 h;injection h with h; subst h;obtain ⟨i1,i2⟩:=sO ha (Rr hd) h3;refine ⟨by simp; omega,λp hp=>?_⟩;rcases Qm.1 hp with rfl | hp
  ·exact ha
  ·exact i2 p hp
theorem DO (l:Ul) (p:Uk):S6 l++[[pl p]]=S6 (l++[p]):=by simp [S6]
theorem Er (l:Ul):(S6 l).length=l.length:=by simp [S6]
theorem Qec {p:Uk} {l:Ul} (hp:Pb p) (h:Lt p=some l):Uh 281 [pr p] [.one (.sh [.row (S6 l)]),.oi 0]:=by
 unfold Lt at h;obtain ⟨a,h1,h⟩:=Qd.1 h;have ha:=RF hp h1
 split at h
 ·cases h
 rename_i h0;obtain ⟨d,h2,h⟩:=Qd.1 h;obtain ⟨rfl,hd⟩:=DN h2;obtain ⟨l',h3,h⟩:=Qd.1 h;injection h with h; subst h;refine Fw func281 rfl ?_;refine Ub [.k (NC hp h1),.f (by simpa using h0),.lo,.k (Iv ha.ln ha.bd),.k (Qe1 hd.t hd.ln' hd.bd)] rfl ?_ (by simp [Uz]);obtain ⟨z,hz⟩:=nmE (if (Gv a).length=0 then 0 else Hk (Gv a));rw [<-hz];refine sb [(4,.v (pr a)),(7,.v (pr (Fg (Gv a)))),(5,.v (.one (.ow 1 0)))] [.row false 33 1 [[pl a]],.blk 369 [.orow 0 1 none],.blk 36 (Hh z)] rfl rfl ?_;have hll:=(sO ha (Rr hd) h3).1;refine Ug (S:=Nat×Ul×Uk×Uk) 3 (λL1 s=>(4,.v (pr s.2.2.1))::(7,.v (pr s.2.2.2))::L1) (λs=>[.row false 33 1 (S6 s.2.1),.blk 369 [.orow 0 1 none],.blk 36 (Hh z)]) (λs=>s.1) (λs=>Pb s.2.2.1/\Pb s.2.2.2/\∃ m,tU s.1 s.2.2.1 s.2.2.2=some m/\s.2.1++m=a::l') (66,[a],a,Fg (Gv a)) ⟨ha,Rr hd,l',h3,rfl⟩ rfl rfl λ⟨k,out,A,C⟩ ⟨j1,j2,m,j3,j4⟩=>?_
 dsimp only at j1 j2 j3 j4 ⊢;have hol:out.length<=67:=by have:=congrArg List.length j4; simp at this; omega
 cases k with
 | zero=>cases j3
 |
  succ k =>
  simp only [tU] at j3
  split at j3
  ·rename_i h0;injection j3 with j3; subst j3;rw [Zw] at j4;rw [<-j4];exact Ud [.f (by simpa using h0)] rfl
  ·rename_i h0;obtain ⟨r,hr,j3⟩:=Qd.1 j3;obtain ⟨rfl,hpb⟩:=QZ (FW j1 j2 h0).1 hr;obtain ⟨m',j6,j5⟩:=Qd.1 j3;injection j5 with j5; subst j5;refine go tt [.t (by simp; omega),.s (sz:=1) (λc hc=>by rw [Qk.1 hc]; rfl),.k (Qd9 j1 j2 h0),.k (Qd4 hpb.ln hpb.bd)] rfl (by simp [Uz,Er]; omega) ?_;exact rd (k,out++[C],C,Mi (Rv A C)) (by dsimp only; omega) ⟨j2,Qh9 hpb,m',j6,by rw [<-j4]; simp⟩ (by rw [DO]; rfl)
structure Tb (t:Tm):Prop where
 p:Pb t.p
 lo:Qb t.lo
 hi:Qb t.hi
theorem dA (x y:Int):-1<=B7 x y/\B7 x y<=1:=by unfold B7; split <;> (try split) <;> omega
theorem QX (a b:Rat):-1<=G6 a b/\G6 a b<=1:=dA _ _
theorem Om (p:Uk) (q:Rat):-1<=H7 p q/\H7 p q<=1:=dA _ _
theorem mG (p:Uk) (q:Rat):-1<=low p q/\low p q<=1:=by unfold low; split <;> exact Om _ _
theorem Qb.s31 {q:Rat} (h:Qb q):Qs 2147483647 q:=h.mono (by decide)
theorem Qb.s32 {q:Rat} (h:Qb q):Qs 4294967295 q:=h.mono (by decide)
theorem SI {p:Uk} {q:Rat} (hp:Pb p) (hq:Qb q):Uh 270 [pr p,.agg (rl q)] [.oi (H7 p q)]:=by
 have hm:p.length*(16777216+1)<=64*16777217:=Qz _ hp.l;exact cI hp.t hp.ln hp.b hq (by omega)
theorem Qwo {p:Uk} {q:Rat} (hp:Pb p) (hq:Qb q):Uh 270 [pr (Gv p),.agg (rl q)] [.oi (H7 (Gv p) q)]:=by
 have hl:=Qc (M7 p) (show p.length-1<=64 by have:=hp.l; omega);have hm:(Gv p).length*(16777216+1)<=64*16777217:=Qz _ hl;exact cI (Fv _ _) (Z4 hl (by omega)) (zG (t:=6) hp.b hp.l) hq (by omega)
theorem Dx {t:Tm} (ht:Tb t):Uh 225 [.agg (ta t)] [.one (.bool t.point)] :=
 Ue func225 rfl [.k (B5 ht.lo.s31 ht.hi.s31)] rfl
theorem PL {t:Tm} (ht:Tb t):Uh 224 [.agg (ta t)] [.agg (ta t)] :=
 Ue func224 rfl [.k (Ht ht.p.t ht.p.ln ht.p.bd),.k (Nl ht.lo.s32),.k (Nl ht.hi.s32)] rfl
theorem Qfc {t:Tm} (ht:Tb t):Uh 163 [.agg (ta t)] [.agg (ta t)]:=Ue func163 rfl [.k (PL ht)] rfl
theorem Qev {p:Uk} {q:Rat} (hp:Pb p) (hq:Qb q):Uh 271 [pr p,.agg (rl q)] [.oi (low p q)]:=by
 unfold low;by_cases h:H7 p q=0
 ·rw [if_neg (by simpa using h)];exact Ue func271 rfl [.k (SI hp hq),.f (by simpa using h),.k (Iv hp.ln hp.bd),.k (Qwo hp hq)] rfl
 ·rw [if_pos h];exact Ue func271 rfl [.k (SI hp hq),.t (by simpa using h)] rfl
theorem Qet {p:Uk} {lo hi:Rat} (hp:Pb p) (hl:Qb lo) (hh:Qb hi):Uh 228 [pr p,.agg (rl lo),.agg (rl hi)] [.one (.bool (UT p lo hi))]:=by
 by_cases h:H7 p hi=0
 ·exact Ue func228 rfl [.k (SI hp hh),.t (by simpa using h)] rfl (by simp [UT,h]) trivial
 ·exact Ue func228 rfl [.k (SI hp hh),.f (by simpa using h),.k (Qev hp hl)] rfl (by simp [UT,h]) trivial
theorem C6 {t:Tm} {q:Rat} (ht:Tb t) (hq:Qb q):Uh 226 [.agg (ta t),.agg (rl q)] [.oi (Fj t q)]:=by
 have cp:=Dx ht;unfold Fj;by_cases h1:t.point=true
 ·rw [if_pos h1];exact Ue func226 rfl [.k cp,.t h1,.k (B5 ht.lo.s31 hq.s31)] rfl
 rw [if_neg h1];have h1:t.point=false:=by simpa using h1
 have c1:=B5 hq.s31 ht.lo.s31;have c2:=B5 hq.s31 ht.hi.s31;by_cases h2:G6 q t.lo<=0
 ·rw [if_pos h2];exact Ue func226 rfl [.k cp,.f h1,.k c1,.t (by simpa using h2)] rfl
 rw [if_neg h2];by_cases h3:0<G6 q t.hi
 ·rw [if_pos h3];exact Ue func226 rfl [.k cp,.f h1,.k c1,.f (by simpa using h2),.k c2,.t (by simpa using h3)] rfl
 rw [if_neg h3];by_cases h4:H7 t.p q=0
 ·rw [if_pos h4];exact Ue func226 rfl [.k cp,.f h1,.k c1,.f (by simpa using h2),.k c2,.f (by simpa using h3),.k (SI ht.p hq),.t (by simpa using h4)] rfl
 rw [if_neg h4];by_cases h5:H7 t.p q=low t.p t.lo
 ·rw [if_pos h5];exact Ue func226 rfl [.k cp,.f h1,.k c1,.f (by simpa using h2),.k c2,.f (by simpa using h3),.k (SI ht.p hq),.f (by simpa using h4),.k (Qev ht.p ht.lo),.t (by simpa using h5)] rfl
 ·rw [if_neg h5];exact Ue func226 rfl [.k cp,.f h1,.k c1,.f (by simpa using h2),.k c2,.f (by simpa using h3),.k (SI ht.p hq),.f (by simpa using h4),.k (Qev ht.p ht.lo),.f (by simpa using h5)] rfl
theorem Qm0 (t:Tm) (q:Rat):-1<=Fj t q/\Fj t q<=1:=by
 unfold Fj;have:=QX t.lo q
 repeat' split
 all_goals omega
theorem Qm7 (q:Rat):0<(q.den:Int):=by have:=q.den_pos; omega
theorem Qqi {a b:Rat} (ha:Qb a) (hb:Qb b):Uh 314 [.agg (rl a),.agg (rl b)] [.agg (rl (mid a b))]:=by
 have h1:Fe (a.num*(b.den:Int))<=33554432:=Qc (Ga _ _) (by have:=ha.1; have:=hb.2; omega);have h2:Fe (b.num*(a.den:Int))<=33554432:=Qc (Ga _ _) (by have:=hb.1; have:=ha.2; omega);have h3:Fe ((a.den:Int)*(b.den:Int))<=33554432:=Qc (Ga _ _) (by have:=ha.2; have:=hb.2; omega);have h4:Fe (2:Int)<=2:=by decide
 have h5:Fe (a.num*(b.den:Int)+b.num*(a.den:Int))<=33554433:=Qc (YJ _ _) (by omega);have h6:Fe ((a.den:Int)*(b.den:Int)*2)<=33554434:=Qc (Ga _ _) (by omega);have h0:(a.den:Int)*(b.den:Int)*2≠0:=by
  have:=Int.mul_pos (Qm7 a) (Qm7 b); omega
 exact Ue func314 rfl [.k (zL ha.s31 hb.s31),.k (VE (U3 _) (U3 _) (by omega) (by omega)),.k (zP (z:=2) (by decide)),.k (Nq (U3 _) (U3 _) (by omega) (by omega)),.k (ZR h0 (by omega) (by omega))] rfl
theorem zO {a b:Rat} (ha:Qb a) (hb:Qb b):Uh 274 [.agg (rl a),.agg (rl b)] [.agg (rl (LP a b))]:=by
 have h1:Fe (a.num*(b.den:Int))<=33554432:=Qc (Ga _ _) (by have:=ha.1; have:=hb.2; omega);have h2:Fe (b.num*(a.den:Int))<=33554432:=Qc (Ga _ _) (by have:=hb.1; have:=ha.2; omega);have h3:Fe ((a.den:Int)*(b.den:Int))<=33554432:=Qc (Ga _ _) (by have:=ha.2; have:=hb.2; omega);have h5:Fe (a.num*(b.den:Int)-b.num*(a.den:Int))<=33554433:=Qc (xO _ _) (by omega);have h0:(a.den:Int)*(b.den:Int)≠0:=by
  have:=Int.mul_pos (Qm7 a) (Qm7 b); omega
 exact Ue func274 rfl [.k (zL ha.s31 hb.s31),.k (Qen (U3 _) (U3 _) (by omega) (by omega)),.k (ZR h0 (by omega) (by omega))] rfl
theorem BW {q r:Rat} (h:chq q=some r):r=q/\Qb q:=by
 unfold chq at h
 split at h
 ·rename_i hc; injection h with h; exact ⟨h.symm,hc⟩
 ·cases h
theorem sB {t u:Tm} (ht:Tb t) (h:xB t=some u):Uh 275 [.agg (ta t)] [.agg (ta u)]:=by
 have cp:=Dx ht;unfold xB at h
 split at h
 ·rename_i h1;injection h with h; subst h;exact Ue func275 rfl [.k cp,.t h1] rfl
 ·rename_i h1;have h1:t.point=false:=by simpa using h1
  obtain ⟨m,hm0,h⟩:=Qd.1 h;obtain ⟨rfl,hm⟩:=BW hm0;injection h with h;subst h;have cm:=Qqi ht.lo ht.hi;have cc:=C6 ht hm;by_cases h2:Fj t (mid t.lo t.hi)=0
  ·rw [if_pos h2];exact Ue func275 rfl [.k cp,.f h1,.k cm,.k cc,.t (by simpa using h2)] rfl
  rw [if_neg h2];by_cases h3:Fj t (mid t.lo t.hi)=-1
  ·rw [if_pos h3];exact Ue func275 rfl [.k cp,.f h1,.k cm,.k cc,.f (by simpa using h2),.t (by simpa using h3)] rfl
  ·rw [if_neg h3];exact Ue func275 rfl [.k cp,.f h1,.k cm,.k cc,.f (by simpa using h2),.f (by simpa using h3)] rfl
theorem yN {t u:Tm} (ht:Tb t) (h:xB t=some u):Tb u:=by
 unfold xB at h
 split at h
 ·injection h with h; subst h; exact ht
 ·obtain ⟨m,hm0,h⟩:=Qd.1 h;obtain ⟨rfl,hm⟩:=BW hm0;injection h with h;subst h
  repeat' split
  ·exact ⟨ht.p,hm,hm⟩
  ·exact ⟨ht.p,ht.lo,hm⟩
  ·exact ⟨ht.p,hm,ht.hi⟩
theorem O5 {z:Int} (h:Fe z<=4294967296):Uh 267 [.one (mg z)] [.oi (Fe z:Int)]:=by
 have h1:=sU (l:=Fy z.natAbs) (Lf _) (by rw [G7]; exact h);rw [G7] at h1; exact h1
theorem LK {p:Uk} {i:Nat} {z:Int} (h:p[i]? = some z):G8 (p.take (i+1))=max (G8 (p.take i)) (Fe z):=by
 unfold G8; rw [List.take_succ,h,Option.toList_some,List.foldl_append]; rfl
theorem P8 {p:Uk} {s:Nat} (h:Bd s p):∀ i,G8 (p.take i)<=s
 | 0=>by simp [G8]
 |
  i+1=>by
  cases hz:p[i]? with
  |
   none =>
   rw [Qn (by have:=Jq.1 hz; omega),<-Qn (l:=p) (i:=i) (by have:=Jq.1 hz; omega)];exact P8 h i
  | some z=>rw [LK hz]; have:=P8 h i; have:=Qdd h hz; omega
theorem xQ {p:Uk} (hp:Pb p):Uh 313 [pr p] [.oi (G8 p:Int)]:=by
 have hl:=hp.l;refine Fw func313 rfl ?_;refine Ub [] rfl ?_;refine Ug (S:=Nat) 0 (λL1 i=>(8,.v (.oi i))::(3,.v (.oi (G8 (p.take i):Int)))::L1) (λ_=>[]) (λi=>p.length-i) (λi=>i<=p.length) 0 (Qh _) rfl rfl λi hi=>?_
 by_cases hlt:i<p.length
 ·have hg:=Ra hlt;have hz:=Fo hp.b i;have hs:=LK hg;refine Uc [.t (by simp; omega),.x (Pe hg),.k (O5 (by omega)),.r 16 (eI (b:=(G8 (p.take (i+1)):Int)) (by rw [hs]; omega))] rfl ?_;exact rd (i+1) (by omega) hlt rfl
 ·obtain rfl:i=p.length:=by omega
  rw [Q5];exact Ud [.f (by simp)] rfl
theorem Qmw {a:Tm} {b:Tm} (ha:Tb a) (hb:Tb b):Uh 273 [.agg (ta a),.agg (ta b)] [.oi (Pu a b:Nat)]:=by
 have l1:=ha.p.l;have l2:=hb.p.l;have b1:=ha.lo.1;have b2:=ha.hi.1;have b3:=hb.lo.1;have b4:=hb.hi.1;have s1:G8 a.p<=16777216:=by have:=P8 ha.p.b a.p.length; rwa [Q5] at this
 have s2:G8 b.p<=16777216:=by have:=P8 hb.p.b b.p.length; rwa [Q5] at this
 obtain ⟨N,hN⟩:=nmE (4*(a.p.length+b.p.length));obtain ⟨S,hS⟩:=nmE (G8 a.p+G8 b.p+(a.p.length+b.p.length)+8);have hNS:N*S<=512*33554568:=Zf (by omega) (by omega);have h0:(N:Int)*(S:Int)=((N*S:Nat):Int):=(Vj _ _).symm;have hst:Pu a b=64+2*(Fe a.lo.num+Fe a.hi.num+Fe b.lo.num+Fe b.hi.num)+N*S:=by rw [hN,hS]; rfl
 rw [hst];exact Ue func273 rfl [.k (O5 (z:=a.lo.num) (by omega)),.k (O5 (z:=a.hi.num) (by omega)),.k (O5 (z:=b.lo.num) (by omega)),.k (O5 (z:=b.hi.num) (by omega)),.r 41 (eI (b:=(N:Int)) (by rw [hN]; simp)),.k (xQ ha.p),.k (xQ hb.p),.r 51 (eI (b:=(S:Int)) (by rw [hS]; simp)),.r 52 (eI (b:=((N*S:Nat):Int)) h0)] rfl (by simp) (by rw [h0]; simp [Uz]; omega)
def bC (p:Uk) (a:Tm):Nat:=64+2*(Fe a.lo.num+Fe a.hi.num)+4*(a.p.length+p.length)*(G8 a.p+G8 p+(a.p.length+p.length)+8)
theorem cB:Uh 267 [lr []] [.oi 0]:=sU (l:=[]) (by simp [Sm]) (by decide)
theorem Qe9 {a:Tm} {p:Uk} (ha:Tb a) (hp:Pb p):Uh 273 [.agg (ta a),.agg ([pl p,.bool false,.row [],.bool false,.row [],.bool false,.row [],.bool false,.row []])] [.oi (bC p a:Nat)]:=by
 have l1:=ha.p.l;have l2:=hp.l;have b1:=ha.lo.1;have b2:=ha.hi.1;have s1:G8 a.p<=16777216:=by have:=P8 ha.p.b a.p.length; rwa [Q5] at this
 have s2:G8 p<=16777216:=by have:=P8 hp.b p.length; rwa [Q5] at this
 obtain ⟨N,hN⟩:=nmE (4*(a.p.length+p.length));obtain ⟨S,hS⟩:=nmE (G8 a.p+G8 p+(a.p.length+p.length)+8);have hNS:N*S<=512*33554568:=Zf (by omega) (by omega);have h0:(N:Int)*(S:Int)=((N*S:Nat):Int):=(Vj _ _).symm;have hst:bC p a=64+2*(Fe a.lo.num+Fe a.hi.num)+N*S:=by rw [hN,hS]; rfl
 rw [hst];exact Ue func273 rfl [.k (O5 (z:=a.lo.num) (by omega)),.k (O5 (z:=a.hi.num) (by omega)),.k cB,.k cB,.r 41 (eI (b:=(N:Int)) (by rw [hN]; simp)),.k (xQ ha.p),.k (xQ hp),.r 51 (eI (b:=(S:Int)) (by rw [hS]; simp)),.r 52 (eI (b:=((N*S:Nat):Int)) h0)] rfl (by simp) (by rw [h0]; simp [Uz]; omega)
def VY (sg:Uk->Int) (l:Ul) (i:Nat):Nat×Int:=(l.take i).foldl (Pj sg) (0,0)
theorem yL {sg:Uk->Int} (hs:∀ p,-1<=sg p/\sg p<=1) (l:Ul):∀ i,(VY sg l i).1<=i/\-1<=(VY sg l i).2/\(VY sg l i).2<=1
 | 0=>⟨Ql _,show (-1:Int)<=0 by decide,show (0:Int)<=1 by decide⟩
 |
  i+1=>by
  obtain ⟨h1,h2,h3⟩:=yL hs l i;cases h:l[i]? with
  |
   none =>
   have:VY sg l (i+1)=VY sg l i:=by unfold VY; rw [List.take_of_length_le (by have:=List.getElem?_eq_none_iff.1 h; omega),List.take_of_length_le (List.getElem?_eq_none_iff.1 h)]
   rw [this]; omega
  |
   some p =>
   have:VY sg l (i+1)=Pj sg (VY sg l i) p:=Tv _ _ _ h;rw [this];have:=hs p;unfold Pj
   split
   ·omega
   ·dsimp only; split <;> omega
theorem Qmx {l:Ul} {fid:Nat} {l1:Up} {sg:Uk->Int} (hl:l.length≤1000) (hs:∀ p,-1≤sg p/\sg p≤1) (h:∀ p∈l,ER prog fid [pr p,.one (.sh l1)] [.oi (sg p)]):Uh 340 [.one (.sh [.row (S6 l)]),.one (.fn fid [] [.sh l1])] [.oi (Co sg l:Nat)]:=by
 have hpl:=Er l;refine Fw func340 rfl ?_;refine Ub [] rfl ?_;refine Ug (S:=Nat) 0 (λL1 i=>(15,.v (.oi i))::(5,.v (.oi ((VY sg l i).1:Int)))::(6,.v (.one (.int .i64 (VY sg l i).2)))::L1) (λ_=>[]) (λi=>l.length-i) (λi=>i<=l.length) 0 (Qh _) rfl rfl λi hi=>?_
 by_cases hlt:i<l.length
 ·obtain ⟨p,hp⟩:=gxE (l:=l) (i:=i) hlt;have hst:VY sg l (i+1)=Pj sg (VY sg l i) p:=Tv _ _ _ hp;obtain ⟨b1,b2,b3⟩:=yL hs l i;have b4:=hs p;by_cases h0:sg p=0
  ·refine Uc [.t (by simp [hpl]; omega),.x (Rk hp),.k (h p (Qa hp)),.t (by simpa using h0)] rfl ?_;exact rd (i+1) (by omega) hlt (by rw [hst,show Pj sg (VY sg l i) p=VY sg l i from by unfold Pj; rw [if_pos h0]]; rfl)
  ·by_cases h1:(VY sg l i).2=-(sg p)
   ·refine Uc [.t (by simp [hpl]; omega),.x (Rk hp),.k (h p (Qa hp)),.f (by simpa using h0),.t (by simpa using h1)] rfl ?_;exact rd (i+1) (by omega) hlt (by rw [hst,show Pj sg (VY sg l i) p=((VY sg l i).1+1,sg p) from by unfold Pj; rw [if_neg h0,if_pos h1]]; rfl)
   ·refine Uc [.t (by simp [hpl]; omega),.x (Rk hp),.k (h p (Qa hp)),.f (by simpa using h0),.f (by simpa using h1)] rfl ?_;exact rd (i+1) (by omega) hlt (by rw [hst,show Pj sg (VY sg l i) p=((VY sg l i).1,sg p) from by unfold Pj; rw [if_neg h0,if_neg h1]]; rfl)
 ·obtain rfl:i=l.length:=by omega
  refine Ud [.f (by simp [hpl])] rfl ?_ trivial;unfold VY Co; rw [List.take_length]
theorem Qel {p:Uk} {q:Rat} (hp:Pb p) (hq:Qb q):Uh 341 [pr p,.one (.sh (rl q))] [.oi (H7 p q)]:=Ue func341 rfl [.k (SI hp hq)] rfl
theorem dJ {l:Ul} {q:Rat} (hl:l.length≤1000) (hp:∀ p∈l,Pb p) (hq:Qb q):Uh 321 [.one (.sh [.row (S6 l)]),.agg (rl q)] [.oi (Cq l q:Nat)] :=
 Ue func321 rfl [.k (Qmx (fid:=341) (l1:=rl q) (sg:=λp=>H7 p q) hl (λp=>Om p q) λp h=>Qel (hp p h) hq)] rfl
theorem Li {sg:Uk->Int} (hs:∀ p,-1<=sg p/\sg p<=1) (l:Ul):Co sg l<=l.length:=by
 have:=(yL hs l l.length).1;unfold VY at this; rwa [List.take_length] at this
theorem AU {l:Ul} {lo hi:Rat} (hl:l.length≤1000) (hp:∀ p∈l,Pb p) (ql:Qb lo) (qh:Qb hi):Uh 282 [.one (.sh [.row (S6 l)]),.agg (rl lo),.agg (rl hi)] [.oi (Tj l lo hi)]:=by
 have b1:Cq l lo<=l.length:=Li (λp=>Om p lo) l;have b2:Cq l hi<=l.length:=Li (λp=>Om p hi) l;have c1:=B5 qh.s31 ql.s31;unfold Tj;by_cases h:G6 hi lo<0
 ·rw [if_pos h];exact Ue func282 rfl [.k c1,.t (by simpa using h)] rfl
 ·rw [if_neg h];exact Ue func282 rfl [.k c1,.f (by simpa using h),.k (dJ hl hp ql),.k (dJ hl hp qh)] rfl rfl (by simp [Uz]; omega)
def zTm:Up:=[.nils,.bool false,.nils,.bool false,.nils,.bool false,.nils,.bool false,.nils]
theorem Qcb {a b:Tm} (ha:Tb a) (hb:Tb b):Pu a b<=17179938816+200000000:=by
 have l1:=ha.p.l;have l2:=hb.p.l;have b1:=ha.lo.1;have b2:=ha.hi.1;have b3:=hb.lo.1;have b4:=hb.hi.1;have s1:G8 a.p<=16777216:=by have:=P8 ha.p.b a.p.length; rwa [Q5] at this
 have s2:G8 b.p<=16777216:=by have:=P8 hb.p.b b.p.length; rwa [Q5] at this
 have:4*(a.p.length+b.p.length)*(G8 a.p+G8 b.p+(a.p.length+b.p.length)+8)<=512*33554568:=Zf (by omega) (by omega);unfold Pu; omega
theorem Qou {a b:Rat} (ha:Qb a) (hb:Qb b):Qs 2147483647 (LP a b):=by
 have h1:Fe (a.num*(b.den:Int))<=33554432:=Qc (Ga _ _) (by have:=ha.1; have:=hb.2; omega);have h2:Fe (b.num*(a.den:Int))<=33554432:=Qc (Ga _ _) (by have:=hb.1; have:=ha.2; omega);have h3:Fe ((a.den:Int)*(b.den:Int))<=33554432:=Qc (Ga _ _) (by have:=ha.2; have:=hb.2; omega);have h5:Fe (a.num*(b.den:Int)-b.num*(a.den:Int))<=33554433:=Qc (xO _ _) (by omega);exact (Qs.divInt (s:=33554433) h5 (by omega) (by omega)).mono (by omega)
theorem zC {a b:Tm} {r:Tm×Tm×Int} (ha:Tb a) (hb:Tb b) (h:EM (Pu a b) a b=some r):Uh 229 [.agg (ta a),.agg (ta b)] [.agg (ta r.1),.agg (ta r.2.1),.oi r.2.2]:=by
 have hsb:=Qcb ha hb;refine Fw func229 rfl ?_;refine Ub [.k (Qmw ha hb)] rfl ?_;obtain ⟨n,hn⟩:=nmE (Pu a b);rw [<-hn] at h hsb ⊢;refine sb [(10,.v (.oi 0)),(9,.v (.oi n)),(5,.v (.one (.ow 3 0))),(4,.v (.one (.ow 2 0))),(3,.v (.one (.ow 1 0))),(2,.v (.one (.ow 0 0)))] [.blk 105 (ta a),.blk 105 (ta b),.blk 105 zTm,.blk 105 zTm] rfl rfl ?_;refine Ug (S:=Nat×Tm×Tm) 4 (λL1 s=>(10,.v (.oi (s.1:Int)))::L1) (λs=>[.blk 105 (ta s.2.1),.blk 105 (ta s.2.2),.blk 105 zTm,.blk 105 zTm]) (λs=>n-s.1) (λs=>s.1<=n/\Tb s.2.1/\Tb s.2.2/\EM (n-s.1) s.2.1 s.2.2=some r) (0,a,b) ⟨Qh _,ha,hb,h⟩ rfl rfl λ⟨i,u,v⟩ ⟨j1,j2,j3,j4⟩=>?_
 dsimp only at j1 j2 j3 j4 ⊢;by_cases hi:i<n
 ·obtain ⟨k,hk⟩:∃ k,n-i=k+1:=⟨n-i-1,by omega⟩;have hk':n-(i+1)=k:=by omega
  rw [hk] at j4;have c1:=B5 j2.hi.s31 j3.lo.s31;have c2:=B5 j3.hi.s31 j2.lo.s31;have pu:=Dx j2;have pv:=Dx j3;have hlt:decide ((i:Int)<(n:Int))=true:=by simp; omega
  simp only [EM] at j4;refine Ub [.t hlt] rfl ?_;refine ct 3 (S:=Unit) (λ_=>[(10,.v (.oi i)),(9,.v (.oi n)),(5,.v (.one (.ow 3 0))),(4,.v (.one (.ow 2 0))),(3,.v (.one (.ow 1 0))),(2,.v (.one (.ow 0 0)))]) (λ_=>[.blk 105 (ta u),.blk 105 (ta v),.blk 105 zTm,.blk 105 zTm]) (λ_=>¬Dv u v=true/\¬Dv v u=true) rfl ?_ ?_
  ·have bA:Dv u v=(decide (G6 u.hi v.lo<=0) && !(u.point && v.point && decide (G6 u.hi v.lo=0))):=by
    unfold Dv; cases u.point <;> cases v.point <;> simp
   have bB:Dv v u=(decide (G6 v.hi u.lo<=0) && !(u.point && v.point && decide (G6 v.hi u.lo=0))):=by
    unfold Dv; cases u.point <;> cases v.point <;> simp
   obtain ⟨a0,A'⟩:∃ b,decide (G6 u.hi v.lo<=0)=b:=⟨_,rfl⟩;obtain ⟨b0,B'⟩:∃ b,decide (G6 v.hi u.lo<=0)=b:=⟨_,rfl⟩;obtain ⟨p0,P'⟩:∃ b,u.point=b:=⟨_,rfl⟩;obtain ⟨q0,Q'⟩:∃ b,v.point=b:=⟨_,rfl⟩;obtain ⟨x0,X'⟩:∃ b,decide (G6 u.hi v.lo=0)=b:=⟨_,rfl⟩;obtain ⟨y0,Y'⟩:∃ b,decide (G6 v.hi u.lo=0)=b:=⟨_,rfl⟩;rw [A',P',Q',X'] at bA;rw [B',P',Q',Y'] at bB;have r1:Dv u v=true->(u,v,-1)=r:=λh=>by rw [if_pos h] at j4; injection j4
   have r2:¬Dv u v=true->Dv v u=true->(u,v,1)=r:=λh h'=>by rw [if_neg h,if_pos h'] at j4; injection j4
   clear j4;cases a0
   ·cases b0
    ·exact go tt [.k c1,.g 19 false A',.f rfl,.k c2,.g 45 false B',.f rfl] rfl trivial (rc () ⟨by rw [bA]; simp,by rw [bB]; simp⟩ rfl)
    ·cases p0
     ·obtain rfl:=r2 (by rw [bA]; simp) (by rw [bB]; rfl);exact Ud [.k c1,.g 19 false A',.f rfl,.k c2,.g 45 true B',.k pu,.g 48 false P',.g 52 false rfl,.t rfl] rfl
     ·cases q0
      ·obtain rfl:=r2 (by rw [bA]; simp) (by rw [bB]; rfl);exact Ud [.k c1,.g 19 false A',.f rfl,.k c2,.g 45 true B',.k pu,.g 48 true P',.k pv,.g 52 false Q',.t rfl] rfl
      ·cases y0
       ·obtain rfl:=r2 (by rw [bA]; simp) (by rw [bB]; rfl);exact Ud [.k c1,.g 19 false A',.f rfl,.k c2,.g 45 true B',.k pu,.g 48 true P',.k pv,.g 52 true Q',.k c2,.t (by simpa using Y')] rfl
       ·exact go tt [.k c1,.g 19 false A',.f rfl,.k c2,.g 45 true B',.k pu,.g 48 true P',.k pv,.g 52 true Q',.k c2,.f (by simpa using Y')] rfl trivial (rc () ⟨by rw [bA]; simp,by rw [bB]; simp⟩ rfl)
   ·cases p0
    ·obtain rfl:=r1 (by rw [bA]; rfl);exact Ud [.k c1,.g 19 true A',.k pu,.g 22 false P',.g 26 false rfl,.t rfl] rfl
    ·cases q0
     ·obtain rfl:=r1 (by rw [bA]; rfl);exact Ud [.k c1,.g 19 true A',.k pu,.g 22 true P',.k pv,.g 26 false Q',.t rfl] rfl
     ·cases x0
      ·obtain rfl:=r1 (by rw [bA]; rfl);exact Ud [.k c1,.g 19 true A',.k pu,.g 22 true P',.k pv,.g 26 true Q',.k c1,.t (by simpa using X')] rfl
      ·cases b0
       ·exact go tt [.k c1,.g 19 true A',.k pu,.g 22 true P',.k pv,.g 26 true Q',.k c1,.f (by simpa using X'),.k c2,.g 45 false B',.f rfl] rfl trivial (rc () ⟨by rw [bA]; simp,by rw [bB]; simp⟩ rfl)
       ·cases y0
        ·obtain rfl:=r2 (by rw [bA]; simp) (by rw [bB]; rfl);exact Ud [.k c1,.g 19 true A',.k pu,.g 22 true P',.k pv,.g 26 true Q',.k c1,.f (by simpa using X'),.k c2,.g 45 true B',.k pu,.g 48 true P',.k pv,.g 52 true Q',.k c2,.t (by simpa using Y')] rfl
        ·exact go tt [.k c1,.g 19 true A',.k pu,.g 22 true P',.k pv,.g 26 true Q',.k c1,.f (by simpa using X'),.k c2,.g 45 true B',.k pu,.g 48 true P',.k pv,.g 52 true Q',.k c2,.f (by simpa using Y')] rfl trivial (rc () ⟨by rw [bA]; simp,by rw [bB]; simp⟩ rfl)
  ·rintro _ ⟨n1,n2⟩
   rw [if_neg n1,if_neg n2] at j4;have qr:∀ {x y:Rat},Qb x->Qb y->Qs 2147483647 (LP x y):=λh1 h2=>Qou h1 h2
   have cc:=B5 (qr j2.hi j2.lo) (qr j3.hi j3.lo);by_cases D:0<=G6 (LP u.hi u.lo) (LP v.hi v.lo)
   ·rw [if_pos D] at j4;obtain ⟨x,x1,x2⟩:=Qd.1 j4;refine Uc [.k (zO j2.hi j2.lo),.k (zO j3.hi j3.lo),.k cc,.t (by simpa using D),.k (sB j2 x1)] rfl ?_;exact rd (i+1,x,v) (by dsimp only; omega) ⟨hi,yN j2 x1,j3,by dsimp only; rw [hk']; exact x2⟩ rfl
   ·rw [if_neg D] at j4;obtain ⟨x,x1,x2⟩:=Qd.1 j4;refine Uc [.k (zO j2.hi j2.lo),.k (zO j3.hi j3.lo),.k cc,.f (by simpa using D),.k (sB j3 x1)] rfl ?_;exact rd (i+1,u,x) (by dsimp only; omega) ⟨hi,j2,yN j3 x1,by dsimp only; rw [hk']; exact x2⟩ rfl
 ·obtain rfl:i=n:=by omega
  rw [Ki] at j4;simp only [EM] at j4;injection j4 with j4; subst j4;exact Ud [.f (by simp)] rfl
theorem Qmv {a b:Rat} (ha:Qb a) (hb:Qb b):Uh 69 [.agg (rl a),.one (.row [rl b])] [.agg (rl (if 0<G6 b a then b else a))]:=by
 have ca:=PD (U3 a.num) (U3 (a.den:Int)) ha.s32.1 ha.s32.2;have cb:=PD (U3 b.num) (U3 (b.den:Int)) hb.s32.1 hb.s32.2;rw [Sv] at ca cb;have cc:=B5 hb.s31 ha.s31;refine Fw func69 rfl ?_;refine Ub [.k ca] rfl ?_;refine Ug (S:=Nat) 3 (λL1 i=>(12,.v (.oi i))::L1) (λi=>[.blk 42 (rl a),.blk 42 [.bool false,.nils,.bool false,.nils],.blk 42 (rl (if i=0 then a else if 0<G6 b a then b else a))]) (λi=>1-i) (λi=>i<=1) 0 (Qh _) rfl rfl λi hi=>?_
 rcases (show i=0\/i=1 by omega) with rfl | rfl
 ·by_cases h:0<G6 b a
  ·refine Ub [.t rfl,.x (i:=0) (xs:=rl b) rfl,.k cc,.t (by simpa using h),.k cb] rfl ?_ (by simp [Uz]);exact rd 1 (by omega) (by omega) (by rw [if_pos h]; rfl)
  ·refine Ub [.t rfl,.x (i:=0) (xs:=rl b) rfl,.k cc,.f (by simpa using h)] rfl ?_ (by simp [Uz]);exact rd 1 (by omega) (by omega) (by rw [if_neg h]; rfl)
 ·exact Ud [.f rfl] rfl
theorem VC {a b:Tm} {c:Int} (ha:Tb a) (hb:Tb b) (h:WI a b=some c):Uh 162 [.agg (ta a),.agg (ta b)] [.oi c]:=by
 have ca:=PL ha;have cb:=PL hb;have pa:=Dx ha;have pb:=Dx hb;unfold WI at h;by_cases h1:a.point=true
 ·rw [if_pos h1] at h;injection h with h; subst h;have:=Qm0 b a.lo;exact Ue func162 rfl [.k ca,.k cb,.k pa,.t h1,.k (C6 hb ha.lo)] rfl rfl (by simp [Uz]; omega)
 rw [if_neg h1] at h;have h1:a.point=false:=by simpa using h1
 by_cases h2:b.point=true
 ·rw [if_pos h2] at h;injection h with h; subst h;exact Ue func162 rfl [.k ca,.k cb,.k pa,.f h1,.k pb,.t h2,.k (C6 ha hb.lo)] rfl
 rw [if_neg h2] at h;have h2:b.point=false:=by simpa using h2
 obtain ⟨lo,hlo⟩:=nmE (if 0<G6 b.lo a.lo then b.lo else a.lo);obtain ⟨hi,hhi⟩:=nmE (if G6 b.hi a.hi<0 then b.hi else a.hi);have h:(if G6 lo hi<0 then (jO a.p b.p).bind λg=>if 1<g.length/\UT g lo hi=true then some 0 else (EM (Pu a b) a b).bind λr=>some r.2.2 else (EM (Pu a b) a b).bind λr=>some r.2.2)=some c:=by rw [hlo,hhi]; exact h
 have qlo:Qb lo:=by rw [hlo]; split; exact hb.lo; exact ha.lo
 have qhi:Qb hi:=by rw [hhi]; split; exact hb.hi; exact ha.hi
 have cm:=Qmv ha.lo hb.lo;rw [<-hlo] at cm;have cc1:=B5 hb.hi.s31 ha.hi.s31;have cc2:=B5 qlo.s31 qhi.s31;refine Fw func162 rfl ?_;refine Ub [.k ca,.k cb,.k pa,.f h1,.k pb,.f h2,.k cm] rfl ?_;refine ct 2 (S:=Unit) (λ_=>[(6,.v (.one (.ow 3 0))),(5,.v (.one (.ow 2 0))),(4,.v (.oi 0)),(3,.v (.one (.ow 1 0))),(2,.v (.one (.ow 0 0)))]) (λ_=>[.blk 105 (ta a),.blk 105 (ta b),.blk 42 (rl lo),.blk 42 (rl hi)]) (λ_=>True) rfl ?_ ?_
 ·by_cases D:G6 b.hi a.hi<0
  ·rw [if_pos D] at hhi; subst hhi;exact go tt [.k cc1,.t (by simpa using D)] rfl trivial (rc () trivial rfl)
  ·rw [if_neg D] at hhi; subst hhi;exact go tt [.k cc1,.f (by simpa using D)] rfl trivial (rc () trivial rfl)
 ·rintro _ _
  by_cases D:G6 lo hi<0
  ·rw [if_pos D] at h;obtain ⟨g,g1,h⟩:=Qd.1 h;have cg:=Qd3 ha.p hb.p g1;have pg:=Qh8 ha.p hb.p g1;have ch:=Qet pg qlo qhi;by_cases G:1<g.length
   ·by_cases R:UT g lo hi=true
    ·rw [if_pos ⟨G,R⟩] at h;injection h with h; subst h;exact Ud [.k cc2,.t (by simpa using D),.k cg,.k (Mn g),.g 58 true (by simp; omega),.k ch,.t R] rfl
    ·rw [if_neg λh=>R h.2] at h;obtain ⟨r,r1,h⟩:=Qd.1 h;injection h with h; subst h;exact Ud [.k cc2,.t (by simpa using D),.k cg,.k (Mn g),.g 58 true (by simp; omega),.k ch,.f (by simpa using R),.k (zC ha hb r1)] rfl
   ·rw [if_neg λh=>G h.1] at h;obtain ⟨r,r1,h⟩:=Qd.1 h;injection h with h; subst h;exact Ud [.k cc2,.t (by simpa using D),.k cg,.k (Mn g),.g 58 false (by simp; omega),.f rfl,.k (zC ha hb r1)] rfl
  ·rw [if_neg D] at h;obtain ⟨r,r1,h⟩:=Qd.1 h;injection h with h; subst h;exact Ud [.k cc2,.f (by simpa using D),.k (zC ha hb r1)] rfl
theorem Qlj {p:Uk} {a:Tm} {s:Int} (hp:Pb p) (ha:Tb a) (h:FB p a=some s):Uh 241 [pr p,.agg (ta a)] [.oi s]:=by
 have ca:=PL ha;have pa:=Dx ha;have cn:=Ht hp.t hp.ln hp.bd;unfold FB at h;by_cases h0:p.length=0
 ·rw [if_pos h0] at h;injection h with h; subst h;exact Ue func241 rfl [.k cn,.k ca,.t (by simp; exact Qj h0)] rfl
 rw [if_neg h0] at h;have h0:p≠[]:=λe=>h0 (by rw [e]; rfl)
 by_cases h1:a.point=true
 ·rw [if_pos h1] at h;injection h with h; subst h;exact Ue func241 rfl [.k cn,.k ca,.f (by simpa using h0),.k pa,.t h1,.k (SI hp ha.lo)] rfl
 rw [if_neg h1] at h;have h1:a.point=false:=by simpa using h1
 obtain ⟨g,g1,h⟩:=Qd.1 h;have cg:=Qd3 hp ha.p g1;have pg:=Qh8 hp ha.p g1;have ch:=Qet pg ha.lo ha.hi;by_cases G:1<g.length/\UT g a.lo a.hi=true
 ·rw [if_pos G] at h;injection h with h; subst h;exact Ue func241 rfl [.k cn,.k ca,.f (by simpa using h0),.k pa,.f h1,.k cg,.k (Mn g),.g 29 true (by simp; omega),.k ch,.t G.2] rfl
 rw [if_neg G] at h;obtain ⟨c,c1,h⟩:=Qd.1 h;obtain ⟨u,u1,h⟩:=Qd.1 h;injection h with h; subst h;obtain ⟨cl,call⟩:=chain_ok hp c1;obtain ⟨n,hn⟩:=nmE (64+2*(Fe a.lo.num+Fe a.hi.num)+4*(a.p.length+p.length)*(G8 a.p+G8 p+(a.p.length+p.length)+8));have cst:=Qe9 ha hp;rw [show bC p a=n from hn.symm] at cst;rw [<-hn] at u1;have hnb:n<=17179938816+200000000:=by
  have l1:=ha.p.l;have l2:=hp.l;have b1:=ha.lo.1;have b2:=ha.hi.1;have s1:G8 a.p<=16777216:=by have:=P8 ha.p.b a.p.length; rwa [Q5] at this
  have s2:G8 p<=16777216:=by have:=P8 hp.b p.length; rwa [Q5] at this
  have:4*(a.p.length+p.length)*(G8 a.p+G8 p+(a.p.length+p.length)+8)<=512*33554568:=Zf (by omega) (by omega);omega
 refine Fw func241 rfl ?_;refine Ub [.k cn,.k ca,.f (by simpa using h0),.k pa,.f h1,.k cg] rfl ?_;refine ct 2 (S:=Unit) (λ_=>[(3,.v (.one (.ow 0 0))),(0,.v (pr p))]) (λ_=>[.blk 105 (ta a)]) (λ_=>True) rfl ?_ ?_
 ·by_cases G1:1<g.length
  ·exact go tt [.k (Mn g),.g 29 true (by simp; omega),.k ch,.f (by simpa using λh=>G ⟨G1,h⟩)] rfl trivial (rc () trivial rfl)
  ·exact go tt [.k (Mn g),.g 29 false (by simp; omega),.f rfl] rfl trivial (rc () trivial rfl)
 rintro _ _
 refine Ub [.k (Qec hp c1),.k cst] rfl ?_;refine Ug (S:=Nat×Tm) 1 (λL1 s=>(46,.v (.oi (s.1:Int)))::L1) (λs=>[.blk 105 (ta s.2)]) (λs=>n-s.1) (λs=>s.1<=n/\Tb s.2/\sgF c (n-s.1) s.2=some u) (0,a) ⟨Qh _,ha,u1⟩ rfl rfl λ⟨i,x⟩ ⟨j1,j2,j3⟩=>?_
 dsimp only at j1 j2 j3 ⊢;by_cases hi:i<n
 ·obtain ⟨k,hk⟩:∃ k,n-i=k+1:=⟨n-i-1,by omega⟩;have hk':n-(i+1)=k:=by omega
  rw [hk] at j3;simp only [sgF] at j3;have px:=Dx j2;have cb:=AU (by omega) call j2.lo j2.hi;have hlt:decide ((i:Int)<(n:Int))=true:=by simp; omega
  by_cases X:x.point=true
  ·rw [if_pos (.inl X)] at j3;injection j3 with j3; subst j3;exact Ud [.t hlt,.k px,.g 50 true X,.t rfl,.k (SI hp j2.hi)] rfl
  ·have X':x.point=false:=by simpa using X
   by_cases Z:Tj c x.lo x.hi=0
   ·rw [if_pos (.inr Z)] at j3;injection j3 with j3; subst j3;exact Ud [.t hlt,.k px,.g 50 false X',.k cb,.t (by simpa using Z),.k (SI hp j2.hi)] rfl
   ·rw [if_neg (by rintro (h | h); exact X h; exact Z h)] at j3;obtain ⟨v,v1,v2⟩:=Qd.1 j3;refine Uc [.t hlt,.k px,.g 50 false X',.k cb,.f (by simpa using Z),.k (sB j2 v1)] rfl ?_;exact rd (i+1,v) (by dsimp only; omega) ⟨hi,yN j2 v1,by dsimp only; rw [hk']; exact v2⟩ rfl
 ·obtain rfl:i=n:=by omega
  rw [Ki] at j3;simp only [sgF] at j3;injection j3 with j3; subst j3;exact Ud [.f (by simp),.k (SI hp j2.hi)] rfl
abbrev tas (l:List Tm):LV:=.row (l.map λt=>ta t)
theorem MI {l:List Tm} {i:Nat} {t:Tm} (h:l[i]? = some t):(l.map λt=>ta t)[i]? = some (ta t):=Gt h
def zTr:Up:=[.row [],.bool false,.row [],.bool false,.row [],.bool false,.row [],.bool false,.row []]
theorem vA:Uh 96 [.one (.row [])] [.agg zTr,.one (.bool false)]:=Ue func96 rfl [.t rfl] rfl
theorem Sx {b:Tm} {l:List Tm} {m:Tm} (hb:Tb b) (hl:∀ t∈l,Tb t) (hn:l.length≤1000000) (h:QF b l=some m):Uh 96 [.one (tas (b::l))] [.agg (ta m),.one (.bool true)]:=by
 refine Fw func96 rfl ?_;refine go tt [.f (by simp; omega),.x (i:=0) (xs:=ta b) rfl,.i 1] rfl (by simp [Uz]; exact ⟨rfl,λ_ _=>rfl⟩) ?_;refine Ug (S:=Nat×Tm) 2 (λL1 s=>(17,.v (.oi (s.1:Int)))::L1) (λs=>[.blk 105 zTm,.blk 105 (ta s.2)]) (λs=>l.length-s.1) (λs=>s.1<=l.length/\Tb s.2/\QF s.2 (l.drop s.1)=some m) (0,b) ⟨Qh _,hb,h⟩ rfl rfl λ⟨i,x⟩ ⟨j1,j2,j3⟩=>?_
 dsimp only at j1 j2 j3 ⊢;by_cases hi:i<l.length
 ·obtain ⟨a,ha⟩:=gxE (l:=l) (i:=i) hi;have hdr:l.drop i=a::l.drop (i+1):=by
   rw [Zr hi]; congr 1;have:=Qe hi; rw [ha] at this; injection this with this; exact this.symm
  rw [hdr] at j3;simp only [QF] at j3;obtain ⟨c,c1,j3⟩:=Qd.1 j3;have ta':=hl a (Qa ha);by_cases hc:c<0
  ·rw [if_pos hc] at j3;refine Uc [.t (by simp; omega),.x (MI ha),.k (VC ta' j2 c1),.t (by simpa using hc)] rfl ?_;exact rd (i+1,a) (by dsimp only; omega) ⟨hi,ta',j3⟩ rfl
  ·rw [if_neg hc] at j3;refine Uc [.t (by simp; omega),.x (MI ha),.k (VC ta' j2 c1),.f (by simpa using hc)] rfl ?_;exact rd (i+1,x) (by dsimp only; omega) ⟨hi,j2,j3⟩ rfl
 ·obtain rfl:i=l.length:=by omega
  rw [Y9] at j3;simp only [QF] at j3;injection j3 with j3; subst j3;exact Ud [.f (by simp),.k (Qfc j2)] rfl
end Orr
namespace Orq
def Fh (x:Rat):Rat:=if x<0 then -x else x
theorem Hq (x:Rat):0<=Fh x:=by unfold Fh; split <;> grind
theorem P9 {x b:Rat}:Fh x<=b↔-b<=x/\x<=b:=by unfold Fh; split <;> constructor <;> grind
theorem yV {x b:Rat}:Fh x<b↔-b<x/\x<b:=by unfold Fh; split <;> constructor <;> grind
theorem Se (x y:Rat):Fh (x+y)<=Fh x+Fh y:=by unfold Fh; split <;> split <;> split <;> grind
theorem iQ (x y:Rat):Fh (x-y)=Fh (y-x):=by unfold Fh; split <;> split <;> grind
theorem Ef (x:Rat):Fh (-x)=Fh x:=by unfold Fh; split <;> split <;> grind
theorem Re:Fh 0=0:=by decide
theorem Cj {x:Rat} (h:x≠0):0<Fh x:=by unfold Fh; split <;> grind
theorem Qos {x:Rat} (h:Fh x=0):x=0:=by unfold Fh at h; split at h <;> grind
theorem Nw {x y:Rat} (h1:0<=x) (h2:0<=y):0<=x*y:=Y7 h1 h2
theorem Il {x y:Rat} (h1:0<x) (h2:0<y):0<x*y:=Xp h1 h2
theorem Ce {a b c d:Rat} (h0:0<=a) (h1:a<=b) (h2:0<=c) (h3:c<=d):a*c<=b*d:=by
 have e1:=Zc h1 h2;have e2:=Z1 h3 (Zk h0 h1);exact Zk e1 e2
theorem Ia (x y:Rat):Fh (x*y)=Fh x*Fh y:=by
 unfold Fh;by_cases h1:x<0 <;> by_cases h2:y<0
 ·have:=Il (x:=-x) (y:=-y) (by grind) (by grind); simp only [h1,h2,if_true]; split <;> grind
 ·have:=Nw (x:=-x) (y:=y) (by grind) (by grind); simp only [h1,h2,if_true,if_false]; split <;> grind
 ·have:=Nw (x:=x) (y:=-y) (by grind) (by grind); simp only [h1,h2,if_true,if_false]; split <;> grind
 ·have:=Nw (x:=x) (y:=y) (by grind) (by grind); simp only [h1,h2,if_false]; split <;> grind
theorem Ha {x y a b:Rat} (h1:Fh x<=a) (h2:Fh y<=b):Fh (x*y)<=a*b:=by
 rw [Ia]; exact Ce (Hq x) h1 (Hq y) h2
theorem E5 {x y:Rat} (h1:0<x) (h2:0<y):0<x / y:=by rw [Jn]; exact Il h1 (Rat.inv_pos.2 h2)
theorem Hb {x y:Rat} (h2:0<y):x / y*y=x:=Zg (by grind)
theorem Hf {b d:Rat} (hb:0<=b) (hd:0<d):∃ e:Rat,0<e/\e<=1/\e*b<d:=by
 have h1:0<d / (b+1):=E5 hd (by grind);have h2:d / (b+1)*(b+1)=d:=Hb (by grind);rcases Vx (a:=d / (b+1)) (b:=1) with h | h
 ·exact ⟨d / (b+1),h1,h,by
   have:d / (b+1)*(b+1)=d / (b+1)*b+d / (b+1):=by grind
   grind⟩
 ·refine ⟨1,by decide,by decide,?_⟩;have:1*(b+1)<=d / (b+1)*(b+1):=Zc h (by grind);grind
def ev:Un->Rat->Rat
 | [],_=>0
 | a::p,t=>a+t*ev p t
def dv:Un->Rat->Rat
 | [],_=>0
 | _::p,t=>ev p t+t*dv p t
def dq:Un->Rat->Rat->Rat
 | [],_,_=>0
 | _::p,x,y=>ev p x+y*dq p x y
def dd:Un->Rat->Rat->Rat
 | [],_,_=>0
 | _::p,x,y=>dq p x y+y*dd p x y
theorem IW (x y:Rat):∀ p,ev p x-ev p y=(x-y)*dq p x y
 | []=>by simp only [ev,dq]; grind
 | a::p=>by have:=IW x y p; simp only [ev,dq]; grind
theorem xK (y:Rat):∀ p,dq p y y=dv p y
 | []=>rfl
 | a::p=>by simp only [dq,dv,xK y p]
theorem Qqu (x y:Rat):∀ p,dq p x y-dv p y=(x-y)*dd p x y
 | []=>by simp only [dv,dq,dd]; grind
 |
  a::p=>by
  have h1:=Qqu x y p;have h2:=IW x y p;simp only [dv,dq,dd]; grind
theorem Qqy (p:Un) (x y:Rat):ev p x-ev p y=(x-y)*dv p y+(x-y)*(x-y)*dd p x y:=by
 have h1:=IW x y p;have h2:=Qqu x y p;grind
def wB (R:Rat):Un->Rat
 | []=>0
 | a::p=>Fh a+R*wB R p
def EB (R:Rat):Un->Rat
 | []=>0
 | _::p=>wB R p+R*EB R p
def ddB (R:Rat):Un->Rat
 | []=>0
 | _::p=>EB R p+R*ddB R p
theorem ZL {R:Rat} (hR:0<=R):∀ p,0<=wB R p
 | []=>by simp only [wB]; grind
 | a::p=>by have:=Nw hR (ZL hR p); have:=Hq a; simp only [wB]; grind
theorem Mv {R:Rat} (hR:0<=R):∀ p,0<=EB R p
 | []=>by simp only [EB]; grind
 | a::p=>by have:=Nw hR (Mv hR p); have:=ZL hR p; simp only [EB]; grind
theorem BS {R:Rat} (hR:0<=R):∀ p,0<=ddB R p
 | []=>by simp only [ddB]; grind
 | a::p=>by have:=Nw hR (BS hR p); have:=Mv hR p; simp only [ddB]; grind
theorem TL {R x:Rat} (hx:Fh x<=R):∀ p,Fh (ev p x)<=wB R p
 | []=>by simp only [ev,wB,Re]; grind
 |
  a::p=>by
  have h1:=Se a (x*ev p x);have h2:=Ha hx (TL hx p);simp only [ev,wB]; grind
theorem wU {R x y:Rat} (hx:Fh x<=R) (hy:Fh y<=R):∀ p,Fh (dq p x y)<=EB R p
 | []=>by simp only [dq,EB,Re]; grind
 |
  a::p=>by
  have h1:=Se (ev p x) (y*dq p x y);have h2:=Ha hy (wU hx hy p);have h3:=TL hx p;simp only [dq,EB]; grind
theorem Qft {R x y:Rat} (hx:Fh x<=R) (hy:Fh y<=R):∀ p,Fh (dd p x y)<=ddB R p
 | []=>by simp only [dd,ddB,Re]; grind
 |
  a::p=>by
  have h1:=Se (dq p x y) (y*dd p x y);have h2:=Ha hy (Qft hx hy p);have h3:=wU hx hy p;simp only [dd,ddB]; grind
theorem Qtr {R x y:Rat} (hx:Fh x<=R) (hy:Fh y<=R) (p:Un):Fh (ev p x-ev p y)<=Fh (x-y)*EB R p:=by
 rw [IW,Ia]; exact Ce (Hq _) Qp (Hq _) (wU hx hy p)
def Sf:Un->Un->Un
 | [],q=>q
 | a::p,[]=>a::p
 | a::p,b::q=>(a+b)::Sf p q
def Dt (c:Rat) (p:Un):Un:=p.map (c * ·)
def G5:Un->Un->Un
 | [],_=>[]
 | a::p,q=>Sf (Dt a q) (0::G5 p q)
def Nz:Un->Un
 | []=>[]
 | _::p=>Sf p (0::Nz p)
theorem Gy (t:Rat):∀ p q,ev (Sf p q) t=ev p t+ev q t
 | [],q=>by simp only [Sf,ev]; grind
 | a::p,[]=>by simp only [Sf,ev]; grind
 | a::p,b::q=>by have:=Gy t p q; simp only [Sf,ev]; grind
theorem Gn (c t:Rat):∀ p,ev (Dt c p) t=c*ev p t
 | []=>by simp only [Dt,X7,ev]; grind
 | a::p=>by have:=Gn c t p; simp only [Dt,Z0,ev] at *; grind
theorem Ff (t:Rat):∀ p q,ev (G5 p q) t=ev p t*ev q t
 | [],q=>by simp only [G5,ev]; grind
 | a::p,q=>by have:=Ff t p q; simp only [G5,Gy,Gn,ev]; grind
theorem Tk (t:Rat):∀ p,ev (Nz p) t=dv p t
 | []=>rfl
 | a::p=>by have:=Tk t p; simp only [Nz,Gy,ev,dv]; grind
theorem xU (t:Rat):∀ p q,dv (Sf p q) t=dv p t+dv q t
 | [],q=>by simp only [Sf,dv]; grind
 | a::p,[]=>by simp only [Sf,dv]; grind
 | a::p,b::q=>by have:=xU t p q; have:=Gy t p q; simp only [Sf,dv]; grind
theorem HW (c t:Rat):∀ p,dv (Dt c p) t=c*dv p t
 | []=>by simp only [Dt,X7,dv]; grind
 | a::p=>by have:=HW c t p; have:=Gn c t p; simp only [Dt,Z0,dv] at *; grind
theorem xF (t:Rat):∀ p q,dv (G5 p q) t=dv p t*ev q t+ev p t*dv q t
 | [],q=>by simp only [G5,dv,ev]; grind
 | a::p,q=>by have:=xF t p q; have:=Ff t p q; simp only [G5,xU,HW,dv,ev]; grind
theorem lG:∀ {p:Un},(∀ x∈p,x=0)->∀ t,ev p t=0
 | [],_,t=>rfl
 |
  a::p,h,t=>by
  have h1:=lG (p:=p) (λx hx=>h x (Qg _ hx)) t;have h2:=h a (Qx ..);simp only [ev,h1,h2]; grind
theorem lJ:∀ {p:Un},(∀ x∈p,x=0)->∀ t,dv p t=0
 | [],_,t=>rfl
 |
  a::p,h,t=>by
  have h0:=λx hx=>h x (Qg _ hx)
  have h1:=lG (p:=p) h0 t;have h2:=lJ (p:=p) h0 t;simp only [dv,h1,h2]; grind
theorem WU:∀ {p:Un},(∀ t,0<t->t<1->ev p t=0)->∀ x∈p,x=0
 | [],_=>λx hx=>by cases hx
 |
  a::p,h=>by
  have ha:a=0:=by
   rcases Classical.em (a=0) with h0 | h0
   ·exact h0
   ·obtain ⟨e,e1,e2,e3⟩:=Hf (ZL (R:=1) (by decide) p) (Cj h0);obtain ⟨f,f1,f2,f3⟩:=Hf (b:=1) (d:=e) (by decide) e1;have h1:=h f f1 (by grind);have h2:=TL (R:=1) (x:=f) (by unfold Fh; split <;> grind) p;have h3:=Ia f (ev p f);have h4:Fh f=f:=by unfold Fh; split <;> grind
    have h5:a=-(f*ev p f):=by simp only [ev] at h1; grind
    have h6:Fh a=f*Fh (ev p f):=by rw [h5,Ef,h3,h4]
    have h7:f*Fh (ev p f)<=e*wB 1 p:=Ce (Qr f1) (by grind) (Hq _) h2;grind
  intro x hx;rcases Qm.1 hx with rfl | hx
  ·exact ha
  ·refine WU (p:=p) (λt h1 h2=>?_) x hx;have:=h t h1 h2;simp only [ev,ha] at this;have h3:t*ev p t=0:=by grind
   rcases Yy.1 h3 with h4 | h4
   ·grind
   ·exact h4
theorem Qf1 {p q:Un} (h:∀ t,ev p t=ev q t) (t:Rat):dv p t=dv q t:=by
 have h1:=lJ (p:=Sf p (Dt (-1) q)) (WU λt _ _=>by rw [Gy,Gn,h t]; grind) t;rw [xU,HW] at h1; grind
def Fc (x:Rat):Int:=if x<0 then -1 else if 0<x then 1 else 0
theorem Gj {x:Rat}:Fc x=0↔x=0:=by
 unfold Fc; constructor
 ·intro h; split at h <;> (try split at h) <;> grind
 ·intro h; subst h; rfl
theorem Hu {x:Rat}:Fc x=1↔0<x:=by
 unfold Fc; constructor
 ·intro h; split at h <;> (try split at h) <;> grind
 ·intro h; rw [if_neg (by grind),if_pos h]
theorem S7 {x:Rat}:Fc x=-1↔x<0:=by
 unfold Fc; constructor
 ·intro h; split at h <;> (try split at h) <;> grind
 ·intro h; rw [if_pos h]
theorem Fu (x:Rat):Fc x=-1/\x<0\/Fc x=0/\x=0\/Fc x=1/\0<x:=by
 rcases Vx (a:=x) (b:=0) with h | h
 ·rcases Classical.em (x=0) with h0 | h0
  ·exact .inr (.inl ⟨Gj.2 h0,h0⟩)
  ·exact .inl ⟨S7.2 (by grind),by grind⟩
 ·rcases Classical.em (x=0) with h0 | h0
  ·exact .inr (.inl ⟨Gj.2 h0,h0⟩)
  ·exact .inr (.inr ⟨Hu.2 (by grind),by grind⟩)
theorem Si (x y:Rat):Fc (x*y)=Fc x*Fc y:=by
 rcases Fu x with ⟨e1,h1⟩ | ⟨e1,h1⟩ | ⟨e1,h1⟩ <;> rcases Fu y with ⟨e2,h2⟩ | ⟨e2,h2⟩ | ⟨e2,h2⟩ <;> rw [e1,e2]
 ·have:=Il (x:=-x) (y:=-y) (by grind) (by grind); exact Hu.2 (by grind)
 ·subst h2; exact Gj.2 (by grind)
 ·have:=Il (x:=-x) (y:=y) (by grind) (by grind); exact S7.2 (by grind)
 ·subst h1; exact Gj.2 (by grind)
 ·subst h1; exact Gj.2 (by grind)
 ·subst h1; exact Gj.2 (by grind)
 ·have:=Il (x:=x) (y:=-y) (by grind) (by grind); exact S7.2 (by grind)
 ·subst h2; exact Gj.2 (by grind)
 ·exact Hu.2 (Il h1 h2)
theorem Pn {a b d:Rat} (h1:d<=Fh a) (h2:Fh (b-a)<d):Fc b=Fc a/\Fc a≠0:=by
 rw [yV] at h2;rcases Fu a with ⟨e,h⟩ | ⟨e,h⟩ | ⟨e,h⟩
 ·rw [e,S7]; unfold Fh at h1; rw [if_pos h] at h1; exact ⟨by grind,by decide⟩
 ·subst h; rw [Re] at h1; grind
 ·rw [e,Hu]; unfold Fh at h1; rw [if_neg (by grind)] at h1; exact ⟨by grind,by decide⟩
def tc (x:Rat):Int->Uo->Nat
 | _,[]=>0
 | s,p::l=>if Fc (ev p x)=0 then tc x s l else (if s=-(Fc (ev p x)) then 1 else 0)+tc x (Fc (ev p x)) l
inductive SCl:List Rat->List Rat->List (List Rat)->Prop
 | base {f g:List Rat} {c:Rat} (hc:c≠0) (hg:∀ t,ev g t=c):SCl f g []
 | step {f g h:List Rat} {l:List (List Rat)} {a b:Rat} {q:List Rat} (ha:0<a) (hb:0<b) (he:∀ t,a*ev f t=ev q t*ev g t-b*ev h t) (hl:SCl g h l):SCl f g (h::l)
theorem Qj2 {x:Rat} {s:Int} {g h:Un} {l:Uo} (hh:Fc (ev h x)=-s) (hs:s≠0):tc x s (g::h::l)=1+tc x (-s) l:=by
 have h3:Fc (ev h x)≠0:=by omega
 have hv:s=1\/s=-1:=by rcases Fu (ev h x) with ⟨e,_⟩ | ⟨e,_⟩ | ⟨e,_⟩ <;> omega
 simp only [tc,if_neg h3,hh];rcases Fu (ev g x) with ⟨e,_⟩ | ⟨e,_⟩ | ⟨e,_⟩ <;> rw [e] <;> rcases hv with rfl | rfl <;> simp
theorem FI {x:Rat} {s:Int} {p:Un} {l:Uo} (h:Fc (ev p x)≠0):tc x s (p::l)=(if s=-(Fc (ev p x)) then 1 else 0)+tc x (Fc (ev p x)) l:=by rw [tc,if_neg h]
theorem P5 {R x y e d:Rat} {p:Un} (hx:Fh x<=R) (hy:Fh y<=R) (hR:0<=R) (h:Fh (y-x)<=e) (hd:e*EB R p<d):Fh (ev p y-ev p x)<d:=by
 have h1:=Qtr hy hx p;have h2:=Zc h (Mv hR p);grind
theorem OG {a x y:Rat} (ha:0<a) (h:a*x<a*y):x<y:=by
 rcases Vx (a:=y) (b:=x) with h' | h'
 ·have:=Z1 h' (Qr ha); grind
 ·rcases Classical.em (x=y) with e | e
  ·subst e; grind
  ·grind
theorem Qu9 {a b d d' B f g h q:Rat} (ha:0<a) (hb:0<b) (dp:0<d) (h7:B*d+a*d<b*d') (hq:Fh q<=B) (hg:Fh g<d) (hh:d'<=Fh h) (he:a*f=q*g-b*h) (hd':0<d'):Fc h=-Fc f/\d<=Fh f:=by
 have h4:=Ha hq (Qr hg);rw [P9] at h4;have had:=Il ha dp;have h8:=Z1 hh (Qr hb);rcases Fu h with ⟨s,p⟩ | ⟨s,p⟩ | ⟨s,p⟩
 ·have:Fh h=-h:=by unfold Fh; rw [if_pos p]
  rw [this] at h8;have h10:d<f:=OG ha (by grind);rw [s,Hu.2 (show 0<f by grind)];exact ⟨rfl,by unfold Fh; split <;> grind⟩
 ·rw [p,Re] at hh; grind
 ·have:Fh h=h:=by unfold Fh; rw [if_neg (by grind)]
  rw [this] at h8;have h10:f < -d:=OG ha (by grind);rw [s,S7.2 (show f<0 by grind)];exact ⟨rfl,by unfold Fh; split <;> grind⟩
theorem min2 {a b:Rat} (ha:0<a) (hb:0<b):∃ e:Rat,0<e/\e<=a/\e<=b:=by
 rcases Vx (a:=a) (b:=b) with h | h
 ·exact ⟨a,ha,Qp,h⟩
 ·exact ⟨b,hb,h,Qp⟩
theorem Gb (a b:Rat):a<=b\/b<a:=by
 rcases Vx (a:=a) (b:=b) with h | h
 ·exact .inl h
 ·rcases Classical.em (a=b) with e | e
  ·exact .inl (by grind)
  ·exact .inr (by grind)
theorem Qud {R:Rat} (hR:0<=R) {f g:Un} {l:Uo} (hc:SCl f g l):∃ d e:Rat,0<d/\0<e/\∀ x y,Fh x<=R->Fh y<=R->Fh (y-x)<=e ->
 (d<=Fh (ev f x)\/d<=Fh (ev g x))/\(d<=Fh (ev f x)->Fc (ev f y)=Fc (ev f x)/\Fc (ev f x)≠0)/\(d<=Fh (ev g x)->Fc (ev g y)=Fc (ev g x)/\Fc (ev g x)≠0) /\
 (Fc (ev f y)=Fc (ev f x)->Fc (ev f x)≠0->tc x (Fc (ev f x)) (g::l)=tc y (Fc (ev f x)) (g::l)) /\
 (Fc (ev g y)=Fc (ev g x)->Fc (ev g x)≠0->tc x (Fc (ev g x)) l=tc y (Fc (ev g x)) l):=by
 induction hc with
 |
  @base f g c hc hg =>
  have hd:=Cj hc;obtain ⟨e,e1,e2,e3⟩:=Hf (Mv hR f) hd;refine ⟨Fh c,e,hd,e1,λx y hx hy hxy=>⟨.inr (by rw [hg]; exact Qp),λh=>Pn h (P5 hx hy hR hxy e3),λh=>?_,λ_ _=>?_,λ_ _=>rfl⟩⟩
  ·rw [hg,hg]; exact ⟨rfl,λh=>hc (Gj.1 h)⟩
  ·simp only [tc,hg]
 |
  @step f g h l a b q ha hb he hl ih =>
  obtain ⟨d',e',hd',he',ih⟩:=ih;obtain ⟨d1,d1p,_,d1b⟩:=Hf (b:=wB R q+a) (d:=b*d') (by have:=ZL hR q; grind) (Il hb hd');obtain ⟨d,dp,hd1,hdd⟩:=min2 d1p hd';obtain ⟨ef,ef1,_,ef3⟩:=Hf (Mv hR f) dp;obtain ⟨eg,eg1,_,eg3⟩:=Hf (Mv hR g) dp;obtain ⟨e0,e0p,h1,h2⟩:=min2 ef1 eg1;obtain ⟨e,ep,h0,h3⟩:=min2 e0p he';have h1:=Zk h0 h1;have h2:=Zk h0 h2;refine ⟨d,e,dp,ep,λx y hx hy hxy=>?_⟩;obtain ⟨i1,i2,i3,i4,i5⟩:=ih x y hx hy (Zk hxy h3);have hsm:Fh (ev g x)<d->d'<=Fh (ev h x)/\Fc (ev h x)=-Fc (ev f x)/\d<=Fh (ev f x):=λhg=>by
   have hh:d'<=Fh (ev h x):=by
    rcases i1 with i | i
    ·exact absurd (Zk hdd i) (Js.2 hg)
    ·exact i
   have h6:d*(wB R q+a)<=d1*(wB R q+a):=Zc hd1 (by have:=ZL hR q; clear ih i1 i2 i3 i4 i5 he; grind);have h7:wB R q*d+a*d<b*d':=by clear ih i1 i2 i3 i4 i5 he; grind
   exact ⟨hh,Qu9 ha hb dp h7 (TL hx q) hg hh (he x) hd'⟩
  have hfs:d<=Fh (ev f x)->Fc (ev f y)=Fc (ev f x)/\Fc (ev f x)≠0:=λh=>Pn h (P5 hx hy hR (Zk hxy h1) ef3)
  have hgs:d<=Fh (ev g x)->Fc (ev g y)=Fc (ev g x)/\Fc (ev g x)≠0:=λh=>Pn h (P5 hx hy hR (Zk hxy h2) eg3)
  refine ⟨?_,hfs,hgs,λs1 s2=>?_,i4⟩
  ·rcases Gb d (Fh (ev g x)) with h | h
   ·exact .inr h
   ·exact .inl (hsm h).2.2
  ·rcases Gb d (Fh (ev g x)) with h | h
   ·obtain ⟨g1,g2⟩:=hgs h;rw [FI (x:=x) (p:=g) g2,FI (x:=y) (p:=g) (by rw [g1]; exact g2),g1,i4 g1 g2]
   ·obtain ⟨h4,h5,_⟩:=hsm h;obtain ⟨h6,h7⟩:=i3 h4;have i5:=i5 h6 h7;rw [Qj2 h5 s2,Qj2 (h6.trans h5) s2,<-h5,i5]
def Ph (p:Un) (x:Rat):Int:=if Fc (ev p x)≠0 then Fc (ev p x) else Fc (dv p x)
def vv (L:Uo) (x:Rat):Nat:=tc x 0 L
def GH (f:Un) (L:Uo):Prop:=(∃ c:Rat,c≠0/\(∀ t,ev f t=c)/\L=[f])\/∃ g l,∃ k:Rat,0<k/\(∀ t,ev g t=k*dv f t)/\SCl f g l/\L=f::g::l
structure Sm (w:List Rat) (x y:Rat):Prop where
 s:Fc (ev w y)=Ph w x
 l:Ph w y=Ph w x
 n:Ph w x≠0
theorem Ae {p:Un} {x:Rat} (h:Fc (ev p x)≠0):Ph p x=Fc (ev p x):=by unfold Ph; rw [if_pos h]
theorem mH {p:Un} {x:Rat} (h:Fc (ev p x)=0):Ph p x=Fc (dv p x):=by unfold Ph; rw [if_neg (by simpa using h)]
theorem rG {p:Un} {x y:Rat} (h:Fc (ev p y)=Fc (ev p x)) (h0:Fc (ev p x)≠0):Sm p x y:=by
 have h1:=Ae h0;have h2:=Ae (p:=p) (x:=y) (by rw [h]; exact h0);exact ⟨by rw [h,h1],by rw [h2,h1,h],by rw [h1]; exact h0⟩
theorem QY {f w u:Un} (h:∀ t,ev f t=ev w t*ev u t) (x:Rat):dv f x=dv w x*ev u x+ev w x*dv u x:=by
 rw [<-xF]; exact Qf1 (λt=>by rw [h,Ff]) x
theorem eM {f w u:Un} {x:Rat} (h:∀ t,ev f t=ev w t*ev u t) (hu:Fc (ev u x)≠0):Ph f x=Ph w x*Fc (ev u x):=by
 by_cases hw:Fc (ev w x)=0
 ·have hw0:=Gj.1 hw;have e1:ev f x=0:=by rw [h,hw0]; grind
  have e2:dv f x=dv w x*ev u x:=by rw [QY h,hw0]; grind
  rw [mH hw,mH (Gj.2 e1),e2,Si]
 ·have e1:Fc (ev f x)=Fc (ev w x)*Fc (ev u x):=by rw [h,Si]
  rw [Ae hw,Ae (by rw [e1]; exact Jp hw hu),e1]
theorem Qva {f w u:Un} {x y:Rat} (h:∀ t,ev f t=ev w t*ev u t) (hu:Fc (ev u y)=Fc (ev u x)) (h0:Fc (ev u x)≠0) (hf:Sm f x y):Sm w x y:=by
 have e1:=eM h h0;have e2:=eM (x:=y) h (by rw [hu]; exact h0);have e3:Fc (ev f y)=Fc (ev w y)*Fc (ev u y):=by rw [h,Si]
 obtain ⟨s,l,n⟩:=hf;rw [hu] at e2 e3;refine ⟨?_,?_,λh=>n (by rw [e1,h,Yv])⟩
 ·rw [e3,e1] at s; exact Yz h0 s
 ·rw [e2,e1] at l; exact Yz h0 l
theorem tc0 {x:Rat} {s:Int} {f g:Un} {l:Uo} (h:Fc (ev g x)=s) (hs:s≠0):tc x 0 (f::g::l)=(if Fc (ev f x)=-s then 1 else 0)+tc x s l:=by
 have hv:s=1\/s=-1:=by rcases Fu (ev g x) with ⟨e,_⟩ | ⟨e,_⟩ | ⟨e,_⟩ <;> omega
 have hg:Fc (ev g x)≠0:=by omega
 rw [tc];rcases Fu (ev f x) with ⟨e,_⟩ | ⟨e,_⟩ | ⟨e,_⟩ <;> rw [e] <;> rcases hv with rfl | rfl <;> simp [FI hg,h]
theorem DV {R x y e d:Rat} {p:Un} (hx:Fh x<=R) (hy:Fh y<=R) (hR:0<=R) (hxy:x<y) (h:y-x<=e) (hd:d<=Fh (dv p x)) (he:e*ddB R p<d):Fc (ev p y-ev p x)=Fc (dv p x):=by
 have h1:=Qqy p y x;have h2:ev p y-ev p x=(y-x)*(dv p x+(y-x)*dd p y x):=by rw [h1]; grind
 have h3:=Ha (x:=y-x) (y:=dd p y x) (a:=e) (b:=ddB R p) (by rw [P9]; constructor <;> grind) (Qft hy hx p);have h4:=Pn (b:=dv p x+(y-x)*dd p y x) hd (by
  have:dv p x+(y-x)*dd p y x-dv p x=(y-x)*dd p y x:=by grind
  rw [this]; exact Js.1 λh=>absurd (Zk h h3) (Js.2 he))
 rw [h2,Si,Hu.2 (show 0<y-x by grind),h4.1,Kq]
def Qcw (f w:Un) (L:Uo) (x y:Rat):Prop :=
 (vv L x=vv L y/\Sm f x y/\Sm w x y)\/(vv L x=vv L y+1/\Ph f x≠0/\Ph f y=-Ph f x/\Fc (ev f x)=Ph f x/\(Fc (ev f y)=0\/Fc (ev f y)=-Ph f x))
theorem Qq1 {R d:Rat} (hR:0<=R) (hd:0<d) {f w u:Un} (h:∀ t,ev f t=ev w t*ev u t):∃ e:Rat,0<e/\∀ x y,Fh x<=R->Fh y<=R->Fh (y-x)<=e->d<=Fh (ev f x)->Sm f x y/\Sm w x y:=by
 obtain ⟨ef,ef1,_,ef3⟩:=Hf (Mv hR f) hd;obtain ⟨d1,d1p,_,d1b⟩:=Hf (ZL hR u) hd;obtain ⟨ew,ew1,_,ew3⟩:=Hf (Mv hR w) d1p;obtain ⟨e,ep,e1,e2⟩:=min2 ef1 ew1;refine ⟨e,ep,λx y hx hy hxy hf=>⟨?_,?_⟩⟩
 ·have:=Pn hf (P5 hx hy hR (Zk hxy e1) ef3);exact rG this.1 this.2
 ·have hw:d1<=Fh (ev w x):=by
   rcases Gb d1 (Fh (ev w x)) with h' | h'
   ·exact h'
   ·have h5:=Ha (Qr h') (TL hx u);rw [<-h] at h5;exact absurd (Zk hf h5) (Js.2 d1b)
  have:=Pn hw (P5 hx hy hR (Zk hxy e2) ew3);exact rG this.1 this.2
theorem loc {R:Rat} (hR:0<=R) {f w u:Un} {L:Uo} (hc:GH f L) (h:∀ t,ev f t=ev w t*ev u t):∃ e:Rat,0<e/\∀ x y,Fh x<=R->Fh y<=R->x<y->y-x<=e->Qcw f w L x y:=by
 rcases hc with ⟨c,hc,hf,rfl⟩ | ⟨g,l,k,hk,hg,hc,rfl⟩
 ·obtain ⟨e,ep,h1⟩:=Qq1 hR (Cj hc) h;refine ⟨e,ep,λx y hx hy hxy he=>.inl ⟨?_,h1 x y hx hy (by rw [P9]; constructor <;> grind) (by rw [hf]; exact Qp)⟩⟩;simp only [vv,tc,hf]
 ·obtain ⟨d,e1,dp,e1p,h1⟩:=Qud hR hc;obtain ⟨e2,e2p,h2⟩:=Qq1 hR dp h;obtain ⟨d3,d3p,_,d3b⟩:=Hf (b:=k) (d:=d) (Qr hk) dp;obtain ⟨e3,e3p,_,e3b⟩:=Hf (BS hR f) d3p;obtain ⟨d4,d4p,_,d4b⟩:=Hf (b:=EB R w+EB R u) (d:=d3) (by have:=Mv hR w; have:=Mv hR u; grind) d3p;obtain ⟨e4,e4p,_,e4b⟩:=Hf (Mv hR w) d4p;obtain ⟨e5,e5p,_,e5b⟩:=Hf (Mv hR u) d4p;obtain ⟨a1,a1p,a11,a12⟩:=min2 e1p e2p;obtain ⟨a2,a2p,a21,a22⟩:=min2 e3p e4p;obtain ⟨a3,a3p,a31,a32⟩:=min2 a1p a2p;obtain ⟨e,ep,b1,b2⟩:=min2 a3p e5p;refine ⟨e,ep,λx y hx hy hxy he=>?_⟩;have hab:Fh (y-x)<=e:=by rw [P9]; clear h1 h2; constructor <;> grind
  have hab1:Fh (y-x)<=e1:=by clear h1 h2; grind
  have hab2:Fh (y-x)<=e2:=by clear h1 h2; grind
  obtain ⟨i1,i2,i3,i4,i5⟩:=h1 x y hx hy hab1;rcases Gb d (Fh (ev f x)) with hf | hf
  ·obtain ⟨s1,s2⟩:=h2 x y hx hy hab2 hf;obtain ⟨j1,j2⟩:=i2 hf;refine .inl ⟨?_,s1,s2⟩;have:=i4 j1 j2;simp only [vv];rw [FI (x:=x) (p:=f) j2,FI (x:=y) (p:=f) (by rw [j1]; exact j2),j1,this]
  ·have hg1:d<=Fh (ev g x):=by
    rcases i1 with i | i
    ·exact absurd i (Js.2 hf)
    ·exact i
   obtain ⟨g1,g2⟩:=i3 hg1;have i5:=i5 g1 g2;have hD:d3<=Fh (dv f x):=by
    rcases Gb d3 (Fh (dv f x)) with h' | h'
    ·exact h'
    ·have h5:=Ha (x:=k) (a:=k) (by unfold Fh; split <;> clear h1 h2 <;> grind) (Rat.le_of_lt h');rw [<-hg] at h5;have:k*d3=d3*k:=by grind
     exact absurd (Zk hg1 h5) (Js.2 (by rw [this]; exact d3b))
   have hm:=DV hx hy hR hxy (by clear h1 h2; grind:y-x<=e3) hD e3b;have s1:Fc (ev g x)=Fc (dv f x):=by rw [hg,Si,Hu.2 hk,Kq]
   have s2:Fc (ev g y)=Fc (dv f y):=by rw [hg,Si,Hu.2 hk,Kq]
   obtain ⟨s,hs⟩:=nmE (Fc (ev g x));rw [<-hs] at g1 g2 i5 s1;rw [g1] at s2;have v1:=tc0 (f:=f) (l:=l) hs.symm g2;have v2:=tc0 (f:=f) (l:=l) g1 g2;rw [<-i5] at v2;rw [<-s1] at hm;have hw:Sm f x y->Sm w x y:=λhf=>by
    rcases Gb d4 (Fh (ev u x)) with hu | hu
    ·have hu:=Pn hu (P5 hx hy hR (Zk hab b2) e5b);exact Qva h hu.1 hu.2 hf
    ·have hw:d4<=Fh (ev w x):=by
      rcases Gb d4 (Fh (ev w x)) with h' | h'
      ·exact h'
      ·have q1:=Ha (x:=dv w x) (y:=ev u x) (a:=EB R w) (by rw [<-xK]; exact wU hx hx w) (Qr hu);have q2:=Ha (x:=ev w x) (y:=dv u x) (b:=EB R u) (Qr h') (by rw [<-xK]; exact wU hx hx u);have q3:=Se (dv w x*ev u x) (ev w x*dv u x);rw [<-QY h] at q3;have:d4*(EB R w+EB R u)=EB R w*d4+d4*EB R u:=by grind
       rw [this] at d4b;exact absurd (Zk hD (Zk q3 (by clear h1 h2; grind:_<=EB R w*d4+d4*EB R u))) (Js.2 d4b)
     have hw:=Pn hw (P5 hx hy hR (Zk hab (by clear h1 h2; grind)) e4b);exact rG hw.1 hw.2
   have lx:Ph f x=if Fc (ev f x)≠0 then Fc (ev f x) else s:=by rw [s1]; rfl
   have ly:Ph f y=if Fc (ev f y)≠0 then Fc (ev f y) else s:=by rw [s2]; rfl
   clear h1 h2 i1 i2 i3 i4;have hsv:s=1\/s=-1:=by rcases Fu (ev g x) with ⟨e,_⟩ | ⟨e,_⟩ | ⟨e,_⟩ <;> omega
   unfold Qcw;simp only [vv,v1,v2];rcases hsv with rfl | rfl
   ·have hm:=Hu.1 hm;rcases Fu (ev f x) with ⟨p1,p2⟩ | ⟨p1,p2⟩ | ⟨p1,p2⟩
    ·rcases Fu (ev f y) with ⟨q1,q2⟩ | ⟨q1,q2⟩ | ⟨q1,q2⟩
     ·rw [p1,q1]; have hsm:=rG (p:=f) (x:=x) (y:=y) (by rw [p1,q1]) (by rw [p1]; decide);exact .inl ⟨rfl,hsm,hw hsm⟩
     ·rw [lx,ly,p1,q1]; refine .inr ⟨by simp; omega,by decide,by decide,by decide,by decide⟩
     ·rw [lx,ly,p1,q1]; refine .inr ⟨by simp; omega,by decide,by decide,by decide,by decide⟩
    ·have q1:=Hu.2 (show 0<ev f y by grind);have hsm:Sm f x y:=⟨by rw [lx,q1,p1]; rfl,by rw [lx,ly,q1,p1]; rfl,by rw [lx,p1]; decide⟩;rw [p1,q1]; exact .inl ⟨rfl,hsm,hw hsm⟩
    ·have q1:=Hu.2 (show 0<ev f y by grind);have hsm:Sm f x y:=⟨by rw [lx,q1,p1]; rfl,by rw [lx,ly,q1,p1],by rw [lx,p1]; decide⟩;rw [p1,q1]; exact .inl ⟨rfl,hsm,hw hsm⟩
   ·have hm:=S7.1 hm;rcases Fu (ev f x) with ⟨p1,p2⟩ | ⟨p1,p2⟩ | ⟨p1,p2⟩
    ·have q1:=S7.2 (show ev f y<0 by grind);have hsm:Sm f x y:=⟨by rw [lx,q1,p1]; rfl,by rw [lx,ly,q1,p1],by rw [lx,p1]; decide⟩;rw [p1,q1]; exact .inl ⟨rfl,hsm,hw hsm⟩
    ·have q1:=S7.2 (show ev f y<0 by grind);have hsm:Sm f x y:=⟨by rw [lx,q1,p1]; rfl,by rw [lx,ly,q1,p1]; rfl,by rw [lx,p1]; decide⟩;rw [p1,q1]; exact .inl ⟨rfl,hsm,hw hsm⟩
    ·rcases Fu (ev f y) with ⟨q1,q2⟩ | ⟨q1,q2⟩ | ⟨q1,q2⟩
     ·rw [lx,ly,p1,q1]; refine .inr ⟨by simp; omega,by decide,by decide,by decide,by decide⟩
     ·rw [lx,ly,p1,q1]; refine .inr ⟨by simp; omega,by decide,by decide,by decide,by decide⟩
     ·rw [p1,q1]; have hsm:=rG (p:=f) (x:=x) (y:=y) (by rw [p1,q1]) (by rw [p1]; decide);exact .inl ⟨rfl,hsm,hw hsm⟩
theorem Qy7 (z:Rat):∃ n:Nat,z<=(n:Rat):=by
 refine ⟨z.ceil.toNat,?_⟩;have h1:z<=(z.ceil:Rat):=Rat.le_ceil;have h2:(z.ceil:Rat)<=((z.ceil.toNat:Int):Rat):=Jc.2 (Int.self_le_toNat _);exact Zk h1 h2
theorem ZG {z e:Rat} (he:0<e):∃ n:Nat,z<=(n:Rat)*e:=by
 obtain ⟨n,hn⟩:=Qy7 (z / e);exact ⟨n,by have:=Zc hn (Qr he); rwa [Hb he] at this⟩
theorem UP {R x y t:Rat} (hx:Fh x<=R) (hy:Fh y<=R) (h1:x<=t) (h2:t<=y):Fh t<=R:=by
 rw [P9] at *; constructor <;> grind
def oY (f w:Un) (L:Uo) (x y:Rat):Prop :=
 vv L y<=vv L x/\(vv L x=vv L y->Sm f x y/\Sm w x y)/\(vv L x=vv L y+1->Ph f x≠0/\Ph f y=-Ph f x)
theorem eS {f w:Un} {L:Uo} {x y:Rat} (h:Qcw f w L x y):oY f w L x y:=by
 rcases h with ⟨h1,h2,h3⟩ | ⟨h1,h2,h3,_⟩
 ·exact ⟨by omega,λ_=>⟨h2,h3⟩,λh=>by omega⟩
 ·exact ⟨by omega,λh=>by omega,λ_=>⟨h2,h3⟩⟩
theorem rH {w:Un} {x y z:Rat} (h1:Sm w x y) (h2:Sm w y z):Sm w x z:=⟨by rw [h2.s,h1.l],by rw [h2.l,h1.l],h1.n⟩
theorem mF {f w:Un} {L:Uo} {x y z:Rat} (h:oY f w L x y) (h':oY f w L y z):oY f w L x z:=by
 obtain ⟨a1,a2,a3⟩:=h;obtain ⟨b1,b2,b3⟩:=h';refine ⟨by omega,λh=>?_,λh=>?_⟩
 ·obtain ⟨s1,s2⟩:=a2 (by omega);obtain ⟨s3,s4⟩:=b2 (by omega);exact ⟨rH s1 s3,rH s2 s4⟩
 ·by_cases e:vv L x=vv L y
  ·obtain ⟨s1,_⟩:=a2 e;obtain ⟨s3,s4⟩:=b3 (by omega);exact ⟨s1.n,by rw [s4,s1.l]⟩
  ·obtain ⟨s3,s4⟩:=a3 (by omega);obtain ⟨s1,_⟩:=b2 (by omega);exact ⟨s3,by rw [s1.l,s4]⟩
theorem Qt0 {R:Rat} (hR:0<=R) {f w u:Un} {L:Uo} (hc:GH f L) (h:∀ t,ev f t=ev w t*ev u t) {x y:Rat} (hx:Fh x<=R) (hy:Fh y<=R) (hxy:x<y):oY f w L x y:=by
 obtain ⟨e,ep,hl⟩:=loc hR hc h;have key:∀ n:Nat,∀ x,Fh x<=R->x<y->y-x<=(n:Rat)*e->oY f w L x y:=by
  intro n
  induction n with
  | zero =>
   intro x hx hxy h; exfalso; have:((0:Nat):Rat)*e=0:=by simp
   grind
  |
   succ n ih =>
   intro x hx hxy hn;rcases Gb (y-x) e with h1 | h1
   ·exact eS (hl x y hx hy hxy h1)
   ·have hm:Fh (x+e)<=R:=UP hx hy (by clear hl ih; grind) (by clear hl ih; grind);have hn':(((n+1:Nat):Rat))=(n:Rat)+1:=by push_cast; rfl
    refine mF (eS (hl x (x+e) hx hm (by clear hl ih; grind) (by clear hl ih; grind))) (ih (x+e) hm (by clear hl ih; grind) ?_);rw [hn'] at hn;clear hl ih; grind
 obtain ⟨n,hn⟩:=ZG (z:=y-x) ep;exact key n x hx hxy hn
theorem zJ (x y:Rat):∃ R:Rat,0<=R/\Fh x<=R/\Fh y<=R:=by
 refine ⟨Fh x+Fh y,?_,?_,?_⟩ <;> (have:=Hq x; have:=Hq y; grind)
theorem Ry (t:Rat):ev [1] t=1:=by simp only [ev]; grind
theorem Aq {f:Un} {L:Uo} (hc:GH f L) {x y:Rat} (hxy:x<y):vv L y<=vv L x:=by
 obtain ⟨R,hR,hx,hy⟩:=zJ x y;exact (Qt0 hR hc (w:=f) (u:=[1]) (λt=>by rw [Ry]; grind) hx hy hxy).1
theorem VM {f w u:Un} {L:Uo} (hc:GH f L) (h:∀ t,ev f t=ev w t*ev u t) {x y:Rat} (hxy:x<y) (he:vv L x=vv L y):Sm w x y:=by
 obtain ⟨R,hR,hx,hy⟩:=zJ x y;exact ((Qt0 hR hc h hx hy hxy).2.1 he).2
theorem vX {f:Un} {L:Uo} (hc:GH f L) {x y:Rat} (hxy:x<y) (he:vv L x=vv L y):Sm f x y :=
 VM hc (w:=f) (u:=[1]) (λt=>by rw [Ry]; grind) hxy he
theorem vZ {f:Un} {L:Uo} (hc:GH f L) {x y:Rat} (hxy:x<y) (he:vv L x=vv L y+1):Ph f x≠0/\Ph f y=-Ph f x:=by
 obtain ⟨R,hR,hx,hy⟩:=zJ x y;exact (Qt0 hR hc (w:=f) (u:=[1]) (λt=>by rw [Ry]; grind) hx hy hxy).2.2 he
theorem Qj8 {f:Un} {L:Uo} (hc:GH f L) (R:Rat) (hR:0<=R):∃ e:Rat,0<e/\∀ x y,Fh x<=R->Fh y<=R->x<y->y-x<=e->vv L x<=vv L y+1:=by
 obtain ⟨e,ep,hl⟩:=loc hR hc (w:=f) (u:=[1]) (λt=>by rw [Ry]; grind);refine ⟨e,ep,λx y hx hy hxy he=>?_⟩;rcases hl x y hx hy hxy he with ⟨h,_⟩ | ⟨h,_⟩ <;> omega
theorem UQ {p:Un} {x:Rat} (h:Fc (ev p x)≠0):∃ e:Rat,0<e/\∀ y,Fh (y-x)<=e->Fc (ev p y)=Fc (ev p x):=by
 have hd:=Cj (x:=ev p x) λh0=>h (Gj.2 h0)
 have hR:0<=Fh x+1:=by have:=Hq x; grind
 obtain ⟨e,e1,e2,e3⟩:=Hf (Mv hR p) hd;refine ⟨e,e1,λy hy=>(Pn Qp (P5 (x:=x) (by grind) ?_ hR hy e3)).1⟩;have:=Se (y-x) x;have e:y-x+x=y:=by grind
 rw [e] at this; grind
theorem Qrc {R M:Rat} {p:Un} (hM:M=ddB R p) (hR:0<=R) {h:Rat} (hh:0<h):∀ (n:Nat) (x:Rat),Fh x<=R->Fh (x+(n:Rat)*h)<=R->(∀ t,x<=t->t<=x+(n:Rat)*h->0<=dv p t)->ev p x-(n:Rat)*(h*h*M)<=ev p (x+(n:Rat)*h)
 |
  0,x,_,_,_=>by
  have e1:x+((0:Nat):Rat)*h=x:=by rw [show ((0:Nat):Rat)=0 from rfl]; grind
  have e2:((0:Nat):Rat)*(h*h*M)=0:=by simp
  rw [e1,e2]; grind
 |
  n+1,x,hx,hy,hd=>by
  have hn':(((n+1:Nat):Rat))=(n:Rat)+1:=by push_cast; rfl
  rw [hn'] at hy hd ⊢;have hn0:(0:Rat)<=(n:Rat):=Xh;have hnh:=Nw hn0 (Qr hh);have e1:x+((n:Rat)+1)*h=(x+h)+(n:Rat)*h:=by grind
  rw [e1] at hy hd ⊢;have hxh:Fh (x+h)<=R:=UP hx hy (by clear hd; grind) (by clear hd; grind);have ih:=Qrc hM hR hh n (x+h) hxh hy λt h1 h2=>hd t (by clear hd; grind) h2
  have h0:=hd x Qp (by clear hd; grind);have h1:=Qqy p (x+h) x;have h2:=Qft hxh hx p;rw [<-hM,P9] at h2;have h3:=Z1 h2.1 (Nw (Qr hh) (Qr hh));have h4:=Nw (Qr hh) h0;have e2:x+h-x=h:=by grind
  rw [e2] at h1;clear hd hx hy hxh;grind
theorem Qxs {p:Un} {x y:Rat} (hxy:x<y) (hd:∀ t,x<=t->t<=y->0<=dv p t):ev p x<=ev p y:=by
 obtain ⟨R,hR,hx,hy⟩:=zJ x y;rcases Gb (ev p x) (ev p y) with h | h
 ·exact h
 ·exfalso;obtain ⟨M,hM⟩:=nmE (ddB R p);have hM0:=BS hR p;rw [<-hM] at hM0;obtain ⟨e,ep,_,he⟩:=Hf (b:=(y-x)*M) (d:=ev p x-ev p y) (Nw (by grind) hM0) (by grind);obtain ⟨n,hn⟩:=ZG (z:=y-x) ep;have hn0:0<(n:Rat):=by
   rcases Gb (n:Rat) 0 with h' | h'
   ·have:=Zc h' (Qr ep); clear hd; grind
   ·exact h'
  have hh:0<(y-x) / n:=E5 (by grind) hn0;have e1:(n:Rat)*((y-x) / n)=y-x:=by rw [W4]; exact Hb hn0
  have e2:x+(n:Rat)*((y-x) / n)=y:=by rw [e1]; grind
  have h1:=Qrc hM hR hh n x hx (by rw [e2]; exact hy) (by rw [e2]; exact hd);rw [e2] at h1;have h2:(y-x) / n<=e:=by
   rcases Gb ((y-x) / n) e with h' | h'
   ·exact h'
   ·have:=Rat.mul_lt_mul_of_pos_left h' hn0; clear hd; grind
  have h3:(n:Rat)*((y-x) / n*((y-x) / n)*M)=((y-x) / n)*((y-x)*M):=by
   have:(n:Rat)*((y-x) / n*((y-x) / n)*M)=((n:Rat)*((y-x) / n))*(((y-x) / n)*M):=by grind
   rw [this,e1]; grind
  have h4:=Zc h2 (Nw (x:=y-x) (y:=M) (by grind) hM0);rw [h3] at h1;clear hd; grind
theorem Qo2 {p:Un} {x y:Rat} (hxy:x<y) (hd:∀ t,x<=t->t<=y->0<dv p t):ev p x<ev p y:=by
 have hx:=hd x Qp (by grind);have hR:0<=Fh x+1:=by have:=Hq x; grind
 obtain ⟨e,e1,e2,e3⟩:=Hf (BS hR p) hx;obtain ⟨f,f1,f2,f3⟩:=min2 (a:=e) (b:=y-x) e1 (by grind);have hq:Fh (x+f)<=Fh x+1:=by
  have:=Se x f; have:Fh f=f:=by unfold Fh; split <;> grind
  clear hd; grind
 have h1:=DV (p:=p) (x:=x) (y:=x+f) (R:=Fh x+1) (e:=e) (d:=dv p x) (by clear hd; grind) hq hR (by grind) (by grind) (by unfold Fh; split <;> clear hd <;> grind) e3;rw [Hu.2 hx,Hu] at h1;rcases Classical.em (x+f=y) with e | e
 ·rw [<-e]; clear hd; grind
 ·have:=Qxs (p:=p) (x:=x+f) (y:=y) (by clear hd; grind) λt h1 h2=>Qr (hd t (by clear hd; grind) h2)
  clear hd; grind
structure Cut (c:Rat->Int):Prop where
 val:∀ q,c q=1\/c q=0\/c q=-1
 mono:∀ q r,q<r->c q≠1->c r=-1
 up:∀ q,c q=1->∃ r,q<r/\c r=1
 dn:∀ q,c q=-1->∃ r,r<q/\c r=-1
 lo:∃ q,c q=1
 hi:∃ q,c q=-1
theorem Cut.mono' {c:Rat->Int} (h:Cut c) {q r:Rat} (hqr:q<r) (hr:c r≠-1):c q=1:=by
 rcases Classical.em (c q=1) with e | e
 ·exact e
 ·exact absurd (h.mono q r hqr e) hr
theorem Cut.lt {c:Rat->Int} (h:Cut c) {q r:Rat} (hq:c q=1) (hr:c r=-1):q<r:=by
 rcases Gb r q with e | e
 ·rcases Classical.em (r=q) with e' | e'
  ·rw [e'] at hr; omega
  ·have:=h.mono r q (by grind) (by omega); omega
 ·exact e
theorem Cut.near {c:Rat->Int} (h:Cut c) {e:Rat} (he:0<e):∃ x y,c x=1/\c y=-1/\y-x<=e:=by
 obtain ⟨a,ha⟩:=h.lo;obtain ⟨b,hb⟩:=h.hi;have he2:0<e / 2:=E5 he (by decide);have h2:e / 2*2=e:=Hb (by decide);have key:∀ (n:Nat) (a:Rat),c a=1->b-a<=(n:Rat)*(e / 2)->∃ x y,c x=1/\c y=-1/\y-x<=e:=by
  intro n
  induction n with
  |
   zero =>
   intro a ha hn;have:=h.lt ha hb;rw [show ((0:Nat):Rat)=0 from rfl] at hn;exfalso; grind
  |
   succ n ih =>
   intro a ha hn;have hn':(((n+1:Nat):Rat))=(n:Rat)+1:=by push_cast; rfl
   rw [hn'] at hn;rcases h.val (a+e / 2) with h1 | h1 | h1
   ·exact ih _ h1 (by grind)
   ·exact ⟨a,a+e,ha,h.mono (a+e / 2) _ (by grind) (by omega),by grind⟩
   ·exact ⟨a,a+e / 2,ha,h1,by grind⟩
 obtain ⟨n,hn⟩:=ZG (z:=b-a) he2;exact key n a ha hn
def Is (p:Un) (c:Rat->Int):Prop:=∀ d:Rat,0<d->∃ x y,c x=1/\c y=-1/\∀ q,x<=q->q<=y->Fh (ev p q)<d
def NZ (p:Un) (c:Rat->Int) (s:Int):Prop:=∃ d:Rat,0<d/\∃ x y,c x=1/\c y=-1/\∀ q,x<=q->q<=y->Fc (ev p q)=s/\d<=Fh (ev p q)
def Nr (c:Rat->Int) (P:Rat->Prop):Prop:=∃ x y,c x=1/\c y=-1/\∀ q,x<=q->q<=y->P q
theorem mL {c:Rat->Int} {P Q:Rat->Prop} (h1:Nr c P) (h2:Nr c Q):Nr c λq=>P q/\Q q:=by
 obtain ⟨x,y,a1,a2,a3⟩:=h1;obtain ⟨x',y',b1,b2,b3⟩:=h2;refine ⟨if x<=x' then x' else x,if y<=y' then y else y',by split <;> assumption,by split <;> assumption,λq q1 q2=>⟨a3 q ?_ ?_,b3 q ?_ ?_⟩⟩ <;> clear a3 b3 <;> grind
theorem MU {c:Rat->Int} {P Q:Rat->Prop} (h1:Nr c P) (h:∀ q,P q->Q q):Nr c Q:=by
 obtain ⟨x,y,a1,a2,a3⟩:=h1;exact ⟨x,y,a1,a2,λq q1 q2=>h q (a3 q q1 q2)⟩
theorem fV {c:Rat->Int} (hc:Cut c) {P:Rat->Prop} (h1:Nr c P):∃ q,P q/\c q=1:=by
 obtain ⟨x,y,a1,a2,a3⟩:=h1;exact ⟨x,a3 x Qp (Qr (hc.lt a1 a2)),a1⟩
theorem Qhx {c:Rat->Int} (hc:Cut c) {e:Rat} (he:0<e) {P:Rat->Prop} (h1:Nr c P):∃ x y,c x=1/\c y=-1/\y-x<=e/\x<y/\∀ q,x<=q->q<=y->P q:=by
 obtain ⟨x,y,a1,a2,a3⟩:=h1;obtain ⟨x',y',b1,b2,b3⟩:=hc.near he;refine ⟨if x<=x' then x' else x,if y<=y' then y else y',by split <;> assumption,by split <;> assumption,by clear a3; grind,hc.lt (by split <;> assumption) (by split <;> assumption),λq q1 q2=>a3 q ?_ ?_⟩ <;> clear a3 <;> grind
theorem Qra {c:Rat->Int} (hc:Cut c):∃ R:Rat,0<=R/\Nr c λq=>Fh q<=R:=by
 obtain ⟨x,y,a1,a2,_⟩:=hc.near (e:=1) (by decide);obtain ⟨R,hR,h1,h2⟩:=zJ x y;exact ⟨R,hR,x,y,a1,a2,λq q1 q2=>UP h1 h2 q1 q2⟩
theorem JF {c:Rat->Int} (hc:Cut c) (p:Un):Is p c\/∃ s,s≠0/\NZ p c s:=by
 rcases Classical.em (Is p c) with h | h
 ·exact .inl h
 ·refine .inr ?_;obtain ⟨d,hd0⟩:=Classical.not_forall.1 h;obtain ⟨dp,hd⟩:=Classical.not_imp.1 hd0;have hd:∀ x y,c x=1->c y=-1->∃ q,x<=q/\q<=y/\d<=Fh (ev p q):=λx y hx hy=>by
   rcases Classical.em (∃ q,x<=q/\q<=y/\d<=Fh (ev p q)) with h' | h'
   ·exact h'
   ·refine absurd ⟨x,y,hx,hy,λq h1 h2=>?_⟩ hd;rcases Gb d (Fh (ev p q)) with h3 | h3
    ·exact absurd ⟨q,h1,h2,h3⟩ h'
    ·exact h3
  obtain ⟨R,hR,hn⟩:=Qra hc;have hd2:0<d / 2:=E5 dp (by decide);have h2:d / 2*2=d:=Hb (by decide);obtain ⟨e,e1,_,e3⟩:=Hf (Mv hR p) hd2;obtain ⟨x,y,hx,hy,hxy,_,hq⟩:=Qhx hc e1 hn;obtain ⟨r,r1,r2,r3⟩:=hd x y hx hy;have key:∀ q,x<=q->q<=y->Fh (ev p q-ev p r)<d / 2:=λq q1 q2 =>
   P5 (hq r r1 r2) (hq q q1 q2) hR (by rw [P9]; clear hq hd; constructor <;> grind) e3
  refine ⟨Fc (ev p r),λh0=>?_,d / 2,hd2,x,y,hx,hy,λq q1 q2=>⟨(Pn (d:=d) r3 ?_).1,?_⟩⟩
  ·rw [Gj.1 h0,Re] at r3; clear hq hd key; grind
  ·have:=key q q1 q2; clear hq hd key; grind
  ·have h3:=key q q1 q2;have h4:=Se (ev p r-ev p q) (ev p q);rw [show ev p r-ev p q+ev p q=ev p r from by clear hq hd key; grind,iQ] at h4;clear hq hd key; grind
theorem Qvo {c:Rat->Int} (hc:Cut c) {p:Un} {s:Int} (h1:Is p c) (h2:NZ p c s):False:=by
 obtain ⟨d,dp,h2⟩:=h2;obtain ⟨q,⟨a,b⟩,_⟩:=fV hc (mL (h1 d dp) h2);exact absurd b.2 (Js.2 a)
theorem Pw {c:Rat->Int} (hc:Cut c) {f p q:Un} (hf:∀ t,ev f t=ev p t*ev q t) (h:Is p c):Is f c:=by
 intro d dp;obtain ⟨R,hR,hn⟩:=Qra hc;obtain ⟨e,e1,_,e3⟩:=Hf (ZL hR q) dp;refine MU (mL hn (h e e1)) λt ⟨h1,h2⟩=>?_
 rw [hf];have:=Ha (Qr h2) (TL h1 q);exact Js.1 λh=>absurd (Zk h this) (Js.2 e3)
theorem MO {c:Rat->Int} {f p q:Un} (hf:∀ t,ev f t=ev p t+ev q t) (h:Is p c) (h':Is q c):Is f c:=by
 intro d dp;have hd2:0<d / 2:=E5 dp (by decide);have h2:d / 2*2=d:=Hb (by decide);refine MU (mL (h _ hd2) (h' _ hd2)) λt ⟨h1,h2⟩=>?_
 rw [hf];have:=Se (ev p t) (ev q t);grind
def RS (p:Un) (c:Rat->Int) (s:Int):Prop:=∃ y,c y=-1/\∀ q,c q=-1->q<=y->Fc (ev p q)=s
def LS (p:Un) (c:Rat->Int) (s:Int):Prop:=∃ x,c x=1/\∀ q,c q=1->x<=q->Fc (ev p q)=s
theorem qT {c:Rat->Int} (hc:Cut c) {p:Un} {s:Int} (h:NZ p c s):RS p c s:=by
 obtain ⟨d,dp,x,y,a1,a2,a3⟩:=h;exact ⟨y,a2,λq h1 h2=>(a3 q (Qr (hc.lt a1 h1)) h2).1⟩
theorem eD {c:Rat->Int} (hc:Cut c) {p:Un} {s:Int} (h:NZ p c s):LS p c s:=by
 obtain ⟨d,dp,x,y,a1,a2,a3⟩:=h;exact ⟨x,a1,λq h1 h2=>(a3 q h2 (Qr (hc.lt h1 a2))).1⟩
theorem FP {c:Rat->Int} {p:Un} {s s':Int} (h:RS p c s) (h':RS p c s'):s=s':=by
 obtain ⟨y,a1,a2⟩:=h;obtain ⟨y',b1,b2⟩:=h';rcases Gb y y' with e | e
 ·rw [<-a2 y a1 Qp,<-b2 y a1 e]
 ·rw [<-a2 y' b1 (Qr e),<-b2 y' b1 Qp]
theorem Qrf {c:Rat->Int} (hc:Cut c) {p:Un} (hv:Is p c) {y:Rat} (hy:c y=-1) (h:∀ q,c q=-1->q<=y->0<dv p q) (q:Rat) (hq:c q=-1) (hqy:q<=y):0<ev p q:=by
 rcases Gb (ev p q) 0 with h0 | h0
 ·exfalso;obtain ⟨r,r1,r2⟩:=hc.dn q hq;have hr:ev p r<ev p q:=Qo2 r1 λt t1 t2=>h t (by
   rcases Classical.em (r=t) with e | e
   ·rw [<-e]; exact r2
   ·exact hc.mono r t (by clear h; grind) (by omega)) (Zk t2 hqy)
  obtain ⟨a,b,ha,hb,hab⟩:=hv (-ev p r) (by clear h; grind);obtain ⟨m,hm1,hm2,hm3⟩:∃ m,c m=-1/\m<=b/\m<=r:=by
   rcases Gb b r with e | e
   ·exact ⟨b,hb,Qp,e⟩
   ·exact ⟨r,r2,Qr e,Qp⟩
  have h1:=hab m (Qr (hc.lt ha hm1)) hm2;have h2:ev p m<=ev p r:=by
   rcases Classical.em (m=r) with e | e
   ·rw [e]; exact Qp
   ·exact Qr (Qo2 (by clear h hab; grind) λt t1 t2=>h t (by
     rcases Classical.em (m=t) with e | e
     ·rw [<-e]; exact hm1
     ·exact hc.mono m t (by clear h hab; grind) (by omega)) (by clear h hab; grind))
  rw [yV] at h1;clear h hab; grind
 ·exact h0
theorem yG {c:Rat->Int} (hc:Cut c) {p:Un} {s:Int} (hv:Is p c) (h:RS (Nz p) c s) (hs:s≠0):RS p c s:=by
 obtain ⟨y,hy,h⟩:=h;have hsv:s=1\/s=-1:=by
  have:=h y hy Qp;rcases Fu (ev (Nz p) y) with ⟨e,_⟩ | ⟨e,_⟩ | ⟨e,_⟩ <;> omega
 rcases hsv with rfl | rfl
 ·refine ⟨y,hy,λq h1 h2=>Hu.2 (Qrf hc hv hy (λq h1 h2=>?_) q h1 h2)⟩;rw [<-Tk]; exact Hu.1 (h q h1 h2)
 ·refine ⟨y,hy,λq h1 h2=>S7.2 ?_⟩;have:=Qrf hc (p:=Dt (-1) p) (y:=y) (λd dp=>MU (hv d dp) λq hq=>by rw [Gn,show -1*ev p q=-ev p q by grind,Ef]; exact hq) hy (λq h1 h2=>by
   rw [HW,<-Tk];have:=S7.1 (h q h1 h2); grind) q h1 h2
  rw [Gn] at this; grind
theorem Qq5 {c:Rat->Int} (hc:Cut c) {p:Un} (hv:Is p c) {x:Rat} (hx:c x=1) (h:∀ q,c q=1->x<=q->0<dv p q) (q:Rat) (hq:c q=1) (hxq:x<=q):ev p q<0:=by
 rcases Gb 0 (ev p q) with h0 | h0
 ·exfalso;obtain ⟨r,r1,r2⟩:=hc.up q hq;have hr:ev p q<ev p r:=Qo2 r1 λt t1 t2=>h t (by
   rcases Classical.em (t=r) with e | e
   ·rw [e]; exact r2
   ·exact hc.mono' (q:=t) (r:=r) (by clear h; grind) (by omega)) (Zk hxq t1)
  obtain ⟨a,b,ha,hb,hab⟩:=hv (ev p r) (by clear h; grind);obtain ⟨m,hm1,hm2,hm3⟩:∃ m,c m=1/\a<=m/\r<=m:=by
   rcases Gb a r with e | e
   ·exact ⟨r,r2,e,Qp⟩
   ·exact ⟨a,ha,Qp,Qr e⟩
  have h1:=hab m hm2 (Qr (hc.lt hm1 hb));have h2:ev p r<=ev p m:=by
   rcases Classical.em (r=m) with e | e
   ·rw [e]; exact Qp
   ·exact Qr (Qo2 (by clear h hab; grind) λt t1 t2=>h t (by
     rcases Classical.em (t=m) with e | e
     ·rw [e]; exact hm1
     ·exact hc.mono' (q:=t) (r:=m) (by clear h hab; grind) (by omega)) (by clear h hab; grind))
  rw [yV] at h1;clear h hab; grind
 ·exact h0
theorem Qhj {c:Rat->Int} (hc:Cut c) {p:Un} {s:Int} (hv:Is p c) (h:LS (Nz p) c s) (hs:s≠0):LS p c (-s):=by
 obtain ⟨x,hx,h⟩:=h;have hsv:s=1\/s=-1:=by
  have:=h x hx Qp;rcases Fu (ev (Nz p) x) with ⟨e,_⟩ | ⟨e,_⟩ | ⟨e,_⟩ <;> omega
 rcases hsv with rfl | rfl
 ·refine ⟨x,hx,λq h1 h2=>S7.2 (Qq5 hc hv hx (λq h1 h2=>?_) q h1 h2)⟩;rw [<-Tk]; exact Hu.1 (h q h1 h2)
 ·refine ⟨x,hx,λq h1 h2=>Hu.2 ?_⟩;have:=Qq5 hc (p:=Dt (-1) p) (x:=x) (λd dp=>MU (hv d dp) λq hq=>by rw [Gn,show -1*ev p q=-ev p q by grind,Ef]; exact hq) hx (λq h1 h2=>by
   rw [HW,<-Tk];have:=S7.1 (h q h1 h2); grind) q h1 h2
  rw [Gn] at this; grind
theorem Qo8 {c:Rat->Int} (hc:Cut c) {f g:Un} {l:Uo} (h:SCl f g l):Is f c->Is g c->False:=by
 induction h with
 |
  @base f g k hk hg =>
  intro _ hv;obtain ⟨q,hq,_⟩:=fV hc (hv (Fh k) (Cj hk));rw [hg] at hq; grind
 |
  @step f g h l a b q ha hb he hl ih =>
  intro hf hg;refine ih hg ?_;have h1:Is (G5 q g) c:=Pw hc (p:=g) (q:=q) (λt=>by rw [Ff]; grind) hg;have h2:Is (Dt (-a) f) c:=Pw hc (p:=f) (q:=[-a]) (λt=>by rw [Gn]; simp only [ev]; grind) hf;have h3:Is (Sf (G5 q g) (Dt (-a) f)) c:=MO (λt=>Gy t _ _) h1 h2;refine Pw hc (p:=Sf (G5 q g) (Dt (-a) f)) (q:=[1 / b]) (λt=>?_) h3;have:=he t;rw [Gy,Ff,Gn];simp only [ev];have hbb:1 / b*b=1:=Hb hb;have:ev q t*ev g t+-a*ev f t=b*ev h t:=by rw [show -a*ev f t=-(a*ev f t) by grind,he t]; grind
  rw [this];have:b*ev h t*(1 / b+t*0)=ev h t*(1 / b*b):=by grind
  rw [this,hbb]; grind
theorem zZ {c:Rat->Int} (hc:Cut c) {f g:Un} {k:Rat} (h:∀ t,ev g t=k*ev f t) (hv:Is f c):Is g c :=
 Pw hc (p:=f) (q:=[k]) (λt=>by rw [h]; simp only [ev]; grind) hv
theorem Qpi {c:Rat->Int} (hc:Cut c) {f:Un} {L:Uo} (h:GH f L) (hv:Is f c):∃ s,s≠0/\NZ (Nz f) c s:=by
 rcases JF hc (Nz f) with h1 | h1
 ·exfalso;rcases h with ⟨k,hk,hf,_⟩ | ⟨g,l,k,hk,hg,h,_⟩
  ·obtain ⟨q,hq,_⟩:=fV hc (hv (Fh k) (Cj hk));rw [hf] at hq; grind
  ·exact Qo8 hc h hv (zZ hc (λt=>by rw [hg,Tk]) h1)
 ·exact h1
theorem lZ {c:Rat->Int} (hc:Cut c) {f w u:Un} {L:Uo} (h:GH f L) (hf:∀ t,ev f t=ev w t*ev u t) (hv:Is w c):∃ s,s≠0/\NZ (Nz w) c s:=by
 rcases JF hc (Nz w) with h1 | h1
 ·exfalso;obtain ⟨s,_,hs⟩:=Qpi hc h (Pw hc hf hv);refine Qvo hc ?_ hs;have a1:Is (G5 (Nz w) u) c:=Pw hc (λt=>Ff t _ _) h1;have a2:Is (G5 w (Nz u)) c:=Pw hc (λt=>Ff t _ _) hv;refine MO (λt=>?_) a1 a2;rw [Tk,QY hf,Ff,Ff,Tk,Tk]
 ·exact h1
theorem Qfq {c:Rat->Int} (hc:Cut c) {q:Rat} (h:c q=0) {x y:Rat} (hx:c x=1) (hy:c y=-1):x<=q/\q<=y:=by
 constructor
 ·rcases Gb x q with e | e
  ·exact e
  ·have:=hc.mono q x e (by omega); omega
 ·rcases Gb q y with e | e
  ·exact e
  ·have:=hc.mono y q e (by omega); omega
theorem TU {c:Rat->Int} (hc:Cut c) {p:Un} {q:Rat} (h:c q=0) (hv:Is p c):ev p q=0:=by
 rcases Classical.em (ev p q=0) with e | e
 ·exact e
 ·obtain ⟨x,y,hx,hy,hq⟩:=hv _ (Cj e);obtain ⟨h1,h2⟩:=Qfq hc h hx hy;have:=hq q h1 h2; grind
theorem fK {c:Rat->Int} (hc:Cut c) {p:Un} {q:Rat} {s:Int} (h:c q=0) (hv:NZ p c s):Fc (ev p q)=s:=by
 obtain ⟨d,dp,x,y,hx,hy,hq⟩:=hv;obtain ⟨h1,h2⟩:=Qfq hc h hx hy;exact (hq q h1 h2).1
theorem pX {c:Rat->Int} (hc:Cut c) {y z:Rat} (hy:c y=-1) (hz:c z=-1):∃ q,c q=-1/\q<y/\q<z:=by
 obtain ⟨a,a1,a2⟩:=hc.dn y hy;obtain ⟨b,b1,b2⟩:=hc.dn z hz;rcases Gb a b with e | e
 ·exact ⟨a,a2,a1,by grind⟩
 ·exact ⟨b,b2,by grind,b1⟩
theorem BH {c:Rat->Int} (hc:Cut c) {y z:Rat} (hy:c y=1) (hz:c z=1):∃ q,c q=1/\y<q/\z<q:=by
 obtain ⟨a,a1,a2⟩:=hc.up y hy;obtain ⟨b,b1,b2⟩:=hc.up z hz;rcases Gb a b with e | e
 ·exact ⟨b,b2,by grind,b1⟩
 ·exact ⟨a,a2,a1,by grind⟩
theorem Qhw {f w u:Un} {L:Uo} (h:GH f L) (hf:∀ t,ev f t=ev w t*ev u t) {x y:Rat} (hv:vv L x=vv L y) {c:Rat->Int} (hc:Cut c) (hx:c x=1) (hy:c y≠1):¬Is w c:=λhw=>by
 have hxy:x<y:=by
  rcases Gb y x with e | e
  ·rcases Classical.em (y=x) with e' | e'
   ·rw [e'] at hy; exact absurd hx hy
   ·have:=hc.mono y x (by grind) hy; omega
  ·exact e
 have hwv:=VM h hf hxy hv;rcases hc.val y with e | e | e
 ·exact hy e
 ·have:=TU hc e hw;have:=hwv.s;rw [Gj.2 (by assumption)] at this;exact hwv.n this.symm
 ·obtain ⟨s,hs,hd⟩:=lZ hc h hf hw;obtain ⟨a,ha,hal⟩:=Qhj hc hw (eD hc hd) hs;obtain ⟨b,hb,hbr⟩:=yG hc hw (qT hc hd) hs;obtain ⟨q,q1,q2,q3⟩:=BH hc hx ha;obtain ⟨r,r1,r2,r3⟩:=pX hc hb e;have e1:=hal q q1 (Qr q3);have e2:=hbr r r1 (Qr r2);have hqr:=hc.lt q1 r1;have v1:vv L q<=vv L x:=Aq h q2;have v2:vv L y<=vv L r:=Aq h r3;have v3:vv L r<=vv L q:=Aq h hqr;have s1:=(VM h hf q2 (by omega)).s;have s2:=(VM h hf (x:=x) (y:=r) (by grind) (by omega)).s;omega
theorem yE {f:Un} {L:Uo} (h:GH f L) {x y:Rat} (hxy:x<y) (hv:vv L x≠vv L y) {d:Rat} (dp:0<d):∃ q,x<=q/\q<=y/\Fh (ev f q)<d:=by
 obtain ⟨R,hR,hx,hy⟩:=zJ x y;obtain ⟨e1,e1p,hl⟩:=loc hR h (w:=f) (u:=[1]) (λt=>by rw [Ry]; grind);obtain ⟨e2,e2p,_,e2b⟩:=Hf (Mv hR f) dp;obtain ⟨e,ep,h1,h2⟩:=min2 e1p e2p;have key:∀ n:Nat,∀ x,Fh x<=R->x<y->vv L x≠vv L y->y-x<=(n:Rat)*e->∃ q,x<=q/\q<=y/\Fh (ev f q)<d:=by
  intro n
  induction n with
  | zero=>intro x hx hxy _ hn; rw [show ((0:Nat):Rat)=0 from rfl] at hn; exfalso; clear hl; grind
  |
   succ n ih =>
   intro x hx hxy hv hn;have hstep:∀ z,Fh z<=R->x<z->z-x<=e->vv L x≠vv L z->Fh (ev f z)<d:=λz hz hxz hze hv=>by
    rcases hl x z hx hz hxz (Zk hze h1) with ⟨p,_⟩ | ⟨_,p1,p2,p3,p4⟩
    ·exact absurd p hv
    ·have hd:=P5 (p:=f) hx hz hR (e:=e2) (d:=d) (by rw [P9]; clear hl ih; constructor <;> grind) e2b;rw [<-p3] at p1 p4;clear hl ih p2 p3;rw [yV] at *;rcases Fu (ev f x) with ⟨a,a'⟩ | ⟨a,a'⟩ | ⟨a,a'⟩ <;> rcases Fu (ev f z) with ⟨b,b'⟩ | ⟨b,b'⟩ | ⟨b,b'⟩ <;> rw [a,b] at p4 <;> first | (exfalso; revert p4; decide) | skip
     all_goals first | (constructor <;> grind) | (exfalso; omega)
   rcases Gb (y-x) e with h3 | h3
   ·exact ⟨y,Qr hxy,Qp,hstep y hy hxy h3 hv⟩
   ·have hm:Fh (x+e)<=R:=UP hx hy (by clear hl ih hstep; grind) (by clear hl ih hstep; grind);rcases Classical.em (vv L x=vv L (x+e)) with e0 | e0
    ·have hn':(((n+1:Nat):Rat))=(n:Rat)+1:=by push_cast; rfl
     rw [hn'] at hn;obtain ⟨q,q1,q2,q3⟩:=ih (x+e) hm (by clear hl ih hstep; grind) (by omega) (by clear hl ih hstep; grind);exact ⟨q,by clear hl ih hstep; grind,q2,q3⟩
    ·exact ⟨x+e,by clear hl ih hstep; grind,by clear hl ih hstep; grind,hstep (x+e) hm (by clear hl ih hstep; grind) (by clear hl ih hstep; grind) e0⟩
 obtain ⟨n,hn⟩:=ZG (z:=y-x) ep;exact key n x hx hxy hv hn
theorem Qxb {p:Un} {x:Rat} (h:Ph p x≠0):∃ e:Rat,0<e/\∀ y,x<y->y-x<=e->Fc (ev p y)=Ph p x:=by
 by_cases h0:Fc (ev p x)=0
 ·have hx:=Gj.1 h0;rw [mH h0] at h ⊢;have hR:0<=Fh x+1:=by have:=Hq x; grind
  obtain ⟨e,e1,e2,e3⟩:=Hf (BS hR p) (Cj (x:=dv p x) λh'=>h (Gj.2 h'));refine ⟨e,e1,λy h1 h2=>?_⟩;have hy:Fh y<=Fh x+1:=by
   have:=Se x (y-x);have e:x+(y-x)=y:=by grind
   have e':Fh (y-x)=y-x:=by unfold Fh; split <;> grind
   rw [e,e'] at this; grind
  have:=DV (p:=p) (by grind) hy hR h1 h2 Qp e3;rw [hx] at this;rw [<-this]; congr 1; grind
 ·rw [Ae h0] at h ⊢;obtain ⟨e,e1,e2⟩:=UQ h;exact ⟨e,e1,λy h1 h2=>e2 y (by rw [P9]; constructor <;> grind)⟩
def cq (P:Un) (lo hi q:Rat):Int:=if q<=lo then 1 else if hi<q then -1 else if Fc (ev P q)=0 then 0 else if Fc (ev P q)=Ph P lo then 1 else -1
structure Vt (P:List Rat) (L:List (List Rat)) (lo hi:Rat):Prop where
 s:GH P L
 l:lo<hi
 v:vv L lo=vv L hi+1
variable {P:Un} {L:Uo} {lo hi:Rat}
theorem Ez {q:Rat} (h:q<=lo):cq P lo hi q=1:=by unfold cq; rw [if_pos h]
theorem UZ {q:Rat} (h:lo<hi) (h':hi<q):cq P lo hi q=-1:=by unfold cq; rw [if_neg (by grind),if_pos h']
theorem Ig {q:Rat} (h1:lo<q) (h2:q<=hi):cq P lo hi q=if Fc (ev P q)=0 then 0 else if Fc (ev P q)=Ph P lo then 1 else -1:=by
 unfold cq; rw [if_neg (by grind),if_neg (by grind)]
theorem Vt.two (V:Vt P L lo hi) {q:Rat} (h1:lo<q) (h2:q<=hi):vv L q=vv L lo/\cq P lo hi q=1/\Fc (ev P q)=Ph P lo\/vv L q=vv L hi/\cq P lo hi q≠1/\Ph P q=-Ph P lo/\Ph P lo≠0:=by
 have a:=Aq V.s h1;have b:vv L hi<=vv L q:=by
  rcases Classical.em (q=hi) with e | e
  ·rw [e]; exact Ql _
  ·exact Aq V.s (by grind)
 have hv:=V.v;rcases (show vv L q=vv L lo\/vv L q=vv L hi by omega) with e | e
 ·have hs:=vX V.s h1 e.symm;refine .inl ⟨e,?_,hs.s⟩;rw [Ig h1 h2,hs.s,if_neg hs.n,if_pos rfl]
 ·obtain ⟨o1,o2⟩:=vZ V.s h1 (by omega);refine .inr ⟨e,?_,o2,o1⟩;rw [Ig h1 h2]
  split
  ·decide
  ·rename_i h0;rw [Ae h0] at o2;rw [if_neg (by omega)]; decide
theorem Vt.lowlo (V:Vt P L lo hi):Ph P lo≠0:=(vZ V.s V.l V.v).1
theorem Vt.eq_lo (V:Vt P L lo hi) {q:Rat} (h1:lo<q) (h2:q<=hi) (h:cq P lo hi q=1):vv L q=vv L lo:=by
 rcases V.two h1 h2 with ⟨e,_⟩ | ⟨_,e,_⟩
 ·exact e
 ·exact absurd h e
theorem Vt.eq_hi (V:Vt P L lo hi) {q:Rat} (h1:lo<q) (h2:q<=hi) (h:cq P lo hi q≠1):vv L q=vv L hi:=by
 rcases V.two h1 h2 with ⟨_,e,_⟩ | ⟨e,_⟩
 ·exact absurd e h
 ·exact e
theorem Vt.hi1 (V:Vt P L lo hi):cq P lo hi hi≠1:=λh=>by have:=V.eq_lo V.l Qp h; have:=V.v; omega
theorem Vt.cut (V:Vt P L lo hi):Cut (cq P lo hi) where
 val q:=by unfold cq; split <;> (try split) <;> (try split) <;> (try split) <;> simp
 mono q r h h1:=by
  have hq:lo<q:=by
   rcases Gb q lo with e | e
   ·exact absurd (Ez e) h1
   ·exact e
  rcases Gb r hi with e | e
  ·have e1:=V.eq_hi hq (by grind) h1;rcases V.two (q:=r) (by grind) e with ⟨e2,_⟩ | ⟨e2,_,e3,e4⟩
   ·have:=Aq V.s h; have:=V.v; omega
   ·have hs:=vX V.s h (by omega);rcases V.two hq (by grind) with ⟨e5,_⟩ | ⟨_,_,e5,_⟩
    ·have:=V.v; omega
    ·rw [Ig (by grind) e,hs.s,if_neg hs.n,e5,if_neg (by omega)]
  ·exact UZ V.l e
 up q h:=by
  rcases Gb q lo with e | e
  ·obtain ⟨d,dp,hd⟩:=Qxb V.lowlo;obtain ⟨f,fp,f1,f2⟩:=min2 (a:=d) (b:=hi-lo) dp (by have:=V.l; grind);have h1:lo<lo+f:=by clear hd; grind
   have h2:lo+f<=hi:=by clear hd; grind
   have:=hd (lo+f) h1 (by clear hd; grind);exact ⟨lo+f,by clear hd; grind,by rw [Ig h1 h2,this,if_neg V.lowlo,if_pos rfl]⟩
  ·have hh:q<=hi:=by
    rcases Gb q hi with e' | e'
    ·exact e'
    ·have:=UZ (P:=P) V.l e'; omega
   rcases V.two e hh with ⟨e1,_,e2⟩ | ⟨_,e1,_⟩
   ·have hn:q≠hi:=λh=>by rw [h] at e1; have:=V.v; omega
    obtain ⟨d,dp,hd⟩:=UQ (p:=P) (x:=q) (by rw [e2]; exact V.lowlo);obtain ⟨f,fp,f1,f2⟩:=min2 (a:=d) (b:=hi-q) dp (by clear hd; grind);have:=hd (q+f) (by rw [P9]; clear hd; constructor <;> grind);exact ⟨q+f,by clear hd; grind,by rw [Ig (by clear hd; grind) (by clear hd; grind),this,e2,if_neg V.lowlo,if_pos rfl]⟩
   ·exact absurd h e1
 dn q h:=by
  have hq:lo<q:=by
   rcases Gb q lo with e | e
   ·have:=Ez (P:=P) (hi:=hi) e; omega
   ·exact e
  rcases Gb q hi with e | e
  ·rw [Ig hq e] at h
   split at h
   ·cases h
   rename_i h0
   split at h
   ·cases h
   rename_i h1;obtain ⟨d,dp,hd⟩:=UQ h0;obtain ⟨f,fp,f1,f2⟩:=min2 (a:=d) (b:=(q-lo) / 2) dp (E5 (by clear hd; grind) (by decide));have h2:(q-lo) / 2*2=q-lo:=Hb (by decide);have:=hd (q-f) (by rw [P9]; clear hd; constructor <;> grind);exact ⟨q-f,by clear hd; grind,by rw [Ig (by clear hd; grind) (by clear hd; grind),this,if_neg h0,if_neg h1]⟩
  ·have h2:(q-hi) / 2*2=q-hi:=Hb (by decide);exact ⟨q-(q-hi) / 2,by grind,UZ V.l (by grind)⟩
 lo:=⟨lo,Ez Qp⟩
 hi:=⟨hi+1,UZ V.l (by grind)⟩
theorem Vt.van (V:Vt P L lo hi):Is P (cq P lo hi):=by
 have hc:=V.cut;rcases JF hc P with h | ⟨s,hs,h⟩
 ·exact h
 ·exfalso;have e1:s=Ph P lo:=by
   obtain ⟨x,hx,hx1⟩:=eD hc h;obtain ⟨q,q1,q2,q3⟩:=BH hc hx (Ez (P:=P) (hi:=hi) (Qp (a:=lo)));have hq:q<=hi:=by
    rcases Gb q hi with e | e
    ·exact e
    ·have:=UZ (P:=P) V.l e; omega
   rcases V.two q3 hq with ⟨_,_,e⟩ | ⟨_,e,_⟩
   ·rw [<-hx1 q q1 (Qr q2),e]
   ·exact absurd q1 e
  rcases hc.val hi with e | e | e
  ·exact V.hi1 e
  ·have h0:=fK hc e h;rw [Ig V.l Qp] at e
   split at e
   ·omega
   ·split at e <;> omega
  ·obtain ⟨y,hy,hy1⟩:=qT hc h;obtain ⟨q,q1,q2,q3⟩:=pX hc hy e;have hq:lo<q:=hc.lt (Ez (P:=P) (hi:=hi) (Qp (a:=lo))) q1;have:=hy1 q q1 (Qr q2);rw [Ig hq (Qr q3),this,if_neg hs,if_pos e1] at q1;cases q1
def pA (w:Un) (lo hi:Rat):Prop:=Fc (ev w hi)=0\/Fc (ev w hi)≠Ph w lo
theorem Vt.has (V:Vt P L lo hi) {w u:Un} (hf:∀ t,ev P t=ev w t*ev u t) {a b:Rat} (h1:lo<=a) (h2:a<b) (h3:b<=hi):pA w a b↔Is w (cq P lo hi)/\cq P lo hi a=1/\cq P lo hi b≠1:=by
 have hc:=V.cut;have smno:vv L a=vv L b->¬pA w a b:=λh hh=>by
  have:=VM V.s hf h2 h;rcases hh with e | e
  ·rw [this.s] at e; exact this.n e
  ·exact e this.s
 by_cases ha:cq P lo hi a=1
 ·by_cases hb:cq P lo hi b=1
  ·have e1:=V.eq_lo (by grind) h3 hb;have e2:vv L a=vv L lo:=by
    rcases Classical.em (lo=a) with e | e
    ·rw [e]
    ·exact V.eq_lo (by grind) (by grind) ha
   exact ⟨λh=>absurd h (smno (by omega)),λh=>absurd hb h.2.2⟩
  ·have e1:=V.eq_hi (by grind) h3 hb;have e2:vv L a=vv L lo:=by
    rcases Classical.em (lo=a) with e | e
    ·rw [e]
    ·exact V.eq_lo (by grind) (by grind) ha
   have left:∀ s,LS w (cq P lo hi) s->s=Ph w a:=λs hs=>by
    obtain ⟨x,hx,hx1⟩:=hs;obtain ⟨q,q1,q2,q3⟩:=BH hc hx ha;have hqb:q<b:=by
     rcases Gb b q with e | e
     ·rcases Classical.em (b=q) with e' | e'
      ·rw [e'] at hb; exact absurd q1 hb
      ·have:=hc.mono b q (by clear hx1 smno; grind) hb; omega
     ·exact e
    have:=V.eq_lo (q:=q) (by clear hx1 smno; grind) (by clear hx1 smno; grind) q1;rw [<-(VM V.s hf q3 (by omega)).s,hx1 q q1 (Qr q2)]
   have right:∀ s,RS w (cq P lo hi) s->cq P lo hi b=-1->s=Fc (ev w b):=λs hs hb=>by
    obtain ⟨y,hy,hy1⟩:=hs;obtain ⟨q,q1,q2,q3⟩:=pX hc hy hb;have hqa:=hc.lt ha q1;have:=V.eq_hi (q:=q) (by clear hy1 smno; grind) (by clear hy1 smno; grind) (by omega);have hs:=VM V.s hf q3 (by omega);have hl:=hy1 q q1 (Qr q2);have h0:Fc (ev w q)≠0:=by
     have hs2:=VM V.s hf (x:=q) (y:=b) q3 (by omega);intro h0;obtain ⟨r,r1,r2⟩:=hc.dn q q1;have har:=hc.lt ha r2;have:=V.eq_hi (q:=r) (by clear hy1 smno; grind) (by clear hy1 smno; grind) (by omega);have hs3:=VM V.s hf (x:=r) (y:=q) r1 (by omega);have hs4:=hs3.s;rw [h0] at hs4; exact hs3.n hs4.symm
    rw [hs.s,Ae h0,hl]
   refine ⟨λh=>⟨?_,ha,hb⟩,λ⟨hw,_,_⟩=>?_⟩
   ·rcases JF hc w with e | ⟨s,EH,hs⟩
    ·exact e
    ·exfalso;have l1:=left s (eD hc hs);have r1:Fc (ev w b)=s:=by
      rcases hc.val b with e | e | e
      ·exact absurd e hb
      ·exact fK hc e hs
      ·exact (right s (qT hc hs) e).symm
     rcases h with h | h
     ·exact EH (by rw [<-r1]; exact h)
     ·exact h (by rw [r1,l1])
   ·rcases hc.val b with e | e | e
    ·exact absurd e hb
    ·exact .inl (Gj.2 (TU hc e hw))
    ·obtain ⟨s,EH,hs⟩:=lZ hc V.s hf hw;have l1:=left _ (Qhj hc hw (eD hc hs) EH);have r1:=right _ (yG hc hw (qT hc hs) EH) e;exact .inr (by rw [<-l1,<-r1]; omega)
 ·have hla:lo<a:=by
   rcases Classical.em (lo=a) with e | e
   ·rw [<-e] at ha; exact absurd (Ez Qp) ha
   ·grind
  have hb:cq P lo hi b≠1:=by have:=hc.mono a b h2 ha; omega
  have e1:=V.eq_hi hla (by grind) ha;have e2:=V.eq_hi (q:=b) (by grind) h3 hb;exact ⟨λh=>absurd h (smno (by omega)),λh=>absurd h.2.1 ha⟩
theorem wQ {c c':Rat->Int} (hc:Cut c) (hc':Cut c') {q:Rat} (h:c q≠c' q):∃ r,(c r=-1/\c' r=1)\/(c r=1/\c' r=-1):=by
 rcases hc.val q with e | e | e <;> rcases hc'.val q with e' | e' | e'
 ·omega
 ·obtain ⟨r,r1,r2⟩:=hc.up q e;exact ⟨r,.inr ⟨r2,hc'.mono q r r1 (by omega)⟩⟩
 ·exact ⟨q,.inr ⟨e,e'⟩⟩
 ·obtain ⟨r,r1,r2⟩:=hc'.up q e';exact ⟨r,.inl ⟨hc.mono q r r1 (by omega),r2⟩⟩
 ·omega
 ·obtain ⟨r,r1,r2⟩:=hc'.dn q e';exact ⟨r,.inr ⟨hc.mono' r1 (by omega),r2⟩⟩
 ·exact ⟨q,.inl ⟨e,e'⟩⟩
 ·obtain ⟨r,r1,r2⟩:=hc.dn q e;exact ⟨r,.inl ⟨r2,hc'.mono' r1 (by omega)⟩⟩
 ·omega
theorem Vt.uniq (V:Vt P L lo hi) {c:Rat->Int} (hc:Cut c) (h1:c lo=1) (h2:c hi≠1) (hv:Is P c) (q:Rat):c q=cq P lo hi q:=by
 rcases Classical.em (c q=cq P lo hi q) with e | e
 ·exact e
 ·exfalso;obtain ⟨r,⟨r1,r2⟩ | ⟨r1,r2⟩⟩:=wQ hc V.cut e
  ·have hl:=hc.lt h1 r1;have hh:r<=hi:=by
    rcases Gb r hi with e | e
    ·exact e
    ·have:=UZ (P:=P) V.l e; omega
   have:=V.eq_lo hl hh r2;exact Qhw V.s (w:=P) (u:=[1]) (λt=>by rw [Ry]; grind) (x:=lo) (y:=r) (by omega) hc h1 (by omega) hv
  ·have hl:lo<r:=by
    rcases Gb r lo with e | e
    ·have:=Ez (P:=P) (hi:=hi) e; omega
    ·exact e
   have hh:r<=hi:=by
    rcases Gb r hi with e | e
    ·exact e
    ·have:=hc.mono hi r e h2; omega
   have:=V.eq_hi hl hh (by omega);exact Qhw V.s (w:=P) (u:=[1]) (λt=>by rw [Ry]; grind) (x:=r) (y:=hi) (by omega) hc r1 h2 hv
theorem Vt.same (V:Vt P L lo hi) {P':Un} {L':Uo} {lo' hi':Rat} (V':Vt P' L' lo' hi') {g u u' U W:Un} {k:Rat} (hk:k≠0) (h1:∀ t,ev P t=ev g t*ev u t) (h2:∀ t,ev P' t=ev g t*ev u' t) (h3:∀ t,k*ev g t=ev U t*ev P t+ev W t*ev P' t) {a b:Rat} (ha1:lo<=a) (ha2:lo'<=a) (ha:a=lo\/a=lo') (hb1:b<=hi) (hb2:b<=hi') (hb:b=hi\/b=hi'):(a<b/\pA g a b)↔∀ q,cq P lo hi q=cq P' lo' hi' q:=by
 have hc:=V.cut;have hc':=V'.cut;constructor
 ·rintro ⟨hab,hg⟩
  obtain ⟨g1,g2,g3⟩:=(V.has h1 ha1 hab hb1).1 hg;obtain ⟨g4,g5,g6⟩:=(V'.has h2 ha2 hab hb2).1 hg;intro q;refine (V.uniq hc' (by
   rcases Classical.em (lo=a) with e | e
   ·rw [e]; exact g5
   ·exact hc'.mono' (q:=lo) (r:=a) (by grind) (by omega)) (λh=>?_) (Pw hc' h1 g4) q).symm
  rcases Classical.em (b=hi) with e | e
  ·rw [<-e] at h; exact g6 h
  ·have:=hc'.mono b hi (by grind) g6; omega
 ·intro h;have hcc:cq P' lo' hi'=cq P lo hi:=funext λq=>(h q).symm
  have e1:cq P lo hi a=1:=by
   rcases ha with rfl | rfl
   ·exact Ez Qp
   ·rw [h]; exact Ez Qp
  have e2:cq P lo hi b≠1:=by
   rcases hb with rfl | rfl
   ·exact V.hi1
   ·rw [h]; exact V'.hi1
  have hab:a<b:=by
   rcases Gb b a with e | e
   ·rcases Classical.em (b=a) with e' | e'
    ·rw [e'] at e2; exact absurd e1 e2
    ·have:=hc.mono b a (by grind) e2; omega
   ·exact e
  have v1:=V.van;have v2:=V'.van;rw [hcc] at v2;have hg:Is g (cq P lo hi):=by
   have a1:Is (G5 U P) (cq P lo hi):=Pw hc (p:=P) (q:=U) (λt=>by rw [Ff]; grind) v1;have a2:Is (G5 W P') (cq P lo hi):=Pw hc (p:=P') (q:=W) (λt=>by rw [Ff]; grind) v2;have a3:=MO (λt=>Gy t _ _) a1 a2;refine zZ hc (k:=1 / k) (λt=>?_) a3;rw [Gy,Ff,Ff,<-h3];have:1 / k*(k*ev g t)=1 / k*k*ev g t:=by grind
   rw [this,show 1 / k*k=1 from Zg hk]; grind
  exact ⟨hab,(V.has h1 ha1 hab hb1).2 ⟨hg,e1,e2⟩⟩
end Orq
namespace Orq
theorem Qie:∀ (M:Nat) (f:Nat->Nat),(∀ i,i<=M->f i<M)->∃ i j,i<j/\j<=M/\f i=f j
 | 0,f,h=>absurd (h 0 (Ql _)) (Nat.not_lt_zero _)
 |
  M+1,f,h=>by
  rcases Classical.em (∃ i,i<=M/\f i=f (M+1)) with ⟨i,h1,h2⟩ | hn
  ·exact ⟨i,M+1,by omega,Ql _,h2⟩
  ·have hne:∀ i,i<=M->f i≠f (M+1):=λi hi e=>hn ⟨i,hi,e⟩
   obtain ⟨i,j,h1,h2,h3⟩:=Qie M (λi=>if f i=M then f (M+1) else f i) λi hi=>by
    have a1:=h i (by omega);have a2:=h (M+1) (Ql _);have a3:=hne i hi;show (if f i=M then f (M+1) else f i)<M
    split <;> omega
   refine ⟨i,j,h1,by omega,?_⟩;have a1:=hne i (by omega);have a2:=hne j h2
   split at h3 <;> split at h3 <;> omega
def dg (B k i:Nat):Nat:=k / B^i % B
theorem dO (B k i:Nat):dg B k (i+1)=dg B (k / B) i:=by unfold dg; rw [Nat.pow_succ,Nat.mul_comm,Nat.div_div_eq_div_mul]
theorem Qfu {B:Nat}:∀ (N:Nat) {k k':Nat},k<B^N->k'<B^N->(∀ i,i<N->dg B k i=dg B k' i)->k=k'
 | 0,k,k',h,h',_=>by rw [Vd] at h h'; omega
 |
  N+1,k,k',h,h',he=>by
  have h0:=he 0 (by omega);unfold dg at h0;rw [Vd,Nat.div_one,Nat.div_one] at h0;have hB:0<B:=by
   rcases Q0 B with e | e
   ·rw [e,Zq,Yw] at h; omega
   ·exact e
  have h1:=Qfu N (k:=k / B) (k':=k' / B) (X9 (by rw [Zp,<-Zq]; exact h)) (X9 (by rw [Zp,<-Zq]; exact h')) λi hi=>by
   rw [<-dO,<-dO]; exact he (i+1) (by omega)
  rw [<-W6 k B,<-W6 k' B,h0,h1]
def cd (B:Nat):Nat->(Nat->Nat)->Nat
 | 0,_=>0
 | E+1,x=>x 0+B*cd B E λe=>x (e+1)
theorem Qqr {B:Nat}:∀ (E:Nat) {x:Nat->Nat},(∀ e,e<E->x e<B)->cd B E x<B^E
 | 0,_,_=>by simp [cd]
 |
  E+1,x,h=>by
  have h1:=h 0 (by omega);have h2:=Qqr E (x:=λe=>x (e+1)) λe he=>h (e+1) (by omega)
  simp only [cd];have h3:B*cd B E (λe=>x (e+1))+B<=B*B^E:=by
   rw [<-Nat.mul_succ]; exact Zu _ h2
  rw [Zq,Zp (B^E)]; omega
theorem Qff {B:Nat}:∀ (E:Nat) {x y:Nat->Nat},(∀ e,e<E->x e<B)->(∀ e,e<E->y e<B)->cd B E x=cd B E y->∀ e,e<E->x e=y e
 | 0,_,_,_,_,_,e,he=>by omega
 |
  E+1,x,y,hx,hy,h,e,he=>by
  have h1:=hx 0 (by omega);have h2:=hy 0 (by omega);simp only [cd] at h;have e0:x 0=y 0:=by
   have:=congrArg (· % B) h;simp only [Kb] at this;rwa [Xs h1,Xs h2] at this
  have e1:cd B E (λe=>x (e+1))=cd B E (λe=>y (e+1)):=Nat.eq_of_mul_eq_mul_left (by omega:0<B) (by omega);cases e with
  | zero=>exact e0
  | succ e=>exact Qff E (λe he=>hx (e+1) (by omega)) (λe he=>hy (e+1) (by omega)) e1 e (by omega)
def sm:Nat->(Nat->Int)->Int
 | 0,_=>0
 | n+1,f=>sm n f+f n
theorem Qjp (f g:Nat->Int):∀ n,sm n (λi=>f i-g i)=sm n f-sm n g
 | 0=>rfl
 | n+1=>by simp only [sm,Qjp f g n]; omega
theorem Ld {f g:Nat->Int}:∀ n,(∀ i,i<n->f i=g i)->sm n f=sm n g
 | 0,_=>rfl
 | n+1,h=>by simp only [sm,Ld n (λi hi=>h i (by omega)),h n (by omega)]
theorem Qjo {f:Nat->Int} {b:Nat}:∀ n,(∀ i,i<n->(f i).natAbs<=b)->(sm n f).natAbs<=n*b
 | 0,_=>by simp [sm]
 |
  n+1,h=>by
  have h1:=Qjo n λi hi=>h i (by omega)
  have h2:=h n (by omega);simp only [sm];rw [Z9]; omega
theorem YP {f:Nat->Int}:∀ n,(∀ i,i<n->f i=0)->sm n f=0
 | 0,_=>rfl
 | n+1,h=>by simp only [sm,YP n (λi hi=>h i (by omega)),h n (by omega)]; rfl
theorem bK (f:Nat->Int) (m:Nat):∀ n,sm (m+n) f=sm m f+sm n λi=>f (m+i)
 | 0=>by simp [sm]
 | n+1=>by rw [<-Yl]; simp only [sm,bK f m n]; omega
theorem bW (f:Nat->Int) (J:Nat):∀ b,sm (b*J) f=sm b λi=>sm J λj=>f (i*J+j)
 | 0=>by simp [sm]
 | b+1=>by rw [Z9,bK,bW f J b]; rfl
theorem LC {f:Nat->Int} {k:Nat}:∀ n,k<n->(∀ i,i<n->i≠k->f i=0)->sm n f=f k
 | 0,h,_=>by omega
 |
  n+1,h,h1=>by
  simp only [sm];rcases Vm (Nat.le_of_lt_succ h) with e | e
  ·rw [LC n e λi hi=>h1 i (by omega),h1 n (by omega) (by omega)]; omega
  ·subst e; rw [YP k λi hi=>h1 i (by omega) (by omega)]; omega
theorem Qu8 {M:Nat->Nat->Int} {h N E H:Nat} (hM:∀ e i,(M e i).natAbs<=h) (hc:(2*(N*(h*H))+1)^E<(H+1)^N) :
 ∃ v:Nat->Int,(∀ i,(v i).natAbs<=H)/\(∃ i,i<N/\v i≠0)/\∀ e,e<E->sm N (λi=>M e i*v i)=0:=by
 obtain ⟨T,hT⟩:=nmE (N*(h*H));rw [<-hT] at hc;have hv:∀ k i,dg (H+1) k i<=H:=λk i=>Nat.le_of_lt_succ (Z5 _ (by omega))
 have hs:∀ k e,(sm N λi=>M e i*(dg (H+1) k i:Int)).natAbs<=T:=λk e=>by
  rw [hT];refine Qjo N λi _=>?_
  rw [J6,Xf];exact Zf (hM e i) (hv k i)
 have him:∀ k e,((sm N λi=>M e i*(dg (H+1) k i:Int))+T).toNat<2*T+1:=λk e=>by have:=hs k e; omega
 obtain ⟨i,j,h1,h2,h3⟩:=Qie ((2*T+1)^E) (λk=>cd (2*T+1) E λe=>((sm N λi=>M e i*(dg (H+1) k i:Int))+T).toNat) λk _=>Qqr E λe _=>him k e
 have h4:=Qff E (λe _=>him i e) (λe _=>him j e) h3;refine ⟨λn=>(dg (H+1) i n:Int)-dg (H+1) j n,λn=>?_,?_,λe he=>?_⟩
 ·have a1:=hv i n;have a2:=hv j n;show ((dg (H+1) i n:Int)-dg (H+1) j n).natAbs<=H;omega
 ·rcases Classical.em (∃ n,n<N/\(dg (H+1) i n:Int)-dg (H+1) j n≠0) with e | e
  ·exact e
  ·exfalso;have:i=j:=Qfu (B:=H+1) N (by omega) (by omega) λn hn=>by
    rcases Classical.em (dg (H+1) i n=dg (H+1) j n) with e' | e'
    ·exact e'
    ·exact absurd ⟨n,hn,by omega⟩ e
   omega
 ·have a1:=h4 e he;have a2:=hs i e;have a3:=hs j e;have:(sm N λn=>M e n*(dg (H+1) i n:Int))=sm N λn=>M e n*(dg (H+1) j n:Int):=by omega
  have e1:=Qjp (λn=>M e n*(dg (H+1) i n:Int)) (λn=>M e n*(dg (H+1) j n:Int)) N;rw [this] at e1;rw [Ld N (g:=λn=>M e n*(dg (H+1) i n:Int)-M e n*(dg (H+1) j n:Int)) λn _=>Int.mul_sub _ _ _,e1]; omega
def U7:Uk->Rat->Rat
 | [],_=>0
 | a::p,t=>(a:Rat)+t*U7 p t
def sq:Nat->(Nat->Rat)->Rat
 | 0,_=>0
 | n+1,f=>sq n f+f n
theorem Pi {f g:Nat->Rat}:∀ n,(∀ i,i<n->f i=g i)->sq n f=sq n g
 | 0,_=>rfl
 | n+1,h=>by simp only [sq,Pi n (λi hi=>h i (by omega)),h n (by omega)]
theorem bN (f g:Nat->Rat):∀ n,sq n (λi=>f i+g i)=sq n f+sq n g
 | 0=>by simp only [sq]; grind
 | n+1=>by simp only [sq,bN f g n]; grind
theorem JY (c:Rat) (f:Nat->Rat):∀ n,sq n (λi=>c*f i)=c*sq n f
 | 0=>by simp only [sq]; grind
 | n+1=>by simp only [sq,JY c f n]; grind
theorem Cn {f:Nat->Rat}:∀ n,(∀ i,i<n->f i=0)->sq n f=0
 | 0,_=>rfl
 | n+1,h=>by simp only [sq,Cn n (λi hi=>h i (by omega)),h n (by omega)]; grind
theorem Ow (f:Nat->Rat):∀ n,sq (n+1) f=f 0+sq n λi=>f (i+1)
 | 0=>by simp only [sq]; grind
 | n+1=>by rw [sq,Ow f n]; simp only [sq]; grind
theorem Qrj {f:Nat->Rat} {b:Rat}:∀ n,(∀ i,i<n->Fh (f i)<=b)->Fh (sq n f)<=(n:Rat)*b
 | 0,_=>by rw [show ((0:Nat):Rat)=0 from rfl]; simp only [sq,Re]; grind
 |
  n+1,h=>by
  have h1:=Qrj n λi hi=>h i (by omega)
  have h2:=h n (by omega);have h3:=Se (sq n f) (f n);have hn':(((n+1:Nat):Rat))=(n:Rat)+1:=by push_cast; rfl
  rw [hn']; simp only [sq]; clear h; grind
def gc:Uk->Nat->Nat->Int
 | [],_,_=>0
 | c::B,k,j=>(if k=0/\j=0 then c else 0)+(if k=0 then 0 else gc B (k-1) j)-(if j=0 then 0 else gc B k (j-1))
def gB:Uk->Nat
 | []=>0
 | c::B=>max c.natAbs (2*gB B)
theorem MJ:∀ (B:Uk) (k j:Nat),B.length<=k+j->gc B k j=0
 | [],_,_,_=>rfl
 |
  c::B,k,j,h=>by
  simp only [Q7] at h;simp only [gc];rw [if_neg (by omega)];have e1:(if k=0 then 0 else gc B (k-1) j)=0:=by
   split
   ·rfl
   ·exact MJ B _ _ (by omega)
  have e2:(if j=0 then 0 else gc B k (j-1))=0:=by
   split
   ·rfl
   ·exact MJ B _ _ (by omega)
  rw [e1,e2]; rfl
theorem Qgl:∀ (B:Uk) (k j:Nat),(gc B k j).natAbs<=gB B
 | [],_,_=>Qh _
 |
  c::B,k,j=>by
  have h1:=Qgl B (k-1) j;have h2:=Qgl B k (j-1);simp only [gc,gB];by_cases hk:k=0 <;> by_cases hj:j=0 <;> simp only [hk,hj,true_and,and_true,false_and,and_false,if_true,if_false] <;> (try subst hk) <;> (try subst hj) <;> omega
theorem Qgm:∀ (B:Uk) (b:Nat),B.length=b+1->(gc B 0 b).natAbs=(B.getD b 0).natAbs
 | [],_,h=>by simp at h
 | [c],0,_=>by simp [gc]
 | c::d::B,0,h=>by simp at h
 |
  c::B,b+1,h=>by
  have ih:=Qgm B b (by simpa using h);simp only [gc];simp only [J8,Q4];rw [if_pos trivial,if_neg (Nat.succ_ne_zero b),<-ih]; omega
def E2 (F:Nat->Nat->Int) (K J:Nat) (x y:Rat):Rat:=sq K λk=>sq J λj=>(F k j:Rat)*(y^k*x^j)
theorem pU (F G:Nat->Nat->Int) (K J:Nat) (x y:Rat):E2 (λk j=>F k j+G k j) K J x y=E2 F K J x y+E2 G K J x y:=by
 unfold E2;rw [<-bN];refine Pi K λk _=>?_
 rw [<-bN];exact Pi J λj _=>by push_cast; grind
theorem Qf2 (c:Int) (F:Nat->Nat->Int) (K J:Nat) (x y:Rat):E2 (λk j=>F k j*c) K J x y=(c:Rat)*E2 F K J x y:=by
 unfold E2;rw [<-JY];refine Pi K λk _=>?_
 rw [<-JY];exact Pi J λj _=>by push_cast; grind
theorem Qf3 (φ:Nat->Nat->Nat->Int) (v:Nat->Int) (K J:Nat) (x y:Rat):∀ N,E2 (λk j=>sm N λn=>φ n k j*v n) K J x y=sq N λn=>(v n:Rat)*E2 (φ n) K J x y
 |
  0=>by
  simp only [sq,sm];unfold E2;refine Cn K λk _=>Cn J λj _=>?_
  rw [show ((0:Int):Rat)=0 from rfl]; grind
 |
  N+1=>by
  simp only [sq];rw [<-Qf3 φ v K J x y N,<-Qf2,<-pU];rfl
theorem FT (t:Rat) (i:Nat):∀ k,t^(i+k)=t^i*t^k
 | 0=>by rw [Xk,Xe]; grind
 | k+1=>by rw [<-Yl,Z7,Z7,FT t i k]; grind
theorem LL (f:Nat->Rat):∀ (i n:Nat),sq (i+n) (λk=>if i<=k then f (k-i) else 0)=sq n f
 | i,0=>Cn _ λk hk=>by rw [if_neg (by omega)]
 |
  i,n+1=>by
  rw [<-Yl]; simp only [sq];rw [LL f i n,if_pos (by omega),Jj]
def PW (i j':Nat) (F:Nat->Nat->Int) (k j:Nat):Int:=if i<=k then (if j'<=j then F (k-i) (j-j') else 0) else 0
theorem BE (F:Nat->Nat->Int) (i j' K J:Nat) (x y:Rat):E2 (PW i j' F) (i+K) (j'+J) x y=y^i*x^j'*E2 F K J x y:=by
 unfold E2;rw [<-JY,<-LL _ i K];refine Pi _ λk _=>?_
 by_cases hk:i<=k
 ·rw [if_pos hk,<-JY,<-LL _ j' J];refine Pi _ λj _=>?_
  unfold PW;rw [if_pos hk];by_cases hj:j'<=j
  ·rw [if_pos hj,if_pos hj];have e1:y^k=y^i*y^(k-i):=by rw [<-FT]; congr 1; omega
   have e2:x^j=x^j'*x^(j-j'):=by rw [<-FT]; congr 1; omega
   rw [e1,e2]; grind
  ·rw [if_neg hj,if_neg hj,show ((0:Int):Rat)=0 from rfl]; grind
 ·rw [if_neg hk];refine Cn _ λj _=>?_
  unfold PW;rw [if_neg hk,show ((0:Int):Rat)=0 from rfl]; grind
def fA (A:Uk) (k j:Nat):Int:=if j=0 then A.getD k 0 else 0
theorem Qid (y:Rat):∀ (A:Uk) (K:Nat),A.length<=K->sq K (λk=>((A.getD k 0:Int):Rat)*y^k)=U7 A y
 | [],K,_=>by rw [Cn]; rfl; intro i _; simp
 | a::A,0,h=>by simp at h
 |
  a::A,K+1,h=>by
  have ih:=Qid y A K (by simpa using h);rw [Ow];simp only [U7,Zt,Q4,Xe];rw [<-ih,<-JY];have:(sq K λi=>((A.getD i 0:Int):Rat)*y^(i+1))=sq K λi=>y*(((A.getD i 0:Int):Rat)*y^i):=Pi K λi _=>by rw [Z7]; grind
  rw [this]; grind
theorem Qw6 (A:Uk) (K J:Nat) (x y:Rat) (h:A.length<=K):E2 (fA A) K (J+1) x y=U7 A y:=by
 rw [<-Qid y A K h];refine Pi K λk _=>?_
 rw [Ow,Cn]
 ·simp only [fA,if_true,Xe]; grind
 ·intro j _;simp only [fA];rw [if_neg (by omega),show ((0:Int):Rat)=0 from rfl]; grind
theorem Qtf (x y:Rat):∀ (B:Uk) (K J:Nat),B.length<=K->B.length<=J->E2 (gc B) K J x y=U7 B (y-x)
 |
  [],K,J,_,_=>by
  unfold E2;simp only [gc,U7];exact Cn K λk _=>Cn J λj _=>by rw [show ((0:Int):Rat)=0 from rfl]; grind
 | c::B,0,J,h,_=>by simp at h
 | c::B,K+1,0,_,h=>by simp at h
 |
  c::B,K+1,J+1,h1,h2=>by
  have i1:=Qtf x y B K (J+1) (by simpa using h1) (by simp at h2; omega);have i2:=Qtf x y B (K+1) J (by simp at h1; omega) (by simpa using h2);have s1:=BE (gc B) 1 0 K (J+1) x y;have s2:=BE (gc B) 0 1 (K+1) J x y;rw [Zz,Ju 1 K] at s1;rw [Zz,Ju 1 J] at s2;rw [i1] at s1;rw [i2] at s2;have e0:E2 (fA [c]) (K+1) (J+1) x y=(c:Rat):=by rw [Qw6 [c] (K+1) J x y (by simp)]; simp only [U7]; grind
  have e1:gc (c::B)=λk j=>(fA [c] k j+PW 1 0 (gc B) k j)+PW 0 1 (gc B) k j*(-1):=by
   funext k j;simp only [gc,fA,PW];by_cases hk:k=0 <;> by_cases hj:j=0
   ·subst hk; subst hj; simp
   ·subst hk; simp [hj,show 1<=j by omega]
    try omega
   ·subst hj;obtain ⟨m,rfl⟩:∃ m,k=m+1:=⟨k-1,by omega⟩;simp
   ·obtain ⟨m,rfl⟩:∃ m,k=m+1:=⟨k-1,by omega⟩;obtain ⟨i,rfl⟩:∃ i,j=i+1:=⟨j-1,by omega⟩;simp; omega
  rw [e1,pU (λk j=>fA [c] k j+PW 1 0 (gc B) k j) (λk j=>PW 0 1 (gc B) k j*(-1)),pU (fA [c]) (PW 1 0 (gc B)),Qf2,e0,s1,s2];simp only [U7,Xe,show y^1=y by rw [Z7,Xe]; grind,show x^1=x by rw [Z7,Xe]; grind];rw [show (((-1:Int)):Rat)=-1 from rfl];grind
end Orq
