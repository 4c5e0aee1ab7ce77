/- C2 D1 E1 AlgL F1 F2 F3 F4 F5 T1 T2 T3 T4 T5 T6 T7 T8 T9 -/
import Derived.Test.YtoohlnnpalgnaaaGreatPart04
import Derived.Test.YtoohlnnpalgnaaaGreatPart00
set_option linter.all false
namespace Orr
open Go Go.Proofs Tryz
set_option maxRecDepth 10000
theorem Ti {l:List Pt} {i:Nat} {p:Pt} (h:l[i]? = some p):(l.map Fc)[i]? = some [pl p.c.x,pl p.c.y,sg p.c.d,mg p.c.d,.int .i64 p.id]:=G6 h
theorem Ss (l:List Pt):∀ c∈l.map Fc,c.length=5:=Qsa l λ_=>rfl
theorem lM {lx ly:Us} {px py:Um} {x y:LV} {d:Int} (hx:IsInts lx px) (hy:IsInts ly py) (hd:Ge x y d) (hk:Cs 4294967294 1073741824 (Crv.mk px py d)) (id:Int):Uj 287 [.agg [.row lx,.row ly,x,y,.int .i64 id]] [.agg (Fc ⟨Crv.norm (Crv.mk px py d),id⟩)]:=by
 have cd:=Mk hd (Qa hk.d (by omega));by_cases h0:d=0
 ·subst h0;have ck:Cs 4294967294 1073741824 (Crv.mk px py 1):=⟨hk.x,hk.y,show Fe 1<=4294967294 by decide,hk.lx,hk.ly⟩;have cm:=UW hx hy (U5 1) ck (by decide);have e:Crv.norm (Crv.mk px py 1)=Crv.norm (Crv.mk px py 0):=by simp only [Crv.norm,Crv.g,Crv.d']; rfl
  rw [e] at cm;obtain ⟨b,l,rfl,rfl,_⟩:=hd;exact Ug func287 rfl [.k cd,.k Dh,.t (by simp),.k (BF (z:=1) (by decide)),.k cm] rfl
 ·have cm:=UW hx hy hd hk h0;obtain ⟨b,l,rfl,rfl,_⟩:=hd;exact Ug func287 rfl [.k cd,.k Dh,.f (by simpa using h0),.k cm] rfl
theorem Qfj {l:List Pt} (id:Int) (hl:l.length<1073741824):Uj 286 [.agg [pts l],.oi id] [.oi (Rv l id:Int),.one (.bool (has l id))]:=by
 refine Fw func286 rfl ?_;refine Ud [] rfl ?_;refine ct 2 (S:=Unit) (λ_=>[(1,.v (.oi id)),(2,.v (.one (.ow 0 0))),(6,.v (.oi (Rv l id:Int)))]) (λ_=>[.blk 218 [pts l]]) (λ_=>True) rfl ?_ ?_
 ·refine Ui (S:=Nat) 1 (λL1 k=>(6,.v (.oi k))::L1) (λ_=>[.blk 218 [pts l]]) (λk=>l.length-k) (λk=>k<=l.length/\∀ j p,j<k->l[j]? = some p->p.id<id) 0 ⟨Qh _,λj p h=>by omega⟩ rfl rfl λk ⟨hk,hlt⟩=>?_
  by_cases h:k<l.length
  ·obtain ⟨p,hp⟩:=gxE (l:=l) (i:=k) h;by_cases hid:p.id<id
   ·refine Ue [.t (by simp; omega),.x (Ti hp),.t (by simpa using hid)] rfl ?_;exact rd (k+1) (by omega) ⟨h,λj q hj hq=>by
     rcases Zb j k with h2 | h2
     ·exact hlt j q h2 hq
     ·have:j=k:=by omega
      subst this; rw [hp] at hq; injection hq with hq; rw [<-hq]; exact hid⟩ rfl
   ·have e:=EK hlt (.inr ⟨p,hp,hid⟩);refine Ud [.t (by simp; omega),.x (Ti hp),.f (by simpa using hid)] rfl ?_;rw [e];exact rc () trivial rfl
  ·obtain rfl:k=l.length:=by omega
   have e:=EK hlt (.inl rfl);refine Ud [.f (by simp),.f rfl] rfl ?_;rw [e];exact rc () trivial rfl
 ·intro _ _;by_cases h:Rv l id<l.length
  ·obtain ⟨p,hp⟩:=gxE (l:=l) (i:=Rv l id) h;have e:has l id=decide (p.id=id):=by simp [has,hp]
   rw [e];exact Uf [.g 30 true (by simp; omega),.x (Ti hp)] rfl
  ·have e:has l id=false:=by simp [has,Qu (J8 h)]
   rw [e];exact Uf [.g 30 false (by simp; omega)] rfl
theorem Ip {l:List Pt}:Uj 252 [.agg [pts l]] [.one (pts l)]:=Ug func252 rfl [] rfl
theorem wF {lx ly:Us} {px py:Um} {x y:LV} {d id:Int} {l:List Pt} (hx:IsInts lx px) (hy:IsInts ly py) (hd:Ge x y d) (hk:Cs 4294967294 1073741824 (Crv.mk px py d)) (hl:l.length<=1000000) :
 Uj 249 [.agg [pts l],.agg [.row lx,.row ly,x,y,.int .i64 id]] [.agg [pts (if WH l (Pt.mk (Crv.norm (Crv.mk px py d)) id)=0 then put l (Pt.mk (Crv.norm (Crv.mk px py d)) id) else l)],.oi (WH l (Pt.mk (Crv.norm (Crv.mk px py d)) id))]:=by
 have ca:=Qfj (l:=l) id (by omega);have cf:=lM hx hy hd hk id;obtain ⟨b,r,rfl,rfl,_⟩:=hd;obtain ⟨q,hq⟩:=nmE (Pt.mk (Crv.norm (Crv.mk px py d)) id);have hqi:q.id=id:=by rw [hq]
 rw [<-hq] at cf ⊢;have hpl:=yI l id;by_cases h1:has l id=true
 ·have e:WH l q=6:=by simp [WH,hqi,h1]
  rw [e,if_neg (by decide)];exact Ug func249 rfl [.k ca,.t h1] rfl
 by_cases h2:6<=l.length
 ·have e:WH l q=9:=by simp [WH,hqi,h1,h2]
  rw [e,if_neg (by decide)];exact Ug func249 rfl [.k ca,.f (by simpa using h1),.t (by simp; omega)] rfl
 have e:WH l q=0:=by simp [WH,hqi,h1,h2]
 rw [e,if_pos rfl];have s1:∀ c∈(l.map Fc).take (Rv l id),c.length=5:=λc hc=>Ss l c (Qn hc)
 have s3:∀ c∈(l.map Fc).drop (Rv l id),c.length=5:=λc hc=>Ss l c (Qz hc)
 refine Ug func249 rfl [.k ca,.f (by simpa using h1),.f (by simp; omega),.i (Rv l id),.s s1,.k cf,.i (Rv l id),.s s3] rfl ?_ ?_
 ·simp [put,hqi,pts,Jv,Vh,Fc]
 ·simp [U4];exact ⟨by omega,hpl,λ_ _=>rfl,by omega,by omega,hpl⟩
theorem pO {l:List Pt} (hok:∀ p∈l,Qaq 4294967294 1073741824 p) (hl:l.length<1073741824):Uj 257 [.agg [pts l]] [.one (pts (Tp l))]:=by
 refine Fw func257 rfl ?_;refine Ud [.o 3 40 5] rfl ?_;refine Ui (S:=Nat) 2 (λL1 i=>(12,.v (.oi i))::(3,.v (.one (.orow 1 5 none)))::L1) (λi=>[.blk 218 [pts l],.row false 40 5 (((l.take i).foldl B6 []).map Fc)]) (λi=>l.length-i) (λi=>i<=l.length) 0 (Qh _) rfl rfl λi hi=>?_
 by_cases hlt:i<l.length
 ·obtain ⟨p,hp⟩:=gxE (l:=l) (i:=i) hlt;obtain ⟨hn,hk⟩:=hok p (Qc hp);have hws:=Sj B6 [] l hp;have hwl:=KJ l i;have hwm:=KY l i;obtain ⟨o,ho⟩:=nmE ((l.take i).foldl B6 []);rw [<-ho] at hws hwl hwm ⊢;refine Ud [.t (by simp; omega),.x (Ti hp)] rfl ?_;refine Ui (S:=Nat) 3 (λL1 k=>(18,.v (.oi k))::(6,.v (.one (.bool ((o.take k).any λq=>Ec p.c q.c))))::L1) (λk=>[.blk 218 [pts l],.row false 40 5 (o.map Fc),.blk 40 (Fc p)]) (λk=>o.length-k) (λk=>k<=o.length) 0 (Qh _) rfl rfl λk hk2=>?_
  by_cases hk3:k<o.length
  ·obtain ⟨q,hq⟩:=gxE (l:=o) (i:=k) hk3;obtain ⟨hqn,hqk⟩:=hok q (hwm q (Qc hq));have hany:((o.take (k+1)).any λq=>Ec p.c q.c)=(((o.take k).any λq=>Ec p.c q.c) || Ec p.c q.c):=by rw [Y7,hq,List.any_append]; simp
   cases hb:(o.take k).any λq=>Ec p.c q.c with
   |
    true =>
    rw [hb] at hany;refine Ue [.t (by simp; omega),.i k,.x (Ti hq),.t rfl,.r 29 (v:=.one (.bool ((o.take (k+1)).any λq=>Ec p.c q.c))) (by rw [hany]; rfl)] rfl ?_;exact rd (k+1) (by omega) hk3 rfl
   |
    false =>
    rw [hb] at hany;refine Ue [.t (by simp; omega),.i k,.x (Ti hq),.f rfl,.k (lR hn hqn hk hqk),.r 29 (v:=.one (.bool ((o.take (k+1)).any λq=>Ec p.c q.c))) (by rw [hany]; rfl)] rfl ?_;exact rd (k+1) (by omega) hk3 rfl
  ·obtain rfl:k=o.length:=by omega
   rw [Q6];cases hb:o.any λq=>Ec p.c q.c with
   |
    true =>
    have e:B6 o p=o:=by unfold B6; rw [if_pos hb]
    exact go tt [.f (by simp),.f rfl] rfl (by simp [U4]; omega) (rd (i+1) (by omega) hlt (by rw [hws,e]; rfl))
   |
    false =>
    have e:B6 o p=o++[p]:=by unfold B6; rw [if_neg (by rw [hb]; decide)]
    exact go tt [.f (by simp),.t rfl] rfl (by simp [U4]; omega) (rd (i+1) (by omega) hlt (by rw [hws,e,Yh]; rfl))
 ·obtain rfl:i=l.length:=by omega
  exact Uf [.f (by simp)] rfl (by rw [Q6]; rfl) trivial
theorem Qah (q:Rat):Ff [-q.num,(q.den:Int)]:=by
 have:=q.den_nz;simp [Ff,trim,this]
theorem Qxa {s:Nat} {q:Rat} (h:Qs s q):Bd s [-q.num,(q.den:Int)]:=λz hz=>by
 simp at hz;rcases hz with rfl | rfl
 ·rw [Hn]; exact h.1
 ·exact h.2
theorem VD {x y x' y':LV} {n d:Int} (h1:Ge x y n) (h2:Ge x' y' d) (hn:Fe n<=4294967295) (hd:Fe d<=4294967295) (hq:Qs 4294967295 (Gf n d)):Uj 98 [.agg [x,y,x',y']] [.agg (qa (Gf n d))]:=by
 have c1:=BE h1 h2 hn hd;obtain ⟨b,l,rfl,rfl,_⟩:=h1;obtain ⟨b',l',rfl,rfl,_⟩:=h2;exact Ug func98 rfl [.k c1,.k (BU (U5 _) hq.1),.k (Nu hq)] rfl
theorem Du {k:Crv} (hn:ZB k) (hk:Cs 4294967294 1073741824 k):Uj 242 [.agg (cl k)] [.agg (cl k)]:=by
 have h0:k.d≠0:=by have:=hn.2.2.1; omega
 have cm:=UW (Gp k.x) (Gp k.y) (U5 k.d) hk h0;rw [show Crv.mk k.x k.y k.d=k from rfl,Crv.norm_of hn] at cm;exact Ug func242 rfl [.k (Mk (U5 k.d) (Qa hk.d (by omega))),.k Dh,.f (by simpa using h0),.k cm] rfl
theorem UV {a b:Crv} (ha:ZB a) (hb:ZB b) (ca:Cb a) (cb:Cb b):Uj 232 [.agg (cl a),.agg (cl b)] [pr (Gn a b)]:=by
 have l1:=ca.lx;have l2:=cb.lx;have l3:=Fy b.x a.d;have l4:=Fy a.x b.d;exact Ug func232 rfl [.k (Du ha (ca.mono (by omega) (by omega))),.k (Du hb (cb.mono (by omega) (by omega))),.k (Pn (by omega) (U6 cb.x (by omega)) (Qa ca.d (by omega))),.k (Pn (by omega) (U6 ca.x (by omega)) (Qa cb.d (by omega))),.k (HG (by omega) (by omega) (U6 (Gg cb.x ca.d) (by omega)) (U6 (Gg ca.x cb.d) (by omega)))] rfl
theorem UJ {a b:Crv} (ha:ZB a) (hb:ZB b) (ca:Cb a) (cb:Cb b):Uj 233 [.agg (cl a),.agg (cl b)] [pr (Gm a b)]:=by
 have l1:=ca.ly;have l2:=cb.ly;have l3:=Fy b.y a.d;have l4:=Fy a.y b.d;exact Ug func233 rfl [.k (Du ha (ca.mono (by omega) (by omega))),.k (Du hb (cb.mono (by omega) (by omega))),.k (Pn (by omega) (U6 cb.y (by omega)) (Qa ca.d (by omega))),.k (Pn (by omega) (U6 ca.y (by omega)) (Qa cb.d (by omega))),.k (HG (by omega) (by omega) (U6 (Gg cb.y ca.d) (by omega)) (U6 (Gg ca.y cb.d) (by omega)))] rfl
def Pe (ps:Un):Us:=ps.map λp=>[pl p]
theorem Ro {ps:Un} {i:Nat} {p:Um} (h:ps[i]? = some p):(Pe ps)[i]? = some [pl p]:=G6 h
theorem wR {p q:Um}:Uj 291 [pr p,pr q] [pr (Ls p q)]:=by
 by_cases h:0<p.length
 ·exact Ug func291 rfl [.t (by simp; omega)] rfl (by simp only [Ls]; rw [if_pos h]) trivial
 ·exact Ug func291 rfl [.f (by simp; exact Qj (by omega))] rfl (by simp only [Ls]; rw [if_neg h]) trivial
theorem Qbi:Uj 290 [.oi 1] [.oi 2]:=Ug func290 rfl [.t rfl,.t rfl] rfl
theorem Qbj:Uj 290 [.oi 2] [.oi 2]:=Ug func290 rfl [.f rfl,.t rfl] rfl
theorem Qbk:Uj 290 [.oi 3] [.oi 3]:=Ug func290 rfl [.f rfl,.f rfl,.t rfl] rfl
theorem Qbl:Uj 290 [.oi 4] [.oi 4]:=Ug func290 rfl [.f rfl,.f rfl,.f rfl,.t rfl,.t rfl] rfl
theorem Qbm:Uj 290 [.oi 5] [.oi 4]:=Ug func290 rfl [.f rfl,.f rfl,.f rfl,.f rfl,.t rfl] rfl
theorem Qen {k i0 i1 i2 i3 l j0 j1 j2 j3:Int}:Uj 322 [.agg [.int .i64 k,.int .i64 i0,.int .i64 i1,.int .i64 i2,.int .i64 i3],.agg [.int .i64 l,.int .i64 j0,.int .i64 j1,.int .i64 j2,.int .i64 j3]] [.one (.bool (Da [k,i0,i1,i2,i3] [l,j0,j1,j2,j3]))]:=by
 by_cases hk:k=l
 ·subst hk;rw [show Da [k,i0,i1,i2,i3] [k,j0,j1,j2,j3]=Da [i0,i1,i2,i3] [j0,j1,j2,j3] from by simp [Da]];refine Fw func322 rfl ?_;refine Ud [.f (by simp)] rfl ?_;refine Ui (S:=Nat) 2 (λL1 i=>(19,.v (.oi i))::L1) (λ_=>[.blk 97 [.int .i64 k,.int .i64 i0,.int .i64 i1,.int .i64 i2,.int .i64 i3],.blk 97 [.int .i64 k,.int .i64 j0,.int .i64 j1,.int .i64 j2,.int .i64 j3]]) (λi=>4-i) (λi=>i<=4/\Da ([i0,i1,i2,i3].drop i) ([j0,j1,j2,j3].drop i)=Da [i0,i1,i2,i3] [j0,j1,j2,j3]) 0 ⟨by omega,rfl⟩ rfl rfl λi ⟨hi,he⟩=>?_
  rw [<-he];rcases (show i=0\/i=1\/i=2\/i=3\/i=4 by omega) with rfl | rfl | rfl | rfl | rfl
  ·by_cases h:i0=j0
   ·exact go tt [.t rfl,.i 0,.i 0,.f (by simpa using h)] rfl (by simp [U4]) (rd 1 (by omega) ⟨by omega,by simp [Da,h]⟩ rfl)
   ·exact Uf [.t rfl,.i 0,.i 0,.t (by simpa using h),.i 0] rfl (by simp [Da,h]) trivial
  ·by_cases h:i1=j1
   ·exact go tt [.t rfl,.i 1,.i 1,.f (by simpa using h)] rfl (by simp [U4]) (rd 2 (by omega) ⟨by omega,by simp [Da,h]⟩ rfl)
   ·exact Uf [.t rfl,.i 1,.i 1,.t (by simpa using h),.i 1] rfl (by simp [Da,h]) trivial
  ·by_cases h:i2=j2
   ·exact go tt [.t rfl,.i 2,.i 2,.f (by simpa using h)] rfl (by simp [U4]) (rd 3 (by omega) ⟨by omega,by simp [Da,h]⟩ rfl)
   ·exact Uf [.t rfl,.i 2,.i 2,.t (by simpa using h),.i 2] rfl (by simp [Da,h]) trivial
  ·by_cases h:i3=j3
   ·exact go tt [.t rfl,.i 3,.i 3,.f (by simpa using h)] rfl (by simp [U4]) (rd 4 (by omega) ⟨by omega,by simp [Da,h]⟩ rfl)
   ·exact Uf [.t rfl,.i 3,.i 3,.t (by simpa using h),.i 3] rfl (by simp [Da,h]) trivial
  ·exact Uf [.f rfl] rfl (by simp [Da]) trivial
 ·exact Ug func322 rfl [.t (by simpa using hk)] rfl (by simp [Da,hk]) trivial
abbrev zCt:Ur:=[.int .i64 0,.int .i64 0,.int .i64 0,.int .i64 0,.int .i64 0,.nils,.int .i64 0]
def Fo (l:List Ct):Us:=l.map Lx
theorem KD {l:List Ct} {i:Nat} {c:Ct} (h:l[i]? = some c):(Fo l)[i]? = some (Lx c):=G6 h
theorem Nz (l:List Ct):(Fo l).length=l.length:=by simp [Fo]
theorem Qgn (l:List Ct):∀ c∈Fo l,c.length=7:=λc hc=>by
 obtain ⟨x,_,rfl⟩:=Za.1 hc; rfl
theorem Qh4 {O:List Ct} {z:Ur} {c:Ct} {k m:Nat} {l2:Us} (hk:k<=O.length) (hp:JK O c O.length=k) (hm:m=O.length-k) (h2:l2.take m=((Fo O++[z]).drop k).take m) :
 ((Fo O++[z]).take (k+1)++(l2.take m++(Fo O++[z]).drop (k+1+m))).set k (Lx c)=Fo (KO O c):=by
 rw [h2,<-Zd,fG (Fo O) z (Lx c) (by rw [Nz]; omega) (by rw [Nz]; omega)];simp [KO,hp,Fo,Jv,Vh]
theorem xB {l:List Ct} (hl:∀ c∈l,Pb c.p) (hn:l.length≤1000000):Uj 288 [.one (.row (Fo l))] [.one (.row (Fo (Fx l)))]:=by
 have hcl:=Nz l;refine Fw func288 rfl ?_;refine Ud [.o 3 99 7] rfl ?_;refine Ui (S:=Nat) 1 (λL1 i=>(9,.v (.oi i))::(3,.v (.one (.orow 0 7 none)))::L1) (λi=>[.row false 99 7 (Fo (Fx (l.take i)))]) (λi=>l.length-i) (λi=>i<=l.length) 0 (Qh _) rfl rfl λi hi=>?_
 by_cases hlt:i<l.length
 ·obtain ⟨c,hc⟩:=gxE (l:=l) (i:=i) hlt;have hst:=cL hc;have hcp:=hl c (Qc hc);obtain ⟨O,hO⟩:=nmE (Fx (l.take i));have hOl:O.length=i:=by rw [hO,Do,Qq]; omega
  rw [<-hO] at hst ⊢;refine Ud [.t (by simp [hcl]; omega),.x (KD hc)] rfl ?_;refine Ui (S:=Nat) 2 (λL1 k=>(6,.v (.oi k))::L1) (λk=>[.row false 99 7 (Fo O),.blk 99 (Lx c)]) id (λk=>k<=O.length/\JK O c k=JK O c O.length) (Fo O).length ⟨by rw [Nz]; exact Ql _,by rw [Nz]⟩ rfl rfl λk ⟨hk,hp⟩=>?_
  have hz:∀ y∈[zCt],y.length=7:=λy hy=>by rw [Qk.1 hy]; rfl
  have h77:∀ y∈Fo O++[zCt],y.length=7:=λy hy=>by
   rcases Qr.1 hy with hy | hy
   ·exact Qgn O y hy
   ·exact hz y hy
  cases k with
  |
   zero =>
   have hp:JK O c O.length=0:=by rw [<-hp]; rfl
   refine go tt [.g 17 false (by simp),.f rfl,.s (sz:=7) hz,.r 36 (eI (b:=((0+1:Nat):Int)) (by simp)),.i (0+1),.i (0),.s (sz:=7) (λy hy=>h77 y (Qn hy)),.i (O.length),.k (Ht hcp.t (by have:=hcp.l; omega) (U6 hcp.b (by omega))),.i (0)] rfl (by simp [U4,Nz]; omega) ?_;exact rd (i+1) (by omega) hlt (by rw [hst,<-Qh4 (z:=zCt) (l2:=(Fo O++[zCt]).take ((Fo O++[zCt]).length-0)) (k:=0) (m:=O.length) (by omega) hp (by omega) (by congr 1; exact Qo (by simp))]; rfl)
  |
   succ k =>
   obtain ⟨x,hx⟩:=gxE (l:=O) (i:=k) (by omega);by_cases hlc:fN c x=true
   ·refine go tt [.g 17 true (by simp),.r 22 (eI (b:=(k:Int)) (by simp)),.i k,.x (KD hx),.k Qen,.t hlc,.r 29 (eI (b:=(k:Int)) (by simp))] rfl (by simp [U4,Nz]; omega) ?_;exact rd k (by simp) ⟨by omega,by rw [<-hp,Qpm hx hlc]⟩ rfl
   ·have hlc:fN c x=false:=by simpa using hlc
    have hp:JK O c O.length=k+1:=by rw [<-hp,Qjm hx hlc]
    refine go tt [.g 17 true (by simp),.r 22 (eI (b:=(k:Int)) (by simp)),.i k,.x (KD hx),.k Qen,.f hlc,.s (sz:=7) hz,.r 36 (eI (b:=((k+1+1:Nat):Int)) (by simp)),.i (k+1+1),.i (k+1),.s (sz:=7) (λy hy=>h77 y (Qz (Qn hy))),.i (O.length-(k+1)),.k (Ht hcp.t (by have:=hcp.l; omega) (U6 hcp.b (by omega))),.i (k+1)] rfl (by simp [U4,Nz]; omega) ?_;exact rd (i+1) (by omega) hlt (by rw [hst,<-Qh4 (z:=zCt) (l2:=((Fo O++[zCt]).drop (k+1)).take ((Fo O++[zCt]).length-(k+1))) (k:=k+1) (m:=O.length-(k+1)) (by omega) hp (by omega) (by congr 1; exact Qo (by simp))]; rfl)
 ·obtain rfl:i=l.length:=by omega
  rw [Q6];exact Uf [.f (by simp [hcl])] rfl
end Orr
namespace Orr
def Ft (p:Um):Int:=p.getD (p.length-1) 0
def IE (p:Um):Option Um:=if p.length<=64/\(p.all λz=>Nat.ble (Fe z) 16777216)=true then some p else none
def chq (q:Rat):Option Rat:=if Fe q.num<=16777216/\Fe (q.den:Int)<=16777216 then some q else none
def Pg (p:Um):Int:=(Tc p:Nat)
def Db (p:Um) (c:Int):Um:=trim (p.map (· / c))
def Hp (p:Um):Int:=if Ft p<0 then -Pg p else Pg p
def Fi (p:Um):Um:=if p.length=0 then [] else Db p (Hp p)
def mono (i:Nat) (x:Int):Um:=List.replicate i 0++[x]
def rP (b:Um) (c:Int):Nat->Um×Um->Um×Um
 | 0,s=>s
 |
  i+1,(q,r) =>
  rP b c i (A4 (Fv q c) (mono i (if r.length=b.length+i then Ft r else 0)),M4 (Fv r c) (Gl (trim (mono i (if r.length=b.length+i then Ft r else 0))) b))
def Ma (a b:Um):Um:=(rP b (Ft b) (a.length+1-b.length) ([],a)).2
def Bw (a b r:Um):Um:=if (a.length+1-b.length) % 2=1/\Ft b<0 then Mq r else r
def VO (r:Um):Um:=if r.length=0 then [] else Db r (Pg r)
def Te (a b:Um):Um:=VO (Bw a b (Ma a b))
def yD (b:Um):Nat->Um->Um->Option Um
 | 0,a,q=>if a.length=0 then some q else none
 | i+1,a,q=>if a.length<b.length+i then yD b i a q else if Ft a % Ft b=0 then yD b i (M4 a (Gl (trim (mono i (Ft a / Ft b))) b)) (q.set i (Ft a / Ft b)) else none
def JW (a b:Um):Option Um:=if b.length=0 then none else (yD b (a.length+1-b.length) a (List.replicate (a.length+1-b.length) 0)).bind λq=>IE (trim q)
def TM:Nat->Um->Um->Option Um
 | 0,_,_=>none
 | k+1,a,b=>if b.length=0 then some a else (IE (Te a b)).bind λr=>TM k b r
def JF (a b:Um):Option Um:=(TM 66 (Fi a) (Fi b)).map Fi
def yE (a b:Um):Option Um:=(JF [] a).bind λg=>JF g b
def Pm (a:Um):Option Um:=if (Fi a).length<2 then some (Fi a) else (IE (Gx (Fi a))).bind λd=>(JF (Fi a) d).bind λg=>JW (Fi a) g
def RH:Nat->Um->Option Un
 | 0,_=>none
 | k+1,g=>if g.length<2 then some [] else (IE (Gx g)).bind λd=>(JF g d).bind λh=>(JW g h).bind λw=>(RH k h).bind λl=>some (w::l)
def AE:Un->Option Un
 | []=>some []
 | [w]=>some [w]
 | w::v::l=>(JW w v).bind λf=>(AE (v::l)).bind λr=>some (f::r)
def FN:Nat->Um->Un->Option Um
 | _,p,[]=>some p
 | i,p,f::l=>if i % 2=0 then (IE (Gl p f)).bind λq=>FN (i+1) q l else FN (i+1) p l
def bG (a:Um):Option Um:=if (Fi a).length=0 then some [] else (RH 66 (Fi a)).bind λl=>(AE l).bind λfs=>FN 0 [1] fs
def sM:Nat->Um->Um->Option Un
 | 0,_,_=>none
 | k+1,a,b=>if b.length=0 then some [] else (IE (Te a b)).bind λr=>(sM k b (Mq r)).bind λl=>some (b::l)
def Eb (p:Um):Option Un:=(Pm p).bind λa=>if a.length=0 then none else (IE (Gx a)).bind λd=>(sM 66 a (Fi d)).bind λl=>some (a::l)
def Pq (sg:Um->Int) (s:Nat×Int) (p:Um):Nat×Int:=if sg p=0 then s else (if s.2=-(sg p) then s.1+1 else s.1,sg p)
def Cz (sg:Um->Int) (l:Un):Nat:=(l.foldl (Pq sg) (0,0)).1
def C0 (l:Un) (q:Rat):Nat:=Cz (λp=>Re p q) l
def Tq (l:Un) (lo hi:Rat):Int:=if He hi lo<0 then 0 else (C0 l lo:Int)-(C0 l hi:Int)
def UE (p:Um):Int:=Int.sign (Ft p)
def ZR (p:Um):Int:=if p.length % 2=0 then -Int.sign (Ft p) else Int.sign (Ft p)
def WP (l:Un):Int:=(Cz ZR l:Int)-(Cz UE l:Int)
def most:Um->Nat:=λl=>l.foldl (λm z=>if m<z.natAbs then z.natAbs else m) 0
def Gy (p:Um):Rat:=Rat.divInt (((Ft p).natAbs:Int)+(most (p.take (p.length-1)):Int)) ((Ft p).natAbs:Int)
def mid (a b:Rat):Rat:=Rat.divInt (a.num*(b.den:Int)+b.num*(a.den:Int)) ((a.den:Int)*(b.den:Int)*2)
def Il (p:Um) (c:Un):Nat->Rat->Rat->Int->Option (List Tm)
 | 0,_,_,_=>none
 | k+1,lo,hi,n=>if n=0 then some [] else if n=1 then some [⟨p,lo,hi⟩] else (chq (mid lo hi)).bind λm=>(Il p c k lo m (Tq c lo m)).bind λl=>(Il p c k m hi (n-Tq c lo m)).bind λr=>some (l++r)
def SO (p:Um):Option (List Tm):=(Eb p).bind λc=>(Pm p).bind λq=>(chq (Gy q)).bind λb=>Il q c 100000 (-b) b (WP c)
def Tm.point (a:Tm):Bool:=decide (0<=He a.lo a.hi)
def low (p:Um) (q:Rat):Int:=if Re p q≠0 then Re p q else Re (Gx p) q
def FZ (p:Um) (lo hi:Rat):Bool:=decide (Re p hi=0\/Re p hi≠low p lo)
def Fp (a:Tm) (t:Rat):Int :=
 if a.point=true then He a.lo t else if He t a.lo<=0 then 1 else if 0<He t a.hi then -1 else if Re a.p t=0 then 0 else if Re a.p t=low a.p a.lo then 1 else -1
def jB (a:Tm):Option Tm:=if a.point=true then some a else (chq (mid a.lo a.hi)).bind λm =>
 some (if Fp a m=0 then ⟨a.p,m,m⟩ else if Fp a m=-1 then ⟨a.p,a.lo,m⟩ else ⟨a.p,m,a.hi⟩)
def Ha (p:Um):Nat:=p.foldl (λn z=>max n (Fe z)) 0
def P5 (a b:Tm):Nat:=64+2*(Fe a.lo.num+Fe a.hi.num+Fe b.lo.num+Fe b.hi.num)+4*(a.p.length+b.p.length)*(Ha a.p+Ha b.p+(a.p.length+b.p.length)+8)
def EP (a b:Rat):Rat:=Rat.divInt (a.num*(b.den:Int)-b.num*(a.den:Int)) ((a.den:Int)*(b.den:Int))
def D5 (a b:Tm):Bool:=decide (He a.hi b.lo<=0/\¬((a.point=true/\b.point=true)/\He a.hi b.lo=0))
def AN:Nat->Tm->Tm->Option (Tm×Tm×Int)
 | 0,a,b=>some (a,b,0)
 |
  k+1,a,b=>if D5 a b=true then some (a,b,-1) else if D5 b a=true then some (a,b,1) else
  if 0<=He (EP a.hi a.lo) (EP b.hi b.lo) then (jB a).bind λx=>AN k x b else (jB b).bind λx=>AN k a x
def UR (a b:Tm):Option Int:=if a.point=true then some (-Fp b a.lo) else if b.point=true then some (Fp a b.lo) else
 let lo:=if 0<He b.lo a.lo then b.lo else a.lo
 let hi:=if He b.hi a.hi<0 then b.hi else a.hi
 if He lo hi<0 then (yE a.p b.p).bind λg=>if 1<g.length/\FZ g lo hi=true then some 0 else (AN (P5 a b) a b).bind λr=>some r.2.2
 else (AN (P5 a b) a b).bind λr=>some r.2.2
def sgF (c:Un):Nat->Tm->Option Tm
 | 0,a=>some a
 | k+1,a=>if a.point=true\/Tq c a.lo a.hi=0 then some a else (jB a).bind λx=>sgF c k x
def GG (p:Um) (a:Tm):Option Int:=if p.length=0 then some 0 else if a.point=true then some (Re p a.lo) else
 (yE p a.p).bind λg=>if 1<g.length/\FZ g a.lo a.hi=true then some 0 else (Eb p).bind λc=>(sgF c (64+2*(Fe a.lo.num+Fe a.hi.num)+4*(a.p.length+p.length)*(Ha a.p+Ha p+(a.p.length+p.length)+8)) a).bind λx=>some (Re p x.hi)
def QD:Tm->List Tm->Option Tm
 | b,[]=>some b
 | b,a::l=>(UR a b).bind λc=>QD (if c<0 then a else b) l
def VA (a:Tm):List Tm->Option (Option Tm)
 | []=>some none
 | r::l=>(UR r a).bind λc=>if 0<c then some (some r) else VA a l
def WL (p:Um):Option (List Tm):=(bG p).bind λq=>if q.length=0 then some [] else SO q
def SC (p:Um) (a:Tm):Option (Option Tm):=(WL p).bind λl=>VA a l
end Orr
namespace Orr
open Go Go.Proofs Tryz
set_option maxRecDepth 10000
theorem En {p:Um} (tp:Ff p) (h:p.length≠0):Ft p≠0:=H9 tp (by omega)
theorem LZ {p:Um} (h:p.length≠0):Ft p∈p:=Qc (Rw (by omega))
theorem M9 {s:Nat} {p:Um} (h:Bd s p):Fe (Ft p)<=s:=Fu h _
theorem E7 {p:Um}:∀ z∈p,Pg p∣z:=XK
theorem JJ {p:Um} (tp:Ff p) (h:p.length≠0):Pg p≠0:=λh0=>En tp h (Int.zero_dvd.1 (h0 ▸ E7 _ (LZ h)))
theorem YP {p:Um} (h:Bd 4294967295 p):Fe (Pg p)<=4294967295:=MN h
theorem iO {p:Um} (tp:Ff p) (h:p.length≠0):Hp p≠0:=by
 have:=JJ tp h;unfold Hp; split <;> omega
theorem FA {p:Um}:∀ z∈p,Hp p∣z:=λz hz=>by
 unfold Hp; split
 ·exact Uc.2 (E7 z hz)
 ·exact E7 z hz
theorem Qh9 {p:Um} (h:Bd 4294967295 p):Fe (Hp p)<=4294967295:=by
 unfold Hp; split
 ·rw [Hn]; exact YP h
 ·exact YP h
theorem BQ {s:Nat} {p:Um} (h:Bd s p) (c:Int):Bd s (Db p c):=Tz (HW h c)
theorem qK (p:Um) (c:Int):(Db p c).length<=p.length:=Qa (H8 _) (by simp)
theorem ZJ (p:Um) (c:Int):Ff (Db p c):=Rp _
theorem Qjg {p:Um} (h:Pb p) (c:Int):Pb (Db p c):=⟨ZJ _ _,Qa (qK _ _) h.l,BQ h.b c⟩
theorem RO:Pb []:=⟨rfl,by simp,ZD⟩
theorem Ta {p:Um} (h:Pb p):Pb (Fi p):=by
 unfold Fi; split
 ·exact RO
 ·exact Qjg h _
theorem Pb.bd {p:Um} (h:Pb p):Bd 4294967295 p:=U6 h.b (by omega)
theorem Pb.ln {p:Um} (h:Pb p):p.length<274877906944:=Z3 h.l (by omega)
theorem Pb.ln' {p:Um} (h:Pb p):p.length<8589934592:=Z3 h.l (by omega)
theorem QH {p q:Um} (tp:Ff p) (h:IE p=some q):q=p/\Pb p:=by
 unfold IE at h
 split at h
 ·rename_i hc;injection h with h;refine ⟨h.symm,tp,hc.1,λz hz=>?_⟩;have:=Jt.1 hc.2 z hz;exact Zf this
 ·cases h
theorem lS {p:Um} {g:Int} (hl:p.length<274877906944) (hp:Bd 4294967295 p) (hg:Fe g≤4294967295) (h0:g≠0) (hd:∀ z∈p,g∣z):Uj 335 [pr p,.agg (Hg g)] [pr (Db p g)]:=by
 refine Fw func335 rfl ?_;refine Ue [.r 9 (eI (b:=(p.length:Int)) (by simp)),.i p.length,.i p.length,.r 12 (eI (b:=(p.length:Int)) (by simp))] rfl ?_;rw [Ai λk=>Hg (p.getD k 0 / g)];refine Ui (S:=Nat) 2 (λL1 k=>(13,.v (.oi k))::L1) (λk=>[.blk 36 (Hg g),.row false 36 2 (AT (λk=>Hg (p.getD k 0 / g)) [.bool false,.nils] p.length k)]) (λk=>p.length-k) (λk=>k<=p.length) 0 (Qh _) rfl rfl λk hk=>?_
 by_cases hlt:k<p.length
 ·have hg2:=Rw hlt;refine go tt [.t (by simp; omega),.x (Pk hg2),.k (A8 (U5 _) (U5 _) (Fu hp k) hg h0 (Jx (hd _ (Qc hg2)))),.i k] rfl (by simp [U4,Ii]; omega) ?_;have e:=QM (λk=>Hg (p.getD k 0 / g)) [.bool false,.nils] hlt;rw [e];exact rd (k+1) (by omega) hlt rfl
 ·obtain rfl:k=p.length:=by omega
  have e:AT (λk=>Hg (p.getD k 0 / g)) [.bool false,.nils] p.length p.length=(p.map (· / g)).map Hg:=by
   rw [QP];refine Xk λi=>?_
   by_cases hi:i<p.length
   ·simp [X1 hi,List.getD,Qe hi]
   ·simp [Qu,hi]
  rw [e];exact Uf [.f (by simp),.k (Cc (Gp (p.map (· / g))) (by simp; exact hl) (HW hp g))] rfl
theorem HF {p:Um} (hl:p.length<8589934592) (hp:Bd 4294967295 p):Uj 336 [.one (.row [[pl p]])] [.agg (Hg (Pg p))]:=by
 refine Fw func336 rfl ?_;refine Ud [.o 3 36 2] rfl ?_;refine Ui (S:=Nat) 2 (λL1 i=>(8,.v (.oi i))::(3,.v (.one (.orow 1 2 none)))::L1) (λi=>[.blk 36 [.bool false,.nils],.row false 36 2 (if i=0 then [] else p.map Hg)]) (λi=>1-i) (λi=>i<=1) 0 (Qh _) rfl rfl λi hi=>?_
 rcases (show i=0\/i=1 by omega) with rfl | rfl
 ·refine Ue [.t rfl,.x (i:=0) (xs:=[pl p]) rfl,.s (EZ p)] rfl ?_;exact rd 1 (by omega) (by omega) rfl
 ·exact Uf [.f rfl,.k (Qei (Gp p) hp)] rfl
theorem Qfw {p:Um} (tp:Ff p) (hl':p.length<8589934592) (hp:Bd 4294967295 p):Uj 319 [pr p] [.agg (Hg (if p.length=0 then 0 else Hp p)),pr (Fi p)]:=by
 have hl:p.length<274877906944:=by omega
 have cn:=Ht tp hl hp;by_cases h0:p.length=0
 ·have e:p=[]:=Qj h0;subst e;exact Ug func319 rfl [.k cn,.t rfl] rfl (by simp [Li,Fi]; rfl) trivial
 ·have hpf:Fi p=Db p (Hp p):=by unfold Fi; rw [if_neg h0]
  rw [if_neg h0,hpf];have co:=lS hl hp (Qh9 hp) (iO tp h0) FA;by_cases hneg:Ft p<0
  ·have e:Hp p=-Pg p:=by unfold Hp; rw [if_pos hneg]
   rw [e] at co ⊢;exact Ug func319 rfl [.k cn,.f (by simpa using h0),.k (HF hl' hp),.k (Ds tp hl hp),.t (by simpa [Ft] using hneg),.k (BU (U5 _) (YP hp)),.k co] rfl
  ·have e:Hp p=Pg p:=by unfold Hp; rw [if_neg hneg]
   rw [e] at co ⊢;exact Ug func319 rfl [.k cn,.f (by simpa using h0),.k (HF hl' hp),.k (Ds tp hl hp),.f (by simpa [Ft] using hneg),.k co] rfl
theorem A9 {p:Um} (hp:Pb p):Uj 311 [pr p] [pr (Fi p)] :=
 Ug func311 rfl [.k (Qfw hp.t hp.ln' hp.bd)] rfl
theorem P7 (p:Um):Uj 208 [pr p] [.oi ((p.length:Int)-1)]:=by
 have h:Uj 208 [pr p] [.oi (((p.map Hg).length:Int)-1)]:=Fw func208 rfl (ln 0 rfl rfl λhl=>Uf [] rfl rfl (by simp [U4] at hl ⊢; omega));rw [Q7] at h; exact h
theorem Og (i:Nat) (x:Int):(mono i x).length=i+1:=by simp [mono]
theorem NE {s i:Nat} {x:Int} (h:Fe x<=s):Bd s (mono i x):=λz hz=>by
 simp only [mono,Qr,Qk] at hz;rcases hz with hz | rfl
 ·rw [(List.mem_replicate.1 hz).2,Na]; exact Qh _
 ·exact h
def stq (c:Int) (i:Nat) (x:Int) (q:Um):Um:=A4 (Fv q c) (mono i x)
def str (b:Um) (c:Int) (i:Nat) (x:Int) (r:Um):Um:=M4 (Fv r c) (Gl (trim (mono i x)) b)
theorem Qs3 {u t i:Nat} {c x:Int} {q:Um} (hq:Bd u q) (hc:Fe c<=t) (hx:Fe x<=u):Bd (u+t+8) (stq c i x q) :=
 U6 (JO (Gg hq hc) (NE hx)) (by omega)
theorem Qov {c x:Int} {i:Nat} {q:Um}:(stq c i x q).length<=max q.length (i+1):=by
 have h:=Oe (Fv q c) (mono i x);have h1:=Fy q c;rw [Og] at h;unfold stq; omega
theorem jI {i:Nat} {x:Int} {b:Um}:(Gl (trim (mono i x)) b).length<=i+b.length:=by
 have h:=Ty (trim (mono i x)) b;have h1:=H8 (mono i x);rw [Og] at h1; omega
theorem dI {u t i:Nat} {x:Int} {b:Um} (hb:Bd t b) (hx:Fe x<=u) (hi:i<=64):Bd (u+t+7) (Gl (trim (mono i x)) b) :=
 Ph (Tz (NE hx)) hb (Z3 (H8 _) (by rw [Og]; omega))
theorem pV {u t i:Nat} {c x:Int} {b r:Um} (hr:Bd u r) (hb:Bd t b) (hc:Fe c<=t) (hx:Fe x<=u) (hi:i<=64):Bd (u+t+8) (str b c i x r) :=
 U6 (Dq (Gg hr hc) (dI hb hx hi)) (by omega)
theorem jO {c x:Int} {i:Nat} {b r:Um}:(str b c i x r).length<=max r.length (i+b.length):=by
 have h:=Nc (Fv r c) (Gl (trim (mono i x)) b);have h1:=Fy r c;have h2:=jI (i:=i) (x:=x) (b:=b);unfold str; omega
theorem gX (i:Nat) (x:Int):((List.replicate (i+1) (0:Int)).map Hg).set i (Hg x)=(mono i x).map Hg:=by
 rw [bF,mono];congr 1;refine Xk λj=>?_
 simp only [Yn,List.getElem?_append,Jz,Jd];by_cases h:j=i
 ·subst h; simp
 ·rw [if_neg (by omega)];by_cases h2:j<i
  ·simp [h2]; omega
  ·rw [if_neg (by omega),if_neg h2];cases hj:j-i with
   | zero=>omega
   | succ m=>simp
theorem iK (i:Nat) {x:Int} {y:Ur} (h:y.map FT=Hg x):(((List.replicate (i+1) [LV.bool false,LV.nils]).set i y).map λc=>c.map FT)=(mono i x).map Hg:=by
 rw [Vs,NV,h]; exact gX i x
theorem JU {b:Um} {c:Int} {i:Nat} {q r:Um} {x:Int} (hx:x=if r.length=b.length+i then Ft r else 0):rP b c (i+1) (q,r)=rP b c i (stq c i x q,str b c i x r):=by
 subst hx; rfl
theorem Qe0 {a b:Um} (ha:Pb a) (hb:Pb b) (h0:b.length≠0):Uj 333 [pr a,pr b] [pr (rP b (Ft b) (a.length+1-b.length) ([],a)).1,pr (Ma a b),.oi ((a.length+1-b.length:Nat):Int),.oi 0]:=by
 have hal:=ha.l;have hbl:=hb.l;have hlb:Fe (Ft b)<=16777216:=M9 hb.b;obtain ⟨c,hc⟩:=nmE (Ft b);have cl:=Ds hb.t hb.ln hb.bd;rw [show b.getD (b.length-1) 0=c from hc.symm] at cl;obtain ⟨k,hk⟩:=nmE (a.length+1-b.length);unfold Ma;rw [<-hc,<-hk];rw [<-hc] at hlb;refine Fw func333 rfl ?_;refine Ue [.z 4,.k (Ht ha.t ha.ln ha.bd),.k (Ht hb.t hb.ln hb.bd),.f (by simpa using h0),.k cl,.k (P7 a),.k (P7 b),.r 27 (eI (b:=(k:Int)) (by omega))] rfl ?_;refine Ui (S:=Nat×Um×Um) 1 (λL1 s=>(4,.v (pr s.2.1))::(5,.v (pr s.2.2))::(9,.v (.oi ((s.1:Int)-1)))::L1) (λ_=>[.blk 36 (Hg c)]) (λs=>s.1) (λs=>s.1<=k/\Ff s.2.2/\s.2.1.length<=66/\s.2.2.length<=a.length/\Bd (16777216+(k-s.1)*16777224) s.2.1/\Bd (16777216+(k-s.1)*16777224) s.2.2/\rP b c s.1 s.2=rP b c k ([],a)) (k,[],a) ⟨Ql _,ha.t,by simp,Ql _,ZD,by simpa using ha.b,rfl⟩ rfl rfl λ⟨i,q,r⟩ ⟨j1,j2,j3,j4,j5,j6,j7⟩=>?_
 dsimp only at j1 j2 j3 j4 j5 j6 j7 ⊢;rw [<-j7];cases i with
 | zero=>exact Uf [.f (by simp)] rfl
 |
  succ i =>
  obtain ⟨x,hx⟩:=nmE (if r.length=b.length+i then Ft r else 0);obtain ⟨u,hu⟩:=nmE (16777216+(k-(i+1))*16777224);rw [<-hu] at j5 j6;have hub:u<=1107296256:=by
   have:(k-(i+1))*16777224<=64*16777224:=Q0 _ (by omega);omega
  have hxs:Fe x<=u:=by
   rw [hx]; split
   ·exact M9 j6
   ·rw [Na]; exact Qh _
  have cs:=Pn (p:=q) (c:=c) (by omega) (U6 j5 (by omega)) (by omega);have cs2:=Pn (p:=r) (c:=c) (by omega) (U6 j6 (by omega)) (by omega);have l1:=Fy q c;have l2:=Fy r c;have ca:=BG (p:=Fv q c) (q:=mono i x) (by omega) (by rw [Og]; omega) (U6 (Gg j5 hlb) (by omega)) (U6 (NE hxs) (by omega));have cm:=xM (p0:=mono i x) hb.t (by rw [Og]; omega) (by omega) (NE hxs) hb.b (by omega);have l3:=jI (i:=i) (x:=x) (b:=b);have cb:=HG (p:=Fv r c) (q:=Gl (trim (mono i x)) b) (by omega) (by omega) (U6 (Gg j6 hlb) (by omega)) (U6 (dI hb.b hxs (by omega)) (by omega));have hst:=JU (b:=b) (c:=c) (q:=q) hx;have hI:i<=k/\Ff (str b c i x r)/\(stq c i x q).length<=66/\(str b c i x r).length<=a.length/\Bd (16777216+(k-i)*16777224) (stq c i x q)/\Bd (16777216+(k-i)*16777224) (str b c i x r):=by
   have l5:=Qov (c:=c) (x:=x) (i:=i) (q:=q);have l6:=jO (c:=c) (x:=x) (i:=i) (b:=b) (r:=r);have hku:u+16777216+8=16777216+(k-i)*16777224:=by
    rw [hu,show k-i=(k-(i+1))+1 from by omega,X3]; omega
   refine ⟨by omega,Fz _ _,by omega,by omega,?_,?_⟩
   ·rw [<-hku]; exact Qs3 j5 hlb hxs
   ·rw [<-hku]; exact pV j6 hb.b hlb hxs (by omega)
  rw [hst];by_cases h:r.length=b.length+i
  ·refine Ue [.t (by simp <;> omega),.k (P7 r),.k (P7 b),.t (by simp; omega),.k (Ds j2 (by omega) (U6 j6 (by omega))),.r 44 (eI (b:=((i+1:Nat):Int)) (by omega)),.i (i+1),.i (i+1),.r 47 (eI (b:=(i:Int)) (by omega)),.i i] rfl ?_;refine nl 2 rfl rfl rfl ?_;rw [iK i (x:=x) (by rw [hx,if_pos h]; rfl)];refine Ue [.k cs,.k ca,.k cs2,.k cm,.k cb,.r 33 (eI (b:=(i:Int)-1) (by omega))] rfl ?_;exact rd (i,stq c i x q,str b c i x r) (by dsimp only; omega) ⟨hI.1,hI.2.1,hI.2.2.1,hI.2.2.2.1,hI.2.2.2.2.1,hI.2.2.2.2.2,rfl⟩ rfl
  ·refine Ue [.t (by simp <;> omega),.k (P7 r),.k (P7 b),.f (by simp; omega),.r 44 (eI (b:=((i+1:Nat):Int)) (by omega)),.i (i+1),.i (i+1),.r 47 (eI (b:=(i:Int)) (by omega)),.i i] rfl ?_;refine nl 2 rfl rfl rfl ?_;rw [iK i (x:=x) (by rw [hx,if_neg h,Li]; rfl)];refine Ue [.k cs,.k ca,.k cs2,.k cm,.k cb,.r 33 (eI (b:=(i:Int)-1) (by omega))] rfl ?_;exact rd (i,stq c i x q,str b c i x r) (by dsimp only; omega) ⟨hI.1,hI.2.1,hI.2.2.1,hI.2.2.2.1,hI.2.2.2.2.1,hI.2.2.2.2.2,rfl⟩ rfl
theorem Qjp {b:Um} {c:Int} (hb:Bd 16777216 b) (hc:Fe c<=16777216) {n:Nat}:∀ (i u:Nat) (q r:Um),i<=64->i+b.length<=n+1->Ff r->r.length<=n->Bd u r->Ff (rP b c i (q,r)).2/\(rP b c i (q,r)).2.length<=n/\Bd (u+i*16777224) (rP b c i (q,r)).2
 | 0,u,q,r,_,_,h1,h2,h3=>⟨h1,h2,by simpa [rP] using h3⟩
 |
  i+1,u,q,r,hi,hn,h1,h2,h3=>by
  rw [JU rfl];have hx:Fe (if r.length=b.length+i then Ft r else 0)<=u:=by
   split
   ·exact M9 h3
   ·rw [Na]; exact Qh _
  have l6:=jO (c:=c) (x:=if r.length=b.length+i then Ft r else 0) (i:=i) (b:=b) (r:=r);have:=Qjp hb hc (n:=n) i (u+16777216+8) (stq c i (if r.length=b.length+i then Ft r else 0) q) (str b c i (if r.length=b.length+i then Ft r else 0) r) (by omega) (by omega) (Fz _ _) (by omega) (pV h3 hb hc hx (by omega));exact ⟨this.1,this.2.1,U6 this.2.2 (by omega)⟩
theorem oY {a b:Um} (ha:Pb a) (hb:Pb b) (h0:b.length≠0):Ff (Ma a b)/\(Ma a b).length<=a.length/\Bd 1107296256 (Ma a b):=by
 have hal:=ha.l;by_cases h:b.length<=a.length+1
 ·obtain ⟨h1,h2,h3⟩:=Qjp hb.b (M9 hb.b) (n:=a.length) (a.length+1-b.length) 16777216 [] a (by omega) (by omega) ha.t (Ql _) ha.b;refine ⟨h1,h2,U6 h3 ?_⟩;have:(a.length+1-b.length)*16777224<=64*16777224:=Q0 _ (by omega);omega
 ·have e:Ma a b=a:=by unfold Ma; rw [show a.length+1-b.length=0 from by omega]; rfl
  rw [e];exact ⟨ha.t,Ql _,U6 ha.b (by omega)⟩
theorem GZ {a b r:Um} {s n:Nat} (h1:Ff r) (h2:r.length<=n) (h3:Bd s r):Ff (Bw a b r)/\(Bw a b r).length<=n/\Bd s (Bw a b r):=by
 unfold Bw; split
 ·exact ⟨Fz _ _,Qa (XN r) h2,MZ h3⟩
 ·exact ⟨h1,h2,h3⟩
theorem EJ {r:Um} {s n:Nat} (h2:r.length<=n) (h3:Bd s r):Ff (VO r)/\(VO r).length<=n/\Bd s (VO r):=by
 unfold VO; split
 ·exact ⟨rfl,by simp,ZD⟩
 ·exact ⟨ZJ _ _,Qa (qK _ _) h2,BQ h3 _⟩
theorem FO {a b:Um} (ha:Pb a) (hb:Pb b) (h0:b.length≠0):Ff (Te a b)/\(Te a b).length<=a.length/\Bd 1107296256 (Te a b):=by
 obtain ⟨h1,h2,h3⟩:=oY ha hb h0;obtain ⟨h4,h5,h6⟩:=GZ (a:=a) (b:=b) h1 h2 h3;exact EJ h5 h6
theorem Qe5 {a b:Um} (ha:Pb a) (hb:Pb b) (h0:b.length≠0):Uj 312 [pr a,pr b] [pr (Te a b),.oi 0]:=by
 obtain ⟨h1,h2,h3⟩:=oY ha hb h0;obtain ⟨h4,h5,h6⟩:=GZ (a:=a) (b:=b) h1 h2 h3;have hal:=ha.l;have cp:=Qe0 ha hb h0;have cl:=Ds hb.t hb.ln hb.bd;have cn:=Qew (p:=Ma a b) (by omega) (U6 h3 (by omega));unfold Te;obtain ⟨r,hr⟩:=nmE (Bw a b (Ma a b));have cc:=HF (p:=r) (by rw [hr]; omega) (by rw [hr]; exact U6 h6 (by omega));rw [<-hr] at h4 h5 h6 ⊢;obtain ⟨k,hk⟩:=nmE (a.length+1-b.length);rw [<-hk] at cp;have em:((k:Int).tmod 2)=((k % 2:Nat):Int):=by rw [Y5 (by omega)]; omega
 have key:VO r=if r.length=0 then [] else Db r (Pg r):=rfl
 by_cases hz:r.length=0
 ·rw [key,if_pos hz];by_cases hodd:k % 2=1
  ·by_cases hneg:Ft b<0
   ·have e:r=Mq (Ma a b):=by rw [hr]; unfold Bw; rw [if_pos ⟨by rw [<-hk]; exact hodd,hneg⟩]
    rw [e] at hz;exact Ug func312 rfl [.k cp,.f (by simp),.r 22 (eI em),.t (by simp; omega),.k cl,.t (by simpa [Ft] using hneg),.k cn,.t (by simpa using hz)] rfl rfl (by simp [U4])
   ·have e:r=Ma a b:=by rw [hr]; unfold Bw; rw [if_neg (λh=>hneg h.2)]
    rw [e] at hz;exact Ug func312 rfl [.k cp,.f (by simp),.r 22 (eI em),.t (by simp; omega),.k cl,.f (by simpa [Ft] using hneg),.t (by simpa using hz)] rfl rfl (by simp [U4])
  ·have e:r=Ma a b:=by rw [hr]; unfold Bw; rw [if_neg (λh=>hodd (by rw [hk]; exact h.1))]
   rw [e] at hz;exact Ug func312 rfl [.k cp,.f (by simp),.r 22 (eI em),.f (by simp; omega),.f rfl,.t (by simpa using hz)] rfl rfl (by simp [U4])
 ·rw [key,if_neg hz];have cd:=lS (p:=r) (g:=Pg r) (by omega) (U6 h6 (by omega)) (YP (U6 h6 (by omega))) (JJ h4 hz) E7;by_cases hodd:k % 2=1
  ·by_cases hneg:Ft b<0
   ·have e:r=Mq (Ma a b):=by rw [hr]; unfold Bw; rw [if_pos ⟨by rw [<-hk]; exact hodd,hneg⟩]
    rw [e] at hz cc cd ⊢;exact Ug func312 rfl [.k cp,.f (by simp),.r 22 (eI em),.t (by simp; omega),.k cl,.t (by simpa [Ft] using hneg),.k cn,.f (by simpa using hz),.k cc,.k cd] rfl rfl (by simp [U4])
   ·have e:r=Ma a b:=by rw [hr]; unfold Bw; rw [if_neg (λh=>hneg h.2)]
    rw [e] at hz cc cd ⊢;exact Ug func312 rfl [.k cp,.f (by simp),.r 22 (eI em),.t (by simp; omega),.k cl,.f (by simpa [Ft] using hneg),.f (by simpa using hz),.k cc,.k cd] rfl rfl (by simp [U4])
  ·have e:r=Ma a b:=by rw [hr]; unfold Bw; rw [if_neg (λh=>hodd (by rw [hk]; exact h.1))]
   rw [e] at hz cc cd ⊢;exact Ug func312 rfl [.k cp,.f (by simp),.r 22 (eI em),.f (by simp; omega),.f rfl,.f (by simpa using hz),.k cc,.k cd] rfl rfl (by simp [U4])
theorem Qot {s:Nat} {x:Int} (h:Fe x<=s) (g:Int):Fe (x / g)<=s:=HW (p:=[x]) (λz hz=>by rw [Qk.1 hz]; exact h) g _ (by simp)
def sta (b:Um) (i:Nat) (x:Int) (a:Um):Um:=M4 a (Gl (trim (mono i x)) b)
theorem Qs2 {u t i:Nat} {x:Int} {b a:Um} (ha:Bd u a) (hb:Bd t b) (hx:Fe x<=u) (hi:i<=64):Bd (u+t+8) (sta b i x a) :=
 U6 (Dq ha (dI hb hx hi)) (by omega)
theorem aA {x:Int} {i:Nat} {b a:Um}:(sta b i x a).length<=max a.length (i+b.length):=by
 have h:=Nc a (Gl (trim (mono i x)) b);have h2:=jI (i:=i) (x:=x) (b:=b);unfold sta; omega
theorem Qmg (s n:Nat):Bd s (List.replicate n 0):=λz hz=>by rw [(List.mem_replicate.1 hz).2,Na]; exact Qh _
theorem Qs1 {s i:Nat} {l:Um} {x:Int} (h:Bd s l) (hx:Fe x<=s):Bd s (l.set i x):=λz hz=>by
 rcases Jp hz with hz | rfl
 ·exact h z hz
 ·exact hx
theorem Qeu {a b q:Um} (ha:Pb a) (hb:Pb b) (h:JW a b=some q):Uj 349 [pr a,pr b] [pr q,.oi 0]:=by
 unfold JW at h
 split at h
 ·cases h
 rename_i h0;obtain ⟨k,hk⟩:=nmE (a.length+1-b.length);rw [<-hk] at h;obtain ⟨q',hq,hq2⟩:=Qd.1 h;obtain ⟨rfl,hpb⟩:=QH (Rp _) hq2;have hal:=ha.l;have hbl:=hb.l;refine Fw func349 rfl ?_;refine Ue [.k (Ht ha.t ha.ln ha.bd),.k (Ht hb.t hb.ln hb.bd),.f (by simpa using h0),.r 24 (eI (b:=(k:Int)) (by simp; omega)),.i k,.i k,.r 27 (eI (b:=(k:Int)) (by simp))] rfl ?_;refine nl 0 rfl rfl rfl ?_;rw [NV];refine Ui (S:=Nat×Um×Um) 1 (λL1 s=>(0,.v (pr s.2.1))::(7,.v (.oi ((s.1:Int)-1)))::L1) (λs=>[.row false 36 2 (s.2.2.map Hg)]) (λs=>s.1) (λs=>s.1<=k/\Ff s.2.1/\s.2.1.length<=a.length/\Bd (16777216+(k-s.1)*16777224) s.2.1/\s.2.2.length=k/\Bd 1107296256 s.2.2/\yD b s.1 s.2.1 s.2.2=some q') (k,a,List.replicate k 0) ⟨Ql _,ha.t,Ql _,by simpa using ha.b,by simp,Qmg _ _,hq⟩ rfl rfl λ⟨i,A,Q⟩ ⟨j1,j2,j3,j4,j5,j7,j6⟩=>?_
 dsimp only at j1 j2 j3 j4 j5 j6 j7 ⊢;cases i with
 |
  zero =>
  simp only [yD] at j6
  split at j6
  ·rename_i hA;injection j6 with j6; subst j6;exact Uf [.f (by simp),.f (by simpa using hA),.k (Cc (Gp Q) (by omega) (U6 j7 (by omega)))] rfl
  ·cases j6
 |
  succ i =>
  obtain ⟨u,hu⟩:=nmE (16777216+(k-(i+1))*16777224);rw [<-hu] at j4;have hub:u<=1107296256:=by
   have:(k-(i+1))*16777224<=64*16777224:=Q0 _ (by omega);omega
  have hku:u+16777216+8=16777216+(k-i)*16777224:=by
   rw [hu,show k-i=(k-(i+1))+1 from by omega,X3]; omega
  simp only [yD] at j6;by_cases hlt:A.length<b.length+i
  ·rw [if_pos hlt] at j6;refine Ue [.t (by simp <;> omega),.k (P7 A),.k (P7 b),.t (by simp; omega),.r 32 (eI (b:=(i:Int)-1) (by omega))] rfl ?_;exact rd (i,A,Q) (by dsimp only; omega) ⟨by dsimp only; omega,j2,j3,U6 j4 (by dsimp only; omega),j5,j7,j6⟩ rfl
  ·rw [if_neg hlt] at j6
   split at j6
   ·rename_i hdv;obtain ⟨x,hx⟩:=nmE (Ft A / Ft b);rw [<-hx] at j6;have hxs:Fe x<=u:=by rw [hx]; exact Qot (M9 j4) _
    have ce:=A8 (U5 (Ft A)) (U5 (Ft b)) (Qa (M9 j4) (by omega)) (Qa (M9 hb.b) (by omega)) (En hb.t h0) hdv;rw [<-hx] at ce;have cm:Uj 266 [.one (.row ((mono i x).map Hg)),pr b] [pr (Gl (trim (mono i x)) b)]:=xM (p0:=mono i x) hb.t (by rw [Og]; omega) (by omega) (NE hxs) hb.b (by omega);have l3:=jI (i:=i) (x:=x) (b:=b);have l4:=aA (i:=i) (x:=x) (b:=b) (a:=A);have cb:=HG (p:=A) (q:=Gl (trim (mono i x)) b) (by omega) (by omega) (U6 j4 (by omega)) (U6 (dI hb.b hxs (by omega)) (by omega));refine Ue [.t (by simp <;> omega),.k (P7 A),.k (P7 b),.f (by simp; omega),.k (Ds j2 (by omega) (U6 j4 (by omega))),.k (Ds hb.t hb.ln hb.bd),.k ce,.f rfl,.r 51 (eI (b:=(i:Int)) (by omega)),.i i,.r 55 (eI (b:=((i+1:Nat):Int)) (by omega)),.i (i+1),.i (i+1),.r 58 (eI (b:=(i:Int)) (by omega))] rfl ?_;refine nl 2 rfl rfl rfl ?_;rw [NV,bF];rw [<-gX i x] at cm;refine Ue [.i i,.k cm,.k cb,.r 32 (eI (b:=(i:Int)-1) (by omega))] rfl ?_;exact rd (i,sta b i x A,Q.set i x) (by dsimp only; omega) ⟨by dsimp only; omega,Fz _ _,by dsimp only; omega,by dsimp only; rw [<-hku]; exact Qs2 j4 hb.b hxs (by omega),by simpa using j5,Qs1 j7 (Nat.le_trans hxs hub),j6⟩ rfl
   ·cases j6
theorem bW {a b q:Um} (h:JW a b=some q):Pb q:=by
 unfold JW at h
 split at h
 ·cases h
 ·obtain ⟨q',_,hq2⟩:=Qd.1 h;obtain ⟨rfl,hpb⟩:=QH (Rp _) hq2;exact hpb
theorem Qf1 {a b q:Um} (ha:Pb a) (hb:Pb b) (h:JW a b=some q):Uj 338 [pr a,pr b] [pr q] :=
 Ug func338 rfl [.k (Qeu ha hb h)] rfl
theorem vL:∀ {k:Nat} {a b g:Um},Pb a->Pb b->TM k a b=some g->Pb g
 | 0,_,_,_,_,_,h=>by cases h
 |
  k+1,a,b,g,ha,hb,h=>by
  simp only [TM] at h
  split at h
  ·injection h with h; subst h; exact ha
  ·rename_i h0;obtain ⟨r,hr,h⟩:=Qd.1 h;obtain ⟨rfl,hpb⟩:=QH (FO ha hb h0).1 hr;exact vL hb hpb h
theorem lI {a b g:Um} (ha:Pb a) (hb:Pb b) (h:JF a b=some g):Uj 272 [pr a,pr b] [pr g]:=by
 unfold JF at h;obtain ⟨g',h2,rfl⟩:=Yx.1 h;have hg:=vL (Ta ha) (Ta hb) h2;refine Fw func272 rfl ?_;refine Ud [.k (A9 ha),.k (A9 hb)] rfl ?_;refine Ui (S:=Nat×Um×Um) 0 (λL1 s=>(0,.v (pr s.2.1))::(1,.v (pr s.2.2))::L1) (λ_=>[]) (λs=>s.1) (λs=>Pb s.2.1/\Pb s.2.2/\TM s.1 s.2.1 s.2.2=some g') (66,Fi a,Fi b) ⟨Ta ha,Ta hb,h2⟩ rfl rfl λ⟨k,A,C⟩ ⟨j1,j2,j3⟩=>?_
 dsimp only at j1 j2 j3 ⊢;cases k with
 | zero=>cases j3
 |
  succ k =>
  simp only [TM] at j3
  split at j3
  ·rename_i h0;injection j3 with j3; subst j3;exact Uf [.f (by simpa using h0),.k (A9 j1)] rfl
  ·rename_i h0;obtain ⟨r,hr,j3⟩:=Qd.1 j3;obtain ⟨rfl,hpb⟩:=QH (FO j1 j2 h0).1 hr;refine Ud [.t (by simp; omega),.k (Qe5 j1 j2 h0)] rfl ?_;exact rd (k,C,Te A C) (by dsimp only; omega) ⟨j2,hpb,j3⟩ rfl
theorem TZ {a b g:Um} (ha:Pb a) (hb:Pb b) (h:JF a b=some g):Pb g:=by
 unfold JF at h;obtain ⟨g',h2,rfl⟩:=Yx.1 h;exact Ta (vL (Ta ha) (Ta hb) h2)
theorem Qev {a b g:Um} (ha:Pb a) (hb:Pb b) (h:yE a b=some g):Uj 227 [.one (.row (Pe [a,b]))] [pr g]:=by
 unfold yE at h;obtain ⟨g1,h1,h2⟩:=Qd.1 h;have hg1:=TZ RO ha h1;refine Fw func227 rfl ?_;refine Ud [.z 3] rfl ?_;refine Ui (S:=Nat) 0 (λL1 i=>(8,.v (.oi i))::(3,.v (pr (if i=0 then [] else if i=1 then g1 else g)))::L1) (λ_=>[]) (λi=>2-i) (λi=>i<=2) 0 (Qh _) rfl rfl λi hi=>?_
 rcases (show i=0\/i=1\/i=2 by omega) with rfl | rfl | rfl
 ·refine Ud [.t rfl,.x (Ro (i:=0) (p:=a) rfl),.k (lI RO ha h1)] rfl ?_ (by simp [U4]);exact rd 1 (by omega) (by omega) rfl
 ·refine Ud [.t rfl,.x (Ro (i:=1) (p:=b) rfl),.k (lI hg1 hb h2)] rfl ?_ (by simp [U4]);exact rd 2 (by omega) (by omega) rfl
 ·exact Uf [.f rfl] rfl
theorem Qjd {a b g:Um} (ha:Pb a) (hb:Pb b) (h:yE a b=some g):Pb g:=by
 unfold yE at h;obtain ⟨g1,h1,h2⟩:=Qd.1 h;exact TZ (TZ RO ha h1) hb h2
theorem LA {p d:Um} (h:IE (Gx p)=some d):d=Gx p/\Pb (Gx p):=QH (Fz _ _) h
theorem BS {a g:Um} (ha:Pb a) (h:Pm a=some g):Uj 318 [pr a] [pr g]:=by
 have hp:=Ta ha;unfold Pm at h
 split at h
 ·rename_i h0;injection h with h; subst h;exact Ug func318 rfl [.k (A9 ha),.k (P7 _),.t (by simp; omega)] rfl
 ·rename_i h0;obtain ⟨d,h1,h⟩:=Qd.1 h;obtain ⟨rfl,hd⟩:=LA h1;obtain ⟨g1,h1,h⟩:=Qd.1 h;exact Ug func318 rfl [.k (A9 ha),.k (P7 _),.f (by simp; omega),.k (I1 hp.ln hp.bd),.k (lI hp hd h1),.k (Qf1 hp (TZ hp hd h1) h)] rfl
theorem TQ {a g:Um} (ha:Pb a) (h:Pm a=some g):Pb g:=by
 unfold Pm at h
 split at h
 ·injection h with h; subst h; exact Ta ha
 ·obtain ⟨d,h1,h⟩:=Qd.1 h;obtain ⟨g1,h1,h⟩:=Qd.1 h;exact bW h
theorem Qje {p:Um} (h:Pb p):Pb (Mq p):=⟨Fz _ _,Qa (XN p) h.l,MZ h.b⟩
theorem mW:∀ {k:Nat} {a b:Um} {l:Un},Pb a->Pb b->sM k a b=some l->l.length≤k/\∀ p∈l,Pb p
 | 0,_,_,_,_,_,h=>by cases h
 |
  k+1,a,b,l,ha,hb,h=>by
  simp only [sM] at h
  split at h
  ·injection h with h; subst h; exact ⟨by simp,λp hp=>by cases hp⟩
  ·rename_i h0;obtain ⟨r,hr,h⟩:=Qd.1 h;obtain ⟨rfl,hpb⟩:=QH (FO ha hb h0).1 hr;obtain ⟨l',h1,h⟩:=Qd.1 h;injection h with h; subst h;obtain ⟨i1,i2⟩:=mW hb (Qje hpb) h1;refine ⟨by simp; exact i1,λp hp=>?_⟩;rcases Qm.1 hp with rfl | hp
   ·exact hb
   ·exact i2 p hp
theorem chain_ok {p:Um} {l:Un} (hp:Pb p) (h:Eb p=some l):l.length≤67/\∀ q∈l,Pb q:=by
 unfold Eb at h;obtain ⟨a,h1,h⟩:=Qd.1 h;have ha:=TQ hp h1
 split at h
 ·cases h
 ·obtain ⟨d,h2,h⟩:=Qd.1 h;obtain ⟨rfl,hd⟩:=LA h2;obtain ⟨l',h3,h⟩:=Qd.1 h;injection h with h; subst h;obtain ⟨i1,i2⟩:=mW ha (Ta hd) h3;refine ⟨by simp; omega,λp hp=>?_⟩;rcases Qm.1 hp with rfl | hp
  ·exact ha
  ·exact i2 p hp
theorem EX (l:Un) (p:Um):Pe l++[[pl p]]=Pe (l++[p]):=by simp [Pe]
theorem E8 (l:Un):(Pe l).length=l.length:=by simp [Pe]
theorem Qe8 {p:Um} {l:Un} (hp:Pb p) (h:Eb p=some l):Uj 281 [pr p] [.one (.sh [.row (Pe l)]),.oi 0]:=by
 unfold Eb at h;obtain ⟨a,h1,h⟩:=Qd.1 h;have ha:=TQ hp h1
 split at h
 ·cases h
 rename_i h0;obtain ⟨d,h2,h⟩:=Qd.1 h;obtain ⟨rfl,hd⟩:=LA h2;obtain ⟨l',h3,h⟩:=Qd.1 h;injection h with h; subst h;refine Fw func281 rfl ?_;refine Ud [.k (BS hp h1),.f (by simpa using h0),.lo,.k (I1 ha.ln ha.bd),.k (Qfw hd.t hd.ln' hd.bd)] rfl ?_ (by simp [U4]);obtain ⟨z,hz⟩:=nmE (if (Gx a).length=0 then 0 else Hp (Gx a));rw [<-hz];refine sb [(4,.v (pr a)),(7,.v (pr (Fi (Gx a)))),(5,.v (.one (.ow 1 0)))] [.row false 33 1 [[pl a]],.blk 369 [.orow 0 1 none],.blk 36 (Hg z)] rfl rfl ?_;have hll:=(mW ha (Ta hd) h3).1;refine Ui (S:=Nat×Un×Um×Um) 3 (λL1 s=>(4,.v (pr s.2.2.1))::(7,.v (pr s.2.2.2))::L1) (λs=>[.row false 33 1 (Pe s.2.1),.blk 369 [.orow 0 1 none],.blk 36 (Hg z)]) (λs=>s.1) (λs=>Pb s.2.2.1/\Pb s.2.2.2/\∃ m,sM s.1 s.2.2.1 s.2.2.2=some m/\s.2.1++m=a::l') (66,[a],a,Fi (Gx a)) ⟨ha,Ta hd,l',h3,rfl⟩ rfl rfl λ⟨k,out,A,C⟩ ⟨j1,j2,m,j3,j4⟩=>?_
 dsimp only at j1 j2 j3 j4 ⊢;have hol:out.length<=67:=by have:=congrArg List.length j4; simp at this; omega
 cases k with
 | zero=>cases j3
 |
  succ k =>
  simp only [sM] at j3
  split at j3
  ·rename_i h0;injection j3 with j3; subst j3;rw [Zv] at j4;rw [<-j4];exact Uf [.f (by simpa using h0)] rfl
  ·rename_i h0;obtain ⟨r,hr,j3⟩:=Qd.1 j3;obtain ⟨rfl,hpb⟩:=QH (FO j1 j2 h0).1 hr;obtain ⟨m',j6,j5⟩:=Qd.1 j3;injection j5 with j5; subst j5;refine go tt [.t (by simp; omega),.s (sz:=1) (λc hc=>by rw [Qk.1 hc]; rfl),.k (Qe5 j1 j2 h0),.k (Qew hpb.ln hpb.bd)] rfl (by simp [U4,E8]; omega) ?_;exact rd (k,out++[C],C,Mq (Te A C)) (by dsimp only; omega) ⟨j2,Qje hpb,m',j6,by rw [<-j4]; simp⟩ (by rw [EX]; rfl)
structure Tb (t:Tm):Prop where
 p:Pb t.p
 lo:Qb t.lo
 hi:Qb t.hi
theorem eS (x y:Int):-1<=D7 x y/\D7 x y<=1:=by unfold D7; split <;> (try split) <;> omega
theorem QR (a b:Rat):-1<=He a b/\He a b<=1:=eS _ _
theorem Oz (p:Um) (q:Rat):-1<=Re p q/\Re p q<=1:=eS _ _
theorem nN (p:Um) (q:Rat):-1<=low p q/\low p q<=1:=by unfold low; split <;> exact Oz _ _
theorem Qb.s31 {q:Rat} (h:Qb q):Qs 2147483647 q:=h.mono (by decide)
theorem Qb.s32 {q:Rat} (h:Qb q):Qs 4294967295 q:=h.mono (by decide)
theorem PH {p:Um} {q:Rat} (hp:Pb p) (hq:Qb q):Uj 270 [pr p,.agg (rl q)] [.oi (Re p q)]:=by
 have hm:p.length*(16777216+1)<=64*16777217:=Q0 _ hp.l;exact lW hp.t hp.ln hp.b hq (by omega)
theorem Qxn {p:Um} {q:Rat} (hp:Pb p) (hq:Qb q):Uj 270 [pr (Gx p),.agg (rl q)] [.oi (Re (Gx p) q)]:=by
 have hl:=Qa (Nb p) (show p.length-1<=64 by have:=hp.l; omega);have hm:(Gx p).length*(16777216+1)<=64*16777217:=Q0 _ hl;exact lW (Fz _ _) (Z3 hl (by omega)) (xH (t:=6) hp.b hp.l) hq (by omega)
theorem D6 {t:Tm} (ht:Tb t):Uj 225 [.agg (ta t)] [.one (.bool t.point)] :=
 Ug func225 rfl [.k (Ce ht.lo.s31 ht.hi.s31)] rfl
theorem MW {t:Tm} (ht:Tb t):Uj 224 [.agg (ta t)] [.agg (ta t)] :=
 Ug func224 rfl [.k (Ht ht.p.t ht.p.ln ht.p.bd),.k (Nu ht.lo.s32),.k (Nu ht.hi.s32)] rfl
theorem Qf9 {t:Tm} (ht:Tb t):Uj 163 [.agg (ta t)] [.agg (ta t)]:=Ug func163 rfl [.k (MW ht)] rfl
theorem Qfq {p:Um} {q:Rat} (hp:Pb p) (hq:Qb q):Uj 271 [pr p,.agg (rl q)] [.oi (low p q)]:=by
 unfold low;by_cases h:Re p q=0
 ·rw [if_neg (by simpa using h)];exact Ug func271 rfl [.k (PH hp hq),.f (by simpa using h),.k (I1 hp.ln hp.bd),.k (Qxn hp hq)] rfl
 ·rw [if_pos h];exact Ug func271 rfl [.k (PH hp hq),.t (by simpa using h)] rfl
theorem Qfo {p:Um} {lo hi:Rat} (hp:Pb p) (hl:Qb lo) (hh:Qb hi):Uj 228 [pr p,.agg (rl lo),.agg (rl hi)] [.one (.bool (FZ p lo hi))]:=by
 by_cases h:Re p hi=0
 ·exact Ug func228 rfl [.k (PH hp hh),.t (by simpa using h)] rfl (by simp [FZ,h]) trivial
 ·exact Ug func228 rfl [.k (PH hp hh),.f (by simpa using h),.k (Qfq hp hl)] rfl (by simp [FZ,h]) trivial
theorem Df {t:Tm} {q:Rat} (ht:Tb t) (hq:Qb q):Uj 226 [.agg (ta t),.agg (rl q)] [.oi (Fp t q)]:=by
 have cp:=D6 ht;unfold Fp;by_cases h1:t.point=true
 ·rw [if_pos h1];exact Ug func226 rfl [.k cp,.t h1,.k (Ce ht.lo.s31 hq.s31)] rfl
 rw [if_neg h1];have h1:t.point=false:=by simpa using h1
 have c1:=Ce hq.s31 ht.lo.s31;have c2:=Ce hq.s31 ht.hi.s31;by_cases h2:He q t.lo<=0
 ·rw [if_pos h2];exact Ug func226 rfl [.k cp,.f h1,.k c1,.t (by simpa using h2)] rfl
 rw [if_neg h2];by_cases h3:0<He q t.hi
 ·rw [if_pos h3];exact Ug func226 rfl [.k cp,.f h1,.k c1,.f (by simpa using h2),.k c2,.t (by simpa using h3)] rfl
 rw [if_neg h3];by_cases h4:Re t.p q=0
 ·rw [if_pos h4];exact Ug func226 rfl [.k cp,.f h1,.k c1,.f (by simpa using h2),.k c2,.f (by simpa using h3),.k (PH ht.p hq),.t (by simpa using h4)] rfl
 rw [if_neg h4];by_cases h5:Re t.p q=low t.p t.lo
 ·rw [if_pos h5];exact Ug func226 rfl [.k cp,.f h1,.k c1,.f (by simpa using h2),.k c2,.f (by simpa using h3),.k (PH ht.p hq),.f (by simpa using h4),.k (Qfq ht.p ht.lo),.t (by simpa using h5)] rfl
 ·rw [if_neg h5];exact Ug func226 rfl [.k cp,.f h1,.k c1,.f (by simpa using h2),.k c2,.f (by simpa using h3),.k (PH ht.p hq),.f (by simpa using h4),.k (Qfq ht.p ht.lo),.f (by simpa using h5)] rfl
theorem Qn1 (t:Tm) (q:Rat):-1<=Fp t q/\Fp t q<=1:=by
 unfold Fp;have:=QR t.lo q
 repeat' split
 all_goals omega
theorem Qn8 (q:Rat):0<(q.den:Int):=by have:=q.den_pos; omega
theorem Qrl {a b:Rat} (ha:Qb a) (hb:Qb b):Uj 314 [.agg (rl a),.agg (rl b)] [.agg (rl (mid a b))]:=by
 have h1:Fe (a.num*(b.den:Int))<=33554432:=Qa (Gb _ _) (by have:=ha.1; have:=hb.2; omega);have h2:Fe (b.num*(a.den:Int))<=33554432:=Qa (Gb _ _) (by have:=hb.1; have:=ha.2; omega);have h3:Fe ((a.den:Int)*(b.den:Int))<=33554432:=Qa (Gb _ _) (by have:=ha.2; have:=hb.2; omega);have h4:Fe (2:Int)<=2:=by decide
 have h5:Fe (a.num*(b.den:Int)+b.num*(a.den:Int))<=33554433:=Qa (QC _ _) (by omega);have h6:Fe ((a.den:Int)*(b.den:Int)*2)<=33554434:=Qa (Gb _ _) (by omega);have h0:(a.den:Int)*(b.den:Int)*2≠0:=by
  have:=Int.mul_pos (Qn8 a) (Qn8 b); omega
 exact Ug func314 rfl [.k (xE ha.s31 hb.s31),.k (KG (U5 _) (U5 _) (by omega) (by omega)),.k (BF (z:=2) (by decide)),.k (Px (U5 _) (U5 _) (by omega) (by omega)),.k (ZE h0 (by omega) (by omega))] rfl
theorem jQ {a b:Rat} (ha:Qb a) (hb:Qb b):Uj 274 [.agg (rl a),.agg (rl b)] [.agg (rl (EP a b))]:=by
 have h1:Fe (a.num*(b.den:Int))<=33554432:=Qa (Gb _ _) (by have:=ha.1; have:=hb.2; omega);have h2:Fe (b.num*(a.den:Int))<=33554432:=Qa (Gb _ _) (by have:=hb.1; have:=ha.2; omega);have h3:Fe ((a.den:Int)*(b.den:Int))<=33554432:=Qa (Gb _ _) (by have:=ha.2; have:=hb.2; omega);have h5:Fe (a.num*(b.den:Int)-b.num*(a.den:Int))<=33554433:=Qa (jA _ _) (by omega);have h0:(a.den:Int)*(b.den:Int)≠0:=by
  have:=Int.mul_pos (Qn8 a) (Qn8 b); omega
 exact Ug func274 rfl [.k (xE ha.s31 hb.s31),.k (Qfh (U5 _) (U5 _) (by omega) (by omega)),.k (ZE h0 (by omega) (by omega))] rfl
theorem CZ {q r:Rat} (h:chq q=some r):r=q/\Qb q:=by
 unfold chq at h
 split at h
 ·rename_i hc; injection h with h; exact ⟨h.symm,hc⟩
 ·cases h
theorem mZ {t u:Tm} (ht:Tb t) (h:jB t=some u):Uj 275 [.agg (ta t)] [.agg (ta u)]:=by
 have cp:=D6 ht;unfold jB at h
 split at h
 ·rename_i h1;injection h with h; subst h;exact Ug func275 rfl [.k cp,.t h1] rfl
 ·rename_i h1;have h1:t.point=false:=by simpa using h1
  obtain ⟨m,hm0,h⟩:=Qd.1 h;obtain ⟨rfl,hm⟩:=CZ hm0;injection h with h;subst h;have cm:=Qrl ht.lo ht.hi;have cc:=Df ht hm;by_cases h2:Fp t (mid t.lo t.hi)=0
  ·rw [if_pos h2];exact Ug func275 rfl [.k cp,.f h1,.k cm,.k cc,.t (by simpa using h2)] rfl
  rw [if_neg h2];by_cases h3:Fp t (mid t.lo t.hi)=-1
  ·rw [if_pos h3];exact Ug func275 rfl [.k cp,.f h1,.k cm,.k cc,.f (by simpa using h2),.t (by simpa using h3)] rfl
  ·rw [if_neg h3];exact Ug func275 rfl [.k cp,.f h1,.k cm,.k cc,.f (by simpa using h2),.f (by simpa using h3)] rfl
theorem vP {t u:Tm} (ht:Tb t) (h:jB t=some u):Tb u:=by
 unfold jB at h
 split at h
 ·injection h with h; subst h; exact ht
 ·obtain ⟨m,hm0,h⟩:=Qd.1 h;obtain ⟨rfl,hm⟩:=CZ hm0;injection h with h;subst h
  repeat' split
  ·exact ⟨ht.p,hm,hm⟩
  ·exact ⟨ht.p,ht.lo,hm⟩
  ·exact ⟨ht.p,hm,ht.hi⟩
theorem QV {z:Int} (h:Fe z<=4294967296):Uj 267 [.one (mg z)] [.oi (Fe z:Int)]:=by
 have h1:=pP (l:=Gd z.natAbs) (Lp _) (by rw [G9]; exact h);rw [G9] at h1; exact h1
theorem EU {p:Um} {i:Nat} {z:Int} (h:p[i]? = some z):Ha (p.take (i+1))=max (Ha (p.take i)) (Fe z):=by
 unfold Ha; rw [List.take_succ,h,Option.toList_some,List.foldl_append]; rfl
theorem Me {p:Um} {s:Nat} (h:Bd s p):∀ i,Ha (p.take i)<=s
 | 0=>by simp [Ha]
 |
  i+1=>by
  cases hz:p[i]? with
  |
   none =>
   rw [Qo (by have:=Jo.1 hz; omega),<-Qo (l:=p) (i:=i) (by have:=Jo.1 hz; omega)];exact Me h i
  | some z=>rw [EU hz]; have:=Me h i; have:=Qd6 h hz; omega
theorem jZ {p:Um} (hp:Pb p):Uj 313 [pr p] [.oi (Ha p:Int)]:=by
 have hl:=hp.l;refine Fw func313 rfl ?_;refine Ud [] rfl ?_;refine Ui (S:=Nat) 0 (λL1 i=>(8,.v (.oi i))::(3,.v (.oi (Ha (p.take i):Int)))::L1) (λ_=>[]) (λi=>p.length-i) (λi=>i<=p.length) 0 (Qh _) rfl rfl λi hi=>?_
 by_cases hlt:i<p.length
 ·have hg:=Rw hlt;have hz:=Fu hp.b i;have hs:=EU hg;refine Ue [.t (by simp; omega),.x (Pk hg),.k (QV (by omega)),.r 16 (eI (b:=(Ha (p.take (i+1)):Int)) (by rw [hs]; omega))] rfl ?_;exact rd (i+1) (by omega) hlt rfl
 ·obtain rfl:i=p.length:=by omega
  rw [Q6];exact Uf [.f (by simp)] rfl
theorem Qnv {a:Tm} {b:Tm} (ha:Tb a) (hb:Tb b):Uj 273 [.agg (ta a),.agg (ta b)] [.oi (P5 a b:Nat)]:=by
 have l1:=ha.p.l;have l2:=hb.p.l;have b1:=ha.lo.1;have b2:=ha.hi.1;have b3:=hb.lo.1;have b4:=hb.hi.1;have s1:Ha a.p<=16777216:=by have:=Me ha.p.b a.p.length; rwa [Q6] at this
 have s2:Ha b.p<=16777216:=by have:=Me hb.p.b b.p.length; rwa [Q6] at this
 obtain ⟨N,hN⟩:=nmE (4*(a.p.length+b.p.length));obtain ⟨S,hS⟩:=nmE (Ha a.p+Ha b.p+(a.p.length+b.p.length)+8);have hNS:N*S<=512*33554568:=Zc (by omega) (by omega);have h0:(N:Int)*(S:Int)=((N*S:Nat):Int):=(Vi _ _).symm;have hst:P5 a b=64+2*(Fe a.lo.num+Fe a.hi.num+Fe b.lo.num+Fe b.hi.num)+N*S:=by rw [hN,hS]; rfl
 rw [hst];exact Ug func273 rfl [.k (QV (z:=a.lo.num) (by omega)),.k (QV (z:=a.hi.num) (by omega)),.k (QV (z:=b.lo.num) (by omega)),.k (QV (z:=b.hi.num) (by omega)),.r 41 (eI (b:=(N:Int)) (by rw [hN]; simp)),.k (jZ ha.p),.k (jZ hb.p),.r 51 (eI (b:=(S:Int)) (by rw [hS]; simp)),.r 52 (eI (b:=((N*S:Nat):Int)) h0)] rfl (by simp) (by rw [h0]; simp [U4]; omega)
def dX (p:Um) (a:Tm):Nat:=64+2*(Fe a.lo.num+Fe a.hi.num)+4*(a.p.length+p.length)*(Ha a.p+Ha p+(a.p.length+p.length)+8)
theorem dO:Uj 267 [lr []] [.oi 0]:=pP (l:=[]) (by simp [Sm]) (by decide)
theorem Qf5 {a:Tm} {p:Um} (ha:Tb a) (hp:Pb p):Uj 273 [.agg (ta a),.agg ([pl p,.bool false,.row [],.bool false,.row [],.bool false,.row [],.bool false,.row []])] [.oi (dX p a:Nat)]:=by
 have l1:=ha.p.l;have l2:=hp.l;have b1:=ha.lo.1;have b2:=ha.hi.1;have s1:Ha a.p<=16777216:=by have:=Me ha.p.b a.p.length; rwa [Q6] at this
 have s2:Ha p<=16777216:=by have:=Me hp.b p.length; rwa [Q6] at this
 obtain ⟨N,hN⟩:=nmE (4*(a.p.length+p.length));obtain ⟨S,hS⟩:=nmE (Ha a.p+Ha p+(a.p.length+p.length)+8);have hNS:N*S<=512*33554568:=Zc (by omega) (by omega);have h0:(N:Int)*(S:Int)=((N*S:Nat):Int):=(Vi _ _).symm;have hst:dX p a=64+2*(Fe a.lo.num+Fe a.hi.num)+N*S:=by rw [hN,hS]; rfl
 rw [hst];exact Ug func273 rfl [.k (QV (z:=a.lo.num) (by omega)),.k (QV (z:=a.hi.num) (by omega)),.k dO,.k dO,.r 41 (eI (b:=(N:Int)) (by rw [hN]; simp)),.k (jZ ha.p),.k (jZ hp),.r 51 (eI (b:=(S:Int)) (by rw [hS]; simp)),.r 52 (eI (b:=((N*S:Nat):Int)) h0)] rfl (by simp) (by rw [h0]; simp [U4]; omega)
def VN (sg:Um->Int) (l:Un) (i:Nat):Nat×Int:=(l.take i).foldl (Pq sg) (0,0)
theorem vB {sg:Um->Int} (hs:∀ p,-1<=sg p/\sg p<=1) (l:Un):∀ i,(VN sg l i).1<=i/\-1<=(VN sg l i).2/\(VN sg l i).2<=1
 | 0=>⟨Ql _,show (-1:Int)<=0 by decide,show (0:Int)<=1 by decide⟩
 |
  i+1=>by
  obtain ⟨h1,h2,h3⟩:=vB hs l i;cases h:l[i]? with
  |
   none =>
   have:VN sg l (i+1)=VN sg l i:=by unfold VN; rw [List.take_of_length_le (by have:=List.getElem?_eq_none_iff.1 h; omega),List.take_of_length_le (List.getElem?_eq_none_iff.1 h)]
   rw [this]; omega
  |
   some p =>
   have:VN sg l (i+1)=Pq sg (VN sg l i) p:=Sj _ _ _ h;rw [this];have:=hs p;unfold Pq
   split
   ·omega
   ·dsimp only; split <;> omega
theorem Qny {l:Un} {fid:Nat} {l1:Ur} {sg:Um->Int} (hl:l.length≤1000) (hs:∀ p,-1≤sg p/\sg p≤1) (h:∀ p∈l,AP prog fid [pr p,.one (.sh l1)] [.oi (sg p)]):Uj 340 [.one (.sh [.row (Pe l)]),.one (.fn fid [] [.sh l1])] [.oi (Cz sg l:Nat)]:=by
 have hpl:=E8 l;refine Fw func340 rfl ?_;refine Ud [] rfl ?_;refine Ui (S:=Nat) 0 (λL1 i=>(15,.v (.oi i))::(5,.v (.oi ((VN sg l i).1:Int)))::(6,.v (.one (.int .i64 (VN sg l i).2)))::L1) (λ_=>[]) (λi=>l.length-i) (λi=>i<=l.length) 0 (Qh _) rfl rfl λi hi=>?_
 by_cases hlt:i<l.length
 ·obtain ⟨p,hp⟩:=gxE (l:=l) (i:=i) hlt;have hst:VN sg l (i+1)=Pq sg (VN sg l i) p:=Sj _ _ _ hp;obtain ⟨b1,b2,b3⟩:=vB hs l i;have b4:=hs p;by_cases h0:sg p=0
  ·refine Ue [.t (by simp [hpl]; omega),.x (Ro hp),.k (h p (Qc hp)),.t (by simpa using h0)] rfl ?_;exact rd (i+1) (by omega) hlt (by rw [hst,show Pq sg (VN sg l i) p=VN sg l i from by unfold Pq; rw [if_pos h0]]; rfl)
  ·by_cases h1:(VN sg l i).2=-(sg p)
   ·refine Ue [.t (by simp [hpl]; omega),.x (Ro hp),.k (h p (Qc hp)),.f (by simpa using h0),.t (by simpa using h1)] rfl ?_;exact rd (i+1) (by omega) hlt (by rw [hst,show Pq sg (VN sg l i) p=((VN sg l i).1+1,sg p) from by unfold Pq; rw [if_neg h0,if_pos h1]]; rfl)
   ·refine Ue [.t (by simp [hpl]; omega),.x (Ro hp),.k (h p (Qc hp)),.f (by simpa using h0),.f (by simpa using h1)] rfl ?_;exact rd (i+1) (by omega) hlt (by rw [hst,show Pq sg (VN sg l i) p=((VN sg l i).1,sg p) from by unfold Pq; rw [if_neg h0,if_neg h1]]; rfl)
 ·obtain rfl:i=l.length:=by omega
  refine Uf [.f (by simp [hpl])] rfl ?_ trivial;unfold VN Cz; rw [List.take_length]
theorem Qff {p:Um} {q:Rat} (hp:Pb p) (hq:Qb q):Uj 341 [pr p,.one (.sh (rl q))] [.oi (Re p q)]:=Ug func341 rfl [.k (PH hp hq)] rfl
theorem lH {l:Un} {q:Rat} (hl:l.length≤1000) (hp:∀ p∈l,Pb p) (hq:Qb q):Uj 321 [.one (.sh [.row (Pe l)]),.agg (rl q)] [.oi (C0 l q:Nat)] :=
 Ug func321 rfl [.k (Qny (fid:=341) (l1:=rl q) (sg:=λp=>Re p q) hl (λp=>Oz p q) λp h=>Qff (hp p h) hq)] rfl
theorem Lr {sg:Um->Int} (hs:∀ p,-1<=sg p/\sg p<=1) (l:Un):Cz sg l<=l.length:=by
 have:=(vB hs l l.length).1;unfold VN at this; rwa [List.take_length] at this
theorem IH {l:Un} {lo hi:Rat} (hl:l.length≤1000) (hp:∀ p∈l,Pb p) (ql:Qb lo) (qh:Qb hi):Uj 282 [.one (.sh [.row (Pe l)]),.agg (rl lo),.agg (rl hi)] [.oi (Tq l lo hi)]:=by
 have b1:C0 l lo<=l.length:=Lr (λp=>Oz p lo) l;have b2:C0 l hi<=l.length:=Lr (λp=>Oz p hi) l;have c1:=Ce qh.s31 ql.s31;unfold Tq;by_cases h:He hi lo<0
 ·rw [if_pos h];exact Ug func282 rfl [.k c1,.t (by simpa using h)] rfl
 ·rw [if_neg h];exact Ug func282 rfl [.k c1,.f (by simpa using h),.k (lH hl hp ql),.k (lH hl hp qh)] rfl rfl (by simp [U4]; omega)
def zTm:Ur:=[.nils,.bool false,.nils,.bool false,.nils,.bool false,.nils,.bool false,.nils]
theorem Qc9 {a b:Tm} (ha:Tb a) (hb:Tb b):P5 a b<=17179938816+200000000:=by
 have l1:=ha.p.l;have l2:=hb.p.l;have b1:=ha.lo.1;have b2:=ha.hi.1;have b3:=hb.lo.1;have b4:=hb.hi.1;have s1:Ha a.p<=16777216:=by have:=Me ha.p.b a.p.length; rwa [Q6] at this
 have s2:Ha b.p<=16777216:=by have:=Me hb.p.b b.p.length; rwa [Q6] at this
 have:4*(a.p.length+b.p.length)*(Ha a.p+Ha b.p+(a.p.length+b.p.length)+8)<=512*33554568:=Zc (by omega) (by omega);unfold P5; omega
theorem Qpy {a b:Rat} (ha:Qb a) (hb:Qb b):Qs 2147483647 (EP a b):=by
 have h1:Fe (a.num*(b.den:Int))<=33554432:=Qa (Gb _ _) (by have:=ha.1; have:=hb.2; omega);have h2:Fe (b.num*(a.den:Int))<=33554432:=Qa (Gb _ _) (by have:=hb.1; have:=ha.2; omega);have h3:Fe ((a.den:Int)*(b.den:Int))<=33554432:=Qa (Gb _ _) (by have:=ha.2; have:=hb.2; omega);have h5:Fe (a.num*(b.den:Int)-b.num*(a.den:Int))<=33554433:=Qa (jA _ _) (by omega);exact (Qs.divInt (s:=33554433) h5 (by omega) (by omega)).mono (by omega)
theorem xC {a b:Tm} {r:Tm×Tm×Int} (ha:Tb a) (hb:Tb b) (h:AN (P5 a b) a b=some r):Uj 229 [.agg (ta a),.agg (ta b)] [.agg (ta r.1),.agg (ta r.2.1),.oi r.2.2]:=by
 have hsb:=Qc9 ha hb;refine Fw func229 rfl ?_;refine Ud [.k (Qnv ha hb)] rfl ?_;obtain ⟨n,hn⟩:=nmE (P5 a b);rw [<-hn] at h hsb ⊢;refine sb [(10,.v (.oi 0)),(9,.v (.oi n)),(5,.v (.one (.ow 3 0))),(4,.v (.one (.ow 2 0))),(3,.v (.one (.ow 1 0))),(2,.v (.one (.ow 0 0)))] [.blk 105 (ta a),.blk 105 (ta b),.blk 105 zTm,.blk 105 zTm] rfl rfl ?_;refine Ui (S:=Nat×Tm×Tm) 4 (λL1 s=>(10,.v (.oi (s.1:Int)))::L1) (λs=>[.blk 105 (ta s.2.1),.blk 105 (ta s.2.2),.blk 105 zTm,.blk 105 zTm]) (λs=>n-s.1) (λs=>s.1<=n/\Tb s.2.1/\Tb s.2.2/\AN (n-s.1) s.2.1 s.2.2=some r) (0,a,b) ⟨Qh _,ha,hb,h⟩ rfl rfl λ⟨i,u,v⟩ ⟨j1,j2,j3,j4⟩=>?_
 dsimp only at j1 j2 j3 j4 ⊢;by_cases hi:i<n
 ·obtain ⟨k,hk⟩:∃ k,n-i=k+1:=⟨n-i-1,by omega⟩;have hk':n-(i+1)=k:=by omega
  rw [hk] at j4;have c1:=Ce j2.hi.s31 j3.lo.s31;have c2:=Ce j3.hi.s31 j2.lo.s31;have pu:=D6 j2;have pv:=D6 j3;have hlt:decide ((i:Int)<(n:Int))=true:=by simp; omega
  simp only [AN] at j4;refine Ud [.t hlt] rfl ?_;refine ct 3 (S:=Unit) (λ_=>[(10,.v (.oi i)),(9,.v (.oi n)),(5,.v (.one (.ow 3 0))),(4,.v (.one (.ow 2 0))),(3,.v (.one (.ow 1 0))),(2,.v (.one (.ow 0 0)))]) (λ_=>[.blk 105 (ta u),.blk 105 (ta v),.blk 105 zTm,.blk 105 zTm]) (λ_=>¬D5 u v=true/\¬D5 v u=true) rfl ?_ ?_
  ·have bA:D5 u v=(decide (He u.hi v.lo<=0) && !(u.point && v.point && decide (He u.hi v.lo=0))):=by
    unfold D5; cases u.point <;> cases v.point <;> simp
   have bB:D5 v u=(decide (He v.hi u.lo<=0) && !(u.point && v.point && decide (He v.hi u.lo=0))):=by
    unfold D5; cases u.point <;> cases v.point <;> simp
   obtain ⟨a0,A'⟩:∃ b,decide (He u.hi v.lo<=0)=b:=⟨_,rfl⟩;obtain ⟨b0,B'⟩:∃ b,decide (He v.hi u.lo<=0)=b:=⟨_,rfl⟩;obtain ⟨p0,P'⟩:∃ b,u.point=b:=⟨_,rfl⟩;obtain ⟨q0,Q'⟩:∃ b,v.point=b:=⟨_,rfl⟩;obtain ⟨x0,X'⟩:∃ b,decide (He u.hi v.lo=0)=b:=⟨_,rfl⟩;obtain ⟨y0,Y'⟩:∃ b,decide (He v.hi u.lo=0)=b:=⟨_,rfl⟩;rw [A',P',Q',X'] at bA;rw [B',P',Q',Y'] at bB;have r1:D5 u v=true->(u,v,-1)=r:=λh=>by rw [if_pos h] at j4; injection j4
   have r2:¬D5 u v=true->D5 v u=true->(u,v,1)=r:=λh h'=>by rw [if_neg h,if_pos h'] at j4; injection j4
   clear j4;cases a0
   ·cases b0
    ·exact go tt [.k c1,.g 19 false A',.f rfl,.k c2,.g 45 false B',.f rfl] rfl trivial (rc () ⟨by rw [bA]; simp,by rw [bB]; simp⟩ rfl)
    ·cases p0
     ·obtain rfl:=r2 (by rw [bA]; simp) (by rw [bB]; rfl);exact Uf [.k c1,.g 19 false A',.f rfl,.k c2,.g 45 true B',.k pu,.g 48 false P',.g 52 false rfl,.t rfl] rfl
     ·cases q0
      ·obtain rfl:=r2 (by rw [bA]; simp) (by rw [bB]; rfl);exact Uf [.k c1,.g 19 false A',.f rfl,.k c2,.g 45 true B',.k pu,.g 48 true P',.k pv,.g 52 false Q',.t rfl] rfl
      ·cases y0
       ·obtain rfl:=r2 (by rw [bA]; simp) (by rw [bB]; rfl);exact Uf [.k c1,.g 19 false A',.f rfl,.k c2,.g 45 true B',.k pu,.g 48 true P',.k pv,.g 52 true Q',.k c2,.t (by simpa using Y')] rfl
       ·exact go tt [.k c1,.g 19 false A',.f rfl,.k c2,.g 45 true B',.k pu,.g 48 true P',.k pv,.g 52 true Q',.k c2,.f (by simpa using Y')] rfl trivial (rc () ⟨by rw [bA]; simp,by rw [bB]; simp⟩ rfl)
   ·cases p0
    ·obtain rfl:=r1 (by rw [bA]; rfl);exact Uf [.k c1,.g 19 true A',.k pu,.g 22 false P',.g 26 false rfl,.t rfl] rfl
    ·cases q0
     ·obtain rfl:=r1 (by rw [bA]; rfl);exact Uf [.k c1,.g 19 true A',.k pu,.g 22 true P',.k pv,.g 26 false Q',.t rfl] rfl
     ·cases x0
      ·obtain rfl:=r1 (by rw [bA]; rfl);exact Uf [.k c1,.g 19 true A',.k pu,.g 22 true P',.k pv,.g 26 true Q',.k c1,.t (by simpa using X')] rfl
      ·cases b0
       ·exact go tt [.k c1,.g 19 true A',.k pu,.g 22 true P',.k pv,.g 26 true Q',.k c1,.f (by simpa using X'),.k c2,.g 45 false B',.f rfl] rfl trivial (rc () ⟨by rw [bA]; simp,by rw [bB]; simp⟩ rfl)
       ·cases y0
        ·obtain rfl:=r2 (by rw [bA]; simp) (by rw [bB]; rfl);exact Uf [.k c1,.g 19 true A',.k pu,.g 22 true P',.k pv,.g 26 true Q',.k c1,.f (by simpa using X'),.k c2,.g 45 true B',.k pu,.g 48 true P',.k pv,.g 52 true Q',.k c2,.t (by simpa using Y')] rfl
        ·exact go tt [.k c1,.g 19 true A',.k pu,.g 22 true P',.k pv,.g 26 true Q',.k c1,.f (by simpa using X'),.k c2,.g 45 true B',.k pu,.g 48 true P',.k pv,.g 52 true Q',.k c2,.f (by simpa using Y')] rfl trivial (rc () ⟨by rw [bA]; simp,by rw [bB]; simp⟩ rfl)
  ·rintro _ ⟨n1,n2⟩
   rw [if_neg n1,if_neg n2] at j4;have qr:∀ {x y:Rat},Qb x->Qb y->Qs 2147483647 (EP x y):=λh1 h2=>Qpy h1 h2
   have cc:=Ce (qr j2.hi j2.lo) (qr j3.hi j3.lo);by_cases D:0<=He (EP u.hi u.lo) (EP v.hi v.lo)
   ·rw [if_pos D] at j4;obtain ⟨x,x1,x2⟩:=Qd.1 j4;refine Ue [.k (jQ j2.hi j2.lo),.k (jQ j3.hi j3.lo),.k cc,.t (by simpa using D),.k (mZ j2 x1)] rfl ?_;exact rd (i+1,x,v) (by dsimp only; omega) ⟨hi,vP j2 x1,j3,by dsimp only; rw [hk']; exact x2⟩ rfl
   ·rw [if_neg D] at j4;obtain ⟨x,x1,x2⟩:=Qd.1 j4;refine Ue [.k (jQ j2.hi j2.lo),.k (jQ j3.hi j3.lo),.k cc,.f (by simpa using D),.k (mZ j3 x1)] rfl ?_;exact rd (i+1,u,x) (by dsimp only; omega) ⟨hi,j2,vP j3 x1,by dsimp only; rw [hk']; exact x2⟩ rfl
 ·obtain rfl:i=n:=by omega
  rw [Ki] at j4;simp only [AN] at j4;injection j4 with j4; subst j4;exact Uf [.f (by simp)] rfl
theorem Qnu {a b:Rat} (ha:Qb a) (hb:Qb b):Uj 69 [.agg (rl a),.one (.row [rl b])] [.agg (rl (if 0<He b a then b else a))]:=by
 have ca:=MK (U5 a.num) (U5 (a.den:Int)) ha.s32.1 ha.s32.2;have cb:=MK (U5 b.num) (U5 (b.den:Int)) hb.s32.1 hb.s32.2;rw [Ts] at ca cb;have cc:=Ce hb.s31 ha.s31;refine Fw func69 rfl ?_;refine Ud [.k ca] rfl ?_;refine Ui (S:=Nat) 3 (λL1 i=>(12,.v (.oi i))::L1) (λi=>[.blk 42 (rl a),.blk 42 [.bool false,.nils,.bool false,.nils],.blk 42 (rl (if i=0 then a else if 0<He b a then b else a))]) (λi=>1-i) (λi=>i<=1) 0 (Qh _) rfl rfl λi hi=>?_
 rcases (show i=0\/i=1 by omega) with rfl | rfl
 ·by_cases h:0<He b a
  ·refine Ud [.t rfl,.x (i:=0) (xs:=rl b) rfl,.k cc,.t (by simpa using h),.k cb] rfl ?_ (by simp [U4]);exact rd 1 (by omega) (by omega) (by rw [if_pos h]; rfl)
  ·refine Ud [.t rfl,.x (i:=0) (xs:=rl b) rfl,.k cc,.f (by simpa using h)] rfl ?_ (by simp [U4]);exact rd 1 (by omega) (by omega) (by rw [if_neg h]; rfl)
 ·exact Uf [.f rfl] rfl
theorem KV {a b:Tm} {c:Int} (ha:Tb a) (hb:Tb b) (h:UR a b=some c):Uj 162 [.agg (ta a),.agg (ta b)] [.oi c]:=by
 have ca:=MW ha;have cb:=MW hb;have pa:=D6 ha;have pb:=D6 hb;unfold UR at h;by_cases h1:a.point=true
 ·rw [if_pos h1] at h;injection h with h; subst h;have:=Qn1 b a.lo;exact Ug func162 rfl [.k ca,.k cb,.k pa,.t h1,.k (Df hb ha.lo)] rfl rfl (by simp [U4]; omega)
 rw [if_neg h1] at h;have h1:a.point=false:=by simpa using h1
 by_cases h2:b.point=true
 ·rw [if_pos h2] at h;injection h with h; subst h;exact Ug func162 rfl [.k ca,.k cb,.k pa,.f h1,.k pb,.t h2,.k (Df ha hb.lo)] rfl
 rw [if_neg h2] at h;have h2:b.point=false:=by simpa using h2
 obtain ⟨lo,hlo⟩:=nmE (if 0<He b.lo a.lo then b.lo else a.lo);obtain ⟨hi,hhi⟩:=nmE (if He b.hi a.hi<0 then b.hi else a.hi);have h:(if He lo hi<0 then (yE a.p b.p).bind λg=>if 1<g.length/\FZ g lo hi=true then some 0 else (AN (P5 a b) a b).bind λr=>some r.2.2 else (AN (P5 a b) a b).bind λr=>some r.2.2)=some c:=by rw [hlo,hhi]; exact h
 have qlo:Qb lo:=by rw [hlo]; split; exact hb.lo; exact ha.lo
 have qhi:Qb hi:=by rw [hhi]; split; exact hb.hi; exact ha.hi
 have cm:=Qnu ha.lo hb.lo;rw [<-hlo] at cm;have cc1:=Ce hb.hi.s31 ha.hi.s31;have cc2:=Ce qlo.s31 qhi.s31;refine Fw func162 rfl ?_;refine Ud [.k ca,.k cb,.k pa,.f h1,.k pb,.f h2,.k cm] rfl ?_;refine ct 2 (S:=Unit) (λ_=>[(6,.v (.one (.ow 3 0))),(5,.v (.one (.ow 2 0))),(4,.v (.oi 0)),(3,.v (.one (.ow 1 0))),(2,.v (.one (.ow 0 0)))]) (λ_=>[.blk 105 (ta a),.blk 105 (ta b),.blk 42 (rl lo),.blk 42 (rl hi)]) (λ_=>True) rfl ?_ ?_
 ·by_cases D:He b.hi a.hi<0
  ·rw [if_pos D] at hhi; subst hhi;exact go tt [.k cc1,.t (by simpa using D)] rfl trivial (rc () trivial rfl)
  ·rw [if_neg D] at hhi; subst hhi;exact go tt [.k cc1,.f (by simpa using D)] rfl trivial (rc () trivial rfl)
 ·rintro _ _
  by_cases D:He lo hi<0
  ·rw [if_pos D] at h;obtain ⟨g,g1,h⟩:=Qd.1 h;have cg:=Qev ha.p hb.p g1;have pg:=Qjd ha.p hb.p g1;have ch:=Qfo pg qlo qhi;by_cases G:1<g.length
   ·by_cases R:FZ g lo hi=true
    ·rw [if_pos ⟨G,R⟩] at h;injection h with h; subst h;exact Uf [.k cc2,.t (by simpa using D),.k cg,.k (P7 g),.g 58 true (by simp; omega),.k ch,.t R] rfl
    ·rw [if_neg λh=>R h.2] at h;obtain ⟨r,r1,h⟩:=Qd.1 h;injection h with h; subst h;exact Uf [.k cc2,.t (by simpa using D),.k cg,.k (P7 g),.g 58 true (by simp; omega),.k ch,.f (by simpa using R),.k (xC ha hb r1)] rfl
   ·rw [if_neg λh=>G h.1] at h;obtain ⟨r,r1,h⟩:=Qd.1 h;injection h with h; subst h;exact Uf [.k cc2,.t (by simpa using D),.k cg,.k (P7 g),.g 58 false (by simp; omega),.f rfl,.k (xC ha hb r1)] rfl
  ·rw [if_neg D] at h;obtain ⟨r,r1,h⟩:=Qd.1 h;injection h with h; subst h;exact Uf [.k cc2,.f (by simpa using D),.k (xC ha hb r1)] rfl
theorem Qmj {p:Um} {a:Tm} {s:Int} (hp:Pb p) (ha:Tb a) (h:GG p a=some s):Uj 241 [pr p,.agg (ta a)] [.oi s]:=by
 have ca:=MW ha;have pa:=D6 ha;have cn:=Ht hp.t hp.ln hp.bd;unfold GG at h;by_cases h0:p.length=0
 ·rw [if_pos h0] at h;injection h with h; subst h;exact Ug func241 rfl [.k cn,.k ca,.t (by simp; exact Qj h0)] rfl
 rw [if_neg h0] at h;have h0:p≠[]:=λe=>h0 (by rw [e]; rfl)
 by_cases h1:a.point=true
 ·rw [if_pos h1] at h;injection h with h; subst h;exact Ug func241 rfl [.k cn,.k ca,.f (by simpa using h0),.k pa,.t h1,.k (PH hp ha.lo)] rfl
 rw [if_neg h1] at h;have h1:a.point=false:=by simpa using h1
 obtain ⟨g,g1,h⟩:=Qd.1 h;have cg:=Qev hp ha.p g1;have pg:=Qjd hp ha.p g1;have ch:=Qfo pg ha.lo ha.hi;by_cases G:1<g.length/\FZ g a.lo a.hi=true
 ·rw [if_pos G] at h;injection h with h; subst h;exact Ug func241 rfl [.k cn,.k ca,.f (by simpa using h0),.k pa,.f h1,.k cg,.k (P7 g),.g 29 true (by simp; omega),.k ch,.t G.2] rfl
 rw [if_neg G] at h;obtain ⟨c,c1,h⟩:=Qd.1 h;obtain ⟨u,u1,h⟩:=Qd.1 h;injection h with h; subst h;obtain ⟨cl,call⟩:=chain_ok hp c1;obtain ⟨n,hn⟩:=nmE (64+2*(Fe a.lo.num+Fe a.hi.num)+4*(a.p.length+p.length)*(Ha a.p+Ha p+(a.p.length+p.length)+8));have cst:=Qf5 ha hp;rw [show dX p a=n from hn.symm] at cst;rw [<-hn] at u1;have hnb:n<=17179938816+200000000:=by
  have l1:=ha.p.l;have l2:=hp.l;have b1:=ha.lo.1;have b2:=ha.hi.1;have s1:Ha a.p<=16777216:=by have:=Me ha.p.b a.p.length; rwa [Q6] at this
  have s2:Ha p<=16777216:=by have:=Me hp.b p.length; rwa [Q6] at this
  have:4*(a.p.length+p.length)*(Ha a.p+Ha p+(a.p.length+p.length)+8)<=512*33554568:=Zc (by omega) (by omega);omega
 refine Fw func241 rfl ?_;refine Ud [.k cn,.k ca,.f (by simpa using h0),.k pa,.f h1,.k cg] rfl ?_;refine ct 2 (S:=Unit) (λ_=>[(3,.v (.one (.ow 0 0))),(0,.v (pr p))]) (λ_=>[.blk 105 (ta a)]) (λ_=>True) rfl ?_ ?_
 ·by_cases G1:1<g.length
  ·exact go tt [.k (P7 g),.g 29 true (by simp; omega),.k ch,.f (by simpa using λh=>G ⟨G1,h⟩)] rfl trivial (rc () trivial rfl)
  ·exact go tt [.k (P7 g),.g 29 false (by simp; omega),.f rfl] rfl trivial (rc () trivial rfl)
 rintro _ _
 refine Ud [.k (Qe8 hp c1),.k cst] rfl ?_;refine Ui (S:=Nat×Tm) 1 (λL1 s=>(46,.v (.oi (s.1:Int)))::L1) (λs=>[.blk 105 (ta s.2)]) (λs=>n-s.1) (λs=>s.1<=n/\Tb s.2/\sgF c (n-s.1) s.2=some u) (0,a) ⟨Qh _,ha,u1⟩ rfl rfl λ⟨i,x⟩ ⟨j1,j2,j3⟩=>?_
 dsimp only at j1 j2 j3 ⊢;by_cases hi:i<n
 ·obtain ⟨k,hk⟩:∃ k,n-i=k+1:=⟨n-i-1,by omega⟩;have hk':n-(i+1)=k:=by omega
  rw [hk] at j3;simp only [sgF] at j3;have px:=D6 j2;have cb:=IH (by omega) call j2.lo j2.hi;have hlt:decide ((i:Int)<(n:Int))=true:=by simp; omega
  by_cases X:x.point=true
  ·rw [if_pos (.inl X)] at j3;injection j3 with j3; subst j3;exact Uf [.t hlt,.k px,.g 50 true X,.t rfl,.k (PH hp j2.hi)] rfl
  ·have X':x.point=false:=by simpa using X
   by_cases Z:Tq c x.lo x.hi=0
   ·rw [if_pos (.inr Z)] at j3;injection j3 with j3; subst j3;exact Uf [.t hlt,.k px,.g 50 false X',.k cb,.t (by simpa using Z),.k (PH hp j2.hi)] rfl
   ·rw [if_neg (by rintro (h | h); exact X h; exact Z h)] at j3;obtain ⟨v,v1,v2⟩:=Qd.1 j3;refine Ue [.t hlt,.k px,.g 50 false X',.k cb,.f (by simpa using Z),.k (mZ j2 v1)] rfl ?_;exact rd (i+1,v) (by dsimp only; omega) ⟨hi,vP j2 v1,by dsimp only; rw [hk']; exact v2⟩ rfl
 ·obtain rfl:i=n:=by omega
  rw [Ki] at j3;simp only [sgF] at j3;injection j3 with j3; subst j3;exact Uf [.f (by simp),.k (PH hp j2.hi)] rfl
abbrev tas (l:List Tm):LV:=.row (l.map λt=>ta t)
theorem NT {l:List Tm} {i:Nat} {t:Tm} (h:l[i]? = some t):(l.map λt=>ta t)[i]? = some (ta t):=G6 h
def zTr:Ur:=[.row [],.bool false,.row [],.bool false,.row [],.bool false,.row [],.bool false,.row []]
theorem wK:Uj 96 [.one (.row [])] [.agg zTr,.one (.bool false)]:=Ug func96 rfl [.t rfl] rfl
theorem S9 {b:Tm} {l:List Tm} {m:Tm} (hb:Tb b) (hl:∀ t∈l,Tb t) (hn:l.length≤1000000) (h:QD b l=some m):Uj 96 [.one (tas (b::l))] [.agg (ta m),.one (.bool true)]:=by
 refine Fw func96 rfl ?_;refine go tt [.f (by simp; omega),.x (i:=0) (xs:=ta b) rfl,.i 1] rfl (by simp [U4]; exact ⟨rfl,λ_ _=>rfl⟩) ?_;refine Ui (S:=Nat×Tm) 2 (λL1 s=>(17,.v (.oi (s.1:Int)))::L1) (λs=>[.blk 105 zTm,.blk 105 (ta s.2)]) (λs=>l.length-s.1) (λs=>s.1<=l.length/\Tb s.2/\QD s.2 (l.drop s.1)=some m) (0,b) ⟨Qh _,hb,h⟩ rfl rfl λ⟨i,x⟩ ⟨j1,j2,j3⟩=>?_
 dsimp only at j1 j2 j3 ⊢;by_cases hi:i<l.length
 ·obtain ⟨a,ha⟩:=gxE (l:=l) (i:=i) hi;have hdr:l.drop i=a::l.drop (i+1):=by
   rw [Zp hi]; congr 1;have:=Qe hi; rw [ha] at this; injection this with this; exact this.symm
  rw [hdr] at j3;simp only [QD] at j3;obtain ⟨c,c1,j3⟩:=Qd.1 j3;have ta':=hl a (Qc ha);by_cases hc:c<0
  ·rw [if_pos hc] at j3;refine Ue [.t (by simp; omega),.x (NT ha),.k (KV ta' j2 c1),.t (by simpa using hc)] rfl ?_;exact rd (i+1,a) (by dsimp only; omega) ⟨hi,ta',j3⟩ rfl
  ·rw [if_neg hc] at j3;refine Ue [.t (by simp; omega),.x (NT ha),.k (KV ta' j2 c1),.f (by simpa using hc)] rfl ?_;exact rd (i+1,x) (by dsimp only; omega) ⟨hi,j2,j3⟩ rfl
 ·obtain rfl:i=l.length:=by omega
  rw [Yt] at j3;simp only [QD] at j3;injection j3 with j3; subst j3;exact Uf [.f (by simp),.k (Qf9 j2)] rfl
end Orr
namespace Orq
def Fj (x:Rat):Rat:=if x<0 then -x else x
theorem Hw (x:Rat):0<=Fj x:=by unfold Fj; split <;> grind
theorem Mf {x b:Rat}:Fj x<=b↔-b<=x/\x<=b:=by unfold Fj; split <;> constructor <;> grind
theorem vJ {x b:Rat}:Fj x<b↔-b<x/\x<b:=by unfold Fj; split <;> constructor <;> grind
theorem Su (x y:Rat):Fj (x+y)<=Fj x+Fj y:=by unfold Fj; split <;> split <;> split <;> grind
theorem oR (x y:Rat):Fj (x-y)=Fj (y-x):=by unfold Fj; split <;> split <;> grind
theorem Et (x:Rat):Fj (-x)=Fj x:=by unfold Fj; split <;> split <;> grind
theorem Rj:Fj 0=0:=by decide
theorem Cv {x:Rat} (h:x≠0):0<Fj x:=by unfold Fj; split <;> grind
theorem Qpw {x:Rat} (h:Fj x=0):x=0:=by unfold Fj at h; split at h <;> grind
theorem Bh {x y:Rat} (h1:0<=x) (h2:0<=y):0<=x*y:=Vx h1 h2
theorem Iw {x y:Rat} (h1:0<x) (h2:0<y):0<x*y:=Xq h1 h2
theorem Cm {a b c d:Rat} (h0:0<=a) (h1:a<=b) (h2:0<=c) (h3:c<=d):a*c<=b*d:=by
 have e1:=Ze h1 h2;have e2:=Z0 h3 (Zl h0 h1);exact Zl e1 e2
theorem Ik (x y:Rat):Fj (x*y)=Fj x*Fj y:=by
 unfold Fj;by_cases h1:x<0 <;> by_cases h2:y<0
 ·have:=Iw (x:=-x) (y:=-y) (by grind) (by grind); simp only [h1,h2,if_true]; split <;> grind
 ·have:=Bh (x:=-x) (y:=y) (by grind) (by grind); simp only [h1,h2,if_true,if_false]; split <;> grind
 ·have:=Bh (x:=x) (y:=-y) (by grind) (by grind); simp only [h1,h2,if_true,if_false]; split <;> grind
 ·have:=Bh (x:=x) (y:=y) (by grind) (by grind); simp only [h1,h2,if_false]; split <;> grind
theorem Hd {x y a b:Rat} (h1:Fj x<=a) (h2:Fj y<=b):Fj (x*y)<=a*b:=by
 rw [Ik]; exact Cm (Hw x) h1 (Hw y) h2
theorem Ag {x y:Rat} (h1:0<x) (h2:0<y):0<x / y:=by rw [J6]; exact Iw h1 (Rat.inv_pos.2 h2)
theorem Hf {x y:Rat} (h2:0<y):x / y*y=x:=Zj (by grind)
theorem Hj {b d:Rat} (hb:0<=b) (hd:0<d):∃ e:Rat,0<e/\e<=1/\e*b<d:=by
 have h1:0<d / (b+1):=Ag hd (by grind);have h2:d / (b+1)*(b+1)=d:=Hf (by grind);rcases Vw (a:=d / (b+1)) (b:=1) with h | h
 ·exact ⟨d / (b+1),h1,h,by
   have:d / (b+1)*(b+1)=d / (b+1)*b+d / (b+1):=by grind
   grind⟩
 ·refine ⟨1,by decide,by decide,?_⟩;have:1*(b+1)<=d / (b+1)*(b+1):=Ze h (by grind);grind
def ev:Up->Rat->Rat
 | [],_=>0
 | a::p,t=>a+t*ev p t
def dv:Up->Rat->Rat
 | [],_=>0
 | _::p,t=>ev p t+t*dv p t
def dq:Up->Rat->Rat->Rat
 | [],_,_=>0
 | _::p,x,y=>ev p x+y*dq p x y
def dd:Up->Rat->Rat->Rat
 | [],_,_=>0
 | _::p,x,y=>dq p x y+y*dd p x y
theorem OK (x y:Rat):∀ p,ev p x-ev p y=(x-y)*dq p x y
 | []=>by simp only [ev,dq]; grind
 | a::p=>by have:=OK x y p; simp only [ev,dq]; grind
theorem jV (y:Rat):∀ p,dq p y y=dv p y
 | []=>rfl
 | a::p=>by simp only [dq,dv,jV y p]
theorem Qry (x y:Rat):∀ p,dq p x y-dv p y=(x-y)*dd p x y
 | []=>by simp only [dv,dq,dd]; grind
 |
  a::p=>by
  have h1:=Qry x y p;have h2:=OK x y p;simp only [dv,dq,dd]; grind
theorem Qr2 (p:Up) (x y:Rat):ev p x-ev p y=(x-y)*dv p y+(x-y)*(x-y)*dd p x y:=by
 have h1:=OK x y p;have h2:=Qry x y p;grind
def uD (R:Rat):Up->Rat
 | []=>0
 | a::p=>Fj a+R*uD R p
def AL (R:Rat):Up->Rat
 | []=>0
 | _::p=>uD R p+R*AL R p
def ddB (R:Rat):Up->Rat
 | []=>0
 | _::p=>AL R p+R*ddB R p
theorem XJ {R:Rat} (hR:0<=R):∀ p,0<=uD R p
 | []=>by simp only [uD]; grind
 | a::p=>by have:=Bh hR (XJ hR p); have:=Hw a; simp only [uD]; grind
theorem M3 {R:Rat} (hR:0<=R):∀ p,0<=AL R p
 | []=>by simp only [AL]; grind
 | a::p=>by have:=Bh hR (M3 hR p); have:=XJ hR p; simp only [AL]; grind
theorem CU {R:Rat} (hR:0<=R):∀ p,0<=ddB R p
 | []=>by simp only [ddB]; grind
 | a::p=>by have:=Bh hR (CU hR p); have:=M3 hR p; simp only [ddB]; grind
theorem SJ {R x:Rat} (hx:Fj x<=R):∀ p,Fj (ev p x)<=uD R p
 | []=>by simp only [ev,uD,Rj]; grind
 |
  a::p=>by
  have h1:=Su a (x*ev p x);have h2:=Hd hx (SJ hx p);simp only [ev,uD]; grind
theorem uH {R x y:Rat} (hx:Fj x<=R) (hy:Fj y<=R):∀ p,Fj (dq p x y)<=AL R p
 | []=>by simp only [dq,AL,Rj]; grind
 |
  a::p=>by
  have h1:=Su (ev p x) (y*dq p x y);have h2:=Hd hy (uH hx hy p);have h3:=SJ hx p;simp only [dq,AL]; grind
theorem Qgr {R x y:Rat} (hx:Fj x<=R) (hy:Fj y<=R):∀ p,Fj (dd p x y)<=ddB R p
 | []=>by simp only [dd,ddB,Rj]; grind
 |
  a::p=>by
  have h1:=Su (dq p x y) (y*dd p x y);have h2:=Hd hy (Qgr hx hy p);have h3:=uH hx hy p;simp only [dd,ddB]; grind
theorem Quq {R x y:Rat} (hx:Fj x<=R) (hy:Fj y<=R) (p:Up):Fj (ev p x-ev p y)<=Fj (x-y)*AL R p:=by
 rw [OK,Ik]; exact Cm (Hw _) Qp (Hw _) (uH hx hy p)
def Sv:Up->Up->Up
 | [],q=>q
 | a::p,[]=>a::p
 | a::p,b::q=>(a+b)::Sv p q
def D3 (c:Rat) (p:Up):Up:=p.map (c * ·)
def G8:Up->Up->Up
 | [],_=>[]
 | a::p,q=>Sv (D3 a q) (0::G8 p q)
def Bl:Up->Up
 | []=>[]
 | _::p=>Sv p (0::Bl p)
theorem G0 (t:Rat):∀ p q,ev (Sv p q) t=ev p t+ev q t
 | [],q=>by simp only [Sv,ev]; grind
 | a::p,[]=>by simp only [Sv,ev]; grind
 | a::p,b::q=>by have:=G0 t p q; simp only [Sv,ev]; grind
theorem Gu (c t:Rat):∀ p,ev (D3 c p) t=c*ev p t
 | []=>by simp only [D3,X6,ev]; grind
 | a::p=>by have:=Gu c t p; simp only [D3,Zz,ev] at *; grind
theorem Fh (t:Rat):∀ p q,ev (G8 p q) t=ev p t*ev q t
 | [],q=>by simp only [G8,ev]; grind
 | a::p,q=>by have:=Fh t p q; simp only [G8,G0,Gu,ev]; grind
theorem Tr (t:Rat):∀ p,ev (Bl p) t=dv p t
 | []=>rfl
 | a::p=>by have:=Tr t p; simp only [Bl,G0,ev,dv]; grind
theorem jW (t:Rat):∀ p q,dv (Sv p q) t=dv p t+dv q t
 | [],q=>by simp only [Sv,dv]; grind
 | a::p,[]=>by simp only [Sv,dv]; grind
 | a::p,b::q=>by have:=jW t p q; have:=G0 t p q; simp only [Sv,dv]; grind
theorem HA (c t:Rat):∀ p,dv (D3 c p) t=c*dv p t
 | []=>by simp only [D3,X6,dv]; grind
 | a::p=>by have:=HA c t p; have:=Gu c t p; simp only [D3,Zz,dv] at *; grind
theorem jU (t:Rat):∀ p q,dv (G8 p q) t=dv p t*ev q t+ev p t*dv q t
 | [],q=>by simp only [G8,dv,ev]; grind
 | a::p,q=>by have:=jU t p q; have:=Fh t p q; simp only [G8,jW,HA,dv,ev]; grind
theorem aJ:∀ {p:Up},(∀ x∈p,x=0)->∀ t,ev p t=0
 | [],_,t=>rfl
 |
  a::p,h,t=>by
  have h1:=aJ (p:=p) (λx hx=>h x (Qg _ hx)) t;have h2:=h a (Qx ..);simp only [ev,h1,h2]; grind
theorem eA:∀ {p:Up},(∀ x∈p,x=0)->∀ t,dv p t=0
 | [],_,t=>rfl
 |
  a::p,h,t=>by
  have h0:=λx hx=>h x (Qg _ hx)
  have h1:=aJ (p:=p) h0 t;have h2:=eA (p:=p) h0 t;simp only [dv,h1,h2]; grind
theorem WI:∀ {p:Up},(∀ t,0<t->t<1->ev p t=0)->∀ x∈p,x=0
 | [],_=>λx hx=>by cases hx
 |
  a::p,h=>by
  have ha:a=0:=by
   rcases Classical.em (a=0) with h0 | h0
   ·exact h0
   ·obtain ⟨e,e1,e2,e3⟩:=Hj (XJ (R:=1) (by decide) p) (Cv h0);obtain ⟨f,f1,f2,f3⟩:=Hj (b:=1) (d:=e) (by decide) e1;have h1:=h f f1 (by grind);have h2:=SJ (R:=1) (x:=f) (by unfold Fj; split <;> grind) p;have h3:=Ik f (ev p f);have h4:Fj f=f:=by unfold Fj; split <;> grind
    have h5:a=-(f*ev p f):=by simp only [ev] at h1; grind
    have h6:Fj a=f*Fj (ev p f):=by rw [h5,Et,h3,h4]
    have h7:f*Fj (ev p f)<=e*uD 1 p:=Cm (Qt f1) (by grind) (Hw _) h2;grind
  intro x hx;rcases Qm.1 hx with rfl | hx
  ·exact ha
  ·refine WI (p:=p) (λt h1 h2=>?_) x hx;have:=h t h1 h2;simp only [ev,ha] at this;have h3:t*ev p t=0:=by grind
   rcases Y3.1 h3 with h4 | h4
   ·grind
   ·exact h4
theorem Qgz {p q:Up} (h:∀ t,ev p t=ev q t) (t:Rat):dv p t=dv q t:=by
 have h1:=eA (p:=Sv p (D3 (-1) q)) (WI λt _ _=>by rw [G0,Gu,h t]; grind) t;rw [jW,HA] at h1; grind
def Fg (x:Rat):Int:=if x<0 then -1 else if 0<x then 1 else 0
theorem Gs {x:Rat}:Fg x=0↔x=0:=by
 unfold Fg; constructor
 ·intro h; split at h <;> (try split at h) <;> grind
 ·intro h; subst h; rfl
theorem Hy {x:Rat}:Fg x=1↔0<x:=by
 unfold Fg; constructor
 ·intro h; split at h <;> (try split at h) <;> grind
 ·intro h; rw [if_neg (by grind),if_pos h]
theorem Pf {x:Rat}:Fg x=-1↔x<0:=by
 unfold Fg; constructor
 ·intro h; split at h <;> (try split at h) <;> grind
 ·intro h; rw [if_pos h]
theorem Ga (x:Rat):Fg x=-1/\x<0\/Fg x=0/\x=0\/Fg x=1/\0<x:=by
 rcases Vw (a:=x) (b:=0) with h | h
 ·rcases Classical.em (x=0) with h0 | h0
  ·exact .inr (.inl ⟨Gs.2 h0,h0⟩)
  ·exact .inl ⟨Pf.2 (by grind),by grind⟩
 ·rcases Classical.em (x=0) with h0 | h0
  ·exact .inr (.inl ⟨Gs.2 h0,h0⟩)
  ·exact .inr (.inr ⟨Hy.2 (by grind),by grind⟩)
theorem Sw (x y:Rat):Fg (x*y)=Fg x*Fg y:=by
 rcases Ga x with ⟨e1,h1⟩ | ⟨e1,h1⟩ | ⟨e1,h1⟩ <;> rcases Ga y with ⟨e2,h2⟩ | ⟨e2,h2⟩ | ⟨e2,h2⟩ <;> rw [e1,e2]
 ·have:=Iw (x:=-x) (y:=-y) (by grind) (by grind); exact Hy.2 (by grind)
 ·subst h2; exact Gs.2 (by grind)
 ·have:=Iw (x:=-x) (y:=y) (by grind) (by grind); exact Pf.2 (by grind)
 ·subst h1; exact Gs.2 (by grind)
 ·subst h1; exact Gs.2 (by grind)
 ·subst h1; exact Gs.2 (by grind)
 ·have:=Iw (x:=x) (y:=-y) (by grind) (by grind); exact Pf.2 (by grind)
 ·subst h2; exact Gs.2 (by grind)
 ·exact Hy.2 (Iw h1 h2)
theorem Pw {a b d:Rat} (h1:d<=Fj a) (h2:Fj (b-a)<d):Fg b=Fg a/\Fg a≠0:=by
 rw [vJ] at h2;rcases Ga a with ⟨e,h⟩ | ⟨e,h⟩ | ⟨e,h⟩
 ·rw [e,Pf]; unfold Fj at h1; rw [if_pos h] at h1; exact ⟨by grind,by decide⟩
 ·subst h; rw [Rj] at h1; grind
 ·rw [e,Hy]; unfold Fj at h1; rw [if_neg (by grind)] at h1; exact ⟨by grind,by decide⟩
def tc (x:Rat):Int->Uq->Nat
 | _,[]=>0
 | s,p::l=>if Fg (ev p x)=0 then tc x s l else (if s=-(Fg (ev p x)) then 1 else 0)+tc x (Fg (ev p x)) l
inductive SCl:List Rat->List Rat->List (List Rat)->Prop
 | base {f g:List Rat} {c:Rat} (hc:c≠0) (hg:∀ t,ev g t=c):SCl f g []
 | step {f g h:List Rat} {l:List (List Rat)} {a b:Rat} {q:List Rat} (ha:0<a) (hb:0<b) (he:∀ t,a*ev f t=ev q t*ev g t-b*ev h t) (hl:SCl g h l):SCl f g (h::l)
theorem Qk5 {x:Rat} {s:Int} {g h:Up} {l:Uq} (hh:Fg (ev h x)=-s) (hs:s≠0):tc x s (g::h::l)=1+tc x (-s) l:=by
 have h3:Fg (ev h x)≠0:=by omega
 have hv:s=1\/s=-1:=by rcases Ga (ev h x) with ⟨e,_⟩ | ⟨e,_⟩ | ⟨e,_⟩ <;> omega
 simp only [tc,if_neg h3,hh];rcases Ga (ev g x) with ⟨e,_⟩ | ⟨e,_⟩ | ⟨e,_⟩ <;> rw [e] <;> rcases hv with rfl | rfl <;> simp
theorem GM {x:Rat} {s:Int} {p:Up} {l:Uq} (h:Fg (ev p x)≠0):tc x s (p::l)=(if s=-(Fg (ev p x)) then 1 else 0)+tc x (Fg (ev p x)) l:=by rw [tc,if_neg h]
theorem Mc {R x y e d:Rat} {p:Up} (hx:Fj x<=R) (hy:Fj y<=R) (hR:0<=R) (h:Fj (y-x)<=e) (hd:e*AL R p<d):Fj (ev p y-ev p x)<d:=by
 have h1:=Quq hy hx p;have h2:=Ze h (M3 hR p);grind
theorem qU {a x y:Rat} (ha:0<a) (h:a*x<a*y):x<y:=by
 rcases Vw (a:=y) (b:=x) with h' | h'
 ·have:=Z0 h' (Qt ha); grind
 ·rcases Classical.em (x=y) with e | e
  ·subst e; grind
  ·grind
theorem Qv8 {a b d d' B f g h q:Rat} (ha:0<a) (hb:0<b) (dp:0<d) (h7:B*d+a*d<b*d') (hq:Fj q<=B) (hg:Fj g<d) (hh:d'<=Fj h) (he:a*f=q*g-b*h) (hd':0<d'):Fg h=-Fg f/\d<=Fj f:=by
 have h4:=Hd hq (Qt hg);rw [Mf] at h4;have had:=Iw ha dp;have h8:=Z0 hh (Qt hb);rcases Ga h with ⟨s,p⟩ | ⟨s,p⟩ | ⟨s,p⟩
 ·have:Fj h=-h:=by unfold Fj; rw [if_pos p]
  rw [this] at h8;have h10:d<f:=qU ha (by grind);rw [s,Hy.2 (show 0<f by grind)];exact ⟨rfl,by unfold Fj; split <;> grind⟩
 ·rw [p,Rj] at hh; grind
 ·have:Fj h=h:=by unfold Fj; rw [if_neg (by grind)]
  rw [this] at h8;have h10:f < -d:=qU ha (by grind);rw [s,Pf.2 (show f<0 by grind)];exact ⟨rfl,by unfold Fj; split <;> grind⟩
theorem min2 {a b:Rat} (ha:0<a) (hb:0<b):∃ e:Rat,0<e/\e<=a/\e<=b:=by
 rcases Vw (a:=a) (b:=b) with h | h
 ·exact ⟨a,ha,Qp,h⟩
 ·exact ⟨b,hb,h,Qp⟩
theorem Gi (a b:Rat):a<=b\/b<a:=by
 rcases Vw (a:=a) (b:=b) with h | h
 ·exact .inl h
 ·rcases Classical.em (a=b) with e | e
  ·exact .inl (by grind)
  ·exact .inr (by grind)
theorem Qvb {R:Rat} (hR:0<=R) {f g:Up} {l:Uq} (hc:SCl f g l):∃ d e:Rat,0<d/\0<e/\∀ x y,Fj x<=R->Fj y<=R->Fj (y-x)<=e ->
 (d<=Fj (ev f x)\/d<=Fj (ev g x))/\(d<=Fj (ev f x)->Fg (ev f y)=Fg (ev f x)/\Fg (ev f x)≠0)/\(d<=Fj (ev g x)->Fg (ev g y)=Fg (ev g x)/\Fg (ev g x)≠0) /\
 (Fg (ev f y)=Fg (ev f x)->Fg (ev f x)≠0->tc x (Fg (ev f x)) (g::l)=tc y (Fg (ev f x)) (g::l)) /\
 (Fg (ev g y)=Fg (ev g x)->Fg (ev g x)≠0->tc x (Fg (ev g x)) l=tc y (Fg (ev g x)) l):=by
 induction hc with
 |
  @base f g c hc hg =>
  have hd:=Cv hc;obtain ⟨e,e1,e2,e3⟩:=Hj (M3 hR f) hd;refine ⟨Fj c,e,hd,e1,λx y hx hy hxy=>⟨.inr (by rw [hg]; exact Qp),λh=>Pw h (Mc hx hy hR hxy e3),λh=>?_,λ_ _=>?_,λ_ _=>rfl⟩⟩
  ·rw [hg,hg]; exact ⟨rfl,λh=>hc (Gs.1 h)⟩
  ·simp only [tc,hg]
 |
  @step f g h l a b q ha hb he hl ih =>
  obtain ⟨d',e',hd',he',ih⟩:=ih;obtain ⟨d1,d1p,_,d1b⟩:=Hj (b:=uD R q+a) (d:=b*d') (by have:=XJ hR q; grind) (Iw hb hd');obtain ⟨d,dp,hd1,hdd⟩:=min2 d1p hd';obtain ⟨ef,ef1,_,ef3⟩:=Hj (M3 hR f) dp;obtain ⟨eg,eg1,_,eg3⟩:=Hj (M3 hR g) dp;obtain ⟨e0,e0p,h1,h2⟩:=min2 ef1 eg1;obtain ⟨e,ep,h0,h3⟩:=min2 e0p he';have h1:=Zl h0 h1;have h2:=Zl h0 h2;refine ⟨d,e,dp,ep,λx y hx hy hxy=>?_⟩;obtain ⟨i1,i2,i3,i4,i5⟩:=ih x y hx hy (Zl hxy h3);have hsm:Fj (ev g x)<d->d'<=Fj (ev h x)/\Fg (ev h x)=-Fg (ev f x)/\d<=Fj (ev f x):=λhg=>by
   have hh:d'<=Fj (ev h x):=by
    rcases i1 with i | i
    ·exact absurd (Zl hdd i) (Jr.2 hg)
    ·exact i
   have h6:d*(uD R q+a)<=d1*(uD R q+a):=Ze hd1 (by have:=XJ hR q; clear ih i1 i2 i3 i4 i5 he; grind);have h7:uD R q*d+a*d<b*d':=by clear ih i1 i2 i3 i4 i5 he; grind
   exact ⟨hh,Qv8 ha hb dp h7 (SJ hx q) hg hh (he x) hd'⟩
  have hfs:d<=Fj (ev f x)->Fg (ev f y)=Fg (ev f x)/\Fg (ev f x)≠0:=λh=>Pw h (Mc hx hy hR (Zl hxy h1) ef3)
  have hgs:d<=Fj (ev g x)->Fg (ev g y)=Fg (ev g x)/\Fg (ev g x)≠0:=λh=>Pw h (Mc hx hy hR (Zl hxy h2) eg3)
  refine ⟨?_,hfs,hgs,λs1 s2=>?_,i4⟩
  ·rcases Gi d (Fj (ev g x)) with h | h
   ·exact .inr h
   ·exact .inl (hsm h).2.2
  ·rcases Gi d (Fj (ev g x)) with h | h
   ·obtain ⟨g1,g2⟩:=hgs h;rw [GM (x:=x) (p:=g) g2,GM (x:=y) (p:=g) (by rw [g1]; exact g2),g1,i4 g1 g2]
   ·obtain ⟨h4,h5,_⟩:=hsm h;obtain ⟨h6,h7⟩:=i3 h4;have i5:=i5 h6 h7;rw [Qk5 h5 s2,Qk5 (h6.trans h5) s2,<-h5,i5]
def Po (p:Up) (x:Rat):Int:=if Fg (ev p x)≠0 then Fg (ev p x) else Fg (dv p x)
def vv (L:Uq) (x:Rat):Nat:=tc x 0 L
def HJ (f:Up) (L:Uq):Prop:=(∃ c:Rat,c≠0/\(∀ t,ev f t=c)/\L=[f])\/∃ g l,∃ k:Rat,0<k/\(∀ t,ev g t=k*dv f t)/\SCl f g l/\L=f::g::l
structure Sm (w:List Rat) (x y:Rat):Prop where
 s:Fg (ev w y)=Po w x
 l:Po w y=Po w x
 n:Po w x≠0
theorem Am {p:Up} {x:Rat} (h:Fg (ev p x)≠0):Po p x=Fg (ev p x):=by unfold Po; rw [if_pos h]
theorem nC {p:Up} {x:Rat} (h:Fg (ev p x)=0):Po p x=Fg (dv p x):=by unfold Po; rw [if_neg (by simpa using h)]
theorem tG {p:Up} {x y:Rat} (h:Fg (ev p y)=Fg (ev p x)) (h0:Fg (ev p x)≠0):Sm p x y:=by
 have h1:=Am h0;have h2:=Am (p:=p) (x:=y) (by rw [h]; exact h0);exact ⟨by rw [h,h1],by rw [h2,h1,h],by rw [h1]; exact h0⟩
theorem QS {f w u:Up} (h:∀ t,ev f t=ev w t*ev u t) (x:Rat):dv f x=dv w x*ev u x+ev w x*dv u x:=by
 rw [<-jU]; exact Qgz (λt=>by rw [h,Fh]) x
theorem iQ {f w u:Up} {x:Rat} (h:∀ t,ev f t=ev w t*ev u t) (hu:Fg (ev u x)≠0):Po f x=Po w x*Fg (ev u x):=by
 by_cases hw:Fg (ev w x)=0
 ·have hw0:=Gs.1 hw;have e1:ev f x=0:=by rw [h,hw0]; grind
  have e2:dv f x=dv w x*ev u x:=by rw [QS h,hw0]; grind
  rw [nC hw,nC (Gs.2 e1),e2,Sw]
 ·have e1:Fg (ev f x)=Fg (ev w x)*Fg (ev u x):=by rw [h,Sw]
  rw [Am hw,Am (by rw [e1]; exact Jf hw hu),e1]
theorem Qv9 {f w u:Up} {x y:Rat} (h:∀ t,ev f t=ev w t*ev u t) (hu:Fg (ev u y)=Fg (ev u x)) (h0:Fg (ev u x)≠0) (hf:Sm f x y):Sm w x y:=by
 have e1:=iQ h h0;have e2:=iQ (x:=y) h (by rw [hu]; exact h0);have e3:Fg (ev f y)=Fg (ev w y)*Fg (ev u y):=by rw [h,Sw]
 obtain ⟨s,l,n⟩:=hf;rw [hu] at e2 e3;refine ⟨?_,?_,λh=>n (by rw [e1,h,Yy])⟩
 ·rw [e3,e1] at s; exact Y4 h0 s
 ·rw [e2,e1] at l; exact Y4 h0 l
theorem tc0 {x:Rat} {s:Int} {f g:Up} {l:Uq} (h:Fg (ev g x)=s) (hs:s≠0):tc x 0 (f::g::l)=(if Fg (ev f x)=-s then 1 else 0)+tc x s l:=by
 have hv:s=1\/s=-1:=by rcases Ga (ev g x) with ⟨e,_⟩ | ⟨e,_⟩ | ⟨e,_⟩ <;> omega
 have hg:Fg (ev g x)≠0:=by omega
 rw [tc];rcases Ga (ev f x) with ⟨e,_⟩ | ⟨e,_⟩ | ⟨e,_⟩ <;> rw [e] <;> rcases hv with rfl | rfl <;> simp [GM hg,h]
theorem LG {R x y e d:Rat} {p:Up} (hx:Fj x<=R) (hy:Fj y<=R) (hR:0<=R) (hxy:x<y) (h:y-x<=e) (hd:d<=Fj (dv p x)) (he:e*ddB R p<d):Fg (ev p y-ev p x)=Fg (dv p x):=by
 have h1:=Qr2 p y x;have h2:ev p y-ev p x=(y-x)*(dv p x+(y-x)*dd p y x):=by rw [h1]; grind
 have h3:=Hd (x:=y-x) (y:=dd p y x) (a:=e) (b:=ddB R p) (by rw [Mf]; constructor <;> grind) (Qgr hy hx p);have h4:=Pw (b:=dv p x+(y-x)*dd p y x) hd (by
  have:dv p x+(y-x)*dd p y x-dv p x=(y-x)*dd p y x:=by grind
  rw [this]; exact Jr.1 λh=>absurd (Zl h h3) (Jr.2 he))
 rw [h2,Sw,Hy.2 (show 0<y-x by grind),h4.1,Kq]
def Qdt (f w:Up) (L:Uq) (x y:Rat):Prop :=
 (vv L x=vv L y/\Sm f x y/\Sm w x y)\/(vv L x=vv L y+1/\Po f x≠0/\Po f y=-Po f x/\Fg (ev f x)=Po f x/\(Fg (ev f y)=0\/Fg (ev f y)=-Po f x))
theorem Qr5 {R d:Rat} (hR:0<=R) (hd:0<d) {f w u:Up} (h:∀ t,ev f t=ev w t*ev u t):∃ e:Rat,0<e/\∀ x y,Fj x<=R->Fj y<=R->Fj (y-x)<=e->d<=Fj (ev f x)->Sm f x y/\Sm w x y:=by
 obtain ⟨ef,ef1,_,ef3⟩:=Hj (M3 hR f) hd;obtain ⟨d1,d1p,_,d1b⟩:=Hj (XJ hR u) hd;obtain ⟨ew,ew1,_,ew3⟩:=Hj (M3 hR w) d1p;obtain ⟨e,ep,e1,e2⟩:=min2 ef1 ew1;refine ⟨e,ep,λx y hx hy hxy hf=>⟨?_,?_⟩⟩
 ·have:=Pw hf (Mc hx hy hR (Zl hxy e1) ef3);exact tG this.1 this.2
 ·have hw:d1<=Fj (ev w x):=by
   rcases Gi d1 (Fj (ev w x)) with h' | h'
   ·exact h'
   ·have h5:=Hd (Qt h') (SJ hx u);rw [<-h] at h5;exact absurd (Zl hf h5) (Jr.2 d1b)
  have:=Pw hw (Mc hx hy hR (Zl hxy e2) ew3);exact tG this.1 this.2
theorem loc {R:Rat} (hR:0<=R) {f w u:Up} {L:Uq} (hc:HJ f L) (h:∀ t,ev f t=ev w t*ev u t):∃ e:Rat,0<e/\∀ x y,Fj x<=R->Fj y<=R->x<y->y-x<=e->Qdt f w L x y:=by
 rcases hc with ⟨c,hc,hf,rfl⟩ | ⟨g,l,k,hk,hg,hc,rfl⟩
 ·obtain ⟨e,ep,h1⟩:=Qr5 hR (Cv hc) h;refine ⟨e,ep,λx y hx hy hxy he=>.inl ⟨?_,h1 x y hx hy (by rw [Mf]; constructor <;> grind) (by rw [hf]; exact Qp)⟩⟩;simp only [vv,tc,hf]
 ·obtain ⟨d,e1,dp,e1p,h1⟩:=Qvb hR hc;obtain ⟨e2,e2p,h2⟩:=Qr5 hR dp h;obtain ⟨d3,d3p,_,d3b⟩:=Hj (b:=k) (d:=d) (Qt hk) dp;obtain ⟨e3,e3p,_,e3b⟩:=Hj (CU hR f) d3p;obtain ⟨d4,d4p,_,d4b⟩:=Hj (b:=AL R w+AL R u) (d:=d3) (by have:=M3 hR w; have:=M3 hR u; grind) d3p;obtain ⟨e4,e4p,_,e4b⟩:=Hj (M3 hR w) d4p;obtain ⟨e5,e5p,_,e5b⟩:=Hj (M3 hR u) d4p;obtain ⟨a1,a1p,a11,a12⟩:=min2 e1p e2p;obtain ⟨a2,a2p,a21,a22⟩:=min2 e3p e4p;obtain ⟨a3,a3p,a31,a32⟩:=min2 a1p a2p;obtain ⟨e,ep,b1,b2⟩:=min2 a3p e5p;refine ⟨e,ep,λx y hx hy hxy he=>?_⟩;have hab:Fj (y-x)<=e:=by rw [Mf]; clear h1 h2; constructor <;> grind
  have hab1:Fj (y-x)<=e1:=by clear h1 h2; grind
  have hab2:Fj (y-x)<=e2:=by clear h1 h2; grind
  obtain ⟨i1,i2,i3,i4,i5⟩:=h1 x y hx hy hab1;rcases Gi d (Fj (ev f x)) with hf | hf
  ·obtain ⟨s1,s2⟩:=h2 x y hx hy hab2 hf;obtain ⟨j1,j2⟩:=i2 hf;refine .inl ⟨?_,s1,s2⟩;have:=i4 j1 j2;simp only [vv];rw [GM (x:=x) (p:=f) j2,GM (x:=y) (p:=f) (by rw [j1]; exact j2),j1,this]
  ·have hg1:d<=Fj (ev g x):=by
    rcases i1 with i | i
    ·exact absurd i (Jr.2 hf)
    ·exact i
   obtain ⟨g1,g2⟩:=i3 hg1;have i5:=i5 g1 g2;have hD:d3<=Fj (dv f x):=by
    rcases Gi d3 (Fj (dv f x)) with h' | h'
    ·exact h'
    ·have h5:=Hd (x:=k) (a:=k) (by unfold Fj; split <;> clear h1 h2 <;> grind) (Rat.le_of_lt h');rw [<-hg] at h5;have:k*d3=d3*k:=by grind
     exact absurd (Zl hg1 h5) (Jr.2 (by rw [this]; exact d3b))
   have hm:=LG hx hy hR hxy (by clear h1 h2; grind:y-x<=e3) hD e3b;have s1:Fg (ev g x)=Fg (dv f x):=by rw [hg,Sw,Hy.2 hk,Kq]
   have s2:Fg (ev g y)=Fg (dv f y):=by rw [hg,Sw,Hy.2 hk,Kq]
   obtain ⟨s,hs⟩:=nmE (Fg (ev g x));rw [<-hs] at g1 g2 i5 s1;rw [g1] at s2;have v1:=tc0 (f:=f) (l:=l) hs.symm g2;have v2:=tc0 (f:=f) (l:=l) g1 g2;rw [<-i5] at v2;rw [<-s1] at hm;have hw:Sm f x y->Sm w x y:=λhf=>by
    rcases Gi d4 (Fj (ev u x)) with hu | hu
    ·have hu:=Pw hu (Mc hx hy hR (Zl hab b2) e5b);exact Qv9 h hu.1 hu.2 hf
    ·have hw:d4<=Fj (ev w x):=by
      rcases Gi d4 (Fj (ev w x)) with h' | h'
      ·exact h'
      ·have q1:=Hd (x:=dv w x) (y:=ev u x) (a:=AL R w) (by rw [<-jV]; exact uH hx hx w) (Qt hu);have q2:=Hd (x:=ev w x) (y:=dv u x) (b:=AL R u) (Qt h') (by rw [<-jV]; exact uH hx hx u);have q3:=Su (dv w x*ev u x) (ev w x*dv u x);rw [<-QS h] at q3;have:d4*(AL R w+AL R u)=AL R w*d4+d4*AL R u:=by grind
       rw [this] at d4b;exact absurd (Zl hD (Zl q3 (by clear h1 h2; grind:_<=AL R w*d4+d4*AL R u))) (Jr.2 d4b)
     have hw:=Pw hw (Mc hx hy hR (Zl hab (by clear h1 h2; grind)) e4b);exact tG hw.1 hw.2
   have lx:Po f x=if Fg (ev f x)≠0 then Fg (ev f x) else s:=by rw [s1]; rfl
   have ly:Po f y=if Fg (ev f y)≠0 then Fg (ev f y) else s:=by rw [s2]; rfl
   clear h1 h2 i1 i2 i3 i4;have hsv:s=1\/s=-1:=by rcases Ga (ev g x) with ⟨e,_⟩ | ⟨e,_⟩ | ⟨e,_⟩ <;> omega
   unfold Qdt;simp only [vv,v1,v2];rcases hsv with rfl | rfl
   ·have hm:=Hy.1 hm;rcases Ga (ev f x) with ⟨p1,p2⟩ | ⟨p1,p2⟩ | ⟨p1,p2⟩
    ·rcases Ga (ev f y) with ⟨q1,q2⟩ | ⟨q1,q2⟩ | ⟨q1,q2⟩
     ·rw [p1,q1]; have hsm:=tG (p:=f) (x:=x) (y:=y) (by rw [p1,q1]) (by rw [p1]; decide);exact .inl ⟨rfl,hsm,hw hsm⟩
     ·rw [lx,ly,p1,q1]; refine .inr ⟨by simp; omega,by decide,by decide,by decide,by decide⟩
     ·rw [lx,ly,p1,q1]; refine .inr ⟨by simp; omega,by decide,by decide,by decide,by decide⟩
    ·have q1:=Hy.2 (show 0<ev f y by grind);have hsm:Sm f x y:=⟨by rw [lx,q1,p1]; rfl,by rw [lx,ly,q1,p1]; rfl,by rw [lx,p1]; decide⟩;rw [p1,q1]; exact .inl ⟨rfl,hsm,hw hsm⟩
    ·have q1:=Hy.2 (show 0<ev f y by grind);have hsm:Sm f x y:=⟨by rw [lx,q1,p1]; rfl,by rw [lx,ly,q1,p1],by rw [lx,p1]; decide⟩;rw [p1,q1]; exact .inl ⟨rfl,hsm,hw hsm⟩
   ·have hm:=Pf.1 hm;rcases Ga (ev f x) with ⟨p1,p2⟩ | ⟨p1,p2⟩ | ⟨p1,p2⟩
    ·have q1:=Pf.2 (show ev f y<0 by grind);have hsm:Sm f x y:=⟨by rw [lx,q1,p1]; rfl,by rw [lx,ly,q1,p1],by rw [lx,p1]; decide⟩;rw [p1,q1]; exact .inl ⟨rfl,hsm,hw hsm⟩
    ·have q1:=Pf.2 (show ev f y<0 by grind);have hsm:Sm f x y:=⟨by rw [lx,q1,p1]; rfl,by rw [lx,ly,q1,p1]; rfl,by rw [lx,p1]; decide⟩;rw [p1,q1]; exact .inl ⟨rfl,hsm,hw hsm⟩
    ·rcases Ga (ev f y) with ⟨q1,q2⟩ | ⟨q1,q2⟩ | ⟨q1,q2⟩
     ·rw [lx,ly,p1,q1]; refine .inr ⟨by simp; omega,by decide,by decide,by decide,by decide⟩
     ·rw [lx,ly,p1,q1]; refine .inr ⟨by simp; omega,by decide,by decide,by decide,by decide⟩
     ·rw [p1,q1]; have hsm:=tG (p:=f) (x:=x) (y:=y) (by rw [p1,q1]) (by rw [p1]; decide);exact .inl ⟨rfl,hsm,hw hsm⟩
theorem Q0a (z:Rat):∃ n:Nat,z<=(n:Rat):=by
 refine ⟨z.ceil.toNat,?_⟩;have h1:z<=(z.ceil:Rat):=Rat.le_ceil;have h2:(z.ceil:Rat)<=((z.ceil.toNat:Int):Rat):=Jb.2 (Int.self_le_toNat _);exact Zl h1 h2
theorem ZC {z e:Rat} (he:0<e):∃ n:Nat,z<=(n:Rat)*e:=by
 obtain ⟨n,hn⟩:=Q0a (z / e);exact ⟨n,by have:=Ze hn (Qt he); rwa [Hf he] at this⟩
theorem FY {R x y t:Rat} (hx:Fj x<=R) (hy:Fj y<=R) (h1:x<=t) (h2:t<=y):Fj t<=R:=by
 rw [Mf] at *; constructor <;> grind
def Qap (f w:Up) (L:Uq) (x y:Rat):Prop :=
 vv L y<=vv L x/\(vv L x=vv L y->Sm f x y/\Sm w x y)/\(vv L x=vv L y+1->Po f x≠0/\Po f y=-Po f x)
theorem aI {f w:Up} {L:Uq} {x y:Rat} (h:Qdt f w L x y):Qap f w L x y:=by
 rcases h with ⟨h1,h2,h3⟩ | ⟨h1,h2,h3,_⟩
 ·exact ⟨by omega,λ_=>⟨h2,h3⟩,λh=>by omega⟩
 ·exact ⟨by omega,λh=>by omega,λ_=>⟨h2,h3⟩⟩
theorem tH {w:Up} {x y z:Rat} (h1:Sm w x y) (h2:Sm w y z):Sm w x z:=⟨by rw [h2.s,h1.l],by rw [h2.l,h1.l],h1.n⟩
theorem nM {f w:Up} {L:Uq} {x y z:Rat} (h:Qap f w L x y) (h':Qap f w L y z):Qap f w L x z:=by
 obtain ⟨a1,a2,a3⟩:=h;obtain ⟨b1,b2,b3⟩:=h';refine ⟨by omega,λh=>?_,λh=>?_⟩
 ·obtain ⟨s1,s2⟩:=a2 (by omega);obtain ⟨s3,s4⟩:=b2 (by omega);exact ⟨tH s1 s3,tH s2 s4⟩
 ·by_cases e:vv L x=vv L y
  ·obtain ⟨s1,_⟩:=a2 e;obtain ⟨s3,s4⟩:=b3 (by omega);exact ⟨s1.n,by rw [s4,s1.l]⟩
  ·obtain ⟨s3,s4⟩:=a3 (by omega);obtain ⟨s1,_⟩:=b2 (by omega);exact ⟨s3,by rw [s1.l,s4]⟩
theorem Quz {R:Rat} (hR:0<=R) {f w u:Up} {L:Uq} (hc:HJ f L) (h:∀ t,ev f t=ev w t*ev u t) {x y:Rat} (hx:Fj x<=R) (hy:Fj y<=R) (hxy:x<y):Qap f w L x y:=by
 obtain ⟨e,ep,hl⟩:=loc hR hc h;have key:∀ n:Nat,∀ x,Fj x<=R->x<y->y-x<=(n:Rat)*e->Qap f w L x y:=by
  intro n
  induction n with
  | zero =>
   intro x hx hxy h; exfalso; have:((0:Nat):Rat)*e=0:=by simp
   grind
  |
   succ n ih =>
   intro x hx hxy hn;rcases Gi (y-x) e with h1 | h1
   ·exact aI (hl x y hx hy hxy h1)
   ·have hm:Fj (x+e)<=R:=FY hx hy (by clear hl ih; grind) (by clear hl ih; grind);have hn':(((n+1:Nat):Rat))=(n:Rat)+1:=by push_cast; rfl
    refine nM (aI (hl x (x+e) hx hm (by clear hl ih; grind) (by clear hl ih; grind))) (ih (x+e) hm (by clear hl ih; grind) ?_);rw [hn'] at hn;clear hl ih; grind
 obtain ⟨n,hn⟩:=ZC (z:=y-x) ep;exact key n x hx hxy hn
theorem xX (x y:Rat):∃ R:Rat,0<=R/\Fj x<=R/\Fj y<=R:=by
 refine ⟨Fj x+Fj y,?_,?_,?_⟩ <;> (have:=Hw x; have:=Hw y; grind)
theorem Tf (t:Rat):ev [1] t=1:=by simp only [ev]; grind
theorem Az {f:Up} {L:Uq} (hc:HJ f L) {x y:Rat} (hxy:x<y):vv L y<=vv L x:=by
 obtain ⟨R,hR,hx,hy⟩:=xX x y;exact (Quz hR hc (w:=f) (u:=[1]) (λt=>by rw [Tf]; grind) hx hy hxy).1
theorem KX {f w u:Up} {L:Uq} (hc:HJ f L) (h:∀ t,ev f t=ev w t*ev u t) {x y:Rat} (hxy:x<y) (he:vv L x=vv L y):Sm w x y:=by
 obtain ⟨R,hR,hx,hy⟩:=xX x y;exact ((Quz hR hc h hx hy hxy).2.1 he).2
theorem kQ {f:Up} {L:Uq} (hc:HJ f L) {x y:Rat} (hxy:x<y) (he:vv L x=vv L y):Sm f x y :=
 KX hc (w:=f) (u:=[1]) (λt=>by rw [Tf]; grind) hxy he
theorem vO {f:Up} {L:Uq} (hc:HJ f L) {x y:Rat} (hxy:x<y) (he:vv L x=vv L y+1):Po f x≠0/\Po f y=-Po f x:=by
 obtain ⟨R,hR,hx,hy⟩:=xX x y;exact (Quz hR hc (w:=f) (u:=[1]) (λt=>by rw [Tf]; grind) hx hy hxy).2.2 he
theorem Qlc {f:Up} {L:Uq} (hc:HJ f L) (R:Rat) (hR:0<=R):∃ e:Rat,0<e/\∀ x y,Fj x<=R->Fj y<=R->x<y->y-x<=e->vv L x<=vv L y+1:=by
 obtain ⟨e,ep,hl⟩:=loc hR hc (w:=f) (u:=[1]) (λt=>by rw [Tf]; grind);refine ⟨e,ep,λx y hx hy hxy he=>?_⟩;rcases hl x y hx hy hxy he with ⟨h,_⟩ | ⟨h,_⟩ <;> omega
theorem US {p:Up} {x:Rat} (h:Fg (ev p x)≠0):∃ e:Rat,0<e/\∀ y,Fj (y-x)<=e->Fg (ev p y)=Fg (ev p x):=by
 have hd:=Cv (x:=ev p x) λh0=>h (Gs.2 h0)
 have hR:0<=Fj x+1:=by have:=Hw x; grind
 obtain ⟨e,e1,e2,e3⟩:=Hj (M3 hR p) hd;refine ⟨e,e1,λy hy=>(Pw Qp (Mc (x:=x) (by grind) ?_ hR hy e3)).1⟩;have:=Su (y-x) x;have e:y-x+x=y:=by grind
 rw [e] at this; grind
theorem Qse {R M:Rat} {p:Up} (hM:M=ddB R p) (hR:0<=R) {h:Rat} (hh:0<h):∀ (n:Nat) (x:Rat),Fj x<=R->Fj (x+(n:Rat)*h)<=R->(∀ t,x<=t->t<=x+(n:Rat)*h->0<=dv p t)->ev p x-(n:Rat)*(h*h*M)<=ev p (x+(n:Rat)*h)
 |
  0,x,_,_,_=>by
  have e1:x+((0:Nat):Rat)*h=x:=by rw [show ((0:Nat):Rat)=0 from rfl]; grind
  have e2:((0:Nat):Rat)*(h*h*M)=0:=by simp
  rw [e1,e2]; grind
 |
  n+1,x,hx,hy,hd=>by
  have hn':(((n+1:Nat):Rat))=(n:Rat)+1:=by push_cast; rfl
  rw [hn'] at hy hd ⊢;have hn0:(0:Rat)<=(n:Rat):=Xi;have hnh:=Bh hn0 (Qt hh);have e1:x+((n:Rat)+1)*h=(x+h)+(n:Rat)*h:=by grind
  rw [e1] at hy hd ⊢;have hxh:Fj (x+h)<=R:=FY hx hy (by clear hd; grind) (by clear hd; grind);have ih:=Qse hM hR hh n (x+h) hxh hy λt h1 h2=>hd t (by clear hd; grind) h2
  have h0:=hd x Qp (by clear hd; grind);have h1:=Qr2 p (x+h) x;have h2:=Qgr hxh hx p;rw [<-hM,Mf] at h2;have h3:=Z0 h2.1 (Bh (Qt hh) (Qt hh));have h4:=Bh (Qt hh) h0;have e2:x+h-x=h:=by grind
  rw [e2] at h1;clear hd hx hy hxh;grind
theorem Qyt {p:Up} {x y:Rat} (hxy:x<y) (hd:∀ t,x<=t->t<=y->0<=dv p t):ev p x<=ev p y:=by
 obtain ⟨R,hR,hx,hy⟩:=xX x y;rcases Gi (ev p x) (ev p y) with h | h
 ·exact h
 ·exfalso;obtain ⟨M,hM⟩:=nmE (ddB R p);have hM0:=CU hR p;rw [<-hM] at hM0;obtain ⟨e,ep,_,he⟩:=Hj (b:=(y-x)*M) (d:=ev p x-ev p y) (Bh (by grind) hM0) (by grind);obtain ⟨n,hn⟩:=ZC (z:=y-x) ep;have hn0:0<(n:Rat):=by
   rcases Gi (n:Rat) 0 with h' | h'
   ·have:=Ze h' (Qt ep); clear hd; grind
   ·exact h'
  have hh:0<(y-x) / n:=Ag (by grind) hn0;have e1:(n:Rat)*((y-x) / n)=y-x:=by rw [W7]; exact Hf hn0
  have e2:x+(n:Rat)*((y-x) / n)=y:=by rw [e1]; grind
  have h1:=Qse hM hR hh n x hx (by rw [e2]; exact hy) (by rw [e2]; exact hd);rw [e2] at h1;have h2:(y-x) / n<=e:=by
   rcases Gi ((y-x) / n) e with h' | h'
   ·exact h'
   ·have:=Rat.mul_lt_mul_of_pos_left h' hn0; clear hd; grind
  have h3:(n:Rat)*((y-x) / n*((y-x) / n)*M)=((y-x) / n)*((y-x)*M):=by
   have:(n:Rat)*((y-x) / n*((y-x) / n)*M)=((n:Rat)*((y-x) / n))*(((y-x) / n)*M):=by grind
   rw [this,e1]; grind
  have h4:=Ze h2 (Bh (x:=y-x) (y:=M) (by grind) hM0);rw [h3] at h1;clear hd; grind
theorem Qp6 {p:Up} {x y:Rat} (hxy:x<y) (hd:∀ t,x<=t->t<=y->0<dv p t):ev p x<ev p y:=by
 have hx:=hd x Qp (by grind);have hR:0<=Fj x+1:=by have:=Hw x; grind
 obtain ⟨e,e1,e2,e3⟩:=Hj (CU hR p) hx;obtain ⟨f,f1,f2,f3⟩:=min2 (a:=e) (b:=y-x) e1 (by grind);have hq:Fj (x+f)<=Fj x+1:=by
  have:=Su x f; have:Fj f=f:=by unfold Fj; split <;> grind
  clear hd; grind
 have h1:=LG (p:=p) (x:=x) (y:=x+f) (R:=Fj x+1) (e:=e) (d:=dv p x) (by clear hd; grind) hq hR (by grind) (by grind) (by unfold Fj; split <;> clear hd <;> grind) e3;rw [Hy.2 hx,Hy] at h1;rcases Classical.em (x+f=y) with e | e
 ·rw [<-e]; clear hd; grind
 ·have:=Qyt (p:=p) (x:=x+f) (y:=y) (by clear hd; grind) λt h1 h2=>Qt (hd t (by clear hd; grind) h2)
  clear hd; grind
structure Cut (c:Rat->Int):Prop where
 val:∀ q,c q=1\/c q=0\/c q=-1
 mono:∀ q r,q<r->c q≠1->c r=-1
 up:∀ q,c q=1->∃ r,q<r/\c r=1
 dn:∀ q,c q=-1->∃ r,r<q/\c r=-1
 lo:∃ q,c q=1
 hi:∃ q,c q=-1
theorem Cut.mono' {c:Rat->Int} (h:Cut c) {q r:Rat} (hqr:q<r) (hr:c r≠-1):c q=1:=by
 rcases Classical.em (c q=1) with e | e
 ·exact e
 ·exact absurd (h.mono q r hqr e) hr
theorem Cut.lt {c:Rat->Int} (h:Cut c) {q r:Rat} (hq:c q=1) (hr:c r=-1):q<r:=by
 rcases Gi r q with e | e
 ·rcases Classical.em (r=q) with e' | e'
  ·rw [e'] at hr; omega
  ·have:=h.mono r q (by grind) (by omega); omega
 ·exact e
theorem Cut.near {c:Rat->Int} (h:Cut c) {e:Rat} (he:0<e):∃ x y,c x=1/\c y=-1/\y-x<=e:=by
 obtain ⟨a,ha⟩:=h.lo;obtain ⟨b,hb⟩:=h.hi;have he2:0<e / 2:=Ag he (by decide);have h2:e / 2*2=e:=Hf (by decide);have key:∀ (n:Nat) (a:Rat),c a=1->b-a<=(n:Rat)*(e / 2)->∃ x y,c x=1/\c y=-1/\y-x<=e:=by
  intro n
  induction n with
  |
   zero =>
   intro a ha hn;have:=h.lt ha hb;rw [show ((0:Nat):Rat)=0 from rfl] at hn;exfalso; grind
  |
   succ n ih =>
   intro a ha hn;have hn':(((n+1:Nat):Rat))=(n:Rat)+1:=by push_cast; rfl
   rw [hn'] at hn;rcases h.val (a+e / 2) with h1 | h1 | h1
   ·exact ih _ h1 (by grind)
   ·exact ⟨a,a+e,ha,h.mono (a+e / 2) _ (by grind) (by omega),by grind⟩
   ·exact ⟨a,a+e / 2,ha,h1,by grind⟩
 obtain ⟨n,hn⟩:=ZC (z:=b-a) he2;exact key n a ha hn
def I0 (p:Up) (c:Rat->Int):Prop:=∀ d:Rat,0<d->∃ x y,c x=1/\c y=-1/\∀ q,x<=q->q<=y->Fj (ev p q)<d
def NZ (p:Up) (c:Rat->Int) (s:Int):Prop:=∃ d:Rat,0<d/\∃ x y,c x=1/\c y=-1/\∀ q,x<=q->q<=y->Fg (ev p q)=s/\d<=Fj (ev p q)
def Nr (c:Rat->Int) (P:Rat->Prop):Prop:=∃ x y,c x=1/\c y=-1/\∀ q,x<=q->q<=y->P q
theorem bJ {c:Rat->Int} {P Q:Rat->Prop} (h1:Nr c P) (h2:Nr c Q):Nr c λq=>P q/\Q q:=by
 obtain ⟨x,y,a1,a2,a3⟩:=h1;obtain ⟨x',y',b1,b2,b3⟩:=h2;refine ⟨if x<=x' then x' else x,if y<=y' then y else y',by split <;> assumption,by split <;> assumption,λq q1 q2=>⟨a3 q ?_ ?_,b3 q ?_ ?_⟩⟩ <;> clear a3 b3 <;> grind
theorem ME {c:Rat->Int} {P Q:Rat->Prop} (h1:Nr c P) (h:∀ q,P q->Q q):Nr c Q:=by
 obtain ⟨x,y,a1,a2,a3⟩:=h1;exact ⟨x,y,a1,a2,λq q1 q2=>h q (a3 q q1 q2)⟩
theorem gK {c:Rat->Int} (hc:Cut c) {P:Rat->Prop} (h1:Nr c P):∃ q,P q/\c q=1:=by
 obtain ⟨x,y,a1,a2,a3⟩:=h1;exact ⟨x,a3 x Qp (Qt (hc.lt a1 a2)),a1⟩
theorem Qi3 {c:Rat->Int} (hc:Cut c) {e:Rat} (he:0<e) {P:Rat->Prop} (h1:Nr c P):∃ x y,c x=1/\c y=-1/\y-x<=e/\x<y/\∀ q,x<=q->q<=y->P q:=by
 obtain ⟨x,y,a1,a2,a3⟩:=h1;obtain ⟨x',y',b1,b2,b3⟩:=hc.near he;refine ⟨if x<=x' then x' else x,if y<=y' then y else y',by split <;> assumption,by split <;> assumption,by clear a3; grind,hc.lt (by split <;> assumption) (by split <;> assumption),λq q1 q2=>a3 q ?_ ?_⟩ <;> clear a3 <;> grind
theorem Qsc {c:Rat->Int} (hc:Cut c):∃ R:Rat,0<=R/\Nr c λq=>Fj q<=R:=by
 obtain ⟨x,y,a1,a2,_⟩:=hc.near (e:=1) (by decide);obtain ⟨R,hR,h1,h2⟩:=xX x y;exact ⟨R,hR,x,y,a1,a2,λq q1 q2=>FY h1 h2 q1 q2⟩
theorem JD {c:Rat->Int} (hc:Cut c) (p:Up):I0 p c\/∃ s,s≠0/\NZ p c s:=by
 rcases Classical.em (I0 p c) with h | h
 ·exact .inl h
 ·refine .inr ?_;obtain ⟨d,hd0⟩:=Classical.not_forall.1 h;obtain ⟨dp,hd⟩:=Classical.not_imp.1 hd0;have hd:∀ x y,c x=1->c y=-1->∃ q,x<=q/\q<=y/\d<=Fj (ev p q):=λx y hx hy=>by
   rcases Classical.em (∃ q,x<=q/\q<=y/\d<=Fj (ev p q)) with h' | h'
   ·exact h'
   ·refine absurd ⟨x,y,hx,hy,λq h1 h2=>?_⟩ hd;rcases Gi d (Fj (ev p q)) with h3 | h3
    ·exact absurd ⟨q,h1,h2,h3⟩ h'
    ·exact h3
  obtain ⟨R,hR,hn⟩:=Qsc hc;have hd2:0<d / 2:=Ag dp (by decide);have h2:d / 2*2=d:=Hf (by decide);obtain ⟨e,e1,_,e3⟩:=Hj (M3 hR p) hd2;obtain ⟨x,y,hx,hy,hxy,_,hq⟩:=Qi3 hc e1 hn;obtain ⟨r,r1,r2,r3⟩:=hd x y hx hy;have key:∀ q,x<=q->q<=y->Fj (ev p q-ev p r)<d / 2:=λq q1 q2 =>
   Mc (hq r r1 r2) (hq q q1 q2) hR (by rw [Mf]; clear hq hd; constructor <;> grind) e3
  refine ⟨Fg (ev p r),λh0=>?_,d / 2,hd2,x,y,hx,hy,λq q1 q2=>⟨(Pw (d:=d) r3 ?_).1,?_⟩⟩
  ·rw [Gs.1 h0,Rj] at r3; clear hq hd key; grind
  ·have:=key q q1 q2; clear hq hd key; grind
  ·have h3:=key q q1 q2;have h4:=Su (ev p r-ev p q) (ev p q);rw [show ev p r-ev p q+ev p q=ev p r from by clear hq hd key; grind,oR] at h4;clear hq hd key; grind
theorem Qwn {c:Rat->Int} (hc:Cut c) {p:Up} {s:Int} (h1:I0 p c) (h2:NZ p c s):False:=by
 obtain ⟨d,dp,h2⟩:=h2;obtain ⟨q,⟨a,b⟩,_⟩:=gK hc (bJ (h1 d dp) h2);exact absurd b.2 (Jr.2 a)
theorem P8 {c:Rat->Int} (hc:Cut c) {f p q:Up} (hf:∀ t,ev f t=ev p t*ev q t) (h:I0 p c):I0 f c:=by
 intro d dp;obtain ⟨R,hR,hn⟩:=Qsc hc;obtain ⟨e,e1,_,e3⟩:=Hj (XJ hR q) dp;refine ME (bJ hn (h e e1)) λt ⟨h1,h2⟩=>?_
 rw [hf];have:=Hd (Qt h2) (SJ h1 q);exact Jr.1 λh=>absurd (Zl h this) (Jr.2 e3)
theorem NP {c:Rat->Int} {f p q:Up} (hf:∀ t,ev f t=ev p t+ev q t) (h:I0 p c) (h':I0 q c):I0 f c:=by
 intro d dp;have hd2:0<d / 2:=Ag dp (by decide);have h2:d / 2*2=d:=Hf (by decide);refine ME (bJ (h _ hd2) (h' _ hd2)) λt ⟨h1,h2⟩=>?_
 rw [hf];have:=Su (ev p t) (ev q t);grind
def RS (p:Up) (c:Rat->Int) (s:Int):Prop:=∃ y,c y=-1/\∀ q,c q=-1->q<=y->Fg (ev p q)=s
def LS (p:Up) (c:Rat->Int) (s:Int):Prop:=∃ x,c x=1/\∀ q,c q=1->x<=q->Fg (ev p q)=s
theorem zU {c:Rat->Int} (hc:Cut c) {p:Up} {s:Int} (h:NZ p c s):RS p c s:=by
 obtain ⟨d,dp,x,y,a1,a2,a3⟩:=h;exact ⟨y,a2,λq h1 h2=>(a3 q (Qt (hc.lt a1 h1)) h2).1⟩
theorem iJ {c:Rat->Int} (hc:Cut c) {p:Up} {s:Int} (h:NZ p c s):LS p c s:=by
 obtain ⟨d,dp,x,y,a1,a2,a3⟩:=h;exact ⟨x,a1,λq h1 h2=>(a3 q h2 (Qt (hc.lt h1 a2))).1⟩
theorem GW {c:Rat->Int} {p:Up} {s s':Int} (h:RS p c s) (h':RS p c s'):s=s':=by
 obtain ⟨y,a1,a2⟩:=h;obtain ⟨y',b1,b2⟩:=h';rcases Gi y y' with e | e
 ·rw [<-a2 y a1 Qp,<-b2 y a1 e]
 ·rw [<-a2 y' b1 (Qt e),<-b2 y' b1 Qp]
theorem Qsh {c:Rat->Int} (hc:Cut c) {p:Up} (hv:I0 p c) {y:Rat} (hy:c y=-1) (h:∀ q,c q=-1->q<=y->0<dv p q) (q:Rat) (hq:c q=-1) (hqy:q<=y):0<ev p q:=by
 rcases Gi (ev p q) 0 with h0 | h0
 ·exfalso;obtain ⟨r,r1,r2⟩:=hc.dn q hq;have hr:ev p r<ev p q:=Qp6 r1 λt t1 t2=>h t (by
   rcases Classical.em (r=t) with e | e
   ·rw [<-e]; exact r2
   ·exact hc.mono r t (by clear h; grind) (by omega)) (Zl t2 hqy)
  obtain ⟨a,b,ha,hb,hab⟩:=hv (-ev p r) (by clear h; grind);obtain ⟨m,hm1,hm2,hm3⟩:∃ m,c m=-1/\m<=b/\m<=r:=by
   rcases Gi b r with e | e
   ·exact ⟨b,hb,Qp,e⟩
   ·exact ⟨r,r2,Qt e,Qp⟩
  have h1:=hab m (Qt (hc.lt ha hm1)) hm2;have h2:ev p m<=ev p r:=by
   rcases Classical.em (m=r) with e | e
   ·rw [e]; exact Qp
   ·exact Qt (Qp6 (by clear h hab; grind) λt t1 t2=>h t (by
     rcases Classical.em (m=t) with e | e
     ·rw [<-e]; exact hm1
     ·exact hc.mono m t (by clear h hab; grind) (by omega)) (by clear h hab; grind))
  rw [vJ] at h1;clear h hab; grind
 ·exact h0
theorem vU {c:Rat->Int} (hc:Cut c) {p:Up} {s:Int} (hv:I0 p c) (h:RS (Bl p) c s) (hs:s≠0):RS p c s:=by
 obtain ⟨y,hy,h⟩:=h;have hsv:s=1\/s=-1:=by
  have:=h y hy Qp;rcases Ga (ev (Bl p) y) with ⟨e,_⟩ | ⟨e,_⟩ | ⟨e,_⟩ <;> omega
 rcases hsv with rfl | rfl
 ·refine ⟨y,hy,λq h1 h2=>Hy.2 (Qsh hc hv hy (λq h1 h2=>?_) q h1 h2)⟩;rw [<-Tr]; exact Hy.1 (h q h1 h2)
 ·refine ⟨y,hy,λq h1 h2=>Pf.2 ?_⟩;have:=Qsh hc (p:=D3 (-1) p) (y:=y) (λd dp=>ME (hv d dp) λq hq=>by rw [Gu,show -1*ev p q=-ev p q by grind,Et]; exact hq) hy (λq h1 h2=>by
   rw [HA,<-Tr];have:=Pf.1 (h q h1 h2); grind) q h1 h2
  rw [Gu] at this; grind
theorem Qr9 {c:Rat->Int} (hc:Cut c) {p:Up} (hv:I0 p c) {x:Rat} (hx:c x=1) (h:∀ q,c q=1->x<=q->0<dv p q) (q:Rat) (hq:c q=1) (hxq:x<=q):ev p q<0:=by
 rcases Gi 0 (ev p q) with h0 | h0
 ·exfalso;obtain ⟨r,r1,r2⟩:=hc.up q hq;have hr:ev p q<ev p r:=Qp6 r1 λt t1 t2=>h t (by
   rcases Classical.em (t=r) with e | e
   ·rw [e]; exact r2
   ·exact hc.mono' (q:=t) (r:=r) (by clear h; grind) (by omega)) (Zl hxq t1)
  obtain ⟨a,b,ha,hb,hab⟩:=hv (ev p r) (by clear h; grind);obtain ⟨m,hm1,hm2,hm3⟩:∃ m,c m=1/\a<=m/\r<=m:=by
   rcases Gi a r with e | e
   ·exact ⟨r,r2,e,Qp⟩
   ·exact ⟨a,ha,Qp,Qt e⟩
  have h1:=hab m hm2 (Qt (hc.lt hm1 hb));have h2:ev p r<=ev p m:=by
   rcases Classical.em (r=m) with e | e
   ·rw [e]; exact Qp
   ·exact Qt (Qp6 (by clear h hab; grind) λt t1 t2=>h t (by
     rcases Classical.em (t=m) with e | e
     ·rw [e]; exact hm1
     ·exact hc.mono' (q:=t) (r:=m) (by clear h hab; grind) (by omega)) (by clear h hab; grind))
  rw [vJ] at h1;clear h hab; grind
 ·exact h0
theorem Qij {c:Rat->Int} (hc:Cut c) {p:Up} {s:Int} (hv:I0 p c) (h:LS (Bl p) c s) (hs:s≠0):LS p c (-s):=by
 obtain ⟨x,hx,h⟩:=h;have hsv:s=1\/s=-1:=by
  have:=h x hx Qp;rcases Ga (ev (Bl p) x) with ⟨e,_⟩ | ⟨e,_⟩ | ⟨e,_⟩ <;> omega
 rcases hsv with rfl | rfl
 ·refine ⟨x,hx,λq h1 h2=>Pf.2 (Qr9 hc hv hx (λq h1 h2=>?_) q h1 h2)⟩;rw [<-Tr]; exact Hy.1 (h q h1 h2)
 ·refine ⟨x,hx,λq h1 h2=>Hy.2 ?_⟩;have:=Qr9 hc (p:=D3 (-1) p) (x:=x) (λd dp=>ME (hv d dp) λq hq=>by rw [Gu,show -1*ev p q=-ev p q by grind,Et]; exact hq) hx (λq h1 h2=>by
   rw [HA,<-Tr];have:=Pf.1 (h q h1 h2); grind) q h1 h2
  rw [Gu] at this; grind
theorem Qqe {c:Rat->Int} (hc:Cut c) {f g:Up} {l:Uq} (h:SCl f g l):I0 f c->I0 g c->False:=by
 induction h with
 |
  @base f g k hk hg =>
  intro _ hv;obtain ⟨q,hq,_⟩:=gK hc (hv (Fj k) (Cv hk));rw [hg] at hq; grind
 |
  @step f g h l a b q ha hb he hl ih =>
  intro hf hg;refine ih hg ?_;have h1:I0 (G8 q g) c:=P8 hc (p:=g) (q:=q) (λt=>by rw [Fh]; grind) hg;have h2:I0 (D3 (-a) f) c:=P8 hc (p:=f) (q:=[-a]) (λt=>by rw [Gu]; simp only [ev]; grind) hf;have h3:I0 (Sv (G8 q g) (D3 (-a) f)) c:=NP (λt=>G0 t _ _) h1 h2;refine P8 hc (p:=Sv (G8 q g) (D3 (-a) f)) (q:=[1 / b]) (λt=>?_) h3;have:=he t;rw [G0,Fh,Gu];simp only [ev];have hbb:1 / b*b=1:=Hf hb;have:ev q t*ev g t+-a*ev f t=b*ev h t:=by rw [show -a*ev f t=-(a*ev f t) by grind,he t]; grind
  rw [this];have:b*ev h t*(1 / b+t*0)=ev h t*(1 / b*b):=by grind
  rw [this,hbb]; grind
theorem xQ {c:Rat->Int} (hc:Cut c) {f g:Up} {k:Rat} (h:∀ t,ev g t=k*ev f t) (hv:I0 f c):I0 g c :=
 P8 hc (p:=f) (q:=[k]) (λt=>by rw [h]; simp only [ev]; grind) hv
theorem Qqo {c:Rat->Int} (hc:Cut c) {f:Up} {L:Uq} (h:HJ f L) (hv:I0 f c):∃ s,s≠0/\NZ (Bl f) c s:=by
 rcases JD hc (Bl f) with h1 | h1
 ·exfalso;rcases h with ⟨k,hk,hf,_⟩ | ⟨g,l,k,hk,hg,h,_⟩
  ·obtain ⟨q,hq,_⟩:=gK hc (hv (Fj k) (Cv hk));rw [hf] at hq; grind
  ·exact Qqe hc h hv (xQ hc (λt=>by rw [hg,Tr]) h1)
 ·exact h1
theorem eD {c:Rat->Int} (hc:Cut c) {f w u:Up} {L:Uq} (h:HJ f L) (hf:∀ t,ev f t=ev w t*ev u t) (hv:I0 w c):∃ s,s≠0/\NZ (Bl w) c s:=by
 rcases JD hc (Bl w) with h1 | h1
 ·exfalso;obtain ⟨s,_,hs⟩:=Qqo hc h (P8 hc hf hv);refine Qwn hc ?_ hs;have a1:I0 (G8 (Bl w) u) c:=P8 hc (λt=>Fh t _ _) h1;have a2:I0 (G8 w (Bl u)) c:=P8 hc (λt=>Fh t _ _) hv;refine NP (λt=>?_) a1 a2;rw [Tr,QS hf,Fh,Fh,Tr,Tr]
 ·exact h1
theorem Qgo {c:Rat->Int} (hc:Cut c) {q:Rat} (h:c q=0) {x y:Rat} (hx:c x=1) (hy:c y=-1):x<=q/\q<=y:=by
 constructor
 ·rcases Gi x q with e | e
  ·exact e
  ·have:=hc.mono q x e (by omega); omega
 ·rcases Gi q y with e | e
  ·exact e
  ·have:=hc.mono y q e (by omega); omega
theorem TC {c:Rat->Int} (hc:Cut c) {p:Up} {q:Rat} (h:c q=0) (hv:I0 p c):ev p q=0:=by
 rcases Classical.em (ev p q=0) with e | e
 ·exact e
 ·obtain ⟨x,y,hx,hy,hq⟩:=hv _ (Cv e);obtain ⟨h1,h2⟩:=Qgo hc h hx hy;have:=hq q h1 h2; grind
theorem gW {c:Rat->Int} (hc:Cut c) {p:Up} {q:Rat} {s:Int} (h:c q=0) (hv:NZ p c s):Fg (ev p q)=s:=by
 obtain ⟨d,dp,x,y,hx,hy,hq⟩:=hv;obtain ⟨h1,h2⟩:=Qgo hc h hx hy;exact (hq q h1 h2).1
theorem mG {c:Rat->Int} (hc:Cut c) {y z:Rat} (hy:c y=-1) (hz:c z=-1):∃ q,c q=-1/\q<y/\q<z:=by
 obtain ⟨a,a1,a2⟩:=hc.dn y hy;obtain ⟨b,b1,b2⟩:=hc.dn z hz;rcases Gi a b with e | e
 ·exact ⟨a,a2,a1,by grind⟩
 ·exact ⟨b,b2,by grind,b1⟩
theorem CV {c:Rat->Int} (hc:Cut c) {y z:Rat} (hy:c y=1) (hz:c z=1):∃ q,c q=1/\y<q/\z<q:=by
 obtain ⟨a,a1,a2⟩:=hc.up y hy;obtain ⟨b,b1,b2⟩:=hc.up z hz;rcases Gi a b with e | e
 ·exact ⟨b,b2,by grind,b1⟩
 ·exact ⟨a,a2,a1,by grind⟩
theorem Qi2 {f w u:Up} {L:Uq} (h:HJ f L) (hf:∀ t,ev f t=ev w t*ev u t) {x y:Rat} (hv:vv L x=vv L y) {c:Rat->Int} (hc:Cut c) (hx:c x=1) (hy:c y≠1):¬I0 w c:=λhw=>by
 have hxy:x<y:=by
  rcases Gi y x with e | e
  ·rcases Classical.em (y=x) with e' | e'
   ·rw [e'] at hy; exact absurd hx hy
   ·have:=hc.mono y x (by grind) hy; omega
  ·exact e
 have hwv:=KX h hf hxy hv;rcases hc.val y with e | e | e
 ·exact hy e
 ·have:=TC hc e hw;have:=hwv.s;rw [Gs.2 (by assumption)] at this;exact hwv.n this.symm
 ·obtain ⟨s,hs,hd⟩:=eD hc h hf hw;obtain ⟨a,ha,hal⟩:=Qij hc hw (iJ hc hd) hs;obtain ⟨b,hb,hbr⟩:=vU hc hw (zU hc hd) hs;obtain ⟨q,q1,q2,q3⟩:=CV hc hx ha;obtain ⟨r,r1,r2,r3⟩:=mG hc hb e;have e1:=hal q q1 (Qt q3);have e2:=hbr r r1 (Qt r2);have hqr:=hc.lt q1 r1;have v1:vv L q<=vv L x:=Az h q2;have v2:vv L y<=vv L r:=Az h r3;have v3:vv L r<=vv L q:=Az h hqr;have s1:=(KX h hf q2 (by omega)).s;have s2:=(KX h hf (x:=x) (y:=r) (by grind) (by omega)).s;omega
theorem vC {f:Up} {L:Uq} (h:HJ f L) {x y:Rat} (hxy:x<y) (hv:vv L x≠vv L y) {d:Rat} (dp:0<d):∃ q,x<=q/\q<=y/\Fj (ev f q)<d:=by
 obtain ⟨R,hR,hx,hy⟩:=xX x y;obtain ⟨e1,e1p,hl⟩:=loc hR h (w:=f) (u:=[1]) (λt=>by rw [Tf]; grind);obtain ⟨e2,e2p,_,e2b⟩:=Hj (M3 hR f) dp;obtain ⟨e,ep,h1,h2⟩:=min2 e1p e2p;have key:∀ n:Nat,∀ x,Fj x<=R->x<y->vv L x≠vv L y->y-x<=(n:Rat)*e->∃ q,x<=q/\q<=y/\Fj (ev f q)<d:=by
  intro n
  induction n with
  | zero=>intro x hx hxy _ hn; rw [show ((0:Nat):Rat)=0 from rfl] at hn; exfalso; clear hl; grind
  |
   succ n ih =>
   intro x hx hxy hv hn;have hstep:∀ z,Fj z<=R->x<z->z-x<=e->vv L x≠vv L z->Fj (ev f z)<d:=λz hz hxz hze hv=>by
    rcases hl x z hx hz hxz (Zl hze h1) with ⟨p,_⟩ | ⟨_,p1,p2,p3,p4⟩
    ·exact absurd p hv
    ·have hd:=Mc (p:=f) hx hz hR (e:=e2) (d:=d) (by rw [Mf]; clear hl ih; constructor <;> grind) e2b;rw [<-p3] at p1 p4;clear hl ih p2 p3;rw [vJ] at *;rcases Ga (ev f x) with ⟨a,a'⟩ | ⟨a,a'⟩ | ⟨a,a'⟩ <;> rcases Ga (ev f z) with ⟨b,b'⟩ | ⟨b,b'⟩ | ⟨b,b'⟩ <;> rw [a,b] at p4 <;> first | (exfalso; revert p4; decide) | skip
     all_goals first | (constructor <;> grind) | (exfalso; omega)
   rcases Gi (y-x) e with h3 | h3
   ·exact ⟨y,Qt hxy,Qp,hstep y hy hxy h3 hv⟩
   ·have hm:Fj (x+e)<=R:=FY hx hy (by clear hl ih hstep; grind) (by clear hl ih hstep; grind);rcases Classical.em (vv L x=vv L (x+e)) with e0 | e0
    ·have hn':(((n+1:Nat):Rat))=(n:Rat)+1:=by push_cast; rfl
     rw [hn'] at hn;obtain ⟨q,q1,q2,q3⟩:=ih (x+e) hm (by clear hl ih hstep; grind) (by omega) (by clear hl ih hstep; grind);exact ⟨q,by clear hl ih hstep; grind,q2,q3⟩
    ·exact ⟨x+e,by clear hl ih hstep; grind,by clear hl ih hstep; grind,hstep (x+e) hm (by clear hl ih hstep; grind) (by clear hl ih hstep; grind) e0⟩
 obtain ⟨n,hn⟩:=ZC (z:=y-x) ep;exact key n x hx hxy hv hn
theorem Qx8 {p:Up} {x:Rat} (h:Po p x≠0):∃ e:Rat,0<e/\∀ y,x<y->y-x<=e->Fg (ev p y)=Po p x:=by
 by_cases h0:Fg (ev p x)=0
 ·have hx:=Gs.1 h0;rw [nC h0] at h ⊢;have hR:0<=Fj x+1:=by have:=Hw x; grind
  obtain ⟨e,e1,e2,e3⟩:=Hj (CU hR p) (Cv (x:=dv p x) λh'=>h (Gs.2 h'));refine ⟨e,e1,λy h1 h2=>?_⟩;have hy:Fj y<=Fj x+1:=by
   have:=Su x (y-x);have e:x+(y-x)=y:=by grind
   have e':Fj (y-x)=y-x:=by unfold Fj; split <;> grind
   rw [e,e'] at this; grind
  have:=LG (p:=p) (by grind) hy hR h1 h2 Qp e3;rw [hx] at this;rw [<-this]; congr 1; grind
 ·rw [Am h0] at h ⊢;obtain ⟨e,e1,e2⟩:=US h;exact ⟨e,e1,λy h1 h2=>e2 y (by rw [Mf]; constructor <;> grind)⟩
def cq (P:Up) (lo hi q:Rat):Int:=if q<=lo then 1 else if hi<q then -1 else if Fg (ev P q)=0 then 0 else if Fg (ev P q)=Po P lo then 1 else -1
structure Vt (P:List Rat) (L:List (List Rat)) (lo hi:Rat):Prop where
 s:HJ P L
 l:lo<hi
 v:vv L lo=vv L hi+1
variable {P:Up} {L:Uq} {lo hi:Rat}
theorem Af {q:Rat} (h:q<=lo):cq P lo hi q=1:=by unfold cq; rw [if_pos h]
theorem UP {q:Rat} (h:lo<hi) (h':hi<q):cq P lo hi q=-1:=by unfold cq; rw [if_neg (by grind),if_pos h']
theorem Iq {q:Rat} (h1:lo<q) (h2:q<=hi):cq P lo hi q=if Fg (ev P q)=0 then 0 else if Fg (ev P q)=Po P lo then 1 else -1:=by
 unfold cq; rw [if_neg (by grind),if_neg (by grind)]
theorem Vt.two (V:Vt P L lo hi) {q:Rat} (h1:lo<q) (h2:q<=hi):vv L q=vv L lo/\cq P lo hi q=1/\Fg (ev P q)=Po P lo\/vv L q=vv L hi/\cq P lo hi q≠1/\Po P q=-Po P lo/\Po P lo≠0:=by
 have a:=Az V.s h1;have b:vv L hi<=vv L q:=by
  rcases Classical.em (q=hi) with e | e
  ·rw [e]; exact Ql _
  ·exact Az V.s (by grind)
 have hv:=V.v;rcases (show vv L q=vv L lo\/vv L q=vv L hi by omega) with e | e
 ·have hs:=kQ V.s h1 e.symm;refine .inl ⟨e,?_,hs.s⟩;rw [Iq h1 h2,hs.s,if_neg hs.n,if_pos rfl]
 ·obtain ⟨o1,o2⟩:=vO V.s h1 (by omega);refine .inr ⟨e,?_,o2,o1⟩;rw [Iq h1 h2]
  split
  ·decide
  ·rename_i h0;rw [Am h0] at o2;rw [if_neg (by omega)]; decide
theorem Vt.lowlo (V:Vt P L lo hi):Po P lo≠0:=(vO V.s V.l V.v).1
theorem Vt.eq_lo (V:Vt P L lo hi) {q:Rat} (h1:lo<q) (h2:q<=hi) (h:cq P lo hi q=1):vv L q=vv L lo:=by
 rcases V.two h1 h2 with ⟨e,_⟩ | ⟨_,e,_⟩
 ·exact e
 ·exact absurd h e
theorem Vt.eq_hi (V:Vt P L lo hi) {q:Rat} (h1:lo<q) (h2:q<=hi) (h:cq P lo hi q≠1):vv L q=vv L hi:=by
 rcases V.two h1 h2 with ⟨_,e,_⟩ | ⟨e,_⟩
 ·exact absurd e h
 ·exact e
theorem Vt.hi1 (V:Vt P L lo hi):cq P lo hi hi≠1:=λh=>by have:=V.eq_lo V.l Qp h; have:=V.v; omega
theorem Vt.cut (V:Vt P L lo hi):Cut (cq P lo hi) where
 val q:=by unfold cq; split <;> (try split) <;> (try split) <;> (try split) <;> simp
 mono q r h h1:=by
  have hq:lo<q:=by
   rcases Gi q lo with e | e
   ·exact absurd (Af e) h1
   ·exact e
  rcases Gi r hi with e | e
  ·have e1:=V.eq_hi hq (by grind) h1;rcases V.two (q:=r) (by grind) e with ⟨e2,_⟩ | ⟨e2,_,e3,e4⟩
   ·have:=Az V.s h; have:=V.v; omega
   ·have hs:=kQ V.s h (by omega);rcases V.two hq (by grind) with ⟨e5,_⟩ | ⟨_,_,e5,_⟩
    ·have:=V.v; omega
    ·rw [Iq (by grind) e,hs.s,if_neg hs.n,e5,if_neg (by omega)]
  ·exact UP V.l e
 up q h:=by
  rcases Gi q lo with e | e
  ·obtain ⟨d,dp,hd⟩:=Qx8 V.lowlo;obtain ⟨f,fp,f1,f2⟩:=min2 (a:=d) (b:=hi-lo) dp (by have:=V.l; grind);have h1:lo<lo+f:=by clear hd; grind
   have h2:lo+f<=hi:=by clear hd; grind
   have:=hd (lo+f) h1 (by clear hd; grind);exact ⟨lo+f,by clear hd; grind,by rw [Iq h1 h2,this,if_neg V.lowlo,if_pos rfl]⟩
  ·have hh:q<=hi:=by
    rcases Gi q hi with e' | e'
    ·exact e'
    ·have:=UP (P:=P) V.l e'; omega
   rcases V.two e hh with ⟨e1,_,e2⟩ | ⟨_,e1,_⟩
   ·have hn:q≠hi:=λh=>by rw [h] at e1; have:=V.v; omega
    obtain ⟨d,dp,hd⟩:=US (p:=P) (x:=q) (by rw [e2]; exact V.lowlo);obtain ⟨f,fp,f1,f2⟩:=min2 (a:=d) (b:=hi-q) dp (by clear hd; grind);have:=hd (q+f) (by rw [Mf]; clear hd; constructor <;> grind);exact ⟨q+f,by clear hd; grind,by rw [Iq (by clear hd; grind) (by clear hd; grind),this,e2,if_neg V.lowlo,if_pos rfl]⟩
   ·exact absurd h e1
 dn q h:=by
  have hq:lo<q:=by
   rcases Gi q lo with e | e
   ·have:=Af (P:=P) (hi:=hi) e; omega
   ·exact e
  rcases Gi q hi with e | e
  ·rw [Iq hq e] at h
   split at h
   ·cases h
   rename_i h0
   split at h
   ·cases h
   rename_i h1;obtain ⟨d,dp,hd⟩:=US h0;obtain ⟨f,fp,f1,f2⟩:=min2 (a:=d) (b:=(q-lo) / 2) dp (Ag (by clear hd; grind) (by decide));have h2:(q-lo) / 2*2=q-lo:=Hf (by decide);have:=hd (q-f) (by rw [Mf]; clear hd; constructor <;> grind);exact ⟨q-f,by clear hd; grind,by rw [Iq (by clear hd; grind) (by clear hd; grind),this,if_neg h0,if_neg h1]⟩
  ·have h2:(q-hi) / 2*2=q-hi:=Hf (by decide);exact ⟨q-(q-hi) / 2,by grind,UP V.l (by grind)⟩
 lo:=⟨lo,Af Qp⟩
 hi:=⟨hi+1,UP V.l (by grind)⟩
theorem Vt.van (V:Vt P L lo hi):I0 P (cq P lo hi):=by
 have hc:=V.cut;rcases JD hc P with h | ⟨s,hs,h⟩
 ·exact h
 ·exfalso;have e1:s=Po P lo:=by
   obtain ⟨x,hx,hx1⟩:=iJ hc h;obtain ⟨q,q1,q2,q3⟩:=CV hc hx (Af (P:=P) (hi:=hi) (Qp (a:=lo)));have hq:q<=hi:=by
    rcases Gi q hi with e | e
    ·exact e
    ·have:=UP (P:=P) V.l e; omega
   rcases V.two q3 hq with ⟨_,_,e⟩ | ⟨_,e,_⟩
   ·rw [<-hx1 q q1 (Qt q2),e]
   ·exact absurd q1 e
  rcases hc.val hi with e | e | e
  ·exact V.hi1 e
  ·have h0:=gW hc e h;rw [Iq V.l Qp] at e
   split at e
   ·omega
   ·split at e <;> omega
  ·obtain ⟨y,hy,hy1⟩:=zU hc h;obtain ⟨q,q1,q2,q3⟩:=mG hc hy e;have hq:lo<q:=hc.lt (Af (P:=P) (hi:=hi) (Qp (a:=lo))) q1;have:=hy1 q q1 (Qt q2);rw [Iq hq (Qt q3),this,if_neg hs,if_pos e1] at q1;cases q1
def nY (w:Up) (lo hi:Rat):Prop:=Fg (ev w hi)=0\/Fg (ev w hi)≠Po w lo
theorem Vt.has (V:Vt P L lo hi) {w u:Up} (hf:∀ t,ev P t=ev w t*ev u t) {a b:Rat} (h1:lo<=a) (h2:a<b) (h3:b<=hi):nY w a b↔I0 w (cq P lo hi)/\cq P lo hi a=1/\cq P lo hi b≠1:=by
 have hc:=V.cut;have smno:vv L a=vv L b->¬nY w a b:=λh hh=>by
  have:=KX V.s hf h2 h;rcases hh with e | e
  ·rw [this.s] at e; exact this.n e
  ·exact e this.s
 by_cases ha:cq P lo hi a=1
 ·by_cases hb:cq P lo hi b=1
  ·have e1:=V.eq_lo (by grind) h3 hb;have e2:vv L a=vv L lo:=by
    rcases Classical.em (lo=a) with e | e
    ·rw [e]
    ·exact V.eq_lo (by grind) (by grind) ha
   exact ⟨λh=>absurd h (smno (by omega)),λh=>absurd hb h.2.2⟩
  ·have e1:=V.eq_hi (by grind) h3 hb;have e2:vv L a=vv L lo:=by
    rcases Classical.em (lo=a) with e | e
    ·rw [e]
    ·exact V.eq_lo (by grind) (by grind) ha
   have left:∀ s,LS w (cq P lo hi) s->s=Po w a:=λs hs=>by
    obtain ⟨x,hx,hx1⟩:=hs;obtain ⟨q,q1,q2,q3⟩:=CV hc hx ha;have hqb:q<b:=by
     rcases Gi b q with e | e
     ·rcases Classical.em (b=q) with e' | e'
      ·rw [e'] at hb; exact absurd q1 hb
      ·have:=hc.mono b q (by clear hx1 smno; grind) hb; omega
     ·exact e
    have:=V.eq_lo (q:=q) (by clear hx1 smno; grind) (by clear hx1 smno; grind) q1;rw [<-(KX V.s hf q3 (by omega)).s,hx1 q q1 (Qt q2)]
   have right:∀ s,RS w (cq P lo hi) s->cq P lo hi b=-1->s=Fg (ev w b):=λs hs hb=>by
    obtain ⟨y,hy,hy1⟩:=hs;obtain ⟨q,q1,q2,q3⟩:=mG hc hy hb;have hqa:=hc.lt ha q1;have:=V.eq_hi (q:=q) (by clear hy1 smno; grind) (by clear hy1 smno; grind) (by omega);have hs:=KX V.s hf q3 (by omega);have hl:=hy1 q q1 (Qt q2);have h0:Fg (ev w q)≠0:=by
     have hs2:=KX V.s hf (x:=q) (y:=b) q3 (by omega);intro h0;obtain ⟨r,r1,r2⟩:=hc.dn q q1;have har:=hc.lt ha r2;have:=V.eq_hi (q:=r) (by clear hy1 smno; grind) (by clear hy1 smno; grind) (by omega);have hs3:=KX V.s hf (x:=r) (y:=q) r1 (by omega);have hs4:=hs3.s;rw [h0] at hs4; exact hs3.n hs4.symm
    rw [hs.s,Am h0,hl]
   refine ⟨λh=>⟨?_,ha,hb⟩,λ⟨hw,_,_⟩=>?_⟩
   ·rcases JD hc w with e | ⟨s,AS,hs⟩
    ·exact e
    ·exfalso;have l1:=left s (iJ hc hs);have r1:Fg (ev w b)=s:=by
      rcases hc.val b with e | e | e
      ·exact absurd e hb
      ·exact gW hc e hs
      ·exact (right s (zU hc hs) e).symm
     rcases h with h | h
     ·exact AS (by rw [<-r1]; exact h)
     ·exact h (by rw [r1,l1])
   ·rcases hc.val b with e | e | e
    ·exact absurd e hb
    ·exact .inl (Gs.2 (TC hc e hw))
    ·obtain ⟨s,AS,hs⟩:=eD hc V.s hf hw;have l1:=left _ (Qij hc hw (iJ hc hs) AS);have r1:=right _ (vU hc hw (zU hc hs) AS) e;exact .inr (by rw [<-l1,<-r1]; omega)
 ·have hla:lo<a:=by
   rcases Classical.em (lo=a) with e | e
   ·rw [<-e] at ha; exact absurd (Af Qp) ha
   ·grind
  have hb:cq P lo hi b≠1:=by have:=hc.mono a b h2 ha; omega
  have e1:=V.eq_hi hla (by grind) ha;have e2:=V.eq_hi (q:=b) (by grind) h3 hb;exact ⟨λh=>absurd h (smno (by omega)),λh=>absurd h.2.1 ha⟩
theorem uY {c c':Rat->Int} (hc:Cut c) (hc':Cut c') {q:Rat} (h:c q≠c' q):∃ r,(c r=-1/\c' r=1)\/(c r=1/\c' r=-1):=by
 rcases hc.val q with e | e | e <;> rcases hc'.val q with e' | e' | e'
 ·omega
 ·obtain ⟨r,r1,r2⟩:=hc.up q e;exact ⟨r,.inr ⟨r2,hc'.mono q r r1 (by omega)⟩⟩
 ·exact ⟨q,.inr ⟨e,e'⟩⟩
 ·obtain ⟨r,r1,r2⟩:=hc'.up q e';exact ⟨r,.inl ⟨hc.mono q r r1 (by omega),r2⟩⟩
 ·omega
 ·obtain ⟨r,r1,r2⟩:=hc'.dn q e';exact ⟨r,.inr ⟨hc.mono' r1 (by omega),r2⟩⟩
 ·exact ⟨q,.inl ⟨e,e'⟩⟩
 ·obtain ⟨r,r1,r2⟩:=hc.dn q e;exact ⟨r,.inl ⟨r2,hc'.mono' r1 (by omega)⟩⟩
 ·omega
theorem Vt.uniq (V:Vt P L lo hi) {c:Rat->Int} (hc:Cut c) (h1:c lo=1) (h2:c hi≠1) (hv:I0 P c) (q:Rat):c q=cq P lo hi q:=by
 rcases Classical.em (c q=cq P lo hi q) with e | e
 ·exact e
 ·exfalso;obtain ⟨r,⟨r1,r2⟩ | ⟨r1,r2⟩⟩:=uY hc V.cut e
  ·have hl:=hc.lt h1 r1;have hh:r<=hi:=by
    rcases Gi r hi with e | e
    ·exact e
    ·have:=UP (P:=P) V.l e; omega
   have:=V.eq_lo hl hh r2;exact Qi2 V.s (w:=P) (u:=[1]) (λt=>by rw [Tf]; grind) (x:=lo) (y:=r) (by omega) hc h1 (by omega) hv
  ·have hl:lo<r:=by
    rcases Gi r lo with e | e
    ·have:=Af (P:=P) (hi:=hi) e; omega
    ·exact e
   have hh:r<=hi:=by
    rcases Gi r hi with e | e
    ·exact e
    ·have:=hc.mono hi r e h2; omega
   have:=V.eq_hi hl hh (by omega);exact Qi2 V.s (w:=P) (u:=[1]) (λt=>by rw [Tf]; grind) (x:=r) (y:=hi) (by omega) hc r1 h2 hv
theorem Vt.same (V:Vt P L lo hi) {P':Up} {L':Uq} {lo' hi':Rat} (V':Vt P' L' lo' hi') {g u u' U W:Up} {k:Rat} (hk:k≠0) (h1:∀ t,ev P t=ev g t*ev u t) (h2:∀ t,ev P' t=ev g t*ev u' t) (h3:∀ t,k*ev g t=ev U t*ev P t+ev W t*ev P' t) {a b:Rat} (ha1:lo<=a) (ha2:lo'<=a) (ha:a=lo\/a=lo') (hb1:b<=hi) (hb2:b<=hi') (hb:b=hi\/b=hi'):(a<b/\nY g a b)↔∀ q,cq P lo hi q=cq P' lo' hi' q:=by
 have hc:=V.cut;have hc':=V'.cut;constructor
 ·rintro ⟨hab,hg⟩
  obtain ⟨g1,g2,g3⟩:=(V.has h1 ha1 hab hb1).1 hg;obtain ⟨g4,g5,g6⟩:=(V'.has h2 ha2 hab hb2).1 hg;intro q;refine (V.uniq hc' (by
   rcases Classical.em (lo=a) with e | e
   ·rw [e]; exact g5
   ·exact hc'.mono' (q:=lo) (r:=a) (by grind) (by omega)) (λh=>?_) (P8 hc' h1 g4) q).symm
  rcases Classical.em (b=hi) with e | e
  ·rw [<-e] at h; exact g6 h
  ·have:=hc'.mono b hi (by grind) g6; omega
 ·intro h;have hcc:cq P' lo' hi'=cq P lo hi:=funext λq=>(h q).symm
  have e1:cq P lo hi a=1:=by
   rcases ha with rfl | rfl
   ·exact Af Qp
   ·rw [h]; exact Af Qp
  have e2:cq P lo hi b≠1:=by
   rcases hb with rfl | rfl
   ·exact V.hi1
   ·rw [h]; exact V'.hi1
  have hab:a<b:=by
   rcases Gi b a with e | e
   ·rcases Classical.em (b=a) with e' | e'
    ·rw [e'] at e2; exact absurd e1 e2
    ·have:=hc.mono b a (by grind) e2; omega
   ·exact e
  have v1:=V.van;have v2:=V'.van;rw [hcc] at v2;have hg:I0 g (cq P lo hi):=by
   have a1:I0 (G8 U P) (cq P lo hi):=P8 hc (p:=P) (q:=U) (λt=>by rw [Fh]; grind) v1;have a2:I0 (G8 W P') (cq P lo hi):=P8 hc (p:=P') (q:=W) (λt=>by rw [Fh]; grind) v2;have a3:=NP (λt=>G0 t _ _) a1 a2;refine xQ hc (k:=1 / k) (λt=>?_) a3;rw [G0,Fh,Fh,<-h3];have:1 / k*(k*ev g t)=1 / k*k*ev g t:=by grind
   rw [this,show 1 / k*k=1 from Zj hk]; grind
  exact ⟨hab,(V.has h1 ha1 hab hb1).2 ⟨hg,e1,e2⟩⟩
end Orq
namespace Orq
theorem Qjj:∀ (M:Nat) (f:Nat->Nat),(∀ i,i<=M->f i<M)->∃ i j,i<j/\j<=M/\f i=f j
 | 0,f,h=>absurd (h 0 (Ql _)) (Nat.not_lt_zero _)
 |
  M+1,f,h=>by
  rcases Classical.em (∃ i,i<=M/\f i=f (M+1)) with ⟨i,h1,h2⟩ | hn
  ·exact ⟨i,M+1,by omega,Ql _,h2⟩
  ·have hne:∀ i,i<=M->f i≠f (M+1):=λi hi e=>hn ⟨i,hi,e⟩
   obtain ⟨i,j,h1,h2,h3⟩:=Qjj M (λi=>if f i=M then f (M+1) else f i) λi hi=>by
    have a1:=h i (by omega);have a2:=h (M+1) (Ql _);have a3:=hne i hi;show (if f i=M then f (M+1) else f i)<M
    split <;> omega
   refine ⟨i,j,h1,by omega,?_⟩;have a1:=hne i (by omega);have a2:=hne j h2
   split at h3 <;> split at h3 <;> omega
def dg (B k i:Nat):Nat:=k / B^i % B
theorem eM (B k i:Nat):dg B k (i+1)=dg B (k / B) i:=by unfold dg; rw [Nat.pow_succ,Nat.mul_comm,Nat.div_div_eq_div_mul]
theorem Qgs {B:Nat}:∀ (N:Nat) {k k':Nat},k<B^N->k'<B^N->(∀ i,i<N->dg B k i=dg B k' i)->k=k'
 | 0,k,k',h,h',_=>by rw [Vd] at h h'; omega
 |
  N+1,k,k',h,h',he=>by
  have h0:=he 0 (by omega);unfold dg at h0;rw [Vd,Nat.div_one,Nat.div_one] at h0;have hB:0<B:=by
   rcases Q3 B with e | e
   ·rw [e,Zr,Yz] at h; omega
   ·exact e
  have h1:=Qgs N (k:=k / B) (k':=k' / B) (X8 (by rw [Zq,<-Zr]; exact h)) (X8 (by rw [Zq,<-Zr]; exact h')) λi hi=>by
   rw [<-eM,<-eM]; exact he (i+1) (by omega)
  rw [<-We k B,<-We k' B,h0,h1]
def cd (B:Nat):Nat->(Nat->Nat)->Nat
 | 0,_=>0
 | E+1,x=>x 0+B*cd B E λe=>x (e+1)
theorem Qru {B:Nat}:∀ (E:Nat) {x:Nat->Nat},(∀ e,e<E->x e<B)->cd B E x<B^E
 | 0,_,_=>by simp [cd]
 |
  E+1,x,h=>by
  have h1:=h 0 (by omega);have h2:=Qru E (x:=λe=>x (e+1)) λe he=>h (e+1) (by omega)
  simp only [cd];have h3:B*cd B E (λe=>x (e+1))+B<=B*B^E:=by
   rw [<-W4]; exact Zu _ h2
  rw [Zr,Zq (B^E)]; omega
theorem Qgd {B:Nat}:∀ (E:Nat) {x y:Nat->Nat},(∀ e,e<E->x e<B)->(∀ e,e<E->y e<B)->cd B E x=cd B E y->∀ e,e<E->x e=y e
 | 0,_,_,_,_,_,e,he=>by omega
 |
  E+1,x,y,hx,hy,h,e,he=>by
  have h1:=hx 0 (by omega);have h2:=hy 0 (by omega);simp only [cd] at h;have e0:x 0=y 0:=by
   have:=congrArg (· % B) h;simp only [Ka] at this;rwa [Xt h1,Xt h2] at this
  have e1:cd B E (λe=>x (e+1))=cd B E (λe=>y (e+1)):=Nat.eq_of_mul_eq_mul_left (by omega:0<B) (by omega);cases e with
  | zero=>exact e0
  | succ e=>exact Qgd E (λe he=>hx (e+1) (by omega)) (λe he=>hy (e+1) (by omega)) e1 e (by omega)
def sm:Nat->(Nat->Int)->Int
 | 0,_=>0
 | n+1,f=>sm n f+f n
theorem Qks (f g:Nat->Int):∀ n,sm n (λi=>f i-g i)=sm n f-sm n g
 | 0=>rfl
 | n+1=>by simp only [sm,Qks f g n]; omega
theorem Lo {f g:Nat->Int}:∀ n,(∀ i,i<n->f i=g i)->sm n f=sm n g
 | 0,_=>rfl
 | n+1,h=>by simp only [sm,Lo n (λi hi=>h i (by omega)),h n (by omega)]
theorem Qkr {f:Nat->Int} {b:Nat}:∀ n,(∀ i,i<n->(f i).natAbs<=b)->(sm n f).natAbs<=n*b
 | 0,_=>by simp [sm]
 |
  n+1,h=>by
  have h1:=Qkr n λi hi=>h i (by omega)
  have h2:=h n (by omega);simp only [sm];rw [Xa]; omega
theorem VZ {f:Nat->Int}:∀ n,(∀ i,i<n->f i=0)->sm n f=0
 | 0,_=>rfl
 | n+1,h=>by simp only [sm,VZ n (λi hi=>h i (by omega)),h n (by omega)]; rfl
theorem cN (f:Nat->Int) (m:Nat):∀ n,sm (m+n) f=sm m f+sm n λi=>f (m+i)
 | 0=>by simp [sm]
 | n+1=>by rw [<-Yp]; simp only [sm,cN f m n]; omega
theorem cB (f:Nat->Int) (J:Nat):∀ b,sm (b*J) f=sm b λi=>sm J λj=>f (i*J+j)
 | 0=>by simp [sm]
 | b+1=>by rw [Xa,cN,cB f J b]; rfl
theorem EB {f:Nat->Int} {k:Nat}:∀ n,k<n->(∀ i,i<n->i≠k->f i=0)->sm n f=f k
 | 0,h,_=>by omega
 |
  n+1,h,h1=>by
  simp only [sm];rcases Vl (Nat.le_of_lt_succ h) with e | e
  ·rw [EB n e λi hi=>h1 i (by omega),h1 n (by omega) (by omega)]; omega
  ·subst e; rw [VZ k λi hi=>h1 i (by omega) (by omega)]; omega
theorem Qv7 {M:Nat->Nat->Int} {h N E H:Nat} (hM:∀ e i,(M e i).natAbs<=h) (hc:(2*(N*(h*H))+1)^E<(H+1)^N) :
 ∃ v:Nat->Int,(∀ i,(v i).natAbs<=H)/\(∃ i,i<N/\v i≠0)/\∀ e,e<E->sm N (λi=>M e i*v i)=0:=by
 obtain ⟨T,hT⟩:=nmE (N*(h*H));rw [<-hT] at hc;have hv:∀ k i,dg (H+1) k i<=H:=λk i=>Nat.le_of_lt_succ (Z4 _ (by omega))
 have hs:∀ k e,(sm N λi=>M e i*(dg (H+1) k i:Int)).natAbs<=T:=λk e=>by
  rw [hT];refine Qkr N λi _=>?_
  rw [J9,Xh];exact Zc (hM e i) (hv k i)
 have him:∀ k e,((sm N λi=>M e i*(dg (H+1) k i:Int))+T).toNat<2*T+1:=λk e=>by have:=hs k e; omega
 obtain ⟨i,j,h1,h2,h3⟩:=Qjj ((2*T+1)^E) (λk=>cd (2*T+1) E λe=>((sm N λi=>M e i*(dg (H+1) k i:Int))+T).toNat) λk _=>Qru E λe _=>him k e
 have h4:=Qgd E (λe _=>him i e) (λe _=>him j e) h3;refine ⟨λn=>(dg (H+1) i n:Int)-dg (H+1) j n,λn=>?_,?_,λe he=>?_⟩
 ·have a1:=hv i n;have a2:=hv j n;show ((dg (H+1) i n:Int)-dg (H+1) j n).natAbs<=H;omega
 ·rcases Classical.em (∃ n,n<N/\(dg (H+1) i n:Int)-dg (H+1) j n≠0) with e | e
  ·exact e
  ·exfalso;have:i=j:=Qgs (B:=H+1) N (by omega) (by omega) λn hn=>by
    rcases Classical.em (dg (H+1) i n=dg (H+1) j n) with e' | e'
    ·exact e'
    ·exact absurd ⟨n,hn,by omega⟩ e
   omega
 ·have a1:=h4 e he;have a2:=hs i e;have a3:=hs j e;have:(sm N λn=>M e n*(dg (H+1) i n:Int))=sm N λn=>M e n*(dg (H+1) j n:Int):=by omega
  have e1:=Qks (λn=>M e n*(dg (H+1) i n:Int)) (λn=>M e n*(dg (H+1) j n:Int)) N;rw [this] at e1;rw [Lo N (g:=λn=>M e n*(dg (H+1) i n:Int)-M e n*(dg (H+1) j n:Int)) λn _=>Int.mul_sub _ _ _,e1]; omega
def U9:Um->Rat->Rat
 | [],_=>0
 | a::p,t=>(a:Rat)+t*U9 p t
def sq:Nat->(Nat->Rat)->Rat
 | 0,_=>0
 | n+1,f=>sq n f+f n
theorem Pp {f g:Nat->Rat}:∀ n,(∀ i,i<n->f i=g i)->sq n f=sq n g
 | 0,_=>rfl
 | n+1,h=>by simp only [sq,Pp n (λi hi=>h i (by omega)),h n (by omega)]
theorem dZ (f g:Nat->Rat):∀ n,sq n (λi=>f i+g i)=sq n f+sq n g
 | 0=>by simp only [sq]; grind
 | n+1=>by simp only [sq,dZ f g n]; grind
theorem JP (c:Rat) (f:Nat->Rat):∀ n,sq n (λi=>c*f i)=c*sq n f
 | 0=>by simp only [sq]; grind
 | n+1=>by simp only [sq,JP c f n]; grind
theorem Cy {f:Nat->Rat}:∀ n,(∀ i,i<n->f i=0)->sq n f=0
 | 0,_=>rfl
 | n+1,h=>by simp only [sq,Cy n (λi hi=>h i (by omega)),h n (by omega)]; grind
theorem O6 (f:Nat->Rat):∀ n,sq (n+1) f=f 0+sq n λi=>f (i+1)
 | 0=>by simp only [sq]; grind
 | n+1=>by rw [sq,O6 f n]; simp only [sq]; grind
theorem Qsm {f:Nat->Rat} {b:Rat}:∀ n,(∀ i,i<n->Fj (f i)<=b)->Fj (sq n f)<=(n:Rat)*b
 | 0,_=>by rw [show ((0:Nat):Rat)=0 from rfl]; simp only [sq,Rj]; grind
 |
  n+1,h=>by
  have h1:=Qsm n λi hi=>h i (by omega)
  have h2:=h n (by omega);have h3:=Su (sq n f) (f n);have hn':(((n+1:Nat):Rat))=(n:Rat)+1:=by push_cast; rfl
  rw [hn']; simp only [sq]; clear h; grind
def gc:Um->Nat->Nat->Int
 | [],_,_=>0
 | c::B,k,j=>(if k=0/\j=0 then c else 0)+(if k=0 then 0 else gc B (k-1) j)-(if j=0 then 0 else gc B k (j-1))
def gB:Um->Nat
 | []=>0
 | c::B=>max c.natAbs (2*gB B)
theorem MM:∀ (B:Um) (k j:Nat),B.length<=k+j->gc B k j=0
 | [],_,_,_=>rfl
 |
  c::B,k,j,h=>by
  simp only [Q5] at h;simp only [gc];rw [if_neg (by omega)];have e1:(if k=0 then 0 else gc B (k-1) j)=0:=by
   split
   ·rfl
   ·exact MM B _ _ (by omega)
  have e2:(if j=0 then 0 else gc B k (j-1))=0:=by
   split
   ·rfl
   ·exact MM B _ _ (by omega)
  rw [e1,e2]; rfl
theorem Qhk:∀ (B:Um) (k j:Nat),(gc B k j).natAbs<=gB B
 | [],_,_=>Qh _
 |
  c::B,k,j=>by
  have h1:=Qhk B (k-1) j;have h2:=Qhk B k (j-1);simp only [gc,gB];by_cases hk:k=0 <;> by_cases hj:j=0 <;> simp only [hk,hj,true_and,and_true,false_and,and_false,if_true,if_false] <;> (try subst hk) <;> (try subst hj) <;> omega
theorem Qhl:∀ (B:Um) (b:Nat),B.length=b+1->(gc B 0 b).natAbs=(B.getD b 0).natAbs
 | [],_,h=>by simp at h
 | [c],0,_=>by simp [gc]
 | c::d::B,0,h=>by simp at h
 |
  c::B,b+1,h=>by
  have ih:=Qhl B b (by simpa using h);simp only [gc];simp only [Yb,Q4];rw [if_pos trivial,if_neg (Nat.succ_ne_zero b),<-ih]; omega
def E2 (F:Nat->Nat->Int) (K J:Nat) (x y:Rat):Rat:=sq K λk=>sq J λj=>(F k j:Rat)*(y^k*x^j)
theorem mP (F G:Nat->Nat->Int) (K J:Nat) (x y:Rat):E2 (λk j=>F k j+G k j) K J x y=E2 F K J x y+E2 G K J x y:=by
 unfold E2;rw [<-dZ];refine Pp K λk _=>?_
 rw [<-dZ];exact Pp J λj _=>by push_cast; grind
theorem Qg0 (c:Int) (F:Nat->Nat->Int) (K J:Nat) (x y:Rat):E2 (λk j=>F k j*c) K J x y=(c:Rat)*E2 F K J x y:=by
 unfold E2;rw [<-JP];refine Pp K λk _=>?_
 rw [<-JP];exact Pp J λj _=>by push_cast; grind
theorem Qg1 (φ:Nat->Nat->Nat->Int) (v:Nat->Int) (K J:Nat) (x y:Rat):∀ N,E2 (λk j=>sm N λn=>φ n k j*v n) K J x y=sq N λn=>(v n:Rat)*E2 (φ n) K J x y
 |
  0=>by
  simp only [sq,sm];unfold E2;refine Cy K λk _=>Cy J λj _=>?_
  rw [show ((0:Int):Rat)=0 from rfl]; grind
 |
  N+1=>by
  simp only [sq];rw [<-Qg1 φ v K J x y N,<-Qg0,<-mP];rfl
theorem GV (t:Rat) (i:Nat):∀ k,t^(i+k)=t^i*t^k
 | 0=>by rw [Xl,Xg]; grind
 | k+1=>by rw [<-Yp,Z7,Z7,GV t i k]; grind
theorem ED (f:Nat->Rat):∀ (i n:Nat),sq (i+n) (λk=>if i<=k then f (k-i) else 0)=sq n f
 | i,0=>Cy _ λk hk=>by rw [if_neg (by omega)]
 |
  i,n+1=>by
  rw [<-Yp]; simp only [sq];rw [ED f i n,if_pos (by omega),Jk]
def PL (i j':Nat) (F:Nat->Nat->Int) (k j:Nat):Int:=if i<=k then (if j'<=j then F (k-i) (j-j') else 0) else 0
theorem CC (F:Nat->Nat->Int) (i j' K J:Nat) (x y:Rat):E2 (PL i j' F) (i+K) (j'+J) x y=y^i*x^j'*E2 F K J x y:=by
 unfold E2;rw [<-JP,<-ED _ i K];refine Pp _ λk _=>?_
 by_cases hk:i<=k
 ·rw [if_pos hk,<-JP,<-ED _ j' J];refine Pp _ λj _=>?_
  unfold PL;rw [if_pos hk];by_cases hj:j'<=j
  ·rw [if_pos hj,if_pos hj];have e1:y^k=y^i*y^(k-i):=by rw [<-GV]; congr 1; omega
   have e2:x^j=x^j'*x^(j-j'):=by rw [<-GV]; congr 1; omega
   rw [e1,e2]; grind
  ·rw [if_neg hj,if_neg hj,show ((0:Int):Rat)=0 from rfl]; grind
 ·rw [if_neg hk];refine Cy _ λj _=>?_
  unfold PL;rw [if_neg hk,show ((0:Int):Rat)=0 from rfl]; grind
def fA (A:Um) (k j:Nat):Int:=if j=0 then A.getD k 0 else 0
theorem Qji (y:Rat):∀ (A:Um) (K:Nat),A.length<=K->sq K (λk=>((A.getD k 0:Int):Rat)*y^k)=U9 A y
 | [],K,_=>by rw [Cy]; rfl; intro i _; simp
 | a::A,0,h=>by simp at h
 |
  a::A,K+1,h=>by
  have ih:=Qji y A K (by simpa using h);rw [O6];simp only [U9,Zt,Q4,Xg];rw [<-ih,<-JP];have:(sq K λi=>((A.getD i 0:Int):Rat)*y^(i+1))=sq K λi=>y*(((A.getD i 0:Int):Rat)*y^i):=Pp K λi _=>by rw [Z7]; grind
  rw [this]; grind
theorem Qx3 (A:Um) (K J:Nat) (x y:Rat) (h:A.length<=K):E2 (fA A) K (J+1) x y=U9 A y:=by
 rw [<-Qji y A K h];refine Pp K λk _=>?_
 rw [O6,Cy]
 ·simp only [fA,if_true,Xg]; grind
 ·intro j _;simp only [fA];rw [if_neg (by omega),show ((0:Int):Rat)=0 from rfl]; grind
theorem Quc (x y:Rat):∀ (B:Um) (K J:Nat),B.length<=K->B.length<=J->E2 (gc B) K J x y=U9 B (y-x)
 |
  [],K,J,_,_=>by
  unfold E2;simp only [gc,U9];exact Cy K λk _=>Cy J λj _=>by rw [show ((0:Int):Rat)=0 from rfl]; grind
 | c::B,0,J,h,_=>by simp at h
 | c::B,K+1,0,_,h=>by simp at h
 |
  c::B,K+1,J+1,h1,h2=>by
  have i1:=Quc x y B K (J+1) (by simpa using h1) (by simp at h2; omega);have i2:=Quc x y B (K+1) J (by simp at h1; omega) (by simpa using h2);have s1:=CC (gc B) 1 0 K (J+1) x y;have s2:=CC (gc B) 0 1 (K+1) J x y;rw [Zy,Ju 1 K] at s1;rw [Zy,Ju 1 J] at s2;rw [i1] at s1;rw [i2] at s2;have e0:E2 (fA [c]) (K+1) (J+1) x y=(c:Rat):=by rw [Qx3 [c] (K+1) J x y (by simp)]; simp only [U9]; grind
  have e1:gc (c::B)=λk j=>(fA [c] k j+PL 1 0 (gc B) k j)+PL 0 1 (gc B) k j*(-1):=by
   funext k j;simp only [gc,fA,PL];by_cases hk:k=0 <;> by_cases hj:j=0
   ·subst hk; subst hj; simp
   ·subst hk; simp [hj,show 1<=j by omega]
    try omega
   ·subst hj;obtain ⟨m,rfl⟩:∃ m,k=m+1:=⟨k-1,by omega⟩;simp
   ·obtain ⟨m,rfl⟩:∃ m,k=m+1:=⟨k-1,by omega⟩;obtain ⟨i,rfl⟩:∃ i,j=i+1:=⟨j-1,by omega⟩;simp; omega
  rw [e1,mP (λk j=>fA [c] k j+PL 1 0 (gc B) k j) (λk j=>PL 0 1 (gc B) k j*(-1)),mP (fA [c]) (PL 1 0 (gc B)),Qg0,e0,s1,s2];simp only [U9,Xg,show y^1=y by rw [Z7,Xg]; grind,show x^1=x by rw [Z7,Xg]; grind];rw [show (((-1:Int)):Rat)=-1 from rfl];grind
end Orq
