/- C2 D1 E1 AlgL F1 F2 F3 F4 F5 T1 T2 T3 T4 T5 T6 T7 T8 T9 -/
import Derived.Test.YtbhhcpcpionelabGreatPart04
import Derived.Test.YtbhhcpcpionelabGreatPart00
set_option linter.all false
namespace Orr
open Go Go.Proofs Tryz
set_option maxRecDepth 10000
theorem Rv {l:List Pt} {i:Nat} {p:Pt} (h:l[i]? = some p):(l.map U6)[i]? = some [pl p.c.x,pl p.c.y,sg p.c.d,mg p.c.d,.int .i64 p.id]:=Gn h
theorem P5 (l:List Pt):∀ c∈l.map U6,c.length=5:=Qq4 l λ_=>rfl
theorem Qmh {lx ly:Uq} {px py:Uk} {x y:LV} {d:Int} (hx:IsInts lx px) (hy:IsInts ly py) (hd:Gv x y d) (hk:Cs 4294967294 1073741824 (Crv.mk px py d)) (id:Int):Uh 182 [.agg [.row lx,.row ly,x,y,.int .i64 id]] [.agg (U6 ⟨Crv.norm (Crv.mk px py d),id⟩)]:=by
 have cd:=Bu hd (Qc hk.d (by omega));by_cases h0:d=0
 ·subst h0;have ck:Cs 4294967294 1073741824 (Crv.mk px py 1):=⟨hk.x,hk.y,show Fa 1<=4294967294 by decide,hk.lx,hk.ly⟩;have cm:=WN hx hy (Uy 1) ck (by decide);have e:Crv.norm (Crv.mk px py 1)=Crv.norm (Crv.mk px py 0):=by simp only [Crv.norm,Crv.g,Crv.d']; rfl
  rw [e] at cm;obtain ⟨b,l,rfl,rfl,_⟩:=hd;exact Ue func182 rfl [.k cd,.k Lf,.t (by simp),.k (zF (z:=1) (by decide)),.k cm] rfl
 ·have cm:=WN hx hy hd hk h0;obtain ⟨b,l,rfl,rfl,_⟩:=hd;exact Ue func182 rfl [.k cd,.k Lf,.f (by simpa using h0),.k cm] rfl
theorem Qqj {l:List Pt} (id:Int) (hl:l.length<1073741824):Uh 181 [.agg [pts l],.oi id] [.oi (Tr l id:Int),.one (.bool (has l id))]:=by
 refine Ft func181 rfl ?_;refine Ub [] rfl ?_;refine ct 2 (S:=Unit) (λ_=>[(1,.v (.oi id)),(2,.v (.one (.ow 0 0))),(6,.v (.oi (Tr l id:Int)))]) (λ_=>[.blk 194 [pts l]]) (λ_=>True) rfl ?_ ?_
 ·refine Ug (S:=Nat) 1 (λL1 k=>(6,.v (.oi k))::L1) (λ_=>[.blk 194 [pts l]]) (λk=>l.length-k) (λk=>k<=l.length/\∀ j p,j<k->l[j]? = some p->p.id<id) 0 ⟨Qh _,λj p h=>by omega⟩ rfl rfl λk ⟨hk,hlt⟩=>?_
  by_cases h:k<l.length
  ·obtain ⟨p,hp⟩:=gxE (l:=l) (i:=k) h;by_cases hid:p.id<id
   ·refine Uc [.t (by simp; omega),.x (Rv hp),.t (by simpa using hid)] rfl ?_;exact rd (k+1) (by omega) ⟨h,λj q hj hq=>by
     rcases Zb j k with h2 | h2
     ·exact hlt j q h2 hq
     ·have:j=k:=by omega
      subst this; rw [hp] at hq; injection hq with hq; rw [<-hq]; exact hid⟩ rfl
   ·have e:=RU hlt (.inr ⟨p,hp,hid⟩);refine Ub [.t (by simp; omega),.x (Rv hp),.f (by simpa using hid)] rfl ?_;rw [e];exact rc () trivial rfl
  ·obtain rfl:k=l.length:=by omega
   have e:=RU hlt (.inl rfl);refine Ub [.f (by simp),.f rfl] rfl ?_;rw [e];exact rc () trivial rfl
 ·intro _ _;by_cases h:Tr l id<l.length
  ·obtain ⟨p,hp⟩:=gxE (l:=l) (i:=Tr l id) h;have e:has l id=decide (p.id=id):=by simp [has,hp]
   rw [e];exact Ud [.g 30 true (by simp; omega),.x (Rv hp)] rfl
  ·have e:has l id=false:=by simp [has,Qw (J6 h)]
   rw [e];exact Ud [.g 30 false (by simp; omega)] rfl
theorem Ig {l:List Pt}:Uh 160 [.agg [pts l]] [.one (pts l)]:=Ue func160 rfl [] rfl
theorem kK {lx ly:Uq} {px py:Uk} {x y:LV} {d id:Int} {l:List Pt} (hx:IsInts lx px) (hy:IsInts ly py) (hd:Gv x y d) (hk:Cs 4294967294 1073741824 (Crv.mk px py d)) (hl:l.length<=1000000) :
 Uh 156 [.agg [pts l],.agg [.row lx,.row ly,x,y,.int .i64 id]] [.agg [pts (if KB l (Pt.mk (Crv.norm (Crv.mk px py d)) id)=0 then put l (Pt.mk (Crv.norm (Crv.mk px py d)) id) else l)],.oi (KB l (Pt.mk (Crv.norm (Crv.mk px py d)) id))]:=by
 have ca:=Qqj (l:=l) id (by omega);have cf:=Qmh hx hy hd hk id;obtain ⟨b,r,rfl,rfl,_⟩:=hd;obtain ⟨q,hq⟩:=nmE (Pt.mk (Crv.norm (Crv.mk px py d)) id);have hqi:q.id=id:=by rw [hq]
 rw [<-hq] at cf ⊢;have hpl:=nS l id;by_cases h1:has l id=true
 ·have e:KB l q=6:=by simp [KB,hqi,h1]
  rw [e,if_neg (by decide)];exact Ue func156 rfl [.k ca,.t h1] rfl
 by_cases h2:6<=l.length
 ·have e:KB l q=9:=by simp [KB,hqi,h1,h2]
  rw [e,if_neg (by decide)];exact Ue func156 rfl [.k ca,.f (by simpa using h1),.t (by simp; omega)] rfl
 have e:KB l q=0:=by simp [KB,hqi,h1,h2]
 rw [e,if_pos rfl];have s1:∀ c∈(l.map U6).take (Tr l id),c.length=5:=λc hc=>P5 l c (Qo hc)
 have s3:∀ c∈(l.map U6).drop (Tr l id),c.length=5:=λc hc=>P5 l c (Qz hc)
 refine Ue func156 rfl [.k ca,.f (by simpa using h1),.f (by simp; omega),.i (Tr l id),.s s1,.k cf,.i (Tr l id),.s s3] rfl ?_ ?_
 ·simp [put,hqi,pts,Jt,Vh,U6]
 ·simp [Uw];exact ⟨by omega,hpl,λ_ _=>rfl,by omega,by omega,hpl⟩
theorem pX {l:List Pt} (hok:∀ p∈l,oR 4294967294 1073741824 p) (hl:l.length<1073741824):Uh 165 [.agg [pts l]] [.one (pts (Ta l))]:=by
 refine Ft func165 rfl ?_;refine Ub [.o 3 38 5] rfl ?_;refine Ug (S:=Nat) 2 (λL1 i=>(12,.v (.oi i))::(3,.v (.one (.orow 1 5 none)))::L1) (λi=>[.blk 194 [pts l],.row false 38 5 (((l.take i).foldl Bl []).map U6)]) (λi=>l.length-i) (λi=>i<=l.length) 0 (Qh _) rfl rfl λi hi=>?_
 by_cases hlt:i<l.length
 ·obtain ⟨p,hp⟩:=gxE (l:=l) (i:=i) hlt;obtain ⟨hn,hk⟩:=hok p (Qa hp);have hws:=Tq Bl [] l hp;have hwl:=VS l i;have hwm:=VP l i;obtain ⟨o,ho⟩:=nmE ((l.take i).foldl Bl []);rw [<-ho] at hws hwl hwm ⊢;refine Ub [.t (by simp; omega),.x (Rv hp)] rfl ?_;refine Ug (S:=Nat) 3 (λL1 k=>(18,.v (.oi k))::(6,.v (.one (.bool ((o.take k).any λq=>Lr p.c q.c))))::L1) (λk=>[.blk 194 [pts l],.row false 38 5 (o.map U6),.blk 38 (U6 p)]) (λk=>o.length-k) (λk=>k<=o.length) 0 (Qh _) rfl rfl λk hk2=>?_
  by_cases hk3:k<o.length
  ·obtain ⟨q,hq⟩:=gxE (l:=o) (i:=k) hk3;obtain ⟨hqn,hqk⟩:=hok q (hwm q (Qa hq));have hany:((o.take (k+1)).any λq=>Lr p.c q.c)=(((o.take k).any λq=>Lr p.c q.c) || Lr p.c q.c):=by rw [Y5,hq,List.any_append]; simp
   cases hb:(o.take k).any λq=>Lr p.c q.c with
   |
    true =>
    rw [hb] at hany;refine Uc [.t (by simp; omega),.i k,.x (Rv hq),.t rfl,.r 29 (v:=.one (.bool ((o.take (k+1)).any λq=>Lr p.c q.c))) (by rw [hany]; rfl)] rfl ?_;exact rd (k+1) (by omega) hk3 rfl
   |
    false =>
    rw [hb] at hany;refine Uc [.t (by simp; omega),.i k,.x (Rv hq),.f rfl,.k (dS hn hqn hk hqk),.r 29 (v:=.one (.bool ((o.take (k+1)).any λq=>Lr p.c q.c))) (by rw [hany]; rfl)] rfl ?_;exact rd (k+1) (by omega) hk3 rfl
  ·obtain rfl:k=o.length:=by omega
   rw [Q5];cases hb:o.any λq=>Lr p.c q.c with
   |
    true =>
    have e:Bl o p=o:=by unfold Bl; rw [if_pos hb]
    exact go tt [.f (by simp),.f rfl] rfl (by simp [Uw]; omega) (rd (i+1) (by omega) hlt (by rw [hws,e]; rfl))
   |
    false =>
    have e:Bl o p=o++[p]:=by unfold Bl; rw [if_neg (by rw [hb]; decide)]
    exact go tt [.f (by simp),.t rfl] rfl (by simp [Uw]; omega) (rd (i+1) (by omega) hlt (by rw [hws,e,Ye]; rfl))
 ·obtain rfl:i=l.length:=by omega
  exact Ud [.f (by simp)] rfl (by rw [Q5]; rfl) trivial
theorem iO (q:Rat):U7 [-q.num,(q.den:Int)]:=by
 have:=q.den_nz;simp [U7,trim,this]
theorem Qv6 {s:Nat} {q:Rat} (h:Qs s q):Bd s [-q.num,(q.den:Int)]:=λz hz=>by
 simp at hz;rcases hz with rfl | rfl
 ·rw [Hq]; exact h.1
 ·exact h.2
theorem VY {x y x' y':LV} {n d:Int} (h1:Gv x y n) (h2:Gv x' y' d) (hn:Fa n<=4294967295) (hd:Fa d<=4294967295) (hq:Qs 4294967295 (Gx n d)):Uh 125 [.agg [x,y,x',y']] [.agg (qa (Gx n d))]:=by
 have c1:=NC h1 h2 hn hd;obtain ⟨b,l,rfl,rfl,_⟩:=h1;obtain ⟨b',l',rfl,rfl,_⟩:=h2;exact Ue func125 rfl [.k c1,.k (NF (Uy _) hq.1),.k (Bw hq)] rfl
theorem Dd {k:Crv} (hn:ZR k) (hk:Cs 4294967294 1073741824 k):Uh 204 [.agg (cl k)] [.agg (cl k)]:=by
 have h0:k.d≠0:=by have:=hn.2.2.1; omega
 have cm:=WN (Gi k.x) (Gi k.y) (Uy k.d) hk h0;rw [show Crv.mk k.x k.y k.d=k from rfl,Crv.norm_of hn] at cm;exact Ue func204 rfl [.k (Bu (Uy k.d) (Qc hk.d (by omega))),.k Lf,.f (by simpa using h0),.k cm] rfl
theorem WP {a b:Crv} (ha:ZR a) (hb:ZR b) (ca:Cb a) (cb:Cb b):Uh 196 [.agg (cl a),.agg (cl b)] [pr (Gd a b)]:=by
 have l1:=ca.lx;have l2:=cb.lx;have l3:=Fu b.x a.d;have l4:=Fu a.x b.d;exact Ue func196 rfl [.k (Dd ha (ca.mono (by omega) (by omega))),.k (Dd hb (cb.mono (by omega) (by omega))),.k (Mr (by omega) (Ux cb.x (by omega)) (Qc ca.d (by omega))),.k (Mr (by omega) (Ux ca.x (by omega)) (Qc cb.d (by omega))),.k (GM (by omega) (by omega) (Ux (Fz cb.x ca.d) (by omega)) (Ux (Fz ca.x cb.d) (by omega)))] rfl
theorem WR {a b:Crv} (ha:ZR a) (hb:ZR b) (ca:Cb a) (cb:Cb b):Uh 197 [.agg (cl a),.agg (cl b)] [pr (Gb a b)]:=by
 have l1:=ca.ly;have l2:=cb.ly;have l3:=Fu b.y a.d;have l4:=Fu a.y b.d;exact Ue func197 rfl [.k (Dd ha (ca.mono (by omega) (by omega))),.k (Dd hb (cb.mono (by omega) (by omega))),.k (Mr (by omega) (Ux cb.y (by omega)) (Qc ca.d (by omega))),.k (Mr (by omega) (Ux ca.y (by omega)) (Qc cb.d (by omega))),.k (GM (by omega) (by omega) (Ux (Fz cb.y ca.d) (by omega)) (Ux (Fz ca.y cb.d) (by omega)))] rfl
def Sx (ps:Ul):Uq:=ps.map λp=>[pl p]
theorem Rf {ps:Ul} {i:Nat} {p:Uk} (h:ps[i]? = some p):(Sx ps)[i]? = some [pl p]:=Gn h
theorem kG {p q:Uk}:Uh 195 [pr p,pr q] [pr (Lh p q)]:=by
 by_cases h:0<p.length
 ·exact Ue func195 rfl [.t (by simp; omega)] rfl (by simp only [Lh]; rw [if_pos h]) trivial
 ·exact Ue func195 rfl [.f (by simp; exact Qj (by omega))] rfl (by simp only [Lh]; rw [if_neg h]) trivial
theorem Qao:Uh 194 [.oi 1] [.oi 2]:=Ue func194 rfl [.t rfl,.t rfl] rfl
theorem Qap:Uh 194 [.oi 2] [.oi 2]:=Ue func194 rfl [.f rfl,.t rfl] rfl
theorem Qaq:Uh 194 [.oi 3] [.oi 3]:=Ue func194 rfl [.f rfl,.f rfl,.t rfl] rfl
theorem Qar:Uh 194 [.oi 4] [.oi 4]:=Ue func194 rfl [.f rfl,.f rfl,.f rfl,.t rfl,.t rfl] rfl
theorem Qas:Uh 194 [.oi 5] [.oi 4]:=Ue func194 rfl [.f rfl,.f rfl,.f rfl,.f rfl,.t rfl] rfl
theorem Qdt {k i0 i1 i2 i3 l j0 j1 j2 j3:Int}:Uh 229 [.agg [.int .i64 k,.int .i64 i0,.int .i64 i1,.int .i64 i2,.int .i64 i3],.agg [.int .i64 l,.int .i64 j0,.int .i64 j1,.int .i64 j2,.int .i64 j3]] [.one (.bool (Cu [k,i0,i1,i2,i3] [l,j0,j1,j2,j3]))]:=by
 by_cases hk:k=l
 ·subst hk;rw [show Cu [k,i0,i1,i2,i3] [k,j0,j1,j2,j3]=Cu [i0,i1,i2,i3] [j0,j1,j2,j3] from by simp [Cu]];refine Ft func229 rfl ?_;refine Ub [.f (by simp)] rfl ?_;refine Ug (S:=Nat) 2 (λL1 i=>(19,.v (.oi i))::L1) (λ_=>[.blk 134 [.int .i64 k,.int .i64 i0,.int .i64 i1,.int .i64 i2,.int .i64 i3],.blk 134 [.int .i64 k,.int .i64 j0,.int .i64 j1,.int .i64 j2,.int .i64 j3]]) (λi=>4-i) (λi=>i<=4/\Cu ([i0,i1,i2,i3].drop i) ([j0,j1,j2,j3].drop i)=Cu [i0,i1,i2,i3] [j0,j1,j2,j3]) 0 ⟨by omega,rfl⟩ rfl rfl λi ⟨hi,he⟩=>?_
  rw [<-he];rcases (show i=0\/i=1\/i=2\/i=3\/i=4 by omega) with rfl | rfl | rfl | rfl | rfl
  ·by_cases h:i0=j0
   ·exact go tt [.t rfl,.i 0,.i 0,.f (by simpa using h)] rfl (by simp [Uw]) (rd 1 (by omega) ⟨by omega,by simp [Cu,h]⟩ rfl)
   ·exact Ud [.t rfl,.i 0,.i 0,.t (by simpa using h),.i 0] rfl (by simp [Cu,h]) trivial
  ·by_cases h:i1=j1
   ·exact go tt [.t rfl,.i 1,.i 1,.f (by simpa using h)] rfl (by simp [Uw]) (rd 2 (by omega) ⟨by omega,by simp [Cu,h]⟩ rfl)
   ·exact Ud [.t rfl,.i 1,.i 1,.t (by simpa using h),.i 1] rfl (by simp [Cu,h]) trivial
  ·by_cases h:i2=j2
   ·exact go tt [.t rfl,.i 2,.i 2,.f (by simpa using h)] rfl (by simp [Uw]) (rd 3 (by omega) ⟨by omega,by simp [Cu,h]⟩ rfl)
   ·exact Ud [.t rfl,.i 2,.i 2,.t (by simpa using h),.i 2] rfl (by simp [Cu,h]) trivial
  ·by_cases h:i3=j3
   ·exact go tt [.t rfl,.i 3,.i 3,.f (by simpa using h)] rfl (by simp [Uw]) (rd 4 (by omega) ⟨by omega,by simp [Cu,h]⟩ rfl)
   ·exact Ud [.t rfl,.i 3,.i 3,.t (by simpa using h),.i 3] rfl (by simp [Cu,h]) trivial
  ·exact Ud [.f rfl] rfl (by simp [Cu]) trivial
 ·exact Ue func229 rfl [.t (by simpa using hk)] rfl (by simp [Cu,hk]) trivial
abbrev zCt:Up:=[.int .i64 0,.int .i64 0,.int .i64 0,.int .i64 0,.int .i64 0,.nils,.int .i64 0]
def U3 (l:List Ct):Uq:=l.map C6
theorem ZN {l:List Ct} {i:Nat} {c:Ct} (h:l[i]? = some c):(U3 l)[i]? = some (C6 c):=Gn h
theorem S8 (l:List Ct):(U3 l).length=l.length:=by simp [U3]
theorem Iz (l:List Ct):∀ c∈U3 l,c.length=7:=λc hc=>by
 obtain ⟨x,_,rfl⟩:=Za.1 hc; rfl
theorem Qg2 {O:List Ct} {z:Up} {c:Ct} {k m:Nat} {l2:Uq} (hk:k<=O.length) (hp:XE O c O.length=k) (hm:m=O.length-k) (h2:l2.take m=((U3 O++[z]).drop k).take m) :
 ((U3 O++[z]).take (k+1)++(l2.take m++(U3 O++[z]).drop (k+1+m))).set k (C6 c)=U3 (KJ O c):=by
 rw [h2,<-Zc,uB (U3 O) z (C6 c) (by rw [S8]; omega) (by rw [S8]; omega)];simp [KJ,hp,U3,Jt,Vh]
theorem GN {l:List Ct} (hl:∀ c∈l,Pb c.p) (hn:l.length≤1000000):Uh 183 [.one (.row (U3 l))] [.one (.row (U3 (Fg l)))]:=by
 have hcl:=S8 l;refine Ft func183 rfl ?_;refine Ub [.o 3 136 7] rfl ?_;refine Ug (S:=Nat) 1 (λL1 i=>(9,.v (.oi i))::(3,.v (.one (.orow 0 7 none)))::L1) (λi=>[.row false 136 7 (U3 (Fg (l.take i)))]) (λi=>l.length-i) (λi=>i<=l.length) 0 (Qh _) rfl rfl λi hi=>?_
 by_cases hlt:i<l.length
 ·obtain ⟨c,hc⟩:=gxE (l:=l) (i:=i) hlt;have hst:=cQ hc;have hcp:=hl c (Qa hc);obtain ⟨O,hO⟩:=nmE (Fg (l.take i));have hOl:O.length=i:=by rw [hO,Mh,Qq]; omega
  rw [<-hO] at hst ⊢;refine Ub [.t (by simp [hcl]; omega),.x (ZN hc)] rfl ?_;refine Ug (S:=Nat) 2 (λL1 k=>(6,.v (.oi k))::L1) (λk=>[.row false 136 7 (U3 O),.blk 136 (C6 c)]) id (λk=>k<=O.length/\XE O c k=XE O c O.length) (U3 O).length ⟨by rw [S8]; exact Qm _,by rw [S8]⟩ rfl rfl λk ⟨hk,hp⟩=>?_
  have hz:∀ y∈[zCt],y.length=7:=λy hy=>by rw [Qk.1 hy]; rfl
  have h77:∀ y∈U3 O++[zCt],y.length=7:=λy hy=>by
   rcases Qr.1 hy with hy | hy
   ·exact Iz O y hy
   ·exact hz y hy
  cases k with
  |
   zero =>
   have hp:XE O c O.length=0:=by rw [<-hp]; rfl
   refine go tt [.g 17 false (by simp),.f rfl,.s (sz:=7) hz,.r 36 (eI (b:=((0+1:Nat):Int)) (by simp)),.i (0+1),.i (0),.s (sz:=7) (λy hy=>h77 y (Qo hy)),.i (O.length),.k (Hn hcp.t (by have:=hcp.l; omega) (Ux hcp.b (by omega))),.i (0)] rfl (by simp [Uw,S8]; omega) ?_;exact rd (i+1) (by omega) hlt (by rw [hst,<-Qg2 (z:=zCt) (l2:=(U3 O++[zCt]).take ((U3 O++[zCt]).length-0)) (k:=0) (m:=O.length) (by omega) hp (by omega) (by congr 1; exact Qn (by simp))]; rfl)
  |
   succ k =>
   obtain ⟨x,hx⟩:=gxE (l:=O) (i:=k) (by omega);by_cases hlc:uI c x=true
   ·refine go tt [.g 17 true (by simp),.r 22 (eI (b:=(k:Int)) (by simp)),.i k,.x (ZN hx),.k Qdt,.t hlc,.r 29 (eI (b:=(k:Int)) (by simp))] rfl (by simp [Uw,S8]; omega) ?_;exact rd k (by simp) ⟨by omega,by rw [<-hp,Qoe hx hlc]⟩ rfl
   ·have hlc:uI c x=false:=by simpa using hlc
    have hp:XE O c O.length=k+1:=by rw [<-hp,Qig hx hlc]
    refine go tt [.g 17 true (by simp),.r 22 (eI (b:=(k:Int)) (by simp)),.i k,.x (ZN hx),.k Qdt,.f hlc,.s (sz:=7) hz,.r 36 (eI (b:=((k+1+1:Nat):Int)) (by simp)),.i (k+1+1),.i (k+1),.s (sz:=7) (λy hy=>h77 y (Qz (Qo hy))),.i (O.length-(k+1)),.k (Hn hcp.t (by have:=hcp.l; omega) (Ux hcp.b (by omega))),.i (k+1)] rfl (by simp [Uw,S8]; omega) ?_;exact rd (i+1) (by omega) hlt (by rw [hst,<-Qg2 (z:=zCt) (l2:=((U3 O++[zCt]).drop (k+1)).take ((U3 O++[zCt]).length-(k+1))) (k:=k+1) (m:=O.length-(k+1)) (by omega) hp (by omega) (by congr 1; exact Qn (by simp))]; rfl)
 ·obtain rfl:i=l.length:=by omega
  rw [Q5];exact Ud [.f (by simp [hcl])] rfl
end Orr
namespace Orr
def Fi (p:Uk):Int:=p.getD (p.length-1) 0
def AE (p:Uk):Option Uk:=if p.length<=64/\(p.all λz=>Nat.ble (Fa z) 16777216)=true then some p else none
def chq (q:Rat):Option Rat:=if Fa q.num<=16777216/\Fa (q.den:Int)<=16777216 then some q else none
def S6 (p:Uk):Int:=(Ro p:Nat)
def Cv (p:Uk) (c:Int):Uk:=trim (p.map (· / c))
def Hh (p:Uk):Int:=if Fi p<0 then -S6 p else S6 p
def Fc (p:Uk):Uk:=if p.length=0 then [] else Cv p (Hh p)
def mono (i:Nat) (x:Int):Uk:=List.replicate i 0++[x]
def hQ (b:Uk) (c:Int):Nat->Uk×Uk->Uk×Uk
 | 0,s=>s
 |
  i+1,(q,r) =>
  hQ b c i (ZU (Fo q c) (mono i (if r.length=b.length+i then Fi r else 0)),Mq (Fo r c) (Gh (trim (mono i (if r.length=b.length+i then Fi r else 0))) b))
def Pw (a b:Uk):Uk:=(hQ b (Fi b) (a.length+1-b.length) ([],a)).2
def Be (a b r:Uk):Uk:=if (a.length+1-b.length) % 2=1/\Fi b<0 then Me r else r
def VG (r:Uk):Uk:=if r.length=0 then [] else Cv r (S6 r)
def Rq (a b:Uk):Uk:=VG (Be a b (Pw a b))
def jB (b:Uk):Nat->Uk->Uk->Option Uk
 | 0,a,q=>if a.length=0 then some q else none
 | i+1,a,q=>if a.length<b.length+i then jB b i a q else if Fi a % Fi b=0 then jB b i (Mq a (Gh (trim (mono i (Fi a / Fi b))) b)) (q.set i (Fi a / Fi b)) else none
def XA (a b:Uk):Option Uk:=if b.length=0 then none else (jB b (a.length+1-b.length) a (List.replicate (a.length+1-b.length) 0)).bind λq=>AE (trim q)
def RA:Nat->Uk->Uk->Option Uk
 | 0,_,_=>none
 | k+1,a,b=>if b.length=0 then some a else (AE (Rq a b)).bind λr=>RA k b r
def XO (a b:Uk):Option Uk:=(RA 66 (Fc a) (Fc b)).map Fc
def jD (a b:Uk):Option Uk:=(XO [] a).bind λg=>XO g b
def Pd (a:Uk):Option Uk:=if (Fc a).length<2 then some (Fc a) else (AE (Gp (Fc a))).bind λd=>(XO (Fc a) d).bind λg=>XA (Fc a) g
def HM:Nat->Uk->Option Ul
 | 0,_=>none
 | k+1,g=>if g.length<2 then some [] else (AE (Gp g)).bind λd=>(XO g d).bind λh=>(XA g h).bind λw=>(HM k h).bind λl=>some (w::l)
def EN:Ul->Option Ul
 | []=>some []
 | [w]=>some [w]
 | w::v::l=>(XA w v).bind λf=>(EN (v::l)).bind λr=>some (f::r)
def UA:Nat->Uk->Ul->Option Uk
 | _,p,[]=>some p
 | i,p,f::l=>if i % 2=0 then (AE (Gh p f)).bind λq=>UA (i+1) q l else UA (i+1) p l
def nR (a:Uk):Option Uk:=if (Fc a).length=0 then some [] else (HM 66 (Fc a)).bind λl=>(EN l).bind λfs=>UA 0 [1] fs
def tD:Nat->Uk->Uk->Option Ul
 | 0,_,_=>none
 | k+1,a,b=>if b.length=0 then some [] else (AE (Rq a b)).bind λr=>(tD k b (Me r)).bind λl=>some (b::l)
def Lq (p:Uk):Option Ul:=(Pd p).bind λa=>if a.length=0 then none else (AE (Gp a)).bind λd=>(tD 66 a (Fc d)).bind λl=>some (a::l)
def Ph (sg:Uk->Int) (s:Nat×Int) (p:Uk):Nat×Int:=if sg p=0 then s else (if s.2=-(sg p) then s.1+1 else s.1,sg p)
def Cj (sg:Uk->Int) (l:Ul):Nat:=(l.foldl (Ph sg) (0,0)).1
def Ck (l:Ul) (q:Rat):Nat:=Cj (λp=>Hz p q) l
def Td (l:Ul) (lo hi:Rat):Int:=if G7 hi lo<0 then 0 else (Ck l lo:Int)-(Ck l hi:Int)
def UV (p:Uk):Int:=Int.sign (Fi p)
def ZV (p:Uk):Int:=if p.length % 2=0 then -Int.sign (Fi p) else Int.sign (Fi p)
def KE (l:Ul):Int:=(Cj ZV l:Int)-(Cj UV l:Int)
def most:Uk->Nat:=λl=>l.foldl (λm z=>if m<z.natAbs then z.natAbs else m) 0
def Gq (p:Uk):Rat:=Rat.divInt (((Fi p).natAbs:Int)+(most (p.take (p.length-1)):Int)) ((Fi p).natAbs:Int)
def mid (a b:Rat):Rat:=Rat.divInt (a.num*(b.den:Int)+b.num*(a.den:Int)) ((a.den:Int)*(b.den:Int)*2)
def Ib (p:Uk) (c:Ul):Nat->Rat->Rat->Int->Option (List Tm)
 | 0,_,_,_=>none
 | k+1,lo,hi,n=>if n=0 then some [] else if n=1 then some [⟨p,lo,hi⟩] else (chq (mid lo hi)).bind λm=>(Ib p c k lo m (Td c lo m)).bind λl=>(Ib p c k m hi (n-Td c lo m)).bind λr=>some (l++r)
def SV (p:Uk):Option (List Tm):=(Lq p).bind λc=>(Pd p).bind λq=>(chq (Gq q)).bind λb=>Ib q c 100000 (-b) b (KE c)
def Tm.point (a:Tm):Bool:=decide (0<=G7 a.lo a.hi)
def low (p:Uk) (q:Rat):Int:=if Hz p q≠0 then Hz p q else Hz (Gp p) q
def UG (p:Uk) (lo hi:Rat):Bool:=decide (Hz p hi=0\/Hz p hi≠low p lo)
def Fh (a:Tm) (t:Rat):Int :=
 if a.point=true then G7 a.lo t else if G7 t a.lo<=0 then 1 else if 0<G7 t a.hi then -1 else if Hz a.p t=0 then 0 else if Hz a.p t=low a.p a.lo then 1 else -1
def xR (a:Tm):Option Tm:=if a.point=true then some a else (chq (mid a.lo a.hi)).bind λm =>
 some (if Fh a m=0 then ⟨a.p,m,m⟩ else if Fh a m=-1 then ⟨a.p,a.lo,m⟩ else ⟨a.p,m,a.hi⟩)
def Gz (p:Uk):Nat:=p.foldl (λn z=>max n (Fa z)) 0
def Pp (a b:Tm):Nat:=64+2*(Fa a.lo.num+Fa a.hi.num+Fa b.lo.num+Fa b.hi.num)+4*(a.p.length+b.p.length)*(Gz a.p+Gz b.p+(a.p.length+b.p.length)+8)
def LF (a b:Rat):Rat:=Rat.divInt (a.num*(b.den:Int)-b.num*(a.den:Int)) ((a.den:Int)*(b.den:Int))
def Do (a b:Tm):Bool:=decide (G7 a.hi b.lo<=0/\¬((a.point=true/\b.point=true)/\G7 a.hi b.lo=0))
def EH:Nat->Tm->Tm->Option (Tm×Tm×Int)
 | 0,a,b=>some (a,b,0)
 |
  k+1,a,b=>if Do a b=true then some (a,b,-1) else if Do b a=true then some (a,b,1) else
  if 0<=G7 (LF a.hi a.lo) (LF b.hi b.lo) then (xR a).bind λx=>EH k x b else (xR b).bind λx=>EH k a x
def WL (a b:Tm):Option Int:=if a.point=true then some (-Fh b a.lo) else if b.point=true then some (Fh a b.lo) else
 let lo:=if 0<G7 b.lo a.lo then b.lo else a.lo
 let hi:=if G7 b.hi a.hi<0 then b.hi else a.hi
 if G7 lo hi<0 then (jD a.p b.p).bind λg=>if 1<g.length/\UG g lo hi=true then some 0 else (EH (Pp a b) a b).bind λr=>some r.2.2
 else (EH (Pp a b) a b).bind λr=>some r.2.2
def sgF (c:Ul):Nat->Tm->Option Tm
 | 0,a=>some a
 | k+1,a=>if a.point=true\/Td c a.lo a.hi=0 then some a else (xR a).bind λx=>sgF c k x
def FM (p:Uk) (a:Tm):Option Int:=if p.length=0 then some 0 else if a.point=true then some (Hz p a.lo) else
 (jD p a.p).bind λg=>if 1<g.length/\UG g a.lo a.hi=true then some 0 else (Lq p).bind λc=>(sgF c (64+2*(Fa a.lo.num+Fa a.hi.num)+4*(a.p.length+p.length)*(Gz a.p+Gz p+(a.p.length+p.length)+8)) a).bind λx=>some (Hz p x.hi)
def QH:Tm->List Tm->Option Tm
 | b,[]=>some b
 | b,a::l=>(WL a b).bind λc=>QH (if c<0 then a else b) l
def VU (a:Tm):List Tm->Option (Option Tm)
 | []=>some none
 | r::l=>(WL r a).bind λc=>if 0<c then some (some r) else VU a l
def WZ (p:Uk):Option (List Tm):=(nR p).bind λq=>if q.length=0 then some [] else SV q
def SQ (p:Uk) (a:Tm):Option (Option Tm):=(WZ p).bind λl=>VU a l
end Orr
namespace Orr
open Go Go.Proofs Tryz
set_option maxRecDepth 10000
theorem L9 {p:Uk} (tp:U7 p) (h:p.length≠0):Fi p≠0:=Hx tp (by omega)
theorem CM {p:Uk} (h:p.length≠0):Fi p∈p:=Qa (H7 (by omega))
theorem Mx {s:Nat} {p:Uk} (h:Bd s p):Fa (Fi p)<=s:=Fj h _
theorem Eo {p:Uk}:∀ z∈p,S6 p∣z:=ZO
theorem XC {p:Uk} (tp:U7 p) (h:p.length≠0):S6 p≠0:=λh0=>L9 tp h (Int.zero_dvd.1 (h0 ▸ Eo _ (CM h)))
theorem YZ {p:Uk} (h:Bd 4294967295 p):Fa (S6 p)<=4294967295:=MQ h
theorem aA {p:Uk} (tp:U7 p) (h:p.length≠0):Hh p≠0:=by
 have:=XC tp h;unfold Hh; split <;> omega
theorem FZ {p:Uk}:∀ z∈p,Hh p∣z:=λz hz=>by
 unfold Hh; split
 ·exact Ua.2 (Eo z hz)
 ·exact Eo z hz
theorem Qg7 {p:Uk} (h:Bd 4294967295 p):Fa (Hh p)<=4294967295:=by
 unfold Hh; split
 ·rw [Hq]; exact YZ h
 ·exact YZ h
theorem NJ {s:Nat} {p:Uk} (h:Bd s p) (c:Int):Bd s (Cv p c):=Sp (GH h c)
theorem OK (p:Uk) (c:Int):(Cv p c).length<=p.length:=Qc (Rm _) (by simp)
theorem QD (p:Uk) (c:Int):U7 (Cv p c):=Tf _
theorem Qia {p:Uk} (h:Pb p) (c:Int):Pb (Cv p c):=⟨QD _ _,Qc (OK _ _) h.l,NJ h.b c⟩
theorem RZ:Pb []:=⟨rfl,by simp,VM⟩
theorem Rl {p:Uk} (h:Pb p):Pb (Fc p):=by
 unfold Fc; split
 ·exact RZ
 ·exact Qia h _
theorem Pb.bd {p:Uk} (h:Pb p):Bd 4294967295 p:=Ux h.b (by omega)
theorem Pb.ln {p:Uk} (h:Pb p):p.length<274877906944:=Z3 h.l (by omega)
theorem Pb.ln' {p:Uk} (h:Pb p):p.length<8589934592:=Z3 h.l (by omega)
theorem QX {p q:Uk} (tp:U7 p) (h:AE p=some q):q=p/\Pb p:=by
 unfold AE at h
 split at h
 ·rename_i hc;injection h with h;refine ⟨h.symm,tp,hc.1,λz hz=>?_⟩;have:=Jr.1 hc.2 z hz;exact Zg this
 ·cases h
theorem dM {p:Uk} {g:Int} (hl:p.length<274877906944) (hp:Bd 4294967295 p) (hg:Fa g≤4294967295) (h0:g≠0) (hd:∀ z∈p,g∣z):Uh 291 [pr p,.agg (He g)] [pr (Cv p g)]:=by
 refine Ft func291 rfl ?_;refine Uc [.r 9 (eI (b:=(p.length:Int)) (by simp)),.i p.length,.i p.length,.r 12 (eI (b:=(p.length:Int)) (by simp))] rfl ?_;rw [E8 λk=>He (p.getD k 0 / g)];refine Ug (S:=Nat) 2 (λL1 k=>(13,.v (.oi k))::L1) (λk=>[.blk 34 (He g),.row false 34 2 (EW (λk=>He (p.getD k 0 / g)) [.bool false,.nils] p.length k)]) (λk=>p.length-k) (λk=>k<=p.length) 0 (Qh _) rfl rfl λk hk=>?_
 by_cases hlt:k<p.length
 ·have hg2:=H7 hlt;refine go tt [.t (by simp; omega),.x (Pa hg2),.k (Ax (Uy _) (Uy _) (Fj hp k) hg h0 (Yo (hd _ (Qa hg2)))),.i k] rfl (by simp [Uw,A8]; omega) ?_;have e:=QU (λk=>He (p.getD k 0 / g)) [.bool false,.nils] hlt;rw [e];exact rd (k+1) (by omega) hlt rfl
 ·obtain rfl:k=p.length:=by omega
  have e:EW (λk=>He (p.getD k 0 / g)) [.bool false,.nils] p.length p.length=(p.map (· / g)).map He:=by
   rw [QW];refine Xj λi=>?_
   by_cases hi:i<p.length
   ·simp [Xz hi,List.getD,Qe hi]
   ·simp [Qw,hi]
  rw [e];exact Ud [.f (by simp),.k (Lz (Gi (p.map (· / g))) (by simp; exact hl) (GH hp g))] rfl
theorem GT {p:Uk} (hl:p.length<8589934592) (hp:Bd 4294967295 p):Uh 292 [.one (.row [[pl p]])] [.agg (He (S6 p))]:=by
 refine Ft func292 rfl ?_;refine Ub [.o 3 34 2] rfl ?_;refine Ug (S:=Nat) 2 (λL1 i=>(8,.v (.oi i))::(3,.v (.one (.orow 1 2 none)))::L1) (λi=>[.blk 34 [.bool false,.nils],.row false 34 2 (if i=0 then [] else p.map He)]) (λi=>1-i) (λi=>i<=1) 0 (Qh _) rfl rfl λi hi=>?_
 rcases (show i=0\/i=1 by omega) with rfl | rfl
 ·refine Uc [.t rfl,.x (i:=0) (xs:=[pl p]) rfl,.s (DN p)] rfl ?_;exact rd 1 (by omega) (by omega) rfl
 ·exact Ud [.f rfl,.k (Qdp (Gi p) hp)] rfl
theorem Qev {p:Uk} (tp:U7 p) (hl':p.length<8589934592) (hp:Bd 4294967295 p):Uh 273 [pr p] [.agg (He (if p.length=0 then 0 else Hh p)),pr (Fc p)]:=by
 have hl:p.length<274877906944:=by omega
 have cn:=Hn tp hl hp;by_cases h0:p.length=0
 ·have e:p=[]:=Qj h0;subst e;exact Ue func273 rfl [.k cn,.t rfl] rfl (by simp [D4,Fc]; rfl) trivial
 ·have hpf:Fc p=Cv p (Hh p):=by unfold Fc; rw [if_neg h0]
  rw [if_neg h0,hpf];have co:=dM hl hp (Qg7 hp) (aA tp h0) FZ;by_cases hneg:Fi p<0
  ·have e:Hh p=-S6 p:=by unfold Hh; rw [if_pos hneg]
   rw [e] at co ⊢;exact Ue func273 rfl [.k cn,.f (by simpa using h0),.k (GT hl' hp),.k (Db tp hl hp),.t (by simpa [Fi] using hneg),.k (NF (Uy _) (YZ hp)),.k co] rfl
  ·have e:Hh p=S6 p:=by unfold Hh; rw [if_neg hneg]
   rw [e] at co ⊢;exact Ue func273 rfl [.k cn,.f (by simpa using h0),.k (GT hl' hp),.k (Db tp hl hp),.f (by simpa [Fi] using hneg),.k co] rfl
theorem Ay {p:Uk} (hp:Pb p):Uh 265 [pr p] [pr (Fc p)] :=
 Ue func265 rfl [.k (Qev hp.t hp.ln' hp.bd)] rfl
theorem Mk (p:Uk):Uh 141 [pr p] [.oi ((p.length:Int)-1)]:=by
 have h:Uh 141 [pr p] [.oi (((p.map He).length:Int)-1)]:=Ft func141 rfl (ln 0 rfl rfl λhl=>Ud [] rfl rfl (by simp [Uw] at hl ⊢; omega));rw [Q7] at h; exact h
theorem I8 (i:Nat) (x:Int):(mono i x).length=i+1:=by simp [mono]
theorem NQ {s i:Nat} {x:Int} (h:Fa x<=s):Bd s (mono i x):=λz hz=>by
 simp only [mono,Qr,Qk] at hz;rcases hz with hz | rfl
 ·rw [(List.mem_replicate.1 hz).2,My]; exact Qh _
 ·exact h
def stq (c:Int) (i:Nat) (x:Int) (q:Uk):Uk:=ZU (Fo q c) (mono i x)
def str (b:Uk) (c:Int) (i:Nat) (x:Int) (r:Uk):Uk:=Mq (Fo r c) (Gh (trim (mono i x)) b)
theorem Qrx {u t i:Nat} {c x:Int} {q:Uk} (hq:Bd u q) (hc:Fa c<=t) (hx:Fa x<=u):Bd (u+t+8) (stq c i x q) :=
 Ux (WG (Fz hq hc) (NQ hx)) (by omega)
theorem Qno {c x:Int} {i:Nat} {q:Uk}:(stq c i x q).length<=max q.length (i+1):=by
 have h:=XU (Fo q c) (mono i x);have h1:=Fu q c;rw [I8] at h;unfold stq; omega
theorem xE {i:Nat} {x:Int} {b:Uk}:(Gh (trim (mono i x)) b).length<=i+b.length:=by
 have h:=Sw (trim (mono i x)) b;have h1:=Rm (mono i x);rw [I8] at h1; omega
theorem dZ {u t i:Nat} {x:Int} {b:Uk} (hb:Bd t b) (hx:Fa x<=u) (hi:i<=64):Bd (u+t+7) (Gh (trim (mono i x)) b) :=
 P9 (Sp (NQ hx)) hb (Z3 (Rm _) (by rw [I8]; omega))
theorem sG {u t i:Nat} {c x:Int} {b r:Uk} (hr:Bd u r) (hb:Bd t b) (hc:Fa c<=t) (hx:Fa x<=u) (hi:i<=64):Bd (u+t+8) (str b c i x r) :=
 Ux (Da (Fz hr hc) (dZ hb hx hi)) (by omega)
theorem xA {c x:Int} {i:Nat} {b r:Uk}:(str b c i x r).length<=max r.length (i+b.length):=by
 have h:=M3 (Fo r c) (Gh (trim (mono i x)) b);have h1:=Fu r c;have h2:=xE (i:=i) (x:=x) (b:=b);unfold str; omega
theorem fW (i:Nat) (x:Int):((List.replicate (i+1) (0:Int)).map He).set i (He x)=(mono i x).map He:=by
 rw [nH,mono];congr 1;refine Xj λj=>?_
 simp only [Yk,List.getElem?_append,Jw,Je];by_cases h:j=i
 ·subst h; simp
 ·rw [if_neg (by omega)];by_cases h2:j<i
  ·simp [h2]; omega
  ·rw [if_neg (by omega),if_neg h2];cases hj:j-i with
   | zero=>omega
   | succ m=>simp
theorem aW (i:Nat) {x:Int} {y:Up} (h:y.map UC=He x):(((List.replicate (i+1) [LV.bool false,LV.nils]).set i y).map λc=>c.map UC)=(mono i x).map He:=by
 rw [Vu,MG,h]; exact fW i x
theorem XI {b:Uk} {c:Int} {i:Nat} {q r:Uk} {x:Int} (hx:x=if r.length=b.length+i then Fi r else 0):hQ b c (i+1) (q,r)=hQ b c i (stq c i x q,str b c i x r):=by
 subst hx; rfl
theorem Qd2 {a b:Uk} (ha:Pb a) (hb:Pb b) (h0:b.length≠0):Uh 289 [pr a,pr b] [pr (hQ b (Fi b) (a.length+1-b.length) ([],a)).1,pr (Pw a b),.oi ((a.length+1-b.length:Nat):Int),.oi 0]:=by
 have hal:=ha.l;have hbl:=hb.l;have hlb:Fa (Fi b)<=16777216:=Mx hb.b;obtain ⟨c,hc⟩:=nmE (Fi b);have cl:=Db hb.t hb.ln hb.bd;rw [show b.getD (b.length-1) 0=c from hc.symm] at cl;obtain ⟨k,hk⟩:=nmE (a.length+1-b.length);unfold Pw;rw [<-hc,<-hk];rw [<-hc] at hlb;refine Ft func289 rfl ?_;refine Uc [.z 4,.k (Hn ha.t ha.ln ha.bd),.k (Hn hb.t hb.ln hb.bd),.f (by simpa using h0),.k cl,.k (Mk a),.k (Mk b),.r 27 (eI (b:=(k:Int)) (by omega))] rfl ?_;refine Ug (S:=Nat×Uk×Uk) 1 (λL1 s=>(4,.v (pr s.2.1))::(5,.v (pr s.2.2))::(9,.v (.oi ((s.1:Int)-1)))::L1) (λ_=>[.blk 34 (He c)]) (λs=>s.1) (λs=>s.1<=k/\U7 s.2.2/\s.2.1.length<=66/\s.2.2.length<=a.length/\Bd (16777216+(k-s.1)*16777224) s.2.1/\Bd (16777216+(k-s.1)*16777224) s.2.2/\hQ b c s.1 s.2=hQ b c k ([],a)) (k,[],a) ⟨Qm _,ha.t,by simp,Qm _,VM,by simpa using ha.b,rfl⟩ rfl rfl λ⟨i,q,r⟩ ⟨j1,j2,j3,j4,j5,j6,j7⟩=>?_
 dsimp only at j1 j2 j3 j4 j5 j6 j7 ⊢;rw [<-j7];cases i with
 | zero=>exact Ud [.f (by simp)] rfl
 |
  succ i =>
  obtain ⟨x,hx⟩:=nmE (if r.length=b.length+i then Fi r else 0);obtain ⟨u,hu⟩:=nmE (16777216+(k-(i+1))*16777224);rw [<-hu] at j5 j6;have hub:u<=1107296256:=by
   have:(k-(i+1))*16777224<=64*16777224:=Q0 _ (by omega);omega
  have hxs:Fa x<=u:=by
   rw [hx]; split
   ·exact Mx j6
   ·rw [My]; exact Qh _
  have cs:=Mr (p:=q) (c:=c) (by omega) (Ux j5 (by omega)) (by omega);have cs2:=Mr (p:=r) (c:=c) (by omega) (Ux j6 (by omega)) (by omega);have l1:=Fu q c;have l2:=Fu r c;have ca:=zG (p:=Fo q c) (q:=mono i x) (by omega) (by rw [I8]; omega) (Ux (Fz j5 hlb) (by omega)) (Ux (NQ hxs) (by omega));have cm:=zH (p0:=mono i x) hb.t (by rw [I8]; omega) (by omega) (NQ hxs) hb.b (by omega);have l3:=xE (i:=i) (x:=x) (b:=b);have cb:=GM (p:=Fo r c) (q:=Gh (trim (mono i x)) b) (by omega) (by omega) (Ux (Fz j6 hlb) (by omega)) (Ux (dZ hb.b hxs (by omega)) (by omega));have hst:=XI (b:=b) (c:=c) (q:=q) hx;have hI:i<=k/\U7 (str b c i x r)/\(stq c i x q).length<=66/\(str b c i x r).length<=a.length/\Bd (16777216+(k-i)*16777224) (stq c i x q)/\Bd (16777216+(k-i)*16777224) (str b c i x r):=by
   have l5:=Qno (c:=c) (x:=x) (i:=i) (q:=q);have l6:=xA (c:=c) (x:=x) (i:=i) (b:=b) (r:=r);have hku:u+16777216+8=16777216+(k-i)*16777224:=by
    rw [hu,show k-i=(k-(i+1))+1 from by omega,X2]; omega
   refine ⟨by omega,Fq _ _,by omega,by omega,?_,?_⟩
   ·rw [<-hku]; exact Qrx j5 hlb hxs
   ·rw [<-hku]; exact sG j6 hb.b hlb hxs (by omega)
  rw [hst];by_cases h:r.length=b.length+i
  ·refine Uc [.t (by simp <;> omega),.k (Mk r),.k (Mk b),.t (by simp; omega),.k (Db j2 (by omega) (Ux j6 (by omega))),.r 44 (eI (b:=((i+1:Nat):Int)) (by omega)),.i (i+1),.i (i+1),.r 47 (eI (b:=(i:Int)) (by omega)),.i i] rfl ?_;refine nl 2 rfl rfl rfl ?_;rw [aW i (x:=x) (by rw [hx,if_pos h]; rfl)];refine Uc [.k cs,.k ca,.k cs2,.k cm,.k cb,.r 33 (eI (b:=(i:Int)-1) (by omega))] rfl ?_;exact rd (i,stq c i x q,str b c i x r) (by dsimp only; omega) ⟨hI.1,hI.2.1,hI.2.2.1,hI.2.2.2.1,hI.2.2.2.2.1,hI.2.2.2.2.2,rfl⟩ rfl
  ·refine Uc [.t (by simp <;> omega),.k (Mk r),.k (Mk b),.f (by simp; omega),.r 44 (eI (b:=((i+1:Nat):Int)) (by omega)),.i (i+1),.i (i+1),.r 47 (eI (b:=(i:Int)) (by omega)),.i i] rfl ?_;refine nl 2 rfl rfl rfl ?_;rw [aW i (x:=x) (by rw [hx,if_neg h,D4]; rfl)];refine Uc [.k cs,.k ca,.k cs2,.k cm,.k cb,.r 33 (eI (b:=(i:Int)-1) (by omega))] rfl ?_;exact rd (i,stq c i x q,str b c i x r) (by dsimp only; omega) ⟨hI.1,hI.2.1,hI.2.2.1,hI.2.2.2.1,hI.2.2.2.2.1,hI.2.2.2.2.2,rfl⟩ rfl
theorem Qij {b:Uk} {c:Int} (hb:Bd 16777216 b) (hc:Fa c<=16777216) {n:Nat}:∀ (i u:Nat) (q r:Uk),i<=64->i+b.length<=n+1->U7 r->r.length<=n->Bd u r->U7 (hQ b c i (q,r)).2/\(hQ b c i (q,r)).2.length<=n/\Bd (u+i*16777224) (hQ b c i (q,r)).2
 | 0,u,q,r,_,_,h1,h2,h3=>⟨h1,h2,by simpa [hQ] using h3⟩
 |
  i+1,u,q,r,hi,hn,h1,h2,h3=>by
  rw [XI rfl];have hx:Fa (if r.length=b.length+i then Fi r else 0)<=u:=by
   split
   ·exact Mx h3
   ·rw [My]; exact Qh _
  have l6:=xA (c:=c) (x:=if r.length=b.length+i then Fi r else 0) (i:=i) (b:=b) (r:=r);have:=Qij hb hc (n:=n) i (u+16777216+8) (stq c i (if r.length=b.length+i then Fi r else 0) q) (str b c i (if r.length=b.length+i then Fi r else 0) r) (by omega) (by omega) (Fq _ _) (by omega) (sG h3 hb hc hx (by omega));exact ⟨this.1,this.2.1,Ux this.2.2 (by omega)⟩
theorem iZ {a b:Uk} (ha:Pb a) (hb:Pb b) (h0:b.length≠0):U7 (Pw a b)/\(Pw a b).length<=a.length/\Bd 1107296256 (Pw a b):=by
 have hal:=ha.l;by_cases h:b.length<=a.length+1
 ·obtain ⟨h1,h2,h3⟩:=Qij hb.b (Mx hb.b) (n:=a.length) (a.length+1-b.length) 16777216 [] a (by omega) (by omega) ha.t (Qm _) ha.b;refine ⟨h1,h2,Ux h3 ?_⟩;have:(a.length+1-b.length)*16777224<=64*16777224:=Q0 _ (by omega);omega
 ·have e:Pw a b=a:=by unfold Pw; rw [show a.length+1-b.length=0 from by omega]; rfl
  rw [e];exact ⟨ha.t,Qm _,Ux ha.b (by omega)⟩
theorem FK {a b r:Uk} {s n:Nat} (h1:U7 r) (h2:r.length<=n) (h3:Bd s r):U7 (Be a b r)/\(Be a b r).length<=n/\Bd s (Be a b r):=by
 unfold Be; split
 ·exact ⟨Fq _ _,Qc (XF r) h2,PU h3⟩
 ·exact ⟨h1,h2,h3⟩
theorem DD {r:Uk} {s n:Nat} (h2:r.length<=n) (h3:Bd s r):U7 (VG r)/\(VG r).length<=n/\Bd s (VG r):=by
 unfold VG; split
 ·exact ⟨rfl,by simp,VM⟩
 ·exact ⟨QD _ _,Qc (OK _ _) h2,NJ h3 _⟩
theorem FY {a b:Uk} (ha:Pb a) (hb:Pb b) (h0:b.length≠0):U7 (Rq a b)/\(Rq a b).length<=a.length/\Bd 1107296256 (Rq a b):=by
 obtain ⟨h1,h2,h3⟩:=iZ ha hb h0;obtain ⟨h4,h5,h6⟩:=FK (a:=a) (b:=b) h1 h2 h3;exact DD h5 h6
theorem Qd4 {a b:Uk} (ha:Pb a) (hb:Pb b) (h0:b.length≠0):Uh 266 [pr a,pr b] [pr (Rq a b),.oi 0]:=by
 obtain ⟨h1,h2,h3⟩:=iZ ha hb h0;obtain ⟨h4,h5,h6⟩:=FK (a:=a) (b:=b) h1 h2 h3;have hal:=ha.l;have cp:=Qd2 ha hb h0;have cl:=Db hb.t hb.ln hb.bd;have cn:=Qd0 (p:=Pw a b) (by omega) (Ux h3 (by omega));unfold Rq;obtain ⟨r,hr⟩:=nmE (Be a b (Pw a b));have cc:=GT (p:=r) (by rw [hr]; omega) (by rw [hr]; exact Ux h6 (by omega));rw [<-hr] at h4 h5 h6 ⊢;obtain ⟨k,hk⟩:=nmE (a.length+1-b.length);rw [<-hk] at cp;have em:((k:Int).tmod 2)=((k % 2:Nat):Int):=by rw [J5 (by omega)]; omega
 have key:VG r=if r.length=0 then [] else Cv r (S6 r):=rfl
 by_cases hz:r.length=0
 ·rw [key,if_pos hz];by_cases hodd:k % 2=1
  ·by_cases hneg:Fi b<0
   ·have e:r=Me (Pw a b):=by rw [hr]; unfold Be; rw [if_pos ⟨by rw [<-hk]; exact hodd,hneg⟩]
    rw [e] at hz;exact Ue func266 rfl [.k cp,.f (by simp),.r 22 (eI em),.t (by simp; omega),.k cl,.t (by simpa [Fi] using hneg),.k cn,.t (by simpa using hz)] rfl rfl (by simp [Uw])
   ·have e:r=Pw a b:=by rw [hr]; unfold Be; rw [if_neg (λh=>hneg h.2)]
    rw [e] at hz;exact Ue func266 rfl [.k cp,.f (by simp),.r 22 (eI em),.t (by simp; omega),.k cl,.f (by simpa [Fi] using hneg),.t (by simpa using hz)] rfl rfl (by simp [Uw])
  ·have e:r=Pw a b:=by rw [hr]; unfold Be; rw [if_neg (λh=>hodd (by rw [hk]; exact h.1))]
   rw [e] at hz;exact Ue func266 rfl [.k cp,.f (by simp),.r 22 (eI em),.f (by simp; omega),.f rfl,.t (by simpa using hz)] rfl rfl (by simp [Uw])
 ·rw [key,if_neg hz];have cd:=dM (p:=r) (g:=S6 r) (by omega) (Ux h6 (by omega)) (YZ (Ux h6 (by omega))) (XC h4 hz) Eo;by_cases hodd:k % 2=1
  ·by_cases hneg:Fi b<0
   ·have e:r=Me (Pw a b):=by rw [hr]; unfold Be; rw [if_pos ⟨by rw [<-hk]; exact hodd,hneg⟩]
    rw [e] at hz cc cd ⊢;exact Ue func266 rfl [.k cp,.f (by simp),.r 22 (eI em),.t (by simp; omega),.k cl,.t (by simpa [Fi] using hneg),.k cn,.f (by simpa using hz),.k cc,.k cd] rfl rfl (by simp [Uw])
   ·have e:r=Pw a b:=by rw [hr]; unfold Be; rw [if_neg (λh=>hneg h.2)]
    rw [e] at hz cc cd ⊢;exact Ue func266 rfl [.k cp,.f (by simp),.r 22 (eI em),.t (by simp; omega),.k cl,.f (by simpa [Fi] using hneg),.f (by simpa using hz),.k cc,.k cd] rfl rfl (by simp [Uw])
  ·have e:r=Pw a b:=by rw [hr]; unfold Be; rw [if_neg (λh=>hodd (by rw [hk]; exact h.1))]
   rw [e] at hz cc cd ⊢;exact Ue func266 rfl [.k cp,.f (by simp),.r 22 (eI em),.f (by simp; omega),.f rfl,.f (by simpa using hz),.k cc,.k cd] rfl rfl (by simp [Uw])
theorem Qnm {s:Nat} {x:Int} (h:Fa x<=s) (g:Int):Fa (x / g)<=s:=GH (p:=[x]) (λz hz=>by rw [Qk.1 hz]; exact h) g _ (by simp)
def sta (b:Uk) (i:Nat) (x:Int) (a:Uk):Uk:=Mq a (Gh (trim (mono i x)) b)
theorem Qrw {u t i:Nat} {x:Int} {b a:Uk} (ha:Bd u a) (hb:Bd t b) (hx:Fa x<=u) (hi:i<=64):Bd (u+t+8) (sta b i x a) :=
 Ux (Da ha (dZ hb hx hi)) (by omega)
theorem eO {x:Int} {i:Nat} {b a:Uk}:(sta b i x a).length<=max a.length (i+b.length):=by
 have h:=M3 a (Gh (trim (mono i x)) b);have h2:=xE (i:=i) (x:=x) (b:=b);unfold sta; omega
theorem Qle (s n:Nat):Bd s (List.replicate n 0):=λz hz=>by rw [(List.mem_replicate.1 hz).2,My]; exact Qh _
theorem Qrv {s i:Nat} {l:Uk} {x:Int} (h:Bd s l) (hx:Fa x<=s):Bd s (l.set i x):=λz hz=>by
 rcases Ya hz with hz | rfl
 ·exact h z hz
 ·exact hx
theorem Qdy {a b q:Uk} (ha:Pb a) (hb:Pb b) (h:XA a b=some q):Uh 305 [pr a,pr b] [pr q,.oi 0]:=by
 unfold XA at h
 split at h
 ·cases h
 rename_i h0;obtain ⟨k,hk⟩:=nmE (a.length+1-b.length);rw [<-hk] at h;obtain ⟨q',hq,hq2⟩:=Qd.1 h;obtain ⟨rfl,hpb⟩:=QX (Tf _) hq2;have hal:=ha.l;have hbl:=hb.l;refine Ft func305 rfl ?_;refine Uc [.k (Hn ha.t ha.ln ha.bd),.k (Hn hb.t hb.ln hb.bd),.f (by simpa using h0),.r 24 (eI (b:=(k:Int)) (by simp; omega)),.i k,.i k,.r 27 (eI (b:=(k:Int)) (by simp))] rfl ?_;refine nl 0 rfl rfl rfl ?_;rw [MG];refine Ug (S:=Nat×Uk×Uk) 1 (λL1 s=>(0,.v (pr s.2.1))::(7,.v (.oi ((s.1:Int)-1)))::L1) (λs=>[.row false 34 2 (s.2.2.map He)]) (λs=>s.1) (λs=>s.1<=k/\U7 s.2.1/\s.2.1.length<=a.length/\Bd (16777216+(k-s.1)*16777224) s.2.1/\s.2.2.length=k/\Bd 1107296256 s.2.2/\jB b s.1 s.2.1 s.2.2=some q') (k,a,List.replicate k 0) ⟨Qm _,ha.t,Qm _,by simpa using ha.b,by simp,Qle _ _,hq⟩ rfl rfl λ⟨i,A,Q⟩ ⟨j1,j2,j3,j4,j5,j7,j6⟩=>?_
 dsimp only at j1 j2 j3 j4 j5 j6 j7 ⊢;cases i with
 |
  zero =>
  simp only [jB] at j6
  split at j6
  ·rename_i hA;injection j6 with j6; subst j6;exact Ud [.f (by simp),.f (by simpa using hA),.k (Lz (Gi Q) (by omega) (Ux j7 (by omega)))] rfl
  ·cases j6
 |
  succ i =>
  obtain ⟨u,hu⟩:=nmE (16777216+(k-(i+1))*16777224);rw [<-hu] at j4;have hub:u<=1107296256:=by
   have:(k-(i+1))*16777224<=64*16777224:=Q0 _ (by omega);omega
  have hku:u+16777216+8=16777216+(k-i)*16777224:=by
   rw [hu,show k-i=(k-(i+1))+1 from by omega,X2]; omega
  simp only [jB] at j6;by_cases hlt:A.length<b.length+i
  ·rw [if_pos hlt] at j6;refine Uc [.t (by simp <;> omega),.k (Mk A),.k (Mk b),.t (by simp; omega),.r 32 (eI (b:=(i:Int)-1) (by omega))] rfl ?_;exact rd (i,A,Q) (by dsimp only; omega) ⟨by dsimp only; omega,j2,j3,Ux j4 (by dsimp only; omega),j5,j7,j6⟩ rfl
  ·rw [if_neg hlt] at j6
   split at j6
   ·rename_i hdv;obtain ⟨x,hx⟩:=nmE (Fi A / Fi b);rw [<-hx] at j6;have hxs:Fa x<=u:=by rw [hx]; exact Qnm (Mx j4) _
    have ce:=Ax (Uy (Fi A)) (Uy (Fi b)) (Qc (Mx j4) (by omega)) (Qc (Mx hb.b) (by omega)) (L9 hb.t h0) hdv;rw [<-hx] at ce;have cm:Uh 177 [.one (.row ((mono i x).map He)),pr b] [pr (Gh (trim (mono i x)) b)]:=zH (p0:=mono i x) hb.t (by rw [I8]; omega) (by omega) (NQ hxs) hb.b (by omega);have l3:=xE (i:=i) (x:=x) (b:=b);have l4:=eO (i:=i) (x:=x) (b:=b) (a:=A);have cb:=GM (p:=A) (q:=Gh (trim (mono i x)) b) (by omega) (by omega) (Ux j4 (by omega)) (Ux (dZ hb.b hxs (by omega)) (by omega));refine Uc [.t (by simp <;> omega),.k (Mk A),.k (Mk b),.f (by simp; omega),.k (Db j2 (by omega) (Ux j4 (by omega))),.k (Db hb.t hb.ln hb.bd),.k ce,.f rfl,.r 51 (eI (b:=(i:Int)) (by omega)),.i i,.r 55 (eI (b:=((i+1:Nat):Int)) (by omega)),.i (i+1),.i (i+1),.r 58 (eI (b:=(i:Int)) (by omega))] rfl ?_;refine nl 2 rfl rfl rfl ?_;rw [MG,nH];rw [<-fW i x] at cm;refine Uc [.i i,.k cm,.k cb,.r 32 (eI (b:=(i:Int)-1) (by omega))] rfl ?_;exact rd (i,sta b i x A,Q.set i x) (by dsimp only; omega) ⟨by dsimp only; omega,Fq _ _,by dsimp only; omega,by dsimp only; rw [<-hku]; exact Qrw j4 hb.b hxs (by omega),by simpa using j5,Qrv j7 (Nat.le_trans hxs hub),j6⟩ rfl
   ·cases j6
theorem nF {a b q:Uk} (h:XA a b=some q):Pb q:=by
 unfold XA at h
 split at h
 ·cases h
 ·obtain ⟨q',_,hq2⟩:=Qd.1 h;obtain ⟨rfl,hpb⟩:=QX (Tf _) hq2;exact hpb
theorem Qe0 {a b q:Uk} (ha:Pb a) (hb:Pb b) (h:XA a b=some q):Uh 294 [pr a,pr b] [pr q] :=
 Ue func294 rfl [.k (Qdy ha hb h)] rfl
theorem yE:∀ {k:Nat} {a b g:Uk},Pb a->Pb b->RA k a b=some g->Pb g
 | 0,_,_,_,_,_,h=>by cases h
 |
  k+1,a,b,g,ha,hb,h=>by
  simp only [RA] at h
  split at h
  ·injection h with h; subst h; exact ha
  ·rename_i h0;obtain ⟨r,hr,h⟩:=Qd.1 h;obtain ⟨rfl,hpb⟩:=QX (FY ha hb h0).1 hr;exact yE hb hpb h
theorem dE {a b g:Uk} (ha:Pb a) (hb:Pb b) (h:XO a b=some g):Uh 233 [pr a,pr b] [pr g]:=by
 unfold XO at h;obtain ⟨g',h2,rfl⟩:=Yv.1 h;have hg:=yE (Rl ha) (Rl hb) h2;refine Ft func233 rfl ?_;refine Ub [.k (Ay ha),.k (Ay hb)] rfl ?_;refine Ug (S:=Nat×Uk×Uk) 0 (λL1 s=>(0,.v (pr s.2.1))::(1,.v (pr s.2.2))::L1) (λ_=>[]) (λs=>s.1) (λs=>Pb s.2.1/\Pb s.2.2/\RA s.1 s.2.1 s.2.2=some g') (66,Fc a,Fc b) ⟨Rl ha,Rl hb,h2⟩ rfl rfl λ⟨k,A,C⟩ ⟨j1,j2,j3⟩=>?_
 dsimp only at j1 j2 j3 ⊢;cases k with
 | zero=>cases j3
 |
  succ k =>
  simp only [RA] at j3
  split at j3
  ·rename_i h0;injection j3 with j3; subst j3;exact Ud [.f (by simpa using h0),.k (Ay j1)] rfl
  ·rename_i h0;obtain ⟨r,hr,j3⟩:=Qd.1 j3;obtain ⟨rfl,hpb⟩:=QX (FY j1 j2 h0).1 hr;refine Ub [.t (by simp; omega),.k (Qd4 j1 j2 h0)] rfl ?_;exact rd (k,C,Rq A C) (by dsimp only; omega) ⟨j2,hpb,j3⟩ rfl
theorem RJ {a b g:Uk} (ha:Pb a) (hb:Pb b) (h:XO a b=some g):Pb g:=by
 unfold XO at h;obtain ⟨g',h2,rfl⟩:=Yv.1 h;exact Rl (yE (Rl ha) (Rl hb) h2)
theorem Qdz {a b g:Uk} (ha:Pb a) (hb:Pb b) (h:jD a b=some g):Uh 189 [.one (.row (Sx [a,b]))] [pr g]:=by
 unfold jD at h;obtain ⟨g1,h1,h2⟩:=Qd.1 h;have hg1:=RJ RZ ha h1;refine Ft func189 rfl ?_;refine Ub [.z 3] rfl ?_;refine Ug (S:=Nat) 0 (λL1 i=>(8,.v (.oi i))::(3,.v (pr (if i=0 then [] else if i=1 then g1 else g)))::L1) (λ_=>[]) (λi=>2-i) (λi=>i<=2) 0 (Qh _) rfl rfl λi hi=>?_
 rcases (show i=0\/i=1\/i=2 by omega) with rfl | rfl | rfl
 ·refine Ub [.t rfl,.x (Rf (i:=0) (p:=a) rfl),.k (dE RZ ha h1)] rfl ?_ (by simp [Uw]);exact rd 1 (by omega) (by omega) rfl
 ·refine Ub [.t rfl,.x (Rf (i:=1) (p:=b) rfl),.k (dE hg1 hb h2)] rfl ?_ (by simp [Uw]);exact rd 2 (by omega) (by omega) rfl
 ·exact Ud [.f rfl] rfl
theorem Qh7 {a b g:Uk} (ha:Pb a) (hb:Pb b) (h:jD a b=some g):Pb g:=by
 unfold jD at h;obtain ⟨g1,h1,h2⟩:=Qd.1 h;exact RJ (RJ RZ ha h1) hb h2
theorem DU {p d:Uk} (h:AE (Gp p)=some d):d=Gp p/\Pb (Gp p):=QX (Fq _ _) h
theorem NH {a g:Uk} (ha:Pb a) (h:Pd a=some g):Uh 272 [pr a] [pr g]:=by
 have hp:=Rl ha;unfold Pd at h
 split at h
 ·rename_i h0;injection h with h; subst h;exact Ue func272 rfl [.k (Ay ha),.k (Mk _),.t (by simp; omega)] rfl
 ·rename_i h0;obtain ⟨d,h1,h⟩:=Qd.1 h;obtain ⟨rfl,hd⟩:=DU h1;obtain ⟨g1,h1,h⟩:=Qd.1 h;exact Ue func272 rfl [.k (Ay ha),.k (Mk _),.f (by simp; omega),.k (Iv hp.ln hp.bd),.k (dE hp hd h1),.k (Qe0 hp (RJ hp hd h1) h)] rfl
theorem RX {a g:Uk} (ha:Pb a) (h:Pd a=some g):Pb g:=by
 unfold Pd at h
 split at h
 ·injection h with h; subst h; exact Rl ha
 ·obtain ⟨d,h1,h⟩:=Qd.1 h;obtain ⟨g1,h1,h⟩:=Qd.1 h;exact nF h
theorem Qh8 {p:Uk} (h:Pb p):Pb (Me p):=⟨Fq _ _,Qc (XF p) h.l,PU h.b⟩
theorem pF:∀ {k:Nat} {a b:Uk} {l:Ul},Pb a->Pb b->tD k a b=some l->l.length≤k/\∀ p∈l,Pb p
 | 0,_,_,_,_,_,h=>by cases h
 |
  k+1,a,b,l,ha,hb,h=>by
  simp only [tD] at h
  split at h
  ·injection h with h; subst h; exact ⟨by simp,λp hp=>by cases hp⟩
  ·rename_i h0;obtain ⟨r,hr,h⟩:=Qd.1 h;obtain ⟨rfl,hpb⟩:=QX (FY ha hb h0).1 hr;obtain ⟨l',h1,h⟩:=Qd.1 h;injection h with h; subst h;obtain ⟨i1,i2⟩:=pF hb (Qh8 hpb) h1;refine ⟨by simp; exact i1,λp hp=>?_⟩;rcases Ql.1 hp with rfl | hp
   ·exact hb
   ·exact i2 p hp
theorem chain_ok {p:Uk} {l:Ul} (hp:Pb p) (h:Lq p=some l):l.length≤67/\∀ q∈l,Pb q:=by
 unfold Lq at h;obtain ⟨a,h1,h⟩:=Qd.1 h;have ha:=RX hp h1
 split at h
 ·cases h
 ·obtain ⟨d,h2,h⟩:=Qd.1 h;obtain ⟨rfl,hd⟩:=DU h2;obtain ⟨l',h3,h⟩:=Qd.1 h;injection h with h; subst h;obtain ⟨i1,i2⟩:=pF ha (Rl hd) h3;refine ⟨by simp; omega,λp hp=>?_⟩;rcases Ql.1 hp with rfl | hp
  ·exact ha
  ·exact i2 p hp
theorem DC (l:Ul) (p:Uk):Sx l++[[pl p]]=Sx (l++[p]):=by simp [Sx]
theorem Ep (l:Ul):(Sx l).length=l.length:=by simp [Sx]
theorem Qd6 {p:Uk} {l:Ul} (hp:Pb p) (h:Lq p=some l):Uh 243 [pr p] [.one (.sh [.row (Sx l)]),.oi 0]:=by
 unfold Lq at h;obtain ⟨a,h1,h⟩:=Qd.1 h;have ha:=RX hp h1
 split at h
 ·cases h
 rename_i h0;obtain ⟨d,h2,h⟩:=Qd.1 h;obtain ⟨rfl,hd⟩:=DU h2;obtain ⟨l',h3,h⟩:=Qd.1 h;injection h with h; subst h;refine Ft func243 rfl ?_;refine Ub [.k (NH hp h1),.f (by simpa using h0),.lo,.k (Iv ha.ln ha.bd),.k (Qev hd.t hd.ln' hd.bd)] rfl ?_ (by simp [Uw]);obtain ⟨z,hz⟩:=nmE (if (Gp a).length=0 then 0 else Hh (Gp a));rw [<-hz];refine sb [(4,.v (pr a)),(7,.v (pr (Fc (Gp a)))),(5,.v (.one (.ow 1 0)))] [.row false 31 1 [[pl a]],.blk 340 [.orow 0 1 none],.blk 34 (He z)] rfl rfl ?_;have hll:=(pF ha (Rl hd) h3).1;refine Ug (S:=Nat×Ul×Uk×Uk) 3 (λL1 s=>(4,.v (pr s.2.2.1))::(7,.v (pr s.2.2.2))::L1) (λs=>[.row false 31 1 (Sx s.2.1),.blk 340 [.orow 0 1 none],.blk 34 (He z)]) (λs=>s.1) (λs=>Pb s.2.2.1/\Pb s.2.2.2/\∃ m,tD s.1 s.2.2.1 s.2.2.2=some m/\s.2.1++m=a::l') (66,[a],a,Fc (Gp a)) ⟨ha,Rl hd,l',h3,rfl⟩ rfl rfl λ⟨k,out,A,C⟩ ⟨j1,j2,m,j3,j4⟩=>?_
 dsimp only at j1 j2 j3 j4 ⊢;have hol:out.length<=67:=by have:=congrArg List.length j4; simp at this; omega
 cases k with
 | zero=>cases j3
 |
  succ k =>
  simp only [tD] at j3
  split at j3
  ·rename_i h0;injection j3 with j3; subst j3;rw [Zx] at j4;rw [<-j4];exact Ud [.f (by simpa using h0)] rfl
  ·rename_i h0;obtain ⟨r,hr,j3⟩:=Qd.1 j3;obtain ⟨rfl,hpb⟩:=QX (FY j1 j2 h0).1 hr;obtain ⟨m',j6,j5⟩:=Qd.1 j3;injection j5 with j5; subst j5;refine go tt [.t (by simp; omega),.s (sz:=1) (λc hc=>by rw [Qk.1 hc]; rfl),.k (Qd4 j1 j2 h0),.k (Qd0 hpb.ln hpb.bd)] rfl (by simp [Uw,Ep]; omega) ?_;exact rd (k,out++[C],C,Me (Rq A C)) (by dsimp only; omega) ⟨j2,Qh8 hpb,m',j6,by rw [<-j4]; simp⟩ (by rw [DC]; rfl)
structure Tb (t:Tm):Prop where
 p:Pb t.p
 lo:Qb t.lo
 hi:Qb t.hi
theorem lK (x y:Int):-1<=Dt x y/\Dt x y<=1:=by unfold Dt; split <;> (try split) <;> omega
theorem QJ (a b:Rat):-1<=G7 a b/\G7 a b<=1:=lK _ _
theorem Om (p:Uk) (q:Rat):-1<=Hz p q/\Hz p q<=1:=lK _ _
theorem mL (p:Uk) (q:Rat):-1<=low p q/\low p q<=1:=by unfold low; split <;> exact Om _ _
theorem Qb.s31 {q:Rat} (h:Qb q):Qs 2147483647 q:=h.mono (by decide)
theorem Qb.s32 {q:Rat} (h:Qb q):Qs 4294967295 q:=h.mono (by decide)
theorem SN {p:Uk} {q:Rat} (hp:Pb p) (hq:Qb q):Uh 231 [pr p,.agg (rl q)] [.oi (Hz p q)]:=by
 have hm:p.length*(16777216+1)<=64*16777217:=Q0 _ hp.l;exact dW hp.t hp.ln hp.b hq (by omega)
theorem Qwj {p:Uk} {q:Rat} (hp:Pb p) (hq:Qb q):Uh 231 [pr (Gp p),.agg (rl q)] [.oi (Hz (Gp p) q)]:=by
 have hl:=Qc (Mz p) (show p.length-1<=64 by have:=hp.l; omega);have hm:(Gp p).length*(16777216+1)<=64*16777217:=Q0 _ hl;exact dW (Fq _ _) (Z3 hl (by omega)) (zW (t:=6) hp.b hp.l) hq (by omega)
theorem Ds {t:Tm} (ht:Tb t):Uh 187 [.agg (ta t)] [.one (.bool t.point)] :=
 Ue func187 rfl [.k (Bv ht.lo.s31 ht.hi.s31)] rfl
theorem PP {t:Tm} (ht:Tb t):Uh 186 [.agg (ta t)] [.agg (ta t)] :=
 Ue func186 rfl [.k (Hn ht.p.t ht.p.ln ht.p.bd),.k (Bw ht.lo.s32),.k (Bw ht.hi.s32)] rfl
theorem Qe7 {t:Tm} (ht:Tb t):Uh 230 [.agg (ta t)] [.agg (ta t)]:=Ue func230 rfl [.k (PP ht)] rfl
theorem Qep {p:Uk} {q:Rat} (hp:Pb p) (hq:Qb q):Uh 232 [pr p,.agg (rl q)] [.oi (low p q)]:=by
 unfold low;by_cases h:Hz p q=0
 ·rw [if_neg (by simpa using h)];exact Ue func232 rfl [.k (SN hp hq),.f (by simpa using h),.k (Iv hp.ln hp.bd),.k (Qwj hp hq)] rfl
 ·rw [if_pos h];exact Ue func232 rfl [.k (SN hp hq),.t (by simpa using h)] rfl
theorem Qen {p:Uk} {lo hi:Rat} (hp:Pb p) (hl:Qb lo) (hh:Qb hi):Uh 190 [pr p,.agg (rl lo),.agg (rl hi)] [.one (.bool (UG p lo hi))]:=by
 by_cases h:Hz p hi=0
 ·exact Ue func190 rfl [.k (SN hp hh),.t (by simpa using h)] rfl (by simp [UG,h]) trivial
 ·exact Ue func190 rfl [.k (SN hp hh),.f (by simpa using h),.k (Qep hp hl)] rfl (by simp [UG,h]) trivial
theorem Cz {t:Tm} {q:Rat} (ht:Tb t) (hq:Qb q):Uh 188 [.agg (ta t),.agg (rl q)] [.oi (Fh t q)]:=by
 have cp:=Ds ht;unfold Fh;by_cases h1:t.point=true
 ·rw [if_pos h1];exact Ue func188 rfl [.k cp,.t h1,.k (Bv ht.lo.s31 hq.s31)] rfl
 rw [if_neg h1];have h1:t.point=false:=by simpa using h1
 have c1:=Bv hq.s31 ht.lo.s31;have c2:=Bv hq.s31 ht.hi.s31;by_cases h2:G7 q t.lo<=0
 ·rw [if_pos h2];exact Ue func188 rfl [.k cp,.f h1,.k c1,.t (by simpa using h2)] rfl
 rw [if_neg h2];by_cases h3:0<G7 q t.hi
 ·rw [if_pos h3];exact Ue func188 rfl [.k cp,.f h1,.k c1,.f (by simpa using h2),.k c2,.t (by simpa using h3)] rfl
 rw [if_neg h3];by_cases h4:Hz t.p q=0
 ·rw [if_pos h4];exact Ue func188 rfl [.k cp,.f h1,.k c1,.f (by simpa using h2),.k c2,.f (by simpa using h3),.k (SN ht.p hq),.t (by simpa using h4)] rfl
 rw [if_neg h4];by_cases h5:Hz t.p q=low t.p t.lo
 ·rw [if_pos h5];exact Ue func188 rfl [.k cp,.f h1,.k c1,.f (by simpa using h2),.k c2,.f (by simpa using h3),.k (SN ht.p hq),.f (by simpa using h4),.k (Qep ht.p ht.lo),.t (by simpa using h5)] rfl
 ·rw [if_neg h5];exact Ue func188 rfl [.k cp,.f h1,.k c1,.f (by simpa using h2),.k c2,.f (by simpa using h3),.k (SN ht.p hq),.f (by simpa using h4),.k (Qep ht.p ht.lo),.f (by simpa using h5)] rfl
theorem Qmv (t:Tm) (q:Rat):-1<=Fh t q/\Fh t q<=1:=by
 unfold Fh;have:=QJ t.lo q
 repeat' split
 all_goals omega
theorem Qm2 (q:Rat):0<(q.den:Int):=by have:=q.den_pos; omega
theorem Qqe {a b:Rat} (ha:Qb a) (hb:Qb b):Uh 268 [.agg (rl a),.agg (rl b)] [.agg (rl (mid a b))]:=by
 have h1:Fa (a.num*(b.den:Int))<=33554432:=Qc (Ge _ _) (by have:=ha.1; have:=hb.2; omega);have h2:Fa (b.num*(a.den:Int))<=33554432:=Qc (Ge _ _) (by have:=hb.1; have:=ha.2; omega);have h3:Fa ((a.den:Int)*(b.den:Int))<=33554432:=Qc (Ge _ _) (by have:=ha.2; have:=hb.2; omega);have h4:Fa (2:Int)<=2:=by decide
 have h5:Fa (a.num*(b.den:Int)+b.num*(a.den:Int))<=33554433:=Qc (YQ _ _) (by omega);have h6:Fa ((a.den:Int)*(b.den:Int)*2)<=33554434:=Qc (Ge _ _) (by omega);have h0:(a.den:Int)*(b.den:Int)*2≠0:=by
  have:=Int.mul_pos (Qm2 a) (Qm2 b); omega
 exact Ue func268 rfl [.k (zN ha.s31 hb.s31),.k (VD (Uy _) (Uy _) (by omega) (by omega)),.k (zF (z:=2) (by decide)),.k (Nk (Uy _) (Uy _) (by omega) (by omega)),.k (ZP h0 (by omega) (by omega))] rfl
theorem zL {a b:Rat} (ha:Qb a) (hb:Qb b):Uh 235 [.agg (rl a),.agg (rl b)] [.agg (rl (LF a b))]:=by
 have h1:Fa (a.num*(b.den:Int))<=33554432:=Qc (Ge _ _) (by have:=ha.1; have:=hb.2; omega);have h2:Fa (b.num*(a.den:Int))<=33554432:=Qc (Ge _ _) (by have:=hb.1; have:=ha.2; omega);have h3:Fa ((a.den:Int)*(b.den:Int))<=33554432:=Qc (Ge _ _) (by have:=ha.2; have:=hb.2; omega);have h5:Fa (a.num*(b.den:Int)-b.num*(a.den:Int))<=33554433:=Qc (xC _ _) (by omega);have h0:(a.den:Int)*(b.den:Int)≠0:=by
  have:=Int.mul_pos (Qm2 a) (Qm2 b); omega
 exact Ue func235 rfl [.k (zN ha.s31 hb.s31),.k (Qei (Uy _) (Uy _) (by omega) (by omega)),.k (ZP h0 (by omega) (by omega))] rfl
theorem BQ {q r:Rat} (h:chq q=some r):r=q/\Qb q:=by
 unfold chq at h
 split at h
 ·rename_i hc; injection h with h; exact ⟨h.symm,hc⟩
 ·cases h
theorem pJ {t u:Tm} (ht:Tb t) (h:xR t=some u):Uh 236 [.agg (ta t)] [.agg (ta u)]:=by
 have cp:=Ds ht;unfold xR at h
 split at h
 ·rename_i h1;injection h with h; subst h;exact Ue func236 rfl [.k cp,.t h1] rfl
 ·rename_i h1;have h1:t.point=false:=by simpa using h1
  obtain ⟨m,hm0,h⟩:=Qd.1 h;obtain ⟨rfl,hm⟩:=BQ hm0;injection h with h;subst h;have cm:=Qqe ht.lo ht.hi;have cc:=Cz ht hm;by_cases h2:Fh t (mid t.lo t.hi)=0
  ·rw [if_pos h2];exact Ue func236 rfl [.k cp,.f h1,.k cm,.k cc,.t (by simpa using h2)] rfl
  rw [if_neg h2];by_cases h3:Fh t (mid t.lo t.hi)=-1
  ·rw [if_pos h3];exact Ue func236 rfl [.k cp,.f h1,.k cm,.k cc,.f (by simpa using h2),.t (by simpa using h3)] rfl
  ·rw [if_neg h3];exact Ue func236 rfl [.k cp,.f h1,.k cm,.k cc,.f (by simpa using h2),.f (by simpa using h3)] rfl
theorem yP {t u:Tm} (ht:Tb t) (h:xR t=some u):Tb u:=by
 unfold xR at h
 split at h
 ·injection h with h; subst h; exact ht
 ·obtain ⟨m,hm0,h⟩:=Qd.1 h;obtain ⟨rfl,hm⟩:=BQ hm0;injection h with h;subst h
  repeat' split
  ·exact ⟨ht.p,hm,hm⟩
  ·exact ⟨ht.p,ht.lo,hm⟩
  ·exact ⟨ht.p,hm,ht.hi⟩
theorem O5 {z:Int} (h:Fa z<=4294967296):Uh 178 [.one (mg z)] [.oi (Fa z:Int)]:=by
 have h1:=sM (l:=Fv z.natAbs) (Lb _) (by rw [Gy]; exact h);rw [Gy] at h1; exact h1
theorem LQ {p:Uk} {i:Nat} {z:Int} (h:p[i]? = some z):Gz (p.take (i+1))=max (Gz (p.take i)) (Fa z):=by
 unfold Gz; rw [List.take_succ,h,Option.toList_some,List.foldl_append]; rfl
theorem P0 {p:Uk} {s:Nat} (h:Bd s p):∀ i,Gz (p.take i)<=s
 | 0=>by simp [Gz]
 |
  i+1=>by
  cases hz:p[i]? with
  |
   none =>
   rw [Qn (by have:=Jo.1 hz; omega),<-Qn (l:=p) (i:=i) (by have:=Jo.1 hz; omega)];exact P0 h i
  | some z=>rw [LQ hz]; have:=P0 h i; have:=Qdc h hz; omega
theorem zE {p:Uk} (hp:Pb p):Uh 267 [pr p] [.oi (Gz p:Int)]:=by
 have hl:=hp.l;refine Ft func267 rfl ?_;refine Ub [] rfl ?_;refine Ug (S:=Nat) 0 (λL1 i=>(8,.v (.oi i))::(3,.v (.oi (Gz (p.take i):Int)))::L1) (λ_=>[]) (λi=>p.length-i) (λi=>i<=p.length) 0 (Qh _) rfl rfl λi hi=>?_
 by_cases hlt:i<p.length
 ·have hg:=H7 hlt;have hz:=Fj hp.b i;have hs:=LQ hg;refine Uc [.t (by simp; omega),.x (Pa hg),.k (O5 (by omega)),.r 16 (eI (b:=(Gz (p.take (i+1)):Int)) (by rw [hs]; omega))] rfl ?_;exact rd (i+1) (by omega) hlt rfl
 ·obtain rfl:i=p.length:=by omega
  rw [Q5];exact Ud [.f (by simp)] rfl
theorem Qmq {a:Tm} {b:Tm} (ha:Tb a) (hb:Tb b):Uh 234 [.agg (ta a),.agg (ta b)] [.oi (Pp a b:Nat)]:=by
 have l1:=ha.p.l;have l2:=hb.p.l;have b1:=ha.lo.1;have b2:=ha.hi.1;have b3:=hb.lo.1;have b4:=hb.hi.1;have s1:Gz a.p<=16777216:=by have:=P0 ha.p.b a.p.length; rwa [Q5] at this
 have s2:Gz b.p<=16777216:=by have:=P0 hb.p.b b.p.length; rwa [Q5] at this
 obtain ⟨N,hN⟩:=nmE (4*(a.p.length+b.p.length));obtain ⟨S,hS⟩:=nmE (Gz a.p+Gz b.p+(a.p.length+b.p.length)+8);have hNS:N*S<=512*33554568:=Zh (by omega) (by omega);have h0:(N:Int)*(S:Int)=((N*S:Nat):Int):=(Vj _ _).symm;have hst:Pp a b=64+2*(Fa a.lo.num+Fa a.hi.num+Fa b.lo.num+Fa b.hi.num)+N*S:=by rw [hN,hS]; rfl
 rw [hst];exact Ue func234 rfl [.k (O5 (z:=a.lo.num) (by omega)),.k (O5 (z:=a.hi.num) (by omega)),.k (O5 (z:=b.lo.num) (by omega)),.k (O5 (z:=b.hi.num) (by omega)),.r 41 (eI (b:=(N:Int)) (by rw [hN]; simp)),.k (zE ha.p),.k (zE hb.p),.r 51 (eI (b:=(S:Int)) (by rw [hS]; simp)),.r 52 (eI (b:=((N*S:Nat):Int)) h0)] rfl (by simp) (by rw [h0]; simp [Uw]; omega)
def cV (p:Uk) (a:Tm):Nat:=64+2*(Fa a.lo.num+Fa a.hi.num)+4*(a.p.length+p.length)*(Gz a.p+Gz p+(a.p.length+p.length)+8)
theorem dX:Uh 178 [lr []] [.oi 0]:=sM (l:=[]) (by simp [Sm]) (by decide)
theorem Qe3 {a:Tm} {p:Uk} (ha:Tb a) (hp:Pb p):Uh 234 [.agg (ta a),.agg ([pl p,.bool false,.row [],.bool false,.row [],.bool false,.row [],.bool false,.row []])] [.oi (cV p a:Nat)]:=by
 have l1:=ha.p.l;have l2:=hp.l;have b1:=ha.lo.1;have b2:=ha.hi.1;have s1:Gz a.p<=16777216:=by have:=P0 ha.p.b a.p.length; rwa [Q5] at this
 have s2:Gz p<=16777216:=by have:=P0 hp.b p.length; rwa [Q5] at this
 obtain ⟨N,hN⟩:=nmE (4*(a.p.length+p.length));obtain ⟨S,hS⟩:=nmE (Gz a.p+Gz p+(a.p.length+p.length)+8);have hNS:N*S<=512*33554568:=Zh (by omega) (by omega);have h0:(N:Int)*(S:Int)=((N*S:Nat):Int):=(Vj _ _).symm;have hst:cV p a=64+2*(Fa a.lo.num+Fa a.hi.num)+N*S:=by rw [hN,hS]; rfl
 rw [hst];exact Ue func234 rfl [.k (O5 (z:=a.lo.num) (by omega)),.k (O5 (z:=a.hi.num) (by omega)),.k dX,.k dX,.r 41 (eI (b:=(N:Int)) (by rw [hN]; simp)),.k (zE ha.p),.k (zE hp),.r 51 (eI (b:=(S:Int)) (by rw [hS]; simp)),.r 52 (eI (b:=((N*S:Nat):Int)) h0)] rfl (by simp) (by rw [h0]; simp [Uw]; omega)
def VZ (sg:Uk->Int) (l:Ul) (i:Nat):Nat×Int:=(l.take i).foldl (Ph sg) (0,0)
theorem yC {sg:Uk->Int} (hs:∀ p,-1<=sg p/\sg p<=1) (l:Ul):∀ i,(VZ sg l i).1<=i/\-1<=(VZ sg l i).2/\(VZ sg l i).2<=1
 | 0=>⟨Qm _,show (-1:Int)<=0 by decide,show (0:Int)<=1 by decide⟩
 |
  i+1=>by
  obtain ⟨h1,h2,h3⟩:=yC hs l i;cases h:l[i]? with
  |
   none =>
   have:VZ sg l (i+1)=VZ sg l i:=by unfold VZ; rw [List.take_of_length_le (by have:=List.getElem?_eq_none_iff.1 h; omega),List.take_of_length_le (List.getElem?_eq_none_iff.1 h)]
   rw [this]; omega
  |
   some p =>
   have:VZ sg l (i+1)=Ph sg (VZ sg l i) p:=Tq _ _ _ h;rw [this];have:=hs p;unfold Ph
   split
   ·omega
   ·dsimp only; split <;> omega
theorem Qms {l:Ul} {fid:Nat} {l1:Up} {sg:Uk->Int} (hl:l.length≤1000) (hs:∀ p,-1≤sg p/\sg p≤1) (h:∀ p∈l,EF prog fid [pr p,.one (.sh l1)] [.oi (sg p)]):Uh 296 [.one (.sh [.row (Sx l)]),.one (.fn fid [] [.sh l1])] [.oi (Cj sg l:Nat)]:=by
 have hpl:=Ep l;refine Ft func296 rfl ?_;refine Ub [] rfl ?_;refine Ug (S:=Nat) 0 (λL1 i=>(15,.v (.oi i))::(5,.v (.oi ((VZ sg l i).1:Int)))::(6,.v (.one (.int .i64 (VZ sg l i).2)))::L1) (λ_=>[]) (λi=>l.length-i) (λi=>i<=l.length) 0 (Qh _) rfl rfl λi hi=>?_
 by_cases hlt:i<l.length
 ·obtain ⟨p,hp⟩:=gxE (l:=l) (i:=i) hlt;have hst:VZ sg l (i+1)=Ph sg (VZ sg l i) p:=Tq _ _ _ hp;obtain ⟨b1,b2,b3⟩:=yC hs l i;have b4:=hs p;by_cases h0:sg p=0
  ·refine Uc [.t (by simp [hpl]; omega),.x (Rf hp),.k (h p (Qa hp)),.t (by simpa using h0)] rfl ?_;exact rd (i+1) (by omega) hlt (by rw [hst,show Ph sg (VZ sg l i) p=VZ sg l i from by unfold Ph; rw [if_pos h0]]; rfl)
  ·by_cases h1:(VZ sg l i).2=-(sg p)
   ·refine Uc [.t (by simp [hpl]; omega),.x (Rf hp),.k (h p (Qa hp)),.f (by simpa using h0),.t (by simpa using h1)] rfl ?_;exact rd (i+1) (by omega) hlt (by rw [hst,show Ph sg (VZ sg l i) p=((VZ sg l i).1+1,sg p) from by unfold Ph; rw [if_neg h0,if_pos h1]]; rfl)
   ·refine Uc [.t (by simp [hpl]; omega),.x (Rf hp),.k (h p (Qa hp)),.f (by simpa using h0),.f (by simpa using h1)] rfl ?_;exact rd (i+1) (by omega) hlt (by rw [hst,show Ph sg (VZ sg l i) p=((VZ sg l i).1,sg p) from by unfold Ph; rw [if_neg h0,if_neg h1]]; rfl)
 ·obtain rfl:i=l.length:=by omega
  refine Ud [.f (by simp [hpl])] rfl ?_ trivial;unfold VZ Cj; rw [List.take_length]
theorem Qeg {p:Uk} {q:Rat} (hp:Pb p) (hq:Qb q):Uh 297 [pr p,.one (.sh (rl q))] [.oi (Hz p q)]:=Ue func297 rfl [.k (SN hp hq)] rfl
theorem dT {l:Ul} {q:Rat} (hl:l.length≤1000) (hp:∀ p∈l,Pb p) (hq:Qb q):Uh 275 [.one (.sh [.row (Sx l)]),.agg (rl q)] [.oi (Ck l q:Nat)] :=
 Ue func275 rfl [.k (Qms (fid:=297) (l1:=rl q) (sg:=λp=>Hz p q) hl (λp=>Om p q) λp h=>Qeg (hp p h) hq)] rfl
theorem Ld {sg:Uk->Int} (hs:∀ p,-1<=sg p/\sg p<=1) (l:Ul):Cj sg l<=l.length:=by
 have:=(yC hs l l.length).1;unfold VZ at this; rwa [List.take_length] at this
theorem AU {l:Ul} {lo hi:Rat} (hl:l.length≤1000) (hp:∀ p∈l,Pb p) (ql:Qb lo) (qh:Qb hi):Uh 244 [.one (.sh [.row (Sx l)]),.agg (rl lo),.agg (rl hi)] [.oi (Td l lo hi)]:=by
 have b1:Ck l lo<=l.length:=Ld (λp=>Om p lo) l;have b2:Ck l hi<=l.length:=Ld (λp=>Om p hi) l;have c1:=Bv qh.s31 ql.s31;unfold Td;by_cases h:G7 hi lo<0
 ·rw [if_pos h];exact Ue func244 rfl [.k c1,.t (by simpa using h)] rfl
 ·rw [if_neg h];exact Ue func244 rfl [.k c1,.f (by simpa using h),.k (dT hl hp ql),.k (dT hl hp qh)] rfl rfl (by simp [Uw]; omega)
def zTm:Up:=[.nils,.bool false,.nils,.bool false,.nils,.bool false,.nils,.bool false,.nils]
theorem Qce {a b:Tm} (ha:Tb a) (hb:Tb b):Pp a b<=17179938816+200000000:=by
 have l1:=ha.p.l;have l2:=hb.p.l;have b1:=ha.lo.1;have b2:=ha.hi.1;have b3:=hb.lo.1;have b4:=hb.hi.1;have s1:Gz a.p<=16777216:=by have:=P0 ha.p.b a.p.length; rwa [Q5] at this
 have s2:Gz b.p<=16777216:=by have:=P0 hb.p.b b.p.length; rwa [Q5] at this
 have:4*(a.p.length+b.p.length)*(Gz a.p+Gz b.p+(a.p.length+b.p.length)+8)<=512*33554568:=Zh (by omega) (by omega);unfold Pp; omega
theorem Qoq {a b:Rat} (ha:Qb a) (hb:Qb b):Qs 2147483647 (LF a b):=by
 have h1:Fa (a.num*(b.den:Int))<=33554432:=Qc (Ge _ _) (by have:=ha.1; have:=hb.2; omega);have h2:Fa (b.num*(a.den:Int))<=33554432:=Qc (Ge _ _) (by have:=hb.1; have:=ha.2; omega);have h3:Fa ((a.den:Int)*(b.den:Int))<=33554432:=Qc (Ge _ _) (by have:=ha.2; have:=hb.2; omega);have h5:Fa (a.num*(b.den:Int)-b.num*(a.den:Int))<=33554433:=Qc (xC _ _) (by omega);exact (Qs.divInt (s:=33554433) h5 (by omega) (by omega)).mono (by omega)
theorem zP {a b:Tm} {r:Tm×Tm×Int} (ha:Tb a) (hb:Tb b) (h:EH (Pp a b) a b=some r):Uh 191 [.agg (ta a),.agg (ta b)] [.agg (ta r.1),.agg (ta r.2.1),.oi r.2.2]:=by
 have hsb:=Qce ha hb;refine Ft func191 rfl ?_;refine Ub [.k (Qmq ha hb)] rfl ?_;obtain ⟨n,hn⟩:=nmE (Pp a b);rw [<-hn] at h hsb ⊢;refine sb [(10,.v (.oi 0)),(9,.v (.oi n)),(5,.v (.one (.ow 3 0))),(4,.v (.one (.ow 2 0))),(3,.v (.one (.ow 1 0))),(2,.v (.one (.ow 0 0)))] [.blk 189 (ta a),.blk 189 (ta b),.blk 189 zTm,.blk 189 zTm] rfl rfl ?_;refine Ug (S:=Nat×Tm×Tm) 4 (λL1 s=>(10,.v (.oi (s.1:Int)))::L1) (λs=>[.blk 189 (ta s.2.1),.blk 189 (ta s.2.2),.blk 189 zTm,.blk 189 zTm]) (λs=>n-s.1) (λs=>s.1<=n/\Tb s.2.1/\Tb s.2.2/\EH (n-s.1) s.2.1 s.2.2=some r) (0,a,b) ⟨Qh _,ha,hb,h⟩ rfl rfl λ⟨i,u,v⟩ ⟨j1,j2,j3,j4⟩=>?_
 dsimp only at j1 j2 j3 j4 ⊢;by_cases hi:i<n
 ·obtain ⟨k,hk⟩:∃ k,n-i=k+1:=⟨n-i-1,by omega⟩;have hk':n-(i+1)=k:=by omega
  rw [hk] at j4;have c1:=Bv j2.hi.s31 j3.lo.s31;have c2:=Bv j3.hi.s31 j2.lo.s31;have pu:=Ds j2;have pv:=Ds j3;have hlt:decide ((i:Int)<(n:Int))=true:=by simp; omega
  simp only [EH] at j4;refine Ub [.t hlt] rfl ?_;refine ct 3 (S:=Unit) (λ_=>[(10,.v (.oi i)),(9,.v (.oi n)),(5,.v (.one (.ow 3 0))),(4,.v (.one (.ow 2 0))),(3,.v (.one (.ow 1 0))),(2,.v (.one (.ow 0 0)))]) (λ_=>[.blk 189 (ta u),.blk 189 (ta v),.blk 189 zTm,.blk 189 zTm]) (λ_=>¬Do u v=true/\¬Do v u=true) rfl ?_ ?_
  ·have bA:Do u v=(decide (G7 u.hi v.lo<=0) && !(u.point && v.point && decide (G7 u.hi v.lo=0))):=by
    unfold Do; cases u.point <;> cases v.point <;> simp
   have bB:Do v u=(decide (G7 v.hi u.lo<=0) && !(u.point && v.point && decide (G7 v.hi u.lo=0))):=by
    unfold Do; cases u.point <;> cases v.point <;> simp
   obtain ⟨a0,A'⟩:∃ b,decide (G7 u.hi v.lo<=0)=b:=⟨_,rfl⟩;obtain ⟨b0,B'⟩:∃ b,decide (G7 v.hi u.lo<=0)=b:=⟨_,rfl⟩;obtain ⟨p0,P'⟩:∃ b,u.point=b:=⟨_,rfl⟩;obtain ⟨q0,Q'⟩:∃ b,v.point=b:=⟨_,rfl⟩;obtain ⟨x0,X'⟩:∃ b,decide (G7 u.hi v.lo=0)=b:=⟨_,rfl⟩;obtain ⟨y0,Y'⟩:∃ b,decide (G7 v.hi u.lo=0)=b:=⟨_,rfl⟩;rw [A',P',Q',X'] at bA;rw [B',P',Q',Y'] at bB;have r1:Do u v=true->(u,v,-1)=r:=λh=>by rw [if_pos h] at j4; injection j4
   have r2:¬Do u v=true->Do v u=true->(u,v,1)=r:=λh h'=>by rw [if_neg h,if_pos h'] at j4; injection j4
   clear j4;cases a0
   ·cases b0
    ·exact go tt [.k c1,.g 19 false A',.f rfl,.k c2,.g 45 false B',.f rfl] rfl trivial (rc () ⟨by rw [bA]; simp,by rw [bB]; simp⟩ rfl)
    ·cases p0
     ·obtain rfl:=r2 (by rw [bA]; simp) (by rw [bB]; rfl);exact Ud [.k c1,.g 19 false A',.f rfl,.k c2,.g 45 true B',.k pu,.g 48 false P',.g 52 false rfl,.t rfl] rfl
     ·cases q0
      ·obtain rfl:=r2 (by rw [bA]; simp) (by rw [bB]; rfl);exact Ud [.k c1,.g 19 false A',.f rfl,.k c2,.g 45 true B',.k pu,.g 48 true P',.k pv,.g 52 false Q',.t rfl] rfl
      ·cases y0
       ·obtain rfl:=r2 (by rw [bA]; simp) (by rw [bB]; rfl);exact Ud [.k c1,.g 19 false A',.f rfl,.k c2,.g 45 true B',.k pu,.g 48 true P',.k pv,.g 52 true Q',.k c2,.t (by simpa using Y')] rfl
       ·exact go tt [.k c1,.g 19 false A',.f rfl,.k c2,.g 45 true B',.k pu,.g 48 true P',.k pv,.g 52 true Q',.k c2,.f (by simpa using Y')] rfl trivial (rc () ⟨by rw [bA]; simp,by rw [bB]; simp⟩ rfl)
   ·cases p0
    ·obtain rfl:=r1 (by rw [bA]; rfl);exact Ud [.k c1,.g 19 true A',.k pu,.g 22 false P',.g 26 false rfl,.t rfl] rfl
    ·cases q0
     ·obtain rfl:=r1 (by rw [bA]; rfl);exact Ud [.k c1,.g 19 true A',.k pu,.g 22 true P',.k pv,.g 26 false Q',.t rfl] rfl
     ·cases x0
      ·obtain rfl:=r1 (by rw [bA]; rfl);exact Ud [.k c1,.g 19 true A',.k pu,.g 22 true P',.k pv,.g 26 true Q',.k c1,.t (by simpa using X')] rfl
      ·cases b0
       ·exact go tt [.k c1,.g 19 true A',.k pu,.g 22 true P',.k pv,.g 26 true Q',.k c1,.f (by simpa using X'),.k c2,.g 45 false B',.f rfl] rfl trivial (rc () ⟨by rw [bA]; simp,by rw [bB]; simp⟩ rfl)
       ·cases y0
        ·obtain rfl:=r2 (by rw [bA]; simp) (by rw [bB]; rfl);exact Ud [.k c1,.g 19 true A',.k pu,.g 22 true P',.k pv,.g 26 true Q',.k c1,.f (by simpa using X'),.k c2,.g 45 true B',.k pu,.g 48 true P',.k pv,.g 52 true Q',.k c2,.t (by simpa using Y')] rfl
        ·exact go tt [.k c1,.g 19 true A',.k pu,.g 22 true P',.k pv,.g 26 true Q',.k c1,.f (by simpa using X'),.k c2,.g 45 true B',.k pu,.g 48 true P',.k pv,.g 52 true Q',.k c2,.f (by simpa using Y')] rfl trivial (rc () ⟨by rw [bA]; simp,by rw [bB]; simp⟩ rfl)
  ·rintro _ ⟨n1,n2⟩
   rw [if_neg n1,if_neg n2] at j4;have qr:∀ {x y:Rat},Qb x->Qb y->Qs 2147483647 (LF x y):=λh1 h2=>Qoq h1 h2
   have cc:=Bv (qr j2.hi j2.lo) (qr j3.hi j3.lo);by_cases D:0<=G7 (LF u.hi u.lo) (LF v.hi v.lo)
   ·rw [if_pos D] at j4;obtain ⟨x,x1,x2⟩:=Qd.1 j4;refine Uc [.k (zL j2.hi j2.lo),.k (zL j3.hi j3.lo),.k cc,.t (by simpa using D),.k (pJ j2 x1)] rfl ?_;exact rd (i+1,x,v) (by dsimp only; omega) ⟨hi,yP j2 x1,j3,by dsimp only; rw [hk']; exact x2⟩ rfl
   ·rw [if_neg D] at j4;obtain ⟨x,x1,x2⟩:=Qd.1 j4;refine Uc [.k (zL j2.hi j2.lo),.k (zL j3.hi j3.lo),.k cc,.f (by simpa using D),.k (pJ j3 x1)] rfl ?_;exact rd (i+1,u,x) (by dsimp only; omega) ⟨hi,j2,yP j3 x1,by dsimp only; rw [hk']; exact x2⟩ rfl
 ·obtain rfl:i=n:=by omega
  rw [Kg] at j4;simp only [EH] at j4;injection j4 with j4; subst j4;exact Ud [.f (by simp)] rfl
theorem Qmp {a b:Rat} (ha:Qb a) (hb:Qb b):Uh 50 [.agg (rl a),.one (.row [rl b])] [.agg (rl (if 0<G7 b a then b else a))]:=by
 have ca:=PS (Uy a.num) (Uy (a.den:Int)) ha.s32.1 ha.s32.2;have cb:=PS (Uy b.num) (Uy (b.den:Int)) hb.s32.1 hb.s32.2;rw [Pe] at ca cb;have cc:=Bv hb.s31 ha.s31;refine Ft func50 rfl ?_;refine Ub [.k ca] rfl ?_;refine Ug (S:=Nat) 3 (λL1 i=>(12,.v (.oi i))::L1) (λi=>[.blk 40 (rl a),.blk 40 [.bool false,.nils,.bool false,.nils],.blk 40 (rl (if i=0 then a else if 0<G7 b a then b else a))]) (λi=>1-i) (λi=>i<=1) 0 (Qh _) rfl rfl λi hi=>?_
 rcases (show i=0\/i=1 by omega) with rfl | rfl
 ·by_cases h:0<G7 b a
  ·refine Ub [.t rfl,.x (i:=0) (xs:=rl b) rfl,.k cc,.t (by simpa using h),.k cb] rfl ?_ (by simp [Uw]);exact rd 1 (by omega) (by omega) (by rw [if_pos h]; rfl)
  ·refine Ub [.t rfl,.x (i:=0) (xs:=rl b) rfl,.k cc,.f (by simpa using h)] rfl ?_ (by simp [Uw]);exact rd 1 (by omega) (by omega) (by rw [if_neg h]; rfl)
 ·exact Ud [.f rfl] rfl
theorem VN {a b:Tm} {c:Int} (ha:Tb a) (hb:Tb b) (h:WL a b=some c):Uh 158 [.agg (ta a),.agg (ta b)] [.oi c]:=by
 have ca:=PP ha;have cb:=PP hb;have pa:=Ds ha;have pb:=Ds hb;unfold WL at h;by_cases h1:a.point=true
 ·rw [if_pos h1] at h;injection h with h; subst h;have:=Qmv b a.lo;exact Ue func158 rfl [.k ca,.k cb,.k pa,.t h1,.k (Cz hb ha.lo)] rfl rfl (by simp [Uw]; omega)
 rw [if_neg h1] at h;have h1:a.point=false:=by simpa using h1
 by_cases h2:b.point=true
 ·rw [if_pos h2] at h;injection h with h; subst h;exact Ue func158 rfl [.k ca,.k cb,.k pa,.f h1,.k pb,.t h2,.k (Cz ha hb.lo)] rfl
 rw [if_neg h2] at h;have h2:b.point=false:=by simpa using h2
 obtain ⟨lo,hlo⟩:=nmE (if 0<G7 b.lo a.lo then b.lo else a.lo);obtain ⟨hi,hhi⟩:=nmE (if G7 b.hi a.hi<0 then b.hi else a.hi);have h:(if G7 lo hi<0 then (jD a.p b.p).bind λg=>if 1<g.length/\UG g lo hi=true then some 0 else (EH (Pp a b) a b).bind λr=>some r.2.2 else (EH (Pp a b) a b).bind λr=>some r.2.2)=some c:=by rw [hlo,hhi]; exact h
 have qlo:Qb lo:=by rw [hlo]; split; exact hb.lo; exact ha.lo
 have qhi:Qb hi:=by rw [hhi]; split; exact hb.hi; exact ha.hi
 have cm:=Qmp ha.lo hb.lo;rw [<-hlo] at cm;have cc1:=Bv hb.hi.s31 ha.hi.s31;have cc2:=Bv qlo.s31 qhi.s31;refine Ft func158 rfl ?_;refine Ub [.k ca,.k cb,.k pa,.f h1,.k pb,.f h2,.k cm] rfl ?_;refine ct 2 (S:=Unit) (λ_=>[(6,.v (.one (.ow 3 0))),(5,.v (.one (.ow 2 0))),(4,.v (.oi 0)),(3,.v (.one (.ow 1 0))),(2,.v (.one (.ow 0 0)))]) (λ_=>[.blk 189 (ta a),.blk 189 (ta b),.blk 40 (rl lo),.blk 40 (rl hi)]) (λ_=>True) rfl ?_ ?_
 ·by_cases D:G7 b.hi a.hi<0
  ·rw [if_pos D] at hhi; subst hhi;exact go tt [.k cc1,.t (by simpa using D)] rfl trivial (rc () trivial rfl)
  ·rw [if_neg D] at hhi; subst hhi;exact go tt [.k cc1,.f (by simpa using D)] rfl trivial (rc () trivial rfl)
 ·rintro _ _
  by_cases D:G7 lo hi<0
  ·rw [if_pos D] at h;obtain ⟨g,g1,h⟩:=Qd.1 h;have cg:=Qdz ha.p hb.p g1;have pg:=Qh7 ha.p hb.p g1;have ch:=Qen pg qlo qhi;by_cases G:1<g.length
   ·by_cases R:UG g lo hi=true
    ·rw [if_pos ⟨G,R⟩] at h;injection h with h; subst h;exact Ud [.k cc2,.t (by simpa using D),.k cg,.k (Mk g),.g 58 true (by simp; omega),.k ch,.t R] rfl
    ·rw [if_neg λh=>R h.2] at h;obtain ⟨r,r1,h⟩:=Qd.1 h;injection h with h; subst h;exact Ud [.k cc2,.t (by simpa using D),.k cg,.k (Mk g),.g 58 true (by simp; omega),.k ch,.f (by simpa using R),.k (zP ha hb r1)] rfl
   ·rw [if_neg λh=>G h.1] at h;obtain ⟨r,r1,h⟩:=Qd.1 h;injection h with h; subst h;exact Ud [.k cc2,.t (by simpa using D),.k cg,.k (Mk g),.g 58 false (by simp; omega),.f rfl,.k (zP ha hb r1)] rfl
  ·rw [if_neg D] at h;obtain ⟨r,r1,h⟩:=Qd.1 h;injection h with h; subst h;exact Ud [.k cc2,.f (by simpa using D),.k (zP ha hb r1)] rfl
theorem Qli {p:Uk} {a:Tm} {s:Int} (hp:Pb p) (ha:Tb a) (h:FM p a=some s):Uh 203 [pr p,.agg (ta a)] [.oi s]:=by
 have ca:=PP ha;have pa:=Ds ha;have cn:=Hn hp.t hp.ln hp.bd;unfold FM at h;by_cases h0:p.length=0
 ·rw [if_pos h0] at h;injection h with h; subst h;exact Ue func203 rfl [.k cn,.k ca,.t (by simp; exact Qj h0)] rfl
 rw [if_neg h0] at h;have h0:p≠[]:=λe=>h0 (by rw [e]; rfl)
 by_cases h1:a.point=true
 ·rw [if_pos h1] at h;injection h with h; subst h;exact Ue func203 rfl [.k cn,.k ca,.f (by simpa using h0),.k pa,.t h1,.k (SN hp ha.lo)] rfl
 rw [if_neg h1] at h;have h1:a.point=false:=by simpa using h1
 obtain ⟨g,g1,h⟩:=Qd.1 h;have cg:=Qdz hp ha.p g1;have pg:=Qh7 hp ha.p g1;have ch:=Qen pg ha.lo ha.hi;by_cases G:1<g.length/\UG g a.lo a.hi=true
 ·rw [if_pos G] at h;injection h with h; subst h;exact Ue func203 rfl [.k cn,.k ca,.f (by simpa using h0),.k pa,.f h1,.k cg,.k (Mk g),.g 29 true (by simp; omega),.k ch,.t G.2] rfl
 rw [if_neg G] at h;obtain ⟨c,c1,h⟩:=Qd.1 h;obtain ⟨u,u1,h⟩:=Qd.1 h;injection h with h; subst h;obtain ⟨cl,call⟩:=chain_ok hp c1;obtain ⟨n,hn⟩:=nmE (64+2*(Fa a.lo.num+Fa a.hi.num)+4*(a.p.length+p.length)*(Gz a.p+Gz p+(a.p.length+p.length)+8));have cst:=Qe3 ha hp;rw [show cV p a=n from hn.symm] at cst;rw [<-hn] at u1;have hnb:n<=17179938816+200000000:=by
  have l1:=ha.p.l;have l2:=hp.l;have b1:=ha.lo.1;have b2:=ha.hi.1;have s1:Gz a.p<=16777216:=by have:=P0 ha.p.b a.p.length; rwa [Q5] at this
  have s2:Gz p<=16777216:=by have:=P0 hp.b p.length; rwa [Q5] at this
  have:4*(a.p.length+p.length)*(Gz a.p+Gz p+(a.p.length+p.length)+8)<=512*33554568:=Zh (by omega) (by omega);omega
 refine Ft func203 rfl ?_;refine Ub [.k cn,.k ca,.f (by simpa using h0),.k pa,.f h1,.k cg] rfl ?_;refine ct 2 (S:=Unit) (λ_=>[(3,.v (.one (.ow 0 0))),(0,.v (pr p))]) (λ_=>[.blk 189 (ta a)]) (λ_=>True) rfl ?_ ?_
 ·by_cases G1:1<g.length
  ·exact go tt [.k (Mk g),.g 29 true (by simp; omega),.k ch,.f (by simpa using λh=>G ⟨G1,h⟩)] rfl trivial (rc () trivial rfl)
  ·exact go tt [.k (Mk g),.g 29 false (by simp; omega),.f rfl] rfl trivial (rc () trivial rfl)
 rintro _ _
 refine Ub [.k (Qd6 hp c1),.k cst] rfl ?_;refine Ug (S:=Nat×Tm) 1 (λL1 s=>(46,.v (.oi (s.1:Int)))::L1) (λs=>[.blk 189 (ta s.2)]) (λs=>n-s.1) (λs=>s.1<=n/\Tb s.2/\sgF c (n-s.1) s.2=some u) (0,a) ⟨Qh _,ha,u1⟩ rfl rfl λ⟨i,x⟩ ⟨j1,j2,j3⟩=>?_
 dsimp only at j1 j2 j3 ⊢;by_cases hi:i<n
 ·obtain ⟨k,hk⟩:∃ k,n-i=k+1:=⟨n-i-1,by omega⟩;have hk':n-(i+1)=k:=by omega
  rw [hk] at j3;simp only [sgF] at j3;have px:=Ds j2;have cb:=AU (by omega) call j2.lo j2.hi;have hlt:decide ((i:Int)<(n:Int))=true:=by simp; omega
  by_cases X:x.point=true
  ·rw [if_pos (.inl X)] at j3;injection j3 with j3; subst j3;exact Ud [.t hlt,.k px,.g 50 true X,.t rfl,.k (SN hp j2.hi)] rfl
  ·have X':x.point=false:=by simpa using X
   by_cases Z:Td c x.lo x.hi=0
   ·rw [if_pos (.inr Z)] at j3;injection j3 with j3; subst j3;exact Ud [.t hlt,.k px,.g 50 false X',.k cb,.t (by simpa using Z),.k (SN hp j2.hi)] rfl
   ·rw [if_neg (by rintro (h | h); exact X h; exact Z h)] at j3;obtain ⟨v,v1,v2⟩:=Qd.1 j3;refine Uc [.t hlt,.k px,.g 50 false X',.k cb,.f (by simpa using Z),.k (pJ j2 v1)] rfl ?_;exact rd (i+1,v) (by dsimp only; omega) ⟨hi,yP j2 v1,by dsimp only; rw [hk']; exact v2⟩ rfl
 ·obtain rfl:i=n:=by omega
  rw [Kg] at j3;simp only [sgF] at j3;injection j3 with j3; subst j3;exact Ud [.f (by simp),.k (SN hp j2.hi)] rfl
abbrev tas (l:List Tm):LV:=.row (l.map λt=>ta t)
theorem MC {l:List Tm} {i:Nat} {t:Tm} (h:l[i]? = some t):(l.map λt=>ta t)[i]? = some (ta t):=Gn h
def zTr:Up:=[.row [],.bool false,.row [],.bool false,.row [],.bool false,.row [],.bool false,.row []]
theorem kX:Uh 185 [.one (.row [])] [.agg zTr,.one (.bool false)]:=Ue func185 rfl [.t rfl] rfl
theorem Su {b:Tm} {l:List Tm} {m:Tm} (hb:Tb b) (hl:∀ t∈l,Tb t) (hn:l.length≤1000000) (h:QH b l=some m):Uh 185 [.one (tas (b::l))] [.agg (ta m),.one (.bool true)]:=by
 refine Ft func185 rfl ?_;refine go tt [.f (by simp; omega),.x (i:=0) (xs:=ta b) rfl,.i 1] rfl (by simp [Uw]; exact ⟨rfl,λ_ _=>rfl⟩) ?_;refine Ug (S:=Nat×Tm) 2 (λL1 s=>(17,.v (.oi (s.1:Int)))::L1) (λs=>[.blk 189 zTm,.blk 189 (ta s.2)]) (λs=>l.length-s.1) (λs=>s.1<=l.length/\Tb s.2/\QH s.2 (l.drop s.1)=some m) (0,b) ⟨Qh _,hb,h⟩ rfl rfl λ⟨i,x⟩ ⟨j1,j2,j3⟩=>?_
 dsimp only at j1 j2 j3 ⊢;by_cases hi:i<l.length
 ·obtain ⟨a,ha⟩:=gxE (l:=l) (i:=i) hi;have hdr:l.drop i=a::l.drop (i+1):=by
   rw [Zv hi]; congr 1;have:=Qe hi; rw [ha] at this; injection this with this; exact this.symm
  rw [hdr] at j3;simp only [QH] at j3;obtain ⟨c,c1,j3⟩:=Qd.1 j3;have ta':=hl a (Qa ha);by_cases hc:c<0
  ·rw [if_pos hc] at j3;refine Uc [.t (by simp; omega),.x (MC ha),.k (VN ta' j2 c1),.t (by simpa using hc)] rfl ?_;exact rd (i+1,a) (by dsimp only; omega) ⟨hi,ta',j3⟩ rfl
  ·rw [if_neg hc] at j3;refine Uc [.t (by simp; omega),.x (MC ha),.k (VN ta' j2 c1),.f (by simpa using hc)] rfl ?_;exact rd (i+1,x) (by dsimp only; omega) ⟨hi,j2,j3⟩ rfl
 ·obtain rfl:i=l.length:=by omega
  rw [Y9] at j3;simp only [QH] at j3;injection j3 with j3; subst j3;exact Ud [.f (by simp),.k (Qe7 j2)] rfl
end Orr
namespace Orq
def Fe (x:Rat):Rat:=if x<0 then -x else x
theorem Hm (x:Rat):0<=Fe x:=by unfold Fe; split <;> grind
theorem P6 {x b:Rat}:Fe x<=b↔-b<=x/\x<=b:=by unfold Fe; split <;> constructor <;> grind
theorem yX {x b:Rat}:Fe x<b↔-b<x/\x<b:=by unfold Fe; split <;> constructor <;> grind
theorem Tw (x y:Rat):Fe (x+y)<=Fe x+Fe y:=by unfold Fe; split <;> split <;> split <;> grind
theorem iU (x y:Rat):Fe (x-y)=Fe (y-x):=by unfold Fe; split <;> split <;> grind
theorem Ed (x:Rat):Fe (-x)=Fe x:=by unfold Fe; split <;> split <;> grind
theorem H8:Fe 0=0:=by decide
theorem Cf {x:Rat} (h:x≠0):0<Fe x:=by unfold Fe; split <;> grind
theorem Qoo {x:Rat} (h:Fe x=0):x=0:=by unfold Fe at h; split at h <;> grind
theorem Np {x y:Rat} (h1:0<=x) (h2:0<=y):0<=x*y:=Yq h1 h2
theorem Im {x y:Rat} (h1:0<x) (h2:0<y):0<x*y:=Xq h1 h2
theorem B9 {a b c d:Rat} (h0:0<=a) (h1:a<=b) (h2:0<=c) (h3:c<=d):a*c<=b*d:=by
 have e1:=Ze h1 h2;have e2:=Zu h3 (Zk h0 h1);exact Zk e1 e2
theorem Ia (x y:Rat):Fe (x*y)=Fe x*Fe y:=by
 unfold Fe;by_cases h1:x<0 <;> by_cases h2:y<0
 ·have:=Im (x:=-x) (y:=-y) (by grind) (by grind); simp only [h1,h2,if_true]; split <;> grind
 ·have:=Np (x:=-x) (y:=y) (by grind) (by grind); simp only [h1,h2,if_true,if_false]; split <;> grind
 ·have:=Np (x:=x) (y:=-y) (by grind) (by grind); simp only [h1,h2,if_true,if_false]; split <;> grind
 ·have:=Np (x:=x) (y:=y) (by grind) (by grind); simp only [h1,h2,if_false]; split <;> grind
theorem G6 {x y a b:Rat} (h1:Fe x<=a) (h2:Fe y<=b):Fe (x*y)<=a*b:=by
 rw [Ia]; exact B9 (Hm x) h1 (Hm y) h2
theorem E5 {x y:Rat} (h1:0<x) (h2:0<y):0<x / y:=by rw [X3]; exact Im h1 (Rat.inv_pos.2 h2)
theorem G8 {x y:Rat} (h2:0<y):x / y*y=x:=Zi (by grind)
theorem Hb {b d:Rat} (hb:0<=b) (hd:0<d):∃ e:Rat,0<e/\e<=1/\e*b<d:=by
 have h1:0<d / (b+1):=E5 hd (by grind);have h2:d / (b+1)*(b+1)=d:=G8 (by grind);rcases Vx (a:=d / (b+1)) (b:=1) with h | h
 ·exact ⟨d / (b+1),h1,h,by
   have:d / (b+1)*(b+1)=d / (b+1)*b+d / (b+1):=by grind
   grind⟩
 ·refine ⟨1,by decide,by decide,?_⟩;have:1*(b+1)<=d / (b+1)*(b+1):=Ze h (by grind);grind
def ev:Un->Rat->Rat
 | [],_=>0
 | a::p,t=>a+t*ev p t
def dv:Un->Rat->Rat
 | [],_=>0
 | _::p,t=>ev p t+t*dv p t
def dq:Un->Rat->Rat->Rat
 | [],_,_=>0
 | _::p,x,y=>ev p x+y*dq p x y
def dd:Un->Rat->Rat->Rat
 | [],_,_=>0
 | _::p,x,y=>dq p x y+y*dd p x y
theorem IK (x y:Rat):∀ p,ev p x-ev p y=(x-y)*dq p x y
 | []=>by simp only [ev,dq]; grind
 | a::p=>by have:=IK x y p; simp only [ev,dq]; grind
theorem xQ (y:Rat):∀ p,dq p y y=dv p y
 | []=>rfl
 | a::p=>by simp only [dq,dv,xQ y p]
theorem Qqs (x y:Rat):∀ p,dq p x y-dv p y=(x-y)*dd p x y
 | []=>by simp only [dv,dq,dd]; grind
 |
  a::p=>by
  have h1:=Qqs x y p;have h2:=IK x y p;simp only [dv,dq,dd]; grind
theorem Qqv (p:Un) (x y:Rat):ev p x-ev p y=(x-y)*dv p y+(x-y)*(x-y)*dd p x y:=by
 have h1:=IK x y p;have h2:=Qqs x y p;grind
def uZ (R:Rat):Un->Rat
 | []=>0
 | a::p=>Fe a+R*uZ R p
def EP (R:Rat):Un->Rat
 | []=>0
 | _::p=>uZ R p+R*EP R p
def ddB (R:Rat):Un->Rat
 | []=>0
 | _::p=>EP R p+R*ddB R p
theorem ZE {R:Rat} (hR:0<=R):∀ p,0<=uZ R p
 | []=>by simp only [uZ]; grind
 | a::p=>by have:=Np hR (ZE hR p); have:=Hm a; simp only [uZ]; grind
theorem Mp {R:Rat} (hR:0<=R):∀ p,0<=EP R p
 | []=>by simp only [EP]; grind
 | a::p=>by have:=Np hR (Mp hR p); have:=ZE hR p; simp only [EP]; grind
theorem BW {R:Rat} (hR:0<=R):∀ p,0<=ddB R p
 | []=>by simp only [ddB]; grind
 | a::p=>by have:=Np hR (BW hR p); have:=Mp hR p; simp only [ddB]; grind
theorem TS {R x:Rat} (hx:Fe x<=R):∀ p,Fe (ev p x)<=uZ R p
 | []=>by simp only [ev,uZ,H8]; grind
 |
  a::p=>by
  have h1:=Tw a (x*ev p x);have h2:=G6 hx (TS hx p);simp only [ev,uZ]; grind
theorem wP {R x y:Rat} (hx:Fe x<=R) (hy:Fe y<=R):∀ p,Fe (dq p x y)<=EP R p
 | []=>by simp only [dq,EP,H8]; grind
 |
  a::p=>by
  have h1:=Tw (ev p x) (y*dq p x y);have h2:=G6 hy (wP hx hy p);have h3:=TS hx p;simp only [dq,EP]; grind
theorem Qfo {R x y:Rat} (hx:Fe x<=R) (hy:Fe y<=R):∀ p,Fe (dd p x y)<=ddB R p
 | []=>by simp only [dd,ddB,H8]; grind
 |
  a::p=>by
  have h1:=Tw (dq p x y) (y*dd p x y);have h2:=G6 hy (Qfo hx hy p);have h3:=wP hx hy p;simp only [dd,ddB]; grind
theorem Qtk {R x y:Rat} (hx:Fe x<=R) (hy:Fe y<=R) (p:Un):Fe (ev p x-ev p y)<=Fe (x-y)*EP R p:=by
 rw [IK,Ia]; exact B9 (Hm _) Qp (Hm _) (wP hx hy p)
def Tx:Un->Un->Un
 | [],q=>q
 | a::p,[]=>a::p
 | a::p,b::q=>(a+b)::Tx p q
def Dm (c:Rat) (p:Un):Un:=p.map (c * ·)
def Gw:Un->Un->Un
 | [],_=>[]
 | a::p,q=>Tx (Dm a q) (0::Gw p q)
def Nu:Un->Un
 | []=>[]
 | _::p=>Tx p (0::Nu p)
theorem Gt (t:Rat):∀ p q,ev (Tx p q) t=ev p t+ev q t
 | [],q=>by simp only [Tx,ev]; grind
 | a::p,[]=>by simp only [Tx,ev]; grind
 | a::p,b::q=>by have:=Gt t p q; simp only [Tx,ev]; grind
theorem Gk (c t:Rat):∀ p,ev (Dm c p) t=c*ev p t
 | []=>by simp only [Dm,X7,ev]; grind
 | a::p=>by have:=Gk c t p; simp only [Dm,Z1,ev] at *; grind
theorem Fb (t:Rat):∀ p q,ev (Gw p q) t=ev p t*ev q t
 | [],q=>by simp only [Gw,ev]; grind
 | a::p,q=>by have:=Fb t p q; simp only [Gw,Gt,Gk,ev]; grind
theorem Te (t:Rat):∀ p,ev (Nu p) t=dv p t
 | []=>rfl
 | a::p=>by have:=Te t p; simp only [Nu,Gt,ev,dv]; grind
theorem xX (t:Rat):∀ p q,dv (Tx p q) t=dv p t+dv q t
 | [],q=>by simp only [Tx,dv]; grind
 | a::p,[]=>by simp only [Tx,dv]; grind
 | a::p,b::q=>by have:=xX t p q; have:=Gt t p q; simp only [Tx,dv]; grind
theorem HZ (c t:Rat):∀ p,dv (Dm c p) t=c*dv p t
 | []=>by simp only [Dm,X7,dv]; grind
 | a::p=>by have:=HZ c t p; have:=Gk c t p; simp only [Dm,Z1,dv] at *; grind
theorem xJ (t:Rat):∀ p q,dv (Gw p q) t=dv p t*ev q t+ev p t*dv q t
 | [],q=>by simp only [Gw,dv,ev]; grind
 | a::p,q=>by have:=xJ t p q; have:=Fb t p q; simp only [Gw,xX,HZ,dv,ev]; grind
theorem lN:∀ {p:Un},(∀ x∈p,x=0)->∀ t,ev p t=0
 | [],_,t=>rfl
 |
  a::p,h,t=>by
  have h1:=lN (p:=p) (λx hx=>h x (Qg _ hx)) t;have h2:=h a (Qy ..);simp only [ev,h1,h2]; grind
theorem lR:∀ {p:Un},(∀ x∈p,x=0)->∀ t,dv p t=0
 | [],_,t=>rfl
 |
  a::p,h,t=>by
  have h0:=λx hx=>h x (Qg _ hx)
  have h1:=lN (p:=p) h0 t;have h2:=lR (p:=p) h0 t;simp only [dv,h1,h2]; grind
theorem WY:∀ {p:Un},(∀ t,0<t->t<1->ev p t=0)->∀ x∈p,x=0
 | [],_=>λx hx=>by cases hx
 |
  a::p,h=>by
  have ha:a=0:=by
   rcases Classical.em (a=0) with h0 | h0
   ·exact h0
   ·obtain ⟨e,e1,e2,e3⟩:=Hb (ZE (R:=1) (by decide) p) (Cf h0);obtain ⟨f,f1,f2,f3⟩:=Hb (b:=1) (d:=e) (by decide) e1;have h1:=h f f1 (by grind);have h2:=TS (R:=1) (x:=f) (by unfold Fe; split <;> grind) p;have h3:=Ia f (ev p f);have h4:Fe f=f:=by unfold Fe; split <;> grind
    have h5:a=-(f*ev p f):=by simp only [ev] at h1; grind
    have h6:Fe a=f*Fe (ev p f):=by rw [h5,Ed,h3,h4]
    have h7:f*Fe (ev p f)<=e*uZ 1 p:=B9 (Qt f1) (by grind) (Hm _) h2;grind
  intro x hx;rcases Ql.1 hx with rfl | hx
  ·exact ha
  ·refine WY (p:=p) (λt h1 h2=>?_) x hx;have:=h t h1 h2;simp only [ev,ha] at this;have h3:t*ev p t=0:=by grind
   rcases Y0.1 h3 with h4 | h4
   ·grind
   ·exact h4
theorem Qfw {p q:Un} (h:∀ t,ev p t=ev q t) (t:Rat):dv p t=dv q t:=by
 have h1:=lR (p:=Tx p (Dm (-1) q)) (WY λt _ _=>by rw [Gt,Gk,h t]; grind) t;rw [xX,HZ] at h1; grind
def U9 (x:Rat):Int:=if x<0 then -1 else if 0<x then 1 else 0
theorem Gg {x:Rat}:U9 x=0↔x=0:=by
 unfold U9; constructor
 ·intro h; split at h <;> (try split at h) <;> grind
 ·intro h; subst h; rfl
theorem Ho {x:Rat}:U9 x=1↔0<x:=by
 unfold U9; constructor
 ·intro h; split at h <;> (try split at h) <;> grind
 ·intro h; rw [if_neg (by grind),if_pos h]
theorem Sy {x:Rat}:U9 x=-1↔x<0:=by
 unfold U9; constructor
 ·intro h; split at h <;> (try split at h) <;> grind
 ·intro h; rw [if_pos h]
theorem Fp (x:Rat):U9 x=-1/\x<0\/U9 x=0/\x=0\/U9 x=1/\0<x:=by
 rcases Vx (a:=x) (b:=0) with h | h
 ·rcases Classical.em (x=0) with h0 | h0
  ·exact .inr (.inl ⟨Gg.2 h0,h0⟩)
  ·exact .inl ⟨Sy.2 (by grind),by grind⟩
 ·rcases Classical.em (x=0) with h0 | h0
  ·exact .inr (.inl ⟨Gg.2 h0,h0⟩)
  ·exact .inr (.inr ⟨Ho.2 (by grind),by grind⟩)
theorem Ty (x y:Rat):U9 (x*y)=U9 x*U9 y:=by
 rcases Fp x with ⟨e1,h1⟩ | ⟨e1,h1⟩ | ⟨e1,h1⟩ <;> rcases Fp y with ⟨e2,h2⟩ | ⟨e2,h2⟩ | ⟨e2,h2⟩ <;> rw [e1,e2]
 ·have:=Im (x:=-x) (y:=-y) (by grind) (by grind); exact Ho.2 (by grind)
 ·subst h2; exact Gg.2 (by grind)
 ·have:=Im (x:=-x) (y:=y) (by grind) (by grind); exact Sy.2 (by grind)
 ·subst h1; exact Gg.2 (by grind)
 ·subst h1; exact Gg.2 (by grind)
 ·subst h1; exact Gg.2 (by grind)
 ·have:=Im (x:=x) (y:=-y) (by grind) (by grind); exact Sy.2 (by grind)
 ·subst h2; exact Gg.2 (by grind)
 ·exact Ho.2 (Im h1 h2)
theorem Pk {a b d:Rat} (h1:d<=Fe a) (h2:Fe (b-a)<d):U9 b=U9 a/\U9 a≠0:=by
 rw [yX] at h2;rcases Fp a with ⟨e,h⟩ | ⟨e,h⟩ | ⟨e,h⟩
 ·rw [e,Sy]; unfold Fe at h1; rw [if_pos h] at h1; exact ⟨by grind,by decide⟩
 ·subst h; rw [H8] at h1; grind
 ·rw [e,Ho]; unfold Fe at h1; rw [if_neg (by grind)] at h1; exact ⟨by grind,by decide⟩
def tc (x:Rat):Int->Uo->Nat
 | _,[]=>0
 | s,p::l=>if U9 (ev p x)=0 then tc x s l else (if s=-(U9 (ev p x)) then 1 else 0)+tc x (U9 (ev p x)) l
inductive SCl:List Rat->List Rat->List (List Rat)->Prop
 | base {f g:List Rat} {c:Rat} (hc:c≠0) (hg:∀ t,ev g t=c):SCl f g []
 | step {f g h:List Rat} {l:List (List Rat)} {a b:Rat} {q:List Rat} (ha:0<a) (hb:0<b) (he:∀ t,a*ev f t=ev q t*ev g t-b*ev h t) (hl:SCl g h l):SCl f g (h::l)
theorem Qj0 {x:Rat} {s:Int} {g h:Un} {l:Uo} (hh:U9 (ev h x)=-s) (hs:s≠0):tc x s (g::h::l)=1+tc x (-s) l:=by
 have h3:U9 (ev h x)≠0:=by omega
 have hv:s=1\/s=-1:=by rcases Fp (ev h x) with ⟨e,_⟩ | ⟨e,_⟩ | ⟨e,_⟩ <;> omega
 simp only [tc,if_neg h3,hh];rcases Fp (ev g x) with ⟨e,_⟩ | ⟨e,_⟩ | ⟨e,_⟩ <;> rw [e] <;> rcases hv with rfl | rfl <;> simp
theorem FD {x:Rat} {s:Int} {p:Un} {l:Uo} (h:U9 (ev p x)≠0):tc x s (p::l)=(if s=-(U9 (ev p x)) then 1 else 0)+tc x (U9 (ev p x)) l:=by rw [tc,if_neg h]
theorem Py {R x y e d:Rat} {p:Un} (hx:Fe x<=R) (hy:Fe y<=R) (hR:0<=R) (h:Fe (y-x)<=e) (hd:e*EP R p<d):Fe (ev p y-ev p x)<d:=by
 have h1:=Qtk hy hx p;have h2:=Ze h (Mp hR p);grind
theorem OU {a x y:Rat} (ha:0<a) (h:a*x<a*y):x<y:=by
 rcases Vx (a:=y) (b:=x) with h' | h'
 ·have:=Zu h' (Qt ha); grind
 ·rcases Classical.em (x=y) with e | e
  ·subst e; grind
  ·grind
theorem Qu4 {a b d d' B f g h q:Rat} (ha:0<a) (hb:0<b) (dp:0<d) (h7:B*d+a*d<b*d') (hq:Fe q<=B) (hg:Fe g<d) (hh:d'<=Fe h) (he:a*f=q*g-b*h) (hd':0<d'):U9 h=-U9 f/\d<=Fe f:=by
 have h4:=G6 hq (Qt hg);rw [P6] at h4;have had:=Im ha dp;have h8:=Zu hh (Qt hb);rcases Fp h with ⟨s,p⟩ | ⟨s,p⟩ | ⟨s,p⟩
 ·have:Fe h=-h:=by unfold Fe; rw [if_pos p]
  rw [this] at h8;have h10:d<f:=OU ha (by grind);rw [s,Ho.2 (show 0<f by grind)];exact ⟨rfl,by unfold Fe; split <;> grind⟩
 ·rw [p,H8] at hh; grind
 ·have:Fe h=h:=by unfold Fe; rw [if_neg (by grind)]
  rw [this] at h8;have h10:f < -d:=OU ha (by grind);rw [s,Sy.2 (show f<0 by grind)];exact ⟨rfl,by unfold Fe; split <;> grind⟩
theorem min2 {a b:Rat} (ha:0<a) (hb:0<b):∃ e:Rat,0<e/\e<=a/\e<=b:=by
 rcases Vx (a:=a) (b:=b) with h | h
 ·exact ⟨a,ha,Qp,h⟩
 ·exact ⟨b,hb,h,Qp⟩
theorem Fx (a b:Rat):a<=b\/b<a:=by
 rcases Vx (a:=a) (b:=b) with h | h
 ·exact .inl h
 ·rcases Classical.em (a=b) with e | e
  ·exact .inl (by grind)
  ·exact .inr (by grind)
theorem Qt6 {R:Rat} (hR:0<=R) {f g:Un} {l:Uo} (hc:SCl f g l):∃ d e:Rat,0<d/\0<e/\∀ x y,Fe x<=R->Fe y<=R->Fe (y-x)<=e ->
 (d<=Fe (ev f x)\/d<=Fe (ev g x))/\(d<=Fe (ev f x)->U9 (ev f y)=U9 (ev f x)/\U9 (ev f x)≠0)/\(d<=Fe (ev g x)->U9 (ev g y)=U9 (ev g x)/\U9 (ev g x)≠0) /\
 (U9 (ev f y)=U9 (ev f x)->U9 (ev f x)≠0->tc x (U9 (ev f x)) (g::l)=tc y (U9 (ev f x)) (g::l)) /\
 (U9 (ev g y)=U9 (ev g x)->U9 (ev g x)≠0->tc x (U9 (ev g x)) l=tc y (U9 (ev g x)) l):=by
 induction hc with
 |
  @base f g c hc hg =>
  have hd:=Cf hc;obtain ⟨e,e1,e2,e3⟩:=Hb (Mp hR f) hd;refine ⟨Fe c,e,hd,e1,λx y hx hy hxy=>⟨.inr (by rw [hg]; exact Qp),λh=>Pk h (Py hx hy hR hxy e3),λh=>?_,λ_ _=>?_,λ_ _=>rfl⟩⟩
  ·rw [hg,hg]; exact ⟨rfl,λh=>hc (Gg.1 h)⟩
  ·simp only [tc,hg]
 |
  @step f g h l a b q ha hb he hl ih =>
  obtain ⟨d',e',hd',he',ih⟩:=ih;obtain ⟨d1,d1p,_,d1b⟩:=Hb (b:=uZ R q+a) (d:=b*d') (by have:=ZE hR q; grind) (Im hb hd');obtain ⟨d,dp,hd1,hdd⟩:=min2 d1p hd';obtain ⟨ef,ef1,_,ef3⟩:=Hb (Mp hR f) dp;obtain ⟨eg,eg1,_,eg3⟩:=Hb (Mp hR g) dp;obtain ⟨e0,e0p,h1,h2⟩:=min2 ef1 eg1;obtain ⟨e,ep,h0,h3⟩:=min2 e0p he';have h1:=Zk h0 h1;have h2:=Zk h0 h2;refine ⟨d,e,dp,ep,λx y hx hy hxy=>?_⟩;obtain ⟨i1,i2,i3,i4,i5⟩:=ih x y hx hy (Zk hxy h3);have hsm:Fe (ev g x)<d->d'<=Fe (ev h x)/\U9 (ev h x)=-U9 (ev f x)/\d<=Fe (ev f x):=λhg=>by
   have hh:d'<=Fe (ev h x):=by
    rcases i1 with i | i
    ·exact absurd (Zk hdd i) (Jq.2 hg)
    ·exact i
   have h6:d*(uZ R q+a)<=d1*(uZ R q+a):=Ze hd1 (by have:=ZE hR q; clear ih i1 i2 i3 i4 i5 he; grind);have h7:uZ R q*d+a*d<b*d':=by clear ih i1 i2 i3 i4 i5 he; grind
   exact ⟨hh,Qu4 ha hb dp h7 (TS hx q) hg hh (he x) hd'⟩
  have hfs:d<=Fe (ev f x)->U9 (ev f y)=U9 (ev f x)/\U9 (ev f x)≠0:=λh=>Pk h (Py hx hy hR (Zk hxy h1) ef3)
  have hgs:d<=Fe (ev g x)->U9 (ev g y)=U9 (ev g x)/\U9 (ev g x)≠0:=λh=>Pk h (Py hx hy hR (Zk hxy h2) eg3)
  refine ⟨?_,hfs,hgs,λs1 s2=>?_,i4⟩
  ·rcases Fx d (Fe (ev g x)) with h | h
   ·exact .inr h
   ·exact .inl (hsm h).2.2
  ·rcases Fx d (Fe (ev g x)) with h | h
   ·obtain ⟨g1,g2⟩:=hgs h;rw [FD (x:=x) (p:=g) g2,FD (x:=y) (p:=g) (by rw [g1]; exact g2),g1,i4 g1 g2]
   ·obtain ⟨h4,h5,_⟩:=hsm h;obtain ⟨h6,h7⟩:=i3 h4;have i5:=i5 h6 h7;rw [Qj0 h5 s2,Qj0 (h6.trans h5) s2,<-h5,i5]
def Pf (p:Un) (x:Rat):Int:=if U9 (ev p x)≠0 then U9 (ev p x) else U9 (dv p x)
def vv (L:Uo) (x:Rat):Nat:=tc x 0 L
def GW (f:Un) (L:Uo):Prop:=(∃ c:Rat,c≠0/\(∀ t,ev f t=c)/\L=[f])\/∃ g l,∃ k:Rat,0<k/\(∀ t,ev g t=k*dv f t)/\SCl f g l/\L=f::g::l
structure Sm (w:List Rat) (x y:Rat):Prop where
 s:U9 (ev w y)=Pf w x
 l:Pf w y=Pf w x
 n:Pf w x≠0
theorem Af {p:Un} {x:Rat} (h:U9 (ev p x)≠0):Pf p x=U9 (ev p x):=by unfold Pf; rw [if_pos h]
theorem mE {p:Un} {x:Rat} (h:U9 (ev p x)=0):Pf p x=U9 (dv p x):=by unfold Pf; rw [if_neg (by simpa using h)]
theorem rP {p:Un} {x y:Rat} (h:U9 (ev p y)=U9 (ev p x)) (h0:U9 (ev p x)≠0):Sm p x y:=by
 have h1:=Af h0;have h2:=Af (p:=p) (x:=y) (by rw [h]; exact h0);exact ⟨by rw [h,h1],by rw [h2,h1,h],by rw [h1]; exact h0⟩
theorem QK {f w u:Un} (h:∀ t,ev f t=ev w t*ev u t) (x:Rat):dv f x=dv w x*ev u x+ev w x*dv u x:=by
 rw [<-xJ]; exact Qfw (λt=>by rw [h,Fb]) x
theorem aX {f w u:Un} {x:Rat} (h:∀ t,ev f t=ev w t*ev u t) (hu:U9 (ev u x)≠0):Pf f x=Pf w x*U9 (ev u x):=by
 by_cases hw:U9 (ev w x)=0
 ·have hw0:=Gg.1 hw;have e1:ev f x=0:=by rw [h,hw0]; grind
  have e2:dv f x=dv w x*ev u x:=by rw [QK h,hw0]; grind
  rw [mE hw,mE (Gg.2 e1),e2,Ty]
 ·have e1:U9 (ev f x)=U9 (ev w x)*U9 (ev u x):=by rw [h,Ty]
  rw [Af hw,Af (by rw [e1]; exact Jn hw hu),e1]
theorem Qu5 {f w u:Un} {x y:Rat} (h:∀ t,ev f t=ev w t*ev u t) (hu:U9 (ev u y)=U9 (ev u x)) (h0:U9 (ev u x)≠0) (hf:Sm f x y):Sm w x y:=by
 have e1:=aX h h0;have e2:=aX (x:=y) h (by rw [hu]; exact h0);have e3:U9 (ev f y)=U9 (ev w y)*U9 (ev u y):=by rw [h,Ty]
 obtain ⟨s,l,n⟩:=hf;rw [hu] at e2 e3;refine ⟨?_,?_,λh=>n (by rw [e1,h,Yx])⟩
 ·rw [e3,e1] at s; exact Y3 h0 s
 ·rw [e2,e1] at l; exact Y3 h0 l
theorem tc0 {x:Rat} {s:Int} {f g:Un} {l:Uo} (h:U9 (ev g x)=s) (hs:s≠0):tc x 0 (f::g::l)=(if U9 (ev f x)=-s then 1 else 0)+tc x s l:=by
 have hv:s=1\/s=-1:=by rcases Fp (ev g x) with ⟨e,_⟩ | ⟨e,_⟩ | ⟨e,_⟩ <;> omega
 have hg:U9 (ev g x)≠0:=by omega
 rw [tc];rcases Fp (ev f x) with ⟨e,_⟩ | ⟨e,_⟩ | ⟨e,_⟩ <;> rw [e] <;> rcases hv with rfl | rfl <;> simp [FD hg,h]
theorem CO {R x y e d:Rat} {p:Un} (hx:Fe x<=R) (hy:Fe y<=R) (hR:0<=R) (hxy:x<y) (h:y-x<=e) (hd:d<=Fe (dv p x)) (he:e*ddB R p<d):U9 (ev p y-ev p x)=U9 (dv p x):=by
 have h1:=Qqv p y x;have h2:ev p y-ev p x=(y-x)*(dv p x+(y-x)*dd p y x):=by rw [h1]; grind
 have h3:=G6 (x:=y-x) (y:=dd p y x) (a:=e) (b:=ddB R p) (by rw [P6]; constructor <;> grind) (Qfo hy hx p);have h4:=Pk (b:=dv p x+(y-x)*dd p y x) hd (by
  have:dv p x+(y-x)*dd p y x-dv p x=(y-x)*dd p y x:=by grind
  rw [this]; exact Jq.1 λh=>absurd (Zk h h3) (Jq.2 he))
 rw [h2,Ty,Ho.2 (show 0<y-x by grind),h4.1,Kq]
def Qc0 (f w:Un) (L:Uo) (x y:Rat):Prop :=
 (vv L x=vv L y/\Sm f x y/\Sm w x y)\/(vv L x=vv L y+1/\Pf f x≠0/\Pf f y=-Pf f x/\U9 (ev f x)=Pf f x/\(U9 (ev f y)=0\/U9 (ev f y)=-Pf f x))
theorem Qqz {R d:Rat} (hR:0<=R) (hd:0<d) {f w u:Un} (h:∀ t,ev f t=ev w t*ev u t):∃ e:Rat,0<e/\∀ x y,Fe x<=R->Fe y<=R->Fe (y-x)<=e->d<=Fe (ev f x)->Sm f x y/\Sm w x y:=by
 obtain ⟨ef,ef1,_,ef3⟩:=Hb (Mp hR f) hd;obtain ⟨d1,d1p,_,d1b⟩:=Hb (ZE hR u) hd;obtain ⟨ew,ew1,_,ew3⟩:=Hb (Mp hR w) d1p;obtain ⟨e,ep,e1,e2⟩:=min2 ef1 ew1;refine ⟨e,ep,λx y hx hy hxy hf=>⟨?_,?_⟩⟩
 ·have:=Pk hf (Py hx hy hR (Zk hxy e1) ef3);exact rP this.1 this.2
 ·have hw:d1<=Fe (ev w x):=by
   rcases Fx d1 (Fe (ev w x)) with h' | h'
   ·exact h'
   ·have h5:=G6 (Qt h') (TS hx u);rw [<-h] at h5;exact absurd (Zk hf h5) (Jq.2 d1b)
  have:=Pk hw (Py hx hy hR (Zk hxy e2) ew3);exact rP this.1 this.2
theorem loc {R:Rat} (hR:0<=R) {f w u:Un} {L:Uo} (hc:GW f L) (h:∀ t,ev f t=ev w t*ev u t):∃ e:Rat,0<e/\∀ x y,Fe x<=R->Fe y<=R->x<y->y-x<=e->Qc0 f w L x y:=by
 rcases hc with ⟨c,hc,hf,rfl⟩ | ⟨g,l,k,hk,hg,hc,rfl⟩
 ·obtain ⟨e,ep,h1⟩:=Qqz hR (Cf hc) h;refine ⟨e,ep,λx y hx hy hxy he=>.inl ⟨?_,h1 x y hx hy (by rw [P6]; constructor <;> grind) (by rw [hf]; exact Qp)⟩⟩;simp only [vv,tc,hf]
 ·obtain ⟨d,e1,dp,e1p,h1⟩:=Qt6 hR hc;obtain ⟨e2,e2p,h2⟩:=Qqz hR dp h;obtain ⟨d3,d3p,_,d3b⟩:=Hb (b:=k) (d:=d) (Qt hk) dp;obtain ⟨e3,e3p,_,e3b⟩:=Hb (BW hR f) d3p;obtain ⟨d4,d4p,_,d4b⟩:=Hb (b:=EP R w+EP R u) (d:=d3) (by have:=Mp hR w; have:=Mp hR u; grind) d3p;obtain ⟨e4,e4p,_,e4b⟩:=Hb (Mp hR w) d4p;obtain ⟨e5,e5p,_,e5b⟩:=Hb (Mp hR u) d4p;obtain ⟨a1,a1p,a11,a12⟩:=min2 e1p e2p;obtain ⟨a2,a2p,a21,a22⟩:=min2 e3p e4p;obtain ⟨a3,a3p,a31,a32⟩:=min2 a1p a2p;obtain ⟨e,ep,b1,b2⟩:=min2 a3p e5p;refine ⟨e,ep,λx y hx hy hxy he=>?_⟩;have hab:Fe (y-x)<=e:=by rw [P6]; clear h1 h2; constructor <;> grind
  have hab1:Fe (y-x)<=e1:=by clear h1 h2; grind
  have hab2:Fe (y-x)<=e2:=by clear h1 h2; grind
  obtain ⟨i1,i2,i3,i4,i5⟩:=h1 x y hx hy hab1;rcases Fx d (Fe (ev f x)) with hf | hf
  ·obtain ⟨s1,s2⟩:=h2 x y hx hy hab2 hf;obtain ⟨j1,j2⟩:=i2 hf;refine .inl ⟨?_,s1,s2⟩;have:=i4 j1 j2;simp only [vv];rw [FD (x:=x) (p:=f) j2,FD (x:=y) (p:=f) (by rw [j1]; exact j2),j1,this]
  ·have hg1:d<=Fe (ev g x):=by
    rcases i1 with i | i
    ·exact absurd i (Jq.2 hf)
    ·exact i
   obtain ⟨g1,g2⟩:=i3 hg1;have i5:=i5 g1 g2;have hD:d3<=Fe (dv f x):=by
    rcases Fx d3 (Fe (dv f x)) with h' | h'
    ·exact h'
    ·have h5:=G6 (x:=k) (a:=k) (by unfold Fe; split <;> clear h1 h2 <;> grind) (Rat.le_of_lt h');rw [<-hg] at h5;have:k*d3=d3*k:=by grind
     exact absurd (Zk hg1 h5) (Jq.2 (by rw [this]; exact d3b))
   have hm:=CO hx hy hR hxy (by clear h1 h2; grind:y-x<=e3) hD e3b;have s1:U9 (ev g x)=U9 (dv f x):=by rw [hg,Ty,Ho.2 hk,Kq]
   have s2:U9 (ev g y)=U9 (dv f y):=by rw [hg,Ty,Ho.2 hk,Kq]
   obtain ⟨s,hs⟩:=nmE (U9 (ev g x));rw [<-hs] at g1 g2 i5 s1;rw [g1] at s2;have v1:=tc0 (f:=f) (l:=l) hs.symm g2;have v2:=tc0 (f:=f) (l:=l) g1 g2;rw [<-i5] at v2;rw [<-s1] at hm;have hw:Sm f x y->Sm w x y:=λhf=>by
    rcases Fx d4 (Fe (ev u x)) with hu | hu
    ·have hu:=Pk hu (Py hx hy hR (Zk hab b2) e5b);exact Qu5 h hu.1 hu.2 hf
    ·have hw:d4<=Fe (ev w x):=by
      rcases Fx d4 (Fe (ev w x)) with h' | h'
      ·exact h'
      ·have q1:=G6 (x:=dv w x) (y:=ev u x) (a:=EP R w) (by rw [<-xQ]; exact wP hx hx w) (Qt hu);have q2:=G6 (x:=ev w x) (y:=dv u x) (b:=EP R u) (Qt h') (by rw [<-xQ]; exact wP hx hx u);have q3:=Tw (dv w x*ev u x) (ev w x*dv u x);rw [<-QK h] at q3;have:d4*(EP R w+EP R u)=EP R w*d4+d4*EP R u:=by grind
       rw [this] at d4b;exact absurd (Zk hD (Zk q3 (by clear h1 h2; grind:_<=EP R w*d4+d4*EP R u))) (Jq.2 d4b)
     have hw:=Pk hw (Py hx hy hR (Zk hab (by clear h1 h2; grind)) e4b);exact rP hw.1 hw.2
   have lx:Pf f x=if U9 (ev f x)≠0 then U9 (ev f x) else s:=by rw [s1]; rfl
   have ly:Pf f y=if U9 (ev f y)≠0 then U9 (ev f y) else s:=by rw [s2]; rfl
   clear h1 h2 i1 i2 i3 i4;have hsv:s=1\/s=-1:=by rcases Fp (ev g x) with ⟨e,_⟩ | ⟨e,_⟩ | ⟨e,_⟩ <;> omega
   unfold Qc0;simp only [vv,v1,v2];rcases hsv with rfl | rfl
   ·have hm:=Ho.1 hm;rcases Fp (ev f x) with ⟨p1,p2⟩ | ⟨p1,p2⟩ | ⟨p1,p2⟩
    ·rcases Fp (ev f y) with ⟨q1,q2⟩ | ⟨q1,q2⟩ | ⟨q1,q2⟩
     ·rw [p1,q1]; have hsm:=rP (p:=f) (x:=x) (y:=y) (by rw [p1,q1]) (by rw [p1]; decide);exact .inl ⟨rfl,hsm,hw hsm⟩
     ·rw [lx,ly,p1,q1]; refine .inr ⟨by simp; omega,by decide,by decide,by decide,by decide⟩
     ·rw [lx,ly,p1,q1]; refine .inr ⟨by simp; omega,by decide,by decide,by decide,by decide⟩
    ·have q1:=Ho.2 (show 0<ev f y by grind);have hsm:Sm f x y:=⟨by rw [lx,q1,p1]; rfl,by rw [lx,ly,q1,p1]; rfl,by rw [lx,p1]; decide⟩;rw [p1,q1]; exact .inl ⟨rfl,hsm,hw hsm⟩
    ·have q1:=Ho.2 (show 0<ev f y by grind);have hsm:Sm f x y:=⟨by rw [lx,q1,p1]; rfl,by rw [lx,ly,q1,p1],by rw [lx,p1]; decide⟩;rw [p1,q1]; exact .inl ⟨rfl,hsm,hw hsm⟩
   ·have hm:=Sy.1 hm;rcases Fp (ev f x) with ⟨p1,p2⟩ | ⟨p1,p2⟩ | ⟨p1,p2⟩
    ·have q1:=Sy.2 (show ev f y<0 by grind);have hsm:Sm f x y:=⟨by rw [lx,q1,p1]; rfl,by rw [lx,ly,q1,p1],by rw [lx,p1]; decide⟩;rw [p1,q1]; exact .inl ⟨rfl,hsm,hw hsm⟩
    ·have q1:=Sy.2 (show ev f y<0 by grind);have hsm:Sm f x y:=⟨by rw [lx,q1,p1]; rfl,by rw [lx,ly,q1,p1]; rfl,by rw [lx,p1]; decide⟩;rw [p1,q1]; exact .inl ⟨rfl,hsm,hw hsm⟩
    ·rcases Fp (ev f y) with ⟨q1,q2⟩ | ⟨q1,q2⟩ | ⟨q1,q2⟩
     ·rw [lx,ly,p1,q1]; refine .inr ⟨by simp; omega,by decide,by decide,by decide,by decide⟩
     ·rw [lx,ly,p1,q1]; refine .inr ⟨by simp; omega,by decide,by decide,by decide,by decide⟩
     ·rw [p1,q1]; have hsm:=rP (p:=f) (x:=x) (y:=y) (by rw [p1,q1]) (by rw [p1]; decide);exact .inl ⟨rfl,hsm,hw hsm⟩
theorem Qy4 (z:Rat):∃ n:Nat,z<=(n:Rat):=by
 refine ⟨z.ceil.toNat,?_⟩;have h1:z<=(z.ceil:Rat):=Rat.le_ceil;have h2:(z.ceil:Rat)<=((z.ceil.toNat:Int):Rat):=Jc.2 (Int.self_le_toNat _);exact Zk h1 h2
theorem ZT {z e:Rat} (he:0<e):∃ n:Nat,z<=(n:Rat)*e:=by
 obtain ⟨n,hn⟩:=Qy4 (z / e);exact ⟨n,by have:=Ze hn (Qt he); rwa [G8 he] at this⟩
theorem UR {R x y t:Rat} (hx:Fe x<=R) (hy:Fe y<=R) (h1:x<=t) (h2:t<=y):Fe t<=R:=by
 rw [P6] at *; constructor <;> grind
def oH (f w:Un) (L:Uo) (x y:Rat):Prop :=
 vv L y<=vv L x/\(vv L x=vv L y->Sm f x y/\Sm w x y)/\(vv L x=vv L y+1->Pf f x≠0/\Pf f y=-Pf f x)
theorem aQ {f w:Un} {L:Uo} {x y:Rat} (h:Qc0 f w L x y):oH f w L x y:=by
 rcases h with ⟨h1,h2,h3⟩ | ⟨h1,h2,h3,_⟩
 ·exact ⟨by omega,λ_=>⟨h2,h3⟩,λh=>by omega⟩
 ·exact ⟨by omega,λh=>by omega,λ_=>⟨h2,h3⟩⟩
theorem rM {w:Un} {x y z:Rat} (h1:Sm w x y) (h2:Sm w y z):Sm w x z:=⟨by rw [h2.s,h1.l],by rw [h2.l,h1.l],h1.n⟩
theorem mD {f w:Un} {L:Uo} {x y z:Rat} (h:oH f w L x y) (h':oH f w L y z):oH f w L x z:=by
 obtain ⟨a1,a2,a3⟩:=h;obtain ⟨b1,b2,b3⟩:=h';refine ⟨by omega,λh=>?_,λh=>?_⟩
 ·obtain ⟨s1,s2⟩:=a2 (by omega);obtain ⟨s3,s4⟩:=b2 (by omega);exact ⟨rM s1 s3,rM s2 s4⟩
 ·by_cases e:vv L x=vv L y
  ·obtain ⟨s1,_⟩:=a2 e;obtain ⟨s3,s4⟩:=b3 (by omega);exact ⟨s1.n,by rw [s4,s1.l]⟩
  ·obtain ⟨s3,s4⟩:=a3 (by omega);obtain ⟨s1,_⟩:=b2 (by omega);exact ⟨s3,by rw [s1.l,s4]⟩
theorem Qtt {R:Rat} (hR:0<=R) {f w u:Un} {L:Uo} (hc:GW f L) (h:∀ t,ev f t=ev w t*ev u t) {x y:Rat} (hx:Fe x<=R) (hy:Fe y<=R) (hxy:x<y):oH f w L x y:=by
 obtain ⟨e,ep,hl⟩:=loc hR hc h;have key:∀ n:Nat,∀ x,Fe x<=R->x<y->y-x<=(n:Rat)*e->oH f w L x y:=by
  intro n
  induction n with
  | zero =>
   intro x hx hxy h; exfalso; have:((0:Nat):Rat)*e=0:=by simp
   grind
  |
   succ n ih =>
   intro x hx hxy hn;rcases Fx (y-x) e with h1 | h1
   ·exact aQ (hl x y hx hy hxy h1)
   ·have hm:Fe (x+e)<=R:=UR hx hy (by clear hl ih; grind) (by clear hl ih; grind);have hn':(((n+1:Nat):Rat))=(n:Rat)+1:=by push_cast; rfl
    refine mD (aQ (hl x (x+e) hx hm (by clear hl ih; grind) (by clear hl ih; grind))) (ih (x+e) hm (by clear hl ih; grind) ?_);rw [hn'] at hn;clear hl ih; grind
 obtain ⟨n,hn⟩:=ZT (z:=y-x) ep;exact key n x hx hxy hn
theorem zZ (x y:Rat):∃ R:Rat,0<=R/\Fe x<=R/\Fe y<=R:=by
 refine ⟨Fe x+Fe y,?_,?_,?_⟩ <;> (have:=Hm x; have:=Hm y; grind)
theorem Rt (t:Rat):ev [1] t=1:=by simp only [ev]; grind
theorem Ar {f:Un} {L:Uo} (hc:GW f L) {x y:Rat} (hxy:x<y):vv L y<=vv L x:=by
 obtain ⟨R,hR,hx,hy⟩:=zZ x y;exact (Qtt hR hc (w:=f) (u:=[1]) (λt=>by rw [Rt]; grind) hx hy hxy).1
theorem VT {f w u:Un} {L:Uo} (hc:GW f L) (h:∀ t,ev f t=ev w t*ev u t) {x y:Rat} (hxy:x<y) (he:vv L x=vv L y):Sm w x y:=by
 obtain ⟨R,hR,hx,hy⟩:=zZ x y;exact ((Qtt hR hc h hx hy hxy).2.1 he).2
theorem vQ {f:Un} {L:Uo} (hc:GW f L) {x y:Rat} (hxy:x<y) (he:vv L x=vv L y):Sm f x y :=
 VT hc (w:=f) (u:=[1]) (λt=>by rw [Rt]; grind) hxy he
theorem yO {f:Un} {L:Uo} (hc:GW f L) {x y:Rat} (hxy:x<y) (he:vv L x=vv L y+1):Pf f x≠0/\Pf f y=-Pf f x:=by
 obtain ⟨R,hR,hx,hy⟩:=zZ x y;exact (Qtt hR hc (w:=f) (u:=[1]) (λt=>by rw [Rt]; grind) hx hy hxy).2.2 he
theorem Qj9 {f:Un} {L:Uo} (hc:GW f L) (R:Rat) (hR:0<=R):∃ e:Rat,0<e/\∀ x y,Fe x<=R->Fe y<=R->x<y->y-x<=e->vv L x<=vv L y+1:=by
 obtain ⟨e,ep,hl⟩:=loc hR hc (w:=f) (u:=[1]) (λt=>by rw [Rt]; grind);refine ⟨e,ep,λx y hx hy hxy he=>?_⟩;rcases hl x y hx hy hxy he with ⟨h,_⟩ | ⟨h,_⟩ <;> omega
theorem WA {p:Un} {x:Rat} (h:U9 (ev p x)≠0):∃ e:Rat,0<e/\∀ y,Fe (y-x)<=e->U9 (ev p y)=U9 (ev p x):=by
 have hd:=Cf (x:=ev p x) λh0=>h (Gg.2 h0)
 have hR:0<=Fe x+1:=by have:=Hm x; grind
 obtain ⟨e,e1,e2,e3⟩:=Hb (Mp hR p) hd;refine ⟨e,e1,λy hy=>(Pk Qp (Py (x:=x) (by grind) ?_ hR hy e3)).1⟩;have:=Tw (y-x) x;have e:y-x+x=y:=by grind
 rw [e] at this; grind
theorem Qq9 {R M:Rat} {p:Un} (hM:M=ddB R p) (hR:0<=R) {h:Rat} (hh:0<h):∀ (n:Nat) (x:Rat),Fe x<=R->Fe (x+(n:Rat)*h)<=R->(∀ t,x<=t->t<=x+(n:Rat)*h->0<=dv p t)->ev p x-(n:Rat)*(h*h*M)<=ev p (x+(n:Rat)*h)
 |
  0,x,_,_,_=>by
  have e1:x+((0:Nat):Rat)*h=x:=by rw [show ((0:Nat):Rat)=0 from rfl]; grind
  have e2:((0:Nat):Rat)*(h*h*M)=0:=by simp
  rw [e1,e2]; grind
 |
  n+1,x,hx,hy,hd=>by
  have hn':(((n+1:Nat):Rat))=(n:Rat)+1:=by push_cast; rfl
  rw [hn'] at hy hd ⊢;have hn0:(0:Rat)<=(n:Rat):=Xh;have hnh:=Np hn0 (Qt hh);have e1:x+((n:Rat)+1)*h=(x+h)+(n:Rat)*h:=by grind
  rw [e1] at hy hd ⊢;have hxh:Fe (x+h)<=R:=UR hx hy (by clear hd; grind) (by clear hd; grind);have ih:=Qq9 hM hR hh n (x+h) hxh hy λt h1 h2=>hd t (by clear hd; grind) h2
  have h0:=hd x Qp (by clear hd; grind);have h1:=Qqv p (x+h) x;have h2:=Qfo hxh hx p;rw [<-hM,P6] at h2;have h3:=Zu h2.1 (Np (Qt hh) (Qt hh));have h4:=Np (Qt hh) h0;have e2:x+h-x=h:=by grind
  rw [e2] at h1;clear hd hx hy hxh;grind
theorem Qxm {p:Un} {x y:Rat} (hxy:x<y) (hd:∀ t,x<=t->t<=y->0<=dv p t):ev p x<=ev p y:=by
 obtain ⟨R,hR,hx,hy⟩:=zZ x y;rcases Fx (ev p x) (ev p y) with h | h
 ·exact h
 ·exfalso;obtain ⟨M,hM⟩:=nmE (ddB R p);have hM0:=BW hR p;rw [<-hM] at hM0;obtain ⟨e,ep,_,he⟩:=Hb (b:=(y-x)*M) (d:=ev p x-ev p y) (Np (by grind) hM0) (by grind);obtain ⟨n,hn⟩:=ZT (z:=y-x) ep;have hn0:0<(n:Rat):=by
   rcases Fx (n:Rat) 0 with h' | h'
   ·have:=Ze h' (Qt ep); clear hd; grind
   ·exact h'
  have hh:0<(y-x) / n:=E5 (by grind) hn0;have e1:(n:Rat)*((y-x) / n)=y-x:=by rw [W4]; exact G8 hn0
  have e2:x+(n:Rat)*((y-x) / n)=y:=by rw [e1]; grind
  have h1:=Qq9 hM hR hh n x hx (by rw [e2]; exact hy) (by rw [e2]; exact hd);rw [e2] at h1;have h2:(y-x) / n<=e:=by
   rcases Fx ((y-x) / n) e with h' | h'
   ·exact h'
   ·have:=Rat.mul_lt_mul_of_pos_left h' hn0; clear hd; grind
  have h3:(n:Rat)*((y-x) / n*((y-x) / n)*M)=((y-x) / n)*((y-x)*M):=by
   have:(n:Rat)*((y-x) / n*((y-x) / n)*M)=((n:Rat)*((y-x) / n))*(((y-x) / n)*M):=by grind
   rw [this,e1]; grind
  have h4:=Ze h2 (Np (x:=y-x) (y:=M) (by grind) hM0);rw [h3] at h1;clear hd; grind
theorem Qoy {p:Un} {x y:Rat} (hxy:x<y) (hd:∀ t,x<=t->t<=y->0<dv p t):ev p x<ev p y:=by
 have hx:=hd x Qp (by grind);have hR:0<=Fe x+1:=by have:=Hm x; grind
 obtain ⟨e,e1,e2,e3⟩:=Hb (BW hR p) hx;obtain ⟨f,f1,f2,f3⟩:=min2 (a:=e) (b:=y-x) e1 (by grind);have hq:Fe (x+f)<=Fe x+1:=by
  have:=Tw x f; have:Fe f=f:=by unfold Fe; split <;> grind
  clear hd; grind
 have h1:=CO (p:=p) (x:=x) (y:=x+f) (R:=Fe x+1) (e:=e) (d:=dv p x) (by clear hd; grind) hq hR (by grind) (by grind) (by unfold Fe; split <;> clear hd <;> grind) e3;rw [Ho.2 hx,Ho] at h1;rcases Classical.em (x+f=y) with e | e
 ·rw [<-e]; clear hd; grind
 ·have:=Qxm (p:=p) (x:=x+f) (y:=y) (by clear hd; grind) λt h1 h2=>Qt (hd t (by clear hd; grind) h2)
  clear hd; grind
structure Cut (c:Rat->Int):Prop where
 val:∀ q,c q=1\/c q=0\/c q=-1
 mono:∀ q r,q<r->c q≠1->c r=-1
 up:∀ q,c q=1->∃ r,q<r/\c r=1
 dn:∀ q,c q=-1->∃ r,r<q/\c r=-1
 lo:∃ q,c q=1
 hi:∃ q,c q=-1
theorem Cut.mono' {c:Rat->Int} (h:Cut c) {q r:Rat} (hqr:q<r) (hr:c r≠-1):c q=1:=by
 rcases Classical.em (c q=1) with e | e
 ·exact e
 ·exact absurd (h.mono q r hqr e) hr
theorem Cut.lt {c:Rat->Int} (h:Cut c) {q r:Rat} (hq:c q=1) (hr:c r=-1):q<r:=by
 rcases Fx r q with e | e
 ·rcases Classical.em (r=q) with e' | e'
  ·rw [e'] at hr; omega
  ·have:=h.mono r q (by grind) (by omega); omega
 ·exact e
theorem Cut.near {c:Rat->Int} (h:Cut c) {e:Rat} (he:0<e):∃ x y,c x=1/\c y=-1/\y-x<=e:=by
 obtain ⟨a,ha⟩:=h.lo;obtain ⟨b,hb⟩:=h.hi;have he2:0<e / 2:=E5 he (by decide);have h2:e / 2*2=e:=G8 (by decide);have key:∀ (n:Nat) (a:Rat),c a=1->b-a<=(n:Rat)*(e / 2)->∃ x y,c x=1/\c y=-1/\y-x<=e:=by
  intro n
  induction n with
  |
   zero =>
   intro a ha hn;have:=h.lt ha hb;rw [show ((0:Nat):Rat)=0 from rfl] at hn;exfalso; grind
  |
   succ n ih =>
   intro a ha hn;have hn':(((n+1:Nat):Rat))=(n:Rat)+1:=by push_cast; rfl
   rw [hn'] at hn;rcases h.val (a+e / 2) with h1 | h1 | h1
   ·exact ih _ h1 (by grind)
   ·exact ⟨a,a+e,ha,h.mono (a+e / 2) _ (by grind) (by omega),by grind⟩
   ·exact ⟨a,a+e / 2,ha,h1,by grind⟩
 obtain ⟨n,hn⟩:=ZT (z:=b-a) he2;exact key n a ha hn
def Is (p:Un) (c:Rat->Int):Prop:=∀ d:Rat,0<d->∃ x y,c x=1/\c y=-1/\∀ q,x<=q->q<=y->Fe (ev p q)<d
def NZ (p:Un) (c:Rat->Int) (s:Int):Prop:=∃ d:Rat,0<d/\∃ x y,c x=1/\c y=-1/\∀ q,x<=q->q<=y->U9 (ev p q)=s/\d<=Fe (ev p q)
def Nr (c:Rat->Int) (P:Rat->Prop):Prop:=∃ x y,c x=1/\c y=-1/\∀ q,x<=q->q<=y->P q
theorem nY {c:Rat->Int} {P Q:Rat->Prop} (h1:Nr c P) (h2:Nr c Q):Nr c λq=>P q/\Q q:=by
 obtain ⟨x,y,a1,a2,a3⟩:=h1;obtain ⟨x',y',b1,b2,b3⟩:=h2;refine ⟨if x<=x' then x' else x,if y<=y' then y else y',by split <;> assumption,by split <;> assumption,λq q1 q2=>⟨a3 q ?_ ?_,b3 q ?_ ?_⟩⟩ <;> clear a3 b3 <;> grind
theorem MY {c:Rat->Int} {P Q:Rat->Prop} (h1:Nr c P) (h:∀ q,P q->Q q):Nr c Q:=by
 obtain ⟨x,y,a1,a2,a3⟩:=h1;exact ⟨x,y,a1,a2,λq q1 q2=>h q (a3 q q1 q2)⟩
theorem fR {c:Rat->Int} (hc:Cut c) {P:Rat->Prop} (h1:Nr c P):∃ q,P q/\c q=1:=by
 obtain ⟨x,y,a1,a2,a3⟩:=h1;exact ⟨x,a3 x Qp (Qt (hc.lt a1 a2)),a1⟩
theorem Qhw {c:Rat->Int} (hc:Cut c) {e:Rat} (he:0<e) {P:Rat->Prop} (h1:Nr c P):∃ x y,c x=1/\c y=-1/\y-x<=e/\x<y/\∀ q,x<=q->q<=y->P q:=by
 obtain ⟨x,y,a1,a2,a3⟩:=h1;obtain ⟨x',y',b1,b2,b3⟩:=hc.near he;refine ⟨if x<=x' then x' else x,if y<=y' then y else y',by split <;> assumption,by split <;> assumption,by clear a3; grind,hc.lt (by split <;> assumption) (by split <;> assumption),λq q1 q2=>a3 q ?_ ?_⟩ <;> clear a3 <;> grind
theorem Qq7 {c:Rat->Int} (hc:Cut c):∃ R:Rat,0<=R/\Nr c λq=>Fe q<=R:=by
 obtain ⟨x,y,a1,a2,_⟩:=hc.near (e:=1) (by decide);obtain ⟨R,hR,h1,h2⟩:=zZ x y;exact ⟨R,hR,x,y,a1,a2,λq q1 q2=>UR h1 h2 q1 q2⟩
theorem JU {c:Rat->Int} (hc:Cut c) (p:Un):Is p c\/∃ s,s≠0/\NZ p c s:=by
 rcases Classical.em (Is p c) with h | h
 ·exact .inl h
 ·refine .inr ?_;obtain ⟨d,hd0⟩:=Classical.not_forall.1 h;obtain ⟨dp,hd⟩:=Classical.not_imp.1 hd0;have hd:∀ x y,c x=1->c y=-1->∃ q,x<=q/\q<=y/\d<=Fe (ev p q):=λx y hx hy=>by
   rcases Classical.em (∃ q,x<=q/\q<=y/\d<=Fe (ev p q)) with h' | h'
   ·exact h'
   ·refine absurd ⟨x,y,hx,hy,λq h1 h2=>?_⟩ hd;rcases Fx d (Fe (ev p q)) with h3 | h3
    ·exact absurd ⟨q,h1,h2,h3⟩ h'
    ·exact h3
  obtain ⟨R,hR,hn⟩:=Qq7 hc;have hd2:0<d / 2:=E5 dp (by decide);have h2:d / 2*2=d:=G8 (by decide);obtain ⟨e,e1,_,e3⟩:=Hb (Mp hR p) hd2;obtain ⟨x,y,hx,hy,hxy,_,hq⟩:=Qhw hc e1 hn;obtain ⟨r,r1,r2,r3⟩:=hd x y hx hy;have key:∀ q,x<=q->q<=y->Fe (ev p q-ev p r)<d / 2:=λq q1 q2 =>
   Py (hq r r1 r2) (hq q q1 q2) hR (by rw [P6]; clear hq hd; constructor <;> grind) e3
  refine ⟨U9 (ev p r),λh0=>?_,d / 2,hd2,x,y,hx,hy,λq q1 q2=>⟨(Pk (d:=d) r3 ?_).1,?_⟩⟩
  ·rw [Gg.1 h0,H8] at r3; clear hq hd key; grind
  ·have:=key q q1 q2; clear hq hd key; grind
  ·have h3:=key q q1 q2;have h4:=Tw (ev p r-ev p q) (ev p q);rw [show ev p r-ev p q+ev p q=ev p r from by clear hq hd key; grind,iU] at h4;clear hq hd key; grind
theorem Qvj {c:Rat->Int} (hc:Cut c) {p:Un} {s:Int} (h1:Is p c) (h2:NZ p c s):False:=by
 obtain ⟨d,dp,h2⟩:=h2;obtain ⟨q,⟨a,b⟩,_⟩:=fR hc (nY (h1 d dp) h2);exact absurd b.2 (Jq.2 a)
theorem Pu {c:Rat->Int} (hc:Cut c) {f p q:Un} (hf:∀ t,ev f t=ev p t*ev q t) (h:Is p c):Is f c:=by
 intro d dp;obtain ⟨R,hR,hn⟩:=Qq7 hc;obtain ⟨e,e1,_,e3⟩:=Hb (ZE hR q) dp;refine MY (nY hn (h e e1)) λt ⟨h1,h2⟩=>?_
 rw [hf];have:=G6 (Qt h2) (TS h1 q);exact Jq.1 λh=>absurd (Zk h this) (Jq.2 e3)
theorem MD {c:Rat->Int} {f p q:Un} (hf:∀ t,ev f t=ev p t+ev q t) (h:Is p c) (h':Is q c):Is f c:=by
 intro d dp;have hd2:0<d / 2:=E5 dp (by decide);have h2:d / 2*2=d:=G8 (by decide);refine MY (nY (h _ hd2) (h' _ hd2)) λt ⟨h1,h2⟩=>?_
 rw [hf];have:=Tw (ev p t) (ev q t);grind
def RS (p:Un) (c:Rat->Int) (s:Int):Prop:=∃ y,c y=-1/\∀ q,c q=-1->q<=y->U9 (ev p q)=s
def LS (p:Un) (c:Rat->Int) (s:Int):Prop:=∃ x,c x=1/\∀ q,c q=1->x<=q->U9 (ev p q)=s
theorem qF {c:Rat->Int} (hc:Cut c) {p:Un} {s:Int} (h:NZ p c s):RS p c s:=by
 obtain ⟨d,dp,x,y,a1,a2,a3⟩:=h;exact ⟨y,a2,λq h1 h2=>(a3 q (Qt (hc.lt a1 h1)) h2).1⟩
theorem aY {c:Rat->Int} (hc:Cut c) {p:Un} {s:Int} (h:NZ p c s):LS p c s:=by
 obtain ⟨d,dp,x,y,a1,a2,a3⟩:=h;exact ⟨x,a1,λq h1 h2=>(a3 q h2 (Qt (hc.lt h1 a2))).1⟩
theorem FT {c:Rat->Int} {p:Un} {s s':Int} (h:RS p c s) (h':RS p c s'):s=s':=by
 obtain ⟨y,a1,a2⟩:=h;obtain ⟨y',b1,b2⟩:=h';rcases Fx y y' with e | e
 ·rw [<-a2 y a1 Qp,<-b2 y a1 e]
 ·rw [<-a2 y' b1 (Qt e),<-b2 y' b1 Qp]
theorem Qrc {c:Rat->Int} (hc:Cut c) {p:Un} (hv:Is p c) {y:Rat} (hy:c y=-1) (h:∀ q,c q=-1->q<=y->0<dv p q) (q:Rat) (hq:c q=-1) (hqy:q<=y):0<ev p q:=by
 rcases Fx (ev p q) 0 with h0 | h0
 ·exfalso;obtain ⟨r,r1,r2⟩:=hc.dn q hq;have hr:ev p r<ev p q:=Qoy r1 λt t1 t2=>h t (by
   rcases Classical.em (r=t) with e | e
   ·rw [<-e]; exact r2
   ·exact hc.mono r t (by clear h; grind) (by omega)) (Zk t2 hqy)
  obtain ⟨a,b,ha,hb,hab⟩:=hv (-ev p r) (by clear h; grind);obtain ⟨m,hm1,hm2,hm3⟩:∃ m,c m=-1/\m<=b/\m<=r:=by
   rcases Fx b r with e | e
   ·exact ⟨b,hb,Qp,e⟩
   ·exact ⟨r,r2,Qt e,Qp⟩
  have h1:=hab m (Qt (hc.lt ha hm1)) hm2;have h2:ev p m<=ev p r:=by
   rcases Classical.em (m=r) with e | e
   ·rw [e]; exact Qp
   ·exact Qt (Qoy (by clear h hab; grind) λt t1 t2=>h t (by
     rcases Classical.em (m=t) with e | e
     ·rw [<-e]; exact hm1
     ·exact hc.mono m t (by clear h hab; grind) (by omega)) (by clear h hab; grind))
  rw [yX] at h1;clear h hab; grind
 ·exact h0
theorem yU {c:Rat->Int} (hc:Cut c) {p:Un} {s:Int} (hv:Is p c) (h:RS (Nu p) c s) (hs:s≠0):RS p c s:=by
 obtain ⟨y,hy,h⟩:=h;have hsv:s=1\/s=-1:=by
  have:=h y hy Qp;rcases Fp (ev (Nu p) y) with ⟨e,_⟩ | ⟨e,_⟩ | ⟨e,_⟩ <;> omega
 rcases hsv with rfl | rfl
 ·refine ⟨y,hy,λq h1 h2=>Ho.2 (Qrc hc hv hy (λq h1 h2=>?_) q h1 h2)⟩;rw [<-Te]; exact Ho.1 (h q h1 h2)
 ·refine ⟨y,hy,λq h1 h2=>Sy.2 ?_⟩;have:=Qrc hc (p:=Dm (-1) p) (y:=y) (λd dp=>MY (hv d dp) λq hq=>by rw [Gk,show -1*ev p q=-ev p q by grind,Ed]; exact hq) hy (λq h1 h2=>by
   rw [HZ,<-Te];have:=Sy.1 (h q h1 h2); grind) q h1 h2
  rw [Gk] at this; grind
theorem Qq3 {c:Rat->Int} (hc:Cut c) {p:Un} (hv:Is p c) {x:Rat} (hx:c x=1) (h:∀ q,c q=1->x<=q->0<dv p q) (q:Rat) (hq:c q=1) (hxq:x<=q):ev p q<0:=by
 rcases Fx 0 (ev p q) with h0 | h0
 ·exfalso;obtain ⟨r,r1,r2⟩:=hc.up q hq;have hr:ev p q<ev p r:=Qoy r1 λt t1 t2=>h t (by
   rcases Classical.em (t=r) with e | e
   ·rw [e]; exact r2
   ·exact hc.mono' (q:=t) (r:=r) (by clear h; grind) (by omega)) (Zk hxq t1)
  obtain ⟨a,b,ha,hb,hab⟩:=hv (ev p r) (by clear h; grind);obtain ⟨m,hm1,hm2,hm3⟩:∃ m,c m=1/\a<=m/\r<=m:=by
   rcases Fx a r with e | e
   ·exact ⟨r,r2,e,Qp⟩
   ·exact ⟨a,ha,Qp,Qt e⟩
  have h1:=hab m hm2 (Qt (hc.lt hm1 hb));have h2:ev p r<=ev p m:=by
   rcases Classical.em (r=m) with e | e
   ·rw [e]; exact Qp
   ·exact Qt (Qoy (by clear h hab; grind) λt t1 t2=>h t (by
     rcases Classical.em (t=m) with e | e
     ·rw [e]; exact hm1
     ·exact hc.mono' (q:=t) (r:=m) (by clear h hab; grind) (by omega)) (by clear h hab; grind))
  rw [yX] at h1;clear h hab; grind
 ·exact h0
theorem Qhg {c:Rat->Int} (hc:Cut c) {p:Un} {s:Int} (hv:Is p c) (h:LS (Nu p) c s) (hs:s≠0):LS p c (-s):=by
 obtain ⟨x,hx,h⟩:=h;have hsv:s=1\/s=-1:=by
  have:=h x hx Qp;rcases Fp (ev (Nu p) x) with ⟨e,_⟩ | ⟨e,_⟩ | ⟨e,_⟩ <;> omega
 rcases hsv with rfl | rfl
 ·refine ⟨x,hx,λq h1 h2=>Sy.2 (Qq3 hc hv hx (λq h1 h2=>?_) q h1 h2)⟩;rw [<-Te]; exact Ho.1 (h q h1 h2)
 ·refine ⟨x,hx,λq h1 h2=>Ho.2 ?_⟩;have:=Qq3 hc (p:=Dm (-1) p) (x:=x) (λd dp=>MY (hv d dp) λq hq=>by rw [Gk,show -1*ev p q=-ev p q by grind,Ed]; exact hq) hx (λq h1 h2=>by
   rw [HZ,<-Te];have:=Sy.1 (h q h1 h2); grind) q h1 h2
  rw [Gk] at this; grind
theorem Qo6 {c:Rat->Int} (hc:Cut c) {f g:Un} {l:Uo} (h:SCl f g l):Is f c->Is g c->False:=by
 induction h with
 |
  @base f g k hk hg =>
  intro _ hv;obtain ⟨q,hq,_⟩:=fR hc (hv (Fe k) (Cf hk));rw [hg] at hq; grind
 |
  @step f g h l a b q ha hb he hl ih =>
  intro hf hg;refine ih hg ?_;have h1:Is (Gw q g) c:=Pu hc (p:=g) (q:=q) (λt=>by rw [Fb]; grind) hg;have h2:Is (Dm (-a) f) c:=Pu hc (p:=f) (q:=[-a]) (λt=>by rw [Gk]; simp only [ev]; grind) hf;have h3:Is (Tx (Gw q g) (Dm (-a) f)) c:=MD (λt=>Gt t _ _) h1 h2;refine Pu hc (p:=Tx (Gw q g) (Dm (-a) f)) (q:=[1 / b]) (λt=>?_) h3;have:=he t;rw [Gt,Fb,Gk];simp only [ev];have hbb:1 / b*b=1:=G8 hb;have:ev q t*ev g t+-a*ev f t=b*ev h t:=by rw [show -a*ev f t=-(a*ev f t) by grind,he t]; grind
  rw [this];have:b*ev h t*(1 / b+t*0)=ev h t*(1 / b*b):=by grind
  rw [this,hbb]; grind
theorem qO {c:Rat->Int} (hc:Cut c) {f g:Un} {k:Rat} (h:∀ t,ev g t=k*ev f t) (hv:Is f c):Is g c :=
 Pu hc (p:=f) (q:=[k]) (λt=>by rw [h]; simp only [ev]; grind) hv
theorem Qpg {c:Rat->Int} (hc:Cut c) {f:Un} {L:Uo} (h:GW f L) (hv:Is f c):∃ s,s≠0/\NZ (Nu f) c s:=by
 rcases JU hc (Nu f) with h1 | h1
 ·exfalso;rcases h with ⟨k,hk,hf,_⟩ | ⟨g,l,k,hk,hg,h,_⟩
  ·obtain ⟨q,hq,_⟩:=fR hc (hv (Fe k) (Cf hk));rw [hf] at hq; grind
  ·exact Qo6 hc h hv (qO hc (λt=>by rw [hg,Te]) h1)
 ·exact h1
theorem lG {c:Rat->Int} (hc:Cut c) {f w u:Un} {L:Uo} (h:GW f L) (hf:∀ t,ev f t=ev w t*ev u t) (hv:Is w c):∃ s,s≠0/\NZ (Nu w) c s:=by
 rcases JU hc (Nu w) with h1 | h1
 ·exfalso;obtain ⟨s,_,hs⟩:=Qpg hc h (Pu hc hf hv);refine Qvj hc ?_ hs;have a1:Is (Gw (Nu w) u) c:=Pu hc (λt=>Fb t _ _) h1;have a2:Is (Gw w (Nu u)) c:=Pu hc (λt=>Fb t _ _) hv;refine MD (λt=>?_) a1 a2;rw [Te,QK hf,Fb,Fb,Te,Te]
 ·exact h1
theorem Qfl {c:Rat->Int} (hc:Cut c) {q:Rat} (h:c q=0) {x y:Rat} (hx:c x=1) (hy:c y=-1):x<=q/\q<=y:=by
 constructor
 ·rcases Fx x q with e | e
  ·exact e
  ·have:=hc.mono q x e (by omega); omega
 ·rcases Fx q y with e | e
  ·exact e
  ·have:=hc.mono y q e (by omega); omega
theorem TZ {c:Rat->Int} (hc:Cut c) {p:Un} {q:Rat} (h:c q=0) (hv:Is p c):ev p q=0:=by
 rcases Classical.em (ev p q=0) with e | e
 ·exact e
 ·obtain ⟨x,y,hx,hy,hq⟩:=hv _ (Cf e);obtain ⟨h1,h2⟩:=Qfl hc h hx hy;have:=hq q h1 h2; grind
theorem fS {c:Rat->Int} (hc:Cut c) {p:Un} {q:Rat} {s:Int} (h:c q=0) (hv:NZ p c s):U9 (ev p q)=s:=by
 obtain ⟨d,dp,x,y,hx,hy,hq⟩:=hv;obtain ⟨h1,h2⟩:=Qfl hc h hx hy;exact (hq q h1 h2).1
theorem pR {c:Rat->Int} (hc:Cut c) {y z:Rat} (hy:c y=-1) (hz:c z=-1):∃ q,c q=-1/\q<y/\q<z:=by
 obtain ⟨a,a1,a2⟩:=hc.dn y hy;obtain ⟨b,b1,b2⟩:=hc.dn z hz;rcases Fx a b with e | e
 ·exact ⟨a,a2,a1,by grind⟩
 ·exact ⟨b,b2,by grind,b1⟩
theorem BY {c:Rat->Int} (hc:Cut c) {y z:Rat} (hy:c y=1) (hz:c z=1):∃ q,c q=1/\y<q/\z<q:=by
 obtain ⟨a,a1,a2⟩:=hc.up y hy;obtain ⟨b,b1,b2⟩:=hc.up z hz;rcases Fx a b with e | e
 ·exact ⟨b,b2,by grind,b1⟩
 ·exact ⟨a,a2,a1,by grind⟩
theorem Qhv {f w u:Un} {L:Uo} (h:GW f L) (hf:∀ t,ev f t=ev w t*ev u t) {x y:Rat} (hv:vv L x=vv L y) {c:Rat->Int} (hc:Cut c) (hx:c x=1) (hy:c y≠1):¬Is w c:=λhw=>by
 have hxy:x<y:=by
  rcases Fx y x with e | e
  ·rcases Classical.em (y=x) with e' | e'
   ·rw [e'] at hy; exact absurd hx hy
   ·have:=hc.mono y x (by grind) hy; omega
  ·exact e
 have hwv:=VT h hf hxy hv;rcases hc.val y with e | e | e
 ·exact hy e
 ·have:=TZ hc e hw;have:=hwv.s;rw [Gg.2 (by assumption)] at this;exact hwv.n this.symm
 ·obtain ⟨s,hs,hd⟩:=lG hc h hf hw;obtain ⟨a,ha,hal⟩:=Qhg hc hw (aY hc hd) hs;obtain ⟨b,hb,hbr⟩:=yU hc hw (qF hc hd) hs;obtain ⟨q,q1,q2,q3⟩:=BY hc hx ha;obtain ⟨r,r1,r2,r3⟩:=pR hc hb e;have e1:=hal q q1 (Qt q3);have e2:=hbr r r1 (Qt r2);have hqr:=hc.lt q1 r1;have v1:vv L q<=vv L x:=Ar h q2;have v2:vv L y<=vv L r:=Ar h r3;have v3:vv L r<=vv L q:=Ar h hqr;have s1:=(VT h hf q2 (by omega)).s;have s2:=(VT h hf (x:=x) (y:=r) (by grind) (by omega)).s;omega
theorem yD {f:Un} {L:Uo} (h:GW f L) {x y:Rat} (hxy:x<y) (hv:vv L x≠vv L y) {d:Rat} (dp:0<d):∃ q,x<=q/\q<=y/\Fe (ev f q)<d:=by
 obtain ⟨R,hR,hx,hy⟩:=zZ x y;obtain ⟨e1,e1p,hl⟩:=loc hR h (w:=f) (u:=[1]) (λt=>by rw [Rt]; grind);obtain ⟨e2,e2p,_,e2b⟩:=Hb (Mp hR f) dp;obtain ⟨e,ep,h1,h2⟩:=min2 e1p e2p;have key:∀ n:Nat,∀ x,Fe x<=R->x<y->vv L x≠vv L y->y-x<=(n:Rat)*e->∃ q,x<=q/\q<=y/\Fe (ev f q)<d:=by
  intro n
  induction n with
  | zero=>intro x hx hxy _ hn; rw [show ((0:Nat):Rat)=0 from rfl] at hn; exfalso; clear hl; grind
  |
   succ n ih =>
   intro x hx hxy hv hn;have hstep:∀ z,Fe z<=R->x<z->z-x<=e->vv L x≠vv L z->Fe (ev f z)<d:=λz hz hxz hze hv=>by
    rcases hl x z hx hz hxz (Zk hze h1) with ⟨p,_⟩ | ⟨_,p1,p2,p3,p4⟩
    ·exact absurd p hv
    ·have hd:=Py (p:=f) hx hz hR (e:=e2) (d:=d) (by rw [P6]; clear hl ih; constructor <;> grind) e2b;rw [<-p3] at p1 p4;clear hl ih p2 p3;rw [yX] at *;rcases Fp (ev f x) with ⟨a,a'⟩ | ⟨a,a'⟩ | ⟨a,a'⟩ <;> rcases Fp (ev f z) with ⟨b,b'⟩ | ⟨b,b'⟩ | ⟨b,b'⟩ <;> rw [a,b] at p4 <;> first | (exfalso; revert p4; decide) | skip
     all_goals first | (constructor <;> grind) | (exfalso; omega)
   rcases Fx (y-x) e with h3 | h3
   ·exact ⟨y,Qt hxy,Qp,hstep y hy hxy h3 hv⟩
   ·have hm:Fe (x+e)<=R:=UR hx hy (by clear hl ih hstep; grind) (by clear hl ih hstep; grind);rcases Classical.em (vv L x=vv L (x+e)) with e0 | e0
    ·have hn':(((n+1:Nat):Rat))=(n:Rat)+1:=by push_cast; rfl
     rw [hn'] at hn;obtain ⟨q,q1,q2,q3⟩:=ih (x+e) hm (by clear hl ih hstep; grind) (by omega) (by clear hl ih hstep; grind);exact ⟨q,by clear hl ih hstep; grind,q2,q3⟩
    ·exact ⟨x+e,by clear hl ih hstep; grind,by clear hl ih hstep; grind,hstep (x+e) hm (by clear hl ih hstep; grind) (by clear hl ih hstep; grind) e0⟩
 obtain ⟨n,hn⟩:=ZT (z:=y-x) ep;exact key n x hx hxy hv hn
theorem Qw5 {p:Un} {x:Rat} (h:Pf p x≠0):∃ e:Rat,0<e/\∀ y,x<y->y-x<=e->U9 (ev p y)=Pf p x:=by
 by_cases h0:U9 (ev p x)=0
 ·have hx:=Gg.1 h0;rw [mE h0] at h ⊢;have hR:0<=Fe x+1:=by have:=Hm x; grind
  obtain ⟨e,e1,e2,e3⟩:=Hb (BW hR p) (Cf (x:=dv p x) λh'=>h (Gg.2 h'));refine ⟨e,e1,λy h1 h2=>?_⟩;have hy:Fe y<=Fe x+1:=by
   have:=Tw x (y-x);have e:x+(y-x)=y:=by grind
   have e':Fe (y-x)=y-x:=by unfold Fe; split <;> grind
   rw [e,e'] at this; grind
  have:=CO (p:=p) (by grind) hy hR h1 h2 Qp e3;rw [hx] at this;rw [<-this]; congr 1; grind
 ·rw [Af h0] at h ⊢;obtain ⟨e,e1,e2⟩:=WA h;exact ⟨e,e1,λy h1 h2=>e2 y (by rw [P6]; constructor <;> grind)⟩
def cq (P:Un) (lo hi q:Rat):Int:=if q<=lo then 1 else if hi<q then -1 else if U9 (ev P q)=0 then 0 else if U9 (ev P q)=Pf P lo then 1 else -1
structure Vt (P:List Rat) (L:List (List Rat)) (lo hi:Rat):Prop where
 s:GW P L
 l:lo<hi
 v:vv L lo=vv L hi+1
variable {P:Un} {L:Uo} {lo hi:Rat}
theorem Ez {q:Rat} (h:q<=lo):cq P lo hi q=1:=by unfold cq; rw [if_pos h]
theorem WI {q:Rat} (h:lo<hi) (h':hi<q):cq P lo hi q=-1:=by unfold cq; rw [if_neg (by grind),if_pos h']
theorem Ih {q:Rat} (h1:lo<q) (h2:q<=hi):cq P lo hi q=if U9 (ev P q)=0 then 0 else if U9 (ev P q)=Pf P lo then 1 else -1:=by
 unfold cq; rw [if_neg (by grind),if_neg (by grind)]
theorem Vt.two (V:Vt P L lo hi) {q:Rat} (h1:lo<q) (h2:q<=hi):vv L q=vv L lo/\cq P lo hi q=1/\U9 (ev P q)=Pf P lo\/vv L q=vv L hi/\cq P lo hi q≠1/\Pf P q=-Pf P lo/\Pf P lo≠0:=by
 have a:=Ar V.s h1;have b:vv L hi<=vv L q:=by
  rcases Classical.em (q=hi) with e | e
  ·rw [e]; exact Qm _
  ·exact Ar V.s (by grind)
 have hv:=V.v;rcases (show vv L q=vv L lo\/vv L q=vv L hi by omega) with e | e
 ·have hs:=vQ V.s h1 e.symm;refine .inl ⟨e,?_,hs.s⟩;rw [Ih h1 h2,hs.s,if_neg hs.n,if_pos rfl]
 ·obtain ⟨o1,o2⟩:=yO V.s h1 (by omega);refine .inr ⟨e,?_,o2,o1⟩;rw [Ih h1 h2]
  split
  ·decide
  ·rename_i h0;rw [Af h0] at o2;rw [if_neg (by omega)]; decide
theorem Vt.lowlo (V:Vt P L lo hi):Pf P lo≠0:=(yO V.s V.l V.v).1
theorem Vt.eq_lo (V:Vt P L lo hi) {q:Rat} (h1:lo<q) (h2:q<=hi) (h:cq P lo hi q=1):vv L q=vv L lo:=by
 rcases V.two h1 h2 with ⟨e,_⟩ | ⟨_,e,_⟩
 ·exact e
 ·exact absurd h e
theorem Vt.eq_hi (V:Vt P L lo hi) {q:Rat} (h1:lo<q) (h2:q<=hi) (h:cq P lo hi q≠1):vv L q=vv L hi:=by
 rcases V.two h1 h2 with ⟨_,e,_⟩ | ⟨e,_⟩
 ·exact absurd e h
 ·exact e
theorem Vt.hi1 (V:Vt P L lo hi):cq P lo hi hi≠1:=λh=>by have:=V.eq_lo V.l Qp h; have:=V.v; omega
theorem Vt.cut (V:Vt P L lo hi):Cut (cq P lo hi) where
 val q:=by unfold cq; split <;> (try split) <;> (try split) <;> (try split) <;> simp
 mono q r h h1:=by
  have hq:lo<q:=by
   rcases Fx q lo with e | e
   ·exact absurd (Ez e) h1
   ·exact e
  rcases Fx r hi with e | e
  ·have e1:=V.eq_hi hq (by grind) h1;rcases V.two (q:=r) (by grind) e with ⟨e2,_⟩ | ⟨e2,_,e3,e4⟩
   ·have:=Ar V.s h; have:=V.v; omega
   ·have hs:=vQ V.s h (by omega);rcases V.two hq (by grind) with ⟨e5,_⟩ | ⟨_,_,e5,_⟩
    ·have:=V.v; omega
    ·rw [Ih (by grind) e,hs.s,if_neg hs.n,e5,if_neg (by omega)]
  ·exact WI V.l e
 up q h:=by
  rcases Fx q lo with e | e
  ·obtain ⟨d,dp,hd⟩:=Qw5 V.lowlo;obtain ⟨f,fp,f1,f2⟩:=min2 (a:=d) (b:=hi-lo) dp (by have:=V.l; grind);have h1:lo<lo+f:=by clear hd; grind
   have h2:lo+f<=hi:=by clear hd; grind
   have:=hd (lo+f) h1 (by clear hd; grind);exact ⟨lo+f,by clear hd; grind,by rw [Ih h1 h2,this,if_neg V.lowlo,if_pos rfl]⟩
  ·have hh:q<=hi:=by
    rcases Fx q hi with e' | e'
    ·exact e'
    ·have:=WI (P:=P) V.l e'; omega
   rcases V.two e hh with ⟨e1,_,e2⟩ | ⟨_,e1,_⟩
   ·have hn:q≠hi:=λh=>by rw [h] at e1; have:=V.v; omega
    obtain ⟨d,dp,hd⟩:=WA (p:=P) (x:=q) (by rw [e2]; exact V.lowlo);obtain ⟨f,fp,f1,f2⟩:=min2 (a:=d) (b:=hi-q) dp (by clear hd; grind);have:=hd (q+f) (by rw [P6]; clear hd; constructor <;> grind);exact ⟨q+f,by clear hd; grind,by rw [Ih (by clear hd; grind) (by clear hd; grind),this,e2,if_neg V.lowlo,if_pos rfl]⟩
   ·exact absurd h e1
 dn q h:=by
  have hq:lo<q:=by
   rcases Fx q lo with e | e
   ·have:=Ez (P:=P) (hi:=hi) e; omega
   ·exact e
  rcases Fx q hi with e | e
  ·rw [Ih hq e] at h
   split at h
   ·cases h
   rename_i h0
   split at h
   ·cases h
   rename_i h1;obtain ⟨d,dp,hd⟩:=WA h0;obtain ⟨f,fp,f1,f2⟩:=min2 (a:=d) (b:=(q-lo) / 2) dp (E5 (by clear hd; grind) (by decide));have h2:(q-lo) / 2*2=q-lo:=G8 (by decide);have:=hd (q-f) (by rw [P6]; clear hd; constructor <;> grind);exact ⟨q-f,by clear hd; grind,by rw [Ih (by clear hd; grind) (by clear hd; grind),this,if_neg h0,if_neg h1]⟩
  ·have h2:(q-hi) / 2*2=q-hi:=G8 (by decide);exact ⟨q-(q-hi) / 2,by grind,WI V.l (by grind)⟩
 lo:=⟨lo,Ez Qp⟩
 hi:=⟨hi+1,WI V.l (by grind)⟩
theorem Vt.van (V:Vt P L lo hi):Is P (cq P lo hi):=by
 have hc:=V.cut;rcases JU hc P with h | ⟨s,hs,h⟩
 ·exact h
 ·exfalso;have e1:s=Pf P lo:=by
   obtain ⟨x,hx,hx1⟩:=aY hc h;obtain ⟨q,q1,q2,q3⟩:=BY hc hx (Ez (P:=P) (hi:=hi) (Qp (a:=lo)));have hq:q<=hi:=by
    rcases Fx q hi with e | e
    ·exact e
    ·have:=WI (P:=P) V.l e; omega
   rcases V.two q3 hq with ⟨_,_,e⟩ | ⟨_,e,_⟩
   ·rw [<-hx1 q q1 (Qt q2),e]
   ·exact absurd q1 e
  rcases hc.val hi with e | e | e
  ·exact V.hi1 e
  ·have h0:=fS hc e h;rw [Ih V.l Qp] at e
   split at e
   ·omega
   ·split at e <;> omega
  ·obtain ⟨y,hy,hy1⟩:=qF hc h;obtain ⟨q,q1,q2,q3⟩:=pR hc hy e;have hq:lo<q:=hc.lt (Ez (P:=P) (hi:=hi) (Qp (a:=lo))) q1;have:=hy1 q q1 (Qt q2);rw [Ih hq (Qt q3),this,if_neg hs,if_pos e1] at q1;cases q1
def mK (w:Un) (lo hi:Rat):Prop:=U9 (ev w hi)=0\/U9 (ev w hi)≠Pf w lo
theorem Vt.has (V:Vt P L lo hi) {w u:Un} (hf:∀ t,ev P t=ev w t*ev u t) {a b:Rat} (h1:lo<=a) (h2:a<b) (h3:b<=hi):mK w a b↔Is w (cq P lo hi)/\cq P lo hi a=1/\cq P lo hi b≠1:=by
 have hc:=V.cut;have smno:vv L a=vv L b->¬mK w a b:=λh hh=>by
  have:=VT V.s hf h2 h;rcases hh with e | e
  ·rw [this.s] at e; exact this.n e
  ·exact e this.s
 by_cases ha:cq P lo hi a=1
 ·by_cases hb:cq P lo hi b=1
  ·have e1:=V.eq_lo (by grind) h3 hb;have e2:vv L a=vv L lo:=by
    rcases Classical.em (lo=a) with e | e
    ·rw [e]
    ·exact V.eq_lo (by grind) (by grind) ha
   exact ⟨λh=>absurd h (smno (by omega)),λh=>absurd hb h.2.2⟩
  ·have e1:=V.eq_hi (by grind) h3 hb;have e2:vv L a=vv L lo:=by
    rcases Classical.em (lo=a) with e | e
    ·rw [e]
    ·exact V.eq_lo (by grind) (by grind) ha
   have left:∀ s,LS w (cq P lo hi) s->s=Pf w a:=λs hs=>by
    obtain ⟨x,hx,hx1⟩:=hs;obtain ⟨q,q1,q2,q3⟩:=BY hc hx ha;have hqb:q<b:=by
     rcases Fx b q with e | e
     ·rcases Classical.em (b=q) with e' | e'
      ·rw [e'] at hb; exact absurd q1 hb
      ·have:=hc.mono b q (by clear hx1 smno; grind) hb; omega
     ·exact e
    have:=V.eq_lo (q:=q) (by clear hx1 smno; grind) (by clear hx1 smno; grind) q1;rw [<-(VT V.s hf q3 (by omega)).s,hx1 q q1 (Qt q2)]
   have right:∀ s,RS w (cq P lo hi) s->cq P lo hi b=-1->s=U9 (ev w b):=λs hs hb=>by
    obtain ⟨y,hy,hy1⟩:=hs;obtain ⟨q,q1,q2,q3⟩:=pR hc hy hb;have hqa:=hc.lt ha q1;have:=V.eq_hi (q:=q) (by clear hy1 smno; grind) (by clear hy1 smno; grind) (by omega);have hs:=VT V.s hf q3 (by omega);have hl:=hy1 q q1 (Qt q2);have h0:U9 (ev w q)≠0:=by
     have hs2:=VT V.s hf (x:=q) (y:=b) q3 (by omega);intro h0;obtain ⟨r,r1,r2⟩:=hc.dn q q1;have har:=hc.lt ha r2;have:=V.eq_hi (q:=r) (by clear hy1 smno; grind) (by clear hy1 smno; grind) (by omega);have hs3:=VT V.s hf (x:=r) (y:=q) r1 (by omega);have hs4:=hs3.s;rw [h0] at hs4; exact hs3.n hs4.symm
    rw [hs.s,Af h0,hl]
   refine ⟨λh=>⟨?_,ha,hb⟩,λ⟨hw,_,_⟩=>?_⟩
   ·rcases JU hc w with e | ⟨s,EU,hs⟩
    ·exact e
    ·exfalso;have l1:=left s (aY hc hs);have r1:U9 (ev w b)=s:=by
      rcases hc.val b with e | e | e
      ·exact absurd e hb
      ·exact fS hc e hs
      ·exact (right s (qF hc hs) e).symm
     rcases h with h | h
     ·exact EU (by rw [<-r1]; exact h)
     ·exact h (by rw [r1,l1])
   ·rcases hc.val b with e | e | e
    ·exact absurd e hb
    ·exact .inl (Gg.2 (TZ hc e hw))
    ·obtain ⟨s,EU,hs⟩:=lG hc V.s hf hw;have l1:=left _ (Qhg hc hw (aY hc hs) EU);have r1:=right _ (yU hc hw (qF hc hs) EU) e;exact .inr (by rw [<-l1,<-r1]; omega)
 ·have hla:lo<a:=by
   rcases Classical.em (lo=a) with e | e
   ·rw [<-e] at ha; exact absurd (Ez Qp) ha
   ·grind
  have hb:cq P lo hi b≠1:=by have:=hc.mono a b h2 ha; omega
  have e1:=V.eq_hi hla (by grind) ha;have e2:=V.eq_hi (q:=b) (by grind) h3 hb;exact ⟨λh=>absurd h (smno (by omega)),λh=>absurd h.2.1 ha⟩
theorem wU {c c':Rat->Int} (hc:Cut c) (hc':Cut c') {q:Rat} (h:c q≠c' q):∃ r,(c r=-1/\c' r=1)\/(c r=1/\c' r=-1):=by
 rcases hc.val q with e | e | e <;> rcases hc'.val q with e' | e' | e'
 ·omega
 ·obtain ⟨r,r1,r2⟩:=hc.up q e;exact ⟨r,.inr ⟨r2,hc'.mono q r r1 (by omega)⟩⟩
 ·exact ⟨q,.inr ⟨e,e'⟩⟩
 ·obtain ⟨r,r1,r2⟩:=hc'.up q e';exact ⟨r,.inl ⟨hc.mono q r r1 (by omega),r2⟩⟩
 ·omega
 ·obtain ⟨r,r1,r2⟩:=hc'.dn q e';exact ⟨r,.inr ⟨hc.mono' r1 (by omega),r2⟩⟩
 ·exact ⟨q,.inl ⟨e,e'⟩⟩
 ·obtain ⟨r,r1,r2⟩:=hc.dn q e;exact ⟨r,.inl ⟨r2,hc'.mono' r1 (by omega)⟩⟩
 ·omega
theorem Vt.uniq (V:Vt P L lo hi) {c:Rat->Int} (hc:Cut c) (h1:c lo=1) (h2:c hi≠1) (hv:Is P c) (q:Rat):c q=cq P lo hi q:=by
 rcases Classical.em (c q=cq P lo hi q) with e | e
 ·exact e
 ·exfalso;obtain ⟨r,⟨r1,r2⟩ | ⟨r1,r2⟩⟩:=wU hc V.cut e
  ·have hl:=hc.lt h1 r1;have hh:r<=hi:=by
    rcases Fx r hi with e | e
    ·exact e
    ·have:=WI (P:=P) V.l e; omega
   have:=V.eq_lo hl hh r2;exact Qhv V.s (w:=P) (u:=[1]) (λt=>by rw [Rt]; grind) (x:=lo) (y:=r) (by omega) hc h1 (by omega) hv
  ·have hl:lo<r:=by
    rcases Fx r lo with e | e
    ·have:=Ez (P:=P) (hi:=hi) e; omega
    ·exact e
   have hh:r<=hi:=by
    rcases Fx r hi with e | e
    ·exact e
    ·have:=hc.mono hi r e h2; omega
   have:=V.eq_hi hl hh (by omega);exact Qhv V.s (w:=P) (u:=[1]) (λt=>by rw [Rt]; grind) (x:=r) (y:=hi) (by omega) hc r1 h2 hv
theorem Vt.same (V:Vt P L lo hi) {P':Un} {L':Uo} {lo' hi':Rat} (V':Vt P' L' lo' hi') {g u u' U W:Un} {k:Rat} (hk:k≠0) (h1:∀ t,ev P t=ev g t*ev u t) (h2:∀ t,ev P' t=ev g t*ev u' t) (h3:∀ t,k*ev g t=ev U t*ev P t+ev W t*ev P' t) {a b:Rat} (ha1:lo<=a) (ha2:lo'<=a) (ha:a=lo\/a=lo') (hb1:b<=hi) (hb2:b<=hi') (hb:b=hi\/b=hi'):(a<b/\mK g a b)↔∀ q,cq P lo hi q=cq P' lo' hi' q:=by
 have hc:=V.cut;have hc':=V'.cut;constructor
 ·rintro ⟨hab,hg⟩
  obtain ⟨g1,g2,g3⟩:=(V.has h1 ha1 hab hb1).1 hg;obtain ⟨g4,g5,g6⟩:=(V'.has h2 ha2 hab hb2).1 hg;intro q;refine (V.uniq hc' (by
   rcases Classical.em (lo=a) with e | e
   ·rw [e]; exact g5
   ·exact hc'.mono' (q:=lo) (r:=a) (by grind) (by omega)) (λh=>?_) (Pu hc' h1 g4) q).symm
  rcases Classical.em (b=hi) with e | e
  ·rw [<-e] at h; exact g6 h
  ·have:=hc'.mono b hi (by grind) g6; omega
 ·intro h;have hcc:cq P' lo' hi'=cq P lo hi:=funext λq=>(h q).symm
  have e1:cq P lo hi a=1:=by
   rcases ha with rfl | rfl
   ·exact Ez Qp
   ·rw [h]; exact Ez Qp
  have e2:cq P lo hi b≠1:=by
   rcases hb with rfl | rfl
   ·exact V.hi1
   ·rw [h]; exact V'.hi1
  have hab:a<b:=by
   rcases Fx b a with e | e
   ·rcases Classical.em (b=a) with e' | e'
    ·rw [e'] at e2; exact absurd e1 e2
    ·have:=hc.mono b a (by grind) e2; omega
   ·exact e
  have v1:=V.van;have v2:=V'.van;rw [hcc] at v2;have hg:Is g (cq P lo hi):=by
   have a1:Is (Gw U P) (cq P lo hi):=Pu hc (p:=P) (q:=U) (λt=>by rw [Fb]; grind) v1;have a2:Is (Gw W P') (cq P lo hi):=Pu hc (p:=P') (q:=W) (λt=>by rw [Fb]; grind) v2;have a3:=MD (λt=>Gt t _ _) a1 a2;refine qO hc (k:=1 / k) (λt=>?_) a3;rw [Gt,Fb,Fb,<-h3];have:1 / k*(k*ev g t)=1 / k*k*ev g t:=by grind
   rw [this,show 1 / k*k=1 from Zi hk]; grind
  exact ⟨hab,(V.has h1 ha1 hab hb1).2 ⟨hg,e1,e2⟩⟩
end Orq
namespace Orq
theorem Qid:∀ (M:Nat) (f:Nat->Nat),(∀ i,i<=M->f i<M)->∃ i j,i<j/\j<=M/\f i=f j
 | 0,f,h=>absurd (h 0 (Qm _)) (We _)
 |
  M+1,f,h=>by
  rcases Classical.em (∃ i,i<=M/\f i=f (M+1)) with ⟨i,h1,h2⟩ | hn
  ·exact ⟨i,M+1,by omega,Qm _,h2⟩
  ·have hne:∀ i,i<=M->f i≠f (M+1):=λi hi e=>hn ⟨i,hi,e⟩
   obtain ⟨i,j,h1,h2,h3⟩:=Qid M (λi=>if f i=M then f (M+1) else f i) λi hi=>by
    have a1:=h i (by omega);have a2:=h (M+1) (Qm _);have a3:=hne i hi;show (if f i=M then f (M+1) else f i)<M
    split <;> omega
   refine ⟨i,j,h1,by omega,?_⟩;have a1:=hne i (by omega);have a2:=hne j h2
   split at h3 <;> split at h3 <;> omega
def dg (B k i:Nat):Nat:=k / B^i % B
theorem lU (B k i:Nat):dg B k (i+1)=dg B (k / B) i:=by unfold dg; rw [Nat.pow_succ,Nat.mul_comm,Nat.div_div_eq_div_mul]
theorem Qfp {B:Nat}:∀ (N:Nat) {k k':Nat},k<B^N->k'<B^N->(∀ i,i<N->dg B k i=dg B k' i)->k=k'
 | 0,k,k',h,h',_=>by rw [Vd] at h h'; omega
 |
  N+1,k,k',h,h',he=>by
  have h0:=he 0 (by omega);unfold dg at h0;rw [Vd,Nat.div_one,Nat.div_one] at h0;have hB:0<B:=by
   rcases Q3 B with e | e
   ·rw [e,Zq,Yy] at h; omega
   ·exact e
  have h1:=Qfp N (k:=k / B) (k':=k' / B) (X9 (by rw [Zp,<-Zq]; exact h)) (X9 (by rw [Zp,<-Zq]; exact h')) λi hi=>by
   rw [<-lU,<-lU]; exact he (i+1) (by omega)
  rw [<-W6 k B,<-W6 k' B,h0,h1]
def cd (B:Nat):Nat->(Nat->Nat)->Nat
 | 0,_=>0
 | E+1,x=>x 0+B*cd B E λe=>x (e+1)
theorem Qqo {B:Nat}:∀ (E:Nat) {x:Nat->Nat},(∀ e,e<E->x e<B)->cd B E x<B^E
 | 0,_,_=>by simp [cd]
 |
  E+1,x,h=>by
  have h1:=h 0 (by omega);have h2:=Qqo E (x:=λe=>x (e+1)) λe he=>h (e+1) (by omega)
  simp only [cd];have h3:B*cd B E (λe=>x (e+1))+B<=B*B^E:=by
   rw [<-Nat.mul_succ]; exact Zt _ h2
  rw [Zq,Zp (B^E)]; omega
theorem Qfa {B:Nat}:∀ (E:Nat) {x y:Nat->Nat},(∀ e,e<E->x e<B)->(∀ e,e<E->y e<B)->cd B E x=cd B E y->∀ e,e<E->x e=y e
 | 0,_,_,_,_,_,e,he=>by omega
 |
  E+1,x,y,hx,hy,h,e,he=>by
  have h1:=hx 0 (by omega);have h2:=hy 0 (by omega);simp only [cd] at h;have e0:x 0=y 0:=by
   have:=congrArg (· % B) h;simp only [V9] at this;rwa [Xt h1,Xt h2] at this
  have e1:cd B E (λe=>x (e+1))=cd B E (λe=>y (e+1)):=Nat.eq_of_mul_eq_mul_left (by omega:0<B) (by omega);cases e with
  | zero=>exact e0
  | succ e=>exact Qfa E (λe he=>hx (e+1) (by omega)) (λe he=>hy (e+1) (by omega)) e1 e (by omega)
def sm:Nat->(Nat->Int)->Int
 | 0,_=>0
 | n+1,f=>sm n f+f n
theorem Qjm (f g:Nat->Int):∀ n,sm n (λi=>f i-g i)=sm n f-sm n g
 | 0=>rfl
 | n+1=>by simp only [sm,Qjm f g n]; omega
theorem La {f g:Nat->Int}:∀ n,(∀ i,i<n->f i=g i)->sm n f=sm n g
 | 0,_=>rfl
 | n+1,h=>by simp only [sm,La n (λi hi=>h i (by omega)),h n (by omega)]
theorem Qjl {f:Nat->Int} {b:Nat}:∀ n,(∀ i,i<n->(f i).natAbs<=b)->(sm n f).natAbs<=n*b
 | 0,_=>by simp [sm]
 |
  n+1,h=>by
  have h1:=Qjl n λi hi=>h i (by omega)
  have h2:=h n (by omega);simp only [sm];rw [Z9]; omega
theorem YH {f:Nat->Int}:∀ n,(∀ i,i<n->f i=0)->sm n f=0
 | 0,_=>rfl
 | n+1,h=>by simp only [sm,YH n (λi hi=>h i (by omega)),h n (by omega)]; rfl
theorem bE (f:Nat->Int) (m:Nat):∀ n,sm (m+n) f=sm m f+sm n λi=>f (m+i)
 | 0=>by simp [sm]
 | n+1=>by rw [<-Ym]; simp only [sm,bE f m n]; omega
theorem bI (f:Nat->Int) (J:Nat):∀ b,sm (b*J) f=sm b λi=>sm J λj=>f (i*J+j)
 | 0=>by simp [sm]
 | b+1=>by rw [Z9,bE,bI f J b]; rfl
theorem LM {f:Nat->Int} {k:Nat}:∀ n,k<n->(∀ i,i<n->i≠k->f i=0)->sm n f=f k
 | 0,h,_=>by omega
 |
  n+1,h,h1=>by
  simp only [sm];rcases Vm (Nat.le_of_lt_succ h) with e | e
  ·rw [LM n e λi hi=>h1 i (by omega),h1 n (by omega) (by omega)]; omega
  ·subst e; rw [YH k λi hi=>h1 i (by omega) (by omega)]; omega
theorem Qu3 {M:Nat->Nat->Int} {h N E H:Nat} (hM:∀ e i,(M e i).natAbs<=h) (hc:(2*(N*(h*H))+1)^E<(H+1)^N) :
 ∃ v:Nat->Int,(∀ i,(v i).natAbs<=H)/\(∃ i,i<N/\v i≠0)/\∀ e,e<E->sm N (λi=>M e i*v i)=0:=by
 obtain ⟨T,hT⟩:=nmE (N*(h*H));rw [<-hT] at hc;have hv:∀ k i,dg (H+1) k i<=H:=λk i=>Nat.le_of_lt_succ (Z5 _ (by omega))
 have hs:∀ k e,(sm N λi=>M e i*(dg (H+1) k i:Int)).natAbs<=T:=λk e=>by
  rw [hT];refine Qjl N λi _=>?_
  rw [J7,Xf];exact Zh (hM e i) (hv k i)
 have him:∀ k e,((sm N λi=>M e i*(dg (H+1) k i:Int))+T).toNat<2*T+1:=λk e=>by have:=hs k e; omega
 obtain ⟨i,j,h1,h2,h3⟩:=Qid ((2*T+1)^E) (λk=>cd (2*T+1) E λe=>((sm N λi=>M e i*(dg (H+1) k i:Int))+T).toNat) λk _=>Qqo E λe _=>him k e
 have h4:=Qfa E (λe _=>him i e) (λe _=>him j e) h3;refine ⟨λn=>(dg (H+1) i n:Int)-dg (H+1) j n,λn=>?_,?_,λe he=>?_⟩
 ·have a1:=hv i n;have a2:=hv j n;show ((dg (H+1) i n:Int)-dg (H+1) j n).natAbs<=H;omega
 ·rcases Classical.em (∃ n,n<N/\(dg (H+1) i n:Int)-dg (H+1) j n≠0) with e | e
  ·exact e
  ·exfalso;have:i=j:=Qfp (B:=H+1) N (by omega) (by omega) λn hn=>by
    rcases Classical.em (dg (H+1) i n=dg (H+1) j n) with e' | e'
    ·exact e'
    ·exact absurd ⟨n,hn,by omega⟩ e
   omega
 ·have a1:=h4 e he;have a2:=hs i e;have a3:=hs j e;have:(sm N λn=>M e n*(dg (H+1) i n:Int))=sm N λn=>M e n*(dg (H+1) j n:Int):=by omega
  have e1:=Qjm (λn=>M e n*(dg (H+1) i n:Int)) (λn=>M e n*(dg (H+1) j n:Int)) N;rw [this] at e1;rw [La N (g:=λn=>M e n*(dg (H+1) i n:Int)-M e n*(dg (H+1) j n:Int)) λn _=>Int.mul_sub _ _ _,e1]; omega
def U4:Uk->Rat->Rat
 | [],_=>0
 | a::p,t=>(a:Rat)+t*U4 p t
def sq:Nat->(Nat->Rat)->Rat
 | 0,_=>0
 | n+1,f=>sq n f+f n
theorem Pg {f g:Nat->Rat}:∀ n,(∀ i,i<n->f i=g i)->sq n f=sq n g
 | 0,_=>rfl
 | n+1,h=>by simp only [sq,Pg n (λi hi=>h i (by omega)),h n (by omega)]
theorem cY (f g:Nat->Rat):∀ n,sq n (λi=>f i+g i)=sq n f+sq n g
 | 0=>by simp only [sq]; grind
 | n+1=>by simp only [sq,cY f g n]; grind
theorem JY (c:Rat) (f:Nat->Rat):∀ n,sq n (λi=>c*f i)=c*sq n f
 | 0=>by simp only [sq]; grind
 | n+1=>by simp only [sq,JY c f n]; grind
theorem Ci {f:Nat->Rat}:∀ n,(∀ i,i<n->f i=0)->sq n f=0
 | 0,_=>rfl
 | n+1,h=>by simp only [sq,Ci n (λi hi=>h i (by omega)),h n (by omega)]; grind
theorem Ow (f:Nat->Rat):∀ n,sq (n+1) f=f 0+sq n λi=>f (i+1)
 | 0=>by simp only [sq]; grind
 | n+1=>by rw [sq,Ow f n]; simp only [sq]; grind
theorem Qrg {f:Nat->Rat} {b:Rat}:∀ n,(∀ i,i<n->Fe (f i)<=b)->Fe (sq n f)<=(n:Rat)*b
 | 0,_=>by rw [show ((0:Nat):Rat)=0 from rfl]; simp only [sq,H8]; grind
 |
  n+1,h=>by
  have h1:=Qrg n λi hi=>h i (by omega)
  have h2:=h n (by omega);have h3:=Tw (sq n f) (f n);have hn':(((n+1:Nat):Rat))=(n:Rat)+1:=by push_cast; rfl
  rw [hn']; simp only [sq]; clear h; grind
def gc:Uk->Nat->Nat->Int
 | [],_,_=>0
 | c::B,k,j=>(if k=0/\j=0 then c else 0)+(if k=0 then 0 else gc B (k-1) j)-(if j=0 then 0 else gc B k (j-1))
def gB:Uk->Nat
 | []=>0
 | c::B=>max c.natAbs (2*gB B)
theorem PO:∀ (B:Uk) (k j:Nat),B.length<=k+j->gc B k j=0
 | [],_,_,_=>rfl
 |
  c::B,k,j,h=>by
  simp only [Q6] at h;simp only [gc];rw [if_neg (by omega)];have e1:(if k=0 then 0 else gc B (k-1) j)=0:=by
   split
   ·rfl
   ·exact PO B _ _ (by omega)
  have e2:(if j=0 then 0 else gc B k (j-1))=0:=by
   split
   ·rfl
   ·exact PO B _ _ (by omega)
  rw [e1,e2]; rfl
theorem Qgi:∀ (B:Uk) (k j:Nat),(gc B k j).natAbs<=gB B
 | [],_,_=>Qh _
 |
  c::B,k,j=>by
  have h1:=Qgi B (k-1) j;have h2:=Qgi B k (j-1);simp only [gc,gB];by_cases hk:k=0 <;> by_cases hj:j=0 <;> simp only [hk,hj,true_and,and_true,false_and,and_false,if_true,if_false] <;> (try subst hk) <;> (try subst hj) <;> omega
theorem Qgj:∀ (B:Uk) (b:Nat),B.length=b+1->(gc B 0 b).natAbs=(B.getD b 0).natAbs
 | [],_,h=>by simp at h
 | [c],0,_=>by simp [gc]
 | c::d::B,0,h=>by simp at h
 |
  c::B,b+1,h=>by
  have ih:=Qgj B b (by simpa using h);simp only [gc];simp only [J9,Q4];rw [if_pos trivial,if_neg (Nat.succ_ne_zero b),<-ih]; omega
def E2 (F:Nat->Nat->Int) (K J:Nat) (x y:Rat):Rat:=sq K λk=>sq J λj=>(F k j:Rat)*(y^k*x^j)
theorem pN (F G:Nat->Nat->Int) (K J:Nat) (x y:Rat):E2 (λk j=>F k j+G k j) K J x y=E2 F K J x y+E2 G K J x y:=by
 unfold E2;rw [<-cY];refine Pg K λk _=>?_
 rw [<-cY];exact Pg J λj _=>by push_cast; grind
theorem Qfx (c:Int) (F:Nat->Nat->Int) (K J:Nat) (x y:Rat):E2 (λk j=>F k j*c) K J x y=(c:Rat)*E2 F K J x y:=by
 unfold E2;rw [<-JY];refine Pg K λk _=>?_
 rw [<-JY];exact Pg J λj _=>by push_cast; grind
theorem Qfy (φ:Nat->Nat->Nat->Int) (v:Nat->Int) (K J:Nat) (x y:Rat):∀ N,E2 (λk j=>sm N λn=>φ n k j*v n) K J x y=sq N λn=>(v n:Rat)*E2 (φ n) K J x y
 |
  0=>by
  simp only [sq,sm];unfold E2;refine Ci K λk _=>Ci J λj _=>?_
  rw [show ((0:Int):Rat)=0 from rfl]; grind
 |
  N+1=>by
  simp only [sq];rw [<-Qfy φ v K J x y N,<-Qfx,<-pN];rfl
theorem FH (t:Rat) (i:Nat):∀ k,t^(i+k)=t^i*t^k
 | 0=>by rw [Xk,Xe]; grind
 | k+1=>by rw [<-Ym,Z7,Z7,FH t i k]; grind
theorem LC (f:Nat->Rat):∀ (i n:Nat),sq (i+n) (λk=>if i<=k then f (k-i) else 0)=sq n f
 | i,0=>Ci _ λk hk=>by rw [if_neg (by omega)]
 |
  i,n+1=>by
  rw [<-Ym]; simp only [sq];rw [LC f i n,if_pos (by omega),Jj]
def PZ (i j':Nat) (F:Nat->Nat->Int) (k j:Nat):Int:=if i<=k then (if j'<=j then F (k-i) (j-j') else 0) else 0
theorem BM (F:Nat->Nat->Int) (i j' K J:Nat) (x y:Rat):E2 (PZ i j' F) (i+K) (j'+J) x y=y^i*x^j'*E2 F K J x y:=by
 unfold E2;rw [<-JY,<-LC _ i K];refine Pg _ λk _=>?_
 by_cases hk:i<=k
 ·rw [if_pos hk,<-JY,<-LC _ j' J];refine Pg _ λj _=>?_
  unfold PZ;rw [if_pos hk];by_cases hj:j'<=j
  ·rw [if_pos hj,if_pos hj];have e1:y^k=y^i*y^(k-i):=by rw [<-FH]; congr 1; omega
   have e2:x^j=x^j'*x^(j-j'):=by rw [<-FH]; congr 1; omega
   rw [e1,e2]; grind
  ·rw [if_neg hj,if_neg hj,show ((0:Int):Rat)=0 from rfl]; grind
 ·rw [if_neg hk];refine Ci _ λj _=>?_
  unfold PZ;rw [if_neg hk,show ((0:Int):Rat)=0 from rfl]; grind
def fA (A:Uk) (k j:Nat):Int:=if j=0 then A.getD k 0 else 0
theorem Qic (y:Rat):∀ (A:Uk) (K:Nat),A.length<=K->sq K (λk=>((A.getD k 0:Int):Rat)*y^k)=U4 A y
 | [],K,_=>by rw [Ci]; rfl; intro i _; simp
 | a::A,0,h=>by simp at h
 |
  a::A,K+1,h=>by
  have ih:=Qic y A K (by simpa using h);rw [Ow];simp only [U4,Zs,Q4,Xe];rw [<-ih,<-JY];have:(sq K λi=>((A.getD i 0:Int):Rat)*y^(i+1))=sq K λi=>y*(((A.getD i 0:Int):Rat)*y^i):=Pg K λi _=>by rw [Z7]; grind
  rw [this]; grind
theorem Qw0 (A:Uk) (K J:Nat) (x y:Rat) (h:A.length<=K):E2 (fA A) K (J+1) x y=U4 A y:=by
 rw [<-Qic y A K h];refine Pg K λk _=>?_
 rw [Ow,Ci]
 ·simp only [fA,if_true,Xe]; grind
 ·intro j _;simp only [fA];rw [if_neg (by omega),show ((0:Int):Rat)=0 from rfl]; grind
theorem Qs9 (x y:Rat):∀ (B:Uk) (K J:Nat),B.length<=K->B.length<=J->E2 (gc B) K J x y=U4 B (y-x)
 |
  [],K,J,_,_=>by
  unfold E2;simp only [gc,U4];exact Ci K λk _=>Ci J λj _=>by rw [show ((0:Int):Rat)=0 from rfl]; grind
 | c::B,0,J,h,_=>by simp at h
 | c::B,K+1,0,_,h=>by simp at h
 |
  c::B,K+1,J+1,h1,h2=>by
  have i1:=Qs9 x y B K (J+1) (by simpa using h1) (by simp at h2; omega);have i2:=Qs9 x y B (K+1) J (by simp at h1; omega) (by simpa using h2);have s1:=BM (gc B) 1 0 K (J+1) x y;have s2:=BM (gc B) 0 1 (K+1) J x y;rw [Z0,Js 1 K] at s1;rw [Z0,Js 1 J] at s2;rw [i1] at s1;rw [i2] at s2;have e0:E2 (fA [c]) (K+1) (J+1) x y=(c:Rat):=by rw [Qw0 [c] (K+1) J x y (by simp)]; simp only [U4]; grind
  have e1:gc (c::B)=λk j=>(fA [c] k j+PZ 1 0 (gc B) k j)+PZ 0 1 (gc B) k j*(-1):=by
   funext k j;simp only [gc,fA,PZ];by_cases hk:k=0 <;> by_cases hj:j=0
   ·subst hk; subst hj; simp
   ·subst hk; simp [hj,show 1<=j by omega]
    try omega
   ·subst hj;obtain ⟨m,rfl⟩:∃ m,k=m+1:=⟨k-1,by omega⟩;simp
   ·obtain ⟨m,rfl⟩:∃ m,k=m+1:=⟨k-1,by omega⟩;obtain ⟨i,rfl⟩:∃ i,j=i+1:=⟨j-1,by omega⟩;simp; omega
  rw [e1,pN (λk j=>fA [c] k j+PZ 1 0 (gc B) k j) (λk j=>PZ 0 1 (gc B) k j*(-1)),pN (fA [c]) (PZ 1 0 (gc B)),Qfx,e0,s1,s2];simp only [U4,Xe,show y^1=y by rw [Z7,Xe]; grind,show x^1=x by rw [Z7,Xe]; grind];rw [show (((-1:Int)):Rat)=-1 from rfl];grind
end Orq
