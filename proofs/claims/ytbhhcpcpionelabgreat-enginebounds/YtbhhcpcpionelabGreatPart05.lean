/- C2 D1 E1 AlgL F1 F2 F3 F4 F5 T1 T2 T3 T4 T5 T6 T7 T8 T9 -/
import Derived.Test.YtbhhcpcpionelabGreatPart04
import Derived.Test.YtbhhcpcpionelabGreatPart00
set_option linter.all false
namespace Orr
open Go Go.Proofs Tryz
set_option maxRecDepth 10000
theorem Tr {l:List Pt} {i:Nat} {p:Pt} (h:l[i]? = some p):(l.map U5)[i]? = some [pl p.c.x,pl p.c.y,sg p.c.d,mg p.c.d,.int .i64 p.id]:=G7 h
theorem Tz (l:List Pt):∀ c∈l.map U5,c.length=5:=Qr6 l λ_=>rfl
theorem lP {lx ly:Ur} {px py:Ul} {x y:LV} {d:Int} (hx:IsInts lx px) (hy:IsInts ly py) (hd:Gj x y d) (hk:Cs 4294967294 1073741824 (Crv.mk px py d)) (id:Int):Ui 182 [.agg [.row lx,.row ly,x,y,.int .i64 id]] [.agg (U5 ⟨Crv.norm (Crv.mk px py d),id⟩)]:=by
 have cd:=Bt hd (Qc hk.d (by omega));by_cases h0:d=0
 ·subst h0;have ck:Cs 4294967294 1073741824 (Crv.mk px py 1):=⟨hk.x,hk.y,show U9 1<=4294967294 by decide,hk.lx,hk.ly⟩;have cm:=WO hx hy (Uy 1) ck (by decide);have e:Crv.norm (Crv.mk px py 1)=Crv.norm (Crv.mk px py 0):=by simp only [Crv.norm,Crv.g,Crv.d']; rfl
  rw [e] at cm;obtain ⟨b,l,rfl,rfl,_⟩:=hd;exact Uf func182 rfl [.k cd,.k Lh,.t (by simp),.k (xH (z:=1) (by decide)),.k cm] rfl
 ·have cm:=WO hx hy hd hk h0;obtain ⟨b,l,rfl,rfl,_⟩:=hd;exact Uf func182 rfl [.k cd,.k Lh,.f (by simpa using h0),.k cm] rfl
theorem Qff {l:List Pt} (id:Int) (hl:l.length<1073741824):Ui 181 [.agg [pts l],.oi id] [.oi (Ro l id:Int),.one (.bool (has l id))]:=by
 refine Fw func181 rfl ?_;refine Uc [] rfl ?_;refine ct 2 (S:=Unit) (λ_=>[(1,.v (.oi id)),(2,.v (.one (.ow 0 0))),(6,.v (.oi (Ro l id:Int)))]) (λ_=>[.blk 194 [pts l]]) (λ_=>True) rfl ?_ ?_
 ·refine Uh (S:=Nat) 1 (λL1 k=>(6,.v (.oi k))::L1) (λ_=>[.blk 194 [pts l]]) (λk=>l.length-k) (λk=>k<=l.length/\∀ j p,j<k->l[j]? = some p->p.id<id) 0 ⟨Qh _,λj p h=>by omega⟩ rfl rfl λk ⟨hk,hlt⟩=>?_
  by_cases h:k<l.length
  ·obtain ⟨p,hp⟩:=gxE (l:=l) (i:=k) h;by_cases hid:p.id<id
   ·refine Ud [.t (by simp; omega),.x (Tr hp),.t (by simpa using hid)] rfl ?_;exact rd (k+1) (by omega) ⟨h,λj q hj hq=>by
     rcases Zd j k with h2 | h2
     ·exact hlt j q h2 hq
     ·have:j=k:=by omega
      subst this; rw [hp] at hq; injection hq with hq; rw [<-hq]; exact hid⟩ rfl
   ·have e:=EQ hlt (.inr ⟨p,hp,hid⟩);refine Uc [.t (by simp; omega),.x (Tr hp),.f (by simpa using hid)] rfl ?_;rw [e];exact rc () trivial rfl
  ·obtain rfl:k=l.length:=by omega
   have e:=EQ hlt (.inl rfl);refine Uc [.f (by simp),.f rfl] rfl ?_;rw [e];exact rc () trivial rfl
 ·intro _ _;by_cases h:Ro l id<l.length
  ·obtain ⟨p,hp⟩:=gxE (l:=l) (i:=Ro l id) h;have e:has l id=decide (p.id=id):=by simp [has,hp]
   rw [e];exact Ue [.g 30 true (by simp; omega),.x (Tr hp)] rfl
  ·have e:has l id=false:=by simp [has,Qw (J7 h)]
   rw [e];exact Ue [.g 30 false (by simp; omega)] rfl
theorem Ii {l:List Pt}:Ui 160 [.agg [pts l]] [.one (pts l)]:=Uf func160 rfl [] rfl
theorem wR {lx ly:Ur} {px py:Ul} {x y:LV} {d id:Int} {l:List Pt} (hx:IsInts lx px) (hy:IsInts ly py) (hd:Gj x y d) (hk:Cs 4294967294 1073741824 (Crv.mk px py d)) (hl:l.length<=1000000) :
 Ui 156 [.agg [pts l],.agg [.row lx,.row ly,x,y,.int .i64 id]] [.agg [pts (if WQ l (Pt.mk (Crv.norm (Crv.mk px py d)) id)=0 then put l (Pt.mk (Crv.norm (Crv.mk px py d)) id) else l)],.oi (WQ l (Pt.mk (Crv.norm (Crv.mk px py d)) id))]:=by
 have ca:=Qff (l:=l) id (by omega);have cf:=lP hx hy hd hk id;obtain ⟨b,r,rfl,rfl,_⟩:=hd;obtain ⟨q,hq⟩:=nmE (Pt.mk (Crv.norm (Crv.mk px py d)) id);have hqi:q.id=id:=by rw [hq]
 rw [<-hq] at cf ⊢;have hpl:=vZ l id;by_cases h1:has l id=true
 ·have e:WQ l q=6:=by simp [WQ,hqi,h1]
  rw [e,if_neg (by decide)];exact Uf func156 rfl [.k ca,.t h1] rfl
 by_cases h2:6<=l.length
 ·have e:WQ l q=9:=by simp [WQ,hqi,h1,h2]
  rw [e,if_neg (by decide)];exact Uf func156 rfl [.k ca,.f (by simpa using h1),.t (by simp; omega)] rfl
 have e:WQ l q=0:=by simp [WQ,hqi,h1,h2]
 rw [e,if_pos rfl];have s1:∀ c∈(l.map U5).take (Ro l id),c.length=5:=λc hc=>Tz l c (Qo hc)
 have s3:∀ c∈(l.map U5).drop (Ro l id),c.length=5:=λc hc=>Tz l c (Q0 hc)
 refine Uf func156 rfl [.k ca,.f (by simpa using h1),.f (by simp; omega),.i (Ro l id),.s s1,.k cf,.i (Ro l id),.s s3] rfl ?_ ?_
 ·simp [put,hqi,pts,Jt,Vh,U5]
 ·simp [Uw];exact ⟨by omega,hpl,λ_ _=>rfl,by omega,by omega,hpl⟩
theorem pA {l:List Pt} (hok:∀ p∈l,Qsq 4294967294 1073741824 p) (hl:l.length<1073741824):Ui 165 [.agg [pts l]] [.one (pts (Rj l))]:=by
 refine Fw func165 rfl ?_;refine Uc [.o 3 38 5] rfl ?_;refine Uh (S:=Nat) 2 (λL1 i=>(12,.v (.oi i))::(3,.v (.one (.orow 1 5 none)))::L1) (λi=>[.blk 194 [pts l],.row false 38 5 (((l.take i).foldl Bi []).map U5)]) (λi=>l.length-i) (λi=>i<=l.length) 0 (Qh _) rfl rfl λi hi=>?_
 by_cases hlt:i<l.length
 ·obtain ⟨p,hp⟩:=gxE (l:=l) (i:=i) hlt;obtain ⟨hn,hk⟩:=hok p (Qa hp);have hws:=Ts Bi [] l hp;have hwl:=VC l i;have hwm:=VD l i;obtain ⟨o,ho⟩:=nmE ((l.take i).foldl Bi []);rw [<-ho] at hws hwl hwm ⊢;refine Uc [.t (by simp; omega),.x (Tr hp)] rfl ?_;refine Uh (S:=Nat) 3 (λL1 k=>(18,.v (.oi k))::(6,.v (.one (.bool ((o.take k).any λq=>A5 p.c q.c))))::L1) (λk=>[.blk 194 [pts l],.row false 38 5 (o.map U5),.blk 38 (U5 p)]) (λk=>o.length-k) (λk=>k<=o.length) 0 (Qh _) rfl rfl λk hk2=>?_
  by_cases hk3:k<o.length
  ·obtain ⟨q,hq⟩:=gxE (l:=o) (i:=k) hk3;obtain ⟨hqn,hqk⟩:=hok q (hwm q (Qa hq));have hany:((o.take (k+1)).any λq=>A5 p.c q.c)=(((o.take k).any λq=>A5 p.c q.c) || A5 p.c q.c):=by rw [Y5,hq,List.any_append]; simp
   cases hb:(o.take k).any λq=>A5 p.c q.c with
   |
    true =>
    rw [hb] at hany;refine Ud [.t (by simp; omega),.i k,.x (Tr hq),.t rfl,.r 29 (v:=.one (.bool ((o.take (k+1)).any λq=>A5 p.c q.c))) (by rw [hany]; rfl)] rfl ?_;exact rd (k+1) (by omega) hk3 rfl
   |
    false =>
    rw [hb] at hany;refine Ud [.t (by simp; omega),.i k,.x (Tr hq),.f rfl,.k (Qnc hn hqn hk hqk),.r 29 (v:=.one (.bool ((o.take (k+1)).any λq=>A5 p.c q.c))) (by rw [hany]; rfl)] rfl ?_;exact rd (k+1) (by omega) hk3 rfl
  ·obtain rfl:k=o.length:=by omega
   rw [Q7];cases hb:o.any λq=>A5 p.c q.c with
   |
    true =>
    have e:Bi o p=o:=by unfold Bi; rw [if_pos hb]
    exact go tt [.f (by simp),.f rfl] rfl (by simp [Uw]; omega) (rd (i+1) (by omega) hlt (by rw [hws,e]; rfl))
   |
    false =>
    have e:Bi o p=o++[p]:=by unfold Bi; rw [if_neg (by rw [hb]; decide)]
    exact go tt [.f (by simp),.t rfl] rfl (by simp [Uw]; omega) (rd (i+1) (by omega) hlt (by rw [hws,e,Yf]; rfl))
 ·obtain rfl:i=l.length:=by omega
  exact Ue [.f (by simp)] rfl (by rw [Q7]; rfl) trivial
theorem Qaj (q:Rat):U6 [-q.num,(q.den:Int)]:=by
 have:=q.den_nz;simp [U6,trim,this]
theorem Qw6 {s:Nat} {q:Rat} (h:Qs s q):Bd s [-q.num,(q.den:Int)]:=λz hz=>by
 simp at hz;rcases hz with rfl | rfl
 ·rw [Ht]; exact h.1
 ·exact h.2
theorem VG {x y x' y':LV} {n d:Int} (h1:Gj x y n) (h2:Gj x' y' d) (hn:U9 n<=4294967295) (hd:U9 d<=4294967295) (hq:Qs 4294967295 (Ha n d)):Ui 125 [.agg [x,y,x',y']] [.agg (qa (Ha n d))]:=by
 have c1:=BG h1 h2 hn hd;obtain ⟨b,l,rfl,rfl,_⟩:=h1;obtain ⟨b',l',rfl,rfl,_⟩:=h2;exact Uf func125 rfl [.k c1,.k (NA (Uy _) hq.1),.k (Bu hq)] rfl
theorem Dh {k:Crv} (hn:JR k) (hk:Cs 4294967294 1073741824 k):Ui 204 [.agg (cl k)] [.agg (cl k)]:=by
 have h0:k.d≠0:=by have:=hn.2.2.1; omega
 have cm:=WO (Gv k.x) (Gv k.y) (Uy k.d) hk h0;rw [show Crv.mk k.x k.y k.d=k from rfl,Crv.norm_of hn] at cm;exact Uf func204 rfl [.k (Bt (Uy k.d) (Qc hk.d (by omega))),.k Lh,.f (by simpa using h0),.k cm] rfl
theorem WA {a b:Crv} (ha:JR a) (hb:JR b) (ca:Cb a) (cb:Cb b):Ui 196 [.agg (cl a),.agg (cl b)] [pr (Fu a b)]:=by
 have l1:=ca.lx;have l2:=cb.lx;have l3:=Fh b.x a.d;have l4:=Fh a.x b.d;exact Uf func196 rfl [.k (Dh ha (ca.mono (by omega) (by omega))),.k (Dh hb (cb.mono (by omega) (by omega))),.k (Mz (by omega) (Ux cb.x (by omega)) (Qc ca.d (by omega))),.k (Mz (by omega) (Ux ca.x (by omega)) (Qc cb.d (by omega))),.k (HV (by omega) (by omega) (Ux (Gd cb.x ca.d) (by omega)) (Ux (Gd ca.x cb.d) (by omega)))] rfl
theorem WL {a b:Crv} (ha:JR a) (hb:JR b) (ca:Cb a) (cb:Cb b):Ui 197 [.agg (cl a),.agg (cl b)] [pr (Ft a b)]:=by
 have l1:=ca.ly;have l2:=cb.ly;have l3:=Fh b.y a.d;have l4:=Fh a.y b.d;exact Uf func197 rfl [.k (Dh ha (ca.mono (by omega) (by omega))),.k (Dh hb (cb.mono (by omega) (by omega))),.k (Mz (by omega) (Ux cb.y (by omega)) (Qc ca.d (by omega))),.k (Mz (by omega) (Ux ca.y (by omega)) (Qc cb.d (by omega))),.k (HV (by omega) (by omega) (Ux (Gd cb.y ca.d) (by omega)) (Ux (Gd ca.y cb.d) (by omega)))] rfl
def S6 (ps:Um):Ur:=ps.map λp=>[pl p]
theorem Rh {ps:Um} {i:Nat} {p:Ul} (h:ps[i]? = some p):(S6 ps)[i]? = some [pl p]:=G7 h
theorem wP {p q:Ul}:Ui 195 [pr p,pr q] [pr (Li p q)]:=by
 by_cases h:0<p.length
 ·exact Uf func195 rfl [.t (by simp; omega)] rfl (by simp only [Li]; rw [if_pos h]) trivial
 ·exact Uf func195 rfl [.f (by simp; exact Qj (by omega))] rfl (by simp only [Li]; rw [if_neg h]) trivial
theorem Qbe:Ui 194 [.oi 1] [.oi 2]:=Uf func194 rfl [.t rfl,.t rfl] rfl
theorem Qbf:Ui 194 [.oi 2] [.oi 2]:=Uf func194 rfl [.f rfl,.t rfl] rfl
theorem Qbg:Ui 194 [.oi 3] [.oi 3]:=Uf func194 rfl [.f rfl,.f rfl,.t rfl] rfl
theorem Qbh:Ui 194 [.oi 4] [.oi 4]:=Uf func194 rfl [.f rfl,.f rfl,.f rfl,.t rfl,.t rfl] rfl
theorem Qbi:Ui 194 [.oi 5] [.oi 4]:=Uf func194 rfl [.f rfl,.f rfl,.f rfl,.f rfl,.t rfl] rfl
theorem Qen {k i0 i1 i2 i3 l j0 j1 j2 j3:Int}:Ui 229 [.agg [.int .i64 k,.int .i64 i0,.int .i64 i1,.int .i64 i2,.int .i64 i3],.agg [.int .i64 l,.int .i64 j0,.int .i64 j1,.int .i64 j2,.int .i64 j3]] [.one (.bool (Cv [k,i0,i1,i2,i3] [l,j0,j1,j2,j3]))]:=by
 by_cases hk:k=l
 ·subst hk;rw [show Cv [k,i0,i1,i2,i3] [k,j0,j1,j2,j3]=Cv [i0,i1,i2,i3] [j0,j1,j2,j3] from by simp [Cv]];refine Fw func229 rfl ?_;refine Uc [.f (by simp)] rfl ?_;refine Uh (S:=Nat) 2 (λL1 i=>(19,.v (.oi i))::L1) (λ_=>[.blk 134 [.int .i64 k,.int .i64 i0,.int .i64 i1,.int .i64 i2,.int .i64 i3],.blk 134 [.int .i64 k,.int .i64 j0,.int .i64 j1,.int .i64 j2,.int .i64 j3]]) (λi=>4-i) (λi=>i<=4/\Cv ([i0,i1,i2,i3].drop i) ([j0,j1,j2,j3].drop i)=Cv [i0,i1,i2,i3] [j0,j1,j2,j3]) 0 ⟨by omega,rfl⟩ rfl rfl λi ⟨hi,he⟩=>?_
  rw [<-he];rcases (show i=0\/i=1\/i=2\/i=3\/i=4 by omega) with rfl | rfl | rfl | rfl | rfl
  ·by_cases h:i0=j0
   ·exact go tt [.t rfl,.i 0,.i 0,.f (by simpa using h)] rfl (by simp [Uw]) (rd 1 (by omega) ⟨by omega,by simp [Cv,h]⟩ rfl)
   ·exact Ue [.t rfl,.i 0,.i 0,.t (by simpa using h),.i 0] rfl (by simp [Cv,h]) trivial
  ·by_cases h:i1=j1
   ·exact go tt [.t rfl,.i 1,.i 1,.f (by simpa using h)] rfl (by simp [Uw]) (rd 2 (by omega) ⟨by omega,by simp [Cv,h]⟩ rfl)
   ·exact Ue [.t rfl,.i 1,.i 1,.t (by simpa using h),.i 1] rfl (by simp [Cv,h]) trivial
  ·by_cases h:i2=j2
   ·exact go tt [.t rfl,.i 2,.i 2,.f (by simpa using h)] rfl (by simp [Uw]) (rd 3 (by omega) ⟨by omega,by simp [Cv,h]⟩ rfl)
   ·exact Ue [.t rfl,.i 2,.i 2,.t (by simpa using h),.i 2] rfl (by simp [Cv,h]) trivial
  ·by_cases h:i3=j3
   ·exact go tt [.t rfl,.i 3,.i 3,.f (by simpa using h)] rfl (by simp [Uw]) (rd 4 (by omega) ⟨by omega,by simp [Cv,h]⟩ rfl)
   ·exact Ue [.t rfl,.i 3,.i 3,.t (by simpa using h),.i 3] rfl (by simp [Cv,h]) trivial
  ·exact Ue [.f rfl] rfl (by simp [Cv]) trivial
 ·exact Uf func229 rfl [.t (by simpa using hk)] rfl (by simp [Cv,hk]) trivial
abbrev zCt:Uq:=[.int .i64 0,.int .i64 0,.int .i64 0,.int .i64 0,.int .i64 0,.nils,.int .i64 0]
def Fg (l:List Ct):Ur:=l.map Lm
theorem KV {l:List Ct} {i:Nat} {c:Ct} (h:l[i]? = some c):(Fg l)[i]? = some (Lm c):=G7 h
theorem Nk (l:List Ct):(Fg l).length=l.length:=by simp [Fg]
theorem Qgf (l:List Ct):∀ c∈Fg l,c.length=7:=λc hc=>by
 obtain ⟨x,_,rfl⟩:=Q6.1 hc; rfl
theorem Qh4 {O:List Ct} {z:Uq} {c:Ct} {k m:Nat} {l2:Ur} (hk:k<=O.length) (hp:XE O c O.length=k) (hm:m=O.length-k) (h2:l2.take m=((Fg O++[z]).drop k).take m) :
 ((Fg O++[z]).take (k+1)++(l2.take m++(Fg O++[z]).drop (k+1+m))).set k (Lm c)=Fg (KG O c):=by
 rw [h2,<-Ze,fB (Fg O) z (Lm c) (by rw [Nk]; omega) (by rw [Nk]; omega)];simp [KG,hp,Fg,Jt,Vh]
theorem xM {l:List Ct} (hl:∀ c∈l,Pb c.p) (hn:l.length≤1000000):Ui 183 [.one (.row (Fg l))] [.one (.row (Fg (Fp l)))]:=by
 have hcl:=Nk l;refine Fw func183 rfl ?_;refine Uc [.o 3 136 7] rfl ?_;refine Uh (S:=Nat) 1 (λL1 i=>(9,.v (.oi i))::(3,.v (.one (.orow 0 7 none)))::L1) (λi=>[.row false 136 7 (Fg (Fp (l.take i)))]) (λi=>l.length-i) (λi=>i<=l.length) 0 (Qh _) rfl rfl λi hi=>?_
 by_cases hlt:i<l.length
 ·obtain ⟨c,hc⟩:=gxE (l:=l) (i:=i) hlt;have hst:=cA hc;have hcp:=hl c (Qa hc);obtain ⟨O,hO⟩:=nmE (Fp (l.take i));have hOl:O.length=i:=by rw [hO,Dc,Qr]; omega
  rw [<-hO] at hst ⊢;refine Uc [.t (by simp [hcl]; omega),.x (KV hc)] rfl ?_;refine Uh (S:=Nat) 2 (λL1 k=>(6,.v (.oi k))::L1) (λk=>[.row false 136 7 (Fg O),.blk 136 (Lm c)]) id (λk=>k<=O.length/\XE O c k=XE O c O.length) (Fg O).length ⟨by rw [Nk]; exact Ql _,by rw [Nk]⟩ rfl rfl λk ⟨hk,hp⟩=>?_
  have hz:∀ y∈[zCt],y.length=7:=λy hy=>by rw [Qk.1 hy]; rfl
  have h77:∀ y∈Fg O++[zCt],y.length=7:=λy hy=>by
   rcases Qq.1 hy with hy | hy
   ·exact Qgf O y hy
   ·exact hz y hy
  cases k with
  |
   zero =>
   have hp:XE O c O.length=0:=by rw [<-hp]; rfl
   refine go tt [.g 17 false (by simp),.f rfl,.s (sz:=7) hz,.r 36 (eI (b:=((0+1:Nat):Int)) (by simp)),.i (0+1),.i (0),.s (sz:=7) (λy hy=>h77 y (Qo hy)),.i (O.length),.k (Hp hcp.t (by have:=hcp.l; omega) (Ux hcp.b (by omega))),.i (0)] rfl (by simp [Uw,Nk]; omega) ?_;exact rd (i+1) (by omega) hlt (by rw [hst,<-Qh4 (z:=zCt) (l2:=(Fg O++[zCt]).take ((Fg O++[zCt]).length-0)) (k:=0) (m:=O.length) (by omega) hp (by omega) (by congr 1; exact Qn (by simp))]; rfl)
  |
   succ k =>
   obtain ⟨x,hx⟩:=gxE (l:=O) (i:=k) (by omega);by_cases hlc:gQ c x=true
   ·refine go tt [.g 17 true (by simp),.r 22 (eI (b:=(k:Int)) (by simp)),.i k,.x (KV hx),.k Qen,.t hlc,.r 29 (eI (b:=(k:Int)) (by simp))] rfl (by simp [Uw,Nk]; omega) ?_;exact rd k (by simp) ⟨by omega,by rw [<-hp,Qpf hx hlc]⟩ rfl
   ·have hlc:gQ c x=false:=by simpa using hlc
    have hp:XE O c O.length=k+1:=by rw [<-hp,Qjl hx hlc]
    refine go tt [.g 17 true (by simp),.r 22 (eI (b:=(k:Int)) (by simp)),.i k,.x (KV hx),.k Qen,.f hlc,.s (sz:=7) hz,.r 36 (eI (b:=((k+1+1:Nat):Int)) (by simp)),.i (k+1+1),.i (k+1),.s (sz:=7) (λy hy=>h77 y (Q0 (Qo hy))),.i (O.length-(k+1)),.k (Hp hcp.t (by have:=hcp.l; omega) (Ux hcp.b (by omega))),.i (k+1)] rfl (by simp [Uw,Nk]; omega) ?_;exact rd (i+1) (by omega) hlt (by rw [hst,<-Qh4 (z:=zCt) (l2:=((Fg O++[zCt]).drop (k+1)).take ((Fg O++[zCt]).length-(k+1))) (k:=k+1) (m:=O.length-(k+1)) (by omega) hp (by omega) (by congr 1; exact Qn (by simp))]; rfl)
 ·obtain rfl:i=l.length:=by omega
  rw [Q7];exact Ue [.f (by simp [hcl])] rfl
end Orr
namespace Orr
def Fi (p:Ul):Int:=p.getD (p.length-1) 0
def AX (p:Ul):Option Ul:=if p.length<=64/\(p.all λz=>Nat.ble (U9 z) 16777216)=true then some p else none
def chq (q:Rat):Option Rat:=if U9 q.num<=16777216/\U9 (q.den:Int)<=16777216 then some q else none
def S7 (p:Ul):Int:=(Rv p:Nat)
def Cw (p:Ul) (c:Int):Ul:=trim (p.map (· / c))
def Hi (p:Ul):Int:=if Fi p<0 then -S7 p else S7 p
def Fb (p:Ul):Ul:=if p.length=0 then [] else Cw p (Hi p)
def mono (i:Nat) (x:Int):Ul:=List.replicate i 0++[x]
def rA (b:Ul) (c:Int):Nat->Ul×Ul->Ul×Ul
 | 0,s=>s
 |
  i+1,(q,r) =>
  rA b c i (ZU (Fo q c) (mono i (if r.length=b.length+i then Fi r else 0)),Mx (Fo r c) (Gf (trim (mono i (if r.length=b.length+i then Fi r else 0))) b))
def Pz (a b:Ul):Ul:=(rA b (Fi b) (a.length+1-b.length) ([],a)).2
def Ba (a b r:Ul):Ul:=if (a.length+1-b.length) % 2=1/\Fi b<0 then P9 r else r
def VP (r:Ul):Ul:=if r.length=0 then [] else Cw r (S7 r)
def Rk (a b:Ul):Ul:=VP (Ba a b (Pz a b))
def yA (b:Ul):Nat->Ul->Ul->Option Ul
 | 0,a,q=>if a.length=0 then some q else none
 | i+1,a,q=>if a.length<b.length+i then yA b i a q else if Fi a % Fi b=0 then yA b i (Mx a (Gf (trim (mono i (Fi a / Fi b))) b)) (q.set i (Fi a / Fi b)) else none
def XA (a b:Ul):Option Ul:=if b.length=0 then none else (yA b (a.length+1-b.length) a (List.replicate (a.length+1-b.length) 0)).bind λq=>AX (trim q)
def TU:Nat->Ul->Ul->Option Ul
 | 0,_,_=>none
 | k+1,a,b=>if b.length=0 then some a else (AX (Rk a b)).bind λr=>TU k b r
def XO (a b:Ul):Option Ul:=(TU 66 (Fb a) (Fb b)).map Fb
def yO (a b:Ul):Option Ul:=(XO [] a).bind λg=>XO g b
def Sv (a:Ul):Option Ul:=if (Fb a).length<2 then some (Fb a) else (AX (Gk (Fb a))).bind λd=>(XO (Fb a) d).bind λg=>XA (Fb a) g
def RJ:Nat->Ul->Option Um
 | 0,_=>none
 | k+1,g=>if g.length<2 then some [] else (AX (Gk g)).bind λd=>(XO g d).bind λh=>(XA g h).bind λw=>(RJ k h).bind λl=>some (w::l)
def AP:Um->Option Um
 | []=>some []
 | [w]=>some [w]
 | w::v::l=>(XA w v).bind λf=>(AP (v::l)).bind λr=>some (f::r)
def FV:Nat->Ul->Um->Option Ul
 | _,p,[]=>some p
 | i,p,f::l=>if i % 2=0 then (AX (Gf p f)).bind λq=>FV (i+1) q l else FV (i+1) p l
def bF (a:Ul):Option Ul:=if (Fb a).length=0 then some [] else (RJ 66 (Fb a)).bind λl=>(AP l).bind λfs=>FV 0 [1] fs
def kR:Nat->Ul->Ul->Option Um
 | 0,_,_=>none
 | k+1,a,b=>if b.length=0 then some [] else (AX (Rk a b)).bind λr=>(kR k b (P9 r)).bind λl=>some (b::l)
def Cq (p:Ul):Option Um:=(Sv p).bind λa=>if a.length=0 then none else (AX (Gk a)).bind λd=>(kR 66 a (Fb d)).bind λl=>some (a::l)
def Ph (sg:Ul->Int) (s:Nat×Int) (p:Ul):Nat×Int:=if sg p=0 then s else (if s.2=-(sg p) then s.1+1 else s.1,sg p)
def Ci (sg:Ul->Int) (l:Um):Nat:=(l.foldl (Ph sg) (0,0)).1
def Cj (l:Um) (q:Rat):Nat:=Ci (λp=>H5 p q) l
def Td (l:Um) (lo hi:Rat):Int:=if Hd hi lo<0 then 0 else (Cj l lo:Int)-(Cj l hi:Int)
def UH (p:Ul):Int:=Int.sign (Fi p)
def ZK (p:Ul):Int:=if p.length % 2=0 then -Int.sign (Fi p) else Int.sign (Fi p)
def WY (l:Um):Int:=(Ci ZK l:Int)-(Ci UH l:Int)
def most:Ul->Nat:=λl=>l.foldl (λm z=>if m<z.natAbs then z.natAbs else m) 0
def Gp (p:Ul):Rat:=Rat.divInt (((Fi p).natAbs:Int)+(most (p.take (p.length-1)):Int)) ((Fi p).natAbs:Int)
def mid (a b:Rat):Rat:=Rat.divInt (a.num*(b.den:Int)+b.num*(a.den:Int)) ((a.den:Int)*(b.den:Int)*2)
def If (p:Ul) (c:Um):Nat->Rat->Rat->Int->Option (List Tm)
 | 0,_,_,_=>none
 | k+1,lo,hi,n=>if n=0 then some [] else if n=1 then some [⟨p,lo,hi⟩] else (chq (mid lo hi)).bind λm=>(If p c k lo m (Td c lo m)).bind λl=>(If p c k m hi (n-Td c lo m)).bind λr=>some (l++r)
def SN (p:Ul):Option (List Tm):=(Cq p).bind λc=>(Sv p).bind λq=>(chq (Gp q)).bind λb=>If q c 100000 (-b) b (WY c)
def Tm.point (a:Tm):Bool:=decide (0<=Hd a.lo a.hi)
def low (p:Ul) (q:Rat):Int:=if H5 p q≠0 then H5 p q else H5 (Gk p) q
def UN (p:Ul) (lo hi:Rat):Bool:=decide (H5 p hi=0\/H5 p hi≠low p lo)
def Ff (a:Tm) (t:Rat):Int :=
 if a.point=true then Hd a.lo t else if Hd t a.lo<=0 then 1 else if 0<Hd t a.hi then -1 else if H5 a.p t=0 then 0 else if H5 a.p t=low a.p a.lo then 1 else -1
def jB (a:Tm):Option Tm:=if a.point=true then some a else (chq (mid a.lo a.hi)).bind λm =>
 some (if Ff a m=0 then ⟨a.p,m,m⟩ else if Ff a m=-1 then ⟨a.p,a.lo,m⟩ else ⟨a.p,m,a.hi⟩)
def Gy (p:Ul):Nat:=p.foldl (λn z=>max n (U9 z)) 0
def Pq (a b:Tm):Nat:=64+2*(U9 a.lo.num+U9 a.hi.num+U9 b.lo.num+U9 b.hi.num)+4*(a.p.length+b.p.length)*(Gy a.p+Gy b.p+(a.p.length+b.p.length)+8)
def EF (a b:Rat):Rat:=Rat.divInt (a.num*(b.den:Int)-b.num*(a.den:Int)) ((a.den:Int)*(b.den:Int))
def Dt (a b:Tm):Bool:=decide (Hd a.hi b.lo<=0/\¬((a.point=true/\b.point=true)/\Hd a.hi b.lo=0))
def AH:Nat->Tm->Tm->Option (Tm×Tm×Int)
 | 0,a,b=>some (a,b,0)
 |
  k+1,a,b=>if Dt a b=true then some (a,b,-1) else if Dt b a=true then some (a,b,1) else
  if 0<=Hd (EF a.hi a.lo) (EF b.hi b.lo) then (jB a).bind λx=>AH k x b else (jB b).bind λx=>AH k a x
def UX (a b:Tm):Option Int:=if a.point=true then some (-Ff b a.lo) else if b.point=true then some (Ff a b.lo) else
 let lo:=if 0<Hd b.lo a.lo then b.lo else a.lo
 let hi:=if Hd b.hi a.hi<0 then b.hi else a.hi
 if Hd lo hi<0 then (yO a.p b.p).bind λg=>if 1<g.length/\UN g lo hi=true then some 0 else (AH (Pq a b) a b).bind λr=>some r.2.2
 else (AH (Pq a b) a b).bind λr=>some r.2.2
def sgF (c:Um):Nat->Tm->Option Tm
 | 0,a=>some a
 | k+1,a=>if a.point=true\/Td c a.lo a.hi=0 then some a else (jB a).bind λx=>sgF c k x
def GQ (p:Ul) (a:Tm):Option Int:=if p.length=0 then some 0 else if a.point=true then some (H5 p a.lo) else
 (yO p a.p).bind λg=>if 1<g.length/\UN g a.lo a.hi=true then some 0 else (Cq p).bind λc=>(sgF c (64+2*(U9 a.lo.num+U9 a.hi.num)+4*(a.p.length+p.length)*(Gy a.p+Gy p+(a.p.length+p.length)+8)) a).bind λx=>some (H5 p x.hi)
def QT:Tm->List Tm->Option Tm
 | b,[]=>some b
 | b,a::l=>(UX a b).bind λc=>QT (if c<0 then a else b) l
def VS (a:Tm):List Tm->Option (Option Tm)
 | []=>some none
 | r::l=>(UX r a).bind λc=>if 0<c then some (some r) else VS a l
def QI (p:Ul):Option (List Tm):=(bF p).bind λq=>if q.length=0 then some [] else SN q
def SU (p:Ul) (a:Tm):Option (Option Tm):=(QI p).bind λl=>VS a l
end Orr
namespace Orr
open Go Go.Proofs Tryz
set_option maxRecDepth 10000
theorem L8 {p:Ul} (tp:U6 p) (h:p.length≠0):Fi p≠0:=Hy tp (by omega)
theorem DL {p:Ul} (h:p.length≠0):Fi p∈p:=Qa (Rp (by omega))
theorem M3 {s:Nat} {p:Ul} (h:Bd s p):U9 (Fi p)<=s:=Fj h _
theorem Ek {p:Ul}:∀ z∈p,S7 p∣z:=ZA
theorem XC {p:Ul} (tp:U6 p) (h:p.length≠0):S7 p≠0:=λh0=>L8 tp h (Int.zero_dvd.1 (h0 ▸ Ek _ (DL h)))
theorem YY {p:Ul} (h:Bd 4294967295 p):U9 (S7 p)<=4294967295:=MU h
theorem oQ {p:Ul} (tp:U6 p) (h:p.length≠0):Hi p≠0:=by
 have:=XC tp h;unfold Hi; split <;> omega
theorem FH {p:Ul}:∀ z∈p,Hi p∣z:=λz hz=>by
 unfold Hi; split
 ·exact Ub.2 (Ek z hz)
 ·exact Ek z hz
theorem Qh9 {p:Ul} (h:Bd 4294967295 p):U9 (Hi p)<=4294967295:=by
 unfold Hi; split
 ·rw [Ht]; exact YY h
 ·exact YY h
theorem NS {s:Nat} {p:Ul} (h:Bd s p) (c:Int):Bd s (Cw p c):=Su (HQ h c)
theorem qX (p:Ul) (c:Int):(Cw p c).length<=p.length:=Qc (Ru _) (by simp)
theorem QE (p:Ul) (c:Int):U6 (Cw p c):=Tg _
theorem Qjf {p:Ul} (h:Pb p) (c:Int):Pb (Cw p c):=⟨QE _ _,Qc (qX _ _) h.l,NS h.b c⟩
theorem RP:Pb []:=⟨rfl,by simp,VL⟩
theorem Rt {p:Ul} (h:Pb p):Pb (Fb p):=by
 unfold Fb; split
 ·exact RP
 ·exact Qjf h _
theorem Pb.bd {p:Ul} (h:Pb p):Bd 4294967295 p:=Ux h.b (by omega)
theorem Pb.ln {p:Ul} (h:Pb p):p.length<274877906944:=Z2 h.l (by omega)
theorem Pb.ln' {p:Ul} (h:Pb p):p.length<8589934592:=Z2 h.l (by omega)
theorem QY {p q:Ul} (tp:U6 p) (h:AX p=some q):q=p/\Pb p:=by
 unfold AX at h
 split at h
 ·rename_i hc;injection h with h;refine ⟨h.symm,tp,hc.1,λz hz=>?_⟩;have:=Jr.1 hc.2 z hz;exact Zg this
 ·cases h
theorem lT {p:Ul} {g:Int} (hl:p.length<274877906944) (hp:Bd 4294967295 p) (hg:U9 g≤4294967295) (h0:g≠0) (hd:∀ z∈p,g∣z):Ui 291 [pr p,.agg (Hg g)] [pr (Cw p g)]:=by
 refine Fw func291 rfl ?_;refine Ud [.r 9 (eI (b:=(p.length:Int)) (by simp)),.i p.length,.i p.length,.r 12 (eI (b:=(p.length:Int)) (by simp))] rfl ?_;rw [E6 λk=>Hg (p.getD k 0 / g)];refine Uh (S:=Nat) 2 (λL1 k=>(13,.v (.oi k))::L1) (λk=>[.blk 34 (Hg g),.row false 34 2 (AY (λk=>Hg (p.getD k 0 / g)) [.bool false,.nils] p.length k)]) (λk=>p.length-k) (λk=>k<=p.length) 0 (Qh _) rfl rfl λk hk=>?_
 by_cases hlt:k<p.length
 ·have hg2:=Rp hlt;refine go tt [.t (by simp; omega),.x (Pp hg2),.k (Ay (Uy _) (Uy _) (Fj hp k) hg h0 (Yp (hd _ (Qa hg2)))),.i k] rfl (by simp [Uw,Ia]; omega) ?_;have e:=QG (λk=>Hg (p.getD k 0 / g)) [.bool false,.nils] hlt;rw [e];exact rd (k+1) (by omega) hlt rfl
 ·obtain rfl:k=p.length:=by omega
  have e:AY (λk=>Hg (p.getD k 0 / g)) [.bool false,.nils] p.length p.length=(p.map (· / g)).map Hg:=by
   rw [QF];refine Xn λi=>?_
   by_cases hi:i<p.length
   ·simp [X6 hi,List.getD,Qe hi]
   ·simp [Qw,hi]
  rw [e];exact Ue [.f (by simp),.k (Ly (Gv (p.map (· / g))) (by simp; exact hl) (HQ hp g))] rfl
theorem HJ {p:Ul} (hl:p.length<8589934592) (hp:Bd 4294967295 p):Ui 292 [.one (.row [[pl p]])] [.agg (Hg (S7 p))]:=by
 refine Fw func292 rfl ?_;refine Uc [.o 3 34 2] rfl ?_;refine Uh (S:=Nat) 2 (λL1 i=>(8,.v (.oi i))::(3,.v (.one (.orow 1 2 none)))::L1) (λi=>[.blk 34 [.bool false,.nils],.row false 34 2 (if i=0 then [] else p.map Hg)]) (λi=>1-i) (λi=>i<=1) 0 (Qh _) rfl rfl λi hi=>?_
 rcases (show i=0\/i=1 by omega) with rfl | rfl
 ·refine Ud [.t rfl,.x (i:=0) (xs:=[pl p]) rfl,.s (LD p)] rfl ?_;exact rd 1 (by omega) (by omega) rfl
 ·exact Ue [.f rfl,.k (Qei (Gv p) hp)] rfl
theorem Qfr {p:Ul} (tp:U6 p) (hl':p.length<8589934592) (hp:Bd 4294967295 p):Ui 273 [pr p] [.agg (Hg (if p.length=0 then 0 else Hi p)),pr (Fb p)]:=by
 have hl:p.length<274877906944:=by omega
 have cn:=Hp tp hl hp;by_cases h0:p.length=0
 ·have e:p=[]:=Qj h0;subst e;exact Uf func273 rfl [.k cn,.t rfl] rfl (by simp [D5,Fb]; rfl) trivial
 ·have hpf:Fb p=Cw p (Hi p):=by unfold Fb; rw [if_neg h0]
  rw [if_neg h0,hpf];have co:=lT hl hp (Qh9 hp) (oQ tp h0) FH;by_cases hneg:Fi p<0
  ·have e:Hi p=-S7 p:=by unfold Hi; rw [if_pos hneg]
   rw [e] at co ⊢;exact Uf func273 rfl [.k cn,.f (by simpa using h0),.k (HJ hl' hp),.k (De tp hl hp),.t (by simpa [Fi] using hneg),.k (NA (Uy _) (YY hp)),.k co] rfl
  ·have e:Hi p=S7 p:=by unfold Hi; rw [if_neg hneg]
   rw [e] at co ⊢;exact Uf func273 rfl [.k cn,.f (by simpa using h0),.k (HJ hl' hp),.k (De tp hl hp),.f (by simpa [Fi] using hneg),.k co] rfl
theorem Az {p:Ul} (hp:Pb p):Ui 265 [pr p] [pr (Fb p)] :=
 Uf func265 rfl [.k (Qfr hp.t hp.ln' hp.bd)] rfl
theorem Mq (p:Ul):Ui 141 [pr p] [.oi ((p.length:Int)-1)]:=by
 have h:Ui 141 [pr p] [.oi (((p.map Hg).length:Int)-1)]:=Fw func141 rfl (ln 0 rfl rfl λhl=>Ue [] rfl rfl (by simp [Uw] at hl ⊢; omega));rw [Q8] at h; exact h
theorem I9 (i:Nat) (x:Int):(mono i x).length=i+1:=by simp [mono]
theorem NR {s i:Nat} {x:Int} (h:U9 x<=s):Bd s (mono i x):=λz hz=>by
 simp only [mono,Qq,Qk] at hz;rcases hz with hz | rfl
 ·rw [(List.mem_replicate.1 hz).2,M4]; exact Qh _
 ·exact h
def stq (c:Int) (i:Nat) (x:Int) (q:Ul):Ul:=ZU (Fo q c) (mono i x)
def str (b:Ul) (c:Int) (i:Nat) (x:Int) (r:Ul):Ul:=Mx (Fo r c) (Gf (trim (mono i x)) b)
theorem Qs2 {u t i:Nat} {c x:Int} {q:Ul} (hq:Bd u q) (hc:U9 c<=t) (hx:U9 x<=u):Bd (u+t+8) (stq c i x q) :=
 Ux (WB (Gd hq hc) (NR hx)) (by omega)
theorem Qoo {c x:Int} {i:Nat} {q:Ul}:(stq c i x q).length<=max q.length (i+1):=by
 have h:=Ac (Fo q c) (mono i x);have h1:=Fh q c;rw [I9] at h;unfold stq; omega
theorem jI {i:Nat} {x:Int} {b:Ul}:(Gf (trim (mono i x)) b).length<=i+b.length:=by
 have h:=Rq (trim (mono i x)) b;have h1:=Ru (mono i x);rw [I9] at h1; omega
theorem lZ {u t i:Nat} {x:Int} {b:Ul} (hb:Bd t b) (hx:U9 x<=u) (hi:i<=64):Bd (u+t+7) (Gf (trim (mono i x)) b) :=
 Mi (Su (NR hx)) hb (Z2 (Ru _) (by rw [I9]; omega))
theorem pK {u t i:Nat} {c x:Int} {b r:Ul} (hr:Bd u r) (hb:Bd t b) (hc:U9 c<=t) (hx:U9 x<=u) (hi:i<=64):Bd (u+t+8) (str b c i x r) :=
 Ux (Dd (Gd hr hc) (lZ hb hx hi)) (by omega)
theorem jO {c x:Int} {i:Nat} {b r:Ul}:(str b c i x r).length<=max r.length (i+b.length):=by
 have h:=S5 (Fo r c) (Gf (trim (mono i x)) b);have h1:=Fh r c;have h2:=jI (i:=i) (x:=x) (b:=b);unfold str; omega
theorem gR (i:Nat) (x:Int):((List.replicate (i+1) (0:Int)).map Hg).set i (Hg x)=(mono i x).map Hg:=by
 rw [bU,mono];congr 1;refine Xn λj=>?_
 simp only [Yl,List.getElem?_append,Jw,Jg];by_cases h:j=i
 ·subst h; simp
 ·rw [if_neg (by omega)];by_cases h2:j<i
  ·simp [h2]; omega
  ·rw [if_neg (by omega),if_neg h2];cases hj:j-i with
   | zero=>omega
   | succ m=>simp
theorem iF (i:Nat) {x:Int} {y:Uq} (h:y.map FQ=Hg x):(((List.replicate (i+1) [LV.bool false,LV.nils]).set i y).map λc=>c.map FQ)=(mono i x).map Hg:=by
 rw [Vw,MD,h]; exact gR i x
theorem XI {b:Ul} {c:Int} {i:Nat} {q r:Ul} {x:Int} (hx:x=if r.length=b.length+i then Fi r else 0):rA b c (i+1) (q,r)=rA b c i (stq c i x q,str b c i x r):=by
 subst hx; rfl
theorem Qey {a b:Ul} (ha:Pb a) (hb:Pb b) (h0:b.length≠0):Ui 289 [pr a,pr b] [pr (rA b (Fi b) (a.length+1-b.length) ([],a)).1,pr (Pz a b),.oi ((a.length+1-b.length:Nat):Int),.oi 0]:=by
 have hal:=ha.l;have hbl:=hb.l;have hlb:U9 (Fi b)<=16777216:=M3 hb.b;obtain ⟨c,hc⟩:=nmE (Fi b);have cl:=De hb.t hb.ln hb.bd;rw [show b.getD (b.length-1) 0=c from hc.symm] at cl;obtain ⟨k,hk⟩:=nmE (a.length+1-b.length);unfold Pz;rw [<-hc,<-hk];rw [<-hc] at hlb;refine Fw func289 rfl ?_;refine Ud [.z 4,.k (Hp ha.t ha.ln ha.bd),.k (Hp hb.t hb.ln hb.bd),.f (by simpa using h0),.k cl,.k (Mq a),.k (Mq b),.r 27 (eI (b:=(k:Int)) (by omega))] rfl ?_;refine Uh (S:=Nat×Ul×Ul) 1 (λL1 s=>(4,.v (pr s.2.1))::(5,.v (pr s.2.2))::(9,.v (.oi ((s.1:Int)-1)))::L1) (λ_=>[.blk 34 (Hg c)]) (λs=>s.1) (λs=>s.1<=k/\U6 s.2.2/\s.2.1.length<=66/\s.2.2.length<=a.length/\Bd (16777216+(k-s.1)*16777224) s.2.1/\Bd (16777216+(k-s.1)*16777224) s.2.2/\rA b c s.1 s.2=rA b c k ([],a)) (k,[],a) ⟨Ql _,ha.t,by simp,Ql _,VL,by simpa using ha.b,rfl⟩ rfl rfl λ⟨i,q,r⟩ ⟨j1,j2,j3,j4,j5,j6,j7⟩=>?_
 dsimp only at j1 j2 j3 j4 j5 j6 j7 ⊢;rw [<-j7];cases i with
 | zero=>exact Ue [.f (by simp)] rfl
 |
  succ i =>
  obtain ⟨x,hx⟩:=nmE (if r.length=b.length+i then Fi r else 0);obtain ⟨u,hu⟩:=nmE (16777216+(k-(i+1))*16777224);rw [<-hu] at j5 j6;have hub:u<=1107296256:=by
   have:(k-(i+1))*16777224<=64*16777224:=Qz _ (by omega);omega
  have hxs:U9 x<=u:=by
   rw [hx]; split
   ·exact M3 j6
   ·rw [M4]; exact Qh _
  have cs:=Mz (p:=q) (c:=c) (by omega) (Ux j5 (by omega)) (by omega);have cs2:=Mz (p:=r) (c:=c) (by omega) (Ux j6 (by omega)) (by omega);have l1:=Fh q c;have l2:=Fh r c;have ca:=xR (p:=Fo q c) (q:=mono i x) (by omega) (by rw [I9]; omega) (Ux (Gd j5 hlb) (by omega)) (Ux (NR hxs) (by omega));have cm:=xT (p0:=mono i x) hb.t (by rw [I9]; omega) (by omega) (NR hxs) hb.b (by omega);have l3:=jI (i:=i) (x:=x) (b:=b);have cb:=HV (p:=Fo r c) (q:=Gf (trim (mono i x)) b) (by omega) (by omega) (Ux (Gd j6 hlb) (by omega)) (Ux (lZ hb.b hxs (by omega)) (by omega));have hst:=XI (b:=b) (c:=c) (q:=q) hx;have hI:i<=k/\U6 (str b c i x r)/\(stq c i x q).length<=66/\(str b c i x r).length<=a.length/\Bd (16777216+(k-i)*16777224) (stq c i x q)/\Bd (16777216+(k-i)*16777224) (str b c i x r):=by
   have l5:=Qoo (c:=c) (x:=x) (i:=i) (q:=q);have l6:=jO (c:=c) (x:=x) (i:=i) (b:=b) (r:=r);have hku:u+16777216+8=16777216+(k-i)*16777224:=by
    rw [hu,show k-i=(k-(i+1))+1 from by omega,Xm]; omega
   refine ⟨by omega,Fq _ _,by omega,by omega,?_,?_⟩
   ·rw [<-hku]; exact Qs2 j5 hlb hxs
   ·rw [<-hku]; exact pK j6 hb.b hlb hxs (by omega)
  rw [hst];by_cases h:r.length=b.length+i
  ·refine Ud [.t (by simp <;> omega),.k (Mq r),.k (Mq b),.t (by simp; omega),.k (De j2 (by omega) (Ux j6 (by omega))),.r 44 (eI (b:=((i+1:Nat):Int)) (by omega)),.i (i+1),.i (i+1),.r 47 (eI (b:=(i:Int)) (by omega)),.i i] rfl ?_;refine nl 2 rfl rfl rfl ?_;rw [iF i (x:=x) (by rw [hx,if_pos h]; rfl)];refine Ud [.k cs,.k ca,.k cs2,.k cm,.k cb,.r 33 (eI (b:=(i:Int)-1) (by omega))] rfl ?_;exact rd (i,stq c i x q,str b c i x r) (by dsimp only; omega) ⟨hI.1,hI.2.1,hI.2.2.1,hI.2.2.2.1,hI.2.2.2.2.1,hI.2.2.2.2.2,rfl⟩ rfl
  ·refine Ud [.t (by simp <;> omega),.k (Mq r),.k (Mq b),.f (by simp; omega),.r 44 (eI (b:=((i+1:Nat):Int)) (by omega)),.i (i+1),.i (i+1),.r 47 (eI (b:=(i:Int)) (by omega)),.i i] rfl ?_;refine nl 2 rfl rfl rfl ?_;rw [iF i (x:=x) (by rw [hx,if_neg h,D5]; rfl)];refine Ud [.k cs,.k ca,.k cs2,.k cm,.k cb,.r 33 (eI (b:=(i:Int)-1) (by omega))] rfl ?_;exact rd (i,stq c i x q,str b c i x r) (by dsimp only; omega) ⟨hI.1,hI.2.1,hI.2.2.1,hI.2.2.2.1,hI.2.2.2.2.1,hI.2.2.2.2.2,rfl⟩ rfl
theorem Qjo {b:Ul} {c:Int} (hb:Bd 16777216 b) (hc:U9 c<=16777216) {n:Nat}:∀ (i u:Nat) (q r:Ul),i<=64->i+b.length<=n+1->U6 r->r.length<=n->Bd u r->U6 (rA b c i (q,r)).2/\(rA b c i (q,r)).2.length<=n/\Bd (u+i*16777224) (rA b c i (q,r)).2
 | 0,u,q,r,_,_,h1,h2,h3=>⟨h1,h2,by simpa [rA] using h3⟩
 |
  i+1,u,q,r,hi,hn,h1,h2,h3=>by
  rw [XI rfl];have hx:U9 (if r.length=b.length+i then Fi r else 0)<=u:=by
   split
   ·exact M3 h3
   ·rw [M4]; exact Qh _
  have l6:=jO (c:=c) (x:=if r.length=b.length+i then Fi r else 0) (i:=i) (b:=b) (r:=r);have:=Qjo hb hc (n:=n) i (u+16777216+8) (stq c i (if r.length=b.length+i then Fi r else 0) q) (str b c i (if r.length=b.length+i then Fi r else 0) r) (by omega) (by omega) (Fq _ _) (by omega) (pK h3 hb hc hx (by omega));exact ⟨this.1,this.2.1,Ux this.2.2 (by omega)⟩
theorem oV {a b:Ul} (ha:Pb a) (hb:Pb b) (h0:b.length≠0):U6 (Pz a b)/\(Pz a b).length<=a.length/\Bd 1107296256 (Pz a b):=by
 have hal:=ha.l;by_cases h:b.length<=a.length+1
 ·obtain ⟨h1,h2,h3⟩:=Qjo hb.b (M3 hb.b) (n:=a.length) (a.length+1-b.length) 16777216 [] a (by omega) (by omega) ha.t (Ql _) ha.b;refine ⟨h1,h2,Ux h3 ?_⟩;have:(a.length+1-b.length)*16777224<=64*16777224:=Qz _ (by omega);omega
 ·have e:Pz a b=a:=by unfold Pz; rw [show a.length+1-b.length=0 from by omega]; rfl
  rw [e];exact ⟨ha.t,Ql _,Ux ha.b (by omega)⟩
theorem FP {a b r:Ul} {s n:Nat} (h1:U6 r) (h2:r.length<=n) (h3:Bd s r):U6 (Ba a b r)/\(Ba a b r).length<=n/\Bd s (Ba a b r):=by
 unfold Ba; split
 ·exact ⟨Fq _ _,Qc (I7 r) h2,PN h3⟩
 ·exact ⟨h1,h2,h3⟩
theorem LA {r:Ul} {s n:Nat} (h2:r.length<=n) (h3:Bd s r):U6 (VP r)/\(VP r).length<=n/\Bd s (VP r):=by
 unfold VP; split
 ·exact ⟨rfl,by simp,VL⟩
 ·exact ⟨QE _ _,Qc (qX _ _) h2,NS h3 _⟩
theorem FT {a b:Ul} (ha:Pb a) (hb:Pb b) (h0:b.length≠0):U6 (Rk a b)/\(Rk a b).length<=a.length/\Bd 1107296256 (Rk a b):=by
 obtain ⟨h1,h2,h3⟩:=oV ha hb h0;obtain ⟨h4,h5,h6⟩:=FP (a:=a) (b:=b) h1 h2 h3;exact LA h5 h6
theorem Qe1 {a b:Ul} (ha:Pb a) (hb:Pb b) (h0:b.length≠0):Ui 266 [pr a,pr b] [pr (Rk a b),.oi 0]:=by
 obtain ⟨h1,h2,h3⟩:=oV ha hb h0;obtain ⟨h4,h5,h6⟩:=FP (a:=a) (b:=b) h1 h2 h3;have hal:=ha.l;have cp:=Qey ha hb h0;have cl:=De hb.t hb.ln hb.bd;have cn:=Qev (p:=Pz a b) (by omega) (Ux h3 (by omega));unfold Rk;obtain ⟨r,hr⟩:=nmE (Ba a b (Pz a b));have cc:=HJ (p:=r) (by rw [hr]; omega) (by rw [hr]; exact Ux h6 (by omega));rw [<-hr] at h4 h5 h6 ⊢;obtain ⟨k,hk⟩:=nmE (a.length+1-b.length);rw [<-hk] at cp;have em:((k:Int).tmod 2)=((k % 2:Nat):Int):=by rw [Y3 (by omega)]; omega
 have key:VP r=if r.length=0 then [] else Cw r (S7 r):=rfl
 by_cases hz:r.length=0
 ·rw [key,if_pos hz];by_cases hodd:k % 2=1
  ·by_cases hneg:Fi b<0
   ·have e:r=P9 (Pz a b):=by rw [hr]; unfold Ba; rw [if_pos ⟨by rw [<-hk]; exact hodd,hneg⟩]
    rw [e] at hz;exact Uf func266 rfl [.k cp,.f (by simp),.r 22 (eI em),.t (by simp; omega),.k cl,.t (by simpa [Fi] using hneg),.k cn,.t (by simpa using hz)] rfl rfl (by simp [Uw])
   ·have e:r=Pz a b:=by rw [hr]; unfold Ba; rw [if_neg (λh=>hneg h.2)]
    rw [e] at hz;exact Uf func266 rfl [.k cp,.f (by simp),.r 22 (eI em),.t (by simp; omega),.k cl,.f (by simpa [Fi] using hneg),.t (by simpa using hz)] rfl rfl (by simp [Uw])
  ·have e:r=Pz a b:=by rw [hr]; unfold Ba; rw [if_neg (λh=>hodd (by rw [hk]; exact h.1))]
   rw [e] at hz;exact Uf func266 rfl [.k cp,.f (by simp),.r 22 (eI em),.f (by simp; omega),.f rfl,.t (by simpa using hz)] rfl rfl (by simp [Uw])
 ·rw [key,if_neg hz];have cd:=lT (p:=r) (g:=S7 r) (by omega) (Ux h6 (by omega)) (YY (Ux h6 (by omega))) (XC h4 hz) Ek;by_cases hodd:k % 2=1
  ·by_cases hneg:Fi b<0
   ·have e:r=P9 (Pz a b):=by rw [hr]; unfold Ba; rw [if_pos ⟨by rw [<-hk]; exact hodd,hneg⟩]
    rw [e] at hz cc cd ⊢;exact Uf func266 rfl [.k cp,.f (by simp),.r 22 (eI em),.t (by simp; omega),.k cl,.t (by simpa [Fi] using hneg),.k cn,.f (by simpa using hz),.k cc,.k cd] rfl rfl (by simp [Uw])
   ·have e:r=Pz a b:=by rw [hr]; unfold Ba; rw [if_neg (λh=>hneg h.2)]
    rw [e] at hz cc cd ⊢;exact Uf func266 rfl [.k cp,.f (by simp),.r 22 (eI em),.t (by simp; omega),.k cl,.f (by simpa [Fi] using hneg),.f (by simpa using hz),.k cc,.k cd] rfl rfl (by simp [Uw])
  ·have e:r=Pz a b:=by rw [hr]; unfold Ba; rw [if_neg (λh=>hodd (by rw [hk]; exact h.1))]
   rw [e] at hz cc cd ⊢;exact Uf func266 rfl [.k cp,.f (by simp),.r 22 (eI em),.f (by simp; omega),.f rfl,.f (by simpa using hz),.k cc,.k cd] rfl rfl (by simp [Uw])
theorem Qom {s:Nat} {x:Int} (h:U9 x<=s) (g:Int):U9 (x / g)<=s:=HQ (p:=[x]) (λz hz=>by rw [Qk.1 hz]; exact h) g _ (by simp)
def sta (b:Ul) (i:Nat) (x:Int) (a:Ul):Ul:=Mx a (Gf (trim (mono i x)) b)
theorem Qs1 {u t i:Nat} {x:Int} {b a:Ul} (ha:Bd u a) (hb:Bd t b) (hx:U9 x<=u) (hi:i<=64):Bd (u+t+8) (sta b i x a) :=
 Ux (Dd ha (lZ hb hx hi)) (by omega)
theorem iQ {x:Int} {i:Nat} {b a:Ul}:(sta b i x a).length<=max a.length (i+b.length):=by
 have h:=S5 a (Gf (trim (mono i x)) b);have h2:=jI (i:=i) (x:=x) (b:=b);unfold sta; omega
theorem Qmb (s n:Nat):Bd s (List.replicate n 0):=λz hz=>by rw [(List.mem_replicate.1 hz).2,M4]; exact Qh _
theorem Qs0 {s i:Nat} {l:Ul} {x:Int} (h:Bd s l) (hx:U9 x<=s):Bd s (l.set i x):=λz hz=>by
 rcases Jp hz with hz | rfl
 ·exact h z hz
 ·exact hx
theorem Qet {a b q:Ul} (ha:Pb a) (hb:Pb b) (h:XA a b=some q):Ui 305 [pr a,pr b] [pr q,.oi 0]:=by
 unfold XA at h
 split at h
 ·cases h
 rename_i h0;obtain ⟨k,hk⟩:=nmE (a.length+1-b.length);rw [<-hk] at h;obtain ⟨q',hq,hq2⟩:=Qd.1 h;obtain ⟨rfl,hpb⟩:=QY (Tg _) hq2;have hal:=ha.l;have hbl:=hb.l;refine Fw func305 rfl ?_;refine Ud [.k (Hp ha.t ha.ln ha.bd),.k (Hp hb.t hb.ln hb.bd),.f (by simpa using h0),.r 24 (eI (b:=(k:Int)) (by simp; omega)),.i k,.i k,.r 27 (eI (b:=(k:Int)) (by simp))] rfl ?_;refine nl 0 rfl rfl rfl ?_;rw [MD];refine Uh (S:=Nat×Ul×Ul) 1 (λL1 s=>(0,.v (pr s.2.1))::(7,.v (.oi ((s.1:Int)-1)))::L1) (λs=>[.row false 34 2 (s.2.2.map Hg)]) (λs=>s.1) (λs=>s.1<=k/\U6 s.2.1/\s.2.1.length<=a.length/\Bd (16777216+(k-s.1)*16777224) s.2.1/\s.2.2.length=k/\Bd 1107296256 s.2.2/\yA b s.1 s.2.1 s.2.2=some q') (k,a,List.replicate k 0) ⟨Ql _,ha.t,Ql _,by simpa using ha.b,by simp,Qmb _ _,hq⟩ rfl rfl λ⟨i,A,Q⟩ ⟨j1,j2,j3,j4,j5,j7,j6⟩=>?_
 dsimp only at j1 j2 j3 j4 j5 j6 j7 ⊢;cases i with
 |
  zero =>
  simp only [yA] at j6
  split at j6
  ·rename_i hA;injection j6 with j6; subst j6;exact Ue [.f (by simp),.f (by simpa using hA),.k (Ly (Gv Q) (by omega) (Ux j7 (by omega)))] rfl
  ·cases j6
 |
  succ i =>
  obtain ⟨u,hu⟩:=nmE (16777216+(k-(i+1))*16777224);rw [<-hu] at j4;have hub:u<=1107296256:=by
   have:(k-(i+1))*16777224<=64*16777224:=Qz _ (by omega);omega
  have hku:u+16777216+8=16777216+(k-i)*16777224:=by
   rw [hu,show k-i=(k-(i+1))+1 from by omega,Xm]; omega
  simp only [yA] at j6;by_cases hlt:A.length<b.length+i
  ·rw [if_pos hlt] at j6;refine Ud [.t (by simp <;> omega),.k (Mq A),.k (Mq b),.t (by simp; omega),.r 32 (eI (b:=(i:Int)-1) (by omega))] rfl ?_;exact rd (i,A,Q) (by dsimp only; omega) ⟨by dsimp only; omega,j2,j3,Ux j4 (by dsimp only; omega),j5,j7,j6⟩ rfl
  ·rw [if_neg hlt] at j6
   split at j6
   ·rename_i hdv;obtain ⟨x,hx⟩:=nmE (Fi A / Fi b);rw [<-hx] at j6;have hxs:U9 x<=u:=by rw [hx]; exact Qom (M3 j4) _
    have ce:=Ay (Uy (Fi A)) (Uy (Fi b)) (Qc (M3 j4) (by omega)) (Qc (M3 hb.b) (by omega)) (L8 hb.t h0) hdv;rw [<-hx] at ce;have cm:Ui 177 [.one (.row ((mono i x).map Hg)),pr b] [pr (Gf (trim (mono i x)) b)]:=xT (p0:=mono i x) hb.t (by rw [I9]; omega) (by omega) (NR hxs) hb.b (by omega);have l3:=jI (i:=i) (x:=x) (b:=b);have l4:=iQ (i:=i) (x:=x) (b:=b) (a:=A);have cb:=HV (p:=A) (q:=Gf (trim (mono i x)) b) (by omega) (by omega) (Ux j4 (by omega)) (Ux (lZ hb.b hxs (by omega)) (by omega));refine Ud [.t (by simp <;> omega),.k (Mq A),.k (Mq b),.f (by simp; omega),.k (De j2 (by omega) (Ux j4 (by omega))),.k (De hb.t hb.ln hb.bd),.k ce,.f rfl,.r 51 (eI (b:=(i:Int)) (by omega)),.i i,.r 55 (eI (b:=((i+1:Nat):Int)) (by omega)),.i (i+1),.i (i+1),.r 58 (eI (b:=(i:Int)) (by omega))] rfl ?_;refine nl 2 rfl rfl rfl ?_;rw [MD,bU];rw [<-gR i x] at cm;refine Ud [.i i,.k cm,.k cb,.r 32 (eI (b:=(i:Int)-1) (by omega))] rfl ?_;exact rd (i,sta b i x A,Q.set i x) (by dsimp only; omega) ⟨by dsimp only; omega,Fq _ _,by dsimp only; omega,by dsimp only; rw [<-hku]; exact Qs1 j4 hb.b hxs (by omega),by simpa using j5,Qs0 j7 (Nat.le_trans hxs hub),j6⟩ rfl
   ·cases j6
theorem bK {a b q:Ul} (h:XA a b=some q):Pb q:=by
 unfold XA at h
 split at h
 ·cases h
 ·obtain ⟨q',_,hq2⟩:=Qd.1 h;obtain ⟨rfl,hpb⟩:=QY (Tg _) hq2;exact hpb
theorem Qfw {a b q:Ul} (ha:Pb a) (hb:Pb b) (h:XA a b=some q):Ui 294 [pr a,pr b] [pr q] :=
 Uf func294 rfl [.k (Qet ha hb h)] rfl
theorem kQ:∀ {k:Nat} {a b g:Ul},Pb a->Pb b->TU k a b=some g->Pb g
 | 0,_,_,_,_,_,h=>by cases h
 |
  k+1,a,b,g,ha,hb,h=>by
  simp only [TU] at h
  split at h
  ·injection h with h; subst h; exact ha
  ·rename_i h0;obtain ⟨r,hr,h⟩:=Qd.1 h;obtain ⟨rfl,hpb⟩:=QY (FT ha hb h0).1 hr;exact kQ hb hpb h
theorem lE {a b g:Ul} (ha:Pb a) (hb:Pb b) (h:XO a b=some g):Ui 233 [pr a,pr b] [pr g]:=by
 unfold XO at h;obtain ⟨g',h2,rfl⟩:=Yu.1 h;have hg:=kQ (Rt ha) (Rt hb) h2;refine Fw func233 rfl ?_;refine Uc [.k (Az ha),.k (Az hb)] rfl ?_;refine Uh (S:=Nat×Ul×Ul) 0 (λL1 s=>(0,.v (pr s.2.1))::(1,.v (pr s.2.2))::L1) (λ_=>[]) (λs=>s.1) (λs=>Pb s.2.1/\Pb s.2.2/\TU s.1 s.2.1 s.2.2=some g') (66,Fb a,Fb b) ⟨Rt ha,Rt hb,h2⟩ rfl rfl λ⟨k,A,C⟩ ⟨j1,j2,j3⟩=>?_
 dsimp only at j1 j2 j3 ⊢;cases k with
 | zero=>cases j3
 |
  succ k =>
  simp only [TU] at j3
  split at j3
  ·rename_i h0;injection j3 with j3; subst j3;exact Ue [.f (by simpa using h0),.k (Az j1)] rfl
  ·rename_i h0;obtain ⟨r,hr,j3⟩:=Qd.1 j3;obtain ⟨rfl,hpb⟩:=QY (FT j1 j2 h0).1 hr;refine Uc [.t (by simp; omega),.k (Qe1 j1 j2 h0)] rfl ?_;exact rd (k,C,Rk A C) (by dsimp only; omega) ⟨j2,hpb,j3⟩ rfl
theorem RB {a b g:Ul} (ha:Pb a) (hb:Pb b) (h:XO a b=some g):Pb g:=by
 unfold XO at h;obtain ⟨g',h2,rfl⟩:=Yu.1 h;exact Rt (kQ (Rt ha) (Rt hb) h2)
theorem Qeu {a b g:Ul} (ha:Pb a) (hb:Pb b) (h:yO a b=some g):Ui 189 [.one (.row (S6 [a,b]))] [pr g]:=by
 unfold yO at h;obtain ⟨g1,h1,h2⟩:=Qd.1 h;have hg1:=RB RP ha h1;refine Fw func189 rfl ?_;refine Uc [.z 3] rfl ?_;refine Uh (S:=Nat) 0 (λL1 i=>(8,.v (.oi i))::(3,.v (pr (if i=0 then [] else if i=1 then g1 else g)))::L1) (λ_=>[]) (λi=>2-i) (λi=>i<=2) 0 (Qh _) rfl rfl λi hi=>?_
 rcases (show i=0\/i=1\/i=2 by omega) with rfl | rfl | rfl
 ·refine Uc [.t rfl,.x (Rh (i:=0) (p:=a) rfl),.k (lE RP ha h1)] rfl ?_ (by simp [Uw]);exact rd 1 (by omega) (by omega) rfl
 ·refine Uc [.t rfl,.x (Rh (i:=1) (p:=b) rfl),.k (lE hg1 hb h2)] rfl ?_ (by simp [Uw]);exact rd 2 (by omega) (by omega) rfl
 ·exact Ue [.f rfl] rfl
theorem Qjc {a b g:Ul} (ha:Pb a) (hb:Pb b) (h:yO a b=some g):Pb g:=by
 unfold yO at h;obtain ⟨g1,h1,h2⟩:=Qd.1 h;exact RB (RB RP ha h1) hb h2
theorem LP {p d:Ul} (h:AX (Gk p)=some d):d=Gk p/\Pb (Gk p):=QY (Fq _ _) h
theorem BX {a g:Ul} (ha:Pb a) (h:Sv a=some g):Ui 272 [pr a] [pr g]:=by
 have hp:=Rt ha;unfold Sv at h
 split at h
 ·rename_i h0;injection h with h; subst h;exact Uf func272 rfl [.k (Az ha),.k (Mq _),.t (by simp; omega)] rfl
 ·rename_i h0;obtain ⟨d,h1,h⟩:=Qd.1 h;obtain ⟨rfl,hd⟩:=LP h1;obtain ⟨g1,h1,h⟩:=Qd.1 h;exact Uf func272 rfl [.k (Az ha),.k (Mq _),.f (by simp; omega),.k (Iw hp.ln hp.bd),.k (lE hp hd h1),.k (Qfw hp (RB hp hd h1) h)] rfl
theorem RN {a g:Ul} (ha:Pb a) (h:Sv a=some g):Pb g:=by
 unfold Sv at h
 split at h
 ·injection h with h; subst h; exact Rt ha
 ·obtain ⟨d,h1,h⟩:=Qd.1 h;obtain ⟨g1,h1,h⟩:=Qd.1 h;exact bK h
theorem Qjd {p:Ul} (h:Pb p):Pb (P9 p):=⟨Fq _ _,Qc (I7 p) h.l,PN h.b⟩
theorem mY:∀ {k:Nat} {a b:Ul} {l:Um},Pb a->Pb b->kR k a b=some l->l.length≤k/\∀ p∈l,Pb p
 | 0,_,_,_,_,_,h=>by cases h
 |
  k+1,a,b,l,ha,hb,h=>by
  simp only [kR] at h
  split at h
  ·injection h with h; subst h; exact ⟨by simp,λp hp=>by cases hp⟩
  ·rename_i h0;obtain ⟨r,hr,h⟩:=Qd.1 h;obtain ⟨rfl,hpb⟩:=QY (FT ha hb h0).1 hr;obtain ⟨l',h1,h⟩:=Qd.1 h;injection h with h; subst h;obtain ⟨i1,i2⟩:=mY hb (Qjd hpb) h1;refine ⟨by simp; exact i1,λp hp=>?_⟩;rcases Qm.1 hp with rfl | hp
   ·exact hb
   ·exact i2 p hp
theorem chain_ok {p:Ul} {l:Um} (hp:Pb p) (h:Cq p=some l):l.length≤67/\∀ q∈l,Pb q:=by
 unfold Cq at h;obtain ⟨a,h1,h⟩:=Qd.1 h;have ha:=RN hp h1
 split at h
 ·cases h
 ·obtain ⟨d,h2,h⟩:=Qd.1 h;obtain ⟨rfl,hd⟩:=LP h2;obtain ⟨l',h3,h⟩:=Qd.1 h;injection h with h; subst h;obtain ⟨i1,i2⟩:=mY ha (Rt hd) h3;refine ⟨by simp; omega,λp hp=>?_⟩;rcases Qm.1 hp with rfl | hp
  ·exact ha
  ·exact i2 p hp
theorem LL (l:Um) (p:Ul):S6 l++[[pl p]]=S6 (l++[p]):=by simp [S6]
theorem El (l:Um):(S6 l).length=l.length:=by simp [S6]
theorem Qe3 {p:Ul} {l:Um} (hp:Pb p) (h:Cq p=some l):Ui 243 [pr p] [.one (.sh [.row (S6 l)]),.oi 0]:=by
 unfold Cq at h;obtain ⟨a,h1,h⟩:=Qd.1 h;have ha:=RN hp h1
 split at h
 ·cases h
 rename_i h0;obtain ⟨d,h2,h⟩:=Qd.1 h;obtain ⟨rfl,hd⟩:=LP h2;obtain ⟨l',h3,h⟩:=Qd.1 h;injection h with h; subst h;refine Fw func243 rfl ?_;refine Uc [.k (BX hp h1),.f (by simpa using h0),.lo,.k (Iw ha.ln ha.bd),.k (Qfr hd.t hd.ln' hd.bd)] rfl ?_ (by simp [Uw]);obtain ⟨z,hz⟩:=nmE (if (Gk a).length=0 then 0 else Hi (Gk a));rw [<-hz];refine sb [(4,.v (pr a)),(7,.v (pr (Fb (Gk a)))),(5,.v (.one (.ow 1 0)))] [.row false 31 1 [[pl a]],.blk 340 [.orow 0 1 none],.blk 34 (Hg z)] rfl rfl ?_;have hll:=(mY ha (Rt hd) h3).1;refine Uh (S:=Nat×Um×Ul×Ul) 3 (λL1 s=>(4,.v (pr s.2.2.1))::(7,.v (pr s.2.2.2))::L1) (λs=>[.row false 31 1 (S6 s.2.1),.blk 340 [.orow 0 1 none],.blk 34 (Hg z)]) (λs=>s.1) (λs=>Pb s.2.2.1/\Pb s.2.2.2/\∃ m,kR s.1 s.2.2.1 s.2.2.2=some m/\s.2.1++m=a::l') (66,[a],a,Fb (Gk a)) ⟨ha,Rt hd,l',h3,rfl⟩ rfl rfl λ⟨k,out,A,C⟩ ⟨j1,j2,m,j3,j4⟩=>?_
 dsimp only at j1 j2 j3 j4 ⊢;have hol:out.length<=67:=by have:=congrArg List.length j4; simp at this; omega
 cases k with
 | zero=>cases j3
 |
  succ k =>
  simp only [kR] at j3
  split at j3
  ·rename_i h0;injection j3 with j3; subst j3;rw [Zv] at j4;rw [<-j4];exact Ue [.f (by simpa using h0)] rfl
  ·rename_i h0;obtain ⟨r,hr,j3⟩:=Qd.1 j3;obtain ⟨rfl,hpb⟩:=QY (FT j1 j2 h0).1 hr;obtain ⟨m',j6,j5⟩:=Qd.1 j3;injection j5 with j5; subst j5;refine go tt [.t (by simp; omega),.s (sz:=1) (λc hc=>by rw [Qk.1 hc]; rfl),.k (Qe1 j1 j2 h0),.k (Qev hpb.ln hpb.bd)] rfl (by simp [Uw,El]; omega) ?_;exact rd (k,out++[C],C,P9 (Rk A C)) (by dsimp only; omega) ⟨j2,Qjd hpb,m',j6,by rw [<-j4]; simp⟩ (by rw [LL]; rfl)
structure Tb (t:Tm):Prop where
 p:Pb t.p
 lo:Qb t.lo
 hi:Qb t.hi
theorem eS (x y:Int):-1<=Dv x y/\Dv x y<=1:=by unfold Dv; split <;> (try split) <;> omega
theorem QV (a b:Rat):-1<=Hd a b/\Hd a b<=1:=eS _ _
theorem On (p:Ul) (q:Rat):-1<=H5 p q/\H5 p q<=1:=eS _ _
theorem nM (p:Ul) (q:Rat):-1<=low p q/\low p q<=1:=by unfold low; split <;> exact On _ _
theorem Qb.s31 {q:Rat} (h:Qb q):Qs 2147483647 q:=h.mono (by decide)
theorem Qb.s32 {q:Rat} (h:Qb q):Qs 4294967295 q:=h.mono (by decide)
theorem PX {p:Ul} {q:Rat} (hp:Pb p) (hq:Qb q):Ui 231 [pr p,.agg (rl q)] [.oi (H5 p q)]:=by
 have hm:p.length*(16777216+1)<=64*16777217:=Qz _ hp.l;exact lW hp.t hp.ln hp.b hq (by omega)
theorem Qxp {p:Ul} {q:Rat} (hp:Pb p) (hq:Qb q):Ui 231 [pr (Gk p),.agg (rl q)] [.oi (H5 (Gk p) q)]:=by
 have hl:=Qc (P7 p) (show p.length-1<=64 by have:=hp.l; omega);have hm:(Gk p).length*(16777216+1)<=64*16777217:=Qz _ hl;exact lW (Fq _ _) (Z2 hl (by omega)) (xF (t:=6) hp.b hp.l) hq (by omega)
theorem Du {t:Tm} (ht:Tb t):Ui 187 [.agg (ta t)] [.one (.bool t.point)] :=
 Uf func187 rfl [.k (C5 ht.lo.s31 ht.hi.s31)] rfl
theorem PO {t:Tm} (ht:Tb t):Ui 186 [.agg (ta t)] [.agg (ta t)] :=
 Uf func186 rfl [.k (Hp ht.p.t ht.p.ln ht.p.bd),.k (Bu ht.lo.s32),.k (Bu ht.hi.s32)] rfl
theorem Qf1 {t:Tm} (ht:Tb t):Ui 230 [.agg (ta t)] [.agg (ta t)]:=Uf func230 rfl [.k (PO ht)] rfl
theorem Qfl {p:Ul} {q:Rat} (hp:Pb p) (hq:Qb q):Ui 232 [pr p,.agg (rl q)] [.oi (low p q)]:=by
 unfold low;by_cases h:H5 p q=0
 ·rw [if_neg (by simpa using h)];exact Uf func232 rfl [.k (PX hp hq),.f (by simpa using h),.k (Iw hp.ln hp.bd),.k (Qxp hp hq)] rfl
 ·rw [if_pos h];exact Uf func232 rfl [.k (PX hp hq),.t (by simpa using h)] rfl
theorem Qfj {p:Ul} {lo hi:Rat} (hp:Pb p) (hl:Qb lo) (hh:Qb hi):Ui 190 [pr p,.agg (rl lo),.agg (rl hi)] [.one (.bool (UN p lo hi))]:=by
 by_cases h:H5 p hi=0
 ·exact Uf func190 rfl [.k (PX hp hh),.t (by simpa using h)] rfl (by simp [UN,h]) trivial
 ·exact Uf func190 rfl [.k (PX hp hh),.f (by simpa using h),.k (Qfl hp hl)] rfl (by simp [UN,h]) trivial
theorem C0 {t:Tm} {q:Rat} (ht:Tb t) (hq:Qb q):Ui 188 [.agg (ta t),.agg (rl q)] [.oi (Ff t q)]:=by
 have cp:=Du ht;unfold Ff;by_cases h1:t.point=true
 ·rw [if_pos h1];exact Uf func188 rfl [.k cp,.t h1,.k (C5 ht.lo.s31 hq.s31)] rfl
 rw [if_neg h1];have h1:t.point=false:=by simpa using h1
 have c1:=C5 hq.s31 ht.lo.s31;have c2:=C5 hq.s31 ht.hi.s31;by_cases h2:Hd q t.lo<=0
 ·rw [if_pos h2];exact Uf func188 rfl [.k cp,.f h1,.k c1,.t (by simpa using h2)] rfl
 rw [if_neg h2];by_cases h3:0<Hd q t.hi
 ·rw [if_pos h3];exact Uf func188 rfl [.k cp,.f h1,.k c1,.f (by simpa using h2),.k c2,.t (by simpa using h3)] rfl
 rw [if_neg h3];by_cases h4:H5 t.p q=0
 ·rw [if_pos h4];exact Uf func188 rfl [.k cp,.f h1,.k c1,.f (by simpa using h2),.k c2,.f (by simpa using h3),.k (PX ht.p hq),.t (by simpa using h4)] rfl
 rw [if_neg h4];by_cases h5:H5 t.p q=low t.p t.lo
 ·rw [if_pos h5];exact Uf func188 rfl [.k cp,.f h1,.k c1,.f (by simpa using h2),.k c2,.f (by simpa using h3),.k (PX ht.p hq),.f (by simpa using h4),.k (Qfl ht.p ht.lo),.t (by simpa using h5)] rfl
 ·rw [if_neg h5];exact Uf func188 rfl [.k cp,.f h1,.k c1,.f (by simpa using h2),.k c2,.f (by simpa using h3),.k (PX ht.p hq),.f (by simpa using h4),.k (Qfl ht.p ht.lo),.f (by simpa using h5)] rfl
theorem Qnt (t:Tm) (q:Rat):-1<=Ff t q/\Ff t q<=1:=by
 unfold Ff;have:=QV t.lo q
 repeat' split
 all_goals omega
theorem Qn2 (q:Rat):0<(q.den:Int):=by have:=q.den_pos; omega
theorem Qrh {a b:Rat} (ha:Qb a) (hb:Qb b):Ui 268 [.agg (rl a),.agg (rl b)] [.agg (rl (mid a b))]:=by
 have h1:U9 (a.num*(b.den:Int))<=33554432:=Qc (Gh _ _) (by have:=ha.1; have:=hb.2; omega);have h2:U9 (b.num*(a.den:Int))<=33554432:=Qc (Gh _ _) (by have:=hb.1; have:=ha.2; omega);have h3:U9 ((a.den:Int)*(b.den:Int))<=33554432:=Qc (Gh _ _) (by have:=ha.2; have:=hb.2; omega);have h4:U9 (2:Int)<=2:=by decide
 have h5:U9 (a.num*(b.den:Int)+b.num*(a.den:Int))<=33554433:=Qc (YJ _ _) (by omega);have h6:U9 ((a.den:Int)*(b.den:Int)*2)<=33554434:=Qc (Gh _ _) (by omega);have h0:(a.den:Int)*(b.den:Int)*2≠0:=by
  have:=Int.mul_pos (Qn2 a) (Qn2 b); omega
 exact Uf func268 rfl [.k (xC ha.s31 hb.s31),.k (VO (Uy _) (Uy _) (by omega) (by omega)),.k (xH (z:=2) (by decide)),.k (Nj (Uy _) (Uy _) (by omega) (by omega)),.k (ZT h0 (by omega) (by omega))] rfl
theorem xO {a b:Rat} (ha:Qb a) (hb:Qb b):Ui 235 [.agg (rl a),.agg (rl b)] [.agg (rl (EF a b))]:=by
 have h1:U9 (a.num*(b.den:Int))<=33554432:=Qc (Gh _ _) (by have:=ha.1; have:=hb.2; omega);have h2:U9 (b.num*(a.den:Int))<=33554432:=Qc (Gh _ _) (by have:=hb.1; have:=ha.2; omega);have h3:U9 ((a.den:Int)*(b.den:Int))<=33554432:=Qc (Gh _ _) (by have:=ha.2; have:=hb.2; omega);have h5:U9 (a.num*(b.den:Int)-b.num*(a.den:Int))<=33554433:=Qc (jA _ _) (by omega);have h0:(a.den:Int)*(b.den:Int)≠0:=by
  have:=Int.mul_pos (Qn2 a) (Qn2 b); omega
 exact Uf func235 rfl [.k (xC ha.s31 hb.s31),.k (Qfe (Uy _) (Uy _) (by omega) (by omega)),.k (ZT h0 (by omega) (by omega))] rfl
theorem BM {q r:Rat} (h:chq q=some r):r=q/\Qb q:=by
 unfold chq at h
 split at h
 ·rename_i hc; injection h with h; exact ⟨h.symm,hc⟩
 ·cases h
theorem pO {t u:Tm} (ht:Tb t) (h:jB t=some u):Ui 236 [.agg (ta t)] [.agg (ta u)]:=by
 have cp:=Du ht;unfold jB at h
 split at h
 ·rename_i h1;injection h with h; subst h;exact Uf func236 rfl [.k cp,.t h1] rfl
 ·rename_i h1;have h1:t.point=false:=by simpa using h1
  obtain ⟨m,hm0,h⟩:=Qd.1 h;obtain ⟨rfl,hm⟩:=BM hm0;injection h with h;subst h;have cm:=Qrh ht.lo ht.hi;have cc:=C0 ht hm;by_cases h2:Ff t (mid t.lo t.hi)=0
  ·rw [if_pos h2];exact Uf func236 rfl [.k cp,.f h1,.k cm,.k cc,.t (by simpa using h2)] rfl
  rw [if_neg h2];by_cases h3:Ff t (mid t.lo t.hi)=-1
  ·rw [if_pos h3];exact Uf func236 rfl [.k cp,.f h1,.k cm,.k cc,.f (by simpa using h2),.t (by simpa using h3)] rfl
  ·rw [if_neg h3];exact Uf func236 rfl [.k cp,.f h1,.k cm,.k cc,.f (by simpa using h2),.f (by simpa using h3)] rfl
theorem vB {t u:Tm} (ht:Tb t) (h:jB t=some u):Tb u:=by
 unfold jB at h
 split at h
 ·injection h with h; subst h; exact ht
 ·obtain ⟨m,hm0,h⟩:=Qd.1 h;obtain ⟨rfl,hm⟩:=BM hm0;injection h with h;subst h
  repeat' split
  ·exact ⟨ht.p,hm,hm⟩
  ·exact ⟨ht.p,ht.lo,hm⟩
  ·exact ⟨ht.p,hm,ht.hi⟩
theorem O7 {z:Int} (h:U9 z<=4294967296):Ui 178 [.one (mg z)] [.oi (U9 z:Int)]:=by
 have h1:=pP (l:=Fy z.natAbs) (Lc _) (by rw [Gx]; exact h);rw [Gx] at h1; exact h1
theorem EX {p:Ul} {i:Nat} {z:Int} (h:p[i]? = some z):Gy (p.take (i+1))=max (Gy (p.take i)) (U9 z):=by
 unfold Gy; rw [List.take_succ,h,Option.toList_some,List.foldl_append]; rfl
theorem Mc {p:Ul} {s:Nat} (h:Bd s p):∀ i,Gy (p.take i)<=s
 | 0=>by simp [Gy]
 |
  i+1=>by
  cases hz:p[i]? with
  |
   none =>
   rw [Qn (by have:=Xz.1 hz; omega),<-Qn (l:=p) (i:=i) (by have:=Xz.1 hz; omega)];exact Mc h i
  | some z=>rw [EX hz]; have:=Mc h i; have:=Qd5 h hz; omega
theorem jQ {p:Ul} (hp:Pb p):Ui 267 [pr p] [.oi (Gy p:Int)]:=by
 have hl:=hp.l;refine Fw func267 rfl ?_;refine Uc [] rfl ?_;refine Uh (S:=Nat) 0 (λL1 i=>(8,.v (.oi i))::(3,.v (.oi (Gy (p.take i):Int)))::L1) (λ_=>[]) (λi=>p.length-i) (λi=>i<=p.length) 0 (Qh _) rfl rfl λi hi=>?_
 by_cases hlt:i<p.length
 ·have hg:=Rp hlt;have hz:=Fj hp.b i;have hs:=EX hg;refine Ud [.t (by simp; omega),.x (Pp hg),.k (O7 (by omega)),.r 16 (eI (b:=(Gy (p.take (i+1)):Int)) (by rw [hs]; omega))] rfl ?_;exact rd (i+1) (by omega) hlt rfl
 ·obtain rfl:i=p.length:=by omega
  rw [Q7];exact Ue [.f (by simp)] rfl
theorem Qnn {a:Tm} {b:Tm} (ha:Tb a) (hb:Tb b):Ui 234 [.agg (ta a),.agg (ta b)] [.oi (Pq a b:Nat)]:=by
 have l1:=ha.p.l;have l2:=hb.p.l;have b1:=ha.lo.1;have b2:=ha.hi.1;have b3:=hb.lo.1;have b4:=hb.hi.1;have s1:Gy a.p<=16777216:=by have:=Mc ha.p.b a.p.length; rwa [Q7] at this
 have s2:Gy b.p<=16777216:=by have:=Mc hb.p.b b.p.length; rwa [Q7] at this
 obtain ⟨N,hN⟩:=nmE (4*(a.p.length+b.p.length));obtain ⟨S,hS⟩:=nmE (Gy a.p+Gy b.p+(a.p.length+b.p.length)+8);have hNS:N*S<=512*33554568:=Za (by omega) (by omega);have h0:(N:Int)*(S:Int)=((N*S:Nat):Int):=(Vj _ _).symm;have hst:Pq a b=64+2*(U9 a.lo.num+U9 a.hi.num+U9 b.lo.num+U9 b.hi.num)+N*S:=by rw [hN,hS]; rfl
 rw [hst];exact Uf func234 rfl [.k (O7 (z:=a.lo.num) (by omega)),.k (O7 (z:=a.hi.num) (by omega)),.k (O7 (z:=b.lo.num) (by omega)),.k (O7 (z:=b.hi.num) (by omega)),.r 41 (eI (b:=(N:Int)) (by rw [hN]; simp)),.k (jQ ha.p),.k (jQ hb.p),.r 51 (eI (b:=(S:Int)) (by rw [hS]; simp)),.r 52 (eI (b:=((N*S:Nat):Int)) h0)] rfl (by simp) (by rw [h0]; simp [Uw]; omega)
def dJ (p:Ul) (a:Tm):Nat:=64+2*(U9 a.lo.num+U9 a.hi.num)+4*(a.p.length+p.length)*(Gy a.p+Gy p+(a.p.length+p.length)+8)
theorem lX:Ui 178 [lr []] [.oi 0]:=pP (l:=[]) (by simp [Sm]) (by decide)
theorem Qfz {a:Tm} {p:Ul} (ha:Tb a) (hp:Pb p):Ui 234 [.agg (ta a),.agg ([pl p,.bool false,.row [],.bool false,.row [],.bool false,.row [],.bool false,.row []])] [.oi (dJ p a:Nat)]:=by
 have l1:=ha.p.l;have l2:=hp.l;have b1:=ha.lo.1;have b2:=ha.hi.1;have s1:Gy a.p<=16777216:=by have:=Mc ha.p.b a.p.length; rwa [Q7] at this
 have s2:Gy p<=16777216:=by have:=Mc hp.b p.length; rwa [Q7] at this
 obtain ⟨N,hN⟩:=nmE (4*(a.p.length+p.length));obtain ⟨S,hS⟩:=nmE (Gy a.p+Gy p+(a.p.length+p.length)+8);have hNS:N*S<=512*33554568:=Za (by omega) (by omega);have h0:(N:Int)*(S:Int)=((N*S:Nat):Int):=(Vj _ _).symm;have hst:dJ p a=64+2*(U9 a.lo.num+U9 a.hi.num)+N*S:=by rw [hN,hS]; rfl
 rw [hst];exact Uf func234 rfl [.k (O7 (z:=a.lo.num) (by omega)),.k (O7 (z:=a.hi.num) (by omega)),.k lX,.k lX,.r 41 (eI (b:=(N:Int)) (by rw [hN]; simp)),.k (jQ ha.p),.k (jQ hp),.r 51 (eI (b:=(S:Int)) (by rw [hS]; simp)),.r 52 (eI (b:=((N*S:Nat):Int)) h0)] rfl (by simp) (by rw [h0]; simp [Uw]; omega)
def VW (sg:Ul->Int) (l:Um) (i:Nat):Nat×Int:=(l.take i).foldl (Ph sg) (0,0)
theorem vE {sg:Ul->Int} (hs:∀ p,-1<=sg p/\sg p<=1) (l:Um):∀ i,(VW sg l i).1<=i/\-1<=(VW sg l i).2/\(VW sg l i).2<=1
 | 0=>⟨Ql _,show (-1:Int)<=0 by decide,show (0:Int)<=1 by decide⟩
 |
  i+1=>by
  obtain ⟨h1,h2,h3⟩:=vE hs l i;cases h:l[i]? with
  |
   none =>
   have:VW sg l (i+1)=VW sg l i:=by unfold VW; rw [List.take_of_length_le (by have:=List.getElem?_eq_none_iff.1 h; omega),List.take_of_length_le (List.getElem?_eq_none_iff.1 h)]
   rw [this]; omega
  |
   some p =>
   have:VW sg l (i+1)=Ph sg (VW sg l i) p:=Ts _ _ _ h;rw [this];have:=hs p;unfold Ph
   split
   ·omega
   ·dsimp only; split <;> omega
theorem Qnq {l:Um} {fid:Nat} {l1:Uq} {sg:Ul->Int} (hl:l.length≤1000) (hs:∀ p,-1≤sg p/\sg p≤1) (h:∀ p∈l,AG prog fid [pr p,.one (.sh l1)] [.oi (sg p)]):Ui 296 [.one (.sh [.row (S6 l)]),.one (.fn fid [] [.sh l1])] [.oi (Ci sg l:Nat)]:=by
 have hpl:=El l;refine Fw func296 rfl ?_;refine Uc [] rfl ?_;refine Uh (S:=Nat) 0 (λL1 i=>(15,.v (.oi i))::(5,.v (.oi ((VW sg l i).1:Int)))::(6,.v (.one (.int .i64 (VW sg l i).2)))::L1) (λ_=>[]) (λi=>l.length-i) (λi=>i<=l.length) 0 (Qh _) rfl rfl λi hi=>?_
 by_cases hlt:i<l.length
 ·obtain ⟨p,hp⟩:=gxE (l:=l) (i:=i) hlt;have hst:VW sg l (i+1)=Ph sg (VW sg l i) p:=Ts _ _ _ hp;obtain ⟨b1,b2,b3⟩:=vE hs l i;have b4:=hs p;by_cases h0:sg p=0
  ·refine Ud [.t (by simp [hpl]; omega),.x (Rh hp),.k (h p (Qa hp)),.t (by simpa using h0)] rfl ?_;exact rd (i+1) (by omega) hlt (by rw [hst,show Ph sg (VW sg l i) p=VW sg l i from by unfold Ph; rw [if_pos h0]]; rfl)
  ·by_cases h1:(VW sg l i).2=-(sg p)
   ·refine Ud [.t (by simp [hpl]; omega),.x (Rh hp),.k (h p (Qa hp)),.f (by simpa using h0),.t (by simpa using h1)] rfl ?_;exact rd (i+1) (by omega) hlt (by rw [hst,show Ph sg (VW sg l i) p=((VW sg l i).1+1,sg p) from by unfold Ph; rw [if_neg h0,if_pos h1]]; rfl)
   ·refine Ud [.t (by simp [hpl]; omega),.x (Rh hp),.k (h p (Qa hp)),.f (by simpa using h0),.f (by simpa using h1)] rfl ?_;exact rd (i+1) (by omega) hlt (by rw [hst,show Ph sg (VW sg l i) p=((VW sg l i).1,sg p) from by unfold Ph; rw [if_neg h0,if_neg h1]]; rfl)
 ·obtain rfl:i=l.length:=by omega
  refine Ue [.f (by simp [hpl])] rfl ?_ trivial;unfold VW Ci; rw [List.take_length]
theorem Qfc {p:Ul} {q:Rat} (hp:Pb p) (hq:Qb q):Ui 297 [pr p,.one (.sh (rl q))] [.oi (H5 p q)]:=Uf func297 rfl [.k (PX hp hq)] rfl
theorem lH {l:Um} {q:Rat} (hl:l.length≤1000) (hp:∀ p∈l,Pb p) (hq:Qb q):Ui 275 [.one (.sh [.row (S6 l)]),.agg (rl q)] [.oi (Cj l q:Nat)] :=
 Uf func275 rfl [.k (Qnq (fid:=297) (l1:=rl q) (sg:=λp=>H5 p q) hl (λp=>On p q) λp h=>Qfc (hp p h) hq)] rfl
theorem Ld {sg:Ul->Int} (hs:∀ p,-1<=sg p/\sg p<=1) (l:Um):Ci sg l<=l.length:=by
 have:=(vE hs l l.length).1;unfold VW at this; rwa [List.take_length] at this
theorem IY {l:Um} {lo hi:Rat} (hl:l.length≤1000) (hp:∀ p∈l,Pb p) (ql:Qb lo) (qh:Qb hi):Ui 244 [.one (.sh [.row (S6 l)]),.agg (rl lo),.agg (rl hi)] [.oi (Td l lo hi)]:=by
 have b1:Cj l lo<=l.length:=Ld (λp=>On p lo) l;have b2:Cj l hi<=l.length:=Ld (λp=>On p hi) l;have c1:=C5 qh.s31 ql.s31;unfold Td;by_cases h:Hd hi lo<0
 ·rw [if_pos h];exact Uf func244 rfl [.k c1,.t (by simpa using h)] rfl
 ·rw [if_neg h];exact Uf func244 rfl [.k c1,.f (by simpa using h),.k (lH hl hp ql),.k (lH hl hp qh)] rfl rfl (by simp [Uw]; omega)
def zTm:Uq:=[.nils,.bool false,.nils,.bool false,.nils,.bool false,.nils,.bool false,.nils]
theorem Qc8 {a b:Tm} (ha:Tb a) (hb:Tb b):Pq a b<=17179938816+200000000:=by
 have l1:=ha.p.l;have l2:=hb.p.l;have b1:=ha.lo.1;have b2:=ha.hi.1;have b3:=hb.lo.1;have b4:=hb.hi.1;have s1:Gy a.p<=16777216:=by have:=Mc ha.p.b a.p.length; rwa [Q7] at this
 have s2:Gy b.p<=16777216:=by have:=Mc hb.p.b b.p.length; rwa [Q7] at this
 have:4*(a.p.length+b.p.length)*(Gy a.p+Gy b.p+(a.p.length+b.p.length)+8)<=512*33554568:=Za (by omega) (by omega);unfold Pq; omega
theorem Qpr {a b:Rat} (ha:Qb a) (hb:Qb b):Qs 2147483647 (EF a b):=by
 have h1:U9 (a.num*(b.den:Int))<=33554432:=Qc (Gh _ _) (by have:=ha.1; have:=hb.2; omega);have h2:U9 (b.num*(a.den:Int))<=33554432:=Qc (Gh _ _) (by have:=hb.1; have:=ha.2; omega);have h3:U9 ((a.den:Int)*(b.den:Int))<=33554432:=Qc (Gh _ _) (by have:=ha.2; have:=hb.2; omega);have h5:U9 (a.num*(b.den:Int)-b.num*(a.den:Int))<=33554433:=Qc (jA _ _) (by omega);exact (Qs.divInt (s:=33554433) h5 (by omega) (by omega)).mono (by omega)
theorem xN {a b:Tm} {r:Tm×Tm×Int} (ha:Tb a) (hb:Tb b) (h:AH (Pq a b) a b=some r):Ui 191 [.agg (ta a),.agg (ta b)] [.agg (ta r.1),.agg (ta r.2.1),.oi r.2.2]:=by
 have hsb:=Qc8 ha hb;refine Fw func191 rfl ?_;refine Uc [.k (Qnn ha hb)] rfl ?_;obtain ⟨n,hn⟩:=nmE (Pq a b);rw [<-hn] at h hsb ⊢;refine sb [(10,.v (.oi 0)),(9,.v (.oi n)),(5,.v (.one (.ow 3 0))),(4,.v (.one (.ow 2 0))),(3,.v (.one (.ow 1 0))),(2,.v (.one (.ow 0 0)))] [.blk 189 (ta a),.blk 189 (ta b),.blk 189 zTm,.blk 189 zTm] rfl rfl ?_;refine Uh (S:=Nat×Tm×Tm) 4 (λL1 s=>(10,.v (.oi (s.1:Int)))::L1) (λs=>[.blk 189 (ta s.2.1),.blk 189 (ta s.2.2),.blk 189 zTm,.blk 189 zTm]) (λs=>n-s.1) (λs=>s.1<=n/\Tb s.2.1/\Tb s.2.2/\AH (n-s.1) s.2.1 s.2.2=some r) (0,a,b) ⟨Qh _,ha,hb,h⟩ rfl rfl λ⟨i,u,v⟩ ⟨j1,j2,j3,j4⟩=>?_
 dsimp only at j1 j2 j3 j4 ⊢;by_cases hi:i<n
 ·obtain ⟨k,hk⟩:∃ k,n-i=k+1:=⟨n-i-1,by omega⟩;have hk':n-(i+1)=k:=by omega
  rw [hk] at j4;have c1:=C5 j2.hi.s31 j3.lo.s31;have c2:=C5 j3.hi.s31 j2.lo.s31;have pu:=Du j2;have pv:=Du j3;have hlt:decide ((i:Int)<(n:Int))=true:=by simp; omega
  simp only [AH] at j4;refine Uc [.t hlt] rfl ?_;refine ct 3 (S:=Unit) (λ_=>[(10,.v (.oi i)),(9,.v (.oi n)),(5,.v (.one (.ow 3 0))),(4,.v (.one (.ow 2 0))),(3,.v (.one (.ow 1 0))),(2,.v (.one (.ow 0 0)))]) (λ_=>[.blk 189 (ta u),.blk 189 (ta v),.blk 189 zTm,.blk 189 zTm]) (λ_=>¬Dt u v=true/\¬Dt v u=true) rfl ?_ ?_
  ·have bA:Dt u v=(decide (Hd u.hi v.lo<=0) && !(u.point && v.point && decide (Hd u.hi v.lo=0))):=by
    unfold Dt; cases u.point <;> cases v.point <;> simp
   have bB:Dt v u=(decide (Hd v.hi u.lo<=0) && !(u.point && v.point && decide (Hd v.hi u.lo=0))):=by
    unfold Dt; cases u.point <;> cases v.point <;> simp
   obtain ⟨a0,A'⟩:∃ b,decide (Hd u.hi v.lo<=0)=b:=⟨_,rfl⟩;obtain ⟨b0,B'⟩:∃ b,decide (Hd v.hi u.lo<=0)=b:=⟨_,rfl⟩;obtain ⟨p0,P'⟩:∃ b,u.point=b:=⟨_,rfl⟩;obtain ⟨q0,Q'⟩:∃ b,v.point=b:=⟨_,rfl⟩;obtain ⟨x0,X'⟩:∃ b,decide (Hd u.hi v.lo=0)=b:=⟨_,rfl⟩;obtain ⟨y0,Y'⟩:∃ b,decide (Hd v.hi u.lo=0)=b:=⟨_,rfl⟩;rw [A',P',Q',X'] at bA;rw [B',P',Q',Y'] at bB;have r1:Dt u v=true->(u,v,-1)=r:=λh=>by rw [if_pos h] at j4; injection j4
   have r2:¬Dt u v=true->Dt v u=true->(u,v,1)=r:=λh h'=>by rw [if_neg h,if_pos h'] at j4; injection j4
   clear j4;cases a0
   ·cases b0
    ·exact go tt [.k c1,.g 19 false A',.f rfl,.k c2,.g 45 false B',.f rfl] rfl trivial (rc () ⟨by rw [bA]; simp,by rw [bB]; simp⟩ rfl)
    ·cases p0
     ·obtain rfl:=r2 (by rw [bA]; simp) (by rw [bB]; rfl);exact Ue [.k c1,.g 19 false A',.f rfl,.k c2,.g 45 true B',.k pu,.g 48 false P',.g 52 false rfl,.t rfl] rfl
     ·cases q0
      ·obtain rfl:=r2 (by rw [bA]; simp) (by rw [bB]; rfl);exact Ue [.k c1,.g 19 false A',.f rfl,.k c2,.g 45 true B',.k pu,.g 48 true P',.k pv,.g 52 false Q',.t rfl] rfl
      ·cases y0
       ·obtain rfl:=r2 (by rw [bA]; simp) (by rw [bB]; rfl);exact Ue [.k c1,.g 19 false A',.f rfl,.k c2,.g 45 true B',.k pu,.g 48 true P',.k pv,.g 52 true Q',.k c2,.t (by simpa using Y')] rfl
       ·exact go tt [.k c1,.g 19 false A',.f rfl,.k c2,.g 45 true B',.k pu,.g 48 true P',.k pv,.g 52 true Q',.k c2,.f (by simpa using Y')] rfl trivial (rc () ⟨by rw [bA]; simp,by rw [bB]; simp⟩ rfl)
   ·cases p0
    ·obtain rfl:=r1 (by rw [bA]; rfl);exact Ue [.k c1,.g 19 true A',.k pu,.g 22 false P',.g 26 false rfl,.t rfl] rfl
    ·cases q0
     ·obtain rfl:=r1 (by rw [bA]; rfl);exact Ue [.k c1,.g 19 true A',.k pu,.g 22 true P',.k pv,.g 26 false Q',.t rfl] rfl
     ·cases x0
      ·obtain rfl:=r1 (by rw [bA]; rfl);exact Ue [.k c1,.g 19 true A',.k pu,.g 22 true P',.k pv,.g 26 true Q',.k c1,.t (by simpa using X')] rfl
      ·cases b0
       ·exact go tt [.k c1,.g 19 true A',.k pu,.g 22 true P',.k pv,.g 26 true Q',.k c1,.f (by simpa using X'),.k c2,.g 45 false B',.f rfl] rfl trivial (rc () ⟨by rw [bA]; simp,by rw [bB]; simp⟩ rfl)
       ·cases y0
        ·obtain rfl:=r2 (by rw [bA]; simp) (by rw [bB]; rfl);exact Ue [.k c1,.g 19 true A',.k pu,.g 22 true P',.k pv,.g 26 true Q',.k c1,.f (by simpa using X'),.k c2,.g 45 true B',.k pu,.g 48 true P',.k pv,.g 52 true Q',.k c2,.t (by simpa using Y')] rfl
        ·exact go tt [.k c1,.g 19 true A',.k pu,.g 22 true P',.k pv,.g 26 true Q',.k c1,.f (by simpa using X'),.k c2,.g 45 true B',.k pu,.g 48 true P',.k pv,.g 52 true Q',.k c2,.f (by simpa using Y')] rfl trivial (rc () ⟨by rw [bA]; simp,by rw [bB]; simp⟩ rfl)
  ·rintro _ ⟨n1,n2⟩
   rw [if_neg n1,if_neg n2] at j4;have qr:∀ {x y:Rat},Qb x->Qb y->Qs 2147483647 (EF x y):=λh1 h2=>Qpr h1 h2
   have cc:=C5 (qr j2.hi j2.lo) (qr j3.hi j3.lo);by_cases D:0<=Hd (EF u.hi u.lo) (EF v.hi v.lo)
   ·rw [if_pos D] at j4;obtain ⟨x,x1,x2⟩:=Qd.1 j4;refine Ud [.k (xO j2.hi j2.lo),.k (xO j3.hi j3.lo),.k cc,.t (by simpa using D),.k (pO j2 x1)] rfl ?_;exact rd (i+1,x,v) (by dsimp only; omega) ⟨hi,vB j2 x1,j3,by dsimp only; rw [hk']; exact x2⟩ rfl
   ·rw [if_neg D] at j4;obtain ⟨x,x1,x2⟩:=Qd.1 j4;refine Ud [.k (xO j2.hi j2.lo),.k (xO j3.hi j3.lo),.k cc,.f (by simpa using D),.k (pO j3 x1)] rfl ?_;exact rd (i+1,u,x) (by dsimp only; omega) ⟨hi,j2,vB j3 x1,by dsimp only; rw [hk']; exact x2⟩ rfl
 ·obtain rfl:i=n:=by omega
  rw [Ki] at j4;simp only [AH] at j4;injection j4 with j4; subst j4;exact Ue [.f (by simp)] rfl
theorem Qnm {a b:Rat} (ha:Qb a) (hb:Qb b):Ui 50 [.agg (rl a),.one (.row [rl b])] [.agg (rl (if 0<Hd b a then b else a))]:=by
 have ca:=PI (Uy a.num) (Uy (a.den:Int)) ha.s32.1 ha.s32.2;have cb:=PI (Uy b.num) (Uy (b.den:Int)) hb.s32.1 hb.s32.2;rw [Pa] at ca cb;have cc:=C5 hb.s31 ha.s31;refine Fw func50 rfl ?_;refine Uc [.k ca] rfl ?_;refine Uh (S:=Nat) 3 (λL1 i=>(12,.v (.oi i))::L1) (λi=>[.blk 40 (rl a),.blk 40 [.bool false,.nils,.bool false,.nils],.blk 40 (rl (if i=0 then a else if 0<Hd b a then b else a))]) (λi=>1-i) (λi=>i<=1) 0 (Qh _) rfl rfl λi hi=>?_
 rcases (show i=0\/i=1 by omega) with rfl | rfl
 ·by_cases h:0<Hd b a
  ·refine Uc [.t rfl,.x (i:=0) (xs:=rl b) rfl,.k cc,.t (by simpa using h),.k cb] rfl ?_ (by simp [Uw]);exact rd 1 (by omega) (by omega) (by rw [if_pos h]; rfl)
  ·refine Uc [.t rfl,.x (i:=0) (xs:=rl b) rfl,.k cc,.f (by simpa using h)] rfl ?_ (by simp [Uw]);exact rd 1 (by omega) (by omega) (by rw [if_neg h]; rfl)
 ·exact Ue [.f rfl] rfl
theorem VE {a b:Tm} {c:Int} (ha:Tb a) (hb:Tb b) (h:UX a b=some c):Ui 158 [.agg (ta a),.agg (ta b)] [.oi c]:=by
 have ca:=PO ha;have cb:=PO hb;have pa:=Du ha;have pb:=Du hb;unfold UX at h;by_cases h1:a.point=true
 ·rw [if_pos h1] at h;injection h with h; subst h;have:=Qnt b a.lo;exact Uf func158 rfl [.k ca,.k cb,.k pa,.t h1,.k (C0 hb ha.lo)] rfl rfl (by simp [Uw]; omega)
 rw [if_neg h1] at h;have h1:a.point=false:=by simpa using h1
 by_cases h2:b.point=true
 ·rw [if_pos h2] at h;injection h with h; subst h;exact Uf func158 rfl [.k ca,.k cb,.k pa,.f h1,.k pb,.t h2,.k (C0 ha hb.lo)] rfl
 rw [if_neg h2] at h;have h2:b.point=false:=by simpa using h2
 obtain ⟨lo,hlo⟩:=nmE (if 0<Hd b.lo a.lo then b.lo else a.lo);obtain ⟨hi,hhi⟩:=nmE (if Hd b.hi a.hi<0 then b.hi else a.hi);have h:(if Hd lo hi<0 then (yO a.p b.p).bind λg=>if 1<g.length/\UN g lo hi=true then some 0 else (AH (Pq a b) a b).bind λr=>some r.2.2 else (AH (Pq a b) a b).bind λr=>some r.2.2)=some c:=by rw [hlo,hhi]; exact h
 have qlo:Qb lo:=by rw [hlo]; split; exact hb.lo; exact ha.lo
 have qhi:Qb hi:=by rw [hhi]; split; exact hb.hi; exact ha.hi
 have cm:=Qnm ha.lo hb.lo;rw [<-hlo] at cm;have cc1:=C5 hb.hi.s31 ha.hi.s31;have cc2:=C5 qlo.s31 qhi.s31;refine Fw func158 rfl ?_;refine Uc [.k ca,.k cb,.k pa,.f h1,.k pb,.f h2,.k cm] rfl ?_;refine ct 2 (S:=Unit) (λ_=>[(6,.v (.one (.ow 3 0))),(5,.v (.one (.ow 2 0))),(4,.v (.oi 0)),(3,.v (.one (.ow 1 0))),(2,.v (.one (.ow 0 0)))]) (λ_=>[.blk 189 (ta a),.blk 189 (ta b),.blk 40 (rl lo),.blk 40 (rl hi)]) (λ_=>True) rfl ?_ ?_
 ·by_cases D:Hd b.hi a.hi<0
  ·rw [if_pos D] at hhi; subst hhi;exact go tt [.k cc1,.t (by simpa using D)] rfl trivial (rc () trivial rfl)
  ·rw [if_neg D] at hhi; subst hhi;exact go tt [.k cc1,.f (by simpa using D)] rfl trivial (rc () trivial rfl)
 ·rintro _ _
  by_cases D:Hd lo hi<0
  ·rw [if_pos D] at h;obtain ⟨g,g1,h⟩:=Qd.1 h;have cg:=Qeu ha.p hb.p g1;have pg:=Qjc ha.p hb.p g1;have ch:=Qfj pg qlo qhi;by_cases G:1<g.length
   ·by_cases R:UN g lo hi=true
    ·rw [if_pos ⟨G,R⟩] at h;injection h with h; subst h;exact Ue [.k cc2,.t (by simpa using D),.k cg,.k (Mq g),.g 58 true (by simp; omega),.k ch,.t R] rfl
    ·rw [if_neg λh=>R h.2] at h;obtain ⟨r,r1,h⟩:=Qd.1 h;injection h with h; subst h;exact Ue [.k cc2,.t (by simpa using D),.k cg,.k (Mq g),.g 58 true (by simp; omega),.k ch,.f (by simpa using R),.k (xN ha hb r1)] rfl
   ·rw [if_neg λh=>G h.1] at h;obtain ⟨r,r1,h⟩:=Qd.1 h;injection h with h; subst h;exact Ue [.k cc2,.t (by simpa using D),.k cg,.k (Mq g),.g 58 false (by simp; omega),.f rfl,.k (xN ha hb r1)] rfl
  ·rw [if_neg D] at h;obtain ⟨r,r1,h⟩:=Qd.1 h;injection h with h; subst h;exact Ue [.k cc2,.f (by simpa using D),.k (xN ha hb r1)] rfl
theorem Qmi {p:Ul} {a:Tm} {s:Int} (hp:Pb p) (ha:Tb a) (h:GQ p a=some s):Ui 203 [pr p,.agg (ta a)] [.oi s]:=by
 have ca:=PO ha;have pa:=Du ha;have cn:=Hp hp.t hp.ln hp.bd;unfold GQ at h;by_cases h0:p.length=0
 ·rw [if_pos h0] at h;injection h with h; subst h;exact Uf func203 rfl [.k cn,.k ca,.t (by simp; exact Qj h0)] rfl
 rw [if_neg h0] at h;have h0:p≠[]:=λe=>h0 (by rw [e]; rfl)
 by_cases h1:a.point=true
 ·rw [if_pos h1] at h;injection h with h; subst h;exact Uf func203 rfl [.k cn,.k ca,.f (by simpa using h0),.k pa,.t h1,.k (PX hp ha.lo)] rfl
 rw [if_neg h1] at h;have h1:a.point=false:=by simpa using h1
 obtain ⟨g,g1,h⟩:=Qd.1 h;have cg:=Qeu hp ha.p g1;have pg:=Qjc hp ha.p g1;have ch:=Qfj pg ha.lo ha.hi;by_cases G:1<g.length/\UN g a.lo a.hi=true
 ·rw [if_pos G] at h;injection h with h; subst h;exact Uf func203 rfl [.k cn,.k ca,.f (by simpa using h0),.k pa,.f h1,.k cg,.k (Mq g),.g 29 true (by simp; omega),.k ch,.t G.2] rfl
 rw [if_neg G] at h;obtain ⟨c,c1,h⟩:=Qd.1 h;obtain ⟨u,u1,h⟩:=Qd.1 h;injection h with h; subst h;obtain ⟨cl,call⟩:=chain_ok hp c1;obtain ⟨n,hn⟩:=nmE (64+2*(U9 a.lo.num+U9 a.hi.num)+4*(a.p.length+p.length)*(Gy a.p+Gy p+(a.p.length+p.length)+8));have cst:=Qfz ha hp;rw [show dJ p a=n from hn.symm] at cst;rw [<-hn] at u1;have hnb:n<=17179938816+200000000:=by
  have l1:=ha.p.l;have l2:=hp.l;have b1:=ha.lo.1;have b2:=ha.hi.1;have s1:Gy a.p<=16777216:=by have:=Mc ha.p.b a.p.length; rwa [Q7] at this
  have s2:Gy p<=16777216:=by have:=Mc hp.b p.length; rwa [Q7] at this
  have:4*(a.p.length+p.length)*(Gy a.p+Gy p+(a.p.length+p.length)+8)<=512*33554568:=Za (by omega) (by omega);omega
 refine Fw func203 rfl ?_;refine Uc [.k cn,.k ca,.f (by simpa using h0),.k pa,.f h1,.k cg] rfl ?_;refine ct 2 (S:=Unit) (λ_=>[(3,.v (.one (.ow 0 0))),(0,.v (pr p))]) (λ_=>[.blk 189 (ta a)]) (λ_=>True) rfl ?_ ?_
 ·by_cases G1:1<g.length
  ·exact go tt [.k (Mq g),.g 29 true (by simp; omega),.k ch,.f (by simpa using λh=>G ⟨G1,h⟩)] rfl trivial (rc () trivial rfl)
  ·exact go tt [.k (Mq g),.g 29 false (by simp; omega),.f rfl] rfl trivial (rc () trivial rfl)
 rintro _ _
 refine Uc [.k (Qe3 hp c1),.k cst] rfl ?_;refine Uh (S:=Nat×Tm) 1 (λL1 s=>(46,.v (.oi (s.1:Int)))::L1) (λs=>[.blk 189 (ta s.2)]) (λs=>n-s.1) (λs=>s.1<=n/\Tb s.2/\sgF c (n-s.1) s.2=some u) (0,a) ⟨Qh _,ha,u1⟩ rfl rfl λ⟨i,x⟩ ⟨j1,j2,j3⟩=>?_
 dsimp only at j1 j2 j3 ⊢;by_cases hi:i<n
 ·obtain ⟨k,hk⟩:∃ k,n-i=k+1:=⟨n-i-1,by omega⟩;have hk':n-(i+1)=k:=by omega
  rw [hk] at j3;simp only [sgF] at j3;have px:=Du j2;have cb:=IY (by omega) call j2.lo j2.hi;have hlt:decide ((i:Int)<(n:Int))=true:=by simp; omega
  by_cases X:x.point=true
  ·rw [if_pos (.inl X)] at j3;injection j3 with j3; subst j3;exact Ue [.t hlt,.k px,.g 50 true X,.t rfl,.k (PX hp j2.hi)] rfl
  ·have X':x.point=false:=by simpa using X
   by_cases Z:Td c x.lo x.hi=0
   ·rw [if_pos (.inr Z)] at j3;injection j3 with j3; subst j3;exact Ue [.t hlt,.k px,.g 50 false X',.k cb,.t (by simpa using Z),.k (PX hp j2.hi)] rfl
   ·rw [if_neg (by rintro (h | h); exact X h; exact Z h)] at j3;obtain ⟨v,v1,v2⟩:=Qd.1 j3;refine Ud [.t hlt,.k px,.g 50 false X',.k cb,.f (by simpa using Z),.k (pO j2 v1)] rfl ?_;exact rd (i+1,v) (by dsimp only; omega) ⟨hi,vB j2 v1,by dsimp only; rw [hk']; exact v2⟩ rfl
 ·obtain rfl:i=n:=by omega
  rw [Ki] at j3;simp only [sgF] at j3;injection j3 with j3; subst j3;exact Ue [.f (by simp),.k (PX hp j2.hi)] rfl
abbrev tas (l:List Tm):LV:=.row (l.map λt=>ta t)
theorem NX {l:List Tm} {i:Nat} {t:Tm} (h:l[i]? = some t):(l.map λt=>ta t)[i]? = some (ta t):=G7 h
def zTr:Uq:=[.row [],.bool false,.row [],.bool false,.row [],.bool false,.row [],.bool false,.row []]
theorem wF:Ui 185 [.one (.row [])] [.agg zTr,.one (.bool false)]:=Uf func185 rfl [.t rfl] rfl
theorem Sy {b:Tm} {l:List Tm} {m:Tm} (hb:Tb b) (hl:∀ t∈l,Tb t) (hn:l.length≤1000000) (h:QT b l=some m):Ui 185 [.one (tas (b::l))] [.agg (ta m),.one (.bool true)]:=by
 refine Fw func185 rfl ?_;refine go tt [.f (by simp; omega),.x (i:=0) (xs:=ta b) rfl,.i 1] rfl (by simp [Uw]; exact ⟨rfl,λ_ _=>rfl⟩) ?_;refine Uh (S:=Nat×Tm) 2 (λL1 s=>(17,.v (.oi (s.1:Int)))::L1) (λs=>[.blk 189 zTm,.blk 189 (ta s.2)]) (λs=>l.length-s.1) (λs=>s.1<=l.length/\Tb s.2/\QT s.2 (l.drop s.1)=some m) (0,b) ⟨Qh _,hb,h⟩ rfl rfl λ⟨i,x⟩ ⟨j1,j2,j3⟩=>?_
 dsimp only at j1 j2 j3 ⊢;by_cases hi:i<l.length
 ·obtain ⟨a,ha⟩:=gxE (l:=l) (i:=i) hi;have hdr:l.drop i=a::l.drop (i+1):=by
   rw [Zu hi]; congr 1;have:=Qe hi; rw [ha] at this; injection this with this; exact this.symm
  rw [hdr] at j3;simp only [QT] at j3;obtain ⟨c,c1,j3⟩:=Qd.1 j3;have ta':=hl a (Qa ha);by_cases hc:c<0
  ·rw [if_pos hc] at j3;refine Ud [.t (by simp; omega),.x (NX ha),.k (VE ta' j2 c1),.t (by simpa using hc)] rfl ?_;exact rd (i+1,a) (by dsimp only; omega) ⟨hi,ta',j3⟩ rfl
  ·rw [if_neg hc] at j3;refine Ud [.t (by simp; omega),.x (NX ha),.k (VE ta' j2 c1),.f (by simpa using hc)] rfl ?_;exact rd (i+1,x) (by dsimp only; omega) ⟨hi,j2,j3⟩ rfl
 ·obtain rfl:i=l.length:=by omega
  rw [Y9] at j3;simp only [QT] at j3;injection j3 with j3; subst j3;exact Ue [.f (by simp),.k (Qf1 j2)] rfl
end Orr
namespace Orq
def Fc (x:Rat):Rat:=if x<0 then -x else x
theorem Ho (x:Rat):0<=Fc x:=by unfold Fc; split <;> grind
theorem Md {x b:Rat}:Fc x<=b↔-b<=x/\x<=b:=by unfold Fc; split <;> constructor <;> grind
theorem vK {x b:Rat}:Fc x<b↔-b<x/\x<b:=by unfold Fc; split <;> constructor <;> grind
theorem T0 (x y:Rat):Fc (x+y)<=Fc x+Fc y:=by unfold Fc; split <;> split <;> split <;> grind
theorem oS (x y:Rat):Fc (x-y)=Fc (y-x):=by unfold Fc; split <;> split <;> grind
theorem Ec (x:Rat):Fc (-x)=Fc x:=by unfold Fc; split <;> split <;> grind
theorem H8:Fc 0=0:=by decide
theorem Cc {x:Rat} (h:x≠0):0<Fc x:=by unfold Fc; split <;> grind
theorem Qpp {x:Rat} (h:Fc x=0):x=0:=by unfold Fc at h; split at h <;> grind
theorem Np {x y:Rat} (h1:0<=x) (h2:0<=y):0<=x*y:=Vz h1 h2
theorem Ip {x y:Rat} (h1:0<x) (h2:0<y):0<x*y:=Xu h1 h2
theorem B7 {a b c d:Rat} (h0:0<=a) (h1:a<=b) (h2:0<=c) (h3:c<=d):a*c<=b*d:=by
 have e1:=Zf h1 h2;have e2:=Z0 h3 (Zk h0 h1);exact Zk e1 e2
theorem Ie (x y:Rat):Fc (x*y)=Fc x*Fc y:=by
 unfold Fc;by_cases h1:x<0 <;> by_cases h2:y<0
 ·have:=Ip (x:=-x) (y:=-y) (by grind) (by grind); simp only [h1,h2,if_true]; split <;> grind
 ·have:=Np (x:=-x) (y:=y) (by grind) (by grind); simp only [h1,h2,if_true,if_false]; split <;> grind
 ·have:=Np (x:=x) (y:=-y) (by grind) (by grind); simp only [h1,h2,if_true,if_false]; split <;> grind
 ·have:=Np (x:=x) (y:=y) (by grind) (by grind); simp only [h1,h2,if_false]; split <;> grind
theorem G5 {x y a b:Rat} (h1:Fc x<=a) (h2:Fc y<=b):Fc (x*y)<=a*b:=by
 rw [Ie]; exact B7 (Ho x) h1 (Ho y) h2
theorem Ez {x y:Rat} (h1:0<x) (h2:0<y):0<x / y:=by rw [J5]; exact Ip h1 (Rat.inv_pos.2 h2)
theorem G6 {x y:Rat} (h2:0<y):x / y*y=x:=Zl (by grind)
theorem Hb {b d:Rat} (hb:0<=b) (hd:0<d):∃ e:Rat,0<e/\e<=1/\e*b<d:=by
 have h1:0<d / (b+1):=Ez hd (by grind);have h2:d / (b+1)*(b+1)=d:=G6 (by grind);rcases Vy (a:=d / (b+1)) (b:=1) with h | h
 ·exact ⟨d / (b+1),h1,h,by
   have:d / (b+1)*(b+1)=d / (b+1)*b+d / (b+1):=by grind
   grind⟩
 ·refine ⟨1,by decide,by decide,?_⟩;have:1*(b+1)<=d / (b+1)*(b+1):=Zf h (by grind);grind
def ev:Uo->Rat->Rat
 | [],_=>0
 | a::p,t=>a+t*ev p t
def dv:Uo->Rat->Rat
 | [],_=>0
 | _::p,t=>ev p t+t*dv p t
def dq:Uo->Rat->Rat->Rat
 | [],_,_=>0
 | _::p,x,y=>ev p x+y*dq p x y
def dd:Uo->Rat->Rat->Rat
 | [],_,_=>0
 | _::p,x,y=>dq p x y+y*dd p x y
theorem OQ (x y:Rat):∀ p,ev p x-ev p y=(x-y)*dq p x y
 | []=>by simp only [ev,dq]; grind
 | a::p=>by have:=OQ x y p; simp only [ev,dq]; grind
theorem jV (y:Rat):∀ p,dq p y y=dv p y
 | []=>rfl
 | a::p=>by simp only [dq,dv,jV y p]
theorem Qru (x y:Rat):∀ p,dq p x y-dv p y=(x-y)*dd p x y
 | []=>by simp only [dv,dq,dd]; grind
 |
  a::p=>by
  have h1:=Qru x y p;have h2:=OQ x y p;simp only [dv,dq,dd]; grind
theorem Qrx (p:Uo) (x y:Rat):ev p x-ev p y=(x-y)*dv p y+(x-y)*(x-y)*dd p x y:=by
 have h1:=OQ x y p;have h2:=Qru x y p;grind
def fZ (R:Rat):Uo->Rat
 | []=>0
 | a::p=>Fc a+R*fZ R p
def AS (R:Rat):Uo->Rat
 | []=>0
 | _::p=>fZ R p+R*AS R p
def ddB (R:Rat):Uo->Rat
 | []=>0
 | _::p=>AS R p+R*ddB R p
theorem ZL {R:Rat} (hR:0<=R):∀ p,0<=fZ R p
 | []=>by simp only [fZ]; grind
 | a::p=>by have:=Np hR (ZL hR p); have:=Ho a; simp only [fZ]; grind
theorem Mw {R:Rat} (hR:0<=R):∀ p,0<=AS R p
 | []=>by simp only [AS]; grind
 | a::p=>by have:=Np hR (Mw hR p); have:=ZL hR p; simp only [AS]; grind
theorem BO {R:Rat} (hR:0<=R):∀ p,0<=ddB R p
 | []=>by simp only [ddB]; grind
 | a::p=>by have:=Np hR (BO hR p); have:=Mw hR p; simp only [ddB]; grind
theorem TE {R x:Rat} (hx:Fc x<=R):∀ p,Fc (ev p x)<=fZ R p
 | []=>by simp only [ev,fZ,H8]; grind
 |
  a::p=>by
  have h1:=T0 a (x*ev p x);have h2:=G5 hx (TE hx p);simp only [ev,fZ]; grind
theorem uB {R x y:Rat} (hx:Fc x<=R) (hy:Fc y<=R):∀ p,Fc (dq p x y)<=AS R p
 | []=>by simp only [dq,AS,H8]; grind
 |
  a::p=>by
  have h1:=T0 (ev p x) (y*dq p x y);have h2:=G5 hy (uB hx hy p);have h3:=TE hx p;simp only [dq,AS]; grind
theorem Qgj {R x y:Rat} (hx:Fc x<=R) (hy:Fc y<=R):∀ p,Fc (dd p x y)<=ddB R p
 | []=>by simp only [dd,ddB,H8]; grind
 |
  a::p=>by
  have h1:=T0 (dq p x y) (y*dd p x y);have h2:=G5 hy (Qgj hx hy p);have h3:=uB hx hy p;simp only [dd,ddB]; grind
theorem Quo {R x y:Rat} (hx:Fc x<=R) (hy:Fc y<=R) (p:Uo):Fc (ev p x-ev p y)<=Fc (x-y)*AS R p:=by
 rw [OQ,Ie]; exact B7 (Ho _) Qp (Ho _) (uB hx hy p)
def Se:Uo->Uo->Uo
 | [],q=>q
 | a::p,[]=>a::p
 | a::p,b::q=>(a+b)::Se p q
def Dq (c:Rat) (p:Uo):Uo:=p.map (c * ·)
def Gw:Uo->Uo->Uo
 | [],_=>[]
 | a::p,q=>Se (Dq a q) (0::Gw p q)
def Nt:Uo->Uo
 | []=>[]
 | _::p=>Se p (0::Nt p)
theorem Gs (t:Rat):∀ p q,ev (Se p q) t=ev p t+ev q t
 | [],q=>by simp only [Se,ev]; grind
 | a::p,[]=>by simp only [Se,ev]; grind
 | a::p,b::q=>by have:=Gs t p q; simp only [Se,ev]; grind
theorem Gl (c t:Rat):∀ p,ev (Dq c p) t=c*ev p t
 | []=>by simp only [Dq,Jb,ev]; grind
 | a::p=>by have:=Gl c t p; simp only [Dq,Zz,ev] at *; grind
theorem Fa (t:Rat):∀ p q,ev (Gw p q) t=ev p t*ev q t
 | [],q=>by simp only [Gw,ev]; grind
 | a::p,q=>by have:=Fa t p q; simp only [Gw,Gs,Gl,ev]; grind
theorem Te (t:Rat):∀ p,ev (Nt p) t=dv p t
 | []=>rfl
 | a::p=>by have:=Te t p; simp only [Nt,Gs,ev,dv]; grind
theorem jW (t:Rat):∀ p q,dv (Se p q) t=dv p t+dv q t
 | [],q=>by simp only [Se,dv]; grind
 | a::p,[]=>by simp only [Se,dv]; grind
 | a::p,b::q=>by have:=jW t p q; have:=Gs t p q; simp only [Se,dv]; grind
theorem HM (c t:Rat):∀ p,dv (Dq c p) t=c*dv p t
 | []=>by simp only [Dq,Jb,dv]; grind
 | a::p=>by have:=HM c t p; have:=Gl c t p; simp only [Dq,Zz,dv] at *; grind
theorem jU (t:Rat):∀ p q,dv (Gw p q) t=dv p t*ev q t+ev p t*dv q t
 | [],q=>by simp only [Gw,dv,ev]; grind
 | a::p,q=>by have:=jU t p q; have:=Fa t p q; simp only [Gw,jW,HM,dv,ev]; grind
theorem aJ:∀ {p:Uo},(∀ x∈p,x=0)->∀ t,ev p t=0
 | [],_,t=>rfl
 |
  a::p,h,t=>by
  have h1:=aJ (p:=p) (λx hx=>h x (Qg _ hx)) t;have h2:=h a (Qy ..);simp only [ev,h1,h2]; grind
theorem eA:∀ {p:Uo},(∀ x∈p,x=0)->∀ t,dv p t=0
 | [],_,t=>rfl
 |
  a::p,h,t=>by
  have h0:=λx hx=>h x (Qg _ hx)
  have h1:=aJ (p:=p) h0 t;have h2:=eA (p:=p) h0 t;simp only [dv,h1,h2]; grind
theorem WT:∀ {p:Uo},(∀ t,0<t->t<1->ev p t=0)->∀ x∈p,x=0
 | [],_=>λx hx=>by cases hx
 |
  a::p,h=>by
  have ha:a=0:=by
   rcases Classical.em (a=0) with h0 | h0
   ·exact h0
   ·obtain ⟨e,e1,e2,e3⟩:=Hb (ZL (R:=1) (by decide) p) (Cc h0);obtain ⟨f,f1,f2,f3⟩:=Hb (b:=1) (d:=e) (by decide) e1;have h1:=h f f1 (by grind);have h2:=TE (R:=1) (x:=f) (by unfold Fc; split <;> grind) p;have h3:=Ie f (ev p f);have h4:Fc f=f:=by unfold Fc; split <;> grind
    have h5:a=-(f*ev p f):=by simp only [ev] at h1; grind
    have h6:Fc a=f*Fc (ev p f):=by rw [h5,Ec,h3,h4]
    have h7:f*Fc (ev p f)<=e*fZ 1 p:=B7 (Qt f1) (by grind) (Ho _) h2;grind
  intro x hx;rcases Qm.1 hx with rfl | hx
  ·exact ha
  ·refine WT (p:=p) (λt h1 h2=>?_) x hx;have:=h t h1 h2;simp only [ev,ha] at this;have h3:t*ev p t=0:=by grind
   rcases Yz.1 h3 with h4 | h4
   ·grind
   ·exact h4
theorem Qgs {p q:Uo} (h:∀ t,ev p t=ev q t) (t:Rat):dv p t=dv q t:=by
 have h1:=eA (p:=Se p (Dq (-1) q)) (WT λt _ _=>by rw [Gs,Gl,h t]; grind) t;rw [jW,HM] at h1; grind
def U7 (x:Rat):Int:=if x<0 then -1 else if 0<x then 1 else 0
theorem Gg {x:Rat}:U7 x=0↔x=0:=by
 unfold U7; constructor
 ·intro h; split at h <;> (try split at h) <;> grind
 ·intro h; subst h; rfl
theorem Hk {x:Rat}:U7 x=1↔0<x:=by
 unfold U7; constructor
 ·intro h; split at h <;> (try split at h) <;> grind
 ·intro h; rw [if_neg (by grind),if_pos h]
theorem Sj {x:Rat}:U7 x=-1↔x<0:=by
 unfold U7; constructor
 ·intro h; split at h <;> (try split at h) <;> grind
 ·intro h; rw [if_pos h]
theorem Fv (x:Rat):U7 x=-1/\x<0\/U7 x=0/\x=0\/U7 x=1/\0<x:=by
 rcases Vy (a:=x) (b:=0) with h | h
 ·rcases Classical.em (x=0) with h0 | h0
  ·exact .inr (.inl ⟨Gg.2 h0,h0⟩)
  ·exact .inl ⟨Sj.2 (by grind),by grind⟩
 ·rcases Classical.em (x=0) with h0 | h0
  ·exact .inr (.inl ⟨Gg.2 h0,h0⟩)
  ·exact .inr (.inr ⟨Hk.2 (by grind),by grind⟩)
theorem Si (x y:Rat):U7 (x*y)=U7 x*U7 y:=by
 rcases Fv x with ⟨e1,h1⟩ | ⟨e1,h1⟩ | ⟨e1,h1⟩ <;> rcases Fv y with ⟨e2,h2⟩ | ⟨e2,h2⟩ | ⟨e2,h2⟩ <;> rw [e1,e2]
 ·have:=Ip (x:=-x) (y:=-y) (by grind) (by grind); exact Hk.2 (by grind)
 ·subst h2; exact Gg.2 (by grind)
 ·have:=Ip (x:=-x) (y:=y) (by grind) (by grind); exact Sj.2 (by grind)
 ·subst h1; exact Gg.2 (by grind)
 ·subst h1; exact Gg.2 (by grind)
 ·subst h1; exact Gg.2 (by grind)
 ·have:=Ip (x:=x) (y:=-y) (by grind) (by grind); exact Sj.2 (by grind)
 ·subst h2; exact Gg.2 (by grind)
 ·exact Hk.2 (Ip h1 h2)
theorem Qc5 (x:Rat):U7 (-x)=-U7 x:=by
 rcases Fv x with ⟨e1,h1⟩ | ⟨e1,h1⟩ | ⟨e1,h1⟩ <;> rw [e1]
 ·exact Hk.2 (by grind)
 ·exact Gg.2 (by grind)
 ·exact Sj.2 (by grind)
theorem Pk {a b d:Rat} (h1:d<=Fc a) (h2:Fc (b-a)<d):U7 b=U7 a/\U7 a≠0:=by
 rw [vK] at h2;rcases Fv a with ⟨e,h⟩ | ⟨e,h⟩ | ⟨e,h⟩
 ·rw [e,Sj]; unfold Fc at h1; rw [if_pos h] at h1; exact ⟨by grind,by decide⟩
 ·subst h; rw [H8] at h1; grind
 ·rw [e,Hk]; unfold Fc at h1; rw [if_neg (by grind)] at h1; exact ⟨by grind,by decide⟩
def tc (x:Rat):Int->Up->Nat
 | _,[]=>0
 | s,p::l=>if U7 (ev p x)=0 then tc x s l else (if s=-(U7 (ev p x)) then 1 else 0)+tc x (U7 (ev p x)) l
inductive SCl:List Rat->List Rat->List (List Rat)->Prop
 | base {f g:List Rat} {c:Rat} (hc:c≠0) (hg:∀ t,ev g t=c):SCl f g []
 | step {f g h:List Rat} {l:List (List Rat)} {a b:Rat} {q:List Rat} (ha:0<a) (hb:0<b) (he:∀ t,a*ev f t=ev q t*ev g t-b*ev h t) (hl:SCl g h l):SCl f g (h::l)
theorem Qk3 {x:Rat} {s:Int} {g h:Uo} {l:Up} (hh:U7 (ev h x)=-s) (hs:s≠0):tc x s (g::h::l)=1+tc x (-s) l:=by
 have h3:U7 (ev h x)≠0:=by omega
 have hv:s=1\/s=-1:=by rcases Fv (ev h x) with ⟨e,_⟩ | ⟨e,_⟩ | ⟨e,_⟩ <;> omega
 simp only [tc,if_neg h3,hh];rcases Fv (ev g x) with ⟨e,_⟩ | ⟨e,_⟩ | ⟨e,_⟩ <;> rw [e] <;> rcases hv with rfl | rfl <;> simp
theorem GV {x:Rat} {s:Int} {p:Uo} {l:Up} (h:U7 (ev p x)≠0):tc x s (p::l)=(if s=-(U7 (ev p x)) then 1 else 0)+tc x (U7 (ev p x)) l:=by rw [tc,if_neg h]
theorem P8 {R x y e d:Rat} {p:Uo} (hx:Fc x<=R) (hy:Fc y<=R) (hR:0<=R) (h:Fc (y-x)<=e) (hd:e*AS R p<d):Fc (ev p y-ev p x)<d:=by
 have h1:=Quo hy hx p;have h2:=Zf h (Mw hR p);grind
theorem qY {a x y:Rat} (ha:0<a) (h:a*x<a*y):x<y:=by
 rcases Vy (a:=y) (b:=x) with h' | h'
 ·have:=Z0 h' (Qt ha); grind
 ·rcases Classical.em (x=y) with e | e
  ·subst e; grind
  ·grind
theorem Qv6 {a b d d' B f g h q:Rat} (ha:0<a) (hb:0<b) (dp:0<d) (h7:B*d+a*d<b*d') (hq:Fc q<=B) (hg:Fc g<d) (hh:d'<=Fc h) (he:a*f=q*g-b*h) (hd':0<d'):U7 h=-U7 f/\d<=Fc f:=by
 have h4:=G5 hq (Qt hg);rw [Md] at h4;have had:=Ip ha dp;have h8:=Z0 hh (Qt hb);rcases Fv h with ⟨s,p⟩ | ⟨s,p⟩ | ⟨s,p⟩
 ·have:Fc h=-h:=by unfold Fc; rw [if_pos p]
  rw [this] at h8;have h10:d<f:=qY ha (by grind);rw [s,Hk.2 (show 0<f by grind)];exact ⟨rfl,by unfold Fc; split <;> grind⟩
 ·rw [p,H8] at hh; grind
 ·have:Fc h=h:=by unfold Fc; rw [if_neg (by grind)]
  rw [this] at h8;have h10:f < -d:=qY ha (by grind);rw [s,Sj.2 (show f<0 by grind)];exact ⟨rfl,by unfold Fc; split <;> grind⟩
theorem min2 {a b:Rat} (ha:0<a) (hb:0<b):∃ e:Rat,0<e/\e<=a/\e<=b:=by
 rcases Vy (a:=a) (b:=b) with h | h
 ·exact ⟨a,ha,Qp,h⟩
 ·exact ⟨b,hb,h,Qp⟩
theorem Ga (a b:Rat):a<=b\/b<a:=by
 rcases Vy (a:=a) (b:=b) with h | h
 ·exact .inl h
 ·rcases Classical.em (a=b) with e | e
  ·exact .inl (by grind)
  ·exact .inr (by grind)
theorem Qva {R:Rat} (hR:0<=R) {f g:Uo} {l:Up} (hc:SCl f g l):∃ d e:Rat,0<d/\0<e/\∀ x y,Fc x<=R->Fc y<=R->Fc (y-x)<=e ->
 (d<=Fc (ev f x)\/d<=Fc (ev g x))/\(d<=Fc (ev f x)->U7 (ev f y)=U7 (ev f x)/\U7 (ev f x)≠0)/\(d<=Fc (ev g x)->U7 (ev g y)=U7 (ev g x)/\U7 (ev g x)≠0) /\
 (U7 (ev f y)=U7 (ev f x)->U7 (ev f x)≠0->tc x (U7 (ev f x)) (g::l)=tc y (U7 (ev f x)) (g::l)) /\
 (U7 (ev g y)=U7 (ev g x)->U7 (ev g x)≠0->tc x (U7 (ev g x)) l=tc y (U7 (ev g x)) l):=by
 induction hc with
 |
  @base f g c hc hg =>
  have hd:=Cc hc;obtain ⟨e,e1,e2,e3⟩:=Hb (Mw hR f) hd;refine ⟨Fc c,e,hd,e1,λx y hx hy hxy=>⟨.inr (by rw [hg]; exact Qp),λh=>Pk h (P8 hx hy hR hxy e3),λh=>?_,λ_ _=>?_,λ_ _=>rfl⟩⟩
  ·rw [hg,hg]; exact ⟨rfl,λh=>hc (Gg.1 h)⟩
  ·simp only [tc,hg]
 |
  @step f g h l a b q ha hb he hl ih =>
  obtain ⟨d',e',hd',he',ih⟩:=ih;obtain ⟨d1,d1p,_,d1b⟩:=Hb (b:=fZ R q+a) (d:=b*d') (by have:=ZL hR q; grind) (Ip hb hd');obtain ⟨d,dp,hd1,hdd⟩:=min2 d1p hd';obtain ⟨ef,ef1,_,ef3⟩:=Hb (Mw hR f) dp;obtain ⟨eg,eg1,_,eg3⟩:=Hb (Mw hR g) dp;obtain ⟨e0,e0p,h1,h2⟩:=min2 ef1 eg1;obtain ⟨e,ep,h0,h3⟩:=min2 e0p he';have h1:=Zk h0 h1;have h2:=Zk h0 h2;refine ⟨d,e,dp,ep,λx y hx hy hxy=>?_⟩;obtain ⟨i1,i2,i3,i4,i5⟩:=ih x y hx hy (Zk hxy h3);have hsm:Fc (ev g x)<d->d'<=Fc (ev h x)/\U7 (ev h x)=-U7 (ev f x)/\d<=Fc (ev f x):=λhg=>by
   have hh:d'<=Fc (ev h x):=by
    rcases i1 with i | i
    ·exact absurd (Zk hdd i) (Jq.2 hg)
    ·exact i
   have h6:d*(fZ R q+a)<=d1*(fZ R q+a):=Zf hd1 (by have:=ZL hR q; clear ih i1 i2 i3 i4 i5 he; grind);have h7:fZ R q*d+a*d<b*d':=by clear ih i1 i2 i3 i4 i5 he; grind
   exact ⟨hh,Qv6 ha hb dp h7 (TE hx q) hg hh (he x) hd'⟩
  have hfs:d<=Fc (ev f x)->U7 (ev f y)=U7 (ev f x)/\U7 (ev f x)≠0:=λh=>Pk h (P8 hx hy hR (Zk hxy h1) ef3)
  have hgs:d<=Fc (ev g x)->U7 (ev g y)=U7 (ev g x)/\U7 (ev g x)≠0:=λh=>Pk h (P8 hx hy hR (Zk hxy h2) eg3)
  refine ⟨?_,hfs,hgs,λs1 s2=>?_,i4⟩
  ·rcases Ga d (Fc (ev g x)) with h | h
   ·exact .inr h
   ·exact .inl (hsm h).2.2
  ·rcases Ga d (Fc (ev g x)) with h | h
   ·obtain ⟨g1,g2⟩:=hgs h;rw [GV (x:=x) (p:=g) g2,GV (x:=y) (p:=g) (by rw [g1]; exact g2),g1,i4 g1 g2]
   ·obtain ⟨h4,h5,_⟩:=hsm h;obtain ⟨h6,h7⟩:=i3 h4;have i5:=i5 h6 h7;rw [Qk3 h5 s2,Qk3 (h6.trans h5) s2,<-h5,i5]
def Pe (p:Uo) (x:Rat):Int:=if U7 (ev p x)≠0 then U7 (ev p x) else U7 (dv p x)
def vv (L:Up) (x:Rat):Nat:=tc x 0 L
def GB (f:Uo) (L:Up):Prop:=(∃ c:Rat,c≠0/\(∀ t,ev f t=c)/\L=[f])\/∃ g l,∃ k:Rat,0<k/\(∀ t,ev g t=k*dv f t)/\SCl f g l/\L=f::g::l
structure Sm (w:List Rat) (x y:Rat):Prop where
 s:U7 (ev w y)=Pe w x
 l:Pe w y=Pe w x
 n:Pe w x≠0
theorem Ad {p:Uo} {x:Rat} (h:U7 (ev p x)≠0):Pe p x=U7 (ev p x):=by unfold Pe; rw [if_pos h]
theorem nN {p:Uo} {x:Rat} (h:U7 (ev p x)=0):Pe p x=U7 (dv p x):=by unfold Pe; rw [if_neg (by simpa using h)]
theorem tD {p:Uo} {x y:Rat} (h:U7 (ev p y)=U7 (ev p x)) (h0:U7 (ev p x)≠0):Sm p x y:=by
 have h1:=Ad h0;have h2:=Ad (p:=p) (x:=y) (by rw [h]; exact h0);exact ⟨by rw [h,h1],by rw [h2,h1,h],by rw [h1]; exact h0⟩
theorem QW {f w u:Uo} (h:∀ t,ev f t=ev w t*ev u t) (x:Rat):dv f x=dv w x*ev u x+ev w x*dv u x:=by
 rw [<-jU]; exact Qgs (λt=>by rw [h,Fa]) x
theorem iY {f w u:Uo} {x:Rat} (h:∀ t,ev f t=ev w t*ev u t) (hu:U7 (ev u x)≠0):Pe f x=Pe w x*U7 (ev u x):=by
 by_cases hw:U7 (ev w x)=0
 ·have hw0:=Gg.1 hw;have e1:ev f x=0:=by rw [h,hw0]; grind
  have e2:dv f x=dv w x*ev u x:=by rw [QW h,hw0]; grind
  rw [nN hw,nN (Gg.2 e1),e2,Si]
 ·have e1:U7 (ev f x)=U7 (ev w x)*U7 (ev u x):=by rw [h,Si]
  rw [Ad hw,Ad (by rw [e1]; exact Jo hw hu),e1]
theorem Qv7 {f w u:Uo} {x y:Rat} (h:∀ t,ev f t=ev w t*ev u t) (hu:U7 (ev u y)=U7 (ev u x)) (h0:U7 (ev u x)≠0) (hf:Sm f x y):Sm w x y:=by
 have e1:=iY h h0;have e2:=iY (x:=y) h (by rw [hu]; exact h0);have e3:U7 (ev f y)=U7 (ev w y)*U7 (ev u y):=by rw [h,Si]
 obtain ⟨s,l,n⟩:=hf;rw [hu] at e2 e3;refine ⟨?_,?_,λh=>n (by rw [e1,h,Yw])⟩
 ·rw [e3,e1] at s; exact Y0 h0 s
 ·rw [e2,e1] at l; exact Y0 h0 l
theorem tc0 {x:Rat} {s:Int} {f g:Uo} {l:Up} (h:U7 (ev g x)=s) (hs:s≠0):tc x 0 (f::g::l)=(if U7 (ev f x)=-s then 1 else 0)+tc x s l:=by
 have hv:s=1\/s=-1:=by rcases Fv (ev g x) with ⟨e,_⟩ | ⟨e,_⟩ | ⟨e,_⟩ <;> omega
 have hg:U7 (ev g x)≠0:=by omega
 rw [tc];rcases Fv (ev f x) with ⟨e,_⟩ | ⟨e,_⟩ | ⟨e,_⟩ <;> rw [e] <;> rcases hv with rfl | rfl <;> simp [GV hg,h]
theorem LJ {R x y e d:Rat} {p:Uo} (hx:Fc x<=R) (hy:Fc y<=R) (hR:0<=R) (hxy:x<y) (h:y-x<=e) (hd:d<=Fc (dv p x)) (he:e*ddB R p<d):U7 (ev p y-ev p x)=U7 (dv p x):=by
 have h1:=Qrx p y x;have h2:ev p y-ev p x=(y-x)*(dv p x+(y-x)*dd p y x):=by rw [h1]; grind
 have h3:=G5 (x:=y-x) (y:=dd p y x) (a:=e) (b:=ddB R p) (by rw [Md]; constructor <;> grind) (Qgj hy hx p);have h4:=Pk (b:=dv p x+(y-x)*dd p y x) hd (by
  have:dv p x+(y-x)*dd p y x-dv p x=(y-x)*dd p y x:=by grind
  rw [this]; exact Jq.1 λh=>absurd (Zk h h3) (Jq.2 he))
 rw [h2,Si,Hk.2 (show 0<y-x by grind),h4.1,Kr]
def Qds (f w:Uo) (L:Up) (x y:Rat):Prop :=
 (vv L x=vv L y/\Sm f x y/\Sm w x y)\/(vv L x=vv L y+1/\Pe f x≠0/\Pe f y=-Pe f x/\U7 (ev f x)=Pe f x/\(U7 (ev f y)=0\/U7 (ev f y)=-Pe f x))
theorem Qr0 {R d:Rat} (hR:0<=R) (hd:0<d) {f w u:Uo} (h:∀ t,ev f t=ev w t*ev u t):∃ e:Rat,0<e/\∀ x y,Fc x<=R->Fc y<=R->Fc (y-x)<=e->d<=Fc (ev f x)->Sm f x y/\Sm w x y:=by
 obtain ⟨ef,ef1,_,ef3⟩:=Hb (Mw hR f) hd;obtain ⟨d1,d1p,_,d1b⟩:=Hb (ZL hR u) hd;obtain ⟨ew,ew1,_,ew3⟩:=Hb (Mw hR w) d1p;obtain ⟨e,ep,e1,e2⟩:=min2 ef1 ew1;refine ⟨e,ep,λx y hx hy hxy hf=>⟨?_,?_⟩⟩
 ·have:=Pk hf (P8 hx hy hR (Zk hxy e1) ef3);exact tD this.1 this.2
 ·have hw:d1<=Fc (ev w x):=by
   rcases Ga d1 (Fc (ev w x)) with h' | h'
   ·exact h'
   ·have h5:=G5 (Qt h') (TE hx u);rw [<-h] at h5;exact absurd (Zk hf h5) (Jq.2 d1b)
  have:=Pk hw (P8 hx hy hR (Zk hxy e2) ew3);exact tD this.1 this.2
theorem loc {R:Rat} (hR:0<=R) {f w u:Uo} {L:Up} (hc:GB f L) (h:∀ t,ev f t=ev w t*ev u t):∃ e:Rat,0<e/\∀ x y,Fc x<=R->Fc y<=R->x<y->y-x<=e->Qds f w L x y:=by
 rcases hc with ⟨c,hc,hf,rfl⟩ | ⟨g,l,k,hk,hg,hc,rfl⟩
 ·obtain ⟨e,ep,h1⟩:=Qr0 hR (Cc hc) h;refine ⟨e,ep,λx y hx hy hxy he=>.inl ⟨?_,h1 x y hx hy (by rw [Md]; constructor <;> grind) (by rw [hf]; exact Qp)⟩⟩;simp only [vv,tc,hf]
 ·obtain ⟨d,e1,dp,e1p,h1⟩:=Qva hR hc;obtain ⟨e2,e2p,h2⟩:=Qr0 hR dp h;obtain ⟨d3,d3p,_,d3b⟩:=Hb (b:=k) (d:=d) (Qt hk) dp;obtain ⟨e3,e3p,_,e3b⟩:=Hb (BO hR f) d3p;obtain ⟨d4,d4p,_,d4b⟩:=Hb (b:=AS R w+AS R u) (d:=d3) (by have:=Mw hR w; have:=Mw hR u; grind) d3p;obtain ⟨e4,e4p,_,e4b⟩:=Hb (Mw hR w) d4p;obtain ⟨e5,e5p,_,e5b⟩:=Hb (Mw hR u) d4p;obtain ⟨a1,a1p,a11,a12⟩:=min2 e1p e2p;obtain ⟨a2,a2p,a21,a22⟩:=min2 e3p e4p;obtain ⟨a3,a3p,a31,a32⟩:=min2 a1p a2p;obtain ⟨e,ep,b1,b2⟩:=min2 a3p e5p;refine ⟨e,ep,λx y hx hy hxy he=>?_⟩;have hab:Fc (y-x)<=e:=by rw [Md]; clear h1 h2; constructor <;> grind
  have hab1:Fc (y-x)<=e1:=by clear h1 h2; grind
  have hab2:Fc (y-x)<=e2:=by clear h1 h2; grind
  obtain ⟨i1,i2,i3,i4,i5⟩:=h1 x y hx hy hab1;rcases Ga d (Fc (ev f x)) with hf | hf
  ·obtain ⟨s1,s2⟩:=h2 x y hx hy hab2 hf;obtain ⟨j1,j2⟩:=i2 hf;refine .inl ⟨?_,s1,s2⟩;have:=i4 j1 j2;simp only [vv];rw [GV (x:=x) (p:=f) j2,GV (x:=y) (p:=f) (by rw [j1]; exact j2),j1,this]
  ·have hg1:d<=Fc (ev g x):=by
    rcases i1 with i | i
    ·exact absurd i (Jq.2 hf)
    ·exact i
   obtain ⟨g1,g2⟩:=i3 hg1;have i5:=i5 g1 g2;have hD:d3<=Fc (dv f x):=by
    rcases Ga d3 (Fc (dv f x)) with h' | h'
    ·exact h'
    ·have h5:=G5 (x:=k) (a:=k) (by unfold Fc; split <;> clear h1 h2 <;> grind) (Rat.le_of_lt h');rw [<-hg] at h5;have:k*d3=d3*k:=by grind
     exact absurd (Zk hg1 h5) (Jq.2 (by rw [this]; exact d3b))
   have hm:=LJ hx hy hR hxy (by clear h1 h2; grind:y-x<=e3) hD e3b;have s1:U7 (ev g x)=U7 (dv f x):=by rw [hg,Si,Hk.2 hk,Kr]
   have s2:U7 (ev g y)=U7 (dv f y):=by rw [hg,Si,Hk.2 hk,Kr]
   obtain ⟨s,hs⟩:=nmE (U7 (ev g x));rw [<-hs] at g1 g2 i5 s1;rw [g1] at s2;have v1:=tc0 (f:=f) (l:=l) hs.symm g2;have v2:=tc0 (f:=f) (l:=l) g1 g2;rw [<-i5] at v2;rw [<-s1] at hm;have hw:Sm f x y->Sm w x y:=λhf=>by
    rcases Ga d4 (Fc (ev u x)) with hu | hu
    ·have hu:=Pk hu (P8 hx hy hR (Zk hab b2) e5b);exact Qv7 h hu.1 hu.2 hf
    ·have hw:d4<=Fc (ev w x):=by
      rcases Ga d4 (Fc (ev w x)) with h' | h'
      ·exact h'
      ·have q1:=G5 (x:=dv w x) (y:=ev u x) (a:=AS R w) (by rw [<-jV]; exact uB hx hx w) (Qt hu);have q2:=G5 (x:=ev w x) (y:=dv u x) (b:=AS R u) (Qt h') (by rw [<-jV]; exact uB hx hx u);have q3:=T0 (dv w x*ev u x) (ev w x*dv u x);rw [<-QW h] at q3;have:d4*(AS R w+AS R u)=AS R w*d4+d4*AS R u:=by grind
       rw [this] at d4b;exact absurd (Zk hD (Zk q3 (by clear h1 h2; grind:_<=AS R w*d4+d4*AS R u))) (Jq.2 d4b)
     have hw:=Pk hw (P8 hx hy hR (Zk hab (by clear h1 h2; grind)) e4b);exact tD hw.1 hw.2
   have lx:Pe f x=if U7 (ev f x)≠0 then U7 (ev f x) else s:=by rw [s1]; rfl
   have ly:Pe f y=if U7 (ev f y)≠0 then U7 (ev f y) else s:=by rw [s2]; rfl
   clear h1 h2 i1 i2 i3 i4;have hsv:s=1\/s=-1:=by rcases Fv (ev g x) with ⟨e,_⟩ | ⟨e,_⟩ | ⟨e,_⟩ <;> omega
   unfold Qds;simp only [vv,v1,v2];rcases hsv with rfl | rfl
   ·have hm:=Hk.1 hm;rcases Fv (ev f x) with ⟨p1,p2⟩ | ⟨p1,p2⟩ | ⟨p1,p2⟩
    ·rcases Fv (ev f y) with ⟨q1,q2⟩ | ⟨q1,q2⟩ | ⟨q1,q2⟩
     ·rw [p1,q1]; have hsm:=tD (p:=f) (x:=x) (y:=y) (by rw [p1,q1]) (by rw [p1]; decide);exact .inl ⟨rfl,hsm,hw hsm⟩
     ·rw [lx,ly,p1,q1]; refine .inr ⟨by simp; omega,by decide,by decide,by decide,by decide⟩
     ·rw [lx,ly,p1,q1]; refine .inr ⟨by simp; omega,by decide,by decide,by decide,by decide⟩
    ·have q1:=Hk.2 (show 0<ev f y by grind);have hsm:Sm f x y:=⟨by rw [lx,q1,p1]; rfl,by rw [lx,ly,q1,p1]; rfl,by rw [lx,p1]; decide⟩;rw [p1,q1]; exact .inl ⟨rfl,hsm,hw hsm⟩
    ·have q1:=Hk.2 (show 0<ev f y by grind);have hsm:Sm f x y:=⟨by rw [lx,q1,p1]; rfl,by rw [lx,ly,q1,p1],by rw [lx,p1]; decide⟩;rw [p1,q1]; exact .inl ⟨rfl,hsm,hw hsm⟩
   ·have hm:=Sj.1 hm;rcases Fv (ev f x) with ⟨p1,p2⟩ | ⟨p1,p2⟩ | ⟨p1,p2⟩
    ·have q1:=Sj.2 (show ev f y<0 by grind);have hsm:Sm f x y:=⟨by rw [lx,q1,p1]; rfl,by rw [lx,ly,q1,p1],by rw [lx,p1]; decide⟩;rw [p1,q1]; exact .inl ⟨rfl,hsm,hw hsm⟩
    ·have q1:=Sj.2 (show ev f y<0 by grind);have hsm:Sm f x y:=⟨by rw [lx,q1,p1]; rfl,by rw [lx,ly,q1,p1]; rfl,by rw [lx,p1]; decide⟩;rw [p1,q1]; exact .inl ⟨rfl,hsm,hw hsm⟩
    ·rcases Fv (ev f y) with ⟨q1,q2⟩ | ⟨q1,q2⟩ | ⟨q1,q2⟩
     ·rw [lx,ly,p1,q1]; refine .inr ⟨by simp; omega,by decide,by decide,by decide,by decide⟩
     ·rw [lx,ly,p1,q1]; refine .inr ⟨by simp; omega,by decide,by decide,by decide,by decide⟩
     ·rw [p1,q1]; have hsm:=tD (p:=f) (x:=x) (y:=y) (by rw [p1,q1]) (by rw [p1]; decide);exact .inl ⟨rfl,hsm,hw hsm⟩
theorem Qz7 (z:Rat):∃ n:Nat,z<=(n:Rat):=by
 refine ⟨z.ceil.toNat,?_⟩;have h1:z<=(z.ceil:Rat):=Rat.le_ceil;have h2:(z.ceil:Rat)<=((z.ceil.toNat:Int):Rat):=Je.2 (Int.self_le_toNat _);exact Zk h1 h2
theorem ZR {z e:Rat} (he:0<e):∃ n:Nat,z<=(n:Rat)*e:=by
 obtain ⟨n,hn⟩:=Qz7 (z / e);exact ⟨n,by have:=Zf hn (Qt he); rwa [G6 he] at this⟩
theorem UC {R x y t:Rat} (hx:Fc x<=R) (hy:Fc y<=R) (h1:x<=t) (h2:t<=y):Fc t<=R:=by
 rw [Md] at *; constructor <;> grind
def Qar (f w:Uo) (L:Up) (x y:Rat):Prop :=
 vv L y<=vv L x/\(vv L x=vv L y->Sm f x y/\Sm w x y)/\(vv L x=vv L y+1->Pe f x≠0/\Pe f y=-Pe f x)
theorem iZ {f w:Uo} {L:Up} {x y:Rat} (h:Qds f w L x y):Qar f w L x y:=by
 rcases h with ⟨h1,h2,h3⟩ | ⟨h1,h2,h3,_⟩
 ·exact ⟨by omega,λ_=>⟨h2,h3⟩,λh=>by omega⟩
 ·exact ⟨by omega,λh=>by omega,λ_=>⟨h2,h3⟩⟩
theorem tL {w:Uo} {x y z:Rat} (h1:Sm w x y) (h2:Sm w y z):Sm w x z:=⟨by rw [h2.s,h1.l],by rw [h2.l,h1.l],h1.n⟩
theorem nP {f w:Uo} {L:Up} {x y z:Rat} (h:Qar f w L x y) (h':Qar f w L y z):Qar f w L x z:=by
 obtain ⟨a1,a2,a3⟩:=h;obtain ⟨b1,b2,b3⟩:=h';refine ⟨by omega,λh=>?_,λh=>?_⟩
 ·obtain ⟨s1,s2⟩:=a2 (by omega);obtain ⟨s3,s4⟩:=b2 (by omega);exact ⟨tL s1 s3,tL s2 s4⟩
 ·by_cases e:vv L x=vv L y
  ·obtain ⟨s1,_⟩:=a2 e;obtain ⟨s3,s4⟩:=b3 (by omega);exact ⟨s1.n,by rw [s4,s1.l]⟩
  ·obtain ⟨s3,s4⟩:=a3 (by omega);obtain ⟨s1,_⟩:=b2 (by omega);exact ⟨s3,by rw [s1.l,s4]⟩
theorem Quy {R:Rat} (hR:0<=R) {f w u:Uo} {L:Up} (hc:GB f L) (h:∀ t,ev f t=ev w t*ev u t) {x y:Rat} (hx:Fc x<=R) (hy:Fc y<=R) (hxy:x<y):Qar f w L x y:=by
 obtain ⟨e,ep,hl⟩:=loc hR hc h;have key:∀ n:Nat,∀ x,Fc x<=R->x<y->y-x<=(n:Rat)*e->Qar f w L x y:=by
  intro n
  induction n with
  | zero =>
   intro x hx hxy h; exfalso; have:((0:Nat):Rat)*e=0:=by simp
   grind
  |
   succ n ih =>
   intro x hx hxy hn;rcases Ga (y-x) e with h1 | h1
   ·exact iZ (hl x y hx hy hxy h1)
   ·have hm:Fc (x+e)<=R:=UC hx hy (by clear hl ih; grind) (by clear hl ih; grind);have hn':(((n+1:Nat):Rat))=(n:Rat)+1:=by push_cast; rfl
    refine nP (iZ (hl x (x+e) hx hm (by clear hl ih; grind) (by clear hl ih; grind))) (ih (x+e) hm (by clear hl ih; grind) ?_);rw [hn'] at hn;clear hl ih; grind
 obtain ⟨n,hn⟩:=ZR (z:=y-x) ep;exact key n x hx hxy hn
theorem xX (x y:Rat):∃ R:Rat,0<=R/\Fc x<=R/\Fc y<=R:=by
 refine ⟨Fc x+Fc y,?_,?_,?_⟩ <;> (have:=Ho x; have:=Ho y; grind)
theorem Rw (t:Rat):ev [1] t=1:=by simp only [ev]; grind
theorem Ar {f:Uo} {L:Up} (hc:GB f L) {x y:Rat} (hxy:x<y):vv L y<=vv L x:=by
 obtain ⟨R,hR,hx,hy⟩:=xX x y;exact (Quy hR hc (w:=f) (u:=[1]) (λt=>by rw [Rw]; grind) hx hy hxy).1
theorem VB {f w u:Uo} {L:Up} (hc:GB f L) (h:∀ t,ev f t=ev w t*ev u t) {x y:Rat} (hxy:x<y) (he:vv L x=vv L y):Sm w x y:=by
 obtain ⟨R,hR,hx,hy⟩:=xX x y;exact ((Quy hR hc h hx hy hxy).2.1 he).2
theorem kY {f:Uo} {L:Up} (hc:GB f L) {x y:Rat} (hxy:x<y) (he:vv L x=vv L y):Sm f x y :=
 VB hc (w:=f) (u:=[1]) (λt=>by rw [Rw]; grind) hxy he
theorem kJ {f:Uo} {L:Up} (hc:GB f L) {x y:Rat} (hxy:x<y) (he:vv L x=vv L y+1):Pe f x≠0/\Pe f y=-Pe f x:=by
 obtain ⟨R,hR,hx,hy⟩:=xX x y;exact (Quy hR hc (w:=f) (u:=[1]) (λt=>by rw [Rw]; grind) hx hy hxy).2.2 he
theorem Qla {f:Uo} {L:Up} (hc:GB f L) (R:Rat) (hR:0<=R):∃ e:Rat,0<e/\∀ x y,Fc x<=R->Fc y<=R->x<y->y-x<=e->vv L x<=vv L y+1:=by
 obtain ⟨e,ep,hl⟩:=loc hR hc (w:=f) (u:=[1]) (λt=>by rw [Rw]; grind);refine ⟨e,ep,λx y hx hy hxy he=>?_⟩;rcases hl x y hx hy hxy he with ⟨h,_⟩ | ⟨h,_⟩ <;> omega
theorem UY {p:Uo} {x:Rat} (h:U7 (ev p x)≠0):∃ e:Rat,0<e/\∀ y,Fc (y-x)<=e->U7 (ev p y)=U7 (ev p x):=by
 have hd:=Cc (x:=ev p x) λh0=>h (Gg.2 h0)
 have hR:0<=Fc x+1:=by have:=Ho x; grind
 obtain ⟨e,e1,e2,e3⟩:=Hb (Mw hR p) hd;refine ⟨e,e1,λy hy=>(Pk Qp (P8 (x:=x) (by grind) ?_ hR hy e3)).1⟩;have:=T0 (y-x) x;have e:y-x+x=y:=by grind
 rw [e] at this; grind
theorem Qr9 {R M:Rat} {p:Uo} (hM:M=ddB R p) (hR:0<=R) {h:Rat} (hh:0<h):∀ (n:Nat) (x:Rat),Fc x<=R->Fc (x+(n:Rat)*h)<=R->(∀ t,x<=t->t<=x+(n:Rat)*h->0<=dv p t)->ev p x-(n:Rat)*(h*h*M)<=ev p (x+(n:Rat)*h)
 |
  0,x,_,_,_=>by
  have e1:x+((0:Nat):Rat)*h=x:=by rw [show ((0:Nat):Rat)=0 from rfl]; grind
  have e2:((0:Nat):Rat)*(h*h*M)=0:=by simp
  rw [e1,e2]; grind
 |
  n+1,x,hx,hy,hd=>by
  have hn':(((n+1:Nat):Rat))=(n:Rat)+1:=by push_cast; rfl
  rw [hn'] at hy hd ⊢;have hn0:(0:Rat)<=(n:Rat):=Xl;have hnh:=Np hn0 (Qt hh);have e1:x+((n:Rat)+1)*h=(x+h)+(n:Rat)*h:=by grind
  rw [e1] at hy hd ⊢;have hxh:Fc (x+h)<=R:=UC hx hy (by clear hd; grind) (by clear hd; grind);have ih:=Qr9 hM hR hh n (x+h) hxh hy λt h1 h2=>hd t (by clear hd; grind) h2
  have h0:=hd x Qp (by clear hd; grind);have h1:=Qrx p (x+h) x;have h2:=Qgj hxh hx p;rw [<-hM,Md] at h2;have h3:=Z0 h2.1 (Np (Qt hh) (Qt hh));have h4:=Np (Qt hh) h0;have e2:x+h-x=h:=by grind
  rw [e2] at h1;clear hd hx hy hxh;grind
theorem Qyr {p:Uo} {x y:Rat} (hxy:x<y) (hd:∀ t,x<=t->t<=y->0<=dv p t):ev p x<=ev p y:=by
 obtain ⟨R,hR,hx,hy⟩:=xX x y;rcases Ga (ev p x) (ev p y) with h | h
 ·exact h
 ·exfalso;obtain ⟨M,hM⟩:=nmE (ddB R p);have hM0:=BO hR p;rw [<-hM] at hM0;obtain ⟨e,ep,_,he⟩:=Hb (b:=(y-x)*M) (d:=ev p x-ev p y) (Np (by grind) hM0) (by grind);obtain ⟨n,hn⟩:=ZR (z:=y-x) ep;have hn0:0<(n:Rat):=by
   rcases Ga (n:Rat) 0 with h' | h'
   ·have:=Zf h' (Qt ep); clear hd; grind
   ·exact h'
  have hh:0<(y-x) / n:=Ez (by grind) hn0;have e1:(n:Rat)*((y-x) / n)=y-x:=by rw [W5]; exact G6 hn0
  have e2:x+(n:Rat)*((y-x) / n)=y:=by rw [e1]; grind
  have h1:=Qr9 hM hR hh n x hx (by rw [e2]; exact hy) (by rw [e2]; exact hd);rw [e2] at h1;have h2:(y-x) / n<=e:=by
   rcases Ga ((y-x) / n) e with h' | h'
   ·exact h'
   ·have:=Rat.mul_lt_mul_of_pos_left h' hn0; clear hd; grind
  have h3:(n:Rat)*((y-x) / n*((y-x) / n)*M)=((y-x) / n)*((y-x)*M):=by
   have:(n:Rat)*((y-x) / n*((y-x) / n)*M)=((n:Rat)*((y-x) / n))*(((y-x) / n)*M):=by grind
   rw [this,e1]; grind
  have h4:=Zf h2 (Np (x:=y-x) (y:=M) (by grind) hM0);rw [h3] at h1;clear hd; grind
theorem Qpz {p:Uo} {x y:Rat} (hxy:x<y) (hd:∀ t,x<=t->t<=y->0<dv p t):ev p x<ev p y:=by
 have hx:=hd x Qp (by grind);have hR:0<=Fc x+1:=by have:=Ho x; grind
 obtain ⟨e,e1,e2,e3⟩:=Hb (BO hR p) hx;obtain ⟨f,f1,f2,f3⟩:=min2 (a:=e) (b:=y-x) e1 (by grind);have hq:Fc (x+f)<=Fc x+1:=by
  have:=T0 x f; have:Fc f=f:=by unfold Fc; split <;> grind
  clear hd; grind
 have h1:=LJ (p:=p) (x:=x) (y:=x+f) (R:=Fc x+1) (e:=e) (d:=dv p x) (by clear hd; grind) hq hR (by grind) (by grind) (by unfold Fc; split <;> clear hd <;> grind) e3;rw [Hk.2 hx,Hk] at h1;rcases Classical.em (x+f=y) with e | e
 ·rw [<-e]; clear hd; grind
 ·have:=Qyr (p:=p) (x:=x+f) (y:=y) (by clear hd; grind) λt h1 h2=>Qt (hd t (by clear hd; grind) h2)
  clear hd; grind
structure Cut (c:Rat->Int):Prop where
 val:∀ q,c q=1\/c q=0\/c q=-1
 mono:∀ q r,q<r->c q≠1->c r=-1
 up:∀ q,c q=1->∃ r,q<r/\c r=1
 dn:∀ q,c q=-1->∃ r,r<q/\c r=-1
 lo:∃ q,c q=1
 hi:∃ q,c q=-1
theorem Cut.mono' {c:Rat->Int} (h:Cut c) {q r:Rat} (hqr:q<r) (hr:c r≠-1):c q=1:=by
 rcases Classical.em (c q=1) with e | e
 ·exact e
 ·exact absurd (h.mono q r hqr e) hr
theorem Cut.lt {c:Rat->Int} (h:Cut c) {q r:Rat} (hq:c q=1) (hr:c r=-1):q<r:=by
 rcases Ga r q with e | e
 ·rcases Classical.em (r=q) with e' | e'
  ·rw [e'] at hr; omega
  ·have:=h.mono r q (by grind) (by omega); omega
 ·exact e
theorem Cut.near {c:Rat->Int} (h:Cut c) {e:Rat} (he:0<e):∃ x y,c x=1/\c y=-1/\y-x<=e:=by
 obtain ⟨a,ha⟩:=h.lo;obtain ⟨b,hb⟩:=h.hi;have he2:0<e / 2:=Ez he (by decide);have h2:e / 2*2=e:=G6 (by decide);have key:∀ (n:Nat) (a:Rat),c a=1->b-a<=(n:Rat)*(e / 2)->∃ x y,c x=1/\c y=-1/\y-x<=e:=by
  intro n
  induction n with
  |
   zero =>
   intro a ha hn;have:=h.lt ha hb;rw [show ((0:Nat):Rat)=0 from rfl] at hn;exfalso; grind
  |
   succ n ih =>
   intro a ha hn;have hn':(((n+1:Nat):Rat))=(n:Rat)+1:=by push_cast; rfl
   rw [hn'] at hn;rcases h.val (a+e / 2) with h1 | h1 | h1
   ·exact ih _ h1 (by grind)
   ·exact ⟨a,a+e,ha,h.mono (a+e / 2) _ (by grind) (by omega),by grind⟩
   ·exact ⟨a,a+e / 2,ha,h1,by grind⟩
 obtain ⟨n,hn⟩:=ZR (z:=b-a) he2;exact key n a ha hn
def Iv (p:Uo) (c:Rat->Int):Prop:=∀ d:Rat,0<d->∃ x y,c x=1/\c y=-1/\∀ q,x<=q->q<=y->Fc (ev p q)<d
def NZ (p:Uo) (c:Rat->Int) (s:Int):Prop:=∃ d:Rat,0<d/\∃ x y,c x=1/\c y=-1/\∀ q,x<=q->q<=y->U7 (ev p q)=s/\d<=Fc (ev p q)
def Nr (c:Rat->Int) (P:Rat->Prop):Prop:=∃ x y,c x=1/\c y=-1/\∀ q,x<=q->q<=y->P q
theorem bZ {c:Rat->Int} {P Q:Rat->Prop} (h1:Nr c P) (h2:Nr c Q):Nr c λq=>P q/\Q q:=by
 obtain ⟨x,y,a1,a2,a3⟩:=h1;obtain ⟨x',y',b1,b2,b3⟩:=h2;refine ⟨if x<=x' then x' else x,if y<=y' then y else y',by split <;> assumption,by split <;> assumption,λq q1 q2=>⟨a3 q ?_ ?_,b3 q ?_ ?_⟩⟩ <;> clear a3 b3 <;> grind
theorem MS {c:Rat->Int} {P Q:Rat->Prop} (h1:Nr c P) (h:∀ q,P q->Q q):Nr c Q:=by
 obtain ⟨x,y,a1,a2,a3⟩:=h1;exact ⟨x,y,a1,a2,λq q1 q2=>h q (a3 q q1 q2)⟩
theorem hZ {c:Rat->Int} (hc:Cut c) {P:Rat->Prop} (h1:Nr c P):∃ q,P q/\c q=1:=by
 obtain ⟨x,y,a1,a2,a3⟩:=h1;exact ⟨x,a3 x Qp (Qt (hc.lt a1 a2)),a1⟩
theorem Qi2 {c:Rat->Int} (hc:Cut c) {e:Rat} (he:0<e) {P:Rat->Prop} (h1:Nr c P):∃ x y,c x=1/\c y=-1/\y-x<=e/\x<y/\∀ q,x<=q->q<=y->P q:=by
 obtain ⟨x,y,a1,a2,a3⟩:=h1;obtain ⟨x',y',b1,b2,b3⟩:=hc.near he;refine ⟨if x<=x' then x' else x,if y<=y' then y else y',by split <;> assumption,by split <;> assumption,by clear a3; grind,hc.lt (by split <;> assumption) (by split <;> assumption),λq q1 q2=>a3 q ?_ ?_⟩ <;> clear a3 <;> grind
theorem Qr7 {c:Rat->Int} (hc:Cut c):∃ R:Rat,0<=R/\Nr c λq=>Fc q<=R:=by
 obtain ⟨x,y,a1,a2,_⟩:=hc.near (e:=1) (by decide);obtain ⟨R,hR,h1,h2⟩:=xX x y;exact ⟨R,hR,x,y,a1,a2,λq q1 q2=>UC h1 h2 q1 q2⟩
theorem JG {c:Rat->Int} (hc:Cut c) (p:Uo):Iv p c\/∃ s,s≠0/\NZ p c s:=by
 rcases Classical.em (Iv p c) with h | h
 ·exact .inl h
 ·refine .inr ?_;obtain ⟨d,hd0⟩:=Classical.not_forall.1 h;obtain ⟨dp,hd⟩:=Classical.not_imp.1 hd0;have hd:∀ x y,c x=1->c y=-1->∃ q,x<=q/\q<=y/\d<=Fc (ev p q):=λx y hx hy=>by
   rcases Classical.em (∃ q,x<=q/\q<=y/\d<=Fc (ev p q)) with h' | h'
   ·exact h'
   ·refine absurd ⟨x,y,hx,hy,λq h1 h2=>?_⟩ hd;rcases Ga d (Fc (ev p q)) with h3 | h3
    ·exact absurd ⟨q,h1,h2,h3⟩ h'
    ·exact h3
  obtain ⟨R,hR,hn⟩:=Qr7 hc;have hd2:0<d / 2:=Ez dp (by decide);have h2:d / 2*2=d:=G6 (by decide);obtain ⟨e,e1,_,e3⟩:=Hb (Mw hR p) hd2;obtain ⟨x,y,hx,hy,hxy,_,hq⟩:=Qi2 hc e1 hn;obtain ⟨r,r1,r2,r3⟩:=hd x y hx hy;have key:∀ q,x<=q->q<=y->Fc (ev p q-ev p r)<d / 2:=λq q1 q2 =>
   P8 (hq r r1 r2) (hq q q1 q2) hR (by rw [Md]; clear hq hd; constructor <;> grind) e3
  refine ⟨U7 (ev p r),λh0=>?_,d / 2,hd2,x,y,hx,hy,λq q1 q2=>⟨(Pk (d:=d) r3 ?_).1,?_⟩⟩
  ·rw [Gg.1 h0,H8] at r3; clear hq hd key; grind
  ·have:=key q q1 q2; clear hq hd key; grind
  ·have h3:=key q q1 q2;have h4:=T0 (ev p r-ev p q) (ev p q);rw [show ev p r-ev p q+ev p q=ev p r from by clear hq hd key; grind,oS] at h4;clear hq hd key; grind
theorem Qwk {c:Rat->Int} (hc:Cut c) {p:Uo} {s:Int} (h1:Iv p c) (h2:NZ p c s):False:=by
 obtain ⟨d,dp,h2⟩:=h2;obtain ⟨q,⟨a,b⟩,_⟩:=hZ hc (bZ (h1 d dp) h2);exact absurd b.2 (Jq.2 a)
theorem Px {c:Rat->Int} (hc:Cut c) {f p q:Uo} (hf:∀ t,ev f t=ev p t*ev q t) (h:Iv p c):Iv f c:=by
 intro d dp;obtain ⟨R,hR,hn⟩:=Qr7 hc;obtain ⟨e,e1,_,e3⟩:=Hb (ZL hR q) dp;refine MS (bZ hn (h e e1)) λt ⟨h1,h2⟩=>?_
 rw [hf];have:=G5 (Qt h2) (TE h1 q);exact Jq.1 λh=>absurd (Zk h this) (Jq.2 e3)
theorem NJ {c:Rat->Int} {f p q:Uo} (hf:∀ t,ev f t=ev p t+ev q t) (h:Iv p c) (h':Iv q c):Iv f c:=by
 intro d dp;have hd2:0<d / 2:=Ez dp (by decide);have h2:d / 2*2=d:=G6 (by decide);refine MS (bZ (h _ hd2) (h' _ hd2)) λt ⟨h1,h2⟩=>?_
 rw [hf];have:=T0 (ev p t) (ev q t);grind
def RS (p:Uo) (c:Rat->Int) (s:Int):Prop:=∃ y,c y=-1/\∀ q,c q=-1->q<=y->U7 (ev p q)=s
def LS (p:Uo) (c:Rat->Int) (s:Int):Prop:=∃ x,c x=1/\∀ q,c q=1->x<=q->U7 (ev p q)=s
theorem zU {c:Rat->Int} (hc:Cut c) {p:Uo} {s:Int} (h:NZ p c s):RS p c s:=by
 obtain ⟨d,dp,x,y,a1,a2,a3⟩:=h;exact ⟨y,a2,λq h1 h2=>(a3 q (Qt (hc.lt a1 h1)) h2).1⟩
theorem iK {c:Rat->Int} (hc:Cut c) {p:Uo} {s:Int} (h:NZ p c s):LS p c s:=by
 obtain ⟨d,dp,x,y,a1,a2,a3⟩:=h;exact ⟨x,a1,λq h1 h2=>(a3 q h2 (Qt (hc.lt h1 a2))).1⟩
theorem FA {c:Rat->Int} {p:Uo} {s s':Int} (h:RS p c s) (h':RS p c s'):s=s':=by
 obtain ⟨y,a1,a2⟩:=h;obtain ⟨y',b1,b2⟩:=h';rcases Ga y y' with e | e
 ·rw [<-a2 y a1 Qp,<-b2 y a1 e]
 ·rw [<-a2 y' b1 (Qt e),<-b2 y' b1 Qp]
theorem Qsc {c:Rat->Int} (hc:Cut c) {p:Uo} (hv:Iv p c) {y:Rat} (hy:c y=-1) (h:∀ q,c q=-1->q<=y->0<dv p q) (q:Rat) (hq:c q=-1) (hqy:q<=y):0<ev p q:=by
 rcases Ga (ev p q) 0 with h0 | h0
 ·exfalso;obtain ⟨r,r1,r2⟩:=hc.dn q hq;have hr:ev p r<ev p q:=Qpz r1 λt t1 t2=>h t (by
   rcases Classical.em (r=t) with e | e
   ·rw [<-e]; exact r2
   ·exact hc.mono r t (by clear h; grind) (by omega)) (Zk t2 hqy)
  obtain ⟨a,b,ha,hb,hab⟩:=hv (-ev p r) (by clear h; grind);obtain ⟨m,hm1,hm2,hm3⟩:∃ m,c m=-1/\m<=b/\m<=r:=by
   rcases Ga b r with e | e
   ·exact ⟨b,hb,Qp,e⟩
   ·exact ⟨r,r2,Qt e,Qp⟩
  have h1:=hab m (Qt (hc.lt ha hm1)) hm2;have h2:ev p m<=ev p r:=by
   rcases Classical.em (m=r) with e | e
   ·rw [e]; exact Qp
   ·exact Qt (Qpz (by clear h hab; grind) λt t1 t2=>h t (by
     rcases Classical.em (m=t) with e | e
     ·rw [<-e]; exact hm1
     ·exact hc.mono m t (by clear h hab; grind) (by omega)) (by clear h hab; grind))
  rw [vK] at h1;clear h hab; grind
 ·exact h0
theorem vH {c:Rat->Int} (hc:Cut c) {p:Uo} {s:Int} (hv:Iv p c) (h:RS (Nt p) c s) (hs:s≠0):RS p c s:=by
 obtain ⟨y,hy,h⟩:=h;have hsv:s=1\/s=-1:=by
  have:=h y hy Qp;rcases Fv (ev (Nt p) y) with ⟨e,_⟩ | ⟨e,_⟩ | ⟨e,_⟩ <;> omega
 rcases hsv with rfl | rfl
 ·refine ⟨y,hy,λq h1 h2=>Hk.2 (Qsc hc hv hy (λq h1 h2=>?_) q h1 h2)⟩;rw [<-Te]; exact Hk.1 (h q h1 h2)
 ·refine ⟨y,hy,λq h1 h2=>Sj.2 ?_⟩;have:=Qsc hc (p:=Dq (-1) p) (y:=y) (λd dp=>MS (hv d dp) λq hq=>by rw [Gl,show -1*ev p q=-ev p q by grind,Ec]; exact hq) hy (λq h1 h2=>by
   rw [HM,<-Te];have:=Sj.1 (h q h1 h2); grind) q h1 h2
  rw [Gl] at this; grind
theorem Qr4 {c:Rat->Int} (hc:Cut c) {p:Uo} (hv:Iv p c) {x:Rat} (hx:c x=1) (h:∀ q,c q=1->x<=q->0<dv p q) (q:Rat) (hq:c q=1) (hxq:x<=q):ev p q<0:=by
 rcases Ga 0 (ev p q) with h0 | h0
 ·exfalso;obtain ⟨r,r1,r2⟩:=hc.up q hq;have hr:ev p q<ev p r:=Qpz r1 λt t1 t2=>h t (by
   rcases Classical.em (t=r) with e | e
   ·rw [e]; exact r2
   ·exact hc.mono' (q:=t) (r:=r) (by clear h; grind) (by omega)) (Zk hxq t1)
  obtain ⟨a,b,ha,hb,hab⟩:=hv (ev p r) (by clear h; grind);obtain ⟨m,hm1,hm2,hm3⟩:∃ m,c m=1/\a<=m/\r<=m:=by
   rcases Ga a r with e | e
   ·exact ⟨r,r2,e,Qp⟩
   ·exact ⟨a,ha,Qp,Qt e⟩
  have h1:=hab m hm2 (Qt (hc.lt hm1 hb));have h2:ev p r<=ev p m:=by
   rcases Classical.em (r=m) with e | e
   ·rw [e]; exact Qp
   ·exact Qt (Qpz (by clear h hab; grind) λt t1 t2=>h t (by
     rcases Classical.em (t=m) with e | e
     ·rw [e]; exact hm1
     ·exact hc.mono' (q:=t) (r:=m) (by clear h hab; grind) (by omega)) (by clear h hab; grind))
  rw [vK] at h1;clear h hab; grind
 ·exact h0
theorem Qii {c:Rat->Int} (hc:Cut c) {p:Uo} {s:Int} (hv:Iv p c) (h:LS (Nt p) c s) (hs:s≠0):LS p c (-s):=by
 obtain ⟨x,hx,h⟩:=h;have hsv:s=1\/s=-1:=by
  have:=h x hx Qp;rcases Fv (ev (Nt p) x) with ⟨e,_⟩ | ⟨e,_⟩ | ⟨e,_⟩ <;> omega
 rcases hsv with rfl | rfl
 ·refine ⟨x,hx,λq h1 h2=>Sj.2 (Qr4 hc hv hx (λq h1 h2=>?_) q h1 h2)⟩;rw [<-Te]; exact Hk.1 (h q h1 h2)
 ·refine ⟨x,hx,λq h1 h2=>Hk.2 ?_⟩;have:=Qr4 hc (p:=Dq (-1) p) (x:=x) (λd dp=>MS (hv d dp) λq hq=>by rw [Gl,show -1*ev p q=-ev p q by grind,Ec]; exact hq) hx (λq h1 h2=>by
   rw [HM,<-Te];have:=Sj.1 (h q h1 h2); grind) q h1 h2
  rw [Gl] at this; grind
theorem Qp7 {c:Rat->Int} (hc:Cut c) {f g:Uo} {l:Up} (h:SCl f g l):Iv f c->Iv g c->False:=by
 induction h with
 |
  @base f g k hk hg =>
  intro _ hv;obtain ⟨q,hq,_⟩:=hZ hc (hv (Fc k) (Cc hk));rw [hg] at hq; grind
 |
  @step f g h l a b q ha hb he hl ih =>
  intro hf hg;refine ih hg ?_;have h1:Iv (Gw q g) c:=Px hc (p:=g) (q:=q) (λt=>by rw [Fa]; grind) hg;have h2:Iv (Dq (-a) f) c:=Px hc (p:=f) (q:=[-a]) (λt=>by rw [Gl]; simp only [ev]; grind) hf;have h3:Iv (Se (Gw q g) (Dq (-a) f)) c:=NJ (λt=>Gs t _ _) h1 h2;refine Px hc (p:=Se (Gw q g) (Dq (-a) f)) (q:=[1 / b]) (λt=>?_) h3;have:=he t;rw [Gs,Fa,Gl];simp only [ev];have hbb:1 / b*b=1:=G6 hb;have:ev q t*ev g t+-a*ev f t=b*ev h t:=by rw [show -a*ev f t=-(a*ev f t) by grind,he t]; grind
  rw [this];have:b*ev h t*(1 / b+t*0)=ev h t*(1 / b*b):=by grind
  rw [this,hbb]; grind
theorem zO {c:Rat->Int} (hc:Cut c) {f g:Uo} {k:Rat} (h:∀ t,ev g t=k*ev f t) (hv:Iv f c):Iv g c :=
 Px hc (p:=f) (q:=[k]) (λt=>by rw [h]; simp only [ev]; grind) hv
theorem Qqh {c:Rat->Int} (hc:Cut c) {f:Uo} {L:Up} (h:GB f L) (hv:Iv f c):∃ s,s≠0/\NZ (Nt f) c s:=by
 rcases JG hc (Nt f) with h1 | h1
 ·exfalso;rcases h with ⟨k,hk,hf,_⟩ | ⟨g,l,k,hk,hg,h,_⟩
  ·obtain ⟨q,hq,_⟩:=hZ hc (hv (Fc k) (Cc hk));rw [hf] at hq; grind
  ·exact Qp7 hc h hv (zO hc (λt=>by rw [hg,Te]) h1)
 ·exact h1
theorem eD {c:Rat->Int} (hc:Cut c) {f w u:Uo} {L:Up} (h:GB f L) (hf:∀ t,ev f t=ev w t*ev u t) (hv:Iv w c):∃ s,s≠0/\NZ (Nt w) c s:=by
 rcases JG hc (Nt w) with h1 | h1
 ·exfalso;obtain ⟨s,_,hs⟩:=Qqh hc h (Px hc hf hv);refine Qwk hc ?_ hs;have a1:Iv (Gw (Nt w) u) c:=Px hc (λt=>Fa t _ _) h1;have a2:Iv (Gw w (Nt u)) c:=Px hc (λt=>Fa t _ _) hv;refine NJ (λt=>?_) a1 a2;rw [Te,QW hf,Fa,Fa,Te,Te]
 ·exact h1
theorem Qgg {c:Rat->Int} (hc:Cut c) {q:Rat} (h:c q=0) {x y:Rat} (hx:c x=1) (hy:c y=-1):x<=q/\q<=y:=by
 constructor
 ·rcases Ga x q with e | e
  ·exact e
  ·have:=hc.mono q x e (by omega); omega
 ·rcases Ga q y with e | e
  ·exact e
  ·have:=hc.mono y q e (by omega); omega
theorem TR {c:Rat->Int} (hc:Cut c) {p:Uo} {q:Rat} (h:c q=0) (hv:Iv p c):ev p q=0:=by
 rcases Classical.em (ev p q=0) with e | e
 ·exact e
 ·obtain ⟨x,y,hx,hy,hq⟩:=hv _ (Cc e);obtain ⟨h1,h2⟩:=Qgg hc h hx hy;have:=hq q h1 h2; grind
theorem rQ {c:Rat->Int} (hc:Cut c) {p:Uo} {q:Rat} {s:Int} (h:c q=0) (hv:NZ p c s):U7 (ev p q)=s:=by
 obtain ⟨d,dp,x,y,hx,hy,hq⟩:=hv;obtain ⟨h1,h2⟩:=Qgg hc h hx hy;exact (hq q h1 h2).1
theorem mF {c:Rat->Int} (hc:Cut c) {y z:Rat} (hy:c y=-1) (hz:c z=-1):∃ q,c q=-1/\q<y/\q<z:=by
 obtain ⟨a,a1,a2⟩:=hc.dn y hy;obtain ⟨b,b1,b2⟩:=hc.dn z hz;rcases Ga a b with e | e
 ·exact ⟨a,a2,a1,by grind⟩
 ·exact ⟨b,b2,by grind,b1⟩
theorem BE {c:Rat->Int} (hc:Cut c) {y z:Rat} (hy:c y=1) (hz:c z=1):∃ q,c q=1/\y<q/\z<q:=by
 obtain ⟨a,a1,a2⟩:=hc.up y hy;obtain ⟨b,b1,b2⟩:=hc.up z hz;rcases Ga a b with e | e
 ·exact ⟨b,b2,by grind,b1⟩
 ·exact ⟨a,a2,a1,by grind⟩
theorem Qi1 {f w u:Uo} {L:Up} (h:GB f L) (hf:∀ t,ev f t=ev w t*ev u t) {x y:Rat} (hv:vv L x=vv L y) {c:Rat->Int} (hc:Cut c) (hx:c x=1) (hy:c y≠1):¬Iv w c:=λhw=>by
 have hxy:x<y:=by
  rcases Ga y x with e | e
  ·rcases Classical.em (y=x) with e' | e'
   ·rw [e'] at hy; exact absurd hx hy
   ·have:=hc.mono y x (by grind) hy; omega
  ·exact e
 have hwv:=VB h hf hxy hv;rcases hc.val y with e | e | e
 ·exact hy e
 ·have:=TR hc e hw;have:=hwv.s;rw [Gg.2 (by assumption)] at this;exact hwv.n this.symm
 ·obtain ⟨s,hs,hd⟩:=eD hc h hf hw;obtain ⟨a,ha,hal⟩:=Qii hc hw (iK hc hd) hs;obtain ⟨b,hb,hbr⟩:=vH hc hw (zU hc hd) hs;obtain ⟨q,q1,q2,q3⟩:=BE hc hx ha;obtain ⟨r,r1,r2,r3⟩:=mF hc hb e;have e1:=hal q q1 (Qt q3);have e2:=hbr r r1 (Qt r2);have hqr:=hc.lt q1 r1;have v1:vv L q<=vv L x:=Ar h q2;have v2:vv L y<=vv L r:=Ar h r3;have v3:vv L r<=vv L q:=Ar h hqr;have s1:=(VB h hf q2 (by omega)).s;have s2:=(VB h hf (x:=x) (y:=r) (by grind) (by omega)).s;omega
theorem vA {f:Uo} {L:Up} (h:GB f L) {x y:Rat} (hxy:x<y) (hv:vv L x≠vv L y) {d:Rat} (dp:0<d):∃ q,x<=q/\q<=y/\Fc (ev f q)<d:=by
 obtain ⟨R,hR,hx,hy⟩:=xX x y;obtain ⟨e1,e1p,hl⟩:=loc hR h (w:=f) (u:=[1]) (λt=>by rw [Rw]; grind);obtain ⟨e2,e2p,_,e2b⟩:=Hb (Mw hR f) dp;obtain ⟨e,ep,h1,h2⟩:=min2 e1p e2p;have key:∀ n:Nat,∀ x,Fc x<=R->x<y->vv L x≠vv L y->y-x<=(n:Rat)*e->∃ q,x<=q/\q<=y/\Fc (ev f q)<d:=by
  intro n
  induction n with
  | zero=>intro x hx hxy _ hn; rw [show ((0:Nat):Rat)=0 from rfl] at hn; exfalso; clear hl; grind
  |
   succ n ih =>
   intro x hx hxy hv hn;have hstep:∀ z,Fc z<=R->x<z->z-x<=e->vv L x≠vv L z->Fc (ev f z)<d:=λz hz hxz hze hv=>by
    rcases hl x z hx hz hxz (Zk hze h1) with ⟨p,_⟩ | ⟨_,p1,p2,p3,p4⟩
    ·exact absurd p hv
    ·have hd:=P8 (p:=f) hx hz hR (e:=e2) (d:=d) (by rw [Md]; clear hl ih; constructor <;> grind) e2b;rw [<-p3] at p1 p4;clear hl ih p2 p3;rw [vK] at *;rcases Fv (ev f x) with ⟨a,a'⟩ | ⟨a,a'⟩ | ⟨a,a'⟩ <;> rcases Fv (ev f z) with ⟨b,b'⟩ | ⟨b,b'⟩ | ⟨b,b'⟩ <;> rw [a,b] at p4 <;> first | (exfalso; revert p4; decide) | skip
     all_goals first | (constructor <;> grind) | (exfalso; omega)
   rcases Ga (y-x) e with h3 | h3
   ·exact ⟨y,Qt hxy,Qp,hstep y hy hxy h3 hv⟩
   ·have hm:Fc (x+e)<=R:=UC hx hy (by clear hl ih hstep; grind) (by clear hl ih hstep; grind);rcases Classical.em (vv L x=vv L (x+e)) with e0 | e0
    ·have hn':(((n+1:Nat):Rat))=(n:Rat)+1:=by push_cast; rfl
     rw [hn'] at hn;obtain ⟨q,q1,q2,q3⟩:=ih (x+e) hm (by clear hl ih hstep; grind) (by omega) (by clear hl ih hstep; grind);exact ⟨q,by clear hl ih hstep; grind,q2,q3⟩
    ·exact ⟨x+e,by clear hl ih hstep; grind,by clear hl ih hstep; grind,hstep (x+e) hm (by clear hl ih hstep; grind) (by clear hl ih hstep; grind) e0⟩
 obtain ⟨n,hn⟩:=ZR (z:=y-x) ep;exact key n x hx hxy hv hn
theorem Qya {p:Uo} {x:Rat} (h:Pe p x≠0):∃ e:Rat,0<e/\∀ y,x<y->y-x<=e->U7 (ev p y)=Pe p x:=by
 by_cases h0:U7 (ev p x)=0
 ·have hx:=Gg.1 h0;rw [nN h0] at h ⊢;have hR:0<=Fc x+1:=by have:=Ho x; grind
  obtain ⟨e,e1,e2,e3⟩:=Hb (BO hR p) (Cc (x:=dv p x) λh'=>h (Gg.2 h'));refine ⟨e,e1,λy h1 h2=>?_⟩;have hy:Fc y<=Fc x+1:=by
   have:=T0 x (y-x);have e:x+(y-x)=y:=by grind
   have e':Fc (y-x)=y-x:=by unfold Fc; split <;> grind
   rw [e,e'] at this; grind
  have:=LJ (p:=p) (by grind) hy hR h1 h2 Qp e3;rw [hx] at this;rw [<-this]; congr 1; grind
 ·rw [Ad h0] at h ⊢;obtain ⟨e,e1,e2⟩:=UY h;exact ⟨e,e1,λy h1 h2=>e2 y (by rw [Md]; constructor <;> grind)⟩
def cq (P:Uo) (lo hi q:Rat):Int:=if q<=lo then 1 else if hi<q then -1 else if U7 (ev P q)=0 then 0 else if U7 (ev P q)=Pe P lo then 1 else -1
structure Vt (P:List Rat) (L:List (List Rat)) (lo hi:Rat):Prop where
 s:GB P L
 l:lo<hi
 v:vv L lo=vv L hi+1
variable {P:Uo} {L:Up} {lo hi:Rat}
theorem Ew {q:Rat} (h:q<=lo):cq P lo hi q=1:=by unfold cq; rw [if_pos h]
theorem UV {q:Rat} (h:lo<hi) (h':hi<q):cq P lo hi q=-1:=by unfold cq; rw [if_neg (by grind),if_pos h']
theorem Ij {q:Rat} (h1:lo<q) (h2:q<=hi):cq P lo hi q=if U7 (ev P q)=0 then 0 else if U7 (ev P q)=Pe P lo then 1 else -1:=by
 unfold cq; rw [if_neg (by grind),if_neg (by grind)]
theorem Vt.two (V:Vt P L lo hi) {q:Rat} (h1:lo<q) (h2:q<=hi):vv L q=vv L lo/\cq P lo hi q=1/\U7 (ev P q)=Pe P lo\/vv L q=vv L hi/\cq P lo hi q≠1/\Pe P q=-Pe P lo/\Pe P lo≠0:=by
 have a:=Ar V.s h1;have b:vv L hi<=vv L q:=by
  rcases Classical.em (q=hi) with e | e
  ·rw [e]; exact Ql _
  ·exact Ar V.s (by grind)
 have hv:=V.v;rcases (show vv L q=vv L lo\/vv L q=vv L hi by omega) with e | e
 ·have hs:=kY V.s h1 e.symm;refine .inl ⟨e,?_,hs.s⟩;rw [Ij h1 h2,hs.s,if_neg hs.n,if_pos rfl]
 ·obtain ⟨o1,o2⟩:=kJ V.s h1 (by omega);refine .inr ⟨e,?_,o2,o1⟩;rw [Ij h1 h2]
  split
  ·decide
  ·rename_i h0;rw [Ad h0] at o2;rw [if_neg (by omega)]; decide
theorem Vt.lowlo (V:Vt P L lo hi):Pe P lo≠0:=(kJ V.s V.l V.v).1
theorem Vt.eq_lo (V:Vt P L lo hi) {q:Rat} (h1:lo<q) (h2:q<=hi) (h:cq P lo hi q=1):vv L q=vv L lo:=by
 rcases V.two h1 h2 with ⟨e,_⟩ | ⟨_,e,_⟩
 ·exact e
 ·exact absurd h e
theorem Vt.eq_hi (V:Vt P L lo hi) {q:Rat} (h1:lo<q) (h2:q<=hi) (h:cq P lo hi q≠1):vv L q=vv L hi:=by
 rcases V.two h1 h2 with ⟨_,e,_⟩ | ⟨e,_⟩
 ·exact absurd e h
 ·exact e
theorem Vt.hi1 (V:Vt P L lo hi):cq P lo hi hi≠1:=λh=>by have:=V.eq_lo V.l Qp h; have:=V.v; omega
theorem Vt.cut (V:Vt P L lo hi):Cut (cq P lo hi) where
 val q:=by unfold cq; split <;> (try split) <;> (try split) <;> (try split) <;> simp
 mono q r h h1:=by
  have hq:lo<q:=by
   rcases Ga q lo with e | e
   ·exact absurd (Ew e) h1
   ·exact e
  rcases Ga r hi with e | e
  ·have e1:=V.eq_hi hq (by grind) h1;rcases V.two (q:=r) (by grind) e with ⟨e2,_⟩ | ⟨e2,_,e3,e4⟩
   ·have:=Ar V.s h; have:=V.v; omega
   ·have hs:=kY V.s h (by omega);rcases V.two hq (by grind) with ⟨e5,_⟩ | ⟨_,_,e5,_⟩
    ·have:=V.v; omega
    ·rw [Ij (by grind) e,hs.s,if_neg hs.n,e5,if_neg (by omega)]
  ·exact UV V.l e
 up q h:=by
  rcases Ga q lo with e | e
  ·obtain ⟨d,dp,hd⟩:=Qya V.lowlo;obtain ⟨f,fp,f1,f2⟩:=min2 (a:=d) (b:=hi-lo) dp (by have:=V.l; grind);have h1:lo<lo+f:=by clear hd; grind
   have h2:lo+f<=hi:=by clear hd; grind
   have:=hd (lo+f) h1 (by clear hd; grind);exact ⟨lo+f,by clear hd; grind,by rw [Ij h1 h2,this,if_neg V.lowlo,if_pos rfl]⟩
  ·have hh:q<=hi:=by
    rcases Ga q hi with e' | e'
    ·exact e'
    ·have:=UV (P:=P) V.l e'; omega
   rcases V.two e hh with ⟨e1,_,e2⟩ | ⟨_,e1,_⟩
   ·have hn:q≠hi:=λh=>by rw [h] at e1; have:=V.v; omega
    obtain ⟨d,dp,hd⟩:=UY (p:=P) (x:=q) (by rw [e2]; exact V.lowlo);obtain ⟨f,fp,f1,f2⟩:=min2 (a:=d) (b:=hi-q) dp (by clear hd; grind);have:=hd (q+f) (by rw [Md]; clear hd; constructor <;> grind);exact ⟨q+f,by clear hd; grind,by rw [Ij (by clear hd; grind) (by clear hd; grind),this,e2,if_neg V.lowlo,if_pos rfl]⟩
   ·exact absurd h e1
 dn q h:=by
  have hq:lo<q:=by
   rcases Ga q lo with e | e
   ·have:=Ew (P:=P) (hi:=hi) e; omega
   ·exact e
  rcases Ga q hi with e | e
  ·rw [Ij hq e] at h
   split at h
   ·cases h
   rename_i h0
   split at h
   ·cases h
   rename_i h1;obtain ⟨d,dp,hd⟩:=UY h0;obtain ⟨f,fp,f1,f2⟩:=min2 (a:=d) (b:=(q-lo) / 2) dp (Ez (by clear hd; grind) (by decide));have h2:(q-lo) / 2*2=q-lo:=G6 (by decide);have:=hd (q-f) (by rw [Md]; clear hd; constructor <;> grind);exact ⟨q-f,by clear hd; grind,by rw [Ij (by clear hd; grind) (by clear hd; grind),this,if_neg h0,if_neg h1]⟩
  ·have h2:(q-hi) / 2*2=q-hi:=G6 (by decide);exact ⟨q-(q-hi) / 2,by grind,UV V.l (by grind)⟩
 lo:=⟨lo,Ew Qp⟩
 hi:=⟨hi+1,UV V.l (by grind)⟩
theorem Vt.van (V:Vt P L lo hi):Iv P (cq P lo hi):=by
 have hc:=V.cut;rcases JG hc P with h | ⟨s,hs,h⟩
 ·exact h
 ·exfalso;have e1:s=Pe P lo:=by
   obtain ⟨x,hx,hx1⟩:=iK hc h;obtain ⟨q,q1,q2,q3⟩:=BE hc hx (Ew (P:=P) (hi:=hi) (Qp (a:=lo)));have hq:q<=hi:=by
    rcases Ga q hi with e | e
    ·exact e
    ·have:=UV (P:=P) V.l e; omega
   rcases V.two q3 hq with ⟨_,_,e⟩ | ⟨_,e,_⟩
   ·rw [<-hx1 q q1 (Qt q2),e]
   ·exact absurd q1 e
  rcases hc.val hi with e | e | e
  ·exact V.hi1 e
  ·have h0:=rQ hc e h;rw [Ij V.l Qp] at e
   split at e
   ·omega
   ·split at e <;> omega
  ·obtain ⟨y,hy,hy1⟩:=zU hc h;obtain ⟨q,q1,q2,q3⟩:=mF hc hy e;have hq:lo<q:=hc.lt (Ew (P:=P) (hi:=hi) (Qp (a:=lo))) q1;have:=hy1 q q1 (Qt q2);rw [Ij hq (Qt q3),this,if_neg hs,if_pos e1] at q1;cases q1
def nJ (w:Uo) (lo hi:Rat):Prop:=U7 (ev w hi)=0\/U7 (ev w hi)≠Pe w lo
theorem Vt.has (V:Vt P L lo hi) {w u:Uo} (hf:∀ t,ev P t=ev w t*ev u t) {a b:Rat} (h1:lo<=a) (h2:a<b) (h3:b<=hi):nJ w a b↔Iv w (cq P lo hi)/\cq P lo hi a=1/\cq P lo hi b≠1:=by
 have hc:=V.cut;have smno:vv L a=vv L b->¬nJ w a b:=λh hh=>by
  have:=VB V.s hf h2 h;rcases hh with e | e
  ·rw [this.s] at e; exact this.n e
  ·exact e this.s
 by_cases ha:cq P lo hi a=1
 ·by_cases hb:cq P lo hi b=1
  ·have e1:=V.eq_lo (by grind) h3 hb;have e2:vv L a=vv L lo:=by
    rcases Classical.em (lo=a) with e | e
    ·rw [e]
    ·exact V.eq_lo (by grind) (by grind) ha
   exact ⟨λh=>absurd h (smno (by omega)),λh=>absurd hb h.2.2⟩
  ·have e1:=V.eq_hi (by grind) h3 hb;have e2:vv L a=vv L lo:=by
    rcases Classical.em (lo=a) with e | e
    ·rw [e]
    ·exact V.eq_lo (by grind) (by grind) ha
   have left:∀ s,LS w (cq P lo hi) s->s=Pe w a:=λs hs=>by
    obtain ⟨x,hx,hx1⟩:=hs;obtain ⟨q,q1,q2,q3⟩:=BE hc hx ha;have hqb:q<b:=by
     rcases Ga b q with e | e
     ·rcases Classical.em (b=q) with e' | e'
      ·rw [e'] at hb; exact absurd q1 hb
      ·have:=hc.mono b q (by clear hx1 smno; grind) hb; omega
     ·exact e
    have:=V.eq_lo (q:=q) (by clear hx1 smno; grind) (by clear hx1 smno; grind) q1;rw [<-(VB V.s hf q3 (by omega)).s,hx1 q q1 (Qt q2)]
   have right:∀ s,RS w (cq P lo hi) s->cq P lo hi b=-1->s=U7 (ev w b):=λs hs hb=>by
    obtain ⟨y,hy,hy1⟩:=hs;obtain ⟨q,q1,q2,q3⟩:=mF hc hy hb;have hqa:=hc.lt ha q1;have:=V.eq_hi (q:=q) (by clear hy1 smno; grind) (by clear hy1 smno; grind) (by omega);have hs:=VB V.s hf q3 (by omega);have hl:=hy1 q q1 (Qt q2);have h0:U7 (ev w q)≠0:=by
     have hs2:=VB V.s hf (x:=q) (y:=b) q3 (by omega);intro h0;obtain ⟨r,r1,r2⟩:=hc.dn q q1;have har:=hc.lt ha r2;have:=V.eq_hi (q:=r) (by clear hy1 smno; grind) (by clear hy1 smno; grind) (by omega);have hs3:=VB V.s hf (x:=r) (y:=q) r1 (by omega);have hs4:=hs3.s;rw [h0] at hs4; exact hs3.n hs4.symm
    rw [hs.s,Ad h0,hl]
   refine ⟨λh=>⟨?_,ha,hb⟩,λ⟨hw,_,_⟩=>?_⟩
   ·rcases JG hc w with e | ⟨s,AU,hs⟩
    ·exact e
    ·exfalso;have l1:=left s (iK hc hs);have r1:U7 (ev w b)=s:=by
      rcases hc.val b with e | e | e
      ·exact absurd e hb
      ·exact rQ hc e hs
      ·exact (right s (zU hc hs) e).symm
     rcases h with h | h
     ·exact AU (by rw [<-r1]; exact h)
     ·exact h (by rw [r1,l1])
   ·rcases hc.val b with e | e | e
    ·exact absurd e hb
    ·exact .inl (Gg.2 (TR hc e hw))
    ·obtain ⟨s,AU,hs⟩:=eD hc V.s hf hw;have l1:=left _ (Qii hc hw (iK hc hs) AU);have r1:=right _ (vH hc hw (zU hc hs) AU) e;exact .inr (by rw [<-l1,<-r1]; omega)
 ·have hla:lo<a:=by
   rcases Classical.em (lo=a) with e | e
   ·rw [<-e] at ha; exact absurd (Ew Qp) ha
   ·grind
  have hb:cq P lo hi b≠1:=by have:=hc.mono a b h2 ha; omega
  have e1:=V.eq_hi hla (by grind) ha;have e2:=V.eq_hi (q:=b) (by grind) h3 hb;exact ⟨λh=>absurd h (smno (by omega)),λh=>absurd h.2.1 ha⟩
theorem uU {c c':Rat->Int} (hc:Cut c) (hc':Cut c') {q:Rat} (h:c q≠c' q):∃ r,(c r=-1/\c' r=1)\/(c r=1/\c' r=-1):=by
 rcases hc.val q with e | e | e <;> rcases hc'.val q with e' | e' | e'
 ·omega
 ·obtain ⟨r,r1,r2⟩:=hc.up q e;exact ⟨r,.inr ⟨r2,hc'.mono q r r1 (by omega)⟩⟩
 ·exact ⟨q,.inr ⟨e,e'⟩⟩
 ·obtain ⟨r,r1,r2⟩:=hc'.up q e';exact ⟨r,.inl ⟨hc.mono q r r1 (by omega),r2⟩⟩
 ·omega
 ·obtain ⟨r,r1,r2⟩:=hc'.dn q e';exact ⟨r,.inr ⟨hc.mono' r1 (by omega),r2⟩⟩
 ·exact ⟨q,.inl ⟨e,e'⟩⟩
 ·obtain ⟨r,r1,r2⟩:=hc.dn q e;exact ⟨r,.inl ⟨r2,hc'.mono' r1 (by omega)⟩⟩
 ·omega
theorem Vt.uniq (V:Vt P L lo hi) {c:Rat->Int} (hc:Cut c) (h1:c lo=1) (h2:c hi≠1) (hv:Iv P c) (q:Rat):c q=cq P lo hi q:=by
 rcases Classical.em (c q=cq P lo hi q) with e | e
 ·exact e
 ·exfalso;obtain ⟨r,⟨r1,r2⟩ | ⟨r1,r2⟩⟩:=uU hc V.cut e
  ·have hl:=hc.lt h1 r1;have hh:r<=hi:=by
    rcases Ga r hi with e | e
    ·exact e
    ·have:=UV (P:=P) V.l e; omega
   have:=V.eq_lo hl hh r2;exact Qi1 V.s (w:=P) (u:=[1]) (λt=>by rw [Rw]; grind) (x:=lo) (y:=r) (by omega) hc h1 (by omega) hv
  ·have hl:lo<r:=by
    rcases Ga r lo with e | e
    ·have:=Ew (P:=P) (hi:=hi) e; omega
    ·exact e
   have hh:r<=hi:=by
    rcases Ga r hi with e | e
    ·exact e
    ·have:=hc.mono hi r e h2; omega
   have:=V.eq_hi hl hh (by omega);exact Qi1 V.s (w:=P) (u:=[1]) (λt=>by rw [Rw]; grind) (x:=r) (y:=hi) (by omega) hc r1 h2 hv
theorem Vt.same (V:Vt P L lo hi) {P':Uo} {L':Up} {lo' hi':Rat} (V':Vt P' L' lo' hi') {g u u' U W:Uo} {k:Rat} (hk:k≠0) (h1:∀ t,ev P t=ev g t*ev u t) (h2:∀ t,ev P' t=ev g t*ev u' t) (h3:∀ t,k*ev g t=ev U t*ev P t+ev W t*ev P' t) {a b:Rat} (ha1:lo<=a) (ha2:lo'<=a) (ha:a=lo\/a=lo') (hb1:b<=hi) (hb2:b<=hi') (hb:b=hi\/b=hi'):(a<b/\nJ g a b)↔∀ q,cq P lo hi q=cq P' lo' hi' q:=by
 have hc:=V.cut;have hc':=V'.cut;constructor
 ·rintro ⟨hab,hg⟩
  obtain ⟨g1,g2,g3⟩:=(V.has h1 ha1 hab hb1).1 hg;obtain ⟨g4,g5,g6⟩:=(V'.has h2 ha2 hab hb2).1 hg;intro q;refine (V.uniq hc' (by
   rcases Classical.em (lo=a) with e | e
   ·rw [e]; exact g5
   ·exact hc'.mono' (q:=lo) (r:=a) (by grind) (by omega)) (λh=>?_) (Px hc' h1 g4) q).symm
  rcases Classical.em (b=hi) with e | e
  ·rw [<-e] at h; exact g6 h
  ·have:=hc'.mono b hi (by grind) g6; omega
 ·intro h;have hcc:cq P' lo' hi'=cq P lo hi:=funext λq=>(h q).symm
  have e1:cq P lo hi a=1:=by
   rcases ha with rfl | rfl
   ·exact Ew Qp
   ·rw [h]; exact Ew Qp
  have e2:cq P lo hi b≠1:=by
   rcases hb with rfl | rfl
   ·exact V.hi1
   ·rw [h]; exact V'.hi1
  have hab:a<b:=by
   rcases Ga b a with e | e
   ·rcases Classical.em (b=a) with e' | e'
    ·rw [e'] at e2; exact absurd e1 e2
    ·have:=hc.mono b a (by grind) e2; omega
   ·exact e
  have v1:=V.van;have v2:=V'.van;rw [hcc] at v2;have hg:Iv g (cq P lo hi):=by
   have a1:Iv (Gw U P) (cq P lo hi):=Px hc (p:=P) (q:=U) (λt=>by rw [Fa]; grind) v1;have a2:Iv (Gw W P') (cq P lo hi):=Px hc (p:=P') (q:=W) (λt=>by rw [Fa]; grind) v2;have a3:=NJ (λt=>Gs t _ _) a1 a2;refine zO hc (k:=1 / k) (λt=>?_) a3;rw [Gs,Fa,Fa,<-h3];have:1 / k*(k*ev g t)=1 / k*k*ev g t:=by grind
   rw [this,show 1 / k*k=1 from Zl hk]; grind
  exact ⟨hab,(V.has h1 ha1 hab hb1).2 ⟨hg,e1,e2⟩⟩
end Orq
namespace Orq
theorem Qji:∀ (M:Nat) (f:Nat->Nat),(∀ i,i<=M->f i<M)->∃ i j,i<j/\j<=M/\f i=f j
 | 0,f,h=>absurd (h 0 (Ql _)) (Nat.not_lt_zero _)
 |
  M+1,f,h=>by
  rcases Classical.em (∃ i,i<=M/\f i=f (M+1)) with ⟨i,h1,h2⟩ | hn
  ·exact ⟨i,M+1,by omega,Ql _,h2⟩
  ·have hne:∀ i,i<=M->f i≠f (M+1):=λi hi e=>hn ⟨i,hi,e⟩
   obtain ⟨i,j,h1,h2,h3⟩:=Qji M (λi=>if f i=M then f (M+1) else f i) λi hi=>by
    have a1:=h i (by omega);have a2:=h (M+1) (Ql _);have a3:=hne i hi;show (if f i=M then f (M+1) else f i)<M
    split <;> omega
   refine ⟨i,j,h1,by omega,?_⟩;have a1:=hne i (by omega);have a2:=hne j h2
   split at h3 <;> split at h3 <;> omega
def dg (B k i:Nat):Nat:=k / B^i % B
theorem eM (B k i:Nat):dg B k (i+1)=dg B (k / B) i:=by unfold dg; rw [Nat.pow_succ,Nat.mul_comm,Nat.div_div_eq_div_mul]
theorem Qgl {B:Nat}:∀ (N:Nat) {k k':Nat},k<B^N->k'<B^N->(∀ i,i<N->dg B k i=dg B k' i)->k=k'
 | 0,k,k',h,h',_=>by rw [Vd] at h h'; omega
 |
  N+1,k,k',h,h',he=>by
  have h0:=he 0 (by omega);unfold dg at h0;rw [Vd,Nat.div_one,Nat.div_one] at h0;have hB:0<B:=by
   rcases Q3 B with e | e
   ·rw [e,Zr,Yx] at h; omega
   ·exact e
  have h1:=Qgl N (k:=k / B) (k':=k' / B) (Jc (by rw [Zq,<-Zr]; exact h)) (Jc (by rw [Zq,<-Zr]; exact h')) λi hi=>by
   rw [<-eM,<-eM]; exact he (i+1) (by omega)
  rw [<-W7 k B,<-W7 k' B,h0,h1]
def cd (B:Nat):Nat->(Nat->Nat)->Nat
 | 0,_=>0
 | E+1,x=>x 0+B*cd B E λe=>x (e+1)
theorem Qrq {B:Nat}:∀ (E:Nat) {x:Nat->Nat},(∀ e,e<E->x e<B)->cd B E x<B^E
 | 0,_,_=>by simp [cd]
 |
  E+1,x,h=>by
  have h1:=h 0 (by omega);have h2:=Qrq E (x:=λe=>x (e+1)) λe he=>h (e+1) (by omega)
  simp only [cd];have h3:B*cd B E (λe=>x (e+1))+B<=B*B^E:=by
   rw [<-Nat.mul_succ]; exact Zp _ h2
  rw [Zr,Zq (B^E)]; omega
theorem Qf5 {B:Nat}:∀ (E:Nat) {x y:Nat->Nat},(∀ e,e<E->x e<B)->(∀ e,e<E->y e<B)->cd B E x=cd B E y->∀ e,e<E->x e=y e
 | 0,_,_,_,_,_,e,he=>by omega
 |
  E+1,x,y,hx,hy,h,e,he=>by
  have h1:=hx 0 (by omega);have h2:=hy 0 (by omega);simp only [cd] at h;have e0:x 0=y 0:=by
   have:=congrArg (· % B) h;simp only [Kb] at this;rwa [Xx h1,Xx h2] at this
  have e1:cd B E (λe=>x (e+1))=cd B E (λe=>y (e+1)):=Nat.eq_of_mul_eq_mul_left (by omega:0<B) (by omega);cases e with
  | zero=>exact e0
  | succ e=>exact Qf5 E (λe he=>hx (e+1) (by omega)) (λe he=>hy (e+1) (by omega)) e1 e (by omega)
def sm:Nat->(Nat->Int)->Int
 | 0,_=>0
 | n+1,f=>sm n f+f n
theorem Qkr (f g:Nat->Int):∀ n,sm n (λi=>f i-g i)=sm n f-sm n g
 | 0=>rfl
 | n+1=>by simp only [sm,Qkr f g n]; omega
theorem Lb {f g:Nat->Int}:∀ n,(∀ i,i<n->f i=g i)->sm n f=sm n g
 | 0,_=>rfl
 | n+1,h=>by simp only [sm,Lb n (λi hi=>h i (by omega)),h n (by omega)]
theorem Qkq {f:Nat->Int} {b:Nat}:∀ n,(∀ i,i<n->(f i).natAbs<=b)->(sm n f).natAbs<=n*b
 | 0,_=>by simp [sm]
 |
  n+1,h=>by
  have h1:=Qkq n λi hi=>h i (by omega)
  have h2:=h n (by omega);simp only [sm];rw [Xc]; omega
theorem YM {f:Nat->Int}:∀ n,(∀ i,i<n->f i=0)->sm n f=0
 | 0,_=>rfl
 | n+1,h=>by simp only [sm,YM n (λi hi=>h i (by omega)),h n (by omega)]; rfl
theorem cN (f:Nat->Int) (m:Nat):∀ n,sm (m+n) f=sm m f+sm n λi=>f (m+i)
 | 0=>by simp [sm]
 | n+1=>by rw [<-Yn]; simp only [sm,cN f m n]; omega
theorem cD (f:Nat->Int) (J:Nat):∀ b,sm (b*J) f=sm b λi=>sm J λj=>f (i*J+j)
 | 0=>by simp [sm]
 | b+1=>by rw [Xc,cN,cD f J b]; rfl
theorem ER {f:Nat->Int} {k:Nat}:∀ n,k<n->(∀ i,i<n->i≠k->f i=0)->sm n f=f k
 | 0,h,_=>by omega
 |
  n+1,h,h1=>by
  simp only [sm];rcases Vm (Nat.le_of_lt_succ h) with e | e
  ·rw [ER n e λi hi=>h1 i (by omega),h1 n (by omega) (by omega)]; omega
  ·subst e; rw [YM k λi hi=>h1 i (by omega) (by omega)]; omega
theorem Qv5 {M:Nat->Nat->Int} {h N E H:Nat} (hM:∀ e i,(M e i).natAbs<=h) (hc:(2*(N*(h*H))+1)^E<(H+1)^N) :
 ∃ v:Nat->Int,(∀ i,(v i).natAbs<=H)/\(∃ i,i<N/\v i≠0)/\∀ e,e<E->sm N (λi=>M e i*v i)=0:=by
 obtain ⟨T,hT⟩:=nmE (N*(h*H));rw [<-hT] at hc;have hv:∀ k i,dg (H+1) k i<=H:=λk i=>Nat.le_of_lt_succ (Z7 _ (by omega))
 have hs:∀ k e,(sm N λi=>M e i*(dg (H+1) k i:Int)).natAbs<=T:=λk e=>by
  rw [hT];refine Qkq N λi _=>?_
  rw [J8,Xj];exact Za (hM e i) (hv k i)
 have him:∀ k e,((sm N λi=>M e i*(dg (H+1) k i:Int))+T).toNat<2*T+1:=λk e=>by have:=hs k e; omega
 obtain ⟨i,j,h1,h2,h3⟩:=Qji ((2*T+1)^E) (λk=>cd (2*T+1) E λe=>((sm N λi=>M e i*(dg (H+1) k i:Int))+T).toNat) λk _=>Qrq E λe _=>him k e
 have h4:=Qf5 E (λe _=>him i e) (λe _=>him j e) h3;refine ⟨λn=>(dg (H+1) i n:Int)-dg (H+1) j n,λn=>?_,?_,λe he=>?_⟩
 ·have a1:=hv i n;have a2:=hv j n;show ((dg (H+1) i n:Int)-dg (H+1) j n).natAbs<=H;omega
 ·rcases Classical.em (∃ n,n<N/\(dg (H+1) i n:Int)-dg (H+1) j n≠0) with e | e
  ·exact e
  ·exfalso;have:i=j:=Qgl (B:=H+1) N (by omega) (by omega) λn hn=>by
    rcases Classical.em (dg (H+1) i n=dg (H+1) j n) with e' | e'
    ·exact e'
    ·exact absurd ⟨n,hn,by omega⟩ e
   omega
 ·have a1:=h4 e he;have a2:=hs i e;have a3:=hs j e;have:(sm N λn=>M e n*(dg (H+1) i n:Int))=sm N λn=>M e n*(dg (H+1) j n:Int):=by omega
  have e1:=Qkr (λn=>M e n*(dg (H+1) i n:Int)) (λn=>M e n*(dg (H+1) j n:Int)) N;rw [this] at e1;rw [Lb N (g:=λn=>M e n*(dg (H+1) i n:Int)-M e n*(dg (H+1) j n:Int)) λn _=>Int.mul_sub _ _ _,e1]; omega
def U3:Ul->Rat->Rat
 | [],_=>0
 | a::p,t=>(a:Rat)+t*U3 p t
def sq:Nat->(Nat->Rat)->Rat
 | 0,_=>0
 | n+1,f=>sq n f+f n
theorem Pg {f g:Nat->Rat}:∀ n,(∀ i,i<n->f i=g i)->sq n f=sq n g
 | 0,_=>rfl
 | n+1,h=>by simp only [sq,Pg n (λi hi=>h i (by omega)),h n (by omega)]
theorem dX (f g:Nat->Rat):∀ n,sq n (λi=>f i+g i)=sq n f+sq n g
 | 0=>by simp only [sq]; grind
 | n+1=>by simp only [sq,dX f g n]; grind
theorem JY (c:Rat) (f:Nat->Rat):∀ n,sq n (λi=>c*f i)=c*sq n f
 | 0=>by simp only [sq]; grind
 | n+1=>by simp only [sq,JY c f n]; grind
theorem Cg {f:Nat->Rat}:∀ n,(∀ i,i<n->f i=0)->sq n f=0
 | 0,_=>rfl
 | n+1,h=>by simp only [sq,Cg n (λi hi=>h i (by omega)),h n (by omega)]; grind
theorem Ow (f:Nat->Rat):∀ n,sq (n+1) f=f 0+sq n λi=>f (i+1)
 | 0=>by simp only [sq]; grind
 | n+1=>by rw [sq,Ow f n]; simp only [sq]; grind
theorem Qsh {f:Nat->Rat} {b:Rat}:∀ n,(∀ i,i<n->Fc (f i)<=b)->Fc (sq n f)<=(n:Rat)*b
 | 0,_=>by rw [show ((0:Nat):Rat)=0 from rfl]; simp only [sq,H8]; grind
 |
  n+1,h=>by
  have h1:=Qsh n λi hi=>h i (by omega)
  have h2:=h n (by omega);have h3:=T0 (sq n f) (f n);have hn':(((n+1:Nat):Rat))=(n:Rat)+1:=by push_cast; rfl
  rw [hn']; simp only [sq]; clear h; grind
def gc:Ul->Nat->Nat->Int
 | [],_,_=>0
 | c::B,k,j=>(if k=0/\j=0 then c else 0)+(if k=0 then 0 else gc B (k-1) j)-(if j=0 then 0 else gc B k (j-1))
def gB:Ul->Nat
 | []=>0
 | c::B=>max c.natAbs (2*gB B)
theorem MW:∀ (B:Ul) (k j:Nat),B.length<=k+j->gc B k j=0
 | [],_,_,_=>rfl
 |
  c::B,k,j,h=>by
  simp only [Q4] at h;simp only [gc];rw [if_neg (by omega)];have e1:(if k=0 then 0 else gc B (k-1) j)=0:=by
   split
   ·rfl
   ·exact MW B _ _ (by omega)
  have e2:(if j=0 then 0 else gc B k (j-1))=0:=by
   split
   ·rfl
   ·exact MW B _ _ (by omega)
  rw [e1,e2]; rfl
theorem Qhh:∀ (B:Ul) (k j:Nat),(gc B k j).natAbs<=gB B
 | [],_,_=>Qh _
 |
  c::B,k,j=>by
  have h1:=Qhh B (k-1) j;have h2:=Qhh B k (j-1);simp only [gc,gB];by_cases hk:k=0 <;> by_cases hj:j=0 <;> simp only [hk,hj,true_and,and_true,false_and,and_false,if_true,if_false] <;> (try subst hk) <;> (try subst hj) <;> omega
theorem Qhi:∀ (B:Ul) (b:Nat),B.length=b+1->(gc B 0 b).natAbs=(B.getD b 0).natAbs
 | [],_,h=>by simp at h
 | [c],0,_=>by simp [gc]
 | c::d::B,0,h=>by simp at h
 |
  c::B,b+1,h=>by
  have ih:=Qhi B b (by simpa using h);simp only [gc];simp only [Ya,Q5];rw [if_pos trivial,if_neg (Nat.succ_ne_zero b),<-ih]; omega
def E2 (F:Nat->Nat->Int) (K J:Nat) (x y:Rat):Rat:=sq K λk=>sq J λj=>(F k j:Rat)*(y^k*x^j)
theorem mP (F G:Nat->Nat->Int) (K J:Nat) (x y:Rat):E2 (λk j=>F k j+G k j) K J x y=E2 F K J x y+E2 G K J x y:=by
 unfold E2;rw [<-dX];refine Pg K λk _=>?_
 rw [<-dX];exact Pg J λj _=>by push_cast; grind
theorem Qgt (c:Int) (F:Nat->Nat->Int) (K J:Nat) (x y:Rat):E2 (λk j=>F k j*c) K J x y=(c:Rat)*E2 F K J x y:=by
 unfold E2;rw [<-JY];refine Pg K λk _=>?_
 rw [<-JY];exact Pg J λj _=>by push_cast; grind
theorem Qgu (φ:Nat->Nat->Nat->Int) (v:Nat->Int) (K J:Nat) (x y:Rat):∀ N,E2 (λk j=>sm N λn=>φ n k j*v n) K J x y=sq N λn=>(v n:Rat)*E2 (φ n) K J x y
 |
  0=>by
  simp only [sq,sm];unfold E2;refine Cg K λk _=>Cg J λj _=>?_
  rw [show ((0:Int):Rat)=0 from rfl]; grind
 |
  N+1=>by
  simp only [sq];rw [<-Qgu φ v K J x y N,<-Qgt,<-mP];rfl
theorem FB (t:Rat) (i:Nat):∀ k,t^(i+k)=t^i*t^k
 | 0=>by rw [Xo,Xi]; grind
 | k+1=>by rw [<-Yn,Xa,Xa,FB t i k]; grind
theorem EN (f:Nat->Rat):∀ (i n:Nat),sq (i+n) (λk=>if i<=k then f (k-i) else 0)=sq n f
 | i,0=>Cg _ λk hk=>by rw [if_neg (by omega)]
 |
  i,n+1=>by
  rw [<-Yn]; simp only [sq];rw [EN f i n,if_pos (by omega),Jk]
def PR (i j':Nat) (F:Nat->Nat->Int) (k j:Nat):Int:=if i<=k then (if j'<=j then F (k-i) (j-j') else 0) else 0
theorem CU (F:Nat->Nat->Int) (i j' K J:Nat) (x y:Rat):E2 (PR i j' F) (i+K) (j'+J) x y=y^i*x^j'*E2 F K J x y:=by
 unfold E2;rw [<-JY,<-EN _ i K];refine Pg _ λk _=>?_
 by_cases hk:i<=k
 ·rw [if_pos hk,<-JY,<-EN _ j' J];refine Pg _ λj _=>?_
  unfold PR;rw [if_pos hk];by_cases hj:j'<=j
  ·rw [if_pos hj,if_pos hj];have e1:y^k=y^i*y^(k-i):=by rw [<-FB]; congr 1; omega
   have e2:x^j=x^j'*x^(j-j'):=by rw [<-FB]; congr 1; omega
   rw [e1,e2]; grind
  ·rw [if_neg hj,if_neg hj,show ((0:Int):Rat)=0 from rfl]; grind
 ·rw [if_neg hk];refine Cg _ λj _=>?_
  unfold PR;rw [if_neg hk,show ((0:Int):Rat)=0 from rfl]; grind
def fA (A:Ul) (k j:Nat):Int:=if j=0 then A.getD k 0 else 0
theorem Qjh (y:Rat):∀ (A:Ul) (K:Nat),A.length<=K->sq K (λk=>((A.getD k 0:Int):Rat)*y^k)=U3 A y
 | [],K,_=>by rw [Cg]; rfl; intro i _; simp
 | a::A,0,h=>by simp at h
 |
  a::A,K+1,h=>by
  have ih:=Qjh y A K (by simpa using h);rw [Ow];simp only [U3,Zt,Q5,Xi];rw [<-ih,<-JY];have:(sq K λi=>((A.getD i 0:Int):Rat)*y^(i+1))=sq K λi=>y*(((A.getD i 0:Int):Rat)*y^i):=Pg K λi _=>by rw [Xa]; grind
  rw [this]; grind
theorem Qx6 (A:Ul) (K J:Nat) (x y:Rat) (h:A.length<=K):E2 (fA A) K (J+1) x y=U3 A y:=by
 rw [<-Qjh y A K h];refine Pg K λk _=>?_
 rw [Ow,Cg]
 ·simp only [fA,if_true,Xi]; grind
 ·intro j _;simp only [fA];rw [if_neg (by omega),show ((0:Int):Rat)=0 from rfl]; grind
theorem Quf (x y:Rat):∀ (B:Ul) (K J:Nat),B.length<=K->B.length<=J->E2 (gc B) K J x y=U3 B (y-x)
 |
  [],K,J,_,_=>by
  unfold E2;simp only [gc,U3];exact Cg K λk _=>Cg J λj _=>by rw [show ((0:Int):Rat)=0 from rfl]; grind
 | c::B,0,J,h,_=>by simp at h
 | c::B,K+1,0,_,h=>by simp at h
 |
  c::B,K+1,J+1,h1,h2=>by
  have i1:=Quf x y B K (J+1) (by simpa using h1) (by simp at h2; omega);have i2:=Quf x y B (K+1) J (by simp at h1; omega) (by simpa using h2);have s1:=CU (gc B) 1 0 K (J+1) x y;have s2:=CU (gc B) 0 1 (K+1) J x y;rw [Zy,Js 1 K] at s1;rw [Zy,Js 1 J] at s2;rw [i1] at s1;rw [i2] at s2;have e0:E2 (fA [c]) (K+1) (J+1) x y=(c:Rat):=by rw [Qx6 [c] (K+1) J x y (by simp)]; simp only [U3]; grind
  have e1:gc (c::B)=λk j=>(fA [c] k j+PR 1 0 (gc B) k j)+PR 0 1 (gc B) k j*(-1):=by
   funext k j;simp only [gc,fA,PR];by_cases hk:k=0 <;> by_cases hj:j=0
   ·subst hk; subst hj; simp
   ·subst hk; simp [hj,show 1<=j by omega]
    try omega
   ·subst hj;obtain ⟨m,rfl⟩:∃ m,k=m+1:=⟨k-1,by omega⟩;simp
   ·obtain ⟨m,rfl⟩:∃ m,k=m+1:=⟨k-1,by omega⟩;obtain ⟨i,rfl⟩:∃ i,j=i+1:=⟨j-1,by omega⟩;simp; omega
  rw [e1,mP (λk j=>fA [c] k j+PR 1 0 (gc B) k j) (λk j=>PR 0 1 (gc B) k j*(-1)),mP (fA [c]) (PR 1 0 (gc B)),Qgt,e0,s1,s2];simp only [U3,Xi,show y^1=y by rw [Xa,Xi]; grind,show x^1=x by rw [Xa,Xi]; grind];rw [show (((-1:Int)):Rat)=-1 from rfl];grind
end Orq
