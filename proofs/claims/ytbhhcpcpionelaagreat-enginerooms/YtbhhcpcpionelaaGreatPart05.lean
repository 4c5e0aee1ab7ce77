/- C2 D1 E1 AlgL F1 F2 F3 F4 F5 T1 T2 T3 T4 T5 T6 T7 T8 T9 -/
import Derived.Test.YtbhhcpcpionelaaGreatPart04
import Derived.Test.YtbhhcpcpionelaaGreatPart00
set_option linter.all false
namespace Orr
open Go Go.Proofs Tryz
set_option maxRecDepth 10000
theorem Tc {l:List Pt} {i:Nat} {p:Pt} (h:l[i]? = some p):(l.map Ur)[i]? = some [pl p.c.x,pl p.c.y,sg p.c.d,mg p.c.d,.int .i64 p.id]:=Hj h
theorem Rr (l:List Pt):∀ c∈l.map Ur,c.length=5:=Qkj l λ_=>rfl
theorem tV {lx ly:Uf} {px py:W9} {x y:LV} {d:Int} (hx:IsInts lx px) (hy:IsInts ly py) (hd:Fu x y d) (hk:Cs 4294967294 1073741824 (Crv.mk px py d)) (id:Int):W6 193 [.agg [.row lx,.row ly,x,y,.int .i64 id]] [.agg (Ur ⟨Crv.norm (Crv.mk px py d),id⟩)]:=by
 have cd:=M4 hd (Qd hk.d (by omega));by_cases h0:d=0
 ·subst h0;have ck:Cs 4294967294 1073741824 (Crv.mk px py 1):=⟨hk.x,hk.y,show U0 1<=4294967294 by decide,hk.lx,hk.ly⟩;have cm:=YH hx hy (Um 1) ck (by decide);have e:Crv.norm (Crv.mk px py 1)=Crv.norm (Crv.mk px py 0):=by simp only [Crv.norm,Crv.g,Crv.d']; rfl
  rw [e] at cm;obtain ⟨b,l,rfl,rfl,_⟩:=hd;exact W3 func193 rfl [.k cd,.k Cz,.t (by simp),.k (LO (z:=1) (by decide)),.k cm] rfl
 ·have cm:=YH hx hy hd hk h0;obtain ⟨b,l,rfl,rfl,_⟩:=hd;exact W3 func193 rfl [.k cd,.k Cz,.f (by simpa using h0),.k cm] rfl
theorem iZ {l:List Pt} (id:Int) (hl:l.length<1073741824):W6 192 [.agg [pts l],.oi id] [.oi (Hb l id:Int),.one (.bool (has l id))]:=by
 refine Fl func192 rfl ?_;refine Wy [] rfl ?_;refine ct 2 (S:=Unit) (λ_=>[(1,.v (.oi id)),(2,.v (.one (.ow 0 0))),(6,.v (.oi (Hb l id:Int)))]) (λ_=>[.blk 194 [pts l]]) (λ_=>True) rfl ?_ ?_
 ·refine W5 (S:=Nat) 1 (λL1 k=>(6,.v (.oi k))::L1) (λ_=>[.blk 194 [pts l]]) (λk=>l.length-k) (λk=>k<=l.length/\∀ j p,j<k->l[j]? = some p->p.id<id) 0 ⟨Qi _,λj p h=>by omega⟩ rfl rfl λk ⟨hk,hlt⟩=>?_
  by_cases h:k<l.length
  ·obtain ⟨p,hp⟩:=gxE (l:=l) (i:=k) h;by_cases hid:p.id<id
   ·refine Wz [.t (by simp; omega),.x (Tc hp),.t (by simpa using hid)] rfl ?_;exact rd (k+1) (by omega) ⟨h,λj q hj hq=>by
     rcases Zc j k with h2 | h2
     ·exact hlt j q h2 hq
     ·have:j=k:=by omega
      subst this; rw [hp] at hq; injection hq with hq; rw [<-hq]; exact hid⟩ rfl
   ·have e:=JF hlt (.inr ⟨p,hp,hid⟩);refine Wy [.t (by simp; omega),.x (Tc hp),.f (by simpa using hid)] rfl ?_;rw [e];exact rc () trivial rfl
  ·obtain rfl:k=l.length:=by omega
   have e:=JF hlt (.inl rfl);refine Wy [.f (by simp),.f rfl] rfl ?_;rw [e];exact rc () trivial rfl
 ·intro _ _;by_cases h:Hb l id<l.length
  ·obtain ⟨p,hp⟩:=gxE (l:=l) (i:=Hb l id) h;have e:has l id=decide (p.id=id):=by simp [has,hp]
   rw [e];exact W0 [.g 30 true (by simp; omega),.x (Tc hp)] rfl
  ·have e:has l id=false:=by simp [has,Q0 (Jx h)]
   rw [e];exact W0 [.g 30 false (by simp; omega)] rfl
theorem Ep {l:List Pt}:W6 164 [.agg [pts l]] [.one (pts l)]:=W3 func164 rfl [] rfl
theorem qP {lx ly:Uf} {px py:W9} {x y:LV} {d id:Int} {l:List Pt} (hx:IsInts lx px) (hy:IsInts ly py) (hd:Fu x y d) (hk:Cs 4294967294 1073741824 (Crv.mk px py d)) (hl:l.length<=1000000) :
 W6 160 [.agg [pts l],.agg [.row lx,.row ly,x,y,.int .i64 id]] [.agg [pts (if JH l (Pt.mk (Crv.norm (Crv.mk px py d)) id)=0 then put l (Pt.mk (Crv.norm (Crv.mk px py d)) id) else l)],.oi (JH l (Pt.mk (Crv.norm (Crv.mk px py d)) id))]:=by
 have ca:=iZ (l:=l) id (by omega);have cf:=tV hx hy hd hk id;obtain ⟨b,r,rfl,rfl,_⟩:=hd;obtain ⟨q,hq⟩:=nmE (Pt.mk (Crv.norm (Crv.mk px py d)) id);have hqi:q.id=id:=by rw [hq]
 rw [<-hq] at cf ⊢;have hpl:=IG l id;by_cases h1:has l id=true
 ·have e:JH l q=6:=by simp [JH,hqi,h1]
  rw [e,if_neg (by decide)];exact W3 func160 rfl [.k ca,.t h1] rfl
 by_cases h2:6<=l.length
 ·have e:JH l q=9:=by simp [JH,hqi,h1,h2]
  rw [e,if_neg (by decide)];exact W3 func160 rfl [.k ca,.f (by simpa using h1),.t (by simp; omega)] rfl
 have e:JH l q=0:=by simp [JH,hqi,h1,h2]
 rw [e,if_pos rfl];have s1:∀ c∈(l.map Ur).take (Hb l id),c.length=5:=λc hc=>Rr l c (Qm hc)
 have s3:∀ c∈(l.map Ur).drop (Hb l id),c.length=5:=λc hc=>Rr l c (Qy hc)
 refine W3 func160 rfl [.k ca,.f (by simpa using h1),.f (by simp; omega),.i (Hb l id),.s s1,.k cf,.i (Hb l id),.s s3] rfl ?_ ?_
 ·simp [put,hqi,pts,Yb,Y7,Ur]
 ·simp [Ul];exact ⟨by omega,hpl,λ_ _=>rfl,by omega,by omega,hpl⟩
theorem wJ {l:List Pt} (hok:∀ p∈l,Qk3 4294967294 1073741824 p) (hl:l.length<1073741824):W6 169 [.agg [pts l]] [.one (pts (H7 l))]:=by
 refine Fl func169 rfl ?_;refine Wy [.o 3 41 5] rfl ?_;refine W5 (S:=Nat) 2 (λL1 i=>(12,.v (.oi i))::(3,.v (.one (.orow 1 5 none)))::L1) (λi=>[.blk 194 [pts l],.row false 41 5 (((l.take i).foldl Mv []).map Ur)]) (λi=>l.length-i) (λi=>i<=l.length) 0 (Qi _) rfl rfl λi hi=>?_
 by_cases hlt:i<l.length
 ·obtain ⟨p,hp⟩:=gxE (l:=l) (i:=i) hlt;obtain ⟨hn,hk⟩:=hok p (Qa hp);have hws:=Rm Mv [] l hp;have hwl:=XH l i;have hwm:=XR l i;obtain ⟨o,ho⟩:=nmE ((l.take i).foldl Mv []);rw [<-ho] at hws hwl hwm ⊢;refine Wy [.t (by simp; omega),.x (Tc hp)] rfl ?_;refine W5 (S:=Nat) 3 (λL1 k=>(18,.v (.oi k))::(6,.v (.one (.bool ((o.take k).any λq=>Eg p.c q.c))))::L1) (λk=>[.blk 194 [pts l],.row false 41 5 (o.map Ur),.blk 41 (Ur p)]) (λk=>o.length-k) (λk=>k<=o.length) 0 (Qi _) rfl rfl λk hk2=>?_
  by_cases hk3:k<o.length
  ·obtain ⟨q,hq⟩:=gxE (l:=o) (i:=k) hk3;obtain ⟨hqn,hqk⟩:=hok q (hwm q (Qa hq));have hany:((o.take (k+1)).any λq=>Eg p.c q.c)=(((o.take k).any λq=>Eg p.c q.c) || Eg p.c q.c):=by rw [Yu,hq,List.any_append]; simp
   cases hb:(o.take k).any λq=>Eg p.c q.c with
   |
    true =>
    rw [hb] at hany;refine Wz [.t (by simp; omega),.i k,.x (Tc hq),.t rfl,.r 29 (v:=.one (.bool ((o.take (k+1)).any λq=>Eg p.c q.c))) (by rw [hany]; rfl)] rfl ?_;exact rd (k+1) (by omega) hk3 rfl
   |
    false =>
    rw [hb] at hany;refine Wz [.t (by simp; omega),.i k,.x (Tc hq),.f rfl,.k (Qf9 hn hqn hk hqk),.r 29 (v:=.one (.bool ((o.take (k+1)).any λq=>Eg p.c q.c))) (by rw [hany]; rfl)] rfl ?_;exact rd (k+1) (by omega) hk3 rfl
  ·obtain rfl:k=o.length:=by omega
   rw [Q5];cases hb:o.any λq=>Eg p.c q.c with
   |
    true =>
    have e:Mv o p=o:=by unfold Mv; rw [if_pos hb]
    exact go tt [.f (by simp),.f rfl] rfl (by simp [Ul]; omega) (rd (i+1) (by omega) hlt (by rw [hws,e]; rfl))
   |
    false =>
    have e:Mv o p=o++[p]:=by unfold Mv; rw [if_neg (by rw [hb]; decide)]
    exact go tt [.f (by simp),.t rfl] rfl (by simp [Ul]; omega) (rd (i+1) (by omega) hlt (by rw [hws,e,J4]; rfl))
 ·obtain rfl:i=l.length:=by omega
  exact W0 [.f (by simp)] rfl (by rw [Q5]; rfl) trivial
theorem Qi4 (q:Rat):Uu [-q.num,(q.den:Int)]:=by
 have:=q.den_nz;simp [Uu,trim,this]
theorem Qos {s:Nat} {q:Rat} (h:Qs s q):Bd s [-q.num,(q.den:Int)]:=λz hz=>by
 simp at hz;rcases hz with rfl | rfl
 ·rw [Ei]; exact h.1
 ·exact h.2
theorem XZ {x y x' y':LV} {n d:Int} (h1:Fu x y n) (h2:Fu x' y' d) (hn:U0 n<=4294967295) (hd:U0 d<=4294967295) (hq:Qs 4294967295 (To n d)):W6 120 [.agg [x,y,x',y']] [.agg (qa (To n d))]:=by
 have c1:=TW h1 h2 hn hd;obtain ⟨b,l,rfl,rfl,_⟩:=h1;obtain ⟨b',l',rfl,rfl,_⟩:=h2;exact W3 func120 rfl [.k c1,.k (RE (Um _) hq.1),.k (M5 hq)] rfl
theorem Bu {k:Crv} (hn:I2 k) (hk:Cs 4294967294 1073741824 k):W6 215 [.agg (cl k)] [.agg (cl k)]:=by
 have h0:k.d≠0:=by have:=hn.2.2.1; omega
 have cm:=YH (Fx k.x) (Fx k.y) (Um k.d) hk h0;rw [show Crv.mk k.x k.y k.d=k from rfl,Crv.norm_of hn] at cm;exact W3 func215 rfl [.k (M4 (Um k.d) (Qd hk.d (by omega))),.k Cz,.f (by simpa using h0),.k cm] rfl
theorem YF {a b:Crv} (ha:I2 a) (hb:I2 b) (ca:Cb a) (cb:Cb b):W6 207 [.agg (cl a),.agg (cl b)] [pr (Fg a b)]:=by
 have l1:=ca.lx;have l2:=cb.lx;have l3:=U8 b.x a.d;have l4:=U8 a.x b.d;exact W3 func207 rfl [.k (Bu ha (ca.mono (by omega) (by omega))),.k (Bu hb (cb.mono (by omega) (by omega))),.k (Pj (by omega) (Uk cb.x (by omega)) (Qd ca.d (by omega))),.k (Pj (by omega) (Uk ca.x (by omega)) (Qd cb.d (by omega))),.k (WZ (by omega) (by omega) (Uk (Fi cb.x ca.d) (by omega)) (Uk (Fi ca.x cb.d) (by omega)))] rfl
theorem YW {a b:Crv} (ha:I2 a) (hb:I2 b) (ca:Cb a) (cb:Cb b):W6 208 [.agg (cl a),.agg (cl b)] [pr (Ff a b)]:=by
 have l1:=ca.ly;have l2:=cb.ly;have l3:=U8 b.y a.d;have l4:=U8 a.y b.d;exact W3 func208 rfl [.k (Bu ha (ca.mono (by omega) (by omega))),.k (Bu hb (cb.mono (by omega) (by omega))),.k (Pj (by omega) (Uk cb.y (by omega)) (Qd ca.d (by omega))),.k (Pj (by omega) (Uk ca.y (by omega)) (Qd cb.d (by omega))),.k (WZ (by omega) (by omega) (Uk (Fi cb.y ca.d) (by omega)) (Uk (Fi ca.y cb.d) (by omega)))] rfl
def Tn (ps:Ua):Uf:=ps.map λp=>[pl p]
theorem Hh {ps:Ua} {i:Nat} {p:W9} (h:ps[i]? = some p):(Tn ps)[i]? = some [pl p]:=Hj h
theorem qB {p q:W9}:W6 206 [pr p,pr q] [pr (C0 p q)]:=by
 by_cases h:0<p.length
 ·exact W3 func206 rfl [.t (by simp; omega)] rfl (by simp only [C0]; rw [if_pos h]) trivial
 ·exact W3 func206 rfl [.f (by simp; exact Qh (by omega))] rfl (by simp only [C0]; rw [if_neg h]) trivial
theorem cZ:W6 205 [.oi 1] [.oi 2]:=W3 func205 rfl [.t rfl,.t rfl] rfl
theorem cX:W6 205 [.oi 2] [.oi 2]:=W3 func205 rfl [.f rfl,.t rfl] rfl
theorem cJ:W6 205 [.oi 3] [.oi 3]:=W3 func205 rfl [.f rfl,.f rfl,.t rfl] rfl
theorem cY:W6 205 [.oi 4] [.oi 4]:=W3 func205 rfl [.f rfl,.f rfl,.f rfl,.t rfl,.t rfl] rfl
theorem cV:W6 205 [.oi 5] [.oi 4]:=W3 func205 rfl [.f rfl,.f rfl,.f rfl,.f rfl,.t rfl] rfl
theorem aX {k i0 i1 i2 i3 l j0 j1 j2 j3:Int}:W6 239 [.agg [.int .i64 k,.int .i64 i0,.int .i64 i1,.int .i64 i2,.int .i64 i3],.agg [.int .i64 l,.int .i64 j0,.int .i64 j1,.int .i64 j2,.int .i64 j3]] [.one (.bool (Nx [k,i0,i1,i2,i3] [l,j0,j1,j2,j3]))]:=by
 by_cases hk:k=l
 ·subst hk;rw [show Nx [k,i0,i1,i2,i3] [k,j0,j1,j2,j3]=Nx [i0,i1,i2,i3] [j0,j1,j2,j3] from by simp [Nx]];refine Fl func239 rfl ?_;refine Wy [.f (by simp)] rfl ?_;refine W5 (S:=Nat) 2 (λL1 i=>(19,.v (.oi i))::L1) (λ_=>[.blk 124 [.int .i64 k,.int .i64 i0,.int .i64 i1,.int .i64 i2,.int .i64 i3],.blk 124 [.int .i64 k,.int .i64 j0,.int .i64 j1,.int .i64 j2,.int .i64 j3]]) (λi=>4-i) (λi=>i<=4/\Nx ([i0,i1,i2,i3].drop i) ([j0,j1,j2,j3].drop i)=Nx [i0,i1,i2,i3] [j0,j1,j2,j3]) 0 ⟨by omega,rfl⟩ rfl rfl λi ⟨hi,he⟩=>?_
  rw [<-he];rcases (show i=0\/i=1\/i=2\/i=3\/i=4 by omega) with rfl | rfl | rfl | rfl | rfl
  ·by_cases h:i0=j0
   ·exact go tt [.t rfl,.i 0,.i 0,.f (by simpa using h)] rfl (by simp [Ul]) (rd 1 (by omega) ⟨by omega,by simp [Nx,h]⟩ rfl)
   ·exact W0 [.t rfl,.i 0,.i 0,.t (by simpa using h),.i 0] rfl (by simp [Nx,h]) trivial
  ·by_cases h:i1=j1
   ·exact go tt [.t rfl,.i 1,.i 1,.f (by simpa using h)] rfl (by simp [Ul]) (rd 2 (by omega) ⟨by omega,by simp [Nx,h]⟩ rfl)
   ·exact W0 [.t rfl,.i 1,.i 1,.t (by simpa using h),.i 1] rfl (by simp [Nx,h]) trivial
  ·by_cases h:i2=j2
   ·exact go tt [.t rfl,.i 2,.i 2,.f (by simpa using h)] rfl (by simp [Ul]) (rd 3 (by omega) ⟨by omega,by simp [Nx,h]⟩ rfl)
   ·exact W0 [.t rfl,.i 2,.i 2,.t (by simpa using h),.i 2] rfl (by simp [Nx,h]) trivial
  ·by_cases h:i3=j3
   ·exact go tt [.t rfl,.i 3,.i 3,.f (by simpa using h)] rfl (by simp [Ul]) (rd 4 (by omega) ⟨by omega,by simp [Nx,h]⟩ rfl)
   ·exact W0 [.t rfl,.i 3,.i 3,.t (by simpa using h),.i 3] rfl (by simp [Nx,h]) trivial
  ·exact W0 [.f rfl] rfl (by simp [Nx]) trivial
 ·exact W3 func239 rfl [.t (by simpa using hk)] rfl (by simp [Nx,hk]) trivial
abbrev lF:Ue:=[.int .i64 0,.int .i64 0,.int .i64 0,.int .i64 0,.int .i64 0,.nils,.int .i64 0]
def Uy (l:List Ct):Uf:=l.map C9
theorem XD {l:List Ct} {i:Nat} {c:Ct} (h:l[i]? = some c):(Uy l)[i]? = some (C9 c):=Hj h
theorem P9 (l:List Ct):(Uy l).length=l.length:=by simp [Uy]
theorem oG (l:List Ct):∀ c∈Uy l,c.length=7:=λc hc=>by
 obtain ⟨x,_,rfl⟩:=Zf.1 hc; rfl
theorem Qbg {O:List Ct} {z:Ue} {c:Ct} {k m:Nat} {l2:Uf} (hk:k<=O.length) (hp:QZ O c O.length=k) (hm:m=O.length-k) (h2:l2.take m=((Uy O++[z]).drop k).take m) :
 ((Uy O++[z]).take (k+1)++(l2.take m++(Uy O++[z]).drop (k+1+m))).set k (C9 c)=Uy (XI O c):=by
 rw [h2,<-Za,xY (Uy O) z (C9 c) (by rw [P9]; omega) (by rw [P9]; omega)];simp [XI,hp,Uy,Yb,Y7]
theorem EJ {l:List Ct} (hl:∀ c∈l,Pb c.p) (hn:l.length≤1000000):W6 194 [.one (.row (Uy l))] [.one (.row (Uy (U6 l)))]:=by
 have hcl:=P9 l;refine Fl func194 rfl ?_;refine Wy [.o 3 126 7] rfl ?_;refine W5 (S:=Nat) 1 (λL1 i=>(9,.v (.oi i))::(3,.v (.one (.orow 0 7 none)))::L1) (λi=>[.row false 126 7 (Uy (U6 (l.take i)))]) (λi=>l.length-i) (λi=>i<=l.length) 0 (Qi _) rfl rfl λi hi=>?_
 by_cases hlt:i<l.length
 ·obtain ⟨c,hc⟩:=gxE (l:=l) (i:=i) hlt;have hst:=gY hc;have hcp:=hl c (Qa hc);obtain ⟨O,hO⟩:=nmE (U6 (l.take i));have hOl:O.length=i:=by rw [hO,Bp,Qp]; omega
  rw [<-hO] at hst ⊢;refine Wy [.t (by simp [hcl]; omega),.x (XD hc)] rfl ?_;refine W5 (S:=Nat) 2 (λL1 k=>(6,.v (.oi k))::L1) (λk=>[.row false 126 7 (Uy O),.blk 126 (C9 c)]) id (λk=>k<=O.length/\QZ O c k=QZ O c O.length) (Uy O).length ⟨by rw [P9]; exact Qn _,by rw [P9]⟩ rfl rfl λk ⟨hk,hp⟩=>?_
  have hz:∀ y∈[lF],y.length=7:=λy hy=>by rw [Ql.1 hy]; rfl
  have h77:∀ y∈Uy O++[lF],y.length=7:=λy hy=>by
   rcases Qr.1 hy with hy | hy
   ·exact oG O y hy
   ·exact hz y hy
  cases k with
  |
   zero =>
   have hp:QZ O c O.length=0:=by rw [<-hp]; rfl
   refine go tt [.g 17 false (by simp),.f rfl,.s (sz:=7) hz,.r 36 (eI (b:=((0+1:Nat):Int)) (by simp)),.i (0+1),.i (0),.s (sz:=7) (λy hy=>h77 y (Qm hy)),.i (O.length),.k (G0 hcp.t (by have:=hcp.l; omega) (Uk hcp.b (by omega))),.i (0)] rfl (by simp [Ul,P9]; omega) ?_;exact rd (i+1) (by omega) hlt (by rw [hst,<-Qbg (z:=lF) (l2:=(Uy O++[lF]).take ((Uy O++[lF]).length-0)) (k:=0) (m:=O.length) (by omega) hp (by omega) (by congr 1; exact Qw (by simp))]; rfl)
  |
   succ k =>
   obtain ⟨x,hx⟩:=gxE (l:=O) (i:=k) (by omega);by_cases hlc:xH c x=true
   ·refine go tt [.g 17 true (by simp),.r 22 (eI (b:=(k:Int)) (by simp)),.i k,.x (XD hx),.k aX,.t hlc,.r 29 (eI (b:=(k:Int)) (by simp))] rfl (by simp [Ul,P9]; omega) ?_;exact rd k (by simp) ⟨by omega,by rw [<-hp,Qh5 hx hlc]⟩ rfl
   ·have hlc:xH c x=false:=by simpa using hlc
    have hp:QZ O c O.length=k+1:=by rw [<-hp,Qcx hx hlc]
    refine go tt [.g 17 true (by simp),.r 22 (eI (b:=(k:Int)) (by simp)),.i k,.x (XD hx),.k aX,.f hlc,.s (sz:=7) hz,.r 36 (eI (b:=((k+1+1:Nat):Int)) (by simp)),.i (k+1+1),.i (k+1),.s (sz:=7) (λy hy=>h77 y (Qy (Qm hy))),.i (O.length-(k+1)),.k (G0 hcp.t (by have:=hcp.l; omega) (Uk hcp.b (by omega))),.i (k+1)] rfl (by simp [Ul,P9]; omega) ?_;exact rd (i+1) (by omega) hlt (by rw [hst,<-Qbg (z:=lF) (l2:=((Uy O++[lF]).drop (k+1)).take ((Uy O++[lF]).length-(k+1))) (k:=k+1) (m:=O.length-(k+1)) (by omega) hp (by omega) (by congr 1; exact Qw (by simp))]; rfl)
 ·obtain rfl:i=l.length:=by omega
  rw [Q5];exact W0 [.f (by simp [hcl])] rfl
end Orr
namespace Orr
def U3 (p:W9):Int:=p.getD (p.length-1) 0
def BH (p:W9):Option W9:=if p.length<=64/\(p.all λz=>Nat.ble (U0 z) 16777216)=true then some p else none
def lG (q:Rat):Option Rat:=if U0 q.num<=16777216/\U0 (q.den:Int)<=16777216 then some q else none
def Tq (p:W9):Int:=(Hq p:Nat)
def Ny (p:W9) (c:Int):W9:=trim (p.map (· / c))
def Gs (p:W9):Int:=if U3 p<0 then -Tq p else Tq p
def Uv (p:W9):W9:=if p.length=0 then [] else Ny p (Gs p)
def mono (i:Nat) (x:Int):W9:=List.replicate i 0++[x]
def yJ (b:W9) (c:Int):Nat->W9×W9->W9×W9
 | 0,s=>s
 |
  i+1,(q,r) =>
  yJ b c i (JV (Fh q c) (mono i (if r.length=b.length+i then U3 r else 0)),Nt (Fh r c) (Fv (trim (mono i (if r.length=b.length+i then U3 r else 0))) b))
def Sr (a b:W9):W9:=(yJ b (U3 b) (a.length+1-b.length) ([],a)).2
def Mp (a b r:W9):W9:=if (a.length+1-b.length) % 2=1/\U3 b<0 then Db r else r
def XW (r:W9):W9:=if r.length=0 then [] else Ny r (Tq r)
def Ht (a b:W9):W9:=XW (Mp a b (Sr a b))
def IK (b:W9):Nat->W9->W9->Option W9
 | 0,a,q=>if a.length=0 then some q else none
 | i+1,a,q=>if a.length<b.length+i then IK b i a q else if U3 a % U3 b=0 then IK b i (Nt a (Fv (trim (mono i (U3 a / U3 b))) b)) (q.set i (U3 a / U3 b)) else none
def QX (a b:W9):Option W9:=if b.length=0 then none else (IK b (a.length+1-b.length) a (List.replicate (a.length+1-b.length) 0)).bind λq=>BH (trim q)
def UC:Nat->W9->W9->Option W9
 | 0,_,_=>none
 | k+1,a,b=>if b.length=0 then some a else (BH (Ht a b)).bind λr=>UC k b r
def QY (a b:W9):Option W9:=(UC 66 (Uv a) (Uv b)).map Uv
def IU (a b:W9):Option W9:=(QY [] a).bind λg=>QY g b
def Ts (a:W9):Option W9:=if (Uv a).length<2 then some (Uv a) else (BH (Gj (Uv a))).bind λd=>(QY (Uv a) d).bind λg=>QX (Uv a) g
def WE:Nat->W9->Option Ua
 | 0,_=>none
 | k+1,g=>if g.length<2 then some [] else (BH (Gj g)).bind λd=>(QY g d).bind λh=>(QX g h).bind λw=>(WE k h).bind λl=>some (w::l)
def NU:Ua->Option Ua
 | []=>some []
 | [w]=>some [w]
 | w::v::l=>(QX w v).bind λf=>(NU (v::l)).bind λr=>some (f::r)
def VT:Nat->W9->Ua->Option W9
 | _,p,[]=>some p
 | i,p,f::l=>if i % 2=0 then (BH (Fv p f)).bind λq=>VT (i+1) q l else VT (i+1) p l
def fJ (a:W9):Option W9:=if (Uv a).length=0 then some [] else (WE 66 (Uv a)).bind λl=>(NU l).bind λfs=>VT 0 [1] fs
def vA:Nat->W9->W9->Option Ua
 | 0,_,_=>none
 | k+1,a,b=>if b.length=0 then some [] else (BH (Ht a b)).bind λr=>(vA k b (Db r)).bind λl=>some (b::l)
def Dh (p:W9):Option Ua:=(Ts p).bind λa=>if a.length=0 then none else (BH (Gj a)).bind λd=>(vA 66 a (Uv d)).bind λl=>some (a::l)
def Tw (sg:W9->Int) (s:Nat×Int) (p:W9):Nat×Int:=if sg p=0 then s else (if s.2=-(sg p) then s.1+1 else s.1,sg p)
def No (sg:W9->Int) (l:Ua):Nat:=(l.foldl (Tw sg) (0,0)).1
def Np (l:Ua) (q:Rat):Nat:=No (λp=>Ha p q) l
def H8 (l:Ua) (lo hi:Rat):Int:=if Gm hi lo<0 then 0 else (Np l lo:Int)-(Np l hi:Int)
def YC (p:W9):Int:=Int.sign (U3 p)
def I4 (p:W9):Int:=if p.length % 2=0 then -Int.sign (U3 p) else Int.sign (U3 p)
def JM (l:Ua):Int:=(No I4 l:Int)-(No YC l:Int)
def I6:W9->Nat:=λl=>l.foldl (λm z=>if m<z.natAbs then z.natAbs else m) 0
def Fy (p:W9):Rat:=Rat.divInt (((U3 p).natAbs:Int)+(I6 (p.take (p.length-1)):Int)) ((U3 p).natAbs:Int)
def mid (a b:Rat):Rat:=Rat.divInt (a.num*(b.den:Int)+b.num*(a.den:Int)) ((a.den:Int)*(b.den:Int)*2)
def El (p:W9) (c:Ua):Nat->Rat->Rat->Int->Option (List Tm)
 | 0,_,_,_=>none
 | k+1,lo,hi,n=>if n=0 then some [] else if n=1 then some [⟨p,lo,hi⟩] else (lG (mid lo hi)).bind λm=>(El p c k lo m (H8 c lo m)).bind λl=>(El p c k m hi (n-H8 c lo m)).bind λr=>some (l++r)
def FB (p:W9):Option (List Tm):=(Dh p).bind λc=>(Ts p).bind λq=>(lG (Fy q)).bind λb=>El q c 100000 (-b) b (JM c)
def Tm.point (a:Tm):Bool:=decide (0<=Gm a.lo a.hi)
def low (p:W9) (q:Rat):Int:=if Ha p q≠0 then Ha p q else Ha (Gj p) q
def YI (p:W9) (lo hi:Rat):Bool:=decide (Ha p hi=0\/Ha p hi≠low p lo)
def Uz (a:Tm) (t:Rat):Int :=
 if a.point=true then Gm a.lo t else if Gm t a.lo<=0 then 1 else if 0<Gm t a.hi then -1 else if Ha a.p t=0 then 0 else if Ha a.p t=low a.p a.lo then 1 else -1
def AY (a:Tm):Option Tm:=if a.point=true then some a else (lG (mid a.lo a.hi)).bind λm =>
 some (if Uz a m=0 then ⟨a.p,m,m⟩ else if Uz a m=-1 then ⟨a.p,a.lo,m⟩ else ⟨a.p,m,a.hi⟩)
def Ge (p:W9):Nat:=p.foldl (λn z=>max n (U0 z)) 0
def Sj (a b:Tm):Nat:=64+2*(U0 a.lo.num+U0 a.hi.num+U0 b.lo.num+U0 b.hi.num)+4*(a.p.length+b.p.length)*(Ge a.p+Ge b.p+(a.p.length+b.p.length)+8)
def MR (a b:Rat):Rat:=Rat.divInt (a.num*(b.den:Int)-b.num*(a.den:Int)) ((a.den:Int)*(b.den:Int))
def B9 (a b:Tm):Bool:=decide (Gm a.hi b.lo<=0/\¬((a.point=true/\b.point=true)/\Gm a.hi b.lo=0))
def NY:Nat->Tm->Tm->Option (Tm×Tm×Int)
 | 0,a,b=>some (a,b,0)
 |
  k+1,a,b=>if B9 a b=true then some (a,b,-1) else if B9 b a=true then some (a,b,1) else
  if 0<=Gm (MR a.hi a.lo) (MR b.hi b.lo) then (AY a).bind λx=>NY k x b else (AY b).bind λx=>NY k a x
def YT (a b:Tm):Option Int:=if a.point=true then some (-Uz b a.lo) else if b.point=true then some (Uz a b.lo) else
 let lo:=if 0<Gm b.lo a.lo then b.lo else a.lo
 let hi:=if Gm b.hi a.hi<0 then b.hi else a.hi
 if Gm lo hi<0 then (IU a.p b.p).bind λg=>if 1<g.length/\YI g lo hi=true then some 0 else (NY (Sj a b) a b).bind λr=>some r.2.2
 else (NY (Sj a b) a b).bind λr=>some r.2.2
def sgF (c:Ua):Nat->Tm->Option Tm
 | 0,a=>some a
 | k+1,a=>if a.point=true\/H8 c a.lo a.hi=0 then some a else (AY a).bind λx=>sgF c k x
def KX (p:W9) (a:Tm):Option Int:=if p.length=0 then some 0 else if a.point=true then some (Ha p a.lo) else
 (IU p a.p).bind λg=>if 1<g.length/\YI g a.lo a.hi=true then some 0 else (Dh p).bind λc=>(sgF c (64+2*(U0 a.lo.num+U0 a.hi.num)+4*(a.p.length+p.length)*(Ge a.p+Ge p+(a.p.length+p.length)+8)) a).bind λx=>some (Ha p x.hi)
def Il:Tm->List Tm->Option Tm
 | b,[]=>some b
 | b,a::l=>(YT a b).bind λc=>Il (if c<0 then a else b) l
def XV (a:Tm):List Tm->Option (Option Tm)
 | []=>some none
 | r::l=>(YT r a).bind λc=>if 0<c then some (some r) else XV a l
def JE (p:W9):Option (List Tm):=(fJ p).bind λq=>if q.length=0 then some [] else FB q
def FT (p:W9) (a:Tm):Option (Option Tm):=(JE p).bind λl=>XV a l
end Orr
namespace Orr
open Go Go.Proofs Tryz
set_option maxRecDepth 10000
theorem Du {p:W9} (tp:Uu p) (h:p.length≠0):U3 p≠0:=Hu tp (by omega)
theorem PX {p:W9} (h:p.length≠0):U3 p∈p:=Qa (Hz (by omega))
theorem Pn {s:Nat} {p:W9} (h:Bd s p):U0 (U3 p)<=s:=Ft h _
theorem D8 {p:W9}:∀ z∈p,Tq p∣z:=Oi
theorem O8 {p:W9} (tp:Uu p) (h:p.length≠0):Tq p≠0:=λh0=>Du tp h (Int.zero_dvd.1 (h0 ▸ D8 _ (PX h)))
theorem ZQ {p:W9} (h:Bd 4294967295 p):U0 (Tq p)<=4294967295:=HJ h
theorem mG {p:W9} (tp:Uu p) (h:p.length≠0):Gs p≠0:=by
 have:=O8 tp h;unfold Gs; split <;> omega
theorem VN {p:W9}:∀ z∈p,Gs p∣z:=λz hz=>by
 unfold Gs; split
 ·exact Int.neg_dvd.2 (D8 z hz)
 ·exact D8 z hz
theorem Qbm {p:W9} (h:Bd 4294967295 p):U0 (Gs p)<=4294967295:=by
 unfold Gs; split
 ·rw [Ei]; exact ZQ h
 ·exact ZQ h
theorem RH {s:Nat} {p:W9} (h:Bd s p) (c:Int):Bd s (Ny p c):=Ti (KA h c)
theorem CN (p:W9) (c:Int):(Ny p c).length<=p.length:=Qd (Hp _) (by simp)
theorem Iu (p:W9) (c:Int):Uu (Ny p c):=Rf _
theorem Qcr {p:W9} (h:Pb p) (c:Int):Pb (Ny p c):=⟨Iu _ _,Qd (CN _ _) h.l,RH h.b c⟩
theorem UY:Pb []:=⟨rfl,by simp,Eo⟩
theorem Hn {p:W9} (h:Pb p):Pb (Uv p):=by
 unfold Uv; split
 ·exact UY
 ·exact Qcr h _
theorem Pb.bd {p:W9} (h:Pb p):Bd 4294967295 p:=Uk h.b (by omega)
theorem Pb.ln {p:W9} (h:Pb p):p.length<274877906944:=Z2 h.l (by omega)
theorem Pb.ln' {p:W9} (h:Pb p):p.length<8589934592:=Z2 h.l (by omega)
theorem Ie {p q:W9} (tp:Uu p) (h:BH p=some q):q=p/\Pb p:=by
 unfold BH at h
 split at h
 ·rename_i hc;injection h with h;refine ⟨h.symm,tp,hc.1,λz hz=>?_⟩;have:=Yy.1 hc.2 z hz;exact Zb this
 ·cases h
theorem tJ {p:W9} {g:Int} (hl:p.length<274877906944) (hp:Bd 4294967295 p) (hg:U0 g≤4294967295) (h0:g≠0) (hd:∀ z∈p,g∣z):W6 300 [pr p,.agg (Gw g)] [pr (Ny p g)]:=by
 refine Fl func300 rfl ?_;refine Wz [.r 9 (eI (b:=(p.length:Int)) (by simp)),.i p.length,.i p.length,.r 12 (eI (b:=(p.length:Int)) (by simp))] rfl ?_;rw [Lk λk=>Gw (p.getD k 0 / g)];refine W5 (S:=Nat) 2 (λL1 k=>(13,.v (.oi k))::L1) (λk=>[.blk 37 (Gw g),.row false 37 2 (MO (λk=>Gw (p.getD k 0 / g)) [.bool false,.nils] p.length k)]) (λk=>p.length-k) (λk=>k<=p.length) 0 (Qi _) rfl rfl λk hk=>?_
 by_cases hlt:k<p.length
 ·have hg2:=Hz hlt;refine go tt [.t (by simp; omega),.x (Si hg2),.k (Eb (Um _) (Um _) (Ft hp k) hg h0 (Ye (hd _ (Qa hg2)))),.i k] rfl (by simp [Ul,Eh]; omega) ?_;have e:=Ii (λk=>Gw (p.getD k 0 / g)) [.bool false,.nils] hlt;rw [e];exact rd (k+1) (by omega) hlt rfl
 ·obtain rfl:k=p.length:=by omega
  have e:MO (λk=>Gw (p.getD k 0 / g)) [.bool false,.nils] p.length p.length=(p.map (· / g)).map Gw:=by
   rw [Ih];refine Xi λi=>?_
   by_cases hi:i<p.length
   ·simp [Jg hi,List.getD,Qe hi]
   ·simp [Q0,hi]
  rw [e];exact W0 [.f (by simp),.k (Dq (Fx (p.map (· / g))) (by simp; exact hl) (KA hp g))] rfl
theorem KO {p:W9} (hl:p.length<8589934592) (hp:Bd 4294967295 p):W6 301 [.one (.row [[pl p]])] [.agg (Gw (Tq p))]:=by
 refine Fl func301 rfl ?_;refine Wy [.o 3 37 2] rfl ?_;refine W5 (S:=Nat) 2 (λL1 i=>(8,.v (.oi i))::(3,.v (.one (.orow 1 2 none)))::L1) (λi=>[.blk 37 [.bool false,.nils],.row false 37 2 (if i=0 then [] else p.map Gw)]) (λi=>1-i) (λi=>i<=1) 0 (Qi _) rfl rfl λi hi=>?_
 rcases (show i=0\/i=1 by omega) with rfl | rfl
 ·refine Wz [.t rfl,.x (i:=0) (xs:=[pl p]) rfl,.s (MQ p)] rfl ?_;exact rd 1 (by omega) (by omega) rfl
 ·exact W0 [.f rfl,.k (eL (Fx p) hp)] rfl
theorem iR {p:W9} (tp:Uu p) (hl':p.length<8589934592) (hp:Bd 4294967295 p):W6 282 [pr p] [.agg (Gw (if p.length=0 then 0 else Gs p)),pr (Uv p)]:=by
 have hl:p.length<274877906944:=by omega
 have cn:=G0 tp hl hp;by_cases h0:p.length=0
 ·have e:p=[]:=Qh h0;subst e;exact W3 func282 rfl [.k cn,.t rfl] rfl (by simp [Lt,Uv]; rfl) trivial
 ·have hpf:Uv p=Ny p (Gs p):=by unfold Uv; rw [if_neg h0]
  rw [if_neg h0,hpf];have co:=tJ hl hp (Qbm hp) (mG tp h0) VN;by_cases hneg:U3 p<0
  ·have e:Gs p=-Tq p:=by unfold Gs; rw [if_pos hneg]
   rw [e] at co ⊢;exact W3 func282 rfl [.k cn,.f (by simpa using h0),.k (KO hl' hp),.k (Bt tp hl hp),.t (by simpa [U3] using hneg),.k (RE (Um _) (ZQ hp)),.k co] rfl
  ·have e:Gs p=Tq p:=by unfold Gs; rw [if_neg hneg]
   rw [e] at co ⊢;exact W3 func282 rfl [.k cn,.f (by simpa using h0),.k (KO hl' hp),.k (Bt tp hl hp),.f (by simpa [U3] using hneg),.k co] rfl
theorem Ec {p:W9} (hp:Pb p):W6 274 [pr p] [pr (Uv p)] :=
 W3 func274 rfl [.k (iR hp.t hp.ln' hp.bd)] rfl
theorem Pf (p:W9):W6 131 [pr p] [.oi ((p.length:Int)-1)]:=by
 have h:W6 131 [pr p] [.oi (((p.map Gw).length:Int)-1)]:=Fl func131 rfl (ln 0 rfl rfl λhl=>W0 [] rfl rfl (by simp [Ul] at hl ⊢; omega));rw [Zp] at h; exact h
theorem Aj (i:Nat) (x:Int):(mono i x).length=i+1:=by simp [mono]
theorem RF {s i:Nat} {x:Int} (h:U0 x<=s):Bd s (mono i x):=λz hz=>by
 simp only [mono,Qr,Ql] at hz;rcases hz with hz | rfl
 ·rw [(List.mem_replicate.1 hz).2,Ce]; exact Qi _
 ·exact h
def stq (c:Int) (i:Nat) (x:Int) (q:W9):W9:=JV (Fh q c) (mono i x)
def str (b:W9) (c:Int) (i:Nat) (x:Int) (r:W9):W9:=Nt (Fh r c) (Fv (trim (mono i x)) b)
theorem Qld {u t i:Nat} {c x:Int} {q:W9} (hq:Bd u q) (hc:U0 c<=t) (hx:U0 x<=u):Bd (u+t+8) (stq c i x q) :=
 Uk (YV (Fi hq hc) (RF hx)) (by omega)
theorem Qhh {c x:Int} {i:Nat} {q:W9}:(stq c i x q).length<=max q.length (i+1):=by
 have h:=Ou (Fh q c) (mono i x);have h1:=U8 q c;rw [Aj] at h;unfold stq; omega
theorem AS {i:Nat} {x:Int} {b:W9}:(Fv (trim (mono i x)) b).length<=i+b.length:=by
 have h:=Tl (trim (mono i x)) b;have h1:=Hp (mono i x);rw [Aj] at h1; omega
theorem rN {u t i:Nat} {x:Int} {b:W9} (hb:Bd t b) (hx:U0 x<=u) (hi:i<=64):Bd (u+t+7) (Fv (trim (mono i x)) b) :=
 S4 (Ti (RF hx)) hb (Z2 (Hp _) (by rw [Aj]; omega))
theorem kR {u t i:Nat} {c x:Int} {b r:W9} (hr:Bd u r) (hb:Bd t b) (hc:U0 c<=t) (hx:U0 x<=u) (hi:i<=64):Bd (u+t+8) (str b c i x r) :=
 Uk (Bs (Fi hr hc) (rN hb hx hi)) (by omega)
theorem AP {c x:Int} {i:Nat} {b r:W9}:(str b c i x r).length<=max r.length (i+b.length):=by
 have h:=Po (Fh r c) (Fv (trim (mono i x)) b);have h1:=U8 r c;have h2:=AS (i:=i) (x:=x) (b:=b);unfold str; omega
theorem xI (i:Nat) (x:Int):((List.replicate (i+1) (0:Int)).map Gw).set i (Gw x)=(mono i x).map Gw:=by
 rw [fX,mono];congr 1;refine Xi λj=>?_
 simp only [J9,List.getElem?_append,Jn,Kf];by_cases h:j=i
 ·subst h; simp
 ·rw [if_neg (by omega)];by_cases h2:j<i
  ·simp [h2]; omega
  ·rw [if_neg (by omega),if_neg h2];cases hj:j-i with
   | zero=>omega
   | succ m=>simp
theorem pB (i:Nat) {x:Int} {y:Ue} (h:y.map UX=Gw x):(((List.replicate (i+1) [LV.bool false,LV.nils]).set i y).map λc=>c.map UX)=(mono i x).map Gw:=by
 rw [Kr,HN,h]; exact xI i x
theorem QJ {b:W9} {c:Int} {i:Nat} {q r:W9} {x:Int} (hx:x=if r.length=b.length+i then U3 r else 0):yJ b c (i+1) (q,r)=yJ b c i (stq c i x q,str b c i x r):=by
 subst hx; rfl
theorem aF {a b:W9} (ha:Pb a) (hb:Pb b) (h0:b.length≠0):W6 298 [pr a,pr b] [pr (yJ b (U3 b) (a.length+1-b.length) ([],a)).1,pr (Sr a b),.oi ((a.length+1-b.length:Nat):Int),.oi 0]:=by
 have hal:=ha.l;have hbl:=hb.l;have hlb:U0 (U3 b)<=16777216:=Pn hb.b;obtain ⟨c,hc⟩:=nmE (U3 b);have cl:=Bt hb.t hb.ln hb.bd;rw [show b.getD (b.length-1) 0=c from hc.symm] at cl;obtain ⟨k,hk⟩:=nmE (a.length+1-b.length);unfold Sr;rw [<-hc,<-hk];rw [<-hc] at hlb;refine Fl func298 rfl ?_;refine Wz [.z 4,.k (G0 ha.t ha.ln ha.bd),.k (G0 hb.t hb.ln hb.bd),.f (by simpa using h0),.k cl,.k (Pf a),.k (Pf b),.r 27 (eI (b:=(k:Int)) (by omega))] rfl ?_;refine W5 (S:=Nat×W9×W9) 1 (λL1 s=>(4,.v (pr s.2.1))::(5,.v (pr s.2.2))::(9,.v (.oi ((s.1:Int)-1)))::L1) (λ_=>[.blk 37 (Gw c)]) (λs=>s.1) (λs=>s.1<=k/\Uu s.2.2/\s.2.1.length<=66/\s.2.2.length<=a.length/\Bd (16777216+(k-s.1)*16777224) s.2.1/\Bd (16777216+(k-s.1)*16777224) s.2.2/\yJ b c s.1 s.2=yJ b c k ([],a)) (k,[],a) ⟨Qn _,ha.t,by simp,Qn _,Eo,by simpa using ha.b,rfl⟩ rfl rfl λ⟨i,q,r⟩ ⟨j1,j2,j3,j4,j5,j6,j7⟩=>?_
 dsimp only at j1 j2 j3 j4 j5 j6 j7 ⊢;rw [<-j7];cases i with
 | zero=>exact W0 [.f (by simp)] rfl
 |
  succ i =>
  obtain ⟨x,hx⟩:=nmE (if r.length=b.length+i then U3 r else 0);obtain ⟨u,hu⟩:=nmE (16777216+(k-(i+1))*16777224);rw [<-hu] at j5 j6;have hub:u<=1107296256:=by
   have:(k-(i+1))*16777224<=64*16777224:=Qz _ (by omega);omega
  have hxs:U0 x<=u:=by
   rw [hx]; split
   ·exact Pn j6
   ·rw [Ce]; exact Qi _
  have cs:=Pj (p:=q) (c:=c) (by omega) (Uk j5 (by omega)) (by omega);have cs2:=Pj (p:=r) (c:=c) (by omega) (Uk j6 (by omega)) (by omega);have l1:=U8 q c;have l2:=U8 r c;have ca:=EQ (p:=Fh q c) (q:=mono i x) (by omega) (by rw [Aj]; omega) (Uk (Fi j5 hlb) (by omega)) (Uk (RF hxs) (by omega));have cm:=EZ (p0:=mono i x) hb.t (by rw [Aj]; omega) (by omega) (RF hxs) hb.b (by omega);have l3:=AS (i:=i) (x:=x) (b:=b);have cb:=WZ (p:=Fh r c) (q:=Fv (trim (mono i x)) b) (by omega) (by omega) (Uk (Fi j6 hlb) (by omega)) (Uk (rN hb.b hxs (by omega)) (by omega));have hst:=QJ (b:=b) (c:=c) (q:=q) hx;have hI:i<=k/\Uu (str b c i x r)/\(stq c i x q).length<=66/\(str b c i x r).length<=a.length/\Bd (16777216+(k-i)*16777224) (stq c i x q)/\Bd (16777216+(k-i)*16777224) (str b c i x r):=by
   have l5:=Qhh (c:=c) (x:=x) (i:=i) (q:=q);have l6:=AP (c:=c) (x:=x) (i:=i) (b:=b) (r:=r);have hku:u+16777216+8=16777216+(k-i)*16777224:=by
    rw [hu,show k-i=(k-(i+1))+1 from by omega,X4]; omega
   refine ⟨by omega,Fc _ _,by omega,by omega,?_,?_⟩
   ·rw [<-hku]; exact Qld j5 hlb hxs
   ·rw [<-hku]; exact kR j6 hb.b hlb hxs (by omega)
  rw [hst];by_cases h:r.length=b.length+i
  ·refine Wz [.t (by simp <;> omega),.k (Pf r),.k (Pf b),.t (by simp; omega),.k (Bt j2 (by omega) (Uk j6 (by omega))),.r 44 (eI (b:=((i+1:Nat):Int)) (by omega)),.i (i+1),.i (i+1),.r 47 (eI (b:=(i:Int)) (by omega)),.i i] rfl ?_;refine nl 2 rfl rfl rfl ?_;rw [pB i (x:=x) (by rw [hx,if_pos h]; rfl)];refine Wz [.k cs,.k ca,.k cs2,.k cm,.k cb,.r 33 (eI (b:=(i:Int)-1) (by omega))] rfl ?_;exact rd (i,stq c i x q,str b c i x r) (by dsimp only; omega) ⟨hI.1,hI.2.1,hI.2.2.1,hI.2.2.2.1,hI.2.2.2.2.1,hI.2.2.2.2.2,rfl⟩ rfl
  ·refine Wz [.t (by simp <;> omega),.k (Pf r),.k (Pf b),.f (by simp; omega),.r 44 (eI (b:=((i+1:Nat):Int)) (by omega)),.i (i+1),.i (i+1),.r 47 (eI (b:=(i:Int)) (by omega)),.i i] rfl ?_;refine nl 2 rfl rfl rfl ?_;rw [pB i (x:=x) (by rw [hx,if_neg h,Lt]; rfl)];refine Wz [.k cs,.k ca,.k cs2,.k cm,.k cb,.r 33 (eI (b:=(i:Int)-1) (by omega))] rfl ?_;exact rd (i,stq c i x q,str b c i x r) (by dsimp only; omega) ⟨hI.1,hI.2.1,hI.2.2.1,hI.2.2.2.1,hI.2.2.2.2.1,hI.2.2.2.2.2,rfl⟩ rfl
theorem Qc2 {b:W9} {c:Int} (hb:Bd 16777216 b) (hc:U0 c<=16777216) {n:Nat}:∀ (i u:Nat) (q r:W9),i<=64->i+b.length<=n+1->Uu r->r.length<=n->Bd u r->Uu (yJ b c i (q,r)).2/\(yJ b c i (q,r)).2.length<=n/\Bd (u+i*16777224) (yJ b c i (q,r)).2
 | 0,u,q,r,_,_,h1,h2,h3=>⟨h1,h2,by simpa [yJ] using h3⟩
 |
  i+1,u,q,r,hi,hn,h1,h2,h3=>by
  rw [QJ rfl];have hx:U0 (if r.length=b.length+i then U3 r else 0)<=u:=by
   split
   ·exact Pn h3
   ·rw [Ce]; exact Qi _
  have l6:=AP (c:=c) (x:=if r.length=b.length+i then U3 r else 0) (i:=i) (b:=b) (r:=r);have:=Qc2 hb hc (n:=n) i (u+16777216+8) (stq c i (if r.length=b.length+i then U3 r else 0) q) (str b c i (if r.length=b.length+i then U3 r else 0) r) (by omega) (by omega) (Fc _ _) (by omega) (kR h3 hb hc hx (by omega));exact ⟨this.1,this.2.1,Uk this.2.2 (by omega)⟩
theorem mP {a b:W9} (ha:Pb a) (hb:Pb b) (h0:b.length≠0):Uu (Sr a b)/\(Sr a b).length<=a.length/\Bd 1107296256 (Sr a b):=by
 have hal:=ha.l;by_cases h:b.length<=a.length+1
 ·obtain ⟨h1,h2,h3⟩:=Qc2 hb.b (Pn hb.b) (n:=a.length) (a.length+1-b.length) 16777216 [] a (by omega) (by omega) ha.t (Qn _) ha.b;refine ⟨h1,h2,Uk h3 ?_⟩;have:(a.length+1-b.length)*16777224<=64*16777224:=Qz _ (by omega);omega
 ·have e:Sr a b=a:=by unfold Sr; rw [show a.length+1-b.length=0 from by omega]; rfl
  rw [e];exact ⟨ha.t,Qn _,Uk ha.b (by omega)⟩
theorem VL {a b r:W9} {s n:Nat} (h1:Uu r) (h2:r.length<=n) (h3:Bd s r):Uu (Mp a b r)/\(Mp a b r).length<=n/\Bd s (Mp a b r):=by
 unfold Mp; split
 ·exact ⟨Fc _ _,Qd (PK r) h2,LA h3⟩
 ·exact ⟨h1,h2,h3⟩
theorem MX {r:W9} {s n:Nat} (h2:r.length<=n) (h3:Bd s r):Uu (XW r)/\(XW r).length<=n/\Bd s (XW r):=by
 unfold XW; split
 ·exact ⟨rfl,by simp,Eo⟩
 ·exact ⟨Iu _ _,Qd (CN _ _) h2,RH h3 _⟩
theorem VC {a b:W9} (ha:Pb a) (hb:Pb b) (h0:b.length≠0):Uu (Ht a b)/\(Ht a b).length<=a.length/\Bd 1107296256 (Ht a b):=by
 obtain ⟨h1,h2,h3⟩:=mP ha hb h0;obtain ⟨h4,h5,h6⟩:=VL (a:=a) (b:=b) h1 h2 h3;exact MX h5 h6
theorem aR {a b:W9} (ha:Pb a) (hb:Pb b) (h0:b.length≠0):W6 275 [pr a,pr b] [pr (Ht a b),.oi 0]:=by
 obtain ⟨h1,h2,h3⟩:=mP ha hb h0;obtain ⟨h4,h5,h6⟩:=VL (a:=a) (b:=b) h1 h2 h3;have hal:=ha.l;have cp:=aF ha hb h0;have cl:=Bt hb.t hb.ln hb.bd;have cn:=aK (p:=Sr a b) (by omega) (Uk h3 (by omega));unfold Ht;obtain ⟨r,hr⟩:=nmE (Mp a b (Sr a b));have cc:=KO (p:=r) (by rw [hr]; omega) (by rw [hr]; exact Uk h6 (by omega));rw [<-hr] at h4 h5 h6 ⊢;obtain ⟨k,hk⟩:=nmE (a.length+1-b.length);rw [<-hk] at cp;have em:((k:Int).tmod 2)=((k % 2:Nat):Int):=by rw [Vs (by omega)]; omega
 have key:XW r=if r.length=0 then [] else Ny r (Tq r):=rfl
 by_cases hz:r.length=0
 ·rw [key,if_pos hz];by_cases hodd:k % 2=1
  ·by_cases hneg:U3 b<0
   ·have e:r=Db (Sr a b):=by rw [hr]; unfold Mp; rw [if_pos ⟨by rw [<-hk]; exact hodd,hneg⟩]
    rw [e] at hz;exact W3 func275 rfl [.k cp,.f (by simp),.r 22 (eI em),.t (by simp; omega),.k cl,.t (by simpa [U3] using hneg),.k cn,.t (by simpa using hz)] rfl rfl (by simp [Ul])
   ·have e:r=Sr a b:=by rw [hr]; unfold Mp; rw [if_neg (λh=>hneg h.2)]
    rw [e] at hz;exact W3 func275 rfl [.k cp,.f (by simp),.r 22 (eI em),.t (by simp; omega),.k cl,.f (by simpa [U3] using hneg),.t (by simpa using hz)] rfl rfl (by simp [Ul])
  ·have e:r=Sr a b:=by rw [hr]; unfold Mp; rw [if_neg (λh=>hodd (by rw [hk]; exact h.1))]
   rw [e] at hz;exact W3 func275 rfl [.k cp,.f (by simp),.r 22 (eI em),.f (by simp; omega),.f rfl,.t (by simpa using hz)] rfl rfl (by simp [Ul])
 ·rw [key,if_neg hz];have cd:=tJ (p:=r) (g:=Tq r) (by omega) (Uk h6 (by omega)) (ZQ (Uk h6 (by omega))) (O8 h4 hz) D8;by_cases hodd:k % 2=1
  ·by_cases hneg:U3 b<0
   ·have e:r=Db (Sr a b):=by rw [hr]; unfold Mp; rw [if_pos ⟨by rw [<-hk]; exact hodd,hneg⟩]
    rw [e] at hz cc cd ⊢;exact W3 func275 rfl [.k cp,.f (by simp),.r 22 (eI em),.t (by simp; omega),.k cl,.t (by simpa [U3] using hneg),.k cn,.f (by simpa using hz),.k cc,.k cd] rfl rfl (by simp [Ul])
   ·have e:r=Sr a b:=by rw [hr]; unfold Mp; rw [if_neg (λh=>hneg h.2)]
    rw [e] at hz cc cd ⊢;exact W3 func275 rfl [.k cp,.f (by simp),.r 22 (eI em),.t (by simp; omega),.k cl,.f (by simpa [U3] using hneg),.f (by simpa using hz),.k cc,.k cd] rfl rfl (by simp [Ul])
  ·have e:r=Sr a b:=by rw [hr]; unfold Mp; rw [if_neg (λh=>hodd (by rw [hk]; exact h.1))]
   rw [e] at hz cc cd ⊢;exact W3 func275 rfl [.k cp,.f (by simp),.r 22 (eI em),.f (by simp; omega),.f rfl,.f (by simpa using hz),.k cc,.k cd] rfl rfl (by simp [Ul])
theorem Qhf {s:Nat} {x:Int} (h:U0 x<=s) (g:Int):U0 (x / g)<=s:=KA (p:=[x]) (λz hz=>by rw [Ql.1 hz]; exact h) g _ (by simp)
def sta (b:W9) (i:Nat) (x:Int) (a:W9):W9:=Nt a (Fv (trim (mono i x)) b)
theorem Qlc {u t i:Nat} {x:Int} {b a:W9} (ha:Bd u a) (hb:Bd t b) (hx:U0 x<=u) (hi:i<=64):Bd (u+t+8) (sta b i x a) :=
 Uk (Bs ha (rN hb hx hi)) (by omega)
theorem pH {x:Int} {i:Nat} {b a:W9}:(sta b i x a).length<=max a.length (i+b.length):=by
 have h:=Po a (Fv (trim (mono i x)) b);have h2:=AS (i:=i) (x:=x) (b:=b);unfold sta; omega
theorem Qfh (s n:Nat):Bd s (List.replicate n 0):=λz hz=>by rw [(List.mem_replicate.1 hz).2,Ce]; exact Qi _
theorem Qlb {s i:Nat} {l:W9} {x:Int} (h:Bd s l) (hx:U0 x<=s):Bd s (l.set i x):=λz hz=>by
 rcases Ji hz with hz | rfl
 ·exact h z hz
 ·exact hx
theorem aY {a b q:W9} (ha:Pb a) (hb:Pb b) (h:QX a b=some q):W6 314 [pr a,pr b] [pr q,.oi 0]:=by
 unfold QX at h
 split at h
 ·cases h
 rename_i h0;obtain ⟨k,hk⟩:=nmE (a.length+1-b.length);rw [<-hk] at h;obtain ⟨q',hq,hq2⟩:=Qc.1 h;obtain ⟨rfl,hpb⟩:=Ie (Rf _) hq2;have hal:=ha.l;have hbl:=hb.l;refine Fl func314 rfl ?_;refine Wz [.k (G0 ha.t ha.ln ha.bd),.k (G0 hb.t hb.ln hb.bd),.f (by simpa using h0),.r 24 (eI (b:=(k:Int)) (by simp; omega)),.i k,.i k,.r 27 (eI (b:=(k:Int)) (by simp))] rfl ?_;refine nl 0 rfl rfl rfl ?_;rw [HN];refine W5 (S:=Nat×W9×W9) 1 (λL1 s=>(0,.v (pr s.2.1))::(7,.v (.oi ((s.1:Int)-1)))::L1) (λs=>[.row false 37 2 (s.2.2.map Gw)]) (λs=>s.1) (λs=>s.1<=k/\Uu s.2.1/\s.2.1.length<=a.length/\Bd (16777216+(k-s.1)*16777224) s.2.1/\s.2.2.length=k/\Bd 1107296256 s.2.2/\IK b s.1 s.2.1 s.2.2=some q') (k,a,List.replicate k 0) ⟨Qn _,ha.t,Qn _,by simpa using ha.b,by simp,Qfh _ _,hq⟩ rfl rfl λ⟨i,A,Q⟩ ⟨j1,j2,j3,j4,j5,j7,j6⟩=>?_
 dsimp only at j1 j2 j3 j4 j5 j6 j7 ⊢;cases i with
 |
  zero =>
  simp only [IK] at j6
  split at j6
  ·rename_i hA;injection j6 with j6; subst j6;exact W0 [.f (by simp),.f (by simpa using hA),.k (Dq (Fx Q) (by omega) (Uk j7 (by omega)))] rfl
  ·cases j6
 |
  succ i =>
  obtain ⟨u,hu⟩:=nmE (16777216+(k-(i+1))*16777224);rw [<-hu] at j4;have hub:u<=1107296256:=by
   have:(k-(i+1))*16777224<=64*16777224:=Qz _ (by omega);omega
  have hku:u+16777216+8=16777216+(k-i)*16777224:=by
   rw [hu,show k-i=(k-(i+1))+1 from by omega,X4]; omega
  simp only [IK] at j6;by_cases hlt:A.length<b.length+i
  ·rw [if_pos hlt] at j6;refine Wz [.t (by simp <;> omega),.k (Pf A),.k (Pf b),.t (by simp; omega),.r 32 (eI (b:=(i:Int)-1) (by omega))] rfl ?_;exact rd (i,A,Q) (by dsimp only; omega) ⟨by dsimp only; omega,j2,j3,Uk j4 (by dsimp only; omega),j5,j7,j6⟩ rfl
  ·rw [if_neg hlt] at j6
   split at j6
   ·rename_i hdv;obtain ⟨x,hx⟩:=nmE (U3 A / U3 b);rw [<-hx] at j6;have hxs:U0 x<=u:=by rw [hx]; exact Qhf (Pn j4) _
    have ce:=Eb (Um (U3 A)) (Um (U3 b)) (Qd (Pn j4) (by omega)) (Qd (Pn hb.b) (by omega)) (Du hb.t h0) hdv;rw [<-hx] at ce;have cm:W6 178 [.one (.row ((mono i x).map Gw)),pr b] [pr (Fv (trim (mono i x)) b)]:=EZ (p0:=mono i x) hb.t (by rw [Aj]; omega) (by omega) (RF hxs) hb.b (by omega);have l3:=AS (i:=i) (x:=x) (b:=b);have l4:=pH (i:=i) (x:=x) (b:=b) (a:=A);have cb:=WZ (p:=A) (q:=Fv (trim (mono i x)) b) (by omega) (by omega) (Uk j4 (by omega)) (Uk (rN hb.b hxs (by omega)) (by omega));refine Wz [.t (by simp <;> omega),.k (Pf A),.k (Pf b),.f (by simp; omega),.k (Bt j2 (by omega) (Uk j4 (by omega))),.k (Bt hb.t hb.ln hb.bd),.k ce,.f rfl,.r 51 (eI (b:=(i:Int)) (by omega)),.i i,.r 55 (eI (b:=((i+1:Nat):Int)) (by omega)),.i (i+1),.i (i+1),.r 58 (eI (b:=(i:Int)) (by omega))] rfl ?_;refine nl 2 rfl rfl rfl ?_;rw [HN,fX];rw [<-xI i x] at cm;refine Wz [.i i,.k cm,.k cb,.r 32 (eI (b:=(i:Int)-1) (by omega))] rfl ?_;exact rd (i,sta b i x A,Q.set i x) (by dsimp only; omega) ⟨by dsimp only; omega,Fc _ _,by dsimp only; omega,by dsimp only; rw [<-hku]; exact Qlc j4 hb.b hxs (by omega),by simpa using j5,Qlb j7 (Nat.le_trans hxs hub),j6⟩ rfl
   ·cases j6
theorem fQ {a b q:W9} (h:QX a b=some q):Pb q:=by
 unfold QX at h
 split at h
 ·cases h
 ·obtain ⟨q',_,hq2⟩:=Qc.1 h;obtain ⟨rfl,hpb⟩:=Ie (Rf _) hq2;exact hpb
theorem iT {a b q:W9} (ha:Pb a) (hb:Pb b) (h:QX a b=some q):W6 303 [pr a,pr b] [pr q] :=
 W3 func303 rfl [.k (aY ha hb h)] rfl
theorem OH:∀ {k:Nat} {a b g:W9},Pb a->Pb b->UC k a b=some g->Pb g
 | 0,_,_,_,_,_,h=>by cases h
 |
  k+1,a,b,g,ha,hb,h=>by
  simp only [UC] at h
  split at h
  ·injection h with h; subst h; exact ha
  ·rename_i h0;obtain ⟨r,hr,h⟩:=Qc.1 h;obtain ⟨rfl,hpb⟩:=Ie (VC ha hb h0).1 hr;exact OH hb hpb h
theorem tH {a b g:W9} (ha:Pb a) (hb:Pb b) (h:QY a b=some g):W6 243 [pr a,pr b] [pr g]:=by
 unfold QY at h;obtain ⟨g',h2,rfl⟩:=Ym.1 h;have hg:=OH (Hn ha) (Hn hb) h2;refine Fl func243 rfl ?_;refine Wy [.k (Ec ha),.k (Ec hb)] rfl ?_;refine W5 (S:=Nat×W9×W9) 0 (λL1 s=>(0,.v (pr s.2.1))::(1,.v (pr s.2.2))::L1) (λ_=>[]) (λs=>s.1) (λs=>Pb s.2.1/\Pb s.2.2/\UC s.1 s.2.1 s.2.2=some g') (66,Uv a,Uv b) ⟨Hn ha,Hn hb,h2⟩ rfl rfl λ⟨k,A,C⟩ ⟨j1,j2,j3⟩=>?_
 dsimp only at j1 j2 j3 ⊢;cases k with
 | zero=>cases j3
 |
  succ k =>
  simp only [UC] at j3
  split at j3
  ·rename_i h0;injection j3 with j3; subst j3;exact W0 [.f (by simpa using h0),.k (Ec j1)] rfl
  ·rename_i h0;obtain ⟨r,hr,j3⟩:=Qc.1 j3;obtain ⟨rfl,hpb⟩:=Ie (VC j1 j2 h0).1 hr;refine Wy [.t (by simp; omega),.k (aR j1 j2 h0)] rfl ?_;exact rd (k,C,Ht A C) (by dsimp only; omega) ⟨j2,hpb,j3⟩ rfl
theorem UK {a b g:W9} (ha:Pb a) (hb:Pb b) (h:QY a b=some g):Pb g:=by
 unfold QY at h;obtain ⟨g',h2,rfl⟩:=Ym.1 h;exact Hn (OH (Hn ha) (Hn hb) h2)
theorem aV {a b g:W9} (ha:Pb a) (hb:Pb b) (h:IU a b=some g):W6 200 [.one (.row (Tn [a,b]))] [pr g]:=by
 unfold IU at h;obtain ⟨g1,h1,h2⟩:=Qc.1 h;have hg1:=UK UY ha h1;refine Fl func200 rfl ?_;refine Wy [.z 3] rfl ?_;refine W5 (S:=Nat) 0 (λL1 i=>(8,.v (.oi i))::(3,.v (pr (if i=0 then [] else if i=1 then g1 else g)))::L1) (λ_=>[]) (λi=>2-i) (λi=>i<=2) 0 (Qi _) rfl rfl λi hi=>?_
 rcases (show i=0\/i=1\/i=2 by omega) with rfl | rfl | rfl
 ·refine Wy [.t rfl,.x (Hh (i:=0) (p:=a) rfl),.k (tH UY ha h1)] rfl ?_ (by simp [Ul]);exact rd 1 (by omega) (by omega) rfl
 ·refine Wy [.t rfl,.x (Hh (i:=1) (p:=b) rfl),.k (tH hg1 hb h2)] rfl ?_ (by simp [Ul]);exact rd 2 (by omega) (by omega) rfl
 ·exact W0 [.f rfl] rfl
theorem Qco {a b g:W9} (ha:Pb a) (hb:Pb b) (h:IU a b=some g):Pb g:=by
 unfold IU at h;obtain ⟨g1,h1,h2⟩:=Qc.1 h;exact UK (UK UY ha h1) hb h2
theorem PL {p d:W9} (h:BH (Gj p)=some d):d=Gj p/\Pb (Gj p):=Ie (Fc _ _) h
theorem TQ {a g:W9} (ha:Pb a) (h:Ts a=some g):W6 281 [pr a] [pr g]:=by
 have hp:=Hn ha;unfold Ts at h
 split at h
 ·rename_i h0;injection h with h; subst h;exact W3 func281 rfl [.k (Ec ha),.k (Pf _),.t (by simp; omega)] rfl
 ·rename_i h0;obtain ⟨d,h1,h⟩:=Qc.1 h;obtain ⟨rfl,hd⟩:=PL h1;obtain ⟨g1,h1,h⟩:=Qc.1 h;exact W3 func281 rfl [.k (Ec ha),.k (Pf _),.f (by simp; omega),.k (E9 hp.ln hp.bd),.k (tH hp hd h1),.k (iT hp (UK hp hd h1) h)] rfl
theorem UV {a g:W9} (ha:Pb a) (h:Ts a=some g):Pb g:=by
 unfold Ts at h
 split at h
 ·injection h with h; subst h; exact Hn ha
 ·obtain ⟨d,h1,h⟩:=Qc.1 h;obtain ⟨g1,h1,h⟩:=Qc.1 h;exact fQ h
theorem Qcp {p:W9} (h:Pb p):Pb (Db p):=⟨Fc _ _,Qd (PK p) h.l,LA h.b⟩
theorem wU:∀ {k:Nat} {a b:W9} {l:Ua},Pb a->Pb b->vA k a b=some l->l.length≤k/\∀ p∈l,Pb p
 | 0,_,_,_,_,_,h=>by cases h
 |
  k+1,a,b,l,ha,hb,h=>by
  simp only [vA] at h
  split at h
  ·injection h with h; subst h; exact ⟨by simp,λp hp=>by cases hp⟩
  ·rename_i h0;obtain ⟨r,hr,h⟩:=Qc.1 h;obtain ⟨rfl,hpb⟩:=Ie (VC ha hb h0).1 hr;obtain ⟨l',h1,h⟩:=Qc.1 h;injection h with h; subst h;obtain ⟨i1,i2⟩:=wU hb (Qcp hpb) h1;refine ⟨by simp; exact i1,λp hp=>?_⟩;rcases Qk.1 hp with rfl | hp
   ·exact hb
   ·exact i2 p hp
theorem chain_ok {p:W9} {l:Ua} (hp:Pb p) (h:Dh p=some l):l.length≤67/\∀ q∈l,Pb q:=by
 unfold Dh at h;obtain ⟨a,h1,h⟩:=Qc.1 h;have ha:=UV hp h1
 split at h
 ·cases h
 ·obtain ⟨d,h2,h⟩:=Qc.1 h;obtain ⟨rfl,hd⟩:=PL h2;obtain ⟨l',h3,h⟩:=Qc.1 h;injection h with h; subst h;obtain ⟨i1,i2⟩:=wU ha (Hn hd) h3;refine ⟨by simp; omega,λp hp=>?_⟩;rcases Qk.1 hp with rfl | hp
  ·exact ha
  ·exact i2 p hp
theorem MZ (l:Ua) (p:W9):Tn l++[[pl p]]=Tn (l++[p]):=by simp [Tn]
theorem D9 (l:Ua):(Tn l).length=l.length:=by simp [Tn]
theorem aS {p:W9} {l:Ua} (hp:Pb p) (h:Dh p=some l):W6 253 [pr p] [.one (.sh [.row (Tn l)]),.oi 0]:=by
 unfold Dh at h;obtain ⟨a,h1,h⟩:=Qc.1 h;have ha:=UV hp h1
 split at h
 ·cases h
 rename_i h0;obtain ⟨d,h2,h⟩:=Qc.1 h;obtain ⟨rfl,hd⟩:=PL h2;obtain ⟨l',h3,h⟩:=Qc.1 h;injection h with h; subst h;refine Fl func253 rfl ?_;refine Wy [.k (TQ hp h1),.f (by simpa using h0),.lo,.k (E9 ha.ln ha.bd),.k (iR hd.t hd.ln' hd.bd)] rfl ?_ (by simp [Ul]);obtain ⟨z,hz⟩:=nmE (if (Gj a).length=0 then 0 else Gs (Gj a));rw [<-hz];refine sb [(4,.v (pr a)),(7,.v (pr (Uv (Gj a)))),(5,.v (.one (.ow 1 0)))] [.row false 34 1 [[pl a]],.blk 355 [.orow 0 1 none],.blk 37 (Gw z)] rfl rfl ?_;have hll:=(wU ha (Hn hd) h3).1;refine W5 (S:=Nat×Ua×W9×W9) 3 (λL1 s=>(4,.v (pr s.2.2.1))::(7,.v (pr s.2.2.2))::L1) (λs=>[.row false 34 1 (Tn s.2.1),.blk 355 [.orow 0 1 none],.blk 37 (Gw z)]) (λs=>s.1) (λs=>Pb s.2.2.1/\Pb s.2.2.2/\∃ m,vA s.1 s.2.2.1 s.2.2.2=some m/\s.2.1++m=a::l') (66,[a],a,Uv (Gj a)) ⟨ha,Hn hd,l',h3,rfl⟩ rfl rfl λ⟨k,out,A,C⟩ ⟨j1,j2,m,j3,j4⟩=>?_
 dsimp only at j1 j2 j3 j4 ⊢;have hol:out.length<=67:=by have:=congrArg List.length j4; simp at this; omega
 cases k with
 | zero=>cases j3
 |
  succ k =>
  simp only [vA] at j3
  split at j3
  ·rename_i h0;injection j3 with j3; subst j3;rw [Zw] at j4;rw [<-j4];exact W0 [.f (by simpa using h0)] rfl
  ·rename_i h0;obtain ⟨r,hr,j3⟩:=Qc.1 j3;obtain ⟨rfl,hpb⟩:=Ie (VC j1 j2 h0).1 hr;obtain ⟨m',j6,j5⟩:=Qc.1 j3;injection j5 with j5; subst j5;refine go tt [.t (by simp; omega),.s (sz:=1) (λc hc=>by rw [Ql.1 hc]; rfl),.k (aR j1 j2 h0),.k (aK hpb.ln hpb.bd)] rfl (by simp [Ul,D9]; omega) ?_;exact rd (k,out++[C],C,Db (Ht A C)) (by dsimp only; omega) ⟨j2,Qcp hpb,m',j6,by rw [<-j4]; simp⟩ (by rw [MZ]; rfl)
structure Tb (t:Tm):Prop where
 p:Pb t.p
 lo:Qb t.lo
 hi:Qb t.hi
theorem tO (x y:Int):-1<=Cc x y/\Cc x y<=1:=by unfold Cc; split <;> (try split) <;> omega
theorem If (a b:Rat):-1<=Gm a b/\Gm a b<=1:=tO _ _
theorem Au (p:W9) (q:Rat):-1<=Ha p q/\Ha p q<=1:=tO _ _
theorem uT (p:W9) (q:Rat):-1<=low p q/\low p q<=1:=by unfold low; split <;> exact Au _ _
theorem Qb.s31 {q:Rat} (h:Qb q):Qs 2147483647 q:=h.mono (by decide)
theorem Qb.s32 {q:Rat} (h:Qb q):Qs 4294967295 q:=h.mono (by decide)
theorem GX {p:W9} {q:Rat} (hp:Pb p) (hq:Qb q):W6 241 [pr p,.agg (rl q)] [.oi (Ha p q)]:=by
 have hm:p.length*(16777216+1)<=64*16777217:=Qz _ hp.l;exact rA hp.t hp.ln hp.b hq (by omega)
theorem Qo3 {p:W9} {q:Rat} (hp:Pb p) (hq:Qb q):W6 241 [pr (Gj p),.agg (rl q)] [.oi (Ha (Gj p) q)]:=by
 have hl:=Qd (Cg p) (show p.length-1<=64 by have:=hp.l; omega);have hm:(Gj p).length*(16777216+1)<=64*16777217:=Qz _ hl;exact rA (Fc _ _) (Z2 hl (by omega)) (rB (t:=6) hp.b hp.l) hq (by omega)
theorem Ca {t:Tm} (ht:Tb t):W6 198 [.agg (ta t)] [.one (.bool t.point)] :=
 W3 func198 rfl [.k (Bf ht.lo.s31 ht.hi.s31)] rfl
theorem GE {t:Tm} (ht:Tb t):W6 197 [.agg (ta t)] [.agg (ta t)] :=
 W3 func197 rfl [.k (G0 ht.p.t ht.p.ln ht.p.bd),.k (M5 ht.lo.s32),.k (M5 ht.hi.s32)] rfl
theorem iC {t:Tm} (ht:Tb t):W6 240 [.agg (ta t)] [.agg (ta t)]:=W3 func240 rfl [.k (GE ht)] rfl
theorem iW {p:W9} {q:Rat} (hp:Pb p) (hq:Qb q):W6 242 [pr p,.agg (rl q)] [.oi (low p q)]:=by
 unfold low;by_cases h:Ha p q=0
 ·rw [if_neg (by simpa using h)];exact W3 func242 rfl [.k (GX hp hq),.f (by simpa using h),.k (E9 hp.ln hp.bd),.k (Qo3 hp hq)] rfl
 ·rw [if_pos h];exact W3 func242 rfl [.k (GX hp hq),.t (by simpa using h)] rfl
theorem iV {p:W9} {lo hi:Rat} (hp:Pb p) (hl:Qb lo) (hh:Qb hi):W6 201 [pr p,.agg (rl lo),.agg (rl hi)] [.one (.bool (YI p lo hi))]:=by
 by_cases h:Ha p hi=0
 ·exact W3 func201 rfl [.k (GX hp hh),.t (by simpa using h)] rfl (by simp [YI,h]) trivial
 ·exact W3 func201 rfl [.k (GX hp hh),.f (by simpa using h),.k (iW hp hl)] rfl (by simp [YI,h]) trivial
theorem Be {t:Tm} {q:Rat} (ht:Tb t) (hq:Qb q):W6 199 [.agg (ta t),.agg (rl q)] [.oi (Uz t q)]:=by
 have cp:=Ca ht;unfold Uz;by_cases h1:t.point=true
 ·rw [if_pos h1];exact W3 func199 rfl [.k cp,.t h1,.k (Bf ht.lo.s31 hq.s31)] rfl
 rw [if_neg h1];have h1:t.point=false:=by simpa using h1
 have c1:=Bf hq.s31 ht.lo.s31;have c2:=Bf hq.s31 ht.hi.s31;by_cases h2:Gm q t.lo<=0
 ·rw [if_pos h2];exact W3 func199 rfl [.k cp,.f h1,.k c1,.t (by simpa using h2)] rfl
 rw [if_neg h2];by_cases h3:0<Gm q t.hi
 ·rw [if_pos h3];exact W3 func199 rfl [.k cp,.f h1,.k c1,.f (by simpa using h2),.k c2,.t (by simpa using h3)] rfl
 rw [if_neg h3];by_cases h4:Ha t.p q=0
 ·rw [if_pos h4];exact W3 func199 rfl [.k cp,.f h1,.k c1,.f (by simpa using h2),.k c2,.f (by simpa using h3),.k (GX ht.p hq),.t (by simpa using h4)] rfl
 rw [if_neg h4];by_cases h5:Ha t.p q=low t.p t.lo
 ·rw [if_pos h5];exact W3 func199 rfl [.k cp,.f h1,.k c1,.f (by simpa using h2),.k c2,.f (by simpa using h3),.k (GX ht.p hq),.f (by simpa using h4),.k (iW ht.p ht.lo),.t (by simpa using h5)] rfl
 ·rw [if_neg h5];exact W3 func199 rfl [.k cp,.f h1,.k c1,.f (by simpa using h2),.k c2,.f (by simpa using h3),.k (GX ht.p hq),.f (by simpa using h4),.k (iW ht.p ht.lo),.f (by simpa using h5)] rfl
theorem Qgp (t:Tm) (q:Rat):-1<=Uz t q/\Uz t q<=1:=by
 unfold Uz;have:=If t.lo q
 repeat' split
 all_goals omega
theorem Qgw (q:Rat):0<(q.den:Int):=by have:=q.den_pos; omega
theorem Qjv {a b:Rat} (ha:Qb a) (hb:Qb b):W6 277 [.agg (rl a),.agg (rl b)] [.agg (rl (mid a b))]:=by
 have h1:U0 (a.num*(b.den:Int))<=33554432:=Qd (Gv _ _) (by have:=ha.1; have:=hb.2; omega);have h2:U0 (b.num*(a.den:Int))<=33554432:=Qd (Gv _ _) (by have:=hb.1; have:=ha.2; omega);have h3:U0 ((a.den:Int)*(b.den:Int))<=33554432:=Qd (Gv _ _) (by have:=ha.2; have:=hb.2; omega);have h4:U0 (2:Int)<=2:=by decide
 have h5:U0 (a.num*(b.den:Int)+b.num*(a.den:Int))<=33554433:=Qd (VX _ _) (by omega);have h6:U0 ((a.den:Int)*(b.den:Int)*2)<=33554434:=Qd (Gv _ _) (by omega);have h0:(a.den:Int)*(b.den:Int)*2≠0:=by
  have:=Int.mul_pos (Qgw a) (Qgw b); omega
 exact W3 func277 rfl [.k (EK ha.s31 hb.s31),.k (XP (Um _) (Um _) (by omega) (by omega)),.k (LO (z:=2) (by decide)),.k (P8 (Um _) (Um _) (by omega) (by omega)),.k (Ob h0 (by omega) (by omega))] rfl
theorem EF {a b:Rat} (ha:Qb a) (hb:Qb b):W6 245 [.agg (rl a),.agg (rl b)] [.agg (rl (MR a b))]:=by
 have h1:U0 (a.num*(b.den:Int))<=33554432:=Qd (Gv _ _) (by have:=ha.1; have:=hb.2; omega);have h2:U0 (b.num*(a.den:Int))<=33554432:=Qd (Gv _ _) (by have:=hb.1; have:=ha.2; omega);have h3:U0 ((a.den:Int)*(b.den:Int))<=33554432:=Qd (Gv _ _) (by have:=ha.2; have:=hb.2; omega);have h5:U0 (a.num*(b.den:Int)-b.num*(a.den:Int))<=33554433:=Qd (AT _ _) (by omega);have h0:(a.den:Int)*(b.den:Int)≠0:=by
  have:=Int.mul_pos (Qgw a) (Qgw b); omega
 exact W3 func245 rfl [.k (EK ha.s31 hb.s31),.k (aO (Um _) (Um _) (by omega) (by omega)),.k (Ob h0 (by omega) (by omega))] rfl
theorem TS {q r:Rat} (h:lG q=some r):r=q/\Qb q:=by
 unfold lG at h
 split at h
 ·rename_i hc; injection h with h; exact ⟨h.symm,hc⟩
 ·cases h
theorem wY {t u:Tm} (ht:Tb t) (h:AY t=some u):W6 246 [.agg (ta t)] [.agg (ta u)]:=by
 have cp:=Ca ht;unfold AY at h
 split at h
 ·rename_i h1;injection h with h; subst h;exact W3 func246 rfl [.k cp,.t h1] rfl
 ·rename_i h1;have h1:t.point=false:=by simpa using h1
  obtain ⟨m,hm0,h⟩:=Qc.1 h;obtain ⟨rfl,hm⟩:=TS hm0;injection h with h;subst h;have cm:=Qjv ht.lo ht.hi;have cc:=Be ht hm;by_cases h2:Uz t (mid t.lo t.hi)=0
  ·rw [if_pos h2];exact W3 func246 rfl [.k cp,.f h1,.k cm,.k cc,.t (by simpa using h2)] rfl
  rw [if_neg h2];by_cases h3:Uz t (mid t.lo t.hi)=-1
  ·rw [if_pos h3];exact W3 func246 rfl [.k cp,.f h1,.k cm,.k cc,.f (by simpa using h2),.t (by simpa using h3)] rfl
  ·rw [if_neg h3];exact W3 func246 rfl [.k cp,.f h1,.k cm,.k cc,.f (by simpa using h2),.f (by simpa using h3)] rfl
theorem OY {t u:Tm} (ht:Tb t) (h:AY t=some u):Tb u:=by
 unfold AY at h
 split at h
 ·injection h with h; subst h; exact ht
 ·obtain ⟨m,hm0,h⟩:=Qc.1 h;obtain ⟨rfl,hm⟩:=TS hm0;injection h with h;subst h
  repeat' split
  ·exact ⟨ht.p,hm,hm⟩
  ·exact ⟨ht.p,ht.lo,hm⟩
  ·exact ⟨ht.p,hm,ht.hi⟩
theorem Ia {z:Int} (h:U0 z<=4294967296):W6 191 [.one (mg z)] [.oi (U0 z:Int)]:=by
 have h1:=kO (l:=U9 z.natAbs) (Cw _) (by rw [Gd]; exact h);rw [Gd] at h1; exact h1
theorem MK {p:W9} {i:Nat} {z:Int} (h:p[i]? = some z):Ge (p.take (i+1))=max (Ge (p.take i)) (U0 z):=by
 unfold Ge; rw [List.take_succ,h,Option.toList_some,List.foldl_append]; rfl
theorem Sw {p:W9} {s:Nat} (h:Bd s p):∀ i,Ge (p.take i)<=s
 | 0=>by simp [Ge]
 |
  i+1=>by
  cases hz:p[i]? with
  |
   none =>
   rw [Qw (by have:=Jh.1 hz; omega),<-Qw (l:=p) (i:=i) (by have:=Jh.1 hz; omega)];exact Sw h i
  | some z=>rw [MK hz]; have:=Sw h i; have:=eZ h hz; omega
theorem EG {p:W9} (hp:Pb p):W6 276 [pr p] [.oi (Ge p:Int)]:=by
 have hl:=hp.l;refine Fl func276 rfl ?_;refine Wy [] rfl ?_;refine W5 (S:=Nat) 0 (λL1 i=>(8,.v (.oi i))::(3,.v (.oi (Ge (p.take i):Int)))::L1) (λ_=>[]) (λi=>p.length-i) (λi=>i<=p.length) 0 (Qi _) rfl rfl λi hi=>?_
 by_cases hlt:i<p.length
 ·have hg:=Hz hlt;have hz:=Ft hp.b i;have hs:=MK hg;refine Wz [.t (by simp; omega),.x (Si hg),.k (Ia (by omega)),.r 16 (eI (b:=(Ge (p.take (i+1)):Int)) (by rw [hs]; omega))] rfl ?_;exact rd (i+1) (by omega) hlt rfl
 ·obtain rfl:i=p.length:=by omega
  rw [Q5];exact W0 [.f (by simp)] rfl
theorem Qgj {a:Tm} {b:Tm} (ha:Tb a) (hb:Tb b):W6 244 [.agg (ta a),.agg (ta b)] [.oi (Sj a b:Nat)]:=by
 have l1:=ha.p.l;have l2:=hb.p.l;have b1:=ha.lo.1;have b2:=ha.hi.1;have b3:=hb.lo.1;have b4:=hb.hi.1;have s1:Ge a.p<=16777216:=by have:=Sw ha.p.b a.p.length; rwa [Q5] at this
 have s2:Ge b.p<=16777216:=by have:=Sw hb.p.b b.p.length; rwa [Q5] at this
 obtain ⟨N,hN⟩:=nmE (4*(a.p.length+b.p.length));obtain ⟨S,hS⟩:=nmE (Ge a.p+Ge b.p+(a.p.length+b.p.length)+8);have hNS:N*S<=512*33554568:=Zk (by omega) (by omega);have h0:(N:Int)*(S:Int)=((N*S:Nat):Int):=(Int.natCast_mul _ _).symm;have hst:Sj a b=64+2*(U0 a.lo.num+U0 a.hi.num+U0 b.lo.num+U0 b.hi.num)+N*S:=by rw [hN,hS]; rfl
 rw [hst];exact W3 func244 rfl [.k (Ia (z:=a.lo.num) (by omega)),.k (Ia (z:=a.hi.num) (by omega)),.k (Ia (z:=b.lo.num) (by omega)),.k (Ia (z:=b.hi.num) (by omega)),.r 41 (eI (b:=(N:Int)) (by rw [hN]; simp)),.k (EG ha.p),.k (EG hb.p),.r 51 (eI (b:=(S:Int)) (by rw [hS]; simp)),.r 52 (eI (b:=((N*S:Nat):Int)) h0)] rfl (by simp) (by rw [h0]; simp [Ul]; omega)
def gR (p:W9) (a:Tm):Nat:=64+2*(U0 a.lo.num+U0 a.hi.num)+4*(a.p.length+p.length)*(Ge a.p+Ge p+(a.p.length+p.length)+8)
theorem rC:W6 191 [lr []] [.oi 0]:=kO (l:=[]) (by simp [Sm]) (by decide)
theorem iM {a:Tm} {p:W9} (ha:Tb a) (hp:Pb p):W6 244 [.agg (ta a),.agg ([pl p,.bool false,.row [],.bool false,.row [],.bool false,.row [],.bool false,.row []])] [.oi (gR p a:Nat)]:=by
 have l1:=ha.p.l;have l2:=hp.l;have b1:=ha.lo.1;have b2:=ha.hi.1;have s1:Ge a.p<=16777216:=by have:=Sw ha.p.b a.p.length; rwa [Q5] at this
 have s2:Ge p<=16777216:=by have:=Sw hp.b p.length; rwa [Q5] at this
 obtain ⟨N,hN⟩:=nmE (4*(a.p.length+p.length));obtain ⟨S,hS⟩:=nmE (Ge a.p+Ge p+(a.p.length+p.length)+8);have hNS:N*S<=512*33554568:=Zk (by omega) (by omega);have h0:(N:Int)*(S:Int)=((N*S:Nat):Int):=(Int.natCast_mul _ _).symm;have hst:gR p a=64+2*(U0 a.lo.num+U0 a.hi.num)+N*S:=by rw [hN,hS]; rfl
 rw [hst];exact W3 func244 rfl [.k (Ia (z:=a.lo.num) (by omega)),.k (Ia (z:=a.hi.num) (by omega)),.k rC,.k rC,.r 41 (eI (b:=(N:Int)) (by rw [hN]; simp)),.k (EG ha.p),.k (EG hp),.r 51 (eI (b:=(S:Int)) (by rw [hS]; simp)),.r 52 (eI (b:=((N*S:Nat):Int)) h0)] rfl (by simp) (by rw [h0]; simp [Ul]; omega)
def ZI (sg:W9->Int) (l:Ua) (i:Nat):Nat×Int:=(l.take i).foldl (Tw sg) (0,0)
theorem OU {sg:W9->Int} (hs:∀ p,-1<=sg p/\sg p<=1) (l:Ua):∀ i,(ZI sg l i).1<=i/\-1<=(ZI sg l i).2/\(ZI sg l i).2<=1
 | 0=>⟨Qn _,show (-1:Int)<=0 by decide,show (0:Int)<=1 by decide⟩
 |
  i+1=>by
  obtain ⟨h1,h2,h3⟩:=OU hs l i;cases h:l[i]? with
  |
   none =>
   have:ZI sg l (i+1)=ZI sg l i:=by unfold ZI; rw [List.take_of_length_le (by have:=List.getElem?_eq_none_iff.1 h; omega),List.take_of_length_le (List.getElem?_eq_none_iff.1 h)]
   rw [this]; omega
  |
   some p =>
   have:ZI sg l (i+1)=Tw sg (ZI sg l i) p:=Rm _ _ _ h;rw [this];have:=hs p;unfold Tw
   split
   ·omega
   ·dsimp only; split <;> omega
theorem Qgm {l:Ua} {fid:Nat} {l1:Ue} {sg:W9->Int} (hl:l.length≤1000) (hs:∀ p,-1≤sg p/\sg p≤1) (h:∀ p∈l,NX prog fid [pr p,.one (.sh l1)] [.oi (sg p)]):W6 305 [.one (.sh [.row (Tn l)]),.one (.fn fid [] [.sh l1])] [.oi (No sg l:Nat)]:=by
 have hpl:=D9 l;refine Fl func305 rfl ?_;refine Wy [] rfl ?_;refine W5 (S:=Nat) 0 (λL1 i=>(15,.v (.oi i))::(5,.v (.oi ((ZI sg l i).1:Int)))::(6,.v (.one (.int .i64 (ZI sg l i).2)))::L1) (λ_=>[]) (λi=>l.length-i) (λi=>i<=l.length) 0 (Qi _) rfl rfl λi hi=>?_
 by_cases hlt:i<l.length
 ·obtain ⟨p,hp⟩:=gxE (l:=l) (i:=i) hlt;have hst:ZI sg l (i+1)=Tw sg (ZI sg l i) p:=Rm _ _ _ hp;obtain ⟨b1,b2,b3⟩:=OU hs l i;have b4:=hs p;by_cases h0:sg p=0
  ·refine Wz [.t (by simp [hpl]; omega),.x (Hh hp),.k (h p (Qa hp)),.t (by simpa using h0)] rfl ?_;exact rd (i+1) (by omega) hlt (by rw [hst,show Tw sg (ZI sg l i) p=ZI sg l i from by unfold Tw; rw [if_pos h0]]; rfl)
  ·by_cases h1:(ZI sg l i).2=-(sg p)
   ·refine Wz [.t (by simp [hpl]; omega),.x (Hh hp),.k (h p (Qa hp)),.f (by simpa using h0),.t (by simpa using h1)] rfl ?_;exact rd (i+1) (by omega) hlt (by rw [hst,show Tw sg (ZI sg l i) p=((ZI sg l i).1+1,sg p) from by unfold Tw; rw [if_neg h0,if_pos h1]]; rfl)
   ·refine Wz [.t (by simp [hpl]; omega),.x (Hh hp),.k (h p (Qa hp)),.f (by simpa using h0),.f (by simpa using h1)] rfl ?_;exact rd (i+1) (by omega) hlt (by rw [hst,show Tw sg (ZI sg l i) p=((ZI sg l i).1,sg p) from by unfold Tw; rw [if_neg h0,if_neg h1]]; rfl)
 ·obtain rfl:i=l.length:=by omega
  refine W0 [.f (by simp [hpl])] rfl ?_ trivial;unfold ZI No; rw [List.take_length]
theorem aA {p:W9} {q:Rat} (hp:Pb p) (hq:Qb q):W6 306 [pr p,.one (.sh (rl q))] [.oi (Ha p q)]:=W3 func306 rfl [.k (GX hp hq)] rfl
theorem tQ {l:Ua} {q:Rat} (hl:l.length≤1000) (hp:∀ p∈l,Pb p) (hq:Qb q):W6 284 [.one (.sh [.row (Tn l)]),.agg (rl q)] [.oi (Np l q:Nat)] :=
 W3 func284 rfl [.k (Qgm (fid:=306) (l1:=rl q) (sg:=λp=>Ha p q) hl (λp=>Au p q) λp h=>aA (hp p h) hq)] rfl
theorem Cy {sg:W9->Int} (hs:∀ p,-1<=sg p/\sg p<=1) (l:Ua):No sg l<=l.length:=by
 have:=(OU hs l l.length).1;unfold ZI at this; rwa [List.take_length] at this
theorem BQ {l:Ua} {lo hi:Rat} (hl:l.length≤1000) (hp:∀ p∈l,Pb p) (ql:Qb lo) (qh:Qb hi):W6 254 [.one (.sh [.row (Tn l)]),.agg (rl lo),.agg (rl hi)] [.oi (H8 l lo hi)]:=by
 have b1:Np l lo<=l.length:=Cy (λp=>Au p lo) l;have b2:Np l hi<=l.length:=Cy (λp=>Au p hi) l;have c1:=Bf qh.s31 ql.s31;unfold H8;by_cases h:Gm hi lo<0
 ·rw [if_pos h];exact W3 func254 rfl [.k c1,.t (by simpa using h)] rfl
 ·rw [if_neg h];exact W3 func254 rfl [.k c1,.f (by simpa using h),.k (tQ hl hp ql),.k (tQ hl hp qh)] rfl rfl (by simp [Ul]; omega)
def zTm:Ue:=[.nils,.bool false,.nils,.bool false,.nils,.bool false,.nils,.bool false,.nils]
theorem dA {a b:Tm} (ha:Tb a) (hb:Tb b):Sj a b<=17179938816+200000000:=by
 have l1:=ha.p.l;have l2:=hb.p.l;have b1:=ha.lo.1;have b2:=ha.hi.1;have b3:=hb.lo.1;have b4:=hb.hi.1;have s1:Ge a.p<=16777216:=by have:=Sw ha.p.b a.p.length; rwa [Q5] at this
 have s2:Ge b.p<=16777216:=by have:=Sw hb.p.b b.p.length; rwa [Q5] at this
 have:4*(a.p.length+b.p.length)*(Ge a.p+Ge b.p+(a.p.length+b.p.length)+8)<=512*33554568:=Zk (by omega) (by omega);unfold Sj; omega
theorem Qig {a b:Rat} (ha:Qb a) (hb:Qb b):Qs 2147483647 (MR a b):=by
 have h1:U0 (a.num*(b.den:Int))<=33554432:=Qd (Gv _ _) (by have:=ha.1; have:=hb.2; omega);have h2:U0 (b.num*(a.den:Int))<=33554432:=Qd (Gv _ _) (by have:=hb.1; have:=ha.2; omega);have h3:U0 ((a.den:Int)*(b.den:Int))<=33554432:=Qd (Gv _ _) (by have:=ha.2; have:=hb.2; omega);have h5:U0 (a.num*(b.den:Int)-b.num*(a.den:Int))<=33554433:=Qd (AT _ _) (by omega);exact (Qs.divInt (s:=33554433) h5 (by omega) (by omega)).mono (by omega)
theorem EY {a b:Tm} {r:Tm×Tm×Int} (ha:Tb a) (hb:Tb b) (h:NY (Sj a b) a b=some r):W6 202 [.agg (ta a),.agg (ta b)] [.agg (ta r.1),.agg (ta r.2.1),.oi r.2.2]:=by
 have hsb:=dA ha hb;refine Fl func202 rfl ?_;refine Wy [.k (Qgj ha hb)] rfl ?_;obtain ⟨n,hn⟩:=nmE (Sj a b);rw [<-hn] at h hsb ⊢;refine sb [(10,.v (.oi 0)),(9,.v (.oi n)),(5,.v (.one (.ow 3 0))),(4,.v (.one (.ow 2 0))),(3,.v (.one (.ow 1 0))),(2,.v (.one (.ow 0 0)))] [.blk 189 (ta a),.blk 189 (ta b),.blk 189 zTm,.blk 189 zTm] rfl rfl ?_;refine W5 (S:=Nat×Tm×Tm) 4 (λL1 s=>(10,.v (.oi (s.1:Int)))::L1) (λs=>[.blk 189 (ta s.2.1),.blk 189 (ta s.2.2),.blk 189 zTm,.blk 189 zTm]) (λs=>n-s.1) (λs=>s.1<=n/\Tb s.2.1/\Tb s.2.2/\NY (n-s.1) s.2.1 s.2.2=some r) (0,a,b) ⟨Qi _,ha,hb,h⟩ rfl rfl λ⟨i,u,v⟩ ⟨j1,j2,j3,j4⟩=>?_
 dsimp only at j1 j2 j3 j4 ⊢;by_cases hi:i<n
 ·obtain ⟨k,hk⟩:∃ k,n-i=k+1:=⟨n-i-1,by omega⟩;have hk':n-(i+1)=k:=by omega
  rw [hk] at j4;have c1:=Bf j2.hi.s31 j3.lo.s31;have c2:=Bf j3.hi.s31 j2.lo.s31;have pu:=Ca j2;have pv:=Ca j3;have hlt:decide ((i:Int)<(n:Int))=true:=by simp; omega
  simp only [NY] at j4;refine Wy [.t hlt] rfl ?_;refine ct 3 (S:=Unit) (λ_=>[(10,.v (.oi i)),(9,.v (.oi n)),(5,.v (.one (.ow 3 0))),(4,.v (.one (.ow 2 0))),(3,.v (.one (.ow 1 0))),(2,.v (.one (.ow 0 0)))]) (λ_=>[.blk 189 (ta u),.blk 189 (ta v),.blk 189 zTm,.blk 189 zTm]) (λ_=>¬B9 u v=true/\¬B9 v u=true) rfl ?_ ?_
  ·have bA:B9 u v=(decide (Gm u.hi v.lo<=0) && !(u.point && v.point && decide (Gm u.hi v.lo=0))):=by
    unfold B9; cases u.point <;> cases v.point <;> simp
   have bB:B9 v u=(decide (Gm v.hi u.lo<=0) && !(u.point && v.point && decide (Gm v.hi u.lo=0))):=by
    unfold B9; cases u.point <;> cases v.point <;> simp
   obtain ⟨a0,A'⟩:∃ b,decide (Gm u.hi v.lo<=0)=b:=⟨_,rfl⟩;obtain ⟨b0,B'⟩:∃ b,decide (Gm v.hi u.lo<=0)=b:=⟨_,rfl⟩;obtain ⟨p0,P'⟩:∃ b,u.point=b:=⟨_,rfl⟩;obtain ⟨q0,Q'⟩:∃ b,v.point=b:=⟨_,rfl⟩;obtain ⟨x0,X'⟩:∃ b,decide (Gm u.hi v.lo=0)=b:=⟨_,rfl⟩;obtain ⟨y0,Y'⟩:∃ b,decide (Gm v.hi u.lo=0)=b:=⟨_,rfl⟩;rw [A',P',Q',X'] at bA;rw [B',P',Q',Y'] at bB;have r1:B9 u v=true->(u,v,-1)=r:=λh=>by rw [if_pos h] at j4; injection j4
   have r2:¬B9 u v=true->B9 v u=true->(u,v,1)=r:=λh h'=>by rw [if_neg h,if_pos h'] at j4; injection j4
   clear j4;cases a0
   ·cases b0
    ·exact go tt [.k c1,.g 19 false A',.f rfl,.k c2,.g 45 false B',.f rfl] rfl trivial (rc () ⟨by rw [bA]; simp,by rw [bB]; simp⟩ rfl)
    ·cases p0
     ·obtain rfl:=r2 (by rw [bA]; simp) (by rw [bB]; rfl);exact W0 [.k c1,.g 19 false A',.f rfl,.k c2,.g 45 true B',.k pu,.g 48 false P',.g 52 false rfl,.t rfl] rfl
     ·cases q0
      ·obtain rfl:=r2 (by rw [bA]; simp) (by rw [bB]; rfl);exact W0 [.k c1,.g 19 false A',.f rfl,.k c2,.g 45 true B',.k pu,.g 48 true P',.k pv,.g 52 false Q',.t rfl] rfl
      ·cases y0
       ·obtain rfl:=r2 (by rw [bA]; simp) (by rw [bB]; rfl);exact W0 [.k c1,.g 19 false A',.f rfl,.k c2,.g 45 true B',.k pu,.g 48 true P',.k pv,.g 52 true Q',.k c2,.t (by simpa using Y')] rfl
       ·exact go tt [.k c1,.g 19 false A',.f rfl,.k c2,.g 45 true B',.k pu,.g 48 true P',.k pv,.g 52 true Q',.k c2,.f (by simpa using Y')] rfl trivial (rc () ⟨by rw [bA]; simp,by rw [bB]; simp⟩ rfl)
   ·cases p0
    ·obtain rfl:=r1 (by rw [bA]; rfl);exact W0 [.k c1,.g 19 true A',.k pu,.g 22 false P',.g 26 false rfl,.t rfl] rfl
    ·cases q0
     ·obtain rfl:=r1 (by rw [bA]; rfl);exact W0 [.k c1,.g 19 true A',.k pu,.g 22 true P',.k pv,.g 26 false Q',.t rfl] rfl
     ·cases x0
      ·obtain rfl:=r1 (by rw [bA]; rfl);exact W0 [.k c1,.g 19 true A',.k pu,.g 22 true P',.k pv,.g 26 true Q',.k c1,.t (by simpa using X')] rfl
      ·cases b0
       ·exact go tt [.k c1,.g 19 true A',.k pu,.g 22 true P',.k pv,.g 26 true Q',.k c1,.f (by simpa using X'),.k c2,.g 45 false B',.f rfl] rfl trivial (rc () ⟨by rw [bA]; simp,by rw [bB]; simp⟩ rfl)
       ·cases y0
        ·obtain rfl:=r2 (by rw [bA]; simp) (by rw [bB]; rfl);exact W0 [.k c1,.g 19 true A',.k pu,.g 22 true P',.k pv,.g 26 true Q',.k c1,.f (by simpa using X'),.k c2,.g 45 true B',.k pu,.g 48 true P',.k pv,.g 52 true Q',.k c2,.t (by simpa using Y')] rfl
        ·exact go tt [.k c1,.g 19 true A',.k pu,.g 22 true P',.k pv,.g 26 true Q',.k c1,.f (by simpa using X'),.k c2,.g 45 true B',.k pu,.g 48 true P',.k pv,.g 52 true Q',.k c2,.f (by simpa using Y')] rfl trivial (rc () ⟨by rw [bA]; simp,by rw [bB]; simp⟩ rfl)
  ·rintro _ ⟨n1,n2⟩
   rw [if_neg n1,if_neg n2] at j4;have qr:∀ {x y:Rat},Qb x->Qb y->Qs 2147483647 (MR x y):=λh1 h2=>Qig h1 h2
   have cc:=Bf (qr j2.hi j2.lo) (qr j3.hi j3.lo);by_cases D:0<=Gm (MR u.hi u.lo) (MR v.hi v.lo)
   ·rw [if_pos D] at j4;obtain ⟨x,x1,x2⟩:=Qc.1 j4;refine Wz [.k (EF j2.hi j2.lo),.k (EF j3.hi j3.lo),.k cc,.t (by simpa using D),.k (wY j2 x1)] rfl ?_;exact rd (i+1,x,v) (by dsimp only; omega) ⟨hi,OY j2 x1,j3,by dsimp only; rw [hk']; exact x2⟩ rfl
   ·rw [if_neg D] at j4;obtain ⟨x,x1,x2⟩:=Qc.1 j4;refine Wz [.k (EF j2.hi j2.lo),.k (EF j3.hi j3.lo),.k cc,.f (by simpa using D),.k (wY j3 x1)] rfl ?_;exact rd (i+1,u,x) (by dsimp only; omega) ⟨hi,j2,OY j3 x1,by dsimp only; rw [hk']; exact x2⟩ rfl
 ·obtain rfl:i=n:=by omega
  rw [Ku] at j4;simp only [NY] at j4;injection j4 with j4; subst j4;exact W0 [.f (by simp)] rfl
theorem Qgi {a b:Rat} (ha:Qb a) (hb:Qb b):W6 64 [.agg (rl a),.one (.row [rl b])] [.agg (rl (if 0<Gm b a then b else a))]:=by
 have ca:=GL (Um a.num) (Um (a.den:Int)) ha.s32.1 ha.s32.2;have cb:=GL (Um b.num) (Um (b.den:Int)) hb.s32.1 hb.s32.2;rw [Sl] at ca cb;have cc:=Bf hb.s31 ha.s31;refine Fl func64 rfl ?_;refine Wy [.k ca] rfl ?_;refine W5 (S:=Nat) 3 (λL1 i=>(12,.v (.oi i))::L1) (λi=>[.blk 43 (rl a),.blk 43 [.bool false,.nils,.bool false,.nils],.blk 43 (rl (if i=0 then a else if 0<Gm b a then b else a))]) (λi=>1-i) (λi=>i<=1) 0 (Qi _) rfl rfl λi hi=>?_
 rcases (show i=0\/i=1 by omega) with rfl | rfl
 ·by_cases h:0<Gm b a
  ·refine Wy [.t rfl,.x (i:=0) (xs:=rl b) rfl,.k cc,.t (by simpa using h),.k cb] rfl ?_ (by simp [Ul]);exact rd 1 (by omega) (by omega) (by rw [if_pos h]; rfl)
  ·refine Wy [.t rfl,.x (i:=0) (xs:=rl b) rfl,.k cc,.f (by simpa using h)] rfl ?_ (by simp [Ul]);exact rd 1 (by omega) (by omega) (by rw [if_neg h]; rfl)
 ·exact W0 [.f rfl] rfl
theorem XT {a b:Tm} {c:Int} (ha:Tb a) (hb:Tb b) (h:YT a b=some c):W6 162 [.agg (ta a),.agg (ta b)] [.oi c]:=by
 have ca:=GE ha;have cb:=GE hb;have pa:=Ca ha;have pb:=Ca hb;unfold YT at h;by_cases h1:a.point=true
 ·rw [if_pos h1] at h;injection h with h; subst h;have:=Qgp b a.lo;exact W3 func162 rfl [.k ca,.k cb,.k pa,.t h1,.k (Be hb ha.lo)] rfl rfl (by simp [Ul]; omega)
 rw [if_neg h1] at h;have h1:a.point=false:=by simpa using h1
 by_cases h2:b.point=true
 ·rw [if_pos h2] at h;injection h with h; subst h;exact W3 func162 rfl [.k ca,.k cb,.k pa,.f h1,.k pb,.t h2,.k (Be ha hb.lo)] rfl
 rw [if_neg h2] at h;have h2:b.point=false:=by simpa using h2
 obtain ⟨lo,hlo⟩:=nmE (if 0<Gm b.lo a.lo then b.lo else a.lo);obtain ⟨hi,hhi⟩:=nmE (if Gm b.hi a.hi<0 then b.hi else a.hi);have h:(if Gm lo hi<0 then (IU a.p b.p).bind λg=>if 1<g.length/\YI g lo hi=true then some 0 else (NY (Sj a b) a b).bind λr=>some r.2.2 else (NY (Sj a b) a b).bind λr=>some r.2.2)=some c:=by rw [hlo,hhi]; exact h
 have qlo:Qb lo:=by rw [hlo]; split; exact hb.lo; exact ha.lo
 have qhi:Qb hi:=by rw [hhi]; split; exact hb.hi; exact ha.hi
 have cm:=Qgi ha.lo hb.lo;rw [<-hlo] at cm;have cc1:=Bf hb.hi.s31 ha.hi.s31;have cc2:=Bf qlo.s31 qhi.s31;refine Fl func162 rfl ?_;refine Wy [.k ca,.k cb,.k pa,.f h1,.k pb,.f h2,.k cm] rfl ?_;refine ct 2 (S:=Unit) (λ_=>[(6,.v (.one (.ow 3 0))),(5,.v (.one (.ow 2 0))),(4,.v (.oi 0)),(3,.v (.one (.ow 1 0))),(2,.v (.one (.ow 0 0)))]) (λ_=>[.blk 189 (ta a),.blk 189 (ta b),.blk 43 (rl lo),.blk 43 (rl hi)]) (λ_=>True) rfl ?_ ?_
 ·by_cases D:Gm b.hi a.hi<0
  ·rw [if_pos D] at hhi; subst hhi;exact go tt [.k cc1,.t (by simpa using D)] rfl trivial (rc () trivial rfl)
  ·rw [if_neg D] at hhi; subst hhi;exact go tt [.k cc1,.f (by simpa using D)] rfl trivial (rc () trivial rfl)
 ·rintro _ _
  by_cases D:Gm lo hi<0
  ·rw [if_pos D] at h;obtain ⟨g,g1,h⟩:=Qc.1 h;have cg:=aV ha.p hb.p g1;have pg:=Qco ha.p hb.p g1;have ch:=iV pg qlo qhi;by_cases G:1<g.length
   ·by_cases R:YI g lo hi=true
    ·rw [if_pos ⟨G,R⟩] at h;injection h with h; subst h;exact W0 [.k cc2,.t (by simpa using D),.k cg,.k (Pf g),.g 58 true (by simp; omega),.k ch,.t R] rfl
    ·rw [if_neg λh=>R h.2] at h;obtain ⟨r,r1,h⟩:=Qc.1 h;injection h with h; subst h;exact W0 [.k cc2,.t (by simpa using D),.k cg,.k (Pf g),.g 58 true (by simp; omega),.k ch,.f (by simpa using R),.k (EY ha hb r1)] rfl
   ·rw [if_neg λh=>G h.1] at h;obtain ⟨r,r1,h⟩:=Qc.1 h;injection h with h; subst h;exact W0 [.k cc2,.t (by simpa using D),.k cg,.k (Pf g),.g 58 false (by simp; omega),.f rfl,.k (EY ha hb r1)] rfl
  ·rw [if_neg D] at h;obtain ⟨r,r1,h⟩:=Qc.1 h;injection h with h; subst h;exact W0 [.k cc2,.f (by simpa using D),.k (EY ha hb r1)] rfl
theorem Qfj {p:W9} {a:Tm} {s:Int} (hp:Pb p) (ha:Tb a) (h:KX p a=some s):W6 214 [pr p,.agg (ta a)] [.oi s]:=by
 have ca:=GE ha;have pa:=Ca ha;have cn:=G0 hp.t hp.ln hp.bd;unfold KX at h;by_cases h0:p.length=0
 ·rw [if_pos h0] at h;injection h with h; subst h;exact W3 func214 rfl [.k cn,.k ca,.t (by simp; exact Qh h0)] rfl
 rw [if_neg h0] at h;have h0:p≠[]:=λe=>h0 (by rw [e]; rfl)
 by_cases h1:a.point=true
 ·rw [if_pos h1] at h;injection h with h; subst h;exact W3 func214 rfl [.k cn,.k ca,.f (by simpa using h0),.k pa,.t h1,.k (GX hp ha.lo)] rfl
 rw [if_neg h1] at h;have h1:a.point=false:=by simpa using h1
 obtain ⟨g,g1,h⟩:=Qc.1 h;have cg:=aV hp ha.p g1;have pg:=Qco hp ha.p g1;have ch:=iV pg ha.lo ha.hi;by_cases G:1<g.length/\YI g a.lo a.hi=true
 ·rw [if_pos G] at h;injection h with h; subst h;exact W3 func214 rfl [.k cn,.k ca,.f (by simpa using h0),.k pa,.f h1,.k cg,.k (Pf g),.g 29 true (by simp; omega),.k ch,.t G.2] rfl
 rw [if_neg G] at h;obtain ⟨c,c1,h⟩:=Qc.1 h;obtain ⟨u,u1,h⟩:=Qc.1 h;injection h with h; subst h;obtain ⟨cl,call⟩:=chain_ok hp c1;obtain ⟨n,hn⟩:=nmE (64+2*(U0 a.lo.num+U0 a.hi.num)+4*(a.p.length+p.length)*(Ge a.p+Ge p+(a.p.length+p.length)+8));have cst:=iM ha hp;rw [show gR p a=n from hn.symm] at cst;rw [<-hn] at u1;have hnb:n<=17179938816+200000000:=by
  have l1:=ha.p.l;have l2:=hp.l;have b1:=ha.lo.1;have b2:=ha.hi.1;have s1:Ge a.p<=16777216:=by have:=Sw ha.p.b a.p.length; rwa [Q5] at this
  have s2:Ge p<=16777216:=by have:=Sw hp.b p.length; rwa [Q5] at this
  have:4*(a.p.length+p.length)*(Ge a.p+Ge p+(a.p.length+p.length)+8)<=512*33554568:=Zk (by omega) (by omega);omega
 refine Fl func214 rfl ?_;refine Wy [.k cn,.k ca,.f (by simpa using h0),.k pa,.f h1,.k cg] rfl ?_;refine ct 2 (S:=Unit) (λ_=>[(3,.v (.one (.ow 0 0))),(0,.v (pr p))]) (λ_=>[.blk 189 (ta a)]) (λ_=>True) rfl ?_ ?_
 ·by_cases G1:1<g.length
  ·exact go tt [.k (Pf g),.g 29 true (by simp; omega),.k ch,.f (by simpa using λh=>G ⟨G1,h⟩)] rfl trivial (rc () trivial rfl)
  ·exact go tt [.k (Pf g),.g 29 false (by simp; omega),.f rfl] rfl trivial (rc () trivial rfl)
 rintro _ _
 refine Wy [.k (aS hp c1),.k cst] rfl ?_;refine W5 (S:=Nat×Tm) 1 (λL1 s=>(46,.v (.oi (s.1:Int)))::L1) (λs=>[.blk 189 (ta s.2)]) (λs=>n-s.1) (λs=>s.1<=n/\Tb s.2/\sgF c (n-s.1) s.2=some u) (0,a) ⟨Qi _,ha,u1⟩ rfl rfl λ⟨i,x⟩ ⟨j1,j2,j3⟩=>?_
 dsimp only at j1 j2 j3 ⊢;by_cases hi:i<n
 ·obtain ⟨k,hk⟩:∃ k,n-i=k+1:=⟨n-i-1,by omega⟩;have hk':n-(i+1)=k:=by omega
  rw [hk] at j3;simp only [sgF] at j3;have px:=Ca j2;have cb:=BQ (by omega) call j2.lo j2.hi;have hlt:decide ((i:Int)<(n:Int))=true:=by simp; omega
  by_cases X:x.point=true
  ·rw [if_pos (.inl X)] at j3;injection j3 with j3; subst j3;exact W0 [.t hlt,.k px,.g 50 true X,.t rfl,.k (GX hp j2.hi)] rfl
  ·have X':x.point=false:=by simpa using X
   by_cases Z:H8 c x.lo x.hi=0
   ·rw [if_pos (.inr Z)] at j3;injection j3 with j3; subst j3;exact W0 [.t hlt,.k px,.g 50 false X',.k cb,.t (by simpa using Z),.k (GX hp j2.hi)] rfl
   ·rw [if_neg (by rintro (h | h); exact X h; exact Z h)] at j3;obtain ⟨v,v1,v2⟩:=Qc.1 j3;refine Wz [.t hlt,.k px,.g 50 false X',.k cb,.f (by simpa using Z),.k (wY j2 v1)] rfl ?_;exact rd (i+1,v) (by dsimp only; omega) ⟨hi,OY j2 v1,by dsimp only; rw [hk']; exact v2⟩ rfl
 ·obtain rfl:i=n:=by omega
  rw [Ku] at j3;simp only [sgF] at j3;injection j3 with j3; subst j3;exact W0 [.f (by simp),.k (GX hp j2.hi)] rfl
abbrev tas (l:List Tm):LV:=.row (l.map λt=>ta t)
theorem RZ {l:List Tm} {i:Nat} {t:Tm} (h:l[i]? = some t):(l.map λt=>ta t)[i]? = some (ta t):=Hj h
def zTr:Ue:=[.row [],.bool false,.row [],.bool false,.row [],.bool false,.row [],.bool false,.row []]
theorem qR:W6 196 [.one (.row [])] [.agg zTr,.one (.bool false)]:=W3 func196 rfl [.t rfl] rfl
theorem Tk {b:Tm} {l:List Tm} {m:Tm} (hb:Tb b) (hl:∀ t∈l,Tb t) (hn:l.length≤1000000) (h:Il b l=some m):W6 196 [.one (tas (b::l))] [.agg (ta m),.one (.bool true)]:=by
 refine Fl func196 rfl ?_;refine go tt [.f (by simp; omega),.x (i:=0) (xs:=ta b) rfl,.i 1] rfl (by simp [Ul]; exact ⟨rfl,λ_ _=>rfl⟩) ?_;refine W5 (S:=Nat×Tm) 2 (λL1 s=>(17,.v (.oi (s.1:Int)))::L1) (λs=>[.blk 189 zTm,.blk 189 (ta s.2)]) (λs=>l.length-s.1) (λs=>s.1<=l.length/\Tb s.2/\Il s.2 (l.drop s.1)=some m) (0,b) ⟨Qi _,hb,h⟩ rfl rfl λ⟨i,x⟩ ⟨j1,j2,j3⟩=>?_
 dsimp only at j1 j2 j3 ⊢;by_cases hi:i<l.length
 ·obtain ⟨a,ha⟩:=gxE (l:=l) (i:=i) hi;have hdr:l.drop i=a::l.drop (i+1):=by
   rw [Zz hi]; congr 1;have:=Qe hi; rw [ha] at this; injection this with this; exact this.symm
  rw [hdr] at j3;simp only [Il] at j3;obtain ⟨c,c1,j3⟩:=Qc.1 j3;have ta':=hl a (Qa ha);by_cases hc:c<0
  ·rw [if_pos hc] at j3;refine Wz [.t (by simp; omega),.x (RZ ha),.k (XT ta' j2 c1),.t (by simpa using hc)] rfl ?_;exact rd (i+1,a) (by dsimp only; omega) ⟨hi,ta',j3⟩ rfl
  ·rw [if_neg hc] at j3;refine Wz [.t (by simp; omega),.x (RZ ha),.k (XT ta' j2 c1),.f (by simpa using hc)] rfl ?_;exact rd (i+1,x) (by dsimp only; omega) ⟨hi,j2,j3⟩ rfl
 ·obtain rfl:i=l.length:=by omega
  rw [Yz] at j3;simp only [Il] at j3;injection j3 with j3; subst j3;exact W0 [.f (by simp),.k (iC j2)] rfl
end Orr
namespace Orq
def Uw (x:Rat):Rat:=if x<0 then -x else x
theorem Gz (x:Rat):0<=Uw x:=by unfold Uw; split <;> grind
theorem Sx {x b:Rat}:Uw x<=b↔-b<=x/\x<=b:=by unfold Uw; split <;> constructor <;> grind
theorem IN {x b:Rat}:Uw x<b↔-b<x/\x<b:=by unfold Uw; split <;> constructor <;> grind
theorem Rt (x y:Rat):Uw (x+y)<=Uw x+Uw y:=by unfold Uw; split <;> split <;> split <;> grind
theorem mA (x y:Rat):Uw (x-y)=Uw (y-x):=by unfold Uw; split <;> split <;> grind
theorem Dy (x:Rat):Uw (-x)=Uw x:=by unfold Uw; split <;> split <;> grind
theorem He:Uw 0=0:=by decide
theorem Nj {x:Rat} (h:x≠0):0<Uw x:=by unfold Uw; split <;> grind
theorem Qif {x:Rat} (h:Uw x=0):x=0:=by unfold Uw at h; split at h <;> grind
theorem Me {x y:Rat} (h1:0<=x) (h2:0<=y):0<=x*y:=Vj h1 h2
theorem Ev {x y:Rat} (h1:0<x) (h2:0<y):0<x*y:=Xo h1 h2
theorem Nc {a b c d:Rat} (h0:0<=a) (h1:a<=b) (h2:0<=c) (h3:c<=d):a*c<=b*d:=by
 have e1:=Q9 h1 h2;have e2:=Zv h3 (Zg h0 h1);exact Zg e1 e2
theorem Ek (x y:Rat):Uw (x*y)=Uw x*Uw y:=by
 unfold Uw;by_cases h1:x<0 <;> by_cases h2:y<0
 ·have:=Ev (x:=-x) (y:=-y) (by grind) (by grind); simp only [h1,h2,if_true]; split <;> grind
 ·have:=Me (x:=-x) (y:=y) (by grind) (by grind); simp only [h1,h2,if_true,if_false]; split <;> grind
 ·have:=Me (x:=x) (y:=-y) (by grind) (by grind); simp only [h1,h2,if_true,if_false]; split <;> grind
 ·have:=Me (x:=x) (y:=y) (by grind) (by grind); simp only [h1,h2,if_false]; split <;> grind
theorem Gh {x y a b:Rat} (h1:Uw x<=a) (h2:Uw y<=b):Uw (x*y)<=a*b:=by
 rw [Ek]; exact Nc (Gz x) h1 (Gz y) h2
theorem Lh {x y:Rat} (h1:0<x) (h2:0<y):0<x / y:=by rw [J1]; exact Ev h1 (Rat.inv_pos.2 h2)
theorem Gi {x y:Rat} (h2:0<y):x / y*y=x:=Zd (by grind)
theorem Gl {b d:Rat} (hb:0<=b) (hd:0<d):∃ e:Rat,0<e/\e<=1/\e*b<d:=by
 have h1:0<d / (b+1):=Lh hd (by grind);have h2:d / (b+1)*(b+1)=d:=Gi (by grind);rcases Vi (a:=d / (b+1)) (b:=1) with h | h
 ·exact ⟨d / (b+1),h1,h,by
   have:d / (b+1)*(b+1)=d / (b+1)*b+d / (b+1):=by grind
   grind⟩
 ·refine ⟨1,by decide,by decide,?_⟩;have:1*(b+1)<=d / (b+1)*(b+1):=Q9 h (by grind);grind
def ev:Uc->Rat->Rat
 | [],_=>0
 | a::p,t=>a+t*ev p t
def dv:Uc->Rat->Rat
 | [],_=>0
 | _::p,t=>ev p t+t*dv p t
def dq:Uc->Rat->Rat->Rat
 | [],_,_=>0
 | _::p,x,y=>ev p x+y*dq p x y
def dd:Uc->Rat->Rat->Rat
 | [],_,_=>0
 | _::p,x,y=>dq p x y+y*dd p x y
theorem BD (x y:Rat):∀ p,ev p x-ev p y=(x-y)*dq p x y
 | []=>by simp only [ev,dq]; grind
 | a::p=>by have:=BD x y p; simp only [ev,dq]; grind
theorem EB (y:Rat):∀ p,dq p y y=dv p y
 | []=>rfl
 | a::p=>by simp only [dq,dv,EB y p]
theorem Qj7 (x y:Rat):∀ p,dq p x y-dv p y=(x-y)*dd p x y
 | []=>by simp only [dv,dq,dd]; grind
 |
  a::p=>by
  have h1:=Qj7 x y p;have h2:=BD x y p;simp only [dv,dq,dd]; grind
theorem Qka (p:Uc) (x y:Rat):ev p x-ev p y=(x-y)*dv p y+(x-y)*(x-y)*dd p x y:=by
 have h1:=BD x y p;have h2:=Qj7 x y p;grind
def zS (R:Rat):Uc->Rat
 | []=>0
 | a::p=>Uw a+R*zS R p
def NW (R:Rat):Uc->Rat
 | []=>0
 | _::p=>zS R p+R*NW R p
def oS (R:Rat):Uc->Rat
 | []=>0
 | _::p=>NW R p+R*oS R p
theorem Og {R:Rat} (hR:0<=R):∀ p,0<=zS R p
 | []=>by simp only [zS]; grind
 | a::p=>by have:=Me hR (Og hR p); have:=Gz a; simp only [zS]; grind
theorem Pi {R:Rat} (hR:0<=R):∀ p,0<=NW R p
 | []=>by simp only [NW]; grind
 | a::p=>by have:=Me hR (Pi hR p); have:=Og hR p; simp only [NW]; grind
theorem TD {R:Rat} (hR:0<=R):∀ p,0<=oS R p
 | []=>by simp only [oS]; grind
 | a::p=>by have:=Me hR (TD hR p); have:=Pi hR p; simp only [oS]; grind
theorem FK {R x:Rat} (hx:Uw x<=R):∀ p,Uw (ev p x)<=zS R p
 | []=>by simp only [ev,zS,He]; grind
 |
  a::p=>by
  have h1:=Rt a (x*ev p x);have h2:=Gh hx (FK hx p);simp only [ev,zS]; grind
theorem zK {R x y:Rat} (hx:Uw x<=R) (hy:Uw y<=R):∀ p,Uw (dq p x y)<=NW R p
 | []=>by simp only [dq,NW,He]; grind
 |
  a::p=>by
  have h1:=Rt (ev p x) (y*dq p x y);have h2:=Gh hy (zK hx hy p);have h3:=FK hx p;simp only [dq,NW]; grind
theorem oP {R x y:Rat} (hx:Uw x<=R) (hy:Uw y<=R):∀ p,Uw (dd p x y)<=oS R p
 | []=>by simp only [dd,oS,He]; grind
 |
  a::p=>by
  have h1:=Rt (dq p x y) (y*dd p x y);have h2:=Gh hy (oP hx hy p);have h3:=zK hx hy p;simp only [dd,oS]; grind
theorem Qmh {R x y:Rat} (hx:Uw x<=R) (hy:Uw y<=R) (p:Uc):Uw (ev p x-ev p y)<=Uw (x-y)*NW R p:=by
 rw [BD,Ek]; exact Nc (Gz _) Qo (Gz _) (zK hx hy p)
def Ru:Uc->Uc->Uc
 | [],q=>q
 | a::p,[]=>a::p
 | a::p,b::q=>(a+b)::Ru p q
def B7 (c:Rat) (p:Uc):Uc:=p.map (c * ·)
def Gb:Uc->Uc->Uc
 | [],_=>[]
 | a::p,q=>Ru (B7 a q) (0::Gb p q)
def Mg:Uc->Uc
 | []=>[]
 | _::p=>Ru p (0::Mg p)
theorem Fz (t:Rat):∀ p q,ev (Ru p q) t=ev p t+ev q t
 | [],q=>by simp only [Ru,ev]; grind
 | a::p,[]=>by simp only [Ru,ev]; grind
 | a::p,b::q=>by have:=Fz t p q; simp only [Ru,ev]; grind
theorem Fp (c t:Rat):∀ p,ev (B7 c p) t=c*ev p t
 | []=>by simp only [B7,X8,ev]; grind
 | a::p=>by have:=Fp c t p; simp only [B7,Zx,ev] at *; grind
theorem Ut (t:Rat):∀ p q,ev (Gb p q) t=ev p t*ev q t
 | [],q=>by simp only [Gb,ev]; grind
 | a::p,q=>by have:=Ut t p q; simp only [Gb,Fz,Fp,ev]; grind
theorem H9 (t:Rat):∀ p,ev (Mg p) t=dv p t
 | []=>rfl
 | a::p=>by have:=H9 t p; simp only [Mg,Fz,ev,dv]; grind
theorem ED (t:Rat):∀ p q,dv (Ru p q) t=dv p t+dv q t
 | [],q=>by simp only [Ru,dv]; grind
 | a::p,[]=>by simp only [Ru,dv]; grind
 | a::p,b::q=>by have:=ED t p q; have:=Fz t p q; simp only [Ru,dv]; grind
theorem WG (c t:Rat):∀ p,dv (B7 c p) t=c*dv p t
 | []=>by simp only [B7,X8,dv]; grind
 | a::p=>by have:=WG c t p; have:=Fp c t p; simp only [B7,Zx,dv] at *; grind
theorem EL (t:Rat):∀ p q,dv (Gb p q) t=dv p t*ev q t+ev p t*dv q t
 | [],q=>by simp only [Gb,dv,ev]; grind
 | a::p,q=>by have:=EL t p q; have:=Ut t p q; simp only [Gb,ED,WG,dv,ev]; grind
theorem sS:∀ {p:Uc},(∀ x∈p,x=0)->∀ t,ev p t=0
 | [],_,t=>rfl
 |
  a::p,h,t=>by
  have h1:=sS (p:=p) (λx hx=>h x (Qf _ hx)) t;have h2:=h a (Qx ..);simp only [ev,h1,h2]; grind
theorem sF:∀ {p:Uc},(∀ x∈p,x=0)->∀ t,dv p t=0
 | [],_,t=>rfl
 |
  a::p,h,t=>by
  have h0:=λx hx=>h x (Qf _ hx)
  have h1:=sS (p:=p) h0 t;have h2:=sF (p:=p) h0 t;simp only [dv,h1,h2]; grind
theorem JO:∀ {p:Uc},(∀ t,0<t->t<1->ev p t=0)->∀ x∈p,x=0
 | [],_=>λx hx=>by cases hx
 |
  a::p,h=>by
  have ha:a=0:=by
   rcases Classical.em (a=0) with h0 | h0
   ·exact h0
   ·obtain ⟨e,e1,e2,e3⟩:=Gl (Og (R:=1) (by decide) p) (Nj h0);obtain ⟨f,f1,f2,f3⟩:=Gl (b:=1) (d:=e) (by decide) e1;have h1:=h f f1 (by grind);have h2:=FK (R:=1) (x:=f) (by unfold Uw; split <;> grind) p;have h3:=Ek f (ev p f);have h4:Uw f=f:=by unfold Uw; split <;> grind
    have h5:a=-(f*ev p f):=by simp only [ev] at h1; grind
    have h6:Uw a=f*Uw (ev p f):=by rw [h5,Dy,h3,h4]
    have h7:f*Uw (ev p f)<=e*zS 1 p:=Nc (Qq f1) (by grind) (Gz _) h2;grind
  intro x hx;rcases Qk.1 hx with rfl | hx
  ·exact ha
  ·refine JO (p:=p) (λt h1 h2=>?_) x hx;have:=h t h1 h2;simp only [ev,ha] at this;have h3:t*ev p t=0:=by grind
   rcases Yq.1 h3 with h4 | h4
   ·grind
   ·exact h4
theorem Qab {p q:Uc} (h:∀ t,ev p t=ev q t) (t:Rat):dv p t=dv q t:=by
 have h1:=sF (p:=Ru p (B7 (-1) q)) (JO λt _ _=>by rw [Fz,Fp,h t]; grind) t;rw [ED,WG] at h1; grind
def Us (x:Rat):Int:=if x<0 then -1 else if 0<x then 1 else 0
theorem Fj {x:Rat}:Us x=0↔x=0:=by
 unfold Us; constructor
 ·intro h; split at h <;> (try split at h) <;> grind
 ·intro h; subst h; rfl
theorem G5 {x:Rat}:Us x=1↔0<x:=by
 unfold Us; constructor
 ·intro h; split at h <;> (try split at h) <;> grind
 ·intro h; rw [if_neg (by grind),if_pos h]
theorem Tp {x:Rat}:Us x=-1↔x<0:=by
 unfold Us; constructor
 ·intro h; split at h <;> (try split at h) <;> grind
 ·intro h; rw [if_pos h]
theorem U7 (x:Rat):Us x=-1/\x<0\/Us x=0/\x=0\/Us x=1/\0<x:=by
 rcases Vi (a:=x) (b:=0) with h | h
 ·rcases Classical.em (x=0) with h0 | h0
  ·exact .inr (.inl ⟨Fj.2 h0,h0⟩)
  ·exact .inl ⟨Tp.2 (by grind),by grind⟩
 ·rcases Classical.em (x=0) with h0 | h0
  ·exact .inr (.inl ⟨Fj.2 h0,h0⟩)
  ·exact .inr (.inr ⟨G5.2 (by grind),by grind⟩)
theorem Rw (x y:Rat):Us (x*y)=Us x*Us y:=by
 rcases U7 x with ⟨e1,h1⟩ | ⟨e1,h1⟩ | ⟨e1,h1⟩ <;> rcases U7 y with ⟨e2,h2⟩ | ⟨e2,h2⟩ | ⟨e2,h2⟩ <;> rw [e1,e2]
 ·have:=Ev (x:=-x) (y:=-y) (by grind) (by grind); exact G5.2 (by grind)
 ·subst h2; exact Fj.2 (by grind)
 ·have:=Ev (x:=-x) (y:=y) (by grind) (by grind); exact Tp.2 (by grind)
 ·subst h1; exact Fj.2 (by grind)
 ·subst h1; exact Fj.2 (by grind)
 ·subst h1; exact Fj.2 (by grind)
 ·have:=Ev (x:=x) (y:=-y) (by grind) (by grind); exact Tp.2 (by grind)
 ·subst h2; exact Fj.2 (by grind)
 ·exact G5.2 (Ev h1 h2)
theorem Tz {a b d:Rat} (h1:d<=Uw a) (h2:Uw (b-a)<d):Us b=Us a/\Us a≠0:=by
 rw [IN] at h2;rcases U7 a with ⟨e,h⟩ | ⟨e,h⟩ | ⟨e,h⟩
 ·rw [e,Tp]; unfold Uw at h1; rw [if_pos h] at h1; exact ⟨by grind,by decide⟩
 ·subst h; rw [He] at h1; grind
 ·rw [e,G5]; unfold Uw at h1; rw [if_neg (by grind)] at h1; exact ⟨by grind,by decide⟩
def tc (x:Rat):Int->Ud->Nat
 | _,[]=>0
 | s,p::l=>if Us (ev p x)=0 then tc x s l else (if s=-(Us (ev p x)) then 1 else 0)+tc x (Us (ev p x)) l
inductive SCl:List Rat->List Rat->List (List Rat)->Prop
 | base {f g:List Rat} {c:Rat} (hc:c≠0) (hg:∀ t,ev g t=c):SCl f g []
 | step {f g h:List Rat} {l:List (List Rat)} {a b:Rat} {q:List Rat} (ha:0<a) (hb:0<b) (he:∀ t,a*ev f t=ev q t*ev g t-b*ev h t) (hl:SCl g h l):SCl f g (h::l)
theorem Qd9 {x:Rat} {s:Int} {g h:Uc} {l:Ud} (hh:Us (ev h x)=-s) (hs:s≠0):tc x s (g::h::l)=1+tc x (-s) l:=by
 have h3:Us (ev h x)≠0:=by omega
 have hv:s=1\/s=-1:=by rcases U7 (ev h x) with ⟨e,_⟩ | ⟨e,_⟩ | ⟨e,_⟩ <;> omega
 simp only [tc,if_neg h3,hh];rcases U7 (ev g x) with ⟨e,_⟩ | ⟨e,_⟩ | ⟨e,_⟩ <;> rw [e] <;> rcases hv with rfl | rfl <;> simp
theorem KW {x:Rat} {s:Int} {p:Uc} {l:Ud} (h:Us (ev p x)≠0):tc x s (p::l)=(if s=-(Us (ev p x)) then 1 else 0)+tc x (Us (ev p x)) l:=by rw [tc,if_neg h]
theorem Su {R x y e d:Rat} {p:Uc} (hx:Uw x<=R) (hy:Uw y<=R) (hR:0<=R) (h:Uw (y-x)<=e) (hd:e*NW R p<d):Uw (ev p y-ev p x)<d:=by
 have h1:=Qmh hy hx p;have h2:=Q9 h (Pi hR p);grind
theorem CC {a x y:Rat} (ha:0<a) (h:a*x<a*y):x<y:=by
 rcases Vi (a:=y) (b:=x) with h' | h'
 ·have:=Zv h' (Qq ha); grind
 ·rcases Classical.em (x=y) with e | e
  ·subst e; grind
  ·grind
theorem Qnv {a b d d' B f g h q:Rat} (ha:0<a) (hb:0<b) (dp:0<d) (h7:B*d+a*d<b*d') (hq:Uw q<=B) (hg:Uw g<d) (hh:d'<=Uw h) (he:a*f=q*g-b*h) (hd':0<d'):Us h=-Us f/\d<=Uw f:=by
 have h4:=Gh hq (Qq hg);rw [Sx] at h4;have had:=Ev ha dp;have h8:=Zv hh (Qq hb);rcases U7 h with ⟨s,p⟩ | ⟨s,p⟩ | ⟨s,p⟩
 ·have:Uw h=-h:=by unfold Uw; rw [if_pos p]
  rw [this] at h8;have h10:d<f:=CC ha (by grind);rw [s,G5.2 (show 0<f by grind)];exact ⟨rfl,by unfold Uw; split <;> grind⟩
 ·rw [p,He] at hh; grind
 ·have:Uw h=h:=by unfold Uw; rw [if_neg (by grind)]
  rw [this] at h8;have h10:f < -d:=CC ha (by grind);rw [s,Tp.2 (show f<0 by grind)];exact ⟨rfl,by unfold Uw; split <;> grind⟩
theorem min2 {a b:Rat} (ha:0<a) (hb:0<b):∃ e:Rat,0<e/\e<=a/\e<=b:=by
 rcases Vi (a:=a) (b:=b) with h | h
 ·exact ⟨a,ha,Qo,h⟩
 ·exact ⟨b,hb,h,Qo⟩
theorem Fb (a b:Rat):a<=b\/b<a:=by
 rcases Vi (a:=a) (b:=b) with h | h
 ·exact .inl h
 ·rcases Classical.em (a=b) with e | e
  ·exact .inl (by grind)
  ·exact .inr (by grind)
theorem Qm3 {R:Rat} (hR:0<=R) {f g:Uc} {l:Ud} (hc:SCl f g l):∃ d e:Rat,0<d/\0<e/\∀ x y,Uw x<=R->Uw y<=R->Uw (y-x)<=e ->
 (d<=Uw (ev f x)\/d<=Uw (ev g x))/\(d<=Uw (ev f x)->Us (ev f y)=Us (ev f x)/\Us (ev f x)≠0)/\(d<=Uw (ev g x)->Us (ev g y)=Us (ev g x)/\Us (ev g x)≠0) /\
 (Us (ev f y)=Us (ev f x)->Us (ev f x)≠0->tc x (Us (ev f x)) (g::l)=tc y (Us (ev f x)) (g::l)) /\
 (Us (ev g y)=Us (ev g x)->Us (ev g x)≠0->tc x (Us (ev g x)) l=tc y (Us (ev g x)) l):=by
 induction hc with
 |
  @base f g c hc hg =>
  have hd:=Nj hc;obtain ⟨e,e1,e2,e3⟩:=Gl (Pi hR f) hd;refine ⟨Uw c,e,hd,e1,λx y hx hy hxy=>⟨.inr (by rw [hg]; exact Qo),λh=>Tz h (Su hx hy hR hxy e3),λh=>?_,λ_ _=>?_,λ_ _=>rfl⟩⟩
  ·rw [hg,hg]; exact ⟨rfl,λh=>hc (Fj.1 h)⟩
  ·simp only [tc,hg]
 |
  @step f g h l a b q ha hb he hl ih =>
  obtain ⟨d',e',hd',he',ih⟩:=ih;obtain ⟨d1,d1p,_,d1b⟩:=Gl (b:=zS R q+a) (d:=b*d') (by have:=Og hR q; grind) (Ev hb hd');obtain ⟨d,dp,hd1,hdd⟩:=min2 d1p hd';obtain ⟨ef,ef1,_,ef3⟩:=Gl (Pi hR f) dp;obtain ⟨eg,eg1,_,eg3⟩:=Gl (Pi hR g) dp;obtain ⟨e0,e0p,h1,h2⟩:=min2 ef1 eg1;obtain ⟨e,ep,h0,h3⟩:=min2 e0p he';have h1:=Zg h0 h1;have h2:=Zg h0 h2;refine ⟨d,e,dp,ep,λx y hx hy hxy=>?_⟩;obtain ⟨i1,i2,i3,i4,i5⟩:=ih x y hx hy (Zg hxy h3);have hsm:Uw (ev g x)<d->d'<=Uw (ev h x)/\Us (ev h x)=-Us (ev f x)/\d<=Uw (ev f x):=λhg=>by
   have hh:d'<=Uw (ev h x):=by
    rcases i1 with i | i
    ·exact absurd (Zg hdd i) (Jj.2 hg)
    ·exact i
   have h6:d*(zS R q+a)<=d1*(zS R q+a):=Q9 hd1 (by have:=Og hR q; clear ih i1 i2 i3 i4 i5 he; grind);have h7:zS R q*d+a*d<b*d':=by clear ih i1 i2 i3 i4 i5 he; grind
   exact ⟨hh,Qnv ha hb dp h7 (FK hx q) hg hh (he x) hd'⟩
  have hfs:d<=Uw (ev f x)->Us (ev f y)=Us (ev f x)/\Us (ev f x)≠0:=λh=>Tz h (Su hx hy hR (Zg hxy h1) ef3)
  have hgs:d<=Uw (ev g x)->Us (ev g y)=Us (ev g x)/\Us (ev g x)≠0:=λh=>Tz h (Su hx hy hR (Zg hxy h2) eg3)
  refine ⟨?_,hfs,hgs,λs1 s2=>?_,i4⟩
  ·rcases Fb d (Uw (ev g x)) with h | h
   ·exact .inr h
   ·exact .inl (hsm h).2.2
  ·rcases Fb d (Uw (ev g x)) with h | h
   ·obtain ⟨g1,g2⟩:=hgs h;rw [KW (x:=x) (p:=g) g2,KW (x:=y) (p:=g) (by rw [g1]; exact g2),g1,i4 g1 g2]
   ·obtain ⟨h4,h5,_⟩:=hsm h;obtain ⟨h6,h7⟩:=i3 h4;have i5:=i5 h6 h7;rw [Qd9 h5 s2,Qd9 (h6.trans h5) s2,<-h5,i5]
def Tu (p:Uc) (x:Rat):Int:=if Us (ev p x)≠0 then Us (ev p x) else Us (dv p x)
def vv (L:Ud) (x:Rat):Nat:=tc x 0 L
def KC (f:Uc) (L:Ud):Prop:=(∃ c:Rat,c≠0/\(∀ t,ev f t=c)/\L=[f])\/∃ g l,∃ k:Rat,0<k/\(∀ t,ev g t=k*dv f t)/\SCl f g l/\L=f::g::l
structure Sm (w:List Rat) (x y:Rat):Prop where
 s:Us (ev w y)=Tu w x
 l:Tu w y=Tu w x
 n:Tu w x≠0
theorem Lp {p:Uc} {x:Rat} (h:Us (ev p x)≠0):Tu p x=Us (ev p x):=by unfold Tu; rw [if_pos h]
theorem uS {p:Uc} {x:Rat} (h:Us (ev p x)=0):Tu p x=Us (dv p x):=by unfold Tu; rw [if_neg (by simpa using h)]
theorem yD {p:Uc} {x y:Rat} (h:Us (ev p y)=Us (ev p x)) (h0:Us (ev p x)≠0):Sm p x y:=by
 have h1:=Lp h0;have h2:=Lp (p:=p) (x:=y) (by rw [h]; exact h0);exact ⟨by rw [h,h1],by rw [h2,h1,h],by rw [h1]; exact h0⟩
theorem Ig {f w u:Uc} (h:∀ t,ev f t=ev w t*ev u t) (x:Rat):dv f x=dv w x*ev u x+ev w x*dv u x:=by
 rw [<-EL]; exact Qab (λt=>by rw [h,Ut]) x
theorem pS {f w u:Uc} {x:Rat} (h:∀ t,ev f t=ev w t*ev u t) (hu:Us (ev u x)≠0):Tu f x=Tu w x*Us (ev u x):=by
 by_cases hw:Us (ev w x)=0
 ·have hw0:=Fj.1 hw;have e1:ev f x=0:=by rw [h,hw0]; grind
  have e2:dv f x=dv w x*ev u x:=by rw [Ig h,hw0]; grind
  rw [uS hw,uS (Fj.2 e1),e2,Rw]
 ·have e1:Us (ev f x)=Us (ev w x)*Us (ev u x):=by rw [h,Rw]
  rw [Lp hw,Lp (by rw [e1]; exact Vv hw hu),e1]
theorem Qnw {f w u:Uc} {x y:Rat} (h:∀ t,ev f t=ev w t*ev u t) (hu:Us (ev u y)=Us (ev u x)) (h0:Us (ev u x)≠0) (hf:Sm f x y):Sm w x y:=by
 have e1:=pS h h0;have e2:=pS (x:=y) h (by rw [hu]; exact h0);have e3:Us (ev f y)=Us (ev w y)*Us (ev u y):=by rw [h,Rw]
 obtain ⟨s,l,n⟩:=hf;rw [hu] at e2 e3;refine ⟨?_,?_,λh=>n (by rw [e1,h,Yn])⟩
 ·rw [e3,e1] at s; exact Ys h0 s
 ·rw [e2,e1] at l; exact Ys h0 l
theorem tc0 {x:Rat} {s:Int} {f g:Uc} {l:Ud} (h:Us (ev g x)=s) (hs:s≠0):tc x 0 (f::g::l)=(if Us (ev f x)=-s then 1 else 0)+tc x s l:=by
 have hv:s=1\/s=-1:=by rcases U7 (ev g x) with ⟨e,_⟩ | ⟨e,_⟩ | ⟨e,_⟩ <;> omega
 have hg:Us (ev g x)≠0:=by omega
 rw [tc];rcases U7 (ev f x) with ⟨e,_⟩ | ⟨e,_⟩ | ⟨e,_⟩ <;> rw [e] <;> rcases hv with rfl | rfl <;> simp [KW hg,h]
theorem PR {R x y e d:Rat} {p:Uc} (hx:Uw x<=R) (hy:Uw y<=R) (hR:0<=R) (hxy:x<y) (h:y-x<=e) (hd:d<=Uw (dv p x)) (he:e*oS R p<d):Us (ev p y-ev p x)=Us (dv p x):=by
 have h1:=Qka p y x;have h2:ev p y-ev p x=(y-x)*(dv p x+(y-x)*dd p y x):=by rw [h1]; grind
 have h3:=Gh (x:=y-x) (y:=dd p y x) (a:=e) (b:=oS R p) (by rw [Sx]; constructor <;> grind) (oP hy hx p);have h4:=Tz (b:=dv p x+(y-x)*dd p y x) hd (by
  have:dv p x+(y-x)*dd p y x-dv p x=(y-x)*dd p y x:=by grind
  rw [this]; exact Jj.1 λh=>absurd (Zg h h3) (Jj.2 he))
 rw [h2,Rw,G5.2 (show 0<y-x by grind),h4.1,K6]
def lS (f w:Uc) (L:Ud) (x y:Rat):Prop :=
 (vv L x=vv L y/\Sm f x y/\Sm w x y)\/(vv L x=vv L y+1/\Tu f x≠0/\Tu f y=-Tu f x/\Us (ev f x)=Tu f x/\(Us (ev f y)=0\/Us (ev f y)=-Tu f x))
theorem Qke {R d:Rat} (hR:0<=R) (hd:0<d) {f w u:Uc} (h:∀ t,ev f t=ev w t*ev u t):∃ e:Rat,0<e/\∀ x y,Uw x<=R->Uw y<=R->Uw (y-x)<=e->d<=Uw (ev f x)->Sm f x y/\Sm w x y:=by
 obtain ⟨ef,ef1,_,ef3⟩:=Gl (Pi hR f) hd;obtain ⟨d1,d1p,_,d1b⟩:=Gl (Og hR u) hd;obtain ⟨ew,ew1,_,ew3⟩:=Gl (Pi hR w) d1p;obtain ⟨e,ep,e1,e2⟩:=min2 ef1 ew1;refine ⟨e,ep,λx y hx hy hxy hf=>⟨?_,?_⟩⟩
 ·have:=Tz hf (Su hx hy hR (Zg hxy e1) ef3);exact yD this.1 this.2
 ·have hw:d1<=Uw (ev w x):=by
   rcases Fb d1 (Uw (ev w x)) with h' | h'
   ·exact h'
   ·have h5:=Gh (Qq h') (FK hx u);rw [<-h] at h5;exact absurd (Zg hf h5) (Jj.2 d1b)
  have:=Tz hw (Su hx hy hR (Zg hxy e2) ew3);exact yD this.1 this.2
theorem loc {R:Rat} (hR:0<=R) {f w u:Uc} {L:Ud} (hc:KC f L) (h:∀ t,ev f t=ev w t*ev u t):∃ e:Rat,0<e/\∀ x y,Uw x<=R->Uw y<=R->x<y->y-x<=e->lS f w L x y:=by
 rcases hc with ⟨c,hc,hf,rfl⟩ | ⟨g,l,k,hk,hg,hc,rfl⟩
 ·obtain ⟨e,ep,h1⟩:=Qke hR (Nj hc) h;refine ⟨e,ep,λx y hx hy hxy he=>.inl ⟨?_,h1 x y hx hy (by rw [Sx]; constructor <;> grind) (by rw [hf]; exact Qo)⟩⟩;simp only [vv,tc,hf]
 ·obtain ⟨d,e1,dp,e1p,h1⟩:=Qm3 hR hc;obtain ⟨e2,e2p,h2⟩:=Qke hR dp h;obtain ⟨d3,d3p,_,d3b⟩:=Gl (b:=k) (d:=d) (Qq hk) dp;obtain ⟨e3,e3p,_,e3b⟩:=Gl (TD hR f) d3p;obtain ⟨d4,d4p,_,d4b⟩:=Gl (b:=NW R w+NW R u) (d:=d3) (by have:=Pi hR w; have:=Pi hR u; grind) d3p;obtain ⟨e4,e4p,_,e4b⟩:=Gl (Pi hR w) d4p;obtain ⟨e5,e5p,_,e5b⟩:=Gl (Pi hR u) d4p;obtain ⟨a1,a1p,a11,a12⟩:=min2 e1p e2p;obtain ⟨a2,a2p,a21,a22⟩:=min2 e3p e4p;obtain ⟨a3,a3p,a31,a32⟩:=min2 a1p a2p;obtain ⟨e,ep,b1,b2⟩:=min2 a3p e5p;refine ⟨e,ep,λx y hx hy hxy he=>?_⟩;have hab:Uw (y-x)<=e:=by rw [Sx]; clear h1 h2; constructor <;> grind
  have hab1:Uw (y-x)<=e1:=by clear h1 h2; grind
  have hab2:Uw (y-x)<=e2:=by clear h1 h2; grind
  obtain ⟨i1,i2,i3,i4,i5⟩:=h1 x y hx hy hab1;rcases Fb d (Uw (ev f x)) with hf | hf
  ·obtain ⟨s1,s2⟩:=h2 x y hx hy hab2 hf;obtain ⟨j1,j2⟩:=i2 hf;refine .inl ⟨?_,s1,s2⟩;have:=i4 j1 j2;simp only [vv];rw [KW (x:=x) (p:=f) j2,KW (x:=y) (p:=f) (by rw [j1]; exact j2),j1,this]
  ·have hg1:d<=Uw (ev g x):=by
    rcases i1 with i | i
    ·exact absurd i (Jj.2 hf)
    ·exact i
   obtain ⟨g1,g2⟩:=i3 hg1;have i5:=i5 g1 g2;have hD:d3<=Uw (dv f x):=by
    rcases Fb d3 (Uw (dv f x)) with h' | h'
    ·exact h'
    ·have h5:=Gh (x:=k) (a:=k) (by unfold Uw; split <;> clear h1 h2 <;> grind) (Rat.le_of_lt h');rw [<-hg] at h5;have:k*d3=d3*k:=by grind
     exact absurd (Zg hg1 h5) (Jj.2 (by rw [this]; exact d3b))
   have hm:=PR hx hy hR hxy (by clear h1 h2; grind:y-x<=e3) hD e3b;have s1:Us (ev g x)=Us (dv f x):=by rw [hg,Rw,G5.2 hk,K6]
   have s2:Us (ev g y)=Us (dv f y):=by rw [hg,Rw,G5.2 hk,K6]
   obtain ⟨s,hs⟩:=nmE (Us (ev g x));rw [<-hs] at g1 g2 i5 s1;rw [g1] at s2;have v1:=tc0 (f:=f) (l:=l) hs.symm g2;have v2:=tc0 (f:=f) (l:=l) g1 g2;rw [<-i5] at v2;rw [<-s1] at hm;have hw:Sm f x y->Sm w x y:=λhf=>by
    rcases Fb d4 (Uw (ev u x)) with hu | hu
    ·have hu:=Tz hu (Su hx hy hR (Zg hab b2) e5b);exact Qnw h hu.1 hu.2 hf
    ·have hw:d4<=Uw (ev w x):=by
      rcases Fb d4 (Uw (ev w x)) with h' | h'
      ·exact h'
      ·have q1:=Gh (x:=dv w x) (y:=ev u x) (a:=NW R w) (by rw [<-EB]; exact zK hx hx w) (Qq hu);have q2:=Gh (x:=ev w x) (y:=dv u x) (b:=NW R u) (Qq h') (by rw [<-EB]; exact zK hx hx u);have q3:=Rt (dv w x*ev u x) (ev w x*dv u x);rw [<-Ig h] at q3;have:d4*(NW R w+NW R u)=NW R w*d4+d4*NW R u:=by grind
       rw [this] at d4b;exact absurd (Zg hD (Zg q3 (by clear h1 h2; grind:_<=NW R w*d4+d4*NW R u))) (Jj.2 d4b)
     have hw:=Tz hw (Su hx hy hR (Zg hab (by clear h1 h2; grind)) e4b);exact yD hw.1 hw.2
   have lx:Tu f x=if Us (ev f x)≠0 then Us (ev f x) else s:=by rw [s1]; rfl
   have ly:Tu f y=if Us (ev f y)≠0 then Us (ev f y) else s:=by rw [s2]; rfl
   clear h1 h2 i1 i2 i3 i4;have hsv:s=1\/s=-1:=by rcases U7 (ev g x) with ⟨e,_⟩ | ⟨e,_⟩ | ⟨e,_⟩ <;> omega
   unfold lS;simp only [vv,v1,v2];rcases hsv with rfl | rfl
   ·have hm:=G5.1 hm;rcases U7 (ev f x) with ⟨p1,p2⟩ | ⟨p1,p2⟩ | ⟨p1,p2⟩
    ·rcases U7 (ev f y) with ⟨q1,q2⟩ | ⟨q1,q2⟩ | ⟨q1,q2⟩
     ·rw [p1,q1]; have hsm:=yD (p:=f) (x:=x) (y:=y) (by rw [p1,q1]) (by rw [p1]; decide);exact .inl ⟨rfl,hsm,hw hsm⟩
     ·rw [lx,ly,p1,q1]; refine .inr ⟨by simp; omega,by decide,by decide,by decide,by decide⟩
     ·rw [lx,ly,p1,q1]; refine .inr ⟨by simp; omega,by decide,by decide,by decide,by decide⟩
    ·have q1:=G5.2 (show 0<ev f y by grind);have hsm:Sm f x y:=⟨by rw [lx,q1,p1]; rfl,by rw [lx,ly,q1,p1]; rfl,by rw [lx,p1]; decide⟩;rw [p1,q1]; exact .inl ⟨rfl,hsm,hw hsm⟩
    ·have q1:=G5.2 (show 0<ev f y by grind);have hsm:Sm f x y:=⟨by rw [lx,q1,p1]; rfl,by rw [lx,ly,q1,p1],by rw [lx,p1]; decide⟩;rw [p1,q1]; exact .inl ⟨rfl,hsm,hw hsm⟩
   ·have hm:=Tp.1 hm;rcases U7 (ev f x) with ⟨p1,p2⟩ | ⟨p1,p2⟩ | ⟨p1,p2⟩
    ·have q1:=Tp.2 (show ev f y<0 by grind);have hsm:Sm f x y:=⟨by rw [lx,q1,p1]; rfl,by rw [lx,ly,q1,p1],by rw [lx,p1]; decide⟩;rw [p1,q1]; exact .inl ⟨rfl,hsm,hw hsm⟩
    ·have q1:=Tp.2 (show ev f y<0 by grind);have hsm:Sm f x y:=⟨by rw [lx,q1,p1]; rfl,by rw [lx,ly,q1,p1]; rfl,by rw [lx,p1]; decide⟩;rw [p1,q1]; exact .inl ⟨rfl,hsm,hw hsm⟩
    ·rcases U7 (ev f y) with ⟨q1,q2⟩ | ⟨q1,q2⟩ | ⟨q1,q2⟩
     ·rw [lx,ly,p1,q1]; refine .inr ⟨by simp; omega,by decide,by decide,by decide,by decide⟩
     ·rw [lx,ly,p1,q1]; refine .inr ⟨by simp; omega,by decide,by decide,by decide,by decide⟩
     ·rw [p1,q1]; have hsm:=yD (p:=f) (x:=x) (y:=y) (by rw [p1,q1]) (by rw [p1]; decide);exact .inl ⟨rfl,hsm,hw hsm⟩
theorem Qro (z:Rat):∃ n:Nat,z<=(n:Rat):=by
 refine ⟨z.ceil.toNat,?_⟩;have h1:z<=(z.ceil:Rat):=Rat.le_ceil;have h2:(z.ceil:Rat)<=((z.ceil.toNat:Int):Rat):=X6.2 (Int.self_le_toNat _);exact Zg h1 h2
theorem Oa {z e:Rat} (he:0<e):∃ n:Nat,z<=(n:Rat)*e:=by
 obtain ⟨n,hn⟩:=Qro (z / e);exact ⟨n,by have:=Q9 hn (Qq he); rwa [Gi he] at this⟩
theorem VQ {R x y t:Rat} (hx:Uw x<=R) (hy:Uw y<=R) (h1:x<=t) (h2:t<=y):Uw t<=R:=by
 rw [Sx] at *; constructor <;> grind
def bQ (f w:Uc) (L:Ud) (x y:Rat):Prop :=
 vv L y<=vv L x/\(vv L x=vv L y->Sm f x y/\Sm w x y)/\(vv L x=vv L y+1->Tu f x≠0/\Tu f y=-Tu f x)
theorem pR {f w:Uc} {L:Ud} {x y:Rat} (h:lS f w L x y):bQ f w L x y:=by
 rcases h with ⟨h1,h2,h3⟩ | ⟨h1,h2,h3,_⟩
 ·exact ⟨by omega,λ_=>⟨h2,h3⟩,λh=>by omega⟩
 ·exact ⟨by omega,λh=>by omega,λ_=>⟨h2,h3⟩⟩
theorem yL {w:Uc} {x y z:Rat} (h1:Sm w x y) (h2:Sm w y z):Sm w x z:=⟨by rw [h2.s,h1.l],by rw [h2.l,h1.l],h1.n⟩
theorem uR {f w:Uc} {L:Ud} {x y z:Rat} (h:bQ f w L x y) (h':bQ f w L y z):bQ f w L x z:=by
 obtain ⟨a1,a2,a3⟩:=h;obtain ⟨b1,b2,b3⟩:=h';refine ⟨by omega,λh=>?_,λh=>?_⟩
 ·obtain ⟨s1,s2⟩:=a2 (by omega);obtain ⟨s3,s4⟩:=b2 (by omega);exact ⟨yL s1 s3,yL s2 s4⟩
 ·by_cases e:vv L x=vv L y
  ·obtain ⟨s1,_⟩:=a2 e;obtain ⟨s3,s4⟩:=b3 (by omega);exact ⟨s1.n,by rw [s4,s1.l]⟩
  ·obtain ⟨s3,s4⟩:=a3 (by omega);obtain ⟨s1,_⟩:=b2 (by omega);exact ⟨s3,by rw [s1.l,s4]⟩
theorem Qmq {R:Rat} (hR:0<=R) {f w u:Uc} {L:Ud} (hc:KC f L) (h:∀ t,ev f t=ev w t*ev u t) {x y:Rat} (hx:Uw x<=R) (hy:Uw y<=R) (hxy:x<y):bQ f w L x y:=by
 obtain ⟨e,ep,hl⟩:=loc hR hc h;have key:∀ n:Nat,∀ x,Uw x<=R->x<y->y-x<=(n:Rat)*e->bQ f w L x y:=by
  intro n
  induction n with
  | zero =>
   intro x hx hxy h; exfalso; have:((0:Nat):Rat)*e=0:=by simp
   grind
  |
   succ n ih =>
   intro x hx hxy hn;rcases Fb (y-x) e with h1 | h1
   ·exact pR (hl x y hx hy hxy h1)
   ·have hm:Uw (x+e)<=R:=VQ hx hy (by clear hl ih; grind) (by clear hl ih; grind);have hn':(((n+1:Nat):Rat))=(n:Rat)+1:=by push_cast; rfl
    refine uR (pR (hl x (x+e) hx hm (by clear hl ih; grind) (by clear hl ih; grind))) (ih (x+e) hm (by clear hl ih; grind) ?_);rw [hn'] at hn;clear hl ih; grind
 obtain ⟨n,hn⟩:=Oa (z:=y-x) ep;exact key n x hx hxy hn
theorem LP (x y:Rat):∃ R:Rat,0<=R/\Uw x<=R/\Uw y<=R:=by
 refine ⟨Uw x+Uw y,?_,?_,?_⟩ <;> (have:=Gz x; have:=Gz y; grind)
theorem Hw (t:Rat):ev [1] t=1:=by simp only [ev]; grind
theorem L8 {f:Uc} {L:Ud} (hc:KC f L) {x y:Rat} (hxy:x<y):vv L y<=vv L x:=by
 obtain ⟨R,hR,hx,hy⟩:=LP x y;exact (Qmq hR hc (w:=f) (u:=[1]) (λt=>by rw [Hw]; grind) hx hy hxy).1
theorem XG {f w u:Uc} {L:Ud} (hc:KC f L) (h:∀ t,ev f t=ev w t*ev u t) {x y:Rat} (hxy:x<y) (he:vv L x=vv L y):Sm w x y:=by
 obtain ⟨R,hR,hx,hy⟩:=LP x y;exact ((Qmq hR hc h hx hy hxy).2.1 he).2
theorem OP {f:Uc} {L:Ud} (hc:KC f L) {x y:Rat} (hxy:x<y) (he:vv L x=vv L y):Sm f x y :=
 XG hc (w:=f) (u:=[1]) (λt=>by rw [Hw]; grind) hxy he
theorem OS {f:Uc} {L:Ud} (hc:KC f L) {x y:Rat} (hxy:x<y) (he:vv L x=vv L y+1):Tu f x≠0/\Tu f y=-Tu f x:=by
 obtain ⟨R,hR,hx,hy⟩:=LP x y;exact (Qmq hR hc (w:=f) (u:=[1]) (λt=>by rw [Hw]; grind) hx hy hxy).2.2 he
theorem Qef {f:Uc} {L:Ud} (hc:KC f L) (R:Rat) (hR:0<=R):∃ e:Rat,0<e/\∀ x y,Uw x<=R->Uw y<=R->x<y->y-x<=e->vv L x<=vv L y+1:=by
 obtain ⟨e,ep,hl⟩:=loc hR hc (w:=f) (u:=[1]) (λt=>by rw [Hw]; grind);refine ⟨e,ep,λx y hx hy hxy he=>?_⟩;rcases hl x y hx hy hxy he with ⟨h,_⟩ | ⟨h,_⟩ <;> omega
theorem cF {p:Uc} {x:Rat} (h:Us (ev p x)≠0):∃ e:Rat,0<e/\∀ y,Uw (y-x)<=e->Us (ev p y)=Us (ev p x):=by
 have hd:=Nj (x:=ev p x) λh0=>h (Fj.2 h0)
 have hR:0<=Uw x+1:=by have:=Gz x; grind
 obtain ⟨e,e1,e2,e3⟩:=Gl (Pi hR p) hd;refine ⟨e,e1,λy hy=>(Tz Qo (Su (x:=x) (by grind) ?_ hR hy e3)).1⟩;have:=Rt (y-x) x;have e:y-x+x=y:=by grind
 rw [e] at this; grind
theorem Qkn {R M:Rat} {p:Uc} (hM:M=oS R p) (hR:0<=R) {h:Rat} (hh:0<h):∀ (n:Nat) (x:Rat),Uw x<=R->Uw (x+(n:Rat)*h)<=R->(∀ t,x<=t->t<=x+(n:Rat)*h->0<=dv p t)->ev p x-(n:Rat)*(h*h*M)<=ev p (x+(n:Rat)*h)
 |
  0,x,_,_,_=>by
  have e1:x+((0:Nat):Rat)*h=x:=by rw [show ((0:Nat):Rat)=0 from rfl]; grind
  have e2:((0:Nat):Rat)*(h*h*M)=0:=by simp
  rw [e1,e2]; grind
 |
  n+1,x,hx,hy,hd=>by
  have hn':(((n+1:Nat):Rat))=(n:Rat)+1:=by push_cast; rfl
  rw [hn'] at hy hd ⊢;have hn0:(0:Rat)<=(n:Rat):=Xf;have hnh:=Me hn0 (Qq hh);have e1:x+((n:Rat)+1)*h=(x+h)+(n:Rat)*h:=by grind
  rw [e1] at hy hd ⊢;have hxh:Uw (x+h)<=R:=VQ hx hy (by clear hd; grind) (by clear hd; grind);have ih:=Qkn hM hR hh n (x+h) hxh hy λt h1 h2=>hd t (by clear hd; grind) h2
  have h0:=hd x Qo (by clear hd; grind);have h1:=Qka p (x+h) x;have h2:=oP hxh hx p;rw [<-hM,Sx] at h2;have h3:=Zv h2.1 (Me (Qq hh) (Qq hh));have h4:=Me (Qq hh) h0;have e2:x+h-x=h:=by grind
  rw [e2] at h1;clear hd hx hy hxh;grind
theorem Qp8 {p:Uc} {x y:Rat} (hxy:x<y) (hd:∀ t,x<=t->t<=y->0<=dv p t):ev p x<=ev p y:=by
 obtain ⟨R,hR,hx,hy⟩:=LP x y;rcases Fb (ev p x) (ev p y) with h | h
 ·exact h
 ·exfalso;obtain ⟨M,hM⟩:=nmE (oS R p);have hM0:=TD hR p;rw [<-hM] at hM0;obtain ⟨e,ep,_,he⟩:=Gl (b:=(y-x)*M) (d:=ev p x-ev p y) (Me (by grind) hM0) (by grind);obtain ⟨n,hn⟩:=Oa (z:=y-x) ep;have hn0:0<(n:Rat):=by
   rcases Fb (n:Rat) 0 with h' | h'
   ·have:=Q9 h' (Qq ep); clear hd; grind
   ·exact h'
  have hh:0<(y-x) / n:=Lh (by grind) hn0;have e1:(n:Rat)*((y-x) / n)=y-x:=by rw [Wo]; exact Gi hn0
  have e2:x+(n:Rat)*((y-x) / n)=y:=by rw [e1]; grind
  have h1:=Qkn hM hR hh n x hx (by rw [e2]; exact hy) (by rw [e2]; exact hd);rw [e2] at h1;have h2:(y-x) / n<=e:=by
   rcases Fb ((y-x) / n) e with h' | h'
   ·exact h'
   ·have:=Rat.mul_lt_mul_of_pos_left h' hn0; clear hd; grind
  have h3:(n:Rat)*((y-x) / n*((y-x) / n)*M)=((y-x) / n)*((y-x)*M):=by
   have:(n:Rat)*((y-x) / n*((y-x) / n)*M)=((n:Rat)*((y-x) / n))*(((y-x) / n)*M):=by grind
   rw [this,e1]; grind
  have h4:=Q9 h2 (Me (x:=y-x) (y:=M) (by grind) hM0);rw [h3] at h1;clear hd; grind
theorem Qik {p:Uc} {x y:Rat} (hxy:x<y) (hd:∀ t,x<=t->t<=y->0<dv p t):ev p x<ev p y:=by
 have hx:=hd x Qo (by grind);have hR:0<=Uw x+1:=by have:=Gz x; grind
 obtain ⟨e,e1,e2,e3⟩:=Gl (TD hR p) hx;obtain ⟨f,f1,f2,f3⟩:=min2 (a:=e) (b:=y-x) e1 (by grind);have hq:Uw (x+f)<=Uw x+1:=by
  have:=Rt x f; have:Uw f=f:=by unfold Uw; split <;> grind
  clear hd; grind
 have h1:=PR (p:=p) (x:=x) (y:=x+f) (R:=Uw x+1) (e:=e) (d:=dv p x) (by clear hd; grind) hq hR (by grind) (by grind) (by unfold Uw; split <;> clear hd <;> grind) e3;rw [G5.2 hx,G5] at h1;rcases Classical.em (x+f=y) with e | e
 ·rw [<-e]; clear hd; grind
 ·have:=Qp8 (p:=p) (x:=x+f) (y:=y) (by clear hd; grind) λt h1 h2=>Qq (hd t (by clear hd; grind) h2)
  clear hd; grind
structure Cut (c:Rat->Int):Prop where
 val:∀ q,c q=1\/c q=0\/c q=-1
 mono:∀ q r,q<r->c q≠1->c r=-1
 up:∀ q,c q=1->∃ r,q<r/\c r=1
 dn:∀ q,c q=-1->∃ r,r<q/\c r=-1
 lo:∃ q,c q=1
 hi:∃ q,c q=-1
theorem Cut.mono' {c:Rat->Int} (h:Cut c) {q r:Rat} (hqr:q<r) (hr:c r≠-1):c q=1:=by
 rcases Classical.em (c q=1) with e | e
 ·exact e
 ·exact absurd (h.mono q r hqr e) hr
theorem Cut.lt {c:Rat->Int} (h:Cut c) {q r:Rat} (hq:c q=1) (hr:c r=-1):q<r:=by
 rcases Fb r q with e | e
 ·rcases Classical.em (r=q) with e' | e'
  ·rw [e'] at hr; omega
  ·have:=h.mono r q (by grind) (by omega); omega
 ·exact e
theorem Cut.near {c:Rat->Int} (h:Cut c) {e:Rat} (he:0<e):∃ x y,c x=1/\c y=-1/\y-x<=e:=by
 obtain ⟨a,ha⟩:=h.lo;obtain ⟨b,hb⟩:=h.hi;have he2:0<e / 2:=Lh he (by decide);have h2:e / 2*2=e:=Gi (by decide);have key:∀ (n:Nat) (a:Rat),c a=1->b-a<=(n:Rat)*(e / 2)->∃ x y,c x=1/\c y=-1/\y-x<=e:=by
  intro n
  induction n with
  |
   zero =>
   intro a ha hn;have:=h.lt ha hb;rw [show ((0:Nat):Rat)=0 from rfl] at hn;exfalso; grind
  |
   succ n ih =>
   intro a ha hn;have hn':(((n+1:Nat):Rat))=(n:Rat)+1:=by push_cast; rfl
   rw [hn'] at hn;rcases h.val (a+e / 2) with h1 | h1 | h1
   ·exact ih _ h1 (by grind)
   ·exact ⟨a,a+e,ha,h.mono (a+e / 2) _ (by grind) (by omega),by grind⟩
   ·exact ⟨a,a+e / 2,ha,h1,by grind⟩
 obtain ⟨n,hn⟩:=Oa (z:=b-a) he2;exact key n a ha hn
def E8 (p:Uc) (c:Rat->Int):Prop:=∀ d:Rat,0<d->∃ x y,c x=1/\c y=-1/\∀ q,x<=q->q<=y->Uw (ev p q)<d
def NZ (p:Uc) (c:Rat->Int) (s:Int):Prop:=∃ d:Rat,0<d/\∃ x y,c x=1/\c y=-1/\∀ q,x<=q->q<=y->Us (ev p q)=s/\d<=Uw (ev p q)
def Nr (c:Rat->Int) (P:Rat->Prop):Prop:=∃ x y,c x=1/\c y=-1/\∀ q,x<=q->q<=y->P q
theorem uE {c:Rat->Int} {P Q:Rat->Prop} (h1:Nr c P) (h2:Nr c Q):Nr c λq=>P q/\Q q:=by
 obtain ⟨x,y,a1,a2,a3⟩:=h1;obtain ⟨x',y',b1,b2,b3⟩:=h2;refine ⟨if x<=x' then x' else x,if y<=y' then y else y',by split <;> assumption,by split <;> assumption,λq q1 q2=>⟨a3 q ?_ ?_,b3 q ?_ ?_⟩⟩ <;> clear a3 b3 <;> grind
theorem HW {c:Rat->Int} {P Q:Rat->Prop} (h1:Nr c P) (h:∀ q,P q->Q q):Nr c Q:=by
 obtain ⟨x,y,a1,a2,a3⟩:=h1;exact ⟨x,y,a1,a2,λq q1 q2=>h q (a3 q q1 q2)⟩
theorem jY {c:Rat->Int} (hc:Cut c) {P:Rat->Prop} (h1:Nr c P):∃ q,P q/\c q=1:=by
 obtain ⟨x,y,a1,a2,a3⟩:=h1;exact ⟨x,a3 x Qo (Qq (hc.lt a1 a2)),a1⟩
theorem Qce {c:Rat->Int} (hc:Cut c) {e:Rat} (he:0<e) {P:Rat->Prop} (h1:Nr c P):∃ x y,c x=1/\c y=-1/\y-x<=e/\x<y/\∀ q,x<=q->q<=y->P q:=by
 obtain ⟨x,y,a1,a2,a3⟩:=h1;obtain ⟨x',y',b1,b2,b3⟩:=hc.near he;refine ⟨if x<=x' then x' else x,if y<=y' then y else y',by split <;> assumption,by split <;> assumption,by clear a3; grind,hc.lt (by split <;> assumption) (by split <;> assumption),λq q1 q2=>a3 q ?_ ?_⟩ <;> clear a3 <;> grind
theorem Qkm {c:Rat->Int} (hc:Cut c):∃ R:Rat,0<=R/\Nr c λq=>Uw q<=R:=by
 obtain ⟨x,y,a1,a2,_⟩:=hc.near (e:=1) (by decide);obtain ⟨R,hR,h1,h2⟩:=LP x y;exact ⟨R,hR,x,y,a1,a2,λq q1 q2=>VQ h1 h2 q1 q2⟩
theorem QS {c:Rat->Int} (hc:Cut c) (p:Uc):E8 p c\/∃ s,s≠0/\NZ p c s:=by
 rcases Classical.em (E8 p c) with h | h
 ·exact .inl h
 ·refine .inr ?_;obtain ⟨d,hd0⟩:=Classical.not_forall.1 h;obtain ⟨dp,hd⟩:=Classical.not_imp.1 hd0;have hd:∀ x y,c x=1->c y=-1->∃ q,x<=q/\q<=y/\d<=Uw (ev p q):=λx y hx hy=>by
   rcases Classical.em (∃ q,x<=q/\q<=y/\d<=Uw (ev p q)) with h' | h'
   ·exact h'
   ·refine absurd ⟨x,y,hx,hy,λq h1 h2=>?_⟩ hd;rcases Fb d (Uw (ev p q)) with h3 | h3
    ·exact absurd ⟨q,h1,h2,h3⟩ h'
    ·exact h3
  obtain ⟨R,hR,hn⟩:=Qkm hc;have hd2:0<d / 2:=Lh dp (by decide);have h2:d / 2*2=d:=Gi (by decide);obtain ⟨e,e1,_,e3⟩:=Gl (Pi hR p) hd2;obtain ⟨x,y,hx,hy,hxy,_,hq⟩:=Qce hc e1 hn;obtain ⟨r,r1,r2,r3⟩:=hd x y hx hy;have key:∀ q,x<=q->q<=y->Uw (ev p q-ev p r)<d / 2:=λq q1 q2 =>
   Su (hq r r1 r2) (hq q q1 q2) hR (by rw [Sx]; clear hq hd; constructor <;> grind) e3
  refine ⟨Us (ev p r),λh0=>?_,d / 2,hd2,x,y,hx,hy,λq q1 q2=>⟨(Tz (d:=d) r3 ?_).1,?_⟩⟩
  ·rw [Fj.1 h0,He] at r3; clear hq hd key; grind
  ·have:=key q q1 q2; clear hq hd key; grind
  ·have h3:=key q q1 q2;have h4:=Rt (ev p r-ev p q) (ev p q);rw [show ev p r-ev p q+ev p q=ev p r from by clear hq hd key; grind,mA] at h4;clear hq hd key; grind
theorem Qoa {c:Rat->Int} (hc:Cut c) {p:Uc} {s:Int} (h1:E8 p c) (h2:NZ p c s):False:=by
 obtain ⟨d,dp,h2⟩:=h2;obtain ⟨q,⟨a,b⟩,_⟩:=jY hc (uE (h1 d dp) h2);exact absurd b.2 (Jj.2 a)
theorem So {c:Rat->Int} (hc:Cut c) {f p q:Uc} (hf:∀ t,ev f t=ev p t*ev q t) (h:E8 p c):E8 f c:=by
 intro d dp;obtain ⟨R,hR,hn⟩:=Qkm hc;obtain ⟨e,e1,_,e3⟩:=Gl (Og hR q) dp;refine HW (uE hn (h e e1)) λt ⟨h1,h2⟩=>?_
 rw [hf];have:=Gh (Qq h2) (FK h1 q);exact Jj.1 λh=>absurd (Zg h this) (Jj.2 e3)
theorem RX {c:Rat->Int} {f p q:Uc} (hf:∀ t,ev f t=ev p t+ev q t) (h:E8 p c) (h':E8 q c):E8 f c:=by
 intro d dp;have hd2:0<d / 2:=Lh dp (by decide);have h2:d / 2*2=d:=Gi (by decide);refine HW (uE (h _ hd2) (h' _ hd2)) λt ⟨h1,h2⟩=>?_
 rw [hf];have:=Rt (ev p t) (ev q t);grind
def RS (p:Uc) (c:Rat->Int) (s:Int):Prop:=∃ y,c y=-1/\∀ q,c q=-1->q<=y->Us (ev p q)=s
def LS (p:Uc) (c:Rat->Int) (s:Int):Prop:=∃ x,c x=1/\∀ q,c q=1->x<=q->Us (ev p q)=s
theorem DI {c:Rat->Int} (hc:Cut c) {p:Uc} {s:Int} (h:NZ p c s):RS p c s:=by
 obtain ⟨d,dp,x,y,a1,a2,a3⟩:=h;exact ⟨y,a2,λq h1 h2=>(a3 q (Qq (hc.lt a1 h1)) h2).1⟩
theorem pP {c:Rat->Int} (hc:Cut c) {p:Uc} {s:Int} (h:NZ p c s):LS p c s:=by
 obtain ⟨d,dp,x,y,a1,a2,a3⟩:=h;exact ⟨x,a1,λq h1 h2=>(a3 q h2 (Qq (hc.lt h1 a2))).1⟩
theorem VO {c:Rat->Int} {p:Uc} {s s':Int} (h:RS p c s) (h':RS p c s'):s=s':=by
 obtain ⟨y,a1,a2⟩:=h;obtain ⟨y',b1,b2⟩:=h';rcases Fb y y' with e | e
 ·rw [<-a2 y a1 Qo,<-b2 y a1 e]
 ·rw [<-a2 y' b1 (Qq e),<-b2 y' b1 Qo]
theorem Qkq {c:Rat->Int} (hc:Cut c) {p:Uc} (hv:E8 p c) {y:Rat} (hy:c y=-1) (h:∀ q,c q=-1->q<=y->0<dv p q) (q:Rat) (hq:c q=-1) (hqy:q<=y):0<ev p q:=by
 rcases Fb (ev p q) 0 with h0 | h0
 ·exfalso;obtain ⟨r,r1,r2⟩:=hc.dn q hq;have hr:ev p r<ev p q:=Qik r1 λt t1 t2=>h t (by
   rcases Classical.em (r=t) with e | e
   ·rw [<-e]; exact r2
   ·exact hc.mono r t (by clear h; grind) (by omega)) (Zg t2 hqy)
  obtain ⟨a,b,ha,hb,hab⟩:=hv (-ev p r) (by clear h; grind);obtain ⟨m,hm1,hm2,hm3⟩:∃ m,c m=-1/\m<=b/\m<=r:=by
   rcases Fb b r with e | e
   ·exact ⟨b,hb,Qo,e⟩
   ·exact ⟨r,r2,Qq e,Qo⟩
  have h1:=hab m (Qq (hc.lt ha hm1)) hm2;have h2:ev p m<=ev p r:=by
   rcases Classical.em (m=r) with e | e
   ·rw [e]; exact Qo
   ·exact Qq (Qik (by clear h hab; grind) λt t1 t2=>h t (by
     rcases Classical.em (m=t) with e | e
     ·rw [<-e]; exact hm1
     ·exact hc.mono m t (by clear h hab; grind) (by omega)) (by clear h hab; grind))
  rw [IN] at h1;clear h hab; grind
 ·exact h0
theorem IE {c:Rat->Int} (hc:Cut c) {p:Uc} {s:Int} (hv:E8 p c) (h:RS (Mg p) c s) (hs:s≠0):RS p c s:=by
 obtain ⟨y,hy,h⟩:=h;have hsv:s=1\/s=-1:=by
  have:=h y hy Qo;rcases U7 (ev (Mg p) y) with ⟨e,_⟩ | ⟨e,_⟩ | ⟨e,_⟩ <;> omega
 rcases hsv with rfl | rfl
 ·refine ⟨y,hy,λq h1 h2=>G5.2 (Qkq hc hv hy (λq h1 h2=>?_) q h1 h2)⟩;rw [<-H9]; exact G5.1 (h q h1 h2)
 ·refine ⟨y,hy,λq h1 h2=>Tp.2 ?_⟩;have:=Qkq hc (p:=B7 (-1) p) (y:=y) (λd dp=>HW (hv d dp) λq hq=>by rw [Fp,show -1*ev p q=-ev p q by grind,Dy]; exact hq) hy (λq h1 h2=>by
   rw [WG,<-H9];have:=Tp.1 (h q h1 h2); grind) q h1 h2
  rw [Fp] at this; grind
theorem Qki {c:Rat->Int} (hc:Cut c) {p:Uc} (hv:E8 p c) {x:Rat} (hx:c x=1) (h:∀ q,c q=1->x<=q->0<dv p q) (q:Rat) (hq:c q=1) (hxq:x<=q):ev p q<0:=by
 rcases Fb 0 (ev p q) with h0 | h0
 ·exfalso;obtain ⟨r,r1,r2⟩:=hc.up q hq;have hr:ev p q<ev p r:=Qik r1 λt t1 t2=>h t (by
   rcases Classical.em (t=r) with e | e
   ·rw [e]; exact r2
   ·exact hc.mono' (q:=t) (r:=r) (by clear h; grind) (by omega)) (Zg hxq t1)
  obtain ⟨a,b,ha,hb,hab⟩:=hv (ev p r) (by clear h; grind);obtain ⟨m,hm1,hm2,hm3⟩:∃ m,c m=1/\a<=m/\r<=m:=by
   rcases Fb a r with e | e
   ·exact ⟨r,r2,e,Qo⟩
   ·exact ⟨a,ha,Qo,Qq e⟩
  have h1:=hab m hm2 (Qq (hc.lt hm1 hb));have h2:ev p r<=ev p m:=by
   rcases Classical.em (r=m) with e | e
   ·rw [e]; exact Qo
   ·exact Qq (Qik (by clear h hab; grind) λt t1 t2=>h t (by
     rcases Classical.em (t=m) with e | e
     ·rw [e]; exact hm1
     ·exact hc.mono' (q:=t) (r:=m) (by clear h hab; grind) (by omega)) (by clear h hab; grind))
  rw [IN] at h1;clear h hab; grind
 ·exact h0
theorem Qbv {c:Rat->Int} (hc:Cut c) {p:Uc} {s:Int} (hv:E8 p c) (h:LS (Mg p) c s) (hs:s≠0):LS p c (-s):=by
 obtain ⟨x,hx,h⟩:=h;have hsv:s=1\/s=-1:=by
  have:=h x hx Qo;rcases U7 (ev (Mg p) x) with ⟨e,_⟩ | ⟨e,_⟩ | ⟨e,_⟩ <;> omega
 rcases hsv with rfl | rfl
 ·refine ⟨x,hx,λq h1 h2=>Tp.2 (Qki hc hv hx (λq h1 h2=>?_) q h1 h2)⟩;rw [<-H9]; exact G5.1 (h q h1 h2)
 ·refine ⟨x,hx,λq h1 h2=>G5.2 ?_⟩;have:=Qki hc (p:=B7 (-1) p) (x:=x) (λd dp=>HW (hv d dp) λq hq=>by rw [Fp,show -1*ev p q=-ev p q by grind,Dy]; exact hq) hx (λq h1 h2=>by
   rw [WG,<-H9];have:=Tp.1 (h q h1 h2); grind) q h1 h2
  rw [Fp] at this; grind
theorem Qir {c:Rat->Int} (hc:Cut c) {f g:Uc} {l:Ud} (h:SCl f g l):E8 f c->E8 g c->False:=by
 induction h with
 |
  @base f g k hk hg =>
  intro _ hv;obtain ⟨q,hq,_⟩:=jY hc (hv (Uw k) (Nj hk));rw [hg] at hq; grind
 |
  @step f g h l a b q ha hb he hl ih =>
  intro hf hg;refine ih hg ?_;have h1:E8 (Gb q g) c:=So hc (p:=g) (q:=q) (λt=>by rw [Ut]; grind) hg;have h2:E8 (B7 (-a) f) c:=So hc (p:=f) (q:=[-a]) (λt=>by rw [Fp]; simp only [ev]; grind) hf;have h3:E8 (Ru (Gb q g) (B7 (-a) f)) c:=RX (λt=>Fz t _ _) h1 h2;refine So hc (p:=Ru (Gb q g) (B7 (-a) f)) (q:=[1 / b]) (λt=>?_) h3;have:=he t;rw [Fz,Ut,Fp];simp only [ev];have hbb:1 / b*b=1:=Gi hb;have:ev q t*ev g t+-a*ev f t=b*ev h t:=by rw [show -a*ev f t=-(a*ev f t) by grind,he t]; grind
  rw [this];have:b*ev h t*(1 / b+t*0)=ev h t*(1 / b*b):=by grind
  rw [this,hbb]; grind
theorem LH {c:Rat->Int} (hc:Cut c) {f g:Uc} {k:Rat} (h:∀ t,ev g t=k*ev f t) (hv:E8 f c):E8 g c :=
 So hc (p:=f) (q:=[k]) (λt=>by rw [h]; simp only [ev]; grind) hv
theorem Qix {c:Rat->Int} (hc:Cut c) {f:Uc} {L:Ud} (h:KC f L) (hv:E8 f c):∃ s,s≠0/\NZ (Mg f) c s:=by
 rcases QS hc (Mg f) with h1 | h1
 ·exfalso;rcases h with ⟨k,hk,hf,_⟩ | ⟨g,l,k,hk,hg,h,_⟩
  ·obtain ⟨q,hq,_⟩:=jY hc (hv (Uw k) (Nj hk));rw [hf] at hq; grind
  ·exact Qir hc h hv (LH hc (λt=>by rw [hg,H9]) h1)
 ·exact h1
theorem sK {c:Rat->Int} (hc:Cut c) {f w u:Uc} {L:Ud} (h:KC f L) (hf:∀ t,ev f t=ev w t*ev u t) (hv:E8 w c):∃ s,s≠0/\NZ (Mg w) c s:=by
 rcases QS hc (Mg w) with h1 | h1
 ·exfalso;obtain ⟨s,_,hs⟩:=Qix hc h (So hc hf hv);refine Qoa hc ?_ hs;have a1:E8 (Gb (Mg w) u) c:=So hc (λt=>Ut t _ _) h1;have a2:E8 (Gb w (Mg u)) c:=So hc (λt=>Ut t _ _) hv;refine RX (λt=>?_) a1 a2;rw [H9,Ig hf,Ut,Ut,H9,H9]
 ·exact h1
theorem oH {c:Rat->Int} (hc:Cut c) {q:Rat} (h:c q=0) {x y:Rat} (hx:c x=1) (hy:c y=-1):x<=q/\q<=y:=by
 constructor
 ·rcases Fb x q with e | e
  ·exact e
  ·have:=hc.mono q x e (by omega); omega
 ·rcases Fb q y with e | e
  ·exact e
  ·have:=hc.mono y q e (by omega); omega
theorem UE {c:Rat->Int} (hc:Cut c) {p:Uc} {q:Rat} (h:c q=0) (hv:E8 p c):ev p q=0:=by
 rcases Classical.em (ev p q=0) with e | e
 ·exact e
 ·obtain ⟨x,y,hx,hy,hq⟩:=hv _ (Nj e);obtain ⟨h1,h2⟩:=oH hc h hx hy;have:=hq q h1 h2; grind
theorem jV {c:Rat->Int} (hc:Cut c) {p:Uc} {q:Rat} {s:Int} (h:c q=0) (hv:NZ p c s):Us (ev p q)=s:=by
 obtain ⟨d,dp,x,y,hx,hy,hq⟩:=hv;obtain ⟨h1,h2⟩:=oH hc h hx hy;exact (hq q h1 h2).1
theorem wH {c:Rat->Int} (hc:Cut c) {y z:Rat} (hy:c y=-1) (hz:c z=-1):∃ q,c q=-1/\q<y/\q<z:=by
 obtain ⟨a,a1,a2⟩:=hc.dn y hy;obtain ⟨b,b1,b2⟩:=hc.dn z hz;rcases Fb a b with e | e
 ·exact ⟨a,a2,a1,by grind⟩
 ·exact ⟨b,b2,by grind,b1⟩
theorem TC {c:Rat->Int} (hc:Cut c) {y z:Rat} (hy:c y=1) (hz:c z=1):∃ q,c q=1/\y<q/\z<q:=by
 obtain ⟨a,a1,a2⟩:=hc.up y hy;obtain ⟨b,b1,b2⟩:=hc.up z hz;rcases Fb a b with e | e
 ·exact ⟨b,b2,by grind,b1⟩
 ·exact ⟨a,a2,a1,by grind⟩
theorem Qcd {f w u:Uc} {L:Ud} (h:KC f L) (hf:∀ t,ev f t=ev w t*ev u t) {x y:Rat} (hv:vv L x=vv L y) {c:Rat->Int} (hc:Cut c) (hx:c x=1) (hy:c y≠1):¬E8 w c:=λhw=>by
 have hxy:x<y:=by
  rcases Fb y x with e | e
  ·rcases Classical.em (y=x) with e' | e'
   ·rw [e'] at hy; exact absurd hx hy
   ·have:=hc.mono y x (by grind) hy; omega
  ·exact e
 have hwv:=XG h hf hxy hv;rcases hc.val y with e | e | e
 ·exact hy e
 ·have:=UE hc e hw;have:=hwv.s;rw [Fj.2 (by assumption)] at this;exact hwv.n this.symm
 ·obtain ⟨s,hs,hd⟩:=sK hc h hf hw;obtain ⟨a,ha,hal⟩:=Qbv hc hw (pP hc hd) hs;obtain ⟨b,hb,hbr⟩:=IE hc hw (DI hc hd) hs;obtain ⟨q,q1,q2,q3⟩:=TC hc hx ha;obtain ⟨r,r1,r2,r3⟩:=wH hc hb e;have e1:=hal q q1 (Qq q3);have e2:=hbr r r1 (Qq r2);have hqr:=hc.lt q1 r1;have v1:vv L q<=vv L x:=L8 h q2;have v2:vv L y<=vv L r:=L8 h r3;have v3:vv L r<=vv L q:=L8 h hqr;have s1:=(XG h hf q2 (by omega)).s;have s2:=(XG h hf (x:=x) (y:=r) (by grind) (by omega)).s;omega
theorem OF {f:Uc} {L:Ud} (h:KC f L) {x y:Rat} (hxy:x<y) (hv:vv L x≠vv L y) {d:Rat} (dp:0<d):∃ q,x<=q/\q<=y/\Uw (ev f q)<d:=by
 obtain ⟨R,hR,hx,hy⟩:=LP x y;obtain ⟨e1,e1p,hl⟩:=loc hR h (w:=f) (u:=[1]) (λt=>by rw [Hw]; grind);obtain ⟨e2,e2p,_,e2b⟩:=Gl (Pi hR f) dp;obtain ⟨e,ep,h1,h2⟩:=min2 e1p e2p;have key:∀ n:Nat,∀ x,Uw x<=R->x<y->vv L x≠vv L y->y-x<=(n:Rat)*e->∃ q,x<=q/\q<=y/\Uw (ev f q)<d:=by
  intro n
  induction n with
  | zero=>intro x hx hxy _ hn; rw [show ((0:Nat):Rat)=0 from rfl] at hn; exfalso; clear hl; grind
  |
   succ n ih =>
   intro x hx hxy hv hn;have hstep:∀ z,Uw z<=R->x<z->z-x<=e->vv L x≠vv L z->Uw (ev f z)<d:=λz hz hxz hze hv=>by
    rcases hl x z hx hz hxz (Zg hze h1) with ⟨p,_⟩ | ⟨_,p1,p2,p3,p4⟩
    ·exact absurd p hv
    ·have hd:=Su (p:=f) hx hz hR (e:=e2) (d:=d) (by rw [Sx]; clear hl ih; constructor <;> grind) e2b;rw [<-p3] at p1 p4;clear hl ih p2 p3;rw [IN] at *;rcases U7 (ev f x) with ⟨a,a'⟩ | ⟨a,a'⟩ | ⟨a,a'⟩ <;> rcases U7 (ev f z) with ⟨b,b'⟩ | ⟨b,b'⟩ | ⟨b,b'⟩ <;> rw [a,b] at p4 <;> first | (exfalso; revert p4; decide) | skip
     all_goals first | (constructor <;> grind) | (exfalso; omega)
   rcases Fb (y-x) e with h3 | h3
   ·exact ⟨y,Qq hxy,Qo,hstep y hy hxy h3 hv⟩
   ·have hm:Uw (x+e)<=R:=VQ hx hy (by clear hl ih hstep; grind) (by clear hl ih hstep; grind);rcases Classical.em (vv L x=vv L (x+e)) with e0 | e0
    ·have hn':(((n+1:Nat):Rat))=(n:Rat)+1:=by push_cast; rfl
     rw [hn'] at hn;obtain ⟨q,q1,q2,q3⟩:=ih (x+e) hm (by clear hl ih hstep; grind) (by omega) (by clear hl ih hstep; grind);exact ⟨q,by clear hl ih hstep; grind,q2,q3⟩
    ·exact ⟨x+e,by clear hl ih hstep; grind,by clear hl ih hstep; grind,hstep (x+e) hm (by clear hl ih hstep; grind) (by clear hl ih hstep; grind) e0⟩
 obtain ⟨n,hn⟩:=Oa (z:=y-x) ep;exact key n x hx hxy hv hn
theorem Qpo {p:Uc} {x:Rat} (h:Tu p x≠0):∃ e:Rat,0<e/\∀ y,x<y->y-x<=e->Us (ev p y)=Tu p x:=by
 by_cases h0:Us (ev p x)=0
 ·have hx:=Fj.1 h0;rw [uS h0] at h ⊢;have hR:0<=Uw x+1:=by have:=Gz x; grind
  obtain ⟨e,e1,e2,e3⟩:=Gl (TD hR p) (Nj (x:=dv p x) λh'=>h (Fj.2 h'));refine ⟨e,e1,λy h1 h2=>?_⟩;have hy:Uw y<=Uw x+1:=by
   have:=Rt x (y-x);have e:x+(y-x)=y:=by grind
   have e':Uw (y-x)=y-x:=by unfold Uw; split <;> grind
   rw [e,e'] at this; grind
  have:=PR (p:=p) (by grind) hy hR h1 h2 Qo e3;rw [hx] at this;rw [<-this]; congr 1; grind
 ·rw [Lp h0] at h ⊢;obtain ⟨e,e1,e2⟩:=cF h;exact ⟨e,e1,λy h1 h2=>e2 y (by rw [Sx]; constructor <;> grind)⟩
def cq (P:Uc) (lo hi q:Rat):Int:=if q<=lo then 1 else if hi<q then -1 else if Us (ev P q)=0 then 0 else if Us (ev P q)=Tu P lo then 1 else -1
structure Vt (P:List Rat) (L:List (List Rat)) (lo hi:Rat):Prop where
 s:KC P L
 l:lo<hi
 v:vv L lo=vv L hi+1
variable {P:Uc} {L:Ud} {lo hi:Rat}
theorem Lf {q:Rat} (h:q<=lo):cq P lo hi q=1:=by unfold cq; rw [if_pos h]
theorem YP {q:Rat} (h:lo<hi) (h':hi<q):cq P lo hi q=-1:=by unfold cq; rw [if_neg (by grind),if_pos h']
theorem Er {q:Rat} (h1:lo<q) (h2:q<=hi):cq P lo hi q=if Us (ev P q)=0 then 0 else if Us (ev P q)=Tu P lo then 1 else -1:=by
 unfold cq; rw [if_neg (by grind),if_neg (by grind)]
theorem Vt.two (V:Vt P L lo hi) {q:Rat} (h1:lo<q) (h2:q<=hi):vv L q=vv L lo/\cq P lo hi q=1/\Us (ev P q)=Tu P lo\/vv L q=vv L hi/\cq P lo hi q≠1/\Tu P q=-Tu P lo/\Tu P lo≠0:=by
 have a:=L8 V.s h1;have b:vv L hi<=vv L q:=by
  rcases Classical.em (q=hi) with e | e
  ·rw [e]; exact Qn _
  ·exact L8 V.s (by grind)
 have hv:=V.v;rcases (show vv L q=vv L lo\/vv L q=vv L hi by omega) with e | e
 ·have hs:=OP V.s h1 e.symm;refine .inl ⟨e,?_,hs.s⟩;rw [Er h1 h2,hs.s,if_neg hs.n,if_pos rfl]
 ·obtain ⟨o1,o2⟩:=OS V.s h1 (by omega);refine .inr ⟨e,?_,o2,o1⟩;rw [Er h1 h2]
  split
  ·decide
  ·rename_i h0;rw [Lp h0] at o2;rw [if_neg (by omega)]; decide
theorem Vt.lowlo (V:Vt P L lo hi):Tu P lo≠0:=(OS V.s V.l V.v).1
theorem Vt.eq_lo (V:Vt P L lo hi) {q:Rat} (h1:lo<q) (h2:q<=hi) (h:cq P lo hi q=1):vv L q=vv L lo:=by
 rcases V.two h1 h2 with ⟨e,_⟩ | ⟨_,e,_⟩
 ·exact e
 ·exact absurd h e
theorem Vt.eq_hi (V:Vt P L lo hi) {q:Rat} (h1:lo<q) (h2:q<=hi) (h:cq P lo hi q≠1):vv L q=vv L hi:=by
 rcases V.two h1 h2 with ⟨_,e,_⟩ | ⟨e,_⟩
 ·exact absurd e h
 ·exact e
theorem Vt.hi1 (V:Vt P L lo hi):cq P lo hi hi≠1:=λh=>by have:=V.eq_lo V.l Qo h; have:=V.v; omega
theorem Vt.cut (V:Vt P L lo hi):Cut (cq P lo hi) where
 val q:=by unfold cq; split <;> (try split) <;> (try split) <;> (try split) <;> simp
 mono q r h h1:=by
  have hq:lo<q:=by
   rcases Fb q lo with e | e
   ·exact absurd (Lf e) h1
   ·exact e
  rcases Fb r hi with e | e
  ·have e1:=V.eq_hi hq (by grind) h1;rcases V.two (q:=r) (by grind) e with ⟨e2,_⟩ | ⟨e2,_,e3,e4⟩
   ·have:=L8 V.s h; have:=V.v; omega
   ·have hs:=OP V.s h (by omega);rcases V.two hq (by grind) with ⟨e5,_⟩ | ⟨_,_,e5,_⟩
    ·have:=V.v; omega
    ·rw [Er (by grind) e,hs.s,if_neg hs.n,e5,if_neg (by omega)]
  ·exact YP V.l e
 up q h:=by
  rcases Fb q lo with e | e
  ·obtain ⟨d,dp,hd⟩:=Qpo V.lowlo;obtain ⟨f,fp,f1,f2⟩:=min2 (a:=d) (b:=hi-lo) dp (by have:=V.l; grind);have h1:lo<lo+f:=by clear hd; grind
   have h2:lo+f<=hi:=by clear hd; grind
   have:=hd (lo+f) h1 (by clear hd; grind);exact ⟨lo+f,by clear hd; grind,by rw [Er h1 h2,this,if_neg V.lowlo,if_pos rfl]⟩
  ·have hh:q<=hi:=by
    rcases Fb q hi with e' | e'
    ·exact e'
    ·have:=YP (P:=P) V.l e'; omega
   rcases V.two e hh with ⟨e1,_,e2⟩ | ⟨_,e1,_⟩
   ·have hn:q≠hi:=λh=>by rw [h] at e1; have:=V.v; omega
    obtain ⟨d,dp,hd⟩:=cF (p:=P) (x:=q) (by rw [e2]; exact V.lowlo);obtain ⟨f,fp,f1,f2⟩:=min2 (a:=d) (b:=hi-q) dp (by clear hd; grind);have:=hd (q+f) (by rw [Sx]; clear hd; constructor <;> grind);exact ⟨q+f,by clear hd; grind,by rw [Er (by clear hd; grind) (by clear hd; grind),this,e2,if_neg V.lowlo,if_pos rfl]⟩
   ·exact absurd h e1
 dn q h:=by
  have hq:lo<q:=by
   rcases Fb q lo with e | e
   ·have:=Lf (P:=P) (hi:=hi) e; omega
   ·exact e
  rcases Fb q hi with e | e
  ·rw [Er hq e] at h
   split at h
   ·cases h
   rename_i h0
   split at h
   ·cases h
   rename_i h1;obtain ⟨d,dp,hd⟩:=cF h0;obtain ⟨f,fp,f1,f2⟩:=min2 (a:=d) (b:=(q-lo) / 2) dp (Lh (by clear hd; grind) (by decide));have h2:(q-lo) / 2*2=q-lo:=Gi (by decide);have:=hd (q-f) (by rw [Sx]; clear hd; constructor <;> grind);exact ⟨q-f,by clear hd; grind,by rw [Er (by clear hd; grind) (by clear hd; grind),this,if_neg h0,if_neg h1]⟩
  ·have h2:(q-hi) / 2*2=q-hi:=Gi (by decide);exact ⟨q-(q-hi) / 2,by grind,YP V.l (by grind)⟩
 lo:=⟨lo,Lf Qo⟩
 hi:=⟨hi+1,YP V.l (by grind)⟩
theorem Vt.van (V:Vt P L lo hi):E8 P (cq P lo hi):=by
 have hc:=V.cut;rcases QS hc P with h | ⟨s,hs,h⟩
 ·exact h
 ·exfalso;have e1:s=Tu P lo:=by
   obtain ⟨x,hx,hx1⟩:=pP hc h;obtain ⟨q,q1,q2,q3⟩:=TC hc hx (Lf (P:=P) (hi:=hi) (Qo (a:=lo)));have hq:q<=hi:=by
    rcases Fb q hi with e | e
    ·exact e
    ·have:=YP (P:=P) V.l e; omega
   rcases V.two q3 hq with ⟨_,_,e⟩ | ⟨_,e,_⟩
   ·rw [<-hx1 q q1 (Qq q2),e]
   ·exact absurd q1 e
  rcases hc.val hi with e | e | e
  ·exact V.hi1 e
  ·have h0:=jV hc e h;rw [Er V.l Qo] at e
   split at e
   ·omega
   ·split at e <;> omega
  ·obtain ⟨y,hy,hy1⟩:=DI hc h;obtain ⟨q,q1,q2,q3⟩:=wH hc hy e;have hq:lo<q:=hc.lt (Lf (P:=P) (hi:=hi) (Qo (a:=lo))) q1;have:=hy1 q q1 (Qq q2);rw [Er hq (Qq q3),this,if_neg hs,if_pos e1] at q1;cases q1
def uX (w:Uc) (lo hi:Rat):Prop:=Us (ev w hi)=0\/Us (ev w hi)≠Tu w lo
theorem Vt.has (V:Vt P L lo hi) {w u:Uc} (hf:∀ t,ev P t=ev w t*ev u t) {a b:Rat} (h1:lo<=a) (h2:a<b) (h3:b<=hi):uX w a b↔E8 w (cq P lo hi)/\cq P lo hi a=1/\cq P lo hi b≠1:=by
 have hc:=V.cut;have smno:vv L a=vv L b->¬uX w a b:=λh hh=>by
  have:=XG V.s hf h2 h;rcases hh with e | e
  ·rw [this.s] at e; exact this.n e
  ·exact e this.s
 by_cases ha:cq P lo hi a=1
 ·by_cases hb:cq P lo hi b=1
  ·have e1:=V.eq_lo (by grind) h3 hb;have e2:vv L a=vv L lo:=by
    rcases Classical.em (lo=a) with e | e
    ·rw [e]
    ·exact V.eq_lo (by grind) (by grind) ha
   exact ⟨λh=>absurd h (smno (by omega)),λh=>absurd hb h.2.2⟩
  ·have e1:=V.eq_hi (by grind) h3 hb;have e2:vv L a=vv L lo:=by
    rcases Classical.em (lo=a) with e | e
    ·rw [e]
    ·exact V.eq_lo (by grind) (by grind) ha
   have left:∀ s,LS w (cq P lo hi) s->s=Tu w a:=λs hs=>by
    obtain ⟨x,hx,hx1⟩:=hs;obtain ⟨q,q1,q2,q3⟩:=TC hc hx ha;have hqb:q<b:=by
     rcases Fb b q with e | e
     ·rcases Classical.em (b=q) with e' | e'
      ·rw [e'] at hb; exact absurd q1 hb
      ·have:=hc.mono b q (by clear hx1 smno; grind) hb; omega
     ·exact e
    have:=V.eq_lo (q:=q) (by clear hx1 smno; grind) (by clear hx1 smno; grind) q1;rw [<-(XG V.s hf q3 (by omega)).s,hx1 q q1 (Qq q2)]
   have right:∀ s,RS w (cq P lo hi) s->cq P lo hi b=-1->s=Us (ev w b):=λs hs hb=>by
    obtain ⟨y,hy,hy1⟩:=hs;obtain ⟨q,q1,q2,q3⟩:=wH hc hy hb;have hqa:=hc.lt ha q1;have:=V.eq_hi (q:=q) (by clear hy1 smno; grind) (by clear hy1 smno; grind) (by omega);have hs:=XG V.s hf q3 (by omega);have hl:=hy1 q q1 (Qq q2);have h0:Us (ev w q)≠0:=by
     have hs2:=XG V.s hf (x:=q) (y:=b) q3 (by omega);intro h0;obtain ⟨r,r1,r2⟩:=hc.dn q q1;have har:=hc.lt ha r2;have:=V.eq_hi (q:=r) (by clear hy1 smno; grind) (by clear hy1 smno; grind) (by omega);have hs3:=XG V.s hf (x:=r) (y:=q) r1 (by omega);have hs4:=hs3.s;rw [h0] at hs4; exact hs3.n hs4.symm
    rw [hs.s,Lp h0,hl]
   refine ⟨λh=>⟨?_,ha,hb⟩,λ⟨hw,_,_⟩=>?_⟩
   ·rcases QS hc w with e | ⟨s,NQ,hs⟩
    ·exact e
    ·exfalso;have l1:=left s (pP hc hs);have r1:Us (ev w b)=s:=by
      rcases hc.val b with e | e | e
      ·exact absurd e hb
      ·exact jV hc e hs
      ·exact (right s (DI hc hs) e).symm
     rcases h with h | h
     ·exact NQ (by rw [<-r1]; exact h)
     ·exact h (by rw [r1,l1])
   ·rcases hc.val b with e | e | e
    ·exact absurd e hb
    ·exact .inl (Fj.2 (UE hc e hw))
    ·obtain ⟨s,NQ,hs⟩:=sK hc V.s hf hw;have l1:=left _ (Qbv hc hw (pP hc hs) NQ);have r1:=right _ (IE hc hw (DI hc hs) NQ) e;exact .inr (by rw [<-l1,<-r1]; omega)
 ·have hla:lo<a:=by
   rcases Classical.em (lo=a) with e | e
   ·rw [<-e] at ha; exact absurd (Lf Qo) ha
   ·grind
  have hb:cq P lo hi b≠1:=by have:=hc.mono a b h2 ha; omega
  have e1:=V.eq_hi hla (by grind) ha;have e2:=V.eq_hi (q:=b) (by grind) h3 hb;exact ⟨λh=>absurd h (smno (by omega)),λh=>absurd h.2.1 ha⟩
theorem zZ {c c':Rat->Int} (hc:Cut c) (hc':Cut c') {q:Rat} (h:c q≠c' q):∃ r,(c r=-1/\c' r=1)\/(c r=1/\c' r=-1):=by
 rcases hc.val q with e | e | e <;> rcases hc'.val q with e' | e' | e'
 ·omega
 ·obtain ⟨r,r1,r2⟩:=hc.up q e;exact ⟨r,.inr ⟨r2,hc'.mono q r r1 (by omega)⟩⟩
 ·exact ⟨q,.inr ⟨e,e'⟩⟩
 ·obtain ⟨r,r1,r2⟩:=hc'.up q e';exact ⟨r,.inl ⟨hc.mono q r r1 (by omega),r2⟩⟩
 ·omega
 ·obtain ⟨r,r1,r2⟩:=hc'.dn q e';exact ⟨r,.inr ⟨hc.mono' r1 (by omega),r2⟩⟩
 ·exact ⟨q,.inl ⟨e,e'⟩⟩
 ·obtain ⟨r,r1,r2⟩:=hc.dn q e;exact ⟨r,.inl ⟨r2,hc'.mono' r1 (by omega)⟩⟩
 ·omega
theorem Vt.uniq (V:Vt P L lo hi) {c:Rat->Int} (hc:Cut c) (h1:c lo=1) (h2:c hi≠1) (hv:E8 P c) (q:Rat):c q=cq P lo hi q:=by
 rcases Classical.em (c q=cq P lo hi q) with e | e
 ·exact e
 ·exfalso;obtain ⟨r,⟨r1,r2⟩ | ⟨r1,r2⟩⟩:=zZ hc V.cut e
  ·have hl:=hc.lt h1 r1;have hh:r<=hi:=by
    rcases Fb r hi with e | e
    ·exact e
    ·have:=YP (P:=P) V.l e; omega
   have:=V.eq_lo hl hh r2;exact Qcd V.s (w:=P) (u:=[1]) (λt=>by rw [Hw]; grind) (x:=lo) (y:=r) (by omega) hc h1 (by omega) hv
  ·have hl:lo<r:=by
    rcases Fb r lo with e | e
    ·have:=Lf (P:=P) (hi:=hi) e; omega
    ·exact e
   have hh:r<=hi:=by
    rcases Fb r hi with e | e
    ·exact e
    ·have:=hc.mono hi r e h2; omega
   have:=V.eq_hi hl hh (by omega);exact Qcd V.s (w:=P) (u:=[1]) (λt=>by rw [Hw]; grind) (x:=r) (y:=hi) (by omega) hc r1 h2 hv
theorem Vt.same (V:Vt P L lo hi) {P':Uc} {L':Ud} {lo' hi':Rat} (V':Vt P' L' lo' hi') {g u u' U W:Uc} {k:Rat} (hk:k≠0) (h1:∀ t,ev P t=ev g t*ev u t) (h2:∀ t,ev P' t=ev g t*ev u' t) (h3:∀ t,k*ev g t=ev U t*ev P t+ev W t*ev P' t) {a b:Rat} (ha1:lo<=a) (ha2:lo'<=a) (ha:a=lo\/a=lo') (hb1:b<=hi) (hb2:b<=hi') (hb:b=hi\/b=hi'):(a<b/\uX g a b)↔∀ q,cq P lo hi q=cq P' lo' hi' q:=by
 have hc:=V.cut;have hc':=V'.cut;constructor
 ·rintro ⟨hab,hg⟩
  obtain ⟨g1,g2,g3⟩:=(V.has h1 ha1 hab hb1).1 hg;obtain ⟨g4,g5,g6⟩:=(V'.has h2 ha2 hab hb2).1 hg;intro q;refine (V.uniq hc' (by
   rcases Classical.em (lo=a) with e | e
   ·rw [e]; exact g5
   ·exact hc'.mono' (q:=lo) (r:=a) (by grind) (by omega)) (λh=>?_) (So hc' h1 g4) q).symm
  rcases Classical.em (b=hi) with e | e
  ·rw [<-e] at h; exact g6 h
  ·have:=hc'.mono b hi (by grind) g6; omega
 ·intro h;have hcc:cq P' lo' hi'=cq P lo hi:=funext λq=>(h q).symm
  have e1:cq P lo hi a=1:=by
   rcases ha with rfl | rfl
   ·exact Lf Qo
   ·rw [h]; exact Lf Qo
  have e2:cq P lo hi b≠1:=by
   rcases hb with rfl | rfl
   ·exact V.hi1
   ·rw [h]; exact V'.hi1
  have hab:a<b:=by
   rcases Fb b a with e | e
   ·rcases Classical.em (b=a) with e' | e'
    ·rw [e'] at e2; exact absurd e1 e2
    ·have:=hc.mono b a (by grind) e2; omega
   ·exact e
  have v1:=V.van;have v2:=V'.van;rw [hcc] at v2;have hg:E8 g (cq P lo hi):=by
   have a1:E8 (Gb U P) (cq P lo hi):=So hc (p:=P) (q:=U) (λt=>by rw [Ut]; grind) v1;have a2:E8 (Gb W P') (cq P lo hi):=So hc (p:=P') (q:=W) (λt=>by rw [Ut]; grind) v2;have a3:=RX (λt=>Fz t _ _) a1 a2;refine LH hc (k:=1 / k) (λt=>?_) a3;rw [Fz,Ut,Ut,<-h3];have:1 / k*(k*ev g t)=1 / k*k*ev g t:=by grind
   rw [this,show 1 / k*k=1 from Zd hk]; grind
  exact ⟨hab,(V.has h1 ha1 hab hb1).2 ⟨hg,e1,e2⟩⟩
end Orq
namespace Orq
theorem Qcu:∀ (M:Nat) (f:Nat->Nat),(∀ i,i<=M->f i<M)->∃ i j,i<j/\j<=M/\f i=f j
 | 0,f,h=>absurd (h 0 (Qn _)) (Nat.not_lt_zero _)
 |
  M+1,f,h=>by
  rcases Classical.em (∃ i,i<=M/\f i=f (M+1)) with ⟨i,h1,h2⟩ | hn
  ·exact ⟨i,M+1,by omega,Qn _,h2⟩
  ·have hne:∀ i,i<=M->f i≠f (M+1):=λi hi e=>hn ⟨i,hi,e⟩
   obtain ⟨i,j,h1,h2,h3⟩:=Qcu M (λi=>if f i=M then f (M+1) else f i) λi hi=>by
    have a1:=h i (by omega);have a2:=h (M+1) (Qn _);have a3:=hne i hi;show (if f i=M then f (M+1) else f i)<M
    split <;> omega
   refine ⟨i,j,h1,by omega,?_⟩;have a1:=hne i (by omega);have a2:=hne j h2
   split at h3 <;> split at h3 <;> omega
def dg (B k i:Nat):Nat:=k / B^i % B
theorem sY (B k i:Nat):dg B k (i+1)=dg B (k / B) i:=by unfold dg; rw [Nat.pow_succ,Nat.mul_comm,Nat.div_div_eq_div_mul]
theorem oN {B:Nat}:∀ (N:Nat) {k k':Nat},k<B^N->k'<B^N->(∀ i,i<N->dg B k i=dg B k' i)->k=k'
 | 0,k,k',h,h',_=>by rw [Y4] at h h'; omega
 |
  N+1,k,k',h,h',he=>by
  have h0:=he 0 (by omega);unfold dg at h0;rw [Y4,Nat.div_one,Nat.div_one] at h0;have hB:0<B:=by
   rcases Q6 B with e | e
   ·rw [e,Zq,Y3] at h; omega
   ·exact e
  have h1:=oN N (k:=k / B) (k':=k' / B) (X1 (by rw [Zo,<-Zq]; exact h)) (X1 (by rw [Zo,<-Zq]; exact h')) λi hi=>by
   rw [<-sY,<-sY]; exact he (i+1) (by omega)
  rw [<-Nat.mod_add_div k B,<-Nat.mod_add_div k' B,h0,h1]
def cd (B:Nat):Nat->(Nat->Nat)->Nat
 | 0,_=>0
 | E+1,x=>x 0+B*cd B E λe=>x (e+1)
theorem Qj2 {B:Nat}:∀ (E:Nat) {x:Nat->Nat},(∀ e,e<E->x e<B)->cd B E x<B^E
 | 0,_,_=>by simp [cd]
 |
  E+1,x,h=>by
  have h1:=h 0 (by omega);have h2:=Qj2 E (x:=λe=>x (e+1)) λe he=>h (e+1) (by omega)
  simp only [cd];have h3:B*cd B E (λe=>x (e+1))+B<=B*B^E:=by
   rw [<-Nat.mul_succ]; exact Zs _ h2
  rw [Zq,Zo (B^E)]; omega
theorem iI {B:Nat}:∀ (E:Nat) {x y:Nat->Nat},(∀ e,e<E->x e<B)->(∀ e,e<E->y e<B)->cd B E x=cd B E y->∀ e,e<E->x e=y e
 | 0,_,_,_,_,_,e,he=>by omega
 |
  E+1,x,y,hx,hy,h,e,he=>by
  have h1:=hx 0 (by omega);have h2:=hy 0 (by omega);simp only [cd] at h;have e0:x 0=y 0:=by
   have:=congrArg (· % B) h;simp only [Vy] at this;rwa [Xp h1,Xp h2] at this
  have e1:cd B E (λe=>x (e+1))=cd B E (λe=>y (e+1)):=Nat.eq_of_mul_eq_mul_left (by omega:0<B) (by omega);cases e with
  | zero=>exact e0
  | succ e=>exact iI E (λe he=>hx (e+1) (by omega)) (λe he=>hy (e+1) (by omega)) e1 e (by omega)
def sm:Nat->(Nat->Int)->Int
 | 0,_=>0
 | n+1,f=>sm n f+f n
theorem Qdy (f g:Nat->Int):∀ n,sm n (λi=>f i-g i)=sm n f-sm n g
 | 0=>rfl
 | n+1=>by simp only [sm,Qdy f g n]; omega
theorem Cv {f g:Nat->Int}:∀ n,(∀ i,i<n->f i=g i)->sm n f=sm n g
 | 0,_=>rfl
 | n+1,h=>by simp only [sm,Cv n (λi hi=>h i (by omega)),h n (by omega)]
theorem Qdx {f:Nat->Int} {b:Nat}:∀ n,(∀ i,i<n->(f i).natAbs<=b)->(sm n f).natAbs<=n*b
 | 0,_=>by simp [sm]
 |
  n+1,h=>by
  have h1:=Qdx n λi hi=>h i (by omega)
  have h2:=h n (by omega);simp only [sm];rw [Z6]; omega
theorem ZG {f:Nat->Int}:∀ n,(∀ i,i<n->f i=0)->sm n f=0
 | 0,_=>rfl
 | n+1,h=>by simp only [sm,ZG n (λi hi=>h i (by omega)),h n (by omega)]; rfl
theorem gZ (f:Nat->Int) (m:Nat):∀ n,sm (m+n) f=sm m f+sm n λi=>f (m+i)
 | 0=>by simp [sm]
 | n+1=>by rw [<-Yc]; simp only [sm,gZ f m n]; omega
theorem gX (f:Nat->Int) (J:Nat):∀ b,sm (b*J) f=sm b λi=>sm J λj=>f (i*J+j)
 | 0=>by simp [sm]
 | b+1=>by rw [Z6,gZ,gX f J b]; rfl
theorem MP {f:Nat->Int} {k:Nat}:∀ n,k<n->(∀ i,i<n->i≠k->f i=0)->sm n f=f k
 | 0,h,_=>by omega
 |
  n+1,h,h1=>by
  simp only [sm];rcases Y9 (Nat.le_of_lt_succ h) with e | e
  ·rw [MP n e λi hi=>h1 i (by omega),h1 n (by omega) (by omega)]; omega
  ·subst e; rw [ZG k λi hi=>h1 i (by omega) (by omega)]; omega
theorem Qnu {M:Nat->Nat->Int} {h N E H:Nat} (hM:∀ e i,(M e i).natAbs<=h) (hc:(2*(N*(h*H))+1)^E<(H+1)^N) :
 ∃ v:Nat->Int,(∀ i,(v i).natAbs<=H)/\(∃ i,i<N/\v i≠0)/\∀ e,e<E->sm N (λi=>M e i*v i)=0:=by
 obtain ⟨T,hT⟩:=nmE (N*(h*H));rw [<-hT] at hc;have hv:∀ k i,dg (H+1) k i<=H:=λk i=>Nat.le_of_lt_succ (Z9 _ (by omega))
 have hs:∀ k e,(sm N λi=>M e i*(dg (H+1) k i:Int)).natAbs<=T:=λk e=>by
  rw [hT];refine Qdx N λi _=>?_
  rw [Yh,Xk];exact Zk (hM e i) (hv k i)
 have him:∀ k e,((sm N λi=>M e i*(dg (H+1) k i:Int))+T).toNat<2*T+1:=λk e=>by have:=hs k e; omega
 obtain ⟨i,j,h1,h2,h3⟩:=Qcu ((2*T+1)^E) (λk=>cd (2*T+1) E λe=>((sm N λi=>M e i*(dg (H+1) k i:Int))+T).toNat) λk _=>Qj2 E λe _=>him k e
 have h4:=iI E (λe _=>him i e) (λe _=>him j e) h3;refine ⟨λn=>(dg (H+1) i n:Int)-dg (H+1) j n,λn=>?_,?_,λe he=>?_⟩
 ·have a1:=hv i n;have a2:=hv j n;show ((dg (H+1) i n:Int)-dg (H+1) j n).natAbs<=H;omega
 ·rcases Classical.em (∃ n,n<N/\(dg (H+1) i n:Int)-dg (H+1) j n≠0) with e | e
  ·exact e
  ·exfalso;have:i=j:=oN (B:=H+1) N (by omega) (by omega) λn hn=>by
    rcases Classical.em (dg (H+1) i n=dg (H+1) j n) with e' | e'
    ·exact e'
    ·exact absurd ⟨n,hn,by omega⟩ e
   omega
 ·have a1:=h4 e he;have a2:=hs i e;have a3:=hs j e;have:(sm N λn=>M e n*(dg (H+1) i n:Int))=sm N λn=>M e n*(dg (H+1) j n:Int):=by omega
  have e1:=Qdy (λn=>M e n*(dg (H+1) i n:Int)) (λn=>M e n*(dg (H+1) j n:Int)) N;rw [this] at e1;rw [Cv N (g:=λn=>M e n*(dg (H+1) i n:Int)-M e n*(dg (H+1) j n:Int)) λn _=>Int.mul_sub _ _ _,e1]; omega
def Up:W9->Rat->Rat
 | [],_=>0
 | a::p,t=>(a:Rat)+t*Up p t
def sq:Nat->(Nat->Rat)->Rat
 | 0,_=>0
 | n+1,f=>sq n f+f n
theorem Tv {f g:Nat->Rat}:∀ n,(∀ i,i<n->f i=g i)->sq n f=sq n g
 | 0,_=>rfl
 | n+1,h=>by simp only [sq,Tv n (λi hi=>h i (by omega)),h n (by omega)]
theorem gG (f g:Nat->Rat):∀ n,sq n (λi=>f i+g i)=sq n f+sq n g
 | 0=>by simp only [sq]; grind
 | n+1=>by simp only [sq,gG f g n]; grind
theorem QG (c:Rat) (f:Nat->Rat):∀ n,sq n (λi=>c*f i)=c*sq n f
 | 0=>by simp only [sq]; grind
 | n+1=>by simp only [sq,QG c f n]; grind
theorem Nn {f:Nat->Rat}:∀ n,(∀ i,i<n->f i=0)->sq n f=0
 | 0,_=>rfl
 | n+1,h=>by simp only [sq,Nn n (λi hi=>h i (by omega)),h n (by omega)]; grind
theorem Az (f:Nat->Rat):∀ n,sq (n+1) f=f 0+sq n λi=>f (i+1)
 | 0=>by simp only [sq]; grind
 | n+1=>by rw [sq,Az f n]; simp only [sq]; grind
theorem Qkv {f:Nat->Rat} {b:Rat}:∀ n,(∀ i,i<n->Uw (f i)<=b)->Uw (sq n f)<=(n:Rat)*b
 | 0,_=>by rw [show ((0:Nat):Rat)=0 from rfl]; simp only [sq,He]; grind
 |
  n+1,h=>by
  have h1:=Qkv n λi hi=>h i (by omega)
  have h2:=h n (by omega);have h3:=Rt (sq n f) (f n);have hn':(((n+1:Nat):Rat))=(n:Rat)+1:=by push_cast; rfl
  rw [hn']; simp only [sq]; clear h; grind
def gc:W9->Nat->Nat->Int
 | [],_,_=>0
 | c::B,k,j=>(if k=0/\j=0 then c else 0)+(if k=0 then 0 else gc B (k-1) j)-(if j=0 then 0 else gc B k (j-1))
def gB:W9->Nat
 | []=>0
 | c::B=>max c.natAbs (2*gB B)
theorem HZ:∀ (B:W9) (k j:Nat),B.length<=k+j->gc B k j=0
 | [],_,_,_=>rfl
 |
  c::B,k,j,h=>by
  simp only [Q7] at h;simp only [gc];rw [if_neg (by omega)];have e1:(if k=0 then 0 else gc B (k-1) j)=0:=by
   split
   ·rfl
   ·exact HZ B _ _ (by omega)
  have e2:(if j=0 then 0 else gc B k (j-1))=0:=by
   split
   ·rfl
   ·exact HZ B _ _ (by omega)
  rw [e1,e2]; rfl
theorem Qax:∀ (B:W9) (k j:Nat),(gc B k j).natAbs<=gB B
 | [],_,_=>Qi _
 |
  c::B,k,j=>by
  have h1:=Qax B (k-1) j;have h2:=Qax B k (j-1);simp only [gc,gB];by_cases hk:k=0 <;> by_cases hj:j=0 <;> simp only [hk,hj,true_and,and_true,false_and,and_false,if_true,if_false] <;> (try subst hk) <;> (try subst hj) <;> omega
theorem Qay:∀ (B:W9) (b:Nat),B.length=b+1->(gc B 0 b).natAbs=(B.getD b 0).natAbs
 | [],_,h=>by simp at h
 | [c],0,_=>by simp [gc]
 | c::d::B,0,h=>by simp at h
 |
  c::B,b+1,h=>by
  have ih:=Qay B b (by simpa using h);simp only [gc];simp only [Jz,Q3];rw [if_pos trivial,if_neg (Nat.succ_ne_zero b),<-ih]; omega
def E2 (F:Nat->Nat->Int) (K J:Nat) (x y:Rat):Rat:=sq K λk=>sq J λj=>(F k j:Rat)*(y^k*x^j)
theorem wP (F G:Nat->Nat->Int) (K J:Nat) (x y:Rat):E2 (λk j=>F k j+G k j) K J x y=E2 F K J x y+E2 G K J x y:=by
 unfold E2;rw [<-gG];refine Tv K λk _=>?_
 rw [<-gG];exact Tv J λj _=>by push_cast; grind
theorem Qad (c:Int) (F:Nat->Nat->Int) (K J:Nat) (x y:Rat):E2 (λk j=>F k j*c) K J x y=(c:Rat)*E2 F K J x y:=by
 unfold E2;rw [<-QG];refine Tv K λk _=>?_
 rw [<-QG];exact Tv J λj _=>by push_cast; grind
theorem Qae (φ:Nat->Nat->Nat->Int) (v:Nat->Int) (K J:Nat) (x y:Rat):∀ N,E2 (λk j=>sm N λn=>φ n k j*v n) K J x y=sq N λn=>(v n:Rat)*E2 (φ n) K J x y
 |
  0=>by
  simp only [sq,sm];unfold E2;refine Nn K λk _=>Nn J λj _=>?_
  rw [show ((0:Int):Rat)=0 from rfl]; grind
 |
  N+1=>by
  simp only [sq];rw [<-Qae φ v K J x y N,<-Qad,<-wP];rfl
theorem VI (t:Rat) (i:Nat):∀ k,t^(i+k)=t^i*t^k
 | 0=>by rw [Xw,Xa]; grind
 | k+1=>by rw [<-Yc,Z3,Z3,VI t i k]; grind
theorem MM (f:Nat->Rat):∀ (i n:Nat),sq (i+n) (λk=>if i<=k then f (k-i) else 0)=sq n f
 | i,0=>Nn _ λk hk=>by rw [if_neg (by omega)]
 |
  i,n+1=>by
  rw [<-Yc]; simp only [sq];rw [MM f i n,if_pos (by omega),Jd]
def GG (i j':Nat) (F:Nat->Nat->Int) (k j:Nat):Int:=if i<=k then (if j'<=j then F (k-i) (j-j') else 0) else 0
theorem TO (F:Nat->Nat->Int) (i j' K J:Nat) (x y:Rat):E2 (GG i j' F) (i+K) (j'+J) x y=y^i*x^j'*E2 F K J x y:=by
 unfold E2;rw [<-QG,<-MM _ i K];refine Tv _ λk _=>?_
 by_cases hk:i<=k
 ·rw [if_pos hk,<-QG,<-MM _ j' J];refine Tv _ λj _=>?_
  unfold GG;rw [if_pos hk];by_cases hj:j'<=j
  ·rw [if_pos hj,if_pos hj];have e1:y^k=y^i*y^(k-i):=by rw [<-VI]; congr 1; omega
   have e2:x^j=x^j'*x^(j-j'):=by rw [<-VI]; congr 1; omega
   rw [e1,e2]; grind
  ·rw [if_neg hj,if_neg hj,show ((0:Int):Rat)=0 from rfl]; grind
 ·rw [if_neg hk];refine Nn _ λj _=>?_
  unfold GG;rw [if_neg hk,show ((0:Int):Rat)=0 from rfl]; grind
def fA (A:W9) (k j:Nat):Int:=if j=0 then A.getD k 0 else 0
theorem Qct (y:Rat):∀ (A:W9) (K:Nat),A.length<=K->sq K (λk=>((A.getD k 0:Int):Rat)*y^k)=Up A y
 | [],K,_=>by rw [Nn]; rfl; intro i _; simp
 | a::A,0,h=>by simp at h
 |
  a::A,K+1,h=>by
  have ih:=Qct y A K (by simpa using h);rw [Az];simp only [Up,Zn,Q3,Xa];rw [<-ih,<-QG];have:(sq K λi=>((A.getD i 0:Int):Rat)*y^(i+1))=sq K λi=>y*(((A.getD i 0:Int):Rat)*y^i):=Tv K λi _=>by rw [Z3]; grind
  rw [this]; grind
theorem Qph (A:W9) (K J:Nat) (x y:Rat) (h:A.length<=K):E2 (fA A) K (J+1) x y=Up A y:=by
 rw [<-Qct y A K h];refine Tv K λk _=>?_
 rw [Az,Nn]
 ·simp only [fA,if_true,Xa]; grind
 ·intro j _;simp only [fA];rw [if_neg (by omega),show ((0:Int):Rat)=0 from rfl]; grind
theorem Qme (x y:Rat):∀ (B:W9) (K J:Nat),B.length<=K->B.length<=J->E2 (gc B) K J x y=Up B (y-x)
 |
  [],K,J,_,_=>by
  unfold E2;simp only [gc,Up];exact Nn K λk _=>Nn J λj _=>by rw [show ((0:Int):Rat)=0 from rfl]; grind
 | c::B,0,J,h,_=>by simp at h
 | c::B,K+1,0,_,h=>by simp at h
 |
  c::B,K+1,J+1,h1,h2=>by
  have i1:=Qme x y B K (J+1) (by simpa using h1) (by simp at h2; omega);have i2:=Qme x y B (K+1) J (by simp at h1; omega) (by simpa using h2);have s1:=TO (gc B) 1 0 K (J+1) x y;have s2:=TO (gc B) 0 1 (K+1) J x y;rw [Zt,Jk 1 K] at s1;rw [Zt,Jk 1 J] at s2;rw [i1] at s1;rw [i2] at s2;have e0:E2 (fA [c]) (K+1) (J+1) x y=(c:Rat):=by rw [Qph [c] (K+1) J x y (by simp)]; simp only [Up]; grind
  have e1:gc (c::B)=λk j=>(fA [c] k j+GG 1 0 (gc B) k j)+GG 0 1 (gc B) k j*(-1):=by
   funext k j;simp only [gc,fA,GG];by_cases hk:k=0 <;> by_cases hj:j=0
   ·subst hk; subst hj; simp
   ·subst hk; simp [hj,show 1<=j by omega]
    try omega
   ·subst hj;obtain ⟨m,rfl⟩:∃ m,k=m+1:=⟨k-1,by omega⟩;simp
   ·obtain ⟨m,rfl⟩:∃ m,k=m+1:=⟨k-1,by omega⟩;obtain ⟨i,rfl⟩:∃ i,j=i+1:=⟨j-1,by omega⟩;simp; omega
  rw [e1,wP (λk j=>fA [c] k j+GG 1 0 (gc B) k j) (λk j=>GG 0 1 (gc B) k j*(-1)),wP (fA [c]) (GG 1 0 (gc B)),Qad,e0,s1,s2];simp only [Up,Xa,show y^1=y by rw [Z3,Xa]; grind,show x^1=x by rw [Z3,Xa]; grind];rw [show (((-1:Int)):Rat)=-1 from rfl];grind
end Orq
