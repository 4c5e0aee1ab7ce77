/- C2 D1 E1 AlgL F1 F2 F3 F4 F5 T1 T2 T3 T4 T5 T6 T7 T8 T9 -/
import Derived.Test.YtbhhcpcpionelaaGreatPart04
import Derived.Test.YtbhhcpcpionelaaGreatPart00
set_option linter.all false
namespace Orr
open Go Go.Proofs Tryz
set_option maxRecDepth 10000
theorem Ty {l:List Pt} {i:Nat} {p:Pt} (h:l[i]? = some p):(l.map U3)[i]? = some [pl p.c.x,pl p.c.y,sg p.c.d,mg p.c.d,.int .i64 p.id]:=H9 h
theorem Ds (l:List Pt):∀ c∈l.map U3,c.length=5:=Ql3 l λ_=>rfl
theorem pN {lx ly:Uo} {px py:Ui} {x y:LV} {d:Int} (hx:IsInts lx px) (hy:IsInts ly py) (hd:Gk x y d) (hk:Cs 4294967294 1073741824 (Crv.mk px py d)) (id:Int):Uf 193 [.agg [.row lx,.row ly,x,y,.int .i64 id]] [.agg (U3 ⟨Crv.norm (Crv.mk px py d),id⟩)]:=by
 have cd:=Pw hd (Qc hk.d (by omega));by_cases h0:d=0
 ·subst h0;have ck:Cs 4294967294 1073741824 (Crv.mk px py 1):=⟨hk.x,hk.y,show U5 1<=4294967294 by decide,hk.lx,hk.ly⟩;have cm:=VI hx hy (Uu 1) ck (by decide);have e:Crv.norm (Crv.mk px py 1)=Crv.norm (Crv.mk px py 0):=by simp only [Crv.norm,Crv.g,Crv.d']; rfl
  rw [e] at cm;obtain ⟨b,l,rfl,rfl,_⟩:=hd;exact Uc func193 rfl [.k cd,.k Nv,.t (by simp),.k (RJ (z:=1) (by decide)),.k cm] rfl
 ·have cm:=VI hx hy hd hk h0;obtain ⟨b,l,rfl,rfl,_⟩:=hd;exact Uc func193 rfl [.k cd,.k Nv,.f (by simpa using h0),.k cm] rfl
theorem Qli {l:List Pt} (id:Int) (hl:l.length<1073741824):Uf 192 [.agg [pts l],.oi id] [.oi (P6 l id:Int),.one (.bool (has l id))]:=by
 refine Gb func192 rfl ?_;refine W9 [] rfl ?_;refine ct 2 (S:=Unit) (λ_=>[(1,.v (.oi id)),(2,.v (.one (.ow 0 0))),(6,.v (.oi (P6 l id:Int)))]) (λ_=>[.blk 194 [pts l]]) (λ_=>True) rfl ?_ ?_
 ·refine Ue (S:=Nat) 1 (λL1 k=>(6,.v (.oi k))::L1) (λ_=>[.blk 194 [pts l]]) (λk=>l.length-k) (λk=>k<=l.length/\∀ j p,j<k->l[j]? = some p->p.id<id) 0 ⟨Qi _,λj p h=>by omega⟩ rfl rfl λk ⟨hk,hlt⟩=>?_
  by_cases h:k<l.length
  ·obtain ⟨p,hp⟩:=gxE (l:=l) (i:=k) h;by_cases hid:p.id<id
   ·refine Ua [.t (by simp; omega),.x (Ty hp),.t (by simpa using hid)] rfl ?_;exact rd (k+1) (by omega) ⟨h,λj q hj hq=>by
     rcases Zd j k with h2 | h2
     ·exact hlt j q h2 hq
     ·have:j=k:=by omega
      subst this; rw [hp] at hq; injection hq with hq; rw [<-hq]; exact hid⟩ rfl
   ·have e:=BX hlt (.inr ⟨p,hp,hid⟩);refine W9 [.t (by simp; omega),.x (Ty hp),.f (by simpa using hid)] rfl ?_;rw [e];exact rc () trivial rfl
  ·obtain rfl:k=l.length:=by omega
   have e:=BX hlt (.inl rfl);refine W9 [.f (by simp),.f rfl] rfl ?_;rw [e];exact rc () trivial rfl
 ·intro _ _;by_cases h:P6 l id<l.length
  ·obtain ⟨p,hp⟩:=gxE (l:=l) (i:=P6 l id) h;have e:has l id=decide (p.id=id):=by simp [has,hp]
   rw [e];exact Ub [.g 30 true (by simp; omega),.x (Ty hp)] rfl
  ·have e:has l id=false:=by simp [has,Qz (J5 h)]
   rw [e];exact Ub [.g 30 false (by simp; omega)] rfl
theorem As {l:List Pt}:Uf 164 [.agg [pts l]] [.one (pts l)]:=Uc func164 rfl [] rfl
theorem xR {lx ly:Uo} {px py:Ui} {x y:LV} {d id:Int} {l:List Pt} (hx:IsInts lx px) (hy:IsInts ly py) (hd:Gk x y d) (hk:Cs 4294967294 1073741824 (Crv.mk px py d)) (hl:l.length<=1000000) :
 Uf 160 [.agg [pts l],.agg [.row lx,.row ly,x,y,.int .i64 id]] [.agg [pts (if VQ l (Pt.mk (Crv.norm (Crv.mk px py d)) id)=0 then put l (Pt.mk (Crv.norm (Crv.mk px py d)) id) else l)],.oi (VQ l (Pt.mk (Crv.norm (Crv.mk px py d)) id))]:=by
 have ca:=Qli (l:=l) id (by omega);have cf:=pN hx hy hd hk id;obtain ⟨b,r,rfl,rfl,_⟩:=hd;obtain ⟨q,hq⟩:=nmE (Pt.mk (Crv.norm (Crv.mk px py d)) id);have hqi:q.id=id:=by rw [hq]
 rw [<-hq] at cf ⊢;have hpl:=qY l id;by_cases h1:has l id=true
 ·have e:VQ l q=6:=by simp [VQ,hqi,h1]
  rw [e,if_neg (by decide)];exact Uc func160 rfl [.k ca,.t h1] rfl
 by_cases h2:6<=l.length
 ·have e:VQ l q=9:=by simp [VQ,hqi,h1,h2]
  rw [e,if_neg (by decide)];exact Uc func160 rfl [.k ca,.f (by simpa using h1),.t (by simp; omega)] rfl
 have e:VQ l q=0:=by simp [VQ,hqi,h1,h2]
 rw [e,if_pos rfl];have s1:∀ c∈(l.map U3).take (P6 l id),c.length=5:=λc hc=>Ds l c (Qn hc)
 have s3:∀ c∈(l.map U3).drop (P6 l id),c.length=5:=λc hc=>Ds l c (Qy hc)
 refine Uc func160 rfl [.k ca,.f (by simpa using h1),.f (by simp; omega),.i (P6 l id),.s s1,.k cf,.i (P6 l id),.s s3] rfl ?_ ?_
 ·simp [put,hqi,pts,Yl,Vg,U3]
 ·simp [Uw];exact ⟨by omega,hpl,λ_ _=>rfl,by omega,by omega,hpl⟩
theorem uO {l:List Pt} (hok:∀ p∈l,Qmn 4294967294 1073741824 p) (hl:l.length<1073741824):Uf 169 [.agg [pts l]] [.one (pts (Rw l))]:=by
 refine Gb func169 rfl ?_;refine W9 [.o 3 41 5] rfl ?_;refine Ue (S:=Nat) 2 (λL1 i=>(12,.v (.oi i))::(3,.v (.one (.orow 1 5 none)))::L1) (λi=>[.blk 194 [pts l],.row false 41 5 (((l.take i).foldl Nm []).map U3)]) (λi=>l.length-i) (λi=>i<=l.length) 0 (Qi _) rfl rfl λi hi=>?_
 by_cases hlt:i<l.length
 ·obtain ⟨p,hp⟩:=gxE (l:=l) (i:=i) hlt;obtain ⟨hn,hk⟩:=hok p (Qa hp);have hws:=Ti Nm [] l hp;have hwl:=JO l i;have hwm:=YQ l i;obtain ⟨o,ho⟩:=nmE ((l.take i).foldl Nm []);rw [<-ho] at hws hwl hwm ⊢;refine W9 [.t (by simp; omega),.x (Ty hp)] rfl ?_;refine Ue (S:=Nat) 3 (λL1 k=>(18,.v (.oi k))::(6,.v (.one (.bool ((o.take k).any λq=>Ai p.c q.c))))::L1) (λk=>[.blk 194 [pts l],.row false 41 5 (o.map U3),.blk 41 (U3 p)]) (λk=>o.length-k) (λk=>k<=o.length) 0 (Qi _) rfl rfl λk hk2=>?_
  by_cases hk3:k<o.length
  ·obtain ⟨q,hq⟩:=gxE (l:=o) (i:=k) hk3;obtain ⟨hqn,hqk⟩:=hok q (hwm q (Qa hq));have hany:((o.take (k+1)).any λq=>Ai p.c q.c)=(((o.take k).any λq=>Ai p.c q.c) || Ai p.c q.c):=by rw [Y6,hq,List.any_append]; simp
   cases hb:(o.take k).any λq=>Ai p.c q.c with
   |
    true =>
    rw [hb] at hany;refine Ua [.t (by simp; omega),.i k,.x (Ty hq),.t rfl,.r 29 (v:=.one (.bool ((o.take (k+1)).any λq=>Ai p.c q.c))) (by rw [hany]; rfl)] rfl ?_;exact rd (k+1) (by omega) hk3 rfl
   |
    false =>
    rw [hb] at hany;refine Ua [.t (by simp; omega),.i k,.x (Ty hq),.f rfl,.k (Qhw hn hqn hk hqk),.r 29 (v:=.one (.bool ((o.take (k+1)).any λq=>Ai p.c q.c))) (by rw [hany]; rfl)] rfl ?_;exact rd (k+1) (by omega) hk3 rfl
  ·obtain rfl:k=o.length:=by omega
   rw [Q6];cases hb:o.any λq=>Ai p.c q.c with
   |
    true =>
    have e:Nm o p=o:=by unfold Nm; rw [if_pos hb]
    exact go tt [.f (by simp),.f rfl] rfl (by simp [Uw]; omega) (rd (i+1) (by omega) hlt (by rw [hws,e]; rfl))
   |
    false =>
    have e:Nm o p=o++[p]:=by unfold Nm; rw [if_neg (by rw [hb]; decide)]
    exact go tt [.f (by simp),.t rfl] rfl (by simp [Uw]; omega) (rd (i+1) (by omega) hlt (by rw [hws,e,Yd]; rfl))
 ·obtain rfl:i=l.length:=by omega
  exact Ub [.f (by simp)] rfl (by rw [Q6]; rfl) trivial
theorem Qkk (q:Rat):U7 [-q.num,(q.den:Int)]:=by
 have:=q.den_nz;simp [U7,trim,this]
theorem Qqn {s:Nat} {q:Rat} (h:Qs s q):Bd s [-q.num,(q.den:Int)]:=λz hz=>by
 simp at hz;rcases hz with rfl | rfl
 ·rw [Hu]; exact h.1
 ·exact h.2
theorem JS {x y x' y':LV} {n d:Int} (h1:Gk x y n) (h2:Gk x' y' d) (hn:U5 n<=4294967295) (hd:U5 d<=4294967295) (hq:Qs 4294967295 (Hg n d)):Uf 120 [.agg [x,y,x',y']] [.agg (qa (Hg n d))]:=by
 have c1:=PH h1 h2 hn hd;obtain ⟨b,l,rfl,rfl,_⟩:=h1;obtain ⟨b',l',rfl,rfl,_⟩:=h2;exact Uc func120 rfl [.k c1,.k (PX (Uu _) hq.1),.k (Nw hq)] rfl
theorem Cq {k:Crv} (hn:QK k) (hk:Cs 4294967294 1073741824 k):Uf 215 [.agg (cl k)] [.agg (cl k)]:=by
 have h0:k.d≠0:=by have:=hn.2.2.1; omega
 have cm:=VI (Ga k.x) (Ga k.y) (Uu k.d) hk h0;rw [show Crv.mk k.x k.y k.d=k from rfl,Crv.norm_of hn] at cm;exact Uc func215 rfl [.k (Pw (Uu k.d) (Qc hk.d (by omega))),.k Nv,.f (by simpa using h0),.k cm] rfl
theorem VA {a b:Crv} (ha:QK a) (hb:QK b) (ca:Cb a) (cb:Cb b):Uf 207 [.agg (cl a),.agg (cl b)] [pr (Fz a b)]:=by
 have l1:=ca.lx;have l2:=cb.lx;have l3:=Fh b.x a.d;have l4:=Fh a.x b.d;exact Uc func207 rfl [.k (Cq ha (ca.mono (by omega) (by omega))),.k (Cq hb (cb.mono (by omega) (by omega))),.k (Sy (by omega) (Uv cb.x (by omega)) (Qc ca.d (by omega))),.k (Sy (by omega) (Uv ca.x (by omega)) (Qc cb.d (by omega))),.k (UN (by omega) (by omega) (Uv (Fp cb.x ca.d) (by omega)) (Uv (Fp ca.x cb.d) (by omega)))] rfl
theorem VL {a b:Crv} (ha:QK a) (hb:QK b) (ca:Cb a) (cb:Cb b):Uf 208 [.agg (cl a),.agg (cl b)] [pr (Fy a b)]:=by
 have l1:=ca.ly;have l2:=cb.ly;have l3:=Fh b.y a.d;have l4:=Fh a.y b.d;exact Uc func208 rfl [.k (Cq ha (ca.mono (by omega) (by omega))),.k (Cq hb (cb.mono (by omega) (by omega))),.k (Sy (by omega) (Uv cb.y (by omega)) (Qc ca.d (by omega))),.k (Sy (by omega) (Uv ca.y (by omega)) (Qc cb.d (by omega))),.k (UN (by omega) (by omega) (Uv (Fp cb.y ca.d) (by omega)) (Uv (Fp ca.y cb.d) (by omega)))] rfl
def Sl (ps:Uj):Uo:=ps.map λp=>[pl p]
theorem H5 {ps:Uj} {i:Nat} {p:Ui} (h:ps[i]? = some p):(Sl ps)[i]? = some [pl p]:=H9 h
theorem xN {p q:Ui}:Uf 206 [pr p,pr q] [pr (Dx p q)]:=by
 by_cases h:0<p.length
 ·exact Uc func206 rfl [.t (by simp; omega)] rfl (by simp only [Dx]; rw [if_pos h]) trivial
 ·exact Uc func206 rfl [.f (by simp; exact Qh (by omega))] rfl (by simp only [Dx]; rw [if_neg h]) trivial
theorem lU:Uf 205 [.oi 1] [.oi 2]:=Uc func205 rfl [.t rfl,.t rfl] rfl
theorem lF:Uf 205 [.oi 2] [.oi 2]:=Uc func205 rfl [.f rfl,.t rfl] rfl
theorem lG:Uf 205 [.oi 3] [.oi 3]:=Uc func205 rfl [.f rfl,.f rfl,.t rfl] rfl
theorem lH:Uf 205 [.oi 4] [.oi 4]:=Uc func205 rfl [.f rfl,.f rfl,.f rfl,.t rfl,.t rfl] rfl
theorem lR:Uf 205 [.oi 5] [.oi 4]:=Uc func205 rfl [.f rfl,.f rfl,.f rfl,.f rfl,.t rfl] rfl
theorem oN {k i0 i1 i2 i3 l j0 j1 j2 j3:Int}:Uf 239 [.agg [.int .i64 k,.int .i64 i0,.int .i64 i1,.int .i64 i2,.int .i64 i3],.agg [.int .i64 l,.int .i64 j0,.int .i64 j1,.int .i64 j2,.int .i64 j3]] [.one (.bool (B8 [k,i0,i1,i2,i3] [l,j0,j1,j2,j3]))]:=by
 by_cases hk:k=l
 ·subst hk;rw [show B8 [k,i0,i1,i2,i3] [k,j0,j1,j2,j3]=B8 [i0,i1,i2,i3] [j0,j1,j2,j3] from by simp [B8]];refine Gb func239 rfl ?_;refine W9 [.f (by simp)] rfl ?_;refine Ue (S:=Nat) 2 (λL1 i=>(19,.v (.oi i))::L1) (λ_=>[.blk 124 [.int .i64 k,.int .i64 i0,.int .i64 i1,.int .i64 i2,.int .i64 i3],.blk 124 [.int .i64 k,.int .i64 j0,.int .i64 j1,.int .i64 j2,.int .i64 j3]]) (λi=>4-i) (λi=>i<=4/\B8 ([i0,i1,i2,i3].drop i) ([j0,j1,j2,j3].drop i)=B8 [i0,i1,i2,i3] [j0,j1,j2,j3]) 0 ⟨by omega,rfl⟩ rfl rfl λi ⟨hi,he⟩=>?_
  rw [<-he];rcases (show i=0\/i=1\/i=2\/i=3\/i=4 by omega) with rfl | rfl | rfl | rfl | rfl
  ·by_cases h:i0=j0
   ·exact go tt [.t rfl,.i 0,.i 0,.f (by simpa using h)] rfl (by simp [Uw]) (rd 1 (by omega) ⟨by omega,by simp [B8,h]⟩ rfl)
   ·exact Ub [.t rfl,.i 0,.i 0,.t (by simpa using h),.i 0] rfl (by simp [B8,h]) trivial
  ·by_cases h:i1=j1
   ·exact go tt [.t rfl,.i 1,.i 1,.f (by simpa using h)] rfl (by simp [Uw]) (rd 2 (by omega) ⟨by omega,by simp [B8,h]⟩ rfl)
   ·exact Ub [.t rfl,.i 1,.i 1,.t (by simpa using h),.i 1] rfl (by simp [B8,h]) trivial
  ·by_cases h:i2=j2
   ·exact go tt [.t rfl,.i 2,.i 2,.f (by simpa using h)] rfl (by simp [Uw]) (rd 3 (by omega) ⟨by omega,by simp [B8,h]⟩ rfl)
   ·exact Ub [.t rfl,.i 2,.i 2,.t (by simpa using h),.i 2] rfl (by simp [B8,h]) trivial
  ·by_cases h:i3=j3
   ·exact go tt [.t rfl,.i 3,.i 3,.f (by simpa using h)] rfl (by simp [Uw]) (rd 4 (by omega) ⟨by omega,by simp [B8,h]⟩ rfl)
   ·exact Ub [.t rfl,.i 3,.i 3,.t (by simpa using h),.i 3] rfl (by simp [B8,h]) trivial
  ·exact Ub [.f rfl] rfl (by simp [B8]) trivial
 ·exact Uc func239 rfl [.t (by simpa using hk)] rfl (by simp [B8,hk]) trivial
abbrev iK:Un:=[.int .i64 0,.int .i64 0,.int .i64 0,.int .i64 0,.int .i64 0,.nils,.int .i64 0]
def Fc (l:List Ct):Uo:=l.map D3
theorem YF {l:List Ct} {i:Nat} {c:Ct} (h:l[i]? = some c):(Fc l)[i]? = some (D3 c):=H9 h
theorem Mw (l:List Ct):(Fc l).length=l.length:=by simp [Fc]
theorem Qbq (l:List Ct):∀ c∈Fc l,c.length=7:=λc hc=>by
 obtain ⟨x,_,rfl⟩:=Zg.1 hc; rfl
theorem Qc2 {O:List Ct} {z:Un} {c:Ct} {k m:Nat} {l2:Uo} (hk:k<=O.length) (hp:ZT O c O.length=k) (hm:m=O.length-k) (h2:l2.take m=((Fc O++[z]).drop k).take m) :
 ((Fc O++[z]).take (k+1)++(l2.take m++(Fc O++[z]).drop (k+1+m))).set k (D3 c)=Fc (YP O c):=by
 rw [h2,<-Q9,yK (Fc O) z (D3 c) (by rw [Mw]; omega) (by rw [Mw]; omega)];simp [YP,hp,Fc,Yl,Vg]
theorem IZ {l:List Ct} (hl:∀ c∈l,Pb c.p) (hn:l.length≤1000000):Uf 194 [.one (.row (Fc l))] [.one (.row (Fc (Fj l)))]:=by
 have hcl:=Mw l;refine Gb func194 rfl ?_;refine W9 [.o 3 126 7] rfl ?_;refine Ue (S:=Nat) 1 (λL1 i=>(9,.v (.oi i))::(3,.v (.one (.orow 0 7 none)))::L1) (λi=>[.row false 126 7 (Fc (Fj (l.take i)))]) (λi=>l.length-i) (λi=>i<=l.length) 0 (Qi _) rfl rfl λi hi=>?_
 by_cases hlt:i<l.length
 ·obtain ⟨c,hc⟩:=gxE (l:=l) (i:=i) hlt;have hst:=tP hc;have hcp:=hl c (Qa hc);obtain ⟨O,hO⟩:=nmE (Fj (l.take i));have hOl:O.length=i:=by rw [hO,Ck,Qu]; omega
  rw [<-hO] at hst ⊢;refine W9 [.t (by simp [hcl]; omega),.x (YF hc)] rfl ?_;refine Ue (S:=Nat) 2 (λL1 k=>(6,.v (.oi k))::L1) (λk=>[.row false 126 7 (Fc O),.blk 126 (D3 c)]) id (λk=>k<=O.length/\ZT O c k=ZT O c O.length) (Fc O).length ⟨by rw [Mw]; exact Ql _,by rw [Mw]⟩ rfl rfl λk ⟨hk,hp⟩=>?_
  have hz:∀ y∈[iK],y.length=7:=λy hy=>by rw [Qj.1 hy]; rfl
  have h77:∀ y∈Fc O++[iK],y.length=7:=λy hy=>by
   rcases Qr.1 hy with hy | hy
   ·exact Qbq O y hy
   ·exact hz y hy
  cases k with
  |
   zero =>
   have hp:ZT O c O.length=0:=by rw [<-hp]; rfl
   refine go tt [.g 17 false (by simp),.f rfl,.s (sz:=7) hz,.r 36 (eI (b:=((0+1:Nat):Int)) (by simp)),.i (0+1),.i (0),.s (sz:=7) (λy hy=>h77 y (Qn hy)),.i (O.length),.k (Hd hcp.t (by have:=hcp.l; omega) (Uv hcp.b (by omega))),.i (0)] rfl (by simp [Uw,Mw]; omega) ?_;exact rd (i+1) (by omega) hlt (by rw [hst,<-Qc2 (z:=iK) (l2:=(Fc O++[iK]).take ((Fc O++[iK]).length-0)) (k:=0) (m:=O.length) (by omega) hp (by omega) (by congr 1; exact Qo (by simp))]; rfl)
  |
   succ k =>
   obtain ⟨x,hx⟩:=gxE (l:=O) (i:=k) (by omega);by_cases hlc:yR c x=true
   ·refine go tt [.g 17 true (by simp),.r 22 (eI (b:=(k:Int)) (by simp)),.i k,.x (YF hx),.k oN,.t hlc,.r 29 (eI (b:=(k:Int)) (by simp))] rfl (by simp [Uw,Mw]; omega) ?_;exact rd k (by simp) ⟨by omega,by rw [<-hp,Qji hx hlc]⟩ rfl
   ·have hlc:yR c x=false:=by simpa using hlc
    have hp:ZT O c O.length=k+1:=by rw [<-hp,Qei hx hlc]
    refine go tt [.g 17 true (by simp),.r 22 (eI (b:=(k:Int)) (by simp)),.i k,.x (YF hx),.k oN,.f hlc,.s (sz:=7) hz,.r 36 (eI (b:=((k+1+1:Nat):Int)) (by simp)),.i (k+1+1),.i (k+1),.s (sz:=7) (λy hy=>h77 y (Qy (Qn hy))),.i (O.length-(k+1)),.k (Hd hcp.t (by have:=hcp.l; omega) (Uv hcp.b (by omega))),.i (k+1)] rfl (by simp [Uw,Mw]; omega) ?_;exact rd (i+1) (by omega) hlt (by rw [hst,<-Qc2 (z:=iK) (l2:=((Fc O++[iK]).drop (k+1)).take ((Fc O++[iK]).length-(k+1))) (k:=k+1) (m:=O.length-(k+1)) (by omega) hp (by omega) (by congr 1; exact Qo (by simp))]; rfl)
 ·obtain rfl:i=l.length:=by omega
  rw [Q6];exact Ub [.f (by simp [hcl])] rfl
end Orr
namespace Orr
def Ff (p:Ui):Int:=p.getD (p.length-1) 0
def DG (p:Ui):Option Ui:=if p.length<=64/\(p.all λz=>Nat.ble (U5 z) 16777216)=true then some p else none
def iW (q:Rat):Option Rat:=if U5 q.num<=16777216/\U5 (q.den:Int)<=16777216 then some q else none
def Sp (p:Ui):Int:=(Rj p:Nat)
def Bi (p:Ui) (c:Int):Ui:=trim (p.map (· / c))
def He (p:Ui):Int:=if Ff p<0 then -Sp p else Sp p
def U9 (p:Ui):Ui:=if p.length=0 then [] else Bi p (He p)
def mono (i:Nat) (x:Int):Ui:=List.replicate i 0++[x]
def kJ (b:Ui) (c:Int):Nat->Ui×Ui->Ui×Ui
 | 0,s=>s
 |
  i+1,(q,r) =>
  kJ b c i (A0 (Fl q c) (mono i (if r.length=b.length+i then Ff r else 0)),Bz (Fl r c) (Ge (trim (mono i (if r.length=b.length+i then Ff r else 0))) b))
def Pl (a b:Ui):Ui:=(kJ b (Ff b) (a.length+1-b.length) ([],a)).2
def Nh (a b r:Ui):Ui:=if (a.length+1-b.length) % 2=1/\Ff b<0 then D5 r else r
def JL (r:Ui):Ui:=if r.length=0 then [] else Bi r (Sp r)
def Rl (a b:Ui):Ui:=JL (Nh a b (Pl a b))
def OO (b:Ui):Nat->Ui->Ui->Option Ui
 | 0,a,q=>if a.length=0 then some q else none
 | i+1,a,q=>if a.length<b.length+i then OO b i a q else if Ff a % Ff b=0 then OO b i (Bz a (Ge (trim (mono i (Ff a / Ff b))) b)) (q.set i (Ff a / Ff b)) else none
def ZS (a b:Ui):Option Ui:=if b.length=0 then none else (OO b (a.length+1-b.length) a (List.replicate (a.length+1-b.length) 0)).bind λq=>DG (trim q)
def GN:Nat->Ui->Ui->Option Ui
 | 0,_,_=>none
 | k+1,a,b=>if b.length=0 then some a else (DG (Rl a b)).bind λr=>GN k b r
def ZM (a b:Ui):Option Ui:=(GN 66 (U9 a) (U9 b)).map U9
def qZ (a b:Ui):Option Ui:=(ZM [] a).bind λg=>ZM g b
def Sv (a:Ui):Option Ui:=if (U9 a).length<2 then some (U9 a) else (DG (Gz (U9 a))).bind λd=>(ZM (U9 a) d).bind λg=>ZS (U9 a) g
def FS:Nat->Ui->Option Uj
 | 0,_=>none
 | k+1,g=>if g.length<2 then some [] else (DG (Gz g)).bind λd=>(ZM g d).bind λh=>(ZS g h).bind λw=>(FS k h).bind λl=>some (w::l)
def CY:Uj->Option Uj
 | []=>some []
 | [w]=>some [w]
 | w::v::l=>(ZS w v).bind λf=>(CY (v::l)).bind λr=>some (f::r)
def WV:Nat->Ui->Uj->Option Ui
 | _,p,[]=>some p
 | i,p,f::l=>if i % 2=0 then (DG (Ge p f)).bind λq=>WV (i+1) q l else WV (i+1) p l
def rT (a:Ui):Option Ui:=if (U9 a).length=0 then some [] else (FS 66 (U9 a)).bind λl=>(CY l).bind λfs=>WV 0 [1] fs
def wO:Nat->Ui->Ui->Option Uj
 | 0,_,_=>none
 | k+1,a,b=>if b.length=0 then some [] else (DG (Rl a b)).bind λr=>(wO k b (D5 r)).bind λl=>some (b::l)
def La (p:Ui):Option Uj:=(Sv p).bind λa=>if a.length=0 then none else (DG (Gz a)).bind λd=>(wO 66 a (U9 d)).bind λl=>some (a::l)
def S6 (sg:Ui->Int) (s:Nat×Int) (p:Ui):Nat×Int:=if sg p=0 then s else (if s.2=-(sg p) then s.1+1 else s.1,sg p)
def Bu (sg:Ui->Int) (l:Uj):Nat:=(l.foldl (S6 sg) (0,0)).1
def Bv (l:Uj) (q:Rat):Nat:=Bu (λp=>Hr p q) l
def Rx (l:Uj) (lo hi:Rat):Int:=if G7 hi lo<0 then 0 else (Bv l lo:Int)-(Bv l hi:Int)
def KF (p:Ui):Int:=Int.sign (Ff p)
def QQ (p:Ui):Int:=if p.length % 2=0 then -Int.sign (Ff p) else Int.sign (Ff p)
def VY (l:Uj):Int:=(Bu QQ l:Int)-(Bu KF l:Int)
def QX:Ui->Nat:=λl=>l.foldl (λm z=>if m<z.natAbs then z.natAbs else m) 0
def Gm (p:Ui):Rat:=Rat.divInt (((Ff p).natAbs:Int)+(QX (p.take (p.length-1)):Int)) ((Ff p).natAbs:Int)
def mid (a b:Rat):Rat:=Rat.divInt (a.num*(b.den:Int)+b.num*(a.den:Int)) ((a.den:Int)*(b.den:Int)*2)
def Aq (p:Ui) (c:Uj):Nat->Rat->Rat->Int->Option (List Tm)
 | 0,_,_,_=>none
 | k+1,lo,hi,n=>if n=0 then some [] else if n=1 then some [⟨p,lo,hi⟩] else (iW (mid lo hi)).bind λm=>(Aq p c k lo m (Rx c lo m)).bind λl=>(Aq p c k m hi (n-Rx c lo m)).bind λr=>some (l++r)
def HL (p:Ui):Option (List Tm):=(La p).bind λc=>(Sv p).bind λq=>(iW (Gm q)).bind λb=>Aq q c 100000 (-b) b (VY c)
def Tm.point (a:Tm):Bool:=decide (0<=G7 a.lo a.hi)
def low (p:Ui) (q:Rat):Int:=if Hr p q≠0 then Hr p q else Hr (Gz p) q
def KN (p:Ui) (lo hi:Rat):Bool:=decide (Hr p hi=0\/Hr p hi≠low p lo)
def Fe (a:Tm) (t:Rat):Int :=
 if a.point=true then G7 a.lo t else if G7 t a.lo<=0 then 1 else if 0<G7 t a.hi then -1 else if Hr a.p t=0 then 0 else if Hr a.p t=low a.p a.lo then 1 else -1
def OZ (a:Tm):Option Tm:=if a.point=true then some a else (iW (mid a.lo a.hi)).bind λm =>
 some (if Fe a m=0 then ⟨a.p,m,m⟩ else if Fe a m=-1 then ⟨a.p,a.lo,m⟩ else ⟨a.p,m,a.hi⟩)
def Gv (p:Ui):Nat:=p.foldl (λn z=>max n (U5 z)) 0
def Pf (a b:Tm):Nat:=64+2*(U5 a.lo.num+U5 a.hi.num+U5 b.lo.num+U5 b.hi.num)+4*(a.p.length+b.p.length)*(Gv a.p+Gv b.p+(a.p.length+b.p.length)+8)
def BG (a b:Rat):Rat:=Rat.divInt (a.num*(b.den:Int)-b.num*(a.den:Int)) ((a.den:Int)*(b.den:Int))
def C6 (a b:Tm):Bool:=decide (G7 a.hi b.lo<=0/\¬((a.point=true/\b.point=true)/\G7 a.hi b.lo=0))
def CQ:Nat->Tm->Tm->Option (Tm×Tm×Int)
 | 0,a,b=>some (a,b,0)
 |
  k+1,a,b=>if C6 a b=true then some (a,b,-1) else if C6 b a=true then some (a,b,1) else
  if 0<=G7 (BG a.hi a.lo) (BG b.hi b.lo) then (OZ a).bind λx=>CQ k x b else (OZ b).bind λx=>CQ k a x
def KZ (a b:Tm):Option Int:=if a.point=true then some (-Fe b a.lo) else if b.point=true then some (Fe a b.lo) else
 let lo:=if 0<G7 b.lo a.lo then b.lo else a.lo
 let hi:=if G7 b.hi a.hi<0 then b.hi else a.hi
 if G7 lo hi<0 then (qZ a.p b.p).bind λg=>if 1<g.length/\KN g lo hi=true then some 0 else (CQ (Pf a b) a b).bind λr=>some r.2.2
 else (CQ (Pf a b) a b).bind λr=>some r.2.2
def sgF (c:Uj):Nat->Tm->Option Tm
 | 0,a=>some a
 | k+1,a=>if a.point=true\/Rx c a.lo a.hi=0 then some a else (OZ a).bind λx=>sgF c k x
def WA (p:Ui) (a:Tm):Option Int:=if p.length=0 then some 0 else if a.point=true then some (Hr p a.lo) else
 (qZ p a.p).bind λg=>if 1<g.length/\KN g a.lo a.hi=true then some 0 else (La p).bind λc=>(sgF c (64+2*(U5 a.lo.num+U5 a.hi.num)+4*(a.p.length+p.length)*(Gv a.p+Gv p+(a.p.length+p.length)+8)) a).bind λx=>some (Hr p x.hi)
def Oo:Tm->List Tm->Option Tm
 | b,[]=>some b
 | b,a::l=>(KZ a b).bind λc=>Oo (if c<0 then a else b) l
def JC (a:Tm):List Tm->Option (Option Tm)
 | []=>some none
 | r::l=>(KZ r a).bind λc=>if 0<c then some (some r) else JC a l
def VG (p:Ui):Option (List Tm):=(rT p).bind λq=>if q.length=0 then some [] else HL q
def HT (p:Ui) (a:Tm):Option (Option Tm):=(VG p).bind λl=>JC a l
end Orr
namespace Orr
open Go Go.Proofs Tryz
set_option maxRecDepth 10000
theorem Ll {p:Ui} (tp:U7 p) (h:p.length≠0):Ff p≠0:=Rm tp (by omega)
theorem NJ {p:Ui} (h:p.length≠0):Ff p∈p:=Qa (Rt (by omega))
theorem Mf {s:Nat} {p:Ui} (h:Bd s p):U5 (Ff p)<=s:=Gj h _
theorem Ly {p:Ui}:∀ z∈p,Sp p∣z:=QM
theorem ZG {p:Ui} (tp:U7 p) (h:p.length≠0):Sp p≠0:=λh0=>Ll tp h (Int.zero_dvd.1 (h0 ▸ Ly _ (NJ h)))
theorem XR {p:Ui} (h:Bd 4294967295 p):U5 (Sp p)<=4294967295:=TS h
theorem bO {p:Ui} (tp:U7 p) (h:p.length≠0):He p≠0:=by
 have:=ZG tp h;unfold He; split <;> omega
theorem WH {p:Ui}:∀ z∈p,He p∣z:=λz hz=>by
 unfold He; split
 ·exact Int.neg_dvd.2 (Ly z hz)
 ·exact Ly z hz
theorem Qc7 {p:Ui} (h:Bd 4294967295 p):U5 (He p)<=4294967295:=by
 unfold He; split
 ·rw [Hu]; exact XR h
 ·exact XR h
theorem SE {s:Nat} {p:Ui} (h:Bd s p) (c:Int):Bd s (Bi p c):=H7 (US h c)
theorem EX (p:Ui) (c:Int):(Bi p c).length<=p.length:=Qc (Ha _) (by simp)
theorem Oz (p:Ui) (c:Int):U7 (Bi p c):=H6 _
theorem Qec {p:Ui} (h:Pb p) (c:Int):Pb (Bi p c):=⟨Oz _ _,Qc (EX _ _) h.l,SE h.b c⟩
theorem FO:Pb []:=⟨rfl,by simp,I5⟩
theorem Rh {p:Ui} (h:Pb p):Pb (U9 p):=by
 unfold U9; split
 ·exact FO
 ·exact Qec h _
theorem Pb.bd {p:Ui} (h:Pb p):Bd 4294967295 p:=Uv h.b (by omega)
theorem Pb.ln {p:Ui} (h:Pb p):p.length<274877906944:=Z3 h.l (by omega)
theorem Pb.ln' {p:Ui} (h:Pb p):p.length<8589934592:=Z3 h.l (by omega)
theorem Od {p q:Ui} (tp:U7 p) (h:DG p=some q):q=p/\Pb p:=by
 unfold DG at h
 split at h
 ·rename_i hc;injection h with h;refine ⟨h.symm,tp,hc.1,λz hz=>?_⟩;have:=Vb.1 hc.2 z hz;exact Za this
 ·cases h
theorem pT {p:Ui} {g:Int} (hl:p.length<274877906944) (hp:Bd 4294967295 p) (hg:U5 g≤4294967295) (h0:g≠0) (hd:∀ z∈p,g∣z):Uf 300 [pr p,.agg (G6 g)] [pr (Bi p g)]:=by
 refine Gb func300 rfl ?_;refine Ua [.r 9 (eI (b:=(p.length:Int)) (by simp)),.i p.length,.i p.length,.r 12 (eI (b:=(p.length:Int)) (by simp))] rfl ?_;rw [Eg λk=>G6 (p.getD k 0 / g)];refine Ue (S:=Nat) 2 (λL1 k=>(13,.v (.oi k))::L1) (λk=>[.blk 37 (G6 g),.row false 37 2 (BE (λk=>G6 (p.getD k 0 / g)) [.bool false,.nils] p.length k)]) (λk=>p.length-k) (λk=>k<=p.length) 0 (Qi _) rfl rfl λk hk=>?_
 by_cases hlt:k<p.length
 ·have hg2:=Rt hlt;refine go tt [.t (by simp; omega),.x (Su hg2),.k (Ac (Uu _) (Uu _) (Gj hp k) hg h0 (Yn (hd _ (Qa hg2)))),.i k] rfl (by simp [Uw,An]; omega) ?_;have e:=Oj (λk=>G6 (p.getD k 0 / g)) [.bool false,.nils] hlt;rw [e];exact rd (k+1) (by omega) hlt rfl
 ·obtain rfl:k=p.length:=by omega
  have e:BE (λk=>G6 (p.getD k 0 / g)) [.bool false,.nils] p.length p.length=(p.map (· / g)).map G6:=by
   rw [Oi];refine Xl λi=>?_
   by_cases hi:i<p.length
   ·simp [Jl hi,List.getD,Qf hi]
   ·simp [Qz,hi]
  rw [e];exact Ub [.f (by simp),.k (Nu (Ga (p.map (· / g))) (by simp; exact hl) (US hp g))] rfl
theorem UM {p:Ui} (hl:p.length<8589934592) (hp:Bd 4294967295 p):Uf 301 [.one (.row [[pl p]])] [.agg (G6 (Sp p))]:=by
 refine Gb func301 rfl ?_;refine W9 [.o 3 37 2] rfl ?_;refine Ue (S:=Nat) 2 (λL1 i=>(8,.v (.oi i))::(3,.v (.one (.orow 1 2 none)))::L1) (λi=>[.blk 37 [.bool false,.nils],.row false 37 2 (if i=0 then [] else p.map G6)]) (λi=>1-i) (λi=>i<=1) 0 (Qi _) rfl rfl λi hi=>?_
 rcases (show i=0\/i=1 by omega) with rfl | rfl
 ·refine Ua [.t rfl,.x (i:=0) (xs:=[pl p]) rfl,.s (NL p)] rfl ?_;exact rd 1 (by omega) (by omega) rfl
 ·exact Ub [.f rfl,.k (oH (Ga p) hp)] rfl
theorem Qa3 {p:Ui} (tp:U7 p) (hl':p.length<8589934592) (hp:Bd 4294967295 p):Uf 282 [pr p] [.agg (G6 (if p.length=0 then 0 else He p)),pr (U9 p)]:=by
 have hl:p.length<274877906944:=by omega
 have cn:=Hd tp hl hp;by_cases h0:p.length=0
 ·have e:p=[]:=Qh h0;subst e;exact Uc func282 rfl [.k cn,.t rfl] rfl (by simp [Ew,U9]; rfl) trivial
 ·have hpf:U9 p=Bi p (He p):=by unfold U9; rw [if_neg h0]
  rw [if_neg h0,hpf];have co:=pT hl hp (Qc7 hp) (bO tp h0) WH;by_cases hneg:Ff p<0
  ·have e:He p=-Sp p:=by unfold He; rw [if_pos hneg]
   rw [e] at co ⊢;exact Uc func282 rfl [.k cn,.f (by simpa using h0),.k (UM hl' hp),.k (Co tp hl hp),.t (by simpa [Ff] using hneg),.k (PX (Uu _) (XR hp)),.k co] rfl
  ·have e:He p=Sp p:=by unfold He; rw [if_neg hneg]
   rw [e] at co ⊢;exact Uc func282 rfl [.k cn,.f (by simpa using h0),.k (UM hl' hp),.k (Co tp hl hp),.f (by simpa [Ff] using hneg),.k co] rfl
theorem Ae {p:Ui} (hp:Pb p):Uf 274 [pr p] [pr (U9 p)] :=
 Uc func274 rfl [.k (Qa3 hp.t hp.ln' hp.bd)] rfl
theorem Ph (p:Ui):Uf 131 [pr p] [.oi ((p.length:Int)-1)]:=by
 have h:Uf 131 [pr p] [.oi (((p.map G6).length:Int)-1)]:=Gb func131 rfl (ln 0 rfl rfl λhl=>Ub [] rfl rfl (by simp [Uw] at hl ⊢; omega));rw [Zl] at h; exact h
theorem Ij (i:Nat) (x:Int):(mono i x).length=i+1:=by simp [mono]
theorem SD {s i:Nat} {x:Int} (h:U5 x<=s):Bd s (mono i x):=λz hz=>by
 simp only [mono,Qr,Qj] at hz;rcases hz with hz | rfl
 ·rw [(List.mem_replicate.1 hz).2,Dc]; exact Qi _
 ·exact h
def stq (c:Int) (i:Nat) (x:Int) (q:Ui):Ui:=A0 (Fl q c) (mono i x)
def str (b:Ui) (c:Int) (i:Nat) (x:Int) (r:Ui):Ui:=Bz (Fl r c) (Ge (trim (mono i x)) b)
theorem Qmx {u t i:Nat} {c x:Int} {q:Ui} (hq:Bd u q) (hc:U5 c<=t) (hx:U5 x<=u):Bd (u+t+8) (stq c i x q) :=
 Uv (I6 (Fp hq hc) (SD hx)) (by omega)
theorem Qiv {c x:Int} {i:Nat} {q:Ui}:(stq c i x q).length<=max q.length (i+1):=by
 have h:=Ep (Fl q c) (mono i x);have h1:=Fh q c;rw [Ij] at h;unfold stq; omega
theorem OK {i:Nat} {x:Int} {b:Ui}:(Ge (trim (mono i x)) b).length<=i+b.length:=by
 have h:=Ru (trim (mono i x)) b;have h1:=Ha (mono i x);rw [Ij] at h1; omega
theorem sD {u t i:Nat} {x:Int} {b:Ui} (hb:Bd t b) (hx:U5 x<=u) (hi:i<=64):Bd (u+t+7) (Ge (trim (mono i x)) b) :=
 Se (H7 (SD hx)) hb (Z3 (Ha _) (by rw [Ij]; omega))
theorem uR {u t i:Nat} {c x:Int} {b r:Ui} (hr:Bd u r) (hb:Bd t b) (hc:U5 c<=t) (hx:U5 x<=u) (hi:i<=64):Bd (u+t+8) (str b c i x r) :=
 Uv (Cn (Fp hr hc) (sD hb hx hi)) (by omega)
theorem OW {c x:Int} {i:Nat} {b r:Ui}:(str b c i x r).length<=max r.length (i+b.length):=by
 have h:=Mg (Fl r c) (Ge (trim (mono i x)) b);have h1:=Fh r c;have h2:=OK (i:=i) (x:=x) (b:=b);unfold str; omega
theorem yA (i:Nat) (x:Int):((List.replicate (i+1) (0:Int)).map G6).set i (G6 x)=(mono i x).map G6:=by
 rw [rR,mono];congr 1;refine Xl λj=>?_
 simp only [Yj,List.getElem?_append,Jv,Y3];by_cases h:j=i
 ·subst h; simp
 ·rw [if_neg (by omega)];by_cases h2:j<i
  ·simp [h2]; omega
  ·rw [if_neg (by omega),if_neg h2];cases hj:j-i with
   | zero=>omega
   | succ m=>simp
theorem nO (i:Nat) {x:Int} {y:Un} (h:y.map FA=G6 x):(((List.replicate (i+1) [LV.bool false,LV.nils]).set i y).map λc=>c.map FA)=(mono i x).map G6:=by
 rw [Ka,SZ,h]; exact yA i x
theorem ZP {b:Ui} {c:Int} {i:Nat} {q r:Ui} {x:Int} (hx:x=if r.length=b.length+i then Ff r else 0):kJ b c (i+1) (q,r)=kJ b c i (stq c i x q,str b c i x r):=by
 subst hx; rfl
theorem Qab {a b:Ui} (ha:Pb a) (hb:Pb b) (h0:b.length≠0):Uf 298 [pr a,pr b] [pr (kJ b (Ff b) (a.length+1-b.length) ([],a)).1,pr (Pl a b),.oi ((a.length+1-b.length:Nat):Int),.oi 0]:=by
 have hal:=ha.l;have hbl:=hb.l;have hlb:U5 (Ff b)<=16777216:=Mf hb.b;obtain ⟨c,hc⟩:=nmE (Ff b);have cl:=Co hb.t hb.ln hb.bd;rw [show b.getD (b.length-1) 0=c from hc.symm] at cl;obtain ⟨k,hk⟩:=nmE (a.length+1-b.length);unfold Pl;rw [<-hc,<-hk];rw [<-hc] at hlb;refine Gb func298 rfl ?_;refine Ua [.z 4,.k (Hd ha.t ha.ln ha.bd),.k (Hd hb.t hb.ln hb.bd),.f (by simpa using h0),.k cl,.k (Ph a),.k (Ph b),.r 27 (eI (b:=(k:Int)) (by omega))] rfl ?_;refine Ue (S:=Nat×Ui×Ui) 1 (λL1 s=>(4,.v (pr s.2.1))::(5,.v (pr s.2.2))::(9,.v (.oi ((s.1:Int)-1)))::L1) (λ_=>[.blk 37 (G6 c)]) (λs=>s.1) (λs=>s.1<=k/\U7 s.2.2/\s.2.1.length<=66/\s.2.2.length<=a.length/\Bd (16777216+(k-s.1)*16777224) s.2.1/\Bd (16777216+(k-s.1)*16777224) s.2.2/\kJ b c s.1 s.2=kJ b c k ([],a)) (k,[],a) ⟨Ql _,ha.t,by simp,Ql _,I5,by simpa using ha.b,rfl⟩ rfl rfl λ⟨i,q,r⟩ ⟨j1,j2,j3,j4,j5,j6,j7⟩=>?_
 dsimp only at j1 j2 j3 j4 j5 j6 j7 ⊢;rw [<-j7];cases i with
 | zero=>exact Ub [.f (by simp)] rfl
 |
  succ i =>
  obtain ⟨x,hx⟩:=nmE (if r.length=b.length+i then Ff r else 0);obtain ⟨u,hu⟩:=nmE (16777216+(k-(i+1))*16777224);rw [<-hu] at j5 j6;have hub:u<=1107296256:=by
   have:(k-(i+1))*16777224<=64*16777224:=Qx _ (by omega);omega
  have hxs:U5 x<=u:=by
   rw [hx]; split
   ·exact Mf j6
   ·rw [Dc]; exact Qi _
  have cs:=Sy (p:=q) (c:=c) (by omega) (Uv j5 (by omega)) (by omega);have cs2:=Sy (p:=r) (c:=c) (by omega) (Uv j6 (by omega)) (by omega);have l1:=Fh q c;have l2:=Fh r c;have ca:=PY (p:=Fl q c) (q:=mono i x) (by omega) (by rw [Ij]; omega) (Uv (Fp j5 hlb) (by omega)) (Uv (SD hxs) (by omega));have cm:=IQ (p0:=mono i x) hb.t (by rw [Ij]; omega) (by omega) (SD hxs) hb.b (by omega);have l3:=OK (i:=i) (x:=x) (b:=b);have cb:=UN (p:=Fl r c) (q:=Ge (trim (mono i x)) b) (by omega) (by omega) (Uv (Fp j6 hlb) (by omega)) (Uv (sD hb.b hxs (by omega)) (by omega));have hst:=ZP (b:=b) (c:=c) (q:=q) hx;have hI:i<=k/\U7 (str b c i x r)/\(stq c i x q).length<=66/\(str b c i x r).length<=a.length/\Bd (16777216+(k-i)*16777224) (stq c i x q)/\Bd (16777216+(k-i)*16777224) (str b c i x r):=by
   have l5:=Qiv (c:=c) (x:=x) (i:=i) (q:=q);have l6:=OW (c:=c) (x:=x) (i:=i) (b:=b) (r:=r);have hku:u+16777216+8=16777216+(k-i)*16777224:=by
    rw [hu,show k-i=(k-(i+1))+1 from by omega,X2]; omega
   refine ⟨by omega,Fq _ _,by omega,by omega,?_,?_⟩
   ·rw [<-hku]; exact Qmx j5 hlb hxs
   ·rw [<-hku]; exact uR j6 hb.b hlb hxs (by omega)
  rw [hst];by_cases h:r.length=b.length+i
  ·refine Ua [.t (by simp <;> omega),.k (Ph r),.k (Ph b),.t (by simp; omega),.k (Co j2 (by omega) (Uv j6 (by omega))),.r 44 (eI (b:=((i+1:Nat):Int)) (by omega)),.i (i+1),.i (i+1),.r 47 (eI (b:=(i:Int)) (by omega)),.i i] rfl ?_;refine nl 2 rfl rfl rfl ?_;rw [nO i (x:=x) (by rw [hx,if_pos h]; rfl)];refine Ua [.k cs,.k ca,.k cs2,.k cm,.k cb,.r 33 (eI (b:=(i:Int)-1) (by omega))] rfl ?_;exact rd (i,stq c i x q,str b c i x r) (by dsimp only; omega) ⟨hI.1,hI.2.1,hI.2.2.1,hI.2.2.2.1,hI.2.2.2.2.1,hI.2.2.2.2.2,rfl⟩ rfl
  ·refine Ua [.t (by simp <;> omega),.k (Ph r),.k (Ph b),.f (by simp; omega),.r 44 (eI (b:=((i+1:Nat):Int)) (by omega)),.i (i+1),.i (i+1),.r 47 (eI (b:=(i:Int)) (by omega)),.i i] rfl ?_;refine nl 2 rfl rfl rfl ?_;rw [nO i (x:=x) (by rw [hx,if_neg h,Ew]; rfl)];refine Ua [.k cs,.k ca,.k cs2,.k cm,.k cb,.r 33 (eI (b:=(i:Int)-1) (by omega))] rfl ?_;exact rd (i,stq c i x q,str b c i x r) (by dsimp only; omega) ⟨hI.1,hI.2.1,hI.2.2.1,hI.2.2.2.1,hI.2.2.2.2.1,hI.2.2.2.2.2,rfl⟩ rfl
theorem Qel {b:Ui} {c:Int} (hb:Bd 16777216 b) (hc:U5 c<=16777216) {n:Nat}:∀ (i u:Nat) (q r:Ui),i<=64->i+b.length<=n+1->U7 r->r.length<=n->Bd u r->U7 (kJ b c i (q,r)).2/\(kJ b c i (q,r)).2.length<=n/\Bd (u+i*16777224) (kJ b c i (q,r)).2
 | 0,u,q,r,_,_,h1,h2,h3=>⟨h1,h2,by simpa [kJ] using h3⟩
 |
  i+1,u,q,r,hi,hn,h1,h2,h3=>by
  rw [ZP rfl];have hx:U5 (if r.length=b.length+i then Ff r else 0)<=u:=by
   split
   ·exact Mf h3
   ·rw [Dc]; exact Qi _
  have l6:=OW (c:=c) (x:=if r.length=b.length+i then Ff r else 0) (i:=i) (b:=b) (r:=r);have:=Qel hb hc (n:=n) i (u+16777216+8) (stq c i (if r.length=b.length+i then Ff r else 0) q) (str b c i (if r.length=b.length+i then Ff r else 0) r) (by omega) (by omega) (Fq _ _) (by omega) (uR h3 hb hc hx (by omega));exact ⟨this.1,this.2.1,Uv this.2.2 (by omega)⟩
theorem cJ {a b:Ui} (ha:Pb a) (hb:Pb b) (h0:b.length≠0):U7 (Pl a b)/\(Pl a b).length<=a.length/\Bd 1107296256 (Pl a b):=by
 have hal:=ha.l;by_cases h:b.length<=a.length+1
 ·obtain ⟨h1,h2,h3⟩:=Qel hb.b (Mf hb.b) (n:=a.length) (a.length+1-b.length) 16777216 [] a (by omega) (by omega) ha.t (Ql _) ha.b;refine ⟨h1,h2,Uv h3 ?_⟩;have:(a.length+1-b.length)*16777224<=64*16777224:=Qx _ (by omega);omega
 ·have e:Pl a b=a:=by unfold Pl; rw [show a.length+1-b.length=0 from by omega]; rfl
  rw [e];exact ⟨ha.t,Ql _,Uv ha.b (by omega)⟩
theorem WP {a b r:Ui} {s n:Nat} (h1:U7 r) (h2:r.length<=n) (h3:Bd s r):U7 (Nh a b r)/\(Nh a b r).length<=n/\Bd s (Nh a b r):=by
 unfold Nh; split
 ·exact ⟨Fq _ _,Qc (NV r) h2,AA h3⟩
 ·exact ⟨h1,h2,h3⟩
theorem NA {r:Ui} {s n:Nat} (h2:r.length<=n) (h3:Bd s r):U7 (JL r)/\(JL r).length<=n/\Bd s (JL r):=by
 unfold JL; split
 ·exact ⟨rfl,by simp,I5⟩
 ·exact ⟨Oz _ _,Qc (EX _ _) h2,SE h3 _⟩
theorem WT {a b:Ui} (ha:Pb a) (hb:Pb b) (h0:b.length≠0):U7 (Rl a b)/\(Rl a b).length<=a.length/\Bd 1107296256 (Rl a b):=by
 obtain ⟨h1,h2,h3⟩:=cJ ha hb h0;obtain ⟨h4,h5,h6⟩:=WP (a:=a) (b:=b) h1 h2 h3;exact NA h5 h6
theorem Qae {a b:Ui} (ha:Pb a) (hb:Pb b) (h0:b.length≠0):Uf 275 [pr a,pr b] [pr (Rl a b),.oi 0]:=by
 obtain ⟨h1,h2,h3⟩:=cJ ha hb h0;obtain ⟨h4,h5,h6⟩:=WP (a:=a) (b:=b) h1 h2 h3;have hal:=ha.l;have cp:=Qab ha hb h0;have cl:=Co hb.t hb.ln hb.bd;have cn:=oO (p:=Pl a b) (by omega) (Uv h3 (by omega));unfold Rl;obtain ⟨r,hr⟩:=nmE (Nh a b (Pl a b));have cc:=UM (p:=r) (by rw [hr]; omega) (by rw [hr]; exact Uv h6 (by omega));rw [<-hr] at h4 h5 h6 ⊢;obtain ⟨k,hk⟩:=nmE (a.length+1-b.length);rw [<-hk] at cp;have em:((k:Int).tmod 2)=((k % 2:Nat):Int):=by rw [Vz (by omega)]; omega
 have key:JL r=if r.length=0 then [] else Bi r (Sp r):=rfl
 by_cases hz:r.length=0
 ·rw [key,if_pos hz];by_cases hodd:k % 2=1
  ·by_cases hneg:Ff b<0
   ·have e:r=D5 (Pl a b):=by rw [hr]; unfold Nh; rw [if_pos ⟨by rw [<-hk]; exact hodd,hneg⟩]
    rw [e] at hz;exact Uc func275 rfl [.k cp,.f (by simp),.r 22 (eI em),.t (by simp; omega),.k cl,.t (by simpa [Ff] using hneg),.k cn,.t (by simpa using hz)] rfl rfl (by simp [Uw])
   ·have e:r=Pl a b:=by rw [hr]; unfold Nh; rw [if_neg (λh=>hneg h.2)]
    rw [e] at hz;exact Uc func275 rfl [.k cp,.f (by simp),.r 22 (eI em),.t (by simp; omega),.k cl,.f (by simpa [Ff] using hneg),.t (by simpa using hz)] rfl rfl (by simp [Uw])
  ·have e:r=Pl a b:=by rw [hr]; unfold Nh; rw [if_neg (λh=>hodd (by rw [hk]; exact h.1))]
   rw [e] at hz;exact Uc func275 rfl [.k cp,.f (by simp),.r 22 (eI em),.f (by simp; omega),.f rfl,.t (by simpa using hz)] rfl rfl (by simp [Uw])
 ·rw [key,if_neg hz];have cd:=pT (p:=r) (g:=Sp r) (by omega) (Uv h6 (by omega)) (XR (Uv h6 (by omega))) (ZG h4 hz) Ly;by_cases hodd:k % 2=1
  ·by_cases hneg:Ff b<0
   ·have e:r=D5 (Pl a b):=by rw [hr]; unfold Nh; rw [if_pos ⟨by rw [<-hk]; exact hodd,hneg⟩]
    rw [e] at hz cc cd ⊢;exact Uc func275 rfl [.k cp,.f (by simp),.r 22 (eI em),.t (by simp; omega),.k cl,.t (by simpa [Ff] using hneg),.k cn,.f (by simpa using hz),.k cc,.k cd] rfl rfl (by simp [Uw])
   ·have e:r=Pl a b:=by rw [hr]; unfold Nh; rw [if_neg (λh=>hneg h.2)]
    rw [e] at hz cc cd ⊢;exact Uc func275 rfl [.k cp,.f (by simp),.r 22 (eI em),.t (by simp; omega),.k cl,.f (by simpa [Ff] using hneg),.f (by simpa using hz),.k cc,.k cd] rfl rfl (by simp [Uw])
  ·have e:r=Pl a b:=by rw [hr]; unfold Nh; rw [if_neg (λh=>hodd (by rw [hk]; exact h.1))]
   rw [e] at hz cc cd ⊢;exact Uc func275 rfl [.k cp,.f (by simp),.r 22 (eI em),.f (by simp; omega),.f rfl,.f (by simpa using hz),.k cc,.k cd] rfl rfl (by simp [Uw])
theorem Qit {s:Nat} {x:Int} (h:U5 x<=s) (g:Int):U5 (x / g)<=s:=US (p:=[x]) (λz hz=>by rw [Qj.1 hz]; exact h) g _ (by simp)
def sta (b:Ui) (i:Nat) (x:Int) (a:Ui):Ui:=Bz a (Ge (trim (mono i x)) b)
theorem Qmw {u t i:Nat} {x:Int} {b a:Ui} (ha:Bd u a) (hb:Bd t b) (hx:U5 x<=u) (hi:i<=64):Bd (u+t+8) (sta b i x a) :=
 Uv (Cn ha (sD hb hx hi)) (by omega)
theorem nS {x:Int} {i:Nat} {b a:Ui}:(sta b i x a).length<=max a.length (i+b.length):=by
 have h:=Mg a (Ge (trim (mono i x)) b);have h2:=OK (i:=i) (x:=x) (b:=b);unfold sta; omega
theorem Qg4 (s n:Nat):Bd s (List.replicate n 0):=λz hz=>by rw [(List.mem_replicate.1 hz).2,Dc]; exact Qi _
theorem Qmv {s i:Nat} {l:Ui} {x:Int} (h:Bd s l) (hx:U5 x<=s):Bd s (l.set i x):=λz hz=>by
 rcases Jn hz with hz | rfl
 ·exact h z hz
 ·exact hx
theorem oL {a b q:Ui} (ha:Pb a) (hb:Pb b) (h:ZS a b=some q):Uf 314 [pr a,pr b] [pr q,.oi 0]:=by
 unfold ZS at h
 split at h
 ·cases h
 rename_i h0;obtain ⟨k,hk⟩:=nmE (a.length+1-b.length);rw [<-hk] at h;obtain ⟨q',hq,hq2⟩:=Qd.1 h;obtain ⟨rfl,hpb⟩:=Od (H6 _) hq2;have hal:=ha.l;have hbl:=hb.l;refine Gb func314 rfl ?_;refine Ua [.k (Hd ha.t ha.ln ha.bd),.k (Hd hb.t hb.ln hb.bd),.f (by simpa using h0),.r 24 (eI (b:=(k:Int)) (by simp; omega)),.i k,.i k,.r 27 (eI (b:=(k:Int)) (by simp))] rfl ?_;refine nl 0 rfl rfl rfl ?_;rw [SZ];refine Ue (S:=Nat×Ui×Ui) 1 (λL1 s=>(0,.v (pr s.2.1))::(7,.v (.oi ((s.1:Int)-1)))::L1) (λs=>[.row false 37 2 (s.2.2.map G6)]) (λs=>s.1) (λs=>s.1<=k/\U7 s.2.1/\s.2.1.length<=a.length/\Bd (16777216+(k-s.1)*16777224) s.2.1/\s.2.2.length=k/\Bd 1107296256 s.2.2/\OO b s.1 s.2.1 s.2.2=some q') (k,a,List.replicate k 0) ⟨Ql _,ha.t,Ql _,by simpa using ha.b,by simp,Qg4 _ _,hq⟩ rfl rfl λ⟨i,A,Q⟩ ⟨j1,j2,j3,j4,j5,j7,j6⟩=>?_
 dsimp only at j1 j2 j3 j4 j5 j6 j7 ⊢;cases i with
 |
  zero =>
  simp only [OO] at j6
  split at j6
  ·rename_i hA;injection j6 with j6; subst j6;exact Ub [.f (by simp),.f (by simpa using hA),.k (Nu (Ga Q) (by omega) (Uv j7 (by omega)))] rfl
  ·cases j6
 |
  succ i =>
  obtain ⟨u,hu⟩:=nmE (16777216+(k-(i+1))*16777224);rw [<-hu] at j4;have hub:u<=1107296256:=by
   have:(k-(i+1))*16777224<=64*16777224:=Qx _ (by omega);omega
  have hku:u+16777216+8=16777216+(k-i)*16777224:=by
   rw [hu,show k-i=(k-(i+1))+1 from by omega,X2]; omega
  simp only [OO] at j6;by_cases hlt:A.length<b.length+i
  ·rw [if_pos hlt] at j6;refine Ua [.t (by simp <;> omega),.k (Ph A),.k (Ph b),.t (by simp; omega),.r 32 (eI (b:=(i:Int)-1) (by omega))] rfl ?_;exact rd (i,A,Q) (by dsimp only; omega) ⟨by dsimp only; omega,j2,j3,Uv j4 (by dsimp only; omega),j5,j7,j6⟩ rfl
  ·rw [if_neg hlt] at j6
   split at j6
   ·rename_i hdv;obtain ⟨x,hx⟩:=nmE (Ff A / Ff b);rw [<-hx] at j6;have hxs:U5 x<=u:=by rw [hx]; exact Qit (Mf j4) _
    have ce:=Ac (Uu (Ff A)) (Uu (Ff b)) (Qc (Mf j4) (by omega)) (Qc (Mf hb.b) (by omega)) (Ll hb.t h0) hdv;rw [<-hx] at ce;have cm:Uf 178 [.one (.row ((mono i x).map G6)),pr b] [pr (Ge (trim (mono i x)) b)]:=IQ (p0:=mono i x) hb.t (by rw [Ij]; omega) (by omega) (SD hxs) hb.b (by omega);have l3:=OK (i:=i) (x:=x) (b:=b);have l4:=nS (i:=i) (x:=x) (b:=b) (a:=A);have cb:=UN (p:=A) (q:=Ge (trim (mono i x)) b) (by omega) (by omega) (Uv j4 (by omega)) (Uv (sD hb.b hxs (by omega)) (by omega));refine Ua [.t (by simp <;> omega),.k (Ph A),.k (Ph b),.f (by simp; omega),.k (Co j2 (by omega) (Uv j4 (by omega))),.k (Co hb.t hb.ln hb.bd),.k ce,.f rfl,.r 51 (eI (b:=(i:Int)) (by omega)),.i i,.r 55 (eI (b:=((i+1:Nat):Int)) (by omega)),.i (i+1),.i (i+1),.r 58 (eI (b:=(i:Int)) (by omega))] rfl ?_;refine nl 2 rfl rfl rfl ?_;rw [SZ,rR];rw [<-yA i x] at cm;refine Ua [.i i,.k cm,.k cb,.r 32 (eI (b:=(i:Int)-1) (by omega))] rfl ?_;exact rd (i,sta b i x A,Q.set i x) (by dsimp only; omega) ⟨by dsimp only; omega,Fq _ _,by dsimp only; omega,by dsimp only; rw [<-hku]; exact Qmw j4 hb.b hxs (by omega),by simpa using j5,Qmv j7 (Nat.le_trans hxs hub),j6⟩ rfl
   ·cases j6
theorem rG {a b q:Ui} (h:ZS a b=some q):Pb q:=by
 unfold ZS at h
 split at h
 ·cases h
 ·obtain ⟨q',_,hq2⟩:=Qd.1 h;obtain ⟨rfl,hpb⟩:=Od (H6 _) hq2;exact hpb
theorem Qa4 {a b q:Ui} (ha:Pb a) (hb:Pb b) (h:ZS a b=some q):Uf 303 [pr a,pr b] [pr q] :=
 Uc func303 rfl [.k (oL ha hb h)] rfl
theorem zQ:∀ {k:Nat} {a b g:Ui},Pb a->Pb b->GN k a b=some g->Pb g
 | 0,_,_,_,_,_,h=>by cases h
 |
  k+1,a,b,g,ha,hb,h=>by
  simp only [GN] at h
  split at h
  ·injection h with h; subst h; exact ha
  ·rename_i h0;obtain ⟨r,hr,h⟩:=Qd.1 h;obtain ⟨rfl,hpb⟩:=Od (WT ha hb h0).1 hr;exact zQ hb hpb h
theorem pE {a b g:Ui} (ha:Pb a) (hb:Pb b) (h:ZM a b=some g):Uf 243 [pr a,pr b] [pr g]:=by
 unfold ZM at h;obtain ⟨g',h2,rfl⟩:=Yw.1 h;have hg:=zQ (Rh ha) (Rh hb) h2;refine Gb func243 rfl ?_;refine W9 [.k (Ae ha),.k (Ae hb)] rfl ?_;refine Ue (S:=Nat×Ui×Ui) 0 (λL1 s=>(0,.v (pr s.2.1))::(1,.v (pr s.2.2))::L1) (λ_=>[]) (λs=>s.1) (λs=>Pb s.2.1/\Pb s.2.2/\GN s.1 s.2.1 s.2.2=some g') (66,U9 a,U9 b) ⟨Rh ha,Rh hb,h2⟩ rfl rfl λ⟨k,A,C⟩ ⟨j1,j2,j3⟩=>?_
 dsimp only at j1 j2 j3 ⊢;cases k with
 | zero=>cases j3
 |
  succ k =>
  simp only [GN] at j3
  split at j3
  ·rename_i h0;injection j3 with j3; subst j3;exact Ub [.f (by simpa using h0),.k (Ae j1)] rfl
  ·rename_i h0;obtain ⟨r,hr,j3⟩:=Qd.1 j3;obtain ⟨rfl,hpb⟩:=Od (WT j1 j2 h0).1 hr;refine W9 [.t (by simp; omega),.k (Qae j1 j2 h0)] rfl ?_;exact rd (k,C,Rl A C) (by dsimp only; omega) ⟨j2,hpb,j3⟩ rfl
theorem GZ {a b g:Ui} (ha:Pb a) (hb:Pb b) (h:ZM a b=some g):Pb g:=by
 unfold ZM at h;obtain ⟨g',h2,rfl⟩:=Yw.1 h;exact Rh (zQ (Rh ha) (Rh hb) h2)
theorem oI {a b g:Ui} (ha:Pb a) (hb:Pb b) (h:qZ a b=some g):Uf 200 [.one (.row (Sl [a,b]))] [pr g]:=by
 unfold qZ at h;obtain ⟨g1,h1,h2⟩:=Qd.1 h;have hg1:=GZ FO ha h1;refine Gb func200 rfl ?_;refine W9 [.z 3] rfl ?_;refine Ue (S:=Nat) 0 (λL1 i=>(8,.v (.oi i))::(3,.v (pr (if i=0 then [] else if i=1 then g1 else g)))::L1) (λ_=>[]) (λi=>2-i) (λi=>i<=2) 0 (Qi _) rfl rfl λi hi=>?_
 rcases (show i=0\/i=1\/i=2 by omega) with rfl | rfl | rfl
 ·refine W9 [.t rfl,.x (H5 (i:=0) (p:=a) rfl),.k (pE FO ha h1)] rfl ?_ (by simp [Uw]);exact rd 1 (by omega) (by omega) rfl
 ·refine W9 [.t rfl,.x (H5 (i:=1) (p:=b) rfl),.k (pE hg1 hb h2)] rfl ?_ (by simp [Uw]);exact rd 2 (by omega) (by omega) rfl
 ·exact Ub [.f rfl] rfl
theorem Qd9 {a b g:Ui} (ha:Pb a) (hb:Pb b) (h:qZ a b=some g):Pb g:=by
 unfold qZ at h;obtain ⟨g1,h1,h2⟩:=Qd.1 h;exact GZ (GZ FO ha h1) hb h2
theorem NB {p d:Ui} (h:DG (Gz p)=some d):d=Gz p/\Pb (Gz p):=Od (Fq _ _) h
theorem PW {a g:Ui} (ha:Pb a) (h:Sv a=some g):Uf 281 [pr a] [pr g]:=by
 have hp:=Rh ha;unfold Sv at h
 split at h
 ·rename_i h0;injection h with h; subst h;exact Uc func281 rfl [.k (Ae ha),.k (Ph _),.t (by simp; omega)] rfl
 ·rename_i h0;obtain ⟨d,h1,h⟩:=Qd.1 h;obtain ⟨rfl,hd⟩:=NB h1;obtain ⟨g1,h1,h⟩:=Qd.1 h;exact Uc func281 rfl [.k (Ae ha),.k (Ph _),.f (by simp; omega),.k (A7 hp.ln hp.bd),.k (pE hp hd h1),.k (Qa4 hp (GZ hp hd h1) h)] rfl
theorem GQ {a g:Ui} (ha:Pb a) (h:Sv a=some g):Pb g:=by
 unfold Sv at h
 split at h
 ·injection h with h; subst h; exact Rh ha
 ·obtain ⟨d,h1,h⟩:=Qd.1 h;obtain ⟨g1,h1,h⟩:=Qd.1 h;exact rG h
theorem Qea {p:Ui} (h:Pb p):Pb (D5 p):=⟨Fq _ _,Qc (NV p) h.l,AA h.b⟩
theorem fK:∀ {k:Nat} {a b:Ui} {l:Uj},Pb a->Pb b->wO k a b=some l->l.length≤k/\∀ p∈l,Pb p
 | 0,_,_,_,_,_,h=>by cases h
 |
  k+1,a,b,l,ha,hb,h=>by
  simp only [wO] at h
  split at h
  ·injection h with h; subst h; exact ⟨by simp,λp hp=>by cases hp⟩
  ·rename_i h0;obtain ⟨r,hr,h⟩:=Qd.1 h;obtain ⟨rfl,hpb⟩:=Od (WT ha hb h0).1 hr;obtain ⟨l',h1,h⟩:=Qd.1 h;injection h with h; subst h;obtain ⟨i1,i2⟩:=fK hb (Qea hpb) h1;refine ⟨by simp; exact i1,λp hp=>?_⟩;rcases Qm.1 hp with rfl | hp
   ·exact hb
   ·exact i2 p hp
theorem chain_ok {p:Ui} {l:Uj} (hp:Pb p) (h:La p=some l):l.length≤67/\∀ q∈l,Pb q:=by
 unfold La at h;obtain ⟨a,h1,h⟩:=Qd.1 h;have ha:=GQ hp h1
 split at h
 ·cases h
 ·obtain ⟨d,h2,h⟩:=Qd.1 h;obtain ⟨rfl,hd⟩:=NB h2;obtain ⟨l',h3,h⟩:=Qd.1 h;injection h with h; subst h;obtain ⟨i1,i2⟩:=fK ha (Rh hd) h3;refine ⟨by simp; omega,λp hp=>?_⟩;rcases Qm.1 hp with rfl | hp
  ·exact ha
  ·exact i2 p hp
theorem NE (l:Uj) (p:Ui):Sl l++[[pl p]]=Sl (l++[p]):=by simp [Sl]
theorem Lz (l:Uj):(Sl l).length=l.length:=by simp [Sl]
theorem Qag {p:Ui} {l:Uj} (hp:Pb p) (h:La p=some l):Uf 253 [pr p] [.one (.sh [.row (Sl l)]),.oi 0]:=by
 unfold La at h;obtain ⟨a,h1,h⟩:=Qd.1 h;have ha:=GQ hp h1
 split at h
 ·cases h
 rename_i h0;obtain ⟨d,h2,h⟩:=Qd.1 h;obtain ⟨rfl,hd⟩:=NB h2;obtain ⟨l',h3,h⟩:=Qd.1 h;injection h with h; subst h;refine Gb func253 rfl ?_;refine W9 [.k (PW hp h1),.f (by simpa using h0),.lo,.k (A7 ha.ln ha.bd),.k (Qa3 hd.t hd.ln' hd.bd)] rfl ?_ (by simp [Uw]);obtain ⟨z,hz⟩:=nmE (if (Gz a).length=0 then 0 else He (Gz a));rw [<-hz];refine sb [(4,.v (pr a)),(7,.v (pr (U9 (Gz a)))),(5,.v (.one (.ow 1 0)))] [.row false 34 1 [[pl a]],.blk 355 [.orow 0 1 none],.blk 37 (G6 z)] rfl rfl ?_;have hll:=(fK ha (Rh hd) h3).1;refine Ue (S:=Nat×Uj×Ui×Ui) 3 (λL1 s=>(4,.v (pr s.2.2.1))::(7,.v (pr s.2.2.2))::L1) (λs=>[.row false 34 1 (Sl s.2.1),.blk 355 [.orow 0 1 none],.blk 37 (G6 z)]) (λs=>s.1) (λs=>Pb s.2.2.1/\Pb s.2.2.2/\∃ m,wO s.1 s.2.2.1 s.2.2.2=some m/\s.2.1++m=a::l') (66,[a],a,U9 (Gz a)) ⟨ha,Rh hd,l',h3,rfl⟩ rfl rfl λ⟨k,out,A,C⟩ ⟨j1,j2,m,j3,j4⟩=>?_
 dsimp only at j1 j2 j3 j4 ⊢;have hol:out.length<=67:=by have:=congrArg List.length j4; simp at this; omega
 cases k with
 | zero=>cases j3
 |
  succ k =>
  simp only [wO] at j3
  split at j3
  ·rename_i h0;injection j3 with j3; subst j3;rw [Zy] at j4;rw [<-j4];exact Ub [.f (by simpa using h0)] rfl
  ·rename_i h0;obtain ⟨r,hr,j3⟩:=Qd.1 j3;obtain ⟨rfl,hpb⟩:=Od (WT j1 j2 h0).1 hr;obtain ⟨m',j6,j5⟩:=Qd.1 j3;injection j5 with j5; subst j5;refine go tt [.t (by simp; omega),.s (sz:=1) (λc hc=>by rw [Qj.1 hc]; rfl),.k (Qae j1 j2 h0),.k (oO hpb.ln hpb.bd)] rfl (by simp [Uw,Lz]; omega) ?_;exact rd (k,out++[C],C,D5 (Rl A C)) (by dsimp only; omega) ⟨j2,Qea hpb,m',j6,by rw [<-j4]; simp⟩ (by rw [NE]; rfl)
structure Tb (t:Tm):Prop where
 p:Pb t.p
 lo:Qb t.lo
 hi:Qb t.hi
theorem mK (x y:Int):-1<=C9 x y/\C9 x y<=1:=by unfold C9; split <;> (try split) <;> omega
theorem Oe (a b:Rat):-1<=G7 a b/\G7 a b<=1:=mK _ _
theorem Iu (p:Ui) (q:Rat):-1<=Hr p q/\Hr p q<=1:=mK _ _
theorem gC (p:Ui) (q:Rat):-1<=low p q/\low p q<=1:=by unfold low; split <;> exact Iu _ _
theorem Qb.s31 {q:Rat} (h:Qb q):Qs 2147483647 q:=h.mono (by decide)
theorem Qb.s32 {q:Rat} (h:Qb q):Qs 4294967295 q:=h.mono (by decide)
theorem RY {p:Ui} {q:Rat} (hp:Pb p) (hq:Qb q):Uf 241 [pr p,.agg (rl q)] [.oi (Hr p q)]:=by
 have hm:p.length*(16777216+1)<=64*16777217:=Qx _ hp.l;exact pZ hp.t hp.ln hp.b hq (by omega)
theorem Qq0 {p:Ui} {q:Rat} (hp:Pb p) (hq:Qb q):Uf 241 [pr (Gz p),.agg (rl q)] [.oi (Hr (Gz p) q)]:=by
 have hl:=Qc (De p) (show p.length-1<=64 by have:=hp.l; omega);have hm:(Gz p).length*(16777216+1)<=64*16777217:=Qx _ hl;exact pZ (Fq _ _) (Z3 hl (by omega)) (sL (t:=6) hp.b hp.l) hq (by omega)
theorem C7 {t:Tm} (ht:Tb t):Uf 198 [.agg (ta t)] [.one (.bool t.point)] :=
 Uc func198 rfl [.k (Cd ht.lo.s31 ht.hi.s31)] rfl
theorem TZ {t:Tm} (ht:Tb t):Uf 197 [.agg (ta t)] [.agg (ta t)] :=
 Uc func197 rfl [.k (Hd ht.p.t ht.p.ln ht.p.bd),.k (Nw ht.lo.s32),.k (Nw ht.hi.s32)] rfl
theorem Qbc {t:Tm} (ht:Tb t):Uf 240 [.agg (ta t)] [.agg (ta t)]:=Uc func240 rfl [.k (TZ ht)] rfl
theorem Qay {p:Ui} {q:Rat} (hp:Pb p) (hq:Qb q):Uf 242 [pr p,.agg (rl q)] [.oi (low p q)]:=by
 unfold low;by_cases h:Hr p q=0
 ·rw [if_neg (by simpa using h)];exact Uc func242 rfl [.k (RY hp hq),.f (by simpa using h),.k (A7 hp.ln hp.bd),.k (Qq0 hp hq)] rfl
 ·rw [if_pos h];exact Uc func242 rfl [.k (RY hp hq),.t (by simpa using h)] rfl
theorem Qaw {p:Ui} {lo hi:Rat} (hp:Pb p) (hl:Qb lo) (hh:Qb hi):Uf 201 [pr p,.agg (rl lo),.agg (rl hi)] [.one (.bool (KN p lo hi))]:=by
 by_cases h:Hr p hi=0
 ·exact Uc func201 rfl [.k (RY hp hh),.t (by simpa using h)] rfl (by simp [KN,h]) trivial
 ·exact Uc func201 rfl [.k (RY hp hh),.f (by simpa using h),.k (Qay hp hl)] rfl (by simp [KN,h]) trivial
theorem Cc {t:Tm} {q:Rat} (ht:Tb t) (hq:Qb q):Uf 199 [.agg (ta t),.agg (rl q)] [.oi (Fe t q)]:=by
 have cp:=C7 ht;unfold Fe;by_cases h1:t.point=true
 ·rw [if_pos h1];exact Uc func199 rfl [.k cp,.t h1,.k (Cd ht.lo.s31 hq.s31)] rfl
 rw [if_neg h1];have h1:t.point=false:=by simpa using h1
 have c1:=Cd hq.s31 ht.lo.s31;have c2:=Cd hq.s31 ht.hi.s31;by_cases h2:G7 q t.lo<=0
 ·rw [if_pos h2];exact Uc func199 rfl [.k cp,.f h1,.k c1,.t (by simpa using h2)] rfl
 rw [if_neg h2];by_cases h3:0<G7 q t.hi
 ·rw [if_pos h3];exact Uc func199 rfl [.k cp,.f h1,.k c1,.f (by simpa using h2),.k c2,.t (by simpa using h3)] rfl
 rw [if_neg h3];by_cases h4:Hr t.p q=0
 ·rw [if_pos h4];exact Uc func199 rfl [.k cp,.f h1,.k c1,.f (by simpa using h2),.k c2,.f (by simpa using h3),.k (RY ht.p hq),.t (by simpa using h4)] rfl
 rw [if_neg h4];by_cases h5:Hr t.p q=low t.p t.lo
 ·rw [if_pos h5];exact Uc func199 rfl [.k cp,.f h1,.k c1,.f (by simpa using h2),.k c2,.f (by simpa using h3),.k (RY ht.p hq),.f (by simpa using h4),.k (Qay ht.p ht.lo),.t (by simpa using h5)] rfl
 ·rw [if_neg h5];exact Uc func199 rfl [.k cp,.f h1,.k c1,.f (by simpa using h2),.k c2,.f (by simpa using h3),.k (RY ht.p hq),.f (by simpa using h4),.k (Qay ht.p ht.lo),.f (by simpa using h5)] rfl
theorem Qh6 (t:Tm) (q:Rat):-1<=Fe t q/\Fe t q<=1:=by
 unfold Fe;have:=Oe t.lo q
 repeat' split
 all_goals omega
theorem Qic (q:Rat):0<(q.den:Int):=by have:=q.den_pos; omega
theorem Qlc {a b:Rat} (ha:Qb a) (hb:Qb b):Uf 277 [.agg (rl a),.agg (rl b)] [.agg (rl (mid a b))]:=by
 have h1:U5 (a.num*(b.den:Int))<=33554432:=Qc (Ft _ _) (by have:=ha.1; have:=hb.2; omega);have h2:U5 (b.num*(a.den:Int))<=33554432:=Qc (Ft _ _) (by have:=hb.1; have:=ha.2; omega);have h3:U5 ((a.den:Int)*(b.den:Int))<=33554432:=Qc (Ft _ _) (by have:=ha.2; have:=hb.2; omega);have h4:U5 (2:Int)<=2:=by decide
 have h5:U5 (a.num*(b.den:Int)+b.num*(a.den:Int))<=33554433:=Qc (On _ _) (by omega);have h6:U5 ((a.den:Int)*(b.den:Int)*2)<=33554434:=Qc (Ft _ _) (by omega);have h0:(a.den:Int)*(b.den:Int)*2≠0:=by
  have:=Int.mul_pos (Qic a) (Qic b); omega
 exact Uc func277 rfl [.k (IJ ha.s31 hb.s31),.k (YY (Uu _) (Uu _) (by omega) (by omega)),.k (RJ (z:=2) (by decide)),.k (Sk (Uu _) (Uu _) (by omega) (by omega)),.k (A8 h0 (by omega) (by omega))] rfl
theorem IU {a b:Rat} (ha:Qb a) (hb:Qb b):Uf 245 [.agg (rl a),.agg (rl b)] [.agg (rl (BG a b))]:=by
 have h1:U5 (a.num*(b.den:Int))<=33554432:=Qc (Ft _ _) (by have:=ha.1; have:=hb.2; omega);have h2:U5 (b.num*(a.den:Int))<=33554432:=Qc (Ft _ _) (by have:=hb.1; have:=ha.2; omega);have h3:U5 ((a.den:Int)*(b.den:Int))<=33554432:=Qc (Ft _ _) (by have:=ha.2; have:=hb.2; omega);have h5:U5 (a.num*(b.den:Int)-b.num*(a.den:Int))<=33554433:=Qc (OV _ _) (by omega);have h0:(a.den:Int)*(b.den:Int)≠0:=by
  have:=Int.mul_pos (Qic a) (Qic b); omega
 exact Uc func245 rfl [.k (IJ ha.s31 hb.s31),.k (Qar (Uu _) (Uu _) (by omega) (by omega)),.k (A8 h0 (by omega) (by omega))] rfl
theorem PP {q r:Rat} (h:iW q=some r):r=q/\Qb q:=by
 unfold iW at h
 split at h
 ·rename_i hc; injection h with h; exact ⟨h.symm,hc⟩
 ·cases h
theorem fZ {t u:Tm} (ht:Tb t) (h:OZ t=some u):Uf 246 [.agg (ta t)] [.agg (ta u)]:=by
 have cp:=C7 ht;unfold OZ at h
 split at h
 ·rename_i h1;injection h with h; subst h;exact Uc func246 rfl [.k cp,.t h1] rfl
 ·rename_i h1;have h1:t.point=false:=by simpa using h1
  obtain ⟨m,hm0,h⟩:=Qd.1 h;obtain ⟨rfl,hm⟩:=PP hm0;injection h with h;subst h;have cm:=Qlc ht.lo ht.hi;have cc:=Cc ht hm;by_cases h2:Fe t (mid t.lo t.hi)=0
  ·rw [if_pos h2];exact Uc func246 rfl [.k cp,.f h1,.k cm,.k cc,.t (by simpa using h2)] rfl
  rw [if_neg h2];by_cases h3:Fe t (mid t.lo t.hi)=-1
  ·rw [if_pos h3];exact Uc func246 rfl [.k cp,.f h1,.k cm,.k cc,.f (by simpa using h2),.t (by simpa using h3)] rfl
  ·rw [if_neg h3];exact Uc func246 rfl [.k cp,.f h1,.k cm,.k cc,.f (by simpa using h2),.f (by simpa using h3)] rfl
theorem qC {t u:Tm} (ht:Tb t) (h:OZ t=some u):Tb u:=by
 unfold OZ at h
 split at h
 ·injection h with h; subst h; exact ht
 ·obtain ⟨m,hm0,h⟩:=Qd.1 h;obtain ⟨rfl,hm⟩:=PP hm0;injection h with h;subst h
  repeat' split
  ·exact ⟨ht.p,hm,hm⟩
  ·exact ⟨ht.p,ht.lo,hm⟩
  ·exact ⟨ht.p,hm,ht.hi⟩
theorem I9 {z:Int} (h:U5 z<=4294967296):Uf 191 [.one (mg z)] [.oi (U5 z:Int)]:=by
 have h1:=uC (l:=Fo z.natAbs) (Du _) (by rw [Gu]; exact h);rw [Gu] at h1; exact h1
theorem BY {p:Ui} {i:Nat} {z:Int} (h:p[i]? = some z):Gv (p.take (i+1))=max (Gv (p.take i)) (U5 z):=by
 unfold Gv; rw [List.take_succ,h,Option.toList_some,List.foldl_append]; rfl
theorem Pp {p:Ui} {s:Nat} (h:Bd s p):∀ i,Gv (p.take i)<=s
 | 0=>by simp [Gv]
 |
  i+1=>by
  cases hz:p[i]? with
  |
   none =>
   rw [Qo (by have:=Jm.1 hz; omega),<-Qo (l:=p) (i:=i) (by have:=Jm.1 hz; omega)];exact Pp h i
  | some z=>rw [BY hz]; have:=Pp h i; have:=iI h hz; omega
theorem IF {p:Ui} (hp:Pb p):Uf 276 [pr p] [.oi (Gv p:Int)]:=by
 have hl:=hp.l;refine Gb func276 rfl ?_;refine W9 [] rfl ?_;refine Ue (S:=Nat) 0 (λL1 i=>(8,.v (.oi i))::(3,.v (.oi (Gv (p.take i):Int)))::L1) (λ_=>[]) (λi=>p.length-i) (λi=>i<=p.length) 0 (Qi _) rfl rfl λi hi=>?_
 by_cases hlt:i<p.length
 ·have hg:=Rt hlt;have hz:=Gj hp.b i;have hs:=BY hg;refine Ua [.t (by simp; omega),.x (Su hg),.k (I9 (by omega)),.r 16 (eI (b:=(Gv (p.take (i+1)):Int)) (by rw [hs]; omega))] rfl ?_;exact rd (i+1) (by omega) hlt rfl
 ·obtain rfl:i=p.length:=by omega
  rw [Q6];exact Ub [.f (by simp)] rfl
theorem Qh2 {a:Tm} {b:Tm} (ha:Tb a) (hb:Tb b):Uf 244 [.agg (ta a),.agg (ta b)] [.oi (Pf a b:Nat)]:=by
 have l1:=ha.p.l;have l2:=hb.p.l;have b1:=ha.lo.1;have b2:=ha.hi.1;have b3:=hb.lo.1;have b4:=hb.hi.1;have s1:Gv a.p<=16777216:=by have:=Pp ha.p.b a.p.length; rwa [Q6] at this
 have s2:Gv b.p<=16777216:=by have:=Pp hb.p.b b.p.length; rwa [Q6] at this
 obtain ⟨N,hN⟩:=nmE (4*(a.p.length+b.p.length));obtain ⟨S,hS⟩:=nmE (Gv a.p+Gv b.p+(a.p.length+b.p.length)+8);have hNS:N*S<=512*33554568:=Q7 (by omega) (by omega);have h0:(N:Int)*(S:Int)=((N*S:Nat):Int):=(Vh _ _).symm;have hst:Pf a b=64+2*(U5 a.lo.num+U5 a.hi.num+U5 b.lo.num+U5 b.hi.num)+N*S:=by rw [hN,hS]; rfl
 rw [hst];exact Uc func244 rfl [.k (I9 (z:=a.lo.num) (by omega)),.k (I9 (z:=a.hi.num) (by omega)),.k (I9 (z:=b.lo.num) (by omega)),.k (I9 (z:=b.hi.num) (by omega)),.r 41 (eI (b:=(N:Int)) (by rw [hN]; simp)),.k (IF ha.p),.k (IF hb.p),.r 51 (eI (b:=(S:Int)) (by rw [hS]; simp)),.r 52 (eI (b:=((N*S:Nat):Int)) h0)] rfl (by simp) (by rw [h0]; simp [Uw]; omega)
def tI (p:Ui) (a:Tm):Nat:=64+2*(U5 a.lo.num+U5 a.hi.num)+4*(a.p.length+p.length)*(Gv a.p+Gv p+(a.p.length+p.length)+8)
theorem sE:Uf 191 [lr []] [.oi 0]:=uC (l:=[]) (by simp [Sm]) (by decide)
theorem Qba {a:Tm} {p:Ui} (ha:Tb a) (hp:Pb p):Uf 244 [.agg (ta a),.agg ([pl p,.bool false,.row [],.bool false,.row [],.bool false,.row [],.bool false,.row []])] [.oi (tI p a:Nat)]:=by
 have l1:=ha.p.l;have l2:=hp.l;have b1:=ha.lo.1;have b2:=ha.hi.1;have s1:Gv a.p<=16777216:=by have:=Pp ha.p.b a.p.length; rwa [Q6] at this
 have s2:Gv p<=16777216:=by have:=Pp hp.b p.length; rwa [Q6] at this
 obtain ⟨N,hN⟩:=nmE (4*(a.p.length+p.length));obtain ⟨S,hS⟩:=nmE (Gv a.p+Gv p+(a.p.length+p.length)+8);have hNS:N*S<=512*33554568:=Q7 (by omega) (by omega);have h0:(N:Int)*(S:Int)=((N*S:Nat):Int):=(Vh _ _).symm;have hst:tI p a=64+2*(U5 a.lo.num+U5 a.hi.num)+N*S:=by rw [hN,hS]; rfl
 rw [hst];exact Uc func244 rfl [.k (I9 (z:=a.lo.num) (by omega)),.k (I9 (z:=a.hi.num) (by omega)),.k sE,.k sE,.r 41 (eI (b:=(N:Int)) (by rw [hN]; simp)),.k (IF ha.p),.k (IF hp),.r 51 (eI (b:=(S:Int)) (by rw [hS]; simp)),.r 52 (eI (b:=((N*S:Nat):Int)) h0)] rfl (by simp) (by rw [h0]; simp [Uw]; omega)
def JG (sg:Ui->Int) (l:Uj) (i:Nat):Nat×Int:=(l.take i).foldl (S6 sg) (0,0)
theorem qA {sg:Ui->Int} (hs:∀ p,-1<=sg p/\sg p<=1) (l:Uj):∀ i,(JG sg l i).1<=i/\-1<=(JG sg l i).2/\(JG sg l i).2<=1
 | 0=>⟨Ql _,show (-1:Int)<=0 by decide,show (0:Int)<=1 by decide⟩
 |
  i+1=>by
  obtain ⟨h1,h2,h3⟩:=qA hs l i;cases h:l[i]? with
  |
   none =>
   have:JG sg l (i+1)=JG sg l i:=by unfold JG; rw [List.take_of_length_le (by have:=List.getElem?_eq_none_iff.1 h; omega),List.take_of_length_le (List.getElem?_eq_none_iff.1 h)]
   rw [this]; omega
  |
   some p =>
   have:JG sg l (i+1)=S6 sg (JG sg l i) p:=Ti _ _ _ h;rw [this];have:=hs p;unfold S6
   split
   ·omega
   ·dsimp only; split <;> omega
theorem Qh4 {l:Uj} {fid:Nat} {l1:Un} {sg:Ui->Int} (hl:l.length≤1000) (hs:∀ p,-1≤sg p/\sg p≤1) (h:∀ p∈l,BI prog fid [pr p,.one (.sh l1)] [.oi (sg p)]):Uf 305 [.one (.sh [.row (Sl l)]),.one (.fn fid [] [.sh l1])] [.oi (Bu sg l:Nat)]:=by
 have hpl:=Lz l;refine Gb func305 rfl ?_;refine W9 [] rfl ?_;refine Ue (S:=Nat) 0 (λL1 i=>(15,.v (.oi i))::(5,.v (.oi ((JG sg l i).1:Int)))::(6,.v (.one (.int .i64 (JG sg l i).2)))::L1) (λ_=>[]) (λi=>l.length-i) (λi=>i<=l.length) 0 (Qi _) rfl rfl λi hi=>?_
 by_cases hlt:i<l.length
 ·obtain ⟨p,hp⟩:=gxE (l:=l) (i:=i) hlt;have hst:JG sg l (i+1)=S6 sg (JG sg l i) p:=Ti _ _ _ hp;obtain ⟨b1,b2,b3⟩:=qA hs l i;have b4:=hs p;by_cases h0:sg p=0
  ·refine Ua [.t (by simp [hpl]; omega),.x (H5 hp),.k (h p (Qa hp)),.t (by simpa using h0)] rfl ?_;exact rd (i+1) (by omega) hlt (by rw [hst,show S6 sg (JG sg l i) p=JG sg l i from by unfold S6; rw [if_pos h0]]; rfl)
  ·by_cases h1:(JG sg l i).2=-(sg p)
   ·refine Ua [.t (by simp [hpl]; omega),.x (H5 hp),.k (h p (Qa hp)),.f (by simpa using h0),.t (by simpa using h1)] rfl ?_;exact rd (i+1) (by omega) hlt (by rw [hst,show S6 sg (JG sg l i) p=((JG sg l i).1+1,sg p) from by unfold S6; rw [if_neg h0,if_pos h1]]; rfl)
   ·refine Ua [.t (by simp [hpl]; omega),.x (H5 hp),.k (h p (Qa hp)),.f (by simpa using h0),.f (by simpa using h1)] rfl ?_;exact rd (i+1) (by omega) hlt (by rw [hst,show S6 sg (JG sg l i) p=((JG sg l i).1,sg p) from by unfold S6; rw [if_neg h0,if_neg h1]]; rfl)
 ·obtain rfl:i=l.length:=by omega
  refine Ub [.f (by simp [hpl])] rfl ?_ trivial;unfold JG Bu; rw [List.take_length]
theorem Qap {p:Ui} {q:Rat} (hp:Pb p) (hq:Qb q):Uf 306 [pr p,.one (.sh (rl q))] [.oi (Hr p q)]:=Uc func306 rfl [.k (RY hp hq)] rfl
theorem pG {l:Uj} {q:Rat} (hl:l.length≤1000) (hp:∀ p∈l,Pb p) (hq:Qb q):Uf 284 [.one (.sh [.row (Sl l)]),.agg (rl q)] [.oi (Bv l q:Nat)] :=
 Uc func284 rfl [.k (Qh4 (fid:=306) (l1:=rl q) (sg:=λp=>Hr p q) hl (λp=>Iu p q) λp h=>Qap (hp p h) hq)] rfl
theorem Dw {sg:Ui->Int} (hs:∀ p,-1<=sg p/\sg p<=1) (l:Uj):Bu sg l<=l.length:=by
 have:=(qA hs l l.length).1;unfold JG at this; rwa [List.take_length] at this
theorem CO {l:Uj} {lo hi:Rat} (hl:l.length≤1000) (hp:∀ p∈l,Pb p) (ql:Qb lo) (qh:Qb hi):Uf 254 [.one (.sh [.row (Sl l)]),.agg (rl lo),.agg (rl hi)] [.oi (Rx l lo hi)]:=by
 have b1:Bv l lo<=l.length:=Dw (λp=>Iu p lo) l;have b2:Bv l hi<=l.length:=Dw (λp=>Iu p hi) l;have c1:=Cd qh.s31 ql.s31;unfold Rx;by_cases h:G7 hi lo<0
 ·rw [if_pos h];exact Uc func254 rfl [.k c1,.t (by simpa using h)] rfl
 ·rw [if_neg h];exact Uc func254 rfl [.k c1,.f (by simpa using h),.k (pG hl hp ql),.k (pG hl hp qh)] rfl rfl (by simp [Uw]; omega)
def zTm:Un:=[.nils,.bool false,.nils,.bool false,.nils,.bool false,.nils,.bool false,.nils]
theorem aC {a b:Tm} (ha:Tb a) (hb:Tb b):Pf a b<=17179938816+200000000:=by
 have l1:=ha.p.l;have l2:=hb.p.l;have b1:=ha.lo.1;have b2:=ha.hi.1;have b3:=hb.lo.1;have b4:=hb.hi.1;have s1:Gv a.p<=16777216:=by have:=Pp ha.p.b a.p.length; rwa [Q6] at this
 have s2:Gv b.p<=16777216:=by have:=Pp hb.p.b b.p.length; rwa [Q6] at this
 have:4*(a.p.length+b.p.length)*(Gv a.p+Gv b.p+(a.p.length+b.p.length)+8)<=512*33554568:=Q7 (by omega) (by omega);unfold Pf; omega
theorem Qju {a b:Rat} (ha:Qb a) (hb:Qb b):Qs 2147483647 (BG a b):=by
 have h1:U5 (a.num*(b.den:Int))<=33554432:=Qc (Ft _ _) (by have:=ha.1; have:=hb.2; omega);have h2:U5 (b.num*(a.den:Int))<=33554432:=Qc (Ft _ _) (by have:=hb.1; have:=ha.2; omega);have h3:U5 ((a.den:Int)*(b.den:Int))<=33554432:=Qc (Ft _ _) (by have:=ha.2; have:=hb.2; omega);have h5:U5 (a.num*(b.den:Int)-b.num*(a.den:Int))<=33554433:=Qc (OV _ _) (by omega);exact (Qs.divInt (s:=33554433) h5 (by omega) (by omega)).mono (by omega)
theorem IX {a b:Tm} {r:Tm×Tm×Int} (ha:Tb a) (hb:Tb b) (h:CQ (Pf a b) a b=some r):Uf 202 [.agg (ta a),.agg (ta b)] [.agg (ta r.1),.agg (ta r.2.1),.oi r.2.2]:=by
 have hsb:=aC ha hb;refine Gb func202 rfl ?_;refine W9 [.k (Qh2 ha hb)] rfl ?_;obtain ⟨n,hn⟩:=nmE (Pf a b);rw [<-hn] at h hsb ⊢;refine sb [(10,.v (.oi 0)),(9,.v (.oi n)),(5,.v (.one (.ow 3 0))),(4,.v (.one (.ow 2 0))),(3,.v (.one (.ow 1 0))),(2,.v (.one (.ow 0 0)))] [.blk 189 (ta a),.blk 189 (ta b),.blk 189 zTm,.blk 189 zTm] rfl rfl ?_;refine Ue (S:=Nat×Tm×Tm) 4 (λL1 s=>(10,.v (.oi (s.1:Int)))::L1) (λs=>[.blk 189 (ta s.2.1),.blk 189 (ta s.2.2),.blk 189 zTm,.blk 189 zTm]) (λs=>n-s.1) (λs=>s.1<=n/\Tb s.2.1/\Tb s.2.2/\CQ (n-s.1) s.2.1 s.2.2=some r) (0,a,b) ⟨Qi _,ha,hb,h⟩ rfl rfl λ⟨i,u,v⟩ ⟨j1,j2,j3,j4⟩=>?_
 dsimp only at j1 j2 j3 j4 ⊢;by_cases hi:i<n
 ·obtain ⟨k,hk⟩:∃ k,n-i=k+1:=⟨n-i-1,by omega⟩;have hk':n-(i+1)=k:=by omega
  rw [hk] at j4;have c1:=Cd j2.hi.s31 j3.lo.s31;have c2:=Cd j3.hi.s31 j2.lo.s31;have pu:=C7 j2;have pv:=C7 j3;have hlt:decide ((i:Int)<(n:Int))=true:=by simp; omega
  simp only [CQ] at j4;refine W9 [.t hlt] rfl ?_;refine ct 3 (S:=Unit) (λ_=>[(10,.v (.oi i)),(9,.v (.oi n)),(5,.v (.one (.ow 3 0))),(4,.v (.one (.ow 2 0))),(3,.v (.one (.ow 1 0))),(2,.v (.one (.ow 0 0)))]) (λ_=>[.blk 189 (ta u),.blk 189 (ta v),.blk 189 zTm,.blk 189 zTm]) (λ_=>¬C6 u v=true/\¬C6 v u=true) rfl ?_ ?_
  ·have bA:C6 u v=(decide (G7 u.hi v.lo<=0) && !(u.point && v.point && decide (G7 u.hi v.lo=0))):=by
    unfold C6; cases u.point <;> cases v.point <;> simp
   have bB:C6 v u=(decide (G7 v.hi u.lo<=0) && !(u.point && v.point && decide (G7 v.hi u.lo=0))):=by
    unfold C6; cases u.point <;> cases v.point <;> simp
   obtain ⟨a0,A'⟩:∃ b,decide (G7 u.hi v.lo<=0)=b:=⟨_,rfl⟩;obtain ⟨b0,B'⟩:∃ b,decide (G7 v.hi u.lo<=0)=b:=⟨_,rfl⟩;obtain ⟨p0,P'⟩:∃ b,u.point=b:=⟨_,rfl⟩;obtain ⟨q0,Q'⟩:∃ b,v.point=b:=⟨_,rfl⟩;obtain ⟨x0,X'⟩:∃ b,decide (G7 u.hi v.lo=0)=b:=⟨_,rfl⟩;obtain ⟨y0,Y'⟩:∃ b,decide (G7 v.hi u.lo=0)=b:=⟨_,rfl⟩;rw [A',P',Q',X'] at bA;rw [B',P',Q',Y'] at bB;have r1:C6 u v=true->(u,v,-1)=r:=λh=>by rw [if_pos h] at j4; injection j4
   have r2:¬C6 u v=true->C6 v u=true->(u,v,1)=r:=λh h'=>by rw [if_neg h,if_pos h'] at j4; injection j4
   clear j4;cases a0
   ·cases b0
    ·exact go tt [.k c1,.g 19 false A',.f rfl,.k c2,.g 45 false B',.f rfl] rfl trivial (rc () ⟨by rw [bA]; simp,by rw [bB]; simp⟩ rfl)
    ·cases p0
     ·obtain rfl:=r2 (by rw [bA]; simp) (by rw [bB]; rfl);exact Ub [.k c1,.g 19 false A',.f rfl,.k c2,.g 45 true B',.k pu,.g 48 false P',.g 52 false rfl,.t rfl] rfl
     ·cases q0
      ·obtain rfl:=r2 (by rw [bA]; simp) (by rw [bB]; rfl);exact Ub [.k c1,.g 19 false A',.f rfl,.k c2,.g 45 true B',.k pu,.g 48 true P',.k pv,.g 52 false Q',.t rfl] rfl
      ·cases y0
       ·obtain rfl:=r2 (by rw [bA]; simp) (by rw [bB]; rfl);exact Ub [.k c1,.g 19 false A',.f rfl,.k c2,.g 45 true B',.k pu,.g 48 true P',.k pv,.g 52 true Q',.k c2,.t (by simpa using Y')] rfl
       ·exact go tt [.k c1,.g 19 false A',.f rfl,.k c2,.g 45 true B',.k pu,.g 48 true P',.k pv,.g 52 true Q',.k c2,.f (by simpa using Y')] rfl trivial (rc () ⟨by rw [bA]; simp,by rw [bB]; simp⟩ rfl)
   ·cases p0
    ·obtain rfl:=r1 (by rw [bA]; rfl);exact Ub [.k c1,.g 19 true A',.k pu,.g 22 false P',.g 26 false rfl,.t rfl] rfl
    ·cases q0
     ·obtain rfl:=r1 (by rw [bA]; rfl);exact Ub [.k c1,.g 19 true A',.k pu,.g 22 true P',.k pv,.g 26 false Q',.t rfl] rfl
     ·cases x0
      ·obtain rfl:=r1 (by rw [bA]; rfl);exact Ub [.k c1,.g 19 true A',.k pu,.g 22 true P',.k pv,.g 26 true Q',.k c1,.t (by simpa using X')] rfl
      ·cases b0
       ·exact go tt [.k c1,.g 19 true A',.k pu,.g 22 true P',.k pv,.g 26 true Q',.k c1,.f (by simpa using X'),.k c2,.g 45 false B',.f rfl] rfl trivial (rc () ⟨by rw [bA]; simp,by rw [bB]; simp⟩ rfl)
       ·cases y0
        ·obtain rfl:=r2 (by rw [bA]; simp) (by rw [bB]; rfl);exact Ub [.k c1,.g 19 true A',.k pu,.g 22 true P',.k pv,.g 26 true Q',.k c1,.f (by simpa using X'),.k c2,.g 45 true B',.k pu,.g 48 true P',.k pv,.g 52 true Q',.k c2,.t (by simpa using Y')] rfl
        ·exact go tt [.k c1,.g 19 true A',.k pu,.g 22 true P',.k pv,.g 26 true Q',.k c1,.f (by simpa using X'),.k c2,.g 45 true B',.k pu,.g 48 true P',.k pv,.g 52 true Q',.k c2,.f (by simpa using Y')] rfl trivial (rc () ⟨by rw [bA]; simp,by rw [bB]; simp⟩ rfl)
  ·rintro _ ⟨n1,n2⟩
   rw [if_neg n1,if_neg n2] at j4;have qr:∀ {x y:Rat},Qb x->Qb y->Qs 2147483647 (BG x y):=λh1 h2=>Qju h1 h2
   have cc:=Cd (qr j2.hi j2.lo) (qr j3.hi j3.lo);by_cases D:0<=G7 (BG u.hi u.lo) (BG v.hi v.lo)
   ·rw [if_pos D] at j4;obtain ⟨x,x1,x2⟩:=Qd.1 j4;refine Ua [.k (IU j2.hi j2.lo),.k (IU j3.hi j3.lo),.k cc,.t (by simpa using D),.k (fZ j2 x1)] rfl ?_;exact rd (i+1,x,v) (by dsimp only; omega) ⟨hi,qC j2 x1,j3,by dsimp only; rw [hk']; exact x2⟩ rfl
   ·rw [if_neg D] at j4;obtain ⟨x,x1,x2⟩:=Qd.1 j4;refine Ua [.k (IU j2.hi j2.lo),.k (IU j3.hi j3.lo),.k cc,.f (by simpa using D),.k (fZ j3 x1)] rfl ?_;exact rd (i+1,u,x) (by dsimp only; omega) ⟨hi,j2,qC j3 x1,by dsimp only; rw [hk']; exact x2⟩ rfl
 ·obtain rfl:i=n:=by omega
  rw [Kd] at j4;simp only [CQ] at j4;injection j4 with j4; subst j4;exact Ub [.f (by simp)] rfl
theorem Qh1 {a b:Rat} (ha:Qb a) (hb:Qb b):Uf 64 [.agg (rl a),.one (.row [rl b])] [.agg (rl (if 0<G7 b a then b else a))]:=by
 have ca:=TQ (Uu a.num) (Uu (a.den:Int)) ha.s32.1 ha.s32.2;have cb:=TQ (Uu b.num) (Uu (b.den:Int)) hb.s32.1 hb.s32.2;rw [Sw] at ca cb;have cc:=Cd hb.s31 ha.s31;refine Gb func64 rfl ?_;refine W9 [.k ca] rfl ?_;refine Ue (S:=Nat) 3 (λL1 i=>(12,.v (.oi i))::L1) (λi=>[.blk 43 (rl a),.blk 43 [.bool false,.nils,.bool false,.nils],.blk 43 (rl (if i=0 then a else if 0<G7 b a then b else a))]) (λi=>1-i) (λi=>i<=1) 0 (Qi _) rfl rfl λi hi=>?_
 rcases (show i=0\/i=1 by omega) with rfl | rfl
 ·by_cases h:0<G7 b a
  ·refine W9 [.t rfl,.x (i:=0) (xs:=rl b) rfl,.k cc,.t (by simpa using h),.k cb] rfl ?_ (by simp [Uw]);exact rd 1 (by omega) (by omega) (by rw [if_pos h]; rfl)
  ·refine W9 [.t rfl,.x (i:=0) (xs:=rl b) rfl,.k cc,.f (by simpa using h)] rfl ?_ (by simp [Uw]);exact rd 1 (by omega) (by omega) (by rw [if_neg h]; rfl)
 ·exact Ub [.f rfl] rfl
theorem YZ {a b:Tm} {c:Int} (ha:Tb a) (hb:Tb b) (h:KZ a b=some c):Uf 162 [.agg (ta a),.agg (ta b)] [.oi c]:=by
 have ca:=TZ ha;have cb:=TZ hb;have pa:=C7 ha;have pb:=C7 hb;unfold KZ at h;by_cases h1:a.point=true
 ·rw [if_pos h1] at h;injection h with h; subst h;have:=Qh6 b a.lo;exact Uc func162 rfl [.k ca,.k cb,.k pa,.t h1,.k (Cc hb ha.lo)] rfl rfl (by simp [Uw]; omega)
 rw [if_neg h1] at h;have h1:a.point=false:=by simpa using h1
 by_cases h2:b.point=true
 ·rw [if_pos h2] at h;injection h with h; subst h;exact Uc func162 rfl [.k ca,.k cb,.k pa,.f h1,.k pb,.t h2,.k (Cc ha hb.lo)] rfl
 rw [if_neg h2] at h;have h2:b.point=false:=by simpa using h2
 obtain ⟨lo,hlo⟩:=nmE (if 0<G7 b.lo a.lo then b.lo else a.lo);obtain ⟨hi,hhi⟩:=nmE (if G7 b.hi a.hi<0 then b.hi else a.hi);have h:(if G7 lo hi<0 then (qZ a.p b.p).bind λg=>if 1<g.length/\KN g lo hi=true then some 0 else (CQ (Pf a b) a b).bind λr=>some r.2.2 else (CQ (Pf a b) a b).bind λr=>some r.2.2)=some c:=by rw [hlo,hhi]; exact h
 have qlo:Qb lo:=by rw [hlo]; split; exact hb.lo; exact ha.lo
 have qhi:Qb hi:=by rw [hhi]; split; exact hb.hi; exact ha.hi
 have cm:=Qh1 ha.lo hb.lo;rw [<-hlo] at cm;have cc1:=Cd hb.hi.s31 ha.hi.s31;have cc2:=Cd qlo.s31 qhi.s31;refine Gb func162 rfl ?_;refine W9 [.k ca,.k cb,.k pa,.f h1,.k pb,.f h2,.k cm] rfl ?_;refine ct 2 (S:=Unit) (λ_=>[(6,.v (.one (.ow 3 0))),(5,.v (.one (.ow 2 0))),(4,.v (.oi 0)),(3,.v (.one (.ow 1 0))),(2,.v (.one (.ow 0 0)))]) (λ_=>[.blk 189 (ta a),.blk 189 (ta b),.blk 43 (rl lo),.blk 43 (rl hi)]) (λ_=>True) rfl ?_ ?_
 ·by_cases D:G7 b.hi a.hi<0
  ·rw [if_pos D] at hhi; subst hhi;exact go tt [.k cc1,.t (by simpa using D)] rfl trivial (rc () trivial rfl)
  ·rw [if_neg D] at hhi; subst hhi;exact go tt [.k cc1,.f (by simpa using D)] rfl trivial (rc () trivial rfl)
 ·rintro _ _
  by_cases D:G7 lo hi<0
  ·rw [if_pos D] at h;obtain ⟨g,g1,h⟩:=Qd.1 h;have cg:=oI ha.p hb.p g1;have pg:=Qd9 ha.p hb.p g1;have ch:=Qaw pg qlo qhi;by_cases G:1<g.length
   ·by_cases R:KN g lo hi=true
    ·rw [if_pos ⟨G,R⟩] at h;injection h with h; subst h;exact Ub [.k cc2,.t (by simpa using D),.k cg,.k (Ph g),.g 58 true (by simp; omega),.k ch,.t R] rfl
    ·rw [if_neg λh=>R h.2] at h;obtain ⟨r,r1,h⟩:=Qd.1 h;injection h with h; subst h;exact Ub [.k cc2,.t (by simpa using D),.k cg,.k (Ph g),.g 58 true (by simp; omega),.k ch,.f (by simpa using R),.k (IX ha hb r1)] rfl
   ·rw [if_neg λh=>G h.1] at h;obtain ⟨r,r1,h⟩:=Qd.1 h;injection h with h; subst h;exact Ub [.k cc2,.t (by simpa using D),.k cg,.k (Ph g),.g 58 false (by simp; omega),.f rfl,.k (IX ha hb r1)] rfl
  ·rw [if_neg D] at h;obtain ⟨r,r1,h⟩:=Qd.1 h;injection h with h; subst h;exact Ub [.k cc2,.f (by simpa using D),.k (IX ha hb r1)] rfl
theorem Qg7 {p:Ui} {a:Tm} {s:Int} (hp:Pb p) (ha:Tb a) (h:WA p a=some s):Uf 214 [pr p,.agg (ta a)] [.oi s]:=by
 have ca:=TZ ha;have pa:=C7 ha;have cn:=Hd hp.t hp.ln hp.bd;unfold WA at h;by_cases h0:p.length=0
 ·rw [if_pos h0] at h;injection h with h; subst h;exact Uc func214 rfl [.k cn,.k ca,.t (by simp; exact Qh h0)] rfl
 rw [if_neg h0] at h;have h0:p≠[]:=λe=>h0 (by rw [e]; rfl)
 by_cases h1:a.point=true
 ·rw [if_pos h1] at h;injection h with h; subst h;exact Uc func214 rfl [.k cn,.k ca,.f (by simpa using h0),.k pa,.t h1,.k (RY hp ha.lo)] rfl
 rw [if_neg h1] at h;have h1:a.point=false:=by simpa using h1
 obtain ⟨g,g1,h⟩:=Qd.1 h;have cg:=oI hp ha.p g1;have pg:=Qd9 hp ha.p g1;have ch:=Qaw pg ha.lo ha.hi;by_cases G:1<g.length/\KN g a.lo a.hi=true
 ·rw [if_pos G] at h;injection h with h; subst h;exact Uc func214 rfl [.k cn,.k ca,.f (by simpa using h0),.k pa,.f h1,.k cg,.k (Ph g),.g 29 true (by simp; omega),.k ch,.t G.2] rfl
 rw [if_neg G] at h;obtain ⟨c,c1,h⟩:=Qd.1 h;obtain ⟨u,u1,h⟩:=Qd.1 h;injection h with h; subst h;obtain ⟨cl,call⟩:=chain_ok hp c1;obtain ⟨n,hn⟩:=nmE (64+2*(U5 a.lo.num+U5 a.hi.num)+4*(a.p.length+p.length)*(Gv a.p+Gv p+(a.p.length+p.length)+8));have cst:=Qba ha hp;rw [show tI p a=n from hn.symm] at cst;rw [<-hn] at u1;have hnb:n<=17179938816+200000000:=by
  have l1:=ha.p.l;have l2:=hp.l;have b1:=ha.lo.1;have b2:=ha.hi.1;have s1:Gv a.p<=16777216:=by have:=Pp ha.p.b a.p.length; rwa [Q6] at this
  have s2:Gv p<=16777216:=by have:=Pp hp.b p.length; rwa [Q6] at this
  have:4*(a.p.length+p.length)*(Gv a.p+Gv p+(a.p.length+p.length)+8)<=512*33554568:=Q7 (by omega) (by omega);omega
 refine Gb func214 rfl ?_;refine W9 [.k cn,.k ca,.f (by simpa using h0),.k pa,.f h1,.k cg] rfl ?_;refine ct 2 (S:=Unit) (λ_=>[(3,.v (.one (.ow 0 0))),(0,.v (pr p))]) (λ_=>[.blk 189 (ta a)]) (λ_=>True) rfl ?_ ?_
 ·by_cases G1:1<g.length
  ·exact go tt [.k (Ph g),.g 29 true (by simp; omega),.k ch,.f (by simpa using λh=>G ⟨G1,h⟩)] rfl trivial (rc () trivial rfl)
  ·exact go tt [.k (Ph g),.g 29 false (by simp; omega),.f rfl] rfl trivial (rc () trivial rfl)
 rintro _ _
 refine W9 [.k (Qag hp c1),.k cst] rfl ?_;refine Ue (S:=Nat×Tm) 1 (λL1 s=>(46,.v (.oi (s.1:Int)))::L1) (λs=>[.blk 189 (ta s.2)]) (λs=>n-s.1) (λs=>s.1<=n/\Tb s.2/\sgF c (n-s.1) s.2=some u) (0,a) ⟨Qi _,ha,u1⟩ rfl rfl λ⟨i,x⟩ ⟨j1,j2,j3⟩=>?_
 dsimp only at j1 j2 j3 ⊢;by_cases hi:i<n
 ·obtain ⟨k,hk⟩:∃ k,n-i=k+1:=⟨n-i-1,by omega⟩;have hk':n-(i+1)=k:=by omega
  rw [hk] at j3;simp only [sgF] at j3;have px:=C7 j2;have cb:=CO (by omega) call j2.lo j2.hi;have hlt:decide ((i:Int)<(n:Int))=true:=by simp; omega
  by_cases X:x.point=true
  ·rw [if_pos (.inl X)] at j3;injection j3 with j3; subst j3;exact Ub [.t hlt,.k px,.g 50 true X,.t rfl,.k (RY hp j2.hi)] rfl
  ·have X':x.point=false:=by simpa using X
   by_cases Z:Rx c x.lo x.hi=0
   ·rw [if_pos (.inr Z)] at j3;injection j3 with j3; subst j3;exact Ub [.t hlt,.k px,.g 50 false X',.k cb,.t (by simpa using Z),.k (RY hp j2.hi)] rfl
   ·rw [if_neg (by rintro (h | h); exact X h; exact Z h)] at j3;obtain ⟨v,v1,v2⟩:=Qd.1 j3;refine Ua [.t hlt,.k px,.g 50 false X',.k cb,.f (by simpa using Z),.k (fZ j2 v1)] rfl ?_;exact rd (i+1,v) (by dsimp only; omega) ⟨hi,qC j2 v1,by dsimp only; rw [hk']; exact v2⟩ rfl
 ·obtain rfl:i=n:=by omega
  rw [Kd] at j3;simp only [sgF] at j3;injection j3 with j3; subst j3;exact Ub [.f (by simp),.k (RY hp j2.hi)] rfl
abbrev tas (l:List Tm):LV:=.row (l.map λt=>ta t)
theorem SH {l:List Tm} {i:Nat} {t:Tm} (h:l[i]? = some t):(l.map λt=>ta t)[i]? = some (ta t):=H9 h
def zTr:Un:=[.row [],.bool false,.row [],.bool false,.row [],.bool false,.row [],.bool false,.row []]
theorem xU:Uf 196 [.one (.row [])] [.agg zTr,.one (.bool false)]:=Uc func196 rfl [.t rfl] rfl
theorem Sj {b:Tm} {l:List Tm} {m:Tm} (hb:Tb b) (hl:∀ t∈l,Tb t) (hn:l.length≤1000000) (h:Oo b l=some m):Uf 196 [.one (tas (b::l))] [.agg (ta m),.one (.bool true)]:=by
 refine Gb func196 rfl ?_;refine go tt [.f (by simp; omega),.x (i:=0) (xs:=ta b) rfl,.i 1] rfl (by simp [Uw]; exact ⟨rfl,λ_ _=>rfl⟩) ?_;refine Ue (S:=Nat×Tm) 2 (λL1 s=>(17,.v (.oi (s.1:Int)))::L1) (λs=>[.blk 189 zTm,.blk 189 (ta s.2)]) (λs=>l.length-s.1) (λs=>s.1<=l.length/\Tb s.2/\Oo s.2 (l.drop s.1)=some m) (0,b) ⟨Qi _,hb,h⟩ rfl rfl λ⟨i,x⟩ ⟨j1,j2,j3⟩=>?_
 dsimp only at j1 j2 j3 ⊢;by_cases hi:i<l.length
 ·obtain ⟨a,ha⟩:=gxE (l:=l) (i:=i) hi;have hdr:l.drop i=a::l.drop (i+1):=by
   rw [Zp hi]; congr 1;have:=Qf hi; rw [ha] at this; injection this with this; exact this.symm
  rw [hdr] at j3;simp only [Oo] at j3;obtain ⟨c,c1,j3⟩:=Qd.1 j3;have ta':=hl a (Qa ha);by_cases hc:c<0
  ·rw [if_pos hc] at j3;refine Ua [.t (by simp; omega),.x (SH ha),.k (YZ ta' j2 c1),.t (by simpa using hc)] rfl ?_;exact rd (i+1,a) (by dsimp only; omega) ⟨hi,ta',j3⟩ rfl
  ·rw [if_neg hc] at j3;refine Ua [.t (by simp; omega),.x (SH ha),.k (YZ ta' j2 c1),.f (by simpa using hc)] rfl ?_;exact rd (i+1,x) (by dsimp only; omega) ⟨hi,j2,j3⟩ rfl
 ·obtain rfl:i=l.length:=by omega
  rw [Ys] at j3;simp only [Oo] at j3;injection j3 with j3; subst j3;exact Ub [.f (by simp),.k (Qbc j2)] rfl
end Orr
namespace Orq
def Fa (x:Rat):Rat:=if x<0 then -x else x
theorem Hj (x:Rat):0<=Fa x:=by unfold Fa; split <;> grind
theorem Pq {x b:Rat}:Fa x<=b↔-b<=x/\x<=b:=by unfold Fa; split <;> constructor <;> grind
theorem qG {x b:Rat}:Fa x<b↔-b<x/\x<b:=by unfold Fa; split <;> constructor <;> grind
theorem To (x y:Rat):Fa (x+y)<=Fa x+Fa y:=by unfold Fa; split <;> split <;> split <;> grind
theorem cP (x y:Rat):Fa (x-y)=Fa (y-x):=by unfold Fa; split <;> split <;> grind
theorem Lp (x:Rat):Fa (-x)=Fa x:=by unfold Fa; split <;> split <;> grind
theorem Hy:Fa 0=0:=by decide
theorem Bm {x:Rat} (h:x≠0):0<Fa x:=by unfold Fa; split <;> grind
theorem Qjt {x:Rat} (h:Fa x=0):x=0:=by unfold Fa at h; split at h <;> grind
theorem M4 {x y:Rat} (h1:0<=x) (h2:0<=y):0<=x*y:=Y8 h1 h2
theorem Ay {x y:Rat} (h1:0<x) (h2:0<y):0<x*y:=Xp h1 h2
theorem Be {a b c d:Rat} (h0:0<=a) (h1:a<=b) (h2:0<=c) (h3:c<=d):a*c<=b*d:=by
 have e1:=Q8 h1 h2;have e2:=Zx h3 (Zh h0 h1);exact Zh e1 e2
theorem Ap (x y:Rat):Fa (x*y)=Fa x*Fa y:=by
 unfold Fa;by_cases h1:x<0 <;> by_cases h2:y<0
 ·have:=Ay (x:=-x) (y:=-y) (by grind) (by grind); simp only [h1,h2,if_true]; split <;> grind
 ·have:=M4 (x:=-x) (y:=y) (by grind) (by grind); simp only [h1,h2,if_true,if_false]; split <;> grind
 ·have:=M4 (x:=x) (y:=-y) (by grind) (by grind); simp only [h1,h2,if_true,if_false]; split <;> grind
 ·have:=M4 (x:=x) (y:=y) (by grind) (by grind); simp only [h1,h2,if_false]; split <;> grind
theorem Gx {x y a b:Rat} (h1:Fa x<=a) (h2:Fa y<=b):Fa (x*y)<=a*b:=by
 rw [Ap]; exact Be (Hj x) h1 (Hj y) h2
theorem Ed {x y:Rat} (h1:0<x) (h2:0<y):0<x / y:=by rw [X3]; exact Ay h1 (Rat.inv_pos.2 h2)
theorem Gy {x y:Rat} (h2:0<y):x / y*y=x:=Zc (by grind)
theorem G5 {b d:Rat} (hb:0<=b) (hd:0<d):∃ e:Rat,0<e/\e<=1/\e*b<d:=by
 have h1:0<d / (b+1):=Ed hd (by grind);have h2:d / (b+1)*(b+1)=d:=Gy (by grind);rcases Vq (a:=d / (b+1)) (b:=1) with h | h
 ·exact ⟨d / (b+1),h1,h,by
   have:d / (b+1)*(b+1)=d / (b+1)*b+d / (b+1):=by grind
   grind⟩
 ·refine ⟨1,by decide,by decide,?_⟩;have:1*(b+1)<=d / (b+1)*(b+1):=Q8 h (by grind);grind
def ev:Ul->Rat->Rat
 | [],_=>0
 | a::p,t=>a+t*ev p t
def dv:Ul->Rat->Rat
 | [],_=>0
 | _::p,t=>ev p t+t*dv p t
def dq:Ul->Rat->Rat->Rat
 | [],_,_=>0
 | _::p,x,y=>ev p x+y*dq p x y
def dd:Ul->Rat->Rat->Rat
 | [],_,_=>0
 | _::p,x,y=>dq p x y+y*dd p x y
theorem LX (x y:Rat):∀ p,ev p x-ev p y=(x-y)*dq p x y
 | []=>by simp only [ev,dq]; grind
 | a::p=>by have:=LX x y p; simp only [ev,dq]; grind
theorem IS (y:Rat):∀ p,dq p y y=dv p y
 | []=>rfl
 | a::p=>by simp only [dq,dv,IS y p]
theorem Qlr (x y:Rat):∀ p,dq p x y-dv p y=(x-y)*dd p x y
 | []=>by simp only [dv,dq,dd]; grind
 |
  a::p=>by
  have h1:=Qlr x y p;have h2:=LX x y p;simp only [dv,dq,dd]; grind
theorem Qlu (p:Ul) (x y:Rat):ev p x-ev p y=(x-y)*dv p y+(x-y)*(x-y)*dd p x y:=by
 have h1:=LX x y p;have h2:=Qlr x y p;grind
def jN (R:Rat):Ul->Rat
 | []=>0
 | a::p=>Fa a+R*jN R p
def CJ (R:Rat):Ul->Rat
 | []=>0
 | _::p=>jN R p+R*CJ R p
def ddB (R:Rat):Ul->Rat
 | []=>0
 | _::p=>CJ R p+R*ddB R p
theorem QS {R:Rat} (hR:0<=R):∀ p,0<=jN R p
 | []=>by simp only [jN]; grind
 | a::p=>by have:=M4 hR (QS hR p); have:=Hj a; simp only [jN]; grind
theorem Mc {R:Rat} (hR:0<=R):∀ p,0<=CJ R p
 | []=>by simp only [CJ]; grind
 | a::p=>by have:=M4 hR (Mc hR p); have:=QS hR p; simp only [CJ]; grind
theorem PI {R:Rat} (hR:0<=R):∀ p,0<=ddB R p
 | []=>by simp only [ddB]; grind
 | a::p=>by have:=M4 hR (PI hR p); have:=Mc hR p; simp only [ddB]; grind
theorem HK {R x:Rat} (hx:Fa x<=R):∀ p,Fa (ev p x)<=jN R p
 | []=>by simp only [ev,jN,Hy]; grind
 |
  a::p=>by
  have h1:=To a (x*ev p x);have h2:=Gx hx (HK hx p);simp only [ev,jN]; grind
theorem jH {R x y:Rat} (hx:Fa x<=R) (hy:Fa y<=R):∀ p,Fa (dq p x y)<=CJ R p
 | []=>by simp only [dq,CJ,Hy]; grind
 |
  a::p=>by
  have h1:=To (ev p x) (y*dq p x y);have h2:=Gx hy (jH hx hy p);have h3:=HK hx p;simp only [dq,CJ]; grind
theorem Qbu {R x y:Rat} (hx:Fa x<=R) (hy:Fa y<=R):∀ p,Fa (dd p x y)<=ddB R p
 | []=>by simp only [dd,ddB,Hy]; grind
 |
  a::p=>by
  have h1:=To (dq p x y) (y*dd p x y);have h2:=Gx hy (Qbu hx hy p);have h3:=jH hx hy p;simp only [dd,ddB]; grind
theorem Qn2 {R x y:Rat} (hx:Fa x<=R) (hy:Fa y<=R) (p:Ul):Fa (ev p x-ev p y)<=Fa (x-y)*CJ R p:=by
 rw [LX,Ap]; exact Be (Hj _) Qp (Hj _) (jH hx hy p)
def Tp:Ul->Ul->Ul
 | [],q=>q
 | a::p,[]=>a::p
 | a::p,b::q=>(a+b)::Tp p q
def C0 (c:Rat) (p:Ul):Ul:=p.map (c * ·)
def Gt:Ul->Ul->Ul
 | [],_=>[]
 | a::p,q=>Tp (C0 a q) (0::Gt p q)
def M6:Ul->Ul
 | []=>[]
 | _::p=>Tp p (0::M6 p)
theorem Gp (t:Rat):∀ p q,ev (Tp p q) t=ev p t+ev q t
 | [],q=>by simp only [Tp,ev]; grind
 | a::p,[]=>by simp only [Tp,ev]; grind
 | a::p,b::q=>by have:=Gp t p q; simp only [Tp,ev]; grind
theorem Gh (c t:Rat):∀ p,ev (C0 c p) t=c*ev p t
 | []=>by simp only [C0,Jc,ev]; grind
 | a::p=>by have:=Gh c t p; simp only [C0,Zz,ev] at *; grind
theorem U8 (t:Rat):∀ p q,ev (Gt p q) t=ev p t*ev q t
 | [],q=>by simp only [Gt,ev]; grind
 | a::p,q=>by have:=U8 t p q; simp only [Gt,Gp,Gh,ev]; grind
theorem Ry (t:Rat):∀ p,ev (M6 p) t=dv p t
 | []=>rfl
 | a::p=>by have:=Ry t p; simp only [M6,Gp,ev,dv]; grind
theorem IM (t:Rat):∀ p q,dv (Tp p q) t=dv p t+dv q t
 | [],q=>by simp only [Tp,dv]; grind
 | a::p,[]=>by simp only [Tp,dv]; grind
 | a::p,b::q=>by have:=IM t p q; have:=Gp t p q; simp only [Tp,dv]; grind
theorem FZ (c t:Rat):∀ p,dv (C0 c p) t=c*dv p t
 | []=>by simp only [C0,Jc,dv]; grind
 | a::p=>by have:=FZ c t p; have:=Gh c t p; simp only [C0,Zz,dv] at *; grind
theorem IN (t:Rat):∀ p q,dv (Gt p q) t=dv p t*ev q t+ev p t*dv q t
 | [],q=>by simp only [Gt,dv,ev]; grind
 | a::p,q=>by have:=IN t p q; have:=U8 t p q; simp only [Gt,IM,FZ,dv,ev]; grind
theorem mB:∀ {p:Ul},(∀ x∈p,x=0)->∀ t,ev p t=0
 | [],_,t=>rfl
 |
  a::p,h,t=>by
  have h1:=mB (p:=p) (λx hx=>h x (Qg _ hx)) t;have h2:=h a (Qw ..);simp only [ev,h1,h2]; grind
theorem mT:∀ {p:Ul},(∀ x∈p,x=0)->∀ t,dv p t=0
 | [],_,t=>rfl
 |
  a::p,h,t=>by
  have h0:=λx hx=>h x (Qg _ hx)
  have h1:=mB (p:=p) h0 t;have h2:=mT (p:=p) h0 t;simp only [dv,h1,h2]; grind
theorem VS:∀ {p:Ul},(∀ t,0<t->t<1->ev p t=0)->∀ x∈p,x=0
 | [],_=>λx hx=>by cases hx
 |
  a::p,h=>by
  have ha:a=0:=by
   rcases Classical.em (a=0) with h0 | h0
   ·exact h0
   ·obtain ⟨e,e1,e2,e3⟩:=G5 (QS (R:=1) (by decide) p) (Bm h0);obtain ⟨f,f1,f2,f3⟩:=G5 (b:=1) (d:=e) (by decide) e1;have h1:=h f f1 (by grind);have h2:=HK (R:=1) (x:=f) (by unfold Fa; split <;> grind) p;have h3:=Ap f (ev p f);have h4:Fa f=f:=by unfold Fa; split <;> grind
    have h5:a=-(f*ev p f):=by simp only [ev] at h1; grind
    have h6:Fa a=f*Fa (ev p f):=by rw [h5,Lp,h3,h4]
    have h7:f*Fa (ev p f)<=e*jN 1 p:=Be (Qq f1) (by grind) (Hj _) h2;grind
  intro x hx;rcases Qm.1 hx with rfl | hx
  ·exact ha
  ·refine VS (p:=p) (λt h1 h2=>?_) x hx;have:=h t h1 h2;simp only [ev,ha] at this;have h3:t*ev p t=0:=by grind
   rcases X7.1 h3 with h4 | h4
   ·grind
   ·exact h4
theorem Qb1 {p q:Ul} (h:∀ t,ev p t=ev q t) (t:Rat):dv p t=dv q t:=by
 have h1:=mT (p:=Tp p (C0 (-1) q)) (VS λt _ _=>by rw [Gp,Gh,h t]; grind) t;rw [IM,FZ] at h1; grind
def U4 (x:Rat):Int:=if x<0 then -1 else if 0<x then 1 else 0
theorem Gd {x:Rat}:U4 x=0↔x=0:=by
 unfold U4; constructor
 ·intro h; split at h <;> (try split at h) <;> grind
 ·intro h; subst h; rfl
theorem Hl {x:Rat}:U4 x=1↔0<x:=by
 unfold U4; constructor
 ·intro h; split at h <;> (try split at h) <;> grind
 ·intro h; rw [if_neg (by grind),if_pos h]
theorem So {x:Rat}:U4 x=-1↔x<0:=by
 unfold U4; constructor
 ·intro h; split at h <;> (try split at h) <;> grind
 ·intro h; rw [if_pos h]
theorem Fi (x:Rat):U4 x=-1/\x<0\/U4 x=0/\x=0\/U4 x=1/\0<x:=by
 rcases Vq (a:=x) (b:=0) with h | h
 ·rcases Classical.em (x=0) with h0 | h0
  ·exact .inr (.inl ⟨Gd.2 h0,h0⟩)
  ·exact .inl ⟨So.2 (by grind),by grind⟩
 ·rcases Classical.em (x=0) with h0 | h0
  ·exact .inr (.inl ⟨Gd.2 h0,h0⟩)
  ·exact .inr (.inr ⟨Hl.2 (by grind),by grind⟩)
theorem Tr (x y:Rat):U4 (x*y)=U4 x*U4 y:=by
 rcases Fi x with ⟨e1,h1⟩ | ⟨e1,h1⟩ | ⟨e1,h1⟩ <;> rcases Fi y with ⟨e2,h2⟩ | ⟨e2,h2⟩ | ⟨e2,h2⟩ <;> rw [e1,e2]
 ·have:=Ay (x:=-x) (y:=-y) (by grind) (by grind); exact Hl.2 (by grind)
 ·subst h2; exact Gd.2 (by grind)
 ·have:=Ay (x:=-x) (y:=y) (by grind) (by grind); exact So.2 (by grind)
 ·subst h1; exact Gd.2 (by grind)
 ·subst h1; exact Gd.2 (by grind)
 ·subst h1; exact Gd.2 (by grind)
 ·have:=Ay (x:=x) (y:=-y) (by grind) (by grind); exact So.2 (by grind)
 ·subst h2; exact Gd.2 (by grind)
 ·exact Hl.2 (Ay h1 h2)
theorem S9 {a b d:Rat} (h1:d<=Fa a) (h2:Fa (b-a)<d):U4 b=U4 a/\U4 a≠0:=by
 rw [qG] at h2;rcases Fi a with ⟨e,h⟩ | ⟨e,h⟩ | ⟨e,h⟩
 ·rw [e,So]; unfold Fa at h1; rw [if_pos h] at h1; exact ⟨by grind,by decide⟩
 ·subst h; rw [Hy] at h1; grind
 ·rw [e,Hl]; unfold Fa at h1; rw [if_neg (by grind)] at h1; exact ⟨by grind,by decide⟩
def tc (x:Rat):Int->Um->Nat
 | _,[]=>0
 | s,p::l=>if U4 (ev p x)=0 then tc x s l else (if s=-(U4 (ev p x)) then 1 else 0)+tc x (U4 (ev p x)) l
inductive SCl:List Rat->List Rat->List (List Rat)->Prop
 | base {f g:List Rat} {c:Rat} (hc:c≠0) (hg:∀ t,ev g t=c):SCl f g []
 | step {f g h:List Rat} {l:List (List Rat)} {a b:Rat} {q:List Rat} (ha:0<a) (hb:0<b) (he:∀ t,a*ev f t=ev q t*ev g t-b*ev h t) (hl:SCl g h l):SCl f g (h::l)
theorem Qfv {x:Rat} {s:Int} {g h:Ul} {l:Um} (hh:U4 (ev h x)=-s) (hs:s≠0):tc x s (g::h::l)=1+tc x (-s) l:=by
 have h3:U4 (ev h x)≠0:=by omega
 have hv:s=1\/s=-1:=by rcases Fi (ev h x) with ⟨e,_⟩ | ⟨e,_⟩ | ⟨e,_⟩ <;> omega
 simp only [tc,if_neg h3,hh];rcases Fi (ev g x) with ⟨e,_⟩ | ⟨e,_⟩ | ⟨e,_⟩ <;> rw [e] <;> rcases hv with rfl | rfl <;> simp
theorem UZ {x:Rat} {s:Int} {p:Ul} {l:Um} (h:U4 (ev p x)≠0):tc x s (p::l)=(if s=-(U4 (ev p x)) then 1 else 0)+tc x (U4 (ev p x)) l:=by rw [tc,if_neg h]
theorem Pn {R x y e d:Rat} {p:Ul} (hx:Fa x<=R) (hy:Fa y<=R) (hR:0<=R) (h:Fa (y-x)<=e) (hd:e*CJ R p<d):Fa (ev p y-ev p x)<d:=by
 have h1:=Qn2 hy hx p;have h2:=Q8 h (Mc hR p);grind
theorem EY {a x y:Rat} (ha:0<a) (h:a*x<a*y):x<y:=by
 rcases Vq (a:=y) (b:=x) with h' | h'
 ·have:=Zx h' (Qq ha); grind
 ·rcases Classical.em (x=y) with e | e
  ·subst e; grind
  ·grind
theorem Qpq {a b d d' B f g h q:Rat} (ha:0<a) (hb:0<b) (dp:0<d) (h7:B*d+a*d<b*d') (hq:Fa q<=B) (hg:Fa g<d) (hh:d'<=Fa h) (he:a*f=q*g-b*h) (hd':0<d'):U4 h=-U4 f/\d<=Fa f:=by
 have h4:=Gx hq (Qq hg);rw [Pq] at h4;have had:=Ay ha dp;have h8:=Zx hh (Qq hb);rcases Fi h with ⟨s,p⟩ | ⟨s,p⟩ | ⟨s,p⟩
 ·have:Fa h=-h:=by unfold Fa; rw [if_pos p]
  rw [this] at h8;have h10:d<f:=EY ha (by grind);rw [s,Hl.2 (show 0<f by grind)];exact ⟨rfl,by unfold Fa; split <;> grind⟩
 ·rw [p,Hy] at hh; grind
 ·have:Fa h=h:=by unfold Fa; rw [if_neg (by grind)]
  rw [this] at h8;have h10:f < -d:=EY ha (by grind);rw [s,So.2 (show f<0 by grind)];exact ⟨rfl,by unfold Fa; split <;> grind⟩
theorem min2 {a b:Rat} (ha:0<a) (hb:0<b):∃ e:Rat,0<e/\e<=a/\e<=b:=by
 rcases Vq (a:=a) (b:=b) with h | h
 ·exact ⟨a,ha,Qp,h⟩
 ·exact ⟨b,hb,h,Qp⟩
theorem Fv (a b:Rat):a<=b\/b<a:=by
 rcases Vq (a:=a) (b:=b) with h | h
 ·exact .inl h
 ·rcases Classical.em (a=b) with e | e
  ·exact .inl (by grind)
  ·exact .inr (by grind)
theorem Qoo {R:Rat} (hR:0<=R) {f g:Ul} {l:Um} (hc:SCl f g l):∃ d e:Rat,0<d/\0<e/\∀ x y,Fa x<=R->Fa y<=R->Fa (y-x)<=e ->
 (d<=Fa (ev f x)\/d<=Fa (ev g x))/\(d<=Fa (ev f x)->U4 (ev f y)=U4 (ev f x)/\U4 (ev f x)≠0)/\(d<=Fa (ev g x)->U4 (ev g y)=U4 (ev g x)/\U4 (ev g x)≠0) /\
 (U4 (ev f y)=U4 (ev f x)->U4 (ev f x)≠0->tc x (U4 (ev f x)) (g::l)=tc y (U4 (ev f x)) (g::l)) /\
 (U4 (ev g y)=U4 (ev g x)->U4 (ev g x)≠0->tc x (U4 (ev g x)) l=tc y (U4 (ev g x)) l):=by
 induction hc with
 |
  @base f g c hc hg =>
  have hd:=Bm hc;obtain ⟨e,e1,e2,e3⟩:=G5 (Mc hR f) hd;refine ⟨Fa c,e,hd,e1,λx y hx hy hxy=>⟨.inr (by rw [hg]; exact Qp),λh=>S9 h (Pn hx hy hR hxy e3),λh=>?_,λ_ _=>?_,λ_ _=>rfl⟩⟩
  ·rw [hg,hg]; exact ⟨rfl,λh=>hc (Gd.1 h)⟩
  ·simp only [tc,hg]
 |
  @step f g h l a b q ha hb he hl ih =>
  obtain ⟨d',e',hd',he',ih⟩:=ih;obtain ⟨d1,d1p,_,d1b⟩:=G5 (b:=jN R q+a) (d:=b*d') (by have:=QS hR q; grind) (Ay hb hd');obtain ⟨d,dp,hd1,hdd⟩:=min2 d1p hd';obtain ⟨ef,ef1,_,ef3⟩:=G5 (Mc hR f) dp;obtain ⟨eg,eg1,_,eg3⟩:=G5 (Mc hR g) dp;obtain ⟨e0,e0p,h1,h2⟩:=min2 ef1 eg1;obtain ⟨e,ep,h0,h3⟩:=min2 e0p he';have h1:=Zh h0 h1;have h2:=Zh h0 h2;refine ⟨d,e,dp,ep,λx y hx hy hxy=>?_⟩;obtain ⟨i1,i2,i3,i4,i5⟩:=ih x y hx hy (Zh hxy h3);have hsm:Fa (ev g x)<d->d'<=Fa (ev h x)/\U4 (ev h x)=-U4 (ev f x)/\d<=Fa (ev f x):=λhg=>by
   have hh:d'<=Fa (ev h x):=by
    rcases i1 with i | i
    ·exact absurd (Zh hdd i) (Jo.2 hg)
    ·exact i
   have h6:d*(jN R q+a)<=d1*(jN R q+a):=Q8 hd1 (by have:=QS hR q; clear ih i1 i2 i3 i4 i5 he; grind);have h7:jN R q*d+a*d<b*d':=by clear ih i1 i2 i3 i4 i5 he; grind
   exact ⟨hh,Qpq ha hb dp h7 (HK hx q) hg hh (he x) hd'⟩
  have hfs:d<=Fa (ev f x)->U4 (ev f y)=U4 (ev f x)/\U4 (ev f x)≠0:=λh=>S9 h (Pn hx hy hR (Zh hxy h1) ef3)
  have hgs:d<=Fa (ev g x)->U4 (ev g y)=U4 (ev g x)/\U4 (ev g x)≠0:=λh=>S9 h (Pn hx hy hR (Zh hxy h2) eg3)
  refine ⟨?_,hfs,hgs,λs1 s2=>?_,i4⟩
  ·rcases Fv d (Fa (ev g x)) with h | h
   ·exact .inr h
   ·exact .inl (hsm h).2.2
  ·rcases Fv d (Fa (ev g x)) with h | h
   ·obtain ⟨g1,g2⟩:=hgs h;rw [UZ (x:=x) (p:=g) g2,UZ (x:=y) (p:=g) (by rw [g1]; exact g2),g1,i4 g1 g2]
   ·obtain ⟨h4,h5,_⟩:=hsm h;obtain ⟨h6,h7⟩:=i3 h4;have i5:=i5 h6 h7;rw [Qfv h5 s2,Qfv (h6.trans h5) s2,<-h5,i5]
def S4 (p:Ul) (x:Rat):Int:=if U4 (ev p x)≠0 then U4 (ev p x) else U4 (dv p x)
def vv (L:Um) (x:Rat):Nat:=tc x 0 L
def UG (f:Ul) (L:Um):Prop:=(∃ c:Rat,c≠0/\(∀ t,ev f t=c)/\L=[f])\/∃ g l,∃ k:Rat,0<k/\(∀ t,ev g t=k*dv f t)/\SCl f g l/\L=f::g::l
structure Sm (w:List Rat) (x y:Rat):Prop where
 s:U4 (ev w y)=S4 w x
 l:S4 w y=S4 w x
 n:S4 w x≠0
theorem Er {p:Ul} {x:Rat} (h:U4 (ev p x)≠0):S4 p x=U4 (ev p x):=by unfold S4; rw [if_pos h]
theorem gA {p:Ul} {x:Rat} (h:U4 (ev p x)=0):S4 p x=U4 (dv p x):=by unfold S4; rw [if_neg (by simpa using h)]
theorem kE {p:Ul} {x y:Rat} (h:U4 (ev p y)=U4 (ev p x)) (h0:U4 (ev p x)≠0):Sm p x y:=by
 have h1:=Er h0;have h2:=Er (p:=p) (x:=y) (by rw [h]; exact h0);exact ⟨by rw [h,h1],by rw [h2,h1,h],by rw [h1]; exact h0⟩
theorem Oh {f w u:Ul} (h:∀ t,ev f t=ev w t*ev u t) (x:Rat):dv f x=dv w x*ev u x+ev w x*dv u x:=by
 rw [<-IN]; exact Qb1 (λt=>by rw [h,U8]) x
theorem nN {f w u:Ul} {x:Rat} (h:∀ t,ev f t=ev w t*ev u t) (hu:U4 (ev u x)≠0):S4 f x=S4 w x*U4 (ev u x):=by
 by_cases hw:U4 (ev w x)=0
 ·have hw0:=Gd.1 hw;have e1:ev f x=0:=by rw [h,hw0]; grind
  have e2:dv f x=dv w x*ev u x:=by rw [Oh h,hw0]; grind
  rw [gA hw,gA (Gd.2 e1),e2,Tr]
 ·have e1:U4 (ev f x)=U4 (ev w x)*U4 (ev u x):=by rw [h,Tr]
  rw [Er hw,Er (by rw [e1]; exact Yz hw hu),e1]
theorem Qpr {f w u:Ul} {x y:Rat} (h:∀ t,ev f t=ev w t*ev u t) (hu:U4 (ev u y)=U4 (ev u x)) (h0:U4 (ev u x)≠0) (hf:Sm f x y):Sm w x y:=by
 have e1:=nN h h0;have e2:=nN (x:=y) h (by rw [hu]; exact h0);have e3:U4 (ev f y)=U4 (ev w y)*U4 (ev u y):=by rw [h,Tr]
 obtain ⟨s,l,n⟩:=hf;rw [hu] at e2 e3;refine ⟨?_,?_,λh=>n (by rw [e1,h,Yx])⟩
 ·rw [e3,e1] at s; exact Y4 h0 s
 ·rw [e2,e1] at l; exact Y4 h0 l
theorem tc0 {x:Rat} {s:Int} {f g:Ul} {l:Um} (h:U4 (ev g x)=s) (hs:s≠0):tc x 0 (f::g::l)=(if U4 (ev f x)=-s then 1 else 0)+tc x s l:=by
 have hv:s=1\/s=-1:=by rcases Fi (ev g x) with ⟨e,_⟩ | ⟨e,_⟩ | ⟨e,_⟩ <;> omega
 have hg:U4 (ev g x)≠0:=by omega
 rw [tc];rcases Fi (ev f x) with ⟨e,_⟩ | ⟨e,_⟩ | ⟨e,_⟩ <;> rw [e] <;> rcases hv with rfl | rfl <;> simp [UZ hg,h]
theorem NF {R x y e d:Rat} {p:Ul} (hx:Fa x<=R) (hy:Fa y<=R) (hR:0<=R) (hxy:x<y) (h:y-x<=e) (hd:d<=Fa (dv p x)) (he:e*ddB R p<d):U4 (ev p y-ev p x)=U4 (dv p x):=by
 have h1:=Qlu p y x;have h2:ev p y-ev p x=(y-x)*(dv p x+(y-x)*dd p y x):=by rw [h1]; grind
 have h3:=Gx (x:=y-x) (y:=dd p y x) (a:=e) (b:=ddB R p) (by rw [Pq]; constructor <;> grind) (Qbu hy hx p);have h4:=S9 (b:=dv p x+(y-x)*dd p y x) hd (by
  have:dv p x+(y-x)*dd p y x-dv p x=(y-x)*dd p y x:=by grind
  rw [this]; exact Jo.1 λh=>absurd (Zh h h3) (Jo.2 he))
 rw [h2,Tr,Hl.2 (show 0<y-x by grind),h4.1,Wg]
def iR (f w:Ul) (L:Um) (x y:Rat):Prop :=
 (vv L x=vv L y/\Sm f x y/\Sm w x y)\/(vv L x=vv L y+1/\S4 f x≠0/\S4 f y=-S4 f x/\U4 (ev f x)=S4 f x/\(U4 (ev f y)=0\/U4 (ev f y)=-S4 f x))
theorem Qly {R d:Rat} (hR:0<=R) (hd:0<d) {f w u:Ul} (h:∀ t,ev f t=ev w t*ev u t):∃ e:Rat,0<e/\∀ x y,Fa x<=R->Fa y<=R->Fa (y-x)<=e->d<=Fa (ev f x)->Sm f x y/\Sm w x y:=by
 obtain ⟨ef,ef1,_,ef3⟩:=G5 (Mc hR f) hd;obtain ⟨d1,d1p,_,d1b⟩:=G5 (QS hR u) hd;obtain ⟨ew,ew1,_,ew3⟩:=G5 (Mc hR w) d1p;obtain ⟨e,ep,e1,e2⟩:=min2 ef1 ew1;refine ⟨e,ep,λx y hx hy hxy hf=>⟨?_,?_⟩⟩
 ·have:=S9 hf (Pn hx hy hR (Zh hxy e1) ef3);exact kE this.1 this.2
 ·have hw:d1<=Fa (ev w x):=by
   rcases Fv d1 (Fa (ev w x)) with h' | h'
   ·exact h'
   ·have h5:=Gx (Qq h') (HK hx u);rw [<-h] at h5;exact absurd (Zh hf h5) (Jo.2 d1b)
  have:=S9 hw (Pn hx hy hR (Zh hxy e2) ew3);exact kE this.1 this.2
theorem loc {R:Rat} (hR:0<=R) {f w u:Ul} {L:Um} (hc:UG f L) (h:∀ t,ev f t=ev w t*ev u t):∃ e:Rat,0<e/\∀ x y,Fa x<=R->Fa y<=R->x<y->y-x<=e->iR f w L x y:=by
 rcases hc with ⟨c,hc,hf,rfl⟩ | ⟨g,l,k,hk,hg,hc,rfl⟩
 ·obtain ⟨e,ep,h1⟩:=Qly hR (Bm hc) h;refine ⟨e,ep,λx y hx hy hxy he=>.inl ⟨?_,h1 x y hx hy (by rw [Pq]; constructor <;> grind) (by rw [hf]; exact Qp)⟩⟩;simp only [vv,tc,hf]
 ·obtain ⟨d,e1,dp,e1p,h1⟩:=Qoo hR hc;obtain ⟨e2,e2p,h2⟩:=Qly hR dp h;obtain ⟨d3,d3p,_,d3b⟩:=G5 (b:=k) (d:=d) (Qq hk) dp;obtain ⟨e3,e3p,_,e3b⟩:=G5 (PI hR f) d3p;obtain ⟨d4,d4p,_,d4b⟩:=G5 (b:=CJ R w+CJ R u) (d:=d3) (by have:=Mc hR w; have:=Mc hR u; grind) d3p;obtain ⟨e4,e4p,_,e4b⟩:=G5 (Mc hR w) d4p;obtain ⟨e5,e5p,_,e5b⟩:=G5 (Mc hR u) d4p;obtain ⟨a1,a1p,a11,a12⟩:=min2 e1p e2p;obtain ⟨a2,a2p,a21,a22⟩:=min2 e3p e4p;obtain ⟨a3,a3p,a31,a32⟩:=min2 a1p a2p;obtain ⟨e,ep,b1,b2⟩:=min2 a3p e5p;refine ⟨e,ep,λx y hx hy hxy he=>?_⟩;have hab:Fa (y-x)<=e:=by rw [Pq]; clear h1 h2; constructor <;> grind
  have hab1:Fa (y-x)<=e1:=by clear h1 h2; grind
  have hab2:Fa (y-x)<=e2:=by clear h1 h2; grind
  obtain ⟨i1,i2,i3,i4,i5⟩:=h1 x y hx hy hab1;rcases Fv d (Fa (ev f x)) with hf | hf
  ·obtain ⟨s1,s2⟩:=h2 x y hx hy hab2 hf;obtain ⟨j1,j2⟩:=i2 hf;refine .inl ⟨?_,s1,s2⟩;have:=i4 j1 j2;simp only [vv];rw [UZ (x:=x) (p:=f) j2,UZ (x:=y) (p:=f) (by rw [j1]; exact j2),j1,this]
  ·have hg1:d<=Fa (ev g x):=by
    rcases i1 with i | i
    ·exact absurd i (Jo.2 hf)
    ·exact i
   obtain ⟨g1,g2⟩:=i3 hg1;have i5:=i5 g1 g2;have hD:d3<=Fa (dv f x):=by
    rcases Fv d3 (Fa (dv f x)) with h' | h'
    ·exact h'
    ·have h5:=Gx (x:=k) (a:=k) (by unfold Fa; split <;> clear h1 h2 <;> grind) (Rat.le_of_lt h');rw [<-hg] at h5;have:k*d3=d3*k:=by grind
     exact absurd (Zh hg1 h5) (Jo.2 (by rw [this]; exact d3b))
   have hm:=NF hx hy hR hxy (by clear h1 h2; grind:y-x<=e3) hD e3b;have s1:U4 (ev g x)=U4 (dv f x):=by rw [hg,Tr,Hl.2 hk,Wg]
   have s2:U4 (ev g y)=U4 (dv f y):=by rw [hg,Tr,Hl.2 hk,Wg]
   obtain ⟨s,hs⟩:=nmE (U4 (ev g x));rw [<-hs] at g1 g2 i5 s1;rw [g1] at s2;have v1:=tc0 (f:=f) (l:=l) hs.symm g2;have v2:=tc0 (f:=f) (l:=l) g1 g2;rw [<-i5] at v2;rw [<-s1] at hm;have hw:Sm f x y->Sm w x y:=λhf=>by
    rcases Fv d4 (Fa (ev u x)) with hu | hu
    ·have hu:=S9 hu (Pn hx hy hR (Zh hab b2) e5b);exact Qpr h hu.1 hu.2 hf
    ·have hw:d4<=Fa (ev w x):=by
      rcases Fv d4 (Fa (ev w x)) with h' | h'
      ·exact h'
      ·have q1:=Gx (x:=dv w x) (y:=ev u x) (a:=CJ R w) (by rw [<-IS]; exact jH hx hx w) (Qq hu);have q2:=Gx (x:=ev w x) (y:=dv u x) (b:=CJ R u) (Qq h') (by rw [<-IS]; exact jH hx hx u);have q3:=To (dv w x*ev u x) (ev w x*dv u x);rw [<-Oh h] at q3;have:d4*(CJ R w+CJ R u)=CJ R w*d4+d4*CJ R u:=by grind
       rw [this] at d4b;exact absurd (Zh hD (Zh q3 (by clear h1 h2; grind:_<=CJ R w*d4+d4*CJ R u))) (Jo.2 d4b)
     have hw:=S9 hw (Pn hx hy hR (Zh hab (by clear h1 h2; grind)) e4b);exact kE hw.1 hw.2
   have lx:S4 f x=if U4 (ev f x)≠0 then U4 (ev f x) else s:=by rw [s1]; rfl
   have ly:S4 f y=if U4 (ev f y)≠0 then U4 (ev f y) else s:=by rw [s2]; rfl
   clear h1 h2 i1 i2 i3 i4;have hsv:s=1\/s=-1:=by rcases Fi (ev g x) with ⟨e,_⟩ | ⟨e,_⟩ | ⟨e,_⟩ <;> omega
   unfold iR;simp only [vv,v1,v2];rcases hsv with rfl | rfl
   ·have hm:=Hl.1 hm;rcases Fi (ev f x) with ⟨p1,p2⟩ | ⟨p1,p2⟩ | ⟨p1,p2⟩
    ·rcases Fi (ev f y) with ⟨q1,q2⟩ | ⟨q1,q2⟩ | ⟨q1,q2⟩
     ·rw [p1,q1]; have hsm:=kE (p:=f) (x:=x) (y:=y) (by rw [p1,q1]) (by rw [p1]; decide);exact .inl ⟨rfl,hsm,hw hsm⟩
     ·rw [lx,ly,p1,q1]; refine .inr ⟨by simp; omega,by decide,by decide,by decide,by decide⟩
     ·rw [lx,ly,p1,q1]; refine .inr ⟨by simp; omega,by decide,by decide,by decide,by decide⟩
    ·have q1:=Hl.2 (show 0<ev f y by grind);have hsm:Sm f x y:=⟨by rw [lx,q1,p1]; rfl,by rw [lx,ly,q1,p1]; rfl,by rw [lx,p1]; decide⟩;rw [p1,q1]; exact .inl ⟨rfl,hsm,hw hsm⟩
    ·have q1:=Hl.2 (show 0<ev f y by grind);have hsm:Sm f x y:=⟨by rw [lx,q1,p1]; rfl,by rw [lx,ly,q1,p1],by rw [lx,p1]; decide⟩;rw [p1,q1]; exact .inl ⟨rfl,hsm,hw hsm⟩
   ·have hm:=So.1 hm;rcases Fi (ev f x) with ⟨p1,p2⟩ | ⟨p1,p2⟩ | ⟨p1,p2⟩
    ·have q1:=So.2 (show ev f y<0 by grind);have hsm:Sm f x y:=⟨by rw [lx,q1,p1]; rfl,by rw [lx,ly,q1,p1],by rw [lx,p1]; decide⟩;rw [p1,q1]; exact .inl ⟨rfl,hsm,hw hsm⟩
    ·have q1:=So.2 (show ev f y<0 by grind);have hsm:Sm f x y:=⟨by rw [lx,q1,p1]; rfl,by rw [lx,ly,q1,p1]; rfl,by rw [lx,p1]; decide⟩;rw [p1,q1]; exact .inl ⟨rfl,hsm,hw hsm⟩
    ·rcases Fi (ev f y) with ⟨q1,q2⟩ | ⟨q1,q2⟩ | ⟨q1,q2⟩
     ·rw [lx,ly,p1,q1]; refine .inr ⟨by simp; omega,by decide,by decide,by decide,by decide⟩
     ·rw [lx,ly,p1,q1]; refine .inr ⟨by simp; omega,by decide,by decide,by decide,by decide⟩
     ·rw [p1,q1]; have hsm:=kE (p:=f) (x:=x) (y:=y) (by rw [p1,q1]) (by rw [p1]; decide);exact .inl ⟨rfl,hsm,hw hsm⟩
theorem Qtk (z:Rat):∃ n:Nat,z<=(n:Rat):=by
 refine ⟨z.ceil.toNat,?_⟩;have h1:z<=(z.ceil:Rat):=Rat.le_ceil;have h2:(z.ceil:Rat)<=((z.ceil.toNat:Int):Rat):=Ja.2 (Int.self_le_toNat _);exact Zh h1 h2
theorem QW {z e:Rat} (he:0<e):∃ n:Nat,z<=(n:Rat)*e:=by
 obtain ⟨n,hn⟩:=Qtk (z / e);exact ⟨n,by have:=Q8 hn (Qq he); rwa [Gy he] at this⟩
theorem KC {R x y t:Rat} (hx:Fa x<=R) (hy:Fa y<=R) (h1:x<=t) (h2:t<=y):Fa t<=R:=by
 rw [Pq] at *; constructor <;> grind
def dR (f w:Ul) (L:Um) (x y:Rat):Prop :=
 vv L y<=vv L x/\(vv L x=vv L y->Sm f x y/\Sm w x y)/\(vv L x=vv L y+1->S4 f x≠0/\S4 f y=-S4 f x)
theorem nP {f w:Ul} {L:Um} {x y:Rat} (h:iR f w L x y):dR f w L x y:=by
 rcases h with ⟨h1,h2,h3⟩ | ⟨h1,h2,h3,_⟩
 ·exact ⟨by omega,λ_=>⟨h2,h3⟩,λh=>by omega⟩
 ·exact ⟨by omega,λh=>by omega,λ_=>⟨h2,h3⟩⟩
theorem kA {w:Ul} {x y z:Rat} (h1:Sm w x y) (h2:Sm w y z):Sm w x z:=⟨by rw [h2.s,h1.l],by rw [h2.l,h1.l],h1.n⟩
theorem gR {f w:Ul} {L:Um} {x y z:Rat} (h:dR f w L x y) (h':dR f w L y z):dR f w L x z:=by
 obtain ⟨a1,a2,a3⟩:=h;obtain ⟨b1,b2,b3⟩:=h';refine ⟨by omega,λh=>?_,λh=>?_⟩
 ·obtain ⟨s1,s2⟩:=a2 (by omega);obtain ⟨s3,s4⟩:=b2 (by omega);exact ⟨kA s1 s3,kA s2 s4⟩
 ·by_cases e:vv L x=vv L y
  ·obtain ⟨s1,_⟩:=a2 e;obtain ⟨s3,s4⟩:=b3 (by omega);exact ⟨s1.n,by rw [s4,s1.l]⟩
  ·obtain ⟨s3,s4⟩:=a3 (by omega);obtain ⟨s1,_⟩:=b2 (by omega);exact ⟨s3,by rw [s1.l,s4]⟩
theorem Qob {R:Rat} (hR:0<=R) {f w u:Ul} {L:Um} (hc:UG f L) (h:∀ t,ev f t=ev w t*ev u t) {x y:Rat} (hx:Fa x<=R) (hy:Fa y<=R) (hxy:x<y):dR f w L x y:=by
 obtain ⟨e,ep,hl⟩:=loc hR hc h;have key:∀ n:Nat,∀ x,Fa x<=R->x<y->y-x<=(n:Rat)*e->dR f w L x y:=by
  intro n
  induction n with
  | zero =>
   intro x hx hxy h; exfalso; have:((0:Nat):Rat)*e=0:=by simp
   grind
  |
   succ n ih =>
   intro x hx hxy hn;rcases Fv (y-x) e with h1 | h1
   ·exact nP (hl x y hx hy hxy h1)
   ·have hm:Fa (x+e)<=R:=KC hx hy (by clear hl ih; grind) (by clear hl ih; grind);have hn':(((n+1:Nat):Rat))=(n:Rat)+1:=by push_cast; rfl
    refine gR (nP (hl x (x+e) hx hm (by clear hl ih; grind) (by clear hl ih; grind))) (ih (x+e) hm (by clear hl ih; grind) ?_);rw [hn'] at hn;clear hl ih; grind
 obtain ⟨n,hn⟩:=QW (z:=y-x) ep;exact key n x hx hxy hn
theorem AM (x y:Rat):∃ R:Rat,0<=R/\Fa x<=R/\Fa y<=R:=by
 refine ⟨Fa x+Fa y,?_,?_,?_⟩ <;> (have:=Hj x; have:=Hj y; grind)
theorem Ro (t:Rat):ev [1] t=1:=by simp only [ev]; grind
theorem E9 {f:Ul} {L:Um} (hc:UG f L) {x y:Rat} (hxy:x<y):vv L y<=vv L x:=by
 obtain ⟨R,hR,hx,hy⟩:=AM x y;exact (Qob hR hc (w:=f) (u:=[1]) (λt=>by rw [Ro]; grind) hx hy hxy).1
theorem JI {f w u:Ul} {L:Um} (hc:UG f L) (h:∀ t,ev f t=ev w t*ev u t) {x y:Rat} (hxy:x<y) (he:vv L x=vv L y):Sm w x y:=by
 obtain ⟨R,hR,hx,hy⟩:=AM x y;exact ((Qob hR hc h hx hy hxy).2.1 he).2
theorem zK {f:Ul} {L:Um} (hc:UG f L) {x y:Rat} (hxy:x<y) (he:vv L x=vv L y):Sm f x y :=
 JI hc (w:=f) (u:=[1]) (λt=>by rw [Ro]; grind) hxy he
theorem zV {f:Ul} {L:Um} (hc:UG f L) {x y:Rat} (hxy:x<y) (he:vv L x=vv L y+1):S4 f x≠0/\S4 f y=-S4 f x:=by
 obtain ⟨R,hR,hx,hy⟩:=AM x y;exact (Qob hR hc (w:=f) (u:=[1]) (λt=>by rw [Ro]; grind) hx hy hxy).2.2 he
theorem Qf2 {f:Ul} {L:Um} (hc:UG f L) (R:Rat) (hR:0<=R):∃ e:Rat,0<e/\∀ x y,Fa x<=R->Fa y<=R->x<y->y-x<=e->vv L x<=vv L y+1:=by
 obtain ⟨e,ep,hl⟩:=loc hR hc (w:=f) (u:=[1]) (λt=>by rw [Ro]; grind);refine ⟨e,ep,λx y hx hy hxy he=>?_⟩;rcases hl x y hx hy hxy he with ⟨h,_⟩ | ⟨h,_⟩ <;> omega
theorem lP {p:Ul} {x:Rat} (h:U4 (ev p x)≠0):∃ e:Rat,0<e/\∀ y,Fa (y-x)<=e->U4 (ev p y)=U4 (ev p x):=by
 have hd:=Bm (x:=ev p x) λh0=>h (Gd.2 h0)
 have hR:0<=Fa x+1:=by have:=Hj x; grind
 obtain ⟨e,e1,e2,e3⟩:=G5 (Mc hR p) hd;refine ⟨e,e1,λy hy=>(S9 Qp (Pn (x:=x) (by grind) ?_ hR hy e3)).1⟩;have:=To (y-x) x;have e:y-x+x=y:=by grind
 rw [e] at this; grind
theorem Ql7 {R M:Rat} {p:Ul} (hM:M=ddB R p) (hR:0<=R) {h:Rat} (hh:0<h):∀ (n:Nat) (x:Rat),Fa x<=R->Fa (x+(n:Rat)*h)<=R->(∀ t,x<=t->t<=x+(n:Rat)*h->0<=dv p t)->ev p x-(n:Rat)*(h*h*M)<=ev p (x+(n:Rat)*h)
 |
  0,x,_,_,_=>by
  have e1:x+((0:Nat):Rat)*h=x:=by rw [show ((0:Nat):Rat)=0 from rfl]; grind
  have e2:((0:Nat):Rat)*(h*h*M)=0:=by simp
  rw [e1,e2]; grind
 |
  n+1,x,hx,hy,hd=>by
  have hn':(((n+1:Nat):Rat))=(n:Rat)+1:=by push_cast; rfl
  rw [hn'] at hy hd ⊢;have hn0:(0:Rat)<=(n:Rat):=Xi;have hnh:=M4 hn0 (Qq hh);have e1:x+((n:Rat)+1)*h=(x+h)+(n:Rat)*h:=by grind
  rw [e1] at hy hd ⊢;have hxh:Fa (x+h)<=R:=KC hx hy (by clear hd; grind) (by clear hd; grind);have ih:=Ql7 hM hR hh n (x+h) hxh hy λt h1 h2=>hd t (by clear hd; grind) h2
  have h0:=hd x Qp (by clear hd; grind);have h1:=Qlu p (x+h) x;have h2:=Qbu hxh hx p;rw [<-hM,Pq] at h2;have h3:=Zx h2.1 (M4 (Qq hh) (Qq hh));have h4:=M4 (Qq hh) h0;have e2:x+h-x=h:=by grind
  rw [e2] at h1;clear hd hx hy hxh;grind
theorem Qr0 {p:Ul} {x y:Rat} (hxy:x<y) (hd:∀ t,x<=t->t<=y->0<=dv p t):ev p x<=ev p y:=by
 obtain ⟨R,hR,hx,hy⟩:=AM x y;rcases Fv (ev p x) (ev p y) with h | h
 ·exact h
 ·exfalso;obtain ⟨M,hM⟩:=nmE (ddB R p);have hM0:=PI hR p;rw [<-hM] at hM0;obtain ⟨e,ep,_,he⟩:=G5 (b:=(y-x)*M) (d:=ev p x-ev p y) (M4 (by grind) hM0) (by grind);obtain ⟨n,hn⟩:=QW (z:=y-x) ep;have hn0:0<(n:Rat):=by
   rcases Fv (n:Rat) 0 with h' | h'
   ·have:=Q8 h' (Qq ep); clear hd; grind
   ·exact h'
  have hh:0<(y-x) / n:=Ed (by grind) hn0;have e1:(n:Rat)*((y-x) / n)=y-x:=by rw [W0]; exact Gy hn0
  have e2:x+(n:Rat)*((y-x) / n)=y:=by rw [e1]; grind
  have h1:=Ql7 hM hR hh n x hx (by rw [e2]; exact hy) (by rw [e2]; exact hd);rw [e2] at h1;have h2:(y-x) / n<=e:=by
   rcases Fv ((y-x) / n) e with h' | h'
   ·exact h'
   ·have:=Rat.mul_lt_mul_of_pos_left h' hn0; clear hd; grind
  have h3:(n:Rat)*((y-x) / n*((y-x) / n)*M)=((y-x) / n)*((y-x)*M):=by
   have:(n:Rat)*((y-x) / n*((y-x) / n)*M)=((n:Rat)*((y-x) / n))*(((y-x) / n)*M):=by grind
   rw [this,e1]; grind
  have h4:=Q8 h2 (M4 (x:=y-x) (y:=M) (by grind) hM0);rw [h3] at h1;clear hd; grind
theorem Qjy {p:Ul} {x y:Rat} (hxy:x<y) (hd:∀ t,x<=t->t<=y->0<dv p t):ev p x<ev p y:=by
 have hx:=hd x Qp (by grind);have hR:0<=Fa x+1:=by have:=Hj x; grind
 obtain ⟨e,e1,e2,e3⟩:=G5 (PI hR p) hx;obtain ⟨f,f1,f2,f3⟩:=min2 (a:=e) (b:=y-x) e1 (by grind);have hq:Fa (x+f)<=Fa x+1:=by
  have:=To x f; have:Fa f=f:=by unfold Fa; split <;> grind
  clear hd; grind
 have h1:=NF (p:=p) (x:=x) (y:=x+f) (R:=Fa x+1) (e:=e) (d:=dv p x) (by clear hd; grind) hq hR (by grind) (by grind) (by unfold Fa; split <;> clear hd <;> grind) e3;rw [Hl.2 hx,Hl] at h1;rcases Classical.em (x+f=y) with e | e
 ·rw [<-e]; clear hd; grind
 ·have:=Qr0 (p:=p) (x:=x+f) (y:=y) (by clear hd; grind) λt h1 h2=>Qq (hd t (by clear hd; grind) h2)
  clear hd; grind
structure Cut (c:Rat->Int):Prop where
 val:∀ q,c q=1\/c q=0\/c q=-1
 mono:∀ q r,q<r->c q≠1->c r=-1
 up:∀ q,c q=1->∃ r,q<r/\c r=1
 dn:∀ q,c q=-1->∃ r,r<q/\c r=-1
 lo:∃ q,c q=1
 hi:∃ q,c q=-1
theorem Cut.mono' {c:Rat->Int} (h:Cut c) {q r:Rat} (hqr:q<r) (hr:c r≠-1):c q=1:=by
 rcases Classical.em (c q=1) with e | e
 ·exact e
 ·exact absurd (h.mono q r hqr e) hr
theorem Cut.lt {c:Rat->Int} (h:Cut c) {q r:Rat} (hq:c q=1) (hr:c r=-1):q<r:=by
 rcases Fv r q with e | e
 ·rcases Classical.em (r=q) with e' | e'
  ·rw [e'] at hr; omega
  ·have:=h.mono r q (by grind) (by omega); omega
 ·exact e
theorem Cut.near {c:Rat->Int} (h:Cut c) {e:Rat} (he:0<e):∃ x y,c x=1/\c y=-1/\y-x<=e:=by
 obtain ⟨a,ha⟩:=h.lo;obtain ⟨b,hb⟩:=h.hi;have he2:0<e / 2:=Ed he (by decide);have h2:e / 2*2=e:=Gy (by decide);have key:∀ (n:Nat) (a:Rat),c a=1->b-a<=(n:Rat)*(e / 2)->∃ x y,c x=1/\c y=-1/\y-x<=e:=by
  intro n
  induction n with
  |
   zero =>
   intro a ha hn;have:=h.lt ha hb;rw [show ((0:Nat):Rat)=0 from rfl] at hn;exfalso; grind
  |
   succ n ih =>
   intro a ha hn;have hn':(((n+1:Nat):Rat))=(n:Rat)+1:=by push_cast; rfl
   rw [hn'] at hn;rcases h.val (a+e / 2) with h1 | h1 | h1
   ·exact ih _ h1 (by grind)
   ·exact ⟨a,a+e,ha,h.mono (a+e / 2) _ (by grind) (by omega),by grind⟩
   ·exact ⟨a,a+e / 2,ha,h1,by grind⟩
 obtain ⟨n,hn⟩:=QW (z:=b-a) he2;exact key n a ha hn
def A6 (p:Ul) (c:Rat->Int):Prop:=∀ d:Rat,0<d->∃ x y,c x=1/\c y=-1/\∀ q,x<=q->q<=y->Fa (ev p q)<d
def NZ (p:Ul) (c:Rat->Int) (s:Int):Prop:=∃ d:Rat,0<d/\∃ x y,c x=1/\c y=-1/\∀ q,x<=q->q<=y->U4 (ev p q)=s/\d<=Fa (ev p q)
def Nr (c:Rat->Int) (P:Rat->Prop):Prop:=∃ x y,c x=1/\c y=-1/\∀ q,x<=q->q<=y->P q
theorem rK {c:Rat->Int} {P Q:Rat->Prop} (h1:Nr c P) (h2:Nr c Q):Nr c λq=>P q/\Q q:=by
 obtain ⟨x,y,a1,a2,a3⟩:=h1;obtain ⟨x',y',b1,b2,b3⟩:=h2;refine ⟨if x<=x' then x' else x,if y<=y' then y else y',by split <;> assumption,by split <;> assumption,λq q1 q2=>⟨a3 q ?_ ?_,b3 q ?_ ?_⟩⟩ <;> clear a3 b3 <;> grind
theorem TB {c:Rat->Int} {P Q:Rat->Prop} (h1:Nr c P) (h:∀ q,P q->Q q):Nr c Q:=by
 obtain ⟨x,y,a1,a2,a3⟩:=h1;exact ⟨x,y,a1,a2,λq q1 q2=>h q (a3 q q1 q2)⟩
theorem vJ {c:Rat->Int} (hc:Cut c) {P:Rat->Prop} (h1:Nr c P):∃ q,P q/\c q=1:=by
 obtain ⟨x,y,a1,a2,a3⟩:=h1;exact ⟨x,a3 x Qp (Qq (hc.lt a1 a2)),a1⟩
theorem Qdy {c:Rat->Int} (hc:Cut c) {e:Rat} (he:0<e) {P:Rat->Prop} (h1:Nr c P):∃ x y,c x=1/\c y=-1/\y-x<=e/\x<y/\∀ q,x<=q->q<=y->P q:=by
 obtain ⟨x,y,a1,a2,a3⟩:=h1;obtain ⟨x',y',b1,b2,b3⟩:=hc.near he;refine ⟨if x<=x' then x' else x,if y<=y' then y else y',by split <;> assumption,by split <;> assumption,by clear a3; grind,hc.lt (by split <;> assumption) (by split <;> assumption),λq q1 q2=>a3 q ?_ ?_⟩ <;> clear a3 <;> grind
theorem Ql6 {c:Rat->Int} (hc:Cut c):∃ R:Rat,0<=R/\Nr c λq=>Fa q<=R:=by
 obtain ⟨x,y,a1,a2,_⟩:=hc.near (e:=1) (by decide);obtain ⟨R,hR,h1,h2⟩:=AM x y;exact ⟨R,hR,x,y,a1,a2,λq q1 q2=>KC h1 h2 q1 q2⟩
theorem ZO {c:Rat->Int} (hc:Cut c) (p:Ul):A6 p c\/∃ s,s≠0/\NZ p c s:=by
 rcases Classical.em (A6 p c) with h | h
 ·exact .inl h
 ·refine .inr ?_;obtain ⟨d,hd0⟩:=Classical.not_forall.1 h;obtain ⟨dp,hd⟩:=Classical.not_imp.1 hd0;have hd:∀ x y,c x=1->c y=-1->∃ q,x<=q/\q<=y/\d<=Fa (ev p q):=λx y hx hy=>by
   rcases Classical.em (∃ q,x<=q/\q<=y/\d<=Fa (ev p q)) with h' | h'
   ·exact h'
   ·refine absurd ⟨x,y,hx,hy,λq h1 h2=>?_⟩ hd;rcases Fv d (Fa (ev p q)) with h3 | h3
    ·exact absurd ⟨q,h1,h2,h3⟩ h'
    ·exact h3
  obtain ⟨R,hR,hn⟩:=Ql6 hc;have hd2:0<d / 2:=Ed dp (by decide);have h2:d / 2*2=d:=Gy (by decide);obtain ⟨e,e1,_,e3⟩:=G5 (Mc hR p) hd2;obtain ⟨x,y,hx,hy,hxy,_,hq⟩:=Qdy hc e1 hn;obtain ⟨r,r1,r2,r3⟩:=hd x y hx hy;have key:∀ q,x<=q->q<=y->Fa (ev p q-ev p r)<d / 2:=λq q1 q2 =>
   Pn (hq r r1 r2) (hq q q1 q2) hR (by rw [Pq]; clear hq hd; constructor <;> grind) e3
  refine ⟨U4 (ev p r),λh0=>?_,d / 2,hd2,x,y,hx,hy,λq q1 q2=>⟨(S9 (d:=d) r3 ?_).1,?_⟩⟩
  ·rw [Gd.1 h0,Hy] at r3; clear hq hd key; grind
  ·have:=key q q1 q2; clear hq hd key; grind
  ·have h3:=key q q1 q2;have h4:=To (ev p r-ev p q) (ev p q);rw [show ev p r-ev p q+ev p q=ev p r from by clear hq hd key; grind,cP] at h4;clear hq hd key; grind
theorem Qp5 {c:Rat->Int} (hc:Cut c) {p:Ul} {s:Int} (h1:A6 p c) (h2:NZ p c s):False:=by
 obtain ⟨d,dp,h2⟩:=h2;obtain ⟨q,⟨a,b⟩,_⟩:=vJ hc (rK (h1 d dp) h2);exact absurd b.2 (Jo.2 a)
theorem Pj {c:Rat->Int} (hc:Cut c) {f p q:Ul} (hf:∀ t,ev f t=ev p t*ev q t) (h:A6 p c):A6 f c:=by
 intro d dp;obtain ⟨R,hR,hn⟩:=Ql6 hc;obtain ⟨e,e1,_,e3⟩:=G5 (QS hR q) dp;refine TB (rK hn (h e e1)) λt ⟨h1,h2⟩=>?_
 rw [hf];have:=Gx (Qq h2) (HK h1 q);exact Jo.1 λh=>absurd (Zh h this) (Jo.2 e3)
theorem SR {c:Rat->Int} {f p q:Ul} (hf:∀ t,ev f t=ev p t+ev q t) (h:A6 p c) (h':A6 q c):A6 f c:=by
 intro d dp;have hd2:0<d / 2:=Ed dp (by decide);have h2:d / 2*2=d:=Gy (by decide);refine TB (rK (h _ hd2) (h' _ hd2)) λt ⟨h1,h2⟩=>?_
 rw [hf];have:=To (ev p t) (ev q t);grind
def RS (p:Ul) (c:Rat->Int) (s:Int):Prop:=∃ y,c y=-1/\∀ q,c q=-1->q<=y->U4 (ev p q)=s
def LS (p:Ul) (c:Rat->Int) (s:Int):Prop:=∃ x,c x=1/\∀ q,c q=1->x<=q->U4 (ev p q)=s
theorem EI {c:Rat->Int} (hc:Cut c) {p:Ul} {s:Int} (h:NZ p c s):RS p c s:=by
 obtain ⟨d,dp,x,y,a1,a2,a3⟩:=h;exact ⟨y,a2,λq h1 h2=>(a3 q (Qq (hc.lt a1 h1)) h2).1⟩
theorem nD {c:Rat->Int} (hc:Cut c) {p:Ul} {s:Int} (h:NZ p c s):LS p c s:=by
 obtain ⟨d,dp,x,y,a1,a2,a3⟩:=h;exact ⟨x,a1,λq h1 h2=>(a3 q h2 (Qq (hc.lt h1 a2))).1⟩
theorem WC {c:Rat->Int} {p:Ul} {s s':Int} (h:RS p c s) (h':RS p c s'):s=s':=by
 obtain ⟨y,a1,a2⟩:=h;obtain ⟨y',b1,b2⟩:=h';rcases Fv y y' with e | e
 ·rw [<-a2 y a1 Qp,<-b2 y a1 e]
 ·rw [<-a2 y' b1 (Qq e),<-b2 y' b1 Qp]
theorem Qma {c:Rat->Int} (hc:Cut c) {p:Ul} (hv:A6 p c) {y:Rat} (hy:c y=-1) (h:∀ q,c q=-1->q<=y->0<dv p q) (q:Rat) (hq:c q=-1) (hqy:q<=y):0<ev p q:=by
 rcases Fv (ev p q) 0 with h0 | h0
 ·exfalso;obtain ⟨r,r1,r2⟩:=hc.dn q hq;have hr:ev p r<ev p q:=Qjy r1 λt t1 t2=>h t (by
   rcases Classical.em (r=t) with e | e
   ·rw [<-e]; exact r2
   ·exact hc.mono r t (by clear h; grind) (by omega)) (Zh t2 hqy)
  obtain ⟨a,b,ha,hb,hab⟩:=hv (-ev p r) (by clear h; grind);obtain ⟨m,hm1,hm2,hm3⟩:∃ m,c m=-1/\m<=b/\m<=r:=by
   rcases Fv b r with e | e
   ·exact ⟨b,hb,Qp,e⟩
   ·exact ⟨r,r2,Qq e,Qp⟩
  have h1:=hab m (Qq (hc.lt ha hm1)) hm2;have h2:ev p m<=ev p r:=by
   rcases Classical.em (m=r) with e | e
   ·rw [e]; exact Qp
   ·exact Qq (Qjy (by clear h hab; grind) λt t1 t2=>h t (by
     rcases Classical.em (m=t) with e | e
     ·rw [<-e]; exact hm1
     ·exact hc.mono m t (by clear h hab; grind) (by omega)) (by clear h hab; grind))
  rw [qG] at h1;clear h hab; grind
 ·exact h0
theorem qS {c:Rat->Int} (hc:Cut c) {p:Ul} {s:Int} (hv:A6 p c) (h:RS (M6 p) c s) (hs:s≠0):RS p c s:=by
 obtain ⟨y,hy,h⟩:=h;have hsv:s=1\/s=-1:=by
  have:=h y hy Qp;rcases Fi (ev (M6 p) y) with ⟨e,_⟩ | ⟨e,_⟩ | ⟨e,_⟩ <;> omega
 rcases hsv with rfl | rfl
 ·refine ⟨y,hy,λq h1 h2=>Hl.2 (Qma hc hv hy (λq h1 h2=>?_) q h1 h2)⟩;rw [<-Ry]; exact Hl.1 (h q h1 h2)
 ·refine ⟨y,hy,λq h1 h2=>So.2 ?_⟩;have:=Qma hc (p:=C0 (-1) p) (y:=y) (λd dp=>TB (hv d dp) λq hq=>by rw [Gh,show -1*ev p q=-ev p q by grind,Lp]; exact hq) hy (λq h1 h2=>by
   rw [FZ,<-Ry];have:=So.1 (h q h1 h2); grind) q h1 h2
  rw [Gh] at this; grind
theorem Ql2 {c:Rat->Int} (hc:Cut c) {p:Ul} (hv:A6 p c) {x:Rat} (hx:c x=1) (h:∀ q,c q=1->x<=q->0<dv p q) (q:Rat) (hq:c q=1) (hxq:x<=q):ev p q<0:=by
 rcases Fv 0 (ev p q) with h0 | h0
 ·exfalso;obtain ⟨r,r1,r2⟩:=hc.up q hq;have hr:ev p q<ev p r:=Qjy r1 λt t1 t2=>h t (by
   rcases Classical.em (t=r) with e | e
   ·rw [e]; exact r2
   ·exact hc.mono' (q:=t) (r:=r) (by clear h; grind) (by omega)) (Zh hxq t1)
  obtain ⟨a,b,ha,hb,hab⟩:=hv (ev p r) (by clear h; grind);obtain ⟨m,hm1,hm2,hm3⟩:∃ m,c m=1/\a<=m/\r<=m:=by
   rcases Fv a r with e | e
   ·exact ⟨r,r2,e,Qp⟩
   ·exact ⟨a,ha,Qp,Qq e⟩
  have h1:=hab m hm2 (Qq (hc.lt hm1 hb));have h2:ev p r<=ev p m:=by
   rcases Classical.em (r=m) with e | e
   ·rw [e]; exact Qp
   ·exact Qq (Qjy (by clear h hab; grind) λt t1 t2=>h t (by
     rcases Classical.em (t=m) with e | e
     ·rw [e]; exact hm1
     ·exact hc.mono' (q:=t) (r:=m) (by clear h hab; grind) (by omega)) (by clear h hab; grind))
  rw [qG] at h1;clear h hab; grind
 ·exact h0
theorem Qdg {c:Rat->Int} (hc:Cut c) {p:Ul} {s:Int} (hv:A6 p c) (h:LS (M6 p) c s) (hs:s≠0):LS p c (-s):=by
 obtain ⟨x,hx,h⟩:=h;have hsv:s=1\/s=-1:=by
  have:=h x hx Qp;rcases Fi (ev (M6 p) x) with ⟨e,_⟩ | ⟨e,_⟩ | ⟨e,_⟩ <;> omega
 rcases hsv with rfl | rfl
 ·refine ⟨x,hx,λq h1 h2=>So.2 (Ql2 hc hv hx (λq h1 h2=>?_) q h1 h2)⟩;rw [<-Ry]; exact Hl.1 (h q h1 h2)
 ·refine ⟨x,hx,λq h1 h2=>Hl.2 ?_⟩;have:=Ql2 hc (p:=C0 (-1) p) (x:=x) (λd dp=>TB (hv d dp) λq hq=>by rw [Gh,show -1*ev p q=-ev p q by grind,Lp]; exact hq) hx (λq h1 h2=>by
   rw [FZ,<-Ry];have:=So.1 (h q h1 h2); grind) q h1 h2
  rw [Gh] at this; grind
theorem Qj3 {c:Rat->Int} (hc:Cut c) {f g:Ul} {l:Um} (h:SCl f g l):A6 f c->A6 g c->False:=by
 induction h with
 |
  @base f g k hk hg =>
  intro _ hv;obtain ⟨q,hq,_⟩:=vJ hc (hv (Fa k) (Bm hk));rw [hg] at hq; grind
 |
  @step f g h l a b q ha hb he hl ih =>
  intro hf hg;refine ih hg ?_;have h1:A6 (Gt q g) c:=Pj hc (p:=g) (q:=q) (λt=>by rw [U8]; grind) hg;have h2:A6 (C0 (-a) f) c:=Pj hc (p:=f) (q:=[-a]) (λt=>by rw [Gh]; simp only [ev]; grind) hf;have h3:A6 (Tp (Gt q g) (C0 (-a) f)) c:=SR (λt=>Gp t _ _) h1 h2;refine Pj hc (p:=Tp (Gt q g) (C0 (-a) f)) (q:=[1 / b]) (λt=>?_) h3;have:=he t;rw [Gp,U8,Gh];simp only [ev];have hbb:1 / b*b=1:=Gy hb;have:ev q t*ev g t+-a*ev f t=b*ev h t:=by rw [show -a*ev f t=-(a*ev f t) by grind,he t]; grind
  rw [this];have:b*ev h t*(1 / b+t*0)=ev h t*(1 / b*b):=by grind
  rw [this,hbb]; grind
theorem AS {c:Rat->Int} (hc:Cut c) {f g:Ul} {k:Rat} (h:∀ t,ev g t=k*ev f t) (hv:A6 f c):A6 g c :=
 Pj hc (p:=f) (q:=[k]) (λt=>by rw [h]; simp only [ev]; grind) hv
theorem Qkc {c:Rat->Int} (hc:Cut c) {f:Ul} {L:Um} (h:UG f L) (hv:A6 f c):∃ s,s≠0/\NZ (M6 f) c s:=by
 rcases ZO hc (M6 f) with h1 | h1
 ·exfalso;rcases h with ⟨k,hk,hf,_⟩ | ⟨g,l,k,hk,hg,h,_⟩
  ·obtain ⟨q,hq,_⟩:=vJ hc (hv (Fa k) (Bm hk));rw [hf] at hq; grind
  ·exact Qj3 hc h hv (AS hc (λt=>by rw [hg,Ry]) h1)
 ·exact h1
theorem mG {c:Rat->Int} (hc:Cut c) {f w u:Ul} {L:Um} (h:UG f L) (hf:∀ t,ev f t=ev w t*ev u t) (hv:A6 w c):∃ s,s≠0/\NZ (M6 w) c s:=by
 rcases ZO hc (M6 w) with h1 | h1
 ·exfalso;obtain ⟨s,_,hs⟩:=Qkc hc h (Pj hc hf hv);refine Qp5 hc ?_ hs;have a1:A6 (Gt (M6 w) u) c:=Pj hc (λt=>U8 t _ _) h1;have a2:A6 (Gt w (M6 u)) c:=Pj hc (λt=>U8 t _ _) hv;refine SR (λt=>?_) a1 a2;rw [Ry,Oh hf,U8,U8,Ry,Ry]
 ·exact h1
theorem Qbr {c:Rat->Int} (hc:Cut c) {q:Rat} (h:c q=0) {x y:Rat} (hx:c x=1) (hy:c y=-1):x<=q/\q<=y:=by
 constructor
 ·rcases Fv x q with e | e
  ·exact e
  ·have:=hc.mono q x e (by omega); omega
 ·rcases Fv q y with e | e
  ·exact e
  ·have:=hc.mono y q e (by omega); omega
theorem GE {c:Rat->Int} (hc:Cut c) {p:Ul} {q:Rat} (h:c q=0) (hv:A6 p c):ev p q=0:=by
 rcases Classical.em (ev p q=0) with e | e
 ·exact e
 ·obtain ⟨x,y,hx,hy,hq⟩:=hv _ (Bm e);obtain ⟨h1,h2⟩:=Qbr hc h hx hy;have:=hq q h1 h2; grind
theorem vY {c:Rat->Int} (hc:Cut c) {p:Ul} {q:Rat} {s:Int} (h:c q=0) (hv:NZ p c s):U4 (ev p q)=s:=by
 obtain ⟨d,dp,x,y,hx,hy,hq⟩:=hv;obtain ⟨h1,h2⟩:=Qbr hc h hx hy;exact (hq q h1 h2).1
theorem fF {c:Rat->Int} (hc:Cut c) {y z:Rat} (hy:c y=-1) (hz:c z=-1):∃ q,c q=-1/\q<y/\q<z:=by
 obtain ⟨a,a1,a2⟩:=hc.dn y hy;obtain ⟨b,b1,b2⟩:=hc.dn z hz;rcases Fv a b with e | e
 ·exact ⟨a,a2,a1,by grind⟩
 ·exact ⟨b,b2,by grind,b1⟩
theorem PL {c:Rat->Int} (hc:Cut c) {y z:Rat} (hy:c y=1) (hz:c z=1):∃ q,c q=1/\y<q/\z<q:=by
 obtain ⟨a,a1,a2⟩:=hc.up y hy;obtain ⟨b,b1,b2⟩:=hc.up z hz;rcases Fv a b with e | e
 ·exact ⟨b,b2,by grind,b1⟩
 ·exact ⟨a,a2,a1,by grind⟩
theorem Qdx {f w u:Ul} {L:Um} (h:UG f L) (hf:∀ t,ev f t=ev w t*ev u t) {x y:Rat} (hv:vv L x=vv L y) {c:Rat->Int} (hc:Cut c) (hx:c x=1) (hy:c y≠1):¬A6 w c:=λhw=>by
 have hxy:x<y:=by
  rcases Fv y x with e | e
  ·rcases Classical.em (y=x) with e' | e'
   ·rw [e'] at hy; exact absurd hx hy
   ·have:=hc.mono y x (by grind) hy; omega
  ·exact e
 have hwv:=JI h hf hxy hv;rcases hc.val y with e | e | e
 ·exact hy e
 ·have:=GE hc e hw;have:=hwv.s;rw [Gd.2 (by assumption)] at this;exact hwv.n this.symm
 ·obtain ⟨s,hs,hd⟩:=mG hc h hf hw;obtain ⟨a,ha,hal⟩:=Qdg hc hw (nD hc hd) hs;obtain ⟨b,hb,hbr⟩:=qS hc hw (EI hc hd) hs;obtain ⟨q,q1,q2,q3⟩:=PL hc hx ha;obtain ⟨r,r1,r2,r3⟩:=fF hc hb e;have e1:=hal q q1 (Qq q3);have e2:=hbr r r1 (Qq r2);have hqr:=hc.lt q1 r1;have v1:vv L q<=vv L x:=E9 h q2;have v2:vv L y<=vv L r:=E9 h r3;have v3:vv L r<=vv L q:=E9 h hqr;have s1:=(JI h hf q2 (by omega)).s;have s2:=(JI h hf (x:=x) (y:=r) (by grind) (by omega)).s;omega
theorem qI {f:Ul} {L:Um} (h:UG f L) {x y:Rat} (hxy:x<y) (hv:vv L x≠vv L y) {d:Rat} (dp:0<d):∃ q,x<=q/\q<=y/\Fa (ev f q)<d:=by
 obtain ⟨R,hR,hx,hy⟩:=AM x y;obtain ⟨e1,e1p,hl⟩:=loc hR h (w:=f) (u:=[1]) (λt=>by rw [Ro]; grind);obtain ⟨e2,e2p,_,e2b⟩:=G5 (Mc hR f) dp;obtain ⟨e,ep,h1,h2⟩:=min2 e1p e2p;have key:∀ n:Nat,∀ x,Fa x<=R->x<y->vv L x≠vv L y->y-x<=(n:Rat)*e->∃ q,x<=q/\q<=y/\Fa (ev f q)<d:=by
  intro n
  induction n with
  | zero=>intro x hx hxy _ hn; rw [show ((0:Nat):Rat)=0 from rfl] at hn; exfalso; clear hl; grind
  |
   succ n ih =>
   intro x hx hxy hv hn;have hstep:∀ z,Fa z<=R->x<z->z-x<=e->vv L x≠vv L z->Fa (ev f z)<d:=λz hz hxz hze hv=>by
    rcases hl x z hx hz hxz (Zh hze h1) with ⟨p,_⟩ | ⟨_,p1,p2,p3,p4⟩
    ·exact absurd p hv
    ·have hd:=Pn (p:=f) hx hz hR (e:=e2) (d:=d) (by rw [Pq]; clear hl ih; constructor <;> grind) e2b;rw [<-p3] at p1 p4;clear hl ih p2 p3;rw [qG] at *;rcases Fi (ev f x) with ⟨a,a'⟩ | ⟨a,a'⟩ | ⟨a,a'⟩ <;> rcases Fi (ev f z) with ⟨b,b'⟩ | ⟨b,b'⟩ | ⟨b,b'⟩ <;> rw [a,b] at p4 <;> first | (exfalso; revert p4; decide) | skip
     all_goals first | (constructor <;> grind) | (exfalso; omega)
   rcases Fv (y-x) e with h3 | h3
   ·exact ⟨y,Qq hxy,Qp,hstep y hy hxy h3 hv⟩
   ·have hm:Fa (x+e)<=R:=KC hx hy (by clear hl ih hstep; grind) (by clear hl ih hstep; grind);rcases Classical.em (vv L x=vv L (x+e)) with e0 | e0
    ·have hn':(((n+1:Nat):Rat))=(n:Rat)+1:=by push_cast; rfl
     rw [hn'] at hn;obtain ⟨q,q1,q2,q3⟩:=ih (x+e) hm (by clear hl ih hstep; grind) (by omega) (by clear hl ih hstep; grind);exact ⟨q,by clear hl ih hstep; grind,q2,q3⟩
    ·exact ⟨x+e,by clear hl ih hstep; grind,by clear hl ih hstep; grind,hstep (x+e) hm (by clear hl ih hstep; grind) (by clear hl ih hstep; grind) e0⟩
 obtain ⟨n,hn⟩:=QW (z:=y-x) ep;exact key n x hx hxy hv hn
theorem Qrk {p:Ul} {x:Rat} (h:S4 p x≠0):∃ e:Rat,0<e/\∀ y,x<y->y-x<=e->U4 (ev p y)=S4 p x:=by
 by_cases h0:U4 (ev p x)=0
 ·have hx:=Gd.1 h0;rw [gA h0] at h ⊢;have hR:0<=Fa x+1:=by have:=Hj x; grind
  obtain ⟨e,e1,e2,e3⟩:=G5 (PI hR p) (Bm (x:=dv p x) λh'=>h (Gd.2 h'));refine ⟨e,e1,λy h1 h2=>?_⟩;have hy:Fa y<=Fa x+1:=by
   have:=To x (y-x);have e:x+(y-x)=y:=by grind
   have e':Fa (y-x)=y-x:=by unfold Fa; split <;> grind
   rw [e,e'] at this; grind
  have:=NF (p:=p) (by grind) hy hR h1 h2 Qp e3;rw [hx] at this;rw [<-this]; congr 1; grind
 ·rw [Er h0] at h ⊢;obtain ⟨e,e1,e2⟩:=lP h;exact ⟨e,e1,λy h1 h2=>e2 y (by rw [Pq]; constructor <;> grind)⟩
def cq (P:Ul) (lo hi q:Rat):Int:=if q<=lo then 1 else if hi<q then -1 else if U4 (ev P q)=0 then 0 else if U4 (ev P q)=S4 P lo then 1 else -1
structure Vt (P:List Rat) (L:List (List Rat)) (lo hi:Rat):Prop where
 s:UG P L
 l:lo<hi
 v:vv L lo=vv L hi+1
variable {P:Ul} {L:Um} {lo hi:Rat}
theorem Ec {q:Rat} (h:q<=lo):cq P lo hi q=1:=by unfold cq; rw [if_pos h]
theorem KJ {q:Rat} (h:lo<hi) (h':hi<q):cq P lo hi q=-1:=by unfold cq; rw [if_neg (by grind),if_pos h']
theorem Au {q:Rat} (h1:lo<q) (h2:q<=hi):cq P lo hi q=if U4 (ev P q)=0 then 0 else if U4 (ev P q)=S4 P lo then 1 else -1:=by
 unfold cq; rw [if_neg (by grind),if_neg (by grind)]
theorem Vt.two (V:Vt P L lo hi) {q:Rat} (h1:lo<q) (h2:q<=hi):vv L q=vv L lo/\cq P lo hi q=1/\U4 (ev P q)=S4 P lo\/vv L q=vv L hi/\cq P lo hi q≠1/\S4 P q=-S4 P lo/\S4 P lo≠0:=by
 have a:=E9 V.s h1;have b:vv L hi<=vv L q:=by
  rcases Classical.em (q=hi) with e | e
  ·rw [e]; exact Ql _
  ·exact E9 V.s (by grind)
 have hv:=V.v;rcases (show vv L q=vv L lo\/vv L q=vv L hi by omega) with e | e
 ·have hs:=zK V.s h1 e.symm;refine .inl ⟨e,?_,hs.s⟩;rw [Au h1 h2,hs.s,if_neg hs.n,if_pos rfl]
 ·obtain ⟨o1,o2⟩:=zV V.s h1 (by omega);refine .inr ⟨e,?_,o2,o1⟩;rw [Au h1 h2]
  split
  ·decide
  ·rename_i h0;rw [Er h0] at o2;rw [if_neg (by omega)]; decide
theorem Vt.lowlo (V:Vt P L lo hi):S4 P lo≠0:=(zV V.s V.l V.v).1
theorem Vt.eq_lo (V:Vt P L lo hi) {q:Rat} (h1:lo<q) (h2:q<=hi) (h:cq P lo hi q=1):vv L q=vv L lo:=by
 rcases V.two h1 h2 with ⟨e,_⟩ | ⟨_,e,_⟩
 ·exact e
 ·exact absurd h e
theorem Vt.eq_hi (V:Vt P L lo hi) {q:Rat} (h1:lo<q) (h2:q<=hi) (h:cq P lo hi q≠1):vv L q=vv L hi:=by
 rcases V.two h1 h2 with ⟨_,e,_⟩ | ⟨e,_⟩
 ·exact absurd e h
 ·exact e
theorem Vt.hi1 (V:Vt P L lo hi):cq P lo hi hi≠1:=λh=>by have:=V.eq_lo V.l Qp h; have:=V.v; omega
theorem Vt.cut (V:Vt P L lo hi):Cut (cq P lo hi) where
 val q:=by unfold cq; split <;> (try split) <;> (try split) <;> (try split) <;> simp
 mono q r h h1:=by
  have hq:lo<q:=by
   rcases Fv q lo with e | e
   ·exact absurd (Ec e) h1
   ·exact e
  rcases Fv r hi with e | e
  ·have e1:=V.eq_hi hq (by grind) h1;rcases V.two (q:=r) (by grind) e with ⟨e2,_⟩ | ⟨e2,_,e3,e4⟩
   ·have:=E9 V.s h; have:=V.v; omega
   ·have hs:=zK V.s h (by omega);rcases V.two hq (by grind) with ⟨e5,_⟩ | ⟨_,_,e5,_⟩
    ·have:=V.v; omega
    ·rw [Au (by grind) e,hs.s,if_neg hs.n,e5,if_neg (by omega)]
  ·exact KJ V.l e
 up q h:=by
  rcases Fv q lo with e | e
  ·obtain ⟨d,dp,hd⟩:=Qrk V.lowlo;obtain ⟨f,fp,f1,f2⟩:=min2 (a:=d) (b:=hi-lo) dp (by have:=V.l; grind);have h1:lo<lo+f:=by clear hd; grind
   have h2:lo+f<=hi:=by clear hd; grind
   have:=hd (lo+f) h1 (by clear hd; grind);exact ⟨lo+f,by clear hd; grind,by rw [Au h1 h2,this,if_neg V.lowlo,if_pos rfl]⟩
  ·have hh:q<=hi:=by
    rcases Fv q hi with e' | e'
    ·exact e'
    ·have:=KJ (P:=P) V.l e'; omega
   rcases V.two e hh with ⟨e1,_,e2⟩ | ⟨_,e1,_⟩
   ·have hn:q≠hi:=λh=>by rw [h] at e1; have:=V.v; omega
    obtain ⟨d,dp,hd⟩:=lP (p:=P) (x:=q) (by rw [e2]; exact V.lowlo);obtain ⟨f,fp,f1,f2⟩:=min2 (a:=d) (b:=hi-q) dp (by clear hd; grind);have:=hd (q+f) (by rw [Pq]; clear hd; constructor <;> grind);exact ⟨q+f,by clear hd; grind,by rw [Au (by clear hd; grind) (by clear hd; grind),this,e2,if_neg V.lowlo,if_pos rfl]⟩
   ·exact absurd h e1
 dn q h:=by
  have hq:lo<q:=by
   rcases Fv q lo with e | e
   ·have:=Ec (P:=P) (hi:=hi) e; omega
   ·exact e
  rcases Fv q hi with e | e
  ·rw [Au hq e] at h
   split at h
   ·cases h
   rename_i h0
   split at h
   ·cases h
   rename_i h1;obtain ⟨d,dp,hd⟩:=lP h0;obtain ⟨f,fp,f1,f2⟩:=min2 (a:=d) (b:=(q-lo) / 2) dp (Ed (by clear hd; grind) (by decide));have h2:(q-lo) / 2*2=q-lo:=Gy (by decide);have:=hd (q-f) (by rw [Pq]; clear hd; constructor <;> grind);exact ⟨q-f,by clear hd; grind,by rw [Au (by clear hd; grind) (by clear hd; grind),this,if_neg h0,if_neg h1]⟩
  ·have h2:(q-hi) / 2*2=q-hi:=Gy (by decide);exact ⟨q-(q-hi) / 2,by grind,KJ V.l (by grind)⟩
 lo:=⟨lo,Ec Qp⟩
 hi:=⟨hi+1,KJ V.l (by grind)⟩
theorem Vt.van (V:Vt P L lo hi):A6 P (cq P lo hi):=by
 have hc:=V.cut;rcases ZO hc P with h | ⟨s,hs,h⟩
 ·exact h
 ·exfalso;have e1:s=S4 P lo:=by
   obtain ⟨x,hx,hx1⟩:=nD hc h;obtain ⟨q,q1,q2,q3⟩:=PL hc hx (Ec (P:=P) (hi:=hi) (Qp (a:=lo)));have hq:q<=hi:=by
    rcases Fv q hi with e | e
    ·exact e
    ·have:=KJ (P:=P) V.l e; omega
   rcases V.two q3 hq with ⟨_,_,e⟩ | ⟨_,e,_⟩
   ·rw [<-hx1 q q1 (Qq q2),e]
   ·exact absurd q1 e
  rcases hc.val hi with e | e | e
  ·exact V.hi1 e
  ·have h0:=vY hc e h;rw [Au V.l Qp] at e
   split at e
   ·omega
   ·split at e <;> omega
  ·obtain ⟨y,hy,hy1⟩:=EI hc h;obtain ⟨q,q1,q2,q3⟩:=fF hc hy e;have hq:lo<q:=hc.lt (Ec (P:=P) (hi:=hi) (Qp (a:=lo))) q1;have:=hy1 q q1 (Qq q2);rw [Au hq (Qq q3),this,if_neg hs,if_pos e1] at q1;cases q1
def gQ (w:Ul) (lo hi:Rat):Prop:=U4 (ev w hi)=0\/U4 (ev w hi)≠S4 w lo
theorem Vt.has (V:Vt P L lo hi) {w u:Ul} (hf:∀ t,ev P t=ev w t*ev u t) {a b:Rat} (h1:lo<=a) (h2:a<b) (h3:b<=hi):gQ w a b↔A6 w (cq P lo hi)/\cq P lo hi a=1/\cq P lo hi b≠1:=by
 have hc:=V.cut;have smno:vv L a=vv L b->¬gQ w a b:=λh hh=>by
  have:=JI V.s hf h2 h;rcases hh with e | e
  ·rw [this.s] at e; exact this.n e
  ·exact e this.s
 by_cases ha:cq P lo hi a=1
 ·by_cases hb:cq P lo hi b=1
  ·have e1:=V.eq_lo (by grind) h3 hb;have e2:vv L a=vv L lo:=by
    rcases Classical.em (lo=a) with e | e
    ·rw [e]
    ·exact V.eq_lo (by grind) (by grind) ha
   exact ⟨λh=>absurd h (smno (by omega)),λh=>absurd hb h.2.2⟩
  ·have e1:=V.eq_hi (by grind) h3 hb;have e2:vv L a=vv L lo:=by
    rcases Classical.em (lo=a) with e | e
    ·rw [e]
    ·exact V.eq_lo (by grind) (by grind) ha
   have left:∀ s,LS w (cq P lo hi) s->s=S4 w a:=λs hs=>by
    obtain ⟨x,hx,hx1⟩:=hs;obtain ⟨q,q1,q2,q3⟩:=PL hc hx ha;have hqb:q<b:=by
     rcases Fv b q with e | e
     ·rcases Classical.em (b=q) with e' | e'
      ·rw [e'] at hb; exact absurd q1 hb
      ·have:=hc.mono b q (by clear hx1 smno; grind) hb; omega
     ·exact e
    have:=V.eq_lo (q:=q) (by clear hx1 smno; grind) (by clear hx1 smno; grind) q1;rw [<-(JI V.s hf q3 (by omega)).s,hx1 q q1 (Qq q2)]
   have right:∀ s,RS w (cq P lo hi) s->cq P lo hi b=-1->s=U4 (ev w b):=λs hs hb=>by
    obtain ⟨y,hy,hy1⟩:=hs;obtain ⟨q,q1,q2,q3⟩:=fF hc hy hb;have hqa:=hc.lt ha q1;have:=V.eq_hi (q:=q) (by clear hy1 smno; grind) (by clear hy1 smno; grind) (by omega);have hs:=JI V.s hf q3 (by omega);have hl:=hy1 q q1 (Qq q2);have h0:U4 (ev w q)≠0:=by
     have hs2:=JI V.s hf (x:=q) (y:=b) q3 (by omega);intro h0;obtain ⟨r,r1,r2⟩:=hc.dn q q1;have har:=hc.lt ha r2;have:=V.eq_hi (q:=r) (by clear hy1 smno; grind) (by clear hy1 smno; grind) (by omega);have hs3:=JI V.s hf (x:=r) (y:=q) r1 (by omega);have hs4:=hs3.s;rw [h0] at hs4; exact hs3.n hs4.symm
    rw [hs.s,Er h0,hl]
   refine ⟨λh=>⟨?_,ha,hb⟩,λ⟨hw,_,_⟩=>?_⟩
   ·rcases ZO hc w with e | ⟨s,BA,hs⟩
    ·exact e
    ·exfalso;have l1:=left s (nD hc hs);have r1:U4 (ev w b)=s:=by
      rcases hc.val b with e | e | e
      ·exact absurd e hb
      ·exact vY hc e hs
      ·exact (right s (EI hc hs) e).symm
     rcases h with h | h
     ·exact BA (by rw [<-r1]; exact h)
     ·exact h (by rw [r1,l1])
   ·rcases hc.val b with e | e | e
    ·exact absurd e hb
    ·exact .inl (Gd.2 (GE hc e hw))
    ·obtain ⟨s,BA,hs⟩:=mG hc V.s hf hw;have l1:=left _ (Qdg hc hw (nD hc hs) BA);have r1:=right _ (qS hc hw (EI hc hs) BA) e;exact .inr (by rw [<-l1,<-r1]; omega)
 ·have hla:lo<a:=by
   rcases Classical.em (lo=a) with e | e
   ·rw [<-e] at ha; exact absurd (Ec Qp) ha
   ·grind
  have hb:cq P lo hi b≠1:=by have:=hc.mono a b h2 ha; omega
  have e1:=V.eq_hi hla (by grind) ha;have e2:=V.eq_hi (q:=b) (by grind) h3 hb;exact ⟨λh=>absurd h (smno (by omega)),λh=>absurd h.2.1 ha⟩
theorem jY {c c':Rat->Int} (hc:Cut c) (hc':Cut c') {q:Rat} (h:c q≠c' q):∃ r,(c r=-1/\c' r=1)\/(c r=1/\c' r=-1):=by
 rcases hc.val q with e | e | e <;> rcases hc'.val q with e' | e' | e'
 ·omega
 ·obtain ⟨r,r1,r2⟩:=hc.up q e;exact ⟨r,.inr ⟨r2,hc'.mono q r r1 (by omega)⟩⟩
 ·exact ⟨q,.inr ⟨e,e'⟩⟩
 ·obtain ⟨r,r1,r2⟩:=hc'.up q e';exact ⟨r,.inl ⟨hc.mono q r r1 (by omega),r2⟩⟩
 ·omega
 ·obtain ⟨r,r1,r2⟩:=hc'.dn q e';exact ⟨r,.inr ⟨hc.mono' r1 (by omega),r2⟩⟩
 ·exact ⟨q,.inl ⟨e,e'⟩⟩
 ·obtain ⟨r,r1,r2⟩:=hc.dn q e;exact ⟨r,.inl ⟨r2,hc'.mono' r1 (by omega)⟩⟩
 ·omega
theorem Vt.uniq (V:Vt P L lo hi) {c:Rat->Int} (hc:Cut c) (h1:c lo=1) (h2:c hi≠1) (hv:A6 P c) (q:Rat):c q=cq P lo hi q:=by
 rcases Classical.em (c q=cq P lo hi q) with e | e
 ·exact e
 ·exfalso;obtain ⟨r,⟨r1,r2⟩ | ⟨r1,r2⟩⟩:=jY hc V.cut e
  ·have hl:=hc.lt h1 r1;have hh:r<=hi:=by
    rcases Fv r hi with e | e
    ·exact e
    ·have:=KJ (P:=P) V.l e; omega
   have:=V.eq_lo hl hh r2;exact Qdx V.s (w:=P) (u:=[1]) (λt=>by rw [Ro]; grind) (x:=lo) (y:=r) (by omega) hc h1 (by omega) hv
  ·have hl:lo<r:=by
    rcases Fv r lo with e | e
    ·have:=Ec (P:=P) (hi:=hi) e; omega
    ·exact e
   have hh:r<=hi:=by
    rcases Fv r hi with e | e
    ·exact e
    ·have:=hc.mono hi r e h2; omega
   have:=V.eq_hi hl hh (by omega);exact Qdx V.s (w:=P) (u:=[1]) (λt=>by rw [Ro]; grind) (x:=r) (y:=hi) (by omega) hc r1 h2 hv
theorem Vt.same (V:Vt P L lo hi) {P':Ul} {L':Um} {lo' hi':Rat} (V':Vt P' L' lo' hi') {g u u' U W:Ul} {k:Rat} (hk:k≠0) (h1:∀ t,ev P t=ev g t*ev u t) (h2:∀ t,ev P' t=ev g t*ev u' t) (h3:∀ t,k*ev g t=ev U t*ev P t+ev W t*ev P' t) {a b:Rat} (ha1:lo<=a) (ha2:lo'<=a) (ha:a=lo\/a=lo') (hb1:b<=hi) (hb2:b<=hi') (hb:b=hi\/b=hi'):(a<b/\gQ g a b)↔∀ q,cq P lo hi q=cq P' lo' hi' q:=by
 have hc:=V.cut;have hc':=V'.cut;constructor
 ·rintro ⟨hab,hg⟩
  obtain ⟨g1,g2,g3⟩:=(V.has h1 ha1 hab hb1).1 hg;obtain ⟨g4,g5,g6⟩:=(V'.has h2 ha2 hab hb2).1 hg;intro q;refine (V.uniq hc' (by
   rcases Classical.em (lo=a) with e | e
   ·rw [e]; exact g5
   ·exact hc'.mono' (q:=lo) (r:=a) (by grind) (by omega)) (λh=>?_) (Pj hc' h1 g4) q).symm
  rcases Classical.em (b=hi) with e | e
  ·rw [<-e] at h; exact g6 h
  ·have:=hc'.mono b hi (by grind) g6; omega
 ·intro h;have hcc:cq P' lo' hi'=cq P lo hi:=funext λq=>(h q).symm
  have e1:cq P lo hi a=1:=by
   rcases ha with rfl | rfl
   ·exact Ec Qp
   ·rw [h]; exact Ec Qp
  have e2:cq P lo hi b≠1:=by
   rcases hb with rfl | rfl
   ·exact V.hi1
   ·rw [h]; exact V'.hi1
  have hab:a<b:=by
   rcases Fv b a with e | e
   ·rcases Classical.em (b=a) with e' | e'
    ·rw [e'] at e2; exact absurd e1 e2
    ·have:=hc.mono b a (by grind) e2; omega
   ·exact e
  have v1:=V.van;have v2:=V'.van;rw [hcc] at v2;have hg:A6 g (cq P lo hi):=by
   have a1:A6 (Gt U P) (cq P lo hi):=Pj hc (p:=P) (q:=U) (λt=>by rw [U8]; grind) v1;have a2:A6 (Gt W P') (cq P lo hi):=Pj hc (p:=P') (q:=W) (λt=>by rw [U8]; grind) v2;have a3:=SR (λt=>Gp t _ _) a1 a2;refine AS hc (k:=1 / k) (λt=>?_) a3;rw [Gp,U8,U8,<-h3];have:1 / k*(k*ev g t)=1 / k*k*ev g t:=by grind
   rw [this,show 1 / k*k=1 from Zc hk]; grind
  exact ⟨hab,(V.has h1 ha1 hab hb1).2 ⟨hg,e1,e2⟩⟩
end Orq
namespace Orq
theorem Qef:∀ (M:Nat) (f:Nat->Nat),(∀ i,i<=M->f i<M)->∃ i j,i<j/\j<=M/\f i=f j
 | 0,f,h=>absurd (h 0 (Ql _)) (Nat.not_lt_zero _)
 |
  M+1,f,h=>by
  rcases Classical.em (∃ i,i<=M/\f i=f (M+1)) with ⟨i,h1,h2⟩ | hn
  ·exact ⟨i,M+1,by omega,Ql _,h2⟩
  ·have hne:∀ i,i<=M->f i≠f (M+1):=λi hi e=>hn ⟨i,hi,e⟩
   obtain ⟨i,j,h1,h2,h3⟩:=Qef M (λi=>if f i=M then f (M+1) else f i) λi hi=>by
    have a1:=h i (by omega);have a2:=h (M+1) (Ql _);have a3:=hne i hi;show (if f i=M then f (M+1) else f i)<M
    split <;> omega
   refine ⟨i,j,h1,by omega,?_⟩;have a1:=hne i (by omega);have a2:=hne j h2
   split at h3 <;> split at h3 <;> omega
def dg (B k i:Nat):Nat:=k / B^i % B
theorem mU (B k i:Nat):dg B k (i+1)=dg B (k / B) i:=by unfold dg; rw [Nat.pow_succ,Nat.mul_comm,Nat.div_div_eq_div_mul]
theorem Qbv {B:Nat}:∀ (N:Nat) {k k':Nat},k<B^N->k'<B^N->(∀ i,i<N->dg B k i=dg B k' i)->k=k'
 | 0,k,k',h,h',_=>by rw [Ve] at h h'; omega
 |
  N+1,k,k',h,h',he=>by
  have h0:=he 0 (by omega);unfold dg at h0;rw [Ve,Nat.div_one,Nat.div_one] at h0;have hB:0<B:=by
   rcases Q5 B with e | e
   ·rw [e,Zo,Yy] at h; omega
   ·exact e
  have h1:=Qbv N (k:=k / B) (k':=k' / B) (X6 (by rw [Zn,<-Zo]; exact h)) (X6 (by rw [Zn,<-Zo]; exact h')) λi hi=>by
   rw [<-mU,<-mU]; exact he (i+1) (by omega)
  rw [<-W4 k B,<-W4 k' B,h0,h1]
def cd (B:Nat):Nat->(Nat->Nat)->Nat
 | 0,_=>0
 | E+1,x=>x 0+B*cd B E λe=>x (e+1)
theorem Qlm {B:Nat}:∀ (E:Nat) {x:Nat->Nat},(∀ e,e<E->x e<B)->cd B E x<B^E
 | 0,_,_=>by simp [cd]
 |
  E+1,x,h=>by
  have h1:=h 0 (by omega);have h2:=Qlm E (x:=λe=>x (e+1)) λe he=>h (e+1) (by omega)
  simp only [cd];have h3:B*cd B E (λe=>x (e+1))+B<=B*B^E:=by
   rw [<-Wx]; exact Zs _ h2
  rw [Zo,Zn (B^E)]; omega
theorem Qbg {B:Nat}:∀ (E:Nat) {x y:Nat->Nat},(∀ e,e<E->x e<B)->(∀ e,e<E->y e<B)->cd B E x=cd B E y->∀ e,e<E->x e=y e
 | 0,_,_,_,_,_,e,he=>by omega
 |
  E+1,x,y,hx,hy,h,e,he=>by
  have h1:=hx 0 (by omega);have h2:=hy 0 (by omega);simp only [cd] at h;have e0:x 0=y 0:=by
   have:=congrArg (· % B) h;simp only [V3] at this;rwa [Xs h1,Xs h2] at this
  have e1:cd B E (λe=>x (e+1))=cd B E (λe=>y (e+1)):=Nat.eq_of_mul_eq_mul_left (by omega:0<B) (by omega);cases e with
  | zero=>exact e0
  | succ e=>exact Qbg E (λe he=>hx (e+1) (by omega)) (λe he=>hy (e+1) (by omega)) e1 e (by omega)
def sm:Nat->(Nat->Int)->Int
 | 0,_=>0
 | n+1,f=>sm n f+f n
theorem Qfj (f g:Nat->Int):∀ n,sm n (λi=>f i-g i)=sm n f-sm n g
 | 0=>rfl
 | n+1=>by simp only [sm,Qfj f g n]; omega
theorem Dt {f g:Nat->Int}:∀ n,(∀ i,i<n->f i=g i)->sm n f=sm n g
 | 0,_=>rfl
 | n+1,h=>by simp only [sm,Dt n (λi hi=>h i (by omega)),h n (by omega)]
theorem Qfi {f:Nat->Int} {b:Nat}:∀ n,(∀ i,i<n->(f i).natAbs<=b)->(sm n f).natAbs<=n*b
 | 0,_=>by simp [sm]
 |
  n+1,h=>by
  have h1:=Qfi n λi hi=>h i (by omega)
  have h2:=h n (by omega);simp only [sm];rw [Z8]; omega
theorem XE {f:Nat->Int}:∀ n,(∀ i,i<n->f i=0)->sm n f=0
 | 0,_=>rfl
 | n+1,h=>by simp only [sm,XE n (λi hi=>h i (by omega)),h n (by omega)]; rfl
theorem tG (f:Nat->Int) (m:Nat):∀ n,sm (m+n) f=sm m f+sm n λi=>f (m+i)
 | 0=>by simp [sm]
 | n+1=>by rw [<-J4]; simp only [sm,tG f m n]; omega
theorem tH (f:Nat->Int) (J:Nat):∀ b,sm (b*J) f=sm b λi=>sm J λj=>f (i*J+j)
 | 0=>by simp [sm]
 | b+1=>by rw [Z8,tG,tH f J b]; rfl
theorem BR {f:Nat->Int} {k:Nat}:∀ n,k<n->(∀ i,i<n->i≠k->f i=0)->sm n f=f k
 | 0,h,_=>by omega
 |
  n+1,h,h1=>by
  simp only [sm];rcases Vj (Nat.le_of_lt_succ h) with e | e
  ·rw [BR n e λi hi=>h1 i (by omega),h1 n (by omega) (by omega)]; omega
  ·subst e; rw [XE k λi hi=>h1 i (by omega) (by omega)]; omega
theorem Qpp {M:Nat->Nat->Int} {h N E H:Nat} (hM:∀ e i,(M e i).natAbs<=h) (hc:(2*(N*(h*H))+1)^E<(H+1)^N) :
 ∃ v:Nat->Int,(∀ i,(v i).natAbs<=H)/\(∃ i,i<N/\v i≠0)/\∀ e,e<E->sm N (λi=>M e i*v i)=0:=by
 obtain ⟨T,hT⟩:=nmE (N*(h*H));rw [<-hT] at hc;have hv:∀ k i,dg (H+1) k i<=H:=λk i=>Nat.le_of_lt_succ (Z6 _ (by omega))
 have hs:∀ k e,(sm N λi=>M e i*(dg (H+1) k i:Int)).natAbs<=T:=λk e=>by
  rw [hT];refine Qfi N λi _=>?_
  rw [J6,Xh];exact Q7 (hM e i) (hv k i)
 have him:∀ k e,((sm N λi=>M e i*(dg (H+1) k i:Int))+T).toNat<2*T+1:=λk e=>by have:=hs k e; omega
 obtain ⟨i,j,h1,h2,h3⟩:=Qef ((2*T+1)^E) (λk=>cd (2*T+1) E λe=>((sm N λi=>M e i*(dg (H+1) k i:Int))+T).toNat) λk _=>Qlm E λe _=>him k e
 have h4:=Qbg E (λe _=>him i e) (λe _=>him j e) h3;refine ⟨λn=>(dg (H+1) i n:Int)-dg (H+1) j n,λn=>?_,?_,λe he=>?_⟩
 ·have a1:=hv i n;have a2:=hv j n;show ((dg (H+1) i n:Int)-dg (H+1) j n).natAbs<=H;omega
 ·rcases Classical.em (∃ n,n<N/\(dg (H+1) i n:Int)-dg (H+1) j n≠0) with e | e
  ·exact e
  ·exfalso;have:i=j:=Qbv (B:=H+1) N (by omega) (by omega) λn hn=>by
    rcases Classical.em (dg (H+1) i n=dg (H+1) j n) with e' | e'
    ·exact e'
    ·exact absurd ⟨n,hn,by omega⟩ e
   omega
 ·have a1:=h4 e he;have a2:=hs i e;have a3:=hs j e;have:(sm N λn=>M e n*(dg (H+1) i n:Int))=sm N λn=>M e n*(dg (H+1) j n:Int):=by omega
  have e1:=Qfj (λn=>M e n*(dg (H+1) i n:Int)) (λn=>M e n*(dg (H+1) j n:Int)) N;rw [this] at e1;rw [Dt N (g:=λn=>M e n*(dg (H+1) i n:Int)-M e n*(dg (H+1) j n:Int)) λn _=>Int.mul_sub _ _ _,e1]; omega
def Uy:Ui->Rat->Rat
 | [],_=>0
 | a::p,t=>(a:Rat)+t*Uy p t
def sq:Nat->(Nat->Rat)->Rat
 | 0,_=>0
 | n+1,f=>sq n f+f n
theorem S5 {f g:Nat->Rat}:∀ n,(∀ i,i<n->f i=g i)->sq n f=sq n g
 | 0,_=>rfl
 | n+1,h=>by simp only [sq,S5 n (λi hi=>h i (by omega)),h n (by omega)]
theorem tL (f g:Nat->Rat):∀ n,sq n (λi=>f i+g i)=sq n f+sq n g
 | 0=>by simp only [sq]; grind
 | n+1=>by simp only [sq,tL f g n]; grind
theorem ZL (c:Rat) (f:Nat->Rat):∀ n,sq n (λi=>c*f i)=c*sq n f
 | 0=>by simp only [sq]; grind
 | n+1=>by simp only [sq,ZL c f n]; grind
theorem Bs {f:Nat->Rat}:∀ n,(∀ i,i<n->f i=0)->sq n f=0
 | 0,_=>rfl
 | n+1,h=>by simp only [sq,Bs n (λi hi=>h i (by omega)),h n (by omega)]; grind
theorem Iz (f:Nat->Rat):∀ n,sq (n+1) f=f 0+sq n λi=>f (i+1)
 | 0=>by simp only [sq]; grind
 | n+1=>by rw [sq,Iz f n]; simp only [sq]; grind
theorem Qmf {f:Nat->Rat} {b:Rat}:∀ n,(∀ i,i<n->Fa (f i)<=b)->Fa (sq n f)<=(n:Rat)*b
 | 0,_=>by rw [show ((0:Nat):Rat)=0 from rfl]; simp only [sq,Hy]; grind
 |
  n+1,h=>by
  have h1:=Qmf n λi hi=>h i (by omega)
  have h2:=h n (by omega);have h3:=To (sq n f) (f n);have hn':(((n+1:Nat):Rat))=(n:Rat)+1:=by push_cast; rfl
  rw [hn']; simp only [sq]; clear h; grind
def gc:Ui->Nat->Nat->Int
 | [],_,_=>0
 | c::B,k,j=>(if k=0/\j=0 then c else 0)+(if k=0 then 0 else gc B (k-1) j)-(if j=0 then 0 else gc B k (j-1))
def gB:Ui->Nat
 | []=>0
 | c::B=>max c.natAbs (2*gB B)
theorem TR:∀ (B:Ui) (k j:Nat),B.length<=k+j->gc B k j=0
 | [],_,_,_=>rfl
 |
  c::B,k,j,h=>by
  simp only [Q4] at h;simp only [gc];rw [if_neg (by omega)];have e1:(if k=0 then 0 else gc B (k-1) j)=0:=by
   split
   ·rfl
   ·exact TR B _ _ (by omega)
  have e2:(if j=0 then 0 else gc B k (j-1))=0:=by
   split
   ·rfl
   ·exact TR B _ _ (by omega)
  rw [e1,e2]; rfl
theorem Qck:∀ (B:Ui) (k j:Nat),(gc B k j).natAbs<=gB B
 | [],_,_=>Qi _
 |
  c::B,k,j=>by
  have h1:=Qck B (k-1) j;have h2:=Qck B k (j-1);simp only [gc,gB];by_cases hk:k=0 <;> by_cases hj:j=0 <;> simp only [hk,hj,true_and,and_true,false_and,and_false,if_true,if_false] <;> (try subst hk) <;> (try subst hj) <;> omega
theorem Qcl:∀ (B:Ui) (b:Nat),B.length=b+1->(gc B 0 b).natAbs=(B.getD b 0).natAbs
 | [],_,h=>by simp at h
 | [c],0,_=>by simp [gc]
 | c::d::B,0,h=>by simp at h
 |
  c::B,b+1,h=>by
  have ih:=Qcl B b (by simpa using h);simp only [gc];simp only [Js,Q3];rw [if_pos trivial,if_neg (Nat.succ_ne_zero b),<-ih]; omega
def E2 (F:Nat->Nat->Int) (K J:Nat) (x y:Rat):Rat:=sq K λk=>sq J λj=>(F k j:Rat)*(y^k*x^j)
theorem fS (F G:Nat->Nat->Int) (K J:Nat) (x y:Rat):E2 (λk j=>F k j+G k j) K J x y=E2 F K J x y+E2 G K J x y:=by
 unfold E2;rw [<-tL];refine S5 K λk _=>?_
 rw [<-tL];exact S5 J λj _=>by push_cast; grind
theorem Qb2 (c:Int) (F:Nat->Nat->Int) (K J:Nat) (x y:Rat):E2 (λk j=>F k j*c) K J x y=(c:Rat)*E2 F K J x y:=by
 unfold E2;rw [<-ZL];refine S5 K λk _=>?_
 rw [<-ZL];exact S5 J λj _=>by push_cast; grind
theorem Qb3 (φ:Nat->Nat->Nat->Int) (v:Nat->Int) (K J:Nat) (x y:Rat):∀ N,E2 (λk j=>sm N λn=>φ n k j*v n) K J x y=sq N λn=>(v n:Rat)*E2 (φ n) K J x y
 |
  0=>by
  simp only [sq,sm];unfold E2;refine Bs K λk _=>Bs J λj _=>?_
  rw [show ((0:Int):Rat)=0 from rfl]; grind
 |
  N+1=>by
  simp only [sq];rw [<-Qb3 φ v K J x y N,<-Qb2,<-fS];rfl
theorem WB (t:Rat) (i:Nat):∀ k,t^(i+k)=t^i*t^k
 | 0=>by rw [Xk,Z4]; grind
 | k+1=>by rw [<-J4,Zu,Zu,WB t i k]; grind
theorem BS (f:Nat->Rat):∀ (i n:Nat),sq (i+n) (λk=>if i<=k then f (k-i) else 0)=sq n f
 | i,0=>Bs _ λk hk=>by rw [if_neg (by omega)]
 |
  i,n+1=>by
  rw [<-J4]; simp only [sq];rw [BS f i n,if_pos (by omega),Jh]
def RP (i j':Nat) (F:Nat->Nat->Int) (k j:Nat):Int:=if i<=k then (if j'<=j then F (k-i) (j-j') else 0) else 0
theorem MK (F:Nat->Nat->Int) (i j' K J:Nat) (x y:Rat):E2 (RP i j' F) (i+K) (j'+J) x y=y^i*x^j'*E2 F K J x y:=by
 unfold E2;rw [<-ZL,<-BS _ i K];refine S5 _ λk _=>?_
 by_cases hk:i<=k
 ·rw [if_pos hk,<-ZL,<-BS _ j' J];refine S5 _ λj _=>?_
  unfold RP;rw [if_pos hk];by_cases hj:j'<=j
  ·rw [if_pos hj,if_pos hj];have e1:y^k=y^i*y^(k-i):=by rw [<-WB]; congr 1; omega
   have e2:x^j=x^j'*x^(j-j'):=by rw [<-WB]; congr 1; omega
   rw [e1,e2]; grind
  ·rw [if_neg hj,if_neg hj,show ((0:Int):Rat)=0 from rfl]; grind
 ·rw [if_neg hk];refine Bs _ λj _=>?_
  unfold RP;rw [if_neg hk,show ((0:Int):Rat)=0 from rfl]; grind
def fA (A:Ui) (k j:Nat):Int:=if j=0 then A.getD k 0 else 0
theorem Qee (y:Rat):∀ (A:Ui) (K:Nat),A.length<=K->sq K (λk=>((A.getD k 0:Int):Rat)*y^k)=Uy A y
 | [],K,_=>by rw [Bs]; rfl; intro i _; simp
 | a::A,0,h=>by simp at h
 |
  a::A,K+1,h=>by
  have ih:=Qee y A K (by simpa using h);rw [Iz];simp only [Uy,Zr,Q3,Z4];rw [<-ih,<-ZL];have:(sq K λi=>((A.getD i 0:Int):Rat)*y^(i+1))=sq K λi=>y*(((A.getD i 0:Int):Rat)*y^i):=S5 K λi _=>by rw [Zu]; grind
  rw [this]; grind
theorem Qre (A:Ui) (K J:Nat) (x y:Rat) (h:A.length<=K):E2 (fA A) K (J+1) x y=Uy A y:=by
 rw [<-Qee y A K h];refine S5 K λk _=>?_
 rw [Iz,Bs]
 ·simp only [fA,if_true,Z4]; grind
 ·intro j _;simp only [fA];rw [if_neg (by omega),show ((0:Int):Rat)=0 from rfl]; grind
theorem Qnx (x y:Rat):∀ (B:Ui) (K J:Nat),B.length<=K->B.length<=J->E2 (gc B) K J x y=Uy B (y-x)
 |
  [],K,J,_,_=>by
  unfold E2;simp only [gc,Uy];exact Bs K λk _=>Bs J λj _=>by rw [show ((0:Int):Rat)=0 from rfl]; grind
 | c::B,0,J,h,_=>by simp at h
 | c::B,K+1,0,_,h=>by simp at h
 |
  c::B,K+1,J+1,h1,h2=>by
  have i1:=Qnx x y B K (J+1) (by simpa using h1) (by simp at h2; omega);have i2:=Qnx x y B (K+1) J (by simp at h1; omega) (by simpa using h2);have s1:=MK (gc B) 1 0 K (J+1) x y;have s2:=MK (gc B) 0 1 (K+1) J x y;rw [Zv,Jr 1 K] at s1;rw [Zv,Jr 1 J] at s2;rw [i1] at s1;rw [i2] at s2;have e0:E2 (fA [c]) (K+1) (J+1) x y=(c:Rat):=by rw [Qre [c] (K+1) J x y (by simp)]; simp only [Uy]; grind
  have e1:gc (c::B)=λk j=>(fA [c] k j+RP 1 0 (gc B) k j)+RP 0 1 (gc B) k j*(-1):=by
   funext k j;simp only [gc,fA,RP];by_cases hk:k=0 <;> by_cases hj:j=0
   ·subst hk; subst hj; simp
   ·subst hk; simp [hj,show 1<=j by omega]
    try omega
   ·subst hj;obtain ⟨m,rfl⟩:∃ m,k=m+1:=⟨k-1,by omega⟩;simp
   ·obtain ⟨m,rfl⟩:∃ m,k=m+1:=⟨k-1,by omega⟩;obtain ⟨i,rfl⟩:∃ i,j=i+1:=⟨j-1,by omega⟩;simp; omega
  rw [e1,fS (λk j=>fA [c] k j+RP 1 0 (gc B) k j) (λk j=>RP 0 1 (gc B) k j*(-1)),fS (fA [c]) (RP 1 0 (gc B)),Qb2,e0,s1,s2];simp only [Uy,Z4,show y^1=y by rw [Zu,Z4]; grind,show x^1=x by rw [Zu,Z4]; grind];rw [show (((-1:Int)):Rat)=-1 from rfl];grind
end Orq
