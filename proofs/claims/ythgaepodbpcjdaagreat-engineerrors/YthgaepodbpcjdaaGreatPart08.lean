/- R5 R6 RefGL R7 RatOkL R8 R9 RefCL R10 RawL NewsL KGoL SortQ BegL R11 R12 R13 R14 SplitL HullG TurnL PairN DetL H1 HullQ HullS HullT PairQ -/
import Derived.Test.YthgaepodbpcjdaaGreatPart05
import Derived.Test.YthgaepodbpcjdaaGreatPart07
import Derived.Test.YthgaepodbpcjdaaGreatPart00
set_option linter.all false
namespace Orr
open Go Go.Proofs Tryz
set_option maxRecDepth 10000
def frow (p:Up):Us:=p.map fr
theorem Cm (p:Up):(frow p).length=p.length:=by simp [frow]
theorem XH {p:Up} {i:Nat} {q:Rat} (h:p[i]? = some q):(frow p)[i]? = some (fr q):=G5 h
theorem OE (p:Up) (q:Rat):frow (p++[q])=frow p++[fr q]:=by simp [frow]
theorem Qcf (p:Up):∀ c∈frow p,c.length=4:=λc hc=>by obtain ⟨x,_,rfl⟩:=Za.1 hc; rfl
abbrev rp (p:Up):LV:=.row (frow p)
theorem Qcy (q:Rat):∀ c∈[fr q],c.length=4:=λc hc=>by rw [Qk.1 hc]; rfl
theorem Qfw:Uj 282 [] [.agg (fr 0)]:=Ug func282 rfl [.k (KR (n:=0) (by decide))] rfl
theorem KB {p:Up}:Uj 263 [.one (rp p)] [.one (rp (Df p))]:=by
 refine Fv func263 rfl (ln 0 rfl rfl λhl=>?_);rw [Cm] at hl;have hpl:=Cm p;refine Ud [] rfl ?_;refine lp (S:=Nat) 0 (λL1 n=>(3,.v (.oi n))::L1) (λ_=>[]) id (λn=>n<=p.length/\∀ j x,n<=j->p[j]? = some x->x=0) (frow p).length ⟨by rw [hpl]; exact Ql _,λj x h1 h2=>by
  have:=(Qf.1 h2).1; rw [hpl] at h1; omega⟩ rfl (λ_ _=>rfl) rfl λn hs=>?_
 obtain ⟨h1,h2⟩:=hs;cases n with
 |
  zero =>
  have e:=zP h1 (λj x h=>h2 j x h) (λh=>absurd h (by decide));exact Uf [.g 8 false (by simp),.f rfl,.i 0] rfl (by rw [e]; rfl) (by simp [U3])
 |
  succ n =>
  obtain ⟨x,hx⟩:=gxE (l:=p) (i:=n) (by omega);have hn:=Rat.num_eq_zero (q:=x);by_cases h0:x=0
  ·refine Ue [.g 8 true (by simp),.r 11 (eI (b:=(n:Int)) (by simp)),.x (XH hx),.k (Dw (z:=x.num)),.t (decide_eq_true (hn.2 h0)),.r 18 (eI (b:=(n:Int)) (by simp))] rfl ?_;exact rd n (by simp) ⟨by omega,λj y h3 h4=>by
    rcases Vk h3 with rfl | h3
    ·rw [hx] at h4; injection h4 with h4; rw [<-h4,h0]
    ·exact h2 j y h3 h4⟩ rfl
  ·have e:=zP h1 (λj x h=>h2 j x h) (λ_=>⟨x,hx,h0⟩);exact Uf [.g 8 true (by simp),.r 11 (eI (b:=(n:Int)) (by simp)),.x (XH hx),.k (Dw (z:=x.num)),.f (decide_eq_false λh=>h0 (hn.1 h)),.i (n+1)] rfl (by rw [e]; simp [rp,frow,Jv]) (by simp [U3,hpl] <;> omega)
theorem Qry {p:Up} {i:Nat} (hi:i<1099511627776):Uj 265 [.one (rp p),.oi i] [.agg (fr (p.getD i 0))]:=by
 have hpl:=Cm p;by_cases h:i<p.length
 ·have e:p.getD i 0=p[i]:=by rw [Qi,Qe h]; rfl
  rw [e];exact Ug func265 rfl [.g 7 false Uk,.F,.x (XH (Qe h))] rfl
 ·have e:p.getD i 0=0:=by rw [Qi,Qw (by omega)]; rfl
  rw [e];exact Ug func265 rfl [.g 7 false Uk,.T,.k Qfw] rfl
theorem Qga:Uj 258 [.one (ids [1])] [.one (rp (zp [1]))]:=by
 have cc:=KB (p:=zp [1]);rw [Ez,show trim [1]=[1] from rfl] at cc;refine Fv func258 rfl ?_;refine Ud [.o 3 99 4] rfl ?_;refine Ui (S:=Nat) 1 (λL1 i=>(7,.v (.oi i))::(3,.v (.one (.orow 0 4 none)))::L1) (λi=>[.row false 99 4 (frow ((zp [1]).take i))]) (λi=>1-i) (λi=>i<=1) 0 (by decide) rfl rfl λi hi=>?_
 rcases (show i=0\/i=1 by omega) with rfl | rfl
 ·refine go tt [.t rfl,.x (l:=idl [1]) (i:=0) (xs:=[.int .i64 1]) rfl,.k (KR (n:=1) (by decide)),.s (sz:=4) (Qcy _)] rfl (by simp [U3,frow]) ?_;exact rd 1 (by omega) (by omega) rfl
 ·exact Uf [.f rfl,.k cc] rfl
theorem Qt7 {p q:Up} (hp:Rb 20000000 p) (hq:Rb 20000000 q) (hlp:p.length<=1000000) (hlq:q.length<=1000000):Uj 237 [.one (rp p),.one (rp q)] [.one (rp (Qc8 p q))]:=by
 have h1:=Cm p;have h2:=Cm q;obtain ⟨M,hM⟩:=nmE (max p.length q.length);have cc:=KB (p:=VD (λi=>p.getD i 0+q.getD i 0) M);unfold Qc8;rw [<-hM];refine Fv func237 rfl ?_;refine Ud [.o 5 99 4] rfl ?_;refine Ui (S:=Nat) 1 (λL1 i=>(6,.v (.oi i))::(5,.v (.one (.orow 0 4 none)))::L1) (λi=>[.row false 99 4 (frow (VD (λi=>p.getD i 0+q.getD i 0) i))]) (λi=>M-i) (λi=>i<=M) 0 (Qh _) rfl rfl λi hi=>?_
 have hol:(frow (VD (λi=>p.getD i 0+q.getD i 0) i)).length=i:=by rw [Cm,AZ]
 by_cases h:i<M
 ·refine go tt [.r 12 (eI (b:=(M:Int)) (by omega)),.T,.k (Qry (p:=p) (i:=i) (by omega)),.k (Qry (p:=q) (i:=i) (by omega)),.k (pD (hp.getD (by decide) i) (hq.getD (by decide) i)),.s (sz:=4) (Qcy _)] rfl (by simp [U3,hol,-List.getD_eq_getElem?_getD]; omega) ?_;exact rd (i+1) (by omega) h (by rw [zA,OE]; rfl)
 ·have e:i=M:=by omega
  rw [e];exact Uf [.r 12 (eI (b:=(M:Int)) (by omega)),.F,.k cc] rfl
theorem BI {p:Up} {c:Rat} (hp:Rb 40000000 p) (hc:Qs 40000000 c) (hlp:p.length<=1000000):Uj 264 [.one (rp p),.agg (fr c)] [.one (rp (ZZ p c))]:=by
 have h1:=Cm p;have cc:=KB (p:=VD (λi=>p.getD i 0*c) p.length);unfold ZZ;refine Fv func264 rfl ?_;refine Ud [.o 5 99 4] rfl ?_;refine Ui (S:=Nat) 2 (λL1 i=>(9,.v (.oi i))::(5,.v (.one (.orow 1 4 none)))::L1) (λi=>[.blk 99 (fr c),.row false 99 4 (frow (VD (λi=>p.getD i 0*c) i))]) (λi=>p.length-i) (λi=>i<=p.length) 0 (Qh _) rfl rfl λi hi=>?_
 have hol:(frow (VD (λi=>p.getD i 0*c) i)).length=i:=by rw [Cm,AZ]
 by_cases h:i<p.length
 ·have hg:p[i]? = some (p.getD i 0):=by rw [Qi,Qe h]; rfl
  refine go tt [.T,.x (XH hg),.k (Qex (hp.getD (by decide) i) hc),.s (sz:=4) (Qcy _)] rfl (by simp [U3,hol,-List.getD_eq_getElem?_getD]; omega) ?_;exact rd (i+1) (by omega) h (by rw [zA,OE]; rfl)
 ·have e:i=p.length:=by omega
  rw [e];exact Uf [.F,.k cc] rfl
theorem Qf9 {p:Up} (hp:Rb 40000000 p) (hlp:p.length<=1000000):Uj 235 [.one (rp p)] [.one (rp (vU p))]:=by
 have cs:=BI (p:=p) (c:=-1) hp ⟨by decide,by decide⟩ hlp;have co:=KR (n:=-1) (by decide);rw [show ((-1:Int):Rat)=-1 from rfl] at co;exact Ug func235 rfl [.k co,.k cs] rfl
theorem Qp5 {s t:Nat} {a b:Rat} (ha:Qs s a) (hb:Qs t b):Qs (s+t+1) (a*b):=by
 rw [<-qR];unfold Gh;rw [if_neg (Jf (Dm a) (Dm b))];have h1:=Ga a.num b.num;have h2:=Ga (a.den:Int) (b.den:Int);have:=ha.1; have:=ha.2; have:=hb.1; have:=hb.2;exact Qs.divInt (by omega) (by omega) (by omega)
theorem Qv3 {s:Nat} {p:Up} (hp:Rb s p):Rb (s+2) (vU p):=by
 unfold vU ZZ;refine Rb.trim (Qq1 λi hi=>?_);have h1:Qs (s+0) (p.getD i 0):=by
  have hi:i<p.length:=hi;rw [Qi,Qe hi];exact hp _ (Xt hi)
 have:=Qp5 h1 (show Qs 1 (-1:Rat) from ⟨by decide,by decide⟩);exact this.mono (by omega)
theorem Qke (p:Up):(vU p).length<=p.length:=by
 unfold vU ZZ;exact Qa (zM _) (by rw [AZ]; exact Ql _)
theorem Qey {a b:Int} (ha:Fe a<=40000000) (hb:Fe b<=40000000):Uj 262 [.agg (fr (a:Rat)),.agg (fr (b:Rat))] [.agg (fr ((a*b:Int):Rat))]:=by
 have h:=Qex (Aw ha (by decide)) (Aw hb (by decide));rw [<-X1] at h; exact h
theorem Qth {a b:Int} (ha:Fe a<=20000000) (hb:Fe b<=20000000):Uj 47 [.agg (fr (a:Rat)),.agg (fr (b:Rat))] [.agg (fr ((a+b:Int):Rat))]:=by
 have h:=pD (Aw ha (by decide)) (Aw hb (by decide));rw [<-Kc] at h; exact h
theorem fJ (l:Um) (i:Nat) (z:Int):(frow (zp l)).set i (fr (z:Rat))=frow (zp (l.set i z)):=by simp [frow,zp,Vs]
theorem Ql2 {p:Um} {i:Nat} (h:i<p.length):(zp p)[i]? = some ((p.getD i 0:Int):Rat):=Qw6 (Ri h)
theorem Sk {p:Um} {i:Nat} (h:i<p.length):(frow (zp p))[i]? = some (fr ((p.getD i 0:Int):Rat)):=XH (Ql2 h)
theorem OA (p:Um):(frow (zp p)).length=p.length:=by rw [Cm,A5]
abbrev zR:Ur:=[.nils,.bool false,.nils,.bool false]
theorem jM {n i:Nat} (h:i<n):(List.replicate i (fr 0)++List.replicate (n-i) zR).set i (fr 0)=List.replicate (i+1) (fr 0)++List.replicate (n-(i+1)) zR:=by
 rw [List.set_append_right _ _ (by simp),Jd,Ki,show n-i=n-(i+1)+1 by omega,J4 (n:=n-(i+1)),List.set_cons_zero,List.replicate_succ' (n:=i),Zd]; rfl
theorem AT (n:Nat):List.replicate n (fr 0)++List.replicate (n-n) zR=frow (zp (List.replicate n 0)):=by simp [zp,frow]
theorem Qt9 {p q:Um} {s t:Nat} (hlp:p.length<=1000000) (hlq:q.length<=1000000) (hp:Bd s p) (hq:Bd t q) (hst:s+t<=19000000):Uj 260 [.one (rp (zp p)),.one (rp (zp q))] [.one (rp (zp (Gk p q)))]:=by
 have hpl:=OA p;have hql:=OA q;rcases Q3 p.length with h0 | h0
 ·have e:Gk p q=[]:=by unfold Gk; rw [if_pos (.inl h0)]
  rw [e];exact Ug func260 rfl [.g 12 true Ul,.t rfl] rfl
 rcases Q3 q.length with h1 | h1
 ·have e:Gk p q=[]:=by unfold Gk; rw [if_pos (.inr h1)]
  rw [e];exact Ug func260 rfl [.g 12 false Uk,.T] rfl
 have e:Gk p q=trim (Au p q (List.replicate (p.length+q.length-1) 0) p.length):=by unfold Gk; rw [if_neg (by omega)]
 rw [e];obtain ⟨N,hN⟩:=nmE (p.length+q.length-1);rw [<-hN];obtain ⟨o,ho⟩:=nmE (List.replicate N (0:Int));rw [<-ho];have hol:o.length=N:=by rw [ho]; simp
 have ho0:∀ m,o.getD m 0=0:=λm=>by rw [ho]; exact Cn N m
 have cc:=KB (p:=zp (Au p q o p.length));rw [Ez] at cc;refine Fv func260 rfl ?_;refine Ue [.g 12 false Uk,.F,.r 22 (eI (b:=(N:Int)) (by omega)),.i N,.i N,.r 25 (eI (b:=(N:Int)) (by simp))] rfl ?_;refine Ui (S:=Nat) 1 (λL1 i=>(26,.v (.oi i))::L1) (λi=>[.row false 99 4 (List.replicate i (fr 0)++List.replicate (N-i) zR)]) (λi=>N-i) (λi=>i<=N) 0 (Qh _) rfl rfl λi hi=>?_
 by_cases hlt:i<N
 ·refine Ue [.T,.k Qfw,.i i] rfl ?_;rw [jM hlt];exact rd (i+1) (by omega) hlt rfl
 have hiN:i=N:=by omega
 rw [hiN,AT,<-ho];clear hiN hlt hi;refine Ud [.F] rfl ?_;refine Ui (S:=Nat) 1 (λL1 i=>(36,.v (.oi i))::L1) (λi=>[.row false 99 4 (frow (zp (Au p q o i)))]) (λi=>p.length-i) (λi=>i<=p.length) 0 (Qh _) rfl rfl λi hi=>?_
 by_cases hlt:i<p.length
 ·refine Ud [.T] rfl ?_;refine Ui (S:=Nat) 1 (λL1 k=>(41,.v (.oi k))::L1) (λk=>[.row false 99 4 (frow (zp (Ol (p.getD i 0) q i (Au p q o i) k)))]) (λk=>q.length-k) (λk=>k<=q.length) 0 (Qh _) rfl rfl λk hk=>?_
  by_cases hk2:k<q.length
  ·have hm1:Fe ((Ol (p.getD i 0) q i (Au p q o i) k).getD (i+k) 0)<=20000000:=Qa (Iw (t:=39) (yF (by rw [Lj]; omega) (yU (λj hj=>by omega) ho0 (λi j=>Ni (Ft hp i) (Ft hq j))) (λj=>Ni (Ft hp i) (Ft hq j)) (i+k)) (Kh (show i+1<549755813888 by omega) (by decide))) (by omega);have hm2:Fe (p.getD i 0*q.getD k 0)<=20000000:=Qa (Ga _ _) (by have:=Ft hp i; have:=Ft hq k; omega);have hml:(Ol (p.getD i 0) q i (Au p q o i) k).length=N:=by rw [Om,Lj,hol]
   have cm:=Qey (a:=p.getD i 0) (b:=q.getD k 0) (Qa (Ft hp i) (by omega)) (Qa (Ft hq k) (by omega));have hfl:=OA (Ol (p.getD i 0) q i (Au p q o i) k);refine go tt [.T,.i (i+k),.x (Sk (p:=Ol (p.getD i 0) q i (Au p q o i) k) (i:=i+k) (by omega)),.x (Sk hlt),.x (Sk hk2),.k cm,.k (Qth hm1 hm2),.i (i+k)] rfl (by simp [U3,hfl,-List.getD_eq_getElem?_getD] <;> omega) ?_;rw [fJ];exact rd (k+1) (by omega) hk2 rfl
  ·obtain rfl:k=q.length:=by omega
   exact go tt [.F] rfl (by simp [U3]; omega) (rd (i+1) (by omega) hlt rfl)
 ·obtain rfl:i=p.length:=by omega
  exact Uf [.F,.k cc] rfl
def uT (p:Um) (n:Nat):Um:=(List.range n).map λk=>p.getD (k+1) 0*((k+1:Nat):Int)
theorem Qg8 (p:Um) (n:Nat):(uT p n).length=n:=by simp [uT]
theorem Qb8 (p:Um) (n:Nat):uT p (n+1)=uT p n++[p.getD (n+1) 0*((n+1:Nat):Int)]:=by simp [uT,Wb]
theorem kW (p:Um) (z:Int):frow (zp (p++[z]))=frow (zp p)++[fr (z:Rat)]:=by simp [frow,zp]
theorem Qf8 {p:Um} (hp:Bd 40000000 p) (hl:p.length<=1000000):Uj 234 [.one (rp (zp p))] [.one (rp (zp (Gx p)))]:=by
 have hpl:=OA p;have cc:=KB (p:=zp (uT p (p.length-1)));rw [Ez] at cc;refine Fv func234 rfl ?_;refine Ud [.o 3 99 4] rfl ?_;refine Ui (S:=Nat) 1 (λL1 j=>(4,.v (.oi ((j+1:Nat):Int)))::(3,.v (.one (.orow 0 4 none)))::L1) (λj=>[.row false 99 4 (frow (zp (uT p j)))]) (λj=>p.length-j) (λj=>j<=p.length-1) 0 (Qh _) rfl rfl λj hj=>?_
 have hfl:=OA (uT p j);rw [Qg8] at hfl;by_cases h:j+1<p.length
 ·have hk:Fe ((j+1:Nat):Int)<=40000000:=Qa (jA (t:=38) (k:=j+1) (Kh (show j+1<274877906944 by omega) (by decide))) (by decide);refine go tt [.T,.x (Sk h),.k (KR (n:=((j+1:Nat):Int)) (by omega)),.k (Qey (Ft hp (j+1)) hk),.s (sz:=4) (Qcy _)] rfl (by simp [U3,hfl,-List.getD_eq_getElem?_getD] <;> omega) ?_;exact rd (j+1) (by omega) (by omega) (by rw [Qb8,kW]; rfl)
 ·have e:j=p.length-1:=by omega
  rw [e];exact Uf [.F,.k cc] rfl
theorem Qqd:[LV.nils,LV.bool false].map FM=ri 0:=by
 show _=[nd 0,sg 0];unfold nd dl;rw [Hx]; rfl
end Orr
namespace Orr
def Hg (p:Um):Int:=p.getD (p.length-1) 0
def EB (a b:Um):Int:=if Hg b<0 then -(Hg a) else Hg a
def WM (a b:Um) (i:Nat):Int:=a.getD i 0*((Hg b).natAbs:Int)-(if a.length-b.length<=i then EB a b*b.getD (i-(a.length-b.length)) 0 else 0)
def tG (a b:Um):Um:=A6 a.length (WM a b)
inductive RRun (b:List Int):Nat->List Int->List Int->Prop
 | stop {a:List Int}:a.length<b.length->RRun b 0 a a
 | step {k:Nat} {a r:List Int}:b.length<=a.length->a.length<=1000->Bd 9000000 a->Bd 9000000 b->RRun b k (tG a b) r->RRun b (k+1) a r
def I6 (p:Um):Nat->Nat
 | 0=>0
 | i+1=>Int.gcd (I6 p i:Nat) (p.getD i 0)
def UM (p:Um):Nat:=I6 p p.length
theorem HA (p:Um):∀ {i j:Nat},j<i->((I6 p i:Nat):Int)∣p.getD j 0
 | 0,_,h=>absurd h (Nat.not_lt_zero _)
 |
  i+1,j,h=>by
  simp only [I6];rcases Zb j i with h1 | h1
  ·exact V5 (Int.gcd_dvd_left ..) (HA p h1)
  ·rw [show j=i by omega]; exact Wv ..
theorem uQ (p:Um) (j:Nat):((UM p:Nat):Int)∣p.getD j 0:=by
 rcases Zb j p.length with h | h
 ·exact HA p h
 ·rw [Qi,Qw h]; exact Int.dvd_zero _
theorem XX {s:Nat} {p:Um} (h:Bd s p):∀ i,Fe ((I6 p i:Nat):Int)<=s
 | 0=>by simp [I6,Nf]
 |
  i+1=>by
  simp only [I6];by_cases h0:p.getD i 0=0
  ·rw [h0,Int.gcd_zero_right]; exact XX h i
  ·have h1:=Wv (I6 p i:Nat) (p.getD i 0);have h2:(Int.gcd (I6 p i:Nat) (p.getD i 0))<=(p.getD i 0).natAbs:=Kv (by omega) (by simpa using X3.2 h1);have h3:=Ft h i;rw [Sw] at h3 ⊢;simp only [Xh];omega
theorem Qbz {p:Um} {j i:Nat} (hj:j<i) (h:p.getD j 0≠0):0<I6 p i:=by
 have:=HA p hj;rcases Q3 (I6 p i) with h0 | h0
 ·rw [h0] at this;exact absurd (Int.zero_dvd.1 this) h
 ·exact h0
theorem uZ {p:Um} (ht:Ff p) (h:0<p.length):0<UM p:=Qbz (j:=p.length-1) (by omega) (H8 ht h)
def Eg (p:Um):Int:=if Hg p<0 then -((UM p:Nat):Int) else ((UM p:Nat):Int)
def Tn (p:Um):Um:=A6 p.length λi=>p.getD i 0 / Eg p
def Bn (p:Um):Um:=if Hg p<0 then Ms (Tn p) else Tn p
theorem Qcd (p:Um) (j:Nat):Eg p∣p.getD j 0:=by
 unfold Eg
 split
 ·exact Uc.2 (uQ p j)
 ·exact uQ p j
theorem Qho {p:Um} (ht:Ff p) (h:0<p.length):Eg p≠0:=by
 have:=uZ ht h;unfold Eg
 split <;> omega
theorem OU {s:Nat} {p:Um} (h:Bd s p):Fe (Eg p)<=s:=by
 unfold Eg
 split
 ·rw [Hm]; exact XX h _
 ·exact XX h _
theorem cT {p:Um} {c:Int} (hc:c≠0) (hd:∀ j,c∣p.getD j 0):ZZ (zp p) (1 / (c:Rat))=zp (A6 p.length λi=>p.getD i 0 / c):=by
 unfold ZZ A6;rw [vP (g:=λi=>p.getD i 0 / c) _ λi _=>?_,Ez,A5];obtain ⟨k,hk⟩:=hd i;have hc':(c:Rat)≠0:=λe=>hc (by exact_mod_cast e)
 rw [NN,hk,Jc _ hc,X1];grind
theorem BJ {s:Nat} {p:Um} (h:Bd s p):Bd s (Tn p):=YY λi _=>Qa (XC _ _) (Ft h i)
theorem RD (p:Um):(Tn p).length<=p.length:=Oa _ _
theorem Qaz {s:Nat} {p:Um} (h:Bd s p):Bd s (Bn p):=by
 unfold Bn
 split
 ·exact MJ (BJ h)
 ·exact BJ h
theorem nP (p:Um):(Bn p).length<=p.length:=by
 unfold Bn
 split
 ·exact Qa (XA _) (RD p)
 ·exact RD p
inductive GRun:Nat->List Int->List Int->List Int->Prop
 | stop (a:List Int):GRun 0 a [] a
 | step {k m:Nat} {a b r g:List Int}:0<b.length->b.length<=1000->Bd 9000000 b->RRun b m a r->r.length<=1000->Bd 9000000 r->Ff r->GRun k b (Tn r) g->GRun (k+1) a b g
theorem GRun.inv {k:Nat} {a b g:Um} (h:GRun k a b g):(k=0/\b.length=0/\a=g)\/∃ j m r,k=j+1/\0<b.length/\b.length<=1000/\Bd 9000000 b/\RRun b m a r/\r.length<=1000/\Bd 9000000 r/\Ff r/\GRun j b (Tn r) g:=by
 cases h with
 | stop=>exact .inl ⟨rfl,rfl,rfl⟩
 | step h1 h2 h3 h4 h5 h6 h7 h8=>exact .inr ⟨_,_,_,rfl,h1,h2,h3,h4,h5,h6,h7,h8⟩
def ZX (k:Nat) (p:Um):Um:=List.replicate k 0++p
theorem cD (k:Nat) (p:Um):(ZX k p).length=k+p.length:=by simp [ZX]
theorem Qa0 {s k:Nat} {p:Um} (h:Bd s p):Bd s (ZX k p):=λz hz=>by
 rcases Qr.1 hz with h1 | h1
 ·rw [Zx h1,Nf]; exact Qh _
 ·exact h z h1
inductive DRun (b:List Int):Nat->List Int->List Int->List Int->List Int->Prop
 | stop {a q:List Int}:a.length<b.length->DRun b 0 a q q a
 | step {k:Nat} {a q qf r:List Int}:b.length<=a.length->a.length<=1000->Bd 9000000 a->Hg b≠0->Hg b∣Hg a->a.length-b.length<q.length ->
  DRun b k (M7 a (ZX (a.length-b.length) (Fw b (Hg a / Hg b)))) (q.set (a.length-b.length) (Hg a / Hg b)) qf r->DRun b (k+1) a q qf r
theorem DRun.inv {b a q qf r:Um} {k:Nat} (h:DRun b k a q qf r):(k=0/\q=qf/\a=r/\a.length<b.length)\/∃ j,k=j+1/\b.length<=a.length/\a.length<=1000/\Bd 9000000 a/\Hg b≠0/\Hg b∣Hg a/\a.length-b.length<q.length /\
 DRun b j (M7 a (ZX (a.length-b.length) (Fw b (Hg a / Hg b)))) (q.set (a.length-b.length) (Hg a / Hg b)) qf r:=by
 cases h with
 | stop h=>exact .inl ⟨rfl,rfl,rfl,h⟩
 | step h1 h2 h3 h4 h5 h6 h7=>exact .inr ⟨_,rfl,h1,h2,h3,h4,h5,h6,h7⟩
def M4 (l:Un):Um:=l.getD (l.length-1) []
inductive LRun:Nat->List (List Int)->List (List Int)->Prop
 | stop {l:List (List Int)}:(M4 l).length<=1->LRun 0 l l
 | step {k m:Nat} {l f:List (List Int)} {g:List Int}:1<(M4 l).length->(M4 l).length<=1000->Ff (M4 l)->Bd 9000000 (M4 l)->Bd 9000000 (Gx (M4 l))->GRun m (Tn (M4 l)) (Tn (Gx (M4 l))) g->l.length<=1000->LRun k (l++[g]) f->LRun (k+1) l f
theorem LRun.inv {k:Nat} {l f:Un} (h:LRun k l f):(k=0/\l=f/\(M4 l).length<=1)\/∃ j m g,k=j+1/\1<(M4 l).length/\(M4 l).length<=1000/\Ff (M4 l)/\Bd 9000000 (M4 l)/\Bd 9000000 (Gx (M4 l))/\GRun m (Tn (M4 l)) (Tn (Gx (M4 l))) g/\l.length<=1000/\LRun j (l++[g]) f:=by
 cases h with
 | stop h=>exact .inl ⟨rfl,rfl,h⟩
 | step h1 h2 h3 h4 h5 h6 h7 h8=>exact .inr ⟨_,_,_,rfl,h1,h2,h3,h4,h5,h6,h7,h8⟩
def DOk (a b q:Um):Prop:=0<b.length/\b.length<=1000/\a.length<=1000/\Bd 9000000 b/\∃ qf r n,Bd 9000000 qf/\qf.length<=1000/\DRun b n a (List.replicate (a.length+1-b.length) 0) qf r/\q=trim qf
theorem DOk.bd {a b q:Um} (h:DOk a b q):Bd 9000000 q:=by
 obtain ⟨_,_,_,_,qf,r,n,h1,_,_,rfl⟩:=h;exact Tw h1
theorem DOk.len {a b q:Um} (h:DOk a b q):q.length<=1000:=by
 obtain ⟨_,_,_,_,qf,r,n,_,h1,_,rfl⟩:=h;exact Qa (H7 _) h1
theorem DOk.trim {a b q:Um} (h:DOk a b q):Ff q:=by
 obtain ⟨_,_,_,_,qf,r,n,_,_,_,rfl⟩:=h;exact Rq _
def Qxd (a b c f:Um):Prop:=∃ x y z,DOk a b x/\DOk b c y/\DOk (Tn x) (Tn y) z/\f=Tn z
structure FRun (a:List Int) (m:Nat) (f:Nat->List Int):Prop where
 run:∃ n l,LRun n [Tn a] l/\l.length=m+1/\∀ k,k<m->Qxd ((l++[[1]]).getD k []) ((l++[[1]]).getD (k+1) []) ((l++[[1]]).getD (k+2) []) (f k)
 small:m<=1000
def AQ (f:Nat->Um) (n:Nat):Un:=(List.range n).map f
theorem sJ (f:Nat->Um) (n:Nat):(AQ f n).length=n:=by simp [AQ]
theorem Qdj (f:Nat->Um) (n:Nat):AQ f (n+1)=AQ f n++[f n]:=by simp [AQ,Wb]
theorem Qld {f:Nat->Um} {n i:Nat} (h:i<n):(AQ f n)[i]? = some (f i):=by simp [AQ,X2 h]
theorem nK {l:Un} {i:Nat} (h:i<l.length):l[i]? = some (l.getD i []):=by
 rw [Qi,Qe h]; rfl
def Oz (f:Nat->Um):Nat->Um
 | 0=>[1]
 | i+1=>Gk (Oz f i) (f i)
def Qxc (m:Nat) (f:Nat->Um):Prop:=∀ i,i<m->Bd 9000000 (Oz f i)/\(Oz f i).length<=1000/\Bd 9000000 (f i)/\(f i).length<=1000
inductive CRun:Nat->List (List Int)->List Int->List (List Int)->Prop
 | stop {l:List (List Int)} {g:List Int}:g.length=0->CRun 0 l g l
 | step {k m:Nat} {l f:List (List Int)} {g r:List Int}:0<g.length->g.length<=1000->Bd 9000000 g->RRun g m (M4 l) r->Ff r->Bd 9000000 r->r.length<=1000->0<l.length->l.length<=1000->CRun k (l++[g]) (Ms (Bn r)) f->CRun (k+1) l g f
theorem CRun.inv {k:Nat} {l f:Un} {g:Um} (h:CRun k l g f):(k=0/\l=f/\g.length=0)\/∃ j m r,k=j+1/\0<g.length/\g.length<=1000/\Bd 9000000 g/\RRun g m (M4 l) r/\Ff r/\Bd 9000000 r/\r.length<=1000/\0<l.length/\l.length<=1000/\CRun j (l++[g]) (Ms (Bn r)) f:=by
 cases h with
 | stop h=>exact .inl ⟨rfl,rfl,h⟩
 | step h1 h2 h3 h4 h5 h6 h7 h8 h9 h10=>exact .inr ⟨_,_,_,rfl,h1,h2,h3,h4,h5,h6,h7,h8,h9,h10⟩
structure ChRun (a:List Int) (sq:List Int) (c:List (List Int)):Prop where
 fac:∃ m f,FRun a m f/\Qxc m f/\sq=Oz f m
 Ee:∃ n,CRun n [sq] (Bn (Gx sq)) c
 bd:Bd 8000000 sq
 len:sq.length<=1000
 small:c.length<=1000
def Qd1 (q:Rat) (c:Un):Prop:=∃ sq,ChRun [-q.num,(q.den:Int)] sq c
end Orr
namespace Orr
open Go Go.Proofs Tryz
set_option maxRecDepth 10000
theorem RRun.inv {b a r:Um} {k:Nat} (h:RRun b k a r):(k=0/\a=r/\a.length<b.length)\/(∃ j,k=j+1/\b.length<=a.length/\a.length<=1000/\Bd 9000000 a/\Bd 9000000 b/\RRun b j (tG a b) r):=by
 cases h with
 | stop h=>exact .inl ⟨rfl,rfl,h⟩
 | step h1 h2 h3 h4 h5=>exact .inr ⟨_,rfl,h1,h2,h3,h4,h5⟩
theorem Qqi {a b:Um} (ha:Bd 9000000 a):Fe (EB a b)<=9000000:=by
 unfold EB; split
 ·rw [Hm]; exact Ft ha _
 ·exact Ft ha _
theorem Qqc (n:Nat):ri (n:Int)=[nd n,.bool false]:=by
 show [nd n,sg (n:Int)]=_;unfold sg;rw [decide_eq_false (by omega)]
def vG (a b:Um) (n:Nat):Um:=(List.range n).map (WM a b)
theorem Qkl (a b:Um) (n:Nat):(vG a b n).length=n:=by simp [vG]
theorem zS (a b:Um) (n:Nat):vG a b (n+1)=vG a b n++[WM a b n]:=by simp [vG,Wb]
theorem lC {a0 b res:Um} {n:Nat} (hb0:0<b.length) (hb1:b.length<=1000) (hbb0:Bd 9000000 b) (hrun:RRun b n a0 res):Uj 236 [.one (rp (zp a0)),.one (rp (zp b))] [.one (rp (zp res))]:=by
 have hbl:=OA b;have hle:Fe (((Hg b).natAbs:Nat):Int)<=9000000:=Ft hbb0 _;refine Fv func236 rfl ?_;refine Ue [.r 15 (eI (b:=((b.length-1:Nat):Int)) (by omega)),.x (Sk (p:=b) (i:=b.length-1) (by omega))] rfl ?_;refine sb [(0,.v (.one (rp (zp a0)))),(1,.v (.one (rp (zp b)))),(5,.v (.one (.ow 0 0))),(6,.v (.one (.ow 1 0)))] [.blk 97 (ri (Hg b)),.blk 97 [nd (Hg b).natAbs,.bool false]] rfl rfl ?_;refine Ui (S:=Nat×Um) 2 (λL1 s=>(0,.v (.one (rp (zp s.2))))::L1) (λ_=>[.blk 97 (ri (Hg b)),.blk 97 [nd (Hg b).natAbs,.bool false]]) (λs=>s.1) (λs=>RRun b s.1 s.2 res) (n,a0) hrun rfl rfl λ⟨k,a⟩ hs=>?_
 have hal:=OA a;have hs:RRun b k a res:=hs;rcases RRun.inv hs with ⟨rfl,rfl,h1⟩ | ⟨j,rfl,h1,h2,ha,hb,hr⟩
 ·exact Uf [.f (decide_eq_false (by dsimp only; omega))] rfl
 obtain ⟨K,hK⟩:=nmE (a.length-b.length);have htb:=Qqi (b:=b) ha;have cc:=KB (p:=zp (vG a b a.length));rw [Ez,show trim (vG a b a.length)=tG a b from rfl] at cc;refine Ue [.t (decide_eq_true (by dsimp only; omega)),.r 30 (eI (b:=(K:Int)) (by dsimp only; omega)),.r 34 (eI (b:=((a.length-1:Nat):Int)) (by dsimp only; omega)),.x (Sk (p:=a) (i:=a.length-1) (by omega))] rfl ?_;refine ct 1 (S:=Unit) (λ_=>[(0,.v (.one (rp (zp a)))),(1,.v (.one (rp (zp b)))),(5,.v (.one (.ow 0 0))),(6,.v (.one (.ow 1 0))),(7,.v (.oi K)),(8,.v (.one (.ow 2 0)))]) (λ_=>[.blk 97 (ri (Hg b)),.blk 97 [nd (Hg b).natAbs,.bool false],.blk 97 (ri (EB a b))]) (λ_=>True) rfl ?_ (λ_ _=>?_)
 ·by_cases hn:Hg b<0
  ·have e:EB a b=-(Hg a):=if_pos hn;rw [e];exact go tt [.t (decide_eq_true hn),.k (QU (z:=Hg a))] rfl trivial (rc () trivial rfl)
  ·have e:EB a b=Hg a:=if_neg hn;rw [e];exact go tt [.f (decide_eq_false hn)] rfl trivial (rc () trivial rfl)
 refine Ud [.o 9 99 4] rfl ?_;refine Ui (S:=Nat) 4 (λL1 i=>(44,.v (.oi i))::(9,.v (.one (.orow 3 4 none)))::L1) (λi=>[.blk 97 (ri (Hg b)),.blk 97 [nd (Hg b).natAbs,.bool false],.blk 97 (ri (EB a b)),.row false 99 4 (frow (zp (vG a b i)))]) (λi=>a.length-i) (λi=>i<=a.length) 0 (Qh _) rfl rfl λi hi=>?_
 have hfl:=OA (vG a b i);rw [Qkl] at hfl;by_cases h:i<a.length
 ·have cm:=Af (a:=a.getD i 0) (b:=(((Hg b).natAbs:Nat):Int)) (Qa (Ft ha i) (by decide)) (by omega);have hm:=Ga (a.getD i 0) (((Hg b).natAbs:Nat):Int);have hai:=Ft ha i;rw [Qqc (Hg b).natAbs] at cm;by_cases hk:K<=i
  ·have hbi:=Ft hb (i-K);have hm2:=Ga (EB a b) (b.getD (i-K) 0);have e:WM a b i=a.getD i 0*(((Hg b).natAbs:Nat):Int)-EB a b*b.getD (i-K) 0:=by unfold WM; rw [if_pos (by omega),hK]
   refine go tt [.T,.x (Sk h),.k cm,.T,.r 62 (eI (b:=((i-K:Nat):Int)) (by omega)),.x (Sk (p:=b) (i:=i-K) (by omega)),.k (Af (a:=EB a b) (b:=b.getD (i-K) 0) (by omega) (by omega)),.k (Qfx (by omega) (by omega)),.k (XQ (n:=1) (by decide)),.k (Ae (n:=a.getD i 0*(((Hg b).natAbs:Nat):Int)-EB a b*b.getD (i-K) 0)),.s (sz:=4) (Qcy _)] rfl (by simp [U3,hfl,-List.getD_eq_getElem?_getD] <;> omega) ?_;exact rd (i+1) (by omega) h (by rw [zS,kW,e]; rfl)
  ·have e:WM a b i=a.getD i 0*(((Hg b).natAbs:Nat):Int):=by unfold WM; rw [if_neg (by omega),Int.sub_zero]
   refine go tt [.T,.x (Sk h),.k cm,.F,.k (XQ (n:=1) (by decide)),.k (Ae (n:=a.getD i 0*(((Hg b).natAbs:Nat):Int))),.s (sz:=4) (Qcy _)] rfl (by simp [U3,hfl,-List.getD_eq_getElem?_getD] <;> omega) ?_;exact rd (i+1) (by omega) h (by rw [zS,kW,e]; rfl)
 ·have e:i=a.length:=by omega
  rw [e];exact go tt [.F,.k cc] rfl trivial (rd (j,tG a b) (by omega) hr rfl)
theorem Qt6:Uj 91 [.agg (ri 1),.agg (ri 1)] [.agg (ri 1)]:=Af (a:=1) (b:=1) (by decide) (by decide)
theorem Qnv:Uj 130 [.agg (ri 1),.agg (ri 1)] [.agg (ri 1)]:=xO (a:=1) (b:=1) (by decide) (by decide)
theorem Qm9 {z:Int} (hz:Fe z<=90000000):Uj 91 [.agg (ri z),.agg (ri 1)] [.agg (ri z)]:=by
 have h:=Af (a:=z) (b:=1) (by omega) (by decide);rwa [Ub] at h
theorem lF {z:Int} (hz:Fe z<=90000000):Uj 131 [.agg (ri z),.agg (ri 1)] [.agg (ri z)]:=by
 have h:=BL (a:=z) (b:=1) hz (by decide) (by decide) (Int.emod_one z);rwa [Int.ediv_one] at h
theorem Qez {z:Int}:Uj 195 [.agg (fr (z:Rat))] [.agg (fr ((-z:Int):Rat))]:=by
 have h:=Qtt (a:=(z:Rat));rwa [<-Vm] at h
theorem Qv1 {c:Int} (hc:c≠0) (hs:Fe c<=9000000):Qs 40000000 (((1:Int):Rat) / (c:Rat)):=by
 have h0:(c:Rat)≠0:=λe=>hc (by exact_mod_cast e)
 rw [<-zY h0];unfold Gh;rw [if_neg (Jf (Dm _) (λe=>hc (by simpa using e)))];refine Qs.divInt (by show Fe (1*1)<=_; decide) ?_ (by decide);show Fe (1*c)<=_;rw [Kq]; omega
theorem mZ {p:Um} {c:Int} (hc:c≠0) (hs:Fe c<=9000000) (hd:∀ j,c∣p.getD j 0) (hp:Bd 9000000 p) (hl:p.length<=1000):Uj 264 [.one (rp (zp p)),.agg (fr (((1:Int):Rat) / (c:Rat)))] [.one (rp (zp (A6 p.length λi=>p.getD i 0 / c)))]:=by
 have h:=BI ((zW hp (by omega)).mono (by omega)) (Qv1 hc hs) (by rw [A5]; omega);rwa [show ((1:Int):Rat)=1 from rfl,cT hc hd] at h
theorem QG {p:Um} (tp:Ff p) (hp:Bd 9000000 p) (hl:p.length<=1000):Uj 261 [.one (rp (zp p))] [.agg (fr ((Eg p:Int):Rat)),.one (rp (zp (Tn p)))]:=by
 have hpl:=OA p;rcases Q3 p.length with h0 | h0
 ·have e:=Qj h0;subst e;exact Ug func261 rfl [.t rfl,.k Qfw] rfl
 have hc:=Qho tp h0;refine Fv func261 rfl ?_;refine Ud [.F,.k (XQ (n:=1) (by decide))] rfl ?_;refine Ui (S:=Nat) 2 (λL1 i=>(16,.v (.oi i))::L1) (λi=>[.blk 99 [.nils,.bool false,.nils,.bool false],.blk 97 (ri 1)]) (λi=>p.length-i) (λi=>i<=p.length) 0 (Qh _) rfl rfl λi hi=>?_
 by_cases h:i<p.length
 ·refine Ue [.T,.x (Sk h),.k Qt6,.x (Sk h),.k Qnv,.k (lF (z:=1) (by decide))] rfl ?_;exact rd (i+1) (by omega) h rfl
 refine Ud [.F] rfl ?_;clear h hi;refine nlb 2 rfl rfl rfl ?_;rw [Qqd];refine Ui (S:=Nat) 3 (λL1 i=>(37,.v (.oi i))::L1) (λi=>[.blk 99 [.nils,.bool false,.nils,.bool false],.blk 97 (ri 1),.blk 97 (ri ((I6 p i:Nat):Int))]) (λi=>p.length-i) (λi=>i<=p.length) 0 (Qh _) rfl rfl λi hi=>?_
 by_cases h:i<p.length
 ·have hb:=Ft hp i;have hg:=XX hp i;refine Ue [.T,.x (Sk h),.k (Qm9 (z:=p.getD i 0) (by omega)),.x (Sk h),.k (lF (z:=p.getD i 0) (by omega)),.k (xO (a:=((I6 p i:Nat):Int)) (b:=p.getD i 0) (by omega) (by omega))] rfl ?_;exact rd (i+1) (by omega) h rfl
 have e:i=p.length:=by omega
 rw [e];have co:=KR (n:=1) (by decide);have cs:=mZ hc (OU hp) (Qcd p) hp hl;by_cases hn:Hg p<0
 ·have e2:Eg p=-((UM p:Nat):Int):=if_pos hn;rw [show (λi=>p.getD i 0 / Eg p)=λi=>p.getD i 0 / Eg p from rfl] at cs;have cn:=Qez (z:=((UM p:Nat):Int));rw [<-e2] at cn;exact Uf [.F,.k (Ae (n:=((UM p:Nat):Int))),.r 62 (eI (b:=((p.length-1:Nat):Int)) (by omega)),.x (Sk (p:=p) (i:=p.length-1) (by omega)),.t (decide_eq_true hn),.k cn,.k co,.k (mQ (a:=((1:Int):Rat)) (b:=((Eg p:Int):Rat)) ⟨by decide,by decide⟩ (Aw (by have:=OU hp; omega) (by decide)) (λe=>hc (by exact_mod_cast e))),.k cs] rfl rfl (by simp [U3]; omega)
 ·have e2:Eg p=((UM p:Nat):Int):=if_neg hn;have cm:=Ae (n:=Eg p);rw [e2] at cm cs hc ⊢;exact Uf [.F,.k cm,.r 62 (eI (b:=((p.length-1:Nat):Int)) (by omega)),.x (Sk (p:=p) (i:=p.length-1) (by omega)),.f (decide_eq_false hn),.k co,.k (mQ (a:=((1:Int):Rat)) (b:=((((UM p:Nat):Int):Int):Rat)) ⟨by decide,by decide⟩ (Aw (by have:=XX hp p.length; unfold UM; omega) (by decide)) (λe=>hc (by exact_mod_cast e))),.k cs] rfl (by unfold Tn; rw [e2]; rfl) (by simp [U3]; omega)
theorem QF {p:Um} (tp:Ff p) (hp:Bd 9000000 p) (hl:p.length<=1000):Uj 279 [.one (rp (zp p))] [.one (rp (zp (Tn p)))] :=
 Ug func279 rfl [.k (QG tp hp hl)] rfl
theorem OF {p:Um} (tp:Ff p):Eg p<0↔Hg p<0:=by
 unfold Eg;rcases Q3 p.length with h0 | h0
 ·have:=Qj h0; subst this; decide
 ·have:=uZ tp h0
  split <;> omega
theorem Qf5 {p:Um} (hp:Bd 9000000 p) (hl:p.length<=1000000):Uj 235 [.one (rp (zp p))] [.one (rp (zp (Ms p)))]:=by
 have h:=Qf9 ((zW hp (by decide)).mono (by decide)) (by rw [A5]; exact hl);rwa [oI] at h
theorem wB {p:Um} (tp:Ff p) (hp:Bd 9000000 p) (hl:p.length<=1000):Uj 233 [.one (rp (zp p))] [.one (rp (zp (Bn p)))]:=by
 by_cases hn:Hg p<0
 ·have e:Bn p=Ms (Tn p):=if_pos hn;rw [e];exact Ug func233 rfl [.k (QG tp hp hl),.t (decide_eq_true ((OF tp).2 hn)),.k (Qf5 (BJ hp) (Qa (RD p) (by omega)))] rfl
 ·have e:Bn p=Tn p:=if_neg hn;rw [e];exact Ug func233 rfl [.k (QG tp hp hl),.f (decide_eq_false λh=>hn ((OF tp).1 h))] rfl
end Orr
namespace Orr
section
variable {x d:Int} (hd:0<d) (hg:Int.gcd x d=1) (hx:Fe x<=2000000) (hs:Fe d<=2000000)
include hd in
include hd in
include hd in
include hd hx hs in
include hd hx hs in
include hd hx hs in
include hd hg hx hs in
include hd hg hx hs in
end
end Orr
namespace Orr
open Go Go.Proofs Tryz
set_option maxRecDepth 10000
theorem Qt8 {a b g:Um} {n:Nat} (ta:Ff a) (tb:Ff b) (ha:Bd 9000000 a) (hb:Bd 9000000 b) (la:a.length<=1000) (lb:b.length<=1000) (hrun:GRun n (Tn a) (Tn b) g):Uj 280 [.one (rp (zp a)),.one (rp (zp b))] [.one (rp (zp g))]:=by
 refine Fv func280 rfl ?_;refine Ud [.k (QF ta ha la),.k (QF tb hb lb)] rfl ?_;refine sb [(0,.v (.one (rp (zp (Tn a))))),(1,.v (.one (rp (zp (Tn b)))))] [] rfl rfl ?_;refine Ui (S:=Nat×Um×Um) 0 (λL1 s=>(0,.v (.one (rp (zp s.2.1))))::(1,.v (.one (rp (zp s.2.2))))::L1) (λ_=>[]) (λs=>s.1) (λs=>GRun s.1 s.2.1 s.2.2 g) (n,Tn a,Tn b) hrun rfl rfl λ⟨k,x,y⟩ hs=>?_
 have hs:GRun k x y g:=hs;have hyl:=OA y;rcases hs.inv with ⟨hk,hy0,hxg⟩ | ⟨j,m2,r,hk,hy0,hy1,hyb,hrr,hrl,hrb,hrt,hgr⟩
 ·rw [<-hxg];exact Uf [.f (decide_eq_false (by dsimp only; omega))] rfl
 ·subst hk;refine Ud [.t (decide_eq_true (by dsimp only; omega)),.k (lC (a0:=x) (b:=y) (res:=r) hy0 hy1 hyb hrr),.k (QF (p:=r) hrt hrb hrl)] rfl ?_;exact rd (j,y,Tn r) (by dsimp only; omega) hgr rfl
theorem Qnc {x y:Int} (hx:Fe x<=9000000) (hy:Fe y<=9000000) (h0:y≠0) (hd:y∣x):Uj 283 [.agg (fr (x:Rat)),.agg (fr (y:Rat))] [.agg (fr ((x / y:Int):Rat))]:=by
 have hy0:(y:Rat)≠0:=λe=>h0 (by exact_mod_cast e)
 have h:=mQ (Aw (s:=40000000) (z:=x) (by omega) (by omega)) (Aw (s:=40000000) (z:=y) (by omega) (by omega)) hy0;obtain ⟨k,rfl⟩:=hd;rw [Jc _ h0];rwa [show (((y*k:Int):Rat)) / (y:Rat)=(k:Rat) by rw [X1]; grind] at h
theorem Qbu {p:Um} {c:Int} (hp:Bd 40000000 p) (hc:Fe c<=40000000) (hl:p.length<=1000000):Uj 264 [.one (rp (zp p)),.agg (fr (c:Rat))] [.one (rp (zp (Fw p c)))]:=by
 have h:=BI (zW hp (by omega)) (Aw hc (by omega)) (by rw [A5]; exact hl);rwa [zH] at h
theorem Qqu (k:Nat) (p:Um):frow (zp (List.replicate k 0))++frow (zp p)=frow (zp (ZX k p)):=by simp [zp,ZX,frow]
theorem Qcg (l:Um) (i:Nat) (z:Int):(frow (zp l)).set i [nd ((z:Rat)).num.natAbs,sg ((z:Rat)).num,nd (((z:Rat)).den:Int).natAbs,sg (((z:Rat)).den:Int)]=frow (zp (l.set i z)):=fJ l i z
theorem Qn4 {p q:Um} (hp:Bd 18000000 p) (hq:Bd 18000000 q) (hlp:p.length<=1000000) (hlq:q.length<=1000000):U6 prog 197 [.one (rp (zp p)),.one (.orow 0 4 none)] [.row false 99 4 (frow (zp q))] [.one (rp (zp (M7 p q)))] [.gone]:=by
 have hn:=Qf9 ((zW hq (by decide)).mono (by decide)) (by rw [A5]; exact hlq);have ha:=Qt7 (p:=zp p) (q:=vU (zp q)) ((zW hp (by decide)).mono (by decide)) ((Qv3 (zW hq (by decide))).mono (by decide)) (by rw [A5]; exact hlp) (Qa (Qke _) (by rw [A5]; exact hlq));have e:Qc8 (zp p) (vU (zp q))=zp (M7 p q):=Qqh p q;rw [e] at ha;refine Fv func197 rfl ?_;exact Uh [] [0] [.k hn,.k ha] rfl
theorem Qbv {a0 b qf rem:Um} {n:Nat} (hb0:0<b.length) (hb1:b.length<=1000) (hl0:a0.length<=1000) (hbb:Bd 9000000 b) (hqb:Bd 9000000 qf) (hrun:DRun b n a0 (List.replicate (a0.length+1-b.length) 0) qf rem):Uj 281 [.one (rp (zp a0)),.one (rp (zp b))] [.one (rp (zp (trim qf))),.one (rp (zp rem))]:=by
 have h0l:=OA a0;have hbl:=OA b;obtain ⟨N,hN⟩:=nmE (a0.length+1-b.length);rw [<-hN] at hrun;have cc:=KB (p:=zp qf);rw [Ez] at cc;refine Fv func281 rfl ?_;refine Ue [.r 18 (eI (b:=(N:Int)) (by omega)),.i N,.i N,.r 21 (eI (b:=(N:Int)) (by simp))] rfl ?_;refine Ui (S:=Nat) 1 (λL1 i=>(22,.v (.oi i))::L1) (λi=>[.row false 99 4 (List.replicate i (fr 0)++List.replicate (N-i) zR)]) (λi=>N-i) (λi=>i<=N) 0 (Qh _) rfl rfl λi hi=>?_
 by_cases hlt:i<N
 ·refine Ue [.T,.k Qfw,.i i] rfl ?_;rw [jM hlt];exact rd (i+1) (by omega) hlt rfl
 have hiN:i=N:=by omega
 rw [hiN,AT];clear hiN hlt hi;refine Ud [.F] rfl ?_;refine sb [(0,.v (.one (rp (zp a0)))),(1,.v (.one (rp (zp b)))),(6,.v (.one (.orow 0 4 none)))] [.row false 99 4 (frow (zp (List.replicate N 0)))] rfl rfl ?_;refine Ui (S:=Nat×Um×Um) 1 (λL1 s=>(0,.v (.one (rp (zp s.2.1))))::L1) (λs=>[.row false 99 4 (frow (zp s.2.2))]) (λs=>s.1) (λs=>DRun b s.1 s.2.1 s.2.2 qf rem/\s.2.2.length=N) (n,a0,List.replicate N 0) ⟨hrun,Jd⟩ rfl rfl λ⟨k,a,q⟩ ⟨hr0,hr1⟩=>?_
 have hr0:DRun b k a q qf rem:=hr0;have hr1:q.length=N:=hr1;have hal:=OA a;have hql:=OA q;rcases hr0.inv with ⟨hk,hqf,har,hlt⟩ | ⟨j,hk,hba,hal2,hab,hpb,hpd,hkq,hrj⟩
 ·subst hqf; subst har;exact Uf [.f (decide_eq_false (by dsimp only; omega)),.k cc] rfl
 subst hk;obtain ⟨K,hK⟩:=nmE (a.length-b.length);rw [<-hK] at hrj hkq;have hla:Fe (Hg a)<=9000000:=Ft hab _;have hlb:Fe (Hg b)<=9000000:=Ft hbb _;obtain ⟨c,hc⟩:=nmE (Hg a / Hg b);have cq:=Qnc hla hlb hpb hpd;have hcs:Fe (Hg a / Hg b)<=9000000:=Qa (XC _ _) hla;rw [<-hc] at cq hcs hrj;have hsl:=Fx b c;have hqs:∀ x,(q.set K x).length=N:=λx=>by rw [Xd]; exact hr1
 dsimp only;refine go tt [.T,.r 39 (eI (b:=(K:Int)) (by omega)),.r 43 (eI (b:=((a.length-1:Nat):Int)) (by omega)),.x (Sk (p:=a) (i:=a.length-1) (by omega)),.r 49 (eI (b:=((b.length-1:Nat):Int)) (by omega)),.x (Sk (p:=b) (i:=b.length-1) (by omega)),.k cq,.i K,.i K,.i K,.r 60 (eI (b:=(K:Int)) (by simp))] rfl (by simp [U3,hql] <;> omega) ?_;rw [Qcg];refine Ui (S:=Nat) 3 (λL1 i=>(61,.v (.oi i))::L1) (λi=>[.row false 99 4 (frow (zp (q.set K c))),.blk 99 (fr (c:Rat)),.row false 99 4 (List.replicate i (fr 0)++List.replicate (K-i) zR)]) (λi=>K-i) (λi=>i<=K) 0 (Qh _) rfl rfl λi hi=>?_
 by_cases hlt:i<K
 ·refine Ue [.T,.k Qfw,.i i] rfl ?_;rw [jM hlt];exact rd (i+1) (by omega) hlt rfl
 have hiK:i=K:=by omega
 rw [hiK,AT];clear hiK hlt hi;have hzl:=OA (List.replicate K 0);rw [Jd] at hzl;have hpl:=OA (Fw b c);refine Ud [.F] rfl ?_;refine sb [(10,.v (.one (.orow 2 4 none))),(9,.v (.one (.ow 1 0))),(0,.v (.one (rp (zp a)))),(1,.v (.one (rp (zp b)))),(6,.v (.one (.orow 0 4 none)))] [.row false 99 4 (frow (zp (q.set K c))),.blk 99 (fr (c:Rat)),.row false 99 4 (frow (zp (List.replicate K 0)))] rfl rfl ?_;have p2:=Qn4 (p:=a) (q:=ZX K (Fw b c)) (U5 hab (by decide)) (U5 (Qa0 (Ge hbb hcs)) (by decide)) (by omega) (by rw [cD]; omega);rw [<-Qqu] at p2;refine go tt [.k (Qbu (c:=c) (U5 hbb (by decide)) (by omega) (by omega)),.s (sz:=4) (Qcf (zp (Fw b c))),.c [2] p2] rfl (by simp [U3,hzl,hpl]; omega) ?_;exact rd (j,M7 a (ZX K (Fw b c)),q.set K c) (by dsimp only; omega) ⟨hrj,hqs c⟩ rfl
def sD (l:Un):Us:=l.map λp=>[rp (zp p)]
theorem VP (l:Un):(sD l).length=l.length:=by simp [sD]
theorem HJ (l:Un) (g:Um):sD l++[[rp (zp g)]]=sD (l++[g]):=by simp [sD]
theorem VS {l:Un} {i:Nat} (h:i<l.length):(sD l)[i]? = some [rp (zp (l.getD i []))]:=G5 (nK h)
theorem Qpn (x:LV):∀ c∈[[x]],c.length=1:=λc hc=>by rw [Qk.1 hc]; rfl
theorem BA {a b q:Um} (h:DOk a b q):∃ r,Uj 281 [.one (rp (zp a)),.one (rp (zp b))] [.one (rp (zp q)),.one (rp (zp r))]:=by
 obtain ⟨h1,h2,h3,h4,qf,r,n,h5,h6,h7,rfl⟩:=h;exact ⟨r,Qbv h1 h2 h3 h4 h5 h7⟩
theorem mU {a:Um} {mf:Nat} {f:Nat->Um} (ta:Ff a) (ha:Bd 9000000 a) (la:a.length<=1000) (h2:2<=a.length) (hF:FRun a mf f):Uj 259 [.one (rp (zp a))] [.one (.row (sD (AQ f mf)))]:=by
 obtain ⟨⟨n,ls,hrun,hlen,hq⟩,hms⟩:=hF;have hal:=OA a;refine Fv func259 rfl ?_;refine Ud [.F,.k (QF ta ha la),.o 3 183 1,.lo] rfl ?_;refine sb [(3,.v (.one (.orow 0 1 none))),(4,.v (.one (.orow 1 1 none)))] [.row false 183 1 [],.row false 183 1 (sD [Tn a])] rfl rfl ?_;refine Ui (S:=Nat×Un) 2 (λL1 s=>(4,.v (.one (.orow 1 1 none)))::L1) (λs=>[.row false 183 1 [],.row false 183 1 (sD s.2)]) (λs=>s.1) (λs=>LRun s.1 s.2 ls/\0<s.2.length/\s.2.length<=1001) (n,[Tn a]) ⟨hrun,by show 0<1; decide,by show 1<=1001; decide⟩ rfl rfl λ⟨k,l⟩ ⟨hs1,hs2,hs3⟩=>?_
 have hs1:LRun k l ls:=hs1;have hs2:0<l.length:=hs2;have hs3:l.length<=1001:=hs3;have hll:=VP l;have hlast:(sD l)[l.length-1]? = some [rp (zp (M4 l))]:=VS (by omega);have hpl:=OA (M4 l);dsimp only;rcases hs1.inv with ⟨hk,hlf,hl1⟩ | ⟨j,m2,g,hk,hg1,hg2,hg3,hg4,hg5,hg6,hg7,hlr⟩
 ·have hlm:l.length=mf+1:=by rw [hlf]; exact hlen
  rw [<-hlf] at hq;have hl2:=VP (l++[[1]]);have hl3:(l++[[1]]).length=mf+2:=by simp [hlm]
  refine go tt [.r 23 (eI (b:=((l.length-1:Nat):Int)) (by omega)),.i (l.length-1),.x hlast,.F,.k Qga,.s (sz:=1) (Qpn _)] rfl (by simp [U3,hll]; omega) ?_;rw [HJ];refine Ui (S:=Nat) 2 (λL1 i=>(6,.v (.oi i))::(3,.v (.one (.orow 0 1 none)))::L1) (λi=>[.row false 183 1 (sD (AQ f i)),.row false 183 1 (sD (l++[[1]]))]) (λi=>mf-i) (λi=>i<=mf) 0 (Qh _) rfl rfl λi hi=>?_
  have htl:=VP (AQ f i);rw [sJ] at htl;by_cases h:i<mf
  ·obtain ⟨x,y,z,hx,hy,hz,hf⟩:=hq i h;obtain ⟨rx,hdx⟩:=BA hx;obtain ⟨ry,hdy⟩:=BA hy;obtain ⟨rz,hdz⟩:=BA hz;refine go tt [.T,.i i,.x (VS (by omega)),.i (i+1),.x (VS (by omega)),.k hdx,.i (i+1),.x (VS (by omega)),.i (i+2),.x (VS (by omega)),.k hdy,.k (QF hx.trim hx.bd hx.len),.k (QF hy.trim hy.bd hy.len),.k hdz,.k (QF hz.trim hz.bd hz.len),.s (sz:=1) (Qpn _)] rfl (by simp [U3,hl2,htl]; omega) ?_;exact rd (i+1) (by omega) h (by rw [HJ,Qdj,hf]; rfl)
  ·have e:i=mf:=by omega
   rw [e];exact Uf [.F] rfl rfl (by simp [U3]; omega)
 ·subst hk;refine go tt [.r 23 (eI (b:=((l.length-1:Nat):Int)) (by omega)),.i (l.length-1),.x hlast,.T,.r 31 (eI (b:=((l.length-1:Nat):Int)) (by omega)),.i (l.length-1),.x hlast,.k (Qf8 (U5 hg4 (by decide)) (by omega)),.k (Qt8 hg3 (Fy _ _) hg4 hg5 hg2 (Qa (Ng _) (by omega)) hg6),.s (sz:=1) (Qpn _)] rfl (by simp [U3,hll]; omega) ?_;exact rd (j,l++[g]) (by dsimp only; omega) ⟨hlr,by simp,by simp; omega⟩ (by rw [HJ]; rfl)
theorem Qbw {a:Um} {mf:Nat} {f:Nat->Um} (ta:Ff a) (ha:Bd 9000000 a) (la:a.length<=1000) (h2:2<=a.length) (hF:FRun a mf f) (hP:Qxc mf f):Uj 232 [.one (rp (zp a))] [.one (rp (zp (Oz f mf)))]:=by
 have hms:=hF.small;have hal:=OA a;have htl:=VP (AQ f mf);rw [sJ] at htl;refine Fv func232 rfl ?_;refine Ud [.F,.k Qga,.k (mU ta ha la h2 hF)] rfl ?_;refine Ui (S:=Nat) 0 (λL1 i=>(15,.v (.oi i))::(3,.v (.one (rp (zp (Oz f i)))))::L1) (λ_=>[]) (λi=>mf-i) (λi=>i<=mf) 0 (Qh _) rfl rfl λi hi=>?_
 by_cases h:i<mf
 ·obtain ⟨g1,g2,g3,g4⟩:=hP i h;refine Ue [.T,.x (G5 (f:=λp=>[rp (zp p)]) (Qld h)),.k (Qt9 (p:=Oz f i) (q:=f i) (by omega) (by omega) g1 g3 (by decide))] rfl ?_;exact rd (i+1) (by omega) h rfl
 ·have e:i=mf:=by omega
  rw [e];exact Uf [.F] rfl
theorem Qcp {l:Un} (g:Um) (h:0<l.length):(sD l++[[rp (zp g)]])[l.length-1]? = some [rp (zp (M4 l))]:=by
 rw [Zi (by rw [VP]; omega)];exact VS (by omega)
theorem Qf7 {a sq:Um} {c:Un} (ta:Ff a) (ha:Bd 9000000 a) (la:a.length<=1000) (h2:2<=a.length) (hC:ChRun a sq c):Uj 196 [.one (rp (zp a))] [.one (.row (sD c))]:=by
 obtain ⟨⟨mf,f,hF,hP,rfl⟩,⟨n,hcr⟩,hbd,hle,hsm⟩:=hC;refine Fv func196 rfl ?_;refine Ud [.k (Qbw ta ha la h2 hF hP),.lo,.k (Qf8 (p:=Oz f mf) (U5 hbd (by decide)) (by omega)),.k (wB (p:=Gx (Oz f mf)) (Fy _ _) (U5 (xR (t:=10) hbd (by omega)) (by decide)) (Qa (Ng _) (by omega)))] rfl ?_;refine sb [(5,.v (.one (rp (zp (Bn (Gx (Oz f mf))))))),(4,.v (.one (.orow 0 1 none)))] [.row false 183 1 (sD [Oz f mf])] rfl rfl ?_;refine Ui (S:=Nat×Un×Um) 1 (λL1 s=>(5,.v (.one (rp (zp s.2.2))))::(4,.v (.one (.orow 0 1 none)))::L1) (λs=>[.row false 183 1 (sD s.2.1)]) (λs=>s.1) (λs=>CRun s.1 s.2.1 s.2.2 c/\0<s.2.1.length/\s.2.1.length<=1001) (n,[Oz f mf],Bn (Gx (Oz f mf))) ⟨hcr,by show 0<1; decide,by show 1<=1001; decide⟩ rfl rfl λ⟨k,l,g⟩ ⟨hs1,hs2,hs3⟩=>?_
 have hs1:CRun k l g c:=hs1;have hs2:0<l.length:=hs2;have hs3:l.length<=1001:=hs3;have hll:=VP l;have hgl:=OA g;dsimp only;rcases hs1.inv with ⟨hk,hlf,hg0⟩ | ⟨j,m2,r,hk,hg1,hg2,hg3,hrr,hrt,hrb,hrl,hl0,hl1,hcj⟩
 ·subst hlf;exact Uf [.F] rfl
 ·subst hk;refine go tt [.T,.s (sz:=1) (Qpn _),.r 23 (eI (b:=((l.length-1:Nat):Int)) (by simp; omega)),.i (l.length-1),.x (Qcp g hl0),.k (lC (a0:=M4 l) (b:=g) (res:=r) hg1 hg2 hg3 hrr),.k (wB (p:=r) hrt hrb hrl),.k (Qf5 (p:=Bn r) (Qaz hrb) (Qa (nP r) (by omega)))] rfl (by simp [U3,hll]; omega) ?_;exact rd (j,l++[g],Ms (Bn r)) (by dsimp only; omega) ⟨hcj,by simp,by simp; omega⟩ (by rw [HJ]; rfl)
theorem Qxi {q:Rat} (h1:Fe q.num<=2000000) (h2:Fe (q.den:Int)<=2000000):Bd 9000000 [-q.num,(q.den:Int)]:=λz hz=>by
 simp only [Qm,Jl,or_false] at hz;rcases hz with rfl | rfl
 ·rw [Hm]; omega
 ·omega
abbrev aq (q:Rat) (c:Un):Ur:=[rp (zp [-q.num,(q.den:Int)]),.row (sD c)]++fr q++fr q
theorem wN {q:Rat} {c:Un} (hq:Qs 2000000 q) (hC:Qd1 q c):Uj 142 [.agg (fr q)] [.agg (aq q c)]:=by
 obtain ⟨sq,hch⟩:=hC;have co:=XQ (n:=1) (by decide);exact Ug func142 rfl [.k co,.k (Ae (n:=q.num)),.k (Qez (z:=q.num)),.k co,.k (Ae (n:=(q.den:Int))),.k (Qf7 (a:=[-q.num,(q.den:Int)]) (Qal q) (Qxi hq.1 hq.2) (by show 2<=1000; decide) (Ql 2) hch)] rfl
end Orr
namespace Orr
end Orr
namespace Orr
open Go Go.Proofs Tryz
set_option maxRecDepth 10000
structure Rs (k:Crv):Prop where
 n:ZA k
 c:Cs 100000 16 k
end Orr
namespace Orr
open Go
structure RawInt where
 b:Bool
 l:List Nat
structure RawPt where
 x:List RawInt
 y:List RawInt
 d:RawInt
 id:Int
abbrev Eb (z:RawInt):Ur:=[.bool z.b,Q02 z.l]
structure RawInt.Ok (z:RawInt):Prop where
 u:∀ u∈z.l,u<4294967296
structure RawPt.Ok (z:RawPt):Prop where
 x:∀ a∈z.x,a.Ok
 y:∀ a∈z.y,a.Ok
 d:z.d.Ok
 id:-9223372036854775808<=z.id/\z.id<=9223372036854775807
def H5 (most:Int) (z:RawInt):Int:=match z.l with
 | []=>0
 | u::_=>if z.b=true then -((u:Int) % (most+1)) else (u:Int) % (most+1)
theorem WJ {most:Int} (h:0<=most) (z:RawInt):-most<=H5 most z/\H5 most z<=most:=by
 unfold H5
 split
 ·omega
 ·rename_i u _ _;have h1:=Ye (u:Int) (b:=most+1) (by omega);have h2:=Js (u:Int) (b:=most+1) (by omega)
  split <;> omega
def Gp (most:Int) (l:List RawInt):Um:=(l.take 3).map (H5 most)
def Qo6 (most:Int) (x y:List RawInt) (d:RawInt):Crv:=⟨Gp most x,Gp most y,H5 3 d⟩
theorem SC (most:Int) (l:List RawInt):(Gp most l).length<=3:=by unfold Gp; rw [List.length_map,List.length_take]; omega
theorem yY {most:Int} {l:List RawInt} {i:Nat} {z:RawInt} (hi:i<3) (h:l[i]? = some z):Gp most (l.take (i+1))=Gp most (l.take i)++[H5 most z]:=by
 unfold Gp;rw [List.take_take,List.take_take,V3 (by omega),V3 (by omega),Zv,h];simp
theorem SB (most:Int) {l:List RawInt} {i:Nat} (h:l.length<=i\/3<=i):Gp most (l.take i)=Gp most l:=by
 unfold Gp;rw [List.take_take];rcases Nat.le_total 3 i with h3 | h3
 ·rw [Zy h3]
 ·rcases h with h | h
  ·rw [V3 h3,Qn (l:=l) (i:=i) (by omega),Qn (l:=l) (i:=3) (by omega)]
  ·rw [V3 h3,show i=3 by omega]
theorem SD {most:Int} {l:List RawInt} {z:Int} (hm:0<=most) (h:z∈Gp most l):-most<=z/\z<=most:=by
 obtain ⟨a,_,rfl⟩:=Za.1 h;exact WJ hm a
theorem Qb0 {most:Int} (hm:0<=most/\most<=999) (x y:List RawInt) (d:RawInt):Cs 10 3 (Qo6 most x y d):=by
 have key:∀ z:Int,-999<=z/\z<=999->Fe z<=10:=λz h=>Sw.2 (by omega)
 refine ⟨λz hz=>?_,λz hz=>?_,?_,SC _ _,SC _ _⟩
 ·have:=SD hm.1 hz; exact key _ (by omega)
 ·have:=SD hm.1 hz; exact key _ (by omega)
 ·have:=WJ (most:=3) (by decide) d;show Fe (H5 3 d)<=10;exact key _ (by omega)
end Orr
namespace Orr
def Nu (l:List Pt):Prop:=l.Pairwise λa b=>a.id<b.id
theorem Qia (p:Pt) (l:List Pt) (id:Int):has (p::l) id=if p.id<id then has l id else decide (p.id=id):=by
 by_cases h:p.id<id
 ·rw [if_pos h]; unfold has; simp only [Rw]; rw [if_pos h]; simp
 ·rw [if_neg h]; unfold has; simp only [Rw]; rw [if_neg h]; simp
theorem Qj0 (p:Pt) (l:List Pt) (q:Pt):put (p::l) q=if p.id<q.id then p::put l q else q::p::l:=by
 unfold put;simp only [Rw]
 split <;> simp
theorem ES:∀ {l:List Pt} {q:Pt},Nu l->has l q.id=false->Nu (put l q)
 | [],q,_,_=>by simp [put,Rw,Nu]
 |
  p::l,q,h,hn=>by
  have h1:=Zg.1 h;rw [Qia] at hn;rw [Qj0]
  split
  ·rename_i hlt;rw [if_pos hlt] at hn;refine Zg.2 ⟨λx hx=>?_,ES h1.2 hn⟩;rcases NY hx with rfl | hx
   ·exact hlt
   ·exact h1.1 x hx
  ·rename_i hge;rw [if_neg hge,decide_eq_false_iff_not] at hn;refine Zg.2 ⟨λx hx=>?_,h⟩;rcases Qm.1 hx with rfl | hx
   ·omega
   ·have:=h1.1 x hx; omega
end Orr
namespace Orq
open Orr Go
theorem Qyn {a b c:Tm} (hb:Cut (Fp b)) (hc:Cut (Fp c)) (h:Nv a b) (h':Nv b c):Nv a c:=by
 obtain ⟨q,q1,q2⟩:=h;obtain ⟨r,r1,r2⟩:=h';exact ⟨q,q1,hc.mono' (hb.lt q2 r1) (by omega)⟩
theorem RL {a b:Tm} (ha:Cut (Fp a)) (hb:Cut (Fp b)) (h:¬Nv b a):Leq a (Fp b):=λq hq=>by
 rcases ha.val q with e | e | e
 ·exact absurd ⟨q,hq,e⟩ h
 ·obtain ⟨r,r1,r2⟩:=hb.dn q hq;exact absurd ⟨r,r2,ha.mono' r1 (by omega)⟩ h
 ·exact e
theorem aA {a b c:Tm} (_:Cut (Fp a)) (hb:Cut (Fp b)) (hc:Cut (Fp c)) (h:Nv a b) (h':¬Nv c b):Nv a c:=by
 obtain ⟨q,q1,q2⟩:=h;refine ⟨q,q1,?_⟩;have hl:=RL hb hc h';rcases hc.val q with e | e | e
 ·exact e
 ·obtain ⟨r,r1,r2⟩:=hb.up q q2;have h1:=hc.mono q r r1 (by omega);have:=hl r h1;omega
 ·have:=hl q e; omega
theorem yV {a b:Tm} (ha:Cut (Fp a)) (hb:Cut (Fp b)) (h:Nv a b):¬Nv b a:=λh'=>Iy ha hb h h'
theorem On {p:Um} {a b:Tm} {o:Option Tm} (ha:Cut (Fp a)) (hb:Cut (Fp b)) (hab:¬Nv b a) (h:Mz p a o) (ho:∀ t,o=some t->Nv b t):Mz p b o:=by
 have hl:=RL ha hb hab;cases o with
 |
  none =>
  rcases h with h | ⟨s,s0,h⟩
  ·exact .inl h
  ·exact .inr ⟨s,s0,λc hc hbc=>h c hc λq hq=>hl q (hbc q hq)⟩
 |
  some t =>
  obtain ⟨h1,h2,_,s,s0,h4,h5⟩:=h;exact ⟨h1,h2,ho t rfl,s,s0,λc hc hbc hm=>h4 c hc (λq hq=>hl q (hbc q hq)) hm,h5⟩
theorem OO {p:Um} {a b:Tm} {o:Option Tm} (hp:Dp p) (ha:Va a) (hb:Va b) (hab:¬Nv b a) (h:Mz p a o) (ho:∀ t,o=some t->Nv b t):Hj (Fu b) p=Hj (Fu a) p:=by
 by_cases h0:p.length=0
 ·obtain rfl:=Qj h0; rfl
 obtain ⟨ra,_⟩:=Ep ha hp h0;obtain ⟨rb,_⟩:=Ep hb hp h0;have hl:=RL ha.cut hb.cut hab;cases o with
 |
  none =>
  rcases h with h | ⟨s,s0,h⟩
  ·exact absurd (by rw [h]; rfl) h0
  ·exact (GG rb (h _ hb.cut hl)).trans (GG ra (h _ ha.cut λ_ h=>h)).symm
 |
  some t =>
  obtain ⟨h1,h2,h3,s,s0,h4,h5⟩:=h;exact (GG rb (h4 _ hb.cut hl (ho t rfl))).trans (GG ra (h4 _ ha.cut (λ_ h=>h) h3)).symm
theorem sV (t q:Rat):Fp (tq t) q=He t q:=Ie (t:=tq t) rfl q
theorem HE {a:Tm} {t:Rat} (ha:Cut (Fp a)):0<Fp a t↔Nv (tq t) a:=by
 constructor
 ·intro h;have h1:Fp a t=1:=by rcases ha.val t with e | e | e <;> omega
  obtain ⟨r,r1,r2⟩:=ha.up t h1;exact ⟨r,by rw [sV]; rcases M9 t r with ⟨e,e'⟩ | ⟨e,e'⟩ | ⟨e,e'⟩ <;> first | exact e | (exfalso; grind),r2⟩
 ·rintro ⟨q,q1,q2⟩
  rw [sV] at q1;have:t<q:=by rcases M9 t q with ⟨e,e'⟩ | ⟨e,e'⟩ | ⟨e,e'⟩ <;> first | exact e' | omega
  have:=ha.mono' this (by omega);omega
open Classical in
noncomputable def mu (T:List Tm) (a:Tm):Nat:=(T.filter λt=>decide (Nv a t)).length
theorem OH {α:Type} {p q:α->Bool} (h:∀ x,p x=true->q x=true):∀ l:List α,(l.filter p).length<=(l.filter q).length
 | []=>Ql _
 |
  x::l=>by
  have ih:=OH h l;by_cases hp:p x=true
  ·rw [X5 hp,X5 (h x hp)]; simp; exact ih
  ·rw [Jy hp];by_cases hq:q x=true
   ·rw [X5 hq]; simp; omega
   ·rw [Jy hq]; exact ih
theorem OR {α:Type} {p q:α->Bool} (h:∀ x,p x=true->q x=true) {y:α} (hp:p y=false) (hq:q y=true):∀ {l:List α},y∈l->(l.filter p).length<(l.filter q).length
 | [],hy=>by cases hy
 |
  x::l,hy=>by
  rcases Qm.1 hy with rfl | hy
  ·rw [Jy (by simp [hp]),X5 hq];have:=OH h l;simp; omega
  ·have ih:=OR h hp hq hy;by_cases hp:p x=true
   ·rw [X5 hp,X5 (h x hp)]; simp; exact ih
   ·rw [Jy hp];by_cases hq:q x=true
    ·rw [X5 hq]; simp; omega
    ·rw [Jy hq]; exact ih
open Classical in
theorem Qsl {T:List Tm} {a b:Tm} (ha:Cut (Fp a)) (hb:Cut (Fp b)) (hT:∀ t∈T,Cut (Fp t)) (h:Nv a b) (hm:b∈T):mu T b<mu T a:=by
 have key:∀ l:List Tm,(∀ t∈l,Cut (Fp t))->l.filter (λt=>decide (Nv b t))=l.filter (λt=>decide (Cut (Fp t)/\Nv b t)):=λl hl=>List.filter_congr λx hx=>by simp [hl x hx]
 have key2:∀ l:List Tm,(∀ t∈l,Cut (Fp t))->l.filter (λt=>decide (Nv a t))=l.filter (λt=>decide (Cut (Fp t)/\Nv a t)):=λl hl=>List.filter_congr λx hx=>by simp [hl x hx]
 unfold mu;rw [key T hT,key2 T hT];refine OR (λx hx=>?_) (y:=b) ?_ ?_ hm
 ·have hx:=of_decide_eq_true hx;exact decide_eq_true ⟨hx.1,Qyn hb hx.1 h hx.2⟩
 ·exact decide_eq_false λhx=>Iy hb hb hx.2 hx.2
 ·exact decide_eq_true ⟨hb,h⟩
def IW (p:Um):List Tm:=(WL p).getD []
structure KInv (c:Cr):Prop where
 ok:CrOk c
 k:∀ w∈c.l,w.known=true->Mz w.c.p c.now w.fails/\∀ t,w.fails=some t->t∈IW w.c.p
theorem LM {p:Um} (h:Cp p) {a:Tm} (ha:Va a):∃ r,SE p a=some r/\Mz p a r/\∀ t,r=some t->t∈IW p:=by
 obtain ⟨l,l1,_,_,l3⟩:=YQ h;obtain ⟨r,r1,r2,r3⟩:=l3 a ha;refine ⟨r,?_,r2,λt ht=>by unfold IW; rw [l1]; exact r3 t ht⟩;unfold SE; rw [l1]; exact r1
theorem Qwo {p:Um} (h:Cp p):∀ t∈IW p,Va t:=by
 obtain ⟨l,l1,_,l2,_⟩:=YQ h;unfold IW; rw [l1]; exact l2
theorem iZ {now:Tm} (hn:Va now):∀ {l:List Wt},(∀ w∈l,WtOk w)->(∀ w∈l,w.known=true->Mz w.c.p now w.fails/\∀ t,w.fails=some t->t∈IW w.c.p) ->
 ∃ ws,Oh now l=some ws/\ws.map (·.c)=l.map (·.c)/\∀ w∈ws,w.known=true/\Mz w.c.p now w.fails/\∀ t,w.fails=some t->t∈IW w.c.p
 | [],_,_=>⟨[],rfl,rfl,λw hw=>by cases hw⟩
 |
  w::l,h,h'=>by
  obtain ⟨ws,w1,w2,w3⟩:=iZ hn (λv hv=>h v (Qg _ hv)) (λv hv=>h' v (Qg _ hv));by_cases hk:w.known=true
  ·refine ⟨w::ws,by simp only [Oh,hk,if_true,w1]; rfl,by simp [w2],λv hv=>?_⟩;rcases Qm.1 hv with rfl | hv
   ·exact ⟨hk,h' v (by simp) hk⟩
   ·exact w3 v hv
  ·obtain ⟨r,r1,r2,r3⟩:=LM (h w (by simp)).p hn;refine ⟨⟨w.c,true,r⟩::ws,by simp only [Oh]; rw [if_neg hk,r1,w1]; rfl,by simp [w2],λv hv=>?_⟩;rcases Qm.1 hv with rfl | hv
   ·exact ⟨rfl,r2,r3⟩
   ·exact w3 v hv
theorem aB {at_:Tm} (ha:Va at_) {x:Ct}:∀ {l:List Wt},(∀ w∈l,WtOk w)->∃ w,Co l x at_=some w/\w.c=x
 | [],_=>⟨fresh x,rfl,rfl⟩
 |
  v::l,h=>by
  obtain ⟨w,w1,w2⟩:=aB ha (x:=x) λv hv=>h v (Qg _ hv)
  simp only [Co]
  split
  ·cases hf:v.fails with
   | none=>exact ⟨_,rfl,rfl⟩
   |
    some t =>
    obtain ⟨c,c1,_⟩:=UP ((h v (by simp)).f t hf) ha;dsimp only;rw [c1];show ∃ w,(if 0<c then some ⟨x,true,some t⟩ else Co l x at_)=some w/\w.c=x
    split
    ·exact ⟨_,rfl,rfl⟩
    ·exact ⟨w,w1,w2⟩
  ·exact ⟨w,w1,w2⟩
theorem nS {at_:Tm} (ha:Va at_) {ol:List Wt} (ho:∀ w∈ol,WtOk w):∀ l:List Ct,∃ ws,Tk ol at_ l=some ws/\ws.map (·.c)=l
 | []=>⟨[],rfl,rfl⟩
 |
  x::l=>by
  obtain ⟨w,w1,w2⟩:=aB ha (x:=x) ho;obtain ⟨ws,s1,s2⟩:=nS ha ho l;exact ⟨w::ws,by simp only [Tk,w1,s1]; rfl,by simp [w2,s2]⟩
theorem Qck {out:List Ct} {c x:Ct}:x∈WQ out c↔x=c\/x∈out:=by
 have h:x∈out↔x∈out.take (JR out c out.length)\/x∈out.drop (JR out c out.length):=by
  rw [<-Qr,Zh]
 simp only [WQ,Qr,Qm,h];constructor
 ·rintro (h | h | h)
  ·exact .inr (.inl h)
  ·exact .inl h
  ·exact .inr (.inr h)
 ·rintro (h | h | h)
  ·exact .inr (.inl h)
  ·exact .inl h
  ·exact .inr (.inr h)
theorem OM:∀ (l acc:List Ct) {y:Ct},y∈l.foldl WQ acc↔y∈l\/y∈acc
 | [],acc,y=>by simp
 |
  c::l,acc,y=>by
  simp only [Z9];rw [OM l,Qck,Qm];constructor
  ·rintro (h | h | h)
   ·exact .inl (.inr h)
   ·exact .inl (.inl h)
   ·exact .inr h
  ·rintro ((h | h) | h)
   ·exact .inr (.inl h)
   ·exact .inl h
   ·exact .inr (.inr h)
theorem zD {l:List Ct} {x:Ct}:x∈Fo l↔x∈l:=by unfold Fo; rw [OM]; simp
theorem Qvr {ws:List Wt} (hw:∀ w∈ws,WtOk w):∃ o,IY ws=some o/\match o with
 | none=>∀ w∈ws,w.fails=none
 | some a=>Va a/\(∃ w∈ws,w.fails=some a)/\∀ w∈ws,∀ t,w.fails=some t->¬Nv t a:=by
 have hv:∀ t∈ws.filterMap (·.fails),Va t:=λt ht=>by
  obtain ⟨w,w1,w2⟩:=Jh.1 ht;exact (hw w w1).f t w2
 unfold IY;cases hf:ws.filterMap (·.fails) with
 |
  nil =>
  refine ⟨none,rfl,λw h=>?_⟩;cases e:w.fails with
  | none=>rfl
  |
   some t =>
   have:t∈ws.filterMap (·.fails):=Jh.2 ⟨w,h,e⟩;rw [hf] at this; cases this
 |
  cons b l =>
  rw [hf] at hv;obtain ⟨m,m1,m2,m3⟩:=RB l b hv;refine ⟨some m,by show (QL b l).map some=_; rw [m1]; rfl,hv m m2,?_,λw h t e=>?_⟩
  ·rw [<-hf] at m2;exact Jh.1 m2
  ·exact m3 t (by rw [<-hf]; exact Jh.2 ⟨w,h,e⟩)
theorem Que {t a:Tm} (ht:Va t) (ha:Va a) {c:Int} (h:US t a=some c) (h0:0<c):Nv a t:=by
 obtain ⟨c',c1,c2⟩:=UP ht ha;rw [h] at c1; injection c1 with c1; subst c1;rcases c2 with ⟨e,_⟩ | ⟨e,_⟩ | ⟨_,e⟩
 ·omega
 ·omega
 ·exact e
theorem aL {ol ws:List Wt} {now a:Tm} {l:List Ct} (hn:Va now) (ha:Va a) (hna:¬Nv a now) (ho:∀ w∈ol,WtOk w) (hk:∀ w∈ol,w.known=true->Mz w.c.p now w.fails/\∀ t,w.fails=some t->t∈IW w.c.p) (h:Tk ol a l=some ws) :
 ∀ w∈ws,w.known=true->Mz w.c.p a w.fails/\∀ t,w.fails=some t->t∈IW w.c.p:=by
 obtain ⟨h1,h2⟩:=XL h;intro w hw hkn;obtain ⟨i,hi⟩:=Xv hw;have hil:i<l.length:=by rw [<-h1]; exact (Qf.1 hi).1
 obtain ⟨v,h3,h4⟩:=h2 i _ (Qe hil);rw [hi] at h4; injection h4 with h4; subst h4;rcases LY h3 with e | ⟨v,v1,v2,v3,e,v5⟩
 ·rw [e] at hkn; cases hkn
 ·obtain ⟨k1,k2⟩:=hk v v1 v2;rw [e];show Mz (l[i]).p a v.fails/\∀ t,v.fails=some t->t∈IW (l[i]).p;rw [<-v3];refine ⟨On hn.cut ha.cut hna k1 λt ht=>?_,k2⟩;obtain ⟨c,c1,c2⟩:=v5 t ht;exact Que ((ho v v1).f t ht) ha c1 c2
structure Stab {β:Type} (Bc:Tm->List Ct) (Br:Tm->β):Prop where
 ok:BuildOk Bc
 fin:∃ Ps:List (List Int),(∀ p∈Ps,Cp p)/\∀ a,Va a->∀ x∈Bc a,x.p∈Ps
 st:∀ a b,Va a->Va b->(∀ x∈Bc a,Hj (Fu b) x.p=Hj (Fu a) x.p)->Bc b=Bc a/\Br b=Br a
structure KSt {β:Type} (Bc:Tm->List Ct) (Br:Tm->β) (c:Cr) (r1:β):Prop where
 inv:KInv c
 cs:c.l.map (·.c)=Fo (Bc c.now)
 r:r1=Br c.now
inductive Evs (Bc:Tm->List Ct) (t:Rat):Tm->List Tm->Prop
 | nil {a:Tm} (h:∀ x∈Bc a,∃ o,Mz x.p a o/\∀ u,o=some u->Nv (tq t) u):Evs Bc t a []
 | cons {a e:Tm} {E:List Tm} (he:Va e) (h1:Nv a e) (h2:¬Nv (tq t) e) (h3:∀ x∈Bc a,∃ o,Mz x.p a o/\∀ u,o=some u->¬Nv u e) (h4:∃ x∈Bc a,Mz x.p a (some e)) (h5:Evs Bc t e E):Evs Bc t a (e::E)
theorem Qsd {β:Type} {Bc:Tm->List Ct} {Br:Tm->β} (S:Stab Bc Br) {t:Rat} (ht:Qs 1640000 t) {Ps:Un} (hP:∀ p∈Ps,Cp p) (hPs:∀ a,Va a->∀ x∈Bc a,x.p∈Ps) :
 ∀ (m:Nat) (c:Cr) (r1:β) (n:Int),mu (Ps.flatMap IW) c.now<=m->KSt Bc Br c r1->¬Nv (tq t) c.now ->
 ∃ c' r' E,WO Bc Br t (m+1) c r1 n=some (c',r',n+(E.length:Nat))/\c'.now=tq t/\KSt Bc Br c' r'/\c'.ev=c.ev+(E.length:Nat)/\E.length<=m/\Evs Bc t c.now E:=by
 have hT:∀ t∈Ps.flatMap IW,Cut (Fp t):=λu hu=>by
  obtain ⟨p,p1,p2⟩:=Zo.1 hu;exact (Qwo (hP p p1) u p2).cut
 have hq:=AG ht;intro m
 induction m with
 | zero=>?_
 | succ m ih=>?_
 all_goals
  intro c r1 n hm hS hnow;obtain ⟨⟨ok,kk⟩,hcs,hr⟩:=hS;obtain ⟨ws,w1,w2,w3⟩:=iZ ok.n ok.l kk;have ok':=Et ok w1;rw [hcs] at w2;have hc_w:∀ x∈Bc c.now,∃ w∈ws,w.c=x:=λx hx=>by
   have:x∈ws.map (·.c):=by rw [w2]; exact zD.2 hx
   exact Za.1 this
  have hw_c:∀ w∈ws,w.c∈Bc c.now:=λw hw=>zD.1 (by rw [<-w2]; exact Wi hw)
  obtain ⟨o,o1,o2⟩:=Qvr ok'.l;have fin:(∀ w∈ws,∀ u,w.fails=some u->Nv (tq t) u)->KSt Bc Br ⟨tq t,ws,c.ev⟩ r1/\Evs Bc t c.now []:=λhall=>by
   have hg:∀ x∈Bc c.now,Hj (Fu (tq t)) x.p=Hj (Fu c.now) x.p:=λx hx=>by
    obtain ⟨w,hw,rfl⟩:=hc_w x hx;exact OO (S.ok.p _ ok.n _ hx).dp ok.n hq hnow (w3 w hw).2.1 (hall w hw)
   obtain ⟨s1,s2⟩:=S.st _ _ ok.n hq hg;refine ⟨⟨⟨⟨hq,ok'.l,ok'.k⟩,λw hw _=>⟨On ok.n.cut hq.cut hnow (w3 w hw).2.1 (hall w hw),(w3 w hw).2.2⟩⟩,?_,?_⟩,.nil λx hx=>?_⟩
   ·show ws.map (·.c)=Fo (Bc (tq t)); rw [w2,s1]
   ·show r1=Br (tq t); rw [s2,hr]
   ·obtain ⟨w,hw,rfl⟩:=hc_w x hx;exact ⟨_,(w3 w hw).2.1,hall w hw⟩
 ·cases o with
  |
   none =>
   obtain ⟨f1,f2⟩:=fin λw hw u hu=>by rw [o2 w hw] at hu; cases hu
   exact ⟨_,_,[],by simp only [WO]; rw [w1]; simp only [Jm]; rw [o1]; simp,rfl,f1,by simp,by simp,f2⟩
  |
   some a =>
   obtain ⟨va,⟨w,hw,hwa⟩,hmin⟩:=o2;by_cases h0:0<Fp a t
   ·obtain ⟨f1,f2⟩:=fin λv hv u hu=>by
     have hu':=(ok'.l v hv).f u hu;exact aA hq.cut va.cut hu'.cut ((HE va.cut).1 h0) (hmin v hv u hu)
    exact ⟨_,_,[],by simp only [WO]; rw [w1]; simp only [Jm]; rw [o1]; simp [h0],rfl,f1,by simp,by simp,f2⟩
   ·exfalso;obtain ⟨k1,k2,k3⟩:=w3 w hw;rw [hwa] at k2;have:a∈Ps.flatMap IW:=Zo.2 ⟨_,hPs _ ok.n _ (hw_c w hw),k3 a hwa⟩;have:=Qsl ok.n.cut va.cut hT k2.2.2.1 this;omega
 ·cases o with
  |
   none =>
   obtain ⟨f1,f2⟩:=fin λw hw u hu=>by rw [o2 w hw] at hu; cases hu
   exact ⟨_,_,[],by simp only [WO]; rw [w1]; simp only [Jm]; rw [o1]; simp,rfl,f1,by simp,by simp,f2⟩
  |
   some a =>
   obtain ⟨va,⟨w,hw,hwa⟩,hmin⟩:=o2;by_cases h0:0<Fp a t
   ·obtain ⟨f1,f2⟩:=fin λv hv u hu=>by
     have hu':=(ok'.l v hv).f u hu;exact aA hq.cut va.cut hu'.cut ((HE va.cut).1 h0) (hmin v hv u hu)
    exact ⟨_,_,[],by simp only [WO]; rw [w1]; simp only [Jm]; rw [o1]; simp [h0],rfl,f1,by simp,by simp,f2⟩
   ·obtain ⟨k1,k2,k3⟩:=w3 w hw;rw [hwa] at k2;have hna:=yV ok.n.cut va.cut k2.2.2.1;have hmem:a∈Ps.flatMap IW:=Zo.2 ⟨_,hPs _ ok.n _ (hw_c w hw),k3 a hwa⟩;have hlt:=Qsl ok.n.cut va.cut hT k2.2.2.1 hmem;obtain ⟨w2',l1,l2⟩:=nS va ok'.l (Fo (Bc a));have hl:=aL ok.n va hna ok'.l (λv hv _=>(w3 v hv).2) l1;have hS':KSt Bc Br ⟨a,w2',c.ev+1⟩ (Br a):=⟨⟨Orr.lay_ok _ ok' va (S.ok.p a va) (S.ok.n a va) l1,hl⟩,l2,rfl⟩;obtain ⟨c',r',E,g1,g2,g3,g4,g5,g6⟩:=ih ⟨a,w2',c.ev+1⟩ (Br a) (n+1) (by show mu _ a<=m; omega) hS' (λh=>h0 ((HE va.cut).2 h));refine ⟨c',r',a::E,?_,g2,g3,by rw [g4]; simp; omega,by simp; omega,.cons va k2.2.2.1 (λh=>h0 ((HE va.cut).2 h)) (λx hx=>?_) ⟨w.c,hw_c w hw,k2⟩ g6⟩
    ·conv=>lhs; unfold WO
     rw [w1]; simp only [Jm]; rw [o1]; simp only [Jm]; rw [if_neg h0,l1]; simp only [Jm];rw [g1]; simp; omega
    ·obtain ⟨v,hv,rfl⟩:=hc_w x hx;exact ⟨_,(w3 v hv).2.1,hmin v hv⟩
end Orq
namespace Orq
open Orr Go
theorem XS {a:Tm} (ha:Va a):∀ (L:Un),(∀ p∈L,Dp p)->∃ y,Fp a y=-1/\∀ q,Fp a q=-1->q≤y->∀ p∈L,Hj (Fu a) p=Fg (U9 p q)
 |
  [],_=>by
  obtain ⟨y,hy⟩:=ha.cut.hi;exact ⟨y,hy,λq _ _ p hp=>by cases hp⟩
 |
  p::L,h=>by
  obtain ⟨y,y1,y2⟩:=XS ha L (λq hq=>h q (Qg _ hq));by_cases h0:p.length=0
  ·obtain rfl:=Qj h0;refine ⟨y,y1,λq q1 q2 r hr=>?_⟩;rcases Qm.1 hr with rfl | hr
   ·rw [XT]; exact (Gq.2 rfl).symm
   ·exact y2 q q1 q2 r hr
  ·obtain ⟨⟨z,z1,z2⟩,_⟩:=Ep ha (h p (by simp)) h0;refine ⟨if y<=z then y else z,by split <;> assumption,λq q1 q2 r hr=>?_⟩;rcases Qm.1 hr with rfl | hr
   ·rw [<-Fa]; exact (z2 q q1 (by grind)).symm
   ·exact y2 q q1 (by grind) r hr
section Srt
variable {α:Type} {lt:α->α->Bool} {R:α->α->Prop}
theorem zJ (irr:∀ x,¬R x x) (tr:∀ x y z,R x y->R y z->R x z):∀ {l m:List α},l.Pairwise R->m.Pairwise R->(∀ x,x∈l↔x∈m)->l=m
 | [],[],_,_,_=>rfl
 | [],y::m,_,_,h=>by have:=(h y).2 (by simp); cases this
 | x::l,[],_,_,h=>by have:=(h x).1 (by simp); cases this
 |
  x::l,y::m,hl,hm,h=>by
  rw [Zg] at hl hm;have e:x=y:=by
   rcases Qm.1 ((h x).1 (by simp)) with e | h1
   ·exact e
   ·rcases Qm.1 ((h y).2 (by simp)) with e | h2
    ·exact e.symm
    ·exact absurd (tr _ _ _ (hl.1 y h2) (hm.1 x h1)) (irr x)
  subst e;rw [zJ irr tr hl.2 hm.2 λz=>?_];constructor
  ·intro hz;rcases Qm.1 ((h z).1 (Qg _ hz)) with e | h1
   ·subst e; exact absurd (hl.1 z hz) (irr z)
   ·exact h1
  ·intro hz;rcases Qm.1 ((h z).2 (Qg _ hz)) with e | h1
   ·subst e; exact absurd (hm.1 z hz) (irr z)
   ·exact h1
theorem qA {out:List α} {x:α}:∀ k,k<=out.length->(∀ j y,L9 lt out x k<=j->j<k->out[j]? = some y->lt x y=true)/\(0<L9 lt out x k->∃ y,out[L9 lt out x k-1]? = some y/\lt x y=false)
 | 0,_=>⟨λj y _ h=>by omega,λh=>by simp [L9] at h⟩
 |
  k+1,hk=>by
  obtain ⟨y,hy⟩:=gxE (l:=out) (i:=k) (by omega);by_cases h:lt x y=true
  ·rw [oV hy h];obtain ⟨h1,h2⟩:=qA (out:=out) (x:=x) k (by omega);refine ⟨λj z a1 a2 a3=>?_,h2⟩;by_cases e:j=k
   ·subst e; rw [hy] at a3; injection a3 with a3; subst a3; exact h
   ·exact h1 j z a1 (by omega) a3
  ·have h:lt x y=false:=by simpa using h
   rw [rT hy h];exact ⟨λj z a1 a2 _=>by omega,λ_=>⟨y,by simpa using hy,h⟩⟩
theorem Qo1 (tr:∀ x y z,R x y->R y z->R x z) {out:List α} {x:α} (ho:out.Pairwise R) (h1:∀ y∈out,lt x y=true->R x y) (h2:∀ y∈out,lt x y=false->R y x):(Ly lt out x).Pairwise R:=by
 obtain ⟨s1,s2⟩:=qA (lt:=lt) (out:=out) (x:=x) out.length (Ql _);have hle:=yI lt out x out.length;unfold Ly;obtain ⟨k,hk⟩:=nmE (L9 lt out x out.length);rw [<-hk] at s1 s2 hle ⊢;have hd:(out.take k++out.drop k).Pairwise R:=by rw [Zh]; exact ho
 obtain ⟨d1,d2,d3⟩:=Xw.1 hd;have hR:∀ y∈out.drop k,R x y:=λy hy=>by
  obtain ⟨i,hi⟩:=Xv hy;rw [Xc] at hi;have:k+i<out.length:=(Qf.1 hi).1;exact h1 y (Qz hy) (s1 (k+i) y (by omega) this hi)
 have hL:∀ y∈out.take k,R y x:=λy hy=>by
  obtain ⟨i,hi⟩:=Xv hy;have hik:i<k:=by have:=(Qf.1 hi).1; simp at this; omega
  rw [Kf hik] at hi;obtain ⟨z,z1,z2⟩:=s2 (by omega);have hz:=h2 z (Qc z1) z2;by_cases e:i=k-1
  ·subst e; rw [hi] at z1; injection z1 with z1; subst z1; exact hz
  ·have hp:=Yc.1 ho i (k-1) (by omega) (by omega) (by omega);obtain ⟨_,e1⟩:=Qf.1 hi;obtain ⟨_,e2⟩:=Qf.1 z1;rw [e1,e2] at hp;exact tr _ _ _ hp hz
 refine Xw.2 ⟨d1,Zg.2 ⟨hR,d2⟩,λy hy z hz=>?_⟩;rcases Qm.1 hz with rfl | hz
 ·exact hL y hy
 ·exact d3 y hy z hz
theorem DN (tr:∀ x y z,R x y->R y z->R x z) {S:α->Prop} (h1:∀ x y,S x->S y->lt x y=true->R x y) {D:α->α->Prop} (h2:∀ x y,S x->S y->D y x->lt x y=false->R y x) :
 ∀ (l acc:List α),acc.Pairwise R->(∀ x∈acc,S x)->(∀ x∈l,S x)->l.Pairwise D->(∀ x∈acc,∀ y∈l,D x y)->(l.foldl (Ly lt) acc).Pairwise R
 | [],acc,ha,_,_,_,_=>ha
 |
  x::l,acc,ha,hs,hl,hd,hx=>by
  rw [Zg] at hd;refine DN tr h1 h2 l (Ly lt acc x) ?_ ?_ (λy hy=>hl y (Qg _ hy)) hd.2 ?_
  ·exact Qo1 tr ha (λy hy=>h1 x y (hl x (by simp)) (hs y hy)) (λy hy=>h2 x y (hl x (by simp)) (hs y hy) (hx y hy x (by simp)))
  ·intro y hy;rcases FW.1 hy with rfl | hy
   ·exact hl _ (by simp)
   ·exact hs y hy
  ·intro y hy z hz;rcases FW.1 hy with rfl | hy
   ·exact hd.1 z hz
   ·exact hx y hy z (Qg _ hz)
theorem zX:∀ {l:List α},l.Pairwise R->∀ {u v:α},u∈l->v∈l->u≠v->R u v\/R v u
 | [],_,_,_,h,_,_=>by cases h
 |
  x::l,hp,u,v,hu,hv,hne=>by
  rw [Zg] at hp;rcases Qm.1 hu with e | hu
  ·rcases Qm.1 hv with e' | hv
   ·exact absurd (e.trans e'.symm) hne
   ·rw [e]; exact .inl (hp.1 v hv)
  ·rcases Qm.1 hv with e' | hv
   ·rw [e']; exact .inr (hp.1 u hu)
   ·exact zX hp.2 hu hv hne
end Srt
def px (p:Pt) (q:Rat):Rat:=U9 p.c.x q / (p.c.d:Rat)
def py (p:Pt) (q:Rat):Rat:=U9 p.c.y q / (p.c.d:Rat)
def Db (q:Rat) (x y:Pt):Prop:=px x q<px y q\/px x q=px y q/\(py x q<py y q\/py x q=py y q/\x.id<y.id)
theorem XO (q:Rat) (x:Pt):¬Db q x x:=by unfold Db; grind
theorem YE (q:Rat) (x y z:Pt) (h:Db q x y) (h':Db q y z):Db q x z:=by unfold Db at *; grind
theorem fL {q:Rat} {x y:Pt} (h:x.id≠y.id) (h':¬Db q x y):Db q y x:=by unfold Db at *; grind
theorem zC {u v:Rat} {c d:Int} (hc:0<c) (hd:0<d):Fg (v*(c:Rat)-u*(d:Rat))=Fg (v / (d:Rat)-u / (c:Rat)):=by
 have hc':(0:Rat)<(c:Rat):=by exact_mod_cast hc
 have hd':(0:Rat)<(d:Rat):=by exact_mod_cast hd
 have e:v*(c:Rat)-u*(d:Rat)=((c:Rat)*(d:Rat))*(v / (d:Rat)-u / (c:Rat)):=by
  rw [J6,J6];have h1:=Ws (c:Rat) (by grind);have h2:=Ws (d:Rat) (by grind);grind
 rw [e,C5 (Xs hc' hd')]
theorem TM {x y:Pt} (hx:Sc x.c) (hy:Sc y.c) (q:Rat):Fg (U9 (Gm x.c y.c) q)=Fg (px y q-px x q):=by
 unfold Gm px; rw [Nk,Ro,Ro]; exact zC hx.n.2.2.1 hy.n.2.2.1
theorem TP {x y:Pt} (hx:Sc x.c) (hy:Sc y.c) (q:Rat):Fg (U9 (Gl x.c y.c) q)=Fg (py y q-py x q):=by
 unfold Gl py; rw [Nk,Ro,Ro]; exact zC hx.n.2.2.1 hy.n.2.2.1
theorem BY {a:Tm} (ha:Va a) {x y:Pt} (hx:Sc x.c) (hy:Sc y.c) {q:Rat} (h1:Hj (Fu a) (Gm x.c y.c)=Fg (U9 (Gm x.c y.c) q)) (h2:Hj (Fu a) (Gl x.c y.c)=Fg (U9 (Gl x.c y.c) q)):Ts (Fu a) x y=true↔Db q x y:=by
 rw [TM hx hy] at h1;rw [TP hx hy] at h2;have d1:=(Nb hx hy).dp;have d2:=(Na hx hy).dp;unfold Ts;simp only [L8];have t1:=Fz (px y q-px x q);have t2:=Fz (py y q-py x q);by_cases e1:(Gm x.c y.c).length=0
 ·rw [if_neg (by omega)];rw [Qj e1,XT] at h1;have:px x q=px y q:=by grind
  by_cases e2:(Gl x.c y.c).length=0
  ·rw [if_neg (by omega)];rw [Qj e2,XT] at h2;unfold Db;simp only [decide_eq_true_eq];grind
  ·rw [if_pos (by omega)];have:=(Ep ha d2 e2).2;unfold Db;simp only [decide_eq_true_eq];grind
 ·rw [if_pos (by omega)];have:=(Ep ha d1 e1).2;unfold Db;simp only [decide_eq_true_eq];grind
def Ek (l:List Pt):Un:=l.flatMap λx=>l.flatMap λy=>[Gm x.c y.c,Gl x.c y.c]
theorem Sj {l:List Pt} {x y:Pt} (hx:x∈l) (hy:y∈l):Gm x.c y.c∈Ek l/\Gl x.c y.c∈Ek l :=
 ⟨Zo.2 ⟨x,hx,Zo.2 ⟨y,hy,by simp⟩⟩,Zo.2 ⟨x,hx,Zo.2 ⟨y,hy,by simp⟩⟩⟩
theorem QJ {l:List Pt} (hl:∀ p∈l,Sc p.c):∀ p∈Ek l,Cp p:=λp hp=>by
 obtain ⟨x,hx,hp⟩:=Zo.1 hp;obtain ⟨y,hy,hp⟩:=Zo.1 hp;simp at hp;rcases hp with rfl | rfl
 ·exact Nb (hl x hx) (hl y hy)
 ·exact Na (hl x hx) (hl y hy)
theorem oO {l:List Pt} (hl:∀ p∈l,Sc p.c) (hd:l.Pairwise λx y=>x.id≠y.id) {a:Tm} (ha:Va a):∃ y,Fp a y=-1/\∀ q,Fp a q=-1->q≤y->(∀ u∈l,∀ v∈l,(Ts (Fu a) u v=true↔Db q u v))/\(Ty a l).Pairwise (Db q):=by
 obtain ⟨y,y1,y2⟩:=XS ha (Ek l) λp hp=>(QJ hl p hp).dp
 refine ⟨y,y1,λq q1 q2=>?_⟩;have h:=y2 q q1 q2;have hb:∀ u∈l,∀ v∈l,(Ts (Fu a) u v=true↔Db q u v):=λu hu v hv=>BY ha (hl u hu) (hl v hv) (h _ (Sj hu hv).1) (h _ (Sj hu hv).2)
 refine ⟨hb,?_⟩;exact DN (S:=λx=>x∈l) (D:=λx y=>x.id≠y.id) (YE q) (λu v hu hv h=>(hb u hu v hv).1 h) (λu v hu hv hne h=>fL (λe=>hne e.symm) λh'=>by
  rw [(hb u hu v hv).2 h'] at h; cases h) l [] .nil (λx hx=>by cases hx) (λx hx=>hx) hd (λx hx=>by cases hx)
theorem bU {a b:Tm} {x y:Pt} (h:Hj (Fu b) (Av x y)=Hj (Fu a) (Av x y)):Ts (Fu b) x y=Ts (Fu a) x y:=by
 unfold Av Lx at h;unfold Ts;simp only [L8];by_cases e1:0<(Gm x.c y.c).length
 ·rw [if_pos e1,if_pos e1]; rw [if_pos e1] at h; rw [h]
 ·rw [if_neg e1,if_neg e1]; rw [if_neg e1] at h; rw [h]
theorem CJ {a b:Tm} {q r:Rat}:∀ (l:List Pt),(∀ u∈l,∀ v∈l,(Ts (Fu a) u v=true↔Db q u v))->(∀ u∈l,∀ v∈l,(Ts (Fu b) u v=true↔Db r u v))->l.Pairwise (Db q)->(∀ x∈S7 (Fu a) l,Hj (Fu b) x.p=Hj (Fu a) x.p)->l.Pairwise (Db r)/\S7 (Fu b) l=S7 (Fu a) l
 | [],_,_,_,_=>⟨.nil,rfl⟩
 | [x],_,_,_,_=>⟨Kl _ _,rfl⟩
 |
  x::y::l,ha,hb,hp,hc=>by
  rw [Zg] at hp;obtain ⟨i1,i2⟩:=CJ (a:=a) (b:=b) (q:=q) (r:=r) (y::l) (λu hu v hv=>ha u (Qg _ hu) v (Qg _ hv)) (λu hu v hv=>hb u (Qg _ hu) v (Qg _ hv)) hp.2 (λz hz=>hc z (by simp only [S7]; exact Qg _ hz));have h0:Hj (Fu b) (Av x y)=Hj (Fu a) (Av x y):=hc (QO (Fu a) x y) (by simp [S7]);have h1:Db r x y:=(hb x (by simp) y (by simp)).1 (by rw [bU h0]; exact (ha x (by simp) y (by simp)).2 (hp.1 y (by simp)));refine ⟨Zg.2 ⟨λz hz=>?_,i1⟩,?_⟩
  ·rcases Qm.1 hz with rfl | hz
   ·exact h1
   ·exact YE r x y z h1 ((Zg.1 i1).1 z hz)
  ·simp only [S7];rw [i2]; congr 1;unfold QO; rw [h0]
theorem TR {sg:Um->Int}:∀ {l:List Pt},∀ x∈S7 sg l,∃ u∈l,∃ v∈l,x.p=Av u v
 | [],x,hx=>by cases hx
 | [_],x,hx=>by cases hx
 |
  a::b::l,x,hx=>by
  simp only [S7] at hx;rcases Qm.1 hx with rfl | hx
  ·exact ⟨a,by simp,b,by simp,rfl⟩
  ·obtain ⟨u,hu,v,hv,e⟩:=TR (l:=b::l) x hx;exact ⟨u,Qg _ hu,v,Qg _ hv,e⟩
theorem qN {l:List Pt} {u v:Pt} (hu:u∈l) (hv:v∈l):Av u v∈Ek l:=by
 unfold Av Lx; split
 ·exact (Sj hu hv).1
 ·exact (Sj hu hv).2
theorem dA {l:List Pt} {a:Tm}:∀ x∈ZL l a,x.p∈Ek l:=λx hx=>by
 obtain ⟨u,hu,v,hv,e⟩:=TR x hx;rw [e]; exact qN (Hq.1 hu) (Hq.1 hv)
theorem kE (l:List Pt):(Ek l).length=l.length*(l.length*2):=by
 have h1:∀ (x:Pt) (m:List Pt),(m.flatMap λy=>[Gm x.c y.c,Gl x.c y.c]).length=m.length*2:=λx m=>by
  induction m with
  | nil=>rfl
  | cons y m ih=>rw [J1,Qu,ih,Q5]; simp; omega
 have h2:∀ m:List Pt,(m.flatMap λx=>l.flatMap λy=>[Gm x.c y.c,Gl x.c y.c]).length=m.length*(l.length*2):=λm=>by
  induction m with
  | nil=>simp
  | cons y m ih=>rw [J1,Qu,ih,Q5,h1,X4,Wn,Ju]
 exact h2 l
theorem tW {l:List Pt} (hl:∀ p∈l,Sc p.c) (hd:l.Pairwise λx y=>x.id≠y.id) {a b:Tm} (ha:Va a) (hb:Va b) (h:∀ x∈ZL l a,Hj (Fu b) x.p=Hj (Fu a) x.p):Ty b l=Ty a l/\ZL l b=ZL l a:=by
 obtain ⟨q,q1,q2⟩:=oO hl hd ha;obtain ⟨r,r1,r2⟩:=oO hl hd hb;obtain ⟨a1,a2⟩:=q2 q q1 Qp;obtain ⟨b1,b2⟩:=r2 r r1 Qp;obtain ⟨c1,c2⟩:=CJ (a:=a) (b:=b) (Ty a l) (λu hu v hv=>a1 u (Hq.1 hu) v (Hq.1 hv)) (λu hu v hv=>b1 u (Hq.1 hu) v (Hq.1 hv)) a2 h;have e:Ty b l=Ty a l:=zJ (XO r) (YE r) b2 c1 λx=>by rw [Hq,Hq]
 exact ⟨e,by unfold ZL; rw [e,c2]⟩
theorem Qy7 {l:List Pt} (hl:∀ p∈l,Sc p.c) (hn:l.length≤1000) (hd:l.Pairwise λx y=>x.id≠y.id):Stab (ZL l) (IG l):=by
 refine ⟨pU hl hn,⟨Ek l,QJ hl,λa _ x hx=>?_⟩,λa b ha hb h=>?_⟩
 ·obtain ⟨u,hu,v,hv,e⟩:=TR x hx;rw [e]; exact qN (Hq.1 hu) (Hq.1 hv)
 ·obtain ⟨e1,e2⟩:=tW hl hd ha hb h;exact ⟨e2,by unfold IG; rw [e1]⟩
end Orq
namespace Orr
open Go
section
variable {α:Type} {lt:α->α->Bool}
theorem Qcl (out:List α) (c:α):(Ly lt out c).Perm (c::out):=by
 unfold Ly;exact (List.perm_middle).trans (by rw [Zh])
theorem DT:∀ (l acc:List α),(l.foldl (Ly lt) acc).Perm (l++acc)
 | [],acc=>List.Perm.refl _
 |
  c::l,acc=>by
  simp only [Z9];exact (DT l _).trans (((Qcl acc c).append_left l).trans List.perm_middle)
theorem cO (l:List α):(Ei lt l).Perm l:=by
 have:=DT (lt:=lt) l [];rwa [Zw] at this
end
end Orr
namespace Orr
open Go Go.Proofs Tryz
set_option maxRecDepth 10000


theorem Qo8 (l:Uo) (n:Nat):(lm l).take (min l.length n)=lm (l.take n):=by
 rw [lm,lm,<-Jv];rcases Nat.le_total l.length n with h | h
 ·rw [Zy h,Q6,Qn h]
 ·rw [V3 h]
theorem Qt4 {l:Uo} {n:Nat} (hn:n<=1000):Uj 199 [.one (.row (lm l)),.oi n] [.one (.row (lm (l.take n)))]:=by
 rw [<-Qo8];have hll:(lm l).length=l.length:=by simp [lm]
 exact Ug func199 rfl [.r 9 (eI (b:=((min l.length n:Nat):Int)) (by omega)),.i (min l.length n)] rfl rfl (by simp [U3,hll]; omega)
def Io (l:List RawInt):Us:=l.map Eb
theorem O6 (l:List RawInt):(Io l).length=l.length:=by simp [Io]
abbrev rcw (z:RawPt):Ur:=[.row (Io z.x),.row (Io z.y),.bool z.d.b,.row (lm z.d.l)]
theorem UR {z:RawInt} (hz:z.Ok) {most:Int} (hm:0<=most/\most<=999):Uj 147 [.agg (Eb z),.oi most] [.agg (G8 (H5 most z))]:=by
 obtain ⟨b,l⟩:=z;have hb:=WJ hm.1 ⟨b,l⟩;have hs:Fe (H5 most ⟨b,l⟩)<=100000000:=Qa (Sw.2 (show (H5 most ⟨b,l⟩).natAbs<2^10 by omega)) (by decide);cases l with
 | nil=>exact Ug func147 rfl [.t rfl] rfl (by simp [H5,Lm]) trivial
 |
  cons u l =>
  have hu:=hz.u u (Qy ..);have co:=XQ (n:=H5 most ⟨b,u::l⟩) (by omega);have ct:=Qt0 hs;have hr:Int.tmod (u:Int) (most+1)=(u:Int) % (most+1):=Y5 (by omega);have h1:=Ye (u:Int) (b:=most+1) (by omega);have h2:=Js (u:Int) (b:=most+1) (by omega);cases b with
  |
   true =>
   rw [show H5 most ⟨true,u::l⟩=-((u:Int) % (most+1)) from rfl] at co ct ⊢;exact Ug func147 rfl [.f (decide_eq_false (by simp [lm]; try omega)),.x (l:=lm (u::l)) (i:=0) (xs:=[.int .u32 (u:Int)]) rfl,.r 18 (eI hr),.t rfl,.k co,.k ct] rfl rfl (by simp [U3]; omega)
  |
   false =>
   rw [show H5 most ⟨false,u::l⟩=(u:Int) % (most+1) from rfl] at co ct ⊢;exact Ug func147 rfl [.f (decide_eq_false (by simp [lm]; try omega)),.x (l:=lm (u::l)) (i:=0) (xs:=[.int .u32 (u:Int)]) rfl,.r 18 (eI hr),.f rfl,.k co,.k ct] rfl rfl (by simp [U3]; omega)
end Orr
namespace Orq
open Orr Go
theorem Qlg {a b:Tm} (ha:Cut (Fp a)) (hb:Cut (Fp b)) (h:¬Nv a b) (h':¬Nv b a):∀ q,Fp a q=Fp b q:=by
 rcases tri ha hb with h1 | h1 | h1
 ·exact absurd h1 h
 ·exact h1
 ·exact absurd h1 h'
theorem Qah {a b b':Tm} (h:∀ q,Fp b q=Fp b' q):Nv a b↔Nv a b':=by
 unfold Nv; simp only [h]
theorem sY {a b b':Tm} (h:∀ q,Fp b q=Fp b' q):Nv b a↔Nv b' a:=by
 unfold Nv; simp only [h]
theorem TQ {p:Um} {a:Tm} (ha:Va a) {t t':Tm} (h:Mz p a (some t)) (h':Mz p a (some t')):∀ q,Fp t q=Fp t' q:=by
 obtain ⟨_,v,l,s,s0,h4,h5⟩:=h;obtain ⟨_,v',l',s',s0',h4',h5'⟩:=h';have es:s=s':=GG (h4 _ ha.cut (λ_ h=>h) l) (h4' _ ha.cut (λ_ h=>h) l');refine Qlg v.cut v'.cut (λhlt=>?_) λhlt=>?_
 ·have:=GG (h4' _ v.cut (RL ha.cut v.cut (yV ha.cut v.cut l)) hlt) h5;omega
 ·have:=GG (h4 _ v'.cut (RL ha.cut v'.cut (yV ha.cut v'.cut l')) hlt) h5';omega
theorem Ll {p:Um} {a:Tm} (ha:Va a) {t:Tm} (h:Mz p a (some t)) (h':Mz p a none):False:=by
 obtain ⟨h1,v,l,s,s0,h4,h5⟩:=h;rcases h' with h' | ⟨s',s0',h'⟩
 ·exact h1 h'
 ·have e1:=GG (h' _ ha.cut λ_ h=>h) (h4 _ ha.cut (λ_ h=>h) l);have e2:=GG (h' _ v.cut (RL ha.cut v.cut (yV ha.cut v.cut l))) h5;omega
structure Quiet {β:Type} (Bc:Tm->List Ct) (Br:Tm->β) (a b:Tm):Prop where
 va:Va a
 vb:Va b
 le:¬Nv b a
 n:∀ x∈Bc a,∃ o,Mz x.p a o/\∀ u,o=some u->Nv b u
section
variable {β:Type} {Bc:Tm->List Ct} {Br:Tm->β} (S:Stab Bc Br)
include S
theorem Quiet.same {a b:Tm} (h:Quiet Bc Br a b):Bc b=Bc a/\Br b=Br a:=by
 refine S.st a b h.va h.vb λx hx=>?_
 obtain ⟨o,o1,o2⟩:=h.n x hx;exact OO (S.ok.p _ h.va _ hx).dp h.va h.vb h.le o1 o2
theorem zI {a b:Tm} (ha:Va a) (hb:Va b) (h:∀ q,Fp a q=Fp b q):Quiet Bc Br a b:=by
 refine ⟨ha,hb,λh'=>Iy hb.cut hb.cut ((Qah h).1 h') ((Qah h).1 h'),λx hx=>?_⟩;obtain ⟨r,_,r2,_⟩:=LM (S.ok.p _ ha _ hx) ha;refine ⟨r,r2,λu hu=>?_⟩;subst hu;obtain ⟨q,q1,q2⟩:=r2.2.2.1;exact ⟨q,by rw [<-h]; exact q1,q2⟩
theorem Qcc {t:Rat} {a:Tm} {E:List Tm} (hE:Evs Bc t a E):∀ {b:Tm} {E':List Tm},Quiet Bc Br a b->Evs Bc t b E'->E.length=E'.length:=by
 induction hE with
 |
  @nil a h =>
  intro b E' hq hE';have hs:=(Quiet.same S hq).1;cases hE' with
  | nil _=>rfl
  |
   cons he h1 h2 h3 h4 h5 =>
   exfalso;obtain ⟨x,hx,hx2⟩:=h4;rw [hs] at hx;obtain ⟨o,o1,o2⟩:=h x hx;obtain ⟨o',o1',o2'⟩:=hq.n x hx;cases o with
   |
    none =>
    cases o' with
    | none=>exact Ll hq.vb hx2 (On hq.va.cut hq.vb.cut hq.le o1' o2')
    | some u=>exact Ll hq.va o1' o1
   |
    some u =>
    cases o' with
    | none=>exact Ll hq.va o1 o1'
    |
     some u' =>
     have e1:=TQ hq.va o1 o1';have e2:=TQ hq.vb (On hq.va.cut hq.vb.cut hq.le o1' o2') hx2;obtain ⟨q,q1,q2⟩:=o2 u rfl;exact h2 ⟨q,q1,by rw [<-e2,<-e1]; exact q2⟩
 |
  @cons a e E he h1 h2 h3 h4 h5 ih =>
  intro b E' hq hE';have hs:=(Quiet.same S hq).1;have nx:∀ x∈Bc a,∀ u,Mz x.p a (some u)->Nv b u/\Mz x.p b (some u):=λx hx u hu=>by
   obtain ⟨o',o1',o2'⟩:=hq.n x hx;cases o' with
   | none=>exact (Ll hq.va hu o1').elim
   |
    some u' =>
    have e1:=TQ hq.va o1' hu;have hb':=o2' u' rfl;have hb2:Nv b u:=by obtain ⟨q,q1,q2⟩:=hb'; exact ⟨q,q1,by rw [<-e1]; exact q2⟩
    exact ⟨hb2,On hq.va.cut hq.vb.cut hq.le hu λv hv=>by injection hv with hv; subst hv; exact hb2⟩
  obtain ⟨x0,hx0,hn0⟩:=h4;obtain ⟨hb0,hnb0⟩:=nx x0 hx0 e hn0;cases hE' with
  |
   nil h' =>
   exfalso;obtain ⟨o,o1,o2⟩:=h' x0 (by rw [hs]; exact hx0);cases o with
   | none=>exact Ll hq.vb hnb0 o1
   |
    some u =>
    have e1:=TQ hq.vb o1 hnb0;obtain ⟨q,q1,q2⟩:=o2 u rfl;exact h2 ⟨q,q1,by rw [<-e1]; exact q2⟩
  |
   @cons _ e' E'' he' h1' h2' h3' h4' h5' =>
   obtain ⟨x1,hx1,hn1⟩:=h4';rw [hs] at hx1;have a1:¬Nv e' e:=λhlt=>by
    obtain ⟨o,o1,o2⟩:=h3 x1 hx1;cases o with
    |
     none =>
     obtain ⟨o',o1',o2'⟩:=hq.n x1 hx1;cases o' with
     | none=>exact Ll hq.vb hn1 (On hq.va.cut hq.vb.cut hq.le o1' o2')
     | some u=>exact Ll hq.va o1' o1
    |
     some u =>
     have e2:=TQ hq.vb (nx x1 hx1 u o1).2 hn1;exact o2 u rfl ((sY e2).2 hlt)
   have a2:¬Nv e e':=λhlt=>by
    obtain ⟨o,o1,o2⟩:=h3' x0 (by rw [hs]; exact hx0);cases o with
    | none=>exact Ll hq.vb hnb0 o1
    |
     some u =>
     have e2:=TQ hq.vb o1 hnb0;exact o2 u rfl ((sY e2).2 hlt)
   have:=ih (zI S he he' (Qlg he.cut he'.cut a2 a1)) h5';simp [this]
theorem Qux {t:Rat} {a:Tm} (ha:Va a) {E E':List Tm} (h:Evs Bc t a E) (h':Evs Bc t a E'):E.length=E'.length:=Qcc S h (zI S ha ha λ_=>rfl) h'
end
theorem Qq3 {p:Um} (h:Cp p):(IW p).length<=67:=by
 obtain ⟨l,l1,l2,_⟩:=YQ h;unfold IW; rw [l1]; exact l2
theorem vN:∀ {Ps:Un},(∀ p∈Ps,Cp p)->(Ps.flatMap IW).length≤67*Ps.length
 | [],_=>Qh _
 |
  p::Ps,h=>by
  have h1:=Qq3 (h p (by simp));have h2:=vN (Ps:=Ps) λq hq=>h q (Qg _ hq)
  rw [J1,Qu,Q5]; omega
theorem Qsk (T:List Tm) (a:Tm):mu T a<=T.length:=Y0 _ _
theorem Qee {β:Type} {Bc:Tm->List Ct} {Br:Tm->β} (S:Stab Bc Br) {a:Tm} (ha:Va a):KSt Bc Br ⟨a,(Fo (Bc a)).map fresh,0⟩ (Br a):=by
 refine ⟨⟨⟨ha,λw hw=>?_,?_⟩,λw hw hk=>?_⟩,?_,rfl⟩
 ·obtain ⟨x,hx,rfl⟩:=Za.1 hw;exact ⟨S.ok.p _ ha x (Tc hx),λt ht=>by cases ht⟩
 ·show ((Fo (Bc a)).map fresh).length<=1000;rw [Q9,Mx]; exact S.ok.n _ ha
 ·obtain ⟨x,hx,rfl⟩:=Za.1 hw;cases hk
 ·show ((Fo (Bc a)).map fresh).map (·.c)=Fo (Bc a);rw [List.map_map];show (Fo (Bc a)).map (λx=>x)=_;rw [List.map_id']
end Orq
namespace Orq
theorem ang {ux uy vx vy wx wy:Rat} (hu:0<ux\/ux=0/\0<uy) (hv:0<vx\/vx=0/\0<vy) (hw:0<wx\/wx=0/\0<wy)
 (h1:0<=ux*vy-vx*uy) (h2:0<=vx*wy-wx*vy):0<=ux*wy-wx*uy/\(0<ux*vy-vx*uy\/0<vx*wy-wx*vy->0<ux*wy-wx*uy):=by
 have ux0:0<=ux:=by grind
 have wx0:0<=wx:=by grind
 rcases hv with hv | ⟨hv,hv2⟩
 ·have e:vx*(ux*wy-wx*uy)=ux*(vx*wy-wx*vy)+wx*(ux*vy-vx*uy):=by grind
  have hux:0<ux:=by
   rcases hu with h | ⟨h,h'⟩
   ·exact h
   ·have:=Xs hv h';rw [h] at h1; grind
  have p1:=Vx ux0 h2;have p2:=Vx wx0 h1;have key:∀ z:Rat,vx*z=ux*(vx*wy-wx*vy)+wx*(ux*vy-vx*uy)->0<=z:=λz hz=>by
   refine Rat.not_lt.1 λhn=>?_
   have:=Xs hv (show 0 < -z by grind);grind
  refine ⟨key _ e,λhs=>?_⟩;rcases hw with hw | ⟨hw,hw2⟩
  ·have hpos:0<vx*(ux*wy-wx*uy):=by
    rcases hs with hs | hs
    ·have:=Xs hw hs; grind
    ·have:=Xs hux hs; grind
   have h0:=key _ e;refine Jr.1 λhn=>?_
   have:ux*wy-wx*uy=0:=by grind
   rw [this] at hpos; grind
  ·have:=Xs hux hw2;rw [hw]; grind
 ·rw [hv] at h1 h2;have hw0:wx=0:=by
   rcases hw with hw | hw
   ·have:=Xs hw hv2; grind
   ·exact hw.1
  have hwy:0<wy:=by grind
  have p:=Vx ux0 (Qt hwy);refine ⟨by rw [hw0]; grind,λhs=>?_⟩;rw [hv,hw0] at hs;have hux:0<ux:=by
   rcases hs with hs | hs
   ·refine Jr.1 λhn=>?_
    have:ux=0:=by grind
    rw [this] at hs; grind
   ·grind
  have:=Xs hux hwy;rw [hw0]; grind
section
variable {α:Type} (X Y:α->Rat)
def lx (a b:α):Prop:=X a<X b\/X a=X b/\Y a<Y b
def Bl (a b c:α):Rat:=(X b-X a)*(Y c-Y a)-(X c-X a)*(Y b-Y a)
variable {X Y}
theorem Lz (a:α):¬lx X Y a a:=by unfold lx; grind
theorem gZ {a b c:α} (h:lx X Y a b) (h':lx X Y b c):lx X Y a c:=by unfold lx at *; grind
theorem L6 {a b:α} (h:lx X Y a b):0<X b-X a\/X b-X a=0/\0<Y b-Y a:=by unfold lx at h; grind
theorem FA (a b:α):Bl X Y a b a=0/\Bl X Y a b b=0:=by unfold Bl; grind
theorem hZ (a b c:α):Bl X Y a c b=- Bl X Y a b c:=by unfold Bl; grind
theorem yN (a b c:α):Bl X Y a b c=(X b-X a)*(Y c-Y b)-(X c-X b)*(Y b-Y a):=by unfold Bl; grind
def Edg (Q:α->α->Prop):List α->Prop
 | a::b::r=>Q a b/\Edg Q (b::r)
 | _=>True
def Cnv (R:α->α->α->Prop):List α->Prop
 | a::b::c::r=>R a b c/\Cnv R (b::c::r)
 | _=>True
theorem Edg.tail {Q:α->α->Prop} {a:α} {l:List α} (h:Edg Q (a::l)):Edg Q l:=by
 cases l with
 | nil=>trivial
 | cons b l=>exact h.2
theorem Cnv.tail {R:α->α->α->Prop} {a:α} {l:List α} (h:Cnv R (a::l)):Cnv R l:=by
 match l,h with
 | [],_=>trivial
 | [_],_=>trivial
 | b::c::l,h=>exact h.2
def Lr (s:α->α->α->Bool) (c:α):List α->List α
 | b::a::r=>if s a b c=true then b::a::r else Lr s c (a::r)
 | l=>l
def P6 (s:α->α->α->Bool):List α->List α->List α
 | acc,[]=>acc
 | acc,c::l=>P6 s (c::Lr s c acc) l
structure Stk (X Y:α->Rat) (P:List α) (st:List α):Prop where
 srt:st.Pairwise λb a=>lx X Y a b
 mem:∀ p∈st,p∈P
 edg:Edg (λb a=>∀ p∈P,0≤Bl X Y a b p) st
 cnv:Cnv (λc b a=>0<Bl X Y a b c) st
theorem Stk.tail {P:List α} {a:α} {st:List α} (h:Stk X Y P (a::st)):Stk X Y P st:=⟨(Zg.1 h.srt).2,λp hp=>h.mem p (Qg _ hp),h.edg.tail,h.cnv.tail⟩
theorem Qjv {P:List α} {s:α->α->α->Bool} {c:α} (hs:∀ a∈P,∀ b∈P,(s a b c=true↔0<Bl X Y a b c)) (hc:∀ p∈P,lx X Y p c) :
 ∀ (st:List α) (t:α),Stk X Y P (t::st)->(∀ p∈P,lx X Y t p->0≤Bl X Y t c p) ->
 ∃ t' st',Lr s c (t::st)=t'::st'/\Stk X Y P (t'::st')/\(∀ p∈P,lx X Y t' p->0≤Bl X Y t' c p)/\(∀ a r,st'=a::r->0<Bl X Y a t' c)/\(t'::st').getLast? = (t::st).getLast?
 | [],t,h,h2=>⟨t,[],rfl,h,h2,λa r e=>(by cases e),rfl⟩
 |
  a::r,t,h,h2=>by
  have ht:=h.mem t (by simp);have ha:=h.mem a (by simp);by_cases e:s a t c=true
  ·refine ⟨t,a::r,by simp only [Lr]; rw [if_pos e],h,h2,λa' r' e'=>?_,rfl⟩;injection e' with e1 _
   rw [<-e1]; exact (hs a ha t ht).1 e
  ·have hle:Bl X Y a t c<=0:=Rat.not_lt.1 λh'=>e ((hs a ha t ht).2 h')
   have hat:lx X Y a t:=(Zg.1 h.srt).1 a (by simp);obtain ⟨t',st',g1,g2,g3,g4,g5⟩:=Qjv hs hc r a h.tail λp hp hap=>by
    have e1:=h.edg.1 p hp;have k:=ang (L6 (hc a ha)) (L6 hat) (L6 hap) (by rw [hZ] at *; unfold Bl at *; grind) (by unfold Bl at *; grind);unfold Bl; grind
   exact ⟨t',st',by simp only [Lr]; rw [if_neg e]; exact g1,g2,g3,g4,by rw [g5]; rfl⟩
theorem OW {P:List α} {c:α}:∀ (st:List α) (t:α),Stk X Y P (t::st)->lx X Y t c->(∀ a r,st=a::r->0<Bl X Y a t c)->Edg (λb a=>0<Bl X Y a b c) (t::st)
 | [],_,_,_,_=>trivial
 | [a],t,_,_,h=>⟨h a [] rfl,trivial⟩
 |
  a::q::r,t,hS,htc,h=>by
  have h1:=h a (q::r) rfl;have h0:0<Bl X Y q a t:=hS.cnv.1;have p1:=Zg.1 hS.srt;have p2:=Zg.1 p1.2;have hat:lx X Y a t:=p1.1 a (by simp);have hqa:lx X Y q a:=p2.1 q (by simp);refine ⟨h1,OW (q::r) a hS.tail (gZ hat htc) λa' r' e=>?_⟩;injection e with e _;rw [<-e];rw [yN] at h0 h1 ⊢;have k:=(ang (L6 hqa) (L6 hat) (L6 htc) (Qt h0) (Qt h1)).2 (.inl h0);grind
theorem Qp0 {P:List α} {t:α} {st:List α} {c:α} (h:Stk X Y P (t::st)) (hc:∀ p∈P,lx X Y p c) (hP:∀ p∈P,p=t\/lx X Y p t\/lx X Y t p) (hb:∀ p∈P,(t::st).getLast? = some p\/∃ b,(t::st).getLast? = some b/\lx X Y b p) (h2:∀ p∈P,lx X Y t p->0≤Bl X Y t c p) (h3:∀ a r,st=a::r->0<Bl X Y a t c):Stk X Y (P++[c]) (c::t::st):=by
 have ht:=h.mem t (by simp);have htc:=hc t ht;have hf:=OW st t h htc h3;refine ⟨Zg.2 ⟨λp hp=>hc p (h.mem p hp),h.srt⟩,λp hp=>?_,⟨λp hp=>?_,?_⟩,?_⟩
 ·rcases Qm.1 hp with rfl | hp
  ·simp
  ·exact X8 _ (h.mem p hp)
 ·rcases Qr.1 hp with hp | hp
  ·rcases hP p hp with rfl | hpt | htp
   ·rw [(FA p c).1]; exact Qp
   ·cases st with
    |
     nil =>
     exfalso;rcases hb p hp with e | ⟨b,e,hb⟩
     ·injection e with e; subst e; exact Lz _ hpt
     ·injection e with e; subst e; exact Lz _ (gZ hpt hb)
    |
     cons a r =>
     have e1:=h.edg.1 p hp;have h3:=h3 a r rfl;have hat:lx X Y a t:=(Zg.1 h.srt).1 a (by simp);have k:=(ang (L6 hpt) (L6 hat) (L6 htc) (by unfold Bl at *; grind) (by unfold Bl at *; grind)).1;unfold Bl; grind
   ·exact h2 p hp htp
  ·rw [Qk.1 hp,(FA t c).2]; exact Qp
 ·cases st with
  | nil=>trivial
  |
   cons a r =>
   have key:∀ l:List α,Edg (λb a=>∀ p∈P,0≤Bl X Y a b p) l->Edg (λb a=>0<Bl X Y a b c) l->Edg (λb a=>∀ p∈P++[c],0≤Bl X Y a b p) l:=by
    intro l
    induction l with
    | nil=>intros; trivial
    |
     cons x l ih =>
     cases l with
     | nil=>intros; trivial
     |
      cons y l =>
      intro k1 k2;refine ⟨λp hp=>?_,ih k1.2 k2.2⟩;rcases Qr.1 hp with hp | hp
      ·exact k1.1 p hp
      ·rw [Qk.1 hp]; exact Qt k2.1
   exact key _ h.edg hf
 ·cases st with
  | nil=>trivial
  | cons a r=>exact ⟨h3 a r rfl,h.cnv⟩
theorem IL {s:α->α->α->Bool} {row:List α} (hs:∀ a∈row,∀ b∈row,∀ c∈row,(s a b c=true↔0<Bl X Y a b c)) (hrow:row.Pairwise (lx X Y)) :
 ∀ (l P:List α) (t:α) (st:List α),row=P++l->Stk X Y P (t::st)->P.getLast? = some t->(t::st).getLast? = P.head? ->
 ∃ t' st',P6 s (t::st) l=t'::st'/\Stk X Y row (t'::st')/\row.getLast? = some t'/\(t'::st').getLast? = row.head?
 |
  [],P,t,st,e,h,h1,h2=>by
  rw [Zw] at e; subst e;exact ⟨t,st,rfl,h,h1,h2⟩
 |
  c::l,P,t,st,e,h,h1,h2=>by
  have hPm:∀ p∈P,p∈row:=λp hp=>by rw [e]; exact X8 _ hp
  have hcm:c∈row:=by rw [e]; simp
  have hpw:=hrow;rw [e] at hpw;obtain ⟨w1,w2,w3⟩:=Xw.1 hpw;have hc:∀ p∈P,lx X Y p c:=λp hp=>w3 p hp c (by simp)
  have htop:∀ p∈P,p=t\/lx X Y p t:=λp hp=>by
   obtain ⟨P1,rfl⟩:∃ P1,P=P1++[t]:=by
    have:=Y8.1 h1;exact this
   rcases Qr.1 hp with hp | hp
   ·exact .inr ((Xw.1 w1).2.2 p hp t (by simp))
   ·exact .inl (Qk.1 hp)
  obtain ⟨t',st',g1,g2,g3,g4,g5⟩:=Qjv (λa ha b hb=>hs a (hPm a ha) b (hPm b hb) c hcm) hc st t h λp hp htp=>by
   rcases htop p hp with rfl | h'
   ·exact absurd htp (Lz _)
   ·exact absurd (gZ htp h') (Lz _)
  have tot:∀ p∈P,p=t'\/lx X Y p t'\/lx X Y t' p:=λp hp=>by
   obtain ⟨i,hi,rfl⟩:=V0.1 hp;obtain ⟨j,hj,e2⟩:=V0.1 (g2.mem t' (by simp));rcases Kn i j with h' | h' | h'
   ·exact .inr (.inl (by rw [<-e2]; exact Yc.1 w1 i j hi hj h'))
   ·subst h'; exact .inl e2
   ·exact .inr (.inr (by rw [<-e2]; exact Yc.1 w1 j i hj hi h'))
  have hPne:P≠[]:=λh'=>by rw [h'] at h1; cases h1
  have hb:∀ p∈P,(t'::st').getLast? = some p\/∃ b,(t'::st').getLast? = some b/\lx X Y b p:=λp hp=>by
   rw [g5,h2];cases P with
   | nil=>exact absurd rfl hPne
   |
    cons f P' =>
    rcases Qm.1 hp with rfl | hp
    ·exact .inl rfl
    ·exact .inr ⟨f,rfl,(Zg.1 w1).1 p hp⟩
  have hpush:=Qp0 g2 hc tot hb g3 g4;obtain ⟨t2,st2,k1,k2,k3,k4⟩:=IL hs hrow l (P++[c]) c (t'::st') (by rw [e]; simp) hpush (by simp) (by
   rw [J0,g5,h2];cases P with
   | nil=>exact absurd rfl hPne
   | cons f P'=>rfl)
  exact ⟨t2,st2,by simp only [P6]; rw [g1]; exact k1,k2,k3,k4⟩
theorem Qgr {P:List α} (tot:∀ p∈P,∀ q∈P,p=q\/lx X Y p q\/lx X Y q p) {z:α} :
 ∀ (L L':List α) (f:α),(f::L).Pairwise (lx X Y)->(f::L').Pairwise (lx X Y)->(∀ p∈f::L,p∈P)->(∀ p∈f::L',p∈P) ->
 Edg (λa b=>∀ p∈P,0≤Bl X Y a b p) (f::L)->Edg (λa b=>∀ p∈P,0≤Bl X Y a b p) (f::L') ->
 Cnv (λa b c=>0<Bl X Y a b c) (f::L)->Cnv (λa b c=>0<Bl X Y a b c) (f::L')->(f::L).getLast? = some z->(f::L').getLast? = some z->L=L':=by
 have one:∀ (L L':List α) (f b b':α),(f::b::L).Pairwise (lx X Y)->(f::b'::L').Pairwise (lx X Y)->(∀ p∈f::b::L,p∈P)->b'∈P ->
  Edg (λa b=>∀ p∈P,0≤Bl X Y a b p) (f::b::L)->0≤Bl X Y f b' b->Cnv (λa b c=>0<Bl X Y a b c) (f::b::L)->(f::b::L).getLast? = some z->(f::b'::L').getLast? = some z->¬lx X Y b b':=by
  intro L L' f b b' s s' m m' e e' c l l' hlt;have s1:=Zg.1 s;have hfb:lx X Y f b:=s1.1 b (by simp);have hcol:Bl X Y f b b'=0:=by
   have:=e.1 b' m';rw [hZ] at e'; grind
  cases L with
  |
   nil =>
   simp at l;subst l;have hz:b'=b\/lx X Y b' b:=by
    have:b∈f::b'::L':=V1 l';have s2:=(Zg.1 s').2;rcases Qm.1 this with rfl | h
    ·exact absurd hfb (Lz _)
    ·rcases Qm.1 h with h | h
     ·exact .inl h.symm
     ·exact .inr ((Zg.1 s2).1 b h)
   rcases hz with rfl | hz
   ·exact Lz _ hlt
   ·exact Lz _ (gZ hlt hz)
  |
   cons d M =>
   have h1:0<Bl X Y f b d:=c.1;have h2:=e.2.1 b' m';have s2:=Zg.1 s1.2;have hbd:lx X Y b d:=s2.1 d (by simp);have k:=(ang (L6 hlt) (L6 hfb) (L6 hbd) (by unfold Bl at hcol; grind) (by rw [yN] at h1; exact Rat.le_of_lt h1)).2 (.inr (by rw [yN] at h1; exact h1));unfold Bl at h2; grind
 intro L
 induction L with
 |
  nil =>
  intro L' f s s' m m' e e' c c' l l';simp at l;cases L' with
  | nil=>rfl
  |
   cons b' M' =>
   exfalso;subst l;have h1:=(Zg.1 s').1 f (by
    rw [J0] at l';exact V1 l')
   exact Lz _ h1
 |
  cons b M ih =>
  intro L' f s s' m m' e e' c c' l l';cases L' with
  |
   nil =>
   exfalso;simp at l';subst l';have h1:=(Zg.1 s).1 f (by
    rw [J0] at l;exact V1 l)
   exact Lz _ h1
  |
   cons b' M' =>
   have hb:=m b (by simp);have hb':=m' b' (by simp);have heq:b=b':=by
    rcases tot b hb b' hb' with h | h | h
    ·exact h
    ·exact absurd h (one M M' f b b' s s' m hb' e (e'.1 b hb) c l l')
    ·exact absurd h (one M' M f b' b s' s m' hb e' (e.1 b' hb') c' l' l)
   subst heq;rw [J0] at l l';rw [ih M' b (Zg.1 s).2 (Zg.1 s').2 (λp hp=>m p (Qg _ hp)) (λp hp=>m' p (Qg _ hp)) e.2 e'.2 c.tail c'.tail l l']
end
end Orq
namespace Orr
open Go
theorem Qhy (c:Int) (l:Um):Rz (l.map (· * c))=Rz l*c.natAbs:=by
 have key:∀ (l:Um) (g:Nat),(l.map (· * c)).foldl (λg z=>Nat.gcd g z.natAbs) (g*c.natAbs)=l.foldl (λg z=>Nat.gcd g z.natAbs) g*c.natAbs:=by
  intro l
  induction l with
  | nil=>intro g; rfl
  |
   cons z l ih =>
   intro g;simp only [Z0,Z9,J9,Nat.gcd_mul_right];exact ih _
 have:=key l 0;rwa [Yl] at this
theorem Qy0 {M:List Pt} (hs:Nu M) {i j:Nat} {p r:Pt} (hij:i<j) (hi:M[i]? = some p) (hj:M[j]? = some r):p.id<r.id:=by
 obtain ⟨h1,e1⟩:=Qf.1 hi;obtain ⟨h2,e2⟩:=Qf.1 hj;rw [<-e1,<-e2];exact Yc.1 hs i j h1 h2 hij
theorem Qh7 {M:List Pt} {i:Nat} (hi:i<M.length):(M.take i++M.drop (i+1)).length+1=M.length:=by
 rw [Qu,Qq,Q7]; omega
end Orr
namespace Orr
def S0 (a b:Crv):Um:=A7 (Gk (Gm a b) (Gm a b)) (Gk (Gl a b) (Gl a b))
def Hp (a b c d:Crv):Um:=M7 (Fw (S0 c d) ((a.d*b.d)*(a.d*b.d))) (Fw (S0 a b) ((c.d*d.d)*(c.d*d.d)))
theorem rV {a b:Crv} (ha:Cb a) (hb:Cb b):Ff (S0 a b)/\(S0 a b).length<=31/\Bd 4194312 (S0 a b):=by
 obtain ⟨_,l1,b1⟩:=rK ha hb;obtain ⟨_,l2,b2⟩:=rY ha hb;have m1:=Tv (Gm a b) (Gm a b);have m2:=Tv (Gl a b) (Gl a b);have q1:=Pk (u:=5) b1 b1 (by omega);have q2:=Pk (u:=5) b2 b2 (by omega);refine ⟨Fy _ _,?_,U5 (YV q1 q2) (by omega)⟩;have:=Og (Gk (Gm a b) (Gm a b)) (Gk (Gl a b) (Gl a b));unfold S0;omega
theorem nR {a b:Crv} (ha:Cb a) (hb:Cb b):Fe (a.d*b.d)<=2097152:=by
 have:=Ga a.d b.d; have:=ha.d; have:=hb.d; omega
theorem aM {a b:Crv} (ha:Cb a) (hb:Cb b):Fe ((a.d*b.d)*(a.d*b.d))<=4194304:=by
 have:=Ga (a.d*b.d) (a.d*b.d); have:=nR ha hb; omega
def Bi (sg:Um->Int) (a b c d:Pt):Ct:=⟨5,a.id,b.id,c.id,d.id,Hp a.c b.c c.c d.c,Hj sg (Hp a.c b.c c.c d.c)⟩
theorem LR (sg:Um->Int) (a b c d:Pt):(Bi sg a b c d).p=Hp a.c b.c c.c d.c:=by rw [Bi]
def H6:Nat->List Pt->List (Pt×Pt)
 | 0,_=>[]
 | _+1,[]=>[]
 | k+1,x::l=>l.map (λy=>(x,y))++H6 k l
def Gs (l:List Pt):List (Pt×Pt):=H6 l.length l
theorem Lo:∀ (l:List Pt) (i:Nat) (x:Pt),l[i]? = some x->H6 (i+1) l=H6 i l++(l.drop (i+1)).map (λy=>(x,y))
 | [],i,x,h=>by simp at h
 |
  y::l,0,x,h=>by
  simp at h; subst h;simp [H6]
 |
  y::l,i+1,x,h=>by
  have h:l[i]? = some x:=by simpa using h
  have ih:=Lo l i x h;show l.map (λz=>(y,z))++H6 (i+1) l=(l.map (λz=>(y,z))++H6 i l)++_;rw [ih,Zd];rfl
theorem Sy:∀ (k:Nat) (l:List Pt),∀ m∈H6 k l,m.1∈l/\m.2∈l
 | 0,l,m,h=>by simp [H6] at h
 | k+1,[],m,h=>by simp [H6] at h
 |
  k+1,x::l,m,h=>by
  rcases Qr.1 h with h | h
  ·obtain ⟨y,hy,rfl⟩:=Za.1 h;exact ⟨Qy ..,Qg _ hy⟩
  ·obtain ⟨h1,h2⟩:=Sy k l m h;exact ⟨Qg _ h1,Qg _ h2⟩
theorem WU:∀ (k:Nat) (l:List Pt),(H6 k l).length<=k*l.length
 | 0,l=>by simp [H6]
 | k+1,[]=>by simp [H6]
 |
  k+1,x::l=>by
  have:=WU k l;simp only [H6,Qu,Q9,Q5];have e:(k+1)*(l.length+1)=k*l.length+k+l.length+1:=by rw [X4,Xj]; omega
  omega
def P7 (sg:Um->Int) (s m:Pt×Pt):Pt×Pt:=if Hj sg (Hp s.1.c s.2.c m.1.c m.2.c)<0 then m else s
def Hn (sg:Um->Int) (s:Pt×Pt) (ps:List (Pt×Pt)):Pt×Pt:=ps.foldl (P7 sg) s
theorem RO (sg:Um->Int) (s m:Pt×Pt):P7 sg s m=m\/P7 sg s m=s:=by
 unfold P7
 split
 ·exact .inl rfl
 ·exact .inr rfl
theorem ZQ (sg:Um->Int) (s m:Pt×Pt) (ps:List (Pt×Pt)):Hn sg s (m::ps)=Hn sg (P7 sg s m) ps:=by unfold Hn; rw [List.foldl_cons]
theorem yR (sg:Um->Int) (s:Pt×Pt) (ps:List (Pt×Pt)) (m:Pt×Pt):Hn sg s (ps++[m])=P7 sg (Hn sg s ps) m:=by simp [Hn]
theorem Lk (sg:Um->Int) {l:List Pt}:∀ (ps:List (Pt×Pt)) (s:Pt×Pt),s.1∈l/\s.2∈l->(∀ m∈ps,m.1∈l/\m.2∈l)->(Hn sg s ps).1∈l/\(Hn sg s ps).2∈l
 | [],s,hs,_=>hs
 |
  m::ps,s,hs,h=>by
  have hn:(P7 sg s m).1∈l/\(P7 sg s m).2∈l:=by
   rcases RO sg s m with e | e
   ·rw [e]; exact h m (Qy ..)
   ·rw [e]; exact hs
  rw [ZQ];exact Lk sg ps (P7 sg s m) hn λx hx=>h x (Qg _ hx)
def ZH (s m:Pt×Pt):Bool:=decide (m.1.id≠s.1.id) || decide (m.2.id≠s.2.id)
def M3 (sg:Um->Int) (s:Pt×Pt) (ps:List (Pt×Pt)):List Ct:=(ps.filter (ZH s)).map λm=>Bi sg s.1 s.2 m.1 m.2
theorem Qon {sg:Um->Int} {s m:Pt×Pt} {ps:List (Pt×Pt)} (h:ZH s m=true):M3 sg s (ps++[m])=M3 sg s ps++[Bi sg s.1 s.2 m.1 m.2]:=by simp [M3,Vj,h]
theorem Qom {sg:Um->Int} {s m:Pt×Pt} {ps:List (Pt×Pt)} (h:ZH s m=false):M3 sg s (ps++[m])=M3 sg s ps:=by simp [M3,Vj,h]
theorem OQ {sg:Um->Int} {s:Pt×Pt} {ps:List (Pt×Pt)} {c:Ct} (h:c∈M3 sg s ps):∃ x∈ps,Bi sg s.1 s.2 x.1 x.2=c:=by
 unfold M3 at h;obtain ⟨x,hx,e⟩:=Za.1 h;exact ⟨x,(Yi.1 hx).1,e⟩
theorem II (sg:Um->Int) (s:Pt×Pt) (ps:List (Pt×Pt)):(M3 sg s ps).length<=ps.length:=by
 unfold M3;rw [Q9];exact Y0 _ _
def ZR (sg:Um->Int):List Pt->List Pt
 | a::b::l=>[(Hn sg (a,b) (Gs (a::b::l))).1,(Hn sg (a,b) (Gs (a::b::l))).2]
 | _=>[]
def Ln (sg:Um->Int):List Pt->List Ct
 | a::b::l=>M3 sg (Hn sg (a,b) (Gs (a::b::l))) (Gs (a::b::l))
 | _=>[]
theorem Qc2 (sg:Um->Int) {l:List Pt} (h:l.length<2):ZR sg l=[]/\Ln sg l=[]:=by
 match l,h with
 | [],_=>exact ⟨rfl,rfl⟩
 | [a],_=>exact ⟨rfl,rfl⟩
theorem Qwp {l:List Pt} (h:¬l.length<2):∃ a b m,l=a::b::m:=by
 match l,h with
 | [],h=>simp at h
 | [a],h=>simp at h
 | a::b::m,_=>exact ⟨a,b,m,rfl⟩
theorem qD (sg:Um->Int) (l:List Pt):(Ln sg l).length<=l.length*l.length:=by
 match l with
 | []=>simp [Ln]
 | [a]=>simp [Ln]
 | a::b::m=>exact Qa (II _ _ _) (WU _ _)
def Il (l:List Un):Us:=l.map λr=>[.row (r.map λp=>[pl p])]
abbrev JB (r:Un):Us:=r.map λp=>[pl p]
theorem VZ (l:List Un):(Il l).length=l.length:=by simp [Il]
def JJ (i:Nat) (rows:List Un):Nat->List Un
 | 0=>[]
 | j+1=>if j=i then JJ i rows j else JJ i rows j++[(rows.getD j []).drop 1]
def VM (rows:List Un) (i:Nat):List Un:=JJ i rows rows.length
def Dn (f:Nat->Um) (rows:List Un):Nat->Um
 | 0=>[]
 |
  i+1=>if ((rows.getD i []).getD 0 []).length=0 then Dn f rows i else
  if i % 2=0 then A7 (Dn f rows i) (Gk ((rows.getD i []).getD 0 []) (f i)) else M7 (Dn f rows i) (Gk ((rows.getD i []).getD 0 []) (f i))
def Lp:Nat->List Un->Um
 | 0,_=>[1]
 | k+1,rows=>Dn (λi=>Lp k (VM rows i)) rows (k+1)
structure Sq (s:Nat) (ds:List Nat) (k w:Nat) (rows:List (List (List Int))):Prop where
 l:rows.length=k
 w:∀ r∈rows,r.length=w
 t:∀ r∈rows,∀ p∈r,Ff p
 b:∀ r∈rows,∀ p∈r,Bd s p
 n:∀ r∈rows,∀ (j:Nat) (p:List Int),r[j]? = some p->p.length≤ds.getD j 0+1
theorem LH {i:Nat} {rows:List Un}:∀ {j:Nat} {r:Un},j≤rows.length->r∈JJ i rows j->∃ q∈rows,r=q.drop 1
 | 0,r,_,h=>by simp [JJ] at h
 |
  j+1,r,hj,h=>by
  simp only [JJ] at h
  split at h
  ·exact LH (by omega) h
  ·rcases Qr.1 h with h | h
   ·exact LH (by omega) h
   ·rw [Qk.1 h];exact ⟨rows.getD j [],Qc (i:=j) (by rw [Qi,Qe (by omega)]; rfl),rfl⟩
theorem LG {i:Nat} {rows:List Un}:∀ (j:Nat),(JJ i rows j).length=if i<j then j-1 else j
 | 0=>rfl
 |
  j+1=>by
  have ih:=LG (i:=i) (rows:=rows) j;simp only [JJ]
  split
  ·rename_i e; subst e; rw [ih,if_neg (by omega),if_pos (by omega)]; omega
  ·rw [Qu,ih,Vr]
   split <;> split <;> omega
theorem Sq.min {s d k w:Nat} {ds:Uo} {rows:List Un} (h:Sq s (d::ds) (k+1) (w+1) rows) {i:Nat} (hi:i<k+1):Sq s ds k w (VM rows i):=by
 have hl:=h.l;have hm:∀ {r:Un},r∈VM rows i->∃ q∈rows,r=q.drop 1:=λh=>LH (Ql _) h
 refine ⟨by unfold VM; rw [LG,hl,if_pos hi]; omega,λr hr=>?_,λr hr p hp=>?_,λr hr p hp=>?_,λr hr j p hp=>?_⟩
 ·obtain ⟨q,hq,rfl⟩:=hm hr;rw [Q7,h.w q hq]; omega
 all_goals obtain ⟨q,hq,rfl⟩:=hm hr
 ·exact h.t q hq p (Qz hp)
 ·exact h.b q hq p (Qz hp)
 ·rw [Xc] at hp;have:=h.n q hq (1+j) p hp;rw [Ju 1 j] at this;exact this
theorem Sq.at {s d k w:Nat} {ds:Uo} {rows:List Un} (h:Sq s (d::ds) k (w+1) rows) {i:Nat} (hi:i<k):∃ p r,rows[i]? = some (p::r)/\(rows.getD i []).getD 0 []=p/\Ff p/\Bd s p/\p.length<=d+1:=by
 obtain ⟨r,hr⟩:=gxE (l:=rows) (i:=i) (by rw [h.l]; exact hi);have hm:=Qc hr;cases r with
 | nil=>have:=h.w _ hm; simp at this
 |
  cons p r =>
  have e:rows.getD i []=p::r:=by rw [Qi,hr]; rfl
  refine ⟨p,r,hr,by rw [e]; rfl,h.t _ hm p (by simp),h.b _ hm p (by simp),h.n _ hm 0 p rfl⟩
theorem jW {s d k w:Nat} {ds:Uo} {f:Nat->Um} {rows:List Un} {B L:Nat} (h:Sq s (d::ds) k (w+1) rows) (hn:d<31) (hf:∀ i,i<k->Bd B (f i)/\(f i).length<=L+1):∀ i,i<=k->Ff (Dn f rows i)/\Bd (s+B+5+i) (Dn f rows i)/\(Dn f rows i).length<=d+L+1
 | 0,_=>⟨rfl,λz hz=>(by cases hz),Qh _⟩
 |
  i+1,hi=>by
  obtain ⟨h1,h2,h3⟩:=jW h hn hf i (by omega);obtain ⟨p,r,_,e,t,b,l⟩:=h.at (i:=i) (by omega);obtain ⟨f1,f2⟩:=hf i (by omega);have hp1:Bd (s+B+5) (Gk p (f i)):=Pk b f1 (by omega);have hp2:=Tv p (f i);simp only [Dn];rw [e]
  split
  ·exact ⟨h1,U5 h2 (by omega),h3⟩
  ·split
   ·exact ⟨Fy _ _,U5 (YV h2 hp1) (by omega),Qa (Og _ _) (by omega)⟩
   ·exact ⟨Fy _ _,U5 (Du h2 hp1) (by omega),Qa (Nh _ _) (by omega)⟩
theorem NX {s:Nat}:∀ (k:Nat) (ds:Uo) (rows:List Un),k<=4->ds.length=k->ds.sum<31->Sq s ds k k rows->Ff (Lp k rows)/\Bd (k*(s+10)+1) (Lp k rows)/\(Lp k rows).length<=ds.sum+1
 | 0,ds,rows,_,_,_,_=>⟨rfl,λz hz=>(by simp [Lp] at hz; subst hz; rw [Yl]; decide),by simp [Lp]⟩
 | k+1,[],rows,_,hl,_,_=>by simp at hl
 |
  k+1,d::ds,rows,hk,hl,hd,h=>by
  rw [Ku] at hd;have ih:=λi (hi:i<k+1)=>NX k ds (VM rows i) (by omega) (by simpa using hl) (by omega) (h.min hi)
  obtain ⟨h1,h2,h3⟩:=jW (f:=λi=>Lp k (VM rows i)) (B:=k*(s+10)+1) (L:=ds.sum) h (by omega) (λi hi=>⟨(ih i hi).2.1,(ih i hi).2.2⟩) (k+1) (Ql _);have e1:(k+1)*(s+10)=k*(s+10)+(s+10):=Xa ..;rw [Ku];exact ⟨h1,U5 h2 (by omega),h3⟩
def rQ (a b c:Crv):List Un:=[[a.x,a.y,[a.d]],[b.x,b.y,[b.d]],[c.x,c.y,[c.d]]]
def Hh (a b c:Crv):Um:=Lp 3 (rQ a b c)
end Orr
namespace Orr
open Go Go.Proofs Tryz Orq
set_option maxRecDepth 10000
theorem gz {P:Program} [Mo P] {n:Nat} {Q:Exit->Sg->Ut->Prop} {L L':Sg} {B B':Ut} (i:Nat) {it:List It} (hs:Rk it=true) (h:Qc6 [i] L B=some (L',B')) (k:AK P n Q it L' B'):AK P n Q it L B:=AK.sub (GK h) hs k
theorem EM {r:Un} {i:Nat} {p:Um} (h:r[i]? = some p):(JB r)[i]? = some [pl p]:=G5 h
theorem Ab {l:List Un} {i:Nat} {r:Un} (h:l[i]? = some r):(Il l)[i]? = some [.row (JB r)]:=G5 h
theorem Qei {r:Un} (ht:∀ p∈r,Ff p) (hb:∀ p∈r,Bd 1000000 p) (hl:∀ p∈r,p.length≤1000000) (hn:r.length≤1000):Uj 210 [.one (.row (JB r))] [.one (.row (JB r))]:=by
 have hrl:(JB r).length=r.length:=by simp
 refine Fv func210 rfl ?_;refine Ud [.o 3 33 1] rfl ?_;refine Ui (S:=Nat) 1 (λL1 i=>(8,.v (.oi i))::(3,.v (.one (.orow 0 1 none)))::L1) (λi=>[.row false 33 1 (JB (r.take i))]) (λi=>r.length-i) (λi=>i<=r.length) 0 (Qh _) rfl rfl λi hi=>?_
 by_cases h:i<r.length
 ·obtain ⟨p,hp⟩:=gxE (l:=r) (i:=i) h;have hm:=Qc hp;have hs:∀ y∈[[pl p]],y.length=1:=λy hy=>by rw [Qk.1 hy]; rfl
  have e:JB (r.take (i+1))=JB (r.take i)++[[pl p]]:=by rw [Zv,hp]; simp
  refine go tt [.T,.x (EM hp),.k (Ht (ht p hm) (by have:=hl p hm; omega) (U5 (hb p hm) (by decide))),.s (sz:=1) hs] rfl (by simp [U3] <;> omega) ?_;exact rd (i+1) (by omega) h (by rw [e]; rfl)
 ·obtain rfl:i=r.length:=by omega
  rw [Q6];exact Uf [.F] rfl
theorem Qx1 {s k w:Nat} {ds:Uo} {rows:List Un} (h:Sq s ds k k rows) (_hw:w=k) (hk:k<=4):Uj 246 [.one (.row (Il rows))] [.one (.bool true)]:=by
 have hrl:=VZ rows;have hl:=h.l;refine Fv func246 rfl ?_;refine Ud [] rfl ?_;refine Ui (S:=Nat) 0 (λL1 i=>(7,.v (.oi i))::L1) (λ_=>[]) (λi=>rows.length-i) (λi=>i<=rows.length) 0 (Qh _) rfl rfl λi hi=>?_
 by_cases hlt:i<rows.length
 ·obtain ⟨r,hr⟩:=gxE (l:=rows) (i:=i) hlt;have hw:=h.w r (Qc hr);have hql:(JB r).length=r.length:=by simp
  refine go tt [.T,.x (Ab hr),.f (decide_eq_false (λh=>h (by omega)))] rfl (by simp [U3] <;> omega) ?_;exact rd (i+1) (by omega) hlt rfl
 ·exact Uf [.F] rfl (by rw [decide_eq_true (by omega:((Il rows).length:Int)<=4)]) trivial
theorem Qny {s k w:Nat} {ds:Uo} {rows:List Un} (h:Sq s ds k w rows) (hs:s<=1000000) (hk:k<=4) (hw:w<=4) (hd:∀ j,ds.getD j 0<=1000) (i:Nat):Uj 274 [.oi i,.oi 0,.one (.row (Il rows))] [.one (.row (Il (VM rows i)))]:=by
 have hrl:=VZ rows;have hl:=h.l;have hml:∀ j,j<=rows.length->(Il (JJ i rows j)).length<=4:=λj hj=>by
  rw [VZ,LG]; split <;> omega
 refine Fv func274 rfl ?_;refine Ud [.o 7 284 1] rfl ?_;refine Ui (S:=Nat) 1 (λL1 j=>(15,.v (.oi j))::(7,.v (.one (.orow 0 1 none)))::L1) (λj=>[.row false 284 1 (Il (JJ i rows j))]) (λj=>rows.length-j) (λj=>j<=rows.length) 0 (Qh _) rfl rfl λj hj=>?_
 have hmlj:=hml j hj;by_cases hlt:j<rows.length
 ·obtain ⟨r,hr⟩:=gxE (l:=rows) (i:=j) hlt;have hm:=Qc hr;have hw:=h.w r hm;have hql:(JB r).length=r.length:=by simp
  by_cases hij:j=i
  ·have e:JJ i rows (j+1)=JJ i rows j:=by simp only [JJ]; rw [if_pos hij]
   refine go tt [.T,.x (Ab hr),.T] rfl (by simp [U3] <;> omega) ?_;exact rd (j+1) (by omega) hlt (by rw [e]; rfl)
  ·have e:JJ i rows (j+1)=JJ i rows j++[r.drop 1]:=by
    simp only [JJ]; rw [if_neg hij,Qi,hr]; rfl
   refine Ud [.T,.x (Ab hr),.F,.o 10 33 1] rfl ?_ (by simp [U3]);refine Ui (S:=Nat) 2 (λL1 c=>(25,.v (.oi c))::(10,.v (.one (.orow 1 1 none)))::L1) (λc=>[.row false 284 1 (Il (JJ i rows j)),.row false 33 1 (JB ((r.take c).drop 1))]) (λc=>r.length-c) (λc=>c<=r.length) 0 (Qh _) rfl rfl λc hc=>?_
   by_cases hcl:c<r.length
   ·obtain ⟨p,hp⟩:=gxE (l:=r) (i:=c) hcl;have hpm:=Qc hp;by_cases h0:c=0
    ·subst h0;refine Ud [.T,.x (EM hp),.f (decide_eq_false (by simp))] rfl ?_ (by simp [U3]);exact rd 1 (by omega) hcl (by rw [Zv,hp]; rfl)
    ·have hs1:∀ y∈[[pl p]],y.length=1:=λy hy=>by rw [Qk.1 hy]; rfl
     have e2:JB ((r.take (c+1)).drop 1)=JB ((r.take c).drop 1)++[[pl p]]:=by
      rw [Zv,hp,Wg (by rw [Qq]; omega)]; simp
     refine go tt [.T,.x (EM hp),.T,.k (Ht (h.t r hm p hpm) (by have:=h.n r hm c p hp; have:=hd c; omega) (U5 (h.b r hm p hpm) (by omega))),.s (sz:=1) hs1] rfl (by simp [U3] <;> omega) ?_;exact rd (c+1) (by omega) hcl (by rw [e2]; rfl)
   ·obtain rfl:c=r.length:=by omega
    rw [Q6];have hs1:∀ y∈[[LV.row (JB (r.drop 1))]],y.length=1:=λy hy=>by rw [Qk.1 hy]; rfl
    refine Ud [.F] rfl ?_;refine gz 1 rfl rfl ?_;refine go tt [.s (sz:=1) hs1] rfl (by simp [U3] <;> omega) ?_;exact rd (j+1) (by omega) hlt (by rw [e]; simp [Il]; rfl)
 ·obtain rfl:j=rows.length:=by omega
  exact Uf [.F] rfl
theorem SH:∀ (ds:Uo) (j:Nat),ds.getD j 0<=ds.sum
 | [],j=>by simp
 | d::ds,0=>by simp
 |
  d::ds,j+1=>by
  have:=SH ds j;rw [Ku];show ds.getD j 0<=_;omega
theorem Qrz {s:Nat} (hs:s<=100000):∀ (k:Nat) (ds:Uo) (rows:List Un),k<=4->ds.length=k->ds.sum<31->Sq s ds k k rows->Uj 247 [.one (.row (Il rows))] [pr (Lp k rows)]
 |
  0,ds,rows,_,_,_,h=>by
  have e:=Qj h.l;subst e;have co:=lK (p:=[1]) (by decide) (by decide);exact Ug func247 rfl [.t rfl,.k co] rfl
 | k+1,[],_,_,hl,_,_=>by simp at hl
 |
  k+1,d::ds,rows,hk,hl,hd,h=>by
  rw [Ku] at hd;have hl':ds.length=k:=by simpa using hl
  have hrl:=VZ rows;have hrn:=h.l;have hmin:=λi (hi:i<k+1)=>h.min hi
  have ih:=λi (hi:i<k+1)=>Qrz hs k ds (VM rows i) (by omega) hl' (by omega) (hmin i hi)
  have hok:=λi (hi:i<k+1)=>NX k ds (VM rows i) (by omega) hl' (by omega) (hmin i hi)
  have hb:k*(s+10)+1<=500000:=by
   have:k*(s+10)<=4*(100010):=Zc (by omega) (by omega);omega
  have hds:=jW (f:=λi=>Lp k (VM rows i)) (B:=k*(s+10)+1) (L:=ds.sum) h (by omega) (λi hi=>⟨(hok i hi).2.1,(hok i hi).2.2⟩);have cm:=Qny h (by omega) hk hk (λj=>by have:=SH (d::ds) j; rw [Ku] at this; omega);show Uj 247 [.one (.row (Il rows))] [pr (Dn (λi=>Lp k (VM rows i)) rows (k+1))];obtain ⟨f,hf⟩:=nmE (λi=>Lp k (VM rows i));rw [<-hf] at hds ⊢;have hfi:∀ i,f i=Lp k (VM rows i):=λi=>by rw [hf]
  refine Fv func247 rfl ?_;refine Ud [.F,.z 3] rfl ?_;refine Ui (S:=Nat) 0 (λL1 i=>(14,.v (.oi i))::(3,.v (pr (Dn f rows i)))::L1) (λ_=>[]) (λi=>k+1-i) (λi=>i<=k+1) 0 (Qh _) rfl rfl λi hi=>?_
  obtain ⟨d1,d2,d3⟩:=hds i hi;by_cases hlt:i<k+1
  ·obtain ⟨p,r,hr,e,t,b,l⟩:=h.at hlt;have hx0:(JB (p::r))[0]? = some [pl p]:=rfl;have hpl:(p.map G8).length=p.length:=by simp
   have cn:=Ht t (by omega) (U5 b (by omega));by_cases h0:p.length=0
   ·have es:Dn f rows (i+1)=Dn f rows i:=by simp only [Dn]; rw [e,if_pos h0]
    refine go tt [.T,.x (Ab hr),.x hx0,.k cn,.T] rfl (by simp [U3] <;> omega) ?_;exact rd (i+1) (by omega) hlt (by rw [es]; rfl)
   ·obtain ⟨k1,k2,k3⟩:=hok i hlt;have ci:=ih i hlt;have cp:=KP (p:=p) (q:=f i) t (by rw [hfi]; exact k1) (by omega) (by rw [hfi]; omega) b (by rw [hfi]; exact k2) (by omega);have hmb:Bd (s+(k*(s+10)+1)+5) (Gk p (f i)):=Pk b (by rw [hfi]; exact k2) (by omega);have hml:=Tv p (f i);have hfl:(f i).length<=ds.sum+1:=by rw [hfi]; exact k3
    rw [<-hfi] at ci;by_cases h2:i % 2=0
    ·have es:Dn f rows (i+1)=A7 (Dn f rows i) (Gk p (f i)):=by simp only [Dn]; rw [e,if_neg h0,if_pos h2]
     refine go tt [.T,.x (Ab hr),.x hx0,.k cn,.F,.x hx0,.k (cm i),.k ci,.k cp,.r 34 (eI (b:=((i % 2:Nat):Int)) rfl),.T,.k (BR (p:=Dn f rows i) (q:=Gk p (f i)) (by omega) (by omega) (U5 d2 (by omega)) (U5 hmb (by omega)))] rfl (by simp [U3] <;> omega) ?_;exact rd (i+1) (by omega) hlt (by rw [es]; rfl)
    ·have es:Dn f rows (i+1)=M7 (Dn f rows i) (Gk p (f i)):=by simp only [Dn]; rw [e,if_neg h0,if_neg h2]
     refine go tt [.T,.x (Ab hr),.x hx0,.k cn,.F,.x hx0,.k (cm i),.k ci,.k cp,.r 34 (eI (b:=((i % 2:Nat):Int)) rfl),.F,.k (HT (p:=Dn f rows i) (q:=Gk p (f i)) (by omega) (by omega) (U5 d2 (by omega)) (U5 hmb (by omega)))] rfl (by simp [U3] <;> omega) ?_;exact rd (i+1) (by omega) hlt (by rw [es]; rfl)
  ·obtain rfl:i=k+1:=by omega
   exact Uf [.F] rfl
theorem Qrt {s:Nat} (hs:s<=100000) {k:Nat} {ds:Uo} {rows:List Un} (hk:k<=4) (hl:ds.length=k) (hd:ds.sum<31) (h:Sq s ds k k rows):Uj 211 [.one (.row (Il rows))] [pr (Lp k rows),.oi 0] :=
 Ug func211 rfl [.k (Qx1 h rfl hk),.f rfl,.k (Qrz hs k ds rows hk hl hd h)] rfl
theorem mW {k:Crv} (hk:Sc k):Uj 209 [.agg (cl k)] [.one (.row (JB [k.x,k.y,[k.d]]))]:=by
 have h0:k.d≠0:=by have:=hk.n.2.2.1; omega
 have td:Ff [k.d]:=by unfold Ff; simp [trim,h0]
 have cd:=Qei (r:=[k.x,k.y,[k.d]]) (λp hp=>by
  rcases Qm.1 hp with rfl | hp
  ·exact hk.n.1
  rcases Qm.1 hp with rfl | hp
  ·exact hk.n.2.1
  ·rw [Qk.1 hp]; exact td) (λp hp=>by
  rcases Qm.1 hp with rfl | hp
  ·exact U5 hk.c.x (by decide)
  rcases Qm.1 hp with rfl | hp
  ·exact U5 hk.c.y (by decide)
  ·rw [Qk.1 hp];intro z hz; rw [Qk.1 hz]; exact Qa hk.c.d (by decide)) (λp hp=>by
  rcases Qm.1 hp with rfl | hp
  ·have:=hk.c.lx; omega
  rcases Qm.1 hp with rfl | hp
  ·have:=hk.c.ly; omega
  ·rw [Qk.1 hp]; show 1<=1000000; decide) (by show 3<=1000; decide)
 exact Ug func209 rfl [.k (Dx hk.n (hk.c.mono (by decide) (by decide))),.k cd] rfl
theorem tO {a b c:Crv} (ha:Sc a) (hb:Sc b) (hc:Sc c):Sq 128 [2,2,0] 3 3 (rQ a b c):=by
 have key:∀ k:Crv,Sc k->(∀ p∈[k.x,k.y,[k.d]],Ff p/\Bd 128 p)/\∀ (j:Nat) (p:Um),[k.x,k.y,[k.d]][j]? = some p->p.length≤[2,2,0].getD j 0+1:=λk hk=>by
  have h0:k.d≠0:=by have:=hk.n.2.2.1; omega
  have td:Ff [k.d]:=by unfold Ff; simp [trim,h0]
  refine ⟨λp hp=>?_,λj p hp=>?_⟩
  ·rcases Qm.1 hp with rfl | hp
   ·exact ⟨hk.n.1,hk.c.x⟩
   rcases Qm.1 hp with rfl | hp
   ·exact ⟨hk.n.2.1,hk.c.y⟩
   ·rw [Qk.1 hp];exact ⟨td,λz hz=>by rw [Qk.1 hz]; exact hk.c.d⟩
  ·match j,hp with
   | 0,hp=>injection hp with hp; subst hp; exact hk.c.lx
   | 1,hp=>injection hp with hp; subst hp; exact hk.c.ly
   | 2,hp=>injection hp with hp; subst hp; exact Ql _
   | j+3,hp=>simp at hp
 have hr:∀ r∈rQ a b c,∃ k:Crv,Sc k/\r=[k.x,k.y,[k.d]]:=λr hr=>by
  rcases Qm.1 hr with rfl | hr
  ·exact ⟨a,ha,rfl⟩
  rcases Qm.1 hr with rfl | hr
  ·exact ⟨b,hb,rfl⟩
  ·rw [Qk.1 hr]; exact ⟨c,hc,rfl⟩
 refine ⟨rfl,λr h=>?_,λr h p hp=>?_,λr h p hp=>?_,λr h j p hp=>?_⟩
 all_goals obtain ⟨k,hk,rfl⟩:=hr r h
 ·rfl
 ·exact ((key k hk).1 p hp).1
 ·exact ((key k hk).1 p hp).2
 ·exact (key k hk).2 j p hp
theorem YR {a b c:Crv} (ha:Sc a) (hb:Sc b) (hc:Sc c):Cp (Hh a b c):=by
 obtain ⟨h1,h2,h3⟩:=NX 3 [2,2,0] (rQ a b c) (by decide) rfl (by decide) (tO ha hb hc);exact ⟨h1,Qa h3 (by decide),U5 h2 (by decide)⟩
theorem wU {a b c:Crv} (ha:Sc a) (hb:Sc b) (hc:Sc c):Uj 175 [.agg (cl a),.agg (cl b),.agg (cl c)] [pr (Hh a b c)]:=by
 have cd:=Qrt (by decide) (k:=3) (ds:=[2,2,0]) (by decide) rfl (by decide) (tO ha hb hc);exact Ug func175 rfl [.k (mW ha),.k (mW hb),.k (mW hc),.k cd] rfl
end Orr
namespace Orq
open Orr Go
theorem sW {p q:Um} (tp:Ff p) (tq:Ff q) (h:∀ i,p.getD i 0=q.getD i 0):p=q:=by
 have hl:∀ {p q:Um},Ff p->(∀ i,p.getD i 0=q.getD i 0)->p.length<=q.length:=λ{p q} tp h=>by
  refine Nat.not_lt.1 λhn=>?_
  have h1:=H8 tp (by omega);rw [h,Qi,Qw (by omega)] at h1;exact h1 rfl
 have e:=Kb (hl tp h) (hl tq λi=>(h i).symm);refine List.ext_getElem e λi h1 h2=>?_
 have:=h i;rw [Qi,Qi,Qe h1,Qe h2] at this;exact this
theorem fK {p:Um} (h:p=[]) (i:Nat):p.getD i 0=0:=by rw [h]; simp
theorem Ev (p:Um) (c:Int) (i:Nat):(Fw p c).getD i 0=p.getD i 0*c:=by
 unfold Fw;rw [Pa]
 split
 ·rfl
 ·rename_i h;rw [Qi,Qw (by omega)]; simp
theorem ER (p q:Um) (i:Nat):(M7 p q).getD i 0=p.getD i 0-q.getD i 0:=by
 unfold M7;rw [Pa]
 split
 ·rfl
 ·rename_i h;rw [Qi,Qi,Qw (by omega),Qw (by omega)]; simp
theorem Qpm {x y:Crv} (hx:ZA x) (hy:ZA y) (h1:Gm x y=[]) (h2:Gl x y=[]):x=y:=by
 have e1:∀ i,y.x.getD i 0*x.d=x.x.getD i 0*y.d:=λi=>by
  have:=fK h1 i;unfold Gm at this;rw [ER,Ev,Ev] at this;omega
 have e2:∀ i,y.y.getD i 0*x.d=x.y.getD i 0*y.d:=λi=>by
  have:=fK h2 i;unfold Gl at this;rw [ER,Ev,Ev] at this;omega
 have key:∀ {x y:Crv},ZA x->ZA y->(∀ i,y.x.getD i 0*x.d=x.x.getD i 0*y.d)->(∀ i,y.y.getD i 0*x.d=x.y.getD i 0*y.d)->x.d∣y.d:=λ{x y} hx hy e1 e2=>by
  have hd:=uS (d:=x.d) (l:=(x.d::(x.x++x.y)).map (· * y.d)) λz hz=>by
   obtain ⟨w,hw,rfl⟩:=Za.1 hz;rcases Qm.1 hw with rfl | hw
   ·exact Int.dvd_mul_right _ _
   ·rcases Qr.1 hw with hw | hw
    ·obtain ⟨i,hi,rfl⟩:=V0.1 hw;have:=e1 i;rw [show x.x.getD i 0=x.x[i] from by rw [Qi,Qe hi]; rfl] at this;rw [<-this]; exact Y9 _ _
    ·obtain ⟨i,hi,rfl⟩:=V0.1 hw;have:=e2 i;rw [show x.y.getD i 0=x.y[i] from by rw [Qi,Qe hi]; rfl] at this;rw [<-this]; exact Y9 _ _
  rw [Qhy,hx.2.2.2,Wn] at hd;exact V5 hd (Int.natAbs_dvd.2 (K7 _))
 have hd:x.d=y.d:=Int.dvd_antisymm (Int.le_of_lt hx.2.2.1) (Int.le_of_lt hy.2.2.1) (key hx hy e1 e2) (key hy hx (λi=>(e1 i).symm) λi=>(e2 i).symm);have hd0:y.d≠0:=by have:=hy.2.2.1; omega
 rw [hd] at e1 e2;have ex:x.x=y.x:=sW hx.1 hy.1 λi=>(Y4 hd0 (e1 i)).symm
 have ey:x.y=y.y:=sW hx.2.1 hy.2.1 λi=>(Y4 hd0 (e2 i)).symm
 cases x; cases y;simp only at hd ex ey;rw [hd,ex,ey]
theorem Qq7 (l:List Pt):(To l).Pairwise λx y=>x.c≠y.c:=by
 have key:∀ (l out:List Pt),out.Pairwise (λx y=>x.c≠y.c)->(l.foldl Ca out).Pairwise λx y=>x.c≠y.c:=by
  intro l
  induction l with
  | nil=>intro out h; exact h
  |
   cons p l ih =>
   intro out h;refine ih _ ?_;unfold Ca
   split
   ·exact h
   ·rename_i hn;refine Xw.2 ⟨h,Kl _ _,λa ha b hb e=>hn ?_⟩;rw [Qk.1 hb] at e;rw [List.any_eq_true];exact ⟨a,ha,by rw [<-e]; simp [Ef]⟩
 exact key l [] .nil
theorem Qln (l:List Pt):(To l).Sublist l:=by
 have key:∀ (l out o:List Pt),out.Sublist o->(l.foldl Ca out).Sublist (o++l):=by
  intro l
  induction l with
  | nil=>intro out o h; rw [Zw]; exact h
  |
   cons p l ih =>
   intro out o h;have:(Ca out p).Sublist (o++[p]):=by
    unfold Ca
    split
    ·exact h.trans (List.sublist_append_left _ _)
    ·exact h.append (List.Sublist.refl _)
   have:=ih _ _ this;rwa [Zd] at this
 exact key l [] [] (List.Sublist.refl _)
theorem Oq (f:Nat->Um) (rows:List Un) (q:Rat) (i:Nat):U9 (Dn f rows (i+1)) q=U9 (Dn f rows i) q+(if i % 2=0 then 1 else -1)*(U9 ((rows.getD i []).getD 0 []) q*U9 (f i) q):=by
 simp only [Dn]
 split
 ·rename_i h;have:U9 ((rows.getD i []).getD 0 []) q=0:=by rw [Qj h]; rfl
  rw [this]; grind
 ·split
  ·rw [EZ,Gj]; grind
  ·rw [Nk,Gj]; grind
theorem iI (z:Int) (q:Rat):U9 [z] q=(z:Rat):=by simp [U9,Rat.add_zero]
theorem rW (p:Um) (q:Rat):U9 (Lp 1 [[p]]) q=U9 p q:=by
 show U9 (Dn (λi=>Lp 0 (VM [[p]] i)) [[p]] (0+1)) q=_;rw [Oq];show (0:Rat)+1*(U9 p q*U9 [1] q)=_;rw [iI];have:((1:Int):Rat)=1:=rfl;grind
theorem EQ (p r s t:Um) (q:Rat):U9 (Lp 2 [[p,r],[s,t]]) q=U9 p q*U9 t q-U9 s q*U9 r q:=by
 show U9 (Dn (λi=>Lp 1 (VM [[p,r],[s,t]] i)) [[p,r],[s,t]] (0+1+1)) q=_;rw [Oq,Oq];show (0:Rat)+1*(U9 p q*U9 (Lp 1 [[t]]) q)+(-1)*(U9 s q*U9 (Lp 1 [[r]]) q)=_;rw [rW,rW]; grind
theorem Qjr (a1 a2 a3 b1 b2 b3 c1 c2 c3:Um) (q:Rat):U9 (Lp 3 [[a1,a2,a3],[b1,b2,b3],[c1,c2,c3]]) q=U9 a1 q*(U9 b2 q*U9 c3 q-U9 c2 q*U9 b3 q)-U9 b1 q*(U9 a2 q*U9 c3 q-U9 c2 q*U9 a3 q)+U9 c1 q*(U9 a2 q*U9 b3 q-U9 b2 q*U9 a3 q):=by
 show U9 (Dn (λi=>Lp 2 (VM [[a1,a2,a3],[b1,b2,b3],[c1,c2,c3]] i)) [[a1,a2,a3],[b1,b2,b3],[c1,c2,c3]] (0+1+1+1)) q=_;rw [Oq,Oq,Oq];show (0:Rat)+1*(U9 a1 q*U9 (Lp 2 [[b2,b3],[c2,c3]]) q)+(-1)*(U9 b1 q*U9 (Lp 2 [[a2,a3],[c2,c3]]) q)+1*(U9 c1 q*U9 (Lp 2 [[a2,a3],[b2,b3]]) q)=_;rw [EQ,EQ,EQ]; grind
theorem cB {a b c:Pt} (ha:Sc a.c) (hb:Sc b.c) (hc:Sc c.c) (q:Rat):Fg (U9 (Hh a.c b.c c.c) q)=Fg (Bl (px · q) (py · q) a b c):=by
 have Rw:∀ {k:Crv},Sc k->(0:Rat)<(k.d:Rat):=λh=>by exact_mod_cast h.n.2.2.1
 have pa:=Rw ha;have pb:=Rw hb;have pc:=Rw hc;have xx:∀ {p:Pt},0<(p.c.d:Rat)->U9 p.c.x q=px p q*(p.c.d:Rat)/\U9 p.c.y q=py p q*(p.c.d:Rat):=λ{p} h=>by
  unfold px py;exact ⟨(Zj (by grind)).symm,(Zj (by grind)).symm⟩
 obtain ⟨xa,ya⟩:=xx pa;obtain ⟨xb,yb⟩:=xx pb;obtain ⟨xc,yc⟩:=xx pc;have e:U9 (Hh a.c b.c c.c) q=((a.c.d:Rat)*(b.c.d:Rat)*(c.c.d:Rat))*Bl (px · q) (py · q) a b c:=by
  unfold Hh rQ Bl;rw [Qjr,iI,iI,iI,xa,xb,xc,ya,yb,yc];grind
 rw [e,C5 (Xs (Xs pa pb) pc)]
def FG (sg:Um->Int) (a b c:Pt):Bool:=decide (0<Hj sg (Hh a.c b.c c.c))
def Pm (sg:Um->Int) (row:List Pt):List Pt:=(P6 (FG sg) [] row).reverse
def Ec (sg:Um->Int) (row:List Pt):List Pt:=if row.length<3 then row else (Pm sg row).dropLast++(Pm sg row.reverse).dropLast
def Pi (l:List Pt) (a:Tm):List Pt:=Ec (Fu a) (Ty a (To l))
def Rt (C:List Pt):List (Pt×Pt):=C.zip (C.drop 1++C.take 1)
def Li (sg:Um->Int) (a b c:Pt):Ct:=⟨3,a.id,b.id,c.id,0,Hh a.c b.c c.c,Hj sg (Hh a.c b.c c.c)⟩
def VB (e:Pt×Pt) (c:Pt):Bool:=decide (c.id≠e.1.id) && decide (c.id≠e.2.id)
def Aj (sg:Um->Int) (l:List Pt) (e:Pt×Pt):List Ct:=(l.filter (VB e)).map λc=>Li sg e.1 e.2 c
def Bh (sg:Um->Int) (l C:List Pt):List Ct:=if C.length<2 then [] else (Rt C).flatMap (Aj sg l)
def NA (l:List Pt) (a:Tm):List Ct:=ZL l a++Bh (Fu a) l (Pi l a)
abbrev brH (l:List Pt) (a:Tm):Us:=U0 (Pi l a)
def ND (l:List Pt):Un:=l.flatMap λx=>l.flatMap λy=>l.map λz=>Hh x.c y.c z.c
theorem kL {l:List Pt} {x y z:Pt} (hx:x∈l) (hy:y∈l) (hz:z∈l):Hh x.c y.c z.c∈ND l :=
 Zo.2 ⟨x,hx,Zo.2 ⟨y,hy,Za.2 ⟨z,hz,rfl⟩⟩⟩
theorem Qmk {l:List Pt} (hl:∀ p∈l,Sc p.c):∀ p∈ND l,Cp p:=λp hp=>by
 obtain ⟨x,hx,hp⟩:=Zo.1 hp;obtain ⟨y,hy,hp⟩:=Zo.1 hp;obtain ⟨z,hz,rfl⟩:=Za.1 hp;exact YR (hl x hx) (hl y hy) (hl z hz)
theorem EK {α:Type} (s:α->α->α->Bool) (c:α):∀ st:List α,(Lr s c st).Sublist st
 | []=>List.Sublist.refl _
 | [_]=>List.Sublist.refl _
 |
  b::a::r=>by
  simp only [Lr]
  split
  ·exact List.Sublist.refl _
  ·exact (EK s c (a::r)).trans (List.sublist_cons_self _ _)
theorem KD {α:Type} {s:α->α->α->Bool}:∀ {l acc:List α} {x:α},x∈P6 s acc l->x∈acc\/x∈l
 | [],acc,x,h=>.inl h
 |
  c::l,acc,x,h=>by
  rcases KD (l:=l) h with h | h
  ·rcases Qm.1 h with rfl | h
   ·exact .inr (by simp)
   ·exact .inl ((EK s c acc).subset h)
  ·exact .inr (Qg _ h)
theorem KC {α:Type} (s:α->α->α->Bool):∀ (l acc:List α),(P6 s acc l).length<=acc.length+l.length
 | [],acc=>by simp [P6]
 |
  c::l,acc=>by
  have h1:=KC s l (c::Lr s c acc);have h2:=(EK s c acc).length_le;simp only [P6,Q5] at h1 ⊢;omega
theorem CZ {sg:Um->Int} {row:List Pt} {x:Pt} (h:x∈Pm sg row):x∈row:=by
 unfold Pm at h;rcases KD (Jk.1 h) with h | h
 ·cases h
 ·exact h
theorem QH (sg:Um->Int) (row:List Pt):(Pm sg row).length<=row.length:=by
 have:=KC (FG sg) row [];unfold Pm; rw [List.length_reverse]; simpa using this
theorem cH {sg:Um->Int} {row:List Pt} {x:Pt} (h:x∈Ec sg row):x∈row:=by
 unfold Ec at h
 split at h
 ·exact h
 ·rcases Qr.1 h with h | h
  ·exact CZ ((List.dropLast_sublist _).subset h)
  ·exact Jk.1 (CZ ((List.dropLast_sublist _).subset h))
theorem cG (sg:Um->Int) (row:List Pt):(Ec sg row).length<=2*row.length:=by
 unfold Ec
 split
 ·omega
 ·have h1:=QH sg row;have h2:=QH sg row.reverse;rw [Xp] at h2;rw [Qu,List.length_dropLast,List.length_dropLast]; omega
theorem I7 {l:List Pt} {a:Tm} {x:Pt} (h:x∈Pi l a):x∈l:=Nt (Hq.1 (cH h))
theorem YH (l:List Pt) (a:Tm):(Pi l a).length<=2*l.length:=by
 have h1:=cG (Fu a) (Ty a (To l));rw [No] at h1;have:=QZ l;unfold Pi; omega
theorem SK {C:List Pt} {e:Pt×Pt} (h:e∈Rt C):e.1∈C/\e.2∈C:=by
 unfold Rt at h;have h1:=List.of_mem_zip (show (e.1,e.2)∈_ from h);refine ⟨h1.1,?_⟩;rcases Qr.1 h1.2 with h | h
 ·exact Qz h
 ·exact Qo h
theorem nF {sg:Um->Int} {l C:List Pt} {x:Ct} (h:x∈Bh sg l C):∃ e∈Rt C,∃ c∈l,VB e c=true/\x=Li sg e.1 e.2 c:=by
 unfold Bh at h
 split at h
 ·cases h
 ·obtain ⟨e,he,h⟩:=Zo.1 h;obtain ⟨c,hc,rfl⟩:=Za.1 h;obtain ⟨h1,h2⟩:=Yi.1 hc;exact ⟨e,he,c,h1,h2,rfl⟩
theorem xH {l:List Pt} {a:Tm}:∀ x∈NA l a,x.p∈Ek l++ND l:=λx hx=>by
 rcases Qr.1 hx with hx | hx
 ·exact X8 _ (dA x hx)
 ·obtain ⟨e,he,c,hc,_,rfl⟩:=nF hx;obtain ⟨h1,h2⟩:=SK he;exact Je _ (kL (I7 h1) (I7 h2) hc)
theorem MQ {l:List Pt} (hl:∀ p∈l,Sc p.c):∀ p∈Ek l++ND l,Cp p:=λp hp=>by
 rcases Qr.1 hp with h | h
 ·exact QJ hl p h
 ·exact Qmk hl p h
theorem KA {α β:Type} (f:α->List β) (n:Nat):∀ (m:List α),(∀ x∈m,(f x).length≤n)->(m.flatMap f).length≤m.length*n
 | [],_=>by simp
 |
  x::m,h=>by
  have:=KA f n m λy hy=>h y (Qg _ hy)
  have:=h x (by simp);rw [J1,Qu,Q5,Xa]; omega
theorem nU (sg:Um->Int) (l C:List Pt):(Bh sg l C).length<=C.length*l.length:=by
 unfold Bh
 split
 ·simp
 ·refine Qa (KA _ l.length _ λe _=>?_) (Q0 _ ?_)
  ·unfold Aj; rw [List.length_map]; exact List.length_filter_le _ _
  ·unfold Rt; rw [List.length_zip]; exact Nat.min_le_left _ _
theorem pW {l:List Pt} (hl:∀ p∈l,Sc p.c) (hn:l.length≤10):BuildOk (NA l) :=
 ⟨λ_ _ x hx=>MQ hl _ (xH x hx),λa _=>by
  have h1:=nU (Fu a) l (Pi l a);have h2:=YH l a;have h3:(Pi l a).length*l.length<=20*10:=Zc (by omega) hn;show (ZL l a++Bh (Fu a) l (Pi l a)).length<=1000;have h4:(ZL l a).length<=l.length:=by unfold ZL; rw [B7,No]; omega
  rw [Qu]; omega⟩
def If {α:Type} (l:List α):List (α×α):=l.zip (l.drop 1)
theorem jG {α:Type} {Q:α->α->Prop}:∀ {l:List α},Edg Q l↔∀ e∈If l,Q e.1 e.2
 | []=>by simp [Edg,If]
 | [_]=>by simp [Edg,If]
 |
  a::b::l=>by
  have ih:=jG (Q:=Q) (l:=b::l);have e:If (a::b::l)=(a,b)::If (b::l):=rfl;rw [e];constructor
  ·rintro ⟨h1,h2⟩ x hx
   rcases Qm.1 hx with rfl | hx
   ·exact h1
   ·exact ih.1 h2 x hx
  ·intro h;exact ⟨h (a,b) (by simp),ih.2 λx hx=>h x (Qg _ hx)⟩
theorem CW {α:Type} (f z:α) (A:List α):If (f::A++[z])=(f::A).zip (A++[z]):=by
 unfold If;rw [Xb,Wh,Xy];have:f::(A++[z])=(f::A)++[z]:=rfl;rw [this];have h:A++[z]=(A++[z])++[]:=(Zw _).symm
 conv=>lhs; rw [h]
 rw [List.zip_append (by simp)];simp
theorem uD {f z:Pt} {A B:List Pt}:Rt ((f::A++[z]).dropLast++(z::B++[f]).dropLast)=If (f::A++[z])++If (z::B++[f]):=by
 rw [Vz,Vz,CW,CW,<-List.zip_append (by simp)];unfold Rt;congr 1;simp
theorem Edg.rev {α:Type} {Q:α->α->Prop}:∀ {l:List α},Edg Q l->Edg (λa b=>Q b a) l.reverse:=by
 have app:∀ {Q:α->α->Prop} {l:List α} {b a:α},Edg Q (l++[b])->Q b a->Edg Q (l++[b]++[a]):=by
  intro Q l
  induction l with
  | nil=>intro b a _ h; exact ⟨h,trivial⟩
  |
   cons x l ih =>
   intro b a h h2;cases l with
   | nil=>exact ⟨h.1,ih h.2 h2⟩
   | cons y l=>exact ⟨h.1,ih h.2 h2⟩
 intro l
 induction l with
 | nil=>intro _; trivial
 |
  cons a l ih =>
  intro h;cases l with
  | nil=>trivial
  |
   cons b l =>
   have:=ih h.2;rw [Yo] at this ⊢;rw [Yo];exact app this h.1
theorem Cnv.rev {α:Type} {R:α->α->α->Prop}:∀ {l:List α},Cnv R l->Cnv (λa b c=>R c b a) l.reverse:=by
 have app:∀ {R:α->α->α->Prop} {l:List α} {c b a:α},Cnv R (l++[c,b])->R c b a->Cnv R (l++[c,b,a]):=by
  intro R l
  induction l with
  | nil=>intro c b a _ h; exact ⟨h,trivial⟩
  |
   cons x l ih =>
   intro c b a h h2;cases l with
   | nil=>exact ⟨h.1,ih h.2 h2⟩
   |
    cons y l =>
    cases l with
    | nil=>exact ⟨h.1,ih h.2 h2⟩
    | cons w l=>exact ⟨h.1,ih h.2 h2⟩
 intro l
 induction l with
 | nil=>intro _; trivial
 |
  cons a l ih =>
  intro h
  match l,h with
  | [],_=>trivial
  | [_],_=>trivial
  |
   b::c::l,h =>
   have:=ih h.2;rw [Yo,Yo,Zd] at this;rw [Yo,Yo,Yo,Zd,Zd];exact app this h.1
section
variable {α:Type} {lt lt':α->α->Bool}
theorem EW {out:List α} {x:α} (h:∀ y∈out,lt x y=lt' x y):∀ k,L9 lt out x k=L9 lt' out x k
 | 0=>rfl
 |
  k+1=>by
  simp only [L9];cases hy:out[k]? with
  | none=>rfl
  | some y=>simp only [h y (Qc hy),EW h k]
theorem SG {l:List α} (h:∀ u∈l,∀ v∈l,lt u v=lt' u v):∀ (m out:List α),(∀ x∈m,x∈l)->(∀ x∈out,x∈l)->m.foldl (Ly lt) out=m.foldl (Ly lt') out
 | [],_,_,_=>rfl
 |
  x::m,out,h1,h2=>by
  have e:Ly lt out x=Ly lt' out x:=by
   unfold Ly; rw [EW λy hy=>h x (h1 x (by simp)) y (h2 y hy)]
  simp only [Z9];rw [e];exact SG h m _ (λy hy=>h1 y (Qg _ hy)) λy hy=>by
   rcases FW.1 hy with rfl | hy
   ·exact h1 _ (by simp)
   ·exact h2 y hy
end
theorem cR {a:Tm} {l:List Pt} {q:Rat} (hb:∀ u∈l,∀ v∈l,(Ts (Fu a) u v=true↔Db q u v)) (hd:l.Pairwise λx y=>x.id≠y.id):(Ty a l).Pairwise (Db q) :=
 DN (S:=λx=>x∈l) (D:=λx y=>x.id≠y.id) (YE q) (λu v hu hv h=>(hb u hu v hv).1 h) (λu v hu hv hne h=>fL (λe=>hne e.symm) λh'=>by
  rw [(hb u hu v hv).2 h'] at h; cases h) l [] .nil (λx hx=>by cases hx) (λx hx=>hx) hd (λx hx=>by cases hx)
theorem Qu9 {a:Tm} (ha:Va a) {u v:Pt} (hu:Sc u.c) (hv:Sc v.c) {q:Rat} (h1:Hj (Fu a) (Gm u.c v.c)=Fg (U9 (Gm u.c v.c) q)) (h2:Hj (Fu a) (Gl u.c v.c)=Fg (U9 (Gl u.c v.c) q)) (hne:u.c≠v.c) (h:Db q u v):lx (px · q) (py · q) u v:=by
 rcases h with h | ⟨h,h3⟩
 ·exact .inl h
 rcases h3 with h3 | ⟨h3,_⟩
 ·exact .inr ⟨h,h3⟩
 ·exfalso;rw [TM hu hv] at h1;rw [TP hu hv] at h2;have z1:Fg (px v q-px u q)=0:=Gq.2 (by grind);have z2:Fg (py v q-py u q)=0:=Gq.2 (by grind);rw [z1] at h1;rw [z2] at h2;have e1:(Gm u.c v.c).length=0:=Decidable.byContradiction λe=>(Ep ha (Nb hu hv).dp e).2 h1
  have e2:(Gl u.c v.c).length=0:=Decidable.byContradiction λe=>(Ep ha (Na hu hv).dp e).2 h2
  exact hne (Qpm hu.n hv.n (Qj e1) (Qj e2))
structure LowC (X Y:Pt->Rat) (R L:List Pt):Prop where
 hd:L.head? = R.head?
 la:L.getLast? = R.getLast?
 srt:L.Pairwise (lx X Y)
 mem:∀ p∈L,p∈R
 edg:Edg (λa b=>∀ p∈R,0≤Bl X Y a b p) L
 cnv:Cnv (λa b c=>0<Bl X Y a b c) L
theorem ID {X Y:Pt->Rat} {sg:Um->Int} {R:List Pt} (hs:∀ a∈R,∀ b∈R,∀ c∈R,(FG sg a b c=true↔0<Bl X Y a b c)) (hR:R.Pairwise (lx X Y)) (h0:R≠[]):LowC X Y R (Pm sg R):=by
 cases R with
 | nil=>exact absurd rfl h0
 |
  cons f R =>
  obtain ⟨t,st,g1,g2,g3,g4⟩:=IL hs hR R [f] f [] rfl ⟨Kl _ _,λp hp=>by rw [Qk.1 hp]; simp,trivial,trivial⟩ rfl rfl;have e:Pm sg (f::R)=(t::st).reverse:=by
   unfold Pm;rw [<-g1]; rfl
  rw [e];exact ⟨by rw [List.head?_reverse,g4],by rw [List.getLast?_reverse]; exact g3.symm,Ky.2 g2.srt,λp hp=>g2.mem p (Jk.1 hp),g2.edg.rev,g2.cnv.rev⟩
theorem Qvz {X Y:Pt->Rat} {R:List Pt} (hR:R.Pairwise (lx X Y)):∀ p∈R,∀ q∈R,p=q\/lx X Y p q\/lx X Y q p:=λp hp q hq=>by
 by_cases e:p=q
 ·exact .inl e
 ·exact .inr (zX hR hp hq e)
theorem Qit {X Y:Pt->Rat} {R L L':List Pt} (hR:R.Pairwise (lx X Y)) (h:LowC X Y R L) (h':LowC X Y R L'):L=L':=by
 have hh:=h.hd.trans h'.hd.symm;have hl:=h.la.trans h'.la.symm;cases L with
 |
  nil=>cases L' with
  | nil=>rfl
  | cons _ _=>simp at hh
 |
  cons f M=>cases L' with
  | nil=>simp at hh
  |
   cons f' M' =>
   simp at hh;subst hh;obtain ⟨z,hz⟩:∃ z,(f::M).getLast? = some z:=⟨_,Yq (by simp)⟩;rw [Qgr (Qvz hR) M M' f h.srt h'.srt h.mem h'.mem h.edg h'.edg h.cnv h'.cnv hz (hl ▸ hz)]
theorem tP {x y:Rat} (h:Fg x=Fg y):(0<=x->0<=y)/\(0<x->0<y):=by
 have h1:=Fz x;have h2:=Fz y;grind
theorem wI {X Y X' Y':Pt->Rat} {R:List Pt}:∀ {L:List Pt},(∀ p∈L,p∈R)->(∀ e∈If L,∀ p∈R,Fg (Bl X Y e.1 e.2 p)=Fg (Bl X' Y' e.1 e.2 p))->Cnv (λa b c=>0<Bl X Y a b c) L->Cnv (λa b c=>0<Bl X' Y' a b c) L
 | [],_,_,_=>trivial
 | [_],_,_,_=>trivial
 | [_,_],_,_,_=>trivial
 | a::b::c::l,hm,he,h=>⟨(tP (he (a,b) (by simp [If]) c (hm c (by simp)))).2 h.1,wI (λp hp=>hm p (Qg _ hp)) (λe hx=>he e (Qg _ hx)) h.2⟩
theorem fE {X Y X' Y':Pt->Rat} {R L:List Pt} (h:LowC X Y R L) (hl:∀ u∈R,∀ v∈R,lx X Y u v->lx X' Y' u v) (he:∀ e∈If L,∀ p∈R,Fg (Bl X Y e.1 e.2 p)=Fg (Bl X' Y' e.1 e.2 p)):LowC X' Y' R L :=
 ⟨h.hd,h.la,h.srt.imp_of_mem λhu hv h'=>hl _ (h.mem _ hu) _ (h.mem _ hv) h',h.mem,jG.2 λe hx p hp=>(tP (he e hx p hp)).1 (jG.1 h.edg e hx p hp),wI h.mem he h.cnv⟩
theorem yM (X Y:Pt->Rat) (a b c:Pt):Bl (λp=>-X p) (λp=>-Y p) a b c=Bl X Y a b c:=by unfold Bl; grind
theorem yK {X Y:Pt->Rat} {a b:Pt}:lx (λp=>-X p) (λp=>-Y p) a b↔lx X Y b a:=by unfold lx; grind
theorem Qsv {L:List Pt} {f z:Pt} (h1:L.head? = some f) (h2:L.getLast? = some z) (hne:f≠z):∃ A,L=f::A++[z]:=by
 cases L with
 | nil=>cases h1
 |
  cons g M =>
  simp at h1;subst h1;cases M with
  | nil=>simp at h2; exact absurd h2 hne
  |
   cons x M =>
   rw [J0] at h2;obtain ⟨A,hA⟩:=Y8.1 h2;exact ⟨A,by rw [hA]; rfl⟩
theorem DG {α β:Type} {f g:α->List β}:∀ {m:List α},(∀ x∈m,f x=g x)->m.flatMap f=m.flatMap g
 | [],_=>rfl
 | x::m,h=>by rw [J1,J1,h x (by simp),DG λy hy=>h y (Qg _ hy)]
theorem fH {sa sb:Um->Int} {l C:List Pt} (h:∀ x∈Bh sa l C,Hj sb x.p=Hj sa x.p):Bh sb l C=Bh sa l C:=by
 by_cases h2:C.length<2
 ·unfold Bh; rw [if_pos h2,if_pos h2]
 ·have e:∀ s,Bh s l C=(Rt C).flatMap (Aj s l):=λs=>if_neg h2
  rw [e] at h ⊢;rw [e];refine DG λx hx=>Xq λc hc=>?_
  have:=h (Li sa x.1 x.2 c) (Zo.2 ⟨x,hx,Wi hc⟩);show (⟨3,x.1.id,x.2.id,c.id,0,Hh x.1.c x.2.c c.c,Hj sb (Hh x.1.c x.2.c c.c)⟩:Ct)=⟨3,x.1.id,x.2.id,c.id,0,Hh x.1.c x.2.c c.c,Hj sa (Hh x.1.c x.2.c c.c)⟩;have this:Hj sb (Hh x.1.c x.2.c c.c)=Hj sa (Hh x.1.c x.2.c c.c):=this;rw [this]
theorem Qab {l:List Pt} (hd:l.Pairwise λx y=>x.id≠y.id) {u v:Pt} (hu:u∈l) (hv:v∈l) (h:u.id=v.id):u=v:=by
 refine Classical.byContradiction λe=>?_
 rcases zX hd hu hv e with h' | h'
 ·exact h' h
 ·exact h' h.symm
structure Soon (l:List Pt) (a:Tm) (q:Rat):Prop where
 g:∀ p∈Ek l++ND l,Hj (Fu a) p=Fg (U9 p q)
 b:∀ u∈l,∀ v∈l,(Ts (Fu a) u v=true↔Db q u v)
 o:∀ u∈l,∀ v∈l,∀ w∈l,Hj (Fu a) (Hh u.c v.c w.c)=Fg (Bl (px · q) (py · q) u v w)
 t:∀ u∈l,∀ v∈l,∀ w∈l,(FG (Fu a) u v w=true↔0<Bl (px · q) (py · q) u v w)
 r:(Ty a (To l)).Pairwise (lx (px · q) (py · q))
theorem Qk3 {l:List Pt} (hl:∀ p∈l,Sc p.c) (hd:l.Pairwise λx y=>x.id≠y.id) {a:Tm} (ha:Va a):∃ y,Fp a y=-1/\∀ q,Fp a q=-1->q≤y->Soon l a q:=by
 obtain ⟨y,y1,y2⟩:=XS ha (Ek l++ND l) λp hp=>(MQ hl p hp).dp
 refine ⟨y,y1,λq q1 q2=>?_⟩;have g:=y2 q q1 q2;have gP:=λp hp=>g p (X8 _ hp)
 have b:∀ u∈l,∀ v∈l,(Ts (Fu a) u v=true↔Db q u v):=λu hu v hv=>BY ha (hl u hu) (hl v hv) (gP _ (Sj hu hv).1) (gP _ (Sj hu hv).2)
 have o:∀ u∈l,∀ v∈l,∀ w∈l,Hj (Fu a) (Hh u.c v.c w.c)=Fg (Bl (px · q) (py · q) u v w):=λu hu v hv w hw=>by
  rw [g _ (Je _ (kL hu hv hw)),cB (hl u hu) (hl v hv) (hl w hw)]
 refine ⟨g,b,o,λu hu v hv w hw=>?_,?_⟩
 ·unfold FG;rw [o u hu v hv w hw,decide_eq_true_eq];have:=Fz (Bl (px · q) (py · q) u v w);grind
 ·have hw:∀ u∈To l,u∈l:=λu hu=>Nt hu
  have h1:=cR (a:=a) (l:=To l) (q:=q) (λu hu v hv=>b u (hw u hu) v (hw v hv)) (List.Pairwise.sublist (Qln l) hd);have h2:(Ty a (To l)).Pairwise λx y=>x.c≠y.c:=(List.Perm.pairwise_iff (λ{x y} h e=>h e.symm) (cO (lt:=Ts (Fu a)) (To l))).2 (Qq7 l)
  refine (h1.and h2).imp_of_mem λ{u v} hu hv h=>?_
  have hu:=hw u (Hq.1 hu);have hv:=hw v (Hq.1 hv);exact Qu9 ha (hl u hu) (hl v hv) (gP _ (Sj hu hv).1) (gP _ (Sj hu hv).2) h.2 h.1
theorem Qad {l:List Pt} (hl:∀ p∈l,Sc p.c) (hd:l.Pairwise λx y=>x.id≠y.id) {a:Tm} (ha:Va a):∃ q,Soon l a q :=
 let ⟨y,h1,h2⟩:=Qk3 hl hd ha
 ⟨y,h2 y h1 Qp⟩
theorem CU {l:List Pt} {a:Tm} {q:Rat} (S:Soon l a q) (h3:3<=(Ty a (To l)).length):∃ f z A B,Pm (Fu a) (Ty a (To l))=f::A++[z]/\Pm (Fu a) (Ty a (To l)).reverse=z::B++[f]/\LowC (px · q) (py · q) (Ty a (To l)) (f::A++[z])/\LowC (λp=>-px p q) (λp=>-py p q) (Ty a (To l)).reverse (z::B++[f])/\Rt (Pi l a)=If (f::A++[z])++If (z::B++[f])/\2<=(Pi l a).length:=by
 obtain ⟨R,hR⟩:=nmE (Ty a (To l));have hm:∀ x∈R,x∈l:=λx hx=>by rw [hR] at hx; exact Nt (Hq.1 hx)
 have r:=S.r;rw [<-hR] at r h3 ⊢;have h0:R≠[]:=λe=>by rw [e] at h3; simp at h3
 have c1:=ID (sg:=Fu a) (λu hu v hv w hw=>S.t u (hm u hu) v (hm v hv) w (hm w hw)) r h0;have r2:R.reverse.Pairwise (lx (λp=>-px p q) (λp=>-py p q)):=Ky.2 (r.imp λh=>yK.2 h);have c2:=ID (sg:=Fu a) (R:=R.reverse) (X:=λp=>-px p q) (Y:=λp=>-py p q) (λu hu v hv w hw=>by
  rw [yM (px · q) (py · q)];exact S.t u (hm u (Jk.1 hu)) v (hm v (Jk.1 hv)) w (hm w (Jk.1 hw))) r2 (by simpa using h0)
 obtain ⟨f,hf⟩:∃ f,R.head? = some f:=by cases R with
  | nil=>exact absurd rfl h0
  | cons f _=>exact ⟨f,rfl⟩
 obtain ⟨z,hz⟩:∃ z,R.getLast? = some z:=⟨_,Yq h0⟩;have hne:f≠z:=λe=>by
  subst e;cases R with
  | nil=>exact absurd rfl h0
  |
   cons g M =>
   simp at hf; subst hf;cases M with
   | nil=>simp at h3
   |
    cons x M =>
    rw [J0] at hz;exact Lz _ ((Zg.1 r).1 g (V1 hz))
 obtain ⟨A,hA⟩:=Qsv (c1.hd.trans hf) (c1.la.trans hz) hne;obtain ⟨B,hB⟩:=Qsv (c2.hd.trans (by rw [List.head?_reverse]; exact hz)) (c2.la.trans (by rw [List.getLast?_reverse]; exact hf)) (Ne.symm hne);have hc:Pi l a=(f::A++[z]).dropLast++(z::B++[f]).dropLast:=by
  unfold Pi Ec;rw [<-hR,if_neg (by omega),hA,hB]
 rw [hA] at c1;rw [hB] at c2;refine ⟨f,z,A,B,hA,hB,c1,c2,by rw [hc]; exact uD,?_⟩;rw [hc,Vz,Vz];simp; omega
theorem Qcj {l:List Pt} (hl:∀ p∈l,Sc p.c) (hd:l.Pairwise λx y=>x.id≠y.id) {a b:Tm} (ha:Va a) (hb:Va b) (h:∀ x∈NA l a,Hj (Fu b) x.p=Hj (Fu a) x.p):Pi l b=Pi l a/\NA l b=NA l a:=by
 obtain ⟨q,Sa⟩:=Qad hl hd ha;obtain ⟨r,Sb⟩:=Qad hl hd hb;obtain ⟨k1,k2⟩:=tW hl hd ha hb λx hx=>h x (X8 _ hx)
 have pa:=cR Sa.b hd;have pb:=cR Sb.b hd;rw [k1] at pb;have pab:=pa.and pb;have lexs:∀ u∈l,∀ v∈l,(Db q u v↔Db r u v):=λu hu v hv=>by
  by_cases e:u=v
  ·subst e; exact ⟨λh=>absurd h (XO _ _),λh=>absurd h (XO _ _)⟩
  ·rcases zX pab (Hq.2 hu) (Hq.2 hv) e with h' | h'
   ·exact ⟨λ_=>h'.2,λ_=>h'.1⟩
   ·exact ⟨λh=>absurd (YE _ _ _ _ h h'.1) (XO _ _),λh=>absurd (YE _ _ _ _ h h'.2) (XO _ _)⟩
 have bef:∀ u∈l,∀ v∈l,Ts (Fu b) u v=Ts (Fu a) u v:=λu hu v hv=>by
  have h1:=Sa.b u hu v hv;have h2:=Sb.b u hu v hv;have h3:=lexs u hu v hv;cases e1:Ts (Fu a) u v <;> cases e2:Ts (Fu b) u v <;> rw [e1] at h1 <;> rw [e2] at h2 <;> simp_all
 have eR:Ty b (To l)=Ty a (To l):=SG (l:=To l) (λu hu v hv=>bef u (Nt hu) v (Nt hv)) (To l) [] (λx hx=>hx) λx hx=>by cases hx
 have hm:∀ x∈Ty a (To l),x∈l:=λx hx=>Nt (Hq.1 hx)
 have rb:=Sb.r;rw [eR] at rb;have hc:Pi l b=Pi l a:=by
  by_cases h3:(Ty a (To l)).length<3
  ·unfold Pi Ec;rw [eR,if_pos h3,if_pos h3]
  ·obtain ⟨f,z,A,B,hA,hB,c1,c2,hE,hC2⟩:=CU Sa (by omega);obtain ⟨f',z',A',B',hA',hB',c1',c2',hE',_⟩:=CU Sb (by rw [eR]; omega);rw [eR] at hA' hB' c1' c2';have sgs:∀ e∈Rt (Pi l a),∀ p∈Ty a (To l),Fg (Bl (px · q) (py · q) e.1 e.2 p)=Fg (Bl (px · r) (py · r) e.1 e.2 p):=λe he p hp=>by
    obtain ⟨m1,m2⟩:=SK he;have m1:=I7 m1;have m2:=I7 m2;have m3:=hm p hp;by_cases ho:VB e p=true
    ·have hx:Li (Fu a) e.1 e.2 p∈NA l a:=by
      refine Je _ ?_;unfold Bh;rw [if_neg (by omega)];exact Zo.2 ⟨e,he,Wi (Yi.2 ⟨m3,ho⟩)⟩
     have hg:Hj (Fu b) (Hh e.1.c e.2.c p.c)=Hj (Fu a) (Hh e.1.c e.2.c p.c):=h _ hx;rw [<-Sa.o _ m1 _ m2 _ m3,<-Sb.o _ m1 _ m2 _ m3,hg]
    ·have hz:∀ X Y:Pt->Rat,Bl X Y e.1 e.2 p=0:=λX Y=>by
      by_cases e1:p.id=e.1.id
      ·rw [Qab hd m3 m1 e1]; exact (FA _ _).1
      ·by_cases e2:p.id=e.2.id
       ·rw [Qab hd m3 m2 e2]; exact (FA _ _).2
       ·exact absurd (by simp [VB,e1,e2]) ho
     rw [hz,hz]
   have hlx:∀ u∈Ty a (To l),∀ v∈Ty a (To l),lx (px · q) (py · q) u v->lx (px · r) (py · r) u v:=λu hu v hv huv=>by
    have ra:=Sa.r;by_cases e:u=v
    ·subst e; exact absurd huv (Lz _)
    ·rcases zX (ra.and rb) hu hv e with h' | h'
     ·exact h'.2
     ·exact absurd (gZ huv h'.1) (Lz _)
   have e1:=Qit rb (fE c1 hlx λe he=>sgs e (by rw [hE]; exact X8 _ he)) c1';have rb2:(Ty a (To l)).reverse.Pairwise (lx (λp=>-px p r) (λp=>-py p r)):=Ky.2 (rb.imp λh=>yK.2 h);have e2:=Qit rb2 (fE c2 (λu hu v hv huv=>yK.2 (hlx v (Jk.1 hv) u (Jk.1 hu) (yK.1 huv))) λe he p hp=>by
    rw [yM (px · q) (py · q),yM (px · r) (py · r)];exact sgs e (by rw [hE]; exact Je _ he) p (Jk.1 hp)) c2'
   unfold Pi Ec;rw [eR,if_neg h3,if_neg h3,hA,hB,hA',hB',e1,e2]
 refine ⟨hc,?_⟩;unfold NA;rw [hc,k2,fH λx hx=>h x (Je _ hx)]
theorem Qy5 {l:List Pt} (hl:∀ p∈l,Sc p.c) (hn:l.length≤10) (hd:l.Pairwise λx y=>x.id≠y.id):Stab (NA l) (brH l):=by
 refine ⟨pW hl hn,⟨Ek l++ND l,MQ hl,λa _ x hx=>xH x hx⟩,λa b ha hb h=>?_⟩;obtain ⟨e1,e2⟩:=Qcj hl hd ha hb h;exact ⟨e2,by show U0 _=U0 _; rw [e1]⟩
end Orq
namespace Orq
open Orr Go
theorem KE {a b c d:Crv} (ha:Sc a) (hb:Sc b) (hc:Sc c) (hd:Sc d):Cp (Hp a b c d):=by
 have lr:∀ {a b:Crv},Sc a->Sc b->(Gm a b).length<=3/\(Gl a b).length<=3:=λ{a b} ha hb=>by
  have:=Nh (Fw b.x a.d) (Fw a.x b.d); have:=Fx b.x a.d; have:=Fx a.x b.d;have:=Nh (Fw b.y a.d) (Fw a.y b.d); have:=Fx b.y a.d; have:=Fx a.y b.d;have:=ha.c.lx; have:=hb.c.lx; have:=ha.c.ly; have:=hb.c.ly;unfold Gm Gl; omega
 have ap:∀ {a b:Crv},Sc a->Sc b->(S0 a b).length<=5/\Bd 517 (S0 a b):=λ{a b} ha hb=>by
  obtain ⟨l1,l2⟩:=lr ha hb;have b1:Bd 257 (Gm a b):=Du (Ge hb.c.x ha.c.d) (Ge ha.c.x hb.c.d);have b2:Bd 257 (Gl a b):=Du (Ge hb.c.y ha.c.d) (Ge ha.c.y hb.c.d);have q1:=Pk (u:=2) b1 b1 (by omega);have q2:=Pk (u:=2) b2 b2 (by omega);refine ⟨?_,U5 (YV q1 q2) (by omega)⟩;have:=Og (Gk (Gm a b) (Gm a b)) (Gk (Gl a b) (Gl a b));have:=Tv (Gm a b) (Gm a b); have:=Tv (Gl a b) (Gl a b);unfold S0; omega
 have dd:∀ {a b:Crv},Sc a->Sc b->Fe ((a.d*b.d)*(a.d*b.d))<=512:=λ{a b} ha hb=>by
  have:=Ga a.d b.d; have:=Ga (a.d*b.d) (a.d*b.d); have:=ha.c.d; have:=hb.c.d; omega
 obtain ⟨l1,b1⟩:=ap hc hd;obtain ⟨l2,b2⟩:=ap ha hb;refine ⟨Fy _ _,?_,U5 (Du (Ge b1 (dd ha hb)) (Ge b2 (dd hc hd))) (by omega)⟩;have:=Nh (Fw (S0 c d) ((a.d*b.d)*(a.d*b.d))) (Fw (S0 a b) ((c.d*d.d)*(c.d*d.d)));have:=Fx (S0 c d) ((a.d*b.d)*(a.d*b.d)); have:=Fx (S0 a b) ((c.d*d.d)*(c.d*d.d));unfold Hp; omega
def sA (m:Pt×Pt) (q:Rat):Rat:=(px m.2 q-px m.1 q)*(px m.2 q-px m.1 q)+(py m.2 q-py m.1 q)*(py m.2 q-py m.1 q)
theorem Qou {a b c d:Pt} (ha:Sc a.c) (hb:Sc b.c) (hc:Sc c.c) (hd:Sc d.c) (q:Rat):Fg (U9 (Hp a.c b.c c.c d.c) q)=Fg (sA (c,d) q-sA (a,b) q):=by
 have Rw:∀ {z:Int},0<z->(0:Rat)<(z:Rat):=λ{z} h=>by exact_mod_cast h
 have pa:=Rw ha.n.2.2.1;have pb:=Rw hb.n.2.2.1;have pc:=Rw hc.n.2.2.1;have pd:=Rw hd.n.2.2.1;have xx:∀ {p:Pt},0<(p.c.d:Rat)->U9 p.c.x q=px p q*(p.c.d:Rat)/\U9 p.c.y q=py p q*(p.c.d:Rat):=λ{p} h=>by
  unfold px py;exact ⟨(Zj (by grind)).symm,(Zj (by grind)).symm⟩
 obtain ⟨xa,ya⟩:=xx pa;obtain ⟨xb,yb⟩:=xx pb;obtain ⟨xc,yc⟩:=xx pc;obtain ⟨xd,yd⟩:=xx pd;have e:U9 (Hp a.c b.c c.c d.c) q=(((a.c.d:Rat)*b.c.d)*((a.c.d:Rat)*b.c.d))*(((c.c.d:Rat)*d.c.d)*((c.c.d:Rat)*d.c.d))*(sA (c,d) q-sA (a,b) q):=by
  unfold Hp S0 Gm Gl sA;simp only [Nk,Ro,EZ,Gj,X1];rw [xa,xb,xc,xd,ya,yb,yc,yd];grind
 rw [e,C5];have h1:=Xs pa pb;have h2:=Xs pc pd;exact Xs (Xs h1 h1) (Xs h2 h2)
def AN (l:List Pt):Un:=l.flatMap λa=>l.flatMap λb=>l.flatMap λc=>l.map λd=>Hp a.c b.c c.c d.c
theorem NC {l:List Pt} {a b c d:Pt} (ha:a∈l) (hb:b∈l) (hc:c∈l) (hd:d∈l):Hp a.c b.c c.c d.c∈AN l :=
 Zo.2 ⟨a,ha,Zo.2 ⟨b,hb,Zo.2 ⟨c,hc,Za.2 ⟨d,hd,rfl⟩⟩⟩⟩
theorem UZ {l:List Pt} (hl:∀ p∈l,Sc p.c):∀ p∈AN l,Cp p:=λp hp=>by
 obtain ⟨a,ha,hp⟩:=Zo.1 hp;obtain ⟨b,hb,hp⟩:=Zo.1 hp;obtain ⟨c,hc,hp⟩:=Zo.1 hp;obtain ⟨d,hd,rfl⟩:=Za.1 hp;exact KE (hl a ha) (hl b hb) (hl c hc) (hl d hd)
theorem aK {l:List Pt} (hl:∀ p∈l,Sc p.c) {a:Tm} (ha:Va a):∃ y,Fp a y=-1/\∀ q,Fp a q=-1->q≤y->∀ s m:Pt×Pt,s.1∈l->s.2∈l->m.1∈l->m.2∈l->Hj (Fu a) (Hp s.1.c s.2.c m.1.c m.2.c)=Fg (sA m q-sA s q):=by
 obtain ⟨y,y1,y2⟩:=XS ha (AN l) λp hp=>(UZ hl p hp).dp
 refine ⟨y,y1,λq q1 q2 s m h1 h2 h3 h4=>?_⟩;rw [y2 q q1 q2 _ (NC h1 h2 h3 h4),Qou (hl _ h1) (hl _ h2) (hl _ h3) (hl _ h4)]
def D7 (f:Pt×Pt->Rat) (P:List (Pt×Pt)) (r:Pt×Pt):Prop:=∃ P1 P2,P=P1++r::P2/\(∀ m∈P1,f r<f m)/\∀ m∈P2,f r≤f m
theorem OS {f:Pt×Pt->Rat}:∀ {P:List (Pt×Pt)} {r r':Pt×Pt},D7 f P r->D7 f P r'->r=r'
 | [],r,r',⟨P1,P2,h,_⟩,_=>by simp at h
 |
  x::P,r,r',⟨P1,P2,h,h1,h2⟩,⟨Q1,Q2,h',h1',h2'⟩=>by
  cases P1 with
  |
   nil =>
   simp at h;cases Q1 with
   | nil=>simp at h'; exact h.1.symm.trans h'.1
   |
    cons y Q1 =>
    simp at h';exfalso;obtain ⟨rfl,rfl⟩:=h;obtain ⟨rfl,rfl⟩:=h';have a1:=h1' x (by simp);have a2:=h2 r' (by simp);grind
  |
   cons y P1 =>
   simp at h;cases Q1 with
   |
    nil =>
    simp at h';exfalso;obtain ⟨rfl,rfl⟩:=h;obtain ⟨rfl,rfl⟩:=h';have a1:=h1 x (by simp);have a2:=h2' r (by simp);grind
   |
    cons z Q1 =>
    simp at h h';exact OS (P:=P) ⟨P1,P2,h.2,λm hm=>h1 m (by simp [hm]),h2⟩ ⟨Q1,Q2,h'.2,λm hm=>h1' m (by simp [hm]),h2'⟩
theorem Qov {f:Pt×Pt->Rat} {P:List (Pt×Pt)} {r m:Pt×Pt} (h:D7 f P r):D7 f (P++[m]) (if f m<f r then m else r):=by
 obtain ⟨P1,P2,rfl,h1,h2⟩:=h;by_cases e:f m<f r
 ·rw [if_pos e];refine ⟨P1++r::P2,[],rfl,λx hx=>?_,λx hx=>by cases hx⟩;rcases Qr.1 hx with hx | hx
  ·have:=h1 x hx; grind
  ·rcases Qm.1 hx with rfl | hx
   ·exact e
   ·have:=h2 x hx; grind
 ·rw [if_neg e];refine ⟨P1,P2++[m],by simp,h1,λx hx=>?_⟩;rcases Qr.1 hx with hx | hx
  ·exact h2 x hx
  ·rw [Qk.1 hx]; grind
theorem aF {f:Pt×Pt->Rat} {sg:Um->Int} {l:List Pt} (hg:∀ s m:Pt×Pt,s.1∈l->s.2∈l->m.1∈l->m.2∈l->Hj sg (Hp s.1.c s.2.c m.1.c m.2.c)=Fg (f m-f s)):∀ (ps P:List (Pt×Pt)) (s:Pt×Pt),s.1∈l/\s.2∈l->(∀ m∈ps,m.1∈l/\m.2∈l)->D7 f P s->D7 f (P++ps) (Hn sg s ps)
 | [],P,s,_,_,h=>by rw [Zw]; exact h
 |
  m::ps,P,s,hs,hp,h=>by
  rw [ZQ];have hm:=hp m (by simp);have e:P7 sg s m=if f m<f s then m else s:=by
   unfold P7;rw [hg s m hs.1 hs.2 hm.1 hm.2];have:=Fz (f m-f s);by_cases h:f m<f s
   ·rw [if_pos h,if_pos (by grind)]
   ·rw [if_neg h,if_neg (by grind)]
  have hn:(P7 sg s m).1∈l/\(P7 sg s m).2∈l:=by
   rcases RO sg s m with e | e <;> rw [e] <;> assumption
  have:=aF hg ps (P++[m]) (P7 sg s m) hn (λx hx=>hp x (Qg _ hx)) (by rw [e]; exact Qov h);rwa [Zd] at this
theorem bF (a b:Pt) (l:List Pt):∃ P,Gs (a::b::l)=(a,b)::P:=⟨_,rfl⟩
theorem iH {f:Pt×Pt->Rat} {sg:Um->Int} {a b:Pt} {l:List Pt} (hg:∀ s m:Pt×Pt,s.1∈a::b::l->s.2∈a::b::l->m.1∈a::b::l->m.2∈a::b::l->Hj sg (Hp s.1.c s.2.c m.1.c m.2.c)=Fg (f m-f s)):D7 f (Gs (a::b::l)) (Hn sg (a,b) (Gs (a::b::l))):=by
 obtain ⟨P,hP⟩:=bF a b l;have hm:=Sy (a::b::l).length (a::b::l);have hm:∀ m∈Gs (a::b::l),m.1∈a::b::l/\m.2∈a::b::l:=hm;rw [hP] at hm ⊢;have h:=aF hg P [(a,b)] (a,b) (hm (a,b) (by simp)) (λm h=>hm m (by simp [h])) ⟨[],[],rfl,λm h=>(by cases h),λm h=>(by cases h)⟩;rw [ZQ];have e:P7 sg (a,b) (a,b)=(a,b):=by rcases RO sg (a,b) (a,b) with e | e <;> exact e
 rw [e]; exact h
theorem Qac {l:List Pt} (hd:l.Pairwise λx y=>x.id≠y.id) {u v:Pt} (hu:u∈l) (hv:v∈l) (h:u.id=v.id):u=v:=by
 by_cases e:u=v
 ·exact e
 ·rcases zX hd hu hv e with h' | h'
  ·exact absurd h h'
  ·exact absurd h.symm h'
theorem Qc3 {l:List Pt} (hl:∀ p∈l,Sc p.c) (hd:l.Pairwise λx y=>x.id≠y.id) {a b:Tm} (ha:Va a) (hb:Va b) (h:∀ x∈Ln (Fu a) l,Hj (Fu b) x.p=Hj (Fu a) x.p):ZR (Fu b) l=ZR (Fu a) l/\Ln (Fu b) l=Ln (Fu a) l:=by
 match l,hl,hd,h with
 | [],_,_,_=>exact ⟨rfl,rfl⟩
 | [x],_,_,_=>exact ⟨rfl,rfl⟩
 |
  u::v::l',hl,hd,h =>
  obtain ⟨y,y1,y2⟩:=aK hl ha;obtain ⟨z,z1,z2⟩:=aK hl hb;have ga:=y2 y y1 Qp;have gb:=z2 z z1 Qp;have fa:=iH (f:=λm=>sA m y) ga;have fb:=iH (f:=λm=>sA m z) gb;simp only [ZR,Ln] at h ⊢;have hm:∀ m∈Gs (u::v::l'),m.1∈u::v::l'/\m.2∈u::v::l':=Sy _ _;generalize u::v::l'=l at *;obtain ⟨r,hr⟩:=nmE (Hn (Fu a) (u,v) (Gs l));rw [<-hr] at fa h ⊢;obtain ⟨P1,P2,hP,h1,h2⟩:=fa;have hrm:r∈Gs l:=by rw [hP]; simp
  have hrl:=hm r hrm;have key:∀ m∈Gs l,m=r\/Hj (Fu b) (Hp r.1.c r.2.c m.1.c m.2.c)=Hj (Fu a) (Hp r.1.c r.2.c m.1.c m.2.c):=λm hmm=>by
   have hml:=hm m hmm;by_cases e:ZH r m=true
   ·right;have h0:=h (Bi (Fu a) r.1 r.2 m.1 m.2) (by unfold M3; exact List.mem_map.2 ⟨m,List.mem_filter.2 ⟨hmm,e⟩,rfl⟩);rw [LR] at h0; exact h0
   ·left;unfold ZH at e;simp at e;have e1:=Qac hd hml.1 hrl.1 e.1;have e2:=Qac hd hml.2 hrl.2 e.2;exact Prod.ext e1 e2
  have fb':D7 (λm=>sA m z) (Gs l) r:=by
   refine ⟨P1,P2,hP,λm hmm=>?_,λm hmm=>?_⟩
   ·have hmp:m∈Gs l:=by rw [hP]; simp [hmm]
    have hlt:=h1 m hmm;have hml:=hm m hmp;rcases key m hmp with e | e
    ·exfalso; rw [e] at hlt; dsimp only at hlt; grind
    ·rw [ga r m hrl.1 hrl.2 hml.1 hml.2,gb r m hrl.1 hrl.2 hml.1 hml.2] at e;dsimp only at hlt ⊢;rw [Hy.2 (by grind:0<sA m y-sA r y)] at e;have:=Hy.1 e; grind
   ·have hmp:m∈Gs l:=by rw [hP]; simp [hmm]
    have hlt:=h2 m hmm;have hml:=hm m hmp;rcases key m hmp with e | e
    ·rw [e]; exact Qp
    ·rw [ga r m hrl.1 hrl.2 hml.1 hml.2,gb r m hrl.1 hrl.2 hml.1 hml.2] at e;dsimp only at hlt ⊢;have t1:=Fz (sA m y-sA r y);have t2:=Fz (sA m z-sA r z);grind
  have er:=OS fb fb';rw [er];refine ⟨rfl,?_⟩;unfold M3;refine Xq λm hmm=>?_
  have hmp:=(Yi.1 hmm).1;rcases key m hmp with e | e
  ·exfalso;have:=(Yi.1 hmm).2;rw [e] at this; unfold ZH at this; simp at this
  ·unfold Bi; rw [e]
theorem Qy6 {l:List Pt} (hl:∀ p∈l,Sc p.c) (hn:l.length≤10) (hd:l.Pairwise λx y=>x.id≠y.id):Stab (λa=>Ln (Fu a) l) (λa=>U0 (ZR (Fu a) l)):=by
 have hcp:∀ a,∀ x∈Ln (Fu a) l,x.p∈AN l:=λa x hx=>by
  match l,hx with
  |
   u::v::l',hx =>
   simp only [Ln] at hx;obtain ⟨h3,h4⟩:=Lk (Fu a) (l:=u::v::l') (Gs (u::v::l')) (u,v) ⟨by simp,by simp⟩ (Sy _ _);obtain ⟨m,hm,rfl⟩:=OQ hx;obtain ⟨h1,h2⟩:=Sy _ _ m hm;rw [LR];exact NC h3 h4 h1 h2
 refine ⟨⟨λa _ x hx=>UZ hl _ (hcp a x hx),λa _=>?_⟩,⟨AN l,UZ hl,λa _=>hcp a⟩,λa b ha hb h=>?_⟩
 ·have:=qD (Fu a) l;have:l.length*l.length<=10*10:=Zc hn hn;show (Ln (Fu a) l).length<=1000;omega
 ·obtain ⟨h1,h2⟩:=Qc3 hl hd ha hb h;exact ⟨h2,by show U0 _=U0 _; rw [h1]⟩
end Orq
