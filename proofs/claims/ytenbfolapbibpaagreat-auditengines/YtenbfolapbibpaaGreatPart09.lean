import Derived.Test.YtenbfolapbibpaaGreatPart08
import Derived.Test.YtenbfolapbibpaaGreatPart00
import Derived.Test.YtenbfolapbibpaaGreatPart04
import Derived.Test.YtenbfolapbibpaaGreatPart07
import Derived.Test.YtenbfolapbibpaaGreatPart05
import Derived.Test.YtenbfolapbibpaaGreatPart06
set_option linter.all false
namespace Orr
def Rv(p:U6):Int:=p.getD (p.length-1) 0
def OI(a b:U6):Int:=if Rv b<0 then -(Rv a)else Rv a
def FD(a b:U6)(i:Nat):Int:=a.getD i 0*((Rv b).natAbs:Int)-(if a.length-b.length<=i then OI a b*b.getD (i-(a.length-b.length)) 0 else 0)
def nZ(a b:U6):U6:=Ol a.length (FD a b)
inductive RRun (b:List Int):Nat->List Int->List Int->Prop
 |stop {a:List Int}:a.length<b.length->RRun b 0 a a
 |step {k:Nat} {a r:List Int}:b.length<=a.length->a.length<=1000->Bd 9000000 a->Bd 9000000 b->RRun b k (nZ a b) r->RRun b (k+1) a r
def QM(p:U6):Nat->Nat
 | 0=>0
 |i+1=>Int.gcd (QM p i:Nat) (p.getD i 0)
def GI(p:U6):Nat:=QM p p.length
theorem PZ(p:U6):∀{i j:Nat},j<i->((QM p i:Nat):Int)∣p.getD j 0
 | 0,_,h=>absurd h (Y5 _)
 |
  i+1,j,h=>by
  simp only[QM];rcases Zc j i with h1|h1
  ·exact Kl (Int.gcd_dvd_left ..) (PZ p h1)
  ·rw[show j=i by omega];exact Ud ..
theorem tQ(p:U6)(j:Nat):((GI p:Nat):Int)∣p.getD j 0:=by
 rcases Zc j p.length with h|h
 ·exact PZ p h
 ·rw[Qj,Qy h];exact Int.dvd_zero _
theorem YX{s:Nat}{p:U6}(h:Bd s p):∀i,Gl ((QM p i:Nat):Int)<=s
 | 0=>by simp[QM,Ce]
 |
  i+1=>by
  simp only[QM];by_cases h0:p.getD i 0=0
  ·rw[h0,Int.gcd_zero_right];exact YX h i
  ·have h1:=Ud (QM p i:Nat) (p.getD i 0);have h2:(Int.gcd (QM p i:Nat) (p.getD i 0))<=(p.getD i 0).natAbs:=Wi Fj (by simpa using Jm.2 h1);have h3:=G0 h i;rw[Mm]at h3 ⊢;simp only[Xw];omega
variable{p:U6}
theorem Qen{j i:Nat}(hj:j<i)(h:p.getD j 0≠0):0<QM p i:=by
 have:=PZ p hj;rcases Q4 (QM p i)with h0|h0
 ·rw[h0]at this;exact absurd (Int.zero_dvd.1 this) h
 ·exact h0
theorem tZ(ht:Gk p)(h:0<p.length):0<GI p:=Qen (j:=p.length-1) Fj (Tt ht h)
def Au(p:U6):Int:=if Rv p<0 then -((GI p:Nat):Int)else((GI p:Nat):Int)
def S0(p:U6):U6:=Ol p.length λi=>p.getD i 0 / Au p
def Dd(p:U6):U6:=if Rv p<0 then Pp (S0 p)else S0 p
theorem Qe1(p:U6)(j:Nat):Au p∣p.getD j 0:=by
 unfold Au
 split
 ·exact Uu.2 (tQ p j)
 ·exact tQ p j
theorem Qkk(ht:Gk p)(h:0<p.length):Au p≠0:=by
 have:=tZ ht h;unfold Au
 split <;> omega
variable{s:Nat}
theorem xT(h:Bd s p):Gl (Au p)<=s:=by
 unfold Au
 split
 ·rw[Te];exact YX h _
 ·exact YX h _
theorem aB{c:Int}(hc:c≠0)(hd:∀j,c∣p.getD j 0):JX (zp p) (1 / (c:Rat))=zp (Ol p.length λi=>p.getD i 0 / c):=by
 unfold JX Ol;rw[fY (g:=λi=>p.getD i 0 / c) _ λi _=>?_,Ic,As];obtain⟨k,hk⟩:=hd i;have hc':(c:Rat)≠0:=λe=>hc (by exact_mod_cast e)
 rw[LK,hk,Jw _ hc,Ji];grind
theorem LC(h:Bd s p):Bd s (S0 p):=KY λi _=>Qc (YN _ _) (G0 h i)
theorem PO(p:U6):(S0 p).length<=p.length:=QD _ _
theorem Qdl(h:Bd s p):Bd s (Dd p):=by
 unfold Dd
 split
 ·exact CJ (LC h)
 ·exact LC h
theorem lL(p:U6):(Dd p).length<=p.length:=by
 unfold Dd
 split
 ·exact Qc (ZZ _) (PO p)
 ·exact PO p
inductive GRun:Nat->List Int->List Int->List Int->Prop
 |stop (a:List Int):GRun 0 a [] a
 |step {k m:Nat} {a b r g:List Int}:0<b.length->b.length<=1000->Bd 9000000 b->RRun b m a r->r.length<=1000->Bd 9000000 r->Gk r->GRun k b (S0 r) g->GRun (k+1) a b g
variable{k:Nat}
theorem GRun.inv{a b g:U6}(h:GRun k a b g):(k=0/\b.length=0/\a=g)\/∃j m r,k=j+1/\0<b.length/\b.length<=1000/\Bd 9000000 b/\RRun b m a r/\r.length<=1000/\Bd 9000000 r/\Gk r/\GRun j b (S0 r) g:=by
 cases h with
 |stop=>exact .inl ⟨rfl,rfl,rfl⟩
 |step h1 h2 h3 h4 h5 h6 h7 h8=>exact .inr ⟨_,_,_,rfl,h1,h2,h3,h4,h5,h6,h7,h8⟩
def JJ(k:Nat)(p:U6):U6:=List.replicate k 0++p
theorem aI(k:Nat)(p:U6):(JJ k p).length=k+p.length:=by simp[JJ]
theorem Qdm(h:Bd s p):Bd s (JJ k p):=λz hz=>by
 rcases Qp.1 hz with h1|h1
 ·rw[Z0 h1,Ce];exact Qg _
 ·exact h z h1
inductive DRun (b:List Int):Nat->List Int->List Int->List Int->List Int->Prop
 |stop {a q:List Int}:a.length<b.length->DRun b 0 a q q a
 |step {k:Nat} {a q qf r:List Int}:b.length<=a.length->a.length<=1000->Bd 9000000 a->Rv b≠0->Rv b∣Rv a->a.length-b.length<q.length ->
  DRun b k (B7 a (JJ (a.length-b.length) (Gy b (Rv a / Rv b)))) (q.set (a.length-b.length) (Rv a / Rv b)) qf r->DRun b (k+1) a q qf r
theorem DRun.inv{b a q qf r:U6}(h:DRun b k a q qf r):(k=0/\q=qf/\a=r/\a.length<b.length)\/∃j,k=j+1/\b.length<=a.length/\a.length<=1000/\Bd 9000000 a/\Rv b≠0/\Rv b∣Rv a/\a.length-b.length<q.length /\
 DRun b j (B7 a (JJ (a.length-b.length) (Gy b (Rv a / Rv b)))) (q.set (a.length-b.length) (Rv a / Rv b)) qf r:=by
 cases h with
 |stop h=>exact .inl ⟨rfl,rfl,rfl,h⟩
 |step h1 h2 h3 h4 h5 h6 h7=>exact .inr ⟨_,rfl,h1,h2,h3,h4,h5,h6,h7⟩
def By(l:U7):U6:=l.getD (l.length-1) []
inductive LRun:Nat->List (List Int)->List (List Int)->Prop
 |stop {l:List (List Int)}:(By l).length<=1->LRun 0 l l
 |step {k m:Nat} {l f:List (List Int)} {g:List Int}:1<(By l).length->(By l).length<=1000->Gk (By l)->Bd 9000000 (By l)->Bd 9000000 (H5 (By l))->GRun m (S0 (By l)) (S0 (H5 (By l))) g->l.length<=1000->LRun k (l++[g]) f->LRun (k+1) l f
theorem LRun.inv{l f:U7}(h:LRun k l f):(k=0/\l=f/\(By l).length<=1)\/∃j m g,k=j+1/\1<(By l).length/\(By l).length<=1000/\Gk (By l)/\Bd 9000000 (By l)/\Bd 9000000 (H5 (By l))/\GRun m (S0 (By l)) (S0 (H5 (By l))) g/\l.length<=1000/\LRun j (l++[g]) f:=by
 cases h with
 |stop h=>exact .inl ⟨rfl,rfl,h⟩
 |step h1 h2 h3 h4 h5 h6 h7 h8=>exact .inr ⟨_,_,_,rfl,h1,h2,h3,h4,h5,h6,h7,h8⟩
def DOk(a b q:U6):Prop:=0<b.length/\b.length<=1000/\a.length<=1000/\Bd 9000000 b/\∃qf r n,Bd 9000000 qf/\qf.length<=1000/\DRun b n a (List.replicate (a.length+1-b.length) 0) qf r/\q=trim qf
theorem DOk.bd{a b q:U6}(h:DOk a b q):Bd 9000000 q:=by
 obtain⟨_,_,_,_,qf,r,n,h1,_,_,rfl⟩:=h;exact Mg h1
theorem DOk.len{a b q:U6}(h:DOk a b q):q.length<=1000:=by
 obtain⟨_,_,_,_,qf,r,n,_,h1,_,rfl⟩:=h;exact Qc (Sw _) h1
theorem DOk.trim{a b q:U6}(h:DOk a b q):Gk q:=by
 obtain⟨_,_,_,_,qf,r,n,_,_,_,rfl⟩:=h;exact Sj _
def Q0p(a b c f:U6):Prop:=∃x y z,DOk a b x/\DOk b c y/\DOk (S0 x) (S0 y) z/\f=S0 z
structure FRun(a:List Int)(m:Nat)(f:Nat->List Int):Prop where
 run:∃n l,LRun n [S0 a] l/\l.length=m+1/\∀k,k<m->Q0p ((l++[[1]]).getD k []) ((l++[[1]]).getD (k+1) []) ((l++[[1]]).getD (k+2) []) (f k)
 small:m<=1000
def qW(f:Nat->U6)(n:Nat):U7:=(List.range n).map f
theorem nS(f:Nat->U6)(n:Nat):(qW f n).length=n:=by simp[qW]
theorem Qf9(f:Nat->U6)(n:Nat):qW f (n+1)=qW f n++[f n]:=by simp[qW,Wv]
theorem Qn8{f:Nat->U6}{n i:Nat}(h:i<n):(qW f n)[i]? = some (f i):=by simp[qW,Jl h]
theorem lR{l:U7}{i:Nat}(h:i<l.length):l[i]? = some (l.getD i []):=by
 rw[Qj,Qf h];rfl
def ZP(f:Nat->U6):Nat->U6
 | 0=>[1]
 |i+1=>Hg (ZP f i) (f i)
def Q0o(m:Nat)(f:Nat->U6):Prop:=∀i,i<m->Bd 9000000 (ZP f i)/\(ZP f i).length<=1000/\Bd 9000000 (f i)/\(f i).length<=1000
inductive CRun:Nat->List (List Int)->List Int->List (List Int)->Prop
 |stop {l:List (List Int)} {g:List Int}:g.length=0->CRun 0 l g l
 |step {k m:Nat} {l f:List (List Int)} {g r:List Int}:0<g.length->g.length<=1000->Bd 9000000 g->RRun g m (By l) r->Gk r->Bd 9000000 r->r.length<=1000->0<l.length->l.length<=1000->CRun k (l++[g]) (Pp (Dd r)) f->CRun (k+1) l g f
theorem CRun.inv{l f:U7}{g:U6}(h:CRun k l g f):(k=0/\l=f/\g.length=0)\/∃j m r,k=j+1/\0<g.length/\g.length<=1000/\Bd 9000000 g/\RRun g m (By l) r/\Gk r/\Bd 9000000 r/\r.length<=1000/\0<l.length/\l.length<=1000/\CRun j (l++[g]) (Pp (Dd r)) f:=by
 cases h with
 |stop h=>exact .inl ⟨rfl,rfl,h⟩
 |step h1 h2 h3 h4 h5 h6 h7 h8 h9 h10=>exact .inr ⟨_,_,_,rfl,h1,h2,h3,h4,h5,h6,h7,h8,h9,h10⟩
structure ChRun(a:List Int)(sq:List Int)(c:List (List Int)):Prop where
 fac:∃m f,FRun a m f/\Q0o m f/\sq=ZP f m
 Lu:∃n,CRun n [sq] (Dd (H5 sq)) c
 bd:Bd 8000000 sq
 len:sq.length<=1000
 small:c.length<=1000
def Qgs(q:Rat)(c:U7):Prop:=∃sq,ChRun [-q.num,(q.den:Int)] sq c
end Orr
namespace Orr
open Go Go.Proofs Tryz
set_option maxRecDepth 10000
theorem RRun.inv{b a r:U6}{k:Nat}(h:RRun b k a r):(k=0/\a=r/\a.length<b.length)\/(∃j,k=j+1/\b.length<=a.length/\a.length<=1000/\Bd 9000000 a/\Bd 9000000 b/\RRun b j (nZ a b) r):=by
 cases h with
 |stop h=>exact .inl ⟨rfl,rfl,h⟩
 |step h1 h2 h3 h4 h5=>exact .inr ⟨_,rfl,h1,h2,h3,h4,h5⟩
theorem Qtr{a b:U6}(ha:Bd 9000000 a):Gl (OI a b)<=9000000:=by
 unfold OI;split
 ·rw[Te];exact G0 ha _
 ·exact G0 ha _
theorem Qtl(n:Nat):ri (n:Int)=[nd n,.bool false]:=by
 show [nd n,sg (n:Int)]=_;unfold sg;rw[decide_eq_false Fj]
def uI(a b:U6)(n:Nat):U6:=(List.range n).map (FD a b)
theorem Qnh(a b:U6)(n:Nat):(uI a b n).length=n:=by simp[uI]
theorem yN(a b:U6)(n:Nat):uI a b (n+1)=uI a b n++[FD a b n]:=by simp[uI,Wv]
theorem Qai{a0 b res:U6}{n:Nat}(hb0:0<b.length)(hb1:b.length<=1000)(hbb0:Bd 9000000 b)(hrun:RRun b n a0 res):U3 213 [.one (rp (zp a0)),.one (rp (zp b))] [.one (rp (zp res))]:=by
 have hbl:=jJ b;have hle:Gl (((Rv b).natAbs:Nat):Int)<=9000000:=G0 hbb0 _;refine G5 func213 rfl ?_;refine Uw [.r 15 (eI (b:=((b.length-1:Nat):Int)) Fj),.x (P5 (p:=b) (i:=b.length-1) Fj)] rfl ?_;refine sb [(0,.v (.one (rp (zp a0)))),(1,.v (.one (rp (zp b)))),(5,.v (.one (.ow 0 0))),(6,.v (.one (.ow 1 0)))] [.blk 57 (ri (Rv b)),.blk 57 [nd (Rv b).natAbs,.bool false]] rfl rfl ?_;refine U0 (S:=Nat×U6) 2 (λL1 s=>(0,.v (.one (rp (zp s.2))))::L1) (λ_=>[.blk 57 (ri (Rv b)),.blk 57 [nd (Rv b).natAbs,.bool false]]) (λs=>s.1) (λs=>RRun b s.1 s.2 res) (n,a0) hrun rfl rfl λ⟨k,a⟩ hs=>?_
 have hal:=jJ a;have hs:RRun b k a res:=hs;rcases RRun.inv hs with⟨rfl,rfl,h1⟩|⟨j,rfl,h1,h2,ha,hb,hr⟩
 ·exact Ux [.f (decide_eq_false Ft)] rfl
 obtain⟨K,hK⟩:=nmE (a.length-b.length);have htb:=Qtr (b:=b) ha;have cc:=YZ (p:=zp (uI a b a.length));rw[Ic,show trim (uI a b a.length)=nZ a b from rfl]at cc;refine Uw [.t (decide_eq_true Ft),.r 30 (eI (b:=(K:Int)) Ft),.r 34 (eI (b:=((a.length-1:Nat):Int)) Ft),.x (P5 (p:=a) (i:=a.length-1) Fj)] rfl ?_;refine ct 1 (S:=Unit) (λ_=>[(0,.v (.one (rp (zp a)))),(1,.v (.one (rp (zp b)))),(5,.v (.one (.ow 0 0))),(6,.v (.one (.ow 1 0))),(7,.v (.oi K)),(8,.v (.one (.ow 2 0)))]) (λ_=>[.blk 57 (ri (Rv b)),.blk 57 [nd (Rv b).natAbs,.bool false],.blk 57 (ri (OI a b))]) (λ_=>True) rfl ?_ (λ_ _=>?_)
 ·by_cases hn:Rv b<0
  ·have e:OI a b=-(Rv a):=if_pos hn;rw[e];exact go tt [.t (decide_eq_true hn),.k (XK (z:=Rv a))] rfl trivial (rc () trivial rfl)
  ·have e:OI a b=Rv a:=if_neg hn;rw[e];exact go tt [.f (decide_eq_false hn)] rfl trivial (rc () trivial rfl)
 refine Uv [.o 9 59 4] rfl ?_;refine U0 (S:=Nat) 4 (λL1 i=>(44,.v (.oi i))::(9,.v (.one (.orow 3 4 none)))::L1) (λi=>[.blk 57 (ri (Rv b)),.blk 57 [nd (Rv b).natAbs,.bool false],.blk 57 (ri (OI a b)),.row false 59 4 (frow (zp (uI a b i)))]) (λi=>a.length-i) (λi=>i<=a.length) 0 (Qg _) rfl rfl λi hi=>?_
 have hfl:=jJ (uI a b i);rw[Qnh]at hfl;by_cases h:i<a.length
 ·have cm:=Iw (a:=a.getD i 0) (b:=(((Rv b).natAbs:Nat):Int)) (Qc (G0 ha i) Fl) Fj;have hm:=Hb (a.getD i 0) (((Rv b).natAbs:Nat):Int);have hai:=G0 ha i;rw[Qtl (Rv b).natAbs]at cm;by_cases hk:K<=i
  ·have hbi:=G0 hb (i-K);have hm2:=Hb (OI a b) (b.getD (i-K) 0);have e:FD a b i=a.getD i 0*(((Rv b).natAbs:Nat):Int)-OI a b*b.getD (i-K) 0:=by unfold FD;rw[if_pos Fj,hK]
   refine go tt [.T,.x (P5 h),.k cm,.T,.r 62 (eI (b:=((i-K:Nat):Int)) Fj),.x (P5 (p:=b) (i:=i-K) Fj),.k (Iw (a:=OI a b) (b:=b.getD (i-K) 0) Fj Fj),.k (Qio Fj Fj),.k (JO (n:=1) Fl),.k (Iv (n:=a.getD i 0*(((Rv b).natAbs:Nat):Int)-OI a b*b.getD (i-K) 0)),.s (sz:=4) (Qfp _)] rfl (by simp[Gd,hfl,-List.getD_eq_getElem?_getD] <;> omega) ?_;exact rd (i+1) Fj h (by rw[yN,fO,e];rfl)
  ·have e:FD a b i=a.getD i 0*(((Rv b).natAbs:Nat):Int):=by unfold FD;rw[if_neg Fj,Int.sub_zero]
   refine go tt [.T,.x (P5 h),.k cm,.F,.k (JO (n:=1) Fl),.k (Iv (n:=a.getD i 0*(((Rv b).natAbs:Nat):Int))),.s (sz:=4) (Qfp _)] rfl (by simp[Gd,hfl,-List.getD_eq_getElem?_getD] <;> omega) ?_;exact rd (i+1) Fj h (by rw[yN,fO,e];rfl)
 ·have e:i=a.length:=Fj;rw[e];exact go tt [.F,.k cc] rfl trivial (rd (j,nZ a b) Fj hr rfl)
theorem Qxc:U3 51 [.agg (ri 1),.agg (ri 1)] [.agg (ri 1)]:=Iw (a:=1) (b:=1) Fl Fl
theorem Qqx:U3 103 [.agg (ri 1),.agg (ri 1)] [.agg (ri 1)]:=kJ (a:=1) (b:=1) Fl Fl
variable{z:Int}
theorem Qqa(hz:Gl z<=90000000):U3 51 [.agg (ri z),.agg (ri 1)] [.agg (ri z)]:=by
 have h:=Iw (a:=z) (b:=1) Fj Fl;rwa[Ut]at h
theorem oC(hz:Gl z<=90000000):U3 104 [.agg (ri z),.agg (ri 1)] [.agg (ri z)]:=by
 have h:=EG (a:=z) (b:=1) hz Fl Fl (Int.emod_one z);rwa[Int.ediv_one]at h
theorem Qhp:U3 153 [.agg (fr (z:Rat))] [.agg (fr ((-z:Int):Rat))]:=by
 have h:=Qwy (a:=(z:Rat));rwa[<-V6]at h
variable{c:Int}
theorem Qzf(hc:c≠0)(hs:Gl c<=9000000):Qs 40000000 (((1:Int):Rat) / (c:Rat)):=by
 have h0:(c:Rat)≠0:=λe=>hc (by exact_mod_cast e)
 rw[<-yF h0];unfold Hm;rw[if_neg (Jy (Ef _) (λe=>hc (by simpa using e)))];refine Qs.divInt (by show Gl (1*1)<=_;decide) ?_ Fl;show Gl (1*c)<=_;rw[Wc];omega
variable{p:U6}
theorem dY(hc:c≠0)(hs:Gl c<=9000000)(hd:∀j,c∣p.getD j 0)(hp:Bd 9000000 p)(hl:p.length<=1000):U3 260 [.one (rp (zp p)),.agg (fr (((1:Int):Rat) / (c:Rat)))] [.one (rp (zp (Ol p.length λi=>p.getD i 0 / c)))]:=by
 have h:=ES ((yR hp Fj).mono Fj) (Qzf hc hs) (by rw[As];omega);rwa[show((1:Int):Rat)=1 from rfl,aB hc hd]at h
theorem XU(tp:Gk p)(hp:Bd 9000000 p)(hl:p.length<=1000):U3 258 [.one (rp (zp p))] [.agg (fr ((Au p:Int):Rat)),.one (rp (zp (S0 p)))]:=by
 have Dz:=jJ p;rcases Q4 p.length with h0|h0
 ·have e:=Qi h0;subst e;exact Uy func258 rfl [.t rfl,.k Qin] rfl
 have hc:=Qkk tp h0;refine G5 func258 rfl ?_;refine Uv [.F,.k (JO (n:=1) Fl)] rfl ?_;refine U0 (S:=Nat) 2 (λL1 i=>(16,.v (.oi i))::L1) (λi=>[.blk 59 [.nils,.bool false,.nils,.bool false],.blk 57 (ri 1)]) (λi=>p.length-i) (λi=>i<=p.length) 0 (Qg _) rfl rfl λi hi=>?_
 by_cases h:i<p.length
 ·refine Uw [.T,.x (P5 h),.k Qxc,.x (P5 h),.k Qqx,.k (oC (z:=1) Fl)] rfl ?_;exact rd (i+1) Fj h rfl
 refine Uv [.F] rfl ?_;clear h hi;refine nlb 2 rfl rfl rfl ?_;rw[Qtm];refine U0 (S:=Nat) 3 (λL1 i=>(37,.v (.oi i))::L1) (λi=>[.blk 59 [.nils,.bool false,.nils,.bool false],.blk 57 (ri 1),.blk 57 (ri ((QM p i:Nat):Int))]) (λi=>p.length-i) (λi=>i<=p.length) 0 (Qg _) rfl rfl λi hi=>?_
 by_cases h:i<p.length
 ·have hb:=G0 hp i;have hg:=YX hp i;refine Uw [.T,.x (P5 h),.k (Qqa (z:=p.getD i 0) Fj),.x (P5 h),.k (oC (z:=p.getD i 0) Fj),.k (kJ (a:=((QM p i:Nat):Int)) (b:=p.getD i 0) Fj Fj)] rfl ?_;exact rd (i+1) Fj h rfl
 have e:i=p.length:=Fj;rw[e];have co:=SC (n:=1) Fl;have cs:=dY hc (xT hp) (Qe1 p) hp hl;by_cases hn:Rv p<0
 ·have e2:Au p=-((GI p:Nat):Int):=if_pos hn;rw[show(λi=>p.getD i 0 / Au p)=λi=>p.getD i 0 / Au p from rfl]at cs;have cn:=Qhp (z:=((GI p:Nat):Int));rw[<-e2]at cn;exact Ux [.F,.k (Iv (n:=((GI p:Nat):Int))),.r 62 (eI (b:=((p.length-1:Nat):Int)) Fj),.x (P5 (p:=p) (i:=p.length-1) Fj),.t (decide_eq_true hn),.k cn,.k co,.k (dJ (a:=((1:Int):Rat)) (b:=((Au p:Int):Rat)) ⟨Fl,Fl⟩ (Of (by have:=xT hp;omega) Fl) (λe=>hc (by exact_mod_cast e))),.k cs] rfl rfl Fu
 ·have e2:Au p=((GI p:Nat):Int):=if_neg hn;have cm:=Iv (n:=Au p);rw[e2]at cm cs hc ⊢;exact Ux [.F,.k cm,.r 62 (eI (b:=((p.length-1:Nat):Int)) Fj),.x (P5 (p:=p) (i:=p.length-1) Fj),.f (decide_eq_false hn),.k co,.k (dJ (a:=((1:Int):Rat)) (b:=((((GI p:Nat):Int):Int):Rat)) ⟨Fl,Fl⟩ (Of (by have:=YX hp p.length;unfold GI;omega) Fl) (λe=>hc (by exact_mod_cast e))),.k cs] rfl (by unfold S0;rw[e2];rfl) Fu
theorem XW(tp:Gk p)(hp:Bd 9000000 p)(hl:p.length<=1000):U3 261 [.one (rp (zp p))] [.one (rp (zp (S0 p)))] :=
 Uy func261 rfl [.k (XU tp hp hl)] rfl
theorem xP(tp:Gk p):Au p<0↔Rv p<0:=by
 unfold Au;rcases Q4 p.length with h0|h0
 ·have:=Qi h0;subst this;decide
 ·have:=tZ tp h0
  split <;> omega
theorem Qix(hp:Bd 9000000 p)(hl:p.length<=1000000):U3 212 [.one (rp (zp p))] [.one (rp (zp (Pp p)))]:=by
 have h:=Qi1 ((yR hp Fl).mono Fl) (by rw[As];exact hl);rwa[Qcw]at h
theorem rD(tp:Gk p)(hp:Bd 9000000 p)(hl:p.length<=1000):U3 210 [.one (rp (zp p))] [.one (rp (zp (Dd p)))]:=by
 by_cases hn:Rv p<0
 ·have e:Dd p=Pp (S0 p):=if_pos hn;rw[e];exact Uy func210 rfl [.k (XU tp hp hl),.t (decide_eq_true ((xP tp).2 hn)),.k (Qix (LC hp) (Qc (PO p) Fj))] rfl
 ·have e:Dd p=S0 p:=if_neg hn;rw[e];exact Uy func210 rfl [.k (XU tp hp hl),.f (decide_eq_false λh=>hn ((xP tp).1 h))] rfl
end Orr
namespace Orr
section
variable{x d:Int}(hd:0<d)(hg:Int.gcd x d=1)(hx:Gl x<=2000000)(hs:Gl d<=2000000)
include hd in
include hd in
include hd in
include hd hx hs in
include hd hx hs in
include hd hx hs in
include hd hg hx hs in
include hd hg hx hs in
end
end Orr
namespace Orr
open Go Go.Proofs Tryz
set_option maxRecDepth 10000
variable{n:Nat}
theorem Qxe{a b g:U6}(ta:Gk a)(tb:Gk b)(ha:Bd 9000000 a)(hb:Bd 9000000 b)(la:a.length<=1000)(lb:b.length<=1000)(hrun:GRun n (S0 a) (S0 b) g):U3 262 [.one (rp (zp a)),.one (rp (zp b))] [.one (rp (zp g))]:=by
 refine G5 func262 rfl ?_;refine Uv [.k (XW ta ha la),.k (XW tb hb lb)] rfl ?_;refine sb [(0,.v (.one (rp (zp (S0 a))))),(1,.v (.one (rp (zp (S0 b)))))] [] rfl rfl ?_;refine U0 (S:=Nat×U6×U6) 0 (λL1 s=>(0,.v (.one (rp (zp s.2.1))))::(1,.v (.one (rp (zp s.2.2))))::L1) (λ_=>[]) (λs=>s.1) (λs=>GRun s.1 s.2.1 s.2.2 g) (n,S0 a,S0 b) hrun rfl rfl λ⟨k,x,y⟩ hs=>?_
 have hs:GRun k x y g:=hs;have hyl:=jJ y;rcases hs.inv with⟨hk,hy0,hxg⟩|⟨j,m2,r,hk,hy0,hy1,hyb,hrr,hrl,hrb,hrt,hgr⟩
 ·rw[<-hxg];exact Ux [.f (decide_eq_false Ft)] rfl
 ·subst hk;refine Uv [.t (decide_eq_true Ft),.k (Qai (a0:=x) (b:=y) (res:=r) hy0 hy1 hyb hrr),.k (XW (p:=r) hrt hrb hrl)] rfl ?_;exact rd (j,y,S0 r) Ft hgr rfl
theorem Qqe{x y:Int}(hx:Gl x<=9000000)(hy:Gl y<=9000000)(h0:y≠0)(hd:y∣x):U3 218 [.agg (fr (x:Rat)),.agg (fr (y:Rat))] [.agg (fr ((x / y:Int):Rat))]:=by
 have hy0:(y:Rat)≠0:=λe=>h0 (by exact_mod_cast e)
 have h:=dJ (Of (s:=40000000) (z:=x) Fj Fj) (Of (s:=40000000) (z:=y) Fj Fj) hy0;obtain⟨k,rfl⟩:=hd;rw[Jw _ h0];rwa[show(((y*k:Int):Rat)) / (y:Rat)=(k:Rat) by rw[Ji];grind]at h
theorem Qei{p:U6}{c:Int}(hp:Bd 40000000 p)(hc:Gl c<=40000000)(hl:p.length<=1000000):U3 260 [.one (rp (zp p)),.agg (fr (c:Rat))] [.one (rp (zp (Gy p c)))]:=by
 have h:=ES (yR hp Fj) (Of hc Fj) (by rw[As];exact hl);rwa[yM]at h
theorem Qt0(k:Nat)(p:U6):frow (zp (List.replicate k 0))++frow (zp p)=frow (zp (JJ k p)):=by simp[zp,JJ,frow]
theorem Qe5(l:U6)(i:Nat)(z:Int):(frow (zp l)).set i [nd ((z:Rat)).num.natAbs,sg ((z:Rat)).num,nd (((z:Rat)).den:Int).natAbs,sg (((z:Rat)).den:Int)]=frow (zp (l.set i z)):=sV l i z
theorem Qq6{p q:U6}(hp:Bd 18000000 p)(hq:Bd 18000000 q)(hlp:p.length<=1000000)(hlq:q.length<=1000000):Ga prog 172 [.one (rp (zp p)),.one (.orow 0 4 none)] [.row false 59 4 (frow (zp q))] [.one (rp (zp (B7 p q)))] [.gone]:=by
 have hn:=Qi1 ((yR hq Fl).mono Fl) (by rw[As];exact hlq);have ha:=Qxd (p:=zp p) (q:=uE (zp q)) ((yR hp Fl).mono Fl) ((Qzg (yR hq Fl)).mono Fl) (by rw[As];exact hlp) (Qc (Qna _) (by rw[As];exact hlq));have e:Qfz (zp p) (uE (zp q))=zp (B7 p q):=Qtq p q;rw[e]at ha;refine G5 func172 rfl ?_;exact Uz [] [0] [.k hn,.k ha] rfl
theorem Qej{a0 b qf rem:U6}(hb0:0<b.length)(hb1:b.length<=1000)(hl0:a0.length<=1000)(hbb:Bd 9000000 b)(hqb:Bd 9000000 qf)(hrun:DRun b n a0 (List.replicate (a0.length+1-b.length) 0) qf rem):U3 263 [.one (rp (zp a0)),.one (rp (zp b))] [.one (rp (zp (trim qf))),.one (rp (zp rem))]:=by
 have h0l:=jJ a0;have hbl:=jJ b;obtain⟨N,hN⟩:=nmE (a0.length+1-b.length);rw[<-hN]at hrun;have cc:=YZ (p:=zp qf);rw[Ic]at cc;refine G5 func263 rfl ?_;refine Uw [.r 18 (eI (b:=(N:Int)) Fj),.i N,.i N,.r 21 (eI (b:=(N:Int)) Fp)] rfl ?_;refine U0 (S:=Nat) 1 (λL1 i=>(22,.v (.oi i))::L1) (λi=>[.row false 59 4 (List.replicate i (fr 0)++List.replicate (N-i) zR)]) (λi=>N-i) (λi=>i<=N) 0 (Qg _) rfl rfl λi hi=>?_
 by_cases hlt:i<N
 ·refine Uw [.T,.k Qin,.i i] rfl ?_;rw[wJ hlt];exact rd (i+1) Fj hlt rfl
 have hiN:i=N:=Fj;rw[hiN,qR];clear hiN hlt hi;refine Uv [.F] rfl ?_;refine sb [(0,.v (.one (rp (zp a0)))),(1,.v (.one (rp (zp b)))),(6,.v (.one (.orow 0 4 none)))] [.row false 59 4 (frow (zp (List.replicate N 0)))] rfl rfl ?_;refine U0 (S:=Nat×U6×U6) 1 (λL1 s=>(0,.v (.one (rp (zp s.2.1))))::L1) (λs=>[.row false 59 4 (frow (zp s.2.2))]) (λs=>s.1) (λs=>DRun b s.1 s.2.1 s.2.2 qf rem/\s.2.2.length=N) (n,a0,List.replicate N 0) ⟨hrun,Jx⟩ rfl rfl λ⟨k,a,q⟩ ⟨hr0,hr1⟩=>?_
 have hr0:DRun b k a q qf rem:=hr0;have hr1:q.length=N:=hr1;have hal:=jJ a;have hql:=jJ q;rcases hr0.inv with⟨hk,hqf,har,hlt⟩|⟨j,hk,hba,hal2,hab,hpb,hpd,hkq,hrj⟩
 ·subst hqf;subst har;exact Ux [.f (decide_eq_false Ft),.k cc] rfl
 subst hk;obtain⟨K,hK⟩:=nmE (a.length-b.length);rw[<-hK]at hrj hkq;have hla:Gl (Rv a)<=9000000:=G0 hab _;have hlb:Gl (Rv b)<=9000000:=G0 hbb _;obtain⟨c,hc⟩:=nmE (Rv a / Rv b);have cq:=Qqe hla hlb hpb hpd;have hcs:Gl (Rv a / Rv b)<=9000000:=Qc (YN _ _) hla;rw[<-hc]at cq hcs hrj;have hsl:=G8 b c;have hqs:∀x,(q.set K x).length=N:=λx=>by rw[Xs];exact hr1
 dsimp only;refine go tt [.T,.r 39 (eI (b:=(K:Int)) Fj),.r 43 (eI (b:=((a.length-1:Nat):Int)) Fj),.x (P5 (p:=a) (i:=a.length-1) Fj),.r 49 (eI (b:=((b.length-1:Nat):Int)) Fj),.x (P5 (p:=b) (i:=b.length-1) Fj),.k cq,.i K,.i K,.i K,.r 60 (eI (b:=(K:Int)) Fp)] rfl (by simp[Gd,hql] <;> omega) ?_;rw[Qe5];refine U0 (S:=Nat) 3 (λL1 i=>(61,.v (.oi i))::L1) (λi=>[.row false 59 4 (frow (zp (q.set K c))),.blk 59 (fr (c:Rat)),.row false 59 4 (List.replicate i (fr 0)++List.replicate (K-i) zR)]) (λi=>K-i) (λi=>i<=K) 0 (Qg _) rfl rfl λi hi=>?_
 by_cases hlt:i<K
 ·refine Uw [.T,.k Qin,.i i] rfl ?_;rw[wJ hlt];exact rd (i+1) Fj hlt rfl
 have hiK:i=K:=Fj;rw[hiK,qR];clear hiK hlt hi;have hzl:=jJ (List.replicate K 0);rw[Jx]at hzl;have Dz:=jJ (Gy b c);refine Uv [.F] rfl ?_;refine sb [(10,.v (.one (.orow 2 4 none))),(9,.v (.one (.ow 1 0))),(0,.v (.one (rp (zp a)))),(1,.v (.one (rp (zp b)))),(6,.v (.one (.orow 0 4 none)))] [.row false 59 4 (frow (zp (q.set K c))),.blk 59 (fr (c:Rat)),.row false 59 4 (frow (zp (List.replicate K 0)))] rfl rfl ?_;have p2:=Qq6 (p:=a) (q:=JJ K (Gy b c)) (Fz hab Fl) (Fz (Qdm (Hi hbb hcs)) Fl) Fj (by rw[aI];omega);rw[<-Qt0]at p2;refine go tt [.k (Qei (c:=c) (Fz hbb Fl) Fj Fj),.s (sz:=4) (Qe4 (zp (Gy b c))),.c [2] p2] rfl (by simp[Gd,hzl,Dz];omega) ?_;exact rd (j,B7 a (JJ K (Gy b c)),q.set K c) Ft ⟨hrj,hqs c⟩ rfl
def bW(l:U7):Fc:=l.map λp=>[rp (zp p)]
theorem WN(l:U7):(bW l).length=l.length:=by simp[bW]
theorem SY(l:U7)(g:U6):bW l++[[rp (zp g)]]=bW (l++[g]):=by simp[bW]
theorem WM{l:U7}{i:Nat}(h:i<l.length):(bW l)[i]? = some [rp (zp (l.getD i []))]:=Rm (lR h)
theorem Qsv(x:LV):∀c∈[[x]],c.length=1:=λc hc=>by rw[Ql.1 hc];rfl
variable{a:U6}
theorem ER{b q:U6}(h:DOk a b q):∃r,U3 263 [.one (rp (zp a)),.one (rp (zp b))] [.one (rp (zp q)),.one (rp (zp r))]:=by
 obtain⟨h1,h2,h3,h4,qf,r,n,h5,h6,h7,rfl⟩:=h;exact⟨r,Qej h1 h2 h3 h4 h5 h7⟩
variable{mf:Nat}{f:Nat->U6}
theorem dH(ta:Gk a)(ha:Bd 9000000 a)(la:a.length<=1000)(h2:2<=a.length)(hF:FRun a mf f):U3 214 [.one (rp (zp a))] [.one (.row (bW (qW f mf)))]:=by
 obtain⟨⟨n,ls,hrun,hlen,hq⟩,hms⟩:=hF;have hal:=jJ a;refine G5 func214 rfl ?_;refine Uv [.F,.k (XW ta ha la),.o 3 97 1,.lo] rfl ?_;refine sb [(3,.v (.one (.orow 0 1 none))),(4,.v (.one (.orow 1 1 none)))] [.row false 97 1 [],.row false 97 1 (bW [S0 a])] rfl rfl ?_;refine U0 (S:=Nat×U7) 2 (λL1 s=>(4,.v (.one (.orow 1 1 none)))::L1) (λs=>[.row false 97 1 [],.row false 97 1 (bW s.2)]) (λs=>s.1) (λs=>LRun s.1 s.2 ls/\0<s.2.length/\s.2.length<=1001) (n,[S0 a]) ⟨hrun,by show 0<1;decide,by show 1<=1001;decide⟩ rfl rfl λ⟨k,l⟩ ⟨hs1,hs2,hs3⟩=>?_
 have hs1:LRun k l ls:=hs1;have hs2:0<l.length:=hs2;have hs3:l.length<=1001:=hs3;have hll:=WN l;have hlast:(bW l)[l.length-1]? = some [rp (zp (By l))]:=WM Fj;have Dz:=jJ (By l);dsimp only;rcases hs1.inv with⟨hk,hlf,hl1⟩|⟨j,m2,g,hk,hg1,hg2,hg3,hg4,hg5,hg6,hg7,hlr⟩
 ·have hlm:l.length=mf+1:=by rw[hlf];exact hlen
  rw[<-hlf]at hq;have hl2:=WN (l++[[1]]);have hl3:(l++[[1]]).length=mf+2:=by simp[hlm]
  refine go tt [.r 23 (eI (b:=((l.length-1:Nat):Int)) Fj),.i (l.length-1),.x hlast,.F,.k Qi2,.s (sz:=1) (Qsv _)] rfl (by simp[Gd,hll];omega) ?_;rw[SY];refine U0 (S:=Nat) 2 (λL1 i=>(6,.v (.oi i))::(3,.v (.one (.orow 0 1 none)))::L1) (λi=>[.row false 97 1 (bW (qW f i)),.row false 97 1 (bW (l++[[1]]))]) (λi=>mf-i) (λi=>i<=mf) 0 (Qg _) rfl rfl λi hi=>?_
  have htl:=WN (qW f i);rw[nS]at htl;by_cases h:i<mf
  ·obtain⟨x,y,z,hx,hy,hz,hf⟩:=hq i h;obtain⟨rx,hdx⟩:=ER hx;obtain⟨ry,hdy⟩:=ER hy;obtain⟨rz,hdz⟩:=ER hz;refine go tt [.T,.i i,.x (WM Fj),.i (i+1),.x (WM Fj),.k hdx,.i (i+1),.x (WM Fj),.i (i+2),.x (WM Fj),.k hdy,.k (XW hx.trim hx.bd hx.len),.k (XW hy.trim hy.bd hy.len),.k hdz,.k (XW hz.trim hz.bd hz.len),.s (sz:=1) (Qsv _)] rfl (by simp[Gd,hl2,htl];omega) ?_;exact rd (i+1) Fj h (by rw[SY,Qf9,hf];rfl)
  ·have e:i=mf:=Fj;rw[e];exact Ux [.F] rfl rfl Fu
 ·subst hk;refine go tt [.r 23 (eI (b:=((l.length-1:Nat):Int)) Fj),.i (l.length-1),.x hlast,.T,.r 31 (eI (b:=((l.length-1:Nat):Int)) Fj),.i (l.length-1),.x hlast,.k (Qi0 (Fz hg4 Fl) Fj),.k (Qxe hg3 (Gw _ _) hg4 hg5 hg2 (Qc (Cf _) Fj) hg6),.s (sz:=1) (Qsv _)] rfl (by simp[Gd,hll];omega) ?_;exact rd (j,l++[g]) Ft ⟨hlr,Fp,Fo⟩ (by rw[SY];rfl)
theorem Qek(ta:Gk a)(ha:Bd 9000000 a)(la:a.length<=1000)(h2:2<=a.length)(hF:FRun a mf f)(hP:Q0o mf f):U3 155 [.one (rp (zp a))] [.one (rp (zp (ZP f mf)))]:=by
 have hms:=hF.small;have hal:=jJ a;have htl:=WN (qW f mf);rw[nS]at htl;refine G5 func155 rfl ?_;refine Uv [.F,.k Qi2,.k (dH ta ha la h2 hF)] rfl ?_;refine U0 (S:=Nat) 0 (λL1 i=>(15,.v (.oi i))::(3,.v (.one (rp (zp (ZP f i)))))::L1) (λ_=>[]) (λi=>mf-i) (λi=>i<=mf) 0 (Qg _) rfl rfl λi hi=>?_
 by_cases h:i<mf
 ·obtain⟨g1,g2,g3,g4⟩:=hP i h;refine Uw [.T,.x (Rm (f:=λp=>[rp (zp p)]) (Qn8 h)),.k (Qxf (p:=ZP f i) (q:=f i) Fj Fj g1 g3 Fl)] rfl ?_;exact rd (i+1) Fj h rfl
 ·have e:i=mf:=Fj;rw[e];exact Ux [.F] rfl
theorem Qfe{l:U7}(g:U6)(h:0<l.length):(bW l++[[rp (zp g)]])[l.length-1]? = some [rp (zp (By l))]:=by
 rw[Zd (by rw[WN];omega)];exact WM Fj
theorem Qiz{sq:U6}{c:U7}(ta:Gk a)(ha:Bd 9000000 a)(la:a.length<=1000)(h2:2<=a.length)(hC:ChRun a sq c):U3 154 [.one (rp (zp a))] [.one (.row (bW c))]:=by
 obtain⟨⟨mf,f,hF,hP,rfl⟩,⟨n,hcr⟩,hbd,hle,hsm⟩:=hC;refine G5 func154 rfl ?_;refine Uv [.k (Qek ta ha la h2 hF hP),.lo,.k (Qi0 (p:=ZP f mf) (Fz hbd Fl) Fj),.k (rD (p:=H5 (ZP f mf)) (Gw _ _) (Fz (vN (t:=10) hbd Fj) Fl) (Qc (Cf _) Fj))] rfl ?_;refine sb [(5,.v (.one (rp (zp (Dd (H5 (ZP f mf))))))),(4,.v (.one (.orow 0 1 none)))] [.row false 97 1 (bW [ZP f mf])] rfl rfl ?_;refine U0 (S:=Nat×U7×U6) 1 (λL1 s=>(5,.v (.one (rp (zp s.2.2))))::(4,.v (.one (.orow 0 1 none)))::L1) (λs=>[.row false 97 1 (bW s.2.1)]) (λs=>s.1) (λs=>CRun s.1 s.2.1 s.2.2 c/\0<s.2.1.length/\s.2.1.length<=1001) (n,[ZP f mf],Dd (H5 (ZP f mf))) ⟨hcr,by show 0<1;decide,by show 1<=1001;decide⟩ rfl rfl λ⟨k,l,g⟩ ⟨hs1,hs2,hs3⟩=>?_
 have hs1:CRun k l g c:=hs1;have hs2:0<l.length:=hs2;have hs3:l.length<=1001:=hs3;have hll:=WN l;have hgl:=jJ g;dsimp only;rcases hs1.inv with⟨hk,hlf,hg0⟩|⟨j,m2,r,hk,hg1,hg2,hg3,hrr,hrt,hrb,hrl,hl0,hl1,hcj⟩
 ·subst hlf;exact Ux [.F] rfl
 ·subst hk;refine go tt [.T,.s (sz:=1) (Qsv _),.r 23 (eI (b:=((l.length-1:Nat):Int)) Fo),.i (l.length-1),.x (Qfe g hl0),.k (Qai (a0:=By l) (b:=g) (res:=r) hg1 hg2 hg3 hrr),.k (rD (p:=r) hrt hrb hrl),.k (Qix (p:=Dd r) (Qdl hrb) (Qc (lL r) Fj))] rfl (by simp[Gd,hll];omega) ?_;exact rd (j,l++[g],Pp (Dd r)) Ft ⟨hcj,Fp,Fo⟩ (by rw[SY];rfl)
variable{q:Rat}
theorem Q0u(h1:Gl q.num<=2000000)(h2:Gl (q.den:Int)<=2000000):Bd 9000000 [-q.num,(q.den:Int)]:=λz hz=>by
 simp only[Qk,Jk,or_false]at hz;rcases hz with rfl|rfl
 ·rw[Te];omega
 ·omega
abbrev aq(q:Rat)(c:U7):Fb:=[rp (zp [-q.num,(q.den:Int)]),.row (bW c)]++fr q++fr q
theorem NW{c:U7}(hq:Qs 2000000 q)(hC:Qgs q c):U3 83 [.agg (fr q)] [.agg (aq q c)]:=by
 obtain⟨sq,hch⟩:=hC;have co:=JO (n:=1) Fl;exact Uy func83 rfl [.k co,.k (Iv (n:=q.num)),.k (Qhp (z:=q.num)),.k co,.k (Iv (n:=(q.den:Int))),.k (Qiz (a:=[-q.num,(q.den:Int)]) (Qda q) (Q0u hq.1 hq.2) (by show 2<=1000;decide) (Qm 2) hch)] rfl
end Orr
namespace Orr
end Orr
namespace Orr
open Go Go.Proofs Tryz
set_option maxRecDepth 10000
structure Rs(k:Crv):Prop where
 n:KX k
 c:Cs 100000 16 k



theorem Qsf(l:U8)(n:Nat):(lm l).take (min l.length n)=lm (l.take n):=by
 rw[lm,lm,<-Yf];rcases Nat.le_total l.length n with h|h
 ·rw[Z8 h,Q6,Qo h]
 ·rw[Kj h]
theorem Qxa{l:U8}{n:Nat}(hn:n<=1000):U3 174 [.one (.row (lm l)),.oi n] [.one (.row (lm (l.take n)))]:=by
 rw[<-Qsf];have hll:(lm l).length=l.length:=by simp[lm]
 exact Uy func174 rfl [.r 9 (eI (b:=((min l.length n:Nat):Int)) Fj),.i (min l.length n)] rfl rfl (by simp[Gd,hll];omega)
def O9(l:List RawInt):Fc:=l.map Aq
theorem ZD(l:List RawInt):(O9 l).length=l.length:=by simp[O9]
abbrev rcw(z:RawPt):Fb:=[.row (O9 z.x),.row (O9 z.y),.bool z.d.b,.row (lm z.d.l)]
theorem GB{z:RawInt}(hz:z.Ok){most:Int}(hm:0<=most/\most<=999):U3 99 [.agg (Aq z),.oi most] [.agg (Rj (Tq most z))]:=by
 obtain⟨b,l⟩:=z;have hb:=FV hm.1 ⟨b,l⟩;have hs:Gl (Tq most ⟨b,l⟩)<=100000000:=Qc (Mm.2 (show(Tq most ⟨b,l⟩).natAbs<2^10 by omega)) Fl;cases l with
 |nil=>exact Uy func99 rfl [.t rfl] rfl (by simp[Tq,Af]) trivial
 |
  cons u l =>
  have hu:=hz.u u (Qw ..);have co:=JO (n:=Tq most ⟨b,u::l⟩) Fj;have ct:=Qqp hs;have hr:Int.tmod (u:Int) (most+1)=(u:Int) % (most+1):=Vq Fj;have h1:=Yx (u:Int) (b:=most+1) Fj;have h2:=Yd (u:Int) (b:=most+1) Fj;cases b with
  |
   true =>
   rw[show Tq most ⟨true,u::l⟩=-((u:Int) % (most+1)) from rfl]at co ct ⊢;exact Uy func99 rfl [.f (decide_eq_false (by simp[lm];try omega)),.x (l:=lm (u::l)) (i:=0) (xs:=[.int .u32 (u:Int)]) rfl,.r 18 (eI hr),.t rfl,.k co,.k ct] rfl rfl Fu
  |
   false =>
   rw[show Tq most ⟨false,u::l⟩=(u:Int) % (most+1) from rfl]at co ct ⊢;exact Uy func99 rfl [.f (decide_eq_false (by simp[lm];try omega)),.x (l:=lm (u::l)) (i:=0) (xs:=[.int .u32 (u:Int)]) rfl,.r 18 (eI hr),.f rfl,.k co,.k ct] rfl rfl Fu
variable{n:Nat}{Q:Exit->Sg->Fe->Prop}{it:List It}
theorem oz2{P:Program}[Mo P]{L L':Sg}{B B':Fe}(d off T sz:Nat)(hs:Tz it=true)(h:aK (P:=P) d L B [.oc d off T sz]=some (L',B',[],[]))(k:AK P n Q it L' B'):AK P n Q it L B:=AK.sub (OM h EqOk.nil) hs k
theorem pz{P:Program}[Mo P]{L L':Sg}{B B':Fe}(i:Nat)(hs:Tz it=true)(h:Qfx [i] L B=some (L',B'))(k:AK P n Q it L' B'):AK P n Q it L B:=AK.sub (TK h) hs k
def I8(l:U6):Fc:=l.map Rj
theorem jT(l:U6):(I8 l).length=l.length:=by simp[I8]
variable{l:List RawInt}{i:Nat}
theorem MX{most:Int}{a:RawInt}(hi:i<3)(h:l[i]? = some a):I8 (Ht most (l.take (i+1)))=I8 (Ht most (l.take i))++[Rj (Tq most a)]:=by
 rw[wM hi h];simp[I8]
theorem wS{most:Int}(hi:i<=3)(h:i<=l.length):(I8 (Ht most (l.take i))).length=i:=by
 rw[jT];unfold Ht;rw[List.length_map,List.length_take,List.length_take];omega
theorem Qqj{n d:Int}(hn:-9223372036854775808<=n/\n<=9223372036854775807)(hd:-9223372036854775808<=d/\d<=9223372036854775807):U3 84 [.oi n,.oi d] [.agg (fr (Hm (Pj n 61-30) (1+Pj d 6)))]:=by
 have h1:Pj n 61=n % 61:=rfl;have h2:Pj d 6=d % 6:=rfl;exact Uy func84 rfl [.k (D6 (v:=n) (n:=61) hn Fl),.k (D6 (v:=d) (n:=6) hd Fl),.k (Qu2 (n:=Pj n 61-30) (d:=1+Pj d 6) Fj Fj)] rfl rfl Fu
def rwq(z:RawPt):Fb:=rcw z++[.int .i64 z.id]

end Orr
namespace Orr
open Go Go.Proofs Tryz Orq
set_option maxRecDepth 10000
structure SqR(s:Nat)(ds:List Nat)(M:List (List (List Int))):Prop where
 l:M.length=ds.length
 w:∀r∈M,r.length=ds.length
 b:∀r∈M,∀p∈r,Bd s p
 n:∀r∈M,∀(j:Nat) (p:List Int),r[j]? = some p->p.length≤ds.getD j 0+1
end Orr
namespace Orr
open Go Go.Proofs Tryz Orq
theorem xW{f:Nat->U6}{rows:List U7}:∀i,Gk (Dw f rows i)
 | 0=>rfl
 |
  i+1=>by
  simp only[Dw]
  split
  ·exact xW i
  ·split
   ·exact Gw _ _
   ·exact Gw _ _
end Orr
namespace Orr
open Go Go.Proofs Tryz Orq
set_option maxRecDepth 10000
variable{t:Tm}
theorem oS{a b c:Pt}(ha:Sc a.c)(hb:Sc b.c)(hc:Sc c.c)(ht:Va t):U3 165 [.oi 3,.agg (ta t),.one (.row [Ge a,Ge b,Ge c])] [.agg (Lt (Ab (Gm t) a b c)),.oi 0]:=by
 have hp:=(QN ha hb hc).dp;have e:Lt (Ab (Gm t) a b c)=[.int .i64 3,.int .i64 a.id,.int .i64 b.id,.int .i64 c.id,.int .i64 0,pl (Gj a.c b.c c.c),.int .i64 (G7 (Gm t) (Gj a.c b.c c.c))]:=by rw[Ab]
 rw[e];have cg:=JH hp ht;have cf:=EX ha hb hc;generalize Gj a.c b.c c.c=F at *;refine G5 func165 rfl ?_;refine Uv [.k Qef,.f rfl] rfl ?_;refine U0 (S:=Nat) 3 (λL1 i=>(22,.v (.oi i))::L1) (λi=>[.blk 75 (ta t),.blk 168 zCt,.blk 168 [.int .i64 3,.int .i64 (if 1<=i then a.id else 0),.int .i64 (if 2<=i then b.id else 0),.int .i64 (if 3<=i then c.id else 0),.int .i64 0,.nils,.int .i64 0]]) (λi=>3-i) (λi=>i<=3) 0 (Qg _) rfl rfl λi hi=>?_
 rcases(show i=0\/i=1\/i=2\/i=3 by omega)with rfl|rfl|rfl|rfl
 ·refine Uv [.t rfl,.x (i:=0) (xs:=Ge a) rfl,.i 0] rfl ?_ Fw;exact rd 1 Fj Fj rfl
 ·refine Uv [.t rfl,.x (i:=1) (xs:=Ge b) rfl,.i 1] rfl ?_ Fw;exact rd 2 Fj Fj rfl
 ·refine Uv [.t rfl,.x (i:=2) (xs:=Ge c) rfl,.i 2] rfl ?_ Fw;exact rd 3 Fj Fj rfl
 ·exact Ux [.f rfl,.f rfl,.f rfl,.t rfl,.x (i:=0) (xs:=Ge a) rfl,.x (i:=1) (xs:=Ge b) rfl,.x (i:=2) (xs:=Ge c) rfl,.k cf,.k cg] rfl
theorem Ou{α:Type}(s:α->α->α->Bool):∀(l acc:List α) (c:α),Nl s acc (l++[c])=c::Ai s c (Nl s acc l)
 | [],_,_=>rfl
 |_::l,_,c=>Ou s l _ c
variable{R:List Pt}
theorem Qad(hR:∀p∈R,Sc p.c)(hn:R.length≤1000000)(ht:Va t):U3 231 [.agg (ta t),.one (pts R)] [.one (pts (Mw (Gm t) R))]:=by
 have hcl:=Ha R;show U3 231 [.agg (ta t),.one (.row (Fx R))] [.one (.row (Fx (Nl (RZ (Gm t)) [] R).reverse))];obtain⟨s,hs⟩:=nmE (RZ (Gm t));have hs':∀a b c,s a b c=decide (0<G7 (Gm t) (Gj a.c b.c c.c)):=λa b c=>by rw[hs];rfl
 rw[<-hs];refine G5 func231 rfl ?_;refine Uv [.o 5 39 5] rfl ?_;refine U0 (S:=Nat) 2 (λL1 i=>(10,.v (.oi i))::(5,.v (.one (.orow 1 5 none)))::L1) (λi=>[.blk 75 (ta t),.row false 39 5 (Fx (Nl s [] (R.take i)).reverse)]) (λi=>R.length-i) (λi=>i<=R.length) 0 (Qg _) rfl rfl λi hi=>?_
 by_cases hlt:i<R.length
 ·obtain⟨c,hc⟩:=gxE (l:=R) (i:=i) hlt;have hcp:=hR c (Qa hc);have hst:Nl s [] (R.take (i+1))=c::Ai s c (Nl s [] (R.take i)):=by rw[Xb,hc];exact Ou s _ _ c
  obtain⟨O,hO⟩:=nmE (Nl s [] (R.take i));have hOl:O.length<=1000000:=by
   have:=UM s (R.take i) [];rw[<-hO,Qq]at this;simp at this;omega
  have hOm:∀x∈O,Sc x.c:=λx hx=>by
   rw[hO]at hx;rcases UN hx with h|h
   ·cases h
   ·exact hR x (Qn h)
  rw[<-hO]at hst ⊢;have hrl:(Fx O.reverse).length=O.length:=by rw[Ha,Jb]
  have hm:∀y∈[Ge c],y.length=5:=λy hy=>by rw[Ql.1 hy];rfl
  have hget:∀{pre r:List Pt} {x:Pt},O=pre++x::r->∀j,j=r.length->(Fx O.reverse)[j]? = some (Ge x):=λ{pre r x} e j hj=>by
   refine Hf ?_;rw[e,hj];simp
  have hfin:∀{pre st:List Pt},O=pre++st->Fx (c::st).reverse=(Fx O.reverse).take st.length++[Ge c]:=λ{pre st} e=>by
   rw[e];simp[Fx,Yf,List.take_append]
  have hfull:Fx (c::O).reverse=Fx O.reverse++[Ge c]:=by simp[Fx]
  refine Uv [.t (by simp[hcl];omega),.x (Hf hc)] rfl ?_;refine U0 (S:=Bool×List Pt) 3 (λL1 s=>(5,.v (.one (.orow 1 5 (cond s.1 (some (0,s.2.length)) none))))::L1) (λ_=>[.blk 75 (ta t),.row false 39 5 (Fx O.reverse),.blk 39 (Ge c)]) (λs=>s.2.length) (λst=>(∃pre,O=pre++st.2/\(st.1=false->pre=[]))/\Ai s c st.2=Ai s c O) (false,O) ⟨⟨[],rfl,λ_=>rfl⟩,rfl⟩ rfl rfl λ⟨b,st⟩ ⟨⟨pre,h1,h2⟩,h3⟩=>?_
  have h1:O=pre++st:=h1;have h3:Ai s c st=Ai s c O:=h3;have hl1:O.length=pre.length+st.length:=by rw[h1,Qu]
  have fin:∀{st:List Pt},O=pre++st->Ai s c st=Ai s c O->Ai s c st=st->Fx (Nl s [] (R.take (i+1))).reverse=(Fx O.reverse).take st.length++[Ge c]/\(pre=[]->Fx (Nl s [] (R.take (i+1))).reverse=Fx O.reverse++[Ge c]):=λ{st} e1 e2 e3=>by
   rw[hst,<-e2,e3];refine⟨hfin e1,λhp=>?_⟩;rw[hp]at e1;rw[<-hfull,e1];rfl
  rcases st with _|⟨z,_|⟨y,r⟩⟩
  ·obtain⟨f1,f2⟩:=fin h1 h3 rfl;cases b with
   |
    false =>
    have hp:=h2 rfl;have f2:=f2 hp;rw[hp]at hl1;have hl2:(Fx O.reverse).length<=1:=by rw[hrl,hl1];simp
    refine Uw [.g 17 false U4,.f rfl,.s (sz:=5) hm] rfl ?_;exact rd (i+1) Fj hlt (by rw[f2];rfl)
   |
    true =>
    refine Uw [.g 17 false (decide_eq_false Fp),.f rfl,.s (sz:=5) hm] rfl ?_;exact rd (i+1) Fj hlt (by rw[f1];rfl)
  ·obtain⟨f1,f2⟩:=fin h1 h3 rfl;cases b with
   |
    false =>
    have hp:=h2 rfl;have f2:=f2 hp;rw[hp]at hl1;have hl2:(Fx O.reverse).length<=1:=by rw[hrl,hl1];simp
    refine Uw [.g 17 false U4,.f rfl,.s (sz:=5) hm] rfl ?_;exact rd (i+1) Fj hlt (by rw[f2];rfl)
   |
    true =>
    refine Uw [.g 17 false (decide_eq_false Fp),.f rfl,.s (sz:=5) hm] rfl ?_;exact rd (i+1) Fj hlt (by rw[f1];rfl)
  ·have sz:=hOm z (by rw[h1];simp);have sy:=hOm y (by rw[h1];simp);have co:=EX sy sz hcp;have cg:=JH (QN sy sz hcp).dp ht;have gz:=hget h1 (r.length+1) rfl;have gy:=hget (pre:=pre++[z]) (r:=r) (x:=y) (by rw[h1];simp) r.length rfl;have hl1:O.length=pre.length+(r.length+2):=hl1;have hls:=hs' y z c;by_cases hq:s y z c=true
   ·have hg:¬G7 (Gm t) (Gj y.c z.c c.c)<=0:=by rw[hls]at hq;have:=of_decide_eq_true hq;omega
    obtain⟨f1,f2⟩:=fin h1 h3 (by simp only[Ai];rw[if_pos hq]);cases b with
    |
     false =>
     have hp:=h2 rfl;have f2:=f2 hp;rw[hp]at hl1;have hl2:(Fx O.reverse).length=r.length+2:=by rw[hrl,hl1];simp
     refine Uw [.g 17 true U5,.r 21 (eI (b:=(r.length:Int)) Fj),.i r.length,.x gy,.r 28 (eI (b:=((r.length+1:Nat):Int)) Fj),.i (r.length+1),.x gz,.k co,.k cg,.f (decide_eq_false hg),.s (sz:=5) hm] rfl ?_;exact rd (i+1) Fj hlt (by rw[f2];rfl)
    |
     true =>
     refine Uw [.g 17 true (decide_eq_true Fo),.r 21 (eI (b:=(r.length:Int)) Fo),.i r.length,.x (l:=Fx O.reverse) (i:=0+r.length) (xs:=Ge y) (by rw[Z9];exact gy),.r 28 (eI (b:=((r.length+1:Nat):Int)) Fp),.i (r.length+1),.x (l:=Fx O.reverse) (i:=0+(r.length+1)) (xs:=Ge z) (by rw[Z9];exact gz),.k co,.k cg,.f (decide_eq_false hg),.s (sz:=5) hm] rfl ?_;exact rd (i+1) Fj hlt (by rw[f1];rfl)
   ·have hg:G7 (Gm t) (Gj y.c z.c c.c)<=0:=by
     rw[hls]at hq;have:=of_decide_eq_false (Uc.2 hq);omega
    have hpop:Ai s c (y::r)=Ai s c O:=by rw[<-h3];simp only[Ai];rw[if_neg hq]
    have hin:(∃pre',O=pre'++(y::r)/\((true:Bool)=false->pre'=[]))/\Ai s c (y::r)=Ai s c O:=⟨⟨pre++[z],by rw[h1];simp,λh=>by cases h⟩,hpop⟩;cases b with
    |
     false =>
     have hp:=h2 rfl;rw[hp]at hl1;have hl2:(Fx O.reverse).length=r.length+2:=by rw[hrl,hl1];simp
     refine Uw [.g 17 true U5,.r 21 (eI (b:=(r.length:Int)) Fj),.i r.length,.x gy,.r 28 (eI (b:=((r.length+1:Nat):Int)) Fj),.i (r.length+1),.x gz,.k co,.k cg,.t (decide_eq_true hg),.r 42 (eI (b:=((r.length+1:Nat):Int)) Fj),.i (r.length+1)] rfl ?_;exact rd (true,y::r) Fp hin rfl
    |
     true =>
     refine Uw [.g 17 true (decide_eq_true Fo),.r 21 (eI (b:=(r.length:Int)) Fo),.i r.length,.x (l:=Fx O.reverse) (i:=0+r.length) (xs:=Ge y) (by rw[Z9];exact gy),.r 28 (eI (b:=((r.length+1:Nat):Int)) Fp),.i (r.length+1),.x (l:=Fx O.reverse) (i:=0+(r.length+1)) (xs:=Ge z) (by rw[Z9];exact gz),.k co,.k cg,.t (decide_eq_true hg),.r 42 (eI (b:=((r.length+1:Nat):Int)) Fp),.i (r.length+1)] rfl ?_;exact rd (true,y::r) Fp hin rfl
 ·obtain rfl:i=R.length:=Fj;rw[Q6];exact Ux [.f (by simp[hcl])] rfl
theorem dN{sg:U6->Int}(h:R≠[]):0<(Mw sg R).length:=by
 unfold Mw;rw[Jb];obtain⟨x,hx⟩:∃x,R.getLast? = some x:=⟨_,Yc h⟩;obtain⟨l,hl⟩:=Vu.1 hx;rw[hl,Ou];simp
theorem mZ{α:Type}(s:α->α->α->Bool)(c:α):∀{st:List α},st≠[]->0<(Ai s c st).length
 | [],h=>absurd rfl h
 | [_],_=>by simp[Ai]
 |
  b::a::r,_=>by
  simp only[Ai]
  split
  ·simp
  ·exact mZ s c Fp
theorem EB{sg:U6->Int}(h:2<=R.length):2<=(Mw sg R).length:=by
 unfold Mw;rw[Jb];obtain⟨x,hx⟩:∃x,R.getLast? = some x:=⟨_,Yc (by intro e;rw[e]at h;simp at h)⟩;obtain⟨l,hl⟩:=Vu.1 hx;have hl0:l≠[]:=by intro e;rw[hl,e]at h;simp at h
 have:=dN (sg:=sg) hl0;unfold Mw at this;rw[Jb]at this;have:=mZ (RZ sg) x (st:=Nl (RZ sg) [] l) (by intro e;rw[e]at this;simp at this);rw[hl,Ou,Q5];omega
theorem Qaj(hR:∀p∈R,Sc p.c)(hn:R.length≤1000000)(ht:Va t):U3 166 [.agg (ta t),.one (pts R)] [.one (pts (Mf (Gm t) R))]:=by
 have hcl:=Ha R;have hrl:=Ha R.reverse;rw[Jb]at hrl;show U3 166 [.agg (ta t),.one (.row (Fx R))] [.one (.row (Fx (Mf (Gm t) R)))];refine G5 func166 rfl ?_;by_cases h3:R.length<3
 ·have e:Mf (Gm t) R=R:=if_pos h3;rw[e];exact Ux [.T] rfl
 have c1:=Qad hR hn ht;have c2:=Qad (R:=R.reverse) (λp hp=>hR p (Xh.1 hp)) (by rw[Jb];exact hn) ht;have p1:=EB (sg:=Gm t) (R:=R) Fj;have p2:=EB (sg:=Gm t) (R:=R.reverse) (by rw[Jb];omega);have k1:=XF (Gm t) R;have k2:=XF (Gm t) R.reverse;rw[Jb]at k2;refine go tt [.F,.o 5 39 5,.r 15 (eI (b:=(R.length:Int)-1-((0:Nat):Int)) Fj)] rfl (by simp[Gd,hcl];omega) ?_;refine U0 (S:=Nat) 2 (λL1 j=>(6,.v (.oi ((R.length:Int)-1-(j:Int))))::(5,.v (.one (.orow 1 5 none)))::L1) (λj=>[.blk 75 (ta t),.row false 39 5 (Fx (R.reverse.take j))]) (λj=>R.length-j) (λj=>j<=R.length) 0 (Qg _) rfl rfl λj hj=>?_
 by_cases hlt:j<R.length
 ·obtain⟨x,hx⟩:=gxE (l:=R) (i:=R.length-1-j) Fj;have hx':R.reverse[j]? = some x:=by rw[List.getElem?_reverse Fj];exact hx
  have hm:∀y∈[Ge x],y.length=5:=λy hy=>by rw[Ql.1 hy];rfl
  have e:Fx (R.reverse.take (j+1))=Fx (R.reverse.take j)++[Ge x]:=by rw[Xb,hx'];simp[Fx]
  have htl:(Fx (R.reverse.take j)).length=j:=by rw[Ha,Qq,Jb];omega
  refine go tt [.T,.r 22 (eI (b:=((R.length-1-j:Nat):Int)) Fj),.x (Hf hx),.s (sz:=5) hm,.r 19 (eI (b:=(R.length:Int)-1-((j+1:Nat):Int)) Fj)] rfl (by simp[Gd,htl];omega) ?_;exact rd (j+1) Fj hlt (by rw[e];rfl)
 ·obtain rfl:j=R.length:=Fj;rw[Qo (by rw[Jb];exact Qm _)];obtain⟨A,hA⟩:=nmE (Mw (Gm t) R);obtain⟨C,hC⟩:=nmE (Mw (Gm t) R.reverse);have e:Mf (Gm t) R=A.dropLast++C.dropLast:=by rw[hA,hC];exact if_neg h3
  rw[<-hA]at c1 p1 k1;rw[<-hC]at c2 p2 k2;rw[e];have hs:∀y∈(C.map Ge).take (C.length-1),y.length=5:=λy hy=>JZ C y (Qn hy)
  have hs2:∀y∈(A.map Ge).take (A.length-1),y.length=5:=λy hy=>JZ A y (Qn hy)
  refine Ux [.F,.p 1,.k c1,.k c2,.r 36 (eI (b:=((A.length-1:Nat):Int)) Fo),.r 39 (eI (b:=((A.length-1:Nat):Int)) Fo),.i (A.length-1),.r 44 (eI (b:=((C.length-1:Nat):Int)) Fo),.i (C.length-1),.s (sz:=5) hs] rfl (by simp[Fx,Yf,List.dropLast_eq_take]) ?_;simp only[Gd,Qq,Ze]
  and_intros <;> first|exact hs2|omega
variable{l:List Pt}
theorem NK{t:Tm}(hl:∀p∈l,Sc p.c)(hn:l.length≤1000000)(ht:Va t):Ga prog 163 [.agg (ta t),.one (pts l)] [] [.one (.orow 0 7 none)] [.row false 168 7 (Gg (Mb (Gm t) l))]:=by
 have hcl:=Ha l;show Ga prog 163 [.agg (ta t),.one (.row (Fx l))] [] [.one (.orow 0 7 none)] [.row false 168 7 (Gg (Mb (Gm t) l))];refine G5 func163 rfl ?_;refine Uv [.o 5 168 7] rfl ?_;refine U0 (S:=Nat) 2 (λL1 i=>(6,.v (.oi ((i+1:Nat):Int)))::(5,.v (.one (.orow 1 7 none)))::L1) (λi=>[.blk 75 (ta t),.row false 168 7 (Gg ((Mb (Gm t) l).take i))]) (λi=>l.length-i) (λi=>i<=l.length-1) 0 (Qg _) rfl rfl λi hi=>?_
 by_cases hlt:i+1<l.length
 ·obtain⟨a,ha⟩:=gxE (l:=l) (i:=i) Fj;obtain⟨b,hb⟩:=gxE (l:=l) (i:=i+1) hlt;have hg:=MP (Gm t) ha hb;have hm:∀y∈[Lt (XI (Gm t) a b)],y.length=7:=λy hy=>by rw[Ql.1 hy];rfl
  refine go tt [.t (by simp[hcl];omega),.r 19 (eI (b:=(i:Int)) Fp),.x (Hf ha),.x (Hf hb),.k (oR (hl a (Qa ha)) (hl b (Qa hb)) ht),.s (sz:=7) hm,.r 14 (eI (b:=((i+1+1:Nat):Int)) Fp)] rfl (by simp[Gd,Ha,Mx,Ds];omega) ?_;exact rd (i+1) Fj Fj (by rw[hg];simp[Gg];rfl)
 ·have e:(Mb (Gm t) l).take i=Mb (Gm t) l:=Qo (by rw[Ds];omega);rw[e];exact Uz [] [1] [.f (by simp[hcl];omega)] rfl
variable{i:Nat}
theorem tC{C:List Pt}{a b:Pt}(ha:C[i]? = some a)(hb:C[(i+1) % C.length]? = some b):(Sl C)[i]? = some (a,b):=by
 have hi:=(Qd.1 ha).1;unfold Sl;rw[List.getElem?_zip_eq_some];refine⟨ha,?_⟩;by_cases h:i+1<C.length
 ·rw[Xk h]at hb;rw[Zd (by rw[Q9];omega),Xq,Ye];exact hb
 ·have e:i+1=C.length:=Fj;rw[e,Nat.mod_self]at hb;rw[Zz (by rw[Q9];omega),Q9,show i-(C.length-1)=0 by omega,Jj Fj];exact hb
theorem tD(C:List Pt):(Sl C).length=C.length:=by
 unfold Sl;rw[List.length_zip,Qu,Q9,Qq];omega
theorem qF{α β:Type}{f:α->List β}{l:List α}{x:α}(h:l[i]? = some x):(l.take (i+1)).flatMap f=(l.take i).flatMap f++f x:=by
 rw[Xb,h];simp
theorem ML{α β:Type}{f:α->β}{p:α->Bool}{l:List α}{x:α}(h:l[i]? = some x):((l.take (i+1)).filter p).map f=((l.take i).filter p).map f++if p x=true then [f x]else []:=by
 rw[Xb,h,Jf,J7];congr 1;simp only[Option.toList];by_cases hp:p x=true
 ·rw[if_pos hp,Jo hp];rfl
 ·rw[if_neg hp,Yh hp];rfl
theorem sX{α β:Type}{f:α->List β}{n:Nat}(hf:∀x,(f x).length<=n)(l:List α):(l.flatMap f).length<=l.length*n:=UC f n l λx _=>hf x
theorem Qdg(hl:∀p∈l,Sc p.c):∀p∈l,Qpc 4294967294 1073741824 p:=λp hp=>⟨(hl p hp).n,(hl p hp).c.mono Fl Fl⟩
set_option maxHeartbeats 4000000 in
theorem zM{a:Tm}{c:Cr}{r1:Fc}(hl:∀p∈l,Sc p.c)(hn:l.length≤10)(ha:Va a):Ga prog 92 [.one (.ow 0 0),.agg (ta a)] [.blk 192 (Tc c (Fx l) r1)] [.one (.row (Gg (qT l a)))] [.blk 192 (Tc c (Fx l) (brH l a))]:=by
 have hwl:=Bh l;have cw:=dW (l:=l) (Qdg hl) Fj;have cr:=rT (l:=Gv l) (λp hp=>hl p (Hu hp)) Fj ha;have cn:=Qaj (R:=Ra a (Gv l)) (λp hp=>hl p (Hu (Hk.1 hp))) (by rw[Mq];omega) ha;have cr2:=rT hl Fj ha;have cc:=NK (l:=Ra a l) (t:=a) (λp hp=>hl p (Hk.1 hp)) (by rw[Mq];omega) ha;have hCm:∀p∈Hn l a,p∈l:=λp hp=>Tr hp
 have hCl:=PX l a;have e0:qT l a=UF l a++Da (Gm a) l (Hn l a):=rfl;rw[e0];show Ga prog 92 _ _ _ [.blk 192 (Tc c (Fx l) (Fx (Hn l a)))];have cn:U3 166 [.agg (ta a),.one (pts (Ra a (Gv l)))] [.one (pts (Hn l a))]:=cn;have cc:Ga prog 163 [.agg (ta a),.one (pts (Ra a l))] [] [.one (.orow 0 7 none)] [.row false 168 7 (Gg (UF l a))]:=cc;have hbl:(UF l a).length<=10:=by unfold UF;rw[Ds,Mq];omega
 obtain⟨C,hC⟩:=nmE (Hn l a);obtain⟨cs0,hc0⟩:=nmE (UF l a);rw[<-hC]at cn hCm hCl ⊢;rw[<-hc0]at cc hbl ⊢;have hcp:=Ha C;have hlp:=Ha l;have eel:∀x,(I0 (Gm a) l x).length<=l.length:=λx=>by unfold I0;rw[List.length_map];exact List.length_filter_le _ _
 refine G5 func92 rfl ?_;refine Uv [.k cw,.k cr,.k cn,.k QX,.k cr2,.c [2] cc] rfl ?_;by_cases h2:C.length<2
 ·have e:Da (Gm a) l C=[]:=if_pos h2;rw[e,Zw];exact Uz [2] [0] [.t (decide_eq_true Fo)] rfl
 have e:Da (Gm a) l C=(Sl C).flatMap (I0 (Gm a) l):=if_neg h2;rw[e];refine Uv [.f (decide_eq_false Fo)] rfl ?_;refine sb [(48,.v (.oi 0)),(47,.v (.oi ((C.map Ge).length:Int))),(46,.v (.one (pts C))),(6,.v (.one (.orow 2 7 none))),(3,.v (.one (.ow 1 0))),(0,.v (.one (.ow 0 0)))] [.blk 192 (Tc c (Fx l) (Fx C)),.blk 75 (ta a),.row false 168 7 (Gg cs0)] rfl rfl ?_;rw[show Gg cs0=Gg (cs0++((Sl C).take 0).flatMap (I0 (Gm a) l)) by simp];refine U0 (S:=Nat) 3 (λL1 i=>(48,.v (.oi i))::(6,.v (.one (.orow 2 7 none)))::L1) (λi=>[.blk 192 (Tc c (Fx l) (Fx C)),.blk 75 (ta a),.row false 168 7 (Gg (cs0++((Sl C).take i).flatMap (I0 (Gm a) l)))]) (λi=>C.length-i) (λi=>i<=C.length) 0 (Qg _) rfl rfl λi hi=>?_
 by_cases hlt:i<C.length
 ·obtain⟨x,hx⟩:=gxE (l:=C) (i:=i) hlt;obtain⟨y,hy⟩:=gxE (l:=C) (i:=(i+1) % C.length) (Xi _ Fj);have he:=tC hx hy;have sx:=hl x (hCm x (Qa hx));have sy:=hl y (hCm y (Qa hy));have hflat:=qF (f:=I0 (Gm a) l) he;obtain⟨F,hF⟩:=nmE (cs0++((Sl C).take i).flatMap (I0 (Gm a) l));have hFl:F.length<=10+20*10:=by
   have h1:=sX eel ((Sl C).take i);have h2:((Sl C).take i).length*l.length<=20*10:=Zg (by rw[Qq];omega) hn;rw[hF,Qu];omega
  have hmod:(((i+1:Nat):Int)).tmod ((C.map Ge).length:Int)=(((i+1) % C.length:Nat):Int):=by rw[Ze];exact(Int.ofNat_tmod _ _).symm
  have hm0:=Yx ((i+1:Nat):Int) (show(C.length:Int)≠0 by omega);have hm1:=Yd ((i+1:Nat):Int) (show(0:Int)<C.length by omega);have hnext:cs0++((Sl C).take (i+1)).flatMap (I0 (Gm a) l)=F++(l.filter (WC (x,y))).map λc=>Ab (Gm a) x y c:=by rw[hflat,<-Za,<-hF];rfl
  rw[<-hF];refine go tt [.t (decide_eq_true Fo),.x (Hf hx),.r 58 (eI (b:=((i+1:Nat):Int)) Fp),.r 64 (eI (b:=(((i+1) % C.length:Nat):Int)) hmod),.x (Hf hy),.k QX] rfl (by simp only[Gd];omega) ?_;rw[show Gg F=Gg (F++((l.take 0).filter (WC (x,y))).map λc=>Ab (Gm a) x y c) by simp];refine U0 (S:=Nat) 5 (λL1 k=>(73,.v (.oi k))::(6,.v (.one (.orow 2 7 none)))::L1) (λk=>[.blk 192 (Tc c (Fx l) (Fx C)),.blk 75 (ta a),.row false 168 7 (Gg (F++((l.take k).filter (WC (x,y))).map λc=>Ab (Gm a) x y c)),.blk 39 (Ge x),.blk 39 (Ge y)]) (λk=>l.length-k) (λk=>k<=l.length) 0 (Qg _) rfl rfl λk hk=>?_
  by_cases hlk:k<l.length
  ·obtain⟨z,hz⟩:=gxE (l:=l) (i:=k) hlk;have sz:=hl z (Qa hz);have hflt:=ML (f:=λc=>Ab (Gm a) x y c) (p:=WC (x,y)) hz;obtain⟨G,hG⟩:=nmE (((l.take k).filter (WC (x,y))).map λc=>Ab (Gm a) x y c);have hGl:G.length<=10:=by
    have h1:=X8 (WC (x,y)) (l.take k);rw[Qq]at h1;rw[hG,Ze];omega
   rw[<-hG]at hflt ⊢;by_cases h1:z.id=x.id
   ·rw[if_neg (show ¬WC (x,y) z=true by simp[WC,h1]),Zw]at hflt;refine Uw [.t (decide_eq_true Fo),.x (Hf hz),.g 82 false (decide_eq_false (by simp[h1])),.f rfl] rfl ?_;exact rd (k+1) Fj hlk (by rw[hflt];rfl)
   ·by_cases h2:z.id=y.id
    ·rw[if_neg (show ¬WC (x,y) z=true by simp[WC,h2]),Zw]at hflt;refine Uw [.t (decide_eq_true Fo),.x (Hf hz),.g 82 true (decide_eq_true h1),.f (decide_eq_false (by simp[h2]))] rfl ?_;exact rd (k+1) Fj hlk (by rw[hflt];rfl)
    ·rw[if_pos (show WC (x,y) z=true by simp[WC,h1,h2])]at hflt;have hm:∀q∈[Lt (Ab (Gm a) x y z)],q.length=7:=λq hq=>by rw[Ql.1 hq];rfl
     refine go tt [.t (decide_eq_true Fo),.x (Hf hz),.g 82 true (decide_eq_true h1),.t (decide_eq_true h2),.k (oS sx sy sz ha),.s (sz:=7) hm] rfl (by simp[Gd,Mx];omega) ?_;have e3:Gg (F++(G++[Ab (Gm a) x y z]))=Gg (F++G)++[Lt (Ab (Gm a) x y z)]:=by simp[Gg]
     exact rd (k+1) Fj hlk (by rw[hflt,e3];rfl)
  ·obtain rfl:k=l.length:=Fj;rw[Q6,<-hnext];refine Uw [.f (decide_eq_false Fp)] rfl ?_;exact rd (i+1) Fj hlt rfl
 ·obtain rfl:i=C.length:=Fj;rw[Qo (by rw[tD];exact Qm _)];exact Uz [2] [0] [.f (decide_eq_false Fp)] rfl



end Orr
namespace Orr
open Go Go.Proofs Tryz Orq
def D3(b2 b3 b4 c2 c3 c4 d2 d3 d4:Rat):Rat:=b2*(c3*d4-d3*c4)-c2*(b3*d4-d3*b4)+d2*(b3*c4-c3*b4)
def D4(a1 a2 a3 a4 b1 b2 b3 b4 c1 c2 c3 c4 d1 d2 d3 d4:Rat):Rat:=a1*D3 b2 b3 b4 c2 c3 c4 d2 d3 d4-b1*D3 a2 a3 a4 c2 c3 c4 d2 d3 d4+c1*D3 a2 a3 a4 b2 b3 b4 d2 d3 d4-d1*D3 a2 a3 a4 b2 b3 b4 c2 c3 c4
theorem Qmm(a1 a2 a3 a4 b1 b2 b3 b4 c1 c2 c3 c4 d1 d2 d3 d4:U6)(q:Rat):Gf (Cj 4 [[a1,a2,a3,a4],[b1,b2,b3,b4],[c1,c2,c3,c4],[d1,d2,d3,d4]]) q=D4 (Gf a1 q) (Gf a2 q) (Gf a3 q) (Gf a4 q) (Gf b1 q) (Gf b2 q) (Gf b3 q) (Gf b4 q) (Gf c1 q) (Gf c2 q) (Gf c3 q) (Gf c4 q) (Gf d1 q) (Gf d2 q) (Gf d3 q) (Gf d4 q):=by
 show Gf (Dw (λi=>Cj 3 (VZ [[a1,a2,a3,a4],[b1,b2,b3,b4],[c1,c2,c3,c4],[d1,d2,d3,d4]] i)) [[a1,a2,a3,a4],[b1,b2,b3,b4],[c1,c2,c3,c4],[d1,d2,d3,d4]] (0+1+1+1+1)) q=_;rw[Ck,Ck,Ck,Ck];show(0:Rat)+1*(Gf a1 q*Gf (Cj 3 [[b2,b3,b4],[c2,c3,c4],[d2,d3,d4]]) q)+(-1)*(Gf b1 q*Gf (Cj 3 [[a2,a3,a4],[c2,c3,c4],[d2,d3,d4]]) q)+1*(Gf c1 q*Gf (Cj 3 [[a2,a3,a4],[b2,b3,b4],[d2,d3,d4]]) q)+(-1)*(Gf d1 q*Gf (Cj 3 [[a2,a3,a4],[b2,b3,b4],[c2,c3,c4]]) q)=_;rw[VG,VG,VG,VG];unfold D4 D3;grind
theorem Q1o(a1 a2 a3 a4 b1 b2 b3 b4 c1 c2 c3 c4 d1 d2 d3 d4:Rat):D4 a1 a2 a3 a4 b1 b2 b3 b4 d1 d2 d3 d4 c1 c2 c3 c4=-D4 a1 a2 a3 a4 b1 b2 b3 b4 c1 c2 c3 c4 d1 d2 d3 d4:=by unfold D4 D3;grind
theorem Q1n(a1 a2 a3 a4 b1 b2 b3 b4 c1 c2 c3 c4 d1 d2 d3 d4:Rat):D4 a1 a2 a3 a4 c1 c2 c3 c4 b1 b2 b3 b4 d1 d2 d3 d4=-D4 a1 a2 a3 a4 b1 b2 b3 b4 c1 c2 c3 c4 d1 d2 d3 d4:=by unfold D4 D3;grind
theorem Q1m(a1 a2 a3 a4 b1 b2 b3 b4 c1 c2 c3 c4 d1 d2 d3 d4:Rat):D4 b1 b2 b3 b4 a1 a2 a3 a4 c1 c2 c3 c4 d1 d2 d3 d4=-D4 a1 a2 a3 a4 b1 b2 b3 b4 c1 c2 c3 c4 d1 d2 d3 d4:=by unfold D4 D3;grind
theorem If(a b c d:Crv):Gk (To a b c d):=xW 4
theorem ZG(a b c d:Crv)(q:Rat):Gf (To a b c d) q=D4 (Gf (Gy a.x a.d) q) (Gf (Gy a.y a.d) q) (Gf (Eh (Hg a.x a.x) (Hg a.y a.y)) q) (Gf [a.d*a.d] q) (Gf (Gy b.x b.d) q) (Gf (Gy b.y b.d) q) (Gf (Eh (Hg b.x b.x) (Hg b.y b.y)) q) (Gf [b.d*b.d] q) (Gf (Gy c.x c.d) q) (Gf (Gy c.y c.d) q) (Gf (Eh (Hg c.x c.x) (Hg c.y c.y)) q) (Gf [c.d*c.d] q) (Gf (Gy d.x d.d) q) (Gf (Gy d.y d.d) q) (Gf (Eh (Hg d.x d.x) (Hg d.y d.y)) q) (Gf [d.d*d.d] q):=Qmm ..
theorem Qri(a b c d:Crv):To a b d c=Pp (To a b c d):=RO (If ..) (Gw _ _) λq=>by rw[Ah,ZG,ZG,Q1o]
theorem Qrh(a b c d:Crv):To a c b d=Pp (To a b c d):=RO (If ..) (Gw _ _) λq=>by rw[Ah,ZG,ZG,Q1n]
theorem Qrg(a b c d:Crv):To b a c d=Pp (To a b c d):=RO (If ..) (Gw _ _) λq=>by rw[Ah,ZG,ZG,Q1m]
theorem IK{sg:U6->Int}(hs:∀p,sg (Pp p)=-sg p):∀(k:Nat) (p:U6),Gk p->Ss sg k (Pp p)=-Ss sg k p
 | 0,_,_=>rfl
 |
  k+1,p,hp=>by
  have e0:Pp []=[]:=rfl;have hl:(Pp p).length=0↔p.length=0:=by
   constructor
   ·intro h;have h:=Qi h;have:p=[]:=fW hp rfl λj=>by
     have:=WJ p j;rw[h]at this;simp at this ⊢;omega
    rw[this];rfl
   ·intro h;rw[Qi h,e0];rfl
  have hd:H5 (Pp p)=Pp (H5 p):=fW (Gw _ _) (Gw _ _) λj=>by rw[Nf,WJ,WJ,Nf,Ko]
  have ih:=IK hs k (H5 p) (Gw _ _);simp only[Ss];by_cases h:p.length=0
  ·rw[if_pos h,if_pos (hl.2 h)];rfl
  ·rw[if_neg h,if_neg (λh2=>h (hl.1 h2)),hs,hd];by_cases h2:sg p=0
   ·rw[if_pos h2,if_pos Fj,ih]
   ·rw[if_neg h2,if_neg Fj]
theorem UE{p:U6}(hp:Gk p)(q:Rat):Td (Pp p) q=-Td p q:=by
 unfold Td G7;rw[<-O4 _ p.length (Pp p) (ZZ p)];exact IK (λp=>by
  show Rp (Pp p) q=-Rp p q;rw[M8,M8,Ah];unfold Gn;by_cases h1:Gf p q<0
  ·rw[if_neg Fq,if_pos Fq,if_pos h1];rfl
  ·by_cases h2:0<Gf p q
   ·rw[if_pos Fq,if_neg h1,if_pos h2]
   ·rw[if_neg Fq,if_neg Fq,if_neg h1,if_neg h2];rfl) _ _ hp
theorem dB(a b c d:Crv)(q:Rat):Td (To a b d c) q=-Td (To a b c d) q:=by rw[Qri,UE (If ..)]
theorem Qjk(a b c d:Crv)(q:Rat):Td (To a c b d) q=-Td (To a b c d) q:=by rw[Qrh,UE (If ..)]
theorem Qxm(a b c d:Crv)(q:Rat):Td (To b a c d) q=-Td (To a b c d) q:=by rw[Qrg,UE (If ..)]
theorem Q1i(a b c d:Crv)(q:Rat):Td (To a c d b) q=Td (To a b c d) q:=by rw[dB,Qjk];omega
theorem Q1h(a b c d:Crv)(q:Rat):Td (To b c d a) q=-Td (To a b c d) q:=by rw[dB,Qjk,Qxm];omega
end Orr
namespace Orq
open Orr Go
theorem IA{x y:Rat}(hx:x<0)(hy:0<=y):x*y<=0:=by
 have:=Jg (show 0<=-x by grind) hy;grind
theorem II{x y:Rat}(hx:x<0)(hy:x*y<=0):0<=y:=by
 rcases Hl 0 y with h|h
 ·exact h
 ·have:=Xm (show 0 < -x by grind) (show 0 < -y by grind);grind
theorem Qdk{ux uy vx vy dx dy:Rat}(hu:ux<0\/ux=0/\uy<0)(hv:vx<0\/vx=0/\vy<0)(h0:ux*vy-vx*uy=0)(h1:0<=-(ux*dy-dx*uy))(h2:0<=vx*dy-dx*vy):ux*dy-dx*uy=0:=by
 have key:0<=ux*dy-dx*uy:=by
  rcases hu with hu|⟨hu,hu'⟩
  ·have hvx:vx<0:=by
    rcases hv with h|⟨h,h'⟩
    ·exact h
    ·exfalso;rw[h]at h0;have:=Xm (show 0 < -ux by grind) (show 0 < -vy by grind);grind
   have e:ux*(vx*dy-dx*vy)=vx*(ux*dy-dx*uy):=Fq;have:=IA hu h2;rw[e]at this;exact II hvx this
  ·subst hu;have hvx:vx=0:=by
    have:vx*uy=0:=Fq;rcases X3.1 this with h|h
    ·exact h
    ·grind
   have hvy:vy<0:=by
    rcases hv with h|⟨_,h⟩
    ·rw[hvx]at h;exact absurd h Fl
    ·exact h
   have e:uy*(vx*dy-dx*vy)=vy*(0*dy-dx*uy):=by rw[hvx];grind
   have:=IA hu' h2;rw[e]at this;exact II hvy this
 grind
theorem Qfg{ux uy a1 a2 b1 b2 c1 c2 z1 z2:Rat}(hu:ux<0\/ux=0/\uy<0)(ha:ux*(a2-z2)-(a1-z1)*uy=0)(hb:ux*(b2-z2)-(b1-z1)*uy=0)(hc:ux*(c2-z2)-(c1-z1)*uy=0):(b1-a1)*(c2-a2)-(c1-a1)*(b2-a2)=0:=by
 rcases hu with hu|⟨hu,hu'⟩
 ·have e:ux*((b1-a1)*(c2-a2)-(c1-a1)*(b2-a2))=0:=Fq;rcases X3.1 e with h|h
  ·grind
  ·exact h
 ·subst hu;have e1:(a1-z1)*uy=0:=Fq;have e2:(b1-z1)*uy=0:=Fq;have e3:(c1-z1)*uy=0:=Fq;have f:∀x:Rat,x*uy=0->x=0:=λx hx=>by
   rcases X3.1 hx with h|h
   ·exact h
   ·grind
  have:=f _ e1;have:=f _ e2;have:=f _ e3;have g1:b1-a1=0:=Fq;have g2:c1-a1=0:=Fq;rw[g1,g2];grind
theorem Qbn{X Y:Pt->Rat}{R:List Pt}{f z:Pt}{A B:List Pt}(c1:LowC X Y R (f::A++[z]))(c2:LowC (λp=>-X p) (λp=>-Y p) R.reverse (z::B++[f]))(hAB:A≠[]\/B≠[]){x w:Pt}{A' B':List Pt}(hx:f::A++[z]=A'++[x,z])(hw:z::B++[f]=z::w::B'):0<H6 X Y x z w:=by
 have ex:(x,z)∈Lv (f::A++[z]):=by
  rw[hx];unfold Lv;clear hx
  induction A' with
  |nil=>simp
  |
   cons y A' ih =>
   cases A' with
   |nil=>simp
   |
    cons y' A' =>
    rw[Xf,Kq,X7,Xf,List.zip_cons_cons];exact Qh _ ih
 have ew:(z,w)∈Lv (z::B++[f]):=by rw[hw];unfold Lv;simp
 have hxR:x∈R:=c1.mem x (by rw[hx];simp);have hwR:w∈R:=Xh.1 (c2.mem w (by rw[hw];simp));have h1:∀p∈R,0≤H6 X Y x z p:=HW.1 c1.edg _ ex;have h2:∀p∈R,0≤H6 X Y z w p:=λp hp=>by
  have:=HW.1 c2.edg _ ew p (Xh.2 hp);rwa[O5 X Y]at this
 have lx1:lx X Y x z:=by
  have:=c1.srt;rw[hx]at this;exact(Q0.1 (Zp.1 this).2.1).1 z Fp
 have lw1:lx X Y w z:=by
  have:=c2.srt;rw[hw]at this;exact YI.1 ((Q0.1 this).1 w Fp)
 rcases Vz.1 (h1 w hwR)with h|h
 ·exact h
 exfalso;have hu:X x-X z<0\/X x-X z=0/\Y x-Y z<0:=by unfold lx at lx1;grind
 have hv:X w-X z<0\/X w-X z=0/\Y w-Y z<0:=by unfold lx at lw1;grind
 have h0:(X x-X z)*(Y w-Y z)-(X w-X z)*(Y x-Y z)=0:=by unfold H6 at h;grind
 have flat:∀p∈R,(X x-X z)*(Y p-Y z)-(X p-X z)*(Y x-Y z)=0:=λp hp=>by
  have a:=h1 p hp;have b:=h2 p hp;refine Qdk hu hv h0 ?_ ?_
  ·unfold H6 at a;grind
  ·unfold H6 at b;grind
 have all0:∀a∈R,∀b∈R,∀c∈R,H6 X Y a b c=0:=λa ha b hb c hc=>Qfg hu (flat a ha) (flat b hb) (flat c hc)
 rcases hAB with hA|hB
 ·cases A with
  |nil=>exact hA rfl
  |
   cons a A =>
   have hc:=c1.cnv;have hm:=c1.mem;cases A with
   |
    nil =>
    have:0<H6 X Y f a z:=hc.1;rw[all0 f (hm f Fp) a (hm a Fp) z (hm z Fp)]at this;exact absurd this Fl
   |
    cons b A =>
    have:0<H6 X Y f a b:=hc.1;rw[all0 f (hm f Fp) a (hm a Fp) b (hm b Fp)]at this;exact absurd this Fl
 ·cases B with
  |nil=>exact hB rfl
  |
   cons a B =>
   have hc:=c2.cnv;have hm:∀p∈z::(a::B)++[f],p∈R:=λp hp=>Xh.1 (c2.mem p hp)
   cases B with
   |
    nil =>
    have:0<H6 (λp=>-X p) (λp=>-Y p) z a f:=hc.1;rw[O5 X Y,all0 z (hm z Fp) a (hm a Fp) f (hm f Fp)]at this;exact absurd this Fl
   |
    cons b B =>
    have:0<H6 (λp=>-X p) (λp=>-Y p) z a b:=hc.1;rw[O5 X Y,all0 z (hm z Fp) a (hm a Fp) b (hm b Fp)]at this;exact absurd this Fl
theorem Qc1{α:Type}{l:List α}{x:α}(h:l.getLast? = some x):l=l.dropLast++[x]:=by
 cases l with
 |nil=>simp at h
 |
  cons a l =>
  have e:=Vg (l:=a::l) Fp;rw[Yc Fp]at h;injection h with h;rw[<-h];exact e.symm
theorem kU{α:Type}{R:α->α->α->Prop}:∀{L:List α} {i:Nat} {a b c:α},Cnv R L->L[i]? = some a->L[i+1]? = some b->L[i+2]? = some c->R a b c
 | [],_,_,_,_,_,h,_,_=>by simp at h
 | [_],_,_,_,_,_,_,h,_=>by simp at h
 | [_,_],i,_,_,_,_,_,_,h=>by simp at h
 |
  x::y::w::l,0,a,b,c,hc,h1,h2,h3=>by
  simp at h1 h2 h3;subst h1;subst h2;subst h3;exact hc.1
 |x::y::w::l,i+1,a,b,c,hc,h1,h2,h3=>kU (L:=y::w::l) (i:=i) hc.2 (by simpa using h1) (by simpa using h2) (by simpa using h3)
theorem Qxt{x y:Crv}:Nv x y=true↔x=y:=by
 cases x;cases y;simp[Nv]
variable{l:List Pt}
theorem Qok{p:Pt}(hp:p∈l):∃w∈Gv l,w.c=p.c:=by
 have stay:∀(l out:List Pt) (w:Pt),w∈out->w∈l.foldl Pq out:=by
  intro l
  induction l with
  |nil=>intro out w h;exact h
  |
   cons y l ih =>
   intro out w h;refine ih _ _ ?_;unfold Pq
   split
   ·exact h
   ·exact Zy _ h
 have key:∀(l out:List Pt),p∈l->∃w∈l.foldl Pq out,w.c=p.c:=by
  intro l
  induction l with
  |nil=>intro out h;cases h
  |
   cons y l ih =>
   intro out h;rcases Qk.1 h with rfl|h
   ·rw[Xl];by_cases hc:(out.any λq=>Nv p.c q.c)=true
    ·obtain⟨w,hw,he⟩:=List.any_eq_true.1 hc;refine⟨w,stay l _ w ?_,(Qxt.1 he).symm⟩;unfold Pq;rw[if_pos hc];exact hw
    ·refine⟨p,stay l _ p ?_,rfl⟩;unfold Pq;rw[if_neg hc];simp
   ·exact ih _ h
 exact key l [] hp
variable{i:Nat}
theorem vS(hl:∀p∈l,Sc p.c)(hd:l.Pairwise λx y=>x.id≠y.id){a:Tm}(ha:Va a){f c:Pt}(h0:(Hn l a)[0]? = some f)(hi:(Hn l a)[i]? = some c)(hi0:0<i):H8 (Gm a) f c=true:=by
 obtain⟨q,S⟩:=QZ hl hd ha;have hfl:=Tr (Qa h0);have hcl:=Tr (Qa hi);have hs:Ra a (Gv l)=Ra a (Gv l):=rfl;have pw:=OE (a:=a) (l:=Gv l) (q:=q) (λu hu v hv=>S.b u (Hu hu) v (Hu hv)) (List.Pairwise.sublist (An l) hd);refine(S.b f hfl c hcl).2 ?_;by_cases h3:3<=(Ra a (Gv l)).length
 ·obtain⟨f',z,A,B,hA,hB,c1,c2,_,_⟩:=C6 S h3;have hC:Hn l a=f'::A++(z::B):=by
   unfold Hn Mf;rw[if_neg Fj,hA,hB,Xg,Xg]
  rw[hC]at h0 hi;have:f'=f:=by simpa using h0
  subst this;have hne:c≠f':=by
   cases i with
   |zero=>omega
   |
    succ i =>
    have hi':(A++(z::B))[i]? = some c:=by simpa using hi
    have hm:=Qa hi';intro e;subst e;rcases Qp.1 hm with hm|hm
    ·exact Mn _ ((Q0.1 c1.srt).1 c (Zy _ hm))
    ·have:=c2.srt;rw[Xf]at this;have h9:(z::B++[c]).Pairwise (lx (λp=>-px p q) (λp=>-py p q)):=c2.srt;exact Mn _ ((Zp.1 h9).2.2 c hm c Fp)
  have hh:(Ra a (Gv l)).head? = some f':=by rw[<-c1.hd];rfl
  have hcR:c∈Ra a (Gv l):=by
   have hm:=Qa hi;rcases Qp.1 hm with hm|hm
   ·exact c1.mem c (Zy _ hm)
   ·exact Xh.1 (c2.mem c (Zy _ hm))
  generalize Ra a (Gv l)=R at *;cases R with
  |nil=>cases hh
  |
   cons g R =>
   have:g=f':=by simpa using hh
   subst this;rcases Qk.1 hcR with e|e
   ·exact absurd e hne
   ·exact(Q0.1 pw).1 c e
 ·have hC:Hn l a=Ra a (Gv l):=by unfold Hn Mf;rw[if_pos Fj]
  rw[hC]at h0 hi;obtain⟨k0,e0⟩:=Qd.1 h0;obtain⟨k1,e1⟩:=Qd.1 hi;have:=X2.1 pw 0 i k0 k1 hi0;rwa[e0,e1]at this
theorem rQ(hl:∀p∈l,Sc p.c)(hd:l.Pairwise λx y=>x.id≠y.id){a:Tm}(ha:Va a)(h2:2<(Hn l a).length){x y w:Pt}(hx:(Hn l a)[i]? = some x)(hy:(Hn l a)[(i+1) % (Hn l a).length]? = some y)(hw:(Hn l a)[(i+2) % (Hn l a).length]? = some w):0<G7 (Gm a) (Gj x.c y.c w.c):=by
 obtain⟨q,S⟩:=QZ hl hd ha;rw[S.o _ (Tr (Qa hx)) _ (Tr (Qa hy)) _ (Tr (Qa hw))];have pp:∀{r:Rat},0<r->0<Gn r:=λ{r} hr=>by
  unfold Gn;rw[if_neg Fq,if_pos hr];decide
 refine pp ?_;have h3:3<=(Ra a (Gv l)).length:=by
  rcases Zc (Ra a (Gv l)).length 3 with h|h
  ·have hC:Hn l a=Ra a (Gv l):=by unfold Hn Mf;rw[if_pos h]
   rw[hC]at h2;omega
  ·exact h
 obtain⟨f,z,A,B,hA,hB,c1,c2,_,_⟩:=C6 S h3;have hC:Hn l a=f::A++(z::B):=by
  unfold Hn Mf;rw[if_neg Fj,hA,hB,Xg,Xg]
 rw[hC]at h2 hx hy hw;have hn:(f::A++(z::B)).length=A.length+B.length+2:=Fo;rw[hn]at h2 hy hw;have hil:i<A.length+B.length+2:=by rw[<-hn];exact(Qd.1 hx).1
 have d1:∀{k:Nat} {u:Pt},k<=A.length+1->(f::A++(z::B))[k]? = some u->(f::A++[z])[k]? = some u:=λ{k u} hk h=>by
  have e:f::A++(z::B)=(f::A++[z])++B:=Fp;rw[e,Zd Fo]at h;exact h
 have d2:∀{k:Nat} {u:Pt},A.length+1<=k->k<A.length+B.length+2->(f::A++(z::B))[k]? = some u->(z::B++[f])[k-(A.length+1)]? = some u:=λ{k u} hk hk2 h=>by
  rw[Zz Fo]at h;rw[Zd Fo];rw[show(f::A).length=A.length+1 from Fp]at h;exact h
 have d3:(z::B++[f])[B.length+1]? = some f:=by
  rw[Zz Fp];simp
 have n1:(λa b c:Pt=>0<H6 (λp=>-px p q) (λp=>-py p q) a b c)=λa b c=>0<H6 (px · q) (py · q) a b c:=by
  funext a b c;rw[O5 (px · q) (py · q)]
 have hcnv2:Cnv (λa b c=>0<H6 (px · q) (py · q) a b c) (z::B++[f]):=by rw[<-n1];exact c2.cnv
 rcases Zc (i+2) (A.length+2)with k|k
 ·-- in the first Lu
  rw[Xk Fj]at hy hw;exact kU c1.cnv (d1 Fj hx) (d1 Fj hy) (d1 Fj hw)
 rcases Zc i (A.length+1)with k'|k'
 ·-- at the Qbn z
  have hi:i=A.length:=Fj;subst hi;rw[Xk Fj]at hy;have hx':=d1 Fj hx;have hy':=d1 Fj hy;have ez:y=z:=by
   rw[Zz Fp]at hy';simpa using hy'.symm
  subst ez;obtain⟨A',hA'⟩:∃A',f::A++[y]=A'++[x,y]:=by
   refine⟨(f::A).dropLast,?_⟩;have:(f::A)=(f::A).dropLast++[x]:=by
    have hl':(f::A).getLast? = some x:=by
     rw[List.getLast?_eq_getElem?];rw[Zd Fp]at hx';simpa using hx'
    exact Qc1 hl'
   rw[this,Xg,Za];rfl
  obtain⟨B',hB'⟩:∃B',y::B++[f]=y::w::B':=by
   cases B with
   |
    nil =>
    simp only[Xy]at hw h2;rw[show(A.length+2) % (A.length+0+2)=0 by simp]at hw;have:w=f:=by simpa using hw.symm
    subst this;exact⟨[],rfl⟩
   |
    cons b B =>
    rw[Xk (by rw[Q5]at *;omega)]at hw;have hw':=d2 Fj (by rw[Q5]at *;omega) hw;rw[show A.length+2-(A.length+1)=1 by omega]at hw';have:w=b:=by simpa using hw'.symm
    subst this;exact⟨B++[f],rfl⟩
  exact Qbn c1 c2 (by
   rcases A with _|⟨_,A⟩
   ·right;intro e;rw[e]at h2;simp at h2
   ·left;exact λe=>by cases e) hA' hB'
 rcases Zc (i+1) (A.length+B.length+2)with k''|k''
 ·-- in the second Lu
  rw[Xk Fj]at hy;have hx':=d2 Fj Fj hx;have hy':=d2 Fj Fj hy;rw[show i+1-(A.length+1)=i-(A.length+1)+1 by omega]at hy';have hw':(z::B++[f])[i-(A.length+1)+2]? = some w:=by
   rcases Zc (i+2) (A.length+B.length+2)with k3|k3
   ·rw[Xk k3]at hw;have:=d2 Fj Fj hw;rw[<-this];congr 1;omega
   ·have e:i+2=A.length+B.length+2:=Fj;rw[e,Nat.mod_self]at hw;have:w=f:=by simpa using hw.symm
    subst this;rw[<-d3];congr 1;omega
  exact kU hcnv2 hx' hy' hw'
 ·-- at the Qbn f
  have hi:i+1=A.length+B.length+2:=Fj;rw[hi,Nat.mod_self]at hy;have ef:y=f:=by simpa using hy.symm
  subst ef;have hx':=d2 Fj Fj hx;obtain⟨B',hB'⟩:∃B',z::B++[y]=B'++[x,y]:=by
   refine⟨(z::B).dropLast,?_⟩;have:(z::B)=(z::B).dropLast++[x]:=by
    have hl':(z::B).getLast? = some x:=by
     rw[List.getLast?_eq_getElem?];rw[Zd Fo]at hx';rw[<-hx'];congr 1;simp;omega
    exact Qc1 hl'
   rw[this,Xg,Za];rfl
  obtain⟨A',hA'⟩:∃A',y::A++[z]=y::w::A':=by
   rw[show i+2=1+(A.length+B.length+2) by omega,Nat.add_mod_right,Xk Fj]at hw;cases A with
   |
    nil =>
    have:w=z:=by simpa using hw.symm
    subst this;exact⟨[],rfl⟩
   |
    cons b A =>
    have:w=b:=by simpa using hw.symm
    subst this;exact⟨A++[z],rfl⟩
  have hr:LowC (λp=>-(λp=>-px p q) p) (λp=>-(λp=>-py p q) p) (Ra a (Gv l)).reverse.reverse (y::A++[z]):=by
   rw[List.reverse_reverse];have e1:(λp:Pt=>-(λp=>-px p q) p)=(px · q):=by funext p;grind
   have e2:(λp:Pt=>-(λp=>-py p q) p)=(py · q):=by funext p;grind
   rw[e1,e2];exact c1
  have:=Qbn c2 hr (by
   rcases B with _|⟨_,B⟩
   ·right;intro e;rw[e]at h2;simp at h2
   ·left;exact λe=>by cases e) hB' hA'
  rwa[O5 (px · q) (py · q)]at this
end Orq
namespace Orr
open Go Go.Proofs Tryz Orq
theorem An(l:List Pt):(Gv l).Sublist l:=by
 have key:∀(m acc out:List Pt),out.Sublist acc->(m.foldl Pq out).Sublist (acc++m):=by
  intro m
  induction m with
  |nil=>intro acc out h;simpa using h
  |
   cons p m ih =>
   intro acc out h;have:(Pq out p).Sublist (acc++[p]):=by
    unfold Pq
    split
    ·exact h.trans (List.sublist_append_left _ _)
    ·exact h.append (List.Sublist.refl _)
   have:=ih _ _ this;rwa[Za]at this
 exact key l [] [] (List.Sublist.refl _)
theorem QO{M:Ni}{k k':U6}{n:Int}:Db (Cq M k (.int .i64 n)) k'=if k'=k then n else Db M k':=by
 unfold Db;rw[KC];by_cases h:k'=k
 ·rw[if_pos h,if_pos h]
 ·rw[if_neg h,if_neg h]
theorem cG{M:Ni}{k k':U6}:Oo (Cq M k (.bool true)) k'=(decide (k'=k) || Oo M k'):=by
 unfold Oo;rw[KC];by_cases h:k'=k
 ·rw[if_pos h];simp[h]
 ·rw[if_neg h];simp[h]
theorem P0(T:Ni)(s:Int)(n:U6)(F:Ni)(sk:Nat)(k:U6):Oo (I2 T s n F sk) k=((decide (k=n.eraseIdx sk) && decide (0<Db T (n.eraseIdx sk)*(if (3-sk) % 2=1 then -s else s))) || Oo F k):=by
 unfold I2;generalize Db T (n.eraseIdx sk)*(if (3-sk) % 2=1 then -s else s)=v;by_cases h:v>0
 ·have h':0<v:=h;rw[if_pos h,cG];simp[h']
 ·have h':¬0<v:=h;rw[if_neg h];simp[h']
def Qar(W:List Pt)(q:Rat)(i j k m:Nat):Int:=match W[i]?,W[j]?,W[k]?,W[m]? with
 |some x,some y,some z,some v=>Td (To x.c y.c z.c v.c) q
 |_,_,_,_=>0
def inA(W:List Pt)(q:Rat)(o:Int)(i j k m:Nat):Bool:=decide (m≠i/\m≠j/\m≠k) && decide (0<o*Qar W q i j k m)
def qD(W:List Pt)(q:Rat)(o:Int)(i j k n:Nat):Nat:=((List.range n).filter (inA W q o i j k)).length
variable{W:List Pt}{q:Rat}{o:Int}
theorem Qxp{i j k n:Nat}(h:inA W q o i j k n=true):qD W q o i j k (n+1)=qD W q o i j k n+1:=by unfold qD;rw[List.range_succ,List.filter_append,List.length_append];simp[h]
theorem Qxo{i j k n:Nat}(h:inA W q o i j k n=false):qD W q o i j k (n+1)=qD W q o i j k n:=by unfold qD;rw[List.range_succ,List.filter_append,List.length_append];simp[h]
abbrev iS(W:List Pt)(q:Rat):Ni:=Al (Om (λp=>Rp p q) (H7 W))
abbrev Qe3(W:List Pt)(q:Rat):Ni:=O3 (iS W q) (JQ (λp=>Rp p q) (Av W))
theorem emp{i j k:Nat}{x y z:Pt}(hW:W.length<=4)(hs:Ry W)(hij:i<j)(hjk:j<k)(hx:W[i]? = some x)(hy:W[j]? = some y)(hz:W[k]? = some z):
 IH (iS W q) (Qe3 W q) (x,y,z)=(decide (Td (Gj x.c y.c z.c) q≠0) && decide (qD W q (Td (Gj x.c y.c z.c) q) i j k W.length=0)):=by
 match W,hW,hs with
 | [],_,_=>simp at hx
 |
  [a],_,_ =>
  have:=(Qd.1 hz).1;simp at this;omega
 |
  [a,b],_,_ =>
  have:=(Qd.1 hz).1;simp at this;omega
 |
  [a,b,c],_,hs =>
  have:=(Qd.1 hz).1;simp at this;obtain rfl:i=0:=Fj;obtain rfl:j=1:=Fj;obtain rfl:k=2:=Fj;simp at hx hy hz;subst hx hy hz;have e1:H7 [a,b,c]=[(a,b,c)]:=rfl;have e2:Av [a,b,c]=[]:=rfl;unfold IH Qe3 iS;rw[e1,e2];have e3:qD [a,b,c] q (Td (Gj a.c b.c c.c) q) 0 1 2 [a,b,c].length=0:=rfl;rw[e3];have e4:Db (Al (Om (λp=>Rp p q) [(a,b,c)])) (Ls (a,b,c))=Td (Gj a.c b.c c.c) q:=by
   show Db (Cq [] (Ls (a,b,c)) (.int .i64 _)) _=_;rw[QO,if_pos rfl];rfl
  rw[e4];rfl
 |
  [a,b,c,d],_,hs =>
  have hkl:=(Qd.1 hz).1;simp at hkl;simp only[Ry,Q0,Qk,Jk,or_false,forall_eq_or_imp,forall_eq]at hs;obtain⟨⟨ab,ac,ad⟩,⟨bc,bd⟩,cd,-⟩:=hs;have e1:H7 [a,b,c,d]=[(a,b,c),(a,b,d),(a,c,d),(b,c,d)]:=rfl;have e2:Av [a,b,c,d]=[(a,b,c,d)]:=rfl;have t:∀key,Db (iS [a,b,c,d] q) key=if key=Ls (b,c,d)then Td (Gj b.c c.c d.c) q else if key=Ls (a,c,d)then Td (Gj a.c c.c d.c) q else if key=Ls (a,b,d)then Td (Gj a.c b.c d.c) q else if key=Ls (a,b,c)then Td (Gj a.c b.c c.c) q else 0:=λkey=>by
   unfold iS;rw[e1];show Db (Cq (Cq (Cq (Cq [] (Ls (a,b,c)) (.int .i64 (Td (Gj a.c b.c c.c) q))) (Ls (a,b,d)) (.int .i64 (Td (Gj a.c b.c d.c) q))) (Ls (a,c,d)) (.int .i64 (Td (Gj a.c c.c d.c) q))) (Ls (b,c,d)) (.int .i64 (Td (Gj b.c c.c d.c) q))) key=_;rw[QO,QO,QO,QO];rfl
  obtain⟨T,hT⟩:=nmE (iS [a,b,c,d] q);rw[<-hT]at t;have f:∀key,Oo (Qe3 [a,b,c,d] q) key=((decide (key=Ls (a,b,c)) && decide (0<Db T (Ls (a,b,c))*Td (To a.c b.c c.c d.c) q)) || ((decide (key=Ls (a,b,d)) && decide (0<Db T (Ls (a,b,d))*-Td (To a.c b.c c.c d.c) q)) || ((decide (key=Ls (a,c,d)) && decide (0<Db T (Ls (a,c,d))*Td (To a.c b.c c.c d.c) q)) || ((decide (key=Ls (b,c,d)) && decide (0<Db T (Ls (b,c,d))*-Td (To a.c b.c c.c d.c) q)) || false)))):=λkey=>by
   unfold Qe3;rw[e2,<-hT];show Oo (NT T (Td (To a.c b.c c.c d.c) q) (Qlh (a,b,c,d)) []) key=_;unfold NT;rw[P0,P0,P0,P0];rfl
  obtain⟨F,hF⟩:=nmE (Qe3 [a,b,c,d] q);rw[<-hF]at f;have r0:[a,b,c,d][0]? = some a:=rfl;have r1:[a,b,c,d][1]? = some b:=rfl;have r2:[a,b,c,d][2]? = some c:=rfl;have r3:[a,b,c,d][3]? = some d:=rfl;have rr:List.range 4=[0,1,2,3]:=rfl;have s2:=dB a.c b.c c.c d.c q;have s1:=Q1i a.c b.c c.c d.c q;have s0:=Q1h a.c b.c c.c d.c q;rw[<-hT,<-hF];rcases(show(i=0/\j=1/\k=2)\/(i=0/\j=1/\k=3)\/(i=0/\j=2/\k=3)\/(i=1/\j=2/\k=3) by omega)with⟨rfl,rfl,rfl⟩|⟨rfl,rfl,rfl⟩|⟨rfl,rfl,rfl⟩|⟨rfl,rfl,rfl⟩
  all_goals
   simp only[r0,r1,r2,r3,Option.some.injEq]at hx hy hz;subst hx hy hz;unfold IH qD;rw[f,t,t,t,t];show _=(_ && decide (((List.range 4).filter _).length=0));rw[rr];simp only[List.filter_cons,List.filter_nil,inA,Qar,r0,r1,r2,r3,s2,s1,s0,Ls];have n1:a.id≠b.id:=Fj;have n2:b.id≠c.id:=Fj;have n3:c.id≠d.id:=Fj;have n1':b.id≠a.id:=Fj;have n2':c.id≠b.id:=Fj;have n3':d.id≠c.id:=Fj;simp[n1,n2,n3,n1',n2',n3'];congr 1;rw[Wo];simp only[Vr,decide_eq_false_iff_not,decide_eq_true_eq];omega
theorem Qa0{l:List Pt}(h:gG l){a b:Pt}(ha:a∈l)(hb:b∈l)(e:a.id=b.id):a=b:=by
 obtain⟨i,hi,rfl⟩:=Y0.1 ha;obtain⟨j,hj,rfl⟩:=Y0.1 hb;have hp:=X2.1 h;rcases Vb i j with h1|h1|h1
 ·exact absurd e (hp i j hi hj h1)
 ·subst h1;rfl
 ·exact absurd e.symm (hp j i hj hi h1)
end Orr
namespace Orq
open Orr Go
section
variable{M:List Pt}(hM:MOk M){a:Tm}(ha:Va a)
include hM ha
theorem Qpp{i j:Nat}{x y:Pt}(hij:i<j)(hx:(Ra a M)[i]? = some x)(hy:(Ra a M)[j]? = some y):H8 (Gm a) x y=true:=by
 obtain⟨q,S⟩:=QZ hM.sc hM.df ha;have w1:=OE (a:=a) (l:=M) (q:=q) S.b hM.df;obtain⟨hi,ex⟩:=Qd.1 hx;obtain⟨hj,ey⟩:=Qd.1 hy;have:=X2.1 w1 i j hi hj hij;rw[ex,ey]at this;exact(S.b x (Hk.1 (Qa hx)) y (Hk.1 (Qa hy))).2 this
theorem Qpq{w:Pt}(hw:(Ny (Gm a) M).1=[w]){x:Pt}(hx:x∈M)(hne:x.id≠w.id):M5 (Gm a) w x=true:=by
 obtain⟨y,y1,y2⟩:=LD hM.sc ha;have hb:=y2 y y1 Qr;have h0:0<M.length:=List.length_pos_of_mem hx;obtain⟨v,v1,v2,v3⟩:=MU (sa:=Gm a) (R:=FY y) (Qbw y) M.length M (Qm _) h0 hM.df λu hu u' hu' hne=>⟨λh=>(hb u hu u' hu').1 h,λh=>sA hne λh'=>by
  rw[(hb u hu u' hu').2 h']at h;cases h⟩
 rw[hw]at v1;injection v1 with v1;subst v1;rcases v3 x hx with e|e
 ·exact absurd (by rw[e]) hne
 ·exact(hb _ v2 x hx).2 e
end
theorem jI:∀(k:Nat) {l:List Pt},Ry l->(Rz k l).Pairwise λm m'=>m.1.id<m'.1.id\/m.1.id=m'.1.id/\m.2.id<m'.2.id
 | 0,l,_=>by simp[Rz]
 |k+1,[],_=>by simp[Rz]
 |
  k+1,x::l,hs=>by
  obtain⟨s1,s2⟩:=Q0.1 hs;refine Zp.2 ⟨?_,jI k s2,λm hm m' hm'=>?_⟩
  ·rw[List.pairwise_map];exact s2.imp λh=>.inr ⟨rfl,h⟩
  ·obtain⟨y,hy,rfl⟩:=Q8.1 hm;exact .inl (s1 _ (Se _ _ _ hm').1)
theorem Qmh{l:List Pt}(hs:Ry l){u v:Pt}(hu:u∈l)(hv:v∈l)(h:u.id<v.id):(u,v)∈G9 l:=by
 rcases jO hu hv with e|e|e
 ·rw[e]at h;omega
 ·exact e
 ·have:v.id<u.id:=MY _ hs (v,u) e;omega
theorem Qg2{M:List Pt}(hM:MOk M){a:Tm}(ha:Va a){x y:Pt}(hp:Oe (Gm a) M=[x,y]){u v:Pt}(hu:u∈M)(hv:v∈M)(huv:u.id<v.id)(hne:¬(u.id=x.id/\v.id=y.id)):0<=G7 (Gm a) (Hw x.c y.c u.c v.c)/\(G7 (Gm a) (Hw x.c y.c u.c v.c)=0->¬(u.id<x.id\/u.id=x.id/\v.id<y.id)):=by
 obtain⟨q,q1,q2⟩:=wX hM.sc ha;have hg:=q2 q q1 Qr
 match M,hM,hp,hu,hv,hg with
 | [],_,hp,_,_,_=>cases hp
 | [_],_,hp,_,_,_=>cases hp
 |
  b::c::l,hM,hp,hu,hv,hg =>
  have hf:=wO (f:=λm=>qE m q) hg;injection hp with e1 e2;injection e2 with e2 _;obtain⟨P1,P2,hP,h1,h2⟩:=hf;have hr:Ri (Gm a) (b,c) (G9 (b::c::l))=(x,y):=by rw[<-e1,<-e2]
  rw[hr]at hP h1 h2;have hxy:(x,y)∈G9 (b::c::l):=by rw[hP];simp
  obtain⟨mx,my⟩:=Se _ _ _ hxy;have hgm:=hg (x,y) (u,v) mx my hu hv;have hin:=Qmh hM.so hu hv huv;rw[hP]at hin;rw[hgm];have hpw:=jI (b::c::l).length hM.so;have hpw:(G9 (b::c::l)).Pairwise λm m'=>m.1.id<m'.1.id\/m.1.id=m'.1.id/\m.2.id<m'.2.id:=hpw
  rw[hP]at hpw;rcases Qp.1 hin with h|h
  ·have:=h1 _ h;have:Gn (qE (u,v) q-qE (x,y) q)=1:=Tj.2 Fq;exact⟨Fj,λh=>Fj⟩
  ·rcases Qk.1 h with h|h
   ·injection h with e e';exact absurd ⟨by rw[e],by rw[e']⟩ hne
   ·have h3:=h2 _ h;have h4:=(Q0.1 (Zp.1 hpw).2.1).1 _ h;refine⟨?_,λ_ h5=>?_⟩
    ·rcases G6 (qE (u,v) q-qE (x,y) q)with⟨e,_⟩|⟨e,_⟩|⟨e,e'⟩ <;> first|omega|(exfalso;grind)
    ·dsimp only at h4;omega
end Orq
namespace Orr
open Go Go.Proofs Tryz Orq
set_option maxRecDepth 10000
abbrev rJ(t:Tm):OB:=.blk 75 (ta t)
abbrev LH(p:Pt):OB:=.blk 39 (Ge p)
theorem GT{x:Pt}{l:List Pt}(hd:gG l)(hx:x∈l)(hl:l.length<=1000000):U3 70 [.oi x.id,.one (pts l)] [.agg (Ge x),.one (.bool true)]:=by
 have hcl:=Ha l;show U3 70 [.oi x.id,.one (.row (Fx l))] [.agg (Ge x),.one (.bool true)];refine G5 func70 rfl ?_;refine Uv [] rfl ?_;refine U0 (S:=Nat) 1 (λL1 i=>(10,.v (.oi i))::L1) (λ_=>[.blk 39 gU]) (λi=>l.length-i) (λi=>i<=l.length/\∀j y,j<i->l[j]? = some y->y.id≠x.id) 0 ⟨Qg _,λj y h=>absurd h (Y5 j)⟩ rfl rfl λi ⟨hi,hn⟩=>?_
 by_cases h:i<l.length
 ·obtain⟨y,hy⟩:=gxE (l:=l) (i:=i) h;by_cases he:y.id=x.id
  ·have e:=Qa0 hd (Qa hy) hx he;subst e;exact Ux [.T,.x (Hf hy),.t (decide_eq_true rfl)] rfl rfl Fv
  ·refine go tt [.T,.x (Hf hy),.f (decide_eq_false he)] rfl Fv ?_;refine rd (i+1) Fj ⟨h,λj z hj hz=>?_⟩ rfl;by_cases hji:j=i
   ·subst hji;rw[hy]at hz;injection hz with hz;rw[<-hz];exact he
   ·exact hn j z Fj hz
 ·obtain⟨j,hj⟩:=Zx hx;exact absurd rfl (hn j x (by have:=(Qd.1 hj).1;omega) hj)
theorem Qii{id:Int}:U3 70 [.oi id,.one (pts [])] [.agg [.row [],.row [],.bool false,.row [],.int .i64 0],.one (.bool false)]:=by
 refine G5 func70 rfl ?_;refine Uv [] rfl ?_;refine U0 (S:=Unit) 1 (λL1 _=>(10,.v (.oi 0))::L1) (λ_=>[.blk 39 gU]) (λ_=>0) (λ_=>True) () trivial rfl rfl λ_ _=>?_
 exact Ux [.f rfl] rfl
section
variable{M:List Pt}{t:Tm}(hd:gG M)(hs:∀p∈M,Sc p.c)(hn:M.length≤1000000)(ht:Va t)
include hd hs hn ht
theorem oO{R:List Pt}(hR:∀x∈R,x∈M)(hl:R.length=M.length)(hb:∀i x y,R[i]? = some x->R[i+1]? = some y->H8 (Gm t) x y=true):U3 28 [.agg (ta t),.one (ids (R.map (·.id))),.one (pts M)] [.one (.bool true)]:=by
 have hcl:=Ha M;have hil:(idl (R.map (·.id))).length=R.length:=by simp[idl]
 show U3 28 [.agg (ta t),.one (.row (idl (R.map (·.id)))),.one (.row (Fx M))] [.one (.bool true)];refine G5 func28 rfl ?_;refine Uv [.F] rfl ?_;refine U0 (S:=Nat×LV×LV×LV×LV×LV) 2 (λL1 s=>(19,.v (.oi (s.1:Int)))::L1) (λs=>[rJ t,.blk 39 [s.2.1,s.2.2.1,s.2.2.2.1,s.2.2.2.2.1,s.2.2.2.2.2]]) (λs=>R.length-s.1) (λs=>s.1<=R.length/\(s.1=0\/∃k y,s.1=k+1/\R[k]? = some y/\s.2=(pl y.c.x,pl y.c.y,sg y.c.d,mg y.c.d,.int .i64 y.id))) (0,.nils,.nils,.bool false,.nils,.int .i64 0) ⟨Qg _,.inl rfl⟩ rfl rfl λ⟨i,z⟩ ⟨hi,hy⟩=>?_
 dsimp only at hi hy ⊢;by_cases h:i<R.length
 ·obtain⟨x,hx⟩:=gxE (l:=R) (i:=i) h;have hxm:=hR x (Qa hx);have cf:=GT hd hxm hn;have hg:(idl (R.map (·.id)))[i]? = some [.int .i64 x.id]:=by simp[idl,hx]
  rcases hy with rfl|⟨k,y,rfl,hk,rfl⟩
  ·refine go tt [.T,.x hg,.k cf,.g 32 false rfl,.g 35 false rfl,.f rfl] rfl Fv ?_;exact rd (1,pl x.c.x,pl x.c.y,sg x.c.d,mg x.c.d,.int .i64 x.id) Ft ⟨h,.inr ⟨0,x,rfl,hx,rfl⟩⟩ rfl
  ·have cb:=Iu (hs y (hR y (Qa hk))) (hs x hxm) ht;rw[hb k y x hk hx]at cb;refine go tt [.T,.x hg,.k cf,.g 32 false rfl,.g 35 true U5,.k cb,.f rfl] rfl Fv ?_;exact rd (k+1+1,pl x.c.x,pl x.c.y,sg x.c.d,mg x.c.d,.int .i64 x.id) Ft ⟨h,.inr ⟨k+1,x,rfl,hx,rfl⟩⟩ rfl
 ·exact Ux [.F] rfl
theorem Qw6{w:Pt}(hw:w∈M)(hb:∀x∈M,x.id≠w.id->M5 (Gm t) w x=true):U3 33 [.agg (ta t),.oi w.id,.one (pts M)] [.one (.bool true)]:=by
 have hcl:=Ha M;have cf:=GT hd hw hn;show U3 33 [.agg (ta t),.oi w.id,.one (.row (Fx M))] [.one (.bool true)];refine G5 func33 rfl ?_;refine Uv [.k cf,.f rfl] rfl ?_;refine U0 (S:=Nat) 2 (λL1 i=>(21,.v (.oi i))::L1) (λ_=>[rJ t,LH w]) (λi=>M.length-i) (λi=>i<=M.length) 0 (Qg _) rfl rfl λi hi=>?_
 by_cases h:i<M.length
 ·obtain⟨x,hx⟩:=gxE (l:=M) (i:=i) h;have hxm:=Qa hx;by_cases he:x.id=w.id
  ·refine go tt [.T,.x (Hf hx),.g 29 false (decide_eq_false (λh=>h he)),.f rfl] rfl Fv ?_;exact rd (i+1) Fj h rfl
  ·have cb:=oW (hs w hw) (hs x hxm) ht;rw[hb x hxm he]at cb;refine go tt [.T,.x (Hf hx),.g 29 true (decide_eq_true he),.k cb,.f rfl] rfl Fv ?_;exact rd (i+1) Fj h rfl
 ·exact Ux [.F] rfl
theorem Qqt{x y:Pt}(hx:x∈M)(hy:y∈M)(hxy:x.id<y.id)(hb:∀u∈M,∀v∈M,u.id<v.id->¬(u.id=x.id/\v.id=y.id)->0≤G7 (Gm t) (Hw x.c y.c u.c v.c)/\(G7 (Gm t) (Hw x.c y.c u.c v.c)=0->¬(u.id<x.id\/u.id=x.id/\v.id<y.id))):U3 34 [.agg (ta t),.oi x.id,.oi y.id,.one (pts M)] [.one (.bool true)]:=by
 have hcl:=Ha M;have cf:=GT hd hx hn;have cg:=GT hd hy hn;show U3 34 [.agg (ta t),.oi x.id,.oi y.id,.one (.row (Fx M))] [.one (.bool true)];refine G5 func34 rfl ?_;refine Uv [.k cf,.k cg,.g 32 false rfl,.g 36 false rfl,.F] rfl ?_;refine U0 (S:=Nat) 3 (λL1 i=>(43,.v (.oi i))::L1) (λ_=>[rJ t,LH x,LH y]) (λi=>M.length-i) (λi=>i<=M.length) 0 (Qg _) rfl rfl λi hi=>?_
 by_cases h:i<M.length
 ·obtain⟨u,hu⟩:=gxE (l:=M) (i:=i) h;have hum:=Qa hu;refine go tt [.T,.x (Hf hu)] rfl Fv ?_;refine U0 (S:=Nat) 4 (λL1 j=>(49,.v (.oi j))::L1) (λ_=>[rJ t,LH x,LH y,LH u]) (λj=>M.length-j) (λj=>j<=M.length) 0 (Qg _) rfl rfl λj hj=>?_
  by_cases h':j<M.length
  ·obtain⟨v,hv⟩:=gxE (l:=M) (i:=j) h';have hvm:=Qa hv;by_cases g1:v.id<=u.id
   ·refine go tt [.T,.x (Hf hv),.g 58 true (decide_eq_true g1),.t rfl] rfl Fv ?_;exact rd (j+1) Fj h' rfl
   ·by_cases g2:u.id=x.id/\v.id=y.id
    ·refine go tt [.T,.x (Hf hv),.g 58 false (decide_eq_false g1),.g 63 true (decide_eq_true g2.1),.t (decide_eq_true g2.2)] rfl Fv ?_;exact rd (j+1) Fj h' rfl
    ·obtain⟨b1,b2⟩:=hb u hum v hvm Fj g2;have ck:=UR (hs x hx) (hs y hy) (hs u hum) (hs v hvm);have ca:=JH (p:=Hw x.c y.c u.c v.c) (a:=t) (XR (hs x hx) (hs y hy) (hs u hum) (hs v hvm)).dp ht;obtain⟨s,hs'⟩:=nmE (G7 (Gm t) (Hw x.c y.c u.c v.c));rw[show gmA t (Hw x.c y.c u.c v.c)=s from hs'.symm]at ca;rw[<-hs']at b1 b2;by_cases g3:u.id=x.id
     ·have g4:¬v.id=y.id:=λe=>g2 ⟨g3,e⟩
      by_cases s0:s=0
      ·have b2:=b2 s0;refine go tt [.T,.x (Hf hv),.g 58 false (decide_eq_false g1),.g 63 true (decide_eq_true g3),.f (decide_eq_false g4),.k ck,.k ca,.g 83 false U4,.g 86 true (decide_eq_true s0),.g 91 false U4,.g 96 true (decide_eq_true g3),.F] rfl Fv ?_;exact rd (j+1) Fj h' rfl
      ·refine go tt [.T,.x (Hf hv),.g 58 false (decide_eq_false g1),.g 63 true (decide_eq_true g3),.f (decide_eq_false g4),.k ck,.k ca,.g 83 false U4,.g 86 false (decide_eq_false s0),.f rfl] rfl Fv ?_;exact rd (j+1) Fj h' rfl
     ·by_cases s0:s=0
      ·have b2:=b2 s0;refine go tt [.T,.x (Hf hv),.g 58 false (decide_eq_false g1),.g 63 false (decide_eq_false g3),.f rfl,.k ck,.k ca,.g 83 false U4,.g 86 true (decide_eq_true s0),.g 91 false U4,.g 96 false (decide_eq_false g3),.f rfl] rfl Fv ?_;exact rd (j+1) Fj h' rfl
      ·refine go tt [.T,.x (Hf hv),.g 58 false (decide_eq_false g1),.g 63 false (decide_eq_false g3),.f rfl,.k ck,.k ca,.g 83 false U4,.g 86 false (decide_eq_false s0),.f rfl] rfl Fv ?_;exact rd (j+1) Fj h' rfl
  ·refine go tt [.F] rfl Fv ?_;exact rd (i+1) Fj h rfl
 ·exact Ux [.F] rfl
end
end Orr
namespace Orq
open Orr Go
variable{X Y:Pt->Rat}
def Ext(X Y:Pt->Rat)(R:List Pt)(x:Pt):Prop:=∃α β γ δ:Rat,∀y∈R,y≠x->0<α*(X y-X x)+β*(Y y-Y x)\/α*(X y-X x)+β*(Y y-Y x)=0/\0<γ*(X y-X x)+δ*(Y y-Y x)
theorem bZ{W L1 L2:Rat}(hW:0<=W)(hL:0<L1\/L1=0/\0<L2)(h0:W*L1=0):0<=W*L2/\(W*L2=0->W=0):=by
 rcases X3.1 h0 with h|h
 ·subst h;exact⟨by rw[Uo];exact Qr,λ_=>rfl⟩
 ·rcases hL with hL|⟨_,hL⟩
  ·rw[h]at hL;exact absurd hL Fl
  ·refine⟨Jg hW (Qt hL),λh'=>?_⟩;rcases X3.1 h' with e|e
   ·exact e
   ·rw[e]at hL;exact absurd hL Fl
theorem gC{L1 L2:Rat}(h:0<L1\/L1=0/\0<L2):0<=L1:=by
 rcases h with h|⟨h,_⟩
 ·exact Qt h
 ·rw[h];exact Qr
variable{R:List Pt}{x:Pt}
theorem Qya{a b c:Pt}(h:Ext X Y R x)(ha:a∈R)(hb:b∈R)(hc:c∈R)(na:a≠x)(nb:b≠x)(nc:c≠x)(ht:H6 X Y a b c≠0)(h1:0<=H6 X Y a b x*H6 X Y a b c)(h2:0<=H6 X Y b c x*H6 X Y a b c)(h3:0<=H6 X Y c a x*H6 X Y a b c):False:=by
 obtain⟨α,β,γ,δ,hl⟩:=h;have la:=hl a ha na;have lb:=hl b hb nb;have lc:=hl c hc nc;obtain⟨t,hte⟩:=nmE (H6 X Y a b c);obtain⟨wa,hwa⟩:=nmE (H6 X Y b c x);obtain⟨wb,hwb⟩:=nmE (H6 X Y c a x);obtain⟨wc,hwc⟩:=nmE (H6 X Y a b x);have sx:wa*(X a-X x)+wb*(X b-X x)+wc*(X c-X x)=0:=by rw[hwa,hwb,hwc];unfold H6;grind
 have sy:wa*(Y a-Y x)+wb*(Y b-Y x)+wc*(Y c-Y x)=0:=by rw[hwa,hwb,hwc];unfold H6;grind
 have st:wa+wb+wc=t:=by rw[hwa,hwb,hwc,hte];unfold H6;grind
 rw[<-hte]at ht h1 h2 h3;rw[<-hwa]at h2;rw[<-hwb]at h3;rw[<-hwc]at h1;clear hte hwa hwb hwc;have key:∀p q:Rat,wa*t*(p*(X a-X x)+q*(Y a-Y x))+wb*t*(p*(X b-X x)+q*(Y b-Y x))+wc*t*(p*(X c-X x)+q*(Y c-Y x))=0:=λp q=>by
  have e:wa*t*(p*(X a-X x)+q*(Y a-Y x))+wb*t*(p*(X b-X x)+q*(Y b-Y x))+wc*t*(p*(X c-X x)+q*(Y c-Y x))=t*p*(wa*(X a-X x)+wb*(X b-X x)+wc*(X c-X x))+t*q*(wa*(Y a-Y x)+wb*(Y b-Y x)+wc*(Y c-Y x)):=Fq;rw[e,sx,sy];grind
 have k1:=key α β;have k2:=key γ δ;have n1:=Jg h2 (gC la);have n2:=Jg h3 (gC lb);have n3:=Jg h1 (gC lc);obtain⟨m1,e1⟩:=bZ h2 la Fq;obtain⟨m2,e2⟩:=bZ h3 lb Fq;obtain⟨m3,e3⟩:=bZ h1 lc Fq;have z1:=e1 Fq;have z2:=e2 Fq;have z3:=e3 Fq;have:t*t=0:=by
  have e:t*t=wa*t+wb*t+wc*t:=by rw[<-st];grind
  rw[e,z1,z2,z3];grind
 rcases X3.1 this with h|h <;> exact ht h
theorem Qba{a b:Pt}(h:Ext X Y R x)(ha:a∈R)(hb:b∈R)(na:a≠x)(nb:b≠x)(h0:H6 X Y a b x=0)(h1:lx X Y a x)(h2:lx X Y x b):False:=by
 obtain⟨α,β,γ,δ,hl⟩:=h;have la:=hl a ha na;have lb:=hl b hb nb;obtain⟨ux,hux⟩:=nmE (X x-X a);obtain⟨uy,huy⟩:=nmE (Y x-Y a);obtain⟨vx,hvx⟩:=nmE (X b-X x);obtain⟨vy,hvy⟩:=nmE (Y b-Y x);have hu:=Nm h1;have hv:=Nm h2;rw[<-hux,<-huy]at hu;rw[<-hvx,<-hvy]at hv;have hc:ux*vy-vx*uy=0:=by unfold H6 at h0;rw[hux,huy,hvx,hvy];grind
 have ea:X a-X x=-ux:=by rw[hux];grind
 have ea':Y a-Y x=-uy:=by rw[huy];grind
 rw[ea,ea']at la;rw[<-hvx,<-hvy]at lb;clear hux huy hvx hvy ea ea' h0 h1 h2;obtain⟨m,n,hm,hn,e1,e2⟩:∃m n:Rat,0<m/\0<n/\m*vx=n*ux/\m*vy=n*uy:=by
  rcases hu with hu|⟨hu,hu'⟩
  ·rcases hv with hv|⟨hv,hv'⟩
   ·exact⟨ux,vx,hu,hv,Fq,Fq⟩
   ·exfalso;rw[hv]at hc;have:=Xm hu hv';grind
  ·rcases hv with hv|⟨hv,hv'⟩
   ·exfalso;rw[hu]at hc;have:=Xm hv hu';grind
   ·exact⟨uy,vy,hu',hv',by rw[hu,hv];grind,Fq⟩
 have key:∀p q:Rat,n*(p*-ux+q*-uy)+m*(p*vx+q*vy)=0:=λp q=>by
  have e:n*(p*-ux+q*-uy)+m*(p*vx+q*vy)=p*(m*vx-n*ux)+q*(m*vy-n*uy):=Fq;rw[e,e1,e2];grind
 have k1:=key α β;have k2:=key γ δ;have n1:=Jg (Qt hn) (gC la);have n2:=Jg (Qt hm) (gC lb);obtain⟨m1,f1⟩:=bZ (Qt hn) la Fq;obtain⟨m2,f2⟩:=bZ (Qt hm) lb Fq;have:=f1 Fq;rw[this]at hn;exact absurd hn Fl
theorem zA{f z p:Pt}{A:List Pt}(hd:∀x∈R,∀y∈R,y≠x->X y≠X x\/Y y≠Y x)(c:LowC X Y R (f::A++[z]))(hp:p∈A):Ext X Y R p:=by
 obtain⟨A1,A2,rfl⟩:=Kx hp;obtain⟨L1,x,hx⟩:∃L1 x,f::A1=L1++[x]:=⟨(f::A1).dropLast,(f::A1).getLast Fp,(Vg Fp).symm⟩;obtain⟨y,L2,hy⟩:∃y L2,A2++[z]=y::L2:=by
  cases A2 with
  |nil=>exact⟨z,[],rfl⟩
  |cons y A2=>exact⟨y,A2++[z],rfl⟩
 have e:f::(A1++p::A2)++[z]=L1++x::p::y::L2:=by
  have e1:f::(A1++p::A2)++[z]=(f::A1)++p::(A2++[z]):=Fp;rw[e1,hx,hy];simp
 have edg:=c.edg;have cnv:=c.cnv;have hpR:p∈R:=c.mem p Fp;rw[e]at edg cnv;have t0:=kF L1 cnv;have t1:=HU L1 edg;have t2:∀w∈R,0≤H6 X Y p y w:=by
  have e2:L1++x::p::y::L2=(L1++[x])++p::y::L2:=Fp;rw[e2]at edg;exact HU _ edg
 refine⟨-(Y p-Y x),X p-X x,-(Y y-Y p),X y-X p,λw hw hne=>?_⟩;have g1:=t1 w hw;have g2:=t2 w hw;have e1:H6 X Y x p w=-(Y p-Y x)*(X w-X p)+(X p-X x)*(Y w-Y p):=by unfold H6;grind
 have e2:H6 X Y p y w=-(Y y-Y p)*(X w-X p)+(X y-X p)*(Y w-Y p):=by unfold H6;grind
 rw[<-e1,<-e2];rcases Vz.1 g1 with h1|h1
 ·exact .inl h1
 ·right;refine⟨h1.symm,?_⟩;rcases Vz.1 g2 with h2|h2
  ·exact h2
  ·exfalso;have d1:(X w-X p)*H6 X Y x p y=0:=by
    have:(X w-X p)*H6 X Y x p y=(X y-X p)*H6 X Y x p w-(X p-X x)*H6 X Y p y w:=by unfold H6;grind
    rw[this,<-h1,<-h2];grind
   have d2:(Y w-Y p)*H6 X Y x p y=0:=by
    have:(Y w-Y p)*H6 X Y x p y=(Y y-Y p)*H6 X Y x p w-(Y p-Y x)*H6 X Y p y w:=by unfold H6;grind
    rw[this,<-h1,<-h2];grind
   rcases X3.1 d1 with d1|d1
   ·rcases X3.1 d2 with d2|d2
    ·rcases hd p hpR w hw hne with h|h
     ·exact h Fq
     ·exact h Fq
    ·rw[d2]at t0;exact absurd t0 Fl
   ·rw[d1]at t0;exact absurd t0 Fl
theorem Qbb(h:Ext (λp=>-X p) (λp=>-Y p) R x):Ext X Y R x:=by
 obtain⟨α,β,γ,δ,hl⟩:=h;refine⟨-α,-β,-γ,-δ,λy hy hne=>?_⟩;have:=hl y hy hne;have e1:-α*(X y-X x)+-β*(Y y-Y x)=α*(-X y - -X x)+β*(-Y y - -Y x):=Fq;have e2:-γ*(X y-X x)+-δ*(Y y-Y x)=γ*(-X y - -X x)+δ*(-Y y - -Y x):=Fq;rw[e1,e2];exact this
theorem xH(h:∀y∈R,y≠x->lx X Y x y):Ext X Y R x :=
 ⟨1,0,0,1,λy hy hne=>by
  have:=h y hy hne;unfold lx at this;rcases this with h|⟨h,h'⟩
  ·exact .inl Fq
  ·exact .inr ⟨Fq,Fq⟩⟩
section
variable{M:List Pt}{a:Tm}{q:Rat}(S:Soon M a q)
include S
theorem Qmp:∀x∈Ra a (Gv M),∀y∈Ra a (Gv M),y≠x->px y q≠px x q\/py y q≠py x q:=λx hx y hy hne=>by
 have key:∀(l:List Pt),l.Pairwise (lx (px · q) (py · q))->∀x∈l,∀y∈l,y≠x->lx (px · q) (py · q) x y\/lx (px · q) (py · q) y x:=by
  intro l
  induction l with
  |nil=>intro _ x hx;cases hx
  |
   cons w l ih =>
   intro h x hx y hy hne;obtain⟨h1,h2⟩:=Q0.1 h;rcases Qk.1 hx with e|hx'
   ·rcases Qk.1 hy with e'|hy'
    ·exact absurd (e'.trans e.symm) hne
    ·rw[e];exact .inl (h1 y hy')
   ·rcases Qk.1 hy with e'|hy'
    ·rw[e'];exact .inr (h1 x hx')
    ·exact ih h2 x hx' y hy' hne
 rcases key _ S.r x hx y hy hne with h|h <;> unfold lx at h <;> grind
theorem Qjo{x:Pt}(hx:x∈Hn M a)(h3:3<=(Ra a (Gv M)).length):Ext (px · q) (py · q) (Ra a (Gv M)) x:=by
 obtain⟨f,z,A,B,hA,hB,c1,c2,_⟩:=C6 S h3;have hC:Hn M a=f::A++(z::B):=by
  unfold Hn Mf;rw[if_neg Fj,hA,hB,Xg,Xg]
 rw[hC]at hx;have hd:=Qmp S;have hd':∀x∈(Ra a (Gv M)).reverse,∀y∈(Ra a (Gv M)).reverse,y≠x->-px y q≠-px x q\/-py y q≠-py x q:=λx hx y hy hne=>by
  rcases hd x (Xh.1 hx) y (Xh.1 hy) hne with h|h
  ·exact .inl λe=>h Fq
  ·exact .inr λe=>h Fq
 have hrev:∀{x:Pt},Ext (px · q) (py · q) (Ra a (Gv M)).reverse x->Ext (px · q) (py · q) (Ra a (Gv M)) x:=λ⟨α,β,γ,δ,hl⟩=>⟨α,β,γ,δ,λy hy hne=>hl y (Xh.2 hy) hne⟩
 have hr:=S.r;obtain⟨g,G,hg⟩:∃g G,Ra a (Gv M)=g::G:=by
  cases h:Ra a (Gv M)with
  |nil=>rw[h]at h3;simp at h3
  |cons g G=>exact⟨g,G,rfl⟩
 rcases Qp.1 hx with hx|hx
 ·rcases Qk.1 hx with rfl|hx
  ·refine xH λy hy hne=>?_
   have hh:=c1.hd;rw[hg]at hh;have e:x=g:=by simpa using hh
   rw[hg]at hr hy;rcases Qk.1 hy with h|h
   ·exact absurd (h.trans e.symm) hne
   ·rw[e];exact(Q0.1 hr).1 y h
  ·exact zA hd c1 hx
 ·rcases Qk.1 hx with rfl|hx
  ·refine hrev (Qbb (xH λy hy hne=>?_));have hh:=c2.hd;have hr':(Ra a (Gv M)).reverse.Pairwise (lx (λp=>-px p q) (λp=>-py p q)):=by
    rw[Vo];exact hr.imp λh=>YI.2 h
   cases hR:(Ra a (Gv M)).reverse with
   |nil=>rw[hR]at hy;cases hy
   |
    cons w W =>
    rw[hR]at hh hy hr';have e:x=w:=by simpa using hh
    rcases Qk.1 hy with h|h
    ·exact absurd (h.trans e.symm) hne
    ·rw[e];exact(Q0.1 hr').1 y h
  ·exact hrev (Qbb (zA hd' c2 hx))
end
theorem Qjp{M:List Pt}{a:Tm}{q:Rat}(S:Soon M a q)(h4:(Gv M).length<=4){x:Pt}(hx:x∈Gv M)(hC:x∉Hn M a) :
 (∃u v,u∈Gv M/\v∈Gv M/\u≠x/\v≠x/\H6 (px · q) (py · q) u v x=0/\lx (px · q) (py · q) u x/\lx (px · q) (py · q) x v) \/
 ∃u v w,u∈Gv M/\v∈Gv M/\w∈Gv M/\u≠x/\v≠x/\w≠x/\0<H6 (px · q) (py · q) u v w/\0<=H6 (px · q) (py · q) u v x/\0<=H6 (px · q) (py · q) v w x/\0<=H6 (px · q) (py · q) w u x:=by
 have hxR:=(Hk (t:=a)).2 hx;have hln:(Ra a (Gv M)).length<=4:=by rw[Mq];exact h4
 by_cases h3:3<=(Ra a (Gv M)).length
 ·obtain⟨f,z,A,B,hA,hB,c1,c2,_⟩:=C6 S h3;have hCC:Hn M a=f::A++(z::B):=by
   unfold Hn Mf;rw[if_neg Fj,hA,hB,Xg,Xg]
  rw[hCC]at hC;have nf:f≠x:=λe=>hC (by rw[e];simp)
  have nz:z≠x:=λe=>hC (by rw[e];simp)
  have hf:f∈Gv M:=(Hk (t:=a)).1 (c1.mem f Fp);have hz:z∈Gv M:=(Hk (t:=a)).1 (c1.mem z Fp);have hnd:(x::(f::A++(z::B))).Pairwise (λu v=>u≠v):=by
   have:=EI S;rw[hCC]at this;exact Q0.2 ⟨λy hy e=>hC (by rw[e];exact hy),this⟩
  have hle:=VK _ (R:=Ra a (Gv M)) hnd λy hy=>by
   rcases Qk.1 hy with rfl|hy
   ·exact hxR
   ·rcases Qp.1 hy with hy|hy
    ·exact c1.mem y (Zy _ hy)
    ·exact Xh.1 (c2.mem y (Zy _ hy))
  have hsum:A.length+B.length<=1:=by
   simp only[Q5,Qu]at hle;omega
  have neg:∀u v w:Pt,H6 (λp=>-px p q) (λp=>-py p q) u v w=H6 (px · q) (py · q) u v w:=λu v w=>by unfold H6;grind
  have hxr:=Xh.2 hxR
  match A,B,hsum with
  |
   [],[],_ =>
   left;have g1:0<=H6 (px · q) (py · q) f z x:=c1.edg.1 x hxR;have g2:0<=H6 (px · q) (py · q) z f x:=by
    have:=c2.edg.1 x hxr;rwa[neg]at this
   have hr:=S.r;refine⟨f,z,hf,hz,nf,nz,by unfold H6 at g1 g2 ⊢;grind,?_,?_⟩
   ·have hh:=c1.hd;cases hR:Ra a (Gv M)with
    |nil=>rw[hR]at hxR;cases hxR
    |
     cons w W =>
     rw[hR]at hh hr hxR;have e:f=w:=by simpa using hh
     rcases Qk.1 hxR with h|h
     ·exact absurd (e.trans h.symm) nf
     ·rw[e];exact(Q0.1 hr).1 x h
   ·have hh:=c2.hd;have hr':(Ra a (Gv M)).reverse.Pairwise (lx (λp=>-px p q) (λp=>-py p q)):=by
     rw[Vo];exact hr.imp λh=>YI.2 h
    cases hR:(Ra a (Gv M)).reverse with
    |nil=>rw[hR]at hxr;cases hxr
    |
     cons w W =>
     rw[hR]at hh hr' hxr;have e:z=w:=by simpa using hh
     rcases Qk.1 hxr with h|h
     ·exact absurd (e.trans h.symm) nz
     ·rw[e];exact YI.1 ((Q0.1 hr').1 x h)
  |
   [p],[],_ =>
   right;have hp:p∈Gv M:=(Hk (t:=a)).1 (c1.mem p Fp);have np:p≠x:=λe=>hC (by rw[e];simp)
   have g3:0<=H6 (px · q) (py · q) z f x:=by
    have:=c2.edg.1 x hxr;rwa[neg]at this
   exact⟨f,p,z,hf,hp,hz,nf,np,nz,c1.cnv.1,c1.edg.1 x hxR,c1.edg.2.1 x hxR,g3⟩
  |
   [],[p],_ =>
   right;have hp:p∈Gv M:=(Hk (t:=a)).1 (Xh.1 (c2.mem p Fp));have np:p≠x:=λe=>hC (by rw[e];simp)
   have g1:0<H6 (λp=>-px p q) (λp=>-py p q) z p f:=c2.cnv.1;have g2:0<=H6 (λp=>-px p q) (λp=>-py p q) z p x:=c2.edg.1 x hxr;have g3:0<=H6 (λp=>-px p q) (λp=>-py p q) p f x:=c2.edg.2.1 x hxr;rw[neg]at g1 g2 g3;exact⟨z,p,f,hz,hp,hf,nz,np,nf,g1,g2,g3,c1.edg.1 x hxR⟩
  |_::_::_,_,h=>simp at h;omega
  | [_],_::_,h=>simp at h;omega
  | [],_::_::_,h=>simp at h
 ·have e:Hn M a=Ra a (Gv M):=by unfold Hn Mf;rw[if_pos Fj]
  rw[e]at hC;exact absurd hxR hC
end Orq
namespace Orq
open Orr Go
def Qgj(sg:U6->Int)(a b c:Pt):Prop:=G7 sg (Gj a.c b.c c.c)=0/\(H8 sg a c=true/\H8 sg c b=true\/H8 sg b c=true/\H8 sg c a=true)
def UO(sg:U6->Int)(a b c x:Pt):Prop:=G7 sg (Gj a.c b.c c.c)≠0/\0<=G7 sg (Gj a.c b.c x.c)*G7 sg (Gj a.c b.c c.c)/\0<=G7 sg (Gj b.c c.c x.c)*G7 sg (Gj a.c b.c c.c)/\0<=G7 sg (Gj c.c a.c x.c)*G7 sg (Gj a.c b.c c.c)
def NJ(sg:U6->Int)(x:Pt)(l:List Pt):Prop:=∀(i j:Nat) (a b:Pt),j<i->l[i]? = some a->l[j]? = some b->a.id≠x.id->b.id≠x.id->¬Qgj sg a b x/\∀(k:Nat) (c:Pt),k<j->l[k]? = some c->c.id≠x.id->¬UO sg a b c x
theorem TS{u v:Rat}:0<=Gn u*Gn v↔0<=u*v:=by
 rcases G6 u with⟨e1,h1⟩|⟨e1,h1⟩|⟨e1,h1⟩ <;> rcases G6 v with⟨e2,h2⟩|⟨e2,h2⟩|⟨e2,h2⟩ <;> rw[e1,e2]
 ·have:=Xm (show 0 < -u by grind) (show 0 < -v by grind);exact⟨λ_=>Fq,λ_=>Fl⟩
 ·rw[h2,Rat.mul_zero];exact⟨λ_=>Qr,λ_=>Fl⟩
 ·have:=Xm (show 0 < -u by grind) h2;exact⟨λh=>absurd h Fl,λh=>by exfalso;grind⟩
 ·rw[h1,Uo];exact⟨λ_=>Qr,λ_=>Fl⟩
 ·rw[h1,Uo];exact⟨λ_=>Qr,λ_=>Fl⟩
 ·rw[h1,Uo];exact⟨λ_=>Qr,λ_=>Fl⟩
 ·have:=Xm h1 (show 0 < -v by grind);exact⟨λh=>absurd h Fl,λh=>by exfalso;grind⟩
 ·rw[h2,Rat.mul_zero];exact⟨λ_=>Qr,λ_=>Fl⟩
 ·have:=Xm h1 h2;exact⟨λ_=>Fq,λ_=>Fl⟩
section
variable{M:List Pt}{a:Tm}{q:Rat}(S:Soon M a q)
include S
theorem Ie{u v:Pt}(hu:u∈Gv M)(hv:v∈Gv M)(hne:u≠v):H8 (Gm a) u v=true↔lx (px · q) (py · q) u v:=by
 rw[S.b u (Hu hu) v (Hu hv)];have hp:=Qmp S v (Hk.2 hv) u (Hk.2 hu) hne;unfold Lc lx;constructor
 ·rintro (h|⟨h,h'|⟨h',_⟩⟩)
  ·exact .inl h
  ·exact .inr ⟨h,h'⟩
  ·exact absurd (hp.elim (λe=>absurd h e) λe=>absurd h' e) id
 ·rintro (h|⟨h,h'⟩)
  ·exact .inl h
  ·exact .inr ⟨h,.inl h'⟩
theorem XN{u v w x:Pt}(hu:u∈Gv M)(hv:v∈Gv M)(hw:w∈Gv M)(hx:x∈Gv M):UO (Gm a) u v w x↔H6 (px · q) (py · q) u v w≠0/\0<=H6 (px · q) (py · q) u v x*H6 (px · q) (py · q) u v w/\0<=H6 (px · q) (py · q) v w x*H6 (px · q) (py · q) u v w/\0<=H6 (px · q) (py · q) w u x*H6 (px · q) (py · q) u v w:=by
 have hu:=Hu hu;have hv:=Hu hv;have hw:=Hu hw;have hx:=Hu hx;unfold UO;rw[S.o _ hu _ hv _ hw,S.o _ hu _ hv _ hx,S.o _ hv _ hw _ hx,S.o _ hw _ hu _ hx,TS,TS,TS];exact⟨λ⟨h,h'⟩=>⟨λe=>h (Hd.2 e),h'⟩,λ⟨h,h'⟩=>⟨λe=>h (Hd.1 e),h'⟩⟩
end
theorem nn1{p t:Rat}(hp:0<=p)(ht:0<t):0<=p*t:=Jg hp (Qt ht)
theorem nn2{p t p' t':Rat}(hp:0<=p)(ht:0<t)(e:p'=-p)(e':t'=-t):0<=p'*t':=by
 have:=nn1 hp ht;have e2:p'*t'=p*t:=by rw[e,e'];grind
 rw[e2];exact this
theorem EO{M:List Pt}(hl:∀p∈M,Sc p.c)(hd:M.Pairwise λx y=>x.id≠y.id){a:Tm}(ha:Va a)(h4:(Gv M).length≤4){x:Pt}(hx:x∈Gv M):NJ (Gm a) x (Gv M)↔x∈Hn M a:=by
 obtain⟨q,S⟩:=QZ hl hd ha;have hWd:gG (Gv M):=List.Pairwise.sublist (An M) hd;have ne_id:∀{u v:Pt},u∈Gv M->v∈Gv M->u≠v->u.id≠v.id:=λhu hv hne e=>hne (Qa0 hWd hu hv e)
 constructor
 ·intro hc;apply Classical.byContradiction;intro hC;have key:∀{u v:Pt},u∈Gv M->v∈Gv M->u≠x->v≠x->u≠v->∃(i j:Nat) (a' b':Pt),j<i/\(Gv M)[i]? = some a'/\(Gv M)[j]? = some b'/\(a'=u/\b'=v\/a'=v/\b'=u):=λ{u v} hu hv _ _ hne=>by
   obtain⟨i,hi⟩:=Zx hu;obtain⟨j,hj⟩:=Zx hv;rcases Vb i j with h|h|h
   ·exact⟨j,i,v,u,h,hj,hi,.inr ⟨rfl,rfl⟩⟩
   ·subst h;rw[hi]at hj;injection hj with hj;exact absurd hj hne
   ·exact⟨i,j,u,v,h,hi,hj,.inl ⟨rfl,rfl⟩⟩
  rcases Qjp S h4 hx hC with⟨u,v,hu,hv,nu,nv,h0,h1,h2⟩|⟨u,v,w,hu,hv,hw,nu,nv,nw,h0,h1,h2,h3⟩
  ·have hne:u≠v:=λe=>by rw[e]at h1;exact Mn _ (jS h1 h2)
   have hw1:Qgj (Gm a) u v x:=by
    refine⟨?_,.inl ⟨(Ie S hu hx nu).2 h1,(Ie S hx hv nv.symm).2 h2⟩⟩;rw[S.o _ (Hu hu) _ (Hu hv) _ (Hu hx)];exact Hd.2 h0
   have hw2:Qgj (Gm a) v u x:=by
    refine⟨?_,hw1.2.symm⟩;rw[S.o _ (Hu hv) _ (Hu hu) _ (Hu hx)];exact Hd.2 (by unfold H6 at h0 ⊢;grind)
   obtain⟨i,j,a',b',hij,hi,hj,⟨rfl,rfl⟩|⟨rfl,rfl⟩⟩:=key hu hv nu nv hne
   ·exact(hc i j _ _ hij hi hj (ne_id hu hx nu) (ne_id hv hx nv)).1 hw1
   ·exact(hc i j _ _ hij hi hj (ne_id hv hx nv) (ne_id hu hx nu)).1 hw2
  ·obtain⟨i,hi⟩:=Zx hu;obtain⟨j,hj⟩:=Zx hv;obtain⟨k,hk⟩:=Zx hw;have o0:∀y z,H6 (px · q) (py · q) y y z=0:=λy z=>by unfold H6;grind
   have o1:∀y z,H6 (px · q) (py · q) y z y=0:=λy z=>by unfold H6;grind
   have o2:∀y z,H6 (px · q) (py · q) z y y=0:=λy z=>by unfold H6;grind
   have irr:¬(0:Rat)<0:=Fl;have nij:i≠j:=λe=>by
    subst e;rw[hi]at hj;injection hj with hj;subst hj;rw[o0]at h0;exact irr h0
   have nik:i≠k:=λe=>by
    subst e;rw[hi]at hk;injection hk with hk;subst hk;rw[o1]at h0;exact irr h0
   have njk:j≠k:=λe=>by
    subst e;rw[hj]at hk;injection hk with hk;subst hk;rw[o2]at h0;exact irr h0
   have a1:H6 (px · q) (py · q) v w u=H6 (px · q) (py · q) u v w:=by unfold H6;grind
   have a2:H6 (px · q) (py · q) w u v=H6 (px · q) (py · q) u v w:=by unfold H6;grind
   have b1:H6 (px · q) (py · q) v u w=-H6 (px · q) (py · q) u v w:=by unfold H6;grind
   have b2:H6 (px · q) (py · q) u w v=-H6 (px · q) (py · q) u v w:=by unfold H6;grind
   have b3:H6 (px · q) (py · q) w v u=-H6 (px · q) (py · q) u v w:=by unfold H6;grind
   have sw:∀y z,H6 (px · q) (py · q) y z x=-H6 (px · q) (py · q) z y x:=λy z=>by unfold H6;grind
   have i1:UO (Gm a) u v w x:=(XN S hu hv hw hx).2 ⟨λe=>by rw[e]at h0;exact irr h0,nn1 h1 h0,nn1 h2 h0,nn1 h3 h0⟩;have i2:UO (Gm a) v w u x:=(XN S hv hw hu hx).2 ⟨λe=>by rw[a1]at e;rw[e]at h0;exact irr h0,by rw[a1];exact nn1 h2 h0,by rw[a1];exact nn1 h3 h0,by rw[a1];exact nn1 h1 h0⟩;have i3:UO (Gm a) w u v x:=(XN S hw hu hv hx).2 ⟨λe=>by rw[a2]at e;rw[e]at h0;exact irr h0,by rw[a2];exact nn1 h3 h0,by rw[a2];exact nn1 h1 h0,by rw[a2];exact nn1 h2 h0⟩;have neg0:∀{t:Rat},t=-H6 (px · q) (py · q) u v w->t≠0:=λ{t} e e'=>by
    rw[e']at e;have:H6 (px · q) (py · q) u v w=0:=Fq;rw[this]at h0;exact irr h0
   have i4:UO (Gm a) v u w x:=(XN S hv hu hw hx).2 ⟨neg0 b1,nn2 h1 h0 (sw _ _) b1,nn2 h3 h0 (sw _ _) b1,nn2 h2 h0 (sw _ _) b1⟩;have i5:UO (Gm a) u w v x:=(XN S hu hw hv hx).2 ⟨neg0 b2,nn2 h3 h0 (sw _ _) b2,nn2 h2 h0 (sw _ _) b2,nn2 h1 h0 (sw _ _) b2⟩;have i6:UO (Gm a) w v u x:=(XN S hw hv hu hx).2 ⟨neg0 b3,nn2 h2 h0 (sw _ _) b3,nn2 h1 h0 (sw _ _) b3,nn2 h3 h0 (sw _ _) b3⟩;have mu:=ne_id hu hx nu;have mv:=ne_id hv hx nv;have mw:=ne_id hw hx nw;rcases(show(k<j/\j<i)\/(j<k/\k<i)\/(k<i/\i<j)\/(i<k/\k<j)\/(j<i/\i<k)\/(i<j/\j<k) by omega)with⟨s1,s2⟩|⟨s1,s2⟩|⟨s1,s2⟩|⟨s1,s2⟩|⟨s1,s2⟩|⟨s1,s2⟩
   ·exact(hc i j _ _ s2 hi hj mu mv).2 k _ s1 hk mw i1
   ·exact(hc i k _ _ s2 hi hk mu mw).2 j _ s1 hj mv i5
   ·exact(hc j i _ _ s2 hj hi mv mu).2 k _ s1 hk mw i4
   ·exact(hc j k _ _ s2 hj hk mv mw).2 i _ s1 hi mu i2
   ·exact(hc k i _ _ s2 hk hi mw mu).2 j _ s1 hj mv i3
   ·exact(hc k j _ _ s2 hk hj mw mv).2 i _ s1 hi mu i6
 ·intro hC i j u v hij hi hj mu mv;have hu:=Qa hi;have hv:=Qa hj;have nu:u≠x:=λe=>mu (by rw[e])
  have nv:v≠x:=λe=>mv (by rw[e])
  have h3:3<=(Ra a (Gv M)).length:=by
   rw[Mq];obtain⟨n,hn⟩:=Zx hx;have l1:=(Qd.1 hi).1;have l2:=(Qd.1 hn).1;have n1:n≠i:=λe=>by subst e;rw[hi]at hn;injection hn with hn;exact nu hn
   have n2:n≠j:=λe=>by subst e;rw[hj]at hn;injection hn with hn;exact nv hn
   omega
  have E:=Qjo S hC h3;have R:∀{y},y∈Gv M->y∈Ra a (Gv M):=λh=>Hk.2 h
  constructor
  ·rintro⟨h0,hb⟩
   rw[S.o _ (Hu hu) _ (Hu hv) _ (Hu hx)]at h0;have h0:=Hd.1 h0;rcases hb with⟨h1,h2⟩|⟨h1,h2⟩
   ·exact Qba E (R hu) (R hv) nu nv h0 ((Ie S hu hx nu).1 h1) ((Ie S hx hv nv.symm).1 h2)
   ·exact Qba E (R hv) (R hu) nv nu (by unfold H6 at h0 ⊢;grind) ((Ie S hv hx nv).1 h1) ((Ie S hx hu nu.symm).1 h2)
  ·intro k w hk hw mw hin;have hw:=Qa hw;have nw:w≠x:=λe=>mw (by rw[e])
   obtain⟨g0,g1,g2,g3⟩:=(XN S hu hv hw hx).1 hin;exact Qya E (R hu) (R hv) (R hw) nu nv nw g0 g1 g2 g3
end Orq
namespace Orq
open Orr Go


def p2(k:Nat):Rat:=((2^k:Nat):Rat)
structure LwS(t:Tm)(L:List (List Rat))(D M k0 w0 j:Nat)(lo hi:Rat):Prop where
 hv:Hv t D M (k0+j) ⟨t.p,lo,hi⟩
 v:Vt (cz t.p) L lo hi
 w:(hi-lo)*p2 j<=p2 w0

theorem Qzn(q:Rat)(p:U6):Gm (tq q) p=Rp p q:=by
 unfold Gm UV
 split
 ·rename_i h;rw[List.eq_nil_of_length_eq_zero h];rfl
 ·rw[if_pos (Ng.2 (Qr (a:=q)))];rfl
theorem IV(q:Rat)(p:U6):G7 (Gm (tq q)) p=Td p q:=by
 have:Gm (tq q)=λp=>Rp p q:=funext (Qzn q)
 rw[this];rfl
def bq(n:Nat):Nat->Nat
 | 0=>100
 |i+1=>21431+n*bq n i
structure HI(a:Tm)(L:List (List Rat))(j:Nat)(lo hi:Rat):Prop where
 w:∃D M k0,LwS a L D M k0 273 j lo hi/\0<M/\Gl (D:Int)<=271/\Gl (M:Int)<=272/\k0<=17886
structure HX(a:Tm)(C:List (List Int))(q:Rat)(b j:Nat)(lo hi:Rat):Prop where
 ql:Qs b lo
 qh:Qs b hi
 c:lo=hi/\q<lo/\Gx a hi=0\/HI a (C.map cz) j lo hi
structure HA(a:Tm)(n:Nat)(C:List (List Int)):Prop where
 va:Va a
 pt:a.point=false
 n:a.p.length<=n+1
 b:Bd 271 a.p
 ch:ChRun a.p a.p C
 pr:S0 a.p=a.p
 i:HI a (C.map cz) 0 a.lo a.hi
end Orq
namespace Orr
open Orq
end Orr
namespace Orq
open Orr Go
end Orq
namespace Orr
end Orr
namespace Orq
open Orr Go
section
variable{α:Type}{s:α->α->α->Bool}{S:α->Prop}
end
def hfn(s:U6)(same:Bool)(i:Nat):U6:=if same=true then [3,2]else trim [s.getD i 0,(i:Int)]
def hpt(s:U6)(same:Bool)(i:Nat):Pt:=⟨⟨hfn s same i,Eh (hfn s same i) (hfn s same i),1⟩,(i:Int)⟩
def Dz(s:U6)(t:Int)(i:Nat):Int:=s.getD i 0+(i:Int)*t
end Orq
namespace Orq
open Orr Go
noncomputable def cd0(P:Prop):Bool := @decide P (Classical.propDecidable P)
variable{P:Prop}
theorem Q1g(h:P):cd0 P=true := @decide_eq_true P (Classical.propDecidable P) h
theorem Qva(h:¬P):cd0 P=false := @decide_eq_false P (Classical.propDecidable P) h
theorem Qre:cd0 P=true↔P := @decide_eq_true_iff P (Classical.propDecidable P)
noncomputable def cornF(sg:U6->Int)(W:List Pt):List Pt:=W.filter λx=>cd0 (NJ sg x W)
def Quv(sg:U6->Int)(ids:U6)(W:List Pt):Prop:=ids.length=(cornF sg W).length/\∃out:List Pt,out.map (·.id)=ids/\(∀x∈out,x∈cornF sg W)/\(∀(i:Nat) (f x:Pt),0<i->out[0]? = some f->out[i]? = some x->H8 sg f x=true)/\∀(i j k:Nat) (x y z:Pt),k<j->j<i->out[i]? = some x->out[j]? = some y->out[k]? = some z->0<G7 sg (Gj z.c y.c x.c)
theorem Qg1{M:List Pt}(hM:MOk M){a:Tm}(ha:Va a)(h4:M.length<=4):Quv (Gm a) ((Hn M a).map (·.id)) (Gv M):=by
 have hl:=hM.sc;have hd:=hM.df;have hw4:(Gv M).length<=4:=Qc (Bh M) h4;have hmem:∀x,x∈cornF (Gm a) (Gv M)↔x∈Hn M a:=λx=>by
  unfold cornF;rw[J8,Qre];constructor
  ·rintro⟨h1,h2⟩;exact(EO hl hd ha hw4 h1).1 h2
  ·intro h;have h1:x∈Gv M:=Hk.1 (FB h);exact⟨h1,(EO hl hd ha hw4 h1).2 h⟩
 obtain⟨q,S⟩:=QZ hl hd ha;have nd1:=EI S;have nd2:(cornF (Gm a) (Gv M)).Pairwise λx y=>x≠y:=by
  have:M.Pairwise λx y=>x≠y:=hd.imp λh e=>h (by rw[e])
  exact List.Pairwise.sublist (List.filter_sublist.trans (An M)) this
 have hc4:(Hn M a).length<=4:=Qc (Qk6 hM ha) h4;refine⟨?_,Hn M a,rfl,λx hx=>(hmem x).2 hx,λi f x hi h0 hx=>vS hl hd ha h0 hx hi,λi j k x y z hkj hji hx hy hz=>?_⟩
 ·rw[Ze];exact V4 (VK _ nd1 λx hx=>(hmem x).2 hx) (VK _ nd2 λx hx=>(hmem x).1 hx)
 ·have li:=(Qd.1 hx).1;have tn:=λ{i:Nat} {x y w:Pt}=>rQ (i:=i) (x:=x) (y:=y) (w:=w) hl hd ha (show 2<(Hn M a).length by omega)
  have cyc:∀u v w:Pt,u∈Hn M a->v∈Hn M a->w∈Hn M a->G7 (Gm a) (Gj u.c v.c w.c)=G7 (Gm a) (Gj v.c w.c u.c):=λu v w hu hv hw=>by
   rw[S.o _ (Tr hu) _ (Tr hv) _ (Tr hw),S.o _ (Tr hv) _ (Tr hw) _ (Tr hu)];congr 1;unfold H6;grind
  have mx:=Qa hx;have my:=Qa hy;have mz:=Qa hz;rcases(show(Hn M a).length=3\/(Hn M a).length=4 by omega)with e|e
  ·obtain⟨rfl,rfl,rfl⟩:k=0/\j=1/\i=2:=Fj;exact tn hz (by rw[e];exact hy) (by rw[e];exact hx)
  ·rcases(show(k=0/\j=1/\i=2)\/(k=0/\j=1/\i=3)\/(k=0/\j=2/\i=3)\/(k=1/\j=2/\i=3) by omega)with⟨rfl,rfl,rfl⟩|⟨rfl,rfl,rfl⟩|⟨rfl,rfl,rfl⟩|⟨rfl,rfl,rfl⟩
   ·exact tn hz (by rw[e];exact hy) (by rw[e];exact hx)
   ·rw[cyc _ _ _ mz my mx,cyc _ _ _ my mx mz];exact tn hx (by rw[e];exact hz) (by rw[e];exact hy)
   ·rw[cyc _ _ _ mz my mx];exact tn hy (by rw[e];exact hx) (by rw[e];exact hz)
   ·exact tn hz (by rw[e];exact hy) (by rw[e];exact hx)
end Orq
namespace Orr
open Go Go.Proofs Tryz Orq
set_option maxRecDepth 10000
theorem ozM{P:Program}[Mo P]{n:Nat}{Q:Exit->Sg->Fe->Prop}{L L':Sg}{B B':Fe}(d off T sz:Nat){it:List It}(hs:Tz it=true)(h:aK (P:=P) d L B [.oc d off T sz]=some (L',B',[],[]))(k:AK P n Q it L' B'):AK P n Q it L B:=AK.sub (OM h EqOk.nil) hs k
theorem kZ{k:Crv}(hk:Sc k):U3 195 [.agg (cl k)] [.one (.row (VN (JS k)))]:=by
 have ok:=RB hk.n hk.c;have l1:=Pm k.x k.x;have l2:=Pm k.y k.y;have:=hk.c.lx;have:=hk.c.ly;have bx:Bd 258 (Hg k.x k.x):=Mv (u:=2) hk.c.x hk.c.x Fj;have by_:Bd 258 (Hg k.y k.y):=Mv (u:=2) hk.c.y hk.c.y Fj;have c1:=M6 (p:=k.x) (c:=k.d) Fj (Fz hk.c.x Fl) (Qc hk.c.d Fl);have c2:=M6 (p:=k.y) (c:=k.d) Fj (Fz hk.c.y Fl) (Qc hk.c.d Fl);have c3:=US (p:=k.x) (q:=k.x) hk.n.1 hk.n.1 Fj Fj hk.c.x hk.c.x Fl;have c4:=US (p:=k.y) (q:=k.y) hk.n.2.1 hk.n.2.1 Fj Fj hk.c.y hk.c.y Fl;have c5:=EJ (p:=Hg k.x k.x) (q:=Hg k.y k.y) Fj Fj (Fz bx Fl) (Fz by_ Fl);have c6:=Nj (Fy k.d) (Fy k.d) (Qc hk.c.d Fl) (Qc hk.c.d Fl);have hl:∀p∈JS k,p.length≤1000000:=λp hp=>by
  obtain⟨j,hj⟩:=Zx hp;have h1:=ok.2 j p hj;have:[2,2,4,0].getD j 0<=4:=by
   match j with
   | 0=>decide
   | 1=>decide
   | 2=>decide
   | 3=>decide
   |j+4=>simp
  omega
 have cd:=Qg9 (r:=JS k) (λp hp=>(ok.1 p hp).1) (λp hp=>Fz (ok.1 p hp).2 Fl) hl (by show 4<=1000;decide);exact Uy func195 rfl [.k (Ep hk.n (hk.c.mono Fl Fl)),.k c1,.k c2,.k c3,.k c4,.k c5,.k c6,.k cd] rfl
theorem rF{a b c d:Crv}(ha:Sc a)(hb:Sc b)(hc:Sc c)(hd:Sc d):U3 144 [.agg (cl a),.agg (cl b),.agg (cl c),.agg (cl d)] [pr (To a b c d)]:=by
 have cd:=Qu0 Fl (k:=4) (ds:=[2,2,4,0]) Fl rfl Fl (nF ha.n hb.n hc.n hd.n ha.c hb.c hc.c hd.c);exact Uy func144 rfl [.k (kZ ha),.k (kZ hb),.k (kZ hc),.k (kZ hd),.k cd] rfl
set_option maxHeartbeats 1000000 in
theorem Qp7{a b c d:Pt}{t:Tm}(ha:Sc a.c)(hb:Sc b.c)(hc:Sc c.c)(hd:Sc d.c)(ht:Va t):U3 165 [.oi 4,.agg (ta t),.one (.row [Ge a,Ge b,Ge c,Ge d])] [.agg (Lt (jP (Gm t) a b c d)),.oi 0]:=by
 have hp:=(kR ha hb hc hd).dp;have e:Lt (jP (Gm t) a b c d)=[.int .i64 4,.int .i64 a.id,.int .i64 b.id,.int .i64 c.id,.int .i64 d.id,pl (To a.c b.c c.c d.c),.int .i64 (G7 (Gm t) (To a.c b.c c.c d.c))]:=by rw[jP]
 rw[e];have cg:=JH hp ht;have cf:=rF ha hb hc hd;generalize To a.c b.c c.c d.c=F at *;refine G5 func165 rfl ?_;refine Uv [.k Qeg,.f rfl] rfl ?_;refine U0 (S:=Nat) 3 (λL1 i=>(22,.v (.oi i))::L1) (λi=>[.blk 75 (ta t),.blk 168 zCt,.blk 168 [.int .i64 4,.int .i64 (if 1<=i then a.id else 0),.int .i64 (if 2<=i then b.id else 0),.int .i64 (if 3<=i then c.id else 0),.int .i64 (if 4<=i then d.id else 0),.nils,.int .i64 0]]) (λi=>4-i) (λi=>i<=4) 0 (Qg _) rfl rfl λi hi=>?_
 rcases(show i=0\/i=1\/i=2\/i=3\/i=4 by omega)with rfl|rfl|rfl|rfl|rfl
 ·refine Uv [.t rfl,.x (i:=0) (xs:=Ge a) rfl,.i 0] rfl ?_ Fw;exact rd 1 Fj Fj rfl
 ·refine Uv [.t rfl,.x (i:=1) (xs:=Ge b) rfl,.i 1] rfl ?_ Fw;exact rd 2 Fj Fj rfl
 ·refine Uv [.t rfl,.x (i:=2) (xs:=Ge c) rfl,.i 2] rfl ?_ Fw;exact rd 3 Fj Fj rfl
 ·refine Uv [.t rfl,.x (i:=3) (xs:=Ge d) rfl,.i 3] rfl ?_ Fw;exact rd 4 Fj Fj rfl
 ·exact Ux [.f rfl,.f rfl,.f rfl,.f rfl,.t rfl,.x (i:=0) (xs:=Ge a) rfl,.x (i:=1) (xs:=Ge b) rfl,.x (i:=2) (xs:=Ge c) rfl,.x (i:=3) (xs:=Ge d) rfl,.k cf,.k cg] rfl
end Orr
namespace Orq
open Orr Go
def p3j(W:List Pt)(x:Pt)(i j:Nat):List P3:=Ek i W++(Rz j (W.drop (i+1))).map (λm=>(x,m))
def RL(W:List Pt)(x y:Pt)(i j k:Nat):List P3:=Ek i W++(Rz j (W.drop (i+1))++(((W.drop (i+1)).drop (j+1)).take k).map (λz=>(y,z))).map (λm=>(x,m))
theorem RD(W:List Pt)(x:Pt)(i:Nat):p3j W x i 0=Ek i W:=by simp[p3j,Rz]
theorem RA(W:List Pt)(x y:Pt)(i j:Nat):RL W x y i j 0=p3j W x i j:=by simp[RL,p3j]
variable{W:List Pt}{x y:Pt}{i j k:Nat}
theorem RE{z:Pt}(h:((W.drop (i+1)).drop (j+1))[k]? = some z):RL W x y i j (k+1)=RL W x y i j k++[(x,y,z)]:=by
 unfold RL;rw[Xb,h];simp
theorem DU(hy:(W.drop (i+1))[j]? = some y)(hk:((W.drop (i+1)).drop (j+1)).length<=k):RL W x y i j k=p3j W x i (j+1):=by
 unfold RL p3j;rw[Qo hk,Do _ j y hy]
theorem DW(hx:W[i]? = some x)(hj:j=(W.drop (i+1)).length):p3j W x i j=Ek (i+1) W:=by
 unfold p3j;rw[hj,ZA W i x hx];rfl
theorem fK(h:i=W.length):Ek i W=H7 W:=by rw[h];rfl
def p4j(W:List Pt)(x:Pt)(i j:Nat):List P4:=Ia i W++(Ek j (W.drop (i+1))).map (λm=>(x,m))
def p4k(W:List Pt)(x y:Pt)(i j k:Nat):List P4:=Ia i W++(p3j (W.drop (i+1)) y j k).map (λm=>(x,m))
def p4m(W:List Pt)(x y z:Pt)(i j k m:Nat):List P4:=Ia i W++(RL (W.drop (i+1)) y z j k m).map (λm=>(x,m))
theorem Qmd(W:List Pt)(x:Pt)(i:Nat):p4j W x i 0=Ia i W:=by simp[p4j,Ek]
theorem Qme(W:List Pt)(x y:Pt)(i j:Nat):p4k W x y i j 0=p4j W x i j:=by unfold p4k p4j;rw[RD]
theorem Qmg(W:List Pt)(x y z:Pt)(i j k:Nat):p4m W x y z i j k 0=p4k W x y i j k:=by unfold p4m p4k;rw[RA]
theorem Qmf{z u:Pt}{m:Nat}(h:(((W.drop (i+1)).drop (j+1)).drop (k+1))[m]? = some u):p4m W x y z i j k (m+1)=p4m W x y z i j k m++[(x,y,z,u)]:=by
 unfold p4m;rw[RE h];simp
theorem Qs1{z:Pt}{m:Nat}(hz:((W.drop (i+1)).drop (j+1))[k]? = some z)(hm:(((W.drop (i+1)).drop (j+1)).drop (k+1)).length<=m):p4m W x y z i j k m=p4k W x y i j (k+1):=by
 unfold p4m p4k;rw[DU hz hm]
theorem Qs0(hy:(W.drop (i+1))[j]? = some y)(hk:k=((W.drop (i+1)).drop (j+1)).length):p4k W x y i j k=p4j W x i (j+1):=by
 unfold p4k p4j;rw[DW hy hk]
theorem Qsz(hx:W[i]? = some x)(hj:j=(W.drop (i+1)).length):p4j W x i j=Ia (i+1) W:=by
 unfold p4j;rw[hj,MH W i x hx];rfl
theorem Qth(h:i=W.length):Ia i W=Av W:=by rw[h];rfl
theorem XO:∀(k:Nat) (l:List Pt),∃r,G9 l=Rz k l++r
 | 0,l=>⟨G9 l,rfl⟩
 |k+1,[]=>⟨[],rfl⟩
 |
  k+1,x::l=>by
  obtain⟨r,h⟩:=XO k l;exact⟨r,by show l.map _++Rz l.length l=l.map _++Rz k l++r;rw[show Rz l.length l=G9 l from rfl,h,Za]⟩
theorem TL:∀(k:Nat) (l:List Pt),∃r,H7 l=Ek k l++r
 | 0,l=>⟨H7 l,rfl⟩
 |k+1,[]=>⟨[],rfl⟩
 |
  k+1,x::l=>by
  obtain⟨r,h⟩:=TL k l;exact⟨r,by show(G9 l).map _++Ek l.length l=(G9 l).map _++Ek k l++r;rw[show Ek l.length l=H7 l from rfl,h,Za]⟩
theorem mM:∀(k:Nat) (l:List Pt),∃r,Av l=Ia k l++r
 | 0,l=>⟨Av l,rfl⟩
 |k+1,[]=>⟨[],rfl⟩
 |
  k+1,x::l=>by
  obtain⟨r,h⟩:=mM k l;exact⟨r,by show(H7 l).map _++Ia l.length l=(H7 l).map _++Ia k l++r;rw[show Ia l.length l=Av l from rfl,h,Za]⟩
theorem uV(h6:W.length<=6)(hx:W[i]? = some x)(hy:(W.drop (i+1))[j]? = some y):(RL W x y i j k).length<=20:=by
 have h0:=(JY h6).1;obtain⟨r,hr⟩:=TL (i+1) W;rw[ZA W i x hx]at hr;obtain⟨r2,hr2⟩:=XO (j+1) (W.drop (i+1));rw[Do _ j y hy]at hr2;have e1:=congrArg List.length hr;have e2:=congrArg List.length hr2;have e3:(((W.drop (i+1)).drop (j+1)).take k).length<=((W.drop (i+1)).drop (j+1)).length:=by rw[Qq];exact Nat.min_le_right _ _
 unfold RL;simp only[Qu,Ze]at e1 e2 ⊢;omega
theorem Qs2(h6:W.length<=6){z:Pt}{m:Nat}(hx:W[i]? = some x)(hy:(W.drop (i+1))[j]? = some y)(hz:((W.drop (i+1)).drop (j+1))[k]? = some z):(p4m W x y z i j k m).length<=15:=by
 have h0:=(JY h6).2;obtain⟨r,hr⟩:=mM (i+1) W;rw[MH W i x hx]at hr;obtain⟨r1,hr1⟩:=TL (j+1) (W.drop (i+1));rw[ZA _ j y hy]at hr1;obtain⟨r2,hr2⟩:=XO (k+1) ((W.drop (i+1)).drop (j+1));rw[Do _ k z hz]at hr2;have e1:=congrArg List.length hr;have e2:=congrArg List.length hr1;have e4:=congrArg List.length hr2;have e3:((((W.drop (i+1)).drop (j+1)).drop (k+1)).take m).length<=(((W.drop (i+1)).drop (j+1)).drop (k+1)).length:=by rw[Qq];exact Nat.min_le_right _ _
 unfold p4m RL;simp only[Qu,Ze]at e1 e2 e4 ⊢;omega
theorem Qfb{sg:U6->Int}(hg:∀p,-1<=G7 sg p/\G7 sg p<=1)(ps:List P3):gR (Al (Om sg ps)):=by
 have key:∀(ps:List P3) (M:Ni),gR M->gR ((Om sg ps).foldl (λM e=>Cq M e.1 (.int .i64 e.2)) M):=by
  intro ps
  induction ps with
  |nil=>intro M h;exact h
  |cons m ps ih=>intro M h;exact ih _ (Qld h (hg _))
 exact key ps [] Qlc
theorem cF(sg:U6->Int)(T:Ni)(ps:List P4):WA (O3 T (JQ sg ps)):=by
 have key:∀(ps:List P4) (F:Ni),WA F->WA ((JQ sg ps).foldl (λF e=>NT T e.2 e.1 F) F):=by
  intro ps
  induction ps with
  |nil=>intro M h;exact h
  |cons m ps ih=>intro M h;exact ih _ (cU h)
 exact key ps [] Qdo
theorem yK(p:U6)(q:Rat):-1<=Rp p q/\Rp p q<=1:=by
 rw[M8];unfold Gn
 split
 ·exact⟨Fl,Fl⟩
 ·split <;> exact⟨Fl,Fl⟩
theorem Qnt{p:U6}{a:Tm}{s:Int}(h:UV p a=some s):-1<=s/\s<=1:=by
 unfold UV at h
 split at h
 ·injection h with h;subst h;exact⟨Fl,Fl⟩
 ·split at h
  ·injection h with h;subst h;exact yK _ _
  ·obtain⟨g,_,h⟩:=Qe.1 h
   split at h
   ·injection h with h;subst h;exact⟨Fl,Fl⟩
   ·obtain⟨c,_,h⟩:=Qe.1 h;obtain⟨x,_,h⟩:=Qe.1 h;injection h with h;subst h;exact yK _ _
theorem I4(a:Tm)(p:U6):-1<=G7 (Gm a) p/\G7 (Gm a) p<=1:=by
 have hs:∀p,-1<=Gm a p/\Gm a p<=1:=λp=>by
  unfold Gm;cases h:UV p a with
  |none=>exact⟨Fl,Fl⟩
  |some s=>exact Qnt h
 have key:∀(k:Nat) (p:U6),-1<=Ss (Gm a) k p/\Ss (Gm a) k p<=1:=by
  intro k
  induction k with
  |zero=>intro p;exact⟨by simp[Ss],by simp[Ss]⟩
  |
   succ k ih =>
   intro p;simp only[Ss]
   split
   ·exact⟨Fl,Fl⟩
   ·split
    ·exact ih _
    ·exact hs p
 exact key _ p
end Orq
namespace Orr
open Go Go.Proofs Tryz Orq
set_option maxRecDepth 10000
theorem XV{a b c:Pt}{t:Tm}(ha:Sc a.c)(hb:Sc b.c)(hc:Sc c.c)(ht:Va t):U3 74 [.agg (ta t),.agg (Ge a),.agg (Ge b),.agg (Ge c)] [.oi (G7 (Gm t) (Gj a.c b.c c.c))] :=
 Uy func74 rfl [.k (EX ha hb hc),.k (JH (QN ha hb hc).dp ht)] rfl
def Qom(sg:U6->Int)(a b c:Pt):Bool:=decide (G7 sg (Gj a.c b.c c.c)=0) && ((H8 sg a c && H8 sg c b) || (H8 sg b c && H8 sg c a))
theorem bJ{sg:U6->Int}{a b c:Pt}:Qom sg a b c=true↔Qgj sg a b c:=by
 unfold Qom Qgj;simp
theorem Qeb{a b c:Pt}{t:Tm}(ha:Sc a.c)(hb:Sc b.c)(hc:Sc c.c)(ht:Va t):U3 141 [.agg (ta t),.agg (Ge a),.agg (Ge b),.agg (Ge c)] [.one (.bool (Qom (Gm t) a b c))]:=by
 have c1:=XV ha hb hc ht;have c2:=Iu ha hc ht;have c3:=Iu hc hb ht;have c4:=Iu hb hc ht;have c5:=Iu hc ha ht;unfold Qom;generalize H8 (Gm t) a c=x1 at *;generalize H8 (Gm t) c b=x2 at *;generalize H8 (Gm t) b c=x3 at *;generalize H8 (Gm t) c a=x4 at *;generalize G7 (Gm t) (Gj a.c b.c c.c)=o at *;by_cases h0:o=0
 ·rw[decide_eq_true h0];cases x1 with
  |
   false =>
   cases x3 with
   |false=>exact Uy func141 rfl [.k c1,.g 15 true (decide_eq_true h0),.k c2,.g 20 false rfl,.g 26 false rfl,.k c4,.g 31 false rfl] rfl
   |true=>exact Uy func141 rfl [.k c1,.g 15 true (decide_eq_true h0),.k c2,.g 20 false rfl,.g 26 false rfl,.k c4,.g 31 true rfl,.k c5] rfl
  |
   true =>
   cases x2 with
   |true=>exact Uy func141 rfl [.k c1,.g 15 true (decide_eq_true h0),.k c2,.g 20 true rfl,.k c3,.g 26 true rfl] rfl
   |
    false =>
    cases x3 with
    |false=>exact Uy func141 rfl [.k c1,.g 15 true (decide_eq_true h0),.k c2,.g 20 true rfl,.k c3,.g 26 false rfl,.k c4,.g 31 false rfl] rfl
    |true=>exact Uy func141 rfl [.k c1,.g 15 true (decide_eq_true h0),.k c2,.g 20 true rfl,.k c3,.g 26 false rfl,.k c4,.g 31 true rfl,.k c5] rfl
 ·rw[decide_eq_false h0];exact Uy func141 rfl [.k c1,.g 15 false (decide_eq_false h0)] rfl
def Qk7(sg:U6->Int)(a b c x:Pt):Bool := !decide (G7 sg (Gj a.c b.c c.c)=0) && (decide (0<=G7 sg (Gj a.c b.c x.c)*G7 sg (Gj a.c b.c c.c)) && (decide (0<=G7 sg (Gj b.c c.c x.c)*G7 sg (Gj a.c b.c c.c)) && decide (0<=G7 sg (Gj c.c a.c x.c)*G7 sg (Gj a.c b.c c.c))))
theorem sP{sg:U6->Int}{a b c x:Pt}:Qk7 sg a b c x=true↔UO sg a b c x:=by
 unfold Qk7 UO;simp
theorem Qea{a b c x:Pt}{t:Tm}(ha:Sc a.c)(hb:Sc b.c)(hc:Sc c.c)(hx:Sc x.c)(ht:Va t):U3 142 [.agg (ta t),.agg (Ge a),.agg (Ge b),.agg (Ge c),.agg (Ge x)] [.one (.bool (Qk7 (Gm t) a b c x))]:=by
 have c1:=XV ha hb hc ht;have c2:=XV ha hb hx ht;have c3:=XV hb hc hx ht;have c4:=XV hc ha hx ht;have b1:=I4 t (Gj a.c b.c c.c);have b2:=I4 t (Gj a.c b.c x.c);have b3:=I4 t (Gj b.c c.c x.c);have b4:=I4 t (Gj c.c a.c x.c);unfold Qk7;generalize G7 (Gm t) (Gj a.c b.c c.c)=o at *;generalize G7 (Gm t) (Gj a.c b.c x.c)=o2 at *;generalize G7 (Gm t) (Gj b.c c.c x.c)=o3 at *;generalize G7 (Gm t) (Gj c.c a.c x.c)=o4 at *;have m2:=ZV b2 b1;have m3:=ZV b3 b1;have m4:=ZV b4 b1;by_cases h0:o=0
 ·rw[decide_eq_true h0];exact Uy func142 rfl [.k c1,.t (decide_eq_true h0)] rfl
 ·rw[decide_eq_false h0];by_cases h2:0<=o2*o
  ·rw[decide_eq_true h2];by_cases h3:0<=o3*o
   ·rw[decide_eq_true h3];exact Uy func142 rfl [.k c1,.f (decide_eq_false h0),.k c2,.g 27 true (decide_eq_true h2),.k c3,.g 37 true (decide_eq_true h3),.k c4] rfl rfl (by simp[Gd,IntKind.bits] <;> omega)
   ·rw[decide_eq_false h3];exact Uy func142 rfl [.k c1,.f (decide_eq_false h0),.k c2,.g 27 true (decide_eq_true h2),.k c3,.g 37 false (decide_eq_false h3)] rfl rfl (by simp[Gd,IntKind.bits] <;> omega)
  ·rw[decide_eq_false h2];exact Uy func142 rfl [.k c1,.f (decide_eq_false h0),.k c2,.g 27 false (decide_eq_false h2),.g 37 false rfl] rfl rfl (by simp[Gd,IntKind.bits] <;> omega)
section
variable{l:List Pt}{t:Tm}{x:Pt}
def Gd1(sg:U6->Int)(x:Pt)(l:List Pt)(j:Nat)(a b:Pt):Prop:=a.id≠x.id->b.id≠x.id->¬Qgj sg a b x/\∀(k:Nat) (c:Pt),k<j->l[k]? = some c->c.id≠x.id->¬UO sg a b c x
theorem Qd9(hs:∀p∈l,Sc p.c)(hx:Sc x.c)(hn:l.length≤1000000)(ht:Va t):U3 73 [.agg (ta t),.agg (Ge x),.one (pts l)] [.one (.bool (cd0 (NJ (Gm t) x l)))]:=by
 have hcl:=Ha l;show U3 73 [.agg (ta t),.agg (Ge x),.one (.row (Fx l))] _;refine G5 func73 rfl ?_;refine Uv [] rfl ?_;refine U0 (S:=Nat) 2 (λL1 i=>(15,.v (.oi i))::L1) (λ_=>[rJ t,LH x]) (λi=>l.length-i) (λi=>i<=l.length/\∀(i' j:Nat) (a b:Pt),i'<i->j<i'->l[i']? = some a->l[j]? = some b->Gd1 (Gm t) x l j a b) 0 ⟨Qg _,λi' _ _ _ h=>absurd h (Y5 i')⟩ rfl rfl λi ⟨hi,g1⟩=>?_
 by_cases h:i<l.length
 ·obtain⟨a,ha⟩:=gxE (l:=l) (i:=i) h;have sa:=hs a (Qa ha);refine go tt [.T,.x (Hf ha),.i i] rfl Fv ?_;have hcl2:((Fx l).take i).length=i:=by rw[Qq];omega
  refine U0 (S:=Nat) 3 (λL1 j=>(24,.v (.oi j))::L1) (λ_=>[rJ t,LH x,LH a]) (λj=>i-j) (λj=>j<=i/\∀(j':Nat) (b:Pt),j'<j->l[j']? = some b->Gd1 (Gm t) x l j' a b) 0 ⟨Qg _,λj' _ h=>absurd h (Y5 j')⟩ rfl rfl λj ⟨hj,g2⟩=>?_
  by_cases h':j<i
  ·obtain⟨b,hb⟩:=gxE (l:=l) (i:=j) Fj;have sb:=hs b (Qa hb);have hgb:((Fx l).take i)[j]? = some (Ge b):=by rw[Jj h'];exact Hf hb
   have nxt:Gd1 (Gm t) x l j a b->∀(j':Nat) (b':Pt),j'<j+1->l[j']? = some b'->Gd1 (Gm t) x l j' a b':=λhg j' b' hj' hb'=>by
    by_cases e:j'=j
    ·subst e;rw[hb]at hb';injection hb' with hb';subst hb';exact hg
    ·exact g2 j' b' Fj hb'
   by_cases e1:a.id=x.id
   ·refine go tt [.T,.x hgb,.g 34 true (decide_eq_true e1),.t rfl] rfl Fv ?_;exact rd (j+1) Fj ⟨h',nxt λh=>absurd e1 h⟩ rfl
   by_cases e2:b.id=x.id
   ·refine go tt [.T,.x hgb,.g 34 false (decide_eq_false e1),.t (decide_eq_true e2)] rfl Fv ?_;exact rd (j+1) Fj ⟨h',nxt λ_ h=>absurd e2 h⟩ rfl
   have cw:=Qeb sa sb hx ht;by_cases hw:Qom (Gm t) a b x=true
   ·have hf:cd0 (NJ (Gm t) x l)=false:=Qva λhc=>(hc i j a b h' ha hb e1 e2).1 (bJ.1 hw)
    rw[hf];exact Ux [.T,.x hgb,.g 34 false (decide_eq_false e1),.f (decide_eq_false e2),.k cw,.t hw] rfl rfl Fv
   have hcl3:((Fx l).take j).length=j:=by rw[Qq];omega
   refine go tt [.T,.x hgb,.g 34 false (decide_eq_false e1),.f (decide_eq_false e2),.k cw,.f (by simpa using hw),.i j] rfl Fv ?_;refine U0 (S:=Nat) 4 (λL1 k=>(50,.v (.oi k))::L1) (λ_=>[rJ t,LH x,LH a,LH b]) (λk=>j-k) (λk=>k<=j/\∀(k':Nat) (c:Pt),k'<k->l[k']? = some c->c.id≠x.id->¬UO (Gm t) a b c x) 0 ⟨Qg _,λk' _ h=>absurd h (Y5 k')⟩ rfl rfl λk ⟨hk,g3⟩=>?_
   by_cases h'':k<j
   ·obtain⟨c,hc⟩:=gxE (l:=l) (i:=k) Fj;have sc:=hs c (Qa hc);have hgc:((Fx l).take j)[k]? = some (Ge c):=by rw[Jj h''];exact Hf hc
    have nxt3:(c.id≠x.id->¬UO (Gm t) a b c x)->∀(k':Nat) (c':Pt),k'<k+1->l[k']? = some c'->c'.id≠x.id->¬UO (Gm t) a b c' x:=λhg k' c' hk' hc'=>by
     by_cases e:k'=k
     ·subst e;rw[hc]at hc';injection hc' with hc';subst hc';exact hg
     ·exact g3 k' c' Fj hc'
    by_cases e3:c.id=x.id
    ·refine go tt [.T,.x hgc,.g 59 false (decide_eq_false (λh=>h e3)),.f rfl] rfl Fv ?_;exact rd (k+1) Fj ⟨h'',nxt3 λh=>absurd e3 h⟩ rfl
    have ci:=Qea sa sb sc hx ht;by_cases hin:Qk7 (Gm t) a b c x=true
    ·have hf:cd0 (NJ (Gm t) x l)=false:=Qva λhcn=>(hcn i j a b h' ha hb e1 e2).2 k c h'' hc e3 (sP.1 hin)
     rw[hf];exact Ux [.T,.x hgc,.g 59 true (decide_eq_true e3),.k ci,.t hin] rfl rfl Fv
    ·refine go tt [.T,.x hgc,.g 59 true (decide_eq_true e3),.k ci,.f (by simpa using hin)] rfl Fv ?_;exact rd (k+1) Fj ⟨h'',nxt3 λ_ h=>hin (sP.2 h)⟩ rfl
   ·obtain rfl:k=j:=Fj;refine go tt [.F] rfl Fv ?_;exact rd (k+1) Fj ⟨h',nxt λ_ _=>⟨λh=>hw (bJ.2 h),g3⟩⟩ rfl
  ·obtain rfl:j=i:=Fj;refine go tt [.F] rfl Fv ?_;refine rd (j+1) Fj ⟨h,λi' j' a' b' hi' hj' ha' hb'=>?_⟩ rfl;by_cases e:i'=j
   ·subst e;rw[ha]at ha';injection ha' with ha';subst ha';exact g2 j' b' hj' hb'
   ·exact g1 i' j' a' b' Fj hj' ha' hb'
 ·have ht:cd0 (NJ (Gm t) x l)=true:=Q1g λi' j a b hj ha hb=>g1 i' j a b (by have:=(Qd.1 ha).1;omega) hj ha hb
  rw[ht];exact Ux [.F] rfl
end
end Orr
namespace Orr
open Go Go.Proofs Tryz Orq
def qA(sg:U6->Int)(W:List Pt)(m:P3):Bool:=decide (G7 sg (Gj m.1.c m.2.1.c m.2.2.c)≠0) && W.all λd=>decide (d.id=m.1.id\/d.id=m.2.1.id\/d.id=m.2.2.id) || !decide (0<G7 sg (Gj m.1.c m.2.1.c m.2.2.c)*G7 sg (To m.1.c m.2.1.c m.2.2.c d.c))
variable{W:List Pt}
theorem Qua(h4:W.length<=4){m:P3}(hm:m∈H7 W):∃i j k:Nat,i<j/\j<k/\W[i]? = some m.1/\W[j]? = some m.2.1/\W[k]? = some m.2.2:=by
 match W,h4 with
 | [],_=>cases hm
 | [a],_=>cases hm
 | [a,b],_=>cases hm
 |
  [a,b,c],_ =>
  have e1:H7 [a,b,c]=[(a,b,c)]:=rfl;rw[e1,Ql]at hm;subst hm;exact⟨0,1,2,Fl,Fl,rfl,rfl,rfl⟩
 |
  [a,b,c,d],_ =>
  have e1:H7 [a,b,c,d]=[(a,b,c),(a,b,d),(a,c,d),(b,c,d)]:=rfl;rw[e1]at hm;simp only[Qk,Jk,or_false]at hm;rcases hm with rfl|rfl|rfl|rfl
  ·exact⟨0,1,2,Fl,Fl,rfl,rfl,rfl⟩
  ·exact⟨0,1,3,Fl,Fl,rfl,rfl,rfl⟩
  ·exact⟨0,2,3,Fl,Fl,rfl,rfl,rfl⟩
  ·exact⟨1,2,3,Fl,Fl,rfl,rfl,rfl⟩
theorem Qay{W:List Pt}{q:Rat}{o:Int}{i j k:Nat}:∀n,qD W q o i j k n=0↔∀v,v<n->inA W q o i j k v=false
 | 0=>⟨λ_ v h=>absurd h (Y5 v),λ_=>rfl⟩
 |
  n+1=>by
  have ih:=Qay (W:=W) (q:=q) (o:=o) (i:=i) (j:=j) (k:=k) n;cases h:inA W q o i j k n with
  |
   true =>
   rw[Qxp h];exact⟨λh'=>Fj,λh'=>by rw[h' n Fj]at h;cases h⟩
  |
   false =>
   rw[Qxo h,ih];refine⟨λh' v hv=>?_,λh' v hv=>h' v Fj⟩;by_cases e:v=n
   ·rw[e];exact h
   ·exact h' v Fj
theorem Qrz{q:Rat}(hW:W.length<=4)(hs:Ry W){m:P3}(hm:m∈H7 W):IH (iS W q) (Qe3 W q) m=qA (λp=>Rp p q) W m:=by
 obtain⟨i,j,k,hij,hjk,hi,hj,hk⟩:=Qua hW hm;obtain⟨x,y,z⟩:=m;dsimp only at hi hj hk;rw[emp hW hs hij hjk hi hj hk];have hd:gG W:=hs.imp λh=>Fj
 have idx:∀{u v:Nat} {a b:Pt},W[u]? = some a->W[v]? = some b->(a.id=b.id↔u=v):=λ{u v a b} ha hb=>by
  constructor
  ·intro e;have hu:=(Qd.1 ha);have hv:=(Qd.1 hb);obtain⟨hu,eu⟩:=hu;obtain⟨hv,ev⟩:=hv;have hp:=X2.1 hd;rcases Vb u v with h|h|h
   ·exact absurd (by rw[eu,ev];exact e) (hp u v hu hv h)
   ·exact h
   ·exact absurd (by rw[eu,ev];exact e.symm) (hp v u hv hu h)
  ·rintro rfl
   rw[ha]at hb;injection hb with hb;rw[hb]
 unfold qA;dsimp only;congr 1;rw[Wo,decide_eq_true_eq,Qay,Jc];constructor
 ·intro h d hdm;obtain⟨v,hv⟩:=Zx hdm;have:=h v (Qd.1 hv).1;unfold inA Qar at this;rw[hi,hj,hk,hv]at this;dsimp only at this;rw[Yw,decide_eq_true_eq,Vr,decide_eq_false_iff_not];rw[Bool.and_eq_false_iff,decide_eq_false_iff_not,decide_eq_false_iff_not]at this;rcases this with h1|h1
  ·left;rw[idx hv hi,idx hv hj,idx hv hk];omega
  ·exact .inr h1
 ·intro h v hv;obtain⟨d,hdv⟩:=gxE (l:=W) (i:=v) hv;have:=h d (Qa hdv);unfold inA Qar;rw[hi,hj,hk,hdv];dsimp only;rw[Yw,decide_eq_true_eq,Vr,decide_eq_false_iff_not]at this;rw[Bool.and_eq_false_iff,decide_eq_false_iff_not,decide_eq_false_iff_not];rcases this with h1|h1
  ·left;rw[idx hdv hi,idx hdv hj,idx hdv hk]at h1;omega
  ·exact .inr h1
end Orr
namespace Orr
open Go Go.Proofs Tryz Orq
set_option maxRecDepth 10000
def RJ(M:List Pt)(x:Pt):Bool:=M.all λy=>decide (x.id<=y.id) || !Nv x.c y.c
theorem Qgi(A:List Pt)(x:Pt):Gv (A++[x])=Pq (Gv A) x:=by unfold Gv;rw[List.foldl_append];rfl
theorem vF:∀(n:Nat) {A:List Pt},A.length=n->Ry A->A.filter (RJ A)=Gv A
 |
  0,A,h,_=>by
  obtain rfl:=Qi h;rfl
 |
  n+1,A,h,hs=>by
  obtain⟨B,x,rfl⟩:∃B x,A=B++[x]:=⟨A.dropLast,A.getLast (by intro e;rw[e]at h;cases h),(Vg _).symm⟩;obtain⟨s1,_,s3⟩:=Zp.1 hs;have ih:=vF n (A:=B) (by simpa using h) s1;have hlt:∀y∈B,y.id<x.id:=λy hy=>s3 y hy x Fp
  rw[Qgi,Jf];have e1:B.filter (RJ (B++[x]))=Gv B:=by
   rw[<-ih];refine Wb λz hz=>?_
   unfold RJ;rw[Uq];have:decide (z.id<=x.id)=true:=decide_eq_true (by have:=hlt z hz;omega);simp[this]
  rw[e1];have e2:RJ (B++[x]) x = !((Gv B).any λq=>Nv x.c q.c):=by
   unfold RJ;rw[Wo,Jc,Vr,List.any_eq_false];constructor
   ·intro h q hq;have hqB:=Hu hq;have:=h q (Zy _ hqB);have l:=hlt q hqB;rw[Yw,decide_eq_true_eq,Vr]at this;rcases this with h'|h'
    ·omega
    ·rw[h'];decide
   ·intro h y hy;rcases Qp.1 hy with hy|hy
    ·obtain⟨w,hw,hc⟩:=Qok hy;have:=h w hw;rw[hc]at this;rw[Yw,Vr];exact .inr (by simpa using this)
    ·rw[Ql.1 hy];simp
  unfold Pq;by_cases hb:((Gv B).any λq=>Nv x.c q.c)=true
  ·rw[if_pos hb];simp[e2,hb]
  ·rw[if_neg hb];simp[e2,hb]
theorem Qoj{M:List Pt}(hs:Ry M):M.filter (RJ M)=Gv M:=vF _ rfl hs
theorem Qiu{a b:Crv}(ha:Sc a)(hb:Sc b):U3 140 [.agg (cl a),.agg (cl b)] [.one (.bool (Nv a b))] :=
 Uy func140 rfl [.k (Qac ha.n hb.n (ha.c.mono Fl Fl) (hb.c.mono Fl Fl))] rfl
section
variable{M:List Pt}{t:Tm}(hs:Ry M)(hsc:∀p∈M,Sc p.c)(hn:M.length≤1000000)
include hsc hn
include hs in
theorem Qab:U3 72 [.one (pts M)] [.one (pts (Gv M))]:=by
 have hcl:=Ha M;show U3 72 [.one (.row (Fx M))] [.one (.row (Fx (Gv M)))];rw[<-Qoj hs];refine G5 func72 rfl ?_;refine Uv [.o 3 39 5] rfl ?_;refine U0 (S:=Nat) 1 (λL1 i=>(11,.v (.oi i))::(3,.v (.one (.orow 0 5 none)))::L1) (λi=>[.row false 39 5 (Fx ((M.take i).filter (RJ M)))]) (λi=>M.length-i) (λi=>i<=M.length) 0 (Qg _) rfl rfl λi hi=>?_
 by_cases h:i<M.length
 ·obtain⟨x,hx⟩:=gxE (l:=M) (i:=i) h;have sx:=hsc x (Qa hx);have hnx:(M.take (i+1)).filter (RJ M)=(M.take i).filter (RJ M)++(if RJ M x=true then [x]else []):=by
   rw[Jv,hx,K6,Jf];congr 1;cases hb:RJ M x <;> simp[hb]
  obtain⟨O,hO⟩:=nmE ((M.take i).filter (RJ M));have hOl:O.length<=i:=by rw[hO];exact Qc (X8 _ _) (by rw[Qq];omega)
  have hOc:=Ha O;rw[<-hO]at hnx ⊢;refine go tt [.T,.x (Hf hx)] rfl Fv ?_;obtain⟨f,hf⟩:∃f:Nat->Bool,f=λj=>(M.take j).all λy=>decide (x.id<=y.id) || !Nv x.c y.c:=⟨_,rfl⟩
  have f0:f 0=true:=by rw[hf];rfl
  have fl:f M.length=RJ M x:=by rw[hf];simp only[Q6];rfl
  have fs:∀j y,M[j]? = some y->f (j+1)=(f j && (decide (x.id<=y.id) || !Nv x.c y.c)):=λj y hy=>by
   rw[hf];simp only[Jv,hy,K6,Uq];simp
  refine lp (S:=Nat) 2 (λL1 j=>(17,.v (.oi j))::(6,.v (.one (.bool (f j))))::L1) (λ_=>[.row false 39 5 (Fx O),LH x]) (λj=>M.length-j) (λj=>j<=M.length) 0 (Qg _) rfl (λ_ _=>rfl) (by rw[f0];rfl) λj hj=>?_
  by_cases h':j<M.length
  ·obtain⟨y,hy⟩:=gxE (l:=M) (i:=j) h';have sy:=hsc y (Qa hy);have hnf:=fs j y hy;cases hb:f j with
   |
    false =>
    rw[hb,Bool.false_and]at hnf;refine go tt [.T,.x (Hf hy),.g 22 false rfl,.g 28 false rfl] rfl Fv ?_;exact rd (j+1) Fj h' (by rw[hnf];rfl)
   |
    true =>
    rw[hb,Bool.true_and]at hnf;by_cases hle:x.id<=y.id
    ·rw[decide_eq_true hle,Bool.true_or]at hnf;refine go tt [.T,.x (Hf hy),.g 22 true rfl,.g 28 true (decide_eq_true hle)] rfl Fv ?_;exact rd (j+1) Fj h' (by rw[hnf];rfl)
    ·rw[decide_eq_false hle,Bool.false_or]at hnf;refine go tt [.T,.x (Hf hy),.g 22 true rfl,.g 28 false (decide_eq_false hle),.k (Qiu sx sy)] rfl Fv ?_;exact rd (j+1) Fj h' (by rw[hnf];rfl)
  ·obtain rfl:j=M.length:=Fj;rw[fl];cases hb:RJ M x with
   |
    true =>
    rw[hb,if_pos rfl]at hnx;refine go tt [.F,.t rfl] rfl Fv ?_;exact rd (i+1) Fj h (by rw[hnx];simp[Fx];rfl)
   |
    false =>
    rw[hb,if_neg Fl,Zw]at hnx;refine go tt [.F,.f rfl] rfl Fv ?_;exact rd (i+1) Fj h (by rw[hnx];rfl)
 ·obtain rfl:i=M.length:=Fj;exact Ux [.F] rfl (by rw[Q6]) trivial
end
theorem oI{M:List Pt}{t:Tm}{is:U6}(hs:Ry M)(hsc:∀p∈M,Sc p.c)(hn:M.length≤1000)(ht:Va t)(hP:Quv (Gm t) is (Gv M)):U3 29 [.agg (ta t),.one (ids is),.one (pts M)] [.one (.bool true)]:=by
 have cW:=Qab hs hsc Fj;have hWs:∀p∈Gv M,Sc p.c:=λp hp=>hsc p (Hu hp)
 have hWl:=Bh M;have hWd:gG (Gv M):=List.Pairwise.sublist (An M) (hs.imp λh=>Fj);obtain⟨W,hW⟩:=nmE (Gv M);rw[<-hW]at cW hWs hWl hWd hP;obtain⟨e1,out,rfl,h1,h2,h3⟩:=hP;have hAd:gG (cornF (Gm t) W):=List.Pairwise.sublist W0 hWd;have hAm:∀x∈cornF (Gm t) W,x∈W:=λx hx=>(J8.1 hx).1
 obtain⟨g,hg⟩:∃g:Pt->Bool,g=λx=>cd0 (NJ (Gm t) x W):=⟨_,rfl⟩
 obtain⟨A,hA⟩:=nmE (cornF (Gm t) W);have hAg:A=W.filter g:=by rw[hA,hg];rfl
 rw[<-hA]at e1 h1 hAd hAm;have hAl:A.length<=W.length:=by rw[hAg];exact X8 _ _
 have hcl:=Ha W;have hcl':(List.map Ge W).length=W.length:=Fp;have hcA:=Ha A;have hco:=Ha out;have hil:(idl (out.map (·.id))).length=out.length:=by simp[idl]
 rw[Ze]at e1;show U3 29 [.agg (ta t),.one (.row (idl (out.map (·.id)))),.one (.row (Fx M))] [.one (.bool true)];refine G5 func29 rfl ?_;refine Uv [.k cW,.o 8 39 5] rfl ?_;refine U0 (S:=Nat) 2 (λL1 i=>(26,.v (.oi i))::(8,.v (.one (.orow 1 5 none)))::L1) (λi=>[rJ t,.row false 39 5 (Fx ((W.take i).filter g))]) (λi=>W.length-i) (λi=>i<=W.length) 0 (Qg _) rfl rfl λi hi=>?_
 by_cases h:i<W.length
 ·obtain⟨x,hx⟩:=gxE (l:=W) (i:=i) h;have cc:=Qd9 (l:=W) (x:=x) hWs (hWs x (Qa hx)) Fj ht;rw[show cd0 (NJ (Gm t) x W)=g x by rw[hg]]at cc;have hnx:(W.take (i+1)).filter g=(W.take i).filter g++(if g x=true then [x]else []):=by
   rw[Jv,hx,K6,Jf];congr 1;cases hb:g x <;> simp[hb]
  have hOl:((W.take i).filter g).length<=i:=Qc (X8 _ _) (by rw[Qq];omega);have hOc:=Ha ((W.take i).filter g);cases hb:g x with
  |
   true =>
   rw[hb]at cc;rw[hb,if_pos rfl]at hnx;refine go tt [.T,.x (Hf hx),.k cc,.t rfl] rfl Fv ?_;exact rd (i+1) Fj h (by rw[hnx];simp[Fx];rfl)
  |
   false =>
   rw[hb]at cc;rw[hb,if_neg Fl,Zw]at hnx;refine go tt [.T,.x (Hf hx),.k cc,.f rfl] rfl Fv ?_;exact rd (i+1) Fj h (by rw[hnx];rfl)
 obtain rfl:i=W.length:=Fj;rw[Q6,<-hAg];refine Uv [.F,.F,.o 11 39 5] rfl ?_;refine pb 1 rfl rfl ?_;refine U0 (S:=Nat) 3 (λL1 i=>(46,.v (.oi i))::(11,.v (.one (.orow 2 5 none)))::L1) (λi=>[rJ t,.gone,.row false 39 5 (Fx (out.take i))]) (λi=>out.length-i) (λi=>i<=out.length) 0 (Qg _) rfl rfl λi hi=>?_
 have htl:(Fx (out.take i)).length=i:=by rw[Ha,Qq];omega
 by_cases h:i<out.length
 ·obtain⟨x,hx⟩:=gxE (l:=out) (i:=i) h;have hxm:=h1 x (Qa hx);have cf:=GT hAd hxm Fj;have hgi:(idl (out.map (·.id)))[i]? = some [.int .i64 x.id]:=by simp[idl,hx]
  have hnx:out.take (i+1)=out.take i++[x]:=by rw[Jv,hx];rfl
  by_cases h0:i=0
  ·subst h0;have e0:(Fx []).length=0:=rfl;refine go tt [.T,.x hgi,.k cf,.g 59 false rfl,.g 62 false rfl,.f rfl] rfl Fv ?_;exact rd 1 Fj h (by rw[show out.take 1=out.take 0++[x] from hnx];simp[Fx];rfl)
  ·obtain⟨f,hf⟩:=gxE (l:=out) (i:=0) Fj;have hfg:(Fx (out.take i))[0]? = some (Ge f):=Hf (by rw[Jj Fj];exact hf);have cb:=Iu (hWs f (hAm f (h1 f (Qa hf)))) (hWs x (hAm x hxm)) ht;rw[h2 i f x Fj hf hx]at cb;refine go tt [.T,.x hgi,.k cf,.g 59 false rfl,.g 62 true U5,.i 0,.x hfg,.k cb,.f rfl] rfl Fv ?_;exact rd (i+1) Fj h (by rw[hnx];simp[Fx];rfl)
 obtain rfl:i=out.length:=Fj;rw[Q6];refine go tt [.F] rfl Fv ?_;refine pb 2 rfl rfl ?_;refine U0 (S:=Nat) 3 (λL1 i=>(79,.v (.oi i))::L1) (λ_=>[rJ t,.gone,.gone]) (λi=>out.length-i) (λi=>i<=out.length) 0 (Qg _) rfl rfl λi hi=>?_
 have sO:=λ{j:Nat} {y:Pt} (hy:out[j]? = some y)=>hWs y (hAm y (h1 y (Qa hy)))
 by_cases h:i<out.length
 ·obtain⟨x,hx⟩:=gxE (l:=out) (i:=i) h;refine go tt [.T,.x (Hf hx),.i i] rfl Fv ?_;have hcl2:((Fx out).take i).length=i:=by rw[Qq];omega
  refine U0 (S:=Nat) 4 (λL1 j=>(88,.v (.oi j))::L1) (λ_=>[rJ t,.gone,.gone,LH x]) (λj=>i-j) (λj=>j<=i) 0 (Qg _) rfl rfl λj hj=>?_
  by_cases h':j<i
  ·obtain⟨y,hy⟩:=gxE (l:=out) (i:=j) Fj;have hgy:((Fx out).take i)[j]? = some (Ge y):=by rw[Jj h'];exact Hf hy
   have hcl3:((Fx out).take j).length=j:=by rw[Qq];omega
   refine go tt [.T,.x hgy,.i j] rfl Fv ?_;refine U0 (S:=Nat) 5 (λL1 k=>(97,.v (.oi k))::L1) (λ_=>[rJ t,.gone,.gone,LH x,LH y]) (λk=>j-k) (λk=>k<=j) 0 (Qg _) rfl rfl λk hk=>?_
   by_cases h'':k<j
   ·obtain⟨z,hz⟩:=gxE (l:=out) (i:=k) Fj;have hgz:((Fx out).take j)[k]? = some (Ge z):=by rw[Jj h''];exact Hf hz
    have h4:=h3 i j k x y z h'' h' hx hy hz;refine go tt [.T,.x hgz,.k (XV (sO hz) (sO hy) (sO hx) ht),.F] rfl Fv ?_;exact rd (k+1) Fj h'' rfl
   ·refine go tt [.F] rfl Fv ?_;exact rd (j+1) Fj h' rfl
  ·refine go tt [.F] rfl Fv ?_;exact rd (i+1) Fj h rfl
 ·exact Ux [.F] rfl
end Orr
namespace Orr
open Go Go.Proofs Tryz Orq
set_option maxRecDepth 10000
theorem Qqu{l:List Pt}(hn:l.length<=1000000):U3 75 [.one (pts l)] [.one (pts (Nq UA l))]:=by
 have hcl:=Ha l;show U3 75 [.one (.row (Fx l))] [.one (.row (Fx (Nq UA l)))];refine G5 func75 rfl ?_;refine Uv [.o 3 39 5] rfl ?_;refine U0 (S:=Nat) 1 (λL1 i=>(9,.v (.oi i))::(3,.v (.one (.orow 0 5 none)))::L1) (λi=>[.row false 39 5 (Fx (Nq UA (l.take i)))]) (λi=>l.length-i) (λi=>i<=l.length) 0 (Qg _) rfl rfl λi hi=>?_
 by_cases hlt:i<l.length
 ·obtain⟨c,hc⟩:=gxE (l:=l) (i:=i) hlt;have hst:Nq UA (l.take (i+1))=E8 UA (Nq UA (l.take i)) c:=qX hc;obtain⟨O,hO⟩:=nmE (Nq UA (l.take i));have hOl:O.length=i:=by rw[hO,MD,Qq];omega
  rw[<-hO]at hst ⊢;refine Uv [.t (by simp[hcl];omega),.x (Hf hc)] rfl ?_;refine U0 (S:=Nat) 2 (λL1 k=>(6,.v (.oi k))::L1) (λk=>[.row false 39 5 (Fx O),LH c]) id (λk=>k<=O.length/\Li UA O c k=Li UA O c O.length) (Fx O).length ⟨by rw[Ha];exact Qm _,by rw[Ha]⟩ rfl rfl λk ⟨hk,hp⟩=>?_
  have hz:∀y∈[gU],y.length=5:=λy hy=>by rw[Ql.1 hy];rfl
  have h77:∀y∈Fx O++[gU],y.length=5:=λy hy=>by
   rcases Qp.1 hy with hy|hy
   ·exact JZ O y hy
   ·exact hz y hy
  cases k with
  |
   zero =>
   have hp:Li UA O c O.length=0:=by rw[<-hp];rfl
   refine go tt [.g 17 false Fp,.f rfl,.s (sz:=5) hz,.r 36 (eI (b:=((0+1:Nat):Int)) Fp),.i (0+1),.i (0),.s (sz:=5) (λy hy=>h77 y (Qn hy)),.i (O.length),.i (0)] rfl (by simp[Gd,Ha];omega) ?_;exact rd (i+1) Fj hlt (by rw[hst,<-CO (z:=gU) (l2:=(Fx O++[gU]).take ((Fx O++[gU]).length-0)) (k:=0) (m:=O.length) Fj hp Fj (by congr 1;exact Qo Fp)];rfl)
  |
   succ k =>
   obtain⟨x,hx⟩:=gxE (l:=O) (i:=k) Fj;by_cases hlc:c.id<x.id
   ·refine go tt [.g 17 true Fp,.r 22 (eI (b:=(k:Int)) Fp),.i k,.x (Hf hx),.t (decide_eq_true hlc),.r 29 (eI (b:=(k:Int)) Fp)] rfl (by simp[Gd,Ha];omega) ?_;exact rd k Fp ⟨Fj,by rw[<-hp,uR hx (show UA c x=true from decide_eq_true hlc)]⟩ rfl
   ·have hp:Li UA O c O.length=k+1:=by rw[<-hp,OR hx (show UA c x=false from decide_eq_false hlc)]
    refine go tt [.g 17 true Fp,.r 22 (eI (b:=(k:Int)) Fp),.i k,.x (Hf hx),.f (decide_eq_false hlc),.s (sz:=5) hz,.r 36 (eI (b:=((k+1+1:Nat):Int)) Fp),.i (k+1+1),.i (k+1),.s (sz:=5) (λy hy=>h77 y (Qx (Qn hy))),.i (O.length-(k+1)),.i (k+1)] rfl (by simp[Gd,Ha];omega) ?_;exact rd (i+1) Fj hlt (by rw[hst,<-CO (z:=gU) (l2:=((Fx O++[gU]).drop (k+1)).take ((Fx O++[gU]).length-(k+1))) (k:=k+1) (m:=O.length-(k+1)) Fj hp Fj (by congr 1;exact Qo Fp)];rfl)
 ·obtain rfl:i=l.length:=Fj;rw[Q6];exact Ux [.f (by simp[hcl])] rfl
variable{t:Tm}
theorem Qih{W:List Pt}{a b c:Pt}(ha:Sc a.c)(hb:Sc b.c)(hc:Sc c.c)(hs:∀p∈W,Sc p.c)(hn:W.length≤1000000)(ht:Va t):U3 76 [.agg (ta t),.agg (Ge a),.agg (Ge b),.agg (Ge c),.one (pts W)] [.one (.bool (qA (Gm t) W (a,b,c)))]:=by
 have hcl:=Ha W;have c1:=XV ha hb hc ht;have b1:=I4 t (Gj a.c b.c c.c);show U3 76 [.agg (ta t),.agg (Ge a),.agg (Ge b),.agg (Ge c),.one (.row (Fx W))] _;unfold qA;dsimp only;obtain⟨o,ho⟩:=nmE (G7 (Gm t) (Gj a.c b.c c.c));rw[<-ho]at c1 b1 ⊢;obtain⟨f,hf⟩:∃f:Pt->Bool,f=λd=>decide (d.id=a.id\/d.id=b.id\/d.id=c.id) || !decide (0<o*G7 (Gm t) (To a.c b.c c.c d.c)):=⟨_,rfl⟩
 rw[<-hf];refine G5 func76 rfl ?_;refine Uv [.k c1] rfl ?_;refine U0 (S:=Nat) 4 (λL1 i=>(21,.v (.oi i))::L1) (λ_=>[rJ t,LH a,LH b,LH c]) (λi=>W.length-i) (λi=>i<=W.length/\∀j d,j<i->W[j]? = some d->f d=true) 0 ⟨Qg _,λj _ h=>absurd h (Y5 j)⟩ rfl rfl λi ⟨hi,hj⟩=>?_
 by_cases h:i<W.length
 ·obtain⟨d,hd⟩:=gxE (l:=W) (i:=i) h;have hdm:=Qa hd;have sd:=hs d hdm;have nxt:f d=true->∀j e,j<i+1->W[j]? = some e->f e=true:=λhfd j e hj' he=>by
   by_cases q:j=i
   ·subst q;rw[hd]at he;injection he with he;subst he;exact hfd
   ·exact hj j e Fj he
  have on:d.id=a.id\/d.id=b.id\/d.id=c.id->f d=true:=λh=>by rw[hf];simp only[decide_eq_true h,Bool.true_or]
  by_cases e1:d.id=a.id
  ·refine go tt [.T,.x (Hf hd),.g 30 false (decide_eq_false λh=>h e1),.g 37 false rfl,.g 44 false rfl,.f rfl] rfl Fv ?_;exact rd (i+1) Fj ⟨h,nxt (on (.inl e1))⟩ rfl
  by_cases e2:d.id=b.id
  ·refine go tt [.T,.x (Hf hd),.g 30 true (decide_eq_true e1),.g 37 false (decide_eq_false λh=>h e2),.g 44 false rfl,.f rfl] rfl Fv ?_;exact rd (i+1) Fj ⟨h,nxt (on (.inr (.inl e2)))⟩ rfl
  by_cases e3:d.id=c.id
  ·refine go tt [.T,.x (Hf hd),.g 30 true (decide_eq_true e1),.g 37 true (decide_eq_true e2),.g 44 false (decide_eq_false λh=>h e3),.f rfl] rfl Fv ?_;exact rd (i+1) Fj ⟨h,nxt (on (.inr (.inr e3)))⟩ rfl
  have ci:=rF ha hb hc sd;have ca:U3 79 [pr (To a.c b.c c.c d.c),.agg (ta t)] [.oi (G7 (Gm t) (To a.c b.c c.c d.c))]:=JH (kR ha hb hc sd).dp ht;have b2:=I4 t (To a.c b.c c.c d.c);have hfd:f d = !decide (0<o*G7 (Gm t) (To a.c b.c c.c d.c)):=by
   rw[hf];simp only[decide_eq_false (show ¬(d.id=a.id\/d.id=b.id\/d.id=c.id) from λh=>h.elim e1 λh=>h.elim e2 e3),Bool.false_or]
  have hms:=ZV b1 b2;by_cases hp:0<o*G7 (Gm t) (To a.c b.c c.c d.c)
  ·rw[decide_eq_true hp]at hfd;have hall:W.all f=false:=by
    cases hb:W.all f with
    |false=>rfl
    |true=>rw[Jc]at hb;rw[hb d hdm]at hfd;cases hfd
   rw[hall,Bool.and_false];exact Ux [.T,.x (Hf hd),.g 30 true (decide_eq_true e1),.g 37 true (decide_eq_true e2),.g 44 true (decide_eq_true e3),.k ci,.k ca,.t (decide_eq_true hp)] rfl rfl (by simp[Gd,IntKind.bits] <;> omega)
  ·rw[decide_eq_false hp]at hfd;refine go tt [.T,.x (Hf hd),.g 30 true (decide_eq_true e1),.g 37 true (decide_eq_true e2),.g 44 true (decide_eq_true e3),.k ci,.k ca,.f (decide_eq_false hp)] rfl (by simp[Gd,IntKind.bits] <;> omega) ?_;exact rd (i+1) Fj ⟨h,nxt hfd⟩ rfl
 ·have hall:W.all f=true:=Jc.2 λd hd=>by
   obtain⟨j,hj'⟩:=Zx hd;exact hj j d (by have:=(Qd.1 hj').1;omega) hj'
  rw[hall,Bool.and_true];exact Ux [.F] rfl
theorem Qij{c:Ct}(hc:Cp c.p)(ht:Va t)(hw:G7 (Gm t) c.p=c.want):U3 77 [.agg (Lt c),.agg (ta t)] [.one (.bool true)]:=by
 have ca:=JH (p:=c.p) (a:=t) hc.dp ht;rw[show gmA t c.p=c.want from hw]at ca;exact Uy func77 rfl [.k ca] rfl Fp trivial
theorem Qig{l:List Ct}(hl:∀c∈l,Cp c.p/\G7 (Gm t) c.p=c.want)(hn:l.length≤1000000)(ht:Va t):U3 31 [.agg (ta t),.one (.row (Gg l))] [.one (.bool true)]:=by
 have hcl:=Mx l;refine G5 func31 rfl ?_;refine Uv [] rfl ?_;refine U0 (S:=Nat) 1 (λL1 i=>(9,.v (.oi i))::L1) (λ_=>[rJ t]) (λi=>l.length-i) (λi=>i<=l.length) 0 (Qg _) rfl rfl λi hi=>?_
 by_cases h:i<l.length
 ·obtain⟨c,hc⟩:=gxE (l:=l) (i:=i) h;obtain⟨h1,h2⟩:=hl c (Qa hc);refine go tt [.T,.x (YJ hc),.k (Qij h1 ht h2),.f rfl] rfl Fv ?_;exact rd (i+1) Fj h rfl
 ·exact Ux [.F] rfl
theorem Qsy{W:List Pt}{x y:Pt}{i j k:Nat}(hx:W[i]? = some x)(hy:(W.drop (i+1))[j]? = some y):∃r,H7 W=RL W x y i j k++r:=by
 obtain⟨r,hr⟩:=TL (i+1) W;rw[ZA W i x hx]at hr;obtain⟨r2,hr2⟩:=XO (j+1) (W.drop (i+1));rw[Do _ j y hy]at hr2;have e3:((W.drop (i+1)).drop (j+1)).map (λz=>(y,z))=(((W.drop (i+1)).drop (j+1)).take k).map (λz=>(y,z))++(((W.drop (i+1)).drop (j+1)).drop k).map (λz=>(y,z)):=by
  rw[<-J7,Zf]
 rw[hr2,e3]at hr;rw[hr];unfold RL;simp only[J7,Za];exact⟨_,rfl⟩
theorem Qaa{M:List Pt}{t:Tm}(hs:Ry M)(hsc:∀p∈M,Sc p.c)(hn:M.length≤6)(ht:Va t):U3 30 [.agg (ta t),.one (.row (VA ((H7 (Gv M)).filter (qA (Gm t) (Gv M))))),.one (pts M)] [.one (.bool true)]:=by
 have cW:=Qab hs hsc Fj;have hWs:∀p∈Gv M,Sc p.c:=λp hp=>hsc p (Hu hp)
 have hWl:=Bh M;have hWS:Ry (Gv M):=List.Pairwise.sublist (An M) hs;have cS:=Qqu (l:=Gv M) Fj;rw[show Nq UA (Gv M)=Gv M from yO (fX (hWS.imp λh=>Fj)) hWS λx=>yI]at cS;obtain⟨W,hW⟩:=nmE (Gv M);rw[<-hW]at cW cS hWs hWl hWS ⊢;obtain⟨E,hE⟩:=nmE (qA (Gm t) W);rw[<-hE];obtain⟨T,hT⟩:=nmE ((H7 W).filter E);rw[<-hT];have hTl:T.length<=20:=by rw[hT];exact Qc (X8 _ _) (JY (l:=W) Fj).1
 have htl:=TE T;have hcl:(List.map Ge W).length=W.length:=Fp;refine G5 func30 rfl ?_;refine Uv [.k cW,.k cS] rfl ?_;refine U0 (S:=Nat) 1 (λL1 i=>(20,.v (.oi i))::(8,.v (.oi ((((Ek i W).filter E).length:Nat):Int)))::L1) (λ_=>[rJ t]) (λi=>W.length-i) (λi=>i<=W.length) 0 (Qg _) rfl rfl λi hi=>?_
 by_cases h:i<W.length
 ·obtain⟨x,hx⟩:=gxE (l:=W) (i:=i) h;have sx:=hWs x (Qa hx);have hcl2:((List.map Ge W).drop (i+1)).length=W.length-(i+1):=Fp;have hdl:(W.drop (i+1)).length=W.length-(i+1):=Fp;refine go tt [.T,.x (Hf hx),.r 27 (eI (b:=((i+1:Nat):Int)) Fp),.i (i+1)] rfl (by simp[Gd];exact⟨Fj,λ_ _=>rfl,Fj⟩) ?_;refine lp (S:=Nat) 2 (λL1 j=>(30,.v (.oi j))::(8,.v (.oi ((((p3j W x i j).filter E).length:Nat):Int)))::L1) (λ_=>[rJ t,LH x]) (λj=>W.length-(i+1)-j) (λj=>j<=W.length-(i+1)) 0 (Qg _) rfl (λ_ _=>rfl) (by rw[RD];rfl) λj hj=>?_
  by_cases h':j<W.length-(i+1)
  ·obtain⟨y,hy⟩:=gxE (l:=(W.drop (i+1))) (i:=j) Fj;have sy:=hWs y (Qx (Qa hy));have hgy:((List.map Ge W).drop (i+1))[j]? = some (Ge y):=by rw[<-Vd];exact Rm hy
   have hdd:(W.drop (i+1)).drop (j+1)=W.drop (i+j+2):=by rw[J4];congr 1;omega
   have hcl3:((List.map Ge W).drop (i+j+2)).length=W.length-(i+j+2):=Fp;have hdl3:(W.drop (i+j+2)).length=W.length-(i+j+2):=Fp;refine go tt [.T,.x hgy,.r 39 (eI (b:=((i+j+2:Nat):Int)) Fp),.i (i+j+2)] rfl (by simp[Gd];exact⟨Fj,λ_ _=>rfl,Fj⟩) ?_;refine lp (S:=Nat) 3 (λL1 k=>(42,.v (.oi k))::(8,.v (.oi ((((RL W x y i j k).filter E).length:Nat):Int)))::L1) (λ_=>[rJ t,LH x,LH y]) (λk=>W.length-(i+j+2)-k) (λk=>k<=W.length-(i+j+2)) 0 (Qg _) rfl (λ_ _=>rfl) (by rw[RA];rfl) λk hk=>?_
   have Dz:((RL W x y i j k).filter E).length<=20:=Qc (X8 _ _) (uV Fj hx hy);by_cases h'':k<W.length-(i+j+2)
   ·obtain⟨z,hz⟩:=gxE (l:=(W.drop (i+j+2))) (i:=k) Fj;have sz:=hWs z (Qx (Qa hz));have hgz:((List.map Ge W).drop (i+j+2))[k]? = some (Ge z):=by rw[<-Vd];exact Rm hz
    have hnx:=RE (W:=W) (x:=x) (y:=y) (i:=i) (j:=j) (k:=k) (z:=z) (by rw[hdd];exact hz);have ce:=Qih sx sy sz hWs Fj ht;rw[<-hE]at ce;cases hb:E (x,y,z)with
    |
     false =>
     rw[hb]at ce;have e:(RL W x y i j (k+1)).filter E=(RL W x y i j k).filter E:=by rw[hnx,Jf];simp[hb]
     refine go tt [.T,.x hgz,.k ce,.t rfl] rfl Fv ?_;exact rd (k+1) Fj Fj (by rw[e];rfl)
    |
     true =>
     rw[hb]at ce;have e:(RL W x y i j (k+1)).filter E=(RL W x y i j k).filter E++[(x,y,z)]:=by rw[hnx,Jf];simp[hb]
     obtain⟨n,hn'⟩:=nmE (((RL W x y i j k).filter E).length);have hTg:T[n]? = some (x,y,z):=by
      obtain⟨r,hr⟩:=Qsy (k:=k+1) hx hy;rw[hT,hr,Jf,e,hn',Za];simp
     have hTn:=(Qd.1 hTg).1;rw[<-hn']at Dz ⊢;refine go tt [.T,.x hgz,.k ce,.f rfl,.g 57 false U4,.x (Qoc hTg),.f Fp] rfl Fv ?_;exact rd (k+1) Fj Fj (by rw[e,Qu,<-hn'];rfl)
   ·have e:=DU (x:=x) (k:=k) hy (by rw[hdd,hdl3];omega);rw[e];refine go tt [.F] rfl Fv ?_;exact rd (j+1) Fj Fj rfl
  ·have e:=DW (j:=j) hx Fj;rw[e];refine go tt [.F] rfl Fv ?_;exact rd (i+1) Fj h rfl
 ·have e:=fK (W:=W) (i:=i) Fj;rw[e,<-hT];exact Ux [.F] rfl (by rw[TE];simp) trivial
end Orr
