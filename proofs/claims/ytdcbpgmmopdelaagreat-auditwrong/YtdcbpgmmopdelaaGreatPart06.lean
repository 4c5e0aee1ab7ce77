/- F3 T14 T15 T16 T17 T18 T19 Z1 Z2 ZA T20 T21 T22 -/
import Derived.Test.YtdcbpgmmopdelaaGreatPart05
import Derived.Test.YtdcbpgmmopdelaaGreatPart00
import Derived.Test.YtdcbpgmmopdelaaGreatPart04
set_option linter.all false
namespace Orr
open Go Go.Proofs Tryz
set_option maxRecDepth 10000
structure Tb(t:Tm):Prop where
 p:Pb t.p
 lo:Qb t.lo
 hi:Qb t.hi
theorem Qag(x y:Int):-1<=Ac x y/\Ac x y<=1:=by unfold Ac;split <;> (try split) <;> omega
theorem KY(a b:Rat):-1<=Tn a b/\Tn a b<=1:=Qag _ _
theorem I3(p:Ft)(q:Rat):-1<=Hq p q/\Hq p q<=1:=Qag _ _
theorem dI(p:Ft)(q:Rat):-1<=low p q/\low p q<=1:=by unfold low;split <;> exact I3 _ _
theorem Qb.s31{q:Rat}(h:Qb q):Qs 2147483647 q:=h.mono (by decide)
theorem Qb.s32{q:Rat}(h:Qb q):Qs 4294967295 q:=h.mono (by decide)
theorem BV{p:Ft}{q:Rat}(hp:Pb p)(hq:Qb q):Fo 288 [pr p,.agg (rl q)] [.oi (Hq p q)]:=by
 have hm:p.length*(16777216+1)<=64*16777217:=Qy _ hp.l;exact iM hp.t hp.ln hp.b hq (by omega)
theorem Qw2{p:Ft}{q:Rat}(hp:Pb p)(hq:Qb q):Fo 288 [pr (Hn p),.agg (rl q)] [.oi (Hq (Hn p) q)]:=by
 have hl:=Qe (Pw p) (show p.length-1<=64 by have:=hp.l;omega);have hm:(Hn p).length*(16777216+1)<=64*16777217:=Qy _ hl;exact iM (Gk _ _) (Xj hl (by omega)) (BB (t:=6) hp.b hp.l) hq (by omega)
theorem GR{t:Tm}(ht:Tb t):Fo 287 [.agg (ta t)] [.one (.bool t.point)] :=
 Fi func287 rfl [.k (LP ht.lo.s31 ht.hi.s31)] rfl
theorem Qoi{t:Tm}(ht:Tb t):Fo 286 [.agg (ta t)] [.agg (ta t)] :=
 Fi func286 rfl [.k (Ml ht.p.t ht.p.ln ht.p.bd),.k (vY ht.lo.s32),.k (vY ht.hi.s32)] rfl
theorem Qg9{p:Ft}{q:Rat}(hp:Pb p)(hq:Qb q):Fo 363 [pr p,.agg (rl q)] [.oi (low p q)]:=by
 unfold low;by_cases h:Hq p q=0
 ·rw[if_neg (by simpa using h)];exact Fi func363 rfl [.k (BV hp hq),.f (by simpa using h),.k (KQ hp.ln hp.bd),.k (Qw2 hp hq)] rfl
 ·rw[if_pos h];exact Fi func363 rfl [.k (BV hp hq),.t (by simpa using h)] rfl
theorem Qt1{p:Ft}{lo hi:Rat}(hp:Pb p)(hl:Qb lo)(hh:Qb hi):Fo 290 [pr p,.agg (rl lo),.agg (rl hi)] [.one (.bool (BW p lo hi))]:=by
 by_cases h:Hq p hi=0
 ·exact Fi func290 rfl [.k (BV hp hh),.t (by simpa using h)] rfl (by simp[BW,h]) trivial
 ·exact Fi func290 rfl [.k (BV hp hh),.f (by simpa using h),.k (Qg9 hp hl)] rfl (by simp[BW,h]) trivial
theorem Qtn{t:Tm}{q:Rat}(ht:Tb t)(hq:Qb q):Fo 327 [.agg (ta t),.agg (rl q)] [.oi (Hl t q)]:=by
 have cp:=GR ht;unfold Hl;by_cases h1:t.point=true
 ·rw[if_pos h1];exact Fi func327 rfl [.k cp,.t h1,.k (LP ht.lo.s31 hq.s31)] rfl
 rw[if_neg h1];have h1:t.point=false:=by simpa using h1
 have c1:=LP hq.s31 ht.lo.s31;have c2:=LP hq.s31 ht.hi.s31;by_cases h2:Tn q t.lo<=0
 ·rw[if_pos h2];exact Fi func327 rfl [.k cp,.f h1,.k c1,.t (by simpa using h2)] rfl
 rw[if_neg h2];by_cases h3:0<Tn q t.hi
 ·rw[if_pos h3];exact Fi func327 rfl [.k cp,.f h1,.k c1,.f (by simpa using h2),.k c2,.t (by simpa using h3)] rfl
 rw[if_neg h3];by_cases h4:Hq t.p q=0
 ·rw[if_pos h4];exact Fi func327 rfl [.k cp,.f h1,.k c1,.f (by simpa using h2),.k c2,.f (by simpa using h3),.k (BV ht.p hq),.t (by simpa using h4)] rfl
 rw[if_neg h4];by_cases h5:Hq t.p q=low t.p t.lo
 ·rw[if_pos h5];exact Fi func327 rfl [.k cp,.f h1,.k c1,.f (by simpa using h2),.k c2,.f (by simpa using h3),.k (BV ht.p hq),.f (by simpa using h4),.k (Qg9 ht.p ht.lo),.t (by simpa using h5)] rfl
 ·rw[if_neg h5];exact Fi func327 rfl [.k cp,.f h1,.k c1,.f (by simpa using h2),.k c2,.f (by simpa using h3),.k (BV ht.p hq),.f (by simpa using h4),.k (Qg9 ht.p ht.lo),.f (by simpa using h5)] rfl
theorem Qxc(q:Rat):0<(q.den:Int):=by have:=q.den_pos;omega
theorem Qwz{a b:Rat}(ha:Qb a)(hb:Qb b):Fo 371 [.agg (rl a),.agg (rl b)] [.agg (rl (O7 a b))]:=by
 have h1:Gy (a.num*(b.den:Int))<=33554432:=Qe (Ho _ _) (by have:=ha.1;have:=hb.2;omega);have h2:Gy (b.num*(a.den:Int))<=33554432:=Qe (Ho _ _) (by have:=hb.1;have:=ha.2;omega);have h3:Gy ((a.den:Int)*(b.den:Int))<=33554432:=Qe (Ho _ _) (by have:=ha.2;have:=hb.2;omega);have h4:Gy (2:Int)<=2:=by decide
 have h5:Gy (a.num*(b.den:Int)+b.num*(a.den:Int))<=33554433:=Qe (KP _ _) (by omega);have h6:Gy ((a.den:Int)*(b.den:Int)*2)<=33554434:=Qe (Ho _ _) (by omega);have h0:(a.den:Int)*(b.den:Int)*2≠0:=by
  have:=Fa (Qxc a) (Qxc b);omega
 exact Fi func371 rfl [.k (oZ ha.s31 hb.s31),.k (LJ (Gl _) (Gl _) (by omega) (by omega)),.k (bH (z:=2) (by decide)),.k (Do (Gl _) (Gl _) (by omega) (by omega)),.k (LU h0 (by omega) (by omega))] rfl
theorem cU{q r:Rat}(h:chq q=some r):r=q/\Qb q:=by
 unfold chq at h
 split at h
 ·rename_i hc;injection h with h;exact⟨h.symm,hc⟩
 ·cases h
theorem Qt0{t u:Tm}(ht:Tb t)(h:half t=some u):Fo 294 [.agg (ta t)] [.agg (ta u)]:=by
 have cp:=GR ht;unfold half at h
 split at h
 ·rename_i h1;injection h with h;subst h;exact Fi func294 rfl [.k cp,.t h1] rfl
 ·rename_i h1;have h1:t.point=false:=by simpa using h1
  obtain⟨m,hm0,h⟩:=Qk.1 h;obtain⟨rfl,hm⟩:=cU hm0;injection h with h;subst h;have cm:=Qwz ht.lo ht.hi;have cc:=Qtn ht hm;by_cases h2:Hl t (O7 t.lo t.hi)=0
  ·rw[if_pos h2];exact Fi func294 rfl [.k cp,.f h1,.k cm,.k cc,.t (by simpa using h2)] rfl
  rw[if_neg h2];by_cases h3:Hl t (O7 t.lo t.hi)=-1
  ·rw[if_pos h3];exact Fi func294 rfl [.k cp,.f h1,.k cm,.k cc,.f (by simpa using h2),.t (by simpa using h3)] rfl
  ·rw[if_neg h3];exact Fi func294 rfl [.k cp,.f h1,.k cm,.k cc,.f (by simpa using h2),.f (by simpa using h3)] rfl
theorem Qrh{t u:Tm}(ht:Tb t)(h:half t=some u):Tb u:=by
 unfold half at h
 split at h
 ·injection h with h;subst h;exact ht
 ·obtain⟨m,hm0,h⟩:=Qk.1 h;obtain⟨rfl,hm⟩:=cU hm0;injection h with h;subst h
  repeat' split
  ·exact⟨ht.p,hm,hm⟩
  ·exact⟨ht.p,ht.lo,hm⟩
  ·exact⟨ht.p,hm,ht.hi⟩
theorem yC{z:Int}(h:Gy z<=4294967296):Fo 368 [.one (mg z)] [.oi (Gy z:Int)]:=by
 have h1:=bK (l:=Hx z.natAbs) (E9 _) (by rw[Rm];exact h);rw[Rm]at h1;exact h1
theorem OQ{p:Ft}{i:Nat}{z:Int}(h:p[i]? = some z):Tw (p.take (i+1))=max (Tw (p.take i)) (Gy z):=by
 unfold Tw;rw[List.take_succ,h,Option.toList_some,List.foldl_append];rfl
theorem I4{p:Ft}{s:Nat}(h:Bd s p):∀i,Tw (p.take i)<=s
 | 0=>by simp[Tw]
 |
  i+1=>by
  cases hz:p[i]? with
  |
   none =>
   rw[Qp (by have:=Yk.1 hz;omega),<-Qp (l:=p) (i:=i) (by have:=Yk.1 hz;omega)];exact I4 h i
  |some z=>rw[OQ hz];have:=I4 h i;have:=Qgd h hz;omega
theorem Qhs{p:Ft}(hp:Pb p):Fo 369 [pr p] [.oi (Tw p:Int)]:=by
 have hl:=hp.l;refine Sk func369 rfl ?_;refine Ff [] rfl ?_;refine Fl (S:=Nat) 0 (λL1 i=>(8,.v (.oi i))::(3,.v (.oi (Tw (p.take i):Int)))::L1) (λ_=>[]) (λi=>p.length-i) (λi=>i<=p.length) 0 (Qh _) rfl rfl λi hi=>?_
 by_cases hlt:i<p.length
 ·have hg:=Pd hlt;have hz:=G5 hp.b i;have hs:=OQ hg;refine Fg [.t (by simp;omega),.x (Nw hg),.k (yC (by omega)),.r 16 (eI (b:=(Tw (p.take (i+1)):Int)) (by rw[hs];omega))] rfl ?_;exact rd (i+1) (by omega) hlt rfl
 ·obtain rfl:i=p.length:=by omega
  rw[Za];exact Fh [.f (by simp)] rfl
def aR(p:Ft)(a:Tm):Nat:=64+2*(Gy a.lo.num+Gy a.hi.num)+4*(a.p.length+p.length)*(Tw a.p+Tw p+(a.p.length+p.length)+8)
theorem iT:Fo 368 [lr []] [.oi 0]:=bK (l:=[]) (by simp[Sm]) (by decide)
theorem Qht{a:Tm}{p:Ft}(ha:Tb a)(hp:Pb p):Fo 292 [.agg (ta a),.agg ([pl p,.bool false,.row [],.bool false,.row [],.bool false,.row [],.bool false,.row []])] [.oi (aR p a:Nat)]:=by
 have l1:=ha.p.l;have l2:=hp.l;have b1:=ha.lo.1;have b2:=ha.hi.1;have s1:Tw a.p<=16777216:=by have:=I4 ha.p.b a.p.length;rwa[Za]at this
 have s2:Tw p<=16777216:=by have:=I4 hp.b p.length;rwa[Za]at this
 obtain⟨N,hN⟩:=nmE (4*(a.p.length+p.length));obtain⟨S,hS⟩:=nmE (Tw a.p+Tw p+(a.p.length+p.length)+8);have hNS:N*S<=512*33554568:=Xl (by omega) (by omega);have h0:(N:Int)*(S:Int)=((N*S:Nat):Int):=(Wa _ _).symm;have hst:aR p a=64+2*(Gy a.lo.num+Gy a.hi.num)+N*S:=by rw[hN,hS];rfl
 rw[hst];exact Fi func292 rfl [.k (yC (z:=a.lo.num) (by omega)),.k (yC (z:=a.hi.num) (by omega)),.k iT,.k iT,.r 41 (eI (b:=(N:Int)) (by rw[hN];simp)),.k (Qhs ha.p),.k (Qhs hp),.r 51 (eI (b:=(S:Int)) (by rw[hS];simp)),.r 52 (eI (b:=((N*S:Nat):Int)) h0)] rfl (by simp) (by rw[h0];simp[Ge];omega)
end Orr
namespace Orq
open Orr Go
theorem lH(p:Ft)(t:Rat):Gf p t=((p.getD 0 0:Int):Rat)+t*Gf p.tail t:=by
 cases p with
 |nil=>show(0:Rat)=((0:Int):Rat)+t*0;grind
 |cons a p=>rfl
theorem PW(p:Ft)(k:Nat):p.tail.getD k 0=p.getD (k+1) 0:=by
 cases p <;> simp
theorem Ly(c d:Int)(t:Rat):∀(n:Nat) (p q r:Ft),p.length<=n->q.length<=n->r.length<=n->(∀k,r.getD k 0=c*p.getD k 0+d*q.getD k 0)->Gf r t=(c:Rat)*Gf p t+(d:Rat)*Gf q t
 |
  0,p,q,r,hp,hq,hr,_=>by
  rw[Qf (Nat.le_zero.1 hp),Qf (Nat.le_zero.1 hq),Qf (Nat.le_zero.1 hr)];show(0:Rat)=_*0+_*0;grind
 |
  n+1,p,q,r,hp,hq,hr,h=>by
  have ih:=Ly c d t n p.tail q.tail r.tail (by rw[Uw];omega) (by rw[Uw];omega) (by rw[Uw];omega) λk=>by
   rw[PW,PW,PW];exact h (k+1)
  rw[lH p,lH q,lH r,ih,h 0]
  push_cast
  grind
theorem Qb6{p q:Ft}(h:∀k,p.getD k 0=q.getD k 0)(t:Rat):Gf p t=Gf q t:=by
 have:=Ly 1 0 t (max p.length q.length) q q p (Ux ..) (Ux ..) (Nat.le_max_left ..) λk=>by rw[h k];omega
 rw[this]
 push_cast
 grind
theorem I0(p:Ft)(t:Rat):Gf (trim p) t=Gf p t:=Qb6 (Lc p) t
theorem Ro{p:Ft}{k:Nat}(h:p.length<=k):p.getD k 0=0:=by
 rw[Qc,Qt h];rfl
theorem xN(p q:Ft)(k:Nat):(Mt p q).getD k 0=p.getD k 0+q.getD k 0:=by
 unfold Mt;rw[S5]
 split
 ·rfl
 ·rename_i h;rw[Ro (p:=p) (by omega),Ro (p:=q) (by omega)];rfl
theorem D9(p q:Ft)(k:Nat):(Ma p q).getD k 0=p.getD k 0-q.getD k 0:=by
 unfold Ma;rw[S5]
 split
 ·rfl
 ·rename_i h;rw[Ro (p:=p) (by omega),Ro (p:=q) (by omega)];rfl
theorem Tv(p:Ft)(c:Int)(k:Nat):(Gs p c).getD k 0=p.getD k 0*c:=by
 unfold Gs;rw[S5]
 split
 ·rfl
 ·rename_i h;rw[Ro (p:=p) (by omega),Int.zero_mul]
theorem jJ(p:Ft)(k:Nat):(Nn p).getD k 0=-(p.getD k 0):=by
 unfold Nn;rw[S5]
 split
 ·rfl
 ·rename_i h;rw[Ro (p:=p) (by omega)];rfl
theorem M3(p:Ft)(k:Nat):(Hn p).getD k 0=p.getD (k+1) 0*((k+1:Nat):Int):=by
 unfold Hn;rw[S5]
 split
 ·rfl
 ·rename_i h;rw[Ro (p:=p) (by omega),Int.zero_mul]
theorem M4(p q:Ft)(t:Rat):Gf (Mt p q) t=Gf p t+Gf q t:=by
 have:=Ly 1 1 t (max (max p.length q.length) (Mt p q).length) p q (Mt p q) (by omega) (by omega) (by omega) λk=>by rw[xN];omega
 rw[this];push_cast;grind
theorem Bq(p q:Ft)(t:Rat):Gf (Ma p q) t=Gf p t-Gf q t:=by
 have:=Ly 1 (-1) t (max (max p.length q.length) (Ma p q).length) p q (Ma p q) (by omega) (by omega) (by omega) λk=>by rw[D9];omega
 rw[this];push_cast;grind
theorem ZL(p:Ft)(t:Rat):Gf (Nn p) t=-Gf p t:=by
 have:=Ly (-1) 0 t (max p.length (Nn p).length) p p (Nn p) (by omega) (by omega) (by omega) λk=>by rw[jJ];omega
 rw[this];push_cast;grind
theorem Tf(p:Ft)(c:Int)(t:Rat):Gf (Gs p c) t=Gf p t*(c:Rat):=by
 have:=Ly c 0 t (max p.length (Gs p c).length) p p (Gs p c) (by omega) (by omega) (by omega) λk=>by rw[Tv,Kj];omega
 rw[this];push_cast;grind
theorem wT:∀(l:Ft) (j:Nat) (v:Int) (t:Rat),j<l.length->Gf (l.set j v) t=Gf l t+((v:Rat)-((l.getD j 0:Int):Rat))*t^j
 | [],_,_,_,h=>by simp at h
 |
  a::l,0,v,t,_=>by
  show(v:Rat)+t*Gf l t=(a:Rat)+t*Gf l t+((v:Rat)-(a:Rat))*t^0;rw[Xu];grind
 |
  a::l,j+1,v,t,h=>by
  have ih:=wT l j v t (by simpa using h);show(a:Rat)+t*Gf (l.set j v) t=(a:Rat)+t*Gf l t+((v:Rat)-((l.getD j 0:Int):Rat))*t^(j+1);rw[ih,Xk];grind
theorem IC:∀(l:Ft) (k:Nat) (t:Rat),k<l.length->Gf (l.take (k+1)) t=Gf (l.take k) t+((l.getD k 0:Int):Rat)*t^k
 | [],_,_,h=>by simp at h
 |
  a::l,0,t,_=>by
  show(a:Rat)+t*Gf (l.take 0) t=0+(a:Rat)*t^0;rw[Xu,Vy];show(a:Rat)+t*0=_;grind
 |
  a::l,k+1,t,h=>by
  have ih:=IC l k t (by simpa using h);show(a:Rat)+t*Gf (l.take (k+1)) t=(a:Rat)+t*Gf (l.take k) t+((l.getD k 0:Int):Rat)*t^(k+1);rw[ih,Xk];grind
theorem jZ(n:Nat)(t:Rat):Gf (List.replicate n 0) t=0:=by
 induction n with
 |zero=>rfl
 |
  succ n ih =>
  show((0:Int):Rat)+t*Gf (List.replicate n 0) t=0;rw[ih];push_cast;grind
theorem mH(t:Rat)(i:Nat):∀k,t^(i+k)=t^i*t^k
 | 0=>by rw[Jh,Xu];grind
 |k+1=>by rw[<-Vg,Xk,Xk,mH t i k];grind
theorem pT(x:Int)(b:Ft)(i:Nat)(o:Ft)(t:Rat):∀k,k<=b.length->i+k<=o.length->Gf (ZU x b i o k) t=Gf o t+(x:Rat)*t^i*Gf (b.take k) t
 |
  0,_,_=>by
  show Gf o t=Gf o t+(x:Rat)*t^i*0;grind
 |
  k+1,h1,h2=>by
  have ih:=pT x b i o t k (by omega) (by omega);simp only[ZU];rw[wT _ _ _ _ (by rw[ZH];omega),ih,IC b k t (by omega)];have hp:t^(i+k)=t^i*t^k:=mH t i k;rw[hp]
  push_cast
  grind
theorem pR(a b o:Ft)(t:Rat):∀i,i<=a.length->i+b.length<=o.length+1->Gf (Lt a b o i) t=Gf o t+Gf (a.take i) t*Gf b t
 |
  0,_,_=>by
  show Gf o t=Gf o t+0*Gf b t;grind
 |
  i+1,h1,h2=>by
  have ih:=pR a b o t i (by omega) (by omega);simp only[Lt];rw[pT _ _ _ _ _ b.length (Qn _) (by rw[Lu];omega),ih,IC a i t (by omega),Za];grind
theorem Gn(a b:Ft)(t:Rat):Gf (Gq a b) t=Gf a t*Gf b t:=by
 unfold Gq
 split
 ·rename_i h;rcases h with h|h
  ·rw[Qf h];show(0:Rat)=0*_;grind
  ·rw[Qf h];show(0:Rat)=_*0;grind
 ·rename_i h;rw[I0,pR a b _ t a.length (Qn _) (by rw[Jj];omega),jZ,Za];grind
theorem Tt(z d:Int):(z:Rat) / (d:Rat)=Rat.divInt z d:=by
 by_cases h:d=0
 ·subst h;simp;grind
 ·rw[Yp];exact(Rat.divInt_eq_div z d ▸ by rw[Yp])
theorem fX(a:Ft)(n d:Int)(hd:(d:Rat)≠0):∀k,k<=a.length->(((Bz a n d k).2:Int):Rat)=(d:Rat)^k/\(((Bz a n d k).1:Int):Rat)*d=(d:Rat)^k*Gf (a.drop (a.length-k)) ((n:Rat) / d)
 |
  0,_=>by
  refine⟨by rw[Xu];rfl,?_⟩;rw[Ua,List.drop_length];show((0:Int):Rat)*d=(d:Rat)^0*0
  push_cast;grind
 |
  k+1,hk=>by
  obtain⟨h1,h2⟩:=fX a n d hd k (by omega);have hi:a.length-1-k<a.length:=by omega
  have e1:a.drop (a.length-(k+1))=a.getD (a.length-1-k) 0::a.drop (a.length-k):=by
   rw[show a.length-(k+1)=a.length-1-k by omega,Xc hi,show a.length-1-k+1=a.length-k by omega];congr 1;rw[Qc,Qg hi];rfl
  refine⟨?_,?_⟩
  ·show(((Bz a n d k).2*d:Int):Rat)=_;rw[Jc,h1,Xk]
  ·rw[e1];show(((Bz a n d k).1*n+a.getD (a.length-1-k) 0*(Bz a n d k).2:Int):Rat)*d=_*(((a.getD (a.length-1-k) 0:Int):Rat)+(n:Rat) / d*Gf (a.drop (a.length-k)) ((n:Rat) / d));rw[Wd,Jc,Jc,h1,Xk];have h3:(n:Rat) / d*d=n:=by rw[Zc hd]
   have h4:(d:Rat)^k*d*((n:Rat) / d*Gf (a.drop (a.length-k)) ((n:Rat) / d))=((n:Rat) / d*d)*((d:Rat)^k*Gf (a.drop (a.length-k)) ((n:Rat) / d)):=by grind
   have h5:(d:Rat)^k*d*(((a.getD (a.length-1-k) 0:Int):Rat)+(n:Rat) / d*Gf (a.drop (a.length-k)) ((n:Rat) / d))=(d:Rat)^k*d*((a.getD (a.length-1-k) 0:Int):Rat)+(d:Rat)^k*d*((n:Rat) / d*Gf (a.drop (a.length-k)) ((n:Rat) / d)):=by grind
   rw[h5,h4,h3,<-h2];grind
theorem wB{d:Rat}(h:0<d):∀k:Nat,0<d^k
 | 0=>by rw[Xu];decide
 |k+1=>by rw[Xk];exact Xm (wB h k) h
theorem Eb{x y:Rat}(h:0<y):Gt (y*x)=Gt x:=by
 unfold Gt;have h1:y*x<0↔x<0:=by
  constructor
  ·intro h2;rcases Kr (a:=0) (b:=x)with h3|h3
   ·have:=Jt (Qm h) h3;grind
   ·rcases Yi.1 h3 with h4|h4
    ·exact h4
    ·rw[h4]at h2;grind
  ·intro h2;have:=Xm h (show 0 < -x by grind);grind
 have h2:0<y*x↔0<x:=by
  constructor
  ·intro h2;rcases Kr (a:=x) (b:=0)with h3|h3
   ·have:=Jt (Qm h) (show 0<=-x by grind);grind
   ·rcases Yi.1 h3 with h4|h4
    ·exact h4
    ·rw[<-h4]at h2;grind
  ·intro h2;exact Xm h h2
 simp only[h1,h2]
theorem Qh2(z:Int):Ac z 0=Gt (z:Rat):=by
 unfold Ac Gt;have h1:((z:Int):Rat)<0↔z<0:=by
  have := @Rat.intCast_lt_intCast z 0;simpa using this
 have h2:0<((z:Int):Rat)↔0<z:=by
  have := @Rat.intCast_lt_intCast 0 z;simpa using this
 simp only[h1,h2]
theorem Sf(p:Ft)(q:Rat):Hq p q=Gt (Gf p q):=by
 have hd0:(0:Rat)<((q.den:Int):Rat):=by
  have := @Rat.intCast_lt_intCast 0 (q.den:Int);rw[show((0:Int):Rat)=0 from rfl]at this;exact this.2 (den_pos q)
 have hd:((q.den:Int):Rat)≠0:=by intro h;rw[h]at hd0;exact absurd hd0 (by decide)
 obtain⟨_,h⟩:=fX p q.num q.den hd p.length (Qn _);rw[J4,Je,Tt,Z9]at h;unfold Hq;rw[Qh2,<-Eb hd0,Uz];show Gt ((((Bz p q.num q.den p.length).1:Int):Rat)*_)=_;rw[h,Eb (wB hd0 _)]
def cz(p:Ft):Fw:=p.map λz:Int=>(z:Rat)
theorem Gg(t:Rat):∀p,ev (cz p) t=Gf p t
 | []=>rfl
 |a::p=>by have:=Gg t p;simp only[cz,Zx,ev,Gf]at *;rw[this]
theorem Nh:∀(p:Ft) (k:Nat),(cz p).getD k 0=((p.getD k 0:Int):Rat)
 | [],k=>by simp[cz]
 |a::p,0=>by simp[cz]
 |a::p,k+1=>by have:=Nh p k;simp only[cz,Zx,Q0]at *;exact this
theorem Lx{p q:Ft}(h:∀t,Gf p t=Gf q t)(k:Nat):p.getD k 0=q.getD k 0:=by
 have:=Lp (p:=cz p) (q:=cz q) (λt=>by rw[Gg,Gg,h]) k;rw[Nh,Nh]at this
 exact_mod_cast this
theorem WF{p q:Ft}(hp:Gh p)(hq:Gh q)(h:∀k,p.getD k 0=q.getD k 0):p=q:=by
 have key:∀{p q:Ft},Gh p->Gh q->(∀k,p.getD k 0=q.getD k 0)->p.length<=q.length:=λ{p q} hp hq h=>by
  rcases Q8 q.length p.length with e|e
  ·have:=Rz hp (by omega);rw[h,Qc,Qt (by omega)]at this;exact absurd rfl this
  ·exact e
 exact EC (Vq (key hp hq h) (key hq hp λk=>(h k).symm)) λj _=>h j
theorem Om{p q:Ft}(hp:Gh p)(hq:Gh q)(h:∀t,Gf p t=Gf q t):p=q:=WF hp hq (Lx h)
theorem Qqc{p:Ft}(hp:Gh p)(h:∀t,Gf p t=0):p=[]:=Om hp rfl λt=>by rw[h];rfl
theorem Dl{p:Ft}(h:p.length=0)(t:Rat):Gf p t=0:=by rw[Qf h];rfl
theorem Qb5:∀(p r:Ft) (t:Rat),(∀k,r.getD k 0=p.getD (k+1) 0*((k+1:Nat):Int))->Gf r t=dv (cz p) t
 |
  [],r,t,h=>by
  rw[Qb6 (q:=[]) (λk=>by rw[h];simp) t];rfl
 |
  a::p,r,t,h=>by
  have ih:=Qb5 p (Hn p) t λk=>M3 p k
  have e:Gf r t=Gf p t+t*Gf (Hn p) t:=by
   have:=Ly 1 1 t (max (max p.length (0::Hn p).length) r.length) p (0::Hn p) r (by omega) (by omega) (by omega) λk=>by
    rw[h,Q0];cases k with
    |zero=>simp
    |succ k=>rw[Q0,M3];push_cast;grind
   rw[this];simp only[Gf];push_cast;grind
  rw[e,ih];show _=ev (cz p) t+t*dv (cz p) t;rw[Gg]
theorem Da(p:Ft)(t:Rat):Gf (Hn p) t=dv (cz p) t:=Qb5 p _ t λk=>M3 p k
theorem WO{p:Ft}(hp:Gh p)(h:0<p.length):HD (cz p) (p.length-1):=by
 refine⟨?_,λk hk=>?_⟩
 ·rw[Nh];have:=Rz hp h;exact λe=>this (by exact_mod_cast e)
 ·rw[Nh,Qc,Qt (by omega)];rfl
theorem JC{p:Ft}(hp:Gh p)(h:0<p.length):¬∀t,Gf p t=0:=λh0=>by
 rw[Qqc hp h0]at h;exact absurd h (by simp)
theorem S8{a b c:Ft}(ha:Gh a)(hb:Gh b)(hc:Gh c)(h:∀t,Gf c t=Gf a t*Gf b t)(la:0<a.length)(lb:0<b.length):c.length=a.length+b.length-1:=by
 have h1:=PG (WO ha la) (WO hb lb);have h2:HD (cz c) (a.length-1+(b.length-1)):=Qjh (λt=>by rw[Gj,Gg,Gg,Gg,h]) h1;have lc:0<c.length:=by
  rcases Qx c.length with e|e
  ·exact absurd (λt=>by rw[Gg];exact Dl e t) (Qa6 h2)
  ·exact e
 have:=Qsp (WO hc lc) h2;omega
theorem pE:∀(n m:Nat),m<=n->2<=m->∃P,2<=P/\P∣m/\∀d,2<=d->d∣P->d=P
 | 0,m,h,h2=>by omega
 |
  n+1,m,h,h2=>by
  rcases Classical.em (∃d,2<=d/\d<m/\d∣m)with⟨d,d1,d2,d3⟩|h0
  ·obtain⟨P,p1,p2,p3⟩:=pE n d (by omega) d1;exact⟨P,p1,Nat.dvd_trans p2 d3,p3⟩
  ·refine⟨m,h2,Nat.dvd_refl m,λd d1 d2=>?_⟩;rcases V9 (Kz (by omega) d2)with e|e
   ·exact absurd ⟨d,d1,e,d2⟩ h0
   ·exact e
theorem vC{P:Nat}(h2:2<=P)(hP:∀d,2<=d->d∣P->d=P){x y:Int}(h:(P:Int)∣x*y):(P:Int)∣x\/(P:Int)∣y:=by
 have h:=X3.2 h;rw[Yd,Zw]at h;have hg:=Wv P x.natAbs;rcases Q8 (Nat.gcd P x.natAbs) 2 with e|e
 ·right;have h1:Nat.gcd P x.natAbs=1:=by
   have:=Nat.gcd_pos_of_pos_left x.natAbs (show 0<P by omega);omega
  have:=Nat.Coprime.dvd_of_dvd_mul_left h1 h;exact X3.1 (by rwa[Zw])
 ·left;have:=hP _ e hg;have h3:=Ut P x.natAbs;rw[this]at h3;exact X3.1 (by rwa[Zw])
def nM(P:Int)(l:Ft):Prop:=∀k,P∣l.getD k 0
theorem TD{P:Nat}(h2:2<=P)(hP:∀d,2<=d->d∣P->d=P):∀(n:Nat) (b h c:Ft),b.length+h.length<=n->(∀t,Gf c t=Gf b t*Gf h t)->nM P c->nM P b\/nM P h
 |_,[],h,c,_,_,_=>.inl λk=>by simp
 |_,x::b,[],c,_,_,_=>.inr λk=>by simp
 | 0,x::b,y::h,c,hn,_,_=>by simp at hn
 |
  n+1,x::b,y::h,c,hn,hc,hd=>by
  simp only[Zf]at hn;by_cases hx:(P:Int)∣x
  ·-- x h is taken away
   have e:∀t,Gf (0::Gq b (y::h)) t=Gf (Ma c (Gs (y::h) x)) t:=λt=>by
    rw[Bq,Tf,hc];simp only[Gf];rw[Gn];simp only[Gf];push_cast;grind
   have hd':nM P (Gq b (y::h)):=λk=>by
    have:=Lx e (k+1);rw[Q0,D9,Tv]at this;rw[this];exact Int.dvd_sub (hd (k+1)) (V6 hx (Vz _ _))
   rcases TD h2 hP n b (y::h) _ (by simp only[Zf];omega) (λt=>Gn _ _ t) hd' with h1|h1
   ·refine .inl λk=>?_
    cases k with
    |zero=>rw[Zr];exact hx
    |succ k=>rw[Q0];exact h1 k
   ·exact .inr h1
  ·have h0:(P:Int)∣y:=by
    have e:c.getD 0 0=x*y:=by
     have:=Lx (p:=c) (q:=Gq (x::b) (y::h)) (λt=>by rw[hc,Gn]) 0;have e2:=Lx (p:=Gq (x::b) (y::h)) (q:=Mt (Gs (y::h) x) (0::Gq b (y::h))) (λt=>by
      rw[M4,Tf,Gn];simp only[Gf];rw[Gn];simp only[Gf];push_cast;grind) 0
     rw[this,e2,xN,Tv,Zr,Zr,Kj];omega
    have:=hd 0;rw[e]at this;rcases vC h2 hP this with h1|h1
    ·exact absurd h1 hx
    ·exact h1
   have e:∀t,Gf (0::Gq (x::b) h) t=Gf (Ma c (Gs (x::b) y)) t:=λt=>by
    rw[Bq,Tf,hc];simp only[Gf];rw[Gn];simp only[Gf];push_cast;grind
   have hd':nM P (Gq (x::b) h):=λk=>by
    have:=Lx e (k+1);rw[Q0,D9,Tv]at this;rw[this];exact Int.dvd_sub (hd (k+1)) (V6 h0 (Vz _ _))
   rcases TD h2 hP n (x::b) h _ (by simp only[Zf];omega) (λt=>Gn _ _ t) hd' with h1|h1
   ·exact absurd (by have:=h1 0;rwa[Zr]at this) hx
   ·refine .inr λk=>?_
    cases k with
    |zero=>rw[Zr];exact h0
    |succ k=>rw[Q0];exact h1 k
def Prm(b:Ft):Prop:=∀d:Int,nM d b->d∣1
theorem Qi0{a b:Ft}(hb:Prm b):∀(n:Nat) (c:Int) (h:Ft),c.natAbs<=n->c≠0->(∀t,(c:Rat)*Gf a t=Gf b t*Gf h t)->∃h',∀t,Gf a t=Gf b t*Gf h' t
 | 0,c,h,hn,h0,_=>absurd (by omega) h0
 |
  n+1,c,h,hn,h0,hc=>by
  rcases Q8 c.natAbs 2 with h1|h1
  ·refine⟨Gs h c,λt=>?_⟩;have hcc:(c:Rat)*c=1:=by
    have:c*c=1:=by
     rcases(show c=1\/c=-1 by omega)with rfl|rfl <;> rfl
    have:=congrArg (λz:Int=>(z:Rat)) this
    push_cast at this;exact this
   rw[Tf];have:=hc t;have:Gf a t=(c:Rat)*((c:Rat)*Gf a t):=by
    have:(c:Rat)*((c:Rat)*Gf a t)=((c:Rat)*c)*Gf a t:=by grind
    rw[this,hcc];grind
   rw[this,hc];grind
  ·obtain⟨P,p1,p2,p3⟩:=pE c.natAbs c.natAbs (Qn _) h1;obtain⟨d,hd⟩:∃d,c=(P:Int)*d:=Ul.2 p2;have hall:nM P (Gs a c):=λk=>by
    rw[Tv,hd];exact V6 (Vu _ _) (Vz _ _)
   have hP0:(P:Rat)≠0:=by
    have:((0:Nat):Rat)<(P:Rat):=Kd.2 (by omega);grind
   rcases TD p1 p3 _ b h (Gs a c) (Qn _) (λt=>by rw[Tf,Uz,hc]) hall with e|e
   ·have:=hb P e;have:=X3.2 this;rw[Zw]at this;have:=Kz (by decide) this;exact absurd this (by show ¬P<=1;omega)
   ·refine Qi0 hb n d (h.map (· / (P:Int))) ?_ (λe0=>h0 (by rw[hd,e0,Kk])) λt=>?_
    ·rw[hd,Yd,Zw]at hn h1;have:2*d.natAbs<=P*d.natAbs:=Qy _ p1;omega
    ·have e1:Gf h t=(P:Rat)*Gf (h.map (· / (P:Int))) t:=by
      have:=Ly P 0 t (max h.length (h.map (· / (P:Int))).length) (h.map (· / (P:Int))) [] h (by omega) (by simp) (by omega) λk=>by
       have:=e k;have e2:(h.map (· / (P:Int))).getD k 0=h.getD k 0 / (P:Int):=by
        rw[Qc,Qc,Zb];cases h[k]? <;> simp
       rw[e2,W5 this];simp
      rw[this];simp only[Gf];push_cast;grind
     have:=hc t;rw[hd,e1]at this
     push_cast at this
     have h3:(P:Rat)*((d:Rat)*Gf a t)=(P:Rat)*(Gf b t*Gf (h.map (· / (P:Int))) t):=by grind
     have h4:=Xn.1 (show(P:Rat)*((d:Rat)*Gf a t-Gf b t*Gf (h.map (· / (P:Int))) t)=0 by grind);rcases h4 with h4|h4
     ·exact absurd h4 hP0
     ·grind
theorem zY:∀u:Fw,∃c:Int,c≠0/\∃h:Ft,∀t,(c:Rat)*ev u t=Gf h t
 | []=>⟨1,by decide,[],λt=>by simp only[ev,Gf];grind⟩
 |
  a::u=>by
  obtain⟨c,hc,h,hh⟩:=zY u;refine⟨c*(a.den:Int),X9 hc (by have:=a.den_nz;omega),(c*a.num)::Gs h (a.den:Int),λt=>?_⟩;have e:(a.den:Rat)*a=a.num:=by
   rw[Uz];have:(a.num:Rat) / (((a.den:Int)):Rat)=a:=by rw[Tt,Z9]
   have hd:(a.den:Rat)≠0:=by
    have:((0:Nat):Rat)<(a.den:Rat):=Kd.2 a.den_pos;grind
   have h2:(a.num:Rat) / (a.den:Rat)*(a.den:Rat)=a.num:=Zc hd;rw[show(a.num:Rat) / (a.den:Rat)=a from this]at h2;exact h2
  simp only[ev,Gf];rw[Tf,<-hh]
  push_cast
  rw[<-e];have e3:(((a.den:Int)):Rat)=(a.den:Rat):=rfl;grind
theorem MO{a b:Ft}(hb:Prm b)(h:Lj (cz b) (cz a)):∃h',Gh h'/\∀t,Gf a t=Gf b t*Gf h' t:=by
 obtain⟨u,hu⟩:=h;obtain⟨c,hc,h,hh⟩:=zY u;obtain⟨h',e⟩:=Qi0 hb c.natAbs c h (Qn _) hc λt=>by
  have:=hu t;rw[Gg,Gg]at this;rw[this,<-hh];grind
 exact⟨trim h',Tl _,λt=>by rw[I0,e]⟩
def sd(x0:Rat):Fw->Fw
 | []=>[]
 |_::p=>So p (Nk x0 (sd x0 p))
theorem Qir(x0 x:Rat):∀p,ev (sd x0 p) x=dq p x x0
 | []=>rfl
 |a::p=>by simp only[sd,dq];rw[Hm,Hd,Qir x0 x p]
theorem aZ(x0:Rat):∀(g:Fw) (n:Nat),(∀j,n<j->g.getD j 0=0)->∀j,n<=j->(sd x0 g).getD j 0=0
 | [],n,_,j,_=>by simp[sd]
 |
  a::p,0,h,j,_=>by
  have hp:∀j,p.getD j 0=0:=λj=>by have:=h (j+1) (by omega);rwa[Q0]at this
  simp only[sd];rw[Ss,Pv,hp,aZ x0 p 0 (λj _=>hp j) j (Qh _)];grind
 |
  a::p,n+1,h,j,hj=>by
  have hp:∀j,n<j->p.getD j 0=0:=λj hj=>by have:=h (j+1) (by omega);rwa[Q0]at this
  simp only[sd];rw[Ss,Pv,hp j (by omega),aZ x0 p n hp j (by omega)];grind
theorem dS{K:Rat}(hK:0≤K):∀(e:Nat) (g:Fw) (pts:Ft) (M:Rat),pts.length=e+1->pts.Nodup->(∀x∈pts,Gw (x:Rat)≤K)->(∀k,e<k->g.getD k 0=0)->(∀x∈pts,Gw (ev g (x:Rat))≤M)->∀k,Gw (g.getD k 0)≤(2*K+3)^e*M
 |_,_,[],_,h,_,_,_,_=>by simp at h
 |
  0,g,x0::xs,M,_,_,_,hg,hM=>λk=>by
  have h0:=hM x0 (by simp);rw[Xu];cases k with
  |
   zero =>
   have e:ev g (x0:Rat)=g.getD 0 0:=by
    cases g with
    |nil=>rfl
    |
     cons a p =>
     have hp:=E3 (p:=p) λj=>by have:=hg (j+1) (by omega);rwa[Q0]at this
     simp only[ev,hp,Zr];grind
   rw[<-e];grind
  |
   succ k =>
   rw[hg (k+1) (by omega),Sy];have:=Tz (ev g (x0:Rat));grind
 |
  e+1,g,x0::xs,M,hl,hn,hb,hg,hM=>λk=>by
  have hx0:=hb x0 (by simp);have hM0:=hM x0 (by simp);have hMn:0<=M:=Zi (Tz _) hM0;rw[List.nodup_cons]at hn;have ih:=dS hK e (sd x0 g) xs (2*M) (by simpa using hl) hn.2 (λx hx=>hb x (by simp[hx])) (λj hj=>aZ _ g (e+1) hg j (by omega)) λx hx=>by
   have h1:=hM x (by simp[hx]);have h2:=zP (x:Rat) (x0:Rat) g;rw[<-Qir]at h2;have hne:x-x0≠0:=λh=>hn.1 (by rw[show x0=x by omega];exact hx)
   have h3:=JZ hne;rw[Rat.intCast_sub]at h3;have h4:Gw (ev g (x:Rat)-ev g (x0:Rat))<=2*M:=by
    have:=Mn (ev g (x:Rat)) (-ev g (x0:Rat));rw[Az,show ev g (x:Rat)+-ev g (x0:Rat)=ev g (x:Rat)-ev g (x0:Rat) by grind]at this;clear hM hb hg;grind
   rw[h2,Ay]at h4;have h5:=Q7 h3 (Tz (ev (sd x0 g) x));clear hM hb hg;grind
  have e1:∀t,ev g t=ev (So [ev g x0] (So (Nk (-x0) (sd x0 g)) (0::sd x0 g))) t:=λt=>by
   have:=zP t (x0:Rat) g;rw[<-Qir]at this;simp only[Hm,Hd,ev];grind
  have hp1:1<=(2*K+3)^e:=(WQ (R:=2*K+3) (x:=0) (by grind) (by rw[Sy];grind) e).2;have hpM:=Cu (x:=(2*K+3)^e) (y:=M) (by grind) hMn;have hpM1:=Q7 hp1 hMn;rw[Xk,Lp e1 k,Ss,Ss,Pv];have a1:=ih k;have a2:Gw (-(x0:Rat)*(sd (x0:Rat) g).getD k 0)<=K*((2*K+3)^e*(2*M)):=Rq (by rw[Az];exact hx0) a1;have fin:∀u v w:Rat,Gw u<=M->Gw v<=K*((2*K+3)^e*(2*M))->Gw w<=(2*K+3)^e*(2*M)->Gw (u+(v+w))<=(2*K+3)^e*(2*K+3)*M:=λu v w h1 h2 h3=>by
   have b1:=Mn u (v+w);have b2:=Mn v w;clear ih e1 hM hb hg a1 a2;grind
  refine fin _ _ _ ?_ a2 ?_
  ·cases k with
   |zero=>rw[Zr];exact hM0
   |succ k=>rw[Q0,Wu,Sy];exact hMn
  ·cases k with
   |zero=>rw[Zr,Sy];clear ih e1 hM hb hg a1 a2 fin;grind
   |succ k=>rw[Q0];exact ih k
theorem Qlk{g:Fw}{e:Nat}(hg:∀k,e<k->g.getD k 0=0)(hz:¬∀t,ev g t=0){pts:Ft}(hn:pts.Nodup)(hr:∀x∈pts,ev g (x:Rat)=0):pts.length≤e:=by
 rcases Q8 e pts.length with h|h
 ·exfalso;obtain⟨K,hK,hb⟩:∃K:Rat,0≤K/\∀x∈pts,Gw (x:Rat)≤K:=by
   clear hn hr h
   induction pts with
   |nil=>exact⟨0,by decide,λx hx=>by cases hx⟩
   |
    cons y pts ih =>
    obtain⟨K,h1,h2⟩:=ih;refine⟨K+Gw (y:Rat),by have:=Tz (y:Rat);grind,λx hx=>?_⟩;have hy:=Tz (y:Rat);rcases Qj.1 hx with rfl|hx
    ·grind
    ·have:=h2 x hx;grind
  refine hz (E3 λk=>?_);have:=dS hK e g (pts.take (e+1)) 0 (by rw[Qz];omega) (hn.sublist (Us ..)) (λx hx=>hb x (Qq hx)) hg (λx hx=>by rw[hr x (Qq hx),Sy];exact Ql) k;have h2:=Tz (g.getD k 0);exact Qqm (by grind)
 ·exact h
def spots:Ft:=(List.range 19).map λi:Nat=>(i:Int)-9
theorem spots_nd:spots.Nodup:=by decide
theorem mN:∀x∈spots,x.natAbs≤9:=by decide
theorem EL{α:Type}(p:α->Bool):∀l:List α,(l.filter p).length+(l.filter λx => !p x).length=l.length
 | []=>rfl
 |
  x::l=>by
  have:=EL p l;cases h:p x <;> simp[h] <;> omega
def geo:Nat->Nat
 | 0=>0
 |n+1=>1+9*geo n
theorem Qaw{B:Rat}:∀(p:Ft),(∀z∈p,Gw (z:Rat)≤B)->vL 9 (cz p)≤B*(geo p.length:Nat)
 | [],_=>by simp only[cz,Jo,vL,geo,Vb];rw[show((0:Nat):Rat)=0 from rfl];grind
 |
  a::p,h=>by
  have h1:=Qaw p λz hz=>h z (Qi _ hz)
  have h2:=h a (Qw ..);simp only[cz,Zx,vL,geo,Zf]at *
  push_cast
  clear h;grind
theorem Qi8{m n:Nat}(h:m<=n):geo m<=geo n:=by
 induction h with
 |refl=>exact Qn _
 |step h ih=>simp only[geo];omega
def pz:Ft->Int->Int
 | [],_=>0
 |a::p,x=>a+x*pz p x
theorem FQ(x:Int):∀p,Gf p (x:Rat)=((pz p x:Int):Rat)
 | []=>rfl
 |a::p=>by simp only[Gf,pz,FQ x p];push_cast;rfl
theorem Mr(z:Int):Gw (z:Rat)=((z.natAbs:Nat):Rat):=by
 unfold Gw;rcases W4 z 0 with h|h
 ·have h1:(z:Rat)<((0:Int):Rat):=Js.2 h;rw[if_pos (by simpa using h1)];have:(z.natAbs:Int)=-z:=by omega
  have:=congrArg (λu:Int=>(u:Rat)) this
  push_cast at this
  exact this.symm
 ·have h1:((0:Int):Rat)<=(z:Rat):=Jy.2 h;have h1:(0:Rat)<=(z:Rat):=by simpa using h1
  rw[if_neg (by grind)];have:(z.natAbs:Int)=z:=by omega
  have:=congrArg (λu:Int=>(u:Rat)) this;exact this.symm
theorem Ad{p g h:Ft}{s:Nat}(hp:Bd s p)(hl:p.length<=10)(tp:Gh p)(tg:Gh g)(th:Gh h)(h0:p.length≠0)(e:∀t,Gf p t=Gf g t*Gf h t):Bd (s+69) g:=by
 have lg:0<g.length:=by
  rcases Qx g.length with e'|e'
  ·exact absurd (λt=>by rw[e,Dl e'];grind) (JC tp (by omega))
  ·exact e'
 have lh:0<h.length:=by
  rcases Qx h.length with e'|e'
  ·exact absurd (λt=>by rw[e,Dl e'];grind) (JC tp (by omega))
  ·exact e'
 have hlen:=S8 tg th tp e lg lh;obtain⟨q,hq⟩:=nmE (spots.filter λx => !decide (pz p x=0));have hr:(spots.filter λx=>decide (pz p x=0)).length<=9:=by
  refine Qlk (g:=cz p) (e:=9) (λk hk=>?_) (λh=>JC tp (by omega) λt=>by rw[<-Gg];exact h t) (spots_nd.sublist K6) λx hx=>?_
  ·rw[Nh,Qc,Qt (by omega)];rfl
  ·have:=(Jl.1 hx).2;rw[Gg,FQ,of_decide_eq_true this];rfl
 have hc:=EL (λx=>decide (pz p x=0)) spots;rw[<-hq]at hc;have hsl:spots.length=19:=by decide
 have hB:∀z∈p,Gw (z:Rat)≤((2^s:Nat):Rat):=λz hz=>by
  rw[Mr];have:=hp z hz;rw[Pn]at this;exact Zg.2 (Yn this)
 have key:=dS (K:=9) (by decide) 9 (cz g) (q.take 10) (((2^s*435848050:Nat)):Rat) (by rw[Qz];omega) ((spots_nd.sublist (by rw[hq];exact K6)).sublist (Us ..)) (λx hx=>by
  have hx:=Qq hx;rw[hq]at hx;have:=mN x (Jl.1 hx).1;rw[Mr]
  exact_mod_cast Zg.2 this) (λk hk=>by rw[Nh,Qc,Qt (by omega)];rfl) (λx hx=>by
  have hx:=Qq hx;rw[hq]at hx;obtain⟨hx1,hx2⟩:=Jl.1 hx;have hne:pz p x≠0:=by simpa using hx2
  have e1:=e (x:Rat);rw[FQ,FQ,FQ]at e1;have e2:pz p x=pz g x*pz h x:=by exact_mod_cast e1
  have hh:1<=(pz h x).natAbs:=by
   rcases Qx (pz h x).natAbs with e'|e'
   ·exact absurd (by rw[e2,Int.natAbs_eq_zero.1 e',Kk]) hne
   ·exact e'
  have h3:(pz g x).natAbs<=(pz p x).natAbs:=by
   rw[e2,Yd];exact Ya _ hh
  rw[Gg,FQ,Mr];refine Zi (Zg.2 h3) ?_;rw[<-Mr,<-FQ,<-Gg];refine Zi (MI (R:=9) (by
   have:=mN x hx1;rw[Mr]
   exact_mod_cast Zg.2 this) _) ?_
  refine Zi (Qaw p hB) ?_;have:2^s*geo p.length<=2^s*435848050:=Zl _ (Qe (Qi8 hl) (by decide));have:=Zg.2 this
  push_cast at this ⊢
  exact this)
 refine DC λk=>?_
 have h1:=key k;rw[Nh,Mr]at h1;have e3:(2*(9:Rat)+3)^9*((2^s*435848050:Nat):Rat)=(((794280046581*(2^s*435848050)):Nat):Rat):=by
  rw[show(2*(9:Rat)+3)^9=794280046581 by grind]
  push_cast;rfl
 rw[e3]at h1;have h2:=Zg.1 h1;rw[Pn];refine Xj h2 ?_;have:794280046581*(2^s*435848050)=2^s*(794280046581*435848050):=by
  rw[Wp]
 rw[this,Xs];exact Nat.mul_lt_mul_of_pos_left (by decide) (Zy (by decide))
theorem tG{l:Ft}{d:Int}(h:∀z∈l,d∣z):d∣((Tx l:Nat):Int):=by
 have key:∀(l:Ft) (g:Nat),d.natAbs∣g->(∀z∈l,d∣z)->d.natAbs∣l.foldl (λg z=>Nat.gcd g z.natAbs) g:=by
  intro l
  induction l with
  |nil=>exact λg h _=>h
  |cons z l ih=>exact λg hg h=>ih _ (Nat.dvd_gcd hg (X3.2 (h z (Qw ..)))) λu hu=>h u (Qi _ hu)
 have:=key l 0 (Nat.dvd_zero _) h;exact X3.1 (by rw[Zw];exact this)
theorem HZ(p:Ft)(c:Int)(k:Nat):(p.map (· / c)).getD k 0=p.getD k 0 / c:=by
 rw[Qc,Qc,Zb];cases p[k]? <;> simp
theorem Dx(p:Ft)(c:Int)(k:Nat):(Al p c).getD k 0=p.getD k 0 / c:=by
 unfold Al;rw[Lc,HZ]
theorem xO{p:Ft}{c:Int}(h:∀z∈p,c∣z)(t:Rat):Gf p t=(c:Rat)*Gf (Al p c) t:=by
 have:=Ly c 0 t (max p.length (Al p c).length) (Al p c) [] p (by omega) (by simp) (by omega) λk=>by
  rw[Dx];have hd:c∣p.getD k 0:=by
   rw[Qc];cases e:p[k]? with
   |none=>exact Int.dvd_zero _
   |some z=>exact h z (Qa e)
  rw[W5 hd];simp
 rw[this];simp only[Gf];push_cast;grind
theorem O5{c:Int}(h:c≠0):(c:Rat)≠0:=λe=>h (by exact_mod_cast e)
theorem As{p q:Ft}{c:Rat}(tp:Gh p)(tq:Gh q)(hc:c≠0)(h:∀t,Gf p t=c*Gf q t):p.length=q.length:=by
 have key:∀{p q:Ft} {c:Rat},Gh p->Gh q->c≠0->(∀t,Gf p t=c*Gf q t)->p.length<=q.length:=λ{p q c} tp tq hc h=>by
  rcases Q8 q.length p.length with e|e
  ·have h1:=Rz tp (by omega);have:=Lp (p:=cz p) (q:=Nk c (cz q)) (λt=>by rw[Gg,Hd,Gg,h]) (p.length-1);rw[Nh,Pv,Nh,Qc (l:=q),Qt (by omega)]at this;have:((p.getD (p.length-1) 0:Int):Rat)=0:=by rw[this];simp
   exact absurd (by exact_mod_cast this) h1
  ·exact e
 refine Vq (key tp tq hc h) (key (c:=1 / c) tq tp (λe=>?_) λt=>?_)
 ·have:=Zc (a:=1) hc;rw[e]at this;grind
 ·rw[h];have:=Zc (a:=1) hc;grind
theorem M6{p:Ft}(tp:Gh p)(h:p.length≠0):Gh (Gm p)/\(Gm p).length=p.length/\Prm (Gm p)/\0<Gp (Gm p)/\(∀s,Bd s p->Bd s (Gm p))/\Rl p≠0/\∀t,Gf p t=(Rl p:Rat)*Gf (Gm p) t:=by
 have h0:=Qb7 tp h;have e:Gm p=Al p (Rl p):=by unfold Gm;rw[if_neg h]
 have h1:=xO (p:=p) (c:=Rl p) HO;have hl:=As tp (JU p (Rl p)) (O5 h0) h1;have hcp:0<Mz p:=by
  have:=ZP tp h;unfold Mz at this ⊢;omega
 rw[e];refine⟨JU _ _,hl.symm,λd hd=>?_,?_,λs hs=>DD hs _,h0,h1⟩
 ·have h2:∀z∈p,d*Rl p∣z:=λz hz=>by
   obtain⟨i,hi⟩:=Zp.1 hz;have h3:=hd i;rw[Dx,Qc,hi]at h3;obtain⟨k,hk⟩:=h3;have h4:=HO z hz;refine⟨k,?_⟩;have:z / Rl p*Rl p=z:=Uc h4;rw[<-this];rw[show z / Rl p=d*k from hk,Int.mul_right_comm]
  have h3:=tG h2;have h4:Rl p∣((Tx p:Nat):Int)/\((Tx p:Nat):Int)∣Rl p:=by
   unfold Rl Mz;split
   ·exact⟨Fb.2 (W2 _),Int.dvd_neg.2 (W2 _)⟩
   ·exact⟨W2 _,W2 _⟩
  obtain⟨k,hk⟩:=V6 h3 h4.2;refine⟨k,?_⟩;have:Rl p*(d*k)=Rl p*1:=by rw[Ui,<-Int.mul_assoc,Kj (Rl p) d,<-hk]
  exact(Int.eq_of_mul_eq_mul_left h0 this).symm
 ·have h2:Gp (Al p (Rl p))=Gp p / Rl p:=by unfold Gp;rw[<-hl,Dx]
  have h3:Rl p∣Gp p:=HO _ (sH h);have h5:Gp p / Rl p*Rl p=Gp p:=Uc h3;rw[h2];have h6:=Lq tp h;rcases Yg (Gp p / Rl p) 0 with e1|e1|e1
  ·exfalso;by_cases hn:Gp p<0
   ·have:Rl p=-Mz p:=by unfold Rl;rw[if_pos hn]
    have:0<Gp p / Rl p*Rl p:=K9 e1 (by omega);omega
   ·have:Rl p=Mz p:=by unfold Rl;rw[if_neg hn]
    have:Gp p / Rl p*Rl p<0:=Int.mul_neg_of_neg_of_pos e1 (by omega);omega
  ·rw[e1]at h5;omega
  ·exact e1
theorem pP{r:Ft}(tr:Gh r):∃c:Rat,0<c/\∀t,Gf r t=c*Gf (I2 r) t:=by
 unfold I2;by_cases h:r.length=0
 ·rw[if_pos h];exact⟨1,by decide,λt=>by rw[Dl h,Dl rfl];grind⟩
 ·rw[if_neg h];have h1:0<Mz r:=by
   have:=ZP tr h;unfold Mz at this ⊢;omega
  have h2:((0:Int):Rat)<(Mz r:Rat):=Js.2 h1;exact⟨Mz r,by simpa using h2,xO ZS⟩
theorem ZN(x:Int)(t:Rat):∀i,Gf (mono i x) t=(x:Rat)*t^i
 | 0=>by simp only[mono,Ue,J5,Gf,Xu];grind
 |
  i+1=>by
  have ih:=ZN x t i;simp only[mono,Yh,Xa,Gf]at *;rw[ih,Xk];push_cast;grind
theorem kB(x:Int)(b:Ft)(i k:Nat):(Gq (trim (mono i x)) b).getD k 0=if i<=k then x*b.getD (k-i) 0 else 0:=by
 have e:∀t,Gf (Gq (trim (mono i x)) b) t=Gf (List.replicate i 0++b.map (x * ·)) t:=λt=>by
  rw[Gn,I0,ZN];have h2:∀i,Gf (List.replicate i 0++b.map (x * ·)) t=t^i*((x:Rat)*Gf b t):=λi=>by
   induction i with
   |
    zero =>
    simp only[Ue,J5,Xu];have:=Ly x 0 t (max b.length (b.map (x * ·)).length) b [] (b.map (x * ·)) (by omega) (by simp) (by omega) λk=>by
     rw[Qc,Qc,Zb];cases b[k]? <;> simp
    rw[this];simp only[Gf];push_cast;grind
   |succ i ih=>simp only[Yh,Xa,Gf,ih,Xk];push_cast;grind
  rw[h2];grind
 rw[Lx e k,Qc,List.getElem?_append,Jj];by_cases h:i<=k
 ·rw[if_neg (by omega),if_pos h,Zb,Qc];cases b[k-i]? <;> simp
 ·rw[if_pos (by omega),if_neg h,Yu,if_pos (by omega)];rfl
theorem kK{p:Ft}{n:Nat}(tp:Gh p)(h:p.length<=n+1)(h0:p.getD n 0=0):p.length<=n:=by
 rcases Q8 n p.length with e|e
 ·have:=Rz tp (by omega);rw[show p.length-1=n by omega]at this;exact absurd h0 this
 ·exact e
theorem Qre{b r:Ft}{i:Nat}(tr:Gh r)(h:r.length<=b.length+i)(hb:b.length≠0){x:Int}(hx:x=if r.length=b.length+i then Gp r else 0):(str b (Gp b) i x r).length<b.length+i:=by
 have hl:=kG (c:=Gp b) (x:=x) (i:=i) (b:=b) (r:=r);have:=kK (p:=str b (Gp b) i x r) (n:=b.length+i-1) (Gk _ _) (by omega) (by
  unfold str;rw[D9,Tv,kB,if_pos (by omega),hx,show b.length+i-1-i=b.length-1 by omega]
  split
  ·rename_i he;unfold Gp;rw[he,Int.sub_eq_zero]
  ·rw[Qc (l:=r),Qt (by omega)];simp)
 omega
theorem Qmk(b r:Ft)(c:Int)(i:Nat)(x:Int)(t:Rat):(c:Rat)*Gf r t=(x:Rat)*t^i*Gf b t+Gf (str b c i x r) t:=by
 unfold str;rw[Bq,Tf,Gn,I0,ZN];grind
theorem Qk0(b:Ft)(c:Int):∀(i:Nat) (q r:Ft),∃X:Fw,∀t,((c^i:Int):Rat)*Gf r t=ev X t*Gf b t+Gf (pA b c i (q,r)).2 t
 | 0,q,r=>⟨[],λt=>by simp only[pA,ev];rw[Int.pow_zero];push_cast;grind⟩
 |
  i+1,q,r=>by
  obtain⟨x,hx⟩:=nmE (if r.length=b.length+i then Gp r else 0);obtain⟨X,hX⟩:=Qk0 b c i (stq c i x q) (str b c i x r);obtain⟨m,hm⟩:∃m:Fw,∀t,ev m t=(x:Rat)*t^i:=⟨cz (mono i x),λt=>by rw[Gg,ZN]⟩;refine⟨So (Nk ((c^i:Int):Rat) m) X,λt=>?_⟩;rw[VS hx,Hm,Hd,hm];have h1:=hX t;have h2:=Qmk b r c i x t;rw[Int.pow_succ]
  push_cast at h1 ⊢
  have:(c:Rat)^i*c*Gf r t=(c:Rat)^i*((c:Rat)*Gf r t):=by grind
  rw[this,h2];grind
theorem wC{b:Ft}(hb:b.length≠0):∀(i:Nat) (q r:Ft),Gh r->r.length<b.length+i->Gh (pA b (Gp b) i (q,r)).2/\(pA b (Gp b) i (q,r)).2.length<b.length
 | 0,q,r,tr,h=>⟨tr,h⟩
 |
  i+1,q,r,tr,h=>by
  rw[VS rfl];exact wC hb i _ _ (Gk _ _) (Qre tr (by omega) hb rfl)
theorem Qkz{b:Ft}{c:Int}{t:Nat}(hb:Bd t b)(hc:Gy c<=t):∀(i u:Nat) (q r:Ft),i<=64->Bd u r->Bd (u+i*(t+8)) (pA b c i (q,r)).2
 | 0,u,q,r,_,h=>by simpa[pA]using h
 |
  i+1,u,q,r,hi,h=>by
  rw[VS rfl];have hx:Gy (if r.length=b.length+i then Gp r else 0)<=u:=by
   split
   ·exact Nl h
   ·rw[C5];exact Qh _
  have:=Qkz hb hc i (u+t+8) (stq c i (if r.length=b.length+i then Gp r else 0) q) (str b c i (if r.length=b.length+i then Gp r else 0) r) (by omega) (bZ h hb hc hx (by omega));exact Gd this (by rw[Xq];omega)
theorem IA{c:Int}(h:c<0):∀k:Nat,(k % 2=1->c^k<0)/\(k % 2=0->0<c^k)
 | 0=>⟨λh=>by omega,λ_=>by rw[Int.pow_zero];decide⟩
 |
  k+1=>by
  obtain⟨i1,i2⟩:=IA h k;rw[Int.pow_succ];exact⟨λhk=>Vw (i2 (by omega)) h,λhk=>K9 (i1 (by omega)) h⟩
theorem RG{a b:Ft}(ta:Gh a)(tb:Gh b)(hb:b.length≠0)(hl:a.length<=60):Gh (Rv a b)/\(Rv a b).length<b.length/\(∀s,Bd s a->Bd s b->Bd (s+(a.length+1-b.length)*(s+8)) (Rv a b)) /\
 ∃u v:Rat,0<u/\0<v/\∃X:Fw,∀t,u*Gf a t=ev X t*Gf b t+v*Gf (Rv a b) t:=by
 obtain⟨k,hk⟩:=nmE (a.length+1-b.length);have h1:Gh (Nx a b)/\(Nx a b).length<b.length:=wC hb _ _ _ ta (by omega);obtain⟨X,hX⟩:=Qk0 b (Gp b) k [] a;have hX:∀t,(((Gp b)^k:Int):Rat)*Gf a t=ev X t*Gf b t+Gf (Nx a b) t:=by unfold Nx;rw[<-hk];exact hX
 have h2:=RY (a:=a) (b:=b) (r:=Nx a b) (n:=(Nx a b).length) (s:=(Nx a b).foldl (λm z=>m+Gy z) 0) h1.1 (Qn _) (λz hz=>by
  have key:∀(l:Ft) (m:Nat),m≤l.foldl (λm z=>m+Gy z) m/\∀z∈l,Gy z≤l.foldl (λm z=>m+Gy z) m:=by
   intro l
   induction l with
   |nil=>exact λm=>⟨Qn _,λz hz=>by cases hz⟩
   |
    cons y l ih =>
    intro m;obtain⟨i1,i2⟩:=ih (m+Gy y);refine⟨by simp only[Z0];omega,λz hz=>?_⟩;simp only[Z0];rcases Qj.1 hz with rfl|hz
    ·omega
    ·exact i2 z hz
  exact(key _ 0).2 z hz)
 have h3:=IL (r:=Ck a b (Nx a b)) (n:=(Nx a b).length) h2.2.1 h2.2.2;refine⟨h3.1,by unfold Rv;omega,λs ha hbs=>?_,?_⟩
 ·have h4:=Qkz (c:=Gp b) hbs (Nl hbs) k s [] a (by omega) ha;have h5:=RY (a:=a) (b:=b) (n:=(Nx a b).length) h1.1 (Nat.le_refl _) (show Bd (s+k*(s+8)) (Nx a b) by unfold Nx;rw[<-hk];exact h4);rw[<-hk];exact(IL h5.2.1 h5.2.2).2.2
 ·obtain⟨v,vp,hv⟩:=pP h2.1;have hc:=Lq tb hb;by_cases ht:k % 2=1/\Gp b<0
  ·have e1:Ck a b (Nx a b)=Nn (Nx a b):=by unfold Ck;rw[<-hk,if_pos ht]
   have hneg:(Gp b)^k<0:=(IA ht.2 k).1 ht.1;have h5:(((Gp b)^k:Int):Rat)<((0:Int):Rat):=Js.2 hneg;have h5:(((Gp b)^k:Int):Rat)<0:=by simpa using h5
   refine⟨-(((Gp b)^k:Int):Rat),v,by grind,vp,Nk (-1) X,λt=>?_⟩;have h6:=hX t;have h7:=hv t;rw[e1,ZL]at h7;show _=_+v*Gf (I2 (Ck a b (Nx a b))) t;rw[e1,<-h7,Hd];grind
  ·have e1:Ck a b (Nx a b)=Nx a b:=by unfold Ck;rw[<-hk,if_neg ht]
   have hpos:0<(Gp b)^k:=by
    rcases Wg hc with h|h
    ·exact(IA h k).2 (by omega)
    ·exact Int.pow_pos h
   have h5:((0:Int):Rat)<(((Gp b)^k:Int):Rat):=Js.2 hpos;refine⟨(((Gp b)^k:Int):Rat),v,by simpa using h5,vp,X,λt=>?_⟩;have h7:=hv t;show _=_+v*Gf (I2 (Ck a b (Nx a b))) t;rw[<-h7,e1,hX]
theorem Ik{p:Ft}(h1:p.length<=64)(h2:Bd 16777216 p):qQ p=some p:=by
 unfold qQ;rw[if_pos ⟨h1,Jd.2 λz hz=>Nat.ble_eq_true_of_le (h2 z hz)⟩]
theorem A4{a b:Ft}{g:Fw}{c:Rat}(hc:c≠0)(h:∀t,Gf a t=c*Gf b t):Lj g (cz a)↔Lj g (cz b):=by
 constructor
 ·rintro⟨u,hu⟩
  refine⟨Nk (1 / c) u,λt=>?_⟩;have h1:=hu t;rw[Gg,h]at h1;rw[Gg,Hd];have h2:1 / c*c=1:=Zc hc;have:Gf b t=1 / c*(c*Gf b t):=by grind
  rw[this,h1];grind
 ·rintro⟨u,hu⟩
  refine⟨Nk c u,λt=>?_⟩;have h1:=hu t;rw[Gg]at h1;rw[Gg,Hd,h,h1];grind
structure Gc(g a b:List Int):Prop where
 t:Gh g
 da:Lj (cz g) (cz a)
 db:Lj (cz g) (cz b)
 c:∃U V,∀t,Gf g t=ev U t*Gf a t+ev V t*Gf b t
 n:g.length≠0
theorem Gc.scale{g a b g' a' b':Ft}{x y z:Rat}(h:Gc g a b)(hx:x≠0)(hy:y≠0)(hz:z≠0)(tg:Gh g')(eg:∀t,Gf g t=x*Gf g' t)(ea:∀t,Gf a' t=y*Gf a t)(eb:∀t,Gf b' t=z*Gf b t):Gc g' a' b':=by
 have hx1:1 / x*x=1:=Zc hx;have hy1:1 / y*y=1:=Zc hy;have hz1:1 / z*z=1:=Zc hz;have hg:∀c,Lj (cz g) c->Lj (cz g') c:=λc ⟨u,hu⟩=>⟨Nk x u,λt=>by rw[hu,Gg,Gg,eg,Hd];grind⟩
 obtain⟨U,V,hc⟩:=h.c;refine⟨tg,hg _ ((A4 hy ea).2 h.da),hg _ ((A4 hz eb).2 h.db),⟨Nk (1 / x*(1 / y)) U,Nk (1 / x*(1 / z)) V,λt=>?_⟩,?_⟩
 ·have h1:=hc t;have h2:Gf g' t=1 / x*Gf g t:=by rw[eg];grind
  rw[h2,h1,Hd,Hd,ea,eb];generalize ev U t=u at *;generalize ev V t=v at *;grind
 ·rw[<-As h.t tg hx eg];exact h.n
theorem Qqd:∀d:Nat,1<=d->d+2<=3^d
 | 0,h=>by omega
 | 1,_=>by decide
 |d+2,_=>by have:=Qqd (d+1) (by omega);rw[Zq];omega
theorem nK{k:Nat}{a b:Ft}(ta:Gh a)(tb:Gh b)(hb:b.length≠0)(hl:a.length<=60)(hbl:b.length<=60)(hr:Bd 16777216 (Rv a b))(ih:∃g,MH k b (Rv a b)=some g/\Gc g b (Rv a b)):∃g,MH (k+1) a b=some g/\Gc g a b:=by
 obtain⟨h1,h2,h3,u,v,up,vp,X,hX⟩:=RG ta tb hb hl;obtain⟨g,e,hg⟩:=ih;refine⟨g,?_,?_⟩
 ·simp only[MH];rw[if_neg hb,Ik (by omega) hr];exact e
 ·obtain⟨U,V,hc⟩:=hg.c;obtain⟨y,hy⟩:=hg.da;obtain⟨z,hz⟩:=hg.db;have hu:1 / u*u=1:=Hu up;have hv:1 / v*v=1:=Hu vp;refine⟨hg.t,⟨Nk (1 / u) (So (H7 X y) (Nk v z)),λt=>?_⟩,hg.da,⟨Nk (u / v) V,So U (Nk (-1 / v) (H7 V X)),λt=>?_⟩,hg.n⟩
  ·have a1:=hX t;have a2:=hy t;have a3:=hz t;rw[Gg,Gg]at a2 a3;rw[Gg,Gg,Hd,Hm,Gj,Hd];have:Gf a t=1 / u*(u*Gf a t):=by grind
   rw[this,a1,a2,a3];grind
  ·have a1:=hX t;have a2:=hc t;rw[Hd,Hm,Hd,Gj,a2];have:Gf (Rv a b) t=1 / v*(v*Gf (Rv a b) t):=by grind
   rw[this,show v*Gf (Rv a b) t=u*Gf a t-ev X t*Gf b t by grind,Yp,Yp,Yp];grind
theorem Qcz{k:Nat}{a:Ft}(ta:Gh a)(ha:a.length≠0):∃g,MH (k+1) a []=some g/\Gc g a [] :=
 ⟨a,rfl,ta,dvd_refl _,⟨[],λt=>by simp only[cz,Jo,ev];grind⟩,⟨[1],[],λt=>by rw[S9];simp only[ev];grind⟩,ha⟩
theorem MR{s:Nat}:∀(k:Nat) (a b:Ft),Gh a->Gh b->b.length<k->b.length<a.length->a.length<=60->Bd s a->Bd s b->(s+8)*3^(a.length-1)<=16777216->∃g,MH k a b=some g/\Gc g a b
 | 0,_,_,_,_,h,_,_,_,_,_=>by omega
 |
  k+1,a,b,ta,tb,hk,hab,hl,ba,bb,hs=>by
  by_cases hb:b.length=0
  ·rw[Qf hb];exact Qcz ta (by omega)
  ·obtain⟨h1,h2,h3,_⟩:=RG ta tb hb hl;have h3:=h3 s ba bb;obtain⟨m,hm⟩:=nmE (a.length-b.length);have e1:a.length+1-b.length=m+1:=by omega
   rw[e1]at h3;have e2:s+(m+1)*(s+8)+8=(m+2)*(s+8):=by
    rw[show m+2=(m+1)+1 by omega,Xq (m+1)];omega
   have e3:(m+2)*(s+8)*3^(b.length-1)<=(s+8)*3^(a.length-1):=by
    rw[show a.length-1=m+(b.length-1) by omega,Xs,<-Xy,Zo (s+8)];exact Qy _ (Qy _ (Qqd m (by omega)))
   have e4:s+(m+1)*(s+8)<=16777216:=by
    have:(m+2)*(s+8)<=(m+2)*(s+8)*3^(b.length-1):=Ya _ (Zy (by decide));omega
   refine nK ta tb hb hl (by omega) (Gd h3 e4) (MR (s:=s+(m+1)*(s+8)) k b (Rv a b) tb h1 (by omega) h2 (by omega) (Gd bb (by omega)) h3 ?_);rw[e2];omega
def Szz(n s:Nat):Prop:=n<=10/\2*(s+8)*3^(n-1)<=16777216
theorem Qmw{n s:Nat}(hz:Szz n s){a b:Ft}(ta:Gh a)(tb:Gh b)(la:a.length<=n)(lb:b.length<=n)(ba:Bd s a)(bb:Bd s b)(h0:a.length≠0\/b.length≠0):∃g,MH 66 a b=some g/\Gc g a b:=by
 obtain⟨hn,hz⟩:=hz;have hp:∀l,l<=n->(s+8)*3^(l-1)<=8388608:=λl hl=>by
  have:(s+8)*3^(l-1)<=(s+8)*3^(n-1):=Zl _ (Zs (by decide) (by omega));rw[Xy]at hz;omega
 rcases Q8 b.length a.length with h|h
 ·exact MR 66 a b ta tb (by omega) h (by omega) ba bb (by have:=hp a.length la;omega)
 ·by_cases hb:b.length=0
  ·rw[Qf hb];exact Qcz ta (by omega)
  ·obtain⟨h1,h2,h3,_⟩:=RG ta tb hb (by omega);have h3:=h3 s ba bb;have h4:(a.length+1-b.length)*(s+8)<=1*(s+8):=Qy _ (by omega);have h5:=hp b.length lb;have h6:(s+8)*1<=(s+8)*3^(b.length-1):=Zl _ (Zy (by decide));refine nK ta tb hb (by omega) (by omega) (Gd h3 (by omega)) (MR (s:=2*s+8) 65 b (Rv a b) tb h1 (by omega) h2 (by omega) (Gd bb (by omega)) (Gd h3 (by omega)) ?_);rw[show 2*s+8+8=2*(s+8) by omega,Xy];omega
theorem jG:Gm []=[]:=rfl
theorem Bt{a:Ft}(ta:Gh a):Gh (Gm a)/\(Gm a).length=a.length/\(∀s,Bd s a->Bd s (Gm a))/\∃c:Rat,c≠0/\∀t,Gf a t=c*Gf (Gm a) t:=by
 by_cases h:a.length=0
 ·rw[Qf h];exact⟨rfl,rfl,λs _=>YV,1,by decide,λt=>by rw[jG];grind⟩
 ·obtain⟨h1,h2,h3,h4,h5,h6,h7⟩:=M6 ta h;exact⟨h1,h2,h5,_,O5 h6,h7⟩
theorem FP{n s:Nat}(hz:Szz n s){a b:Ft}(ta:Gh a)(tb:Gh b)(la:a.length<=n)(lb:b.length<=n)(ba:Bd s a)(bb:Bd s b)(h0:a.length≠0\/b.length≠0):∃g,XX a b=some g/\Gc g a b/\Prm g/\0<Gp g:=by
 obtain⟨a1,a2,a3,x,xn,ax⟩:=Bt ta;obtain⟨b1,b2,b3,y,yn,bx⟩:=Bt tb;obtain⟨g,e,hg⟩:=Qmw hz a1 b1 (by omega) (by omega) (a3 s ba) (b3 s bb) (by omega);obtain⟨g1,g2,g3,g4,g5,g6,g7⟩:=M6 hg.t hg.n;refine⟨Gm g,?_,hg.scale (O5 g6) xn yn g1 g7 ax bx,g3,g4⟩;unfold XX;rw[e];rfl
theorem Qfi{a:Ft}(ta:Gh a):XX [] a=some (Gm (Gm a)):=by
 unfold XX;rw[jG];by_cases h:(Gm a).length=0
 ·have e:Gm a=[]:=Qf h;rw[e];rfl
 ·have e:Rv [] (Gm a)=[]:=by
   have e1:Nx [] (Gm a)=[]:=by unfold Nx;rw[show([]:Ft).length+1-(Gm a).length=0 by simp;omega];rfl
   unfold Rv;rw[e1];unfold Ck
   split <;> rfl
  have:MH 66 [] (Gm a)=some (Gm a):=by
   show(if (Gm a).length=0 then _ else _)=_;rw[if_neg h,e];rfl
  rw[this];rfl
theorem dG{n s:Nat}(hz:Szz n s){a b:Ft}(ta:Gh a)(tb:Gh b)(la:a.length<=n)(lb:b.length<=n)(ba:Bd s a)(bb:Bd s b)(h0:a.length≠0):∃g,pS a b=some g/\Gc g a b/\Prm g/\0<Gp g:=by
 obtain⟨a1,a2,a3,x,xn,ax⟩:=Bt ta;obtain⟨b1,b2,b3,y,yn,bx⟩:=Bt a1;obtain⟨g,e,hg,h1,h2⟩:=FP hz b1 tb (by omega) lb (b3 s (a3 s ba)) bb (by omega);refine⟨g,?_,hg.scale (x:=1) (y:=x*y) (z:=1) (by decide) (λh=>(Xn.1 h).elim xn yn) (by decide) hg.t (λt=>by grind) (λt=>by rw[ax,bx];grind) (λt=>by grind),h1,h2⟩;unfold pS;rw[Qfi ta];exact e
theorem Qcy:∀{p q:Fw} {m n:Nat},HD p m->HD q n->(H7 p q).getD (m+n) 0=p.getD m 0*q.getD n 0
 | [],q,m,n,h,_=>absurd (by simp) h.1
 |
  a::p,q,0,n,h,h'=>by
  have h1:∀k,p.getD k 0=0:=λk=>by have:=h.2 (k+1) (by omega);rwa[Q0]at this
  simp only[H7];rw[Ss,Pv,Zr,Xd];cases n with
  |zero=>rw[Zr];grind
  |succ n=>rw[Q0,NJ h1];grind
 |
  a::p,q,m+1,n,h,h'=>by
  have ih:=Qcy (p:=p) (q:=q) (m:=m) ⟨by have:=h.1;rwa[Q0]at this,λk hk=>by have:=h.2 (k+1) (by omega);rwa[Q0]at this⟩ h';simp only[H7];rw[Ss,Pv,show m+1+n=(m+n)+1 by omega,Q0,h'.2 _ (by omega),ih,Q0];grind
theorem VZ{a b c:Ft}(ta:Gh a)(tb:Gh b)(tc:Gh c)(h:∀t,Gf c t=Gf a t*Gf b t)(la:0<a.length)(lb:0<b.length):Gp c=Gp a*Gp b:=by
 have h1:=WO ta la;have h2:=WO tb lb;have h3:=Qcy h1 h2;have hl:=S8 ta tb tc h la lb;rw[<-Lp (p:=cz c) (λt=>by rw[Gj,Gg,Gg,Gg,h]),Nh,Nh,Nh,show a.length-1+(b.length-1)=c.length-1 by omega]at h3;unfold Gp;exact_mod_cast h3
theorem Rp{a b c:Ft}(tc:Gh c)(hc:c.length≠0)(h:∀t,Gf c t=Gf a t*Gf b t):0<a.length/\0<b.length:=by
 constructor
 ·rcases Qx a.length with e|e
  ·exact absurd (λt=>by rw[h,Dl e];grind) (JC tc (by omega))
  ·exact e
 ·rcases Qx b.length with e|e
  ·exact absurd (λt=>by rw[h,Dl e];grind) (JC tc (by omega))
  ·exact e
theorem wP{b:Ft}(tb:Gh b)(hb:b.length≠0):∀(i:Nat) (a q h:Ft),Gh a->Gh h->(∀t,Gf a t=Gf b t*Gf h t)->a.length<b.length+i->i<=q.length->(∀j,j<i->q.getD j 0=0)->∃q',wS b i a q=some q'/\q'.length=q.length/\∀t,Gf q' t=Gf q t+Gf h t
 |
  0,a,q,h,ta,th,e,hl,_,_=>by
  have ha:a.length=0:=by
   rcases Qx a.length with e'|e'
   ·exact e'
   ·obtain⟨p1,p2⟩:=Rp ta (by omega) e;have:=S8 tb th ta e p1 p2;omega
  refine⟨q,by simp only[wS];rw[if_pos ha],rfl,λt=>?_⟩;have:∀t,Gf h t=0:=λt=>by
   have:=LD (p:=cz b) (q:=cz h) (r:=[]) (λh0=>JC tb (by omega) λt=>by rw[<-Gg];exact h0 t) (λt=>by rw[Gg,Gg,<-e,Dl ha];simp only[ev];grind) t;rwa[Gg]at this
  rw[this];grind
 |
  i+1,a,q,h,ta,th,e,hl,hq,h0=>by
  simp only[wS];by_cases hlt:a.length<b.length+i
  ·rw[if_pos hlt];exact wP tb hb i a q h ta th e hlt (by omega) λj hj=>h0 j (by omega)
  ·rw[if_neg hlt];obtain⟨p1,p2⟩:=Rp ta (by omega) e;have hln:=S8 tb th ta e p1 p2;have hld:=VZ tb th ta e p1 p2;have hlb:=Lq tb hb;rw[hld,if_pos (Int.mul_emod_right _ _),X8 _ hlb];have hli:h.length=i+1:=by omega
   have e2:∀t,Gf (Ma a (Gq (trim (mono i (Gp h))) b)) t=Gf b t*Gf (Ma h (mono i (Gp h))) t:=λt=>by
    rw[Bq,Bq,Gn,I0,e];grind
   have hl2:(Ma a (Gq (trim (mono i (Gp h))) b)).length<b.length+i:=by
    have hl:=Qbn (i:=i) (x:=Gp h) (b:=b) (a:=a);unfold sta at hl;have:=kK (p:=Ma a (Gq (trim (mono i (Gp h))) b)) (n:=b.length+i-1) (Gk _ _) (by omega) (by
     rw[D9,kB,if_pos (by omega),show b.length+i-1-i=b.length-1 by omega,show b.length+i-1=a.length-1 by omega];have:Gp a=a.getD (a.length-1) 0:=rfl;rw[<-this,hld];unfold Gp;rw[Kj,Int.sub_eq_zero])
    omega
   obtain⟨q',h1,h2,h3⟩:=wP tb hb i _ (q.set i (Gp h)) (Ma h (mono i (Gp h))) (Gk _ _) (Gk _ _) e2 hl2 (by simp;omega) λj hj=>by
    rw[Qc,Jz,if_neg (by omega),<-Qc];exact h0 j (by omega)
   refine⟨q',h1,by rw[h2,Jk],λt=>?_⟩;rw[h3,wT q i _ t (by omega),h0 i (by omega),Bq,ZN]
   push_cast;grind
theorem Qlb{a b h:Ft}{s:Nat}(ta:Gh a)(tb:Gh b)(th:Gh h)(ha:a.length≠0)(la:a.length<=10)(ba:Bd s a)(hs:s+69<=16777216)(e:∀t,Gf a t=Gf b t*Gf h t):JY a b=some h:=by
 obtain⟨p1,p2⟩:=Rp ta ha e;have hln:=S8 tb th ta e p1 p2;obtain⟨q,h1,h2,h3⟩:=wP tb (by omega) (a.length+1-b.length) a (List.replicate (a.length+1-b.length) 0) h ta th e (by omega) (by simp) λj _=>Ty _ _
 have h4:trim q=h:=Om (Tl _) th λt=>by rw[I0,h3,jZ];grind
 unfold JY;rw[if_neg (by omega),h1];show qQ (trim q)=_;rw[h4];exact Ik (by omega) (Gd (Ad ba la ta th tb ha λt=>by rw[e];grind) (by omega))
structure Pr1(p:List Int):Prop where
 t:Gh p
 m:Prm p
 l:0<Gp p
theorem Pr1.n{p:Ft}(h:Pr1 p):p.length≠0:=λe=>by
 have:=h.l;rw[Qf e]at this;exact absurd this (by decide)
theorem Qer{p:Ft}(tp:Gh p)(h:p.length≠0):Pr1 (Gm p):=by
 obtain⟨h1,h2,h3,h4,_⟩:=M6 tp h;exact⟨h1,h3,h4⟩
theorem Pr1.one{p:Ft}(h:Pr1 p)(hl:p.length<2):p=[1]:=by
 have hn:=h.n;obtain⟨c,rfl⟩:∃c,p=[c]:=Jx.1 (by omega);have h1:=h.m c λk=>by cases k <;> simp
 have h2:0<c:=h.l;have:=Int.le_of_dvd (by decide) h1;rw[show c=1 by omega]
theorem Qcc{p g h:Ft}(hp:Prm p)(e:∀t,Gf p t=Gf g t*Gf h t):Prm h:=λd hd=>by
 refine hp d λk=>?_
 have:=Lx (p:=p) (q:=Gq g h) (λt=>by rw[e,Gn]) k;rw[this];have e2:∀t,Gf (Gq g h) t=(d:Rat)*Gf (Gq g (h.map (· / d))) t:=λt=>by
  have h1:Gf h t=(d:Rat)*Gf (h.map (· / d)) t:=by
   have:=Ly d 0 t (max h.length (h.map (· / d)).length) (h.map (· / d)) [] h (by omega) (by simp) (by omega) λk=>by
    rw[HZ,W5 (hd k)];simp
   rw[this];simp only[Gf];push_cast;grind
  rw[Gn,Gn,h1];grind
 have:=Lx (p:=Gq g h) (q:=Gs (Gq g (h.map (· / d))) d) (λt=>by rw[e2,Tf];grind) k;rw[this,Tv];exact Vz _ _
theorem Qca{p g h:Ft}(hp:Pr1 p)(hg:0<Gp g)(tg:Gh g)(th:Gh h)(e:∀t,Gf p t=Gf g t*Gf h t):Pr1 h:=by
 obtain⟨p1,p2⟩:=Rp hp.t hp.n e;have:=VZ tg th hp.t e p1 p2;refine⟨th,Qcc hp.m e,?_⟩;have hl:=hp.l;rw[this]at hl;rcases Yg (Gp h) 0 with h1|h1|h1
 ·have:=Vw hg h1;omega
 ·rw[h1]at hl;omega
 ·exact h1
structure Sqp(p g q:List Int):Prop where
 pp:Pr1 p
 pg:Pr1 g
 pq:Pr1 q
 e:∀t,Gf p t=Gf g t*Gf q t
 c:∃U V,∀t,Gf g t=ev U t*Gf p t+ev V t*dv (cz p) t
 d:∃z,∀t,dv (cz p) t=Gf g t*ev z t
theorem Sqp.num{p g q:Ft}(h:Sqp p g q){d:Fw}(h1:Lj d (cz q))(h2:Lj d (Cx (cz q))):∃c:Rat,c≠0/\∀t,ev d t=c:=by
 obtain⟨U,V,hc⟩:=h.c;have hpow:=sqf (k:=1) (a:=cz p) (g:=cz g) (q:=cz q) (d:=d) (U:=U) (V:=V) (by decide) (λt=>by rw[Gg,Gg,Gg,h.e]) (λt=>by rw[Gg,Gg,hc];grind) h1 h2;rcases NX d with h3|⟨m,_,h3⟩
 ·obtain⟨u,hu⟩:=h1;exact absurd (λt=>by rw[<-Gg,hu,h3];grind) (JC h.pq.t (by have:=h.pq.n;omega))
 ·obtain rfl:=jU h3 (WO h.pg.t (by have:=h.pg.n;omega)) hpow;refine⟨d.getD 0 0,h3.1,λt=>?_⟩;cases d with
  |nil=>exact absurd (by simp) h3.1
  |
   cons c l =>
   have:=E3 (p:=l) λk=>by have:=h3.2 (k+1) (by omega);rwa[Q0]at this
   simp only[ev,this,Zr];grind
theorem Sqp.bez{p g q:Ft}(h:Sqp p g q):∃X Y,∀t,ev X t*ev (cz q) t+ev Y t*dv (cz q) t=1:=by
 obtain⟨d,U,V,h1,h2,h3⟩:=Qi6 (cz q) (Cx (cz q));obtain⟨c,hc,hd⟩:=h.num h1 h2;refine⟨Nk (1 / c) U,Nk (1 / c) V,λt=>?_⟩;have h5:=h3 t;rw[hd,Sw]at h5;have h4:1 / c*c=1:=Zc hc;rw[Hd,Hd];have:1 / c*ev U t*ev (cz q) t+1 / c*ev V t*dv (cz q) t=1 / c*(ev U t*ev (cz q) t+ev V t*dv (cz q) t):=by grind
 rw[this,<-h5,h4]
theorem Qv4{n s s':Nat}(h:Szz n s)(hs:s'<=s):Szz n s':=⟨h.1,Qe (Qy _ (by omega)) h.2⟩
theorem Qcx{n s:Nat}(h:Szz n s):s<=8388600:=by
 have:2*(s+8)*1<=2*(s+8)*3^(n-1):=Zl _ (Zy (by decide));have:=h.2;omega
theorem TA{s:Nat}{p:Ft}(h:Bd s p)(hl:p.length<=10):Bd (s+4) (Hn p):=BB h (t:=4) (by omega)
theorem uT{n s:Nat}(hz:Szz n (s+73)){p:Ft}(pp:Pr1 p)(l2:2<=p.length)(lp:p.length<=n)(bp:Bd (s+69) p){p0 h0:Ft}(b0:Bd s p0)(l0:p0.length<=10)(t0:Gh p0)(th0:Gh h0)(z0:p0.length≠0)(e0:∀t,Gf p0 t=Gf h0 t*Gf p t) :
 ∃g q,qQ (Hn p)=some (Hn p)/\XX p (Hn p)=some g/\JY p g=some q/\Sqp p g q/\g.length<p.length:=by
 have hn:=hz.1;have hs:=Qcx hz;have bd:=TA bp (by omega);have ld:=Pw p;have td:Gh (Hn p):=Gk _ _;obtain⟨g,e1,hg,m,l⟩:=FP hz pp.t td lp (by omega) (Gd bp (by omega)) bd (.inl pp.n);obtain⟨q,tq,eq⟩:=MO m hg.da;have hdnz:(Hn p).length≠0:=λh=>by
  have h1:=M3 p (p.length-2);rw[Qf h,show p.length-2+1=p.length-1 by omega]at h1;have h2:p.getD (p.length-1) 0≠0:=Rz pp.t (by omega);rcases Yj.1 (h1.symm.trans (by simp))with h3|h3
  ·exact h2 h3
  ·omega
 have pg:Pr1 g:=⟨hg.t,m,l⟩;have hql:=Qlb (s:=s+69) pp.t hg.t tq pp.n (by omega) bp (by omega) eq;refine⟨g,q,Ik (by omega) (Gd bd (by omega)),e1,hql,⟨pp,pg,Qca pp l hg.t tq eq,eq,?_,?_⟩,?_⟩
 ·obtain⟨U,V,hc⟩:=hg.c;exact⟨U,V,λt=>by rw[hc,Da]⟩
 ·obtain⟨z,hz⟩:=hg.db;exact⟨z,λt=>by rw[<-Da,<-Gg,hz,Gg]⟩
 ·obtain⟨z,tz,ez⟩:=MO m hg.db;obtain⟨q1,q2⟩:=Rp td hdnz ez;have:=S8 hg.t tz td ez q1 q2;omega
theorem one_sqp:Sqp [1] [1] [1]:=by
 have p1:Pr1 [1]:=⟨rfl,λd hd=>by have:=hd 0;rwa[Zr]at this,by decide⟩;have e1:∀t,Gf [1] t=1:=λt=>by simp only[Gf];push_cast;grind
 exact⟨p1,p1,p1,λt=>by rw[e1];grind,⟨[1],[],λt=>by rw[e1,S9];simp only[ev];grind⟩,⟨[],λt=>by simp only[cz,Zx,Jo,dv,ev];grind⟩⟩
structure Okp(n s:Nat)(p:List Int):Prop where
 z:Szz n (s+73)
 t:Gh p
 nz:p.length≠0
 l:p.length<=n
 b:Bd s p
theorem Okp.pr{n s:Nat}{p:Ft}(h:Okp n s p):Pr1 (Gm p)/\(Gm p).length=p.length/\Bd s (Gm p):=by
 obtain⟨h1,h2,h3,h4,h5,_⟩:=M6 h.t h.nz;exact⟨⟨h1,h3,h4⟩,h2,h5 s h.b⟩
theorem Ic{n s:Nat}{p:Ft}(h:Okp n s p):∃g q,Me p=some q/\Sqp (Gm p) g q:=by
 obtain⟨pp,hl,hb⟩:=h.pr;have hn:=h.z.1;have:=h.l;unfold Me;by_cases h2:(Gm p).length<2
 ·rw[if_pos h2,pp.one h2];exact⟨[1],[1],rfl,one_sqp⟩
 ·rw[if_neg h2];obtain⟨g,q,h3,h4,h5,h6,_⟩:=uT h.z pp (by omega) (by omega) (Gd hb (by omega)) (p0:=Gm p) (h0:=[1]) hb (by omega) pp.t rfl pp.n λt=>by simp only[Gf];push_cast;grind
  exact⟨g,q,by rw[h3];show(XX (Gm p) (Hn (Gm p))).bind _=_;rw[h4];exact h5,h6⟩
inductive LW:List Int->List (List Int)->Prop
 |nil:LW [1] []
 |cons {g h w:List Int} {ws:List (List Int)} (hs:Sqp g h w) (hl:LW h ws):LW g (w::ws)
theorem Qu0{g:Ft}{ws:Fu}(h:LW g ws):∀t,Gf g t=ev (ZT (ws.map cz)) t:=by
 induction h with
 |nil=>intro t;simp only[Jo,ZT,Gf];rw[S9];push_cast;grind
 |cons hs hl ih=>intro t;simp only[Zx,ZT];rw[Gj,Gg,hs.e,ih];grind
theorem Qbu{g:Ft}{w v:Ft}{ws:Fu}(h:LW g (w::v::ws)):∃f,Gh f/\∀t,Gf w t=Gf f t*Gf v t:=by
 cases h with
 |
  @cons _ h _ _ hs hl =>
  cases hl with
  |
   @cons _ h2 _ _ hs2 hl2 =>
   obtain⟨X,Y,hb⟩:=hs2.bez;obtain⟨z,hz⟩:=hs.d;have hd:=Qra (a:=cz g) (g:=cz h) (q:=cz w) (z:=z) (r:=cz v) (X:=X) (Y:=Y) (n:=h.length-1) (λt=>by rw[Gg,Gg,Gg,hs.e]) (λt=>by rw[hz,Gg]) (WO hs.pg.t (by have:=hs.pg.n;omega)) hb
    ⟨H7 (cz h2) (cz w),λt=>by rw[Gj,Gg,Gg,Gg,Gg,hs.e,hs2.e];grind⟩
   obtain⟨f,tf,ef⟩:=MO hs2.pq.m hd;exact⟨f,tf,λt=>by rw[ef];grind⟩
theorem AO{g w:Ft}{ws:Fu}(h:LW g (w::ws)):∀v∈w::ws,Pr1 v/\Lj (cz v) (cz w):=by
 have key:∀(ws:Fu) (g w:Ft),LW g (w::ws)->∀v∈w::ws,Pr1 v/\Lj (cz v) (cz w):=by
  intro ws
  induction ws with
  |
   nil =>
   intro g w h v hv;rw[Qo.1 hv];cases h with
   |cons hs hl=>exact⟨hs.pq,dvd_refl _⟩
  |
   cons u ws ih =>
   intro g w h v hv;have hn:=Qbu h;cases h with
   |
    @cons _ h _ _ hs hl =>
    rcases Qj.1 hv with rfl|hv
    ·exact⟨hs.pq,dvd_refl _⟩
    ·obtain⟨i1,i2⟩:=ih h u hl v hv;obtain⟨f,_,hf⟩:=hn;exact⟨i1,dvd_trans i2 ⟨cz f,λt=>by rw[Gg,Gg,Gg,hf];grind⟩⟩
 exact key ws g w h
theorem dN{n s:Nat}(hz:Szz n (s+73)){p0:Ft}(b0:Bd s p0)(l0:p0.length<=10)(t0:Gh p0)(z0:p0.length≠0):∀(k:Nat) (g h0:Ft),Pr1 g->g.length<=k->g.length<=n->Gh h0->(∀t,Gf p0 t=Gf h0 t*Gf g t)->∃ws,AD k g=some ws/\LW g ws
 | 0,g,_,pg,hk,_,_,_=>absurd pg.n (by omega)
 |
  k+1,g,h0,pg,hk,hn,th0,e0=>by
  simp only[AD];by_cases h2:g.length<2
  ·rw[if_pos h2,pg.one h2];exact⟨[],rfl,.nil⟩
  ·rw[if_neg h2];have bg:Bd (s+69) g:=Ad b0 l0 t0 pg.t th0 z0 λt=>by rw[e0];grind
   obtain⟨h,w,h3,h4,h5,h6,h7⟩:=uT hz pg (by omega) hn bg b0 l0 t0 th0 z0 e0;obtain⟨ws,i1,i2⟩:=dN hz b0 l0 t0 z0 k h (Gq h0 w) h6.pg (by omega) (by omega) (Hp _ _) λt=>by rw[e0,Gn,h6.e];grind
   refine⟨w::ws,?_,.cons h6 i2⟩;rw[h3];show(XX g (Hn g)).bind _=_;rw[h4];show(JY g h).bind _=_;rw[h5];show(AD k h).bind _=_;rw[i1];rfl
theorem dV{s:Nat}{p0:Ft}(b0:Bd s p0)(l0:p0.length≤10)(t0:Gh p0)(z0:p0.length≠0)(hs:s+69+69≤16777216):∀(ws:Fu) (g h0:Ft),LW g ws->Gh h0->(∀t,Gf p0 t=Gf h0 t*Gf g t)->∃fs,dY ws=some fs/\Lay (ws.map cz) (fs.map cz)/\∀f∈fs,Gh f
 | [],g,_,_,_,_=>⟨[],rfl,trivial,λf hf=>by cases hf⟩
 |
  [w],g,_,hl,_,_=>by
  cases hl with
  |cons hs hl=>exact⟨[w],rfl,λt=>rfl,λf hf=>by rw[Qo.1 hf];exact hs.pq.t⟩
 |
  w::v::ws,g,h0,hl,th0,e0=>by
  obtain⟨f,tf,ef⟩:=Qbu hl;cases hl with
  |
   @cons _ h _ _ hs1 hl =>
   have hpv:=(AO hl v (Qw ..)).1;obtain⟨fs,i1,i2,i3⟩:=dV b0 l0 t0 z0 hs (v::ws) h (Gq h0 w) hl (Hp _ _) λt=>by rw[e0,Gn,hs1.e];grind
   have ew:∀t,Gf p0 t=Gf w t*Gf (Gq h0 h) t:=λt=>by rw[e0,Gn,hs1.e];grind
   have bw:Bd (s+69) w:=Ad b0 l0 t0 hs1.pq.t (Hp _ _) z0 ew;obtain⟨p1,p2⟩:=Rp t0 z0 ew;have lw:=S8 hs1.pq.t (Hp _ _) t0 ew p1 p2;have hq:=Qlb (s:=s+69) hs1.pq.t hpv.t tf hs1.pq.n (by omega) bw hs λt=>by rw[ef];grind
   refine⟨f::fs,?_,⟨λt=>by rw[Gg,Gg,Gg,ef],i2⟩,λx hx=>?_⟩
   ·show(JY w v).bind _=_;rw[hq];show(dY (v::ws)).bind _=_;rw[i1];rfl
   ·rcases Qj.1 hx with rfl|hx
    ·exact tf
    ·exact i3 x hx
def Cj:Fu->Ft
 | []=>[1]
 | [f]=>f
 |f::_::l=>Gq f (Cj l)
theorem sA:∀(fs:Fu) (t:Rat),ev (BG (fs.map cz)) t=Gf (Cj fs) t
 | [],t=>by simp only[Jo,BG,Cj,Gf];rw[S9];push_cast;grind
 | [f],t=>by simp only[Zx,Jo,BG,Cj];rw[Gg]
 |f::g::l,t=>by simp only[Zx,BG,Cj];rw[Gj,Gg,Gn,sA l]
theorem Ru(t:Rat):Gf [1] t=1:=by simp only[Gf];push_cast;grind
theorem SD:∀{w:Ft} {ws fs:Fu},Lay ((w::ws).map cz) (fs.map cz)->(∀f∈fs,Gh f)->(∀v∈w::ws,Gh v)->∃E,Gh E/\∀t,Gf w t=Gf (Cj fs) t*Gf E t
 |
  w,[],[f],h,_,_=>⟨[1],rfl,λt=>by
  have:=h t;rw[Gg,Gg]at this;rw[this,Ru];simp only[Cj];grind⟩
 |
  w,[v],[f,f2],h,_,hw=>⟨v,hw v (by simp),λt=>by
  have:=h.1 t;rw[Gg,Gg,Gg]at this;rw[this];simp only[Cj];rw[Gn,Ru];grind⟩
 |
  w,v::x::l,f::f2::fs,h,hf,hw=>by
  obtain⟨E,hE,e⟩:=SD (w:=x) (ws:=l) (fs:=fs) h.2.2 (λg hg=>hf g (by simp[hg])) (λg hg=>hw g (by simp at hg ⊢;exact .inr (.inr hg)));refine⟨Gq f2 E,Hp _ _,λt=>?_⟩;have a1:=h.1 t;have a2:=h.2.1 t;rw[Gg,Gg,Gg]at a1 a2;have e2:Gf (Cj (f::f2::fs)) t=Gf f t*Gf (Cj fs) t:=by simp only[Cj];rw[Gn]
  rw[a1,a2,e,e2,Gn];grind
 |w,[],[],h,_,_=>h.elim
 |w,[],_::_::_,h,_,_=>h.elim
 |w,[v],[],h,_,_=>h.elim
 |w,[v],[f],h,_,_=>h.2.elim
 |w,[v],_::_::_::_,h,_,_=>h.2.elim
 |w,v::x::l,[f],h,_,_=>h.2.elim
 |w,v::x::l,[],h,_,_=>h.elim
theorem KD{s:Nat}{p0:Ft}(b0:Bd s p0)(l0:p0.length≤10)(t0:Gh p0)(z0:p0.length≠0)(hs:s+69≤16777216):∀(fs:Fu) (i:Nat) (a E:Ft),i % 2=0->Gh a->Gh E->(∀f∈fs,Gh f)->(∀t,Gf p0 t=Gf a t*Gf (Cj fs) t*Gf E t)->∃o,UI i a fs=some o/\Gh o/\∀t,Gf o t=Gf a t*Gf (Cj fs) t
 | [],i,a,E,hi,ta,_,_,_=>⟨a,rfl,ta,λt=>by simp only[Cj];rw[Ru];grind⟩
 |
  [f],i,a,E,hi,ta,tE,tf,hE=>by
  have e1:∀t,Gf p0 t=Gf (Gq a f) t*Gf E t:=λt=>by rw[hE,Gn];rfl
  have b1:=Ad b0 l0 t0 (Hp a f) tE z0 e1;obtain⟨p1,p2⟩:=Rp t0 z0 e1;have hl:=S8 (Hp a f) tE t0 e1 p1 p2;refine⟨Gq a f,?_,Hp _ _,λt=>by rw[Gn];rfl⟩;simp only[UI];rw[if_pos hi,Ik (by omega) (Gd b1 (by omega))];rfl
 |
  f::g::fs,i,a,E,hi,ta,tE,tf,hE=>by
  have e0:∀t,Gf (Cj (f::g::fs)) t=Gf f t*Gf (Cj fs) t:=λt=>by simp only[Cj];rw[Gn]
  have e1:∀t,Gf p0 t=Gf (Gq a f) t*Gf (Gq (Cj fs) E) t:=λt=>by rw[hE,e0,Gn,Gn];grind
  have b1:=Ad b0 l0 t0 (Hp a f) (Hp _ _) z0 e1;obtain⟨p1,p2⟩:=Rp t0 z0 e1;have hl:=S8 (Hp a f) (Hp _ _) t0 e1 p1 p2;obtain⟨o,o1,o2,o3⟩:=KD b0 l0 t0 z0 hs fs (i+2) (Gq a f) E (by omega) (Hp _ _) tE (λx hx=>tf x (by simp[hx])) λt=>by rw[hE,e0,Gn];grind
  refine⟨o,?_,o2,λt=>by rw[o3,e0,Gn];grind⟩;have h1:UI (i+1) (Gq a f) (g::fs)=UI (i+2) (Gq a f) fs:=by
   show(if (i+1) % 2=0 then _ else _)=_;rw[if_neg (by omega)]
  show(if i % 2=0 then(qQ (Gq a f)).bind λq=>UI (i+1) q (g::fs)else _)=_;rw[if_pos hi,Ik (by omega) (Gd b1 (by omega))];exact h1.trans o1
structure Parts(p q o:List Int):Prop where
 sq:∃g,Sqp (Gm p) g q
 ws:∃ws:List (List Int),(∀w∈ws,Pr1 w/\Lj (cz w) (cz q))/\∀t,Gf (Gm p) t=ev (ZT (ws.map cz)) t
 oq:Lj (cz o) (cz q)
 ot:Gh o
 oh:∃h,Gh h/\∀t,Gf (Gm p) t=Gf o t*Gf h t
 os:∃S,∀t,Gf (Gm p) t=Gf o t*(ev S t*ev S t)
theorem wJ{n s:Nat}{p:Ft}(h:Okp n s p):∃q o,Me p=some q/\Qeq p=some o/\Parts p q o:=by
 obtain⟨pp,hl,hb⟩:=h.pr;have hn:=h.z.1;have Ee:=h.l;have hs:=Qcx h.z;obtain⟨g,q,hq,sq⟩:=Ic h;obtain⟨ws,w1,w2⟩:=dN h.z hb (by omega) pp.t pp.n 66 (Gm p) [1] pp (by omega) (by omega) rfl λt=>by rw[Ru];grind
 obtain⟨fs,f1,f2,f3⟩:=dV hb (by omega) pp.t pp.n (by omega) ws (Gm p) [1] w2 rfl λt=>by rw[Ru];grind
 have hw:=Qu0 w2;have hfirst:(∀w∈ws,Pr1 w/\Lj (cz w) (cz q))/\∃E,Gh E/\∀t,Gf q t=Gf (Cj fs) t*Gf E t:=by
  cases ws with
  |
   nil =>
   have e:fs=[]:=by
    cases fs with
    |nil=>rfl
    |cons f l=>exact f2.elim
   subst e;exact⟨(λw hw=>by cases hw),q,sq.pq.t,λt=>by simp only[Cj];rw[Ru];grind⟩
  |
   cons w ws =>
   have hwq:w=q:=by
    have w3:(if (Gm p).length<2 then some []else(qQ (Hn (Gm p))).bind λd=>(XX (Gm p) d).bind λh=>(JY (Gm p) h).bind λw=>(AD 65 h).bind λl=>some (w::l))=some (w::ws):=w1;have hlen:¬(Gm p).length<2:=λh2=>by
     rw[if_pos h2]at w3;injection w3 with w3;cases w3
    rw[if_neg hlen]at w3;unfold Me at hq;rw[if_neg hlen]at hq;obtain⟨d,d1,w3⟩:=Qk.1 w3;obtain⟨h,d2,w3⟩:=Qk.1 w3;obtain⟨w',d3,w3⟩:=Qk.1 w3;obtain⟨l,d4,w3⟩:=Qk.1 w3;rw[d1]at hq;have hq:(XX (Gm p) d).bind (λg=>JY (Gm p) g)=some q:=hq;rw[d2]at hq;have hq:JY (Gm p) h=some q:=hq;rw[d3]at hq;injection hq with hq;injection w3 with w3;injection w3 with w3 _;rw[<-w3,hq]
   subst hwq;have hall:=AO w2;exact⟨hall,SD f2 f3 λv hv=>(hall v hv).1.t⟩
 obtain⟨ha,E,tE,hE⟩:=hfirst;obtain⟨o,o1,o2,o3⟩:=KD hb (by omega) pp.t pp.n (by omega) fs 0 [1] (Gq E g) rfl rfl (Hp _ _) f3 λt=>by rw[Ru,Gn,sq.e,hE];grind
 have o3:∀t,Gf o t=Gf (Cj fs) t:=λt=>by rw[o3,Ru];grind
 refine⟨q,o,hq,?_,⟨g,sq⟩,⟨ws,ha,hw⟩,⟨cz E,λt=>by rw[Gg,Gg,Gg,hE,o3]⟩,o2,⟨Gq E g,Hp _ _,λt=>by rw[sq.e,hE,o3,Gn];grind⟩,?_⟩
 ·unfold Qeq;rw[if_neg pp.n,w1];show(dY ws).bind _=_;rw[f1];exact o1
 ·obtain⟨S,hS⟩:=Qbk f2;exact⟨S,λt=>by rw[hw,hS,sA,o3]⟩
theorem oO{s:Nat}:∀(k:Nat) (a b:Ft),Gh a->Gh b->b.length≠0->b.length<k->b.length<a.length->a.length<=60->Bd s a->Bd s b->(s+8)*3^(a.length-1)<=16777216->(∀d,Lj d (cz a)->Lj d (cz b)->∃c:Rat,c≠0/\∀t,ev d t=c)->∃l,OO k a b=some (b::l)/\SCl (cz a) (cz b) (l.map cz)
 | 0,_,_,_,_,_,h,_,_,_,_,_,_=>by omega
 |
  k+1,a,b,ta,tb,hb,hk,hab,hl,ba,bb,hs,hd=>by
  obtain⟨h1,h2,h3,u,v,up,vp,X,hX⟩:=RG ta tb hb hl;have h3:=h3 s ba bb;obtain⟨m,hm⟩:=nmE (a.length-b.length);have e1:a.length+1-b.length=m+1:=by omega
  rw[e1]at h3;have e2:s+(m+1)*(s+8)+8=(m+2)*(s+8):=by
   rw[show m+2=(m+1)+1 by omega,Xq (m+1)];omega
  have e3:(m+2)*(s+8)*3^(b.length-1)<=(s+8)*3^(a.length-1):=by
   rw[show a.length-1=m+(b.length-1) by omega,Xs,<-Xy,Zo (s+8)];exact Qy _ (Qy _ (Qqd m (by omega)))
  have e4:s+(m+1)*(s+8)<=16777216:=by
   have:(m+2)*(s+8)<=(m+2)*(s+8)*3^(b.length-1):=Ya _ (Zy (by decide));omega
  simp only[OO];rw[if_neg hb,Ik (by omega) (Gd h3 e4)];show ∃l,((OO k b (Nn (Rv a b))).bind λl=>some (b::l))=some (b::l)/\_;have lneg:(Nn (Rv a b)).length<=(Rv a b).length:=Lr _;by_cases hr:(Rv a b).length=0
  ·have e:Nn (Rv a b)=[]:=Qf (by omega);rw[e];refine⟨[],?_,?_⟩
   ·obtain⟨j,rfl⟩:∃j,k=j+1:=⟨k-1,by omega⟩;rfl
   ·obtain⟨c,hc,hcc⟩:=hd (cz b) ⟨Nk (1 / u) X,λt=>by
     have:=hX t;rw[Dl hr]at this;have hu:1 / u*u=1:=Hu up;rw[Gg,Gg,Hd];have:Gf a t=1 / u*(u*Gf a t):=by grind
     rw[this,hX,Dl hr];grind⟩ (dvd_refl _)
    exact .base hc hcc
  ·have tn:Gh (Nn (Rv a b)):=Gk _ _;have hn0:(Nn (Rv a b)).length≠0:=λh0=>by
    have:=As (c:=-1) h1 tn (by decide) λt=>by rw[ZL];grind
    omega
   obtain⟨l,i1,i2⟩:=oO (s:=s+(m+1)*(s+8)) k b (Nn (Rv a b)) tb tn hn0 (by omega) (by omega) (by omega) (Gd bb (by omega)) (XG h3) (by rw[e2];omega) λd d1 d2=>by
    refine hd d ?_ d1;obtain⟨y,hy⟩:=d1;obtain⟨z,hz⟩:=d2;have hu:1 / u*u=1:=Hu up;refine⟨Nk (1 / u) (So (H7 X y) (Nk (-v) z)),λt=>?_⟩;have a1:=hX t;have a2:=hy t;have a3:=hz t;rw[Gg]at a2 a3;rw[ZL]at a3;rw[Gg,Hd,Hm,Gj,Hd];have:Gf a t=1 / u*(u*Gf a t):=by grind
    rw[this,a1,a2,show Gf (Rv a b) t=-(ev d t*ev z t) by grind];grind
   refine⟨Nn (Rv a b)::l,by rw[i1];rfl,?_⟩;rw[Zx];exact .step (q:=X) up vp (λt=>by rw[Gg,Gg,Gg,hX,ZL];clear i2 i1 hd h3 hs;grind) i2
theorem FS(x:Rat):∀(l:Fu) (n:Nat) (s:Int),(l.foldl (M8 λp=>Hq p x) (n,s)).1=n+tc x s (l.map cz)
 | [],n,s=>rfl
 |
  p::l,n,s=>by
  simp only[Z0,Zx,tc,M8];rw[Sf,Gg]
  split
  ·exact FS x l n s
  ·rw[FS x l]
   split <;> omega
theorem JF(l:Fu)(x:Rat):Be l x=vv (l.map cz) x:=by
 have:=FS x l 0 0;unfold Be XV vv;rw[this];omega
theorem Qhz{n s:Nat}(hz:Szz n (s+73)){P g q:Ft}(sq:Sqp P g q)(lq:q.length<=n)(bq:Bd (s+69) q):∃d,qQ (Hn q)=some d/\∃l,OO 66 q (Gm d)=some l/\WB (cz q) ((q::l).map cz)/\(q.length<2->l=[]):=by
 have hn:=hz.1;have hs:=Qcx hz;have bd:=TA bq (by omega);have ld:=Pw q;refine⟨Hn q,Ik (by omega) (Gd bd (by omega)),?_⟩;have hq0:=sq.pq.n;by_cases h2:q.length<2
 ·have e:Gm (Hn q)=[]:=by rw[Qf (l:=Hn q) (by omega)];rfl
  rw[e];refine⟨[],rfl,.inl ⟨1,by decide,λt=>?_,rfl⟩,λ_=>rfl⟩;rw[Gg,sq.pq.one h2,Ru]
 ·have hdnz:(Hn q).length≠0:=λh=>by
   have h1:=M3 q (q.length-2);rw[Qf h,show q.length-2+1=q.length-1 by omega]at h1;have h3:q.getD (q.length-1) 0≠0:=Rz sq.pq.t (by omega);rcases Yj.1 (h1.symm.trans (by simp))with h4|h4
   ·exact h3 h4
   ·omega
  obtain⟨p1,p2,p3,p4,p5,p6,p7⟩:=M6 (p:=Hn q) (Gk _ _) hdnz;have hdl:Gp (Hn q)=Gp q*((q.length-1:Nat):Int):=by
   have hld:(Hn q).length=q.length-1:=by
    rcases Q8 (Hn q).length (q.length-1)with h|h
    ·have h1:=M3 q (q.length-2);rw[Qc,Qt (by omega),show q.length-2+1=q.length-1 by omega]at h1;have h3:q.getD (q.length-1) 0≠0:=Rz sq.pq.t (by omega);rcases Yj.1 (h1.symm.trans (by simp))with h4|h4
     ·exact absurd h4 h3
     ·omega
    ·omega
   unfold Gp;rw[hld,M3,show q.length-1-1+1=q.length-1 by omega]
  have hfac:0<Rl (Hn q):=by
   have hlp:0<Gp (Hn q):=by rw[hdl];exact Fa sq.pq.l (by omega)
   have hc:=ZP (p:=Hn q) (Gk _ _) hdnz;unfold Rl;rw[if_neg (by omega)];unfold Mz at hc ⊢;omega
  have hfq:((0:Int):Rat)<(Rl (Hn q):Rat):=Js.2 hfac;have hfq:(0:Rat)<(Rl (Hn q):Rat):=by simpa using hfq
  have hff:1 / (Rl (Hn q):Rat)*(Rl (Hn q):Rat)=1:=Hu hfq;have hz2:=hz.2;have hp3:(s+73+8)*3^(q.length-1)<=16777216:=by
   have:(s+73+8)*3^(q.length-1)<=(s+73+8)*3^(n-1):=Zl _ (Zs (by decide) (by omega));rw[Xy]at hz2;omega
  obtain⟨l,h3,h4⟩:=oO (s:=s+73) 66 q (Gm (Hn q)) sq.pq.t p1 (by omega) (by omega) (by omega) (by omega) (Gd bq (by omega)) (p5 _ bd) hp3 λd d1 d2=>sq.num d1 (by
   obtain⟨z,hz⟩:=d2;exact⟨Nk (Rl (Hn q)) z,λt=>by
    have:=hz t;rw[Gg]at this;rw[Sw,<-Da,p7,this,Hd];grind⟩)
  refine⟨Gm (Hn q)::l,h3,.inr ⟨cz (Gm (Hn q)),l.map cz,1 / (Rl (Hn q):Rat),Em (by decide) hfq,λt=>?_,h4,rfl⟩,λh=>absurd h h2⟩;rw[Gg,<-Da,p7 t];grind
theorem chain_ok{n s:Nat}{p:Ft}(h:Okp n s p):∃q l,Me p=some q/\chain p=some (q::l)/\WB (cz q) ((q::l).map cz)/\(q.length<2->l=[]):=by
 obtain⟨pp,hl,hb⟩:=h.pr;have hn:=h.z.1;have Ee:=h.l;obtain⟨g,q,hq,sq⟩:=Ic h;have e1:∀t,Gf (Gm p) t=Gf q t*Gf g t:=λt=>by rw[sq.e];grind
 obtain⟨p1,p2⟩:=Rp pp.t pp.n e1;have hll:=S8 sq.pq.t sq.pg.t pp.t e1 p1 p2;obtain⟨d,d1,l,d2,d3⟩:=Qhz h.z sq (by omega) (Ad hb (by omega) pp.t sq.pq.t sq.pg.t pp.n e1);refine⟨q,l,hq,?_,d3⟩;unfold chain;rw[hq];show(if q.length=0 then none else _)=_;rw[if_neg sq.pq.n,d1];show(OO 66 q (Gm d)).bind _=_;rw[d2];rfl
theorem sD{c x y:Rat}(hc:0<c)(h:c*x=c*y):x=y:=by
 have h1:1 / c*c=1:=Hu hc;have e:∀z:Rat,z=1 / c*(c*z):=λz=>by grind
 rw[e x,h,<-e y]
theorem zV(p:Ft):∀i,i<=p.length->Od p i=Tx (p.take i)
 | 0,_=>rfl
 |
  i+1,h=>by
  have hx:p[i]? = some (p.getD i 0):=by rw[Qc,Qg (by omega)];rfl
  rw[PY hx,<-zV p i (by omega)];rfl
theorem Qon(p:Ft):((Orr.cont p:Nat):Int)=Mz p:=by
 unfold Orr.cont Mz;rw[zV p _ (Nat.le_refl _),List.take_length]
theorem Qku(p:Ft):G6 p=Gp p:=rfl
theorem Qit(p:Ft):Ci p=Rl p:=by unfold Ci Rl;rw[Qon,Qku]
theorem FZ(p:Ft)(k:Nat):(Tg p).getD k 0=p.getD k 0 / Rl p:=by
 unfold Tg;rw[S5,Qit]
 split
 ·rfl
 ·rename_i h;rw[Ro (by omega),Int.zero_ediv]
theorem H9(p:Ft):Tg p=Gm p:=by
 unfold Gm
 split
 ·rename_i h;rw[List.eq_nil_of_length_eq_zero h];rfl
 ·exact WF (OC p) (Tl _) λk=>by rw[FZ,Dx]
theorem pO(p:Ft)(k:Nat):(S6 p).getD k 0=p.getD k 0 / Mz p:=by
 unfold S6
 split
 ·rename_i h;rw[jJ,FZ];have:Rl p=-Mz p:=if_pos h;rw[this,Int.ediv_neg,Int.neg_neg]
 ·rename_i h;rw[FZ];have:Rl p=Mz p:=if_neg h;rw[this]
theorem BX(p:Ft):Gh (S6 p):=by
 unfold S6;split
 ·exact Gk _ _
 ·exact OC p
theorem NS(p:Ft):S6 p=I2 p:=by
 unfold I2
 split
 ·rename_i h;rw[List.eq_nil_of_length_eq_zero h];rfl
 ·exact WF (BX p) (Tl _) λk=>by rw[pO,Dx]
theorem jY{p:Ft}(tp:Gh p)(h:p.length≠0):Prm (I2 p):=λd hd=>by
 refine(M6 tp h).2.2.1 d λk=>?_
 have h1:=hd k;unfold I2 at h1;rw[if_neg h,Dx]at h1;unfold Gm;rw[if_neg h,Dx];unfold Rl
 split
 ·rw[Int.ediv_neg];exact Int.dvd_neg.2 h1
 ·exact h1
theorem rD{a b c:Int}(h:Nat.Coprime a.natAbs b.natAbs)(h2:a∣b*c):a∣c:=X3.1 (h.dvd_of_dvd_mul_left (by rw[<-Yd];exact X3.2 h2))
theorem MQ{p q:Ft}(tp:Gh p)(tq:Gh q)(hp:Prm p)(hq:Prm q){c:Rat}(hc:0<c)(h:∀t,Gf p t=c*Gf q t):p=q:=by
 have hd:=c.den_nz;have hd0:((c.den:Int):Rat)≠0:=O5 (by omega);have e:c*((c.den:Int):Rat)=(c.num:Rat):=by
  have h1:(c.num:Rat) / ((c.den:Int):Rat)=c:=by rw[Tt,Z9]
  have h2:(c.num:Rat) / ((c.den:Int):Rat)*((c.den:Int):Rat)=(c.num:Rat):=Zc hd0;rw[h1]at h2;exact h2
 have hk:∀k,(c.den:Int)*p.getD k 0=c.num*q.getD k 0:=λk=>by
  have:=Lx (p:=Gs p (c.den:Int)) (q:=Gs q c.num) (λt=>by
   rw[Tf,Tf,h,<-e];grind) k
  rw[Tv,Tv]at this;rw[Kj,this,Kj]
 have d1:(c.den:Int)∣1:=hq _ λk=>rD (a:=(c.den:Int)) (b:=c.num) (by simpa using c.reduced.symm) (by rw[<-hk k];exact Vu _ _)
 have d2:c.num∣1:=hp _ λk=>rD (a:=c.num) (b:=(c.den:Int)) (by simpa using c.reduced) (by rw[hk k];exact Vu _ _)
 have p1:0<c.num:=by
  have h0:=Rat.num_nonneg.2 (Qm hc);rcases Int.lt_or_eq_of_le h0 with h1|h1
  ·exact h1
  ·exfalso;rw[<-h1]at e;have e0:((0:Int):Rat)=0:=rfl;rw[e0]at e;rcases Xn.1 e with h2|h2
   ·grind
   ·exact hd0 h2
 have e1:=Int.le_of_dvd (by decide) d1;have e2:=Int.le_of_dvd (by decide) d2;have n1:c.num=1:=by omega
 have n2:(c.den:Int)=1:=by omega
 refine WF tp tq λk=>?_
 have:=hk k;rw[n1,n2]at this;omega
theorem Qe5{a b:Ft}(hb:b.length<=a.length):Oo a b=str b ((Gp b).natAbs:Int) (a.length-b.length) (E7 a b) a:=by
 refine WF (Gk _ _) (Gk _ _) λk=>?_
 unfold Oo str;rw[S5,D9,Tv,kB]
 split
 ·rfl
 ·rename_i h;rw[Ro (p:=a) (by omega),Yy,if_pos (by omega),Ro (p:=b) (by omega),Kk];rfl
theorem Qls{a b:Ft}(hb:b.length<=a.length)(t:Rat):(((Gp b).natAbs:Int):Rat)*Gf a t=((E7 a b:Int):Rat)*t^(a.length-b.length)*Gf b t+Gf (Oo a b) t:=by
 rw[Qe5 hb];exact Qmk _ _ _ _ _ _
theorem Qe4{a b:Ft}(hb0:b.length≠0)(hb:b.length<=a.length):(Oo a b).length<a.length:=by
 have h:=kK (p:=Oo a b) (n:=a.length-1) (Gk _ _) (Qe (Ip _ _) (by omega)) (by
  unfold Oo Ah;rw[S5,if_pos (by omega),if_pos (by omega),show a.length-1-(a.length-b.length)=b.length-1 by omega];show G6 a*((G6 b).natAbs:Int)-E7 a b*G6 b=0;unfold E7
  split
  ·rw[show((G6 b).natAbs:Int)=-G6 b by omega,K0,Kb];omega
  ·rw[show((G6 b).natAbs:Int)=G6 b by omega];omega)
 omega
theorem Qlr{a b:Ft}{s t:Nat}(ha:Bd s a)(hb:Bd t b):Bd (s+t+1) (Oo a b):=XF λi _=>by
 have h1:=G5 ha i;have h2:Gy ((G6 b).natAbs:Int)<=t:=by
  have h:Gy (G6 b)<=t:=G5 hb (b.length-1);rw[Pn]at h ⊢;rw[Zw];exact h
 have h3:Gy (E7 a b)<=s:=by
  have:=G5 ha (a.length-1);unfold E7
  split
  ·rw[T0];exact this
  ·exact this
 have h4:=Ho (a.getD i 0) ((G6 b).natAbs:Int);unfold Ah
 split
 ·have h5:=Ho (E7 a b) (b.getD (i-(a.length-b.length)) 0);have h6:=G5 hb (i-(a.length-b.length));have:=Qbe (a.getD i 0*((G6 b).natAbs:Int)) (E7 a b*b.getD (i-(a.length-b.length)) 0);omega
 ·rw[Int.sub_zero];omega
theorem CE{b:Ft}(tb:Gh b)(hb:b.length≠0){t:Nat}(bb:Bd t b):∀(k:Nat) (a:Ft) (s:Nat),a.length<b.length+k->Gh a->a.length<=60->Bd s a->s+k*(t+1)<=9000000->t<=9000000 ->
 ∃n r,RRun b n a r/\Gh r/\r.length<b.length/\Bd (s+k*(t+1)) r/\∃(u:Rat) (X:Fw),0<u/\∀x,u*Gf a x=ev X x*Gf b x+Gf r x
 | 0,a,s,hl,ta,_,ba,_,_=>⟨0,a,.stop (by omega),ta,by omega,by rw[Yc];exact ba,1,[],by decide,λx=>by simp only[ev];grind⟩
 |
  k+1,a,s,hl,ta,h6,ba,hs,ht=>by
  rcases Q8 a.length b.length with h|h
  ·exact⟨0,a,.stop h,ta,h,Gd ba (by omega),1,[],by decide,λx=>by simp only[ev];grind⟩
  ·have h1:=Qe4 hb h;have e:s+t+1+k*(t+1)=s+(k+1)*(t+1):=by rw[Xq];omega
   obtain⟨n,r,r1,r2,r3,r4,u,X,hu,hX⟩:=CE tb hb bb k (Oo a b) (s+t+1) (by omega) (Gk _ _) (by omega) (Qlr ba bb) (by omega) ht;have hlp:((0:Int):Rat)<(((Gp b).natAbs:Int):Rat):=Js.2 (by have:=Lq tb hb;omega);have hlp:(0:Rat)<(((Gp b).natAbs:Int):Rat):=by simpa using hlp
   refine⟨n+1,r,.step h (by omega) (Gd ba (by omega)) (Gd bb ht) r1,r2,r3,by rw[<-e];exact r4,u*(((Gp b).natAbs:Int):Rat),So (Nk (u*((E7 a b:Int):Rat)) (cz (mono (a.length-b.length) 1))) X,Xm hu hlp,λx=>?_⟩;have g1:=Qls h x;have g2:=hX x;rw[Hm,Hd,Gg,ZN];have e1:((1:Int):Rat)=1:=rfl;rw[e1];have:u*(((Gp b).natAbs:Int):Rat)*Gf a x=u*((((Gp b).natAbs:Int):Rat)*Gf a x):=by grind
   rw[this,g1];grind
theorem Qqw{a b r:Ft}(ta:Gh a)(tb:Gh b)(hb:b.length≠0)(hl:a.length<=60)(tr:Gh r)(hr:r.length<b.length){u:Rat}{X:Fw}(hu:0<u)(hX:∀x,u*Gf a x=ev X x*Gf b x+Gf r x):S6 r=Rv a b:=by
 obtain⟨h1,h2,_,u',v',up,vp,X',hX'⟩:=RG ta tb hb hl;have key:∀x,ev (So (Nk (u*v') (cz (Rv a b))) (Nk (-u') (cz r))) x=ev (H7 (So (Nk u' X) (Nk (-u) X')) (cz b)) x:=λx=>by
  have g1:=hX x;have g2:=hX' x;rw[Hm,Hd,Hd,Gj,Hm,Hd,Hd,Gg,Gg,Gg];have k1:u'*(u*Gf a x)=u'*(ev X x*Gf b x+Gf r x):=by rw[g1]
  have k2:u*(u'*Gf a x)=u*(ev X' x*Gf b x+v'*Gf (Rv a b) x):=by rw[g2]
  grind
 have hz:∀x,ev (So (Nk u' X) (Nk (-u) X')) x=0:=by
  rcases NX (So (Nk u' X) (Nk (-u) X'))with h|⟨m,_,h⟩
  ·exact h
  ·exfalso;have hm:=PG h (WO tb (by omega));have h3:=(Qjh (λt=>(key t).symm) hm).1;rw[Ss,Pv,Pv,Nh,Nh,Ro (p:=Rv a b) (by omega),Ro (p:=r) (by omega)]at h3;have e0:((0:Int):Rat)=0:=rfl;rw[e0]at h3;exact h3 (by grind)
 have hpr:∀x,Gf r x=u*v' / u'*Gf (Rv a b) x:=λx=>by
  have g:=key x;rw[Gj,hz x,Hm,Hd,Hd,Gg,Gg]at g;have hd:u*v' / u'*u'=u*v':=Hu up;have hne:u'≠0:=by grind
  have:u'*Gf r x=u'*(u*v' / u'*Gf (Rv a b) x):=by
   have e:u'*(u*v' / u'*Gf (Rv a b) x)=(u*v' / u'*u')*Gf (Rv a b) x:=by grind
   rw[e,hd];grind
  exact sD up this
 have hcp:0<u*v' / u':=Em (Xm hu vp) up;rw[NS];have hlen:=As tr h1 (by grind:u*v' / u'≠0) hpr;by_cases h0:r.length=0
 ·rw[Qf h0,Qf (l:=Rv a b) (by omega)];rfl
 ·obtain⟨c,cp,hc⟩:=pP tr;have hcn:c≠0:=by grind
  have hp2:Prm (Rv a b):=by
   unfold Rv at hlen ⊢;have ht:Gh (Ck a b (Nx a b)):=by
    unfold Ck;split
    ·exact Gk _ _
    ·exact(wC hb _ _ _ ta (by omega)).1
   refine jY ht λe=>?_
   rw[Qf e]at hlen;exact h0 hlen
  have tn:Gh (I2 r):=by rw[<-NS];exact BX r
  refine MQ tn h1 (jY tr h0) hp2 (c:=u*v' / u' / c) (Em hcp cp) λt=>?_
  have g1:=hc t;have g2:=hpr t;have hd:u*v' / u' / c*c=u*v' / u':=Hu cp;refine sD cp ?_;have e:c*(u*v' / u' / c*Gf (Rv a b) t)=(u*v' / u' / c*c)*Gf (Rv a b) t:=by grind
  rw[e,hd,<-g1,g2]
theorem Lz{p:Ft}(h:Pr1 p):Gm p=p:=by
 obtain⟨h1,h2,h3,h4,_,h6,h7⟩:=M6 h.t h.n;have hl:=h.l;have hc:0<Rl p:=by
  have:=ZP h.t h.n;unfold Rl;rw[if_neg (by omega)];unfold Mz at this ⊢;omega
 have hq:((0:Int):Rat)<(Rl p:Rat):=Js.2 hc;exact(MQ h.t h1 h.m h3 (c:=(Rl p:Rat)) (by simpa using hq) h7).symm
theorem VT{r:Ft}(tr:Gh r):(Gm r).length=r.length/\((Gm r).length=0\/Pr1 (Gm r)):=by
 by_cases h:r.length=0
 ·rw[Qf h];exact⟨rfl,.inl rfl⟩
 ·exact⟨(M6 tr h).2.1,.inr (Qer tr h)⟩
theorem MG{s m lb la:Nat}(e:la-1=m+(lb-1))(hm:1<=m)(hs:(s+8)*3^(la-1)<=9000000):(s+(m+1)*(s+8)+8)*3^(lb-1)<=9000000/\s+(m+1)*(s+8)<=9000000:=by
 have e2:s+(m+1)*(s+8)+8=(m+2)*(s+8):=by
  rw[show m+2=(m+1)+1 by omega,Xq (m+1)];omega
 have e3:(m+2)*(s+8)*3^(lb-1)<=(s+8)*3^(la-1):=by
  rw[e,Xs,<-Xy,Zo (s+8)];exact Qy _ (Qy _ (Qqd m hm))
 have:(m+2)*(s+8)<=(m+2)*(s+8)*3^(lb-1):=Ya _ (Zy (by decide));exact⟨by rw[e2];omega,by omega⟩
theorem mR{a b:Ft}{s:Nat}(ta:Gh a)(tb:Gh b)(hb:b.length≠0)(hab:b.length<a.length)(hl:a.length<=60)(ba:Bd s a)(bb:Bd s b)(hs:(s+8)*3^(a.length-1)<=9000000) :
 ∃n r,RRun b n a r/\Gh r/\r.length<b.length/\Bd (s+(a.length-b.length+1)*(s+8)) r/\S6 r=Rv a b/\∃(u:Rat) (X:Fw),0<u/\∀x,u*Gf a x=ev X x*Gf b x+Gf r x:=by
 obtain⟨k1,k2⟩:=MG (s:=s) (m:=a.length-b.length) (lb:=b.length) (la:=a.length) (by omega) (by omega) hs;have h1:(a.length-b.length+1)*(s+1)<=(a.length-b.length+1)*(s+8):=Zl _ (by omega);obtain⟨n,r,r1,r2,r3,r4,u,X,hu,hX⟩:=CE tb hb bb (a.length-b.length+1) a s (by omega) ta hl ba (by omega) (by omega);exact⟨n,r,r1,r2,r3,Gd r4 (by omega),Qqw ta tb hb hl r2 r3 hu hX,u,X,hu,hX⟩
theorem kQ:∀(k:Nat) (a b:Ft) (s:Nat),b.length<k->Pr1 a->(b.length=0\/Pr1 b)->Gh b->b.length<a.length->a.length<=60->Bd s a->Bd s b->(s+8)*3^(a.length-1)<=9000000 ->
 ∃n g,GRun n a b g/\Pr1 g/\Lj (cz g) (cz a)/\Lj (cz g) (cz b)/\∀d,Lj d (cz a)->Lj d (cz b)->Lj d (cz g)
 | 0,_,_,_,h,_,_,_,_,_,_,_,_=>by omega
 |
  k+1,a,b,s,hk,pa,pb,tb,hab,hl,ba,bb,hs=>by
  rcases pb with h0|pb
  ·rw[Qf h0];exact⟨0,a,.stop a,pa,dvd_refl _,⟨[],λt=>by simp only[cz,Jo,ev];grind⟩,λ_ h _=>h⟩
  ·have hb:=pb.n;obtain⟨n,r,r1,r2,r3,r4,_,u,X,hu,hX⟩:=mR pa.t tb hb hab hl ba bb hs;obtain⟨k1,k2⟩:=MG (s:=s) (m:=a.length-b.length) (lb:=b.length) (la:=a.length) (by omega) (by omega) hs;obtain⟨p1,p2⟩:=VT r2;obtain⟨_,p3,p4,c,c1,c2⟩:=Bt r2;have tp:Gh (Gm r):=by
    rcases p2 with h|h
    ·rw[Qf h];rfl
    ·exact h.t
   obtain⟨j,g,g1,g2,g3,g4,g5⟩:=kQ k b (Gm r) (s+(a.length-b.length+1)*(s+8)) (by omega) pb p2 tp (by omega) (by omega) (Gd bb (by omega)) (p4 _ r4) k1;refine⟨j+1,g,.step (by omega) (by omega) (Gd bb (by omega)) r1 (by omega) (Gd r4 k2) r2 (by rw[H9];exact g1),g2,?_,g3,λd ⟨y,hy⟩ ⟨z,hz⟩=>g5 d ⟨z,hz⟩ ((A4 c1 c2).1 ⟨So (Nk u y) (Nk (-1) (H7 X z)),λt=>by
    have a1:=hX t;have a2:=hy t;have a3:=hz t;rw[Gg]at a2 a3 ⊢;rw[Hm,Hd,Hd,Gj];have:Gf r t=u*Gf a t-ev X t*Gf b t:=by grind
    rw[this,a2,a3];grind⟩)⟩
   obtain⟨y,hy⟩:=g3;obtain⟨z,hz⟩:=g4;have hu1:1 / u*u=1:=Hu hu;refine⟨Nk (1 / u) (So (H7 X y) (Nk c z)),λt=>?_⟩;have a1:=hX t;have a2:=hy t;have a3:=hz t;have a4:=c2 t;rw[Gg]at a2 a3 ⊢;rw[Hd,Hm,Gj,Hd];have:Gf a t=1 / u*(u*Gf a t):=by grind
   rw[this,a1,a2,a4,a3];grind
theorem lI{c:Int}(h:c≠0):Gs [1] c=[c]:=by
 show B8 1 _=_;rw[Iq,UW];show(if 1*c=0 then _ else [1*c])=_;rw[Vm,if_neg h]
theorem aY(k:Nat)(c:Int)(i:Nat):(Po k [c]).getD i 0=if i=k then c else 0:=by
 unfold Po;rw[Qc];rcases J0 i k with h|h|h
 ·rw[Q3 (by simpa using h),if_neg (by omega)];simp[h]
 ·subst h;rw[Zk (by simp)];simp
 ·rw[Qt (by simp;omega),if_neg (by omega)];rfl
theorem ES:∀(k:Nat) (a q p:Ft),a.length<=k->Gh a->a.length<=60->Bd 9000000 a->a.length<=q.length->q.length=p.length->(∀i,i<a.length->a.getD i 0=p.getD i 0)->(∀i,i<a.length->q.getD i 0=0)->(∀i,a.length<=i->q.getD i 0=p.getD i 0)->∃n,DRun [1] n a q p []
 |
  0,a,q,p,h,_,_,_,_,hq,_,_,h3=>by
  have e:=Qf (l:=a) (by omega);subst e;have e2:q=p:=by
   refine List.ext_getElem hq λi h1 h2=>?_
   have:=h3 i (by simp);rw[Qc,Qc,Qg h1,Qg h2]at this;exact this
  rw[e2];exact⟨0,.stop (by decide)⟩
 |
  k+1,a,q,p,h,ta,h6,ba,haq,hq,h1,h2,h3=>by
  by_cases h0:a.length=0
  ·exact ES k a q p (by omega) ta h6 ba haq hq h1 h2 h3
  ·have hlead:G6 a≠0:=Rz ta (by omega);have hp1:G6 [1]=1:=rfl;have e1:Ma a (Po (a.length-1) (Gs [1] (G6 a / G6 [1])))=Ma a (Po (a.length-1) [G6 a]):=by
    rw[hp1,Ki,lI hlead]
   have g:∀i,(Ma a (Po (a.length-1) [G6 a])).getD i 0=if i=a.length-1 then 0 else a.getD i 0:=λi=>by
    rw[D9,aY]
    split
    ·rename_i e;subst e;exact Int.sub_self _
    ·rw[Int.sub_zero]
   have ll:(Ma a (Po (a.length-1) [G6 a])).length<=a.length-1:=by
    refine kK (Gk _ _) (Qe (Mm _ _) ?_) (by rw[g,if_pos rfl]);rw[FU];simp;omega
   have gz:∀i,(Ma a (Po (a.length-1) [G6 a])).length<=i->i<a.length-1->a.getD i 0=0:=λi k1 k2=>by
    have:=g i;rw[Ro k1,if_neg (by omega)]at this;exact this.symm
   have gs:∀i,(q.set (a.length-1) (G6 a)).getD i 0=if i=a.length-1 then G6 a else q.getD i 0:=λi=>by
    rw[Qc,Jz];by_cases e:a.length-1=i
    ·rw[if_pos e,if_pos (by omega),if_pos e.symm];rfl
    ·rw[if_neg e,if_neg (λh=>e h.symm),Qc]
   have hpa:G6 a=p.getD (a.length-1) 0:=h1 _ (by omega);obtain⟨n,hn⟩:=ES k (Ma a (Po (a.length-1) [G6 a])) (q.set (a.length-1) (G6 a)) p (by omega) (Gk _ _) (by omega) (λz hz=>by
    obtain⟨i,hi⟩:=Ze hz;have e:z=(Ma a (Po (a.length-1) [G6 a])).getD i 0:=by rw[Qc,hi];rfl
    rw[e,g]
    split
    ·exact Qh _
    ·exact G5 ba i) (by rw[Jk];omega) (by rw[Jk];exact hq) (λi hi=>by rw[g,if_neg (by omega)];exact h1 i (by omega)) (λi hi=>by rw[gs,if_neg (by omega)];exact h2 i (by omega)) (λi hi=>by
    rw[gs]
    split
    ·rename_i e;rw[e];exact hpa
    ·rename_i e;by_cases k1:a.length<=i
     ·exact h3 i k1
     ·rw[h2 i (by omega),<-h1 i (by omega),gz i hi (by omega)])
   refine⟨n+1,.step (by show 1<=a.length;omega) (by omega) ba (by decide) (by rw[hp1];exact Fc _) (by show a.length-1<q.length;omega) ?_⟩;show DRun [1] n (Ma a (Po (a.length-1) (Gs [1] (G6 a / G6 [1])))) (q.set (a.length-1) (G6 a / G6 [1])) p [];rw[e1,hp1,Ki];exact hn
theorem Qao{p:Ft}(tp:Gh p)(hl:p.length<=60)(bp:Bd 9000000 p):DOk p [1] p:=by
 obtain⟨n,hn⟩:=ES p.length p (List.replicate (p.length+1-1) 0) p (Qn _) tp hl bp (by simp) (by simp) (λ_ _=>rfl) (λi _=>Ty _ i) (λi hi=>by rw[Ty,Ro hi]);exact⟨by decide,by decide,by omega,b1 (by decide),p,[],n,bp,by omega,hn,tp.symm⟩
theorem Qai:∀(k:Nat) (pre:Fu) (a b:Ft) (s:Nat) (L:Fu),OO k a b=some L->Gh a->Gh b->b.length<a.length->a.length<=60->Bd s a->Bd s b->(s+8)*3^(a.length-1)<=9000000->pre.length+a.length<=500 ->
 ∃n,CRun n (pre++[a]) b (pre++[a]++L)/\L.length<=b.length
 | 0,_,_,_,_,_,h,_,_,_,_,_,_,_,_=>by cases h
 |
  k+1,pre,a,b,s,L,h,ta,tb,hab,hl,ba,bb,hs,hp=>by
  simp only[OO]at h
  split at h
  ·rename_i h0;injection h with h;subst h;rw[Xg];exact⟨0,.stop h0,by simp⟩
  ·rename_i h0;obtain⟨r0,hr0,h⟩:=Qk.1 h;obtain⟨l,hl1,h⟩:=Qk.1 h;injection h with h;subst h;have er:r0=Rv a b:=by
    unfold qQ at hr0
    split at hr0
    ·injection hr0 with hr0;exact hr0.symm
    ·cases hr0
   rw[er]at hl1;obtain⟨n,r,r1,r2,r3,r4,r5,_⟩:=mR ta tb h0 hab hl ba bb hs;obtain⟨k1,k2⟩:=MG (s:=s) (m:=a.length-b.length) (lb:=b.length) (la:=a.length) (by omega) (by omega) hs;have hlp:=XO r;have hln:=Lr (S6 r);rw[<-r5]at hl1;obtain⟨j,c1,c2⟩:=Qai k (pre++[a]) b (Nn (S6 r)) (s+(a.length-b.length+1)*(s+8)) l hl1 tb (Gk _ _) (by omega) (by omega) (Gd bb (by omega)) (XG (qM r4)) k1 (by simp;omega);have hlast:My (pre++[a])=a:=by unfold My;simp
   refine⟨j+1,.step (by omega) (by omega) (Gd bb (by omega)) (by rw[hlast];exact r1) r2 (Gd r4 k2) (by omega) (by simp) (by simp;omega) ?_,by simp;omega⟩;have e:pre++[a]++b::l=pre++[a]++[b]++l:=by simp
   rw[e];exact c1
theorem Qdo{P g q:Ft}{s:Nat}(sq:Sqp P g q)(l2:2<=q.length)(lq:q.length<=9)(bq:Bd s q)(hs:(s+4+8)*3^8<=9000000){L:Fu}(hL:OO 66 q (Gm (Hn q))=some L):FRun q 1 (λ_=>q)/\ChRun q q (q::L):=by
 have pq:=sq.pq;have hpow:(s+4+8)*3^(q.length-1)<=9000000:=Qe (Zl _ (Zs (by decide) (by omega))) hs;have hs9:s+4<=8000000:=by
  have:(s+4+8)*3^8=(s+4+8)*6561:=rfl;omega
 have ld:=Pw q;have bd:Bd (s+4) (Hn q):=TA bq (by omega);obtain⟨p1,p2⟩:=VT (r:=Hn q) (Gk _ _);obtain⟨_,p3,p4,c,c1,c2⟩:=Bt (a:=Hn q) (Gk _ _);have tp:Gh (Gm (Hn q)):=by
  rcases p2 with h|h
  ·rw[Qf h];rfl
  ·exact h.t
 obtain⟨m,h,g1,g2,g3,g4,_⟩:=kQ 66 q (Gm (Hn q)) (s+4) (by omega) pq p2 tp (by omega) (by omega) (Gd bq (by omega)) (p4 _ bd) hpow;have hone:h=[1]:=by
  obtain⟨c',_,hc'⟩:=sq.num g3 (by
   obtain⟨z,hz⟩:=g4;exact⟨Nk c z,λt=>by
    have:=hz t;rw[Gg]at this;rw[Sw,<-Da,c2,this,Hd];grind⟩)
  refine g2.one (Uy λh2=>?_);have hd:=WO g2.t (by omega);have:=Lp (p:=cz h) (q:=[c']) (λt=>by rw[hc' t];simp only[ev];grind) (h.length-1);rw[Qc (l:=[c']),Qt (by simp;omega)]at this;exact hd.1 this
 subst hone;have hpq:=Lz pq;have t1:Gh [1]:=rfl;have dq:=Qao pq.t (by omega) (Gd bq (by omega:s<=9000000));have fr:FRun q 1 (λ_=>q):=by
  refine⟨⟨1,[q,[1]],?_,rfl,?_⟩,by decide⟩
  ·rw[H9,hpq];refine .step (m:=m) (g:=[1]) (by show 1<q.length;omega) (by show q.length<=1000;omega) (by show Gh q;exact pq.t) (by show Bd 9000000 q;exact Gd bq (by omega)) (by show Bd 9000000 (Hn q);exact Gd bd (by omega)) ?_ (by show 1<=1000;decide) ?_
   ·show GRun m (Tg q) (Tg (Hn q)) [1];rw[H9,H9,hpq];exact g1
   ·exact .stop (by show 1<=1;decide)
  ·intro k hk;have:k=0:=by omega
   subst this;exact⟨q,[1],q,dq,div_one,by rw[H9,hpq,pL];exact dq,by rw[H9,hpq]⟩
 obtain⟨n,c3,c4⟩:=Qai 66 [] q (Gm (Hn q)) (s+4) L hL pq.t tp (by omega) (by omega) (Gd bq (by omega)) (p4 _ bd) hpow (by simp;omega);have hsz:S6 (Hn q)=Gm (Hn q):=by
  have hlp:¬G6 (Hn q)<0:=by
   have h1:G6 (Hn q)=Gp q*((q.length-1:Nat):Int):=by
    have hld:(Hn q).length=q.length-1:=by
     refine Vq ld (Vl λh=>?_);have h1:=M3 q (q.length-2);rw[Ro (by omega),show q.length-2+1=q.length-1 by omega]at h1;have h3:q.getD (q.length-1) 0≠0:=Rz pq.t (by omega);rcases Yj.1 h1.symm with h4|h4
     ·exact h3 h4
     ·omega
    unfold G6 Gp;rw[hld,M3,show q.length-1-1+1=q.length-1 by omega]
   have:=Fa pq.l (show(0:Int)<((q.length-1:Nat):Int) by omega);omega
  unfold S6;rw[if_neg hlp,H9]
 refine⟨fr,⟨1,λ_=>q,fr,λi hi=>?_,?_⟩,⟨n,?_⟩,Gd bq (by omega),by omega,by simp;omega⟩
 ·have:i=0:=by omega
  subst this;exact⟨b1 (by decide),by show 1<=1000;decide,Gd bq (by omega),show q.length<=1000 by omega⟩
 ·show q=Gq [1] q;rw[xG pq.t (by omega)]
 ·rw[hsz];exact c3
theorem rT{P g q:Ft}{s:Nat}(sq:Sqp P g q)(l2:2<=q.length)(lq:q.length<=9)(bq:Bd s q)(hs:(s+4+8)*3^8<=9000000){L:Fu}(hL:OO 66 q (Gm (Hn q))=some L):ChRun q q (q::L):=(Qdo sq l2 lq bq hs hL).2
theorem Qb4(p q:Ft)(x:Rat):Gf (p++q) x=Gf p x+x^p.length*Gf q x:=by
 induction p with
 |nil=>simp only[J5,Gf,Vb,Xu];grind
 |cons a p ih=>simp only[Xa,Gf,Zf,ih,Xk];grind
theorem lR(k:Nat)(x:Rat):Gf (List.replicate k 0) x=0:=by
 induction k with
 |zero=>rfl
 |succ k ih=>rw[Yh];simp only[Gf,ih];push_cast;grind
theorem lG(k:Nat)(p:Ft)(x:Rat):Gf (Po k p) x=x^k*Gf p x:=by
 unfold Po;rw[Qb4,lR,Jj];grind
theorem Qar{b:Ft}(tb:Gh b)(hb:b.length≠0)(lb:b.length<=60){s t:Nat}(bb:Bd t b)(hst:t+s+6<=9000000):∀(k:Nat) (a h q H:Ft),h.length<=k->Gh a->Gh h->(∀x,Gf a x=Gf b x*Gf h x)->a.length<=60->Bd s h->h.length<=q.length->q.length=H.length->(∀i,i<h.length->h.getD i 0=H.getD i 0)->(∀i,i<h.length->q.getD i 0=0)->(∀i,h.length<=i->q.getD i 0=H.getD i 0)->∃n,DRun b n a q H []
 |
  k,a,[],q,H,_,ta,_,e,_,_,_,hq,_,_,h3=>by
  have ea:a=[]:=Om ta rfl λx=>by rw[e];simp only[Gf];grind
  have eq:q=H:=X1 λi=>by
   by_cases hi:i<q.length
   ·have:=h3 i (Qh _);rw[Qc,Qc,Qg hi,Qg (by omega)]at this;rw[Qg hi,Qg (by omega)];exact congrArg some this
   ·rw[Qt (by omega),Qt (by omega)]
  rw[ea,eq];exact⟨0,.stop (by show 0<b.length;omega)⟩
 | 0,a,c::h,q,H,hk,_,_,_,_,_,_,_,_,_,_=>by simp at hk
 |
  k+1,a,c0::h0,q,H,hk,ta,th,e,hl,bh,hlq,hq,h1,h2,h3=>by
  obtain⟨h,hh⟩:=nmE (c0::h0);rw[<-hh]at hk th e bh hlq h1 h2 h3;have hpos:0<h.length:=by rw[hh];simp
  have ane:a.length≠0:=λh'=>by
   have:=LD (p:=cz b) (q:=cz h) (r:=[]) (λh0=>JC tb (by omega) λt=>by rw[<-Gg];exact h0 t) (λt=>by rw[Gg,Gg,<-e,Dl h'];simp only[ev];grind);exact JC th hpos λt=>by rw[<-Gg];have:=this t;rw[this];rfl
  have hln:=S8 tb th ta e (by omega) hpos;have hld:=VZ tb th ta e (by omega) hpos;have hlb:=Lq tb hb;obtain⟨m,hm⟩:=nmE (h.length-1);have hdiv:G6 a / G6 b=Gp h:=by
   show Gp a / Gp b=_;rw[hld,X8 _ hlb]
  have ham:a.length-b.length=m:=by omega
  have ea:a=Gq b h:=Om ta (Hp _ _) λx=>by rw[e,Gn]
  have ba:Bd 9000000 a:=by rw[ea];exact Gd (Si (u:=6) bb bh (by omega)) hst
  obtain⟨h',hh'⟩:∃h',h'=trim (h.take m):=⟨_,rfl⟩;have htl:(h.take m).length=m:=by rw[Qz];omega
  have hsplit:h=h.take m++[Gp h]:=by
   have:h.drop m=[Gp h]:=by
    have hlt:m<h.length:=by omega
    rw[Xc hlt,Yz (by omega)];unfold Gp;rw[Qc,<-hm,Qg hlt];rfl
   rw[<-this,Zh]
  have ph:∀x,Gf h x=Gf h' x+x^m*(Gp h:Rat):=λx=>by
   have:=congrArg (Gf · x) hsplit;rw[Qb4,htl]at this;rw[this,hh',I0];simp only[Gf];grind
  have g':∀i,i<m->h'.getD i 0=h.getD i 0:=λi hi=>by
   rw[hh',Lc,Qc,Ja hi,<-Qc]
  have g'':∀i,m<=i->h'.getD i 0=0:=λi hi=>by
   rw[hh',Lc];exact Ro (by omega)
  have hl':h'.length<=m:=by rw[hh'];exact Qe (Sr _) (by omega)
  have z0:∀i,i<h.length->h'.length<=i->i≠m->H.getD i 0=0:=λi hi hi' hne=>by
   rw[<-h1 i hi,<-g' i (by omega)];exact Ro hi'
  obtain⟨n,hn⟩:=Qar tb hb lb bb hst k (Ma a (Po (a.length-b.length) (Gs b (G6 a / G6 b)))) h' (q.set (a.length-b.length) (G6 a / G6 b)) H (by omega) (Gk _ _) (by rw[hh'];exact Tl _) (λx=>by
   rw[Bq,lG,Tf,hdiv,ham,e,ph];grind)
   (by
    have l1:=Mm a (Po (a.length-b.length) (Gs b (G6 a / G6 b)));have l2:=Gz b (G6 a / G6 b);rw[FU]at l1;omega)
   (by rw[hh'];exact Md λz hz=>bh z (Qq hz)) (by rw[Jk];omega) (by rw[Jk];omega)
   (λi hi=>by rw[g' i (by omega)];exact h1 i (by omega))
   (λi hi=>by
    rw[Qc,Jz,if_neg (by omega),<-Qc];exact h2 i (by omega))
   (λi hi=>by
    rw[Qc,Jz,ham,hdiv];by_cases him:m=i
    ·rw[if_pos him,if_pos (by omega)];show Gp h=_;rw[<-h1 i (by omega),<-him,hm];rfl
    ·rw[if_neg him,<-Qc];by_cases hil:i<h.length
     ·rw[h2 i hil,z0 i hil hi (λe=>him e.symm)]
     ·exact h3 i (by omega))
  refine⟨n+1,.step (by omega) (by omega) ba hlb ?_ (by omega) hn⟩;show Gp b∣Gp a;rw[hld];exact Vu _ _
theorem cD{a b h:Ft}(ta:Gh a)(tb:Gh b)(th:Gh h)(hb:b.length≠0)(hh:h.length≠0)(e:∀x,Gf a x=Gf b x*Gf h x)(la:a.length<=60){s t:Nat}(bb:Bd t b)(bh:Bd s h)(hst:t+s+6<=9000000):DOk a b h:=by
 have ane:a.length≠0:=λh'=>by
  have:=LD (p:=cz b) (q:=cz h) (r:=[]) (λh0=>JC tb (by omega) λt=>by rw[<-Gg];exact h0 t) (λt=>by rw[Gg,Gg,<-e,Dl h'];simp only[ev];grind);exact JC th (by omega) λt=>by rw[<-Gg];have:=this t;rw[this];rfl
 have hln:=S8 tb th ta e (by omega) (by omega);obtain⟨n,hn⟩:=Qar tb hb (by omega) bb hst h.length a h (List.replicate (a.length+1-b.length) 0) h (Qn _) ta th e la bh (by simp;omega) (by simp;omega) (λ_ _=>rfl) (λi _=>Ty _ i) (λi hi=>by rw[Ty,Ro hi]);exact⟨by omega,by omega,by omega,Gd bb (by omega),h,[],n,Gd bh (by omega),by omega,hn,th.symm⟩
theorem dX{p q:Ft}(hp:Pr1 p)(hq:Pr1 q)(h1:Lj (cz p) (cz q))(h2:Lj (cz q) (cz p)):p=q:=by
 obtain⟨u,tu,eu⟩:=MO hp.m h1;obtain⟨v,tv,ev'⟩:=MO hq.m h2;obtain⟨a1,a2⟩:=Rp hq.t hq.n eu;obtain⟨b1,b2⟩:=Rp hp.t hp.n ev';have l1:=S8 hp.t tu hq.t eu a1 a2;have l2:=S8 hq.t tv hp.t ev' b1 b2;obtain⟨c,rfl⟩:∃c,u=[c]:=Jx.1 (by omega);have hl:=VZ hp.t tu hq.t eu a1 a2;have hp':=hp.l;have hq':=hq.l;have hc:0<c:=by
  rw[hl]at hq';have:Gp [c]=c:=rfl;rw[this]at hq';rcases Yg c 0 with h|h|h
  ·have:=Vw hp' h;omega
  ·rw[h]at hq';omega
  ·exact h
 refine(MQ hq.t hp.t hq.m hp.m (c:=(c:Rat)) (by exact_mod_cast hc) λt=>?_).symm;rw[eu];simp only[Gf];grind
theorem Qjf{g h w:Ft}{s:Nat}(sq:Sqp g h w)(l2:2<=g.length)(lg:g.length<=9)(bg:Bd s g)(hs:(s+4+8)*3^8<=9000000):∃n,GRun n (Tg g) (Tg (Hn g)) h:=by
 have pg:=sq.pp;have hpow:(s+4+8)*3^(g.length-1)<=9000000:=Qe (Zl _ (Zs (by decide) (by omega))) hs;have ld:=Pw g;have bd:Bd (s+4) (Hn g):=TA bg (by omega);obtain⟨p1,p2⟩:=VT (r:=Hn g) (Gk _ _);obtain⟨_,p3,p4,c,c1,c2⟩:=Bt (a:=Hn g) (Gk _ _);have tp:Gh (Gm (Hn g)):=by
  rcases p2 with h|h
  ·rw[Qf h];rfl
  ·exact h.t
 obtain⟨m,h',g1,g2,g3,g4,g5⟩:=kQ 66 g (Gm (Hn g)) (s+4) (by omega) pg p2 tp (by omega) (by omega) (Gd bg (by omega)) (p4 _ bd) hpow;have e:h'=h:=by
  refine dX g2 sq.pg ?_ (g5 _ ⟨cz w,λt=>by rw[Gg,Gg,Gg,sq.e]⟩ ?_)
  ·obtain⟨U,V,hc⟩:=sq.c;obtain⟨y,hy⟩:=g3;obtain⟨z,hz⟩:=g4;refine⟨So (H7 U y) (Nk c (H7 V z)),λt=>?_⟩;have a1:=hc t;have a2:=hy t;have a3:=hz t;have a4:=c2 t;rw[Gg]at a2 a3 ⊢;rw[Hm,Gj,Hd,Gj,a1,<-Da,a4,a2,a3];grind
  ·obtain⟨z,hz⟩:=sq.d;exact(A4 c1 c2).1 ⟨z,λt=>by rw[Gg,Gg,Da,hz]⟩
 rw[H9,H9,Lz pg,<-e];exact⟨m,g1⟩
theorem Qbl{s:Nat}(hz:Szz 9 (s+73))(hs9:(s+69+4+8)*3^8<=9000000){p0:Ft}(b0:Bd s p0)(l0:p0.length<=10)(t0:Gh p0)(z0:p0.length≠0):∀(k:Nat) (g h0:Ft) (pre:Fu),Pr1 g->g.length<=k->g.length<=9->Gh h0->(∀t,Gf p0 t=Gf h0 t*Gf g t)->pre.length+g.length<=500 ->
 ∃ws gs n,AD k g=some ws/\LW g ws/\LRun n (pre++[g]) (pre++gs)/\gs.length=ws.length+1/\ws.length<g.length/\gs.getD 0 []=g/\gs.getD ws.length []=[1]/\∀i,i<ws.length->Sqp (gs.getD i []) (gs.getD (i+1) []) (ws.getD i [])
 | 0,g,_,_,pg,hk,_,_,_,_=>absurd pg.n (by omega)
 |
  k+1,g,h0,pre,pg,hk,hn,th0,e0,hp=>by
  simp only[AD];by_cases h2:g.length<2
  ·have e:=pg.one h2;rw[if_pos h2,e];exact⟨[],[[1]],0,rfl,.nil,.stop (by unfold My;simp),rfl,by decide,rfl,rfl,λi hi=>absurd hi (Nat.not_lt_zero i)⟩
  ·rw[if_neg h2];have bg:Bd (s+69) g:=Ad b0 l0 t0 pg.t th0 z0 λt=>by rw[e0];grind
   obtain⟨h,w,h3,h4,h5,h6,h7⟩:=uT hz pg (by omega) hn bg b0 l0 t0 th0 z0 e0;obtain⟨ws,gs,n,i1,i2,i3,i4,i5,i6,i7,i8⟩:=Qbl hz hs9 b0 l0 t0 z0 k h (Gq h0 w) (pre++[g]) h6.pg (by omega) (by omega) (Hp _ _) (λt=>by rw[e0,Gn,h6.e];grind) (by simp;omega);obtain⟨m,hm⟩:=Qjf h6 (by omega) hn bg hs9;have hlast:My (pre++[g])=g:=by unfold My;simp
   have b9:s+69+4<=9000000:=by
    have:(s+69+4+8)*3^8=(s+69+4+8)*6561:=rfl;omega
   refine⟨w::ws,g::gs,n+1,?_,.cons h6 i2,.step (by rw[hlast];omega) (by rw[hlast];omega) (by rw[hlast];exact pg.t) (by rw[hlast];exact Gd bg (by omega)) (by rw[hlast];exact Gd (TA bg (by omega)) (by omega)) (by rw[hlast];exact hm) (by simp;omega) ?_,by simp[i4],by simp;omega,rfl,?_,?_⟩
   ·rw[h3];show(XX g (Hn g)).bind _=_;rw[h4];show(JY g h).bind _=_;rw[h5];show(AD k h).bind _=_;rw[i1];rfl
   ·have e:pre++g::gs=pre++[g]++gs:=by simp
    rw[e];exact i3
   ·rw[Zf,Q0];exact i7
   ·intro i hi;cases i with
    |zero=>rw[Zr,Q0,Zr,i6];exact h6
    |
     succ i =>
     rw[Q0,Q0,Q0];exact i8 i (by simpa using hi)
structure Gr(D M k:Nat)(q:Rat):Prop where
 u:∃u:Int,q*((D*2^k:Nat):Rat)=(u:Rat)
 b:Gw q<=(M:Rat)
 d:0<D
theorem nat_pos{n:Nat}(h:0<n):(0:Rat)<(n:Rat):=by
 have:((0:Nat):Rat)<(n:Rat):=Kd.2 h;simpa using this
theorem JD{D M k:Nat}{q:Rat}(h:Gr D M k q):Gr D M (k+1) q:=by
 obtain⟨u,hu⟩:=h.u;refine⟨⟨u*2,?_⟩,h.b,h.d⟩;rw[Zq,<-Xy]
 push_cast at hu ⊢
 rw[<-hu];grind
theorem PU{D M k:Nat}{a b:Rat}(ha:Gr D M k a)(hb:Gr D M k b):Gr D M (k+1) ((a+b) / 2):=by
 obtain⟨u,hu⟩:=ha.u;obtain⟨v,hv⟩:=hb.u;have h2:(a+b) / 2*2=a+b:=Hu (by decide);refine⟨⟨u+v,?_⟩,?_,ha.d⟩
 ·rw[Zq,<-Xy]
  push_cast at hu hv ⊢
  rw[<-hu,<-hv];generalize (a+b) / 2=c at *;generalize (D:Rat)*2^k=z at *;have:c*(z*2)=(c*2)*z:=by grind
  rw[this,h2];grind
 ·have h3:=ha.b;have h4:=hb.b;rw[Mh]at *;constructor <;> grind
theorem Qun{D M k:Nat}{q:Rat}(h:Gr D M k q):q.den<=D*2^k:=by
 obtain⟨u,hu⟩:=h.u;have hp:0<D*2^k:=Y3 h.d (Zy (by decide));have e:q=Rat.divInt u ((D*2^k:Nat):Int):=by
  rw[<-Tt,<-hu];have hz:=nat_pos hp;rw[show((((D*2^k:Nat):Int)):Rat)=((D*2^k:Nat):Rat) from rfl];rw[Yp];have:=Up ((D*2^k:Nat):Rat) (by grind);generalize ((D*2^k:Nat):Rat)=z at *;have:q*z*z⁻¹=q*(z*z⁻¹):=by grind
  rw[this,‹z*z⁻¹=1›];grind
 rw[e,Uh,if_neg (by omega),Zw];exact Yv _ _
theorem AB{a b k:Nat}{z:Int}(h:z.natAbs<=a*(b*2^k)):Gy z<=Gy (a:Int)+Gy (b:Int)+k:=by
 have h1:Gy (a:Int)<=Gy (a:Int):=Qn _;have h2:Gy (b:Int)<=Gy (b:Int):=Qn _;rw[Pn]at h1 h2 ⊢;rw[Zw]at h1 h2;rw[Xs,Xs];have h3:a*b<2^Gy (a:Int)*2^Gy (b:Int):=Nat.mul_lt_mul_of_lt_of_le h1 (Yn h2) (Zy (by decide));have h4:=Ji h3 (show 0<2^k from Zy (by decide));rw[<-Xy]at h;omega
theorem Oj{D M k B:Nat}{q:Rat}(h:Gr D M k q)(hM:0<M)(hs:Gy (D:Int)+Gy (M:Int)+k<=B):Qs B q:=by
 have hd:=Qun h;have hden:=nat_pos q.den_pos;have h1:(q.num.natAbs:Rat)<=((M*(D*2^k):Nat):Rat):=by
  have e:(q.num:Rat)=q*(q.den:Rat):=by
   have:(q.num:Rat) / (((q.den:Int)):Rat)=q:=by rw[Tt,Z9]
   have h2:(q.num:Rat) / (q.den:Rat)*(q.den:Rat)=q.num:=Zc (by grind);rw[show(q.num:Rat) / (q.den:Rat)=q from this]at h2;exact h2.symm
  rw[<-Mr,e];have h3:=Rq (x:=q) (y:=(q.den:Rat)) (b:=((D*2^k:Nat):Rat)) h.b (by
   have:Gw (q.den:Rat)=(q.den:Rat):=by unfold Gw;rw[if_neg (by grind)]
   rw[this];exact Zg.2 hd)
  push_cast at h3 ⊢;exact h3
 have h1:=Zg.1 h1;refine⟨?_,?_⟩
 ·have:=AB (z:=q.num) h1;omega
 ·have:=AB (z:=(q.den:Int)) (a:=M) (b:=D) (k:=k) (by
   rw[Zw];exact Qe hd (Ws _ hM))
  omega
theorem Ae(a b:Rat):O7 a b=(a+b) / 2:=by
 unfold O7;rw[<-Tt];have ha:(a.num:Rat)=a*(a.den:Rat):=by
  have:(a.num:Rat) / (((a.den:Int)):Rat)=a:=by rw[Tt,Z9]
  have h2:(a.num:Rat) / (a.den:Rat)*(a.den:Rat)=a.num:=Zc (by have:=nat_pos a.den_pos;grind);rw[show(a.num:Rat) / (a.den:Rat)=a from this]at h2;exact h2.symm
 have hb:(b.num:Rat)=b*(b.den:Rat):=by
  have:(b.num:Rat) / (((b.den:Int)):Rat)=b:=by rw[Tt,Z9]
  have h2:(b.num:Rat) / (b.den:Rat)*(b.den:Rat)=b.num:=Zc (by have:=nat_pos b.den_pos;grind);rw[show(b.num:Rat) / (b.den:Rat)=b from this]at h2;exact h2.symm
 have pa:=nat_pos a.den_pos;have pb:=nat_pos b.den_pos;rw[Wd,Jc,Jc,Jc,Jc,ha,hb];rw[show(((a.den:Int)):Rat)=(a.den:Rat) from rfl,show(((b.den:Int)):Rat)=(b.den:Rat) from rfl,show(((2:Int)):Rat)=2 from rfl];generalize (a.den:Rat)=x at *;generalize (b.den:Rat)=y at *;have hxy:=O8 (O8 pa pb) (show(0:Rat)<2 by decide);have h1:(a*x*y+b*y*x) / (x*y*2)*(x*y*2)=a*x*y+b*y*x:=Hu hxy;have h2:(a+b) / 2*2=a+b:=Hu (by decide);generalize (a*x*y+b*y*x) / (x*y*2)=c at *;generalize (a+b) / 2=d at *;have h3:(x*y*2)*(c-d)=0:=by grind
 rcases Xn.1 h3 with h4|h4 <;> grind
theorem CO(a b:Rat):Qe6 a b=a-b:=by
 unfold Qe6;rw[Rat.sub_def',<-Rat.divInt_ofNat]
 push_cast;rfl
theorem Pf{a b:Rat}:Tn a b=0↔a=b:=by
 constructor
 ·intro h;have h1:¬a<b:=λh'=>by have:=Es.2 h';omega
  have h2:¬b<a:=λh'=>by have:=Dk.2 h';omega
  grind
 ·intro h;subst h;exact D6 a
theorem GT{a b:Rat}:Tn a b<=0↔a<=b:=by
 constructor
 ·intro h;have h2:¬b<a:=λh'=>by have:=Dk.2 h';omega
  grind
 ·intro h;have h2:¬0<Tn a b:=λh'=>by have:=Dk.1 h';grind
  omega
theorem BO{a b:Rat}:0<=Tn a b↔b<=a:=by
 constructor
 ·intro h;have h2:¬a<b:=λh'=>by have:=Es.2 h';omega
  grind
 ·intro h;have h2:¬Tn a b<0:=λh'=>by have:=Es.1 h';grind
  omega
theorem Ez(a b:Rat):Tn a b=1/\b<a\/Tn a b=0/\a=b\/Tn a b=-1/\a<b:=by
 have hb:=KY a b;rcases(show Tn a b=1\/Tn a b=0\/Tn a b=-1 by omega)with h|h|h
 ·exact .inl ⟨h,Dk.1 (by omega)⟩
 ·exact .inr (.inl ⟨h,Pf.1 h⟩)
 ·exact .inr (.inr ⟨h,Es.1 (by omega)⟩)
theorem sS(p:Ft)(x:Rat):low p x=M9 (cz p) x:=by
 unfold low M9;rw[Sf,Sf,Gg,Da]
theorem Py{t:Tm}(h:t.lo<t.hi)(q:Rat):Hl t q=cq (cz t.p) t.lo t.hi q:=by
 have hp:t.point=false:=by
  unfold Tm.point;have:¬0<=Tn t.lo t.hi:=λh'=>by have:=BO.1 h';grind
  simp[this]
 unfold Hl cq;rw[hp,if_neg (by decide)];have e1:(Tn q t.lo<=0)=(q<=t.lo):=propext GT;have e2:(0<Tn q t.hi)=(t.hi<q):=propext Dk;rw[Sf,sS,<-Gg];simp only[e1,e2]
theorem M5{t:Tm}:t.point=true↔t.hi<=t.lo:=by
 unfold Tm.point;rw[decide_eq_true_iff];exact BO
theorem Aq{t:Tm}(h:t.lo=t.hi)(q:Rat):Hl t q=Tn t.lo q:=by
 have hp:t.point=true:=M5.2 (by rw[h];exact Ql);unfold Hl;rw[if_pos hp]
theorem Qt9{c:Rat->Int}{x:Rat}(h:∀q,c q=Tn x q):Cut c where
 val q:=by rw[h];have:=KY x q;omega
 mono q r hqr h1:=by
  rw[h]at h1 ⊢;rcases Ez x q with⟨e,e'⟩|⟨e,e'⟩|⟨e,e'⟩
  ·exact absurd e h1
  ·rcases Ez x r with⟨f,f'⟩|⟨f,f'⟩|⟨f,f'⟩ <;> grind
  ·rcases Ez x r with⟨f,f'⟩|⟨f,f'⟩|⟨f,f'⟩ <;> grind
 up q h1:=by
  rw[h]at h1;have h2:=Dk.1 (show 0<Tn x q by omega);have h3:(x+q) / 2*2=x+q:=Hu (by decide);have h4:=Dk.2 (show(x+q) / 2<x by grind);have:=KY x ((x+q) / 2);exact⟨(x+q) / 2,by grind,by rw[h];omega⟩
 dn q h1:=by
  rw[h]at h1;have h2:=Es.1 (show Tn x q<0 by omega);have h3:(x+q) / 2*2=x+q:=Hu (by decide);have h4:=Es.2 (show x<(x+q) / 2 by grind);have:=KY x ((x+q) / 2);exact⟨(x+q) / 2,by grind,by rw[h];omega⟩
 lo:=⟨x-1,by
  rw[h];have h4:=Dk.2 (show x-1<x by grind);have:=KY x (x-1);omega⟩
 hi:=⟨x+1,by
  rw[h];have h4:=Es.2 (show x<x+1 by grind);have:=KY x (x+1);omega⟩
def lim(t:Tm):Nat:=if t.point=true then 3300000 else 1000000
theorem kH{t:Tm}(h:t.point=false):lim t=1000000:=by simp[lim,h]
theorem Qut(t:Tm):1000000<=lim t:=by unfold lim;split <;> omega
theorem Quu(t:Tm):lim t<=3300000:=by unfold lim;split <;> omega
structure Va(t:Tm):Prop where
 i:t.lo=t.hi/\Gf t.p t.lo=0\/∃L,Vt (cz t.p) L t.lo t.hi
 tr:Gh t.p
 n:t.p.length<=9
 n2:2<=t.p.length
 b:Bd 3300000 t.p
 bi:t.point=false->Bd 1260 t.p
 sc:t.point=false->∃(l:List (List Int)) (P g:List Int),OO 66 t.p (Gm (Hn t.p))=some l/\Sqp P g t.p/\Vt (cz t.p) ((t.p::l).map cz) t.lo t.hi
 g:∃D M k,Gr D M k t.lo/\Gr D M k t.hi/\0<M/\Gy (D:Int)+Gy (M:Int)+k<=lim t
theorem Va.le{t:Tm}(h:Va t):t.lo<=t.hi:=by
 rcases h.i with⟨e,_⟩|⟨L,V⟩
 ·rw[e];exact Ql
 ·exact Qm V.l
theorem Va.pt{t:Tm}(h:Va t)(hp:t.point=true):t.lo=t.hi/\Gf t.p t.lo=0:=by
 rcases h.i with e|⟨L,V⟩
 ·exact e
 ·have:=M5.1 hp;have:=V.l;grind
theorem Va.iv{t:Tm}(h:Va t)(hp:t.point=false):∃L,Vt (cz t.p) L t.lo t.hi:=by
 rcases h.i with⟨e,_⟩|h
 ·have:=M5.2 (show t.hi<=t.lo by rw[e];exact Ql);rw[hp]at this;cases this
 ·exact h
theorem Va.cut{t:Tm}(h:Va t):Cut (Hl t):=by
 rcases h.i with⟨e,_⟩|⟨L,V⟩
 ·exact Qt9 (x:=t.lo) λq=>Aq e q
 ·have:Hl t=cq (cz t.p) t.lo t.hi:=funext λq=>Py V.l q
  rw[this];exact V.cut
theorem Qv9{c:Rat->Int}(hc:Cut c){p:Fw}{x:Rat}(h:c x=0)(h0:ev p x=0):Ab p c:=by
 rcases JR hc p with h1|⟨s,hs,h1⟩
 ·exact h1
 ·have:=IH hc h h1;rw[Ha.2 h0]at this;exact absurd this.symm hs
theorem Va.van{t:Tm}(h:Va t):Ab (cz t.p) (Hl t):=by
 have hc:=h.cut;rcases h.i with⟨e,h0⟩|⟨L,V⟩
 ·exact Qv9 hc (x:=t.lo) (by rw[Aq e,D6]) (by rw[Gg];exact h0)
 ·have:Hl t=cq (cz t.p) t.lo t.hi:=funext λq=>Py V.l q
  rw[this];exact V.van
theorem Va.qs{t:Tm}(h:Va t):Qs 3300000 t.lo/\Qs 3300000 t.hi:=by
 obtain⟨D,M,k,h1,h2,h3,h4⟩:=h.g;have h4:=Qe h4 (Quu t);exact⟨Oj h1 h3 h4,Oj h2 h3 h4⟩
theorem Va.qsn{t:Tm}(h:Va t)(hp:t.point=false):Qs 1000000 t.lo/\Qs 1000000 t.hi:=by
 obtain⟨D,M,k,h1,h2,h3,h4⟩:=h.g;rw[kH hp]at h4;exact⟨Oj h1 h3 h4,Oj h2 h3 h4⟩
theorem Va.tb{t:Tm}(h:Va t):Tb t:=⟨⟨h.tr,by have:=h.n;omega,Gd h.b (by omega)⟩,h.qs.1.mono (t:=16777216) (by omega),h.qs.2.mono (t:=16777216) (by omega)⟩
structure Hv(t:Tm)(D M k:Nat)(u:Tm):Prop where
 p:u.p=t.p
 i:u.lo=u.hi/\Gf u.p u.lo=0\/∃L,Vt (cz u.p) L u.lo u.hi
 c:∀q,Hl u q=Hl t q
 l:Gr D M k u.lo
 h:Gr D M k u.hi
theorem EJ{c:Rat->Int}(hc:Cut c){x:Rat}(h:c x=0)(q:Rat):c q=Tn x q:=by
 rcases Ez x q with⟨e,e'⟩|⟨e,e'⟩|⟨e,e'⟩
 ·rw[e];exact hc.mono' e' (by omega)
 ·rw[e,<-e',h]
 ·rw[e];exact hc.mono x q e' (by omega)
theorem kZ{t u:Tm}{D M k:Nat}(hu:Hv t D M k u)(hM:0<M)(hs:Gy (D:Int)+Gy (M:Int)+(k+1)<=16777216):∃v,half u=some v/\Hv t D M (k+1) v/\v.hi-v.lo<=(u.hi-u.lo) / 2/\u.lo<=v.lo/\v.hi<=u.hi:=by
 have h2:∀x:Rat,x / 2*2=x:=λx=>Hu (by decide)
 unfold half;rcases hu.i with⟨e,h0⟩|⟨L,V⟩
 ·have hp:u.point=true:=M5.2 (by rw[e];exact Ql);rw[if_pos hp];refine⟨u,rfl,⟨hu.p,hu.i,hu.c,JD hu.l,JD hu.h⟩,?_,Ql,Ql⟩;rw[e];have:=h2 (u.hi-u.hi);grind
 ·have hp:u.point=false:=by
   have:¬u.point=true:=λh=>by have:=M5.1 h;have:=V.l;grind
   simpa using this
  rw[hp,if_neg (by decide)];obtain⟨m,hm⟩:=nmE ((u.lo+u.hi) / 2);have hmg:Gr D M (k+1) m:=by rw[hm];exact PU hu.l hu.h
  have hmm:=h2 (u.lo+u.hi);rw[<-hm]at hmm;have hl:=V.l;have hl1:u.lo<m:=by grind
  have hl2:m<u.hi:=by grind
  have hch:chq (O7 u.lo u.hi)=some m:=by
   rw[Ae,<-hm];have:=Oj hmg hM hs;unfold chq;rw[if_pos ⟨this.1,this.2⟩]
  have hcm:O7 u.lo u.hi=m:=by rw[Ae,<-hm]
  rw[hch];show ∃v,some (if Hl u m=0 then(⟨u.p,m,m⟩:Tm)else if Hl u m=-1 then ⟨u.p,u.lo,m⟩else ⟨u.p,m,u.hi⟩)=some v/\_;have hw:=h2 (u.hi-u.lo);have hcu:=Py hl;have hcut:=V.cut;have hcut':Cut (Hl u):=by rw[show Hl u=cq (cz u.p) u.lo u.hi from funext hcu];exact hcut
  by_cases c0:Hl u m=0
  ·rw[if_pos c0];have hz:Gf u.p m=0:=by
    have:=FM hcut (q:=m) (by rw[<-hcu];exact c0) V.van;rwa[Gg]at this
   refine⟨_,rfl,⟨hu.p,.inl ⟨rfl,hz⟩,λq=>?_,hmg,hmg⟩,by show m-m<=_;grind,by show u.lo<=m;grind,by show m<=u.hi;grind⟩;rw[Aq rfl,<-hu.c];exact(EJ hcut' c0 q).symm
  ·rw[if_neg c0];by_cases c1:Hl u m=-1
   ·rw[if_pos c1];have hv:vv L m=vv L u.hi:=V.eq_hi hl1 (Qm hl2) (by rw[<-hcu,c1];decide);have V':Vt (cz u.p) L u.lo m:=⟨V.s,hl1,by rw[hv];exact V.v⟩;refine⟨_,rfl,⟨hu.p,.inr ⟨L,V'⟩,λq=>?_,JD hu.l,hmg⟩,by show m-u.lo<=_;grind,Ql,by show m<=u.hi;grind⟩;rw[Py hl1,<-hu.c,hcu];exact V.uniq V'.cut (Bl Ql) (by rw[QL hl1 hl2];decide) V'.van q
   ·rw[if_neg c1];have c2:Hl u m=1:=by rcases hcut'.val m with h|h|h <;> omega
    have hv:vv L m=vv L u.lo:=V.eq_lo hl1 (Qm hl2) (by rw[<-hcu];exact c2);have V':Vt (cz u.p) L m u.hi:=⟨V.s,hl2,by rw[hv];exact V.v⟩;refine⟨_,rfl,⟨hu.p,.inr ⟨L,V'⟩,λq=>?_,hmg,JD hu.h⟩,by show u.hi-m<=_;grind,by show u.lo<=m;grind,Ql⟩;rw[Py hl2,<-hu.c,hcu];exact V.uniq V'.cut (Bl (by grind)) V'.hi1 V'.van q
def WC(a b:Tm):Prop:=∃q,Hl a q=-1/\Hl b q=1
def TEq(a b:Tm):Prop:=∀q,Hl a q=Hl b q
theorem tri{a b:Tm}(ha:Cut (Hl a))(hb:Cut (Hl b)):WC a b\/TEq a b\/WC b a:=by
 rcases Classical.em (TEq a b)with h|h
 ·exact .inr (.inl h)
 ·obtain⟨q,hq⟩:=Classical.not_forall.1 h;obtain⟨r,⟨h1,h2⟩|⟨h1,h2⟩⟩:=tQ ha hb hq
  ·exact .inl ⟨r,h1,h2⟩
  ·exact .inr (.inr ⟨r,h2,h1⟩)
theorem kM{a b:Tm}(ha:Cut (Hl a))(hb:Cut (Hl b))(h:WC a b)(h':WC b a):False:=by
 obtain⟨q,q1,q2⟩:=h;obtain⟨r,r1,r2⟩:=h';have:=ha.lt r2 q1;have:=hb.lt q2 r1;grind
theorem pI{p:Ft}(k:Nat):(p.getD k 0).natAbs<=2^Tw p:=by
 have h:Gy (p.getD k 0)<=Tw p:=by
  have key:∀(l:Ft) (n:Nat),n≤l.foldl (λn z=>max n (Gy z)) n/\∀z∈l,Gy z≤l.foldl (λn z=>max n (Gy z)) n:=by
   intro l
   induction l with
   |nil=>exact λn=>⟨Qn _,λz hz=>by cases hz⟩
   |
    cons y l ih =>
    intro n;obtain⟨i1,i2⟩:=ih (max n (Gy y));refine⟨by simp only[Z0];omega,λz hz=>?_⟩;simp only[Z0];rcases Qj.1 hz with rfl|hz
    ·omega
    ·exact i2 z hz
  exact G5 (s:=Tw p) (λz hz=>(key p 0).2 z hz) k
 rw[Pn]at h;omega
theorem Qsm{s:Nat}:∀(B:Ft),(∀z∈B,z.natAbs≤2^s)->gB B≤2^(s+(B.length-1))
 | [],_=>Qh _
 |
  c::B,h=>by
  have h1:=h c (Qw ..);have h2:=Qsm B λz hz=>h z (Qi _ hz)
  simp only[gB,Zf,Ym];have h3:2^s<=2^(s+B.length):=Zs (by decide) (by omega);cases B with
  |nil=>simp only[gB,Vb]at *;omega
  |
   cons d B =>
   have h4:2^(s+(d::B).length)=2*2^(s+((d::B).length-1)):=by
    rw[Zo,<-Zq];congr 1
   rw[h4];omega
def Pa(A B:Ft):Nat:=(Tw A+Tw B+(A.length+B.length)+8)*(2*(A.length+B.length-2)-1)
theorem Qiy{A B:Ft}(tA:Gh A)(tB:Gh B)(nA:A.length<=9)(nB:B.length<=9)(lA:2<=A.length)(lB:2<=B.length){R d:Rat}(hR:1<=R)(dp:0<d)
 (hs:∀e:Rat,0<e->∃q r,Gw q<=R/\Gw r<=R/\d<=Gw (q-r)/\Gw (q-r)*((2^(Pa A B+1):Nat):Rat)<=1/\Gw (Gf A q)<e/\Gw (Gf B r)<e):False:=by
 obtain⟨a,ha⟩:∃a,A.length=a+1:=⟨A.length-1,by omega⟩;obtain⟨b,hb⟩:∃b,B.length=b+1:=⟨B.length-1,by omega⟩;obtain⟨s,hsd⟩:=nmE (Tw A+Tw B+b);obtain⟨N,hN⟩:∃N,b*(2*(a*b))+a*(2*(a*b)-b)=N:=⟨_,rfl⟩;have hNt:N<=2^(a+9):=by
  rw[<-hN];have hab:∀a b:Fin 9,b.1*(2*(a.1*b.1))+a.1*(2*(a.1*b.1)-b.1)<=2^(a.1+9):=by decide
  exact hab ⟨a,by omega⟩ ⟨b,by omega⟩
 have hK:Pa A B=(s+a+10)*(2*(a+b-1)+1):=by
  unfold Pa;rw[ha,hb,hsd,show a+1+(b+1)-2=a+b by omega,show 2*(a+b)-1=2*(a+b-1)+1 by omega];congr 1;omega
 have h0A:A.getD a 0≠0:=by have:=Rz tA (by omega);rwa[ha]at this
 have h0B:B.getD b 0≠0:=by have:=Rz tB (by omega);rwa[hb]at this
 have hp:∀m,1<=2^m:=λm=>Zy (by decide)
 refine Quk (N:=N) (D:=2^(Pa A B-1)) ha hb h0A h0B (by omega) (by omega) (h:=2^s) (hp s) (λk=>Qe (pI k) (Zs (by decide) (by omega))) ?_ hN ?_ hR dp λe ep=>?_
 ·refine Qe (Qsm (s:=Tw B) B λz hz=>?_) (Zs (by decide) (by omega));obtain⟨i,hi⟩:=Zp.1 hz;have:=pI (p:=B) i;rwa[Qc,hi]at this
 ·have h1:2*(N*2^s)<=2^(s+a+10):=by
   have:N*2^s<=2^(a+9)*2^s:=Qy _ hNt;rw[<-Xs]at this;rw[show s+a+10=(a+9+s)+1 by omega,Zq];omega
  have h2:N*2^s<=2^(s+a+9):=by
   rw[show s+a+9=(a+9)+s by omega,Xs];exact Qy _ hNt
  have h3:=Uf h1 (2*(a+b-1));have h4:=Xl h2 h3;rw[<-Fe,<-Xs]at h4;rw[<-Xy];refine Qe h4 (Zs (by decide) ?_);rw[hK,Jg,Y0];omega
 ·obtain⟨q,r,h1,h2,h3,h4,h5,h6⟩:=hs e ep;refine⟨q,r,h1,h2,h3,?_,h5,h6⟩;have hK1:1<=Pa A B:=by
   rw[hK];exact Y3 (by omega) (by omega)
  have e1:2^(Pa A B+1)=4*2^(Pa A B-1):=by
   obtain⟨m,hm⟩:∃m,Pa A B=m+1:=⟨Pa A B-1,by omega⟩;rw[hm,Ym,Zq,Zq];omega
  rw[e1]at h4
  push_cast at h4 ⊢
  exact h4
theorem Hv.lo'{t:Tm}{D M k:Nat}{u:Tm}(h:Hv t D M k u):Hl t u.lo=1\/Hl t u.lo=0/\u.lo=u.hi:=by
 rw[<-h.c];rcases h.i with⟨e,_⟩|⟨L,V⟩
 ·exact .inr ⟨by rw[Aq e,D6],e⟩
 ·exact .inl (by rw[Py V.l];exact Bl Ql)
theorem Hv.hi'{t:Tm}{D M k:Nat}{u:Tm}(h:Hv t D M k u):Hl t u.hi=0\/Hl t u.hi=-1:=by
 rw[<-h.c];rcases h.i with⟨e,_⟩|⟨L,V⟩
 ·exact .inl (by rw[Aq e,e,D6])
 ·rw[Py V.l];have:=V.hi1;rcases V.cut.val u.hi with h|h|h <;> omega
theorem Hv.le{t:Tm}{D M k:Nat}{u:Tm}(h:Hv t D M k u):u.lo<=u.hi:=by
 rcases h.i with⟨e,_⟩|⟨L,V⟩
 ·rw[e];exact Ql
 ·exact Qm V.l
theorem Qiz{a b:Tm}(ha:Va a)(hb:Va b){D M k D' M' k':Nat}{u v:Tm}(hu:Hv a D M k u)(hv:Hv b D' M' k' v)(h:WC a b):1<(v.hi-u.lo)*((2^(Pa a.p b.p+1):Nat):Rat):=by
 rcases Hr ((v.hi-u.lo)*((2^(Pa a.p b.p+1):Nat):Rat)) 1 with hw|hw
 ·exfalso;have ca:=ha.cut;have cb:=hb.cut;obtain⟨m,m1,m2⟩:=h;obtain⟨m',hm',m3⟩:=ca.dn m m1;have hpow:(0:Rat)<=((2^(Pa a.p b.p+1):Nat):Rat):=Xt;obtain⟨R,hR⟩:=nmE (Gw u.lo+Gw m'+Gw m+Gw v.hi+1);have n1:=Tz u.lo;have n2:=Tz m';have n3:=Tz m;have n4:=Tz v.hi;refine Qiy (R:=R) (d:=m-m') ha.tr hb.tr ha.n hb.n ha.n2 hb.n2 (by grind) (by grind) λe ep=>?_
  obtain⟨q,q1,q2,q3⟩:∃q,u.lo<=q/\q<=m'/\Gw (Gf a.p q)<e:=by
   rcases hu.lo' with h1|⟨h1,_⟩
   ·obtain⟨x,y,hx,hy,hq⟩:=ha.van e ep;rcases Hr x u.lo with e1|e1
    ·exact⟨u.lo,Ql,Qm (ca.lt h1 m3),by rw[<-Gg];exact hq u.lo e1 (Qm (ca.lt h1 hy))⟩
    ·exact⟨x,Qm e1,Qm (ca.lt hx m3),by rw[<-Gg];exact hq x Ql (Qm (ca.lt hx hy))⟩
   ·refine⟨u.lo,Ql,?_,by rw[<-Gg,FM ca h1 ha.van,Sy];exact ep⟩;rcases Hr u.lo m' with e1|e1
    ·exact e1
    ·have:=ca.mono m' u.lo e1 (by omega);omega
  obtain⟨r,r1,r2,r3⟩:∃r,r<=v.hi/\m<=r/\Gw (Gf b.p r)<e:=by
   rcases hv.hi' with h1|h1
   ·refine⟨v.hi,Ql,?_,by rw[<-Gg,FM cb h1 hb.van,Sy];exact ep⟩;rcases Hr m v.hi with e1|e1
    ·exact e1
    ·have:=cb.mono v.hi m e1 (by omega);omega
   ·obtain⟨x,y,hx,hy,hq⟩:=hb.van e ep;rcases Hr v.hi y with e1|e1
    ·exact⟨v.hi,Ql,Qm (cb.lt m2 h1),by rw[<-Gg];exact hq v.hi (Qm (cb.lt hx h1)) e1⟩
    ·exact⟨y,Qm e1,Qm (cb.lt m2 hy),by rw[<-Gg];exact hq y (Qm (cb.lt hx hy)) Ql⟩
  have e1:Gw (q-r)=r-q:=by unfold Gw;split <;> grind
  have b1:Gw q<=R:=by
   have:=HV (R:=R) (x:=u.lo) (y:=m') (t:=q) (by grind) (by grind) q1 q2;exact this
  have b2:Gw r<=R:=by
   have:=HV (R:=R) (x:=m) (y:=v.hi) (t:=r) (by grind) (by grind) r2 r1;exact this
  refine⟨q,r,b1,b2,by rw[e1];grind,?_,q3,r3⟩;rw[e1];have:=Q7 (show r-q<=v.hi-u.lo by grind) hpow;exact Zi this hw
 ·exact hw
theorem gY{a b:Tm}(ha:Va a)(hb:Va b){D M k D' M' k':Nat}{u v:Tm}(hu:Hv a D M k u)(hv:Hv b D' M' k' v)(hne:¬TEq a b)(h:ML u v=true):WC a b:=by
 have h1:=(of_decide_eq_true h).1;have h1:=GT.1 h1;rcases tri ha.cut hb.cut with h2|h2|⟨m,m1,m2⟩
 ·exact h2
 ·exact absurd h2 hne
 ·exfalso;have e1:m<u.hi:=by
   rcases Hr u.hi m with e|e
   ·rcases Classical.em (u.hi=m)with e'|e'
    ·have:=hu.hi';rw[e']at this;omega
    ·have:=ha.cut.mono u.hi m (by grind) (by have:=hu.hi';omega);omega
   ·exact e
  have e2:v.lo<m:=by
   rcases Hr m v.lo with e|e
   ·rcases Classical.em (m=v.lo)with e'|e'
    ·have:=hv.lo';rw[<-e']at this;omega
    ·have:=hb.cut.mono m v.lo (by grind) (by omega);have:=hv.lo';omega
   ·exact e
  grind
theorem Qb2{a b:Tm}(ha:Va a)(hb:Va b){D M k D' M' k':Nat}{u v:Tm}(hu:Hv a D M k u)(hv:Hv b D' M' k' v)(hlt:WC a b)(h:ML u v≠true):v.lo<=u.hi:=by
 rcases Hr v.lo u.hi with e|e
 ·exact e
 ·refine absurd (decide_eq_true ⟨GT.2 (Qm e),λh'=>?_⟩) h;have:=Pf.1 h'.2;grind
theorem jW(m:Nat):((2^(m+1):Nat):Rat)=2*((2^m:Nat):Rat):=by rw[Zq];push_cast;grind
def Qs7(a b:Tm)(r:Tm×Tm×Int):Prop:=r.2.2=-1/\WC a b\/r.2.2=1/\WC b a
theorem Qec(A B:Ft):Pa A B=Pa B A:=by unfold Pa;rw[Nat.add_comm A.length,Nat.add_comm (Tw A)]
theorem Qwu{a b:Tm}(ha:Va a)(hb:Va b)(hne:¬TEq a b){D M D' M':Nat}(hM:0<M)(hM':0<M'):∀(i j:Nat) (u v:Tm) (k k':Nat) (W:Rat),2*i+1<=j->Hv a D M k u->Hv b D' M' k' v->Gy (D:Int)+Gy (M:Int)+(k+j)<=16777216->Gy (D':Int)+Gy (M':Int)+(k'+j)<=16777216->u.hi-u.lo<=W->v.hi-v.lo<=W->2*W*((2^(Pa a.p b.p+1):Nat):Rat)<=((2^i:Nat):Rat)->∃r,nE j u v=some r/\Qs7 a b r:=by
 intro i;have step:∀(j:Nat) (u v:Tm) (k k':Nat),Hv a D M k u->Hv b D' M' k' v->Gy (D:Int)+Gy (M:Int)+(k+(j+1))<=16777216->Gy (D':Int)+Gy (M':Int)+(k'+(j+1))<=16777216->(∃r,nE (j+1) u v=some r/\Qs7 a b r)\/(ML u v≠true/\ML v u≠true/\∃u' v' k1 k1',nE (j+1) u v=nE j u' v'/\Hv a D M k1 u'/\Hv b D' M' k1' v'/\k1<=k+1/\k1'<=k'+1/\(v.hi-v.lo<=u.hi-u.lo/\u'.hi-u'.lo<=(u.hi-u.lo) / 2/\v'=v\/u.hi-u.lo<=v.hi-v.lo/\v'.hi-v'.lo<=(v.hi-v.lo) / 2/\u'=u)):=by
  intro j u v k k' hu hv hs hs';by_cases h1:ML u v=true
  ·exact .inl ⟨(u,v,-1),by simp only[nE];rw[if_pos h1],.inl ⟨rfl,gY ha hb hu hv hne h1⟩⟩
  by_cases h2:ML v u=true
  ·exact .inl ⟨(u,v,1),by simp only[nE];rw[if_neg h1,if_pos h2],.inr ⟨rfl,gY hb ha hv hu (λh=>hne λq=>(h q).symm) h2⟩⟩
  refine .inr ⟨h1,h2,?_⟩;by_cases h3:0<=Tn (Qe6 u.hi u.lo) (Qe6 v.hi v.lo)
  ·obtain⟨x,x1,x2,x3,_⟩:=kZ hu hM (by omega);refine⟨x,v,k+1,k',?_,x2,hv,by omega,by omega,.inl ⟨?_,x3,rfl⟩⟩
   ·simp only[nE];rw[if_neg h1,if_neg h2,if_pos h3,x1];rfl
   ·have:=BO.1 h3;rwa[CO,CO]at this
  ·obtain⟨x,x1,x2,x3,_⟩:=kZ hv hM' (by omega);refine⟨u,x,k,k'+1,?_,hu,x2,by omega,by omega,.inr ⟨?_,x3,rfl⟩⟩
   ·simp only[nE];rw[if_neg h1,if_neg h2,if_neg h3,x1];rfl
   ·rcases Hr (u.hi-u.lo) (v.hi-v.lo)with e|e
    ·exact e
    ·refine absurd (BO.2 ?_) h3;rw[CO,CO];exact Qm e
 induction i with
 |
  zero =>
  intro j u v k k' W hj hu hv hs hs' hW hW' hK;obtain⟨j,rfl⟩:∃m,j=m+1:=⟨j-1,by omega⟩;rcases step j u v k k' hu hv hs hs' with h|⟨h1,h2,_⟩
  ·exact h
  ·exfalso;have hpow:(0:Rat)<=((2^(Pa a.p b.p+1):Nat):Rat):=Xt;rw[Ve]at hK;rcases tri ha.cut hb.cut with h3|h3|h3
   ·have h4:=Qb2 ha hb hu hv h3 h1;have h5:=Qiz ha hb hu hv h3;have h6:=Q7 (show v.hi-u.lo<=2*W by clear step;grind) hpow;have h7:((1:Nat):Rat)=1:=rfl;rw[h7]at hK;clear step;grind
   ·exact hne h3
   ·have h4:=Qb2 hb ha hv hu h3 h2;have h5:=Qiz hb ha hv hu h3;rw[Qec]at h5;have h6:=Q7 (show u.hi-v.lo<=2*W by clear step;grind) hpow;have h7:((1:Nat):Rat)=1:=rfl;rw[h7]at hK;clear step;grind
 |
  succ i ih =>
  intro j u v k k' W hj hu hv hs hs' hW hW' hK;obtain⟨j,rfl⟩:∃m,j=m+2:=⟨j-2,by omega⟩;have hd:∀x:Rat,x / 2*2=x:=λx=>Hu (by decide)
  rcases step (j+1) u v k k' hu hv hs hs' with h|⟨_,_,u1,v1,k1,k1',e1,hu1,hv1,hk1,hk1',hw1⟩
  ·exact h
  ·rw[e1];rcases step j u1 v1 k1 k1' hu1 hv1 (by omega) (by omega)with h|⟨_,_,u2,v2,k2,k2',e2,hu2,hv2,hk2,hk2',hw2⟩
   ·exact h
   ·rw[e2];have a1:=hd (u.hi-u.lo);have a2:=hd (v.hi-v.lo);have a3:=hd (u1.hi-u1.lo);have a4:=hd (v1.hi-v1.lo);have a5:=hd W;have b1:=hu.le;have b2:=hv.le;have b3:=hu1.le;have b4:=hv1.le;have b5:=hu2.le;have b6:=hv2.le;have hww:u2.hi-u2.lo<=W / 2/\v2.hi-v2.lo<=W / 2:=by
     clear step ih;rcases hw1 with⟨c1,c2,rfl⟩|⟨c1,c2,rfl⟩ <;> rcases hw2 with⟨d1,d2,rfl⟩|⟨d1,d2,rfl⟩ <;> constructor <;> grind
    refine ih j u2 v2 k2 k2' (W / 2) (by omega) hu2 hv2 (by omega) (by omega) hww.1 hww.2 ?_;rw[jW i]at hK;have:2*(W / 2)*((2^(Pa a.p b.p+1):Nat):Rat)*2=2*W*((2^(Pa a.p b.p+1):Nat):Rat):=by clear step ih hw1 hw2;grind
    clear step ih hw1 hw2;grind
def CmpOk(a b:Tm)(c:Int):Prop:=c=-1/\WC a b\/c=0/\TEq a b\/c=1/\WC b a
theorem Va.hv0{t:Tm}(h:Va t):∃D M k,Hv t D M k t/\0<M/\Gy (D:Int)+Gy (M:Int)+k<=lim t:=by
 obtain⟨D,M,k,h1,h2,h3,h4⟩:=h.g;exact⟨D,M,k,⟨rfl,h.i,λ_=>rfl,h1,h2⟩,h3,h4⟩
theorem eZ{a:Tm}(ha:Va a)(hp:a.point=true)(q:Rat):Hl a q=Tn a.lo q:=Aq (ha.pt hp).1 q
theorem Qh3{a b:Tm}(hb:Va b){x:Rat}(hx:∀q,Hl a q=Tn x q):CmpOk a b (-Hl b x):=by
 have cb:=hb.cut;rcases cb.val x with h|h|h
 ·obtain⟨q,q1,q2⟩:=cb.up x h;refine .inl ⟨by omega,q,?_,q2⟩;rw[hx];rcases Ez x q with⟨e,e'⟩|⟨e,e'⟩|⟨e,e'⟩ <;> grind
 ·exact .inr (.inl ⟨by omega,λq=>by rw[hx,EJ cb h]⟩)
 ·obtain⟨q,q1,q2⟩:=cb.dn x h;refine .inr (.inr ⟨by omega,q,q2,?_⟩);rw[hx];rcases Ez x q with⟨e,e'⟩|⟨e,e'⟩|⟨e,e'⟩ <;> grind
theorem CmpOk.symm{a b:Tm}{c:Int}(h:CmpOk a b c):CmpOk b a (-c):=by
 rcases h with⟨h1,h2⟩|⟨h1,h2⟩|⟨h1,h2⟩
 ·exact .inr (.inr ⟨by omega,h2⟩)
 ·exact .inr (.inl ⟨by omega,λq=>(h2 q).symm⟩)
 ·exact .inl ⟨by omega,h2⟩
theorem Qv3:Szz 9 1260:=⟨by decide,by decide⟩
theorem HJ(g:Ft)(lo hi:Rat):BW g lo hi=true↔dT (cz g) lo hi:=by
 unfold BW dT;rw[decide_eq_true_iff,Sf,sS,Gg]
theorem sQ{g:Ft}(tg:Gh g)(hn:g.length≠0){lo hi:Rat}(h:dT (cz g) lo hi):1<g.length:=by
 rcases Q8 1 g.length with e|e
 ·exact e
 ·exfalso;obtain⟨c,rfl⟩:∃c,g=[c]:=Jx.1 (by omega);have hc:c≠0:=by have:=Rz tg (by simp);simpa using this
  have hv:∀t,ev (cz [c]) t=(c:Rat):=λt=>by rw[Gg];simp only[Gf];grind
  have hs:Gt (c:Rat)≠0:=λh=>O5 hc (Ha.1 h)
  unfold dT at h;rw[hv,Ix (by rw[hv];exact hs),hv]at h;rcases h with h|h
  ·exact hs h
  ·exact h rfl
theorem UC{q:Rat}:Gw q<=((2^Gy q.num:Nat):Rat):=by
 have h1:Gy q.num<=Gy q.num:=Qn _;rw[Pn]at h1;have e:(q.num:Rat)=q*(q.den:Rat):=by
  have:(q.num:Rat) / (((q.den:Int)):Rat)=q:=by rw[Tt,Z9]
  have h2:(q.num:Rat) / (q.den:Rat)*(q.den:Rat)=q.num:=Zc (by have:=nat_pos q.den_pos;grind);rw[show(q.num:Rat) / (q.den:Rat)=q from this]at h2;exact h2.symm
 have hd:(1:Rat)<=(q.den:Rat):=by
  have:((1:Nat):Rat)<=(q.den:Rat):=Zg.2 q.den_pos;exact this
 have h2:Gw q<=Gw (q.num:Rat):=by
  rw[e,Ay];have:Gw (q.den:Rat)=(q.den:Rat):=by unfold Gw;rw[if_neg (by grind)]
  rw[this];have:=Ni (a:=Gw q) (c:=1) (Tz q) Ql (by decide) hd;grind
 rw[Mr]at h2;exact Zi h2 (Zg.2 (Yn h1))
theorem MM{a:Tm}{w:Nat}(h:Gy a.lo.num+Gy a.hi.num<=w):a.hi-a.lo<=((2^(w+1):Nat):Rat):=by
 have h1:=UC (q:=a.lo);have h2:=UC (q:=a.hi);have h3:((2^Gy a.lo.num:Nat):Rat)<=((2^w:Nat):Rat):=Zg.2 (Zs (by decide) (by omega));have h4:((2^Gy a.hi.num:Nat):Rat)<=((2^w:Nat):Rat):=Zg.2 (Zs (by decide) (by omega));rw[jW];rw[Mh]at h1 h2;grind
theorem Ep{p:Ft}{s:Nat}(h:Bd s p):Tw p<=s:=by
 have:=I4 h p.length;rwa[Za]at this
theorem Qmh{a b:Tm}(ha:Va a)(hb:Va b)(pa:a.point=false)(pb:b.point=false):QY a b<=9000000:=by
 have q1:=ha.qsn pa;have q2:=hb.qsn pb;have l1:=ha.n;have l2:=hb.n;have s1:=Ep (ha.bi pa);have s2:=Ep (hb.bi pb);have b1:=q1.1.1;have b2:=q1.2.1;have b3:=q2.1.1;have b4:=q2.2.1;have:4*(a.p.length+b.p.length)*(Tw a.p+Tw b.p+(a.p.length+b.p.length)+8)<=4*18*2600:=Xl (by omega) (by omega);unfold QY;omega
theorem Qf5{a b:Tm}(ha:Va a)(hb:Va b)(pa:a.point=false)(pb:b.point=false)(hne:¬TEq a b):∃r,nE (QY a b) a b=some r/\Qs7 a b r:=by
 obtain⟨D,M,k,h1,h2,h3⟩:=ha.hv0;obtain⟨D',M',k',h1',h2',h3'⟩:=hb.hv0;rw[kH pa]at h3;rw[kH pb]at h3';have hst:=Qmh ha hb pa pb;obtain⟨w,hw⟩:=nmE (Gy a.lo.num+Gy a.hi.num+Gy b.lo.num+Gy b.hi.num);obtain⟨K,hK⟩:=nmE (Tw a.p+Tw b.p+(a.p.length+b.p.length)+8);obtain⟨n,hn⟩:=nmE (a.p.length+b.p.length);have l1:=ha.n2;have l2:=hb.n2;have hsteps:QY a b=64+2*w+4*n*K:=by unfold QY;rw[hw,hK,hn]
 have hg:Pa a.p b.p=K*(2*(n-2)-1):=by unfold Pa;rw[hK,hn]
 have hgle:Pa a.p b.p+5*K<=2*n*K:=by
  rw[hg,Zo K,<-Yf];exact Qy _ (by omega)
 have hKp:8<=K:=by omega
 refine Qwu ha hb hne h2 h2' (31+w+2*n*K) (QY a b) a b k k' ((2^(w+1):Nat):Rat) ?_ h1 h1' (by omega) (by omega) (MM (by omega)) (MM (by omega)) ?_
 ·rw[hsteps,Jg,Xy 4,Xy 2 n];omega
 ·have e:2*(2^(w+1))*(2^(Pa a.p b.p+1))<=2^(31+w+2*n*K):=by
   rw[Zo 2,<-Zq,<-Xs];exact Zs (by decide) (by omega)
  have:=Zg.2 e
  push_cast at this ⊢
  exact this
theorem Qaf{a b:Tm}(ha:Va a)(hb:Va b):∃c,rM a b=some c/\CmpOk a b c:=by
 unfold rM;by_cases pa:a.point=true
 ·rw[if_pos pa];exact⟨_,rfl,Qh3 hb (eZ ha pa)⟩
 rw[if_neg pa];by_cases pb:b.point=true
 ·rw[if_pos pb];have:=(Qh3 ha (eZ hb pb)).symm;rw[Int.neg_neg]at this;exact⟨_,rfl,this⟩
 rw[if_neg pb];have pa:a.point=false:=by simpa using pa
 have pb:b.point=false:=by simpa using pb
 obtain⟨L,V⟩:=ha.iv pa;obtain⟨L',V'⟩:=hb.iv pb;have eqa:∀q,Hl a q=cq (cz a.p) a.lo a.hi q:=Py V.l;have eqb:∀q,Hl b q=cq (cz b.p) b.lo b.hi q:=Py V'.l;obtain⟨lo,hlo⟩:=nmE (if 0<Tn b.lo a.lo then b.lo else a.lo);obtain⟨hi,hhi⟩:=nmE (if Tn b.hi a.hi<0 then b.hi else a.hi);show ∃c,(if Tn (if 0<Tn b.lo a.lo then b.lo else a.lo) (if Tn b.hi a.hi<0 then b.hi else a.hi)<0 then _ else _)=some c/\_;rw[<-hlo,<-hhi];have e1:(0<Tn b.lo a.lo)=(a.lo<b.lo):=propext Dk;have e2:(Tn b.hi a.hi<0)=(b.hi<a.hi):=propext Es;have e3:(Tn lo hi<0)=(lo<hi):=propext Es;simp only[e1]at hlo;simp only[e2]at hhi;simp only[e3];obtain⟨g,g1,g2,g3,g4⟩:=dG Qv3 ha.tr hb.tr ha.n hb.n (ha.bi pa) (hb.bi pb) (by have:=ha.n2;omega);obtain⟨U,W,hc⟩:=g2.c;obtain⟨u,hu⟩:=g2.da;obtain⟨u',hu'⟩:=g2.db;have key:=V.same V' (g:=cz g) (u:=u) (u':=u') (U:=U) (W:=W) (k:=1) (by decide) hu hu' (λt=>by rw[Gg,Gg,Gg,hc];grind) (a:=lo) (b:=hi) (by rw[hlo];split <;> grind) (by rw[hlo];split <;> grind) (by rw[hlo];split <;> simp) (by rw[hhi];split <;> grind) (by rw[hhi];split <;> grind) (by rw[hhi];split <;> simp);have hTE:(∀q,cq (cz a.p) a.lo a.hi q=cq (cz b.p) b.lo b.hi q)↔TEq a b:=by
  unfold TEq;constructor
  ·intro h q;rw[eqa,eqb];exact h q
  ·intro h q;rw[<-eqa,<-eqb];exact h q
 rw[hTE]at key;have fin:¬TEq a b->∃c,((nE (QY a b) a b).bind λr=>some r.2.2)=some c/\CmpOk a b c:=λhne=>by
  obtain⟨r,r1,r2⟩:=Qf5 ha hb pa pb hne;refine⟨r.2.2,by rw[r1];rfl,?_⟩;rcases r2 with h|h
  ·exact .inl h
  ·exact .inr (.inr h)
 by_cases hl:lo<hi
 ·rw[if_pos hl,g1];show ∃c,(if 1<g.length/\BW g lo hi=true then some 0 else(nE (QY a b) a b).bind λr=>some r.2.2)=some c/\_;by_cases hh:BW g lo hi=true
  ·have hq:=(HJ g lo hi).1 hh;rw[if_pos ⟨sQ g2.t g2.n hq,hh⟩];exact⟨0,rfl,.inr (.inl ⟨rfl,key.1 ⟨hl,hq⟩⟩)⟩
  ·rw[if_neg λh=>hh h.2];exact fin λh=>hh ((HJ g lo hi).2 (key.2 h).2)
 ·rw[if_neg hl];exact fin λh=>hl (key.2 h).1
def SgT(p:Ft)(a:Tm)(s:Int):Prop:=s=0/\Ab (cz p) (Hl a)\/s≠0/\NZ (cz p) (Hl a) s
theorem Ql0{p:Ft}{c:Rat->Int}(hc:Cut c){x:Rat}(h:c x=0):Hq p x=0/\Ab (cz p) c\/Hq p x≠0/\NZ (cz p) c (Hq p x):=by
 rw[Sf,<-Gg];rcases JR hc (cz p)with h1|⟨s,hs,h1⟩
 ·exact .inl ⟨Ha.2 (FM hc h h1),h1⟩
 ·have:=IH hc h h1;rw[this];exact .inr ⟨hs,h1⟩
theorem Mq{l:Fu}{lo hi:Rat}(h:lo<=hi):Rf l lo hi=(vv (l.map cz) lo:Int)-(vv (l.map cz) hi:Int):=by
 unfold Rf;rw[if_neg λh'=>by have:=Es.1 h';grind,JF,JF]
theorem Ql1{p q:Ft}{L:Fx}(hp:Gh p)(np:p.length<=9)(lp:2<=p.length)(hS:WB (cz q) L)(hpq:Lj (cz q) (cz p)){a:Tm}(ha:Va a){s:Int}(hnz:NZ (cz p) (Hl a) s){D M k:Nat}{x:Tm}(hx:Hv a D M k x)(hl:x.lo<x.hi)(hv:vv L x.lo≠vv L x.hi):1<(x.hi-x.lo)*((2^(Pa a.p p+1):Nat):Rat):=by
 rcases Hr ((x.hi-x.lo)*((2^(Pa a.p p+1):Nat):Rat)) 1 with hw|hw
 ·exfalso;have ca:=ha.cut;obtain⟨d,dp,x1,y1,c1,c2,hn⟩:=hnz;obtain⟨x2,x12,c3⟩:=ca.up x1 c1;obtain⟨y2,y12,c4⟩:=ca.dn y1 c2;have hpow:(0:Rat)<=((2^(Pa a.p p+1):Nat):Rat):=Xt;obtain⟨z,zp,z1,z2⟩:=min2 (a:=x2-x1) (b:=y1-y2) (by clear hn;grind) (by clear hn;grind);obtain⟨R0,hR0,r1,r2⟩:=yS x.lo x.hi;obtain⟨u,hu⟩:=hpq;refine Qiy (R:=R0+1) (d:=z) ha.tr hp ha.n np ha.n2 lp (by clear hn;grind) zp λe ep=>?_
  obtain⟨q0,q1,q2,q3,q4,q5⟩:∃q0,x.lo<=q0/\q0<=x.hi/\x2<=q0/\q0<=y2/\Gw (Gf a.p q0)<e:=by
   rcases hx.lo' with h1|⟨h1,h2⟩
   ·obtain⟨x',y',hx',hy',hq⟩:=ha.van e ep;obtain⟨m,m1,m2,m3,m4⟩:∃m,Hl a m=1/\x.lo<=m/\x2<=m/\x'<=m:=by
     rcases Hr x.lo x2 with e1|e1
     ·rcases Hr x2 x' with e2|e2
      ·exact⟨x',hx',by clear hn hq;grind,e2,Ql⟩
      ·exact⟨x2,c3,e1,Ql,Qm e2⟩
     ·rcases Hr x.lo x' with e2|e2
      ·exact⟨x',hx',e2,by clear hn hq;grind,Ql⟩
      ·exact⟨x.lo,h1,Ql,Qm e1,Qm e2⟩
    refine⟨m,m2,?_,m3,Qm (ca.lt m1 c4),by rw[<-Gg];exact hq m m4 (Qm (ca.lt m1 hy'))⟩;rcases hx.hi' with h3|h3
    ·rcases Hr m x.hi with e1|e1
     ·exact e1
     ·have:=ca.mono x.hi m e1 (by omega);omega
    ·exact Qm (ca.lt m1 h3)
   ·exact absurd h2 (by clear hn;grind)
  obtain⟨b,hb⟩:=nmE (vL R0 u);have hb0:0<=b:=by rw[hb];exact XE hR0 u
  obtain⟨f,fp,_,hf⟩:=Ry (b:=b) (d:=if e<=d then e else d) hb0 (by split <;> assumption);obtain⟨r,r3,r4,r5⟩:=uE hS hl hv fp;have hrR:Gw r<=R0:=HV r1 r2 r3 r4;have hpr:Gw (Gf p r)<(if e<=d then e else d):=by
   rw[<-Gg,hu];have:=Rq (Qm r5) (MI hrR u);rw[<-hb]at this;exact J1.1 λh=>absurd (Zi h this) (J1.2 hf)
  have hpe:Gw (Gf p r)<e:=by split at hpr <;> (clear hn;grind)
  have hpd:Gw (Gf p r)<d:=by split at hpr <;> (clear hn;grind)
  have hrout:r<x1\/y1<r:=by
   rcases Hr x1 r with e1|e1
   ·rcases Hr r y1 with e2|e2
    ·have:=(hn r e1 e2).2;rw[Gg]at this;exact absurd this (J1.2 hpd)
    ·exact .inr e2
   ·exact .inl e1
  have hqr:z<=Gw (q0-r):=by
   clear hn;rcases hrout with h|h
   ·have:Gw (q0-r)=q0-r:=by unfold Gw;split <;> grind
    rw[this];grind
   ·have:Gw (q0-r)=r-q0:=by unfold Gw;split <;> grind
    rw[this];grind
  have hq0R:Gw q0<=R0:=HV r1 r2 q1 q2;refine⟨q0,r,by clear hn;grind,by clear hn;grind,hqr,?_,q5,hpe⟩;have h1:Gw (q0-r)<=x.hi-x.lo:=by rw[Mh];clear hn;constructor <;> grind
  exact Zi (Q7 h1 hpow) hw
 ·exact hw
theorem Qlz{p q:Ft}{l:Fu}(hp:Gh p)(np:p.length<=9)(lp:2<=p.length)(hS:WB (cz q) (l.map cz))(hpq:Lj (cz q) (cz p)){a:Tm}(ha:Va a){s:Int}(hnz:NZ (cz p) (Hl a) s){D M:Nat}(hM:0<M):∀(j i:Nat) (x:Tm) (k:Nat) (W:Rat),i+1<=j->Hv a D M k x->Gy (D:Int)+Gy (M:Int)+(k+j)<=16777216->x.hi-x.lo<=W->W*((2^(Pa a.p p+1):Nat):Rat)<=((2^i:Nat):Rat)->∃u k',sgF l j x=some u/\Hv a D M k' u/\(u.point=true\/Rf l u.lo u.hi=0)
 | 0,i,x,k,W,h,_,_,_,_=>by omega
 |
  j+1,i,x,k,W,hj,hx,hs,hW,hK=>by
  simp only[sgF];by_cases h:x.point=true\/Rf l x.lo x.hi=0
  ·rw[if_pos h];exact⟨x,k,rfl,hx,h⟩
  ·rw[if_neg h];obtain⟨v,v1,v2,v3,_⟩:=kZ hx hM (by omega);rw[v1];show ∃u k',sgF l j v=some u/\_;have hpt:¬x.hi<=x.lo:=λh'=>h (.inl (M5.2 h'))
   have hl:x.lo<x.hi:=by grind
   have hvv:vv (l.map cz) x.lo≠vv (l.map cz) x.hi:=λh'=>h (.inr (by rw[Mq (Qm hl)];omega))
   have hg:=Ql1 hp np lp hS hpq ha hnz hx hl hvv;have hpow:(0:Rat)<=((2^(Pa a.p p+1):Nat):Rat):=Xt;have hd:∀x:Rat,x / 2*2=x:=λx=>Hu (by decide)
   cases i with
   |
    zero =>
    exfalso;rw[Ve]at hK;have:=Q7 hW hpow;have h7:((1:Nat):Rat)=1:=rfl;rw[h7]at hK;grind
   |
    succ i =>
    refine Qlz hp np lp hS hpq ha hnz hM j i v (k+1) (W / 2) (by omega) v2 (by omega) ?_ ?_
    ·have:=hd (x.hi-x.lo);have:=hd W;grind
    ·rw[jW i]at hK;have:=hd W;have:W / 2*((2^(Pa a.p p+1):Nat):Rat)*2=W*((2^(Pa a.p p+1):Nat):Rat):=by grind
     grind
theorem pW{x y:Rat}:∀{ws:Fx},(∀w∈ws,Gt (ev w x)=Gt (ev w y))->Gt (ev (ZT ws) x)=Gt (ev (ZT ws) y)
 | [],_=>by simp only[ZT];rw[S9,S9]
 |
  w::l,h=>by
  simp only[ZT];rw[Gj,Gj,Mp,Mp,h w (Qw ..),pW λv hv=>h v (Qi _ hv)]
theorem xA{p q o:Ft}(hpt:Parts p q o)(tp:Gh p)(hp:p.length≠0){L:Fx}(hS:WB (cz q) L){x y:Rat}(hxy:x<y)(hv:vv L x=vv L y):∃s,s≠0/\∀z,x<z->z<=y->Gt (Gf p z)=s:=by
 obtain⟨ws,w1,w2⟩:=hpt.ws;obtain⟨_,_,_,_,_,p6,p7⟩:=M6 tp hp;have key:∀z,x<z->z≤y->∀w∈ws.map cz,Sm w x z:=λz h1 h2 w hw=>by
  obtain⟨v,hv',rfl⟩:=Zd.1 hw;obtain⟨u,hu⟩:=(w1 v hv').2;have a1:=Aa hS h1;have a2:vv L y<=vv L z:=by
   rcases Classical.em (z=y)with e|e
   ·rw[e];exact Qn _
   ·exact Aa hS (by grind)
  exact UU hS hu h1 (by omega)
 have hval:∀z,Gf p z=(Rl p:Rat)*ev (ZT (ws.map cz)) z:=λz=>by rw[p7,w2]
 refine⟨Gt (Gf p y),λh0=>?_,λz h1 h2=>?_⟩
 ·rw[hval,Mp]at h0;rcases Yj.1 h0 with h|h
  ·exact O5 p6 (Ha.1 h)
  ·have:∀l:Fx,(∀w∈l,Gt (ev w y)≠0)->Gt (ev (ZT l) y)≠0:=by
    intro l
    induction l with
    |nil=>intro _;simp only[ZT];rw[S9];decide
    |
     cons w l ih =>
     intro h;simp only[ZT];rw[Gj,Mp];exact X9 (h w (Qw ..)) (ih λv hv=>h v (Qi _ hv))
   refine this _ (λw hw=>?_) h;have hs:=key y hxy Ql w hw;rw[hs.s];exact hs.n
 ·rw[hval,hval,Mp,Mp,pW (y:=y) λw hw=>(key z h1 h2 w hw).s.trans (key y hxy Ql w hw).s.symm]
theorem Qi3{g p P:Ft}{c:Rat->Int}(hc:Cut c)(hg:Gc g p P):Ab (cz g) c↔Ab (cz p) c/\Ab (cz P) c:=by
 constructor
 ·intro h;obtain⟨u,hu⟩:=hg.da;obtain⟨v,hv⟩:=hg.db;exact⟨Nj hc hu h,Nj hc hv h⟩
 ·rintro⟨h1,h2⟩
  obtain⟨U,V,hcc⟩:=hg.c;have a1:Ab (H7 U (cz p)) c:=Nj hc (p:=cz p) (q:=U) (λt=>by rw[Gj];grind) h1;have a2:Ab (H7 V (cz P)) c:=Nj hc (p:=cz P) (q:=V) (λt=>by rw[Gj];grind) h2;exact DV (λt=>by rw[Gg,hcc,Gj,Gj,Gg,Gg]) a1 a2
theorem Ql9{p:Ft}(hp:Okp 9 1180 p){a:Tm}(ha:Va a):∃s,UK p a=some s/\SgT p a s:=by
 unfold UK;rw[if_neg hp.nz];have ca:=ha.cut;by_cases pa:a.point=true
 ·rw[if_pos pa];exact⟨_,rfl,Ql0 ca (x:=a.lo) (by rw[eZ ha pa,D6])⟩
 rw[if_neg pa];have pa:a.point=false:=by simpa using pa
 obtain⟨L,V⟩:=ha.iv pa;have eqa:∀q,Hl a q=cq (cz a.p) a.lo a.hi q:=Py V.l;obtain⟨g,g1,g2,g3,g4⟩:=dG Qv3 hp.t ha.tr hp.l ha.n (Gd hp.b (by omega)) (ha.bi pa) hp.nz;obtain⟨u',hu'⟩:=g2.db;have hhas:=V.has hu' (a:=a.lo) (b:=a.hi) Ql V.l Ql;have hvan:=Qi3 ca g2;rw[show cq (cz a.p) a.lo a.hi=Hl a from(funext eqa).symm]at hhas;rw[g1];show ∃s,(if 1<g.length/\BW g a.lo a.hi=true then some 0 else _)=some s/\_;by_cases hh:BW g a.lo a.hi=true
 ·have hq:=(HJ g _ _).1 hh;rw[if_pos ⟨sQ g2.t g2.n hq,hh⟩];exact⟨0,rfl,.inl ⟨rfl,(hvan.1 (hhas.1 hq).1).1⟩⟩
 ·rw[if_neg λh=>hh h.2];have hnv:¬Ab (cz p) (Hl a):=λh=>hh ((HJ g _ _).2 (hhas.2 ⟨hvan.2 ⟨h,ha.van⟩,by rw[eqa];exact Bl Ql,by rw[eqa];exact V.hi1⟩))
  rcases JR ca (cz p)with h|⟨s,CY,hnz⟩
  ·exact absurd h hnv
  obtain⟨q,o,q1,q2,hpt⟩:=wJ hp;obtain⟨q',l,r1,r2,hS,hl0⟩:=chain_ok hp;rw[q1]at r1;injection r1 with r1;subst r1;rw[r2];show ∃s,((sgF (q::l) (64+2*(Gy a.lo.num+Gy a.hi.num)+4*(a.p.length+p.length)*(Tw a.p+Tw p+(a.p.length+p.length)+8)) a).bind λx=>some (Hq p x.hi))=some s/\_;obtain⟨w,hw⟩:=nmE (Gy a.lo.num+Gy a.hi.num);obtain⟨K,hK⟩:=nmE (Tw a.p+Tw p+(a.p.length+p.length)+8);obtain⟨n,hn⟩:=nmE (a.p.length+p.length);rw[<-hw,<-hK,<-hn];obtain⟨gg,sq⟩:=hpt.sq;obtain⟨_,_,_,_,_,pf0,pfe⟩:=M6 hp.t hp.nz;have hpq:Lj (cz q) (cz p):=⟨Nk (Rl p) (cz gg),λt=>by rw[Gg,Gg,Hd,Gg,pfe,sq.e];grind⟩;obtain⟨D,M,k,h1,h2,h3⟩:=ha.hv0;rw[kH pa]at h3;have b1:=(ha.qsn pa).1.1;have b2:=(ha.qsn pa).2.1;have l1:=ha.n;have l2:=hp.l;have l3:=ha.n2;have s1:=Ep (ha.bi pa);have s2:=Ep hp.b;have hst:4*n*K<=4*18*2466:=Xl (by omega) (by omega);have hend:∃u k',sgF (q::l) (64+2*w+4*n*K) a=some u/\Hv a D M k' u/\(u.point=true\/Rf (q::l) u.lo u.hi=0):=by
   by_cases Ee:p.length<2
   ·have hq1:(Gm p)=[1]:=hp.pr.1.one (by have:=hp.pr.2.1;omega);have hql:q.length<2:=by
     have e:=sq.e;rw[hq1]at e;obtain⟨p1,p2⟩:=Rp (c:=[1]) rfl (by simp) e;have:=S8 sq.pg.t sq.pq.t (c:=[1]) rfl e p1 p2;simp at this;omega
    have hbt:Rf (q::l) a.lo a.hi=0:=by
     rw[Mq (Qm V.l),hl0 hql,sq.pq.one hql];have hv1:∀x:Rat,ev (cz [1]) x=1:=λx=>by rw[Gg,Ru]
     simp only[Zx,Jo,vv,tc,hv1];omega
    refine⟨a,k,?_,h1,.inr hbt⟩;obtain⟨m,hm⟩:∃m,64+2*w+4*n*K=m+1:=⟨63+2*w+4*n*K,by omega⟩;rw[hm];simp only[sgF];rw[if_pos (.inr hbt)]
   ·have hg:Pa a.p p=K*(2*(n-2)-1):=by unfold Pa;rw[hK,hn]
    have hgle:Pa a.p p+5*K<=2*n*K:=by
     rw[hg,Zo K,<-Yf];exact Qy _ (by omega)
    have hKp:8<=K:=by omega
    have hnK:2*n*K<=4*n*K:=Qy _ (by omega);obtain⟨u,k',u1,u2,u3⟩:=Qlz hp.t hp.l (by omega) hS hpq ha hnz h2 (64+2*w+4*n*K) (2+w+2*n*K) a k ((2^(w+1):Nat):Rat) (by omega) h1 (by omega) (MM (by omega)) (by
     have e:(2^(w+1))*(2^(Pa a.p p+1))<=2^(2+w+2*n*K):=by
      rw[<-Xs];exact Zs (by decide) (by omega)
     have:=Zg.2 e
     push_cast at this ⊢
     exact this)
    exact⟨u,k',u1,u2,u3⟩
  obtain⟨u,k',u1,u2,u3⟩:=hend;rw[u1];refine⟨_,rfl,.inr ?_⟩;have hfin:Hq p u.hi=s:=by
   rcases u2.hi' with hz|hz
   ·have:=IH ca hz hnz;rw[Sf,<-Gg];exact this
   ·rcases u2.i with⟨e,_⟩|⟨L',V'⟩
    ·have:=u2.c u.hi;rw[Aq e,e,D6]at this;omega
    ·have hup:u.point=false:=by
      have:¬u.point=true:=λh=>by have:=M5.1 h;have:=V'.l;grind
      simpa using this
     rcases u3 with h|h
     ·rw[hup]at h;cases h
     ·rw[Mq (Qm V'.l)]at h;obtain⟨s',hs',hps⟩:=xA hpt hp.t hp.nz hS V'.l (by omega);obtain⟨d,dp,x,y,hx,hy,hq⟩:=hnz;have hlo1:Hl a u.lo=1:=by
       rcases u2.lo' with h|⟨_,h⟩
       ·exact h
       ·have:=V'.l;clear hps hq;grind
      obtain⟨m,m1,m2,m3⟩:=SU ca hlo1 hx;have e1:=(hq m (Qm m3) (Qm (ca.lt m1 hy))).1;have e2:=hps m m2 (Qm (ca.lt m1 hz));have e3:=hps u.hi V'.l Ql;rw[Sf,e3,<-e2,<-Gg,e1]
  rw[hfin];exact⟨CY,hnz⟩
end Orq
