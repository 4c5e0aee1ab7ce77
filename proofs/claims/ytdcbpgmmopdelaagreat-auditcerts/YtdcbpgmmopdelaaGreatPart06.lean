/- F3 T14 T15 T16 T17 T18 T19 Z1 Z2 ZA T20 T21 T22 -/
import Derived.Test.YtdcbpgmmopdelaaGreatPart05
import Derived.Test.YtdcbpgmmopdelaaGreatPart00
import Derived.Test.YtdcbpgmmopdelaaGreatPart04
set_option linter.all false
namespace Orr
open Go Go.Proofs Tryz
set_option maxRecDepth 10000
structure Tb(t:Tm):Prop where
 p:Pb t.p
 lo:Qb t.lo
 hi:Qb t.hi
theorem bD(x y:Int):-1<=Dz x y/\Dz x y<=1:=by unfold Dz;split <;> (try split) <;> omega
theorem JX(a b:Rat):-1<=Hl a b/\Hl a b<=1:=bD _ _
theorem Ew(p:Um)(q:Rat):-1<=Fy p q/\Fy p q<=1:=bD _ _
theorem sR(p:Um)(q:Rat):-1<=low p q/\low p q<=1:=by unfold low;split <;> exact Ew _ _
theorem Qb.s31{q:Rat}(h:Qb q):Qs 2147483647 q:=h.mono (by decide)
theorem Qb.s32{q:Rat}(h:Qb q):Qs 4294967295 q:=h.mono (by decide)
theorem SQ{p:Um}{q:Rat}(hp:Pb p)(hq:Qb q):Uj 288 [pr p,.agg (rl q)] [.oi (Fy p q)]:=by
 have hm:p.length*(16777216+1)<=64*16777217:=Qw _ hp.l;exact nR hp.t hp.ln hp.b hq (by omega)
theorem Qrs{p:Um}{q:Rat}(hp:Pb p)(hq:Qb q):Uj 288 [pr (Fv p),.agg (rl q)] [.oi (Fy (Fv p) q)]:=by
 have hl:=Qc (Tq p) (show p.length-1<=64 by have:=hp.l;omega);have hm:(Fv p).length*(16777216+1)<=64*16777217:=Qw _ hl;exact nR (U7 _ _) (Z8 hl (by omega)) (SB (t:=6) hp.b hp.l) hq (by omega)
theorem KI{t:Tm}(ht:Tb t):Uj 287 [.agg (ta t)] [.one (.bool t.point)] :=
 Ug func287 rfl [.k (ME ht.lo.s31 ht.hi.s31)] rfl
theorem Qi9{t:Tm}(ht:Tb t):Uj 286 [.agg (ta t)] [.agg (ta t)] :=
 Ug func286 rfl [.k (Ss ht.p.t ht.p.ln ht.p.bd),.k (qS ht.lo.s32),.k (qS ht.hi.s32)] rfl
theorem Qcc{p:Um}{q:Rat}(hp:Pb p)(hq:Qb q):Uj 363 [pr p,.agg (rl q)] [.oi (low p q)]:=by
 unfold low;by_cases h:Fy p q=0
 ·rw[if_neg (by simpa using h)];exact Ug func363 rfl [.k (SQ hp hq),.f (by simpa using h),.k (XO hp.ln hp.bd),.k (Qrs hp hq)] rfl
 ·rw[if_pos h];exact Ug func363 rfl [.k (SQ hp hq),.t (by simpa using h)] rfl
theorem Qor{p:Um}{lo hi:Rat}(hp:Pb p)(hl:Qb lo)(hh:Qb hi):Uj 290 [pr p,.agg (rl lo),.agg (rl hi)] [.one (.bool (SX p lo hi))]:=by
 by_cases h:Fy p hi=0
 ·exact Ug func290 rfl [.k (SQ hp hh),.t (by simpa using h)] rfl (by simp[SX,h]) trivial
 ·exact Ug func290 rfl [.k (SQ hp hh),.f (by simpa using h),.k (Qcc hp hl)] rfl (by simp[SX,h]) trivial
theorem Qof{t:Tm}{q:Rat}(ht:Tb t)(hq:Qb q):Uj 327 [.agg (ta t),.agg (rl q)] [.oi (Gb t q)]:=by
 have cp:=KI ht;unfold Gb;by_cases h1:t.point=true
 ·rw[if_pos h1];exact Ug func327 rfl [.k cp,.t h1,.k (ME ht.lo.s31 hq.s31)] rfl
 rw[if_neg h1];have h1:t.point=false:=by simpa using h1
 have c1:=ME hq.s31 ht.lo.s31;have c2:=ME hq.s31 ht.hi.s31;by_cases h2:Hl q t.lo<=0
 ·rw[if_pos h2];exact Ug func327 rfl [.k cp,.f h1,.k c1,.t (by simpa using h2)] rfl
 rw[if_neg h2];by_cases h3:0<Hl q t.hi
 ·rw[if_pos h3];exact Ug func327 rfl [.k cp,.f h1,.k c1,.f (by simpa using h2),.k c2,.t (by simpa using h3)] rfl
 rw[if_neg h3];by_cases h4:Fy t.p q=0
 ·rw[if_pos h4];exact Ug func327 rfl [.k cp,.f h1,.k c1,.f (by simpa using h2),.k c2,.f (by simpa using h3),.k (SQ ht.p hq),.t (by simpa using h4)] rfl
 rw[if_neg h4];by_cases h5:Fy t.p q=low t.p t.lo
 ·rw[if_pos h5];exact Ug func327 rfl [.k cp,.f h1,.k c1,.f (by simpa using h2),.k c2,.f (by simpa using h3),.k (SQ ht.p hq),.f (by simpa using h4),.k (Qcc ht.p ht.lo),.t (by simpa using h5)] rfl
 ·rw[if_neg h5];exact Ug func327 rfl [.k cp,.f h1,.k c1,.f (by simpa using h2),.k c2,.f (by simpa using h3),.k (SQ ht.p hq),.f (by simpa using h4),.k (Qcc ht.p ht.lo),.f (by simpa using h5)] rfl
theorem Qr2(q:Rat):0<(q.den:Int):=by have:=q.den_pos;omega
theorem Qrp{a b:Rat}(ha:Qb a)(hb:Qb b):Uj 371 [.agg (rl a),.agg (rl b)] [.agg (rl (A2 a b))]:=by
 have h1:Ff (a.num*(b.den:Int))<=33554432:=Qc (Ga _ _) (by have:=ha.1;have:=hb.2;omega);have h2:Ff (b.num*(a.den:Int))<=33554432:=Qc (Ga _ _) (by have:=hb.1;have:=ha.2;omega);have h3:Ff ((a.den:Int)*(b.den:Int))<=33554432:=Qc (Ga _ _) (by have:=ha.2;have:=hb.2;omega);have h4:Ff (2:Int)<=2:=by decide
 have h5:Ff (a.num*(b.den:Int)+b.num*(a.den:Int))<=33554433:=Qc (JH _ _) (by omega);have h6:Ff ((a.den:Int)*(b.den:Int)*2)<=33554434:=Qc (Ga _ _) (by omega);have h0:(a.den:Int)*(b.den:Int)*2≠0:=by
  have:=W8 (Qr2 a) (Qr2 b);omega
 exact Ug func371 rfl [.k (nD ha.s31 hb.s31),.k (MS (Fa _) (Fa _) (by omega) (by omega)),.k (rV (z:=2) (by decide)),.k (Ea (Fa _) (Fa _) (by omega) (by omega)),.k (MN h0 (by omega) (by omega))] rfl
theorem rI{q r:Rat}(h:bR q=some r):r=q/\Qb q:=by
 unfold bR at h
 split at h
 ·rename_i hc;injection h with h;exact⟨h.symm,hc⟩
 ·cases h
theorem Qoq{t u:Tm}(ht:Tb t)(h:half t=some u):Uj 294 [.agg (ta t)] [.agg (ta u)]:=by
 have cp:=KI ht;unfold half at h
 split at h
 ·rename_i h1;injection h with h;subst h;exact Ug func294 rfl [.k cp,.t h1] rfl
 ·rename_i h1;have h1:t.point=false:=by simpa using h1
  obtain⟨m,hm0,h⟩:=Qi.1 h;obtain⟨rfl,hm⟩:=rI hm0;injection h with h;subst h;have cm:=Qrp ht.lo ht.hi;have cc:=Qof ht hm;by_cases h2:Gb t (A2 t.lo t.hi)=0
  ·rw[if_pos h2];exact Ug func294 rfl [.k cp,.f h1,.k cm,.k cc,.t (by simpa using h2)] rfl
  rw[if_neg h2];by_cases h3:Gb t (A2 t.lo t.hi)=-1
  ·rw[if_pos h3];exact Ug func294 rfl [.k cp,.f h1,.k cm,.k cc,.f (by simpa using h2),.t (by simpa using h3)] rfl
  ·rw[if_neg h3];exact Ug func294 rfl [.k cp,.f h1,.k cm,.k cc,.f (by simpa using h2),.f (by simpa using h3)] rfl
theorem Qma{t u:Tm}(ht:Tb t)(h:half t=some u):Tb u:=by
 unfold half at h
 split at h
 ·injection h with h;subst h;exact ht
 ·obtain⟨m,hm0,h⟩:=Qi.1 h;obtain⟨rfl,hm⟩:=rI hm0;injection h with h;subst h
  repeat' split
  ·exact⟨ht.p,hm,hm⟩
  ·exact⟨ht.p,ht.lo,hm⟩
  ·exact⟨ht.p,hm,ht.hi⟩
theorem qJ{z:Int}(h:Ff z<=4294967296):Uj 368 [.one (mg z)] [.oi (Ff z:Int)]:=by
 have h1:=rZ (l:=Gf z.natAbs) (Dw _) (by rw[G5];exact h);rw[G5]at h1;exact h1
theorem CB{p:Um}{i:Nat}{z:Int}(h:p[i]? = some z):Hr (p.take (i+1))=max (Hr (p.take i)) (Ff z):=by
 unfold Hr;rw[List.take_succ,h,Option.toList_some,List.foldl_append];rfl
theorem Ex{p:Um}{s:Nat}(h:Bd s p):∀i,Hr (p.take i)<=s
 | 0=>by simp[Hr]
 |
  i+1=>by
  cases hz:p[i]? with
  |
   none =>
   rw[Qn (by have:=List.getElem?_eq_none_iff.1 hz;omega),<-Qn (l:=p) (i:=i) (by have:=List.getElem?_eq_none_iff.1 hz;omega)];exact Ex h i
  |some z=>rw[CB hz];have:=Ex h i;have:=Qbf h hz;omega
theorem Qcx{p:Um}(hp:Pb p):Uj 369 [pr p] [.oi (Hr p:Int)]:=by
 have hl:=hp.l;refine Hz func369 rfl ?_;refine Ud [] rfl ?_;refine Ui (S:=Nat) 0 (λL1 i=>(8,.v (.oi i))::(3,.v (.oi (Hr (p.take i):Int)))::L1) (λ_=>[]) (λi=>p.length-i) (λi=>i<=p.length) 0 (Qg _) rfl rfl λi hi=>?_
 by_cases hlt:i<p.length
 ·have hg:=Rz hlt;have hz:=Fh hp.b i;have hs:=CB hg;refine Ue [.t (by simp;omega),.x (Ma hg),.k (qJ (by omega)),.r 16 (eI (b:=(Hr (p.take (i+1)):Int)) (by rw[hs];omega))] rfl ?_;exact rd (i+1) (by omega) hlt rfl
 ·obtain rfl:i=p.length:=by omega
  rw[Q7];exact Uf [.f (by simp)] rfl
def mR(p:Um)(a:Tm):Nat:=64+2*(Ff a.lo.num+Ff a.hi.num)+4*(a.p.length+p.length)*(Hr a.p+Hr p+(a.p.length+p.length)+8)
theorem nF:Uj 368 [lr []] [.oi 0]:=rZ (l:=[]) (by simp[Sm]) (by decide)
theorem Qcy{a:Tm}{p:Um}(ha:Tb a)(hp:Pb p):Uj 292 [.agg (ta a),.agg ([pl p,.bool false,.row [],.bool false,.row [],.bool false,.row [],.bool false,.row []])] [.oi (mR p a:Nat)]:=by
 have l1:=ha.p.l;have l2:=hp.l;have b1:=ha.lo.1;have b2:=ha.hi.1;have s1:Hr a.p<=16777216:=by have:=Ex ha.p.b a.p.length;rwa[Q7]at this
 have s2:Hr p<=16777216:=by have:=Ex hp.b p.length;rwa[Q7]at this
 obtain⟨N,hN⟩:=nmE (4*(a.p.length+p.length));obtain⟨S,hS⟩:=nmE (Hr a.p+Hr p+(a.p.length+p.length)+8);have hNS:N*S<=512*33554568:=Zs (by omega) (by omega);have h0:(N:Int)*(S:Int)=((N*S:Nat):Int):=(Kd _ _).symm;have hst:mR p a=64+2*(Ff a.lo.num+Ff a.hi.num)+N*S:=by rw[hN,hS];rfl
 rw[hst];exact Ug func292 rfl [.k (qJ (z:=a.lo.num) (by omega)),.k (qJ (z:=a.hi.num) (by omega)),.k nF,.k nF,.r 41 (eI (b:=(N:Int)) (by rw[hN];simp)),.k (Qcx ha.p),.k (Qcx hp),.r 51 (eI (b:=(S:Int)) (by rw[hS];simp)),.r 52 (eI (b:=((N*S:Nat):Int)) h0)] rfl (by simp) (by rw[h0];simp[Uw];omega)
end Orr
namespace Orq
open Orr Go
theorem pQ(p:Um)(t:Rat):Ux p t=((p.getD 0 0:Int):Rat)+t*Ux p.tail t:=by
 cases p with
 |nil=>show(0:Rat)=((0:Int):Rat)+t*0;grind
 |cons a p=>rfl
theorem GF(p:Um)(k:Nat):p.tail.getD k 0=p.getD (k+1) 0:=by
 cases p <;> simp
theorem Cf(c d:Int)(t:Rat):∀(n:Nat) (p q r:Um),p.length<=n->q.length<=n->r.length<=n->(∀k,r.getD k 0=c*p.getD k 0+d*q.getD k 0)->Ux r t=(c:Rat)*Ux p t+(d:Rat)*Ux q t
 |
  0,p,q,r,hp,hq,hr,_=>by
  rw[Qh (Nat.le_zero.1 hp),Qh (Nat.le_zero.1 hq),Qh (Nat.le_zero.1 hr)];show(0:Rat)=_*0+_*0;grind
 |
  n+1,p,q,r,hp,hq,hr,h=>by
  have ih:=Cf c d t n p.tail q.tail r.tail (by rw[Wy];omega) (by rw[Wy];omega) (by rw[Wy];omega) λk=>by
   rw[GF,GF,GF];exact h (k+1)
  rw[pQ p,pQ q,pQ r,ih,h 0]
  push_cast
  grind
theorem lH{p q:Um}(h:∀k,p.getD k 0=q.getD k 0)(t:Rat):Ux p t=Ux q t:=by
 have:=Cf 1 0 t (max p.length q.length) q q p (Wz ..) (Wz ..) (Nat.le_max_left ..) λk=>by rw[h k];omega
 rw[this]
 push_cast
 grind
theorem Et(p:Um)(t:Rat):Ux (trim p) t=Ux p t:=lH (Bn p) t
theorem G6{p:Um}{k:Nat}(h:p.length<=k):p.getD k 0=0:=by
 rw[Qd,Qx h];rfl
theorem IW(p q:Um)(k:Nat):(S6 p q).getD k 0=p.getD k 0+q.getD k 0:=by
 unfold S6;rw[Tz]
 split
 ·rfl
 ·rename_i h;rw[G6 (p:=p) (by omega),G6 (p:=q) (by omega)];rfl
theorem C7(p q:Um)(k:Nat):(Su p q).getD k 0=p.getD k 0-q.getD k 0:=by
 unfold Su;rw[Tz]
 split
 ·rfl
 ·rename_i h;rw[G6 (p:=p) (by omega),G6 (p:=q) (by omega)];rfl
theorem Ty(p:Um)(c:Int)(k:Nat):(Fc p c).getD k 0=p.getD k 0*c:=by
 unfold Fc;rw[Tz]
 split
 ·rfl
 ·rename_i h;rw[G6 (p:=p) (by omega),Int.zero_mul]
theorem IP(p:Um)(k:Nat):(P0 p).getD k 0=-(p.getD k 0):=by
 unfold P0;rw[Tz]
 split
 ·rfl
 ·rename_i h;rw[G6 (p:=p) (by omega)];rfl
theorem Pa(p:Um)(k:Nat):(Fv p).getD k 0=p.getD (k+1) 0*((k+1:Nat):Int):=by
 unfold Fv;rw[Tz]
 split
 ·rfl
 ·rename_i h;rw[G6 (p:=p) (by omega),Int.zero_mul]
theorem Pz(p q:Um)(t:Rat):Ux (S6 p q) t=Ux p t+Ux q t:=by
 have:=Cf 1 1 t (max (max p.length q.length) (S6 p q).length) p q (S6 p q) (by omega) (by omega) (by omega) λk=>by rw[IW];omega
 rw[this];push_cast;grind
theorem Dt(p q:Um)(t:Rat):Ux (Su p q) t=Ux p t-Ux q t:=by
 have:=Cf 1 (-1) t (max (max p.length q.length) (Su p q).length) p q (Su p q) (by omega) (by omega) (by omega) λk=>by rw[C7];omega
 rw[this];push_cast;grind
theorem I1(p:Um)(t:Rat):Ux (P0 p) t=-Ux p t:=by
 have:=Cf (-1) 0 t (max p.length (P0 p).length) p p (P0 p) (by omega) (by omega) (by omega) λk=>by rw[IP];omega
 rw[this];push_cast;grind
theorem Tj(p:Um)(c:Int)(t:Rat):Ux (Fc p c) t=Ux p t*(c:Rat):=by
 have:=Cf c 0 t (max p.length (Fc p c).length) p p (Fc p c) (by omega) (by omega) (by omega) λk=>by rw[Ty,Vy];omega
 rw[this];push_cast;grind
theorem xM:∀(l:Um) (j:Nat) (v:Int) (t:Rat),j<l.length->Ux (l.set j v) t=Ux l t+((v:Rat)-((l.getD j 0:Int):Rat))*t^j
 | [],_,_,_,h=>by simp at h
 |
  a::l,0,v,t,_=>by
  show(v:Rat)+t*Ux l t=(a:Rat)+t*Ux l t+((v:Rat)-(a:Rat))*t^0;rw[Xh];grind
 |
  a::l,j+1,v,t,h=>by
  have ih:=xM l j v t (by simpa using h);show(a:Rat)+t*Ux (l.set j v) t=(a:Rat)+t*Ux l t+((v:Rat)-((l.getD j 0:Int):Rat))*t^(j+1);rw[ih,Z9];grind
theorem CH:∀(l:Um) (k:Nat) (t:Rat),k<l.length->Ux (l.take (k+1)) t=Ux (l.take k) t+((l.getD k 0:Int):Rat)*t^k
 | [],_,_,h=>by simp at h
 |
  a::l,0,t,_=>by
  show(a:Rat)+t*Ux (l.take 0) t=0+(a:Rat)*t^0;rw[Xh,Vb];show(a:Rat)+t*0=_;grind
 |
  a::l,k+1,t,h=>by
  have ih:=CH l k t (by simpa using h);show(a:Rat)+t*Ux (l.take (k+1)) t=(a:Rat)+t*Ux (l.take k) t+((l.getD k 0:Int):Rat)*t^(k+1);rw[ih,Z9];grind
theorem IT(n:Nat)(t:Rat):Ux (List.replicate n 0) t=0:=by
 induction n with
 |zero=>rfl
 |
  succ n ih =>
  show((0:Int):Rat)+t*Ux (List.replicate n 0) t=0;rw[ih];push_cast;grind
theorem uO(t:Rat)(i:Nat):∀k,t^(i+k)=t^i*t^k
 | 0=>by rw[Xy,Xh];grind
 |k+1=>by rw[<-Yt,Z9,Z9,uO t i k];grind
theorem uX(x:Int)(b:Um)(i:Nat)(o:Um)(t:Rat):∀k,k<=b.length->i+k<=o.length->Ux (Iu x b i o k) t=Ux o t+(x:Rat)*t^i*Ux (b.take k) t
 |
  0,_,_=>by
  show Ux o t=Ux o t+(x:Rat)*t^i*0;grind
 |
  k+1,h1,h2=>by
  have ih:=uX x b i o t k (by omega) (by omega);simp only[Iu];rw[xM _ _ _ _ (by rw[Iv];omega),ih,CH b k t (by omega)];have hp:t^(i+k)=t^i*t^k:=uO t i k;rw[hp]
  push_cast
  grind
theorem uZ(a b o:Um)(t:Rat):∀i,i<=a.length->i+b.length<=o.length+1->Ux (Cc a b o i) t=Ux o t+Ux (a.take i) t*Ux b t
 |
  0,_,_=>by
  show Ux o t=Ux o t+0*Ux b t;grind
 |
  i+1,h1,h2=>by
  have ih:=uZ a b o t i (by omega) (by omega);simp only[Cc];rw[uX _ _ _ _ _ b.length (Qj _) (by rw[Cd];omega),ih,CH a i t (by omega),Q7];grind
theorem U6(a b:Um)(t:Rat):Ux (U9 a b) t=Ux a t*Ux b t:=by
 unfold U9
 split
 ·rename_i h;rcases h with h|h
  ·rw[Qh h];show(0:Rat)=0*_;grind
  ·rw[Qh h];show(0:Rat)=_*0;grind
 ·rename_i h;rw[Et,uZ a b _ t a.length (Qj _) (by rw[X1];omega),IT,Q7];grind
theorem Hp(z d:Int):(z:Rat) / (d:Rat)=Rat.divInt z d:=by
 by_cases h:d=0
 ·subst h;simp;grind
 ·rw[Yp];exact(Rat.divInt_eq_div z d ▸ by rw[Yp])
theorem yJ(a:Um)(n d:Int)(hd:(d:Rat)≠0):∀k,k<=a.length->(((Mq a n d k).2:Int):Rat)=(d:Rat)^k/\(((Mq a n d k).1:Int):Rat)*d=(d:Rat)^k*Ux (a.drop (a.length-k)) ((n:Rat) / d)
 |
  0,_=>by
  refine⟨by rw[Xh];rfl,?_⟩;rw[Wc,List.drop_length];show((0:Int):Rat)*d=(d:Rat)^0*0
  push_cast;grind
 |
  k+1,hk=>by
  obtain⟨h1,h2⟩:=yJ a n d hd k (by omega);have hi:a.length-1-k<a.length:=by omega
  have e1:a.drop (a.length-(k+1))=a.getD (a.length-1-k) 0::a.drop (a.length-k):=by
   rw[show a.length-(k+1)=a.length-1-k by omega,Zt hi,show a.length-1-k+1=a.length-k by omega];congr 1;rw[Qd,Qe hi];rfl
  refine⟨?_,?_⟩
  ·show(((Mq a n d k).2*d:Int):Rat)=_;rw[X3,h1,Z9]
  ·rw[e1];show(((Mq a n d k).1*n+a.getD (a.length-1-k) 0*(Mq a n d k).2:Int):Rat)*d=_*(((a.getD (a.length-1-k) 0:Int):Rat)+(n:Rat) / d*Ux (a.drop (a.length-k)) ((n:Rat) / d));rw[Kg,X3,X3,h1,Z9];have h3:(n:Rat) / d*d=n:=by rw[Zh hd]
   have h4:(d:Rat)^k*d*((n:Rat) / d*Ux (a.drop (a.length-k)) ((n:Rat) / d))=((n:Rat) / d*d)*((d:Rat)^k*Ux (a.drop (a.length-k)) ((n:Rat) / d)):=by grind
   have h5:(d:Rat)^k*d*(((a.getD (a.length-1-k) 0:Int):Rat)+(n:Rat) / d*Ux (a.drop (a.length-k)) ((n:Rat) / d))=(d:Rat)^k*d*((a.getD (a.length-1-k) 0:Int):Rat)+(d:Rat)^k*d*((n:Rat) / d*Ux (a.drop (a.length-k)) ((n:Rat) / d)):=by grind
   rw[h5,h4,h3,<-h2];grind
theorem xE{d:Rat}(h:0<d):∀k:Nat,0<d^k
 | 0=>by rw[Xh];decide
 |k+1=>by rw[Z9];exact Yz (xE h k) h
theorem UF{x y:Rat}(h:0<y):Fj (y*x)=Fj x:=by
 unfold Fj;have h1:y*x<0↔x<0:=by
  constructor
  ·intro h2;rcases V2 (a:=0) (b:=x)with h3|h3
   ·have:=Rat.mul_nonneg (Qm h) h3;grind
   ·rcases Vg.1 h3 with h4|h4
    ·exact h4
    ·rw[h4]at h2;grind
  ·intro h2;have:=Yz h (show 0 < -x by grind);grind
 have h2:0<y*x↔0<x:=by
  constructor
  ·intro h2;rcases V2 (a:=x) (b:=0)with h3|h3
   ·have:=Rat.mul_nonneg (Qm h) (show 0<=-x by grind);grind
   ·rcases Vg.1 h3 with h4|h4
    ·exact h4
    ·rw[<-h4]at h2;grind
  ·intro h2;exact Yz h h2
 simp only[h1,h2]
theorem Qc8(z:Int):Dz z 0=Fj (z:Rat):=by
 unfold Dz Fj;have h1:((z:Int):Rat)<0↔z<0:=by
  have := @Rat.intCast_lt_intCast z 0;simpa using this
 have h2:0<((z:Int):Rat)↔0<z:=by
  have := @Rat.intCast_lt_intCast 0 z;simpa using this
 simp only[h1,h2]
theorem H7(p:Um)(q:Rat):Fy p q=Fj (Ux p q):=by
 have hd0:(0:Rat)<((q.den:Int):Rat):=by
  have := @Rat.intCast_lt_intCast 0 (q.den:Int);rw[show((0:Int):Rat)=0 from rfl]at this;exact this.2 (den_pos q)
 have hd:((q.den:Int):Rat)≠0:=by intro h;rw[h]at hd0;exact absurd hd0 (by decide)
 obtain⟨_,h⟩:=yJ p q.num q.den hd p.length (Qj _);rw[J4,X9,Hp,Zy]at h;unfold Fy;rw[Qc8,<-UF hd0,W2];show Fj ((((Mq p q.num q.den p.length).1:Int):Rat)*_)=_;rw[h,UF (xE hd0 _)]
def cz(p:Um):Up:=p.map λz:Int=>(z:Rat)
theorem Uy(t:Rat):∀p,ev (cz p) t=Ux p t
 | []=>rfl
 |a::p=>by have:=Uy t p;simp only[cz,Z0,ev,Ux]at *;rw[this]
theorem Po:∀(p:Um) (k:Nat),(cz p).getD k 0=((p.getD k 0:Int):Rat)
 | [],k=>by simp[cz]
 |a::p,0=>by simp[cz]
 |a::p,k+1=>by have:=Po p k;simp only[cz,Z0,Qz]at *;exact this
theorem Ce{p q:Um}(h:∀t,Ux p t=Ux q t)(k:Nat):p.getD k 0=q.getD k 0:=by
 have:=B7 (p:=cz p) (q:=cz q) (λt=>by rw[Uy,Uy,h]) k;rw[Po,Po]at this
 exact_mod_cast this
theorem UM{p q:Um}(hp:Uz p)(hq:Uz q)(h:∀k,p.getD k 0=q.getD k 0):p=q:=by
 have key:∀{p q:Um},Uz p->Uz q->(∀k,p.getD k 0=q.getD k 0)->p.length<=q.length:=λ{p q} hp hq h=>by
  rcases Q9 q.length p.length with e|e
  ·have:=Hk hp (by omega);rw[h,Qd,Qx (by omega)]at this;exact absurd rfl this
  ·exact e
 exact NL (Kf (key hp hq h) (key hq hp λk=>(h k).symm)) λj _=>h j
theorem Ao{p q:Um}(hp:Uz p)(hq:Uz q)(h:∀t,Ux p t=Ux q t):p=q:=UM hp hq (Ce h)
theorem Qk4{p:Um}(hp:Uz p)(h:∀t,Ux p t=0):p=[]:=Ao hp rfl λt=>by rw[h];rfl
theorem Np{p:Um}(h:p.length=0)(t:Rat):Ux p t=0:=by rw[Qh h];rfl
theorem lG:∀(p r:Um) (t:Rat),(∀k,r.getD k 0=p.getD (k+1) 0*((k+1:Nat):Int))->Ux r t=dv (cz p) t
 |
  [],r,t,h=>by
  rw[lH (q:=[]) (λk=>by rw[h];simp) t];rfl
 |
  a::p,r,t,h=>by
  have ih:=lG p (Fv p) t λk=>Pa p k
  have e:Ux r t=Ux p t+t*Ux (Fv p) t:=by
   have:=Cf 1 1 t (max (max p.length (0::Fv p).length) r.length) p (0::Fv p) r (by omega) (by omega) (by omega) λk=>by
    rw[h,Qz];cases k with
    |zero=>simp
    |succ k=>rw[Qz,Pa];push_cast;grind
   rw[this];simp only[Ux];push_cast;grind
  rw[e,ih];show _=ev (cz p) t+t*dv (cz p) t;rw[Uy]
theorem Ni(p:Um)(t:Rat):Ux (Fv p) t=dv (cz p) t:=lG p _ t λk=>Pa p k
theorem YC{p:Um}(hp:Uz p)(h:0<p.length):HD (cz p) (p.length-1):=by
 refine⟨?_,λk hk=>?_⟩
 ·rw[Po];have:=Hk hp h;exact λe=>this (by exact_mod_cast e)
 ·rw[Po,Qd,Qx (by omega)];rfl
theorem QK{p:Um}(hp:Uz p)(h:0<p.length):¬∀t,Ux p t=0:=λh0=>by
 rw[Qk4 hp h0]at h;exact absurd h (by simp)
theorem Rv{a b c:Um}(ha:Uz a)(hb:Uz b)(hc:Uz c)(h:∀t,Ux c t=Ux a t*Ux b t)(la:0<a.length)(lb:0<b.length):c.length=a.length+b.length-1:=by
 have h1:=GH (YC ha la) (YC hb lb);have h2:HD (cz c) (a.length-1+(b.length-1)):=Qem (λt=>by rw[U3,Uy,Uy,Uy,h]) h1;have lc:0<c.length:=by
  rcases Qy c.length with e|e
  ·exact absurd (λt=>by rw[Uy];exact Np e t) (dV h2)
  ·exact e
 have:=Qnl (YC hc lc) h2;omega
theorem uF:∀(n m:Nat),m<=n->2<=m->∃P,2<=P/\P∣m/\∀d,2<=d->d∣P->d=P
 | 0,m,h,h2=>by omega
 |
  n+1,m,h,h2=>by
  rcases Classical.em (∃d,2<=d/\d<m/\d∣m)with⟨d,d1,d2,d3⟩|h0
  ·obtain⟨P,p1,p2,p3⟩:=uF n d (by omega) d1;exact⟨P,p1,Nat.dvd_trans p2 d3,p3⟩
  ·refine⟨m,h2,Nat.dvd_refl m,λd d1 d2=>?_⟩;rcases Vm (Ka (by omega) d2)with e|e
   ·exact absurd ⟨d,d1,e,d2⟩ h0
   ·exact e
theorem zQ{P:Nat}(h2:2<=P)(hP:∀d,2<=d->d∣P->d=P){x y:Int}(h:(P:Int)∣x*y):(P:Int)∣x\/(P:Int)∣y:=by
 have h:=Xn.2 h;rw[J5,Zr]at h;have hg:=Kw P x.natAbs;rcases Q9 (Nat.gcd P x.natAbs) 2 with e|e
 ·right;have h1:Nat.gcd P x.natAbs=1:=by
   have:=Nat.gcd_pos_of_pos_left x.natAbs (show 0<P by omega);omega
  have:=Nat.Coprime.dvd_of_dvd_mul_left h1 h;exact Xn.1 (by rwa[Zr])
 ·left;have:=hP _ e hg;have h3:=Wv P x.natAbs;rw[this]at h3;exact Xn.1 (by rwa[Zr])
def gX(P:Int)(l:Um):Prop:=∀k,P∣l.getD k 0
theorem FX{P:Nat}(h2:2<=P)(hP:∀d,2<=d->d∣P->d=P):∀(n:Nat) (b h c:Um),b.length+h.length<=n->(∀t,Ux c t=Ux b t*Ux h t)->gX P c->gX P b\/gX P h
 |_,[],h,c,_,_,_=>.inl λk=>by simp
 |_,x::b,[],c,_,_,_=>.inr λk=>by simp
 | 0,x::b,y::h,c,hn,_,_=>by simp at hn
 |
  n+1,x::b,y::h,c,hn,hc,hd=>by
  simp only[Zc]at hn;by_cases hx:(P:Int)∣x
  ·-- x h is taken away
   have e:∀t,Ux (0::U9 b (y::h)) t=Ux (Su c (Fc (y::h) x)) t:=λt=>by
    rw[Dt,Tj,hc];simp only[Ux];rw[U6];simp only[Ux];push_cast;grind
   have hd':gX P (U9 b (y::h)):=λk=>by
    have:=Ce e (k+1);rw[Qz,C7,Ty]at this;rw[this];exact Int.dvd_sub (hd (k+1)) (V5 hx (Kv _ _))
   rcases FX h2 hP n b (y::h) _ (by simp only[Zc];omega) (λt=>U6 _ _ t) hd' with h1|h1
   ·refine .inl λk=>?_
    cases k with
    |zero=>rw[Zn];exact hx
    |succ k=>rw[Qz];exact h1 k
   ·exact .inr h1
  ·have h0:(P:Int)∣y:=by
    have e:c.getD 0 0=x*y:=by
     have:=Ce (p:=c) (q:=U9 (x::b) (y::h)) (λt=>by rw[hc,U6]) 0;have e2:=Ce (p:=U9 (x::b) (y::h)) (q:=S6 (Fc (y::h) x) (0::U9 b (y::h))) (λt=>by
      rw[Pz,Tj,U6];simp only[Ux];rw[U6];simp only[Ux];push_cast;grind) 0
     rw[this,e2,IW,Ty,Zn,Zn,Vy];omega
    have:=hd 0;rw[e]at this;rcases zQ h2 hP this with h1|h1
    ·exact absurd h1 hx
    ·exact h1
   have e:∀t,Ux (0::U9 (x::b) h) t=Ux (Su c (Fc (x::b) y)) t:=λt=>by
    rw[Dt,Tj,hc];simp only[Ux];rw[U6];simp only[Ux];push_cast;grind
   have hd':gX P (U9 (x::b) h):=λk=>by
    have:=Ce e (k+1);rw[Qz,C7,Ty]at this;rw[this];exact Int.dvd_sub (hd (k+1)) (V5 h0 (Kv _ _))
   rcases FX h2 hP n (x::b) h _ (by simp only[Zc];omega) (λt=>U6 _ _ t) hd' with h1|h1
   ·exact absurd (by have:=h1 0;rwa[Zn]at this) hx
   ·refine .inr λk=>?_
    cases k with
    |zero=>rw[Zn];exact h0
    |succ k=>rw[Qz];exact h1 k
def Prm(b:Um):Prop:=∀d:Int,gX d b->d∣1
theorem Qd7{a b:Um}(hb:Prm b):∀(n:Nat) (c:Int) (h:Um),c.natAbs<=n->c≠0->(∀t,(c:Rat)*Ux a t=Ux b t*Ux h t)->∃h',∀t,Ux a t=Ux b t*Ux h' t
 | 0,c,h,hn,h0,_=>absurd (by omega) h0
 |
  n+1,c,h,hn,h0,hc=>by
  rcases Q9 c.natAbs 2 with h1|h1
  ·refine⟨Fc h c,λt=>?_⟩;have hcc:(c:Rat)*c=1:=by
    have:c*c=1:=by
     rcases(show c=1\/c=-1 by omega)with rfl|rfl <;> rfl
    have:=congrArg (λz:Int=>(z:Rat)) this
    push_cast at this;exact this
   rw[Tj];have:=hc t;have:Ux a t=(c:Rat)*((c:Rat)*Ux a t):=by
    have:(c:Rat)*((c:Rat)*Ux a t)=((c:Rat)*c)*Ux a t:=by grind
    rw[this,hcc];grind
   rw[this,hc];grind
  ·obtain⟨P,p1,p2,p3⟩:=uF c.natAbs c.natAbs (Qj _) h1;obtain⟨d,hd⟩:∃d,c=(P:Int)*d:=Wo.2 p2;have hall:gX P (Fc a c):=λk=>by
    rw[Ty,hd];exact V5 (Vu _ _) (Kv _ _)
   have hP0:(P:Rat)≠0:=by
    have:((0:Nat):Rat)<(P:Rat):=Vq.2 (by omega);grind
   rcases FX p1 p3 _ b h (Fc a c) (Qj _) (λt=>by rw[Tj,W2,hc]) hall with e|e
   ·have:=hb P e;have:=Xn.2 this;rw[Zr]at this;have:=Ka (by decide) this;exact absurd this (by show ¬P<=1;omega)
   ·refine Qd7 hb n d (h.map (· / (P:Int))) ?_ (λe0=>h0 (by rw[hd,e0,Vz])) λt=>?_
    ·rw[hd,J5,Zr]at hn h1;have:2*d.natAbs<=P*d.natAbs:=Qw _ p1;omega
    ·have e1:Ux h t=(P:Rat)*Ux (h.map (· / (P:Int))) t:=by
      have:=Cf P 0 t (max h.length (h.map (· / (P:Int))).length) (h.map (· / (P:Int))) [] h (by omega) (by simp) (by omega) λk=>by
       have:=e k;have e2:(h.map (· / (P:Int))).getD k 0=h.getD k 0 / (P:Int):=by
        rw[Qd,Qd,Ze];cases h[k]? <;> simp
       rw[e2,K8 this];simp
      rw[this];simp only[Ux];push_cast;grind
     have:=hc t;rw[hd,e1]at this
     push_cast at this
     have h3:(P:Rat)*((d:Rat)*Ux a t)=(P:Rat)*(Ux b t*Ux (h.map (· / (P:Int))) t):=by grind
     have h4:=Jn.1 (show(P:Rat)*((d:Rat)*Ux a t-Ux b t*Ux (h.map (· / (P:Int))) t)=0 by grind);rcases h4 with h4|h4
     ·exact absurd h4 hP0
     ·grind
theorem ES:∀u:Up,∃c:Int,c≠0/\∃h:Um,∀t,(c:Rat)*ev u t=Ux h t
 | []=>⟨1,by decide,[],λt=>by simp only[ev,Ux];grind⟩
 |
  a::u=>by
  obtain⟨c,hc,h,hh⟩:=ES u;refine⟨c*(a.den:Int),Xq hc (by have:=a.den_nz;omega),(c*a.num)::Fc h (a.den:Int),λt=>?_⟩;have e:(a.den:Rat)*a=a.num:=by
   rw[W2];have:(a.num:Rat) / (((a.den:Int)):Rat)=a:=by rw[Hp,Zy]
   have hd:(a.den:Rat)≠0:=by
    have:((0:Nat):Rat)<(a.den:Rat):=Vq.2 a.den_pos;grind
   have h2:(a.num:Rat) / (a.den:Rat)*(a.den:Rat)=a.num:=Zh hd;rw[show(a.num:Rat) / (a.den:Rat)=a from this]at h2;exact h2
  simp only[ev,Ux];rw[Tj,<-hh]
  push_cast
  rw[<-e];have e3:(((a.den:Int)):Rat)=(a.den:Rat):=rfl;grind
theorem RB{a b:Um}(hb:Prm b)(h:Bu (cz b) (cz a)):∃h',Uz h'/\∀t,Ux a t=Ux b t*Ux h' t:=by
 obtain⟨u,hu⟩:=h;obtain⟨c,hc,h,hh⟩:=ES u;obtain⟨h',e⟩:=Qd7 hb c.natAbs c h (Qj _) hc λt=>by
  have:=hu t;rw[Uy,Uy]at this;rw[this,<-hh];grind
 exact⟨trim h',Hj _,λt=>by rw[Et,e]⟩
def sd(x0:Rat):Up->Up
 | []=>[]
 |_::p=>Rf p (Pv x0 (sd x0 p))
theorem Qdy(x0 x:Rat):∀p,ev (sd x0 p) x=dq p x x0
 | []=>rfl
 |a::p=>by simp only[sd,dq];rw[Fu,Fq,Qdy x0 x p]
theorem mY(x0:Rat):∀(g:Up) (n:Nat),(∀j,n<j->g.getD j 0=0)->∀j,n<=j->(sd x0 g).getD j 0=0
 | [],n,_,j,_=>by simp[sd]
 |
  a::p,0,h,j,_=>by
  have hp:∀j,p.getD j 0=0:=λj=>by have:=h (j+1) (by omega);rwa[Qz]at this
  simp only[sd];rw[Rj,Tp,hp,mY x0 p 0 (λj _=>hp j) j (Qg _)];grind
 |
  a::p,n+1,h,j,hj=>by
  have hp:∀j,n<j->p.getD j 0=0:=λj hj=>by have:=h (j+1) (by omega);rwa[Qz]at this
  simp only[sd];rw[Rj,Tp,hp j (by omega),mY x0 p n hp j (by omega)];grind
theorem sJ{K:Rat}(hK:0≤K):∀(e:Nat) (g:Up) (pts:Um) (M:Rat),pts.length=e+1->pts.Nodup->(∀x∈pts,Fe (x:Rat)≤K)->(∀k,e<k->g.getD k 0=0)->(∀x∈pts,Fe (ev g (x:Rat))≤M)->∀k,Fe (g.getD k 0)≤(2*K+3)^e*M
 |_,_,[],_,h,_,_,_,_=>by simp at h
 |
  0,g,x0::xs,M,_,_,_,hg,hM=>λk=>by
  have h0:=hM x0 (by simp);rw[Xh];cases k with
  |
   zero =>
   have e:ev g (x0:Rat)=g.getD 0 0:=by
    cases g with
    |nil=>rfl
    |
     cons a p =>
     have hp:=Do (p:=p) λj=>by have:=hg (j+1) (by omega);rwa[Qz]at this
     simp only[ev,hp,Zn];grind
   rw[<-e];grind
  |
   succ k =>
   rw[hg (k+1) (by omega),Rp];have:=Hw (ev g (x0:Rat));grind
 |
  e+1,g,x0::xs,M,hl,hn,hb,hg,hM=>λk=>by
  have hx0:=hb x0 (by simp);have hM0:=hM x0 (by simp);have hMn:0<=M:=Zb (Hw _) hM0;rw[List.nodup_cons]at hn;have ih:=sJ hK e (sd x0 g) xs (2*M) (by simpa using hl) hn.2 (λx hx=>hb x (by simp[hx])) (λj hj=>mY _ g (e+1) hg j (by omega)) λx hx=>by
   have h1:=hM x (by simp[hx]);have h2:=EO (x:Rat) (x0:Rat) g;rw[<-Qdy]at h2;have hne:x-x0≠0:=λh=>hn.1 (by rw[show x0=x by omega];exact hx)
   have h3:=O4 hne;rw[Rat.intCast_sub]at h3;have h4:Fe (ev g (x:Rat)-ev g (x0:Rat))<=2*M:=by
    have:=Sv (ev g (x:Rat)) (-ev g (x0:Rat));rw[Ln,show ev g (x:Rat)+-ev g (x0:Rat)=ev g (x:Rat)-ev g (x0:Rat) by grind]at this;clear hM hb hg;grind
   rw[h2,Lm]at h4;have h5:=Q4 h3 (Hw (ev (sd x0 g) x));clear hM hb hg;grind
  have e1:∀t,ev g t=ev (Rf [ev g x0] (Rf (Pv (-x0) (sd x0 g)) (0::sd x0 g))) t:=λt=>by
   have:=EO t (x0:Rat) g;rw[<-Qdy]at this;simp only[Fu,Fq,ev];grind
  have hp1:1<=(2*K+3)^e:=(JE (R:=2*K+3) (x:=0) (by grind) (by rw[Rp];grind) e).2;have hpM:=M8 (x:=(2*K+3)^e) (y:=M) (by grind) hMn;have hpM1:=Q4 hp1 hMn;rw[Z9,B7 e1 k,Rj,Rj,Tp];have a1:=ih k;have a2:Fe (-(x0:Rat)*(sd (x0:Rat) g).getD k 0)<=K*((2*K+3)^e*(2*M)):=G8 (by rw[Ln];exact hx0) a1;have fin:∀u v w:Rat,Fe u<=M->Fe v<=K*((2*K+3)^e*(2*M))->Fe w<=(2*K+3)^e*(2*M)->Fe (u+(v+w))<=(2*K+3)^e*(2*K+3)*M:=λu v w h1 h2 h3=>by
   have b1:=Sv u (v+w);have b2:=Sv v w;clear ih e1 hM hb hg a1 a2;grind
  refine fin _ _ _ ?_ a2 ?_
  ·cases k with
   |zero=>rw[Zn];exact hM0
   |succ k=>rw[Qz,Kt,Rp];exact hMn
  ·cases k with
   |zero=>rw[Zn,Rp];clear ih e1 hM hb hg a1 a2 fin;grind
   |succ k=>rw[Qz];exact ih k
theorem Qgf{g:Up}{e:Nat}(hg:∀k,e<k->g.getD k 0=0)(hz:¬∀t,ev g t=0){pts:Um}(hn:pts.Nodup)(hr:∀x∈pts,ev g (x:Rat)=0):pts.length≤e:=by
 rcases Q9 e pts.length with h|h
 ·exfalso;obtain⟨K,hK,hb⟩:∃K:Rat,0≤K/\∀x∈pts,Fe (x:Rat)≤K:=by
   clear hn hr h
   induction pts with
   |nil=>exact⟨0,by decide,λx hx=>by cases hx⟩
   |
    cons y pts ih =>
    obtain⟨K,h1,h2⟩:=ih;refine⟨K+Fe (y:Rat),by have:=Hw (y:Rat);grind,λx hx=>?_⟩;have hy:=Hw (y:Rat);rcases Qt.1 hx with rfl|hx
    ·grind
    ·have:=h2 x hx;grind
  refine hz (Do λk=>?_);have:=sJ hK e g (pts.take (e+1)) 0 (by rw[Qq];omega) (hn.sublist (List.take_sublist ..)) (λx hx=>hb x (Ql hx)) hg (λx hx=>by rw[hr x (Ql hx),Rp];exact Qk) k;have h2:=Hw (g.getD k 0);exact Qlc (by grind)
 ·exact h
def spots:Um:=(List.range 19).map λi:Nat=>(i:Int)-9
theorem spots_nd:spots.Nodup:=by decide
theorem fJ:∀x∈spots,x.natAbs≤9:=by decide
theorem NA{α:Type}(p:α->Bool):∀l:List α,(l.filter p).length+(l.filter λx => !p x).length=l.length
 | []=>rfl
 |
  x::l=>by
  have:=NA p l;cases h:p x <;> simp[h] <;> omega
def geo:Nat->Nat
 | 0=>0
 |n+1=>1+9*geo n
theorem cE{B:Rat}:∀(p:Um),(∀z∈p,Fe (z:Rat)≤B)->zX 9 (cz p)≤B*(geo p.length:Nat)
 | [],_=>by simp only[cz,Ja,zX,geo,Y5];rw[show((0:Nat):Rat)=0 from rfl];grind
 |
  a::p,h=>by
  have h1:=cE p λz hz=>h z (Qp _ hz)
  have h2:=h a (Q0 ..);simp only[cz,Z0,zX,geo,Zc]at *
  push_cast
  clear h;grind
theorem Qee{m n:Nat}(h:m<=n):geo m<=geo n:=by
 induction h with
 |refl=>exact Qj _
 |step h ih=>simp only[geo];omega
def pz:Um->Int->Int
 | [],_=>0
 |a::p,x=>a+x*pz p x
theorem VB(x:Int):∀p,Ux p (x:Rat)=((pz p x:Int):Rat)
 | []=>rfl
 |a::p=>by simp only[Ux,pz,VB x p];push_cast;rfl
theorem S0(z:Int):Fe (z:Rat)=((z.natAbs:Nat):Rat):=by
 unfold Fe;rcases K7 z 0 with h|h
 ·have h1:(z:Rat)<((0:Int):Rat):=X8.2 h;rw[if_pos (by simpa using h1)];have:(z.natAbs:Int)=-z:=by omega
  have:=congrArg (λu:Int=>(u:Rat)) this
  push_cast at this
  exact this.symm
 ·have h1:((0:Int):Rat)<=(z:Rat):=Jh.2 h;have h1:(0:Rat)<=(z:Rat):=by simpa using h1
  rw[if_neg (by grind)];have:(z.natAbs:Int)=z:=by omega
  have:=congrArg (λu:Int=>(u:Rat)) this;exact this.symm
theorem D2{p g h:Um}{s:Nat}(hp:Bd s p)(hl:p.length<=10)(tp:Uz p)(tg:Uz g)(th:Uz h)(h0:p.length≠0)(e:∀t,Ux p t=Ux g t*Ux h t):Bd (s+69) g:=by
 have lg:0<g.length:=by
  rcases Qy g.length with e'|e'
  ·exact absurd (λt=>by rw[e,Np e'];grind) (QK tp (by omega))
  ·exact e'
 have lh:0<h.length:=by
  rcases Qy h.length with e'|e'
  ·exact absurd (λt=>by rw[e,Np e'];grind) (QK tp (by omega))
  ·exact e'
 have hlen:=Rv tg th tp e lg lh;obtain⟨q,hq⟩:=nmE (spots.filter λx => !decide (pz p x=0));have hr:(spots.filter λx=>decide (pz p x=0)).length<=9:=by
  refine Qgf (g:=cz p) (e:=9) (λk hk=>?_) (λh=>QK tp (by omega) λt=>by rw[<-Uy];exact h t) (spots_nd.sublist List.filter_sublist) λx hx=>?_
  ·rw[Po,Qd,Qx (by omega)];rfl
  ·have:=(Y6.1 hx).2;rw[Uy,VB,of_decide_eq_true this];rfl
 have hc:=NA (λx=>decide (pz p x=0)) spots;rw[<-hq]at hc;have hsl:spots.length=19:=by decide
 have hB:∀z∈p,Fe (z:Rat)≤((2^s:Nat):Rat):=λz hz=>by
  rw[S0];have:=hp z hz;rw[Tg]at this;exact Za.2 (J3 this)
 have key:=sJ (K:=9) (by decide) 9 (cz g) (q.take 10) (((2^s*435848050:Nat)):Rat) (by rw[Qq];omega) ((spots_nd.sublist (by rw[hq];exact List.filter_sublist)).sublist (List.take_sublist ..)) (λx hx=>by
  have hx:=Ql hx;rw[hq]at hx;have:=fJ x (Y6.1 hx).1;rw[S0]
  exact_mod_cast Za.2 this) (λk hk=>by rw[Po,Qd,Qx (by omega)];rfl) (λx hx=>by
  have hx:=Ql hx;rw[hq]at hx;obtain⟨hx1,hx2⟩:=Y6.1 hx;have hne:pz p x≠0:=by simpa using hx2
  have e1:=e (x:Rat);rw[VB,VB,VB]at e1;have e2:pz p x=pz g x*pz h x:=by exact_mod_cast e1
  have hh:1<=(pz h x).natAbs:=by
   rcases Qy (pz h x).natAbs with e'|e'
   ·exact absurd (by rw[e2,Int.natAbs_eq_zero.1 e',Vz]) hne
   ·exact e'
  have h3:(pz g x).natAbs<=(pz p x).natAbs:=by
   rw[e2,J5];exact Jr _ hh
  rw[Uy,VB,S0];refine Zb (Za.2 h3) ?_;rw[<-S0,<-VB,<-Uy];refine Zb (RP (R:=9) (by
   have:=fJ x hx1;rw[S0]
   exact_mod_cast Za.2 this) _) ?_
  refine Zb (cE p hB) ?_;have:2^s*geo p.length<=2^s*435848050:=Zd _ (Qc (Qee hl) (by decide));have:=Za.2 this
  push_cast at this ⊢
  exact this)
 refine MU λk=>?_
 have h1:=key k;rw[Po,S0]at h1;have e3:(2*(9:Rat)+3)^9*((2^s*435848050:Nat):Rat)=(((794280046581*(2^s*435848050)):Nat):Rat):=by
  rw[show(2*(9:Rat)+3)^9=794280046581 by grind]
  push_cast;rfl
 rw[e3]at h1;have h2:=Za.1 h1;rw[Tg];refine Z8 h2 ?_;have:794280046581*(2^s*435848050)=2^s*(794280046581*435848050):=by
  rw[Kq]
 rw[this,Xc];exact Nat.mul_lt_mul_of_pos_left (by decide) (Zu (by decide))
theorem Qdr{l:Um}{d:Int}(h:∀z∈l,d∣z):d∣((Hx l:Nat):Int):=by
 have key:∀(l:Um) (g:Nat),d.natAbs∣g->(∀z∈l,d∣z)->d.natAbs∣l.foldl (λg z=>Nat.gcd g z.natAbs) g:=by
  intro l
  induction l with
  |nil=>exact λg h _=>h
  |cons z l ih=>exact λg hg h=>ih _ (Nat.dvd_gcd hg (Xn.2 (h z (Q0 ..)))) λu hu=>h u (Qp _ hu)
 have:=key l 0 (Nat.dvd_zero _) h;exact Xn.1 (by rw[Zr];exact this)
theorem WW(p:Um)(c:Int)(k:Nat):(p.map (· / c)).getD k 0=p.getD k 0 / c:=by
 rw[Qd,Qd,Ze];cases p[k]? <;> simp
theorem Nx(p:Um)(c:Int)(k:Nat):(La p c).getD k 0=p.getD k 0 / c:=by
 unfold La;rw[Bn,WW]
theorem IH{p:Um}{c:Int}(h:∀z∈p,c∣z)(t:Rat):Ux p t=(c:Rat)*Ux (La p c) t:=by
 have:=Cf c 0 t (max p.length (La p c).length) (La p c) [] p (by omega) (by simp) (by omega) λk=>by
  rw[Nx];have hd:c∣p.getD k 0:=by
   rw[Qd];cases e:p[k]? with
   |none=>exact Int.dvd_zero _
   |some z=>exact h z (Qa e)
  rw[K8 hd];simp
 rw[this];simp only[Ux];push_cast;grind
theorem A0{c:Int}(h:c≠0):(c:Rat)≠0:=λe=>h (by exact_mod_cast e)
theorem Lj{p q:Um}{c:Rat}(tp:Uz p)(tq:Uz q)(hc:c≠0)(h:∀t,Ux p t=c*Ux q t):p.length=q.length:=by
 have key:∀{p q:Um} {c:Rat},Uz p->Uz q->c≠0->(∀t,Ux p t=c*Ux q t)->p.length<=q.length:=λ{p q c} tp tq hc h=>by
  rcases Q9 q.length p.length with e|e
  ·have h1:=Hk tp (by omega);have:=B7 (p:=cz p) (q:=Pv c (cz q)) (λt=>by rw[Uy,Fq,Uy,h]) (p.length-1);rw[Po,Tp,Po,Qd (l:=q),Qx (by omega)]at this;have:((p.getD (p.length-1) 0:Int):Rat)=0:=by rw[this];simp
   exact absurd (by exact_mod_cast this) h1
  ·exact e
 refine Kf (key tp tq hc h) (key (c:=1 / c) tq tp (λe=>?_) λt=>?_)
 ·have:=Zh (a:=1) hc;rw[e]at this;grind
 ·rw[h];have:=Zh (a:=1) hc;grind
theorem Pe{p:Um}(tp:Uz p)(h:p.length≠0):Uz (U5 p)/\(U5 p).length=p.length/\Prm (U5 p)/\0<U8 (U5 p)/\(∀s,Bd s p->Bd s (U5 p))/\G0 p≠0/\∀t,Ux p t=(G0 p:Rat)*Ux (U5 p) t:=by
 have h0:=lR tp h;have e:U5 p=La p (G0 p):=by unfold U5;rw[if_neg h]
 have h1:=IH (p:=p) (c:=G0 p) WL;have hl:=Lj tp (O9 p (G0 p)) (A0 h0) h1;have hcp:0<S9 p:=by
  have:=Iz tp h;unfold S9 at this ⊢;omega
 rw[e];refine⟨O9 _ _,hl.symm,λd hd=>?_,?_,λs hs=>MF hs _,h0,h1⟩
 ·have h2:∀z∈p,d*G0 p∣z:=λz hz=>by
   obtain⟨i,hi⟩:=Zi.1 hz;have h3:=hd i;rw[Nx,Qd,hi]at h3;obtain⟨k,hk⟩:=h3;have h4:=WL z hz;refine⟨k,?_⟩;have:z / G0 p*G0 p=z:=Wd h4;rw[<-this];rw[show z / G0 p=d*k from hk,Int.mul_right_comm]
  have h3:=Qdr h2;have h4:G0 p∣((Hx p:Nat):Int)/\((Hx p:Nat):Int)∣G0 p:=by
   unfold G0 S9;split
   ·exact⟨W9.2 (Ww _),Int.dvd_neg.2 (Ww _)⟩
   ·exact⟨Ww _,Ww _⟩
  obtain⟨k,hk⟩:=V5 h3 h4.2;refine⟨k,?_⟩;have:G0 p*(d*k)=G0 p*1:=by rw[Wm,<-Int.mul_assoc,Vy (G0 p) d,<-hk]
  exact(Int.eq_of_mul_eq_mul_left h0 this).symm
 ·have h2:U8 (La p (G0 p))=U8 p / G0 p:=by unfold U8;rw[<-hl,Nx]
  have h3:G0 p∣U8 p:=WL _ (wW h);have h5:U8 p / G0 p*G0 p=U8 p:=Wd h3;rw[h2];have h6:=B8 tp h;rcases Jw (U8 p / G0 p) 0 with e1|e1|e1
  ·exfalso;by_cases hn:U8 p<0
   ·have:G0 p=-S9 p:=by unfold G0;rw[if_pos hn]
    have:0<U8 p / G0 p*G0 p:=Kc e1 (by omega);omega
   ·have:G0 p=S9 p:=by unfold G0;rw[if_neg hn]
    have:U8 p / G0 p*G0 p<0:=Int.mul_neg_of_neg_of_pos e1 (by omega);omega
  ·rw[e1]at h5;omega
  ·exact e1
theorem uY{r:Um}(tr:Uz r):∃c:Rat,0<c/\∀t,Ux r t=c*Ux (Ev r) t:=by
 unfold Ev;by_cases h:r.length=0
 ·rw[if_pos h];exact⟨1,by decide,λt=>by rw[Np h,Np rfl];grind⟩
 ·rw[if_neg h];have h1:0<S9 r:=by
   have:=Iz tr h;unfold S9 at this ⊢;omega
  have h2:((0:Int):Rat)<(S9 r:Rat):=X8.2 h1;exact⟨S9 r,by simpa using h2,IH Iy⟩
theorem I0(x:Int)(t:Rat):∀i,Ux (mono i x) t=(x:Rat)*t^i
 | 0=>by simp only[mono,Wg,Jl,Ux,Xh];grind
 |
  i+1=>by
  have ih:=I0 x t i;simp only[mono,Jx,Xf,Ux]at *;rw[ih,Z9];push_cast;grind
theorem xQ(x:Int)(b:Um)(i k:Nat):(U9 (trim (mono i x)) b).getD k 0=if i<=k then x*b.getD (k-i) 0 else 0:=by
 have e:∀t,Ux (U9 (trim (mono i x)) b) t=Ux (List.replicate i 0++b.map (x * ·)) t:=λt=>by
  rw[U6,Et,I0];have h2:∀i,Ux (List.replicate i 0++b.map (x * ·)) t=t^i*((x:Rat)*Ux b t):=λi=>by
   induction i with
   |
    zero =>
    simp only[Wg,Jl,Xh];have:=Cf x 0 t (max b.length (b.map (x * ·)).length) b [] (b.map (x * ·)) (by omega) (by simp) (by omega) λk=>by
     rw[Qd,Qd,Ze];cases b[k]? <;> simp
    rw[this];simp only[Ux];push_cast;grind
   |succ i ih=>simp only[Jx,Xf,Ux,ih,Z9];push_cast;grind
  rw[h2];grind
 rw[Ce e k,Qd,List.getElem?_append,X1];by_cases h:i<=k
 ·rw[if_neg (by omega),if_pos h,Ze,Qd];cases b[k-i]? <;> simp
 ·rw[if_pos (by omega),if_neg h,J9,if_pos (by omega)];rfl
theorem zM{p:Um}{n:Nat}(tp:Uz p)(h:p.length<=n+1)(h0:p.getD n 0=0):p.length<=n:=by
 rcases Q9 n p.length with e|e
 ·have:=Hk tp (by omega);rw[show p.length-1=n by omega]at this;exact absurd h0 this
 ·exact e
theorem Ql7{b r:Um}{i:Nat}(tr:Uz r)(h:r.length<=b.length+i)(hb:b.length≠0){x:Int}(hx:x=if r.length=b.length+i then U8 r else 0):(str b (U8 b) i x r).length<b.length+i:=by
 have hl:=zC (c:=U8 b) (x:=x) (i:=i) (b:=b) (r:=r);have:=zM (p:=str b (U8 b) i x r) (n:=b.length+i-1) (U7 _ _) (by omega) (by
  unfold str;rw[C7,Ty,xQ,if_pos (by omega),hx,show b.length+i-1-i=b.length-1 by omega]
  split
  ·rename_i he;unfold U8;rw[he,Int.sub_eq_zero]
  ·rw[Qd (l:=r),Qx (by omega)];simp)
 omega
theorem Qhf(b r:Um)(c:Int)(i:Nat)(x:Int)(t:Rat):(c:Rat)*Ux r t=(x:Rat)*t^i*Ux b t+Ux (str b c i x r) t:=by
 unfold str;rw[Dt,Tj,U6,Et,I0];grind
theorem Qfx(b:Um)(c:Int):∀(i:Nat) (q r:Um),∃X:Up,∀t,((c^i:Int):Rat)*Ux r t=ev X t*Ux b t+Ux (uR b c i (q,r)).2 t
 | 0,q,r=>⟨[],λt=>by simp only[uR,ev];rw[Int.pow_zero];push_cast;grind⟩
 |
  i+1,q,r=>by
  obtain⟨x,hx⟩:=nmE (if r.length=b.length+i then U8 r else 0);obtain⟨X,hX⟩:=Qfx b c i (stq c i x q) (str b c i x r);obtain⟨m,hm⟩:∃m:Up,∀t,ev m t=(x:Rat)*t^i:=⟨cz (mono i x),λt=>by rw[Uy,I0]⟩;refine⟨Rf (Pv ((c^i:Int):Rat) m) X,λt=>?_⟩;rw[XP hx,Fu,Fq,hm];have h1:=hX t;have h2:=Qhf b r c i x t;rw[Int.pow_succ]
  push_cast at h1 ⊢
  have:(c:Rat)^i*c*Ux r t=(c:Rat)^i*((c:Rat)*Ux r t):=by grind
  rw[this,h2];grind
theorem xA{b:Um}(hb:b.length≠0):∀(i:Nat) (q r:Um),Uz r->r.length<b.length+i->Uz (uR b (U8 b) i (q,r)).2/\(uR b (U8 b) i (q,r)).2.length<b.length
 | 0,q,r,tr,h=>⟨tr,h⟩
 |
  i+1,q,r,tr,h=>by
  rw[XP rfl];exact xA hb i _ _ (U7 _ _) (Ql7 tr (by omega) hb rfl)
theorem Qfw{b:Um}{c:Int}{t:Nat}(hb:Bd t b)(hc:Ff c<=t):∀(i u:Nat) (q r:Um),i<=64->Bd u r->Bd (u+i*(t+8)) (uR b c i (q,r)).2
 | 0,u,q,r,_,h=>by simpa[uR]using h
 |
  i+1,u,q,r,hi,h=>by
  rw[XP rfl];have hx:Ff (if r.length=b.length+i then U8 r else 0)<=u:=by
   split
   ·exact Pw h
   ·rw[Nf];exact Qg _
  have:=Qfw hb hc i (u+t+8) (stq c i (if r.length=b.length+i then U8 r else 0) q) (str b c i (if r.length=b.length+i then U8 r else 0) r) (by omega) (gP h hb hc hx (by omega));exact Uv this (by rw[Xa];omega)
theorem CM{c:Int}(h:c<0):∀k:Nat,(k % 2=1->c^k<0)/\(k % 2=0->0<c^k)
 | 0=>⟨λh=>by omega,λ_=>by rw[Int.pow_zero];decide⟩
 |
  k+1=>by
  obtain⟨i1,i2⟩:=CM h k;rw[Int.pow_succ];exact⟨λhk=>Y9 (i2 (by omega)) h,λhk=>Kc (i1 (by omega)) h⟩
theorem UY{a b:Um}(ta:Uz a)(tb:Uz b)(hb:b.length≠0)(hl:a.length<=60):Uz (Ha a b)/\(Ha a b).length<b.length/\(∀s,Bd s a->Bd s b->Bd (s+(a.length+1-b.length)*(s+8)) (Ha a b)) /\
 ∃u v:Rat,0<u/\0<v/\∃X:Up,∀t,u*Ux a t=ev X t*Ux b t+v*Ux (Ha a b) t:=by
 obtain⟨k,hk⟩:=nmE (a.length+1-b.length);have h1:Uz (Mc a b)/\(Mc a b).length<b.length:=xA hb _ _ _ ta (by omega);obtain⟨X,hX⟩:=Qfx b (U8 b) k [] a;have hX:∀t,(((U8 b)^k:Int):Rat)*Ux a t=ev X t*Ux b t+Ux (Mc a b) t:=by unfold Mc;rw[<-hk];exact hX
 have h2:=UQ (a:=a) (b:=b) (r:=Mc a b) (n:=(Mc a b).length) (s:=(Mc a b).foldl (λm z=>m+Ff z) 0) h1.1 (Qj _) (λz hz=>by
  have key:∀(l:Um) (m:Nat),m≤l.foldl (λm z=>m+Ff z) m/\∀z∈l,Ff z≤l.foldl (λm z=>m+Ff z) m:=by
   intro l
   induction l with
   |nil=>exact λm=>⟨Qj _,λz hz=>by cases hz⟩
   |
    cons y l ih =>
    intro m;obtain⟨i1,i2⟩:=ih (m+Ff y);refine⟨by simp only[Xl];omega,λz hz=>?_⟩;simp only[Xl];rcases Qt.1 hz with rfl|hz
    ·omega
    ·exact i2 z hz
  exact(key _ 0).2 z hz)
 have h3:=CP (r:=M4 a b (Mc a b)) (n:=(Mc a b).length) h2.2.1 h2.2.2;refine⟨h3.1,by unfold Ha;omega,λs ha hbs=>?_,?_⟩
 ·have h4:=Qfw (c:=U8 b) hbs (Pw hbs) k s [] a (by omega) ha;have h5:=UQ (a:=a) (b:=b) (n:=(Mc a b).length) h1.1 (Nat.le_refl _) (show Bd (s+k*(s+8)) (Mc a b) by unfold Mc;rw[<-hk];exact h4);rw[<-hk];exact(CP h5.2.1 h5.2.2).2.2
 ·obtain⟨v,vp,hv⟩:=uY h2.1;have hc:=B8 tb hb;by_cases ht:k % 2=1/\U8 b<0
  ·have e1:M4 a b (Mc a b)=P0 (Mc a b):=by unfold M4;rw[<-hk,if_pos ht]
   have hneg:(U8 b)^k<0:=(CM ht.2 k).1 ht.1;have h5:(((U8 b)^k:Int):Rat)<((0:Int):Rat):=X8.2 hneg;have h5:(((U8 b)^k:Int):Rat)<0:=by simpa using h5
   refine⟨-(((U8 b)^k:Int):Rat),v,by grind,vp,Pv (-1) X,λt=>?_⟩;have h6:=hX t;have h7:=hv t;rw[e1,I1]at h7;show _=_+v*Ux (Ev (M4 a b (Mc a b))) t;rw[e1,<-h7,Fq];grind
  ·have e1:M4 a b (Mc a b)=Mc a b:=by unfold M4;rw[<-hk,if_neg ht]
   have hpos:0<(U8 b)^k:=by
    rcases Kh hc with h|h
    ·exact(CM h k).2 (by omega)
    ·exact Int.pow_pos h
   have h5:((0:Int):Rat)<(((U8 b)^k:Int):Rat):=X8.2 hpos;refine⟨(((U8 b)^k:Int):Rat),v,by simpa using h5,vp,X,λt=>?_⟩;have h7:=hv t;show _=_+v*Ux (Ev (M4 a b (Mc a b))) t;rw[<-h7,e1,hX]
theorem Ed{p:Um}(h1:p.length<=64)(h2:Bd 16777216 p):LZ p=some p:=by
 unfold LZ;rw[if_pos ⟨h1,Js.2 λz hz=>Nat.ble_eq_true_of_le (h2 z hz)⟩]
theorem Lr{a b:Um}{g:Up}{c:Rat}(hc:c≠0)(h:∀t,Ux a t=c*Ux b t):Bu g (cz a)↔Bu g (cz b):=by
 constructor
 ·rintro⟨u,hu⟩
  refine⟨Pv (1 / c) u,λt=>?_⟩;have h1:=hu t;rw[Uy,h]at h1;rw[Uy,Fq];have h2:1 / c*c=1:=Zh hc;have:Ux b t=1 / c*(c*Ux b t):=by grind
  rw[this,h1];grind
 ·rintro⟨u,hu⟩
  refine⟨Pv c u,λt=>?_⟩;have h1:=hu t;rw[Uy]at h1;rw[Uy,Fq,h,h1];grind
structure Gc(g a b:List Int):Prop where
 t:Uz g
 da:Bu (cz g) (cz a)
 db:Bu (cz g) (cz b)
 c:∃U V,∀t,Ux g t=ev U t*Ux a t+ev V t*Ux b t
 n:g.length≠0
theorem Gc.scale{g a b g' a' b':Um}{x y z:Rat}(h:Gc g a b)(hx:x≠0)(hy:y≠0)(hz:z≠0)(tg:Uz g')(eg:∀t,Ux g t=x*Ux g' t)(ea:∀t,Ux a' t=y*Ux a t)(eb:∀t,Ux b' t=z*Ux b t):Gc g' a' b':=by
 have hx1:1 / x*x=1:=Zh hx;have hy1:1 / y*y=1:=Zh hy;have hz1:1 / z*z=1:=Zh hz;have hg:∀c,Bu (cz g) c->Bu (cz g') c:=λc ⟨u,hu⟩=>⟨Pv x u,λt=>by rw[hu,Uy,Uy,eg,Fq];grind⟩
 obtain⟨U,V,hc⟩:=h.c;refine⟨tg,hg _ ((Lr hy ea).2 h.da),hg _ ((Lr hz eb).2 h.db),⟨Pv (1 / x*(1 / y)) U,Pv (1 / x*(1 / z)) V,λt=>?_⟩,?_⟩
 ·have h1:=hc t;have h2:Ux g' t=1 / x*Ux g t:=by rw[eg];grind
  rw[h2,h1,Fq,Fq,ea,eb];generalize ev U t=u at *;generalize ev V t=v at *;grind
 ·rw[<-Lj h.t tg hx eg];exact h.n
theorem Qk5:∀d:Nat,1<=d->d+2<=3^d
 | 0,h=>by omega
 | 1,_=>by decide
 |d+2,_=>by have:=Qk5 (d+1) (by omega);rw[Zl];omega
theorem fN{k:Nat}{a b:Um}(ta:Uz a)(tb:Uz b)(hb:b.length≠0)(hl:a.length<=60)(hbl:b.length<=60)(hr:Bd 16777216 (Ha a b))(ih:∃g,HB k b (Ha a b)=some g/\Gc g b (Ha a b)):∃g,HB (k+1) a b=some g/\Gc g a b:=by
 obtain⟨h1,h2,h3,u,v,up,vp,X,hX⟩:=UY ta tb hb hl;obtain⟨g,e,hg⟩:=ih;refine⟨g,?_,?_⟩
 ·simp only[HB];rw[if_neg hb,Ed (by omega) hr];exact e
 ·obtain⟨U,V,hc⟩:=hg.c;obtain⟨y,hy⟩:=hg.da;obtain⟨z,hz⟩:=hg.db;have hu:1 / u*u=1:=Gd up;have hv:1 / v*v=1:=Gd vp;refine⟨hg.t,⟨Pv (1 / u) (Rf (Gj X y) (Pv v z)),λt=>?_⟩,hg.da,⟨Pv (u / v) V,Rf U (Pv (-1 / v) (Gj V X)),λt=>?_⟩,hg.n⟩
  ·have a1:=hX t;have a2:=hy t;have a3:=hz t;rw[Uy,Uy]at a2 a3;rw[Uy,Uy,Fq,Fu,U3,Fq];have:Ux a t=1 / u*(u*Ux a t):=by grind
   rw[this,a1,a2,a3];grind
  ·have a1:=hX t;have a2:=hc t;rw[Fq,Fu,Fq,U3,a2];have:Ux (Ha a b) t=1 / v*(v*Ux (Ha a b) t):=by grind
   rw[this,show v*Ux (Ha a b) t=u*Ux a t-ev X t*Ux b t by grind,Yp,Yp,Yp];grind
theorem eL{k:Nat}{a:Um}(ta:Uz a)(ha:a.length≠0):∃g,HB (k+1) a []=some g/\Gc g a [] :=
 ⟨a,rfl,ta,dvd_refl _,⟨[],λt=>by simp only[cz,Ja,ev];grind⟩,⟨[1],[],λt=>by rw[Rx];simp only[ev];grind⟩,ha⟩
theorem HC{s:Nat}:∀(k:Nat) (a b:Um),Uz a->Uz b->b.length<k->b.length<a.length->a.length<=60->Bd s a->Bd s b->(s+8)*3^(a.length-1)<=16777216->∃g,HB k a b=some g/\Gc g a b
 | 0,_,_,_,_,h,_,_,_,_,_=>by omega
 |
  k+1,a,b,ta,tb,hk,hab,hl,ba,bb,hs=>by
  by_cases hb:b.length=0
  ·rw[Qh hb];exact eL ta (by omega)
  ·obtain⟨h1,h2,h3,_⟩:=UY ta tb hb hl;have h3:=h3 s ba bb;obtain⟨m,hm⟩:=nmE (a.length-b.length);have e1:a.length+1-b.length=m+1:=by omega
   rw[e1]at h3;have e2:s+(m+1)*(s+8)+8=(m+2)*(s+8):=by
    rw[show m+2=(m+1)+1 by omega,Xa (m+1)];omega
   have e3:(m+2)*(s+8)*3^(b.length-1)<=(s+8)*3^(a.length-1):=by
    rw[show a.length-1=m+(b.length-1) by omega,Xc,<-Xk,Zg (s+8)];exact Qw _ (Qw _ (Qk5 m (by omega)))
   have e4:s+(m+1)*(s+8)<=16777216:=by
    have:(m+2)*(s+8)<=(m+2)*(s+8)*3^(b.length-1):=Jr _ (Zu (by decide));omega
   refine fN ta tb hb hl (by omega) (Uv h3 e4) (HC (s:=s+(m+1)*(s+8)) k b (Ha a b) tb h1 (by omega) h2 (by omega) (Uv bb (by omega)) h3 ?_);rw[e2];omega
def aX(n s:Nat):Prop:=n<=10/\2*(s+8)*3^(n-1)<=16777216
theorem Qhr{n s:Nat}(hz:aX n s){a b:Um}(ta:Uz a)(tb:Uz b)(la:a.length<=n)(lb:b.length<=n)(ba:Bd s a)(bb:Bd s b)(h0:a.length≠0\/b.length≠0):∃g,HB 66 a b=some g/\Gc g a b:=by
 obtain⟨hn,hz⟩:=hz;have hp:∀l,l<=n->(s+8)*3^(l-1)<=8388608:=λl hl=>by
  have:(s+8)*3^(l-1)<=(s+8)*3^(n-1):=Zd _ (Zo (by decide) (by omega));rw[Xk]at hz;omega
 rcases Q9 b.length a.length with h|h
 ·exact HC 66 a b ta tb (by omega) h (by omega) ba bb (by have:=hp a.length la;omega)
 ·by_cases hb:b.length=0
  ·rw[Qh hb];exact eL ta (by omega)
  ·obtain⟨h1,h2,h3,_⟩:=UY ta tb hb (by omega);have h3:=h3 s ba bb;have h4:(a.length+1-b.length)*(s+8)<=1*(s+8):=Qw _ (by omega);have h5:=hp b.length lb;have h6:(s+8)*1<=(s+8)*3^(b.length-1):=Zd _ (Zu (by decide));refine fN ta tb hb (by omega) (by omega) (Uv h3 (by omega)) (HC (s:=2*s+8) 65 b (Ha a b) tb h1 (by omega) h2 (by omega) (Uv bb (by omega)) (Uv h3 (by omega)) ?_);rw[show 2*s+8+8=2*(s+8) by omega,Xk];omega
theorem IL:U5 []=[]:=rfl
theorem Mn{a:Um}(ta:Uz a):Uz (U5 a)/\(U5 a).length=a.length/\(∀s,Bd s a->Bd s (U5 a))/\∃c:Rat,c≠0/\∀t,Ux a t=c*Ux (U5 a) t:=by
 by_cases h:a.length=0
 ·rw[Qh h];exact⟨rfl,rfl,λs _=>QI,1,by decide,λt=>by rw[IL];grind⟩
 ·obtain⟨h1,h2,h3,h4,h5,h6,h7⟩:=Pe ta h;exact⟨h1,h2,h5,_,A0 h6,h7⟩
theorem KW{n s:Nat}(hz:aX n s){a b:Um}(ta:Uz a)(tb:Uz b)(la:a.length<=n)(lb:b.length<=n)(ba:Bd s a)(bb:Bd s b)(h0:a.length≠0\/b.length≠0):∃g,I4 a b=some g/\Gc g a b/\Prm g/\0<U8 g:=by
 obtain⟨a1,a2,a3,x,xn,ax⟩:=Mn ta;obtain⟨b1,b2,b3,y,yn,bx⟩:=Mn tb;obtain⟨g,e,hg⟩:=Qhr hz a1 b1 (by omega) (by omega) (a3 s ba) (b3 s bb) (by omega);obtain⟨g1,g2,g3,g4,g5,g6,g7⟩:=Pe hg.t hg.n;refine⟨U5 g,?_,hg.scale (A0 g6) xn yn g1 g7 ax bx,g3,g4⟩;unfold I4;rw[e];rfl
theorem Qat{a:Um}(ta:Uz a):I4 [] a=some (U5 (U5 a)):=by
 unfold I4;rw[IL];by_cases h:(U5 a).length=0
 ·have e:U5 a=[]:=Qh h;rw[e];rfl
 ·have e:Ha [] (U5 a)=[]:=by
   have e1:Mc [] (U5 a)=[]:=by unfold Mc;rw[show([]:Um).length+1-(U5 a).length=0 by simp;omega];rfl
   unfold Ha;rw[e1];unfold M4
   split <;> rfl
  have:HB 66 [] (U5 a)=some (U5 a):=by
   show(if (U5 a).length=0 then _ else _)=_;rw[if_neg h,e];rfl
  rw[this];rfl
theorem tI{n s:Nat}(hz:aX n s){a b:Um}(ta:Uz a)(tb:Uz b)(la:a.length<=n)(lb:b.length<=n)(ba:Bd s a)(bb:Bd s b)(h0:a.length≠0):∃g,uJ a b=some g/\Gc g a b/\Prm g/\0<U8 g:=by
 obtain⟨a1,a2,a3,x,xn,ax⟩:=Mn ta;obtain⟨b1,b2,b3,y,yn,bx⟩:=Mn a1;obtain⟨g,e,hg,h1,h2⟩:=KW hz b1 tb (by omega) lb (b3 s (a3 s ba)) bb (by omega);refine⟨g,?_,hg.scale (x:=1) (y:=x*y) (z:=1) (by decide) (λh=>(Jn.1 h).elim xn yn) (by decide) hg.t (λt=>by grind) (λt=>by rw[ax,bx];grind) (λt=>by grind),h1,h2⟩;unfold uJ;rw[Qat ta];exact e
theorem eD:∀{p q:Up} {m n:Nat},HD p m->HD q n->(Gj p q).getD (m+n) 0=p.getD m 0*q.getD n 0
 | [],q,m,n,h,_=>absurd (by simp) h.1
 |
  a::p,q,0,n,h,h'=>by
  have h1:∀k,p.getD k 0=0:=λk=>by have:=h.2 (k+1) (by omega);rwa[Qz]at this
  simp only[Gj];rw[Rj,Tp,Zn,Zz];cases n with
  |zero=>rw[Zn];grind
  |succ n=>rw[Qz,RE h1];grind
 |
  a::p,q,m+1,n,h,h'=>by
  have ih:=eD (p:=p) (q:=q) (m:=m) ⟨by have:=h.1;rwa[Qz]at this,λk hk=>by have:=h.2 (k+1) (by omega);rwa[Qz]at this⟩ h';simp only[Gj];rw[Rj,Tp,show m+1+n=(m+n)+1 by omega,Qz,h'.2 _ (by omega),ih,Qz];grind
theorem ZO{a b c:Um}(ta:Uz a)(tb:Uz b)(tc:Uz c)(h:∀t,Ux c t=Ux a t*Ux b t)(la:0<a.length)(lb:0<b.length):U8 c=U8 a*U8 b:=by
 have h1:=YC ta la;have h2:=YC tb lb;have h3:=eD h1 h2;have hl:=Rv ta tb tc h la lb;rw[<-B7 (p:=cz c) (λt=>by rw[U3,Uy,Uy,Uy,h]),Po,Po,Po,show a.length-1+(b.length-1)=c.length-1 by omega]at h3;unfold U8;exact_mod_cast h3
theorem G7{a b c:Um}(tc:Uz c)(hc:c.length≠0)(h:∀t,Ux c t=Ux a t*Ux b t):0<a.length/\0<b.length:=by
 constructor
 ·rcases Qy a.length with e|e
  ·exact absurd (λt=>by rw[h,Np e];grind) (QK tc (by omega))
  ·exact e
 ·rcases Qy b.length with e|e
  ·exact absurd (λt=>by rw[h,Np e];grind) (QK tc (by omega))
  ·exact e
theorem xB{b:Um}(tb:Uz b)(hb:b.length≠0):∀(i:Nat) (a q h:Um),Uz a->Uz h->(∀t,Ux a t=Ux b t*Ux h t)->a.length<b.length+i->i<=q.length->(∀j,j<i->q.getD j 0=0)->∃q',xN b i a q=some q'/\q'.length=q.length/\∀t,Ux q' t=Ux q t+Ux h t
 |
  0,a,q,h,ta,th,e,hl,_,_=>by
  have ha:a.length=0:=by
   rcases Qy a.length with e'|e'
   ·exact e'
   ·obtain⟨p1,p2⟩:=G7 ta (by omega) e;have:=Rv tb th ta e p1 p2;omega
  refine⟨q,by simp only[xN];rw[if_pos ha],rfl,λt=>?_⟩;have:∀t,Ux h t=0:=λt=>by
   have:=NQ (p:=cz b) (q:=cz h) (r:=[]) (λh0=>QK tb (by omega) λt=>by rw[<-Uy];exact h0 t) (λt=>by rw[Uy,Uy,<-e,Np ha];simp only[ev];grind) t;rwa[Uy]at this
  rw[this];grind
 |
  i+1,a,q,h,ta,th,e,hl,hq,h0=>by
  simp only[xN];by_cases hlt:a.length<b.length+i
  ·rw[if_pos hlt];exact xB tb hb i a q h ta th e hlt (by omega) λj hj=>h0 j (by omega)
  ·rw[if_neg hlt];obtain⟨p1,p2⟩:=G7 ta (by omega) e;have hln:=Rv tb th ta e p1 p2;have hld:=ZO tb th ta e p1 p2;have hlb:=B8 tb hb;rw[hld,if_pos (Int.mul_emod_right _ _),Xp _ hlb];have hli:h.length=i+1:=by omega
   have e2:∀t,Ux (Su a (U9 (trim (mono i (U8 h))) b)) t=Ux b t*Ux (Su h (mono i (U8 h))) t:=λt=>by
    rw[Dt,Dt,U6,Et,e];grind
   have hl2:(Su a (U9 (trim (mono i (U8 h))) b)).length<b.length+i:=by
    have hl:=dD (i:=i) (x:=U8 h) (b:=b) (a:=a);unfold sta at hl;have:=zM (p:=Su a (U9 (trim (mono i (U8 h))) b)) (n:=b.length+i-1) (U7 _ _) (by omega) (by
     rw[C7,xQ,if_pos (by omega),show b.length+i-1-i=b.length-1 by omega,show b.length+i-1=a.length-1 by omega];have:U8 a=a.getD (a.length-1) 0:=rfl;rw[<-this,hld];unfold U8;rw[Vy,Int.sub_eq_zero])
    omega
   obtain⟨q',h1,h2,h3⟩:=xB tb hb i _ (q.set i (U8 h)) (Su h (mono i (U8 h))) (U7 _ _) (U7 _ _) e2 hl2 (by simp;omega) λj hj=>by
    rw[Qd,Ji,if_neg (by omega),<-Qd];exact h0 j (by omega)
   refine⟨q',h1,by rw[h2,X2],λt=>?_⟩;rw[h3,xM q i _ t (by omega),h0 i (by omega),Dt,I0]
   push_cast;grind
theorem Qf8{a b h:Um}{s:Nat}(ta:Uz a)(tb:Uz b)(th:Uz h)(ha:a.length≠0)(la:a.length<=10)(ba:Bd s a)(hs:s+69<=16777216)(e:∀t,Ux a t=Ux b t*Ux h t):O5 a b=some h:=by
 obtain⟨p1,p2⟩:=G7 ta ha e;have hln:=Rv tb th ta e p1 p2;obtain⟨q,h1,h2,h3⟩:=xB tb (by omega) (a.length+1-b.length) a (List.replicate (a.length+1-b.length) 0) h ta th e (by omega) (by simp) λj _=>Hu _ _
 have h4:trim q=h:=Ao (Hj _) th λt=>by rw[Et,h3,IT];grind
 unfold O5;rw[if_neg (by omega),h1];show LZ (trim q)=_;rw[h4];exact Ed (by omega) (Uv (D2 ba la ta th tb ha λt=>by rw[e];grind) (by omega))
structure Pr1(p:List Int):Prop where
 t:Uz p
 m:Prm p
 l:0<U8 p
theorem Pr1.n{p:Um}(h:Pr1 p):p.length≠0:=λe=>by
 have:=h.l;rw[Qh e]at this;exact absurd this (by decide)
theorem oC{p:Um}(tp:Uz p)(h:p.length≠0):Pr1 (U5 p):=by
 obtain⟨h1,h2,h3,h4,_⟩:=Pe tp h;exact⟨h1,h3,h4⟩
theorem Pr1.one{p:Um}(h:Pr1 p)(hl:p.length<2):p=[1]:=by
 have hn:=h.n;obtain⟨c,rfl⟩:∃c,p=[c]:=Jv.1 (by omega);have h1:=h.m c λk=>by cases k <;> simp
 have h2:0<c:=h.l;have:=Int.le_of_dvd (by decide) h1;rw[show c=1 by omega]
theorem lD{p g h:Um}(hp:Prm p)(e:∀t,Ux p t=Ux g t*Ux h t):Prm h:=λd hd=>by
 refine hp d λk=>?_
 have:=Ce (p:=p) (q:=U9 g h) (λt=>by rw[e,U6]) k;rw[this];have e2:∀t,Ux (U9 g h) t=(d:Rat)*Ux (U9 g (h.map (· / d))) t:=λt=>by
  have h1:Ux h t=(d:Rat)*Ux (h.map (· / d)) t:=by
   have:=Cf d 0 t (max h.length (h.map (· / d)).length) (h.map (· / d)) [] h (by omega) (by simp) (by omega) λk=>by
    rw[WW,K8 (hd k)];simp
   rw[this];simp only[Ux];push_cast;grind
  rw[U6,U6,h1];grind
 have:=Ce (p:=U9 g h) (q:=Fc (U9 g (h.map (· / d))) d) (λt=>by rw[e2,Tj];grind) k;rw[this,Ty];exact Kv _ _
theorem lN{p g h:Um}(hp:Pr1 p)(hg:0<U8 g)(tg:Uz g)(th:Uz h)(e:∀t,Ux p t=Ux g t*Ux h t):Pr1 h:=by
 obtain⟨p1,p2⟩:=G7 hp.t hp.n e;have:=ZO tg th hp.t e p1 p2;refine⟨th,lD hp.m e,?_⟩;have hl:=hp.l;rw[this]at hl;rcases Jw (U8 h) 0 with h1|h1|h1
 ·have:=Y9 hg h1;omega
 ·rw[h1]at hl;omega
 ·exact h1
structure Sqp(p g q:List Int):Prop where
 pp:Pr1 p
 pg:Pr1 g
 pq:Pr1 q
 e:∀t,Ux p t=Ux g t*Ux q t
 c:∃U V,∀t,Ux g t=ev U t*Ux p t+ev V t*dv (cz p) t
 d:∃z,∀t,dv (cz p) t=Ux g t*ev z t
theorem Sqp.num{p g q:Um}(h:Sqp p g q){d:Up}(h1:Bu d (cz q))(h2:Bu d (Na (cz q))):∃c:Rat,c≠0/\∀t,ev d t=c:=by
 obtain⟨U,V,hc⟩:=h.c;have hpow:=sqf (k:=1) (a:=cz p) (g:=cz g) (q:=cz q) (d:=d) (U:=U) (V:=V) (by decide) (λt=>by rw[Uy,Uy,Uy,h.e]) (λt=>by rw[Uy,Uy,hc];grind) h1 h2;rcases RL d with h3|⟨m,_,h3⟩
 ·obtain⟨u,hu⟩:=h1;exact absurd (λt=>by rw[<-Uy,hu,h3];grind) (QK h.pq.t (by have:=h.pq.n;omega))
 ·obtain rfl:=IC h3 (YC h.pg.t (by have:=h.pg.n;omega)) hpow;refine⟨d.getD 0 0,h3.1,λt=>?_⟩;cases d with
  |nil=>exact absurd (by simp) h3.1
  |
   cons c l =>
   have:=Do (p:=l) λk=>by have:=h3.2 (k+1) (by omega);rwa[Qz]at this
   simp only[ev,this,Zn];grind
theorem Sqp.bez{p g q:Um}(h:Sqp p g q):∃X Y,∀t,ev X t*ev (cz q) t+ev Y t*dv (cz q) t=1:=by
 obtain⟨d,U,V,h1,h2,h3⟩:=Qec (cz q) (Na (cz q));obtain⟨c,hc,hd⟩:=h.num h1 h2;refine⟨Pv (1 / c) U,Pv (1 / c) V,λt=>?_⟩;have h5:=h3 t;rw[hd,Rl]at h5;have h4:1 / c*c=1:=Zh hc;rw[Fq,Fq];have:1 / c*ev U t*ev (cz q) t+1 / c*ev V t*dv (cz q) t=1 / c*(ev U t*ev (cz q) t+ev V t*dv (cz q) t):=by grind
 rw[this,<-h5,h4]
theorem Qqr{n s s':Nat}(h:aX n s)(hs:s'<=s):aX n s':=⟨h.1,Qc (Qw _ (by omega)) h.2⟩
theorem eC{n s:Nat}(h:aX n s):s<=8388600:=by
 have:2*(s+8)*1<=2*(s+8)*3^(n-1):=Zd _ (Zu (by decide));have:=h.2;omega
theorem FK{s:Nat}{p:Um}(h:Bd s p)(hl:p.length<=10):Bd (s+4) (Fv p):=SB h (t:=4) (by omega)
theorem jP{n s:Nat}(hz:aX n (s+73)){p:Um}(pp:Pr1 p)(l2:2<=p.length)(lp:p.length<=n)(bp:Bd (s+69) p){p0 h0:Um}(b0:Bd s p0)(l0:p0.length<=10)(t0:Uz p0)(th0:Uz h0)(z0:p0.length≠0)(e0:∀t,Ux p0 t=Ux h0 t*Ux p t) :
 ∃g q,LZ (Fv p)=some (Fv p)/\I4 p (Fv p)=some g/\O5 p g=some q/\Sqp p g q/\g.length<p.length:=by
 have hn:=hz.1;have hs:=eC hz;have bd:=FK bp (by omega);have ld:=Tq p;have td:Uz (Fv p):=U7 _ _;obtain⟨g,e1,hg,m,l⟩:=KW hz pp.t td lp (by omega) (Uv bp (by omega)) bd (.inl pp.n);obtain⟨q,tq,eq⟩:=RB m hg.da;have hdnz:(Fv p).length≠0:=λh=>by
  have h1:=Pa p (p.length-2);rw[Qh h,show p.length-2+1=p.length-1 by omega]at h1;have h2:p.getD (p.length-1) 0≠0:=Hk pp.t (by omega);rcases Jy.1 (h1.symm.trans (by simp))with h3|h3
  ·exact h2 h3
  ·omega
 have pg:Pr1 g:=⟨hg.t,m,l⟩;have hql:=Qf8 (s:=s+69) pp.t hg.t tq pp.n (by omega) bp (by omega) eq;refine⟨g,q,Ed (by omega) (Uv bd (by omega)),e1,hql,⟨pp,pg,lN pp l hg.t tq eq,eq,?_,?_⟩,?_⟩
 ·obtain⟨U,V,hc⟩:=hg.c;exact⟨U,V,λt=>by rw[hc,Ni]⟩
 ·obtain⟨z,hz⟩:=hg.db;exact⟨z,λt=>by rw[<-Ni,<-Uy,hz,Uy]⟩
 ·obtain⟨z,tz,ez⟩:=RB m hg.db;obtain⟨q1,q2⟩:=G7 td hdnz ez;have:=Rv hg.t tz td ez q1 q2;omega
theorem one_sqp:Sqp [1] [1] [1]:=by
 have p1:Pr1 [1]:=⟨rfl,λd hd=>by have:=hd 0;rwa[Zn]at this,by decide⟩;have e1:∀t,Ux [1] t=1:=λt=>by simp only[Ux];push_cast;grind
 exact⟨p1,p1,p1,λt=>by rw[e1];grind,⟨[1],[],λt=>by rw[e1,Rx];simp only[ev];grind⟩,⟨[],λt=>by simp only[cz,Z0,Ja,dv,ev];grind⟩⟩
structure Okp(n s:Nat)(p:List Int):Prop where
 z:aX n (s+73)
 t:Uz p
 nz:p.length≠0
 l:p.length<=n
 b:Bd s p
theorem Okp.pr{n s:Nat}{p:Um}(h:Okp n s p):Pr1 (U5 p)/\(U5 p).length=p.length/\Bd s (U5 p):=by
 obtain⟨h1,h2,h3,h4,h5,_⟩:=Pe h.t h.nz;exact⟨⟨h1,h3,h4⟩,h2,h5 s h.b⟩
theorem L6{n s:Nat}{p:Um}(h:Okp n s p):∃g q,Sj p=some q/\Sqp (U5 p) g q:=by
 obtain⟨pp,hl,hb⟩:=h.pr;have hn:=h.z.1;have:=h.l;unfold Sj;by_cases h2:(U5 p).length<2
 ·rw[if_pos h2,pp.one h2];exact⟨[1],[1],rfl,one_sqp⟩
 ·rw[if_neg h2];obtain⟨g,q,h3,h4,h5,h6,_⟩:=jP h.z pp (by omega) (by omega) (Uv hb (by omega)) (p0:=U5 p) (h0:=[1]) hb (by omega) pp.t rfl pp.n λt=>by simp only[Ux];push_cast;grind
  exact⟨g,q,by rw[h3];show(I4 (U5 p) (Fv (U5 p))).bind _=_;rw[h4];exact h5,h6⟩
inductive LW:List Int->List (List Int)->Prop
 |nil:LW [1] []
 |cons {g h w:List Int} {ws:List (List Int)} (hs:Sqp g h w) (hl:LW h ws):LW g (w::ws)
theorem Qpr{g:Um}{ws:Un}(h:LW g ws):∀t,Ux g t=ev (Ix (ws.map cz)) t:=by
 induction h with
 |nil=>intro t;simp only[Ja,Ix,Ux];rw[Rx];push_cast;grind
 |cons hs hl ih=>intro t;simp only[Z0,Ix];rw[U3,Uy,hs.e,ih];grind
theorem lQ{g:Um}{w v:Um}{ws:Un}(h:LW g (w::v::ws)):∃f,Uz f/\∀t,Ux w t=Ux f t*Ux v t:=by
 cases h with
 |
  @cons _ h _ _ hs hl =>
  cases hl with
  |
   @cons _ h2 _ _ hs2 hl2 =>
   obtain⟨X,Y,hb⟩:=hs2.bez;obtain⟨z,hz⟩:=hs.d;have hd:=Ql3 (a:=cz g) (g:=cz h) (q:=cz w) (z:=z) (r:=cz v) (X:=X) (Y:=Y) (n:=h.length-1) (λt=>by rw[Uy,Uy,Uy,hs.e]) (λt=>by rw[hz,Uy]) (YC hs.pg.t (by have:=hs.pg.n;omega)) hb
    ⟨Gj (cz h2) (cz w),λt=>by rw[U3,Uy,Uy,Uy,Uy,hs.e,hs2.e];grind⟩
   obtain⟨f,tf,ef⟩:=RB hs2.pq.m hd;exact⟨f,tf,λt=>by rw[ef];grind⟩
theorem BD{g w:Um}{ws:Un}(h:LW g (w::ws)):∀v∈w::ws,Pr1 v/\Bu (cz v) (cz w):=by
 have key:∀(ws:Un) (g w:Um),LW g (w::ws)->∀v∈w::ws,Pr1 v/\Bu (cz v) (cz w):=by
  intro ws
  induction ws with
  |
   nil =>
   intro g w h v hv;rw[Qo.1 hv];cases h with
   |cons hs hl=>exact⟨hs.pq,dvd_refl _⟩
  |
   cons u ws ih =>
   intro g w h v hv;have hn:=lQ h;cases h with
   |
    @cons _ h _ _ hs hl =>
    rcases Qt.1 hv with rfl|hv
    ·exact⟨hs.pq,dvd_refl _⟩
    ·obtain⟨i1,i2⟩:=ih h u hl v hv;obtain⟨f,_,hf⟩:=hn;exact⟨i1,dvd_trans i2 ⟨cz f,λt=>by rw[Uy,Uy,Uy,hf];grind⟩⟩
 exact key ws g w h
theorem sV{n s:Nat}(hz:aX n (s+73)){p0:Um}(b0:Bd s p0)(l0:p0.length<=10)(t0:Uz p0)(z0:p0.length≠0):∀(k:Nat) (g h0:Um),Pr1 g->g.length<=k->g.length<=n->Uz h0->(∀t,Ux p0 t=Ux h0 t*Ux g t)->∃ws,BN k g=some ws/\LW g ws
 | 0,g,_,pg,hk,_,_,_=>absurd pg.n (by omega)
 |
  k+1,g,h0,pg,hk,hn,th0,e0=>by
  simp only[BN];by_cases h2:g.length<2
  ·rw[if_pos h2,pg.one h2];exact⟨[],rfl,.nil⟩
  ·rw[if_neg h2];have bg:Bd (s+69) g:=D2 b0 l0 t0 pg.t th0 z0 λt=>by rw[e0];grind
   obtain⟨h,w,h3,h4,h5,h6,h7⟩:=jP hz pg (by omega) hn bg b0 l0 t0 th0 z0 e0;obtain⟨ws,i1,i2⟩:=sV hz b0 l0 t0 z0 k h (U9 h0 w) h6.pg (by omega) (by omega) (Fx _ _) λt=>by rw[e0,U6,h6.e];grind
   refine⟨w::ws,?_,.cons h6 i2⟩;rw[h3];show(I4 g (Fv g)).bind _=_;rw[h4];show(O5 g h).bind _=_;rw[h5];show(BN k h).bind _=_;rw[i1];rfl
theorem tM{s:Nat}{p0:Um}(b0:Bd s p0)(l0:p0.length≤10)(t0:Uz p0)(z0:p0.length≠0)(hs:s+69+69≤16777216):∀(ws:Un) (g h0:Um),LW g ws->Uz h0->(∀t,Ux p0 t=Ux h0 t*Ux g t)->∃fs,tP ws=some fs/\Lay (ws.map cz) (fs.map cz)/\∀f∈fs,Uz f
 | [],g,_,_,_,_=>⟨[],rfl,trivial,λf hf=>by cases hf⟩
 |
  [w],g,_,hl,_,_=>by
  cases hl with
  |cons hs hl=>exact⟨[w],rfl,λt=>rfl,λf hf=>by rw[Qo.1 hf];exact hs.pq.t⟩
 |
  w::v::ws,g,h0,hl,th0,e0=>by
  obtain⟨f,tf,ef⟩:=lQ hl;cases hl with
  |
   @cons _ h _ _ hs1 hl =>
   have hpv:=(BD hl v (Q0 ..)).1;obtain⟨fs,i1,i2,i3⟩:=tM b0 l0 t0 z0 hs (v::ws) h (U9 h0 w) hl (Fx _ _) λt=>by rw[e0,U6,hs1.e];grind
   have ew:∀t,Ux p0 t=Ux w t*Ux (U9 h0 h) t:=λt=>by rw[e0,U6,hs1.e];grind
   have bw:Bd (s+69) w:=D2 b0 l0 t0 hs1.pq.t (Fx _ _) z0 ew;obtain⟨p1,p2⟩:=G7 t0 z0 ew;have lw:=Rv hs1.pq.t (Fx _ _) t0 ew p1 p2;have hq:=Qf8 (s:=s+69) hs1.pq.t hpv.t tf hs1.pq.n (by omega) bw hs λt=>by rw[ef];grind
   refine⟨f::fs,?_,⟨λt=>by rw[Uy,Uy,Uy,ef],i2⟩,λx hx=>?_⟩
   ·show(O5 w v).bind _=_;rw[hq];show(tP (v::ws)).bind _=_;rw[i1];rfl
   ·rcases Qt.1 hx with rfl|hx
    ·exact tf
    ·exact i3 x hx
def M3:Un->Um
 | []=>[1]
 | [f]=>f
 |f::_::l=>U9 f (M3 l)
theorem wP:∀(fs:Un) (t:Rat),ev (SV (fs.map cz)) t=Ux (M3 fs) t
 | [],t=>by simp only[Ja,SV,M3,Ux];rw[Rx];push_cast;grind
 | [f],t=>by simp only[Z0,Ja,SV,M3];rw[Uy]
 |f::g::l,t=>by simp only[Z0,SV,M3];rw[U3,Uy,U6,wP l]
theorem G9(t:Rat):Ux [1] t=1:=by simp only[Ux];push_cast;grind
theorem FO:∀{w:Um} {ws fs:Un},Lay ((w::ws).map cz) (fs.map cz)->(∀f∈fs,Uz f)->(∀v∈w::ws,Uz v)->∃E,Uz E/\∀t,Ux w t=Ux (M3 fs) t*Ux E t
 |
  w,[],[f],h,_,_=>⟨[1],rfl,λt=>by
  have:=h t;rw[Uy,Uy]at this;rw[this,G9];simp only[M3];grind⟩
 |
  w,[v],[f,f2],h,_,hw=>⟨v,hw v (by simp),λt=>by
  have:=h.1 t;rw[Uy,Uy,Uy]at this;rw[this];simp only[M3];rw[U6,G9];grind⟩
 |
  w,v::x::l,f::f2::fs,h,hf,hw=>by
  obtain⟨E,hE,e⟩:=FO (w:=x) (ws:=l) (fs:=fs) h.2.2 (λg hg=>hf g (by simp[hg])) (λg hg=>hw g (by simp at hg ⊢;exact .inr (.inr hg)));refine⟨U9 f2 E,Fx _ _,λt=>?_⟩;have a1:=h.1 t;have a2:=h.2.1 t;rw[Uy,Uy,Uy]at a1 a2;have e2:Ux (M3 (f::f2::fs)) t=Ux f t*Ux (M3 fs) t:=by simp only[M3];rw[U6]
  rw[a1,a2,e,e2,U6];grind
 |w,[],[],h,_,_=>h.elim
 |w,[],_::_::_,h,_,_=>h.elim
 |w,[v],[],h,_,_=>h.elim
 |w,[v],[f],h,_,_=>h.2.elim
 |w,[v],_::_::_::_,h,_,_=>h.2.elim
 |w,v::x::l,[f],h,_,_=>h.2.elim
 |w,v::x::l,[],h,_,_=>h.elim
theorem JM{s:Nat}{p0:Um}(b0:Bd s p0)(l0:p0.length≤10)(t0:Uz p0)(z0:p0.length≠0)(hs:s+69≤16777216):∀(fs:Un) (i:Nat) (a E:Um),i % 2=0->Uz a->Uz E->(∀f∈fs,Uz f)->(∀t,Ux p0 t=Ux a t*Ux (M3 fs) t*Ux E t)->∃o,VP i a fs=some o/\Uz o/\∀t,Ux o t=Ux a t*Ux (M3 fs) t
 | [],i,a,E,hi,ta,_,_,_=>⟨a,rfl,ta,λt=>by simp only[M3];rw[G9];grind⟩
 |
  [f],i,a,E,hi,ta,tE,tf,hE=>by
  have e1:∀t,Ux p0 t=Ux (U9 a f) t*Ux E t:=λt=>by rw[hE,U6];rfl
  have b1:=D2 b0 l0 t0 (Fx a f) tE z0 e1;obtain⟨p1,p2⟩:=G7 t0 z0 e1;have hl:=Rv (Fx a f) tE t0 e1 p1 p2;refine⟨U9 a f,?_,Fx _ _,λt=>by rw[U6];rfl⟩;simp only[VP];rw[if_pos hi,Ed (by omega) (Uv b1 (by omega))];rfl
 |
  f::g::fs,i,a,E,hi,ta,tE,tf,hE=>by
  have e0:∀t,Ux (M3 (f::g::fs)) t=Ux f t*Ux (M3 fs) t:=λt=>by simp only[M3];rw[U6]
  have e1:∀t,Ux p0 t=Ux (U9 a f) t*Ux (U9 (M3 fs) E) t:=λt=>by rw[hE,e0,U6,U6];grind
  have b1:=D2 b0 l0 t0 (Fx a f) (Fx _ _) z0 e1;obtain⟨p1,p2⟩:=G7 t0 z0 e1;have hl:=Rv (Fx a f) (Fx _ _) t0 e1 p1 p2;obtain⟨o,o1,o2,o3⟩:=JM b0 l0 t0 z0 hs fs (i+2) (U9 a f) E (by omega) (Fx _ _) tE (λx hx=>tf x (by simp[hx])) λt=>by rw[hE,e0,U6];grind
  refine⟨o,?_,o2,λt=>by rw[o3,e0,U6];grind⟩;have h1:VP (i+1) (U9 a f) (g::fs)=VP (i+2) (U9 a f) fs:=by
   show(if (i+1) % 2=0 then _ else _)=_;rw[if_neg (by omega)]
  show(if i % 2=0 then(LZ (U9 a f)).bind λq=>VP (i+1) q (g::fs)else _)=_;rw[if_pos hi,Ed (by omega) (Uv b1 (by omega))];exact h1.trans o1
structure Parts(p q o:List Int):Prop where
 sq:∃g,Sqp (U5 p) g q
 ws:∃ws:List (List Int),(∀w∈ws,Pr1 w/\Bu (cz w) (cz q))/\∀t,Ux (U5 p) t=ev (Ix (ws.map cz)) t
 oq:Bu (cz o) (cz q)
 ot:Uz o
 oh:∃h,Uz h/\∀t,Ux (U5 p) t=Ux o t*Ux h t
 os:∃S,∀t,Ux (U5 p) t=Ux o t*(ev S t*ev S t)
theorem xH{n s:Nat}{p:Um}(h:Okp n s p):∃q o,Sj p=some q/\oN p=some o/\Parts p q o:=by
 obtain⟨pp,hl,hb⟩:=h.pr;have hn:=h.z.1;have De:=h.l;have hs:=eC h.z;obtain⟨g,q,hq,sq⟩:=L6 h;obtain⟨ws,w1,w2⟩:=sV h.z hb (by omega) pp.t pp.n 66 (U5 p) [1] pp (by omega) (by omega) rfl λt=>by rw[G9];grind
 obtain⟨fs,f1,f2,f3⟩:=tM hb (by omega) pp.t pp.n (by omega) ws (U5 p) [1] w2 rfl λt=>by rw[G9];grind
 have hw:=Qpr w2;have hfirst:(∀w∈ws,Pr1 w/\Bu (cz w) (cz q))/\∃E,Uz E/\∀t,Ux q t=Ux (M3 fs) t*Ux E t:=by
  cases ws with
  |
   nil =>
   have e:fs=[]:=by
    cases fs with
    |nil=>rfl
    |cons f l=>exact f2.elim
   subst e;exact⟨(λw hw=>by cases hw),q,sq.pq.t,λt=>by simp only[M3];rw[G9];grind⟩
  |
   cons w ws =>
   have hwq:w=q:=by
    have w3:(if (U5 p).length<2 then some []else(LZ (Fv (U5 p))).bind λd=>(I4 (U5 p) d).bind λh=>(O5 (U5 p) h).bind λw=>(BN 65 h).bind λl=>some (w::l))=some (w::ws):=w1;have hlen:¬(U5 p).length<2:=λh2=>by
     rw[if_pos h2]at w3;injection w3 with w3;cases w3
    rw[if_neg hlen]at w3;unfold Sj at hq;rw[if_neg hlen]at hq;obtain⟨d,d1,w3⟩:=Qi.1 w3;obtain⟨h,d2,w3⟩:=Qi.1 w3;obtain⟨w',d3,w3⟩:=Qi.1 w3;obtain⟨l,d4,w3⟩:=Qi.1 w3;rw[d1]at hq;have hq:(I4 (U5 p) d).bind (λg=>O5 (U5 p) g)=some q:=hq;rw[d2]at hq;have hq:O5 (U5 p) h=some q:=hq;rw[d3]at hq;injection hq with hq;injection w3 with w3;injection w3 with w3 _;rw[<-w3,hq]
   subst hwq;have hall:=BD w2;exact⟨hall,FO f2 f3 λv hv=>(hall v hv).1.t⟩
 obtain⟨ha,E,tE,hE⟩:=hfirst;obtain⟨o,o1,o2,o3⟩:=JM hb (by omega) pp.t pp.n (by omega) fs 0 [1] (U9 E g) rfl rfl (Fx _ _) f3 λt=>by rw[G9,U6,sq.e,hE];grind
 have o3:∀t,Ux o t=Ux (M3 fs) t:=λt=>by rw[o3,G9];grind
 refine⟨q,o,hq,?_,⟨g,sq⟩,⟨ws,ha,hw⟩,⟨cz E,λt=>by rw[Uy,Uy,Uy,hE,o3]⟩,o2,⟨U9 E g,Fx _ _,λt=>by rw[sq.e,hE,o3,U6];grind⟩,?_⟩
 ·unfold oN;rw[if_neg pp.n,w1];show(tP ws).bind _=_;rw[f1];exact o1
 ·obtain⟨S,hS⟩:=dN f2;exact⟨S,λt=>by rw[hw,hS,wP,o3]⟩
theorem bH{s:Nat}:∀(k:Nat) (a b:Um),Uz a->Uz b->b.length≠0->b.length<k->b.length<a.length->a.length<=60->Bd s a->Bd s b->(s+8)*3^(a.length-1)<=16777216->(∀d,Bu d (cz a)->Bu d (cz b)->∃c:Rat,c≠0/\∀t,ev d t=c)->∃l,LQ k a b=some (b::l)/\SCl (cz a) (cz b) (l.map cz)
 | 0,_,_,_,_,_,h,_,_,_,_,_,_=>by omega
 |
  k+1,a,b,ta,tb,hb,hk,hab,hl,ba,bb,hs,hd=>by
  obtain⟨h1,h2,h3,u,v,up,vp,X,hX⟩:=UY ta tb hb hl;have h3:=h3 s ba bb;obtain⟨m,hm⟩:=nmE (a.length-b.length);have e1:a.length+1-b.length=m+1:=by omega
  rw[e1]at h3;have e2:s+(m+1)*(s+8)+8=(m+2)*(s+8):=by
   rw[show m+2=(m+1)+1 by omega,Xa (m+1)];omega
  have e3:(m+2)*(s+8)*3^(b.length-1)<=(s+8)*3^(a.length-1):=by
   rw[show a.length-1=m+(b.length-1) by omega,Xc,<-Xk,Zg (s+8)];exact Qw _ (Qw _ (Qk5 m (by omega)))
  have e4:s+(m+1)*(s+8)<=16777216:=by
   have:(m+2)*(s+8)<=(m+2)*(s+8)*3^(b.length-1):=Jr _ (Zu (by decide));omega
  simp only[LQ];rw[if_neg hb,Ed (by omega) (Uv h3 e4)];show ∃l,((LQ k b (P0 (Ha a b))).bind λl=>some (b::l))=some (b::l)/\_;have lneg:(P0 (Ha a b)).length<=(Ha a b).length:=B9 _;by_cases hr:(Ha a b).length=0
  ·have e:P0 (Ha a b)=[]:=Qh (by omega);rw[e];refine⟨[],?_,?_⟩
   ·obtain⟨j,rfl⟩:∃j,k=j+1:=⟨k-1,by omega⟩;rfl
   ·obtain⟨c,hc,hcc⟩:=hd (cz b) ⟨Pv (1 / u) X,λt=>by
     have:=hX t;rw[Np hr]at this;have hu:1 / u*u=1:=Gd up;rw[Uy,Uy,Fq];have:Ux a t=1 / u*(u*Ux a t):=by grind
     rw[this,hX,Np hr];grind⟩ (dvd_refl _)
    exact .base hc hcc
  ·have tn:Uz (P0 (Ha a b)):=U7 _ _;have hn0:(P0 (Ha a b)).length≠0:=λh0=>by
    have:=Lj (c:=-1) h1 tn (by decide) λt=>by rw[I1];grind
    omega
   obtain⟨l,i1,i2⟩:=bH (s:=s+(m+1)*(s+8)) k b (P0 (Ha a b)) tb tn hn0 (by omega) (by omega) (by omega) (Uv bb (by omega)) (Oe h3) (by rw[e2];omega) λd d1 d2=>by
    refine hd d ?_ d1;obtain⟨y,hy⟩:=d1;obtain⟨z,hz⟩:=d2;have hu:1 / u*u=1:=Gd up;refine⟨Pv (1 / u) (Rf (Gj X y) (Pv (-v) z)),λt=>?_⟩;have a1:=hX t;have a2:=hy t;have a3:=hz t;rw[Uy]at a2 a3;rw[I1]at a3;rw[Uy,Fq,Fu,U3,Fq];have:Ux a t=1 / u*(u*Ux a t):=by grind
    rw[this,a1,a2,show Ux (Ha a b) t=-(ev d t*ev z t) by grind];grind
   refine⟨P0 (Ha a b)::l,by rw[i1];rfl,?_⟩;rw[Z0];exact .step (q:=X) up vp (λt=>by rw[Uy,Uy,Uy,hX,I1];clear i2 i1 hd h3 hs;grind) i2
theorem KV(x:Rat):∀(l:Un) (n:Nat) (s:Int),(l.foldl (Pg λp=>Fy p x) (n,s)).1=n+tc x s (l.map cz)
 | [],n,s=>rfl
 |
  p::l,n,s=>by
  simp only[Xl,Z0,tc,Pg];rw[H7,Uy]
  split
  ·exact KV x l n s
  ·rw[KV x l]
   split <;> omega
theorem QQ(l:Un)(x:Rat):Me l x=vv (l.map cz) x:=by
 have:=KV x l 0 0;unfold Me I7 vv;rw[this];omega
theorem Qc4{n s:Nat}(hz:aX n (s+73)){P g q:Um}(sq:Sqp P g q)(lq:q.length<=n)(bq:Bd (s+69) q):∃d,LZ (Fv q)=some d/\∃l,LQ 66 q (U5 d)=some l/\YH (cz q) ((q::l).map cz)/\(q.length<2->l=[]):=by
 have hn:=hz.1;have hs:=eC hz;have bd:=FK bq (by omega);have ld:=Tq q;refine⟨Fv q,Ed (by omega) (Uv bd (by omega)),?_⟩;have hq0:=sq.pq.n;by_cases h2:q.length<2
 ·have e:U5 (Fv q)=[]:=by rw[Qh (l:=Fv q) (by omega)];rfl
  rw[e];refine⟨[],rfl,.inl ⟨1,by decide,λt=>?_,rfl⟩,λ_=>rfl⟩;rw[Uy,sq.pq.one h2,G9]
 ·have hdnz:(Fv q).length≠0:=λh=>by
   have h1:=Pa q (q.length-2);rw[Qh h,show q.length-2+1=q.length-1 by omega]at h1;have h3:q.getD (q.length-1) 0≠0:=Hk sq.pq.t (by omega);rcases Jy.1 (h1.symm.trans (by simp))with h4|h4
   ·exact h3 h4
   ·omega
  obtain⟨p1,p2,p3,p4,p5,p6,p7⟩:=Pe (p:=Fv q) (U7 _ _) hdnz;have hdl:U8 (Fv q)=U8 q*((q.length-1:Nat):Int):=by
   have hld:(Fv q).length=q.length-1:=by
    rcases Q9 (Fv q).length (q.length-1)with h|h
    ·have h1:=Pa q (q.length-2);rw[Qd,Qx (by omega),show q.length-2+1=q.length-1 by omega]at h1;have h3:q.getD (q.length-1) 0≠0:=Hk sq.pq.t (by omega);rcases Jy.1 (h1.symm.trans (by simp))with h4|h4
     ·exact absurd h4 h3
     ·omega
    ·omega
   unfold U8;rw[hld,Pa,show q.length-1-1+1=q.length-1 by omega]
  have hfac:0<G0 (Fv q):=by
   have hlp:0<U8 (Fv q):=by rw[hdl];exact W8 sq.pq.l (by omega)
   have hc:=Iz (p:=Fv q) (U7 _ _) hdnz;unfold G0;rw[if_neg (by omega)];unfold S9 at hc ⊢;omega
  have hfq:((0:Int):Rat)<(G0 (Fv q):Rat):=X8.2 hfac;have hfq:(0:Rat)<(G0 (Fv q):Rat):=by simpa using hfq
  have hff:1 / (G0 (Fv q):Rat)*(G0 (Fv q):Rat)=1:=Gd hfq;have hz2:=hz.2;have hp3:(s+73+8)*3^(q.length-1)<=16777216:=by
   have:(s+73+8)*3^(q.length-1)<=(s+73+8)*3^(n-1):=Zd _ (Zo (by decide) (by omega));rw[Xk]at hz2;omega
  obtain⟨l,h3,h4⟩:=bH (s:=s+73) 66 q (U5 (Fv q)) sq.pq.t p1 (by omega) (by omega) (by omega) (by omega) (Uv bq (by omega)) (p5 _ bd) hp3 λd d1 d2=>sq.num d1 (by
   obtain⟨z,hz⟩:=d2;exact⟨Pv (G0 (Fv q)) z,λt=>by
    have:=hz t;rw[Uy]at this;rw[Rl,<-Ni,p7,this,Fq];grind⟩)
  refine⟨U5 (Fv q)::l,h3,.inr ⟨cz (U5 (Fv q)),l.map cz,1 / (G0 (Fv q):Rat),C4 (by decide) hfq,λt=>?_,h4,rfl⟩,λh=>absurd h h2⟩;rw[Uy,<-Ni,p7 t];grind
theorem chain_ok{n s:Nat}{p:Um}(h:Okp n s p):∃q l,Sj p=some q/\chain p=some (q::l)/\YH (cz q) ((q::l).map cz)/\(q.length<2->l=[]):=by
 obtain⟨pp,hl,hb⟩:=h.pr;have hn:=h.z.1;have De:=h.l;obtain⟨g,q,hq,sq⟩:=L6 h;have e1:∀t,Ux (U5 p) t=Ux q t*Ux g t:=λt=>by rw[sq.e];grind
 obtain⟨p1,p2⟩:=G7 pp.t pp.n e1;have hll:=Rv sq.pq.t sq.pg.t pp.t e1 p1 p2;obtain⟨d,d1,l,d2,d3⟩:=Qc4 h.z sq (by omega) (D2 hb (by omega) pp.t sq.pq.t sq.pg.t pp.n e1);refine⟨q,l,hq,?_,d3⟩;unfold chain;rw[hq];show(if q.length=0 then none else _)=_;rw[if_neg sq.pq.n,d1];show(LQ 66 q (U5 d)).bind _=_;rw[d2];rfl
theorem wR{c x y:Rat}(hc:0<c)(h:c*x=c*y):x=y:=by
 have h1:1 / c*c=1:=Gd hc;have e:∀z:Rat,z=1 / c*(c*z):=λz=>by grind
 rw[e x,h,<-e y]
theorem EP(p:Um):∀i,i<=p.length->Af p i=Hx (p.take i)
 | 0,_=>rfl
 |
  i+1,h=>by
  have hx:p[i]? = some (p.getD i 0):=by rw[Qd,Qe (by omega)];rfl
  rw[GW hx,<-EP p i (by omega)];rfl
theorem Qje(p:Um):((Orr.cont p:Nat):Int)=S9 p:=by
 unfold Orr.cont S9;rw[EP p _ (Nat.le_refl _),List.take_length]
theorem Qft(p:Um):Fi p=U8 p:=rfl
theorem Qdz(p:Um):Mz p=G0 p:=by unfold Mz G0;rw[Qje,Qft]
theorem VC(p:Um)(k:Nat):(Hg p).getD k 0=p.getD k 0 / G0 p:=by
 unfold Hg;rw[Tz,Qdz]
 split
 ·rfl
 ·rename_i h;rw[G6 (by omega),Int.zero_ediv]
theorem Gn(p:Um):Hg p=U5 p:=by
 unfold U5
 split
 ·rename_i h;rw[List.eq_nil_of_length_eq_zero h];rfl
 ·exact UM (DD p) (Hj _) λk=>by rw[VC,Nx]
theorem uS(p:Um)(k:Nat):(Rr p).getD k 0=p.getD k 0 / S9 p:=by
 unfold Rr
 split
 ·rename_i h;rw[IP,VC];have:G0 p=-S9 p:=if_pos h;rw[this,Int.ediv_neg,Int.neg_neg]
 ·rename_i h;rw[VC];have:G0 p=S9 p:=if_neg h;rw[this]
theorem TA(p:Um):Uz (Rr p):=by
 unfold Rr;split
 ·exact U7 _ _
 ·exact DD p
theorem TF(p:Um):Rr p=Ev p:=by
 unfold Ev
 split
 ·rename_i h;rw[List.eq_nil_of_length_eq_zero h];rfl
 ·exact UM (TA p) (Hj _) λk=>by rw[uS,Nx]
theorem IM{p:Um}(tp:Uz p)(h:p.length≠0):Prm (Ev p):=λd hd=>by
 refine(Pe tp h).2.2.1 d λk=>?_
 have h1:=hd k;unfold Ev at h1;rw[if_neg h,Nx]at h1;unfold U5;rw[if_neg h,Nx];unfold G0
 split
 ·rw[Int.ediv_neg];exact Int.dvd_neg.2 h1
 ·exact h1
theorem vO{a b c:Int}(h:Nat.Coprime a.natAbs b.natAbs)(h2:a∣b*c):a∣c:=Xn.1 (h.dvd_of_dvd_mul_left (by rw[<-J5];exact Xn.2 h2))
theorem HJ{p q:Um}(tp:Uz p)(tq:Uz q)(hp:Prm p)(hq:Prm q){c:Rat}(hc:0<c)(h:∀t,Ux p t=c*Ux q t):p=q:=by
 have hd:=c.den_nz;have hd0:((c.den:Int):Rat)≠0:=A0 (by omega);have e:c*((c.den:Int):Rat)=(c.num:Rat):=by
  have h1:(c.num:Rat) / ((c.den:Int):Rat)=c:=by rw[Hp,Zy]
  have h2:(c.num:Rat) / ((c.den:Int):Rat)*((c.den:Int):Rat)=(c.num:Rat):=Zh hd0;rw[h1]at h2;exact h2
 have hk:∀k,(c.den:Int)*p.getD k 0=c.num*q.getD k 0:=λk=>by
  have:=Ce (p:=Fc p (c.den:Int)) (q:=Fc q c.num) (λt=>by
   rw[Tj,Tj,h,<-e];grind) k
  rw[Ty,Ty]at this;rw[Vy,this,Vy]
 have d1:(c.den:Int)∣1:=hq _ λk=>vO (a:=(c.den:Int)) (b:=c.num) (by simpa using c.reduced.symm) (by rw[<-hk k];exact Vu _ _)
 have d2:c.num∣1:=hp _ λk=>vO (a:=c.num) (b:=(c.den:Int)) (by simpa using c.reduced) (by rw[hk k];exact Vu _ _)
 have p1:0<c.num:=by
  have h0:=Rat.num_nonneg.2 (Qm hc);rcases Int.lt_or_eq_of_le h0 with h1|h1
  ·exact h1
  ·exfalso;rw[<-h1]at e;have e0:((0:Int):Rat)=0:=rfl;rw[e0]at e;rcases Jn.1 e with h2|h2
   ·grind
   ·exact hd0 h2
 have e1:=Int.le_of_dvd (by decide) d1;have e2:=Int.le_of_dvd (by decide) d2;have n1:c.num=1:=by omega
 have n2:(c.den:Int)=1:=by omega
 refine UM tp tq λk=>?_
 have:=hk k;rw[n1,n2]at this;omega
theorem Qah{a b:Um}(hb:b.length<=a.length):Aq a b=str b ((U8 b).natAbs:Int) (a.length-b.length) (Du a b) a:=by
 refine UM (U7 _ _) (U7 _ _) λk=>?_
 unfold Aq str;rw[Tz,C7,Ty,xQ]
 split
 ·rfl
 ·rename_i h;rw[G6 (p:=a) (by omega),Yd,if_pos (by omega),G6 (p:=b) (by omega),Vz];rfl
theorem Qgn{a b:Um}(hb:b.length<=a.length)(t:Rat):(((U8 b).natAbs:Int):Rat)*Ux a t=((Du a b:Int):Rat)*t^(a.length-b.length)*Ux b t+Ux (Aq a b) t:=by
 rw[Qah hb];exact Qhf _ _ _ _ _ _
theorem Qag{a b:Um}(hb0:b.length≠0)(hb:b.length<=a.length):(Aq a b).length<a.length:=by
 have h:=zM (p:=Aq a b) (n:=a.length-1) (U7 _ _) (Qc (Ef _ _) (by omega)) (by
  unfold Aq D7;rw[Tz,if_pos (by omega),if_pos (by omega),show a.length-1-(a.length-b.length)=b.length-1 by omega];show Fi a*((Fi b).natAbs:Int)-Du a b*Fi b=0;unfold Du
  split
  ·rw[show((Fi b).natAbs:Int)=-Fi b by omega,Kb,Vo];omega
  ·rw[show((Fi b).natAbs:Int)=Fi b by omega];omega)
 omega
theorem Qgm{a b:Um}{s t:Nat}(ha:Bd s a)(hb:Bd t b):Bd (s+t+1) (Aq a b):=Oc λi _=>by
 have h1:=Fh ha i;have h2:Ff ((Fi b).natAbs:Int)<=t:=by
  have h:Ff (Fi b)<=t:=Fh hb (b.length-1);rw[Tg]at h ⊢;rw[Zr];exact h
 have h3:Ff (Du a b)<=s:=by
  have:=Fh ha (a.length-1);unfold Du
  split
  ·rw[Hy];exact this
  ·exact this
 have h4:=Ga (a.getD i 0) ((Fi b).natAbs:Int);unfold D7
 split
 ·have h5:=Ga (Du a b) (b.getD (i-(a.length-b.length)) 0);have h6:=Fh hb (i-(a.length-b.length));have:=dR (a.getD i 0*((Fi b).natAbs:Int)) (Du a b*b.getD (i-(a.length-b.length)) 0);omega
 ·rw[Int.sub_zero];omega
theorem PD{b:Um}(tb:Uz b)(hb:b.length≠0){t:Nat}(bb:Bd t b):∀(k:Nat) (a:Um) (s:Nat),a.length<b.length+k->Uz a->a.length<=60->Bd s a->s+k*(t+1)<=9000000->t<=9000000 ->
 ∃n r,RRun b n a r/\Uz r/\r.length<b.length/\Bd (s+k*(t+1)) r/\∃(u:Rat) (X:Up),0<u/\∀x,u*Ux a x=ev X x*Ux b x+Ux r x
 | 0,a,s,hl,ta,_,ba,_,_=>⟨0,a,.stop (by omega),ta,by omega,by rw[Yh];exact ba,1,[],by decide,λx=>by simp only[ev];grind⟩
 |
  k+1,a,s,hl,ta,h6,ba,hs,ht=>by
  rcases Q9 a.length b.length with h|h
  ·exact⟨0,a,.stop h,ta,h,Uv ba (by omega),1,[],by decide,λx=>by simp only[ev];grind⟩
  ·have h1:=Qag hb h;have e:s+t+1+k*(t+1)=s+(k+1)*(t+1):=by rw[Xa];omega
   obtain⟨n,r,r1,r2,r3,r4,u,X,hu,hX⟩:=PD tb hb bb k (Aq a b) (s+t+1) (by omega) (U7 _ _) (by omega) (Qgm ba bb) (by omega) ht;have hlp:((0:Int):Rat)<(((U8 b).natAbs:Int):Rat):=X8.2 (by have:=B8 tb hb;omega);have hlp:(0:Rat)<(((U8 b).natAbs:Int):Rat):=by simpa using hlp
   refine⟨n+1,r,.step h (by omega) (Uv ba (by omega)) (Uv bb ht) r1,r2,r3,by rw[<-e];exact r4,u*(((U8 b).natAbs:Int):Rat),Rf (Pv (u*((Du a b:Int):Rat)) (cz (mono (a.length-b.length) 1))) X,Yz hu hlp,λx=>?_⟩;have g1:=Qgn h x;have g2:=hX x;rw[Fu,Fq,Uy,I0];have e1:((1:Int):Rat)=1:=rfl;rw[e1];have:u*(((U8 b).natAbs:Int):Rat)*Ux a x=u*((((U8 b).natAbs:Int):Rat)*Ux a x):=by grind
   rw[this,g1];grind
theorem Qlp{a b r:Um}(ta:Uz a)(tb:Uz b)(hb:b.length≠0)(hl:a.length<=60)(tr:Uz r)(hr:r.length<b.length){u:Rat}{X:Up}(hu:0<u)(hX:∀x,u*Ux a x=ev X x*Ux b x+Ux r x):Rr r=Ha a b:=by
 obtain⟨h1,h2,_,u',v',up,vp,X',hX'⟩:=UY ta tb hb hl;have key:∀x,ev (Rf (Pv (u*v') (cz (Ha a b))) (Pv (-u') (cz r))) x=ev (Gj (Rf (Pv u' X) (Pv (-u) X')) (cz b)) x:=λx=>by
  have g1:=hX x;have g2:=hX' x;rw[Fu,Fq,Fq,U3,Fu,Fq,Fq,Uy,Uy,Uy];have k1:u'*(u*Ux a x)=u'*(ev X x*Ux b x+Ux r x):=by rw[g1]
  have k2:u*(u'*Ux a x)=u*(ev X' x*Ux b x+v'*Ux (Ha a b) x):=by rw[g2]
  grind
 have hz:∀x,ev (Rf (Pv u' X) (Pv (-u) X')) x=0:=by
  rcases RL (Rf (Pv u' X) (Pv (-u) X'))with h|⟨m,_,h⟩
  ·exact h
  ·exfalso;have hm:=GH h (YC tb (by omega));have h3:=(Qem (λt=>(key t).symm) hm).1;rw[Rj,Tp,Tp,Po,Po,G6 (p:=Ha a b) (by omega),G6 (p:=r) (by omega)]at h3;have e0:((0:Int):Rat)=0:=rfl;rw[e0]at h3;exact h3 (by grind)
 have hpr:∀x,Ux r x=u*v' / u'*Ux (Ha a b) x:=λx=>by
  have g:=key x;rw[U3,hz x,Fu,Fq,Fq,Uy,Uy]at g;have hd:u*v' / u'*u'=u*v':=Gd up;have hne:u'≠0:=by grind
  have:u'*Ux r x=u'*(u*v' / u'*Ux (Ha a b) x):=by
   have e:u'*(u*v' / u'*Ux (Ha a b) x)=(u*v' / u'*u')*Ux (Ha a b) x:=by grind
   rw[e,hd];grind
  exact wR up this
 have hcp:0<u*v' / u':=C4 (Yz hu vp) up;rw[TF];have hlen:=Lj tr h1 (by grind:u*v' / u'≠0) hpr;by_cases h0:r.length=0
 ·rw[Qh h0,Qh (l:=Ha a b) (by omega)];rfl
 ·obtain⟨c,cp,hc⟩:=uY tr;have hcn:c≠0:=by grind
  have hp2:Prm (Ha a b):=by
   unfold Ha at hlen ⊢;have ht:Uz (M4 a b (Mc a b)):=by
    unfold M4;split
    ·exact U7 _ _
    ·exact(xA hb _ _ _ ta (by omega)).1
   refine IM ht λe=>?_
   rw[Qh e]at hlen;exact h0 hlen
  have tn:Uz (Ev r):=by rw[<-TF];exact TA r
  refine HJ tn h1 (IM tr h0) hp2 (c:=u*v' / u' / c) (C4 hcp cp) λt=>?_
  have g1:=hc t;have g2:=hpr t;have hd:u*v' / u' / c*c=u*v' / u':=Gd cp;refine wR cp ?_;have e:c*(u*v' / u' / c*Ux (Ha a b) t)=(u*v' / u' / c*c)*Ux (Ha a b) t:=by grind
  rw[e,hd,<-g1,g2]
theorem Ch{p:Um}(h:Pr1 p):U5 p=p:=by
 obtain⟨h1,h2,h3,h4,_,h6,h7⟩:=Pe h.t h.n;have hl:=h.l;have hc:0<G0 p:=by
  have:=Iz h.t h.n;unfold G0;rw[if_neg (by omega)];unfold S9 at this ⊢;omega
 have hq:((0:Int):Rat)<(G0 p:Rat):=X8.2 hc;exact(HJ h.t h1 h.m h3 (c:=(G0 p:Rat)) (by simpa using hq) h7).symm
theorem XS{r:Um}(tr:Uz r):(U5 r).length=r.length/\((U5 r).length=0\/Pr1 (U5 r)):=by
 by_cases h:r.length=0
 ·rw[Qh h];exact⟨rfl,.inl rfl⟩
 ·exact⟨(Pe tr h).2.1,.inr (oC tr h)⟩
theorem HM{s m lb la:Nat}(e:la-1=m+(lb-1))(hm:1<=m)(hs:(s+8)*3^(la-1)<=9000000):(s+(m+1)*(s+8)+8)*3^(lb-1)<=9000000/\s+(m+1)*(s+8)<=9000000:=by
 have e2:s+(m+1)*(s+8)+8=(m+2)*(s+8):=by
  rw[show m+2=(m+1)+1 by omega,Xa (m+1)];omega
 have e3:(m+2)*(s+8)*3^(lb-1)<=(s+8)*3^(la-1):=by
  rw[e,Xc,<-Xk,Zg (s+8)];exact Qw _ (Qw _ (Qk5 m hm))
 have:(m+2)*(s+8)<=(m+2)*(s+8)*3^(lb-1):=Jr _ (Zu (by decide));exact⟨by rw[e2];omega,by omega⟩
theorem fQ{a b:Um}{s:Nat}(ta:Uz a)(tb:Uz b)(hb:b.length≠0)(hab:b.length<a.length)(hl:a.length<=60)(ba:Bd s a)(bb:Bd s b)(hs:(s+8)*3^(a.length-1)<=9000000) :
 ∃n r,RRun b n a r/\Uz r/\r.length<b.length/\Bd (s+(a.length-b.length+1)*(s+8)) r/\Rr r=Ha a b/\∃(u:Rat) (X:Up),0<u/\∀x,u*Ux a x=ev X x*Ux b x+Ux r x:=by
 obtain⟨k1,k2⟩:=HM (s:=s) (m:=a.length-b.length) (lb:=b.length) (la:=a.length) (by omega) (by omega) hs;have h1:(a.length-b.length+1)*(s+1)<=(a.length-b.length+1)*(s+8):=Zd _ (by omega);obtain⟨n,r,r1,r2,r3,r4,u,X,hu,hX⟩:=PD tb hb bb (a.length-b.length+1) a s (by omega) ta hl ba (by omega) (by omega);exact⟨n,r,r1,r2,r3,Uv r4 (by omega),Qlp ta tb hb hl r2 r3 hu hX,u,X,hu,hX⟩
theorem zW:∀(k:Nat) (a b:Um) (s:Nat),b.length<k->Pr1 a->(b.length=0\/Pr1 b)->Uz b->b.length<a.length->a.length<=60->Bd s a->Bd s b->(s+8)*3^(a.length-1)<=9000000 ->
 ∃n g,GRun n a b g/\Pr1 g/\Bu (cz g) (cz a)/\Bu (cz g) (cz b)/\∀d,Bu d (cz a)->Bu d (cz b)->Bu d (cz g)
 | 0,_,_,_,h,_,_,_,_,_,_,_,_=>by omega
 |
  k+1,a,b,s,hk,pa,pb,tb,hab,hl,ba,bb,hs=>by
  rcases pb with h0|pb
  ·rw[Qh h0];exact⟨0,a,.stop a,pa,dvd_refl _,⟨[],λt=>by simp only[cz,Ja,ev];grind⟩,λ_ h _=>h⟩
  ·have hb:=pb.n;obtain⟨n,r,r1,r2,r3,r4,_,u,X,hu,hX⟩:=fQ pa.t tb hb hab hl ba bb hs;obtain⟨k1,k2⟩:=HM (s:=s) (m:=a.length-b.length) (lb:=b.length) (la:=a.length) (by omega) (by omega) hs;obtain⟨p1,p2⟩:=XS r2;obtain⟨_,p3,p4,c,c1,c2⟩:=Mn r2;have tp:Uz (U5 r):=by
    rcases p2 with h|h
    ·rw[Qh h];rfl
    ·exact h.t
   obtain⟨j,g,g1,g2,g3,g4,g5⟩:=zW k b (U5 r) (s+(a.length-b.length+1)*(s+8)) (by omega) pb p2 tp (by omega) (by omega) (Uv bb (by omega)) (p4 _ r4) k1;refine⟨j+1,g,.step (by omega) (by omega) (Uv bb (by omega)) r1 (by omega) (Uv r4 k2) r2 (by rw[Gn];exact g1),g2,?_,g3,λd ⟨y,hy⟩ ⟨z,hz⟩=>g5 d ⟨z,hz⟩ ((Lr c1 c2).1 ⟨Rf (Pv u y) (Pv (-1) (Gj X z)),λt=>by
    have a1:=hX t;have a2:=hy t;have a3:=hz t;rw[Uy]at a2 a3 ⊢;rw[Fu,Fq,Fq,U3];have:Ux r t=u*Ux a t-ev X t*Ux b t:=by grind
    rw[this,a2,a3];grind⟩)⟩
   obtain⟨y,hy⟩:=g3;obtain⟨z,hz⟩:=g4;have hu1:1 / u*u=1:=Gd hu;refine⟨Pv (1 / u) (Rf (Gj X y) (Pv c z)),λt=>?_⟩;have a1:=hX t;have a2:=hy t;have a3:=hz t;have a4:=c2 t;rw[Uy]at a2 a3 ⊢;rw[Fq,Fu,U3,Fq];have:Ux a t=1 / u*(u*Ux a t):=by grind
   rw[this,a1,a2,a4,a3];grind
theorem pU{c:Int}(h:c≠0):Fc [1] c=[c]:=by
 show Mt 1 _=_;rw[Eg,VQ];show(if 1*c=0 then _ else [1*c])=_;rw[Yy,if_neg h]
theorem mK(k:Nat)(c:Int)(i:Nat):(Tk k [c]).getD i 0=if i=k then c else 0:=by
 unfold Tk;rw[Qd];rcases Vw i k with h|h|h
 ·rw[Q6 (by simpa using h),if_neg (by omega)];simp[h]
 ·subst h;rw[Zp (by simp)];simp
 ·rw[Qx (by simp;omega),if_neg (by omega)];rfl
theorem NP:∀(k:Nat) (a q p:Um),a.length<=k->Uz a->a.length<=60->Bd 9000000 a->a.length<=q.length->q.length=p.length->(∀i,i<a.length->a.getD i 0=p.getD i 0)->(∀i,i<a.length->q.getD i 0=0)->(∀i,a.length<=i->q.getD i 0=p.getD i 0)->∃n,DRun [1] n a q p []
 |
  0,a,q,p,h,_,_,_,_,hq,_,_,h3=>by
  have e:=Qh (l:=a) (by omega);subst e;have e2:q=p:=by
   refine List.ext_getElem hq λi h1 h2=>?_
   have:=h3 i (by simp);rw[Qd,Qd,Qe h1,Qe h2]at this;exact this
  rw[e2];exact⟨0,.stop (by decide)⟩
 |
  k+1,a,q,p,h,ta,h6,ba,haq,hq,h1,h2,h3=>by
  by_cases h0:a.length=0
  ·exact NP k a q p (by omega) ta h6 ba haq hq h1 h2 h3
  ·have hlead:Fi a≠0:=Hk ta (by omega);have hp1:Fi [1]=1:=rfl;have e1:Su a (Tk (a.length-1) (Fc [1] (Fi a / Fi [1])))=Su a (Tk (a.length-1) [Fi a]):=by
    rw[hp1,Vx,pU hlead]
   have g:∀i,(Su a (Tk (a.length-1) [Fi a])).getD i 0=if i=a.length-1 then 0 else a.getD i 0:=λi=>by
    rw[C7,mK]
    split
    ·rename_i e;subst e;exact Int.sub_self _
    ·rw[Int.sub_zero]
   have ll:(Su a (Tk (a.length-1) [Fi a])).length<=a.length-1:=by
    refine zM (U7 _ _) (Qc (Px _ _) ?_) (by rw[g,if_pos rfl]);rw[KZ];simp;omega
   have gz:∀i,(Su a (Tk (a.length-1) [Fi a])).length<=i->i<a.length-1->a.getD i 0=0:=λi k1 k2=>by
    have:=g i;rw[G6 k1,if_neg (by omega)]at this;exact this.symm
   have gs:∀i,(q.set (a.length-1) (Fi a)).getD i 0=if i=a.length-1 then Fi a else q.getD i 0:=λi=>by
    rw[Qd,Ji];by_cases e:a.length-1=i
    ·rw[if_pos e,if_pos (by omega),if_pos e.symm];rfl
    ·rw[if_neg e,if_neg (λh=>e h.symm),Qd]
   have hpa:Fi a=p.getD (a.length-1) 0:=h1 _ (by omega);obtain⟨n,hn⟩:=NP k (Su a (Tk (a.length-1) [Fi a])) (q.set (a.length-1) (Fi a)) p (by omega) (U7 _ _) (by omega) (λz hz=>by
    obtain⟨i,hi⟩:=J6 hz;have e:z=(Su a (Tk (a.length-1) [Fi a])).getD i 0:=by rw[Qd,hi];rfl
    rw[e,g]
    split
    ·exact Qg _
    ·exact Fh ba i) (by rw[X2];omega) (by rw[X2];exact hq) (λi hi=>by rw[g,if_neg (by omega)];exact h1 i (by omega)) (λi hi=>by rw[gs,if_neg (by omega)];exact h2 i (by omega)) (λi hi=>by
    rw[gs]
    split
    ·rename_i e;rw[e];exact hpa
    ·rename_i e;by_cases k1:a.length<=i
     ·exact h3 i k1
     ·rw[h2 i (by omega),<-h1 i (by omega),gz i hi (by omega)])
   refine⟨n+1,.step (by show 1<=a.length;omega) (by omega) ba (by decide) (by rw[hp1];exact Ua _) (by show a.length-1<q.length;omega) ?_⟩;show DRun [1] n (Su a (Tk (a.length-1) (Fc [1] (Fi a / Fi [1])))) (q.set (a.length-1) (Fi a / Fi [1])) p [];rw[e1,hp1,Vx];exact hn
theorem cU{p:Um}(tp:Uz p)(hl:p.length<=60)(bp:Bd 9000000 p):DOk p [1] p:=by
 obtain⟨n,hn⟩:=NP p.length p (List.replicate (p.length+1-1) 0) p (Qj _) tp hl bp (by simp) (by simp) (λ_ _=>rfl) (λi _=>Hu _ i) (λi hi=>by rw[Hu,G6 hi]);exact⟨by decide,by decide,by omega,b1 (by decide),p,[],n,bp,by omega,hn,tp.symm⟩
theorem bE:∀(k:Nat) (pre:Un) (a b:Um) (s:Nat) (L:Un),LQ k a b=some L->Uz a->Uz b->b.length<a.length->a.length<=60->Bd s a->Bd s b->(s+8)*3^(a.length-1)<=9000000->pre.length+a.length<=500 ->
 ∃n,CRun n (pre++[a]) b (pre++[a]++L)/\L.length<=b.length
 | 0,_,_,_,_,_,h,_,_,_,_,_,_,_,_=>by cases h
 |
  k+1,pre,a,b,s,L,h,ta,tb,hab,hl,ba,bb,hs,hp=>by
  simp only[LQ]at h
  split at h
  ·rename_i h0;injection h with h;subst h;rw[Xi];exact⟨0,.stop h0,by simp⟩
  ·rename_i h0;obtain⟨r0,hr0,h⟩:=Qi.1 h;obtain⟨l,hl1,h⟩:=Qi.1 h;injection h with h;subst h;have er:r0=Ha a b:=by
    unfold LZ at hr0
    split at hr0
    ·injection hr0 with hr0;exact hr0.symm
    ·cases hr0
   rw[er]at hl1;obtain⟨n,r,r1,r2,r3,r4,r5,_⟩:=fQ ta tb h0 hab hl ba bb hs;obtain⟨k1,k2⟩:=HM (s:=s) (m:=a.length-b.length) (lb:=b.length) (la:=a.length) (by omega) (by omega) hs;have hlp:=O2 r;have hln:=B9 (Rr r);rw[<-r5]at hl1;obtain⟨j,c1,c2⟩:=bE k (pre++[a]) b (P0 (Rr r)) (s+(a.length-b.length+1)*(s+8)) l hl1 tb (U7 _ _) (by omega) (by omega) (Uv bb (by omega)) (Oe (EJ r4)) k1 (by simp;omega);have hlast:S8 (pre++[a])=a:=by unfold S8;simp
   refine⟨j+1,.step (by omega) (by omega) (Uv bb (by omega)) (by rw[hlast];exact r1) r2 (Uv r4 k2) (by omega) (by simp) (by simp;omega) ?_,by simp;omega⟩;have e:pre++[a]++b::l=pre++[a]++[b]++l:=by simp
   rw[e];exact c1
theorem iZ{P g q:Um}{s:Nat}(sq:Sqp P g q)(l2:2<=q.length)(lq:q.length<=9)(bq:Bd s q)(hs:(s+4+8)*3^8<=9000000){L:Un}(hL:LQ 66 q (U5 (Fv q))=some L):FRun q 1 (λ_=>q)/\ChRun q q (q::L):=by
 have pq:=sq.pq;have hpow:(s+4+8)*3^(q.length-1)<=9000000:=Qc (Zd _ (Zo (by decide) (by omega))) hs;have hs9:s+4<=8000000:=by
  have:(s+4+8)*3^8=(s+4+8)*6561:=rfl;omega
 have ld:=Tq q;have bd:Bd (s+4) (Fv q):=FK bq (by omega);obtain⟨p1,p2⟩:=XS (r:=Fv q) (U7 _ _);obtain⟨_,p3,p4,c,c1,c2⟩:=Mn (a:=Fv q) (U7 _ _);have tp:Uz (U5 (Fv q)):=by
  rcases p2 with h|h
  ·rw[Qh h];rfl
  ·exact h.t
 obtain⟨m,h,g1,g2,g3,g4,_⟩:=zW 66 q (U5 (Fv q)) (s+4) (by omega) pq p2 tp (by omega) (by omega) (Uv bq (by omega)) (p4 _ bd) hpow;have hone:h=[1]:=by
  obtain⟨c',_,hc'⟩:=sq.num g3 (by
   obtain⟨z,hz⟩:=g4;exact⟨Pv c z,λt=>by
    have:=hz t;rw[Uy]at this;rw[Rl,<-Ni,c2,this,Fq];grind⟩)
  refine g2.one (W0 λh2=>?_);have hd:=YC g2.t (by omega);have:=B7 (p:=cz h) (q:=[c']) (λt=>by rw[hc' t];simp only[ev];grind) (h.length-1);rw[Qd (l:=[c']),Qx (by simp;omega)]at this;exact hd.1 this
 subst hone;have hpq:=Ch pq;have t1:Uz [1]:=rfl;have dq:=cU pq.t (by omega) (Uv bq (by omega:s<=9000000));have fr:FRun q 1 (λ_=>q):=by
  refine⟨⟨1,[q,[1]],?_,rfl,?_⟩,by decide⟩
  ·rw[Gn,hpq];refine .step (m:=m) (g:=[1]) (by show 1<q.length;omega) (by show q.length<=1000;omega) (by show Uz q;exact pq.t) (by show Bd 9000000 q;exact Uv bq (by omega)) (by show Bd 9000000 (Fv q);exact Uv bd (by omega)) ?_ (by show 1<=1000;decide) ?_
   ·show GRun m (Hg q) (Hg (Fv q)) [1];rw[Gn,Gn,hpq];exact g1
   ·exact .stop (by show 1<=1;decide)
  ·intro k hk;have:k=0:=by omega
   subst this;exact⟨q,[1],q,dq,div_one,by rw[Gn,hpq,uU];exact dq,by rw[Gn,hpq]⟩
 obtain⟨n,c3,c4⟩:=bE 66 [] q (U5 (Fv q)) (s+4) L hL pq.t tp (by omega) (by omega) (Uv bq (by omega)) (p4 _ bd) hpow (by simp;omega);have hsz:Rr (Fv q)=U5 (Fv q):=by
  have hlp:¬Fi (Fv q)<0:=by
   have h1:Fi (Fv q)=U8 q*((q.length-1:Nat):Int):=by
    have hld:(Fv q).length=q.length-1:=by
     refine Kf ld (Yj λh=>?_);have h1:=Pa q (q.length-2);rw[G6 (by omega),show q.length-2+1=q.length-1 by omega]at h1;have h3:q.getD (q.length-1) 0≠0:=Hk pq.t (by omega);rcases Jy.1 h1.symm with h4|h4
     ·exact h3 h4
     ·omega
    unfold Fi U8;rw[hld,Pa,show q.length-1-1+1=q.length-1 by omega]
   have:=W8 pq.l (show(0:Int)<((q.length-1:Nat):Int) by omega);omega
  unfold Rr;rw[if_neg hlp,Gn]
 refine⟨fr,⟨1,λ_=>q,fr,λi hi=>?_,?_⟩,⟨n,?_⟩,Uv bq (by omega),by omega,by simp;omega⟩
 ·have:i=0:=by omega
  subst this;exact⟨b1 (by decide),by show 1<=1000;decide,Uv bq (by omega),show q.length<=1000 by omega⟩
 ·show q=U9 [1] q;rw[IQ pq.t (by omega)]
 ·rw[hsz];exact c3
theorem vC{P g q:Um}{s:Nat}(sq:Sqp P g q)(l2:2<=q.length)(lq:q.length<=9)(bq:Bd s q)(hs:(s+4+8)*3^8<=9000000){L:Un}(hL:LQ 66 q (U5 (Fv q))=some L):ChRun q q (q::L):=(iZ sq l2 lq bq hs hL).2
theorem lU(p q:Um)(x:Rat):Ux (p++q) x=Ux p x+x^p.length*Ux q x:=by
 induction p with
 |nil=>simp only[Jl,Ux,Y5,Xh];grind
 |cons a p ih=>simp only[Xf,Ux,Zc,ih,Z9];grind
theorem pZ(k:Nat)(x:Rat):Ux (List.replicate k 0) x=0:=by
 induction k with
 |zero=>rfl
 |succ k ih=>rw[Jx];simp only[Ux,ih];push_cast;grind
theorem sA(k:Nat)(p:Um)(x:Rat):Ux (Tk k p) x=x^k*Ux p x:=by
 unfold Tk;rw[lU,pZ,X1];grind
theorem cT{b:Um}(tb:Uz b)(hb:b.length≠0)(lb:b.length<=60){s t:Nat}(bb:Bd t b)(hst:t+s+6<=9000000):∀(k:Nat) (a h q H:Um),h.length<=k->Uz a->Uz h->(∀x,Ux a x=Ux b x*Ux h x)->a.length<=60->Bd s h->h.length<=q.length->q.length=H.length->(∀i,i<h.length->h.getD i 0=H.getD i 0)->(∀i,i<h.length->q.getD i 0=0)->(∀i,h.length<=i->q.getD i 0=H.getD i 0)->∃n,DRun b n a q H []
 |
  k,a,[],q,H,_,ta,_,e,_,_,_,hq,_,_,h3=>by
  have ea:a=[]:=Ao ta rfl λx=>by rw[e];simp only[Ux];grind
  have eq:q=H:=Xu λi=>by
   by_cases hi:i<q.length
   ·have:=h3 i (Qg _);rw[Qd,Qd,Qe hi,Qe (by omega)]at this;rw[Qe hi,Qe (by omega)];exact congrArg some this
   ·rw[Qx (by omega),Qx (by omega)]
  rw[ea,eq];exact⟨0,.stop (by show 0<b.length;omega)⟩
 | 0,a,c::h,q,H,hk,_,_,_,_,_,_,_,_,_,_=>by simp at hk
 |
  k+1,a,c0::h0,q,H,hk,ta,th,e,hl,bh,hlq,hq,h1,h2,h3=>by
  obtain⟨h,hh⟩:=nmE (c0::h0);rw[<-hh]at hk th e bh hlq h1 h2 h3;have hpos:0<h.length:=by rw[hh];simp
  have ane:a.length≠0:=λh'=>by
   have:=NQ (p:=cz b) (q:=cz h) (r:=[]) (λh0=>QK tb (by omega) λt=>by rw[<-Uy];exact h0 t) (λt=>by rw[Uy,Uy,<-e,Np h'];simp only[ev];grind);exact QK th hpos λt=>by rw[<-Uy];have:=this t;rw[this];rfl
  have hln:=Rv tb th ta e (by omega) hpos;have hld:=ZO tb th ta e (by omega) hpos;have hlb:=B8 tb hb;obtain⟨m,hm⟩:=nmE (h.length-1);have hdiv:Fi a / Fi b=U8 h:=by
   show U8 a / U8 b=_;rw[hld,Xp _ hlb]
  have ham:a.length-b.length=m:=by omega
  have ea:a=U9 b h:=Ao ta (Fx _ _) λx=>by rw[e,U6]
  have ba:Bd 9000000 a:=by rw[ea];exact Uv (Tc (u:=6) bb bh (by omega)) hst
  obtain⟨h',hh'⟩:∃h',h'=trim (h.take m):=⟨_,rfl⟩;have htl:(h.take m).length=m:=by rw[Qq];omega
  have hsplit:h=h.take m++[U8 h]:=by
   have:h.drop m=[U8 h]:=by
    have hlt:m<h.length:=by omega
    rw[Zt hlt,Ye (by omega)];unfold U8;rw[Qd,<-hm,Qe hlt];rfl
   rw[<-this,Zj]
  have ph:∀x,Ux h x=Ux h' x+x^m*(U8 h:Rat):=λx=>by
   have:=congrArg (Ux · x) hsplit;rw[lU,htl]at this;rw[this,hh',Et];simp only[Ux];grind
  have g':∀i,i<m->h'.getD i 0=h.getD i 0:=λi hi=>by
   rw[hh',Bn,Qd,Jj hi,<-Qd]
  have g'':∀i,m<=i->h'.getD i 0=0:=λi hi=>by
   rw[hh',Bn];exact G6 (by omega)
  have hl':h'.length<=m:=by rw[hh'];exact Qc (Ri _) (by omega)
  have z0:∀i,i<h.length->h'.length<=i->i≠m->H.getD i 0=0:=λi hi hi' hne=>by
   rw[<-h1 i hi,<-g' i (by omega)];exact G6 hi'
  obtain⟨n,hn⟩:=cT tb hb lb bb hst k (Su a (Tk (a.length-b.length) (Fc b (Fi a / Fi b)))) h' (q.set (a.length-b.length) (Fi a / Fi b)) H (by omega) (U7 _ _) (by rw[hh'];exact Hj _) (λx=>by
   rw[Dt,sA,Tj,hdiv,ham,e,ph];grind)
   (by
    have l1:=Px a (Tk (a.length-b.length) (Fc b (Fi a / Fi b)));have l2:=Ft b (Fi a / Fi b);rw[KZ]at l1;omega)
   (by rw[hh'];exact Si λz hz=>bh z (Ql hz)) (by rw[X2];omega) (by rw[X2];omega)
   (λi hi=>by rw[g' i (by omega)];exact h1 i (by omega))
   (λi hi=>by
    rw[Qd,Ji,if_neg (by omega),<-Qd];exact h2 i (by omega))
   (λi hi=>by
    rw[Qd,Ji,ham,hdiv];by_cases him:m=i
    ·rw[if_pos him,if_pos (by omega)];show U8 h=_;rw[<-h1 i (by omega),<-him,hm];rfl
    ·rw[if_neg him,<-Qd];by_cases hil:i<h.length
     ·rw[h2 i hil,z0 i hil hi (λe=>him e.symm)]
     ·exact h3 i (by omega))
  refine⟨n+1,.step (by omega) (by omega) ba hlb ?_ (by omega) hn⟩;show U8 b∣U8 a;rw[hld];exact Vu _ _
theorem tY{a b h:Um}(ta:Uz a)(tb:Uz b)(th:Uz h)(hb:b.length≠0)(hh:h.length≠0)(e:∀x,Ux a x=Ux b x*Ux h x)(la:a.length<=60){s t:Nat}(bb:Bd t b)(bh:Bd s h)(hst:t+s+6<=9000000):DOk a b h:=by
 have ane:a.length≠0:=λh'=>by
  have:=NQ (p:=cz b) (q:=cz h) (r:=[]) (λh0=>QK tb (by omega) λt=>by rw[<-Uy];exact h0 t) (λt=>by rw[Uy,Uy,<-e,Np h'];simp only[ev];grind);exact QK th (by omega) λt=>by rw[<-Uy];have:=this t;rw[this];rfl
 have hln:=Rv tb th ta e (by omega) (by omega);obtain⟨n,hn⟩:=cT tb hb (by omega) bb hst h.length a h (List.replicate (a.length+1-b.length) 0) h (Qj _) ta th e la bh (by simp;omega) (by simp;omega) (λ_ _=>rfl) (λi _=>Hu _ i) (λi hi=>by rw[Hu,G6 hi]);exact⟨by omega,by omega,by omega,Uv bb (by omega),h,[],n,Uv bh (by omega),by omega,hn,th.symm⟩
theorem tG{p q:Um}(hp:Pr1 p)(hq:Pr1 q)(h1:Bu (cz p) (cz q))(h2:Bu (cz q) (cz p)):p=q:=by
 obtain⟨u,tu,eu⟩:=RB hp.m h1;obtain⟨v,tv,ev'⟩:=RB hq.m h2;obtain⟨a1,a2⟩:=G7 hq.t hq.n eu;obtain⟨b1,b2⟩:=G7 hp.t hp.n ev';have l1:=Rv hp.t tu hq.t eu a1 a2;have l2:=Rv hq.t tv hp.t ev' b1 b2;obtain⟨c,rfl⟩:∃c,u=[c]:=Jv.1 (by omega);have hl:=ZO hp.t tu hq.t eu a1 a2;have hp':=hp.l;have hq':=hq.l;have hc:0<c:=by
  rw[hl]at hq';have:U8 [c]=c:=rfl;rw[this]at hq';rcases Jw c 0 with h|h|h
  ·have:=Y9 hp' h;omega
  ·rw[h]at hq';omega
  ·exact h
 refine(HJ hq.t hp.t hq.m hp.m (c:=(c:Rat)) (by exact_mod_cast hc) λt=>?_).symm;rw[eu];simp only[Ux];grind
theorem Qek{g h w:Um}{s:Nat}(sq:Sqp g h w)(l2:2<=g.length)(lg:g.length<=9)(bg:Bd s g)(hs:(s+4+8)*3^8<=9000000):∃n,GRun n (Hg g) (Hg (Fv g)) h:=by
 have pg:=sq.pp;have hpow:(s+4+8)*3^(g.length-1)<=9000000:=Qc (Zd _ (Zo (by decide) (by omega))) hs;have ld:=Tq g;have bd:Bd (s+4) (Fv g):=FK bg (by omega);obtain⟨p1,p2⟩:=XS (r:=Fv g) (U7 _ _);obtain⟨_,p3,p4,c,c1,c2⟩:=Mn (a:=Fv g) (U7 _ _);have tp:Uz (U5 (Fv g)):=by
  rcases p2 with h|h
  ·rw[Qh h];rfl
  ·exact h.t
 obtain⟨m,h',g1,g2,g3,g4,g5⟩:=zW 66 g (U5 (Fv g)) (s+4) (by omega) pg p2 tp (by omega) (by omega) (Uv bg (by omega)) (p4 _ bd) hpow;have e:h'=h:=by
  refine tG g2 sq.pg ?_ (g5 _ ⟨cz w,λt=>by rw[Uy,Uy,Uy,sq.e]⟩ ?_)
  ·obtain⟨U,V,hc⟩:=sq.c;obtain⟨y,hy⟩:=g3;obtain⟨z,hz⟩:=g4;refine⟨Rf (Gj U y) (Pv c (Gj V z)),λt=>?_⟩;have a1:=hc t;have a2:=hy t;have a3:=hz t;have a4:=c2 t;rw[Uy]at a2 a3 ⊢;rw[Fu,U3,Fq,U3,a1,<-Ni,a4,a2,a3];grind
  ·obtain⟨z,hz⟩:=sq.d;exact(Lr c1 c2).1 ⟨z,λt=>by rw[Uy,Uy,Ni,hz]⟩
 rw[Gn,Gn,Ch pg,<-e];exact⟨m,g1⟩
theorem dB{s:Nat}(hz:aX 9 (s+73))(hs9:(s+69+4+8)*3^8<=9000000){p0:Um}(b0:Bd s p0)(l0:p0.length<=10)(t0:Uz p0)(z0:p0.length≠0):∀(k:Nat) (g h0:Um) (pre:Un),Pr1 g->g.length<=k->g.length<=9->Uz h0->(∀t,Ux p0 t=Ux h0 t*Ux g t)->pre.length+g.length<=500 ->
 ∃ws gs n,BN k g=some ws/\LW g ws/\LRun n (pre++[g]) (pre++gs)/\gs.length=ws.length+1/\ws.length<g.length/\gs.getD 0 []=g/\gs.getD ws.length []=[1]/\∀i,i<ws.length->Sqp (gs.getD i []) (gs.getD (i+1) []) (ws.getD i [])
 | 0,g,_,_,pg,hk,_,_,_,_=>absurd pg.n (by omega)
 |
  k+1,g,h0,pre,pg,hk,hn,th0,e0,hp=>by
  simp only[BN];by_cases h2:g.length<2
  ·have e:=pg.one h2;rw[if_pos h2,e];exact⟨[],[[1]],0,rfl,.nil,.stop (by unfold S8;simp),rfl,by decide,rfl,rfl,λi hi=>absurd hi (Nat.not_lt_zero i)⟩
  ·rw[if_neg h2];have bg:Bd (s+69) g:=D2 b0 l0 t0 pg.t th0 z0 λt=>by rw[e0];grind
   obtain⟨h,w,h3,h4,h5,h6,h7⟩:=jP hz pg (by omega) hn bg b0 l0 t0 th0 z0 e0;obtain⟨ws,gs,n,i1,i2,i3,i4,i5,i6,i7,i8⟩:=dB hz hs9 b0 l0 t0 z0 k h (U9 h0 w) (pre++[g]) h6.pg (by omega) (by omega) (Fx _ _) (λt=>by rw[e0,U6,h6.e];grind) (by simp;omega);obtain⟨m,hm⟩:=Qek h6 (by omega) hn bg hs9;have hlast:S8 (pre++[g])=g:=by unfold S8;simp
   have b9:s+69+4<=9000000:=by
    have:(s+69+4+8)*3^8=(s+69+4+8)*6561:=rfl;omega
   refine⟨w::ws,g::gs,n+1,?_,.cons h6 i2,.step (by rw[hlast];omega) (by rw[hlast];omega) (by rw[hlast];exact pg.t) (by rw[hlast];exact Uv bg (by omega)) (by rw[hlast];exact Uv (FK bg (by omega)) (by omega)) (by rw[hlast];exact hm) (by simp;omega) ?_,by simp[i4],by simp;omega,rfl,?_,?_⟩
   ·rw[h3];show(I4 g (Fv g)).bind _=_;rw[h4];show(O5 g h).bind _=_;rw[h5];show(BN k h).bind _=_;rw[i1];rfl
   ·have e:pre++g::gs=pre++[g]++gs:=by simp
    rw[e];exact i3
   ·rw[Zc,Qz];exact i7
   ·intro i hi;cases i with
    |zero=>rw[Zn,Qz,Zn,i6];exact h6
    |
     succ i =>
     rw[Qz,Qz,Qz];exact i8 i (by simpa using hi)
structure Gr(D M k:Nat)(q:Rat):Prop where
 u:∃u:Int,q*((D*2^k:Nat):Rat)=(u:Rat)
 b:Fe q<=(M:Rat)
 d:0<D
theorem nat_pos{n:Nat}(h:0<n):(0:Rat)<(n:Rat):=by
 have:((0:Nat):Rat)<(n:Rat):=Vq.2 h;simpa using this
theorem QW{D M k:Nat}{q:Rat}(h:Gr D M k q):Gr D M (k+1) q:=by
 obtain⟨u,hu⟩:=h.u;refine⟨⟨u*2,?_⟩,h.b,h.d⟩;rw[Zl,<-Xk]
 push_cast at hu ⊢
 rw[<-hu];grind
theorem GG{D M k:Nat}{a b:Rat}(ha:Gr D M k a)(hb:Gr D M k b):Gr D M (k+1) ((a+b) / 2):=by
 obtain⟨u,hu⟩:=ha.u;obtain⟨v,hv⟩:=hb.u;have h2:(a+b) / 2*2=a+b:=Gd (by decide);refine⟨⟨u+v,?_⟩,?_,ha.d⟩
 ·rw[Zl,<-Xk]
  push_cast at hu hv ⊢
  rw[<-hu,<-hv];generalize (a+b) / 2=c at *;generalize (D:Rat)*2^k=z at *;have:c*(z*2)=(c*2)*z:=by grind
  rw[this,h2];grind
 ·have h3:=ha.b;have h4:=hb.b;rw[Sp]at *;constructor <;> grind
theorem Qpf{D M k:Nat}{q:Rat}(h:Gr D M k q):q.den<=D*2^k:=by
 obtain⟨u,hu⟩:=h.u;have hp:0<D*2^k:=Yg h.d (Zu (by decide));have e:q=Rat.divInt u ((D*2^k:Nat):Int):=by
  rw[<-Hp,<-hu];have hz:=nat_pos hp;rw[show((((D*2^k:Nat):Int)):Rat)=((D*2^k:Nat):Rat) from rfl];rw[Yp];have:=Rat.mul_inv_cancel ((D*2^k:Nat):Rat) (by grind);generalize ((D*2^k:Nat):Rat)=z at *;have:q*z*z⁻¹=q*(z*z⁻¹):=by grind
  rw[this,‹z*z⁻¹=1›];grind
 rw[e,Wl,if_neg (by omega),Zr];exact Ya _ _
theorem BM{a b k:Nat}{z:Int}(h:z.natAbs<=a*(b*2^k)):Ff z<=Ff (a:Int)+Ff (b:Int)+k:=by
 have h1:Ff (a:Int)<=Ff (a:Int):=Qj _;have h2:Ff (b:Int)<=Ff (b:Int):=Qj _;rw[Tg]at h1 h2 ⊢;rw[Zr]at h1 h2;rw[Xc,Xc];have h3:a*b<2^Ff (a:Int)*2^Ff (b:Int):=Nat.mul_lt_mul_of_lt_of_le h1 (J3 h2) (Zu (by decide));have h4:=Xz h3 (show 0<2^k from Zu (by decide));rw[<-Xk]at h;omega
theorem Ak{D M k B:Nat}{q:Rat}(h:Gr D M k q)(hM:0<M)(hs:Ff (D:Int)+Ff (M:Int)+k<=B):Qs B q:=by
 have hd:=Qpf h;have hden:=nat_pos q.den_pos;have h1:(q.num.natAbs:Rat)<=((M*(D*2^k):Nat):Rat):=by
  have e:(q.num:Rat)=q*(q.den:Rat):=by
   have:(q.num:Rat) / (((q.den:Int)):Rat)=q:=by rw[Hp,Zy]
   have h2:(q.num:Rat) / (q.den:Rat)*(q.den:Rat)=q.num:=Zh (by grind);rw[show(q.num:Rat) / (q.den:Rat)=q from this]at h2;exact h2.symm
  rw[<-S0,e];have h3:=G8 (x:=q) (y:=(q.den:Rat)) (b:=((D*2^k:Nat):Rat)) h.b (by
   have:Fe (q.den:Rat)=(q.den:Rat):=by unfold Fe;rw[if_neg (by grind)]
   rw[this];exact Za.2 hd)
  push_cast at h3 ⊢;exact h3
 have h1:=Za.1 h1;refine⟨?_,?_⟩
 ·have:=BM (z:=q.num) h1;omega
 ·have:=BM (z:=(q.den:Int)) (a:=M) (b:=D) (k:=k) (by
   rw[Zr];exact Qc hd (Ks _ hM))
  omega
theorem D5(a b:Rat):A2 a b=(a+b) / 2:=by
 unfold A2;rw[<-Hp];have ha:(a.num:Rat)=a*(a.den:Rat):=by
  have:(a.num:Rat) / (((a.den:Int)):Rat)=a:=by rw[Hp,Zy]
  have h2:(a.num:Rat) / (a.den:Rat)*(a.den:Rat)=a.num:=Zh (by have:=nat_pos a.den_pos;grind);rw[show(a.num:Rat) / (a.den:Rat)=a from this]at h2;exact h2.symm
 have hb:(b.num:Rat)=b*(b.den:Rat):=by
  have:(b.num:Rat) / (((b.den:Int)):Rat)=b:=by rw[Hp,Zy]
  have h2:(b.num:Rat) / (b.den:Rat)*(b.den:Rat)=b.num:=Zh (by have:=nat_pos b.den_pos;grind);rw[show(b.num:Rat) / (b.den:Rat)=b from this]at h2;exact h2.symm
 have pa:=nat_pos a.den_pos;have pb:=nat_pos b.den_pos;rw[Kg,X3,X3,X3,X3,ha,hb];rw[show(((a.den:Int)):Rat)=(a.den:Rat) from rfl,show(((b.den:Int)):Rat)=(b.den:Rat) from rfl,show(((2:Int)):Rat)=2 from rfl];generalize (a.den:Rat)=x at *;generalize (b.den:Rat)=y at *;have hxy:=A4 (A4 pa pb) (show(0:Rat)<2 by decide);have h1:(a*x*y+b*y*x) / (x*y*2)*(x*y*2)=a*x*y+b*y*x:=Gd hxy;have h2:(a+b) / 2*2=a+b:=Gd (by decide);generalize (a*x*y+b*y*x) / (x*y*2)=c at *;generalize (a+b) / 2=d at *;have h3:(x*y*2)*(c-d)=0:=by grind
 rcases Jn.1 h3 with h4|h4 <;> grind
theorem PL(a b:Rat):Qai a b=a-b:=by
 unfold Qai;rw[Rat.sub_def',<-Rat.divInt_ofNat]
 push_cast;rfl
theorem Td{a b:Rat}:Hl a b=0↔a=b:=by
 constructor
 ·intro h;have h1:¬a<b:=λh'=>by have:=Dc.2 h';omega
  have h2:¬b<a:=λh'=>by have:=Nn.2 h';omega
  grind
 ·intro h;subst h;exact Bh a
theorem KO{a b:Rat}:Hl a b<=0↔a<=b:=by
 constructor
 ·intro h;have h2:¬b<a:=λh'=>by have:=Nn.2 h';omega
  grind
 ·intro h;have h2:¬0<Hl a b:=λh'=>by have:=Nn.1 h';grind
  omega
theorem SO{a b:Rat}:0<=Hl a b↔b<=a:=by
 constructor
 ·intro h;have h2:¬a<b:=λh'=>by have:=Dc.2 h';omega
  grind
 ·intro h;have h2:¬Hl a b<0:=λh'=>by have:=Dc.1 h';grind
  omega
theorem Dl(a b:Rat):Hl a b=1/\b<a\/Hl a b=0/\a=b\/Hl a b=-1/\a<b:=by
 have hb:=JX a b;rcases(show Hl a b=1\/Hl a b=0\/Hl a b=-1 by omega)with h|h|h
 ·exact .inl ⟨h,Nn.1 (by omega)⟩
 ·exact .inr (.inl ⟨h,Td.1 h⟩)
 ·exact .inr (.inr ⟨h,Dc.1 (by omega)⟩)
theorem wU(p:Um)(x:Rat):low p x=Ph (cz p) x:=by
 unfold low Ph;rw[H7,H7,Uy,Ni]
theorem Tt{t:Tm}(h:t.lo<t.hi)(q:Rat):Gb t q=cq (cz t.p) t.lo t.hi q:=by
 have hp:t.point=false:=by
  unfold Tm.point;have:¬0<=Hl t.lo t.hi:=λh'=>by have:=SO.1 h';grind
  simp[this]
 unfold Gb cq;rw[hp,if_neg (by decide)];have e1:(Hl q t.lo<=0)=(q<=t.lo):=propext KO;have e2:(0<Hl q t.hi)=(t.hi<q):=propext Nn;rw[H7,wU,<-Uy];simp only[e1,e2]
theorem Pd{t:Tm}:t.point=true↔t.hi<=t.lo:=by
 unfold Tm.point;rw[decide_eq_true_iff];exact SO
theorem Lh{t:Tm}(h:t.lo=t.hi)(q:Rat):Gb t q=Hl t.lo q:=by
 have hp:t.point=true:=Pd.2 (by rw[h];exact Qk);unfold Gb;rw[if_pos hp]
theorem Qo0{c:Rat->Int}{x:Rat}(h:∀q,c q=Hl x q):Cut c where
 val q:=by rw[h];have:=JX x q;omega
 mono q r hqr h1:=by
  rw[h]at h1 ⊢;rcases Dl x q with⟨e,e'⟩|⟨e,e'⟩|⟨e,e'⟩
  ·exact absurd e h1
  ·rcases Dl x r with⟨f,f'⟩|⟨f,f'⟩|⟨f,f'⟩ <;> grind
  ·rcases Dl x r with⟨f,f'⟩|⟨f,f'⟩|⟨f,f'⟩ <;> grind
 up q h1:=by
  rw[h]at h1;have h2:=Nn.1 (show 0<Hl x q by omega);have h3:(x+q) / 2*2=x+q:=Gd (by decide);have h4:=Nn.2 (show(x+q) / 2<x by grind);have:=JX x ((x+q) / 2);exact⟨(x+q) / 2,by grind,by rw[h];omega⟩
 dn q h1:=by
  rw[h]at h1;have h2:=Dc.1 (show Hl x q<0 by omega);have h3:(x+q) / 2*2=x+q:=Gd (by decide);have h4:=Dc.2 (show x<(x+q) / 2 by grind);have:=JX x ((x+q) / 2);exact⟨(x+q) / 2,by grind,by rw[h];omega⟩
 lo:=⟨x-1,by
  rw[h];have h4:=Nn.2 (show x-1<x by grind);have:=JX x (x-1);omega⟩
 hi:=⟨x+1,by
  rw[h];have h4:=Dc.2 (show x<x+1 by grind);have:=JX x (x+1);omega⟩
def dL(t:Tm):Nat:=if t.point=true then 3300000 else 1000000
theorem zD{t:Tm}(h:t.point=false):dL t=1000000:=by simp[dL,h]
theorem Qpk(t:Tm):1000000<=dL t:=by unfold dL;split <;> omega
theorem Qpl(t:Tm):dL t<=3300000:=by unfold dL;split <;> omega
structure Va(t:Tm):Prop where
 i:t.lo=t.hi/\Ux t.p t.lo=0\/∃L,Vt (cz t.p) L t.lo t.hi
 tr:Uz t.p
 n:t.p.length<=9
 n2:2<=t.p.length
 b:Bd 3300000 t.p
 bi:t.point=false->Bd 1260 t.p
 sc:t.point=false->∃(l:List (List Int)) (P g:List Int),LQ 66 t.p (U5 (Fv t.p))=some l/\Sqp P g t.p/\Vt (cz t.p) ((t.p::l).map cz) t.lo t.hi
 g:∃D M k,Gr D M k t.lo/\Gr D M k t.hi/\0<M/\Ff (D:Int)+Ff (M:Int)+k<=dL t
theorem Va.le{t:Tm}(h:Va t):t.lo<=t.hi:=by
 rcases h.i with⟨e,_⟩|⟨L,V⟩
 ·rw[e];exact Qk
 ·exact Qm V.l
theorem Va.pt{t:Tm}(h:Va t)(hp:t.point=true):t.lo=t.hi/\Ux t.p t.lo=0:=by
 rcases h.i with e|⟨L,V⟩
 ·exact e
 ·have:=Pd.1 hp;have:=V.l;grind
theorem Va.iv{t:Tm}(h:Va t)(hp:t.point=false):∃L,Vt (cz t.p) L t.lo t.hi:=by
 rcases h.i with⟨e,_⟩|h
 ·have:=Pd.2 (show t.hi<=t.lo by rw[e];exact Qk);rw[hp]at this;cases this
 ·exact h
theorem Va.cut{t:Tm}(h:Va t):Cut (Gb t):=by
 rcases h.i with⟨e,_⟩|⟨L,V⟩
 ·exact Qo0 (x:=t.lo) λq=>Lh e q
 ·have:Gb t=cq (cz t.p) t.lo t.hi:=funext λq=>Tt V.l q
  rw[this];exact V.cut
theorem Qqy{c:Rat->Int}(hc:Cut c){p:Up}{x:Rat}(h:c x=0)(h0:ev p x=0):Dy p c:=by
 rcases QJ hc p with h1|⟨s,hs,h1⟩
 ·exact h1
 ·have:=CJ hc h h1;rw[Gm.2 h0]at this;exact absurd this.symm hs
theorem Va.van{t:Tm}(h:Va t):Dy (cz t.p) (Gb t):=by
 have hc:=h.cut;rcases h.i with⟨e,h0⟩|⟨L,V⟩
 ·exact Qqy hc (x:=t.lo) (by rw[Lh e,Bh]) (by rw[Uy];exact h0)
 ·have:Gb t=cq (cz t.p) t.lo t.hi:=funext λq=>Tt V.l q
  rw[this];exact V.van
theorem Va.qs{t:Tm}(h:Va t):Qs 3300000 t.lo/\Qs 3300000 t.hi:=by
 obtain⟨D,M,k,h1,h2,h3,h4⟩:=h.g;have h4:=Qc h4 (Qpl t);exact⟨Ak h1 h3 h4,Ak h2 h3 h4⟩
theorem Va.qsn{t:Tm}(h:Va t)(hp:t.point=false):Qs 1000000 t.lo/\Qs 1000000 t.hi:=by
 obtain⟨D,M,k,h1,h2,h3,h4⟩:=h.g;rw[zD hp]at h4;exact⟨Ak h1 h3 h4,Ak h2 h3 h4⟩
theorem Va.tb{t:Tm}(h:Va t):Tb t:=⟨⟨h.tr,by have:=h.n;omega,Uv h.b (by omega)⟩,h.qs.1.mono (t:=16777216) (by omega),h.qs.2.mono (t:=16777216) (by omega)⟩
structure Hv(t:Tm)(D M k:Nat)(u:Tm):Prop where
 p:u.p=t.p
 i:u.lo=u.hi/\Ux u.p u.lo=0\/∃L,Vt (cz u.p) L u.lo u.hi
 c:∀q,Gb u q=Gb t q
 l:Gr D M k u.lo
 h:Gr D M k u.hi
theorem NV{c:Rat->Int}(hc:Cut c){x:Rat}(h:c x=0)(q:Rat):c q=Hl x q:=by
 rcases Dl x q with⟨e,e'⟩|⟨e,e'⟩|⟨e,e'⟩
 ·rw[e];exact hc.mono' e' (by omega)
 ·rw[e,<-e',h]
 ·rw[e];exact hc.mono x q e' (by omega)
theorem zU{t u:Tm}{D M k:Nat}(hu:Hv t D M k u)(hM:0<M)(hs:Ff (D:Int)+Ff (M:Int)+(k+1)<=16777216):∃v,half u=some v/\Hv t D M (k+1) v/\v.hi-v.lo<=(u.hi-u.lo) / 2/\u.lo<=v.lo/\v.hi<=u.hi:=by
 have h2:∀x:Rat,x / 2*2=x:=λx=>Gd (by decide)
 unfold half;rcases hu.i with⟨e,h0⟩|⟨L,V⟩
 ·have hp:u.point=true:=Pd.2 (by rw[e];exact Qk);rw[if_pos hp];refine⟨u,rfl,⟨hu.p,hu.i,hu.c,QW hu.l,QW hu.h⟩,?_,Qk,Qk⟩;rw[e];have:=h2 (u.hi-u.hi);grind
 ·have hp:u.point=false:=by
   have:¬u.point=true:=λh=>by have:=Pd.1 h;have:=V.l;grind
   simpa using this
  rw[hp,if_neg (by decide)];obtain⟨m,hm⟩:=nmE ((u.lo+u.hi) / 2);have hmg:Gr D M (k+1) m:=by rw[hm];exact GG hu.l hu.h
  have hmm:=h2 (u.lo+u.hi);rw[<-hm]at hmm;have hl:=V.l;have hl1:u.lo<m:=by grind
  have hl2:m<u.hi:=by grind
  have hch:bR (A2 u.lo u.hi)=some m:=by
   rw[D5,<-hm];have:=Ak hmg hM hs;unfold bR;rw[if_pos ⟨this.1,this.2⟩]
  have hcm:A2 u.lo u.hi=m:=by rw[D5,<-hm]
  rw[hch];show ∃v,some (if Gb u m=0 then(⟨u.p,m,m⟩:Tm)else if Gb u m=-1 then ⟨u.p,u.lo,m⟩else ⟨u.p,m,u.hi⟩)=some v/\_;have hw:=h2 (u.hi-u.lo);have hcu:=Tt hl;have hcut:=V.cut;have hcut':Cut (Gb u):=by rw[show Gb u=cq (cz u.p) u.lo u.hi from funext hcu];exact hcut
  by_cases c0:Gb u m=0
  ·rw[if_pos c0];have hz:Ux u.p m=0:=by
    have:=KU hcut (q:=m) (by rw[<-hcu];exact c0) V.van;rwa[Uy]at this
   refine⟨_,rfl,⟨hu.p,.inl ⟨rfl,hz⟩,λq=>?_,hmg,hmg⟩,by show m-m<=_;grind,by show u.lo<=m;grind,by show m<=u.hi;grind⟩;rw[Lh rfl,<-hu.c];exact(NV hcut' c0 q).symm
  ·rw[if_neg c0];by_cases c1:Gb u m=-1
   ·rw[if_pos c1];have hv:vv L m=vv L u.hi:=V.eq_hi hl1 (Qm hl2) (by rw[<-hcu,c1];decide);have V':Vt (cz u.p) L u.lo m:=⟨V.s,hl1,by rw[hv];exact V.v⟩;refine⟨_,rfl,⟨hu.p,.inr ⟨L,V'⟩,λq=>?_,QW hu.l,hmg⟩,by show m-u.lo<=_;grind,Qk,by show m<=u.hi;grind⟩;rw[Tt hl1,<-hu.c,hcu];exact V.uniq V'.cut (Mj Qk) (by rw[Ij hl1 hl2];decide) V'.van q
   ·rw[if_neg c1];have c2:Gb u m=1:=by rcases hcut'.val m with h|h|h <;> omega
    have hv:vv L m=vv L u.lo:=V.eq_lo hl1 (Qm hl2) (by rw[<-hcu];exact c2);have V':Vt (cz u.p) L m u.hi:=⟨V.s,hl2,by rw[hv];exact V.v⟩;refine⟨_,rfl,⟨hu.p,.inr ⟨L,V'⟩,λq=>?_,hmg,QW hu.h⟩,by show u.hi-m<=_;grind,by show u.lo<=m;grind,Qk⟩;rw[Tt hl2,<-hu.c,hcu];exact V.uniq V'.cut (Mj (by grind)) V'.hi1 V'.van q
def YR(a b:Tm):Prop:=∃q,Gb a q=-1/\Gb b q=1
def TEq(a b:Tm):Prop:=∀q,Gb a q=Gb b q
theorem tri{a b:Tm}(ha:Cut (Gb a))(hb:Cut (Gb b)):YR a b\/TEq a b\/YR b a:=by
 rcases Classical.em (TEq a b)with h|h
 ·exact .inr (.inl h)
 ·obtain⟨q,hq⟩:=Classical.not_forall.1 h;obtain⟨r,⟨h1,h2⟩|⟨h1,h2⟩⟩:=kX ha hb hq
  ·exact .inl ⟨r,h1,h2⟩
  ·exact .inr (.inr ⟨r,h2,h1⟩)
theorem zI{a b:Tm}(ha:Cut (Gb a))(hb:Cut (Gb b))(h:YR a b)(h':YR b a):False:=by
 obtain⟨q,q1,q2⟩:=h;obtain⟨r,r1,r2⟩:=h';have:=ha.lt r2 q1;have:=hb.lt q2 r1;grind
theorem uT{p:Um}(k:Nat):(p.getD k 0).natAbs<=2^Hr p:=by
 have h:Ff (p.getD k 0)<=Hr p:=by
  have key:∀(l:Um) (n:Nat),n≤l.foldl (λn z=>max n (Ff z)) n/\∀z∈l,Ff z≤l.foldl (λn z=>max n (Ff z)) n:=by
   intro l
   induction l with
   |nil=>exact λn=>⟨Qj _,λz hz=>by cases hz⟩
   |
    cons y l ih =>
    intro n;obtain⟨i1,i2⟩:=ih (max n (Ff y));refine⟨by simp only[Xl];omega,λz hz=>?_⟩;simp only[Xl];rcases Qt.1 hz with rfl|hz
    ·omega
    ·exact i2 z hz
  exact Fh (s:=Hr p) (λz hz=>(key p 0).2 z hz) k
 rw[Tg]at h;omega
theorem Qni{s:Nat}:∀(B:Um),(∀z∈B,z.natAbs≤2^s)->gB B≤2^(s+(B.length-1))
 | [],_=>Qg _
 |
  c::B,h=>by
  have h1:=h c (Q0 ..);have h2:=Qni B λz hz=>h z (Qp _ hz)
  simp only[gB,Zc,J1];have h3:2^s<=2^(s+B.length):=Zo (by decide) (by omega);cases B with
  |nil=>simp only[gB,Y5]at *;omega
  |
   cons d B =>
   have h4:2^(s+(d::B).length)=2*2^(s+((d::B).length-1)):=by
    rw[Zg,<-Zl];congr 1
   rw[h4];omega
def Ry(A B:Um):Nat:=(Hr A+Hr B+(A.length+B.length)+8)*(2*(A.length+B.length-2)-1)
theorem Qd5{A B:Um}(tA:Uz A)(tB:Uz B)(nA:A.length<=9)(nB:B.length<=9)(lA:2<=A.length)(lB:2<=B.length){R d:Rat}(hR:1<=R)(dp:0<d)
 (hs:∀e:Rat,0<e->∃q r,Fe q<=R/\Fe r<=R/\d<=Fe (q-r)/\Fe (q-r)*((2^(Ry A B+1):Nat):Rat)<=1/\Fe (Ux A q)<e/\Fe (Ux B r)<e):False:=by
 obtain⟨a,ha⟩:∃a,A.length=a+1:=⟨A.length-1,by omega⟩;obtain⟨b,hb⟩:∃b,B.length=b+1:=⟨B.length-1,by omega⟩;obtain⟨s,hsd⟩:=nmE (Hr A+Hr B+b);obtain⟨N,hN⟩:∃N,b*(2*(a*b))+a*(2*(a*b)-b)=N:=⟨_,rfl⟩;have hNt:N<=2^(a+9):=by
  rw[<-hN];have hab:∀a b:Fin 9,b.1*(2*(a.1*b.1))+a.1*(2*(a.1*b.1)-b.1)<=2^(a.1+9):=by decide
  exact hab ⟨a,by omega⟩ ⟨b,by omega⟩
 have hK:Ry A B=(s+a+10)*(2*(a+b-1)+1):=by
  unfold Ry;rw[ha,hb,hsd,show a+1+(b+1)-2=a+b by omega,show 2*(a+b)-1=2*(a+b-1)+1 by omega];congr 1;omega
 have h0A:A.getD a 0≠0:=by have:=Hk tA (by omega);rwa[ha]at this
 have h0B:B.getD b 0≠0:=by have:=Hk tB (by omega);rwa[hb]at this
 have hp:∀m,1<=2^m:=λm=>Zu (by decide)
 refine Qpc (N:=N) (D:=2^(Ry A B-1)) ha hb h0A h0B (by omega) (by omega) (h:=2^s) (hp s) (λk=>Qc (uT k) (Zo (by decide) (by omega))) ?_ hN ?_ hR dp λe ep=>?_
 ·refine Qc (Qni (s:=Hr B) B λz hz=>?_) (Zo (by decide) (by omega));obtain⟨i,hi⟩:=Zi.1 hz;have:=uT (p:=B) i;rwa[Qd,hi]at this
 ·have h1:2*(N*2^s)<=2^(s+a+10):=by
   have:N*2^s<=2^(a+9)*2^s:=Qw _ hNt;rw[<-Xc]at this;rw[show s+a+10=(a+9+s)+1 by omega,Zl];omega
  have h2:N*2^s<=2^(s+a+9):=by
   rw[show s+a+9=(a+9)+s by omega,Xc];exact Qw _ hNt
  have h3:=Wh h1 (2*(a+b-1));have h4:=Zs h2 h3;rw[<-Uc,<-Xc]at h4;rw[<-Xk];refine Qc h4 (Zo (by decide) ?_);rw[hK,Xw,Yf];omega
 ·obtain⟨q,r,h1,h2,h3,h4,h5,h6⟩:=hs e ep;refine⟨q,r,h1,h2,h3,?_,h5,h6⟩;have hK1:1<=Ry A B:=by
   rw[hK];exact Yg (by omega) (by omega)
  have e1:2^(Ry A B+1)=4*2^(Ry A B-1):=by
   obtain⟨m,hm⟩:∃m,Ry A B=m+1:=⟨Ry A B-1,by omega⟩;rw[hm,J1,Zl,Zl];omega
  rw[e1]at h4
  push_cast at h4 ⊢
  exact h4
theorem Hv.lo'{t:Tm}{D M k:Nat}{u:Tm}(h:Hv t D M k u):Gb t u.lo=1\/Gb t u.lo=0/\u.lo=u.hi:=by
 rw[<-h.c];rcases h.i with⟨e,_⟩|⟨L,V⟩
 ·exact .inr ⟨by rw[Lh e,Bh],e⟩
 ·exact .inl (by rw[Tt V.l];exact Mj Qk)
theorem Hv.hi'{t:Tm}{D M k:Nat}{u:Tm}(h:Hv t D M k u):Gb t u.hi=0\/Gb t u.hi=-1:=by
 rw[<-h.c];rcases h.i with⟨e,_⟩|⟨L,V⟩
 ·exact .inl (by rw[Lh e,e,Bh])
 ·rw[Tt V.l];have:=V.hi1;rcases V.cut.val u.hi with h|h|h <;> omega
theorem Hv.le{t:Tm}{D M k:Nat}{u:Tm}(h:Hv t D M k u):u.lo<=u.hi:=by
 rcases h.i with⟨e,_⟩|⟨L,V⟩
 ·rw[e];exact Qk
 ·exact Qm V.l
theorem Qd6{a b:Tm}(ha:Va a)(hb:Va b){D M k D' M' k':Nat}{u v:Tm}(hu:Hv a D M k u)(hv:Hv b D' M' k' v)(h:YR a b):1<(v.hi-u.lo)*((2^(Ry a.p b.p+1):Nat):Rat):=by
 rcases Fz ((v.hi-u.lo)*((2^(Ry a.p b.p+1):Nat):Rat)) 1 with hw|hw
 ·exfalso;have ca:=ha.cut;have cb:=hb.cut;obtain⟨m,m1,m2⟩:=h;obtain⟨m',hm',m3⟩:=ca.dn m m1;have hpow:(0:Rat)<=((2^(Ry a.p b.p+1):Nat):Rat):=Xg;obtain⟨R,hR⟩:=nmE (Fe u.lo+Fe m'+Fe m+Fe v.hi+1);have n1:=Hw u.lo;have n2:=Hw m';have n3:=Hw m;have n4:=Hw v.hi;refine Qd5 (R:=R) (d:=m-m') ha.tr hb.tr ha.n hb.n ha.n2 hb.n2 (by grind) (by grind) λe ep=>?_
  obtain⟨q,q1,q2,q3⟩:∃q,u.lo<=q/\q<=m'/\Fe (Ux a.p q)<e:=by
   rcases hu.lo' with h1|⟨h1,_⟩
   ·obtain⟨x,y,hx,hy,hq⟩:=ha.van e ep;rcases Fz x u.lo with e1|e1
    ·exact⟨u.lo,Qk,Qm (ca.lt h1 m3),by rw[<-Uy];exact hq u.lo e1 (Qm (ca.lt h1 hy))⟩
    ·exact⟨x,Qm e1,Qm (ca.lt hx m3),by rw[<-Uy];exact hq x Qk (Qm (ca.lt hx hy))⟩
   ·refine⟨u.lo,Qk,?_,by rw[<-Uy,KU ca h1 ha.van,Rp];exact ep⟩;rcases Fz u.lo m' with e1|e1
    ·exact e1
    ·have:=ca.mono m' u.lo e1 (by omega);omega
  obtain⟨r,r1,r2,r3⟩:∃r,r<=v.hi/\m<=r/\Fe (Ux b.p r)<e:=by
   rcases hv.hi' with h1|h1
   ·refine⟨v.hi,Qk,?_,by rw[<-Uy,KU cb h1 hb.van,Rp];exact ep⟩;rcases Fz m v.hi with e1|e1
    ·exact e1
    ·have:=cb.mono v.hi m e1 (by omega);omega
   ·obtain⟨x,y,hx,hy,hq⟩:=hb.van e ep;rcases Fz v.hi y with e1|e1
    ·exact⟨v.hi,Qk,Qm (cb.lt m2 h1),by rw[<-Uy];exact hq v.hi (Qm (cb.lt hx h1)) e1⟩
    ·exact⟨y,Qm e1,Qm (cb.lt m2 hy),by rw[<-Uy];exact hq y (Qm (cb.lt hx hy)) Qk⟩
  have e1:Fe (q-r)=r-q:=by unfold Fe;split <;> grind
  have b1:Fe q<=R:=by
   have:=WF (R:=R) (x:=u.lo) (y:=m') (t:=q) (by grind) (by grind) q1 q2;exact this
  have b2:Fe r<=R:=by
   have:=WF (R:=R) (x:=m) (y:=v.hi) (t:=r) (by grind) (by grind) r2 r1;exact this
  refine⟨q,r,b1,b2,by rw[e1];grind,?_,q3,r3⟩;rw[e1];have:=Q4 (show r-q<=v.hi-u.lo by grind) hpow;exact Zb this hw
 ·exact hw
theorem yA{a b:Tm}(ha:Va a)(hb:Va b){D M k D' M' k':Nat}{u v:Tm}(hu:Hv a D M k u)(hv:Hv b D' M' k' v)(hne:¬TEq a b)(h:RY u v=true):YR a b:=by
 have h1:=(of_decide_eq_true h).1;have h1:=KO.1 h1;rcases tri ha.cut hb.cut with h2|h2|⟨m,m1,m2⟩
 ·exact h2
 ·exact absurd h2 hne
 ·exfalso;have e1:m<u.hi:=by
   rcases Fz u.hi m with e|e
   ·rcases Classical.em (u.hi=m)with e'|e'
    ·have:=hu.hi';rw[e']at this;omega
    ·have:=ha.cut.mono u.hi m (by grind) (by have:=hu.hi';omega);omega
   ·exact e
  have e2:v.lo<m:=by
   rcases Fz m v.lo with e|e
   ·rcases Classical.em (m=v.lo)with e'|e'
    ·have:=hv.lo';rw[<-e']at this;omega
    ·have:=hb.cut.mono m v.lo (by grind) (by omega);have:=hv.lo';omega
   ·exact e
  grind
theorem lW{a b:Tm}(ha:Va a)(hb:Va b){D M k D' M' k':Nat}{u v:Tm}(hu:Hv a D M k u)(hv:Hv b D' M' k' v)(hlt:YR a b)(h:RY u v≠true):v.lo<=u.hi:=by
 rcases Fz v.lo u.hi with e|e
 ·exact e
 ·refine absurd (decide_eq_true ⟨KO.2 (Qm e),λh'=>?_⟩) h;have:=Td.1 h'.2;grind
theorem IB(m:Nat):((2^(m+1):Nat):Rat)=2*((2^m:Nat):Rat):=by rw[Zl];push_cast;grind
def Qn1(a b:Tm)(r:Tm×Tm×Int):Prop:=r.2.2=-1/\YR a b\/r.2.2=1/\YR b a
theorem oQ(A B:Um):Ry A B=Ry B A:=by unfold Ry;rw[Nat.add_comm A.length,Nat.add_comm (Hr A)]
theorem Qrj{a b:Tm}(ha:Va a)(hb:Va b)(hne:¬TEq a b){D M D' M':Nat}(hM:0<M)(hM':0<M'):∀(i j:Nat) (u v:Tm) (k k':Nat) (W:Rat),2*i+1<=j->Hv a D M k u->Hv b D' M' k' v->Ff (D:Int)+Ff (M:Int)+(k+j)<=16777216->Ff (D':Int)+Ff (M':Int)+(k'+j)<=16777216->u.hi-u.lo<=W->v.hi-v.lo<=W->2*W*((2^(Ry a.p b.p+1):Nat):Rat)<=((2^i:Nat):Rat)->∃r,gK j u v=some r/\Qn1 a b r:=by
 intro i;have step:∀(j:Nat) (u v:Tm) (k k':Nat),Hv a D M k u->Hv b D' M' k' v->Ff (D:Int)+Ff (M:Int)+(k+(j+1))<=16777216->Ff (D':Int)+Ff (M':Int)+(k'+(j+1))<=16777216->(∃r,gK (j+1) u v=some r/\Qn1 a b r)\/(RY u v≠true/\RY v u≠true/\∃u' v' k1 k1',gK (j+1) u v=gK j u' v'/\Hv a D M k1 u'/\Hv b D' M' k1' v'/\k1<=k+1/\k1'<=k'+1/\(v.hi-v.lo<=u.hi-u.lo/\u'.hi-u'.lo<=(u.hi-u.lo) / 2/\v'=v\/u.hi-u.lo<=v.hi-v.lo/\v'.hi-v'.lo<=(v.hi-v.lo) / 2/\u'=u)):=by
  intro j u v k k' hu hv hs hs';by_cases h1:RY u v=true
  ·exact .inl ⟨(u,v,-1),by simp only[gK];rw[if_pos h1],.inl ⟨rfl,yA ha hb hu hv hne h1⟩⟩
  by_cases h2:RY v u=true
  ·exact .inl ⟨(u,v,1),by simp only[gK];rw[if_neg h1,if_pos h2],.inr ⟨rfl,yA hb ha hv hu (λh=>hne λq=>(h q).symm) h2⟩⟩
  refine .inr ⟨h1,h2,?_⟩;by_cases h3:0<=Hl (Qai u.hi u.lo) (Qai v.hi v.lo)
  ·obtain⟨x,x1,x2,x3,_⟩:=zU hu hM (by omega);refine⟨x,v,k+1,k',?_,x2,hv,by omega,by omega,.inl ⟨?_,x3,rfl⟩⟩
   ·simp only[gK];rw[if_neg h1,if_neg h2,if_pos h3,x1];rfl
   ·have:=SO.1 h3;rwa[PL,PL]at this
  ·obtain⟨x,x1,x2,x3,_⟩:=zU hv hM' (by omega);refine⟨u,x,k,k'+1,?_,hu,x2,by omega,by omega,.inr ⟨?_,x3,rfl⟩⟩
   ·simp only[gK];rw[if_neg h1,if_neg h2,if_neg h3,x1];rfl
   ·rcases Fz (u.hi-u.lo) (v.hi-v.lo)with e|e
    ·exact e
    ·refine absurd (SO.2 ?_) h3;rw[PL,PL];exact Qm e
 induction i with
 |
  zero =>
  intro j u v k k' W hj hu hv hs hs' hW hW' hK;obtain⟨j,rfl⟩:∃m,j=m+1:=⟨j-1,by omega⟩;rcases step j u v k k' hu hv hs hs' with h|⟨h1,h2,_⟩
  ·exact h
  ·exfalso;have hpow:(0:Rat)<=((2^(Ry a.p b.p+1):Nat):Rat):=Xg;rw[Ys]at hK;rcases tri ha.cut hb.cut with h3|h3|h3
   ·have h4:=lW ha hb hu hv h3 h1;have h5:=Qd6 ha hb hu hv h3;have h6:=Q4 (show v.hi-u.lo<=2*W by clear step;grind) hpow;have h7:((1:Nat):Rat)=1:=rfl;rw[h7]at hK;clear step;grind
   ·exact hne h3
   ·have h4:=lW hb ha hv hu h3 h2;have h5:=Qd6 hb ha hv hu h3;rw[oQ]at h5;have h6:=Q4 (show u.hi-v.lo<=2*W by clear step;grind) hpow;have h7:((1:Nat):Rat)=1:=rfl;rw[h7]at hK;clear step;grind
 |
  succ i ih =>
  intro j u v k k' W hj hu hv hs hs' hW hW' hK;obtain⟨j,rfl⟩:∃m,j=m+2:=⟨j-2,by omega⟩;have hd:∀x:Rat,x / 2*2=x:=λx=>Gd (by decide)
  rcases step (j+1) u v k k' hu hv hs hs' with h|⟨_,_,u1,v1,k1,k1',e1,hu1,hv1,hk1,hk1',hw1⟩
  ·exact h
  ·rw[e1];rcases step j u1 v1 k1 k1' hu1 hv1 (by omega) (by omega)with h|⟨_,_,u2,v2,k2,k2',e2,hu2,hv2,hk2,hk2',hw2⟩
   ·exact h
   ·rw[e2];have a1:=hd (u.hi-u.lo);have a2:=hd (v.hi-v.lo);have a3:=hd (u1.hi-u1.lo);have a4:=hd (v1.hi-v1.lo);have a5:=hd W;have b1:=hu.le;have b2:=hv.le;have b3:=hu1.le;have b4:=hv1.le;have b5:=hu2.le;have b6:=hv2.le;have hww:u2.hi-u2.lo<=W / 2/\v2.hi-v2.lo<=W / 2:=by
     clear step ih;rcases hw1 with⟨c1,c2,rfl⟩|⟨c1,c2,rfl⟩ <;> rcases hw2 with⟨d1,d2,rfl⟩|⟨d1,d2,rfl⟩ <;> constructor <;> grind
    refine ih j u2 v2 k2 k2' (W / 2) (by omega) hu2 hv2 (by omega) (by omega) hww.1 hww.2 ?_;rw[IB i]at hK;have:2*(W / 2)*((2^(Ry a.p b.p+1):Nat):Rat)*2=2*W*((2^(Ry a.p b.p+1):Nat):Rat):=by clear step ih hw1 hw2;grind
    clear step ih hw1 hw2;grind
def CmpOk(a b:Tm)(c:Int):Prop:=c=-1/\YR a b\/c=0/\TEq a b\/c=1/\YR b a
theorem Va.hv0{t:Tm}(h:Va t):∃D M k,Hv t D M k t/\0<M/\Ff (D:Int)+Ff (M:Int)+k<=dL t:=by
 obtain⟨D,M,k,h1,h2,h3,h4⟩:=h.g;exact⟨D,M,k,⟨rfl,h.i,λ_=>rfl,h1,h2⟩,h3,h4⟩
theorem pH{a:Tm}(ha:Va a)(hp:a.point=true)(q:Rat):Gb a q=Hl a.lo q:=Lh (ha.pt hp).1 q
theorem Qc9{a b:Tm}(hb:Va b){x:Rat}(hx:∀q,Gb a q=Hl x q):CmpOk a b (-Gb b x):=by
 have cb:=hb.cut;rcases cb.val x with h|h|h
 ·obtain⟨q,q1,q2⟩:=cb.up x h;refine .inl ⟨by omega,q,?_,q2⟩;rw[hx];rcases Dl x q with⟨e,e'⟩|⟨e,e'⟩|⟨e,e'⟩ <;> grind
 ·exact .inr (.inl ⟨by omega,λq=>by rw[hx,NV cb h]⟩)
 ·obtain⟨q,q1,q2⟩:=cb.dn x h;refine .inr (.inr ⟨by omega,q,q2,?_⟩);rw[hx];rcases Dl x q with⟨e,e'⟩|⟨e,e'⟩|⟨e,e'⟩ <;> grind
theorem CmpOk.symm{a b:Tm}{c:Int}(h:CmpOk a b c):CmpOk b a (-c):=by
 rcases h with⟨h1,h2⟩|⟨h1,h2⟩|⟨h1,h2⟩
 ·exact .inr (.inr ⟨by omega,h2⟩)
 ·exact .inr (.inl ⟨by omega,λq=>(h2 q).symm⟩)
 ·exact .inl ⟨by omega,h2⟩
theorem Qqq:aX 9 1260:=⟨by decide,by decide⟩
theorem WU(g:Um)(lo hi:Rat):SX g lo hi=true↔sZ (cz g) lo hi:=by
 unfold SX sZ;rw[decide_eq_true_iff,H7,wU,Uy]
theorem kL{g:Um}(tg:Uz g)(hn:g.length≠0){lo hi:Rat}(h:sZ (cz g) lo hi):1<g.length:=by
 rcases Q9 1 g.length with e|e
 ·exact e
 ·exfalso;obtain⟨c,rfl⟩:∃c,g=[c]:=Jv.1 (by omega);have hc:c≠0:=by have:=Hk tg (by simp);simpa using this
  have hv:∀t,ev (cz [c]) t=(c:Rat):=λt=>by rw[Uy];simp only[Ux];grind
  have hs:Fj (c:Rat)≠0:=λh=>A0 hc (Gm.1 h)
  unfold sZ at h;rw[hv,Em (by rw[hv];exact hs),hv]at h;rcases h with h|h
  ·exact hs h
  ·exact h rfl
theorem VG{q:Rat}:Fe q<=((2^Ff q.num:Nat):Rat):=by
 have h1:Ff q.num<=Ff q.num:=Qj _;rw[Tg]at h1;have e:(q.num:Rat)=q*(q.den:Rat):=by
  have:(q.num:Rat) / (((q.den:Int)):Rat)=q:=by rw[Hp,Zy]
  have h2:(q.num:Rat) / (q.den:Rat)*(q.den:Rat)=q.num:=Zh (by have:=nat_pos q.den_pos;grind);rw[show(q.num:Rat) / (q.den:Rat)=q from this]at h2;exact h2.symm
 have hd:(1:Rat)<=(q.den:Rat):=by
  have:((1:Nat):Rat)<=(q.den:Rat):=Za.2 q.den_pos;exact this
 have h2:Fe q<=Fe (q.num:Rat):=by
  rw[e,Lm];have:Fe (q.den:Rat)=(q.den:Rat):=by unfold Fe;rw[if_neg (by grind)]
  rw[this];have:=Pp (a:=Fe q) (c:=1) (Hw q) Qk (by decide) hd;grind
 rw[S0]at h2;exact Zb h2 (Za.2 (J3 h1))
theorem HE{a:Tm}{w:Nat}(h:Ff a.lo.num+Ff a.hi.num<=w):a.hi-a.lo<=((2^(w+1):Nat):Rat):=by
 have h1:=VG (q:=a.lo);have h2:=VG (q:=a.hi);have h3:((2^Ff a.lo.num:Nat):Rat)<=((2^w:Nat):Rat):=Za.2 (Zo (by decide) (by omega));have h4:((2^Ff a.hi.num:Nat):Rat)<=((2^w:Nat):Rat):=Za.2 (Zo (by decide) (by omega));rw[IB];rw[Sp]at h1 h2;grind
theorem C6{p:Um}{s:Nat}(h:Bd s p):Hr p<=s:=by
 have:=Ex h p.length;rwa[Q7]at this
theorem Qhc{a b:Tm}(ha:Va a)(hb:Va b)(pa:a.point=false)(pb:b.point=false):A9 a b<=9000000:=by
 have q1:=ha.qsn pa;have q2:=hb.qsn pb;have l1:=ha.n;have l2:=hb.n;have s1:=C6 (ha.bi pa);have s2:=C6 (hb.bi pb);have b1:=q1.1.1;have b2:=q1.2.1;have b3:=q2.1.1;have b4:=q2.2.1;have:4*(a.p.length+b.p.length)*(Hr a.p+Hr b.p+(a.p.length+b.p.length)+8)<=4*18*2600:=Zs (by omega) (by omega);unfold A9;omega
theorem Qa9{a b:Tm}(ha:Va a)(hb:Va b)(pa:a.point=false)(pb:b.point=false)(hne:¬TEq a b):∃r,gK (A9 a b) a b=some r/\Qn1 a b r:=by
 obtain⟨D,M,k,h1,h2,h3⟩:=ha.hv0;obtain⟨D',M',k',h1',h2',h3'⟩:=hb.hv0;rw[zD pa]at h3;rw[zD pb]at h3';have hst:=Qhc ha hb pa pb;obtain⟨w,hw⟩:=nmE (Ff a.lo.num+Ff a.hi.num+Ff b.lo.num+Ff b.hi.num);obtain⟨K,hK⟩:=nmE (Hr a.p+Hr b.p+(a.p.length+b.p.length)+8);obtain⟨n,hn⟩:=nmE (a.p.length+b.p.length);have l1:=ha.n2;have l2:=hb.n2;have hsteps:A9 a b=64+2*w+4*n*K:=by unfold A9;rw[hw,hK,hn]
 have hg:Ry a.p b.p=K*(2*(n-2)-1):=by unfold Ry;rw[hK,hn]
 have hgle:Ry a.p b.p+5*K<=2*n*K:=by
  rw[hg,Zg K,<-Jm];exact Qw _ (by omega)
 have hKp:8<=K:=by omega
 refine Qrj ha hb hne h2 h2' (31+w+2*n*K) (A9 a b) a b k k' ((2^(w+1):Nat):Rat) ?_ h1 h1' (by omega) (by omega) (HE (by omega)) (HE (by omega)) ?_
 ·rw[hsteps,Xw,Xk 4,Xk 2 n];omega
 ·have e:2*(2^(w+1))*(2^(Ry a.p b.p+1))<=2^(31+w+2*n*K):=by
   rw[Zg 2,<-Zl,<-Xc];exact Zo (by decide) (by omega)
  have:=Za.2 e
  push_cast at this ⊢
  exact this
theorem bC{a b:Tm}(ha:Va a)(hb:Va b):∃c,vL a b=some c/\CmpOk a b c:=by
 unfold vL;by_cases pa:a.point=true
 ·rw[if_pos pa];exact⟨_,rfl,Qc9 hb (pH ha pa)⟩
 rw[if_neg pa];by_cases pb:b.point=true
 ·rw[if_pos pb];have:=(Qc9 ha (pH hb pb)).symm;rw[Int.neg_neg]at this;exact⟨_,rfl,this⟩
 rw[if_neg pb];have pa:a.point=false:=by simpa using pa
 have pb:b.point=false:=by simpa using pb
 obtain⟨L,V⟩:=ha.iv pa;obtain⟨L',V'⟩:=hb.iv pb;have eqa:∀q,Gb a q=cq (cz a.p) a.lo a.hi q:=Tt V.l;have eqb:∀q,Gb b q=cq (cz b.p) b.lo b.hi q:=Tt V'.l;obtain⟨lo,hlo⟩:=nmE (if 0<Hl b.lo a.lo then b.lo else a.lo);obtain⟨hi,hhi⟩:=nmE (if Hl b.hi a.hi<0 then b.hi else a.hi);show ∃c,(if Hl (if 0<Hl b.lo a.lo then b.lo else a.lo) (if Hl b.hi a.hi<0 then b.hi else a.hi)<0 then _ else _)=some c/\_;rw[<-hlo,<-hhi];have e1:(0<Hl b.lo a.lo)=(a.lo<b.lo):=propext Nn;have e2:(Hl b.hi a.hi<0)=(b.hi<a.hi):=propext Dc;have e3:(Hl lo hi<0)=(lo<hi):=propext Dc;simp only[e1]at hlo;simp only[e2]at hhi;simp only[e3];obtain⟨g,g1,g2,g3,g4⟩:=tI Qqq ha.tr hb.tr ha.n hb.n (ha.bi pa) (hb.bi pb) (by have:=ha.n2;omega);obtain⟨U,W,hc⟩:=g2.c;obtain⟨u,hu⟩:=g2.da;obtain⟨u',hu'⟩:=g2.db;have key:=V.same V' (g:=cz g) (u:=u) (u':=u') (U:=U) (W:=W) (k:=1) (by decide) hu hu' (λt=>by rw[Uy,Uy,Uy,hc];grind) (a:=lo) (b:=hi) (by rw[hlo];split <;> grind) (by rw[hlo];split <;> grind) (by rw[hlo];split <;> simp) (by rw[hhi];split <;> grind) (by rw[hhi];split <;> grind) (by rw[hhi];split <;> simp);have hTE:(∀q,cq (cz a.p) a.lo a.hi q=cq (cz b.p) b.lo b.hi q)↔TEq a b:=by
  unfold TEq;constructor
  ·intro h q;rw[eqa,eqb];exact h q
  ·intro h q;rw[<-eqa,<-eqb];exact h q
 rw[hTE]at key;have fin:¬TEq a b->∃c,((gK (A9 a b) a b).bind λr=>some r.2.2)=some c/\CmpOk a b c:=λhne=>by
  obtain⟨r,r1,r2⟩:=Qa9 ha hb pa pb hne;refine⟨r.2.2,by rw[r1];rfl,?_⟩;rcases r2 with h|h
  ·exact .inl h
  ·exact .inr (.inr h)
 by_cases hl:lo<hi
 ·rw[if_pos hl,g1];show ∃c,(if 1<g.length/\SX g lo hi=true then some 0 else(gK (A9 a b) a b).bind λr=>some r.2.2)=some c/\_;by_cases hh:SX g lo hi=true
  ·have hq:=(WU g lo hi).1 hh;rw[if_pos ⟨kL g2.t g2.n hq,hh⟩];exact⟨0,rfl,.inr (.inl ⟨rfl,key.1 ⟨hl,hq⟩⟩)⟩
  ·rw[if_neg λh=>hh h.2];exact fin λh=>hh ((WU g lo hi).2 (key.2 h).2)
 ·rw[if_neg hl];exact fin λh=>hl (key.2 h).1
def SgT(p:Um)(a:Tm)(s:Int):Prop:=s=0/\Dy (cz p) (Gb a)\/s≠0/\NZ (cz p) (Gb a) s
theorem Qgw{p:Um}{c:Rat->Int}(hc:Cut c){x:Rat}(h:c x=0):Fy p x=0/\Dy (cz p) c\/Fy p x≠0/\NZ (cz p) c (Fy p x):=by
 rw[H7,<-Uy];rcases QJ hc (cz p)with h1|⟨s,hs,h1⟩
 ·exact .inl ⟨Gm.2 (KU hc h h1),h1⟩
 ·have:=CJ hc h h1;rw[this];exact .inr ⟨hs,h1⟩
theorem Sy{l:Un}{lo hi:Rat}(h:lo<=hi):Gw l lo hi=(vv (l.map cz) lo:Int)-(vv (l.map cz) hi:Int):=by
 unfold Gw;rw[if_neg λh'=>by have:=Dc.1 h';grind,QQ,QQ]
theorem Qgx{p q:Um}{L:Uq}(hp:Uz p)(np:p.length<=9)(lp:2<=p.length)(hS:YH (cz q) L)(hpq:Bu (cz q) (cz p)){a:Tm}(ha:Va a){s:Int}(hnz:NZ (cz p) (Gb a) s){D M k:Nat}{x:Tm}(hx:Hv a D M k x)(hl:x.lo<x.hi)(hv:vv L x.lo≠vv L x.hi):1<(x.hi-x.lo)*((2^(Ry a.p p+1):Nat):Rat):=by
 rcases Fz ((x.hi-x.lo)*((2^(Ry a.p p+1):Nat):Rat)) 1 with hw|hw
 ·exfalso;have ca:=ha.cut;obtain⟨d,dp,x1,y1,c1,c2,hn⟩:=hnz;obtain⟨x2,x12,c3⟩:=ca.up x1 c1;obtain⟨y2,y12,c4⟩:=ca.dn y1 c2;have hpow:(0:Rat)<=((2^(Ry a.p p+1):Nat):Rat):=Xg;obtain⟨z,zp,z1,z2⟩:=min2 (a:=x2-x1) (b:=y1-y2) (by clear hn;grind) (by clear hn;grind);obtain⟨R0,hR0,r1,r2⟩:=OI x.lo x.hi;obtain⟨u,hu⟩:=hpq;refine Qd5 (R:=R0+1) (d:=z) ha.tr hp ha.n np ha.n2 lp (by clear hn;grind) zp λe ep=>?_
  obtain⟨q0,q1,q2,q3,q4,q5⟩:∃q0,x.lo<=q0/\q0<=x.hi/\x2<=q0/\q0<=y2/\Fe (Ux a.p q0)<e:=by
   rcases hx.lo' with h1|⟨h1,h2⟩
   ·obtain⟨x',y',hx',hy',hq⟩:=ha.van e ep;obtain⟨m,m1,m2,m3,m4⟩:∃m,Gb a m=1/\x.lo<=m/\x2<=m/\x'<=m:=by
     rcases Fz x.lo x2 with e1|e1
     ·rcases Fz x2 x' with e2|e2
      ·exact⟨x',hx',by clear hn hq;grind,e2,Qk⟩
      ·exact⟨x2,c3,e1,Qk,Qm e2⟩
     ·rcases Fz x.lo x' with e2|e2
      ·exact⟨x',hx',e2,by clear hn hq;grind,Qk⟩
      ·exact⟨x.lo,h1,Qk,Qm e1,Qm e2⟩
    refine⟨m,m2,?_,m3,Qm (ca.lt m1 c4),by rw[<-Uy];exact hq m m4 (Qm (ca.lt m1 hy'))⟩;rcases hx.hi' with h3|h3
    ·rcases Fz m x.hi with e1|e1
     ·exact e1
     ·have:=ca.mono x.hi m e1 (by omega);omega
    ·exact Qm (ca.lt m1 h3)
   ·exact absurd h2 (by clear hn;grind)
  obtain⟨b,hb⟩:=nmE (zX R0 u);have hb0:0<=b:=by rw[hb];exact Ox hR0 u
  obtain⟨f,fp,_,hf⟩:=Hb (b:=b) (d:=if e<=d then e else d) hb0 (by split <;> assumption);obtain⟨r,r3,r4,r5⟩:=jA hS hl hv fp;have hrR:Fe r<=R0:=WF r1 r2 r3 r4;have hpr:Fe (Ux p r)<(if e<=d then e else d):=by
   rw[<-Uy,hu];have:=G8 (Qm r5) (RP hrR u);rw[<-hb]at this;exact Jz.1 λh=>absurd (Zb h this) (Jz.2 hf)
  have hpe:Fe (Ux p r)<e:=by split at hpr <;> (clear hn;grind)
  have hpd:Fe (Ux p r)<d:=by split at hpr <;> (clear hn;grind)
  have hrout:r<x1\/y1<r:=by
   rcases Fz x1 r with e1|e1
   ·rcases Fz r y1 with e2|e2
    ·have:=(hn r e1 e2).2;rw[Uy]at this;exact absurd this (Jz.2 hpd)
    ·exact .inr e2
   ·exact .inl e1
  have hqr:z<=Fe (q0-r):=by
   clear hn;rcases hrout with h|h
   ·have:Fe (q0-r)=q0-r:=by unfold Fe;split <;> grind
    rw[this];grind
   ·have:Fe (q0-r)=r-q0:=by unfold Fe;split <;> grind
    rw[this];grind
  have hq0R:Fe q0<=R0:=WF r1 r2 q1 q2;refine⟨q0,r,by clear hn;grind,by clear hn;grind,hqr,?_,q5,hpe⟩;have h1:Fe (q0-r)<=x.hi-x.lo:=by rw[Sp];clear hn;constructor <;> grind
  exact Zb (Q4 h1 hpow) hw
 ·exact hw
theorem Qgv{p q:Um}{l:Un}(hp:Uz p)(np:p.length<=9)(lp:2<=p.length)(hS:YH (cz q) (l.map cz))(hpq:Bu (cz q) (cz p)){a:Tm}(ha:Va a){s:Int}(hnz:NZ (cz p) (Gb a) s){D M:Nat}(hM:0<M):∀(j i:Nat) (x:Tm) (k:Nat) (W:Rat),i+1<=j->Hv a D M k x->Ff (D:Int)+Ff (M:Int)+(k+j)<=16777216->x.hi-x.lo<=W->W*((2^(Ry a.p p+1):Nat):Rat)<=((2^i:Nat):Rat)->∃u k',sgF l j x=some u/\Hv a D M k' u/\(u.point=true\/Gw l u.lo u.hi=0)
 | 0,i,x,k,W,h,_,_,_,_=>by omega
 |
  j+1,i,x,k,W,hj,hx,hs,hW,hK=>by
  simp only[sgF];by_cases h:x.point=true\/Gw l x.lo x.hi=0
  ·rw[if_pos h];exact⟨x,k,rfl,hx,h⟩
  ·rw[if_neg h];obtain⟨v,v1,v2,v3,_⟩:=zU hx hM (by omega);rw[v1];show ∃u k',sgF l j v=some u/\_;have hpt:¬x.hi<=x.lo:=λh'=>h (.inl (Pd.2 h'))
   have hl:x.lo<x.hi:=by grind
   have hvv:vv (l.map cz) x.lo≠vv (l.map cz) x.hi:=λh'=>h (.inr (by rw[Sy (Qm hl)];omega))
   have hg:=Qgx hp np lp hS hpq ha hnz hx hl hvv;have hpow:(0:Rat)<=((2^(Ry a.p p+1):Nat):Rat):=Xg;have hd:∀x:Rat,x / 2*2=x:=λx=>Gd (by decide)
   cases i with
   |
    zero =>
    exfalso;rw[Ys]at hK;have:=Q4 hW hpow;have h7:((1:Nat):Rat)=1:=rfl;rw[h7]at hK;grind
   |
    succ i =>
    refine Qgv hp np lp hS hpq ha hnz hM j i v (k+1) (W / 2) (by omega) v2 (by omega) ?_ ?_
    ·have:=hd (x.hi-x.lo);have:=hd W;grind
    ·rw[IB i]at hK;have:=hd W;have:W / 2*((2^(Ry a.p p+1):Nat):Rat)*2=W*((2^(Ry a.p p+1):Nat):Rat):=by grind
     grind
theorem wO{x y:Rat}:∀{ws:Uq},(∀w∈ws,Fj (ev w x)=Fj (ev w y))->Fj (ev (Ix ws) x)=Fj (ev (Ix ws) y)
 | [],_=>by simp only[Ix];rw[Rx,Rx]
 |
  w::l,h=>by
  simp only[Ix];rw[U3,U3,Sx,Sx,h w (Q0 ..),wO λv hv=>h v (Qp _ hv)]
theorem IF{p q o:Um}(hpt:Parts p q o)(tp:Uz p)(hp:p.length≠0){L:Uq}(hS:YH (cz q) L){x y:Rat}(hxy:x<y)(hv:vv L x=vv L y):∃s,s≠0/\∀z,x<z->z<=y->Fj (Ux p z)=s:=by
 obtain⟨ws,w1,w2⟩:=hpt.ws;obtain⟨_,_,_,_,_,p6,p7⟩:=Pe tp hp;have key:∀z,x<z->z≤y->∀w∈ws.map cz,Sm w x z:=λz h1 h2 w hw=>by
  obtain⟨v,hv',rfl⟩:=Zw.1 hw;obtain⟨u,hu⟩:=(w1 v hv').2;have a1:=Dx hS h1;have a2:vv L y<=vv L z:=by
   rcases Classical.em (z=y)with e|e
   ·rw[e];exact Qj _
   ·exact Dx hS (by grind)
  exact VZ hS hu h1 (by omega)
 have hval:∀z,Ux p z=(G0 p:Rat)*ev (Ix (ws.map cz)) z:=λz=>by rw[p7,w2]
 refine⟨Fj (Ux p y),λh0=>?_,λz h1 h2=>?_⟩
 ·rw[hval,Sx]at h0;rcases Jy.1 h0 with h|h
  ·exact A0 p6 (Gm.1 h)
  ·have:∀l:Uq,(∀w∈l,Fj (ev w y)≠0)->Fj (ev (Ix l) y)≠0:=by
    intro l
    induction l with
    |nil=>intro _;simp only[Ix];rw[Rx];decide
    |
     cons w l ih =>
     intro h;simp only[Ix];rw[U3,Sx];exact Xq (h w (Q0 ..)) (ih λv hv=>h v (Qp _ hv))
   refine this _ (λw hw=>?_) h;have hs:=key y hxy Qk w hw;rw[hs.s];exact hs.n
 ·rw[hval,hval,Sx,Sx,wO (y:=y) λw hw=>(key z h1 h2 w hw).s.trans (key y hxy Qk w hw).s.symm]
theorem Qea{g p P:Um}{c:Rat->Int}(hc:Cut c)(hg:Gc g p P):Dy (cz g) c↔Dy (cz p) c/\Dy (cz P) c:=by
 constructor
 ·intro h;obtain⟨u,hu⟩:=hg.da;obtain⟨v,hv⟩:=hg.db;exact⟨Pu hc hu h,Pu hc hv h⟩
 ·rintro⟨h1,h2⟩
  obtain⟨U,V,hcc⟩:=hg.c;have a1:Dy (Gj U (cz p)) c:=Pu hc (p:=cz p) (q:=U) (λt=>by rw[U3];grind) h1;have a2:Dy (Gj V (cz P)) c:=Pu hc (p:=cz P) (q:=V) (λt=>by rw[U3];grind) h2;exact MZ (λt=>by rw[Uy,hcc,U3,U3,Uy,Uy]) a1 a2
theorem Qg5{p:Um}(hp:Okp 9 1180 p){a:Tm}(ha:Va a):∃s,YO p a=some s/\SgT p a s:=by
 unfold YO;rw[if_neg hp.nz];have ca:=ha.cut;by_cases pa:a.point=true
 ·rw[if_pos pa];exact⟨_,rfl,Qgw ca (x:=a.lo) (by rw[pH ha pa,Bh])⟩
 rw[if_neg pa];have pa:a.point=false:=by simpa using pa
 obtain⟨L,V⟩:=ha.iv pa;have eqa:∀q,Gb a q=cq (cz a.p) a.lo a.hi q:=Tt V.l;obtain⟨g,g1,g2,g3,g4⟩:=tI Qqq hp.t ha.tr hp.l ha.n (Uv hp.b (by omega)) (ha.bi pa) hp.nz;obtain⟨u',hu'⟩:=g2.db;have hhas:=V.has hu' (a:=a.lo) (b:=a.hi) Qk V.l Qk;have hvan:=Qea ca g2;rw[show cq (cz a.p) a.lo a.hi=Gb a from(funext eqa).symm]at hhas;rw[g1];show ∃s,(if 1<g.length/\SX g a.lo a.hi=true then some 0 else _)=some s/\_;by_cases hh:SX g a.lo a.hi=true
 ·have hq:=(WU g _ _).1 hh;rw[if_pos ⟨kL g2.t g2.n hq,hh⟩];exact⟨0,rfl,.inl ⟨rfl,(hvan.1 (hhas.1 hq).1).1⟩⟩
 ·rw[if_neg λh=>hh h.2];have hnv:¬Dy (cz p) (Gb a):=λh=>hh ((WU g _ _).2 (hhas.2 ⟨hvan.2 ⟨h,ha.van⟩,by rw[eqa];exact Mj Qk,by rw[eqa];exact V.hi1⟩))
  rcases QJ ca (cz p)with h|⟨s,PK,hnz⟩
  ·exact absurd h hnv
  obtain⟨q,o,q1,q2,hpt⟩:=xH hp;obtain⟨q',l,r1,r2,hS,hl0⟩:=chain_ok hp;rw[q1]at r1;injection r1 with r1;subst r1;rw[r2];show ∃s,((sgF (q::l) (64+2*(Ff a.lo.num+Ff a.hi.num)+4*(a.p.length+p.length)*(Hr a.p+Hr p+(a.p.length+p.length)+8)) a).bind λx=>some (Fy p x.hi))=some s/\_;obtain⟨w,hw⟩:=nmE (Ff a.lo.num+Ff a.hi.num);obtain⟨K,hK⟩:=nmE (Hr a.p+Hr p+(a.p.length+p.length)+8);obtain⟨n,hn⟩:=nmE (a.p.length+p.length);rw[<-hw,<-hK,<-hn];obtain⟨gg,sq⟩:=hpt.sq;obtain⟨_,_,_,_,_,pf0,pfe⟩:=Pe hp.t hp.nz;have hpq:Bu (cz q) (cz p):=⟨Pv (G0 p) (cz gg),λt=>by rw[Uy,Uy,Fq,Uy,pfe,sq.e];grind⟩;obtain⟨D,M,k,h1,h2,h3⟩:=ha.hv0;rw[zD pa]at h3;have b1:=(ha.qsn pa).1.1;have b2:=(ha.qsn pa).2.1;have l1:=ha.n;have l2:=hp.l;have l3:=ha.n2;have s1:=C6 (ha.bi pa);have s2:=C6 hp.b;have hst:4*n*K<=4*18*2466:=Zs (by omega) (by omega);have hend:∃u k',sgF (q::l) (64+2*w+4*n*K) a=some u/\Hv a D M k' u/\(u.point=true\/Gw (q::l) u.lo u.hi=0):=by
   by_cases De:p.length<2
   ·have hq1:(U5 p)=[1]:=hp.pr.1.one (by have:=hp.pr.2.1;omega);have hql:q.length<2:=by
     have e:=sq.e;rw[hq1]at e;obtain⟨p1,p2⟩:=G7 (c:=[1]) rfl (by simp) e;have:=Rv sq.pg.t sq.pq.t (c:=[1]) rfl e p1 p2;simp at this;omega
    have hbt:Gw (q::l) a.lo a.hi=0:=by
     rw[Sy (Qm V.l),hl0 hql,sq.pq.one hql];have hv1:∀x:Rat,ev (cz [1]) x=1:=λx=>by rw[Uy,G9]
     simp only[Z0,Ja,vv,tc,hv1];omega
    refine⟨a,k,?_,h1,.inr hbt⟩;obtain⟨m,hm⟩:∃m,64+2*w+4*n*K=m+1:=⟨63+2*w+4*n*K,by omega⟩;rw[hm];simp only[sgF];rw[if_pos (.inr hbt)]
   ·have hg:Ry a.p p=K*(2*(n-2)-1):=by unfold Ry;rw[hK,hn]
    have hgle:Ry a.p p+5*K<=2*n*K:=by
     rw[hg,Zg K,<-Jm];exact Qw _ (by omega)
    have hKp:8<=K:=by omega
    have hnK:2*n*K<=4*n*K:=Qw _ (by omega);obtain⟨u,k',u1,u2,u3⟩:=Qgv hp.t hp.l (by omega) hS hpq ha hnz h2 (64+2*w+4*n*K) (2+w+2*n*K) a k ((2^(w+1):Nat):Rat) (by omega) h1 (by omega) (HE (by omega)) (by
     have e:(2^(w+1))*(2^(Ry a.p p+1))<=2^(2+w+2*n*K):=by
      rw[<-Xc];exact Zo (by decide) (by omega)
     have:=Za.2 e
     push_cast at this ⊢
     exact this)
    exact⟨u,k',u1,u2,u3⟩
  obtain⟨u,k',u1,u2,u3⟩:=hend;rw[u1];refine⟨_,rfl,.inr ?_⟩;have hfin:Fy p u.hi=s:=by
   rcases u2.hi' with hz|hz
   ·have:=CJ ca hz hnz;rw[H7,<-Uy];exact this
   ·rcases u2.i with⟨e,_⟩|⟨L',V'⟩
    ·have:=u2.c u.hi;rw[Lh e,e,Bh]at this;omega
    ·have hup:u.point=false:=by
      have:¬u.point=true:=λh=>by have:=Pd.1 h;have:=V'.l;grind
      simpa using this
     rcases u3 with h|h
     ·rw[hup]at h;cases h
     ·rw[Sy (Qm V'.l)]at h;obtain⟨s',hs',hps⟩:=IF hpt hp.t hp.nz hS V'.l (by omega);obtain⟨d,dp,x,y,hx,hy,hq⟩:=hnz;have hlo1:Gb a u.lo=1:=by
       rcases u2.lo' with h|⟨_,h⟩
       ·exact h
       ·have:=V'.l;clear hps hq;grind
      obtain⟨m,m1,m2,m3⟩:=FP ca hlo1 hx;have e1:=(hq m (Qm m3) (Qm (ca.lt m1 hy))).1;have e2:=hps m m2 (Qm (ca.lt m1 hz));have e3:=hps u.hi V'.l Qk;rw[H7,e3,<-e2,<-Uy,e1]
  rw[hfin];exact⟨PK,hnz⟩
end Orq
