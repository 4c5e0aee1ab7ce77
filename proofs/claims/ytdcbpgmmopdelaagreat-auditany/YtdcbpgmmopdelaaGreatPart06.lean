/- F3 T14 T15 T16 T17 T18 T19 Z1 Z2 ZA T20 T21 T22 -/
import Derived.Test.YtdcbpgmmopdelaaGreatPart05
import Derived.Test.YtdcbpgmmopdelaaGreatPart00
import Derived.Test.YtdcbpgmmopdelaaGreatPart04
set_option linter.all false
namespace Orr
open Go Go.Proofs Tryz
set_option maxRecDepth 10000
structure Tb(t:Tm):Prop where
 p:Pb t.p
 lo:Qb t.lo
 hi:Qb t.hi
theorem oN(x y:Int):-1<=E8 x y/\E8 x y<=1:=by unfold E8;split <;> (try split) <;> omega
theorem KQ(a b:Rat):-1<=Tj a b/\Tj a b<=1:=oN _ _
theorem I1(p:Ft)(q:Rat):-1<=Hp p q/\Hp p q<=1:=oN _ _
theorem dN(p:Ft)(q:Rat):-1<=low p q/\low p q<=1:=by unfold low;split <;> exact I1 _ _
theorem Qb.s31{q:Rat}(h:Qb q):Qs 2147483647 q:=h.mono (by decide)
theorem Qb.s32{q:Rat}(h:Qb q):Qs 4294967295 q:=h.mono (by decide)
theorem NB{p:Ft}{q:Rat}(hp:Pb p)(hq:Qb q):Fo 288 [pr p,.agg (rl q)] [.oi (Hp p q)]:=by
 have hm:p.length*(16777216+1)<=64*16777217:=Qx _ hp.l;exact iW hp.t hp.ln hp.b hq (by omega)
theorem Qw6{p:Ft}{q:Rat}(hp:Pb p)(hq:Qb q):Fo 288 [pr (Hm p),.agg (rl q)] [.oi (Hp (Hm p) q)]:=by
 have hl:=Qe (Pn p) (show p.length-1<=64 by have:=hp.l;omega);have hm:(Hm p).length*(16777216+1)<=64*16777217:=Qx _ hl;exact iW (Gk _ _) (Xg hl (by omega)) (BK (t:=6) hp.b hp.l) hq (by omega)
theorem GV{t:Tm}(ht:Tb t):Fo 287 [.agg (ta t)] [.one (.bool t.point)] :=
 Fi func287 rfl [.k (LZ ht.lo.s31 ht.hi.s31)] rfl
theorem Qoa{t:Tm}(ht:Tb t):Fo 286 [.agg (ta t)] [.agg (ta t)] :=
 Fi func286 rfl [.k (Mk ht.p.t ht.p.ln ht.p.bd),.k (yA ht.lo.s32),.k (yA ht.hi.s32)] rfl
theorem Qgw{p:Ft}{q:Rat}(hp:Pb p)(hq:Qb q):Fo 363 [pr p,.agg (rl q)] [.oi (low p q)]:=by
 unfold low;by_cases h:Hp p q=0
 ·rw[if_neg (by simpa using h)];exact Fi func363 rfl [.k (NB hp hq),.f (by simpa using h),.k (VA hp.ln hp.bd),.k (Qw6 hp hq)] rfl
 ·rw[if_pos h];exact Fi func363 rfl [.k (NB hp hq),.t (by simpa using h)] rfl
theorem Qt3{p:Ft}{lo hi:Rat}(hp:Pb p)(hl:Qb lo)(hh:Qb hi):Fo 290 [pr p,.agg (rl lo),.agg (rl hi)] [.one (.bool (ND p lo hi))]:=by
 by_cases h:Hp p hi=0
 ·exact Fi func290 rfl [.k (NB hp hh),.t (by simpa using h)] rfl (by simp[ND,h]) trivial
 ·exact Fi func290 rfl [.k (NB hp hh),.f (by simpa using h),.k (Qgw hp hl)] rfl (by simp[ND,h]) trivial
theorem Qtp{t:Tm}{q:Rat}(ht:Tb t)(hq:Qb q):Fo 327 [.agg (ta t),.agg (rl q)] [.oi (Hk t q)]:=by
 have cp:=GV ht;unfold Hk;by_cases h1:t.point=true
 ·rw[if_pos h1];exact Fi func327 rfl [.k cp,.t h1,.k (LZ ht.lo.s31 hq.s31)] rfl
 rw[if_neg h1];have h1:t.point=false:=by simpa using h1
 have c1:=LZ hq.s31 ht.lo.s31;have c2:=LZ hq.s31 ht.hi.s31;by_cases h2:Tj q t.lo<=0
 ·rw[if_pos h2];exact Fi func327 rfl [.k cp,.f h1,.k c1,.t (by simpa using h2)] rfl
 rw[if_neg h2];by_cases h3:0<Tj q t.hi
 ·rw[if_pos h3];exact Fi func327 rfl [.k cp,.f h1,.k c1,.f (by simpa using h2),.k c2,.t (by simpa using h3)] rfl
 rw[if_neg h3];by_cases h4:Hp t.p q=0
 ·rw[if_pos h4];exact Fi func327 rfl [.k cp,.f h1,.k c1,.f (by simpa using h2),.k c2,.f (by simpa using h3),.k (NB ht.p hq),.t (by simpa using h4)] rfl
 rw[if_neg h4];by_cases h5:Hp t.p q=low t.p t.lo
 ·rw[if_pos h5];exact Fi func327 rfl [.k cp,.f h1,.k c1,.f (by simpa using h2),.k c2,.f (by simpa using h3),.k (NB ht.p hq),.f (by simpa using h4),.k (Qgw ht.p ht.lo),.t (by simpa using h5)] rfl
 ·rw[if_neg h5];exact Fi func327 rfl [.k cp,.f h1,.k c1,.f (by simpa using h2),.k c2,.f (by simpa using h3),.k (NB ht.p hq),.f (by simpa using h4),.k (Qgw ht.p ht.lo),.f (by simpa using h5)] rfl
theorem Qxg(q:Rat):0<(q.den:Int):=by have:=q.den_pos;omega
theorem Qw3{a b:Rat}(ha:Qb a)(hb:Qb b):Fo 371 [.agg (rl a),.agg (rl b)] [.agg (rl (O7 a b))]:=by
 have h1:Gy (a.num*(b.den:Int))<=33554432:=Qe (Hn _ _) (by have:=ha.1;have:=hb.2;omega);have h2:Gy (b.num*(a.den:Int))<=33554432:=Qe (Hn _ _) (by have:=hb.1;have:=ha.2;omega);have h3:Gy ((a.den:Int)*(b.den:Int))<=33554432:=Qe (Hn _ _) (by have:=ha.2;have:=hb.2;omega);have h4:Gy (2:Int)<=2:=by decide
 have h5:Gy (a.num*(b.den:Int)+b.num*(a.den:Int))<=33554433:=Qe (KG _ _) (by omega);have h6:Gy ((a.den:Int)*(b.den:Int)*2)<=33554434:=Qe (Hn _ _) (by omega);have h0:(a.den:Int)*(b.den:Int)*2≠0:=by
  have:=Fa (Qxg a) (Qxg b);omega
 exact Fi func371 rfl [.k (iP ha.s31 hb.s31),.k (DC (Gl _) (Gl _) (by omega) (by omega)),.k (bY (z:=2) (by decide)),.k (Dl (Gl _) (Gl _) (by omega) (by omega)),.k (DL h0 (by omega) (by omega))] rfl
theorem bO{q r:Rat}(h:oW q=some r):r=q/\Qb q:=by
 unfold oW at h
 split at h
 ·rename_i hc;injection h with h;exact⟨h.symm,hc⟩
 ·cases h
theorem Qt2{t u:Tm}(ht:Tb t)(h:half t=some u):Fo 294 [.agg (ta t)] [.agg (ta u)]:=by
 have cp:=GV ht;unfold half at h
 split at h
 ·rename_i h1;injection h with h;subst h;exact Fi func294 rfl [.k cp,.t h1] rfl
 ·rename_i h1;have h1:t.point=false:=by simpa using h1
  obtain⟨m,hm0,h⟩:=Qk.1 h;obtain⟨rfl,hm⟩:=bO hm0;injection h with h;subst h;have cm:=Qw3 ht.lo ht.hi;have cc:=Qtp ht hm;by_cases h2:Hk t (O7 t.lo t.hi)=0
  ·rw[if_pos h2];exact Fi func294 rfl [.k cp,.f h1,.k cm,.k cc,.t (by simpa using h2)] rfl
  rw[if_neg h2];by_cases h3:Hk t (O7 t.lo t.hi)=-1
  ·rw[if_pos h3];exact Fi func294 rfl [.k cp,.f h1,.k cm,.k cc,.f (by simpa using h2),.t (by simpa using h3)] rfl
  ·rw[if_neg h3];exact Fi func294 rfl [.k cp,.f h1,.k cm,.k cc,.f (by simpa using h2),.f (by simpa using h3)] rfl
theorem Qrb{t u:Tm}(ht:Tb t)(h:half t=some u):Tb u:=by
 unfold half at h
 split at h
 ·injection h with h;subst h;exact ht
 ·obtain⟨m,hm0,h⟩:=Qk.1 h;obtain⟨rfl,hm⟩:=bO hm0;injection h with h;subst h
  repeat' split
  ·exact⟨ht.p,hm,hm⟩
  ·exact⟨ht.p,ht.lo,hm⟩
  ·exact⟨ht.p,hm,ht.hi⟩
theorem yR{z:Int}(h:Gy z<=4294967296):Fo 368 [.one (mg z)] [.oi (Gy z:Int)]:=by
 have h1:=nO (l:=Hw z.natAbs) (E4 _) (by rw[Rm];exact h);rw[Rm]at h1;exact h1
theorem IN{p:Ft}{i:Nat}{z:Int}(h:p[i]? = some z):Tt (p.take (i+1))=max (Tt (p.take i)) (Gy z):=by
 unfold Tt;rw[List.take_succ,h,Option.toList_some,List.foldl_append];rfl
theorem I2{p:Ft}{s:Nat}(h:Bd s p):∀i,Tt (p.take i)<=s
 | 0=>by simp[Tt]
 |
  i+1=>by
  cases hz:p[i]? with
  |
   none =>
   rw[Qo (by have:=Yh.1 hz;omega),<-Qo (l:=p) (i:=i) (by have:=Yh.1 hz;omega)];exact I2 h i
  |some z=>rw[IN hz];have:=I2 h i;have:=Qf4 h hz;omega
theorem Qhf{p:Ft}(hp:Pb p):Fo 369 [pr p] [.oi (Tt p:Int)]:=by
 have hl:=hp.l;refine Sp func369 rfl ?_;refine Ff [] rfl ?_;refine Fl (S:=Nat) 0 (λL1 i=>(8,.v (.oi i))::(3,.v (.oi (Tt (p.take i):Int)))::L1) (λ_=>[]) (λi=>p.length-i) (λi=>i<=p.length) 0 (Qh _) rfl rfl λi hi=>?_
 by_cases hlt:i<p.length
 ·have hg:=S8 hlt;have hz:=G5 hp.b i;have hs:=IN hg;refine Fg [.t (by simp;omega),.x (Nv hg),.k (yR (by omega)),.r 16 (eI (b:=(Tt (p.take (i+1)):Int)) (by rw[hs];omega))] rfl ?_;exact rd (i+1) (by omega) hlt rfl
 ·obtain rfl:i=p.length:=by omega
  rw[Zd];exact Fh [.f (by simp)] rfl
def aZ(p:Ft)(a:Tm):Nat:=64+2*(Gy a.lo.num+Gy a.hi.num)+4*(a.p.length+p.length)*(Tt a.p+Tt p+(a.p.length+p.length)+8)
theorem iY:Fo 368 [lr []] [.oi 0]:=nO (l:=[]) (by simp[Sm]) (by decide)
theorem Qhg{a:Tm}{p:Ft}(ha:Tb a)(hp:Pb p):Fo 292 [.agg (ta a),.agg ([pl p,.bool false,.row [],.bool false,.row [],.bool false,.row [],.bool false,.row []])] [.oi (aZ p a:Nat)]:=by
 have l1:=ha.p.l;have l2:=hp.l;have b1:=ha.lo.1;have b2:=ha.hi.1;have s1:Tt a.p<=16777216:=by have:=I2 ha.p.b a.p.length;rwa[Zd]at this
 have s2:Tt p<=16777216:=by have:=I2 hp.b p.length;rwa[Zd]at this
 obtain⟨N,hN⟩:=nmE (4*(a.p.length+p.length));obtain⟨S,hS⟩:=nmE (Tt a.p+Tt p+(a.p.length+p.length)+8);have hNS:N*S<=512*33554568:=Xi (by omega) (by omega);have h0:(N:Int)*(S:Int)=((N*S:Nat):Int):=(K8 _ _).symm;have hst:aZ p a=64+2*(Gy a.lo.num+Gy a.hi.num)+N*S:=by rw[hN,hS];rfl
 rw[hst];exact Fi func292 rfl [.k (yR (z:=a.lo.num) (by omega)),.k (yR (z:=a.hi.num) (by omega)),.k iY,.k iY,.r 41 (eI (b:=(N:Int)) (by rw[hN];simp)),.k (Qhf ha.p),.k (Qhf hp),.r 51 (eI (b:=(S:Int)) (by rw[hS];simp)),.r 52 (eI (b:=((N*S:Nat):Int)) h0)] rfl (by simp) (by rw[h0];simp[Ge];omega)
end Orr
namespace Orq
open Orr Go
theorem lJ(p:Ft)(t:Rat):Gf p t=((p.getD 0 0:Int):Rat)+t*Gf p.tail t:=by
 cases p with
 |nil=>show(0:Rat)=((0:Int):Rat)+t*0;grind
 |cons a p=>rfl
theorem SN(p:Ft)(k:Nat):p.tail.getD k 0=p.getD (k+1) 0:=by
 cases p <;> simp
theorem Lu(c d:Int)(t:Rat):∀(n:Nat) (p q r:Ft),p.length<=n->q.length<=n->r.length<=n->(∀k,r.getD k 0=c*p.getD k 0+d*q.getD k 0)->Gf r t=(c:Rat)*Gf p t+(d:Rat)*Gf q t
 |
  0,p,q,r,hp,hq,hr,_=>by
  rw[Qg (Nat.le_zero.1 hp),Qg (Nat.le_zero.1 hq),Qg (Nat.le_zero.1 hr)];show(0:Rat)=_*0+_*0;grind
 |
  n+1,p,q,r,hp,hq,hr,h=>by
  have ih:=Lu c d t n p.tail q.tail r.tail (by rw[Uw];omega) (by rw[Uw];omega) (by rw[Uw];omega) λk=>by
   rw[SN,SN,SN];exact h (k+1)
  rw[lJ p,lJ q,lJ r,ih,h 0]
  push_cast
  grind
theorem Qbx{p q:Ft}(h:∀k,p.getD k 0=q.getD k 0)(t:Rat):Gf p t=Gf q t:=by
 have:=Lu 1 0 t (max p.length q.length) q q p (Ux ..) (Ux ..) (Nat.le_max_left ..) λk=>by rw[h k];omega
 rw[this]
 push_cast
 grind
theorem Iy(p:Ft)(t:Rat):Gf (trim p) t=Gf p t:=Qbx (D9 p) t
theorem Ro{p:Ft}{k:Nat}(h:p.length<=k):p.getD k 0=0:=by
 rw[Qc,Qt h];rfl
theorem xW(p q:Ft)(k:Nat):(Ms p q).getD k 0=p.getD k 0+q.getD k 0:=by
 unfold Ms;rw[Sy]
 split
 ·rfl
 ·rename_i h;rw[Ro (p:=p) (by omega),Ro (p:=q) (by omega)];rfl
theorem D6(p q:Ft)(k:Nat):(P7 p q).getD k 0=p.getD k 0-q.getD k 0:=by
 unfold P7;rw[Sy]
 split
 ·rfl
 ·rename_i h;rw[Ro (p:=p) (by omega),Ro (p:=q) (by omega)];rfl
theorem Ts(p:Ft)(c:Int)(k:Nat):(Gs p c).getD k 0=p.getD k 0*c:=by
 unfold Gs;rw[Sy]
 split
 ·rfl
 ·rename_i h;rw[Ro (p:=p) (by omega),Int.zero_mul]
theorem xB(p:Ft)(k:Nat):(Nm p).getD k 0=-(p.getD k 0):=by
 unfold Nm;rw[Sy]
 split
 ·rfl
 ·rename_i h;rw[Ro (p:=p) (by omega)];rfl
theorem My(p:Ft)(k:Nat):(Hm p).getD k 0=p.getD (k+1) 0*((k+1:Nat):Int):=by
 unfold Hm;rw[Sy]
 split
 ·rfl
 ·rename_i h;rw[Ro (p:=p) (by omega),Int.zero_mul]
theorem Mz(p q:Ft)(t:Rat):Gf (Ms p q) t=Gf p t+Gf q t:=by
 have:=Lu 1 1 t (max (max p.length q.length) (Ms p q).length) p q (Ms p q) (by omega) (by omega) (by omega) λk=>by rw[xW];omega
 rw[this];push_cast;grind
theorem Bp(p q:Ft)(t:Rat):Gf (P7 p q) t=Gf p t-Gf q t:=by
 have:=Lu 1 (-1) t (max (max p.length q.length) (P7 p q).length) p q (P7 p q) (by omega) (by omega) (by omega) λk=>by rw[D6];omega
 rw[this];push_cast;grind
theorem ZL(p:Ft)(t:Rat):Gf (Nm p) t=-Gf p t:=by
 have:=Lu (-1) 0 t (max p.length (Nm p).length) p p (Nm p) (by omega) (by omega) (by omega) λk=>by rw[xB];omega
 rw[this];push_cast;grind
theorem Td(p:Ft)(c:Int)(t:Rat):Gf (Gs p c) t=Gf p t*(c:Rat):=by
 have:=Lu c 0 t (max p.length (Gs p c).length) p p (Gs p c) (by omega) (by omega) (by omega) λk=>by rw[Ts,Ki];omega
 rw[this];push_cast;grind
theorem wK:∀(l:Ft) (j:Nat) (v:Int) (t:Rat),j<l.length->Gf (l.set j v) t=Gf l t+((v:Rat)-((l.getD j 0:Int):Rat))*t^j
 | [],_,_,_,h=>by simp at h
 |
  a::l,0,v,t,_=>by
  show(v:Rat)+t*Gf l t=(a:Rat)+t*Gf l t+((v:Rat)-(a:Rat))*t^0;rw[Xt];grind
 |
  a::l,j+1,v,t,h=>by
  have ih:=wK l j v t (by simpa using h);show(a:Rat)+t*Gf (l.set j v) t=(a:Rat)+t*Gf l t+((v:Rat)-((l.getD j 0:Int):Rat))*t^(j+1);rw[ih,Xh];grind
theorem IH:∀(l:Ft) (k:Nat) (t:Rat),k<l.length->Gf (l.take (k+1)) t=Gf (l.take k) t+((l.getD k 0:Int):Rat)*t^k
 | [],_,_,h=>by simp at h
 |
  a::l,0,t,_=>by
  show(a:Rat)+t*Gf (l.take 0) t=0+(a:Rat)*t^0;rw[Xt,Vy];show(a:Rat)+t*0=_;grind
 |
  a::l,k+1,t,h=>by
  have ih:=IH l k t (by simpa using h);show(a:Rat)+t*Gf (l.take (k+1)) t=(a:Rat)+t*Gf (l.take k) t+((l.getD k 0:Int):Rat)*t^(k+1);rw[ih,Xh];grind
theorem xM(n:Nat)(t:Rat):Gf (List.replicate n 0) t=0:=by
 induction n with
 |zero=>rfl
 |
  succ n ih =>
  show((0:Int):Rat)+t*Gf (List.replicate n 0) t=0;rw[ih];push_cast;grind
theorem mX(t:Rat)(i:Nat):∀k,t^(i+k)=t^i*t^k
 | 0=>by rw[Jd,Xt];grind
 |k+1=>by rw[<-Vd,Xh,Xh,mX t i k];grind
theorem pV(x:Int)(b:Ft)(i:Nat)(o:Ft)(t:Rat):∀k,k<=b.length->i+k<=o.length->Gf (ZU x b i o k) t=Gf o t+(x:Rat)*t^i*Gf (b.take k) t
 |
  0,_,_=>by
  show Gf o t=Gf o t+(x:Rat)*t^i*0;grind
 |
  k+1,h1,h2=>by
  have ih:=pV x b i o t k (by omega) (by omega);simp only[ZU];rw[wK _ _ _ _ (by rw[ZH];omega),ih,IH b k t (by omega)];have hp:t^(i+k)=t^i*t^k:=mX t i k;rw[hp]
  push_cast
  grind
theorem pY(a b o:Ft)(t:Rat):∀i,i<=a.length->i+b.length<=o.length+1->Gf (Lq a b o i) t=Gf o t+Gf (a.take i) t*Gf b t
 |
  0,_,_=>by
  show Gf o t=Gf o t+0*Gf b t;grind
 |
  i+1,h1,h2=>by
  have ih:=pY a b o t i (by omega) (by omega);simp only[Lq];rw[pV _ _ _ _ _ b.length (Qn _) (by rw[Lr];omega),ih,IH a i t (by omega),Zd];grind
theorem Gn(a b:Ft)(t:Rat):Gf (Gq a b) t=Gf a t*Gf b t:=by
 unfold Gq
 split
 ·rename_i h;rcases h with h|h
  ·rw[Qg h];show(0:Rat)=0*_;grind
  ·rw[Qg h];show(0:Rat)=_*0;grind
 ·rename_i h;rw[Iy,pY a b _ t a.length (Qn _) (by rw[Jf];omega),xM,Zd];grind
theorem Tq(z d:Int):(z:Rat) / (d:Rat)=Rat.divInt z d:=by
 by_cases h:d=0
 ·subst h;simp;grind
 ·rw[Yo];exact(Rat.divInt_eq_div z d ▸ by rw[Yo])
theorem uC(a:Ft)(n d:Int)(hd:(d:Rat)≠0):∀k,k<=a.length->(((Bw a n d k).2:Int):Rat)=(d:Rat)^k/\(((Bw a n d k).1:Int):Rat)*d=(d:Rat)^k*Gf (a.drop (a.length-k)) ((n:Rat) / d)
 |
  0,_=>by
  refine⟨by rw[Xt];rfl,?_⟩;rw[Ua,List.drop_length];show((0:Int):Rat)*d=(d:Rat)^0*0
  push_cast;grind
 |
  k+1,hk=>by
  obtain⟨h1,h2⟩:=uC a n d hd k (by omega);have hi:a.length-1-k<a.length:=by omega
  have e1:a.drop (a.length-(k+1))=a.getD (a.length-1-k) 0::a.drop (a.length-k):=by
   rw[show a.length-(k+1)=a.length-1-k by omega,Xc hi,show a.length-1-k+1=a.length-k by omega];congr 1;rw[Qc,Qf hi];rfl
  refine⟨?_,?_⟩
  ·show(((Bw a n d k).2*d:Int):Rat)=_;rw[X8,h1,Xh]
  ·rw[e1];show(((Bw a n d k).1*n+a.getD (a.length-1-k) 0*(Bw a n d k).2:Int):Rat)*d=_*(((a.getD (a.length-1-k) 0:Int):Rat)+(n:Rat) / d*Gf (a.drop (a.length-k)) ((n:Rat) / d));rw[Wb,X8,X8,h1,Xh];have h3:(n:Rat) / d*d=n:=by rw[Zb hd]
   have h4:(d:Rat)^k*d*((n:Rat) / d*Gf (a.drop (a.length-k)) ((n:Rat) / d))=((n:Rat) / d*d)*((d:Rat)^k*Gf (a.drop (a.length-k)) ((n:Rat) / d)):=by grind
   have h5:(d:Rat)^k*d*(((a.getD (a.length-1-k) 0:Int):Rat)+(n:Rat) / d*Gf (a.drop (a.length-k)) ((n:Rat) / d))=(d:Rat)^k*d*((a.getD (a.length-1-k) 0:Int):Rat)+(d:Rat)^k*d*((n:Rat) / d*Gf (a.drop (a.length-k)) ((n:Rat) / d)):=by grind
   rw[h5,h4,h3,<-h2];grind
theorem wH{d:Rat}(h:0<d):∀k:Nat,0<d^k
 | 0=>by rw[Xt];decide
 |k+1=>by rw[Xh];exact Xj (wH h k) h
theorem L8{x y:Rat}(h:0<y):Gt (y*x)=Gt x:=by
 unfold Gt;have h1:y*x<0↔x<0:=by
  constructor
  ·intro h2;rcases Kq (a:=0) (b:=x)with h3|h3
   ·have:=Jn (Qm h) h3;grind
   ·rcases Yf.1 h3 with h4|h4
    ·exact h4
    ·rw[h4]at h2;grind
  ·intro h2;have:=Xj h (show 0 < -x by grind);grind
 have h2:0<y*x↔0<x:=by
  constructor
  ·intro h2;rcases Kq (a:=x) (b:=0)with h3|h3
   ·have:=Jn (Qm h) (show 0<=-x by grind);grind
   ·rcases Yf.1 h3 with h4|h4
    ·exact h4
    ·rw[<-h4]at h2;grind
  ·intro h2;exact Xj h h2
 simp only[h1,h2]
theorem Qhp(z:Int):E8 z 0=Gt (z:Rat):=by
 unfold E8 Gt;have h1:((z:Int):Rat)<0↔z<0:=by
  have := @Rat.intCast_lt_intCast z 0;simpa using this
 have h2:0<((z:Int):Rat)↔0<z:=by
  have := @Rat.intCast_lt_intCast 0 z;simpa using this
 simp only[h1,h2]
theorem Se(p:Ft)(q:Rat):Hp p q=Gt (Gf p q):=by
 have hd0:(0:Rat)<((q.den:Int):Rat):=by
  have := @Rat.intCast_lt_intCast 0 (q.den:Int);rw[show((0:Int):Rat)=0 from rfl]at this;exact this.2 (den_pos q)
 have hd:((q.den:Int):Rat)≠0:=by intro h;rw[h]at hd0;exact absurd hd0 (by decide)
 obtain⟨_,h⟩:=uC p q.num q.den hd p.length (Qn _);rw[Yl,Ja,Tq,Z9]at h;unfold Hp;rw[Qhp,<-L8 hd0,Uz];show Gt ((((Bw p q.num q.den p.length).1:Int):Rat)*_)=_;rw[h,L8 (wH hd0 _)]
def cz(p:Ft):Fw:=p.map λz:Int=>(z:Rat)
theorem Gg(t:Rat):∀p,ev (cz p) t=Gf p t
 | []=>rfl
 |a::p=>by have:=Gg t p;simp only[cz,Zx,ev,Gf]at *;rw[this]
theorem Ng:∀(p:Ft) (k:Nat),(cz p).getD k 0=((p.getD k 0:Int):Rat)
 | [],k=>by simp[cz]
 |a::p,0=>by simp[cz]
 |a::p,k+1=>by have:=Ng p k;simp only[cz,Zx,Q0]at *;exact this
theorem Lt{p q:Ft}(h:∀t,Gf p t=Gf q t)(k:Nat):p.getD k 0=q.getD k 0:=by
 have:=Lm (p:=cz p) (q:=cz q) (λt=>by rw[Gg,Gg,h]) k;rw[Ng,Ng]at this
 exact_mod_cast this
theorem WV{p q:Ft}(hp:Gh p)(hq:Gh q)(h:∀k,p.getD k 0=q.getD k 0):p=q:=by
 have key:∀{p q:Ft},Gh p->Gh q->(∀k,p.getD k 0=q.getD k 0)->p.length<=q.length:=λ{p q} hp hq h=>by
  rcases Q7 q.length p.length with e|e
  ·have:=Rz hp (by omega);rw[h,Qc,Qt (by omega)]at this;exact absurd rfl this
  ·exact e
 exact EF (Vp (key hp hq h) (key hq hp λk=>(h k).symm)) λj _=>h j
theorem Oj{p q:Ft}(hp:Gh p)(hq:Gh q)(h:∀t,Gf p t=Gf q t):p=q:=WV hp hq (Lt h)
theorem Qp4{p:Ft}(hp:Gh p)(h:∀t,Gf p t=0):p=[]:=Oj hp rfl λt=>by rw[h];rfl
theorem Dh{p:Ft}(h:p.length=0)(t:Rat):Gf p t=0:=by rw[Qg h];rfl
theorem Qbw:∀(p r:Ft) (t:Rat),(∀k,r.getD k 0=p.getD (k+1) 0*((k+1:Nat):Int))->Gf r t=dv (cz p) t
 |
  [],r,t,h=>by
  rw[Qbx (q:=[]) (λk=>by rw[h];simp) t];rfl
 |
  a::p,r,t,h=>by
  have ih:=Qbw p (Hm p) t λk=>My p k
  have e:Gf r t=Gf p t+t*Gf (Hm p) t:=by
   have:=Lu 1 1 t (max (max p.length (0::Hm p).length) r.length) p (0::Hm p) r (by omega) (by omega) (by omega) λk=>by
    rw[h,Q0];cases k with
    |zero=>simp
    |succ k=>rw[Q0,My];push_cast;grind
   rw[this];simp only[Gf];push_cast;grind
  rw[e,ih];show _=ev (cz p) t+t*dv (cz p) t;rw[Gg]
theorem C7(p:Ft)(t:Rat):Gf (Hm p) t=dv (cz p) t:=Qbw p _ t λk=>My p k
theorem WL{p:Ft}(hp:Gh p)(h:0<p.length):HD (cz p) (p.length-1):=by
 refine⟨?_,λk hk=>?_⟩
 ·rw[Ng];have:=Rz hp h;exact λe=>this (by exact_mod_cast e)
 ·rw[Ng,Qc,Qt (by omega)];rfl
theorem JC{p:Ft}(hp:Gh p)(h:0<p.length):¬∀t,Gf p t=0:=λh0=>by
 rw[Qp4 hp h0]at h;exact absurd h (by simp)
theorem S5{a b c:Ft}(ha:Gh a)(hb:Gh b)(hc:Gh c)(h:∀t,Gf c t=Gf a t*Gf b t)(la:0<a.length)(lb:0<b.length):c.length=a.length+b.length-1:=by
 have h1:=SC (WL ha la) (WL hb lb);have h2:HD (cz c) (a.length-1+(b.length-1)):=Qi4 (λt=>by rw[Gj,Gg,Gg,Gg,h]) h1;have lc:0<c.length:=by
  rcases Qy c.length with e|e
  ·exact absurd (λt=>by rw[Gg];exact Dh e t) (Qav h2)
  ·exact e
 have:=Qsk (WL hc lc) h2;omega
theorem pT:∀(n m:Nat),m<=n->2<=m->∃P,2<=P/\P∣m/\∀d,2<=d->d∣P->d=P
 | 0,m,h,h2=>by omega
 |
  n+1,m,h,h2=>by
  rcases Classical.em (∃d,2<=d/\d<m/\d∣m)with⟨d,d1,d2,d3⟩|h0
  ·obtain⟨P,p1,p2,p3⟩:=pT n d (by omega) d1;exact⟨P,p1,Nat.dvd_trans p2 d3,p3⟩
  ·refine⟨m,h2,Nat.dvd_refl m,λd d1 d2=>?_⟩;rcases V8 (Kx (by omega) d2)with e|e
   ·exact absurd ⟨d,d1,e,d2⟩ h0
   ·exact e
theorem vT{P:Nat}(h2:2<=P)(hP:∀d,2<=d->d∣P->d=P){x y:Int}(h:(P:Int)∣x*y):(P:Int)∣x\/(P:Int)∣y:=by
 have h:=X2.2 h;rw[Ya,Zw]at h;have hg:=Wv P x.natAbs;rcases Q7 (Nat.gcd P x.natAbs) 2 with e|e
 ·right;have h1:Nat.gcd P x.natAbs=1:=by
   have:=Nat.gcd_pos_of_pos_left x.natAbs (show 0<P by omega);omega
  have:=Nat.Coprime.dvd_of_dvd_mul_left h1 h;exact X2.1 (by rwa[Zw])
 ·left;have:=hP _ e hg;have h3:=Ut P x.natAbs;rw[this]at h3;exact X2.1 (by rwa[Zw])
def nF(P:Int)(l:Ft):Prop:=∀k,P∣l.getD k 0
theorem TK{P:Nat}(h2:2<=P)(hP:∀d,2<=d->d∣P->d=P):∀(n:Nat) (b h c:Ft),b.length+h.length<=n->(∀t,Gf c t=Gf b t*Gf h t)->nF P c->nF P b\/nF P h
 |_,[],h,c,_,_,_=>.inl λk=>by simp
 |_,x::b,[],c,_,_,_=>.inr λk=>by simp
 | 0,x::b,y::h,c,hn,_,_=>by simp at hn
 |
  n+1,x::b,y::h,c,hn,hc,hd=>by
  simp only[Zf]at hn;by_cases hx:(P:Int)∣x
  ·-- x h is taken away
   have e:∀t,Gf (0::Gq b (y::h)) t=Gf (P7 c (Gs (y::h) x)) t:=λt=>by
    rw[Bp,Td,hc];simp only[Gf];rw[Gn];simp only[Gf];push_cast;grind
   have hd':nF P (Gq b (y::h)):=λk=>by
    have:=Lt e (k+1);rw[Q0,D6,Ts]at this;rw[this];exact Int.dvd_sub (hd (k+1)) (V4 hx (Vz _ _))
   rcases TK h2 hP n b (y::h) _ (by simp only[Zf];omega) (λt=>Gn _ _ t) hd' with h1|h1
   ·refine .inl λk=>?_
    cases k with
    |zero=>rw[Zr];exact hx
    |succ k=>rw[Q0];exact h1 k
   ·exact .inr h1
  ·have h0:(P:Int)∣y:=by
    have e:c.getD 0 0=x*y:=by
     have:=Lt (p:=c) (q:=Gq (x::b) (y::h)) (λt=>by rw[hc,Gn]) 0;have e2:=Lt (p:=Gq (x::b) (y::h)) (q:=Ms (Gs (y::h) x) (0::Gq b (y::h))) (λt=>by
      rw[Mz,Td,Gn];simp only[Gf];rw[Gn];simp only[Gf];push_cast;grind) 0
     rw[this,e2,xW,Ts,Zr,Zr,Ki];omega
    have:=hd 0;rw[e]at this;rcases vT h2 hP this with h1|h1
    ·exact absurd h1 hx
    ·exact h1
   have e:∀t,Gf (0::Gq (x::b) h) t=Gf (P7 c (Gs (x::b) y)) t:=λt=>by
    rw[Bp,Td,hc];simp only[Gf];rw[Gn];simp only[Gf];push_cast;grind
   have hd':nF P (Gq (x::b) h):=λk=>by
    have:=Lt e (k+1);rw[Q0,D6,Ts]at this;rw[this];exact Int.dvd_sub (hd (k+1)) (V4 h0 (Vz _ _))
   rcases TK h2 hP n (x::b) h _ (by simp only[Zf];omega) (λt=>Gn _ _ t) hd' with h1|h1
   ·exact absurd (by have:=h1 0;rwa[Zr]at this) hx
   ·refine .inr λk=>?_
    cases k with
    |zero=>rw[Zr];exact h0
    |succ k=>rw[Q0];exact h1 k
def Prm(b:Ft):Prop:=∀d:Int,nF d b->d∣1
theorem Qin{a b:Ft}(hb:Prm b):∀(n:Nat) (c:Int) (h:Ft),c.natAbs<=n->c≠0->(∀t,(c:Rat)*Gf a t=Gf b t*Gf h t)->∃h',∀t,Gf a t=Gf b t*Gf h' t
 | 0,c,h,hn,h0,_=>absurd (by omega) h0
 |
  n+1,c,h,hn,h0,hc=>by
  rcases Q7 c.natAbs 2 with h1|h1
  ·refine⟨Gs h c,λt=>?_⟩;have hcc:(c:Rat)*c=1:=by
    have:c*c=1:=by
     rcases(show c=1\/c=-1 by omega)with rfl|rfl <;> rfl
    have:=congrArg (λz:Int=>(z:Rat)) this
    push_cast at this;exact this
   rw[Td];have:=hc t;have:Gf a t=(c:Rat)*((c:Rat)*Gf a t):=by
    have:(c:Rat)*((c:Rat)*Gf a t)=((c:Rat)*c)*Gf a t:=by grind
    rw[this,hcc];grind
   rw[this,hc];grind
  ·obtain⟨P,p1,p2,p3⟩:=pT c.natAbs c.natAbs (Qn _) h1;obtain⟨d,hd⟩:∃d,c=(P:Int)*d:=Ul.2 p2;have hall:nF P (Gs a c):=λk=>by
    rw[Ts,hd];exact V4 (Vu _ _) (Vz _ _)
   have hP0:(P:Rat)≠0:=by
    have:((0:Nat):Rat)<(P:Rat):=Kc.2 (by omega);grind
   rcases TK p1 p3 _ b h (Gs a c) (Qn _) (λt=>by rw[Td,Uz,hc]) hall with e|e
   ·have:=hb P e;have:=X2.2 this;rw[Zw]at this;have:=Kx (by decide) this;exact absurd this (by show ¬P<=1;omega)
   ·refine Qin hb n d (h.map (· / (P:Int))) ?_ (λe0=>h0 (by rw[hd,e0,Kj])) λt=>?_
    ·rw[hd,Ya,Zw]at hn h1;have:2*d.natAbs<=P*d.natAbs:=Qx _ p1;omega
    ·have e1:Gf h t=(P:Rat)*Gf (h.map (· / (P:Int))) t:=by
      have:=Lu P 0 t (max h.length (h.map (· / (P:Int))).length) (h.map (· / (P:Int))) [] h (by omega) (by simp) (by omega) λk=>by
       have:=e k;have e2:(h.map (· / (P:Int))).getD k 0=h.getD k 0 / (P:Int):=by
        rw[Qc,Qc,Q8];cases h[k]? <;> simp
       rw[e2,W5 this];simp
      rw[this];simp only[Gf];push_cast;grind
     have:=hc t;rw[hd,e1]at this
     push_cast at this
     have h3:(P:Rat)*((d:Rat)*Gf a t)=(P:Rat)*(Gf b t*Gf (h.map (· / (P:Int))) t):=by grind
     have h4:=Xl.1 (show(P:Rat)*((d:Rat)*Gf a t-Gf b t*Gf (h.map (· / (P:Int))) t)=0 by grind);rcases h4 with h4|h4
     ·exact absurd h4 hP0
     ·grind
theorem qD:∀u:Fw,∃c:Int,c≠0/\∃h:Ft,∀t,(c:Rat)*ev u t=Gf h t
 | []=>⟨1,by decide,[],λt=>by simp only[ev,Gf];grind⟩
 |
  a::u=>by
  obtain⟨c,hc,h,hh⟩:=qD u;refine⟨c*(a.den:Int),X6 hc (by have:=a.den_nz;omega),(c*a.num)::Gs h (a.den:Int),λt=>?_⟩;have e:(a.den:Rat)*a=a.num:=by
   rw[Uz];have:(a.num:Rat) / (((a.den:Int)):Rat)=a:=by rw[Tq,Z9]
   have hd:(a.den:Rat)≠0:=by
    have:((0:Nat):Rat)<(a.den:Rat):=Kc.2 a.den_pos;grind
   have h2:(a.num:Rat) / (a.den:Rat)*(a.den:Rat)=a.num:=Zb hd;rw[show(a.num:Rat) / (a.den:Rat)=a from this]at h2;exact h2
  simp only[ev,Gf];rw[Td,<-hh]
  push_cast
  rw[<-e];have e3:(((a.den:Int)):Rat)=(a.den:Rat):=rfl;grind
theorem MP{a b:Ft}(hb:Prm b)(h:Lf (cz b) (cz a)):∃h',Gh h'/\∀t,Gf a t=Gf b t*Gf h' t:=by
 obtain⟨u,hu⟩:=h;obtain⟨c,hc,h,hh⟩:=qD u;obtain⟨h',e⟩:=Qin hb c.natAbs c h (Qn _) hc λt=>by
  have:=hu t;rw[Gg,Gg]at this;rw[this,<-hh];grind
 exact⟨trim h',Tg _,λt=>by rw[Iy,e]⟩
def sd(x0:Rat):Fw->Fw
 | []=>[]
 |_::p=>Sj p (Nj x0 (sd x0 p))
theorem Qid(x0 x:Rat):∀p,ev (sd x0 p) x=dq p x x0
 | []=>rfl
 |a::p=>by simp only[sd,dq];rw[Hl,Hb,Qid x0 x p]
theorem eS(x0:Rat):∀(g:Fw) (n:Nat),(∀j,n<j->g.getD j 0=0)->∀j,n<=j->(sd x0 g).getD j 0=0
 | [],n,_,j,_=>by simp[sd]
 |
  a::p,0,h,j,_=>by
  have hp:∀j,p.getD j 0=0:=λj=>by have:=h (j+1) (by omega);rwa[Q0]at this
  simp only[sd];rw[So,Pm,hp,eS x0 p 0 (λj _=>hp j) j (Qh _)];grind
 |
  a::p,n+1,h,j,hj=>by
  have hp:∀j,n<j->p.getD j 0=0:=λj hj=>by have:=h (j+1) (by omega);rwa[Q0]at this
  simp only[sd];rw[So,Pm,hp j (by omega),eS x0 p n hp j (by omega)];grind
theorem dW{K:Rat}(hK:0≤K):∀(e:Nat) (g:Fw) (pts:Ft) (M:Rat),pts.length=e+1->pts.Nodup->(∀x∈pts,Gw (x:Rat)≤K)->(∀k,e<k->g.getD k 0=0)->(∀x∈pts,Gw (ev g (x:Rat))≤M)->∀k,Gw (g.getD k 0)≤(2*K+3)^e*M
 |_,_,[],_,h,_,_,_,_=>by simp at h
 |
  0,g,x0::xs,M,_,_,_,hg,hM=>λk=>by
  have h0:=hM x0 (by simp);rw[Xt];cases k with
  |
   zero =>
   have e:ev g (x0:Rat)=g.getD 0 0:=by
    cases g with
    |nil=>rfl
    |
     cons a p =>
     have hp:=Ev (p:=p) λj=>by have:=hg (j+1) (by omega);rwa[Q0]at this
     simp only[ev,hp,Zr];grind
   rw[<-e];grind
  |
   succ k =>
   rw[hg (k+1) (by omega),Sw];have:=Tx (ev g (x0:Rat));grind
 |
  e+1,g,x0::xs,M,hl,hn,hb,hg,hM=>λk=>by
  have hx0:=hb x0 (by simp);have hM0:=hM x0 (by simp);have hMn:0<=M:=Zi (Tx _) hM0;rw[List.nodup_cons]at hn;have ih:=dW hK e (sd x0 g) xs (2*M) (by simpa using hl) hn.2 (λx hx=>hb x (by simp[hx])) (λj hj=>eS _ g (e+1) hg j (by omega)) λx hx=>by
   have h1:=hM x (by simp[hx]);have h2:=zY (x:Rat) (x0:Rat) g;rw[<-Qid]at h2;have hne:x-x0≠0:=λh=>hn.1 (by rw[show x0=x by omega];exact hx)
   have h3:=JZ hne;rw[Rat.intCast_sub]at h3;have h4:Gw (ev g (x:Rat)-ev g (x0:Rat))<=2*M:=by
    have:=Mm (ev g (x:Rat)) (-ev g (x0:Rat));rw[Aw,show ev g (x:Rat)+-ev g (x0:Rat)=ev g (x:Rat)-ev g (x0:Rat) by grind]at this;clear hM hb hg;grind
   rw[h2,Av]at h4;have h5:=Q6 h3 (Tx (ev (sd x0 g) x));clear hM hb hg;grind
  have e1:∀t,ev g t=ev (Sj [ev g x0] (Sj (Nj (-x0) (sd x0 g)) (0::sd x0 g))) t:=λt=>by
   have:=zY t (x0:Rat) g;rw[<-Qid]at this;simp only[Hl,Hb,ev];grind
  have hp1:1<=(2*K+3)^e:=(KA (R:=2*K+3) (x:=0) (by grind) (by rw[Sw];grind) e).2;have hpM:=Cm (x:=(2*K+3)^e) (y:=M) (by grind) hMn;have hpM1:=Q6 hp1 hMn;rw[Xh,Lm e1 k,So,So,Pm];have a1:=ih k;have a2:Gw (-(x0:Rat)*(sd (x0:Rat) g).getD k 0)<=K*((2*K+3)^e*(2*M)):=Rq (by rw[Aw];exact hx0) a1;have fin:∀u v w:Rat,Gw u<=M->Gw v<=K*((2*K+3)^e*(2*M))->Gw w<=(2*K+3)^e*(2*M)->Gw (u+(v+w))<=(2*K+3)^e*(2*K+3)*M:=λu v w h1 h2 h3=>by
   have b1:=Mm u (v+w);have b2:=Mm v w;clear ih e1 hM hb hg a1 a2;grind
  refine fin _ _ _ ?_ a2 ?_
  ·cases k with
   |zero=>rw[Zr];exact hM0
   |succ k=>rw[Q0,Ws,Sw];exact hMn
  ·cases k with
   |zero=>rw[Zr,Sw];clear ih e1 hM hb hg a1 a2 fin;grind
   |succ k=>rw[Q0];exact ih k
theorem Qlc{g:Fw}{e:Nat}(hg:∀k,e<k->g.getD k 0=0)(hz:¬∀t,ev g t=0){pts:Ft}(hn:pts.Nodup)(hr:∀x∈pts,ev g (x:Rat)=0):pts.length≤e:=by
 rcases Q7 e pts.length with h|h
 ·exfalso;obtain⟨K,hK,hb⟩:∃K:Rat,0≤K/\∀x∈pts,Gw (x:Rat)≤K:=by
   clear hn hr h
   induction pts with
   |nil=>exact⟨0,by decide,λx hx=>by cases hx⟩
   |
    cons y pts ih =>
    obtain⟨K,h1,h2⟩:=ih;refine⟨K+Gw (y:Rat),by have:=Tx (y:Rat);grind,λx hx=>?_⟩;have hy:=Tx (y:Rat);rcases Qj.1 hx with rfl|hx
    ·grind
    ·have:=h2 x hx;grind
  refine hz (Ev λk=>?_);have:=dW hK e g (pts.take (e+1)) 0 (by rw[Qz];omega) (hn.sublist (Us ..)) (λx hx=>hb x (Qq hx)) hg (λx hx=>by rw[hr x (Qq hx),Sw];exact Ql) k;have h2:=Tx (g.getD k 0);exact Qqe (by grind)
 ·exact h
def spots:Ft:=(List.range 19).map λi:Nat=>(i:Int)-9
theorem spots_nd:spots.Nodup:=by decide
theorem mK:∀x∈spots,x.natAbs≤9:=by decide
theorem EH{α:Type}(p:α->Bool):∀l:List α,(l.filter p).length+(l.filter λx => !p x).length=l.length
 | []=>rfl
 |
  x::l=>by
  have:=EH p l;cases h:p x <;> simp[h] <;> omega
def geo:Nat->Nat
 | 0=>0
 |n+1=>1+9*geo n
theorem Qal{B:Rat}:∀(p:Ft),(∀z∈p,Gw (z:Rat)≤B)->vP 9 (cz p)≤B*(geo p.length:Nat)
 | [],_=>by simp only[cz,Jj,vP,geo,Y7];rw[show((0:Nat):Rat)=0 from rfl];grind
 |
  a::p,h=>by
  have h1:=Qal p λz hz=>h z (Qi _ hz)
  have h2:=h a (Qw ..);simp only[cz,Zx,vP,geo,Zf]at *
  push_cast
  clear h;grind
theorem Qiv{m n:Nat}(h:m<=n):geo m<=geo n:=by
 induction h with
 |refl=>exact Qn _
 |step h ih=>simp only[geo];omega
def pz:Ft->Int->Int
 | [],_=>0
 |a::p,x=>a+x*pz p x
theorem UE(x:Int):∀p,Gf p (x:Rat)=((pz p x:Int):Rat)
 | []=>rfl
 |a::p=>by simp only[Gf,pz,UE x p];push_cast;rfl
theorem Mq(z:Int):Gw (z:Rat)=((z.natAbs:Nat):Rat):=by
 unfold Gw;rcases W4 z 0 with h|h
 ·have h1:(z:Rat)<((0:Int):Rat):=Jm.2 h;rw[if_pos (by simpa using h1)];have:(z.natAbs:Int)=-z:=by omega
  have:=congrArg (λu:Int=>(u:Rat)) this
  push_cast at this
  exact this.symm
 ·have h1:((0:Int):Rat)<=(z:Rat):=Jx.2 h;have h1:(0:Rat)<=(z:Rat):=by simpa using h1
  rw[if_neg (by grind)];have:(z.natAbs:Int)=z:=by omega
  have:=congrArg (λu:Int=>(u:Rat)) this;exact this.symm
theorem E9{p g h:Ft}{s:Nat}(hp:Bd s p)(hl:p.length<=10)(tp:Gh p)(tg:Gh g)(th:Gh h)(h0:p.length≠0)(e:∀t,Gf p t=Gf g t*Gf h t):Bd (s+69) g:=by
 have lg:0<g.length:=by
  rcases Qy g.length with e'|e'
  ·exact absurd (λt=>by rw[e,Dh e'];grind) (JC tp (by omega))
  ·exact e'
 have lh:0<h.length:=by
  rcases Qy h.length with e'|e'
  ·exact absurd (λt=>by rw[e,Dh e'];grind) (JC tp (by omega))
  ·exact e'
 have hlen:=S5 tg th tp e lg lh;obtain⟨q,hq⟩:=nmE (spots.filter λx => !decide (pz p x=0));have hr:(spots.filter λx=>decide (pz p x=0)).length<=9:=by
  refine Qlc (g:=cz p) (e:=9) (λk hk=>?_) (λh=>JC tp (by omega) λt=>by rw[<-Gg];exact h t) (spots_nd.sublist K0) λx hx=>?_
  ·rw[Ng,Qc,Qt (by omega)];rfl
  ·have:=(Jo.1 hx).2;rw[Gg,UE,of_decide_eq_true this];rfl
 have hc:=EH (λx=>decide (pz p x=0)) spots;rw[<-hq]at hc;have hsl:spots.length=19:=by decide
 have hB:∀z∈p,Gw (z:Rat)≤((2^s:Nat):Rat):=λz hz=>by
  rw[Mq];have:=hp z hz;rw[Pf]at this;exact Zg.2 (Yk this)
 have key:=dW (K:=9) (by decide) 9 (cz g) (q.take 10) (((2^s*435848050:Nat)):Rat) (by rw[Qz];omega) ((spots_nd.sublist (by rw[hq];exact K0)).sublist (Us ..)) (λx hx=>by
  have hx:=Qq hx;rw[hq]at hx;have:=mK x (Jo.1 hx).1;rw[Mq]
  exact_mod_cast Zg.2 this) (λk hk=>by rw[Ng,Qc,Qt (by omega)];rfl) (λx hx=>by
  have hx:=Qq hx;rw[hq]at hx;obtain⟨hx1,hx2⟩:=Jo.1 hx;have hne:pz p x≠0:=by simpa using hx2
  have e1:=e (x:Rat);rw[UE,UE,UE]at e1;have e2:pz p x=pz g x*pz h x:=by exact_mod_cast e1
  have hh:1<=(pz h x).natAbs:=by
   rcases Qy (pz h x).natAbs with e'|e'
   ·exact absurd (by rw[e2,Int.natAbs_eq_zero.1 e',Kj]) hne
   ·exact e'
  have h3:(pz g x).natAbs<=(pz p x).natAbs:=by
   rw[e2,Ya];exact J8 _ hh
  rw[Gg,UE,Mq];refine Zi (Zg.2 h3) ?_;rw[<-Mq,<-UE,<-Gg];refine Zi (MS (R:=9) (by
   have:=mK x hx1;rw[Mq]
   exact_mod_cast Zg.2 this) _) ?_
  refine Zi (Qal p hB) ?_;have:2^s*geo p.length<=2^s*435848050:=Zl _ (Qe (Qiv hl) (by decide));have:=Zg.2 this
  push_cast at this ⊢
  exact this)
 refine DV λk=>?_
 have h1:=key k;rw[Ng,Mq]at h1;have e3:(2*(9:Rat)+3)^9*((2^s*435848050:Nat):Rat)=(((794280046581*(2^s*435848050)):Nat):Rat):=by
  rw[show(2*(9:Rat)+3)^9=794280046581 by grind]
  push_cast;rfl
 rw[e3]at h1;have h2:=Zg.1 h1;rw[Pf];refine Xg h2 ?_;have:794280046581*(2^s*435848050)=2^s*(794280046581*435848050):=by
  rw[Wo]
 rw[this,Xq];exact Nat.mul_lt_mul_of_pos_left (by decide) (Zy (by decide))
theorem tQ{l:Ft}{d:Int}(h:∀z∈l,d∣z):d∣((Tu l:Nat):Int):=by
 have key:∀(l:Ft) (g:Nat),d.natAbs∣g->(∀z∈l,d∣z)->d.natAbs∣l.foldl (λg z=>Nat.gcd g z.natAbs) g:=by
  intro l
  induction l with
  |nil=>exact λg h _=>h
  |cons z l ih=>exact λg hg h=>ih _ (Nat.dvd_gcd hg (X2.2 (h z (Qw ..)))) λu hu=>h u (Qi _ hu)
 have:=key l 0 (Nat.dvd_zero _) h;exact X2.1 (by rw[Zw];exact this)
theorem GB(p:Ft)(c:Int)(k:Nat):(p.map (· / c)).getD k 0=p.getD k 0 / c:=by
 rw[Qc,Qc,Q8];cases p[k]? <;> simp
theorem Du(p:Ft)(c:Int)(k:Nat):(Ai p c).getD k 0=p.getD k 0 / c:=by
 unfold Ai;rw[D9,GB]
theorem xT{p:Ft}{c:Int}(h:∀z∈p,c∣z)(t:Rat):Gf p t=(c:Rat)*Gf (Ai p c) t:=by
 have:=Lu c 0 t (max p.length (Ai p c).length) (Ai p c) [] p (by omega) (by simp) (by omega) λk=>by
  rw[Du];have hd:c∣p.getD k 0:=by
   rw[Qc];cases e:p[k]? with
   |none=>exact Int.dvd_zero _
   |some z=>exact h z (Qa e)
  rw[W5 hd];simp
 rw[this];simp only[Gf];push_cast;grind
theorem O5{c:Int}(h:c≠0):(c:Rat)≠0:=λe=>h (by exact_mod_cast e)
theorem Ap{p q:Ft}{c:Rat}(tp:Gh p)(tq:Gh q)(hc:c≠0)(h:∀t,Gf p t=c*Gf q t):p.length=q.length:=by
 have key:∀{p q:Ft} {c:Rat},Gh p->Gh q->c≠0->(∀t,Gf p t=c*Gf q t)->p.length<=q.length:=λ{p q c} tp tq hc h=>by
  rcases Q7 q.length p.length with e|e
  ·have h1:=Rz tp (by omega);have:=Lm (p:=cz p) (q:=Nj c (cz q)) (λt=>by rw[Gg,Hb,Gg,h]) (p.length-1);rw[Ng,Pm,Ng,Qc (l:=q),Qt (by omega)]at this;have:((p.getD (p.length-1) 0:Int):Rat)=0:=by rw[this];simp
   exact absurd (by exact_mod_cast this) h1
  ·exact e
 refine Vp (key tp tq hc h) (key (c:=1 / c) tq tp (λe=>?_) λt=>?_)
 ·have:=Zb (a:=1) hc;rw[e]at this;grind
 ·rw[h];have:=Zb (a:=1) hc;grind
theorem M4{p:Ft}(tp:Gh p)(h:p.length≠0):Gh (Gm p)/\(Gm p).length=p.length/\Prm (Gm p)/\0<Gp (Gm p)/\(∀s,Bd s p->Bd s (Gm p))/\Rl p≠0/\∀t,Gf p t=(Rl p:Rat)*Gf (Gm p) t:=by
 have h0:=Qby tp h;have e:Gm p=Ai p (Rl p):=by unfold Gm;rw[if_neg h]
 have h1:=xT (p:=p) (c:=Rl p) HH;have hl:=Ap tp (JU p (Rl p)) (O5 h0) h1;have hcp:0<Mx p:=by
  have:=ZP tp h;unfold Mx at this ⊢;omega
 rw[e];refine⟨JU _ _,hl.symm,λd hd=>?_,?_,λs hs=>DK hs _,h0,h1⟩
 ·have h2:∀z∈p,d*Rl p∣z:=λz hz=>by
   obtain⟨i,hi⟩:=Zp.1 hz;have h3:=hd i;rw[Du,Qc,hi]at h3;obtain⟨k,hk⟩:=h3;have h4:=HH z hz;refine⟨k,?_⟩;have:z / Rl p*Rl p=z:=Uc h4;rw[<-this];rw[show z / Rl p=d*k from hk,Int.mul_right_comm]
  have h3:=tQ h2;have h4:Rl p∣((Tu p:Nat):Int)/\((Tu p:Nat):Int)∣Rl p:=by
   unfold Rl Mx;split
   ·exact⟨Fb.2 (W2 _),Int.dvd_neg.2 (W2 _)⟩
   ·exact⟨W2 _,W2 _⟩
  obtain⟨k,hk⟩:=V4 h3 h4.2;refine⟨k,?_⟩;have:Rl p*(d*k)=Rl p*1:=by rw[Ui,<-Int.mul_assoc,Ki (Rl p) d,<-hk]
  exact(Int.eq_of_mul_eq_mul_left h0 this).symm
 ·have h2:Gp (Ai p (Rl p))=Gp p / Rl p:=by unfold Gp;rw[<-hl,Du]
  have h3:Rl p∣Gp p:=HH _ (sZ h);have h5:Gp p / Rl p*Rl p=Gp p:=Uc h3;rw[h2];have h6:=Ln tp h;rcases Yd (Gp p / Rl p) 0 with e1|e1|e1
  ·exfalso;by_cases hn:Gp p<0
   ·have:Rl p=-Mx p:=by unfold Rl;rw[if_pos hn]
    have:0<Gp p / Rl p*Rl p:=K7 e1 (by omega);omega
   ·have:Rl p=Mx p:=by unfold Rl;rw[if_neg hn]
    have:Gp p / Rl p*Rl p<0:=Int.mul_neg_of_neg_of_pos e1 (by omega);omega
  ·rw[e1]at h5;omega
  ·exact e1
theorem pW{r:Ft}(tr:Gh r):∃c:Rat,0<c/\∀t,Gf r t=c*Gf (I0 r) t:=by
 unfold I0;by_cases h:r.length=0
 ·rw[if_pos h];exact⟨1,by decide,λt=>by rw[Dh h,Dh rfl];grind⟩
 ·rw[if_neg h];have h1:0<Mx r:=by
   have:=ZP tr h;unfold Mx at this ⊢;omega
  have h2:((0:Int):Rat)<(Mx r:Rat):=Jm.2 h1;exact⟨Mx r,by simpa using h2,xT ZS⟩
theorem ZN(x:Int)(t:Rat):∀i,Gf (mono i x) t=(x:Rat)*t^i
 | 0=>by simp only[mono,Ue,J4,Gf,Xt];grind
 |
  i+1=>by
  have ih:=ZN x t i;simp only[mono,Ye,Xa,Gf]at *;rw[ih,Xh];push_cast;grind
theorem kT(x:Int)(b:Ft)(i k:Nat):(Gq (trim (mono i x)) b).getD k 0=if i<=k then x*b.getD (k-i) 0 else 0:=by
 have e:∀t,Gf (Gq (trim (mono i x)) b) t=Gf (List.replicate i 0++b.map (x * ·)) t:=λt=>by
  rw[Gn,Iy,ZN];have h2:∀i,Gf (List.replicate i 0++b.map (x * ·)) t=t^i*((x:Rat)*Gf b t):=λi=>by
   induction i with
   |
    zero =>
    simp only[Ue,J4,Xt];have:=Lu x 0 t (max b.length (b.map (x * ·)).length) b [] (b.map (x * ·)) (by omega) (by simp) (by omega) λk=>by
     rw[Qc,Qc,Q8];cases b[k]? <;> simp
    rw[this];simp only[Gf];push_cast;grind
   |succ i ih=>simp only[Ye,Xa,Gf,ih,Xh];push_cast;grind
  rw[h2];grind
 rw[Lt e k,Qc,List.getElem?_append,Jf];by_cases h:i<=k
 ·rw[if_neg (by omega),if_pos h,Q8,Qc];cases b[k-i]? <;> simp
 ·rw[if_pos (by omega),if_neg h,Ys,if_pos (by omega)];rfl
theorem kX{p:Ft}{n:Nat}(tp:Gh p)(h:p.length<=n+1)(h0:p.getD n 0=0):p.length<=n:=by
 rcases Q7 n p.length with e|e
 ·have:=Rz tp (by omega);rw[show p.length-1=n by omega]at this;exact absurd h0 this
 ·exact e
theorem Qq8{b r:Ft}{i:Nat}(tr:Gh r)(h:r.length<=b.length+i)(hb:b.length≠0){x:Int}(hx:x=if r.length=b.length+i then Gp r else 0):(str b (Gp b) i x r).length<b.length+i:=by
 have hl:=kV (c:=Gp b) (x:=x) (i:=i) (b:=b) (r:=r);have:=kX (p:=str b (Gp b) i x r) (n:=b.length+i-1) (Gk _ _) (by omega) (by
  unfold str;rw[D6,Ts,kT,if_pos (by omega),hx,show b.length+i-1-i=b.length-1 by omega]
  split
  ·rename_i he;unfold Gp;rw[he,Int.sub_eq_zero]
  ·rw[Qc (l:=r),Qt (by omega)];simp)
 omega
theorem Qmd(b r:Ft)(c:Int)(i:Nat)(x:Int)(t:Rat):(c:Rat)*Gf r t=(x:Rat)*t^i*Gf b t+Gf (str b c i x r) t:=by
 unfold str;rw[Bp,Td,Gn,Iy,ZN];grind
theorem Qks(b:Ft)(c:Int):∀(i:Nat) (q r:Ft),∃X:Fw,∀t,((c^i:Int):Rat)*Gf r t=ev X t*Gf b t+Gf (pS b c i (q,r)).2 t
 | 0,q,r=>⟨[],λt=>by simp only[pS,ev];rw[Int.pow_zero];push_cast;grind⟩
 |
  i+1,q,r=>by
  obtain⟨x,hx⟩:=nmE (if r.length=b.length+i then Gp r else 0);obtain⟨X,hX⟩:=Qks b c i (stq c i x q) (str b c i x r);obtain⟨m,hm⟩:∃m:Fw,∀t,ev m t=(x:Rat)*t^i:=⟨cz (mono i x),λt=>by rw[Gg,ZN]⟩;refine⟨Sj (Nj ((c^i:Int):Rat) m) X,λt=>?_⟩;rw[VH hx,Hl,Hb,hm];have h1:=hX t;have h2:=Qmd b r c i x t;rw[Int.pow_succ]
  push_cast at h1 ⊢
  have:(c:Rat)^i*c*Gf r t=(c:Rat)^i*((c:Rat)*Gf r t):=by grind
  rw[this,h2];grind
theorem wR{b:Ft}(hb:b.length≠0):∀(i:Nat) (q r:Ft),Gh r->r.length<b.length+i->Gh (pS b (Gp b) i (q,r)).2/\(pS b (Gp b) i (q,r)).2.length<b.length
 | 0,q,r,tr,h=>⟨tr,h⟩
 |
  i+1,q,r,tr,h=>by
  rw[VH rfl];exact wR hb i _ _ (Gk _ _) (Qq8 tr (by omega) hb rfl)
theorem Qkr{b:Ft}{c:Int}{t:Nat}(hb:Bd t b)(hc:Gy c<=t):∀(i u:Nat) (q r:Ft),i<=64->Bd u r->Bd (u+i*(t+8)) (pS b c i (q,r)).2
 | 0,u,q,r,_,h=>by simpa[pS]using h
 |
  i+1,u,q,r,hi,h=>by
  rw[VH rfl];have hx:Gy (if r.length=b.length+i then Gp r else 0)<=u:=by
   split
   ·exact Nk h
   ·rw[C3];exact Qh _
  have:=Qkr hb hc i (u+t+8) (stq c i (if r.length=b.length+i then Gp r else 0) q) (str b c i (if r.length=b.length+i then Gp r else 0) r) (by omega) (nC h hb hc hx (by omega));exact Gd this (by rw[Xp];omega)
theorem IP{c:Int}(h:c<0):∀k:Nat,(k % 2=1->c^k<0)/\(k % 2=0->0<c^k)
 | 0=>⟨λh=>by omega,λ_=>by rw[Int.pow_zero];decide⟩
 |
  k+1=>by
  obtain⟨i1,i2⟩:=IP h k;rw[Int.pow_succ];exact⟨λhk=>Vw (i2 (by omega)) h,λhk=>K7 (i1 (by omega)) h⟩
theorem HO{a b:Ft}(ta:Gh a)(tb:Gh b)(hb:b.length≠0)(hl:a.length<=60):Gh (Rv a b)/\(Rv a b).length<b.length/\(∀s,Bd s a->Bd s b->Bd (s+(a.length+1-b.length)*(s+8)) (Rv a b)) /\
 ∃u v:Rat,0<u/\0<v/\∃X:Fw,∀t,u*Gf a t=ev X t*Gf b t+v*Gf (Rv a b) t:=by
 obtain⟨k,hk⟩:=nmE (a.length+1-b.length);have h1:Gh (Nw a b)/\(Nw a b).length<b.length:=wR hb _ _ _ ta (by omega);obtain⟨X,hX⟩:=Qks b (Gp b) k [] a;have hX:∀t,(((Gp b)^k:Int):Rat)*Gf a t=ev X t*Gf b t+Gf (Nw a b) t:=by unfold Nw;rw[<-hk];exact hX
 have h2:=HB (a:=a) (b:=b) (r:=Nw a b) (n:=(Nw a b).length) (s:=(Nw a b).foldl (λm z=>m+Gy z) 0) h1.1 (Qn _) (λz hz=>by
  have key:∀(l:Ft) (m:Nat),m≤l.foldl (λm z=>m+Gy z) m/\∀z∈l,Gy z≤l.foldl (λm z=>m+Gy z) m:=by
   intro l
   induction l with
   |nil=>exact λm=>⟨Qn _,λz hz=>by cases hz⟩
   |
    cons y l ih =>
    intro m;obtain⟨i1,i2⟩:=ih (m+Gy y);refine⟨by simp only[Z0];omega,λz hz=>?_⟩;simp only[Z0];rcases Qj.1 hz with rfl|hz
    ·omega
    ·exact i2 z hz
  exact(key _ 0).2 z hz)
 have h3:=IT (r:=Cf a b (Nw a b)) (n:=(Nw a b).length) h2.2.1 h2.2.2;refine⟨h3.1,by unfold Rv;omega,λs ha hbs=>?_,?_⟩
 ·have h4:=Qkr (c:=Gp b) hbs (Nk hbs) k s [] a (by omega) ha;have h5:=HB (a:=a) (b:=b) (n:=(Nw a b).length) h1.1 (Nat.le_refl _) (show Bd (s+k*(s+8)) (Nw a b) by unfold Nw;rw[<-hk];exact h4);rw[<-hk];exact(IT h5.2.1 h5.2.2).2.2
 ·obtain⟨v,vp,hv⟩:=pW h2.1;have hc:=Ln tb hb;by_cases ht:k % 2=1/\Gp b<0
  ·have e1:Cf a b (Nw a b)=Nm (Nw a b):=by unfold Cf;rw[<-hk,if_pos ht]
   have hneg:(Gp b)^k<0:=(IP ht.2 k).1 ht.1;have h5:(((Gp b)^k:Int):Rat)<((0:Int):Rat):=Jm.2 hneg;have h5:(((Gp b)^k:Int):Rat)<0:=by simpa using h5
   refine⟨-(((Gp b)^k:Int):Rat),v,by grind,vp,Nj (-1) X,λt=>?_⟩;have h6:=hX t;have h7:=hv t;rw[e1,ZL]at h7;show _=_+v*Gf (I0 (Cf a b (Nw a b))) t;rw[e1,<-h7,Hb];grind
  ·have e1:Cf a b (Nw a b)=Nw a b:=by unfold Cf;rw[<-hk,if_neg ht]
   have hpos:0<(Gp b)^k:=by
    rcases Wd hc with h|h
    ·exact(IP h k).2 (by omega)
    ·exact Int.pow_pos h
   have h5:((0:Int):Rat)<(((Gp b)^k:Int):Rat):=Jm.2 hpos;refine⟨(((Gp b)^k:Int):Rat),v,by simpa using h5,vp,X,λt=>?_⟩;have h7:=hv t;show _=_+v*Gf (I0 (Cf a b (Nw a b))) t;rw[<-h7,e1,hX]
theorem Ij{p:Ft}(h1:p.length<=64)(h2:Bd 16777216 p):OC p=some p:=by
 unfold OC;rw[if_pos ⟨h1,X9.2 λz hz=>Nat.ble_eq_true_of_le (h2 z hz)⟩]
theorem A0{a b:Ft}{g:Fw}{c:Rat}(hc:c≠0)(h:∀t,Gf a t=c*Gf b t):Lf g (cz a)↔Lf g (cz b):=by
 constructor
 ·rintro⟨u,hu⟩
  refine⟨Nj (1 / c) u,λt=>?_⟩;have h1:=hu t;rw[Gg,h]at h1;rw[Gg,Hb];have h2:1 / c*c=1:=Zb hc;have:Gf b t=1 / c*(c*Gf b t):=by grind
  rw[this,h1];grind
 ·rintro⟨u,hu⟩
  refine⟨Nj c u,λt=>?_⟩;have h1:=hu t;rw[Gg]at h1;rw[Gg,Hb,h,h1];grind
structure Gc(g a b:List Int):Prop where
 t:Gh g
 da:Lf (cz g) (cz a)
 db:Lf (cz g) (cz b)
 c:∃U V,∀t,Gf g t=ev U t*Gf a t+ev V t*Gf b t
 n:g.length≠0
theorem Gc.scale{g a b g' a' b':Ft}{x y z:Rat}(h:Gc g a b)(hx:x≠0)(hy:y≠0)(hz:z≠0)(tg:Gh g')(eg:∀t,Gf g t=x*Gf g' t)(ea:∀t,Gf a' t=y*Gf a t)(eb:∀t,Gf b' t=z*Gf b t):Gc g' a' b':=by
 have hx1:1 / x*x=1:=Zb hx;have hy1:1 / y*y=1:=Zb hy;have hz1:1 / z*z=1:=Zb hz;have hg:∀c,Lf (cz g) c->Lf (cz g') c:=λc ⟨u,hu⟩=>⟨Nj x u,λt=>by rw[hu,Gg,Gg,eg,Hb];grind⟩
 obtain⟨U,V,hc⟩:=h.c;refine⟨tg,hg _ ((A0 hy ea).2 h.da),hg _ ((A0 hz eb).2 h.db),⟨Nj (1 / x*(1 / y)) U,Nj (1 / x*(1 / z)) V,λt=>?_⟩,?_⟩
 ·have h1:=hc t;have h2:Gf g' t=1 / x*Gf g t:=by rw[eg];grind
  rw[h2,h1,Hb,Hb,ea,eb];generalize ev U t=u at *;generalize ev V t=v at *;grind
 ·rw[<-Ap h.t tg hx eg];exact h.n
theorem Qp5:∀d:Nat,1<=d->d+2<=3^d
 | 0,h=>by omega
 | 1,_=>by decide
 |d+2,_=>by have:=Qp5 (d+1) (by omega);rw[Zq];omega
theorem mA{k:Nat}{a b:Ft}(ta:Gh a)(tb:Gh b)(hb:b.length≠0)(hl:a.length<=60)(hbl:b.length<=60)(hr:Bd 16777216 (Rv a b))(ih:∃g,PO k b (Rv a b)=some g/\Gc g b (Rv a b)):∃g,PO (k+1) a b=some g/\Gc g a b:=by
 obtain⟨h1,h2,h3,u,v,up,vp,X,hX⟩:=HO ta tb hb hl;obtain⟨g,e,hg⟩:=ih;refine⟨g,?_,?_⟩
 ·simp only[PO];rw[if_neg hb,Ij (by omega) hr];exact e
 ·obtain⟨U,V,hc⟩:=hg.c;obtain⟨y,hy⟩:=hg.da;obtain⟨z,hz⟩:=hg.db;have hu:1 / u*u=1:=Ht up;have hv:1 / v*v=1:=Ht vp;refine⟨hg.t,⟨Nj (1 / u) (Sj (H5 X y) (Nj v z)),λt=>?_⟩,hg.da,⟨Nj (u / v) V,Sj U (Nj (-1 / v) (H5 V X)),λt=>?_⟩,hg.n⟩
  ·have a1:=hX t;have a2:=hy t;have a3:=hz t;rw[Gg,Gg]at a2 a3;rw[Gg,Gg,Hb,Hl,Gj,Hb];have:Gf a t=1 / u*(u*Gf a t):=by grind
   rw[this,a1,a2,a3];grind
  ·have a1:=hX t;have a2:=hc t;rw[Hb,Hl,Hb,Gj,a2];have:Gf (Rv a b) t=1 / v*(v*Gf (Rv a b) t):=by grind
   rw[this,show v*Gf (Rv a b) t=u*Gf a t-ev X t*Gf b t by grind,Yo,Yo,Yo];grind
theorem Qcq{k:Nat}{a:Ft}(ta:Gh a)(ha:a.length≠0):∃g,PO (k+1) a []=some g/\Gc g a [] :=
 ⟨a,rfl,ta,dvd_refl _,⟨[],λt=>by simp only[cz,Jj,ev];grind⟩,⟨[1],[],λt=>by rw[S6];simp only[ev];grind⟩,ha⟩
theorem MQ{s:Nat}:∀(k:Nat) (a b:Ft),Gh a->Gh b->b.length<k->b.length<a.length->a.length<=60->Bd s a->Bd s b->(s+8)*3^(a.length-1)<=16777216->∃g,PO k a b=some g/\Gc g a b
 | 0,_,_,_,_,h,_,_,_,_,_=>by omega
 |
  k+1,a,b,ta,tb,hk,hab,hl,ba,bb,hs=>by
  by_cases hb:b.length=0
  ·rw[Qg hb];exact Qcq ta (by omega)
  ·obtain⟨h1,h2,h3,_⟩:=HO ta tb hb hl;have h3:=h3 s ba bb;obtain⟨m,hm⟩:=nmE (a.length-b.length);have e1:a.length+1-b.length=m+1:=by omega
   rw[e1]at h3;have e2:s+(m+1)*(s+8)+8=(m+2)*(s+8):=by
    rw[show m+2=(m+1)+1 by omega,Xp (m+1)];omega
   have e3:(m+2)*(s+8)*3^(b.length-1)<=(s+8)*3^(a.length-1):=by
    rw[show a.length-1=m+(b.length-1) by omega,Xq,<-Xz,Zo (s+8)];exact Qx _ (Qx _ (Qp5 m (by omega)))
   have e4:s+(m+1)*(s+8)<=16777216:=by
    have:(m+2)*(s+8)<=(m+2)*(s+8)*3^(b.length-1):=J8 _ (Zy (by decide));omega
   refine mA ta tb hb hl (by omega) (Gd h3 e4) (MQ (s:=s+(m+1)*(s+8)) k b (Rv a b) tb h1 (by omega) h2 (by omega) (Gd bb (by omega)) h3 ?_);rw[e2];omega
def Szz(n s:Nat):Prop:=n<=10/\2*(s+8)*3^(n-1)<=16777216
theorem Qmq{n s:Nat}(hz:Szz n s){a b:Ft}(ta:Gh a)(tb:Gh b)(la:a.length<=n)(lb:b.length<=n)(ba:Bd s a)(bb:Bd s b)(h0:a.length≠0\/b.length≠0):∃g,PO 66 a b=some g/\Gc g a b:=by
 obtain⟨hn,hz⟩:=hz;have hp:∀l,l<=n->(s+8)*3^(l-1)<=8388608:=λl hl=>by
  have:(s+8)*3^(l-1)<=(s+8)*3^(n-1):=Zl _ (Zs (by decide) (by omega));rw[Xz]at hz;omega
 rcases Q7 b.length a.length with h|h
 ·exact MQ 66 a b ta tb (by omega) h (by omega) ba bb (by have:=hp a.length la;omega)
 ·by_cases hb:b.length=0
  ·rw[Qg hb];exact Qcq ta (by omega)
  ·obtain⟨h1,h2,h3,_⟩:=HO ta tb hb (by omega);have h3:=h3 s ba bb;have h4:(a.length+1-b.length)*(s+8)<=1*(s+8):=Qx _ (by omega);have h5:=hp b.length lb;have h6:(s+8)*1<=(s+8)*3^(b.length-1):=Zl _ (Zy (by decide));refine mA ta tb hb (by omega) (by omega) (Gd h3 (by omega)) (MQ (s:=2*s+8) 65 b (Rv a b) tb h1 (by omega) h2 (by omega) (Gd bb (by omega)) (Gd h3 (by omega)) ?_);rw[show 2*s+8+8=2*(s+8) by omega,Xz];omega
theorem jZ:Gm []=[]:=rfl
theorem Bs{a:Ft}(ta:Gh a):Gh (Gm a)/\(Gm a).length=a.length/\(∀s,Bd s a->Bd s (Gm a))/\∃c:Rat,c≠0/\∀t,Gf a t=c*Gf (Gm a) t:=by
 by_cases h:a.length=0
 ·rw[Qg h];exact⟨rfl,rfl,λs _=>YY,1,by decide,λt=>by rw[jZ];grind⟩
 ·obtain⟨h1,h2,h3,h4,h5,h6,h7⟩:=M4 ta h;exact⟨h1,h2,h5,_,O5 h6,h7⟩
theorem FH{n s:Nat}(hz:Szz n s){a b:Ft}(ta:Gh a)(tb:Gh b)(la:a.length<=n)(lb:b.length<=n)(ba:Bd s a)(bb:Bd s b)(h0:a.length≠0\/b.length≠0):∃g,XX a b=some g/\Gc g a b/\Prm g/\0<Gp g:=by
 obtain⟨a1,a2,a3,x,xn,ax⟩:=Bs ta;obtain⟨b1,b2,b3,y,yn,bx⟩:=Bs tb;obtain⟨g,e,hg⟩:=Qmq hz a1 b1 (by omega) (by omega) (a3 s ba) (b3 s bb) (by omega);obtain⟨g1,g2,g3,g4,g5,g6,g7⟩:=M4 hg.t hg.n;refine⟨Gm g,?_,hg.scale (O5 g6) xn yn g1 g7 ax bx,g3,g4⟩;unfold XX;rw[e];rfl
theorem Qfa{a:Ft}(ta:Gh a):XX [] a=some (Gm (Gm a)):=by
 unfold XX;rw[jZ];by_cases h:(Gm a).length=0
 ·have e:Gm a=[]:=Qg h;rw[e];rfl
 ·have e:Rv [] (Gm a)=[]:=by
   have e1:Nw [] (Gm a)=[]:=by unfold Nw;rw[show([]:Ft).length+1-(Gm a).length=0 by simp;omega];rfl
   unfold Rv;rw[e1];unfold Cf
   split <;> rfl
  have:PO 66 [] (Gm a)=some (Gm a):=by
   show(if (Gm a).length=0 then _ else _)=_;rw[if_neg h,e];rfl
  rw[this];rfl
theorem dJ{n s:Nat}(hz:Szz n s){a b:Ft}(ta:Gh a)(tb:Gh b)(la:a.length<=n)(lb:b.length<=n)(ba:Bd s a)(bb:Bd s b)(h0:a.length≠0):∃g,pK a b=some g/\Gc g a b/\Prm g/\0<Gp g:=by
 obtain⟨a1,a2,a3,x,xn,ax⟩:=Bs ta;obtain⟨b1,b2,b3,y,yn,bx⟩:=Bs a1;obtain⟨g,e,hg,h1,h2⟩:=FH hz b1 tb (by omega) lb (b3 s (a3 s ba)) bb (by omega);refine⟨g,?_,hg.scale (x:=1) (y:=x*y) (z:=1) (by decide) (λh=>(Xl.1 h).elim xn yn) (by decide) hg.t (λt=>by grind) (λt=>by rw[ax,bx];grind) (λt=>by grind),h1,h2⟩;unfold pK;rw[Qfa ta];exact e
theorem Qco:∀{p q:Fw} {m n:Nat},HD p m->HD q n->(H5 p q).getD (m+n) 0=p.getD m 0*q.getD n 0
 | [],q,m,n,h,_=>absurd (by simp) h.1
 |
  a::p,q,0,n,h,h'=>by
  have h1:∀k,p.getD k 0=0:=λk=>by have:=h.2 (k+1) (by omega);rwa[Q0]at this
  simp only[H5];rw[So,Pm,Zr,Xd];cases n with
  |zero=>rw[Zr];grind
  |succ n=>rw[Q0,MB h1];grind
 |
  a::p,q,m+1,n,h,h'=>by
  have ih:=Qco (p:=p) (q:=q) (m:=m) ⟨by have:=h.1;rwa[Q0]at this,λk hk=>by have:=h.2 (k+1) (by omega);rwa[Q0]at this⟩ h';simp only[H5];rw[So,Pm,show m+1+n=(m+n)+1 by omega,Q0,h'.2 _ (by omega),ih,Q0];grind
theorem VQ{a b c:Ft}(ta:Gh a)(tb:Gh b)(tc:Gh c)(h:∀t,Gf c t=Gf a t*Gf b t)(la:0<a.length)(lb:0<b.length):Gp c=Gp a*Gp b:=by
 have h1:=WL ta la;have h2:=WL tb lb;have h3:=Qco h1 h2;have hl:=S5 ta tb tc h la lb;rw[<-Lm (p:=cz c) (λt=>by rw[Gj,Gg,Gg,Gg,h]),Ng,Ng,Ng,show a.length-1+(b.length-1)=c.length-1 by omega]at h3;unfold Gp;exact_mod_cast h3
theorem Rp{a b c:Ft}(tc:Gh c)(hc:c.length≠0)(h:∀t,Gf c t=Gf a t*Gf b t):0<a.length/\0<b.length:=by
 constructor
 ·rcases Qy a.length with e|e
  ·exact absurd (λt=>by rw[h,Dh e];grind) (JC tc (by omega))
  ·exact e
 ·rcases Qy b.length with e|e
  ·exact absurd (λt=>by rw[h,Dh e];grind) (JC tc (by omega))
  ·exact e
theorem wU{b:Ft}(tb:Gh b)(hb:b.length≠0):∀(i:Nat) (a q h:Ft),Gh a->Gh h->(∀t,Gf a t=Gf b t*Gf h t)->a.length<b.length+i->i<=q.length->(∀j,j<i->q.getD j 0=0)->∃q',wW b i a q=some q'/\q'.length=q.length/\∀t,Gf q' t=Gf q t+Gf h t
 |
  0,a,q,h,ta,th,e,hl,_,_=>by
  have ha:a.length=0:=by
   rcases Qy a.length with e'|e'
   ·exact e'
   ·obtain⟨p1,p2⟩:=Rp ta (by omega) e;have:=S5 tb th ta e p1 p2;omega
  refine⟨q,by simp only[wW];rw[if_pos ha],rfl,λt=>?_⟩;have:∀t,Gf h t=0:=λt=>by
   have:=LK (p:=cz b) (q:=cz h) (r:=[]) (λh0=>JC tb (by omega) λt=>by rw[<-Gg];exact h0 t) (λt=>by rw[Gg,Gg,<-e,Dh ha];simp only[ev];grind) t;rwa[Gg]at this
  rw[this];grind
 |
  i+1,a,q,h,ta,th,e,hl,hq,h0=>by
  simp only[wW];by_cases hlt:a.length<b.length+i
  ·rw[if_pos hlt];exact wU tb hb i a q h ta th e hlt (by omega) λj hj=>h0 j (by omega)
  ·rw[if_neg hlt];obtain⟨p1,p2⟩:=Rp ta (by omega) e;have hln:=S5 tb th ta e p1 p2;have hld:=VQ tb th ta e p1 p2;have hlb:=Ln tb hb;rw[hld,if_pos (Int.mul_emod_right _ _),X5 _ hlb];have hli:h.length=i+1:=by omega
   have e2:∀t,Gf (P7 a (Gq (trim (mono i (Gp h))) b)) t=Gf b t*Gf (P7 h (mono i (Gp h))) t:=λt=>by
    rw[Bp,Bp,Gn,Iy,e];grind
   have hl2:(P7 a (Gq (trim (mono i (Gp h))) b)).length<b.length+i:=by
    have hl:=Qbc (i:=i) (x:=Gp h) (b:=b) (a:=a);unfold sta at hl;have:=kX (p:=P7 a (Gq (trim (mono i (Gp h))) b)) (n:=b.length+i-1) (Gk _ _) (by omega) (by
     rw[D6,kT,if_pos (by omega),show b.length+i-1-i=b.length-1 by omega,show b.length+i-1=a.length-1 by omega];have:Gp a=a.getD (a.length-1) 0:=rfl;rw[<-this,hld];unfold Gp;rw[Ki,Int.sub_eq_zero])
    omega
   obtain⟨q',h1,h2,h3⟩:=wU tb hb i _ (q.set i (Gp h)) (P7 h (mono i (Gp h))) (Gk _ _) (Gk _ _) e2 hl2 (by simp;omega) λj hj=>by
    rw[Qc,Jy,if_neg (by omega),<-Qc];exact h0 j (by omega)
   refine⟨q',h1,by rw[h2,Jg],λt=>?_⟩;rw[h3,wK q i _ t (by omega),h0 i (by omega),Bp,ZN]
   push_cast;grind
theorem Qk3{a b h:Ft}{s:Nat}(ta:Gh a)(tb:Gh b)(th:Gh h)(ha:a.length≠0)(la:a.length<=10)(ba:Bd s a)(hs:s+69<=16777216)(e:∀t,Gf a t=Gf b t*Gf h t):JY a b=some h:=by
 obtain⟨p1,p2⟩:=Rp ta ha e;have hln:=S5 tb th ta e p1 p2;obtain⟨q,h1,h2,h3⟩:=wU tb (by omega) (a.length+1-b.length) a (List.replicate (a.length+1-b.length) 0) h ta th e (by omega) (by simp) λj _=>Tw _ _
 have h4:trim q=h:=Oj (Tg _) th λt=>by rw[Iy,h3,xM];grind
 unfold JY;rw[if_neg (by omega),h1];show OC (trim q)=_;rw[h4];exact Ij (by omega) (Gd (E9 ba la ta th tb ha λt=>by rw[e];grind) (by omega))
structure Pr1(p:List Int):Prop where
 t:Gh p
 m:Prm p
 l:0<Gp p
theorem Pr1.n{p:Ft}(h:Pr1 p):p.length≠0:=λe=>by
 have:=h.l;rw[Qg e]at this;exact absurd this (by decide)
theorem Qej{p:Ft}(tp:Gh p)(h:p.length≠0):Pr1 (Gm p):=by
 obtain⟨h1,h2,h3,h4,_⟩:=M4 tp h;exact⟨h1,h3,h4⟩
theorem Pr1.one{p:Ft}(h:Pr1 p)(hl:p.length<2):p=[1]:=by
 have hn:=h.n;obtain⟨c,rfl⟩:∃c,p=[c]:=Jw.1 (by omega);have h1:=h.m c λk=>by cases k <;> simp
 have h2:0<c:=h.l;have:=Int.le_of_dvd (by decide) h1;rw[show c=1 by omega]
theorem Qb3{p g h:Ft}(hp:Prm p)(e:∀t,Gf p t=Gf g t*Gf h t):Prm h:=λd hd=>by
 refine hp d λk=>?_
 have:=Lt (p:=p) (q:=Gq g h) (λt=>by rw[e,Gn]) k;rw[this];have e2:∀t,Gf (Gq g h) t=(d:Rat)*Gf (Gq g (h.map (· / d))) t:=λt=>by
  have h1:Gf h t=(d:Rat)*Gf (h.map (· / d)) t:=by
   have:=Lu d 0 t (max h.length (h.map (· / d)).length) (h.map (· / d)) [] h (by omega) (by simp) (by omega) λk=>by
    rw[GB,W5 (hd k)];simp
   rw[this];simp only[Gf];push_cast;grind
  rw[Gn,Gn,h1];grind
 have:=Lt (p:=Gq g h) (q:=Gs (Gq g (h.map (· / d))) d) (λt=>by rw[e2,Td];grind) k;rw[this,Ts];exact Vz _ _
theorem Qb1{p g h:Ft}(hp:Pr1 p)(hg:0<Gp g)(tg:Gh g)(th:Gh h)(e:∀t,Gf p t=Gf g t*Gf h t):Pr1 h:=by
 obtain⟨p1,p2⟩:=Rp hp.t hp.n e;have:=VQ tg th hp.t e p1 p2;refine⟨th,Qb3 hp.m e,?_⟩;have hl:=hp.l;rw[this]at hl;rcases Yd (Gp h) 0 with h1|h1|h1
 ·have:=Vw hg h1;omega
 ·rw[h1]at hl;omega
 ·exact h1
structure Sqp(p g q:List Int):Prop where
 pp:Pr1 p
 pg:Pr1 g
 pq:Pr1 q
 e:∀t,Gf p t=Gf g t*Gf q t
 c:∃U V,∀t,Gf g t=ev U t*Gf p t+ev V t*dv (cz p) t
 d:∃z,∀t,dv (cz p) t=Gf g t*ev z t
theorem Sqp.num{p g q:Ft}(h:Sqp p g q){d:Fw}(h1:Lf d (cz q))(h2:Lf d (Co (cz q))):∃c:Rat,c≠0/\∀t,ev d t=c:=by
 obtain⟨U,V,hc⟩:=h.c;have hpow:=sqf (k:=1) (a:=cz p) (g:=cz g) (q:=cz q) (d:=d) (U:=U) (V:=V) (by decide) (λt=>by rw[Gg,Gg,Gg,h.e]) (λt=>by rw[Gg,Gg,hc];grind) h1 h2;rcases MN d with h3|⟨m,_,h3⟩
 ·obtain⟨u,hu⟩:=h1;exact absurd (λt=>by rw[<-Gg,hu,h3];grind) (JC h.pq.t (by have:=h.pq.n;omega))
 ·obtain rfl:=xO h3 (WL h.pg.t (by have:=h.pg.n;omega)) hpow;refine⟨d.getD 0 0,h3.1,λt=>?_⟩;cases d with
  |nil=>exact absurd (by simp) h3.1
  |
   cons c l =>
   have:=Ev (p:=l) λk=>by have:=h3.2 (k+1) (by omega);rwa[Q0]at this
   simp only[ev,this,Zr];grind
theorem Sqp.bez{p g q:Ft}(h:Sqp p g q):∃X Y,∀t,ev X t*ev (cz q) t+ev Y t*dv (cz q) t=1:=by
 obtain⟨d,U,V,h1,h2,h3⟩:=Qit (cz q) (Co (cz q));obtain⟨c,hc,hd⟩:=h.num h1 h2;refine⟨Nj (1 / c) U,Nj (1 / c) V,λt=>?_⟩;have h5:=h3 t;rw[hd,Ss]at h5;have h4:1 / c*c=1:=Zb hc;rw[Hb,Hb];have:1 / c*ev U t*ev (cz q) t+1 / c*ev V t*dv (cz q) t=1 / c*(ev U t*ev (cz q) t+ev V t*dv (cz q) t):=by grind
 rw[this,<-h5,h4]
theorem Qv6{n s s':Nat}(h:Szz n s)(hs:s'<=s):Szz n s':=⟨h.1,Qe (Qx _ (by omega)) h.2⟩
theorem Qcn{n s:Nat}(h:Szz n s):s<=8388600:=by
 have:2*(s+8)*1<=2*(s+8)*3^(n-1):=Zl _ (Zy (by decide));have:=h.2;omega
theorem TF{s:Nat}{p:Ft}(h:Bd s p)(hl:p.length<=10):Bd (s+4) (Hm p):=BK h (t:=4) (by omega)
theorem uV{n s:Nat}(hz:Szz n (s+73)){p:Ft}(pp:Pr1 p)(l2:2<=p.length)(lp:p.length<=n)(bp:Bd (s+69) p){p0 h0:Ft}(b0:Bd s p0)(l0:p0.length<=10)(t0:Gh p0)(th0:Gh h0)(z0:p0.length≠0)(e0:∀t,Gf p0 t=Gf h0 t*Gf p t) :
 ∃g q,OC (Hm p)=some (Hm p)/\XX p (Hm p)=some g/\JY p g=some q/\Sqp p g q/\g.length<p.length:=by
 have hn:=hz.1;have hs:=Qcn hz;have bd:=TF bp (by omega);have ld:=Pn p;have td:Gh (Hm p):=Gk _ _;obtain⟨g,e1,hg,m,l⟩:=FH hz pp.t td lp (by omega) (Gd bp (by omega)) bd (.inl pp.n);obtain⟨q,tq,eq⟩:=MP m hg.da;have hdnz:(Hm p).length≠0:=λh=>by
  have h1:=My p (p.length-2);rw[Qg h,show p.length-2+1=p.length-1 by omega]at h1;have h2:p.getD (p.length-1) 0≠0:=Rz pp.t (by omega);rcases Yg.1 (h1.symm.trans (by simp))with h3|h3
  ·exact h2 h3
  ·omega
 have pg:Pr1 g:=⟨hg.t,m,l⟩;have hql:=Qk3 (s:=s+69) pp.t hg.t tq pp.n (by omega) bp (by omega) eq;refine⟨g,q,Ij (by omega) (Gd bd (by omega)),e1,hql,⟨pp,pg,Qb1 pp l hg.t tq eq,eq,?_,?_⟩,?_⟩
 ·obtain⟨U,V,hc⟩:=hg.c;exact⟨U,V,λt=>by rw[hc,C7]⟩
 ·obtain⟨z,hz⟩:=hg.db;exact⟨z,λt=>by rw[<-C7,<-Gg,hz,Gg]⟩
 ·obtain⟨z,tz,ez⟩:=MP m hg.db;obtain⟨q1,q2⟩:=Rp td hdnz ez;have:=S5 hg.t tz td ez q1 q2;omega
theorem one_sqp:Sqp [1] [1] [1]:=by
 have p1:Pr1 [1]:=⟨rfl,λd hd=>by have:=hd 0;rwa[Zr]at this,by decide⟩;have e1:∀t,Gf [1] t=1:=λt=>by simp only[Gf];push_cast;grind
 exact⟨p1,p1,p1,λt=>by rw[e1];grind,⟨[1],[],λt=>by rw[e1,S6];simp only[ev];grind⟩,⟨[],λt=>by simp only[cz,Zx,Jj,dv,ev];grind⟩⟩
structure Okp(n s:Nat)(p:List Int):Prop where
 z:Szz n (s+73)
 t:Gh p
 nz:p.length≠0
 l:p.length<=n
 b:Bd s p
theorem Okp.pr{n s:Nat}{p:Ft}(h:Okp n s p):Pr1 (Gm p)/\(Gm p).length=p.length/\Bd s (Gm p):=by
 obtain⟨h1,h2,h3,h4,h5,_⟩:=M4 h.t h.nz;exact⟨⟨h1,h3,h4⟩,h2,h5 s h.b⟩
theorem Ia{n s:Nat}{p:Ft}(h:Okp n s p):∃g q,Mc p=some q/\Sqp (Gm p) g q:=by
 obtain⟨pp,hl,hb⟩:=h.pr;have hn:=h.z.1;have:=h.l;unfold Mc;by_cases h2:(Gm p).length<2
 ·rw[if_pos h2,pp.one h2];exact⟨[1],[1],rfl,one_sqp⟩
 ·rw[if_neg h2];obtain⟨g,q,h3,h4,h5,h6,_⟩:=uV h.z pp (by omega) (by omega) (Gd hb (by omega)) (p0:=Gm p) (h0:=[1]) hb (by omega) pp.t rfl pp.n λt=>by simp only[Gf];push_cast;grind
  exact⟨g,q,by rw[h3];show(XX (Gm p) (Hm (Gm p))).bind _=_;rw[h4];exact h5,h6⟩
inductive LW:List Int->List (List Int)->Prop
 |nil:LW [1] []
 |cons {g h w:List Int} {ws:List (List Int)} (hs:Sqp g h w) (hl:LW h ws):LW g (w::ws)
theorem Qu3{g:Ft}{ws:Fu}(h:LW g ws):∀t,Gf g t=ev (ZT (ws.map cz)) t:=by
 induction h with
 |nil=>intro t;simp only[Jj,ZT,Gf];rw[S6];push_cast;grind
 |cons hs hl ih=>intro t;simp only[Zx,ZT];rw[Gj,Gg,hs.e,ih];grind
theorem Qbj{g:Ft}{w v:Ft}{ws:Fu}(h:LW g (w::v::ws)):∃f,Gh f/\∀t,Gf w t=Gf f t*Gf v t:=by
 cases h with
 |
  @cons _ h _ _ hs hl =>
  cases hl with
  |
   @cons _ h2 _ _ hs2 hl2 =>
   obtain⟨X,Y,hb⟩:=hs2.bez;obtain⟨z,hz⟩:=hs.d;have hd:=Qq4 (a:=cz g) (g:=cz h) (q:=cz w) (z:=z) (r:=cz v) (X:=X) (Y:=Y) (n:=h.length-1) (λt=>by rw[Gg,Gg,Gg,hs.e]) (λt=>by rw[hz,Gg]) (WL hs.pg.t (by have:=hs.pg.n;omega)) hb
    ⟨H5 (cz h2) (cz w),λt=>by rw[Gj,Gg,Gg,Gg,Gg,hs.e,hs2.e];grind⟩
   obtain⟨f,tf,ef⟩:=MP hs2.pq.m hd;exact⟨f,tf,λt=>by rw[ef];grind⟩
theorem AP{g w:Ft}{ws:Fu}(h:LW g (w::ws)):∀v∈w::ws,Pr1 v/\Lf (cz v) (cz w):=by
 have key:∀(ws:Fu) (g w:Ft),LW g (w::ws)->∀v∈w::ws,Pr1 v/\Lf (cz v) (cz w):=by
  intro ws
  induction ws with
  |
   nil =>
   intro g w h v hv;rw[Qp.1 hv];cases h with
   |cons hs hl=>exact⟨hs.pq,dvd_refl _⟩
  |
   cons u ws ih =>
   intro g w h v hv;have hn:=Qbj h;cases h with
   |
    @cons _ h _ _ hs hl =>
    rcases Qj.1 hv with rfl|hv
    ·exact⟨hs.pq,dvd_refl _⟩
    ·obtain⟨i1,i2⟩:=ih h u hl v hv;obtain⟨f,_,hf⟩:=hn;exact⟨i1,dvd_trans i2 ⟨cz f,λt=>by rw[Gg,Gg,Gg,hf];grind⟩⟩
 exact key ws g w h
theorem dG{n s:Nat}(hz:Szz n (s+73)){p0:Ft}(b0:Bd s p0)(l0:p0.length<=10)(t0:Gh p0)(z0:p0.length≠0):∀(k:Nat) (g h0:Ft),Pr1 g->g.length<=k->g.length<=n->Gh h0->(∀t,Gf p0 t=Gf h0 t*Gf g t)->∃ws,AY k g=some ws/\LW g ws
 | 0,g,_,pg,hk,_,_,_=>absurd pg.n (by omega)
 |
  k+1,g,h0,pg,hk,hn,th0,e0=>by
  simp only[AY];by_cases h2:g.length<2
  ·rw[if_pos h2,pg.one h2];exact⟨[],rfl,.nil⟩
  ·rw[if_neg h2];have bg:Bd (s+69) g:=E9 b0 l0 t0 pg.t th0 z0 λt=>by rw[e0];grind
   obtain⟨h,w,h3,h4,h5,h6,h7⟩:=uV hz pg (by omega) hn bg b0 l0 t0 th0 z0 e0;obtain⟨ws,i1,i2⟩:=dG hz b0 l0 t0 z0 k h (Gq h0 w) h6.pg (by omega) (by omega) (Ho _ _) λt=>by rw[e0,Gn,h6.e];grind
   refine⟨w::ws,?_,.cons h6 i2⟩;rw[h3];show(XX g (Hm g)).bind _=_;rw[h4];show(JY g h).bind _=_;rw[h5];show(AY k h).bind _=_;rw[i1];rfl
theorem cE{s:Nat}{p0:Ft}(b0:Bd s p0)(l0:p0.length≤10)(t0:Gh p0)(z0:p0.length≠0)(hs:s+69+69≤16777216):∀(ws:Fu) (g h0:Ft),LW g ws->Gh h0->(∀t,Gf p0 t=Gf h0 t*Gf g t)->∃fs,cD ws=some fs/\Lay (ws.map cz) (fs.map cz)/\∀f∈fs,Gh f
 | [],g,_,_,_,_=>⟨[],rfl,trivial,λf hf=>by cases hf⟩
 |
  [w],g,_,hl,_,_=>by
  cases hl with
  |cons hs hl=>exact⟨[w],rfl,λt=>rfl,λf hf=>by rw[Qp.1 hf];exact hs.pq.t⟩
 |
  w::v::ws,g,h0,hl,th0,e0=>by
  obtain⟨f,tf,ef⟩:=Qbj hl;cases hl with
  |
   @cons _ h _ _ hs1 hl =>
   have hpv:=(AP hl v (Qw ..)).1;obtain⟨fs,i1,i2,i3⟩:=cE b0 l0 t0 z0 hs (v::ws) h (Gq h0 w) hl (Ho _ _) λt=>by rw[e0,Gn,hs1.e];grind
   have ew:∀t,Gf p0 t=Gf w t*Gf (Gq h0 h) t:=λt=>by rw[e0,Gn,hs1.e];grind
   have bw:Bd (s+69) w:=E9 b0 l0 t0 hs1.pq.t (Ho _ _) z0 ew;obtain⟨p1,p2⟩:=Rp t0 z0 ew;have lw:=S5 hs1.pq.t (Ho _ _) t0 ew p1 p2;have hq:=Qk3 (s:=s+69) hs1.pq.t hpv.t tf hs1.pq.n (by omega) bw hs λt=>by rw[ef];grind
   refine⟨f::fs,?_,⟨λt=>by rw[Gg,Gg,Gg,ef],i2⟩,λx hx=>?_⟩
   ·show(JY w v).bind _=_;rw[hq];show(cD (v::ws)).bind _=_;rw[i1];rfl
   ·rcases Qj.1 hx with rfl|hx
    ·exact tf
    ·exact i3 x hx
def Ce:Fu->Ft
 | []=>[1]
 | [f]=>f
 |f::_::l=>Gq f (Ce l)
theorem sR:∀(fs:Fu) (t:Rat),ev (NA (fs.map cz)) t=Gf (Ce fs) t
 | [],t=>by simp only[Jj,NA,Ce,Gf];rw[S6];push_cast;grind
 | [f],t=>by simp only[Zx,Jj,NA,Ce];rw[Gg]
 |f::g::l,t=>by simp only[Zx,NA,Ce];rw[Gj,Gg,Gn,sR l]
theorem Ru(t:Rat):Gf [1] t=1:=by simp only[Gf];push_cast;grind
theorem SX:∀{w:Ft} {ws fs:Fu},Lay ((w::ws).map cz) (fs.map cz)->(∀f∈fs,Gh f)->(∀v∈w::ws,Gh v)->∃E,Gh E/\∀t,Gf w t=Gf (Ce fs) t*Gf E t
 |
  w,[],[f],h,_,_=>⟨[1],rfl,λt=>by
  have:=h t;rw[Gg,Gg]at this;rw[this,Ru];simp only[Ce];grind⟩
 |
  w,[v],[f,f2],h,_,hw=>⟨v,hw v (by simp),λt=>by
  have:=h.1 t;rw[Gg,Gg,Gg]at this;rw[this];simp only[Ce];rw[Gn,Ru];grind⟩
 |
  w,v::x::l,f::f2::fs,h,hf,hw=>by
  obtain⟨E,hE,e⟩:=SX (w:=x) (ws:=l) (fs:=fs) h.2.2 (λg hg=>hf g (by simp[hg])) (λg hg=>hw g (by simp at hg ⊢;exact .inr (.inr hg)));refine⟨Gq f2 E,Ho _ _,λt=>?_⟩;have a1:=h.1 t;have a2:=h.2.1 t;rw[Gg,Gg,Gg]at a1 a2;have e2:Gf (Ce (f::f2::fs)) t=Gf f t*Gf (Ce fs) t:=by simp only[Ce];rw[Gn]
  rw[a1,a2,e,e2,Gn];grind
 |w,[],[],h,_,_=>h.elim
 |w,[],_::_::_,h,_,_=>h.elim
 |w,[v],[],h,_,_=>h.elim
 |w,[v],[f],h,_,_=>h.2.elim
 |w,[v],_::_::_::_,h,_,_=>h.2.elim
 |w,v::x::l,[f],h,_,_=>h.2.elim
 |w,v::x::l,[],h,_,_=>h.elim
theorem KN{s:Nat}{p0:Ft}(b0:Bd s p0)(l0:p0.length≤10)(t0:Gh p0)(z0:p0.length≠0)(hs:s+69≤16777216):∀(fs:Fu) (i:Nat) (a E:Ft),i % 2=0->Gh a->Gh E->(∀f∈fs,Gh f)->(∀t,Gf p0 t=Gf a t*Gf (Ce fs) t*Gf E t)->∃o,UD i a fs=some o/\Gh o/\∀t,Gf o t=Gf a t*Gf (Ce fs) t
 | [],i,a,E,hi,ta,_,_,_=>⟨a,rfl,ta,λt=>by simp only[Ce];rw[Ru];grind⟩
 |
  [f],i,a,E,hi,ta,tE,tf,hE=>by
  have e1:∀t,Gf p0 t=Gf (Gq a f) t*Gf E t:=λt=>by rw[hE,Gn];rfl
  have b1:=E9 b0 l0 t0 (Ho a f) tE z0 e1;obtain⟨p1,p2⟩:=Rp t0 z0 e1;have hl:=S5 (Ho a f) tE t0 e1 p1 p2;refine⟨Gq a f,?_,Ho _ _,λt=>by rw[Gn];rfl⟩;simp only[UD];rw[if_pos hi,Ij (by omega) (Gd b1 (by omega))];rfl
 |
  f::g::fs,i,a,E,hi,ta,tE,tf,hE=>by
  have e0:∀t,Gf (Ce (f::g::fs)) t=Gf f t*Gf (Ce fs) t:=λt=>by simp only[Ce];rw[Gn]
  have e1:∀t,Gf p0 t=Gf (Gq a f) t*Gf (Gq (Ce fs) E) t:=λt=>by rw[hE,e0,Gn,Gn];grind
  have b1:=E9 b0 l0 t0 (Ho a f) (Ho _ _) z0 e1;obtain⟨p1,p2⟩:=Rp t0 z0 e1;have hl:=S5 (Ho a f) (Ho _ _) t0 e1 p1 p2;obtain⟨o,o1,o2,o3⟩:=KN b0 l0 t0 z0 hs fs (i+2) (Gq a f) E (by omega) (Ho _ _) tE (λx hx=>tf x (by simp[hx])) λt=>by rw[hE,e0,Gn];grind
  refine⟨o,?_,o2,λt=>by rw[o3,e0,Gn];grind⟩;have h1:UD (i+1) (Gq a f) (g::fs)=UD (i+2) (Gq a f) fs:=by
   show(if (i+1) % 2=0 then _ else _)=_;rw[if_neg (by omega)]
  show(if i % 2=0 then(OC (Gq a f)).bind λq=>UD (i+1) q (g::fs)else _)=_;rw[if_pos hi,Ij (by omega) (Gd b1 (by omega))];exact h1.trans o1
structure Parts(p q o:List Int):Prop where
 sq:∃g,Sqp (Gm p) g q
 ws:∃ws:List (List Int),(∀w∈ws,Pr1 w/\Lf (cz w) (cz q))/\∀t,Gf (Gm p) t=ev (ZT (ws.map cz)) t
 oq:Lf (cz o) (cz q)
 ot:Gh o
 oh:∃h,Gh h/\∀t,Gf (Gm p) t=Gf o t*Gf h t
 os:∃S,∀t,Gf (Gm p) t=Gf o t*(ev S t*ev S t)
theorem kO{n s:Nat}{p:Ft}(h:Okp n s p):∃q o,Mc p=some q/\Qei p=some o/\Parts p q o:=by
 obtain⟨pp,hl,hb⟩:=h.pr;have hn:=h.z.1;have Ei:=h.l;have hs:=Qcn h.z;obtain⟨g,q,hq,sq⟩:=Ia h;obtain⟨ws,w1,w2⟩:=dG h.z hb (by omega) pp.t pp.n 66 (Gm p) [1] pp (by omega) (by omega) rfl λt=>by rw[Ru];grind
 obtain⟨fs,f1,f2,f3⟩:=cE hb (by omega) pp.t pp.n (by omega) ws (Gm p) [1] w2 rfl λt=>by rw[Ru];grind
 have hw:=Qu3 w2;have hfirst:(∀w∈ws,Pr1 w/\Lf (cz w) (cz q))/\∃E,Gh E/\∀t,Gf q t=Gf (Ce fs) t*Gf E t:=by
  cases ws with
  |
   nil =>
   have e:fs=[]:=by
    cases fs with
    |nil=>rfl
    |cons f l=>exact f2.elim
   subst e;exact⟨(λw hw=>by cases hw),q,sq.pq.t,λt=>by simp only[Ce];rw[Ru];grind⟩
  |
   cons w ws =>
   have hwq:w=q:=by
    have w3:(if (Gm p).length<2 then some []else(OC (Hm (Gm p))).bind λd=>(XX (Gm p) d).bind λh=>(JY (Gm p) h).bind λw=>(AY 65 h).bind λl=>some (w::l))=some (w::ws):=w1;have hlen:¬(Gm p).length<2:=λh2=>by
     rw[if_pos h2]at w3;injection w3 with w3;cases w3
    rw[if_neg hlen]at w3;unfold Mc at hq;rw[if_neg hlen]at hq;obtain⟨d,d1,w3⟩:=Qk.1 w3;obtain⟨h,d2,w3⟩:=Qk.1 w3;obtain⟨w',d3,w3⟩:=Qk.1 w3;obtain⟨l,d4,w3⟩:=Qk.1 w3;rw[d1]at hq;have hq:(XX (Gm p) d).bind (λg=>JY (Gm p) g)=some q:=hq;rw[d2]at hq;have hq:JY (Gm p) h=some q:=hq;rw[d3]at hq;injection hq with hq;injection w3 with w3;injection w3 with w3 _;rw[<-w3,hq]
   subst hwq;have hall:=AP w2;exact⟨hall,SX f2 f3 λv hv=>(hall v hv).1.t⟩
 obtain⟨ha,E,tE,hE⟩:=hfirst;obtain⟨o,o1,o2,o3⟩:=KN hb (by omega) pp.t pp.n (by omega) fs 0 [1] (Gq E g) rfl rfl (Ho _ _) f3 λt=>by rw[Ru,Gn,sq.e,hE];grind
 have o3:∀t,Gf o t=Gf (Ce fs) t:=λt=>by rw[o3,Ru];grind
 refine⟨q,o,hq,?_,⟨g,sq⟩,⟨ws,ha,hw⟩,⟨cz E,λt=>by rw[Gg,Gg,Gg,hE,o3]⟩,o2,⟨Gq E g,Ho _ _,λt=>by rw[sq.e,hE,o3,Gn];grind⟩,?_⟩
 ·unfold Qei;rw[if_neg pp.n,w1];show(cD ws).bind _=_;rw[f1];exact o1
 ·obtain⟨S,hS⟩:=Qa9 f2;exact⟨S,λt=>by rw[hw,hS,sR,o3]⟩
theorem oK{s:Nat}:∀(k:Nat) (a b:Ft),Gh a->Gh b->b.length≠0->b.length<k->b.length<a.length->a.length<=60->Bd s a->Bd s b->(s+8)*3^(a.length-1)<=16777216->(∀d,Lf d (cz a)->Lf d (cz b)->∃c:Rat,c≠0/\∀t,ev d t=c)->∃l,ON k a b=some (b::l)/\SCl (cz a) (cz b) (l.map cz)
 | 0,_,_,_,_,_,h,_,_,_,_,_,_=>by omega
 |
  k+1,a,b,ta,tb,hb,hk,hab,hl,ba,bb,hs,hd=>by
  obtain⟨h1,h2,h3,u,v,up,vp,X,hX⟩:=HO ta tb hb hl;have h3:=h3 s ba bb;obtain⟨m,hm⟩:=nmE (a.length-b.length);have e1:a.length+1-b.length=m+1:=by omega
  rw[e1]at h3;have e2:s+(m+1)*(s+8)+8=(m+2)*(s+8):=by
   rw[show m+2=(m+1)+1 by omega,Xp (m+1)];omega
  have e3:(m+2)*(s+8)*3^(b.length-1)<=(s+8)*3^(a.length-1):=by
   rw[show a.length-1=m+(b.length-1) by omega,Xq,<-Xz,Zo (s+8)];exact Qx _ (Qx _ (Qp5 m (by omega)))
  have e4:s+(m+1)*(s+8)<=16777216:=by
   have:(m+2)*(s+8)<=(m+2)*(s+8)*3^(b.length-1):=J8 _ (Zy (by decide));omega
  simp only[ON];rw[if_neg hb,Ij (by omega) (Gd h3 e4)];show ∃l,((ON k b (Nm (Rv a b))).bind λl=>some (b::l))=some (b::l)/\_;have lneg:(Nm (Rv a b)).length<=(Rv a b).length:=Lo _;by_cases hr:(Rv a b).length=0
  ·have e:Nm (Rv a b)=[]:=Qg (by omega);rw[e];refine⟨[],?_,?_⟩
   ·obtain⟨j,rfl⟩:∃j,k=j+1:=⟨k-1,by omega⟩;rfl
   ·obtain⟨c,hc,hcc⟩:=hd (cz b) ⟨Nj (1 / u) X,λt=>by
     have:=hX t;rw[Dh hr]at this;have hu:1 / u*u=1:=Ht up;rw[Gg,Gg,Hb];have:Gf a t=1 / u*(u*Gf a t):=by grind
     rw[this,hX,Dh hr];grind⟩ (dvd_refl _)
    exact .base hc hcc
  ·have tn:Gh (Nm (Rv a b)):=Gk _ _;have hn0:(Nm (Rv a b)).length≠0:=λh0=>by
    have:=Ap (c:=-1) h1 tn (by decide) λt=>by rw[ZL];grind
    omega
   obtain⟨l,i1,i2⟩:=oK (s:=s+(m+1)*(s+8)) k b (Nm (Rv a b)) tb tn hn0 (by omega) (by omega) (by omega) (Gd bb (by omega)) (XG h3) (by rw[e2];omega) λd d1 d2=>by
    refine hd d ?_ d1;obtain⟨y,hy⟩:=d1;obtain⟨z,hz⟩:=d2;have hu:1 / u*u=1:=Ht up;refine⟨Nj (1 / u) (Sj (H5 X y) (Nj (-v) z)),λt=>?_⟩;have a1:=hX t;have a2:=hy t;have a3:=hz t;rw[Gg]at a2 a3;rw[ZL]at a3;rw[Gg,Hb,Hl,Gj,Hb];have:Gf a t=1 / u*(u*Gf a t):=by grind
    rw[this,a1,a2,show Gf (Rv a b) t=-(ev d t*ev z t) by grind];grind
   refine⟨Nm (Rv a b)::l,by rw[i1];rfl,?_⟩;rw[Zx];exact .step (q:=X) up vp (λt=>by rw[Gg,Gg,Gg,hX,ZL];clear i2 i1 hd h3 hs;grind) i2
theorem FG(x:Rat):∀(l:Fu) (n:Nat) (s:Int),(l.foldl (M6 λp=>Hp p x) (n,s)).1=n+tc x s (l.map cz)
 | [],n,s=>rfl
 |
  p::l,n,s=>by
  simp only[Z0,Zx,tc,M6];rw[Se,Gg]
  split
  ·exact FG x l n s
  ·rw[FG x l]
   split <;> omega
theorem JF(l:Fu)(x:Rat):Bb l x=vv (l.map cz) x:=by
 have:=FG x l 0 0;unfold Bb XK vv;rw[this];omega
theorem Qhm{n s:Nat}(hz:Szz n (s+73)){P g q:Ft}(sq:Sqp P g q)(lq:q.length<=n)(bq:Bd (s+69) q):∃d,OC (Hm q)=some d/\∃l,ON 66 q (Gm d)=some l/\WP (cz q) ((q::l).map cz)/\(q.length<2->l=[]):=by
 have hn:=hz.1;have hs:=Qcn hz;have bd:=TF bq (by omega);have ld:=Pn q;refine⟨Hm q,Ij (by omega) (Gd bd (by omega)),?_⟩;have hq0:=sq.pq.n;by_cases h2:q.length<2
 ·have e:Gm (Hm q)=[]:=by rw[Qg (l:=Hm q) (by omega)];rfl
  rw[e];refine⟨[],rfl,.inl ⟨1,by decide,λt=>?_,rfl⟩,λ_=>rfl⟩;rw[Gg,sq.pq.one h2,Ru]
 ·have hdnz:(Hm q).length≠0:=λh=>by
   have h1:=My q (q.length-2);rw[Qg h,show q.length-2+1=q.length-1 by omega]at h1;have h3:q.getD (q.length-1) 0≠0:=Rz sq.pq.t (by omega);rcases Yg.1 (h1.symm.trans (by simp))with h4|h4
   ·exact h3 h4
   ·omega
  obtain⟨p1,p2,p3,p4,p5,p6,p7⟩:=M4 (p:=Hm q) (Gk _ _) hdnz;have hdl:Gp (Hm q)=Gp q*((q.length-1:Nat):Int):=by
   have hld:(Hm q).length=q.length-1:=by
    rcases Q7 (Hm q).length (q.length-1)with h|h
    ·have h1:=My q (q.length-2);rw[Qc,Qt (by omega),show q.length-2+1=q.length-1 by omega]at h1;have h3:q.getD (q.length-1) 0≠0:=Rz sq.pq.t (by omega);rcases Yg.1 (h1.symm.trans (by simp))with h4|h4
     ·exact absurd h4 h3
     ·omega
    ·omega
   unfold Gp;rw[hld,My,show q.length-1-1+1=q.length-1 by omega]
  have hfac:0<Rl (Hm q):=by
   have hlp:0<Gp (Hm q):=by rw[hdl];exact Fa sq.pq.l (by omega)
   have hc:=ZP (p:=Hm q) (Gk _ _) hdnz;unfold Rl;rw[if_neg (by omega)];unfold Mx at hc ⊢;omega
  have hfq:((0:Int):Rat)<(Rl (Hm q):Rat):=Jm.2 hfac;have hfq:(0:Rat)<(Rl (Hm q):Rat):=by simpa using hfq
  have hff:1 / (Rl (Hm q):Rat)*(Rl (Hm q):Rat)=1:=Ht hfq;have hz2:=hz.2;have hp3:(s+73+8)*3^(q.length-1)<=16777216:=by
   have:(s+73+8)*3^(q.length-1)<=(s+73+8)*3^(n-1):=Zl _ (Zs (by decide) (by omega));rw[Xz]at hz2;omega
  obtain⟨l,h3,h4⟩:=oK (s:=s+73) 66 q (Gm (Hm q)) sq.pq.t p1 (by omega) (by omega) (by omega) (by omega) (Gd bq (by omega)) (p5 _ bd) hp3 λd d1 d2=>sq.num d1 (by
   obtain⟨z,hz⟩:=d2;exact⟨Nj (Rl (Hm q)) z,λt=>by
    have:=hz t;rw[Gg]at this;rw[Ss,<-C7,p7,this,Hb];grind⟩)
  refine⟨Gm (Hm q)::l,h3,.inr ⟨cz (Gm (Hm q)),l.map cz,1 / (Rl (Hm q):Rat),Eh (by decide) hfq,λt=>?_,h4,rfl⟩,λh=>absurd h h2⟩;rw[Gg,<-C7,p7 t];grind
theorem chain_ok{n s:Nat}{p:Ft}(h:Okp n s p):∃q l,Mc p=some q/\chain p=some (q::l)/\WP (cz q) ((q::l).map cz)/\(q.length<2->l=[]):=by
 obtain⟨pp,hl,hb⟩:=h.pr;have hn:=h.z.1;have Ei:=h.l;obtain⟨g,q,hq,sq⟩:=Ia h;have e1:∀t,Gf (Gm p) t=Gf q t*Gf g t:=λt=>by rw[sq.e];grind
 obtain⟨p1,p2⟩:=Rp pp.t pp.n e1;have hll:=S5 sq.pq.t sq.pg.t pp.t e1 p1 p2;obtain⟨d,d1,l,d2,d3⟩:=Qhm h.z sq (by omega) (E9 hb (by omega) pp.t sq.pq.t sq.pg.t pp.n e1);refine⟨q,l,hq,?_,d3⟩;unfold chain;rw[hq];show(if q.length=0 then none else _)=_;rw[if_neg sq.pq.n,d1];show(ON 66 q (Gm d)).bind _=_;rw[d2];rfl
theorem sU{c x y:Rat}(hc:0<c)(h:c*x=c*y):x=y:=by
 have h1:1 / c*c=1:=Ht hc;have e:∀z:Rat,z=1 / c*(c*z):=λz=>by grind
 rw[e x,h,<-e y]
theorem qL(p:Ft):∀i,i<=p.length->Ob p i=Tu (p.take i)
 | 0,_=>rfl
 |
  i+1,h=>by
  have hx:p[i]? = some (p.getD i 0):=by rw[Qc,Qf (by omega)];rfl
  rw[SR hx,<-qL p i (by omega)];rfl
theorem Qof(p:Ft):((Orr.cont p:Nat):Int)=Mx p:=by
 unfold Orr.cont Mx;rw[qL p _ (Nat.le_refl _),List.take_length]
theorem Qkl(p:Ft):G6 p=Gp p:=rfl
theorem Qig(p:Ft):Cd p=Rl p:=by unfold Cd Rl;rw[Qof,Qkl]
theorem UA(p:Ft)(k:Nat):(Te p).getD k 0=p.getD k 0 / Rl p:=by
 unfold Te;rw[Sy,Qig]
 split
 ·rfl
 ·rename_i h;rw[Ro (by omega),Int.zero_ediv]
theorem H7(p:Ft):Te p=Gm p:=by
 unfold Gm
 split
 ·rename_i h;rw[List.eq_nil_of_length_eq_zero h];rfl
 ·exact WV (OH p) (Tg _) λk=>by rw[UA,Du]
theorem pM(p:Ft)(k:Nat):(S0 p).getD k 0=p.getD k 0 / Mx p:=by
 unfold S0
 split
 ·rename_i h;rw[xB,UA];have:Rl p=-Mx p:=if_pos h;rw[this,Int.ediv_neg,Int.neg_neg]
 ·rename_i h;rw[UA];have:Rl p=Mx p:=if_neg h;rw[this]
theorem NP(p:Ft):Gh (S0 p):=by
 unfold S0;split
 ·exact Gk _ _
 ·exact OH p
theorem NV(p:Ft):S0 p=I0 p:=by
 unfold I0
 split
 ·rename_i h;rw[List.eq_nil_of_length_eq_zero h];rfl
 ·exact WV (NP p) (Tg _) λk=>by rw[pM,Du]
theorem xC{p:Ft}(tp:Gh p)(h:p.length≠0):Prm (I0 p):=λd hd=>by
 refine(M4 tp h).2.2.1 d λk=>?_
 have h1:=hd k;unfold I0 at h1;rw[if_neg h,Du]at h1;unfold Gm;rw[if_neg h,Du];unfold Rl
 split
 ·rw[Int.ediv_neg];exact Int.dvd_neg.2 h1
 ·exact h1
theorem rG{a b c:Int}(h:Nat.Coprime a.natAbs b.natAbs)(h2:a∣b*c):a∣c:=X2.1 (h.dvd_of_dvd_mul_left (by rw[<-Ya];exact X2.2 h2))
theorem PH{p q:Ft}(tp:Gh p)(tq:Gh q)(hp:Prm p)(hq:Prm q){c:Rat}(hc:0<c)(h:∀t,Gf p t=c*Gf q t):p=q:=by
 have hd:=c.den_nz;have hd0:((c.den:Int):Rat)≠0:=O5 (by omega);have e:c*((c.den:Int):Rat)=(c.num:Rat):=by
  have h1:(c.num:Rat) / ((c.den:Int):Rat)=c:=by rw[Tq,Z9]
  have h2:(c.num:Rat) / ((c.den:Int):Rat)*((c.den:Int):Rat)=(c.num:Rat):=Zb hd0;rw[h1]at h2;exact h2
 have hk:∀k,(c.den:Int)*p.getD k 0=c.num*q.getD k 0:=λk=>by
  have:=Lt (p:=Gs p (c.den:Int)) (q:=Gs q c.num) (λt=>by
   rw[Td,Td,h,<-e];grind) k
  rw[Ts,Ts]at this;rw[Ki,this,Ki]
 have d1:(c.den:Int)∣1:=hq _ λk=>rG (a:=(c.den:Int)) (b:=c.num) (by simpa using c.reduced.symm) (by rw[<-hk k];exact Vu _ _)
 have d2:c.num∣1:=hp _ λk=>rG (a:=c.num) (b:=(c.den:Int)) (by simpa using c.reduced) (by rw[hk k];exact Vu _ _)
 have p1:0<c.num:=by
  have h0:=Rat.num_nonneg.2 (Qm hc);rcases Int.lt_or_eq_of_le h0 with h1|h1
  ·exact h1
  ·exfalso;rw[<-h1]at e;have e0:((0:Int):Rat)=0:=rfl;rw[e0]at e;rcases Xl.1 e with h2|h2
   ·grind
   ·exact hd0 h2
 have e1:=Int.le_of_dvd (by decide) d1;have e2:=Int.le_of_dvd (by decide) d2;have n1:c.num=1:=by omega
 have n2:(c.den:Int)=1:=by omega
 refine WV tp tq λk=>?_
 have:=hk k;rw[n1,n2]at this;omega
theorem Qey{a b:Ft}(hb:b.length<=a.length):Om a b=str b ((Gp b).natAbs:Int) (a.length-b.length) (Ez a b) a:=by
 refine WV (Gk _ _) (Gk _ _) λk=>?_
 unfold Om str;rw[Sy,D6,Ts,kT]
 split
 ·rfl
 ·rename_i h;rw[Ro (p:=a) (by omega),Yw,if_pos (by omega),Ro (p:=b) (by omega),Kj];rfl
theorem Qlk{a b:Ft}(hb:b.length<=a.length)(t:Rat):(((Gp b).natAbs:Int):Rat)*Gf a t=((Ez a b:Int):Rat)*t^(a.length-b.length)*Gf b t+Gf (Om a b) t:=by
 rw[Qey hb];exact Qmd _ _ _ _ _ _
theorem Qex{a b:Ft}(hb0:b.length≠0)(hb:b.length<=a.length):(Om a b).length<a.length:=by
 have h:=kX (p:=Om a b) (n:=a.length-1) (Gk _ _) (Qe (Io _ _) (by omega)) (by
  unfold Om Ad;rw[Sy,if_pos (by omega),if_pos (by omega),show a.length-1-(a.length-b.length)=b.length-1 by omega];show G6 a*((G6 b).natAbs:Int)-Ez a b*G6 b=0;unfold Ez
  split
  ·rw[show((G6 b).natAbs:Int)=-G6 b by omega,Ky,Ka];omega
  ·rw[show((G6 b).natAbs:Int)=G6 b by omega];omega)
 omega
theorem Qlj{a b:Ft}{s t:Nat}(ha:Bd s a)(hb:Bd t b):Bd (s+t+1) (Om a b):=XF λi _=>by
 have h1:=G5 ha i;have h2:Gy ((G6 b).natAbs:Int)<=t:=by
  have h:Gy (G6 b)<=t:=G5 hb (b.length-1);rw[Pf]at h ⊢;rw[Zw];exact h
 have h3:Gy (Ez a b)<=s:=by
  have:=G5 ha (a.length-1);unfold Ez
  split
  ·rw[Ty];exact this
  ·exact this
 have h4:=Hn (a.getD i 0) ((G6 b).natAbs:Int);unfold Ad
 split
 ·have h5:=Hn (Ez a b) (b.getD (i-(a.length-b.length)) 0);have h6:=G5 hb (i-(a.length-b.length));have:=Qa3 (a.getD i 0*((G6 b).natAbs:Int)) (Ez a b*b.getD (i-(a.length-b.length)) 0);omega
 ·rw[Int.sub_zero];omega
theorem CU{b:Ft}(tb:Gh b)(hb:b.length≠0){t:Nat}(bb:Bd t b):∀(k:Nat) (a:Ft) (s:Nat),a.length<b.length+k->Gh a->a.length<=60->Bd s a->s+k*(t+1)<=9000000->t<=9000000 ->
 ∃n r,RRun b n a r/\Gh r/\r.length<b.length/\Bd (s+k*(t+1)) r/\∃(u:Rat) (X:Fw),0<u/\∀x,u*Gf a x=ev X x*Gf b x+Gf r x
 | 0,a,s,hl,ta,_,ba,_,_=>⟨0,a,.stop (by omega),ta,by omega,by rw[Ym];exact ba,1,[],by decide,λx=>by simp only[ev];grind⟩
 |
  k+1,a,s,hl,ta,h6,ba,hs,ht=>by
  rcases Q7 a.length b.length with h|h
  ·exact⟨0,a,.stop h,ta,h,Gd ba (by omega),1,[],by decide,λx=>by simp only[ev];grind⟩
  ·have h1:=Qex hb h;have e:s+t+1+k*(t+1)=s+(k+1)*(t+1):=by rw[Xp];omega
   obtain⟨n,r,r1,r2,r3,r4,u,X,hu,hX⟩:=CU tb hb bb k (Om a b) (s+t+1) (by omega) (Gk _ _) (by omega) (Qlj ba bb) (by omega) ht;have hlp:((0:Int):Rat)<(((Gp b).natAbs:Int):Rat):=Jm.2 (by have:=Ln tb hb;omega);have hlp:(0:Rat)<(((Gp b).natAbs:Int):Rat):=by simpa using hlp
   refine⟨n+1,r,.step h (by omega) (Gd ba (by omega)) (Gd bb ht) r1,r2,r3,by rw[<-e];exact r4,u*(((Gp b).natAbs:Int):Rat),Sj (Nj (u*((Ez a b:Int):Rat)) (cz (mono (a.length-b.length) 1))) X,Xj hu hlp,λx=>?_⟩;have g1:=Qlk h x;have g2:=hX x;rw[Hl,Hb,Gg,ZN];have e1:((1:Int):Rat)=1:=rfl;rw[e1];have:u*(((Gp b).natAbs:Int):Rat)*Gf a x=u*((((Gp b).natAbs:Int):Rat)*Gf a x):=by grind
   rw[this,g1];grind
theorem Qqq{a b r:Ft}(ta:Gh a)(tb:Gh b)(hb:b.length≠0)(hl:a.length<=60)(tr:Gh r)(hr:r.length<b.length){u:Rat}{X:Fw}(hu:0<u)(hX:∀x,u*Gf a x=ev X x*Gf b x+Gf r x):S0 r=Rv a b:=by
 obtain⟨h1,h2,_,u',v',up,vp,X',hX'⟩:=HO ta tb hb hl;have key:∀x,ev (Sj (Nj (u*v') (cz (Rv a b))) (Nj (-u') (cz r))) x=ev (H5 (Sj (Nj u' X) (Nj (-u) X')) (cz b)) x:=λx=>by
  have g1:=hX x;have g2:=hX' x;rw[Hl,Hb,Hb,Gj,Hl,Hb,Hb,Gg,Gg,Gg];have k1:u'*(u*Gf a x)=u'*(ev X x*Gf b x+Gf r x):=by rw[g1]
  have k2:u*(u'*Gf a x)=u*(ev X' x*Gf b x+v'*Gf (Rv a b) x):=by rw[g2]
  grind
 have hz:∀x,ev (Sj (Nj u' X) (Nj (-u) X')) x=0:=by
  rcases MN (Sj (Nj u' X) (Nj (-u) X'))with h|⟨m,_,h⟩
  ·exact h
  ·exfalso;have hm:=SC h (WL tb (by omega));have h3:=(Qi4 (λt=>(key t).symm) hm).1;rw[So,Pm,Pm,Ng,Ng,Ro (p:=Rv a b) (by omega),Ro (p:=r) (by omega)]at h3;have e0:((0:Int):Rat)=0:=rfl;rw[e0]at h3;exact h3 (by grind)
 have hpr:∀x,Gf r x=u*v' / u'*Gf (Rv a b) x:=λx=>by
  have g:=key x;rw[Gj,hz x,Hl,Hb,Hb,Gg,Gg]at g;have hd:u*v' / u'*u'=u*v':=Ht up;have hne:u'≠0:=by grind
  have:u'*Gf r x=u'*(u*v' / u'*Gf (Rv a b) x):=by
   have e:u'*(u*v' / u'*Gf (Rv a b) x)=(u*v' / u'*u')*Gf (Rv a b) x:=by grind
   rw[e,hd];grind
  exact sU up this
 have hcp:0<u*v' / u':=Eh (Xj hu vp) up;rw[NV];have hlen:=Ap tr h1 (by grind:u*v' / u'≠0) hpr;by_cases h0:r.length=0
 ·rw[Qg h0,Qg (l:=Rv a b) (by omega)];rfl
 ·obtain⟨c,cp,hc⟩:=pW tr;have hcn:c≠0:=by grind
  have hp2:Prm (Rv a b):=by
   unfold Rv at hlen ⊢;have ht:Gh (Cf a b (Nw a b)):=by
    unfold Cf;split
    ·exact Gk _ _
    ·exact(wR hb _ _ _ ta (by omega)).1
   refine xC ht λe=>?_
   rw[Qg e]at hlen;exact h0 hlen
  have tn:Gh (I0 r):=by rw[<-NV];exact NP r
  refine PH tn h1 (xC tr h0) hp2 (c:=u*v' / u' / c) (Eh hcp cp) λt=>?_
  have g1:=hc t;have g2:=hpr t;have hd:u*v' / u' / c*c=u*v' / u':=Ht cp;refine sU cp ?_;have e:c*(u*v' / u' / c*Gf (Rv a b) t)=(u*v' / u' / c*c)*Gf (Rv a b) t:=by grind
  rw[e,hd,<-g1,g2]
theorem Lv{p:Ft}(h:Pr1 p):Gm p=p:=by
 obtain⟨h1,h2,h3,h4,_,h6,h7⟩:=M4 h.t h.n;have hl:=h.l;have hc:0<Rl p:=by
  have:=ZP h.t h.n;unfold Rl;rw[if_neg (by omega)];unfold Mx at this ⊢;omega
 have hq:((0:Int):Rat)<(Rl p:Rat):=Jm.2 hc;exact(PH h.t h1 h.m h3 (c:=(Rl p:Rat)) (by simpa using hq) h7).symm
theorem VG{r:Ft}(tr:Gh r):(Gm r).length=r.length/\((Gm r).length=0\/Pr1 (Gm r)):=by
 by_cases h:r.length=0
 ·rw[Qg h];exact⟨rfl,.inl rfl⟩
 ·exact⟨(M4 tr h).2.1,.inr (Qej tr h)⟩
theorem PI{s m lb la:Nat}(e:la-1=m+(lb-1))(hm:1<=m)(hs:(s+8)*3^(la-1)<=9000000):(s+(m+1)*(s+8)+8)*3^(lb-1)<=9000000/\s+(m+1)*(s+8)<=9000000:=by
 have e2:s+(m+1)*(s+8)+8=(m+2)*(s+8):=by
  rw[show m+2=(m+1)+1 by omega,Xp (m+1)];omega
 have e3:(m+2)*(s+8)*3^(lb-1)<=(s+8)*3^(la-1):=by
  rw[e,Xq,<-Xz,Zo (s+8)];exact Qx _ (Qx _ (Qp5 m hm))
 have:(m+2)*(s+8)<=(m+2)*(s+8)*3^(lb-1):=J8 _ (Zy (by decide));exact⟨by rw[e2];omega,by omega⟩
theorem mJ{a b:Ft}{s:Nat}(ta:Gh a)(tb:Gh b)(hb:b.length≠0)(hab:b.length<a.length)(hl:a.length<=60)(ba:Bd s a)(bb:Bd s b)(hs:(s+8)*3^(a.length-1)<=9000000) :
 ∃n r,RRun b n a r/\Gh r/\r.length<b.length/\Bd (s+(a.length-b.length+1)*(s+8)) r/\S0 r=Rv a b/\∃(u:Rat) (X:Fw),0<u/\∀x,u*Gf a x=ev X x*Gf b x+Gf r x:=by
 obtain⟨k1,k2⟩:=PI (s:=s) (m:=a.length-b.length) (lb:=b.length) (la:=a.length) (by omega) (by omega) hs;have h1:(a.length-b.length+1)*(s+1)<=(a.length-b.length+1)*(s+8):=Zl _ (by omega);obtain⟨n,r,r1,r2,r3,r4,u,X,hu,hX⟩:=CU tb hb bb (a.length-b.length+1) a s (by omega) ta hl ba (by omega) (by omega);exact⟨n,r,r1,r2,r3,Gd r4 (by omega),Qqq ta tb hb hl r2 r3 hu hX,u,X,hu,hX⟩
theorem vD:∀(k:Nat) (a b:Ft) (s:Nat),b.length<k->Pr1 a->(b.length=0\/Pr1 b)->Gh b->b.length<a.length->a.length<=60->Bd s a->Bd s b->(s+8)*3^(a.length-1)<=9000000 ->
 ∃n g,GRun n a b g/\Pr1 g/\Lf (cz g) (cz a)/\Lf (cz g) (cz b)/\∀d,Lf d (cz a)->Lf d (cz b)->Lf d (cz g)
 | 0,_,_,_,h,_,_,_,_,_,_,_,_=>by omega
 |
  k+1,a,b,s,hk,pa,pb,tb,hab,hl,ba,bb,hs=>by
  rcases pb with h0|pb
  ·rw[Qg h0];exact⟨0,a,.stop a,pa,dvd_refl _,⟨[],λt=>by simp only[cz,Jj,ev];grind⟩,λ_ h _=>h⟩
  ·have hb:=pb.n;obtain⟨n,r,r1,r2,r3,r4,_,u,X,hu,hX⟩:=mJ pa.t tb hb hab hl ba bb hs;obtain⟨k1,k2⟩:=PI (s:=s) (m:=a.length-b.length) (lb:=b.length) (la:=a.length) (by omega) (by omega) hs;obtain⟨p1,p2⟩:=VG r2;obtain⟨_,p3,p4,c,c1,c2⟩:=Bs r2;have tp:Gh (Gm r):=by
    rcases p2 with h|h
    ·rw[Qg h];rfl
    ·exact h.t
   obtain⟨j,g,g1,g2,g3,g4,g5⟩:=vD k b (Gm r) (s+(a.length-b.length+1)*(s+8)) (by omega) pb p2 tp (by omega) (by omega) (Gd bb (by omega)) (p4 _ r4) k1;refine⟨j+1,g,.step (by omega) (by omega) (Gd bb (by omega)) r1 (by omega) (Gd r4 k2) r2 (by rw[H7];exact g1),g2,?_,g3,λd ⟨y,hy⟩ ⟨z,hz⟩=>g5 d ⟨z,hz⟩ ((A0 c1 c2).1 ⟨Sj (Nj u y) (Nj (-1) (H5 X z)),λt=>by
    have a1:=hX t;have a2:=hy t;have a3:=hz t;rw[Gg]at a2 a3 ⊢;rw[Hl,Hb,Hb,Gj];have:Gf r t=u*Gf a t-ev X t*Gf b t:=by grind
    rw[this,a2,a3];grind⟩)⟩
   obtain⟨y,hy⟩:=g3;obtain⟨z,hz⟩:=g4;have hu1:1 / u*u=1:=Ht hu;refine⟨Nj (1 / u) (Sj (H5 X y) (Nj c z)),λt=>?_⟩;have a1:=hX t;have a2:=hy t;have a3:=hz t;have a4:=c2 t;rw[Gg]at a2 a3 ⊢;rw[Hb,Hl,Gj,Hb];have:Gf a t=1 / u*(u*Gf a t):=by grind
   rw[this,a1,a2,a4,a3];grind
theorem lT{c:Int}(h:c≠0):Gs [1] c=[c]:=by
 show B6 1 _=_;rw[Ip,UJ];show(if 1*c=0 then _ else [1*c])=_;rw[Vj,if_neg h]
theorem eC(k:Nat)(c:Int)(i:Nat):(Pg k [c]).getD i 0=if i=k then c else 0:=by
 unfold Pg;rw[Qc];rcases Jz i k with h|h|h
 ·rw[Q3 (by simpa using h),if_neg (by omega)];simp[h]
 ·subst h;rw[Zj (by simp)];simp
 ·rw[Qt (by simp;omega),if_neg (by omega)];rfl
theorem EY:∀(k:Nat) (a q p:Ft),a.length<=k->Gh a->a.length<=60->Bd 9000000 a->a.length<=q.length->q.length=p.length->(∀i,i<a.length->a.getD i 0=p.getD i 0)->(∀i,i<a.length->q.getD i 0=0)->(∀i,a.length<=i->q.getD i 0=p.getD i 0)->∃n,DRun [1] n a q p []
 |
  0,a,q,p,h,_,_,_,_,hq,_,_,h3=>by
  have e:=Qg (l:=a) (by omega);subst e;have e2:q=p:=by
   refine List.ext_getElem hq λi h1 h2=>?_
   have:=h3 i (by simp);rw[Qc,Qc,Qf h1,Qf h2]at this;exact this
  rw[e2];exact⟨0,.stop (by decide)⟩
 |
  k+1,a,q,p,h,ta,h6,ba,haq,hq,h1,h2,h3=>by
  by_cases h0:a.length=0
  ·exact EY k a q p (by omega) ta h6 ba haq hq h1 h2 h3
  ·have hlead:G6 a≠0:=Rz ta (by omega);have hp1:G6 [1]=1:=rfl;have e1:P7 a (Pg (a.length-1) (Gs [1] (G6 a / G6 [1])))=P7 a (Pg (a.length-1) [G6 a]):=by
    rw[hp1,Kh,lT hlead]
   have g:∀i,(P7 a (Pg (a.length-1) [G6 a])).getD i 0=if i=a.length-1 then 0 else a.getD i 0:=λi=>by
    rw[D6,eC]
    split
    ·rename_i e;subst e;exact Int.sub_self _
    ·rw[Int.sub_zero]
   have ll:(P7 a (Pg (a.length-1) [G6 a])).length<=a.length-1:=by
    refine kX (Gk _ _) (Qe (Ml _ _) ?_) (by rw[g,if_pos rfl]);rw[FY];simp;omega
   have gz:∀i,(P7 a (Pg (a.length-1) [G6 a])).length<=i->i<a.length-1->a.getD i 0=0:=λi k1 k2=>by
    have:=g i;rw[Ro k1,if_neg (by omega)]at this;exact this.symm
   have gs:∀i,(q.set (a.length-1) (G6 a)).getD i 0=if i=a.length-1 then G6 a else q.getD i 0:=λi=>by
    rw[Qc,Jy];by_cases e:a.length-1=i
    ·rw[if_pos e,if_pos (by omega),if_pos e.symm];rfl
    ·rw[if_neg e,if_neg (λh=>e h.symm),Qc]
   have hpa:G6 a=p.getD (a.length-1) 0:=h1 _ (by omega);obtain⟨n,hn⟩:=EY k (P7 a (Pg (a.length-1) [G6 a])) (q.set (a.length-1) (G6 a)) p (by omega) (Gk _ _) (by omega) (λz hz=>by
    obtain⟨i,hi⟩:=Ze hz;have e:z=(P7 a (Pg (a.length-1) [G6 a])).getD i 0:=by rw[Qc,hi];rfl
    rw[e,g]
    split
    ·exact Qh _
    ·exact G5 ba i) (by rw[Jg];omega) (by rw[Jg];exact hq) (λi hi=>by rw[g,if_neg (by omega)];exact h1 i (by omega)) (λi hi=>by rw[gs,if_neg (by omega)];exact h2 i (by omega)) (λi hi=>by
    rw[gs]
    split
    ·rename_i e;rw[e];exact hpa
    ·rename_i e;by_cases k1:a.length<=i
     ·exact h3 i k1
     ·rw[h2 i (by omega),<-h1 i (by omega),gz i hi (by omega)])
   refine⟨n+1,.step (by show 1<=a.length;omega) (by omega) ba (by decide) (by rw[hp1];exact Fc _) (by show a.length-1<q.length;omega) ?_⟩;show DRun [1] n (P7 a (Pg (a.length-1) (Gs [1] (G6 a / G6 [1])))) (q.set (a.length-1) (G6 a / G6 [1])) p [];rw[e1,hp1,Kh];exact hn
theorem Qac{p:Ft}(tp:Gh p)(hl:p.length<=60)(bp:Bd 9000000 p):DOk p [1] p:=by
 obtain⟨n,hn⟩:=EY p.length p (List.replicate (p.length+1-1) 0) p (Qn _) tp hl bp (by simp) (by simp) (λ_ _=>rfl) (λi _=>Tw _ i) (λi hi=>by rw[Tw,Ro hi]);exact⟨by decide,by decide,by omega,b1 (by decide),p,[],n,bp,by omega,hn,tp.symm⟩
theorem oD:∀(k:Nat) (pre:Fu) (a b:Ft) (s:Nat) (L:Fu),ON k a b=some L->Gh a->Gh b->b.length<a.length->a.length<=60->Bd s a->Bd s b->(s+8)*3^(a.length-1)<=9000000->pre.length+a.length<=500 ->
 ∃n,CRun n (pre++[a]) b (pre++[a]++L)/\L.length<=b.length
 | 0,_,_,_,_,_,h,_,_,_,_,_,_,_,_=>by cases h
 |
  k+1,pre,a,b,s,L,h,ta,tb,hab,hl,ba,bb,hs,hp=>by
  simp only[ON]at h
  split at h
  ·rename_i h0;injection h with h;subst h;rw[Xk];exact⟨0,.stop h0,by simp⟩
  ·rename_i h0;obtain⟨r0,hr0,h⟩:=Qk.1 h;obtain⟨l,hl1,h⟩:=Qk.1 h;injection h with h;subst h;have er:r0=Rv a b:=by
    unfold OC at hr0
    split at hr0
    ·injection hr0 with hr0;exact hr0.symm
    ·cases hr0
   rw[er]at hl1;obtain⟨n,r,r1,r2,r3,r4,r5,_⟩:=mJ ta tb h0 hab hl ba bb hs;obtain⟨k1,k2⟩:=PI (s:=s) (m:=a.length-b.length) (lb:=b.length) (la:=a.length) (by omega) (by omega) hs;have hlp:=XO r;have hln:=Lo (S0 r);rw[<-r5]at hl1;obtain⟨j,c1,c2⟩:=oD k (pre++[a]) b (Nm (S0 r)) (s+(a.length-b.length+1)*(s+8)) l hl1 tb (Gk _ _) (by omega) (by omega) (Gd bb (by omega)) (XG (qW r4)) k1 (by simp;omega);have hlast:Mw (pre++[a])=a:=by unfold Mw;simp
   refine⟨j+1,.step (by omega) (by omega) (Gd bb (by omega)) (by rw[hlast];exact r1) r2 (Gd r4 k2) (by omega) (by simp) (by simp;omega) ?_,by simp;omega⟩;have e:pre++[a]++b::l=pre++[a]++[b]++l:=by simp
   rw[e];exact c1
theorem Qdg{P g q:Ft}{s:Nat}(sq:Sqp P g q)(l2:2<=q.length)(lq:q.length<=9)(bq:Bd s q)(hs:(s+4+8)*3^8<=9000000){L:Fu}(hL:ON 66 q (Gm (Hm q))=some L):FRun q 1 (λ_=>q)/\ChRun q q (q::L):=by
 have pq:=sq.pq;have hpow:(s+4+8)*3^(q.length-1)<=9000000:=Qe (Zl _ (Zs (by decide) (by omega))) hs;have hs9:s+4<=8000000:=by
  have:(s+4+8)*3^8=(s+4+8)*6561:=rfl;omega
 have ld:=Pn q;have bd:Bd (s+4) (Hm q):=TF bq (by omega);obtain⟨p1,p2⟩:=VG (r:=Hm q) (Gk _ _);obtain⟨_,p3,p4,c,c1,c2⟩:=Bs (a:=Hm q) (Gk _ _);have tp:Gh (Gm (Hm q)):=by
  rcases p2 with h|h
  ·rw[Qg h];rfl
  ·exact h.t
 obtain⟨m,h,g1,g2,g3,g4,_⟩:=vD 66 q (Gm (Hm q)) (s+4) (by omega) pq p2 tp (by omega) (by omega) (Gd bq (by omega)) (p4 _ bd) hpow;have hone:h=[1]:=by
  obtain⟨c',_,hc'⟩:=sq.num g3 (by
   obtain⟨z,hz⟩:=g4;exact⟨Nj c z,λt=>by
    have:=hz t;rw[Gg]at this;rw[Ss,<-C7,c2,this,Hb];grind⟩)
  refine g2.one (Uy λh2=>?_);have hd:=WL g2.t (by omega);have:=Lm (p:=cz h) (q:=[c']) (λt=>by rw[hc' t];simp only[ev];grind) (h.length-1);rw[Qc (l:=[c']),Qt (by simp;omega)]at this;exact hd.1 this
 subst hone;have hpq:=Lv pq;have t1:Gh [1]:=rfl;have dq:=Qac pq.t (by omega) (Gd bq (by omega:s<=9000000));have fr:FRun q 1 (λ_=>q):=by
  refine⟨⟨1,[q,[1]],?_,rfl,?_⟩,by decide⟩
  ·rw[H7,hpq];refine .step (m:=m) (g:=[1]) (by show 1<q.length;omega) (by show q.length<=1000;omega) (by show Gh q;exact pq.t) (by show Bd 9000000 q;exact Gd bq (by omega)) (by show Bd 9000000 (Hm q);exact Gd bd (by omega)) ?_ (by show 1<=1000;decide) ?_
   ·show GRun m (Te q) (Te (Hm q)) [1];rw[H7,H7,hpq];exact g1
   ·exact .stop (by show 1<=1;decide)
  ·intro k hk;have:k=0:=by omega
   subst this;exact⟨q,[1],q,dq,div_one,by rw[H7,hpq,pR];exact dq,by rw[H7,hpq]⟩
 obtain⟨n,c3,c4⟩:=oD 66 [] q (Gm (Hm q)) (s+4) L hL pq.t tp (by omega) (by omega) (Gd bq (by omega)) (p4 _ bd) hpow (by simp;omega);have hsz:S0 (Hm q)=Gm (Hm q):=by
  have hlp:¬G6 (Hm q)<0:=by
   have h1:G6 (Hm q)=Gp q*((q.length-1:Nat):Int):=by
    have hld:(Hm q).length=q.length-1:=by
     refine Vp ld (Vi λh=>?_);have h1:=My q (q.length-2);rw[Ro (by omega),show q.length-2+1=q.length-1 by omega]at h1;have h3:q.getD (q.length-1) 0≠0:=Rz pq.t (by omega);rcases Yg.1 h1.symm with h4|h4
     ·exact h3 h4
     ·omega
    unfold G6 Gp;rw[hld,My,show q.length-1-1+1=q.length-1 by omega]
   have:=Fa pq.l (show(0:Int)<((q.length-1:Nat):Int) by omega);omega
  unfold S0;rw[if_neg hlp,H7]
 refine⟨fr,⟨1,λ_=>q,fr,λi hi=>?_,?_⟩,⟨n,?_⟩,Gd bq (by omega),by omega,by simp;omega⟩
 ·have:i=0:=by omega
  subst this;exact⟨b1 (by decide),by show 1<=1000;decide,Gd bq (by omega),show q.length<=1000 by omega⟩
 ·show q=Gq [1] q;rw[xQ pq.t (by omega)]
 ·rw[hsz];exact c3
theorem rJ{P g q:Ft}{s:Nat}(sq:Sqp P g q)(l2:2<=q.length)(lq:q.length<=9)(bq:Bd s q)(hs:(s+4+8)*3^8<=9000000){L:Fu}(hL:ON 66 q (Gm (Hm q))=some L):ChRun q q (q::L):=(Qdg sq l2 lq bq hs hL).2
theorem Qbv(p q:Ft)(x:Rat):Gf (p++q) x=Gf p x+x^p.length*Gf q x:=by
 induction p with
 |nil=>simp only[J4,Gf,Y7,Xt];grind
 |cons a p ih=>simp only[Xa,Gf,Zf,ih,Xh];grind
theorem lY(k:Nat)(x:Rat):Gf (List.replicate k 0) x=0:=by
 induction k with
 |zero=>rfl
 |succ k ih=>rw[Ye];simp only[Gf,ih];push_cast;grind
theorem lX(k:Nat)(p:Ft)(x:Rat):Gf (Pg k p) x=x^k*Gf p x:=by
 unfold Pg;rw[Qbv,lY,Jf];grind
theorem Qaf{b:Ft}(tb:Gh b)(hb:b.length≠0)(lb:b.length<=60){s t:Nat}(bb:Bd t b)(hst:t+s+6<=9000000):∀(k:Nat) (a h q H:Ft),h.length<=k->Gh a->Gh h->(∀x,Gf a x=Gf b x*Gf h x)->a.length<=60->Bd s h->h.length<=q.length->q.length=H.length->(∀i,i<h.length->h.getD i 0=H.getD i 0)->(∀i,i<h.length->q.getD i 0=0)->(∀i,h.length<=i->q.getD i 0=H.getD i 0)->∃n,DRun b n a q H []
 |
  k,a,[],q,H,_,ta,_,e,_,_,_,hq,_,_,h3=>by
  have ea:a=[]:=Oj ta rfl λx=>by rw[e];simp only[Gf];grind
  have eq:q=H:=Xv λi=>by
   by_cases hi:i<q.length
   ·have:=h3 i (Qh _);rw[Qc,Qc,Qf hi,Qf (by omega)]at this;rw[Qf hi,Qf (by omega)];exact congrArg some this
   ·rw[Qt (by omega),Qt (by omega)]
  rw[ea,eq];exact⟨0,.stop (by show 0<b.length;omega)⟩
 | 0,a,c::h,q,H,hk,_,_,_,_,_,_,_,_,_,_=>by simp at hk
 |
  k+1,a,c0::h0,q,H,hk,ta,th,e,hl,bh,hlq,hq,h1,h2,h3=>by
  obtain⟨h,hh⟩:=nmE (c0::h0);rw[<-hh]at hk th e bh hlq h1 h2 h3;have hpos:0<h.length:=by rw[hh];simp
  have ane:a.length≠0:=λh'=>by
   have:=LK (p:=cz b) (q:=cz h) (r:=[]) (λh0=>JC tb (by omega) λt=>by rw[<-Gg];exact h0 t) (λt=>by rw[Gg,Gg,<-e,Dh h'];simp only[ev];grind);exact JC th hpos λt=>by rw[<-Gg];have:=this t;rw[this];rfl
  have hln:=S5 tb th ta e (by omega) hpos;have hld:=VQ tb th ta e (by omega) hpos;have hlb:=Ln tb hb;obtain⟨m,hm⟩:=nmE (h.length-1);have hdiv:G6 a / G6 b=Gp h:=by
   show Gp a / Gp b=_;rw[hld,X5 _ hlb]
  have ham:a.length-b.length=m:=by omega
  have ea:a=Gq b h:=Oj ta (Ho _ _) λx=>by rw[e,Gn]
  have ba:Bd 9000000 a:=by rw[ea];exact Gd (Sf (u:=6) bb bh (by omega)) hst
  obtain⟨h',hh'⟩:∃h',h'=trim (h.take m):=⟨_,rfl⟩;have htl:(h.take m).length=m:=by rw[Qz];omega
  have hsplit:h=h.take m++[Gp h]:=by
   have:h.drop m=[Gp h]:=by
    have hlt:m<h.length:=by omega
    rw[Xc hlt,Yx (by omega)];unfold Gp;rw[Qc,<-hm,Qf hlt];rfl
   rw[<-this,Zh]
  have ph:∀x,Gf h x=Gf h' x+x^m*(Gp h:Rat):=λx=>by
   have:=congrArg (Gf · x) hsplit;rw[Qbv,htl]at this;rw[this,hh',Iy];simp only[Gf];grind
  have g':∀i,i<m->h'.getD i 0=h.getD i 0:=λi hi=>by
   rw[hh',D9,Qc,Jp hi,<-Qc]
  have g'':∀i,m<=i->h'.getD i 0=0:=λi hi=>by
   rw[hh',D9];exact Ro (by omega)
  have hl':h'.length<=m:=by rw[hh'];exact Qe (Sl _) (by omega)
  have z0:∀i,i<h.length->h'.length<=i->i≠m->H.getD i 0=0:=λi hi hi' hne=>by
   rw[<-h1 i hi,<-g' i (by omega)];exact Ro hi'
  obtain⟨n,hn⟩:=Qaf tb hb lb bb hst k (P7 a (Pg (a.length-b.length) (Gs b (G6 a / G6 b)))) h' (q.set (a.length-b.length) (G6 a / G6 b)) H (by omega) (Gk _ _) (by rw[hh'];exact Tg _) (λx=>by
   rw[Bp,lX,Td,hdiv,ham,e,ph];grind)
   (by
    have l1:=Ml a (Pg (a.length-b.length) (Gs b (G6 a / G6 b)));have l2:=Gz b (G6 a / G6 b);rw[FY]at l1;omega)
   (by rw[hh'];exact Mb λz hz=>bh z (Qq hz)) (by rw[Jg];omega) (by rw[Jg];omega)
   (λi hi=>by rw[g' i (by omega)];exact h1 i (by omega))
   (λi hi=>by
    rw[Qc,Jy,if_neg (by omega),<-Qc];exact h2 i (by omega))
   (λi hi=>by
    rw[Qc,Jy,ham,hdiv];by_cases him:m=i
    ·rw[if_pos him,if_pos (by omega)];show Gp h=_;rw[<-h1 i (by omega),<-him,hm];rfl
    ·rw[if_neg him,<-Qc];by_cases hil:i<h.length
     ·rw[h2 i hil,z0 i hil hi (λe=>him e.symm)]
     ·exact h3 i (by omega))
  refine⟨n+1,.step (by omega) (by omega) ba hlb ?_ (by omega) hn⟩;show Gp b∣Gp a;rw[hld];exact Vu _ _
theorem cG{a b h:Ft}(ta:Gh a)(tb:Gh b)(th:Gh h)(hb:b.length≠0)(hh:h.length≠0)(e:∀x,Gf a x=Gf b x*Gf h x)(la:a.length<=60){s t:Nat}(bb:Bd t b)(bh:Bd s h)(hst:t+s+6<=9000000):DOk a b h:=by
 have ane:a.length≠0:=λh'=>by
  have:=LK (p:=cz b) (q:=cz h) (r:=[]) (λh0=>JC tb (by omega) λt=>by rw[<-Gg];exact h0 t) (λt=>by rw[Gg,Gg,<-e,Dh h'];simp only[ev];grind);exact JC th (by omega) λt=>by rw[<-Gg];have:=this t;rw[this];rfl
 have hln:=S5 tb th ta e (by omega) (by omega);obtain⟨n,hn⟩:=Qaf tb hb (by omega) bb hst h.length a h (List.replicate (a.length+1-b.length) 0) h (Qn _) ta th e la bh (by simp;omega) (by simp;omega) (λ_ _=>rfl) (λi _=>Tw _ i) (λi hi=>by rw[Tw,Ro hi]);exact⟨by omega,by omega,by omega,Gd bb (by omega),h,[],n,Gd bh (by omega),by omega,hn,th.symm⟩
theorem cB{p q:Ft}(hp:Pr1 p)(hq:Pr1 q)(h1:Lf (cz p) (cz q))(h2:Lf (cz q) (cz p)):p=q:=by
 obtain⟨u,tu,eu⟩:=MP hp.m h1;obtain⟨v,tv,ev'⟩:=MP hq.m h2;obtain⟨a1,a2⟩:=Rp hq.t hq.n eu;obtain⟨b1,b2⟩:=Rp hp.t hp.n ev';have l1:=S5 hp.t tu hq.t eu a1 a2;have l2:=S5 hq.t tv hp.t ev' b1 b2;obtain⟨c,rfl⟩:∃c,u=[c]:=Jw.1 (by omega);have hl:=VQ hp.t tu hq.t eu a1 a2;have hp':=hp.l;have hq':=hq.l;have hc:0<c:=by
  rw[hl]at hq';have:Gp [c]=c:=rfl;rw[this]at hq';rcases Yd c 0 with h|h|h
  ·have:=Vw hp' h;omega
  ·rw[h]at hq';omega
  ·exact h
 refine(PH hq.t hp.t hq.m hp.m (c:=(c:Rat)) (by exact_mod_cast hc) λt=>?_).symm;rw[eu];simp only[Gf];grind
theorem Qi2{g h w:Ft}{s:Nat}(sq:Sqp g h w)(l2:2<=g.length)(lg:g.length<=9)(bg:Bd s g)(hs:(s+4+8)*3^8<=9000000):∃n,GRun n (Te g) (Te (Hm g)) h:=by
 have pg:=sq.pp;have hpow:(s+4+8)*3^(g.length-1)<=9000000:=Qe (Zl _ (Zs (by decide) (by omega))) hs;have ld:=Pn g;have bd:Bd (s+4) (Hm g):=TF bg (by omega);obtain⟨p1,p2⟩:=VG (r:=Hm g) (Gk _ _);obtain⟨_,p3,p4,c,c1,c2⟩:=Bs (a:=Hm g) (Gk _ _);have tp:Gh (Gm (Hm g)):=by
  rcases p2 with h|h
  ·rw[Qg h];rfl
  ·exact h.t
 obtain⟨m,h',g1,g2,g3,g4,g5⟩:=vD 66 g (Gm (Hm g)) (s+4) (by omega) pg p2 tp (by omega) (by omega) (Gd bg (by omega)) (p4 _ bd) hpow;have e:h'=h:=by
  refine cB g2 sq.pg ?_ (g5 _ ⟨cz w,λt=>by rw[Gg,Gg,Gg,sq.e]⟩ ?_)
  ·obtain⟨U,V,hc⟩:=sq.c;obtain⟨y,hy⟩:=g3;obtain⟨z,hz⟩:=g4;refine⟨Sj (H5 U y) (Nj c (H5 V z)),λt=>?_⟩;have a1:=hc t;have a2:=hy t;have a3:=hz t;have a4:=c2 t;rw[Gg]at a2 a3 ⊢;rw[Hl,Gj,Hb,Gj,a1,<-C7,a4,a2,a3];grind
  ·obtain⟨z,hz⟩:=sq.d;exact(A0 c1 c2).1 ⟨z,λt=>by rw[Gg,Gg,C7,hz]⟩
 rw[H7,H7,Lv pg,<-e];exact⟨m,g1⟩
theorem Qba{s:Nat}(hz:Szz 9 (s+73))(hs9:(s+69+4+8)*3^8<=9000000){p0:Ft}(b0:Bd s p0)(l0:p0.length<=10)(t0:Gh p0)(z0:p0.length≠0):∀(k:Nat) (g h0:Ft) (pre:Fu),Pr1 g->g.length<=k->g.length<=9->Gh h0->(∀t,Gf p0 t=Gf h0 t*Gf g t)->pre.length+g.length<=500 ->
 ∃ws gs n,AY k g=some ws/\LW g ws/\LRun n (pre++[g]) (pre++gs)/\gs.length=ws.length+1/\ws.length<g.length/\gs.getD 0 []=g/\gs.getD ws.length []=[1]/\∀i,i<ws.length->Sqp (gs.getD i []) (gs.getD (i+1) []) (ws.getD i [])
 | 0,g,_,_,pg,hk,_,_,_,_=>absurd pg.n (by omega)
 |
  k+1,g,h0,pre,pg,hk,hn,th0,e0,hp=>by
  simp only[AY];by_cases h2:g.length<2
  ·have e:=pg.one h2;rw[if_pos h2,e];exact⟨[],[[1]],0,rfl,.nil,.stop (by unfold Mw;simp),rfl,by decide,rfl,rfl,λi hi=>absurd hi (Nat.not_lt_zero i)⟩
  ·rw[if_neg h2];have bg:Bd (s+69) g:=E9 b0 l0 t0 pg.t th0 z0 λt=>by rw[e0];grind
   obtain⟨h,w,h3,h4,h5,h6,h7⟩:=uV hz pg (by omega) hn bg b0 l0 t0 th0 z0 e0;obtain⟨ws,gs,n,i1,i2,i3,i4,i5,i6,i7,i8⟩:=Qba hz hs9 b0 l0 t0 z0 k h (Gq h0 w) (pre++[g]) h6.pg (by omega) (by omega) (Ho _ _) (λt=>by rw[e0,Gn,h6.e];grind) (by simp;omega);obtain⟨m,hm⟩:=Qi2 h6 (by omega) hn bg hs9;have hlast:Mw (pre++[g])=g:=by unfold Mw;simp
   have b9:s+69+4<=9000000:=by
    have:(s+69+4+8)*3^8=(s+69+4+8)*6561:=rfl;omega
   refine⟨w::ws,g::gs,n+1,?_,.cons h6 i2,.step (by rw[hlast];omega) (by rw[hlast];omega) (by rw[hlast];exact pg.t) (by rw[hlast];exact Gd bg (by omega)) (by rw[hlast];exact Gd (TF bg (by omega)) (by omega)) (by rw[hlast];exact hm) (by simp;omega) ?_,by simp[i4],by simp;omega,rfl,?_,?_⟩
   ·rw[h3];show(XX g (Hm g)).bind _=_;rw[h4];show(JY g h).bind _=_;rw[h5];show(AY k h).bind _=_;rw[i1];rfl
   ·have e:pre++g::gs=pre++[g]++gs:=by simp
    rw[e];exact i3
   ·rw[Zf,Q0];exact i7
   ·intro i hi;cases i with
    |zero=>rw[Zr,Q0,Zr,i6];exact h6
    |
     succ i =>
     rw[Q0,Q0,Q0];exact i8 i (by simpa using hi)
structure Gr(D M k:Nat)(q:Rat):Prop where
 u:∃u:Int,q*((D*2^k:Nat):Rat)=(u:Rat)
 b:Gw q<=(M:Rat)
 d:0<D
theorem nat_pos{n:Nat}(h:0<n):(0:Rat)<(n:Rat):=by
 have:((0:Nat):Rat)<(n:Rat):=Kc.2 h;simpa using this
theorem JD{D M k:Nat}{q:Rat}(h:Gr D M k q):Gr D M (k+1) q:=by
 obtain⟨u,hu⟩:=h.u;refine⟨⟨u*2,?_⟩,h.b,h.d⟩;rw[Zq,<-Xz]
 push_cast at hu ⊢
 rw[<-hu];grind
theorem SB{D M k:Nat}{a b:Rat}(ha:Gr D M k a)(hb:Gr D M k b):Gr D M (k+1) ((a+b) / 2):=by
 obtain⟨u,hu⟩:=ha.u;obtain⟨v,hv⟩:=hb.u;have h2:(a+b) / 2*2=a+b:=Ht (by decide);refine⟨⟨u+v,?_⟩,?_,ha.d⟩
 ·rw[Zq,<-Xz]
  push_cast at hu hv ⊢
  rw[<-hu,<-hv];generalize (a+b) / 2=c at *;generalize (D:Rat)*2^k=z at *;have:c*(z*2)=(c*2)*z:=by grind
  rw[this,h2];grind
 ·have h3:=ha.b;have h4:=hb.b;rw[Mg]at *;constructor <;> grind
theorem Quq{D M k:Nat}{q:Rat}(h:Gr D M k q):q.den<=D*2^k:=by
 obtain⟨u,hu⟩:=h.u;have hp:0<D*2^k:=Yz h.d (Zy (by decide));have e:q=Rat.divInt u ((D*2^k:Nat):Int):=by
  rw[<-Tq,<-hu];have hz:=nat_pos hp;rw[show((((D*2^k:Nat):Int)):Rat)=((D*2^k:Nat):Rat) from rfl];rw[Yo];have:=Up ((D*2^k:Nat):Rat) (by grind);generalize ((D*2^k:Nat):Rat)=z at *;have:q*z*z⁻¹=q*(z*z⁻¹):=by grind
  rw[this,‹z*z⁻¹=1›];grind
 rw[e,Uh,if_neg (by omega),Zw];exact Yt _ _
theorem AX{a b k:Nat}{z:Int}(h:z.natAbs<=a*(b*2^k)):Gy z<=Gy (a:Int)+Gy (b:Int)+k:=by
 have h1:Gy (a:Int)<=Gy (a:Int):=Qn _;have h2:Gy (b:Int)<=Gy (b:Int):=Qn _;rw[Pf]at h1 h2 ⊢;rw[Zw]at h1 h2;rw[Xq,Xq];have h3:a*b<2^Gy (a:Int)*2^Gy (b:Int):=Nat.mul_lt_mul_of_lt_of_le h1 (Yk h2) (Zy (by decide));have h4:=Je h3 (show 0<2^k from Zy (by decide));rw[<-Xz]at h;omega
theorem Oh{D M k B:Nat}{q:Rat}(h:Gr D M k q)(hM:0<M)(hs:Gy (D:Int)+Gy (M:Int)+k<=B):Qs B q:=by
 have hd:=Quq h;have hden:=nat_pos q.den_pos;have h1:(q.num.natAbs:Rat)<=((M*(D*2^k):Nat):Rat):=by
  have e:(q.num:Rat)=q*(q.den:Rat):=by
   have:(q.num:Rat) / (((q.den:Int)):Rat)=q:=by rw[Tq,Z9]
   have h2:(q.num:Rat) / (q.den:Rat)*(q.den:Rat)=q.num:=Zb (by grind);rw[show(q.num:Rat) / (q.den:Rat)=q from this]at h2;exact h2.symm
  rw[<-Mq,e];have h3:=Rq (x:=q) (y:=(q.den:Rat)) (b:=((D*2^k:Nat):Rat)) h.b (by
   have:Gw (q.den:Rat)=(q.den:Rat):=by unfold Gw;rw[if_neg (by grind)]
   rw[this];exact Zg.2 hd)
  push_cast at h3 ⊢;exact h3
 have h1:=Zg.1 h1;refine⟨?_,?_⟩
 ·have:=AX (z:=q.num) h1;omega
 ·have:=AX (z:=(q.den:Int)) (a:=M) (b:=D) (k:=k) (by
   rw[Zw];exact Qe hd (Wq _ hM))
  omega
theorem Aa(a b:Rat):O7 a b=(a+b) / 2:=by
 unfold O7;rw[<-Tq];have ha:(a.num:Rat)=a*(a.den:Rat):=by
  have:(a.num:Rat) / (((a.den:Int)):Rat)=a:=by rw[Tq,Z9]
  have h2:(a.num:Rat) / (a.den:Rat)*(a.den:Rat)=a.num:=Zb (by have:=nat_pos a.den_pos;grind);rw[show(a.num:Rat) / (a.den:Rat)=a from this]at h2;exact h2.symm
 have hb:(b.num:Rat)=b*(b.den:Rat):=by
  have:(b.num:Rat) / (((b.den:Int)):Rat)=b:=by rw[Tq,Z9]
  have h2:(b.num:Rat) / (b.den:Rat)*(b.den:Rat)=b.num:=Zb (by have:=nat_pos b.den_pos;grind);rw[show(b.num:Rat) / (b.den:Rat)=b from this]at h2;exact h2.symm
 have pa:=nat_pos a.den_pos;have pb:=nat_pos b.den_pos;rw[Wb,X8,X8,X8,X8,ha,hb];rw[show(((a.den:Int)):Rat)=(a.den:Rat) from rfl,show(((b.den:Int)):Rat)=(b.den:Rat) from rfl,show(((2:Int)):Rat)=2 from rfl];generalize (a.den:Rat)=x at *;generalize (b.den:Rat)=y at *;have hxy:=O8 (O8 pa pb) (show(0:Rat)<2 by decide);have h1:(a*x*y+b*y*x) / (x*y*2)*(x*y*2)=a*x*y+b*y*x:=Ht hxy;have h2:(a+b) / 2*2=a+b:=Ht (by decide);generalize (a*x*y+b*y*x) / (x*y*2)=c at *;generalize (a+b) / 2=d at *;have h3:(x*y*2)*(c-d)=0:=by grind
 rcases Xl.1 h3 with h4|h4 <;> grind
theorem CG(a b:Rat):Qez a b=a-b:=by
 unfold Qez;rw[Rat.sub_def',<-Rat.divInt_ofNat]
 push_cast;rfl
theorem Pa{a b:Rat}:Tj a b=0↔a=b:=by
 constructor
 ·intro h;have h1:¬a<b:=λh'=>by have:=En.2 h';omega
  have h2:¬b<a:=λh'=>by have:=Df.2 h';omega
  grind
 ·intro h;subst h;exact Dz a
theorem GK{a b:Rat}:Tj a b<=0↔a<=b:=by
 constructor
 ·intro h;have h2:¬b<a:=λh'=>by have:=Df.2 h';omega
  grind
 ·intro h;have h2:¬0<Tj a b:=λh'=>by have:=Df.1 h';grind
  omega
theorem BP{a b:Rat}:0<=Tj a b↔b<=a:=by
 constructor
 ·intro h;have h2:¬a<b:=λh'=>by have:=En.2 h';omega
  grind
 ·intro h;have h2:¬Tj a b<0:=λh'=>by have:=En.1 h';grind
  omega
theorem Eu(a b:Rat):Tj a b=1/\b<a\/Tj a b=0/\a=b\/Tj a b=-1/\a<b:=by
 have hb:=KQ a b;rcases(show Tj a b=1\/Tj a b=0\/Tj a b=-1 by omega)with h|h|h
 ·exact .inl ⟨h,Df.1 (by omega)⟩
 ·exact .inr (.inl ⟨h,Pa.1 h⟩)
 ·exact .inr (.inr ⟨h,En.1 (by omega)⟩)
theorem sJ(p:Ft)(x:Rat):low p x=M8 (cz p) x:=by
 unfold low M8;rw[Se,Se,Gg,C7]
theorem Pp{t:Tm}(h:t.lo<t.hi)(q:Rat):Hk t q=cq (cz t.p) t.lo t.hi q:=by
 have hp:t.point=false:=by
  unfold Tm.point;have:¬0<=Tj t.lo t.hi:=λh'=>by have:=BP.1 h';grind
  simp[this]
 unfold Hk cq;rw[hp,if_neg (by decide)];have e1:(Tj q t.lo<=0)=(q<=t.lo):=propext GK;have e2:(0<Tj q t.hi)=(t.hi<q):=propext Df;rw[Se,sJ,<-Gg];simp only[e1,e2]
theorem M3{t:Tm}:t.point=true↔t.hi<=t.lo:=by
 unfold Tm.point;rw[decide_eq_true_iff];exact BP
theorem An{t:Tm}(h:t.lo=t.hi)(q:Rat):Hk t q=Tj t.lo q:=by
 have hp:t.point=true:=M3.2 (by rw[h];exact Ql);unfold Hk;rw[if_pos hp]
theorem Qub{c:Rat->Int}{x:Rat}(h:∀q,c q=Tj x q):Cut c where
 val q:=by rw[h];have:=KQ x q;omega
 mono q r hqr h1:=by
  rw[h]at h1 ⊢;rcases Eu x q with⟨e,e'⟩|⟨e,e'⟩|⟨e,e'⟩
  ·exact absurd e h1
  ·rcases Eu x r with⟨f,f'⟩|⟨f,f'⟩|⟨f,f'⟩ <;> grind
  ·rcases Eu x r with⟨f,f'⟩|⟨f,f'⟩|⟨f,f'⟩ <;> grind
 up q h1:=by
  rw[h]at h1;have h2:=Df.1 (show 0<Tj x q by omega);have h3:(x+q) / 2*2=x+q:=Ht (by decide);have h4:=Df.2 (show(x+q) / 2<x by grind);have:=KQ x ((x+q) / 2);exact⟨(x+q) / 2,by grind,by rw[h];omega⟩
 dn q h1:=by
  rw[h]at h1;have h2:=En.1 (show Tj x q<0 by omega);have h3:(x+q) / 2*2=x+q:=Ht (by decide);have h4:=En.2 (show x<(x+q) / 2 by grind);have:=KQ x ((x+q) / 2);exact⟨(x+q) / 2,by grind,by rw[h];omega⟩
 lo:=⟨x-1,by
  rw[h];have h4:=Df.2 (show x-1<x by grind);have:=KQ x (x-1);omega⟩
 hi:=⟨x+1,by
  rw[h];have h4:=En.2 (show x<x+1 by grind);have:=KQ x (x+1);omega⟩
def lim(t:Tm):Nat:=if t.point=true then 3300000 else 1000000
theorem kK{t:Tm}(h:t.point=false):lim t=1000000:=by simp[lim,h]
theorem Quw(t:Tm):1000000<=lim t:=by unfold lim;split <;> omega
theorem Qux(t:Tm):lim t<=3300000:=by unfold lim;split <;> omega
structure Va(t:Tm):Prop where
 i:t.lo=t.hi/\Gf t.p t.lo=0\/∃L,Vt (cz t.p) L t.lo t.hi
 tr:Gh t.p
 n:t.p.length<=9
 n2:2<=t.p.length
 b:Bd 3300000 t.p
 bi:t.point=false->Bd 1260 t.p
 sc:t.point=false->∃(l:List (List Int)) (P g:List Int),ON 66 t.p (Gm (Hm t.p))=some l/\Sqp P g t.p/\Vt (cz t.p) ((t.p::l).map cz) t.lo t.hi
 g:∃D M k,Gr D M k t.lo/\Gr D M k t.hi/\0<M/\Gy (D:Int)+Gy (M:Int)+k<=lim t
theorem Va.le{t:Tm}(h:Va t):t.lo<=t.hi:=by
 rcases h.i with⟨e,_⟩|⟨L,V⟩
 ·rw[e];exact Ql
 ·exact Qm V.l
theorem Va.pt{t:Tm}(h:Va t)(hp:t.point=true):t.lo=t.hi/\Gf t.p t.lo=0:=by
 rcases h.i with e|⟨L,V⟩
 ·exact e
 ·have:=M3.1 hp;have:=V.l;grind
theorem Va.iv{t:Tm}(h:Va t)(hp:t.point=false):∃L,Vt (cz t.p) L t.lo t.hi:=by
 rcases h.i with⟨e,_⟩|h
 ·have:=M3.2 (show t.hi<=t.lo by rw[e];exact Ql);rw[hp]at this;cases this
 ·exact h
theorem Va.cut{t:Tm}(h:Va t):Cut (Hk t):=by
 rcases h.i with⟨e,_⟩|⟨L,V⟩
 ·exact Qub (x:=t.lo) λq=>An e q
 ·have:Hk t=cq (cz t.p) t.lo t.hi:=funext λq=>Pp V.l q
  rw[this];exact V.cut
theorem Qwb{c:Rat->Int}(hc:Cut c){p:Fw}{x:Rat}(h:c x=0)(h0:ev p x=0):E7 p c:=by
 rcases JR hc p with h1|⟨s,hs,h1⟩
 ·exact h1
 ·have:=IX hc h h1;rw[Ha.2 h0]at this;exact absurd this.symm hs
theorem Va.van{t:Tm}(h:Va t):E7 (cz t.p) (Hk t):=by
 have hc:=h.cut;rcases h.i with⟨e,h0⟩|⟨L,V⟩
 ·exact Qwb hc (x:=t.lo) (by rw[An e,Dz]) (by rw[Gg];exact h0)
 ·have:Hk t=cq (cz t.p) t.lo t.hi:=funext λq=>Pp V.l q
  rw[this];exact V.van
theorem Va.qs{t:Tm}(h:Va t):Qs 3300000 t.lo/\Qs 3300000 t.hi:=by
 obtain⟨D,M,k,h1,h2,h3,h4⟩:=h.g;have h4:=Qe h4 (Qux t);exact⟨Oh h1 h3 h4,Oh h2 h3 h4⟩
theorem Va.qsn{t:Tm}(h:Va t)(hp:t.point=false):Qs 1000000 t.lo/\Qs 1000000 t.hi:=by
 obtain⟨D,M,k,h1,h2,h3,h4⟩:=h.g;rw[kK hp]at h4;exact⟨Oh h1 h3 h4,Oh h2 h3 h4⟩
theorem Va.tb{t:Tm}(h:Va t):Tb t:=⟨⟨h.tr,by have:=h.n;omega,Gd h.b (by omega)⟩,h.qs.1.mono (t:=16777216) (by omega),h.qs.2.mono (t:=16777216) (by omega)⟩
structure Hv(t:Tm)(D M k:Nat)(u:Tm):Prop where
 p:u.p=t.p
 i:u.lo=u.hi/\Gf u.p u.lo=0\/∃L,Vt (cz u.p) L u.lo u.hi
 c:∀q,Hk u q=Hk t q
 l:Gr D M k u.lo
 h:Gr D M k u.hi
theorem LC{c:Rat->Int}(hc:Cut c){x:Rat}(h:c x=0)(q:Rat):c q=Tj x q:=by
 rcases Eu x q with⟨e,e'⟩|⟨e,e'⟩|⟨e,e'⟩
 ·rw[e];exact hc.mono' e' (by omega)
 ·rw[e,<-e',h]
 ·rw[e];exact hc.mono x q e' (by omega)
theorem vL{t u:Tm}{D M k:Nat}(hu:Hv t D M k u)(hM:0<M)(hs:Gy (D:Int)+Gy (M:Int)+(k+1)<=16777216):∃v,half u=some v/\Hv t D M (k+1) v/\v.hi-v.lo<=(u.hi-u.lo) / 2/\u.lo<=v.lo/\v.hi<=u.hi:=by
 have h2:∀x:Rat,x / 2*2=x:=λx=>Ht (by decide)
 unfold half;rcases hu.i with⟨e,h0⟩|⟨L,V⟩
 ·have hp:u.point=true:=M3.2 (by rw[e];exact Ql);rw[if_pos hp];refine⟨u,rfl,⟨hu.p,hu.i,hu.c,JD hu.l,JD hu.h⟩,?_,Ql,Ql⟩;rw[e];have:=h2 (u.hi-u.hi);grind
 ·have hp:u.point=false:=by
   have:¬u.point=true:=λh=>by have:=M3.1 h;have:=V.l;grind
   simpa using this
  rw[hp,if_neg (by decide)];obtain⟨m,hm⟩:=nmE ((u.lo+u.hi) / 2);have hmg:Gr D M (k+1) m:=by rw[hm];exact SB hu.l hu.h
  have hmm:=h2 (u.lo+u.hi);rw[<-hm]at hmm;have hl:=V.l;have hl1:u.lo<m:=by grind
  have hl2:m<u.hi:=by grind
  have hch:oW (O7 u.lo u.hi)=some m:=by
   rw[Aa,<-hm];have:=Oh hmg hM hs;unfold oW;rw[if_pos ⟨this.1,this.2⟩]
  have hcm:O7 u.lo u.hi=m:=by rw[Aa,<-hm]
  rw[hch];show ∃v,some (if Hk u m=0 then(⟨u.p,m,m⟩:Tm)else if Hk u m=-1 then ⟨u.p,u.lo,m⟩else ⟨u.p,m,u.hi⟩)=some v/\_;have hw:=h2 (u.hi-u.lo);have hcu:=Pp hl;have hcut:=V.cut;have hcut':Cut (Hk u):=by rw[show Hk u=cq (cz u.p) u.lo u.hi from funext hcu];exact hcut
  by_cases c0:Hk u m=0
  ·rw[if_pos c0];have hz:Gf u.p m=0:=by
    have:=FR hcut (q:=m) (by rw[<-hcu];exact c0) V.van;rwa[Gg]at this
   refine⟨_,rfl,⟨hu.p,.inl ⟨rfl,hz⟩,λq=>?_,hmg,hmg⟩,by show m-m<=_;grind,by show u.lo<=m;grind,by show m<=u.hi;grind⟩;rw[An rfl,<-hu.c];exact(LC hcut' c0 q).symm
  ·rw[if_neg c0];by_cases c1:Hk u m=-1
   ·rw[if_pos c1];have hv:vv L m=vv L u.hi:=V.eq_hi hl1 (Qm hl2) (by rw[<-hcu,c1];decide);have V':Vt (cz u.p) L u.lo m:=⟨V.s,hl1,by rw[hv];exact V.v⟩;refine⟨_,rfl,⟨hu.p,.inr ⟨L,V'⟩,λq=>?_,JD hu.l,hmg⟩,by show m-u.lo<=_;grind,Ql,by show m<=u.hi;grind⟩;rw[Pp hl1,<-hu.c,hcu];exact V.uniq V'.cut (Bj Ql) (by rw[QL hl1 hl2];decide) V'.van q
   ·rw[if_neg c1];have c2:Hk u m=1:=by rcases hcut'.val m with h|h|h <;> omega
    have hv:vv L m=vv L u.lo:=V.eq_lo hl1 (Qm hl2) (by rw[<-hcu];exact c2);have V':Vt (cz u.p) L m u.hi:=⟨V.s,hl2,by rw[hv];exact V.v⟩;refine⟨_,rfl,⟨hu.p,.inr ⟨L,V'⟩,λq=>?_,hmg,JD hu.h⟩,by show u.hi-m<=_;grind,by show u.lo<=m;grind,Ql⟩;rw[Pp hl2,<-hu.c,hcu];exact V.uniq V'.cut (Bj (by grind)) V'.hi1 V'.van q
def WM(a b:Tm):Prop:=∃q,Hk a q=-1/\Hk b q=1
def TEq(a b:Tm):Prop:=∀q,Hk a q=Hk b q
theorem tri{a b:Tm}(ha:Cut (Hk a))(hb:Cut (Hk b)):WM a b\/TEq a b\/WM b a:=by
 rcases Classical.em (TEq a b)with h|h
 ·exact .inr (.inl h)
 ·obtain⟨q,hq⟩:=Classical.not_forall.1 h;obtain⟨r,⟨h1,h2⟩|⟨h1,h2⟩⟩:=rM ha hb hq
  ·exact .inl ⟨r,h1,h2⟩
  ·exact .inr (.inr ⟨r,h2,h1⟩)
theorem kH{a b:Tm}(ha:Cut (Hk a))(hb:Cut (Hk b))(h:WM a b)(h':WM b a):False:=by
 obtain⟨q,q1,q2⟩:=h;obtain⟨r,r1,r2⟩:=h';have:=ha.lt r2 q1;have:=hb.lt q2 r1;grind
theorem pP{p:Ft}(k:Nat):(p.getD k 0).natAbs<=2^Tt p:=by
 have h:Gy (p.getD k 0)<=Tt p:=by
  have key:∀(l:Ft) (n:Nat),n≤l.foldl (λn z=>max n (Gy z)) n/\∀z∈l,Gy z≤l.foldl (λn z=>max n (Gy z)) n:=by
   intro l
   induction l with
   |nil=>exact λn=>⟨Qn _,λz hz=>by cases hz⟩
   |
    cons y l ih =>
    intro n;obtain⟨i1,i2⟩:=ih (max n (Gy y));refine⟨by simp only[Z0];omega,λz hz=>?_⟩;simp only[Z0];rcases Qj.1 hz with rfl|hz
    ·omega
    ·exact i2 z hz
  exact G5 (s:=Tt p) (λz hz=>(key p 0).2 z hz) k
 rw[Pf]at h;omega
theorem Qsh{s:Nat}:∀(B:Ft),(∀z∈B,z.natAbs≤2^s)->gB B≤2^(s+(B.length-1))
 | [],_=>Qh _
 |
  c::B,h=>by
  have h1:=h c (Qw ..);have h2:=Qsh B λz hz=>h z (Qi _ hz)
  simp only[gB,Zf,Yj];have h3:2^s<=2^(s+B.length):=Zs (by decide) (by omega);cases B with
  |nil=>simp only[gB,Y7]at *;omega
  |
   cons d B =>
   have h4:2^(s+(d::B).length)=2*2^(s+((d::B).length-1)):=by
    rw[Zo,<-Zq];congr 1
   rw[h4];omega
def S7(A B:Ft):Nat:=(Tt A+Tt B+(A.length+B.length)+8)*(2*(A.length+B.length-2)-1)
theorem Qil{A B:Ft}(tA:Gh A)(tB:Gh B)(nA:A.length<=9)(nB:B.length<=9)(lA:2<=A.length)(lB:2<=B.length){R d:Rat}(hR:1<=R)(dp:0<d)
 (hs:∀e:Rat,0<e->∃q r,Gw q<=R/\Gw r<=R/\d<=Gw (q-r)/\Gw (q-r)*((2^(S7 A B+1):Nat):Rat)<=1/\Gw (Gf A q)<e/\Gw (Gf B r)<e):False:=by
 obtain⟨a,ha⟩:∃a,A.length=a+1:=⟨A.length-1,by omega⟩;obtain⟨b,hb⟩:∃b,B.length=b+1:=⟨B.length-1,by omega⟩;obtain⟨s,hsd⟩:=nmE (Tt A+Tt B+b);obtain⟨N,hN⟩:∃N,b*(2*(a*b))+a*(2*(a*b)-b)=N:=⟨_,rfl⟩;have hNt:N<=2^(a+9):=by
  rw[<-hN];have hab:∀a b:Fin 9,b.1*(2*(a.1*b.1))+a.1*(2*(a.1*b.1)-b.1)<=2^(a.1+9):=by decide
  exact hab ⟨a,by omega⟩ ⟨b,by omega⟩
 have hK:S7 A B=(s+a+10)*(2*(a+b-1)+1):=by
  unfold S7;rw[ha,hb,hsd,show a+1+(b+1)-2=a+b by omega,show 2*(a+b)-1=2*(a+b-1)+1 by omega];congr 1;omega
 have h0A:A.getD a 0≠0:=by have:=Rz tA (by omega);rwa[ha]at this
 have h0B:B.getD b 0≠0:=by have:=Rz tB (by omega);rwa[hb]at this
 have hp:∀m,1<=2^m:=λm=>Zy (by decide)
 refine Qun (N:=N) (D:=2^(S7 A B-1)) ha hb h0A h0B (by omega) (by omega) (h:=2^s) (hp s) (λk=>Qe (pP k) (Zs (by decide) (by omega))) ?_ hN ?_ hR dp λe ep=>?_
 ·refine Qe (Qsh (s:=Tt B) B λz hz=>?_) (Zs (by decide) (by omega));obtain⟨i,hi⟩:=Zp.1 hz;have:=pP (p:=B) i;rwa[Qc,hi]at this
 ·have h1:2*(N*2^s)<=2^(s+a+10):=by
   have:N*2^s<=2^(a+9)*2^s:=Qx _ hNt;rw[<-Xq]at this;rw[show s+a+10=(a+9+s)+1 by omega,Zq];omega
  have h2:N*2^s<=2^(s+a+9):=by
   rw[show s+a+9=(a+9)+s by omega,Xq];exact Qx _ hNt
  have h3:=Uf h1 (2*(a+b-1));have h4:=Xi h2 h3;rw[<-Fe,<-Xq]at h4;rw[<-Xz];refine Qe h4 (Zs (by decide) ?_);rw[hK,Jc,Yy];omega
 ·obtain⟨q,r,h1,h2,h3,h4,h5,h6⟩:=hs e ep;refine⟨q,r,h1,h2,h3,?_,h5,h6⟩;have hK1:1<=S7 A B:=by
   rw[hK];exact Yz (by omega) (by omega)
  have e1:2^(S7 A B+1)=4*2^(S7 A B-1):=by
   obtain⟨m,hm⟩:∃m,S7 A B=m+1:=⟨S7 A B-1,by omega⟩;rw[hm,Yj,Zq,Zq];omega
  rw[e1]at h4
  push_cast at h4 ⊢
  exact h4
theorem Hv.lo'{t:Tm}{D M k:Nat}{u:Tm}(h:Hv t D M k u):Hk t u.lo=1\/Hk t u.lo=0/\u.lo=u.hi:=by
 rw[<-h.c];rcases h.i with⟨e,_⟩|⟨L,V⟩
 ·exact .inr ⟨by rw[An e,Dz],e⟩
 ·exact .inl (by rw[Pp V.l];exact Bj Ql)
theorem Hv.hi'{t:Tm}{D M k:Nat}{u:Tm}(h:Hv t D M k u):Hk t u.hi=0\/Hk t u.hi=-1:=by
 rw[<-h.c];rcases h.i with⟨e,_⟩|⟨L,V⟩
 ·exact .inl (by rw[An e,e,Dz])
 ·rw[Pp V.l];have:=V.hi1;rcases V.cut.val u.hi with h|h|h <;> omega
theorem Hv.le{t:Tm}{D M k:Nat}{u:Tm}(h:Hv t D M k u):u.lo<=u.hi:=by
 rcases h.i with⟨e,_⟩|⟨L,V⟩
 ·rw[e];exact Ql
 ·exact Qm V.l
theorem Qim{a b:Tm}(ha:Va a)(hb:Va b){D M k D' M' k':Nat}{u v:Tm}(hu:Hv a D M k u)(hv:Hv b D' M' k' v)(h:WM a b):1<(v.hi-u.lo)*((2^(S7 a.p b.p+1):Nat):Rat):=by
 rcases Hq ((v.hi-u.lo)*((2^(S7 a.p b.p+1):Nat):Rat)) 1 with hw|hw
 ·exfalso;have ca:=ha.cut;have cb:=hb.cut;obtain⟨m,m1,m2⟩:=h;obtain⟨m',hm',m3⟩:=ca.dn m m1;have hpow:(0:Rat)<=((2^(S7 a.p b.p+1):Nat):Rat):=Xs;obtain⟨R,hR⟩:=nmE (Gw u.lo+Gw m'+Gw m+Gw v.hi+1);have n1:=Tx u.lo;have n2:=Tx m';have n3:=Tx m;have n4:=Tx v.hi;refine Qil (R:=R) (d:=m-m') ha.tr hb.tr ha.n hb.n ha.n2 hb.n2 (by grind) (by grind) λe ep=>?_
  obtain⟨q,q1,q2,q3⟩:∃q,u.lo<=q/\q<=m'/\Gw (Gf a.p q)<e:=by
   rcases hu.lo' with h1|⟨h1,_⟩
   ·obtain⟨x,y,hx,hy,hq⟩:=ha.van e ep;rcases Hq x u.lo with e1|e1
    ·exact⟨u.lo,Ql,Qm (ca.lt h1 m3),by rw[<-Gg];exact hq u.lo e1 (Qm (ca.lt h1 hy))⟩
    ·exact⟨x,Qm e1,Qm (ca.lt hx m3),by rw[<-Gg];exact hq x Ql (Qm (ca.lt hx hy))⟩
   ·refine⟨u.lo,Ql,?_,by rw[<-Gg,FR ca h1 ha.van,Sw];exact ep⟩;rcases Hq u.lo m' with e1|e1
    ·exact e1
    ·have:=ca.mono m' u.lo e1 (by omega);omega
  obtain⟨r,r1,r2,r3⟩:∃r,r<=v.hi/\m<=r/\Gw (Gf b.p r)<e:=by
   rcases hv.hi' with h1|h1
   ·refine⟨v.hi,Ql,?_,by rw[<-Gg,FR cb h1 hb.van,Sw];exact ep⟩;rcases Hq m v.hi with e1|e1
    ·exact e1
    ·have:=cb.mono v.hi m e1 (by omega);omega
   ·obtain⟨x,y,hx,hy,hq⟩:=hb.van e ep;rcases Hq v.hi y with e1|e1
    ·exact⟨v.hi,Ql,Qm (cb.lt m2 h1),by rw[<-Gg];exact hq v.hi (Qm (cb.lt hx h1)) e1⟩
    ·exact⟨y,Qm e1,Qm (cb.lt m2 hy),by rw[<-Gg];exact hq y (Qm (cb.lt hx hy)) Ql⟩
  have e1:Gw (q-r)=r-q:=by unfold Gw;split <;> grind
  have b1:Gw q<=R:=by
   have:=GE (R:=R) (x:=u.lo) (y:=m') (t:=q) (by grind) (by grind) q1 q2;exact this
  have b2:Gw r<=R:=by
   have:=GE (R:=R) (x:=m) (y:=v.hi) (t:=r) (by grind) (by grind) r2 r1;exact this
  refine⟨q,r,b1,b2,by rw[e1];grind,?_,q3,r3⟩;rw[e1];have:=Q6 (show r-q<=v.hi-u.lo by grind) hpow;exact Zi this hw
 ·exact hw
theorem fB{a b:Tm}(ha:Va a)(hb:Va b){D M k D' M' k':Nat}{u v:Tm}(hu:Hv a D M k u)(hv:Hv b D' M' k' v)(hne:¬TEq a b)(h:MF u v=true):WM a b:=by
 have h1:=(of_decide_eq_true h).1;have h1:=GK.1 h1;rcases tri ha.cut hb.cut with h2|h2|⟨m,m1,m2⟩
 ·exact h2
 ·exact absurd h2 hne
 ·exfalso;have e1:m<u.hi:=by
   rcases Hq u.hi m with e|e
   ·rcases Classical.em (u.hi=m)with e'|e'
    ·have:=hu.hi';rw[e']at this;omega
    ·have:=ha.cut.mono u.hi m (by grind) (by have:=hu.hi';omega);omega
   ·exact e
  have e2:v.lo<m:=by
   rcases Hq m v.lo with e|e
   ·rcases Classical.em (m=v.lo)with e'|e'
    ·have:=hv.lo';rw[<-e']at this;omega
    ·have:=hb.cut.mono m v.lo (by grind) (by omega);have:=hv.lo';omega
   ·exact e
  grind
theorem Qbr{a b:Tm}(ha:Va a)(hb:Va b){D M k D' M' k':Nat}{u v:Tm}(hu:Hv a D M k u)(hv:Hv b D' M' k' v)(hlt:WM a b)(h:MF u v≠true):v.lo<=u.hi:=by
 rcases Hq v.lo u.hi with e|e
 ·exact e
 ·refine absurd (decide_eq_true ⟨GK.2 (Qm e),λh'=>?_⟩) h;have:=Pa.1 h'.2;grind
theorem xI(m:Nat):((2^(m+1):Nat):Rat)=2*((2^m:Nat):Rat):=by rw[Zq];push_cast;grind
def Qs2(a b:Tm)(r:Tm×Tm×Int):Prop:=r.2.2=-1/\WM a b\/r.2.2=1/\WM b a
theorem Qd4(A B:Ft):S7 A B=S7 B A:=by unfold S7;rw[Nat.add_comm A.length,Nat.add_comm (Tt A)]
theorem Qwx{a b:Tm}(ha:Va a)(hb:Va b)(hne:¬TEq a b){D M D' M':Nat}(hM:0<M)(hM':0<M'):∀(i j:Nat) (u v:Tm) (k k':Nat) (W:Rat),2*i+1<=j->Hv a D M k u->Hv b D' M' k' v->Gy (D:Int)+Gy (M:Int)+(k+j)<=16777216->Gy (D':Int)+Gy (M':Int)+(k'+j)<=16777216->u.hi-u.lo<=W->v.hi-v.lo<=W->2*W*((2^(S7 a.p b.p+1):Nat):Rat)<=((2^i:Nat):Rat)->∃r,nS j u v=some r/\Qs2 a b r:=by
 intro i;have step:∀(j:Nat) (u v:Tm) (k k':Nat),Hv a D M k u->Hv b D' M' k' v->Gy (D:Int)+Gy (M:Int)+(k+(j+1))<=16777216->Gy (D':Int)+Gy (M':Int)+(k'+(j+1))<=16777216->(∃r,nS (j+1) u v=some r/\Qs2 a b r)\/(MF u v≠true/\MF v u≠true/\∃u' v' k1 k1',nS (j+1) u v=nS j u' v'/\Hv a D M k1 u'/\Hv b D' M' k1' v'/\k1<=k+1/\k1'<=k'+1/\(v.hi-v.lo<=u.hi-u.lo/\u'.hi-u'.lo<=(u.hi-u.lo) / 2/\v'=v\/u.hi-u.lo<=v.hi-v.lo/\v'.hi-v'.lo<=(v.hi-v.lo) / 2/\u'=u)):=by
  intro j u v k k' hu hv hs hs';by_cases h1:MF u v=true
  ·exact .inl ⟨(u,v,-1),by simp only[nS];rw[if_pos h1],.inl ⟨rfl,fB ha hb hu hv hne h1⟩⟩
  by_cases h2:MF v u=true
  ·exact .inl ⟨(u,v,1),by simp only[nS];rw[if_neg h1,if_pos h2],.inr ⟨rfl,fB hb ha hv hu (λh=>hne λq=>(h q).symm) h2⟩⟩
  refine .inr ⟨h1,h2,?_⟩;by_cases h3:0<=Tj (Qez u.hi u.lo) (Qez v.hi v.lo)
  ·obtain⟨x,x1,x2,x3,_⟩:=vL hu hM (by omega);refine⟨x,v,k+1,k',?_,x2,hv,by omega,by omega,.inl ⟨?_,x3,rfl⟩⟩
   ·simp only[nS];rw[if_neg h1,if_neg h2,if_pos h3,x1];rfl
   ·have:=BP.1 h3;rwa[CG,CG]at this
  ·obtain⟨x,x1,x2,x3,_⟩:=vL hv hM' (by omega);refine⟨u,x,k,k'+1,?_,hu,x2,by omega,by omega,.inr ⟨?_,x3,rfl⟩⟩
   ·simp only[nS];rw[if_neg h1,if_neg h2,if_neg h3,x1];rfl
   ·rcases Hq (u.hi-u.lo) (v.hi-v.lo)with e|e
    ·exact e
    ·refine absurd (BP.2 ?_) h3;rw[CG,CG];exact Qm e
 induction i with
 |
  zero =>
  intro j u v k k' W hj hu hv hs hs' hW hW' hK;obtain⟨j,rfl⟩:∃m,j=m+1:=⟨j-1,by omega⟩;rcases step j u v k k' hu hv hs hs' with h|⟨h1,h2,_⟩
  ·exact h
  ·exfalso;have hpow:(0:Rat)<=((2^(S7 a.p b.p+1):Nat):Rat):=Xs;rw[Y9]at hK;rcases tri ha.cut hb.cut with h3|h3|h3
   ·have h4:=Qbr ha hb hu hv h3 h1;have h5:=Qim ha hb hu hv h3;have h6:=Q6 (show v.hi-u.lo<=2*W by clear step;grind) hpow;have h7:((1:Nat):Rat)=1:=rfl;rw[h7]at hK;clear step;grind
   ·exact hne h3
   ·have h4:=Qbr hb ha hv hu h3 h2;have h5:=Qim hb ha hv hu h3;rw[Qd4]at h5;have h6:=Q6 (show u.hi-v.lo<=2*W by clear step;grind) hpow;have h7:((1:Nat):Rat)=1:=rfl;rw[h7]at hK;clear step;grind
 |
  succ i ih =>
  intro j u v k k' W hj hu hv hs hs' hW hW' hK;obtain⟨j,rfl⟩:∃m,j=m+2:=⟨j-2,by omega⟩;have hd:∀x:Rat,x / 2*2=x:=λx=>Ht (by decide)
  rcases step (j+1) u v k k' hu hv hs hs' with h|⟨_,_,u1,v1,k1,k1',e1,hu1,hv1,hk1,hk1',hw1⟩
  ·exact h
  ·rw[e1];rcases step j u1 v1 k1 k1' hu1 hv1 (by omega) (by omega)with h|⟨_,_,u2,v2,k2,k2',e2,hu2,hv2,hk2,hk2',hw2⟩
   ·exact h
   ·rw[e2];have a1:=hd (u.hi-u.lo);have a2:=hd (v.hi-v.lo);have a3:=hd (u1.hi-u1.lo);have a4:=hd (v1.hi-v1.lo);have a5:=hd W;have b1:=hu.le;have b2:=hv.le;have b3:=hu1.le;have b4:=hv1.le;have b5:=hu2.le;have b6:=hv2.le;have hww:u2.hi-u2.lo<=W / 2/\v2.hi-v2.lo<=W / 2:=by
     clear step ih;rcases hw1 with⟨c1,c2,rfl⟩|⟨c1,c2,rfl⟩ <;> rcases hw2 with⟨d1,d2,rfl⟩|⟨d1,d2,rfl⟩ <;> constructor <;> grind
    refine ih j u2 v2 k2 k2' (W / 2) (by omega) hu2 hv2 (by omega) (by omega) hww.1 hww.2 ?_;rw[xI i]at hK;have:2*(W / 2)*((2^(S7 a.p b.p+1):Nat):Rat)*2=2*W*((2^(S7 a.p b.p+1):Nat):Rat):=by clear step ih hw1 hw2;grind
    clear step ih hw1 hw2;grind
def CmpOk(a b:Tm)(c:Int):Prop:=c=-1/\WM a b\/c=0/\TEq a b\/c=1/\WM b a
theorem Va.hv0{t:Tm}(h:Va t):∃D M k,Hv t D M k t/\0<M/\Gy (D:Int)+Gy (M:Int)+k<=lim t:=by
 obtain⟨D,M,k,h1,h2,h3,h4⟩:=h.g;exact⟨D,M,k,⟨rfl,h.i,λ_=>rfl,h1,h2⟩,h3,h4⟩
theorem lN{a:Tm}(ha:Va a)(hp:a.point=true)(q:Rat):Hk a q=Tj a.lo q:=An (ha.pt hp).1 q
theorem Qhq{a b:Tm}(hb:Va b){x:Rat}(hx:∀q,Hk a q=Tj x q):CmpOk a b (-Hk b x):=by
 have cb:=hb.cut;rcases cb.val x with h|h|h
 ·obtain⟨q,q1,q2⟩:=cb.up x h;refine .inl ⟨by omega,q,?_,q2⟩;rw[hx];rcases Eu x q with⟨e,e'⟩|⟨e,e'⟩|⟨e,e'⟩ <;> grind
 ·exact .inr (.inl ⟨by omega,λq=>by rw[hx,LC cb h]⟩)
 ·obtain⟨q,q1,q2⟩:=cb.dn x h;refine .inr (.inr ⟨by omega,q,q2,?_⟩);rw[hx];rcases Eu x q with⟨e,e'⟩|⟨e,e'⟩|⟨e,e'⟩ <;> grind
theorem CmpOk.symm{a b:Tm}{c:Int}(h:CmpOk a b c):CmpOk b a (-c):=by
 rcases h with⟨h1,h2⟩|⟨h1,h2⟩|⟨h1,h2⟩
 ·exact .inr (.inr ⟨by omega,h2⟩)
 ·exact .inr (.inl ⟨by omega,λq=>(h2 q).symm⟩)
 ·exact .inl ⟨by omega,h2⟩
theorem Qv5:Szz 9 1260:=⟨by decide,by decide⟩
theorem GL(g:Ft)(lo hi:Rat):ND g lo hi=true↔dK (cz g) lo hi:=by
 unfold ND dK;rw[decide_eq_true_iff,Se,sJ,Gg]
theorem tR{g:Ft}(tg:Gh g)(hn:g.length≠0){lo hi:Rat}(h:dK (cz g) lo hi):1<g.length:=by
 rcases Q7 1 g.length with e|e
 ·exact e
 ·exfalso;obtain⟨c,rfl⟩:∃c,g=[c]:=Jw.1 (by omega);have hc:c≠0:=by have:=Rz tg (by simp);simpa using this
  have hv:∀t,ev (cz [c]) t=(c:Rat):=λt=>by rw[Gg];simp only[Gf];grind
  have hs:Gt (c:Rat)≠0:=λh=>O5 hc (Ha.1 h)
  unfold dK at h;rw[hv,Iv (by rw[hv];exact hs),hv]at h;rcases h with h|h
  ·exact hs h
  ·exact h rfl
theorem UP{q:Rat}:Gw q<=((2^Gy q.num:Nat):Rat):=by
 have h1:Gy q.num<=Gy q.num:=Qn _;rw[Pf]at h1;have e:(q.num:Rat)=q*(q.den:Rat):=by
  have:(q.num:Rat) / (((q.den:Int)):Rat)=q:=by rw[Tq,Z9]
  have h2:(q.num:Rat) / (q.den:Rat)*(q.den:Rat)=q.num:=Zb (by have:=nat_pos q.den_pos;grind);rw[show(q.num:Rat) / (q.den:Rat)=q from this]at h2;exact h2.symm
 have hd:(1:Rat)<=(q.den:Rat):=by
  have:((1:Nat):Rat)<=(q.den:Rat):=Zg.2 q.den_pos;exact this
 have h2:Gw q<=Gw (q.num:Rat):=by
  rw[e,Av];have:Gw (q.den:Rat)=(q.den:Rat):=by unfold Gw;rw[if_neg (by grind)]
  rw[this];have:=Nh (a:=Gw q) (c:=1) (Tx q) Ql (by decide) hd;grind
 rw[Mq]at h2;exact Zi h2 (Zg.2 (Yk h1))
theorem MY{a:Tm}{w:Nat}(h:Gy a.lo.num+Gy a.hi.num<=w):a.hi-a.lo<=((2^(w+1):Nat):Rat):=by
 have h1:=UP (q:=a.lo);have h2:=UP (q:=a.hi);have h3:((2^Gy a.lo.num:Nat):Rat)<=((2^w:Nat):Rat):=Zg.2 (Zs (by decide) (by omega));have h4:((2^Gy a.hi.num:Nat):Rat)<=((2^w:Nat):Rat):=Zg.2 (Zs (by decide) (by omega));rw[xI];rw[Mg]at h1 h2;grind
theorem El{p:Ft}{s:Nat}(h:Bd s p):Tt p<=s:=by
 have:=I2 h p.length;rwa[Zd]at this
theorem Qma{a b:Tm}(ha:Va a)(hb:Va b)(pa:a.point=false)(pb:b.point=false):QY a b<=9000000:=by
 have q1:=ha.qsn pa;have q2:=hb.qsn pb;have l1:=ha.n;have l2:=hb.n;have s1:=El (ha.bi pa);have s2:=El (hb.bi pb);have b1:=q1.1.1;have b2:=q1.2.1;have b3:=q2.1.1;have b4:=q2.2.1;have:4*(a.p.length+b.p.length)*(Tt a.p+Tt b.p+(a.p.length+b.p.length)+8)<=4*18*2600:=Xi (by omega) (by omega);unfold QY;omega
theorem Qfw{a b:Tm}(ha:Va a)(hb:Va b)(pa:a.point=false)(pb:b.point=false)(hne:¬TEq a b):∃r,nS (QY a b) a b=some r/\Qs2 a b r:=by
 obtain⟨D,M,k,h1,h2,h3⟩:=ha.hv0;obtain⟨D',M',k',h1',h2',h3'⟩:=hb.hv0;rw[kK pa]at h3;rw[kK pb]at h3';have hst:=Qma ha hb pa pb;obtain⟨w,hw⟩:=nmE (Gy a.lo.num+Gy a.hi.num+Gy b.lo.num+Gy b.hi.num);obtain⟨K,hK⟩:=nmE (Tt a.p+Tt b.p+(a.p.length+b.p.length)+8);obtain⟨n,hn⟩:=nmE (a.p.length+b.p.length);have l1:=ha.n2;have l2:=hb.n2;have hsteps:QY a b=64+2*w+4*n*K:=by unfold QY;rw[hw,hK,hn]
 have hg:S7 a.p b.p=K*(2*(n-2)-1):=by unfold S7;rw[hK,hn]
 have hgle:S7 a.p b.p+5*K<=2*n*K:=by
  rw[hg,Zo K,<-Yc];exact Qx _ (by omega)
 have hKp:8<=K:=by omega
 refine Qwx ha hb hne h2 h2' (31+w+2*n*K) (QY a b) a b k k' ((2^(w+1):Nat):Rat) ?_ h1 h1' (by omega) (by omega) (MY (by omega)) (MY (by omega)) ?_
 ·rw[hsteps,Jc,Xz 4,Xz 2 n];omega
 ·have e:2*(2^(w+1))*(2^(S7 a.p b.p+1))<=2^(31+w+2*n*K):=by
   rw[Zo 2,<-Zq,<-Xq];exact Zs (by decide) (by omega)
  have:=Zg.2 e
  push_cast at this ⊢
  exact this
theorem oP{a b:Tm}(ha:Va a)(hb:Va b):∃c,rK a b=some c/\CmpOk a b c:=by
 unfold rK;by_cases pa:a.point=true
 ·rw[if_pos pa];exact⟨_,rfl,Qhq hb (lN ha pa)⟩
 rw[if_neg pa];by_cases pb:b.point=true
 ·rw[if_pos pb];have:=(Qhq ha (lN hb pb)).symm;rw[Int.neg_neg]at this;exact⟨_,rfl,this⟩
 rw[if_neg pb];have pa:a.point=false:=by simpa using pa
 have pb:b.point=false:=by simpa using pb
 obtain⟨L,V⟩:=ha.iv pa;obtain⟨L',V'⟩:=hb.iv pb;have eqa:∀q,Hk a q=cq (cz a.p) a.lo a.hi q:=Pp V.l;have eqb:∀q,Hk b q=cq (cz b.p) b.lo b.hi q:=Pp V'.l;obtain⟨lo,hlo⟩:=nmE (if 0<Tj b.lo a.lo then b.lo else a.lo);obtain⟨hi,hhi⟩:=nmE (if Tj b.hi a.hi<0 then b.hi else a.hi);show ∃c,(if Tj (if 0<Tj b.lo a.lo then b.lo else a.lo) (if Tj b.hi a.hi<0 then b.hi else a.hi)<0 then _ else _)=some c/\_;rw[<-hlo,<-hhi];have e1:(0<Tj b.lo a.lo)=(a.lo<b.lo):=propext Df;have e2:(Tj b.hi a.hi<0)=(b.hi<a.hi):=propext En;have e3:(Tj lo hi<0)=(lo<hi):=propext En;simp only[e1]at hlo;simp only[e2]at hhi;simp only[e3];obtain⟨g,g1,g2,g3,g4⟩:=dJ Qv5 ha.tr hb.tr ha.n hb.n (ha.bi pa) (hb.bi pb) (by have:=ha.n2;omega);obtain⟨U,W,hc⟩:=g2.c;obtain⟨u,hu⟩:=g2.da;obtain⟨u',hu'⟩:=g2.db;have key:=V.same V' (g:=cz g) (u:=u) (u':=u') (U:=U) (W:=W) (k:=1) (by decide) hu hu' (λt=>by rw[Gg,Gg,Gg,hc];grind) (a:=lo) (b:=hi) (by rw[hlo];split <;> grind) (by rw[hlo];split <;> grind) (by rw[hlo];split <;> simp) (by rw[hhi];split <;> grind) (by rw[hhi];split <;> grind) (by rw[hhi];split <;> simp);have hTE:(∀q,cq (cz a.p) a.lo a.hi q=cq (cz b.p) b.lo b.hi q)↔TEq a b:=by
  unfold TEq;constructor
  ·intro h q;rw[eqa,eqb];exact h q
  ·intro h q;rw[<-eqa,<-eqb];exact h q
 rw[hTE]at key;have fin:¬TEq a b->∃c,((nS (QY a b) a b).bind λr=>some r.2.2)=some c/\CmpOk a b c:=λhne=>by
  obtain⟨r,r1,r2⟩:=Qfw ha hb pa pb hne;refine⟨r.2.2,by rw[r1];rfl,?_⟩;rcases r2 with h|h
  ·exact .inl h
  ·exact .inr (.inr h)
 by_cases hl:lo<hi
 ·rw[if_pos hl,g1];show ∃c,(if 1<g.length/\ND g lo hi=true then some 0 else(nS (QY a b) a b).bind λr=>some r.2.2)=some c/\_;by_cases hh:ND g lo hi=true
  ·have hq:=(GL g lo hi).1 hh;rw[if_pos ⟨tR g2.t g2.n hq,hh⟩];exact⟨0,rfl,.inr (.inl ⟨rfl,key.1 ⟨hl,hq⟩⟩)⟩
  ·rw[if_neg λh=>hh h.2];exact fin λh=>hh ((GL g lo hi).2 (key.2 h).2)
 ·rw[if_neg hl];exact fin λh=>hl (key.2 h).1
def SgT(p:Ft)(a:Tm)(s:Int):Prop:=s=0/\E7 (cz p) (Hk a)\/s≠0/\NZ (cz p) (Hk a) s
theorem Qls{p:Ft}{c:Rat->Int}(hc:Cut c){x:Rat}(h:c x=0):Hp p x=0/\E7 (cz p) c\/Hp p x≠0/\NZ (cz p) c (Hp p x):=by
 rw[Se,<-Gg];rcases JR hc (cz p)with h1|⟨s,hs,h1⟩
 ·exact .inl ⟨Ha.2 (FR hc h h1),h1⟩
 ·have:=IX hc h h1;rw[this];exact .inr ⟨hs,h1⟩
theorem Mp{l:Fu}{lo hi:Rat}(h:lo<=hi):Rf l lo hi=(vv (l.map cz) lo:Int)-(vv (l.map cz) hi:Int):=by
 unfold Rf;rw[if_neg λh'=>by have:=En.1 h';grind,JF,JF]
theorem Qlt{p q:Ft}{L:Fx}(hp:Gh p)(np:p.length<=9)(lp:2<=p.length)(hS:WP (cz q) L)(hpq:Lf (cz q) (cz p)){a:Tm}(ha:Va a){s:Int}(hnz:NZ (cz p) (Hk a) s){D M k:Nat}{x:Tm}(hx:Hv a D M k x)(hl:x.lo<x.hi)(hv:vv L x.lo≠vv L x.hi):1<(x.hi-x.lo)*((2^(S7 a.p p+1):Nat):Rat):=by
 rcases Hq ((x.hi-x.lo)*((2^(S7 a.p p+1):Nat):Rat)) 1 with hw|hw
 ·exfalso;have ca:=ha.cut;obtain⟨d,dp,x1,y1,c1,c2,hn⟩:=hnz;obtain⟨x2,x12,c3⟩:=ca.up x1 c1;obtain⟨y2,y12,c4⟩:=ca.dn y1 c2;have hpow:(0:Rat)<=((2^(S7 a.p p+1):Nat):Rat):=Xs;obtain⟨z,zp,z1,z2⟩:=min2 (a:=x2-x1) (b:=y1-y2) (by clear hn;grind) (by clear hn;grind);obtain⟨R0,hR0,r1,r2⟩:=yW x.lo x.hi;obtain⟨u,hu⟩:=hpq;refine Qil (R:=R0+1) (d:=z) ha.tr hp ha.n np ha.n2 lp (by clear hn;grind) zp λe ep=>?_
  obtain⟨q0,q1,q2,q3,q4,q5⟩:∃q0,x.lo<=q0/\q0<=x.hi/\x2<=q0/\q0<=y2/\Gw (Gf a.p q0)<e:=by
   rcases hx.lo' with h1|⟨h1,h2⟩
   ·obtain⟨x',y',hx',hy',hq⟩:=ha.van e ep;obtain⟨m,m1,m2,m3,m4⟩:∃m,Hk a m=1/\x.lo<=m/\x2<=m/\x'<=m:=by
     rcases Hq x.lo x2 with e1|e1
     ·rcases Hq x2 x' with e2|e2
      ·exact⟨x',hx',by clear hn hq;grind,e2,Ql⟩
      ·exact⟨x2,c3,e1,Ql,Qm e2⟩
     ·rcases Hq x.lo x' with e2|e2
      ·exact⟨x',hx',e2,by clear hn hq;grind,Ql⟩
      ·exact⟨x.lo,h1,Ql,Qm e1,Qm e2⟩
    refine⟨m,m2,?_,m3,Qm (ca.lt m1 c4),by rw[<-Gg];exact hq m m4 (Qm (ca.lt m1 hy'))⟩;rcases hx.hi' with h3|h3
    ·rcases Hq m x.hi with e1|e1
     ·exact e1
     ·have:=ca.mono x.hi m e1 (by omega);omega
    ·exact Qm (ca.lt m1 h3)
   ·exact absurd h2 (by clear hn;grind)
  obtain⟨b,hb⟩:=nmE (vP R0 u);have hb0:0<=b:=by rw[hb];exact XE hR0 u
  obtain⟨f,fp,_,hf⟩:=Ry (b:=b) (d:=if e<=d then e else d) hb0 (by split <;> assumption);obtain⟨r,r3,r4,r5⟩:=uT hS hl hv fp;have hrR:Gw r<=R0:=GE r1 r2 r3 r4;have hpr:Gw (Gf p r)<(if e<=d then e else d):=by
   rw[<-Gg,hu];have:=Rq (Qm r5) (MS hrR u);rw[<-hb]at this;exact J0.1 λh=>absurd (Zi h this) (J0.2 hf)
  have hpe:Gw (Gf p r)<e:=by split at hpr <;> (clear hn;grind)
  have hpd:Gw (Gf p r)<d:=by split at hpr <;> (clear hn;grind)
  have hrout:r<x1\/y1<r:=by
   rcases Hq x1 r with e1|e1
   ·rcases Hq r y1 with e2|e2
    ·have:=(hn r e1 e2).2;rw[Gg]at this;exact absurd this (J0.2 hpd)
    ·exact .inr e2
   ·exact .inl e1
  have hqr:z<=Gw (q0-r):=by
   clear hn;rcases hrout with h|h
   ·have:Gw (q0-r)=q0-r:=by unfold Gw;split <;> grind
    rw[this];grind
   ·have:Gw (q0-r)=r-q0:=by unfold Gw;split <;> grind
    rw[this];grind
  have hq0R:Gw q0<=R0:=GE r1 r2 q1 q2;refine⟨q0,r,by clear hn;grind,by clear hn;grind,hqr,?_,q5,hpe⟩;have h1:Gw (q0-r)<=x.hi-x.lo:=by rw[Mg];clear hn;constructor <;> grind
  exact Zi (Q6 h1 hpow) hw
 ·exact hw
theorem Qlr{p q:Ft}{l:Fu}(hp:Gh p)(np:p.length<=9)(lp:2<=p.length)(hS:WP (cz q) (l.map cz))(hpq:Lf (cz q) (cz p)){a:Tm}(ha:Va a){s:Int}(hnz:NZ (cz p) (Hk a) s){D M:Nat}(hM:0<M):∀(j i:Nat) (x:Tm) (k:Nat) (W:Rat),i+1<=j->Hv a D M k x->Gy (D:Int)+Gy (M:Int)+(k+j)<=16777216->x.hi-x.lo<=W->W*((2^(S7 a.p p+1):Nat):Rat)<=((2^i:Nat):Rat)->∃u k',sgF l j x=some u/\Hv a D M k' u/\(u.point=true\/Rf l u.lo u.hi=0)
 | 0,i,x,k,W,h,_,_,_,_=>by omega
 |
  j+1,i,x,k,W,hj,hx,hs,hW,hK=>by
  simp only[sgF];by_cases h:x.point=true\/Rf l x.lo x.hi=0
  ·rw[if_pos h];exact⟨x,k,rfl,hx,h⟩
  ·rw[if_neg h];obtain⟨v,v1,v2,v3,_⟩:=vL hx hM (by omega);rw[v1];show ∃u k',sgF l j v=some u/\_;have hpt:¬x.hi<=x.lo:=λh'=>h (.inl (M3.2 h'))
   have hl:x.lo<x.hi:=by grind
   have hvv:vv (l.map cz) x.lo≠vv (l.map cz) x.hi:=λh'=>h (.inr (by rw[Mp (Qm hl)];omega))
   have hg:=Qlt hp np lp hS hpq ha hnz hx hl hvv;have hpow:(0:Rat)<=((2^(S7 a.p p+1):Nat):Rat):=Xs;have hd:∀x:Rat,x / 2*2=x:=λx=>Ht (by decide)
   cases i with
   |
    zero =>
    exfalso;rw[Y9]at hK;have:=Q6 hW hpow;have h7:((1:Nat):Rat)=1:=rfl;rw[h7]at hK;grind
   |
    succ i =>
    refine Qlr hp np lp hS hpq ha hnz hM j i v (k+1) (W / 2) (by omega) v2 (by omega) ?_ ?_
    ·have:=hd (x.hi-x.lo);have:=hd W;grind
    ·rw[xI i]at hK;have:=hd W;have:W / 2*((2^(S7 a.p p+1):Nat):Rat)*2=W*((2^(S7 a.p p+1):Nat):Rat):=by grind
     grind
theorem sA{x y:Rat}:∀{ws:Fx},(∀w∈ws,Gt (ev w x)=Gt (ev w y))->Gt (ev (ZT ws) x)=Gt (ev (ZT ws) y)
 | [],_=>by simp only[ZT];rw[S6,S6]
 |
  w::l,h=>by
  simp only[ZT];rw[Gj,Gj,Mn,Mn,h w (Qw ..),sA λv hv=>h v (Qi _ hv)]
theorem xH{p q o:Ft}(hpt:Parts p q o)(tp:Gh p)(hp:p.length≠0){L:Fx}(hS:WP (cz q) L){x y:Rat}(hxy:x<y)(hv:vv L x=vv L y):∃s,s≠0/\∀z,x<z->z<=y->Gt (Gf p z)=s:=by
 obtain⟨ws,w1,w2⟩:=hpt.ws;obtain⟨_,_,_,_,_,p6,p7⟩:=M4 tp hp;have key:∀z,x<z->z≤y->∀w∈ws.map cz,Sm w x z:=λz h1 h2 w hw=>by
  obtain⟨v,hv',rfl⟩:=Zc.1 hw;obtain⟨u,hu⟩:=(w1 v hv').2;have a1:=E6 hS h1;have a2:vv L y<=vv L z:=by
   rcases Classical.em (z=y)with e|e
   ·rw[e];exact Qn _
   ·exact E6 hS (by grind)
  exact UY hS hu h1 (by omega)
 have hval:∀z,Gf p z=(Rl p:Rat)*ev (ZT (ws.map cz)) z:=λz=>by rw[p7,w2]
 refine⟨Gt (Gf p y),λh0=>?_,λz h1 h2=>?_⟩
 ·rw[hval,Mn]at h0;rcases Yg.1 h0 with h|h
  ·exact O5 p6 (Ha.1 h)
  ·have:∀l:Fx,(∀w∈l,Gt (ev w y)≠0)->Gt (ev (ZT l) y)≠0:=by
    intro l
    induction l with
    |nil=>intro _;simp only[ZT];rw[S6];decide
    |
     cons w l ih =>
     intro h;simp only[ZT];rw[Gj,Mn];exact X6 (h w (Qw ..)) (ih λv hv=>h v (Qi _ hv))
   refine this _ (λw hw=>?_) h;have hs:=key y hxy Ql w hw;rw[hs.s];exact hs.n
 ·rw[hval,hval,Mn,Mn,sA (y:=y) λw hw=>(key z h1 h2 w hw).s.trans (key y hxy Ql w hw).s.symm]
theorem Qiq{g p P:Ft}{c:Rat->Int}(hc:Cut c)(hg:Gc g p P):E7 (cz g) c↔E7 (cz p) c/\E7 (cz P) c:=by
 constructor
 ·intro h;obtain⟨u,hu⟩:=hg.da;obtain⟨v,hv⟩:=hg.db;exact⟨Ni hc hu h,Ni hc hv h⟩
 ·rintro⟨h1,h2⟩
  obtain⟨U,V,hcc⟩:=hg.c;have a1:E7 (H5 U (cz p)) c:=Ni hc (p:=cz p) (q:=U) (λt=>by rw[Gj];grind) h1;have a2:E7 (H5 V (cz P)) c:=Ni hc (p:=cz P) (q:=V) (λt=>by rw[Gj];grind) h2;exact CB (λt=>by rw[Gg,hcc,Gj,Gj,Gg,Gg]) a1 a2
theorem Ql1{p:Ft}(hp:Okp 9 1180 p){a:Tm}(ha:Va a):∃s,UX p a=some s/\SgT p a s:=by
 unfold UX;rw[if_neg hp.nz];have ca:=ha.cut;by_cases pa:a.point=true
 ·rw[if_pos pa];exact⟨_,rfl,Qls ca (x:=a.lo) (by rw[lN ha pa,Dz])⟩
 rw[if_neg pa];have pa:a.point=false:=by simpa using pa
 obtain⟨L,V⟩:=ha.iv pa;have eqa:∀q,Hk a q=cq (cz a.p) a.lo a.hi q:=Pp V.l;obtain⟨g,g1,g2,g3,g4⟩:=dJ Qv5 hp.t ha.tr hp.l ha.n (Gd hp.b (by omega)) (ha.bi pa) hp.nz;obtain⟨u',hu'⟩:=g2.db;have hhas:=V.has hu' (a:=a.lo) (b:=a.hi) Ql V.l Ql;have hvan:=Qiq ca g2;rw[show cq (cz a.p) a.lo a.hi=Hk a from(funext eqa).symm]at hhas;rw[g1];show ∃s,(if 1<g.length/\ND g a.lo a.hi=true then some 0 else _)=some s/\_;by_cases hh:ND g a.lo a.hi=true
 ·have hq:=(GL g _ _).1 hh;rw[if_pos ⟨tR g2.t g2.n hq,hh⟩];exact⟨0,rfl,.inl ⟨rfl,(hvan.1 (hhas.1 hq).1).1⟩⟩
 ·rw[if_neg λh=>hh h.2];have hnv:¬E7 (cz p) (Hk a):=λh=>hh ((GL g _ _).2 (hhas.2 ⟨hvan.2 ⟨h,ha.van⟩,by rw[eqa];exact Bj Ql,by rw[eqa];exact V.hi1⟩))
  rcases JR ca (cz p)with h|⟨s,BD,hnz⟩
  ·exact absurd h hnv
  obtain⟨q,o,q1,q2,hpt⟩:=kO hp;obtain⟨q',l,r1,r2,hS,hl0⟩:=chain_ok hp;rw[q1]at r1;injection r1 with r1;subst r1;rw[r2];show ∃s,((sgF (q::l) (64+2*(Gy a.lo.num+Gy a.hi.num)+4*(a.p.length+p.length)*(Tt a.p+Tt p+(a.p.length+p.length)+8)) a).bind λx=>some (Hp p x.hi))=some s/\_;obtain⟨w,hw⟩:=nmE (Gy a.lo.num+Gy a.hi.num);obtain⟨K,hK⟩:=nmE (Tt a.p+Tt p+(a.p.length+p.length)+8);obtain⟨n,hn⟩:=nmE (a.p.length+p.length);rw[<-hw,<-hK,<-hn];obtain⟨gg,sq⟩:=hpt.sq;obtain⟨_,_,_,_,_,pf0,pfe⟩:=M4 hp.t hp.nz;have hpq:Lf (cz q) (cz p):=⟨Nj (Rl p) (cz gg),λt=>by rw[Gg,Gg,Hb,Gg,pfe,sq.e];grind⟩;obtain⟨D,M,k,h1,h2,h3⟩:=ha.hv0;rw[kK pa]at h3;have b1:=(ha.qsn pa).1.1;have b2:=(ha.qsn pa).2.1;have l1:=ha.n;have l2:=hp.l;have l3:=ha.n2;have s1:=El (ha.bi pa);have s2:=El hp.b;have hst:4*n*K<=4*18*2466:=Xi (by omega) (by omega);have hend:∃u k',sgF (q::l) (64+2*w+4*n*K) a=some u/\Hv a D M k' u/\(u.point=true\/Rf (q::l) u.lo u.hi=0):=by
   by_cases Ei:p.length<2
   ·have hq1:(Gm p)=[1]:=hp.pr.1.one (by have:=hp.pr.2.1;omega);have hql:q.length<2:=by
     have e:=sq.e;rw[hq1]at e;obtain⟨p1,p2⟩:=Rp (c:=[1]) rfl (by simp) e;have:=S5 sq.pg.t sq.pq.t (c:=[1]) rfl e p1 p2;simp at this;omega
    have hbt:Rf (q::l) a.lo a.hi=0:=by
     rw[Mp (Qm V.l),hl0 hql,sq.pq.one hql];have hv1:∀x:Rat,ev (cz [1]) x=1:=λx=>by rw[Gg,Ru]
     simp only[Zx,Jj,vv,tc,hv1];omega
    refine⟨a,k,?_,h1,.inr hbt⟩;obtain⟨m,hm⟩:∃m,64+2*w+4*n*K=m+1:=⟨63+2*w+4*n*K,by omega⟩;rw[hm];simp only[sgF];rw[if_pos (.inr hbt)]
   ·have hg:S7 a.p p=K*(2*(n-2)-1):=by unfold S7;rw[hK,hn]
    have hgle:S7 a.p p+5*K<=2*n*K:=by
     rw[hg,Zo K,<-Yc];exact Qx _ (by omega)
    have hKp:8<=K:=by omega
    have hnK:2*n*K<=4*n*K:=Qx _ (by omega);obtain⟨u,k',u1,u2,u3⟩:=Qlr hp.t hp.l (by omega) hS hpq ha hnz h2 (64+2*w+4*n*K) (2+w+2*n*K) a k ((2^(w+1):Nat):Rat) (by omega) h1 (by omega) (MY (by omega)) (by
     have e:(2^(w+1))*(2^(S7 a.p p+1))<=2^(2+w+2*n*K):=by
      rw[<-Xq];exact Zs (by decide) (by omega)
     have:=Zg.2 e
     push_cast at this ⊢
     exact this)
    exact⟨u,k',u1,u2,u3⟩
  obtain⟨u,k',u1,u2,u3⟩:=hend;rw[u1];refine⟨_,rfl,.inr ?_⟩;have hfin:Hp p u.hi=s:=by
   rcases u2.hi' with hz|hz
   ·have:=IX ca hz hnz;rw[Se,<-Gg];exact this
   ·rcases u2.i with⟨e,_⟩|⟨L',V'⟩
    ·have:=u2.c u.hi;rw[An e,e,Dz]at this;omega
    ·have hup:u.point=false:=by
      have:¬u.point=true:=λh=>by have:=M3.1 h;have:=V'.l;grind
      simpa using this
     rcases u3 with h|h
     ·rw[hup]at h;cases h
     ·rw[Mp (Qm V'.l)]at h;obtain⟨s',hs',hps⟩:=xH hpt hp.t hp.nz hS V'.l (by omega);obtain⟨d,dp,x,y,hx,hy,hq⟩:=hnz;have hlo1:Hk a u.lo=1:=by
       rcases u2.lo' with h|⟨_,h⟩
       ·exact h
       ·have:=V'.l;clear hps hq;grind
      obtain⟨m,m1,m2,m3⟩:=TL ca hlo1 hx;have e1:=(hq m (Qm m3) (Qm (ca.lt m1 hy))).1;have e2:=hps m m2 (Qm (ca.lt m1 hz));have e3:=hps u.hi V'.l Ql;rw[Se,e3,<-e2,<-Gg,e1]
  rw[hfin];exact⟨BD,hnz⟩
end Orq
