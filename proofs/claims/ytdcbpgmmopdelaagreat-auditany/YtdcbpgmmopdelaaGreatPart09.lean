/- R10 R11 R12 R13 QA R14 R15 R16 R17 R19 QB FN PW1 R21 QC R22 HullS H2 H3 R23 R24 R26 QD R25 QE R29 R30 MeshN CirL QF ZG R18 ZJ QG MD1 HullT NewsN PW2 TouL TouQ EnL PartL BndL HAroL -/
import Derived.Test.YtdcbpgmmopdelaaGreatPart08
import Derived.Test.YtdcbpgmmopdelaaGreatPart00
import Derived.Test.YtdcbpgmmopdelaaGreatPart05
import Derived.Test.YtdcbpgmmopdelaaGreatPart07
import Derived.Test.YtdcbpgmmopdelaaGreatPart04
set_option linter.all false
namespace Orr
open Go Go.Proofs Tryz
set_option maxRecDepth 10000
abbrev cl4(k:Crv):Fy:=[pl k.x,pl k.y,sg k.d,mg k.d]
abbrev Nn(c:Crv):Fy:=[rp (QK c.x c.d),rp (QK c.y c.d)]++cl4 c
def FX(p:Pt):Fy:=Nn p.c++[.int .i64 p.id]
def He(l:List Pt):Fz:=l.map FX
structure Rs(k:Crv):Prop where
 n:UV k
 c:Cs 100000 16 k
theorem Rs.d0{k:Crv}(h:Rs k):0<k.d:=h.n.2.2.1
theorem UO{x:Ft}{d:Int}{s:Nat}(hx:Bd s x)(hd:Gy d<=s)(h1:1<=s):Rb s (QK x d):=λq hq=>by
 obtain⟨z,hz,rfl⟩:=Zc.1 hq;rw[XD];exact Qs.divInt (hx z hz) hd h1
theorem OQ{x:Ft}{d:Int}(tx:Gh x)(hd:d≠0):Bu (QK x d) (d:Rat)=zp x:=by
 have hd':(d:Rat)≠0:=λe=>hd (by exact_mod_cast e)
 unfold Bu;rw[CN (g:=λi=>x.getD i 0) _ λi _=>?_,Di,AN,Dk,tx];rw[OX];grind
theorem rQ{p:Fw}{c:Int}(hp:Rb 40000000 p)(hc:Gy c<=40000000)(hl:p.length<=1000000):Fo 343 [.one (rp p),.agg (ri c)] [.one (rp (Bu p (c:Rat)))] :=
 Fi func343 rfl [.k (Ag (n:=1) (by decide)),.k (Cv (n:=c)),.k (QP (p:=p) (c:=(c:Rat)) hp (Ac hc (by omega)) hl)] rfl
theorem Qqs(x y:Ft)(d:Int):frow (QK x d)++frow (QK y d)=frow (QK (x++y) d):=by simp[QK,frow]
theorem RV{z:Ft}{d:Int}{i:Nat}(h:i<z.length):(QK z d)[i]? = some (((z.getD i 0:Int):Rat) / (d:Rat)):=Qqt (SS h)
theorem OD(a b:Int)(hb:b≠0){s:Nat}(h:Gy b<=s):Gy ((Int.gcd a b:Nat):Int)<=s:=by
 refine Qe (Pd ?_) h;simp only[Zw];exact Kx (by omega) (by simpa using X2.2 (Kg a b))
theorem Qpc(a b:Int):(a*b) % ((Int.gcd a b:Nat):Int)=0:=Yp (V4 (Uv ..) (Vu a b))
theorem qH{k:Crv}(hs:Rs k):Fo 248 [.one (rp (QK k.x k.d)),.one (rp (QK k.y k.d))] [.agg (Nn k)]:=by
 have hlx:=hs.c.lx;have hly:=hs.c.ly;have hds:=hs.c.d;have hxy:Bd 100000 (k.x++k.y):=λz hz=>by rcases Qr.1 hz with h|h;exact hs.c.x z h;exact hs.c.y z h
 have hfx:(frow (QK k.x k.d)).length=k.x.length:=by rw[Pj,Di]
 have hfy:(frow (QK k.y k.d)).length=k.y.length:=by rw[Pj,Di]
 have hfl:(frow (QK (k.x++k.y) k.d)).length=k.x.length+k.y.length:=by rw[Pj,Di,Za]
 have hd0:=hs.d0;refine Sp func248 rfl ?_;refine go tt [.k (Ag (n:=1) (by decide)),.s (sz:=4) (SV _),.s (sz:=4) (SV _)] rfl (by simp[Ge,hfx,hfy];omega) ?_;rw[Qqs];refine Fl (S:=Nat) 3 (λL1 i=>(15,.v (.oi i))::L1) (λi=>[.blk 133 [.nils,.nils,.nils,.nils,.bool false,.nils],.blk 32 (ri (fV (k.x++k.y) k.d i)),.row false 34 4 (frow (QK (k.x++k.y) k.d))]) (λi=>k.x.length+k.y.length-i) (λi=>i<=k.x.length+k.y.length) 0 (Qh _) rfl rfl λi hi=>?_
 have hll:(k.x++k.y).length=k.x.length+k.y.length:=Za;by_cases h:i<k.x.length+k.y.length
 ·have hlt:i<(k.x++k.y).length:=by omega
  have hqe:=UO (x:=(k.x++k.y)) (d:=k.d) (s:=100000) hxy hs.c.d (by decide);have hqi:=hqe.get (RV hlt);obtain⟨D,hD⟩:=nmE (((((k.x++k.y).getD i 0:Int):Rat) / (k.d:Rat)));have hg:=Ir (RV (d:=k.d) hlt);have es:fV (k.x++k.y) k.d (i+1)=fV (k.x++k.y) k.d i*(D.den:Int) / ((Int.gcd (fV (k.x++k.y) k.d i) (D.den:Int):Nat):Int):=by rw[hD];rfl
  rw[<-hD]at hqi hg;have hq2:=hqi.2;have hli:=Qe (Qpd (z:=(k.x++k.y)) hs.d0 (i:=i) (by omega)) hs.c.d;have hg0:((Int.gcd (fV (k.x++k.y) k.d i) (D.den:Int):Nat):Int)≠0:=by have:=Int.gcd_ne_zero_right (a:=(fV (k.x++k.y) k.d i)) (Do D);omega
  have hmu:=Hn (fV (k.x++k.y) k.d i) (D.den:Int);refine go tt [.T,.i i,.x hg,.k (Bf (a:=fV (k.x++k.y) k.d i) (b:=(D.den:Int)) (by omega) (by omega)),.i i,.x hg,.k (DD (a:=fV (k.x++k.y) k.d i) (b:=(D.den:Int)) (by omega) (by omega)),.k (TN (by omega) (Qe (OD _ _ (Do D) hq2) (by decide)) hg0 (Qpc _ _))] rfl (by simp[Ge,hfl];omega) ?_;exact rd (i+1) (by omega) h (by rw[es];rfl)
 have e:fV (k.x++k.y) k.d i=k.d:=by rw[show i=(k.x++k.y).length by omega];exact Qpb hs.d0 hs.n.2.2.2
 rw[e];have hx:=rQ (p:=QK k.x k.d) (c:=k.d) ((UO (s:=100000) hs.c.x hs.c.d (by decide)).mono (by omega)) (by omega) (by rw[Di];omega);have hy:=rQ (p:=QK k.y k.d) (c:=k.d) ((UO (s:=100000) hs.c.y hs.c.d (by decide)).mono (by omega)) (by omega) (by rw[Di];omega);rw[OQ hs.n.1 (by omega)]at hx;rw[OQ hs.n.2.1 (by omega)]at hy;exact Fh [.F,.k hx,.k (Qg4 (p:=k.x) (Gd hs.c.x (by omega)) (by omega)),.k hy,.k (Qg4 (p:=k.y) (Gd hs.c.y (by omega)) (by omega)),.k (Qgo (z:=k.d) (by omega))] rfl
theorem wN(k:Crv):T0 1 k.d'=((1:Int):Rat) / (k.d':Rat):=by
 unfold T0;rw[if_neg k.d'_ne,XD]
theorem NW{x:Ft}{g d:Int}(hg:g≠0)(hd:d≠0)(hgd:g∣d)(tx:Gh x)(hx:∀z∈x,g∣z):Bu (zp x) (((1:Int):Rat) / (d:Rat))=QK (trim (x.map (· / g))) (d / g):=by
 have ht:Gh (x.map (· / g)):=I5 tx hg hx;rw[show trim (x.map (· / g))=x.map (· / g) from ht];obtain⟨e,rfl⟩:=hgd;have he:e≠0:=λh=>hd (by rw[h,Kj])
 rw[X5 _ hg];have hgq:(g:Rat)≠0:=λh=>hg (by exact_mod_cast h)
 have heq:(e:Rat)≠0:=λh=>he (by exact_mod_cast h)
 unfold Bu;rw[Ma];have hval:∀i,i<x.length->(zp x).getD i 0*(((1:Int):Rat) / ((g*e:Int):Rat))=(((x.map (· / g)).getD i 0:Int):Rat) / (e:Rat):=λi hi=>by
  rw[TJ];have hz:=SS hi;have hm:(x.map (· / g)).getD i 0=x.getD i 0 / g:=by simp[Qc,Qf hi]
  obtain⟨w,hw⟩:=hx _ (Qa hz);rw[hm,hw,X5 _ hg,X8,X8];have:((1:Int):Rat)=1:=rfl;rw[this];grind
 have htab:JW (λi=>(zp x).getD i 0*(((1:Int):Rat) / ((g*e:Int):Rat))) x.length=QK (x.map (· / g)) e:=by
  apply Xv;intro i;by_cases hi:i<x.length
  ·rw[RV (by simpa using hi)];simp only[JW,Q8,Ji hi,Yu];rw[hval i hi]
  ·rw[Qt (by rw[RR];omega),Qt (by rw[Di];simp;omega)]
 rw[htab];rcases Qy x.length with h0|h0
 ·have:=Qg h0;subst this;rfl
 ·have hl:(QK (x.map (· / g)) e).length=x.length:=by rw[Di,Q5]
  have:=PC (l:=QK (x.map (· / g)) e) (m:=x.length) (by omega) (λj y hj hy=>by rw[Qt (by omega)]at hy;cases hy) (λ_=>⟨_,RV (z:=x.map (· / g)) (d:=e) (i:=x.length-1) (by rw[Q5];omega),λh=>by
   have h3:(((x.map (· / g)).getD (x.length-1) 0:Int):Rat)=0:=by grind
   have h4:(x.map (· / g)).getD (x.length-1) 0=0:=by exact_mod_cast h3
   have:=Rz ht (by rw[Q5];omega);rw[Q5]at this;exact this h4⟩)
  rw[this,Qo (by omega)]
theorem Qk4{k:Crv}(hk:Cs 100000 16 k):Qs 40000000 (T0 1 k.d'):=by
 have h1:=vO hk.d (by decide);rw[wN,XD];exact Qs.divInt (by decide) (by omega) (by decide)
theorem Crv.g_dvd'(k:Crv){z:Int}(h:z∈k.d'::(trim k.x++trim k.y)):k.g∣z:=Ve (k.g_dvd z h)
theorem Qlh(k:Crv):Bu (zp (trim k.x)) (T0 1 k.d')=QK k.norm.x k.norm.d:=by
 rw[wN];exact NW k.g_ne k.d'_ne (k.g_dvd' (by simp)) (Tg _) (λz hz=>k.g_dvd' (by simp[hz]))
theorem Qli(k:Crv):Bu (zp (trim k.y)) (T0 1 k.d')=QK k.norm.y k.norm.d:=by
 rw[wN];exact NW k.g_ne k.d'_ne (k.g_dvd' (by simp)) (Tg _) (λz hz=>k.g_dvd' (by simp[hz]))
theorem Qcg{k:Crv}(h:Cs 100000 16 k):Rs k.norm:=⟨k.nml,h.norm (by decide)⟩
theorem Qn7{k:Crv}(hk:Cs 100000 16 k):Fo 152 [.agg (cl4 k)] [.agg (Nn (Crv.norm k))]:=by
 have hlx:=hk.lx;have hly:=hk.ly;have hkd:=hk.d;have hrq:=Qk4 hk;have hdi:Gy k.d'<=100000:=vO hk.d (by decide);have hx:=QP (p:=zp (trim k.x)) (c:=T0 1 k.d') (JA (Gd (Mb hk.x) (by omega)) (by omega)) hrq (by rw[Ma];have:=Sl k.x;omega);have hy:=QP (p:=zp (trim k.y)) (c:=T0 1 k.d') (JA (Gd (Mb hk.y) (by omega)) (by omega)) hrq (by rw[Ma];have:=Sl k.y;omega);rw[Qlh]at hx;rw[Qli]at hy;have c1:=Ag (n:=1) (by decide);have cm:=FI (a:=1) (b:=k.d') (by decide) (by omega);by_cases h0:k.d=0
 ·have e:k.d'=1:=by unfold Crv.d';rw[if_pos h0]
  rw[e]at hx hy cm;exact Fi func152 rfl [.k (yT (z:=k.d) (by omega)),.k De,.t (decide_eq_true h0),.k c1,.k c1,.k cm,.k (VI (p:=k.x) (Gd hk.x (by omega)) (by omega)),.k hx,.k (VI (p:=k.y) (Gd hk.y (by omega)) (by omega)),.k hy,.k (qH (Qcg hk))] rfl
 ·have e:k.d'=k.d:=by unfold Crv.d';rw[if_neg h0]
  rw[e]at hx hy cm;exact Fi func152 rfl [.k (yT (z:=k.d) (by omega)),.k De,.f (decide_eq_false h0),.k c1,.k cm,.k (VI (p:=k.x) (Gd hk.x (by omega)) (by omega)),.k hx,.k (VI (p:=k.y) (Gd hk.y (by omega)) (by omega)),.k hy,.k (qH (Qcg hk))] rfl
theorem Qhb{k:Crv}{id:Int}(hk:Cs 100000 16 k):Fo 53 [.agg (cl4 k++[.int .i64 id])] [.agg (FX ⟨Crv.norm k,id⟩)] :=
 Fi func53 rfl [.k (Qn7 hk)] rfl
theorem Dm{k:Crv}(hk:Rs k):Fo 273 [.agg (Nn k)] [.one (rp (zp k.x)),.one (rp (zp k.y)),.one (rp (zp [k.d]))]:=by
 have hlx:=hk.c.lx;have hly:=hk.c.ly;have hkd:=hk.c.d;have hx:=VI (p:=k.x) (Gd hk.c.x (by omega)) (by omega);have hy:=VI (p:=k.y) (Gd hk.c.y (by omega)) (by omega);rw[show trim k.x=k.x from hk.n.1]at hx;rw[show trim k.y=k.y from hk.n.2.1]at hy;exact Fi func273 rfl [.k (yT (z:=k.d) (by omega)),.k (Ag (n:=1) (by decide)),.k (Cv (n:=k.d)),.k hx,.k hy] rfl
theorem lU{p:Ft}{d:Int}(tp:Gh p)(hd:d≠0):Gq p [d]=Gs p d:=by
 refine YN (Ho _ _) (Gk _ _) λm=>?_
 unfold Gs;rw[Sy];unfold Gq;by_cases h0:p.length=0
 ·rw[if_pos (.inl h0),if_neg (by omega)];rfl
 ·rw[if_neg (by simp;exact λh=>h0 (by rw[h];rfl)),D9];show(Lq p [d] (List.replicate (p.length+1-1) 0) p.length).getD m 0=_;have key:∀i,i<=p.length->(Lq p [d] (List.replicate (p.length+1-1) 0) i).getD m 0=if m<i then p.getD m 0*d else 0:=by
   intro i
   induction i with
   |zero=>intro _;simp only[Lq];rw[Tw,if_neg (by omega)]
   |
    succ i ih =>
    intro hi;simp only[Lq];rw[PX _ _ _ _ _ _ (by rw[Lr,Jf];show i+1<=_;omega),ih (by omega)];show(if i<=m/\m<i+1 then(if m<i then p.getD m 0*d else 0)+p.getD i 0*[d].getD (m-i) 0 else _)=_;by_cases e:m=i
    ·subst e;rw[if_pos ⟨Qn _,by omega⟩,if_neg (by omega),if_pos (by omega),Yl];show 0+p.getD m 0*d=_;omega
    ·rw[if_neg (by omega)];by_cases h1:m<i
     ·rw[if_pos h1,if_pos (by omega)]
     ·rw[if_neg h1,if_neg (by omega)]
  rw[key _ (Qn _)]
theorem Qf3{s:Nat}{d:Int}(h:Gy d<=s):Bd s [d]:=λz hz=>by simp at hz;subst hz;exact h
theorem UU{p:Ft}{d:Int}(tp:Gh p)(hd:d≠0)(hp:Bd 9000000 p)(hs:Gy d<=9000000)(hl:p.length<=1000):Fo 259 [.one (rp (zp p)),.one (rp (zp [d]))] [.one (rp (zp (Gs p d)))]:=by
 have h:=Ou (p:=p) (q:=[d]) (by omega) (by show 1<=1000000;decide) hp (Qf3 hs) (by decide);rwa[lU tp hd]at h
theorem Rs.dn{k:Crv}(h:Rs k):k.d≠0:=by have:=h.d0;omega
theorem yL{p q:Ft}(hp:Bd 19000000 p)(hq:Bd 19000000 q)(hlp:p.length<=1000000)(hlq:q.length<=1000000):Fo 276 [.one (rp (zp p)),.one (rp (zp q))] [.one (rp (zp (P7 p q)))]:=by
 have h:=bN (JA hp (by decide)) (JA hq (by decide)) (by rw[Ma];exact hlp) (by rw[Ma];exact hlq);rwa[Qci]at h
theorem gR{a b:Crv}(ha:Rs a)(hb:Rs b):Fo 270 [.agg (Nn a),.agg (Nn b)] [.one (rp (zp (Hg a b)))] :=
 Fi func270 rfl [.k (Dm ha),.k (Dm hb),.k (UU (p:=b.x) (d:=a.d) hb.n.1 ha.dn (Gd hb.c.x (by decide)) (Qe ha.c.d (by decide)) (by have:=hb.c.lx;omega)),.k (UU (p:=a.x) (d:=b.d) ha.n.1 hb.dn (Gd ha.c.x (by decide)) (Qe hb.c.d (by decide)) (by have:=ha.c.lx;omega)),.k (yL (p:=Gs b.x a.d) (q:=Gs a.x b.d) (Gd (G9 hb.c.x ha.c.d) (by decide)) (Gd (G9 ha.c.x hb.c.d) (by decide)) (by have:=Gz b.x a.d;have:=hb.c.lx;omega) (by have:=Gz a.x b.d;have:=ha.c.lx;omega))] rfl
theorem gK{a b:Crv}(ha:Rs a)(hb:Rs b):Fo 271 [.agg (Nn a),.agg (Nn b)] [.one (rp (zp (Hf a b)))] :=
 Fi func271 rfl [.k (Dm ha),.k (Dm hb),.k (UU (p:=b.y) (d:=a.d) hb.n.2.1 ha.dn (Gd hb.c.y (by decide)) (Qe ha.c.d (by decide)) (by have:=hb.c.ly;omega)),.k (UU (p:=a.y) (d:=b.d) ha.n.2.1 hb.dn (Gd ha.c.y (by decide)) (Qe hb.c.d (by decide)) (by have:=ha.c.ly;omega)),.k (yL (p:=Gs b.y a.d) (q:=Gs a.y b.d) (Gd (G9 hb.c.y ha.c.d) (by decide)) (Gd (G9 ha.c.y hb.c.d) (by decide)) (by have:=Gz b.y a.d;have:=hb.c.ly;omega) (by have:=Gz a.y b.d;have:=ha.c.ly;omega))] rfl
theorem jQ{a b:Crv}(ha:Rs a)(hb:Rs b):Bd 200001 (Hg a b)/\(Hg a b).length<=16:=by
 refine⟨Gd (Dd (G9 hb.c.x ha.c.d) (G9 ha.c.x hb.c.d)) (by omega),Qe (Ml _ _) ?_⟩;have:=Gz b.x a.d;have:=Gz a.x b.d;have:=ha.c.lx;have:=hb.c.lx;omega
theorem xK{a b:Crv}(ha:Rs a)(hb:Rs b):Bd 200001 (Hf a b)/\(Hf a b).length<=16:=by
 refine⟨Gd (Dd (G9 hb.c.y ha.c.d) (G9 ha.c.y hb.c.d)) (by omega),Qe (Ml _ _) ?_⟩;have:=Gz b.y a.d;have:=Gz a.y b.d;have:=ha.c.ly;have:=hb.c.ly;omega
theorem iJ{s:Nat}{p:Ft}(h:Bd s p)(hl:p.length<=16):Bd (2*s+5) (Gq p p):=Gd (Sf (u:=5) h h (by omega)) (by omega)
theorem kY{p:Ft}(hl:p.length<=16):(Gq p p).length<=31:=Qe (Tc p p) (by omega)
theorem Qo7{α:Type}{f:α->Fy}{lt:α->α->Bool}{O:List α}{c:α}{k:Nat}(hp:Bq lt O c O.length=k):(O.map f).take k++(f c::(O.map f).drop k)=(Ck lt O c).map f:=by
 simp[Ck,hp,Vs,Wu]
theorem Qjd{α:Type}{f:α->Fy}{lt:α->α->Bool}{O:List α}{c:α}{k:Nat}(hp:Bq lt O c O.length=k):(O.map f).take k++([f c]++((O.map f).drop k).take ((O.map f).length-k))=(Ck lt O c).map f:=by
 rw[Qo (l:=(O.map f).drop k) (by simp)];exact Qo7 hp
theorem GI{lt:Pt->Pt->Bool}{O:List Pt}{c:Pt}{k:Nat}(hp:Bq lt O c O.length=k):(He O).take k++([FX c]++((He O).drop k).take ((He O).length-k))=He (Ck lt O c):=Qjd hp
theorem Rr(l:List Pt):(He l).length=l.length:=by simp[He]
theorem JK(l:List Pt):∀c∈He l,c.length=7:=λc hc=>by obtain⟨x,_,rfl⟩:=Zc.1 hc;rfl
theorem G0{l:List Pt}{i:Nat}{c:Pt}(h:l[i]? = some c):(He l)[i]? = some (FX c):=Tz h
theorem BG{l:List Pt}(hn:l.length<=1000000):Fo 69 [.one (.row (He l))] [.one (.row (He (Hh Tv l)))]:=by
 have hcl:=Rr l;refine Sp func69 rfl ?_;refine Ff [.o 3 135 7] rfl ?_;refine Fl (S:=Nat) 1 (λL1 i=>(8,.v (.oi i))::(3,.v (.one (.orow 0 7 none)))::L1) (λi=>[.row false 135 7 (He (Hh Tv (l.take i)))]) (λi=>l.length-i) (λi=>i<=l.length) 0 (Qh _) rfl rfl λi hi=>?_
 by_cases hlt:i<l.length
 ·obtain⟨c,hc⟩:=gxE (l:=l) (i:=i) hlt;have hst:Hh Tv (l.take (i+1))=Ck Tv (Hh Tv (l.take i)) c:=FK hc;obtain⟨O,hO⟩:=nmE (Hh Tv (l.take i));have hOl:O.length=i:=by rw[hO,P0,Qz];omega
  have hrl:=Rr O;rw[<-hO]at hst ⊢;refine Ff [.T] rfl ?_;refine Fl (S:=Nat) 1 (λL1 k=>(5,.v (.oi k))::L1) (λ_=>[.row false 135 7 (He O)]) id (λk=>k<=O.length/\Bq Tv O c k=Bq Tv O c O.length) (He O).length ⟨by omega,by rw[hrl]⟩ rfl rfl λk ⟨hk,hp⟩=>?_
  have h7:=JK O;have h7z:∀y∈[FX c],y.length=7:=λy hy=>by rw[Qp.1 hy];rfl
  cases k with
  |
   zero =>
   have hp:Bq Tv O c O.length=0:=by rw[<-hp];rfl
   refine Fg [.g 15 false (by simp),.f rfl,.i 0,.x (G0 hc),.lo,.i 0,.s (sz:=7) (λy hy=>h7 y (Qq hy)),.s (sz:=7) (λy hy=>(Qr.1 hy).elim (h7z y) λhy=>h7 y (Qq hy))] rfl ?_;exact rd (i+1) (by omega) hlt (by rw[hst,<-GI hp];rfl)
  |
   succ k =>
   obtain⟨x,hx⟩:=gxE (l:=O) (i:=k) (by omega);by_cases hlc:Tv c x=true
   ·refine Fg [.g 15 true (by simp),.x (G0 hc),.r 23 (eI (b:=(k:Int)) (by simp)),.i k,.x (G0 hx),.t hlc,.r 30 (eI (b:=(k:Int)) (by simp))] rfl ?_;exact rd k (by simp) ⟨by omega,by rw[<-hp,KL hx hlc]⟩ rfl
   ·have hlc:Tv c x=false:=by simpa using hlc
    have hp:Bq Tv O c O.length=k+1:=by rw[<-hp,XQ hx hlc]
    refine Fg [.g 15 true (by simp),.x (G0 hc),.r 23 (eI (b:=(k:Int)) (by simp)),.i k,.x (G0 hx),.f hlc,.i (k+1),.x (G0 hc),.lo,.i (k+1),.s (sz:=7) (λy hy=>h7 y (Q9 (Qq hy))),.s (sz:=7) (λy hy=>(Qr.1 hy).elim (h7z y) λhy=>h7 y (Q9 (Qq hy)))] rfl ?_;exact rd (i+1) (by omega) hlt (by rw[hst,<-GI hp];rfl)
 ·obtain rfl:i=l.length:=by omega
  rw[Zd];exact Fh [.F] rfl

end Orr
namespace Orr
open Go Go.Proofs Tryz Orq
set_option maxRecDepth 10000
structure Ti where
 p:List Int
 C:List (List Int)
 lo:Rat
 hi:Rat
 sg:List Int->Int
abbrev Ti.tl(T:Ti):Fy:=ax T.p T.C T.lo T.hi
structure RT(T:Ti):Prop where
 a:∀{p:List Int},Dp p->Fo 16 [.one (rp (zp p)),.agg T.tl] [.oi (Hj T.sg p)]
theorem Sc.rs{k:Crv}(h:Sc k):Rs k:=⟨h.n,h.c.mono (by decide) (by decide)⟩
theorem QN{a b:Crv}(ha:Sc a)(hb:Sc b):Fo 270 [.agg (Nn a),.agg (Nn b)] [.one (rp (zp (Hg a b)))]:=gR ha.rs hb.rs
theorem QM{a b:Crv}(ha:Sc a)(hb:Sc b):Fo 271 [.agg (Nn a),.agg (Nn b)] [.one (rp (zp (Hf a b)))]:=gK ha.rs hb.rs
theorem Qsu{t:Tm}{C:Fu}{N:Nat}{lo hi:Rat}(h:AT t C N lo hi)(hN:N<=900000):RT ⟨t.p,C,lo,hi,Hi t⟩:=⟨λhp=>Qdb h hN hp⟩
def Px(sg:Ft->Int)(a b:Pt):Bool:=if Hj sg (Hg a.c b.c)≠0 then decide (0<Hj sg (Hg a.c b.c))else if Hj sg (Hf a.c b.c)≠0 then decide (0<Hj sg (Hf a.c b.c))else decide (a.id<b.id)
theorem Ih{a b:Pt}{T:Ti}(ha:Sc a.c)(hb:Sc b.c)(hq:RT T):Fo 173 [.agg (FX a),.agg (FX b),.agg (T.tl)] [.one (.bool (Px T.sg a b))]:=by
 have c1:=hq.a (p:=Hg a.c b.c) (Cz ha hb).dp;have c2:=hq.a (p:=Hf a.c b.c) (Cy ha hb).dp;by_cases h1:Hj T.sg (Hg a.c b.c)≠0
 ·exact Fi func173 rfl [.k (QN ha hb),.k c1,.t (decide_eq_true h1)] rfl (by unfold Px;rw[if_pos h1]) trivial
 by_cases h2:Hj T.sg (Hf a.c b.c)≠0
 ·exact Fi func173 rfl [.k (QN ha hb),.k c1,.f (decide_eq_false h1),.k (QM ha hb),.k c2,.t (decide_eq_true h2)] rfl (by unfold Px;rw[if_neg h1,if_pos h2]) trivial
 ·exact Fi func173 rfl [.k (QN ha hb),.k c1,.f (decide_eq_false h1),.k (QM ha hb),.k c2,.f (decide_eq_false h2)] rfl (by unfold Px;rw[if_neg h1,if_neg h2]) trivial
theorem LJ{l:List Pt}{T:Ti}(hl:∀p∈l,Sc p.c)(hn:l.length≤1000000)(hq:RT T):Fo 65 [.one (.row (He l)),.agg (T.tl)] [.one (.row (He (Hh (Px T.sg) l)))]:=by
 have hcl:=Rr l;obtain⟨lt,hlt0⟩:=nmE (Px T.sg);rw[<-hlt0];refine Sp func65 rfl ?_;refine Ff [.o 5 135 7] rfl ?_;refine Fl (S:=Nat) 2 (λL1 i=>(10,.v (.oi i))::(5,.v (.one (.orow 1 7 none)))::L1) (λi=>[.blk 36 (T.tl),.row false 135 7 (He (Hh lt (l.take i)))]) (λi=>l.length-i) (λi=>i<=l.length) 0 (Qh _) rfl rfl λi hi=>?_
 by_cases hlt:i<l.length
 ·obtain⟨c,hc⟩:=gxE (l:=l) (i:=i) hlt;have hst:Hh lt (l.take (i+1))=Ck lt (Hh lt (l.take i)) c:=FK hc;have hcp:=hl c (Qa hc);obtain⟨O,hO⟩:=nmE (Hh lt (l.take i));have hOl:O.length=i:=by rw[hO,P0,Qz];omega
  have hOm:∀x∈O,Sc x.c:=λx hx=>by rw[hO,P5]at hx;exact hl x (Qq hx)
  have hrl:=Rr O;rw[<-hO]at hst ⊢;refine Ff [.T] rfl ?_;refine Fl (S:=Nat) 2 (λL1 k=>(7,.v (.oi k))::L1) (λ_=>[.blk 36 (T.tl),.row false 135 7 (He O)]) id (λk=>k<=O.length/\Bq lt O c k=Bq lt O c O.length) (He O).length ⟨by omega,by rw[hrl]⟩ rfl rfl λk ⟨hk,hp⟩=>?_
  have h7:=JK O;have h7z:∀y∈[FX c],y.length=7:=λy hy=>by rw[Qp.1 hy];rfl
  cases k with
  |
   zero =>
   have hp:Bq lt O c O.length=0:=by rw[<-hp];rfl
   refine Fg [.g 17 false (by simp),.f rfl,.i 0,.x (G0 hc),.lo,.i 0,.s (sz:=7) (λy hy=>h7 y (Qq hy)),.s (sz:=7) (λy hy=>(Qr.1 hy).elim (h7z y) λhy=>h7 y (Qq hy))] rfl ?_;exact rd (i+1) (by omega) hlt (by rw[hst,<-GI hp];rfl)
  |
   succ k =>
   obtain⟨x,hx⟩:=gxE (l:=O) (i:=k) (by omega);have cb:=Ih hcp (hOm x (Qa hx)) hq;rw[<-hlt0]at cb;by_cases hlc:lt c x=true
   ·refine Fg [.g 17 true (by simp),.x (G0 hc),.r 24 (eI (b:=(k:Int)) (by simp)),.i k,.x (G0 hx),.k cb,.t hlc,.r 31 (eI (b:=(k:Int)) (by simp))] rfl ?_;exact rd k (by simp) ⟨by omega,by rw[<-hp,KL hx hlc]⟩ rfl
   ·have hlc:lt c x=false:=by simpa using hlc
    have hp:Bq lt O c O.length=k+1:=by rw[<-hp,XQ hx hlc]
    refine Fg [.g 17 true (by simp),.x (G0 hc),.r 24 (eI (b:=(k:Int)) (by simp)),.i k,.x (G0 hx),.k cb,.f hlc,.i (k+1),.x (G0 hc),.lo,.i (k+1),.s (sz:=7) (λy hy=>h7 y (Q9 (Qq hy))),.s (sz:=7) (λy hy=>(Qr.1 hy).elim (h7z y) λhy=>h7 y (Q9 (Qq hy)))] rfl ?_;exact rd (i+1) (by omega) hlt (by rw[hst,<-GI hp];rfl)
 ·obtain rfl:i=l.length:=by omega
  rw[Zd];exact Fh [.F] rfl
end Orr
namespace Orr
open Go Go.Proofs Tryz
set_option maxRecDepth 10000
theorem Qpg(l:Fv)(n:Nat):(lm l).take (min l.length n)=lm (l.take n):=by
 rw[lm,lm,<-Vs];rcases Nat.le_total l.length n with h|h
 ·rw[Z8 h,Zd,Qo h]
 ·rw[Kt h]
theorem Qt4{l:Fv}{n:Nat}(hn:n<=1000):Fo 245 [.one (.row (lm l)),.oi n] [.one (.row (lm (l.take n)))]:=by
 rw[<-Qpg];have hll:(lm l).length=l.length:=by simp[lm]
 exact Fi func245 rfl [.r 9 (eI (b:=((min l.length n:Nat):Int)) (by omega)),.i (min l.length n)] rfl rfl (by simp[Ge,hll];omega)
theorem Qgv{z:RawInt}:Fo 150 [.agg (PM z),.oi 1] [.agg (PM z.cut)] :=
 Fi func150 rfl [.k (Qt4 (l:=z.l) (n:=1) (by decide))] rfl
def WO(l:List RawInt):Fz:=l.map PM
theorem KI(l:List RawInt):(WO l).length=l.length:=by simp[WO]
theorem iL{l:List RawInt}:Fo 149 [.one (.row (WO l)),.oi 3,.oi 1] [.one (.row (WO ((l.take 3).map RawInt.cut)))]:=by
 have hll:=KI l;refine Sp func149 rfl (ln 0 rfl rfl λhzl=>?_);rw[hll]at hzl;refine Ff [.o 7 55 2] rfl ?_;refine Fl (S:=Nat) 1 (λL1 i=>(8,.v (.oi i))::(7,.v (.one (.orow 0 2 none)))::L1) (λi=>[.row false 55 2 (WO ((l.take i).map RawInt.cut))]) (λi=>3-i) (λi=>i<=3/\i<=l.length) 0 ⟨by decide,Qh _⟩ rfl rfl λi ⟨hi,hi2⟩=>?_
 have hil:(WO ((l.take i).map RawInt.cut)).length=i:=by rw[KI,Q5,Qz];omega
 by_cases h1:i<l.length
 ·by_cases h2:i<3
  ·obtain⟨z,hz⟩:=gxE (l:=l) (i:=i) h1;have hm:∀y∈[PM z.cut],y.length=2:=λy hy=>by rw[Qp.1 hy];rfl
   refine go tt [.g 13 true Fq,.T,.x (Tz (f:=PM) hz),.k Qgv,.s (sz:=2) hm] rfl (by simp[Ge,hil,-List.map_take];omega) ?_;exact rd (i+1) (by omega) ⟨h2,h1⟩ (by rw[X3,hz];simp[WO];rfl)
  ·have e:i=3:=by omega
   have e2:l.take 3=l.take i:=by rw[e]
   rw[e2];exact Fh [.g 13 true Fq,.F] rfl
 ·have e:l.take i=l.take 3:=by rw[Qo (by omega),Qo (by omega)]
  rw[e];exact Fh [.g 13 false Fp,.f rfl] rfl
abbrev rcw(z:RawPt):Fy:=[.row (WO z.x),.row (WO z.y),.bool z.d.b,.row (lm z.d.l)]
def RawPt.cut(z:RawPt):RawPt:=⟨(z.x.take 3).map RawInt.cut,(z.y.take 3).map RawInt.cut,z.d.cut,z.id⟩
theorem Qw1{z:RawPt}:Fo 51 [.agg (rcw z),.oi 3,.oi 1] [.agg (rcw z.cut)] :=
 Fi func51 rfl [.k (iL (l:=z.x)),.k (iL (l:=z.y)),.k (Qgv (z:=z.d))] rfl
theorem FO{z:RawInt}(hz:z.Ok){most:Int}(hm:0<=most/\most<=999):Fo 151 [.agg (PM z),.oi most] [.agg (Si (Pu most z))]:=by
 obtain⟨b,l⟩:=z;have hb:=UN hm.1 ⟨b,l⟩;have hs:Gy (Pu most ⟨b,l⟩)<=100000000:=Qe (Pf.2 (show(Pu most ⟨b,l⟩).natAbs<2^10 by omega)) (by decide);cases l with
 |nil=>exact Fi func151 rfl [.t rfl] rfl (by simp[Pu,Ix]) trivial
 |
  cons u l =>
  have hu:=hz.u u (Qw ..);have co:=Ag (n:=Pu most ⟨b,u::l⟩) (by omega);have ct:=Qgo hs;have hr:Int.tmod (u:Int) (most+1)=(u:Int) % (most+1):=Vr (by omega);have h1:=K6 (u:Int) (b:=most+1) (by omega);have h2:=V6 (u:Int) (b:=most+1) (by omega);cases b with
  |
   true =>
   rw[show Pu most ⟨true,u::l⟩=-((u:Int) % (most+1)) from rfl]at co ct ⊢;exact Fi func151 rfl [.f (decide_eq_false (by simp[lm];try omega)),.x (l:=lm (u::l)) (i:=0) (xs:=[.int .u32 (u:Int)]) rfl,.r 18 (eI hr),.t rfl,.k co,.k ct] rfl rfl (by simp[Ge];omega)
  |
   false =>
   rw[show Pu most ⟨false,u::l⟩=(u:Int) % (most+1) from rfl]at co ct ⊢;exact Fi func151 rfl [.f (decide_eq_false (by simp[lm];try omega)),.x (l:=lm (u::l)) (i:=0) (xs:=[.int .u32 (u:Int)]) rfl,.r 18 (eI hr),.f rfl,.k co,.k ct] rfl rfl (by simp[Ge];omega)
theorem oz2{P:Program}[Mo P]{n:Nat}{Q:Exit->Sg->Ga->Prop}{L L':Sg}{B B':Ga}(d off T sz:Nat){it:List It}(hs:P9 it=true)(h:Qku (P:=P) d L B [.oc d off T sz]=some (L',B',[],[]))(k:AK P n Q it L' B'):AK P n Q it L B:=AK.sub (lM h EqOk.nil) hs k
theorem pz{P:Program}[Mo P]{n:Nat}{Q:Exit->Sg->Ga->Prop}{L L':Sg}{B B':Ga}(i:Nat){it:List It}(hs:P9 it=true)(h:Qen [i] L B=some (L',B'))(k:AK P n Q it L' B'):AK P n Q it L B:=AK.sub (HC h) hs k
def ZV(l:Ft):Fz:=l.map Si
theorem Qed(l:Ft):(ZV l).length=l.length:=by simp[ZV]
theorem PZ{most:Int}{l:List RawInt}{i:Nat}{a:RawInt}(hi:i<3)(h:l[i]? = some a):ZV (Tr most (l.take (i+1)))=ZV (Tr most (l.take i))++[Si (Pu most a)]:=by
 rw[kU hi h];simp[ZV]
theorem kW{most:Int}{l:List RawInt}{i:Nat}(hi:i<=3)(h:i<=l.length):(ZV (Tr most (l.take i))).length=i:=by
 rw[Qed];unfold Tr;rw[List.length_map,List.length_take,List.length_take];omega
theorem Qgb{z:RawPt}(hz:z.Ok){most:Int}(hm:0<=most/\most<=999):Fo 52 [.agg (rcw z),.oi most] [.agg (cl4 (HZ most z.x z.y z.d))]:=by
 have hxl:=KI z.x;have hyl:=KI z.y;obtain⟨D,hD⟩:=nmE (Pu 3 z.d);have cd:=FO hz.d (most:=3) (by decide);have hx0:∀{i:Nat},z.x.length<=i\/3<=i->Tr most (z.x.take i)=Tr most z.x:=ML most;have hy0:∀{i:Nat},z.y.length<=i\/3<=i->Tr most (z.y.take i)=Tr most z.y:=ML most;unfold HZ;rw[<-hD]at cd ⊢;refine Sp func52 rfl ?_;refine Ff [.k cd] rfl ?_;refine oz2 5 0 55 2 rfl rfl ?_;refine Fl (S:=Nat) 4 (λL1 i=>(6,.v (.oi i))::L1) (λi=>[.blk 74 (rcw z),.blk 74 [.nils,.nils,.bool false,.nils],.blk 74 [.orow 3 2 none,.nils,sg D,mg D],.row false 55 2 (ZV (Tr most (z.x.take i)))]) (λi=>3-i) (λi=>i<=3/\i<=z.x.length) 0 ⟨by decide,Qh _⟩ rfl rfl λi ⟨hi,hi2⟩=>?_
 have hll:=kW (most:=most) hi hi2;by_cases hr:i<z.x.length/\i<3
 ·obtain⟨a,ha⟩:=gxE (l:=z.x) (i:=i) hr.1;have hs:∀y∈[Si (Pu most a)],y.length=2:=λy hy=>by rw[Qp.1 hy];rfl
  refine go tt [.g 17 true Fq,.T,.x (Tz (f:=PM) ha),.k (FO (hz.x a (Qa ha)) hm),.s (sz:=2) hs] rfl (by simp[Ge,hll];omega) ?_;exact rd (i+1) (by omega) ⟨hr.2,hr.1⟩ (by rw[PZ hr.2 ha];rfl)
 have hg1:decide ((i:Int)<((WO z.x).length:Int))=true->i<z.x.length:=λh=>by have:=of_decide_eq_true h;omega
 rw[hx0 (by omega)];clear hll;have hfin:∀{j:Nat},j<=3/\j<=z.y.length->¬(j<z.y.length/\j<3)->ZV (Tr most (z.y.take j))=ZV (Tr most z.y):=λh1 h2=>by rw[hy0 (by omega)]
 by_cases hxx:i<z.x.length
 ·refine Ff [.g 17 true Fq,.F] rfl ?_;refine pz 3 rfl rfl ?_;refine oz2 5 1 55 2 rfl rfl ?_;refine Fl (S:=Nat) 5 (λL1 j=>(7,.v (.oi j))::L1) (λj=>[.blk 74 (rcw z),.blk 74 [.nils,.nils,.bool false,.nils],.blk 74 [.row (ZV (Tr most z.x)),.orow 4 2 none,sg D,mg D],.gone,.row false 55 2 (ZV (Tr most (z.y.take j)))]) (λj=>3-j) (λj=>j<=3/\j<=z.y.length) 0 ⟨by decide,Qh _⟩ rfl rfl λj ⟨hj,hj2⟩=>?_
  have hll:=kW (most:=most) hj hj2;by_cases hr:j<z.y.length/\j<3
  ·obtain⟨a,ha⟩:=gxE (l:=z.y) (i:=j) hr.1;have hs:∀y∈[Si (Pu most a)],y.length=2:=λy hy=>by rw[Qp.1 hy];rfl
   refine go tt [.g 40 true Fq,.T,.x (Tz (f:=PM) ha),.k (FO (hz.y a (Qa ha)) hm),.s (sz:=2) hs] rfl (by simp[Ge,hll];omega) ?_;exact rd (j+1) (by omega) ⟨hr.2,hr.1⟩ (by rw[PZ hr.2 ha];rfl)
  rw[hfin ⟨hj,hj2⟩ hr];by_cases hyy:j<z.y.length
  ·exact Fj [4] [] [.g 40 true Fq,.F] rfl
  ·exact Fj [4] [] [.g 40 false Fp,.f rfl] rfl
 ·refine Ff [.g 17 false Fp,.f rfl] rfl ?_;refine pz 3 rfl rfl ?_;refine oz2 5 1 55 2 rfl rfl ?_;refine Fl (S:=Nat) 5 (λL1 j=>(7,.v (.oi j))::L1) (λj=>[.blk 74 (rcw z),.blk 74 [.nils,.nils,.bool false,.nils],.blk 74 [.row (ZV (Tr most z.x)),.orow 4 2 none,sg D,mg D],.gone,.row false 55 2 (ZV (Tr most (z.y.take j)))]) (λj=>3-j) (λj=>j<=3/\j<=z.y.length) 0 ⟨by decide,Qh _⟩ rfl rfl λj ⟨hj,hj2⟩=>?_
  have hll:=kW (most:=most) hj hj2;by_cases hr:j<z.y.length/\j<3
  ·obtain⟨a,ha⟩:=gxE (l:=z.y) (i:=j) hr.1;have hs:∀y∈[Si (Pu most a)],y.length=2:=λy hy=>by rw[Qp.1 hy];rfl
   refine go tt [.g 40 true Fq,.T,.x (Tz (f:=PM) ha),.k (FO (hz.y a (Qa ha)) hm),.s (sz:=2) hs] rfl (by simp[Ge,hll];omega) ?_;exact rd (j+1) (by omega) ⟨hr.2,hr.1⟩ (by rw[PZ hr.2 ha];rfl)
  rw[hfin ⟨hj,hj2⟩ hr];by_cases hyy:j<z.y.length
  ·exact Fj [4] [] [.g 40 true Fq,.F] rfl
  ·exact Fj [4] [] [.g 40 false Fp,.f rfl] rfl
theorem iF{n d:Int}(hn:-9223372036854775808<=n/\n<=9223372036854775807)(hd:-9223372036854775808<=d/\d<=9223372036854775807):Fo 56 [.oi n,.oi d] [.agg (fr (T0 (Af n 61-30) (1+Af d 6)))]:=by
 have h1:Af n 61=n % 61:=rfl;have h2:Af d 6=d % 6:=rfl;exact Fi func56 rfl [.k (If (v:=n) (n:=61) hn (by decide)),.k (If (v:=d) (n:=6) hd (by decide)),.k (Qr2 (n:=Af n 61-30) (d:=1+Af d 6) (by omega) (by omega))] rfl rfl (by simp[Ge];omega)
def rwq(z:RawPt):Fy:=rcw z++[.int .i64 z.id]
def jS(l:List RawPt):Fz:=l.map rwq
theorem Qe0(l:List RawPt):(jS l).length=l.length:=by simp[jS]
theorem uX{l:List RawPt}{i:Nat}{z:RawPt}(h:l[i]? = some z):(jS l)[i]? = some (rwq z):=Tz h
theorem Qt9{most:Int}(hm:0<=most/\most<=999)(z:RawPt):Cs 100000 16 (KR most z).c:=(qA hm z.x z.y z.d).mono (by decide) (by decide)
def XZ(n:Nat)(most:Int)(zs:List RawPt)(i:Nat):List Pt:=IC n most (zs.take i)
theorem Qkw(n:Nat)(most:Int)(zs:List RawPt)(i:Nat):(XZ n most zs i).length<=n:=GM _ _ (Qh _)
theorem Qp9{n:Nat}{most:Int}{zs:List RawPt}{i:Nat}{z:RawPt}(h:zs[i]? = some z)(hl:(XZ n most zs i).length<n)(ha:(XZ n most zs i).any (λx=>decide (x.id=(KR most z).id))=true):XZ n most zs (i+1)=XZ n most zs i:=by
 unfold XZ IC at *;rw[X3,h,Jl,Xx];exact XA _ _ _ hl ha
theorem Qkx{n:Nat}{most:Int}{zs:List RawPt}{i:Nat}{z:RawPt}(h:zs[i]? = some z)(hl:(XZ n most zs i).length<n)(ha:(XZ n most zs i).any (λx=>decide (x.id=(KR most z).id))=false):XZ n most zs (i+1)=XZ n most zs i++[KR most z]:=by
 unfold XZ IC at *;rw[X3,h,Jl,Xx];exact O2 _ _ _ hl ha
theorem Qkv{n:Nat}{most:Int}{zs:List RawPt}{i:Nat}(h:¬(i<zs.length/\(XZ n most zs i).length<n)):XZ n most zs i=IC n most zs:=by
 by_cases h1:i<zs.length
 ·have hl:n<=(XZ n most zs i).length:=Vi λh2=>h ⟨h1,h2⟩
  unfold XZ IC at *
  conv=>rhs;rw[<-Zh i zs,Xx]
  exact(SH _ _ _ hl).symm
 ·unfold XZ;rw[List.take_of_length_le (by omega)]
theorem Qfv{f:Pt->Bool}{l:List Pt}{k:Nat}{x:Pt}(h:l[k]? = some x):(l.take (k+1)).any f=((l.take k).any f || f x):=by
 rw[X3,h];simp
theorem Qc5{zs:List RawPt}(hz:∀z∈zs,z.Ok):JM prog 12 [.one (.row (jS zs)),.oi 4] [] [.one (.orow 0 5 none),.one (.orow 1 7 none)] [.row false 76 5 (Ra (IC 4 20 zs)),.row false 135 7 (He ((IC 4 20 zs).map Pt.nrm))]:=by
 have hzl:=Qe0 zs;refine Sp func12 rfl (ln 0 rfl rfl λhz63=>?_);rw[hzl]at hz63;refine Ff [.o 6 76 5,.o 7 135 7] rfl ?_;refine Fl (S:=Nat) 2 (λL1 i=>(8,.v (.oi i))::(6,.v (.one (.orow 0 5 none)))::(7,.v (.one (.orow 1 7 none)))::L1) (λi=>[.row false 76 5 (Ra (XZ 4 20 zs i)),.row false 135 7 (He ((XZ 4 20 zs i).map Pt.nrm))]) (λi=>zs.length-i) (λi=>i<=zs.length) 0 (Qh _) rfl rfl λi hi=>?_
 have hOl:=Qkw 4 20 zs i;have hend:=Qkv (n:=4) (most:=20) (zs:=zs) (i:=i);by_cases h1:i<zs.length
 ·by_cases h2:(XZ 4 20 zs i).length<4
  ·obtain⟨z,hzi⟩:=gxE (l:=zs) (i:=i) h1;have hzok:=hz z (Qa hzi);have hin:=Qp9 hzi h2;have hout:=Qkx hzi h2;obtain⟨O,hO⟩:=nmE (XZ 4 20 zs i);rw[<-hO]at hOl h2 hin hout ⊢;have Ei:=P8 O;have hrl:(He (O.map Pt.nrm)).length=O.length:=by rw[Rr,Q5]
   obtain⟨p,hp⟩:=nmE (KR 20 z);have hid:Af z.id 1000=p.id:=by rw[hp];rfl
   have cw:=If (v:=z.id) (n:=1000) hzok.id (by decide);have cl:=Qgb hzok (most:=20) (by decide);have ecl:cl4 (HZ 20 z.x z.y z.d)=cl4 p.c:=by rw[hp];rfl
   rw[hid]at cw;rw[ecl]at cl;rw[<-hp]at hin hout;refine Ff [.g 16 true Fq,.T,.x (uX hzi),.k (Qw1 (z:=z)),.x (uX hzi),.k cw,.f rfl,.t rfl,.x (uX hzi),.k cl] rfl ?_;refine Fl (S:=Nat) 3 (λL1 k=>(57,.v (.oi k))::(10,.v (.one (.bool ((O.take k).any (λx=>decide (x.id=p.id))))))::L1) (λ_=>[.row false 76 5 (Ra O),.row false 135 7 (He (O.map Pt.nrm)),.blk 76 [pl p.c.x,pl p.c.y,sg p.c.d,mg p.c.d,.int .i64 p.id]]) (λk=>O.length-k) (λk=>k<=O.length) 0 (Qh _) rfl rfl λk hk=>?_
   by_cases hk2:k<O.length
   ·obtain⟨x,hx⟩:=gxE (l:=O) (i:=k) hk2;have ha:=Qfv (f:=λx=>decide (x.id=p.id)) hx;cases hb:(O.take k).any (λx=>decide (x.id=p.id))with
    |
     true =>
     rw[hb,Wc]at ha;exact go tt [.T,.g 61 true rfl] rfl (by simp[Ge];omega) (rd (k+1) (by omega) hk2 (by rw[ha];rfl))
    |
     false =>
     rw[hb,J1]at ha;exact go tt [.T,.g 61 false rfl,.i k,.x (Re hx)] rfl (by simp[Ge,Ei];omega) (rd (k+1) (by omega) hk2 (by rw[ha];rfl))
   have hk3:O.take k=O:=Qo (by omega);rw[hk3];cases hb:O.any (λx=>decide (x.id=p.id))with
   |
    true =>
    refine Fg [.F,.f rfl] rfl ?_;exact rd (i+1) (by omega) h1 (by rw[hin hb];rfl)
   |
    false =>
    have cf:=Qhb (k:=p.c) (id:=p.id) (by rw[hp];exact Qt9 (by decide) z);have hm1:∀y∈[Pz p],y.length=5:=λy hy=>by rw[Qp.1 hy];rfl
    have hm2:∀y∈[FX p.nrm],y.length=7:=λy hy=>by rw[Qp.1 hy];rfl
    have e1:Ra (O++[p])=Ra O++[Pz p]:=by simp[Ra]
    have e2:He ((O++[p]).map Pt.nrm)=He (O.map Pt.nrm)++[FX p.nrm]:=by simp[He]
    refine go tt [.F,.t rfl,.s (sz:=5) hm1,.k cf,.s (sz:=7) hm2] rfl (by simp[Ge,Ei,hrl];omega) ?_;exact rd (i+1) (by omega) h1 (by rw[hout hb,e1,e2];rfl)
  ·rw[hend (λh=>h2 h.2)];rw[hend (λh=>h2 h.2)]at h2;have Ei:=P8 (IC 4 20 zs);exact Fj [] [0,1] [.g 16 true Fq,.F] rfl
 ·rw[hend (λh=>h1 h.1)];exact Fj [] [0,1] [.g 16 false Fp,.f rfl] rfl

abbrev rgm(m:Pt×Pt):Fy:=FX m.1++FX m.2
def VT(l:List (Pt×Pt)):Fz:=l.map rgm
theorem JV(l:List (Pt×Pt)):(VT l).length=l.length:=by simp[VT]
theorem RZ(l:List (Pt×Pt)):∀c∈VT l,c.length=14:=λc hc=>by obtain⟨x,_,rfl⟩:=Zc.1 hc;rfl
abbrev Qxz:Pt:=⟨⟨[],[],0⟩,0⟩
def YK(bt:Pt->Pt->Bool):Nat->List Pt->Pt×List (Pt×Pt)
 | 0,l=>(l.headD Qxz,[])
 |
  k+1,l=>if l.length<=1 then(l.headD Qxz,[])else
  if bt (YK bt k (l.take ((l.length+1) / 2))).1 (YK bt k (l.drop ((l.length+1) / 2))).1=true
  then((YK bt k (l.take ((l.length+1) / 2))).1,((YK bt k (l.take ((l.length+1) / 2))).2++(YK bt k (l.drop ((l.length+1) / 2))).2)++[((YK bt k (l.take ((l.length+1) / 2))).1,(YK bt k (l.drop ((l.length+1) / 2))).1)])
  else((YK bt k (l.drop ((l.length+1) / 2))).1,((YK bt k (l.take ((l.length+1) / 2))).2++(YK bt k (l.drop ((l.length+1) / 2))).2)++[((YK bt k (l.drop ((l.length+1) / 2))).1,(YK bt k (l.take ((l.length+1) / 2))).1)])
theorem UH{l:List Pt}{k:Nat}(h2:¬l.length<=1)(hk:l.length<=k+1):(l.take ((l.length+1) / 2)).length<=k/\(l.drop ((l.length+1) / 2)).length<=k/\0<(l.take ((l.length+1) / 2)).length/\0<(l.drop ((l.length+1) / 2)).length/\(l.take ((l.length+1) / 2)).length+(l.drop ((l.length+1) / 2)).length=l.length:=by
 rw[Qz,Jq];omega
theorem UK(bt:Pt->Pt->Bool):∀(k:Nat) (l:List Pt),0<l.length->l.length≤k->(YK bt k l).1∈l/\(∀m∈(YK bt k l).2,m.1∈l/\m.2∈l)/\(YK bt k l).2.length+1=l.length
 | 0,l,h0,hk=>by omega
 |
  k+1,l,h0,hk=>by
  by_cases h1:l.length<=1
  ·obtain⟨p,rfl⟩:=Jw.1 (show l.length=1 by omega);refine⟨by simp[YK],λm hm=>by simp[YK]at hm,rfl⟩
  ·obtain⟨k1,k2,k3,k4,k5⟩:=UH h1 hk;obtain⟨a1,a2,a3⟩:=UK bt k _ k3 k1;obtain⟨b1,b2,b3⟩:=UK bt k _ k4 k2;simp only[YK,if_neg h1]
   split
   all_goals
    refine⟨?_,λm hm=>?_,by simp only[Za,Jr];omega⟩
    ·first|exact Qq a1|exact Q9 b1
    ·rcases Qr.1 hm with hm|hm
     ·rcases Qr.1 hm with hm|hm
      ·exact⟨Qq (a2 m hm).1,Qq (a2 m hm).2⟩
      ·exact⟨Q9 (b2 m hm).1,Q9 (b2 m hm).2⟩
     ·rw[Qp.1 hm]
      first|exact⟨Qq a1,Q9 b1⟩|exact⟨Q9 b1,Qq a1⟩
theorem Qqh{l m:Fz}(h:l=m):TV.one (LV.row l)=.one (.row m):=h ▸ rfl
end Orr
namespace Orr
open Go Go.Proofs Tryz Orq
set_option maxRecDepth 10000
def Ch(sg:Ft->Int)(a b:Pt):Bool:=if Hj sg (Hf b.c a.c)≠0 then decide (0<Hj sg (Hf b.c a.c))else if Hj sg (Hg b.c a.c)≠0 then decide (0<Hj sg (Hg b.c a.c))else decide (a.id<b.id)
theorem Qdd{a b:Pt}{T:Ti}(ha:Sc a.c)(hb:Sc b.c)(hq:RT T):Fo 178 [.agg (FX a),.agg (FX b),.agg (T.tl)] [.one (.bool (Ch T.sg a b))]:=by
 have c1:=hq.a (p:=Hf b.c a.c) (Cy hb ha).dp;have c2:=hq.a (p:=Hg b.c a.c) (Cz hb ha).dp;by_cases h1:Hj T.sg (Hf b.c a.c)≠0
 ·exact Fi func178 rfl [.k (QM hb ha),.k c1,.t (decide_eq_true h1)] rfl (by unfold Ch;rw[if_pos h1]) trivial
 by_cases h2:Hj T.sg (Hg b.c a.c)≠0
 ·exact Fi func178 rfl [.k (QM hb ha),.k c1,.f (decide_eq_false h1),.k (QN hb ha),.k c2,.t (decide_eq_true h2)] rfl (by unfold Ch;rw[if_neg h1,if_pos h2]) trivial
 ·exact Fi func178 rfl [.k (QM hb ha),.k c1,.f (decide_eq_false h1),.k (QN hb ha),.k c2,.f (decide_eq_false h2)] rfl (by unfold Ch;rw[if_neg h1,if_neg h2]) trivial
theorem YF{T:Ti}(hq:RT T):∀(k:Nat) (l:List Pt),0<l.length->l.length≤k->l.length≤1000->(∀p∈l,Sc p.c)->Fo 68 [.one (.row (He l)),.agg (T.tl)] [.agg (FX (YK (Ch T.sg) k l).1),.one (.row (VT (YK (Ch T.sg) k l).2))]
 | 0,l,h0,hk,_,_=>by omega
 |
  k+1,l,h0,hk,hn,hl=>by
  have hcl:=Rr l;by_cases h1:l.length<=1
  ·obtain⟨p,rfl⟩:=Jw.1 (show l.length=1 by omega);exact Fi func68 rfl [.t rfl,.x (G0 (l:=[p]) (i:=0) rfl)] rfl
  ·obtain⟨k1,k2,k3,k4,k5⟩:=UH h1 hk;obtain⟨a1,a2,a3⟩:=UK (Ch T.sg) k _ k3 k1;obtain⟨b1,b2,b3⟩:=UK (Ch T.sg) k _ k4 k2;have c1:=YF hq k (l.take ((l.length+1) / 2)) k3 k1 (by omega) λp hp=>hl p (Qq hp)
   have c2:=YF hq k (l.drop ((l.length+1) / 2)) k4 k2 (by omega) λp hp=>hl p (Q9 hp)
   have hA:=hl _ (Qq a1);have hB:=hl _ (Q9 b1);have cb:=Qdd hA hB hq;have e1:(He l).take ((l.length+1) / 2)=He (l.take ((l.length+1) / 2)):=by simp[He,Vs]
   have e2:(He l).drop ((l.length+1) / 2)=He (l.drop ((l.length+1) / 2)):=by simp[He,Wu]
   have htd:((l.length:Int)+1).tdiv 2=(((l.length+1) / 2:Nat):Int):=rfl;have h7:=eq_true (p:=∀z,z∈He l->z.length=ti135.sz) (JK l);simp only[YK,if_neg h1];generalize YK (Ch T.sg) k (l.take ((l.length+1) / 2))=A at *;generalize YK (Ch T.sg) k (l.drop ((l.length+1) / 2))=B at *;have g1:=JV A.2;have g2:=JV B.2;have gap:∀m,VT (A.2++B.2++[m])=(VT A.2++VT B.2)++[rgm m]:=λm=>by simp[VT]
   by_cases hb:Ch T.sg A.1 B.1=true
   ·rw[if_pos hb];dsimp only;rw[gap];exact Fi func68 rfl [.F,.r 21 (eI (b:=(((l.length+1) / 2:Nat):Int)) (by rw[hcl];rfl)),.i ((l.length+1) / 2),.r 25 (Qqh e1),.k c1,.i ((l.length+1) / 2),.r 33 (Qqh e2),.k c2,.s (sz:=14) (RZ A.2),.s (sz:=14) (RZ B.2),.k cb,.t hb,.s (sz:=14) (l:=[rgm (A.1,B.1)]) (λc hc=>by rw[Qp.1 hc];rfl)] rfl rfl (by simp[Ge,Rr,JV,h7];omega)
   ·have hb:Ch T.sg A.1 B.1=false:=by simpa using hb
    rw[if_neg (by rw[hb];decide)];dsimp only;rw[gap];exact Fi func68 rfl [.F,.r 21 (eI (b:=(((l.length+1) / 2:Nat):Int)) (by rw[hcl];rfl)),.i ((l.length+1) / 2),.r 25 (Qqh e1),.k c1,.i ((l.length+1) / 2),.r 33 (Qqh e2),.k c2,.s (sz:=14) (RZ A.2),.s (sz:=14) (RZ B.2),.k cb,.f hb,.s (sz:=14) (l:=[rgm (B.1,A.1)]) (λc hc=>by rw[Qp.1 hc];rfl)] rfl rfl (by simp[Ge,Rr,JV,h7];omega)
end Orr
namespace Orq
open Orr Go
theorem UG{a b c d:Crv}(ha:Sc a)(hb:Sc b)(hc:Sc c)(hd:Sc d):Cp (H6 a b c d):=by
 have lr:∀{a b:Crv},Sc a->Sc b->(Hg a b).length<=3/\(Hf a b).length<=3:=λ{a b} ha hb=>by
  have:=Ml (Gs b.x a.d) (Gs a.x b.d);have:=Gz b.x a.d;have:=Gz a.x b.d;have:=Ml (Gs b.y a.d) (Gs a.y b.d);have:=Gz b.y a.d;have:=Gz a.y b.d;have:=ha.c.lx;have:=hb.c.lx;have:=ha.c.ly;have:=hb.c.ly;unfold Hg Hf;omega
 have ap:∀{a b:Crv},Sc a->Sc b->(Tp a b).length<=5/\Bd 517 (Tp a b):=λ{a b} ha hb=>by
  obtain⟨l1,l2⟩:=lr ha hb;have b1:Bd 257 (Hg a b):=Dd (G9 hb.c.x ha.c.d) (G9 ha.c.x hb.c.d);have b2:Bd 257 (Hf a b):=Dd (G9 hb.c.y ha.c.d) (G9 ha.c.y hb.c.d);have q1:=Sf (u:=2) b1 b1 (by omega);have q2:=Sf (u:=2) b2 b2 (by omega);refine⟨?_,Gd (I8 q1 q2) (by omega)⟩;have:=Ex (Gq (Hg a b) (Hg a b)) (Gq (Hf a b) (Hf a b));have:=Tc (Hg a b) (Hg a b);have:=Tc (Hf a b) (Hf a b);unfold Tp;omega
 have dd:∀{a b:Crv},Sc a->Sc b->Gy ((a.d*b.d)*(a.d*b.d))<=512:=λ{a b} ha hb=>by
  have:=Hn a.d b.d;have:=Hn (a.d*b.d) (a.d*b.d);have:=ha.c.d;have:=hb.c.d;omega
 obtain⟨l1,b1⟩:=ap hc hd;obtain⟨l2,b2⟩:=ap ha hb;refine⟨Gk _ _,?_,Gd (Dd (G9 b1 (dd ha hb)) (G9 b2 (dd hc hd))) (by omega)⟩;have:=Ml (Gs (Tp c d) ((a.d*b.d)*(a.d*b.d))) (Gs (Tp a b) ((c.d*d.d)*(c.d*d.d)));have:=Gz (Tp c d) ((a.d*b.d)*(a.d*b.d));have:=Gz (Tp a b) ((c.d*d.d)*(c.d*d.d));unfold H6;omega
def zX(m:Pt×Pt)(q:Rat):Rat:=(px m.2 q-px m.1 q)*(px m.2 q-px m.1 q)+(py m.2 q-py m.1 q)*(py m.2 q-py m.1 q)
theorem Qox{a b c d:Pt}(ha:Sc a.c)(hb:Sc b.c)(hc:Sc c.c)(hd:Sc d.c)(q:Rat):Gt (Gf (H6 a.c b.c c.c d.c) q)=Gt (zX (c,d) q-zX (a,b) q):=by
 have lG:∀{z:Int},0<z->(0:Rat)<(z:Rat):=λ{z} h=>by exact_mod_cast h
 have pa:=lG ha.n.2.2.1;have pb:=lG hb.n.2.2.1;have pc:=lG hc.n.2.2.1;have pd:=lG hd.n.2.2.1;have xx:∀{p:Pt},0<(p.c.d:Rat)->Gf p.c.x q=px p q*(p.c.d:Rat)/\Gf p.c.y q=py p q*(p.c.d:Rat):=λ{p} h=>by
  unfold px py;exact⟨(Zb (by grind)).symm,(Zb (by grind)).symm⟩
 obtain⟨xa,ya⟩:=xx pa;obtain⟨xb,yb⟩:=xx pb;obtain⟨xc,yc⟩:=xx pc;obtain⟨xd,yd⟩:=xx pd;have e:Gf (H6 a.c b.c c.c d.c) q=(((a.c.d:Rat)*b.c.d)*((a.c.d:Rat)*b.c.d))*(((c.c.d:Rat)*d.c.d)*((c.c.d:Rat)*d.c.d))*(zX (c,d) q-zX (a,b) q):=by
  unfold H6 Tp Hg Hf zX;simp only[Bp,Td,Mz,Gn,X8];rw[xa,xb,xc,xd,ya,yb,yc,yd];grind
 rw[e,L8];have h1:=Xj pa pb;have h2:=Xj pc pd;exact Xj (Xj h1 h1) (Xj h2 h2)
def Qno(l:List Pt):Fu:=l.flatMap λa=>l.flatMap λb=>l.flatMap λc=>l.map λd=>H6 a.c b.c c.c d.c
theorem Qfq{l:List Pt}{a b c d:Pt}(ha:a∈l)(hb:b∈l)(hc:c∈l)(hd:d∈l):H6 a.c b.c c.c d.c∈Qno l :=
 Xb.2 ⟨a,ha,Xb.2 ⟨b,hb,Xb.2 ⟨c,hc,Zc.2 ⟨d,hd,rfl⟩⟩⟩⟩
theorem Qnp{l:List Pt}(hl:∀p∈l,Sc p.c):∀p∈Qno l,Cp p:=λp hp=>by
 obtain⟨a,ha,hp⟩:=Xb.1 hp;obtain⟨b,hb,hp⟩:=Xb.1 hp;obtain⟨c,hc,hp⟩:=Xb.1 hp;obtain⟨d,hd,rfl⟩:=Zc.1 hp;exact UG (hl a ha) (hl b hb) (hl c hc) (hl d hd)
theorem Qap{l:List Pt}(hl:∀p∈l,Sc p.c){a:Tm}(ha:Va a):∃y,Hk a y=-1/\∀q,Hk a q=-1->q≤y->∀s m:Pt×Pt,s.1∈l->s.2∈l->m.1∈l->m.2∈l->Hj (Hi a) (H6 s.1.c s.2.c m.1.c m.2.c)=Gt (zX m q-zX s q):=by
 obtain⟨y,y1,y2⟩:=GN ha (Qno l) λp hp=>(Qnp hl p hp).dp
 refine⟨y,y1,λq q1 q2 s m h1 h2 h3 h4=>?_⟩;rw[y2 q q1 q2 _ (Qfq h1 h2 h3 h4),Qox (hl _ h1) (hl _ h2) (hl _ h3) (hl _ h4)]
def YX(f:Pt×Pt->Rat)(P:List (Pt×Pt))(r:Pt×Pt):Prop:=∃P1 P2,P=P1++r::P2/\(∀m∈P1,f r<f m)/\∀m∈P2,f r≤f m
theorem Qoy{f:Pt×Pt->Rat}{P:List (Pt×Pt)}{r m:Pt×Pt}(h:YX f P r):YX f (P++[m]) (if f m<f r then m else r):=by
 obtain⟨P1,P2,rfl,h1,h2⟩:=h;by_cases e:f m<f r
 ·rw[if_pos e];refine⟨P1++r::P2,[],rfl,λx hx=>?_,λx hx=>by cases hx⟩;rcases Qr.1 hx with hx|hx
  ·have:=h1 x hx;grind
  ·rcases Qj.1 hx with rfl|hx
   ·exact e
   ·have:=h2 x hx;grind
 ·rw[if_neg e];refine⟨P1,P2++[m],by simp,h1,λx hx=>?_⟩;rcases Qr.1 hx with hx|hx
  ·exact h2 x hx
  ·rw[Qp.1 hx];grind
theorem Qas{f:Pt×Pt->Rat}{sg:Ft->Int}{l:List Pt}(hg:∀s m:Pt×Pt,s.1∈l->s.2∈l->m.1∈l->m.2∈l->Hj sg (H6 s.1.c s.2.c m.1.c m.2.c)=Gt (f m-f s)):∀(ps P:List (Pt×Pt)) (s:Pt×Pt),s.1∈l/\s.2∈l->(∀m∈ps,m.1∈l/\m.2∈l)->YX f P s->YX f (P++ps) (Ta sg s ps)
 | [],P,s,_,_,h=>by rw[Xk];exact h
 |
  m::ps,P,s,hs,hp,h=>by
  rw[Ar];have hm:=hp m (by simp);have e:Nu sg s m=if f m<f s then m else s:=by
   unfold Nu;rw[hg s m hs.1 hs.2 hm.1 hm.2];have:=Hd (f m-f s);by_cases h:f m<f s
   ·rw[if_pos h,if_pos (by grind)]
   ·rw[if_neg h,if_neg (by grind)]
  have hn:(Nu sg s m).1∈l/\(Nu sg s m).2∈l:=by
   rcases KP sg s m with e|e <;> rw[e] <;> assumption
  have:=Qas hg ps (P++[m]) (Nu sg s m) hn (λx hx=>hp x (Qi _ hx)) (by rw[e];exact Qoy h);rwa[Zk]at this
theorem dO(a b:Pt)(l:List Pt):∃P,Hz (a::b::l)=(a,b)::P:=⟨_,rfl⟩
theorem Qpp{f:Pt×Pt->Rat}{sg:Ft->Int}{a b:Pt}{l:List Pt}(hg:∀s m:Pt×Pt,s.1∈a::b::l->s.2∈a::b::l->m.1∈a::b::l->m.2∈a::b::l->Hj sg (H6 s.1.c s.2.c m.1.c m.2.c)=Gt (f m-f s)):YX f (Hz (a::b::l)) (Ta sg (a,b) (Hz (a::b::l))):=by
 obtain⟨P,hP⟩:=dO a b l;have hm:=Ej (a::b::l).length (a::b::l);have hm:∀m∈Hz (a::b::l),m.1∈a::b::l/\m.2∈a::b::l:=hm;rw[hP]at hm ⊢;have h:=Qas hg P [(a,b)] (a,b) (hm (a,b) (by simp)) (λm h=>hm m (by simp[h])) ⟨[],[],rfl,λm h=>(by cases h),λm h=>(by cases h)⟩;rw[Ar];have e:Nu sg (a,b) (a,b)=(a,b):=by rcases KP sg (a,b) (a,b)with e|e <;> exact e
 rw[e];exact h
end Orq
namespace Orr
open Go Go.Proofs Tryz Orq
set_option maxRecDepth 10000
theorem sC(M:List Pt):To 0 M=[]:=by cases M <;> rfl
def prs(M:List Pt)(x:Pt)(i j:Nat):List (Pt×Pt):=To i M++((M.drop (i+1)).take j).map (λy=>(x,y))
theorem Qkp(M:List Pt)(x:Pt)(i:Nat):prs M x i 0=To i M:=by rw[prs,Vy,Jj,Xk]
theorem Qko{M:List Pt}{i j:Nat}{x y:Pt}(hy:(M.drop (i+1))[j]? = some y):prs M x i (j+1)=prs M x i j++[(x,y)]:=by
 unfold prs;rw[X3,hy,Jl,Xx,Zk];rfl
theorem Qp6{M:List Pt}{i j:Nat}{x:Pt}(hx:M[i]? = some x)(hj:(M.drop (i+1)).length<=j):prs M x i j=To (i+1) M:=by
 unfold prs;rw[Qo hj,Ey M i x hx]
theorem Qp7{M:List Pt}{i j:Nat}{x:Pt}(hx:M[i]? = some x):∀m∈prs M x i j,m.1∈M/\m.2∈M:=λm hm=>by
 rcases Qr.1 hm with h|h
 ·exact Ej _ _ m h
 ·obtain⟨y,hy,rfl⟩:=Zc.1 h;exact⟨Qa hx,Q9 (Qq hy)⟩
end Orr
namespace Orr
open Go Go.Proofs Tryz
set_option maxRecDepth 10000
theorem BF{p q:Ft}(hp:Bd 19000000 p)(hq:Bd 19000000 q)(hlp:p.length<=1000000)(hlq:q.length<=1000000):Fo 275 [.one (rp (zp p)),.one (rp (zp q))] [.one (rp (zp (Ms p q)))]:=by
 have h:=bR (JA (Gd hp (by decide)) (by decide)) (JA (Gd hq (by decide)) (by decide)) (by rw[Ma];exact hlp) (by rw[Ma];exact hlq);rwa[Qcb]at h
theorem xG{a b:Crv}(ha:Rs a)(hb:Rs b):Bd 400008 (Tp a b)/\(Tp a b).length<=31:=by
 have h1:=jQ ha hb;have h2:=xK ha hb;have:=kY h1.2;have:=kY h2.2;exact⟨Gd (I8 (iJ h1.1 h1.2) (iJ h2.1 h2.2)) (by omega),Qe (Ex _ _) (by omega)⟩
theorem gI{a b:Crv}(ha:Rs a)(hb:Rs b):Fo 277 [.agg (Nn a),.agg (Nn b)] [.one (rp (zp (Tp a b)))]:=by
 have h1:=jQ ha hb;have h2:=xK ha hb;have l1:=kY h1.2;have l2:=kY h2.2;exact Fi func277 rfl [.k (gR ha hb),.k (gK ha hb),.k (Ou (p:=Hg a b) (q:=Hg a b) (by omega) (by omega) h1.1 h1.1 (by decide)),.k (Ou (p:=Hf a b) (q:=Hf a b) (by omega) (by omega) h2.1 h2.1 (by decide)),.k (BF (p:=Gq (Hg a b) (Hg a b)) (q:=Gq (Hf a b) (Hf a b)) (Gd (iJ h1.1 h1.2) (by decide)) (Gd (iJ h2.1 h2.2) (by decide)) (by omega) (by omega))] rfl
theorem Qmn{x:Int}(h:x≠0):Gh [x]:=by unfold Gh;simp[trim,h]
theorem Qkq{x y:Int}(hx:x≠0)(hy:y≠0):Gs [x] y=[x*y]:=by
 have h:=Qmn (X6 hx hy);exact h
theorem BU{x y:Int}(hx:x≠0)(hy:y≠0)(bx:Gy x<=9000000)(b_y:Gy y<=9000000):Fo 259 [.one (rp (zp [x])),.one (rp (zp [y]))] [.one (rp (zp [x*y]))]:=by
 have h:=UU (p:=[x]) (d:=y) (Qmn hx) hy (Qf3 bx) b_y (by show 1<=1000;decide);rwa[Qkq hx hy]at h
theorem Qa0{a b:Int}(ha:Gy a<=100000)(hb:Gy b<=100000):Gy (a*b)<=200000/\Gy ((a*b)*(a*b))<=400000:=by
 have h1:=Hn a b;have h2:=Hn (a*b) (a*b);omega
theorem NS(a b:Crv):Gh (Tp a b):=Gk _ _
theorem bE{a b c d:Crv}(ha:Rs a)(hb:Rs b)(hc:Rs c)(hd:Rs d):Fo 179 [.agg (Nn a),.agg (Nn b),.agg (Nn c),.agg (Nn d)] [.one (rp (zp (H6 a b c d)))]:=by
 have h1:=xG hc hd;have h2:=xG ha hb;have e1:=Qa0 ha.c.d hb.c.d;have e2:=Qa0 hc.c.d hd.c.d;have n1:=X6 ha.dn hb.dn;have n2:=X6 hc.dn hd.dn;have m1:=BU ha.dn hb.dn (Qe ha.c.d (by decide)) (Qe hb.c.d (by decide));have m2:=BU hc.dn hd.dn (Qe hc.c.d (by decide)) (Qe hd.c.d (by decide));obtain⟨x,hx⟩:=nmE (a.d*b.d);obtain⟨y,hy⟩:=nmE (c.d*d.d);have eF:H6 a b c d=P7 (Gs (Tp c d) (x*x)) (Gs (Tp a b) (y*y)):=by rw[hx,hy];rfl
 rw[eF];rw[<-hx]at e1 n1 m1;rw[<-hy]at e2 n2 m2;have l1:=Gz (Tp c d) (x*x);have l2:=Gz (Tp a b) (y*y);have m3:=BU n1 n1 (Qe e1.1 (by decide)) (Qe e1.1 (by decide));have m4:=BU n2 n2 (Qe e2.1 (by decide)) (Qe e2.1 (by decide));have m5:=UU (p:=Tp c d) (d:=x*x) (NS c d) (X6 n1 n1) (Gd h1.1 (by decide)) (Qe e1.2 (by decide)) (by omega);have m6:=UU (p:=Tp a b) (d:=y*y) (NS a b) (X6 n2 n2) (Gd h2.1 (by decide)) (Qe e2.2 (by decide)) (by omega);have m7:=yL (p:=Gs (Tp c d) (x*x)) (q:=Gs (Tp a b) (y*y)) (Gd (G9 h1.1 e1.2) (by decide)) (Gd (G9 h2.1 e2.2) (by decide)) (by omega) (by omega);exact Fi func179 rfl [.k (Dm ha),.k (Dm hb),.k (Dm hc),.k (Dm hd),.k m1,.k m2,.k (gI hc hd),.k m3,.k m5,.k (gI ha hb),.k m4,.k m6,.k m7] rfl
abbrev Qcj:Fy:=[.nils,.nils,.nils,.nils,.bool false,.nils,.int .i64 0]
abbrev Qln:Fy:=[.row [],.row [],.row [],.row [],.bool false,.row [],.int .i64 0]
end Orr
namespace Orr
open Go Go.Proofs Tryz Orq
set_option maxRecDepth 10000
theorem gG{a b c d:Crv}(ha:Sc a)(hb:Sc b)(hc:Sc c)(hd:Sc d):Fo 179 [.agg (Nn a),.agg (Nn b),.agg (Nn c),.agg (Nn d)] [.one (rp (zp (H6 a b c d)))]:=bE ha.rs hb.rs hc.rs hd.rs
theorem bD{a b c d:Crv}{T:Ti}(ha:Sc a)(hb:Sc b)(hc:Sc c)(hd:Sc d)(hq:RT T):Fo 16 [.one (rp (zp (H6 a b c d))),.agg T.tl] [.oi (Hj T.sg (H6 a b c d))]:=hq.a (UG ha hb hc hd).dp
theorem GY{l:List Pt}{T:Ti}(hn:l.length<=1000)(h:l.length<2):Fo 70 [.one (.row (He l)),.agg (T.tl)] [.agg Qln,.agg Qln,.one (.bool false)]:=by
 have c1:=BG (l:=l) (by omega);have hML:(He (Hh Tv l)).length=l.length:=by rw[Rr,P0]
 exact Fi func70 rfl [.k c1,.T] rfl
theorem gW{l:List Pt}{T:Ti}{a b:Pt}{M':List Pt}(hl:∀p∈l,Sc p.c)(hn:l.length≤1000)(hq:RT T)(hM:Hh Tv l=a::b::M'):Fo 70 [.one (.row (He l)),.agg (T.tl)] [.agg (FX (Ta (T.sg) (a,b) (Hz (a::b::M'))).1),.agg (FX (Ta (T.sg) (a,b) (Hz (a::b::M'))).2),.one (.bool true)]:=by
 have c1:=BG (l:=l) (by omega);have hML:(Hh Tv l).length=l.length:=P0 _ _;have hMl:∀p∈Hh Tv l,Sc p.c:=λp hp=>hl p (P5.1 hp)
 have hx0:(Hh Tv l)[0]? = some a:=by rw[hM];rfl
 have hx1:(Hh Tv l)[1]? = some b:=by rw[hM];rfl
 have hM2:2<=(Hh Tv l).length:=by rw[hM];simp
 rw[<-hM];obtain⟨M,hM⟩:=nmE (Hh Tv l);rw[<-hM]at c1 hML hMl hx0 hx1 hM2 ⊢;have hcl:=Rr M;have hs:(a,b).1∈M/\(a,b).2∈M:=⟨Qa hx0,Qa hx1⟩;have hsc:∀ps:List (Pt×Pt),(∀m∈ps,m.1∈M/\m.2∈M)->Sc (Ta (T.sg) (a,b) ps).1.c/\Sc (Ta (T.sg) (a,b) ps).2.c:=λps h=>by
  obtain⟨h1,h2⟩:=MO (T.sg) ps (a,b) hs h;exact⟨hMl _ h1,hMl _ h2⟩
 refine Sp func70 rfl ?_;refine go tt [.k c1,.F,.x (G0 hx0),.x (G0 hx1)] rfl (by simp[Ge] <;> omega) ?_;refine lp (S:=Nat) 5 (λL1 i=>(26,.v (.oi i))::L1) (λi=>[.blk 36 (T.tl),.blk 135 Qcj,.blk 135 Qcj,.blk 135 (FX (Ta (T.sg) (a,b) (To i M)).1),.blk 135 (FX (Ta (T.sg) (a,b) (To i M)).2)]) (λi=>M.length-i) (λi=>i<=M.length) 0 (Qh _) rfl (λ_ _=>rfl) (by rw[sC];rfl) λi hi=>?_
 by_cases hlt:i<M.length
 ·obtain⟨x,hx⟩:=gxE (l:=M) (i:=i) hlt;rw[<-Qkp M x i];refine go tt [.T,.r 30 (eI (b:=((i+1:Nat):Int)) (by simp))] rfl (by simp[Ge] <;> omega) ?_;refine Fl (S:=Nat) 5 (λL1 j=>(10,.v (.oi ((i+1+j:Nat):Int)))::L1) (λj=>[.blk 36 (T.tl),.blk 135 Qcj,.blk 135 Qcj,.blk 135 (FX (Ta (T.sg) (a,b) (prs M x i j)).1),.blk 135 (FX (Ta (T.sg) (a,b) (prs M x i j)).2)]) (λj=>(M.drop (i+1)).length-j) (λj=>j<=(M.drop (i+1)).length) 0 (Qh _) rfl rfl λj hj=>?_
  have hdl:(M.drop (i+1)).length=M.length-(i+1):=Jq;by_cases hltj:j<(M.drop (i+1)).length
  ·obtain⟨y,hy⟩:=gxE (l:=(M.drop (i+1))) (i:=j) hltj;have hy':M[i+1+j]? = some y:=by rw[<-hy,Xf]
   obtain⟨s1,s2⟩:=hsc (prs M x i j) (Qp7 hx);have hxs:=hMl x (Qa hx);have hys:=hMl y (Qa hy');have ef:=Qko (x:=x) hy;have en1:=kC (T.sg) (a,b) (prs M x i j) (x,y);rw[<-ef]at en1;obtain⟨s,hs'⟩:=nmE (Ta (T.sg) (a,b) (prs M x i j));rw[<-hs']at s1 s2 en1 ⊢;have cF:=gG s1 s2 hxs hys;have cA:=bD s1 s2 hxs hys hq;have ep:Hj T.sg (H6 s.1.c s.2.c x.c y.c)<0->Nu (T.sg) s (x,y)=(x,y):=λh=>if_pos h
   have en:¬Hj T.sg (H6 s.1.c s.2.c x.c y.c)<0->Nu (T.sg) s (x,y)=s:=λh=>if_neg h
   generalize H6 s.1.c s.2.c x.c y.c=F at *;by_cases hg:Hj T.sg F<0
   ·have e:=ep hg;rw[e]at en1;refine go tt [.T,.x (G0 hx),.x (G0 hy'),.k cF,.k cA,.t (decide_eq_true hg),.x (G0 hx),.x (G0 hy')] rfl (by simp[Ge] <;> omega) ?_;exact rd (j+1) (by omega) hltj (by rw[en1];rfl)
   ·have e:=en hg;rw[e]at en1;refine go tt [.T,.x (G0 hx),.x (G0 hy'),.k cF,.k cA,.f (decide_eq_false hg)] rfl (by simp[Ge] <;> omega) ?_;exact rd (j+1) (by omega) hltj (by rw[en1];rfl)
  ·have e:=Qp6 hx (Vi hltj);rw[e];refine go tt [.F] rfl (by simp[Ge] <;> omega) ?_;exact rd (i+1) (by omega) hlt rfl
 ·obtain rfl:i=M.length:=by omega
  exact Fh [.F] rfl
abbrev zrw(r:Fu):Fz:=r.map λp=>[rp (zp p)]
def yV(M:List Fu):Fz:=M.map λr=>[.row (zrw r)]
theorem fZ(M:List Fu):(yV M).length=M.length:=by simp[yV]
theorem fY{r:Fu}{i:Nat}{p:Ft}(h:r[i]? = some p):(zrw r)[i]? = some [rp (zp p)]:=Tz h
theorem CL{l:List Fu}{i:Nat}{r:Fu}(h:l[i]? = some r):(yV l)[i]? = some [.row (zrw r)]:=Tz h
theorem cC{α:Type}{R:List α}{j k:Nat}{x:α}(h:R[j]? = some x):(R.take (j+1)).eraseIdx k=if j=k then(R.take j).eraseIdx k else(R.take j).eraseIdx k++[x]:=by
 have hj:=(Qd.1 h).1;have hl:(R.take j).length=j:=by rw[Qz];omega
 rw[X3,h,Jl];rcases Jz k j with hk|hk|hk
 ·rw[if_neg (by omega),List.eraseIdx_append_of_lt_length (by omega)]
 ·subst hk;rw[if_pos rfl,Wp (by omega),hl,Yl,Kv (l:=R.take k) (by omega)];show R.take k++[]=_;rw[Xk]
 ·rw[if_neg (by omega),Wp (by omega),hl,Kv (l:=[x]) (by simp;omega),Kv (by omega)]
def Tn(M:List Fu)(k:Nat):List Fu:=(M.drop 1).map (·.eraseIdx k)
theorem sK{M:List Fu}{i k:Nat}{R:Fu}(h:M[i]? = some R)(h0:0<i):Tn (M.take (i+1)) k=Tn (M.take i) k++[R.eraseIdx k]:=by
 have hi:=(Qd.1 h).1;unfold Tn;rw[X3,h,Jl,Kd (by rw[Qz];omega),Xx];rfl
theorem dC{M:List Fu}{i k:Nat}(hi:i<=M.length):(Tn (M.take i) k).length=i-1:=by
 unfold Tn;rw[List.length_map,List.length_drop,List.length_take];omega
theorem Qhd{M:List Fu}{k:Nat}(hn:M.length≤100)(hM:∀R∈M,R.length≤100):Fo 351 [.one (.row (yV M)),.oi 0,.oi k] [.one (.row (yV (Tn M k)))]:=by
 have hrl:=fZ M;refine Sp func351 rfl ?_;refine Ff [.o 7 29 1] rfl ?_;refine Fl (S:=Nat) 1 (λL1 i=>(13,.v (.oi i))::(7,.v (.one (.orow 0 1 none)))::L1) (λi=>[.row false 29 1 (yV (Tn (M.take i) k))]) (λi=>M.length-i) (λi=>i<=M.length) 0 (Qh _) rfl rfl λi hi=>?_
 have hml:(yV (Tn (M.take i) k)).length=i-1:=by rw[fZ,dC hi]
 by_cases hlt:i<M.length
 ·obtain⟨r,hr⟩:=gxE (l:=M) (i:=i) hlt;have hm:=hM r (Qa hr);have hql:(zrw r).length=r.length:=by simp
  by_cases h0:i=0
  ·subst h0;have e:Tn (M.take 1) k=Tn (M.take 0) k:=by unfold Tn;simp
   refine Ff [.T,.t rfl] rfl ?_ (by simp[Ge]);exact rd 1 (by omega) hlt (by rw[e];rfl)
  ·have e:=sK (k:=k) hr (by omega);refine go tt [.T,.F,.o 9 28 1,.x (CL hr)] rfl (by simp[Ge] <;> omega) ?_;refine Fl (S:=Nat) 2 (λL1 c=>(24,.v (.oi c))::(9,.v (.one (.orow 1 1 none)))::L1) (λc=>[.row false 29 1 (yV (Tn (M.take i) k)),.row false 28 1 (zrw ((r.take c).eraseIdx k))]) (λc=>r.length-c) (λc=>c<=r.length) 0 (Qh _) rfl rfl λc hc=>?_
   have hzl:((r.take c).eraseIdx k).length<=c:=by
    exact Qe (List.eraseIdx_sublist ..).length_le (by rw[Qz];omega)
   by_cases hcl:c<r.length
   ·obtain⟨p,hp⟩:=gxE (l:=r) (i:=c) hcl;have e2:=cC (k:=k) hp;by_cases hck:c=k
    ·rw[if_pos hck]at e2;refine go tt [.T,.F] rfl (by simp[Ge] <;> omega) ?_;exact rd (c+1) (by omega) hcl (by rw[e2];rfl)
    ·rw[if_neg hck]at e2;have hs1:∀y∈[[rp (zp p)]],y.length=1:=λy hy=>by rw[Qp.1 hy];rfl
     refine go tt [.T,.T,.x (CL hr),.x (fY hp),.s (sz:=1) hs1] rfl (by simp[Ge] <;> omega) ?_;exact rd (c+1) (by omega) hcl (by rw[e2];simp[zrw];rfl)
   ·obtain rfl:c=r.length:=by omega
    rw[Zd];have hs1:∀y∈[[LV.row (zrw (r.eraseIdx k))]],y.length=1:=λy hy=>by rw[Qp.1 hy];rfl
    refine Ff [.F] rfl ?_;refine gz 1 rfl rfl ?_;refine go tt [.s (sz:=1) hs1] rfl (by simp[Ge] <;> omega) ?_;exact rd (i+1) (by omega) hlt (by rw[e];simp[yV];rfl)
 ·obtain rfl:i=M.length:=by omega
  rw[Zd];exact Fh [.F] rfl
def QJ(k:Nat)(p:Ft):Ft:=if k % 2=1 then Nm p else p
def Im(f:List Fu->Ft)(M:List Fu):Nat->Ft
 | 0=>[]
 |k+1=>Ms (Im f M k) (QJ k (Gq ((M.getD 0 []).getD k []) (f (Tn M k))))
def Lj:Nat->List Fu->Ft
 | 0,_=>[1]
 |n+1,M=>Im (Lj n) M (n+1)
structure SqR(s:Nat)(ds:List Nat)(M:List (List (List Int))):Prop where
 l:M.length=ds.length
 w:∀r∈M,r.length=ds.length
 b:∀r∈M,∀p∈r,Bd s p
 n:∀r∈M,∀(j:Nat) (p:List Int),r[j]? = some p->p.length≤ds.getD j 0+1
theorem Ib:∀{ds:Fv} {k:Nat},k<ds.length->(ds.eraseIdx k).sum+ds.getD k 0=ds.sum
 | [],_,h=>by simp at h
 |d::ds,0,_=>by simp[Yi]
 |
  d::ds,k+1,h=>by
  have:=Ib (ds:=ds) (k:=k) (by simpa using h);simp only[List.eraseIdx_cons_succ,Kw,Q0];omega
theorem SqR.minor{s:Nat}{ds:Fv}{M:List Fu}(h:SqR s ds M){k:Nat}(hk:k<ds.length):SqR s (ds.eraseIdx k) (Tn M k):=by
 have hl:=h.l;unfold Tn;refine⟨by rw[Q5,Jq,J9 hk];omega,λr hr=>?_,λr hr p hp=>?_,λr hr j p hp=>?_⟩
 all_goals obtain⟨q,hq,rfl⟩:=Zc.1 hr
 all_goals have hq:=Q9 hq
 ·rw[J9 (by rw[h.w q hq];exact hk),J9 hk,h.w q hq]
 ·exact h.b q hq p (List.mem_of_mem_eraseIdx hp)
 ·rw[List.getElem?_eraseIdx]at hp;rw[Qc,List.getElem?_eraseIdx]
  split at hp <;> rename_i hj
  ·rw[if_pos hj,<-Qc];exact h.n q hq j p hp
  ·rw[if_neg hj,<-Qc];exact h.n q hq (j+1) p hp
theorem SqR.at{s:Nat}{ds:Fv}{M:List Fu}(h:SqR s ds M){k:Nat}(hk:k<ds.length):∃r p,M[0]? = some r/\r[k]? = some p/\(M.getD 0 []).getD k []=p/\Bd s p/\p.length<=ds.getD k 0+1:=by
 obtain⟨r,hr⟩:=gxE (l:=M) (i:=0) (by rw[h.l];omega);have hm:=Qa hr;obtain⟨p,hp⟩:=gxE (l:=r) (i:=k) (by rw[h.w r hm];exact hk);refine⟨r,p,hr,hp,?_,h.b r hm p (Qa hp),h.n r hm k p hp⟩;rw[Qc (l:=M),hr,V1,Qc,hp];rfl
theorem Qqy{k s:Nat}{p:Ft}(h:Bd s p):Bd s (QJ k p):=by
 unfold QJ;split
 ·exact XG h
 ·exact h
theorem Qlu(k:Nat)(p:Ft):(QJ k p).length<=p.length:=by
 unfold QJ;split
 ·exact Lo _
 ·exact Qn _
theorem LA{s B:Nat}{ds:Fv}{f:List Fu->Ft}{M:List Fu}(h:SqR s ds M)(hs:ds.sum<64)(hf:∀k,k<ds.length->Bd B (f (Tn M k))/\(f (Tn M k)).length<=(ds.eraseIdx k).sum+1):∀i,i<=ds.length->Bd (s+B+7+i) (Im f M i)/\(Im f M i).length<=ds.sum+1
 | 0,_=>⟨λz hz=>(by cases hz),Qh _⟩
 |
  i+1,hi=>by
  obtain⟨h2,h3⟩:=LA h hs hf i (by omega);obtain⟨r,p,_,_,e,b,l⟩:=h.at (k:=i) (by omega);obtain⟨f1,f2⟩:=hf i (by omega);have hd:=Ib (ds:=ds) (k:=i) (by omega);have hp1:Bd (s+B+7) (Gq p (f (Tn M i))):=Sf b f1 (Xg l (by omega));have hp2:=Tc p (f (Tn M i));have hp3:=Qlu i (Gq p (f (Tn M i)));simp only[Im];rw[e];exact⟨Gd (I8 h2 (Qqy hp1)) (by omega),Qe (Ex _ _) (by omega)⟩
theorem oL{s:Nat}:∀(n:Nat) (ds:Fv) (M:List Fu),ds.length=n->ds.sum<64->SqR s ds M->Bd (n*(s+20)+1) (Lj n M)/\(Lj n M).length<=ds.sum+1/\n<=9\/9<n
 | 0,ds,M,_,_,_=>.inl ⟨λz hz=>(by simp[Lj]at hz;subst hz;rw[Ym];decide),by simp[Lj],by omega⟩
 |
  n+1,ds,M,hl,hs,h=>by
  by_cases h9:9<n+1
  ·exact .inr h9
  have hsum:=λk (hk:k<ds.length)=>Ib (ds:=ds) (k:=k) hk
  have:=LA (f:=Lj n) (B:=n*(s+20)+1) h hs (λk hk=>by
   have hd:=hsum k hk;rcases oL n (ds.eraseIdx k) (Tn M k) (by rw[J9 hk];omega) (by omega) (h.minor hk)with h'|h'
   ·exact⟨h'.1,h'.2.1⟩
   ·omega) (n+1) (by omega)
  have e1:(n+1)*(s+20)=n*(s+20)+(s+20):=Xp ..;exact .inl ⟨Gd this.1 (by omega),this.2,by omega⟩
theorem bL{s:Nat}(hs:s<=1000000):∀(n:Nat) (ds:Fv) (M:List Fu),n<=4->ds.length=n->ds.sum<64->SqR s ds M->Fo 274 [.one (.row (yV M))] [.one (rp (zp (Lj n M)))]
 |
  0,ds,M,_,hl,_,h=>by
  have e:=Qg (h.l.trans hl);subst e;exact Fi func274 rfl [.t rfl,.k bM] rfl
 |
  n+1,ds,M,hn,hl,hd,h=>by
  have hrl:=fZ M;have hMl:=h.l;have ih:=λk (hk:k<ds.length)=>bL hs n (ds.eraseIdx k) (Tn M k) (by omega) (by rw[J9 hk];omega) (by have:=Ib (ds:=ds) (k:=k) hk;omega) (h.minor hk)
  have hb:n*(s+20)+1<=3*1000020+1:=Nat.add_le_add_right (Xi (by omega) (by omega)) 1;have hok:∀k,k<ds.length->Bd (n*(s+20)+1) (Lj n (Tn M k))/\(Lj n (Tn M k)).length<=(ds.eraseIdx k).sum+1:=λk hk=>by
   have hd':=Ib (ds:=ds) (k:=k) hk;rcases oL n (ds.eraseIdx k) (Tn M k) (by rw[J9 hk];omega) (by omega) (h.minor hk)with h'|h'
   ·exact⟨h'.1,h'.2.1⟩
   ·omega
  have hds:=LA (f:=Lj n) (B:=n*(s+20)+1) h hd hok;have cm:=λk=>Qhd (M:=M) (k:=k) (by omega) (λr hr=>by rw[h.w r hr];omega)
  show Fo 274 [.one (.row (yV M))] [.one (rp (zp (Im (Lj n) M (n+1))))];obtain⟨f,hf⟩:=nmE (Lj n);rw[<-hf]at hds hok ih ⊢;refine Sp func274 rfl ?_;refine Ff [.F,.z 3] rfl ?_;refine Fl (S:=Nat) 0 (λL1 i=>(13,.v (.oi i))::(3,.v (.one (rp (zp (Im f M i)))))::L1) (λ_=>[]) (λi=>M.length-i) (λi=>i<=M.length) 0 (Qh _) rfl rfl λi hi=>?_
  obtain⟨d2,d3⟩:=hds i (by omega);by_cases hlt:i<M.length
  ·obtain⟨r,p,hr,hp,e,b,l⟩:=h.at (k:=i) (by omega);obtain⟨k2,k3⟩:=hok i (by omega);have hse:=Ib (ds:=ds) (k:=i) (by omega);have ci:=ih i (by omega);have cp:=Ou (p:=p) (q:=f (Tn M i)) (by omega) (by omega) b k2 (by omega);have hmb:Bd (s+(n*(s+20)+1)+7) (Gq p (f (Tn M i))):=Sf b k2 (Xg l (by omega));have hml:=Tc p (f (Tn M i));by_cases h2:i % 2=1
   ·have es:Im f M (i+1)=Ms (Im f M i) (Nm (Gq p (f (Tn M i)))):=by simp only[Im,QJ];rw[e,if_pos h2]
    have hnl:=Lo (Gq p (f (Tn M i)));refine go tt [.T,.x (CL hr),.x (fY hp),.k (cm i),.k ci,.k cp,.r 28 (eI (b:=((i % 2:Nat):Int)) rfl),.T,.k (bH (Gd hmb (by omega)) (by omega)),.k (BF (p:=Im f M i) (q:=Nm (Gq p (f (Tn M i)))) (Gd d2 (by omega)) (Gd (XG hmb) (by omega)) (by omega) (by omega))] rfl (by simp[Ge] <;> omega) ?_;exact rd (i+1) (by omega) hlt (by rw[es];rfl)
   ·have es:Im f M (i+1)=Ms (Im f M i) (Gq p (f (Tn M i))):=by simp only[Im,QJ];rw[e,if_neg h2]
    refine go tt [.T,.x (CL hr),.x (fY hp),.k (cm i),.k ci,.k cp,.r 28 (eI (b:=((i % 2:Nat):Int)) rfl),.F,.k (BF (p:=Im f M i) (q:=Gq p (f (Tn M i))) (Gd d2 (by omega)) (Gd hmb (by omega)) (by omega) (by omega))] rfl (by simp[Ge] <;> omega) ?_;exact rd (i+1) (by omega) hlt (by rw[es];rfl)
  ·obtain rfl:i=n+1:=by omega
   exact Fh [.F] rfl
theorem Qj9{a b c:Crv}(ha:Rs a)(hb:Rs b)(hc:Rs c):SqR 100000 [15,15,0] (Oi a b c):=by
 have key:∀k:Crv,Rs k->(∀p∈[k.x,k.y,[k.d]],Bd 100000 p)/\∀(j:Nat) (p:Ft),[k.x,k.y,[k.d]][j]? = some p->p.length≤[15,15,0].getD j 0+1:=λk hk=>by
  refine⟨λp hp=>?_,λj p hp=>?_⟩
  ·simp only[Qj,Vh,or_false]at hp;rcases hp with rfl|rfl|rfl
   ·exact hk.c.x
   ·exact hk.c.y
   ·exact Qf3 hk.c.d
  ·match j,hp with
   | 0,hp=>injection hp with hp;subst hp;exact hk.c.lx
   | 1,hp=>injection hp with hp;subst hp;exact hk.c.ly
   | 2,hp=>injection hp with hp;subst hp;exact Qn _
   |j+3,hp=>simp at hp
 have h3:∀r∈Oi a b c,r=[a.x,a.y,[a.d]]\/r=[b.x,b.y,[b.d]]\/r=[c.x,c.y,[c.d]]:=λr hr=>by
  simpa[Oi]using hr
 refine⟨rfl,λr hr=>?_,λr hr=>?_,λr hr=>?_⟩
 ·rcases h3 r hr with rfl|rfl|rfl <;> rfl
 ·rcases h3 r hr with rfl|rfl|rfl
  ·exact(key a ha).1
  ·exact(key b hb).1
  ·exact(key c hc).1
 ·rcases h3 r hr with rfl|rfl|rfl
  ·exact(key a ha).2
  ·exact(key b hb).2
  ·exact(key c hc).2
def Ls(a b c:Crv):Ft:=Lj 3 (Oi a b c)
theorem Qde{a b c:Crv}(ha:Rs a)(hb:Rs b)(hc:Rs c):Fo 176 [.agg (Nn a),.agg (Nn b),.agg (Nn c)] [.one (rp (zp (Ls a b c)))]:=by
 have cd:=bL (by decide) 3 [15,15,0] (Oi a b c) (by decide) rfl (by decide) (Qj9 ha hb hc);have x0:[Nn a,Nn b,Nn c][0]? = some (Nn a):=rfl;have x1:[Nn a,Nn b,Nn c][1]? = some (Nn b):=rfl;have x2:[Nn a,Nn b,Nn c][2]? = some (Nn c):=rfl;have hs1:∀k:Crv,∀y∈[[LV.row (zrw [k.x,k.y,[k.d]])]],y.length=1:=λk y hy=>by rw[Qp.1 hy];rfl
 refine Sp func176 rfl ?_;refine Ff [.o 7 29 1] rfl ?_;refine Fl (S:=Nat) 4 (λL1 i=>(18,.v (.oi i))::(7,.v (.one (.orow 3 1 none)))::L1) (λi=>[.blk 133 (Nn a),.blk 133 (Nn b),.blk 133 (Nn c),.row false 29 1 (yV ((Oi a b c).take i))]) (λi=>3-i) (λi=>i<=3) 0 (by decide) rfl rfl λi hi=>?_
 rcases(show i=0\/i=1\/i=2\/i=3 by omega)with rfl|rfl|rfl|rfl
 ·exact go tt [.t rfl,.x x0,.k (Dm ha),.s (sz:=1) (hs1 a)] rfl (by simp[Ge,yV,Oi]) (rd 1 (by omega) (by omega) rfl)
 ·exact go tt [.t rfl,.x x1,.k (Dm hb),.s (sz:=1) (hs1 b)] rfl (by simp[Ge,yV,Oi]) (rd 2 (by omega) (by omega) rfl)
 ·exact go tt [.t rfl,.x x2,.k (Dm hc),.s (sz:=1) (hs1 c)] rfl (by simp[Ge,yV,Oi]) (rd 3 (by omega) (by omega) rfl)
 ·exact Fh [.f rfl,.k cd] rfl
end Orr
namespace Orq
open Orr Go
def sX(sg:Ft->Int)(a b c:Pt):Bool:=decide (0<Hj sg (G8 a.c b.c c.c))
def Ii(sg:Ft->Int)(row:List Pt):List Pt:=(YG (sX sg) [] row).reverse
def Mr(sg:Ft->Int)(row:List Pt):List Pt:=if row.length<3 then row else(Ii sg row).dropLast++(Ii sg row.reverse).dropLast
def Gx(l:List Pt)(a:Tm):List Pt:=Mr (Hi a) (Rj a (Gu l))
def Lk(C:List Pt):List (Pt×Pt):=C.zip (C.drop 1++C.take 1)
def Qfr(l:List Pt):Fu:=l.flatMap λx=>l.flatMap λy=>l.map λz=>G8 x.c y.c z.c
theorem Qfs{l:List Pt}{x y z:Pt}(hx:x∈l)(hy:y∈l)(hz:z∈l):G8 x.c y.c z.c∈Qfr l :=
 Xb.2 ⟨x,hx,Xb.2 ⟨y,hy,Zc.2 ⟨z,hz,rfl⟩⟩⟩
theorem Qnr{l:List Pt}(hl:∀p∈l,Sc p.c):∀p∈Qfr l,Cp p:=λp hp=>by
 obtain⟨x,hx,hp⟩:=Xb.1 hp;obtain⟨y,hy,hp⟩:=Xb.1 hp;obtain⟨z,hz,rfl⟩:=Zc.1 hp;exact TD (hl x hx) (hl y hy) (hl z hz)
theorem IS{α:Type}(s:α->α->α->Bool)(c:α):∀st:List α,(pU s c st).Sublist st
 | []=>List.Sublist.refl _
 | [_]=>List.Sublist.refl _
 |
  b::a::r=>by
  simp only[pU]
  split
  ·exact List.Sublist.refl _
  ·exact(IS s c (a::r)).trans (List.sublist_cons_self _ _)
theorem LR{α:Type}{s:α->α->α->Bool}:∀{l acc:List α} {x:α},x∈YG s acc l->x∈acc\/x∈l
 | [],acc,x,h=>.inl h
 |
  c::l,acc,x,h=>by
  rcases LR (l:=l) h with h|h
  ·rcases Qj.1 h with rfl|h
   ·exact .inr (by simp)
   ·exact .inl ((IS s c acc).subset h)
  ·exact .inr (Qi _ h)
theorem LH{α:Type}(s:α->α->α->Bool):∀(l acc:List α),(YG s acc l).length<=acc.length+l.length
 | [],acc=>by simp[YG]
 |
  c::l,acc=>by
  have h1:=LH s l (c::pU s c acc);have h2:=(IS s c acc).length_le;simp only[YG,Zf]at h1 ⊢;omega
theorem LF{sg:Ft->Int}{row:List Pt}{x:Pt}(h:x∈Ii sg row):x∈row:=by
 unfold Ii at h;rcases LR (Xw.1 h)with h|h
 ·cases h
 ·exact h
theorem LU(sg:Ft->Int)(row:List Pt):(Ii sg row).length<=row.length:=by
 have:=LH (sX sg) row [];unfold Ii;rw[List.length_reverse];simpa using this
theorem Bt{sg:Ft->Int}{row:List Pt}{x:Pt}(h:x∈Mr sg row):x∈row:=by
 unfold Mr at h
 split at h
 ·exact h
 ·rcases Qr.1 h with h|h
  ·exact LF ((List.dropLast_sublist _).subset h)
  ·exact Xw.1 (LF ((List.dropLast_sublist _).subset h))
theorem eV(sg:Ft->Int)(row:List Pt):(Mr sg row).length<=2*row.length:=by
 unfold Mr
 split
 ·omega
 ·have h1:=LU sg row;have h2:=LU sg row.reverse;rw[List.length_reverse]at h2;rw[Za,List.length_dropLast,List.length_dropLast];omega
theorem Sx{l:List Pt}{a:Tm}{x:Pt}(h:x∈Gx l a):x∈l:=Hr (Rx.1 (Bt h))
theorem Qdl(l:List Pt)(a:Tm):(Gx l a).length<=2*l.length:=by
 have h1:=eV (Hi a) (Rj a (Gu l));rw[Db]at h1;have:=VD l;unfold Gx;omega
theorem tX{C:List Pt}{e:Pt×Pt}(h:e∈Lk C):e.1∈C/\e.2∈C:=by
 unfold Lk at h;have h1:=List.of_mem_zip (show(e.1,e.2)∈_ from h);refine⟨h1.1,?_⟩;rcases Qr.1 h1.2 with h|h
 ·exact Q9 h
 ·exact Qq h
theorem Qnq{l:List Pt}(hl:∀p∈l,Sc p.c):∀p∈nT l++Qfr l,Cp p:=λp hp=>by
 rcases Qr.1 hp with h|h
 ·exact aB hl p h
 ·exact Qnr hl p h
def Ik{α:Type}(l:List α):List (α×α):=l.zip (l.drop 1)
theorem GG{α:Type}{Q:α->α->Prop}:∀{l:List α},Edg Q l↔∀e∈Ik l,Q e.1 e.2
 | []=>by simp[Edg,Ik]
 | [_]=>by simp[Edg,Ik]
 |
  a::b::l=>by
  have ih:=GG (Q:=Q) (l:=b::l);have e:Ik (a::b::l)=(a,b)::Ik (b::l):=rfl;rw[e];constructor
  ·rintro⟨h1,h2⟩ x hx
   rcases Qj.1 hx with rfl|hx
   ·exact h1
   ·exact ih.1 h2 x hx
  ·intro h;exact⟨h (a,b) (by simp),ih.2 λx hx=>h x (Qi _ hx)⟩
theorem LM{α:Type}(f z:α)(A:List α):Ik (f::A++[z])=(f::A).zip (A++[z]):=by
 unfold Ik;rw[Xa,Kz,Ja];have:f::(A++[z])=(f::A)++[z]:=rfl;rw[this];have h:A++[z]=(A++[z])++[]:=(Xk _).symm
 conv=>lhs;rw[h]
 rw[List.zip_append (by simp)];simp
theorem tJ{f z:Pt}{A B:List Pt}:Lk ((f::A++[z]).dropLast++(z::B++[f]).dropLast)=Ik (f::A++[z])++Ik (z::B++[f]):=by
 rw[Zu,Zu,LM,LM,<-List.zip_append (by simp)];unfold Lk;congr 1;simp
theorem Edg.rev{α:Type}{Q:α->α->Prop}:∀{l:List α},Edg Q l->Edg (λa b=>Q b a) l.reverse:=by
 have app:∀{Q:α->α->Prop} {l:List α} {b a:α},Edg Q (l++[b])->Q b a->Edg Q (l++[b]++[a]):=by
  intro Q l
  induction l with
  |nil=>intro b a _ h;exact⟨h,trivial⟩
  |
   cons x l ih =>
   intro b a h h2;cases l with
   |nil=>exact⟨h.1,ih h.2 h2⟩
   |cons y l=>exact⟨h.1,ih h.2 h2⟩
 intro l
 induction l with
 |nil=>intro _;trivial
 |
  cons a l ih =>
  intro h;cases l with
  |nil=>trivial
  |
   cons b l =>
   have:=ih h.2;rw[Vb]at this ⊢;rw[Vb];exact app this h.1
theorem Cnv.rev{α:Type}{R:α->α->α->Prop}:∀{l:List α},Cnv R l->Cnv (λa b c=>R c b a) l.reverse:=by
 have app:∀{R:α->α->α->Prop} {l:List α} {c b a:α},Cnv R (l++[c,b])->R c b a->Cnv R (l++[c,b,a]):=by
  intro R l
  induction l with
  |nil=>intro c b a _ h;exact⟨h,trivial⟩
  |
   cons x l ih =>
   intro c b a h h2;cases l with
   |nil=>exact⟨h.1,ih h.2 h2⟩
   |
    cons y l =>
    cases l with
    |nil=>exact⟨h.1,ih h.2 h2⟩
    |cons w l=>exact⟨h.1,ih h.2 h2⟩
 intro l
 induction l with
 |nil=>intro _;trivial
 |
  cons a l ih =>
  intro h
  match l,h with
  | [],_=>trivial
  | [_],_=>trivial
  |
   b::c::l,h =>
   have:=ih h.2;rw[Vb,Vb,Zk]at this;rw[Vb,Vb,Vb,Zk,Zk];exact app this h.1
end Orq
namespace Orr
open Go Go.Proofs Tryz Orq
set_option maxRecDepth 10000

def UZ(a b:Crv):Bool:=decide ((RJ (QK a.x a.d) (QK b.x b.d)).length=0) && decide ((RJ (QK a.y a.d) (QK b.y b.d)).length=0)
theorem Qn8{a b:Crv}(ha:Rs a)(hb:Rs b):Fo 272 [.agg (Nn a),.agg (Nn b)] [.one (.bool (UZ a b))]:=by
 have lx1:=ha.c.lx;have ly1:=ha.c.ly;have lx2:=hb.c.lx;have ly2:=hb.c.ly;have cx:=bN (p:=QK a.x a.d) (q:=QK b.x b.d) (UO (Gd ha.c.x (by decide)) (Qe ha.c.d (by decide)) (by decide)) (UO (Gd hb.c.x (by decide)) (Qe hb.c.d (by decide)) (by decide)) (by rw[Di];omega) (by rw[Di];omega);have cy:=bN (p:=QK a.y a.d) (q:=QK b.y b.d) (UO (Gd ha.c.y (by decide)) (Qe ha.c.d (by decide)) (by decide)) (UO (Gd hb.c.y (by decide)) (Qe hb.c.d (by decide)) (by decide)) (by rw[Di];omega) (by rw[Di];omega);unfold UZ;generalize RJ (QK a.x a.d) (QK b.x b.d)=X at *;generalize RJ (QK a.y a.d) (QK b.y b.d)=Y at *;have hX:(frow X).length=X.length:=by simp[frow]
 have hY:(frow Y).length=Y.length:=by simp[frow]
 by_cases h:X.length=0
 ·by_cases h':Y.length=0
  ·rw[decide_eq_true h,decide_eq_true h'];exact Fi func272 rfl [.k cx,.g 12 true Fq,.k cy,.g 19 true Fq] rfl
  ·rw[decide_eq_true h,decide_eq_false h'];exact Fi func272 rfl [.k cx,.g 12 true Fq,.k cy,.g 19 false Fp] rfl
 ·rw[decide_eq_false h];exact Fi func272 rfl [.k cx,.g 12 false Fp] rfl
def FT(out:List Pt)(p:Pt):List Pt:=if (out.any λo=>UZ o.c p.c)=true then out else out++[p]
def Me(l:List Pt):List Pt:=(Hh Tv l).foldl FT []
theorem RA:∀(M O:List Pt),(∀p∈M.foldl FT O,p∈O\/p∈M)/\(M.foldl FT O).length≤O.length+M.length
 | [],O=>⟨λp hp=>.inl hp,by simp⟩
 |
  x::M,O=>by
  obtain⟨h1,h2⟩:=RA M (FT O x);have e1:(FT O x).length<=O.length+1:=by unfold FT;split <;> simp
  refine⟨λp hp=>?_,by rw[Z0,Zf];omega⟩;rcases h1 p hp with h|h
  ·unfold FT at h
   split at h
   ·exact .inl h
   ·rcases Qr.1 h with h|h
    ·exact .inl h
    ·exact .inr (by rw[Qp.1 h];simp)
  ·exact .inr (Qi _ h)
theorem WF{l:List Pt}{p:Pt}(h:p∈Me l):p∈l:=by
 rcases(RA (Hh Tv l) []).1 p h with h|h
 ·cases h
 ·exact P5.1 h
theorem MX(l:List Pt):(Me l).length<=l.length:=by
 have:=(RA (Hh Tv l) []).2;rw[P0,Y7,Xd]at this;exact this
theorem Qmi{α:Type}{f:α->Bool}{l:List α}{i:Nat}{x:α}(h:l[i]? = some x):(l.take (i+1)).any f=((l.take i).any f || f x):=by
 rw[X3,h,List.any_append];simp
theorem Qn9{l:List Pt}(hl:∀p∈l,Rs p.c)(hn:l.length≤1000):Fo 174 [.one (.row (He l))] [.one (.row (He (Me l)))]:=by
 have c1:=BG (l:=l) (by omega);have hML:(Hh Tv l).length=l.length:=P0 _ _;have hMl:∀p∈Hh Tv l,Rs p.c:=λp hp=>hl p (P5.1 hp)
 unfold Me;obtain⟨M,hM⟩:=nmE (Hh Tv l);rw[<-hM]at c1 hML hMl ⊢;have hcl:=Rr M;refine Sp func174 rfl ?_;refine Ff [.o 3 135 7,.k c1] rfl ?_;refine Fl (S:=Nat) 1 (λL1 i=>(11,.v (.oi i))::(3,.v (.one (.orow 0 7 none)))::L1) (λi=>[.row false 135 7 (He ((M.take i).foldl FT []))]) (λi=>M.length-i) (λi=>i<=M.length) 0 (Qh _) rfl rfl λi hi=>?_
 by_cases hlt:i<M.length
 ·obtain⟨p,hp⟩:=gxE (l:=M) (i:=i) hlt;have hpr:=hMl p (Qa hp);have hst:=Mh FT [] M hp;have hsub:=RA (M.take i) [];obtain⟨O,hO⟩:=nmE ((M.take i).foldl FT []);rw[<-hO]at hst hsub ⊢;have hOl:O.length<=1000:=by have:=hsub.2;rw[Y7,Qz]at this;omega
  have hOm:∀o∈O,Rs o.c:=λo ho=>by
   rcases hsub.1 o ho with h|h
   ·cases h
   ·exact hMl o (Qq h)
  have hrl:=Rr O;refine Ff [.T] rfl ?_;refine Fl (S:=Nat) 1 (λL1 k=>(16,.v (.oi k))::(5,.v (.one (.bool ((O.take k).any λo=>UZ o.c p.c))))::L1) (λ_=>[.row false 135 7 (He O)]) (λk=>O.length-k) (λk=>k<=O.length) 0 (Qh _) rfl rfl λk hk=>?_
  by_cases hkl:k<O.length
  ·obtain⟨o,ho⟩:=gxE (l:=O) (i:=k) hkl;have ha:=Qmi (f:=λo=>UZ o.c p.c) ho;cases hb:(O.take k).any λo=>UZ o.c p.c with
   |
    true =>
    rw[hb,Wc]at ha;refine go tt [.T,.g 20 true rfl] rfl (by simp[Ge] <;> omega) ?_;exact rd (k+1) (by omega) hkl (by rw[ha];rfl)
   |
    false =>
    rw[hb,J1]at ha;refine go tt [.T,.g 20 false rfl,.i k,.x (G0 ho),.x (G0 hp),.k (Qn8 (hOm o (Qa ho)) hpr)] rfl (by simp[Ge] <;> omega) ?_;exact rd (k+1) (by omega) hkl (by rw[ha];rfl)
  ·obtain rfl:k=O.length:=by omega
   rw[Zd];have h7z:∀y∈[FX p],y.length=7:=λy hy=>by rw[Qp.1 hy];rfl
   cases hb:O.any λo=>UZ o.c p.c with
   |
    true =>
    have e:FT O p=O:=if_pos hb;refine go tt [.F,.f rfl] rfl (by simp[Ge] <;> omega) ?_;exact rd (i+1) (by omega) hlt (by rw[hst,e];rfl)
   |
    false =>
    have e:FT O p=O++[p]:=if_neg (by rw[hb];decide);refine go tt [.F,.t rfl,.x (G0 hp),.s (sz:=7) h7z] rfl (by simp[Ge] <;> omega) ?_;exact rd (i+1) (by omega) hlt (by rw[hst,e];simp[He];rfl)
 ·obtain rfl:i=M.length:=by omega
  rw[Zd];exact Fh [.F] rfl
end Orr
namespace Orr
open Go Go.Proofs Tryz Orq
theorem KD(p:Ft)(q:Rat):Gf (QJ 0 p) q=Gf p q:=rfl
theorem PU(p:Ft)(q:Rat):Gf (QJ 1 p) q=-Gf p q:=ZL p q
theorem xP(p:Ft)(q:Rat):Gf (QJ 2 p) q=Gf p q:=rfl
theorem Qkg(p:Ft)(q:Rat):Gf (Lj 1 [[p]]) q=Gf p q:=by
 show Gf (Ms [] (QJ 0 (Gq p [1]))) q=_;rw[Mz,KD,Gn,Ru];show(0:Rat)+_=_;grind
theorem lZ(p r s t:Ft)(q:Rat):Gf (Lj 2 [[p,r],[s,t]]) q=Gf p q*Gf t q-Gf r q*Gf s q:=by
 show Gf (Ms (Ms [] (QJ 0 (Gq p (Lj 1 [[t]])))) (QJ 1 (Gq r (Lj 1 [[s]])))) q=_;rw[Mz,Mz,KD,PU,Gn,Gn,Qkg,Qkg];show(0:Rat)+_+_=_;grind
theorem IU(a1 a2 a3 b1 b2 b3 c1 c2 c3:Ft)(q:Rat):Gf (Lj 3 [[a1,a2,a3],[b1,b2,b3],[c1,c2,c3]]) q=Gf a1 q*(Gf b2 q*Gf c3 q-Gf b3 q*Gf c2 q)-Gf a2 q*(Gf b1 q*Gf c3 q-Gf b3 q*Gf c1 q)+Gf a3 q*(Gf b1 q*Gf c2 q-Gf b2 q*Gf c1 q):=by
 show Gf (Ms (Ms (Ms [] (QJ 0 (Gq a1 (Lj 2 [[b2,b3],[c2,c3]])))) (QJ 1 (Gq a2 (Lj 2 [[b1,b3],[c1,c3]])))) (QJ 2 (Gq a3 (Lj 2 [[b1,b2],[c1,c2]])))) q=_;rw[Mz,Mz,Mz,KD,PU,xP,Gn,Gn,Gn,lZ,lZ,lZ];show(0:Rat)+_+_+_=_;grind
theorem TO{f:Nat->Ft}{rows:List Fu}:∀i,Gh (Lc f rows i)
 | 0=>rfl
 |
  i+1=>by
  simp only[Lc]
  split
  ·exact TO i
  ·split
   ·exact Gk _ _
   ·exact Gk _ _
theorem JJ(a b c:Crv):Ls a b c=G8 a b c:=by
 refine Oj (Gk _ _) (TO 3) λq=>?_
 show Gf (Lj 3 [[a.x,a.y,[a.d]],[b.x,b.y,[b.d]],[c.x,c.y,[c.d]]]) q=Gf (Cn 3 [[a.x,a.y,[a.d]],[b.x,b.y,[b.d]],[c.x,c.y,[c.d]]]) q;rw[IU,ZM];grind
end Orr
namespace Orr
open Go Go.Proofs Tryz Orq
set_option maxRecDepth 10000
theorem LX{a b c:Crv}(ha:Sc a)(hb:Sc b)(hc:Sc c):Fo 176 [.agg (Nn a),.agg (Nn b),.agg (Nn c)] [.one (rp (zp (Ls a b c)))]:=Qde ha.rs hb.rs hc.rs
theorem NX{a b c:Crv}(ha:Sc a)(hb:Sc b)(hc:Sc c):Cp (Ls a b c):=by
 rw[JJ];exact TD ha hb hc
theorem gA{l:List Pt}(hl:∀p∈l,Sc p.c)(hn:l.length≤1000):Fo 174 [.one (.row (He l))] [.one (.row (He (Me l)))]:=Qn9 (λp hp=>(hl p hp).rs) hn
def fC(sg:Ft->Int)(a b c:Pt):Bool:=(Px sg a c && Px sg c b) || (Px sg b c && Px sg c a)
def Nt(sg:Ft->Int)(a b c:Pt):Bool:=decide (c.id=a.id) || (decide (c.id=b.id) || !(decide (Hj sg (Ls a.c b.c c.c)<0) || (decide (Hj sg (Ls a.c b.c c.c)=0) && !fC sg a b c)))
def Cj(sg:Ft->Int)(a b:Pt)(l:List Pt):Bool:=l.all (Nt sg a b)
set_option maxHeartbeats 1000000 in
theorem LY{a b:Pt}{l:List Pt}{T:Ti}(ha:Sc a.c)(hb:Sc b.c)(hl:∀p∈l,Sc p.c)(hn:l.length≤1000)(hq:RT T):Fo 175 [.agg (FX a),.agg (FX b),.one (.row (He l)),.agg (T.tl)] [.one (.bool (Cj T.sg a b l))]:=by
 have hcl:=Rr l;refine Sp func175 rfl ?_;refine Ff [] rfl ?_;refine Fl (S:=Nat) 3 (λL1 i=>(14,.v (.oi i))::L1) (λ_=>[.blk 135 (FX a),.blk 135 (FX b),.blk 36 (T.tl)]) (λi=>l.length-i) (λi=>i<=l.length/\Cj T.sg a b l=Cj T.sg a b (l.drop i)) 0 ⟨Qh _,rfl⟩ rfl rfl λi ⟨hi,he⟩=>?_
 by_cases hlt:i<l.length
 ·obtain⟨c,hc⟩:=gxE (l:=l) (i:=i) hlt;have hcr:=hl c (Qa hc);have hdr:Cj T.sg a b (l.drop i)=(Nt T.sg a b c && Cj T.sg a b (l.drop (i+1))):=by
   obtain⟨h1,h2⟩:=Qd.1 hc;rw[Xc h1,h2];rfl
  have co:=LX ha hb hcr;have hsz:=NX ha hb hcr;have cA:=hq.a hsz.dp;have b1:=Ih ha hcr hq;have b2:=Ih hcr hb hq;have b3:=Ih hb hcr hq;have b4:=Ih hcr ha hq;by_cases h1:c.id=a.id
  ·have e:Nt T.sg a b c=true:=by simp[Nt,h1]
   rw[e,Yn]at hdr;refine go tt [.T,.x (G0 hc),.g 26 true (decide_eq_true h1),.t rfl] rfl (by simp[Ge] <;> omega) ?_;exact rd (i+1) (by omega) ⟨hlt,by rw[he,hdr]⟩ rfl
  by_cases h2:c.id=b.id
  ·have e:Nt T.sg a b c=true:=by simp[Nt,h2]
   rw[e,Yn]at hdr;refine go tt [.T,.x (G0 hc),.g 26 false (decide_eq_false h1),.t (decide_eq_true h2)] rfl (by simp[Ge] <;> omega) ?_;exact rd (i+1) (by omega) ⟨hlt,by rw[he,hdr]⟩ rfl
  have e0:Nt T.sg a b c = !(decide (Hj T.sg (Ls a.c b.c c.c)<0) || (decide (Hj T.sg (Ls a.c b.c c.c)=0) && !fC T.sg a b c)):=by unfold Nt;rw[decide_eq_false h1,decide_eq_false h2,Bool.false_or,Bool.false_or]
  generalize Hj T.sg (Ls a.c b.c c.c)=s at *;by_cases hs:s<0
  ·rw[decide_eq_true hs,Wc]at e0;rw[e0]at hdr;rw[he,hdr];exact Fh [.T,.x (G0 hc),.g 26 false (decide_eq_false h1),.f (decide_eq_false h2),.k co,.k cA,.g 44 true (decide_eq_true hs),.t rfl] rfl
  rw[decide_eq_false hs,J1]at e0;by_cases hz:s=0
  ·rw[decide_eq_true hz,Yn,Bool.not_not]at e0;unfold fC at e0;cases k1:Px T.sg a c with
   |
    true =>
    rw[k1]at b1 e0;cases k2:Px T.sg c b with
    |
     true =>
     rw[k2]at b2 e0;have e0:Nt T.sg a b c=true:=e0;rw[e0,Yn]at hdr;refine go tt [.T,.x (G0 hc),.g 26 false (decide_eq_false h1),.f (decide_eq_false h2),.k co,.k cA,.g 44 false (decide_eq_false hs),.g 47 true (decide_eq_true hz),.k b1,.g 52 true rfl,.k b2,.g 58 true rfl,.f rfl] rfl (by simp[Ge] <;> omega) ?_;exact rd (i+1) (by omega) ⟨hlt,by rw[he,hdr]⟩ rfl
    |
     false =>
     rw[k2,Bool.and_false,J1]at e0;rw[k2]at b2;cases k3:Px T.sg b c with
     |
      true =>
      rw[k3]at b3 e0;cases k4:Px T.sg c a with
      |
       true =>
       rw[k4]at b4 e0;have e0:Nt T.sg a b c=true:=e0;rw[e0,Yn]at hdr;refine go tt [.T,.x (G0 hc),.g 26 false (decide_eq_false h1),.f (decide_eq_false h2),.k co,.k cA,.g 44 false (decide_eq_false hs),.g 47 true (decide_eq_true hz),.k b1,.g 52 true rfl,.k b2,.g 58 false rfl,.k b3,.g 63 true rfl,.k b4,.f rfl] rfl (by simp[Ge] <;> omega) ?_;exact rd (i+1) (by omega) ⟨hlt,by rw[he,hdr]⟩ rfl
      |
       false =>
       rw[k4]at b4 e0;have e0:Nt T.sg a b c=false:=e0;rw[e0,Vx]at hdr;rw[he,hdr];exact Fh [.T,.x (G0 hc),.g 26 false (decide_eq_false h1),.f (decide_eq_false h2),.k co,.k cA,.g 44 false (decide_eq_false hs),.g 47 true (decide_eq_true hz),.k b1,.g 52 true rfl,.k b2,.g 58 false rfl,.k b3,.g 63 true rfl,.k b4,.t rfl] rfl
     |
      false =>
      rw[k3]at b3 e0;have e0:Nt T.sg a b c=false:=e0;rw[e0,Vx]at hdr;rw[he,hdr];exact Fh [.T,.x (G0 hc),.g 26 false (decide_eq_false h1),.f (decide_eq_false h2),.k co,.k cA,.g 44 false (decide_eq_false hs),.g 47 true (decide_eq_true hz),.k b1,.g 52 true rfl,.k b2,.g 58 false rfl,.k b3,.g 63 false rfl,.t rfl] rfl
   |
    false =>
    rw[k1,Vx,J1]at e0;rw[k1]at b1;cases k3:Px T.sg b c with
    |
     true =>
     rw[k3]at b3 e0;cases k4:Px T.sg c a with
     |
      true =>
      rw[k4]at b4 e0;have e0:Nt T.sg a b c=true:=e0;rw[e0,Yn]at hdr;refine go tt [.T,.x (G0 hc),.g 26 false (decide_eq_false h1),.f (decide_eq_false h2),.k co,.k cA,.g 44 false (decide_eq_false hs),.g 47 true (decide_eq_true hz),.k b1,.g 52 false rfl,.g 58 false rfl,.k b3,.g 63 true rfl,.k b4,.f rfl] rfl (by simp[Ge] <;> omega) ?_;exact rd (i+1) (by omega) ⟨hlt,by rw[he,hdr]⟩ rfl
     |
      false =>
      rw[k4]at b4 e0;have e0:Nt T.sg a b c=false:=e0;rw[e0,Vx]at hdr;rw[he,hdr];exact Fh [.T,.x (G0 hc),.g 26 false (decide_eq_false h1),.f (decide_eq_false h2),.k co,.k cA,.g 44 false (decide_eq_false hs),.g 47 true (decide_eq_true hz),.k b1,.g 52 false rfl,.g 58 false rfl,.k b3,.g 63 true rfl,.k b4,.t rfl] rfl
    |
     false =>
     rw[k3]at b3 e0;have e0:Nt T.sg a b c=false:=e0;rw[e0,Vx]at hdr;rw[he,hdr];exact Fh [.T,.x (G0 hc),.g 26 false (decide_eq_false h1),.f (decide_eq_false h2),.k co,.k cA,.g 44 false (decide_eq_false hs),.g 47 true (decide_eq_true hz),.k b1,.g 52 false rfl,.g 58 false rfl,.k b3,.g 63 false rfl,.t rfl] rfl
  ·rw[decide_eq_false hz,Vx]at e0;have e0:Nt T.sg a b c=true:=e0;rw[e0,Yn]at hdr;refine go tt [.T,.x (G0 hc),.g 26 false (decide_eq_false h1),.f (decide_eq_false h2),.k co,.k cA,.g 44 false (decide_eq_false hs),.g 47 false (decide_eq_false hz),.f rfl] rfl (by simp[Ge] <;> omega) ?_;exact rd (i+1) (by omega) ⟨hlt,by rw[he,hdr]⟩ rfl
 ·obtain rfl:i=l.length:=by omega
  rw[he,List.drop_length];exact Fh [.F] rfl
def O9(sg:Ft->Int)(W:List Pt)(a:Pt):Option Pt:=W.find? λp=>decide (p.id≠a.id) && Cj sg a p W
def Ns(sg:Ft->Int)(W:List Pt)(s0:Pt):Nat->Pt->List Pt->List Pt
 | 0,_,O=>O
 |
  k+1,a,O=>match O9 sg W a with
  |none=>O
  |some b=>if b.id=s0.id then O else Ns sg W s0 k b (O++[b])
def Ow(sg:Ft->Int)(l:List Pt):List Pt:=if (Me l).length<2 then Me l else
 match Hh (Px sg) (Me l)with
 | []=>[]
 |s::_=>Ns sg (Me l) s (Me l).length s [s]
theorem AO{sg:Ft->Int}{W:List Pt}{a b:Pt}(h:O9 sg W a=some b):b∈W/\b.id≠a.id:=by
 have h1:=U5 h;simp only[Zn,decide_eq_true_eq]at h1;exact⟨K9 h,h1.1⟩
theorem qE{sg:Ft->Int}{W:List Pt}{s0:Pt}:∀(k:Nat) (a:Pt) (O:List Pt),(∀p∈O,p∈W)->(∀p∈Ns sg W s0 k a O,p∈W)/\(Ns sg W s0 k a O).length≤O.length+k
 | 0,_,O,h=>⟨h,Qn _⟩
 |
  k+1,a,O,h=>by
  unfold Ns;cases hb:O9 sg W a with
  |none=>exact⟨h,V0 _ _⟩
  |
   some b =>
   have hm:=(AO hb).1;dsimp only
   split
   ·exact⟨h,V0 _ _⟩
   ·obtain⟨h1,h2⟩:=qE (sg:=sg) (s0:=s0) k b (O++[b]) (λp hp=>(Qr.1 hp).elim (h p) λhp=>by rw[Qp.1 hp];exact hm);rw[Za,Jr]at h2;exact⟨h1,by omega⟩
theorem Qdn(sg:Ft->Int)(l:List Pt):(∀p∈Ow sg l,p∈l)/\(Ow sg l).length≤l.length+1:=by
 have hw:=MX l;unfold Ow
 split
 ·exact⟨λp hp=>WF hp,by omega⟩
 ·split
  ·exact⟨λp hp=>(by cases hp),Qh _⟩
  ·rename_i s S hS;have hs:s∈Me l:=P5.1 (show s∈Hh (Px sg) (Me l) by rw[hS];simp);obtain⟨h1,h2⟩:=qE (sg:=sg) (s0:=s) (Me l).length s [s] (λp hp=>by rw[Qp.1 hp];exact hs);exact⟨λp hp=>WF (h1 p hp),by rw[Jr]at h2;omega⟩
theorem Qef{sg:Ft->Int}{W:List Pt}{a b:Pt}(h:O9 sg W a=some b):∃j:Nat,W[j]? = some b/\b.id≠a.id/\Cj sg a b W=true/\∀(i:Nat) (p:Pt),i<j->W[i]? = some p->p.id=a.id\/Cj sg a p W=false:=by
 unfold O9 at h;obtain⟨h1,u,v,hW,h3⟩:=List.find?_eq_some_iff_append.1 h;simp only[Zn,decide_eq_true_eq]at h1;refine⟨u.length,by rw[hW,Zj (Qn _),Yl];rfl,h1.1,h1.2,λi p hi hp=>?_⟩;have hp':u[i]? = some p:=by rw[<-hp,hW,Q3 hi]
 have:=h3 p (Qa hp');simp only[Kf,Wx,decide_eq_false_iff_not,Decidable.not_not]at this;exact this
theorem Qeg{sg:Ft->Int}{W:List Pt}{a:Pt}(h:O9 sg W a=none):∀p∈W,p.id=a.id\/Cj sg a p W=false:=λp hp=>by
 have:=Um.1 h p hp;simp only[Bool.not_eq_true,Wx,decide_eq_false_iff_not,Decidable.not_not]at this;exact this
set_option maxHeartbeats 4000000 in
theorem gU{l:List Pt}{T:Ti}(hl:∀p∈l,Sc p.c)(hn:l.length≤1000)(hq:RT T):Fo 66 [.one (.row (He l)),.agg (T.tl)] [.one (.row (He (Ow T.sg l)))]:=by
 have c1:=gA hl hn;have hWl:∀p∈Me l,Sc p.c:=λp hp=>hl p (WF hp)
 have hWn:=MX l;unfold Ow;obtain⟨W,hW⟩:=nmE (Me l);rw[<-hW]at c1 hWl hWn ⊢;have hcl:=Rr W;by_cases h2:W.length<2
 ·rw[if_pos h2];exact Fi func66 rfl [.k c1,.T] rfl
 rw[if_neg h2];have c2:=LJ (l:=W) hWl (by omega) hq;obtain⟨s,S,hS⟩:∃s S,Hh (Px T.sg) W=s::S:=by
  have:(Hh (Px T.sg) W).length=W.length:=P0 _ _;cases hs:Hh (Px T.sg) W with
  |nil=>rw[hs]at this;simp at this;omega
  |cons s S=>exact⟨s,S,rfl⟩
 have hsW:s∈W:=P5.1 (show s∈Hh (Px T.sg) W by rw[hS];simp);rw[hS]at c2 ⊢;show Fo 66 _ [.one (.row (He (Ns T.sg W s W.length s [s])))];have hx0:(He (s::S))[0]? = some (FX s):=rfl;refine Sp func66 rfl ?_;refine Ff [.k c1,.F,.k c2,.x hx0,.lo] rfl ?_;refine sb [(7,.v (.one (.orow 1 7 none))),(6,.v (.one (.row (He (s::S))))),(5,.v (.one (.row (He W)))),(3,.v (.one (.ow 0 0)))] [.blk 36 (T.tl),.row false 135 7 (He [s])] rfl rfl ?_;refine Fl (S:=List Pt) 2 (λL1 _=>(7,.v (.one (.orow 1 7 none)))::L1) (λO=>[.blk 36 (T.tl),.row false 135 7 (He O)]) (λO=>W.length+1-O.length) (λO=>O.length<=W.length+1/\∃a,a∈W/\O[O.length-1]? = some a/\Ns T.sg W s (W.length+1-O.length) a O=Ns T.sg W s W.length s [s]) [s] ⟨by show 1<=_;omega,s,hsW,rfl,rfl⟩ rfl rfl λO ⟨hO,a,haW,hla,he⟩=>?_
 have har:=hWl a haW;have hrl:=Rr O;have hO1:0<O.length:=by
  have:=(Qd.1 hla).1;omega
 by_cases hlt:O.length<=W.length
 ·obtain⟨k,hk⟩:∃k,W.length+1-O.length=k+1:=⟨W.length-O.length,by omega⟩;rw[hk]at he;refine go tt [.T,.r 31 (eI (b:=((O.length-1:Nat):Int)) (by omega)),.i (O.length-1),.x (G0 hla)] rfl (by simp[Ge] <;> omega) ?_;cases hb:O9 T.sg W a with
  |
   none =>
   have hno:=Qeg hb;have ef:Ns T.sg W s W.length s [s]=O:=by rw[<-he];unfold Ns;rw[hb]
   rw[ef];refine Fl (S:=Nat) 3 (λL1 i=>(36,.v (.oi i))::L1) (λ_=>[.blk 36 (T.tl),.row false 135 7 (He O),.blk 135 (FX a)]) (λi=>W.length-i) (λi=>i<=W.length) 0 (Qh _) rfl rfl λi hi=>?_
   by_cases hil:i<W.length
   ·obtain⟨p,hp⟩:=gxE (l:=W) (i:=i) hil;have hpm:=Qa hp;by_cases h1:p.id=a.id
    ·refine go tt [.T,.x (G0 hp),.g 47 false (decide_eq_false (by simpa using h1)),.f rfl] rfl (by simp[Ge] <;> omega) ?_;exact rd (i+1) (by omega) hil rfl
    ·have ce:=LY har (hWl p hpm) hWl (by omega) hq;rw[(hno p hpm).resolve_left h1]at ce;refine go tt [.T,.x (G0 hp),.g 47 true (decide_eq_true h1),.x (G0 hp),.k ce,.f rfl] rfl (by simp[Ge] <;> omega) ?_;exact rd (i+1) (by omega) hil rfl
   ·by_cases h3:a.id=s.id
    ·exact Fh [.F,.x hx0,.g 69 true (decide_eq_true h3),.t rfl] rfl rfl (by simp[Ge] <;> omega)
    ·exact Fh [.F,.x hx0,.g 69 false (decide_eq_false h3),.r 75 (eI (b:=((O.length-1:Nat):Int)) (by omega)),.i (O.length-1),.x (G0 hla),.t (decide_eq_true rfl)] rfl rfl (by simp[Ge] <;> omega)
  |
   some b =>
   obtain⟨j,hj,hba,heb,hjb⟩:=Qef hb;have hbW:=(AO hb).1;have hjl:=(Qd.1 hj).1;have hbr:=hWl b hbW;have h7z:∀y∈[FX b],y.length=7:=λy hy=>by rw[Qp.1 hy];rfl
   have cb:=LY har hbr hWl (by omega) hq;rw[heb]at cb;refine Fl (S:=Nat) 3 (λL1 i=>(36,.v (.oi i))::L1) (λ_=>[.blk 36 (T.tl),.row false 135 7 (He O),.blk 135 (FX a)]) (λi=>j-i) (λi=>i<=j) 0 (Qh _) rfl rfl λi hi=>?_
   by_cases hij:i<j
   ·obtain⟨p,hp⟩:=gxE (l:=W) (i:=i) (by omega);have hpm:=Qa hp;by_cases h1:p.id=a.id
    ·refine go tt [.T,.x (G0 hp),.g 47 false (decide_eq_false (by simpa using h1)),.f rfl] rfl (by simp[Ge] <;> omega) ?_;exact rd (i+1) (by omega) hij rfl
    ·have ce:=LY har (hWl p hpm) hWl (by omega) hq;rw[(hjb i p hij hp).resolve_left h1]at ce;refine go tt [.T,.x (G0 hp),.g 47 true (decide_eq_true h1),.x (G0 hp),.k ce,.f rfl] rfl (by simp[Ge] <;> omega) ?_;exact rd (i+1) (by omega) hij rfl
   ·obtain rfl:i=j:=by omega
    by_cases h3:b.id=s.id
    ·have ef:Ns T.sg W s W.length s [s]=O:=by rw[<-he];unfold Ns;rw[hb];exact if_pos h3
     rw[ef];exact Fh [.T,.x (G0 hj),.g 47 true (decide_eq_true hba),.x (G0 hj),.k cb,.t rfl,.x (G0 hj),.x hx0,.g 69 true (decide_eq_true h3),.t rfl] rfl rfl (by simp[Ge] <;> omega)
    ·have ef:Ns T.sg W s k b (O++[b])=Ns T.sg W s W.length s [s]:=by
      rw[<-he];show _=(match O9 T.sg W a with|none=>O|some b=>if b.id=s.id then O else Ns T.sg W s k b (O++[b]));rw[hb];exact(if_neg h3).symm
     refine go tt [.T,.x (G0 hj),.g 47 true (decide_eq_true hba),.x (G0 hj),.k cb,.t rfl,.x (G0 hj),.x hx0,.g 69 false (decide_eq_false h3),.r 75 (eI (b:=((O.length-1:Nat):Int)) (by omega)),.i (O.length-1),.x (G0 hla),.f (decide_eq_false hba),.s (sz:=7) h7z] rfl (by simp[Ge] <;> omega) ?_;have hl1:(O++[b]).length=O.length+1:=by simp
     exact rd (O++[b]) (by omega) ⟨by omega,b,hbW,by rw[hl1,Yj,Zj (Qn _),Yl];rfl,by rw[hl1,show W.length+1-(O.length+1)=k by omega];exact ef⟩ (by simp[He];rfl)
 ·rw[show W.length+1-O.length=0 by omega]at he;have ef:Ns T.sg W s W.length s [s]=O:=he.symm;rw[ef];exact Fh [.F] rfl
def Qu6(sg:Ft->Int)(a b c:Pt):Ct:=⟨3,a.id,b.id,c.id,0,Ls a.c b.c c.c,Hj sg (Ls a.c b.c c.c)⟩

def WC(k:Crv):Fu:=[Gq k.x [k.d],Gq k.y [k.d],Ms (Gq k.x k.x) (Gq k.y k.y),Gq [k.d] [k.d]]
def Ox(a b c d:Crv):List Fu:=[WC a,WC b,WC c,WC d]
def qC(a b c d:Crv):Ft:=Lj 4 (Ox a b c d)
theorem rS{k:Crv}(hk:Rs k):(∀p∈WC k,Bd 300000 p)/\∀(j:Nat) (p:Ft),(WC k)[j]? = some p->p.length≤[15,15,30,0].getD j 0+1:=by
 have aO:Bd 100000 [k.d]:=Qf3 hk.c.d;have l1:=Tc k.x [k.d];have l2:=Tc k.y [k.d];have l3:=Tc k.x k.x;have l4:=Tc k.y k.y;have l5:=Tc [k.d] [k.d];have l6:=Ex (Gq k.x k.x) (Gq k.y k.y);have hx:=hk.c.lx;have hy:=hk.c.ly;have e1:[k.d].length=1:=rfl;have m1:Bd 200005 (Gq k.x [k.d]):=Sf (u:=5) hk.c.x aO (by omega);have m2:Bd 200005 (Gq k.y [k.d]):=Sf (u:=5) hk.c.y aO (by omega);have m3:Bd 200005 (Gq k.x k.x):=Sf (u:=5) hk.c.x hk.c.x (by omega);have m4:Bd 200005 (Gq k.y k.y):=Sf (u:=5) hk.c.y hk.c.y (by omega);have m5:Bd 200005 (Gq [k.d] [k.d]):=Sf (u:=5) aO aO (by omega);refine⟨λp hp=>?_,λj p hp=>?_⟩
 ·simp only[WC,Qj,Vh,or_false]at hp;rcases hp with rfl|rfl|rfl|rfl
  ·exact Gd m1 (by decide)
  ·exact Gd m2 (by decide)
  ·exact Gd (I8 m3 m4) (by decide)
  ·exact Gd m5 (by decide)
 ·match j,hp with
  | 0,hp=>injection hp with hp;subst hp;show _<=16;omega
  | 1,hp=>injection hp with hp;subst hp;show _<=16;omega
  | 2,hp=>injection hp with hp;subst hp;show _<=31;omega
  | 3,hp=>injection hp with hp;subst hp;show _<=1;omega
  |j+4,hp=>simp[WC]at hp
theorem Qdp{a b c d:Crv}(ha:Rs a)(hb:Rs b)(hc:Rs c)(hd:Rs d):SqR 300000 [15,15,30,0] (Ox a b c d):=by
 have hr:∀r∈Ox a b c d,∃k:Crv,Rs k/\r=WC k:=λr hr=>by
  simp only[Ox,Qj,Vh,or_false]at hr;rcases hr with rfl|rfl|rfl|rfl
  ·exact⟨a,ha,rfl⟩
  ·exact⟨b,hb,rfl⟩
  ·exact⟨c,hc,rfl⟩
  ·exact⟨d,hd,rfl⟩
 refine⟨rfl,λr h=>?_,λr h=>?_,λr h=>?_⟩
 all_goals obtain⟨k,hk,rfl⟩:=hr r h
 ·rfl
 ·exact(rS hk).1
 ·exact(rS hk).2
theorem Qn6{a b c d:Crv}(ha:Rs a)(hb:Rs b)(hc:Rs c)(hd:Rs d):Fo 177 [.agg (Nn a),.agg (Nn b),.agg (Nn c),.agg (Nn d)] [.one (rp (zp (qC a b c d)))]:=by
 have cd:=bL (by decide) 4 [15,15,30,0] (Ox a b c d) (by decide) rfl (by decide) (Qdp ha hb hc hd);have x0:[Nn a,Nn b,Nn c,Nn d][0]? = some (Nn a):=rfl;have x1:[Nn a,Nn b,Nn c,Nn d][1]? = some (Nn b):=rfl;have x2:[Nn a,Nn b,Nn c,Nn d][2]? = some (Nn c):=rfl;have x3:[Nn a,Nn b,Nn c,Nn d][3]? = some (Nn d):=rfl;have hs1:∀k:Crv,∀y∈[[LV.row (zrw (WC k))]],y.length=1:=λk y hy=>by rw[Qp.1 hy];rfl
 have aO:∀{k:Crv},Rs k->Bd 100000 [k.d]:=λhk=>Qf3 hk.c.d
 have q1:=λ{k:Crv} (hk:Rs k)=>Ou (p:=k.x) (q:=k.x) (by have:=hk.c.lx;omega) (by have:=hk.c.lx;omega) hk.c.x hk.c.x (by decide)
 have q2:=λ{k:Crv} (hk:Rs k)=>Ou (p:=k.y) (q:=k.y) (by have:=hk.c.ly;omega) (by have:=hk.c.ly;omega) hk.c.y hk.c.y (by decide)
 have q3:=λ{k:Crv} (hk:Rs k)=>Ou (p:=k.x) (q:=[k.d]) (by have:=hk.c.lx;omega) (by show 1<=1000000;decide) hk.c.x (aO hk) (by decide)
 have q4:=λ{k:Crv} (hk:Rs k)=>Ou (p:=k.y) (q:=[k.d]) (by have:=hk.c.ly;omega) (by show 1<=1000000;decide) hk.c.y (aO hk) (by decide)
 have q5:=λ{k:Crv} (hk:Rs k)=>Ou (p:=[k.d]) (q:=[k.d]) (by show 1<=1000000;decide) (by show 1<=1000000;decide) (aO hk) (aO hk) (by decide)
 have q6:=λ{k:Crv} (hk:Rs k)=>BF (p:=Gq k.x k.x) (q:=Gq k.y k.y) (Gd (Sf (u:=5) hk.c.x hk.c.x (by have:=hk.c.lx;omega)) (by decide)) (Gd (Sf (u:=5) hk.c.y hk.c.y (by have:=hk.c.ly;omega)) (by decide)) (by have:=Tc k.x k.x;have:=hk.c.lx;omega) (by have:=Tc k.y k.y;have:=hk.c.ly;omega)
 refine Sp func177 rfl ?_;refine Ff [.o 9 29 1] rfl ?_;refine Fl (S:=Nat) 5 (λL1 i=>(22,.v (.oi i))::(9,.v (.one (.orow 4 1 none)))::L1) (λi=>[.blk 133 (Nn a),.blk 133 (Nn b),.blk 133 (Nn c),.blk 133 (Nn d),.row false 29 1 (yV ((Ox a b c d).take i))]) (λi=>4-i) (λi=>i<=4) 0 (by decide) rfl rfl λi hi=>?_
 rcases(show i=0\/i=1\/i=2\/i=3\/i=4 by omega)with rfl|rfl|rfl|rfl|rfl
 ·exact go tt [.t rfl,.x x0,.k (Dm ha),.k (q1 ha),.k (q2 ha),.k (q6 ha),.k (q3 ha),.k (q4 ha),.k (q5 ha),.s (sz:=1) (hs1 a)] rfl (by simp[Ge,yV,Ox]) (rd 1 (by omega) (by omega) rfl)
 ·exact go tt [.t rfl,.x x1,.k (Dm hb),.k (q1 hb),.k (q2 hb),.k (q6 hb),.k (q3 hb),.k (q4 hb),.k (q5 hb),.s (sz:=1) (hs1 b)] rfl (by simp[Ge,yV,Ox]) (rd 2 (by omega) (by omega) rfl)
 ·exact go tt [.t rfl,.x x2,.k (Dm hc),.k (q1 hc),.k (q2 hc),.k (q6 hc),.k (q3 hc),.k (q4 hc),.k (q5 hc),.s (sz:=1) (hs1 c)] rfl (by simp[Ge,yV,Ox]) (rd 3 (by omega) (by omega) rfl)
 ·exact go tt [.t rfl,.x x3,.k (Dm hd),.k (q1 hd),.k (q2 hd),.k (q6 hd),.k (q3 hd),.k (q4 hd),.k (q5 hd),.s (sz:=1) (hs1 d)] rfl (by simp[Ge,yV,Ox]) (rd 4 (by omega) (by omega) rfl)
 ·exact Fh [.f rfl,.k cd] rfl
def Qu4(sg:Ft->Int)(a b c d:Pt):Ct:=⟨4,a.id,b.id,c.id,d.id,qC a.c b.c c.c d.c,Hj sg (qC a.c b.c c.c d.c)⟩
variable(sg:Ft->Int)
def cK(W:List Pt)(x y z:Pt)(k n:Nat):List Ct:=Qu6 sg x y z::((W.drop (k+1)).take n).map (Qu4 sg x y z)
def cJ(W:List Pt)(x y:Pt)(j:Nat):Nat->List Ct
 | 0=>[]
 |n+1=>cJ W x y j n++match W[j+1+n]? with|none=>[]|some z=>cK sg W x y z (j+1+n) (W.length-(j+1+n)-1)
def cI(W:List Pt)(x:Pt)(i:Nat):Nat->List Ct
 | 0=>[]
 |n+1=>cI W x i n++match W[i+1+n]? with|none=>[]|some y=>cJ sg W x y (i+1+n) (W.length-(i+1+n)-1)
def cW(W:List Pt):Nat->List Ct
 | 0=>[]
 |n+1=>cW W n++match W[n]? with|none=>[]|some x=>cI sg W x n (W.length-n-1)
variable{sg:Ft->Int}
end Orr
namespace Orq
open Orr Go
def JE(a:Crv):Fu:=[Gs a.x a.d,Gs a.y a.d,Ms (Gq a.x a.x) (Gq a.y a.y),[a.d*a.d]]
def rP(a b c d:Crv):List Fu:=[JE a,JE b,JE c,JE d]
def Ed(a b c d:Crv):Ft:=Cn 4 (rP a b c d)
theorem HF{s:Nat}{k:Crv}(hn:UV k)(hc:Cs s 3 k):(∀p∈JE k,Gh p/\Bd (s+s+3) p)/\∀(j:Nat) (p:Ft),(JE k)[j]? = some p->p.length≤[2,2,4,0].getD j 0+1:=by
 have l1:=Gz k.x k.d;have l2:=Gz k.y k.d;have l3:=Tc k.x k.x;have l4:=Tc k.y k.y;have l5:=Ex (Gq k.x k.x) (Gq k.y k.y);have kx:=hc.lx;have ky:=hc.ly;have bx:Bd (s+s+2) (Gq k.x k.x):=Sf hc.x hc.x (by omega);have by_:Bd (s+s+2) (Gq k.y k.y):=Sf hc.y hc.y (by omega);have hd:=hn.2.2.1;have hd0:k.d*k.d≠0:=λe=>by rcases Yg.1 e with e|e <;> omega
 have td:Gh [k.d*k.d]:=by unfold Gh;simp[trim,hd0]
 refine⟨λp hp=>?_,λj p hp=>?_⟩
 ·simp only[JE,Qj,Vh,or_false]at hp;rcases hp with rfl|rfl|rfl|rfl
  ·exact⟨Gk _ _,Gd (G9 hc.x hc.d) (by omega)⟩
  ·exact⟨Gk _ _,Gd (G9 hc.y hc.d) (by omega)⟩
  ·exact⟨Gk _ _,Gd (I8 bx by_) (by omega)⟩
  ·refine⟨td,λz hz=>?_⟩;rw[Qp.1 hz];have:=Hn k.d k.d;have:=hc.d;omega
 ·match j,hp with
  | 0,hp=>injection hp with hp;subst hp;show _<=3;omega
  | 1,hp=>injection hp with hp;subst hp;show _<=3;omega
  | 2,hp=>injection hp with hp;subst hp;show _<=5;omega
  | 3,hp=>injection hp with hp;subst hp;exact Qn _
  |j+4,hp=>simp[JE]at hp
theorem mU{s:Nat}{a b c d:Crv}(na:UV a)(nb:UV b)(nc:UV c)(nd:UV d)(ca:Cs s 3 a)(cb:Cs s 3 b)(cc:Cs s 3 c)(cd:Cs s 3 d):Sq (s+s+3) [2,2,4,0] 4 4 (rP a b c d):=by
 have hr:∀r∈rP a b c d,∃k:Crv,UV k/\Cs s 3 k/\r=JE k:=λr hr=>by
  simp only[rP,Qj,Vh,or_false]at hr;rcases hr with rfl|rfl|rfl|rfl
  ·exact⟨a,na,ca,rfl⟩
  ·exact⟨b,nb,cb,rfl⟩
  ·exact⟨c,nc,cc,rfl⟩
  ·exact⟨d,nd,cd,rfl⟩
 refine⟨rfl,λr h=>?_,λr h p hp=>?_,λr h p hp=>?_,λr h j p hp=>?_⟩
 all_goals obtain⟨k,kn,kc,rfl⟩:=hr r h
 ·rfl
 ·exact((HF kn kc).1 p hp).1
 ·exact((HF kn kc).1 p hp).2
 ·exact(HF kn kc).2 j p hp
theorem oC{a b c d:Crv}(ha:Sc a)(hb:Sc b)(hc:Sc c)(hd:Sc d):Cp (Ed a b c d):=by
 obtain⟨h1,h2,h3⟩:=CZ 4 [2,2,4,0] (rP a b c d) (by decide) rfl (by decide) (mU ha.n hb.n hc.n hd.n ha.c hb.c hc.c hd.c);exact⟨h1,Qe h3 (by decide),Gd h2 (by decide)⟩
abbrev P3:=Pt×(Pt×Pt)
abbrev P4:=Pt×P3
def Em:Nat->List Pt->List P3
 | 0,_=>[]
 |_+1,[]=>[]
 |k+1,x::l=>(Hz l).map (λm=>(x,m))++Em k l
def Md(l:List Pt):List P3:=Em l.length l
def Qx9:Nat->List Pt->List P4
 | 0,_=>[]
 |_+1,[]=>[]
 |k+1,x::l=>(Md l).map (λm=>(x,m))++Qx9 k l
def Qya(l:List Pt):List P4:=Qx9 l.length l
theorem WY:∀(l:List Pt) (i:Nat) (x:Pt),l[i]? = some x->Em (i+1) l=Em i l++(Hz (l.drop (i+1))).map (λm=>(x,m))
 | [],i,x,h=>by simp at h
 |y::l,0,x,h=>by simp at h;subst h;simp[Em]
 |
  y::l,i+1,x,h=>by
  have ih:=WY l i x (by simpa using h);show(Hz l).map _++Em (i+1) l=((Hz l).map _++Em i l)++_;rw[ih,Zk];rfl
theorem CS{l:List Pt}(h:l.length<=6):(Md l).length<=20/\(Qya l).length<=15:=by
 match l,h with
 | [],_=>exact⟨Zm rfl,Zm rfl⟩
 | [_],_=>exact⟨Zm rfl,Zm rfl⟩
 | [_,_],_=>exact⟨Zm rfl,Zm rfl⟩
 | [_,_,_],_=>exact⟨Zm rfl,Zm rfl⟩
 | [_,_,_,_],_=>exact⟨Zm rfl,Zm rfl⟩
 | [_,_,_,_,_],_=>exact⟨Zm rfl,Zm rfl⟩
 | [_,_,_,_,_,_],_=>exact⟨Zm rfl,Zm rfl⟩
 |_::_::_::_::_::_::_::_,h=>simp at h
theorem ZW{x s:Int}(hx:-1<=x/\x<=1)(hs:-1<=s/\s<=1):-9223372036854775808<=x*s/\x*s<=9223372036854775807:=by
 have h:x=-1\/x=0\/x=1:=by omega
 rcases h with rfl|rfl|rfl <;> omega
end Orq
namespace Orr
open Go Go.Proofs Tryz Orq
def D3(b2 b3 b4 c2 c3 c4 d2 d3 d4:Rat):Rat:=b2*(c3*d4-d3*c4)-c2*(b3*d4-d3*b4)+d2*(b3*c4-c3*b4)
def D4(a1 a2 a3 a4 b1 b2 b3 b4 c1 c2 c3 c4 d1 d2 d3 d4:Rat):Rat:=a1*D3 b2 b3 b4 c2 c3 c4 d2 d3 d4-b1*D3 a2 a3 a4 c2 c3 c4 d2 d3 d4+c1*D3 a2 a3 a4 b2 b3 b4 d2 d3 d4-d1*D3 a2 a3 a4 b2 b3 b4 c2 c3 c4
theorem Qki(a1 a2 a3 a4 b1 b2 b3 b4 c1 c2 c3 c4 d1 d2 d3 d4:Ft)(q:Rat):Gf (Cn 4 [[a1,a2,a3,a4],[b1,b2,b3,b4],[c1,c2,c3,c4],[d1,d2,d3,d4]]) q=D4 (Gf a1 q) (Gf a2 q) (Gf a3 q) (Gf a4 q) (Gf b1 q) (Gf b2 q) (Gf b3 q) (Gf b4 q) (Gf c1 q) (Gf c2 q) (Gf c3 q) (Gf c4 q) (Gf d1 q) (Gf d2 q) (Gf d3 q) (Gf d4 q):=by
 show Gf (Lc (λi=>Cn 3 (VY [[a1,a2,a3,a4],[b1,b2,b3,b4],[c1,c2,c3,c4],[d1,d2,d3,d4]] i)) [[a1,a2,a3,a4],[b1,b2,b3,b4],[c1,c2,c3,c4],[d1,d2,d3,d4]] (0+1+1+1+1)) q=_;rw[C6,C6,C6,C6];show(0:Rat)+1*(Gf a1 q*Gf (Cn 3 [[b2,b3,b4],[c2,c3,c4],[d2,d3,d4]]) q)+(-1)*(Gf b1 q*Gf (Cn 3 [[a2,a3,a4],[c2,c3,c4],[d2,d3,d4]]) q)+1*(Gf c1 q*Gf (Cn 3 [[a2,a3,a4],[b2,b3,b4],[d2,d3,d4]]) q)+(-1)*(Gf d1 q*Gf (Cn 3 [[a2,a3,a4],[b2,b3,b4],[c2,c3,c4]]) q)=_;rw[ZM,ZM,ZM,ZM];unfold D4 D3;grind
theorem Qvi(a1 a2 a3 a4 b1 b2 b3 b4 c1 c2 c3 c4 d1 d2 d3 d4:Ft)(q:Rat):Gf (Lj 4 [[a1,a2,a3,a4],[b1,b2,b3,b4],[c1,c2,c3,c4],[d1,d2,d3,d4]]) q=D4 (Gf a1 q) (Gf a2 q) (Gf a3 q) (Gf a4 q) (Gf b1 q) (Gf b2 q) (Gf b3 q) (Gf b4 q) (Gf c1 q) (Gf c2 q) (Gf c3 q) (Gf c4 q) (Gf d1 q) (Gf d2 q) (Gf d3 q) (Gf d4 q):=by
 show Gf (Ms (Ms (Ms (Ms [] (QJ 0 (Gq a1 (Lj 3 [[b2,b3,b4],[c2,c3,c4],[d2,d3,d4]])))) (QJ 1 (Gq a2 (Lj 3 [[b1,b3,b4],[c1,c3,c4],[d1,d3,d4]])))) (QJ 2 (Gq a3 (Lj 3 [[b1,b2,b4],[c1,c2,c4],[d1,d2,d4]])))) (QJ 3 (Gq a4 (Lj 3 [[b1,b2,b3],[c1,c2,c3],[d1,d2,d3]])))) q=_;have k3:∀p:Ft,Gf (QJ 3 p) q=-Gf p q:=λp=>ZL p q
 rw[Mz,Mz,Mz,Mz,KD,PU,xP,k3,Gn,Gn,Gn,Gn,IU,IU,IU,IU];show(0:Rat)+_+_+_+_=_;unfold D4 D3;grind
theorem Qdj(a b c d:Crv):Gh (Ed a b c d):=TO 4
theorem Qkh(a b c d:Crv)(q:Rat):Gf (Ed a b c d) q=D4 (Gf (Gs a.x a.d) q) (Gf (Gs a.y a.d) q) (Gf (Ms (Gq a.x a.x) (Gq a.y a.y)) q) (Gf [a.d*a.d] q) (Gf (Gs b.x b.d) q) (Gf (Gs b.y b.d) q) (Gf (Ms (Gq b.x b.x) (Gq b.y b.y)) q) (Gf [b.d*b.d] q) (Gf (Gs c.x c.d) q) (Gf (Gs c.y c.d) q) (Gf (Ms (Gq c.x c.x) (Gq c.y c.y)) q) (Gf [c.d*c.d] q) (Gf (Gs d.x d.d) q) (Gf (Gs d.y d.d) q) (Gf (Ms (Gq d.x d.x) (Gq d.y d.y)) q) (Gf [d.d*d.d] q):=Qki ..
theorem rY(a b c d:Crv):qC a b c d=Ed a b c d:=by
 refine Oj (Gk _ _) (Qdj ..) λq=>?_
 rw[Qkh];show Gf (Lj 4 [[Gq a.x [a.d],Gq a.y [a.d],Ms (Gq a.x a.x) (Gq a.y a.y),Gq [a.d] [a.d]],[Gq b.x [b.d],Gq b.y [b.d],Ms (Gq b.x b.x) (Gq b.y b.y),Gq [b.d] [b.d]],[Gq c.x [c.d],Gq c.y [c.d],Ms (Gq c.x c.x) (Gq c.y c.y),Gq [c.d] [c.d]],[Gq d.x [d.d],Gq d.y [d.d],Ms (Gq d.x d.x) (Gq d.y d.y),Gq [d.d] [d.d]]]) q=_;have e1:∀(p:Ft) (z:Int),Gf (Gq p [z]) q=Gf (Gs p z) q:=λp z=>by rw[Gn,Td,IF]
 have e2:∀z:Int,Gf (Gq [z] [z]) q=Gf [z*z] q:=λz=>by rw[Gn,IF,IF];push_cast;rfl
 rw[Qvi];rw[e2 a.d,e2 b.d,e2 c.d,e2 d.d];simp only[e1]
end Orr
namespace Orr
open Go Go.Proofs Tryz Orq
set_option maxRecDepth 10000
theorem Qha{a b c d:Crv}(ha:Sc a)(hb:Sc b)(hc:Sc c)(hd:Sc d):Fo 177 [.agg (Nn a),.agg (Nn b),.agg (Nn c),.agg (Nn d)] [.one (rp (zp (qC a b c d)))]:=Qn6 ha.rs hb.rs hc.rs hd.rs
theorem Qdi{a b c d:Crv}(ha:Sc a)(hb:Sc b)(hc:Sc c)(hd:Sc d):Cp (qC a b c d):=by
 rw[rY];exact oC ha hb hc hd
end Orr
namespace Orq
open Go Go.Proofs Tryz Orr
set_option maxRecDepth 10000
theorem Qxw{t:Tm}(h:t.lo<t.hi):t.point=false:=by
 unfold Tm.point;refine decide_eq_false λh'=>?_
 rcases Int.lt_or_eq_of_le h' with h1|h1
 ·have:=Df.1 h1;grind
 ·have:=Pa.1 h1.symm;grind
theorem Qs1{t:Tm}{C:Fu}{N:Nat}(va:Va t)(ck:Cok C)(hl:t.lo<t.hi)(V:Vt (cz t.p) (C.map cz) t.lo t.hi)(an:Anc t.p)(g:∃D M k,Gr D M k t.lo/\Gr D M k t.hi/\0<M/\Gy (D:Int)+Gy (M:Int)+k<=N):AT t C N (Oz t.p t.lo t.hi) t.hi:=by
 obtain⟨D,M,k,g1,g2,g3,g4⟩:=g;have hne:Tj t.lo t.hi≠0:=λh=>by have:=Pa.1 h;grind
 by_cases h0:Hp t.p t.hi=0
 ·have e:Oz t.p t.lo t.hi=t.hi:=by unfold Oz;rw[if_pos ⟨hne,h0⟩]
  rw[e];refine⟨va,ck,.inl ⟨rfl,?_⟩,λ_=>an,D,M,k,g2,g2,g3,g4⟩;rw[Pp hl];unfold cq;rw[if_neg (by grind),if_neg Uq,if_pos (by rw[Se]at h0;rw[Gg];exact h0)]
 ·have e:Oz t.p t.lo t.hi=t.lo:=by unfold Oz;rw[if_neg λh=>h0 h.2]
  rw[e];exact⟨va,ck,.inr ⟨Qxw hl,V,λq=>(Pp hl q).symm,h0⟩,λ_=>an,D,M,k,g1,g2,g3,g4⟩
theorem _root_.Orr.TnOk.at_{p q:Ft}{c:Fu}{l:List Tm}(h:TnOk p q c l){t:Tm}(ht:t∈l):AT t c 82000 (Oz q t.lo t.hi) t.hi:=by
 obtain⟨e1,e2,V⟩:=h.vt t ht;rw[<-e1]at V;have:=Qs1 (h.va t ht) h.ck e2 V (by rw[e1];exact h.sz.1) (h.gr t ht);rwa[e1]at this
end Orq
namespace Orr
open Go Go.Proofs Tryz Orq
set_option maxRecDepth 10000
abbrev VM(n d:Int):Rat:=T0 (Af n 61-30) (1+Af d 6)
theorem Qe2(n d:Int):Qs 100 (VM n d):=by
 have h1:Af n 61=n % 61:=rfl;have h2:Af d 6=d % 6:=rfl;unfold VM T0;rw[if_neg (by omega)];exact Qs.divInt (Qe (Pf.2 (show(Af n 61-30).natAbs<2^10 by omega)) (by decide)) (Qe (Pf.2 (show(1+Af d 6).natAbs<2^10 by omega)) (by decide)) (by decide)
theorem O3{l:Ft}{i:Nat}{z:Int}(h:l[i]? = some z):(Cq l)[i]? = some [.int .i64 z]:=Tz (f:=λz:Int=>[LV.int .i64 z]) h
theorem Qr5{l:Ft}(hl:l.length≤1000)(hb:∀z∈l,-1000000000≤z/\z≤1000000000):Fo 54 [.one (ids l)] [.one (rp (zp (trim l)))]:=by
 have cc:=XB (p:=zp l);rw[Dk]at cc;have hil:(Cq l).length=l.length:=by simp[Cq]
 show Fo 54 [.one (.row (Cq l))] _;refine Sp func54 rfl ?_;refine Ff [.o 3 34 4] rfl ?_;refine Fl (S:=Nat) 1 (λL1 i=>(7,.v (.oi i))::(3,.v (.one (.orow 0 4 none)))::L1) (λi=>[.row false 34 4 (frow ((zp l).take i))]) (λi=>l.length-i) (λi=>i<=l.length) 0 (Qh _) rfl rfl λi hi=>?_
 by_cases h:i<l.length
 ·obtain⟨z,hz⟩:=gxE (l:=l) (i:=i) h;have hzb:=hb z (Qa hz);have htl:(frow ((zp l).take i)).length=i:=by rw[Pj,Qz,Ma];omega
  have hnx:(zp l).take (i+1)=(zp l).take i++[(z:Rat)]:=by
   rw[X1,zp,Q8,hz];rfl
  refine go tt [.T,.x (O3 hz),.k (UW (n:=z) (by omega)),.s (sz:=4) (sT _)] rfl (by simp[Ge,htl];omega) ?_;exact rd (i+1) (by omega) h (by rw[hnx,SK];rfl)
 ·obtain rfl:i=l.length:=by omega
  rw[Qo (by rw[Ma];exact Qn _)];exact Fh [.F,.k cc] rfl
structure RtOk(q:List Int)(c:List (List Int))(l:List Tm):Prop where
 n:l.length<=67
 ck:Cok c
 va:∀t∈l,Va t
 vt:∀t∈l,t.p=q/\t.lo<t.hi/\Vt (cz q) (c.map cz) t.lo t.hi
 sz:Anc q/\q.length<=9
 gr:∀t∈l,∃D M k,Gr D M k t.lo/\Gr D M k t.hi/\0<M/\Gy (D:Int)+Gy (M:Int)+k≤82000
theorem Qev{p:Ft}(ok:Okp 9 1110 p)(l2:2<=p.length):∃q c l,RtOk q c l/\Fo 57 [.one (rp (zp p))] [.one (.row (DZ q c l))]:=by
 have okb:Okp 9 1180 p:=⟨BO,ok.t,ok.nz,ok.l,Gd ok.b (by decide)⟩;obtain⟨q,L,o,hpt,hS,ck,hCh,s1,s2,⟨g,sq⟩,q2,qp,bq⟩:=qB okb l2;obtain⟨q',c,l,r1,r2,r3,_,hRI,hva,_,_,hz⟩:=pO (by decide) ok;obtain rfl:q'=q:=Option.some.inj (r1.symm.trans s1);obtain rfl:c=q'::L:=Option.some.inj (r2.symm.trans s2);have Ei:=ok.l;have hall:=qP (ok.pb (by decide)) r2 sq.pq.n;have hld:Gp q'≠0:=by have:=sq.pq.l;omega
 obtain⟨D,M,hM,gb,hD,hMs⟩:=Qf5 hld bq;have hb1:=QT hld;have hrun:I3 q' (q'::L) 100000 (-Hu q') (Hu q') (wA (q'::L))=some l:=by
  unfold II at r3;rw[r2,Y3,r1,Y3]at r3;obtain⟨b,hb',r3⟩:=Qk.1 r3;have:Hu q'=b:=by
   unfold oW at hb'
   split at hb'
   ·injection hb' with hb'
   ·cases hb'
  rw[<-this]at r3;exact r3
 have hbw:(-Hu q')<Hu q':=by grind
 have hsr:=uU hM 100000 0 _ _ _ l hrun hbw (by rw[jW hS hall,Mp (Qm hbw)]) (Qi0 gb) gb (by omega);have hln:l.length<=67:=by
  have h1:=hRI.len;have h2:=Qmt ((q'::L).map cz) (-Hu q');have h3:=(Orr.chain_ok (ok.pb (by decide)) r2).1;rw[Q5]at h2;omega
 obtain⟨⟨m',f',kF,kP,eq_⟩,_⟩:=id hCh;have cr:=Qg2 ok.t (Gd ok.b (by decide)) (by omega) l2 kF kP eq_ hCh sq.pq.t q2 (by omega) (Gd bq (by decide)) ck hsr (by omega);obtain⟨pp,hl,hb⟩:=ok.pr;have e1:∀t,Gf (Gm p) t=Gf q' t*Gf g t:=λt=>by rw[sq.e];grind
 have anc:Anc q':=⟨Gm p,g,pp.t,pp.n,by omega,hb,sq.pg.t,e1⟩;refine⟨q',q'::L,l,⟨hln,ck,hva,λt ht=>?_,⟨anc,by omega⟩,λt ht=>?_⟩,cr⟩
 ·obtain⟨h1,h2⟩:=Qvn hRI ht;exact⟨h2,(hz t ht).2.1,h1⟩
 ·obtain⟨_,_,_,D,M,k,x1,x2,x3,x4,x5,x6⟩:=hz t ht;exact⟨D,M,k,x1,x2,x3,by omega⟩
theorem RtOk.at_{q:Ft}{c:Fu}{l:List Tm}(h:RtOk q c l){t:Tm}(ht:t∈l):AT t c 82000 (Oz q t.lo t.hi) t.hi:=by
 obtain⟨e1,e2,V⟩:=h.vt t ht;rw[<-e1]at V;have:=Qs1 (h.va t ht) h.ck e2 V (by rw[e1];exact h.sz.1) (h.gr t ht);rwa[e1]at this
structure Pk(t:Tm)(C:List (List Int)):Prop where
 va:Va t
 rt:RT ⟨t.p,C,t.lo,t.hi,Hi t⟩
 to:Fo 19 [.agg (ax t.p C t.lo t.hi)] [.agg (ta t)]
theorem bC{p:Ft}{C:Fu}{lo hi:Rat}(hp:Bd 8000000 p)(lp:p.length<=60)(tp:Gh p)(ql:Qs 2000000 lo)(qh:Qs 2000000 hi):Fo 19 [.agg (ax p C lo hi)] [.agg (ta ⟨p,lo,hi⟩)]:=by
 have c1:=Qg4 (p:=p) (Gd hp (by decide)) (by omega);have c2:=Qr4 (q:=lo) (ql.mono (by decide));have c3:=Qr4 (q:=hi) (qh.mono (by decide));exact Fi func19 rfl [.k c1,.k c2,.k c3] rfl
theorem Qyr{t:Tm}(h:Va t)(h0:Hp t.p t.hi=0):Va ⟨t.p,t.hi,t.hi⟩:=by
 have hpt:(⟨t.p,t.hi,t.hi⟩:Tm).point=true:=M3.2 Ql;have no:∀{P:Prop},(⟨t.p,t.hi,t.hi⟩:Tm).point=false->P:=λh=>by rw[hpt]at h;cases h
 obtain⟨D,M,k,g1,g2,hM,hs⟩:=h.g;have hl:lim t<=3300000:=by unfold lim;split <;> omega
 refine⟨.inl ⟨rfl,?_⟩,h.tr,h.n,h.n2,h.b,no,no,D,M,k,g2,g2,hM,?_⟩
 ·rw[Se]at h0;exact Ha.1 h0
 ·have:lim ⟨t.p,t.hi,t.hi⟩=3300000:=by unfold lim;rw[if_pos hpt]
  omega
theorem RtOk.pk{q:Ft}{c:Fu}{l:List Tm}(h:RtOk q c l){t:Tm}(ht:t∈l):∃u:Tm,Pk u c/\axr q c t=ax u.p c u.lo u.hi:=by
 have hat:=h.at_ ht;obtain⟨e1,e2,V⟩:=h.vt t ht;have va:=h.va t ht;have b8:Bd 8000000 t.p:=Gd (by rw[e1];exact h.sz.1.bd (by rw[<-e1];exact va.tr)) (show 1179<=8000000 by decide);have n9:=va.n;have hne:Tj t.lo t.hi≠0:=λh=>by have:=Pa.1 h;grind
 obtain⟨ql,qh⟩:=hat.qs (by decide);by_cases h0:Hp q t.hi=0
 ·have e:Oz q t.lo t.hi=t.hi:=by unfold Oz;rw[if_pos ⟨hne,h0⟩]
  have v2:=Qyr va (by rw[e1];exact h0);obtain⟨D,M,k,g1,g2,hM,hs⟩:=h.gr t ht;have at2:AT ⟨t.p,t.hi,t.hi⟩ c 82000 t.hi t.hi:=⟨v2,h.ck,.inl ⟨rfl,by rw[An rfl];exact Dz _⟩,λ_=>by rw[show(⟨t.p,t.hi,t.hi⟩:Tm).p=q from e1];exact h.sz.1,D,M,k,g2,g2,hM,hs⟩;exact⟨⟨t.p,t.hi,t.hi⟩,⟨v2,Qsu at2 (by decide),bC (p:=t.p) b8 (by omega) va.tr qh qh⟩,by show ax q c (Oz q t.lo t.hi) t.hi=ax t.p c t.hi t.hi;rw[e,e1]⟩
 ·have e:Oz q t.lo t.hi=t.lo:=by unfold Oz;rw[if_neg λh=>h0 h.2]
  rw[e]at hat ql;exact⟨t,⟨va,Qsu hat (by decide),bC b8 (by omega) va.tr ql qh⟩,by show ax q c (Oz q t.lo t.hi) t.hi=ax t.p c t.lo t.hi;rw[e,e1]⟩
theorem Qx7{q:Rat}{c:Fu}(hq:Qs 1640000 q):Pk (tq q) c:=by
 refine⟨Qys hq,⟨λ{p} hp=>?_⟩,bC (Gd (Qrx hq) (by decide)) (by show 2<=60;decide) (uF q) (hq.mono (by decide)) (hq.mono (by decide))⟩;show Fo 16 [.one (rp (zp p)),.agg (aq q c)] [.oi (Hj (Hi (tq q)) p)];rw[Qix];exact Qgz (Gd (vK hp) (by decide)) (by have:=hp.l;omega) (hq.mono (by decide))
theorem OP{v n:Int}(h:0<n):0<=Af v n/\Af v n<n:=by
 unfold Af;rw[if_neg (by omega)];exact⟨K6 _ (by omega),V6 _ h⟩
theorem aG(z:Int):-9223372036854775808<=IntKind.i64.wrap z/\IntKind.i64.wrap z<=9223372036854775807:=by
 simp[IntKind.wrap,IntKind.bits,IntKind.signed];omega
def wF(z:Int):Int:=Af (IntKind.i64.wrap (z+6)) 13-6
theorem Qvj(z:Int):-6<=wF z/\wF z<=6:=by
 have:=OP (v:=IntKind.i64.wrap (z+6)) (n:=13) (by decide);unfold wF;omega
theorem Qtu{l:Ft}{k:Int}(hl:∀z∈l,-9223372036854775808≤z/\z≤9223372036854775807)(hk:-9223372036854775808≤k/\k≤9223372036854775807)(hn:l.length<9223372036854775808):∃t C,Pk t C/\Fo 13 [.one (.row (Cq l)),.oi k] [.agg (ax t.p C t.lo t.hi)]:=by
 have hil:(Cq l).length=l.length:=by simp[Cq]
 obtain⟨c,hc⟩:=nmE ((l.take 5).map wF);have hcl:c.length<=5:=by rw[hc,Q5,Qz];omega
 have hcb:∀z∈c,-6≤z/\z≤6:=λz hz=>by
  rw[hc]at hz;obtain⟨u,_,rfl⟩:=Zc.1 hz;exact Qvj u
 have co:=Qr5 (l:=c) (by omega) λz hz=>by have:=hcb z hz;omega
 have hq0:=Qe2 k (l.length:Int);have cs:=iF (n:=k) (d:=(l.length:Int)) hk (by omega);rw[show T0 (Af k 61-30) (1+Af (l.length:Int) 6)=VM k (l.length:Int) from rfl]at cs;have cr:=MG (q:=VM k (l.length:Int)) (hq0.mono (by decide)) (Qsp (hq0.mono (by decide)));have pkq:=Qx7 (q:=VM k (l.length:Int)) (c:=[[-(VM k (l.length:Int)).num,((VM k (l.length:Int)).den:Int)],[1]]) (hq0.mono (by decide));obtain⟨q,hq⟩:=nmE (VM k (l.length:Int));rw[<-hq]at cs cr pkq;have hfl:=GP (trim c);have htl:=Sl c;have step:∀i z,l[i]? = some z->i<5->(l.take (i+1)).map wF=(l.take i).map wF++[wF z]:=λi z hz _=>by
  rw[X1,hz,Jl,Xx];rfl
 have VF:∀z:Int,∀y∈[[LV.int .i64 z]],y.length=1:=λz y hy=>by rw[Qp.1 hy];rfl
 by_cases h2:(trim c).length<2
 ·refine⟨tq q,_,pkq,?_⟩;refine Sp func13 rfl ?_;refine Ff [.o 5 3 1] rfl ?_;refine Fl (S:=Nat) 2 (λL1 i=>(6,.v (.oi i))::(5,.v (.one (.orow 1 1 none)))::L1) (λi=>[.blk 36 [.nils,.nils,.nils,.bool false,.nils,.bool false,.nils,.bool false,.nils,.bool false],.row false 3 1 (Cq ((l.take i).map wF))]) (λi=>5-i) (λi=>i<=5/\i<=l.length) 0 ⟨by decide,Qh _⟩ rfl rfl λi ⟨hi,hi2⟩=>?_
  have hrl:(Cq ((l.take i).map wF)).length=i:=by simp[Cq];omega
  by_cases h:i<l.length/\i<5
  ·obtain⟨z,hz⟩:=gxE (l:=l) (i:=i) h.1;have cw:=If (v:=IntKind.i64.wrap (z+6)) (n:=13) (aG _) (by decide);have wb:=OP (v:=IntKind.i64.wrap (z+6)) (n:=13) (by decide);refine go tt [.g 13 true Fq,.T,.x (O3 hz),.w 0,.k cw,.s (sz:=1) (VF _)] rfl (by simp[Ge,hrl];omega) ?_;exact rd (i+1) (by omega) ⟨h.2,h.1⟩ (by rw[step i z hz h.2];simp[Cq,wF];rfl)
  have e:(l.take i).map wF=c:=by
   rw[hc];by_cases h1:i<l.length
   ·rw[show i=5 by omega]
   ·rw[Qo (by omega),Qo (by omega)]
  rw[e];by_cases h1:i<l.length
  ·exact Fh [.g 13 true Fq,.F,.k co,.T,.r 36 (eI (b:=(l.length:Int)) (by omega)),.k cs,.k cr] rfl rfl (by simp[Ge])
  ·exact Fh [.g 13 false Fp,.f rfl,.k co,.T,.r 36 (eI (b:=(l.length:Int)) (by omega)),.k cs,.k cr] rfl rfl (by simp[Ge])
 have okp:Okp 9 1110 (trim c):=⟨⟨by decide,by decide⟩,Tg c,by omega,by omega,Mb λz hz=>by
  have:=hcb z hz;refine Qe (Pf.2 (show z.natAbs<2^3 by omega)) (by decide)⟩
 obtain⟨rq,rc_,r,rok,crt⟩:=Qev okp (by omega);have hrr:(DZ rq rc_ r).length=r.length:=Q5 _;have hr67:=rok.n;by_cases h0:r.length=0
 ·refine⟨tq q,_,pkq,?_⟩;refine Sp func13 rfl ?_;refine Ff [.o 5 3 1] rfl ?_;refine Fl (S:=Nat) 2 (λL1 i=>(6,.v (.oi i))::(5,.v (.one (.orow 1 1 none)))::L1) (λi=>[.blk 36 [.nils,.nils,.nils,.bool false,.nils,.bool false,.nils,.bool false,.nils,.bool false],.row false 3 1 (Cq ((l.take i).map wF))]) (λi=>5-i) (λi=>i<=5/\i<=l.length) 0 ⟨by decide,Qh _⟩ rfl rfl λi ⟨hi,hi2⟩=>?_
  have hrl:(Cq ((l.take i).map wF)).length=i:=by simp[Cq];omega
  by_cases h:i<l.length/\i<5
  ·obtain⟨z,hz⟩:=gxE (l:=l) (i:=i) h.1;have cw:=If (v:=IntKind.i64.wrap (z+6)) (n:=13) (aG _) (by decide);have wb:=OP (v:=IntKind.i64.wrap (z+6)) (n:=13) (by decide);refine go tt [.g 13 true Fq,.T,.x (O3 hz),.w 0,.k cw,.s (sz:=1) (VF _)] rfl (by simp[Ge,hrl];omega) ?_;exact rd (i+1) (by omega) ⟨h.2,h.1⟩ (by rw[step i z hz h.2];simp[Cq,wF];rfl)
  have e:(l.take i).map wF=c:=by
   rw[hc];by_cases h1:i<l.length
   ·rw[show i=5 by omega]
   ·rw[Qo (by omega),Qo (by omega)]
  rw[e];by_cases h1:i<l.length
  ·exact Fh [.g 13 true Fq,.F,.k co,.F,.k crt,.T,.r 46 (eI (b:=(l.length:Int)) (by omega)),.k cs,.k cr] rfl rfl (by simp[Ge])
  ·exact Fh [.g 13 false Fp,.f rfl,.k co,.F,.k crt,.T,.r 46 (eI (b:=(l.length:Int)) (by omega)),.k cs,.k cr] rfl rfl (by simp[Ge])
 have wn:=OP (v:=k) (n:=(r.length:Int)) (by omega);obtain⟨j,hj⟩:∃j:Nat,Af k (r.length:Int)=(j:Int):=⟨(Af k (r.length:Int)).toNat,by omega⟩;obtain⟨u,hu⟩:=gxE (l:=r) (i:=j) (by omega);have cwk:=If (v:=k) (n:=(r.length:Int)) hk (by omega);rw[hj]at cwk;obtain⟨t,hp,ht⟩:=rok.pk (Qa hu);have hgu:(DZ rq rc_ r)[j]? = some (ax t.p rc_ t.lo t.hi):=by rw[<-ht];exact Tz hu
 refine⟨t,rc_,hp,?_⟩;refine Sp func13 rfl ?_;refine Ff [.o 5 3 1] rfl ?_;refine Fl (S:=Nat) 2 (λL1 i=>(6,.v (.oi i))::(5,.v (.one (.orow 1 1 none)))::L1) (λi=>[.blk 36 [.nils,.nils,.nils,.bool false,.nils,.bool false,.nils,.bool false,.nils,.bool false],.row false 3 1 (Cq ((l.take i).map wF))]) (λi=>5-i) (λi=>i<=5/\i<=l.length) 0 ⟨by decide,Qh _⟩ rfl rfl λi ⟨hi,hi2⟩=>?_
 have hrl:(Cq ((l.take i).map wF)).length=i:=by simp[Cq];omega
 by_cases h:i<l.length/\i<5
 ·obtain⟨z,hz⟩:=gxE (l:=l) (i:=i) h.1;have cw:=If (v:=IntKind.i64.wrap (z+6)) (n:=13) (aG _) (by decide);have wb:=OP (v:=IntKind.i64.wrap (z+6)) (n:=13) (by decide);refine go tt [.g 13 true Fq,.T,.x (O3 hz),.w 0,.k cw,.s (sz:=1) (VF _)] rfl (by simp[Ge,hrl];omega) ?_;exact rd (i+1) (by omega) ⟨h.2,h.1⟩ (by rw[step i z hz h.2];simp[Cq,wF];rfl)
 have e:(l.take i).map wF=c:=by
  rw[hc];by_cases h1:i<l.length
  ·rw[show i=5 by omega]
  ·rw[Qo (by omega),Qo (by omega)]
 rw[e];by_cases h1:i<l.length
 ·exact Fh [.g 13 true Fq,.F,.k co,.F,.k crt,.F,.r 52 (eI (b:=(r.length:Int)) (by omega)),.k cwk,.x hgu] rfl rfl (by simp[Ge])
 ·exact Fh [.g 13 false Fp,.f rfl,.k co,.F,.k crt,.F,.r 52 (eI (b:=(r.length:Int)) (by omega)),.k cwk,.x hgu] rfl rfl (by simp[Ge])
structure Cw(sg:List Int->Int)(c:Ct):Prop where
 p:Cp c.p
 w:Hj sg c.p=c.want
section
variable{sg:Ft->Int}
variable{l:List Pt}(hl:∀p∈l,Sc p.c)
include hl
omit hl
include hl
end
end Orr
namespace Orr
open Go Go.Proofs Tryz Orq
set_option maxRecDepth 10000
end Orr
namespace Orq
open Orr Go
section
variable{α:Type}{lt lt':α->α->Bool}
end
theorem wI{a:Tm}{l:List Pt}{q:Rat}(hb:∀u∈l,∀v∈l,(Rk (Hi a) u v=true↔ZY q u v))(hd:l.Pairwise λx y=>x.id≠y.id):(Rj a l).Pairwise (ZY q) :=
 foldG_pw (S:=λx=>x∈l) (D:=λx y=>x.id≠y.id) (BL q) (λu v hu hv h=>(hb u hu v hv).1 h) (λu v hu hv hne h=>Qjn (λe=>hne e.symm) λh'=>by
  rw[(hb u hu v hv).2 h']at h;cases h) l [] .nil (λx hx=>by cases hx) (λx hx=>hx) hd (λx hx=>by cases hx)
theorem Quu{a:Tm}(ha:Va a){u v:Pt}(hu:Sc u.c)(hv:Sc v.c){q:Rat}(h1:Hj (Hi a) (Hg u.c v.c)=Gt (Gf (Hg u.c v.c) q))(h2:Hj (Hi a) (Hf u.c v.c)=Gt (Gf (Hf u.c v.c) q))(hne:u.c≠v.c)(h:ZY q u v):lx (px · q) (py · q) u v:=by
 rcases h with h|⟨h,h3⟩
 ·exact .inl h
 rcases h3 with h3|⟨h3,_⟩
 ·exact .inr ⟨h,h3⟩
 ·exfalso;rw[PE hu hv]at h1;rw[PL hu hv]at h2;have z1:Gt (px v q-px u q)=0:=Ha.2 (by grind);have z2:Gt (py v q-py u q)=0:=Ha.2 (by grind);rw[z1]at h1;rw[z2]at h2;have e1:(Hg u.c v.c).length=0:=Decidable.byContradiction λe=>(B7 ha (Cz hu hv).dp e).2 h1
  have e2:(Hf u.c v.c).length=0:=Decidable.byContradiction λe=>(B7 ha (Cy hu hv).dp e).2 h2
  exact hne (Qbq hu.n hv.n (Qg e1) (Qg e2))
structure LowC(X Y:Pt->Rat)(R L:List Pt):Prop where
 hd:L.head? = R.head?
 la:L.getLast? = R.getLast?
 srt:L.Pairwise (lx X Y)
 mem:∀p∈L,p∈R
 edg:Edg (λa b=>∀p∈R,0≤Hy X Y a b p) L
 cnv:Cnv (λa b c=>0<Hy X Y a b c) L
theorem qT{X Y:Pt->Rat}{sg:Ft->Int}{R:List Pt}(hs:∀a∈R,∀b∈R,∀c∈R,(sX sg a b c=true↔0<Hy X Y a b c))(hR:R.Pairwise (lx X Y))(h0:R≠[]):LowC X Y R (Ii sg R):=by
 cases R with
 |nil=>exact absurd rfl h0
 |
  cons f R =>
  obtain⟨t,st,g1,g2,g3,g4⟩:=qS hs hR R [f] f [] rfl ⟨V3 _ _,λp hp=>by rw[Qp.1 hp];simp,trivial,trivial⟩ rfl rfl;have e:Ii sg (f::R)=(t::st).reverse:=by
   unfold Ii;rw[<-g1];rfl
  rw[e];exact⟨by rw[List.head?_reverse,g4],by rw[List.getLast?_reverse];exact g3.symm,Kn.2 g2.srt,λp hp=>g2.mem p (Xw.1 hp),g2.edg.rev,g2.cnv.rev⟩
theorem JX(X Y:Pt->Rat)(a b c:Pt):Hy (λp=>-X p) (λp=>-Y p) a b c=Hy X Y a b c:=by unfold Hy;grind
theorem AM{X Y:Pt->Rat}{a b:Pt}:lx (λp=>-X p) (λp=>-Y p) a b↔lx X Y b a:=by unfold lx;grind
theorem Qsw{L:List Pt}{f z:Pt}(h1:L.head? = some f)(h2:L.getLast? = some z)(hne:f≠z):∃A,L=f::A++[z]:=by
 cases L with
 |nil=>cases h1
 |
  cons g M =>
  simp at h1;subst h1;cases M with
  |nil=>simp at h2;exact absurd h2 hne
  |
   cons x M =>
   rw[Wm]at h2;obtain⟨A,hA⟩:=List.getLast?_eq_some_iff.1 h2;exact⟨A,by rw[hA];rfl⟩
structure Soon(l:List Pt)(a:Tm)(q:Rat):Prop where
 g:∀p∈nT l++Qfr l,Hj (Hi a) p=Gt (Gf p q)
 b:∀u∈l,∀v∈l,(Rk (Hi a) u v=true↔ZY q u v)
 o:∀u∈l,∀v∈l,∀w∈l,Hj (Hi a) (G8 u.c v.c w.c)=Gt (Hy (px · q) (py · q) u v w)
 t:∀u∈l,∀v∈l,∀w∈l,(sX (Hi a) u v w=true↔0<Hy (px · q) (py · q) u v w)
 r:(Rj a (Gu l)).Pairwise (lx (px · q) (py · q))
theorem Ql7{l:List Pt}(hl:∀p∈l,Sc p.c)(hd:l.Pairwise λx y=>x.id≠y.id){a:Tm}(ha:Va a):∃y,Hk a y=-1/\∀q,Hk a q=-1->q≤y->Soon l a q:=by
 obtain⟨y,y1,y2⟩:=GN ha (nT l++Qfr l) λp hp=>(Qnq hl p hp).dp
 refine⟨y,y1,λq q1 q2=>?_⟩;have g:=y2 q q1 q2;have gP:=λp hp=>g p (Xu _ hp)
 have b:∀u∈l,∀v∈l,(Rk (Hi a) u v=true↔ZY q u v):=λu hu v hv=>nD ha (hl u hu) (hl v hv) (gP _ (QR hu hv).1) (gP _ (QR hu hv).2)
 have o:∀u∈l,∀v∈l,∀w∈l,Hj (Hi a) (G8 u.c v.c w.c)=Gt (Hy (px · q) (py · q) u v w):=λu hu v hv w hw=>by
  rw[g _ (Kl _ (Qfs hu hv hw)),eN (hl u hu) (hl v hv) (hl w hw)]
 refine⟨g,b,o,λu hu v hv w hw=>?_,?_⟩
 ·unfold sX;rw[o u hu v hv w hw,decide_eq_true_eq];have:=Hd (Hy (px · q) (py · q) u v w);grind
 ·have hw:∀u∈Gu l,u∈l:=λu hu=>Hr hu
  have h1:=wI (a:=a) (l:=Gu l) (q:=q) (λu hu v hv=>b u (hw u hu) v (hw v hv)) (List.Pairwise.sublist (By l) hd);have h2:(Rj a (Gu l)).Pairwise λx y=>x.c≠y.c:=(List.Perm.pairwise_iff (λ{x y} h e=>h e.symm) (OY (lt:=Rk (Hi a)) (Gu l))).2 (Qrg l)
  refine(h1.and h2).imp_of_mem λ{u v} hu hv h=>?_
  have hu:=hw u (Rx.1 hu);have hv:=hw v (Rx.1 hv);exact Quu ha (hl u hu) (hl v hv) (gP _ (QR hu hv).1) (gP _ (QR hu hv).2) h.2 h.1
theorem Mt{l:List Pt}(hl:∀p∈l,Sc p.c)(hd:l.Pairwise λx y=>x.id≠y.id){a:Tm}(ha:Va a):∃q,Soon l a q :=
 let⟨y,h1,h2⟩:=Ql7 hl hd ha
 ⟨y,h2 y h1 Ql⟩
theorem Bi{l:List Pt}{a:Tm}{q:Rat}(S:Soon l a q)(h3:3<=(Rj a (Gu l)).length):∃f z A B,Ii (Hi a) (Rj a (Gu l))=f::A++[z]/\Ii (Hi a) (Rj a (Gu l)).reverse=z::B++[f]/\LowC (px · q) (py · q) (Rj a (Gu l)) (f::A++[z])/\LowC (λp=>-px p q) (λp=>-py p q) (Rj a (Gu l)).reverse (z::B++[f])/\Lk (Gx l a)=Ik (f::A++[z])++Ik (z::B++[f])/\2<=(Gx l a).length:=by
 obtain⟨R,hR⟩:=nmE (Rj a (Gu l));have hm:∀x∈R,x∈l:=λx hx=>by rw[hR]at hx;exact Hr (Rx.1 hx)
 have r:=S.r;rw[<-hR]at r h3 ⊢;have h0:R≠[]:=λe=>by rw[e]at h3;simp at h3
 have c1:=qT (sg:=Hi a) (λu hu v hv w hw=>S.t u (hm u hu) v (hm v hv) w (hm w hw)) r h0;have r2:R.reverse.Pairwise (lx (λp=>-px p q) (λp=>-py p q)):=Kn.2 (r.imp λh=>AM.2 h);have c2:=qT (sg:=Hi a) (R:=R.reverse) (X:=λp=>-px p q) (Y:=λp=>-py p q) (λu hu v hv w hw=>by
  rw[JX (px · q) (py · q)];exact S.t u (hm u (Xw.1 hu)) v (hm v (Xw.1 hv)) w (hm w (Xw.1 hw))) r2 (by simpa using h0)
 obtain⟨f,hf⟩:∃f,R.head? = some f:=by cases R with
  |nil=>exact absurd rfl h0
  |cons f _=>exact⟨f,rfl⟩
 obtain⟨z,hz⟩:∃z,R.getLast? = some z:=⟨_,Ub h0⟩;have hne:f≠z:=λe=>by
  subst e;cases R with
  |nil=>exact absurd rfl h0
  |
   cons g M =>
   simp at hf;subst hf;cases M with
   |nil=>simp at h3
   |
    cons x M =>
    rw[Wm]at hz;exact Ds _ ((Q4.1 r).1 g (List.mem_of_getLast? hz))
 obtain⟨A,hA⟩:=Qsw (c1.hd.trans hf) (c1.la.trans hz) hne;obtain⟨B,hB⟩:=Qsw (c2.hd.trans (by rw[List.head?_reverse];exact hz)) (c2.la.trans (by rw[List.getLast?_reverse];exact hf)) (Ne.symm hne);have hc:Gx l a=(f::A++[z]).dropLast++(z::B++[f]).dropLast:=by
  unfold Gx Mr;rw[<-hR,if_neg (by omega),hA,hB]
 rw[hA]at c1;rw[hB]at c2;refine⟨f,z,A,B,hA,hB,c1,c2,by rw[hc];exact tJ,?_⟩;rw[hc,Zu,Zu];simp;omega
end Orq
namespace Orr
open Go Go.Proofs Tryz Orq
theorem Sc.pt{p:Pt}(h:Sc p.c):Qs3 4294967294 1073741824 p:=⟨h.n,h.c.mono (by decide) (by decide)⟩
end Orr
namespace Orr
open Go Go.Proofs Tryz Orq
set_option maxRecDepth 10000
def bcP(l:List Pt)(a:Tm):List Ct:=Qx6 (Hi a) l
abbrev brP(l:List Pt)(a:Tm):Fz:=Ra (WA (Hi a) l)
end Orr
namespace Orr
open Go
end Orr
namespace Orq
open Orr Go
def HQ(q:Rat)(x y:Pt):Prop:=py y q<py x q\/py y q=py x q/\(px y q<px x q\/px y q=px x q/\x.id<y.id)
theorem Qjl(q:Rat)(x:Pt):¬HQ q x x:=by unfold HQ;grind
theorem Qbd(q:Rat)(x y z:Pt)(h:HQ q x y)(h':HQ q y z):HQ q x z:=by unfold HQ at *;grind
theorem Qjm{q:Rat}{x y:Pt}(h:x.id≠y.id)(h':¬HQ q x y):HQ q y x:=by unfold HQ at *;grind
theorem Qcy{a:Tm}(ha:Va a){x y:Pt}(hx:Sc x.c)(hy:Sc y.c){q:Rat}(h1:Hj (Hi a) (Hf y.c x.c)=Gt (Gf (Hf y.c x.c) q))(h2:Hj (Hi a) (Hg y.c x.c)=Gt (Gf (Hg y.c x.c) q)):JB (Hi a) x y=true↔HQ q x y:=by
 rw[PL hy hx]at h1;rw[PE hy hx]at h2;have d1:=(Cy hy hx).dp;have d2:=(Cz hy hx).dp;unfold JB;simp only[Ab];have t1:=Hd (py x q-py y q);have t2:=Hd (px x q-px y q);by_cases e1:(Hf y.c x.c).length=0
 ·rw[if_neg (by omega)];rw[Qg e1,YC]at h1;have:py x q=py y q:=by grind
  by_cases e2:(Hg y.c x.c).length=0
  ·rw[if_neg (by omega)];rw[Qg e2,YC]at h2;unfold HQ;simp only[decide_eq_true_eq];grind
  ·rw[if_pos (by omega)];have:=(B7 ha d2 e2).2;unfold HQ;simp only[decide_eq_true_eq];grind
 ·rw[if_pos (by omega)];have:=(B7 ha d1 e1).2;unfold HQ;simp only[decide_eq_true_eq];grind
theorem fN{l:List Pt}(hl:∀p∈l,Sc p.c){a:Tm}(ha:Va a):∃y,Hk a y=-1/\∀q,Hk a q=-1->q≤y->∀u∈l,∀v∈l,(JB (Hi a) u v=true↔HQ q u v):=by
 obtain⟨y,y1,y2⟩:=GN ha (nT l) λp hp=>(aB hl p hp).dp
 refine⟨y,y1,λq q1 q2 u hu v hv=>?_⟩;have h:=y2 q q1 q2;exact Qcy ha (hl u hu) (hl v hv) (h _ (QR hv hu).2) (h _ (QR hv hu).1)
end Orq
namespace Orr
open Orq Go
end Orr
namespace Orq
open Orr Go
structure MOk(M:List Pt):Prop where
 sc:∀p∈M,Sc p.c
 ln:M.length<=6
 so:Mi M
theorem MOk.df{M:List Pt}(h:MOk M):M.Pairwise λx y=>x.id≠y.id:=h.so.imp λh e=>by omega
structure Knd(β:Type) where
 bc:List Pt->Tm->List Ct
 br:List Pt->Tm->β
 al:List Pt->List (List Int)
structure KndOk{β:Type}(k:Knd β):Prop where
 st:∀M,MOk M->Stab (k.bc M) (k.br M)
 cp:∀M,MOk M->∀p∈k.al M,Cp p
 al:∀M a,∀x∈k.bc M a,x.p∈k.al M
 ln:∀M,MOk M->(k.al M).length<=1000000
abbrev kP:Knd Fz:=⟨bcP,brP,Qno⟩
structure At{β:Type}(k:Knd β)(M:List Pt)(q:Rat)(c:Cr):Prop where
 now:c.now=tq q
 st:KSt (k.bc M) (k.br M) c (k.br M (tq q))
section
variable{β:Type}{k:Knd β}(ok:KndOk k){M M':List Pt}{q t:Rat}{c:Cr}
include ok
end
theorem At.begin{β:Type}{k:Knd β}(ok:KndOk k){M:List Pt}{q:Rat}(hM:MOk M)(hq:Qs 1640000 q):At k M q ⟨tq q,(Oq (k.bc M (tq q))).map fresh,0⟩:=⟨rfl,Qtk (ok.st M hM) (Qys hq)⟩
end Orq
namespace Orq
open Orr Go
theorem C5{α:Type}:∀(L:List α) {R:List α},L.Pairwise (λx y=>x≠y)->(∀x∈L,x∈R)->L.length≤R.length
 | [],_,_,_=>Qh _
 |
  x::L,R,h,hs=>by
  obtain⟨h1,h2⟩:=Q4.1 h;obtain⟨A,B,rfl⟩:=We (hs x (by simp));have:=C5 L (R:=A++B) h2 λy hy=>by
   have:=hs y (Qi _ hy);simp only[Qr,Qj]at this ⊢;rcases this with h|h|h
   ·exact .inl h
   ·exact absurd h.symm (h1 y hy)
   ·exact .inr h
  simp only[Za,Zf]at this ⊢;omega
theorem GH{α:Type}{Q:α->α->Prop}{x y:α}{l':List α}:∀(l:List α),Edg Q (l++x::y::l')->Q x y
 | [],h=>h.1
 |_::l,h=>GH l (Edg.tail h)
theorem vX{α:Type}{R:α->α->α->Prop}{x y z:α}{l':List α}:∀(l:List α),Cnv R (l++x::y::z::l')->R x y z
 | [],h=>h.1
 |_::l,h=>vX l (Cnv.tail h)
theorem qN{X Y:Pt->Rat}{R:List Pt}{f z p:Pt}{A:List Pt}(c:LowC X Y R (f::A++[z]))(hp:p∈A):0<Hy X Y f p z:=by
 obtain⟨A1,A2,rfl⟩:=We hp;obtain⟨L1,x,hx⟩:∃L1 x,f::A1=L1++[x]:=⟨(f::A1).dropLast,(f::A1).getLast (by simp),(Vg (by simp)).symm⟩;obtain⟨y,L2,hy⟩:∃y L2,A2++[z]=y::L2:=by
  cases A2 with
  |nil=>exact⟨z,[],rfl⟩
  |cons y A2=>exact⟨y,A2++[z],rfl⟩
 have e:f::(A1++p::A2)++[z]=L1++x::p::y::L2:=by
  have e1:f::(A1++p::A2)++[z]=(f::A1)++p::(A2++[z]):=by simp
  rw[e1,hx,hy];simp
 have hf:f∈R:=c.mem f (by simp);have hz:z∈R:=c.mem z (by simp);have srt:=c.srt;have edg:=c.edg;have cnv:=c.cnv;have srt0:=srt;rw[e]at srt edg cnv;have t0:=vX L1 cnv;have t1:=GH L1 edg f hf;have t2:0<=Hy X Y p y z:=by
  have:L1++x::p::y::L2=(L1++[x])++p::y::L2:=by simp
  rw[this]at edg;exact GH _ edg z hz
 obtain⟨_,s2,_⟩:=Zv.1 srt;obtain⟨sx,s2⟩:=Q4.1 s2;obtain⟨sp,_⟩:=Q4.1 s2;have lxp:=sx p (by simp);have lpy:=sp y (by simp);have lfp:lx X Y f p:=(Q4.1 (Zv.1 srt0).1).1 p (by simp);have lpz:lx X Y p z:=by
  have:=(Zv.1 srt0).2.2 p (by simp) z (by simp);exact this
 have vf:=Dt lfp;have vx:=Dt lxp;have vy:=Dt lpy;have vz:=Dt lpz;have a1:0<=(X p-X f)*(Y p-Y x)-(X p-X x)*(Y p-Y f):=by unfold Hy at t1;grind
 have a2:0<(X p-X x)*(Y y-Y p)-(X y-X p)*(Y p-Y x):=by unfold Hy at t0;grind
 have a3:0<=(X y-X p)*(Y z-Y p)-(X z-X p)*(Y y-Y p):=by unfold Hy at t2;grind
 have b1:=(ang vf vx vy a1 (Qm a2)).2 (.inr a2);have b2:=(ang vf vy vz (Qm b1) a3).2 (.inl b1);unfold Hy;grind
theorem Il{M:List Pt}{a:Tm}{q:Rat}(S:Soon M a q):(Gx M a).Pairwise λx y=>x≠y:=by
 by_cases h3:3<=(Rj a (Gu M)).length
 ·obtain⟨f,z,A,B,hA,hB,c1,c2,_⟩:=Bi S h3;have e:Gx M a=f::A++(z::B):=by
   unfold Gx Mr;rw[if_neg (by omega),hA,hB,Zu,Zu]
  rw[e];have p1:=c1.srt;have p2:=c2.srt;obtain⟨p3,_,p4⟩:=Zv.1 p1;obtain⟨p5,_,p6⟩:=Zv.1 p2;refine Zv.2 ⟨List.Pairwise.imp (λ{u v} (h:lx (px · q) (py · q) u v) (e:u=v)=>by subst e;exact Ds _ h) p3,List.Pairwise.imp (λ{u v} (h:lx (λp=>-px p q) (λp=>-py p q) u v) (e:u=v)=>by subst e;exact Ds _ h) p5,λx hx y hy e=>?_⟩;subst e;rcases Qj.1 hx with rfl|hxA
  ·exact Ds _ (p6 x hy x (by simp))
  ·rcases Qj.1 hy with rfl|hyB
   ·exact Ds _ (p4 x hx x (by simp))
   ·have h1:=qN c1 hxA;have h2:=qN c2 hyB;unfold Hy at h1 h2;grind
 ·have e:Gx M a=Rj a (Gu M):=by unfold Gx Mr;rw[if_pos (by omega)]
  rw[e];exact S.r.imp λh e=>by subst e;exact Ds _ h
section
variable{M:List Pt}(hM:MOk M){a:Tm}(ha:Va a)
include hM ha
theorem Qi6:(Gx M a).length<=M.length:=by
 obtain⟨q,S⟩:=Mt hM.sc hM.df ha;have hl:(Rj a (Gu M)).length<=M.length:=by rw[Db];exact VD M
 exact Qe (C5 _ (R:=Rj a (Gu M)) (Il S) λx hx=>Bt hx) hl
end
section
variable{M:List Pt}(hM:MOk M){a:Tm}(ha:Va a)
include hM ha
end
theorem PW:∀(k:Nat) {l:List Pt},Mi l->∀m∈To k l,m.1.id<m.2.id
 | 0,l,_,m,h=>by simp[To]at h
 |k+1,[],_,m,h=>by simp[To]at h
 |
  k+1,x::l,hs,m,h=>by
  obtain⟨s1,s2⟩:=Q4.1 hs;rcases Qr.1 h with h|h
  ·obtain⟨y,hy,rfl⟩:=Zc.1 h;exact s1 y hy
  ·exact PW k s2 m h
theorem AE(sg:Ft->Int):∀(ps:List (Pt×Pt)) (s:Pt×Pt),Ta sg s ps=s\/Ta sg s ps∈ps
 | [],s=>.inl rfl
 |
  m::ps,s=>by
  rw[Ar];rcases AE sg ps (Nu sg s m)with h|h
  ·rw[h];rcases KP sg s m with e|e
   ·rw[e];exact .inr (by simp)
   ·rw[e];exact .inl rfl
  ·exact .inr (Qi _ h)
theorem wX(sg:Ft->Int){M:List Pt}(hs:Mi M):(M.length<2/\WA sg M=[])\/(2<=M.length/\∃x y,WA sg M=[x,y]/\x∈M/\y∈M/\x.id<y.id):=by
 match M,hs with
 | [],_=>exact .inl ⟨by decide,rfl⟩
 | [_],_=>exact .inl ⟨Nat.lt_of_sub_eq_succ rfl,rfl⟩
 |
  a::b::l,hs =>
  right;refine⟨by simp,_,_,rfl,?_⟩;have hab:(a,b)∈Hz (a::b::l):=Xu _ (Zc.2 ⟨b,by simp,rfl⟩);have hm:Ta sg (a,b) (Hz (a::b::l))∈Hz (a::b::l):=by
   rcases AE sg (Hz (a::b::l)) (a,b)with h|h
   ·rw[h];exact hab
   ·exact h
  obtain⟨m1,m2⟩:=Ej _ _ _ hm;exact⟨m1,m2,PW _ hs _ hm⟩
end Orq
namespace Orq
open Orr Go
structure DgC(D:Nat)(k:Crv):Prop where
 x:k.x.length<=D+1
 y:k.y.length<=D+1
section
variable{D:Nat}{a b c d:Crv}
end
theorem wJ(x:Pt)(l:List Pt):Hz (x::l)=l.map (λy=>(x,y))++Hz l:=rfl
theorem xF:∀{l:List Pt} {x y:Pt},x∈l->y∈l->x=y\/(x,y)∈Hz l\/(y,x)∈Hz l
 | [],_,_,h,_=>by cases h
 |
  z::l,x,y,hx,hy=>by
  rw[wJ];rcases Qj.1 hx with e|h1
  ·rcases Qj.1 hy with e'|h2
   ·exact .inl (e.trans e'.symm)
   ·exact .inr (.inl (Xu _ (Zc.2 ⟨y,h2,by rw[e]⟩)))
  ·rcases Qj.1 hy with e'|h2
   ·exact .inr (.inr (Xu _ (Zc.2 ⟨x,h1,by rw[e']⟩)))
   rcases xF h1 h2 with h|h|h
   ·exact .inl h
   ·exact .inr (.inl (Kl _ h))
   ·exact .inr (.inr (Kl _ h))
section
variable{M:List Pt}{D:Nat}(hM:MOk M)(hd:∀p∈M,DgC D p.c)
include hM hd
end
end Orq
namespace Orq
open Orr Go
theorem AA{x y:Rat}(hx:x<0)(hy:0<=y):x*y<=0:=by
 have:=Jn (show 0<=-x by grind) hy;grind
theorem AI{x y:Rat}(hx:x<0)(hy:x*y<=0):0<=y:=by
 rcases Hq 0 y with h|h
 ·exact h
 ·have:=Xj (show 0 < -x by grind) (show 0 < -y by grind);grind
theorem Qcw{ux uy vx vy dx dy:Rat}(hu:ux<0\/ux=0/\uy<0)(hv:vx<0\/vx=0/\vy<0)(h0:ux*vy-vx*uy=0)(h1:0<=-(ux*dy-dx*uy))(h2:0<=vx*dy-dx*vy):ux*dy-dx*uy=0:=by
 have key:0<=ux*dy-dx*uy:=by
  rcases hu with hu|⟨hu,hu'⟩
  ·have hvx:vx<0:=by
    rcases hv with h|⟨h,h'⟩
    ·exact h
    ·exfalso;rw[h]at h0;have:=Xj (show 0 < -ux by grind) (show 0 < -vy by grind);grind
   have e:ux*(vx*dy-dx*vy)=vx*(ux*dy-dx*uy):=by grind
   have:=AA hu h2;rw[e]at this;exact AI hvx this
  ·subst hu;have hvx:vx=0:=by
    have:vx*uy=0:=by grind
    rcases Xl.1 this with h|h
    ·exact h
    ·grind
   have hvy:vy<0:=by
    rcases hv with h|⟨_,h⟩
    ·rw[hvx]at h;exact absurd h (by decide)
    ·exact h
   have e:uy*(vx*dy-dx*vy)=vy*(0*dy-dx*uy):=by rw[hvx];grind
   have:=AA hu' h2;rw[e]at this;exact AI hvy this
 grind
theorem Qeb{ux uy a1 a2 b1 b2 c1 c2 z1 z2:Rat}(hu:ux<0\/ux=0/\uy<0)(ha:ux*(a2-z2)-(a1-z1)*uy=0)(hb:ux*(b2-z2)-(b1-z1)*uy=0)(hc:ux*(c2-z2)-(c1-z1)*uy=0):(b1-a1)*(c2-a2)-(c1-a1)*(b2-a2)=0:=by
 rcases hu with hu|⟨hu,hu'⟩
 ·have e:ux*((b1-a1)*(c2-a2)-(c1-a1)*(b2-a2))=0:=by grind
  rcases Xl.1 e with h|h
  ·grind
  ·exact h
 ·subst hu;have e1:(a1-z1)*uy=0:=by grind
  have e2:(b1-z1)*uy=0:=by grind
  have e3:(c1-z1)*uy=0:=by grind
  have f:∀x:Rat,x*uy=0->x=0:=λx hx=>by
   rcases Xl.1 hx with h|h
   ·exact h
   ·grind
  have:=f _ e1;have:=f _ e2;have:=f _ e3;have g1:b1-a1=0:=by grind
  have g2:c1-a1=0:=by grind
  rw[g1,g2];grind
theorem Qa4{X Y:Pt->Rat}{R:List Pt}{f z:Pt}{A B:List Pt}(c1:LowC X Y R (f::A++[z]))(c2:LowC (λp=>-X p) (λp=>-Y p) R.reverse (z::B++[f]))(hAB:A≠[]\/B≠[]){x w:Pt}{A' B':List Pt}(hx:f::A++[z]=A'++[x,z])(hw:z::B++[f]=z::w::B'):0<Hy X Y x z w:=by
 have ex:(x,z)∈Ik (f::A++[z]):=by
  rw[hx];unfold Ik;clear hx
  induction A' with
  |nil=>simp
  |
   cons y A' ih =>
   cases A' with
   |nil=>simp
   |
    cons y' A' =>
    rw[Xa,Kz,Ja,Xa,List.zip_cons_cons];exact Qi _ ih
 have ew:(z,w)∈Ik (z::B++[f]):=by rw[hw];unfold Ik;simp
 have hxR:x∈R:=c1.mem x (by rw[hx];simp);have hwR:w∈R:=Xw.1 (c2.mem w (by rw[hw];simp));have h1:∀p∈R,0≤Hy X Y x z p:=GG.1 c1.edg _ ex;have h2:∀p∈R,0≤Hy X Y z w p:=λp hp=>by
  have:=GG.1 c2.edg _ ew p (Xw.2 hp);rwa[JX X Y]at this
 have lx1:lx X Y x z:=by
  have:=c1.srt;rw[hx]at this;exact(Q4.1 (Zv.1 this).2.1).1 z (by simp)
 have lw1:lx X Y w z:=by
  have:=c2.srt;rw[hw]at this;exact AM.1 ((Q4.1 this).1 w (by simp))
 rcases Yf.1 (h1 w hwR)with h|h
 ·exact h
 exfalso;have hu:X x-X z<0\/X x-X z=0/\Y x-Y z<0:=by unfold lx at lx1;grind
 have hv:X w-X z<0\/X w-X z=0/\Y w-Y z<0:=by unfold lx at lw1;grind
 have h0:(X x-X z)*(Y w-Y z)-(X w-X z)*(Y x-Y z)=0:=by unfold Hy at h;grind
 have flat:∀p∈R,(X x-X z)*(Y p-Y z)-(X p-X z)*(Y x-Y z)=0:=λp hp=>by
  have a:=h1 p hp;have b:=h2 p hp;refine Qcw hu hv h0 ?_ ?_
  ·unfold Hy at a;grind
  ·unfold Hy at b;grind
 have all0:∀a∈R,∀b∈R,∀c∈R,Hy X Y a b c=0:=λa ha b hb c hc=>Qeb hu (flat a ha) (flat b hb) (flat c hc)
 rcases hAB with hA|hB
 ·cases A with
  |nil=>exact hA rfl
  |
   cons a A =>
   have hc:=c1.cnv;have hm:=c1.mem;cases A with
   |
    nil =>
    have:0<Hy X Y f a z:=hc.1;rw[all0 f (hm f (by simp)) a (hm a (by simp)) z (hm z (by simp))]at this;exact absurd this (by decide)
   |
    cons b A =>
    have:0<Hy X Y f a b:=hc.1;rw[all0 f (hm f (by simp)) a (hm a (by simp)) b (hm b (by simp))]at this;exact absurd this (by decide)
 ·cases B with
  |nil=>exact hB rfl
  |
   cons a B =>
   have hc:=c2.cnv;have hm:∀p∈z::(a::B)++[f],p∈R:=λp hp=>Xw.1 (c2.mem p hp)
   cases B with
   |
    nil =>
    have:0<Hy (λp=>-X p) (λp=>-Y p) z a f:=hc.1;rw[JX X Y,all0 z (hm z (by simp)) a (hm a (by simp)) f (hm f (by simp))]at this;exact absurd this (by decide)
   |
    cons b B =>
    have:0<Hy (λp=>-X p) (λp=>-Y p) z a b:=hc.1;rw[JX X Y,all0 z (hm z (by simp)) a (hm a (by simp)) b (hm b (by simp))]at this;exact absurd this (by decide)
theorem Qck{α:Type}{l:List α}{x:α}(h:l.getLast? = some x):l=l.dropLast++[x]:=by
 cases l with
 |nil=>simp at h
 |
  cons a l =>
  have e:=Vg (l:=a::l) (by simp);rw[Ub (by simp)]at h;injection h with h;rw[<-h];exact e.symm
theorem vZ{α:Type}{R:α->α->α->Prop}:∀{L:List α} {i:Nat} {a b c:α},Cnv R L->L[i]? = some a->L[i+1]? = some b->L[i+2]? = some c->R a b c
 | [],_,_,_,_,_,h,_,_=>by simp at h
 | [_],_,_,_,_,_,_,h,_=>by simp at h
 | [_,_],i,_,_,_,_,_,_,h=>by simp at h
 |
  x::y::w::l,0,a,b,c,hc,h1,h2,h3=>by
  simp at h1 h2 h3;subst h1;subst h2;subst h3;exact hc.1
 |x::y::w::l,i+1,a,b,c,hc,h1,h2,h3=>vZ (L:=y::w::l) (i:=i) hc.2 (by simpa using h1) (by simpa using h2) (by simpa using h3)
theorem cZ{x y:Crv}:Ah x y=true↔x=y:=by
 cases x;cases y;simp[Ah]
theorem OS{l:List Pt}{p:Pt}(hp:p∈l):∃w∈Gu l,w.c=p.c:=by
 have stay:∀(l out:List Pt) (w:Pt),w∈out->w∈l.foldl Na out:=by
  intro l
  induction l with
  |nil=>intro out w h;exact h
  |
   cons y l ih =>
   intro out w h;refine ih _ _ ?_;unfold Na
   split
   ·exact h
   ·exact Xu _ h
 have key:∀(l out:List Pt),p∈l->∃w∈l.foldl Na out,w.c=p.c:=by
  intro l
  induction l with
  |nil=>intro out h;cases h
  |
   cons y l ih =>
   intro out h;rcases Qj.1 h with rfl|h
   ·rw[Z0];by_cases hc:(out.any λq=>Ah p.c q.c)=true
    ·obtain⟨w,hw,he⟩:=Kr.1 hc;refine⟨w,stay l _ w ?_,(cZ.1 he).symm⟩;unfold Na;rw[if_pos hc];exact hw
    ·refine⟨p,stay l _ p ?_,rfl⟩;unfold Na;rw[if_neg hc];simp
   ·exact ih _ h
 exact key l [] hp
theorem Qj7(X Y:Pt->Rat)(a p:Pt):Hy X Y a a p=0:=by unfold Hy;grind
theorem fR{l:List Pt}(hl:∀p∈l,Sc p.c)(hd:l.Pairwise λx y=>x.id≠y.id){a:Tm}(ha:Va a){e:Pt×Pt}(he:e∈Lk (Gx l a)){p:Pt}(hp:p∈l):0≤Hj (Hi a) (G8 e.1.c e.2.c p.c):=by
 obtain⟨q,S⟩:=Mt hl hd ha;obtain⟨w,hw,hwc⟩:=OS hp;obtain⟨m1,m2⟩:=tX he;have hwl:=Hr hw;rw[<-hwc,S.o _ (Sx m1) _ (Sx m2) _ hwl];have hwR:w∈Rj a (Gu l):=Rx.2 hw;have nn:∀{x:Rat},0<=x->0<=Gt x:=λ{x} hx=>by
  unfold Gt
  split
  ·grind
  ·split <;> decide
 refine nn ?_;by_cases h3:3<=(Rj a (Gu l)).length
 ·obtain⟨f,z,A,B,_,_,c1,c2,hE,_⟩:=Bi S h3;rw[hE]at he;rcases Qr.1 he with he|he
  ·exact GG.1 c1.edg _ he w hwR
  ·have:=GG.1 c2.edg _ he w (Xw.2 hwR);rwa[JX (px · q) (py · q)]at this
 ·have hC:Gx l a=Rj a (Gu l):=by unfold Gx Mr;rw[if_pos (by omega)]
  rw[hC]at he;generalize Rj a (Gu l)=R at *
  match R,h3,hwR,he with
  | [],_,hwR,_=>cases hwR
  |
   [f],_,hwR,he =>
   have:e=(f,f):=by simpa[Lk]using he
   subst this;rw[Qj7];exact Ql
  |
   [f,z],_,hwR,he =>
   have h:e=(f,z)\/e=(z,f):=by simpa[Lk]using he
   have h':w=f\/w=z:=by simpa using hwR
   rcases h with rfl|rfl <;> rcases h' with rfl|rfl
   ·rw[(ZR _ _).1];exact Ql
   ·rw[(ZR _ _).2];exact Ql
   ·rw[(ZR _ _).2];exact Ql
   ·rw[(ZR _ _).1];exact Ql
  |_::_::_::_,h3,_,_=>simp at h3
theorem yG{l:List Pt}(hl:∀p∈l,Sc p.c)(hd:l.Pairwise λx y=>x.id≠y.id){a:Tm}(ha:Va a){i:Nat}{f c:Pt}(h0:(Gx l a)[0]? = some f)(hi:(Gx l a)[i]? = some c)(hi0:0<i):Rk (Hi a) f c=true:=by
 obtain⟨q,S⟩:=Mt hl hd ha;have hfl:=Sx (Qa h0);have hcl:=Sx (Qa hi);have hs:Rj a (Gu l)=Rj a (Gu l):=rfl;have pw:=wI (a:=a) (l:=Gu l) (q:=q) (λu hu v hv=>S.b u (Hr hu) v (Hr hv)) (List.Pairwise.sublist (By l) hd);refine(S.b f hfl c hcl).2 ?_;by_cases h3:3<=(Rj a (Gu l)).length
 ·obtain⟨f',z,A,B,hA,hB,c1,c2,_,_⟩:=Bi S h3;have hC:Gx l a=f'::A++(z::B):=by
   unfold Gx Mr;rw[if_neg (by omega),hA,hB,Zu,Zu]
  rw[hC]at h0 hi;have:f'=f:=by simpa using h0
  subst this;have hne:c≠f':=by
   cases i with
   |zero=>omega
   |
    succ i =>
    have hi':(A++(z::B))[i]? = some c:=by simpa using hi
    have hm:=Qa hi';intro e;subst e;rcases Qr.1 hm with hm|hm
    ·exact Ds _ ((Q4.1 c1.srt).1 c (Xu _ hm))
    ·have:=c2.srt;rw[Xa]at this;have h9:(z::B++[c]).Pairwise (lx (λp=>-px p q) (λp=>-py p q)):=c2.srt;exact Ds _ ((Zv.1 h9).2.2 c hm c (by simp))
  have hh:(Rj a (Gu l)).head? = some f':=by rw[<-c1.hd];rfl
  have hcR:c∈Rj a (Gu l):=by
   have hm:=Qa hi;rcases Qr.1 hm with hm|hm
   ·exact c1.mem c (Xu _ hm)
   ·exact Xw.1 (c2.mem c (Xu _ hm))
  generalize Rj a (Gu l)=R at *;cases R with
  |nil=>cases hh
  |
   cons g R =>
   have:g=f':=by simpa using hh
   subst this;rcases Qj.1 hcR with e|e
   ·exact absurd e hne
   ·exact(Q4.1 pw).1 c e
 ·have hC:Gx l a=Rj a (Gu l):=by unfold Gx Mr;rw[if_pos (by omega)]
  rw[hC]at h0 hi;obtain⟨k0,e0⟩:=Qd.1 h0;obtain⟨k1,e1⟩:=Qd.1 hi;have:=Xm.1 pw 0 i k0 k1 hi0;rwa[e0,e1]at this
theorem fS{l:List Pt}(hl:∀p∈l,Sc p.c)(hd:l.Pairwise λx y=>x.id≠y.id){a:Tm}(ha:Va a)(h2:2<(Gx l a).length){i:Nat}{x y w:Pt}(hx:(Gx l a)[i]? = some x)(hy:(Gx l a)[(i+1) % (Gx l a).length]? = some y)(hw:(Gx l a)[(i+2) % (Gx l a).length]? = some w):0<Hj (Hi a) (G8 x.c y.c w.c):=by
 obtain⟨q,S⟩:=Mt hl hd ha;rw[S.o _ (Sx (Qa hx)) _ (Sx (Qa hy)) _ (Sx (Qa hw))];have pp:∀{r:Rat},0<r->0<Gt r:=λ{r} hr=>by
  unfold Gt;rw[if_neg (by grind),if_pos hr];decide
 refine pp ?_;have h3:3<=(Rj a (Gu l)).length:=by
  rcases Q7 (Rj a (Gu l)).length 3 with h|h
  ·have hC:Gx l a=Rj a (Gu l):=by unfold Gx Mr;rw[if_pos h]
   rw[hC]at h2;omega
  ·exact h
 obtain⟨f,z,A,B,hA,hB,c1,c2,_,_⟩:=Bi S h3;have hC:Gx l a=f::A++(z::B):=by
  unfold Gx Mr;rw[if_neg (by omega),hA,hB,Zu,Zu]
 rw[hC]at h2 hx hy hw;have hn:(f::A++(z::B)).length=A.length+B.length+2:=by simp;omega
 rw[hn]at h2 hy hw;have hil:i<A.length+B.length+2:=by rw[<-hn];exact(Qd.1 hx).1
 have d1:∀{k:Nat} {u:Pt},k<=A.length+1->(f::A++(z::B))[k]? = some u->(f::A++[z])[k]? = some u:=λ{k u} hk h=>by
  have e:f::A++(z::B)=(f::A++[z])++B:=by simp
  rw[e,Q3 (by simp;omega)]at h;exact h
 have d2:∀{k:Nat} {u:Pt},A.length+1<=k->k<A.length+B.length+2->(f::A++(z::B))[k]? = some u->(z::B++[f])[k-(A.length+1)]? = some u:=λ{k u} hk hk2 h=>by
  rw[Zj (by simp;omega)]at h;rw[Q3 (by simp;omega)];rw[show(f::A).length=A.length+1 from by simp]at h;exact h
 have d3:(z::B++[f])[B.length+1]? = some f:=by
  rw[Zj (by simp)];simp
 have n1:(λa b c:Pt=>0<Hy (λp=>-px p q) (λp=>-py p q) a b c)=λa b c=>0<Hy (px · q) (py · q) a b c:=by
  funext a b c;rw[JX (px · q) (py · q)]
 have hcnv2:Cnv (λa b c=>0<Hy (px · q) (py · q) a b c) (z::B++[f]):=by rw[<-n1];exact c2.cnv
 rcases Q7 (i+2) (A.length+2)with k|k
 ·-- in the first chain
  rw[Xe (by omega)]at hy hw;exact vZ c1.cnv (d1 (by omega) hx) (d1 (by omega) hy) (d1 (by omega) hw)
 rcases Q7 i (A.length+1)with k'|k'
 ·-- at the Qa4 z
  have hi:i=A.length:=by omega
  subst hi;rw[Xe (by omega)]at hy;have hx':=d1 (by omega) hx;have hy':=d1 (by omega) hy;have ez:y=z:=by
   rw[Zj (by simp)]at hy';simpa using hy'.symm
  subst ez;obtain⟨A',hA'⟩:∃A',f::A++[y]=A'++[x,y]:=by
   refine⟨(f::A).dropLast,?_⟩;have:(f::A)=(f::A).dropLast++[x]:=by
    have hl':(f::A).getLast? = some x:=by
     rw[List.getLast?_eq_getElem?];rw[Q3 (by simp)]at hx';simpa using hx'
    exact Qck hl'
   rw[this,Zu,Zk];rfl
  obtain⟨B',hB'⟩:∃B',y::B++[f]=y::w::B':=by
   cases B with
   |
    nil =>
    simp only[Y7]at hw h2;rw[show(A.length+2) % (A.length+0+2)=0 by simp]at hw;have:w=f:=by simpa using hw.symm
    subst this;exact⟨[],rfl⟩
   |
    cons b B =>
    rw[Xe (by rw[Zf]at *;omega)]at hw;have hw':=d2 (by omega) (by rw[Zf]at *;omega) hw;rw[show A.length+2-(A.length+1)=1 by omega]at hw';have:w=b:=by simpa using hw'.symm
    subst this;exact⟨B++[f],rfl⟩
  exact Qa4 c1 c2 (by
   rcases A with _|⟨_,A⟩
   ·right;intro e;rw[e]at h2;simp at h2
   ·left;exact λe=>by cases e) hA' hB'
 rcases Q7 (i+1) (A.length+B.length+2)with k''|k''
 ·-- in the second chain
  rw[Xe (by omega)]at hy;have hx':=d2 (by omega) (by omega) hx;have hy':=d2 (by omega) (by omega) hy;rw[show i+1-(A.length+1)=i-(A.length+1)+1 by omega]at hy';have hw':(z::B++[f])[i-(A.length+1)+2]? = some w:=by
   rcases Q7 (i+2) (A.length+B.length+2)with k3|k3
   ·rw[Xe k3]at hw;have:=d2 (by omega) (by omega) hw;rw[<-this];congr 1;omega
   ·have e:i+2=A.length+B.length+2:=by omega
    rw[e,W9]at hw;have:w=f:=by simpa using hw.symm
    subst this;rw[<-d3];congr 1;omega
  exact vZ hcnv2 hx' hy' hw'
 ·-- at the Qa4 f
  have hi:i+1=A.length+B.length+2:=by omega
  rw[hi,W9]at hy;have ef:y=f:=by simpa using hy.symm
  subst ef;have hx':=d2 (by omega) (by omega) hx;obtain⟨B',hB'⟩:∃B',z::B++[y]=B'++[x,y]:=by
   refine⟨(z::B).dropLast,?_⟩;have:(z::B)=(z::B).dropLast++[x]:=by
    have hl':(z::B).getLast? = some x:=by
     rw[List.getLast?_eq_getElem?];rw[Q3 (by simp;omega)]at hx';rw[<-hx'];congr 1;simp;omega
    exact Qck hl'
   rw[this,Zu,Zk];rfl
  obtain⟨A',hA'⟩:∃A',y::A++[z]=y::w::A':=by
   rw[show i+2=1+(A.length+B.length+2) by omega,Nat.add_mod_right,Xe (by omega)]at hw;cases A with
   |
    nil =>
    have:w=z:=by simpa using hw.symm
    subst this;exact⟨[],rfl⟩
   |
    cons b A =>
    have:w=b:=by simpa using hw.symm
    subst this;exact⟨A++[z],rfl⟩
  have hr:LowC (λp=>-(λp=>-px p q) p) (λp=>-(λp=>-py p q) p) (Rj a (Gu l)).reverse.reverse (y::A++[z]):=by
   rw[List.reverse_reverse];have e1:(λp:Pt=>-(λp=>-px p q) p)=(px · q):=by funext p;grind
   have e2:(λp:Pt=>-(λp=>-py p q) p)=(py · q):=by funext p;grind
   rw[e1,e2];exact c1
  have:=Qa4 c2 hr (by
   rcases B with _|⟨_,B⟩
   ·right;intro e;rw[e]at h2;simp at h2
   ·left;exact λe=>by cases e) hB' hA'
  rwa[JX (px · q) (py · q)]at this
end Orq
