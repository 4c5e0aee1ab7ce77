/- R10 R11 R12 R13 QA R14 R15 R16 R17 R19 QB FO PW1 R21 QC R22 HullS H2 H3 R23 R24 R26 QD R25 QE R29 R30 MeshN CirL QF ZG R18 ZJ QG MD1 HullT NewsN PW2 TouL TouQ EnL PartL BndL HAroL -/
import Derived.Test.YtdcbpgmmopdelaaGreatPart08
import Derived.Test.YtdcbpgmmopdelaaGreatPart00
import Derived.Test.YtdcbpgmmopdelaaGreatPart05
import Derived.Test.YtdcbpgmmopdelaaGreatPart07
import Derived.Test.YtdcbpgmmopdelaaGreatPart04
set_option linter.all false
namespace Orr
open Go Go.Proofs Tryz
set_option maxRecDepth 10000
abbrev cl4(k:Crv):Fy:=[pl k.x,pl k.y,sg k.d,mg k.d]
abbrev No(c:Crv):Fy:=[rp (QK c.x c.d),rp (QK c.y c.d)]++cl4 c
def FW(p:Pt):Fy:=No p.c++[.int .i64 p.id]
def Hj(l:List Pt):Fz:=l.map FW
structure Rs(k:Crv):Prop where
 n:UF k
 c:Cs 100000 16 k
theorem Rs.d0{k:Crv}(h:Rs k):0<k.d:=h.n.2.2.1
theorem FY{x:Ft}{d:Int}{s:Nat}(hx:Bd s x)(hd:Gy d<=s)(h1:1<=s):Rb s (QK x d):=λq hq=>by
 obtain⟨z,hz,rfl⟩:=Zd.1 hq;rw[XD];exact Qs.divInt (hx z hz) hd h1
theorem OW{x:Ft}{d:Int}(tx:Gh x)(hd:d≠0):Bv (QK x d) (d:Rat)=zp x:=by
 have hd':(d:Rat)≠0:=λe=>hd (by exact_mod_cast e)
 unfold Bv;rw[DY (g:=λi=>x.getD i 0) _ λi _=>?_,Dm,IZ,Dn,tx];rw[OF];grind
theorem rG{p:Fw}{c:Int}(hp:Rb 40000000 p)(hc:Gy c<=40000000)(hl:p.length<=1000000):Fo 343 [.one (rp p),.agg (ri c)] [.one (rp (Bv p (c:Rat)))] :=
 Fi func343 rfl [.k (Aj (n:=1) (by decide)),.k (Cz (n:=c)),.k (QP (p:=p) (c:=(c:Rat)) hp (Ag hc (by omega)) hl)] rfl
theorem Qqy(x y:Ft)(d:Int):frow (QK x d)++frow (QK y d)=frow (QK (x++y) d):=by simp[QK,frow]
theorem RB{z:Ft}{d:Int}{i:Nat}(h:i<z.length):(QK z d)[i]? = some (((z.getD i 0:Int):Rat) / (d:Rat)):=Qqz (PK h)
theorem qZ(a b:Int)(hb:b≠0){s:Nat}(h:Gy b<=s):Gy ((Int.gcd a b:Nat):Int)<=s:=by
 refine Qe (Pi ?_) h;simp only[Zw];exact Kz (by omega) (by simpa using X3.2 (Kh a b))
theorem Qpl(a b:Int):(a*b) % ((Int.gcd a b:Nat):Int)=0:=Ys (V6 (Uv ..) (Vu a b))
theorem qL{k:Crv}(hs:Rs k):Fo 248 [.one (rp (QK k.x k.d)),.one (rp (QK k.y k.d))] [.agg (No k)]:=by
 have hlx:=hs.c.lx;have hly:=hs.c.ly;have hds:=hs.c.d;have hxy:Bd 100000 (k.x++k.y):=λz hz=>by rcases Qr.1 hz with h|h;exact hs.c.x z h;exact hs.c.y z h
 have hfx:(frow (QK k.x k.d)).length=k.x.length:=by rw[Pu,Dm]
 have hfy:(frow (QK k.y k.d)).length=k.y.length:=by rw[Pu,Dm]
 have hfl:(frow (QK (k.x++k.y) k.d)).length=k.x.length+k.y.length:=by rw[Pu,Dm,Q6]
 have hd0:=hs.d0;refine Sk func248 rfl ?_;refine go tt [.k (Aj (n:=1) (by decide)),.s (sz:=4) (SI _),.s (sz:=4) (SI _)] rfl (by simp[Ge,hfx,hfy];omega) ?_;rw[Qqy];refine Fl (S:=Nat) 3 (λL1 i=>(15,.v (.oi i))::L1) (λi=>[.blk 133 [.nils,.nils,.nils,.nils,.bool false,.nils],.blk 32 (ri (fP (k.x++k.y) k.d i)),.row false 34 4 (frow (QK (k.x++k.y) k.d))]) (λi=>k.x.length+k.y.length-i) (λi=>i<=k.x.length+k.y.length) 0 (Qh _) rfl rfl λi hi=>?_
 have hll:(k.x++k.y).length=k.x.length+k.y.length:=Q6;by_cases h:i<k.x.length+k.y.length
 ·have hlt:i<(k.x++k.y).length:=by omega
  have hqe:=FY (x:=(k.x++k.y)) (d:=k.d) (s:=100000) hxy hs.c.d (by decide);have hqi:=hqe.get (RB hlt);obtain⟨D,hD⟩:=nmE (((((k.x++k.y).getD i 0:Int):Rat) / (k.d:Rat)));have hg:=Is (RB (d:=k.d) hlt);have es:fP (k.x++k.y) k.d (i+1)=fP (k.x++k.y) k.d i*(D.den:Int) / ((Int.gcd (fP (k.x++k.y) k.d i) (D.den:Int):Nat):Int):=by rw[hD];rfl
  rw[<-hD]at hqi hg;have hq2:=hqi.2;have hli:=Qe (Qpm (z:=(k.x++k.y)) hs.d0 (i:=i) (by omega)) hs.c.d;have hg0:((Int.gcd (fP (k.x++k.y) k.d i) (D.den:Int):Nat):Int)≠0:=by have:=Int.gcd_ne_zero_right (a:=(fP (k.x++k.y) k.d i)) (Dt D);omega
  have hmu:=Ho (fP (k.x++k.y) k.d i) (D.den:Int);refine go tt [.T,.i i,.x hg,.k (Bh (a:=fP (k.x++k.y) k.d i) (b:=(D.den:Int)) (by omega) (by omega)),.i i,.x hg,.k (LK (a:=fP (k.x++k.y) k.d i) (b:=(D.den:Int)) (by omega) (by omega)),.k (SJ (by omega) (Qe (qZ _ _ (Dt D) hq2) (by decide)) hg0 (Qpl _ _))] rfl (by simp[Ge,hfl];omega) ?_;exact rd (i+1) (by omega) h (by rw[es];rfl)
 have e:fP (k.x++k.y) k.d i=k.d:=by rw[show i=(k.x++k.y).length by omega];exact Qpk hs.d0 hs.n.2.2.2
 rw[e];have hx:=rG (p:=QK k.x k.d) (c:=k.d) ((FY (s:=100000) hs.c.x hs.c.d (by decide)).mono (by omega)) (by omega) (by rw[Dm];omega);have hy:=rG (p:=QK k.y k.d) (c:=k.d) ((FY (s:=100000) hs.c.y hs.c.d (by decide)).mono (by omega)) (by omega) (by rw[Dm];omega);rw[OW hs.n.1 (by omega)]at hx;rw[OW hs.n.2.1 (by omega)]at hy;exact Fh [.F,.k hx,.k (Qhh (p:=k.x) (Gd hs.c.x (by omega)) (by omega)),.k hy,.k (Qhh (p:=k.y) (Gd hs.c.y (by omega)) (by omega)),.k (Qgy (z:=k.d) (by omega))] rfl
theorem uQ(k:Crv):Sa 1 k.d'=((1:Int):Rat) / (k.d':Rat):=by
 unfold Sa;rw[if_neg k.d'_ne,XD]
theorem NN{x:Ft}{g d:Int}(hg:g≠0)(hd:d≠0)(hgd:g∣d)(tx:Gh x)(hx:∀z∈x,g∣z):Bv (zp x) (((1:Int):Rat) / (d:Rat))=QK (trim (x.map (· / g))) (d / g):=by
 have ht:Gh (x.map (· / g)):=I7 tx hg hx;rw[show trim (x.map (· / g))=x.map (· / g) from ht];obtain⟨e,rfl⟩:=hgd;have he:e≠0:=λh=>hd (by rw[h,Kk])
 rw[X8 _ hg];have hgq:(g:Rat)≠0:=λh=>hg (by exact_mod_cast h)
 have heq:(e:Rat)≠0:=λh=>he (by exact_mod_cast h)
 unfold Bv;rw[Mc];have hval:∀i,i<x.length->(zp x).getD i 0*(((1:Int):Rat) / ((g*e:Int):Rat))=(((x.map (· / g)).getD i 0:Int):Rat) / (e:Rat):=λi hi=>by
  rw[TN];have hz:=PK hi;have hm:(x.map (· / g)).getD i 0=x.getD i 0 / g:=by simp[Qc,Qg hi]
  obtain⟨w,hw⟩:=hx _ (Qa hz);rw[hm,hw,X8 _ hg,Jc,Jc];have:((1:Int):Rat)=1:=rfl;rw[this];grind
 have htab:JW (λi=>(zp x).getD i 0*(((1:Int):Rat) / ((g*e:Int):Rat))) x.length=QK (x.map (· / g)) e:=by
  apply X1;intro i;by_cases hi:i<x.length
  ·rw[RB (by simpa using hi)];simp only[JW,Zb,Jn hi,Yw];rw[hval i hi]
  ·rw[Qt (by rw[TQ];omega),Qt (by rw[Dm];simp;omega)]
 rw[htab];rcases Qx x.length with h0|h0
 ·have:=Qf h0;subst this;rfl
 ·have hl:(QK (x.map (· / g)) e).length=x.length:=by rw[Dm,Q4]
  have:=MK (l:=QK (x.map (· / g)) e) (m:=x.length) (by omega) (λj y hj hy=>by rw[Qt (by omega)]at hy;cases hy) (λ_=>⟨_,RB (z:=x.map (· / g)) (d:=e) (i:=x.length-1) (by rw[Q4];omega),λh=>by
   have h3:(((x.map (· / g)).getD (x.length-1) 0:Int):Rat)=0:=by grind
   have h4:(x.map (· / g)).getD (x.length-1) 0=0:=by exact_mod_cast h3
   have:=Rz ht (by rw[Q4];omega);rw[Q4]at this;exact this h4⟩)
  rw[this,Qp (by omega)]
theorem Qlc{k:Crv}(hk:Cs 100000 16 k):Qs 40000000 (Sa 1 k.d'):=by
 have h1:=kY hk.d (by decide);rw[uQ,XD];exact Qs.divInt (by decide) (by omega) (by decide)
theorem Crv.g_dvd'(k:Crv){z:Int}(h:z∈k.d'::(trim k.x++trim k.y)):k.g∣z:=Vh (k.g_dvd z h)
theorem Qlp(k:Crv):Bv (zp (trim k.x)) (Sa 1 k.d')=QK k.norm.x k.norm.d:=by
 rw[uQ];exact NN k.g_ne k.d'_ne (k.g_dvd' (by simp)) (Tl _) (λz hz=>k.g_dvd' (by simp[hz]))
theorem Qlq(k:Crv):Bv (zp (trim k.y)) (Sa 1 k.d')=QK k.norm.y k.norm.d:=by
 rw[uQ];exact NN k.g_ne k.d'_ne (k.g_dvd' (by simp)) (Tl _) (λz hz=>k.g_dvd' (by simp[hz]))
theorem Qcq{k:Crv}(h:Cs 100000 16 k):Rs k.norm:=⟨k.nml,h.norm (by decide)⟩
theorem Qof{k:Crv}(hk:Cs 100000 16 k):Fo 152 [.agg (cl4 k)] [.agg (No (Crv.norm k))]:=by
 have hlx:=hk.lx;have hly:=hk.ly;have hkd:=hk.d;have hrq:=Qlc hk;have hdi:Gy k.d'<=100000:=kY hk.d (by decide);have hx:=QP (p:=zp (trim k.x)) (c:=Sa 1 k.d') (JA (Gd (Md hk.x) (by omega)) (by omega)) hrq (by rw[Mc];have:=Sr k.x;omega);have hy:=QP (p:=zp (trim k.y)) (c:=Sa 1 k.d') (JA (Gd (Md hk.y) (by omega)) (by omega)) hrq (by rw[Mc];have:=Sr k.y;omega);rw[Qlp]at hx;rw[Qlq]at hy;have c1:=Aj (n:=1) (by decide);have cm:=GK (a:=1) (b:=k.d') (by decide) (by omega);by_cases h0:k.d=0
 ·have e:k.d'=1:=by unfold Crv.d';rw[if_pos h0]
  rw[e]at hx hy cm;exact Fi func152 rfl [.k (yD (z:=k.d) (by omega)),.k Di,.t (decide_eq_true h0),.k c1,.k c1,.k cm,.k (KZ (p:=k.x) (Gd hk.x (by omega)) (by omega)),.k hx,.k (KZ (p:=k.y) (Gd hk.y (by omega)) (by omega)),.k hy,.k (qL (Qcq hk))] rfl
 ·have e:k.d'=k.d:=by unfold Crv.d';rw[if_neg h0]
  rw[e]at hx hy cm;exact Fi func152 rfl [.k (yD (z:=k.d) (by omega)),.k Di,.f (decide_eq_false h0),.k c1,.k cm,.k (KZ (p:=k.x) (Gd hk.x (by omega)) (by omega)),.k hx,.k (KZ (p:=k.y) (Gd hk.y (by omega)) (by omega)),.k hy,.k (qL (Qcq hk))] rfl
theorem Qho{k:Crv}{id:Int}(hk:Cs 100000 16 k):Fo 53 [.agg (cl4 k++[.int .i64 id])] [.agg (FW ⟨Crv.norm k,id⟩)] :=
 Fi func53 rfl [.k (Qof hk)] rfl
theorem Dq{k:Crv}(hk:Rs k):Fo 273 [.agg (No k)] [.one (rp (zp k.x)),.one (rp (zp k.y)),.one (rp (zp [k.d]))]:=by
 have hlx:=hk.c.lx;have hly:=hk.c.ly;have hkd:=hk.c.d;have hx:=KZ (p:=k.x) (Gd hk.c.x (by omega)) (by omega);have hy:=KZ (p:=k.y) (Gd hk.c.y (by omega)) (by omega);rw[show trim k.x=k.x from hk.n.1]at hx;rw[show trim k.y=k.y from hk.n.2.1]at hy;exact Fi func273 rfl [.k (yD (z:=k.d) (by omega)),.k (Aj (n:=1) (by decide)),.k (Cz (n:=k.d)),.k hx,.k hy] rfl
theorem lN{p:Ft}{d:Int}(tp:Gh p)(hd:d≠0):Gq p [d]=Gs p d:=by
 refine YN (Hp _ _) (Gk _ _) λm=>?_
 unfold Gs;rw[S5];unfold Gq;by_cases h0:p.length=0
 ·rw[if_pos (.inl h0),if_neg (by omega)];rfl
 ·rw[if_neg (by simp;exact λh=>h0 (by rw[h];rfl)),Lc];show(Lt p [d] (List.replicate (p.length+1-1) 0) p.length).getD m 0=_;have key:∀i,i<=p.length->(Lt p [d] (List.replicate (p.length+1-1) 0) i).getD m 0=if m<i then p.getD m 0*d else 0:=by
   intro i
   induction i with
   |zero=>intro _;simp only[Lt];rw[Ty,if_neg (by omega)]
   |
    succ i ih =>
    intro hi;simp only[Lt];rw[PC _ _ _ _ _ _ (by rw[Lu,Jj];show i+1<=_;omega),ih (by omega)];show(if i<=m/\m<i+1 then(if m<i then p.getD m 0*d else 0)+p.getD i 0*[d].getD (m-i) 0 else _)=_;by_cases e:m=i
    ·subst e;rw[if_pos ⟨Qn _,by omega⟩,if_neg (by omega),if_pos (by omega),J4];show 0+p.getD m 0*d=_;omega
    ·rw[if_neg (by omega)];by_cases h1:m<i
     ·rw[if_pos h1,if_pos (by omega)]
     ·rw[if_neg h1,if_neg (by omega)]
  rw[key _ (Qn _)]
theorem Qgc{s:Nat}{d:Int}(h:Gy d<=s):Bd s [d]:=λz hz=>by simp at hz;subst hz;exact h
theorem UR{p:Ft}{d:Int}(tp:Gh p)(hd:d≠0)(hp:Bd 9000000 p)(hs:Gy d<=9000000)(hl:p.length<=1000):Fo 259 [.one (rp (zp p)),.one (rp (zp [d]))] [.one (rp (zp (Gs p d)))]:=by
 have h:=Ow (p:=p) (q:=[d]) (by omega) (by show 1<=1000000;decide) hp (Qgc hs) (by decide);rwa[lN tp hd]at h
theorem Rs.dn{k:Crv}(h:Rs k):k.d≠0:=by have:=h.d0;omega
theorem vX{p q:Ft}(hp:Bd 19000000 p)(hq:Bd 19000000 q)(hlp:p.length<=1000000)(hlq:q.length<=1000000):Fo 276 [.one (rp (zp p)),.one (rp (zp q))] [.one (rp (zp (Ma p q)))]:=by
 have h:=bO (JA hp (by decide)) (JA hq (by decide)) (by rw[Mc];exact hlp) (by rw[Mc];exact hlq);rwa[Qcs]at h
theorem rV{a b:Crv}(ha:Rs a)(hb:Rs b):Fo 270 [.agg (No a),.agg (No b)] [.one (rp (zp (Hi a b)))] :=
 Fi func270 rfl [.k (Dq ha),.k (Dq hb),.k (UR (p:=b.x) (d:=a.d) hb.n.1 ha.dn (Gd hb.c.x (by decide)) (Qe ha.c.d (by decide)) (by have:=hb.c.lx;omega)),.k (UR (p:=a.x) (d:=b.d) ha.n.1 hb.dn (Gd ha.c.x (by decide)) (Qe hb.c.d (by decide)) (by have:=ha.c.lx;omega)),.k (vX (p:=Gs b.x a.d) (q:=Gs a.x b.d) (Gd (G9 hb.c.x ha.c.d) (by decide)) (Gd (G9 ha.c.x hb.c.d) (by decide)) (by have:=Gz b.x a.d;have:=hb.c.lx;omega) (by have:=Gz a.x b.d;have:=ha.c.lx;omega))] rfl
theorem rZ{a b:Crv}(ha:Rs a)(hb:Rs b):Fo 271 [.agg (No a),.agg (No b)] [.one (rp (zp (Hh a b)))] :=
 Fi func271 rfl [.k (Dq ha),.k (Dq hb),.k (UR (p:=b.y) (d:=a.d) hb.n.2.1 ha.dn (Gd hb.c.y (by decide)) (Qe ha.c.d (by decide)) (by have:=hb.c.ly;omega)),.k (UR (p:=a.y) (d:=b.d) ha.n.2.1 hb.dn (Gd ha.c.y (by decide)) (Qe hb.c.d (by decide)) (by have:=ha.c.ly;omega)),.k (vX (p:=Gs b.y a.d) (q:=Gs a.y b.d) (Gd (G9 hb.c.y ha.c.d) (by decide)) (Gd (G9 ha.c.y hb.c.d) (by decide)) (by have:=Gz b.y a.d;have:=hb.c.ly;omega) (by have:=Gz a.y b.d;have:=ha.c.ly;omega))] rfl
theorem jF{a b:Crv}(ha:Rs a)(hb:Rs b):Bd 200001 (Hi a b)/\(Hi a b).length<=16:=by
 refine⟨Gd (Dh (G9 hb.c.x ha.c.d) (G9 ha.c.x hb.c.d)) (by omega),Qe (Mm _ _) ?_⟩;have:=Gz b.x a.d;have:=Gz a.x b.d;have:=ha.c.lx;have:=hb.c.lx;omega
theorem xM{a b:Crv}(ha:Rs a)(hb:Rs b):Bd 200001 (Hh a b)/\(Hh a b).length<=16:=by
 refine⟨Gd (Dh (G9 hb.c.y ha.c.d) (G9 ha.c.y hb.c.d)) (by omega),Qe (Mm _ _) ?_⟩;have:=Gz b.y a.d;have:=Gz a.y b.d;have:=ha.c.ly;have:=hb.c.ly;omega
theorem iR{s:Nat}{p:Ft}(h:Bd s p)(hl:p.length<=16):Bd (2*s+5) (Gq p p):=Gd (Si (u:=5) h h (by omega)) (by omega)
theorem kU{p:Ft}(hl:p.length<=16):(Gq p p).length<=31:=Qe (Te p p) (by omega)
theorem Qpg{α:Type}{f:α->Fy}{lt:α->α->Bool}{O:List α}{c:α}{k:Nat}(hp:Bs lt O c O.length=k):(O.map f).take k++(f c::(O.map f).drop k)=(Cq lt O c).map f:=by
 simp[Cq,hp,Kx,Y5]
theorem Qjo{α:Type}{f:α->Fy}{lt:α->α->Bool}{O:List α}{c:α}{k:Nat}(hp:Bs lt O c O.length=k):(O.map f).take k++([f c]++((O.map f).drop k).take ((O.map f).length-k))=(Cq lt O c).map f:=by
 rw[Qp (l:=(O.map f).drop k) (by simp)];exact Qpg hp
theorem HW{lt:Pt->Pt->Bool}{O:List Pt}{c:Pt}{k:Nat}(hp:Bs lt O c O.length=k):(Hj O).take k++([FW c]++((Hj O).drop k).take ((Hj O).length-k))=Hj (Cq lt O c):=Qjo hp
theorem Rr(l:List Pt):(Hj l).length=l.length:=by simp[Hj]
theorem JK(l:List Pt):∀c∈Hj l,c.length=7:=λc hc=>by obtain⟨x,_,rfl⟩:=Zd.1 hc;rfl
theorem G0{l:List Pt}{i:Nat}{c:Pt}(h:l[i]? = some c):(Hj l)[i]? = some (FW c):=Tk h
theorem BE{l:List Pt}(hn:l.length<=1000000):Fo 69 [.one (.row (Hj l))] [.one (.row (Hj (He Td l)))]:=by
 have hcl:=Rr l;refine Sk func69 rfl ?_;refine Ff [.o 3 135 7] rfl ?_;refine Fl (S:=Nat) 1 (λL1 i=>(8,.v (.oi i))::(3,.v (.one (.orow 0 7 none)))::L1) (λi=>[.row false 135 7 (Hj (He Td (l.take i)))]) (λi=>l.length-i) (λi=>i<=l.length) 0 (Qh _) rfl rfl λi hi=>?_
 by_cases hlt:i<l.length
 ·obtain⟨c,hc⟩:=gxE (l:=l) (i:=i) hlt;have hst:He Td (l.take (i+1))=Cq Td (He Td (l.take i)) c:=FH hc;obtain⟨O,hO⟩:=nmE (He Td (l.take i));have hOl:O.length=i:=by rw[hO,Pg,Qz];omega
  have hrl:=Rr O;rw[<-hO]at hst ⊢;refine Ff [.T] rfl ?_;refine Fl (S:=Nat) 1 (λL1 k=>(5,.v (.oi k))::L1) (λ_=>[.row false 135 7 (Hj O)]) id (λk=>k<=O.length/\Bs Td O c k=Bs Td O c O.length) (Hj O).length ⟨by omega,by rw[hrl]⟩ rfl rfl λk ⟨hk,hp⟩=>?_
  have h7:=JK O;have h7z:∀y∈[FW c],y.length=7:=λy hy=>by rw[Qo.1 hy];rfl
  cases k with
  |
   zero =>
   have hp:Bs Td O c O.length=0:=by rw[<-hp];rfl
   refine Fg [.g 15 false (by simp),.f rfl,.i 0,.x (G0 hc),.lo,.i 0,.s (sz:=7) (λy hy=>h7 y (Qq hy)),.s (sz:=7) (λy hy=>(Qr.1 hy).elim (h7z y) λhy=>h7 y (Qq hy))] rfl ?_;exact rd (i+1) (by omega) hlt (by rw[hst,<-HW hp];rfl)
  |
   succ k =>
   obtain⟨x,hx⟩:=gxE (l:=O) (i:=k) (by omega);by_cases hlc:Td c x=true
   ·refine Fg [.g 15 true (by simp),.x (G0 hc),.r 23 (eI (b:=(k:Int)) (by simp)),.i k,.x (G0 hx),.t hlc,.r 30 (eI (b:=(k:Int)) (by simp))] rfl ?_;exact rd k (by simp) ⟨by omega,by rw[<-hp,KI hx hlc]⟩ rfl
   ·have hlc:Td c x=false:=by simpa using hlc
    have hp:Bs Td O c O.length=k+1:=by rw[<-hp,XQ hx hlc]
    refine Fg [.g 15 true (by simp),.x (G0 hc),.r 23 (eI (b:=(k:Int)) (by simp)),.i k,.x (G0 hx),.f hlc,.i (k+1),.x (G0 hc),.lo,.i (k+1),.s (sz:=7) (λy hy=>h7 y (Q9 (Qq hy))),.s (sz:=7) (λy hy=>(Qr.1 hy).elim (h7z y) λhy=>h7 y (Q9 (Qq hy)))] rfl ?_;exact rd (i+1) (by omega) hlt (by rw[hst,<-HW hp];rfl)
 ·obtain rfl:i=l.length:=by omega
  rw[Za];exact Fh [.F] rfl

end Orr
namespace Orr
open Go Go.Proofs Tryz Orq
set_option maxRecDepth 10000
structure Ti where
 p:List Int
 C:List (List Int)
 lo:Rat
 hi:Rat
 sg:List Int->Int
abbrev Ti.tl(T:Ti):Fy:=ax T.p T.C T.lo T.hi
structure RT(T:Ti):Prop where
 a:∀{p:List Int},Dp p->Fo 16 [.one (rp (zp p)),.agg T.tl] [.oi (Hk T.sg p)]
theorem Sc.rs{k:Crv}(h:Sc k):Rs k:=⟨h.n,h.c.mono (by decide) (by decide)⟩
theorem QN{a b:Crv}(ha:Sc a)(hb:Sc b):Fo 270 [.agg (No a),.agg (No b)] [.one (rp (zp (Hi a b)))]:=rV ha.rs hb.rs
theorem QM{a b:Crv}(ha:Sc a)(hb:Sc b):Fo 271 [.agg (No a),.agg (No b)] [.one (rp (zp (Hh a b)))]:=rZ ha.rs hb.rs
theorem Qsz{t:Tm}{C:Fu}{N:Nat}{lo hi:Rat}(h:AT t C N lo hi)(hN:N<=900000):RT ⟨t.p,C,lo,hi,Hb t⟩:=⟨λhp=>Qdj h hN hp⟩
def P7(sg:Ft->Int)(a b:Pt):Bool:=if Hk sg (Hi a.c b.c)≠0 then decide (0<Hk sg (Hi a.c b.c))else if Hk sg (Hh a.c b.c)≠0 then decide (0<Hk sg (Hh a.c b.c))else decide (a.id<b.id)
theorem Ii{a b:Pt}{T:Ti}(ha:Sc a.c)(hb:Sc b.c)(hq:RT T):Fo 173 [.agg (FW a),.agg (FW b),.agg (T.tl)] [.one (.bool (P7 T.sg a b))]:=by
 have c1:=hq.a (p:=Hi a.c b.c) (C4 ha hb).dp;have c2:=hq.a (p:=Hh a.c b.c) (C3 ha hb).dp;by_cases h1:Hk T.sg (Hi a.c b.c)≠0
 ·exact Fi func173 rfl [.k (QN ha hb),.k c1,.t (decide_eq_true h1)] rfl (by unfold P7;rw[if_pos h1]) trivial
 by_cases h2:Hk T.sg (Hh a.c b.c)≠0
 ·exact Fi func173 rfl [.k (QN ha hb),.k c1,.f (decide_eq_false h1),.k (QM ha hb),.k c2,.t (decide_eq_true h2)] rfl (by unfold P7;rw[if_neg h1,if_pos h2]) trivial
 ·exact Fi func173 rfl [.k (QN ha hb),.k c1,.f (decide_eq_false h1),.k (QM ha hb),.k c2,.f (decide_eq_false h2)] rfl (by unfold P7;rw[if_neg h1,if_neg h2]) trivial
theorem LN{l:List Pt}{T:Ti}(hl:∀p∈l,Sc p.c)(hn:l.length≤1000000)(hq:RT T):Fo 65 [.one (.row (Hj l)),.agg (T.tl)] [.one (.row (Hj (He (P7 T.sg) l)))]:=by
 have hcl:=Rr l;obtain⟨lt,hlt0⟩:=nmE (P7 T.sg);rw[<-hlt0];refine Sk func65 rfl ?_;refine Ff [.o 5 135 7] rfl ?_;refine Fl (S:=Nat) 2 (λL1 i=>(10,.v (.oi i))::(5,.v (.one (.orow 1 7 none)))::L1) (λi=>[.blk 36 (T.tl),.row false 135 7 (Hj (He lt (l.take i)))]) (λi=>l.length-i) (λi=>i<=l.length) 0 (Qh _) rfl rfl λi hi=>?_
 by_cases hlt:i<l.length
 ·obtain⟨c,hc⟩:=gxE (l:=l) (i:=i) hlt;have hst:He lt (l.take (i+1))=Cq lt (He lt (l.take i)) c:=FH hc;have hcp:=hl c (Qa hc);obtain⟨O,hO⟩:=nmE (He lt (l.take i));have hOl:O.length=i:=by rw[hO,Pg,Qz];omega
  have hOm:∀x∈O,Sc x.c:=λx hx=>by rw[hO,Ph]at hx;exact hl x (Qq hx)
  have hrl:=Rr O;rw[<-hO]at hst ⊢;refine Ff [.T] rfl ?_;refine Fl (S:=Nat) 2 (λL1 k=>(7,.v (.oi k))::L1) (λ_=>[.blk 36 (T.tl),.row false 135 7 (Hj O)]) id (λk=>k<=O.length/\Bs lt O c k=Bs lt O c O.length) (Hj O).length ⟨by omega,by rw[hrl]⟩ rfl rfl λk ⟨hk,hp⟩=>?_
  have h7:=JK O;have h7z:∀y∈[FW c],y.length=7:=λy hy=>by rw[Qo.1 hy];rfl
  cases k with
  |
   zero =>
   have hp:Bs lt O c O.length=0:=by rw[<-hp];rfl
   refine Fg [.g 17 false (by simp),.f rfl,.i 0,.x (G0 hc),.lo,.i 0,.s (sz:=7) (λy hy=>h7 y (Qq hy)),.s (sz:=7) (λy hy=>(Qr.1 hy).elim (h7z y) λhy=>h7 y (Qq hy))] rfl ?_;exact rd (i+1) (by omega) hlt (by rw[hst,<-HW hp];rfl)
  |
   succ k =>
   obtain⟨x,hx⟩:=gxE (l:=O) (i:=k) (by omega);have cb:=Ii hcp (hOm x (Qa hx)) hq;rw[<-hlt0]at cb;by_cases hlc:lt c x=true
   ·refine Fg [.g 17 true (by simp),.x (G0 hc),.r 24 (eI (b:=(k:Int)) (by simp)),.i k,.x (G0 hx),.k cb,.t hlc,.r 31 (eI (b:=(k:Int)) (by simp))] rfl ?_;exact rd k (by simp) ⟨by omega,by rw[<-hp,KI hx hlc]⟩ rfl
   ·have hlc:lt c x=false:=by simpa using hlc
    have hp:Bs lt O c O.length=k+1:=by rw[<-hp,XQ hx hlc]
    refine Fg [.g 17 true (by simp),.x (G0 hc),.r 24 (eI (b:=(k:Int)) (by simp)),.i k,.x (G0 hx),.k cb,.f hlc,.i (k+1),.x (G0 hc),.lo,.i (k+1),.s (sz:=7) (λy hy=>h7 y (Q9 (Qq hy))),.s (sz:=7) (λy hy=>(Qr.1 hy).elim (h7z y) λhy=>h7 y (Q9 (Qq hy)))] rfl ?_;exact rd (i+1) (by omega) hlt (by rw[hst,<-HW hp];rfl)
 ·obtain rfl:i=l.length:=by omega
  rw[Za];exact Fh [.F] rfl
end Orr
namespace Orr
open Go Go.Proofs Tryz
set_option maxRecDepth 10000
theorem Qpp(l:Fv)(n:Nat):(lm l).take (min l.length n)=lm (l.take n):=by
 rw[lm,lm,<-Kx];rcases Nat.le_total l.length n with h|h
 ·rw[Z8 h,Za,Qp h]
 ·rw[Ku h]
theorem Qt2{l:Fv}{n:Nat}(hn:n<=1000):Fo 245 [.one (.row (lm l)),.oi n] [.one (.row (lm (l.take n)))]:=by
 rw[<-Qpp];have hll:(lm l).length=l.length:=by simp[lm]
 exact Fi func245 rfl [.r 9 (eI (b:=((min l.length n:Nat):Int)) (by omega)),.i (min l.length n)] rfl rfl (by simp[Ge,hll];omega)
theorem Qg8{z:RawInt}:Fo 150 [.agg (MY z),.oi 1] [.agg (MY z.cut)] :=
 Fi func150 rfl [.k (Qt2 (l:=z.l) (n:=1) (by decide))] rfl
def UJ(l:List RawInt):Fz:=l.map MY
theorem WZ(l:List RawInt):(UJ l).length=l.length:=by simp[UJ]
theorem oW{l:List RawInt}:Fo 149 [.one (.row (UJ l)),.oi 3,.oi 1] [.one (.row (UJ ((l.take 3).map RawInt.cut)))]:=by
 have hll:=WZ l;refine Sk func149 rfl (ln 0 rfl rfl λhzl=>?_);rw[hll]at hzl;refine Ff [.o 7 55 2] rfl ?_;refine Fl (S:=Nat) 1 (λL1 i=>(8,.v (.oi i))::(7,.v (.one (.orow 0 2 none)))::L1) (λi=>[.row false 55 2 (UJ ((l.take i).map RawInt.cut))]) (λi=>3-i) (λi=>i<=3/\i<=l.length) 0 ⟨by decide,Qh _⟩ rfl rfl λi ⟨hi,hi2⟩=>?_
 have hil:(UJ ((l.take i).map RawInt.cut)).length=i:=by rw[WZ,Q4,Qz];omega
 by_cases h1:i<l.length
 ·by_cases h2:i<3
  ·obtain⟨z,hz⟩:=gxE (l:=l) (i:=i) h1;have hm:∀y∈[MY z.cut],y.length=2:=λy hy=>by rw[Qo.1 hy];rfl
   refine go tt [.g 13 true Fq,.T,.x (Tk (f:=MY) hz),.k Qg8,.s (sz:=2) hm] rfl (by simp[Ge,hil,-List.map_take];omega) ?_;exact rd (i+1) (by omega) ⟨h2,h1⟩ (by rw[X6,hz];simp[UJ];rfl)
  ·have e:i=3:=by omega
   have e2:l.take 3=l.take i:=by rw[e]
   rw[e2];exact Fh [.g 13 true Fq,.F] rfl
 ·have e:l.take i=l.take 3:=by rw[Qp (by omega),Qp (by omega)]
  rw[e];exact Fh [.g 13 false Fp,.f rfl] rfl
abbrev rcw(z:RawPt):Fy:=[.row (UJ z.x),.row (UJ z.y),.bool z.d.b,.row (lm z.d.l)]
def RawPt.cut(z:RawPt):RawPt:=⟨(z.x.take 3).map RawInt.cut,(z.y.take 3).map RawInt.cut,z.d.cut,z.id⟩
theorem Qwy{z:RawPt}:Fo 51 [.agg (rcw z),.oi 3,.oi 1] [.agg (rcw z.cut)] :=
 Fi func51 rfl [.k (oW (l:=z.x)),.k (oW (l:=z.y)),.k (Qg8 (z:=z.d))] rfl
theorem GW{z:RawInt}(hz:z.Ok){most:Int}(hm:0<=most/\most<=999):Fo 151 [.agg (MY z),.oi most] [.agg (Sj (P0 most z))]:=by
 obtain⟨b,l⟩:=z;have hb:=UL hm.1 ⟨b,l⟩;have hs:Gy (P0 most ⟨b,l⟩)<=100000000:=Qe (Pn.2 (show(P0 most ⟨b,l⟩).natAbs<2^10 by omega)) (by decide);cases l with
 |nil=>exact Fi func151 rfl [.t rfl] rfl (by simp[P0,Iz]) trivial
 |
  cons u l =>
  have hu:=hz.u u (Qw ..);have co:=Aj (n:=P0 most ⟨b,u::l⟩) (by omega);have ct:=Qgy hs;have hr:Int.tmod (u:Int) (most+1)=(u:Int) % (most+1):=Vs (by omega);have h1:=K8 (u:Int) (b:=most+1) (by omega);have h2:=V7 (u:Int) (b:=most+1) (by omega);cases b with
  |
   true =>
   rw[show P0 most ⟨true,u::l⟩=-((u:Int) % (most+1)) from rfl]at co ct ⊢;exact Fi func151 rfl [.f (decide_eq_false (by simp[lm];try omega)),.x (l:=lm (u::l)) (i:=0) (xs:=[.int .u32 (u:Int)]) rfl,.r 18 (eI hr),.t rfl,.k co,.k ct] rfl rfl (by simp[Ge];omega)
  |
   false =>
   rw[show P0 most ⟨false,u::l⟩=(u:Int) % (most+1) from rfl]at co ct ⊢;exact Fi func151 rfl [.f (decide_eq_false (by simp[lm];try omega)),.x (l:=lm (u::l)) (i:=0) (xs:=[.int .u32 (u:Int)]) rfl,.r 18 (eI hr),.f rfl,.k co,.k ct] rfl rfl (by simp[Ge];omega)
theorem oz2{P:Program}[Mo P]{n:Nat}{Q:Exit->Sg->Ga->Prop}{L L':Sg}{B B':Ga}(d off T sz:Nat){it:List It}(hs:Mb it=true)(h:Qk2 (P:=P) d L B [.oc d off T sz]=some (L',B',[],[]))(k:AK P n Q it L' B'):AK P n Q it L B:=AK.sub (eQ h EqOk.nil) hs k
theorem pz{P:Program}[Mo P]{n:Nat}{Q:Exit->Sg->Ga->Prop}{L L':Sg}{B B':Ga}(i:Nat){it:List It}(hs:Mb it=true)(h:Qev [i] L B=some (L',B'))(k:AK P n Q it L' B'):AK P n Q it L B:=AK.sub (RV h) hs k
def ZV(l:Ft):Fz:=l.map Sj
theorem Qel(l:Ft):(ZV l).length=l.length:=by simp[ZV]
theorem PN{most:Int}{l:List RawInt}{i:Nat}{a:RawInt}(hi:i<3)(h:l[i]? = some a):ZV (Tu most (l.take (i+1)))=ZV (Tu most (l.take i))++[Sj (P0 most a)]:=by
 rw[kT hi h];simp[ZV]
theorem kR{most:Int}{l:List RawInt}{i:Nat}(hi:i<=3)(h:i<=l.length):(ZV (Tu most (l.take i))).length=i:=by
 rw[Qel];unfold Tu;rw[List.length_map,List.length_take,List.length_take];omega
theorem Qgl{z:RawPt}(hz:z.Ok){most:Int}(hm:0<=most/\most<=999):Fo 52 [.agg (rcw z),.oi most] [.agg (cl4 (HH most z.x z.y z.d))]:=by
 have hxl:=WZ z.x;have hyl:=WZ z.y;obtain⟨D,hD⟩:=nmE (P0 3 z.d);have cd:=GW hz.d (most:=3) (by decide);have hx0:∀{i:Nat},z.x.length<=i\/3<=i->Tu most (z.x.take i)=Tu most z.x:=NK most;have hy0:∀{i:Nat},z.y.length<=i\/3<=i->Tu most (z.y.take i)=Tu most z.y:=NK most;unfold HH;rw[<-hD]at cd ⊢;refine Sk func52 rfl ?_;refine Ff [.k cd] rfl ?_;refine oz2 5 0 55 2 rfl rfl ?_;refine Fl (S:=Nat) 4 (λL1 i=>(6,.v (.oi i))::L1) (λi=>[.blk 74 (rcw z),.blk 74 [.nils,.nils,.bool false,.nils],.blk 74 [.orow 3 2 none,.nils,sg D,mg D],.row false 55 2 (ZV (Tu most (z.x.take i)))]) (λi=>3-i) (λi=>i<=3/\i<=z.x.length) 0 ⟨by decide,Qh _⟩ rfl rfl λi ⟨hi,hi2⟩=>?_
 have hll:=kR (most:=most) hi hi2;by_cases hr:i<z.x.length/\i<3
 ·obtain⟨a,ha⟩:=gxE (l:=z.x) (i:=i) hr.1;have hs:∀y∈[Sj (P0 most a)],y.length=2:=λy hy=>by rw[Qo.1 hy];rfl
  refine go tt [.g 17 true Fq,.T,.x (Tk (f:=MY) ha),.k (GW (hz.x a (Qa ha)) hm),.s (sz:=2) hs] rfl (by simp[Ge,hll];omega) ?_;exact rd (i+1) (by omega) ⟨hr.2,hr.1⟩ (by rw[PN hr.2 ha];rfl)
 have hg1:decide ((i:Int)<((UJ z.x).length:Int))=true->i<z.x.length:=λh=>by have:=of_decide_eq_true h;omega
 rw[hx0 (by omega)];clear hll;have hfin:∀{j:Nat},j<=3/\j<=z.y.length->¬(j<z.y.length/\j<3)->ZV (Tu most (z.y.take j))=ZV (Tu most z.y):=λh1 h2=>by rw[hy0 (by omega)]
 by_cases hxx:i<z.x.length
 ·refine Ff [.g 17 true Fq,.F] rfl ?_;refine pz 3 rfl rfl ?_;refine oz2 5 1 55 2 rfl rfl ?_;refine Fl (S:=Nat) 5 (λL1 j=>(7,.v (.oi j))::L1) (λj=>[.blk 74 (rcw z),.blk 74 [.nils,.nils,.bool false,.nils],.blk 74 [.row (ZV (Tu most z.x)),.orow 4 2 none,sg D,mg D],.gone,.row false 55 2 (ZV (Tu most (z.y.take j)))]) (λj=>3-j) (λj=>j<=3/\j<=z.y.length) 0 ⟨by decide,Qh _⟩ rfl rfl λj ⟨hj,hj2⟩=>?_
  have hll:=kR (most:=most) hj hj2;by_cases hr:j<z.y.length/\j<3
  ·obtain⟨a,ha⟩:=gxE (l:=z.y) (i:=j) hr.1;have hs:∀y∈[Sj (P0 most a)],y.length=2:=λy hy=>by rw[Qo.1 hy];rfl
   refine go tt [.g 40 true Fq,.T,.x (Tk (f:=MY) ha),.k (GW (hz.y a (Qa ha)) hm),.s (sz:=2) hs] rfl (by simp[Ge,hll];omega) ?_;exact rd (j+1) (by omega) ⟨hr.2,hr.1⟩ (by rw[PN hr.2 ha];rfl)
  rw[hfin ⟨hj,hj2⟩ hr];by_cases hyy:j<z.y.length
  ·exact Fj [4] [] [.g 40 true Fq,.F] rfl
  ·exact Fj [4] [] [.g 40 false Fp,.f rfl] rfl
 ·refine Ff [.g 17 false Fp,.f rfl] rfl ?_;refine pz 3 rfl rfl ?_;refine oz2 5 1 55 2 rfl rfl ?_;refine Fl (S:=Nat) 5 (λL1 j=>(7,.v (.oi j))::L1) (λj=>[.blk 74 (rcw z),.blk 74 [.nils,.nils,.bool false,.nils],.blk 74 [.row (ZV (Tu most z.x)),.orow 4 2 none,sg D,mg D],.gone,.row false 55 2 (ZV (Tu most (z.y.take j)))]) (λj=>3-j) (λj=>j<=3/\j<=z.y.length) 0 ⟨by decide,Qh _⟩ rfl rfl λj ⟨hj,hj2⟩=>?_
  have hll:=kR (most:=most) hj hj2;by_cases hr:j<z.y.length/\j<3
  ·obtain⟨a,ha⟩:=gxE (l:=z.y) (i:=j) hr.1;have hs:∀y∈[Sj (P0 most a)],y.length=2:=λy hy=>by rw[Qo.1 hy];rfl
   refine go tt [.g 40 true Fq,.T,.x (Tk (f:=MY) ha),.k (GW (hz.y a (Qa ha)) hm),.s (sz:=2) hs] rfl (by simp[Ge,hll];omega) ?_;exact rd (j+1) (by omega) ⟨hr.2,hr.1⟩ (by rw[PN hr.2 ha];rfl)
  rw[hfin ⟨hj,hj2⟩ hr];by_cases hyy:j<z.y.length
  ·exact Fj [4] [] [.g 40 true Fq,.F] rfl
  ·exact Fj [4] [] [.g 40 false Fp,.f rfl] rfl
theorem iC{n d:Int}(hn:-9223372036854775808<=n/\n<=9223372036854775807)(hd:-9223372036854775808<=d/\d<=9223372036854775807):Fo 56 [.oi n,.oi d] [.agg (fr (Sa (Er n 61-30) (1+Er d 6)))]:=by
 have h1:Er n 61=n % 61:=rfl;have h2:Er d 6=d % 6:=rfl;exact Fi func56 rfl [.k (Ex (v:=n) (n:=61) hn (by decide)),.k (Ex (v:=d) (n:=6) hd (by decide)),.k (Qr7 (n:=Er n 61-30) (d:=1+Er d 6) (by omega) (by omega))] rfl rfl (by simp[Ge];omega)
def rwq(z:RawPt):Fy:=rcw z++[.int .i64 z.id]
def jO(l:List RawPt):Fz:=l.map rwq
theorem Qe7(l:List RawPt):(jO l).length=l.length:=by simp[jO]
theorem uF{l:List RawPt}{i:Nat}{z:RawPt}(h:l[i]? = some z):(jO l)[i]? = some (rwq z):=Tk h
theorem Qt7{most:Int}(hm:0<=most/\most<=999)(z:RawPt):Cs 100000 16 (KB most z).c:=(zW hm z.x z.y z.d).mono (by decide) (by decide)
def XZ(n:Nat)(most:Int)(zs:List RawPt)(i:Nat):List Pt:=OX n most (zs.take i)
theorem Qk4(n:Nat)(most:Int)(zs:List RawPt)(i:Nat):(XZ n most zs i).length<=n:=GO _ _ (Qh _)
theorem Qqh{n:Nat}{most:Int}{zs:List RawPt}{i:Nat}{z:RawPt}(h:zs[i]? = some z)(hl:(XZ n most zs i).length<n)(ha:(XZ n most zs i).any (λx=>decide (x.id=(KB most z).id))=true):XZ n most zs (i+1)=XZ n most zs i:=by
 unfold XZ OX at *;rw[X6,h,Jr,Xo];exact XA _ _ _ hl ha
theorem Qk5{n:Nat}{most:Int}{zs:List RawPt}{i:Nat}{z:RawPt}(h:zs[i]? = some z)(hl:(XZ n most zs i).length<n)(ha:(XZ n most zs i).any (λx=>decide (x.id=(KB most z).id))=false):XZ n most zs (i+1)=XZ n most zs i++[KB most z]:=by
 unfold XZ OX at *;rw[X6,h,Jr,Xo];exact O3 _ _ _ hl ha
theorem Qk3{n:Nat}{most:Int}{zs:List RawPt}{i:Nat}(h:¬(i<zs.length/\(XZ n most zs i).length<n)):XZ n most zs i=OX n most zs:=by
 by_cases h1:i<zs.length
 ·have hl:n<=(XZ n most zs i).length:=Vl λh2=>h ⟨h1,h2⟩
  unfold XZ OX at *
  conv=>rhs;rw[<-Zh i zs,Xo]
  exact(PX _ _ _ hl).symm
 ·unfold XZ;rw[List.take_of_length_le (by omega)]
theorem Qf4{f:Pt->Bool}{l:List Pt}{k:Nat}{x:Pt}(h:l[k]? = some x):(l.take (k+1)).any f=((l.take k).any f || f x):=by
 rw[X6,h];simp
theorem Qde{zs:List RawPt}(hz:∀z∈zs,z.Ok):Cf prog 12 [.one (.row (jO zs)),.oi 4] [] [.one (.orow 0 5 none),.one (.orow 1 7 none)] [.row false 76 5 (Hy (OX 4 20 zs)),.row false 135 7 (Hj ((OX 4 20 zs).map Pt.nrm))]:=by
 have hzl:=Qe7 zs;refine Sk func12 rfl (ln 0 rfl rfl λhz63=>?_);rw[hzl]at hz63;refine Ff [.o 6 76 5,.o 7 135 7] rfl ?_;refine Fl (S:=Nat) 2 (λL1 i=>(8,.v (.oi i))::(6,.v (.one (.orow 0 5 none)))::(7,.v (.one (.orow 1 7 none)))::L1) (λi=>[.row false 76 5 (Hy (XZ 4 20 zs i)),.row false 135 7 (Hj ((XZ 4 20 zs i).map Pt.nrm))]) (λi=>zs.length-i) (λi=>i<=zs.length) 0 (Qh _) rfl rfl λi hi=>?_
 have hOl:=Qk4 4 20 zs i;have hend:=Qk3 (n:=4) (most:=20) (zs:=zs) (i:=i);by_cases h1:i<zs.length
 ·by_cases h2:(XZ 4 20 zs i).length<4
  ·obtain⟨z,hzi⟩:=gxE (l:=zs) (i:=i) h1;have hzok:=hz z (Qa hzi);have hin:=Qqh hzi h2;have hout:=Qk5 hzi h2;obtain⟨O,hO⟩:=nmE (XZ 4 20 zs i);rw[<-hO]at hOl h2 hin hout ⊢;have Ee:=Su O;have hrl:(Hj (O.map Pt.nrm)).length=O.length:=by rw[Rr,Q4]
   obtain⟨p,hp⟩:=nmE (KB 20 z);have hid:Er z.id 1000=p.id:=by rw[hp];rfl
   have cw:=Ex (v:=z.id) (n:=1000) hzok.id (by decide);have cl:=Qgl hzok (most:=20) (by decide);have ecl:cl4 (HH 20 z.x z.y z.d)=cl4 p.c:=by rw[hp];rfl
   rw[hid]at cw;rw[ecl]at cl;rw[<-hp]at hin hout;refine Ff [.g 16 true Fq,.T,.x (uF hzi),.k (Qwy (z:=z)),.x (uF hzi),.k cw,.f rfl,.t rfl,.x (uF hzi),.k cl] rfl ?_;refine Fl (S:=Nat) 3 (λL1 k=>(57,.v (.oi k))::(10,.v (.one (.bool ((O.take k).any (λx=>decide (x.id=p.id))))))::L1) (λ_=>[.row false 76 5 (Hy O),.row false 135 7 (Hj (O.map Pt.nrm)),.blk 76 [pl p.c.x,pl p.c.y,sg p.c.d,mg p.c.d,.int .i64 p.id]]) (λk=>O.length-k) (λk=>k<=O.length) 0 (Qh _) rfl rfl λk hk=>?_
   by_cases hk2:k<O.length
   ·obtain⟨x,hx⟩:=gxE (l:=O) (i:=k) hk2;have ha:=Qf4 (f:=λx=>decide (x.id=p.id)) hx;cases hb:(O.take k).any (λx=>decide (x.id=p.id))with
    |
     true =>
     rw[hb,We]at ha;exact go tt [.T,.g 61 true rfl] rfl (by simp[Ge];omega) (rd (k+1) (by omega) hk2 (by rw[ha];rfl))
    |
     false =>
     rw[hb,J3]at ha;exact go tt [.T,.g 61 false rfl,.i k,.x (Hg hx)] rfl (by simp[Ge,Ee];omega) (rd (k+1) (by omega) hk2 (by rw[ha];rfl))
   have hk3:O.take k=O:=Qp (by omega);rw[hk3];cases hb:O.any (λx=>decide (x.id=p.id))with
   |
    true =>
    refine Fg [.F,.f rfl] rfl ?_;exact rd (i+1) (by omega) h1 (by rw[hin hb];rfl)
   |
    false =>
    have cf:=Qho (k:=p.c) (id:=p.id) (by rw[hp];exact Qt7 (by decide) z);have hm1:∀y∈[Sl p],y.length=5:=λy hy=>by rw[Qo.1 hy];rfl
    have hm2:∀y∈[FW p.nrm],y.length=7:=λy hy=>by rw[Qo.1 hy];rfl
    have e1:Hy (O++[p])=Hy O++[Sl p]:=by simp[Hy]
    have e2:Hj ((O++[p]).map Pt.nrm)=Hj (O.map Pt.nrm)++[FW p.nrm]:=by simp[Hj]
    refine go tt [.F,.t rfl,.s (sz:=5) hm1,.k cf,.s (sz:=7) hm2] rfl (by simp[Ge,Ee,hrl];omega) ?_;exact rd (i+1) (by omega) h1 (by rw[hout hb,e1,e2];rfl)
  ·rw[hend (λh=>h2 h.2)];rw[hend (λh=>h2 h.2)]at h2;have Ee:=Su (OX 4 20 zs);exact Fj [] [0,1] [.g 16 true Fq,.F] rfl
 ·rw[hend (λh=>h1 h.1)];exact Fj [] [0,1] [.g 16 false Fp,.f rfl] rfl

abbrev rgm(m:Pt×Pt):Fy:=FW m.1++FW m.2
def VM(l:List (Pt×Pt)):Fz:=l.map rgm
theorem JV(l:List (Pt×Pt)):(VM l).length=l.length:=by simp[VM]
theorem RH(l:List (Pt×Pt)):∀c∈VM l,c.length=14:=λc hc=>by obtain⟨x,_,rfl⟩:=Zd.1 hc;rfl
abbrev Qxv:Pt:=⟨⟨[],[],0⟩,0⟩
def YW(bt:Pt->Pt->Bool):Nat->List Pt->Pt×List (Pt×Pt)
 | 0,l=>(l.headD Qxv,[])
 |
  k+1,l=>if l.length<=1 then(l.headD Qxv,[])else
  if bt (YW bt k (l.take ((l.length+1) / 2))).1 (YW bt k (l.drop ((l.length+1) / 2))).1=true
  then((YW bt k (l.take ((l.length+1) / 2))).1,((YW bt k (l.take ((l.length+1) / 2))).2++(YW bt k (l.drop ((l.length+1) / 2))).2)++[((YW bt k (l.take ((l.length+1) / 2))).1,(YW bt k (l.drop ((l.length+1) / 2))).1)])
  else((YW bt k (l.drop ((l.length+1) / 2))).1,((YW bt k (l.take ((l.length+1) / 2))).2++(YW bt k (l.drop ((l.length+1) / 2))).2)++[((YW bt k (l.drop ((l.length+1) / 2))).1,(YW bt k (l.take ((l.length+1) / 2))).1)])
theorem UP{l:List Pt}{k:Nat}(h2:¬l.length<=1)(hk:l.length<=k+1):(l.take ((l.length+1) / 2)).length<=k/\(l.drop ((l.length+1) / 2)).length<=k/\0<(l.take ((l.length+1) / 2)).length/\0<(l.drop ((l.length+1) / 2)).length/\(l.take ((l.length+1) / 2)).length+(l.drop ((l.length+1) / 2)).length=l.length:=by
 rw[Qz,Xz];omega
theorem UG(bt:Pt->Pt->Bool):∀(k:Nat) (l:List Pt),0<l.length->l.length≤k->(YW bt k l).1∈l/\(∀m∈(YW bt k l).2,m.1∈l/\m.2∈l)/\(YW bt k l).2.length+1=l.length
 | 0,l,h0,hk=>by omega
 |
  k+1,l,h0,hk=>by
  by_cases h1:l.length<=1
  ·obtain⟨p,rfl⟩:=Jx.1 (show l.length=1 by omega);refine⟨by simp[YW],λm hm=>by simp[YW]at hm,rfl⟩
  ·obtain⟨k1,k2,k3,k4,k5⟩:=UP h1 hk;obtain⟨a1,a2,a3⟩:=UG bt k _ k3 k1;obtain⟨b1,b2,b3⟩:=UG bt k _ k4 k2;simp only[YW,if_neg h1]
   split
   all_goals
    refine⟨?_,λm hm=>?_,by simp only[Q6,X5];omega⟩
    ·first|exact Qq a1|exact Q9 b1
    ·rcases Qr.1 hm with hm|hm
     ·rcases Qr.1 hm with hm|hm
      ·exact⟨Qq (a2 m hm).1,Qq (a2 m hm).2⟩
      ·exact⟨Q9 (b2 m hm).1,Q9 (b2 m hm).2⟩
     ·rw[Qo.1 hm]
      first|exact⟨Qq a1,Q9 b1⟩|exact⟨Q9 b1,Qq a1⟩
theorem eG{l m:Fz}(h:l=m):TV.one (LV.row l)=.one (.row m):=h ▸ rfl
end Orr
namespace Orr
open Go Go.Proofs Tryz Orq
set_option maxRecDepth 10000
def Cm(sg:Ft->Int)(a b:Pt):Bool:=if Hk sg (Hh b.c a.c)≠0 then decide (0<Hk sg (Hh b.c a.c))else if Hk sg (Hi b.c a.c)≠0 then decide (0<Hk sg (Hi b.c a.c))else decide (a.id<b.id)
theorem Qdl{a b:Pt}{T:Ti}(ha:Sc a.c)(hb:Sc b.c)(hq:RT T):Fo 178 [.agg (FW a),.agg (FW b),.agg (T.tl)] [.one (.bool (Cm T.sg a b))]:=by
 have c1:=hq.a (p:=Hh b.c a.c) (C3 hb ha).dp;have c2:=hq.a (p:=Hi b.c a.c) (C4 hb ha).dp;by_cases h1:Hk T.sg (Hh b.c a.c)≠0
 ·exact Fi func178 rfl [.k (QM hb ha),.k c1,.t (decide_eq_true h1)] rfl (by unfold Cm;rw[if_pos h1]) trivial
 by_cases h2:Hk T.sg (Hi b.c a.c)≠0
 ·exact Fi func178 rfl [.k (QM hb ha),.k c1,.f (decide_eq_false h1),.k (QN hb ha),.k c2,.t (decide_eq_true h2)] rfl (by unfold Cm;rw[if_neg h1,if_pos h2]) trivial
 ·exact Fi func178 rfl [.k (QM hb ha),.k c1,.f (decide_eq_false h1),.k (QN hb ha),.k c2,.f (decide_eq_false h2)] rfl (by unfold Cm;rw[if_neg h1,if_neg h2]) trivial
theorem YF{T:Ti}(hq:RT T):∀(k:Nat) (l:List Pt),0<l.length->l.length≤k->l.length≤1000->(∀p∈l,Sc p.c)->Fo 68 [.one (.row (Hj l)),.agg (T.tl)] [.agg (FW (YW (Cm T.sg) k l).1),.one (.row (VM (YW (Cm T.sg) k l).2))]
 | 0,l,h0,hk,_,_=>by omega
 |
  k+1,l,h0,hk,hn,hl=>by
  have hcl:=Rr l;by_cases h1:l.length<=1
  ·obtain⟨p,rfl⟩:=Jx.1 (show l.length=1 by omega);exact Fi func68 rfl [.t rfl,.x (G0 (l:=[p]) (i:=0) rfl)] rfl
  ·obtain⟨k1,k2,k3,k4,k5⟩:=UP h1 hk;obtain⟨a1,a2,a3⟩:=UG (Cm T.sg) k _ k3 k1;obtain⟨b1,b2,b3⟩:=UG (Cm T.sg) k _ k4 k2;have c1:=YF hq k (l.take ((l.length+1) / 2)) k3 k1 (by omega) λp hp=>hl p (Qq hp)
   have c2:=YF hq k (l.drop ((l.length+1) / 2)) k4 k2 (by omega) λp hp=>hl p (Q9 hp)
   have hA:=hl _ (Qq a1);have hB:=hl _ (Q9 b1);have cb:=Qdl hA hB hq;have e1:(Hj l).take ((l.length+1) / 2)=Hj (l.take ((l.length+1) / 2)):=by simp[Hj,Kx]
   have e2:(Hj l).drop ((l.length+1) / 2)=Hj (l.drop ((l.length+1) / 2)):=by simp[Hj,Y5]
   have htd:((l.length:Int)+1).tdiv 2=(((l.length+1) / 2:Nat):Int):=rfl;have h7:=eq_true (p:=∀z,z∈Hj l->z.length=ti135.sz) (JK l);simp only[YW,if_neg h1];generalize YW (Cm T.sg) k (l.take ((l.length+1) / 2))=A at *;generalize YW (Cm T.sg) k (l.drop ((l.length+1) / 2))=B at *;have g1:=JV A.2;have g2:=JV B.2;have gap:∀m,VM (A.2++B.2++[m])=(VM A.2++VM B.2)++[rgm m]:=λm=>by simp[VM]
   by_cases hb:Cm T.sg A.1 B.1=true
   ·rw[if_pos hb];dsimp only;rw[gap];exact Fi func68 rfl [.F,.r 21 (eI (b:=(((l.length+1) / 2:Nat):Int)) (by rw[hcl];rfl)),.i ((l.length+1) / 2),.r 25 (eG e1),.k c1,.i ((l.length+1) / 2),.r 33 (eG e2),.k c2,.s (sz:=14) (RH A.2),.s (sz:=14) (RH B.2),.k cb,.t hb,.s (sz:=14) (l:=[rgm (A.1,B.1)]) (λc hc=>by rw[Qo.1 hc];rfl)] rfl rfl (by simp[Ge,Rr,JV,h7];omega)
   ·have hb:Cm T.sg A.1 B.1=false:=by simpa using hb
    rw[if_neg (by rw[hb];decide)];dsimp only;rw[gap];exact Fi func68 rfl [.F,.r 21 (eI (b:=(((l.length+1) / 2:Nat):Int)) (by rw[hcl];rfl)),.i ((l.length+1) / 2),.r 25 (eG e1),.k c1,.i ((l.length+1) / 2),.r 33 (eG e2),.k c2,.s (sz:=14) (RH A.2),.s (sz:=14) (RH B.2),.k cb,.f hb,.s (sz:=14) (l:=[rgm (B.1,A.1)]) (λc hc=>by rw[Qo.1 hc];rfl)] rfl rfl (by simp[Ge,Rr,JV,h7];omega)
end Orr
namespace Orq
open Orr Go
theorem US{a b c d:Crv}(ha:Sc a)(hb:Sc b)(hc:Sc c)(hd:Sc d):Cp (H8 a b c d):=by
 have lr:∀{a b:Crv},Sc a->Sc b->(Hi a b).length<=3/\(Hh a b).length<=3:=λ{a b} ha hb=>by
  have:=Mm (Gs b.x a.d) (Gs a.x b.d);have:=Gz b.x a.d;have:=Gz a.x b.d;have:=Mm (Gs b.y a.d) (Gs a.y b.d);have:=Gz b.y a.d;have:=Gz a.y b.d;have:=ha.c.lx;have:=hb.c.lx;have:=ha.c.ly;have:=hb.c.ly;unfold Hi Hh;omega
 have ap:∀{a b:Crv},Sc a->Sc b->(Ts a b).length<=5/\Bd 517 (Ts a b):=λ{a b} ha hb=>by
  obtain⟨l1,l2⟩:=lr ha hb;have b1:Bd 257 (Hi a b):=Dh (G9 hb.c.x ha.c.d) (G9 ha.c.x hb.c.d);have b2:Bd 257 (Hh a b):=Dh (G9 hb.c.y ha.c.d) (G9 ha.c.y hb.c.d);have q1:=Si (u:=2) b1 b1 (by omega);have q2:=Si (u:=2) b2 b2 (by omega);refine⟨?_,Gd (Oa q1 q2) (by omega)⟩;have:=E5 (Gq (Hi a b) (Hi a b)) (Gq (Hh a b) (Hh a b));have:=Te (Hi a b) (Hi a b);have:=Te (Hh a b) (Hh a b);unfold Ts;omega
 have dd:∀{a b:Crv},Sc a->Sc b->Gy ((a.d*b.d)*(a.d*b.d))<=512:=λ{a b} ha hb=>by
  have:=Ho a.d b.d;have:=Ho (a.d*b.d) (a.d*b.d);have:=ha.c.d;have:=hb.c.d;omega
 obtain⟨l1,b1⟩:=ap hc hd;obtain⟨l2,b2⟩:=ap ha hb;refine⟨Gk _ _,?_,Gd (Dh (G9 b1 (dd ha hb)) (G9 b2 (dd hc hd))) (by omega)⟩;have:=Mm (Gs (Ts c d) ((a.d*b.d)*(a.d*b.d))) (Gs (Ts a b) ((c.d*d.d)*(c.d*d.d)));have:=Gz (Ts c d) ((a.d*b.d)*(a.d*b.d));have:=Gz (Ts a b) ((c.d*d.d)*(c.d*d.d));unfold H8;omega
def zT(m:Pt×Pt)(q:Rat):Rat:=(px m.2 q-px m.1 q)*(px m.2 q-px m.1 q)+(py m.2 q-py m.1 q)*(py m.2 q-py m.1 q)
theorem Qo5{a b c d:Pt}(ha:Sc a.c)(hb:Sc b.c)(hc:Sc c.c)(hd:Sc d.c)(q:Rat):Gt (Gf (H8 a.c b.c c.c d.c) q)=Gt (zT (c,d) q-zT (a,b) q):=by
 have lD:∀{z:Int},0<z->(0:Rat)<(z:Rat):=λ{z} h=>by exact_mod_cast h
 have pa:=lD ha.n.2.2.1;have pb:=lD hb.n.2.2.1;have pc:=lD hc.n.2.2.1;have pd:=lD hd.n.2.2.1;have xx:∀{p:Pt},0<(p.c.d:Rat)->Gf p.c.x q=px p q*(p.c.d:Rat)/\Gf p.c.y q=py p q*(p.c.d:Rat):=λ{p} h=>by
  unfold px py;exact⟨(Zc (by grind)).symm,(Zc (by grind)).symm⟩
 obtain⟨xa,ya⟩:=xx pa;obtain⟨xb,yb⟩:=xx pb;obtain⟨xc,yc⟩:=xx pc;obtain⟨xd,yd⟩:=xx pd;have e:Gf (H8 a.c b.c c.c d.c) q=(((a.c.d:Rat)*b.c.d)*((a.c.d:Rat)*b.c.d))*(((c.c.d:Rat)*d.c.d)*((c.c.d:Rat)*d.c.d))*(zT (c,d) q-zT (a,b) q):=by
  unfold H8 Ts Hi Hh zT;simp only[Bq,Tf,M4,Gn,Jc];rw[xa,xb,xc,xd,ya,yb,yc,yd];grind
 rw[e,Eb];have h1:=Xm pa pb;have h2:=Xm pc pd;exact Xm (Xm h1 h1) (Xm h2 h2)
def Qnv(l:List Pt):Fu:=l.flatMap λa=>l.flatMap λb=>l.flatMap λc=>l.map λd=>H8 a.c b.c c.c d.c
theorem Qfw{l:List Pt}{a b c d:Pt}(ha:a∈l)(hb:b∈l)(hc:c∈l)(hd:d∈l):H8 a.c b.c c.c d.c∈Qnv l :=
 Xb.2 ⟨a,ha,Xb.2 ⟨b,hb,Xb.2 ⟨c,hc,Zd.2 ⟨d,hd,rfl⟩⟩⟩⟩
theorem Qnw{l:List Pt}(hl:∀p∈l,Sc p.c):∀p∈Qnv l,Cp p:=λp hp=>by
 obtain⟨a,ha,hp⟩:=Xb.1 hp;obtain⟨b,hb,hp⟩:=Xb.1 hp;obtain⟨c,hc,hp⟩:=Xb.1 hp;obtain⟨d,hd,rfl⟩:=Zd.1 hp;exact US (hl a ha) (hl b hb) (hl c hc) (hl d hd)
theorem Qa0{l:List Pt}(hl:∀p∈l,Sc p.c){a:Tm}(ha:Va a):∃y,Hl a y=-1/\∀q,Hl a q=-1->q≤y->∀s m:Pt×Pt,s.1∈l->s.2∈l->m.1∈l->m.2∈l->Hk (Hb a) (H8 s.1.c s.2.c m.1.c m.2.c)=Gt (zT m q-zT s q):=by
 obtain⟨y,y1,y2⟩:=HQ ha (Qnv l) λp hp=>(Qnw hl p hp).dp
 refine⟨y,y1,λq q1 q2 s m h1 h2 h3 h4=>?_⟩;rw[y2 q q1 q2 _ (Qfw h1 h2 h3 h4),Qo5 (hl _ h1) (hl _ h2) (hl _ h3) (hl _ h4)]
def YJ(f:Pt×Pt->Rat)(P:List (Pt×Pt))(r:Pt×Pt):Prop:=∃P1 P2,P=P1++r::P2/\(∀m∈P1,f r<f m)/\∀m∈P2,f r≤f m
theorem Qo6{f:Pt×Pt->Rat}{P:List (Pt×Pt)}{r m:Pt×Pt}(h:YJ f P r):YJ f (P++[m]) (if f m<f r then m else r):=by
 obtain⟨P1,P2,rfl,h1,h2⟩:=h;by_cases e:f m<f r
 ·rw[if_pos e];refine⟨P1++r::P2,[],rfl,λx hx=>?_,λx hx=>by cases hx⟩;rcases Qr.1 hx with hx|hx
  ·have:=h1 x hx;grind
  ·rcases Qj.1 hx with rfl|hx
   ·exact e
   ·have:=h2 x hx;grind
 ·rw[if_neg e];refine⟨P1,P2++[m],by simp,h1,λx hx=>?_⟩;rcases Qr.1 hx with hx|hx
  ·exact h2 x hx
  ·rw[Qo.1 hx];grind
theorem Qa3{f:Pt×Pt->Rat}{sg:Ft->Int}{l:List Pt}(hg:∀s m:Pt×Pt,s.1∈l->s.2∈l->m.1∈l->m.2∈l->Hk sg (H8 s.1.c s.2.c m.1.c m.2.c)=Gt (f m-f s)):∀(ps P:List (Pt×Pt)) (s:Pt×Pt),s.1∈l/\s.2∈l->(∀m∈ps,m.1∈l/\m.2∈l)->YJ f P s->YJ f (P++ps) (Ta sg s ps)
 | [],P,s,_,_,h=>by rw[Xg];exact h
 |
  m::ps,P,s,hs,hp,h=>by
  rw[Av];have hm:=hp m (by simp);have e:Nv sg s m=if f m<f s then m else s:=by
   unfold Nv;rw[hg s m hs.1 hs.2 hm.1 hm.2];have:=Hf (f m-f s);by_cases h:f m<f s
   ·rw[if_pos h,if_pos (by grind)]
   ·rw[if_neg h,if_neg (by grind)]
  have hn:(Nv sg s m).1∈l/\(Nv sg s m).2∈l:=by
   rcases KC sg s m with e|e <;> rw[e] <;> assumption
  have:=Qa3 hg ps (P++[m]) (Nv sg s m) hn (λx hx=>hp x (Qi _ hx)) (by rw[e];exact Qo6 h);rwa[Zj]at this
theorem lW(a b:Pt)(l:List Pt):∃P,H5 (a::b::l)=(a,b)::P:=⟨_,rfl⟩
theorem Qpy{f:Pt×Pt->Rat}{sg:Ft->Int}{a b:Pt}{l:List Pt}(hg:∀s m:Pt×Pt,s.1∈a::b::l->s.2∈a::b::l->m.1∈a::b::l->m.2∈a::b::l->Hk sg (H8 s.1.c s.2.c m.1.c m.2.c)=Gt (f m-f s)):YJ f (H5 (a::b::l)) (Ta sg (a,b) (H5 (a::b::l))):=by
 obtain⟨P,hP⟩:=lW a b l;have hm:=En (a::b::l).length (a::b::l);have hm:∀m∈H5 (a::b::l),m.1∈a::b::l/\m.2∈a::b::l:=hm;rw[hP]at hm ⊢;have h:=Qa3 hg P [(a,b)] (a,b) (hm (a,b) (by simp)) (λm h=>hm m (by simp[h])) ⟨[],[],rfl,λm h=>(by cases h),λm h=>(by cases h)⟩;rw[Av];have e:Nv sg (a,b) (a,b)=(a,b):=by rcases KC sg (a,b) (a,b)with e|e <;> exact e
 rw[e];exact h
end Orq
namespace Orr
open Go Go.Proofs Tryz Orq
set_option maxRecDepth 10000
theorem pY(M:List Pt):Tr 0 M=[]:=by cases M <;> rfl
def prs(M:List Pt)(x:Pt)(i j:Nat):List (Pt×Pt):=Tr i M++((M.drop (i+1)).take j).map (λy=>(x,y))
theorem Qkx(M:List Pt)(x:Pt)(i:Nat):prs M x i 0=Tr i M:=by rw[prs,Vy,Jo,Xg]
theorem Qkw{M:List Pt}{i j:Nat}{x y:Pt}(hy:(M.drop (i+1))[j]? = some y):prs M x i (j+1)=prs M x i j++[(x,y)]:=by
 unfold prs;rw[X6,hy,Jr,Xo,Zj];rfl
theorem Qqe{M:List Pt}{i j:Nat}{x:Pt}(hx:M[i]? = some x)(hj:(M.drop (i+1)).length<=j):prs M x i j=Tr (i+1) M:=by
 unfold prs;rw[Qp hj,E6 M i x hx]
theorem Qqf{M:List Pt}{i j:Nat}{x:Pt}(hx:M[i]? = some x):∀m∈prs M x i j,m.1∈M/\m.2∈M:=λm hm=>by
 rcases Qr.1 hm with h|h
 ·exact En _ _ m h
 ·obtain⟨y,hy,rfl⟩:=Zd.1 h;exact⟨Qa hx,Q9 (Qq hy)⟩
end Orr
namespace Orr
open Go Go.Proofs Tryz
set_option maxRecDepth 10000
theorem BL{p q:Ft}(hp:Bd 19000000 p)(hq:Bd 19000000 q)(hlp:p.length<=1000000)(hlq:q.length<=1000000):Fo 275 [.one (rp (zp p)),.one (rp (zp q))] [.one (rp (zp (Mt p q)))]:=by
 have h:=bD (JA (Gd hp (by decide)) (by decide)) (JA (Gd hq (by decide)) (by decide)) (by rw[Mc];exact hlp) (by rw[Mc];exact hlq);rwa[Qck]at h
theorem xE{a b:Crv}(ha:Rs a)(hb:Rs b):Bd 400008 (Ts a b)/\(Ts a b).length<=31:=by
 have h1:=jF ha hb;have h2:=xM ha hb;have:=kU h1.2;have:=kU h2.2;exact⟨Gd (Oa (iR h1.1 h1.2) (iR h2.1 h2.2)) (by omega),Qe (E5 _ _) (by omega)⟩
theorem rU{a b:Crv}(ha:Rs a)(hb:Rs b):Fo 277 [.agg (No a),.agg (No b)] [.one (rp (zp (Ts a b)))]:=by
 have h1:=jF ha hb;have h2:=xM ha hb;have l1:=kU h1.2;have l2:=kU h2.2;exact Fi func277 rfl [.k (rV ha hb),.k (rZ ha hb),.k (Ow (p:=Hi a b) (q:=Hi a b) (by omega) (by omega) h1.1 h1.1 (by decide)),.k (Ow (p:=Hh a b) (q:=Hh a b) (by omega) (by omega) h2.1 h2.1 (by decide)),.k (BL (p:=Gq (Hi a b) (Hi a b)) (q:=Gq (Hh a b) (Hh a b)) (Gd (iR h1.1 h1.2) (by decide)) (Gd (iR h2.1 h2.2) (by decide)) (by omega) (by omega))] rfl
theorem Qmt{x:Int}(h:x≠0):Gh [x]:=by unfold Gh;simp[trim,h]
theorem Qky{x y:Int}(hx:x≠0)(hy:y≠0):Gs [x] y=[x*y]:=by
 have h:=Qmt (X9 hx hy);exact h
theorem BD{x y:Int}(hx:x≠0)(hy:y≠0)(bx:Gy x<=9000000)(b_y:Gy y<=9000000):Fo 259 [.one (rp (zp [x])),.one (rp (zp [y]))] [.one (rp (zp [x*y]))]:=by
 have h:=UR (p:=[x]) (d:=y) (Qmt hx) hy (Qgc bx) b_y (by show 1<=1000;decide);rwa[Qky hx hy]at h
theorem Qbb{a b:Int}(ha:Gy a<=100000)(hb:Gy b<=100000):Gy (a*b)<=200000/\Gy ((a*b)*(a*b))<=400000:=by
 have h1:=Ho a b;have h2:=Ho (a*b) (a*b);omega
theorem BZ(a b:Crv):Gh (Ts a b):=Gk _ _
theorem cY{a b c d:Crv}(ha:Rs a)(hb:Rs b)(hc:Rs c)(hd:Rs d):Fo 179 [.agg (No a),.agg (No b),.agg (No c),.agg (No d)] [.one (rp (zp (H8 a b c d)))]:=by
 have h1:=xE hc hd;have h2:=xE ha hb;have e1:=Qbb ha.c.d hb.c.d;have e2:=Qbb hc.c.d hd.c.d;have n1:=X9 ha.dn hb.dn;have n2:=X9 hc.dn hd.dn;have m1:=BD ha.dn hb.dn (Qe ha.c.d (by decide)) (Qe hb.c.d (by decide));have m2:=BD hc.dn hd.dn (Qe hc.c.d (by decide)) (Qe hd.c.d (by decide));obtain⟨x,hx⟩:=nmE (a.d*b.d);obtain⟨y,hy⟩:=nmE (c.d*d.d);have eF:H8 a b c d=Ma (Gs (Ts c d) (x*x)) (Gs (Ts a b) (y*y)):=by rw[hx,hy];rfl
 rw[eF];rw[<-hx]at e1 n1 m1;rw[<-hy]at e2 n2 m2;have l1:=Gz (Ts c d) (x*x);have l2:=Gz (Ts a b) (y*y);have m3:=BD n1 n1 (Qe e1.1 (by decide)) (Qe e1.1 (by decide));have m4:=BD n2 n2 (Qe e2.1 (by decide)) (Qe e2.1 (by decide));have m5:=UR (p:=Ts c d) (d:=x*x) (BZ c d) (X9 n1 n1) (Gd h1.1 (by decide)) (Qe e1.2 (by decide)) (by omega);have m6:=UR (p:=Ts a b) (d:=y*y) (BZ a b) (X9 n2 n2) (Gd h2.1 (by decide)) (Qe e2.2 (by decide)) (by omega);have m7:=vX (p:=Gs (Ts c d) (x*x)) (q:=Gs (Ts a b) (y*y)) (Gd (G9 h1.1 e1.2) (by decide)) (Gd (G9 h2.1 e2.2) (by decide)) (by omega) (by omega);exact Fi func179 rfl [.k (Dq ha),.k (Dq hb),.k (Dq hc),.k (Dq hd),.k m1,.k m2,.k (rU hc hd),.k m3,.k m5,.k (rU ha hb),.k m4,.k m6,.k m7] rfl
abbrev Qct:Fy:=[.nils,.nils,.nils,.nils,.bool false,.nils,.int .i64 0]
abbrev Qlv:Fy:=[.row [],.row [],.row [],.row [],.bool false,.row [],.int .i64 0]
end Orr
namespace Orr
open Go Go.Proofs Tryz Orq
set_option maxRecDepth 10000
theorem rY{a b c d:Crv}(ha:Sc a)(hb:Sc b)(hc:Sc c)(hd:Sc d):Fo 179 [.agg (No a),.agg (No b),.agg (No c),.agg (No d)] [.one (rp (zp (H8 a b c d)))]:=cY ha.rs hb.rs hc.rs hd.rs
theorem cZ{a b c d:Crv}{T:Ti}(ha:Sc a)(hb:Sc b)(hc:Sc c)(hd:Sc d)(hq:RT T):Fo 16 [.one (rp (zp (H8 a b c d))),.agg T.tl] [.oi (Hk T.sg (H8 a b c d))]:=hq.a (US ha hb hc hd).dp
theorem GH{l:List Pt}{T:Ti}(hn:l.length<=1000)(h:l.length<2):Fo 70 [.one (.row (Hj l)),.agg (T.tl)] [.agg Qlv,.agg Qlv,.one (.bool false)]:=by
 have c1:=BE (l:=l) (by omega);have hML:(Hj (He Td l)).length=l.length:=by rw[Rr,Pg]
 exact Fi func70 rfl [.k c1,.T] rfl
theorem rX{l:List Pt}{T:Ti}{a b:Pt}{M':List Pt}(hl:∀p∈l,Sc p.c)(hn:l.length≤1000)(hq:RT T)(hM:He Td l=a::b::M'):Fo 70 [.one (.row (Hj l)),.agg (T.tl)] [.agg (FW (Ta (T.sg) (a,b) (H5 (a::b::M'))).1),.agg (FW (Ta (T.sg) (a,b) (H5 (a::b::M'))).2),.one (.bool true)]:=by
 have c1:=BE (l:=l) (by omega);have hML:(He Td l).length=l.length:=Pg _ _;have hMl:∀p∈He Td l,Sc p.c:=λp hp=>hl p (Ph.1 hp)
 have hx0:(He Td l)[0]? = some a:=by rw[hM];rfl
 have hx1:(He Td l)[1]? = some b:=by rw[hM];rfl
 have hM2:2<=(He Td l).length:=by rw[hM];simp
 rw[<-hM];obtain⟨M,hM⟩:=nmE (He Td l);rw[<-hM]at c1 hML hMl hx0 hx1 hM2 ⊢;have hcl:=Rr M;have hs:(a,b).1∈M/\(a,b).2∈M:=⟨Qa hx0,Qa hx1⟩;have hsc:∀ps:List (Pt×Pt),(∀m∈ps,m.1∈M/\m.2∈M)->Sc (Ta (T.sg) (a,b) ps).1.c/\Sc (Ta (T.sg) (a,b) ps).2.c:=λps h=>by
  obtain⟨h1,h2⟩:=NG (T.sg) ps (a,b) hs h;exact⟨hMl _ h1,hMl _ h2⟩
 refine Sk func70 rfl ?_;refine go tt [.k c1,.F,.x (G0 hx0),.x (G0 hx1)] rfl (by simp[Ge] <;> omega) ?_;refine lp (S:=Nat) 5 (λL1 i=>(26,.v (.oi i))::L1) (λi=>[.blk 36 (T.tl),.blk 135 Qct,.blk 135 Qct,.blk 135 (FW (Ta (T.sg) (a,b) (Tr i M)).1),.blk 135 (FW (Ta (T.sg) (a,b) (Tr i M)).2)]) (λi=>M.length-i) (λi=>i<=M.length) 0 (Qh _) rfl (λ_ _=>rfl) (by rw[pY];rfl) λi hi=>?_
 by_cases hlt:i<M.length
 ·obtain⟨x,hx⟩:=gxE (l:=M) (i:=i) hlt;rw[<-Qkx M x i];refine go tt [.T,.r 30 (eI (b:=((i+1:Nat):Int)) (by simp))] rfl (by simp[Ge] <;> omega) ?_;refine Fl (S:=Nat) 5 (λL1 j=>(10,.v (.oi ((i+1+j:Nat):Int)))::L1) (λj=>[.blk 36 (T.tl),.blk 135 Qct,.blk 135 Qct,.blk 135 (FW (Ta (T.sg) (a,b) (prs M x i j)).1),.blk 135 (FW (Ta (T.sg) (a,b) (prs M x i j)).2)]) (λj=>(M.drop (i+1)).length-j) (λj=>j<=(M.drop (i+1)).length) 0 (Qh _) rfl rfl λj hj=>?_
  have hdl:(M.drop (i+1)).length=M.length-(i+1):=Xz;by_cases hltj:j<(M.drop (i+1)).length
  ·obtain⟨y,hy⟩:=gxE (l:=(M.drop (i+1))) (i:=j) hltj;have hy':M[i+1+j]? = some y:=by rw[<-hy,Xi]
   obtain⟨s1,s2⟩:=hsc (prs M x i j) (Qqf hx);have hxs:=hMl x (Qa hx);have hys:=hMl y (Qa hy');have ef:=Qkw (x:=x) hy;have en1:=kA (T.sg) (a,b) (prs M x i j) (x,y);rw[<-ef]at en1;obtain⟨s,hs'⟩:=nmE (Ta (T.sg) (a,b) (prs M x i j));rw[<-hs']at s1 s2 en1 ⊢;have cF:=rY s1 s2 hxs hys;have cA:=cZ s1 s2 hxs hys hq;have ep:Hk T.sg (H8 s.1.c s.2.c x.c y.c)<0->Nv (T.sg) s (x,y)=(x,y):=λh=>if_pos h
   have en:¬Hk T.sg (H8 s.1.c s.2.c x.c y.c)<0->Nv (T.sg) s (x,y)=s:=λh=>if_neg h
   generalize H8 s.1.c s.2.c x.c y.c=F at *;by_cases hg:Hk T.sg F<0
   ·have e:=ep hg;rw[e]at en1;refine go tt [.T,.x (G0 hx),.x (G0 hy'),.k cF,.k cA,.t (decide_eq_true hg),.x (G0 hx),.x (G0 hy')] rfl (by simp[Ge] <;> omega) ?_;exact rd (j+1) (by omega) hltj (by rw[en1];rfl)
   ·have e:=en hg;rw[e]at en1;refine go tt [.T,.x (G0 hx),.x (G0 hy'),.k cF,.k cA,.f (decide_eq_false hg)] rfl (by simp[Ge] <;> omega) ?_;exact rd (j+1) (by omega) hltj (by rw[en1];rfl)
  ·have e:=Qqe hx (Vl hltj);rw[e];refine go tt [.F] rfl (by simp[Ge] <;> omega) ?_;exact rd (i+1) (by omega) hlt rfl
 ·obtain rfl:i=M.length:=by omega
  exact Fh [.F] rfl
abbrev zrw(r:Fu):Fz:=r.map λp=>[rp (zp p)]
def yR(M:List Fu):Fz:=M.map λr=>[.row (zrw r)]
theorem fG(M:List Fu):(yR M).length=M.length:=by simp[yR]
theorem fS{r:Fu}{i:Nat}{p:Ft}(h:r[i]? = some p):(zrw r)[i]? = some [rp (zp p)]:=Tk h
theorem DW{l:List Fu}{i:Nat}{r:Fu}(h:l[i]? = some r):(yR l)[i]? = some [.row (zrw r)]:=Tk h
theorem dJ{α:Type}{R:List α}{j k:Nat}{x:α}(h:R[j]? = some x):(R.take (j+1)).eraseIdx k=if j=k then(R.take j).eraseIdx k else(R.take j).eraseIdx k++[x]:=by
 have hj:=(Qd.1 h).1;have hl:(R.take j).length=j:=by rw[Qz];omega
 rw[X6,h,Jr];rcases J0 k j with hk|hk|hk
 ·rw[if_neg (by omega),List.eraseIdx_append_of_lt_length (by omega)]
 ·subst hk;rw[if_pos rfl,Wq (by omega),hl,J4,Kw (l:=R.take k) (by omega)];show R.take k++[]=_;rw[Xg]
 ·rw[if_neg (by omega),Wq (by omega),hl,Kw (l:=[x]) (by simp;omega),Kw (by omega)]
def Tq(M:List Fu)(k:Nat):List Fu:=(M.drop 1).map (·.eraseIdx k)
theorem sB{M:List Fu}{i k:Nat}{R:Fu}(h:M[i]? = some R)(h0:0<i):Tq (M.take (i+1)) k=Tq (M.take i) k++[R.eraseIdx k]:=by
 have hi:=(Qd.1 h).1;unfold Tq;rw[X6,h,Jr,Ke (by rw[Qz];omega),Xo];rfl
theorem lQ{M:List Fu}{i k:Nat}(hi:i<=M.length):(Tq (M.take i) k).length=i-1:=by
 unfold Tq;rw[List.length_map,List.length_drop,List.length_take];omega
theorem Qhq{M:List Fu}{k:Nat}(hn:M.length≤100)(hM:∀R∈M,R.length≤100):Fo 351 [.one (.row (yR M)),.oi 0,.oi k] [.one (.row (yR (Tq M k)))]:=by
 have hrl:=fG M;refine Sk func351 rfl ?_;refine Ff [.o 7 29 1] rfl ?_;refine Fl (S:=Nat) 1 (λL1 i=>(13,.v (.oi i))::(7,.v (.one (.orow 0 1 none)))::L1) (λi=>[.row false 29 1 (yR (Tq (M.take i) k))]) (λi=>M.length-i) (λi=>i<=M.length) 0 (Qh _) rfl rfl λi hi=>?_
 have hml:(yR (Tq (M.take i) k)).length=i-1:=by rw[fG,lQ hi]
 by_cases hlt:i<M.length
 ·obtain⟨r,hr⟩:=gxE (l:=M) (i:=i) hlt;have hm:=hM r (Qa hr);have hql:(zrw r).length=r.length:=by simp
  by_cases h0:i=0
  ·subst h0;have e:Tq (M.take 1) k=Tq (M.take 0) k:=by unfold Tq;simp
   refine Ff [.T,.t rfl] rfl ?_ (by simp[Ge]);exact rd 1 (by omega) hlt (by rw[e];rfl)
  ·have e:=sB (k:=k) hr (by omega);refine go tt [.T,.F,.o 9 28 1,.x (DW hr)] rfl (by simp[Ge] <;> omega) ?_;refine Fl (S:=Nat) 2 (λL1 c=>(24,.v (.oi c))::(9,.v (.one (.orow 1 1 none)))::L1) (λc=>[.row false 29 1 (yR (Tq (M.take i) k)),.row false 28 1 (zrw ((r.take c).eraseIdx k))]) (λc=>r.length-c) (λc=>c<=r.length) 0 (Qh _) rfl rfl λc hc=>?_
   have hzl:((r.take c).eraseIdx k).length<=c:=by
    exact Qe (List.eraseIdx_sublist ..).length_le (by rw[Qz];omega)
   by_cases hcl:c<r.length
   ·obtain⟨p,hp⟩:=gxE (l:=r) (i:=c) hcl;have e2:=dJ (k:=k) hp;by_cases hck:c=k
    ·rw[if_pos hck]at e2;refine go tt [.T,.F] rfl (by simp[Ge] <;> omega) ?_;exact rd (c+1) (by omega) hcl (by rw[e2];rfl)
    ·rw[if_neg hck]at e2;have hs1:∀y∈[[rp (zp p)]],y.length=1:=λy hy=>by rw[Qo.1 hy];rfl
     refine go tt [.T,.T,.x (DW hr),.x (fS hp),.s (sz:=1) hs1] rfl (by simp[Ge] <;> omega) ?_;exact rd (c+1) (by omega) hcl (by rw[e2];simp[zrw];rfl)
   ·obtain rfl:c=r.length:=by omega
    rw[Za];have hs1:∀y∈[[LV.row (zrw (r.eraseIdx k))]],y.length=1:=λy hy=>by rw[Qo.1 hy];rfl
    refine Ff [.F] rfl ?_;refine gz 1 rfl rfl ?_;refine go tt [.s (sz:=1) hs1] rfl (by simp[Ge] <;> omega) ?_;exact rd (i+1) (by omega) hlt (by rw[e];simp[yR];rfl)
 ·obtain rfl:i=M.length:=by omega
  rw[Za];exact Fh [.F] rfl
def QJ(k:Nat)(p:Ft):Ft:=if k % 2=1 then Nn p else p
def Io(f:List Fu->Ft)(M:List Fu):Nat->Ft
 | 0=>[]
 |k+1=>Mt (Io f M k) (QJ k (Gq ((M.getD 0 []).getD k []) (f (Tq M k))))
def Lm:Nat->List Fu->Ft
 | 0,_=>[1]
 |n+1,M=>Io (Lm n) M (n+1)
structure SqR(s:Nat)(ds:List Nat)(M:List (List (List Int))):Prop where
 l:M.length=ds.length
 w:∀r∈M,r.length=ds.length
 b:∀r∈M,∀p∈r,Bd s p
 n:∀r∈M,∀(j:Nat) (p:List Int),r[j]? = some p->p.length≤ds.getD j 0+1
theorem Ie:∀{ds:Fv} {k:Nat},k<ds.length->(ds.eraseIdx k).sum+ds.getD k 0=ds.sum
 | [],_,h=>by simp at h
 |d::ds,0,_=>by simp[Yl]
 |
  d::ds,k+1,h=>by
  have:=Ie (ds:=ds) (k:=k) (by simpa using h);simp only[List.eraseIdx_cons_succ,Ky,Q0];omega
theorem SqR.minor{s:Nat}{ds:Fv}{M:List Fu}(h:SqR s ds M){k:Nat}(hk:k<ds.length):SqR s (ds.eraseIdx k) (Tq M k):=by
 have hl:=h.l;unfold Tq;refine⟨by rw[Q4,Xz,Yb hk];omega,λr hr=>?_,λr hr p hp=>?_,λr hr j p hp=>?_⟩
 all_goals obtain⟨q,hq,rfl⟩:=Zd.1 hr
 all_goals have hq:=Q9 hq
 ·rw[Yb (by rw[h.w q hq];exact hk),Yb hk,h.w q hq]
 ·exact h.b q hq p (List.mem_of_mem_eraseIdx hp)
 ·rw[List.getElem?_eraseIdx]at hp;rw[Qc,List.getElem?_eraseIdx]
  split at hp <;> rename_i hj
  ·rw[if_pos hj,<-Qc];exact h.n q hq j p hp
  ·rw[if_neg hj,<-Qc];exact h.n q hq (j+1) p hp
theorem SqR.at{s:Nat}{ds:Fv}{M:List Fu}(h:SqR s ds M){k:Nat}(hk:k<ds.length):∃r p,M[0]? = some r/\r[k]? = some p/\(M.getD 0 []).getD k []=p/\Bd s p/\p.length<=ds.getD k 0+1:=by
 obtain⟨r,hr⟩:=gxE (l:=M) (i:=0) (by rw[h.l];omega);have hm:=Qa hr;obtain⟨p,hp⟩:=gxE (l:=r) (i:=k) (by rw[h.w r hm];exact hk);refine⟨r,p,hr,hp,?_,h.b r hm p (Qa hp),h.n r hm k p hp⟩;rw[Qc (l:=M),hr,V3,Qc,hp];rfl
theorem Qq4{k s:Nat}{p:Ft}(h:Bd s p):Bd s (QJ k p):=by
 unfold QJ;split
 ·exact XG h
 ·exact h
theorem Ql2(k:Nat)(p:Ft):(QJ k p).length<=p.length:=by
 unfold QJ;split
 ·exact Lr _
 ·exact Qn _
theorem EK{s B:Nat}{ds:Fv}{f:List Fu->Ft}{M:List Fu}(h:SqR s ds M)(hs:ds.sum<64)(hf:∀k,k<ds.length->Bd B (f (Tq M k))/\(f (Tq M k)).length<=(ds.eraseIdx k).sum+1):∀i,i<=ds.length->Bd (s+B+7+i) (Io f M i)/\(Io f M i).length<=ds.sum+1
 | 0,_=>⟨λz hz=>(by cases hz),Qh _⟩
 |
  i+1,hi=>by
  obtain⟨h2,h3⟩:=EK h hs hf i (by omega);obtain⟨r,p,_,_,e,b,l⟩:=h.at (k:=i) (by omega);obtain⟨f1,f2⟩:=hf i (by omega);have hd:=Ie (ds:=ds) (k:=i) (by omega);have hp1:Bd (s+B+7) (Gq p (f (Tq M i))):=Si b f1 (Xj l (by omega));have hp2:=Te p (f (Tq M i));have hp3:=Ql2 i (Gq p (f (Tq M i)));simp only[Io];rw[e];exact⟨Gd (Oa h2 (Qq4 hp1)) (by omega),Qe (E5 _ _) (by omega)⟩
theorem Qaj{s:Nat}:∀(n:Nat) (ds:Fv) (M:List Fu),ds.length=n->ds.sum<64->SqR s ds M->Bd (n*(s+20)+1) (Lm n M)/\(Lm n M).length<=ds.sum+1/\n<=9\/9<n
 | 0,ds,M,_,_,_=>.inl ⟨λz hz=>(by simp[Lm]at hz;subst hz;rw[Yc];decide),by simp[Lm],by omega⟩
 |
  n+1,ds,M,hl,hs,h=>by
  by_cases h9:9<n+1
  ·exact .inr h9
  have hsum:=λk (hk:k<ds.length)=>Ie (ds:=ds) (k:=k) hk
  have:=EK (f:=Lm n) (B:=n*(s+20)+1) h hs (λk hk=>by
   have hd:=hsum k hk;rcases Qaj n (ds.eraseIdx k) (Tq M k) (by rw[Yb hk];omega) (by omega) (h.minor hk)with h'|h'
   ·exact⟨h'.1,h'.2.1⟩
   ·omega) (n+1) (by omega)
  have e1:(n+1)*(s+20)=n*(s+20)+(s+20):=Xq ..;exact .inl ⟨Gd this.1 (by omega),this.2,by omega⟩
theorem cX{s:Nat}(hs:s<=1000000):∀(n:Nat) (ds:Fv) (M:List Fu),n<=4->ds.length=n->ds.sum<64->SqR s ds M->Fo 274 [.one (.row (yR M))] [.one (rp (zp (Lm n M)))]
 |
  0,ds,M,_,hl,_,h=>by
  have e:=Qf (h.l.trans hl);subst e;exact Fi func274 rfl [.t rfl,.k bI] rfl
 |
  n+1,ds,M,hn,hl,hd,h=>by
  have hrl:=fG M;have hMl:=h.l;have ih:=λk (hk:k<ds.length)=>cX hs n (ds.eraseIdx k) (Tq M k) (by omega) (by rw[Yb hk];omega) (by have:=Ie (ds:=ds) (k:=k) hk;omega) (h.minor hk)
  have hb:n*(s+20)+1<=3*1000020+1:=Nat.add_le_add_right (Xl (by omega) (by omega)) 1;have hok:∀k,k<ds.length->Bd (n*(s+20)+1) (Lm n (Tq M k))/\(Lm n (Tq M k)).length<=(ds.eraseIdx k).sum+1:=λk hk=>by
   have hd':=Ie (ds:=ds) (k:=k) hk;rcases Qaj n (ds.eraseIdx k) (Tq M k) (by rw[Yb hk];omega) (by omega) (h.minor hk)with h'|h'
   ·exact⟨h'.1,h'.2.1⟩
   ·omega
  have hds:=EK (f:=Lm n) (B:=n*(s+20)+1) h hd hok;have cm:=λk=>Qhq (M:=M) (k:=k) (by omega) (λr hr=>by rw[h.w r hr];omega)
  show Fo 274 [.one (.row (yR M))] [.one (rp (zp (Io (Lm n) M (n+1))))];obtain⟨f,hf⟩:=nmE (Lm n);rw[<-hf]at hds hok ih ⊢;refine Sk func274 rfl ?_;refine Ff [.F,.z 3] rfl ?_;refine Fl (S:=Nat) 0 (λL1 i=>(13,.v (.oi i))::(3,.v (.one (rp (zp (Io f M i)))))::L1) (λ_=>[]) (λi=>M.length-i) (λi=>i<=M.length) 0 (Qh _) rfl rfl λi hi=>?_
  obtain⟨d2,d3⟩:=hds i (by omega);by_cases hlt:i<M.length
  ·obtain⟨r,p,hr,hp,e,b,l⟩:=h.at (k:=i) (by omega);obtain⟨k2,k3⟩:=hok i (by omega);have hse:=Ie (ds:=ds) (k:=i) (by omega);have ci:=ih i (by omega);have cp:=Ow (p:=p) (q:=f (Tq M i)) (by omega) (by omega) b k2 (by omega);have hmb:Bd (s+(n*(s+20)+1)+7) (Gq p (f (Tq M i))):=Si b k2 (Xj l (by omega));have hml:=Te p (f (Tq M i));by_cases h2:i % 2=1
   ·have es:Io f M (i+1)=Mt (Io f M i) (Nn (Gq p (f (Tq M i)))):=by simp only[Io,QJ];rw[e,if_pos h2]
    have hnl:=Lr (Gq p (f (Tq M i)));refine go tt [.T,.x (DW hr),.x (fS hp),.k (cm i),.k ci,.k cp,.r 28 (eI (b:=((i % 2:Nat):Int)) rfl),.T,.k (bC (Gd hmb (by omega)) (by omega)),.k (BL (p:=Io f M i) (q:=Nn (Gq p (f (Tq M i)))) (Gd d2 (by omega)) (Gd (XG hmb) (by omega)) (by omega) (by omega))] rfl (by simp[Ge] <;> omega) ?_;exact rd (i+1) (by omega) hlt (by rw[es];rfl)
   ·have es:Io f M (i+1)=Mt (Io f M i) (Gq p (f (Tq M i))):=by simp only[Io,QJ];rw[e,if_neg h2]
    refine go tt [.T,.x (DW hr),.x (fS hp),.k (cm i),.k ci,.k cp,.r 28 (eI (b:=((i % 2:Nat):Int)) rfl),.F,.k (BL (p:=Io f M i) (q:=Gq p (f (Tq M i))) (Gd d2 (by omega)) (Gd hmb (by omega)) (by omega) (by omega))] rfl (by simp[Ge] <;> omega) ?_;exact rd (i+1) (by omega) hlt (by rw[es];rfl)
  ·obtain rfl:i=n+1:=by omega
   exact Fh [.F] rfl
theorem Qki{a b c:Crv}(ha:Rs a)(hb:Rs b)(hc:Rs c):SqR 100000 [15,15,0] (Ol a b c):=by
 have key:∀k:Crv,Rs k->(∀p∈[k.x,k.y,[k.d]],Bd 100000 p)/\∀(j:Nat) (p:Ft),[k.x,k.y,[k.d]][j]? = some p->p.length≤[15,15,0].getD j 0+1:=λk hk=>by
  refine⟨λp hp=>?_,λj p hp=>?_⟩
  ·simp only[Qj,Vk,or_false]at hp;rcases hp with rfl|rfl|rfl
   ·exact hk.c.x
   ·exact hk.c.y
   ·exact Qgc hk.c.d
  ·match j,hp with
   | 0,hp=>injection hp with hp;subst hp;exact hk.c.lx
   | 1,hp=>injection hp with hp;subst hp;exact hk.c.ly
   | 2,hp=>injection hp with hp;subst hp;exact Qn _
   |j+3,hp=>simp at hp
 have h3:∀r∈Ol a b c,r=[a.x,a.y,[a.d]]\/r=[b.x,b.y,[b.d]]\/r=[c.x,c.y,[c.d]]:=λr hr=>by
  simpa[Ol]using hr
 refine⟨rfl,λr hr=>?_,λr hr=>?_,λr hr=>?_⟩
 ·rcases h3 r hr with rfl|rfl|rfl <;> rfl
 ·rcases h3 r hr with rfl|rfl|rfl
  ·exact(key a ha).1
  ·exact(key b hb).1
  ·exact(key c hc).1
 ·rcases h3 r hr with rfl|rfl|rfl
  ·exact(key a ha).2
  ·exact(key b hb).2
  ·exact(key c hc).2
def Lv(a b c:Crv):Ft:=Lm 3 (Ol a b c)
theorem Qdm{a b c:Crv}(ha:Rs a)(hb:Rs b)(hc:Rs c):Fo 176 [.agg (No a),.agg (No b),.agg (No c)] [.one (rp (zp (Lv a b c)))]:=by
 have cd:=cX (by decide) 3 [15,15,0] (Ol a b c) (by decide) rfl (by decide) (Qki ha hb hc);have x0:[No a,No b,No c][0]? = some (No a):=rfl;have x1:[No a,No b,No c][1]? = some (No b):=rfl;have x2:[No a,No b,No c][2]? = some (No c):=rfl;have hs1:∀k:Crv,∀y∈[[LV.row (zrw [k.x,k.y,[k.d]])]],y.length=1:=λk y hy=>by rw[Qo.1 hy];rfl
 refine Sk func176 rfl ?_;refine Ff [.o 7 29 1] rfl ?_;refine Fl (S:=Nat) 4 (λL1 i=>(18,.v (.oi i))::(7,.v (.one (.orow 3 1 none)))::L1) (λi=>[.blk 133 (No a),.blk 133 (No b),.blk 133 (No c),.row false 29 1 (yR ((Ol a b c).take i))]) (λi=>3-i) (λi=>i<=3) 0 (by decide) rfl rfl λi hi=>?_
 rcases(show i=0\/i=1\/i=2\/i=3 by omega)with rfl|rfl|rfl|rfl
 ·exact go tt [.t rfl,.x x0,.k (Dq ha),.s (sz:=1) (hs1 a)] rfl (by simp[Ge,yR,Ol]) (rd 1 (by omega) (by omega) rfl)
 ·exact go tt [.t rfl,.x x1,.k (Dq hb),.s (sz:=1) (hs1 b)] rfl (by simp[Ge,yR,Ol]) (rd 2 (by omega) (by omega) rfl)
 ·exact go tt [.t rfl,.x x2,.k (Dq hc),.s (sz:=1) (hs1 c)] rfl (by simp[Ge,yR,Ol]) (rd 3 (by omega) (by omega) rfl)
 ·exact Fh [.f rfl,.k cd] rfl
end Orr
namespace Orq
open Orr Go
def sR(sg:Ft->Int)(a b c:Pt):Bool:=decide (0<Hk sg (G8 a.c b.c c.c))
def Ij(sg:Ft->Int)(row:List Pt):List Pt:=(YG (sR sg) [] row).reverse
def Ms(sg:Ft->Int)(row:List Pt):List Pt:=if row.length<3 then row else(Ij sg row).dropLast++(Ij sg row.reverse).dropLast
def Gx(l:List Pt)(a:Tm):List Pt:=Ms (Hb a) (Rk a (Gu l))
def Ln(C:List Pt):List (Pt×Pt):=C.zip (C.drop 1++C.take 1)
def Qfx(l:List Pt):Fu:=l.flatMap λx=>l.flatMap λy=>l.map λz=>G8 x.c y.c z.c
theorem Qfy{l:List Pt}{x y z:Pt}(hx:x∈l)(hy:y∈l)(hz:z∈l):G8 x.c y.c z.c∈Qfx l :=
 Xb.2 ⟨x,hx,Xb.2 ⟨y,hy,Zd.2 ⟨z,hz,rfl⟩⟩⟩
theorem Qny{l:List Pt}(hl:∀p∈l,Sc p.c):∀p∈Qfx l,Cp p:=λp hp=>by
 obtain⟨x,hx,hp⟩:=Xb.1 hp;obtain⟨y,hy,hp⟩:=Xb.1 hp;obtain⟨z,hz,rfl⟩:=Zd.1 hp;exact SK (hl x hx) (hl y hy) (hl z hz)
theorem IE{α:Type}(s:α->α->α->Bool)(c:α):∀st:List α,(pM s c st).Sublist st
 | []=>List.Sublist.refl _
 | [_]=>List.Sublist.refl _
 |
  b::a::r=>by
  simp only[pM]
  split
  ·exact List.Sublist.refl _
  ·exact(IE s c (a::r)).trans (List.sublist_cons_self _ _)
theorem LO{α:Type}{s:α->α->α->Bool}:∀{l acc:List α} {x:α},x∈YG s acc l->x∈acc\/x∈l
 | [],acc,x,h=>.inl h
 |
  c::l,acc,x,h=>by
  rcases LO (l:=l) h with h|h
  ·rcases Qj.1 h with rfl|h
   ·exact .inr (by simp)
   ·exact .inl ((IE s c acc).subset h)
  ·exact .inr (Qi _ h)
theorem LI{α:Type}(s:α->α->α->Bool):∀(l acc:List α),(YG s acc l).length<=acc.length+l.length
 | [],acc=>by simp[YG]
 |
  c::l,acc=>by
  have h1:=LI s l (c::pM s c acc);have h2:=(IE s c acc).length_le;simp only[YG,Zf]at h1 ⊢;omega
theorem LA{sg:Ft->Int}{row:List Pt}{x:Pt}(h:x∈Ij sg row):x∈row:=by
 unfold Ij at h;rcases LO (Xw.1 h)with h|h
 ·cases h
 ·exact h
theorem LL(sg:Ft->Int)(row:List Pt):(Ij sg row).length<=row.length:=by
 have:=LI (sR sg) row [];unfold Ij;rw[List.length_reverse];simpa using this
theorem Bu{sg:Ft->Int}{row:List Pt}{x:Pt}(h:x∈Ms sg row):x∈row:=by
 unfold Ms at h
 split at h
 ·exact h
 ·rcases Qr.1 h with h|h
  ·exact LA ((List.dropLast_sublist _).subset h)
  ·exact Xw.1 (LA ((List.dropLast_sublist _).subset h))
theorem eC(sg:Ft->Int)(row:List Pt):(Ms sg row).length<=2*row.length:=by
 unfold Ms
 split
 ·omega
 ·have h1:=LL sg row;have h2:=LL sg row.reverse;rw[List.length_reverse]at h2;rw[Q6,List.length_dropLast,List.length_dropLast];omega
theorem S4{l:List Pt}{a:Tm}{x:Pt}(h:x∈Gx l a):x∈l:=Ht (Rx.1 (Bu h))
theorem Qdt(l:List Pt)(a:Tm):(Gx l a).length<=2*l.length:=by
 have h1:=eC (Hb a) (Rk a (Gu l));rw[Dd]at h1;have:=VA l;unfold Gx;omega
theorem tP{C:List Pt}{e:Pt×Pt}(h:e∈Ln C):e.1∈C/\e.2∈C:=by
 unfold Ln at h;have h1:=List.of_mem_zip (show(e.1,e.2)∈_ from h);refine⟨h1.1,?_⟩;rcases Qr.1 h1.2 with h|h
 ·exact Q9 h
 ·exact Qq h
theorem Qnx{l:List Pt}(hl:∀p∈l,Sc p.c):∀p∈nL l++Qfx l,Cp p:=λp hp=>by
 rcases Qr.1 hp with h|h
 ·exact iJ hl p h
 ·exact Qny hl p h
def Il{α:Type}(l:List α):List (α×α):=l.zip (l.drop 1)
theorem GB{α:Type}{Q:α->α->Prop}:∀{l:List α},Edg Q l↔∀e∈Il l,Q e.1 e.2
 | []=>by simp[Edg,Il]
 | [_]=>by simp[Edg,Il]
 |
  a::b::l=>by
  have ih:=GB (Q:=Q) (l:=b::l);have e:Il (a::b::l)=(a,b)::Il (b::l):=rfl;rw[e];constructor
  ·rintro⟨h1,h2⟩ x hx
   rcases Qj.1 hx with rfl|hx
   ·exact h1
   ·exact ih.1 h2 x hx
  ·intro h;exact⟨h (a,b) (by simp),ih.2 λx hx=>h x (Qi _ hx)⟩
theorem EZ{α:Type}(f z:α)(A:List α):Il (f::A++[z])=(f::A).zip (A++[z]):=by
 unfold Il;rw[Xa,K5,Je];have:f::(A++[z])=(f::A)++[z]:=rfl;rw[this];have h:A++[z]=(A++[z])++[]:=(Xg _).symm
 conv=>lhs;rw[h]
 rw[List.zip_append (by simp)];simp
theorem tM{f z:Pt}{A B:List Pt}:Ln ((f::A++[z]).dropLast++(z::B++[f]).dropLast)=Il (f::A++[z])++Il (z::B++[f]):=by
 rw[Zu,Zu,EZ,EZ,<-List.zip_append (by simp)];unfold Ln;congr 1;simp
theorem Edg.rev{α:Type}{Q:α->α->Prop}:∀{l:List α},Edg Q l->Edg (λa b=>Q b a) l.reverse:=by
 have app:∀{Q:α->α->Prop} {l:List α} {b a:α},Edg Q (l++[b])->Q b a->Edg Q (l++[b]++[a]):=by
  intro Q l
  induction l with
  |nil=>intro b a _ h;exact⟨h,trivial⟩
  |
   cons x l ih =>
   intro b a h h2;cases l with
   |nil=>exact⟨h.1,ih h.2 h2⟩
   |cons y l=>exact⟨h.1,ih h.2 h2⟩
 intro l
 induction l with
 |nil=>intro _;trivial
 |
  cons a l ih =>
  intro h;cases l with
  |nil=>trivial
  |
   cons b l =>
   have:=ih h.2;rw[Vf]at this ⊢;rw[Vf];exact app this h.1
theorem Cnv.rev{α:Type}{R:α->α->α->Prop}:∀{l:List α},Cnv R l->Cnv (λa b c=>R c b a) l.reverse:=by
 have app:∀{R:α->α->α->Prop} {l:List α} {c b a:α},Cnv R (l++[c,b])->R c b a->Cnv R (l++[c,b,a]):=by
  intro R l
  induction l with
  |nil=>intro c b a _ h;exact⟨h,trivial⟩
  |
   cons x l ih =>
   intro c b a h h2;cases l with
   |nil=>exact⟨h.1,ih h.2 h2⟩
   |
    cons y l =>
    cases l with
    |nil=>exact⟨h.1,ih h.2 h2⟩
    |cons w l=>exact⟨h.1,ih h.2 h2⟩
 intro l
 induction l with
 |nil=>intro _;trivial
 |
  cons a l ih =>
  intro h
  match l,h with
  | [],_=>trivial
  | [_],_=>trivial
  |
   b::c::l,h =>
   have:=ih h.2;rw[Vf,Vf,Zj]at this;rw[Vf,Vf,Vf,Zj,Zj];exact app this h.1
end Orq
namespace Orr
open Go Go.Proofs Tryz Orq
set_option maxRecDepth 10000

def UV(a b:Crv):Bool:=decide ((RP (QK a.x a.d) (QK b.x b.d)).length=0) && decide ((RP (QK a.y a.d) (QK b.y b.d)).length=0)
theorem Qog{a b:Crv}(ha:Rs a)(hb:Rs b):Fo 272 [.agg (No a),.agg (No b)] [.one (.bool (UV a b))]:=by
 have lx1:=ha.c.lx;have ly1:=ha.c.ly;have lx2:=hb.c.lx;have ly2:=hb.c.ly;have cx:=bO (p:=QK a.x a.d) (q:=QK b.x b.d) (FY (Gd ha.c.x (by decide)) (Qe ha.c.d (by decide)) (by decide)) (FY (Gd hb.c.x (by decide)) (Qe hb.c.d (by decide)) (by decide)) (by rw[Dm];omega) (by rw[Dm];omega);have cy:=bO (p:=QK a.y a.d) (q:=QK b.y b.d) (FY (Gd ha.c.y (by decide)) (Qe ha.c.d (by decide)) (by decide)) (FY (Gd hb.c.y (by decide)) (Qe hb.c.d (by decide)) (by decide)) (by rw[Dm];omega) (by rw[Dm];omega);unfold UV;generalize RP (QK a.x a.d) (QK b.x b.d)=X at *;generalize RP (QK a.y a.d) (QK b.y b.d)=Y at *;have hX:(frow X).length=X.length:=by simp[frow]
 have hY:(frow Y).length=Y.length:=by simp[frow]
 by_cases h:X.length=0
 ·by_cases h':Y.length=0
  ·rw[decide_eq_true h,decide_eq_true h'];exact Fi func272 rfl [.k cx,.g 12 true Fq,.k cy,.g 19 true Fq] rfl
  ·rw[decide_eq_true h,decide_eq_false h'];exact Fi func272 rfl [.k cx,.g 12 true Fq,.k cy,.g 19 false Fp] rfl
 ·rw[decide_eq_false h];exact Fi func272 rfl [.k cx,.g 12 false Fp] rfl
def FN(out:List Pt)(p:Pt):List Pt:=if (out.any λo=>UV o.c p.c)=true then out else out++[p]
def Mf(l:List Pt):List Pt:=(He Td l).foldl FN []
theorem TF:∀(M O:List Pt),(∀p∈M.foldl FN O,p∈O\/p∈M)/\(M.foldl FN O).length≤O.length+M.length
 | [],O=>⟨λp hp=>.inl hp,by simp⟩
 |
  x::M,O=>by
  obtain⟨h1,h2⟩:=TF M (FN O x);have e1:(FN O x).length<=O.length+1:=by unfold FN;split <;> simp
  refine⟨λp hp=>?_,by rw[Z0,Zf];omega⟩;rcases h1 p hp with h|h
  ·unfold FN at h
   split at h
   ·exact .inl h
   ·rcases Qr.1 h with h|h
    ·exact .inl h
    ·exact .inr (by rw[Qo.1 h];simp)
  ·exact .inr (Qi _ h)
theorem WR{l:List Pt}{p:Pt}(h:p∈Mf l):p∈l:=by
 rcases(TF (He Td l) []).1 p h with h|h
 ·cases h
 ·exact Ph.1 h
theorem MP(l:List Pt):(Mf l).length<=l.length:=by
 have:=(TF (He Td l) []).2;rw[Pg,Vb,Xd]at this;exact this
theorem Qmp{α:Type}{f:α->Bool}{l:List α}{i:Nat}{x:α}(h:l[i]? = some x):(l.take (i+1)).any f=((l.take i).any f || f x):=by
 rw[X6,h,List.any_append];simp
theorem Qoh{l:List Pt}(hl:∀p∈l,Rs p.c)(hn:l.length≤1000):Fo 174 [.one (.row (Hj l))] [.one (.row (Hj (Mf l)))]:=by
 have c1:=BE (l:=l) (by omega);have hML:(He Td l).length=l.length:=Pg _ _;have hMl:∀p∈He Td l,Rs p.c:=λp hp=>hl p (Ph.1 hp)
 unfold Mf;obtain⟨M,hM⟩:=nmE (He Td l);rw[<-hM]at c1 hML hMl ⊢;have hcl:=Rr M;refine Sk func174 rfl ?_;refine Ff [.o 3 135 7,.k c1] rfl ?_;refine Fl (S:=Nat) 1 (λL1 i=>(11,.v (.oi i))::(3,.v (.one (.orow 0 7 none)))::L1) (λi=>[.row false 135 7 (Hj ((M.take i).foldl FN []))]) (λi=>M.length-i) (λi=>i<=M.length) 0 (Qh _) rfl rfl λi hi=>?_
 by_cases hlt:i<M.length
 ·obtain⟨p,hp⟩:=gxE (l:=M) (i:=i) hlt;have hpr:=hMl p (Qa hp);have hst:=Mi FN [] M hp;have hsub:=TF (M.take i) [];obtain⟨O,hO⟩:=nmE ((M.take i).foldl FN []);rw[<-hO]at hst hsub ⊢;have hOl:O.length<=1000:=by have:=hsub.2;rw[Vb,Qz]at this;omega
  have hOm:∀o∈O,Rs o.c:=λo ho=>by
   rcases hsub.1 o ho with h|h
   ·cases h
   ·exact hMl o (Qq h)
  have hrl:=Rr O;refine Ff [.T] rfl ?_;refine Fl (S:=Nat) 1 (λL1 k=>(16,.v (.oi k))::(5,.v (.one (.bool ((O.take k).any λo=>UV o.c p.c))))::L1) (λ_=>[.row false 135 7 (Hj O)]) (λk=>O.length-k) (λk=>k<=O.length) 0 (Qh _) rfl rfl λk hk=>?_
  by_cases hkl:k<O.length
  ·obtain⟨o,ho⟩:=gxE (l:=O) (i:=k) hkl;have ha:=Qmp (f:=λo=>UV o.c p.c) ho;cases hb:(O.take k).any λo=>UV o.c p.c with
   |
    true =>
    rw[hb,We]at ha;refine go tt [.T,.g 20 true rfl] rfl (by simp[Ge] <;> omega) ?_;exact rd (k+1) (by omega) hkl (by rw[ha];rfl)
   |
    false =>
    rw[hb,J3]at ha;refine go tt [.T,.g 20 false rfl,.i k,.x (G0 ho),.x (G0 hp),.k (Qog (hOm o (Qa ho)) hpr)] rfl (by simp[Ge] <;> omega) ?_;exact rd (k+1) (by omega) hkl (by rw[ha];rfl)
  ·obtain rfl:k=O.length:=by omega
   rw[Za];have h7z:∀y∈[FW p],y.length=7:=λy hy=>by rw[Qo.1 hy];rfl
   cases hb:O.any λo=>UV o.c p.c with
   |
    true =>
    have e:FN O p=O:=if_pos hb;refine go tt [.F,.f rfl] rfl (by simp[Ge] <;> omega) ?_;exact rd (i+1) (by omega) hlt (by rw[hst,e];rfl)
   |
    false =>
    have e:FN O p=O++[p]:=if_neg (by rw[hb];decide);refine go tt [.F,.t rfl,.x (G0 hp),.s (sz:=7) h7z] rfl (by simp[Ge] <;> omega) ?_;exact rd (i+1) (by omega) hlt (by rw[hst,e];simp[Hj];rfl)
 ·obtain rfl:i=M.length:=by omega
  rw[Za];exact Fh [.F] rfl
end Orr
namespace Orr
open Go Go.Proofs Tryz Orq
theorem KA(p:Ft)(q:Rat):Gf (QJ 0 p) q=Gf p q:=rfl
theorem PI(p:Ft)(q:Rat):Gf (QJ 1 p) q=-Gf p q:=ZL p q
theorem jQ(p:Ft)(q:Rat):Gf (QJ 2 p) q=Gf p q:=rfl
theorem Qkp(p:Ft)(q:Rat):Gf (Lm 1 [[p]]) q=Gf p q:=by
 show Gf (Mt [] (QJ 0 (Gq p [1]))) q=_;rw[M4,KA,Gn,Ru];show(0:Rat)+_=_;grind
theorem lF(p r s t:Ft)(q:Rat):Gf (Lm 2 [[p,r],[s,t]]) q=Gf p q*Gf t q-Gf r q*Gf s q:=by
 show Gf (Mt (Mt [] (QJ 0 (Gq p (Lm 1 [[t]])))) (QJ 1 (Gq r (Lm 1 [[s]])))) q=_;rw[M4,M4,KA,PI,Gn,Gn,Qkp,Qkp];show(0:Rat)+_+_=_;grind
theorem IM(a1 a2 a3 b1 b2 b3 c1 c2 c3:Ft)(q:Rat):Gf (Lm 3 [[a1,a2,a3],[b1,b2,b3],[c1,c2,c3]]) q=Gf a1 q*(Gf b2 q*Gf c3 q-Gf b3 q*Gf c2 q)-Gf a2 q*(Gf b1 q*Gf c3 q-Gf b3 q*Gf c1 q)+Gf a3 q*(Gf b1 q*Gf c2 q-Gf b2 q*Gf c1 q):=by
 show Gf (Mt (Mt (Mt [] (QJ 0 (Gq a1 (Lm 2 [[b2,b3],[c2,c3]])))) (QJ 1 (Gq a2 (Lm 2 [[b1,b3],[c1,c3]])))) (QJ 2 (Gq a3 (Lm 2 [[b1,b2],[c1,c2]])))) q=_;rw[M4,M4,M4,KA,PI,jQ,Gn,Gn,Gn,lF,lF,lF];show(0:Rat)+_+_+_=_;grind
theorem SS{f:Nat->Ft}{rows:List Fu}:∀i,Gh (Lh f rows i)
 | 0=>rfl
 |
  i+1=>by
  simp only[Lh]
  split
  ·exact SS i
  ·split
   ·exact Gk _ _
   ·exact Gk _ _
theorem JJ(a b c:Crv):Lv a b c=G8 a b c:=by
 refine Om (Gk _ _) (SS 3) λq=>?_
 show Gf (Lm 3 [[a.x,a.y,[a.d]],[b.x,b.y,[b.d]],[c.x,c.y,[c.d]]]) q=Gf (Cv 3 [[a.x,a.y,[a.d]],[b.x,b.y,[b.d]],[c.x,c.y,[c.d]]]) q;rw[IM,ZM];grind
end Orr
namespace Orr
open Go Go.Proofs Tryz Orq
set_option maxRecDepth 10000
theorem LM{a b c:Crv}(ha:Sc a)(hb:Sc b)(hc:Sc c):Fo 176 [.agg (No a),.agg (No b),.agg (No c)] [.one (rp (zp (Lv a b c)))]:=Qdm ha.rs hb.rs hc.rs
theorem NR{a b c:Crv}(ha:Sc a)(hb:Sc b)(hc:Sc c):Cp (Lv a b c):=by
 rw[JJ];exact SK ha hb hc
theorem rW{l:List Pt}(hl:∀p∈l,Sc p.c)(hn:l.length≤1000):Fo 174 [.one (.row (Hj l))] [.one (.row (Hj (Mf l)))]:=Qoh (λp hp=>(hl p hp).rs) hn
def gV(sg:Ft->Int)(a b c:Pt):Bool:=(P7 sg a c && P7 sg c b) || (P7 sg b c && P7 sg c a)
def Nu(sg:Ft->Int)(a b c:Pt):Bool:=decide (c.id=a.id) || (decide (c.id=b.id) || !(decide (Hk sg (Lv a.c b.c c.c)<0) || (decide (Hk sg (Lv a.c b.c c.c)=0) && !gV sg a b c)))
def Co(sg:Ft->Int)(a b:Pt)(l:List Pt):Bool:=l.all (Nu sg a b)
set_option maxHeartbeats 1000000 in
theorem LC{a b:Pt}{l:List Pt}{T:Ti}(ha:Sc a.c)(hb:Sc b.c)(hl:∀p∈l,Sc p.c)(hn:l.length≤1000)(hq:RT T):Fo 175 [.agg (FW a),.agg (FW b),.one (.row (Hj l)),.agg (T.tl)] [.one (.bool (Co T.sg a b l))]:=by
 have hcl:=Rr l;refine Sk func175 rfl ?_;refine Ff [] rfl ?_;refine Fl (S:=Nat) 3 (λL1 i=>(14,.v (.oi i))::L1) (λ_=>[.blk 135 (FW a),.blk 135 (FW b),.blk 36 (T.tl)]) (λi=>l.length-i) (λi=>i<=l.length/\Co T.sg a b l=Co T.sg a b (l.drop i)) 0 ⟨Qh _,rfl⟩ rfl rfl λi ⟨hi,he⟩=>?_
 by_cases hlt:i<l.length
 ·obtain⟨c,hc⟩:=gxE (l:=l) (i:=i) hlt;have hcr:=hl c (Qa hc);have hdr:Co T.sg a b (l.drop i)=(Nu T.sg a b c && Co T.sg a b (l.drop (i+1))):=by
   obtain⟨h1,h2⟩:=Qd.1 hc;rw[Xc h1,h2];rfl
  have co:=LM ha hb hcr;have hsz:=NR ha hb hcr;have cA:=hq.a hsz.dp;have b1:=Ii ha hcr hq;have b2:=Ii hcr hb hq;have b3:=Ii hb hcr hq;have b4:=Ii hcr ha hq;by_cases h1:c.id=a.id
  ·have e:Nu T.sg a b c=true:=by simp[Nu,h1]
   rw[e,Yo]at hdr;refine go tt [.T,.x (G0 hc),.g 26 true (decide_eq_true h1),.t rfl] rfl (by simp[Ge] <;> omega) ?_;exact rd (i+1) (by omega) ⟨hlt,by rw[he,hdr]⟩ rfl
  by_cases h2:c.id=b.id
  ·have e:Nu T.sg a b c=true:=by simp[Nu,h2]
   rw[e,Yo]at hdr;refine go tt [.T,.x (G0 hc),.g 26 false (decide_eq_false h1),.t (decide_eq_true h2)] rfl (by simp[Ge] <;> omega) ?_;exact rd (i+1) (by omega) ⟨hlt,by rw[he,hdr]⟩ rfl
  have e0:Nu T.sg a b c = !(decide (Hk T.sg (Lv a.c b.c c.c)<0) || (decide (Hk T.sg (Lv a.c b.c c.c)=0) && !gV T.sg a b c)):=by unfold Nu;rw[decide_eq_false h1,decide_eq_false h2,Bool.false_or,Bool.false_or]
  generalize Hk T.sg (Lv a.c b.c c.c)=s at *;by_cases hs:s<0
  ·rw[decide_eq_true hs,We]at e0;rw[e0]at hdr;rw[he,hdr];exact Fh [.T,.x (G0 hc),.g 26 false (decide_eq_false h1),.f (decide_eq_false h2),.k co,.k cA,.g 44 true (decide_eq_true hs),.t rfl] rfl
  rw[decide_eq_false hs,J3]at e0;by_cases hz:s=0
  ·rw[decide_eq_true hz,Yo,Bool.not_not]at e0;unfold gV at e0;cases k1:P7 T.sg a c with
   |
    true =>
    rw[k1]at b1 e0;cases k2:P7 T.sg c b with
    |
     true =>
     rw[k2]at b2 e0;have e0:Nu T.sg a b c=true:=e0;rw[e0,Yo]at hdr;refine go tt [.T,.x (G0 hc),.g 26 false (decide_eq_false h1),.f (decide_eq_false h2),.k co,.k cA,.g 44 false (decide_eq_false hs),.g 47 true (decide_eq_true hz),.k b1,.g 52 true rfl,.k b2,.g 58 true rfl,.f rfl] rfl (by simp[Ge] <;> omega) ?_;exact rd (i+1) (by omega) ⟨hlt,by rw[he,hdr]⟩ rfl
    |
     false =>
     rw[k2,Bool.and_false,J3]at e0;rw[k2]at b2;cases k3:P7 T.sg b c with
     |
      true =>
      rw[k3]at b3 e0;cases k4:P7 T.sg c a with
      |
       true =>
       rw[k4]at b4 e0;have e0:Nu T.sg a b c=true:=e0;rw[e0,Yo]at hdr;refine go tt [.T,.x (G0 hc),.g 26 false (decide_eq_false h1),.f (decide_eq_false h2),.k co,.k cA,.g 44 false (decide_eq_false hs),.g 47 true (decide_eq_true hz),.k b1,.g 52 true rfl,.k b2,.g 58 false rfl,.k b3,.g 63 true rfl,.k b4,.f rfl] rfl (by simp[Ge] <;> omega) ?_;exact rd (i+1) (by omega) ⟨hlt,by rw[he,hdr]⟩ rfl
      |
       false =>
       rw[k4]at b4 e0;have e0:Nu T.sg a b c=false:=e0;rw[e0,Vx]at hdr;rw[he,hdr];exact Fh [.T,.x (G0 hc),.g 26 false (decide_eq_false h1),.f (decide_eq_false h2),.k co,.k cA,.g 44 false (decide_eq_false hs),.g 47 true (decide_eq_true hz),.k b1,.g 52 true rfl,.k b2,.g 58 false rfl,.k b3,.g 63 true rfl,.k b4,.t rfl] rfl
     |
      false =>
      rw[k3]at b3 e0;have e0:Nu T.sg a b c=false:=e0;rw[e0,Vx]at hdr;rw[he,hdr];exact Fh [.T,.x (G0 hc),.g 26 false (decide_eq_false h1),.f (decide_eq_false h2),.k co,.k cA,.g 44 false (decide_eq_false hs),.g 47 true (decide_eq_true hz),.k b1,.g 52 true rfl,.k b2,.g 58 false rfl,.k b3,.g 63 false rfl,.t rfl] rfl
   |
    false =>
    rw[k1,Vx,J3]at e0;rw[k1]at b1;cases k3:P7 T.sg b c with
    |
     true =>
     rw[k3]at b3 e0;cases k4:P7 T.sg c a with
     |
      true =>
      rw[k4]at b4 e0;have e0:Nu T.sg a b c=true:=e0;rw[e0,Yo]at hdr;refine go tt [.T,.x (G0 hc),.g 26 false (decide_eq_false h1),.f (decide_eq_false h2),.k co,.k cA,.g 44 false (decide_eq_false hs),.g 47 true (decide_eq_true hz),.k b1,.g 52 false rfl,.g 58 false rfl,.k b3,.g 63 true rfl,.k b4,.f rfl] rfl (by simp[Ge] <;> omega) ?_;exact rd (i+1) (by omega) ⟨hlt,by rw[he,hdr]⟩ rfl
     |
      false =>
      rw[k4]at b4 e0;have e0:Nu T.sg a b c=false:=e0;rw[e0,Vx]at hdr;rw[he,hdr];exact Fh [.T,.x (G0 hc),.g 26 false (decide_eq_false h1),.f (decide_eq_false h2),.k co,.k cA,.g 44 false (decide_eq_false hs),.g 47 true (decide_eq_true hz),.k b1,.g 52 false rfl,.g 58 false rfl,.k b3,.g 63 true rfl,.k b4,.t rfl] rfl
    |
     false =>
     rw[k3]at b3 e0;have e0:Nu T.sg a b c=false:=e0;rw[e0,Vx]at hdr;rw[he,hdr];exact Fh [.T,.x (G0 hc),.g 26 false (decide_eq_false h1),.f (decide_eq_false h2),.k co,.k cA,.g 44 false (decide_eq_false hs),.g 47 true (decide_eq_true hz),.k b1,.g 52 false rfl,.g 58 false rfl,.k b3,.g 63 false rfl,.t rfl] rfl
  ·rw[decide_eq_false hz,Vx]at e0;have e0:Nu T.sg a b c=true:=e0;rw[e0,Yo]at hdr;refine go tt [.T,.x (G0 hc),.g 26 false (decide_eq_false h1),.f (decide_eq_false h2),.k co,.k cA,.g 44 false (decide_eq_false hs),.g 47 false (decide_eq_false hz),.f rfl] rfl (by simp[Ge] <;> omega) ?_;exact rd (i+1) (by omega) ⟨hlt,by rw[he,hdr]⟩ rfl
 ·obtain rfl:i=l.length:=by omega
  rw[he,List.drop_length];exact Fh [.F] rfl
def O9(sg:Ft->Int)(W:List Pt)(a:Pt):Option Pt:=W.find? λp=>decide (p.id≠a.id) && Co sg a p W
def Nt(sg:Ft->Int)(W:List Pt)(s0:Pt):Nat->Pt->List Pt->List Pt
 | 0,_,O=>O
 |
  k+1,a,O=>match O9 sg W a with
  |none=>O
  |some b=>if b.id=s0.id then O else Nt sg W s0 k b (O++[b])
def Ox(sg:Ft->Int)(l:List Pt):List Pt:=if (Mf l).length<2 then Mf l else
 match He (P7 sg) (Mf l)with
 | []=>[]
 |s::_=>Nt sg (Mf l) s (Mf l).length s [s]
theorem IU{sg:Ft->Int}{W:List Pt}{a b:Pt}(h:O9 sg W a=some b):b∈W/\b.id≠a.id:=by
 have h1:=U5 h;simp only[Zn,decide_eq_true_eq]at h1;exact⟨Wb h,h1.1⟩
theorem zK{sg:Ft->Int}{W:List Pt}{s0:Pt}:∀(k:Nat) (a:Pt) (O:List Pt),(∀p∈O,p∈W)->(∀p∈Nt sg W s0 k a O,p∈W)/\(Nt sg W s0 k a O).length≤O.length+k
 | 0,_,O,h=>⟨h,Qn _⟩
 |
  k+1,a,O,h=>by
  unfold Nt;cases hb:O9 sg W a with
  |none=>exact⟨h,V2 _ _⟩
  |
   some b =>
   have hm:=(IU hb).1;dsimp only
   split
   ·exact⟨h,V2 _ _⟩
   ·obtain⟨h1,h2⟩:=zK (sg:=sg) (s0:=s0) k b (O++[b]) (λp hp=>(Qr.1 hp).elim (h p) λhp=>by rw[Qo.1 hp];exact hm);rw[Q6,X5]at h2;exact⟨h1,by omega⟩
theorem Qdv(sg:Ft->Int)(l:List Pt):(∀p∈Ox sg l,p∈l)/\(Ox sg l).length≤l.length+1:=by
 have hw:=MP l;unfold Ox
 split
 ·exact⟨λp hp=>WR hp,by omega⟩
 ·split
  ·exact⟨λp hp=>(by cases hp),Qh _⟩
  ·rename_i s S hS;have hs:s∈Mf l:=Ph.1 (show s∈He (P7 sg) (Mf l) by rw[hS];simp);obtain⟨h1,h2⟩:=zK (sg:=sg) (s0:=s) (Mf l).length s [s] (λp hp=>by rw[Qo.1 hp];exact hs);exact⟨λp hp=>WR (h1 p hp),by rw[X5]at h2;omega⟩
theorem Qen{sg:Ft->Int}{W:List Pt}{a b:Pt}(h:O9 sg W a=some b):∃j:Nat,W[j]? = some b/\b.id≠a.id/\Co sg a b W=true/\∀(i:Nat) (p:Pt),i<j->W[i]? = some p->p.id=a.id\/Co sg a p W=false:=by
 unfold O9 at h;obtain⟨h1,u,v,hW,h3⟩:=List.find?_eq_some_iff_append.1 h;simp only[Zn,decide_eq_true_eq]at h1;refine⟨u.length,by rw[hW,Zk (Qn _),J4];rfl,h1.1,h1.2,λi p hi hp=>?_⟩;have hp':u[i]? = some p:=by rw[<-hp,hW,Q3 hi]
 have:=h3 p (Qa hp');simp only[Kg,Wx,decide_eq_false_iff_not,Decidable.not_not]at this;exact this
theorem Qeo{sg:Ft->Int}{W:List Pt}{a:Pt}(h:O9 sg W a=none):∀p∈W,p.id=a.id\/Co sg a p W=false:=λp hp=>by
 have:=Um.1 h p hp;simp only[Bool.not_eq_true,Wx,decide_eq_false_iff_not,Decidable.not_not]at this;exact this
set_option maxHeartbeats 4000000 in
theorem rJ{l:List Pt}{T:Ti}(hl:∀p∈l,Sc p.c)(hn:l.length≤1000)(hq:RT T):Fo 66 [.one (.row (Hj l)),.agg (T.tl)] [.one (.row (Hj (Ox T.sg l)))]:=by
 have c1:=rW hl hn;have hWl:∀p∈Mf l,Sc p.c:=λp hp=>hl p (WR hp)
 have hWn:=MP l;unfold Ox;obtain⟨W,hW⟩:=nmE (Mf l);rw[<-hW]at c1 hWl hWn ⊢;have hcl:=Rr W;by_cases h2:W.length<2
 ·rw[if_pos h2];exact Fi func66 rfl [.k c1,.T] rfl
 rw[if_neg h2];have c2:=LN (l:=W) hWl (by omega) hq;obtain⟨s,S,hS⟩:∃s S,He (P7 T.sg) W=s::S:=by
  have:(He (P7 T.sg) W).length=W.length:=Pg _ _;cases hs:He (P7 T.sg) W with
  |nil=>rw[hs]at this;simp at this;omega
  |cons s S=>exact⟨s,S,rfl⟩
 have hsW:s∈W:=Ph.1 (show s∈He (P7 T.sg) W by rw[hS];simp);rw[hS]at c2 ⊢;show Fo 66 _ [.one (.row (Hj (Nt T.sg W s W.length s [s])))];have hx0:(Hj (s::S))[0]? = some (FW s):=rfl;refine Sk func66 rfl ?_;refine Ff [.k c1,.F,.k c2,.x hx0,.lo] rfl ?_;refine sb [(7,.v (.one (.orow 1 7 none))),(6,.v (.one (.row (Hj (s::S))))),(5,.v (.one (.row (Hj W)))),(3,.v (.one (.ow 0 0)))] [.blk 36 (T.tl),.row false 135 7 (Hj [s])] rfl rfl ?_;refine Fl (S:=List Pt) 2 (λL1 _=>(7,.v (.one (.orow 1 7 none)))::L1) (λO=>[.blk 36 (T.tl),.row false 135 7 (Hj O)]) (λO=>W.length+1-O.length) (λO=>O.length<=W.length+1/\∃a,a∈W/\O[O.length-1]? = some a/\Nt T.sg W s (W.length+1-O.length) a O=Nt T.sg W s W.length s [s]) [s] ⟨by show 1<=_;omega,s,hsW,rfl,rfl⟩ rfl rfl λO ⟨hO,a,haW,hla,he⟩=>?_
 have har:=hWl a haW;have hrl:=Rr O;have hO1:0<O.length:=by
  have:=(Qd.1 hla).1;omega
 by_cases hlt:O.length<=W.length
 ·obtain⟨k,hk⟩:∃k,W.length+1-O.length=k+1:=⟨W.length-O.length,by omega⟩;rw[hk]at he;refine go tt [.T,.r 31 (eI (b:=((O.length-1:Nat):Int)) (by omega)),.i (O.length-1),.x (G0 hla)] rfl (by simp[Ge] <;> omega) ?_;cases hb:O9 T.sg W a with
  |
   none =>
   have hno:=Qeo hb;have ef:Nt T.sg W s W.length s [s]=O:=by rw[<-he];unfold Nt;rw[hb]
   rw[ef];refine Fl (S:=Nat) 3 (λL1 i=>(36,.v (.oi i))::L1) (λ_=>[.blk 36 (T.tl),.row false 135 7 (Hj O),.blk 135 (FW a)]) (λi=>W.length-i) (λi=>i<=W.length) 0 (Qh _) rfl rfl λi hi=>?_
   by_cases hil:i<W.length
   ·obtain⟨p,hp⟩:=gxE (l:=W) (i:=i) hil;have hpm:=Qa hp;by_cases h1:p.id=a.id
    ·refine go tt [.T,.x (G0 hp),.g 47 false (decide_eq_false (by simpa using h1)),.f rfl] rfl (by simp[Ge] <;> omega) ?_;exact rd (i+1) (by omega) hil rfl
    ·have ce:=LC har (hWl p hpm) hWl (by omega) hq;rw[(hno p hpm).resolve_left h1]at ce;refine go tt [.T,.x (G0 hp),.g 47 true (decide_eq_true h1),.x (G0 hp),.k ce,.f rfl] rfl (by simp[Ge] <;> omega) ?_;exact rd (i+1) (by omega) hil rfl
   ·by_cases h3:a.id=s.id
    ·exact Fh [.F,.x hx0,.g 69 true (decide_eq_true h3),.t rfl] rfl rfl (by simp[Ge] <;> omega)
    ·exact Fh [.F,.x hx0,.g 69 false (decide_eq_false h3),.r 75 (eI (b:=((O.length-1:Nat):Int)) (by omega)),.i (O.length-1),.x (G0 hla),.t (decide_eq_true rfl)] rfl rfl (by simp[Ge] <;> omega)
  |
   some b =>
   obtain⟨j,hj,hba,heb,hjb⟩:=Qen hb;have hbW:=(IU hb).1;have hjl:=(Qd.1 hj).1;have hbr:=hWl b hbW;have h7z:∀y∈[FW b],y.length=7:=λy hy=>by rw[Qo.1 hy];rfl
   have cb:=LC har hbr hWl (by omega) hq;rw[heb]at cb;refine Fl (S:=Nat) 3 (λL1 i=>(36,.v (.oi i))::L1) (λ_=>[.blk 36 (T.tl),.row false 135 7 (Hj O),.blk 135 (FW a)]) (λi=>j-i) (λi=>i<=j) 0 (Qh _) rfl rfl λi hi=>?_
   by_cases hij:i<j
   ·obtain⟨p,hp⟩:=gxE (l:=W) (i:=i) (by omega);have hpm:=Qa hp;by_cases h1:p.id=a.id
    ·refine go tt [.T,.x (G0 hp),.g 47 false (decide_eq_false (by simpa using h1)),.f rfl] rfl (by simp[Ge] <;> omega) ?_;exact rd (i+1) (by omega) hij rfl
    ·have ce:=LC har (hWl p hpm) hWl (by omega) hq;rw[(hjb i p hij hp).resolve_left h1]at ce;refine go tt [.T,.x (G0 hp),.g 47 true (decide_eq_true h1),.x (G0 hp),.k ce,.f rfl] rfl (by simp[Ge] <;> omega) ?_;exact rd (i+1) (by omega) hij rfl
   ·obtain rfl:i=j:=by omega
    by_cases h3:b.id=s.id
    ·have ef:Nt T.sg W s W.length s [s]=O:=by rw[<-he];unfold Nt;rw[hb];exact if_pos h3
     rw[ef];exact Fh [.T,.x (G0 hj),.g 47 true (decide_eq_true hba),.x (G0 hj),.k cb,.t rfl,.x (G0 hj),.x hx0,.g 69 true (decide_eq_true h3),.t rfl] rfl rfl (by simp[Ge] <;> omega)
    ·have ef:Nt T.sg W s k b (O++[b])=Nt T.sg W s W.length s [s]:=by
      rw[<-he];show _=(match O9 T.sg W a with|none=>O|some b=>if b.id=s.id then O else Nt T.sg W s k b (O++[b]));rw[hb];exact(if_neg h3).symm
     refine go tt [.T,.x (G0 hj),.g 47 true (decide_eq_true hba),.x (G0 hj),.k cb,.t rfl,.x (G0 hj),.x hx0,.g 69 false (decide_eq_false h3),.r 75 (eI (b:=((O.length-1:Nat):Int)) (by omega)),.i (O.length-1),.x (G0 hla),.f (decide_eq_false hba),.s (sz:=7) h7z] rfl (by simp[Ge] <;> omega) ?_;have hl1:(O++[b]).length=O.length+1:=by simp
     exact rd (O++[b]) (by omega) ⟨by omega,b,hbW,by rw[hl1,Ym,Zk (Qn _),J4];rfl,by rw[hl1,show W.length+1-(O.length+1)=k by omega];exact ef⟩ (by simp[Hj];rfl)
 ·rw[show W.length+1-O.length=0 by omega]at he;have ef:Nt T.sg W s W.length s [s]=O:=he.symm;rw[ef];exact Fh [.F] rfl
def Qu3(sg:Ft->Int)(a b c:Pt):Ct:=⟨3,a.id,b.id,c.id,0,Lv a.c b.c c.c,Hk sg (Lv a.c b.c c.c)⟩

def WI(k:Crv):Fu:=[Gq k.x [k.d],Gq k.y [k.d],Mt (Gq k.x k.x) (Gq k.y k.y),Gq [k.d] [k.d]]
def Oy(a b c d:Crv):List Fu:=[WI a,WI b,WI c,WI d]
def zJ(a b c d:Crv):Ft:=Lm 4 (Oy a b c d)
theorem rI{k:Crv}(hk:Rs k):(∀p∈WI k,Bd 300000 p)/\∀(j:Nat) (p:Ft),(WI k)[j]? = some p->p.length≤[15,15,30,0].getD j 0+1:=by
 have iF:Bd 100000 [k.d]:=Qgc hk.c.d;have l1:=Te k.x [k.d];have l2:=Te k.y [k.d];have l3:=Te k.x k.x;have l4:=Te k.y k.y;have l5:=Te [k.d] [k.d];have l6:=E5 (Gq k.x k.x) (Gq k.y k.y);have hx:=hk.c.lx;have hy:=hk.c.ly;have e1:[k.d].length=1:=rfl;have m1:Bd 200005 (Gq k.x [k.d]):=Si (u:=5) hk.c.x iF (by omega);have m2:Bd 200005 (Gq k.y [k.d]):=Si (u:=5) hk.c.y iF (by omega);have m3:Bd 200005 (Gq k.x k.x):=Si (u:=5) hk.c.x hk.c.x (by omega);have m4:Bd 200005 (Gq k.y k.y):=Si (u:=5) hk.c.y hk.c.y (by omega);have m5:Bd 200005 (Gq [k.d] [k.d]):=Si (u:=5) iF iF (by omega);refine⟨λp hp=>?_,λj p hp=>?_⟩
 ·simp only[WI,Qj,Vk,or_false]at hp;rcases hp with rfl|rfl|rfl|rfl
  ·exact Gd m1 (by decide)
  ·exact Gd m2 (by decide)
  ·exact Gd (Oa m3 m4) (by decide)
  ·exact Gd m5 (by decide)
 ·match j,hp with
  | 0,hp=>injection hp with hp;subst hp;show _<=16;omega
  | 1,hp=>injection hp with hp;subst hp;show _<=16;omega
  | 2,hp=>injection hp with hp;subst hp;show _<=31;omega
  | 3,hp=>injection hp with hp;subst hp;show _<=1;omega
  |j+4,hp=>simp[WI]at hp
theorem Qdx{a b c d:Crv}(ha:Rs a)(hb:Rs b)(hc:Rs c)(hd:Rs d):SqR 300000 [15,15,30,0] (Oy a b c d):=by
 have hr:∀r∈Oy a b c d,∃k:Crv,Rs k/\r=WI k:=λr hr=>by
  simp only[Oy,Qj,Vk,or_false]at hr;rcases hr with rfl|rfl|rfl|rfl
  ·exact⟨a,ha,rfl⟩
  ·exact⟨b,hb,rfl⟩
  ·exact⟨c,hc,rfl⟩
  ·exact⟨d,hd,rfl⟩
 refine⟨rfl,λr h=>?_,λr h=>?_,λr h=>?_⟩
 all_goals obtain⟨k,hk,rfl⟩:=hr r h
 ·rfl
 ·exact(rI hk).1
 ·exact(rI hk).2
theorem Qoe{a b c d:Crv}(ha:Rs a)(hb:Rs b)(hc:Rs c)(hd:Rs d):Fo 177 [.agg (No a),.agg (No b),.agg (No c),.agg (No d)] [.one (rp (zp (zJ a b c d)))]:=by
 have cd:=cX (by decide) 4 [15,15,30,0] (Oy a b c d) (by decide) rfl (by decide) (Qdx ha hb hc hd);have x0:[No a,No b,No c,No d][0]? = some (No a):=rfl;have x1:[No a,No b,No c,No d][1]? = some (No b):=rfl;have x2:[No a,No b,No c,No d][2]? = some (No c):=rfl;have x3:[No a,No b,No c,No d][3]? = some (No d):=rfl;have hs1:∀k:Crv,∀y∈[[LV.row (zrw (WI k))]],y.length=1:=λk y hy=>by rw[Qo.1 hy];rfl
 have iF:∀{k:Crv},Rs k->Bd 100000 [k.d]:=λhk=>Qgc hk.c.d
 have q1:=λ{k:Crv} (hk:Rs k)=>Ow (p:=k.x) (q:=k.x) (by have:=hk.c.lx;omega) (by have:=hk.c.lx;omega) hk.c.x hk.c.x (by decide)
 have q2:=λ{k:Crv} (hk:Rs k)=>Ow (p:=k.y) (q:=k.y) (by have:=hk.c.ly;omega) (by have:=hk.c.ly;omega) hk.c.y hk.c.y (by decide)
 have q3:=λ{k:Crv} (hk:Rs k)=>Ow (p:=k.x) (q:=[k.d]) (by have:=hk.c.lx;omega) (by show 1<=1000000;decide) hk.c.x (iF hk) (by decide)
 have q4:=λ{k:Crv} (hk:Rs k)=>Ow (p:=k.y) (q:=[k.d]) (by have:=hk.c.ly;omega) (by show 1<=1000000;decide) hk.c.y (iF hk) (by decide)
 have q5:=λ{k:Crv} (hk:Rs k)=>Ow (p:=[k.d]) (q:=[k.d]) (by show 1<=1000000;decide) (by show 1<=1000000;decide) (iF hk) (iF hk) (by decide)
 have q6:=λ{k:Crv} (hk:Rs k)=>BL (p:=Gq k.x k.x) (q:=Gq k.y k.y) (Gd (Si (u:=5) hk.c.x hk.c.x (by have:=hk.c.lx;omega)) (by decide)) (Gd (Si (u:=5) hk.c.y hk.c.y (by have:=hk.c.ly;omega)) (by decide)) (by have:=Te k.x k.x;have:=hk.c.lx;omega) (by have:=Te k.y k.y;have:=hk.c.ly;omega)
 refine Sk func177 rfl ?_;refine Ff [.o 9 29 1] rfl ?_;refine Fl (S:=Nat) 5 (λL1 i=>(22,.v (.oi i))::(9,.v (.one (.orow 4 1 none)))::L1) (λi=>[.blk 133 (No a),.blk 133 (No b),.blk 133 (No c),.blk 133 (No d),.row false 29 1 (yR ((Oy a b c d).take i))]) (λi=>4-i) (λi=>i<=4) 0 (by decide) rfl rfl λi hi=>?_
 rcases(show i=0\/i=1\/i=2\/i=3\/i=4 by omega)with rfl|rfl|rfl|rfl|rfl
 ·exact go tt [.t rfl,.x x0,.k (Dq ha),.k (q1 ha),.k (q2 ha),.k (q6 ha),.k (q3 ha),.k (q4 ha),.k (q5 ha),.s (sz:=1) (hs1 a)] rfl (by simp[Ge,yR,Oy]) (rd 1 (by omega) (by omega) rfl)
 ·exact go tt [.t rfl,.x x1,.k (Dq hb),.k (q1 hb),.k (q2 hb),.k (q6 hb),.k (q3 hb),.k (q4 hb),.k (q5 hb),.s (sz:=1) (hs1 b)] rfl (by simp[Ge,yR,Oy]) (rd 2 (by omega) (by omega) rfl)
 ·exact go tt [.t rfl,.x x2,.k (Dq hc),.k (q1 hc),.k (q2 hc),.k (q6 hc),.k (q3 hc),.k (q4 hc),.k (q5 hc),.s (sz:=1) (hs1 c)] rfl (by simp[Ge,yR,Oy]) (rd 3 (by omega) (by omega) rfl)
 ·exact go tt [.t rfl,.x x3,.k (Dq hd),.k (q1 hd),.k (q2 hd),.k (q6 hd),.k (q3 hd),.k (q4 hd),.k (q5 hd),.s (sz:=1) (hs1 d)] rfl (by simp[Ge,yR,Oy]) (rd 4 (by omega) (by omega) rfl)
 ·exact Fh [.f rfl,.k cd] rfl
def Qu1(sg:Ft->Int)(a b c d:Pt):Ct:=⟨4,a.id,b.id,c.id,d.id,zJ a.c b.c c.c d.c,Hk sg (zJ a.c b.c c.c d.c)⟩
variable(sg:Ft->Int)
def cK(W:List Pt)(x y z:Pt)(k n:Nat):List Ct:=Qu3 sg x y z::((W.drop (k+1)).take n).map (Qu1 sg x y z)
def cJ(W:List Pt)(x y:Pt)(j:Nat):Nat->List Ct
 | 0=>[]
 |n+1=>cJ W x y j n++match W[j+1+n]? with|none=>[]|some z=>cK sg W x y z (j+1+n) (W.length-(j+1+n)-1)
def cI(W:List Pt)(x:Pt)(i:Nat):Nat->List Ct
 | 0=>[]
 |n+1=>cI W x i n++match W[i+1+n]? with|none=>[]|some y=>cJ sg W x y (i+1+n) (W.length-(i+1+n)-1)
def cW(W:List Pt):Nat->List Ct
 | 0=>[]
 |n+1=>cW W n++match W[n]? with|none=>[]|some x=>cI sg W x n (W.length-n-1)
variable{sg:Ft->Int}
end Orr
namespace Orq
open Orr Go
def JE(a:Crv):Fu:=[Gs a.x a.d,Gs a.y a.d,Mt (Gq a.x a.x) (Gq a.y a.y),[a.d*a.d]]
def rO(a b c d:Crv):List Fu:=[JE a,JE b,JE c,JE d]
def Ei(a b c d:Crv):Ft:=Cv 4 (rO a b c d)
theorem HE{s:Nat}{k:Crv}(hn:UF k)(hc:Cs s 3 k):(∀p∈JE k,Gh p/\Bd (s+s+3) p)/\∀(j:Nat) (p:Ft),(JE k)[j]? = some p->p.length≤[2,2,4,0].getD j 0+1:=by
 have l1:=Gz k.x k.d;have l2:=Gz k.y k.d;have l3:=Te k.x k.x;have l4:=Te k.y k.y;have l5:=E5 (Gq k.x k.x) (Gq k.y k.y);have kx:=hc.lx;have ky:=hc.ly;have bx:Bd (s+s+2) (Gq k.x k.x):=Si hc.x hc.x (by omega);have by_:Bd (s+s+2) (Gq k.y k.y):=Si hc.y hc.y (by omega);have hd:=hn.2.2.1;have hd0:k.d*k.d≠0:=λe=>by rcases Yj.1 e with e|e <;> omega
 have td:Gh [k.d*k.d]:=by unfold Gh;simp[trim,hd0]
 refine⟨λp hp=>?_,λj p hp=>?_⟩
 ·simp only[JE,Qj,Vk,or_false]at hp;rcases hp with rfl|rfl|rfl|rfl
  ·exact⟨Gk _ _,Gd (G9 hc.x hc.d) (by omega)⟩
  ·exact⟨Gk _ _,Gd (G9 hc.y hc.d) (by omega)⟩
  ·exact⟨Gk _ _,Gd (Oa bx by_) (by omega)⟩
  ·refine⟨td,λz hz=>?_⟩;rw[Qo.1 hz];have:=Ho k.d k.d;have:=hc.d;omega
 ·match j,hp with
  | 0,hp=>injection hp with hp;subst hp;show _<=3;omega
  | 1,hp=>injection hp with hp;subst hp;show _<=3;omega
  | 2,hp=>injection hp with hp;subst hp;show _<=5;omega
  | 3,hp=>injection hp with hp;subst hp;exact Qn _
  |j+4,hp=>simp[JE]at hp
theorem mB{s:Nat}{a b c d:Crv}(na:UF a)(nb:UF b)(nc:UF c)(nd:UF d)(ca:Cs s 3 a)(cb:Cs s 3 b)(cc:Cs s 3 c)(cd:Cs s 3 d):Sq (s+s+3) [2,2,4,0] 4 4 (rO a b c d):=by
 have hr:∀r∈rO a b c d,∃k:Crv,UF k/\Cs s 3 k/\r=JE k:=λr hr=>by
  simp only[rO,Qj,Vk,or_false]at hr;rcases hr with rfl|rfl|rfl|rfl
  ·exact⟨a,na,ca,rfl⟩
  ·exact⟨b,nb,cb,rfl⟩
  ·exact⟨c,nc,cc,rfl⟩
  ·exact⟨d,nd,cd,rfl⟩
 refine⟨rfl,λr h=>?_,λr h p hp=>?_,λr h p hp=>?_,λr h j p hp=>?_⟩
 all_goals obtain⟨k,kn,kc,rfl⟩:=hr r h
 ·rfl
 ·exact((HE kn kc).1 p hp).1
 ·exact((HE kn kc).1 p hp).2
 ·exact(HE kn kc).2 j p hp
theorem Qah{a b c d:Crv}(ha:Sc a)(hb:Sc b)(hc:Sc c)(hd:Sc d):Cp (Ei a b c d):=by
 obtain⟨h1,h2,h3⟩:=CP 4 [2,2,4,0] (rO a b c d) (by decide) rfl (by decide) (mB ha.n hb.n hc.n hd.n ha.c hb.c hc.c hd.c);exact⟨h1,Qe h3 (by decide),Gd h2 (by decide)⟩
abbrev P3:=Pt×(Pt×Pt)
abbrev P4:=Pt×P3
def Df:Nat->List Pt->List P3
 | 0,_=>[]
 |_+1,[]=>[]
 |k+1,x::l=>(H5 l).map (λm=>(x,m))++Df k l
def Pj(l:List Pt):List P3:=Df l.length l
def Qx8:Nat->List Pt->List P4
 | 0,_=>[]
 |_+1,[]=>[]
 |k+1,x::l=>(Pj l).map (λm=>(x,m))++Qx8 k l
def Qx9(l:List Pt):List P4:=Qx8 l.length l
theorem WU:∀(l:List Pt) (i:Nat) (x:Pt),l[i]? = some x->Df (i+1) l=Df i l++(H5 (l.drop (i+1))).map (λm=>(x,m))
 | [],i,x,h=>by simp at h
 |y::l,0,x,h=>by simp at h;subst h;simp[Df]
 |
  y::l,i+1,x,h=>by
  have ih:=WU l i x (by simpa using h);show(H5 l).map _++Df (i+1) l=((H5 l).map _++Df i l)++_;rw[ih,Zj];rfl
theorem RE{l:List Pt}(h:l.length<=6):(Pj l).length<=20/\(Qx9 l).length<=15:=by
 match l,h with
 | [],_=>exact⟨Zm rfl,Zm rfl⟩
 | [_],_=>exact⟨Zm rfl,Zm rfl⟩
 | [_,_],_=>exact⟨Zm rfl,Zm rfl⟩
 | [_,_,_],_=>exact⟨Zm rfl,Zm rfl⟩
 | [_,_,_,_],_=>exact⟨Zm rfl,Zm rfl⟩
 | [_,_,_,_,_],_=>exact⟨Zm rfl,Zm rfl⟩
 | [_,_,_,_,_,_],_=>exact⟨Zm rfl,Zm rfl⟩
 |_::_::_::_::_::_::_::_,h=>simp at h
theorem ZW{x s:Int}(hx:-1<=x/\x<=1)(hs:-1<=s/\s<=1):-9223372036854775808<=x*s/\x*s<=9223372036854775807:=by
 have h:x=-1\/x=0\/x=1:=by omega
 rcases h with rfl|rfl|rfl <;> omega
end Orq
namespace Orr
open Go Go.Proofs Tryz Orq
def D3(b2 b3 b4 c2 c3 c4 d2 d3 d4:Rat):Rat:=b2*(c3*d4-d3*c4)-c2*(b3*d4-d3*b4)+d2*(b3*c4-c3*b4)
def D4(a1 a2 a3 a4 b1 b2 b3 b4 c1 c2 c3 c4 d1 d2 d3 d4:Rat):Rat:=a1*D3 b2 b3 b4 c2 c3 c4 d2 d3 d4-b1*D3 a2 a3 a4 c2 c3 c4 d2 d3 d4+c1*D3 a2 a3 a4 b2 b3 b4 d2 d3 d4-d1*D3 a2 a3 a4 b2 b3 b4 c2 c3 c4
theorem Qkr(a1 a2 a3 a4 b1 b2 b3 b4 c1 c2 c3 c4 d1 d2 d3 d4:Ft)(q:Rat):Gf (Cv 4 [[a1,a2,a3,a4],[b1,b2,b3,b4],[c1,c2,c3,c4],[d1,d2,d3,d4]]) q=D4 (Gf a1 q) (Gf a2 q) (Gf a3 q) (Gf a4 q) (Gf b1 q) (Gf b2 q) (Gf b3 q) (Gf b4 q) (Gf c1 q) (Gf c2 q) (Gf c3 q) (Gf c4 q) (Gf d1 q) (Gf d2 q) (Gf d3 q) (Gf d4 q):=by
 show Gf (Lh (λi=>Cv 3 (VV [[a1,a2,a3,a4],[b1,b2,b3,b4],[c1,c2,c3,c4],[d1,d2,d3,d4]] i)) [[a1,a2,a3,a4],[b1,b2,b3,b4],[c1,c2,c3,c4],[d1,d2,d3,d4]] (0+1+1+1+1)) q=_;rw[C9,C9,C9,C9];show(0:Rat)+1*(Gf a1 q*Gf (Cv 3 [[b2,b3,b4],[c2,c3,c4],[d2,d3,d4]]) q)+(-1)*(Gf b1 q*Gf (Cv 3 [[a2,a3,a4],[c2,c3,c4],[d2,d3,d4]]) q)+1*(Gf c1 q*Gf (Cv 3 [[a2,a3,a4],[b2,b3,b4],[d2,d3,d4]]) q)+(-1)*(Gf d1 q*Gf (Cv 3 [[a2,a3,a4],[b2,b3,b4],[c2,c3,c4]]) q)=_;rw[ZM,ZM,ZM,ZM];unfold D4 D3;grind
theorem Qvf(a1 a2 a3 a4 b1 b2 b3 b4 c1 c2 c3 c4 d1 d2 d3 d4:Ft)(q:Rat):Gf (Lm 4 [[a1,a2,a3,a4],[b1,b2,b3,b4],[c1,c2,c3,c4],[d1,d2,d3,d4]]) q=D4 (Gf a1 q) (Gf a2 q) (Gf a3 q) (Gf a4 q) (Gf b1 q) (Gf b2 q) (Gf b3 q) (Gf b4 q) (Gf c1 q) (Gf c2 q) (Gf c3 q) (Gf c4 q) (Gf d1 q) (Gf d2 q) (Gf d3 q) (Gf d4 q):=by
 show Gf (Mt (Mt (Mt (Mt [] (QJ 0 (Gq a1 (Lm 3 [[b2,b3,b4],[c2,c3,c4],[d2,d3,d4]])))) (QJ 1 (Gq a2 (Lm 3 [[b1,b3,b4],[c1,c3,c4],[d1,d3,d4]])))) (QJ 2 (Gq a3 (Lm 3 [[b1,b2,b4],[c1,c2,c4],[d1,d2,d4]])))) (QJ 3 (Gq a4 (Lm 3 [[b1,b2,b3],[c1,c2,c3],[d1,d2,d3]])))) q=_;have k3:∀p:Ft,Gf (QJ 3 p) q=-Gf p q:=λp=>ZL p q
 rw[M4,M4,M4,M4,KA,PI,jQ,k3,Gn,Gn,Gn,Gn,IM,IM,IM,IM];show(0:Rat)+_+_+_+_=_;unfold D4 D3;grind
theorem Qdr(a b c d:Crv):Gh (Ei a b c d):=SS 4
theorem Qkq(a b c d:Crv)(q:Rat):Gf (Ei a b c d) q=D4 (Gf (Gs a.x a.d) q) (Gf (Gs a.y a.d) q) (Gf (Mt (Gq a.x a.x) (Gq a.y a.y)) q) (Gf [a.d*a.d] q) (Gf (Gs b.x b.d) q) (Gf (Gs b.y b.d) q) (Gf (Mt (Gq b.x b.x) (Gq b.y b.y)) q) (Gf [b.d*b.d] q) (Gf (Gs c.x c.d) q) (Gf (Gs c.y c.d) q) (Gf (Mt (Gq c.x c.x) (Gq c.y c.y)) q) (Gf [c.d*c.d] q) (Gf (Gs d.x d.d) q) (Gf (Gs d.y d.d) q) (Gf (Mt (Gq d.x d.x) (Gq d.y d.y)) q) (Gf [d.d*d.d] q):=Qkr ..
theorem rS(a b c d:Crv):zJ a b c d=Ei a b c d:=by
 refine Om (Gk _ _) (Qdr ..) λq=>?_
 rw[Qkq];show Gf (Lm 4 [[Gq a.x [a.d],Gq a.y [a.d],Mt (Gq a.x a.x) (Gq a.y a.y),Gq [a.d] [a.d]],[Gq b.x [b.d],Gq b.y [b.d],Mt (Gq b.x b.x) (Gq b.y b.y),Gq [b.d] [b.d]],[Gq c.x [c.d],Gq c.y [c.d],Mt (Gq c.x c.x) (Gq c.y c.y),Gq [c.d] [c.d]],[Gq d.x [d.d],Gq d.y [d.d],Mt (Gq d.x d.x) (Gq d.y d.y),Gq [d.d] [d.d]]]) q=_;have e1:∀(p:Ft) (z:Int),Gf (Gq p [z]) q=Gf (Gs p z) q:=λp z=>by rw[Gn,Tf,IN]
 have e2:∀z:Int,Gf (Gq [z] [z]) q=Gf [z*z] q:=λz=>by rw[Gn,IN,IN];push_cast;rfl
 rw[Qvf];rw[e2 a.d,e2 b.d,e2 c.d,e2 d.d];simp only[e1]
end Orr
namespace Orr
open Go Go.Proofs Tryz Orq
set_option maxRecDepth 10000
theorem Qhn{a b c d:Crv}(ha:Sc a)(hb:Sc b)(hc:Sc c)(hd:Sc d):Fo 177 [.agg (No a),.agg (No b),.agg (No c),.agg (No d)] [.one (rp (zp (zJ a b c d)))]:=Qoe ha.rs hb.rs hc.rs hd.rs
theorem Qdq{a b c d:Crv}(ha:Sc a)(hb:Sc b)(hc:Sc c)(hd:Sc d):Cp (zJ a b c d):=by
 rw[rS];exact Qah ha hb hc hd
end Orr
namespace Orq
open Go Go.Proofs Tryz Orr
set_option maxRecDepth 10000
theorem Qxs{t:Tm}(h:t.lo<t.hi):t.point=false:=by
 unfold Tm.point;refine decide_eq_false λh'=>?_
 rcases Int.lt_or_eq_of_le h' with h1|h1
 ·have:=Dk.1 h1;grind
 ·have:=Pf.1 h1.symm;grind
theorem Qs6{t:Tm}{C:Fu}{N:Nat}(va:Va t)(ck:Cok C)(hl:t.lo<t.hi)(V:Vt (cz t.p) (C.map cz) t.lo t.hi)(an:Anc t.p)(g:∃D M k,Gr D M k t.lo/\Gr D M k t.hi/\0<M/\Gy (D:Int)+Gy (M:Int)+k<=N):AT t C N (O1 t.p t.lo t.hi) t.hi:=by
 obtain⟨D,M,k,g1,g2,g3,g4⟩:=g;have hne:Tn t.lo t.hi≠0:=λh=>by have:=Pf.1 h;grind
 by_cases h0:Hq t.p t.hi=0
 ·have e:O1 t.p t.lo t.hi=t.hi:=by unfold O1;rw[if_pos ⟨hne,h0⟩]
  rw[e];refine⟨va,ck,.inl ⟨rfl,?_⟩,λ_=>an,D,M,k,g2,g2,g3,g4⟩;rw[Py hl];unfold cq;rw[if_neg (by grind),if_neg Uq,if_pos (by rw[Sf]at h0;rw[Gg];exact h0)]
 ·have e:O1 t.p t.lo t.hi=t.lo:=by unfold O1;rw[if_neg λh=>h0 h.2]
  rw[e];exact⟨va,ck,.inr ⟨Qxs hl,V,λq=>(Py hl q).symm,h0⟩,λ_=>an,D,M,k,g1,g2,g3,g4⟩
theorem _root_.Orr.TnOk.at_{p q:Ft}{c:Fu}{l:List Tm}(h:TnOk p q c l){t:Tm}(ht:t∈l):AT t c 82000 (O1 q t.lo t.hi) t.hi:=by
 obtain⟨e1,e2,V⟩:=h.vt t ht;rw[<-e1]at V;have:=Qs6 (h.va t ht) h.ck e2 V (by rw[e1];exact h.sz.1) (h.gr t ht);rwa[e1]at this
end Orq
namespace Orr
open Go Go.Proofs Tryz Orq
set_option maxRecDepth 10000
abbrev VC(n d:Int):Rat:=Sa (Er n 61-30) (1+Er d 6)
theorem Qe9(n d:Int):Qs 100 (VC n d):=by
 have h1:Er n 61=n % 61:=rfl;have h2:Er d 6=d % 6:=rfl;unfold VC Sa;rw[if_neg (by omega)];exact Qs.divInt (Qe (Pn.2 (show(Er n 61-30).natAbs<2^10 by omega)) (by decide)) (Qe (Pn.2 (show(1+Er d 6).natAbs<2^10 by omega)) (by decide)) (by decide)
theorem YI{l:Ft}{i:Nat}{z:Int}(h:l[i]? = some z):(Mx l)[i]? = some [.int .i64 z]:=Tk (f:=λz:Int=>[LV.int .i64 z]) h
theorem Qsa{l:Ft}(hl:l.length≤1000)(hb:∀z∈l,-1000000000≤z/\z≤1000000000):Fo 54 [.one (ids l)] [.one (rp (zp (trim l)))]:=by
 have cc:=XB (p:=zp l);rw[Dn]at cc;have hil:(Mx l).length=l.length:=by simp[Mx]
 show Fo 54 [.one (.row (Mx l))] _;refine Sk func54 rfl ?_;refine Ff [.o 3 34 4] rfl ?_;refine Fl (S:=Nat) 1 (λL1 i=>(7,.v (.oi i))::(3,.v (.one (.orow 0 4 none)))::L1) (λi=>[.row false 34 4 (frow ((zp l).take i))]) (λi=>l.length-i) (λi=>i<=l.length) 0 (Qh _) rfl rfl λi hi=>?_
 by_cases h:i<l.length
 ·obtain⟨z,hz⟩:=gxE (l:=l) (i:=i) h;have hzb:=hb z (Qa hz);have htl:(frow ((zp l).take i)).length=i:=by rw[Pu,Qz,Mc];omega
  have hnx:(zp l).take (i+1)=(zp l).take i++[(z:Rat)]:=by
   rw[X2,zp,Zb,hz];rfl
  refine go tt [.T,.x (YI hz),.k (UH (n:=z) (by omega)),.s (sz:=4) (pQ _)] rfl (by simp[Ge,htl];omega) ?_;exact rd (i+1) (by omega) h (by rw[hnx,SO];rfl)
 ·obtain rfl:i=l.length:=by omega
  rw[Qp (by rw[Mc];exact Qn _)];exact Fh [.F,.k cc] rfl
structure RtOk(q:List Int)(c:List (List Int))(l:List Tm):Prop where
 n:l.length<=67
 ck:Cok c
 va:∀t∈l,Va t
 vt:∀t∈l,t.p=q/\t.lo<t.hi/\Vt (cz q) (c.map cz) t.lo t.hi
 sz:Anc q/\q.length<=9
 gr:∀t∈l,∃D M k,Gr D M k t.lo/\Gr D M k t.hi/\0<M/\Gy (D:Int)+Gy (M:Int)+k≤82000
theorem Qe2{p:Ft}(ok:Okp 9 1110 p)(l2:2<=p.length):∃q c l,RtOk q c l/\Fo 57 [.one (rp (zp p))] [.one (.row (DG q c l))]:=by
 have okb:Okp 9 1180 p:=⟨CH,ok.t,ok.nz,ok.l,Gd ok.b (by decide)⟩;obtain⟨q,L,o,hpt,hS,ck,hCh,s1,s2,⟨g,sq⟩,q2,qp,bq⟩:=zX okb l2;obtain⟨q',c,l,r1,r2,r3,_,hRI,hva,_,_,hz⟩:=mU (by decide) ok;obtain rfl:q'=q:=Option.some.inj (r1.symm.trans s1);obtain rfl:c=q'::L:=Option.some.inj (r2.symm.trans s2);have Ee:=ok.l;have hall:=qO (ok.pb (by decide)) r2 sq.pq.n;have hld:Gp q'≠0:=by have:=sq.pq.l;omega
 obtain⟨D,M,hM,gb,hD,hMs⟩:=Qge hld bq;have hb1:=QT hld;have hrun:I5 q' (q'::L) 100000 (-Hw q') (Hw q') (uY (q'::L))=some l:=by
  unfold OK at r3;rw[r2,Y6,r1,Y6]at r3;obtain⟨b,hb',r3⟩:=Qk.1 r3;have:Hw q'=b:=by
   unfold chq at hb'
   split at hb'
   ·injection hb' with hb'
   ·cases hb'
  rw[<-this]at r3;exact r3
 have hbw:(-Hw q')<Hw q':=by grind
 have hsr:=uM hM 100000 0 _ _ _ l hrun hbw (by rw[jB hS hall,Mq (Qm hbw)]) (Qjd gb) gb (by omega);have hln:l.length<=67:=by
  have h1:=hRI.len;have h2:=Qmz ((q'::L).map cz) (-Hw q');have h3:=(Orr.chain_ok (ok.pb (by decide)) r2).1;rw[Q4]at h2;omega
 obtain⟨⟨m',f',kF,kP,eq_⟩,_⟩:=id hCh;have cr:=Qhf ok.t (Gd ok.b (by decide)) (by omega) l2 kF kP eq_ hCh sq.pq.t q2 (by omega) (Gd bq (by decide)) ck hsr (by omega);obtain⟨pp,hl,hb⟩:=ok.pr;have e1:∀t,Gf (Gm p) t=Gf q' t*Gf g t:=λt=>by rw[sq.e];grind
 have anc:Anc q':=⟨Gm p,g,pp.t,pp.n,by omega,hb,sq.pg.t,e1⟩;refine⟨q',q'::L,l,⟨hln,ck,hva,λt ht=>?_,⟨anc,by omega⟩,λt ht=>?_⟩,cr⟩
 ·obtain⟨h1,h2⟩:=Qvk hRI ht;exact⟨h2,(hz t ht).2.1,h1⟩
 ·obtain⟨_,_,_,D,M,k,x1,x2,x3,x4,x5,x6⟩:=hz t ht;exact⟨D,M,k,x1,x2,x3,by omega⟩
theorem RtOk.at_{q:Ft}{c:Fu}{l:List Tm}(h:RtOk q c l){t:Tm}(ht:t∈l):AT t c 82000 (O1 q t.lo t.hi) t.hi:=by
 obtain⟨e1,e2,V⟩:=h.vt t ht;rw[<-e1]at V;have:=Qs6 (h.va t ht) h.ck e2 V (by rw[e1];exact h.sz.1) (h.gr t ht);rwa[e1]at this
structure Pk(t:Tm)(C:List (List Int)):Prop where
 va:Va t
 rt:RT ⟨t.p,C,t.lo,t.hi,Hb t⟩
 to:Fo 19 [.agg (ax t.p C t.lo t.hi)] [.agg (ta t)]
theorem cQ{p:Ft}{C:Fu}{lo hi:Rat}(hp:Bd 8000000 p)(lp:p.length<=60)(tp:Gh p)(ql:Qs 2000000 lo)(qh:Qs 2000000 hi):Fo 19 [.agg (ax p C lo hi)] [.agg (ta ⟨p,lo,hi⟩)]:=by
 have c1:=Qhh (p:=p) (Gd hp (by decide)) (by omega);have c2:=Qr9 (q:=lo) (ql.mono (by decide));have c3:=Qr9 (q:=hi) (qh.mono (by decide));exact Fi func19 rfl [.k c1,.k c2,.k c3] rfl
theorem Qyq{t:Tm}(h:Va t)(h0:Hq t.p t.hi=0):Va ⟨t.p,t.hi,t.hi⟩:=by
 have hpt:(⟨t.p,t.hi,t.hi⟩:Tm).point=true:=M5.2 Ql;have no:∀{P:Prop},(⟨t.p,t.hi,t.hi⟩:Tm).point=false->P:=λh=>by rw[hpt]at h;cases h
 obtain⟨D,M,k,g1,g2,hM,hs⟩:=h.g;have hl:lim t<=3300000:=by unfold lim;split <;> omega
 refine⟨.inl ⟨rfl,?_⟩,h.tr,h.n,h.n2,h.b,no,no,D,M,k,g2,g2,hM,?_⟩
 ·rw[Sf]at h0;exact Ha.1 h0
 ·have:lim ⟨t.p,t.hi,t.hi⟩=3300000:=by unfold lim;rw[if_pos hpt]
  omega
theorem RtOk.pk{q:Ft}{c:Fu}{l:List Tm}(h:RtOk q c l){t:Tm}(ht:t∈l):∃u:Tm,Pk u c/\axr q c t=ax u.p c u.lo u.hi:=by
 have hat:=h.at_ ht;obtain⟨e1,e2,V⟩:=h.vt t ht;have va:=h.va t ht;have b8:Bd 8000000 t.p:=Gd (by rw[e1];exact h.sz.1.bd (by rw[<-e1];exact va.tr)) (show 1179<=8000000 by decide);have n9:=va.n;have hne:Tn t.lo t.hi≠0:=λh=>by have:=Pf.1 h;grind
 obtain⟨ql,qh⟩:=hat.qs (by decide);by_cases h0:Hq q t.hi=0
 ·have e:O1 q t.lo t.hi=t.hi:=by unfold O1;rw[if_pos ⟨hne,h0⟩]
  have v2:=Qyq va (by rw[e1];exact h0);obtain⟨D,M,k,g1,g2,hM,hs⟩:=h.gr t ht;have at2:AT ⟨t.p,t.hi,t.hi⟩ c 82000 t.hi t.hi:=⟨v2,h.ck,.inl ⟨rfl,by rw[Aq rfl];exact D6 _⟩,λ_=>by rw[show(⟨t.p,t.hi,t.hi⟩:Tm).p=q from e1];exact h.sz.1,D,M,k,g2,g2,hM,hs⟩;exact⟨⟨t.p,t.hi,t.hi⟩,⟨v2,Qsz at2 (by decide),cQ (p:=t.p) b8 (by omega) va.tr qh qh⟩,by show ax q c (O1 q t.lo t.hi) t.hi=ax t.p c t.hi t.hi;rw[e,e1]⟩
 ·have e:O1 q t.lo t.hi=t.lo:=by unfold O1;rw[if_neg λh=>h0 h.2]
  rw[e]at hat ql;exact⟨t,⟨va,Qsz hat (by decide),cQ b8 (by omega) va.tr ql qh⟩,by show ax q c (O1 q t.lo t.hi) t.hi=ax t.p c t.lo t.hi;rw[e,e1]⟩
theorem Qx6{q:Rat}{c:Fu}(hq:Qs 1640000 q):Pk (tq q) c:=by
 refine⟨Q0d hq,⟨λ{p} hp=>?_⟩,cQ (Gd (Qr3 hq) (by decide)) (by show 2<=60;decide) (uB q) (hq.mono (by decide)) (hq.mono (by decide))⟩;show Fo 16 [.one (rp (zp p)),.agg (aq q c)] [.oi (Hk (Hb (tq q)) p)];rw[Qja];exact Qhc (Gd (vT hp) (by decide)) (by have:=hp.l;omega) (hq.mono (by decide))
theorem MN{v n:Int}(h:0<n):0<=Er v n/\Er v n<n:=by
 unfold Er;rw[if_neg (by omega)];exact⟨K8 _ (by omega),V7 _ h⟩
theorem aA(z:Int):-9223372036854775808<=IntKind.i64.wrap z/\IntKind.i64.wrap z<=9223372036854775807:=by
 simp[IntKind.wrap,IntKind.bits,IntKind.signed];omega
def wM(z:Int):Int:=Er (IntKind.i64.wrap (z+6)) 13-6
theorem Qvg(z:Int):-6<=wM z/\wM z<=6:=by
 have:=MN (v:=IntKind.i64.wrap (z+6)) (n:=13) (by decide);unfold wM;omega
theorem Qts{l:Ft}{k:Int}(hl:∀z∈l,-9223372036854775808≤z/\z≤9223372036854775807)(hk:-9223372036854775808≤k/\k≤9223372036854775807)(hn:l.length<9223372036854775808):∃t C,Pk t C/\Fo 13 [.one (.row (Mx l)),.oi k] [.agg (ax t.p C t.lo t.hi)]:=by
 have hil:(Mx l).length=l.length:=by simp[Mx]
 obtain⟨c,hc⟩:=nmE ((l.take 5).map wM);have hcl:c.length<=5:=by rw[hc,Q4,Qz];omega
 have hcb:∀z∈c,-6≤z/\z≤6:=λz hz=>by
  rw[hc]at hz;obtain⟨u,_,rfl⟩:=Zd.1 hz;exact Qvg u
 have co:=Qsa (l:=c) (by omega) λz hz=>by have:=hcb z hz;omega
 have hq0:=Qe9 k (l.length:Int);have cs:=iC (n:=k) (d:=(l.length:Int)) hk (by omega);rw[show Sa (Er k 61-30) (1+Er (l.length:Int) 6)=VC k (l.length:Int) from rfl]at cs;have cr:=ME (q:=VC k (l.length:Int)) (hq0.mono (by decide)) (Qsu (hq0.mono (by decide)));have pkq:=Qx6 (q:=VC k (l.length:Int)) (c:=[[-(VC k (l.length:Int)).num,((VC k (l.length:Int)).den:Int)],[1]]) (hq0.mono (by decide));obtain⟨q,hq⟩:=nmE (VC k (l.length:Int));rw[<-hq]at cs cr pkq;have hfl:=GI (trim c);have htl:=Sr c;have step:∀i z,l[i]? = some z->i<5->(l.take (i+1)).map wM=(l.take i).map wM++[wM z]:=λi z hz _=>by
  rw[X2,hz,Jr,Xo];rfl
 have VG:∀z:Int,∀y∈[[LV.int .i64 z]],y.length=1:=λz y hy=>by rw[Qo.1 hy];rfl
 by_cases h2:(trim c).length<2
 ·refine⟨tq q,_,pkq,?_⟩;refine Sk func13 rfl ?_;refine Ff [.o 5 3 1] rfl ?_;refine Fl (S:=Nat) 2 (λL1 i=>(6,.v (.oi i))::(5,.v (.one (.orow 1 1 none)))::L1) (λi=>[.blk 36 [.nils,.nils,.nils,.bool false,.nils,.bool false,.nils,.bool false,.nils,.bool false],.row false 3 1 (Mx ((l.take i).map wM))]) (λi=>5-i) (λi=>i<=5/\i<=l.length) 0 ⟨by decide,Qh _⟩ rfl rfl λi ⟨hi,hi2⟩=>?_
  have hrl:(Mx ((l.take i).map wM)).length=i:=by simp[Mx];omega
  by_cases h:i<l.length/\i<5
  ·obtain⟨z,hz⟩:=gxE (l:=l) (i:=i) h.1;have cw:=Ex (v:=IntKind.i64.wrap (z+6)) (n:=13) (aA _) (by decide);have wb:=MN (v:=IntKind.i64.wrap (z+6)) (n:=13) (by decide);refine go tt [.g 13 true Fq,.T,.x (YI hz),.w 0,.k cw,.s (sz:=1) (VG _)] rfl (by simp[Ge,hrl];omega) ?_;exact rd (i+1) (by omega) ⟨h.2,h.1⟩ (by rw[step i z hz h.2];simp[Mx,wM];rfl)
  have e:(l.take i).map wM=c:=by
   rw[hc];by_cases h1:i<l.length
   ·rw[show i=5 by omega]
   ·rw[Qp (by omega),Qp (by omega)]
  rw[e];by_cases h1:i<l.length
  ·exact Fh [.g 13 true Fq,.F,.k co,.T,.r 36 (eI (b:=(l.length:Int)) (by omega)),.k cs,.k cr] rfl rfl (by simp[Ge])
  ·exact Fh [.g 13 false Fp,.f rfl,.k co,.T,.r 36 (eI (b:=(l.length:Int)) (by omega)),.k cs,.k cr] rfl rfl (by simp[Ge])
 have okp:Okp 9 1110 (trim c):=⟨⟨by decide,by decide⟩,Tl c,by omega,by omega,Md λz hz=>by
  have:=hcb z hz;refine Qe (Pn.2 (show z.natAbs<2^3 by omega)) (by decide)⟩
 obtain⟨rq,rc_,r,rok,crt⟩:=Qe2 okp (by omega);have hrr:(DG rq rc_ r).length=r.length:=Q4 _;have hr67:=rok.n;by_cases h0:r.length=0
 ·refine⟨tq q,_,pkq,?_⟩;refine Sk func13 rfl ?_;refine Ff [.o 5 3 1] rfl ?_;refine Fl (S:=Nat) 2 (λL1 i=>(6,.v (.oi i))::(5,.v (.one (.orow 1 1 none)))::L1) (λi=>[.blk 36 [.nils,.nils,.nils,.bool false,.nils,.bool false,.nils,.bool false,.nils,.bool false],.row false 3 1 (Mx ((l.take i).map wM))]) (λi=>5-i) (λi=>i<=5/\i<=l.length) 0 ⟨by decide,Qh _⟩ rfl rfl λi ⟨hi,hi2⟩=>?_
  have hrl:(Mx ((l.take i).map wM)).length=i:=by simp[Mx];omega
  by_cases h:i<l.length/\i<5
  ·obtain⟨z,hz⟩:=gxE (l:=l) (i:=i) h.1;have cw:=Ex (v:=IntKind.i64.wrap (z+6)) (n:=13) (aA _) (by decide);have wb:=MN (v:=IntKind.i64.wrap (z+6)) (n:=13) (by decide);refine go tt [.g 13 true Fq,.T,.x (YI hz),.w 0,.k cw,.s (sz:=1) (VG _)] rfl (by simp[Ge,hrl];omega) ?_;exact rd (i+1) (by omega) ⟨h.2,h.1⟩ (by rw[step i z hz h.2];simp[Mx,wM];rfl)
  have e:(l.take i).map wM=c:=by
   rw[hc];by_cases h1:i<l.length
   ·rw[show i=5 by omega]
   ·rw[Qp (by omega),Qp (by omega)]
  rw[e];by_cases h1:i<l.length
  ·exact Fh [.g 13 true Fq,.F,.k co,.F,.k crt,.T,.r 46 (eI (b:=(l.length:Int)) (by omega)),.k cs,.k cr] rfl rfl (by simp[Ge])
  ·exact Fh [.g 13 false Fp,.f rfl,.k co,.F,.k crt,.T,.r 46 (eI (b:=(l.length:Int)) (by omega)),.k cs,.k cr] rfl rfl (by simp[Ge])
 have wn:=MN (v:=k) (n:=(r.length:Int)) (by omega);obtain⟨j,hj⟩:∃j:Nat,Er k (r.length:Int)=(j:Int):=⟨(Er k (r.length:Int)).toNat,by omega⟩;obtain⟨u,hu⟩:=gxE (l:=r) (i:=j) (by omega);have cwk:=Ex (v:=k) (n:=(r.length:Int)) hk (by omega);rw[hj]at cwk;obtain⟨t,hp,ht⟩:=rok.pk (Qa hu);have hgu:(DG rq rc_ r)[j]? = some (ax t.p rc_ t.lo t.hi):=by rw[<-ht];exact Tk hu
 refine⟨t,rc_,hp,?_⟩;refine Sk func13 rfl ?_;refine Ff [.o 5 3 1] rfl ?_;refine Fl (S:=Nat) 2 (λL1 i=>(6,.v (.oi i))::(5,.v (.one (.orow 1 1 none)))::L1) (λi=>[.blk 36 [.nils,.nils,.nils,.bool false,.nils,.bool false,.nils,.bool false,.nils,.bool false],.row false 3 1 (Mx ((l.take i).map wM))]) (λi=>5-i) (λi=>i<=5/\i<=l.length) 0 ⟨by decide,Qh _⟩ rfl rfl λi ⟨hi,hi2⟩=>?_
 have hrl:(Mx ((l.take i).map wM)).length=i:=by simp[Mx];omega
 by_cases h:i<l.length/\i<5
 ·obtain⟨z,hz⟩:=gxE (l:=l) (i:=i) h.1;have cw:=Ex (v:=IntKind.i64.wrap (z+6)) (n:=13) (aA _) (by decide);have wb:=MN (v:=IntKind.i64.wrap (z+6)) (n:=13) (by decide);refine go tt [.g 13 true Fq,.T,.x (YI hz),.w 0,.k cw,.s (sz:=1) (VG _)] rfl (by simp[Ge,hrl];omega) ?_;exact rd (i+1) (by omega) ⟨h.2,h.1⟩ (by rw[step i z hz h.2];simp[Mx,wM];rfl)
 have e:(l.take i).map wM=c:=by
  rw[hc];by_cases h1:i<l.length
  ·rw[show i=5 by omega]
  ·rw[Qp (by omega),Qp (by omega)]
 rw[e];by_cases h1:i<l.length
 ·exact Fh [.g 13 true Fq,.F,.k co,.F,.k crt,.F,.r 52 (eI (b:=(r.length:Int)) (by omega)),.k cwk,.x hgu] rfl rfl (by simp[Ge])
 ·exact Fh [.g 13 false Fp,.f rfl,.k co,.F,.k crt,.F,.r 52 (eI (b:=(r.length:Int)) (by omega)),.k cwk,.x hgu] rfl rfl (by simp[Ge])
structure Cw(sg:List Int->Int)(c:Ct):Prop where
 p:Cp c.p
 w:Hk sg c.p=c.want
section
variable{sg:Ft->Int}
variable{l:List Pt}(hl:∀p∈l,Sc p.c)
include hl
omit hl
include hl
end
end Orr
namespace Orr
open Go Go.Proofs Tryz Orq
set_option maxRecDepth 10000
end Orr
namespace Orq
open Orr Go
section
variable{α:Type}{lt lt':α->α->Bool}
end
theorem uV{a:Tm}{l:List Pt}{q:Rat}(hb:∀u∈l,∀v∈l,(Rh (Hb a) u v=true↔ZY q u v))(hd:l.Pairwise λx y=>x.id≠y.id):(Rk a l).Pairwise (ZY q) :=
 foldG_pw (S:=λx=>x∈l) (D:=λx y=>x.id≠y.id) (CV q) (λu v hu hv h=>(hb u hu v hv).1 h) (λu v hu hv hne h=>Qjy (λe=>hne e.symm) λh'=>by
  rw[(hb u hu v hv).2 h']at h;cases h) l [] .nil (λx hx=>by cases hx) (λx hx=>hx) hd (λx hx=>by cases hx)
theorem Qur{a:Tm}(ha:Va a){u v:Pt}(hu:Sc u.c)(hv:Sc v.c){q:Rat}(h1:Hk (Hb a) (Hi u.c v.c)=Gt (Gf (Hi u.c v.c) q))(h2:Hk (Hb a) (Hh u.c v.c)=Gt (Gf (Hh u.c v.c) q))(hne:u.c≠v.c)(h:ZY q u v):lx (px · q) (py · q) u v:=by
 rcases h with h|⟨h,h3⟩
 ·exact .inl h
 rcases h3 with h3|⟨h3,_⟩
 ·exact .inr ⟨h,h3⟩
 ·exfalso;rw[MF hu hv]at h1;rw[MU hu hv]at h2;have z1:Gt (px v q-px u q)=0:=Ha.2 (by grind);have z2:Gt (py v q-py u q)=0:=Ha.2 (by grind);rw[z1]at h1;rw[z2]at h2;have e1:(Hi u.c v.c).length=0:=Decidable.byContradiction λe=>(B9 ha (C4 hu hv).dp e).2 h1
  have e2:(Hh u.c v.c).length=0:=Decidable.byContradiction λe=>(B9 ha (C3 hu hv).dp e).2 h2
  exact hne (Qb1 hu.n hv.n (Qf e1) (Qf e2))
structure LowC(X Y:Pt->Rat)(R L:List Pt):Prop where
 hd:L.head? = R.head?
 la:L.getLast? = R.getLast?
 srt:L.Pairwise (lx X Y)
 mem:∀p∈L,p∈R
 edg:Edg (λa b=>∀p∈R,0≤H4 X Y a b p) L
 cnv:Cnv (λa b c=>0<H4 X Y a b c) L
theorem qA{X Y:Pt->Rat}{sg:Ft->Int}{R:List Pt}(hs:∀a∈R,∀b∈R,∀c∈R,(sR sg a b c=true↔0<H4 X Y a b c))(hR:R.Pairwise (lx X Y))(h0:R≠[]):LowC X Y R (Ij sg R):=by
 cases R with
 |nil=>exact absurd rfl h0
 |
  cons f R =>
  obtain⟨t,st,g1,g2,g3,g4⟩:=qI hs hR R [f] f [] rfl ⟨V5 _ _,λp hp=>by rw[Qo.1 hp];simp,trivial,trivial⟩ rfl rfl;have e:Ij sg (f::R)=(t::st).reverse:=by
   unfold Ij;rw[<-g1];rfl
  rw[e];exact⟨by rw[List.head?_reverse,g4],by rw[List.getLast?_reverse];exact g3.symm,Ko.2 g2.srt,λp hp=>g2.mem p (Xw.1 hp),g2.edg.rev,g2.cnv.rev⟩
theorem JX(X Y:Pt->Rat)(a b c:Pt):H4 (λp=>-X p) (λp=>-Y p) a b c=H4 X Y a b c:=by unfold H4;grind
theorem IQ{X Y:Pt->Rat}{a b:Pt}:lx (λp=>-X p) (λp=>-Y p) a b↔lx X Y b a:=by unfold lx;grind
theorem Qs1{L:List Pt}{f z:Pt}(h1:L.head? = some f)(h2:L.getLast? = some z)(hne:f≠z):∃A,L=f::A++[z]:=by
 cases L with
 |nil=>cases h1
 |
  cons g M =>
  simp at h1;subst h1;cases M with
  |nil=>simp at h2;exact absurd h2 hne
  |
   cons x M =>
   rw[Wn]at h2;obtain⟨A,hA⟩:=List.getLast?_eq_some_iff.1 h2;exact⟨A,by rw[hA];rfl⟩
structure Soon(l:List Pt)(a:Tm)(q:Rat):Prop where
 g:∀p∈nL l++Qfx l,Hk (Hb a) p=Gt (Gf p q)
 b:∀u∈l,∀v∈l,(Rh (Hb a) u v=true↔ZY q u v)
 o:∀u∈l,∀v∈l,∀w∈l,Hk (Hb a) (G8 u.c v.c w.c)=Gt (H4 (px · q) (py · q) u v w)
 t:∀u∈l,∀v∈l,∀w∈l,(sR (Hb a) u v w=true↔0<H4 (px · q) (py · q) u v w)
 r:(Rk a (Gu l)).Pairwise (lx (px · q) (py · q))
theorem Qme{l:List Pt}(hl:∀p∈l,Sc p.c)(hd:l.Pairwise λx y=>x.id≠y.id){a:Tm}(ha:Va a):∃y,Hl a y=-1/\∀q,Hl a q=-1->q≤y->Soon l a q:=by
 obtain⟨y,y1,y2⟩:=HQ ha (nL l++Qfx l) λp hp=>(Qnx hl p hp).dp
 refine⟨y,y1,λq q1 q2=>?_⟩;have g:=y2 q q1 q2;have gP:=λp hp=>g p (Xv _ hp)
 have b:∀u∈l,∀v∈l,(Rh (Hb a) u v=true↔ZY q u v):=λu hu v hv=>bX ha (hl u hu) (hl v hv) (gP _ (QR hu hv).1) (gP _ (QR hu hv).2)
 have o:∀u∈l,∀v∈l,∀w∈l,Hk (Hb a) (G8 u.c v.c w.c)=Gt (H4 (px · q) (py · q) u v w):=λu hu v hv w hw=>by
  rw[g _ (Km _ (Qfy hu hv hw)),aJ (hl u hu) (hl v hv) (hl w hw)]
 refine⟨g,b,o,λu hu v hv w hw=>?_,?_⟩
 ·unfold sR;rw[o u hu v hv w hw,decide_eq_true_eq];have:=Hf (H4 (px · q) (py · q) u v w);grind
 ·have hw:∀u∈Gu l,u∈l:=λu hu=>Ht hu
  have h1:=uV (a:=a) (l:=Gu l) (q:=q) (λu hu v hv=>b u (hw u hu) v (hw v hv)) (List.Pairwise.sublist (B5 l) hd);have h2:(Rk a (Gu l)).Pairwise λx y=>x.c≠y.c:=(List.Perm.pairwise_iff (λ{x y} h e=>h e.symm) (OH (lt:=Rh (Hb a)) (Gu l))).2 (Qrm l)
  refine(h1.and h2).imp_of_mem λ{u v} hu hv h=>?_
  have hu:=hw u (Rx.1 hu);have hv:=hw v (Rx.1 hv);exact Qur ha (hl u hu) (hl v hv) (gP _ (QR hu hv).1) (gP _ (QR hu hv).2) h.2 h.1
theorem Mv{l:List Pt}(hl:∀p∈l,Sc p.c)(hd:l.Pairwise λx y=>x.id≠y.id){a:Tm}(ha:Va a):∃q,Soon l a q :=
 let⟨y,h1,h2⟩:=Qme hl hd ha
 ⟨y,h2 y h1 Ql⟩
theorem Bj{l:List Pt}{a:Tm}{q:Rat}(S:Soon l a q)(h3:3<=(Rk a (Gu l)).length):∃f z A B,Ij (Hb a) (Rk a (Gu l))=f::A++[z]/\Ij (Hb a) (Rk a (Gu l)).reverse=z::B++[f]/\LowC (px · q) (py · q) (Rk a (Gu l)) (f::A++[z])/\LowC (λp=>-px p q) (λp=>-py p q) (Rk a (Gu l)).reverse (z::B++[f])/\Ln (Gx l a)=Il (f::A++[z])++Il (z::B++[f])/\2<=(Gx l a).length:=by
 obtain⟨R,hR⟩:=nmE (Rk a (Gu l));have hm:∀x∈R,x∈l:=λx hx=>by rw[hR]at hx;exact Ht (Rx.1 hx)
 have r:=S.r;rw[<-hR]at r h3 ⊢;have h0:R≠[]:=λe=>by rw[e]at h3;simp at h3
 have c1:=qA (sg:=Hb a) (λu hu v hv w hw=>S.t u (hm u hu) v (hm v hv) w (hm w hw)) r h0;have r2:R.reverse.Pairwise (lx (λp=>-px p q) (λp=>-py p q)):=Ko.2 (r.imp λh=>IQ.2 h);have c2:=qA (sg:=Hb a) (R:=R.reverse) (X:=λp=>-px p q) (Y:=λp=>-py p q) (λu hu v hv w hw=>by
  rw[JX (px · q) (py · q)];exact S.t u (hm u (Xw.1 hu)) v (hm v (Xw.1 hv)) w (hm w (Xw.1 hw))) r2 (by simpa using h0)
 obtain⟨f,hf⟩:∃f,R.head? = some f:=by cases R with
  |nil=>exact absurd rfl h0
  |cons f _=>exact⟨f,rfl⟩
 obtain⟨z,hz⟩:∃z,R.getLast? = some z:=⟨_,Ub h0⟩;have hne:f≠z:=λe=>by
  subst e;cases R with
  |nil=>exact absurd rfl h0
  |
   cons g M =>
   simp at hf;subst hf;cases M with
   |nil=>simp at h3
   |
    cons x M =>
    rw[Wn]at hz;exact Dv _ ((Q5.1 r).1 g (List.mem_of_getLast? hz))
 obtain⟨A,hA⟩:=Qs1 (c1.hd.trans hf) (c1.la.trans hz) hne;obtain⟨B,hB⟩:=Qs1 (c2.hd.trans (by rw[List.head?_reverse];exact hz)) (c2.la.trans (by rw[List.getLast?_reverse];exact hf)) (Ne.symm hne);have hc:Gx l a=(f::A++[z]).dropLast++(z::B++[f]).dropLast:=by
  unfold Gx Ms;rw[<-hR,if_neg (by omega),hA,hB]
 rw[hA]at c1;rw[hB]at c2;refine⟨f,z,A,B,hA,hB,c1,c2,by rw[hc];exact tM,?_⟩;rw[hc,Zu,Zu];simp;omega
end Orq
namespace Orr
open Go Go.Proofs Tryz Orq
theorem Sc.pt{p:Pt}(h:Sc p.c):Qs9 4294967294 1073741824 p:=⟨h.n,h.c.mono (by decide) (by decide)⟩
end Orr
namespace Orr
open Go Go.Proofs Tryz Orq
set_option maxRecDepth 10000
def bcP(l:List Pt)(a:Tm):List Ct:=Qx5 (Hb a) l
abbrev brP(l:List Pt)(a:Tm):Fz:=Hy (UZ (Hb a) l)
end Orr
namespace Orr
open Go
end Orr
namespace Orq
open Orr Go
def HF(q:Rat)(x y:Pt):Prop:=py y q<py x q\/py y q=py x q/\(px y q<px x q\/px y q=px x q/\x.id<y.id)
theorem Qjw(q:Rat)(x:Pt):¬HF q x x:=by unfold HF;grind
theorem Qbo(q:Rat)(x y z:Pt)(h:HF q x y)(h':HF q y z):HF q x z:=by unfold HF at *;grind
theorem Qjx{q:Rat}{x y:Pt}(h:x.id≠y.id)(h':¬HF q x y):HF q y x:=by unfold HF at *;grind
theorem Qc7{a:Tm}(ha:Va a){x y:Pt}(hx:Sc x.c)(hy:Sc y.c){q:Rat}(h1:Hk (Hb a) (Hh y.c x.c)=Gt (Gf (Hh y.c x.c) q))(h2:Hk (Hb a) (Hi y.c x.c)=Gt (Gf (Hi y.c x.c) q)):JB (Hb a) x y=true↔HF q x y:=by
 rw[MU hy hx]at h1;rw[MF hy hx]at h2;have d1:=(C3 hy hx).dp;have d2:=(C4 hy hx).dp;unfold JB;simp only[Af];have t1:=Hf (py x q-py y q);have t2:=Hf (px x q-px y q);by_cases e1:(Hh y.c x.c).length=0
 ·rw[if_neg (by omega)];rw[Qf e1,YC]at h1;have:py x q=py y q:=by grind
  by_cases e2:(Hi y.c x.c).length=0
  ·rw[if_neg (by omega)];rw[Qf e2,YC]at h2;unfold HF;simp only[decide_eq_true_eq];grind
  ·rw[if_pos (by omega)];have:=(B9 ha d2 e2).2;unfold HF;simp only[decide_eq_true_eq];grind
 ·rw[if_pos (by omega)];have:=(B9 ha d1 e1).2;unfold HF;simp only[decide_eq_true_eq];grind
theorem gJ{l:List Pt}(hl:∀p∈l,Sc p.c){a:Tm}(ha:Va a):∃y,Hl a y=-1/\∀q,Hl a q=-1->q≤y->∀u∈l,∀v∈l,(JB (Hb a) u v=true↔HF q u v):=by
 obtain⟨y,y1,y2⟩:=HQ ha (nL l) λp hp=>(iJ hl p hp).dp
 refine⟨y,y1,λq q1 q2 u hu v hv=>?_⟩;have h:=y2 q q1 q2;exact Qc7 ha (hl u hu) (hl v hv) (h _ (QR hv hu).2) (h _ (QR hv hu).1)
end Orq
namespace Orr
open Orq Go
end Orr
namespace Orq
open Orr Go
structure MOk(M:List Pt):Prop where
 sc:∀p∈M,Sc p.c
 ln:M.length<=6
 so:Mj M
theorem MOk.df{M:List Pt}(h:MOk M):M.Pairwise λx y=>x.id≠y.id:=h.so.imp λh e=>by omega
structure Knd(β:Type) where
 bc:List Pt->Tm->List Ct
 br:List Pt->Tm->β
 al:List Pt->List (List Int)
structure KndOk{β:Type}(k:Knd β):Prop where
 st:∀M,MOk M->Stab (k.bc M) (k.br M)
 cp:∀M,MOk M->∀p∈k.al M,Cp p
 al:∀M a,∀x∈k.bc M a,x.p∈k.al M
 ln:∀M,MOk M->(k.al M).length<=1000000
abbrev kP:Knd Fz:=⟨bcP,brP,Qnv⟩
structure At{β:Type}(k:Knd β)(M:List Pt)(q:Rat)(c:Cr):Prop where
 now:c.now=tq q
 st:KSt (k.bc M) (k.br M) c (k.br M (tq q))
section
variable{β:Type}{k:Knd β}(ok:KndOk k){M M':List Pt}{q t:Rat}{c:Cr}
include ok
end
end Orq
namespace Orq
open Orr Go
theorem C7{α:Type}:∀(L:List α) {R:List α},L.Pairwise (λx y=>x≠y)->(∀x∈L,x∈R)->L.length≤R.length
 | [],_,_,_=>Qh _
 |
  x::L,R,h,hs=>by
  obtain⟨h1,h2⟩:=Q5.1 h;obtain⟨A,B,rfl⟩:=Wh (hs x (by simp));have:=C7 L (R:=A++B) h2 λy hy=>by
   have:=hs y (Qi _ hy);simp only[Qr,Qj]at this ⊢;rcases this with h|h|h
   ·exact .inl h
   ·exact absurd h.symm (h1 y hy)
   ·exact .inr h
  simp only[Q6,Zf]at this ⊢;omega
theorem GL{α:Type}{Q:α->α->Prop}{x y:α}{l':List α}:∀(l:List α),Edg Q (l++x::y::l')->Q x y
 | [],h=>h.1
 |_::l,h=>GL l (Edg.tail h)
theorem vF{α:Type}{R:α->α->α->Prop}{x y z:α}{l':List α}:∀(l:List α),Cnv R (l++x::y::z::l')->R x y z
 | [],h=>h.1
 |_::l,h=>vF l (Cnv.tail h)
theorem zZ{X Y:Pt->Rat}{R:List Pt}{f z p:Pt}{A:List Pt}(c:LowC X Y R (f::A++[z]))(hp:p∈A):0<H4 X Y f p z:=by
 obtain⟨A1,A2,rfl⟩:=Wh hp;obtain⟨L1,x,hx⟩:∃L1 x,f::A1=L1++[x]:=⟨(f::A1).dropLast,(f::A1).getLast (by simp),(Vj (by simp)).symm⟩;obtain⟨y,L2,hy⟩:∃y L2,A2++[z]=y::L2:=by
  cases A2 with
  |nil=>exact⟨z,[],rfl⟩
  |cons y A2=>exact⟨y,A2++[z],rfl⟩
 have e:f::(A1++p::A2)++[z]=L1++x::p::y::L2:=by
  have e1:f::(A1++p::A2)++[z]=(f::A1)++p::(A2++[z]):=by simp
  rw[e1,hx,hy];simp
 have hf:f∈R:=c.mem f (by simp);have hz:z∈R:=c.mem z (by simp);have srt:=c.srt;have edg:=c.edg;have cnv:=c.cnv;have srt0:=srt;rw[e]at srt edg cnv;have t0:=vF L1 cnv;have t1:=GL L1 edg f hf;have t2:0<=H4 X Y p y z:=by
  have:L1++x::p::y::L2=(L1++[x])++p::y::L2:=by simp
  rw[this]at edg;exact GL _ edg z hz
 obtain⟨_,s2,_⟩:=Zv.1 srt;obtain⟨sx,s2⟩:=Q5.1 s2;obtain⟨sp,_⟩:=Q5.1 s2;have lxp:=sx p (by simp);have lpy:=sp y (by simp);have lfp:lx X Y f p:=(Q5.1 (Zv.1 srt0).1).1 p (by simp);have lpz:lx X Y p z:=by
  have:=(Zv.1 srt0).2.2 p (by simp) z (by simp);exact this
 have vf:=Dw lfp;have vx:=Dw lxp;have vy:=Dw lpy;have vz:=Dw lpz;have a1:0<=(X p-X f)*(Y p-Y x)-(X p-X x)*(Y p-Y f):=by unfold H4 at t1;grind
 have a2:0<(X p-X x)*(Y y-Y p)-(X y-X p)*(Y p-Y x):=by unfold H4 at t0;grind
 have a3:0<=(X y-X p)*(Y z-Y p)-(X z-X p)*(Y y-Y p):=by unfold H4 at t2;grind
 have b1:=(ang vf vx vy a1 (Qm a2)).2 (.inr a2);have b2:=(ang vf vy vz (Qm b1) a3).2 (.inl b1);unfold H4;grind
theorem Im{M:List Pt}{a:Tm}{q:Rat}(S:Soon M a q):(Gx M a).Pairwise λx y=>x≠y:=by
 by_cases h3:3<=(Rk a (Gu M)).length
 ·obtain⟨f,z,A,B,hA,hB,c1,c2,_⟩:=Bj S h3;have e:Gx M a=f::A++(z::B):=by
   unfold Gx Ms;rw[if_neg (by omega),hA,hB,Zu,Zu]
  rw[e];have p1:=c1.srt;have p2:=c2.srt;obtain⟨p3,_,p4⟩:=Zv.1 p1;obtain⟨p5,_,p6⟩:=Zv.1 p2;refine Zv.2 ⟨List.Pairwise.imp (λ{u v} (h:lx (px · q) (py · q) u v) (e:u=v)=>by subst e;exact Dv _ h) p3,List.Pairwise.imp (λ{u v} (h:lx (λp=>-px p q) (λp=>-py p q) u v) (e:u=v)=>by subst e;exact Dv _ h) p5,λx hx y hy e=>?_⟩;subst e;rcases Qj.1 hx with rfl|hxA
  ·exact Dv _ (p6 x hy x (by simp))
  ·rcases Qj.1 hy with rfl|hyB
   ·exact Dv _ (p4 x hx x (by simp))
   ·have h1:=zZ c1 hxA;have h2:=zZ c2 hyB;unfold H4 at h1 h2;grind
 ·have e:Gx M a=Rk a (Gu M):=by unfold Gx Ms;rw[if_pos (by omega)]
  rw[e];exact S.r.imp λh e=>by subst e;exact Dv _ h
section
variable{M:List Pt}(hM:MOk M){a:Tm}(ha:Va a)
include hM ha
theorem Qjj:(Gx M a).length<=M.length:=by
 obtain⟨q,S⟩:=Mv hM.sc hM.df ha;have hl:(Rk a (Gu M)).length<=M.length:=by rw[Dd];exact VA M
 exact Qe (C7 _ (R:=Rk a (Gu M)) (Im S) λx hx=>Bu hx) hl
end
section
variable{M:List Pt}(hM:MOk M){a:Tm}(ha:Va a)
include hM ha
end
theorem PE:∀(k:Nat) {l:List Pt},Mj l->∀m∈Tr k l,m.1.id<m.2.id
 | 0,l,_,m,h=>by simp[Tr]at h
 |k+1,[],_,m,h=>by simp[Tr]at h
 |
  k+1,x::l,hs,m,h=>by
  obtain⟨s1,s2⟩:=Q5.1 hs;rcases Qr.1 h with h|h
  ·obtain⟨y,hy,rfl⟩:=Zd.1 h;exact s1 y hy
  ·exact PE k s2 m h
theorem IV(sg:Ft->Int):∀(ps:List (Pt×Pt)) (s:Pt×Pt),Ta sg s ps=s\/Ta sg s ps∈ps
 | [],s=>.inl rfl
 |
  m::ps,s=>by
  rw[Av];rcases IV sg ps (Nv sg s m)with h|h
  ·rw[h];rcases KC sg s m with e|e
   ·rw[e];exact .inr (by simp)
   ·rw[e];exact .inl rfl
  ·exact .inr (Qi _ h)
theorem wF(sg:Ft->Int){M:List Pt}(hs:Mj M):(M.length<2/\UZ sg M=[])\/(2<=M.length/\∃x y,UZ sg M=[x,y]/\x∈M/\y∈M/\x.id<y.id):=by
 match M,hs with
 | [],_=>exact .inl ⟨by decide,rfl⟩
 | [_],_=>exact .inl ⟨Nat.lt_of_sub_eq_succ rfl,rfl⟩
 |
  a::b::l,hs =>
  right;refine⟨by simp,_,_,rfl,?_⟩;have hab:(a,b)∈H5 (a::b::l):=Xv _ (Zd.2 ⟨b,by simp,rfl⟩);have hm:Ta sg (a,b) (H5 (a::b::l))∈H5 (a::b::l):=by
   rcases IV sg (H5 (a::b::l)) (a,b)with h|h
   ·rw[h];exact hab
   ·exact h
  obtain⟨m1,m2⟩:=En _ _ _ hm;exact⟨m1,m2,PE _ hs _ hm⟩
end Orq
namespace Orq
open Orr Go
structure DgC(D:Nat)(k:Crv):Prop where
 x:k.x.length<=D+1
 y:k.y.length<=D+1
section
variable{D:Nat}{a b c d:Crv}
end
theorem wG(x:Pt)(l:List Pt):H5 (x::l)=l.map (λy=>(x,y))++H5 l:=rfl
theorem xC:∀{l:List Pt} {x y:Pt},x∈l->y∈l->x=y\/(x,y)∈H5 l\/(y,x)∈H5 l
 | [],_,_,h,_=>by cases h
 |
  z::l,x,y,hx,hy=>by
  rw[wG];rcases Qj.1 hx with e|h1
  ·rcases Qj.1 hy with e'|h2
   ·exact .inl (e.trans e'.symm)
   ·exact .inr (.inl (Xv _ (Zd.2 ⟨y,h2,by rw[e]⟩)))
  ·rcases Qj.1 hy with e'|h2
   ·exact .inr (.inr (Xv _ (Zd.2 ⟨x,h1,by rw[e']⟩)))
   rcases xC h1 h2 with h|h|h
   ·exact .inl h
   ·exact .inr (.inl (Km _ h))
   ·exact .inr (.inr (Km _ h))
section
variable{M:List Pt}{D:Nat}(hM:MOk M)(hd:∀p∈M,DgC D p.c)
include hM hd
end
end Orq
namespace Orq
open Orr Go
theorem IK{x y:Rat}(hx:x<0)(hy:0<=y):x*y<=0:=by
 have:=Jt (show 0<=-x by grind) hy;grind
theorem IW{x y:Rat}(hx:x<0)(hy:x*y<=0):0<=y:=by
 rcases Hr 0 y with h|h
 ·exact h
 ·have:=Xm (show 0 < -x by grind) (show 0 < -y by grind);grind
theorem Qc5{ux uy vx vy dx dy:Rat}(hu:ux<0\/ux=0/\uy<0)(hv:vx<0\/vx=0/\vy<0)(h0:ux*vy-vx*uy=0)(h1:0<=-(ux*dy-dx*uy))(h2:0<=vx*dy-dx*vy):ux*dy-dx*uy=0:=by
 have key:0<=ux*dy-dx*uy:=by
  rcases hu with hu|⟨hu,hu'⟩
  ·have hvx:vx<0:=by
    rcases hv with h|⟨h,h'⟩
    ·exact h
    ·exfalso;rw[h]at h0;have:=Xm (show 0 < -ux by grind) (show 0 < -vy by grind);grind
   have e:ux*(vx*dy-dx*vy)=vx*(ux*dy-dx*uy):=by grind
   have:=IK hu h2;rw[e]at this;exact IW hvx this
  ·subst hu;have hvx:vx=0:=by
    have:vx*uy=0:=by grind
    rcases Xn.1 this with h|h
    ·exact h
    ·grind
   have hvy:vy<0:=by
    rcases hv with h|⟨_,h⟩
    ·rw[hvx]at h;exact absurd h (by decide)
    ·exact h
   have e:uy*(vx*dy-dx*vy)=vy*(0*dy-dx*uy):=by rw[hvx];grind
   have:=IK hu' h2;rw[e]at this;exact IW hvy this
 grind
theorem Qej{ux uy a1 a2 b1 b2 c1 c2 z1 z2:Rat}(hu:ux<0\/ux=0/\uy<0)(ha:ux*(a2-z2)-(a1-z1)*uy=0)(hb:ux*(b2-z2)-(b1-z1)*uy=0)(hc:ux*(c2-z2)-(c1-z1)*uy=0):(b1-a1)*(c2-a2)-(c1-a1)*(b2-a2)=0:=by
 rcases hu with hu|⟨hu,hu'⟩
 ·have e:ux*((b1-a1)*(c2-a2)-(c1-a1)*(b2-a2))=0:=by grind
  rcases Xn.1 e with h|h
  ·grind
  ·exact h
 ·subst hu;have e1:(a1-z1)*uy=0:=by grind
  have e2:(b1-z1)*uy=0:=by grind
  have e3:(c1-z1)*uy=0:=by grind
  have f:∀x:Rat,x*uy=0->x=0:=λx hx=>by
   rcases Xn.1 hx with h|h
   ·exact h
   ·grind
  have:=f _ e1;have:=f _ e2;have:=f _ e3;have g1:b1-a1=0:=by grind
  have g2:c1-a1=0:=by grind
  rw[g1,g2];grind
theorem Qbf{X Y:Pt->Rat}{R:List Pt}{f z:Pt}{A B:List Pt}(c1:LowC X Y R (f::A++[z]))(c2:LowC (λp=>-X p) (λp=>-Y p) R.reverse (z::B++[f]))(hAB:A≠[]\/B≠[]){x w:Pt}{A' B':List Pt}(hx:f::A++[z]=A'++[x,z])(hw:z::B++[f]=z::w::B'):0<H4 X Y x z w:=by
 have ex:(x,z)∈Il (f::A++[z]):=by
  rw[hx];unfold Il;clear hx
  induction A' with
  |nil=>simp
  |
   cons y A' ih =>
   cases A' with
   |nil=>simp
   |
    cons y' A' =>
    rw[Xa,K5,Je,Xa,List.zip_cons_cons];exact Qi _ ih
 have ew:(z,w)∈Il (z::B++[f]):=by rw[hw];unfold Il;simp
 have hxR:x∈R:=c1.mem x (by rw[hx];simp);have hwR:w∈R:=Xw.1 (c2.mem w (by rw[hw];simp));have h1:∀p∈R,0≤H4 X Y x z p:=GB.1 c1.edg _ ex;have h2:∀p∈R,0≤H4 X Y z w p:=λp hp=>by
  have:=GB.1 c2.edg _ ew p (Xw.2 hp);rwa[JX X Y]at this
 have lx1:lx X Y x z:=by
  have:=c1.srt;rw[hx]at this;exact(Q5.1 (Zv.1 this).2.1).1 z (by simp)
 have lw1:lx X Y w z:=by
  have:=c2.srt;rw[hw]at this;exact IQ.1 ((Q5.1 this).1 w (by simp))
 rcases Yi.1 (h1 w hwR)with h|h
 ·exact h
 exfalso;have hu:X x-X z<0\/X x-X z=0/\Y x-Y z<0:=by unfold lx at lx1;grind
 have hv:X w-X z<0\/X w-X z=0/\Y w-Y z<0:=by unfold lx at lw1;grind
 have h0:(X x-X z)*(Y w-Y z)-(X w-X z)*(Y x-Y z)=0:=by unfold H4 at h;grind
 have flat:∀p∈R,(X x-X z)*(Y p-Y z)-(X p-X z)*(Y x-Y z)=0:=λp hp=>by
  have a:=h1 p hp;have b:=h2 p hp;refine Qc5 hu hv h0 ?_ ?_
  ·unfold H4 at a;grind
  ·unfold H4 at b;grind
 have all0:∀a∈R,∀b∈R,∀c∈R,H4 X Y a b c=0:=λa ha b hb c hc=>Qej hu (flat a ha) (flat b hb) (flat c hc)
 rcases hAB with hA|hB
 ·cases A with
  |nil=>exact hA rfl
  |
   cons a A =>
   have hc:=c1.cnv;have hm:=c1.mem;cases A with
   |
    nil =>
    have:0<H4 X Y f a z:=hc.1;rw[all0 f (hm f (by simp)) a (hm a (by simp)) z (hm z (by simp))]at this;exact absurd this (by decide)
   |
    cons b A =>
    have:0<H4 X Y f a b:=hc.1;rw[all0 f (hm f (by simp)) a (hm a (by simp)) b (hm b (by simp))]at this;exact absurd this (by decide)
 ·cases B with
  |nil=>exact hB rfl
  |
   cons a B =>
   have hc:=c2.cnv;have hm:∀p∈z::(a::B)++[f],p∈R:=λp hp=>Xw.1 (c2.mem p hp)
   cases B with
   |
    nil =>
    have:0<H4 (λp=>-X p) (λp=>-Y p) z a f:=hc.1;rw[JX X Y,all0 z (hm z (by simp)) a (hm a (by simp)) f (hm f (by simp))]at this;exact absurd this (by decide)
   |
    cons b B =>
    have:0<H4 (λp=>-X p) (λp=>-Y p) z a b:=hc.1;rw[JX X Y,all0 z (hm z (by simp)) a (hm a (by simp)) b (hm b (by simp))]at this;exact absurd this (by decide)
theorem Qcu{α:Type}{l:List α}{x:α}(h:l.getLast? = some x):l=l.dropLast++[x]:=by
 cases l with
 |nil=>simp at h
 |
  cons a l =>
  have e:=Vj (l:=a::l) (by simp);rw[Ub (by simp)]at h;injection h with h;rw[<-h];exact e.symm
theorem vU{α:Type}{R:α->α->α->Prop}:∀{L:List α} {i:Nat} {a b c:α},Cnv R L->L[i]? = some a->L[i+1]? = some b->L[i+2]? = some c->R a b c
 | [],_,_,_,_,_,h,_,_=>by simp at h
 | [_],_,_,_,_,_,_,h,_=>by simp at h
 | [_,_],i,_,_,_,_,_,_,h=>by simp at h
 |
  x::y::w::l,0,a,b,c,hc,h1,h2,h3=>by
  simp at h1 h2 h3;subst h1;subst h2;subst h3;exact hc.1
 |x::y::w::l,i+1,a,b,c,hc,h1,h2,h3=>vU (L:=y::w::l) (i:=i) hc.2 (by simpa using h1) (by simpa using h2) (by simpa using h3)
theorem cR{x y:Crv}:Ak x y=true↔x=y:=by
 cases x;cases y;simp[Ak]
theorem OA{l:List Pt}{p:Pt}(hp:p∈l):∃w∈Gu l,w.c=p.c:=by
 have stay:∀(l out:List Pt) (w:Pt),w∈out->w∈l.foldl Nb out:=by
  intro l
  induction l with
  |nil=>intro out w h;exact h
  |
   cons y l ih =>
   intro out w h;refine ih _ _ ?_;unfold Nb
   split
   ·exact h
   ·exact Xv _ h
 have key:∀(l out:List Pt),p∈l->∃w∈l.foldl Nb out,w.c=p.c:=by
  intro l
  induction l with
  |nil=>intro out h;cases h
  |
   cons y l ih =>
   intro out h;rcases Qj.1 h with rfl|h
   ·rw[Z0];by_cases hc:(out.any λq=>Ak p.c q.c)=true
    ·obtain⟨w,hw,he⟩:=Ks.1 hc;refine⟨w,stay l _ w ?_,(cR.1 he).symm⟩;unfold Nb;rw[if_pos hc];exact hw
    ·refine⟨p,stay l _ p ?_,rfl⟩;unfold Nb;rw[if_neg hc];simp
   ·exact ih _ h
 exact key l [] hp
theorem Qkg(X Y:Pt->Rat)(a p:Pt):H4 X Y a a p=0:=by unfold H4;grind
theorem fO{l:List Pt}(hl:∀p∈l,Sc p.c)(hd:l.Pairwise λx y=>x.id≠y.id){a:Tm}(ha:Va a){e:Pt×Pt}(he:e∈Ln (Gx l a)){p:Pt}(hp:p∈l):0≤Hk (Hb a) (G8 e.1.c e.2.c p.c):=by
 obtain⟨q,S⟩:=Mv hl hd ha;obtain⟨w,hw,hwc⟩:=OA hp;obtain⟨m1,m2⟩:=tP he;have hwl:=Ht hw;rw[<-hwc,S.o _ (S4 m1) _ (S4 m2) _ hwl];have hwR:w∈Rk a (Gu l):=Rx.2 hw;have nn:∀{x:Rat},0<=x->0<=Gt x:=λ{x} hx=>by
  unfold Gt
  split
  ·grind
  ·split <;> decide
 refine nn ?_;by_cases h3:3<=(Rk a (Gu l)).length
 ·obtain⟨f,z,A,B,_,_,c1,c2,hE,_⟩:=Bj S h3;rw[hE]at he;rcases Qr.1 he with he|he
  ·exact GB.1 c1.edg _ he w hwR
  ·have:=GB.1 c2.edg _ he w (Xw.2 hwR);rwa[JX (px · q) (py · q)]at this
 ·have hC:Gx l a=Rk a (Gu l):=by unfold Gx Ms;rw[if_pos (by omega)]
  rw[hC]at he;generalize Rk a (Gu l)=R at *
  match R,h3,hwR,he with
  | [],_,hwR,_=>cases hwR
  |
   [f],_,hwR,he =>
   have:e=(f,f):=by simpa[Ln]using he
   subst this;rw[Qkg];exact Ql
  |
   [f,z],_,hwR,he =>
   have h:e=(f,z)\/e=(z,f):=by simpa[Ln]using he
   have h':w=f\/w=z:=by simpa using hwR
   rcases h with rfl|rfl <;> rcases h' with rfl|rfl
   ·rw[(ZR _ _).1];exact Ql
   ·rw[(ZR _ _).2];exact Ql
   ·rw[(ZR _ _).2];exact Ql
   ·rw[(ZR _ _).1];exact Ql
  |_::_::_::_,h3,_,_=>simp at h3
theorem yN{l:List Pt}(hl:∀p∈l,Sc p.c)(hd:l.Pairwise λx y=>x.id≠y.id){a:Tm}(ha:Va a){i:Nat}{f c:Pt}(h0:(Gx l a)[0]? = some f)(hi:(Gx l a)[i]? = some c)(hi0:0<i):Rh (Hb a) f c=true:=by
 obtain⟨q,S⟩:=Mv hl hd ha;have hfl:=S4 (Qa h0);have hcl:=S4 (Qa hi);have hs:Rk a (Gu l)=Rk a (Gu l):=rfl;have pw:=uV (a:=a) (l:=Gu l) (q:=q) (λu hu v hv=>S.b u (Ht hu) v (Ht hv)) (List.Pairwise.sublist (B5 l) hd);refine(S.b f hfl c hcl).2 ?_;by_cases h3:3<=(Rk a (Gu l)).length
 ·obtain⟨f',z,A,B,hA,hB,c1,c2,_,_⟩:=Bj S h3;have hC:Gx l a=f'::A++(z::B):=by
   unfold Gx Ms;rw[if_neg (by omega),hA,hB,Zu,Zu]
  rw[hC]at h0 hi;have:f'=f:=by simpa using h0
  subst this;have hne:c≠f':=by
   cases i with
   |zero=>omega
   |
    succ i =>
    have hi':(A++(z::B))[i]? = some c:=by simpa using hi
    have hm:=Qa hi';intro e;subst e;rcases Qr.1 hm with hm|hm
    ·exact Dv _ ((Q5.1 c1.srt).1 c (Xv _ hm))
    ·have:=c2.srt;rw[Xa]at this;have h9:(z::B++[c]).Pairwise (lx (λp=>-px p q) (λp=>-py p q)):=c2.srt;exact Dv _ ((Zv.1 h9).2.2 c hm c (by simp))
  have hh:(Rk a (Gu l)).head? = some f':=by rw[<-c1.hd];rfl
  have hcR:c∈Rk a (Gu l):=by
   have hm:=Qa hi;rcases Qr.1 hm with hm|hm
   ·exact c1.mem c (Xv _ hm)
   ·exact Xw.1 (c2.mem c (Xv _ hm))
  generalize Rk a (Gu l)=R at *;cases R with
  |nil=>cases hh
  |
   cons g R =>
   have:g=f':=by simpa using hh
   subst this;rcases Qj.1 hcR with e|e
   ·exact absurd e hne
   ·exact(Q5.1 pw).1 c e
 ·have hC:Gx l a=Rk a (Gu l):=by unfold Gx Ms;rw[if_pos (by omega)]
  rw[hC]at h0 hi;obtain⟨k0,e0⟩:=Qd.1 h0;obtain⟨k1,e1⟩:=Qd.1 hi;have:=Xh.1 pw 0 i k0 k1 hi0;rwa[e0,e1]at this
theorem gQ{l:List Pt}(hl:∀p∈l,Sc p.c)(hd:l.Pairwise λx y=>x.id≠y.id){a:Tm}(ha:Va a)(h2:2<(Gx l a).length){i:Nat}{x y w:Pt}(hx:(Gx l a)[i]? = some x)(hy:(Gx l a)[(i+1) % (Gx l a).length]? = some y)(hw:(Gx l a)[(i+2) % (Gx l a).length]? = some w):0<Hk (Hb a) (G8 x.c y.c w.c):=by
 obtain⟨q,S⟩:=Mv hl hd ha;rw[S.o _ (S4 (Qa hx)) _ (S4 (Qa hy)) _ (S4 (Qa hw))];have pp:∀{r:Rat},0<r->0<Gt r:=λ{r} hr=>by
  unfold Gt;rw[if_neg (by grind),if_pos hr];decide
 refine pp ?_;have h3:3<=(Rk a (Gu l)).length:=by
  rcases Q8 (Rk a (Gu l)).length 3 with h|h
  ·have hC:Gx l a=Rk a (Gu l):=by unfold Gx Ms;rw[if_pos h]
   rw[hC]at h2;omega
  ·exact h
 obtain⟨f,z,A,B,hA,hB,c1,c2,_,_⟩:=Bj S h3;have hC:Gx l a=f::A++(z::B):=by
  unfold Gx Ms;rw[if_neg (by omega),hA,hB,Zu,Zu]
 rw[hC]at h2 hx hy hw;have hn:(f::A++(z::B)).length=A.length+B.length+2:=by simp;omega
 rw[hn]at h2 hy hw;have hil:i<A.length+B.length+2:=by rw[<-hn];exact(Qd.1 hx).1
 have d1:∀{k:Nat} {u:Pt},k<=A.length+1->(f::A++(z::B))[k]? = some u->(f::A++[z])[k]? = some u:=λ{k u} hk h=>by
  have e:f::A++(z::B)=(f::A++[z])++B:=by simp
  rw[e,Q3 (by simp;omega)]at h;exact h
 have d2:∀{k:Nat} {u:Pt},A.length+1<=k->k<A.length+B.length+2->(f::A++(z::B))[k]? = some u->(z::B++[f])[k-(A.length+1)]? = some u:=λ{k u} hk hk2 h=>by
  rw[Zk (by simp;omega)]at h;rw[Q3 (by simp;omega)];rw[show(f::A).length=A.length+1 from by simp]at h;exact h
 have d3:(z::B++[f])[B.length+1]? = some f:=by
  rw[Zk (by simp)];simp
 have n1:(λa b c:Pt=>0<H4 (λp=>-px p q) (λp=>-py p q) a b c)=λa b c=>0<H4 (px · q) (py · q) a b c:=by
  funext a b c;rw[JX (px · q) (py · q)]
 have hcnv2:Cnv (λa b c=>0<H4 (px · q) (py · q) a b c) (z::B++[f]):=by rw[<-n1];exact c2.cnv
 rcases Q8 (i+2) (A.length+2)with k|k
 ·-- in the first chain
  rw[Xf (by omega)]at hy hw;exact vU c1.cnv (d1 (by omega) hx) (d1 (by omega) hy) (d1 (by omega) hw)
 rcases Q8 i (A.length+1)with k'|k'
 ·-- at the Qbf z
  have hi:i=A.length:=by omega
  subst hi;rw[Xf (by omega)]at hy;have hx':=d1 (by omega) hx;have hy':=d1 (by omega) hy;have ez:y=z:=by
   rw[Zk (by simp)]at hy';simpa using hy'.symm
  subst ez;obtain⟨A',hA'⟩:∃A',f::A++[y]=A'++[x,y]:=by
   refine⟨(f::A).dropLast,?_⟩;have:(f::A)=(f::A).dropLast++[x]:=by
    have hl':(f::A).getLast? = some x:=by
     rw[List.getLast?_eq_getElem?];rw[Q3 (by simp)]at hx';simpa using hx'
    exact Qcu hl'
   rw[this,Zu,Zj];rfl
  obtain⟨B',hB'⟩:∃B',y::B++[f]=y::w::B':=by
   cases B with
   |
    nil =>
    simp only[Vb]at hw h2;rw[show(A.length+2) % (A.length+0+2)=0 by simp]at hw;have:w=f:=by simpa using hw.symm
    subst this;exact⟨[],rfl⟩
   |
    cons b B =>
    rw[Xf (by rw[Zf]at *;omega)]at hw;have hw':=d2 (by omega) (by rw[Zf]at *;omega) hw;rw[show A.length+2-(A.length+1)=1 by omega]at hw';have:w=b:=by simpa using hw'.symm
    subst this;exact⟨B++[f],rfl⟩
  exact Qbf c1 c2 (by
   rcases A with _|⟨_,A⟩
   ·right;intro e;rw[e]at h2;simp at h2
   ·left;exact λe=>by cases e) hA' hB'
 rcases Q8 (i+1) (A.length+B.length+2)with k''|k''
 ·-- in the second chain
  rw[Xf (by omega)]at hy;have hx':=d2 (by omega) (by omega) hx;have hy':=d2 (by omega) (by omega) hy;rw[show i+1-(A.length+1)=i-(A.length+1)+1 by omega]at hy';have hw':(z::B++[f])[i-(A.length+1)+2]? = some w:=by
   rcases Q8 (i+2) (A.length+B.length+2)with k3|k3
   ·rw[Xf k3]at hw;have:=d2 (by omega) (by omega) hw;rw[<-this];congr 1;omega
   ·have e:i+2=A.length+B.length+2:=by omega
    rw[e,W9]at hw;have:w=f:=by simpa using hw.symm
    subst this;rw[<-d3];congr 1;omega
  exact vU hcnv2 hx' hy' hw'
 ·-- at the Qbf f
  have hi:i+1=A.length+B.length+2:=by omega
  rw[hi,W9]at hy;have ef:y=f:=by simpa using hy.symm
  subst ef;have hx':=d2 (by omega) (by omega) hx;obtain⟨B',hB'⟩:∃B',z::B++[y]=B'++[x,y]:=by
   refine⟨(z::B).dropLast,?_⟩;have:(z::B)=(z::B).dropLast++[x]:=by
    have hl':(z::B).getLast? = some x:=by
     rw[List.getLast?_eq_getElem?];rw[Q3 (by simp;omega)]at hx';rw[<-hx'];congr 1;simp;omega
    exact Qcu hl'
   rw[this,Zu,Zj];rfl
  obtain⟨A',hA'⟩:∃A',y::A++[z]=y::w::A':=by
   rw[show i+2=1+(A.length+B.length+2) by omega,Nat.add_mod_right,Xf (by omega)]at hw;cases A with
   |
    nil =>
    have:w=z:=by simpa using hw.symm
    subst this;exact⟨[],rfl⟩
   |
    cons b A =>
    have:w=b:=by simpa using hw.symm
    subst this;exact⟨A++[z],rfl⟩
  have hr:LowC (λp=>-(λp=>-px p q) p) (λp=>-(λp=>-py p q) p) (Rk a (Gu l)).reverse.reverse (y::A++[z]):=by
   rw[List.reverse_reverse];have e1:(λp:Pt=>-(λp=>-px p q) p)=(px · q):=by funext p;grind
   have e2:(λp:Pt=>-(λp=>-py p q) p)=(py · q):=by funext p;grind
   rw[e1,e2];exact c1
  have:=Qbf c2 hr (by
   rcases B with _|⟨_,B⟩
   ·right;intro e;rw[e]at h2;simp at h2
   ·left;exact λe=>by cases e) hB' hA'
  rwa[JX (px · q) (py · q)]at this
end Orq
