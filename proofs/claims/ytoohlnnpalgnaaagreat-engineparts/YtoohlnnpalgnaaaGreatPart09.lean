/- En1 TW1 TW2 R3 R4 RefPL R5 R6 RefGL R7 RatOkL R8 R9 RefCL R10 R11 R12 R13 R14 R15 R16 R17 R18 SC1 W1 W2 WR18 WS18 X19 MeshK H2 H3 MD1 -/
import Derived.Test.YtoohlnnpalgnaaaGreatPart08
import Derived.Test.YtoohlnnpalgnaaaGreatPart00
import Derived.Test.YtoohlnnpalgnaaaGreatPart07
import Derived.Test.YtoohlnnpalgnaaaGreatPart04
import Derived.Test.YtoohlnnpalgnaaaGreatPart05
set_option linter.all false
namespace Orr
open Go Go.Proofs Tryz Orq
set_option maxRecDepth 10000
theorem kF(l:Uq):(lm l).length=l.length:=by simp[lm]
theorem ZP{z:Int}:(Gb z.natAbs).length<=4↔Fc z<=128:=by
 constructor
 ·intro h;have h1:=Bu (Gb z.natAbs) (Dn z.natAbs).1;rw[Ha]at h1;refine S0.2 (Z8 h1 (Qc (Zs (by decide) h) (by decide)))
 ·intro h;have:=Td (x:=z.natAbs) (k:=128) h;omega
def ZX(k:Crv):Bool:=(k.x++k.y++[k.d]).all λz=>decide (Fc z<=128)
theorem EM{k:Crv}:ZX k=true↔(∀z∈k.x,Fc z≤128)/\(∀z∈k.y,Fc z≤128)/\Fc k.d≤128:=by
 unfold ZX;simp only[List.all_append,Zn,Ju,decide_eq_true_iff,Qk,forall_eq];constructor
 ·rintro⟨⟨h1,h2⟩,h3⟩;exact⟨h1,h2,h3⟩
 ·rintro⟨h1,h2,h3⟩;exact⟨⟨h1,h2⟩,h3⟩
theorem WS{k:Crv}{z:Int}(hz:z∈k.x++k.y++[k.d])(h:¬Fc z<=128):ZX k=false:=by
 unfold ZX;rw[<-Bool.not_eq_true,Ju];intro h';exact h (of_decide_eq_true (h' z hz))
abbrev tB(np nd:Int)(l:List Pt):OB:=.blk 159 (taR np nd l)
theorem eY{np nd:Int}{l:List Pt}(id:Int)(hl:l.length<1073741824):U6 prog 183 [.one (.ow 0 0),.oi id] [tB np nd l] [.oi (Rx l id:Int),.one (.bool (has l id))] [tB np nd l]:=by
 refine Fv func183 rfl ?_;refine Uf [] rfl ?_;refine ct 2 (S:=Unit) (λ_=>[(1,.v (.oi id)),(0,.v (.one (.ow 0 0))),(6,.v (.oi (Rx l id:Int)))]) (λ_=>[tB np nd l]) (λ_=>True) rfl ?_ ?_
 ·refine Uk (S:=Nat) 1 (λL1 k=>(6,.v (.oi k))::L1) (λ_=>[tB np nd l]) (λk=>l.length-k) (λk=>k<=l.length/\∀j p,j<k->l[j]? = some p->p.id<id) 0 ⟨Qh _,λj p h=>by omega⟩ rfl rfl λk ⟨hk,hlt⟩=>?_
  by_cases h:k<l.length
  ·obtain⟨p,hp⟩:=gxE (l:=l) (i:=k) h;by_cases hid:p.id<id
   ·refine Ug [.t (by simp;omega),.x (Sf hp),.t (by simpa using hid)] rfl ?_;exact rd (k+1) (by omega) ⟨h,λj q hj hq=>by
     rcases Zc j k with h2|h2
     ·exact hlt j q h2 hq
     ·have:j=k:=by omega
      subst this;rw[hp]at hq;injection hq with hq;rw[<-hq];exact hid⟩ rfl
   ·have e:=EZ hlt (.inr ⟨p,hp,hid⟩);refine Uf [.t (by simp;omega),.x (Sf hp),.f (by simpa using hid)] rfl ?_;rw[e];exact rc () trivial rfl
  ·obtain rfl:k=l.length:=by omega
   have e:=EZ hlt (.inl rfl);refine Uf [.f (by simp),.f rfl] rfl ?_;rw[e];exact rc () trivial rfl
 ·intro _ _;by_cases h:Rx l id<l.length
  ·obtain⟨p,hp⟩:=gxE (l:=l) (i:=Rx l id) h;have e:has l id=decide (p.id=id):=by simp[has,hp]
   rw[e];exact Uj [] [0] [.g 36 true (by simp;omega),.x (Sf hp)] rfl
  ·have e:has l id=false:=by simp[has,Qu (Yb h)]
   rw[e];exact Uj [] [0] [.g 36 false (by simp;omega)] rfl
theorem HG{lx ly:Uu}{px py:Uo}{x y:LV}{d:Int}(hx:IsInts lx px)(hy:IsInts ly py)(hd:Gd x y d)(hk:Cs 4294967294 1073741824 (Crv.mk px py d))(id:Int):Ul 86 [.agg [.row lx,.row ly,x,y,.int .i64 id]] [.agg (Fb ⟨Crv.norm (Crv.mk px py d),id⟩)]:=by
 have cd:=Mp hd (Qc hk.d (by omega));by_cases h0:d=0
 ·subst h0;have ck:Cs 4294967294 1073741824 (Crv.mk px py 1):=⟨hk.x,hk.y,show Fc 1<=4294967294 by decide,hk.lx,hk.ly⟩;have cm:=UV hx hy (U4 1) ck (by decide);have e:Crv.norm (Crv.mk px py 1)=Crv.norm (Crv.mk px py 0):=by simp only[Crv.norm,Crv.g,Crv.d'];rfl
  rw[e]at cm;obtain⟨b,l,rfl,rfl,_⟩:=hd;exact Ui func86 rfl [.k cd,.k Di,.t (by simp),.k (BK (z:=1) (by decide)),.k cm] rfl
 ·have cm:=UV hx hy hd hk h0;obtain⟨b,l,rfl,rfl,_⟩:=hd;exact Ui func86 rfl [.k cd,.k Di,.f (by simpa using h0),.k cm] rfl
theorem mW{p:Pt}(hn:ZC p.c)(hk:Cs 4294967294 1073741824 p.c):Ul 86 [.agg (Fb p)] [.agg (Fb p)]:=by
 have h:=HG (Gp p.c.x) (Gp p.c.y) (U4 p.c.d) hk p.id;rw[show Crv.mk p.c.x p.c.y p.c.d=p.c from rfl,Crv.norm_of hn]at h;exact h
theorem Qgf{k:Crv}(hk:Cs 4294967294 1073741824 k):Ul 245 [.agg (cl k)] [.one (.bool (ZX k))]:=by
 have hlx:=hk.lx;have hly:=hk.ly;refine Fv func245 rfl ?_;refine Uf [] rfl ?_;refine Uk (S:=Nat) 1 (λL1 i=>(15,.v (.oi i))::L1) (λ_=>[.blk 38 (cl k)]) (λi=>3-i) (λi=>i≤3/\(0<i->∀z∈k.x,Fc z≤128)/\(1<i->∀z∈k.y,Fc z≤128)/\(2<i->Fc k.d≤128)) 0 ⟨by decide,by omega,by omega,by omega⟩ rfl rfl λi ⟨hi,g0,g1,g2⟩=>?_
 rcases(show i=0\/i=1\/i=2\/i=3 by omega)with rfl|rfl|rfl|rfl
 ·have hl:((k.x).map Hg).length=(k.x).length:=by simp
  refine Uf [.t rfl,.i 0] rfl ?_ (by simp[U3]);refine Uk (S:=Nat) 1 (λL1 j=>(20,.v (.oi j))::L1) (λ_=>[.blk 38 (cl k)]) (λj=>(k.x).length-j) (λj=>j<=(k.x).length/\∀n z,n<j->(k.x)[n]? = some z->Fc z<=128) 0 ⟨Qh _,λn z h=>by omega⟩ rfl rfl λj ⟨hj,hs⟩=>?_
  by_cases h:j<(k.x).length
  ·obtain⟨z,hz⟩:=gxE (l:=(k.x)) (i:=j) h;by_cases hb:Fc z<=128
   ·have hb4:=ZP.2 hb;refine Ug [.t (by simp;omega),.x (Gx (f:=Hg) hz),.f (by simp[kF];omega)] rfl ?_;exact rd (j+1) (by omega) ⟨h,λn y hn hy=>by
     rcases Zc n j with h2|h2
     ·exact hs n y h2 hy
     ·have:n=j:=by omega
      subst this;rw[hz]at hy;injection hy with hy;rw[<-hy];exact hb⟩ rfl
   ·have hb4:=mt ZP.1 hb;rw[WS (Qp.2 (.inl (Qp.2 (.inl (Qa hz))))) hb];exact Uh [.t (by simp;omega),.x (Gx (f:=Hg) hz),.t (by simp[kF];omega)] rfl
  ·have hall:∀z∈k.x,Fc z≤128:=λz hz=>by
    obtain⟨n,hn⟩:=Xm hz;exact hs n z (by have:=(Qe.1 hn).1;omega) hn
   refine Uf [.f (by simp;omega)] rfl ?_ (by simp[U3]);exact rd 1 (by omega) ⟨by omega,λ_=>hall,by omega,by omega⟩ rfl
 ·have hl:((k.y).map Hg).length=(k.y).length:=by simp
  refine Uf [.t rfl,.i 1] rfl ?_ (by simp[U3]);refine Uk (S:=Nat) 1 (λL1 j=>(20,.v (.oi j))::L1) (λ_=>[.blk 38 (cl k)]) (λj=>(k.y).length-j) (λj=>j<=(k.y).length/\∀n z,n<j->(k.y)[n]? = some z->Fc z<=128) 0 ⟨Qh _,λn z h=>by omega⟩ rfl rfl λj ⟨hj,hs⟩=>?_
  by_cases h:j<(k.y).length
  ·obtain⟨z,hz⟩:=gxE (l:=(k.y)) (i:=j) h;by_cases hb:Fc z<=128
   ·have hb4:=ZP.2 hb;refine Ug [.t (by simp;omega),.x (Gx (f:=Hg) hz),.f (by simp[kF];omega)] rfl ?_;exact rd (j+1) (by omega) ⟨h,λn y hn hy=>by
     rcases Zc n j with h2|h2
     ·exact hs n y h2 hy
     ·have:n=j:=by omega
      subst this;rw[hz]at hy;injection hy with hy;rw[<-hy];exact hb⟩ rfl
   ·have hb4:=mt ZP.1 hb;rw[WS (Qp.2 (.inl (Qp.2 (.inr (Qa hz))))) hb];exact Uh [.t (by simp;omega),.x (Gx (f:=Hg) hz),.t (by simp[kF];omega)] rfl
  ·have hall:∀z∈k.y,Fc z≤128:=λz hz=>by
    obtain⟨n,hn⟩:=Xm hz;exact hs n z (by have:=(Qe.1 hn).1;omega) hn
   refine Uf [.f (by simp;omega)] rfl ?_ (by simp[U3]);exact rd 2 (by omega) ⟨by omega,λ_=>g0 (by omega),λ_=>hall,by omega⟩ rfl
 ·have hl:(([k.d]).map Hg).length=([k.d]).length:=by simp
  have h1:([k.d]).length=1:=rfl;refine Uf [.t rfl,.i 2] rfl ?_ (by simp[U3]);refine Uk (S:=Nat) 1 (λL1 j=>(20,.v (.oi j))::L1) (λ_=>[.blk 38 (cl k)]) (λj=>([k.d]).length-j) (λj=>j<=([k.d]).length/\∀n z,n<j->([k.d])[n]? = some z->Fc z<=128) 0 ⟨Qh _,λn z h=>by omega⟩ rfl rfl λj ⟨hj,hs⟩=>?_
  by_cases h:j<([k.d]).length
  ·obtain⟨z,hz⟩:=gxE (l:=([k.d])) (i:=j) h;by_cases hb:Fc z<=128
   ·have hb4:=ZP.2 hb;refine Ug [.t (by simp;omega),.x (Gx (f:=Hg) hz),.f (by simp[kF];omega)] rfl ?_;exact rd (j+1) (by omega) ⟨h,λn y hn hy=>by
     rcases Zc n j with h2|h2
     ·exact hs n y h2 hy
     ·have:n=j:=by omega
      subst this;rw[hz]at hy;injection hy with hy;rw[<-hy];exact hb⟩ rfl
   ·have hb4:=mt ZP.1 hb;rw[WS (Qp.2 (.inr (Qa hz))) hb];exact Uh [.t (by simp;omega),.x (Gx (f:=Hg) hz),.t (by simp[kF];omega)] rfl
  ·have hall:∀z∈[k.d],Fc z≤128:=λz hz=>by
    obtain⟨n,hn⟩:=Xm hz;exact hs n z (by have:=(Qe.1 hn).1;omega) hn
   refine Uf [.f (by simp;omega)] rfl ?_ (by simp[U3]);exact rd 3 (by omega) ⟨by omega,λ_=>g0 (by omega),λ_=>g1 (by omega),λ_=>hall k.d (by simp)⟩ rfl
 ·rw[EM.2 ⟨g0 (by omega),g1 (by omega),g2 (by omega)⟩];exact Uh [.f rfl] rfl
def XL(p:Pt):Bool:=decide (0<=p.id) && (decide (p.id<=1048576) && ZX p.c)
theorem Qgk{p:Pt}(hk:Cs 4294967294 1073741824 p.c):Ul 184 [.agg (Fb p)] [.one (.bool (XL p))]:=by
 have cs:=Qgf hk;by_cases h0:0<=p.id
 ·by_cases h1:p.id<=1048576
  ·have e:XL p=ZX p.c:=by simp[XL,h0,h1]
   rw[e];exact Ui func184 rfl [.t (by simpa using h0),.t (by simpa using h1),.k cs] rfl
  ·have e:XL p=false:=by simp[XL,h1]
   rw[e];exact Ui func184 rfl [.t (by simpa using h0),.f (by simpa using h1)] rfl
 ·have e:XL p=false:=by simp[XL,h0]
  rw[e];exact Ui func184 rfl [.f (by simpa using h0),.f rfl] rfl
theorem Qfu{k:Crv}(hn:ZC k)(hk:Cs 4294967294 1073741824 k):Ul 185 [.agg (cl k)] [.oi (PH k)] :=
 Ui func185 rfl [.k (BS hn hk),.k (P9 k.x),.k (P9 k.y)] rfl
def Nu(np nd:Int)(M:List Pt)(p:Pt):Int:=if XL p=false then 1 else if has M p.id=true then 6 else if nd<PH p.c then 7 else if np<=(M.length:Int)then 9 else 0
theorem Qud{lx ly:Uu}{px py:Uo}{x y:LV}{d id np nd:Int}{l:List Pt}(hx:IsInts lx px)(hy:IsInts ly py)(hd:Gd x y d)(hk:Cs 4294967294 1073741824 (Crv.mk px py d))(hl:l.length<=1000000) :
 U6 prog 132 [.one (.ow 0 0),.agg [.row lx,.row ly,x,y,.int .i64 id]] [tB np nd l] [.oi (Nu np nd l (Pt.mk (Crv.norm (Crv.mk px py d)) id))] [tB np nd (if Nu np nd l (Pt.mk (Crv.norm (Crv.mk px py d)) id)=0 then put l (Pt.mk (Crv.norm (Crv.mk px py d)) id)else l)]:=by
 have cf:=HG hx hy hd hk id;have hkn:=hk.norm (by omega);have hnm:=Crv.nml (Crv.mk px py d);obtain⟨b,r,rfl,rfl,_⟩:=hd;obtain⟨q,hq⟩:=nmE (Pt.mk (Crv.norm (Crv.mk px py d)) id);have hqi:q.id=id:=by rw[hq]
 have hqc:q.c=Crv.norm (Crv.mk px py d):=by rw[hq]
 rw[<-hq]at cf ⊢;rw[<-hqc]at hkn hnm;have ca:U6 prog 183 [.one (.ow 0 0),.oi q.id] [tB np nd l] [.oi (Rx l id:Int),.one (.bool (has l id))] [tB np nd l]:=by rw[hqi];exact eY id (by omega)
 have cm:=Qgk (p:=q) hkn;have cd:=Qfu hnm hkn;have hpl:=yI l id;have hll:(l.map Fb).length=l.length:=by simp
 by_cases h0:XL q=false
 ·have e:Nu np nd l q=1:=by simp[Nu,h0]
  rw[e,if_neg (by decide)];refine Fv func132 rfl ?_;exact Uj [] [0] [.k cf,.c [0] ca,.k cm,.t (by simp[h0])] rfl
 by_cases h1:has l id=true
 ·have e:Nu np nd l q=6:=by simp[Nu,h0,hqi,h1]
  rw[e,if_neg (by decide)];refine Fv func132 rfl ?_;exact Uj [] [0] [.k cf,.c [0] ca,.k cm,.f (by simpa using h0),.t h1] rfl
 by_cases h2:nd<PH q.c
 ·have e:Nu np nd l q=7:=by simp[Nu,h0,hqi,h1,h2]
  rw[e,if_neg (by decide)];refine Fv func132 rfl ?_;exact Uj [] [0] [.k cf,.c [0] ca,.k cm,.f (by simpa using h0),.f (by simpa using h1),.k cd,.t (by simpa using h2)] rfl
 by_cases h3:np<=(l.length:Int)
 ·have e:Nu np nd l q=9:=by simp[Nu,h0,hqi,h1,h2,h3]
  rw[e,if_neg (by decide)];refine Fv func132 rfl ?_;exact Uj [] [0] [.k cf,.c [0] ca,.k cm,.f (by simpa using h0),.f (by simpa using h1),.k cd,.f (by simpa using h2),.t (by simp;omega)] rfl
 have e:Nu np nd l q=0:=by simp[Nu,h0,hqi,h1,h2,h3]
 rw[e,if_pos rfl];have s1:∀c∈(l.map Fb).take (Rx l id),c.length=5:=λc hc=>Ss l c (Qn hc)
 have s3:∀c∈(l.map Fb).drop (Rx l id),c.length=5:=λc hc=>Ss l c (Qz hc)
 have ep:pts (put l q)=.row ((l.map Fb).take (Rx l id)++[Fb q]++(l.map Fb).drop (Rx l id)):=by
  simp[put,hqi,pts,Jw,Vi]
 have eB:tB np nd (put l q)=.blk 159 [.int .i64 np,.int .i64 nd,.row ((l.map Fb).take (Rx l id)++[Fb q]++(l.map Fb).drop (Rx l id))]:=by
  show OB.blk 159 [.int .i64 np,.int .i64 nd,pts (put l q)]=_;rw[ep]
 rw[eB];refine Fv func132 rfl ?_;exact Uj [2] [0] [.k cf,.c [0] ca,.k cm,.f (by simpa using h0),.f (by simpa using h1),.k cd,.f (by simpa using h2),.f (by simp;omega),.i (Rx l id),.s s1,.i (Rx l id),.s s3] rfl (by
  simp only[U3,Qx,Q5,Jg,Qr,Q8,hll]
  and_intros <;> first|exact Ss l|omega)
def Nc(nd:Int)(M:List Pt)(p:Pt):Int:=if XL p=false then 1 else if has M p.id=false then 5 else if nd<PH p.c then 7 else 0
theorem Qn2{lx ly:Uu}{px py:Uo}{x y:LV}{d id np nd:Int}{l:List Pt}(hx:IsInts lx px)(hy:IsInts ly py)(hd:Gd x y d)(hk:Cs 4294967294 1073741824 (Crv.mk px py d))(hl:l.length<=1000000) :
 U6 prog 114 [.one (.ow 0 0),.agg [.row lx,.row ly,x,y,.int .i64 id]] [tB np nd l] [.oi (Nc nd l (Pt.mk (Crv.norm (Crv.mk px py d)) id))] [tB np nd (if Nc nd l (Pt.mk (Crv.norm (Crv.mk px py d)) id)=0 then l.set (Rx l id) (Pt.mk (Crv.norm (Crv.mk px py d)) id)else l)]:=by
 have cf:=HG hx hy hd hk id;have hkn:=hk.norm (by omega);have hnm:=Crv.nml (Crv.mk px py d);obtain⟨b,r,rfl,rfl,_⟩:=hd;obtain⟨q,hq⟩:=nmE (Pt.mk (Crv.norm (Crv.mk px py d)) id);have hqi:q.id=id:=by rw[hq]
 have hqc:q.c=Crv.norm (Crv.mk px py d):=by rw[hq]
 rw[<-hq]at cf ⊢;rw[<-hqc]at hkn hnm;have ca:U6 prog 183 [.one (.ow 0 0),.oi q.id] [tB np nd l] [.oi (Rx l id:Int),.one (.bool (has l id))] [tB np nd l]:=by rw[hqi];exact eY id (by omega)
 have cm:=Qgk (p:=q) hkn;have cd:=Qfu hnm hkn;have hpl:=yI l id;have hll:(l.map Fb).length=l.length:=by simp
 by_cases h0:XL q=false
 ·have e:Nc nd l q=1:=by simp[Nc,h0]
  rw[e,if_neg (by decide)];refine Fv func114 rfl ?_;exact Uj [] [0] [.k cf,.c [0] ca,.k cm,.t (by simp[h0])] rfl
 by_cases h1:has l id=false
 ·have e:Nc nd l q=5:=by simp[Nc,h0,hqi,h1]
  rw[e,if_neg (by decide)];refine Fv func114 rfl ?_;exact Uj [] [0] [.k cf,.c [0] ca,.k cm,.f (by simpa using h0),.t (by simp[h1])] rfl
 by_cases h2:nd<PH q.c
 ·have e:Nc nd l q=7:=by simp[Nc,h0,hqi,h1,h2]
  rw[e,if_neg (by decide)];refine Fv func114 rfl ?_;exact Uj [] [0] [.k cf,.c [0] ca,.k cm,.f (by simpa using h0),.f (by simpa using h1),.k cd,.t (by simpa using h2)] rfl
 have e:Nc nd l q=0:=by simp[Nc,h0,hqi,h1,h2]
 rw[e,if_pos rfl];have hh:has l id=true:=by simpa using h1
 have hps:=YD hh;have eB:tB np nd (l.set (Rx l id) q)=.blk 159 [.int .i64 np,.int .i64 nd,.row ((l.map Fb).set (Rx l id) (Fb q))]:=by
  show OB.blk 159 [.int .i64 np,.int .i64 nd,pts (l.set (Rx l id) q)]=_;unfold pts;rw[List.map_set]
 rw[eB];refine Fv func114 rfl ?_;exact Uj [2] [0] [.k cf,.c [0] ca,.k cm,.f (by simpa using h0),.f (by simpa using h1),.k cd,.f (by simpa using h2),.s (Ss l),.i (Rx l id)] rfl (by
  simp only[U3,hll]
  and_intros <;> first|exact Ss l|omega)
theorem Qn1{id np nd:Int}{l:List Pt}(hl:l.length<=1000000)(h:has l id=true) :
 U6 prog 133 [.one (.ow 0 0),.oi id] [tB np nd l] [.oi 0] [tB np nd (l.take (Rx l id)++l.drop (Rx l id+1))]:=by
 have ca:=eY (np:=np) (nd:=nd) (l:=l) id (by omega);have hpl:=YD h;rw[h]at ca;have hll:(l.map Fb).length=l.length:=by simp
 have s1:∀c∈(l.map Fb).take (Rx l id),c.length=5:=λc hc=>Ss l c (Qn hc)
 have s3:∀c∈(l.map Fb).drop (Rx l id+1),c.length=5:=λc hc=>Ss l c (Qz hc)
 have eB:tB np nd (l.take (Rx l id)++l.drop (Rx l id+1))=.blk 159 [.int .i64 np,.int .i64 nd,.row ((l.map Fb).take (Rx l id)++(l.map Fb).drop (Rx l id+1))]:=by
  show OB.blk 159 [.int .i64 np,.int .i64 nd,pts (l.take (Rx l id)++l.drop (Rx l id+1))]=_;unfold pts;rw[List.map_append,List.map_take,List.map_drop]
 rw[eB];refine Fv func133 rfl ?_;exact Uj [1] [0] [.c [0] ca,.f rfl,.i (Rx l id),.s s1,.i (Rx l id+1),.s s3] rfl (by
  simp only[U3,Qx,Q5,Jg,Qr,Q8,hll]
  and_intros <;> first|exact Ss l|omega)
theorem Qgi{id np nd:Int}{l:List Pt}(hl:l.length<=1000000)(h:has l id=false) :
 U6 prog 133 [.one (.ow 0 0),.oi id] [tB np nd l] [.oi 5] [tB np nd l]:=by
 have ca:=eY (np:=np) (nd:=nd) (l:=l) id (by omega);rw[h]at ca;refine Fv func133 rfl ?_;exact Uj [] [0] [.c [0] ca,.t rfl] rfl
theorem Qua{np nd:Int}{l:List Pt}(hok:∀p∈l,Qd4 4294967294 1073741824 p)(hl:l.length≤1000000):U6 prog 29 [.one (.ow 0 0)] [tB np nd l] [.one (pts l)] [tB np nd l]:=by
 have hll:(l.map Fb).length=l.length:=by simp
 refine Fv func29 rfl ?_;refine Uf [.o 3 40 5] rfl ?_;refine Uk (S:=Nat) 2 (λL1 i=>(11,.v (.oi i))::(3,.v (.one (.orow 1 5 none)))::L1) (λi=>[tB np nd l,.row false 40 5 ((l.take i).map Fb)]) (λi=>l.length-i) (λi=>i<=l.length) 0 (Qh _) rfl rfl λi hi=>?_
 by_cases h:i<l.length
 ·obtain⟨p,hp⟩:=gxE (l:=l) (i:=i) h;have hpo:=hok p (Qa hp);have cf:=mW hpo.1 hpo.2;have s2:∀c∈[Fb p],c.length=5:=λc hc=>by rw[Qk.1 hc];rfl
  have hg:(l.take (i+1)).map Fb=(l.take i).map Fb++[Fb p]:=by rw[Z1,hp];simp
  refine Ug [.t (by simp;omega),.x (Sf hp),.k cf,.s s2] rfl ?_;exact rd (i+1) (by omega) h (by rw[hg];rfl)
 ·obtain rfl:i=l.length:=by omega
  rw[Q7];exact Uj [1] [0] [.f (by simp)] rfl
theorem Qub{np nd:Int}{l:List Pt}:U6 prog 27 [.one (.ow 0 0)] [tB np nd l] [.oi (l.length:Int)] [tB np nd l]:=by
 have hll:((l.map Fb).length:Int)=l.length:=by simp
 refine Fv func27 rfl ?_;exact Uj [] [0] [.r 7 (eI hll)] rfl
theorem Qgh{np nd:Int}{l:List Pt}:U6 prog 62 [.one (.ow 0 0)] [tB np nd l] [.one (.ow 1 0)] [tB np nd l,tB np nd l]:=by
 refine Fv func62 rfl ?_;exact Uj [] [0,1] [] rfl
def Od(l:List (Pt×Pt)):Uu:=l.map Qcz
theorem Qoi{l m:Uu}(h:l=m):TV.one (LV.row l)=.one (.row m):=h ▸ rfl
theorem oz{P:Program}[Mo P]{n:Nat}{Q:Exit->Sg->Uv->Prop}{L L':Sg}{B B':Uv}(d off T sz:Nat){it:List It}(hs:Rm it=true)(h:cQ (P:=P) d L B [.oc d off T sz]=some (L',B',[],[]))(k:AK P n Q it L' B'):AK P n Q it L B:=AK.sub (EY h EqOk.nil) hs k
theorem Qm3{a b:Pt}{t:Tm}(ha:Sc a.c)(hb:Sc b.c)(ht:Va t):Ul 255 [.oi 2,.agg (ta t),.one (.row [Fb a,Fb b])] [.agg (Lx (D2 (Fq t) a b)),.oi 0]:=by
 have h1:=Ng hb ha;have h2:=Nh hb ha;refine Fv func255 rfl ?_;refine Uf [.k Qbs,.f rfl] rfl ?_;refine Uk (S:=Nat) 3 (λL1 i=>(22,.v (.oi i))::L1) (λi=>[.blk 105 (ta t),.blk 99 zCt,.blk 99 [.int .i64 2,.int .i64 (if 1<=i then a.id else 0),.int .i64 (if 2<=i then b.id else 0),.int .i64 0,.int .i64 0,.nils,.int .i64 0]]) (λi=>2-i) (λi=>i<=2) 0 (Qh _) rfl rfl λi hi=>?_
 rcases(show i=0\/i=1\/i=2 by omega)with rfl|rfl|rfl
 ·refine Uf [.t rfl,.x (i:=0) (xs:=Fb a) rfl,.i 0] rfl ?_ (by simp[U3]);exact rd 1 (by omega) (by omega) rfl
 ·refine Uf [.t rfl,.x (i:=1) (xs:=Fb b) rfl,.i 1] rfl ?_ (by simp[U3]);exact rd 2 (by omega) (by omega) rfl
 ·exact Uh [.f rfl,.f rfl,.t rfl,.x (i:=1) (xs:=Fb b) rfl,.x (i:=0) (xs:=Fb a) rfl,.k (UZ hb.n ha.n hb.cb ha.cb),.x (i:=1) (xs:=Fb b) rfl,.x (i:=0) (xs:=Fb a) rfl,.k (UJ hb.n ha.n hb.cb ha.cb),.k wR,.k (TA (YU h1 h2).dp ht)] rfl
theorem Qfn{a:Tm}(ha:Va a){c:Cr}{r0 r1:Uu}:∀(k:Nat) (l:List Pt) (ms:List (Pt×Pt)),l.length≤k->l.length≤1000->ms.length+l.length≤1000000->(∀p∈l,Sc p.c)->U6 prog 254 [.one (.ow 0 0),.agg (ta a),.one (pts l)] [.blk 223 [.bool true,pl c.now.p,sg c.now.lo.num,mg c.now.lo.num,sg (c.now.lo.den:Int),mg (c.now.lo.den:Int),sg c.now.hi.num,mg c.now.hi.num,sg (c.now.hi.den:Int),mg (c.now.hi.den:Int),.row (C9 c.l),.int .i64 c.ev,.row r0,.row r1,.orow 1 10 none],.row false 323 10 (Od ms)] [.one (.row (U0 (M9 (Fq a) l).1))] [.blk 223 [.bool true,pl c.now.p,sg c.now.lo.num,mg c.now.lo.num,sg (c.now.lo.den:Int),mg (c.now.lo.den:Int),sg c.now.hi.num,mg c.now.hi.num,sg (c.now.hi.den:Int),mg (c.now.hi.den:Int),.row (C9 c.l),.int .i64 c.ev,.row r0,.row r1,.orow 1 10 none],.row false 323 10 (Od (ms++(M9 (Fq a) l).2))]
 := by
  intro k
  induction k with
  |zero=>?_
  |succ k ih=>?_
  all_goals
   intro l ms hk hn hms hl;have hcl:=G7 l;show U6 prog 254 [.one (.ow 0 0),.agg (ta a),.one (.row (U0 l))] _ _ _;by_cases hs:l.length<2
   ·rw[Cq _ hs,Zv];refine Fv func254 rfl ?_;exact Uj [] [0,1] [.t (by simp[hcl];omega)] rfl
   first
    |(exfalso;omega)
    |
     skip
     obtain⟨k1,k2,k3,k4⟩:=Qh7 hs hk;obtain⟨h,hh⟩:=nmE ((l.length+1) / 2);obtain⟨u,hu,hul,_⟩:=Mg (Fq a) k (l.take ((l.length+1) / 2)) k1 k3;obtain⟨v,hv,hvl,_⟩:=Mg (Fq a) k (l.drop ((l.length+1) / 2)) k2 k4;have g1:=Dq (Fq a) _ (l.take ((l.length+1) / 2)) (Qm _);have g2:=Dq (Fq a) _ (l.drop ((l.length+1) / 2)) (Qm _);have hlt:(l.take ((l.length+1) / 2)).length+(l.drop ((l.length+1) / 2)).length=l.length:=by rw[Qr,Q8];omega
     have c1:=ih (l.take ((l.length+1) / 2)) ms k1 (by omega) (by omega) λp hp=>hl p (Qn hp)
     have c2:=ih (l.drop ((l.length+1) / 2)) (ms++(M9 (Fq a) (l.take ((l.length+1) / 2))).2) k2 (by omega) (by rw[Qx];omega) λp hp=>hl p (Qz hp)
     have hpl:=Ox (Fq a) hs hu hv;rw[hpl];rw[hu]at c1;rw[hv]at c2;generalize (M9 (Fq a) (l.take ((l.length+1) / 2))).2=G1 at *;generalize (M9 (Fq a) (l.drop ((l.length+1) / 2))).2=G2 at *;have hsu:=hl u (Qn hul);have hsv:=hl v (Qz hvl);have cb:=Qmr (t:=a) hsu hsv ha;have htd:((l.length:Int)+1).tdiv 2=(((l.length+1) / 2:Nat):Int):=rfl;have hg:∀m,Od (ms++(G1++G2++[m]))=Od ((ms++G1)++G2)++[Qcz m]:=λm=>by simp[Od]
     have hml:(Od ((ms++G1)++G2)).length=ms.length+G1.length+G2.length:=by simp[Od];omega
     have hml2:(Od (ms++(G1++G2))).length=ms.length+G1.length+G2.length:=by simp[Od];omega
     have h5:=eq_true (p:=∀z,z∈U0 l->z.length=ti40.sz) (YA l);have e1:(U0 l).take ((l.length+1) / 2)=U0 (l.take ((l.length+1) / 2)):=by simp[U0,Jw]
     have e2:(U0 l).drop ((l.length+1) / 2)=U0 (l.drop ((l.length+1) / 2)):=by simp[U0,Vi]
     unfold PT;refine Fv func254 rfl ?_;by_cases hb:Cd (Fq a) u v=true
     ·rw[if_pos hb,hg];exact Uj [] [0,1] [.f (by simp[hcl];omega),.r 17 (eI (b:=(((l.length+1) / 2:Nat):Int)) (by rw[hcl];rfl)),.i ((l.length+1) / 2),.r 22 (Qoi e1),.c [0,1] c1,.i ((l.length+1) / 2),.r 28 (Qoi e2),.c [0,1] c2,.x (i:=0) (l:=U0 [u]) (xs:=Fb u) rfl,.x (i:=0) (l:=U0 [v]) (xs:=Fb v) rfl,.k cb,.f (by rw[hb];rfl),.x (i:=0) (l:=U0 [u]) (xs:=Fb u) rfl,.x (i:=0) (l:=U0 [v]) (xs:=Fb v) rfl,.s (sz:=10) (l:=[Qcz (u,v)]) (λc hc=>by rw[Qk.1 hc];rfl),.i 1] rfl (by simp[U3,G7,hml2,h5];omega)
     ·have hb:Cd (Fq a) u v=false:=by simpa using hb
      rw[if_neg (by simp[hb]),hg];exact Uj [] [0,1] [.f (by simp[hcl];omega),.r 17 (eI (b:=(((l.length+1) / 2:Nat):Int)) (by rw[hcl];rfl)),.i ((l.length+1) / 2),.r 22 (Qoi e1),.c [0,1] c1,.i ((l.length+1) / 2),.r 28 (Qoi e2),.c [0,1] c2,.x (i:=0) (l:=U0 [u]) (xs:=Fb u) rfl,.x (i:=0) (l:=U0 [v]) (xs:=Fb v) rfl,.k cb,.t (by rw[hb];rfl),.x (i:=0) (l:=U0 [v]) (xs:=Fb v) rfl,.x (i:=0) (l:=U0 [u]) (xs:=Fb u) rfl,.s (sz:=10) (l:=[Qcz (v,u)]) (λc hc=>by rw[Qk.1 hc];rfl),.i 1] rfl (by simp[U3,G7,hml2,h5];omega)
theorem IM{l:List Pt}{a:Tm}{c:Cr}{r1:Uu×Uu}(hl:∀p∈l,Sc p.c)(hn:l.length≤1000)(ha:Va a):U6 prog 196 [.one (.ow 0 0),.agg (ta a)] [.blk 223 (Tt c (U0 l) r1)] [.one (.row (Fl (xF l a)))] [.blk 223 (Tt c (U0 l) (pP l a))]:=by
 have cp:=Qfn (r0:=U0 l) (c:=c) (r1:=r1.1) ha l.length l [] (Qm _) hn (by show 0+l.length≤1000000;omega) hl;have hms:=Dq (Fq a) l.length l (Qm _);unfold xF pP;obtain⟨M,hM⟩:=nmE ((M9 (Fq a) l).2);have hmm:∀m∈M,Sc m.1.c/\Sc m.2.c:=λm hm=>by
  rw[hM]at hm;exact⟨hl _ (JV m hm).1,hl _ (JV m hm).2⟩
 rw[<-hM]at cp hms ⊢;rw[Yk]at cp;have hgl:(Od M).length=M.length:=by simp[Od]
 refine Fv func196 rfl ?_;refine Uf [] rfl ?_;refine oz 0 14 323 10 rfl rfl ?_;refine Uf [.k Iq,.c [0,2] cp,.o 5 99 7] rfl ?_;refine Uk (S:=Nat) 4 (λL1 i=>(29,.v (.oi i))::(5,.v (.one (.orow 3 7 none)))::L1) (λi=>[.blk 223 [.bool true,pl c.now.p,sg c.now.lo.num,mg c.now.lo.num,sg (c.now.lo.den:Int),mg (c.now.lo.den:Int),sg c.now.hi.num,mg c.now.hi.num,sg (c.now.hi.den:Int),mg (c.now.hi.den:Int),.row (C9 c.l),.int .i64 c.ev,.row (U0 l),.row (U0 (M9 (Fq a) l).1),.orow 2 10 none],.blk 105 (ta a),.row false 323 10 (Od M),.row false 99 7 (Fl ((M.map λm=>D2 (Fq a) m.1 m.2).take i))]) (λi=>M.length-i) (λi=>i<=M.length) 0 (Qh _) rfl rfl λi hi=>?_
 by_cases hlt:i<M.length
 ·obtain⟨m,hm⟩:=gxE (l:=M) (i:=i) hlt;obtain⟨s1,s2⟩:=hmm m (Qa hm);have hg:(Od M)[i]? = some (Qcz m):=Gx hm;have hq:∀y∈[Lx (D2 (Fq a) m.1 m.2)],y.length=7:=λy hy=>by rw[Qk.1 hy];rfl
  have ht:(M.map λm=>D2 (Fq a) m.1 m.2).take (i+1)=(M.map λm=>D2 (Fq a) m.1 m.2).take i++[D2 (Fq a) m.1 m.2]:=by
   rw[Z1,Za,hm];rfl
  refine go tt [.T,.i i,.x hg,.i 0,.i 1,.k (Qm3 s1 s2 ha),.s (sz:=7) hq] rfl (by simp[U3,hgl,Be];omega) ?_;exact rd (i+1) (by omega) hlt (by rw[ht];simp[Fl];rfl)
 ·obtain rfl:i=M.length:=by omega
  rw[Qo (by simp)];exact Uj [2,3] [0] [.F] rfl
def Qxq(l:List Pt)(a:Tm):Cr:=⟨a,(Fw (xF l a)).map fresh,0⟩
theorem Qni{t:Rat}{l:List Pt}{K:Nat}{c c':Cr}{r1 r1':Uu×Uu}{n:Int}(ht:Qs 1640000 t)(hl:∀p∈l,Sc p.c)(hn:l.length≤1000)(hc:CrOk c)(hev:0≤c.ev/\c.ev+K≤1000000000000000000)(h:Fo c.now t≤0)(hg:WE (xF l) (pP l) t K c r1 0=some (c',r1',n)) :
 U6 prog 417 [.one (.ow 0 0),.agg (rl t)] [.blk 223 (Tt c (U0 l) r1)] [.oi n,.oi 0] [.blk 223 (Tt c' (U0 l) r1')]:=by
 have cg:=Qx3 (T:=223) (r0:=U0 l) ht (pK hl hn) (λa c r1 ha _=>IM (c:=c) (r1:=r1) hl hn ha) hc hev h hg;refine Fv func417 rfl ?_;exact Uj [] [0] [.k (Nx (ht.mono (by decide))),.c [0] cg] rfl
theorem Qnk{c:Cr}{r0 r2:Uu}{w:Pt}:U6 prog 84 [.one (.ow 0 0)] [.blk 223 (Tt c r0 ([Fb w],r2))] [.oi w.id,.one (.bool true)] [.blk 223 (Tt c r0 ([Fb w],r2))]:=by
 refine Fv func84 rfl ?_;exact Uj [] [0] [.f rfl,.x (i:=0) (xs:=Fb w) rfl] rfl
theorem Qfq{c:Cr}{r0 r2:Uu}:U6 prog 84 [.one (.ow 0 0)] [.blk 223 (Tt c r0 ([],r2))] [.oi 0,.one (.bool false)] [.blk 223 (Tt c r0 ([],r2))]:=by
 refine Fv func84 rfl ?_;exact Uj [] [0] [.t rfl] rfl
end Orr
namespace Orr
open Go Go.Proofs Tryz
set_option maxRecDepth 10000
theorem US(x:Nat):(Bv (Gj x)).length=(Gj x).length:=Tz _
theorem Qc0(z:Int):∀c∈[[LV.int .i64 z]],c.length=1:=λc hc=>by rw[Qk.1 hc];rfl
theorem Qyb{x:Nat}(h:x<=1000000000):(Gj x).length<=3:=Qb5 (by omega)
theorem tdn(n:Nat):((n:Nat):Int).tdiv 10000=((n / 10000:Nat):Int):=rfl
theorem WP(n:Nat):((n:Nat):Int).tdiv 2=((n / 2:Nat):Int):=rfl
theorem UU{x mu c0:Nat}(hx:sz x<=100000000)(hmu:mu<=65536)(hc:c0<=1000000000):Ul 180 [.one (nd x),.oi mu,.oi c0] [.one (nd (x*mu+c0))]:=by
 have hxl:=Qc (Mq x) hx;have hll:=US x;show Ul 180 [.one (.row (Bv (Gj x))),.oi mu,.oi c0] _;refine Fv func180 rfl ?_;refine Ug [.r 11 (eI (b:=(((Gj x).length+2:Nat):Int)) (by rw[hll];omega)),.i 0,.i ((Gj x).length+2)] rfl ?_;refine Uk (S:=Nat×Nat×Uq) 1 (λL1 s=>(8,.v (.oi (s.1:Int)))::(7,.v (.one (.orow 0 1 none)))::(2,.v (.oi (s.2.1:Int)))::L1.filter (λx=>x.1 != 12)) (λs=>[.row false 3 1 (Bv s.2.2)]) (λs=>((Gj x).length-s.1)*4+(Gj s.2.1).length) (λs=>Dg s.2.2/\s.2.2.length=s.1/\Tj s.2.2+s.2.1*10000^s.1=Tj ((Gj x).take s.1)*mu+c0/\(s.1<=(Gj x).length\/s.1+(Gj s.2.1).length<=(Gj x).length+3)/\s.2.1<=1000000000) (0,c0,[]) ⟨Dg.nil,rfl,by simp[Tj],.inl (Qh _),hc⟩ rfl rfl λs hs=>?_
 obtain⟨i,c,o⟩:=s;obtain⟨hp0,hp1,hp2,hp3,hp4⟩:=hs;dsimp only at hp0 hp1 hp2 hp3 hp4 ⊢;have hcl:=Qyb (x:=c) hp4;by_cases h1:i<(Gj x).length
 ·obtain⟨d,hd⟩:=gxE (l:=(Gj x)) (i:=i) h1;have hd9:=Ch x d (Qa hd);have hdm:d*mu<=9999*65536:=Zd (by omega) hmu;have hc3:=Qyb (x:=(c+d*mu) / 10000) (by omega);have hol:(Bv o).length=i:=by rw[Tz,hp1]
  refine go tt [.g 17 true Un,.t rfl,.T,.x (G0 hd),.r 33 (eI (b:=((d*mu:Nat):Int)) (by simp)),.r 34 (eI (b:=((c+d*mu:Nat):Int)) (by omega)),.r 37 (eI (b:=(((c+d*mu) % 10000:Nat):Int)) (by rfl)),.s (sz:=1) (Qc0 _),.r 41 (eI (b:=(((c+d*mu) / 10000:Nat):Int)) (by rfl))] rfl (by simp[U3,hol,tdn,WP,-Int.natCast_add,-Int.natCast_mul];omega) ?_;exact rd (i+1,(c+d*mu) / 10000,o++[(c+d*mu) % 10000]) (by dsimp only;omega) ⟨hp0.snoc (Nat.mod_lt _ (by decide)),by dsimp only;rw[List.length_append];show o.length+1=_;omega,by
   dsimp only;rw[Pk,Tv hd,hp1,Nat.pow_succ];simp only[Tj,Nat.mul_zero,Nat.add_zero];have:=OQ (d:=d) (m:=mu) rfl hp2;rw[this];grind,.inl (by dsimp only;omega),by dsimp only;omega⟩ (by rw[Ig];rfl)
 ·by_cases h2:0<c
  ·have hdc:=Ie (x:=c) (by omega);have hol:(Bv o).length=i:=by rw[Tz,hp1]
   refine go tt [.g 17 false Um,.T,.F,.r 37 (eI (b:=((c % 10000:Nat):Int)) (by rfl)),.s (sz:=1) (Qc0 _),.r 41 (eI (b:=((c / 10000:Nat):Int)) (by rfl))] rfl (by simp[U3,hol,tdn,WP,-Int.natCast_add];omega) ?_;exact rd (i+1,c / 10000,o++[c % 10000]) (by dsimp only;omega) ⟨hp0.snoc (Nat.mod_lt _ (by decide)),by dsimp only;rw[List.length_append];show o.length+1=_;omega,by
    dsimp only;rw[Pk,hp1,Nat.pow_succ];simp only[Tj,Nat.mul_zero,Nat.add_zero];have:=OQ (d:=0) (m:=mu) rfl hp2;simp only[Nat.zero_mul,Nat.mul_zero,Nat.add_zero]at this;rw[this,List.take_of_length_le (by omega),List.take_of_length_le (by omega)],.inr (by dsimp only;omega),by dsimp only;omega⟩ (by rw[Ig];rfl)
  ·have cc:=HF hp0;rw[show Tj o=x*mu+c0 from by
    have h:=hp2;rw[Qo (by omega),Rf,show c=0 by omega]at h;omega]at cc
   exact Uh [.g 17 false Um,.F,.k cc] rfl
theorem Qdr{l:Uq}{j d:Nat}(h:l[j]? = some d):val (l.drop j)=d+4294967296*val (l.drop (j+1)):=by
 have hi:=(Qe.1 h).1;rw[Zp hi,(Qe.1 h).2];rfl
theorem PW:∀(l:Uq) (j:Nat),val (l.drop j)<=val l
 |l,0=>Qm _
 | [],j+1=>by simp
 |
  x::l,j+1=>by
  have:=PW l j;rw[Wh];simp only[val];omega
theorem Qmw{l:Uq}(hu:∀u∈l,u<4294967296)(hl:l.length≤1099511627776)(hx:sz (val l)≤100000000):Ul 146 [lr l] [.one (nd (val l))]:=by
 have hll:=U7 l;show Ul 146 [.one (.row (lm l))] _;refine Fv func146 rfl ?_;refine Ug [.z 3,.r 7 (eI (b:=((l.length:Nat):Int)-1) (by rw[hll]))] rfl ?_;refine Uk (S:=Nat×Uq) 0 (λL1 s=>(4,.v (.oi ((s.1:Int)-1)))::(3,.v (.one (.row (Bv s.2))))::L1) (λ_=>[]) (λs=>s.1) (λs=>s.1<=l.length/\s.2=Gj (val (l.drop s.1))) (l.length,[]) ⟨Nat.le_refl _,by dsimp only;rw[List.drop_eq_nil_of_le (Nat.le_refl _)];show []=Gj 0;rw[Hx]⟩ rfl rfl λs hs=>?_
 obtain⟨j,o⟩:=s;obtain⟨hj,ho⟩:=hs;dsimp only at hj ho ⊢;subst ho;cases j with
 |zero=>exact Uh [.f (by simp)] rfl (by rw[Xy];rfl) trivial
 |
  succ j =>
  obtain⟨d,hd⟩:=gxE (l:=l) (i:=j) (by omega);have hd9:=hu d (Qa hd);have hdd:=Qdr hd;have hle:=PW l j;have hs2:sz (val (l.drop (j+1))*65536+d / 65536)<=100000000:=Qc (Ri (by omega)) hx;have hs1:sz (val (l.drop (j+1)))<=100000000:=Qc (Ri (by omega)) hx;have c1:=UU (x:=val (l.drop (j+1))) (mu:=65536) (c0:=d / 65536) hs1 (by omega) (by omega);have c2:=UU (x:=val (l.drop (j+1))*65536+d / 65536) (mu:=65536) (c0:=d % 65536) hs2 (by omega) (by omega);have ej:((j+1:Nat):Int)-1=(j:Int):=by omega
  have e2:(val (l.drop (j+1))*65536+d / 65536)*65536+d % 65536=val (l.drop j):=by rw[hdd];omega
  rw[e2]at c2;rw[ej];refine go tt [.T,.x (G6 hd),.r 17 (Ei (b:=((d / 65536:Nat):Int)) (by rfl)),.k c1,.x (G6 hd),.r 25 (Ei (b:=((d % 65536:Nat):Int)) (by rfl)),.k c2] rfl (by simp[U3,IntKind.bits];omega) ?_;exact rd (j,Gj (val (l.drop j))) (by dsimp only;omega) ⟨by dsimp only;omega,rfl⟩ rfl
theorem pC{x y:Nat}(hx:sz x<=200000000)(hy:sz y<=200000000):Ul 187 [.one (nd x),.one (nd y)] [.oi (ZR x y)]:=by
 have hxl:=Qc (Mq x) hx;have hyl:=Qc (Mq y) hy;have lx:=US x;have ly:=US y;show Ul 187 [.one (.row (Bv (Gj x))),.one (.row (Bv (Gj y)))] _;refine Fv func187 rfl ?_;by_cases hl:(Gj x).length=(Gj y).length
 ·refine Ug [.f (by simp;omega),.r 18 (eI (b:=((Gj x).length:Int)-1) (by rw[lx]))] rfl ?_;refine Uk (S:=Nat) 0 (λL1 j=>(5,.v (.oi ((j:Int)-1)))::L1) (λ_=>[]) (λj=>j) (λj=>j<=(Gj x).length/\(Gj x).drop j=(Gj y).drop j) (Gj x).length ⟨Qm _,by rw[Yw (Qm _),Yw (by omega)]⟩ rfl rfl λj hs=>?_
  obtain⟨hj,hp⟩:=hs;cases j with
  |
   zero =>
   have hxy:x=y:=by rw[Xy,Xy]at hp;rw[<-Rf x,<-Rf y,hp]
   exact Uh [.f (by simp)] rfl (by rw[eM hxy]) trivial
  |
   succ j =>
   obtain⟨d,hd⟩:=gxE (l:=(Gj x)) (i:=j) (by omega);obtain⟨e,he⟩:=gxE (l:=(Gj y)) (i:=j) (by omega);have ej:((j+1:Nat):Int)-1=(j:Int):=by omega
   rw[ej];by_cases h2:d=e
   ·refine Ug [.T,.x (G0 hd),.x (G0 he),.f (by simp[h2])] rfl ?_;exact rd j (by omega) ⟨by omega,by rw[Zp (by omega:j<(Gj x).length),Zp (by omega:j<(Gj y).length),hp,(Qe.1 hd).2,(Qe.1 he).2,h2]⟩ rfl
   ·by_cases h3:d<e
    ·have hxy:=CY (Ch x) hd he hp h3;rw[Rf,Rf]at hxy;exact Uh [.T,.x (G0 hd),.x (G0 he),.t (by simp;omega),.x (G0 hd),.x (G0 he),.T] rfl (by rw[MW hxy]) trivial
    ·have hxy:=CY (Ch y) he hd hp.symm (by omega);rw[Rf,Rf]at hxy;exact Uh [.T,.x (G0 hd),.x (G0 he),.t (by simp;omega),.x (G0 hd),.x (G0 he),.F] rfl (by rw[MK hxy]) trivial
 ·by_cases hlt:(Gj x).length<(Gj y).length
  ·exact Uh [.t (by simp;omega),.T] rfl (by rw[MW (uK hlt)]) trivial
  ·exact Uh [.t (by simp;omega),.F] rfl (by rw[MK (uK (by omega))]) trivial
theorem YK{o c s P V:Nat}(h:o+c*P=V):o+P*((c+s) % 10000)+(c+s) / 10000*(P*10000)=V+P*s:=by
 have e:=Xf (c+s) 10000;generalize (c+s) / 10000=q at *;generalize (c+s) % 10000=r at *;have e2:P*(c+s)=P*(10000*q+r):=by rw[e]
 grind
theorem I7{l:Uq}{i:Nat}(h:l.length<=i):Tj (l.take (i+1))=Tj (l.take i):=by rw[Qo (by omega),Qo h]
theorem aK{l:Uq}{p v u:Nat}(h:l[p]? = some v):Tj (l.set p u)+10000^p*v=Tj l+10000^p*u:=by
 have hp:=(Qe.1 h).1;rw[MH (l.set p u) p (by rw[Xe];omega),MH l p (by omega),XJ h,HL hp,List.take_set_of_le (Qm _)];simp only[Tj];generalize 10000^p=P;grind
theorem Ih{l:Uq}{p u:Nat}(h:p<l.length):Tj ((l.set p u).take (p+1))=Tj (l.take p)+10000^p*u:=by
 rw[Tv (l:=l.set p u) (i:=p) (x:=u) (by simp[h]),List.take_set_of_le (Qm _)]
structure AddI(x y:Nat)(s:Nat×Nat×List Nat):Prop where
 d:Dg s.2.2
 l:s.2.2.length=s.1
 v:Tj s.2.2+s.2.1*10000^s.1=Tj ((Gj x).take s.1)+Tj ((Gj y).take s.1)
 c:s.2.1<=1
 b:s.1<=max (Gj x).length (Gj y).length\/s.1=max (Gj x).length (Gj y).length+1/\10000^(max (Gj x).length (Gj y).length)<=x+y/\s.2.1=0
theorem Qte{x y:Nat}(hx:sz x<=200000000)(hy:sz y<=200000000):Ul 186 [.one (nd x),.one (nd y)] [.one (nd (x+y))]:=by
 have hxl:=Qc (Mq x) hx;have hyl:=Qc (Mq y) hy;have lx:=US x;have ly:=US y;show Ul 186 [.one (.row (Bv (Gj x))),.one (.row (Bv (Gj y)))] _;refine Fv func186 rfl ?_;refine Uf [.o 5 3 1] rfl ?_;refine Uk (S:=Nat×Nat×Uq) 1 (λL1 s=>(7,.v (.oi (s.1:Int)))::(6,.v (.oi (s.2.1:Int)))::(5,.v (.one (.orow 0 1 none)))::L1) (λs=>[.row false 3 1 (Bv s.2.2)]) (λs=>(max (Gj x).length (Gj y).length-s.1)*2+s.2.1) (AddI x y) (0,0,[]) ⟨Dg.nil,rfl,by simp[Tj],by decide,.inl (Qh _)⟩ rfl rfl λs hs=>?_
 obtain⟨i,c,o⟩:=s;obtain⟨hp0,hp1,hp2,hp3,hp4⟩:=hs;dsimp only at hp0 hp1 hp2 hp3 hp4 ⊢;have hol:(Bv o).length=i:=by rw[Tz,hp1]
 by_cases h1:i<(Gj x).length
 ·obtain⟨d,hd⟩:=gxE (l:=(Gj x)) (i:=i) h1;have hd9:=Ch x d (Qa hd);by_cases h2:i<(Gj y).length
  ·obtain⟨e,he⟩:=gxE (l:=(Gj y)) (i:=i) h2;have he9:=Ch y e (Qa he);refine go tt [.g 12 true Un,.g 18 true rfl,.t rfl,.T,.x (G0 hd),.r 33 (eI (b:=((c+d:Nat):Int)) (by omega)),.T,.x (G0 he),.r 43 (eI (b:=((c+(d+e):Nat):Int)) (by omega)),.r 46 (eI (b:=(((c+(d+e)) % 10000:Nat):Int)) (by rfl)),.s (sz:=1) (Qc0 _),.r 50 (eI (b:=(((c+(d+e)) / 10000:Nat):Int)) (by rfl))] rfl (by simp[U3,hol,tdn,WP,-Int.natCast_add];omega) ?_;exact rd (i+1,(c+(d+e)) / 10000,o++[(c+(d+e)) % 10000]) (by dsimp only;omega) ⟨hp0.snoc (Nat.mod_lt _ (by decide)),by dsimp only;rw[List.length_append];show o.length+1=_;omega,by
    dsimp only;rw[Pk,hp1,Nat.pow_succ];simp only[Tj,Nat.mul_zero,Nat.add_zero];have:=YK (s:=d+e) hp2;rw[this,Tv hd,Tv he];grind,by dsimp only;omega,.inl (by dsimp only;omega)⟩ (by rw[Ig];rfl)
  ·refine go tt [.g 12 true Un,.g 18 true rfl,.t rfl,.T,.x (G0 hd),.r 33 (eI (b:=((c+d:Nat):Int)) (by omega)),.F,.r 46 (eI (b:=(((c+d) % 10000:Nat):Int)) (by rfl)),.s (sz:=1) (Qc0 _),.r 50 (eI (b:=(((c+d) / 10000:Nat):Int)) (by rfl))] rfl (by simp[U3,hol,tdn,WP,-Int.natCast_add];omega) ?_;exact rd (i+1,(c+d) / 10000,o++[(c+d) % 10000]) (by dsimp only;omega) ⟨hp0.snoc (Nat.mod_lt _ (by decide)),by dsimp only;rw[List.length_append];show o.length+1=_;omega,by
    dsimp only;rw[Pk,hp1,Nat.pow_succ];simp only[Tj,Nat.mul_zero,Nat.add_zero];have:=YK (s:=d) hp2;rw[this,Tv hd,I7 (l:=Gj y) (by omega)];grind,by dsimp only;omega,.inl (by dsimp only;omega)⟩ (by rw[Ig];rfl)
 ·by_cases h2:i<(Gj y).length
  ·obtain⟨e,he⟩:=gxE (l:=(Gj y)) (i:=i) h2;have he9:=Ch y e (Qa he);refine go tt [.g 12 false Um,.g 18 true Un,.t rfl,.F,.T,.x (G0 he),.r 43 (eI (b:=((c+e:Nat):Int)) (by omega)),.r 46 (eI (b:=(((c+e) % 10000:Nat):Int)) (by rfl)),.s (sz:=1) (Qc0 _),.r 50 (eI (b:=(((c+e) / 10000:Nat):Int)) (by rfl))] rfl (by simp[U3,hol,tdn,WP,-Int.natCast_add];omega) ?_;exact rd (i+1,(c+e) / 10000,o++[(c+e) % 10000]) (by dsimp only;omega) ⟨hp0.snoc (Nat.mod_lt _ (by decide)),by dsimp only;rw[List.length_append];show o.length+1=_;omega,by
    dsimp only;rw[Pk,hp1,Nat.pow_succ];simp only[Tj,Nat.mul_zero,Nat.add_zero];have:=YK (s:=e) hp2;rw[this,Tv he,I7 (l:=Gj x) (by omega)];grind,by dsimp only;omega,.inl (by dsimp only;omega)⟩ (by rw[Ig];rfl)
  ·by_cases h3:0<c
   ·refine go tt [.g 12 false Um,.g 18 false Um,.T,.F,.F,.r 46 (eI (b:=((c % 10000:Nat):Int)) (by rfl)),.s (sz:=1) (Qc0 _),.r 50 (eI (b:=((c / 10000:Nat):Int)) (by rfl))] rfl (by simp[U3,hol,tdn,WP,-Int.natCast_add];omega) ?_;exact rd (i+1,c / 10000,o++[c % 10000]) (by dsimp only;omega) ⟨hp0.snoc (Nat.mod_lt _ (by decide)),by dsimp only;rw[List.length_append];show o.length+1=_;omega,by
     dsimp only;rw[Pk,hp1,Nat.pow_succ];simp only[Tj,Nat.mul_zero,Nat.add_zero];have:=YK (s:=0) hp2;rw[Nat.add_zero,Nat.mul_zero,Nat.add_zero]at this;rw[this,I7 (l:=Gj y) (by omega),I7 (l:=Gj x) (by omega)],by dsimp only;omega,.inr ⟨by dsimp only;omega,by
      have h:=hp2;rw[List.take_of_length_le (by omega),List.take_of_length_le (by omega),Rf,Rf,show c=1 by omega,Nat.one_mul,show i=(max (Gj x).length (Gj y).length) by omega]at h;omega,by dsimp only;omega⟩⟩ (by rw[Ig];rfl)
   ·have hv:Tj o=x+y:=by
     have h:=hp2;rw[Qo (by omega),Qo (by omega),Rf,Rf,show c=0 by omega]at h;omega
    have hfin:o=Gj (x+y):=by
     have h:=Qg0 (o:=o) hp0;rw[hv]at h;refine h ?_;have m1:=XQ (x:=x) (y:=x+y) (by omega);have m2:=XQ (x:=y) (y:=x+y) (by omega);rcases hp4 with hb|⟨_,hb,_⟩
     ·omega
     ·have:=Qb4 hb;omega
    exact Uh [.g 12 false Um,.g 18 false Um,.F] rfl (by rw[hfin];rfl) trivial
theorem YF{o b a c P u d e c':Nat}(h:o+b=a+c*P)(hs:u+e+c=d+10000*c'):(o+P*u)+(b+P*e)=(a+P*d)+c'*(P*10000):=by
 have e2:P*(u+e+c)=P*(d+10000*c'):=by rw[hs]
 grind
theorem QT(o:Uq)(i u:Nat):Bv (o.set i u)=(Bv o).set i [.int .i64 (u:Int)]:=by simp[Bv,Vu]
theorem pO{x y:Nat}(hx:sz x<=200000000)(hy:sz y<=200000000)(hyx:y<=x):Ul 188 [.one (nd x),.one (nd y)] [.one (nd (x-y))]:=by
 have hxl:=Qc (Mq x) hx;have hyl:=Qc (Mq y) hy;have lx:=US x;have ly:=US y;have hmy:=XQ hyx;show Ul 188 [.one (.row (Bv (Gj x))),.one (.row (Bv (Gj y)))] _;refine Fv func188 rfl ?_;refine Ug [.i (Bv (Gj x)).length,.i (Bv (Gj x)).length] rfl ?_;rw[lx,show List.replicate (Gj x).length [LV.int .i64 0]=Bv (List.replicate (Gj x).length 0) from by simp[Bv]];refine Uk (S:=Nat×Nat×Uq) 1 (λL1 s=>(14,.v (.oi (s.1:Int)))::(6,.v (.oi (s.2.1:Int)))::L1) (λs=>[.row false 3 1 (Bv s.2.2)]) (λs=>(Gj x).length-s.1) (λs=>s.1<=(Gj x).length/\s.2.2.length=(Gj x).length/\Dg s.2.2/\Tj (s.2.2.take s.1)+Tj ((Gj y).take s.1)=Tj ((Gj x).take s.1)+s.2.1*10000^s.1/\s.2.1<=1) (0,0,List.replicate (Gj x).length 0) ⟨Qh _,Jd ..,Dg.zeros _,by simp[Tj],Qh _⟩ rfl rfl λs hs=>?_
 obtain⟨i,c,o⟩:=s;obtain⟨hp0,hp1,hp2,hp3,hp4⟩:=hs;dsimp only at hp0 hp1 hp2 hp3 hp4 ⊢;have hol:(Bv o).length=(Gj x).length:=by rw[Tz,hp1]
 by_cases h1:i<(Gj x).length
 ·obtain⟨d,hd⟩:=gxE (l:=(Gj x)) (i:=i) h1;have hd9:=Ch x d (Qa hd);by_cases h2:i<(Gj y).length
  ·obtain⟨e,he⟩:=gxE (l:=(Gj y)) (i:=i) h2;have he9:=Ch y e (Qa he);by_cases h3:d<c+e
   ·refine go tt [.T,.x (G0 hd),.T,.x (G0 he),.T,.r 36 (eI (b:=((d+10000-c-e:Nat):Int)) (by omega)),.i i] rfl (by simp[U3,hol,tdn,WP,-Int.natCast_add];omega) ?_;exact rd (i+1,1,o.set i (d+10000-c-e)) (by dsimp only;omega) ⟨by dsimp only;omega,by dsimp only;rw[List.length_set];exact hp1,hp2.set (by omega),by
     dsimp only;rw[Ih (by omega),Tv hd,Tv he,Nat.pow_succ];exact YF hp3 (u:=d+10000-c-e) (d:=d) (e:=e) (c':=1) (by omega),by dsimp only;omega⟩ (by rw[QT];rfl)
   ·refine go tt [.T,.x (G0 hd),.T,.x (G0 he),.r 32 (eI (b:=((d-c-e:Nat):Int)) (by omega)),.F,.i i] rfl (by simp[U3,hol,tdn,WP,-Int.natCast_add];omega) ?_;exact rd (i+1,0,o.set i (d-c-e)) (by dsimp only;omega) ⟨by dsimp only;omega,by dsimp only;rw[List.length_set];exact hp1,hp2.set (by omega),by
     dsimp only;rw[Ih (by omega),Tv hd,Tv he,Nat.pow_succ];exact YF hp3 (u:=d-c-e) (d:=d) (e:=e) (c':=0) (by omega),by dsimp only;omega⟩ (by rw[QT];rfl)
  ·have hy0:Tj ((Gj y).take (i+1))=Tj ((Gj y).take i)+10000^i*0:=by rw[I7 (by omega),Y0,Xo]
   by_cases h3:d<c
   ·refine go tt [.T,.x (G0 hd),.F,.T,.r 36 (eI (b:=((d+10000-c:Nat):Int)) (by omega)),.i i] rfl (by simp[U3,hol,tdn,WP,-Int.natCast_add];omega) ?_;exact rd (i+1,1,o.set i (d+10000-c)) (by dsimp only;omega) ⟨by dsimp only;omega,by dsimp only;rw[List.length_set];exact hp1,hp2.set (by omega),by
     dsimp only;rw[Ih (by omega),Tv hd,hy0,Nat.pow_succ];exact YF hp3 (u:=d+10000-c) (d:=d) (e:=0) (c':=1) (by omega),by dsimp only;omega⟩ (by rw[QT];rfl)
   ·refine go tt [.T,.x (G0 hd),.r 22 (eI (b:=((d-c:Nat):Int)) (by omega)),.F,.F,.i i] rfl (by simp[U3,hol,tdn,WP,-Int.natCast_add];omega) ?_;exact rd (i+1,0,o.set i (d-c)) (by dsimp only;omega) ⟨by dsimp only;omega,by dsimp only;rw[List.length_set];exact hp1,hp2.set (by omega),by
     dsimp only;rw[Ih (by omega),Tv hd,hy0,Nat.pow_succ];exact YF hp3 (u:=d-c) (d:=d) (e:=0) (c':=0) (by omega),by dsimp only;omega⟩ (by rw[QT];rfl)
 ·have hi:i=(Gj x).length:=by omega
  have hv:Tj o=x-y:=by
   have h:=hp3;rw[Qo (by omega),Qo (by omega),Qo (by omega),Rf,Rf]at h;have hlt:=CH hp2;rw[hp1,<-hi]at hlt;have hc0:c=0:=by
    rcases Q3 c with h0|h0
    ·exact h0
    ·exfalso;have:c=1:=by omega
     rw[this,Wn]at h;omega
   rw[hc0]at h;omega
  have cc:=HF hp2;rw[hv]at cc;exact Uh [.F,.k cc] rfl
theorem CU{o o2 c P u v s V:Nat}(h:o+c*P=V)(hs:o2+P*v=o+P*u){q:Nat}(hu:u+10000*q=v+c+s):o2+q*(P*10000)=V+P*s:=by
 have e2:P*(u+10000*q)=P*(v+c+s):=by rw[hu]
 grind
theorem Qyc(S:Nat):S % 10000+10000*(S / 10000)=S:=We S 10000
structure MulI(x y i d:Nat)(s:Nat×Nat×List Nat):Prop where
 l:s.2.2.length=(Gj x).length+(Gj y).length
 dg:Dg s.2.2
 v:Tj s.2.2+s.2.1*10000^(i+s.1)=Tj ((Gj x).take i)*y+10000^i*d*Tj ((Gj y).take s.1)
 c:s.2.1<10000
 b:s.1<=(Gj y).length/\(∀j v,i+(Gj y).length<=j->s.2.2[j]? = some v->v=0)\/s.1=(Gj y).length+1/\s.2.1=0/\∀j v,i+(Gj y).length+1<=j->s.2.2[j]? = some v->v=0
theorem Qtp{x y:Nat}(hx:sz x<=200000000)(hy:sz y<=200000000):Ul 145 [.one (nd x),.one (nd y)] [.one (nd (x*y))]:=by
 have hxl:=Qc (Mq x) hx;have hyl:=Qc (Mq y) hy;have lx:=US x;have ly:=US y;show Ul 145 [.one (.row (Bv (Gj x))),.one (.row (Bv (Gj y)))] _;refine Fv func145 rfl ?_;refine Ug [.r 14 (eI (b:=(((Gj x).length+(Gj y).length:Nat):Int)) (by rw[lx,ly];omega)),.i ((Gj x).length+(Gj y).length),.i ((Gj x).length+(Gj y).length)] rfl ?_;rw[show List.replicate ((Gj x).length+(Gj y).length) [LV.int .i64 0]=Bv (List.replicate ((Gj x).length+(Gj y).length) 0) from by simp[Bv]];refine Uk (S:=Nat×Uq) 1 (λL1 s=>(18,.v (.oi (s.1:Int)))::L1) (λs=>[.row false 3 1 (Bv s.2)]) (λs=>(Gj x).length-s.1) (λs=>s.1<=(Gj x).length/\s.2.length=(Gj x).length+(Gj y).length/\Dg s.2/\Tj s.2=Tj ((Gj x).take s.1)*y/\∀j v,s.1+(Gj y).length<=j->s.2[j]? = some v->v=0) (0,List.replicate ((Gj x).length+(Gj y).length) 0) ⟨Qh _,Jd ..,Dg.zeros _,by rw[CS (λx hx=>Zw hx)];simp[Tj],λj v _ hv=>Zw (Qa hv)⟩ rfl rfl λs hs=>?_
 obtain⟨i,o⟩:=s;obtain⟨hp0,hp1,hp2,hp3,hp4⟩:=hs;dsimp only at hp0 hp1 hp2 hp3 hp4 ⊢;by_cases h1:i<(Gj x).length
 ·obtain⟨d,hd⟩:=gxE (l:=(Gj x)) (i:=i) h1;have hd9:=Ch x d (Qa hd);refine Uf [.T] rfl ?_;refine Uk (S:=Nat×Nat×Uq) 1 (λL1 s=>(8,.v (.oi (s.1:Int)))::(7,.v (.oi (s.2.1:Int)))::L1) (λs=>[.row false 3 1 (Bv s.2.2)]) (λs=>((Gj y).length-s.1)*2+min s.2.1 1) (MulI x y i d) (0,0,o) ⟨hp1,hp2,by dsimp only;rw[hp3];simp[Tj],by show 0<10000;decide,.inl ⟨Nat.zero_le _,hp4⟩⟩ rfl rfl λs hs=>?_
  obtain⟨k,c,o2⟩:=s;obtain⟨hq0,hq1,hq2,hq3,hq4⟩:=hs;dsimp only at hq0 hq1 hq2 hq3 hq4 ⊢;have hol:(Bv o2).length=(Gj x).length+(Gj y).length:=by rw[Tz,hq0]
  by_cases h2:k<(Gj y).length
  ·obtain⟨e,he⟩:=gxE (l:=(Gj y)) (i:=k) h2;have he9:=Ch y e (Qa he);have hde:d*e<=9999*9999:=Zd (by omega) (by omega);obtain⟨v,hoi⟩:=gxE (l:=o2) (i:=i+k) (by omega);have hv9:=hq1 v (Qa hoi);refine go tt [.g 25 true Un,.t rfl,.r 34 (eI (b:=((i+k:Nat):Int)) (by omega)),.i (i+k),.x (G0 hoi),.r 38 (eI (b:=((v+c:Nat):Int)) (by omega)),.T,.x (G0 hd),.x (G0 he),.r 52 (eI (b:=((d*e:Nat):Int)) (by simp)),.r 53 (eI (b:=((v+c+d*e:Nat):Int)) (by omega)),.r 57 (eI (b:=((i+k:Nat):Int)) (by omega)),.r 59 (eI (b:=(((v+c+d*e) % 10000:Nat):Int)) (by rfl)),.i (i+k),.r 62 (eI (b:=(((v+c+d*e) / 10000:Nat):Int)) (by rfl))] rfl (by simp[U3,hol,tdn,WP,-Int.natCast_add,-Int.natCast_mul];omega) ?_;exact rd (k+1,(v+c+d*e) / 10000,o2.set (i+k) ((v+c+d*e) % 10000)) (by dsimp only;omega) ⟨by dsimp only;rw[List.length_set];exact hq0,hq1.set (Nat.mod_lt _ (by decide)),by
    dsimp only;rw[<-Nat.add_assoc i k 1,Nat.pow_succ];have:=CU hq2 (aK hoi (u:=((v+c)+(d*e)) % 10000)) (s:=d*e) (q:=((v+c)+(d*e)) / 10000) (by rw[Qyc]);rw[this,Tv he,Nat.pow_add];grind,by dsimp only;omega,.inl ⟨by dsimp only;omega,λj w hj hw=>(by
     dsimp only at hw;rcases hq4 with⟨_,h⟩|⟨_,_,h⟩ <;> (rw[Yi (by omega)]at hw;exact h j w (by omega) hw))⟩⟩ (by rw[QT];rfl)
  ·by_cases h3:0<c
   ·have hk:k=(Gj y).length:=by omega
    have hz:∀j v,i+(Gj y).length<=j->o2[j]? = some v->v=0:=by
     rcases hq4 with⟨_,h⟩|⟨_,h,_⟩
     ·exact h
     ·omega
    obtain⟨v,hoi⟩:=gxE (l:=o2) (i:=i+k) (by omega);have hv0:v=0:=hz (i+k) v (by omega) hoi;have hv9:=hq1 v (Qa hoi);refine go tt [.g 25 false Um,.T,.r 34 (eI (b:=((i+k:Nat):Int)) (by omega)),.i (i+k),.x (G0 hoi),.r 38 (eI (b:=((v+c:Nat):Int)) (by omega)),.F,.r 57 (eI (b:=((i+k:Nat):Int)) (by omega)),.r 59 (eI (b:=(((v+c) % 10000:Nat):Int)) (by rfl)),.i (i+k),.r 62 (eI (b:=(((v+c) / 10000:Nat):Int)) (by rfl))] rfl (by simp[U3,hol,tdn,WP,-Int.natCast_add];omega) ?_;exact rd (k+1,(v+c) / 10000,o2.set (i+k) ((v+c) % 10000)) (by dsimp only;omega) ⟨by dsimp only;rw[List.length_set];exact hq0,hq1.set (Nat.mod_lt _ (by decide)),by
     dsimp only;rw[<-Nat.add_assoc i k 1,Nat.pow_succ];have:=CU hq2 (aK hoi (u:=(v+c) % 10000)) (s:=0) (q:=(v+c) / 10000) (by rw[Qyc];rfl);rw[this,Nat.mul_zero,Nat.add_zero,I7 (by omega)],by dsimp only;omega,.inr ⟨by dsimp only;omega,by dsimp only;omega,λj w hj hw=>(by
      dsimp only at hw;rw[Yi (by omega)]at hw;exact hz j w (by omega) hw)⟩⟩ (by rw[QT];rfl)
   ·refine Ug [.g 25 false Um,.F] rfl ?_;exact rd (i+1,o2) (by dsimp only;omega) ⟨by dsimp only;omega,hq0,hq1,by
     dsimp only;rw[Tv hd,X4];have h:=hq2;rw[show c=0 by omega,Qo (l:=Gj y) (i:=k) (by omega),Rf]at h;rw[Ym,Xo]at h;exact h,by
     dsimp only;rcases hq4 with⟨_,h⟩|⟨_,_,h⟩
     ·exact λj w hj hw=>h j w (by omega) hw
     ·exact λj w hj hw=>h j w (by omega) hw⟩ rfl
 ·have hv:Tj o=x*y:=by rw[hp3,Qo (by omega),Rf]
  have cc:=HF hp2;rw[hv]at cc;exact Uh [.F,.k cc] rfl
theorem eD{x y:Nat}:ZR x y<=0↔x<=y:=by
 unfold ZR;constructor
 ·intro h;split at h
  ·omega
  ·split at h <;> omega
 ·intro h;split
  ·omega
  ·split <;> omega
theorem Qb7{R y lo:Nat}(h1:y*lo<=R)(h2:R<y*(lo+1)):R / y=lo/\R % y=R-y*lo:=by
 have hy:0<y:=by
  rcases Q3 y with h|h
  ·subst h;simp at h2
  ·exact h
 have e:R / y=lo:=Nat.div_eq_of_lt_le (by rw[Zq];exact h1) (by rw[Zq];exact h2);refine⟨e,?_⟩;have:=Xf R y;rw[e]at this;omega
theorem Qk9{R y:Nat}(h:R<y*10000):sz R<=sz y+14:=by
 refine Ns.2 (Z8 h ?_);have:=FK y;rw[Xg];have e:(2:Nat)^14=16384:=by decide
 rw[e];exact Zd (by omega) (by decide)
theorem Qdl(y:Nat):sz (y*10000)<=sz y+14:=by
 refine Ns.2 ?_;have:=FK y;rw[Xg];have e:(2:Nat)^14=16384:=by decide
 rw[e];omega
theorem pE{x y:Nat}(hx:sz x<=90000000)(hy:sz y<=90000000)(hy0:0<y):Ul 210 [.one (nd x),.one (nd y)] [.one (nd (x / y)),.one (nd (x % y))]:=by
 have hxl:=Qc (Mq x) hx;have hyl:=Qc (Mq y) hy;have lx:=US x;show Ul 210 [.one (.row (Bv (Gj x))),.one (nd y)] _;refine Fv func210 rfl ?_;refine Ug [.i (Bv (Gj x)).length,.i (Bv (Gj x)).length,.z 7,.r 17 (eI (b:=((Gj x).length:Int)-1) (by rw[lx]))] rfl ?_;rw[lx,show List.replicate (Gj x).length [LV.int .i64 0]=Bv (List.replicate (Gj x).length 0) from by simp[Bv]];refine Uk (S:=Nat×Uq×Uq) 1 (λL1 s=>(8,.v (.oi ((s.1:Int)-1)))::(7,.v (.one (.row (Bv s.2.1))))::L1) (λs=>[.row false 3 1 (Bv s.2.2)]) (λs=>s.1) (λs=>s.1<=(Gj x).length/\s.2.2.length=(Gj x).length/\Dg s.2.2/\Tj (s.2.2.drop s.1)=Tj ((Gj x).drop s.1) / y/\s.2.1=Gj (Tj ((Gj x).drop s.1) % y)) ((Gj x).length,[],List.replicate (Gj x).length 0) ⟨Nat.le_refl _,List.length_replicate ..,Dg.zeros _,by dsimp only;rw[List.drop_eq_nil_of_le (by simp),List.drop_eq_nil_of_le (Nat.le_refl _)];simp[Tj],by dsimp only;rw[List.drop_eq_nil_of_le (Nat.le_refl _)];simp[Tj,Hx]⟩ rfl rfl λs hs=>?_
 obtain⟨j,R,o⟩:=s;obtain⟨hp0,hp1,hp2,hp3,hp4⟩:=hs;dsimp only at hp0 hp1 hp2 hp3 hp4 ⊢;cases j with
 |
  zero =>
  have cc:=HF hp2;rw[Xy,Xy,Rf]at hp3;rw[Xy,Rf]at hp4;rw[hp3]at cc;exact Uh [.f (by simp),.k cc] rfl (by rw[hp4];rfl) trivial
 |
  succ j =>
  obtain⟨d,hd⟩:=gxE (l:=(Gj x)) (i:=j) (by omega);have hd9:=Ch x d (Qa hd);have hdd:=XJ hd;obtain⟨hq1,hq2,hq3⟩:=uG (V:=Tj ((Gj x).drop (j+1))) (kd:=y) (d:=d) hy0;rw[<-hdd]at hq1 hq2;have hq3:=hq3 hd9;obtain⟨rr,hrr0⟩:=nmE (Tj ((Gj x).drop (j+1)) % y);have hrr:rr<y:=by rw[hrr0];exact Z6 _ hy0
  rw[<-hrr0]at hp4 hq1 hq2 hq3;subst hp4;have hrl:(Gj rr).length<=(Gj y).length:=XQ (by omega);have hR:rr*10000+d<y*10000:=by omega
  have hRs:=Qk9 hR;have hdv:Dg (d::Gj rr):=λz hz=>by
   rcases Ql.1 hz with rfl|hz
   ·exact hd9
   ·exact Ch rr z hz
  have cc:=HF hdv;rw[show Tj (d::Gj rr)=rr*10000+d from by simp only[Tj];rw[Rf];omega]at cc;have hol:(Bv o).length=(Gj x).length:=by rw[Tz,hp1]
  have hrrl:=Tz (Gj rr);have ej:((j+1:Nat):Int)-1=(j:Int):=by omega
  rw[ej];refine go tt [.T,.x (G0 hd),.lo,.s (sz:=1) (Qum (Gj rr)),.k cc] rfl (by simp[U3,US];omega) ?_;refine Uk (S:=Nat×Nat) 2 (λL1 s=>(9,.v (.oi (s.1:Int)))::(10,.v (.oi (s.2:Int)))::L1) (λ_=>[.row false 3 1 (Bv o),.gone]) (λs=>s.2-s.1) (λs=>s.1<=s.2/\s.2<=9999/\y*s.1<=rr*10000+d/\rr*10000+d<y*(s.2+1)) (0,9999) ⟨by decide,by decide,by dsimp only;omega,by dsimp only;omega⟩ rfl rfl λs hs=>?_
  obtain⟨lo,hi⟩:=s;obtain⟨hb0,hb1,hb2,hb3⟩:=hs;dsimp only at hb0 hb1 hb2 hb3 ⊢;by_cases h2:lo<hi
  ·obtain⟨m,hm⟩:=nmE ((lo+hi+1) / 2);have hym:y*m<=y*10000:=Zu y (by omega);have c1:=UU (x:=y) (mu:=m) (c0:=0) (by omega) (by omega) (by omega);have c2:=pC (x:=y*m+0) (y:=rr*10000+d) (Qc (Ri (show _<=y*10000 by omega)) (Qc (Qdl y) (by omega))) (by omega);by_cases h3:y*m+0<=rr*10000+d
   ·refine go tt [.T,.r 35 (eI (b:=((lo+hi:Nat):Int)) (by omega)),.r 36 (eI (b:=((lo+hi+1:Nat):Int)) (by omega)),.r 37 (eI (b:=(m:Int)) (by rw[hm];rfl)),.k c1,.k c2,.t (decide_eq_true (eD.2 h3))] rfl (by simp[U3,WP,-Int.natCast_add];omega) ?_;exact rd (m,hi) (by dsimp only;omega) ⟨by dsimp only;omega,hb1,by dsimp only;omega,hb3⟩ rfl
   ·refine go tt [.T,.r 35 (eI (b:=((lo+hi:Nat):Int)) (by omega)),.r 36 (eI (b:=((lo+hi+1:Nat):Int)) (by omega)),.r 37 (eI (b:=(m:Int)) (by rw[hm];rfl)),.k c1,.k c2,.f (decide_eq_false λh=>h3 (eD.1 h)),.r 46 (eI (b:=((m-1:Nat):Int)) (by omega))] rfl (by simp[U3,WP,-Int.natCast_add];omega) ?_;exact rd (lo,m-1) (by dsimp only;omega) ⟨by dsimp only;omega,by dsimp only;omega,hb2,by dsimp only;rw[show m-1+1=m by omega];omega⟩ rfl
  ·have hlh:lo=hi:=by omega
   have hfd:=Qb7 hb2 (by rw[hlh];exact hb3);have c1:=UU (x:=y) (mu:=lo) (c0:=0) (by omega) (by omega) (by omega);have c2:=pO (x:=rr*10000+d) (y:=y*lo+0) (by omega) (Qc (Ri (show _<=rr*10000+d by omega)) (by omega)) (by omega);rw[show rr*10000+d-(y*lo+0)=Tj ((Gj x).drop j) % y from by rw[hq2,hfd.2];omega]at c2;refine go tt [.F,.i j,.k c1,.k c2] rfl (by simp[U3,hol,tdn,WP,-Int.natCast_add];omega) ?_;exact rd (j,Gj (Tj ((Gj x).drop j) % y),o.set j lo) (by dsimp only;omega) ⟨by dsimp only;omega,by dsimp only;rw[List.length_set];exact hp1,hp2.set (by omega),by
    dsimp only;rw[HL (by omega)];simp only[Tj];rw[hp3,hq1,hfd.1],rfl⟩ (by rw[QT];rfl)
theorem Qqn{a b:Int}(h:(decide (a<0) == decide (b<0))=true):Fa (decide (a<0)) (a.natAbs+b.natAbs)=a+b:=by
 unfold Fa;by_cases h1:a<0 <;> by_cases h2:b<0 <;> simp[h1,h2]at h ⊢ <;> omega
theorem Qqq{a b:Int}(h:¬(decide (a<0) == decide (b<0))=true)(hl:b.natAbs<=a.natAbs):Fa (decide (a<0)) (a.natAbs-b.natAbs)=a+b:=by
 unfold Fa;by_cases h1:a<0 <;> by_cases h2:b<0 <;> simp[h1,h2]at h ⊢ <;> omega
theorem Qkr{a b:Int}(h:¬(decide (a<0) == decide (b<0))=true)(hl:¬b.natAbs<=a.natAbs):Fa (decide (b<0)) (b.natAbs-a.natAbs)=a+b:=by
 unfold Fa;by_cases h1:a<0 <;> by_cases h2:b<0 <;> simp[h1,h2]at h ⊢ <;> omega
theorem YI(a:Int):(∃m:Nat,a=(m:Int))\/∃m:Nat,a=-(m:Int)/\0<m:=by
 rcases Kd a 0 with h|h
 ·exact .inr ⟨a.natAbs,by omega,by omega⟩
 ·exact .inl ⟨a.natAbs,by omega⟩
theorem Qqp(a b:Int):Fa (!(decide (a<0) == decide (b<0))) (a.natAbs*b.natAbs)=a*b:=by
 rcases YI a with⟨m,rfl⟩|⟨m,rfl,hm⟩ <;> rcases YI b with⟨n,rfl⟩|⟨n,rfl,hn⟩
 ·simp[Fa,show ¬((m:Int)<0) by omega,show ¬((n:Int)<0) by omega]
 ·simp[Fa,show ¬((m:Int)<0) by omega,show(-(n:Int)<0) by omega,hn,V7]
 ·simp[Fa,show(-(m:Int)<0) by omega,show ¬((n:Int)<0) by omega,hm,Ko]
 ·simp[Fa,show(-(m:Int)<0) by omega,show(-(n:Int)<0) by omega,hm,hn,W9]
theorem Qqo{a b:Int}(h:a % b=0):Fa (!(decide (a<0) == decide (b<0))) (a.natAbs / b.natAbs)=a / b:=by
 by_cases hb:b=0
 ·subst hb;simp[Fa]
 obtain⟨c,rfl⟩:=Vg h;rw[Jc _ hb,Yc,Nat.mul_div_cancel_left _ (by omega)];rcases YI b with⟨n,rfl⟩|⟨n,rfl,hn⟩ <;> rcases YI c with⟨m,rfl⟩|⟨m,rfl,hm⟩
 ·have:¬((n:Int)*(m:Int)<0):=by rw[<-Vj];omega
  simp[Fa,this,show ¬((n:Int)<0) by omega]
 ·have h1:0<n*m:=J8 (by omega) hm;have:((n:Int)*-(m:Int)<0):=by rw[V7,<-Vj];omega
  simp only[this,show ¬((n:Int)<0) by omega];simp[Fa]
 ·by_cases h0:m=0
  ·subst h0;simp[Fa]
  ·have h1:0<n*m:=J8 hn (by omega);have:(-(n:Int)*(m:Int)<0):=by rw[Ko,<-Vj];omega
   simp only[this,show(-(n:Int)<0) by omega];simp[Fa]
 ·have:¬(-(n:Int)*-(m:Int)<0):=by rw[W9,<-Vj];omega
  simp only[this,show(-(n:Int)<0) by omega];simp[Fa]
theorem eN{x y:Nat}:0<=ZR x y↔y<=x:=by
 unfold ZR;constructor
 ·intro h;split at h
  ·omega
  ·omega
 ·intro h;split
  ·omega
  ·split <;> omega
theorem CX{x e:Nat}(h:(Gj x).length=1)(he:(Gj x)[0]? = some e):x=e:=by
 rcases hd:Gj x with _|⟨u,l⟩
 ·rw[hd]at h;cases h
 ·rcases l with _|⟨w,l⟩
  ·rw[hd]at he;simp at he;have:=Rf x;rw[hd]at this;simp[Tj]at this;omega
  ·rw[hd]at h;simp at h
theorem nJ{a b:Int}(hb:0<b):ri (a / ((Int.gcd a b:Nat):Int))++ri (b / ((Int.gcd a b:Nat):Int))=fr (Rat.divInt a b):=by
 obtain⟨h1,h2⟩:=iG (n:=a) hb;rw[Lc,Int.gcd_comm]at h1 h2;rw[h1,h2]
theorem nY(a:Int):ri a++ri 1=fr (Rat.divInt a 1):=by
 have h:=nJ (a:=a) (b:=1) (by decide);rw[show((Int.gcd a 1:Nat):Int)=1 by simp]at h;simpa using h
theorem OA{a b:Int}(hb:b≠0)(ha2:Fc a<=90000000)(hb2:Fc b<=90000000):Fc ((Int.gcd a b:Nat):Int)<=90000000/\((Int.gcd a b:Nat):Int)≠0/\a % ((Int.gcd a b:Nat):Int)=0/\b % ((Int.gcd a b:Nat):Int)=0:=by
 have h1:=aA (n:=a) hb hb2;have h2:=fX (n:=a) hb;have h3:=DW a b;have h4:=DU a b;rw[Lc,Int.gcd_comm]at h1 h2 h3 h4;exact⟨h1,by omega,h3,h4⟩
theorem zJ{a b:Int}(h:b<0):Gh a b=Rat.divInt (-a) (-b):=by
 unfold Gh;rw[if_neg (by omega)];exact(Rat.neg_divInt_neg a b).symm
theorem zY{a b:Int}(h:0<b):Gh a b=Rat.divInt a b:=by
 unfold Gh;rw[if_neg (by omega)]
theorem IU(a b:Rat):Gh (a.num*(b.den:Int)+b.num*(a.den:Int)) ((a.den:Int)*(b.den:Int))=a+b:=by
 unfold Gh;rw[if_neg (Jf (Dl a) (Dl b)),<-Rat.divInt_add_divInt _ _ (Dl a) (Dl b),Z7,Z7]
theorem qG(a b:Rat):Gh (a.num*b.num) ((a.den:Int)*(b.den:Int))=a*b:=by
 unfold Gh;rw[if_neg (Jf (Dl a) (Dl b)),<-Rat.divInt_mul_divInt,Z7,Z7]
theorem zX{a b:Rat}(h:b≠0):Gh (a.num*(b.den:Int)) ((a.den:Int)*b.num)=a / b:=by
 have hn:b.num≠0:=λe=>h (Rat.num_eq_zero.1 e)
 unfold Gh;rw[if_neg (Jf (Dl a) hn),<-Rat.divInt_mul_divInt,Z7,J9];congr 1
 conv=>rhs;rw[<-Z7 b,Rat.inv_divInt]
theorem Qv3{s:Nat}{a b:Rat}(ha:Qs s a)(hb:Qs s b):Qs (2*s+1) (a+b):=by
 rw[<-IU];unfold Gh;rw[if_neg (Jf (Dl a) (Dl b))];refine Qs.divInt (Qc (QC _ _) ?_) (Qc (Ga _ _) (by have:=ha.2;have:=hb.2;omega)) (by omega);have h1:=Ga a.num (b.den:Int);have h2:=Ga b.num (a.den:Int);have:=ha.1;have:=ha.2;have:=hb.1;have:=hb.2;omega
theorem mX{a b:Int}(ha:Fc a<=200000000)(hb:Fc b<=200000000):Ul 115 [.agg (ri a),.agg (ri b)] [.agg (ri (a+b))]:=by
 by_cases hs:(decide (a<0) == decide (b<0))=true
 ·have cm:=Nw (decide (a<0)) (a.natAbs+b.natAbs);rw[Qqn hs]at cm;exact Ui func115 rfl [.t hs,.k (Qte ha hb),.k cm] rfl
 ·have hs':(decide (a<0) == decide (b<0))=false:=by simpa using hs
  by_cases hl:b.natAbs<=a.natAbs
  ·have cm:=Nw (decide (a<0)) (a.natAbs-b.natAbs);rw[Qqq hs hl]at cm;exact Ui func115 rfl [.f hs',.k (pC ha hb),.t (decide_eq_true (eN.2 hl)),.k (pO ha hb hl),.k cm] rfl
  ·have cm:=Nw (decide (b<0)) (b.natAbs-a.natAbs);rw[Qkr hs hl]at cm;exact Ui func115 rfl [.f hs',.k (pC ha hb),.f (decide_eq_false λh=>hl (eN.1 h)),.k (pO hb ha (by omega)),.k cm] rfl
theorem Qfy{a b:Int}(ha:Fc a<=200000000)(hb:Fc b<=200000000):Ul 144 [.agg (ri a),.agg (ri b)] [.agg (ri (a-b))]:=by
 have ca:=mX (a:=a) (b:=-b) ha (by rw[Ho];exact hb);rw[show a+-b=a-b from by omega]at ca;exact Ui func144 rfl [.k (QK (z:=b)),.k ca] rfl
theorem Ac{a b:Int}(ha:Fc a<=200000000)(hb:Fc b<=200000000):Ul 73 [.agg (ri a),.agg (ri b)] [.agg (ri (a*b))]:=by
 have cm:=Nw (!(decide (a<0) == decide (b<0))) (a.natAbs*b.natAbs);rw[Qqp]at cm;exact Ui func73 rfl [.k (Qtp ha hb),.k cm] rfl
theorem BP{a b:Int}(ha:Fc a<=90000000)(hb:Fc b<=90000000)(h0:b≠0)(hd:a % b=0):Ul 139 [.agg (ri a),.agg (ri b)] [.agg (ri (a / b))]:=by
 have cm:=Nw (!(decide (a<0) == decide (b<0))) (a.natAbs / b.natAbs);rw[Qqo hd]at cm;exact Ui func139 rfl [.k (pE ha hb (by omega)),.k cm] rfl
theorem Qv7(x:Nat):ri ((x:Nat):Int)=[nd x,.bool false]:=by
 unfold ri sg;rw[Xi,decide_eq_false (by omega)]
theorem xI{a b:Int}(ha:Fc a<=90000000)(hb:Fc b<=90000000):Ul 138 [.agg (ri a),.agg (ri b)] [.agg (ri ((Int.gcd a b:Nat):Int))]:=by
 rw[Qv7];refine Fv func138 rfl ?_;refine Uf [] rfl ?_;refine Uk (S:=Nat×Nat) 3 (λL1 s=>(5,.v (.one (nd s.1)))::(6,.v (.one (nd s.2)))::L1) (λ_=>[.blk 49 (ri a),.blk 49 (ri b),.blk 49 [.nils,.bool false]]) (λs=>s.2) (λs=>Nat.gcd s.1 s.2=Int.gcd a b/\sz s.1<=90000000/\sz s.2<=90000000) (a.natAbs,b.natAbs) ⟨rfl,ha,hb⟩ rfl rfl λs hs=>?_
 obtain⟨x,y⟩:=s;obtain⟨hp0,hp1,hp2⟩:=hs;dsimp only at hp0 hp1 hp2 ⊢;have hyn:=MG (x:=y);have hyl:=US y;by_cases h1:y=0
 ·have e:Int.gcd a b=x:=by rw[<-hp0,h1,Nat.gcd_zero_right]
  rw[e];exact Uh [.f (by simp only[Tz];exact decide_eq_false (by omega))] rfl
 ·have hlt:=Z6 x (show 0<y by omega);refine Uf [.t (by simp only[Tz];exact decide_eq_true (by omega)),.k (pE hp1 hp2 (by omega))] rfl ?_;exact rd (y,x % y) (by dsimp only;omega) ⟨by dsimp only;rw[<-hp0,Nat.gcd_comm x y,Nat.gcd_rec y x,Nat.gcd_comm],hp2,Nat.le_trans (Ri (by dsimp only;omega)) hp2⟩ rfl
theorem YJ{a b:Int}(ha:Fc a<=90000000)(hb:Fc b<=90000000):Ul 68 [.agg (ri a),.agg (ri b)] [.agg (fr (Gh a b))]:=by
 rcases Km b 0 with hs|hs|hs
 ·skip
  by_cases h1:-b=1
  ·have h0:(Bv (Gj (-b).natAbs))[0]? = some [LV.int .i64 1]:=by rw[h1,show(1:Int).natAbs=1 from rfl,If];rfl
   have hl1:decide (((Bv (Gj (-b).natAbs)).length:Int)=1)=true:=by rw[h1,show(1:Int).natAbs=1 from rfl,If];rfl
   have e:fr (Gh a b)=ri (-a)++ri (-b):=by rw[zJ hs,h1];exact(nY _).symm
   rw[e];exact Ui func68 rfl [.k (Dv (z:=b)),.F,.t (decide_eq_true hs),.k (QK (z:=a)),.k (QK (z:=b)),.g 19 true hl1,.x h0,.t rfl] rfl
  ·have hgf:=OA (a:=-a) (b:=-b) (by omega) (by first|exact ha|(rw[Ho];exact ha)) (by first|exact hb|(rw[Ho];exact hb));have cg:=xI (a:=-a) (b:=-b) (by first|exact ha|(rw[Ho];exact ha)) (by first|exact hb|(rw[Ho];exact hb));have q1:=BP (a:=-a) (b:=((Int.gcd (-a) (-b):Nat):Int)) (by first|exact ha|(rw[Ho];exact ha)) hgf.1 hgf.2.1 hgf.2.2.1;have q2:=BP (a:=-b) (b:=((Int.gcd (-a) (-b):Nat):Int)) (by first|exact hb|(rw[Ho];exact hb)) hgf.1 hgf.2.1 hgf.2.2.2;have e:fr (Gh a b)=ri ((-a) / ((Int.gcd (-a) (-b):Nat):Int))++ri ((-b) / ((Int.gcd (-a) (-b):Nat):Int)):=by rw[zJ hs];exact(nJ (by omega)).symm
   rw[e];have hl:=US (-b).natAbs;by_cases hl1:(Gj (-b).natAbs).length=1
   ·obtain⟨u,hu⟩:=gxE (l:=(Gj (-b).natAbs)) (i:=0) (by omega);have hue:=CX hl1 hu;exact Ui func68 rfl [.k (Dv (z:=b)),.F,.t (decide_eq_true hs),.k (QK (z:=a)),.k (QK (z:=b)),.g 19 true (by simp only[Tz];exact decide_eq_true (by omega)),.x (G0 hu),.F,.k cg,.k q1,.k q2] rfl
   ·exact Ui func68 rfl [.k (Dv (z:=b)),.F,.t (decide_eq_true hs),.k (QK (z:=a)),.k (QK (z:=b)),.g 19 false (by simp only[Tz];exact decide_eq_false (by omega)),.f rfl,.k cg,.k q1,.k q2] rfl
 ·subst hs;have h0:(Bv (Gj (1:Int).natAbs))[0]? = some [LV.int .i64 1]:=by rw[show(1:Int).natAbs=1 from rfl,If];rfl
  have h1:decide (((Bv (Gj (1:Int).natAbs)).length:Int)=1)=true:=by rw[show(1:Int).natAbs=1 from rfl,If];rfl
  have e:fr (Gh a 0)=ri a++ri 1:=(nY a).symm;rw[e];exact Ui func68 rfl [.k (Dv (z:=0)),.t rfl,.k (ZE (n:=1) (by decide)),.f rfl,.g 19 true h1,.x h0,.t rfl] rfl
 ·skip
  by_cases h1:b=1
  ·have h0:(Bv (Gj (b).natAbs))[0]? = some [LV.int .i64 1]:=by rw[h1,show(1:Int).natAbs=1 from rfl,If];rfl
   have hl1:decide (((Bv (Gj (b).natAbs)).length:Int)=1)=true:=by rw[h1,show(1:Int).natAbs=1 from rfl,If];rfl
   have e:fr (Gh a b)=ri (a)++ri (b):=by rw[zY hs,h1];exact(nY _).symm
   rw[e];exact Ui func68 rfl [.k (Dv (z:=b)),.F,.F,.g 19 true hl1,.x h0,.t rfl] rfl
  ·have hgf:=OA (a:=a) (b:=b) (by omega) (by first|exact ha|(rw[Ho];exact ha)) (by first|exact hb|(rw[Ho];exact hb));have cg:=xI (a:=a) (b:=b) (by first|exact ha|(rw[Ho];exact ha)) (by first|exact hb|(rw[Ho];exact hb));have q1:=BP (a:=a) (b:=((Int.gcd (a) (b):Nat):Int)) (by first|exact ha|(rw[Ho];exact ha)) hgf.1 hgf.2.1 hgf.2.2.1;have q2:=BP (a:=b) (b:=((Int.gcd (a) (b):Nat):Int)) (by first|exact hb|(rw[Ho];exact hb)) hgf.1 hgf.2.1 hgf.2.2.2;have e:fr (Gh a b)=ri ((a) / ((Int.gcd (a) (b):Nat):Int))++ri ((b) / ((Int.gcd (a) (b):Nat):Int)):=by rw[zY hs];exact(nJ (by omega)).symm
   rw[e];have hl:=US (b).natAbs;by_cases hl1:(Gj (b).natAbs).length=1
   ·obtain⟨u,hu⟩:=gxE (l:=(Gj (b).natAbs)) (i:=0) (by omega);have hue:=CX hl1 hu;exact Ui func68 rfl [.k (Dv (z:=b)),.F,.F,.g 19 true (by simp only[Tz];exact decide_eq_true (by omega)),.x (G0 hu),.F,.k cg,.k q1,.k q2] rfl
   ·exact Ui func68 rfl [.k (Dv (z:=b)),.F,.F,.g 19 false (by simp only[Tz];exact decide_eq_false (by omega)),.f rfl,.k cg,.k q1,.k q2] rfl
theorem Qxy{n d:Int}(hn:-1000000000<=n/\n<=1000000000)(hd:-1000000000<=d/\d<=1000000000):Ul 15 [.oi n,.oi d] [.agg (fr (Gh n d))]:=by
 have b1:Fc n<=90000000:=Qc (S0.2 (show n.natAbs<2^40 by omega)) (by decide);have b2:Fc d<=90000000:=Qc (S0.2 (show d.natAbs<2^40 by omega)) (by decide);exact Ui func15 rfl [.k (ZE (by omega)),.k (ZE (by omega)),.k (YJ b1 b2)] rfl
theorem Qtr{a:Rat}:Ul 87 [.agg (fr a)] [.agg (fr (-a))]:=by
 have e:fr (-a)=ri (-a.num)++ri (a.den:Int):=rfl;rw[e];exact Ui func87 rfl [.k (QK (z:=a.num))] rfl
theorem pN{a b:Rat}(ha:Qs 20000000 a)(hb:Qs 20000000 b):Ul 50 [.agg (fr a),.agg (fr b)] [.agg (fr (a+b))]:=by
 have k1:=Ga a.num (b.den:Int);have k2:=Ga b.num (a.den:Int);have k3:=Ga (a.den:Int) (b.den:Int);have k4:=QC (a.num*(b.den:Int)) (b.num*(a.den:Int));have h1:=ha.1;have h2:=ha.2;have h3:=hb.1;have h4:=hb.2;have cm:=YJ (a:=a.num*(b.den:Int)+b.num*(a.den:Int)) (b:=(a.den:Int)*(b.den:Int)) (by omega) (by omega);rw[IU]at cm;exact Ui func50 rfl [.k (Ac (a:=a.num) (b:=(b.den:Int)) (by omega) (by omega)),.k (Ac (a:=b.num) (b:=(a.den:Int)) (by omega) (by omega)),.k (mX (by omega) (by omega)),.k (Ac (a:=(a.den:Int)) (b:=(b.den:Int)) (by omega) (by omega)),.k cm] rfl
theorem Qe1{a b:Rat}(ha:Qs 40000000 a)(hb:Qs 40000000 b):Ul 120 [.agg (fr a),.agg (fr b)] [.agg (fr (a*b))]:=by
 have k1:=Ga a.num b.num;have k3:=Ga (a.den:Int) (b.den:Int);have h1:=ha.1;have h2:=ha.2;have h3:=hb.1;have h4:=hb.2;have cm:=YJ (a:=a.num*b.num) (b:=(a.den:Int)*(b.den:Int)) (by omega) (by omega);rw[qG]at cm;exact Ui func120 rfl [.k (Ac (a:=a.num) (b:=b.num) (by omega) (by omega)),.k (Ac (a:=(a.den:Int)) (b:=(b.den:Int)) (by omega) (by omega)),.k cm] rfl
theorem pA{a b:Rat}(ha:Qs 40000000 a)(hb:Qs 40000000 b)(h0:b≠0):Ul 247 [.agg (fr a),.agg (fr b)] [.agg (fr (a / b))]:=by
 have k1:=Ga a.num (b.den:Int);have k3:=Ga (a.den:Int) b.num;have h1:=ha.1;have h2:=ha.2;have h3:=hb.1;have h4:=hb.2;have cm:=YJ (a:=a.num*(b.den:Int)) (b:=(a.den:Int)*b.num) (by omega) (by omega);rw[zX h0]at cm;exact Ui func247 rfl [.k (Ac (a:=a.num) (b:=(b.den:Int)) (by omega) (by omega)),.k (Ac (a:=(a.den:Int)) (b:=b.num) (by omega) (by omega)),.k cm] rfl
end Orr
namespace Orr
def Dd:Ur->Ur
 | []=>[]
 |
  x::l=>match Dd l with
  | []=>if x=0 then []else [x]
  |y::k=>x::y::k
theorem JH:∀{l:Ur},(∀x∈l,x=0)->Dd l=[]
 | [],_=>rfl
 |
  x::l,h=>by
  have ih:=JH (l:=l) (λy hy=>h y (Qg _ hy));simp[Dd,ih,h x (Qy ..)]
theorem ES:∀{l:Ur} {m:Nat} {y:Rat},(∀j x,m<j->l[j]? = some x->x=0)->l[m]? = some y->y≠0->Dd l=l.take (m+1)
 | [],m,y,_,h,_=>by simp at h
 |
  x::l,0,y,h1,h2,h3=>by
  have h0:Dd l=[]:=JH λz hz=>by
   obtain⟨j,hj⟩:=Zk.1 hz;exact h1 (j+1) z (by omega) (by simpa using hj)
  simp at h2;subst h2;simp[Dd,h0,h3]
 |
  x::l,m+1,y,h1,h2,h3=>by
  have ih:=ES (l:=l) (m:=m) (y:=y) (λj z hj hz=>h1 (j+1) z (by omega) (by simpa using hz)) (by simpa using h2) h3;cases hl:l with
  |nil=>subst hl;simp at h2
  |
   cons u k =>
   subst hl;rw[Vf]at ih;simp only[Dd]at ih ⊢;rw[ih];simp
theorem zH{l:Ur}{m:Nat}(hm:m<=l.length)(h1:∀j x,m<=j->l[j]? = some x->x=0)(h2:0<m->∃y,l[m-1]? = some y/\y≠0):Dd l=l.take m:=by
 rcases Q3 m with h0|h0
 ·subst h0;rw[JH λz hz=>?_];rfl;obtain⟨j,hj⟩:=Zk.1 hz;exact h1 j z (by omega) hj
 ·obtain⟨y,hy,hy0⟩:=h2 h0;have:=ES (l:=l) (m:=m-1) (y:=y) (λj x hj hx=>h1 j x (by omega) hx) hy hy0;rwa[show m-1+1=m from by omega]at this
theorem zP:∀(l:Ur),∀z∈Dd l,z∈l
 | [],z,h=>h
 |
  x::l,z,h=>by
  simp only[Dd]at h;have ih:=zP l
  split at h
  ·split at h
   ·cases h
   ·simp at h;simp[h]
  ·rename_i y k e;rw[e]at ih;rcases Ql.1 h with h|h
   ·simp[h]
   ·exact Qg _ (ih z h)
theorem zS:∀(l:Ur),(Dd l).length<=l.length
 | []=>Qm _
 |
  x::l=>by
  have ih:=zS l;simp only[Dd]
  split
  ·split <;> simp
  ·rename_i y k e;rw[e]at ih;simp at ih ⊢;omega
def zp(p:Uo):Ur:=p.map λ(z:Int)=>(z:Rat)
theorem Ev:∀(p:Uo),Dd (zp p)=zp (trim p)
 | []=>rfl
 |
  x::l=>by
  have ih:=Ev l;unfold zp at ih ⊢;simp only[Zz,Dd,trim,ih];cases h:trim l with
  |
   nil =>
   simp only[X7];by_cases hx:x=0
   ·subst hx;simp
   ·have:(x:Rat)≠0:=λe=>hx (by exact_mod_cast e)
    simp[hx,this]
  |cons y k=>simp
theorem A0(p:Uo):(zp p).length=p.length:=Zb _
theorem Qxa{p:Uo}{i:Nat}{z:Int}(h:p[i]? = some z):(zp p)[i]? = some (z:Rat):=by simp[zp,h]
theorem NT(p:Uo)(i:Nat):(zp p).getD i 0=((p.getD i 0:Int):Rat):=by
 simp only[Qi,zp,Za];cases p[i]? <;> rfl
def Rb(s:Nat)(p:Ur):Prop:=∀q∈p,Qs s q
theorem Rb.mono{s t:Nat}{p:Ur}(h:Rb s p)(ht:s<=t):Rb t p:=λq hq=>(h q hq).mono ht
theorem Rb.get{s:Nat}{p:Ur}(h:Rb s p){i:Nat}{q:Rat}(hq:p[i]? = some q):Qs s q:=h q (Qa hq)
theorem As{s:Nat}{z:Int}(h:Fc z<=s)(h1:1<=s):Qs s (z:Rat):=⟨by simpa using h,Qc (show Fc ((1:Nat):Int)<=1 by decide) h1⟩
theorem zV{s:Nat}{p:Uo}(h:Bd s p)(h1:1<=s):Rb s (zp p):=λq hq=>by
 obtain⟨z,hz,rfl⟩:=Q9.1 hq;exact As (h z hz) h1
theorem Qp5{s:Nat}(h1:1<=s):Qs s 0:=As (z:=0) (by simp[Nj]) h1
theorem Rb.getD{s:Nat}{p:Ur}(h:Rb s p)(h1:1<=s)(i:Nat):Qs s (p.getD i 0):=by
 rw[Qi];cases e:p[i]? with
 |none=>exact Qp5 h1
 |some q=>exact h.get e
theorem Rb.trim{s:Nat}{p:Ur}(h:Rb s p):Rb s (Dd p):=λq hq=>h q (zP p q hq)
def VP(f:Nat->Rat)(n:Nat):Ur:=(List.range n).map f
theorem EE(f:Nat->Rat)(n:Nat):(VP f n).length=n:=by simp[VP]
theorem zL(f:Nat->Rat)(n:Nat):VP f (n+1)=VP f n++[f n]:=by simp[VP,Wb]
theorem Qqy{s n:Nat}{f:Nat->Rat}(h:∀i,i<n->Qs s (f i)):Rb s (VP f n):=λq hq=>by
 obtain⟨i,hi,rfl⟩:=Q9.1 hq;exact h i (Kj.1 hi)
theorem vS{f:Nat->Rat}{g:Nat->Int}(n:Nat)(h:∀i,i<n->f i=(g i:Rat)):VP f n=zp ((List.range n).map g):=by
 simp only[VP,zp,List.map_map];exact Xt λi hi=>h i (Kj.1 hi)
def Qdb(p q:Ur):Ur:=Dd (VP (λi=>p.getD i 0+q.getD i 0) (max p.length q.length))
def ZQ(p:Ur)(c:Rat):Ur:=Dd (VP (λi=>p.getD i 0*c) p.length)
def vW(p:Ur):Ur:=ZQ p (-1)
def Qsq(p q:Ur):Ur:=Qdb p (vW q)
theorem Qp7(p q:Uo):Qdb (zp p) (zp q)=zp (A5 p q):=by
 unfold Qdb A5 A4;rw[vS (g:=λk=>p.getD k 0+q.getD k 0) _ λi _=>by rw[NT,NT,Kc],Ev,A0,A0]
theorem zF(p:Uo)(c:Int):ZQ (zp p) (c:Rat)=zp (Fu p c):=by
 unfold ZQ Fu A4;rw[vS (g:=λk=>p.getD k 0*c) _ λi _=>by rw[NT,X1],Ev,A0]
theorem bO(p:Uo):Fu p (-1)=Mw p:=by
 unfold Fu Mw A4;congr 2;funext k;omega
theorem Qad(p:Uo):vW (zp p)=zp (Mw p):=by
 rw[<-bO,<-zF];rfl
theorem uC{p q:Uo}(hp:Fe p)(hq:Fe q)(h:∀k,p.getD k 0=q.getD k 0):p=q:=by
 have key:∀{p q:Uo},Fe q->(∀k,p.getD k 0=q.getD k 0)->q.length<=p.length:=by
  intro p q hq h;rcases Zc p.length q.length with h1|h1
  ·have h2:=H9 hq (by omega);rw[<-h,Qi,Qu (by omega)]at h2;exact(h2 rfl).elim
  ·exact h1
 exact CB (Kb (key hp λk=>(h k).symm) (key hq h)) λj _=>h j
theorem mE{n m:Nat}{f g:Nat->Int}(hn:n<=m)(h:∀k,k<n->f k=g k)(h0:∀k,n<=k->k<m->g k=0):A4 n f=A4 m g:=by
 refine uC (Fy _ _) (Fy _ _) λk=>?_
 rw[S9,S9];by_cases h1:k<n
 ·rw[if_pos h1,if_pos (by omega),h k h1]
 ·rw[if_neg h1];by_cases h2:k<m
  ·rw[if_pos h2,h0 k (by omega) h2]
  ·rw[if_neg h2]
theorem Qqf(p q:Uo):Qsq (zp p) (zp q)=zp (Na p q):=by
 unfold Qsq;rw[Qad,Qp7];congr 1;have hl:=XB q;unfold A5 Na;refine mE (by omega) (λk _=>?_) λk h1 h2=>?_
 ·unfold Mw;rw[S9]
  split
  ·omega
  ·rename_i h;have:q.getD k 0=0:=by rw[Qi,Qu (by omega)];rfl
   omega
 ·have h3:p.getD k 0=0:=by rw[Qi,Qu (by omega)];rfl
  have h4:(Mw q).getD k 0=0:=by rw[Qi,Qu (by omega)];rfl
  unfold Mw at h4;rw[S9]at h4
  split at h4
  ·omega
  ·have:q.getD k 0=0:=by rw[Qi,Qu (by omega)];rfl
   omega
end Orr
namespace Orr
open Go Go.Proofs Tryz
set_option maxRecDepth 10000
def frow(p:Ur):Uu:=p.map fr
theorem Ci(p:Ur):(frow p).length=p.length:=by simp[frow]
theorem XK{p:Ur}{i:Nat}{q:Rat}(h:p[i]? = some q):(frow p)[i]? = some (fr q):=Gx h
theorem OL(p:Ur)(q:Rat):frow (p++[q])=frow p++[fr q]:=by simp[frow]
theorem Qch(p:Ur):∀c∈frow p,c.length=4:=λc hc=>by obtain⟨x,_,rfl⟩:=Q9.1 hc;rfl
abbrev rp(p:Ur):LV:=.row (frow p)
theorem Qc1(q:Rat):∀c∈[fr q],c.length=4:=λc hc=>by rw[Qk.1 hc];rfl
theorem Qfx:Ul 246 [] [.agg (fr 0)]:=Ui func246 rfl [.k (KW (n:=0) (by decide))] rfl
theorem KG{p:Ur}:Ul 89 [.one (rp p)] [.one (rp (Dd p))]:=by
 refine Fv func89 rfl (ln 0 rfl rfl λhl=>?_);rw[Ci]at hl;have hpl:=Ci p;refine Uf [] rfl ?_;refine lp (S:=Nat) 0 (λL1 n=>(3,.v (.oi n))::L1) (λ_=>[]) id (λn=>n<=p.length/\∀j x,n<=j->p[j]? = some x->x=0) (frow p).length ⟨by rw[hpl];exact Qm _,λj x h1 h2=>by
  have:=(Qe.1 h2).1;rw[hpl]at h1;omega⟩ rfl (λ_ _=>rfl) rfl λn hs=>?_
 obtain⟨h1,h2⟩:=hs;cases n with
 |
  zero =>
  have e:=zH h1 (λj x h=>h2 j x h) (λh=>absurd h (by decide));exact Uh [.g 8 false (by simp),.f rfl,.i 0] rfl (by rw[e];rfl) (by simp[U3])
 |
  succ n =>
  obtain⟨x,hx⟩:=gxE (l:=p) (i:=n) (by omega);have hn:=Rat.num_eq_zero (q:=x);by_cases h0:x=0
  ·refine Ug [.g 8 true (by simp),.r 11 (eI (b:=(n:Int)) (by simp)),.x (XK hx),.k (Dv (z:=x.num)),.t (decide_eq_true (hn.2 h0)),.r 18 (eI (b:=(n:Int)) (by simp))] rfl ?_;exact rd n (by simp) ⟨by omega,λj y h3 h4=>by
    rcases Vl h3 with rfl|h3
    ·rw[hx]at h4;injection h4 with h4;rw[<-h4,h0]
    ·exact h2 j y h3 h4⟩ rfl
  ·have e:=zH h1 (λj x h=>h2 j x h) (λ_=>⟨x,hx,h0⟩);exact Uh [.g 8 true (by simp),.r 11 (eI (b:=(n:Int)) (by simp)),.x (XK hx),.k (Dv (z:=x.num)),.f (decide_eq_false λh=>h0 (hn.1 h)),.i (n+1)] rfl (by rw[e];simp[rp,frow,Jw]) (by simp[U3,hpl] <;> omega)
theorem Qrw{p:Ur}{i:Nat}(hi:i<1099511627776):Ul 323 [.one (rp p),.oi i] [.agg (fr (p.getD i 0))]:=by
 have hpl:=Ci p;by_cases h:i<p.length
 ·have e:p.getD i 0=p[i]:=by rw[Qi,Qf h];rfl
  rw[e];exact Ui func323 rfl [.g 7 false Um,.F,.x (XK (Qf h))] rfl
 ·have e:p.getD i 0=0:=by rw[Qi,Qu (by omega)];rfl
  rw[e];exact Ui func323 rfl [.g 7 false Um,.T,.k Qfx] rfl
theorem Qgb:Ul 178 [.one (ids [1])] [.one (rp (zp [1]))]:=by
 have cc:=KG (p:=zp [1]);rw[Ev,show trim [1]=[1] from rfl]at cc;refine Fv func178 rfl ?_;refine Uf [.o 3 51 4] rfl ?_;refine Uk (S:=Nat) 1 (λL1 i=>(7,.v (.oi i))::(3,.v (.one (.orow 0 4 none)))::L1) (λi=>[.row false 51 4 (frow ((zp [1]).take i))]) (λi=>1-i) (λi=>i<=1) 0 (by decide) rfl rfl λi hi=>?_
 rcases(show i=0\/i=1 by omega)with rfl|rfl
 ·refine go tt [.t rfl,.x (l:=jC [1]) (i:=0) (xs:=[.int .i64 1]) rfl,.k (KW (n:=1) (by decide)),.s (sz:=4) (Qc1 _)] rfl (by simp[U3,frow]) ?_;exact rd 1 (by omega) (by omega) rfl
 ·exact Uh [.f rfl,.k cc] rfl
theorem Qt6{p q:Ur}(hp:Rb 20000000 p)(hq:Rb 20000000 q)(hlp:p.length<=1000000)(hlq:q.length<=1000000):Ul 293 [.one (rp p),.one (rp q)] [.one (rp (Qdb p q))]:=by
 have h1:=Ci p;have h2:=Ci q;obtain⟨M,hM⟩:=nmE (max p.length q.length);have cc:=KG (p:=VP (λi=>p.getD i 0+q.getD i 0) M);unfold Qdb;rw[<-hM];refine Fv func293 rfl ?_;refine Uf [.o 5 51 4] rfl ?_;refine Uk (S:=Nat) 1 (λL1 i=>(6,.v (.oi i))::(5,.v (.one (.orow 0 4 none)))::L1) (λi=>[.row false 51 4 (frow (VP (λi=>p.getD i 0+q.getD i 0) i))]) (λi=>M-i) (λi=>i<=M) 0 (Qh _) rfl rfl λi hi=>?_
 have hol:(frow (VP (λi=>p.getD i 0+q.getD i 0) i)).length=i:=by rw[Ci,EE]
 by_cases h:i<M
 ·refine go tt [.r 12 (eI (b:=(M:Int)) (by omega)),.T,.k (Qrw (p:=p) (i:=i) (by omega)),.k (Qrw (p:=q) (i:=i) (by omega)),.k (pN (hp.getD (by decide) i) (hq.getD (by decide) i)),.s (sz:=4) (Qc1 _)] rfl (by simp[U3,hol,-List.getD_eq_getElem?_getD];omega) ?_;exact rd (i+1) (by omega) h (by rw[zL,OL];rfl)
 ·have e:i=M:=by omega
  rw[e];exact Uh [.r 12 (eI (b:=(M:Int)) (by omega)),.F,.k cc] rfl
theorem BB{p:Ur}{c:Rat}(hp:Rb 40000000 p)(hc:Qs 40000000 c)(hlp:p.length<=1000000):Ul 221 [.one (rp p),.agg (fr c)] [.one (rp (ZQ p c))]:=by
 have h1:=Ci p;have cc:=KG (p:=VP (λi=>p.getD i 0*c) p.length);unfold ZQ;refine Fv func221 rfl ?_;refine Uf [.o 5 51 4] rfl ?_;refine Uk (S:=Nat) 2 (λL1 i=>(9,.v (.oi i))::(5,.v (.one (.orow 1 4 none)))::L1) (λi=>[.blk 51 (fr c),.row false 51 4 (frow (VP (λi=>p.getD i 0*c) i))]) (λi=>p.length-i) (λi=>i<=p.length) 0 (Qh _) rfl rfl λi hi=>?_
 have hol:(frow (VP (λi=>p.getD i 0*c) i)).length=i:=by rw[Ci,EE]
 by_cases h:i<p.length
 ·have hg:p[i]? = some (p.getD i 0):=by rw[Qi,Qf h];rfl
  refine go tt [.T,.x (XK hg),.k (Qe1 (hp.getD (by decide) i) hc),.s (sz:=4) (Qc1 _)] rfl (by simp[U3,hol,-List.getD_eq_getElem?_getD];omega) ?_;exact rd (i+1) (by omega) h (by rw[zL,OL];rfl)
 ·have e:i=p.length:=by omega
  rw[e];exact Uh [.F,.k cc] rfl
theorem Qga{p:Ur}(hp:Rb 40000000 p)(hlp:p.length<=1000000):Ul 157 [.one (rp p)] [.one (rp (vW p))]:=by
 have cs:=BB (p:=p) (c:=-1) hp ⟨by decide,by decide⟩ hlp;have co:=KW (n:=-1) (by decide);rw[show((-1:Int):Rat)=-1 from rfl]at co;exact Ui func157 rfl [.k co,.k cs] rfl
theorem Qp3{s t:Nat}{a b:Rat}(ha:Qs s a)(hb:Qs t b):Qs (s+t+1) (a*b):=by
 rw[<-qG];unfold Gh;rw[if_neg (Jf (Dl a) (Dl b))];have h1:=Ga a.num b.num;have h2:=Ga (a.den:Int) (b.den:Int);have:=ha.1;have:=ha.2;have:=hb.1;have:=hb.2;exact Qs.divInt (by omega) (by omega) (by omega)
theorem Qv6{s:Nat}{p:Ur}(hp:Rb s p):Rb (s+2) (vW p):=by
 unfold vW ZQ;refine Rb.trim (Qqy λi hi=>?_);have h1:Qs (s+0) (p.getD i 0):=by
  have hi:i<p.length:=hi;rw[Qi,Qf hi];exact hp _ (Xv hi)
 have:=Qp3 h1 (show Qs 1 (-1:Rat) from⟨by decide,by decide⟩);exact this.mono (by omega)
theorem Qkc(p:Ur):(vW p).length<=p.length:=by
 unfold vW ZQ;exact Qc (zS _) (by rw[EE];exact Qm _)
theorem Qe2{a b:Int}(ha:Fc a<=40000000)(hb:Fc b<=40000000):Ul 120 [.agg (fr (a:Rat)),.agg (fr (b:Rat))] [.agg (fr ((a*b:Int):Rat))]:=by
 have h:=Qe1 (As ha (by decide)) (As hb (by decide));rw[<-X1]at h;exact h
theorem Qtf{a b:Int}(ha:Fc a<=20000000)(hb:Fc b<=20000000):Ul 50 [.agg (fr (a:Rat)),.agg (fr (b:Rat))] [.agg (fr ((a+b:Int):Rat))]:=by
 have h:=pN (As ha (by decide)) (As hb (by decide));rw[<-Kc]at h;exact h
theorem fQ(l:Uo)(i:Nat)(z:Int):(frow (zp l)).set i (fr (z:Rat))=frow (zp (l.set i z)):=by simp[frow,zp,Vu]
theorem Qlz{p:Uo}{i:Nat}(h:i<p.length):(zp p)[i]? = some ((p.getD i 0:Int):Rat):=Qxa (Ry h)
theorem So{p:Uo}{i:Nat}(h:i<p.length):(frow (zp p))[i]? = some (fr ((p.getD i 0:Int):Rat)):=XK (Qlz h)
theorem OE(p:Uo):(frow (zp p)).length=p.length:=by rw[Ci,A0]
abbrev zR:Ut:=[.nils,.bool false,.nils,.bool false]
theorem jS{n i:Nat}(h:i<n):(List.replicate i (fr 0)++List.replicate (n-i) zR).set i (fr 0)=List.replicate (i+1) (fr 0)++List.replicate (n-(i+1)) zR:=by
 rw[List.set_append_right _ _ (by simp),Jd,Ki,show n-i=n-(i+1)+1 by omega,J6 (n:=n-(i+1)),List.set_cons_zero,List.replicate_succ' (n:=i),Ze];rfl
theorem AU(n:Nat):List.replicate n (fr 0)++List.replicate (n-n) zR=frow (zp (List.replicate n 0)):=by simp[zp,frow]
theorem Qt8{p q:Uo}{s t:Nat}(hlp:p.length<=1000000)(hlq:q.length<=1000000)(hp:Bd s p)(hq:Bd t q)(hst:s+t<=19000000):Ul 220 [.one (rp (zp p)),.one (rp (zp q))] [.one (rp (zp (Gl p q)))]:=by
 have hpl:=OE p;have hql:=OE q;rcases Q3 p.length with h0|h0
 ·have e:Gl p q=[]:=by unfold Gl;rw[if_pos (.inl h0)]
  rw[e];exact Ui func220 rfl [.g 12 true Un,.t rfl] rfl
 rcases Q3 q.length with h1|h1
 ·have e:Gl p q=[]:=by unfold Gl;rw[if_pos (.inr h1)]
  rw[e];exact Ui func220 rfl [.g 12 false Um,.T] rfl
 have e:Gl p q=trim (Aq p q (List.replicate (p.length+q.length-1) 0) p.length):=by unfold Gl;rw[if_neg (by omega)]
 rw[e];obtain⟨N,hN⟩:=nmE (p.length+q.length-1);rw[<-hN];obtain⟨o,ho⟩:=nmE (List.replicate N (0:Int));rw[<-ho];have hol:o.length=N:=by rw[ho];simp
 have ho0:∀m,o.getD m 0=0:=λm=>by rw[ho];exact Cj N m
 have cc:=KG (p:=zp (Aq p q o p.length));rw[Ev]at cc;refine Fv func220 rfl ?_;refine Ug [.g 12 false Um,.F,.r 22 (eI (b:=(N:Int)) (by omega)),.i N,.i N,.r 25 (eI (b:=(N:Int)) (by simp))] rfl ?_;refine Uk (S:=Nat) 1 (λL1 i=>(26,.v (.oi i))::L1) (λi=>[.row false 51 4 (List.replicate i (fr 0)++List.replicate (N-i) zR)]) (λi=>N-i) (λi=>i<=N) 0 (Qh _) rfl rfl λi hi=>?_
 by_cases hlt:i<N
 ·refine Ug [.T,.k Qfx,.i i] rfl ?_;rw[jS hlt];exact rd (i+1) (by omega) hlt rfl
 have hiN:i=N:=by omega
 rw[hiN,AU,<-ho];clear hiN hlt hi;refine Uf [.F] rfl ?_;refine Uk (S:=Nat) 1 (λL1 i=>(36,.v (.oi i))::L1) (λi=>[.row false 51 4 (frow (zp (Aq p q o i)))]) (λi=>p.length-i) (λi=>i<=p.length) 0 (Qh _) rfl rfl λi hi=>?_
 by_cases hlt:i<p.length
 ·refine Uf [.T] rfl ?_;refine Uk (S:=Nat) 1 (λL1 k=>(41,.v (.oi k))::L1) (λk=>[.row false 51 4 (frow (zp (Oj (p.getD i 0) q i (Aq p q o i) k)))]) (λk=>q.length-k) (λk=>k<=q.length) 0 (Qh _) rfl rfl λk hk=>?_
  by_cases hk2:k<q.length
  ·have hm1:Fc ((Oj (p.getD i 0) q i (Aq p q o i) k).getD (i+k) 0)<=20000000:=Qc (Iu (t:=39) (yU (by rw[Li];omega) (yW (λj hj=>by omega) ho0 (λi j=>Nm (Ft hp i) (Ft hq j))) (λj=>Nm (Ft hp i) (Ft hq j)) (i+k)) (Kh (show i+1<549755813888 by omega) (by decide))) (by omega);have hm2:Fc (p.getD i 0*q.getD k 0)<=20000000:=Qc (Ga _ _) (by have:=Ft hp i;have:=Ft hq k;omega);have hml:(Oj (p.getD i 0) q i (Aq p q o i) k).length=N:=by rw[Ol,Li,hol]
   have cm:=Qe2 (a:=p.getD i 0) (b:=q.getD k 0) (Qc (Ft hp i) (by omega)) (Qc (Ft hq k) (by omega));have hfl:=OE (Oj (p.getD i 0) q i (Aq p q o i) k);refine go tt [.T,.i (i+k),.x (So (p:=Oj (p.getD i 0) q i (Aq p q o i) k) (i:=i+k) (by omega)),.x (So hlt),.x (So hk2),.k cm,.k (Qtf hm1 hm2),.i (i+k)] rfl (by simp[U3,hfl,-List.getD_eq_getElem?_getD] <;> omega) ?_;rw[fQ];exact rd (k+1) (by omega) hk2 rfl
  ·obtain rfl:k=q.length:=by omega
   exact go tt [.F] rfl (by simp[U3];omega) (rd (i+1) (by omega) hlt rfl)
 ·obtain rfl:i=p.length:=by omega
  exact Uh [.F,.k cc] rfl
def uT(p:Uo)(n:Nat):Uo:=(List.range n).map λk=>p.getD (k+1) 0*((k+1:Nat):Int)
theorem Qg9(p:Uo)(n:Nat):(uT p n).length=n:=by simp[uT]
theorem Qca(p:Uo)(n:Nat):uT p (n+1)=uT p n++[p.getD (n+1) 0*((n+1:Nat):Int)]:=by simp[uT,Wb]
theorem kK(p:Uo)(z:Int):frow (zp (p++[z]))=frow (zp p)++[fr (z:Rat)]:=by simp[frow,zp]
theorem Qf9{p:Uo}(hp:Bd 40000000 p)(hl:p.length<=1000000):Ul 91 [.one (rp (zp p))] [.one (rp (zp (Gy p)))]:=by
 have hpl:=OE p;have cc:=KG (p:=zp (uT p (p.length-1)));rw[Ev]at cc;refine Fv func91 rfl ?_;refine Uf [.o 3 51 4] rfl ?_;refine Uk (S:=Nat) 1 (λL1 j=>(4,.v (.oi ((j+1:Nat):Int)))::(3,.v (.one (.orow 0 4 none)))::L1) (λj=>[.row false 51 4 (frow (zp (uT p j)))]) (λj=>p.length-j) (λj=>j<=p.length-1) 0 (Qh _) rfl rfl λj hj=>?_
 have hfl:=OE (uT p j);rw[Qg9]at hfl;by_cases h:j+1<p.length
 ·have hk:Fc ((j+1:Nat):Int)<=40000000:=Qc (jE (t:=38) (k:=j+1) (Kh (show j+1<274877906944 by omega) (by decide))) (by decide);refine go tt [.T,.x (So h),.k (KW (n:=((j+1:Nat):Int)) (by omega)),.k (Qe2 (Ft hp (j+1)) hk),.s (sz:=4) (Qc1 _)] rfl (by simp[U3,hfl,-List.getD_eq_getElem?_getD] <;> omega) ?_;exact rd (j+1) (by omega) (by omega) (by rw[Qca,kK];rfl)
 ·have e:j=p.length-1:=by omega
  rw[e];exact Uh [.F,.k cc] rfl
theorem Qqb:[LV.nils,LV.bool false].map FG=ri 0:=by
 show _=[nd 0,sg 0];unfold nd dl;rw[Hx];rfl
end Orr
namespace Orr
def Hh(p:Uo):Int:=p.getD (p.length-1) 0
def ER(a b:Uo):Int:=if Hh b<0 then -(Hh a)else Hh a
def WT(a b:Uo)(i:Nat):Int:=a.getD i 0*((Hh b).natAbs:Int)-(if a.length-b.length<=i then ER a b*b.getD (i-(a.length-b.length)) 0 else 0)
def tU(a b:Uo):Uo:=A4 a.length (WT a b)
inductive RRun (b:List Int):Nat->List Int->List Int->Prop
 |stop {a:List Int}:a.length<b.length->RRun b 0 a a
 |step {k:Nat} {a r:List Int}:b.length<=a.length->a.length<=1000->Bd 9000000 a->Bd 9000000 b->RRun b k (tU a b) r->RRun b (k+1) a r
def I5(p:Uo):Nat->Nat
 | 0=>0
 |i+1=>Int.gcd (I5 p i:Nat) (p.getD i 0)
def UH(p:Uo):Nat:=I5 p p.length
theorem HM(p:Uo):∀{i j:Nat},j<i->((I5 p i:Nat):Int)∣p.getD j 0
 | 0,_,h=>absurd h (Uc _)
 |
  i+1,j,h=>by
  simp only[I5];rcases Zc j i with h1|h1
  ·exact V5 (Int.gcd_dvd_left ..) (HM p h1)
  ·rw[show j=i by omega];exact Ww ..
theorem uQ(p:Uo)(j:Nat):((UH p:Nat):Int)∣p.getD j 0:=by
 rcases Zc j p.length with h|h
 ·exact HM p h
 ·rw[Qi,Qu h];exact Int.dvd_zero _
theorem ZI{s:Nat}{p:Uo}(h:Bd s p):∀i,Fc ((I5 p i:Nat):Int)<=s
 | 0=>by simp[I5,Nj]
 |
  i+1=>by
  simp only[I5];by_cases h0:p.getD i 0=0
  ·rw[h0,Int.gcd_zero_right];exact ZI h i
  ·have h1:=Ww (I5 p i:Nat) (p.getD i 0);have h2:(Int.gcd (I5 p i:Nat) (p.getD i 0))<=(p.getD i 0).natAbs:=Kv (by omega) (by simpa using X3.2 h1);have h3:=Ft h i;rw[S0]at h3 ⊢;simp only[Xi];omega
theorem Qb1{p:Uo}{j i:Nat}(hj:j<i)(h:p.getD j 0≠0):0<I5 p i:=by
 have:=HM p hj;rcases Q3 (I5 p i)with h0|h0
 ·rw[h0]at this;exact absurd (Int.zero_dvd.1 this) h
 ·exact h0
theorem uZ{p:Uo}(ht:Fe p)(h:0<p.length):0<UH p:=Qb1 (j:=p.length-1) (by omega) (H9 ht h)
def Eb(p:Uo):Int:=if Hh p<0 then -((UH p:Nat):Int)else((UH p:Nat):Int)
def To(p:Uo):Uo:=A4 p.length λi=>p.getD i 0 / Eb p
def Bm(p:Uo):Uo:=if Hh p<0 then Mw (To p)else To p
theorem Qcf(p:Uo)(j:Nat):Eb p∣p.getD j 0:=by
 unfold Eb
 split
 ·exact Ue.2 (uQ p j)
 ·exact uQ p j
theorem Qhm{p:Uo}(ht:Fe p)(h:0<p.length):Eb p≠0:=by
 have:=uZ ht h;unfold Eb
 split <;> omega
theorem OW{s:Nat}{p:Uo}(h:Bd s p):Fc (Eb p)<=s:=by
 unfold Eb
 split
 ·rw[Ho];exact ZI h _
 ·exact ZI h _
theorem cT{p:Uo}{c:Int}(hc:c≠0)(hd:∀j,c∣p.getD j 0):ZQ (zp p) (1 / (c:Rat))=zp (A4 p.length λi=>p.getD i 0 / c):=by
 unfold ZQ A4;rw[vS (g:=λi=>p.getD i 0 / c) _ λi _=>?_,Ev,A0];obtain⟨k,hk⟩:=hd i;have hc':(c:Rat)≠0:=λe=>hc (by exact_mod_cast e)
 rw[NT,hk,Jc _ hc,X1];grind
theorem NE{s:Nat}{p:Uo}(h:Bd s p):Bd s (To p):=JI λi _=>Qc (XS _ _) (Ft h i)
theorem RR(p:Uo):(To p).length<=p.length:=I8 _ _
theorem Qa1{s:Nat}{p:Uo}(h:Bd s p):Bd s (Bm p):=by
 unfold Bm
 split
 ·exact PO (NE h)
 ·exact NE h
theorem nN(p:Uo):(Bm p).length<=p.length:=by
 unfold Bm
 split
 ·exact Qc (XB _) (RR p)
 ·exact RR p
inductive GRun:Nat->List Int->List Int->List Int->Prop
 |stop (a:List Int):GRun 0 a [] a
 |step {k m:Nat} {a b r g:List Int}:0<b.length->b.length<=1000->Bd 9000000 b->RRun b m a r->r.length<=1000->Bd 9000000 r->Fe r->GRun k b (To r) g->GRun (k+1) a b g
theorem GRun.inv{k:Nat}{a b g:Uo}(h:GRun k a b g):(k=0/\b.length=0/\a=g)\/∃j m r,k=j+1/\0<b.length/\b.length<=1000/\Bd 9000000 b/\RRun b m a r/\r.length<=1000/\Bd 9000000 r/\Fe r/\GRun j b (To r) g:=by
 cases h with
 |stop=>exact .inl ⟨rfl,rfl,rfl⟩
 |step h1 h2 h3 h4 h5 h6 h7 h8=>exact .inr ⟨_,_,_,rfl,h1,h2,h3,h4,h5,h6,h7,h8⟩
def ZZ(k:Nat)(p:Uo):Uo:=List.replicate k 0++p
theorem cD(k:Nat)(p:Uo):(ZZ k p).length=k+p.length:=by simp[ZZ]
theorem Qa2{s k:Nat}{p:Uo}(h:Bd s p):Bd s (ZZ k p):=λz hz=>by
 rcases Qp.1 hz with h1|h1
 ·rw[Zw h1,Nj];exact Qh _
 ·exact h z h1
inductive DRun (b:List Int):Nat->List Int->List Int->List Int->List Int->Prop
 |stop {a q:List Int}:a.length<b.length->DRun b 0 a q q a
 |step {k:Nat} {a q qf r:List Int}:b.length<=a.length->a.length<=1000->Bd 9000000 a->Hh b≠0->Hh b∣Hh a->a.length-b.length<q.length ->
  DRun b k (Na a (ZZ (a.length-b.length) (Fu b (Hh a / Hh b)))) (q.set (a.length-b.length) (Hh a / Hh b)) qf r->DRun b (k+1) a q qf r
theorem DRun.inv{b a q qf r:Uo}{k:Nat}(h:DRun b k a q qf r):(k=0/\q=qf/\a=r/\a.length<b.length)\/∃j,k=j+1/\b.length<=a.length/\a.length<=1000/\Bd 9000000 a/\Hh b≠0/\Hh b∣Hh a/\a.length-b.length<q.length /\
 DRun b j (Na a (ZZ (a.length-b.length) (Fu b (Hh a / Hh b)))) (q.set (a.length-b.length) (Hh a / Hh b)) qf r:=by
 cases h with
 |stop h=>exact .inl ⟨rfl,rfl,rfl,h⟩
 |step h1 h2 h3 h4 h5 h6 h7=>exact .inr ⟨_,rfl,h1,h2,h3,h4,h5,h6,h7⟩
def M5(l:Up):Uo:=l.getD (l.length-1) []
inductive LRun:Nat->List (List Int)->List (List Int)->Prop
 |stop {l:List (List Int)}:(M5 l).length<=1->LRun 0 l l
 |step {k m:Nat} {l f:List (List Int)} {g:List Int}:1<(M5 l).length->(M5 l).length<=1000->Fe (M5 l)->Bd 9000000 (M5 l)->Bd 9000000 (Gy (M5 l))->GRun m (To (M5 l)) (To (Gy (M5 l))) g->l.length<=1000->LRun k (l++[g]) f->LRun (k+1) l f
theorem LRun.inv{k:Nat}{l f:Up}(h:LRun k l f):(k=0/\l=f/\(M5 l).length<=1)\/∃j m g,k=j+1/\1<(M5 l).length/\(M5 l).length<=1000/\Fe (M5 l)/\Bd 9000000 (M5 l)/\Bd 9000000 (Gy (M5 l))/\GRun m (To (M5 l)) (To (Gy (M5 l))) g/\l.length<=1000/\LRun j (l++[g]) f:=by
 cases h with
 |stop h=>exact .inl ⟨rfl,rfl,h⟩
 |step h1 h2 h3 h4 h5 h6 h7 h8=>exact .inr ⟨_,_,_,rfl,h1,h2,h3,h4,h5,h6,h7,h8⟩
def DOk(a b q:Uo):Prop:=0<b.length/\b.length<=1000/\a.length<=1000/\Bd 9000000 b/\∃qf r n,Bd 9000000 qf/\qf.length<=1000/\DRun b n a (List.replicate (a.length+1-b.length) 0) qf r/\q=trim qf
theorem DOk.bd{a b q:Uo}(h:DOk a b q):Bd 9000000 q:=by
 obtain⟨_,_,_,_,qf,r,n,h1,_,_,rfl⟩:=h;exact Ty h1
theorem DOk.len{a b q:Uo}(h:DOk a b q):q.length<=1000:=by
 obtain⟨_,_,_,_,qf,r,n,_,h1,_,rfl⟩:=h;exact Qc (H8 _) h1
theorem DOk.trim{a b q:Uo}(h:DOk a b q):Fe q:=by
 obtain⟨_,_,_,_,qf,r,n,_,_,_,rfl⟩:=h;exact Rt _
def Qxh(a b c f:Uo):Prop:=∃x y z,DOk a b x/\DOk b c y/\DOk (To x) (To y) z/\f=To z
structure FRun(a:List Int)(m:Nat)(f:Nat->List Int):Prop where
 run:∃n l,LRun n [To a] l/\l.length=m+1/\∀k,k<m->Qxh ((l++[[1]]).getD k []) ((l++[[1]]).getD (k+1) []) ((l++[[1]]).getD (k+2) []) (f k)
 small:m<=1000
def EL(f:Nat->Uo)(n:Nat):Up:=(List.range n).map f
theorem sX(f:Nat->Uo)(n:Nat):(EL f n).length=n:=by simp[EL]
theorem Qdm(f:Nat->Uo)(n:Nat):EL f (n+1)=EL f n++[f n]:=by simp[EL,Wb]
theorem Qlb{f:Nat->Uo}{n i:Nat}(h:i<n):(EL f n)[i]? = some (f i):=by simp[EL,X2 h]
theorem nW{l:Up}{i:Nat}(h:i<l.length):l[i]? = some (l.getD i []):=by
 rw[Qi,Qf h];rfl
def Oy(f:Nat->Uo):Nat->Uo
 | 0=>[1]
 |i+1=>Gl (Oy f i) (f i)
def Qxg(m:Nat)(f:Nat->Uo):Prop:=∀i,i<m->Bd 9000000 (Oy f i)/\(Oy f i).length<=1000/\Bd 9000000 (f i)/\(f i).length<=1000
inductive CRun:Nat->List (List Int)->List Int->List (List Int)->Prop
 |stop {l:List (List Int)} {g:List Int}:g.length=0->CRun 0 l g l
 |step {k m:Nat} {l f:List (List Int)} {g r:List Int}:0<g.length->g.length<=1000->Bd 9000000 g->RRun g m (M5 l) r->Fe r->Bd 9000000 r->r.length<=1000->0<l.length->l.length<=1000->CRun k (l++[g]) (Mw (Bm r)) f->CRun (k+1) l g f
theorem CRun.inv{k:Nat}{l f:Up}{g:Uo}(h:CRun k l g f):(k=0/\l=f/\g.length=0)\/∃j m r,k=j+1/\0<g.length/\g.length<=1000/\Bd 9000000 g/\RRun g m (M5 l) r/\Fe r/\Bd 9000000 r/\r.length<=1000/\0<l.length/\l.length<=1000/\CRun j (l++[g]) (Mw (Bm r)) f:=by
 cases h with
 |stop h=>exact .inl ⟨rfl,rfl,h⟩
 |step h1 h2 h3 h4 h5 h6 h7 h8 h9 h10=>exact .inr ⟨_,_,_,rfl,h1,h2,h3,h4,h5,h6,h7,h8,h9,h10⟩
structure ChRun(a:List Int)(sq:List Int)(c:List (List Int)):Prop where
 fac:∃m f,FRun a m f/\Qxg m f/\sq=Oy f m
 Ea:∃n,CRun n [sq] (Bm (Gy sq)) c
 bd:Bd 8000000 sq
 len:sq.length<=1000
 small:c.length<=1000
def Qd5(q:Rat)(c:Up):Prop:=∃sq,ChRun [-q.num,(q.den:Int)] sq c
end Orr
namespace Orr
open Go Go.Proofs Tryz
set_option maxRecDepth 10000
theorem RRun.inv{b a r:Uo}{k:Nat}(h:RRun b k a r):(k=0/\a=r/\a.length<b.length)\/(∃j,k=j+1/\b.length<=a.length/\a.length<=1000/\Bd 9000000 a/\Bd 9000000 b/\RRun b j (tU a b) r):=by
 cases h with
 |stop h=>exact .inl ⟨rfl,rfl,h⟩
 |step h1 h2 h3 h4 h5=>exact .inr ⟨_,rfl,h1,h2,h3,h4,h5⟩
theorem Qqg{a b:Uo}(ha:Bd 9000000 a):Fc (ER a b)<=9000000:=by
 unfold ER;split
 ·rw[Ho];exact Ft ha _
 ·exact Ft ha _
theorem Qqa(n:Nat):ri (n:Int)=[nd n,.bool false]:=by
 show [nd n,sg (n:Int)]=_;unfold sg;rw[decide_eq_false (by omega)]
def vF(a b:Uo)(n:Nat):Uo:=(List.range n).map (WT a b)
theorem Qkj(a b:Uo)(n:Nat):(vF a b n).length=n:=by simp[vF]
theorem zG(a b:Uo)(n:Nat):vF a b (n+1)=vF a b n++[WT a b n]:=by simp[vF,Wb]
theorem eQ{a0 b res:Uo}{n:Nat}(hb0:0<b.length)(hb1:b.length<=1000)(hbb0:Bd 9000000 b)(hrun:RRun b n a0 res):Ul 158 [.one (rp (zp a0)),.one (rp (zp b))] [.one (rp (zp res))]:=by
 have hbl:=OE b;have hle:Fc (((Hh b).natAbs:Nat):Int)<=9000000:=Ft hbb0 _;refine Fv func158 rfl ?_;refine Ug [.r 15 (eI (b:=((b.length-1:Nat):Int)) (by omega)),.x (So (p:=b) (i:=b.length-1) (by omega))] rfl ?_;refine sb [(0,.v (.one (rp (zp a0)))),(1,.v (.one (rp (zp b)))),(5,.v (.one (.ow 0 0))),(6,.v (.one (.ow 1 0)))] [.blk 49 (ri (Hh b)),.blk 49 [nd (Hh b).natAbs,.bool false]] rfl rfl ?_;refine Uk (S:=Nat×Uo) 2 (λL1 s=>(0,.v (.one (rp (zp s.2))))::L1) (λ_=>[.blk 49 (ri (Hh b)),.blk 49 [nd (Hh b).natAbs,.bool false]]) (λs=>s.1) (λs=>RRun b s.1 s.2 res) (n,a0) hrun rfl rfl λ⟨k,a⟩ hs=>?_
 have hal:=OE a;have hs:RRun b k a res:=hs;rcases RRun.inv hs with⟨rfl,rfl,h1⟩|⟨j,rfl,h1,h2,ha,hb,hr⟩
 ·exact Uh [.f (decide_eq_false (by dsimp only;omega))] rfl
 obtain⟨K,hK⟩:=nmE (a.length-b.length);have htb:=Qqg (b:=b) ha;have cc:=KG (p:=zp (vF a b a.length));rw[Ev,show trim (vF a b a.length)=tU a b from rfl]at cc;refine Ug [.t (decide_eq_true (by dsimp only;omega)),.r 30 (eI (b:=(K:Int)) (by dsimp only;omega)),.r 34 (eI (b:=((a.length-1:Nat):Int)) (by dsimp only;omega)),.x (So (p:=a) (i:=a.length-1) (by omega))] rfl ?_;refine ct 1 (S:=Unit) (λ_=>[(0,.v (.one (rp (zp a)))),(1,.v (.one (rp (zp b)))),(5,.v (.one (.ow 0 0))),(6,.v (.one (.ow 1 0))),(7,.v (.oi K)),(8,.v (.one (.ow 2 0)))]) (λ_=>[.blk 49 (ri (Hh b)),.blk 49 [nd (Hh b).natAbs,.bool false],.blk 49 (ri (ER a b))]) (λ_=>True) rfl ?_ (λ_ _=>?_)
 ·by_cases hn:Hh b<0
  ·have e:ER a b=-(Hh a):=if_pos hn;rw[e];exact go tt [.t (decide_eq_true hn),.k (QK (z:=Hh a))] rfl trivial (rc () trivial rfl)
  ·have e:ER a b=Hh a:=if_neg hn;rw[e];exact go tt [.f (decide_eq_false hn)] rfl trivial (rc () trivial rfl)
 refine Uf [.o 9 51 4] rfl ?_;refine Uk (S:=Nat) 4 (λL1 i=>(44,.v (.oi i))::(9,.v (.one (.orow 3 4 none)))::L1) (λi=>[.blk 49 (ri (Hh b)),.blk 49 [nd (Hh b).natAbs,.bool false],.blk 49 (ri (ER a b)),.row false 51 4 (frow (zp (vF a b i)))]) (λi=>a.length-i) (λi=>i<=a.length) 0 (Qh _) rfl rfl λi hi=>?_
 have hfl:=OE (vF a b i);rw[Qkj]at hfl;by_cases h:i<a.length
 ·have cm:=Ac (a:=a.getD i 0) (b:=(((Hh b).natAbs:Nat):Int)) (Qc (Ft ha i) (by decide)) (by omega);have hm:=Ga (a.getD i 0) (((Hh b).natAbs:Nat):Int);have hai:=Ft ha i;rw[Qqa (Hh b).natAbs]at cm;by_cases hk:K<=i
  ·have hbi:=Ft hb (i-K);have hm2:=Ga (ER a b) (b.getD (i-K) 0);have e:WT a b i=a.getD i 0*(((Hh b).natAbs:Nat):Int)-ER a b*b.getD (i-K) 0:=by unfold WT;rw[if_pos (by omega),hK]
   refine go tt [.T,.x (So h),.k cm,.T,.r 62 (eI (b:=((i-K:Nat):Int)) (by omega)),.x (So (p:=b) (i:=i-K) (by omega)),.k (Ac (a:=ER a b) (b:=b.getD (i-K) 0) (by omega) (by omega)),.k (Qfy (by omega) (by omega)),.k (ZE (n:=1) (by decide)),.k (Ab (n:=a.getD i 0*(((Hh b).natAbs:Nat):Int)-ER a b*b.getD (i-K) 0)),.s (sz:=4) (Qc1 _)] rfl (by simp[U3,hfl,-List.getD_eq_getElem?_getD] <;> omega) ?_;exact rd (i+1) (by omega) h (by rw[zG,kK,e];rfl)
  ·have e:WT a b i=a.getD i 0*(((Hh b).natAbs:Nat):Int):=by unfold WT;rw[if_neg (by omega),Int.sub_zero]
   refine go tt [.T,.x (So h),.k cm,.F,.k (ZE (n:=1) (by decide)),.k (Ab (n:=a.getD i 0*(((Hh b).natAbs:Nat):Int))),.s (sz:=4) (Qc1 _)] rfl (by simp[U3,hfl,-List.getD_eq_getElem?_getD] <;> omega) ?_;exact rd (i+1) (by omega) h (by rw[zG,kK,e];rfl)
 ·have e:i=a.length:=by omega
  rw[e];exact go tt [.F,.k cc] rfl trivial (rd (j,tU a b) (by omega) hr rfl)
theorem Qt5:Ul 73 [.agg (ri 1),.agg (ri 1)] [.agg (ri 1)]:=Ac (a:=1) (b:=1) (by decide) (by decide)
theorem Qno:Ul 138 [.agg (ri 1),.agg (ri 1)] [.agg (ri 1)]:=xI (a:=1) (b:=1) (by decide) (by decide)
theorem Qm4{z:Int}(hz:Fc z<=90000000):Ul 73 [.agg (ri z),.agg (ri 1)] [.agg (ri z)]:=by
 have h:=Ac (a:=z) (b:=1) (by omega) (by decide);rwa[Ud]at h
theorem lM{z:Int}(hz:Fc z<=90000000):Ul 139 [.agg (ri z),.agg (ri 1)] [.agg (ri z)]:=by
 have h:=BP (a:=z) (b:=1) hz (by decide) (by decide) (Int.emod_one z);rwa[Int.ediv_one]at h
theorem Qe3{z:Int}:Ul 87 [.agg (fr (z:Rat))] [.agg (fr ((-z:Int):Rat))]:=by
 have h:=Qtr (a:=(z:Rat));rwa[<-Vn]at h
theorem Qv4{c:Int}(hc:c≠0)(hs:Fc c<=9000000):Qs 40000000 (((1:Int):Rat) / (c:Rat)):=by
 have h0:(c:Rat)≠0:=λe=>hc (by exact_mod_cast e)
 rw[<-zX h0];unfold Gh;rw[if_neg (Jf (Dl _) (λe=>hc (by simpa using e)))];refine Qs.divInt (by show Fc (1*1)<=_;decide) ?_ (by decide);show Fc (1*c)<=_;rw[Kq];omega
theorem pI{p:Uo}{c:Int}(hc:c≠0)(hs:Fc c<=9000000)(hd:∀j,c∣p.getD j 0)(hp:Bd 9000000 p)(hl:p.length<=1000):Ul 221 [.one (rp (zp p)),.agg (fr (((1:Int):Rat) / (c:Rat)))] [.one (rp (zp (A4 p.length λi=>p.getD i 0 / c)))]:=by
 have h:=BB ((zV hp (by omega)).mono (by omega)) (Qv4 hc hs) (by rw[A0];omega);rwa[show((1:Int):Rat)=1 from rfl,cT hc hd]at h
theorem QU{p:Uo}(tp:Fe p)(hp:Bd 9000000 p)(hl:p.length<=1000):Ul 189 [.one (rp (zp p))] [.agg (fr ((Eb p:Int):Rat)),.one (rp (zp (To p)))]:=by
 have hpl:=OE p;rcases Q3 p.length with h0|h0
 ·have e:=Qj h0;subst e;exact Ui func189 rfl [.t rfl,.k Qfx] rfl
 have hc:=Qhm tp h0;refine Fv func189 rfl ?_;refine Uf [.F,.k (ZE (n:=1) (by decide))] rfl ?_;refine Uk (S:=Nat) 2 (λL1 i=>(16,.v (.oi i))::L1) (λi=>[.blk 51 [.nils,.bool false,.nils,.bool false],.blk 49 (ri 1)]) (λi=>p.length-i) (λi=>i<=p.length) 0 (Qh _) rfl rfl λi hi=>?_
 by_cases h:i<p.length
 ·refine Ug [.T,.x (So h),.k Qt5,.x (So h),.k Qno,.k (lM (z:=1) (by decide))] rfl ?_;exact rd (i+1) (by omega) h rfl
 refine Uf [.F] rfl ?_;clear h hi;refine nlb 2 rfl rfl rfl ?_;rw[Qqb];refine Uk (S:=Nat) 3 (λL1 i=>(37,.v (.oi i))::L1) (λi=>[.blk 51 [.nils,.bool false,.nils,.bool false],.blk 49 (ri 1),.blk 49 (ri ((I5 p i:Nat):Int))]) (λi=>p.length-i) (λi=>i<=p.length) 0 (Qh _) rfl rfl λi hi=>?_
 by_cases h:i<p.length
 ·have hb:=Ft hp i;have hg:=ZI hp i;refine Ug [.T,.x (So h),.k (Qm4 (z:=p.getD i 0) (by omega)),.x (So h),.k (lM (z:=p.getD i 0) (by omega)),.k (xI (a:=((I5 p i:Nat):Int)) (b:=p.getD i 0) (by omega) (by omega))] rfl ?_;exact rd (i+1) (by omega) h rfl
 have e:i=p.length:=by omega
 rw[e];have co:=KW (n:=1) (by decide);have cs:=pI hc (OW hp) (Qcf p) hp hl;by_cases hn:Hh p<0
 ·have e2:Eb p=-((UH p:Nat):Int):=if_pos hn;rw[show(λi=>p.getD i 0 / Eb p)=λi=>p.getD i 0 / Eb p from rfl]at cs;have cn:=Qe3 (z:=((UH p:Nat):Int));rw[<-e2]at cn;exact Uh [.F,.k (Ab (n:=((UH p:Nat):Int))),.r 62 (eI (b:=((p.length-1:Nat):Int)) (by omega)),.x (So (p:=p) (i:=p.length-1) (by omega)),.t (decide_eq_true hn),.k cn,.k co,.k (pA (a:=((1:Int):Rat)) (b:=((Eb p:Int):Rat)) ⟨by decide,by decide⟩ (As (by have:=OW hp;omega) (by decide)) (λe=>hc (by exact_mod_cast e))),.k cs] rfl rfl (by simp[U3];omega)
 ·have e2:Eb p=((UH p:Nat):Int):=if_neg hn;have cm:=Ab (n:=Eb p);rw[e2]at cm cs hc ⊢;exact Uh [.F,.k cm,.r 62 (eI (b:=((p.length-1:Nat):Int)) (by omega)),.x (So (p:=p) (i:=p.length-1) (by omega)),.f (decide_eq_false hn),.k co,.k (pA (a:=((1:Int):Rat)) (b:=((((UH p:Nat):Int):Int):Rat)) ⟨by decide,by decide⟩ (As (by have:=ZI hp p.length;unfold UH;omega) (by decide)) (λe=>hc (by exact_mod_cast e))),.k cs] rfl (by unfold To;rw[e2];rfl) (by simp[U3];omega)
theorem QW{p:Uo}(tp:Fe p)(hp:Bd 9000000 p)(hl:p.length<=1000):Ul 116 [.one (rp (zp p))] [.one (rp (zp (To p)))] :=
 Ui func116 rfl [.k (QU tp hp hl)] rfl
theorem OU{p:Uo}(tp:Fe p):Eb p<0↔Hh p<0:=by
 unfold Eb;rcases Q3 p.length with h0|h0
 ·have:=Qj h0;subst this;decide
 ·have:=uZ tp h0
  split <;> omega
theorem Qf6{p:Uo}(hp:Bd 9000000 p)(hl:p.length<=1000000):Ul 157 [.one (rp (zp p))] [.one (rp (zp (Mw p)))]:=by
 have h:=Qga ((zV hp (by decide)).mono (by decide)) (by rw[A0];exact hl);rwa[Qad]at h
theorem wN{p:Uo}(tp:Fe p)(hp:Bd 9000000 p)(hl:p.length<=1000):Ul 156 [.one (rp (zp p))] [.one (rp (zp (Bm p)))]:=by
 by_cases hn:Hh p<0
 ·have e:Bm p=Mw (To p):=if_pos hn;rw[e];exact Ui func156 rfl [.k (QU tp hp hl),.t (decide_eq_true ((OU tp).2 hn)),.k (Qf6 (NE hp) (Qc (RR p) (by omega)))] rfl
 ·have e:Bm p=To p:=if_neg hn;rw[e];exact Ui func156 rfl [.k (QU tp hp hl),.f (decide_eq_false λh=>hn ((OU tp).1 h))] rfl
end Orr
namespace Orr
section
variable{x d:Int}(hd:0<d)(hg:Int.gcd x d=1)(hx:Fc x<=2000000)(hs:Fc d<=2000000)
include hd in
include hd in
include hd in
include hd hx hs in
include hd hx hs in
include hd hx hs in
include hd hg hx hs in
include hd hg hx hs in
end
end Orr
namespace Orr
open Go Go.Proofs Tryz
set_option maxRecDepth 10000
theorem Qt7{a b g:Uo}{n:Nat}(ta:Fe a)(tb:Fe b)(ha:Bd 9000000 a)(hb:Bd 9000000 b)(la:a.length<=1000)(lb:b.length<=1000)(hrun:GRun n (To a) (To b) g):Ul 161 [.one (rp (zp a)),.one (rp (zp b))] [.one (rp (zp g))]:=by
 refine Fv func161 rfl ?_;refine Uf [.k (QW ta ha la),.k (QW tb hb lb)] rfl ?_;refine sb [(0,.v (.one (rp (zp (To a))))),(1,.v (.one (rp (zp (To b)))))] [] rfl rfl ?_;refine Uk (S:=Nat×Uo×Uo) 0 (λL1 s=>(0,.v (.one (rp (zp s.2.1))))::(1,.v (.one (rp (zp s.2.2))))::L1) (λ_=>[]) (λs=>s.1) (λs=>GRun s.1 s.2.1 s.2.2 g) (n,To a,To b) hrun rfl rfl λ⟨k,x,y⟩ hs=>?_
 have hs:GRun k x y g:=hs;have hyl:=OE y;rcases hs.inv with⟨hk,hy0,hxg⟩|⟨j,m2,r,hk,hy0,hy1,hyb,hrr,hrl,hrb,hrt,hgr⟩
 ·rw[<-hxg];exact Uh [.f (decide_eq_false (by dsimp only;omega))] rfl
 ·subst hk;refine Uf [.t (decide_eq_true (by dsimp only;omega)),.k (eQ (a0:=x) (b:=y) (res:=r) hy0 hy1 hyb hrr),.k (QW (p:=r) hrt hrb hrl)] rfl ?_;exact rd (j,y,To r) (by dsimp only;omega) hgr rfl
theorem Qm7{x y:Int}(hx:Fc x<=9000000)(hy:Fc y<=9000000)(h0:y≠0)(hd:y∣x):Ul 247 [.agg (fr (x:Rat)),.agg (fr (y:Rat))] [.agg (fr ((x / y:Int):Rat))]:=by
 have hy0:(y:Rat)≠0:=λe=>h0 (by exact_mod_cast e)
 have h:=pA (As (s:=40000000) (z:=x) (by omega) (by omega)) (As (s:=40000000) (z:=y) (by omega) (by omega)) hy0;obtain⟨k,rfl⟩:=hd;rw[Jc _ h0];rwa[show(((y*k:Int):Rat)) / (y:Rat)=(k:Rat) by rw[X1];grind]at h
theorem Qbw{p:Uo}{c:Int}(hp:Bd 40000000 p)(hc:Fc c<=40000000)(hl:p.length<=1000000):Ul 221 [.one (rp (zp p)),.agg (fr (c:Rat))] [.one (rp (zp (Fu p c)))]:=by
 have h:=BB (zV hp (by omega)) (As hc (by omega)) (by rw[A0];exact hl);rwa[zF]at h
theorem Qqr(k:Nat)(p:Uo):frow (zp (List.replicate k 0))++frow (zp p)=frow (zp (ZZ k p)):=by simp[zp,ZZ,frow]
theorem Qci(l:Uo)(i:Nat)(z:Int):(frow (zp l)).set i [nd ((z:Rat)).num.natAbs,sg ((z:Rat)).num,nd (((z:Rat)).den:Int).natAbs,sg (((z:Rat)).den:Int)]=frow (zp (l.set i z)):=fQ l i z
theorem Qnx{p q:Uo}(hp:Bd 18000000 p)(hq:Bd 18000000 q)(hlp:p.length<=1000000)(hlq:q.length<=1000000):U6 prog 262 [.one (rp (zp p)),.one (.orow 0 4 none)] [.row false 51 4 (frow (zp q))] [.one (rp (zp (Na p q)))] [.gone]:=by
 have hn:=Qga ((zV hq (by decide)).mono (by decide)) (by rw[A0];exact hlq);have ha:=Qt6 (p:=zp p) (q:=vW (zp q)) ((zV hp (by decide)).mono (by decide)) ((Qv6 (zV hq (by decide))).mono (by decide)) (by rw[A0];exact hlp) (Qc (Qkc _) (by rw[A0];exact hlq));have e:Qdb (zp p) (vW (zp q))=zp (Na p q):=Qqf p q;rw[e]at ha;refine Fv func262 rfl ?_;exact Uj [] [0] [.k hn,.k ha] rfl
theorem Qbx{a0 b qf rem:Uo}{n:Nat}(hb0:0<b.length)(hb1:b.length<=1000)(hl0:a0.length<=1000)(hbb:Bd 9000000 b)(hqb:Bd 9000000 qf)(hrun:DRun b n a0 (List.replicate (a0.length+1-b.length) 0) qf rem):Ul 230 [.one (rp (zp a0)),.one (rp (zp b))] [.one (rp (zp (trim qf))),.one (rp (zp rem))]:=by
 have h0l:=OE a0;have hbl:=OE b;obtain⟨N,hN⟩:=nmE (a0.length+1-b.length);rw[<-hN]at hrun;have cc:=KG (p:=zp qf);rw[Ev]at cc;refine Fv func230 rfl ?_;refine Ug [.r 18 (eI (b:=(N:Int)) (by omega)),.i N,.i N,.r 21 (eI (b:=(N:Int)) (by simp))] rfl ?_;refine Uk (S:=Nat) 1 (λL1 i=>(22,.v (.oi i))::L1) (λi=>[.row false 51 4 (List.replicate i (fr 0)++List.replicate (N-i) zR)]) (λi=>N-i) (λi=>i<=N) 0 (Qh _) rfl rfl λi hi=>?_
 by_cases hlt:i<N
 ·refine Ug [.T,.k Qfx,.i i] rfl ?_;rw[jS hlt];exact rd (i+1) (by omega) hlt rfl
 have hiN:i=N:=by omega
 rw[hiN,AU];clear hiN hlt hi;refine Uf [.F] rfl ?_;refine sb [(0,.v (.one (rp (zp a0)))),(1,.v (.one (rp (zp b)))),(6,.v (.one (.orow 0 4 none)))] [.row false 51 4 (frow (zp (List.replicate N 0)))] rfl rfl ?_;refine Uk (S:=Nat×Uo×Uo) 1 (λL1 s=>(0,.v (.one (rp (zp s.2.1))))::L1) (λs=>[.row false 51 4 (frow (zp s.2.2))]) (λs=>s.1) (λs=>DRun b s.1 s.2.1 s.2.2 qf rem/\s.2.2.length=N) (n,a0,List.replicate N 0) ⟨hrun,Jd⟩ rfl rfl λ⟨k,a,q⟩ ⟨hr0,hr1⟩=>?_
 have hr0:DRun b k a q qf rem:=hr0;have hr1:q.length=N:=hr1;have hal:=OE a;have hql:=OE q;rcases hr0.inv with⟨hk,hqf,har,hlt⟩|⟨j,hk,hba,hal2,hab,hpb,hpd,hkq,hrj⟩
 ·subst hqf;subst har;exact Uh [.f (decide_eq_false (by dsimp only;omega)),.k cc] rfl
 subst hk;obtain⟨K,hK⟩:=nmE (a.length-b.length);rw[<-hK]at hrj hkq;have hla:Fc (Hh a)<=9000000:=Ft hab _;have hlb:Fc (Hh b)<=9000000:=Ft hbb _;obtain⟨c,hc⟩:=nmE (Hh a / Hh b);have cq:=Qm7 hla hlb hpb hpd;have hcs:Fc (Hh a / Hh b)<=9000000:=Qc (XS _ _) hla;rw[<-hc]at cq hcs hrj;have hsl:=Fx b c;have hqs:∀x,(q.set K x).length=N:=λx=>by rw[Xe];exact hr1
 dsimp only;refine go tt [.T,.r 39 (eI (b:=(K:Int)) (by omega)),.r 43 (eI (b:=((a.length-1:Nat):Int)) (by omega)),.x (So (p:=a) (i:=a.length-1) (by omega)),.r 49 (eI (b:=((b.length-1:Nat):Int)) (by omega)),.x (So (p:=b) (i:=b.length-1) (by omega)),.k cq,.i K,.i K,.i K,.r 60 (eI (b:=(K:Int)) (by simp))] rfl (by simp[U3,hql] <;> omega) ?_;rw[Qci];refine Uk (S:=Nat) 3 (λL1 i=>(61,.v (.oi i))::L1) (λi=>[.row false 51 4 (frow (zp (q.set K c))),.blk 51 (fr (c:Rat)),.row false 51 4 (List.replicate i (fr 0)++List.replicate (K-i) zR)]) (λi=>K-i) (λi=>i<=K) 0 (Qh _) rfl rfl λi hi=>?_
 by_cases hlt:i<K
 ·refine Ug [.T,.k Qfx,.i i] rfl ?_;rw[jS hlt];exact rd (i+1) (by omega) hlt rfl
 have hiK:i=K:=by omega
 rw[hiK,AU];clear hiK hlt hi;have hzl:=OE (List.replicate K 0);rw[Jd]at hzl;have hpl:=OE (Fu b c);refine Uf [.F] rfl ?_;refine sb [(10,.v (.one (.orow 2 4 none))),(9,.v (.one (.ow 1 0))),(0,.v (.one (rp (zp a)))),(1,.v (.one (rp (zp b)))),(6,.v (.one (.orow 0 4 none)))] [.row false 51 4 (frow (zp (q.set K c))),.blk 51 (fr (c:Rat)),.row false 51 4 (frow (zp (List.replicate K 0)))] rfl rfl ?_;have p2:=Qnx (p:=a) (q:=ZZ K (Fu b c)) (U5 hab (by decide)) (U5 (Qa2 (Ge hbb hcs)) (by decide)) (by omega) (by rw[cD];omega);rw[<-Qqr]at p2;refine go tt [.k (Qbw (c:=c) (U5 hbb (by decide)) (by omega) (by omega)),.s (sz:=4) (Qch (zp (Fu b c))),.c [2] p2] rfl (by simp[U3,hzl,hpl];omega) ?_;exact rd (j,Na a (ZZ K (Fu b c)),q.set K c) (by dsimp only;omega) ⟨hrj,hqs c⟩ rfl
def sB(l:Up):Uu:=l.map λp=>[rp (zp p)]
theorem VG(l:Up):(sB l).length=l.length:=by simp[sB]
theorem GA(l:Up)(g:Uo):sB l++[[rp (zp g)]]=sB (l++[g]):=by simp[sB]
theorem VF{l:Up}{i:Nat}(h:i<l.length):(sB l)[i]? = some [rp (zp (l.getD i []))]:=Gx (nW h)
theorem Qpj(x:LV):∀c∈[[x]],c.length=1:=λc hc=>by rw[Qk.1 hc];rfl
theorem BN{a b q:Uo}(h:DOk a b q):∃r,Ul 230 [.one (rp (zp a)),.one (rp (zp b))] [.one (rp (zp q)),.one (rp (zp r))]:=by
 obtain⟨h1,h2,h3,h4,qf,r,n,h5,h6,h7,rfl⟩:=h;exact⟨r,Qbx h1 h2 h3 h4 h5 h7⟩
theorem mV{a:Uo}{mf:Nat}{f:Nat->Uo}(ta:Fe a)(ha:Bd 9000000 a)(la:a.length<=1000)(h2:2<=a.length)(hF:FRun a mf f):Ul 164 [.one (rp (zp a))] [.one (.row (sB (EL f mf)))]:=by
 obtain⟨⟨n,ls,hrun,hlen,hq⟩,hms⟩:=hF;have hal:=OE a;refine Fv func164 rfl ?_;refine Uf [.F,.k (QW ta ha la),.o 3 87 1,.lo] rfl ?_;refine sb [(3,.v (.one (.orow 0 1 none))),(4,.v (.one (.orow 1 1 none)))] [.row false 87 1 [],.row false 87 1 (sB [To a])] rfl rfl ?_;refine Uk (S:=Nat×Up) 2 (λL1 s=>(4,.v (.one (.orow 1 1 none)))::L1) (λs=>[.row false 87 1 [],.row false 87 1 (sB s.2)]) (λs=>s.1) (λs=>LRun s.1 s.2 ls/\0<s.2.length/\s.2.length<=1001) (n,[To a]) ⟨hrun,by show 0<1;decide,by show 1<=1001;decide⟩ rfl rfl λ⟨k,l⟩ ⟨hs1,hs2,hs3⟩=>?_
 have hs1:LRun k l ls:=hs1;have hs2:0<l.length:=hs2;have hs3:l.length<=1001:=hs3;have hll:=VG l;have hlast:(sB l)[l.length-1]? = some [rp (zp (M5 l))]:=VF (by omega);have hpl:=OE (M5 l);dsimp only;rcases hs1.inv with⟨hk,hlf,hl1⟩|⟨j,m2,g,hk,hg1,hg2,hg3,hg4,hg5,hg6,hg7,hlr⟩
 ·have hlm:l.length=mf+1:=by rw[hlf];exact hlen
  rw[<-hlf]at hq;have hl2:=VG (l++[[1]]);have hl3:(l++[[1]]).length=mf+2:=by simp[hlm]
  refine go tt [.r 23 (eI (b:=((l.length-1:Nat):Int)) (by omega)),.i (l.length-1),.x hlast,.F,.k Qgb,.s (sz:=1) (Qpj _)] rfl (by simp[U3,hll];omega) ?_;rw[GA];refine Uk (S:=Nat) 2 (λL1 i=>(6,.v (.oi i))::(3,.v (.one (.orow 0 1 none)))::L1) (λi=>[.row false 87 1 (sB (EL f i)),.row false 87 1 (sB (l++[[1]]))]) (λi=>mf-i) (λi=>i<=mf) 0 (Qh _) rfl rfl λi hi=>?_
  have htl:=VG (EL f i);rw[sX]at htl;by_cases h:i<mf
  ·obtain⟨x,y,z,hx,hy,hz,hf⟩:=hq i h;obtain⟨rx,hdx⟩:=BN hx;obtain⟨ry,hdy⟩:=BN hy;obtain⟨rz,hdz⟩:=BN hz;refine go tt [.T,.i i,.x (VF (by omega)),.i (i+1),.x (VF (by omega)),.k hdx,.i (i+1),.x (VF (by omega)),.i (i+2),.x (VF (by omega)),.k hdy,.k (QW hx.trim hx.bd hx.len),.k (QW hy.trim hy.bd hy.len),.k hdz,.k (QW hz.trim hz.bd hz.len),.s (sz:=1) (Qpj _)] rfl (by simp[U3,hl2,htl];omega) ?_;exact rd (i+1) (by omega) h (by rw[GA,Qdm,hf];rfl)
  ·have e:i=mf:=by omega
   rw[e];exact Uh [.F] rfl rfl (by simp[U3];omega)
 ·subst hk;refine go tt [.r 23 (eI (b:=((l.length-1:Nat):Int)) (by omega)),.i (l.length-1),.x hlast,.T,.r 31 (eI (b:=((l.length-1:Nat):Int)) (by omega)),.i (l.length-1),.x hlast,.k (Qf9 (U5 hg4 (by decide)) (by omega)),.k (Qt7 hg3 (Fy _ _) hg4 hg5 hg2 (Qc (Nk _) (by omega)) hg6),.s (sz:=1) (Qpj _)] rfl (by simp[U3,hll];omega) ?_;exact rd (j,l++[g]) (by dsimp only;omega) ⟨hlr,by simp,by simp;omega⟩ (by rw[GA];rfl)
theorem Qby{a:Uo}{mf:Nat}{f:Nat->Uo}(ta:Fe a)(ha:Bd 9000000 a)(la:a.length<=1000)(h2:2<=a.length)(hF:FRun a mf f)(hP:Qxg mf f):Ul 155 [.one (rp (zp a))] [.one (rp (zp (Oy f mf)))]:=by
 have hms:=hF.small;have hal:=OE a;have htl:=VG (EL f mf);rw[sX]at htl;refine Fv func155 rfl ?_;refine Uf [.F,.k Qgb,.k (mV ta ha la h2 hF)] rfl ?_;refine Uk (S:=Nat) 0 (λL1 i=>(15,.v (.oi i))::(3,.v (.one (rp (zp (Oy f i)))))::L1) (λ_=>[]) (λi=>mf-i) (λi=>i<=mf) 0 (Qh _) rfl rfl λi hi=>?_
 by_cases h:i<mf
 ·obtain⟨g1,g2,g3,g4⟩:=hP i h;refine Ug [.T,.x (Gx (f:=λp=>[rp (zp p)]) (Qlb h)),.k (Qt8 (p:=Oy f i) (q:=f i) (by omega) (by omega) g1 g3 (by decide))] rfl ?_;exact rd (i+1) (by omega) h rfl
 ·have e:i=mf:=by omega
  rw[e];exact Uh [.F] rfl
theorem Qcr{l:Up}(g:Uo)(h:0<l.length):(sB l++[[rp (zp g)]])[l.length-1]? = some [rp (zp (M5 l))]:=by
 rw[Zi (by rw[VG];omega)];exact VF (by omega)
theorem Qf8{a sq:Uo}{c:Up}(ta:Fe a)(ha:Bd 9000000 a)(la:a.length<=1000)(h2:2<=a.length)(hC:ChRun a sq c):Ul 88 [.one (rp (zp a))] [.one (.row (sB c))]:=by
 obtain⟨⟨mf,f,hF,hP,rfl⟩,⟨n,hcr⟩,hbd,hle,hsm⟩:=hC;refine Fv func88 rfl ?_;refine Uf [.k (Qby ta ha la h2 hF hP),.lo,.k (Qf9 (p:=Oy f mf) (U5 hbd (by decide)) (by omega)),.k (wN (p:=Gy (Oy f mf)) (Fy _ _) (U5 (xG (t:=10) hbd (by omega)) (by decide)) (Qc (Nk _) (by omega)))] rfl ?_;refine sb [(5,.v (.one (rp (zp (Bm (Gy (Oy f mf))))))),(4,.v (.one (.orow 0 1 none)))] [.row false 87 1 (sB [Oy f mf])] rfl rfl ?_;refine Uk (S:=Nat×Up×Uo) 1 (λL1 s=>(5,.v (.one (rp (zp s.2.2))))::(4,.v (.one (.orow 0 1 none)))::L1) (λs=>[.row false 87 1 (sB s.2.1)]) (λs=>s.1) (λs=>CRun s.1 s.2.1 s.2.2 c/\0<s.2.1.length/\s.2.1.length<=1001) (n,[Oy f mf],Bm (Gy (Oy f mf))) ⟨hcr,by show 0<1;decide,by show 1<=1001;decide⟩ rfl rfl λ⟨k,l,g⟩ ⟨hs1,hs2,hs3⟩=>?_
 have hs1:CRun k l g c:=hs1;have hs2:0<l.length:=hs2;have hs3:l.length<=1001:=hs3;have hll:=VG l;have hgl:=OE g;dsimp only;rcases hs1.inv with⟨hk,hlf,hg0⟩|⟨j,m2,r,hk,hg1,hg2,hg3,hrr,hrt,hrb,hrl,hl0,hl1,hcj⟩
 ·subst hlf;exact Uh [.F] rfl
 ·subst hk;refine go tt [.T,.s (sz:=1) (Qpj _),.r 23 (eI (b:=((l.length-1:Nat):Int)) (by simp;omega)),.i (l.length-1),.x (Qcr g hl0),.k (eQ (a0:=M5 l) (b:=g) (res:=r) hg1 hg2 hg3 hrr),.k (wN (p:=r) hrt hrb hrl),.k (Qf6 (p:=Bm r) (Qa1 hrb) (Qc (nN r) (by omega)))] rfl (by simp[U3,hll];omega) ?_;exact rd (j,l++[g],Mw (Bm r)) (by dsimp only;omega) ⟨hcj,by simp,by simp;omega⟩ (by rw[GA];rfl)
theorem Qxm{q:Rat}(h1:Fc q.num<=2000000)(h2:Fc (q.den:Int)<=2000000):Bd 9000000 [-q.num,(q.den:Int)]:=λz hz=>by
 simp only[Ql,Jn,or_false]at hz;rcases hz with rfl|rfl
 ·rw[Ho];omega
 ·omega
abbrev aq(q:Rat)(c:Up):Ut:=[rp (zp [-q.num,(q.den:Int)]),.row (sB c)]++fr q++fr q
theorem wM{q:Rat}{c:Up}(hq:Qs 2000000 q)(hC:Qd5 q c):Ul 31 [.agg (fr q)] [.agg (aq q c)]:=by
 obtain⟨sq,hch⟩:=hC;have co:=ZE (n:=1) (by decide);exact Ui func31 rfl [.k co,.k (Ab (n:=q.num)),.k (Qe3 (z:=q.num)),.k co,.k (Ab (n:=(q.den:Int))),.k (Qf8 (a:=[-q.num,(q.den:Int)]) (Qaq q) (Qxm hq.1 hq.2) (by show 2<=1000;decide) (Qm 2) hch)] rfl
end Orr
namespace Orr
end Orr
namespace Orr
open Go Go.Proofs Tryz
set_option maxRecDepth 10000
structure Rs(k:Crv):Prop where
 n:ZC k
 c:Cs 100000 16 k



theorem Qo3(l:Uq)(n:Nat):(lm l).take (min l.length n)=lm (l.take n):=by
 rw[lm,lm,<-Jw];rcases Nat.le_total l.length n with h|h
 ·rw[Zx h,Q7,Qo h]
 ·rw[V3 h]
theorem Qt3{l:Uq}{n:Nat}(hn:n<=1000):Ul 264 [.one (.row (lm l)),.oi n] [.one (.row (lm (l.take n)))]:=by
 rw[<-Qo3];have hll:(lm l).length=l.length:=by simp[lm]
 exact Ui func264 rfl [.r 9 (eI (b:=((min l.length n:Nat):Int)) (by omega)),.i (min l.length n)] rfl rfl (by simp[U3,hll];omega)
def Io(l:List RawInt):Uu:=l.map L8
theorem O5(l:List RawInt):(Io l).length=l.length:=by simp[Io]
abbrev rcw(z:RawPt):Ut:=[.row (Io z.x),.row (Io z.y),.bool z.d.b,.row (lm z.d.l)]
theorem UW{z:RawInt}(hz:z.Ok){most:Int}(hm:0<=most/\most<=999):Ul 204 [.agg (L8 z),.oi most] [.agg (Hg (H6 most z))]:=by
 obtain⟨b,l⟩:=z;have hb:=KO hm.1 ⟨b,l⟩;have hs:Fc (H6 most ⟨b,l⟩)<=100000000:=Qc (S0.2 (show(H6 most ⟨b,l⟩).natAbs<2^10 by omega)) (by decide);cases l with
 |nil=>exact Ui func204 rfl [.t rfl] rfl (by simp[H6,Ll]) trivial
 |
  cons u l =>
  have hu:=hz.u u (Qy ..);have co:=ZE (n:=H6 most ⟨b,u::l⟩) (by omega);have ct:=Qty hs;have hr:Int.tmod (u:Int) (most+1)=(u:Int) % (most+1):=Y6 (by omega);have h1:=Yg (u:Int) (b:=most+1) (by omega);have h2:=Jt (u:Int) (b:=most+1) (by omega);cases b with
  |
   true =>
   rw[show H6 most ⟨true,u::l⟩=-((u:Int) % (most+1)) from rfl]at co ct ⊢;exact Ui func204 rfl [.f (decide_eq_false (by simp[lm];try omega)),.x (l:=lm (u::l)) (i:=0) (xs:=[.int .u32 (u:Int)]) rfl,.r 18 (eI hr),.t rfl,.k co,.k ct] rfl rfl (by simp[U3];omega)
  |
   false =>
   rw[show H6 most ⟨false,u::l⟩=(u:Int) % (most+1) from rfl]at co ct ⊢;exact Ui func204 rfl [.f (decide_eq_false (by simp[lm];try omega)),.x (l:=lm (u::l)) (i:=0) (xs:=[.int .u32 (u:Int)]) rfl,.r 18 (eI hr),.f rfl,.k co,.k ct] rfl rfl (by simp[U3];omega)
theorem oz2{P:Program}[Mo P]{n:Nat}{Q:Exit->Sg->Uv->Prop}{L L':Sg}{B B':Uv}(d off T sz:Nat){it:List It}(hs:Rm it=true)(h:cQ (P:=P) d L B [.oc d off T sz]=some (L',B',[],[]))(k:AK P n Q it L' B'):AK P n Q it L B:=AK.sub (EY h EqOk.nil) hs k
theorem pz{P:Program}[Mo P]{n:Nat}{Q:Exit->Sg->Uv->Prop}{L L':Sg}{B B':Uv}(i:Nat){it:List It}(hs:Rm it=true)(h:Qc9 [i] L B=some (L',B'))(k:AK P n Q it L' B'):AK P n Q it L B:=AK.sub (FO h) hs k
def Am(l:Uo):Uu:=l.map Hg
theorem qW(l:Uo):(Am l).length=l.length:=by simp[Am]
theorem RB{most:Int}{l:List RawInt}{i:Nat}{a:RawInt}(hi:i<3)(h:l[i]? = some a):Am (Gq most (l.take (i+1)))=Am (Gq most (l.take i))++[Hg (H6 most a)]:=by
 rw[yJ hi h];simp[Am]
theorem yZ{most:Int}{l:List RawInt}{i:Nat}(hi:i<=3)(h:i<=l.length):(Am (Gq most (l.take i))).length=i:=by
 rw[qW];unfold Gq;rw[List.length_map,List.length_take,List.length_take];omega
def rwq(z:RawPt):Ut:=rcw z++[.int .i64 z.id]
end Orr
namespace Orr
open Go Go.Proofs Tryz Orq
set_option maxRecDepth 10000
end Orr
namespace Orr
open Go Go.Proofs Tryz
set_option maxRecDepth 10000
abbrev run1:Crv:=⟨[0,1],[],1⟩
theorem LU:ZC run1:=⟨rfl,rfl,by decide,by decide⟩
theorem cs_run1:Cs 3 3 run1:=by
 refine⟨λz hz=>?_,λz hz=>(by cases hz),by decide,by decide,by decide⟩;rcases Ql.1 hz with rfl|hz
 ·decide
 ·rw[Qk.1 hz];decide
theorem Cs.up{s n s' n':Nat}{k:Crv}(h:Cs s n k)(hs:s<=s')(hn:n<=n'):Cs s' n' k:=⟨U5 h.x hs,U5 h.y hs,Qc h.d hs,Qc h.lx hn,Qc h.ly hn⟩
end Orr
namespace Orr
open Go Go.Proofs Tryz Orq
set_option maxRecDepth 10000
abbrev PU:List Pt:=[⟨run1,1⟩,⟨O7 1 0,2⟩]
theorem Qw2:(Rr (tq 0) PU).map (·.id)=[1,2]:=by decide +kernel
theorem Qqj:Sc run1:=⟨LU,cs_run1.up (by decide) (by decide)⟩
theorem Qzo:∀p∈PU,Sc p.c:=λp hp=>by
 rcases Ql.1 hp with rfl|hp
 ·exact Qqj
 ·rw[Qk.1 hp];exact tH (by decide) (by decide)


theorem BR{c:Cr}{l l':List Pt}{r1:Uu×Uu}{ws:List Wt}(hc:CrOk c)(hl:∀p∈l',Sc p.c)(hn:l'.length≤1000)(h:Tl c.l c.now (Fw (xF l' c.now))=some ws) :
 U6 prog 421 [.one (.ow 0 0),.agg [pts l'],.oi 0] [.blk 223 (Tt c (U0 l) r1)] [.oi 0] [.blk 223 (Tt ⟨c.now,ws,c.ev⟩ (U0 l') (pP l' c.now))]:=by
 have hB:=pK hl hn;have cn:=mQ (T:=223) (c:=c) (r0:=U0 l') (r1:=r1) hc.n;have cb:=IM (c:=c) (r1:=r1) hl hn hc.n;have cg:=Qbm (T:=223) (r0:=U0 l') (r1:=pP l' c.now) hc hc.n (I4 hc.n) (J7 0) (hB.p _ hc.n) (hB.n _ hc.n) h;refine Fv func421 rfl ?_;exact Uj [] [0] [.f rfl,.c [0] cn,.c [0] cb,.c [0] cg] rfl
theorem Qnj{lx ly:Uu}{px py:Uo}{x y:LV}{d id:Int}{c:Cr}{l:List Pt}{r1:Uu×Uu}{ws:List Wt}(hx:IsInts lx px)(hy:IsInts ly py)(hd:Gd x y d)(hk:Cs 4294967294 1073741824 (Crv.mk px py d))(hll:l.length<=900)
 (he:WU l ⟨Crv.norm (Crv.mk px py d),id⟩=0) (hc:CrOk c) (hl:∀p∈put l ⟨Crv.norm (Crv.mk px py d),id⟩,Sc p.c) (hn:(put l ⟨Crv.norm (Crv.mk px py d),id⟩).length≤1000) (h:Tl c.l c.now (Fw (xF (put l ⟨Crv.norm (Crv.mk px py d),id⟩) c.now))=some ws) :
 U6 prog 419 [.one (.ow 0 0),.agg [.row lx,.row ly,x,y,.int .i64 id]] [.blk 223 (Tt c (U0 l) r1)] [.oi 0] [.blk 223 (Tt ⟨c.now,ws,c.ev⟩ (U0 (put l ⟨Crv.norm (Crv.mk px py d),id⟩)) (pP (put l ⟨Crv.norm (Crv.mk px py d),id⟩) c.now))]:=by
 have cp:=wU (l:=l) (id:=id) hx hy hd hk (by omega);rw[if_pos he,he]at cp;have cw:=BR (l:=l) (r1:=r1) hc hl hn h;refine Fv func419 rfl ?_;obtain⟨b,l',rfl,rfl,_⟩:=hd;exact Uj [] [0] [.k cp,.c [0] cw] rfl
theorem Qfp{lx ly:Uu}{px py:Uo}{x y:LV}{d id:Int}{c:Cr}{l l':List Pt}{r1:Uu×Uu}{ws:List Wt}(hx:IsInts lx px)(hy:IsInts ly py)(hd:Gd x y d)(hk:Cs 4294967294 1073741824 (Crv.mk px py d))(hll:l.length<=1000)(h:has l id=true)(hc:CrOk c)
 (hl':l'=l.set (Rx l id) (Pt.mk (Crv.norm (Crv.mk px py d)) id)) (hs:∀p∈l',Sc p.c) (hw:Tl c.l c.now (Fw (xF l' c.now))=some ws) :
 U6 prog 420 [.one (.ow 0 0),.agg [.row lx,.row ly,x,y,.int .i64 id]] [.blk 223 (Tt c (U0 l) r1)] [.oi 0] [.blk 223 (Tt ⟨c.now,ws,c.ev⟩ (U0 l') (pP l' c.now))]:=by
 have ct1:=UK (l:=l) hx hy hd hk (by omega) h;rw[<-hl']at ct1;have cw:=BR (c:=c) (l:=l) (l':=l') (r1:=r1) hc hs (by rw[hl',Xe];omega) hw;obtain⟨b,r,rfl,rfl,_⟩:=hd;refine Fv func420 rfl ?_;exact Uj [] [0] [.k ct1,.c [0] cw] rfl
theorem Qfo{id:Int}{c:Cr}{l l':List Pt}{r1:Uu×Uu}{ws:List Wt}(hll:l.length<=1000)(h:has l id=true)(hc:CrOk c)
 (hl':l'=l.take (Rx l id)++l.drop (Rx l id+1)) (hs:∀p∈l',Sc p.c) (hw:Tl c.l c.now (Fw (xF l' c.now))=some ws) :
 U6 prog 418 [.one (.ow 0 0),.oi id] [.blk 223 (Tt c (U0 l) r1)] [.oi 0] [.blk 223 (Tt ⟨c.now,ws,c.ev⟩ (U0 l') (pP l' c.now))]:=by
 have ct1:=UY (l:=l) (id:=id) (by omega) h;rw[<-hl']at ct1;have cw:=BR (c:=c) (l:=l) (l':=l') (r1:=r1) hc hs (by rw[hl',Qx,Qr,Q8];omega) hw;refine Fv func418 rfl ?_;exact Uj [] [0] [.k ct1,.c [0] cw] rfl
theorem Qbo{c:Cr}{r0:Uu}{r1:Uu×Uu}:U6 prog 64 [.one (.ow 0 0)] [.blk 223 (Tt c r0 r1)] [.one (.ow 1 0)] [.blk 223 (Tt c r0 r1),.blk 223 (Tt c r0 r1)]:=by
 refine Fv func64 rfl ?_;exact Uj [] [0,1] [] rfl
end Orr
namespace Orq
open Orr Go
def p3j(W:List Pt)(x:Pt)(i j:Nat):List P3:=C0 i W++(Ht j (W.drop (i+1))).map (λm=>(x,m))
def qM(W:List Pt)(x y:Pt)(i j k:Nat):List P3:=C0 i W++(Ht j (W.drop (i+1))++(((W.drop (i+1)).drop (j+1)).take k).map (λz=>(y,z))).map (λm=>(x,m))
theorem LH(W:List Pt)(x:Pt)(i:Nat):p3j W x i 0=C0 i W:=by simp[p3j,Ht]
theorem LP(W:List Pt)(x y:Pt)(i j:Nat):qM W x y i j 0=p3j W x i j:=by simp[qM,p3j]
theorem LR{W:List Pt}{x y z:Pt}{i j k:Nat}(h:((W.drop (i+1)).drop (j+1))[k]? = some z):qM W x y i j (k+1)=qM W x y i j k++[(x,y,z)]:=by
 unfold qM;rw[Z1,h];simp
theorem yB{W:List Pt}{x y:Pt}{i j k:Nat}(hy:(W.drop (i+1))[j]? = some y)(hk:((W.drop (i+1)).drop (j+1)).length<=k):qM W x y i j k=p3j W x i (j+1):=by
 unfold qM p3j;rw[Qo hk,Ln _ j y hy]
theorem yN{W:List Pt}{x:Pt}{i j:Nat}(hx:W[i]? = some x)(hj:j=(W.drop (i+1)).length):p3j W x i j=C0 (i+1) W:=by
 unfold p3j;rw[hj,VY W i x hx];rfl
theorem Qap{W:List Pt}{i:Nat}(h:i=W.length):C0 i W=Rj W:=by rw[h];rfl
def p4j(W:List Pt)(x:Pt)(i j:Nat):List P4:=Et i W++(C0 j (W.drop (i+1))).map (λm=>(x,m))
def p4k(W:List Pt)(x y:Pt)(i j k:Nat):List P4:=Et i W++(p3j (W.drop (i+1)) y j k).map (λm=>(x,m))
def p4m(W:List Pt)(x y z:Pt)(i j k m:Nat):List P4:=Et i W++(qM (W.drop (i+1)) y z j k m).map (λm=>(x,m))
theorem Qji(W:List Pt)(x:Pt)(i:Nat):p4j W x i 0=Et i W:=by simp[p4j,C0]
theorem Qjj(W:List Pt)(x y:Pt)(i j:Nat):p4k W x y i j 0=p4j W x i j:=by unfold p4k p4j;rw[LH]
theorem Qjl(W:List Pt)(x y z:Pt)(i j k:Nat):p4m W x y z i j k 0=p4k W x y i j k:=by unfold p4m p4k;rw[LP]
theorem Qjk{W:List Pt}{x y z u:Pt}{i j k m:Nat}(h:(((W.drop (i+1)).drop (j+1)).drop (k+1))[m]? = some u):p4m W x y z i j k (m+1)=p4m W x y z i j k m++[(x,y,z,u)]:=by
 unfold p4m;rw[LR h];simp
theorem Qpo{W:List Pt}{x y z:Pt}{i j k m:Nat}(hz:((W.drop (i+1)).drop (j+1))[k]? = some z)(hm:(((W.drop (i+1)).drop (j+1)).drop (k+1)).length<=m):p4m W x y z i j k m=p4k W x y i j (k+1):=by
 unfold p4m p4k;rw[yB hz hm]
theorem Qpn{W:List Pt}{x y:Pt}{i j k:Nat}(hy:(W.drop (i+1))[j]? = some y)(hk:k=((W.drop (i+1)).drop (j+1)).length):p4k W x y i j k=p4j W x i (j+1):=by
 unfold p4k p4j;rw[yN hy hk]
theorem Qpm{W:List Pt}{x:Pt}{i j:Nat}(hx:W[i]? = some x)(hj:j=(W.drop (i+1)).length):p4j W x i j=Et (i+1) W:=by
 unfold p4j;rw[hj,TX W i x hx];rfl
theorem Qp6{W:List Pt}{i:Nat}(h:i=W.length):Et i W=O4 W:=by rw[h];rfl
theorem WY:∀(k:Nat) (l:List Pt),∃r,Gi l=Ht k l++r
 | 0,l=>⟨Gi l,rfl⟩
 |k+1,[]=>⟨[],rfl⟩
 |
  k+1,x::l=>by
  obtain⟨r,h⟩:=WY k l;exact⟨r,by show l.map _++Ht l.length l=l.map _++Ht k l++r;rw[show Ht l.length l=Gi l from rfl,h,Ze]⟩
theorem EI:∀(k:Nat) (l:List Pt),∃r,Rj l=C0 k l++r
 | 0,l=>⟨Rj l,rfl⟩
 |k+1,[]=>⟨[],rfl⟩
 |
  k+1,x::l=>by
  obtain⟨r,h⟩:=EI k l;exact⟨r,by show(Gi l).map _++C0 l.length l=(Gi l).map _++C0 k l++r;rw[show C0 l.length l=Rj l from rfl,h,Ze]⟩
theorem rI:∀(k:Nat) (l:List Pt),∃r,O4 l=Et k l++r
 | 0,l=>⟨O4 l,rfl⟩
 |k+1,[]=>⟨[],rfl⟩
 |
  k+1,x::l=>by
  obtain⟨r,h⟩:=rI k l;exact⟨r,by show(Rj l).map _++Et l.length l=(Rj l).map _++Et k l++r;rw[show Et l.length l=O4 l from rfl,h,Ze]⟩
theorem oZ{W:List Pt}(h6:W.length<=6){x y:Pt}{i j k:Nat}(hx:W[i]? = some x)(hy:(W.drop (i+1))[j]? = some y):(qM W x y i j k).length<=20:=by
 have h0:=(YO h6).1;obtain⟨r,hr⟩:=EI (i+1) W;rw[VY W i x hx]at hr;obtain⟨r2,hr2⟩:=WY (j+1) (W.drop (i+1));rw[Ln _ j y hy]at hr2;have e1:=congrArg List.length hr;have e2:=congrArg List.length hr2;have e3:(((W.drop (i+1)).drop (j+1)).take k).length<=((W.drop (i+1)).drop (j+1)).length:=by rw[Qr];exact Nat.min_le_right _ _
 unfold qM;simp only[Qx,Zb]at e1 e2 ⊢;omega
theorem Qpp{W:List Pt}(h6:W.length<=6){x y z:Pt}{i j k m:Nat}(hx:W[i]? = some x)(hy:(W.drop (i+1))[j]? = some y)(hz:((W.drop (i+1)).drop (j+1))[k]? = some z):(p4m W x y z i j k m).length<=15:=by
 have h0:=(YO h6).2;obtain⟨r,hr⟩:=rI (i+1) W;rw[TX W i x hx]at hr;obtain⟨r1,hr1⟩:=EI (j+1) (W.drop (i+1));rw[VY _ j y hy]at hr1;obtain⟨r2,hr2⟩:=WY (k+1) ((W.drop (i+1)).drop (j+1));rw[Ln _ k z hz]at hr2;have e1:=congrArg List.length hr;have e2:=congrArg List.length hr1;have e4:=congrArg List.length hr2;have e3:((((W.drop (i+1)).drop (j+1)).drop (k+1)).take m).length<=(((W.drop (i+1)).drop (j+1)).drop (k+1)).length:=by rw[Qr];exact Nat.min_le_right _ _
 unfold p4m qM;simp only[Qx,Zb]at e1 e2 e4 ⊢;omega
theorem Qco{sg:Uo->Int}(hg:∀p,-1<=Hl sg p/\Hl sg p<=1)(ps:List P3):kR (Ax (ZM sg ps)):=by
 have key:∀(ps:List P3) (M:Bb),kR M->kR ((ZM sg ps).foldl (λM e=>L6 M e.1 (.int .i64 e.2)) M):=by
  intro ps
  induction ps with
  |nil=>intro M h;exact h
  |cons m ps ih=>intro M h;exact ih _ (Qig h (hg _))
 exact key ps [] Qif
theorem pT(sg:Uo->Int)(T:Bb)(ps:List P4):VN (Oc T (VS sg ps)):=by
 have key:∀(ps:List P4) (F:Bb),VN F->VN ((VS sg ps).foldl (λF e=>OF T e.2 e.1 F) F):=by
  intro ps
  induction ps with
  |nil=>intro M h;exact h
  |cons m ps ih=>intro M h;exact ih _ (pR h)
 exact key ps [] Qa4
theorem qO(p:Uo)(q:Rat):-1<=Re p q/\Re p q<=1:=by
 rw[Np];unfold Ff
 split
 ·exact⟨by decide,by decide⟩
 ·split <;> exact⟨by decide,by decide⟩
theorem Qkw{p:Uo}{a:Tm}{s:Int}(h:GW p a=some s):-1<=s/\s<=1:=by
 unfold GW at h
 split at h
 ·injection h with h;subst h;exact⟨by decide,by decide⟩
 ·split at h
  ·injection h with h;subst h;exact qO _ _
  ·obtain⟨g,_,h⟩:=Qd.1 h
   split at h
   ·injection h with h;subst h;exact⟨by decide,by decide⟩
   ·obtain⟨c,_,h⟩:=Qd.1 h;obtain⟨x,_,h⟩:=Qd.1 h;injection h with h;subst h;exact qO _ _
theorem Qh2(a:Tm)(p:Uo):-1<=Hl (Fq a) p/\Hl (Fq a) p<=1:=by
 have hs:∀p,-1<=Fq a p/\Fq a p<=1:=λp=>by
  unfold Fq;cases h:GW p a with
  |none=>exact⟨by decide,by decide⟩
  |some s=>exact Qkw h
 have key:∀(k:Nat) (p:Uo),-1<=Tw (Fq a) k p/\Tw (Fq a) k p<=1:=by
  intro k
  induction k with
  |zero=>intro p;exact⟨by simp[Tw],by simp[Tw]⟩
  |
   succ k ih =>
   intro p;simp only[Tw]
   split
   ·exact⟨by decide,by decide⟩
   ·split
    ·exact ih _
    ·exact hs p
 exact key _ p
end Orq
namespace Orr
open Go Go.Proofs Tryz Orq
set_option maxRecDepth 10000
theorem lF{a b c:Pt}{t:Tm}(ha:Sc a.c)(hb:Sc b.c)(hc:Sc c.c)(ht:Va t):Ul 255 [.oi 3,.agg (ta t),.one (.row [Fb a,Fb b,Fb c])] [.agg (Lx (Lh (Fq t) a b c)),.oi 0]:=by
 have hp:=(YV ha hb hc).dp;have e:Lx (Lh (Fq t) a b c)=[.int .i64 3,.int .i64 a.id,.int .i64 b.id,.int .i64 c.id,.int .i64 0,pl (Hi a.c b.c c.c),.int .i64 (Hl (Fq t) (Hi a.c b.c c.c))]:=by rw[Lh]
 rw[e];have cg:=TA hp ht;have cf:=wK ha hb hc;generalize Hi a.c b.c c.c=F at *;refine Fv func255 rfl ?_;refine Uf [.k Qbt,.f rfl] rfl ?_;refine Uk (S:=Nat) 3 (λL1 i=>(22,.v (.oi i))::L1) (λi=>[.blk 105 (ta t),.blk 99 zCt,.blk 99 [.int .i64 3,.int .i64 (if 1<=i then a.id else 0),.int .i64 (if 2<=i then b.id else 0),.int .i64 (if 3<=i then c.id else 0),.int .i64 0,.nils,.int .i64 0]]) (λi=>3-i) (λi=>i<=3) 0 (Qh _) rfl rfl λi hi=>?_
 rcases(show i=0\/i=1\/i=2\/i=3 by omega)with rfl|rfl|rfl|rfl
 ·refine Uf [.t rfl,.x (i:=0) (xs:=Fb a) rfl,.i 0] rfl ?_ (by simp[U3]);exact rd 1 (by omega) (by omega) rfl
 ·refine Uf [.t rfl,.x (i:=1) (xs:=Fb b) rfl,.i 1] rfl ?_ (by simp[U3]);exact rd 2 (by omega) (by omega) rfl
 ·refine Uf [.t rfl,.x (i:=2) (xs:=Fb c) rfl,.i 2] rfl ?_ (by simp[U3]);exact rd 3 (by omega) (by omega) rfl
 ·exact Uh [.f rfl,.f rfl,.f rfl,.t rfl,.x (i:=0) (xs:=Fb a) rfl,.x (i:=1) (xs:=Fb b) rfl,.x (i:=2) (xs:=Fb c) rfl,.k cf,.k cg] rfl
theorem Ia{α:Type}(s:α->α->α->Bool):∀(l acc:List α) (c:α),P6 s acc (l++[c])=c::Lq s c (P6 s acc l)
 | [],_,_=>rfl
 |_::l,_,c=>Ia s l _ c
theorem lD{R:List Pt}{t:Tm}(hR:∀p∈R,Sc p.c)(hn:R.length≤1000000)(ht:Va t):Ul 292 [.agg (ta t),.one (pts R)] [.one (pts (Pj (Fq t) R))]:=by
 have hcl:=G7 R;show Ul 292 [.agg (ta t),.one (.row (U0 R))] [.one (.row (U0 (P6 (FX (Fq t)) [] R).reverse))];obtain⟨s,hs⟩:=nmE (FX (Fq t));have hs':∀a b c,s a b c=decide (0<Hl (Fq t) (Hi a.c b.c c.c)):=λa b c=>by rw[hs];rfl
 rw[<-hs];refine Fv func292 rfl ?_;refine Uf [.o 5 40 5] rfl ?_;refine Uk (S:=Nat) 2 (λL1 i=>(10,.v (.oi i))::(5,.v (.one (.orow 1 5 none)))::L1) (λi=>[.blk 105 (ta t),.row false 40 5 (U0 (P6 s [] (R.take i)).reverse)]) (λi=>R.length-i) (λi=>i<=R.length) 0 (Qh _) rfl rfl λi hi=>?_
 by_cases hlt:i<R.length
 ·obtain⟨c,hc⟩:=gxE (l:=R) (i:=i) hlt;have hcp:=hR c (Qa hc);have hst:P6 s [] (R.take (i+1))=c::Lq s c (P6 s [] (R.take i)):=by rw[Z1,hc];exact Ia s _ _ c
  obtain⟨O,hO⟩:=nmE (P6 s [] (R.take i));have hOl:O.length<=1000000:=by
   have:=KH s (R.take i) [];rw[<-hO,Qr]at this;simp at this;omega
  have hOm:∀x∈O,Sc x.c:=λx hx=>by
   rw[hO]at hx;rcases KR hx with h|h
   ·cases h
   ·exact hR x (Qn h)
  rw[<-hO]at hst ⊢;have hrl:(U0 O.reverse).length=O.length:=by rw[G7,Xs]
  have hm:∀y∈[Fb c],y.length=5:=λy hy=>by rw[Qk.1 hy];rfl
  have hget:∀{pre r:List Pt} {x:Pt},O=pre++x::r->∀j,j=r.length->(U0 O.reverse)[j]? = some (Fb x):=λ{pre r x} e j hj=>by
   refine Ts ?_;rw[e,hj];simp
  have hfin:∀{pre st:List Pt},O=pre++st->U0 (c::st).reverse=(U0 O.reverse).take st.length++[Fb c]:=λ{pre st} e=>by
   rw[e];simp[U0,Jw,List.take_append]
  have hfull:U0 (c::O).reverse=U0 O.reverse++[Fb c]:=by simp[U0]
  refine Uf [.t (by simp[hcl];omega),.x (Ts hc)] rfl ?_;refine Uk (S:=Bool×List Pt) 3 (λL1 s=>(5,.v (.one (.orow 1 5 (cond s.1 (some (0,s.2.length)) none))))::L1) (λ_=>[.blk 105 (ta t),.row false 40 5 (U0 O.reverse),.blk 40 (Fb c)]) (λs=>s.2.length) (λst=>(∃pre,O=pre++st.2/\(st.1=false->pre=[]))/\Lq s c st.2=Lq s c O) (false,O) ⟨⟨[],rfl,λ_=>rfl⟩,rfl⟩ rfl rfl λ⟨b,st⟩ ⟨⟨pre,h1,h2⟩,h3⟩=>?_
  have h1:O=pre++st:=h1;have h3:Lq s c st=Lq s c O:=h3;have hl1:O.length=pre.length+st.length:=by rw[h1,Qx]
  have fin:∀{st:List Pt},O=pre++st->Lq s c st=Lq s c O->Lq s c st=st->U0 (P6 s [] (R.take (i+1))).reverse=(U0 O.reverse).take st.length++[Fb c]/\(pre=[]->U0 (P6 s [] (R.take (i+1))).reverse=U0 O.reverse++[Fb c]):=λ{st} e1 e2 e3=>by
   rw[hst,<-e2,e3];refine⟨hfin e1,λhp=>?_⟩;rw[hp]at e1;rw[<-hfull,e1];rfl
  rcases st with _|⟨z,_|⟨y,r⟩⟩
  ·obtain⟨f1,f2⟩:=fin h1 h3 rfl;cases b with
   |
    false =>
    have hp:=h2 rfl;have f2:=f2 hp;rw[hp]at hl1;have hl2:(U0 O.reverse).length<=1:=by rw[hrl,hl1];simp
    refine Ug [.g 17 false Um,.f rfl,.s (sz:=5) hm] rfl ?_;exact rd (i+1) (by omega) hlt (by rw[f2];rfl)
   |
    true =>
    refine Ug [.g 17 false (decide_eq_false (by simp)),.f rfl,.s (sz:=5) hm] rfl ?_;exact rd (i+1) (by omega) hlt (by rw[f1];rfl)
  ·obtain⟨f1,f2⟩:=fin h1 h3 rfl;cases b with
   |
    false =>
    have hp:=h2 rfl;have f2:=f2 hp;rw[hp]at hl1;have hl2:(U0 O.reverse).length<=1:=by rw[hrl,hl1];simp
    refine Ug [.g 17 false Um,.f rfl,.s (sz:=5) hm] rfl ?_;exact rd (i+1) (by omega) hlt (by rw[f2];rfl)
   |
    true =>
    refine Ug [.g 17 false (decide_eq_false (by simp)),.f rfl,.s (sz:=5) hm] rfl ?_;exact rd (i+1) (by omega) hlt (by rw[f1];rfl)
  ·have sz:=hOm z (by rw[h1];simp);have sy:=hOm y (by rw[h1];simp);have co:=wK sy sz hcp;have cg:=TA (YV sy sz hcp).dp ht;have gz:=hget h1 (r.length+1) rfl;have gy:=hget (pre:=pre++[z]) (r:=r) (x:=y) (by rw[h1];simp) r.length rfl;have hl1:O.length=pre.length+(r.length+2):=hl1;have hls:=hs' y z c;by_cases hq:s y z c=true
   ·have hg:¬Hl (Fq t) (Hi y.c z.c c.c)<=0:=by rw[hls]at hq;have:=of_decide_eq_true hq;omega
    obtain⟨f1,f2⟩:=fin h1 h3 (by simp only[Lq];rw[if_pos hq]);cases b with
    |
     false =>
     have hp:=h2 rfl;have f2:=f2 hp;rw[hp]at hl1;have hl2:(U0 O.reverse).length=r.length+2:=by rw[hrl,hl1];simp
     refine Ug [.g 17 true Un,.r 21 (eI (b:=(r.length:Int)) (by omega)),.i r.length,.x gy,.r 28 (eI (b:=((r.length+1:Nat):Int)) (by omega)),.i (r.length+1),.x gz,.k co,.k cg,.f (decide_eq_false hg),.s (sz:=5) hm] rfl ?_;exact rd (i+1) (by omega) hlt (by rw[f2];rfl)
    |
     true =>
     refine Ug [.g 17 true (decide_eq_true (by simp;omega)),.r 21 (eI (b:=(r.length:Int)) (by simp;omega)),.i r.length,.x (l:=U0 O.reverse) (i:=0+r.length) (xs:=Fb y) (by rw[Zy];exact gy),.r 28 (eI (b:=((r.length+1:Nat):Int)) (by simp)),.i (r.length+1),.x (l:=U0 O.reverse) (i:=0+(r.length+1)) (xs:=Fb z) (by rw[Zy];exact gz),.k co,.k cg,.f (decide_eq_false hg),.s (sz:=5) hm] rfl ?_;exact rd (i+1) (by omega) hlt (by rw[f1];rfl)
   ·have hg:Hl (Fq t) (Hi y.c z.c c.c)<=0:=by
     rw[hls]at hq;have:=of_decide_eq_false (Wv.2 hq);omega
    have hpop:Lq s c (y::r)=Lq s c O:=by rw[<-h3];simp only[Lq];rw[if_neg hq]
    have hin:(∃pre',O=pre'++(y::r)/\((true:Bool)=false->pre'=[]))/\Lq s c (y::r)=Lq s c O:=⟨⟨pre++[z],by rw[h1];simp,λh=>by cases h⟩,hpop⟩;cases b with
    |
     false =>
     have hp:=h2 rfl;rw[hp]at hl1;have hl2:(U0 O.reverse).length=r.length+2:=by rw[hrl,hl1];simp
     refine Ug [.g 17 true Un,.r 21 (eI (b:=(r.length:Int)) (by omega)),.i r.length,.x gy,.r 28 (eI (b:=((r.length+1:Nat):Int)) (by omega)),.i (r.length+1),.x gz,.k co,.k cg,.t (decide_eq_true hg),.r 42 (eI (b:=((r.length+1:Nat):Int)) (by omega)),.i (r.length+1)] rfl ?_;exact rd (true,y::r) (by simp) hin rfl
    |
     true =>
     refine Ug [.g 17 true (decide_eq_true (by simp;omega)),.r 21 (eI (b:=(r.length:Int)) (by simp;omega)),.i r.length,.x (l:=U0 O.reverse) (i:=0+r.length) (xs:=Fb y) (by rw[Zy];exact gy),.r 28 (eI (b:=((r.length+1:Nat):Int)) (by simp)),.i (r.length+1),.x (l:=U0 O.reverse) (i:=0+(r.length+1)) (xs:=Fb z) (by rw[Zy];exact gz),.k co,.k cg,.t (decide_eq_true hg),.r 42 (eI (b:=((r.length+1:Nat):Int)) (by simp)),.i (r.length+1)] rfl ?_;exact rd (true,y::r) (by simp) hin rfl
 ·obtain rfl:i=R.length:=by omega
  rw[Q7];exact Uh [.f (by simp[hcl])] rfl
theorem mG{sg:Uo->Int}{R:List Pt}(h:R≠[]):0<(Pj sg R).length:=by
 unfold Pj;rw[Xs];obtain⟨x,hx⟩:∃x,R.getLast? = some x:=⟨_,Ys h⟩;obtain⟨l,hl⟩:=Y9.1 hx;rw[hl,Ia];simp
theorem rF{α:Type}(s:α->α->α->Bool)(c:α):∀{st:List α},st≠[]->0<(Lq s c st).length
 | [],h=>absurd rfl h
 | [_],_=>by simp[Lq]
 |
  b::a::r,_=>by
  simp only[Lq]
  split
  ·simp
  ·exact rF s c (by simp)
theorem BE{sg:Uo->Int}{R:List Pt}(h:2<=R.length):2<=(Pj sg R).length:=by
 unfold Pj;rw[Xs];obtain⟨x,hx⟩:∃x,R.getLast? = some x:=⟨_,Ys (by intro e;rw[e]at h;simp at h)⟩;obtain⟨l,hl⟩:=Y9.1 hx;have hl0:l≠[]:=by intro e;rw[hl,e]at h;simp at h
 have:=mG (sg:=sg) hl0;unfold Pj at this;rw[Xs]at this;have:=rF (FX sg) x (st:=P6 (FX sg) [] l) (by intro e;rw[e]at this;simp at this);rw[hl,Ia,Q5];omega
theorem eZ{R:List Pt}{t:Tm}(hR:∀p∈R,Sc p.c)(hn:R.length≤1000000)(ht:Va t):Ul 256 [.agg (ta t),.one (pts R)] [.one (pts (Nb (Fq t) R))]:=by
 have hcl:=G7 R;have hrl:=G7 R.reverse;rw[Xs]at hrl;show Ul 256 [.agg (ta t),.one (.row (U0 R))] [.one (.row (U0 (Nb (Fq t) R)))];refine Fv func256 rfl ?_;by_cases h3:R.length<3
 ·have e:Nb (Fq t) R=R:=if_pos h3;rw[e];exact Uh [.T] rfl
 have c1:=lD hR hn ht;have c2:=lD (R:=R.reverse) (λp hp=>hR p (Jm.1 hp)) (by rw[Xs];exact hn) ht;have p1:=BE (sg:=Fq t) (R:=R) (by omega);have p2:=BE (sg:=Fq t) (R:=R.reverse) (by rw[Xs];omega);have k1:=QF (Fq t) R;have k2:=QF (Fq t) R.reverse;rw[Xs]at k2;refine go tt [.F,.o 5 40 5,.r 15 (eI (b:=(R.length:Int)-1-((0:Nat):Int)) (by omega))] rfl (by simp[U3,hcl];omega) ?_;refine Uk (S:=Nat) 2 (λL1 j=>(6,.v (.oi ((R.length:Int)-1-(j:Int))))::(5,.v (.one (.orow 1 5 none)))::L1) (λj=>[.blk 105 (ta t),.row false 40 5 (U0 (R.reverse.take j))]) (λj=>R.length-j) (λj=>j<=R.length) 0 (Qh _) rfl rfl λj hj=>?_
 by_cases hlt:j<R.length
 ·obtain⟨x,hx⟩:=gxE (l:=R) (i:=R.length-1-j) (by omega);have hx':R.reverse[j]? = some x:=by rw[List.getElem?_reverse (by omega)];exact hx
  have hm:∀y∈[Fb x],y.length=5:=λy hy=>by rw[Qk.1 hy];rfl
  have e:U0 (R.reverse.take (j+1))=U0 (R.reverse.take j)++[Fb x]:=by rw[Z1,hx'];simp[U0]
  have htl:(U0 (R.reverse.take j)).length=j:=by rw[G7,Qr,Xs];omega
  refine go tt [.T,.r 22 (eI (b:=((R.length-1-j:Nat):Int)) (by omega)),.x (Ts hx),.s (sz:=5) hm,.r 19 (eI (b:=(R.length:Int)-1-((j+1:Nat):Int)) (by omega))] rfl (by simp[U3,htl];omega) ?_;exact rd (j+1) (by omega) hlt (by rw[e];rfl)
 ·obtain rfl:j=R.length:=by omega
  rw[Qo (by rw[Xs];exact Qm _)];obtain⟨A,hA⟩:=nmE (Pj (Fq t) R);obtain⟨C,hC⟩:=nmE (Pj (Fq t) R.reverse);have e:Nb (Fq t) R=A.dropLast++C.dropLast:=by rw[hA,hC];exact if_neg h3
  rw[<-hA]at c1 p1 k1;rw[<-hC]at c2 p2 k2;rw[e];have hs:∀y∈(C.map Fb).take (C.length-1),y.length=5:=λy hy=>YA C y (Qn hy)
  have hs2:∀y∈(A.map Fb).take (A.length-1),y.length=5:=λy hy=>YA A y (Qn hy)
  refine Uh [.F,.p 1,.k c1,.k c2,.r 36 (eI (b:=((A.length-1:Nat):Int)) (by simp;omega)),.r 39 (eI (b:=((A.length-1:Nat):Int)) (by simp;omega)),.i (A.length-1),.r 44 (eI (b:=((C.length-1:Nat):Int)) (by simp;omega)),.i (C.length-1),.s (sz:=5) hs] rfl (by simp[U0,Jw,List.dropLast_eq_take]) ?_;simp only[U3,Qr,Zb]
  and_intros <;> first|exact hs2|omega
theorem TE{l:List Pt}{t:Tm}(hl:∀p∈l,Sc p.c)(hn:l.length≤1000000)(ht:Va t):U6 prog 253 [.agg (ta t),.one (pts l)] [] [.one (.orow 0 7 none)] [.row false 99 7 (Fl (S6 (Fq t) l))]:=by
 have hcl:=G7 l;show U6 prog 253 [.agg (ta t),.one (.row (U0 l))] [] [.one (.orow 0 7 none)] [.row false 99 7 (Fl (S6 (Fq t) l))];refine Fv func253 rfl ?_;refine Uf [.o 5 99 7] rfl ?_;refine Uk (S:=Nat) 2 (λL1 i=>(6,.v (.oi ((i+1:Nat):Int)))::(5,.v (.one (.orow 1 7 none)))::L1) (λi=>[.blk 105 (ta t),.row false 99 7 (Fl ((S6 (Fq t) l).take i))]) (λi=>l.length-i) (λi=>i<=l.length-1) 0 (Qh _) rfl rfl λi hi=>?_
 by_cases hlt:i+1<l.length
 ·obtain⟨a,ha⟩:=gxE (l:=l) (i:=i) (by omega);obtain⟨b,hb⟩:=gxE (l:=l) (i:=i+1) hlt;have hg:=TK (Fq t) ha hb;have hm:∀y∈[Lx (QO (Fq t) a b)],y.length=7:=λy hy=>by rw[Qk.1 hy];rfl
  refine go tt [.t (by simp[hcl];omega),.r 19 (eI (b:=(i:Int)) (by simp)),.x (Ts ha),.x (Ts hb),.k (lW (hl a (Qa ha)) (hl b (Qa hb)) ht),.s (sz:=7) hm,.r 14 (eI (b:=((i+1+1:Nat):Int)) (by simp))] rfl (by simp[U3,G7,Be,B5];omega) ?_;exact rd (i+1) (by omega) (by omega) (by rw[hg];simp[Fl];rfl)
 ·have e:(S6 (Fq t) l).take i=S6 (Fq t) l:=Qo (by rw[B5];omega);rw[e];exact Uj [] [1] [.f (by simp[hcl];omega)] rfl
theorem uM{C:List Pt}{i:Nat}{a b:Pt}(ha:C[i]? = some a)(hb:C[(i+1) % C.length]? = some b):(Rv C)[i]? = some (a,b):=by
 have hi:=(Qe.1 ha).1;unfold Rv;rw[List.getElem?_zip_eq_some];refine⟨ha,?_⟩;by_cases h:i+1<C.length
 ·rw[Xw h]at hb;rw[Zi (by rw[Q8];omega),Xd,Jv];exact hb
 ·have e:i+1=C.length:=by omega
  rw[e,Nat.mod_self]at hb;rw[Xa (by rw[Q8];omega),Q8,show i-(C.length-1)=0 by omega,Kf (by omega)];exact hb
theorem uN(C:List Pt):(Rv C).length=C.length:=by
 unfold Rv;rw[List.length_zip,Qx,Q8,Qr];omega
theorem EA{α β:Type}{f:α->List β}{l:List α}{i:Nat}{x:α}(h:l[i]? = some x):(l.take (i+1)).flatMap f=(l.take i).flatMap f++f x:=by
 rw[Z1,h];simp
theorem TR{α β:Type}{f:α->β}{p:α->Bool}{l:List α}{i:Nat}{x:α}(h:l[i]? = some x):((l.take (i+1)).filter p).map f=((l.take i).filter p).map f++if p x=true then [f x]else []:=by
 rw[Z1,h,Vk,Yj];congr 1;simp only[Option.toList];by_cases hp:p x=true
 ·rw[if_pos hp,X5 hp];rfl
 ·rw[if_neg hp,Jz hp];rfl
theorem uA{α β:Type}{f:α->List β}{n:Nat}(hf:∀x,(f x).length<=n)(l:List α):(l.flatMap f).length<=l.length*n:=KC f n l λx _=>hf x
theorem Qaw{l:List Pt}(hl:∀p∈l,Sc p.c):∀p∈l,Qd4 4294967294 1073741824 p:=λp hp=>⟨(hl p hp).n,(hl p hp).c.mono (by decide) (by decide)⟩
set_option maxHeartbeats 4000000 in
theorem IT{l:List Pt}{a:Tm}{c:Cr}{r1:Uu}(hl:∀p∈l,Sc p.c)(hn:l.length≤10)(ha:Va a):U6 prog 197 [.one (.ow 0 0),.agg (ta a)] [.blk 225 (Hn c (U0 l) r1)] [.one (.row (Fl (AM l a)))] [.blk 225 (Hn c (U0 l) (brH l a))]:=by
 have hwl:=Az l;have cw:=mZ (l:=l) (Qaw hl) (by omega);have cr:=wF (l:=H7 l) (λp hp=>hl p (Tp hp)) (by omega) ha;have cn:=eZ (R:=Rr a (H7 l)) (λp hp=>hl p (Tp (Gv.1 hp))) (by rw[Pu];omega) ha;have cr2:=wF hl (by omega) ha;have cc:=TE (l:=Rr a l) (t:=a) (λp hp=>hl p (Gv.1 hp)) (by rw[Pu];omega) ha;have hCm:∀p∈Rk l a,p∈l:=λp hp=>I6 hp
 have hCl:=HN l a;have e0:AM l a=JA l a++Bi (Fq a) l (Rk l a):=rfl;rw[e0];show U6 prog 197 _ _ _ [.blk 225 (Hn c (U0 l) (U0 (Rk l a)))];have cn:Ul 256 [.agg (ta a),.one (pts (Rr a (H7 l)))] [.one (pts (Rk l a))]:=cn;have cc:U6 prog 253 [.agg (ta a),.one (pts (Rr a l))] [] [.one (.orow 0 7 none)] [.row false 99 7 (Fl (JA l a))]:=cc;have hbl:(JA l a).length<=10:=by unfold JA;rw[B5,Pu];omega
 obtain⟨C,hC⟩:=nmE (Rk l a);obtain⟨cs0,hc0⟩:=nmE (JA l a);rw[<-hC]at cn hCm hCl ⊢;rw[<-hc0]at cc hbl ⊢;have hcp:=G7 C;have hlp:=G7 l;have eel:∀x,(Ag (Fq a) l x).length<=l.length:=λx=>by unfold Ag;rw[List.length_map];exact List.length_filter_le _ _
 refine Fv func197 rfl ?_;refine Uf [.k cw,.k cr,.k cn,.k Iq,.k cr2,.c [2] cc] rfl ?_;by_cases h2:C.length<2
 ·have e:Bi (Fq a) l C=[]:=if_pos h2;rw[e,Zv];exact Uj [2] [0] [.t (decide_eq_true (by simp;omega))] rfl
 have e:Bi (Fq a) l C=(Rv C).flatMap (Ag (Fq a) l):=if_neg h2;rw[e];refine Uf [.f (decide_eq_false (by simp;omega))] rfl ?_;refine sb [(48,.v (.oi 0)),(47,.v (.oi ((C.map Fb).length:Int))),(46,.v (.one (pts C))),(6,.v (.one (.orow 2 7 none))),(3,.v (.one (.ow 1 0))),(0,.v (.one (.ow 0 0)))] [.blk 225 (Hn c (U0 l) (U0 C)),.blk 105 (ta a),.row false 99 7 (Fl cs0)] rfl rfl ?_;rw[show Fl cs0=Fl (cs0++((Rv C).take 0).flatMap (Ag (Fq a) l)) by simp];refine Uk (S:=Nat) 3 (λL1 i=>(48,.v (.oi i))::(6,.v (.one (.orow 2 7 none)))::L1) (λi=>[.blk 225 (Hn c (U0 l) (U0 C)),.blk 105 (ta a),.row false 99 7 (Fl (cs0++((Rv C).take i).flatMap (Ag (Fq a) l)))]) (λi=>C.length-i) (λi=>i<=C.length) 0 (Qh _) rfl rfl λi hi=>?_
 by_cases hlt:i<C.length
 ·obtain⟨x,hx⟩:=gxE (l:=C) (i:=i) hlt;obtain⟨y,hy⟩:=gxE (l:=C) (i:=(i+1) % C.length) (Z6 _ (by omega));have he:=uM hx hy;have sx:=hl x (hCm x (Qa hx));have sy:=hl y (hCm y (Qa hy));have hflat:=EA (f:=Ag (Fq a) l) he;obtain⟨F,hF⟩:=nmE (cs0++((Rv C).take i).flatMap (Ag (Fq a) l));have hFl:F.length<=10+20*10:=by
   have h1:=uA eel ((Rv C).take i);have h2:((Rv C).take i).length*l.length<=20*10:=Zd (by rw[Qr];omega) hn;rw[hF,Qx];omega
  have hmod:(((i+1:Nat):Int)).tmod ((C.map Fb).length:Int)=(((i+1) % C.length:Nat):Int):=by rw[Zb];exact(Int.ofNat_tmod _ _).symm
  have hm0:=Yg ((i+1:Nat):Int) (show(C.length:Int)≠0 by omega);have hm1:=Jt ((i+1:Nat):Int) (show(0:Int)<C.length by omega);have hnext:cs0++((Rv C).take (i+1)).flatMap (Ag (Fq a) l)=F++(l.filter (VT (x,y))).map λc=>Lh (Fq a) x y c:=by rw[hflat,<-Ze,<-hF];rfl
  rw[<-hF];refine go tt [.t (decide_eq_true (by simp;omega)),.x (Ts hx),.r 58 (eI (b:=((i+1:Nat):Int)) (by simp)),.r 64 (eI (b:=(((i+1) % C.length:Nat):Int)) hmod),.x (Ts hy),.k Iq] rfl (by simp only[U3];omega) ?_;rw[show Fl F=Fl (F++((l.take 0).filter (VT (x,y))).map λc=>Lh (Fq a) x y c) by simp];refine Uk (S:=Nat) 5 (λL1 k=>(73,.v (.oi k))::(6,.v (.one (.orow 2 7 none)))::L1) (λk=>[.blk 225 (Hn c (U0 l) (U0 C)),.blk 105 (ta a),.row false 99 7 (Fl (F++((l.take k).filter (VT (x,y))).map λc=>Lh (Fq a) x y c)),.blk 40 (Fb x),.blk 40 (Fb y)]) (λk=>l.length-k) (λk=>k<=l.length) 0 (Qh _) rfl rfl λk hk=>?_
  by_cases hlk:k<l.length
  ·obtain⟨z,hz⟩:=gxE (l:=l) (i:=k) hlk;have sz:=hl z (Qa hz);have hflt:=TR (f:=λc=>Lh (Fq a) x y c) (p:=VT (x,y)) hz;obtain⟨G,hG⟩:=nmE (((l.take k).filter (VT (x,y))).map λc=>Lh (Fq a) x y c);have hGl:G.length<=10:=by
    have h1:=Y3 (VT (x,y)) (l.take k);rw[Qr]at h1;rw[hG,Zb];omega
   rw[<-hG]at hflt ⊢;by_cases h1:z.id=x.id
   ·rw[if_neg (show ¬VT (x,y) z=true by simp[VT,h1]),Zv]at hflt;refine Ug [.t (decide_eq_true (by simp;omega)),.x (Ts hz),.g 82 false (decide_eq_false (by simp[h1])),.f rfl] rfl ?_;exact rd (k+1) (by omega) hlk (by rw[hflt];rfl)
   ·by_cases h2:z.id=y.id
    ·rw[if_neg (show ¬VT (x,y) z=true by simp[VT,h2]),Zv]at hflt;refine Ug [.t (decide_eq_true (by simp;omega)),.x (Ts hz),.g 82 true (decide_eq_true h1),.f (decide_eq_false (by simp[h2]))] rfl ?_;exact rd (k+1) (by omega) hlk (by rw[hflt];rfl)
    ·rw[if_pos (show VT (x,y) z=true by simp[VT,h1,h2])]at hflt;have hm:∀q∈[Lx (Lh (Fq a) x y z)],q.length=7:=λq hq=>by rw[Qk.1 hq];rfl
     refine go tt [.t (decide_eq_true (by simp;omega)),.x (Ts hz),.g 82 true (decide_eq_true h1),.t (decide_eq_true h2),.k (lF sx sy sz ha),.s (sz:=7) hm] rfl (by simp[U3,Be];omega) ?_;have e3:Fl (F++(G++[Lh (Fq a) x y z]))=Fl (F++G)++[Lx (Lh (Fq a) x y z)]:=by simp[Fl]
     exact rd (k+1) (by omega) hlk (by rw[hflt,e3];rfl)
  ·obtain rfl:k=l.length:=by omega
   rw[Q7,<-hnext];refine Ug [.f (decide_eq_false (by simp))] rfl ?_;exact rd (i+1) (by omega) hlt rfl
 ·obtain rfl:i=C.length:=by omega
  rw[Qo (by rw[uN];exact Qm _)];exact Uj [2] [0] [.f (decide_eq_false (by simp))] rfl
theorem ozM{P:Program}[Mo P]{n:Nat}{Q:Exit->Sg->Uv->Prop}{L L':Sg}{B B':Uv}(d off T sz:Nat){it:List It}(hs:Rm it=true)(h:cQ (P:=P) d L B [.oc d off T sz]=some (L',B',[],[]))(k:AK P n Q it L' B'):AK P n Q it L B:=AK.sub (EY h EqOk.nil) hs k
theorem xE{k:Crv}(hk:Sc k):Ul 279 [.agg (cl k)] [.one (.row (JG (ZF k)))]:=by
 have ok:=FM hk.n hk.c;have l1:=Tx k.x k.x;have l2:=Tx k.y k.y;have:=hk.c.lx;have:=hk.c.ly;have bx:Bd 258 (Gl k.x k.x):=Pi (u:=2) hk.c.x hk.c.x (by omega);have by_:Bd 258 (Gl k.y k.y):=Pi (u:=2) hk.c.y hk.c.y (by omega);have c1:=Pp (p:=k.x) (c:=k.d) (by omega) (U5 hk.c.x (by decide)) (Qc hk.c.d (by decide));have c2:=Pp (p:=k.y) (c:=k.d) (by omega) (U5 hk.c.y (by decide)) (Qc hk.c.d (by decide));have c3:=KU (p:=k.x) (q:=k.x) hk.n.1 hk.n.1 (by omega) (by omega) hk.c.x hk.c.x (by decide);have c4:=KU (p:=k.y) (q:=k.y) hk.n.2.1 hk.n.2.1 (by omega) (by omega) hk.c.y hk.c.y (by decide);have c5:=BW (p:=Gl k.x k.x) (q:=Gl k.y k.y) (by omega) (by omega) (U5 bx (by decide)) (U5 by_ (by decide));have c6:=P0 (U4 k.d) (U4 k.d) (Qc hk.c.d (by decide)) (Qc hk.c.d (by decide));have hl:∀p∈ZF k,p.length≤1000000:=λp hp=>by
  obtain⟨j,hj⟩:=Xm hp;have h1:=ok.2 j p hj;have:[2,2,4,0].getD j 0<=4:=by
   match j with
   | 0=>decide
   | 1=>decide
   | 2=>decide
   | 3=>decide
   |j+4=>simp
  omega
 have cd:=Qem (r:=ZF k) (λp hp=>(ok.1 p hp).1) (λp hp=>U5 (ok.1 p hp).2 (by decide)) hl (by show 4<=1000;decide);exact Ui func279 rfl [.k (Dw hk.n (hk.c.mono (by decide) (by decide))),.k c1,.k c2,.k c3,.k c4,.k c5,.k c6,.k cd] rfl
theorem Qew{a b c d:Crv}(ha:Sc a)(hb:Sc b)(hc:Sc c)(hd:Sc d):Ul 238 [.agg (cl a),.agg (cl b),.agg (cl c),.agg (cl d)] [pr (VA a b c d)]:=by
 have cd:=Qrr (by decide) (k:=4) (ds:=[2,2,4,0]) (by decide) rfl (by decide) (tL ha.n hb.n hc.n hd.n ha.c hb.c hc.c hd.c);exact Ui func238 rfl [.k (xE ha),.k (xE hb),.k (xE hc),.k (xE hd),.k cd] rfl
set_option maxHeartbeats 1000000 in
theorem Qm1{a b c d:Pt}{t:Tm}(ha:Sc a.c)(hb:Sc b.c)(hc:Sc c.c)(hd:Sc d.c)(ht:Va t):Ul 255 [.oi 4,.agg (ta t),.one (.row [Fb a,Fb b,Fb c,Fb d])] [.agg (Lx (qF (Fq t) a b c d)),.oi 0]:=by
 have hp:=(aQ ha hb hc hd).dp;have e:Lx (qF (Fq t) a b c d)=[.int .i64 4,.int .i64 a.id,.int .i64 b.id,.int .i64 c.id,.int .i64 d.id,pl (VA a.c b.c c.c d.c),.int .i64 (Hl (Fq t) (VA a.c b.c c.c d.c))]:=by rw[qF]
 rw[e];have cg:=TA hp ht;have cf:=Qew ha hb hc hd;generalize VA a.c b.c c.c d.c=F at *;refine Fv func255 rfl ?_;refine Uf [.k Qbu,.f rfl] rfl ?_;refine Uk (S:=Nat) 3 (λL1 i=>(22,.v (.oi i))::L1) (λi=>[.blk 105 (ta t),.blk 99 zCt,.blk 99 [.int .i64 4,.int .i64 (if 1<=i then a.id else 0),.int .i64 (if 2<=i then b.id else 0),.int .i64 (if 3<=i then c.id else 0),.int .i64 (if 4<=i then d.id else 0),.nils,.int .i64 0]]) (λi=>4-i) (λi=>i<=4) 0 (Qh _) rfl rfl λi hi=>?_
 rcases(show i=0\/i=1\/i=2\/i=3\/i=4 by omega)with rfl|rfl|rfl|rfl|rfl
 ·refine Uf [.t rfl,.x (i:=0) (xs:=Fb a) rfl,.i 0] rfl ?_ (by simp[U3]);exact rd 1 (by omega) (by omega) rfl
 ·refine Uf [.t rfl,.x (i:=1) (xs:=Fb b) rfl,.i 1] rfl ?_ (by simp[U3]);exact rd 2 (by omega) (by omega) rfl
 ·refine Uf [.t rfl,.x (i:=2) (xs:=Fb c) rfl,.i 2] rfl ?_ (by simp[U3]);exact rd 3 (by omega) (by omega) rfl
 ·refine Uf [.t rfl,.x (i:=3) (xs:=Fb d) rfl,.i 3] rfl ?_ (by simp[U3]);exact rd 4 (by omega) (by omega) rfl
 ·exact Uh [.f rfl,.f rfl,.f rfl,.f rfl,.t rfl,.x (i:=0) (xs:=Fb a) rfl,.x (i:=1) (xs:=Fb b) rfl,.x (i:=2) (xs:=Fb c) rfl,.x (i:=3) (xs:=Fb d) rfl,.k cf,.k cg] rfl
end Orr
