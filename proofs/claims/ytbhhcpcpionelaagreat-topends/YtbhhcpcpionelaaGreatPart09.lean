/- En1 TW1 TW2 R3 R4 RefPL R5 R6 RefGL R7 RatOkL R8 R9 RefCL R10 R11 R12 R13 R14 R15 R16 R17 R18 SC1 W1 W2 WR18 WS18 X19 MeshK H2 H3 MD1 -/
import Derived.Test.YtbhhcpcpionelaaGreatPart08
import Derived.Test.YtbhhcpcpionelaaGreatPart00
import Derived.Test.YtbhhcpcpionelaaGreatPart07
import Derived.Test.YtbhhcpcpionelaaGreatPart04
import Derived.Test.YtbhhcpcpionelaaGreatPart05
set_option linter.all false
namespace Orr
open Go Go.Proofs Tryz Orq
set_option maxRecDepth 10000
theorem wR(l:Us):(lm l).length=l.length:=by simp[lm]
theorem ZD{z:Int}:(Gg z.natAbs).length<=4↔Fg z<=128:=by
 constructor
 ·intro h;have h1:=Bu (Gg z.natAbs) (Dq z.natAbs).1;rw[Ha]at h1;refine S6.2 (Z9 h1 (Qa (Zt (by decide) h) (by decide)))
 ·intro h;have:=Ti (x:=z.natAbs) (k:=128) h;omega
def ZV(k:Crv):Bool:=(k.x++k.y++[k.d]).all λz=>decide (Fg z<=128)
theorem AM{k:Crv}:ZV k=true↔(∀z∈k.x,Fg z≤128)/\(∀z∈k.y,Fg z≤128)/\Fg k.d≤128:=by
 unfold ZV;simp only[List.all_append,Zo,Ju,decide_eq_true_iff,Ql,forall_eq];constructor
 ·rintro⟨⟨h1,h2⟩,h3⟩;exact⟨h1,h2,h3⟩
 ·rintro⟨h1,h2,h3⟩;exact⟨⟨h1,h2⟩,h3⟩
theorem UZ{k:Crv}{z:Int}(hz:z∈k.x++k.y++[k.d])(h:¬Fg z<=128):ZV k=false:=by
 unfold ZV;rw[<-Bool.not_eq_true,Ju];intro h';exact h (of_decide_eq_true (h' z hz))
abbrev tB(np nd:Int)(l:List Pt):OB:=.blk 158 (taR np nd l)
theorem aS{np nd:Int}{l:List Pt}(id:Int)(hl:l.length<1073741824):U8 prog 80 [.one (.ow 0 0),.oi id] [tB np nd l] [.oi (Tc l id:Int),.one (.bool (has l id))] [tB np nd l]:=by
 refine Fz func80 rfl ?_;refine Uh [] rfl ?_;refine ct 2 (S:=Unit) (λ_=>[(1,.v (.oi id)),(0,.v (.one (.ow 0 0))),(6,.v (.oi (Tc l id:Int)))]) (λ_=>[tB np nd l]) (λ_=>True) rfl ?_ ?_
 ·refine Um (S:=Nat) 1 (λL1 k=>(6,.v (.oi k))::L1) (λ_=>[tB np nd l]) (λk=>l.length-k) (λk=>k<=l.length/\∀j p,j<k->l[j]? = some p->p.id<id) 0 ⟨Qh _,λj p h=>by omega⟩ rfl rfl λk ⟨hk,hlt⟩=>?_
  by_cases h:k<l.length
  ·obtain⟨p,hp⟩:=gxE (l:=l) (i:=k) h;by_cases hid:p.id<id
   ·refine Ui [.t (by simp;omega),.x (Si hp),.t (by simpa using hid)] rfl ?_;exact rd (k+1) (by omega) ⟨h,λj q hj hq=>by
     rcases Zd j k with h2|h2
     ·exact hlt j q h2 hq
     ·have:j=k:=by omega
      subst this;rw[hp]at hq;injection hq with hq;rw[<-hq];exact hid⟩ rfl
   ·have e:=EA hlt (.inr ⟨p,hp,hid⟩);refine Uh [.t (by simp;omega),.x (Si hp),.f (by simpa using hid)] rfl ?_;rw[e];exact rc () trivial rfl
  ·obtain rfl:k=l.length:=by omega
   have e:=EA hlt (.inl rfl);refine Uh [.f (by simp),.f rfl] rfl ?_;rw[e];exact rc () trivial rfl
 ·intro _ _;by_cases h:Tc l id<l.length
  ·obtain⟨p,hp⟩:=gxE (l:=l) (i:=Tc l id) h;have e:has l id=decide (p.id=id):=by simp[has,hp]
   rw[e];exact Ul [] [0] [.g 36 true (by simp;omega),.x (Si hp)] rfl
  ·have e:has l id=false:=by simp[has,Qw (J9 h)]
   rw[e];exact Ul [] [0] [.g 36 false (by simp;omega)] rfl
theorem OF{lx ly:Uw}{px py:Uq}{x y:LV}{d:Int}(hx:IsInts lx px)(hy:IsInts ly py)(hd:Gi x y d)(hk:Cs 4294967294 1073741824 (Crv.mk px py d))(id:Int):Un 81 [.agg [.row lx,.row ly,x,y,.int .i64 id]] [.agg (Ff ⟨Crv.norm (Crv.mk px py d),id⟩)]:=by
 have cd:=M4 hd (Qa hk.d (by omega));by_cases h0:d=0
 ·subst h0;have ck:Cs 4294967294 1073741824 (Crv.mk px py 1):=⟨hk.x,hk.y,show Fg 1<=4294967294 by decide,hk.lx,hk.ly⟩;have cm:=UM hx hy (U6 1) ck (by decide);have e:Crv.norm (Crv.mk px py 1)=Crv.norm (Crv.mk px py 0):=by simp only[Crv.norm,Crv.g,Crv.d'];rfl
  rw[e]at cm;obtain⟨b,l,rfl,rfl,_⟩:=hd;exact Uk func81 rfl [.k cd,.k Dl,.t (by simp),.k (BI (z:=1) (by decide)),.k cm] rfl
 ·have cm:=UM hx hy hd hk h0;obtain⟨b,l,rfl,rfl,_⟩:=hd;exact Uk func81 rfl [.k cd,.k Dl,.f (by simpa using h0),.k cm] rfl
theorem Qhc{k:Crv}(hk:Cs 4294967294 1073741824 k):Un 176 [.agg (cl k)] [.one (.bool (ZV k))]:=by
 have hlx:=hk.lx;have hly:=hk.ly;refine Fz func176 rfl ?_;refine Uh [] rfl ?_;refine Um (S:=Nat) 1 (λL1 i=>(15,.v (.oi i))::L1) (λ_=>[.blk 39 (cl k)]) (λi=>3-i) (λi=>i≤3/\(0<i->∀z∈k.x,Fg z≤128)/\(1<i->∀z∈k.y,Fg z≤128)/\(2<i->Fg k.d≤128)) 0 ⟨by decide,by omega,by omega,by omega⟩ rfl rfl λi ⟨hi,g0,g1,g2⟩=>?_
 rcases(show i=0\/i=1\/i=2\/i=3 by omega)with rfl|rfl|rfl|rfl
 ·have hl:((k.x).map Hg).length=(k.x).length:=by simp
  refine Uh [.t rfl,.i 0] rfl ?_ (by simp[U5]);refine Um (S:=Nat) 1 (λL1 j=>(20,.v (.oi j))::L1) (λ_=>[.blk 39 (cl k)]) (λj=>(k.x).length-j) (λj=>j<=(k.x).length/\∀n z,n<j->(k.x)[n]? = some z->Fg z<=128) 0 ⟨Qh _,λn z h=>by omega⟩ rfl rfl λj ⟨hj,hs⟩=>?_
  by_cases h:j<(k.x).length
  ·obtain⟨z,hz⟩:=gxE (l:=(k.x)) (i:=j) h;by_cases hb:Fg z<=128
   ·have hb4:=ZD.2 hb;refine Ui [.t (by simp;omega),.x (Hm (f:=Hg) hz),.f (by simp[wR];omega)] rfl ?_;exact rd (j+1) (by omega) ⟨h,λn y hn hy=>by
     rcases Zd n j with h2|h2
     ·exact hs n y h2 hy
     ·have:n=j:=by omega
      subst this;rw[hz]at hy;injection hy with hy;rw[<-hy];exact hb⟩ rfl
   ·have hb4:=mt ZD.1 hb;rw[UZ (Qq.2 (.inl (Qq.2 (.inl (Qc hz))))) hb];exact Uj [.t (by simp;omega),.x (Hm (f:=Hg) hz),.t (by simp[wR];omega)] rfl
  ·have hall:∀z∈k.x,Fg z≤128:=λz hz=>by
    obtain⟨n,hn⟩:=X1 hz;exact hs n z (by have:=(Qf.1 hn).1;omega) hn
   refine Uh [.f (by simp;omega)] rfl ?_ (by simp[U5]);exact rd 1 (by omega) ⟨by omega,λ_=>hall,by omega,by omega⟩ rfl
 ·have hl:((k.y).map Hg).length=(k.y).length:=by simp
  refine Uh [.t rfl,.i 1] rfl ?_ (by simp[U5]);refine Um (S:=Nat) 1 (λL1 j=>(20,.v (.oi j))::L1) (λ_=>[.blk 39 (cl k)]) (λj=>(k.y).length-j) (λj=>j<=(k.y).length/\∀n z,n<j->(k.y)[n]? = some z->Fg z<=128) 0 ⟨Qh _,λn z h=>by omega⟩ rfl rfl λj ⟨hj,hs⟩=>?_
  by_cases h:j<(k.y).length
  ·obtain⟨z,hz⟩:=gxE (l:=(k.y)) (i:=j) h;by_cases hb:Fg z<=128
   ·have hb4:=ZD.2 hb;refine Ui [.t (by simp;omega),.x (Hm (f:=Hg) hz),.f (by simp[wR];omega)] rfl ?_;exact rd (j+1) (by omega) ⟨h,λn y hn hy=>by
     rcases Zd n j with h2|h2
     ·exact hs n y h2 hy
     ·have:n=j:=by omega
      subst this;rw[hz]at hy;injection hy with hy;rw[<-hy];exact hb⟩ rfl
   ·have hb4:=mt ZD.1 hb;rw[UZ (Qq.2 (.inl (Qq.2 (.inr (Qc hz))))) hb];exact Uj [.t (by simp;omega),.x (Hm (f:=Hg) hz),.t (by simp[wR];omega)] rfl
  ·have hall:∀z∈k.y,Fg z≤128:=λz hz=>by
    obtain⟨n,hn⟩:=X1 hz;exact hs n z (by have:=(Qf.1 hn).1;omega) hn
   refine Uh [.f (by simp;omega)] rfl ?_ (by simp[U5]);exact rd 2 (by omega) ⟨by omega,λ_=>g0 (by omega),λ_=>hall,by omega⟩ rfl
 ·have hl:(([k.d]).map Hg).length=([k.d]).length:=by simp
  have h1:([k.d]).length=1:=rfl;refine Uh [.t rfl,.i 2] rfl ?_ (by simp[U5]);refine Um (S:=Nat) 1 (λL1 j=>(20,.v (.oi j))::L1) (λ_=>[.blk 39 (cl k)]) (λj=>([k.d]).length-j) (λj=>j<=([k.d]).length/\∀n z,n<j->([k.d])[n]? = some z->Fg z<=128) 0 ⟨Qh _,λn z h=>by omega⟩ rfl rfl λj ⟨hj,hs⟩=>?_
  by_cases h:j<([k.d]).length
  ·obtain⟨z,hz⟩:=gxE (l:=([k.d])) (i:=j) h;by_cases hb:Fg z<=128
   ·have hb4:=ZD.2 hb;refine Ui [.t (by simp;omega),.x (Hm (f:=Hg) hz),.f (by simp[wR];omega)] rfl ?_;exact rd (j+1) (by omega) ⟨h,λn y hn hy=>by
     rcases Zd n j with h2|h2
     ·exact hs n y h2 hy
     ·have:n=j:=by omega
      subst this;rw[hz]at hy;injection hy with hy;rw[<-hy];exact hb⟩ rfl
   ·have hb4:=mt ZD.1 hb;rw[UZ (Qq.2 (.inr (Qc hz))) hb];exact Uj [.t (by simp;omega),.x (Hm (f:=Hg) hz),.t (by simp[wR];omega)] rfl
  ·have hall:∀z∈[k.d],Fg z≤128:=λz hz=>by
    obtain⟨n,hn⟩:=X1 hz;exact hs n z (by have:=(Qf.1 hn).1;omega) hn
   refine Uh [.f (by simp;omega)] rfl ?_ (by simp[U5]);exact rd 3 (by omega) ⟨by omega,λ_=>g0 (by omega),λ_=>g1 (by omega),λ_=>hall k.d (by simp)⟩ rfl
 ·rw[AM.2 ⟨g0 (by omega),g1 (by omega),g2 (by omega)⟩];exact Uj [.f rfl] rfl
def XI(p:Pt):Bool:=decide (0<=p.id) && (decide (p.id<=1048576) && ZV p.c)
theorem Qhh{p:Pt}(hk:Cs 4294967294 1073741824 p.c):Un 127 [.agg (Ff p)] [.one (.bool (XI p))]:=by
 have cs:=Qhc hk;by_cases h0:0<=p.id
 ·by_cases h1:p.id<=1048576
  ·have e:XI p=ZV p.c:=by simp[XI,h0,h1]
   rw[e];exact Uk func127 rfl [.t (by simpa using h0),.t (by simpa using h1),.k cs] rfl
  ·have e:XI p=false:=by simp[XI,h1]
   rw[e];exact Uk func127 rfl [.t (by simpa using h0),.f (by simpa using h1)] rfl
 ·have e:XI p=false:=by simp[XI,h0]
  rw[e];exact Uk func127 rfl [.f (by simpa using h0),.f rfl] rfl
theorem nJ{k:Crv}(hn:YZ k)(hk:Cs 4294967294 1073741824 k):Un 94 [.agg (cl k)] [.oi (Ah k)] :=
 Uk func94 rfl [.k (CV hn hk),.k (Me k.x),.k (Me k.y)] rfl
def Ng(np nd:Int)(M:List Pt)(p:Pt):Int:=if XI p=false then 1 else if has M p.id=true then 6 else if nd<Ah p.c then 7 else if np<=(M.length:Int)then 9 else 0
theorem Qvd{lx ly:Uw}{px py:Uq}{x y:LV}{d id np nd:Int}{l:List Pt}(hx:IsInts lx px)(hy:IsInts ly py)(hd:Gi x y d)(hk:Cs 4294967294 1073741824 (Crv.mk px py d))(hl:l.length<=1000000) :
 U8 prog 76 [.one (.ow 0 0),.agg [.row lx,.row ly,x,y,.int .i64 id]] [tB np nd l] [.oi (Ng np nd l (Pt.mk (Crv.norm (Crv.mk px py d)) id))] [tB np nd (if Ng np nd l (Pt.mk (Crv.norm (Crv.mk px py d)) id)=0 then put l (Pt.mk (Crv.norm (Crv.mk px py d)) id)else l)]:=by
 have cf:=OF hx hy hd hk id;have hkn:=hk.norm (by omega);have hnm:=Crv.nml (Crv.mk px py d);obtain⟨b,r,rfl,rfl,_⟩:=hd;obtain⟨q,hq⟩:=nmE (Pt.mk (Crv.norm (Crv.mk px py d)) id);have hqi:q.id=id:=by rw[hq]
 have hqc:q.c=Crv.norm (Crv.mk px py d):=by rw[hq]
 rw[<-hq]at cf ⊢;rw[<-hqc]at hkn hnm;have ca:U8 prog 80 [.one (.ow 0 0),.oi q.id] [tB np nd l] [.oi (Tc l id:Int),.one (.bool (has l id))] [tB np nd l]:=by rw[hqi];exact aS id (by omega)
 have cm:=Qhh (p:=q) hkn;have cd:=nJ hnm hkn;have hpl:=vL l id;have hll:(l.map Ff).length=l.length:=by simp
 by_cases h0:XI q=false
 ·have e:Ng np nd l q=1:=by simp[Ng,h0]
  rw[e,if_neg (by decide)];refine Fz func76 rfl ?_;exact Ul [] [0] [.k cf,.c [0] ca,.k cm,.t (by simp[h0])] rfl
 by_cases h1:has l id=true
 ·have e:Ng np nd l q=6:=by simp[Ng,h0,hqi,h1]
  rw[e,if_neg (by decide)];refine Fz func76 rfl ?_;exact Ul [] [0] [.k cf,.c [0] ca,.k cm,.f (by simpa using h0),.t h1] rfl
 by_cases h2:nd<Ah q.c
 ·have e:Ng np nd l q=7:=by simp[Ng,h0,hqi,h1,h2]
  rw[e,if_neg (by decide)];refine Fz func76 rfl ?_;exact Ul [] [0] [.k cf,.c [0] ca,.k cm,.f (by simpa using h0),.f (by simpa using h1),.k cd,.t (by simpa using h2)] rfl
 by_cases h3:np<=(l.length:Int)
 ·have e:Ng np nd l q=9:=by simp[Ng,h0,hqi,h1,h2,h3]
  rw[e,if_neg (by decide)];refine Fz func76 rfl ?_;exact Ul [] [0] [.k cf,.c [0] ca,.k cm,.f (by simpa using h0),.f (by simpa using h1),.k cd,.f (by simpa using h2),.t (by simp;omega)] rfl
 have e:Ng np nd l q=0:=by simp[Ng,h0,hqi,h1,h2,h3]
 rw[e,if_pos rfl];have s1:∀c∈(l.map Ff).take (Tc l id),c.length=5:=λc hc=>Su l c (Qo hc)
 have s3:∀c∈(l.map Ff).drop (Tc l id),c.length=5:=λc hc=>Su l c (Qz hc)
 have ep:pts (put l q)=.row ((l.map Ff).take (Tc l id)++[Ff q]++(l.map Ff).drop (Tc l id)):=by
  simp[put,hqi,pts,Jw,Vi]
 have eB:tB np nd (put l q)=.blk 158 [.int .i64 np,.int .i64 nd,.row ((l.map Ff).take (Tc l id)++[Ff q]++(l.map Ff).drop (Tc l id))]:=by
  show OB.blk 158 [.int .i64 np,.int .i64 nd,pts (put l q)]=_;rw[ep]
 rw[eB];refine Fz func76 rfl ?_;exact Ul [2] [0] [.k cf,.c [0] ca,.k cm,.f (by simpa using h0),.f (by simpa using h1),.k cd,.f (by simpa using h2),.f (by simp;omega),.i (Tc l id),.s s1,.i (Tc l id),.s s3] rfl (by
  simp only[U5,Qu,Q3,Ji,Qr,Q9,hll]
  and_intros <;> first|exact Su l|omega)
def Nj(nd:Int)(M:List Pt)(p:Pt):Int:=if XI p=false then 1 else if has M p.id=false then 5 else if nd<Ah p.c then 7 else 0
theorem Qoy{lx ly:Uw}{px py:Uq}{x y:LV}{d id np nd:Int}{l:List Pt}(hx:IsInts lx px)(hy:IsInts ly py)(hd:Gi x y d)(hk:Cs 4294967294 1073741824 (Crv.mk px py d))(hl:l.length<=1000000) :
 U8 prog 86 [.one (.ow 0 0),.agg [.row lx,.row ly,x,y,.int .i64 id]] [tB np nd l] [.oi (Nj nd l (Pt.mk (Crv.norm (Crv.mk px py d)) id))] [tB np nd (if Nj nd l (Pt.mk (Crv.norm (Crv.mk px py d)) id)=0 then l.set (Tc l id) (Pt.mk (Crv.norm (Crv.mk px py d)) id)else l)]:=by
 have cf:=OF hx hy hd hk id;have hkn:=hk.norm (by omega);have hnm:=Crv.nml (Crv.mk px py d);obtain⟨b,r,rfl,rfl,_⟩:=hd;obtain⟨q,hq⟩:=nmE (Pt.mk (Crv.norm (Crv.mk px py d)) id);have hqi:q.id=id:=by rw[hq]
 have hqc:q.c=Crv.norm (Crv.mk px py d):=by rw[hq]
 rw[<-hq]at cf ⊢;rw[<-hqc]at hkn hnm;have ca:U8 prog 80 [.one (.ow 0 0),.oi q.id] [tB np nd l] [.oi (Tc l id:Int),.one (.bool (has l id))] [tB np nd l]:=by rw[hqi];exact aS id (by omega)
 have cm:=Qhh (p:=q) hkn;have cd:=nJ hnm hkn;have hpl:=vL l id;have hll:(l.map Ff).length=l.length:=by simp
 by_cases h0:XI q=false
 ·have e:Nj nd l q=1:=by simp[Nj,h0]
  rw[e,if_neg (by decide)];refine Fz func86 rfl ?_;exact Ul [] [0] [.k cf,.c [0] ca,.k cm,.t (by simp[h0])] rfl
 by_cases h1:has l id=false
 ·have e:Nj nd l q=5:=by simp[Nj,h0,hqi,h1]
  rw[e,if_neg (by decide)];refine Fz func86 rfl ?_;exact Ul [] [0] [.k cf,.c [0] ca,.k cm,.f (by simpa using h0),.t (by simp[h1])] rfl
 by_cases h2:nd<Ah q.c
 ·have e:Nj nd l q=7:=by simp[Nj,h0,hqi,h1,h2]
  rw[e,if_neg (by decide)];refine Fz func86 rfl ?_;exact Ul [] [0] [.k cf,.c [0] ca,.k cm,.f (by simpa using h0),.f (by simpa using h1),.k cd,.t (by simpa using h2)] rfl
 have e:Nj nd l q=0:=by simp[Nj,h0,hqi,h1,h2]
 rw[e,if_pos rfl];have hh:has l id=true:=by simpa using h1
 have hps:=VZ hh;have eB:tB np nd (l.set (Tc l id) q)=.blk 158 [.int .i64 np,.int .i64 nd,.row ((l.map Ff).set (Tc l id) (Ff q))]:=by
  show OB.blk 158 [.int .i64 np,.int .i64 nd,pts (l.set (Tc l id) q)]=_;unfold pts;rw[List.map_set]
 rw[eB];refine Fz func86 rfl ?_;exact Ul [2] [0] [.k cf,.c [0] ca,.k cm,.f (by simpa using h0),.f (by simpa using h1),.k cd,.f (by simpa using h2),.s (Su l),.i (Tc l id)] rfl (by
  simp only[U5,hll]
  and_intros <;> first|exact Su l|omega)
theorem Qox{id np nd:Int}{l:List Pt}(hl:l.length<=1000000)(h:has l id=true) :
 U8 prog 87 [.one (.ow 0 0),.oi id] [tB np nd l] [.oi 0] [tB np nd (l.take (Tc l id)++l.drop (Tc l id+1))]:=by
 have ca:=aS (np:=np) (nd:=nd) (l:=l) id (by omega);have hpl:=VZ h;rw[h]at ca;have hll:(l.map Ff).length=l.length:=by simp
 have s1:∀c∈(l.map Ff).take (Tc l id),c.length=5:=λc hc=>Su l c (Qo hc)
 have s3:∀c∈(l.map Ff).drop (Tc l id+1),c.length=5:=λc hc=>Su l c (Qz hc)
 have eB:tB np nd (l.take (Tc l id)++l.drop (Tc l id+1))=.blk 158 [.int .i64 np,.int .i64 nd,.row ((l.map Ff).take (Tc l id)++(l.map Ff).drop (Tc l id+1))]:=by
  show OB.blk 158 [.int .i64 np,.int .i64 nd,pts (l.take (Tc l id)++l.drop (Tc l id+1))]=_;unfold pts;rw[List.map_append,List.map_take,List.map_drop]
 rw[eB];refine Fz func87 rfl ?_;exact Ul [1] [0] [.c [0] ca,.f rfl,.i (Tc l id),.s s1,.i (Tc l id+1),.s s3] rfl (by
  simp only[U5,Qu,Q3,Ji,Qr,Q9,hll]
  and_intros <;> first|exact Su l|omega)
theorem Qhf{id np nd:Int}{l:List Pt}(hl:l.length<=1000000)(h:has l id=false) :
 U8 prog 87 [.one (.ow 0 0),.oi id] [tB np nd l] [.oi 5] [tB np nd l]:=by
 have ca:=aS (np:=np) (nd:=nd) (l:=l) id (by omega);rw[h]at ca;refine Fz func87 rfl ?_;exact Ul [] [0] [.c [0] ca,.t rfl] rfl
theorem Qvb{np nd:Int}{l:List Pt}:U8 prog 38 [.one (.ow 0 0)] [tB np nd l] [.oi (l.length:Int)] [tB np nd l]:=by
 have hll:((l.map Ff).length:Int)=l.length:=by simp
 refine Fz func38 rfl ?_;exact Ul [] [0] [.r 7 (eI hll)] rfl
theorem Qhe{np nd:Int}{l:List Pt}:U8 prog 50 [.one (.ow 0 0)] [tB np nd l] [.one (.ow 1 0)] [tB np nd l,tB np nd l]:=by
 refine Fz func50 rfl ?_;exact Ul [] [0,1] [] rfl
def Oi(l:List (Pt×Pt)):Uw:=l.map Qdu
theorem Qph{l m:Uw}(h:l=m):TV.one (LV.row l)=.one (.row m):=h ▸ rfl
theorem oz{P:Program}[Mo P]{n:Nat}{Q:Exit->Sg->Ux->Prop}{L L':Sg}{B B':Ux}(d off T sz:Nat){it:List It}(hs:Ro it=true)(h:dX (P:=P) d L B [.oc d off T sz]=some (L',B',[],[]))(k:AK P n Q it L' B'):AK P n Q it L B:=AK.sub (AQ h EqOk.nil) hs k
theorem Qn0{a b:Pt}{t:Tm}(ha:Sc a.c)(hb:Sc b.c)(ht:Va t):Un 167 [.oi 2,.agg (ta t),.one (.row [Ff a,Ff b])] [.agg (L9 (D5 (Fx t) a b)),.oi 0]:=by
 have h1:=Mk hb ha;have h2:=Ml hb ha;refine Fz func167 rfl ?_;refine Uh [.k Qcm,.f rfl] rfl ?_;refine Um (S:=Nat) 3 (λL1 i=>(22,.v (.oi i))::L1) (λi=>[.blk 189 (ta t),.blk 126 zCt,.blk 126 [.int .i64 2,.int .i64 (if 1<=i then a.id else 0),.int .i64 (if 2<=i then b.id else 0),.int .i64 0,.int .i64 0,.nils,.int .i64 0]]) (λi=>2-i) (λi=>i<=2) 0 (Qh _) rfl rfl λi hi=>?_
 rcases(show i=0\/i=1\/i=2 by omega)with rfl|rfl|rfl
 ·refine Uh [.t rfl,.x (i:=0) (xs:=Ff a) rfl,.i 0] rfl ?_ (by simp[U5]);exact rd 1 (by omega) (by omega) rfl
 ·refine Uh [.t rfl,.x (i:=1) (xs:=Ff b) rfl,.i 1] rfl ?_ (by simp[U5]);exact rd 2 (by omega) (by omega) rfl
 ·exact Uj [.f rfl,.f rfl,.t rfl,.x (i:=1) (xs:=Ff b) rfl,.x (i:=0) (xs:=Ff a) rfl,.k (UR hb.n ha.n hb.cb ha.cb),.x (i:=1) (xs:=Ff b) rfl,.x (i:=0) (xs:=Ff a) rfl,.k (US hb.n ha.n hb.cb ha.cb),.k uH,.k (SE (YS h1 h2).dp ht)] rfl
theorem Qgk{a:Tm}(ha:Va a){c:Cr}{r0 r1:Uw}:∀(k:Nat) (l:List Pt) (ms:List (Pt×Pt)),l.length≤k->l.length≤1000->ms.length+l.length≤1000000->(∀p∈l,Sc p.c)->U8 prog 166 [.one (.ow 0 0),.agg (ta a),.one (pts l)] [.blk 199 [.bool true,pl c.now.p,sg c.now.lo.num,mg c.now.lo.num,sg (c.now.lo.den:Int),mg (c.now.lo.den:Int),sg c.now.hi.num,mg c.now.hi.num,sg (c.now.hi.den:Int),mg (c.now.hi.den:Int),.row (Da c.l),.int .i64 c.ev,.row r0,.row r1,.orow 1 10 none],.row false 264 10 (Oi ms)] [.one (.row (U4 (No (Fx a) l).1))] [.blk 199 [.bool true,pl c.now.p,sg c.now.lo.num,mg c.now.lo.num,sg (c.now.lo.den:Int),mg (c.now.lo.den:Int),sg c.now.hi.num,mg c.now.hi.num,sg (c.now.hi.den:Int),mg (c.now.hi.den:Int),.row (Da c.l),.int .i64 c.ev,.row r0,.row r1,.orow 1 10 none],.row false 264 10 (Oi (ms++(No (Fx a) l).2))]
 := by
  intro k
  induction k with
  |zero=>?_
  |succ k ih=>?_
  all_goals
   intro l ms hk hn hms hl;have hcl:=G8 l;show U8 prog 166 [.one (.ow 0 0),.agg (ta a),.one (.row (U4 l))] _ _ _;by_cases hs:l.length<2
   ·rw[Cq _ hs,Zv];refine Fz func166 rfl ?_;exact Ul [] [0,1] [.t (by simp[hcl];omega)] rfl
   first
    |(exfalso;omega)
    |
     skip
     obtain⟨k1,k2,k3,k4⟩:=Qi9 hs hk;obtain⟨h,hh⟩:=nmE ((l.length+1) / 2);obtain⟨u,hu,hul,_⟩:=Np (Fx a) k (l.take ((l.length+1) / 2)) k1 k3;obtain⟨v,hv,hvl,_⟩:=Np (Fx a) k (l.drop ((l.length+1) / 2)) k2 k4;have g1:=Dt (Fx a) _ (l.take ((l.length+1) / 2)) (Qk _);have g2:=Dt (Fx a) _ (l.drop ((l.length+1) / 2)) (Qk _);have hlt:(l.take ((l.length+1) / 2)).length+(l.drop ((l.length+1) / 2)).length=l.length:=by rw[Qr,Q9];omega
     have c1:=ih (l.take ((l.length+1) / 2)) ms k1 (by omega) (by omega) λp hp=>hl p (Qo hp)
     have c2:=ih (l.drop ((l.length+1) / 2)) (ms++(No (Fx a) (l.take ((l.length+1) / 2))).2) k2 (by omega) (by rw[Qu];omega) λp hp=>hl p (Qz hp)
     have hpl:=O2 (Fx a) hs hu hv;rw[hpl];rw[hu]at c1;rw[hv]at c2;generalize (No (Fx a) (l.take ((l.length+1) / 2))).2=G1 at *;generalize (No (Fx a) (l.drop ((l.length+1) / 2))).2=G2 at *;have hsu:=hl u (Qo hul);have hsv:=hl v (Qz hvl);have cb:=Qno (t:=a) hsu hsv ha;have htd:((l.length:Int)+1).tdiv 2=(((l.length+1) / 2:Nat):Int):=rfl;have hg:∀m,Oi (ms++(G1++G2++[m]))=Oi ((ms++G1)++G2)++[Qdu m]:=λm=>by simp[Oi]
     have hml:(Oi ((ms++G1)++G2)).length=ms.length+G1.length+G2.length:=by simp[Oi];omega
     have hml2:(Oi (ms++(G1++G2))).length=ms.length+G1.length+G2.length:=by simp[Oi];omega
     have h5:=eq_true (p:=∀z,z∈U4 l->z.length=ti41.sz) (VY l);have e1:(U4 l).take ((l.length+1) / 2)=U4 (l.take ((l.length+1) / 2)):=by simp[U4,Jw]
     have e2:(U4 l).drop ((l.length+1) / 2)=U4 (l.drop ((l.length+1) / 2)):=by simp[U4,Vi]
     unfold MV;refine Fz func166 rfl ?_;by_cases hb:Ce (Fx a) u v=true
     ·rw[if_pos hb,hg];exact Ul [] [0,1] [.f (by simp[hcl];omega),.r 17 (eI (b:=(((l.length+1) / 2:Nat):Int)) (by rw[hcl];rfl)),.i ((l.length+1) / 2),.r 22 (Qph e1),.c [0,1] c1,.i ((l.length+1) / 2),.r 28 (Qph e2),.c [0,1] c2,.x (i:=0) (l:=U4 [u]) (xs:=Ff u) rfl,.x (i:=0) (l:=U4 [v]) (xs:=Ff v) rfl,.k cb,.f (by rw[hb];rfl),.x (i:=0) (l:=U4 [u]) (xs:=Ff u) rfl,.x (i:=0) (l:=U4 [v]) (xs:=Ff v) rfl,.s (sz:=10) (l:=[Qdu (u,v)]) (λc hc=>by rw[Ql.1 hc];rfl),.i 1] rfl (by simp[U5,G8,hml2,h5];omega)
     ·have hb:Ce (Fx a) u v=false:=by simpa using hb
      rw[if_neg (by simp[hb]),hg];exact Ul [] [0,1] [.f (by simp[hcl];omega),.r 17 (eI (b:=(((l.length+1) / 2:Nat):Int)) (by rw[hcl];rfl)),.i ((l.length+1) / 2),.r 22 (Qph e1),.c [0,1] c1,.i ((l.length+1) / 2),.r 28 (Qph e2),.c [0,1] c2,.x (i:=0) (l:=U4 [u]) (xs:=Ff u) rfl,.x (i:=0) (l:=U4 [v]) (xs:=Ff v) rfl,.k cb,.t (by rw[hb];rfl),.x (i:=0) (l:=U4 [v]) (xs:=Ff v) rfl,.x (i:=0) (l:=U4 [u]) (xs:=Ff u) rfl,.s (sz:=10) (l:=[Qdu (v,u)]) (λc hc=>by rw[Ql.1 hc];rfl),.i 1] rfl (by simp[U5,G8,hml2,h5];omega)
theorem OU{l:List Pt}{a:Tm}{c:Cr}{r1:Uw×Uw}(hl:∀p∈l,Sc p.c)(hn:l.length≤1000)(ha:Va a):U8 prog 123 [.one (.ow 0 0),.agg (ta a)] [.blk 199 (Tu c (U4 l) r1)] [.one (.row (Ft (SD l a)))] [.blk 199 (Tu c (U4 l) (mS l a))]:=by
 have cp:=Qgk (r0:=U4 l) (c:=c) (r1:=r1.1) ha l.length l [] (Qk _) hn (by show 0+l.length≤1000000;omega) hl;have hms:=Dt (Fx a) l.length l (Qk _);unfold SD mS;obtain⟨M,hM⟩:=nmE ((No (Fx a) l).2);have hmm:∀m∈M,Sc m.1.c/\Sc m.2.c:=λm hm=>by
  rw[hM]at hm;exact⟨hl _ (JF m hm).1,hl _ (JF m hm).2⟩
 rw[<-hM]at cp hms ⊢;rw[Yk]at cp;have hgl:(Oi M).length=M.length:=by simp[Oi]
 refine Fz func123 rfl ?_;refine Uh [] rfl ?_;refine oz 0 14 264 10 rfl rfl ?_;refine Uh [.k Iv,.c [0,2] cp,.o 5 126 7] rfl ?_;refine Um (S:=Nat) 4 (λL1 i=>(29,.v (.oi i))::(5,.v (.one (.orow 3 7 none)))::L1) (λi=>[.blk 199 [.bool true,pl c.now.p,sg c.now.lo.num,mg c.now.lo.num,sg (c.now.lo.den:Int),mg (c.now.lo.den:Int),sg c.now.hi.num,mg c.now.hi.num,sg (c.now.hi.den:Int),mg (c.now.hi.den:Int),.row (Da c.l),.int .i64 c.ev,.row (U4 l),.row (U4 (No (Fx a) l).1),.orow 2 10 none],.blk 189 (ta a),.row false 264 10 (Oi M),.row false 126 7 (Ft ((M.map λm=>D5 (Fx a) m.1 m.2).take i))]) (λi=>M.length-i) (λi=>i<=M.length) 0 (Qh _) rfl rfl λi hi=>?_
 by_cases hlt:i<M.length
 ·obtain⟨m,hm⟩:=gxE (l:=M) (i:=i) hlt;obtain⟨s1,s2⟩:=hmm m (Qc hm);have hg:(Oi M)[i]? = some (Qdu m):=Hm hm;have hq:∀y∈[L9 (D5 (Fx a) m.1 m.2)],y.length=7:=λy hy=>by rw[Ql.1 hy];rfl
  have ht:(M.map λm=>D5 (Fx a) m.1 m.2).take (i+1)=(M.map λm=>D5 (Fx a) m.1 m.2).take i++[D5 (Fx a) m.1 m.2]:=by
   rw[Z3,Zb,hm];rfl
  refine go tt [.T,.i i,.x hg,.i 0,.i 1,.k (Qn0 s1 s2 ha),.s (sz:=7) hq] rfl (by simp[U5,hgl,Bb];omega) ?_;exact rd (i+1) (by omega) hlt (by rw[ht];simp[Ft];rfl)
 ·obtain rfl:i=M.length:=by omega
  rw[Qn (by simp)];exact Ul [2,3] [0] [.F] rfl
def Qyn(l:List Pt)(a:Tm):Cr:=⟨a,(Ga (SD l a)).map fresh,0⟩
theorem Qoe{t:Rat}{l:List Pt}{K:Nat}{c c':Cr}{r1 r1':Uw×Uw}{n:Int}(ht:Qs 1640000 t)(hl:∀p∈l,Sc p.c)(hn:l.length≤1000)(hc:CrOk c)(hev:0≤c.ev/\c.ev+K≤1000000000000000000)(h:Fq c.now t≤0)(hg:HC (SD l) (mS l) t K c r1 0=some (c',r1',n)) :
 U8 prog 393 [.one (.ow 0 0),.agg (rl t)] [.blk 199 (Tu c (U4 l) r1)] [.oi n,.oi 0] [.blk 199 (Tu c' (U4 l) r1')]:=by
 have cg:=Qy5 (T:=199) (r0:=U4 l) ht (mJ hl hn) (λa c r1 ha _=>OU (c:=c) (r1:=r1) hl hn ha) hc hev h hg;refine Fz func393 rfl ?_;exact Ul [] [0] [.k (Nw (ht.mono (by decide))),.c [0] cg] rfl
theorem Qog{c:Cr}{r0 r2:Uw}{w:Pt}:U8 prog 91 [.one (.ow 0 0)] [.blk 199 (Tu c r0 ([Ff w],r2))] [.oi w.id,.one (.bool true)] [.blk 199 (Tu c r0 ([Ff w],r2))]:=by
 refine Fz func91 rfl ?_;exact Ul [] [0] [.f rfl,.x (i:=0) (xs:=Ff w) rfl] rfl
theorem Qgo{c:Cr}{r0 r2:Uw}:U8 prog 91 [.one (.ow 0 0)] [.blk 199 (Tu c r0 ([],r2))] [.oi 0,.one (.bool false)] [.blk 199 (Tu c r0 ([],r2))]:=by
 refine Fz func91 rfl ?_;exact Ul [] [0] [.t rfl] rfl
end Orr
namespace Orr
open Go Go.Proofs Tryz
set_option maxRecDepth 10000
theorem UO(x:Nat):(Bv (Gp x)).length=(Gp x).length:=T0 _
theorem Qdv(z:Int):∀c∈[[LV.int .i64 z]],c.length=1:=λc hc=>by rw[Ql.1 hc];rfl
theorem Qzc{x:Nat}(h:x<=1000000000):(Gp x).length<=3:=Qc0 (by omega)
theorem tdn(n:Nat):((n:Nat):Int).tdiv 10000=((n / 10000:Nat):Int):=rfl
theorem UX(n:Nat):((n:Nat):Int).tdiv 2=((n / 2:Nat):Int):=rfl
theorem UC{x mu c0:Nat}(hx:sz x<=100000000)(hmu:mu<=65536)(hc:c0<=1000000000):Un 158 [.one (nd x),.oi mu,.oi c0] [.one (nd (x*mu+c0))]:=by
 have hxl:=Qa (M5 x) hx;have hll:=UO x;show Un 158 [.one (.row (Bv (Gp x))),.oi mu,.oi c0] _;refine Fz func158 rfl ?_;refine Ui [.r 11 (eI (b:=(((Gp x).length+2:Nat):Int)) (by rw[hll];omega)),.i 0,.i ((Gp x).length+2)] rfl ?_;refine Um (S:=Nat×Nat×Us) 1 (λL1 s=>(8,.v (.oi (s.1:Int)))::(7,.v (.one (.orow 0 1 none)))::(2,.v (.oi (s.2.1:Int)))::L1.filter (λx=>x.1 != 12)) (λs=>[.row false 3 1 (Bv s.2.2)]) (λs=>((Gp x).length-s.1)*4+(Gp s.2.1).length) (λs=>Dg s.2.2/\s.2.2.length=s.1/\Tn s.2.2+s.2.1*10000^s.1=Tn ((Gp x).take s.1)*mu+c0/\(s.1<=(Gp x).length\/s.1+(Gp s.2.1).length<=(Gp x).length+3)/\s.2.1<=1000000000) (0,c0,[]) ⟨Dg.nil,rfl,by simp[Tn],.inl (Qh _),hc⟩ rfl rfl λs hs=>?_
 obtain⟨i,c,o⟩:=s;obtain⟨hp0,hp1,hp2,hp3,hp4⟩:=hs;dsimp only at hp0 hp1 hp2 hp3 hp4 ⊢;have hcl:=Qzc (x:=c) hp4;by_cases h1:i<(Gp x).length
 ·obtain⟨d,hd⟩:=gxE (l:=(Gp x)) (i:=i) h1;have hd9:=Ch x d (Qc hd);have hdm:d*mu<=9999*65536:=Q8 (by omega) hmu;have hc3:=Qzc (x:=(c+d*mu) / 10000) (by omega);have hol:(Bv o).length=i:=by rw[T0,hp1]
  refine go tt [.g 17 true Up,.t rfl,.T,.x (G0 hd),.r 33 (eI (b:=((d*mu:Nat):Int)) (by simp)),.r 34 (eI (b:=((c+d*mu:Nat):Int)) (by omega)),.r 37 (eI (b:=(((c+d*mu) % 10000:Nat):Int)) (by rfl)),.s (sz:=1) (Qdv _),.r 41 (eI (b:=(((c+d*mu) / 10000:Nat):Int)) (by rfl))] rfl (by simp[U5,hol,tdn,UX,-Int.natCast_add,-Int.natCast_mul];omega) ?_;exact rd (i+1,(c+d*mu) / 10000,o++[(c+d*mu) % 10000]) (by dsimp only;omega) ⟨hp0.snoc (Nat.mod_lt _ (by decide)),by dsimp only;rw[List.length_append];show o.length+1=_;omega,by
   dsimp only;rw[Pu,Tw hd,hp1,Nat.pow_succ];simp only[Tn,Nat.mul_zero,Nat.add_zero];have:=OC (d:=d) (m:=mu) rfl hp2;rw[this];grind,.inl (by dsimp only;omega),by dsimp only;omega⟩ (by rw[Ik];rfl)
 ·by_cases h2:0<c
  ·have hdc:=Ii (x:=c) (by omega);have hol:(Bv o).length=i:=by rw[T0,hp1]
   refine go tt [.g 17 false Uo,.T,.F,.r 37 (eI (b:=((c % 10000:Nat):Int)) (by rfl)),.s (sz:=1) (Qdv _),.r 41 (eI (b:=((c / 10000:Nat):Int)) (by rfl))] rfl (by simp[U5,hol,tdn,UX,-Int.natCast_add];omega) ?_;exact rd (i+1,c / 10000,o++[c % 10000]) (by dsimp only;omega) ⟨hp0.snoc (Nat.mod_lt _ (by decide)),by dsimp only;rw[List.length_append];show o.length+1=_;omega,by
    dsimp only;rw[Pu,hp1,Nat.pow_succ];simp only[Tn,Nat.mul_zero,Nat.add_zero];have:=OC (d:=0) (m:=mu) rfl hp2;simp only[Nat.zero_mul,Nat.mul_zero,Nat.add_zero]at this;rw[this,List.take_of_length_le (by omega),List.take_of_length_le (by omega)],.inr (by dsimp only;omega),by dsimp only;omega⟩ (by rw[Ik];rfl)
  ·have cc:=RF hp0;rw[show Tn o=x*mu+c0 from by
    have h:=hp2;rw[Qn (by omega),Rj,show c=0 by omega]at h;omega]at cc
   exact Uj [.g 17 false Uo,.F,.k cc] rfl
theorem Qem{l:Us}{j d:Nat}(h:l[j]? = some d):val (l.drop j)=d+4294967296*val (l.drop (j+1)):=by
 have hi:=(Qf.1 h).1;rw[Zq hi,(Qf.1 h).2];rfl
theorem MZ:∀(l:Us) (j:Nat),val (l.drop j)<=val l
 |l,0=>Qk _
 | [],j+1=>by simp
 |
  x::l,j+1=>by
  have:=MZ l j;rw[Wl];simp only[val];omega
theorem Qnt{l:Us}(hu:∀u∈l,u<4294967296)(hl:l.length≤1099511627776)(hx:sz (val l)≤100000000):Un 114 [lr l] [.one (nd (val l))]:=by
 have hll:=U9 l;show Un 114 [.one (.row (lm l))] _;refine Fz func114 rfl ?_;refine Ui [.z 3,.r 7 (eI (b:=((l.length:Nat):Int)-1) (by rw[hll]))] rfl ?_;refine Um (S:=Nat×Us) 0 (λL1 s=>(4,.v (.oi ((s.1:Int)-1)))::(3,.v (.one (.row (Bv s.2))))::L1) (λ_=>[]) (λs=>s.1) (λs=>s.1<=l.length/\s.2=Gp (val (l.drop s.1))) (l.length,[]) ⟨Nat.le_refl _,by dsimp only;rw[List.drop_eq_nil_of_le (Nat.le_refl _)];show []=Gp 0;rw[H5]⟩ rfl rfl λs hs=>?_
 obtain⟨j,o⟩:=s;obtain⟨hj,ho⟩:=hs;dsimp only at hj ho ⊢;subst ho;cases j with
 |zero=>exact Uj [.f (by simp)] rfl (by rw[X4];rfl) trivial
 |
  succ j =>
  obtain⟨d,hd⟩:=gxE (l:=l) (i:=j) (by omega);have hd9:=hu d (Qc hd);have hdd:=Qem hd;have hle:=MZ l j;have hs2:sz (val (l.drop (j+1))*65536+d / 65536)<=100000000:=Qa (Rl (by omega)) hx;have hs1:sz (val (l.drop (j+1)))<=100000000:=Qa (Rl (by omega)) hx;have c1:=UC (x:=val (l.drop (j+1))) (mu:=65536) (c0:=d / 65536) hs1 (by omega) (by omega);have c2:=UC (x:=val (l.drop (j+1))*65536+d / 65536) (mu:=65536) (c0:=d % 65536) hs2 (by omega) (by omega);have ej:((j+1:Nat):Int)-1=(j:Int):=by omega
  have e2:(val (l.drop (j+1))*65536+d / 65536)*65536+d % 65536=val (l.drop j):=by rw[hdd];omega
  rw[e2]at c2;rw[ej];refine go tt [.T,.x (G6 hd),.r 17 (Eo (b:=((d / 65536:Nat):Int)) (by rfl)),.k c1,.x (G6 hd),.r 25 (Eo (b:=((d % 65536:Nat):Int)) (by rfl)),.k c2] rfl (by simp[U5,IntKind.bits];omega) ?_;exact rd (j,Gp (val (l.drop j))) (by dsimp only;omega) ⟨by dsimp only;omega,rfl⟩ rfl
theorem mB{x y:Nat}(hx:sz x<=200000000)(hy:sz y<=200000000):Un 116 [.one (nd x),.one (nd y)] [.oi (ZN x y)]:=by
 have hxl:=Qa (M5 x) hx;have hyl:=Qa (M5 y) hy;have lx:=UO x;have ly:=UO y;show Un 116 [.one (.row (Bv (Gp x))),.one (.row (Bv (Gp y)))] _;refine Fz func116 rfl ?_;by_cases hl:(Gp x).length=(Gp y).length
 ·refine Ui [.f (by simp;omega),.r 18 (eI (b:=((Gp x).length:Int)-1) (by rw[lx]))] rfl ?_;refine Um (S:=Nat) 0 (λL1 j=>(5,.v (.oi ((j:Int)-1)))::L1) (λ_=>[]) (λj=>j) (λj=>j<=(Gp x).length/\(Gp x).drop j=(Gp y).drop j) (Gp x).length ⟨Qk _,by rw[Yw (Qk _),Yw (by omega)]⟩ rfl rfl λj hs=>?_
  obtain⟨hj,hp⟩:=hs;cases j with
  |
   zero =>
   have hxy:x=y:=by rw[X4,X4]at hp;rw[<-Rj x,<-Rj y,hp]
   exact Uj [.f (by simp)] rfl (by rw[aE hxy]) trivial
  |
   succ j =>
   obtain⟨d,hd⟩:=gxE (l:=(Gp x)) (i:=j) (by omega);obtain⟨e,he⟩:=gxE (l:=(Gp y)) (i:=j) (by omega);have ej:((j+1:Nat):Int)-1=(j:Int):=by omega
   rw[ej];by_cases h2:d=e
   ·refine Ui [.T,.x (G0 hd),.x (G0 he),.f (by simp[h2])] rfl ?_;exact rd j (by omega) ⟨by omega,by rw[Zq (by omega:j<(Gp x).length),Zq (by omega:j<(Gp y).length),hp,(Qf.1 hd).2,(Qf.1 he).2,h2]⟩ rfl
   ·by_cases h3:d<e
    ·have hxy:=DW (Ch x) hd he hp h3;rw[Rj,Rj]at hxy;exact Uj [.T,.x (G0 hd),.x (G0 he),.t (by simp;omega),.x (G0 hd),.x (G0 he),.T] rfl (by rw[NQ hxy]) trivial
    ·have hxy:=DW (Ch y) he hd hp.symm (by omega);rw[Rj,Rj]at hxy;exact Uj [.T,.x (G0 hd),.x (G0 he),.t (by simp;omega),.x (G0 hd),.x (G0 he),.F] rfl (by rw[MO hxy]) trivial
 ·by_cases hlt:(Gp x).length<(Gp y).length
  ·exact Uj [.t (by simp;omega),.T] rfl (by rw[NQ (fZ hlt)]) trivial
  ·exact Uj [.t (by simp;omega),.F] rfl (by rw[MO (fZ (by omega))]) trivial
theorem YR{o c s P V:Nat}(h:o+c*P=V):o+P*((c+s) % 10000)+(c+s) / 10000*(P*10000)=V+P*s:=by
 have e:=Xg (c+s) 10000;generalize (c+s) / 10000=q at *;generalize (c+s) % 10000=r at *;have e2:P*(c+s)=P*(10000*q+r):=by rw[e]
 grind
theorem Oc{l:Us}{i:Nat}(h:l.length<=i):Tn (l.take (i+1))=Tn (l.take i):=by rw[Qn (by omega),Qn h]
theorem iU{l:Us}{p v u:Nat}(h:l[p]? = some v):Tn (l.set p u)+10000^p*v=Tn l+10000^p*u:=by
 have hp:=(Qf.1 h).1;rw[NV (l.set p u) p (by rw[Xf];omega),NV l p (by omega),XW h,RN hp,List.take_set_of_le (Qk _)];simp only[Tn];generalize 10000^p=P;grind
theorem Il{l:Us}{p u:Nat}(h:p<l.length):Tn ((l.set p u).take (p+1))=Tn (l.take p)+10000^p*u:=by
 rw[Tw (l:=l.set p u) (i:=p) (x:=u) (by simp[h]),List.take_set_of_le (Qk _)]
structure AddI(x y:Nat)(s:Nat×Nat×List Nat):Prop where
 d:Dg s.2.2
 l:s.2.2.length=s.1
 v:Tn s.2.2+s.2.1*10000^s.1=Tn ((Gp x).take s.1)+Tn ((Gp y).take s.1)
 c:s.2.1<=1
 b:s.1<=max (Gp x).length (Gp y).length\/s.1=max (Gp x).length (Gp y).length+1/\10000^(max (Gp x).length (Gp y).length)<=x+y/\s.2.1=0
theorem Que{x y:Nat}(hx:sz x<=200000000)(hy:sz y<=200000000):Un 115 [.one (nd x),.one (nd y)] [.one (nd (x+y))]:=by
 have hxl:=Qa (M5 x) hx;have hyl:=Qa (M5 y) hy;have lx:=UO x;have ly:=UO y;show Un 115 [.one (.row (Bv (Gp x))),.one (.row (Bv (Gp y)))] _;refine Fz func115 rfl ?_;refine Uh [.o 5 3 1] rfl ?_;refine Um (S:=Nat×Nat×Us) 1 (λL1 s=>(7,.v (.oi (s.1:Int)))::(6,.v (.oi (s.2.1:Int)))::(5,.v (.one (.orow 0 1 none)))::L1) (λs=>[.row false 3 1 (Bv s.2.2)]) (λs=>(max (Gp x).length (Gp y).length-s.1)*2+s.2.1) (AddI x y) (0,0,[]) ⟨Dg.nil,rfl,by simp[Tn],by decide,.inl (Qh _)⟩ rfl rfl λs hs=>?_
 obtain⟨i,c,o⟩:=s;obtain⟨hp0,hp1,hp2,hp3,hp4⟩:=hs;dsimp only at hp0 hp1 hp2 hp3 hp4 ⊢;have hol:(Bv o).length=i:=by rw[T0,hp1]
 by_cases h1:i<(Gp x).length
 ·obtain⟨d,hd⟩:=gxE (l:=(Gp x)) (i:=i) h1;have hd9:=Ch x d (Qc hd);by_cases h2:i<(Gp y).length
  ·obtain⟨e,he⟩:=gxE (l:=(Gp y)) (i:=i) h2;have he9:=Ch y e (Qc he);refine go tt [.g 12 true Up,.g 18 true rfl,.t rfl,.T,.x (G0 hd),.r 33 (eI (b:=((c+d:Nat):Int)) (by omega)),.T,.x (G0 he),.r 43 (eI (b:=((c+(d+e):Nat):Int)) (by omega)),.r 46 (eI (b:=(((c+(d+e)) % 10000:Nat):Int)) (by rfl)),.s (sz:=1) (Qdv _),.r 50 (eI (b:=(((c+(d+e)) / 10000:Nat):Int)) (by rfl))] rfl (by simp[U5,hol,tdn,UX,-Int.natCast_add];omega) ?_;exact rd (i+1,(c+(d+e)) / 10000,o++[(c+(d+e)) % 10000]) (by dsimp only;omega) ⟨hp0.snoc (Nat.mod_lt _ (by decide)),by dsimp only;rw[List.length_append];show o.length+1=_;omega,by
    dsimp only;rw[Pu,hp1,Nat.pow_succ];simp only[Tn,Nat.mul_zero,Nat.add_zero];have:=YR (s:=d+e) hp2;rw[this,Tw hd,Tw he];grind,by dsimp only;omega,.inl (by dsimp only;omega)⟩ (by rw[Ik];rfl)
  ·refine go tt [.g 12 true Up,.g 18 true rfl,.t rfl,.T,.x (G0 hd),.r 33 (eI (b:=((c+d:Nat):Int)) (by omega)),.F,.r 46 (eI (b:=(((c+d) % 10000:Nat):Int)) (by rfl)),.s (sz:=1) (Qdv _),.r 50 (eI (b:=(((c+d) / 10000:Nat):Int)) (by rfl))] rfl (by simp[U5,hol,tdn,UX,-Int.natCast_add];omega) ?_;exact rd (i+1,(c+d) / 10000,o++[(c+d) % 10000]) (by dsimp only;omega) ⟨hp0.snoc (Nat.mod_lt _ (by decide)),by dsimp only;rw[List.length_append];show o.length+1=_;omega,by
    dsimp only;rw[Pu,hp1,Nat.pow_succ];simp only[Tn,Nat.mul_zero,Nat.add_zero];have:=YR (s:=d) hp2;rw[this,Tw hd,Oc (l:=Gp y) (by omega)];grind,by dsimp only;omega,.inl (by dsimp only;omega)⟩ (by rw[Ik];rfl)
 ·by_cases h2:i<(Gp y).length
  ·obtain⟨e,he⟩:=gxE (l:=(Gp y)) (i:=i) h2;have he9:=Ch y e (Qc he);refine go tt [.g 12 false Uo,.g 18 true Up,.t rfl,.F,.T,.x (G0 he),.r 43 (eI (b:=((c+e:Nat):Int)) (by omega)),.r 46 (eI (b:=(((c+e) % 10000:Nat):Int)) (by rfl)),.s (sz:=1) (Qdv _),.r 50 (eI (b:=(((c+e) / 10000:Nat):Int)) (by rfl))] rfl (by simp[U5,hol,tdn,UX,-Int.natCast_add];omega) ?_;exact rd (i+1,(c+e) / 10000,o++[(c+e) % 10000]) (by dsimp only;omega) ⟨hp0.snoc (Nat.mod_lt _ (by decide)),by dsimp only;rw[List.length_append];show o.length+1=_;omega,by
    dsimp only;rw[Pu,hp1,Nat.pow_succ];simp only[Tn,Nat.mul_zero,Nat.add_zero];have:=YR (s:=e) hp2;rw[this,Tw he,Oc (l:=Gp x) (by omega)];grind,by dsimp only;omega,.inl (by dsimp only;omega)⟩ (by rw[Ik];rfl)
  ·by_cases h3:0<c
   ·refine go tt [.g 12 false Uo,.g 18 false Uo,.T,.F,.F,.r 46 (eI (b:=((c % 10000:Nat):Int)) (by rfl)),.s (sz:=1) (Qdv _),.r 50 (eI (b:=((c / 10000:Nat):Int)) (by rfl))] rfl (by simp[U5,hol,tdn,UX,-Int.natCast_add];omega) ?_;exact rd (i+1,c / 10000,o++[c % 10000]) (by dsimp only;omega) ⟨hp0.snoc (Nat.mod_lt _ (by decide)),by dsimp only;rw[List.length_append];show o.length+1=_;omega,by
     dsimp only;rw[Pu,hp1,Nat.pow_succ];simp only[Tn,Nat.mul_zero,Nat.add_zero];have:=YR (s:=0) hp2;rw[Nat.add_zero,Nat.mul_zero,Nat.add_zero]at this;rw[this,Oc (l:=Gp y) (by omega),Oc (l:=Gp x) (by omega)],by dsimp only;omega,.inr ⟨by dsimp only;omega,by
      have h:=hp2;rw[List.take_of_length_le (by omega),List.take_of_length_le (by omega),Rj,Rj,show c=1 by omega,Nat.one_mul,show i=(max (Gp x).length (Gp y).length) by omega]at h;omega,by dsimp only;omega⟩⟩ (by rw[Ik];rfl)
   ·have hv:Tn o=x+y:=by
     have h:=hp2;rw[Qn (by omega),Qn (by omega),Rj,Rj,show c=0 by omega]at h;omega
    have hfin:o=Gp (x+y):=by
     have h:=Qhx (o:=o) hp0;rw[hv]at h;refine h ?_;have m1:=XY (x:=x) (y:=x+y) (by omega);have m2:=XY (x:=y) (y:=x+y) (by omega);rcases hp4 with hb|⟨_,hb,_⟩
     ·omega
     ·have:=Qcz hb;omega
    exact Uj [.g 12 false Uo,.g 18 false Uo,.F] rfl (by rw[hfin];rfl) trivial
theorem YP{o b a c P u d e c':Nat}(h:o+b=a+c*P)(hs:u+e+c=d+10000*c'):(o+P*u)+(b+P*e)=(a+P*d)+c'*(P*10000):=by
 have e2:P*(u+e+c)=P*(d+10000*c'):=by rw[hs]
 grind
theorem QP(o:Us)(i u:Nat):Bv (o.set i u)=(Bv o).set i [.int .i64 (u:Int)]:=by simp[Bv,Vw]
theorem nQ{x y:Nat}(hx:sz x<=200000000)(hy:sz y<=200000000)(hyx:y<=x):Un 117 [.one (nd x),.one (nd y)] [.one (nd (x-y))]:=by
 have hxl:=Qa (M5 x) hx;have hyl:=Qa (M5 y) hy;have lx:=UO x;have ly:=UO y;have hmy:=XY hyx;show Un 117 [.one (.row (Bv (Gp x))),.one (.row (Bv (Gp y)))] _;refine Fz func117 rfl ?_;refine Ui [.i (Bv (Gp x)).length,.i (Bv (Gp x)).length] rfl ?_;rw[lx,show List.replicate (Gp x).length [LV.int .i64 0]=Bv (List.replicate (Gp x).length 0) from by simp[Bv]];refine Um (S:=Nat×Nat×Us) 1 (λL1 s=>(14,.v (.oi (s.1:Int)))::(6,.v (.oi (s.2.1:Int)))::L1) (λs=>[.row false 3 1 (Bv s.2.2)]) (λs=>(Gp x).length-s.1) (λs=>s.1<=(Gp x).length/\s.2.2.length=(Gp x).length/\Dg s.2.2/\Tn (s.2.2.take s.1)+Tn ((Gp y).take s.1)=Tn ((Gp x).take s.1)+s.2.1*10000^s.1/\s.2.1<=1) (0,0,List.replicate (Gp x).length 0) ⟨Qh _,Jg ..,Dg.zeros _,by simp[Tn],Qh _⟩ rfl rfl λs hs=>?_
 obtain⟨i,c,o⟩:=s;obtain⟨hp0,hp1,hp2,hp3,hp4⟩:=hs;dsimp only at hp0 hp1 hp2 hp3 hp4 ⊢;have hol:(Bv o).length=(Gp x).length:=by rw[T0,hp1]
 by_cases h1:i<(Gp x).length
 ·obtain⟨d,hd⟩:=gxE (l:=(Gp x)) (i:=i) h1;have hd9:=Ch x d (Qc hd);by_cases h2:i<(Gp y).length
  ·obtain⟨e,he⟩:=gxE (l:=(Gp y)) (i:=i) h2;have he9:=Ch y e (Qc he);by_cases h3:d<c+e
   ·refine go tt [.T,.x (G0 hd),.T,.x (G0 he),.T,.r 36 (eI (b:=((d+10000-c-e:Nat):Int)) (by omega)),.i i] rfl (by simp[U5,hol,tdn,UX,-Int.natCast_add];omega) ?_;exact rd (i+1,1,o.set i (d+10000-c-e)) (by dsimp only;omega) ⟨by dsimp only;omega,by dsimp only;rw[List.length_set];exact hp1,hp2.set (by omega),by
     dsimp only;rw[Il (by omega),Tw hd,Tw he,Nat.pow_succ];exact YP hp3 (u:=d+10000-c-e) (d:=d) (e:=e) (c':=1) (by omega),by dsimp only;omega⟩ (by rw[QP];rfl)
   ·refine go tt [.T,.x (G0 hd),.T,.x (G0 he),.r 32 (eI (b:=((d-c-e:Nat):Int)) (by omega)),.F,.i i] rfl (by simp[U5,hol,tdn,UX,-Int.natCast_add];omega) ?_;exact rd (i+1,0,o.set i (d-c-e)) (by dsimp only;omega) ⟨by dsimp only;omega,by dsimp only;rw[List.length_set];exact hp1,hp2.set (by omega),by
     dsimp only;rw[Il (by omega),Tw hd,Tw he,Nat.pow_succ];exact YP hp3 (u:=d-c-e) (d:=d) (e:=e) (c':=0) (by omega),by dsimp only;omega⟩ (by rw[QP];rfl)
  ·have hy0:Tn ((Gp y).take (i+1))=Tn ((Gp y).take i)+10000^i*0:=by rw[Oc (by omega),Yz,Xp]
   by_cases h3:d<c
   ·refine go tt [.T,.x (G0 hd),.F,.T,.r 36 (eI (b:=((d+10000-c:Nat):Int)) (by omega)),.i i] rfl (by simp[U5,hol,tdn,UX,-Int.natCast_add];omega) ?_;exact rd (i+1,1,o.set i (d+10000-c)) (by dsimp only;omega) ⟨by dsimp only;omega,by dsimp only;rw[List.length_set];exact hp1,hp2.set (by omega),by
     dsimp only;rw[Il (by omega),Tw hd,hy0,Nat.pow_succ];exact YP hp3 (u:=d+10000-c) (d:=d) (e:=0) (c':=1) (by omega),by dsimp only;omega⟩ (by rw[QP];rfl)
   ·refine go tt [.T,.x (G0 hd),.r 22 (eI (b:=((d-c:Nat):Int)) (by omega)),.F,.F,.i i] rfl (by simp[U5,hol,tdn,UX,-Int.natCast_add];omega) ?_;exact rd (i+1,0,o.set i (d-c)) (by dsimp only;omega) ⟨by dsimp only;omega,by dsimp only;rw[List.length_set];exact hp1,hp2.set (by omega),by
     dsimp only;rw[Il (by omega),Tw hd,hy0,Nat.pow_succ];exact YP hp3 (u:=d-c) (d:=d) (e:=0) (c':=0) (by omega),by dsimp only;omega⟩ (by rw[QP];rfl)
 ·have hi:i=(Gp x).length:=by omega
  have hv:Tn o=x-y:=by
   have h:=hp3;rw[Qn (by omega),Qn (by omega),Qn (by omega),Rj,Rj]at h;have hlt:=DN hp2;rw[hp1,<-hi]at hlt;have hc0:c=0:=by
    rcases Q4 c with h0|h0
    ·exact h0
    ·exfalso;have:c=1:=by omega
     rw[this,Ku]at h;omega
   rw[hc0]at h;omega
  have cc:=RF hp2;rw[hv]at cc;exact Uj [.F,.k cc] rfl
theorem DG{o o2 c P u v s V:Nat}(h:o+c*P=V)(hs:o2+P*v=o+P*u){q:Nat}(hu:u+10000*q=v+c+s):o2+q*(P*10000)=V+P*s:=by
 have e2:P*(u+10000*q)=P*(v+c+s):=by rw[hu]
 grind
theorem Qzd(S:Nat):S % 10000+10000*(S / 10000)=S:=Wi S 10000
structure MulI(x y i d:Nat)(s:Nat×Nat×List Nat):Prop where
 l:s.2.2.length=(Gp x).length+(Gp y).length
 dg:Dg s.2.2
 v:Tn s.2.2+s.2.1*10000^(i+s.1)=Tn ((Gp x).take i)*y+10000^i*d*Tn ((Gp y).take s.1)
 c:s.2.1<10000
 b:s.1<=(Gp y).length/\(∀j v,i+(Gp y).length<=j->s.2.2[j]? = some v->v=0)\/s.1=(Gp y).length+1/\s.2.1=0/\∀j v,i+(Gp y).length+1<=j->s.2.2[j]? = some v->v=0
theorem Qup{x y:Nat}(hx:sz x<=200000000)(hy:sz y<=200000000):Un 113 [.one (nd x),.one (nd y)] [.one (nd (x*y))]:=by
 have hxl:=Qa (M5 x) hx;have hyl:=Qa (M5 y) hy;have lx:=UO x;have ly:=UO y;show Un 113 [.one (.row (Bv (Gp x))),.one (.row (Bv (Gp y)))] _;refine Fz func113 rfl ?_;refine Ui [.r 14 (eI (b:=(((Gp x).length+(Gp y).length:Nat):Int)) (by rw[lx,ly];omega)),.i ((Gp x).length+(Gp y).length),.i ((Gp x).length+(Gp y).length)] rfl ?_;rw[show List.replicate ((Gp x).length+(Gp y).length) [LV.int .i64 0]=Bv (List.replicate ((Gp x).length+(Gp y).length) 0) from by simp[Bv]];refine Um (S:=Nat×Us) 1 (λL1 s=>(18,.v (.oi (s.1:Int)))::L1) (λs=>[.row false 3 1 (Bv s.2)]) (λs=>(Gp x).length-s.1) (λs=>s.1<=(Gp x).length/\s.2.length=(Gp x).length+(Gp y).length/\Dg s.2/\Tn s.2=Tn ((Gp x).take s.1)*y/\∀j v,s.1+(Gp y).length<=j->s.2[j]? = some v->v=0) (0,List.replicate ((Gp x).length+(Gp y).length) 0) ⟨Qh _,Jg ..,Dg.zeros _,by rw[DC (λx hx=>Zw hx)];simp[Tn],λj v _ hv=>Zw (Qc hv)⟩ rfl rfl λs hs=>?_
 obtain⟨i,o⟩:=s;obtain⟨hp0,hp1,hp2,hp3,hp4⟩:=hs;dsimp only at hp0 hp1 hp2 hp3 hp4 ⊢;by_cases h1:i<(Gp x).length
 ·obtain⟨d,hd⟩:=gxE (l:=(Gp x)) (i:=i) h1;have hd9:=Ch x d (Qc hd);refine Uh [.T] rfl ?_;refine Um (S:=Nat×Nat×Us) 1 (λL1 s=>(8,.v (.oi (s.1:Int)))::(7,.v (.oi (s.2.1:Int)))::L1) (λs=>[.row false 3 1 (Bv s.2.2)]) (λs=>((Gp y).length-s.1)*2+min s.2.1 1) (MulI x y i d) (0,0,o) ⟨hp1,hp2,by dsimp only;rw[hp3];simp[Tn],by show 0<10000;decide,.inl ⟨Nat.zero_le _,hp4⟩⟩ rfl rfl λs hs=>?_
  obtain⟨k,c,o2⟩:=s;obtain⟨hq0,hq1,hq2,hq3,hq4⟩:=hs;dsimp only at hq0 hq1 hq2 hq3 hq4 ⊢;have hol:(Bv o2).length=(Gp x).length+(Gp y).length:=by rw[T0,hq0]
  by_cases h2:k<(Gp y).length
  ·obtain⟨e,he⟩:=gxE (l:=(Gp y)) (i:=k) h2;have he9:=Ch y e (Qc he);have hde:d*e<=9999*9999:=Q8 (by omega) (by omega);obtain⟨v,hoi⟩:=gxE (l:=o2) (i:=i+k) (by omega);have hv9:=hq1 v (Qc hoi);refine go tt [.g 25 true Up,.t rfl,.r 34 (eI (b:=((i+k:Nat):Int)) (by omega)),.i (i+k),.x (G0 hoi),.r 38 (eI (b:=((v+c:Nat):Int)) (by omega)),.T,.x (G0 hd),.x (G0 he),.r 52 (eI (b:=((d*e:Nat):Int)) (by simp)),.r 53 (eI (b:=((v+c+d*e:Nat):Int)) (by omega)),.r 57 (eI (b:=((i+k:Nat):Int)) (by omega)),.r 59 (eI (b:=(((v+c+d*e) % 10000:Nat):Int)) (by rfl)),.i (i+k),.r 62 (eI (b:=(((v+c+d*e) / 10000:Nat):Int)) (by rfl))] rfl (by simp[U5,hol,tdn,UX,-Int.natCast_add,-Int.natCast_mul];omega) ?_;exact rd (k+1,(v+c+d*e) / 10000,o2.set (i+k) ((v+c+d*e) % 10000)) (by dsimp only;omega) ⟨by dsimp only;rw[List.length_set];exact hq0,hq1.set (Nat.mod_lt _ (by decide)),by
    dsimp only;rw[<-Nat.add_assoc i k 1,Nat.pow_succ];have:=DG hq2 (iU hoi (u:=((v+c)+(d*e)) % 10000)) (s:=d*e) (q:=((v+c)+(d*e)) / 10000) (by rw[Qzd]);rw[this,Tw he,Nat.pow_add];grind,by dsimp only;omega,.inl ⟨by dsimp only;omega,λj w hj hw=>(by
     dsimp only at hw;rcases hq4 with⟨_,h⟩|⟨_,_,h⟩ <;> (rw[Yh (by omega)]at hw;exact h j w (by omega) hw))⟩⟩ (by rw[QP];rfl)
  ·by_cases h3:0<c
   ·have hk:k=(Gp y).length:=by omega
    have hz:∀j v,i+(Gp y).length<=j->o2[j]? = some v->v=0:=by
     rcases hq4 with⟨_,h⟩|⟨_,h,_⟩
     ·exact h
     ·omega
    obtain⟨v,hoi⟩:=gxE (l:=o2) (i:=i+k) (by omega);have hv0:v=0:=hz (i+k) v (by omega) hoi;have hv9:=hq1 v (Qc hoi);refine go tt [.g 25 false Uo,.T,.r 34 (eI (b:=((i+k:Nat):Int)) (by omega)),.i (i+k),.x (G0 hoi),.r 38 (eI (b:=((v+c:Nat):Int)) (by omega)),.F,.r 57 (eI (b:=((i+k:Nat):Int)) (by omega)),.r 59 (eI (b:=(((v+c) % 10000:Nat):Int)) (by rfl)),.i (i+k),.r 62 (eI (b:=(((v+c) / 10000:Nat):Int)) (by rfl))] rfl (by simp[U5,hol,tdn,UX,-Int.natCast_add];omega) ?_;exact rd (k+1,(v+c) / 10000,o2.set (i+k) ((v+c) % 10000)) (by dsimp only;omega) ⟨by dsimp only;rw[List.length_set];exact hq0,hq1.set (Nat.mod_lt _ (by decide)),by
     dsimp only;rw[<-Nat.add_assoc i k 1,Nat.pow_succ];have:=DG hq2 (iU hoi (u:=(v+c) % 10000)) (s:=0) (q:=(v+c) / 10000) (by rw[Qzd];rfl);rw[this,Nat.mul_zero,Nat.add_zero,Oc (by omega)],by dsimp only;omega,.inr ⟨by dsimp only;omega,by dsimp only;omega,λj w hj hw=>(by
      dsimp only at hw;rw[Yh (by omega)]at hw;exact hz j w (by omega) hw)⟩⟩ (by rw[QP];rfl)
   ·refine Ui [.g 25 false Uo,.F] rfl ?_;exact rd (i+1,o2) (by dsimp only;omega) ⟨by dsimp only;omega,hq0,hq1,by
     dsimp only;rw[Tw hd,Xn];have h:=hq2;rw[show c=0 by omega,Qn (l:=Gp y) (i:=k) (by omega),Rj]at h;rw[Ym,Xp]at h;exact h,by
     dsimp only;rcases hq4 with⟨_,h⟩|⟨_,_,h⟩
     ·exact λj w hj hw=>h j w (by omega) hw
     ·exact λj w hj hw=>h j w (by omega) hw⟩ rfl
 ·have hv:Tn o=x*y:=by rw[hp3,Qn (by omega),Rj]
  have cc:=RF hp2;rw[hv]at cc;exact Uj [.F,.k cc] rfl
theorem aI{x y:Nat}:ZN x y<=0↔x<=y:=by
 unfold ZN;constructor
 ·intro h;split at h
  ·omega
  ·split at h <;> omega
 ·intro h;split
  ·omega
  ·split <;> omega
theorem Qc2{R y lo:Nat}(h1:y*lo<=R)(h2:R<y*(lo+1)):R / y=lo/\R % y=R-y*lo:=by
 have hy:0<y:=by
  rcases Q4 y with h|h
  ·subst h;simp at h2
  ·exact h
 have e:R / y=lo:=Nat.div_eq_of_lt_le (by rw[Zr];exact h1) (by rw[Zr];exact h2);refine⟨e,?_⟩;have:=Xg R y;rw[e]at this;omega
theorem Ql7{R y:Nat}(h:R<y*10000):sz R<=sz y+14:=by
 refine Nt.2 (Z9 h ?_);have:=FA y;rw[Xh];have e:(2:Nat)^14=16384:=by decide
 rw[e];exact Q8 (by omega) (by decide)
theorem Qeg(y:Nat):sz (y*10000)<=sz y+14:=by
 refine Nt.2 ?_;have:=FA y;rw[Xh];have e:(2:Nat)^14=16384:=by decide
 rw[e];omega
theorem mE{x y:Nat}(hx:sz x<=90000000)(hy:sz y<=90000000)(hy0:0<y):Un 153 [.one (nd x),.one (nd y)] [.one (nd (x / y)),.one (nd (x % y))]:=by
 have hxl:=Qa (M5 x) hx;have hyl:=Qa (M5 y) hy;have lx:=UO x;show Un 153 [.one (.row (Bv (Gp x))),.one (nd y)] _;refine Fz func153 rfl ?_;refine Ui [.i (Bv (Gp x)).length,.i (Bv (Gp x)).length,.z 7,.r 17 (eI (b:=((Gp x).length:Int)-1) (by rw[lx]))] rfl ?_;rw[lx,show List.replicate (Gp x).length [LV.int .i64 0]=Bv (List.replicate (Gp x).length 0) from by simp[Bv]];refine Um (S:=Nat×Us×Us) 1 (λL1 s=>(8,.v (.oi ((s.1:Int)-1)))::(7,.v (.one (.row (Bv s.2.1))))::L1) (λs=>[.row false 3 1 (Bv s.2.2)]) (λs=>s.1) (λs=>s.1<=(Gp x).length/\s.2.2.length=(Gp x).length/\Dg s.2.2/\Tn (s.2.2.drop s.1)=Tn ((Gp x).drop s.1) / y/\s.2.1=Gp (Tn ((Gp x).drop s.1) % y)) ((Gp x).length,[],List.replicate (Gp x).length 0) ⟨Nat.le_refl _,List.length_replicate ..,Dg.zeros _,by dsimp only;rw[List.drop_eq_nil_of_le (by simp),List.drop_eq_nil_of_le (Nat.le_refl _)];simp[Tn],by dsimp only;rw[List.drop_eq_nil_of_le (Nat.le_refl _)];simp[Tn,H5]⟩ rfl rfl λs hs=>?_
 obtain⟨j,R,o⟩:=s;obtain⟨hp0,hp1,hp2,hp3,hp4⟩:=hs;dsimp only at hp0 hp1 hp2 hp3 hp4 ⊢;cases j with
 |
  zero =>
  have cc:=RF hp2;rw[X4,X4,Rj]at hp3;rw[X4,Rj]at hp4;rw[hp3]at cc;exact Uj [.f (by simp),.k cc] rfl (by rw[hp4];rfl) trivial
 |
  succ j =>
  obtain⟨d,hd⟩:=gxE (l:=(Gp x)) (i:=j) (by omega);have hd9:=Ch x d (Qc hd);have hdd:=XW hd;obtain⟨hq1,hq2,hq3⟩:=fU (V:=Tn ((Gp x).drop (j+1))) (kd:=y) (d:=d) hy0;rw[<-hdd]at hq1 hq2;have hq3:=hq3 hd9;obtain⟨rr,hrr0⟩:=nmE (Tn ((Gp x).drop (j+1)) % y);have hrr:rr<y:=by rw[hrr0];exact Z5 _ hy0
  rw[<-hrr0]at hp4 hq1 hq2 hq3;subst hp4;have hrl:(Gp rr).length<=(Gp y).length:=XY (by omega);have hR:rr*10000+d<y*10000:=by omega
  have hRs:=Ql7 hR;have hdv:Dg (d::Gp rr):=λz hz=>by
   rcases Qm.1 hz with rfl|hz
   ·exact hd9
   ·exact Ch rr z hz
  have cc:=RF hdv;rw[show Tn (d::Gp rr)=rr*10000+d from by simp only[Tn];rw[Rj];omega]at cc;have hol:(Bv o).length=(Gp x).length:=by rw[T0,hp1]
  have hrrl:=T0 (Gp rr);have ej:((j+1:Nat):Int)-1=(j:Int):=by omega
  rw[ej];refine go tt [.T,.x (G0 hd),.lo,.s (sz:=1) (Qvm (Gp rr)),.k cc] rfl (by simp[U5,UO];omega) ?_;refine Um (S:=Nat×Nat) 2 (λL1 s=>(9,.v (.oi (s.1:Int)))::(10,.v (.oi (s.2:Int)))::L1) (λ_=>[.row false 3 1 (Bv o),.gone]) (λs=>s.2-s.1) (λs=>s.1<=s.2/\s.2<=9999/\y*s.1<=rr*10000+d/\rr*10000+d<y*(s.2+1)) (0,9999) ⟨by decide,by decide,by dsimp only;omega,by dsimp only;omega⟩ rfl rfl λs hs=>?_
  obtain⟨lo,hi⟩:=s;obtain⟨hb0,hb1,hb2,hb3⟩:=hs;dsimp only at hb0 hb1 hb2 hb3 ⊢;by_cases h2:lo<hi
  ·obtain⟨m,hm⟩:=nmE ((lo+hi+1) / 2);have hym:y*m<=y*10000:=Zp y (by omega);have c1:=UC (x:=y) (mu:=m) (c0:=0) (by omega) (by omega) (by omega);have c2:=mB (x:=y*m+0) (y:=rr*10000+d) (Qa (Rl (show _<=y*10000 by omega)) (Qa (Qeg y) (by omega))) (by omega);by_cases h3:y*m+0<=rr*10000+d
   ·refine go tt [.T,.r 35 (eI (b:=((lo+hi:Nat):Int)) (by omega)),.r 36 (eI (b:=((lo+hi+1:Nat):Int)) (by omega)),.r 37 (eI (b:=(m:Int)) (by rw[hm];rfl)),.k c1,.k c2,.t (decide_eq_true (aI.2 h3))] rfl (by simp[U5,UX,-Int.natCast_add];omega) ?_;exact rd (m,hi) (by dsimp only;omega) ⟨by dsimp only;omega,hb1,by dsimp only;omega,hb3⟩ rfl
   ·refine go tt [.T,.r 35 (eI (b:=((lo+hi:Nat):Int)) (by omega)),.r 36 (eI (b:=((lo+hi+1:Nat):Int)) (by omega)),.r 37 (eI (b:=(m:Int)) (by rw[hm];rfl)),.k c1,.k c2,.f (decide_eq_false λh=>h3 (aI.1 h)),.r 46 (eI (b:=((m-1:Nat):Int)) (by omega))] rfl (by simp[U5,UX,-Int.natCast_add];omega) ?_;exact rd (lo,m-1) (by dsimp only;omega) ⟨by dsimp only;omega,by dsimp only;omega,hb2,by dsimp only;rw[show m-1+1=m by omega];omega⟩ rfl
  ·have hlh:lo=hi:=by omega
   have hfd:=Qc2 hb2 (by rw[hlh];exact hb3);have c1:=UC (x:=y) (mu:=lo) (c0:=0) (by omega) (by omega) (by omega);have c2:=nQ (x:=rr*10000+d) (y:=y*lo+0) (by omega) (Qa (Rl (show _<=rr*10000+d by omega)) (by omega)) (by omega);rw[show rr*10000+d-(y*lo+0)=Tn ((Gp x).drop j) % y from by rw[hq2,hfd.2];omega]at c2;refine go tt [.F,.i j,.k c1,.k c2] rfl (by simp[U5,hol,tdn,UX,-Int.natCast_add];omega) ?_;exact rd (j,Gp (Tn ((Gp x).drop j) % y),o.set j lo) (by dsimp only;omega) ⟨by dsimp only;omega,by dsimp only;rw[List.length_set];exact hp1,hp2.set (by omega),by
    dsimp only;rw[RN (by omega)];simp only[Tn];rw[hp3,hq1,hfd.1],rfl⟩ (by rw[QP];rfl)
theorem Qrg{a b:Int}(h:(decide (a<0) == decide (b<0))=true):Fc (decide (a<0)) (a.natAbs+b.natAbs)=a+b:=by
 unfold Fc;by_cases h1:a<0 <;> by_cases h2:b<0 <;> simp[h1,h2]at h ⊢ <;> omega
theorem Qrj{a b:Int}(h:¬(decide (a<0) == decide (b<0))=true)(hl:b.natAbs<=a.natAbs):Fc (decide (a<0)) (a.natAbs-b.natAbs)=a+b:=by
 unfold Fc;by_cases h1:a<0 <;> by_cases h2:b<0 <;> simp[h1,h2]at h ⊢ <;> omega
theorem Qlp{a b:Int}(h:¬(decide (a<0) == decide (b<0))=true)(hl:¬b.natAbs<=a.natAbs):Fc (decide (b<0)) (b.natAbs-a.natAbs)=a+b:=by
 unfold Fc;by_cases h1:a<0 <;> by_cases h2:b<0 <;> simp[h1,h2]at h ⊢ <;> omega
theorem VV(a:Int):(∃m:Nat,a=(m:Int))\/∃m:Nat,a=-(m:Int)/\0<m:=by
 rcases Kf a 0 with h|h
 ·exact .inr ⟨a.natAbs,by omega,by omega⟩
 ·exact .inl ⟨a.natAbs,by omega⟩
theorem Qri(a b:Int):Fc (!(decide (a<0) == decide (b<0))) (a.natAbs*b.natAbs)=a*b:=by
 rcases VV a with⟨m,rfl⟩|⟨m,rfl,hm⟩ <;> rcases VV b with⟨n,rfl⟩|⟨n,rfl,hn⟩
 ·simp[Fc,show ¬((m:Int)<0) by omega,show ¬((n:Int)<0) by omega]
 ·simp[Fc,show ¬((m:Int)<0) by omega,show(-(n:Int)<0) by omega,hn,V9]
 ·simp[Fc,show(-(m:Int)<0) by omega,show ¬((n:Int)<0) by omega,hm,Kr]
 ·simp[Fc,show(-(m:Int)<0) by omega,show(-(n:Int)<0) by omega,hm,hn,Uc]
theorem Qrh{a b:Int}(h:a % b=0):Fc (!(decide (a<0) == decide (b<0))) (a.natAbs / b.natAbs)=a / b:=by
 by_cases hb:b=0
 ·subst hb;simp[Fc]
 obtain⟨c,rfl⟩:=Vg h;rw[Jf _ hb,Ya,Nat.mul_div_cancel_left _ (by omega)];rcases VV b with⟨n,rfl⟩|⟨n,rfl,hn⟩ <;> rcases VV c with⟨m,rfl⟩|⟨m,rfl,hm⟩
 ·have:¬((n:Int)*(m:Int)<0):=by rw[<-Vj];omega
  simp[Fc,this,show ¬((n:Int)<0) by omega]
 ·have h1:0<n*m:=J6 (by omega) hm;have:((n:Int)*-(m:Int)<0):=by rw[V9,<-Vj];omega
  simp only[this,show ¬((n:Int)<0) by omega];simp[Fc]
 ·by_cases h0:m=0
  ·subst h0;simp[Fc]
  ·have h1:0<n*m:=J6 hn (by omega);have:(-(n:Int)*(m:Int)<0):=by rw[Kr,<-Vj];omega
   simp only[this,show(-(n:Int)<0) by omega];simp[Fc]
 ·have:¬(-(n:Int)*-(m:Int)<0):=by rw[Uc,<-Vj];omega
  simp only[this,show(-(n:Int)<0) by omega];simp[Fc]
theorem aA{x y:Nat}:0<=ZN x y↔y<=x:=by
 unfold ZN;constructor
 ·intro h;split at h
  ·omega
  ·omega
 ·intro h;split
  ·omega
  ·split <;> omega
theorem DV{x e:Nat}(h:(Gp x).length=1)(he:(Gp x)[0]? = some e):x=e:=by
 rcases hd:Gp x with _|⟨u,l⟩
 ·rw[hd]at h;cases h
 ·rcases l with _|⟨w,l⟩
  ·rw[hd]at he;simp at he;have:=Rj x;rw[hd]at this;simp[Tn]at this;omega
  ·rw[hd]at h;simp at h
theorem bJ{a b:Int}(hb:0<b):ri (a / ((Int.gcd a b:Nat):Int))++ri (b / ((Int.gcd a b:Nat):Int))=fr (Rat.divInt a b):=by
 obtain⟨h1,h2⟩:=oN (n:=a) hb;rw[Lh,Int.gcd_comm]at h1 h2;rw[h1,h2]
theorem bY(a:Int):ri a++ri 1=fr (Rat.divInt a 1):=by
 have h:=bJ (a:=a) (b:=1) (by decide);rw[show((Int.gcd a 1:Nat):Int)=1 by simp]at h;simpa using h
theorem qM{a b:Int}(hb:b≠0)(ha2:Fg a<=90000000)(hb2:Fg b<=90000000):Fg ((Int.gcd a b:Nat):Int)<=90000000/\((Int.gcd a b:Nat):Int)≠0/\a % ((Int.gcd a b:Nat):Int)=0/\b % ((Int.gcd a b:Nat):Int)=0:=by
 have h1:=oZ (n:=a) hb hb2;have h2:=gV (n:=a) hb;have h3:=LH a b;have h4:=LR a b;rw[Lh,Int.gcd_comm]at h1 h2 h3 h4;exact⟨h1,by omega,h3,h4⟩
theorem zI{a b:Int}(h:b<0):Gn a b=Rat.divInt (-a) (-b):=by
 unfold Gn;rw[if_neg (by omega)];exact(Rat.neg_divInt_neg a b).symm
theorem zO{a b:Int}(h:0<b):Gn a b=Rat.divInt a b:=by
 unfold Gn;rw[if_neg (by omega)]
theorem OZ(a b:Rat):Gn (a.num*(b.den:Int)+b.num*(a.den:Int)) ((a.den:Int)*(b.den:Int))=a+b:=by
 unfold Gn;rw[if_neg (Jh (Dn a) (Dn b)),<-Rat.divInt_add_divInt _ _ (Dn a) (Dn b),Z6,Z6]
theorem zX(a b:Rat):Gn (a.num*b.num) ((a.den:Int)*(b.den:Int))=a*b:=by
 unfold Gn;rw[if_neg (Jh (Dn a) (Dn b)),<-Rat.divInt_mul_divInt,Z6,Z6]
theorem zA{a b:Rat}(h:b≠0):Gn (a.num*(b.den:Int)) ((a.den:Int)*b.num)=a / b:=by
 have hn:b.num≠0:=λe=>h (Rat.num_eq_zero.1 e)
 unfold Gn;rw[if_neg (Jh (Dn a) hn),<-Rat.divInt_mul_divInt,Z6,J7];congr 1
 conv=>rhs;rw[<-Z6 b,Rat.inv_divInt]
theorem Qw2{s:Nat}{a b:Rat}(ha:Qs s a)(hb:Qs s b):Qs (2*s+1) (a+b):=by
 rw[<-OZ];unfold Gn;rw[if_neg (Jh (Dn a) (Dn b))];refine Qs.divInt (Qa (QE _ _) ?_) (Qa (Gf _ _) (by have:=ha.2;have:=hb.2;omega)) (by omega);have h1:=Gf a.num (b.den:Int);have h2:=Gf b.num (a.den:Int);have:=ha.1;have:=ha.2;have:=hb.1;have:=hb.2;omega
theorem nY{a b:Int}(ha:Fg a<=200000000)(hb:Fg b<=200000000):Un 68 [.agg (ri a),.agg (ri b)] [.agg (ri (a+b))]:=by
 by_cases hs:(decide (a<0) == decide (b<0))=true
 ·have cm:=Nv (decide (a<0)) (a.natAbs+b.natAbs);rw[Qrg hs]at cm;exact Uk func68 rfl [.t hs,.k (Que ha hb),.k cm] rfl
 ·have hs':(decide (a<0) == decide (b<0))=false:=by simpa using hs
  by_cases hl:b.natAbs<=a.natAbs
  ·have cm:=Nv (decide (a<0)) (a.natAbs-b.natAbs);rw[Qrj hs hl]at cm;exact Uk func68 rfl [.f hs',.k (mB ha hb),.t (decide_eq_true (aA.2 hl)),.k (nQ ha hb hl),.k cm] rfl
  ·have cm:=Nv (decide (b<0)) (b.natAbs-a.natAbs);rw[Qlp hs hl]at cm;exact Uk func68 rfl [.f hs',.k (mB ha hb),.f (decide_eq_false λh=>hl (aA.1 h)),.k (nQ hb ha (by omega)),.k cm] rfl
theorem Qgv{a b:Int}(ha:Fg a<=200000000)(hb:Fg b<=200000000):Un 112 [.agg (ri a),.agg (ri b)] [.agg (ri (a-b))]:=by
 have ca:=nY (a:=a) (b:=-b) ha (by rw[Hp];exact hb);rw[show a+-b=a-b from by omega]at ca;exact Uk func112 rfl [.k (QF (z:=b)),.k ca] rfl
theorem Ae{a b:Int}(ha:Fg a<=200000000)(hb:Fg b<=200000000):Un 66 [.agg (ri a),.agg (ri b)] [.agg (ri (a*b))]:=by
 have cm:=Nv (!(decide (a<0) == decide (b<0))) (a.natAbs*b.natAbs);rw[Qri]at cm;exact Uk func66 rfl [.k (Qup ha hb),.k cm] rfl
theorem CW{a b:Int}(ha:Fg a<=90000000)(hb:Fg b<=90000000)(h0:b≠0)(hd:a % b=0):Un 107 [.agg (ri a),.agg (ri b)] [.agg (ri (a / b))]:=by
 have cm:=Nv (!(decide (a<0) == decide (b<0))) (a.natAbs / b.natAbs);rw[Qrh hd]at cm;exact Uk func107 rfl [.k (mE ha hb (by omega)),.k cm] rfl
theorem Qw6(x:Nat):ri ((x:Nat):Int)=[nd x,.bool false]:=by
 unfold ri sg;rw[Xj,decide_eq_false (by omega)]
theorem jP{a b:Int}(ha:Fg a<=90000000)(hb:Fg b<=90000000):Un 106 [.agg (ri a),.agg (ri b)] [.agg (ri ((Int.gcd a b:Nat):Int))]:=by
 rw[Qw6];refine Fz func106 rfl ?_;refine Uh [] rfl ?_;refine Um (S:=Nat×Nat) 3 (λL1 s=>(5,.v (.one (nd s.1)))::(6,.v (.one (nd s.2)))::L1) (λ_=>[.blk 59 (ri a),.blk 59 (ri b),.blk 59 [.nils,.bool false]]) (λs=>s.2) (λs=>Nat.gcd s.1 s.2=Int.gcd a b/\sz s.1<=90000000/\sz s.2<=90000000) (a.natAbs,b.natAbs) ⟨rfl,ha,hb⟩ rfl rfl λs hs=>?_
 obtain⟨x,y⟩:=s;obtain⟨hp0,hp1,hp2⟩:=hs;dsimp only at hp0 hp1 hp2 ⊢;have hyn:=NY (x:=y);have hyl:=UO y;by_cases h1:y=0
 ·have e:Int.gcd a b=x:=by rw[<-hp0,h1,Nat.gcd_zero_right]
  rw[e];exact Uj [.f (by simp only[T0];exact decide_eq_false (by omega))] rfl
 ·have hlt:=Z5 x (show 0<y by omega);refine Uh [.t (by simp only[T0];exact decide_eq_true (by omega)),.k (mE hp1 hp2 (by omega))] rfl ?_;exact rd (y,x % y) (by dsimp only;omega) ⟨by dsimp only;rw[<-hp0,Nat.gcd_comm x y,Nat.gcd_rec y x,Nat.gcd_comm],hp2,Nat.le_trans (Rl (by dsimp only;omega)) hp2⟩ rfl
theorem YU{a b:Int}(ha:Fg a<=90000000)(hb:Fg b<=90000000):Un 62 [.agg (ri a),.agg (ri b)] [.agg (fr (Gn a b))]:=by
 rcases Ko b 0 with hs|hs|hs
 ·skip
  by_cases h1:-b=1
  ·have h0:(Bv (Gp (-b).natAbs))[0]? = some [LV.int .i64 1]:=by rw[h1,show(1:Int).natAbs=1 from rfl,Ij];rfl
   have hl1:decide (((Bv (Gp (-b).natAbs)).length:Int)=1)=true:=by rw[h1,show(1:Int).natAbs=1 from rfl,Ij];rfl
   have e:fr (Gn a b)=ri (-a)++ri (-b):=by rw[zI hs,h1];exact(bY _).symm
   rw[e];exact Uk func62 rfl [.k (Dy (z:=b)),.F,.t (decide_eq_true hs),.k (QF (z:=a)),.k (QF (z:=b)),.g 19 true hl1,.x h0,.t rfl] rfl
  ·have hgf:=qM (a:=-a) (b:=-b) (by omega) (by first|exact ha|(rw[Hp];exact ha)) (by first|exact hb|(rw[Hp];exact hb));have cg:=jP (a:=-a) (b:=-b) (by first|exact ha|(rw[Hp];exact ha)) (by first|exact hb|(rw[Hp];exact hb));have q1:=CW (a:=-a) (b:=((Int.gcd (-a) (-b):Nat):Int)) (by first|exact ha|(rw[Hp];exact ha)) hgf.1 hgf.2.1 hgf.2.2.1;have q2:=CW (a:=-b) (b:=((Int.gcd (-a) (-b):Nat):Int)) (by first|exact hb|(rw[Hp];exact hb)) hgf.1 hgf.2.1 hgf.2.2.2;have e:fr (Gn a b)=ri ((-a) / ((Int.gcd (-a) (-b):Nat):Int))++ri ((-b) / ((Int.gcd (-a) (-b):Nat):Int)):=by rw[zI hs];exact(bJ (by omega)).symm
   rw[e];have hl:=UO (-b).natAbs;by_cases hl1:(Gp (-b).natAbs).length=1
   ·obtain⟨u,hu⟩:=gxE (l:=(Gp (-b).natAbs)) (i:=0) (by omega);have hue:=DV hl1 hu;exact Uk func62 rfl [.k (Dy (z:=b)),.F,.t (decide_eq_true hs),.k (QF (z:=a)),.k (QF (z:=b)),.g 19 true (by simp only[T0];exact decide_eq_true (by omega)),.x (G0 hu),.F,.k cg,.k q1,.k q2] rfl
   ·exact Uk func62 rfl [.k (Dy (z:=b)),.F,.t (decide_eq_true hs),.k (QF (z:=a)),.k (QF (z:=b)),.g 19 false (by simp only[T0];exact decide_eq_false (by omega)),.f rfl,.k cg,.k q1,.k q2] rfl
 ·subst hs;have h0:(Bv (Gp (1:Int).natAbs))[0]? = some [LV.int .i64 1]:=by rw[show(1:Int).natAbs=1 from rfl,Ij];rfl
  have h1:decide (((Bv (Gp (1:Int).natAbs)).length:Int)=1)=true:=by rw[show(1:Int).natAbs=1 from rfl,Ij];rfl
  have e:fr (Gn a 0)=ri a++ri 1:=(bY a).symm;rw[e];exact Uk func62 rfl [.k (Dy (z:=0)),.t rfl,.k (ZO (n:=1) (by decide)),.f rfl,.g 19 true h1,.x h0,.t rfl] rfl
 ·skip
  by_cases h1:b=1
  ·have h0:(Bv (Gp (b).natAbs))[0]? = some [LV.int .i64 1]:=by rw[h1,show(1:Int).natAbs=1 from rfl,Ij];rfl
   have hl1:decide (((Bv (Gp (b).natAbs)).length:Int)=1)=true:=by rw[h1,show(1:Int).natAbs=1 from rfl,Ij];rfl
   have e:fr (Gn a b)=ri (a)++ri (b):=by rw[zO hs,h1];exact(bY _).symm
   rw[e];exact Uk func62 rfl [.k (Dy (z:=b)),.F,.F,.g 19 true hl1,.x h0,.t rfl] rfl
  ·have hgf:=qM (a:=a) (b:=b) (by omega) (by first|exact ha|(rw[Hp];exact ha)) (by first|exact hb|(rw[Hp];exact hb));have cg:=jP (a:=a) (b:=b) (by first|exact ha|(rw[Hp];exact ha)) (by first|exact hb|(rw[Hp];exact hb));have q1:=CW (a:=a) (b:=((Int.gcd (a) (b):Nat):Int)) (by first|exact ha|(rw[Hp];exact ha)) hgf.1 hgf.2.1 hgf.2.2.1;have q2:=CW (a:=b) (b:=((Int.gcd (a) (b):Nat):Int)) (by first|exact hb|(rw[Hp];exact hb)) hgf.1 hgf.2.1 hgf.2.2.2;have e:fr (Gn a b)=ri ((a) / ((Int.gcd (a) (b):Nat):Int))++ri ((b) / ((Int.gcd (a) (b):Nat):Int)):=by rw[zO hs];exact(bJ (by omega)).symm
   rw[e];have hl:=UO (b).natAbs;by_cases hl1:(Gp (b).natAbs).length=1
   ·obtain⟨u,hu⟩:=gxE (l:=(Gp (b).natAbs)) (i:=0) (by omega);have hue:=DV hl1 hu;exact Uk func62 rfl [.k (Dy (z:=b)),.F,.F,.g 19 true (by simp only[T0];exact decide_eq_true (by omega)),.x (G0 hu),.F,.k cg,.k q1,.k q2] rfl
   ·exact Uk func62 rfl [.k (Dy (z:=b)),.F,.F,.g 19 false (by simp only[T0];exact decide_eq_false (by omega)),.f rfl,.k cg,.k q1,.k q2] rfl
theorem Qy0{n d:Int}(hn:-1000000000<=n/\n<=1000000000)(hd:-1000000000<=d/\d<=1000000000):Un 20 [.oi n,.oi d] [.agg (fr (Gn n d))]:=by
 have b1:Fg n<=90000000:=Qa (S6.2 (show n.natAbs<2^40 by omega)) (by decide);have b2:Fg d<=90000000:=Qa (S6.2 (show d.natAbs<2^40 by omega)) (by decide);exact Uk func20 rfl [.k (ZO (by omega)),.k (ZO (by omega)),.k (YU b1 b2)] rfl
theorem Qur{a:Rat}:Un 186 [.agg (fr a)] [.agg (fr (-a))]:=by
 have e:fr (-a)=ri (-a.num)++ri (a.den:Int):=rfl;rw[e];exact Uk func186 rfl [.k (QF (z:=a.num))] rfl
theorem mM{a b:Rat}(ha:Qs 20000000 a)(hb:Qs 20000000 b):Un 25 [.agg (fr a),.agg (fr b)] [.agg (fr (a+b))]:=by
 have k1:=Gf a.num (b.den:Int);have k2:=Gf b.num (a.den:Int);have k3:=Gf (a.den:Int) (b.den:Int);have k4:=QE (a.num*(b.den:Int)) (b.num*(a.den:Int));have h1:=ha.1;have h2:=ha.2;have h3:=hb.1;have h4:=hb.2;have cm:=YU (a:=a.num*(b.den:Int)+b.num*(a.den:Int)) (b:=(a.den:Int)*(b.den:Int)) (by omega) (by omega);rw[OZ]at cm;exact Uk func25 rfl [.k (Ae (a:=a.num) (b:=(b.den:Int)) (by omega) (by omega)),.k (Ae (a:=b.num) (b:=(a.den:Int)) (by omega) (by omega)),.k (nY (by omega) (by omega)),.k (Ae (a:=(a.den:Int)) (b:=(b.den:Int)) (by omega) (by omega)),.k cm] rfl
theorem Qfz{a b:Rat}(ha:Qs 40000000 a)(hb:Qs 40000000 b):Un 262 [.agg (fr a),.agg (fr b)] [.agg (fr (a*b))]:=by
 have k1:=Gf a.num b.num;have k3:=Gf (a.den:Int) (b.den:Int);have h1:=ha.1;have h2:=ha.2;have h3:=hb.1;have h4:=hb.2;have cm:=YU (a:=a.num*b.num) (b:=(a.den:Int)*(b.den:Int)) (by omega) (by omega);rw[zX]at cm;exact Uk func262 rfl [.k (Ae (a:=a.num) (b:=b.num) (by omega) (by omega)),.k (Ae (a:=(a.den:Int)) (b:=(b.den:Int)) (by omega) (by omega)),.k cm] rfl
theorem mA{a b:Rat}(ha:Qs 40000000 a)(hb:Qs 40000000 b)(h0:b≠0):Un 289 [.agg (fr a),.agg (fr b)] [.agg (fr (a / b))]:=by
 have k1:=Gf a.num (b.den:Int);have k3:=Gf (a.den:Int) b.num;have h1:=ha.1;have h2:=ha.2;have h3:=hb.1;have h4:=hb.2;have cm:=YU (a:=a.num*(b.den:Int)) (b:=(a.den:Int)*b.num) (by omega) (by omega);rw[zA h0]at cm;exact Uk func289 rfl [.k (Ae (a:=a.num) (b:=(b.den:Int)) (by omega) (by omega)),.k (Ae (a:=(a.den:Int)) (b:=b.num) (by omega) (by omega)),.k cm] rfl
end Orr
namespace Orr
def Df:Ut->Ut
 | []=>[]
 |
  x::l=>match Df l with
  | []=>if x=0 then []else [x]
  |y::k=>x::y::k
theorem JM:∀{l:Ut},(∀x∈l,x=0)->Df l=[]
 | [],_=>rfl
 |
  x::l,h=>by
  have ih:=JM (l:=l) (λy hy=>h y (Qg _ hy));simp[Df,ih,h x (Qy ..)]
theorem AS:∀{l:Ut} {m:Nat} {y:Rat},(∀j x,m<j->l[j]? = some x->x=0)->l[m]? = some y->y≠0->Df l=l.take (m+1)
 | [],m,y,_,h,_=>by simp at h
 |
  x::l,0,y,h1,h2,h3=>by
  have h0:Df l=[]:=JM λz hz=>by
   obtain⟨j,hj⟩:=Zm.1 hz;exact h1 (j+1) z (by omega) (by simpa using hj)
  simp at h2;subst h2;simp[Df,h0,h3]
 |
  x::l,m+1,y,h1,h2,h3=>by
  have ih:=AS (l:=l) (m:=m) (y:=y) (λj z hj hz=>h1 (j+1) z (by omega) (by simpa using hz)) (by simpa using h2) h3;cases hl:l with
  |nil=>subst hl;simp at h2
  |
   cons u k =>
   subst hl;rw[Vf]at ih;simp only[Df]at ih ⊢;rw[ih];simp
theorem xU{l:Ut}{m:Nat}(hm:m<=l.length)(h1:∀j x,m<=j->l[j]? = some x->x=0)(h2:0<m->∃y,l[m-1]? = some y/\y≠0):Df l=l.take m:=by
 rcases Q4 m with h0|h0
 ·subst h0;rw[JM λz hz=>?_];rfl;obtain⟨j,hj⟩:=Zm.1 hz;exact h1 j z (by omega) hj
 ·obtain⟨y,hy,hy0⟩:=h2 h0;have:=AS (l:=l) (m:=m-1) (y:=y) (λj x hj hx=>h1 j x (by omega) hx) hy hy0;rwa[show m-1+1=m from by omega]at this
theorem xG:∀(l:Ut),∀z∈Df l,z∈l
 | [],z,h=>h
 |
  x::l,z,h=>by
  simp only[Df]at h;have ih:=xG l
  split at h
  ·split at h
   ·cases h
   ·simp at h;simp[h]
  ·rename_i y k e;rw[e]at ih;rcases Qm.1 h with h|h
   ·simp[h]
   ·exact Qg _ (ih z h)
theorem xF:∀(l:Ut),(Df l).length<=l.length
 | []=>Qk _
 |
  x::l=>by
  have ih:=xF l;simp only[Df]
  split
  ·split <;> simp
  ·rename_i y k e;rw[e]at ih;simp at ih ⊢;omega
def zp(p:Uq):Ut:=p.map λ(z:Int)=>(z:Rat)
theorem Ey:∀(p:Uq),Df (zp p)=zp (trim p)
 | []=>rfl
 |
  x::l=>by
  have ih:=Ey l;unfold zp at ih ⊢;simp only[Zz,Df,trim,ih];cases h:trim l with
  |
   nil =>
   simp only[Jb];by_cases hx:x=0
   ·subst hx;simp
   ·have:(x:Rat)≠0:=λe=>hx (by exact_mod_cast e)
    simp[hx,this]
  |cons y k=>simp
theorem A5(p:Uq):(zp p).length=p.length:=Za _
theorem Qx6{p:Uq}{i:Nat}{z:Int}(h:p[i]? = some z):(zp p)[i]? = some (z:Rat):=by simp[zp,h]
theorem BK(p:Uq)(i:Nat):(zp p).getD i 0=((p.getD i 0:Int):Rat):=by
 simp only[Qi,zp,Zb];cases p[i]? <;> rfl
def Rb(s:Nat)(p:Ut):Prop:=∀q∈p,Qs s q
theorem Rb.mono{s t:Nat}{p:Ut}(h:Rb s p)(ht:s<=t):Rb t p:=λq hq=>(h q hq).mono ht
theorem Rb.get{s:Nat}{p:Ut}(h:Rb s p){i:Nat}{q:Rat}(hq:p[i]? = some q):Qs s q:=h q (Qc hq)
theorem Aw{s:Nat}{z:Int}(h:Fg z<=s)(h1:1<=s):Qs s (z:Rat):=⟨by simpa using h,Qa (show Fg ((1:Nat):Int)<=1 by decide) h1⟩
theorem xQ{s:Nat}{p:Uq}(h:Bd s p)(h1:1<=s):Rb s (zp p):=λq hq=>by
 obtain⟨z,hz,rfl⟩:=Q6.1 hq;exact Aw (h z hz) h1
theorem Qqz{s:Nat}(h1:1<=s):Qs s 0:=Aw (z:=0) (by simp[Nl]) h1
theorem Rb.getD{s:Nat}{p:Ut}(h:Rb s p)(h1:1<=s)(i:Nat):Qs s (p.getD i 0):=by
 rw[Qi];cases e:p[i]? with
 |none=>exact Qqz h1
 |some q=>exact h.get e
theorem Rb.trim{s:Nat}{p:Ut}(h:Rb s p):Rb s (Df p):=λq hq=>h q (xG p q hq)
def VA(f:Nat->Rat)(n:Nat):Ut:=(List.range n).map f
theorem AO(f:Nat->Rat)(n:Nat):(VA f n).length=n:=by simp[VA]
theorem xN(f:Nat->Rat)(n:Nat):VA f (n+1)=VA f n++[f n]:=by simp[VA,We]
theorem Qrr{s n:Nat}{f:Nat->Rat}(h:∀i,i<n->Qs s (f i)):Rb s (VA f n):=λq hq=>by
 obtain⟨i,hi,rfl⟩:=Q6.1 hq;exact h i (Kl.1 hi)
theorem kM{f:Nat->Rat}{g:Nat->Int}(n:Nat)(h:∀i,i<n->f i=(g i:Rat)):VA f n=zp ((List.range n).map g):=by
 simp only[VA,zp,List.map_map];exact Xu λi hi=>h i (Kl.1 hi)
def Qd5(p q:Ut):Ut:=Df (VA (λi=>p.getD i 0+q.getD i 0) (max p.length q.length))
def ZJ(p:Ut)(c:Rat):Ut:=Df (VA (λi=>p.getD i 0*c) p.length)
def kV(p:Ut):Ut:=ZJ p (-1)
def Qtk(p q:Ut):Ut:=Qd5 p (kV q)
theorem Qq1(p q:Uq):Qd5 (zp p) (zp q)=zp (A7 p q):=by
 unfold Qd5 A7 A6;rw[kM (g:=λk=>p.getD k 0+q.getD k 0) _ λi _=>by rw[BK,BK,Ke],Ey,A5,A5]
theorem xK(p:Uq)(c:Int):ZJ (zp p) (c:Rat)=zp (Fv p c):=by
 unfold ZJ Fv A6;rw[kM (g:=λk=>p.getD k 0*c) _ λi _=>by rw[BK,X6],Ey,A5]
theorem dZ(p:Uq):Fv p (-1)=Mq p:=by
 unfold Fv Mq A6;congr 2;funext k;omega
theorem Qa3(p:Uq):kV (zp p)=zp (Mq p):=by
 rw[<-dZ,<-xK];rfl
theorem fD{p q:Uq}(hp:Fe p)(hq:Fe q)(h:∀k,p.getD k 0=q.getD k 0):p=q:=by
 have key:∀{p q:Uq},Fe q->(∀k,p.getD k 0=q.getD k 0)->q.length<=p.length:=by
  intro p q hq h;rcases Zd p.length q.length with h1|h1
  ·have h2:=Rf hq (by omega);rw[<-h,Qi,Qw (by omega)]at h2;exact(h2 rfl).elim
  ·exact h1
 exact DI (Kd (key hp λk=>(h k).symm) (key hq h)) λj _=>h j
theorem nE{n m:Nat}{f g:Nat->Int}(hn:n<=m)(h:∀k,k<n->f k=g k)(h0:∀k,n<=k->k<m->g k=0):A6 n f=A6 m g:=by
 refine fD (Fy _ _) (Fy _ _) λk=>?_
 rw[Pi,Pi];by_cases h1:k<n
 ·rw[if_pos h1,if_pos (by omega),h k h1]
 ·rw[if_neg h1];by_cases h2:k<m
  ·rw[if_pos h2,h0 k (by omega) h2]
  ·rw[if_neg h2]
theorem Qq9(p q:Uq):Qtk (zp p) (zp q)=zp (Ni p q):=by
 unfold Qtk;rw[Qa3,Qq1];congr 1;have hl:=Oj q;unfold A7 Ni;refine nE (by omega) (λk _=>?_) λk h1 h2=>?_
 ·unfold Mq;rw[Pi]
  split
  ·omega
  ·rename_i h;have:q.getD k 0=0:=by rw[Qi,Qw (by omega)];rfl
   omega
 ·have h3:p.getD k 0=0:=by rw[Qi,Qw (by omega)];rfl
  have h4:(Mq q).getD k 0=0:=by rw[Qi,Qw (by omega)];rfl
  unfold Mq at h4;rw[Pi]at h4
  split at h4
  ·omega
  ·have:q.getD k 0=0:=by rw[Qi,Qw (by omega)];rfl
   omega
end Orr
namespace Orr
open Go Go.Proofs Tryz
set_option maxRecDepth 10000
def frow(p:Ut):Uw:=p.map fr
theorem Ci(p:Ut):(frow p).length=p.length:=by simp[frow]
theorem XF{p:Ut}{i:Nat}{q:Rat}(h:p[i]? = some q):(frow p)[i]? = some (fr q):=Hm h
theorem qS(p:Ut)(q:Rat):frow (p++[q])=frow p++[fr q]:=by simp[frow]
theorem Qdb(p:Ut):∀c∈frow p,c.length=4:=λc hc=>by obtain⟨x,_,rfl⟩:=Q6.1 hc;rfl
abbrev rp(p:Ut):LV:=.row (frow p)
theorem Qdw(q:Rat):∀c∈[fr q],c.length=4:=λc hc=>by rw[Ql.1 hc];rfl
theorem Qgu:Un 288 [] [.agg (fr 0)]:=Uk func288 rfl [.k (KB (n:=0) (by decide))] rfl
theorem KL{p:Ut}:Un 263 [.one (rp p)] [.one (rp (Df p))]:=by
 refine Fz func263 rfl (ln 0 rfl rfl λhl=>?_);rw[Ci]at hl;have hpl:=Ci p;refine Uh [] rfl ?_;refine lp (S:=Nat) 0 (λL1 n=>(3,.v (.oi n))::L1) (λ_=>[]) id (λn=>n<=p.length/\∀j x,n<=j->p[j]? = some x->x=0) (frow p).length ⟨by rw[hpl];exact Qk _,λj x h1 h2=>by
  have:=(Qf.1 h2).1;rw[hpl]at h1;omega⟩ rfl (λ_ _=>rfl) rfl λn hs=>?_
 obtain⟨h1,h2⟩:=hs;cases n with
 |
  zero =>
  have e:=xU h1 (λj x h=>h2 j x h) (λh=>absurd h (by decide));exact Uj [.g 8 false (by simp),.f rfl,.i 0] rfl (by rw[e];rfl) (by simp[U5])
 |
  succ n =>
  obtain⟨x,hx⟩:=gxE (l:=p) (i:=n) (by omega);have hn:=Rat.num_eq_zero (q:=x);by_cases h0:x=0
  ·refine Ui [.g 8 true (by simp),.r 11 (eI (b:=(n:Int)) (by simp)),.x (XF hx),.k (Dy (z:=x.num)),.t (decide_eq_true (hn.2 h0)),.r 18 (eI (b:=(n:Int)) (by simp))] rfl ?_;exact rd n (by simp) ⟨by omega,λj y h3 h4=>by
    rcases Vl h3 with rfl|h3
    ·rw[hx]at h4;injection h4 with h4;rw[<-h4,h0]
    ·exact h2 j y h3 h4⟩ rfl
  ·have e:=xU h1 (λj x h=>h2 j x h) (λ_=>⟨x,hx,h0⟩);exact Uj [.g 8 true (by simp),.r 11 (eI (b:=(n:Int)) (by simp)),.x (XF hx),.k (Dy (z:=x.num)),.f (decide_eq_false λh=>h0 (hn.1 h)),.i (n+1)] rfl (by rw[e];simp[rp,frow,Jw]) (by simp[U5,hpl] <;> omega)
theorem Qss{p:Ut}{i:Nat}(hi:i<1099511627776):Un 265 [.one (rp p),.oi i] [.agg (fr (p.getD i 0))]:=by
 have hpl:=Ci p;by_cases h:i<p.length
 ·have e:p.getD i 0=p[i]:=by rw[Qi,Qe h];rfl
  rw[e];exact Uk func265 rfl [.g 7 false Uo,.F,.x (XF (Qe h))] rfl
 ·have e:p.getD i 0=0:=by rw[Qi,Qw (by omega)];rfl
  rw[e];exact Uk func265 rfl [.g 7 false Uo,.T,.k Qgu] rfl
theorem Qg8:Un 258 [.one (ids [1])] [.one (rp (zp [1]))]:=by
 have cc:=KL (p:=zp [1]);rw[Ey,show trim [1]=[1] from rfl]at cc;refine Fz func258 rfl ?_;refine Uh [.o 3 61 4] rfl ?_;refine Um (S:=Nat) 1 (λL1 i=>(7,.v (.oi i))::(3,.v (.one (.orow 0 4 none)))::L1) (λi=>[.row false 61 4 (frow ((zp [1]).take i))]) (λi=>1-i) (λi=>i<=1) 0 (by decide) rfl rfl λi hi=>?_
 rcases(show i=0\/i=1 by omega)with rfl|rfl
 ·refine go tt [.t rfl,.x (l:=idl [1]) (i:=0) (xs:=[.int .i64 1]) rfl,.k (KB (n:=1) (by decide)),.s (sz:=4) (Qdw _)] rfl (by simp[U5,frow]) ?_;exact rd 1 (by omega) (by omega) rfl
 ·exact Uj [.f rfl,.k cc] rfl
theorem Qu5{p q:Ut}(hp:Rb 20000000 p)(hq:Rb 20000000 q)(hlp:p.length<=1000000)(hlq:q.length<=1000000):Un 232 [.one (rp p),.one (rp q)] [.one (rp (Qd5 p q))]:=by
 have h1:=Ci p;have h2:=Ci q;obtain⟨M,hM⟩:=nmE (max p.length q.length);have cc:=KL (p:=VA (λi=>p.getD i 0+q.getD i 0) M);unfold Qd5;rw[<-hM];refine Fz func232 rfl ?_;refine Uh [.o 5 61 4] rfl ?_;refine Um (S:=Nat) 1 (λL1 i=>(6,.v (.oi i))::(5,.v (.one (.orow 0 4 none)))::L1) (λi=>[.row false 61 4 (frow (VA (λi=>p.getD i 0+q.getD i 0) i))]) (λi=>M-i) (λi=>i<=M) 0 (Qh _) rfl rfl λi hi=>?_
 have hol:(frow (VA (λi=>p.getD i 0+q.getD i 0) i)).length=i:=by rw[Ci,AO]
 by_cases h:i<M
 ·refine go tt [.r 12 (eI (b:=(M:Int)) (by omega)),.T,.k (Qss (p:=p) (i:=i) (by omega)),.k (Qss (p:=q) (i:=i) (by omega)),.k (mM (hp.getD (by decide) i) (hq.getD (by decide) i)),.s (sz:=4) (Qdw _)] rfl (by simp[U5,hol,-List.getD_eq_getElem?_getD];omega) ?_;exact rd (i+1) (by omega) h (by rw[xN,qS];rfl)
 ·have e:i=M:=by omega
  rw[e];exact Uj [.r 12 (eI (b:=(M:Int)) (by omega)),.F,.k cc] rfl
theorem CH{p:Ut}{c:Rat}(hp:Rb 40000000 p)(hc:Qs 40000000 c)(hlp:p.length<=1000000):Un 264 [.one (rp p),.agg (fr c)] [.one (rp (ZJ p c))]:=by
 have h1:=Ci p;have cc:=KL (p:=VA (λi=>p.getD i 0*c) p.length);unfold ZJ;refine Fz func264 rfl ?_;refine Uh [.o 5 61 4] rfl ?_;refine Um (S:=Nat) 2 (λL1 i=>(9,.v (.oi i))::(5,.v (.one (.orow 1 4 none)))::L1) (λi=>[.blk 61 (fr c),.row false 61 4 (frow (VA (λi=>p.getD i 0*c) i))]) (λi=>p.length-i) (λi=>i<=p.length) 0 (Qh _) rfl rfl λi hi=>?_
 have hol:(frow (VA (λi=>p.getD i 0*c) i)).length=i:=by rw[Ci,AO]
 by_cases h:i<p.length
 ·have hg:p[i]? = some (p.getD i 0):=by rw[Qi,Qe h];rfl
  refine go tt [.T,.x (XF hg),.k (Qfz (hp.getD (by decide) i) hc),.s (sz:=4) (Qdw _)] rfl (by simp[U5,hol,-List.getD_eq_getElem?_getD];omega) ?_;exact rd (i+1) (by omega) h (by rw[xN,qS];rfl)
 ·have e:i=p.length:=by omega
  rw[e];exact Uj [.F,.k cc] rfl
theorem Qg7{p:Ut}(hp:Rb 40000000 p)(hlp:p.length<=1000000):Un 230 [.one (rp p)] [.one (rp (kV p))]:=by
 have cs:=CH (p:=p) (c:=-1) hp ⟨by decide,by decide⟩ hlp;have co:=KB (n:=-1) (by decide);rw[show((-1:Int):Rat)=-1 from rfl]at co;exact Uk func230 rfl [.k co,.k cs] rfl
theorem Qqx{s t:Nat}{a b:Rat}(ha:Qs s a)(hb:Qs t b):Qs (s+t+1) (a*b):=by
 rw[<-zX];unfold Gn;rw[if_neg (Jh (Dn a) (Dn b))];have h1:=Gf a.num b.num;have h2:=Gf (a.den:Int) (b.den:Int);have:=ha.1;have:=ha.2;have:=hb.1;have:=hb.2;exact Qs.divInt (by omega) (by omega) (by omega)
theorem Qw5{s:Nat}{p:Ut}(hp:Rb s p):Rb (s+2) (kV p):=by
 unfold kV ZJ;refine Rb.trim (Qrr λi hi=>?_);have h1:Qs (s+0) (p.getD i 0):=by
  have hi:i<p.length:=hi;rw[Qi,Qe hi];exact hp _ (Xw hi)
 have:=Qqx h1 (show Qs 1 (-1:Rat) from⟨by decide,by decide⟩);exact this.mono (by omega)
theorem Qlb(p:Ut):(kV p).length<=p.length:=by
 unfold kV ZJ;exact Qa (xF _) (by rw[AO];exact Qk _)
theorem Qf0{a b:Int}(ha:Fg a<=40000000)(hb:Fg b<=40000000):Un 262 [.agg (fr (a:Rat)),.agg (fr (b:Rat))] [.agg (fr ((a*b:Int):Rat))]:=by
 have h:=Qfz (Aw ha (by decide)) (Aw hb (by decide));rw[<-X6]at h;exact h
theorem Quf{a b:Int}(ha:Fg a<=20000000)(hb:Fg b<=20000000):Un 25 [.agg (fr (a:Rat)),.agg (fr (b:Rat))] [.agg (fr ((a+b:Int):Rat))]:=by
 have h:=mM (Aw ha (by decide)) (Aw hb (by decide));rw[<-Ke]at h;exact h
theorem gJ(l:Uq)(i:Nat)(z:Int):(frow (zp l)).set i (fr (z:Rat))=frow (zp (l.set i z)):=by simp[frow,zp,Vw]
theorem Qmz{p:Uq}{i:Nat}(h:i<p.length):(zp p)[i]? = some ((p.getD i 0:Int):Rat):=Qx6 (Td h)
theorem So{p:Uq}{i:Nat}(h:i<p.length):(frow (zp p))[i]? = some (fr ((p.getD i 0:Int):Rat)):=XF (Qmz h)
theorem qP(p:Uq):(frow (zp p)).length=p.length:=by rw[Ci,A5]
abbrev zR:Uv:=[.nils,.bool false,.nils,.bool false]
theorem yF{n i:Nat}(h:i<n):(List.replicate i (fr 0)++List.replicate (n-i) zR).set i (fr 0)=List.replicate (i+1) (fr 0)++List.replicate (n-(i+1)) zR:=by
 rw[List.set_append_right _ _ (by simp),Jg,Kk,show n-i=n-(i+1)+1 by omega,J4 (n:=n-(i+1)),List.set_cons_zero,List.replicate_succ' (n:=i),Ze];rfl
theorem IV(n:Nat):List.replicate n (fr 0)++List.replicate (n-n) zR=frow (zp (List.replicate n 0)):=by simp[zp,frow]
theorem Qu7{p q:Uq}{s t:Nat}(hlp:p.length<=1000000)(hlq:q.length<=1000000)(hp:Bd s p)(hq:Bd t q)(hst:s+t<=19000000):Un 260 [.one (rp (zp p)),.one (rp (zp q))] [.one (rp (zp (Gl p q)))]:=by
 have hpl:=qP p;have hql:=qP q;rcases Q4 p.length with h0|h0
 ·have e:Gl p q=[]:=by unfold Gl;rw[if_pos (.inl h0)]
  rw[e];exact Uk func260 rfl [.g 12 true Up,.t rfl] rfl
 rcases Q4 q.length with h1|h1
 ·have e:Gl p q=[]:=by unfold Gl;rw[if_pos (.inr h1)]
  rw[e];exact Uk func260 rfl [.g 12 false Uo,.T] rfl
 have e:Gl p q=trim (Au p q (List.replicate (p.length+q.length-1) 0) p.length):=by unfold Gl;rw[if_neg (by omega)]
 rw[e];obtain⟨N,hN⟩:=nmE (p.length+q.length-1);rw[<-hN];obtain⟨o,ho⟩:=nmE (List.replicate N (0:Int));rw[<-ho];have hol:o.length=N:=by rw[ho];simp
 have ho0:∀m,o.getD m 0=0:=λm=>by rw[ho];exact Cj N m
 have cc:=KL (p:=zp (Au p q o p.length));rw[Ey]at cc;refine Fz func260 rfl ?_;refine Ui [.g 12 false Uo,.F,.r 22 (eI (b:=(N:Int)) (by omega)),.i N,.i N,.r 25 (eI (b:=(N:Int)) (by simp))] rfl ?_;refine Um (S:=Nat) 1 (λL1 i=>(26,.v (.oi i))::L1) (λi=>[.row false 61 4 (List.replicate i (fr 0)++List.replicate (N-i) zR)]) (λi=>N-i) (λi=>i<=N) 0 (Qh _) rfl rfl λi hi=>?_
 by_cases hlt:i<N
 ·refine Ui [.T,.k Qgu,.i i] rfl ?_;rw[yF hlt];exact rd (i+1) (by omega) hlt rfl
 have hiN:i=N:=by omega
 rw[hiN,IV,<-ho];clear hiN hlt hi;refine Uh [.F] rfl ?_;refine Um (S:=Nat) 1 (λL1 i=>(36,.v (.oi i))::L1) (λi=>[.row false 61 4 (frow (zp (Au p q o i)))]) (λi=>p.length-i) (λi=>i<=p.length) 0 (Qh _) rfl rfl λi hi=>?_
 by_cases hlt:i<p.length
 ·refine Uh [.T] rfl ?_;refine Um (S:=Nat) 1 (λL1 k=>(41,.v (.oi k))::L1) (λk=>[.row false 61 4 (frow (zp (Oo (p.getD i 0) q i (Au p q o i) k)))]) (λk=>q.length-k) (λk=>k<=q.length) 0 (Qh _) rfl rfl λk hk=>?_
  by_cases hk2:k<q.length
  ·have hm1:Fg ((Oo (p.getD i 0) q i (Au p q o i) k).getD (i+k) 0)<=20000000:=Qa (Iz (t:=39) (vX (by rw[Lm];omega) (vZ (λj hj=>by omega) ho0 (λi j=>Nm (Fw hp i) (Fw hq j))) (λj=>Nm (Fw hp i) (Fw hq j)) (i+k)) (Kj (show i+1<549755813888 by omega) (by decide))) (by omega);have hm2:Fg (p.getD i 0*q.getD k 0)<=20000000:=Qa (Gf _ _) (by have:=Fw hp i;have:=Fw hq k;omega);have hml:(Oo (p.getD i 0) q i (Au p q o i) k).length=N:=by rw[Oq,Lm,hol]
   have cm:=Qf0 (a:=p.getD i 0) (b:=q.getD k 0) (Qa (Fw hp i) (by omega)) (Qa (Fw hq k) (by omega));have hfl:=qP (Oo (p.getD i 0) q i (Au p q o i) k);refine go tt [.T,.i (i+k),.x (So (p:=Oo (p.getD i 0) q i (Au p q o i) k) (i:=i+k) (by omega)),.x (So hlt),.x (So hk2),.k cm,.k (Quf hm1 hm2),.i (i+k)] rfl (by simp[U5,hfl,-List.getD_eq_getElem?_getD] <;> omega) ?_;rw[gJ];exact rd (k+1) (by omega) hk2 rfl
  ·obtain rfl:k=q.length:=by omega
   exact go tt [.F] rfl (by simp[U5];omega) (rd (i+1) (by omega) hlt rfl)
 ·obtain rfl:i=p.length:=by omega
  exact Uj [.F,.k cc] rfl
def fH(p:Uq)(n:Nat):Uq:=(List.range n).map λk=>p.getD (k+1) 0*((k+1:Nat):Int)
theorem Qh7(p:Uq)(n:Nat):(fH p n).length=n:=by simp[fH]
theorem Qc5(p:Uq)(n:Nat):fH p (n+1)=fH p n++[p.getD (n+1) 0*((n+1:Nat):Int)]:=by simp[fH,We]
theorem wU(p:Uq)(z:Int):frow (zp (p++[z]))=frow (zp p)++[fr (z:Rat)]:=by simp[frow,zp]
theorem Qg6{p:Uq}(hp:Bd 40000000 p)(hl:p.length<=1000000):Un 229 [.one (rp (zp p))] [.one (rp (zp (Gv p)))]:=by
 have hpl:=qP p;have cc:=KL (p:=zp (fH p (p.length-1)));rw[Ey]at cc;refine Fz func229 rfl ?_;refine Uh [.o 3 61 4] rfl ?_;refine Um (S:=Nat) 1 (λL1 j=>(4,.v (.oi ((j+1:Nat):Int)))::(3,.v (.one (.orow 0 4 none)))::L1) (λj=>[.row false 61 4 (frow (zp (fH p j)))]) (λj=>p.length-j) (λj=>j<=p.length-1) 0 (Qh _) rfl rfl λj hj=>?_
 have hfl:=qP (fH p j);rw[Qh7]at hfl;by_cases h:j+1<p.length
 ·have hk:Fg ((j+1:Nat):Int)<=40000000:=Qa (yM (t:=38) (k:=j+1) (Kj (show j+1<274877906944 by omega) (by decide))) (by decide);refine go tt [.T,.x (So h),.k (KB (n:=((j+1:Nat):Int)) (by omega)),.k (Qf0 (Fw hp (j+1)) hk),.s (sz:=4) (Qdw _)] rfl (by simp[U5,hfl,-List.getD_eq_getElem?_getD] <;> omega) ?_;exact rd (j+1) (by omega) (by omega) (by rw[Qc5,wU];rfl)
 ·have e:j=p.length-1:=by omega
  rw[e];exact Uj [.F,.k cc] rfl
theorem Qq5:[LV.nils,LV.bool false].map GQ=ri 0:=by
 show _=[nd 0,sg 0];unfold nd dl;rw[H5];rfl
end Orr
namespace Orr
def Hi(p:Uq):Int:=p.getD (p.length-1) 0
def AT(a b:Uq):Int:=if Hi b<0 then -(Hi a)else Hi a
def UQ(a b:Uq)(i:Nat):Int:=a.getD i 0*((Hi b).natAbs:Int)-(if a.length-b.length<=i then AT a b*b.getD (i-(a.length-b.length)) 0 else 0)
def sS(a b:Uq):Uq:=A6 a.length (UQ a b)
inductive RRun (b:List Int):Nat->List Int->List Int->Prop
 |stop {a:List Int}:a.length<b.length->RRun b 0 a a
 |step {k:Nat} {a r:List Int}:b.length<=a.length->a.length<=1000->Bd 9000000 a->Bd 9000000 b->RRun b k (sS a b) r->RRun b (k+1) a r
def Oa(p:Uq):Nat->Nat
 | 0=>0
 |i+1=>Int.gcd (Oa p i:Nat) (p.getD i 0)
def UE(p:Uq):Nat:=Oa p p.length
theorem RH(p:Uq):∀{i j:Nat},j<i->((Oa p i:Nat):Int)∣p.getD j 0
 | 0,_,h=>absurd h (Nat.not_lt_zero _)
 |
  i+1,j,h=>by
  simp only[Oa];rcases Zd j i with h1|h1
  ·exact V7 (Int.gcd_dvd_left ..) (RH p h1)
  ·rw[show j=i by omega];exact Wx ..
theorem uE(p:Uq)(j:Nat):((UE p:Nat):Int)∣p.getD j 0:=by
 rcases Zd j p.length with h|h
 ·exact RH p h
 ·rw[Qi,Qw h];exact Int.dvd_zero _
theorem XX{s:Nat}{p:Uq}(h:Bd s p):∀i,Fg ((Oa p i:Nat):Int)<=s
 | 0=>by simp[Oa,Nl]
 |
  i+1=>by
  simp only[Oa];by_cases h0:p.getD i 0=0
  ·rw[h0,Int.gcd_zero_right];exact XX h i
  ·have h1:=Wx (Oa p i:Nat) (p.getD i 0);have h2:(Int.gcd (Oa p i:Nat) (p.getD i 0))<=(p.getD i 0).natAbs:=Ky (by omega) (by simpa using X8.2 h1);have h3:=Fw h i;rw[S6]at h3 ⊢;simp only[Xj];omega
theorem Qcw{p:Uq}{j i:Nat}(hj:j<i)(h:p.getD j 0≠0):0<Oa p i:=by
 have:=RH p hj;rcases Q4 (Oa p i)with h0|h0
 ·rw[h0]at this;exact absurd (Int.zero_dvd.1 this) h
 ·exact h0
theorem uA{p:Uq}(ht:Fe p)(h:0<p.length):0<UE p:=Qcw (j:=p.length-1) (by omega) (Rf ht h)
def Eg(p:Uq):Int:=if Hi p<0 then -((UE p:Nat):Int)else((UE p:Nat):Int)
def Tr(p:Uq):Uq:=A6 p.length λi=>p.getD i 0 / Eg p
def Bm(p:Uq):Uq:=if Hi p<0 then Mq (Tr p)else Tr p
theorem Qc9(p:Uq)(j:Nat):Eg p∣p.getD j 0:=by
 unfold Eg
 split
 ·exact Ug.2 (uE p j)
 ·exact uE p j
theorem Qin{p:Uq}(ht:Fe p)(h:0<p.length):Eg p≠0:=by
 have:=uA ht h;unfold Eg
 split <;> omega
theorem qZ{s:Nat}{p:Uq}(h:Bd s p):Fg (Eg p)<=s:=by
 unfold Eg
 split
 ·rw[Hp];exact XX h _
 ·exact XX h _
theorem dM{p:Uq}{c:Int}(hc:c≠0)(hd:∀j,c∣p.getD j 0):ZJ (zp p) (1 / (c:Rat))=zp (A6 p.length λi=>p.getD i 0 / c):=by
 unfold ZJ A6;rw[kM (g:=λi=>p.getD i 0 / c) _ λi _=>?_,Ey,A5];obtain⟨k,hk⟩:=hd i;have hc':(c:Rat)≠0:=λe=>hc (by exact_mod_cast e)
 rw[BK,hk,Jf _ hc,X6];grind
theorem BM{s:Nat}{p:Uq}(h:Bd s p):Bd s (Tr p):=YJ λi _=>Qa (XN _ _) (Fw h i)
theorem TF(p:Uq):(Tr p).length<=p.length:=Od _ _
theorem Qbu{s:Nat}{p:Uq}(h:Bd s p):Bd s (Bm p):=by
 unfold Bm
 split
 ·exact MB (BM h)
 ·exact BM h
theorem bE(p:Uq):(Bm p).length<=p.length:=by
 unfold Bm
 split
 ·exact Qa (Oj _) (TF p)
 ·exact TF p
inductive GRun:Nat->List Int->List Int->List Int->Prop
 |stop (a:List Int):GRun 0 a [] a
 |step {k m:Nat} {a b r g:List Int}:0<b.length->b.length<=1000->Bd 9000000 b->RRun b m a r->r.length<=1000->Bd 9000000 r->Fe r->GRun k b (Tr r) g->GRun (k+1) a b g
theorem GRun.inv{k:Nat}{a b g:Uq}(h:GRun k a b g):(k=0/\b.length=0/\a=g)\/∃j m r,k=j+1/\0<b.length/\b.length<=1000/\Bd 9000000 b/\RRun b m a r/\r.length<=1000/\Bd 9000000 r/\Fe r/\GRun j b (Tr r) g:=by
 cases h with
 |stop=>exact .inl ⟨rfl,rfl,rfl⟩
 |step h1 h2 h3 h4 h5 h6 h7 h8=>exact .inr ⟨_,_,_,rfl,h1,h2,h3,h4,h5,h6,h7,h8⟩
def ZY(k:Nat)(p:Uq):Uq:=List.replicate k 0++p
theorem dE(k:Nat)(p:Uq):(ZY k p).length=k+p.length:=by simp[ZY]
theorem Qbv{s k:Nat}{p:Uq}(h:Bd s p):Bd s (ZY k p):=λz hz=>by
 rcases Qq.1 hz with h1|h1
 ·rw[Zw h1,Nl];exact Qh _
 ·exact h z h1
inductive DRun (b:List Int):Nat->List Int->List Int->List Int->List Int->Prop
 |stop {a q:List Int}:a.length<b.length->DRun b 0 a q q a
 |step {k:Nat} {a q qf r:List Int}:b.length<=a.length->a.length<=1000->Bd 9000000 a->Hi b≠0->Hi b∣Hi a->a.length-b.length<q.length ->
  DRun b k (Ni a (ZY (a.length-b.length) (Fv b (Hi a / Hi b)))) (q.set (a.length-b.length) (Hi a / Hi b)) qf r->DRun b (k+1) a q qf r
theorem DRun.inv{b a q qf r:Uq}{k:Nat}(h:DRun b k a q qf r):(k=0/\q=qf/\a=r/\a.length<b.length)\/∃j,k=j+1/\b.length<=a.length/\a.length<=1000/\Bd 9000000 a/\Hi b≠0/\Hi b∣Hi a/\a.length-b.length<q.length /\
 DRun b j (Ni a (ZY (a.length-b.length) (Fv b (Hi a / Hi b)))) (q.set (a.length-b.length) (Hi a / Hi b)) qf r:=by
 cases h with
 |stop h=>exact .inl ⟨rfl,rfl,rfl,h⟩
 |step h1 h2 h3 h4 h5 h6 h7=>exact .inr ⟨_,rfl,h1,h2,h3,h4,h5,h6,h7⟩
def Nc(l:Ur):Uq:=l.getD (l.length-1) []
inductive LRun:Nat->List (List Int)->List (List Int)->Prop
 |stop {l:List (List Int)}:(Nc l).length<=1->LRun 0 l l
 |step {k m:Nat} {l f:List (List Int)} {g:List Int}:1<(Nc l).length->(Nc l).length<=1000->Fe (Nc l)->Bd 9000000 (Nc l)->Bd 9000000 (Gv (Nc l))->GRun m (Tr (Nc l)) (Tr (Gv (Nc l))) g->l.length<=1000->LRun k (l++[g]) f->LRun (k+1) l f
theorem LRun.inv{k:Nat}{l f:Ur}(h:LRun k l f):(k=0/\l=f/\(Nc l).length<=1)\/∃j m g,k=j+1/\1<(Nc l).length/\(Nc l).length<=1000/\Fe (Nc l)/\Bd 9000000 (Nc l)/\Bd 9000000 (Gv (Nc l))/\GRun m (Tr (Nc l)) (Tr (Gv (Nc l))) g/\l.length<=1000/\LRun j (l++[g]) f:=by
 cases h with
 |stop h=>exact .inl ⟨rfl,rfl,h⟩
 |step h1 h2 h3 h4 h5 h6 h7 h8=>exact .inr ⟨_,_,_,rfl,h1,h2,h3,h4,h5,h6,h7,h8⟩
def DOk(a b q:Uq):Prop:=0<b.length/\b.length<=1000/\a.length<=1000/\Bd 9000000 b/\∃qf r n,Bd 9000000 qf/\qf.length<=1000/\DRun b n a (List.replicate (a.length+1-b.length) 0) qf r/\q=trim qf
theorem DOk.bd{a b q:Uq}(h:DOk a b q):Bd 9000000 q:=by
 obtain⟨_,_,_,_,qf,r,n,h1,_,_,rfl⟩:=h;exact Tz h1
theorem DOk.len{a b q:Uq}(h:DOk a b q):q.length<=1000:=by
 obtain⟨_,_,_,_,qf,r,n,_,h1,_,rfl⟩:=h;exact Qa (Re _) h1
theorem DOk.trim{a b q:Uq}(h:DOk a b q):Fe q:=by
 obtain⟨_,_,_,_,qf,r,n,_,_,_,rfl⟩:=h;exact Rv _
def Qyd(a b c f:Uq):Prop:=∃x y z,DOk a b x/\DOk b c y/\DOk (Tr x) (Tr y) z/\f=Tr z
structure FRun(a:List Int)(m:Nat)(f:Nat->List Int):Prop where
 run:∃n l,LRun n [Tr a] l/\l.length=m+1/\∀k,k<m->Qyd ((l++[[1]]).getD k []) ((l++[[1]]).getD (k+1) []) ((l++[[1]]).getD (k+2) []) (f k)
 small:m<=1000
def AI(f:Nat->Uq)(n:Nat):Ur:=(List.range n).map f
theorem pZ(f:Nat->Uq)(n:Nat):(AI f n).length=n:=by simp[AI]
theorem Qeh(f:Nat->Uq)(n:Nat):AI f (n+1)=AI f n++[f n]:=by simp[AI,We]
theorem Ql9{f:Nat->Uq}{n i:Nat}(h:i<n):(AI f n)[i]? = some (f i):=by simp[AI,X7 h]
theorem bW{l:Ur}{i:Nat}(h:i<l.length):l[i]? = some (l.getD i []):=by
 rw[Qi,Qe h];rfl
def O3(f:Nat->Uq):Nat->Uq
 | 0=>[1]
 |i+1=>Gl (O3 f i) (f i)
def Qyc(m:Nat)(f:Nat->Uq):Prop:=∀i,i<m->Bd 9000000 (O3 f i)/\(O3 f i).length<=1000/\Bd 9000000 (f i)/\(f i).length<=1000
inductive CRun:Nat->List (List Int)->List Int->List (List Int)->Prop
 |stop {l:List (List Int)} {g:List Int}:g.length=0->CRun 0 l g l
 |step {k m:Nat} {l f:List (List Int)} {g r:List Int}:0<g.length->g.length<=1000->Bd 9000000 g->RRun g m (Nc l) r->Fe r->Bd 9000000 r->r.length<=1000->0<l.length->l.length<=1000->CRun k (l++[g]) (Mq (Bm r)) f->CRun (k+1) l g f
theorem CRun.inv{k:Nat}{l f:Ur}{g:Uq}(h:CRun k l g f):(k=0/\l=f/\g.length=0)\/∃j m r,k=j+1/\0<g.length/\g.length<=1000/\Bd 9000000 g/\RRun g m (Nc l) r/\Fe r/\Bd 9000000 r/\r.length<=1000/\0<l.length/\l.length<=1000/\CRun j (l++[g]) (Mq (Bm r)) f:=by
 cases h with
 |stop h=>exact .inl ⟨rfl,rfl,h⟩
 |step h1 h2 h3 h4 h5 h6 h7 h8 h9 h10=>exact .inr ⟨_,_,_,rfl,h1,h2,h3,h4,h5,h6,h7,h8,h9,h10⟩
structure ChRun(a:List Int)(sq:List Int)(c:List (List Int)):Prop where
 fac:∃m f,FRun a m f/\Qyc m f/\sq=O3 f m
 Db:∃n,CRun n [sq] (Bm (Gv sq)) c
 bd:Bd 8000000 sq
 len:sq.length<=1000
 small:c.length<=1000
def Qez(q:Rat)(c:Ur):Prop:=∃sq,ChRun [-q.num,(q.den:Int)] sq c
end Orr
namespace Orr
open Go Go.Proofs Tryz
set_option maxRecDepth 10000
theorem RRun.inv{b a r:Uq}{k:Nat}(h:RRun b k a r):(k=0/\a=r/\a.length<b.length)\/(∃j,k=j+1/\b.length<=a.length/\a.length<=1000/\Bd 9000000 a/\Bd 9000000 b/\RRun b j (sS a b) r):=by
 cases h with
 |stop h=>exact .inl ⟨rfl,rfl,h⟩
 |step h1 h2 h3 h4 h5=>exact .inr ⟨_,rfl,h1,h2,h3,h4,h5⟩
theorem Qra{a b:Uq}(ha:Bd 9000000 a):Fg (AT a b)<=9000000:=by
 unfold AT;split
 ·rw[Hp];exact Fw ha _
 ·exact Fw ha _
theorem Qq4(n:Nat):ri (n:Int)=[nd n,.bool false]:=by
 show [nd n,sg (n:Int)]=_;unfold sg;rw[decide_eq_false (by omega)]
def kW(a b:Uq)(n:Nat):Uq:=(List.range n).map (UQ a b)
theorem Qlh(a b:Uq)(n:Nat):(kW a b n).length=n:=by simp[kW]
theorem xW(a b:Uq)(n:Nat):kW a b (n+1)=kW a b n++[UQ a b n]:=by simp[kW,We]
theorem aH{a0 b res:Uq}{n:Nat}(hb0:0<b.length)(hb1:b.length<=1000)(hbb0:Bd 9000000 b)(hrun:RRun b n a0 res):Un 231 [.one (rp (zp a0)),.one (rp (zp b))] [.one (rp (zp res))]:=by
 have hbl:=qP b;have hle:Fg (((Hi b).natAbs:Nat):Int)<=9000000:=Fw hbb0 _;refine Fz func231 rfl ?_;refine Ui [.r 15 (eI (b:=((b.length-1:Nat):Int)) (by omega)),.x (So (p:=b) (i:=b.length-1) (by omega))] rfl ?_;refine sb [(0,.v (.one (rp (zp a0)))),(1,.v (.one (rp (zp b)))),(5,.v (.one (.ow 0 0))),(6,.v (.one (.ow 1 0)))] [.blk 59 (ri (Hi b)),.blk 59 [nd (Hi b).natAbs,.bool false]] rfl rfl ?_;refine Um (S:=Nat×Uq) 2 (λL1 s=>(0,.v (.one (rp (zp s.2))))::L1) (λ_=>[.blk 59 (ri (Hi b)),.blk 59 [nd (Hi b).natAbs,.bool false]]) (λs=>s.1) (λs=>RRun b s.1 s.2 res) (n,a0) hrun rfl rfl λ⟨k,a⟩ hs=>?_
 have hal:=qP a;have hs:RRun b k a res:=hs;rcases RRun.inv hs with⟨rfl,rfl,h1⟩|⟨j,rfl,h1,h2,ha,hb,hr⟩
 ·exact Uj [.f (decide_eq_false (by dsimp only;omega))] rfl
 obtain⟨K,hK⟩:=nmE (a.length-b.length);have htb:=Qra (b:=b) ha;have cc:=KL (p:=zp (kW a b a.length));rw[Ey,show trim (kW a b a.length)=sS a b from rfl]at cc;refine Ui [.t (decide_eq_true (by dsimp only;omega)),.r 30 (eI (b:=(K:Int)) (by dsimp only;omega)),.r 34 (eI (b:=((a.length-1:Nat):Int)) (by dsimp only;omega)),.x (So (p:=a) (i:=a.length-1) (by omega))] rfl ?_;refine ct 1 (S:=Unit) (λ_=>[(0,.v (.one (rp (zp a)))),(1,.v (.one (rp (zp b)))),(5,.v (.one (.ow 0 0))),(6,.v (.one (.ow 1 0))),(7,.v (.oi K)),(8,.v (.one (.ow 2 0)))]) (λ_=>[.blk 59 (ri (Hi b)),.blk 59 [nd (Hi b).natAbs,.bool false],.blk 59 (ri (AT a b))]) (λ_=>True) rfl ?_ (λ_ _=>?_)
 ·by_cases hn:Hi b<0
  ·have e:AT a b=-(Hi a):=if_pos hn;rw[e];exact go tt [.t (decide_eq_true hn),.k (QF (z:=Hi a))] rfl trivial (rc () trivial rfl)
  ·have e:AT a b=Hi a:=if_neg hn;rw[e];exact go tt [.f (decide_eq_false hn)] rfl trivial (rc () trivial rfl)
 refine Uh [.o 9 61 4] rfl ?_;refine Um (S:=Nat) 4 (λL1 i=>(44,.v (.oi i))::(9,.v (.one (.orow 3 4 none)))::L1) (λi=>[.blk 59 (ri (Hi b)),.blk 59 [nd (Hi b).natAbs,.bool false],.blk 59 (ri (AT a b)),.row false 61 4 (frow (zp (kW a b i)))]) (λi=>a.length-i) (λi=>i<=a.length) 0 (Qh _) rfl rfl λi hi=>?_
 have hfl:=qP (kW a b i);rw[Qlh]at hfl;by_cases h:i<a.length
 ·have cm:=Ae (a:=a.getD i 0) (b:=(((Hi b).natAbs:Nat):Int)) (Qa (Fw ha i) (by decide)) (by omega);have hm:=Gf (a.getD i 0) (((Hi b).natAbs:Nat):Int);have hai:=Fw ha i;rw[Qq4 (Hi b).natAbs]at cm;by_cases hk:K<=i
  ·have hbi:=Fw hb (i-K);have hm2:=Gf (AT a b) (b.getD (i-K) 0);have e:UQ a b i=a.getD i 0*(((Hi b).natAbs:Nat):Int)-AT a b*b.getD (i-K) 0:=by unfold UQ;rw[if_pos (by omega),hK]
   refine go tt [.T,.x (So h),.k cm,.T,.r 62 (eI (b:=((i-K:Nat):Int)) (by omega)),.x (So (p:=b) (i:=i-K) (by omega)),.k (Ae (a:=AT a b) (b:=b.getD (i-K) 0) (by omega) (by omega)),.k (Qgv (by omega) (by omega)),.k (ZO (n:=1) (by decide)),.k (Ad (n:=a.getD i 0*(((Hi b).natAbs:Nat):Int)-AT a b*b.getD (i-K) 0)),.s (sz:=4) (Qdw _)] rfl (by simp[U5,hfl,-List.getD_eq_getElem?_getD] <;> omega) ?_;exact rd (i+1) (by omega) h (by rw[xW,wU,e];rfl)
  ·have e:UQ a b i=a.getD i 0*(((Hi b).natAbs:Nat):Int):=by unfold UQ;rw[if_neg (by omega),Int.sub_zero]
   refine go tt [.T,.x (So h),.k cm,.F,.k (ZO (n:=1) (by decide)),.k (Ad (n:=a.getD i 0*(((Hi b).natAbs:Nat):Int))),.s (sz:=4) (Qdw _)] rfl (by simp[U5,hfl,-List.getD_eq_getElem?_getD] <;> omega) ?_;exact rd (i+1) (by omega) h (by rw[xW,wU,e];rfl)
 ·have e:i=a.length:=by omega
  rw[e];exact go tt [.F,.k cc] rfl trivial (rd (j,sS a b) (by omega) hr rfl)
theorem Qu4:Un 66 [.agg (ri 1),.agg (ri 1)] [.agg (ri 1)]:=Ae (a:=1) (b:=1) (by decide) (by decide)
theorem Qok:Un 106 [.agg (ri 1),.agg (ri 1)] [.agg (ri 1)]:=jP (a:=1) (b:=1) (by decide) (by decide)
theorem Qn1{z:Int}(hz:Fg z<=90000000):Un 66 [.agg (ri z),.agg (ri 1)] [.agg (ri z)]:=by
 have h:=Ae (a:=z) (b:=1) (by omega) (by decide);rwa[Uf]at h
theorem aX{z:Int}(hz:Fg z<=90000000):Un 107 [.agg (ri z),.agg (ri 1)] [.agg (ri z)]:=by
 have h:=CW (a:=z) (b:=1) hz (by decide) (by decide) (Int.emod_one z);rwa[Int.ediv_one]at h
theorem Qf1{z:Int}:Un 186 [.agg (fr (z:Rat))] [.agg (fr ((-z:Int):Rat))]:=by
 have h:=Qur (a:=(z:Rat));rwa[<-Vn]at h
theorem Qw3{c:Int}(hc:c≠0)(hs:Fg c<=9000000):Qs 40000000 (((1:Int):Rat) / (c:Rat)):=by
 have h0:(c:Rat)≠0:=λe=>hc (by exact_mod_cast e)
 rw[<-zA h0];unfold Gn;rw[if_neg (Jh (Dn _) (λe=>hc (by simpa using e)))];refine Qs.divInt (by show Fg (1*1)<=_;decide) ?_ (by decide);show Fg (1*c)<=_;rw[Ks];omega
theorem mO{p:Uq}{c:Int}(hc:c≠0)(hs:Fg c<=9000000)(hd:∀j,c∣p.getD j 0)(hp:Bd 9000000 p)(hl:p.length<=1000):Un 264 [.one (rp (zp p)),.agg (fr (((1:Int):Rat) / (c:Rat)))] [.one (rp (zp (A6 p.length λi=>p.getD i 0 / c)))]:=by
 have h:=CH ((xQ hp (by omega)).mono (by omega)) (Qw3 hc hs) (by rw[A5];omega);rwa[show((1:Int):Rat)=1 from rfl,dM hc hd]at h
theorem QH{p:Uq}(tp:Fe p)(hp:Bd 9000000 p)(hl:p.length<=1000):Un 261 [.one (rp (zp p))] [.agg (fr ((Eg p:Int):Rat)),.one (rp (zp (Tr p)))]:=by
 have hpl:=qP p;rcases Q4 p.length with h0|h0
 ·have e:=Qj h0;subst e;exact Uk func261 rfl [.t rfl,.k Qgu] rfl
 have hc:=Qin tp h0;refine Fz func261 rfl ?_;refine Uh [.F,.k (ZO (n:=1) (by decide))] rfl ?_;refine Um (S:=Nat) 2 (λL1 i=>(16,.v (.oi i))::L1) (λi=>[.blk 61 [.nils,.bool false,.nils,.bool false],.blk 59 (ri 1)]) (λi=>p.length-i) (λi=>i<=p.length) 0 (Qh _) rfl rfl λi hi=>?_
 by_cases h:i<p.length
 ·refine Ui [.T,.x (So h),.k Qu4,.x (So h),.k Qok,.k (aX (z:=1) (by decide))] rfl ?_;exact rd (i+1) (by omega) h rfl
 refine Uh [.F] rfl ?_;clear h hi;refine nlb 2 rfl rfl rfl ?_;rw[Qq5];refine Um (S:=Nat) 3 (λL1 i=>(37,.v (.oi i))::L1) (λi=>[.blk 61 [.nils,.bool false,.nils,.bool false],.blk 59 (ri 1),.blk 59 (ri ((Oa p i:Nat):Int))]) (λi=>p.length-i) (λi=>i<=p.length) 0 (Qh _) rfl rfl λi hi=>?_
 by_cases h:i<p.length
 ·have hb:=Fw hp i;have hg:=XX hp i;refine Ui [.T,.x (So h),.k (Qn1 (z:=p.getD i 0) (by omega)),.x (So h),.k (aX (z:=p.getD i 0) (by omega)),.k (jP (a:=((Oa p i:Nat):Int)) (b:=p.getD i 0) (by omega) (by omega))] rfl ?_;exact rd (i+1) (by omega) h rfl
 have e:i=p.length:=by omega
 rw[e];have co:=KB (n:=1) (by decide);have cs:=mO hc (qZ hp) (Qc9 p) hp hl;by_cases hn:Hi p<0
 ·have e2:Eg p=-((UE p:Nat):Int):=if_pos hn;rw[show(λi=>p.getD i 0 / Eg p)=λi=>p.getD i 0 / Eg p from rfl]at cs;have cn:=Qf1 (z:=((UE p:Nat):Int));rw[<-e2]at cn;exact Uj [.F,.k (Ad (n:=((UE p:Nat):Int))),.r 62 (eI (b:=((p.length-1:Nat):Int)) (by omega)),.x (So (p:=p) (i:=p.length-1) (by omega)),.t (decide_eq_true hn),.k cn,.k co,.k (mA (a:=((1:Int):Rat)) (b:=((Eg p:Int):Rat)) ⟨by decide,by decide⟩ (Aw (by have:=qZ hp;omega) (by decide)) (λe=>hc (by exact_mod_cast e))),.k cs] rfl rfl (by simp[U5];omega)
 ·have e2:Eg p=((UE p:Nat):Int):=if_neg hn;have cm:=Ad (n:=Eg p);rw[e2]at cm cs hc ⊢;exact Uj [.F,.k cm,.r 62 (eI (b:=((p.length-1:Nat):Int)) (by omega)),.x (So (p:=p) (i:=p.length-1) (by omega)),.f (decide_eq_false hn),.k co,.k (mA (a:=((1:Int):Rat)) (b:=((((UE p:Nat):Int):Int):Rat)) ⟨by decide,by decide⟩ (Aw (by have:=XX hp p.length;unfold UE;omega) (by decide)) (λe=>hc (by exact_mod_cast e))),.k cs] rfl (by unfold Tr;rw[e2];rfl) (by simp[U5];omega)
theorem QG{p:Uq}(tp:Fe p)(hp:Bd 9000000 p)(hl:p.length<=1000):Un 285 [.one (rp (zp p))] [.one (rp (zp (Tr p)))] :=
 Uk func285 rfl [.k (QH tp hp hl)] rfl
theorem qX{p:Uq}(tp:Fe p):Eg p<0↔Hi p<0:=by
 unfold Eg;rcases Q4 p.length with h0|h0
 ·have:=Qj h0;subst this;decide
 ·have:=uA tp h0
  split <;> omega
theorem Qg3{p:Uq}(hp:Bd 9000000 p)(hl:p.length<=1000000):Un 230 [.one (rp (zp p))] [.one (rp (zp (Mq p)))]:=by
 have h:=Qg7 ((xQ hp (by decide)).mono (by decide)) (by rw[A5];exact hl);rwa[Qa3]at h
theorem uM{p:Uq}(tp:Fe p)(hp:Bd 9000000 p)(hl:p.length<=1000):Un 228 [.one (rp (zp p))] [.one (rp (zp (Bm p)))]:=by
 by_cases hn:Hi p<0
 ·have e:Bm p=Mq (Tr p):=if_pos hn;rw[e];exact Uk func228 rfl [.k (QH tp hp hl),.t (decide_eq_true ((qX tp).2 hn)),.k (Qg3 (BM hp) (Qa (TF p) (by omega)))] rfl
 ·have e:Bm p=Tr p:=if_neg hn;rw[e];exact Uk func228 rfl [.k (QH tp hp hl),.f (decide_eq_false λh=>hn ((qX tp).1 h))] rfl
end Orr
namespace Orr
section
variable{x d:Int}(hd:0<d)(hg:Int.gcd x d=1)(hx:Fg x<=2000000)(hs:Fg d<=2000000)
include hd in
include hd in
include hd in
include hd hx hs in
include hd hx hs in
include hd hx hs in
include hd hg hx hs in
include hd hg hx hs in
end
end Orr
namespace Orr
open Go Go.Proofs Tryz
set_option maxRecDepth 10000
theorem Qu6{a b g:Uq}{n:Nat}(ta:Fe a)(tb:Fe b)(ha:Bd 9000000 a)(hb:Bd 9000000 b)(la:a.length<=1000)(lb:b.length<=1000)(hrun:GRun n (Tr a) (Tr b) g):Un 286 [.one (rp (zp a)),.one (rp (zp b))] [.one (rp (zp g))]:=by
 refine Fz func286 rfl ?_;refine Uh [.k (QG ta ha la),.k (QG tb hb lb)] rfl ?_;refine sb [(0,.v (.one (rp (zp (Tr a))))),(1,.v (.one (rp (zp (Tr b)))))] [] rfl rfl ?_;refine Um (S:=Nat×Uq×Uq) 0 (λL1 s=>(0,.v (.one (rp (zp s.2.1))))::(1,.v (.one (rp (zp s.2.2))))::L1) (λ_=>[]) (λs=>s.1) (λs=>GRun s.1 s.2.1 s.2.2 g) (n,Tr a,Tr b) hrun rfl rfl λ⟨k,x,y⟩ hs=>?_
 have hs:GRun k x y g:=hs;have hyl:=qP y;rcases hs.inv with⟨hk,hy0,hxg⟩|⟨j,m2,r,hk,hy0,hy1,hyb,hrr,hrl,hrb,hrt,hgr⟩
 ·rw[<-hxg];exact Uj [.f (decide_eq_false (by dsimp only;omega))] rfl
 ·subst hk;refine Uh [.t (decide_eq_true (by dsimp only;omega)),.k (aH (a0:=x) (b:=y) (res:=r) hy0 hy1 hyb hrr),.k (QG (p:=r) hrt hrb hrl)] rfl ?_;exact rd (j,y,Tr r) (by dsimp only;omega) hgr rfl
theorem Qn4{x y:Int}(hx:Fg x<=9000000)(hy:Fg y<=9000000)(h0:y≠0)(hd:y∣x):Un 289 [.agg (fr (x:Rat)),.agg (fr (y:Rat))] [.agg (fr ((x / y:Int):Rat))]:=by
 have hy0:(y:Rat)≠0:=λe=>h0 (by exact_mod_cast e)
 have h:=mA (Aw (s:=40000000) (z:=x) (by omega) (by omega)) (Aw (s:=40000000) (z:=y) (by omega) (by omega)) hy0;obtain⟨k,rfl⟩:=hd;rw[Jf _ h0];rwa[show(((y*k:Int):Rat)) / (y:Rat)=(k:Rat) by rw[X6];grind]at h
theorem Qcq{p:Uq}{c:Int}(hp:Bd 40000000 p)(hc:Fg c<=40000000)(hl:p.length<=1000000):Un 264 [.one (rp (zp p)),.agg (fr (c:Rat))] [.one (rp (zp (Fv p c)))]:=by
 have h:=CH (xQ hp (by omega)) (Aw hc (by omega)) (by rw[A5];exact hl);rwa[xK]at h
theorem Qrk(k:Nat)(p:Uq):frow (zp (List.replicate k 0))++frow (zp p)=frow (zp (ZY k p)):=by simp[zp,ZY,frow]
theorem Qdc(l:Uq)(i:Nat)(z:Int):(frow (zp l)).set i [nd ((z:Rat)).num.natAbs,sg ((z:Rat)).num,nd (((z:Rat)).den:Int).natAbs,sg (((z:Rat)).den:Int)]=frow (zp (l.set i z)):=gJ l i z
theorem Qot{p q:Uq}(hp:Bd 18000000 p)(hq:Bd 18000000 q)(hlp:p.length<=1000000)(hlq:q.length<=1000000):U8 prog 188 [.one (rp (zp p)),.one (.orow 0 4 none)] [.row false 61 4 (frow (zp q))] [.one (rp (zp (Ni p q)))] [.gone]:=by
 have hn:=Qg7 ((xQ hq (by decide)).mono (by decide)) (by rw[A5];exact hlq);have ha:=Qu5 (p:=zp p) (q:=kV (zp q)) ((xQ hp (by decide)).mono (by decide)) ((Qw5 (xQ hq (by decide))).mono (by decide)) (by rw[A5];exact hlp) (Qa (Qlb _) (by rw[A5];exact hlq));have e:Qd5 (zp p) (kV (zp q))=zp (Ni p q):=Qq9 p q;rw[e]at ha;refine Fz func188 rfl ?_;exact Ul [] [0] [.k hn,.k ha] rfl
theorem Qcr{a0 b qf rem:Uq}{n:Nat}(hb0:0<b.length)(hb1:b.length<=1000)(hl0:a0.length<=1000)(hbb:Bd 9000000 b)(hqb:Bd 9000000 qf)(hrun:DRun b n a0 (List.replicate (a0.length+1-b.length) 0) qf rem):Un 287 [.one (rp (zp a0)),.one (rp (zp b))] [.one (rp (zp (trim qf))),.one (rp (zp rem))]:=by
 have h0l:=qP a0;have hbl:=qP b;obtain⟨N,hN⟩:=nmE (a0.length+1-b.length);rw[<-hN]at hrun;have cc:=KL (p:=zp qf);rw[Ey]at cc;refine Fz func287 rfl ?_;refine Ui [.r 18 (eI (b:=(N:Int)) (by omega)),.i N,.i N,.r 21 (eI (b:=(N:Int)) (by simp))] rfl ?_;refine Um (S:=Nat) 1 (λL1 i=>(22,.v (.oi i))::L1) (λi=>[.row false 61 4 (List.replicate i (fr 0)++List.replicate (N-i) zR)]) (λi=>N-i) (λi=>i<=N) 0 (Qh _) rfl rfl λi hi=>?_
 by_cases hlt:i<N
 ·refine Ui [.T,.k Qgu,.i i] rfl ?_;rw[yF hlt];exact rd (i+1) (by omega) hlt rfl
 have hiN:i=N:=by omega
 rw[hiN,IV];clear hiN hlt hi;refine Uh [.F] rfl ?_;refine sb [(0,.v (.one (rp (zp a0)))),(1,.v (.one (rp (zp b)))),(6,.v (.one (.orow 0 4 none)))] [.row false 61 4 (frow (zp (List.replicate N 0)))] rfl rfl ?_;refine Um (S:=Nat×Uq×Uq) 1 (λL1 s=>(0,.v (.one (rp (zp s.2.1))))::L1) (λs=>[.row false 61 4 (frow (zp s.2.2))]) (λs=>s.1) (λs=>DRun b s.1 s.2.1 s.2.2 qf rem/\s.2.2.length=N) (n,a0,List.replicate N 0) ⟨hrun,Jg⟩ rfl rfl λ⟨k,a,q⟩ ⟨hr0,hr1⟩=>?_
 have hr0:DRun b k a q qf rem:=hr0;have hr1:q.length=N:=hr1;have hal:=qP a;have hql:=qP q;rcases hr0.inv with⟨hk,hqf,har,hlt⟩|⟨j,hk,hba,hal2,hab,hpb,hpd,hkq,hrj⟩
 ·subst hqf;subst har;exact Uj [.f (decide_eq_false (by dsimp only;omega)),.k cc] rfl
 subst hk;obtain⟨K,hK⟩:=nmE (a.length-b.length);rw[<-hK]at hrj hkq;have hla:Fg (Hi a)<=9000000:=Fw hab _;have hlb:Fg (Hi b)<=9000000:=Fw hbb _;obtain⟨c,hc⟩:=nmE (Hi a / Hi b);have cq:=Qn4 hla hlb hpb hpd;have hcs:Fg (Hi a / Hi b)<=9000000:=Qa (XN _ _) hla;rw[<-hc]at cq hcs hrj;have hsl:=Fp b c;have hqs:∀x,(q.set K x).length=N:=λx=>by rw[Xf];exact hr1
 dsimp only;refine go tt [.T,.r 39 (eI (b:=(K:Int)) (by omega)),.r 43 (eI (b:=((a.length-1:Nat):Int)) (by omega)),.x (So (p:=a) (i:=a.length-1) (by omega)),.r 49 (eI (b:=((b.length-1:Nat):Int)) (by omega)),.x (So (p:=b) (i:=b.length-1) (by omega)),.k cq,.i K,.i K,.i K,.r 60 (eI (b:=(K:Int)) (by simp))] rfl (by simp[U5,hql] <;> omega) ?_;rw[Qdc];refine Um (S:=Nat) 3 (λL1 i=>(61,.v (.oi i))::L1) (λi=>[.row false 61 4 (frow (zp (q.set K c))),.blk 61 (fr (c:Rat)),.row false 61 4 (List.replicate i (fr 0)++List.replicate (K-i) zR)]) (λi=>K-i) (λi=>i<=K) 0 (Qh _) rfl rfl λi hi=>?_
 by_cases hlt:i<K
 ·refine Ui [.T,.k Qgu,.i i] rfl ?_;rw[yF hlt];exact rd (i+1) (by omega) hlt rfl
 have hiK:i=K:=by omega
 rw[hiK,IV];clear hiK hlt hi;have hzl:=qP (List.replicate K 0);rw[Jg]at hzl;have hpl:=qP (Fv b c);refine Uh [.F] rfl ?_;refine sb [(10,.v (.one (.orow 2 4 none))),(9,.v (.one (.ow 1 0))),(0,.v (.one (rp (zp a)))),(1,.v (.one (rp (zp b)))),(6,.v (.one (.orow 0 4 none)))] [.row false 61 4 (frow (zp (q.set K c))),.blk 61 (fr (c:Rat)),.row false 61 4 (frow (zp (List.replicate K 0)))] rfl rfl ?_;have p2:=Qot (p:=a) (q:=ZY K (Fv b c)) (U7 hab (by decide)) (U7 (Qbv (Gj hbb hcs)) (by decide)) (by omega) (by rw[dE];omega);rw[<-Qrk]at p2;refine go tt [.k (Qcq (c:=c) (U7 hbb (by decide)) (by omega) (by omega)),.s (sz:=4) (Qdb (zp (Fv b c))),.c [2] p2] rfl (by simp[U5,hzl,hpl];omega) ?_;exact rd (j,Ni a (ZY K (Fv b c)),q.set K c) (by dsimp only;omega) ⟨hrj,hqs c⟩ rfl
def pM(l:Ur):Uw:=l.map λp=>[rp (zp p)]
theorem VB(l:Ur):(pM l).length=l.length:=by simp[pM]
theorem HN(l:Ur)(g:Uq):pM l++[[rp (zp g)]]=pM (l++[g]):=by simp[pM]
theorem VN{l:Ur}{i:Nat}(h:i<l.length):(pM l)[i]? = some [rp (zp (l.getD i []))]:=Hm (bW h)
theorem Qqh(x:LV):∀c∈[[x]],c.length=1:=λc hc=>by rw[Ql.1 hc];rfl
theorem CG{a b q:Uq}(h:DOk a b q):∃r,Un 287 [.one (rp (zp a)),.one (rp (zp b))] [.one (rp (zp q)),.one (rp (zp r))]:=by
 obtain⟨h1,h2,h3,h4,qf,r,n,h5,h6,h7,rfl⟩:=h;exact⟨r,Qcr h1 h2 h3 h4 h5 h7⟩
theorem nW{a:Uq}{mf:Nat}{f:Nat->Uq}(ta:Fe a)(ha:Bd 9000000 a)(la:a.length<=1000)(h2:2<=a.length)(hF:FRun a mf f):Un 259 [.one (rp (zp a))] [.one (.row (pM (AI f mf)))]:=by
 obtain⟨⟨n,ls,hrun,hlen,hq⟩,hms⟩:=hF;have hal:=qP a;refine Fz func259 rfl ?_;refine Uh [.F,.k (QG ta ha la),.o 3 171 1,.lo] rfl ?_;refine sb [(3,.v (.one (.orow 0 1 none))),(4,.v (.one (.orow 1 1 none)))] [.row false 171 1 [],.row false 171 1 (pM [Tr a])] rfl rfl ?_;refine Um (S:=Nat×Ur) 2 (λL1 s=>(4,.v (.one (.orow 1 1 none)))::L1) (λs=>[.row false 171 1 [],.row false 171 1 (pM s.2)]) (λs=>s.1) (λs=>LRun s.1 s.2 ls/\0<s.2.length/\s.2.length<=1001) (n,[Tr a]) ⟨hrun,by show 0<1;decide,by show 1<=1001;decide⟩ rfl rfl λ⟨k,l⟩ ⟨hs1,hs2,hs3⟩=>?_
 have hs1:LRun k l ls:=hs1;have hs2:0<l.length:=hs2;have hs3:l.length<=1001:=hs3;have hll:=VB l;have hlast:(pM l)[l.length-1]? = some [rp (zp (Nc l))]:=VN (by omega);have hpl:=qP (Nc l);dsimp only;rcases hs1.inv with⟨hk,hlf,hl1⟩|⟨j,m2,g,hk,hg1,hg2,hg3,hg4,hg5,hg6,hg7,hlr⟩
 ·have hlm:l.length=mf+1:=by rw[hlf];exact hlen
  rw[<-hlf]at hq;have hl2:=VB (l++[[1]]);have hl3:(l++[[1]]).length=mf+2:=by simp[hlm]
  refine go tt [.r 23 (eI (b:=((l.length-1:Nat):Int)) (by omega)),.i (l.length-1),.x hlast,.F,.k Qg8,.s (sz:=1) (Qqh _)] rfl (by simp[U5,hll];omega) ?_;rw[HN];refine Um (S:=Nat) 2 (λL1 i=>(6,.v (.oi i))::(3,.v (.one (.orow 0 1 none)))::L1) (λi=>[.row false 171 1 (pM (AI f i)),.row false 171 1 (pM (l++[[1]]))]) (λi=>mf-i) (λi=>i<=mf) 0 (Qh _) rfl rfl λi hi=>?_
  have htl:=VB (AI f i);rw[pZ]at htl;by_cases h:i<mf
  ·obtain⟨x,y,z,hx,hy,hz,hf⟩:=hq i h;obtain⟨rx,hdx⟩:=CG hx;obtain⟨ry,hdy⟩:=CG hy;obtain⟨rz,hdz⟩:=CG hz;refine go tt [.T,.i i,.x (VN (by omega)),.i (i+1),.x (VN (by omega)),.k hdx,.i (i+1),.x (VN (by omega)),.i (i+2),.x (VN (by omega)),.k hdy,.k (QG hx.trim hx.bd hx.len),.k (QG hy.trim hy.bd hy.len),.k hdz,.k (QG hz.trim hz.bd hz.len),.s (sz:=1) (Qqh _)] rfl (by simp[U5,hl2,htl];omega) ?_;exact rd (i+1) (by omega) h (by rw[HN,Qeh,hf];rfl)
  ·have e:i=mf:=by omega
   rw[e];exact Uj [.F] rfl rfl (by simp[U5];omega)
 ·subst hk;refine go tt [.r 23 (eI (b:=((l.length-1:Nat):Int)) (by omega)),.i (l.length-1),.x hlast,.T,.r 31 (eI (b:=((l.length-1:Nat):Int)) (by omega)),.i (l.length-1),.x hlast,.k (Qg6 (U7 hg4 (by decide)) (by omega)),.k (Qu6 hg3 (Fy _ _) hg4 hg5 hg2 (Qa (Mn _) (by omega)) hg6),.s (sz:=1) (Qqh _)] rfl (by simp[U5,hll];omega) ?_;exact rd (j,l++[g]) (by dsimp only;omega) ⟨hlr,by simp,by simp;omega⟩ (by rw[HN];rfl)
theorem Qcs{a:Uq}{mf:Nat}{f:Nat->Uq}(ta:Fe a)(ha:Bd 9000000 a)(la:a.length<=1000)(h2:2<=a.length)(hF:FRun a mf f)(hP:Qyc mf f):Un 227 [.one (rp (zp a))] [.one (rp (zp (O3 f mf)))]:=by
 have hms:=hF.small;have hal:=qP a;have htl:=VB (AI f mf);rw[pZ]at htl;refine Fz func227 rfl ?_;refine Uh [.F,.k Qg8,.k (nW ta ha la h2 hF)] rfl ?_;refine Um (S:=Nat) 0 (λL1 i=>(15,.v (.oi i))::(3,.v (.one (rp (zp (O3 f i)))))::L1) (λ_=>[]) (λi=>mf-i) (λi=>i<=mf) 0 (Qh _) rfl rfl λi hi=>?_
 by_cases h:i<mf
 ·obtain⟨g1,g2,g3,g4⟩:=hP i h;refine Ui [.T,.x (Hm (f:=λp=>[rp (zp p)]) (Ql9 h)),.k (Qu7 (p:=O3 f i) (q:=f i) (by omega) (by omega) g1 g3 (by decide))] rfl ?_;exact rd (i+1) (by omega) h rfl
 ·have e:i=mf:=by omega
  rw[e];exact Uj [.F] rfl
theorem Qdl{l:Ur}(g:Uq)(h:0<l.length):(pM l++[[rp (zp g)]])[l.length-1]? = some [rp (zp (Nc l))]:=by
 rw[Zj (by rw[VB];omega)];exact VN (by omega)
theorem Qg5{a sq:Uq}{c:Ur}(ta:Fe a)(ha:Bd 9000000 a)(la:a.length<=1000)(h2:2<=a.length)(hC:ChRun a sq c):Un 187 [.one (rp (zp a))] [.one (.row (pM c))]:=by
 obtain⟨⟨mf,f,hF,hP,rfl⟩,⟨n,hcr⟩,hbd,hle,hsm⟩:=hC;refine Fz func187 rfl ?_;refine Uh [.k (Qcs ta ha la h2 hF hP),.lo,.k (Qg6 (p:=O3 f mf) (U7 hbd (by decide)) (by omega)),.k (uM (p:=Gv (O3 f mf)) (Fy _ _) (U7 (jV (t:=10) hbd (by omega)) (by decide)) (Qa (Mn _) (by omega)))] rfl ?_;refine sb [(5,.v (.one (rp (zp (Bm (Gv (O3 f mf))))))),(4,.v (.one (.orow 0 1 none)))] [.row false 171 1 (pM [O3 f mf])] rfl rfl ?_;refine Um (S:=Nat×Ur×Uq) 1 (λL1 s=>(5,.v (.one (rp (zp s.2.2))))::(4,.v (.one (.orow 0 1 none)))::L1) (λs=>[.row false 171 1 (pM s.2.1)]) (λs=>s.1) (λs=>CRun s.1 s.2.1 s.2.2 c/\0<s.2.1.length/\s.2.1.length<=1001) (n,[O3 f mf],Bm (Gv (O3 f mf))) ⟨hcr,by show 0<1;decide,by show 1<=1001;decide⟩ rfl rfl λ⟨k,l,g⟩ ⟨hs1,hs2,hs3⟩=>?_
 have hs1:CRun k l g c:=hs1;have hs2:0<l.length:=hs2;have hs3:l.length<=1001:=hs3;have hll:=VB l;have hgl:=qP g;dsimp only;rcases hs1.inv with⟨hk,hlf,hg0⟩|⟨j,m2,r,hk,hg1,hg2,hg3,hrr,hrt,hrb,hrl,hl0,hl1,hcj⟩
 ·subst hlf;exact Uj [.F] rfl
 ·subst hk;refine go tt [.T,.s (sz:=1) (Qqh _),.r 23 (eI (b:=((l.length-1:Nat):Int)) (by simp;omega)),.i (l.length-1),.x (Qdl g hl0),.k (aH (a0:=Nc l) (b:=g) (res:=r) hg1 hg2 hg3 hrr),.k (uM (p:=r) hrt hrb hrl),.k (Qg3 (p:=Bm r) (Qbu hrb) (Qa (bE r) (by omega)))] rfl (by simp[U5,hll];omega) ?_;exact rd (j,l++[g],Mq (Bm r)) (by dsimp only;omega) ⟨hcj,by simp,by simp;omega⟩ (by rw[HN];rfl)
theorem Qyi{q:Rat}(h1:Fg q.num<=2000000)(h2:Fg (q.den:Int)<=2000000):Bd 9000000 [-q.num,(q.den:Int)]:=λz hz=>by
 simp only[Qm,Xl,or_false]at hz;rcases hz with rfl|rfl
 ·rw[Hp];omega
 ·omega
abbrev aq(q:Rat)(c:Ur):Uv:=[rp (zp [-q.num,(q.den:Int)]),.row (pM c)]++fr q++fr q
theorem uP{q:Rat}{c:Ur}(hq:Qs 2000000 q)(hC:Qez q c):Un 147 [.agg (fr q)] [.agg (aq q c)]:=by
 obtain⟨sq,hch⟩:=hC;have co:=ZO (n:=1) (by decide);exact Uk func147 rfl [.k co,.k (Ad (n:=q.num)),.k (Qf1 (z:=q.num)),.k co,.k (Ad (n:=(q.den:Int))),.k (Qg5 (a:=[-q.num,(q.den:Int)]) (Qbi q) (Qyi hq.1 hq.2) (by show 2<=1000;decide) (Qk 2) hch)] rfl
end Orr
namespace Orr
end Orr
namespace Orr
open Go Go.Proofs Tryz
set_option maxRecDepth 10000
structure Rs(k:Crv):Prop where
 n:YZ k
 c:Cs 100000 16 k



theorem Qp1(l:Us)(n:Nat):(lm l).take (min l.length n)=lm (l.take n):=by
 rw[lm,lm,<-Jw];rcases Nat.le_total l.length n with h|h
 ·rw[Zx h,Q7,Qn h]
 ·rw[V5 h]
theorem Qu2{l:Us}{n:Nat}(hn:n<=1000):Un 190 [.one (.row (lm l)),.oi n] [.one (.row (lm (l.take n)))]:=by
 rw[<-Qp1];have hll:(lm l).length=l.length:=by simp[lm]
 exact Uk func190 rfl [.r 9 (eI (b:=((min l.length n:Nat):Int)) (by omega)),.i (min l.length n)] rfl rfl (by simp[U5,hll];omega)
def Is(l:List RawInt):Uw:=l.map Ed
theorem O8(l:List RawInt):(Is l).length=l.length:=by simp[Is]
abbrev rcw(z:RawPt):Uv:=[.row (Is z.x),.row (Is z.y),.bool z.d.b,.row (lm z.d.l)]
theorem UB{z:RawInt}(hz:z.Ok){most:Int}(hm:0<=most/\most<=999):Un 152 [.agg (Ed z),.oi most] [.agg (Hg (H8 most z))]:=by
 obtain⟨b,l⟩:=z;have hb:=WG hm.1 ⟨b,l⟩;have hs:Fg (H8 most ⟨b,l⟩)<=100000000:=Qa (S6.2 (show(H8 most ⟨b,l⟩).natAbs<2^10 by omega)) (by decide);cases l with
 |nil=>exact Uk func152 rfl [.t rfl] rfl (by simp[H8,Lo]) trivial
 |
  cons u l =>
  have hu:=hz.u u (Qy ..);have co:=ZO (n:=H8 most ⟨b,u::l⟩) (by omega);have ct:=Quy hs;have hr:Int.tmod (u:Int) (most+1)=(u:Int) % (most+1):=Y5 (by omega);have h1:=Yf (u:Int) (b:=most+1) (by omega);have h2:=Jt (u:Int) (b:=most+1) (by omega);cases b with
  |
   true =>
   rw[show H8 most ⟨true,u::l⟩=-((u:Int) % (most+1)) from rfl]at co ct ⊢;exact Uk func152 rfl [.f (decide_eq_false (by simp[lm];try omega)),.x (l:=lm (u::l)) (i:=0) (xs:=[.int .u32 (u:Int)]) rfl,.r 18 (eI hr),.t rfl,.k co,.k ct] rfl rfl (by simp[U5];omega)
  |
   false =>
   rw[show H8 most ⟨false,u::l⟩=(u:Int) % (most+1) from rfl]at co ct ⊢;exact Uk func152 rfl [.f (decide_eq_false (by simp[lm];try omega)),.x (l:=lm (u::l)) (i:=0) (xs:=[.int .u32 (u:Int)]) rfl,.r 18 (eI hr),.f rfl,.k co,.k ct] rfl rfl (by simp[U5];omega)
theorem oz2{P:Program}[Mo P]{n:Nat}{Q:Exit->Sg->Ux->Prop}{L L':Sg}{B B':Ux}(d off T sz:Nat){it:List It}(hs:Ro it=true)(h:dX (P:=P) d L B [.oc d off T sz]=some (L',B',[],[]))(k:AK P n Q it L' B'):AK P n Q it L B:=AK.sub (AQ h EqOk.nil) hs k
theorem pz{P:Program}[Mo P]{n:Nat}{Q:Exit->Sg->Ux->Prop}{L L':Sg}{B B':Ux}(i:Nat){it:List It}(hs:Ro it=true)(h:Qd3 [i] L B=some (L',B'))(k:AK P n Q it L' B'):AK P n Q it L B:=AK.sub (GM h) hs k
def Ap(l:Uq):Uw:=l.map Hg
theorem zQ(l:Uq):(Ap l).length=l.length:=by simp[Ap]
theorem TS{most:Int}{l:List RawInt}{i:Nat}{a:RawInt}(hi:i<3)(h:l[i]? = some a):Ap (Gu most (l.take (i+1)))=Ap (Gu most (l.take i))++[Hg (H8 most a)]:=by
 rw[yA hi h];simp[Ap]
theorem yL{most:Int}{l:List RawInt}{i:Nat}(hi:i<=3)(h:i<=l.length):(Ap (Gu most (l.take i))).length=i:=by
 rw[zQ];unfold Gu;rw[List.length_map,List.length_take,List.length_take];omega
def rwq(z:RawPt):Uv:=rcw z++[.int .i64 z.id]
end Orr
namespace Orr
open Go Go.Proofs Tryz Orq
set_option maxRecDepth 10000
end Orr
namespace Orr
open Go Go.Proofs Tryz
set_option maxRecDepth 10000
theorem Cs.up{s n s' n':Nat}{k:Crv}(h:Cs s n k)(hs:s<=s')(hn:n<=n'):Cs s' n' k:=⟨U7 h.x hs,U7 h.y hs,Qa h.d hs,Qa h.lx hn,Qa h.ly hn⟩
end Orr
namespace Orr
open Go Go.Proofs Tryz Orq
set_option maxRecDepth 10000


theorem CY{c:Cr}{l l':List Pt}{r1:Uw×Uw}{ws:List Wt}(hc:CrOk c)(hl:∀p∈l',Sc p.c)(hn:l'.length≤1000)(h:Tp c.l c.now (Ga (SD l' c.now))=some ws) :
 U8 prog 397 [.one (.ow 0 0),.agg [pts l'],.oi 0] [.blk 199 (Tu c (U4 l) r1)] [.oi 0] [.blk 199 (Tu ⟨c.now,ws,c.ev⟩ (U4 l') (mS l' c.now))]:=by
 have hB:=mJ hl hn;have cn:=nZ (T:=199) (c:=c) (r0:=U4 l') (r1:=r1) hc.n;have cb:=OU (c:=c) (r1:=r1) hl hn hc.n;have cg:=Qcg (T:=199) (r0:=U4 l') (r1:=mS l' c.now) hc hc.n (I9 hc.n) (J5 0) (hB.p _ hc.n) (hB.n _ hc.n) h;refine Fz func397 rfl ?_;exact Ul [] [0] [.f rfl,.c [0] cn,.c [0] cb,.c [0] cg] rfl
theorem Qof{lx ly:Uw}{px py:Uq}{x y:LV}{d id:Int}{c:Cr}{l:List Pt}{r1:Uw×Uw}{ws:List Wt}(hx:IsInts lx px)(hy:IsInts ly py)(hd:Gi x y d)(hk:Cs 4294967294 1073741824 (Crv.mk px py d))(hll:l.length<=900)
 (he:WL l ⟨Crv.norm (Crv.mk px py d),id⟩=0) (hc:CrOk c) (hl:∀p∈put l ⟨Crv.norm (Crv.mk px py d),id⟩,Sc p.c) (hn:(put l ⟨Crv.norm (Crv.mk px py d),id⟩).length≤1000) (h:Tp c.l c.now (Ga (SD (put l ⟨Crv.norm (Crv.mk px py d),id⟩) c.now))=some ws) :
 U8 prog 395 [.one (.ow 0 0),.agg [.row lx,.row ly,x,y,.int .i64 id]] [.blk 199 (Tu c (U4 l) r1)] [.oi 0] [.blk 199 (Tu ⟨c.now,ws,c.ev⟩ (U4 (put l ⟨Crv.norm (Crv.mk px py d),id⟩)) (mS (put l ⟨Crv.norm (Crv.mk px py d),id⟩) c.now))]:=by
 have cp:=uW (l:=l) (id:=id) hx hy hd hk (by omega);rw[if_pos he,he]at cp;have cw:=CY (l:=l) (r1:=r1) hc hl hn h;refine Fz func395 rfl ?_;obtain⟨b,l',rfl,rfl,_⟩:=hd;exact Ul [] [0] [.k cp,.c [0] cw] rfl
theorem Qgn{lx ly:Uw}{px py:Uq}{x y:LV}{d id:Int}{c:Cr}{l l':List Pt}{r1:Uw×Uw}{ws:List Wt}(hx:IsInts lx px)(hy:IsInts ly py)(hd:Gi x y d)(hk:Cs 4294967294 1073741824 (Crv.mk px py d))(hll:l.length<=1000)(h:has l id=true)(hc:CrOk c)
 (hl':l'=l.set (Tc l id) (Pt.mk (Crv.norm (Crv.mk px py d)) id)) (hs:∀p∈l',Sc p.c) (hw:Tp c.l c.now (Ga (SD l' c.now))=some ws) :
 U8 prog 396 [.one (.ow 0 0),.agg [.row lx,.row ly,x,y,.int .i64 id]] [.blk 199 (Tu c (U4 l) r1)] [.oi 0] [.blk 199 (Tu ⟨c.now,ws,c.ev⟩ (U4 l') (mS l' c.now))]:=by
 have ct1:=UN (l:=l) hx hy hd hk (by omega) h;rw[<-hl']at ct1;have cw:=CY (c:=c) (l:=l) (l':=l') (r1:=r1) hc hs (by rw[hl',Xf];omega) hw;obtain⟨b,r,rfl,rfl,_⟩:=hd;refine Fz func396 rfl ?_;exact Ul [] [0] [.k ct1,.c [0] cw] rfl
theorem Qgm{id:Int}{c:Cr}{l l':List Pt}{r1:Uw×Uw}{ws:List Wt}(hll:l.length<=1000)(h:has l id=true)(hc:CrOk c)
 (hl':l'=l.take (Tc l id)++l.drop (Tc l id+1)) (hs:∀p∈l',Sc p.c) (hw:Tp c.l c.now (Ga (SD l' c.now))=some ws) :
 U8 prog 394 [.one (.ow 0 0),.oi id] [.blk 199 (Tu c (U4 l) r1)] [.oi 0] [.blk 199 (Tu ⟨c.now,ws,c.ev⟩ (U4 l') (mS l' c.now))]:=by
 have ct1:=UP (l:=l) (id:=id) (by omega) h;rw[<-hl']at ct1;have cw:=CY (c:=c) (l:=l) (l':=l') (r1:=r1) hc hs (by rw[hl',Qu,Qr,Q9];omega) hw;refine Fz func394 rfl ?_;exact Ul [] [0] [.k ct1,.c [0] cw] rfl
theorem Qci{c:Cr}{r0:Uw}{r1:Uw×Uw}:U8 prog 52 [.one (.ow 0 0)] [.blk 199 (Tu c r0 r1)] [.one (.ow 1 0)] [.blk 199 (Tu c r0 r1),.blk 199 (Tu c r0 r1)]:=by
 refine Fz func52 rfl ?_;exact Ul [] [0,1] [] rfl
end Orr
namespace Orq
open Orr Go
def p3j(W:List Pt)(x:Pt)(i j:Nat):List P3:=C0 i W++(Ra j (W.drop (i+1))).map (λm=>(x,m))
def zU(W:List Pt)(x y:Pt)(i j k:Nat):List P3:=C0 i W++(Ra j (W.drop (i+1))++(((W.drop (i+1)).drop (j+1)).take k).map (λz=>(y,z))).map (λm=>(x,m))
theorem EG(W:List Pt)(x:Pt)(i:Nat):p3j W x i 0=C0 i W:=by simp[p3j,Ra]
theorem ER(W:List Pt)(x y:Pt)(i j:Nat):zU W x y i j 0=p3j W x i j:=by simp[zU,p3j]
theorem EH{W:List Pt}{x y z:Pt}{i j k:Nat}(h:((W.drop (i+1)).drop (j+1))[k]? = some z):zU W x y i j (k+1)=zU W x y i j k++[(x,y,z)]:=by
 unfold zU;rw[Z3,h];simp
theorem vS{W:List Pt}{x y:Pt}{i j k:Nat}(hy:(W.drop (i+1))[j]? = some y)(hk:((W.drop (i+1)).drop (j+1)).length<=k):zU W x y i j k=p3j W x i (j+1):=by
 unfold zU p3j;rw[Qn hk,Lq _ j y hy]
theorem vT{W:List Pt}{x:Pt}{i j:Nat}(hx:W[i]? = some x)(hj:j=(W.drop (i+1)).length):p3j W x i j=C0 (i+1) W:=by
 unfold p3j;rw[hj,VR W i x hx];rfl
theorem Qbh{W:List Pt}{i:Nat}(h:i=W.length):C0 i W=Hx W:=by rw[h];rfl
def p4j(W:List Pt)(x:Pt)(i j:Nat):List P4:=Du i W++(C0 j (W.drop (i+1))).map (λm=>(x,m))
def p4k(W:List Pt)(x y:Pt)(i j k:Nat):List P4:=Du i W++(p3j (W.drop (i+1)) y j k).map (λm=>(x,m))
def p4m(W:List Pt)(x y z:Pt)(i j k m:Nat):List P4:=Du i W++(zU (W.drop (i+1)) y z j k m).map (λm=>(x,m))
theorem Qkh(W:List Pt)(x:Pt)(i:Nat):p4j W x i 0=Du i W:=by simp[p4j,C0]
theorem Qki(W:List Pt)(x y:Pt)(i j:Nat):p4k W x y i j 0=p4j W x i j:=by unfold p4k p4j;rw[EG]
theorem Qkk(W:List Pt)(x y z:Pt)(i j k:Nat):p4m W x y z i j k 0=p4k W x y i j k:=by unfold p4m p4k;rw[ER]
theorem Qkj{W:List Pt}{x y z u:Pt}{i j k m:Nat}(h:(((W.drop (i+1)).drop (j+1)).drop (k+1))[m]? = some u):p4m W x y z i j k (m+1)=p4m W x y z i j k m++[(x,y,z,u)]:=by
 unfold p4m;rw[EH h];simp
theorem Qqm{W:List Pt}{x y z:Pt}{i j k m:Nat}(hz:((W.drop (i+1)).drop (j+1))[k]? = some z)(hm:(((W.drop (i+1)).drop (j+1)).drop (k+1)).length<=m):p4m W x y z i j k m=p4k W x y i j (k+1):=by
 unfold p4m p4k;rw[vS hz hm]
theorem Qql{W:List Pt}{x y:Pt}{i j k:Nat}(hy:(W.drop (i+1))[j]? = some y)(hk:k=((W.drop (i+1)).drop (j+1)).length):p4k W x y i j k=p4j W x i (j+1):=by
 unfold p4k p4j;rw[vT hy hk]
theorem Qqk{W:List Pt}{x:Pt}{i j:Nat}(hx:W[i]? = some x)(hj:j=(W.drop (i+1)).length):p4j W x i j=Du (i+1) W:=by
 unfold p4j;rw[hj,TL W i x hx];rfl
theorem Qq0{W:List Pt}{i:Nat}(h:i=W.length):Du i W=Ax W:=by rw[h];rfl
theorem WM:∀(k:Nat) (l:List Pt),∃r,Gh l=Ra k l++r
 | 0,l=>⟨Gh l,rfl⟩
 |k+1,[]=>⟨[],rfl⟩
 |
  k+1,x::l=>by
  obtain⟨r,h⟩:=WM k l;exact⟨r,by show l.map _++Ra l.length l=l.map _++Ra k l++r;rw[show Ra l.length l=Gh l from rfl,h,Ze]⟩
theorem IJ:∀(k:Nat) (l:List Pt),∃r,Hx l=C0 k l++r
 | 0,l=>⟨Hx l,rfl⟩
 |k+1,[]=>⟨[],rfl⟩
 |
  k+1,x::l=>by
  obtain⟨r,h⟩:=IJ k l;exact⟨r,by show(Gh l).map _++C0 l.length l=(Gh l).map _++C0 k l++r;rw[show C0 l.length l=Hx l from rfl,h,Ze]⟩
theorem sJ:∀(k:Nat) (l:List Pt),∃r,Ax l=Du k l++r
 | 0,l=>⟨Ax l,rfl⟩
 |k+1,[]=>⟨[],rfl⟩
 |
  k+1,x::l=>by
  obtain⟨r,h⟩:=sJ k l;exact⟨r,by show(Hx l).map _++Du l.length l=(Hx l).map _++Du k l++r;rw[show Du l.length l=Ax l from rfl,h,Ze]⟩
theorem Qai{W:List Pt}(h6:W.length<=6){x y:Pt}{i j k:Nat}(hx:W[i]? = some x)(hy:(W.drop (i+1))[j]? = some y):(zU W x y i j k).length<=20:=by
 have h0:=(VK h6).1;obtain⟨r,hr⟩:=IJ (i+1) W;rw[VR W i x hx]at hr;obtain⟨r2,hr2⟩:=WM (j+1) (W.drop (i+1));rw[Lq _ j y hy]at hr2;have e1:=congrArg List.length hr;have e2:=congrArg List.length hr2;have e3:(((W.drop (i+1)).drop (j+1)).take k).length<=((W.drop (i+1)).drop (j+1)).length:=by rw[Qr];exact Nat.min_le_right _ _
 unfold zU;simp only[Qu,Za]at e1 e2 ⊢;omega
theorem Qqn{W:List Pt}(h6:W.length<=6){x y z:Pt}{i j k m:Nat}(hx:W[i]? = some x)(hy:(W.drop (i+1))[j]? = some y)(hz:((W.drop (i+1)).drop (j+1))[k]? = some z):(p4m W x y z i j k m).length<=15:=by
 have h0:=(VK h6).2;obtain⟨r,hr⟩:=sJ (i+1) W;rw[TL W i x hx]at hr;obtain⟨r1,hr1⟩:=IJ (j+1) (W.drop (i+1));rw[VR _ j y hy]at hr1;obtain⟨r2,hr2⟩:=WM (k+1) ((W.drop (i+1)).drop (j+1));rw[Lq _ k z hz]at hr2;have e1:=congrArg List.length hr;have e2:=congrArg List.length hr1;have e4:=congrArg List.length hr2;have e3:((((W.drop (i+1)).drop (j+1)).drop (k+1)).take m).length<=(((W.drop (i+1)).drop (j+1)).drop (k+1)).length:=by rw[Qr];exact Nat.min_le_right _ _
 unfold p4m zU;simp only[Qu,Za]at e1 e2 e4 ⊢;omega
theorem Qdi{sg:Uq->Int}(hg:∀p,-1<=Hl sg p/\Hl sg p<=1)(ps:List P3):wS (A2 (ZL sg ps)):=by
 have key:∀(ps:List P3) (M:Ba),wS M->wS ((ZL sg ps).foldl (λM e=>Ec M e.1 (.int .i64 e.2)) M):=by
  intro ps
  induction ps with
  |nil=>intro M h;exact h
  |cons m ps ih=>intro M h;exact ih _ (Qjh h (hg _))
 exact key ps [] Qjg
theorem mG(sg:Uq->Int)(T:Ba)(ps:List P4):VO (Oh T (VE sg ps)):=by
 have key:∀(ps:List P4) (F:Ba),VO F->VO ((VE sg ps).foldl (λF e=>qJ T e.2 e.1 F) F):=by
  intro ps
  induction ps with
  |nil=>intro M h;exact h
  |cons m ps ih=>intro M h;exact ih _ (mF h)
 exact key ps [] Qby
theorem zD(p:Uq)(q:Rat):-1<=Ri p q/\Ri p q<=1:=by
 rw[Nq];unfold Fh
 split
 ·exact⟨by decide,by decide⟩
 ·split <;> exact⟨by decide,by decide⟩
theorem Qlu{p:Uq}{a:Tm}{s:Int}(h:HQ p a=some s):-1<=s/\s<=1:=by
 unfold HQ at h
 split at h
 ·injection h with h;subst h;exact⟨by decide,by decide⟩
 ·split at h
  ·injection h with h;subst h;exact zD _ _
  ·obtain⟨g,_,h⟩:=Qd.1 h
   split at h
   ·injection h with h;subst h;exact⟨by decide,by decide⟩
   ·obtain⟨c,_,h⟩:=Qd.1 h;obtain⟨x,_,h⟩:=Qd.1 h;injection h with h;subst h;exact zD _ _
theorem Qi3(a:Tm)(p:Uq):-1<=Hl (Fx a) p/\Hl (Fx a) p<=1:=by
 have hs:∀p,-1<=Fx a p/\Fx a p<=1:=λp=>by
  unfold Fx;cases h:HQ p a with
  |none=>exact⟨by decide,by decide⟩
  |some s=>exact Qlu h
 have key:∀(k:Nat) (p:Uq),-1<=Tx (Fx a) k p/\Tx (Fx a) k p<=1:=by
  intro k
  induction k with
  |zero=>intro p;exact⟨by simp[Tx],by simp[Tx]⟩
  |
   succ k ih =>
   intro p;simp only[Tx]
   split
   ·exact⟨by decide,by decide⟩
   ·split
    ·exact ih _
    ·exact hs p
 exact key _ p
end Orq
namespace Orr
open Go Go.Proofs Tryz Orq
set_option maxRecDepth 10000
theorem eA{a b c:Pt}{t:Tm}(ha:Sc a.c)(hb:Sc b.c)(hc:Sc c.c)(ht:Va t):Un 167 [.oi 3,.agg (ta t),.one (.row [Ff a,Ff b,Ff c])] [.agg (L9 (Ll (Fx t) a b c)),.oi 0]:=by
 have hp:=(YH ha hb hc).dp;have e:L9 (Ll (Fx t) a b c)=[.int .i64 3,.int .i64 a.id,.int .i64 b.id,.int .i64 c.id,.int .i64 0,pl (G7 a.c b.c c.c),.int .i64 (Hl (Fx t) (G7 a.c b.c c.c))]:=by rw[Ll]
 rw[e];have cg:=SE hp ht;have cf:=uV ha hb hc;generalize G7 a.c b.c c.c=F at *;refine Fz func167 rfl ?_;refine Uh [.k Qcn,.f rfl] rfl ?_;refine Um (S:=Nat) 3 (λL1 i=>(22,.v (.oi i))::L1) (λi=>[.blk 189 (ta t),.blk 126 zCt,.blk 126 [.int .i64 3,.int .i64 (if 1<=i then a.id else 0),.int .i64 (if 2<=i then b.id else 0),.int .i64 (if 3<=i then c.id else 0),.int .i64 0,.nils,.int .i64 0]]) (λi=>3-i) (λi=>i<=3) 0 (Qh _) rfl rfl λi hi=>?_
 rcases(show i=0\/i=1\/i=2\/i=3 by omega)with rfl|rfl|rfl|rfl
 ·refine Uh [.t rfl,.x (i:=0) (xs:=Ff a) rfl,.i 0] rfl ?_ (by simp[U5]);exact rd 1 (by omega) (by omega) rfl
 ·refine Uh [.t rfl,.x (i:=1) (xs:=Ff b) rfl,.i 1] rfl ?_ (by simp[U5]);exact rd 2 (by omega) (by omega) rfl
 ·refine Uh [.t rfl,.x (i:=2) (xs:=Ff c) rfl,.i 2] rfl ?_ (by simp[U5]);exact rd 3 (by omega) (by omega) rfl
 ·exact Uj [.f rfl,.f rfl,.f rfl,.t rfl,.x (i:=0) (xs:=Ff a) rfl,.x (i:=1) (xs:=Ff b) rfl,.x (i:=2) (xs:=Ff c) rfl,.k cf,.k cg] rfl
theorem Ie{α:Type}(s:α->α->α->Bool):∀(l acc:List α) (c:α),Ma s acc (l++[c])=c::Lt s c (Ma s acc l)
 | [],_,_=>rfl
 |_::l,_,c=>Ie s l _ c
theorem aK{R:List Pt}{t:Tm}(hR:∀p∈R,Sc p.c)(hn:R.length≤1000000)(ht:Va t):Un 211 [.agg (ta t),.one (pts R)] [.one (pts (Pq (Fx t) R))]:=by
 have hcl:=G8 R;show Un 211 [.agg (ta t),.one (.row (U4 R))] [.one (.row (U4 (Ma (FB (Fx t)) [] R).reverse))];obtain⟨s,hs⟩:=nmE (FB (Fx t));have hs':∀a b c,s a b c=decide (0<Hl (Fx t) (G7 a.c b.c c.c)):=λa b c=>by rw[hs];rfl
 rw[<-hs];refine Fz func211 rfl ?_;refine Uh [.o 5 41 5] rfl ?_;refine Um (S:=Nat) 2 (λL1 i=>(10,.v (.oi i))::(5,.v (.one (.orow 1 5 none)))::L1) (λi=>[.blk 189 (ta t),.row false 41 5 (U4 (Ma s [] (R.take i)).reverse)]) (λi=>R.length-i) (λi=>i<=R.length) 0 (Qh _) rfl rfl λi hi=>?_
 by_cases hlt:i<R.length
 ·obtain⟨c,hc⟩:=gxE (l:=R) (i:=i) hlt;have hcp:=hR c (Qc hc);have hst:Ma s [] (R.take (i+1))=c::Lt s c (Ma s [] (R.take i)):=by rw[Z3,hc];exact Ie s _ _ c
  obtain⟨O,hO⟩:=nmE (Ma s [] (R.take i));have hOl:O.length<=1000000:=by
   have:=KE s (R.take i) [];rw[<-hO,Qr]at this;simp at this;omega
  have hOm:∀x∈O,Sc x.c:=λx hx=>by
   rw[hO]at hx;rcases KA hx with h|h
   ·cases h
   ·exact hR x (Qo h)
  rw[<-hO]at hst ⊢;have hrl:(U4 O.reverse).length=O.length:=by rw[G8,Xt]
  have hm:∀y∈[Ff c],y.length=5:=λy hy=>by rw[Ql.1 hy];rfl
  have hget:∀{pre r:List Pt} {x:Pt},O=pre++x::r->∀j,j=r.length->(U4 O.reverse)[j]? = some (Ff x):=λ{pre r x} e j hj=>by
   refine S8 ?_;rw[e,hj];simp
  have hfin:∀{pre st:List Pt},O=pre++st->U4 (c::st).reverse=(U4 O.reverse).take st.length++[Ff c]:=λ{pre st} e=>by
   rw[e];simp[U4,Jw,List.take_append]
  have hfull:U4 (c::O).reverse=U4 O.reverse++[Ff c]:=by simp[U4]
  refine Uh [.t (by simp[hcl];omega),.x (S8 hc)] rfl ?_;refine Um (S:=Bool×List Pt) 3 (λL1 s=>(5,.v (.one (.orow 1 5 (cond s.1 (some (0,s.2.length)) none))))::L1) (λ_=>[.blk 189 (ta t),.row false 41 5 (U4 O.reverse),.blk 41 (Ff c)]) (λs=>s.2.length) (λst=>(∃pre,O=pre++st.2/\(st.1=false->pre=[]))/\Lt s c st.2=Lt s c O) (false,O) ⟨⟨[],rfl,λ_=>rfl⟩,rfl⟩ rfl rfl λ⟨b,st⟩ ⟨⟨pre,h1,h2⟩,h3⟩=>?_
  have h1:O=pre++st:=h1;have h3:Lt s c st=Lt s c O:=h3;have hl1:O.length=pre.length+st.length:=by rw[h1,Qu]
  have fin:∀{st:List Pt},O=pre++st->Lt s c st=Lt s c O->Lt s c st=st->U4 (Ma s [] (R.take (i+1))).reverse=(U4 O.reverse).take st.length++[Ff c]/\(pre=[]->U4 (Ma s [] (R.take (i+1))).reverse=U4 O.reverse++[Ff c]):=λ{st} e1 e2 e3=>by
   rw[hst,<-e2,e3];refine⟨hfin e1,λhp=>?_⟩;rw[hp]at e1;rw[<-hfull,e1];rfl
  rcases st with _|⟨z,_|⟨y,r⟩⟩
  ·obtain⟨f1,f2⟩:=fin h1 h3 rfl;cases b with
   |
    false =>
    have hp:=h2 rfl;have f2:=f2 hp;rw[hp]at hl1;have hl2:(U4 O.reverse).length<=1:=by rw[hrl,hl1];simp
    refine Ui [.g 17 false Uo,.f rfl,.s (sz:=5) hm] rfl ?_;exact rd (i+1) (by omega) hlt (by rw[f2];rfl)
   |
    true =>
    refine Ui [.g 17 false (decide_eq_false (by simp)),.f rfl,.s (sz:=5) hm] rfl ?_;exact rd (i+1) (by omega) hlt (by rw[f1];rfl)
  ·obtain⟨f1,f2⟩:=fin h1 h3 rfl;cases b with
   |
    false =>
    have hp:=h2 rfl;have f2:=f2 hp;rw[hp]at hl1;have hl2:(U4 O.reverse).length<=1:=by rw[hrl,hl1];simp
    refine Ui [.g 17 false Uo,.f rfl,.s (sz:=5) hm] rfl ?_;exact rd (i+1) (by omega) hlt (by rw[f2];rfl)
   |
    true =>
    refine Ui [.g 17 false (decide_eq_false (by simp)),.f rfl,.s (sz:=5) hm] rfl ?_;exact rd (i+1) (by omega) hlt (by rw[f1];rfl)
  ·have sz:=hOm z (by rw[h1];simp);have sy:=hOm y (by rw[h1];simp);have co:=uV sy sz hcp;have cg:=SE (YH sy sz hcp).dp ht;have gz:=hget h1 (r.length+1) rfl;have gy:=hget (pre:=pre++[z]) (r:=r) (x:=y) (by rw[h1];simp) r.length rfl;have hl1:O.length=pre.length+(r.length+2):=hl1;have hls:=hs' y z c;by_cases hq:s y z c=true
   ·have hg:¬Hl (Fx t) (G7 y.c z.c c.c)<=0:=by rw[hls]at hq;have:=of_decide_eq_true hq;omega
    obtain⟨f1,f2⟩:=fin h1 h3 (by simp only[Lt];rw[if_pos hq]);cases b with
    |
     false =>
     have hp:=h2 rfl;have f2:=f2 hp;rw[hp]at hl1;have hl2:(U4 O.reverse).length=r.length+2:=by rw[hrl,hl1];simp
     refine Ui [.g 17 true Up,.r 21 (eI (b:=(r.length:Int)) (by omega)),.i r.length,.x gy,.r 28 (eI (b:=((r.length+1:Nat):Int)) (by omega)),.i (r.length+1),.x gz,.k co,.k cg,.f (decide_eq_false hg),.s (sz:=5) hm] rfl ?_;exact rd (i+1) (by omega) hlt (by rw[f2];rfl)
    |
     true =>
     refine Ui [.g 17 true (decide_eq_true (by simp;omega)),.r 21 (eI (b:=(r.length:Int)) (by simp;omega)),.i r.length,.x (l:=U4 O.reverse) (i:=0+r.length) (xs:=Ff y) (by rw[Zy];exact gy),.r 28 (eI (b:=((r.length+1:Nat):Int)) (by simp)),.i (r.length+1),.x (l:=U4 O.reverse) (i:=0+(r.length+1)) (xs:=Ff z) (by rw[Zy];exact gz),.k co,.k cg,.f (decide_eq_false hg),.s (sz:=5) hm] rfl ?_;exact rd (i+1) (by omega) hlt (by rw[f1];rfl)
   ·have hg:Hl (Fx t) (G7 y.c z.c c.c)<=0:=by
     rw[hls]at hq;have:=of_decide_eq_false (Ww.2 hq);omega
    have hpop:Lt s c (y::r)=Lt s c O:=by rw[<-h3];simp only[Lt];rw[if_neg hq]
    have hin:(∃pre',O=pre'++(y::r)/\((true:Bool)=false->pre'=[]))/\Lt s c (y::r)=Lt s c O:=⟨⟨pre++[z],by rw[h1];simp,λh=>by cases h⟩,hpop⟩;cases b with
    |
     false =>
     have hp:=h2 rfl;rw[hp]at hl1;have hl2:(U4 O.reverse).length=r.length+2:=by rw[hrl,hl1];simp
     refine Ui [.g 17 true Up,.r 21 (eI (b:=(r.length:Int)) (by omega)),.i r.length,.x gy,.r 28 (eI (b:=((r.length+1:Nat):Int)) (by omega)),.i (r.length+1),.x gz,.k co,.k cg,.t (decide_eq_true hg),.r 42 (eI (b:=((r.length+1:Nat):Int)) (by omega)),.i (r.length+1)] rfl ?_;exact rd (true,y::r) (by simp) hin rfl
    |
     true =>
     refine Ui [.g 17 true (decide_eq_true (by simp;omega)),.r 21 (eI (b:=(r.length:Int)) (by simp;omega)),.i r.length,.x (l:=U4 O.reverse) (i:=0+r.length) (xs:=Ff y) (by rw[Zy];exact gy),.r 28 (eI (b:=((r.length+1:Nat):Int)) (by simp)),.i (r.length+1),.x (l:=U4 O.reverse) (i:=0+(r.length+1)) (xs:=Ff z) (by rw[Zy];exact gz),.k co,.k cg,.t (decide_eq_true hg),.r 42 (eI (b:=((r.length+1:Nat):Int)) (by simp)),.i (r.length+1)] rfl ?_;exact rd (true,y::r) (by simp) hin rfl
 ·obtain rfl:i=R.length:=by omega
  rw[Q7];exact Uj [.f (by simp[hcl])] rfl
theorem nH{sg:Uq->Int}{R:List Pt}(h:R≠[]):0<(Pq sg R).length:=by
 unfold Pq;rw[Xt];obtain⟨x,hx⟩:∃x,R.getLast? = some x:=⟨_,Ys h⟩;obtain⟨l,hl⟩:=Y8.1 hx;rw[hl,Ie];simp
theorem tU{α:Type}(s:α->α->α->Bool)(c:α):∀{st:List α},st≠[]->0<(Lt s c st).length
 | [],h=>absurd rfl h
 | [_],_=>by simp[Lt]
 |
  b::a::r,_=>by
  simp only[Lt]
  split
  ·simp
  ·exact tU s c (by simp)
theorem CN{sg:Uq->Int}{R:List Pt}(h:2<=R.length):2<=(Pq sg R).length:=by
 unfold Pq;rw[Xt];obtain⟨x,hx⟩:∃x,R.getLast? = some x:=⟨_,Ys (by intro e;rw[e]at h;simp at h)⟩;obtain⟨l,hl⟩:=Y8.1 hx;have hl0:l≠[]:=by intro e;rw[hl,e]at h;simp at h
 have:=nH (sg:=sg) hl0;unfold Pq at this;rw[Xt]at this;have:=tU (FB sg) x (st:=Ma (FB sg) [] l) (by intro e;rw[e]at this;simp at this);rw[hl,Ie,Q3];omega
theorem aR{R:List Pt}{t:Tm}(hR:∀p∈R,Sc p.c)(hn:R.length≤1000000)(ht:Va t):Un 168 [.agg (ta t),.one (pts R)] [.one (pts (Ee (Fx t) R))]:=by
 have hcl:=G8 R;have hrl:=G8 R.reverse;rw[Xt]at hrl;show Un 168 [.agg (ta t),.one (.row (U4 R))] [.one (.row (U4 (Ee (Fx t) R)))];refine Fz func168 rfl ?_;by_cases h3:R.length<3
 ·have e:Ee (Fx t) R=R:=if_pos h3;rw[e];exact Uj [.T] rfl
 have c1:=aK hR hn ht;have c2:=aK (R:=R.reverse) (λp hp=>hR p (Jn.1 hp)) (by rw[Xt];exact hn) ht;have p1:=CN (sg:=Fx t) (R:=R) (by omega);have p2:=CN (sg:=Fx t) (R:=R.reverse) (by rw[Xt];omega);have k1:=QR (Fx t) R;have k2:=QR (Fx t) R.reverse;rw[Xt]at k2;refine go tt [.F,.o 5 41 5,.r 15 (eI (b:=(R.length:Int)-1-((0:Nat):Int)) (by omega))] rfl (by simp[U5,hcl];omega) ?_;refine Um (S:=Nat) 2 (λL1 j=>(6,.v (.oi ((R.length:Int)-1-(j:Int))))::(5,.v (.one (.orow 1 5 none)))::L1) (λj=>[.blk 189 (ta t),.row false 41 5 (U4 (R.reverse.take j))]) (λj=>R.length-j) (λj=>j<=R.length) 0 (Qh _) rfl rfl λj hj=>?_
 by_cases hlt:j<R.length
 ·obtain⟨x,hx⟩:=gxE (l:=R) (i:=R.length-1-j) (by omega);have hx':R.reverse[j]? = some x:=by rw[List.getElem?_reverse (by omega)];exact hx
  have hm:∀y∈[Ff x],y.length=5:=λy hy=>by rw[Ql.1 hy];rfl
  have e:U4 (R.reverse.take (j+1))=U4 (R.reverse.take j)++[Ff x]:=by rw[Z3,hx'];simp[U4]
  have htl:(U4 (R.reverse.take j)).length=j:=by rw[G8,Qr,Xt];omega
  refine go tt [.T,.r 22 (eI (b:=((R.length-1-j:Nat):Int)) (by omega)),.x (S8 hx),.s (sz:=5) hm,.r 19 (eI (b:=(R.length:Int)-1-((j+1:Nat):Int)) (by omega))] rfl (by simp[U5,htl];omega) ?_;exact rd (j+1) (by omega) hlt (by rw[e];rfl)
 ·obtain rfl:j=R.length:=by omega
  rw[Qn (by rw[Xt];exact Qk _)];obtain⟨A,hA⟩:=nmE (Pq (Fx t) R);obtain⟨C,hC⟩:=nmE (Pq (Fx t) R.reverse);have e:Ee (Fx t) R=A.dropLast++C.dropLast:=by rw[hA,hC];exact if_neg h3
  rw[<-hA]at c1 p1 k1;rw[<-hC]at c2 p2 k2;rw[e];have hs:∀y∈(C.map Ff).take (C.length-1),y.length=5:=λy hy=>VY C y (Qo hy)
  have hs2:∀y∈(A.map Ff).take (A.length-1),y.length=5:=λy hy=>VY A y (Qo hy)
  refine Uj [.F,.p 1,.k c1,.k c2,.r 36 (eI (b:=((A.length-1:Nat):Int)) (by simp;omega)),.r 39 (eI (b:=((A.length-1:Nat):Int)) (by simp;omega)),.i (A.length-1),.r 44 (eI (b:=((C.length-1:Nat):Int)) (by simp;omega)),.i (C.length-1),.s (sz:=5) hs] rfl (by simp[U4,Jw,List.dropLast_eq_take]) ?_;simp only[U5,Qr,Za]
  and_intros <;> first|exact hs2|omega
theorem SL{l:List Pt}{t:Tm}(hl:∀p∈l,Sc p.c)(hn:l.length≤1000000)(ht:Va t):U8 prog 165 [.agg (ta t),.one (pts l)] [] [.one (.orow 0 7 none)] [.row false 126 7 (Ft (Pa (Fx t) l))]:=by
 have hcl:=G8 l;show U8 prog 165 [.agg (ta t),.one (.row (U4 l))] [] [.one (.orow 0 7 none)] [.row false 126 7 (Ft (Pa (Fx t) l))];refine Fz func165 rfl ?_;refine Uh [.o 5 126 7] rfl ?_;refine Um (S:=Nat) 2 (λL1 i=>(6,.v (.oi ((i+1:Nat):Int)))::(5,.v (.one (.orow 1 7 none)))::L1) (λi=>[.blk 189 (ta t),.row false 126 7 (Ft ((Pa (Fx t) l).take i))]) (λi=>l.length-i) (λi=>i<=l.length-1) 0 (Qh _) rfl rfl λi hi=>?_
 by_cases hlt:i+1<l.length
 ·obtain⟨a,ha⟩:=gxE (l:=l) (i:=i) (by omega);obtain⟨b,hb⟩:=gxE (l:=l) (i:=i+1) hlt;have hg:=TO (Fx t) ha hb;have hm:∀y∈[L9 (ZZ (Fx t) a b)],y.length=7:=λy hy=>by rw[Ql.1 hy];rfl
  refine go tt [.t (by simp[hcl];omega),.r 19 (eI (b:=(i:Int)) (by simp)),.x (S8 ha),.x (S8 hb),.k (eL (hl a (Qc ha)) (hl b (Qc hb)) ht),.s (sz:=7) hm,.r 14 (eI (b:=((i+1+1:Nat):Int)) (by simp))] rfl (by simp[U5,G8,Bb,B5];omega) ?_;exact rd (i+1) (by omega) (by omega) (by rw[hg];simp[Ft];rfl)
 ·have e:(Pa (Fx t) l).take i=Pa (Fx t) l:=Qn (by rw[B5];omega);rw[e];exact Ul [] [1] [.f (by simp[hcl];omega)] rfl
theorem fN{C:List Pt}{i:Nat}{a b:Pt}(ha:C[i]? = some a)(hb:C[(i+1) % C.length]? = some b):(Rz C)[i]? = some (a,b):=by
 have hi:=(Qf.1 ha).1;unfold Rz;rw[List.getElem?_zip_eq_some];refine⟨ha,?_⟩;by_cases h:i+1<C.length
 ·rw[Xx h]at hb;rw[Zj (by rw[Q9];omega),Xe,Jv];exact hb
 ·have e:i+1=C.length:=by omega
  rw[e,Nat.mod_self]at hb;rw[Xb (by rw[Q9];omega),Q9,show i-(C.length-1)=0 by omega,Kh (by omega)];exact hb
theorem fB(C:List Pt):(Rz C).length=C.length:=by
 unfold Rz;rw[List.length_zip,Qu,Q9,Qr];omega
theorem IQ{α β:Type}{f:α->List β}{l:List α}{i:Nat}{x:α}(h:l[i]? = some x):(l.take (i+1)).flatMap f=(l.take i).flatMap f++f x:=by
 rw[Z3,h];simp
theorem SY{α β:Type}{f:α->β}{p:α->Bool}{l:List α}{i:Nat}{x:α}(h:l[i]? = some x):((l.take (i+1)).filter p).map f=((l.take i).filter p).map f++if p x=true then [f x]else []:=by
 rw[Z3,h,Vk,Yi];congr 1;simp only[Option.toList];by_cases hp:p x=true
 ·rw[if_pos hp,X9 hp];rfl
 ·rw[if_neg hp,Jz hp];rfl
theorem gQ{α β:Type}{f:α->List β}{n:Nat}(hf:∀x,(f x).length<=n)(l:List α):(l.flatMap f).length<=l.length*n:=WJ f n l λx _=>hf x
theorem Qbo{l:List Pt}(hl:∀p∈l,Sc p.c):∀p∈l,Qtx 4294967294 1073741824 p:=λp hp=>⟨(hl p hp).n,(hl p hp).c.mono (by decide) (by decide)⟩
set_option maxHeartbeats 4000000 in
theorem OV{l:List Pt}{a:Tm}{c:Cr}{r1:Uw}(hl:∀p∈l,Sc p.c)(hn:l.length≤10)(ha:Va a):U8 prog 124 [.one (.ow 0 0),.agg (ta a)] [.blk 201 (Ho c (U4 l) r1)] [.one (.row (Ft (HB l a)))] [.blk 201 (Ho c (U4 l) (brH l a))]:=by
 have hwl:=A4 l;have cw:=nX (l:=l) (Qbo hl) (by omega);have cr:=uU (l:=Rw l) (λp hp=>hl p (My hp)) (by omega) ha;have cn:=aR (R:=Sy a (Rw l)) (λp hp=>hl p (My (Ht.1 hp))) (by rw[Cw];omega) ha;have cr2:=uU hl (by omega) ha;have cc:=SL (l:=Sy a l) (t:=a) (λp hp=>hl p (Ht.1 hp)) (by rw[Cw];omega) ha;have hCm:∀p∈Ph l a,p∈l:=λp hp=>Ob hp
 have hCl:=RR l a;have e0:HB l a=ZM l a++Bh (Fx a) l (Ph l a):=rfl;rw[e0];show U8 prog 124 _ _ _ [.blk 201 (Ho c (U4 l) (U4 (Ph l a)))];have cn:Un 168 [.agg (ta a),.one (pts (Sy a (Rw l)))] [.one (pts (Ph l a))]:=cn;have cc:U8 prog 165 [.agg (ta a),.one (pts (Sy a l))] [] [.one (.orow 0 7 none)] [.row false 126 7 (Ft (ZM l a))]:=cc;have hbl:(ZM l a).length<=10:=by unfold ZM;rw[B5,Cw];omega
 obtain⟨C,hC⟩:=nmE (Ph l a);obtain⟨cs0,hc0⟩:=nmE (ZM l a);rw[<-hC]at cn hCm hCl ⊢;rw[<-hc0]at cc hbl ⊢;have hcp:=G8 C;have hlp:=G8 l;have eel:∀x,(Aj (Fx a) l x).length<=l.length:=λx=>by unfold Aj;rw[List.length_map];exact List.length_filter_le _ _
 refine Fz func124 rfl ?_;refine Uh [.k cw,.k cr,.k cn,.k Iv,.k cr2,.c [2] cc] rfl ?_;by_cases h2:C.length<2
 ·have e:Bh (Fx a) l C=[]:=if_pos h2;rw[e,Zv];exact Ul [2] [0] [.t (decide_eq_true (by simp;omega))] rfl
 have e:Bh (Fx a) l C=(Rz C).flatMap (Aj (Fx a) l):=if_neg h2;rw[e];refine Uh [.f (decide_eq_false (by simp;omega))] rfl ?_;refine sb [(48,.v (.oi 0)),(47,.v (.oi ((C.map Ff).length:Int))),(46,.v (.one (pts C))),(6,.v (.one (.orow 2 7 none))),(3,.v (.one (.ow 1 0))),(0,.v (.one (.ow 0 0)))] [.blk 201 (Ho c (U4 l) (U4 C)),.blk 189 (ta a),.row false 126 7 (Ft cs0)] rfl rfl ?_;rw[show Ft cs0=Ft (cs0++((Rz C).take 0).flatMap (Aj (Fx a) l)) by simp];refine Um (S:=Nat) 3 (λL1 i=>(48,.v (.oi i))::(6,.v (.one (.orow 2 7 none)))::L1) (λi=>[.blk 201 (Ho c (U4 l) (U4 C)),.blk 189 (ta a),.row false 126 7 (Ft (cs0++((Rz C).take i).flatMap (Aj (Fx a) l)))]) (λi=>C.length-i) (λi=>i<=C.length) 0 (Qh _) rfl rfl λi hi=>?_
 by_cases hlt:i<C.length
 ·obtain⟨x,hx⟩:=gxE (l:=C) (i:=i) hlt;obtain⟨y,hy⟩:=gxE (l:=C) (i:=(i+1) % C.length) (Z5 _ (by omega));have he:=fN hx hy;have sx:=hl x (hCm x (Qc hx));have sy:=hl y (hCm y (Qc hy));have hflat:=IQ (f:=Aj (Fx a) l) he;obtain⟨F,hF⟩:=nmE (cs0++((Rz C).take i).flatMap (Aj (Fx a) l));have hFl:F.length<=10+20*10:=by
   have h1:=gQ eel ((Rz C).take i);have h2:((Rz C).take i).length*l.length<=20*10:=Q8 (by rw[Qr];omega) hn;rw[hF,Qu];omega
  have hmod:(((i+1:Nat):Int)).tmod ((C.map Ff).length:Int)=(((i+1) % C.length:Nat):Int):=by rw[Za];exact(Int.ofNat_tmod _ _).symm
  have hm0:=Yf ((i+1:Nat):Int) (show(C.length:Int)≠0 by omega);have hm1:=Jt ((i+1:Nat):Int) (show(0:Int)<C.length by omega);have hnext:cs0++((Rz C).take (i+1)).flatMap (Aj (Fx a) l)=F++(l.filter (VL (x,y))).map λc=>Ll (Fx a) x y c:=by rw[hflat,<-Ze,<-hF];rfl
  rw[<-hF];refine go tt [.t (decide_eq_true (by simp;omega)),.x (S8 hx),.r 58 (eI (b:=((i+1:Nat):Int)) (by simp)),.r 64 (eI (b:=(((i+1) % C.length:Nat):Int)) hmod),.x (S8 hy),.k Iv] rfl (by simp only[U5];omega) ?_;rw[show Ft F=Ft (F++((l.take 0).filter (VL (x,y))).map λc=>Ll (Fx a) x y c) by simp];refine Um (S:=Nat) 5 (λL1 k=>(73,.v (.oi k))::(6,.v (.one (.orow 2 7 none)))::L1) (λk=>[.blk 201 (Ho c (U4 l) (U4 C)),.blk 189 (ta a),.row false 126 7 (Ft (F++((l.take k).filter (VL (x,y))).map λc=>Ll (Fx a) x y c)),.blk 41 (Ff x),.blk 41 (Ff y)]) (λk=>l.length-k) (λk=>k<=l.length) 0 (Qh _) rfl rfl λk hk=>?_
  by_cases hlk:k<l.length
  ·obtain⟨z,hz⟩:=gxE (l:=l) (i:=k) hlk;have sz:=hl z (Qc hz);have hflt:=SY (f:=λc=>Ll (Fx a) x y c) (p:=VL (x,y)) hz;obtain⟨G,hG⟩:=nmE (((l.take k).filter (VL (x,y))).map λc=>Ll (Fx a) x y c);have hGl:G.length<=10:=by
    have h1:=Y0 (VL (x,y)) (l.take k);rw[Qr]at h1;rw[hG,Za];omega
   rw[<-hG]at hflt ⊢;by_cases h1:z.id=x.id
   ·rw[if_neg (show ¬VL (x,y) z=true by simp[VL,h1]),Zv]at hflt;refine Ui [.t (decide_eq_true (by simp;omega)),.x (S8 hz),.g 82 false (decide_eq_false (by simp[h1])),.f rfl] rfl ?_;exact rd (k+1) (by omega) hlk (by rw[hflt];rfl)
   ·by_cases h2:z.id=y.id
    ·rw[if_neg (show ¬VL (x,y) z=true by simp[VL,h2]),Zv]at hflt;refine Ui [.t (decide_eq_true (by simp;omega)),.x (S8 hz),.g 82 true (decide_eq_true h1),.f (decide_eq_false (by simp[h2]))] rfl ?_;exact rd (k+1) (by omega) hlk (by rw[hflt];rfl)
    ·rw[if_pos (show VL (x,y) z=true by simp[VL,h1,h2])]at hflt;have hm:∀q∈[L9 (Ll (Fx a) x y z)],q.length=7:=λq hq=>by rw[Ql.1 hq];rfl
     refine go tt [.t (decide_eq_true (by simp;omega)),.x (S8 hz),.g 82 true (decide_eq_true h1),.t (decide_eq_true h2),.k (eA sx sy sz ha),.s (sz:=7) hm] rfl (by simp[U5,Bb];omega) ?_;have e3:Ft (F++(G++[Ll (Fx a) x y z]))=Ft (F++G)++[L9 (Ll (Fx a) x y z)]:=by simp[Ft]
     exact rd (k+1) (by omega) hlk (by rw[hflt,e3];rfl)
  ·obtain rfl:k=l.length:=by omega
   rw[Q7,<-hnext];refine Ui [.f (decide_eq_false (by simp))] rfl ?_;exact rd (i+1) (by omega) hlt rfl
 ·obtain rfl:i=C.length:=by omega
  rw[Qn (by rw[fB];exact Qk _)];exact Ul [2] [0] [.f (decide_eq_false (by simp))] rfl
theorem ozM{P:Program}[Mo P]{n:Nat}{Q:Exit->Sg->Ux->Prop}{L L':Sg}{B B':Ux}(d off T sz:Nat){it:List It}(hs:Ro it=true)(h:dX (P:=P) d L B [.oc d off T sz]=some (L',B',[],[]))(k:AK P n Q it L' B'):AK P n Q it L B:=AK.sub (AQ h EqOk.nil) hs k
theorem jT{k:Crv}(hk:Sc k):Un 251 [.agg (cl k)] [.one (.row (JP (Io k)))]:=by
 have ok:=GW hk.n hk.c;have l1:=H9 k.x k.x;have l2:=H9 k.y k.y;have:=hk.c.lx;have:=hk.c.ly;have bx:Bd 258 (Gl k.x k.x):=Pp (u:=2) hk.c.x hk.c.x (by omega);have by_:Bd 258 (Gl k.y k.y):=Pp (u:=2) hk.c.y hk.c.y (by omega);have c1:=Pw (p:=k.x) (c:=k.d) (by omega) (U7 hk.c.x (by decide)) (Qa hk.c.d (by decide));have c2:=Pw (p:=k.y) (c:=k.d) (by omega) (U7 hk.c.y (by decide)) (Qa hk.c.d (by decide));have c3:=KC (p:=k.x) (q:=k.x) hk.n.1 hk.n.1 (by omega) (by omega) hk.c.x hk.c.x (by decide);have c4:=KC (p:=k.y) (q:=k.y) hk.n.2.1 hk.n.2.1 (by omega) (by omega) hk.c.y hk.c.y (by decide);have c5:=BO (p:=Gl k.x k.x) (q:=Gl k.y k.y) (by omega) (by omega) (U7 bx (by decide)) (U7 by_ (by decide));have c6:=P8 (U6 k.d) (U6 k.d) (Qa hk.c.d (by decide)) (Qa hk.c.d (by decide));have hl:∀p∈Io k,p.length≤1000000:=λp hp=>by
  obtain⟨j,hj⟩:=X1 hp;have h1:=ok.2 j p hj;have:[2,2,4,0].getD j 0<=4:=by
   match j with
   | 0=>decide
   | 1=>decide
   | 2=>decide
   | 3=>decide
   |j+4=>simp
  omega
 have cd:=Qfk (r:=Io k) (λp hp=>(ok.1 p hp).1) (λp hp=>U7 (ok.1 p hp).2 (by decide)) hl (by show 4<=1000;decide);exact Uk func251 rfl [.k (Dz hk.n (hk.c.mono (by decide) (by decide))),.k c1,.k c2,.k c3,.k c4,.k c5,.k c6,.k cd] rfl
theorem Qfu{a b c d:Crv}(ha:Sc a)(hb:Sc b)(hc:Sc c)(hd:Sc d):Un 210 [.agg (cl a),.agg (cl b),.agg (cl c),.agg (cl d)] [pr (ZS a b c d)]:=by
 have cd:=Qsn (by decide) (k:=4) (ds:=[2,2,4,0]) (by decide) rfl (by decide) (AN ha.n hb.n hc.n hd.n ha.c hb.c hc.c hd.c);exact Uk func210 rfl [.k (jT ha),.k (jT hb),.k (jT hc),.k (jT hd),.k cd] rfl
set_option maxHeartbeats 1000000 in
theorem Qny{a b c d:Pt}{t:Tm}(ha:Sc a.c)(hb:Sc b.c)(hc:Sc c.c)(hd:Sc d.c)(ht:Va t):Un 167 [.oi 4,.agg (ta t),.one (.row [Ff a,Ff b,Ff c,Ff d])] [.agg (L9 (zZ (Fx t) a b c d)),.oi 0]:=by
 have hp:=(iZ ha hb hc hd).dp;have e:L9 (zZ (Fx t) a b c d)=[.int .i64 4,.int .i64 a.id,.int .i64 b.id,.int .i64 c.id,.int .i64 d.id,pl (ZS a.c b.c c.c d.c),.int .i64 (Hl (Fx t) (ZS a.c b.c c.c d.c))]:=by rw[zZ]
 rw[e];have cg:=SE hp ht;have cf:=Qfu ha hb hc hd;generalize ZS a.c b.c c.c d.c=F at *;refine Fz func167 rfl ?_;refine Uh [.k Qco,.f rfl] rfl ?_;refine Um (S:=Nat) 3 (λL1 i=>(22,.v (.oi i))::L1) (λi=>[.blk 189 (ta t),.blk 126 zCt,.blk 126 [.int .i64 4,.int .i64 (if 1<=i then a.id else 0),.int .i64 (if 2<=i then b.id else 0),.int .i64 (if 3<=i then c.id else 0),.int .i64 (if 4<=i then d.id else 0),.nils,.int .i64 0]]) (λi=>4-i) (λi=>i<=4) 0 (Qh _) rfl rfl λi hi=>?_
 rcases(show i=0\/i=1\/i=2\/i=3\/i=4 by omega)with rfl|rfl|rfl|rfl|rfl
 ·refine Uh [.t rfl,.x (i:=0) (xs:=Ff a) rfl,.i 0] rfl ?_ (by simp[U5]);exact rd 1 (by omega) (by omega) rfl
 ·refine Uh [.t rfl,.x (i:=1) (xs:=Ff b) rfl,.i 1] rfl ?_ (by simp[U5]);exact rd 2 (by omega) (by omega) rfl
 ·refine Uh [.t rfl,.x (i:=2) (xs:=Ff c) rfl,.i 2] rfl ?_ (by simp[U5]);exact rd 3 (by omega) (by omega) rfl
 ·refine Uh [.t rfl,.x (i:=3) (xs:=Ff d) rfl,.i 3] rfl ?_ (by simp[U5]);exact rd 4 (by omega) (by omega) rfl
 ·exact Uj [.f rfl,.f rfl,.f rfl,.f rfl,.t rfl,.x (i:=0) (xs:=Ff a) rfl,.x (i:=1) (xs:=Ff b) rfl,.x (i:=2) (xs:=Ff c) rfl,.x (i:=3) (xs:=Ff d) rfl,.k cf,.k cg] rfl
end Orr
