/- En1 TW1 TW2 R3 R4 RefPL R5 R6 RefGL R7 RatOkL R8 R9 RefCL R10 R11 R12 R13 R14 R15 R16 R17 R18 SC1 W2 WR18 WS18 X19 MeshK H2 H3 MD1 MD2 MD3 MD4 MD5 MD6 X22 SD2 H4 En2 X20 X21 -/
import Derived.Test.YtbhhcpcpionelaaGreatPart08
import Derived.Test.YtbhhcpcpionelaaGreatPart00
import Derived.Test.YtbhhcpcpionelaaGreatPart07
import Derived.Test.YtbhhcpcpionelaaGreatPart04
import Derived.Test.YtbhhcpcpionelaaGreatPart05
import Derived.Test.YtbhhcpcpionelaaGreatPart06
set_option linter.all false
namespace Orr
open Go Go.Proofs Tryz Orq
set_option maxRecDepth 10000
theorem eL (l:Uk):(lm l).length=l.length:=by simp [lm]
theorem FN {z:Int}:(Fo z.natAbs).length<=4↔U5 z<=128:=by
 constructor
 ·intro h;have h1:=Cm (Fo z.natAbs) (Cg z.natAbs).1;rw [Gu] at h1;refine Tu.2 (Xc h1 (Qc (Zt (by decide) h) (by decide)))
 ·intro h;have:=Rk (x:=z.natAbs) (k:=128) h;omega
def E7 (k:Crv):Bool:=(k.x++k.y++[k.d]).all λz=>decide (U5 z<=128)
theorem VV {k:Crv}:E7 k=true↔(∀ z∈k.x,U5 z≤128)/\(∀ z∈k.y,U5 z≤128)/\U5 k.d≤128:=by
 unfold E7;simp only [List.all_append,Zj,Vb,decide_eq_true_iff,Qj,forall_eq];constructor
 ·rintro ⟨⟨h1,h2⟩,h3⟩; exact ⟨h1,h2,h3⟩
 ·rintro ⟨h1,h2,h3⟩; exact ⟨⟨h1,h2⟩,h3⟩
theorem VK {k:Crv} {z:Int} (hz:z∈k.x++k.y++[k.d]) (h:¬U5 z<=128):E7 k=false:=by
 unfold E7;rw [<-Bool.not_eq_true,Vb];intro h';exact h (of_decide_eq_true (h' z hz))
abbrev tB (np nd:Int) (l:List Pt):OB:=.blk 158 (taR np nd l)
theorem Qbb {np nd:Int} {l:List Pt} (id:Int) (hl:l.length<1073741824):Uz prog 80 [.one (.ow 0 0),.oi id] [tB np nd l] [.oi (P6 l id:Int),.one (.bool (has l id))] [tB np nd l]:=by
 refine Gb func80 rfl ?_;refine W9 [] rfl ?_;refine ct 2 (S:=Unit) (λ_=>[(1,.v (.oi id)),(0,.v (.one (.ow 0 0))),(6,.v (.oi (P6 l id:Int)))]) (λ_=>[tB np nd l]) (λ_=>True) rfl ?_ ?_
 ·refine Ue (S:=Nat) 1 (λL1 k=>(6,.v (.oi k))::L1) (λ_=>[tB np nd l]) (λk=>l.length-k) (λk=>k<=l.length/\∀ j p,j<k->l[j]? = some p->p.id<id) 0 ⟨Qi _,λj p h=>by omega⟩ rfl rfl λk ⟨hk,hlt⟩=>?_
  by_cases h:k<l.length
  ·obtain ⟨p,hp⟩:=gxE (l:=l) (i:=k) h;by_cases hid:p.id<id
   ·refine Ua [.t (by simp; omega),.x (Ty hp),.t (by simpa using hid)] rfl ?_;exact rd (k+1) (by omega) ⟨h,λj q hj hq=>by
     rcases Zd j k with h2 | h2
     ·exact hlt j q h2 hq
     ·have:j=k:=by omega
      subst this; rw [hp] at hq; injection hq with hq; rw [<-hq]; exact hid⟩ rfl
   ·have e:=BX hlt (.inr ⟨p,hp,hid⟩);refine W9 [.t (by simp; omega),.x (Ty hp),.f (by simpa using hid)] rfl ?_;rw [e];exact rc () trivial rfl
  ·obtain rfl:k=l.length:=by omega
   have e:=BX hlt (.inl rfl);refine W9 [.f (by simp),.f rfl] rfl ?_;rw [e];exact rc () trivial rfl
 ·intro _ _;by_cases h:P6 l id<l.length
  ·obtain ⟨p,hp⟩:=gxE (l:=l) (i:=P6 l id) h;have e:has l id=decide (p.id=id):=by simp [has,hp]
   rw [e];exact Ud [] [0] [.g 36 true (by simp; omega),.x (Ty hp)] rfl
  ·have e:has l id=false:=by simp [has,Qz (J5 h)]
   rw [e];exact Ud [] [0] [.g 36 false (by simp; omega)] rfl
theorem UL {lx ly:Uo} {px py:Ui} {x y:LV} {d:Int} (hx:IsInts lx px) (hy:IsInts ly py) (hd:Gk x y d) (hk:Cs 4294967294 1073741824 (Crv.mk px py d)) (id:Int):Uf 81 [.agg [.row lx,.row ly,x,y,.int .i64 id]] [.agg (U3 ⟨Crv.norm (Crv.mk px py d),id⟩)]:=by
 have cd:=Pw hd (Qc hk.d (by omega));by_cases h0:d=0
 ·subst h0;have ck:Cs 4294967294 1073741824 (Crv.mk px py 1):=⟨hk.x,hk.y,show U5 1<=4294967294 by decide,hk.lx,hk.ly⟩;have cm:=VI hx hy (Uu 1) ck (by decide);have e:Crv.norm (Crv.mk px py 1)=Crv.norm (Crv.mk px py 0):=by simp only [Crv.norm,Crv.g,Crv.d']; rfl
  rw [e] at cm;obtain ⟨b,l,rfl,rfl,_⟩:=hd;exact Uc func81 rfl [.k cd,.k Nv,.t (by simp),.k (RJ (z:=1) (by decide)),.k cm] rfl
 ·have cm:=VI hx hy hd hk h0;obtain ⟨b,l,rfl,rfl,_⟩:=hd;exact Uc func81 rfl [.k cd,.k Nv,.f (by simpa using h0),.k cm] rfl
theorem fY {p:Pt} (hn:QK p.c) (hk:Cs 4294967294 1073741824 p.c):Uf 81 [.agg (U3 p)] [.agg (U3 p)]:=by
 have h:=UL (Ga p.c.x) (Ga p.c.y) (Uu p.c.d) hk p.id;rw [show Crv.mk p.c.x p.c.y p.c.d=p.c from rfl,Crv.norm_of hn] at h; exact h
theorem Qa9 {k:Crv} (hk:Cs 4294967294 1073741824 k):Uf 176 [.agg (cl k)] [.one (.bool (E7 k))]:=by
 have hlx:=hk.lx;have hly:=hk.ly;refine Gb func176 rfl ?_;refine W9 [] rfl ?_;refine Ue (S:=Nat) 1 (λL1 i=>(15,.v (.oi i))::L1) (λ_=>[.blk 39 (cl k)]) (λi=>3-i) (λi=>i≤3/\(0<i->∀ z∈k.x,U5 z≤128)/\(1<i->∀ z∈k.y,U5 z≤128)/\(2<i->U5 k.d≤128)) 0 ⟨by decide,by omega,by omega,by omega⟩ rfl rfl λi ⟨hi,g0,g1,g2⟩=>?_
 rcases (show i=0\/i=1\/i=2\/i=3 by omega) with rfl | rfl | rfl | rfl
 ·have hl:((k.x).map G6).length=(k.x).length:=by simp
  refine W9 [.t rfl,.i 0] rfl ?_ (by simp [Uw]);refine Ue (S:=Nat) 1 (λL1 j=>(20,.v (.oi j))::L1) (λ_=>[.blk 39 (cl k)]) (λj=>(k.x).length-j) (λj=>j<=(k.x).length/\∀ n z,n<j->(k.x)[n]? = some z->U5 z<=128) 0 ⟨Qi _,λn z h=>by omega⟩ rfl rfl λj ⟨hj,hs⟩=>?_
  by_cases h:j<(k.x).length
  ·obtain ⟨z,hz⟩:=gxE (l:=(k.x)) (i:=j) h;by_cases hb:U5 z<=128
   ·have hb4:=FN.2 hb;refine Ua [.t (by simp; omega),.x (H9 (f:=G6) hz),.f (by simp [eL]; omega)] rfl ?_;exact rd (j+1) (by omega) ⟨h,λn y hn hy=>by
     rcases Zd n j with h2 | h2
     ·exact hs n y h2 hy
     ·have:n=j:=by omega
      subst this; rw [hz] at hy; injection hy with hy; rw [<-hy]; exact hb⟩ rfl
   ·have hb4:=mt FN.1 hb;rw [VK (Qr.2 (.inl (Qr.2 (.inl (Qa hz))))) hb];exact Ub [.t (by simp; omega),.x (H9 (f:=G6) hz),.t (by simp [eL]; omega)] rfl
  ·have hall:∀ z∈k.x,U5 z≤128:=λz hz=>by
    obtain ⟨n,hn⟩:=Xt hz;exact hs n z (by have:=(Qe.1 hn).1; omega) hn
   refine W9 [.f (by simp; omega)] rfl ?_ (by simp [Uw]);exact rd 1 (by omega) ⟨by omega,λ_=>hall,by omega,by omega⟩ rfl
 ·have hl:((k.y).map G6).length=(k.y).length:=by simp
  refine W9 [.t rfl,.i 1] rfl ?_ (by simp [Uw]);refine Ue (S:=Nat) 1 (λL1 j=>(20,.v (.oi j))::L1) (λ_=>[.blk 39 (cl k)]) (λj=>(k.y).length-j) (λj=>j<=(k.y).length/\∀ n z,n<j->(k.y)[n]? = some z->U5 z<=128) 0 ⟨Qi _,λn z h=>by omega⟩ rfl rfl λj ⟨hj,hs⟩=>?_
  by_cases h:j<(k.y).length
  ·obtain ⟨z,hz⟩:=gxE (l:=(k.y)) (i:=j) h;by_cases hb:U5 z<=128
   ·have hb4:=FN.2 hb;refine Ua [.t (by simp; omega),.x (H9 (f:=G6) hz),.f (by simp [eL]; omega)] rfl ?_;exact rd (j+1) (by omega) ⟨h,λn y hn hy=>by
     rcases Zd n j with h2 | h2
     ·exact hs n y h2 hy
     ·have:n=j:=by omega
      subst this; rw [hz] at hy; injection hy with hy; rw [<-hy]; exact hb⟩ rfl
   ·have hb4:=mt FN.1 hb;rw [VK (Qr.2 (.inl (Qr.2 (.inr (Qa hz))))) hb];exact Ub [.t (by simp; omega),.x (H9 (f:=G6) hz),.t (by simp [eL]; omega)] rfl
  ·have hall:∀ z∈k.y,U5 z≤128:=λz hz=>by
    obtain ⟨n,hn⟩:=Xt hz;exact hs n z (by have:=(Qe.1 hn).1; omega) hn
   refine W9 [.f (by simp; omega)] rfl ?_ (by simp [Uw]);exact rd 2 (by omega) ⟨by omega,λ_=>g0 (by omega),λ_=>hall,by omega⟩ rfl
 ·have hl:(([k.d]).map G6).length=([k.d]).length:=by simp
  have h1:([k.d]).length=1:=rfl;refine W9 [.t rfl,.i 2] rfl ?_ (by simp [Uw]);refine Ue (S:=Nat) 1 (λL1 j=>(20,.v (.oi j))::L1) (λ_=>[.blk 39 (cl k)]) (λj=>([k.d]).length-j) (λj=>j<=([k.d]).length/\∀ n z,n<j->([k.d])[n]? = some z->U5 z<=128) 0 ⟨Qi _,λn z h=>by omega⟩ rfl rfl λj ⟨hj,hs⟩=>?_
  by_cases h:j<([k.d]).length
  ·obtain ⟨z,hz⟩:=gxE (l:=([k.d])) (i:=j) h;by_cases hb:U5 z<=128
   ·have hb4:=FN.2 hb;refine Ua [.t (by simp; omega),.x (H9 (f:=G6) hz),.f (by simp [eL]; omega)] rfl ?_;exact rd (j+1) (by omega) ⟨h,λn y hn hy=>by
     rcases Zd n j with h2 | h2
     ·exact hs n y h2 hy
     ·have:n=j:=by omega
      subst this; rw [hz] at hy; injection hy with hy; rw [<-hy]; exact hb⟩ rfl
   ·have hb4:=mt FN.1 hb;rw [VK (Qr.2 (.inr (Qa hz))) hb];exact Ub [.t (by simp; omega),.x (H9 (f:=G6) hz),.t (by simp [eL]; omega)] rfl
  ·have hall:∀ z∈[k.d],U5 z≤128:=λz hz=>by
    obtain ⟨n,hn⟩:=Xt hz;exact hs n z (by have:=(Qe.1 hn).1; omega) hn
   refine W9 [.f (by simp; omega)] rfl ?_ (by simp [Uw]);exact rd 3 (by omega) ⟨by omega,λ_=>g0 (by omega),λ_=>g1 (by omega),λ_=>hall k.d (by simp)⟩ rfl
 ·rw [VV.2 ⟨g0 (by omega),g1 (by omega),g2 (by omega)⟩];exact Ub [.f rfl] rfl
def Ax (p:Pt):Bool:=decide (0<=p.id) && (decide (p.id<=1048576) && E7 p.c)
theorem Qbd {p:Pt} (hk:Cs 4294967294 1073741824 p.c):Uf 127 [.agg (U3 p)] [.one (.bool (Ax p))]:=by
 have cs:=Qa9 hk;by_cases h0:0<=p.id
 ·by_cases h1:p.id<=1048576
  ·have e:Ax p=E7 p.c:=by simp [Ax,h0,h1]
   rw [e];exact Uc func127 rfl [.t (by simpa using h0),.t (by simpa using h1),.k cs] rfl
  ·have e:Ax p=false:=by simp [Ax,h1]
   rw [e];exact Uc func127 rfl [.t (by simpa using h0),.f (by simpa using h1)] rfl
 ·have e:Ax p=false:=by simp [Ax,h0]
  rw [e];exact Uc func127 rfl [.f (by simpa using h0),.f rfl] rfl
theorem Qas {k:Crv} (hn:QK k) (hk:Cs 4294967294 1073741824 k):Uf 94 [.agg (cl k)] [.oi (Of k)] :=
 Uc func94 rfl [.k (KQ hn hk),.k (Ph k.x),.k (Ph k.y)] rfl
def Pi (np nd:Int) (M:List Pt) (p:Pt):Int:=if Ax p=false then 1 else if has M p.id=true then 6 else if nd<Of p.c then 7 else if np<=(M.length:Int) then 9 else 0
theorem Qno {lx ly:Uo} {px py:Ui} {x y:LV} {d id np nd:Int} {l:List Pt} (hx:IsInts lx px) (hy:IsInts ly py) (hd:Gk x y d) (hk:Cs 4294967294 1073741824 (Crv.mk px py d)) (hl:l.length<=1000000) :
 Uz prog 76 [.one (.ow 0 0),.agg [.row lx,.row ly,x,y,.int .i64 id]] [tB np nd l] [.oi (Pi np nd l (Pt.mk (Crv.norm (Crv.mk px py d)) id))] [tB np nd (if Pi np nd l (Pt.mk (Crv.norm (Crv.mk px py d)) id)=0 then put l (Pt.mk (Crv.norm (Crv.mk px py d)) id) else l)]:=by
 have cf:=UL hx hy hd hk id;have hkn:=hk.norm (by omega);have hnm:=Crv.nml (Crv.mk px py d);obtain ⟨b,r,rfl,rfl,_⟩:=hd;obtain ⟨q,hq⟩:=nmE (Pt.mk (Crv.norm (Crv.mk px py d)) id);have hqi:q.id=id:=by rw [hq]
 have hqc:q.c=Crv.norm (Crv.mk px py d):=by rw [hq]
 rw [<-hq] at cf ⊢;rw [<-hqc] at hkn hnm;have ca:Uz prog 80 [.one (.ow 0 0),.oi q.id] [tB np nd l] [.oi (P6 l id:Int),.one (.bool (has l id))] [tB np nd l]:=by rw [hqi]; exact Qbb id (by omega)
 have cm:=Qbd (p:=q) hkn;have cd:=Qas hnm hkn;have hpl:=qY l id;have hll:(l.map U3).length=l.length:=by simp
 by_cases h0:Ax q=false
 ·have e:Pi np nd l q=1:=by simp [Pi,h0]
  rw [e,if_neg (by decide)];refine Gb func76 rfl ?_;exact Ud [] [0] [.k cf,.c [0] ca,.k cm,.t (by simp [h0])] rfl
 by_cases h1:has l id=true
 ·have e:Pi np nd l q=6:=by simp [Pi,h0,hqi,h1]
  rw [e,if_neg (by decide)];refine Gb func76 rfl ?_;exact Ud [] [0] [.k cf,.c [0] ca,.k cm,.f (by simpa using h0),.t h1] rfl
 by_cases h2:nd<Of q.c
 ·have e:Pi np nd l q=7:=by simp [Pi,h0,hqi,h1,h2]
  rw [e,if_neg (by decide)];refine Gb func76 rfl ?_;exact Ud [] [0] [.k cf,.c [0] ca,.k cm,.f (by simpa using h0),.f (by simpa using h1),.k cd,.t (by simpa using h2)] rfl
 by_cases h3:np<=(l.length:Int)
 ·have e:Pi np nd l q=9:=by simp [Pi,h0,hqi,h1,h2,h3]
  rw [e,if_neg (by decide)];refine Gb func76 rfl ?_;exact Ud [] [0] [.k cf,.c [0] ca,.k cm,.f (by simpa using h0),.f (by simpa using h1),.k cd,.f (by simpa using h2),.t (by simp; omega)] rfl
 have e:Pi np nd l q=0:=by simp [Pi,h0,hqi,h1,h2,h3]
 rw [e,if_pos rfl];have s1:∀ c∈(l.map U3).take (P6 l id),c.length=5:=λc hc=>Ds l c (Qn hc)
 have s3:∀ c∈(l.map U3).drop (P6 l id),c.length=5:=λc hc=>Ds l c (Qy hc)
 have ep:pts (put l q)=.row ((l.map U3).take (P6 l id)++[U3 q]++(l.map U3).drop (P6 l id)):=by
  simp [put,hqi,pts,Yl,Vg]
 have eB:tB np nd (put l q)=.blk 158 [.int .i64 np,.int .i64 nd,.row ((l.map U3).take (P6 l id)++[U3 q]++(l.map U3).drop (P6 l id))]:=by
  show OB.blk 158 [.int .i64 np,.int .i64 nd,pts (put l q)]=_;rw [ep]
 rw [eB];refine Gb func76 rfl ?_;exact Ud [2] [0] [.k cf,.c [0] ca,.k cm,.f (by simpa using h0),.f (by simpa using h1),.k cd,.f (by simpa using h2),.f (by simp; omega),.i (P6 l id),.s s1,.i (P6 l id),.s s3] rfl (by
  simp only [Uw,Q0,Q4,Jd,Qu,Ze,hll]
  and_intros <;> first | exact Ds l | omega)
def Sx (nd:Int) (M:List Pt) (p:Pt):Int:=if Ax p=false then 1 else if has M p.id=false then 5 else if nd<Of p.c then 7 else 0
theorem Qh3 {lx ly:Uo} {px py:Ui} {x y:LV} {d id np nd:Int} {l:List Pt} (hx:IsInts lx px) (hy:IsInts ly py) (hd:Gk x y d) (hk:Cs 4294967294 1073741824 (Crv.mk px py d)) (hl:l.length<=1000000) :
 Uz prog 86 [.one (.ow 0 0),.agg [.row lx,.row ly,x,y,.int .i64 id]] [tB np nd l] [.oi (Sx nd l (Pt.mk (Crv.norm (Crv.mk px py d)) id))] [tB np nd (if Sx nd l (Pt.mk (Crv.norm (Crv.mk px py d)) id)=0 then l.set (P6 l id) (Pt.mk (Crv.norm (Crv.mk px py d)) id) else l)]:=by
 have cf:=UL hx hy hd hk id;have hkn:=hk.norm (by omega);have hnm:=Crv.nml (Crv.mk px py d);obtain ⟨b,r,rfl,rfl,_⟩:=hd;obtain ⟨q,hq⟩:=nmE (Pt.mk (Crv.norm (Crv.mk px py d)) id);have hqi:q.id=id:=by rw [hq]
 have hqc:q.c=Crv.norm (Crv.mk px py d):=by rw [hq]
 rw [<-hq] at cf ⊢;rw [<-hqc] at hkn hnm;have ca:Uz prog 80 [.one (.ow 0 0),.oi q.id] [tB np nd l] [.oi (P6 l id:Int),.one (.bool (has l id))] [tB np nd l]:=by rw [hqi]; exact Qbb id (by omega)
 have cm:=Qbd (p:=q) hkn;have cd:=Qas hnm hkn;have hpl:=qY l id;have hll:(l.map U3).length=l.length:=by simp
 by_cases h0:Ax q=false
 ·have e:Sx nd l q=1:=by simp [Sx,h0]
  rw [e,if_neg (by decide)];refine Gb func86 rfl ?_;exact Ud [] [0] [.k cf,.c [0] ca,.k cm,.t (by simp [h0])] rfl
 by_cases h1:has l id=false
 ·have e:Sx nd l q=5:=by simp [Sx,h0,hqi,h1]
  rw [e,if_neg (by decide)];refine Gb func86 rfl ?_;exact Ud [] [0] [.k cf,.c [0] ca,.k cm,.f (by simpa using h0),.t (by simp [h1])] rfl
 by_cases h2:nd<Of q.c
 ·have e:Sx nd l q=7:=by simp [Sx,h0,hqi,h1,h2]
  rw [e,if_neg (by decide)];refine Gb func86 rfl ?_;exact Ud [] [0] [.k cf,.c [0] ca,.k cm,.f (by simpa using h0),.f (by simpa using h1),.k cd,.t (by simpa using h2)] rfl
 have e:Sx nd l q=0:=by simp [Sx,h0,hqi,h1,h2]
 rw [e,if_pos rfl];have hh:has l id=true:=by simpa using h1
 have hps:=qJ hh;have eB:tB np nd (l.set (P6 l id) q)=.blk 158 [.int .i64 np,.int .i64 nd,.row ((l.map U3).set (P6 l id) (U3 q))]:=by
  show OB.blk 158 [.int .i64 np,.int .i64 nd,pts (l.set (P6 l id) q)]=_;unfold pts; rw [List.map_set]
 rw [eB];refine Gb func86 rfl ?_;exact Ud [2] [0] [.k cf,.c [0] ca,.k cm,.f (by simpa using h0),.f (by simpa using h1),.k cd,.f (by simpa using h2),.s (Ds l),.i (P6 l id)] rfl (by
  simp only [Uw,hll]
  and_intros <;> first | exact Ds l | omega)
def Ih (l:List (Pt×Pt)):Uo:=l.map aY
theorem Qih {l m:Uo} (h:l=m):TV.one (LV.row l)=.one (.row m):=h ▸ rfl
theorem oz {P:Program} [Mo P] {n:Nat} {Q:Exit->Sg->Up->Prop} {L L':Sg} {B B':Up} (d off T sz:Nat) {it:List It} (hs:Ri it=true) (h:aH (P:=P) d L B [.oc d off T sz]=some (L',B',[],[])) (k:AK P n Q it L' B'):AK P n Q it L B:=AK.sub (qK h EqOk.nil) hs k
theorem Qhi {a b:Pt} {t:Tm} (ha:Sc a.c) (hb:Sc b.c) (ht:Va t):Uf 167 [.oi 2,.agg (ta t),.one (.row [U3 a,U3 b])] [.agg (D3 (Cx (Fg t) a b)),.oi 0]:=by
 have h1:=Md hb ha;have h2:=Me hb ha;refine Gb func167 rfl ?_;refine W9 [.k lF,.f rfl] rfl ?_;refine Ue (S:=Nat) 3 (λL1 i=>(22,.v (.oi i))::L1) (λi=>[.blk 189 (ta t),.blk 126 iK,.blk 126 [.int .i64 2,.int .i64 (if 1<=i then a.id else 0),.int .i64 (if 2<=i then b.id else 0),.int .i64 0,.int .i64 0,.nils,.int .i64 0]]) (λi=>2-i) (λi=>i<=2) 0 (Qi _) rfl rfl λi hi=>?_
 rcases (show i=0\/i=1\/i=2 by omega) with rfl | rfl | rfl
 ·refine W9 [.t rfl,.x (i:=0) (xs:=U3 a) rfl,.i 0] rfl ?_ (by simp [Uw]);exact rd 1 (by omega) (by omega) rfl
 ·refine W9 [.t rfl,.x (i:=1) (xs:=U3 b) rfl,.i 1] rfl ?_ (by simp [Uw]);exact rd 2 (by omega) (by omega) rfl
 ·exact Ub [.f rfl,.f rfl,.t rfl,.x (i:=1) (xs:=U3 b) rfl,.x (i:=0) (xs:=U3 a) rfl,.k (VL hb.n ha.n hb.cb ha.cb),.x (i:=1) (xs:=U3 b) rfl,.x (i:=0) (xs:=U3 a) rfl,.k (VA hb.n ha.n hb.cb ha.cb),.k xN,.k (HJ (XU h1 h2).dp ht)] rfl
theorem Qak {a:Tm} (ha:Va a) {c:Cr} {r0 r1:Uo}:∀ (k:Nat) (l:List Pt) (ms:List (Pt×Pt)),l.length≤k->l.length≤1000->ms.length+l.length≤1000000->(∀ p∈l,Sc p.c)->Uz prog 166 [.one (.ow 0 0),.agg (ta a),.one (pts l)] [.blk 199 [.bool true,pl c.now.p,sg c.now.lo.num,mg c.now.lo.num,sg (c.now.lo.den:Int),mg (c.now.lo.den:Int),sg c.now.hi.num,mg c.now.hi.num,sg (c.now.hi.den:Int),mg (c.now.hi.den:Int),.row (B5 c.l),.int .i64 c.ev,.row r0,.row r1,.orow 1 10 none],.row false 264 10 (Ih ms)] [.one (.row (Ut (Np (Fg a) l).1))] [.blk 199 [.bool true,pl c.now.p,sg c.now.lo.num,mg c.now.lo.num,sg (c.now.lo.den:Int),mg (c.now.lo.den:Int),sg c.now.hi.num,mg c.now.hi.num,sg (c.now.hi.den:Int),mg (c.now.hi.den:Int),.row (B5 c.l),.int .i64 c.ev,.row r0,.row r1,.orow 1 10 none],.row false 264 10 (Ih (ms++(Np (Fg a) l).2))]
 := by
  intro k
  induction k with
  | zero=>?_
  | succ k ih=>?_
  all_goals
   intro l ms hk hn hms hl;have hcl:=Gs l;show Uz prog 166 [.one (.ow 0 0),.agg (ta a),.one (.row (Ut l))] _ _ _;by_cases hs:l.length<2
   ·rw [Bh _ hs,Zy];refine Gb func166 rfl ?_;exact Ud [] [0,1] [.t (by simp [hcl]; omega)] rfl
   first
    | (exfalso; omega)
    |
     skip
     obtain ⟨k1,k2,k3,k4⟩:=Qcw hs hk;obtain ⟨h,hh⟩:=nmE ((l.length+1) / 2);obtain ⟨u,hu,hul,_⟩:=Mj (Fg a) k (l.take ((l.length+1) / 2)) k1 k3;obtain ⟨v,hv,hvl,_⟩:=Mj (Fg a) k (l.drop ((l.length+1) / 2)) k2 k4;have g1:=Ci (Fg a) _ (l.take ((l.length+1) / 2)) (Ql _);have g2:=Ci (Fg a) _ (l.drop ((l.length+1) / 2)) (Ql _);have hlt:(l.take ((l.length+1) / 2)).length+(l.drop ((l.length+1) / 2)).length=l.length:=by rw [Qu,Ze]; omega
     have c1:=ih (l.take ((l.length+1) / 2)) ms k1 (by omega) (by omega) λp hp=>hl p (Qn hp)
     have c2:=ih (l.drop ((l.length+1) / 2)) (ms++(Np (Fg a) (l.take ((l.length+1) / 2))).2) k2 (by omega) (by rw [Q0]; omega) λp hp=>hl p (Qy hp)
     have hpl:=Is (Fg a) hs hu hv;rw [hpl];rw [hu] at c1;rw [hv] at c2;generalize (Np (Fg a) (l.take ((l.length+1) / 2))).2=G1 at *;generalize (Np (Fg a) (l.drop ((l.length+1) / 2))).2=G2 at *;have hsu:=hl u (Qn hul);have hsv:=hl v (Qy hvl);have cb:=Qg8 (t:=a) hsu hsv ha;have htd:((l.length:Int)+1).tdiv 2=(((l.length+1) / 2:Nat):Int):=rfl;have hg:∀ m,Ih (ms++(G1++G2++[m]))=Ih ((ms++G1)++G2)++[aY m]:=λm=>by simp [Ih]
     have hml:(Ih ((ms++G1)++G2)).length=ms.length+G1.length+G2.length:=by simp [Ih]; omega
     have hml2:(Ih (ms++(G1++G2))).length=ms.length+G1.length+G2.length:=by simp [Ih]; omega
     have h5:=eq_true (p:=∀ z,z∈Ut l->z.length=ti41.sz) (XC l);have e1:(Ut l).take ((l.length+1) / 2)=Ut (l.take ((l.length+1) / 2)):=by simp [Ut,Yl]
     have e2:(Ut l).drop ((l.length+1) / 2)=Ut (l.drop ((l.length+1) / 2)):=by simp [Ut,Vg]
     unfold RU;refine Gb func166 rfl ?_;by_cases hb:Nt (Fg a) u v=true
     ·rw [if_pos hb,hg];exact Ud [] [0,1] [.f (by simp [hcl]; omega),.r 17 (eI (b:=(((l.length+1) / 2:Nat):Int)) (by rw [hcl]; rfl)),.i ((l.length+1) / 2),.r 22 (Qih e1),.c [0,1] c1,.i ((l.length+1) / 2),.r 28 (Qih e2),.c [0,1] c2,.x (i:=0) (l:=Ut [u]) (xs:=U3 u) rfl,.x (i:=0) (l:=Ut [v]) (xs:=U3 v) rfl,.k cb,.f (by rw [hb]; rfl),.x (i:=0) (l:=Ut [u]) (xs:=U3 u) rfl,.x (i:=0) (l:=Ut [v]) (xs:=U3 v) rfl,.s (sz:=10) (l:=[aY (u,v)]) (λc hc=>by rw [Qj.1 hc]; rfl),.i 1] rfl (by simp [Uw,Gs,hml2,h5]; omega)
     ·have hb:Nt (Fg a) u v=false:=by simpa using hb
      rw [if_neg (by simp [hb]),hg];exact Ud [] [0,1] [.f (by simp [hcl]; omega),.r 17 (eI (b:=(((l.length+1) / 2:Nat):Int)) (by rw [hcl]; rfl)),.i ((l.length+1) / 2),.r 22 (Qih e1),.c [0,1] c1,.i ((l.length+1) / 2),.r 28 (Qih e2),.c [0,1] c2,.x (i:=0) (l:=Ut [u]) (xs:=U3 u) rfl,.x (i:=0) (l:=Ut [v]) (xs:=U3 v) rfl,.k cb,.t (by rw [hb]; rfl),.x (i:=0) (l:=Ut [v]) (xs:=U3 v) rfl,.x (i:=0) (l:=Ut [u]) (xs:=U3 u) rfl,.s (sz:=10) (l:=[aY (v,u)]) (λc hc=>by rw [Qj.1 hc]; rfl),.i 1] rfl (by simp [Uw,Gs,hml2,h5]; omega)
theorem DK {l:List Pt} {a:Tm} {c:Cr} {r1:Uo×Uo} (hl:∀ p∈l,Sc p.c) (hn:l.length≤1000) (ha:Va a):Uz prog 123 [.one (.ow 0 0),.agg (ta a)] [.blk 199 (Tt c (Ut l) r1)] [.one (.row (Fc (zR l a)))] [.blk 199 (Tt c (Ut l) (dC l a))]:=by
 have cp:=Qak (r0:=Ut l) (c:=c) (r1:=r1.1) ha l.length l [] (Ql _) hn (by show 0+l.length≤1000000; omega) hl;have hms:=Ci (Fg a) l.length l (Ql _);unfold zR dC;obtain ⟨M,hM⟩:=nmE ((Np (Fg a) l).2);have hmm:∀ m∈M,Sc m.1.c/\Sc m.2.c:=λm hm=>by
  rw [hM] at hm;exact ⟨hl _ (ZR m hm).1,hl _ (ZR m hm).2⟩
 rw [<-hM] at cp hms ⊢;rw [Yf] at cp;have hgl:(Ih M).length=M.length:=by simp [Ih]
 refine Gb func123 rfl ?_;refine W9 [] rfl ?_;refine oz 0 14 264 10 rfl rfl ?_;refine W9 [.k As,.c [0,2] cp,.o 5 126 7] rfl ?_;refine Ue (S:=Nat) 4 (λL1 i=>(29,.v (.oi i))::(5,.v (.one (.orow 3 7 none)))::L1) (λi=>[.blk 199 [.bool true,pl c.now.p,sg c.now.lo.num,mg c.now.lo.num,sg (c.now.lo.den:Int),mg (c.now.lo.den:Int),sg c.now.hi.num,mg c.now.hi.num,sg (c.now.hi.den:Int),mg (c.now.hi.den:Int),.row (B5 c.l),.int .i64 c.ev,.row (Ut l),.row (Ut (Np (Fg a) l).1),.orow 2 10 none],.blk 189 (ta a),.row false 264 10 (Ih M),.row false 126 7 (Fc ((M.map λm=>Cx (Fg a) m.1 m.2).take i))]) (λi=>M.length-i) (λi=>i<=M.length) 0 (Qi _) rfl rfl λi hi=>?_
 by_cases hlt:i<M.length
 ·obtain ⟨m,hm⟩:=gxE (l:=M) (i:=i) hlt;obtain ⟨s1,s2⟩:=hmm m (Qa hm);have hg:(Ih M)[i]? = some (aY m):=H9 hm;have hq:∀ y∈[D3 (Cx (Fg a) m.1 m.2)],y.length=7:=λy hy=>by rw [Qj.1 hy]; rfl
  have ht:(M.map λm=>Cx (Fg a) m.1 m.2).take (i+1)=(M.map λm=>Cx (Fg a) m.1 m.2).take i++[Cx (Fg a) m.1 m.2]:=by
   rw [Z5,Zw,hm]; rfl
  refine go tt [.T,.i i,.x hg,.i 0,.i 1,.k (Qhi s1 s2 ha),.s (sz:=7) hq] rfl (by simp [Uw,hgl,Mw]; omega) ?_;exact rd (i+1) (by omega) hlt (by rw [ht]; simp [Fc]; rfl)
 ·obtain rfl:i=M.length:=by omega
  rw [Qo (by simp)];exact Ud [2,3] [0] [.F] rfl
def Qqr (l:List Pt) (a:Tm):Cr:=⟨a,(Fj (zR l a)).map fresh,0⟩
theorem Qht {t:Rat} {l:List Pt} {K:Nat} {c c':Cr} {r1 r1':Uo×Uo} {n:Int} (ht:Qs 1640000 t) (hl:∀ p∈l,Sc p.c) (hn:l.length≤1000) (hc:CrOk c) (hev:0≤c.ev/\c.ev+K≤1000000000000000000) (h:Fe c.now t≤0) (hg:VP (zR l) (dC l) t K c r1 0=some (c',r1',n)) :
 Uz prog 393 [.one (.ow 0 0),.agg (rl t)] [.blk 199 (Tt c (Ut l) r1)] [.oi n,.oi 0] [.blk 199 (Tt c' (Ut l) r1')]:=by
 have cg:=Qq4 (T:=199) (r0:=Ut l) ht (uG hl hn) (λa c r1 ha _=>DK (c:=c) (r1:=r1) hl hn ha) hc hev h hg;refine Gb func393 rfl ?_;exact Ud [] [0] [.k (Nw (ht.mono (by decide))),.c [0] cg] rfl
theorem Qhv {c:Cr} {r0 r2:Uo} {w:Pt}:Uz prog 91 [.one (.ow 0 0)] [.blk 199 (Tt c r0 ([U3 w],r2))] [.oi w.id,.one (.bool true)] [.blk 199 (Tt c r0 ([U3 w],r2))]:=by
 refine Gb func91 rfl ?_;exact Ud [] [0] [.f rfl,.x (i:=0) (xs:=U3 w) rfl] rfl
theorem Qao {c:Cr} {r0 r2:Uo}:Uz prog 91 [.one (.ow 0 0)] [.blk 199 (Tt c r0 ([],r2))] [.oi 0,.one (.bool false)] [.blk 199 (Tt c r0 ([],r2))]:=by
 refine Gb func91 rfl ?_;exact Ud [] [0] [.t rfl] rfl
end Orr
namespace Orr
open Go Go.Proofs Tryz
set_option maxRecDepth 10000
theorem KY (x:Nat):(No (Fx x)).length=(Fx x).length:=Td _
theorem aV (z:Int):∀ c∈[[LV.int .i64 z]],c.length=1:=λc hc=>by rw [Qj.1 hc]; rfl
theorem Qra {x:Nat} (h:x<=1000000000):(Fx x).length<=3:=lD (by omega)
theorem aA (n:Nat):((n:Nat):Int).tdiv 10000=((n / 10000:Nat):Int):=rfl
theorem VW (n:Nat):((n:Nat):Int).tdiv 2=((n / 2:Nat):Int):=rfl
theorem xC {x mu c0:Nat} (hx:sz x<=100000000) (hmu:mu<=65536) (hc:c0<=1000000000):Uf 158 [.one (nd x),.oi mu,.oi c0] [.one (nd (x*mu+c0))]:=by
 have hxl:=Qc (Px x) hx;have hll:=KY x;show Uf 158 [.one (.row (No (Fx x))),.oi mu,.oi c0] _;refine Gb func158 rfl ?_;refine Ua [.r 11 (eI (b:=(((Fx x).length+2:Nat):Int)) (by rw [hll]; omega)),.i 0,.i ((Fx x).length+2)] rfl ?_;refine Ue (S:=Nat×Nat×Uk) 1 (λL1 s=>(8,.v (.oi (s.1:Int)))::(7,.v (.one (.orow 0 1 none)))::(2,.v (.oi (s.2.1:Int)))::L1.filter (λx=>x.1 != 12)) (λs=>[.row false 3 1 (No s.2.2)]) (λs=>((Fx x).length-s.1)*4+(Fx s.2.1).length) (λs=>Dg s.2.2/\s.2.2.length=s.1/\Rq s.2.2+s.2.1*10000^s.1=Rq ((Fx x).take s.1)*mu+c0/\(s.1<=(Fx x).length\/s.1+(Fx s.2.1).length<=(Fx x).length+3)/\s.2.1<=1000000000) (0,c0,[]) ⟨Dg.nil,rfl,by simp [Rq],.inl (Qi _),hc⟩ rfl rfl λs hs=>?_
 obtain ⟨i,c,o⟩:=s;obtain ⟨hp0,hp1,hp2,hp3,hp4⟩:=hs;dsimp only at hp0 hp1 hp2 hp3 hp4 ⊢;have hcl:=Qra (x:=c) hp4;by_cases h1:i<(Fx x).length
 ·obtain ⟨d,hd⟩:=gxE (l:=(Fx x)) (i:=i) h1;have hd9:=Nz x d (Qa hd);have hdm:d*mu<=9999*65536:=Q7 (by omega) hmu;have hc3:=Qra (x:=(c+d*mu) / 10000) (by omega);have hol:(No o).length=i:=by rw [Td,hp1]
  refine go tt [.g 17 true Uh,.t rfl,.T,.x (Gn hd),.r 33 (eI (b:=((d*mu:Nat):Int)) (by simp)),.r 34 (eI (b:=((c+d*mu:Nat):Int)) (by omega)),.r 37 (eI (b:=(((c+d*mu) % 10000:Nat):Int)) (by rfl)),.s (sz:=1) (aV _),.r 41 (eI (b:=(((c+d*mu) / 10000:Nat):Int)) (by rfl))] rfl (by simp [Uw,hol,aA,VW,-Int.natCast_add,-Int.natCast_mul]; omega) ?_;exact rd (i+1,(c+d*mu) / 10000,o++[(c+d*mu) % 10000]) (by dsimp only; omega) ⟨hp0.snoc (Nat.mod_lt _ (by decide)),by dsimp only; rw [List.length_append]; show o.length+1=_; omega,by
   dsimp only;rw [Ss,Ta hd,hp1,Nat.pow_succ]; simp only [Rq,Nat.mul_zero,Nat.add_zero]; have:=DD (d:=d) (m:=mu) rfl hp2; rw [this]; grind,.inl (by dsimp only; omega),by dsimp only; omega⟩ (by rw [Al]; rfl)
 ·by_cases h2:0<c
  ·have hdc:=Aj (x:=c) (by omega);have hol:(No o).length=i:=by rw [Td,hp1]
   refine go tt [.g 17 false Ug,.T,.F,.r 37 (eI (b:=((c % 10000:Nat):Int)) (by rfl)),.s (sz:=1) (aV _),.r 41 (eI (b:=((c / 10000:Nat):Int)) (by rfl))] rfl (by simp [Uw,hol,aA,VW,-Int.natCast_add]; omega) ?_;exact rd (i+1,c / 10000,o++[c % 10000]) (by dsimp only; omega) ⟨hp0.snoc (Nat.mod_lt _ (by decide)),by dsimp only; rw [List.length_append]; show o.length+1=_; omega,by
    dsimp only;rw [Ss,hp1,Nat.pow_succ]; simp only [Rq,Nat.mul_zero,Nat.add_zero]; have:=DD (d:=0) (m:=mu) rfl hp2; simp only [Nat.zero_mul,Nat.mul_zero,Nat.add_zero] at this; rw [this,List.take_of_length_le (by omega),List.take_of_length_le (by omega)],.inr (by dsimp only; omega),by dsimp only; omega⟩ (by rw [Al]; rfl)
  ·have cc:=UD hp0;rw [show Rq o=x*mu+c0 from by
    have h:=hp2; rw [Qo (by omega),Ht,show c=0 by omega] at h; omega] at cc
   exact Ub [.g 17 false Ug,.F,.k cc] rfl
theorem uD {x y:Nat} (hx:sz x<=200000000) (hy:sz y<=200000000):Uf 116 [.one (nd x),.one (nd y)] [.oi (O9 x y)]:=by
 have hxl:=Qc (Px x) hx;have hyl:=Qc (Px y) hy;have lx:=KY x;have ly:=KY y;show Uf 116 [.one (.row (No (Fx x))),.one (.row (No (Fx y)))] _;refine Gb func116 rfl ?_;by_cases hl:(Fx x).length=(Fx y).length
 ·refine Ua [.f (by simp; omega),.r 18 (eI (b:=((Fx x).length:Int)-1) (by rw [lx]))] rfl ?_;refine Ue (S:=Nat) 0 (λL1 j=>(5,.v (.oi ((j:Int)-1)))::L1) (λ_=>[]) (λj=>j) (λj=>j<=(Fx x).length/\(Fx x).drop j=(Fx y).drop j) (Fx x).length ⟨Ql _,by rw [Yu (Ql _),Yu (by omega)]⟩ rfl rfl λj hs=>?_
  obtain ⟨hj,hp⟩:=hs;cases j with
  |
   zero =>
   have hxy:x=y:=by rw [Xw,Xw] at hp; rw [<-Ht x,<-Ht y,hp]
   exact Ub [.f (by simp)] rfl (by rw [mX hxy]) trivial
  |
   succ j =>
   obtain ⟨d,hd⟩:=gxE (l:=(Fx x)) (i:=j) (by omega);obtain ⟨e,he⟩:=gxE (l:=(Fx y)) (i:=j) (by omega);have ej:((j+1:Nat):Int)-1=(j:Int):=by omega
   rw [ej];by_cases h2:d=e
   ·refine Ua [.T,.x (Gn hd),.x (Gn he),.f (by simp [h2])] rfl ?_;exact rd j (by omega) ⟨by omega,by rw [Zp (by omega:j<(Fx x).length),Zp (by omega:j<(Fx y).length),hp,(Qe.1 hd).2,(Qe.1 he).2,h2]⟩ rfl
   ·by_cases h3:d<e
    ·have hxy:=PO (Nz x) hd he hp h3;rw [Ht,Ht] at hxy;exact Ub [.T,.x (Gn hd),.x (Gn he),.t (by simp; omega),.x (Gn hd),.x (Gn he),.T] rfl (by rw [TJ hxy]) trivial
    ·have hxy:=PO (Nz y) he hd hp.symm (by omega);rw [Ht,Ht] at hxy;exact Ub [.T,.x (Gn hd),.x (Gn he),.t (by simp; omega),.x (Gn hd),.x (Gn he),.F] rfl (by rw [TX hxy]) trivial
 ·by_cases hlt:(Fx x).length<(Fx y).length
  ·exact Ub [.t (by simp; omega),.T] rfl (by rw [TJ (jK hlt)]) trivial
  ·exact Ub [.t (by simp; omega),.F] rfl (by rw [TX (jK (by omega))]) trivial
theorem XK {o c s P V:Nat} (h:o+c*P=V):o+P*((c+s) % 10000)+(c+s) / 10000*(P*10000)=V+P*s:=by
 have e:=Xb (c+s) 10000;generalize (c+s) / 10000=q at *;generalize (c+s) % 10000=r at *;have e2:P*(c+s)=P*(10000*q+r):=by rw [e]
 grind
theorem Ib {l:Uk} {i:Nat} (h:l.length<=i):Rq (l.take (i+1))=Rq (l.take i):=by rw [Qo (by omega),Qo h]
theorem mS {l:Uk} {p v u:Nat} (h:l[p]? = some v):Rq (l.set p u)+10000^p*v=Rq l+10000^p*u:=by
 have hp:=(Qe.1 h).1;rw [TF (l.set p u) p (by rw [Xf]; omega),TF l p (by omega),QR h,FQ hp,List.take_set_of_le (Ql _)];simp only [Rq];generalize 10000^p=P;grind
theorem Am {l:Uk} {p u:Nat} (h:p<l.length):Rq ((l.set p u).take (p+1))=Rq (l.take p)+10000^p*u:=by
 rw [Ta (l:=l.set p u) (i:=p) (x:=u) (by simp [h]),List.take_set_of_le (Ql _)]
structure AddI (x y:Nat) (s:Nat×Nat×List Nat):Prop where
 d:Dg s.2.2
 l:s.2.2.length=s.1
 v:Rq s.2.2+s.2.1*10000^s.1=Rq ((Fx x).take s.1)+Rq ((Fx y).take s.1)
 c:s.2.1<=1
 b:s.1<=max (Fx x).length (Fx y).length\/s.1=max (Fx x).length (Fx y).length+1/\10000^(max (Fx x).length (Fx y).length)<=x+y/\s.2.1=0
theorem Qm0 {x y:Nat} (hx:sz x<=200000000) (hy:sz y<=200000000):Uf 115 [.one (nd x),.one (nd y)] [.one (nd (x+y))]:=by
 have hxl:=Qc (Px x) hx;have hyl:=Qc (Px y) hy;have lx:=KY x;have ly:=KY y;show Uf 115 [.one (.row (No (Fx x))),.one (.row (No (Fx y)))] _;refine Gb func115 rfl ?_;refine W9 [.o 5 3 1] rfl ?_;refine Ue (S:=Nat×Nat×Uk) 1 (λL1 s=>(7,.v (.oi (s.1:Int)))::(6,.v (.oi (s.2.1:Int)))::(5,.v (.one (.orow 0 1 none)))::L1) (λs=>[.row false 3 1 (No s.2.2)]) (λs=>(max (Fx x).length (Fx y).length-s.1)*2+s.2.1) (AddI x y) (0,0,[]) ⟨Dg.nil,rfl,by simp [Rq],by decide,.inl (Qi _)⟩ rfl rfl λs hs=>?_
 obtain ⟨i,c,o⟩:=s;obtain ⟨hp0,hp1,hp2,hp3,hp4⟩:=hs;dsimp only at hp0 hp1 hp2 hp3 hp4 ⊢;have hol:(No o).length=i:=by rw [Td,hp1]
 by_cases h1:i<(Fx x).length
 ·obtain ⟨d,hd⟩:=gxE (l:=(Fx x)) (i:=i) h1;have hd9:=Nz x d (Qa hd);by_cases h2:i<(Fx y).length
  ·obtain ⟨e,he⟩:=gxE (l:=(Fx y)) (i:=i) h2;have he9:=Nz y e (Qa he);refine go tt [.g 12 true Uh,.g 18 true rfl,.t rfl,.T,.x (Gn hd),.r 33 (eI (b:=((c+d:Nat):Int)) (by omega)),.T,.x (Gn he),.r 43 (eI (b:=((c+(d+e):Nat):Int)) (by omega)),.r 46 (eI (b:=(((c+(d+e)) % 10000:Nat):Int)) (by rfl)),.s (sz:=1) (aV _),.r 50 (eI (b:=(((c+(d+e)) / 10000:Nat):Int)) (by rfl))] rfl (by simp [Uw,hol,aA,VW,-Int.natCast_add]; omega) ?_;exact rd (i+1,(c+(d+e)) / 10000,o++[(c+(d+e)) % 10000]) (by dsimp only; omega) ⟨hp0.snoc (Nat.mod_lt _ (by decide)),by dsimp only; rw [List.length_append]; show o.length+1=_; omega,by
    dsimp only;rw [Ss,hp1,Nat.pow_succ]; simp only [Rq,Nat.mul_zero,Nat.add_zero]; have:=XK (s:=d+e) hp2; rw [this,Ta hd,Ta he]; grind,by dsimp only; omega,.inl (by dsimp only; omega)⟩ (by rw [Al]; rfl)
  ·refine go tt [.g 12 true Uh,.g 18 true rfl,.t rfl,.T,.x (Gn hd),.r 33 (eI (b:=((c+d:Nat):Int)) (by omega)),.F,.r 46 (eI (b:=(((c+d) % 10000:Nat):Int)) (by rfl)),.s (sz:=1) (aV _),.r 50 (eI (b:=(((c+d) / 10000:Nat):Int)) (by rfl))] rfl (by simp [Uw,hol,aA,VW,-Int.natCast_add]; omega) ?_;exact rd (i+1,(c+d) / 10000,o++[(c+d) % 10000]) (by dsimp only; omega) ⟨hp0.snoc (Nat.mod_lt _ (by decide)),by dsimp only; rw [List.length_append]; show o.length+1=_; omega,by
    dsimp only;rw [Ss,hp1,Nat.pow_succ]; simp only [Rq,Nat.mul_zero,Nat.add_zero]; have:=XK (s:=d) hp2; rw [this,Ta hd,Ib (l:=Fx y) (by omega)]; grind,by dsimp only; omega,.inl (by dsimp only; omega)⟩ (by rw [Al]; rfl)
 ·by_cases h2:i<(Fx y).length
  ·obtain ⟨e,he⟩:=gxE (l:=(Fx y)) (i:=i) h2;have he9:=Nz y e (Qa he);refine go tt [.g 12 false Ug,.g 18 true Uh,.t rfl,.F,.T,.x (Gn he),.r 43 (eI (b:=((c+e:Nat):Int)) (by omega)),.r 46 (eI (b:=(((c+e) % 10000:Nat):Int)) (by rfl)),.s (sz:=1) (aV _),.r 50 (eI (b:=(((c+e) / 10000:Nat):Int)) (by rfl))] rfl (by simp [Uw,hol,aA,VW,-Int.natCast_add]; omega) ?_;exact rd (i+1,(c+e) / 10000,o++[(c+e) % 10000]) (by dsimp only; omega) ⟨hp0.snoc (Nat.mod_lt _ (by decide)),by dsimp only; rw [List.length_append]; show o.length+1=_; omega,by
    dsimp only;rw [Ss,hp1,Nat.pow_succ]; simp only [Rq,Nat.mul_zero,Nat.add_zero]; have:=XK (s:=e) hp2; rw [this,Ta he,Ib (l:=Fx x) (by omega)]; grind,by dsimp only; omega,.inl (by dsimp only; omega)⟩ (by rw [Al]; rfl)
  ·by_cases h3:0<c
   ·refine go tt [.g 12 false Ug,.g 18 false Ug,.T,.F,.F,.r 46 (eI (b:=((c % 10000:Nat):Int)) (by rfl)),.s (sz:=1) (aV _),.r 50 (eI (b:=((c / 10000:Nat):Int)) (by rfl))] rfl (by simp [Uw,hol,aA,VW,-Int.natCast_add]; omega) ?_;exact rd (i+1,c / 10000,o++[c % 10000]) (by dsimp only; omega) ⟨hp0.snoc (Nat.mod_lt _ (by decide)),by dsimp only; rw [List.length_append]; show o.length+1=_; omega,by
     dsimp only;rw [Ss,hp1,Nat.pow_succ]; simp only [Rq,Nat.mul_zero,Nat.add_zero]; have:=XK (s:=0) hp2; rw [Nat.add_zero,Nat.mul_zero,Nat.add_zero] at this; rw [this,Ib (l:=Fx y) (by omega),Ib (l:=Fx x) (by omega)],by dsimp only; omega,.inr ⟨by dsimp only; omega,by
      have h:=hp2; rw [List.take_of_length_le (by omega),List.take_of_length_le (by omega),Ht,Ht,show c=1 by omega,Nat.one_mul,show i=(max (Fx x).length (Fx y).length) by omega] at h; omega,by dsimp only; omega⟩⟩ (by rw [Al]; rfl)
   ·have hv:Rq o=x+y:=by
     have h:=hp2;rw [Qo (by omega),Qo (by omega),Ht,Ht,show c=0 by omega] at h;omega
    have hfin:o=Fx (x+y):=by
     have h:=Qbs (o:=o) hp0;rw [hv] at h;refine h ?_;have m1:=QF (x:=x) (y:=x+y) (by omega);have m2:=QF (x:=y) (y:=x+y) (by omega);rcases hp4 with hb | ⟨_,hb,_⟩
     ·omega
     ·have:=lC hb; omega
    exact Ub [.g 12 false Ug,.g 18 false Ug,.F] rfl (by rw [hfin]; rfl) trivial
theorem XF {o b a c P u d e c':Nat} (h:o+b=a+c*P) (hs:u+e+c=d+10000*c'):(o+P*u)+(b+P*e)=(a+P*d)+c'*(P*10000):=by
 have e2:P*(u+e+c)=P*(d+10000*c'):=by rw [hs]
 grind
theorem Og (o:Uk) (i u:Nat):No (o.set i u)=(No o).set i [.int .i64 (u:Int)]:=by simp [No,Ka]
theorem uA {x y:Nat} (hx:sz x<=200000000) (hy:sz y<=200000000) (hyx:y<=x):Uf 117 [.one (nd x),.one (nd y)] [.one (nd (x-y))]:=by
 have hxl:=Qc (Px x) hx;have hyl:=Qc (Px y) hy;have lx:=KY x;have ly:=KY y;have hmy:=QF hyx;show Uf 117 [.one (.row (No (Fx x))),.one (.row (No (Fx y)))] _;refine Gb func117 rfl ?_;refine Ua [.i (No (Fx x)).length,.i (No (Fx x)).length] rfl ?_;rw [lx,show List.replicate (Fx x).length [LV.int .i64 0]=No (List.replicate (Fx x).length 0) from by simp [No]];refine Ue (S:=Nat×Nat×Uk) 1 (λL1 s=>(14,.v (.oi (s.1:Int)))::(6,.v (.oi (s.2.1:Int)))::L1) (λs=>[.row false 3 1 (No s.2.2)]) (λs=>(Fx x).length-s.1) (λs=>s.1<=(Fx x).length/\s.2.2.length=(Fx x).length/\Dg s.2.2/\Rq (s.2.2.take s.1)+Rq ((Fx y).take s.1)=Rq ((Fx x).take s.1)+s.2.1*10000^s.1/\s.2.1<=1) (0,0,List.replicate (Fx x).length 0) ⟨Qi _,Y3 ..,Dg.zeros _,by simp [Rq],Qi _⟩ rfl rfl λs hs=>?_
 obtain ⟨i,c,o⟩:=s;obtain ⟨hp0,hp1,hp2,hp3,hp4⟩:=hs;dsimp only at hp0 hp1 hp2 hp3 hp4 ⊢;have hol:(No o).length=(Fx x).length:=by rw [Td,hp1]
 by_cases h1:i<(Fx x).length
 ·obtain ⟨d,hd⟩:=gxE (l:=(Fx x)) (i:=i) h1;have hd9:=Nz x d (Qa hd);by_cases h2:i<(Fx y).length
  ·obtain ⟨e,he⟩:=gxE (l:=(Fx y)) (i:=i) h2;have he9:=Nz y e (Qa he);by_cases h3:d<c+e
   ·refine go tt [.T,.x (Gn hd),.T,.x (Gn he),.T,.r 36 (eI (b:=((d+10000-c-e:Nat):Int)) (by omega)),.i i] rfl (by simp [Uw,hol,aA,VW,-Int.natCast_add]; omega) ?_;exact rd (i+1,1,o.set i (d+10000-c-e)) (by dsimp only; omega) ⟨by dsimp only; omega,by dsimp only; rw [List.length_set]; exact hp1,hp2.set (by omega),by
     dsimp only;rw [Am (by omega),Ta hd,Ta he,Nat.pow_succ]; exact XF hp3 (u:=d+10000-c-e) (d:=d) (e:=e) (c':=1) (by omega),by dsimp only; omega⟩ (by rw [Og]; rfl)
   ·refine go tt [.T,.x (Gn hd),.T,.x (Gn he),.r 32 (eI (b:=((d-c-e:Nat):Int)) (by omega)),.F,.i i] rfl (by simp [Uw,hol,aA,VW,-Int.natCast_add]; omega) ?_;exact rd (i+1,0,o.set i (d-c-e)) (by dsimp only; omega) ⟨by dsimp only; omega,by dsimp only; rw [List.length_set]; exact hp1,hp2.set (by omega),by
     dsimp only;rw [Am (by omega),Ta hd,Ta he,Nat.pow_succ]; exact XF hp3 (u:=d-c-e) (d:=d) (e:=e) (c':=0) (by omega),by dsimp only; omega⟩ (by rw [Og]; rfl)
  ·have hy0:Rq ((Fx y).take (i+1))=Rq ((Fx y).take i)+10000^i*0:=by rw [Ib (by omega),Yy,Xk]
   by_cases h3:d<c
   ·refine go tt [.T,.x (Gn hd),.F,.T,.r 36 (eI (b:=((d+10000-c:Nat):Int)) (by omega)),.i i] rfl (by simp [Uw,hol,aA,VW,-Int.natCast_add]; omega) ?_;exact rd (i+1,1,o.set i (d+10000-c)) (by dsimp only; omega) ⟨by dsimp only; omega,by dsimp only; rw [List.length_set]; exact hp1,hp2.set (by omega),by
     dsimp only;rw [Am (by omega),Ta hd,hy0,Nat.pow_succ]; exact XF hp3 (u:=d+10000-c) (d:=d) (e:=0) (c':=1) (by omega),by dsimp only; omega⟩ (by rw [Og]; rfl)
   ·refine go tt [.T,.x (Gn hd),.r 22 (eI (b:=((d-c:Nat):Int)) (by omega)),.F,.F,.i i] rfl (by simp [Uw,hol,aA,VW,-Int.natCast_add]; omega) ?_;exact rd (i+1,0,o.set i (d-c)) (by dsimp only; omega) ⟨by dsimp only; omega,by dsimp only; rw [List.length_set]; exact hp1,hp2.set (by omega),by
     dsimp only;rw [Am (by omega),Ta hd,hy0,Nat.pow_succ]; exact XF hp3 (u:=d-c) (d:=d) (e:=0) (c':=0) (by omega),by dsimp only; omega⟩ (by rw [Og]; rfl)
 ·have hi:i=(Fx x).length:=by omega
  have hv:Rq o=x-y:=by
   have h:=hp3;rw [Qo (by omega),Qo (by omega),Qo (by omega),Ht,Ht] at h;have hlt:=MY hp2;rw [hp1,<-hi] at hlt;have hc0:c=0:=by
    rcases Q5 c with h0 | h0
    ·exact h0
    ·exfalso;have:c=1:=by omega
     rw [this,Wh] at h; omega
   rw [hc0] at h; omega
  have cc:=UD hp2;rw [hv] at cc;exact Ub [.F,.k cc] rfl
theorem MX {o o2 c P u v s V:Nat} (h:o+c*P=V) (hs:o2+P*v=o+P*u) {q:Nat} (hu:u+10000*q=v+c+s):o2+q*(P*10000)=V+P*s:=by
 have e2:P*(u+10000*q)=P*(v+c+s):=by rw [hu]
 grind
theorem Qrb (S:Nat):S % 10000+10000*(S / 10000)=S:=W4 S 10000
structure MulI (x y i d:Nat) (s:Nat×Nat×List Nat):Prop where
 l:s.2.2.length=(Fx x).length+(Fx y).length
 dg:Dg s.2.2
 v:Rq s.2.2+s.2.1*10000^(i+s.1)=Rq ((Fx x).take i)*y+10000^i*d*Rq ((Fx y).take s.1)
 c:s.2.1<10000
 b:s.1<=(Fx y).length/\(∀ j v,i+(Fx y).length<=j->s.2.2[j]? = some v->v=0)\/s.1=(Fx y).length+1/\s.2.1=0/\∀ j v,i+(Fx y).length+1<=j->s.2.2[j]? = some v->v=0
theorem Qm9 {x y:Nat} (hx:sz x<=200000000) (hy:sz y<=200000000):Uf 113 [.one (nd x),.one (nd y)] [.one (nd (x*y))]:=by
 have hxl:=Qc (Px x) hx;have hyl:=Qc (Px y) hy;have lx:=KY x;have ly:=KY y;show Uf 113 [.one (.row (No (Fx x))),.one (.row (No (Fx y)))] _;refine Gb func113 rfl ?_;refine Ua [.r 14 (eI (b:=(((Fx x).length+(Fx y).length:Nat):Int)) (by rw [lx,ly]; omega)),.i ((Fx x).length+(Fx y).length),.i ((Fx x).length+(Fx y).length)] rfl ?_;rw [show List.replicate ((Fx x).length+(Fx y).length) [LV.int .i64 0]=No (List.replicate ((Fx x).length+(Fx y).length) 0) from by simp [No]];refine Ue (S:=Nat×Uk) 1 (λL1 s=>(18,.v (.oi (s.1:Int)))::L1) (λs=>[.row false 3 1 (No s.2)]) (λs=>(Fx x).length-s.1) (λs=>s.1<=(Fx x).length/\s.2.length=(Fx x).length+(Fx y).length/\Dg s.2/\Rq s.2=Rq ((Fx x).take s.1)*y/\∀ j v,s.1+(Fx y).length<=j->s.2[j]? = some v->v=0) (0,List.replicate ((Fx x).length+(Fx y).length) 0) ⟨Qi _,Y3 ..,Dg.zeros _,by rw [MV (λx hx=>Z0 hx)]; simp [Rq],λj v _ hv=>Z0 (Qa hv)⟩ rfl rfl λs hs=>?_
 obtain ⟨i,o⟩:=s;obtain ⟨hp0,hp1,hp2,hp3,hp4⟩:=hs;dsimp only at hp0 hp1 hp2 hp3 hp4 ⊢;by_cases h1:i<(Fx x).length
 ·obtain ⟨d,hd⟩:=gxE (l:=(Fx x)) (i:=i) h1;have hd9:=Nz x d (Qa hd);refine W9 [.T] rfl ?_;refine Ue (S:=Nat×Nat×Uk) 1 (λL1 s=>(8,.v (.oi (s.1:Int)))::(7,.v (.oi (s.2.1:Int)))::L1) (λs=>[.row false 3 1 (No s.2.2)]) (λs=>((Fx y).length-s.1)*2+min s.2.1 1) (MulI x y i d) (0,0,o) ⟨hp1,hp2,by dsimp only; rw [hp3]; simp [Rq],by show 0<10000; decide,.inl ⟨Nat.zero_le _,hp4⟩⟩ rfl rfl λs hs=>?_
  obtain ⟨k,c,o2⟩:=s;obtain ⟨hq0,hq1,hq2,hq3,hq4⟩:=hs;dsimp only at hq0 hq1 hq2 hq3 hq4 ⊢;have hol:(No o2).length=(Fx x).length+(Fx y).length:=by rw [Td,hq0]
  by_cases h2:k<(Fx y).length
  ·obtain ⟨e,he⟩:=gxE (l:=(Fx y)) (i:=k) h2;have he9:=Nz y e (Qa he);have hde:d*e<=9999*9999:=Q7 (by omega) (by omega);obtain ⟨v,hoi⟩:=gxE (l:=o2) (i:=i+k) (by omega);have hv9:=hq1 v (Qa hoi);refine go tt [.g 25 true Uh,.t rfl,.r 34 (eI (b:=((i+k:Nat):Int)) (by omega)),.i (i+k),.x (Gn hoi),.r 38 (eI (b:=((v+c:Nat):Int)) (by omega)),.T,.x (Gn hd),.x (Gn he),.r 52 (eI (b:=((d*e:Nat):Int)) (by simp)),.r 53 (eI (b:=((v+c+d*e:Nat):Int)) (by omega)),.r 57 (eI (b:=((i+k:Nat):Int)) (by omega)),.r 59 (eI (b:=(((v+c+d*e) % 10000:Nat):Int)) (by rfl)),.i (i+k),.r 62 (eI (b:=(((v+c+d*e) / 10000:Nat):Int)) (by rfl))] rfl (by simp [Uw,hol,aA,VW,-Int.natCast_add,-Int.natCast_mul]; omega) ?_;exact rd (k+1,(v+c+d*e) / 10000,o2.set (i+k) ((v+c+d*e) % 10000)) (by dsimp only; omega) ⟨by dsimp only; rw [List.length_set]; exact hq0,hq1.set (Nat.mod_lt _ (by decide)),by
    dsimp only;rw [<-Nat.add_assoc i k 1,Nat.pow_succ]; have:=MX hq2 (mS hoi (u:=((v+c)+(d*e)) % 10000)) (s:=d*e) (q:=((v+c)+(d*e)) / 10000) (by rw [Qrb]); rw [this,Ta he,Nat.pow_add]; grind,by dsimp only; omega,.inl ⟨by dsimp only; omega,λj w hj hw=>(by
     dsimp only at hw;rcases hq4 with ⟨_,h⟩ | ⟨_,_,h⟩ <;> (rw [Yc (by omega)] at hw; exact h j w (by omega) hw))⟩⟩ (by rw [Og]; rfl)
  ·by_cases h3:0<c
   ·have hk:k=(Fx y).length:=by omega
    have hz:∀ j v,i+(Fx y).length<=j->o2[j]? = some v->v=0:=by
     rcases hq4 with ⟨_,h⟩ | ⟨_,h,_⟩
     ·exact h
     ·omega
    obtain ⟨v,hoi⟩:=gxE (l:=o2) (i:=i+k) (by omega);have hv0:v=0:=hz (i+k) v (by omega) hoi;have hv9:=hq1 v (Qa hoi);refine go tt [.g 25 false Ug,.T,.r 34 (eI (b:=((i+k:Nat):Int)) (by omega)),.i (i+k),.x (Gn hoi),.r 38 (eI (b:=((v+c:Nat):Int)) (by omega)),.F,.r 57 (eI (b:=((i+k:Nat):Int)) (by omega)),.r 59 (eI (b:=(((v+c) % 10000:Nat):Int)) (by rfl)),.i (i+k),.r 62 (eI (b:=(((v+c) / 10000:Nat):Int)) (by rfl))] rfl (by simp [Uw,hol,aA,VW,-Int.natCast_add]; omega) ?_;exact rd (k+1,(v+c) / 10000,o2.set (i+k) ((v+c) % 10000)) (by dsimp only; omega) ⟨by dsimp only; rw [List.length_set]; exact hq0,hq1.set (Nat.mod_lt _ (by decide)),by
     dsimp only;rw [<-Nat.add_assoc i k 1,Nat.pow_succ]; have:=MX hq2 (mS hoi (u:=(v+c) % 10000)) (s:=0) (q:=(v+c) / 10000) (by rw [Qrb]; rfl); rw [this,Nat.mul_zero,Nat.add_zero,Ib (by omega)],by dsimp only; omega,.inr ⟨by dsimp only; omega,by dsimp only; omega,λj w hj hw=>(by
      dsimp only at hw;rw [Yc (by omega)] at hw; exact hz j w (by omega) hw)⟩⟩ (by rw [Og]; rfl)
   ·refine Ua [.g 25 false Ug,.F] rfl ?_;exact rd (i+1,o2) (by dsimp only; omega) ⟨by dsimp only; omega,hq0,hq1,by
     dsimp only;rw [Ta hd,X2]; have h:=hq2; rw [show c=0 by omega,Qo (l:=Fx y) (i:=k) (by omega),Ht] at h; rw [Yh,Xk] at h; exact h,by
     dsimp only;rcases hq4 with ⟨_,h⟩ | ⟨_,_,h⟩
     ·exact λj w hj hw=>h j w (by omega) hw
     ·exact λj w hj hw=>h j w (by omega) hw⟩ rfl
 ·have hv:Rq o=x*y:=by rw [hp3,Qo (by omega),Ht]
  have cc:=UD hp2;rw [hv] at cc;exact Ub [.F,.k cc] rfl
theorem mY {x y:Nat}:O9 x y<=0↔x<=y:=by
 unfold O9;constructor
 ·intro h; split at h
  ·omega
  ·split at h <;> omega
 ·intro h; split
  ·omega
  ·split <;> omega
theorem lI {R y lo:Nat} (h1:y*lo<=R) (h2:R<y*(lo+1)):R / y=lo/\R % y=R-y*lo:=by
 have hy:0<y:=by
  rcases Q5 y with h | h
  ·subst h; simp at h2
  ·exact h
 have e:R / y=lo:=Nat.div_eq_of_lt_le (by rw [Zn]; exact h1) (by rw [Zn]; exact h2);refine ⟨e,?_⟩;have:=Xb R y;rw [e] at this; omega
theorem Qfs {R y:Nat} (h:R<y*10000):sz R<=sz y+14:=by
 refine Nj.2 (Xc h ?_);have:=KO y;rw [Xe];have e:(2:Nat)^14=16384:=by decide
 rw [e]; exact Q7 (by omega) (by decide)
theorem aL (y:Nat):sz (y*10000)<=sz y+14:=by
 refine Nj.2 ?_;have:=KO y;rw [Xe];have e:(2:Nat)^14=16384:=by decide
 rw [e]; omega
theorem oW {x y:Nat} (hx:sz x<=90000000) (hy:sz y<=90000000) (hy0:0<y):Uf 153 [.one (nd x),.one (nd y)] [.one (nd (x / y)),.one (nd (x % y))]:=by
 have hxl:=Qc (Px x) hx;have hyl:=Qc (Px y) hy;have lx:=KY x;show Uf 153 [.one (.row (No (Fx x))),.one (nd y)] _;refine Gb func153 rfl ?_;refine Ua [.i (No (Fx x)).length,.i (No (Fx x)).length,.z 7,.r 17 (eI (b:=((Fx x).length:Int)-1) (by rw [lx]))] rfl ?_;rw [lx,show List.replicate (Fx x).length [LV.int .i64 0]=No (List.replicate (Fx x).length 0) from by simp [No]];refine Ue (S:=Nat×Uk×Uk) 1 (λL1 s=>(8,.v (.oi ((s.1:Int)-1)))::(7,.v (.one (.row (No s.2.1))))::L1) (λs=>[.row false 3 1 (No s.2.2)]) (λs=>s.1) (λs=>s.1<=(Fx x).length/\s.2.2.length=(Fx x).length/\Dg s.2.2/\Rq (s.2.2.drop s.1)=Rq ((Fx x).drop s.1) / y/\s.2.1=Fx (Rq ((Fx x).drop s.1) % y)) ((Fx x).length,[],List.replicate (Fx x).length 0) ⟨Nat.le_refl _,List.length_replicate ..,Dg.zeros _,by dsimp only; rw [List.drop_eq_nil_of_le (by simp),List.drop_eq_nil_of_le (Nat.le_refl _)]; simp [Rq],by dsimp only; rw [List.drop_eq_nil_of_le (Nat.le_refl _)]; simp [Rq,Hx]⟩ rfl rfl λs hs=>?_
 obtain ⟨j,R,o⟩:=s;obtain ⟨hp0,hp1,hp2,hp3,hp4⟩:=hs;dsimp only at hp0 hp1 hp2 hp3 hp4 ⊢;cases j with
 |
  zero =>
  have cc:=UD hp2;rw [Xw,Xw,Ht] at hp3;rw [Xw,Ht] at hp4;rw [hp3] at cc;exact Ub [.f (by simp),.k cc] rfl (by rw [hp4]; rfl) trivial
 |
  succ j =>
  obtain ⟨d,hd⟩:=gxE (l:=(Fx x)) (i:=j) (by omega);have hd9:=Nz x d (Qa hd);have hdd:=QR hd;obtain ⟨hq1,hq2,hq3⟩:=jG (V:=Rq ((Fx x).drop (j+1))) (kd:=y) (d:=d) hy0;rw [<-hdd] at hq1 hq2;have hq3:=hq3 hd9;obtain ⟨rr,hrr0⟩:=nmE (Rq ((Fx x).drop (j+1)) % y);have hrr:rr<y:=by rw [hrr0]; exact Z6 _ hy0
  rw [<-hrr0] at hp4 hq1 hq2 hq3;subst hp4;have hrl:(Fx rr).length<=(Fx y).length:=QF (by omega);have hR:rr*10000+d<y*10000:=by omega
  have hRs:=Qfs hR;have hdv:Dg (d::Fx rr):=λz hz=>by
   rcases Qm.1 hz with rfl | hz
   ·exact hd9
   ·exact Nz rr z hz
  have cc:=UD hdv;rw [show Rq (d::Fx rr)=rr*10000+d from by simp only [Rq]; rw [Ht]; omega] at cc;have hol:(No o).length=(Fx x).length:=by rw [Td,hp1]
  have hrrl:=Td (Fx rr);have ej:((j+1:Nat):Int)-1=(j:Int):=by omega
  rw [ej];refine go tt [.T,.x (Gn hd),.lo,.s (sz:=1) (Qnw (Fx rr)),.k cc] rfl (by simp [Uw,KY]; omega) ?_;refine Ue (S:=Nat×Nat) 2 (λL1 s=>(9,.v (.oi (s.1:Int)))::(10,.v (.oi (s.2:Int)))::L1) (λ_=>[.row false 3 1 (No o),.gone]) (λs=>s.2-s.1) (λs=>s.1<=s.2/\s.2<=9999/\y*s.1<=rr*10000+d/\rr*10000+d<y*(s.2+1)) (0,9999) ⟨by decide,by decide,by dsimp only; omega,by dsimp only; omega⟩ rfl rfl λs hs=>?_
  obtain ⟨lo,hi⟩:=s;obtain ⟨hb0,hb1,hb2,hb3⟩:=hs;dsimp only at hb0 hb1 hb2 hb3 ⊢;by_cases h2:lo<hi
  ·obtain ⟨m,hm⟩:=nmE ((lo+hi+1) / 2);have hym:y*m<=y*10000:=Zs y (by omega);have c1:=xC (x:=y) (mu:=m) (c0:=0) (by omega) (by omega) (by omega);have c2:=uD (x:=y*m+0) (y:=rr*10000+d) (Qc (Sf (show _<=y*10000 by omega)) (Qc (aL y) (by omega))) (by omega);by_cases h3:y*m+0<=rr*10000+d
   ·refine go tt [.T,.r 35 (eI (b:=((lo+hi:Nat):Int)) (by omega)),.r 36 (eI (b:=((lo+hi+1:Nat):Int)) (by omega)),.r 37 (eI (b:=(m:Int)) (by rw [hm]; rfl)),.k c1,.k c2,.t (decide_eq_true (mY.2 h3))] rfl (by simp [Uw,VW,-Int.natCast_add]; omega) ?_;exact rd (m,hi) (by dsimp only; omega) ⟨by dsimp only; omega,hb1,by dsimp only; omega,hb3⟩ rfl
   ·refine go tt [.T,.r 35 (eI (b:=((lo+hi:Nat):Int)) (by omega)),.r 36 (eI (b:=((lo+hi+1:Nat):Int)) (by omega)),.r 37 (eI (b:=(m:Int)) (by rw [hm]; rfl)),.k c1,.k c2,.f (decide_eq_false λh=>h3 (mY.1 h)),.r 46 (eI (b:=((m-1:Nat):Int)) (by omega))] rfl (by simp [Uw,VW,-Int.natCast_add]; omega) ?_;exact rd (lo,m-1) (by dsimp only; omega) ⟨by dsimp only; omega,by dsimp only; omega,hb2,by dsimp only; rw [show m-1+1=m by omega]; omega⟩ rfl
  ·have hlh:lo=hi:=by omega
   have hfd:=lI hb2 (by rw [hlh]; exact hb3);have c1:=xC (x:=y) (mu:=lo) (c0:=0) (by omega) (by omega) (by omega);have c2:=uA (x:=rr*10000+d) (y:=y*lo+0) (by omega) (Qc (Sf (show _<=rr*10000+d by omega)) (by omega)) (by omega);rw [show rr*10000+d-(y*lo+0)=Rq ((Fx x).drop j) % y from by rw [hq2,hfd.2]; omega] at c2;refine go tt [.F,.i j,.k c1,.k c2] rfl (by simp [Uw,hol,aA,VW,-Int.natCast_add]; omega) ?_;exact rd (j,Fx (Rq ((Fx x).drop j) % y),o.set j lo) (by dsimp only; omega) ⟨by dsimp only; omega,by dsimp only; rw [List.length_set]; exact hp1,hp2.set (by omega),by
    dsimp only;rw [FQ (by omega)]; simp only [Rq]; rw [hp3,hq1,hfd.1],rfl⟩ (by rw [Og]; rfl)
theorem Qj6 {a b:Int} (h:(decide (a<0) == decide (b<0))=true):U6 (decide (a<0)) (a.natAbs+b.natAbs)=a+b:=by
 unfold U6;by_cases h1:a<0 <;> by_cases h2:b<0 <;> simp [h1,h2] at h ⊢ <;> omega
theorem Qj9 {a b:Int} (h:¬(decide (a<0) == decide (b<0))=true) (hl:b.natAbs<=a.natAbs):U6 (decide (a<0)) (a.natAbs-b.natAbs)=a+b:=by
 unfold U6;by_cases h1:a<0 <;> by_cases h2:b<0 <;> simp [h1,h2] at h ⊢ <;> omega
theorem Qfa {a b:Int} (h:¬(decide (a<0) == decide (b<0))=true) (hl:¬b.natAbs<=a.natAbs):U6 (decide (b<0)) (b.natAbs-a.natAbs)=a+b:=by
 unfold U6;by_cases h1:a<0 <;> by_cases h2:b<0 <;> simp [h1,h2] at h ⊢ <;> omega
theorem XD (a:Int):(∃ m:Nat,a=(m:Int))\/∃ m:Nat,a=-(m:Int)/\0<m:=by
 rcases Kx a 0 with h | h
 ·exact .inr ⟨a.natAbs,by omega,by omega⟩
 ·exact .inl ⟨a.natAbs,by omega⟩
theorem Qj8 (a b:Int):U6 (!(decide (a<0) == decide (b<0))) (a.natAbs*b.natAbs)=a*b:=by
 rcases XD a with ⟨m,rfl⟩ | ⟨m,rfl,hm⟩ <;> rcases XD b with ⟨n,rfl⟩ | ⟨n,rfl,hn⟩
 ·simp [U6,show ¬((m:Int)<0) by omega,show ¬((n:Int)<0) by omega]
 ·simp [U6,show ¬((m:Int)<0) by omega,show (-(n:Int)<0) by omega,hn,Ki]
 ·simp [U6,show (-(m:Int)<0) by omega,show ¬((n:Int)<0) by omega,hm,Kj]
 ·simp [U6,show (-(m:Int)<0) by omega,show (-(n:Int)<0) by omega,hm,hn,W3]
theorem Qj7 {a b:Int} (h:a % b=0):U6 (!(decide (a<0) == decide (b<0))) (a.natAbs / b.natAbs)=a / b:=by
 by_cases hb:b=0
 ·subst hb; simp [U6]
 obtain ⟨c,rfl⟩:=Jt h;rw [Jp _ hb,J6,Nat.mul_div_cancel_left _ (by omega)];rcases XD b with ⟨n,rfl⟩ | ⟨n,rfl,hn⟩ <;> rcases XD c with ⟨m,rfl⟩ | ⟨m,rfl,hm⟩
 ·have:¬((n:Int)*(m:Int)<0):=by rw [<-Vh]; omega
  simp [U6,this,show ¬((n:Int)<0) by omega]
 ·have h1:0<n*m:=J1 (by omega) hm;have:((n:Int)*-(m:Int)<0):=by rw [Ki,<-Vh]; omega
  simp only [this,show ¬((n:Int)<0) by omega];simp [U6]
 ·by_cases h0:m=0
  ·subst h0; simp [U6]
  ·have h1:0<n*m:=J1 hn (by omega);have:(-(n:Int)*(m:Int)<0):=by rw [Kj,<-Vh]; omega
   simp only [this,show (-(n:Int)<0) by omega];simp [U6]
 ·have:¬(-(n:Int)*-(m:Int)<0):=by rw [W3,<-Vh]; omega
  simp only [this,show (-(n:Int)<0) by omega];simp [U6]
theorem mJ {x y:Nat}:0<=O9 x y↔y<=x:=by
 unfold O9;constructor
 ·intro h; split at h
  ·omega
  ·omega
 ·intro h; split
  ·omega
  ·split <;> omega
theorem PE {x e:Nat} (h:(Fx x).length=1) (he:(Fx x)[0]? = some e):x=e:=by
 rcases hd:Fx x with _ | ⟨u,l⟩
 ·rw [hd] at h; cases h
 ·rcases l with _ | ⟨w,l⟩
  ·rw [hd] at he; simp at he;have:=Ht x;rw [hd] at this; simp [Rq] at this; omega
  ·rw [hd] at h; simp at h
theorem fD {a b:Int} (hb:0<b):ri (a / ((Int.gcd a b:Nat):Int))++ri (b / ((Int.gcd a b:Nat):Int))=fr (Rat.divInt a b):=by
 obtain ⟨h1,h2⟩:=nC (n:=a) hb;rw [Db,Int.gcd_comm] at h1 h2;rw [h1,h2]
theorem fL (a:Int):ri a++ri 1=fr (Rat.divInt a 1):=by
 have h:=fD (a:=a) (b:=1) (by decide);rw [show ((Int.gcd a 1:Nat):Int)=1 by simp] at h;simpa using h
theorem LD {a b:Int} (hb:b≠0) (ha2:U5 a<=90000000) (hb2:U5 b<=90000000):U5 ((Int.gcd a b:Nat):Int)<=90000000/\((Int.gcd a b:Nat):Int)≠0/\a % ((Int.gcd a b:Nat):Int)=0/\b % ((Int.gcd a b:Nat):Int)=0:=by
 have h1:=nV (n:=a) hb hb2;have h2:=jI (n:=a) hb;have h3:=MC a b;have h4:=MD a b;rw [Db,Int.gcd_comm] at h1 h2 h3 h4;exact ⟨h1,by omega,h3,h4⟩
theorem EE {a b:Int} (h:b<0):Hg a b=Rat.divInt (-a) (-b):=by
 unfold Hg; rw [if_neg (by omega)];exact (Rat.neg_divInt_neg a b).symm
theorem GW {a b:Int} (h:0<b):Hg a b=Rat.divInt a b:=by
 unfold Hg; rw [if_neg (by omega)]
theorem CL (a b:Rat):Hg (a.num*(b.den:Int)+b.num*(a.den:Int)) ((a.den:Int)*(b.den:Int))=a+b:=by
 unfold Hg;rw [if_neg (Yz (YG a) (YG b)),<-Rat.divInt_add_divInt _ _ (YG a) (YG b),Xd,Xd]
theorem Qo7 {s:Nat} {a b:Rat} (ha:Qs s a) (hb:Qs s b):Qs (2*s+1) (a+b):=by
 rw [<-CL];unfold Hg;rw [if_neg (Yz (YG a) (YG b))];refine Qs.divInt (Qc (On _ _) ?_) (Qc (Ft _ _) (by have:=ha.2; have:=hb.2; omega)) (by omega);have h1:=Ft a.num (b.den:Int);have h2:=Ft b.num (a.den:Int);have:=ha.1; have:=ha.2; have:=hb.1; have:=hb.2;omega
theorem Qni {a b:Int} (ha:U5 a<=200000000) (hb:U5 b<=200000000):Uf 68 [.agg (ri a),.agg (ri b)] [.agg (ri (a+b))]:=by
 by_cases hs:(decide (a<0) == decide (b<0))=true
 ·have cm:=Ob (decide (a<0)) (a.natAbs+b.natAbs);rw [Qj6 hs] at cm;exact Uc func68 rfl [.t hs,.k (Qm0 ha hb),.k cm] rfl
 ·have hs':(decide (a<0) == decide (b<0))=false:=by simpa using hs
  by_cases hl:b.natAbs<=a.natAbs
  ·have cm:=Ob (decide (a<0)) (a.natAbs-b.natAbs);rw [Qj9 hs hl] at cm;exact Uc func68 rfl [.f hs',.k (uD ha hb),.t (decide_eq_true (mJ.2 hl)),.k (uA ha hb hl),.k cm] rfl
  ·have cm:=Ob (decide (b<0)) (b.natAbs-a.natAbs);rw [Qfa hs hl] at cm;exact Uc func68 rfl [.f hs',.k (uD ha hb),.f (decide_eq_false λh=>hl (mJ.1 h)),.k (uA hb ha (by omega)),.k cm] rfl
theorem fQ {a b:Int} (ha:U5 a<=200000000) (hb:U5 b<=200000000):Uf 66 [.agg (ri a),.agg (ri b)] [.agg (ri (a*b))]:=by
 have cm:=Ob (!(decide (a<0) == decide (b<0))) (a.natAbs*b.natAbs);rw [Qj8] at cm;exact Uc func66 rfl [.k (Qm9 ha hb),.k cm] rfl
theorem IK {a b:Int} (ha:U5 a<=90000000) (hb:U5 b<=90000000) (h0:b≠0) (hd:a % b=0):Uf 107 [.agg (ri a),.agg (ri b)] [.agg (ri (a / b))]:=by
 have cm:=Ob (!(decide (a<0) == decide (b<0))) (a.natAbs / b.natAbs);rw [Qj7 hd] at cm;exact Uc func107 rfl [.k (oW ha hb (by omega)),.k cm] rfl
theorem Qpg (x:Nat):ri ((x:Nat):Int)=[nd x,.bool false]:=by
 unfold ri sg;rw [Xh,decide_eq_false (by omega)]
theorem Qau {a b:Int} (ha:U5 a<=90000000) (hb:U5 b<=90000000):Uf 106 [.agg (ri a),.agg (ri b)] [.agg (ri ((Int.gcd a b:Nat):Int))]:=by
 rw [Qpg];refine Gb func106 rfl ?_;refine W9 [] rfl ?_;refine Ue (S:=Nat×Nat) 3 (λL1 s=>(5,.v (.one (nd s.1)))::(6,.v (.one (nd s.2)))::L1) (λ_=>[.blk 59 (ri a),.blk 59 (ri b),.blk 59 [.nils,.bool false]]) (λs=>s.2) (λs=>Nat.gcd s.1 s.2=Int.gcd a b/\sz s.1<=90000000/\sz s.2<=90000000) (a.natAbs,b.natAbs) ⟨rfl,ha,hb⟩ rfl rfl λs hs=>?_
 obtain ⟨x,y⟩:=s;obtain ⟨hp0,hp1,hp2⟩:=hs;dsimp only at hp0 hp1 hp2 ⊢;have hyn:=TW (x:=y);have hyl:=KY y;by_cases h1:y=0
 ·have e:Int.gcd a b=x:=by rw [<-hp0,h1,Nat.gcd_zero_right]
  rw [e];exact Ub [.f (by simp only [Td]; exact decide_eq_false (by omega))] rfl
 ·have hlt:=Z6 x (show 0<y by omega);refine W9 [.t (by simp only [Td]; exact decide_eq_true (by omega)),.k (oW hp1 hp2 (by omega))] rfl ?_;exact rd (y,x % y) (by dsimp only; omega) ⟨by dsimp only; rw [<-hp0,Nat.gcd_comm x y,Nat.gcd_rec y x,Nat.gcd_comm],hp2,Nat.le_trans (Sf (by dsimp only; omega)) hp2⟩ rfl
theorem pP {a b:Int} (ha:U5 a<=90000000) (hb:U5 b<=90000000):Uf 62 [.agg (ri a),.agg (ri b)] [.agg (fr (Hg a b))]:=by
 rcases Kg b 0 with hs | hs | hs
 ·skip
  by_cases h1:-b=1
  ·have h0:(No (Fx (-b).natAbs))[0]? = some [LV.int .i64 1]:=by rw [h1,show (1:Int).natAbs=1 from rfl,Ak]; rfl
   have hl1:decide (((No (Fx (-b).natAbs)).length:Int)=1)=true:=by rw [h1,show (1:Int).natAbs=1 from rfl,Ak]; rfl
   have e:fr (Hg a b)=ri (-a)++ri (-b):=by rw [EE hs,h1]; exact (fL _).symm
   rw [e];exact Uc func62 rfl [.k (Ad (z:=b)),.F,.t (decide_eq_true hs),.k (UC (z:=a)),.k (UC (z:=b)),.g 19 true hl1,.x h0,.t rfl] rfl
  ·have hgf:=LD (a:=-a) (b:=-b) (by omega) (by first | exact ha | (rw [Hu]; exact ha)) (by first | exact hb | (rw [Hu]; exact hb));have cg:=Qau (a:=-a) (b:=-b) (by first | exact ha | (rw [Hu]; exact ha)) (by first | exact hb | (rw [Hu]; exact hb));have q1:=IK (a:=-a) (b:=((Int.gcd (-a) (-b):Nat):Int)) (by first | exact ha | (rw [Hu]; exact ha)) hgf.1 hgf.2.1 hgf.2.2.1;have q2:=IK (a:=-b) (b:=((Int.gcd (-a) (-b):Nat):Int)) (by first | exact hb | (rw [Hu]; exact hb)) hgf.1 hgf.2.1 hgf.2.2.2;have e:fr (Hg a b)=ri ((-a) / ((Int.gcd (-a) (-b):Nat):Int))++ri ((-b) / ((Int.gcd (-a) (-b):Nat):Int)):=by rw [EE hs]; exact (fD (by omega)).symm
   rw [e];have hl:=KY (-b).natAbs;by_cases hl1:(Fx (-b).natAbs).length=1
   ·obtain ⟨u,hu⟩:=gxE (l:=(Fx (-b).natAbs)) (i:=0) (by omega);have hue:=PE hl1 hu;exact Uc func62 rfl [.k (Ad (z:=b)),.F,.t (decide_eq_true hs),.k (UC (z:=a)),.k (UC (z:=b)),.g 19 true (by simp only [Td]; exact decide_eq_true (by omega)),.x (Gn hu),.F,.k cg,.k q1,.k q2] rfl
   ·exact Uc func62 rfl [.k (Ad (z:=b)),.F,.t (decide_eq_true hs),.k (UC (z:=a)),.k (UC (z:=b)),.g 19 false (by simp only [Td]; exact decide_eq_false (by omega)),.f rfl,.k cg,.k q1,.k q2] rfl
 ·subst hs;have h0:(No (Fx (1:Int).natAbs))[0]? = some [LV.int .i64 1]:=by rw [show (1:Int).natAbs=1 from rfl,Ak]; rfl
  have h1:decide (((No (Fx (1:Int).natAbs)).length:Int)=1)=true:=by rw [show (1:Int).natAbs=1 from rfl,Ak]; rfl
  have e:fr (Hg a 0)=ri a++ri 1:=(fL a).symm;rw [e];exact Uc func62 rfl [.k (Ad (z:=0)),.t rfl,.k (xB (n:=1) (by decide)),.f rfl,.g 19 true h1,.x h0,.t rfl] rfl
 ·skip
  by_cases h1:b=1
  ·have h0:(No (Fx (b).natAbs))[0]? = some [LV.int .i64 1]:=by rw [h1,show (1:Int).natAbs=1 from rfl,Ak]; rfl
   have hl1:decide (((No (Fx (b).natAbs)).length:Int)=1)=true:=by rw [h1,show (1:Int).natAbs=1 from rfl,Ak]; rfl
   have e:fr (Hg a b)=ri (a)++ri (b):=by rw [GW hs,h1]; exact (fL _).symm
   rw [e];exact Uc func62 rfl [.k (Ad (z:=b)),.F,.F,.g 19 true hl1,.x h0,.t rfl] rfl
  ·have hgf:=LD (a:=a) (b:=b) (by omega) (by first | exact ha | (rw [Hu]; exact ha)) (by first | exact hb | (rw [Hu]; exact hb));have cg:=Qau (a:=a) (b:=b) (by first | exact ha | (rw [Hu]; exact ha)) (by first | exact hb | (rw [Hu]; exact hb));have q1:=IK (a:=a) (b:=((Int.gcd (a) (b):Nat):Int)) (by first | exact ha | (rw [Hu]; exact ha)) hgf.1 hgf.2.1 hgf.2.2.1;have q2:=IK (a:=b) (b:=((Int.gcd (a) (b):Nat):Int)) (by first | exact hb | (rw [Hu]; exact hb)) hgf.1 hgf.2.1 hgf.2.2.2;have e:fr (Hg a b)=ri ((a) / ((Int.gcd (a) (b):Nat):Int))++ri ((b) / ((Int.gcd (a) (b):Nat):Int)):=by rw [GW hs]; exact (fD (by omega)).symm
   rw [e];have hl:=KY (b).natAbs;by_cases hl1:(Fx (b).natAbs).length=1
   ·obtain ⟨u,hu⟩:=gxE (l:=(Fx (b).natAbs)) (i:=0) (by omega);have hue:=PE hl1 hu;exact Uc func62 rfl [.k (Ad (z:=b)),.F,.F,.g 19 true (by simp only [Td]; exact decide_eq_true (by omega)),.x (Gn hu),.F,.k cg,.k q1,.k q2] rfl
   ·exact Uc func62 rfl [.k (Ad (z:=b)),.F,.F,.g 19 false (by simp only [Td]; exact decide_eq_false (by omega)),.f rfl,.k cg,.k q1,.k q2] rfl
theorem Qqz {n d:Int} (hn:-1000000000<=n/\n<=1000000000) (hd:-1000000000<=d/\d<=1000000000):Uf 20 [.oi n,.oi d] [.agg (fr (Hg n d))]:=by
 have b1:U5 n<=90000000:=Qc (Tu.2 (show n.natAbs<2^40 by omega)) (by decide);have b2:U5 d<=90000000:=Qc (Tu.2 (show d.natAbs<2^40 by omega)) (by decide);exact Uc func20 rfl [.k (xB (by omega)),.k (xB (by omega)),.k (pP b1 b2)] rfl
theorem Qm1 {a b:Rat} (ha:Qs 20000000 a) (hb:Qs 20000000 b):Uf 25 [.agg (fr a),.agg (fr b)] [.agg (fr (a+b))]:=by
 have k1:=Ft a.num (b.den:Int);have k2:=Ft b.num (a.den:Int);have k3:=Ft (a.den:Int) (b.den:Int);have k4:=On (a.num*(b.den:Int)) (b.num*(a.den:Int));have h1:=ha.1; have h2:=ha.2; have h3:=hb.1; have h4:=hb.2;have cm:=pP (a:=a.num*(b.den:Int)+b.num*(a.den:Int)) (b:=(a.den:Int)*(b.den:Int)) (by omega) (by omega);rw [CL] at cm;exact Uc func25 rfl [.k (fQ (a:=a.num) (b:=(b.den:Int)) (by omega) (by omega)),.k (fQ (a:=b.num) (b:=(a.den:Int)) (by omega) (by omega)),.k (Qni (by omega) (by omega)),.k (fQ (a:=(a.den:Int)) (b:=(b.den:Int)) (by omega) (by omega)),.k cm] rfl
end Orr
namespace Orr
def cE:Ul->Ul
 | []=>[]
 |
  x::l=>match cE l with
  | []=>if x=0 then [] else [x]
  | y::k=>x::y::k
theorem EO:∀ (l:Ul),∀ z∈cE l,z∈l
 | [],z,h=>h
 |
  x::l,z,h=>by
  simp only [cE] at h;have ih:=EO l
  split at h
  ·split at h
   ·cases h
   ·simp at h; simp [h]
  ·rename_i y k e;rw [e] at ih;rcases Qm.1 h with h | h
   ·simp [h]
   ·exact Qg _ (ih z h)
def zp (p:Ui):Ul:=p.map λ(z:Int)=>(z:Rat)
def Rb (s:Nat) (p:Ul):Prop:=∀ q∈p,Qs s q
theorem Rb.mono {s t:Nat} {p:Ul} (h:Rb s p) (ht:s<=t):Rb t p:=λq hq=>(h q hq).mono ht
theorem Rb.get {s:Nat} {p:Ul} (h:Rb s p) {i:Nat} {q:Rat} (hq:p[i]? = some q):Qs s q:=h q (Qa hq)
theorem Qo8 {s:Nat} {z:Int} (h:U5 z<=s) (h1:1<=s):Qs s (z:Rat):=⟨by simpa using h,Qc (show U5 ((1:Nat):Int)<=1 by decide) h1⟩
theorem Qjv {s:Nat} (h1:1<=s):Qs s 0:=Qo8 (z:=0) (by simp [Dc]) h1
theorem Rb.getD {s:Nat} {p:Ul} (h:Rb s p) (h1:1<=s) (i:Nat):Qs s (p.getD i 0):=by
 rw [Qk];cases e:p[i]? with
 | none=>exact Qjv h1
 | some q=>exact h.get e
theorem Rb.trim {s:Nat} {p:Ul} (h:Rb s p):Rb s (cE p):=λq hq=>h q (EO p q hq)
end Orr
namespace Orr
open Go Go.Proofs Tryz
set_option maxRecDepth 10000
def frow (p:Ul):Uo:=p.map fr
abbrev rp (p:Ul):LV:=.row (frow p)
end Orr
namespace Orr
def Ng (p:Ui):Int:=p.getD (p.length-1) 0
def Qt2 (a b:Ui):Int:=if Ng b<0 then -(Ng a) else Ng a
def Qpk (a b:Ui) (i:Nat):Int:=a.getD i 0*((Ng b).natAbs:Int)-(if a.length-b.length<=i then Qt2 a b*b.getD (i-(a.length-b.length)) 0 else 0)
def Qmb (a b:Ui):Ui:=KU a.length (Qpk a b)
inductive RRun (b:List Int):Nat->List Int->List Int->Prop
 | stop {a:List Int}:a.length<b.length->RRun b 0 a a
 | step {k:Nat} {a r:List Int}:b.length<=a.length->a.length<=1000->Bd 9000000 a->Bd 9000000 b->RRun b k (Qmb a b) r->RRun b (k+1) a r
def Qln (p:Ui):Nat->Nat
 | 0=>0
 | i+1=>Int.gcd (Qln p i:Nat) (p.getD i 0)
def lP (p:Ui):Nat:=Qln p p.length
def Qrf (p:Ui):Int:=if Ng p<0 then -((lP p:Nat):Int) else ((lP p:Nat):Int)
def O7 (p:Ui):Ui:=KU p.length λi=>p.getD i 0 / Qrf p
def rP (p:Ui):Ui:=if Ng p<0 then D5 (O7 p) else O7 p
inductive GRun:Nat->List Int->List Int->List Int->Prop
 | stop (a:List Int):GRun 0 a [] a
 | step {k m:Nat} {a b r g:List Int}:0<b.length->b.length<=1000->Bd 9000000 b->RRun b m a r->r.length<=1000->Bd 9000000 r->U7 r->GRun k b (O7 r) g->GRun (k+1) a b g
theorem GRun.inv {k:Nat} {a b g:Ui} (h:GRun k a b g):(k=0/\b.length=0/\a=g)\/∃ j m r,k=j+1/\0<b.length/\b.length<=1000/\Bd 9000000 b/\RRun b m a r/\r.length<=1000/\Bd 9000000 r/\U7 r/\GRun j b (O7 r) g:=by
 cases h with
 | stop=>exact .inl ⟨rfl,rfl,rfl⟩
 | step h1 h2 h3 h4 h5 h6 h7 h8=>exact .inr ⟨_,_,_,rfl,h1,h2,h3,h4,h5,h6,h7,h8⟩
def Qfd (k:Nat) (p:Ui):Ui:=List.replicate k 0++p
inductive DRun (b:List Int):Nat->List Int->List Int->List Int->List Int->Prop
 | stop {a q:List Int}:a.length<b.length->DRun b 0 a q q a
 | step {k:Nat} {a q qf r:List Int}:b.length<=a.length->a.length<=1000->Bd 9000000 a->Ng b≠0->Ng b∣Ng a->a.length-b.length<q.length ->
  DRun b k (Bz a (Qfd (a.length-b.length) (Fl b (Ng a / Ng b)))) (q.set (a.length-b.length) (Ng a / Ng b)) qf r->DRun b (k+1) a q qf r
theorem DRun.inv {b a q qf r:Ui} {k:Nat} (h:DRun b k a q qf r):(k=0/\q=qf/\a=r/\a.length<b.length)\/∃ j,k=j+1/\b.length<=a.length/\a.length<=1000/\Bd 9000000 a/\Ng b≠0/\Ng b∣Ng a/\a.length-b.length<q.length /\
 DRun b j (Bz a (Qfd (a.length-b.length) (Fl b (Ng a / Ng b)))) (q.set (a.length-b.length) (Ng a / Ng b)) qf r:=by
 cases h with
 | stop h=>exact .inl ⟨rfl,rfl,rfl,h⟩
 | step h1 h2 h3 h4 h5 h6 h7=>exact .inr ⟨_,rfl,h1,h2,h3,h4,h5,h6,h7⟩
def B7 (l:Uj):Ui:=l.getD (l.length-1) []
inductive LRun:Nat->List (List Int)->List (List Int)->Prop
 | stop {l:List (List Int)}:(B7 l).length<=1->LRun 0 l l
 | step {k m:Nat} {l f:List (List Int)} {g:List Int}:1<(B7 l).length->(B7 l).length<=1000->U7 (B7 l)->Bd 9000000 (B7 l)->Bd 9000000 (Gz (B7 l))->GRun m (O7 (B7 l)) (O7 (Gz (B7 l))) g->l.length<=1000->LRun k (l++[g]) f->LRun (k+1) l f
theorem LRun.inv {k:Nat} {l f:Uj} (h:LRun k l f):(k=0/\l=f/\(B7 l).length<=1)\/∃ j m g,k=j+1/\1<(B7 l).length/\(B7 l).length<=1000/\U7 (B7 l)/\Bd 9000000 (B7 l)/\Bd 9000000 (Gz (B7 l))/\GRun m (O7 (B7 l)) (O7 (Gz (B7 l))) g/\l.length<=1000/\LRun j (l++[g]) f:=by
 cases h with
 | stop h=>exact .inl ⟨rfl,rfl,h⟩
 | step h1 h2 h3 h4 h5 h6 h7 h8=>exact .inr ⟨_,_,_,rfl,h1,h2,h3,h4,h5,h6,h7,h8⟩
def DOk (a b q:Ui):Prop:=0<b.length/\b.length<=1000/\a.length<=1000/\Bd 9000000 b/\∃ qf r n,Bd 9000000 qf/\qf.length<=1000/\DRun b n a (List.replicate (a.length+1-b.length) 0) qf r/\q=trim qf
theorem DOk.bd {a b q:Ui} (h:DOk a b q):Bd 9000000 q:=by
 obtain ⟨_,_,_,_,qf,r,n,h1,_,_,rfl⟩:=h;exact H7 h1
theorem DOk.len {a b q:Ui} (h:DOk a b q):q.length<=1000:=by
 obtain ⟨_,_,_,_,qf,r,n,_,h1,_,rfl⟩:=h;exact Qc (Ha _) h1
theorem DOk.trim {a b q:Ui} (h:DOk a b q):U7 q:=by
 obtain ⟨_,_,_,_,qf,r,n,_,_,_,rfl⟩:=h;exact H6 _
def Qqk (a b c f:Ui):Prop:=∃ x y z,DOk a b x/\DOk b c y/\DOk (O7 x) (O7 y) z/\f=O7 z
structure FRun (a:List Int) (m:Nat) (f:Nat->List Int):Prop where
 run:∃ n l,LRun n [O7 a] l/\l.length=m+1/\∀ k,k<m->Qqk ((l++[[1]]).getD k []) ((l++[[1]]).getD (k+1) []) ((l++[[1]]).getD (k+2) []) (f k)
 small:m<=1000
def cY (f:Nat->Ui):Nat->Ui
 | 0=>[1]
 | i+1=>Ge (cY f i) (f i)
def Qth (m:Nat) (f:Nat->Ui):Prop:=∀ i,i<m->Bd 9000000 (cY f i)/\(cY f i).length<=1000/\Bd 9000000 (f i)/\(f i).length<=1000
inductive CRun:Nat->List (List Int)->List Int->List (List Int)->Prop
 | stop {l:List (List Int)} {g:List Int}:g.length=0->CRun 0 l g l
 | step {k m:Nat} {l f:List (List Int)} {g r:List Int}:0<g.length->g.length<=1000->Bd 9000000 g->RRun g m (B7 l) r->U7 r->Bd 9000000 r->r.length<=1000->0<l.length->l.length<=1000->CRun k (l++[g]) (D5 (rP r)) f->CRun (k+1) l g f
theorem CRun.inv {k:Nat} {l f:Uj} {g:Ui} (h:CRun k l g f):(k=0/\l=f/\g.length=0)\/∃ j m r,k=j+1/\0<g.length/\g.length<=1000/\Bd 9000000 g/\RRun g m (B7 l) r/\U7 r/\Bd 9000000 r/\r.length<=1000/\0<l.length/\l.length<=1000/\CRun j (l++[g]) (D5 (rP r)) f:=by
 cases h with
 | stop h=>exact .inl ⟨rfl,rfl,h⟩
 | step h1 h2 h3 h4 h5 h6 h7 h8 h9 h10=>exact .inr ⟨_,_,_,rfl,h1,h2,h3,h4,h5,h6,h7,h8,h9,h10⟩
structure ChRun (a:List Int) (sq:List Int) (c:List (List Int)):Prop where
 fac:∃ m f,FRun a m f/\Qth m f/\sq=cY f m
 La:∃ n,CRun n [sq] (rP (Gz sq)) c
 bd:Bd 8000000 sq
 len:sq.length<=1000
 small:c.length<=1000
end Orr
namespace Orr
open Go Go.Proofs Tryz
set_option maxRecDepth 10000
theorem RRun.inv {b a r:Ui} {k:Nat} (h:RRun b k a r):(k=0/\a=r/\a.length<b.length)\/(∃ j,k=j+1/\b.length<=a.length/\a.length<=1000/\Bd 9000000 a/\Bd 9000000 b/\RRun b j (Qmb a b) r):=by
 cases h with
 | stop h=>exact .inl ⟨rfl,rfl,h⟩
 | step h1 h2 h3 h4 h5=>exact .inr ⟨_,rfl,h1,h2,h3,h4,h5⟩
end Orr
namespace Orr
section
variable {x d:Int} (hd:0<d) (hg:Int.gcd x d=1) (hx:U5 x<=2000000) (hs:U5 d<=2000000)
include hd in
include hd in
include hd in
include hd hx hs in
include hd hx hs in
include hd hx hs in
include hd hg hx hs in
include hd hg hx hs in
end
end Orr
namespace Orr
open Go Go.Proofs Tryz
set_option maxRecDepth 10000
def zls (l:Uj):Uo:=l.map λp=>[rp (zp p)]
abbrev aq (q:Rat) (c:Uj):Un:=[rp (zp [-q.num,(q.den:Int)]),.row (zls c)]++fr q++fr q
end Orr
namespace Orr
theorem YH (z d:Int):(z:Rat) / (d:Rat)=Rat.divInt z d:=by
 by_cases h:d=0
 ·subst h; simp; grind
 ·rw [X3];have e1:(z:Rat)=Rat.divInt z 1:=by have:=Xd (z:Rat); simpa using this.symm
  have e2:(d:Rat)⁻¹=Rat.divInt 1 d:=by
   have:(d:Rat)=Rat.divInt d 1:=by have:=Xd (d:Rat); simpa using this.symm
   rw [this,Rat.inv_divInt]
  rw [e1,e2,Rat.divInt_mul_divInt];simp
end Orr
namespace Orr
open Go Go.Proofs Tryz
set_option maxRecDepth 10000
structure Rs (k:Crv):Prop where
 n:QK k
 c:Cs 100000 16 k




theorem pz {P:Program} [Mo P] {n:Nat} {Q:Exit->Sg->Up->Prop} {L L':Sg} {B B':Up} (i:Nat) {it:List It} (hs:Ri it=true) (h:aR [i] L B=some (L',B')) (k:AK P n Q it L' B'):AK P n Q it L B:=AK.sub (WM h) hs k

end Orr
namespace Orr
open Go Go.Proofs Tryz Orq
set_option maxRecDepth 10000

abbrev RX:List Pt:=[⟨run1,1⟩,⟨Bt 1 0,2⟩]
theorem Qqa:(Tq (tq 0) RX).map (·.id)=[1,2]:=by decide +kernel
theorem Qj2:Sc run1:=⟨NH,cs_run1.up (by decide) (by decide)⟩
theorem Qsi:∀ p∈RX,Sc p.c:=λp hp=>by
 rcases Qm.1 hp with rfl | hp
 ·exact Qj2
 ·rw [Qj.1 hp]; exact BH (by decide) (by decide)


theorem xM {c:Cr} {l l':List Pt} {r1:Uo×Uo} {ws:List Wt} (hc:CrOk c) (hl:∀ p∈l',Sc p.c) (hn:l'.length≤1000) (h:Tz c.l c.now (Fj (zR l' c.now))=some ws) :
 Uz prog 397 [.one (.ow 0 0),.agg [pts l'],.oi 0] [.blk 199 (Tt c (Ut l) r1)] [.oi 0] [.blk 199 (Tt ⟨c.now,ws,c.ev⟩ (Ut l') (dC l' c.now))]:=by
 have hB:=uG hl hn;have cn:=uI (T:=199) (c:=c) (r0:=Ut l') (r1:=r1) hc.n;have cb:=DK (c:=c) (r1:=r1) hl hn hc.n;have cg:=lV (T:=199) (r0:=Ut l') (r1:=dC l' c.now) hc hc.n (A9 hc.n) (Ya 0) (hB.p _ hc.n) (hB.n _ hc.n) h;refine Gb func397 rfl ?_;exact Ud [] [0] [.f rfl,.c [0] cn,.c [0] cb,.c [0] cg] rfl
theorem Qhu {lx ly:Uo} {px py:Ui} {x y:LV} {d id:Int} {c:Cr} {l:List Pt} {r1:Uo×Uo} {ws:List Wt} (hx:IsInts lx px) (hy:IsInts ly py) (hd:Gk x y d) (hk:Cs 4294967294 1073741824 (Crv.mk px py d)) (hll:l.length<=900)
 (he:VQ l ⟨Crv.norm (Crv.mk px py d),id⟩=0) (hc:CrOk c) (hl:∀ p∈put l ⟨Crv.norm (Crv.mk px py d),id⟩,Sc p.c) (hn:(put l ⟨Crv.norm (Crv.mk px py d),id⟩).length≤1000) (h:Tz c.l c.now (Fj (zR (put l ⟨Crv.norm (Crv.mk px py d),id⟩) c.now))=some ws) :
 Uz prog 395 [.one (.ow 0 0),.agg [.row lx,.row ly,x,y,.int .i64 id]] [.blk 199 (Tt c (Ut l) r1)] [.oi 0] [.blk 199 (Tt ⟨c.now,ws,c.ev⟩ (Ut (put l ⟨Crv.norm (Crv.mk px py d),id⟩)) (dC (put l ⟨Crv.norm (Crv.mk px py d),id⟩) c.now))]:=by
 have cp:=xR (l:=l) (id:=id) hx hy hd hk (by omega);rw [if_pos he,he] at cp;have cw:=xM (l:=l) (r1:=r1) hc hl hn h;refine Gb func395 rfl ?_;obtain ⟨b,l',rfl,rfl,_⟩:=hd;exact Ud [] [0] [.k cp,.c [0] cw] rfl
theorem Qan {lx ly:Uo} {px py:Ui} {x y:LV} {d id:Int} {c:Cr} {l l':List Pt} {r1:Uo×Uo} {ws:List Wt} (hx:IsInts lx px) (hy:IsInts ly py) (hd:Gk x y d) (hk:Cs 4294967294 1073741824 (Crv.mk px py d)) (hll:l.length<=1000) (h:has l id=true) (hc:CrOk c)
 (hl':l'=l.set (P6 l id) (Pt.mk (Crv.norm (Crv.mk px py d)) id)) (hs:∀ p∈l',Sc p.c) (hw:Tz c.l c.now (Fj (zR l' c.now))=some ws) :
 Uz prog 396 [.one (.ow 0 0),.agg [.row lx,.row ly,x,y,.int .i64 id]] [.blk 199 (Tt c (Ut l) r1)] [.oi 0] [.blk 199 (Tt ⟨c.now,ws,c.ev⟩ (Ut l') (dC l' c.now))]:=by
 have ct1:=VO (l:=l) hx hy hd hk (by omega) h;rw [<-hl'] at ct1;have cw:=xM (c:=c) (l:=l) (l':=l') (r1:=r1) hc hs (by rw [hl',Xf]; omega) hw;obtain ⟨b,r,rfl,rfl,_⟩:=hd;refine Gb func396 rfl ?_;exact Ud [] [0] [.k ct1,.c [0] cw] rfl
end Orr
namespace Orq
open Orr Go
def iU (W:List Pt) (x:Pt) (i j:Nat):List P3:=Dv i W++(Hp j (W.drop (i+1))).map (λm=>(x,m))
def EG (W:List Pt) (x y:Pt) (i j k:Nat):List P3:=Dv i W++(Hp j (W.drop (i+1))++(((W.drop (i+1)).drop (j+1)).take k).map (λz=>(y,z))).map (λm=>(x,m))
theorem NS (W:List Pt) (x:Pt) (i:Nat):iU W x i 0=Dv i W:=by simp [iU,Hp]
theorem NN (W:List Pt) (x y:Pt) (i j:Nat):EG W x y i j 0=iU W x i j:=by simp [EG,iU]
theorem NP {W:List Pt} {x y z:Pt} {i j k:Nat} (h:((W.drop (i+1)).drop (j+1))[k]? = some z):EG W x y i j (k+1)=EG W x y i j k++[(x,y,z)]:=by
 unfold EG;rw [Z5,h]; simp
theorem OA {W:List Pt} {x y:Pt} {i j k:Nat} (hy:(W.drop (i+1))[j]? = some y) (hk:((W.drop (i+1)).drop (j+1)).length<=k):EG W x y i j k=iU W x i (j+1):=by
 unfold EG iU;rw [Qo hk,Dm _ j y hy]
theorem OE {W:List Pt} {x:Pt} {i j:Nat} (hx:W[i]? = some x) (hj:j=(W.drop (i+1)).length):iU W x i j=Dv (i+1) W:=by
 unfold iU;rw [hj,JQ W i x hx]; rfl
theorem dK {W:List Pt} {i:Nat} (h:i=W.length):Dv i W=Re W:=by rw [h]; rfl
def p4j (W:List Pt) (x:Pt) (i j:Nat):List P4:=Lq i W++(Dv j (W.drop (i+1))).map (λm=>(x,m))
def p4k (W:List Pt) (x y:Pt) (i j k:Nat):List P4:=Lq i W++(iU (W.drop (i+1)) y j k).map (λm=>(x,m))
def aK (W:List Pt) (x y z:Pt) (i j k m:Nat):List P4:=Lq i W++(EG (W.drop (i+1)) y z j k m).map (λm=>(x,m))
theorem Qd5 (W:List Pt) (x:Pt) (i:Nat):p4j W x i 0=Lq i W:=by simp [p4j,Dv]
theorem Qd6 (W:List Pt) (x y:Pt) (i j:Nat):p4k W x y i j 0=p4j W x i j:=by unfold p4k p4j; rw [NS]
theorem Qd8 (W:List Pt) (x y z:Pt) (i j k:Nat):aK W x y z i j k 0=p4k W x y i j k:=by unfold aK p4k; rw [NN]
theorem Qd7 {W:List Pt} {x y z u:Pt} {i j k m:Nat} (h:(((W.drop (i+1)).drop (j+1)).drop (k+1))[m]? = some u):aK W x y z i j k (m+1)=aK W x y z i j k m++[(x,y,z,u)]:=by
 unfold aK;rw [NP h]; simp
theorem Qjf {W:List Pt} {x y z:Pt} {i j k m:Nat} (hz:((W.drop (i+1)).drop (j+1))[k]? = some z) (hm:(((W.drop (i+1)).drop (j+1)).drop (k+1)).length<=m):aK W x y z i j k m=p4k W x y i j (k+1):=by
 unfold aK p4k;rw [OA hz hm]
theorem Qje {W:List Pt} {x y:Pt} {i j k:Nat} (hy:(W.drop (i+1))[j]? = some y) (hk:k=((W.drop (i+1)).drop (j+1)).length):p4k W x y i j k=p4j W x i (j+1):=by
 unfold p4k p4j;rw [OE hy hk]
theorem Qjd {W:List Pt} {x:Pt} {i j:Nat} (hx:W[i]? = some x) (hj:j=(W.drop (i+1)).length):p4j W x i j=Lq (i+1) W:=by
 unfold p4j;rw [hj,GK W i x hx]; rfl
theorem Qjw {W:List Pt} {i:Nat} (h:i=W.length):Lq i W=Iy W:=by rw [h]; rfl
theorem YA:∀ (k:Nat) (l:List Pt),∃ r,Gf l=Hp k l++r
 | 0,l=>⟨Gf l,rfl⟩
 | k+1,[]=>⟨[],rfl⟩
 |
  k+1,x::l=>by
  obtain ⟨r,h⟩:=YA k l;exact ⟨r,by show l.map _++Hp l.length l=l.map _++Hp k l++r; rw [show Hp l.length l=Gf l from rfl,h,Q9]⟩
theorem BD:∀ (k:Nat) (l:List Pt),∃ r,Re l=Dv k l++r
 | 0,l=>⟨Re l,rfl⟩
 | k+1,[]=>⟨[],rfl⟩
 |
  k+1,x::l=>by
  obtain ⟨r,h⟩:=BD k l;exact ⟨r,by show (Gf l).map _++Dv l.length l=(Gf l).map _++Dv k l++r; rw [show Dv l.length l=Re l from rfl,h,Q9]⟩
theorem kW:∀ (k:Nat) (l:List Pt),∃ r,Iy l=Lq k l++r
 | 0,l=>⟨Iy l,rfl⟩
 | k+1,[]=>⟨[],rfl⟩
 |
  k+1,x::l=>by
  obtain ⟨r,h⟩:=kW k l;exact ⟨r,by show (Re l).map _++Lq l.length l=(Re l).map _++Lq k l++r; rw [show Lq l.length l=Iy l from rfl,h,Q9]⟩
theorem bM {W:List Pt} (h6:W.length<=6) {x y:Pt} {i j k:Nat} (hx:W[i]? = some x) (hy:(W.drop (i+1))[j]? = some y):(EG W x y i j k).length<=20:=by
 have h0:=(XL h6).1;obtain ⟨r,hr⟩:=BD (i+1) W;rw [JQ W i x hx] at hr;obtain ⟨r2,hr2⟩:=YA (j+1) (W.drop (i+1));rw [Dm _ j y hy] at hr2;have e1:=congrArg List.length hr;have e2:=congrArg List.length hr2;have e3:(((W.drop (i+1)).drop (j+1)).take k).length<=((W.drop (i+1)).drop (j+1)).length:=by rw [Qu]; exact Nat.min_le_right _ _
 unfold EG;simp only [Q0,Zl] at e1 e2 ⊢;omega
theorem Qjg {W:List Pt} (h6:W.length<=6) {x y z:Pt} {i j k m:Nat} (hx:W[i]? = some x) (hy:(W.drop (i+1))[j]? = some y) (hz:((W.drop (i+1)).drop (j+1))[k]? = some z):(aK W x y z i j k m).length<=15:=by
 have h0:=(XL h6).2;obtain ⟨r,hr⟩:=kW (i+1) W;rw [GK W i x hx] at hr;obtain ⟨r1,hr1⟩:=BD (j+1) (W.drop (i+1));rw [JQ _ j y hy] at hr1;obtain ⟨r2,hr2⟩:=YA (k+1) ((W.drop (i+1)).drop (j+1));rw [Dm _ k z hz] at hr2;have e1:=congrArg List.length hr;have e2:=congrArg List.length hr1;have e4:=congrArg List.length hr2;have e3:((((W.drop (i+1)).drop (j+1)).drop (k+1)).take m).length<=(((W.drop (i+1)).drop (j+1)).drop (k+1)).length:=by rw [Qu]; exact Nat.min_le_right _ _
 unfold aK EG;simp only [Q0,Zl] at e1 e2 e4 ⊢;omega
theorem eP {sg:Ui->Int} (hg:∀ p,-1<=G8 sg p/\G8 sg p<=1) (ps:List P3):zN (E8 (QJ sg ps)):=by
 have key:∀ (ps:List P3) (M:Mv),zN M->zN ((QJ sg ps).foldl (λM e=>D7 M e.1 (.int .i64 e.2)) M):=by
  intro ps
  induction ps with
  | nil=>intro M h; exact h
  | cons m ps ih=>intro M h; exact ih _ (Qc4 h (hg _))
 exact key ps [] Qc3
theorem uN (sg:Ui->Int) (T:Mv) (ps:List P4):JH (Ig T (JF sg ps)):=by
 have key:∀ (ps:List P4) (F:Mv),JH F->JH ((JF sg ps).foldl (λF e=>LY T e.2 e.1 F) F):=by
  intro ps
  induction ps with
  | nil=>intro M h; exact h
  | cons m ps ih=>intro M h; exact ih _ (uM h)
 exact key ps [] dM
theorem EC (p:Ui) (q:Rat):-1<=Hr p q/\Hr p q<=1:=by
 rw [Mk]; unfold U4
 split
 ·exact ⟨by decide,by decide⟩
 ·split <;> exact ⟨by decide,by decide⟩
theorem Qfg {p:Ui} {a:Tm} {s:Int} (h:WA p a=some s):-1<=s/\s<=1:=by
 unfold WA at h
 split at h
 ·injection h with h; subst h; exact ⟨by decide,by decide⟩
 ·split at h
  ·injection h with h; subst h; exact EC _ _
  ·obtain ⟨g,_,h⟩:=Qd.1 h
   split at h
   ·injection h with h; subst h; exact ⟨by decide,by decide⟩
   ·obtain ⟨c,_,h⟩:=Qd.1 h;obtain ⟨x,_,h⟩:=Qd.1 h;injection h with h; subst h; exact EC _ _
theorem Qcs (a:Tm) (p:Ui):-1<=G8 (Fg a) p/\G8 (Fg a) p<=1:=by
 have hs:∀ p,-1<=Fg a p/\Fg a p<=1:=λp=>by
  unfold Fg;cases h:WA p a with
  | none=>exact ⟨by decide,by decide⟩
  | some s=>exact Qfg h
 have key:∀ (k:Nat) (p:Ui),-1<=Tc (Fg a) k p/\Tc (Fg a) k p<=1:=by
  intro k
  induction k with
  | zero=>intro p; exact ⟨by simp [Tc],by simp [Tc]⟩
  |
   succ k ih =>
   intro p;simp only [Tc]
   split
   ·exact ⟨by decide,by decide⟩
   ·split
    ·exact ih _
    ·exact hs p
 exact key _ p
end Orq
namespace Orr
open Go Go.Proofs Tryz Orq
set_option maxRecDepth 10000
theorem pQ {a b c:Pt} {t:Tm} (ha:Sc a.c) (hb:Sc b.c) (hc:Sc c.c) (ht:Va t):Uf 167 [.oi 3,.agg (ta t),.one (.row [U3 a,U3 b,U3 c])] [.agg (D3 (Dh (Fg t) a b c)),.oi 0]:=by
 have hp:=(XV ha hb hc).dp;have e:D3 (Dh (Fg t) a b c)=[.int .i64 3,.int .i64 a.id,.int .i64 b.id,.int .i64 c.id,.int .i64 0,pl (G0 a.c b.c c.c),.int .i64 (G8 (Fg t) (G0 a.c b.c c.c))]:=by rw [Dh]
 rw [e];have cg:=HJ hp ht;have cf:=xF ha hb hc;generalize G0 a.c b.c c.c=F at *;refine Gb func167 rfl ?_;refine W9 [.k lG,.f rfl] rfl ?_;refine Ue (S:=Nat) 3 (λL1 i=>(22,.v (.oi i))::L1) (λi=>[.blk 189 (ta t),.blk 126 iK,.blk 126 [.int .i64 3,.int .i64 (if 1<=i then a.id else 0),.int .i64 (if 2<=i then b.id else 0),.int .i64 (if 3<=i then c.id else 0),.int .i64 0,.nils,.int .i64 0]]) (λi=>3-i) (λi=>i<=3) 0 (Qi _) rfl rfl λi hi=>?_
 rcases (show i=0\/i=1\/i=2\/i=3 by omega) with rfl | rfl | rfl | rfl
 ·refine W9 [.t rfl,.x (i:=0) (xs:=U3 a) rfl,.i 0] rfl ?_ (by simp [Uw]);exact rd 1 (by omega) (by omega) rfl
 ·refine W9 [.t rfl,.x (i:=1) (xs:=U3 b) rfl,.i 1] rfl ?_ (by simp [Uw]);exact rd 2 (by omega) (by omega) rfl
 ·refine W9 [.t rfl,.x (i:=2) (xs:=U3 c) rfl,.i 2] rfl ?_ (by simp [Uw]);exact rd 3 (by omega) (by omega) rfl
 ·exact Ub [.f rfl,.f rfl,.f rfl,.t rfl,.x (i:=0) (xs:=U3 a) rfl,.x (i:=1) (xs:=U3 b) rfl,.x (i:=2) (xs:=U3 c) rfl,.k cf,.k cg] rfl
theorem Af {α:Type} (s:α->α->α->Bool):∀ (l acc:List α) (c:α),Pd s acc (l++[c])=c::Dq s c (Pd s acc l)
 | [],_,_=>rfl
 | _::l,_,c=>Af s l _ c
theorem pR {R:List Pt} {t:Tm} (hR:∀ p∈R,Sc p.c) (hn:R.length≤1000000) (ht:Va t):Uf 211 [.agg (ta t),.one (pts R)] [.one (pts (Sr (Fg t) R))]:=by
 have hcl:=Gs R;show Uf 211 [.agg (ta t),.one (.row (Ut R))] [.one (.row (Ut (Pd (KE (Fg t)) [] R).reverse))];obtain ⟨s,hs⟩:=nmE (KE (Fg t));have hs':∀ a b c,s a b c=decide (0<G8 (Fg t) (G0 a.c b.c c.c)):=λa b c=>by rw [hs]; rfl
 rw [<-hs];refine Gb func211 rfl ?_;refine W9 [.o 5 41 5] rfl ?_;refine Ue (S:=Nat) 2 (λL1 i=>(10,.v (.oi i))::(5,.v (.one (.orow 1 5 none)))::L1) (λi=>[.blk 189 (ta t),.row false 41 5 (Ut (Pd s [] (R.take i)).reverse)]) (λi=>R.length-i) (λi=>i<=R.length) 0 (Qi _) rfl rfl λi hi=>?_
 by_cases hlt:i<R.length
 ·obtain ⟨c,hc⟩:=gxE (l:=R) (i:=i) hlt;have hcp:=hR c (Qa hc);have hst:Pd s [] (R.take (i+1))=c::Dq s c (Pd s [] (R.take i)):=by rw [Z5,hc]; exact Af s _ _ c
  obtain ⟨O,hO⟩:=nmE (Pd s [] (R.take i));have hOl:O.length<=1000000:=by
   have:=YV s (R.take i) [];rw [<-hO,Qu] at this; simp at this; omega
  have hOm:∀ x∈O,Sc x.c:=λx hx=>by
   rw [hO] at hx;rcases YK hx with h | h
   ·cases h
   ·exact hR x (Qn h)
  rw [<-hO] at hst ⊢;have hrl:(Ut O.reverse).length=O.length:=by rw [Gs,Xo]
  have hm:∀ y∈[U3 c],y.length=5:=λy hy=>by rw [Qj.1 hy]; rfl
  have hget:∀ {pre r:List Pt} {x:Pt},O=pre++x::r->∀ j,j=r.length->(Ut O.reverse)[j]? = some (U3 x):=λ{pre r x} e j hj=>by
   refine Tg ?_;rw [e,hj]; simp
  have hfin:∀ {pre st:List Pt},O=pre++st->Ut (c::st).reverse=(Ut O.reverse).take st.length++[U3 c]:=λ{pre st} e=>by
   rw [e]; simp [Ut,Yl,List.take_append]
  have hfull:Ut (c::O).reverse=Ut O.reverse++[U3 c]:=by simp [Ut]
  refine W9 [.t (by simp [hcl]; omega),.x (Tg hc)] rfl ?_;refine Ue (S:=Bool×List Pt) 3 (λL1 s=>(5,.v (.one (.orow 1 5 (cond s.1 (some (0,s.2.length)) none))))::L1) (λ_=>[.blk 189 (ta t),.row false 41 5 (Ut O.reverse),.blk 41 (U3 c)]) (λs=>s.2.length) (λst=>(∃ pre,O=pre++st.2/\(st.1=false->pre=[]))/\Dq s c st.2=Dq s c O) (false,O) ⟨⟨[],rfl,λ_=>rfl⟩,rfl⟩ rfl rfl λ⟨b,st⟩ ⟨⟨pre,h1,h2⟩,h3⟩=>?_
  have h1:O=pre++st:=h1;have h3:Dq s c st=Dq s c O:=h3;have hl1:O.length=pre.length+st.length:=by rw [h1,Q0]
  have fin:∀ {st:List Pt},O=pre++st->Dq s c st=Dq s c O->Dq s c st=st->Ut (Pd s [] (R.take (i+1))).reverse=(Ut O.reverse).take st.length++[U3 c]/\(pre=[]->Ut (Pd s [] (R.take (i+1))).reverse=Ut O.reverse++[U3 c]):=λ{st} e1 e2 e3=>by
   rw [hst,<-e2,e3];refine ⟨hfin e1,λhp=>?_⟩;rw [hp] at e1;rw [<-hfull,e1]; rfl
  rcases st with _ | ⟨z,_ | ⟨y,r⟩⟩
  ·obtain ⟨f1,f2⟩:=fin h1 h3 rfl;cases b with
   |
    false =>
    have hp:=h2 rfl;have f2:=f2 hp;rw [hp] at hl1;have hl2:(Ut O.reverse).length<=1:=by rw [hrl,hl1]; simp
    refine Ua [.g 17 false Ug,.f rfl,.s (sz:=5) hm] rfl ?_;exact rd (i+1) (by omega) hlt (by rw [f2]; rfl)
   |
    true =>
    refine Ua [.g 17 false (decide_eq_false (by simp)),.f rfl,.s (sz:=5) hm] rfl ?_;exact rd (i+1) (by omega) hlt (by rw [f1]; rfl)
  ·obtain ⟨f1,f2⟩:=fin h1 h3 rfl;cases b with
   |
    false =>
    have hp:=h2 rfl;have f2:=f2 hp;rw [hp] at hl1;have hl2:(Ut O.reverse).length<=1:=by rw [hrl,hl1]; simp
    refine Ua [.g 17 false Ug,.f rfl,.s (sz:=5) hm] rfl ?_;exact rd (i+1) (by omega) hlt (by rw [f2]; rfl)
   |
    true =>
    refine Ua [.g 17 false (decide_eq_false (by simp)),.f rfl,.s (sz:=5) hm] rfl ?_;exact rd (i+1) (by omega) hlt (by rw [f1]; rfl)
  ·have sz:=hOm z (by rw [h1]; simp);have sy:=hOm y (by rw [h1]; simp);have co:=xF sy sz hcp;have cg:=HJ (XV sy sz hcp).dp ht;have gz:=hget h1 (r.length+1) rfl;have gy:=hget (pre:=pre++[z]) (r:=r) (x:=y) (by rw [h1]; simp) r.length rfl;have hl1:O.length=pre.length+(r.length+2):=hl1;have hls:=hs' y z c;by_cases hq:s y z c=true
   ·have hg:¬G8 (Fg t) (G0 y.c z.c c.c)<=0:=by rw [hls] at hq; have:=of_decide_eq_true hq; omega
    obtain ⟨f1,f2⟩:=fin h1 h3 (by simp only [Dq]; rw [if_pos hq]);cases b with
    |
     false =>
     have hp:=h2 rfl;have f2:=f2 hp;rw [hp] at hl1;have hl2:(Ut O.reverse).length=r.length+2:=by rw [hrl,hl1]; simp
     refine Ua [.g 17 true Uh,.r 21 (eI (b:=(r.length:Int)) (by omega)),.i r.length,.x gy,.r 28 (eI (b:=((r.length+1:Nat):Int)) (by omega)),.i (r.length+1),.x gz,.k co,.k cg,.f (decide_eq_false hg),.s (sz:=5) hm] rfl ?_;exact rd (i+1) (by omega) hlt (by rw [f2]; rfl)
    |
     true =>
     refine Ua [.g 17 true (decide_eq_true (by simp; omega)),.r 21 (eI (b:=(r.length:Int)) (by simp; omega)),.i r.length,.x (l:=Ut O.reverse) (i:=0+r.length) (xs:=U3 y) (by rw [Zv]; exact gy),.r 28 (eI (b:=((r.length+1:Nat):Int)) (by simp)),.i (r.length+1),.x (l:=Ut O.reverse) (i:=0+(r.length+1)) (xs:=U3 z) (by rw [Zv]; exact gz),.k co,.k cg,.f (decide_eq_false hg),.s (sz:=5) hm] rfl ?_;exact rd (i+1) (by omega) hlt (by rw [f1]; rfl)
   ·have hg:G8 (Fg t) (G0 y.c z.c c.c)<=0:=by
     rw [hls] at hq; have:=of_decide_eq_false (Wn.2 hq); omega
    have hpop:Dq s c (y::r)=Dq s c O:=by rw [<-h3]; simp only [Dq]; rw [if_neg hq]
    have hin:(∃ pre',O=pre'++(y::r)/\((true:Bool)=false->pre'=[]))/\Dq s c (y::r)=Dq s c O:=⟨⟨pre++[z],by rw [h1]; simp,λh=>by cases h⟩,hpop⟩;cases b with
    |
     false =>
     have hp:=h2 rfl;rw [hp] at hl1;have hl2:(Ut O.reverse).length=r.length+2:=by rw [hrl,hl1]; simp
     refine Ua [.g 17 true Uh,.r 21 (eI (b:=(r.length:Int)) (by omega)),.i r.length,.x gy,.r 28 (eI (b:=((r.length+1:Nat):Int)) (by omega)),.i (r.length+1),.x gz,.k co,.k cg,.t (decide_eq_true hg),.r 42 (eI (b:=((r.length+1:Nat):Int)) (by omega)),.i (r.length+1)] rfl ?_;exact rd (true,y::r) (by simp) hin rfl
    |
     true =>
     refine Ua [.g 17 true (decide_eq_true (by simp; omega)),.r 21 (eI (b:=(r.length:Int)) (by simp; omega)),.i r.length,.x (l:=Ut O.reverse) (i:=0+r.length) (xs:=U3 y) (by rw [Zv]; exact gy),.r 28 (eI (b:=((r.length+1:Nat):Int)) (by simp)),.i (r.length+1),.x (l:=Ut O.reverse) (i:=0+(r.length+1)) (xs:=U3 z) (by rw [Zv]; exact gz),.k co,.k cg,.t (decide_eq_true hg),.r 42 (eI (b:=((r.length+1:Nat):Int)) (by simp)),.i (r.length+1)] rfl ?_;exact rd (true,y::r) (by simp) hin rfl
 ·obtain rfl:i=R.length:=by omega
  rw [Q6];exact Ub [.f (by simp [hcl])] rfl
theorem fW {sg:Ui->Int} {R:List Pt} (h:R≠[]):0<(Sr sg R).length:=by
 unfold Sr;rw [Xo];obtain ⟨x,hx⟩:∃ x,R.getLast? = some x:=⟨_,Ym h⟩;obtain ⟨l,hl⟩:=Y7.1 hx;rw [hl,Af]; simp
theorem vD {α:Type} (s:α->α->α->Bool) (c:α):∀ {st:List α},st≠[]->0<(Dq s c st).length
 | [],h=>absurd rfl h
 | [_],_=>by simp [Dq]
 |
  b::a::r,_=>by
  simp only [Dq]
  split
  ·simp
  ·exact vD s c (by simp)
theorem PT {sg:Ui->Int} {R:List Pt} (h:2<=R.length):2<=(Sr sg R).length:=by
 unfold Sr;rw [Xo];obtain ⟨x,hx⟩:∃ x,R.getLast? = some x:=⟨_,Ym (by intro e; rw [e] at h; simp at h)⟩;obtain ⟨l,hl⟩:=Y7.1 hx;have hl0:l≠[]:=by intro e; rw [hl,e] at h; simp at h
 have:=fW (sg:=sg) hl0;unfold Sr at this;rw [Xo] at this;have:=vD (KE sg) x (st:=Pd (KE sg) [] l) (by intro e; rw [e] at this; simp at this);rw [hl,Af,Q4]; omega
theorem pD {R:List Pt} {t:Tm} (hR:∀ p∈R,Sc p.c) (hn:R.length≤1000000) (ht:Va t):Uf 168 [.agg (ta t),.one (pts R)] [.one (pts (D8 (Fg t) R))]:=by
 have hcl:=Gs R;have hrl:=Gs R.reverse;rw [Xo] at hrl;show Uf 168 [.agg (ta t),.one (.row (Ut R))] [.one (.row (Ut (D8 (Fg t) R)))];refine Gb func168 rfl ?_;by_cases h3:R.length<3
 ·have e:D8 (Fg t) R=R:=if_pos h3;rw [e];exact Ub [.T] rfl
 have c1:=pR hR hn ht;have c2:=pR (R:=R.reverse) (λp hp=>hR p (Ji.1 hp)) (by rw [Xo]; exact hn) ht;have p1:=PT (sg:=Fg t) (R:=R) (by omega);have p2:=PT (sg:=Fg t) (R:=R.reverse) (by rw [Xo]; omega);have k1:=Oc (Fg t) R;have k2:=Oc (Fg t) R.reverse;rw [Xo] at k2;refine go tt [.F,.o 5 41 5,.r 15 (eI (b:=(R.length:Int)-1-((0:Nat):Int)) (by omega))] rfl (by simp [Uw,hcl]; omega) ?_;refine Ue (S:=Nat) 2 (λL1 j=>(6,.v (.oi ((R.length:Int)-1-(j:Int))))::(5,.v (.one (.orow 1 5 none)))::L1) (λj=>[.blk 189 (ta t),.row false 41 5 (Ut (R.reverse.take j))]) (λj=>R.length-j) (λj=>j<=R.length) 0 (Qi _) rfl rfl λj hj=>?_
 by_cases hlt:j<R.length
 ·obtain ⟨x,hx⟩:=gxE (l:=R) (i:=R.length-1-j) (by omega);have hx':R.reverse[j]? = some x:=by rw [List.getElem?_reverse (by omega)]; exact hx
  have hm:∀ y∈[U3 x],y.length=5:=λy hy=>by rw [Qj.1 hy]; rfl
  have e:Ut (R.reverse.take (j+1))=Ut (R.reverse.take j)++[U3 x]:=by rw [Z5,hx']; simp [Ut]
  have htl:(Ut (R.reverse.take j)).length=j:=by rw [Gs,Qu,Xo]; omega
  refine go tt [.T,.r 22 (eI (b:=((R.length-1-j:Nat):Int)) (by omega)),.x (Tg hx),.s (sz:=5) hm,.r 19 (eI (b:=(R.length:Int)-1-((j+1:Nat):Int)) (by omega))] rfl (by simp [Uw,htl]; omega) ?_;exact rd (j+1) (by omega) hlt (by rw [e]; rfl)
 ·obtain rfl:j=R.length:=by omega
  rw [Qo (by rw [Xo]; exact Ql _)];obtain ⟨A,hA⟩:=nmE (Sr (Fg t) R);obtain ⟨C,hC⟩:=nmE (Sr (Fg t) R.reverse);have e:D8 (Fg t) R=A.dropLast++C.dropLast:=by rw [hA,hC]; exact if_neg h3
  rw [<-hA] at c1 p1 k1;rw [<-hC] at c2 p2 k2;rw [e];have hs:∀ y∈(C.map U3).take (C.length-1),y.length=5:=λy hy=>XC C y (Qn hy)
  have hs2:∀ y∈(A.map U3).take (A.length-1),y.length=5:=λy hy=>XC A y (Qn hy)
  refine Ub [.F,.p 1,.k c1,.k c2,.r 36 (eI (b:=((A.length-1:Nat):Int)) (by simp; omega)),.r 39 (eI (b:=((A.length-1:Nat):Int)) (by simp; omega)),.i (A.length-1),.r 44 (eI (b:=((C.length-1:Nat):Int)) (by simp; omega)),.i (C.length-1),.s (sz:=5) hs] rfl (by simp [Ut,Yl,List.dropLast_eq_take]) ?_;simp only [Uw,Qu,Zl]
  and_intros <;> first | exact hs2 | omega
theorem HZ {l:List Pt} {t:Tm} (hl:∀ p∈l,Sc p.c) (hn:l.length≤1000000) (ht:Va t):Uz prog 165 [.agg (ta t),.one (pts l)] [] [.one (.orow 0 7 none)] [.row false 126 7 (Fc (T0 (Fg t) l))]:=by
 have hcl:=Gs l;show Uz prog 165 [.agg (ta t),.one (.row (Ut l))] [] [.one (.orow 0 7 none)] [.row false 126 7 (Fc (T0 (Fg t) l))];refine Gb func165 rfl ?_;refine W9 [.o 5 126 7] rfl ?_;refine Ue (S:=Nat) 2 (λL1 i=>(6,.v (.oi ((i+1:Nat):Int)))::(5,.v (.one (.orow 1 7 none)))::L1) (λi=>[.blk 189 (ta t),.row false 126 7 (Fc ((T0 (Fg t) l).take i))]) (λi=>l.length-i) (λi=>i<=l.length-1) 0 (Qi _) rfl rfl λi hi=>?_
 by_cases hlt:i+1<l.length
 ·obtain ⟨a,ha⟩:=gxE (l:=l) (i:=i) (by omega);obtain ⟨b,hb⟩:=gxE (l:=l) (i:=i+1) hlt;have hg:=GG (Fg t) ha hb;have hm:∀ y∈[D3 (Ow (Fg t) a b)],y.length=7:=λy hy=>by rw [Qj.1 hy]; rfl
  refine go tt [.t (by simp [hcl]; omega),.r 19 (eI (b:=(i:Int)) (by simp)),.x (Tg ha),.x (Tg hb),.k (sO (hl a (Qa ha)) (hl b (Qa hb)) ht),.s (sz:=7) hm,.r 14 (eI (b:=((i+1+1:Nat):Int)) (by simp))] rfl (by simp [Uw,Gs,Mw,Ni]; omega) ?_;exact rd (i+1) (by omega) (by omega) (by rw [hg]; simp [Fc]; rfl)
 ·have e:(T0 (Fg t) l).take i=T0 (Fg t) l:=Qo (by rw [Ni]; omega);rw [e];exact Ud [] [1] [.f (by simp [hcl]; omega)] rfl
theorem jS {C:List Pt} {i:Nat} {a b:Pt} (ha:C[i]? = some a) (hb:C[(i+1) % C.length]? = some b):(H8 C)[i]? = some (a,b):=by
 have hi:=(Qe.1 ha).1;unfold H8;rw [List.getElem?_zip_eq_some];refine ⟨ha,?_⟩;by_cases h:i+1<C.length
 ·rw [Xs h] at hb;rw [Zq (by rw [Ze]; omega),Xa,Jr]; exact hb
 ·have e:i+1=C.length:=by omega
  rw [e,Nat.mod_self] at hb;rw [Xq (by rw [Ze]; omega),Ze,show i-(C.length-1)=0 by omega,V9 (by omega)]; exact hb
theorem jP (C:List Pt):(H8 C).length=C.length:=by
 unfold H8;rw [List.length_zip,Q0,Ze,Qu]; omega
theorem BB {α β:Type} {f:α->List β} {l:List α} {i:Nat} {x:α} (h:l[i]? = some x):(l.take (i+1)).flatMap f=(l.take i).flatMap f++f x:=by
 rw [Z5,h]; simp
theorem GM {α β:Type} {f:α->β} {p:α->Bool} {l:List α} {i:Nat} {x:α} (h:l[i]? = some x):((l.take (i+1)).filter p).map f=((l.take i).filter p).map f++if p x=true then [f x] else []:=by
 rw [Z5,h,Vi,Yd];congr 1;simp only [Option.toList];by_cases hp:p x=true
 ·rw [if_pos hp,X4 hp]; rfl
 ·rw [if_neg hp,Ju hp]; rfl
theorem jD {α β:Type} {f:α->List β} {n:Nat} (hf:∀ x,(f x).length<=n) (l:List α):(l.flatMap f).length<=l.length*n:=YR f n l λx _=>hf x
theorem dG {l:List Pt} (hl:∀ p∈l,Sc p.c):∀ p∈l,Qmn 4294967294 1073741824 p:=λp hp=>⟨(hl p hp).n,(hl p hp).c.mono (by decide) (by decide)⟩
set_option maxHeartbeats 4000000 in
theorem DX {l:List Pt} {a:Tm} {c:Cr} {r1:Uo} (hl:∀ p∈l,Sc p.c) (hn:l.length≤10) (ha:Va a):Uz prog 124 [.one (.ow 0 0),.agg (ta a)] [.blk 201 (Ho c (Ut l) r1)] [.one (.row (Fc (CE l a)))] [.blk 201 (Ho c (Ut l) (oQ l a))]:=by
 have hwl:=I2 l;have cw:=uO (l:=l) (dG hl) (by omega);have cr:=xP (l:=Rw l) (λp hp=>hl p (Mn hp)) (by omega) ha;have cn:=pD (R:=Tq a (Rw l)) (λp hp=>hl p (Mn (Hh.1 hp))) (by rw [Bn]; omega) ha;have cr2:=xP hl (by omega) ha;have cc:=HZ (l:=Tq a l) (t:=a) (λp hp=>hl p (Hh.1 hp)) (by rw [Bn]; omega) ha;have hCm:∀ p∈S0 l a,p∈l:=λp hp=>Ia hp
 have hCl:=UI l a;have e0:CE l a=JV l a++Mz (Fg a) l (S0 l a):=rfl;rw [e0];show Uz prog 124 _ _ _ [.blk 201 (Ho c (Ut l) (Ut (S0 l a)))];have cn:Uf 168 [.agg (ta a),.one (pts (Tq a (Rw l)))] [.one (pts (S0 l a))]:=cn;have cc:Uz prog 165 [.agg (ta a),.one (pts (Tq a l))] [] [.one (.orow 0 7 none)] [.row false 126 7 (Fc (JV l a))]:=cc;have hbl:(JV l a).length<=10:=by unfold JV; rw [Ni,Bn]; omega
 obtain ⟨C,hC⟩:=nmE (S0 l a);obtain ⟨cs0,hc0⟩:=nmE (JV l a);rw [<-hC] at cn hCm hCl ⊢;rw [<-hc0] at cc hbl ⊢;have hcp:=Gs C;have hlp:=Gs l;have eel:∀ x,(Ef (Fg a) l x).length<=l.length:=λx=>by unfold Ef; rw [List.length_map]; exact List.length_filter_le _ _
 refine Gb func124 rfl ?_;refine W9 [.k cw,.k cr,.k cn,.k As,.k cr2,.c [2] cc] rfl ?_;by_cases h2:C.length<2
 ·have e:Mz (Fg a) l C=[]:=if_pos h2;rw [e,Zy];exact Ud [2] [0] [.t (decide_eq_true (by simp; omega))] rfl
 have e:Mz (Fg a) l C=(H8 C).flatMap (Ef (Fg a) l):=if_neg h2;rw [e];refine W9 [.f (decide_eq_false (by simp; omega))] rfl ?_;refine sb [(48,.v (.oi 0)),(47,.v (.oi ((C.map U3).length:Int))),(46,.v (.one (pts C))),(6,.v (.one (.orow 2 7 none))),(3,.v (.one (.ow 1 0))),(0,.v (.one (.ow 0 0)))] [.blk 201 (Ho c (Ut l) (Ut C)),.blk 189 (ta a),.row false 126 7 (Fc cs0)] rfl rfl ?_;rw [show Fc cs0=Fc (cs0++((H8 C).take 0).flatMap (Ef (Fg a) l)) by simp];refine Ue (S:=Nat) 3 (λL1 i=>(48,.v (.oi i))::(6,.v (.one (.orow 2 7 none)))::L1) (λi=>[.blk 201 (Ho c (Ut l) (Ut C)),.blk 189 (ta a),.row false 126 7 (Fc (cs0++((H8 C).take i).flatMap (Ef (Fg a) l)))]) (λi=>C.length-i) (λi=>i<=C.length) 0 (Qi _) rfl rfl λi hi=>?_
 by_cases hlt:i<C.length
 ·obtain ⟨x,hx⟩:=gxE (l:=C) (i:=i) hlt;obtain ⟨y,hy⟩:=gxE (l:=C) (i:=(i+1) % C.length) (Z6 _ (by omega));have he:=jS hx hy;have sx:=hl x (hCm x (Qa hx));have sy:=hl y (hCm y (Qa hy));have hflat:=BB (f:=Ef (Fg a) l) he;obtain ⟨F,hF⟩:=nmE (cs0++((H8 C).take i).flatMap (Ef (Fg a) l));have hFl:F.length<=10+20*10:=by
   have h1:=jD eel ((H8 C).take i);have h2:((H8 C).take i).length*l.length<=20*10:=Q7 (by rw [Qu]; omega) hn;rw [hF,Q0]; omega
  have hmod:(((i+1:Nat):Int)).tmod ((C.map U3).length:Int)=(((i+1) % C.length:Nat):Int):=by rw [Zl]; exact (Int.ofNat_tmod _ _).symm
  have hm0:=Kw ((i+1:Nat):Int) (show (C.length:Int)≠0 by omega);have hm1:=V7 ((i+1:Nat):Int) (show (0:Int)<C.length by omega);have hnext:cs0++((H8 C).take (i+1)).flatMap (Ef (Fg a) l)=F++(l.filter (JU (x,y))).map λc=>Dh (Fg a) x y c:=by rw [hflat,<-Q9,<-hF]; rfl
  rw [<-hF];refine go tt [.t (decide_eq_true (by simp; omega)),.x (Tg hx),.r 58 (eI (b:=((i+1:Nat):Int)) (by simp)),.r 64 (eI (b:=(((i+1) % C.length:Nat):Int)) hmod),.x (Tg hy),.k As] rfl (by simp only [Uw]; omega) ?_;rw [show Fc F=Fc (F++((l.take 0).filter (JU (x,y))).map λc=>Dh (Fg a) x y c) by simp];refine Ue (S:=Nat) 5 (λL1 k=>(73,.v (.oi k))::(6,.v (.one (.orow 2 7 none)))::L1) (λk=>[.blk 201 (Ho c (Ut l) (Ut C)),.blk 189 (ta a),.row false 126 7 (Fc (F++((l.take k).filter (JU (x,y))).map λc=>Dh (Fg a) x y c)),.blk 41 (U3 x),.blk 41 (U3 y)]) (λk=>l.length-k) (λk=>k<=l.length) 0 (Qi _) rfl rfl λk hk=>?_
  by_cases hlk:k<l.length
  ·obtain ⟨z,hz⟩:=gxE (l:=l) (i:=k) hlk;have sz:=hl z (Qa hz);have hflt:=GM (f:=λc=>Dh (Fg a) x y c) (p:=JU (x,y)) hz;obtain ⟨G,hG⟩:=nmE (((l.take k).filter (JU (x,y))).map λc=>Dh (Fg a) x y c);have hGl:G.length<=10:=by
    have h1:=Y0 (JU (x,y)) (l.take k);rw [Qu] at h1;rw [hG,Zl]; omega
   rw [<-hG] at hflt ⊢;by_cases h1:z.id=x.id
   ·rw [if_neg (show ¬JU (x,y) z=true by simp [JU,h1]),Zy] at hflt;refine Ua [.t (decide_eq_true (by simp; omega)),.x (Tg hz),.g 82 false (decide_eq_false (by simp [h1])),.f rfl] rfl ?_;exact rd (k+1) (by omega) hlk (by rw [hflt]; rfl)
   ·by_cases h2:z.id=y.id
    ·rw [if_neg (show ¬JU (x,y) z=true by simp [JU,h2]),Zy] at hflt;refine Ua [.t (decide_eq_true (by simp; omega)),.x (Tg hz),.g 82 true (decide_eq_true h1),.f (decide_eq_false (by simp [h2]))] rfl ?_;exact rd (k+1) (by omega) hlk (by rw [hflt]; rfl)
    ·rw [if_pos (show JU (x,y) z=true by simp [JU,h1,h2])] at hflt;have hm:∀ q∈[D3 (Dh (Fg a) x y z)],q.length=7:=λq hq=>by rw [Qj.1 hq]; rfl
     refine go tt [.t (decide_eq_true (by simp; omega)),.x (Tg hz),.g 82 true (decide_eq_true h1),.t (decide_eq_true h2),.k (pQ sx sy sz ha),.s (sz:=7) hm] rfl (by simp [Uw,Mw]; omega) ?_;have e3:Fc (F++(G++[Dh (Fg a) x y z]))=Fc (F++G)++[D3 (Dh (Fg a) x y z)]:=by simp [Fc]
     exact rd (k+1) (by omega) hlk (by rw [hflt,e3]; rfl)
  ·obtain rfl:k=l.length:=by omega
   rw [Q6,<-hnext];refine Ua [.f (decide_eq_false (by simp))] rfl ?_;exact rd (i+1) (by omega) hlt rfl
 ·obtain rfl:i=C.length:=by omega
  rw [Qo (by rw [jP]; exact Ql _)];exact Ud [2] [0] [.f (decide_eq_false (by simp))] rfl
theorem ozM {P:Program} [Mo P] {n:Nat} {Q:Exit->Sg->Up->Prop} {L L':Sg} {B B':Up} (d off T sz:Nat) {it:List It} (hs:Ri it=true) (h:aH (P:=P) d L B [.oc d off T sz]=some (L',B',[],[])) (k:AK P n Q it L' B'):AK P n Q it L B:=AK.sub (qK h EqOk.nil) hs k
theorem IY {k:Crv} (hk:Sc k):Uf 251 [.agg (cl k)] [.one (.row (ZN (O5 k)))]:=by
 have ok:=WU hk.n hk.c;have l1:=Ru k.x k.x;have l2:=Ru k.y k.y;have:=hk.c.lx;have:=hk.c.ly;have bx:Bd 258 (Ge k.x k.x):=Se (u:=2) hk.c.x hk.c.x (by omega);have by_:Bd 258 (Ge k.y k.y):=Se (u:=2) hk.c.y hk.c.y (by omega);have c1:=Sy (p:=k.x) (c:=k.d) (by omega) (Uv hk.c.x (by decide)) (Qc hk.c.d (by decide));have c2:=Sy (p:=k.y) (c:=k.d) (by omega) (Uv hk.c.y (by decide)) (Qc hk.c.d (by decide));have c3:=YJ (p:=k.x) (q:=k.x) hk.n.1 hk.n.1 (by omega) (by omega) hk.c.x hk.c.x (by decide);have c4:=YJ (p:=k.y) (q:=k.y) hk.n.2.1 hk.n.2.1 (by omega) (by omega) hk.c.y hk.c.y (by decide);have c5:=PY (p:=Ge k.x k.x) (q:=Ge k.y k.y) (by omega) (by omega) (Uv bx (by decide)) (Uv by_ (by decide));have c6:=Sk (Uu k.d) (Uu k.d) (Qc hk.c.d (by decide)) (Qc hk.c.d (by decide));have hl:∀ p∈O5 k,p.length≤1000000:=λp hp=>by
  obtain ⟨j,hj⟩:=Xt hp;have h1:=ok.2 j p hj;have:[2,2,4,0].getD j 0<=4:=by
   match j with
   | 0=>decide
   | 1=>decide
   | 2=>decide
   | 3=>decide
   | j+4=>simp
  omega
 have cd:=oV (r:=O5 k) (λp hp=>(ok.1 p hp).1) (λp hp=>Uv (ok.1 p hp).2 (by decide)) hl (by show 4<=1000; decide);exact Uc func251 rfl [.k (Cq hk.n (hk.c.mono (by decide) (by decide))),.k c1,.k c2,.k c3,.k c4,.k c5,.k c6,.k cd] rfl
theorem oS {a b c d:Crv} (ha:Sc a) (hb:Sc b) (hc:Sc c) (hd:Sc d):Uf 210 [.agg (cl a),.agg (cl b),.agg (cl c),.agg (cl d)] [pr (JD a b c d)]:=by
 have cd:=Qlb (by decide) (k:=4) (ds:=[2,2,4,0]) (by decide) rfl (by decide) (wZ ha.n hb.n hc.n hd.n ha.c hb.c hc.c hd.c);exact Uc func210 rfl [.k (IY ha),.k (IY hb),.k (IY hc),.k (IY hd),.k cd] rfl
set_option maxHeartbeats 1000000 in
theorem Qhg {a b c d:Pt} {t:Tm} (ha:Sc a.c) (hb:Sc b.c) (hc:Sc c.c) (hd:Sc d.c) (ht:Va t):Uf 167 [.oi 4,.agg (ta t),.one (.row [U3 a,U3 b,U3 c,U3 d])] [.agg (D3 (EV (Fg t) a b c d)),.oi 0]:=by
 have hp:=(mW ha hb hc hd).dp;have e:D3 (EV (Fg t) a b c d)=[.int .i64 4,.int .i64 a.id,.int .i64 b.id,.int .i64 c.id,.int .i64 d.id,pl (JD a.c b.c c.c d.c),.int .i64 (G8 (Fg t) (JD a.c b.c c.c d.c))]:=by rw [EV]
 rw [e];have cg:=HJ hp ht;have cf:=oS ha hb hc hd;generalize JD a.c b.c c.c d.c=F at *;refine Gb func167 rfl ?_;refine W9 [.k lH,.f rfl] rfl ?_;refine Ue (S:=Nat) 3 (λL1 i=>(22,.v (.oi i))::L1) (λi=>[.blk 189 (ta t),.blk 126 iK,.blk 126 [.int .i64 4,.int .i64 (if 1<=i then a.id else 0),.int .i64 (if 2<=i then b.id else 0),.int .i64 (if 3<=i then c.id else 0),.int .i64 (if 4<=i then d.id else 0),.nils,.int .i64 0]]) (λi=>4-i) (λi=>i<=4) 0 (Qi _) rfl rfl λi hi=>?_
 rcases (show i=0\/i=1\/i=2\/i=3\/i=4 by omega) with rfl | rfl | rfl | rfl | rfl
 ·refine W9 [.t rfl,.x (i:=0) (xs:=U3 a) rfl,.i 0] rfl ?_ (by simp [Uw]);exact rd 1 (by omega) (by omega) rfl
 ·refine W9 [.t rfl,.x (i:=1) (xs:=U3 b) rfl,.i 1] rfl ?_ (by simp [Uw]);exact rd 2 (by omega) (by omega) rfl
 ·refine W9 [.t rfl,.x (i:=2) (xs:=U3 c) rfl,.i 2] rfl ?_ (by simp [Uw]);exact rd 3 (by omega) (by omega) rfl
 ·refine W9 [.t rfl,.x (i:=3) (xs:=U3 d) rfl,.i 3] rfl ?_ (by simp [Uw]);exact rd 4 (by omega) (by omega) rfl
 ·exact Ub [.f rfl,.f rfl,.f rfl,.f rfl,.t rfl,.x (i:=0) (xs:=U3 a) rfl,.x (i:=1) (xs:=U3 b) rfl,.x (i:=2) (xs:=U3 c) rfl,.x (i:=3) (xs:=U3 d) rfl,.k cf,.k cg] rfl
def jC (T:Mv) (s:Int) (n:Ui) (F:Mv) (k:Nat):Mv:=(List.range k).foldl (Ic T s n) F
theorem fB (T:Mv) (s:Int) (n:Ui) (F:Mv) (k:Nat):jC T s n F (k+1)=Ic T s n (jC T s n F k) k:=by unfold jC; rw [List.range_succ,List.foldl_append]; rfl
theorem fN (T:Mv) (s:Int) (n:Ui) (F:Mv):jC T s n F 4=LY T s n F:=rfl
set_option maxHeartbeats 4000000 in
theorem Qnk {F T:Mv} {s n0 n1 n2 n3:Int} (hT:zN T) (hs:-1<=s/\s<=1):Uz prog 175 [.one (.omap 0),.one (.omap 1),.oi s,.agg [.int .i64 n0,.int .i64 n1,.int .i64 n2,.int .i64 n3]] [.mpb F,.mpb T] [] [.mpb (LY T s [n0,n1,n2,n3] F),.mpb T]:=by
 have hm:Qgq T:=λk=>(hT k).1
 have hb:=λ(k:Ui) (x:Int) (hx:-1<=x/\x<=1)=>aZ (hT k).2 hx
 rw [<-fN];obtain ⟨f,hf⟩:=nmE (jC T s [n0,n1,n2,n3] F);have f0:F=f 0:=by rw [hf]; rfl
 have fs:∀ k,f (k+1)=Ic T s [n0,n1,n2,n3] (f k) k:=λk=>by rw [hf]; exact fB ..
 rw [<-hf];rw [f0];clear hf f0;refine Gb func175 rfl ?_;refine W9 [] rfl ?_;refine Ue (S:=Nat) 3 (λL1 k=>(14,.v (.oi k))::L1) (λk=>[.mpb (f k),.mpb T,.blk 122 [.int .i64 n0,.int .i64 n1,.int .i64 n2,.int .i64 n3]]) (λk=>4-k) (λk=>k<=4) 0 (by decide) rfl rfl λk hk=>?_
 rcases (show k=0\/k=1\/k=2\/k=3\/k=4 by omega) with rfl | rfl | rfl | rfl | rfl
 ·have e1:=fs 0;have e2:Ic T s [n0,n1,n2,n3] (f 0) 0=if QZ T [n1,n2,n3]*(-s)>0 then D7 (f 0) [n1,n2,n3] (.bool true) else f 0:=rfl
  rw [e2] at e1;refine W9 [.t rfl] rfl ?_;refine Ue (S:=Nat) 4 (λL1 i=>(18,.v (.oi i))::(10,.v (.oi (if i<=0 then (i:Int) else (i:Int)-1)))::L1) (λi=>[.mpb (f 0),.mpb T,.blk 122 [.int .i64 n0,.int .i64 n1,.int .i64 n2,.int .i64 n3],.blk 101 [.int .i64 (if 2<=i then n1 else 0),.int .i64 (if 3<=i then n2 else 0),.int .i64 (if 4<=i then n3 else 0)]]) (λi=>4-i) (λi=>i<=4) 0 (by decide) rfl rfl λi hi=>?_
  rcases (show i=0\/i=1\/i=2\/i=3\/i=4 by omega) with rfl | rfl | rfl | rfl | rfl
  ·refine W9 [.t rfl,.i 0,.f rfl] rfl ?_ (by simp [Uw]);exact rd 1 (by omega) (by omega) rfl
  ·refine W9 [.t rfl,.i 1,.t rfl,.i 0] rfl ?_ (by simp [Uw]);exact rd 2 (by omega) (by omega) rfl
  ·refine W9 [.t rfl,.i 2,.t rfl,.i 1] rfl ?_ (by simp [Uw]);exact rd 3 (by omega) (by omega) rfl
  ·refine W9 [.t rfl,.i 3,.t rfl,.i 2] rfl ?_ (by simp [Uw]);exact rd 4 (by omega) (by omega) rfl
  ·have hbb:=hb [n1,n2,n3] (-s) (by omega);by_cases hc:QZ T [n1,n2,n3]*(-s)>0
   ·rw [if_pos hc] at e1;refine go tt [.f rfl,.t rfl,.t (decide_eq_true hc)] rfl (by simp only [Uw]; first | exact ⟨⟨by omega,by omega⟩,hbb,hm,⟨by omega,by omega⟩,by decide,by omega,by omega⟩ | exact ⟨⟨by omega,by omega⟩,hbb,hm,by decide,by omega,by omega⟩) ?_;exact rd 1 (by omega) (by omega) (by rw [e1]; rfl)
   ·rw [if_neg hc] at e1;refine go tt [.f rfl,.t rfl,.f (decide_eq_false hc)] rfl (by simp only [Uw]; first | exact ⟨⟨by omega,by omega⟩,hbb,hm,⟨by omega,by omega⟩,by decide,by omega,by omega⟩ | exact ⟨⟨by omega,by omega⟩,hbb,hm,by decide,by omega,by omega⟩) ?_;exact rd 1 (by omega) (by omega) (by rw [e1]; rfl)
 ·have e1:=fs 1;have e2:Ic T s [n0,n1,n2,n3] (f 1) 1=if QZ T [n0,n2,n3]*s>0 then D7 (f 1) [n0,n2,n3] (.bool true) else f 1:=rfl
  rw [e2] at e1;refine W9 [.t rfl] rfl ?_;refine Ue (S:=Nat) 4 (λL1 i=>(18,.v (.oi i))::(10,.v (.oi (if i<=1 then (i:Int) else (i:Int)-1)))::L1) (λi=>[.mpb (f 1),.mpb T,.blk 122 [.int .i64 n0,.int .i64 n1,.int .i64 n2,.int .i64 n3],.blk 101 [.int .i64 (if 1<=i then n0 else 0),.int .i64 (if 3<=i then n2 else 0),.int .i64 (if 4<=i then n3 else 0)]]) (λi=>4-i) (λi=>i<=4) 0 (by decide) rfl rfl λi hi=>?_
  rcases (show i=0\/i=1\/i=2\/i=3\/i=4 by omega) with rfl | rfl | rfl | rfl | rfl
  ·refine W9 [.t rfl,.i 0,.t rfl,.i 0] rfl ?_ (by simp [Uw]);exact rd 1 (by omega) (by omega) rfl
  ·refine W9 [.t rfl,.i 1,.f rfl] rfl ?_ (by simp [Uw]);exact rd 2 (by omega) (by omega) rfl
  ·refine W9 [.t rfl,.i 2,.t rfl,.i 1] rfl ?_ (by simp [Uw]);exact rd 3 (by omega) (by omega) rfl
  ·refine W9 [.t rfl,.i 3,.t rfl,.i 2] rfl ?_ (by simp [Uw]);exact rd 4 (by omega) (by omega) rfl
  ·have hbb:=hb [n0,n2,n3] s (by omega);by_cases hc:QZ T [n0,n2,n3]*s>0
   ·rw [if_pos hc] at e1;refine go tt [.f rfl,.f rfl,.t (decide_eq_true hc)] rfl (by simp only [Uw]; first | exact ⟨⟨by omega,by omega⟩,hbb,hm,⟨by omega,by omega⟩,by decide,by omega,by omega⟩ | exact ⟨⟨by omega,by omega⟩,hbb,hm,by decide,by omega,by omega⟩) ?_;exact rd 2 (by omega) (by omega) (by rw [e1]; rfl)
   ·rw [if_neg hc] at e1;refine go tt [.f rfl,.f rfl,.f (decide_eq_false hc)] rfl (by simp only [Uw]; first | exact ⟨⟨by omega,by omega⟩,hbb,hm,⟨by omega,by omega⟩,by decide,by omega,by omega⟩ | exact ⟨⟨by omega,by omega⟩,hbb,hm,by decide,by omega,by omega⟩) ?_;exact rd 2 (by omega) (by omega) (by rw [e1]; rfl)
 ·have e1:=fs 2;have e2:Ic T s [n0,n1,n2,n3] (f 2) 2=if QZ T [n0,n1,n3]*(-s)>0 then D7 (f 2) [n0,n1,n3] (.bool true) else f 2:=rfl
  rw [e2] at e1;refine W9 [.t rfl] rfl ?_;refine Ue (S:=Nat) 4 (λL1 i=>(18,.v (.oi i))::(10,.v (.oi (if i<=2 then (i:Int) else (i:Int)-1)))::L1) (λi=>[.mpb (f 2),.mpb T,.blk 122 [.int .i64 n0,.int .i64 n1,.int .i64 n2,.int .i64 n3],.blk 101 [.int .i64 (if 1<=i then n0 else 0),.int .i64 (if 2<=i then n1 else 0),.int .i64 (if 4<=i then n3 else 0)]]) (λi=>4-i) (λi=>i<=4) 0 (by decide) rfl rfl λi hi=>?_
  rcases (show i=0\/i=1\/i=2\/i=3\/i=4 by omega) with rfl | rfl | rfl | rfl | rfl
  ·refine W9 [.t rfl,.i 0,.t rfl,.i 0] rfl ?_ (by simp [Uw]);exact rd 1 (by omega) (by omega) rfl
  ·refine W9 [.t rfl,.i 1,.t rfl,.i 1] rfl ?_ (by simp [Uw]);exact rd 2 (by omega) (by omega) rfl
  ·refine W9 [.t rfl,.i 2,.f rfl] rfl ?_ (by simp [Uw]);exact rd 3 (by omega) (by omega) rfl
  ·refine W9 [.t rfl,.i 3,.t rfl,.i 2] rfl ?_ (by simp [Uw]);exact rd 4 (by omega) (by omega) rfl
  ·have hbb:=hb [n0,n1,n3] (-s) (by omega);by_cases hc:QZ T [n0,n1,n3]*(-s)>0
   ·rw [if_pos hc] at e1;refine go tt [.f rfl,.t rfl,.t (decide_eq_true hc)] rfl (by simp only [Uw]; first | exact ⟨⟨by omega,by omega⟩,hbb,hm,⟨by omega,by omega⟩,by decide,by omega,by omega⟩ | exact ⟨⟨by omega,by omega⟩,hbb,hm,by decide,by omega,by omega⟩) ?_;exact rd 3 (by omega) (by omega) (by rw [e1]; rfl)
   ·rw [if_neg hc] at e1;refine go tt [.f rfl,.t rfl,.f (decide_eq_false hc)] rfl (by simp only [Uw]; first | exact ⟨⟨by omega,by omega⟩,hbb,hm,⟨by omega,by omega⟩,by decide,by omega,by omega⟩ | exact ⟨⟨by omega,by omega⟩,hbb,hm,by decide,by omega,by omega⟩) ?_;exact rd 3 (by omega) (by omega) (by rw [e1]; rfl)
 ·have e1:=fs 3;have e2:Ic T s [n0,n1,n2,n3] (f 3) 3=if QZ T [n0,n1,n2]*s>0 then D7 (f 3) [n0,n1,n2] (.bool true) else f 3:=rfl
  rw [e2] at e1;refine W9 [.t rfl] rfl ?_;refine Ue (S:=Nat) 4 (λL1 i=>(18,.v (.oi i))::(10,.v (.oi (if i<=3 then (i:Int) else (i:Int)-1)))::L1) (λi=>[.mpb (f 3),.mpb T,.blk 122 [.int .i64 n0,.int .i64 n1,.int .i64 n2,.int .i64 n3],.blk 101 [.int .i64 (if 1<=i then n0 else 0),.int .i64 (if 2<=i then n1 else 0),.int .i64 (if 3<=i then n2 else 0)]]) (λi=>4-i) (λi=>i<=4) 0 (by decide) rfl rfl λi hi=>?_
  rcases (show i=0\/i=1\/i=2\/i=3\/i=4 by omega) with rfl | rfl | rfl | rfl | rfl
  ·refine W9 [.t rfl,.i 0,.t rfl,.i 0] rfl ?_ (by simp [Uw]);exact rd 1 (by omega) (by omega) rfl
  ·refine W9 [.t rfl,.i 1,.t rfl,.i 1] rfl ?_ (by simp [Uw]);exact rd 2 (by omega) (by omega) rfl
  ·refine W9 [.t rfl,.i 2,.t rfl,.i 2] rfl ?_ (by simp [Uw]);exact rd 3 (by omega) (by omega) rfl
  ·refine W9 [.t rfl,.i 3,.f rfl] rfl ?_ (by simp [Uw]);exact rd 4 (by omega) (by omega) rfl
  ·have hbb:=hb [n0,n1,n2] s (by omega);by_cases hc:QZ T [n0,n1,n2]*s>0
   ·rw [if_pos hc] at e1;refine go tt [.f rfl,.f rfl,.t (decide_eq_true hc)] rfl (by simp only [Uw]; first | exact ⟨⟨by omega,by omega⟩,hbb,hm,⟨by omega,by omega⟩,by decide,by omega,by omega⟩ | exact ⟨⟨by omega,by omega⟩,hbb,hm,by decide,by omega,by omega⟩) ?_;exact rd 4 (by omega) (by omega) (by rw [e1]; rfl)
   ·rw [if_neg hc] at e1;refine go tt [.f rfl,.f rfl,.f (decide_eq_false hc)] rfl (by simp only [Uw]; first | exact ⟨⟨by omega,by omega⟩,hbb,hm,⟨by omega,by omega⟩,by decide,by omega,by omega⟩ | exact ⟨⟨by omega,by omega⟩,hbb,hm,by decide,by omega,by omega⟩) ?_;exact rd 4 (by omega) (by omega) (by rw [e1]; rfl)
 ·exact Ud [] [0,1] [.f rfl] rfl
set_option maxHeartbeats 8000000 in
theorem DZ {l:List Pt} {a:Tm} {c:Cr} {r1:Uo} (hl:∀ p∈l,Sc p.c) (hn:l.length≤6) (ha:Va a):Uz prog 126 [.one (.ow 0 0),.agg (ta a)] [.blk 205 (Ho c (Ut l) r1)] [.one (.row (Fc (wI l a)))] [.blk 205 (Ho c (Ut l) (dB l a))]:=by
 have hwl:=I2 l;have cw:=uO (l:=l) (dG hl) (by omega);have hgb:=Qcs a;unfold dB wI yL yE;obtain ⟨sg',hsg⟩:∃ s,s=Fg a:=⟨_,rfl⟩;obtain ⟨W,hW⟩:=nmE (Rw l);have hWs:∀ p∈W,Sc p.c:=λp hp=>hl p (Mn (by rw [<-hW]; exact hp))
 have mR:=λ{x y z:Pt} (hx:x∈W) (hy:y∈W) (hz:z∈W)=>pQ (t:=a) (hWs x hx) (hWs y hy) (hWs z hz) ha
 have mC:=λ{x y z u:Pt} (hx:x∈W) (hy:y∈W) (hz:z∈W) (hu:u∈W)=>Qhg (t:=a) (hWs x hx) (hWs y hy) (hWs z hz) (hWs u hu) ha
 rw [<-hW] at cw hwl ⊢;rw [<-hsg] at hgb mR mC ⊢;have hW6:W.length<=6:=by omega
 have hTi:=λps=>eP hgb ps
 have hcp:(W.map U3).length=W.length:=by simp
 have hcp2:=Gs W;have hdr:∀ i,(Ut W).drop i=Ut (W.drop i):=λi=>by unfold Ut; rw [List.map_drop]
 have hel:∀ z∈Ut W,z.length=5:=λz hz=>by obtain ⟨p,_,rfl⟩:=Zg.1 hz; rfl
 have s7:∀ x:Ct,∀ y∈[D3 x],y.length=7:=λx y hy=>by rw [Qj.1 hy]; rfl
 have s3:∀ x:P3,∀ y∈[trL x],y.length=3:=λx y hy=>by rw [Qj.1 hy]; rfl
 obtain ⟨T,hT⟩:=nmE (E8 (QJ sg' (Re W)));obtain ⟨G,hG⟩:=nmE (Ig T (JF sg' (Iy W)));have hTI:zN T:=by rw [hT]; exact hTi _
 have hTm:Qgq T:=λk=>(hTI k).1
 have hGB:iH G:=λk=>by rw [hG]; exact uN _ _ _ k
 rw [<-hT,<-hG];have e0:(Fc (((Dv 0 W).map (RH sg'))))=[]:=rfl;refine Gb func126 rfl ?_;refine W9 [.k cw,.o 6 126 7] rfl ?_;refine Ue (S:=Nat) 4 (λL1 i=>(42,.v (.oi i))::(6,.v (.one (.orow 2 7 none)))::L1) (λi=>[.blk 205 (Ho c (Ut l) r1),.blk 189 (ta a),.row false 126 7 (Fc ((Dv i W).map (RH sg'))),.mpb (E8 (QJ sg' (Dv i W)))]) (λi=>W.length-i) (λi=>i<=W.length) 0 (Qi _) rfl rfl λi hi=>?_
 by_cases hlt:i<W.length
 ·obtain ⟨x,hx⟩:=gxE (l:=W) (i:=i) hlt;have xm:=Qa hx;obtain ⟨V,hV⟩:=nmE (W.drop (i+1));have hVl:V.length=W.length-(i+1):=by rw [hV,Ze]
  have hVm:∀ p∈V,p∈W:=λp hp=>by rw [hV] at hp; exact Qy hp
  have eV:(Ut W).drop (i+1)=Ut V:=by rw [hdr,<-hV]
  rw [<-NS W x i];refine go tt [.T,.x (Ty hx),.r 49 (eI (b:=((i+1:Nat):Int)) (by omega)),.i (i+1),.r 50 (KW eV)] rfl (by simp only [Uw]; (repeat' apply And.intro) <;> first | omega | exact hel) ?_;have hVr:=Gs V;refine Ue (S:=Nat) 5 (λL1 j=>(52,.v (.oi j))::(6,.v (.one (.orow 2 7 none)))::L1) (λj=>[.blk 205 (Ho c (Ut l) r1),.blk 189 (ta a),.row false 126 7 (Fc ((iU W x i j).map (RH sg'))),.mpb (E8 (QJ sg' (iU W x i j))),.blk 41 (U3 x)]) (λj=>V.length-j) (λj=>j<=V.length) 0 (Qi _) rfl rfl λj hj=>?_
  by_cases hltj:j<V.length
  ·obtain ⟨y,hy⟩:=gxE (l:=V) (i:=j) hltj;have ym:=hVm y (Qa hy);have hy':(W.drop (i+1))[j]? = some y:=by rw [<-hV]; exact hy
   obtain ⟨U,hU⟩:=nmE (V.drop (j+1));have hUl:U.length=V.length-(j+1):=by rw [hU,Ze]
   have hUm:∀ p∈U,p∈W:=λp hp=>by rw [hU] at hp; exact hVm p (Qy hp)
   have hUW:U=(W.drop (i+1)).drop (j+1):=by rw [hU,hV]
   have eU:(Ut W).drop (i+j+2)=Ut U:=by rw [hdr,hU,hV,Yq]; congr 2; omega
   have hUr:=Gs U;rw [<-NN W x y i j];refine go tt [.T,.x (Ty hy),.r 61 (eI (b:=((i+j+2:Nat):Int)) (by omega)),.i (i+j+2),.r 62 (KW eU)] rfl (by simp only [Uw]; (repeat' apply And.intro) <;> first | omega | exact hel) ?_;refine Ue (S:=Nat) 6 (λL1 k=>(64,.v (.oi k))::(6,.v (.one (.orow 2 7 none)))::L1) (λk=>[.blk 205 (Ho c (Ut l) r1),.blk 189 (ta a),.row false 126 7 (Fc ((EG W x y i j k).map (RH sg'))),.mpb (E8 (QJ sg' (EG W x y i j k))),.blk 41 (U3 x),.blk 41 (U3 y)]) (λk=>U.length-k) (λk=>k<=U.length) 0 (Qi _) rfl rfl λk hk=>?_
   by_cases hltk:k<U.length
   ·obtain ⟨z,hz⟩:=gxE (l:=U) (i:=k) hltk;have zm:=hUm z (Qa hz);have hlen:=bM hW6 (k:=k) hx hy';have en:=NP (x:=x) (y:=y) (by rw [<-hUW]; exact hz);have et:=sY sg' (EG W x y i j k) (x,y,z);rw [<-en] at et;refine go tt [.T,.x (Ty hz),.k (mR xm ym zm),.s (sz:=7) (s7 _)] rfl (by simp [Uw,Mw] <;> omega) ?_;exact rd (k+1) (by omega) hltk (by rw [et,en,Yd]; simp [Fc]; rfl)
   ·have e:=OA (x:=x) (k:=k) hy' (by rw [<-hUW]; omega);rw [e];refine go tt [.F] rfl (by simp [Uw] <;> omega) ?_;exact rd (j+1) (by omega) hltj rfl
  ·have e:=OE (x:=x) (j:=j) hx (by rw [<-hV]; omega);rw [e];refine go tt [.F] rfl (by simp [Uw] <;> omega) ?_;exact rd (i+1) (by omega) hlt rfl
 rw [dK (show i=W.length by omega),<-hT];have hiW:¬i<W.length:=hlt;clear hlt;obtain ⟨C3,hC3⟩:=nmE ((Re W).map (RH sg'));have hC3l:C3.length<=20:=by rw [hC3,Zl]; exact (XL hW6).1
 rw [<-hC3];refine W9 [.F] rfl ?_;have eC:Fc C3=Fc (C3++(Lq 0 W).map (UE sg')):=by rw [show Lq 0 W=[] from rfl,Jc,Zy]
 rw [eC];refine Ue (S:=Nat) 5 (λL1 i=>(97,.v (.oi i))::(6,.v (.one (.orow 2 7 none)))::L1) (λi=>[.blk 205 (Ho c (Ut l) r1),.blk 189 (ta a),.row false 126 7 (Fc (C3++(Lq i W).map (UE sg'))),.mpb T,.mpb (Ig T (JF sg' (Lq i W)))]) (λi=>W.length-i) (λi=>i<=W.length) 0 (Qi _) rfl rfl λi hi=>?_
 by_cases hlt:i<W.length
 ·obtain ⟨x,hx⟩:=gxE (l:=W) (i:=i) hlt;have xm:=Qa hx;obtain ⟨V,hV⟩:=nmE (W.drop (i+1));have hVl:V.length=W.length-(i+1):=by rw [hV,Ze]
  have hVm:∀ p∈V,p∈W:=λp hp=>by rw [hV] at hp; exact Qy hp
  have eV:(Ut W).drop (i+1)=Ut V:=by rw [hdr,<-hV]
  have hVr:=Gs V;rw [<-Qd5 W x i];refine go tt [.T,.x (Ty hx),.r 104 (eI (b:=((i+1:Nat):Int)) (by omega)),.i (i+1),.r 105 (KW eV)] rfl (by simp only [Uw]; (repeat' apply And.intro) <;> first | omega | exact hel) ?_;refine Ue (S:=Nat) 6 (λL1 j=>(107,.v (.oi j))::(6,.v (.one (.orow 2 7 none)))::L1) (λj=>[.blk 205 (Ho c (Ut l) r1),.blk 189 (ta a),.row false 126 7 (Fc (C3++(p4j W x i j).map (UE sg'))),.mpb T,.mpb (Ig T (JF sg' (p4j W x i j))),.blk 41 (U3 x)]) (λj=>V.length-j) (λj=>j<=V.length) 0 (Qi _) rfl rfl λj hj=>?_
  by_cases hltj:j<V.length
  ·obtain ⟨y,hy⟩:=gxE (l:=V) (i:=j) hltj;have ym:=hVm y (Qa hy);have hy':(W.drop (i+1))[j]? = some y:=by rw [<-hV]; exact hy
   obtain ⟨U,hU⟩:=nmE (V.drop (j+1));have hUl:U.length=V.length-(j+1):=by rw [hU,Ze]
   have hUm:∀ p∈U,p∈W:=λp hp=>by rw [hU] at hp; exact hVm p (Qy hp)
   have hUW:U=(W.drop (i+1)).drop (j+1):=by rw [hU,hV]
   have eU:(Ut W).drop (i+j+2)=Ut U:=by rw [hdr,hU,hV,Yq]; congr 2; omega
   have hUr:=Gs U;rw [<-Qd6 W x y i j];refine go tt [.T,.x (Ty hy),.r 116 (eI (b:=((i+j+2:Nat):Int)) (by omega)),.i (i+j+2),.r 117 (KW eU)] rfl (by simp only [Uw]; (repeat' apply And.intro) <;> first | omega | exact hel) ?_;refine Ue (S:=Nat) 7 (λL1 k=>(119,.v (.oi k))::(6,.v (.one (.orow 2 7 none)))::L1) (λk=>[.blk 205 (Ho c (Ut l) r1),.blk 189 (ta a),.row false 126 7 (Fc (C3++(p4k W x y i j k).map (UE sg'))),.mpb T,.mpb (Ig T (JF sg' (p4k W x y i j k))),.blk 41 (U3 x),.blk 41 (U3 y)]) (λk=>U.length-k) (λk=>k<=U.length) 0 (Qi _) rfl rfl λk hk=>?_
   by_cases hltk:k<U.length
   ·obtain ⟨z,hz⟩:=gxE (l:=U) (i:=k) hltk;have zm:=hUm z (Qa hz);have hz':((W.drop (i+1)).drop (j+1))[k]? = some z:=by rw [<-hUW]; exact hz
    obtain ⟨R,hR⟩:=nmE (U.drop (k+1));have hRl:R.length=U.length-(k+1):=by rw [hR,Ze]
    have hRm:∀ p∈R,p∈W:=λp hp=>by rw [hR] at hp; exact hUm p (Qy hp)
    have hRW:R=((W.drop (i+1)).drop (j+1)).drop (k+1):=by rw [hR,hUW]
    have eR:(Ut W).drop (i+j+k+3)=Ut R:=by rw [hdr,hRW,Yq,Yq]; congr 2; omega
    have hRr:=Gs R;rw [<-Qd8 W x y z i j k];refine go tt [.T,.x (Ty hz),.r 130 (eI (b:=((i+j+k+3:Nat):Int)) (by omega)),.i (i+j+k+3),.r 131 (KW eR)] rfl (by simp only [Uw]; (repeat' apply And.intro) <;> first | omega | exact hel) ?_;refine Ue (S:=Nat) 8 (λL1 m=>(133,.v (.oi m))::(6,.v (.one (.orow 2 7 none)))::L1) (λm=>[.blk 205 (Ho c (Ut l) r1),.blk 189 (ta a),.row false 126 7 (Fc (C3++(aK W x y z i j k m).map (UE sg'))),.mpb T,.mpb (Ig T (JF sg' (aK W x y z i j k m))),.blk 41 (U3 x),.blk 41 (U3 y),.blk 41 (U3 z)]) (λm=>R.length-m) (λm=>m<=R.length) 0 (Qi _) rfl rfl λm hm=>?_
    by_cases hltm:m<R.length
    ·obtain ⟨u,hu⟩:=gxE (l:=R) (i:=m) hltm;have um:=hRm u (Qa hu);have hlen:=Qjg hW6 (m:=m) hx hy' hz';have en:=Qd7 (x:=x) (y:=y) (z:=z) (by rw [<-hRW]; exact hu);have et:=fE sg' T (aK W x y z i j k m) (x,y,z,u);rw [<-en] at et;have cf:=Qnk (F:=Ig T (JF sg' (aK W x y z i j k m))) (s:=(EV sg' x y z u).want) (n0:=x.id) (n1:=y.id) (n2:=z.id) (n3:=u.id) hTI (hgb _);refine go tt [.T,.x (Ty hu),.k (mC xm ym zm um),.s (sz:=7) (s7 _),.c [4,3] cf] rfl (by simp [Uw,Mw] <;> omega) ?_;exact rd (m+1) (by omega) hltm (by rw [et,en,Yd,<-Q9]; simp [Fc]; rfl)
    ·have e:=Qjf (x:=x) (y:=y) (m:=m) hz' (by rw [<-hRW]; omega);rw [e];refine go tt [.F] rfl (by simp [Uw] <;> omega) ?_;exact rd (k+1) (by omega) hltk rfl
   ·have e:=Qje (x:=x) (k:=k) hy' (by rw [<-hUW]; omega);rw [e];refine go tt [.F] rfl (by simp [Uw] <;> omega) ?_;exact rd (j+1) (by omega) hltj rfl
  ·have e:=Qjd (x:=x) (j:=j) hx (by rw [<-hV]; omega);rw [e];refine go tt [.F] rfl (by simp [Uw] <;> omega) ?_;exact rd (i+1) (by omega) hlt rfl
 rw [Qjw (show i=W.length by omega),<-hG];obtain ⟨C4,hC4⟩:=nmE (C3++(Iy W).map (UE sg'));rw [<-hC4];refine W9 [.F] rfl ?_;refine ozM 0 13 101 3 rfl rfl ?_;have eT:([]:Uo)=VF ((Dv 0 W).filter (OY T G)):=rfl;rw [eT];refine Ue (S:=Nat) 6 (λL1 i=>(174,.v (.oi i))::L1) (λi=>[.blk 205 [.bool true,pl c.now.p,sg c.now.lo.num,mg c.now.lo.num,sg (c.now.lo.den:Int),mg (c.now.lo.den:Int),sg c.now.hi.num,mg c.now.hi.num,sg (c.now.hi.den:Int),mg (c.now.hi.den:Int),.row (B5 c.l),.int .i64 c.ev,.row (Ut l),.orow 5 3 none],.blk 189 (ta a),.row false 126 7 (Fc C4),.mpb T,.mpb G,.row false 101 3 (VF ((Dv i W).filter (OY T G)))]) (λi=>W.length-i) (λi=>i<=W.length) 0 (Qi _) rfl rfl λi hi=>?_
 by_cases hlt:i<W.length
 ·obtain ⟨x,hx⟩:=gxE (l:=W) (i:=i) hlt;obtain ⟨V,hV⟩:=nmE (W.drop (i+1));have hVl:V.length=W.length-(i+1):=by rw [hV,Ze]
  have eV:(Ut W).drop (i+1)=Ut V:=by rw [hdr,<-hV]
  have hVr:=Gs V;rw [<-NS W x i];refine go tt [.T,.x (Ty hx),.r 181 (eI (b:=((i+1:Nat):Int)) (by omega)),.i (i+1),.r 182 (KW eV)] rfl (by simp only [Uw]; (repeat' apply And.intro) <;> first | omega | exact hel) ?_;refine Ue (S:=Nat) 7 (λL1 j=>(184,.v (.oi j))::L1) (λj=>[.blk 205 [.bool true,pl c.now.p,sg c.now.lo.num,mg c.now.lo.num,sg (c.now.lo.den:Int),mg (c.now.lo.den:Int),sg c.now.hi.num,mg c.now.hi.num,sg (c.now.hi.den:Int),mg (c.now.hi.den:Int),.row (B5 c.l),.int .i64 c.ev,.row (Ut l),.orow 5 3 none],.blk 189 (ta a),.row false 126 7 (Fc C4),.mpb T,.mpb G,.row false 101 3 (VF ((iU W x i j).filter (OY T G))),.blk 41 (U3 x)]) (λj=>V.length-j) (λj=>j<=V.length) 0 (Qi _) rfl rfl λj hj=>?_
  by_cases hltj:j<V.length
  ·obtain ⟨y,hy⟩:=gxE (l:=V) (i:=j) hltj;have hy':(W.drop (i+1))[j]? = some y:=by rw [<-hV]; exact hy
   obtain ⟨U,hU⟩:=nmE (V.drop (j+1));have hUl:U.length=V.length-(j+1):=by rw [hU,Ze]
   have hUW:U=(W.drop (i+1)).drop (j+1):=by rw [hU,hV]
   have eU:(Ut W).drop (i+j+2)=Ut U:=by rw [hdr,hU,hV,Yq]; congr 2; omega
   have hUr:=Gs U;rw [<-NN W x y i j];refine go tt [.T,.x (Ty hy),.r 193 (eI (b:=((i+j+2:Nat):Int)) (by omega)),.i (i+j+2),.r 194 (KW eU)] rfl (by simp only [Uw]; (repeat' apply And.intro) <;> first | omega | exact hel) ?_;refine Ue (S:=Nat) 8 (λL1 k=>(196,.v (.oi k))::L1) (λk=>[.blk 205 [.bool true,pl c.now.p,sg c.now.lo.num,mg c.now.lo.num,sg (c.now.lo.den:Int),mg (c.now.lo.den:Int),sg c.now.hi.num,mg c.now.hi.num,sg (c.now.hi.den:Int),mg (c.now.hi.den:Int),.row (B5 c.l),.int .i64 c.ev,.row (Ut l),.orow 5 3 none],.blk 189 (ta a),.row false 126 7 (Fc C4),.mpb T,.mpb G,.row false 101 3 (VF ((EG W x y i j k).filter (OY T G))),.blk 41 (U3 x),.blk 41 (U3 y)]) (λk=>U.length-k) (λk=>k<=U.length) 0 (Qi _) rfl rfl λk hk=>?_
   by_cases hltk:k<U.length
   ·obtain ⟨z,hz⟩:=gxE (l:=U) (i:=k) hltk;have hlen:=bM hW6 (k:=k) hx hy';have en:=NP (x:=x) (y:=y) (by rw [<-hUW]; exact hz);have hfl:=Y0 (OY T G) (EG W x y i j k);have htl:=wH ((EG W x y i j k).filter (OY T G));by_cases h1:QZ T [x.id,y.id,z.id]≠0
    ·by_cases h2:SO G [x.id,y.id,z.id]=true
     ·have ef:OY T G (x,y,z)=false:=by unfold OY gV; simp [h2]
      have eF:=Qcd (ps:=EG W x y i j k) ef;rw [<-en] at eF;refine go tt [.T,.x (Ty hz),.g 211 true (decide_eq_true h1),.f (by rw [h2]; rfl)] rfl (by simp only [Uw]; (repeat' apply And.intro) <;> first | exact hTm | exact hGB | omega | (simp only [Q4,Jd]; omega)) ?_;exact rd (k+1) (by omega) hltk (by rw [eF]; rfl)
     ·have h2:SO G [x.id,y.id,z.id]=false:=by simpa using h2
      have ef:OY T G (x,y,z)=true:=by unfold OY gV; simp [h2,h1]
      have eF:=Qn4 (ps:=EG W x y i j k) ef;rw [<-en] at eF;refine go tt [.T,.x (Ty hz),.g 211 true (decide_eq_true h1),.t (by rw [h2]; rfl),.s (sz:=3) (s3 (x,y,z))] rfl (by simp only [Uw]; (repeat' apply And.intro) <;> first | exact hTm | exact hGB | omega | (simp only [Q4,Jd]; omega)) ?_;exact rd (k+1) (by omega) hltk (by rw [eF]; simp [VF]; rfl)
    ·have ef:OY T G (x,y,z)=false:=by unfold OY gV; simp [h1]
     have eF:=Qcd (ps:=EG W x y i j k) ef;rw [<-en] at eF;refine go tt [.T,.x (Ty hz),.g 211 false (decide_eq_false h1),.f rfl] rfl (by simp only [Uw]; (repeat' apply And.intro) <;> first | exact hTm | exact hGB | omega | (simp only [Q4,Jd]; omega)) ?_;exact rd (k+1) (by omega) hltk (by rw [eF]; rfl)
   ·have e:=OA (x:=x) (k:=k) hy' (by rw [<-hUW]; omega);rw [e];refine go tt [.F] rfl (by simp [Uw] <;> omega) ?_;exact rd (j+1) (by omega) hltj rfl
  ·have e:=OE (x:=x) (j:=j) hx (by rw [<-hV]; omega);rw [e];refine go tt [.F] rfl (by simp [Uw] <;> omega) ?_;exact rd (i+1) (by omega) hlt rfl
 rw [dK (show i=W.length by omega)];rw [hC4,hC3];exact Ud [2,5] [0] [.F] rfl
theorem Qqu {T:Nat} {t:Rat} {Bc:Tm->List Ct} {Br:Tm->Uo} {r0:Uo} (ht:Qs 1640000 t) (hB:BuildOk Bc)
 (hb:∀ a c r1,Va a->CrOk c->Uz prog 126 [.one (.ow 0 0),.agg (ta a)] [.blk T (Ho c r0 r1)] [.one (.row (Fc (Bc a)))] [.blk T (Ho c r0 (Br a))])
 {K:Nat} {c c':Cr} {r1 r1':Uo} {n:Int} (hc:CrOk c) (hev:0<=c.ev/\c.ev+K<=1000000000000000000) (h:Fe c.now t<=0) (hg:VP Bc Br t K c r1 0=some (c',r1',n)) :
 Uz prog 372 [.one (.ow 0 0),.agg (rl t),.one (.ofn 126 [.ow 0 0] [])] [.blk T (Ho c r0 r1)] [.oi n,.oi 0] [.blk T (Ho c' r0 r1')]:=by
 have qt:Qb t:=ht.mono (by decide);have c1:=Cc hc.n.tb qt;refine Gb func372 rfl ?_;refine W9 [.c [0] (Oa hc.n),.k c1,.f (by simpa using h)] rfl ?_;refine Ue (S:=Nat×Cr×Uo×Int) 2 (λL1 s=>(8,.v (.oi s.2.2.2))::L1) (λs=>[.blk T (Ho s.2.1 r0 s.2.2.1),.blk 43 (rl t)]) (λs=>s.1) (λs=>CrOk s.2.1/\(0<=s.2.1.ev/\s.2.1.ev+s.1<=1000000000000000000)/\(0<=s.2.2.2/\s.2.2.2+s.1<=1000000000000000000)/\VP Bc Br t s.1 s.2.1 s.2.2.1 s.2.2.2=some (c',r1',n)) (K,c,r1,0) ⟨hc,hev,⟨Int.le_refl 0,by dsimp only; omega⟩,hg⟩ rfl rfl λ⟨k,x,r,m⟩ ⟨j1,j2,j3,j4⟩=>?_
 dsimp only at j1 j2 j3 j4 ⊢;cases k with
 | zero=>cases j4
 |
  succ k =>
  simp only [VP] at j4;obtain ⟨ws,w1,j4⟩:=Qd.1 j4;obtain ⟨o,o1,j4⟩:=Qd.1 j4;have cn:=RE (T:=T) (r0:=r0) (r1:=r) j1 w1 o1;have ca:=JS (Uu t.num) (Uu (t.den:Int)) (Qc ht.1 (by decide)) (Qc ht.2 (by decide)) (by rw [Sw]; exact ht.mono (by decide));rw [Sw] at ca;cases o with
  |
   none =>
   injection j4 with j4; injection j4 with e1 j4; injection j4 with e2 e3;subst e1; subst e2; subst e3;exact Ud [] [0] [.c [0] cn,.g 25 true rfl,.t rfl,.k ca] rfl
  |
   some a =>
   have ha:=NR j1 w1 o1;dsimp only at j4;have cc:=Cc ha.tb qt;by_cases h0:0<Fe a t
   ·rw [if_pos h0] at j4;injection j4 with j4; injection j4 with e1 j4; injection j4 with e2 e3;subst e1; subst e2; subst e3;exact Ud [] [0] [.c [0] cn,.g 25 false rfl,.k cc,.t (by simpa using h0),.k ca] rfl
   ·rw [if_neg h0] at j4;obtain ⟨w2,l1,j4⟩:=Qd.1 j4;have j1':=Lm j1 w1;have cl:=Sj (b:=a) (l:=[]) ha.tb (λt ht=>by cases ht) (by decide) rfl;have cb:=hb a { x with l:=ws } r ha j1';have cy:=VE (T:=T) (r0:=r0) (r1:=Br a) j1' ha (hB.p a ha) (hB.n a ha) l1;have hf:decide (0<Fe a t)=false:=by simpa using h0
    refine Ua [.c [0] cn,.g 25 false rfl,.k cc,.f hf,.k cl,.c [0] cb,.c [0] cy] rfl ?_;exact rd (k,⟨a,w2,x.ev+1⟩,Br a,m+1) (by dsimp only; omega) ⟨lay_ok _ j1' ha (hB.p a ha) (hB.n a ha) l1,by dsimp only; omega,by dsimp only; omega,j4⟩ rfl
theorem Qm2 {t:Rat} {l:List Pt} {K:Nat} {c c':Cr} {r1 r1':Uo} {n:Int} (ht:Qs 1640000 t) (hl:∀ p∈l,Sc p.c) (hn:l.length≤6) (hc:CrOk c) (hev:0≤c.ev/\c.ev+K≤1000000000000000000) (h:Fe c.now t≤0) (hg:VP (wI l) (dB l) t K c r1 0=some (c',r1',n)) :
 Uz prog 408 [.one (.ow 0 0),.agg (rl t)] [.blk 205 (Ho c (Ut l) r1)] [.oi n,.oi 0] [.blk 205 (Ho c' (Ut l) r1')]:=by
 have cg:=Qqu (T:=205) (r0:=Ut l) ht (uW hl hn) (λa c r1 ha _=>DZ (c:=c) (r1:=r1) hl hn ha) hc hev h hg;refine Gb func408 rfl ?_;exact Ud [] [0] [.k (Nw (ht.mono (by decide))),.c [0] cg] rfl
theorem uL {c:Cr} {r0:Uo} {ts:List P3} (ht:ts.length<=1000):Uz prog 90 [.one (.ow 0 0)] [.blk 205 (Ho c r0 (VF ts))] [.one (.row (VF ts))] [.blk 205 (Ho c r0 (VF ts))]:=by
 have hl:=wH ts;have h3:∀ y∈VF ts,y.length=3:=λy hy=>by obtain ⟨m,_,rfl⟩:=Zg.1 hy; rfl
 refine Gb func90 rfl ?_;exact Ud [1] [0] [.s (sz:=3) h3] rfl (by simp [Uw] <;> omega)

theorem xJ {c:Cr} {l l':List Pt} {r1:Uo} {ws:List Wt} (hc:CrOk c) (hl:∀ p∈l',Sc p.c) (hn:l'.length≤6) (h:Tz c.l c.now (Fj (wI l' c.now))=some ws) :
 Uz prog 412 [.one (.ow 0 0),.agg [pts l'],.oi 0] [.blk 205 (Ho c (Ut l) r1)] [.oi 0] [.blk 205 (Ho ⟨c.now,ws,c.ev⟩ (Ut l') (dB l' c.now))]:=by
 have hB:=uW hl hn;have cn:=Oa (T:=205) (c:=c) (r0:=Ut l') (r1:=r1) hc.n;have cb:=DZ (c:=c) (r1:=r1) hl hn hc.n;have cg:=XX (T:=205) (r0:=Ut l') (r1:=dB l' c.now) hc hc.n (A9 hc.n) (Ya 0) (hB.p _ hc.n) (hB.n _ hc.n) h;refine Gb func412 rfl ?_;exact Ud [] [0] [.f rfl,.c [0] cn,.c [0] cb,.c [0] cg] rfl
theorem Qhb {lx ly:Uo} {px py:Ui} {x y:LV} {d id:Int} {c:Cr} {l:List Pt} {r1:Uo} {ws:List Wt} (hx:IsInts lx px) (hy:IsInts ly py) (hd:Gk x y d) (hk:Cs 4294967294 1073741824 (Crv.mk px py d)) (hll:l.length<=900)
 (he:VQ l ⟨Crv.norm (Crv.mk px py d),id⟩=0) (hc:CrOk c) (hl:∀ p∈put l ⟨Crv.norm (Crv.mk px py d),id⟩,Sc p.c) (hn:(put l ⟨Crv.norm (Crv.mk px py d),id⟩).length≤6) (h:Tz c.l c.now (Fj (wI (put l ⟨Crv.norm (Crv.mk px py d),id⟩) c.now))=some ws) :
 Uz prog 410 [.one (.ow 0 0),.agg [.row lx,.row ly,x,y,.int .i64 id]] [.blk 205 (Ho c (Ut l) r1)] [.oi 0] [.blk 205 (Ho ⟨c.now,ws,c.ev⟩ (Ut (put l ⟨Crv.norm (Crv.mk px py d),id⟩)) (dB (put l ⟨Crv.norm (Crv.mk px py d),id⟩) c.now))]:=by
 have cp:=xR (l:=l) (id:=id) hx hy hd hk (by omega);rw [if_pos he,he] at cp;have cw:=xJ (l:=l) (r1:=r1) hc hl hn h;refine Gb func410 rfl ?_;obtain ⟨b,l',rfl,rfl,_⟩:=hd;exact Ud [] [0] [.k cp,.c [0] cw] rfl
theorem oK {lx ly:Uo} {px py:Ui} {x y:LV} {d id:Int} {c:Cr} {l l':List Pt} {r1:Uo} {ws:List Wt} (hx:IsInts lx px) (hy:IsInts ly py) (hd:Gk x y d) (hk:Cs 4294967294 1073741824 (Crv.mk px py d)) (hll:l.length<=6) (h:has l id=true) (hc:CrOk c)
 (hl':l'=l.set (P6 l id) (Pt.mk (Crv.norm (Crv.mk px py d)) id)) (hs:∀ p∈l',Sc p.c) (hw:Tz c.l c.now (Fj (wI l' c.now))=some ws) :
 Uz prog 411 [.one (.ow 0 0),.agg [.row lx,.row ly,x,y,.int .i64 id]] [.blk 205 (Ho c (Ut l) r1)] [.oi 0] [.blk 205 (Ho ⟨c.now,ws,c.ev⟩ (Ut l') (dB l' c.now))]:=by
 have ct1:=VO (l:=l) hx hy hd hk (by omega) h;rw [<-hl'] at ct1;have cw:=xJ (c:=c) (l:=l) (l':=l') (r1:=r1) hc hs (by rw [hl',Xf]; omega) hw;obtain ⟨b,r,rfl,rfl,_⟩:=hd;refine Gb func411 rfl ?_;exact Ud [] [0] [.k ct1,.c [0] cw] rfl
theorem Qhn {lx ly:Uo} {px py:Ui} {x y:LV} {d id:Int} {c:Cr} {l l':List Pt} {r1:Uo} {ws:List Wt} (hx:IsInts lx px) (hy:IsInts ly py) (hd:Gk x y d) (hk:Cs 4294967294 1073741824 (Crv.mk px py d)) (hll:l.length<=900) (h:has l id=true) (hc:CrOk c)
 (hl':l'=l.set (P6 l id) (Pt.mk (Crv.norm (Crv.mk px py d)) id)) (hs:∀ p∈l',Sc p.c) (hw:Tz c.l c.now (Fj (JV l' c.now))=some ws) :
 Uz prog 370 [.one (.ow 0 0),.agg [.row lx,.row ly,x,y,.int .i64 id]] [.blk 196 (Ho c (Ut l) r1)] [.oi 0] [.blk 196 (Ho ⟨c.now,ws,c.ev⟩ (Ut l') (zS l' c.now))]:=by
 have ct1:=VO (l:=l) hx hy hd hk (by omega) h;rw [<-hl'] at ct1;have cw:=pK (c:=c) (l:=l) (l':=l') (r1:=r1) hc hs (by rw [hl',Xf]; omega) hw;obtain ⟨b,r,rfl,rfl,_⟩:=hd;refine Gb func370 rfl ?_;exact Ud [] [0] [.k ct1,.c [0] cw] rfl
theorem Qqv {T:Nat} {t:Rat} {Bc:Tm->List Ct} {Br:Tm->Uo} {r0:Uo} (ht:Qs 1640000 t) (hB:BuildOk Bc)
 (hb:∀ a c r1,Va a->CrOk c->Uz prog 124 [.one (.ow 0 0),.agg (ta a)] [.blk T (Ho c r0 r1)] [.one (.row (Fc (Bc a)))] [.blk T (Ho c r0 (Br a))])
 {K:Nat} {c c':Cr} {r1 r1':Uo} {n:Int} (hc:CrOk c) (hev:0<=c.ev/\c.ev+K<=1000000000000000000) (h:Fe c.now t<=0) (hg:VP Bc Br t K c r1 0=some (c',r1',n)) :
 Uz prog 372 [.one (.ow 0 0),.agg (rl t),.one (.ofn 124 [.ow 0 0] [])] [.blk T (Ho c r0 r1)] [.oi n,.oi 0] [.blk T (Ho c' r0 r1')]:=by
 have qt:Qb t:=ht.mono (by decide);have c1:=Cc hc.n.tb qt;refine Gb func372 rfl ?_;refine W9 [.c [0] (Oa hc.n),.k c1,.f (by simpa using h)] rfl ?_;refine Ue (S:=Nat×Cr×Uo×Int) 2 (λL1 s=>(8,.v (.oi s.2.2.2))::L1) (λs=>[.blk T (Ho s.2.1 r0 s.2.2.1),.blk 43 (rl t)]) (λs=>s.1) (λs=>CrOk s.2.1/\(0<=s.2.1.ev/\s.2.1.ev+s.1<=1000000000000000000)/\(0<=s.2.2.2/\s.2.2.2+s.1<=1000000000000000000)/\VP Bc Br t s.1 s.2.1 s.2.2.1 s.2.2.2=some (c',r1',n)) (K,c,r1,0) ⟨hc,hev,⟨Int.le_refl 0,by dsimp only; omega⟩,hg⟩ rfl rfl λ⟨k,x,r,m⟩ ⟨j1,j2,j3,j4⟩=>?_
 dsimp only at j1 j2 j3 j4 ⊢;cases k with
 | zero=>cases j4
 |
  succ k =>
  simp only [VP] at j4;obtain ⟨ws,w1,j4⟩:=Qd.1 j4;obtain ⟨o,o1,j4⟩:=Qd.1 j4;have cn:=RE (T:=T) (r0:=r0) (r1:=r) j1 w1 o1;have ca:=JS (Uu t.num) (Uu (t.den:Int)) (Qc ht.1 (by decide)) (Qc ht.2 (by decide)) (by rw [Sw]; exact ht.mono (by decide));rw [Sw] at ca;cases o with
  |
   none =>
   injection j4 with j4; injection j4 with e1 j4; injection j4 with e2 e3;subst e1; subst e2; subst e3;exact Ud [] [0] [.c [0] cn,.g 25 true rfl,.t rfl,.k ca] rfl
  |
   some a =>
   have ha:=NR j1 w1 o1;dsimp only at j4;have cc:=Cc ha.tb qt;by_cases h0:0<Fe a t
   ·rw [if_pos h0] at j4;injection j4 with j4; injection j4 with e1 j4; injection j4 with e2 e3;subst e1; subst e2; subst e3;exact Ud [] [0] [.c [0] cn,.g 25 false rfl,.k cc,.t (by simpa using h0),.k ca] rfl
   ·rw [if_neg h0] at j4;obtain ⟨w2,l1,j4⟩:=Qd.1 j4;have j1':=Lm j1 w1;have cl:=Sj (b:=a) (l:=[]) ha.tb (λt ht=>by cases ht) (by decide) rfl;have cb:=hb a { x with l:=ws } r ha j1';have cy:=VE (T:=T) (r0:=r0) (r1:=Br a) j1' ha (hB.p a ha) (hB.n a ha) l1;have hf:decide (0<Fe a t)=false:=by simpa using h0
    refine Ua [.c [0] cn,.g 25 false rfl,.k cc,.f hf,.k cl,.c [0] cb,.c [0] cy] rfl ?_;exact rd (k,⟨a,w2,x.ev+1⟩,Br a,m+1) (by dsimp only; omega) ⟨lay_ok _ j1' ha (hB.p a ha) (hB.n a ha) l1,by dsimp only; omega,by dsimp only; omega,j4⟩ rfl
def Qqp (l:List Pt) (a:Tm):Cr:=⟨a,(Fj (CE l a)).map fresh,0⟩
theorem Qm4 {t:Rat} {l:List Pt} {K:Nat} {c c':Cr} {r1 r1':Uo} {n:Int} (ht:Qs 1640000 t) (hl:∀ p∈l,Sc p.c) (hn:l.length≤10) (hc:CrOk c) (hev:0≤c.ev/\c.ev+K≤1000000000000000000) (h:Fe c.now t≤0) (hg:VP (CE l) (oQ l) t K c r1 0=some (c',r1',n)) :
 Uz prog 398 [.one (.ow 0 0),.agg (rl t)] [.blk 201 (Ho c (Ut l) r1)] [.oi n,.oi 0] [.blk 201 (Ho c' (Ut l) r1')]:=by
 have cg:=Qqv (T:=201) (r0:=Ut l) ht (uU hl hn) (λa c r1 ha _=>DX (c:=c) (r1:=r1) hl hn ha) hc hev h hg;refine Gb func398 rfl ?_;exact Ud [] [0] [.k (Nw (ht.mono (by decide))),.c [0] cg] rfl
theorem Qm5 {c:Cr} {l s:List Pt} (hs:s.length<=1000000):Uz prog 89 [.one (.ow 0 0)] [.blk 201 (Ho c (Ut l) (Ut s))] [.one (ids (s.map (·.id)))] [.blk 201 (Ho c (Ut l) (Ut s))]:=by
 have hcl:=Gs s;refine Gb func89 rfl ?_;refine W9 [.o 3 3 1] rfl ?_;refine Ue (S:=Nat) 2 (λL1 i=>(11,.v (.oi i))::(3,.v (.one (.orow 1 1 none)))::L1) (λi=>[.blk 201 (Ho c (Ut l) (Ut s)),.row false 3 1 (((s.take i).map (·.id)).map λ(z:Int)=>[LV.int .i64 z])]) (λi=>s.length-i) (λi=>i<=s.length) 0 (Qi _) rfl rfl λi hi=>?_
 by_cases hlt:i<s.length
 ·obtain ⟨p,hp⟩:=gxE (l:=s) (i:=i) hlt;have hg:(((s.take (i+1)).map (·.id)).map λ(z:Int)=>[LV.int .i64 z])=(((s.take i).map (·.id)).map λ(z:Int)=>[LV.int .i64 z])++[[.int .i64 p.id]]:=by
   rw [Z5,hp]; simp
  refine Ua [.t (by simp [hcl]; omega),.x (Tg hp),.s (sz:=1) (l:=[[.int .i64 p.id]]) (λc hc=>by rw [Qj.1 hc]; rfl)] rfl ?_;exact rd (i+1) (by omega) hlt (by rw [hg]; rfl)
 ·obtain rfl:i=s.length:=by omega
  rw [Q6];exact Ud [1] [0] [.f (by simp [hcl])] rfl
abbrev IC (k:Nat) (np nd:Int) (M:List Pt) (q:Rat) (s t h p d:Cr):Up:=[.blk 88 (enR k q),tB np nd M,bS s M q,bT t M q,bH h M q,bP p M q,bD d M q]
abbrev Qti (k:Nat):Un:=[.oif 82 (k+2) 0,.oif 83 (k+3) 0,.oif 84 (k+4) 0,.oif 85 (k+5) 0,.oif 86 (k+6) 0]
theorem pH {np nd:Int} {Mt M:List Pt} {q:Rat} {s t h p d:Cr}:Uz prog 43 [.one (.ow 0 0)] [.blk 88 (enR 0 q),tB np nd Mt,bS s M q,bT t M q,bH h M q,bP p M q,bD d M q] [.agg (Qti 0)] [.blk 88 (enR 0 q),tB np nd Mt,bS s M q,bT t M q,bH h M q,bP p M q,bD d M q]:=by
 refine Gb func43 rfl ?_;exact Ud [] [0,1,2,3,4,5,6] [] rfl
abbrev tW (k i:Nat) (a b:OB):OB:=match Nat.blt k i with
 | true=>b
 | false=>a
theorem oP {np nd id:Int} {M M':List Pt} {q:Rat} {s t h p d s' t' h' p' d':Cr} {lx ly l3:Uo} {bn:Bool} {e1 e2 e3 e4 e5:Int}
 (ht:Uz prog 76 [.one (.ow 0 0),.agg [.row lx,.row ly,.bool bn,.row l3,.int .i64 id]] [tB np nd M] [.oi 0] [tB np nd M'])
 (h1:Uz prog 369 [.one (.ow 0 0),.agg [.row lx,.row ly,.bool bn,.row l3,.int .i64 id]] [bS s M q] [.oi e1] [bS s' M' q])
 (h2:Uz prog 395 [.one (.ow 0 0),.agg [.row lx,.row ly,.bool bn,.row l3,.int .i64 id]] [bT t M q] [.oi e2] [bT t' M' q])
 (h3:Uz prog 400 [.one (.ow 0 0),.agg [.row lx,.row ly,.bool bn,.row l3,.int .i64 id]] [bH h M q] [.oi e3] [bH h' M' q])
 (h4:Uz prog 405 [.one (.ow 0 0),.agg [.row lx,.row ly,.bool bn,.row l3,.int .i64 id]] [bP p M q] [.oi e4] [bP p' M' q])
 (h5:Uz prog 410 [.one (.ow 0 0),.agg [.row lx,.row ly,.bool bn,.row l3,.int .i64 id]] [bD d M q] [.oi e5] [bD d' M' q]) :
 Uz prog 27 [.one (.ow 0 0),.oi id,.agg [.row lx,.row ly,.bool bn,.row l3]] (IC 0 np nd M q s t h p d) [.oi 0] (IC 0 np nd M' q s' t' h' p' d'):=by
 refine Gb func27 rfl ?_;refine W9 [.c [1] ht,.f rfl,.c Ur pH] rfl ?_;refine Ue (S:=Nat) 9 (λL1 i=>(25,.v (.oi i))::L1) (λi=>[.blk 88 (enR 0 q),tB np nd M',tW 0 i (bS s M q) (bS s' M' q),tW 1 i (bT t M q) (bT t' M' q),tW 2 i (bH h M q) (bH h' M' q),tW 3 i (bP p M q) (bP p' M' q),tW 4 i (bD d M q) (bD d' M' q),.blk 39 [.row lx,.row ly,.bool bn,.row l3],.blk 41 [.row lx,.row ly,.bool bn,.row l3,.int .i64 id]]) (λi=>5-i) (λi=>i<=5) 0 (by decide) rfl rfl λi hi=>?_
 rcases (show i=0\/i=1\/i=2\/i=3\/i=4\/i=5 by omega) with rfl | rfl | rfl | rfl | rfl | rfl
 ·exact go tt [.t rfl,.i 0,.c [2] h1] rfl (by simp [Uw]) (rd 1 (by omega) (by omega) rfl)
 ·exact go tt [.t rfl,.i 1,.c [3] h2] rfl (by simp [Uw]) (rd 2 (by omega) (by omega) rfl)
 ·exact go tt [.t rfl,.i 2,.c [4] h3] rfl (by simp [Uw]) (rd 3 (by omega) (by omega) rfl)
 ·exact go tt [.t rfl,.i 3,.c [5] h4] rfl (by simp [Uw]) (rd 4 (by omega) (by omega) rfl)
 ·exact go tt [.t rfl,.i 4,.c [6] h5] rfl (by simp [Uw]) (rd 5 (by omega) (by omega) rfl)
 ·exact Ud [] [0,1,2,3,4,5,6] [.f rfl] rfl
theorem dO {np nd id:Int} {M:List Pt} {q:Rat} {s t h p d:Cr} {lx ly l3:Uo} {bn:Bool} {e:Int} (he:e≠0)
 (ht:Uz prog 76 [.one (.ow 0 0),.agg [.row lx,.row ly,.bool bn,.row l3,.int .i64 id]] [tB np nd M] [.oi e] [tB np nd M]) :
 Uz prog 27 [.one (.ow 0 0),.oi id,.agg [.row lx,.row ly,.bool bn,.row l3]] (IC 0 np nd M q s t h p d) [.oi e] (IC 0 np nd M q s t h p d):=by
 refine Gb func27 rfl ?_;exact Ud [] [0,1,2,3,4,5,6] [.c [1] ht,.t (by simpa using he)] rfl
theorem Qad {np nd id:Int} {M M':List Pt} {q:Rat} {s t h p d s' t' h' p' d':Cr} {lx ly l3:Uo} {bn:Bool} {e1 e2 e3 e4 e5:Int}
 (ht:Uz prog 86 [.one (.ow 0 0),.agg [.row lx,.row ly,.bool bn,.row l3,.int .i64 id]] [tB np nd M] [.oi 0] [tB np nd M'])
 (h1:Uz prog 370 [.one (.ow 0 0),.agg [.row lx,.row ly,.bool bn,.row l3,.int .i64 id]] [bS s M q] [.oi e1] [bS s' M' q])
 (h2:Uz prog 396 [.one (.ow 0 0),.agg [.row lx,.row ly,.bool bn,.row l3,.int .i64 id]] [bT t M q] [.oi e2] [bT t' M' q])
 (h3:Uz prog 401 [.one (.ow 0 0),.agg [.row lx,.row ly,.bool bn,.row l3,.int .i64 id]] [bH h M q] [.oi e3] [bH h' M' q])
 (h4:Uz prog 406 [.one (.ow 0 0),.agg [.row lx,.row ly,.bool bn,.row l3,.int .i64 id]] [bP p M q] [.oi e4] [bP p' M' q])
 (h5:Uz prog 411 [.one (.ow 0 0),.agg [.row lx,.row ly,.bool bn,.row l3,.int .i64 id]] [bD d M q] [.oi e5] [bD d' M' q]) :
 Uz prog 36 [.one (.ow 0 0),.oi id,.agg [.row lx,.row ly,.bool bn,.row l3]] (IC 0 np nd M q s t h p d) [.oi 0] (IC 0 np nd M' q s' t' h' p' d'):=by
 refine Gb func36 rfl ?_;refine W9 [.c [1] ht,.f rfl,.c Ur pH] rfl ?_;refine Ue (S:=Nat) 9 (λL1 i=>(25,.v (.oi i))::L1) (λi=>[.blk 88 (enR 0 q),tB np nd M',tW 0 i (bS s M q) (bS s' M' q),tW 1 i (bT t M q) (bT t' M' q),tW 2 i (bH h M q) (bH h' M' q),tW 3 i (bP p M q) (bP p' M' q),tW 4 i (bD d M q) (bD d' M' q),.blk 39 [.row lx,.row ly,.bool bn,.row l3],.blk 41 [.row lx,.row ly,.bool bn,.row l3,.int .i64 id]]) (λi=>5-i) (λi=>i<=5) 0 (by decide) rfl rfl λi hi=>?_
 rcases (show i=0\/i=1\/i=2\/i=3\/i=4\/i=5 by omega) with rfl | rfl | rfl | rfl | rfl | rfl
 ·exact go tt [.t rfl,.i 0,.c [2] h1] rfl (by simp [Uw]) (rd 1 (by omega) (by omega) rfl)
 ·exact go tt [.t rfl,.i 1,.c [3] h2] rfl (by simp [Uw]) (rd 2 (by omega) (by omega) rfl)
 ·exact go tt [.t rfl,.i 2,.c [4] h3] rfl (by simp [Uw]) (rd 3 (by omega) (by omega) rfl)
 ·exact go tt [.t rfl,.i 3,.c [5] h4] rfl (by simp [Uw]) (rd 4 (by omega) (by omega) rfl)
 ·exact go tt [.t rfl,.i 4,.c [6] h5] rfl (by simp [Uw]) (rd 5 (by omega) (by omega) rfl)
 ·exact Ud [] [0,1,2,3,4,5,6] [.f rfl] rfl
theorem lQ {np nd id:Int} {M:List Pt} {q:Rat} {s t h p d:Cr} {lx ly l3:Uo} {bn:Bool} {e:Int} (he:e≠0)
 (ht:Uz prog 86 [.one (.ow 0 0),.agg [.row lx,.row ly,.bool bn,.row l3,.int .i64 id]] [tB np nd M] [.oi e] [tB np nd M]) :
 Uz prog 36 [.one (.ow 0 0),.oi id,.agg [.row lx,.row ly,.bool bn,.row l3]] (IC 0 np nd M q s t h p d) [.oi e] (IC 0 np nd M q s t h p d):=by
 refine Gb func36 rfl ?_;exact Ud [] [0,1,2,3,4,5,6] [.c [1] ht,.t (by simpa using he)] rfl
theorem dL {np nd:Int} {M:List Pt} {q r:Rat} {s t h p d s' t' h' p' d':Cr} {x0 x1 x2 x3:LV} {a b n1 n2 n3 n4 n5:Int} (ha:Gk x0 x1 a) (hb:Gk x2 x3 b) (sa:U5 a<=4294967295) (sb:U5 b<=4294967295) (hr:Hg a b=r) (hs:Qs 128 r) (hq:Qs 128 q) (hqr:q<=r)
 (h1:Uz prog 365 [.one (.ow 0 0),.agg (rl r)] [bS s M q] [.oi n1,.oi 0] [bS s' M r])
 (h2:Uz prog 393 [.one (.ow 0 0),.agg (rl r)] [bT t M q] [.oi n2,.oi 0] [bT t' M r])
 (h3:Uz prog 398 [.one (.ow 0 0),.agg (rl r)] [bH h M q] [.oi n3,.oi 0] [bH h' M r])
 (h4:Uz prog 403 [.one (.ow 0 0),.agg (rl r)] [bP p M q] [.oi n4,.oi 0] [bP p' M r])
 (h5:Uz prog 408 [.one (.ow 0 0),.agg (rl r)] [bD d M q] [.oi n5,.oi 0] [bD d' M r]) :
 Uz prog 21 [.one (.ow 0 0),.agg [x0,x1,x2,x3]] (IC 0 np nd M q s t h p d) [.oi 0] (IC 0 np nd M r s' t' h' p' d'):=by
 have cm:=PH ha hb sa sb;rw [hr] at cm;obtain ⟨b1,r1,rfl,rfl,_⟩:=ha;obtain ⟨b2,r2,rfl,rfl,_⟩:=hb;have cc:=Cd (a:=r) (b:=q) (hs.mono (by decide)) (hq.mono (by decide));have l1:=FN.2 hs.1;have l2:(Fo r.den).length<=4:=by simpa using FN.2 hs.2
 have hc:¬G7 r q<0:=λh=>absurd (Mq.1 h) (K9.2 hqr)
 refine Gb func21 rfl ?_;refine W9 [.k cm,.f (by simp [eL]; omega),.f (by simp [eL]; omega),.k cc,.f (by simpa using hc),.c Ur pH] rfl ?_;refine Ue (S:=Nat) 8 (λL1 i=>(32,.v (.oi i))::L1) (λi=>[.blk 88 (enR 0 q),tB np nd M,tW 0 i (bS s M q) (bS s' M r),tW 1 i (bT t M q) (bT t' M r),tW 2 i (bH h M q) (bH h' M r),tW 3 i (bP p M q) (bP p' M r),tW 4 i (bD d M q) (bD d' M r),.blk 43 (rl r)]) (λi=>5-i) (λi=>i<=5) 0 (by decide) rfl rfl λi hi=>?_
 rcases (show i=0\/i=1\/i=2\/i=3\/i=4\/i=5 by omega) with rfl | rfl | rfl | rfl | rfl | rfl
 ·exact go tt [.t rfl,.i 0,.c [2] h1] rfl (by simp [Uw]) (rd 1 (by omega) (by omega) rfl)
 ·exact go tt [.t rfl,.i 1,.c [3] h2] rfl (by simp [Uw]) (rd 2 (by omega) (by omega) rfl)
 ·exact go tt [.t rfl,.i 2,.c [4] h3] rfl (by simp [Uw]) (rd 3 (by omega) (by omega) rfl)
 ·exact go tt [.t rfl,.i 3,.c [5] h4] rfl (by simp [Uw]) (rd 4 (by omega) (by omega) rfl)
 ·exact go tt [.t rfl,.i 4,.c [6] h5] rfl (by simp [Uw]) (rd 5 (by omega) (by omega) rfl)
 ·exact Ud [] [0,1,2,3,4,5,6] [.f rfl] rfl
theorem AI {np nd:Int} {M:List Pt} {q r:Rat} {s t h p d:Cr} {x0 x1 x2 x3:LV} {a b:Int} (ha:Gk x0 x1 a) (hb:Gk x2 x3 b) (sa:U5 a<=4294967295) (sb:U5 b<=4294967295) (hr:Hg a b=r) (hs:¬Qs 128 r) :
 Uz prog 21 [.one (.ow 0 0),.agg [x0,x1,x2,x3]] (IC 0 np nd M q s t h p d) [.oi 1] (IC 0 np nd M q s t h p d):=by
 have cm:=PH ha hb sa sb;rw [hr] at cm;obtain ⟨b1,r1,rfl,rfl,_⟩:=ha;obtain ⟨b2,r2,rfl,rfl,_⟩:=hb;refine Gb func21 rfl ?_;by_cases h1:U5 r.num<=128
 ·have h2:¬U5 (r.den:Int)<=128:=λh=>hs ⟨h1,h⟩
  have l1:=FN.2 h1;have l2:=mt FN.1 h2;exact Ud [] [0,1,2,3,4,5,6] [.k cm,.f (by simp [eL]; omega),.t (by simp [eL] at l2 ⊢; omega)] rfl
 ·have l1:=mt FN.1 h1;exact Ud [] [0,1,2,3,4,5,6] [.k cm,.t (by simp [eL]; omega),.t rfl] rfl
theorem CZ {np nd:Int} {M:List Pt} {q r:Rat} {s t h p d:Cr} {x0 x1 x2 x3:LV} {a b:Int} (ha:Gk x0 x1 a) (hb:Gk x2 x3 b) (sa:U5 a<=4294967295) (sb:U5 b<=4294967295) (hr:Hg a b=r) (hs:Qs 128 r) (hq:Qs 128 q) (hqr:r<q) :
 Uz prog 21 [.one (.ow 0 0),.agg [x0,x1,x2,x3]] (IC 0 np nd M q s t h p d) [.oi 8] (IC 0 np nd M q s t h p d):=by
 have cm:=PH ha hb sa sb;rw [hr] at cm;obtain ⟨b1,r1,rfl,rfl,_⟩:=ha;obtain ⟨b2,r2,rfl,rfl,_⟩:=hb;have cc:=Cd (a:=r) (b:=q) (hs.mono (by decide)) (hq.mono (by decide));have l1:=FN.2 hs.1;have l2:(Fo r.den).length<=4:=by simpa using FN.2 hs.2
 have hc:G7 r q<0:=Mq.2 hqr;refine Gb func21 rfl ?_;exact Ud [] [0,1,2,3,4,5,6] [.k cm,.f (by simp [eL]; omega),.f (by simp [eL]; omega),.k cc,.t (by simpa using hc)] rfl
theorem xW {c:Cr} {l l':List Pt} {r1:Uo} {ws:List Wt} (hc:CrOk c) (hl:∀ p∈l',Sc p.c) (hn:l'.length≤10) (h:Tz c.l c.now (Fj (CE l' c.now))=some ws) :
 Uz prog 402 [.one (.ow 0 0),.agg [pts l'],.oi 0] [.blk 201 (Ho c (Ut l) r1)] [.oi 0] [.blk 201 (Ho ⟨c.now,ws,c.ev⟩ (Ut l') (oQ l' c.now))]:=by
 have hB:=uU hl hn;have cn:=Oa (T:=201) (c:=c) (r0:=Ut l') (r1:=r1) hc.n;have cb:=DX (c:=c) (r1:=r1) hl hn hc.n;have cg:=XX (T:=201) (r0:=Ut l') (r1:=oQ l' c.now) hc hc.n (A9 hc.n) (Ya 0) (hB.p _ hc.n) (hB.n _ hc.n) h;refine Gb func402 rfl ?_;exact Ud [] [0] [.f rfl,.c [0] cn,.c [0] cb,.c [0] cg] rfl
theorem Qhd {lx ly:Uo} {px py:Ui} {x y:LV} {d id:Int} {c:Cr} {l:List Pt} {r1:Uo} {ws:List Wt} (hx:IsInts lx px) (hy:IsInts ly py) (hd:Gk x y d) (hk:Cs 4294967294 1073741824 (Crv.mk px py d)) (hll:l.length<=900)
 (he:VQ l ⟨Crv.norm (Crv.mk px py d),id⟩=0) (hc:CrOk c) (hl:∀ p∈put l ⟨Crv.norm (Crv.mk px py d),id⟩,Sc p.c) (hn:(put l ⟨Crv.norm (Crv.mk px py d),id⟩).length≤10) (h:Tz c.l c.now (Fj (CE (put l ⟨Crv.norm (Crv.mk px py d),id⟩) c.now))=some ws) :
 Uz prog 400 [.one (.ow 0 0),.agg [.row lx,.row ly,x,y,.int .i64 id]] [.blk 201 (Ho c (Ut l) r1)] [.oi 0] [.blk 201 (Ho ⟨c.now,ws,c.ev⟩ (Ut (put l ⟨Crv.norm (Crv.mk px py d),id⟩)) (oQ (put l ⟨Crv.norm (Crv.mk px py d),id⟩) c.now))]:=by
 have cp:=xR (l:=l) (id:=id) hx hy hd hk (by omega);rw [if_pos he,he] at cp;have cw:=xW (l:=l) (r1:=r1) hc hl hn h;refine Gb func400 rfl ?_;obtain ⟨b,l',rfl,rfl,_⟩:=hd;exact Ud [] [0] [.k cp,.c [0] cw] rfl
theorem oR {lx ly:Uo} {px py:Ui} {x y:LV} {d id:Int} {c:Cr} {l l':List Pt} {r1:Uo} {ws:List Wt} (hx:IsInts lx px) (hy:IsInts ly py) (hd:Gk x y d) (hk:Cs 4294967294 1073741824 (Crv.mk px py d)) (hll:l.length<=10) (h:has l id=true) (hc:CrOk c)
 (hl':l'=l.set (P6 l id) (Pt.mk (Crv.norm (Crv.mk px py d)) id)) (hs:∀ p∈l',Sc p.c) (hw:Tz c.l c.now (Fj (CE l' c.now))=some ws) :
 Uz prog 401 [.one (.ow 0 0),.agg [.row lx,.row ly,x,y,.int .i64 id]] [.blk 201 (Ho c (Ut l) r1)] [.oi 0] [.blk 201 (Ho ⟨c.now,ws,c.ev⟩ (Ut l') (oQ l' c.now))]:=by
 have ct1:=VO (l:=l) hx hy hd hk (by omega) h;rw [<-hl'] at ct1;have cw:=xW (c:=c) (l:=l) (l':=l') (r1:=r1) hc hs (by rw [hl',Xf]; omega) hw;obtain ⟨b,r,rfl,rfl,_⟩:=hd;refine Gb func401 rfl ?_;exact Ud [] [0] [.k ct1,.c [0] cw] rfl
theorem xH {c:Cr} {l l':List Pt} {r1:Uo} {ws:List Wt} (hc:CrOk c) (hl:∀ p∈l',Sc p.c) (hn:l'.length≤10) (h:Tz c.l c.now (Fj (dS l' c.now))=some ws) :
 Uz prog 407 [.one (.ow 0 0),.agg [pts l'],.oi 0] [.blk 203 (Ho c (Ut l) r1)] [.oi 0] [.blk 203 (Ho ⟨c.now,ws,c.ev⟩ (Ut l') (brP l' c.now))]:=by
 have hB:=iL hl hn;have cn:=Oa (T:=203) (c:=c) (r0:=Ut l') (r1:=r1) hc.n;have cb:=DJ (c:=c) (r1:=r1) hl hn hc.n;have cg:=XX (T:=203) (r0:=Ut l') (r1:=brP l' c.now) hc hc.n (A9 hc.n) (Ya 0) (hB.p _ hc.n) (hB.n _ hc.n) h;refine Gb func407 rfl ?_;exact Ud [] [0] [.f rfl,.c [0] cn,.c [0] cb,.c [0] cg] rfl
theorem Qhk {lx ly:Uo} {px py:Ui} {x y:LV} {d id:Int} {c:Cr} {l:List Pt} {r1:Uo} {ws:List Wt} (hx:IsInts lx px) (hy:IsInts ly py) (hd:Gk x y d) (hk:Cs 4294967294 1073741824 (Crv.mk px py d)) (hll:l.length<=900)
 (he:VQ l ⟨Crv.norm (Crv.mk px py d),id⟩=0) (hc:CrOk c) (hl:∀ p∈put l ⟨Crv.norm (Crv.mk px py d),id⟩,Sc p.c) (hn:(put l ⟨Crv.norm (Crv.mk px py d),id⟩).length≤10) (h:Tz c.l c.now (Fj (dS (put l ⟨Crv.norm (Crv.mk px py d),id⟩) c.now))=some ws) :
 Uz prog 405 [.one (.ow 0 0),.agg [.row lx,.row ly,x,y,.int .i64 id]] [.blk 203 (Ho c (Ut l) r1)] [.oi 0] [.blk 203 (Ho ⟨c.now,ws,c.ev⟩ (Ut (put l ⟨Crv.norm (Crv.mk px py d),id⟩)) (brP (put l ⟨Crv.norm (Crv.mk px py d),id⟩) c.now))]:=by
 have cp:=xR (l:=l) (id:=id) hx hy hd hk (by omega);rw [if_pos he,he] at cp;have cw:=xH (l:=l) (r1:=r1) hc hl hn h;refine Gb func405 rfl ?_;obtain ⟨b,l',rfl,rfl,_⟩:=hd;exact Ud [] [0] [.k cp,.c [0] cw] rfl
theorem Qaa {lx ly:Uo} {px py:Ui} {x y:LV} {d id:Int} {c:Cr} {l l':List Pt} {r1:Uo} {ws:List Wt} (hx:IsInts lx px) (hy:IsInts ly py) (hd:Gk x y d) (hk:Cs 4294967294 1073741824 (Crv.mk px py d)) (hll:l.length<=10) (h:has l id=true) (hc:CrOk c)
 (hl':l'=l.set (P6 l id) (Pt.mk (Crv.norm (Crv.mk px py d)) id)) (hs:∀ p∈l',Sc p.c) (hw:Tz c.l c.now (Fj (dS l' c.now))=some ws) :
 Uz prog 406 [.one (.ow 0 0),.agg [.row lx,.row ly,x,y,.int .i64 id]] [.blk 203 (Ho c (Ut l) r1)] [.oi 0] [.blk 203 (Ho ⟨c.now,ws,c.ev⟩ (Ut l') (brP l' c.now))]:=by
 have ct1:=VO (l:=l) hx hy hd hk (by omega) h;rw [<-hl'] at ct1;have cw:=xH (c:=c) (l:=l) (l':=l') (r1:=r1) hc hs (by rw [hl',Xf]; omega) hw;obtain ⟨b,r,rfl,rfl,_⟩:=hd;refine Gb func406 rfl ?_;exact Ud [] [0] [.k ct1,.c [0] cw] rfl
end Orr
