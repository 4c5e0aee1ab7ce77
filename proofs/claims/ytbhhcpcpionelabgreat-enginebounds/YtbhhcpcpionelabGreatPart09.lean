/- En1 TW1 TW2 R3 R4 RefPL R5 R6 RefGL R7 RatOkL R8 R9 RefCL R10 R11 R12 R13 R14 R15 R16 R17 R18 SC1 W1 W2 WR18 WS18 X19 MeshK H2 H3 MD1 -/
import Derived.Test.YtbhhcpcpionelabGreatPart08
import Derived.Test.YtbhhcpcpionelabGreatPart00
import Derived.Test.YtbhhcpcpionelabGreatPart07
import Derived.Test.YtbhhcpcpionelabGreatPart04
import Derived.Test.YtbhhcpcpionelabGreatPart05
set_option linter.all false
namespace Orr
open Go Go.Proofs Tryz Orq
set_option maxRecDepth 10000
theorem lml (l:Un):(lm l).length=l.length:=by simp [lm]
theorem RF {z:Int}:(Fy z.natAbs).length<=4↔U9 z<=128:=by
 constructor
 ·intro h;have h1:=Ck (Fy z.natAbs) (C7 z.natAbs).1;rw [Gx] at h1;refine Sl.2 (Z8 h1 (Qc (Zs (by decide) h) (by decide)))
 ·intro h;have:=Tf (x:=z.natAbs) (k:=128) h;omega
def QL (k:Crv):Bool:=(k.x++k.y++[k.d]).all λz=>decide (U9 z<=128)
theorem ES {k:Crv}:QL k=true↔(∀ z∈k.x,U9 z≤128)/\(∀ z∈k.y,U9 z≤128)/\U9 k.d≤128:=by
 unfold QL;simp only [List.all_append,Zo,Jr,decide_eq_true_iff,Qk,forall_eq];constructor
 ·rintro ⟨⟨h1,h2⟩,h3⟩; exact ⟨h1,h2,h3⟩
 ·rintro ⟨h1,h2,h3⟩; exact ⟨⟨h1,h2⟩,h3⟩
theorem WW {k:Crv} {z:Int} (hz:z∈k.x++k.y++[k.d]) (h:¬U9 z<=128):QL k=false:=by
 unfold QL;rw [<-Bool.not_eq_true,Jr];intro h';exact h (of_decide_eq_true (h' z hz))
abbrev tB (np nd:Int) (l:List Pt):OB:=.blk 139 (taR np nd l)
theorem lL {np nd:Int} {l:List Pt} (id:Int) (hl:l.length<1073741824):Uz prog 109 [.one (.ow 0 0),.oi id] [tB np nd l] [.oi (Ro l id:Int),.one (.bool (has l id))] [tB np nd l]:=by
 refine Fw func109 rfl ?_;refine Uc [] rfl ?_;refine ct 2 (S:=Unit) (λ_=>[(1,.v (.oi id)),(0,.v (.one (.ow 0 0))),(6,.v (.oi (Ro l id:Int)))]) (λ_=>[tB np nd l]) (λ_=>True) rfl ?_ ?_
 ·refine Uh (S:=Nat) 1 (λL1 k=>(6,.v (.oi k))::L1) (λ_=>[tB np nd l]) (λk=>l.length-k) (λk=>k<=l.length/\∀ j p,j<k->l[j]? = some p->p.id<id) 0 ⟨Qh _,λj p h=>by omega⟩ rfl rfl λk ⟨hk,hlt⟩=>?_
  by_cases h:k<l.length
  ·obtain ⟨p,hp⟩:=gxE (l:=l) (i:=k) h;by_cases hid:p.id<id
   ·refine Ud [.t (by simp; omega),.x (Tr hp),.t (by simpa using hid)] rfl ?_;exact rd (k+1) (by omega) ⟨h,λj q hj hq=>by
     rcases Zd j k with h2 | h2
     ·exact hlt j q h2 hq
     ·have:j=k:=by omega
      subst this; rw [hp] at hq; injection hq with hq; rw [<-hq]; exact hid⟩ rfl
   ·have e:=EQ hlt (.inr ⟨p,hp,hid⟩);refine Uc [.t (by simp; omega),.x (Tr hp),.f (by simpa using hid)] rfl ?_;rw [e];exact rc () trivial rfl
  ·obtain rfl:k=l.length:=by omega
   have e:=EQ hlt (.inl rfl);refine Uc [.f (by simp),.f rfl] rfl ?_;rw [e];exact rc () trivial rfl
 ·intro _ _;by_cases h:Ro l id<l.length
  ·obtain ⟨p,hp⟩:=gxE (l:=l) (i:=Ro l id) h;have e:has l id=decide (p.id=id):=by simp [has,hp]
   rw [e];exact Ug [] [0] [.g 36 true (by simp; omega),.x (Tr hp)] rfl
  ·have e:has l id=false:=by simp [has,Qw (J7 h)]
   rw [e];exact Ug [] [0] [.g 36 false (by simp; omega)] rfl
theorem IG {lx ly:Ur} {px py:Ul} {x y:LV} {d:Int} (hx:IsInts lx px) (hy:IsInts ly py) (hd:Gj x y d) (hk:Cs 4294967294 1073741824 (Crv.mk px py d)) (id:Int):Ui 75 [.agg [.row lx,.row ly,x,y,.int .i64 id]] [.agg (U5 ⟨Crv.norm (Crv.mk px py d),id⟩)]:=by
 have cd:=Bt hd (Qc hk.d (by omega));by_cases h0:d=0
 ·subst h0;have ck:Cs 4294967294 1073741824 (Crv.mk px py 1):=⟨hk.x,hk.y,show U9 1<=4294967294 by decide,hk.lx,hk.ly⟩;have cm:=WO hx hy (Uy 1) ck (by decide);have e:Crv.norm (Crv.mk px py 1)=Crv.norm (Crv.mk px py 0):=by simp only [Crv.norm,Crv.g,Crv.d']; rfl
  rw [e] at cm;obtain ⟨b,l,rfl,rfl,_⟩:=hd;exact Uf func75 rfl [.k cd,.k Lh,.t (by simp),.k (xH (z:=1) (by decide)),.k cm] rfl
 ·have cm:=WO hx hy hd hk h0;obtain ⟨b,l,rfl,rfl,_⟩:=hd;exact Uf func75 rfl [.k cd,.k Lh,.f (by simpa using h0),.k cm] rfl
theorem Qfy {k:Crv} (hk:Cs 4294967294 1073741824 k):Ui 152 [.agg (cl k)] [.one (.bool (QL k))]:=by
 have hlx:=hk.lx;have hly:=hk.ly;refine Fw func152 rfl ?_;refine Uc [] rfl ?_;refine Uh (S:=Nat) 1 (λL1 i=>(15,.v (.oi i))::L1) (λ_=>[.blk 36 (cl k)]) (λi=>3-i) (λi=>i≤3/\(0<i->∀ z∈k.x,U9 z≤128)/\(1<i->∀ z∈k.y,U9 z≤128)/\(2<i->U9 k.d≤128)) 0 ⟨by decide,by omega,by omega,by omega⟩ rfl rfl λi ⟨hi,g0,g1,g2⟩=>?_
 rcases (show i=0\/i=1\/i=2\/i=3 by omega) with rfl | rfl | rfl | rfl
 ·have hl:((k.x).map Hg).length=(k.x).length:=by simp
  refine Uc [.t rfl,.i 0] rfl ?_ (by simp [Uw]);refine Uh (S:=Nat) 1 (λL1 j=>(20,.v (.oi j))::L1) (λ_=>[.blk 36 (cl k)]) (λj=>(k.x).length-j) (λj=>j<=(k.x).length/\∀ n z,n<j->(k.x)[n]? = some z->U9 z<=128) 0 ⟨Qh _,λn z h=>by omega⟩ rfl rfl λj ⟨hj,hs⟩=>?_
  by_cases h:j<(k.x).length
  ·obtain ⟨z,hz⟩:=gxE (l:=(k.x)) (i:=j) h;by_cases hb:U9 z<=128
   ·have hb4:=RF.2 hb;refine Ud [.t (by simp; omega),.x (G7 (f:=Hg) hz),.f (by simp [lml]; omega)] rfl ?_;exact rd (j+1) (by omega) ⟨h,λn y hn hy=>by
     rcases Zd n j with h2 | h2
     ·exact hs n y h2 hy
     ·have:n=j:=by omega
      subst this; rw [hz] at hy; injection hy with hy; rw [<-hy]; exact hb⟩ rfl
   ·have hb4:=mt RF.1 hb;rw [WW (Qq.2 (.inl (Qq.2 (.inl (Qa hz))))) hb];exact Ue [.t (by simp; omega),.x (G7 (f:=Hg) hz),.t (by simp [lml]; omega)] rfl
  ·have hall:∀ z∈k.x,U9 z≤128:=λz hz=>by
    obtain ⟨n,hn⟩:=X1 hz;exact hs n z (by have:=(Qf.1 hn).1; omega) hn
   refine Uc [.f (by simp; omega)] rfl ?_ (by simp [Uw]);exact rd 1 (by omega) ⟨by omega,λ_=>hall,by omega,by omega⟩ rfl
 ·have hl:((k.y).map Hg).length=(k.y).length:=by simp
  refine Uc [.t rfl,.i 1] rfl ?_ (by simp [Uw]);refine Uh (S:=Nat) 1 (λL1 j=>(20,.v (.oi j))::L1) (λ_=>[.blk 36 (cl k)]) (λj=>(k.y).length-j) (λj=>j<=(k.y).length/\∀ n z,n<j->(k.y)[n]? = some z->U9 z<=128) 0 ⟨Qh _,λn z h=>by omega⟩ rfl rfl λj ⟨hj,hs⟩=>?_
  by_cases h:j<(k.y).length
  ·obtain ⟨z,hz⟩:=gxE (l:=(k.y)) (i:=j) h;by_cases hb:U9 z<=128
   ·have hb4:=RF.2 hb;refine Ud [.t (by simp; omega),.x (G7 (f:=Hg) hz),.f (by simp [lml]; omega)] rfl ?_;exact rd (j+1) (by omega) ⟨h,λn y hn hy=>by
     rcases Zd n j with h2 | h2
     ·exact hs n y h2 hy
     ·have:n=j:=by omega
      subst this; rw [hz] at hy; injection hy with hy; rw [<-hy]; exact hb⟩ rfl
   ·have hb4:=mt RF.1 hb;rw [WW (Qq.2 (.inl (Qq.2 (.inr (Qa hz))))) hb];exact Ue [.t (by simp; omega),.x (G7 (f:=Hg) hz),.t (by simp [lml]; omega)] rfl
  ·have hall:∀ z∈k.y,U9 z≤128:=λz hz=>by
    obtain ⟨n,hn⟩:=X1 hz;exact hs n z (by have:=(Qf.1 hn).1; omega) hn
   refine Uc [.f (by simp; omega)] rfl ?_ (by simp [Uw]);exact rd 2 (by omega) ⟨by omega,λ_=>g0 (by omega),λ_=>hall,by omega⟩ rfl
 ·have hl:(([k.d]).map Hg).length=([k.d]).length:=by simp
  have h1:([k.d]).length=1:=rfl;refine Uc [.t rfl,.i 2] rfl ?_ (by simp [Uw]);refine Uh (S:=Nat) 1 (λL1 j=>(20,.v (.oi j))::L1) (λ_=>[.blk 36 (cl k)]) (λj=>([k.d]).length-j) (λj=>j<=([k.d]).length/\∀ n z,n<j->([k.d])[n]? = some z->U9 z<=128) 0 ⟨Qh _,λn z h=>by omega⟩ rfl rfl λj ⟨hj,hs⟩=>?_
  by_cases h:j<([k.d]).length
  ·obtain ⟨z,hz⟩:=gxE (l:=([k.d])) (i:=j) h;by_cases hb:U9 z<=128
   ·have hb4:=RF.2 hb;refine Ud [.t (by simp; omega),.x (G7 (f:=Hg) hz),.f (by simp [lml]; omega)] rfl ?_;exact rd (j+1) (by omega) ⟨h,λn y hn hy=>by
     rcases Zd n j with h2 | h2
     ·exact hs n y h2 hy
     ·have:n=j:=by omega
      subst this; rw [hz] at hy; injection hy with hy; rw [<-hy]; exact hb⟩ rfl
   ·have hb4:=mt RF.1 hb;rw [WW (Qq.2 (.inr (Qa hz))) hb];exact Ue [.t (by simp; omega),.x (G7 (f:=Hg) hz),.t (by simp [lml]; omega)] rfl
  ·have hall:∀ z∈[k.d],U9 z≤128:=λz hz=>by
    obtain ⟨n,hn⟩:=X1 hz;exact hs n z (by have:=(Qf.1 hn).1; omega) hn
   refine Uc [.f (by simp; omega)] rfl ?_ (by simp [Uw]);exact rd 3 (by omega) ⟨by omega,λ_=>g0 (by omega),λ_=>g1 (by omega),λ_=>hall k.d (by simp)⟩ rfl
 ·rw [ES.2 ⟨g0 (by omega),g1 (by omega),g2 (by omega)⟩];exact Ue [.f rfl] rfl
def XG (p:Pt):Bool:=decide (0<=p.id) && (decide (p.id<=1048576) && QL p.c)
theorem Qf2 {p:Pt} (hk:Cs 4294967294 1073741824 p.c):Ui 110 [.agg (U5 p)] [.one (.bool (XG p))]:=by
 have cs:=Qfy hk;by_cases h0:0<=p.id
 ·by_cases h1:p.id<=1048576
  ·have e:XG p=QL p.c:=by simp [XG,h0,h1]
   rw [e];exact Uf func110 rfl [.t (by simpa using h0),.t (by simpa using h1),.k cs] rfl
  ·have e:XG p=false:=by simp [XG,h1]
   rw [e];exact Uf func110 rfl [.t (by simpa using h0),.f (by simpa using h1)] rfl
 ·have e:XG p=false:=by simp [XG,h0]
  rw [e];exact Uf func110 rfl [.f (by simpa using h0),.f rfl] rfl
theorem pI {k:Crv} (hn:JR k) (hk:Cs 4294967294 1073741824 k):Ui 98 [.agg (cl k)] [.oi (Ex k)] :=
 Uf func98 rfl [.k (BV hn hk),.k (Mq k.x),.k (Mq k.y)] rfl
def Nb (np nd:Int) (M:List Pt) (p:Pt):Int:=if XG p=false then 1 else if has M p.id=true then 6 else if nd<Ex p.c then 7 else if np<=(M.length:Int) then 9 else 0
theorem Qt6 {lx ly:Ur} {px py:Ul} {x y:LV} {d id np nd:Int} {l:List Pt} (hx:IsInts lx px) (hy:IsInts ly py) (hd:Gj x y d) (hk:Cs 4294967294 1073741824 (Crv.mk px py d)) (hl:l.length<=1000000) :
 Uz prog 70 [.one (.ow 0 0),.agg [.row lx,.row ly,x,y,.int .i64 id]] [tB np nd l] [.oi (Nb np nd l (Pt.mk (Crv.norm (Crv.mk px py d)) id))] [tB np nd (if Nb np nd l (Pt.mk (Crv.norm (Crv.mk px py d)) id)=0 then put l (Pt.mk (Crv.norm (Crv.mk px py d)) id) else l)]:=by
 have cf:=IG hx hy hd hk id;have hkn:=hk.norm (by omega);have hnm:=Crv.nml (Crv.mk px py d);obtain ⟨b,r,rfl,rfl,_⟩:=hd;obtain ⟨q,hq⟩:=nmE (Pt.mk (Crv.norm (Crv.mk px py d)) id);have hqi:q.id=id:=by rw [hq]
 have hqc:q.c=Crv.norm (Crv.mk px py d):=by rw [hq]
 rw [<-hq] at cf ⊢;rw [<-hqc] at hkn hnm;have ca:Uz prog 109 [.one (.ow 0 0),.oi q.id] [tB np nd l] [.oi (Ro l id:Int),.one (.bool (has l id))] [tB np nd l]:=by rw [hqi]; exact lL id (by omega)
 have cm:=Qf2 (p:=q) hkn;have cd:=pI hnm hkn;have hpl:=vZ l id;have hll:(l.map U5).length=l.length:=by simp
 by_cases h0:XG q=false
 ·have e:Nb np nd l q=1:=by simp [Nb,h0]
  rw [e,if_neg (by decide)];refine Fw func70 rfl ?_;exact Ug [] [0] [.k cf,.c [0] ca,.k cm,.t (by simp [h0])] rfl
 by_cases h1:has l id=true
 ·have e:Nb np nd l q=6:=by simp [Nb,h0,hqi,h1]
  rw [e,if_neg (by decide)];refine Fw func70 rfl ?_;exact Ug [] [0] [.k cf,.c [0] ca,.k cm,.f (by simpa using h0),.t h1] rfl
 by_cases h2:nd<Ex q.c
 ·have e:Nb np nd l q=7:=by simp [Nb,h0,hqi,h1,h2]
  rw [e,if_neg (by decide)];refine Fw func70 rfl ?_;exact Ug [] [0] [.k cf,.c [0] ca,.k cm,.f (by simpa using h0),.f (by simpa using h1),.k cd,.t (by simpa using h2)] rfl
 by_cases h3:np<=(l.length:Int)
 ·have e:Nb np nd l q=9:=by simp [Nb,h0,hqi,h1,h2,h3]
  rw [e,if_neg (by decide)];refine Fw func70 rfl ?_;exact Ug [] [0] [.k cf,.c [0] ca,.k cm,.f (by simpa using h0),.f (by simpa using h1),.k cd,.f (by simpa using h2),.t (by simp; omega)] rfl
 have e:Nb np nd l q=0:=by simp [Nb,h0,hqi,h1,h2,h3]
 rw [e,if_pos rfl];have s1:∀ c∈(l.map U5).take (Ro l id),c.length=5:=λc hc=>Tz l c (Qo hc)
 have s3:∀ c∈(l.map U5).drop (Ro l id),c.length=5:=λc hc=>Tz l c (Q0 hc)
 have ep:pts (put l q)=.row ((l.map U5).take (Ro l id)++[U5 q]++(l.map U5).drop (Ro l id)):=by
  simp [put,hqi,pts,Jt,Vh]
 have eB:tB np nd (put l q)=.blk 139 [.int .i64 np,.int .i64 nd,.row ((l.map U5).take (Ro l id)++[U5 q]++(l.map U5).drop (Ro l id))]:=by
  show OB.blk 139 [.int .i64 np,.int .i64 nd,pts (put l q)]=_;rw [ep]
 rw [eB];refine Fw func70 rfl ?_;exact Ug [2] [0] [.k cf,.c [0] ca,.k cm,.f (by simpa using h0),.f (by simpa using h1),.k cd,.f (by simpa using h2),.f (by simp; omega),.i (Ro l id),.s s1,.i (Ro l id),.s s3] rfl (by
  simp only [Uw,Qu,Q4,Jy,Qr,Q9,hll]
  and_intros <;> first | exact Tz l | omega)
def My (nd:Int) (M:List Pt) (p:Pt):Int:=if XG p=false then 1 else if has M p.id=false then 5 else if nd<Ex p.c then 7 else 0
theorem Qnp {lx ly:Ur} {px py:Ul} {x y:LV} {d id np nd:Int} {l:List Pt} (hx:IsInts lx px) (hy:IsInts ly py) (hd:Gj x y d) (hk:Cs 4294967294 1073741824 (Crv.mk px py d)) (hl:l.length<=1000000) :
 Uz prog 83 [.one (.ow 0 0),.agg [.row lx,.row ly,x,y,.int .i64 id]] [tB np nd l] [.oi (My nd l (Pt.mk (Crv.norm (Crv.mk px py d)) id))] [tB np nd (if My nd l (Pt.mk (Crv.norm (Crv.mk px py d)) id)=0 then l.set (Ro l id) (Pt.mk (Crv.norm (Crv.mk px py d)) id) else l)]:=by
 have cf:=IG hx hy hd hk id;have hkn:=hk.norm (by omega);have hnm:=Crv.nml (Crv.mk px py d);obtain ⟨b,r,rfl,rfl,_⟩:=hd;obtain ⟨q,hq⟩:=nmE (Pt.mk (Crv.norm (Crv.mk px py d)) id);have hqi:q.id=id:=by rw [hq]
 have hqc:q.c=Crv.norm (Crv.mk px py d):=by rw [hq]
 rw [<-hq] at cf ⊢;rw [<-hqc] at hkn hnm;have ca:Uz prog 109 [.one (.ow 0 0),.oi q.id] [tB np nd l] [.oi (Ro l id:Int),.one (.bool (has l id))] [tB np nd l]:=by rw [hqi]; exact lL id (by omega)
 have cm:=Qf2 (p:=q) hkn;have cd:=pI hnm hkn;have hpl:=vZ l id;have hll:(l.map U5).length=l.length:=by simp
 by_cases h0:XG q=false
 ·have e:My nd l q=1:=by simp [My,h0]
  rw [e,if_neg (by decide)];refine Fw func83 rfl ?_;exact Ug [] [0] [.k cf,.c [0] ca,.k cm,.t (by simp [h0])] rfl
 by_cases h1:has l id=false
 ·have e:My nd l q=5:=by simp [My,h0,hqi,h1]
  rw [e,if_neg (by decide)];refine Fw func83 rfl ?_;exact Ug [] [0] [.k cf,.c [0] ca,.k cm,.f (by simpa using h0),.t (by simp [h1])] rfl
 by_cases h2:nd<Ex q.c
 ·have e:My nd l q=7:=by simp [My,h0,hqi,h1,h2]
  rw [e,if_neg (by decide)];refine Fw func83 rfl ?_;exact Ug [] [0] [.k cf,.c [0] ca,.k cm,.f (by simpa using h0),.f (by simpa using h1),.k cd,.t (by simpa using h2)] rfl
 have e:My nd l q=0:=by simp [My,h0,hqi,h1,h2]
 rw [e,if_pos rfl];have hh:has l id=true:=by simpa using h1
 have hps:=YG hh;have eB:tB np nd (l.set (Ro l id) q)=.blk 139 [.int .i64 np,.int .i64 nd,.row ((l.map U5).set (Ro l id) (U5 q))]:=by
  show OB.blk 139 [.int .i64 np,.int .i64 nd,pts (l.set (Ro l id) q)]=_;unfold pts; rw [List.map_set]
 rw [eB];refine Fw func83 rfl ?_;exact Ug [2] [0] [.k cf,.c [0] ca,.k cm,.f (by simpa using h0),.f (by simpa using h1),.k cd,.f (by simpa using h2),.s (Tz l),.i (Ro l id)] rfl (by
  simp only [Uw,hll]
  and_intros <;> first | exact Tz l | omega)
theorem Qno {id np nd:Int} {l:List Pt} (hl:l.length<=1000000) (h:has l id=true) :
 Uz prog 73 [.one (.ow 0 0),.oi id] [tB np nd l] [.oi 0] [tB np nd (l.take (Ro l id)++l.drop (Ro l id+1))]:=by
 have ca:=lL (np:=np) (nd:=nd) (l:=l) id (by omega);have hpl:=YG h;rw [h] at ca;have hll:(l.map U5).length=l.length:=by simp
 have s1:∀ c∈(l.map U5).take (Ro l id),c.length=5:=λc hc=>Tz l c (Qo hc)
 have s3:∀ c∈(l.map U5).drop (Ro l id+1),c.length=5:=λc hc=>Tz l c (Q0 hc)
 have eB:tB np nd (l.take (Ro l id)++l.drop (Ro l id+1))=.blk 139 [.int .i64 np,.int .i64 nd,.row ((l.map U5).take (Ro l id)++(l.map U5).drop (Ro l id+1))]:=by
  show OB.blk 139 [.int .i64 np,.int .i64 nd,pts (l.take (Ro l id)++l.drop (Ro l id+1))]=_;unfold pts; rw [List.map_append,List.map_take,List.map_drop]
 rw [eB];refine Fw func73 rfl ?_;exact Ug [1] [0] [.c [0] ca,.f rfl,.i (Ro l id),.s s1,.i (Ro l id+1),.s s3] rfl (by
  simp only [Uw,Qu,Q4,Jy,Qr,Q9,hll]
  and_intros <;> first | exact Tz l | omega)
theorem Qf0 {id np nd:Int} {l:List Pt} (hl:l.length<=1000000) (h:has l id=false) :
 Uz prog 73 [.one (.ow 0 0),.oi id] [tB np nd l] [.oi 5] [tB np nd l]:=by
 have ca:=lL (np:=np) (nd:=nd) (l:=l) id (by omega);rw [h] at ca;refine Fw func73 rfl ?_;exact Ug [] [0] [.c [0] ca,.t rfl] rfl
theorem Qt4 {np nd:Int} {l:List Pt}:Uz prog 48 [.one (.ow 0 0)] [tB np nd l] [.oi (l.length:Int)] [tB np nd l]:=by
 have hll:((l.map U5).length:Int)=l.length:=by simp
 refine Fw func48 rfl ?_;exact Ug [] [0] [.r 7 (eI hll)] rfl
def I6 (l:List (Pt×Pt)):Ur:=l.map Qcn
theorem Qn8 {l m:Ur} (h:l=m):TV.one (LV.row l)=.one (.row m):=h ▸ rfl
theorem oz {P:Program} [Mo P] {n:Nat} {Q:Exit->Sg->Us->Prop} {L L':Sg} {B B':Us} (d off T sz:Nat) {it:List It} (hs:H9 it=true) (h:bN (P:=P) d L B [.oc d off T sz]=some (L',B',[],[])) (k:AK P n Q it L' B'):AK P n Q it L B:=AK.sub (EJ h EqOk.nil) hs k
theorem Qmu {a b:Pt} {t:Tm} (ha:Sc a.c) (hb:Sc b.c) (ht:Va t):Ui 163 [.oi 2,.agg (ta t),.one (.row [U5 a,U5 b])] [.agg (Lm (Dm (Fl t) a b)),.oi 0]:=by
 have h1:=P0 hb ha;have h2:=P5 hb ha;refine Fw func163 rfl ?_;refine Uc [.k Qbf,.f rfl] rfl ?_;refine Uh (S:=Nat) 3 (λL1 i=>(22,.v (.oi i))::L1) (λi=>[.blk 189 (ta t),.blk 136 zCt,.blk 136 [.int .i64 2,.int .i64 (if 1<=i then a.id else 0),.int .i64 (if 2<=i then b.id else 0),.int .i64 0,.int .i64 0,.nils,.int .i64 0]]) (λi=>2-i) (λi=>i<=2) 0 (Qh _) rfl rfl λi hi=>?_
 rcases (show i=0\/i=1\/i=2 by omega) with rfl | rfl | rfl
 ·refine Uc [.t rfl,.x (i:=0) (xs:=U5 a) rfl,.i 0] rfl ?_ (by simp [Uw]);exact rd 1 (by omega) (by omega) rfl
 ·refine Uc [.t rfl,.x (i:=1) (xs:=U5 b) rfl,.i 1] rfl ?_ (by simp [Uw]);exact rd 2 (by omega) (by omega) rfl
 ·exact Ue [.f rfl,.f rfl,.t rfl,.x (i:=1) (xs:=U5 b) rfl,.x (i:=0) (xs:=U5 a) rfl,.k (WL hb.n ha.n hb.cb ha.cb),.x (i:=1) (xs:=U5 b) rfl,.x (i:=0) (xs:=U5 a) rfl,.k (WA hb.n ha.n hb.cb ha.cb),.k wP,.k (TC (JO h1 h2).dp ht)] rfl
theorem Qe7 {a:Tm} (ha:Va a) {c:Cr} {r0 r1:Ur}:∀ (k:Nat) (l:List Pt) (ms:List (Pt×Pt)),l.length≤k->l.length≤1000->ms.length+l.length≤1000000->(∀ p∈l,Sc p.c)->Uz prog 162 [.one (.ow 0 0),.agg (ta a),.one (pts l)] [.blk 199 [.bool true,pl c.now.p,sg c.now.lo.num,mg c.now.lo.num,sg (c.now.lo.den:Int),mg (c.now.lo.den:Int),sg c.now.hi.num,mg c.now.hi.num,sg (c.now.hi.den:Int),mg (c.now.hi.den:Int),.row (Co c.l),.int .i64 c.ev,.row r0,.row r1,.orow 1 10 none],.row false 252 10 (I6 ms)] [.one (.row (Uv (Bm (Fl a) l).1))] [.blk 199 [.bool true,pl c.now.p,sg c.now.lo.num,mg c.now.lo.num,sg (c.now.lo.den:Int),mg (c.now.lo.den:Int),sg c.now.hi.num,mg c.now.hi.num,sg (c.now.hi.den:Int),mg (c.now.hi.den:Int),.row (Co c.l),.int .i64 c.ev,.row r0,.row r1,.orow 1 10 none],.row false 252 10 (I6 (ms++(Bm (Fl a) l).2))]
 := by
  intro k
  induction k with
  | zero=>?_
  | succ k ih=>?_
  all_goals
   intro l ms hk hn hms hl;have hcl:=Gu l;show Uz prog 162 [.one (.ow 0 0),.agg (ta a),.one (.row (Uv l))] _ _ _;by_cases hs:l.length<2
   ·rw [B9 _ hs,Zv];refine Fw func162 rfl ?_;exact Ug [] [0,1] [.t (by simp [hcl]; omega)] rfl
   first
    | (exfalso; omega)
    |
     skip
     obtain ⟨k1,k2,k3,k4⟩:=Qhw hs hk;obtain ⟨h,hh⟩:=nmE ((l.length+1) / 2);obtain ⟨u,hu,hul,_⟩:=M7 (Fl a) k (l.take ((l.length+1) / 2)) k1 k3;obtain ⟨v,hv,hvl,_⟩:=M7 (Fl a) k (l.drop ((l.length+1) / 2)) k2 k4;have g1:=Da (Fl a) _ (l.take ((l.length+1) / 2)) (Ql _);have g2:=Da (Fl a) _ (l.drop ((l.length+1) / 2)) (Ql _);have hlt:(l.take ((l.length+1) / 2)).length+(l.drop ((l.length+1) / 2)).length=l.length:=by rw [Qr,Q9]; omega
     have c1:=ih (l.take ((l.length+1) / 2)) ms k1 (by omega) (by omega) λp hp=>hl p (Qo hp)
     have c2:=ih (l.drop ((l.length+1) / 2)) (ms++(Bm (Fl a) (l.take ((l.length+1) / 2))).2) k2 (by omega) (by rw [Qu]; omega) λp hp=>hl p (Q0 hp)
     have hpl:=Ol (Fl a) hs hu hv;rw [hpl];rw [hu] at c1;rw [hv] at c2;generalize (Bm (Fl a) (l.take ((l.length+1) / 2))).2=G1 at *;generalize (Bm (Fl a) (l.drop ((l.length+1) / 2))).2=G2 at *;have hsu:=hl u (Qo hul);have hsv:=hl v (Q0 hvl);have cb:=Qmj (t:=a) hsu hsv ha;have htd:((l.length:Int)+1).tdiv 2=(((l.length+1) / 2:Nat):Int):=rfl;have hg:∀ m,I6 (ms++(G1++G2++[m]))=I6 ((ms++G1)++G2)++[Qcn m]:=λm=>by simp [I6]
     have hml:(I6 ((ms++G1)++G2)).length=ms.length+G1.length+G2.length:=by simp [I6]; omega
     have hml2:(I6 (ms++(G1++G2))).length=ms.length+G1.length+G2.length:=by simp [I6]; omega
     have h5:=eq_true (p:=∀ z,z∈Uv l->z.length=ti38.sz) (YT l);have e1:(Uv l).take ((l.length+1) / 2)=Uv (l.take ((l.length+1) / 2)):=by simp [Uv,Jt]
     have e2:(Uv l).drop ((l.length+1) / 2)=Uv (l.drop ((l.length+1) / 2)):=by simp [Uv,Vh]
     unfold PK;refine Fw func162 rfl ?_;by_cases hb:Bs (Fl a) u v=true
     ·rw [if_pos hb,hg];exact Ug [] [0,1] [.f (by simp [hcl]; omega),.r 17 (eI (b:=(((l.length+1) / 2:Nat):Int)) (by rw [hcl]; rfl)),.i ((l.length+1) / 2),.r 22 (Qn8 e1),.c [0,1] c1,.i ((l.length+1) / 2),.r 28 (Qn8 e2),.c [0,1] c2,.x (i:=0) (l:=Uv [u]) (xs:=U5 u) rfl,.x (i:=0) (l:=Uv [v]) (xs:=U5 v) rfl,.k cb,.f (by rw [hb]; rfl),.x (i:=0) (l:=Uv [u]) (xs:=U5 u) rfl,.x (i:=0) (l:=Uv [v]) (xs:=U5 v) rfl,.s (sz:=10) (l:=[Qcn (u,v)]) (λc hc=>by rw [Qk.1 hc]; rfl),.i 1] rfl (by simp [Uw,Gu,hml2,h5]; omega)
     ·have hb:Bs (Fl a) u v=false:=by simpa using hb
      rw [if_neg (by simp [hb]),hg];exact Ug [] [0,1] [.f (by simp [hcl]; omega),.r 17 (eI (b:=(((l.length+1) / 2:Nat):Int)) (by rw [hcl]; rfl)),.i ((l.length+1) / 2),.r 22 (Qn8 e1),.c [0,1] c1,.i ((l.length+1) / 2),.r 28 (Qn8 e2),.c [0,1] c2,.x (i:=0) (l:=Uv [u]) (xs:=U5 u) rfl,.x (i:=0) (l:=Uv [v]) (xs:=U5 v) rfl,.k cb,.t (by rw [hb]; rfl),.x (i:=0) (l:=Uv [v]) (xs:=U5 v) rfl,.x (i:=0) (l:=Uv [u]) (xs:=U5 u) rfl,.s (sz:=10) (l:=[Qcn (v,u)]) (λc hc=>by rw [Qk.1 hc]; rfl),.i 1] rfl (by simp [Uw,Gu,hml2,h5]; omega)
theorem IF {l:List Pt} {a:Tm} {c:Cr} {r1:Ur×Ur} (hl:∀ p∈l,Sc p.c) (hn:l.length≤1000) (ha:Va a):Uz prog 128 [.one (.ow 0 0),.agg (ta a)] [.blk 199 (To c (Uv l) r1)] [.one (.row (Fg (PZ l a)))] [.blk 199 (To c (Uv l) (pT l a))]:=by
 have cp:=Qe7 (r0:=Uv l) (c:=c) (r1:=r1.1) ha l.length l [] (Ql _) hn (by show 0+l.length≤1000000; omega) hl;have hms:=Da (Fl a) l.length l (Ql _);unfold PZ pT;obtain ⟨M,hM⟩:=nmE ((Bm (Fl a) l).2);have hmm:∀ m∈M,Sc m.1.c/\Sc m.2.c:=λm hm=>by
  rw [hM] at hm;exact ⟨hl _ (XL m hm).1,hl _ (XL m hm).2⟩
 rw [<-hM] at cp hms ⊢;rw [Yh] at cp;have hgl:(I6 M).length=M.length:=by simp [I6]
 refine Fw func128 rfl ?_;refine Uc [] rfl ?_;refine oz 0 14 252 10 rfl rfl ?_;refine Uc [.k Ii,.c [0,2] cp,.o 5 136 7] rfl ?_;refine Uh (S:=Nat) 4 (λL1 i=>(29,.v (.oi i))::(5,.v (.one (.orow 3 7 none)))::L1) (λi=>[.blk 199 [.bool true,pl c.now.p,sg c.now.lo.num,mg c.now.lo.num,sg (c.now.lo.den:Int),mg (c.now.lo.den:Int),sg c.now.hi.num,mg c.now.hi.num,sg (c.now.hi.den:Int),mg (c.now.hi.den:Int),.row (Co c.l),.int .i64 c.ev,.row (Uv l),.row (Uv (Bm (Fl a) l).1),.orow 2 10 none],.blk 189 (ta a),.row false 252 10 (I6 M),.row false 136 7 (Fg ((M.map λm=>Dm (Fl a) m.1 m.2).take i))]) (λi=>M.length-i) (λi=>i<=M.length) 0 (Qh _) rfl rfl λi hi=>?_
 by_cases hlt:i<M.length
 ·obtain ⟨m,hm⟩:=gxE (l:=M) (i:=i) hlt;obtain ⟨s1,s2⟩:=hmm m (Qa hm);have hg:(I6 M)[i]? = some (Qcn m):=G7 hm;have hq:∀ y∈[Lm (Dm (Fl a) m.1 m.2)],y.length=7:=λy hy=>by rw [Qk.1 hy]; rfl
  have ht:(M.map λm=>Dm (Fl a) m.1 m.2).take (i+1)=(M.map λm=>Dm (Fl a) m.1 m.2).take i++[Dm (Fl a) m.1 m.2]:=by
   rw [Z3,Zb,hm]; rfl
  refine go tt [.T,.i i,.x hg,.i 0,.i 1,.k (Qmu s1 s2 ha),.s (sz:=7) hq] rfl (by simp [Uw,hgl,Nk]; omega) ?_;exact rd (i+1) (by omega) hlt (by rw [ht]; simp [Fg]; rfl)
 ·obtain rfl:i=M.length:=by omega
  rw [Qn (by simp)];exact Ug [2,3] [0] [.F] rfl
def Qxb (l:List Pt) (a:Tm):Cr:=⟨a,(Fp (PZ l a)).map fresh,0⟩
theorem Qm9 {t:Rat} {l:List Pt} {K:Nat} {c c':Cr} {r1 r1':Ur×Ur} {n:Int} (ht:Qs 1640000 t) (hl:∀ p∈l,Sc p.c) (hn:l.length≤1000) (hc:CrOk c) (hev:0≤c.ev/\c.ev+K≤1000000000000000000) (h:Ff c.now t≤0) (hg:WS (PZ l) (pT l) t K c r1 0=some (c',r1',n)) :
 Uz prog 388 [.one (.ow 0 0),.agg (rl t)] [.blk 199 (To c (Uv l) r1)] [.oi n,.oi 0] [.blk 199 (To c' (Uv l) r1')]:=by
 have cg:=Qxt (T:=199) (r0:=Uv l) ht (pY hl hn) (λa c r1 ha _=>IF (c:=c) (r1:=r1) hl hn ha) hc hev h hg;refine Fw func388 rfl ?_;exact Ug [] [0] [.k (Bu (ht.mono (by decide))),.c [0] cg] rfl
theorem Qnb {c:Cr} {r0 r2:Ur} {w:Pt}:Uz prog 66 [.one (.ow 0 0)] [.blk 199 (To c r0 ([U5 w],r2))] [.oi w.id,.one (.bool true)] [.blk 199 (To c r0 ([U5 w],r2))]:=by
 refine Fw func66 rfl ?_;exact Ug [] [0] [.f rfl,.x (i:=0) (xs:=U5 w) rfl] rfl
theorem Qfb {c:Cr} {r0 r2:Ur}:Uz prog 66 [.one (.ow 0 0)] [.blk 199 (To c r0 ([],r2))] [.oi 0,.one (.bool false)] [.blk 199 (To c r0 ([],r2))]:=by
 refine Fw func66 rfl ?_;exact Ug [] [0] [.t rfl] rfl
end Orr
namespace Orr
open Go Go.Proofs Tryz
set_option maxRecDepth 10000
theorem UK (x:Nat):(Bl (Ge x)).length=(Ge x).length:=Tn _
theorem Qco (z:Int):∀ c∈[[LV.int .i64 z]],c.length=1:=λc hc=>by rw [Qk.1 hc]; rfl
theorem Qx2 {x:Nat} (h:x<=1000000000):(Ge x).length<=3:=Qbu (by omega)
theorem tdn (n:Nat):((n:Nat):Int).tdiv 10000=((n / 10000:Nat):Int):=rfl
theorem WU (n:Nat):((n:Nat):Int).tdiv 2=((n / 2:Nat):Int):=rfl
theorem wN {x mu c0:Nat} (hx:sz x<=100000000) (hmu:mu<=65536) (hc:c0<=1000000000):Ui 119 [.one (nd x),.oi mu,.oi c0] [.one (nd (x*mu+c0))]:=by
 have hxl:=Qc (Mj x) hx;have hll:=UK x;show Ui 119 [.one (.row (Bl (Ge x))),.oi mu,.oi c0] _;refine Fw func119 rfl ?_;refine Ud [.r 11 (eI (b:=(((Ge x).length+2:Nat):Int)) (by rw [hll]; omega)),.i 0,.i ((Ge x).length+2)] rfl ?_;refine Uh (S:=Nat×Nat×Un) 1 (λL1 s=>(8,.v (.oi (s.1:Int)))::(7,.v (.one (.orow 0 1 none)))::(2,.v (.oi (s.2.1:Int)))::L1.filter (λx=>x.1 != 12)) (λs=>[.row false 3 1 (Bl s.2.2)]) (λs=>((Ge x).length-s.1)*4+(Ge s.2.1).length) (λs=>Dg s.2.2/\s.2.2.length=s.1/\Rx s.2.2+s.2.1*10000^s.1=Rx ((Ge x).take s.1)*mu+c0/\(s.1<=(Ge x).length\/s.1+(Ge s.2.1).length<=(Ge x).length+3)/\s.2.1<=1000000000) (0,c0,[]) ⟨Dg.nil,rfl,by simp [Rx],.inl (Qh _),hc⟩ rfl rfl λs hs=>?_
 obtain ⟨i,c,o⟩:=s;obtain ⟨hp0,hp1,hp2,hp3,hp4⟩:=hs;dsimp only at hp0 hp1 hp2 hp3 hp4 ⊢;have hcl:=Qx2 (x:=c) hp4;by_cases h1:i<(Ge x).length
 ·obtain ⟨d,hd⟩:=gxE (l:=(Ge x)) (i:=i) h1;have hd9:=Bw x d (Qa hd);have hdm:d*mu<=9999*65536:=Za (by omega) hmu;have hc3:=Qx2 (x:=(c+d*mu) / 10000) (by omega);have hol:(Bl o).length=i:=by rw [Tn,hp1]
  refine go tt [.g 17 true Uk,.t rfl,.T,.x (Gq hd),.r 33 (eI (b:=((d*mu:Nat):Int)) (by simp)),.r 34 (eI (b:=((c+d*mu:Nat):Int)) (by omega)),.r 37 (eI (b:=(((c+d*mu) % 10000:Nat):Int)) (by rfl)),.s (sz:=1) (Qco _),.r 41 (eI (b:=(((c+d*mu) / 10000:Nat):Int)) (by rfl))] rfl (by simp [Uw,hol,tdn,WU,-Int.natCast_add,-Int.natCast_mul]; omega) ?_;exact rd (i+1,(c+d*mu) / 10000,o++[(c+d*mu) % 10000]) (by dsimp only; omega) ⟨hp0.snoc (Nat.mod_lt _ (by decide)),by dsimp only; rw [List.length_append]; show o.length+1=_; omega,by
   dsimp only;rw [S9,Tj hd,hp1,Nat.pow_succ]; simp only [Rx,Nat.mul_zero,Nat.add_zero]; have:=IC (d:=d) (m:=mu) rfl hp2; rw [this]; grind,.inl (by dsimp only; omega),by dsimp only; omega⟩ (by rw [A8]; rfl)
 ·by_cases h2:0<c
  ·have hdc:=A6 (x:=c) (by omega);have hol:(Bl o).length=i:=by rw [Tn,hp1]
   refine go tt [.g 17 false Uj,.T,.F,.r 37 (eI (b:=((c % 10000:Nat):Int)) (by rfl)),.s (sz:=1) (Qco _),.r 41 (eI (b:=((c / 10000:Nat):Int)) (by rfl))] rfl (by simp [Uw,hol,tdn,WU,-Int.natCast_add]; omega) ?_;exact rd (i+1,c / 10000,o++[c % 10000]) (by dsimp only; omega) ⟨hp0.snoc (Nat.mod_lt _ (by decide)),by dsimp only; rw [List.length_append]; show o.length+1=_; omega,by
    dsimp only;rw [S9,hp1,Nat.pow_succ]; simp only [Rx,Nat.mul_zero,Nat.add_zero]; have:=IC (d:=0) (m:=mu) rfl hp2; simp only [Nat.zero_mul,Nat.mul_zero,Nat.add_zero] at this; rw [this,List.take_of_length_le (by omega),List.take_of_length_le (by omega)],.inr (by dsimp only; omega),by dsimp only; omega⟩ (by rw [A8]; rfl)
  ·have cc:=HW hp0;rw [show Rx o=x*mu+c0 from by
    have h:=hp2; rw [Qn (by omega),H6,show c=0 by omega] at h; omega] at cc
   exact Ue [.g 17 false Uj,.F,.k cc] rfl
theorem pM {x y:Nat} (hx:sz x<=200000000) (hy:sz y<=200000000):Ui 122 [.one (nd x),.one (nd y)] [.oi (ZV x y)]:=by
 have hxl:=Qc (Mj x) hx;have hyl:=Qc (Mj y) hy;have lx:=UK x;have ly:=UK y;show Ui 122 [.one (.row (Bl (Ge x))),.one (.row (Bl (Ge y)))] _;refine Fw func122 rfl ?_;by_cases hl:(Ge x).length=(Ge y).length
 ·refine Ud [.f (by simp; omega),.r 18 (eI (b:=((Ge x).length:Int)-1) (by rw [lx]))] rfl ?_;refine Uh (S:=Nat) 0 (λL1 j=>(5,.v (.oi ((j:Int)-1)))::L1) (λ_=>[]) (λj=>j) (λj=>j<=(Ge x).length/\(Ge x).drop j=(Ge y).drop j) (Ge x).length ⟨Ql _,by rw [Yt (Ql _),Yt (by omega)]⟩ rfl rfl λj hs=>?_
  obtain ⟨hj,hp⟩:=hs;cases j with
  |
   zero =>
   have hxy:x=y:=by rw [X9,X9] at hp; rw [<-H6 x,<-H6 y,hp]
   exact Ue [.f (by simp)] rfl (by rw [eK hxy]) trivial
  |
   succ j =>
   obtain ⟨d,hd⟩:=gxE (l:=(Ge x)) (i:=j) (by omega);obtain ⟨e,he⟩:=gxE (l:=(Ge y)) (i:=j) (by omega);have ej:((j+1:Nat):Int)-1=(j:Int):=by omega
   rw [ej];by_cases h2:d=e
   ·refine Ud [.T,.x (Gq hd),.x (Gq he),.f (by simp [h2])] rfl ?_;exact rd j (by omega) ⟨by omega,by rw [Zu (by omega:j<(Ge x).length),Zu (by omega:j<(Ge y).length),hp,(Qf.1 hd).2,(Qf.1 he).2,h2]⟩ rfl
   ·by_cases h3:d<e
    ·have hxy:=CQ (Bw x) hd he hp h3;rw [H6,H6] at hxy;exact Ue [.T,.x (Gq hd),.x (Gq he),.t (by simp; omega),.x (Gq hd),.x (Gq he),.T] rfl (by rw [MZ hxy]) trivial
    ·have hxy:=CQ (Bw y) he hd hp.symm (by omega);rw [H6,H6] at hxy;exact Ue [.T,.x (Gq hd),.x (Gq he),.t (by simp; omega),.x (Gq hd),.x (Gq he),.F] rfl (by rw [MQ hxy]) trivial
 ·by_cases hlt:(Ge x).length<(Ge y).length
  ·exact Ue [.t (by simp; omega),.T] rfl (by rw [MZ (uG hlt)]) trivial
  ·exact Ue [.t (by simp; omega),.F] rfl (by rw [MQ (uG (by omega))]) trivial
theorem JA {o c s P V:Nat} (h:o+c*P=V):o+P*((c+s) % 10000)+(c+s) / 10000*(P*10000)=V+P*s:=by
 have e:=Xg (c+s) 10000;generalize (c+s) / 10000=q at *;generalize (c+s) % 10000=r at *;have e2:P*(c+s)=P*(10000*q+r):=by rw [e]
 grind
theorem I0 {l:Un} {i:Nat} (h:l.length<=i):Rx (l.take (i+1))=Rx (l.take i):=by rw [Qn (by omega),Qn h]
theorem eO {l:Un} {p v u:Nat} (h:l[p]? = some v):Rx (l.set p u)+10000^p*v=Rx l+10000^p*u:=by
 have hp:=(Qf.1 h).1;rw [MV (l.set p u) p (by rw [Xf]; omega),MV l p (by omega),ZD h,HT hp,List.take_set_of_le (Ql _)];simp only [Rx];generalize 10000^p=P;grind
theorem A9 {l:Un} {p u:Nat} (h:p<l.length):Rx ((l.set p u).take (p+1))=Rx (l.take p)+10000^p*u:=by
 rw [Tj (l:=l.set p u) (i:=p) (x:=u) (by simp [h]),List.take_set_of_le (Ql _)]
structure AddI (x y:Nat) (s:Nat×Nat×List Nat):Prop where
 d:Dg s.2.2
 l:s.2.2.length=s.1
 v:Rx s.2.2+s.2.1*10000^s.1=Rx ((Ge x).take s.1)+Rx ((Ge y).take s.1)
 c:s.2.1<=1
 b:s.1<=max (Ge x).length (Ge y).length\/s.1=max (Ge x).length (Ge y).length+1/\10000^(max (Ge x).length (Ge y).length)<=x+y/\s.2.1=0
theorem Qs6 {x y:Nat} (hx:sz x<=200000000) (hy:sz y<=200000000):Ui 121 [.one (nd x),.one (nd y)] [.one (nd (x+y))]:=by
 have hxl:=Qc (Mj x) hx;have hyl:=Qc (Mj y) hy;have lx:=UK x;have ly:=UK y;show Ui 121 [.one (.row (Bl (Ge x))),.one (.row (Bl (Ge y)))] _;refine Fw func121 rfl ?_;refine Uc [.o 5 3 1] rfl ?_;refine Uh (S:=Nat×Nat×Un) 1 (λL1 s=>(7,.v (.oi (s.1:Int)))::(6,.v (.oi (s.2.1:Int)))::(5,.v (.one (.orow 0 1 none)))::L1) (λs=>[.row false 3 1 (Bl s.2.2)]) (λs=>(max (Ge x).length (Ge y).length-s.1)*2+s.2.1) (AddI x y) (0,0,[]) ⟨Dg.nil,rfl,by simp [Rx],by decide,.inl (Qh _)⟩ rfl rfl λs hs=>?_
 obtain ⟨i,c,o⟩:=s;obtain ⟨hp0,hp1,hp2,hp3,hp4⟩:=hs;dsimp only at hp0 hp1 hp2 hp3 hp4 ⊢;have hol:(Bl o).length=i:=by rw [Tn,hp1]
 by_cases h1:i<(Ge x).length
 ·obtain ⟨d,hd⟩:=gxE (l:=(Ge x)) (i:=i) h1;have hd9:=Bw x d (Qa hd);by_cases h2:i<(Ge y).length
  ·obtain ⟨e,he⟩:=gxE (l:=(Ge y)) (i:=i) h2;have he9:=Bw y e (Qa he);refine go tt [.g 12 true Uk,.g 18 true rfl,.t rfl,.T,.x (Gq hd),.r 33 (eI (b:=((c+d:Nat):Int)) (by omega)),.T,.x (Gq he),.r 43 (eI (b:=((c+(d+e):Nat):Int)) (by omega)),.r 46 (eI (b:=(((c+(d+e)) % 10000:Nat):Int)) (by rfl)),.s (sz:=1) (Qco _),.r 50 (eI (b:=(((c+(d+e)) / 10000:Nat):Int)) (by rfl))] rfl (by simp [Uw,hol,tdn,WU,-Int.natCast_add]; omega) ?_;exact rd (i+1,(c+(d+e)) / 10000,o++[(c+(d+e)) % 10000]) (by dsimp only; omega) ⟨hp0.snoc (Nat.mod_lt _ (by decide)),by dsimp only; rw [List.length_append]; show o.length+1=_; omega,by
    dsimp only;rw [S9,hp1,Nat.pow_succ]; simp only [Rx,Nat.mul_zero,Nat.add_zero]; have:=JA (s:=d+e) hp2; rw [this,Tj hd,Tj he]; grind,by dsimp only; omega,.inl (by dsimp only; omega)⟩ (by rw [A8]; rfl)
  ·refine go tt [.g 12 true Uk,.g 18 true rfl,.t rfl,.T,.x (Gq hd),.r 33 (eI (b:=((c+d:Nat):Int)) (by omega)),.F,.r 46 (eI (b:=(((c+d) % 10000:Nat):Int)) (by rfl)),.s (sz:=1) (Qco _),.r 50 (eI (b:=(((c+d) / 10000:Nat):Int)) (by rfl))] rfl (by simp [Uw,hol,tdn,WU,-Int.natCast_add]; omega) ?_;exact rd (i+1,(c+d) / 10000,o++[(c+d) % 10000]) (by dsimp only; omega) ⟨hp0.snoc (Nat.mod_lt _ (by decide)),by dsimp only; rw [List.length_append]; show o.length+1=_; omega,by
    dsimp only;rw [S9,hp1,Nat.pow_succ]; simp only [Rx,Nat.mul_zero,Nat.add_zero]; have:=JA (s:=d) hp2; rw [this,Tj hd,I0 (l:=Ge y) (by omega)]; grind,by dsimp only; omega,.inl (by dsimp only; omega)⟩ (by rw [A8]; rfl)
 ·by_cases h2:i<(Ge y).length
  ·obtain ⟨e,he⟩:=gxE (l:=(Ge y)) (i:=i) h2;have he9:=Bw y e (Qa he);refine go tt [.g 12 false Uj,.g 18 true Uk,.t rfl,.F,.T,.x (Gq he),.r 43 (eI (b:=((c+e:Nat):Int)) (by omega)),.r 46 (eI (b:=(((c+e) % 10000:Nat):Int)) (by rfl)),.s (sz:=1) (Qco _),.r 50 (eI (b:=(((c+e) / 10000:Nat):Int)) (by rfl))] rfl (by simp [Uw,hol,tdn,WU,-Int.natCast_add]; omega) ?_;exact rd (i+1,(c+e) / 10000,o++[(c+e) % 10000]) (by dsimp only; omega) ⟨hp0.snoc (Nat.mod_lt _ (by decide)),by dsimp only; rw [List.length_append]; show o.length+1=_; omega,by
    dsimp only;rw [S9,hp1,Nat.pow_succ]; simp only [Rx,Nat.mul_zero,Nat.add_zero]; have:=JA (s:=e) hp2; rw [this,Tj he,I0 (l:=Ge x) (by omega)]; grind,by dsimp only; omega,.inl (by dsimp only; omega)⟩ (by rw [A8]; rfl)
  ·by_cases h3:0<c
   ·refine go tt [.g 12 false Uj,.g 18 false Uj,.T,.F,.F,.r 46 (eI (b:=((c % 10000:Nat):Int)) (by rfl)),.s (sz:=1) (Qco _),.r 50 (eI (b:=((c / 10000:Nat):Int)) (by rfl))] rfl (by simp [Uw,hol,tdn,WU,-Int.natCast_add]; omega) ?_;exact rd (i+1,c / 10000,o++[c % 10000]) (by dsimp only; omega) ⟨hp0.snoc (Nat.mod_lt _ (by decide)),by dsimp only; rw [List.length_append]; show o.length+1=_; omega,by
     dsimp only;rw [S9,hp1,Nat.pow_succ]; simp only [Rx,Nat.mul_zero,Nat.add_zero]; have:=JA (s:=0) hp2; rw [Nat.add_zero,Nat.mul_zero,Nat.add_zero] at this; rw [this,I0 (l:=Ge y) (by omega),I0 (l:=Ge x) (by omega)],by dsimp only; omega,.inr ⟨by dsimp only; omega,by
      have h:=hp2; rw [List.take_of_length_le (by omega),List.take_of_length_le (by omega),H6,H6,show c=1 by omega,Nat.one_mul,show i=(max (Ge x).length (Ge y).length) by omega] at h; omega,by dsimp only; omega⟩⟩ (by rw [A8]; rfl)
   ·have hv:Rx o=x+y:=by
     have h:=hp2;rw [Qn (by omega),Qn (by omega),H6,H6,show c=0 by omega] at h;omega
    have hfin:o=Ge (x+y):=by
     have h:=Qgh (o:=o) hp0;rw [hv] at h;refine h ?_;have m1:=ZN (x:=x) (y:=x+y) (by omega);have m2:=ZN (x:=y) (y:=x+y) (by omega);rcases hp4 with hb | ⟨_,hb,_⟩
     ·omega
     ·have:=Qbt hb; omega
    exact Ue [.g 12 false Uj,.g 18 false Uj,.F] rfl (by rw [hfin]; rfl) trivial
theorem YQ {o b a c P u d e c':Nat} (h:o+b=a+c*P) (hs:u+e+c=d+10000*c'):(o+P*u)+(b+P*e)=(a+P*d)+c'*(P*10000):=by
 have e2:P*(u+e+c)=P*(d+10000*c'):=by rw [hs]
 grind
theorem QK (o:Un) (i u:Nat):Bl (o.set i u)=(Bl o).set i [.int .i64 (u:Int)]:=by simp [Bl,Vw]
theorem pL {x y:Nat} (hx:sz x<=200000000) (hy:sz y<=200000000) (hyx:y<=x):Ui 123 [.one (nd x),.one (nd y)] [.one (nd (x-y))]:=by
 have hxl:=Qc (Mj x) hx;have hyl:=Qc (Mj y) hy;have lx:=UK x;have ly:=UK y;have hmy:=ZN hyx;show Ui 123 [.one (.row (Bl (Ge x))),.one (.row (Bl (Ge y)))] _;refine Fw func123 rfl ?_;refine Ud [.i (Bl (Ge x)).length,.i (Bl (Ge x)).length] rfl ?_;rw [lx,show List.replicate (Ge x).length [LV.int .i64 0]=Bl (List.replicate (Ge x).length 0) from by simp [Bl]];refine Uh (S:=Nat×Nat×Un) 1 (λL1 s=>(14,.v (.oi (s.1:Int)))::(6,.v (.oi (s.2.1:Int)))::L1) (λs=>[.row false 3 1 (Bl s.2.2)]) (λs=>(Ge x).length-s.1) (λs=>s.1<=(Ge x).length/\s.2.2.length=(Ge x).length/\Dg s.2.2/\Rx (s.2.2.take s.1)+Rx ((Ge y).take s.1)=Rx ((Ge x).take s.1)+s.2.1*10000^s.1/\s.2.1<=1) (0,0,List.replicate (Ge x).length 0) ⟨Qh _,Jg ..,Dg.zeros _,by simp [Rx],Qh _⟩ rfl rfl λs hs=>?_
 obtain ⟨i,c,o⟩:=s;obtain ⟨hp0,hp1,hp2,hp3,hp4⟩:=hs;dsimp only at hp0 hp1 hp2 hp3 hp4 ⊢;have hol:(Bl o).length=(Ge x).length:=by rw [Tn,hp1]
 by_cases h1:i<(Ge x).length
 ·obtain ⟨d,hd⟩:=gxE (l:=(Ge x)) (i:=i) h1;have hd9:=Bw x d (Qa hd);by_cases h2:i<(Ge y).length
  ·obtain ⟨e,he⟩:=gxE (l:=(Ge y)) (i:=i) h2;have he9:=Bw y e (Qa he);by_cases h3:d<c+e
   ·refine go tt [.T,.x (Gq hd),.T,.x (Gq he),.T,.r 36 (eI (b:=((d+10000-c-e:Nat):Int)) (by omega)),.i i] rfl (by simp [Uw,hol,tdn,WU,-Int.natCast_add]; omega) ?_;exact rd (i+1,1,o.set i (d+10000-c-e)) (by dsimp only; omega) ⟨by dsimp only; omega,by dsimp only; rw [List.length_set]; exact hp1,hp2.set (by omega),by
     dsimp only;rw [A9 (by omega),Tj hd,Tj he,Nat.pow_succ]; exact YQ hp3 (u:=d+10000-c-e) (d:=d) (e:=e) (c':=1) (by omega),by dsimp only; omega⟩ (by rw [QK]; rfl)
   ·refine go tt [.T,.x (Gq hd),.T,.x (Gq he),.r 32 (eI (b:=((d-c-e:Nat):Int)) (by omega)),.F,.i i] rfl (by simp [Uw,hol,tdn,WU,-Int.natCast_add]; omega) ?_;exact rd (i+1,0,o.set i (d-c-e)) (by dsimp only; omega) ⟨by dsimp only; omega,by dsimp only; rw [List.length_set]; exact hp1,hp2.set (by omega),by
     dsimp only;rw [A9 (by omega),Tj hd,Tj he,Nat.pow_succ]; exact YQ hp3 (u:=d-c-e) (d:=d) (e:=e) (c':=0) (by omega),by dsimp only; omega⟩ (by rw [QK]; rfl)
  ·have hy0:Rx ((Ge y).take (i+1))=Rx ((Ge y).take i)+10000^i*0:=by rw [I0 (by omega),Yx,Xo]
   by_cases h3:d<c
   ·refine go tt [.T,.x (Gq hd),.F,.T,.r 36 (eI (b:=((d+10000-c:Nat):Int)) (by omega)),.i i] rfl (by simp [Uw,hol,tdn,WU,-Int.natCast_add]; omega) ?_;exact rd (i+1,1,o.set i (d+10000-c)) (by dsimp only; omega) ⟨by dsimp only; omega,by dsimp only; rw [List.length_set]; exact hp1,hp2.set (by omega),by
     dsimp only;rw [A9 (by omega),Tj hd,hy0,Nat.pow_succ]; exact YQ hp3 (u:=d+10000-c) (d:=d) (e:=0) (c':=1) (by omega),by dsimp only; omega⟩ (by rw [QK]; rfl)
   ·refine go tt [.T,.x (Gq hd),.r 22 (eI (b:=((d-c:Nat):Int)) (by omega)),.F,.F,.i i] rfl (by simp [Uw,hol,tdn,WU,-Int.natCast_add]; omega) ?_;exact rd (i+1,0,o.set i (d-c)) (by dsimp only; omega) ⟨by dsimp only; omega,by dsimp only; rw [List.length_set]; exact hp1,hp2.set (by omega),by
     dsimp only;rw [A9 (by omega),Tj hd,hy0,Nat.pow_succ]; exact YQ hp3 (u:=d-c) (d:=d) (e:=0) (c':=0) (by omega),by dsimp only; omega⟩ (by rw [QK]; rfl)
 ·have hi:i=(Ge x).length:=by omega
  have hv:Rx o=x-y:=by
   have h:=hp3;rw [Qn (by omega),Qn (by omega),Qn (by omega),H6,H6] at h;have hlt:=CV hp2;rw [hp1,<-hi] at hlt;have hc0:c=0:=by
    rcases Q3 c with h0 | h0
    ·exact h0
    ·exfalso;have:c=1:=by omega
     rw [this,Kt] at h; omega
   rw [hc0] at h; omega
  have cc:=HW hp2;rw [hv] at cc;exact Ue [.F,.k cc] rfl
theorem CJ {o o2 c P u v s V:Nat} (h:o+c*P=V) (hs:o2+P*v=o+P*u) {q:Nat} (hu:u+10000*q=v+c+s):o2+q*(P*10000)=V+P*s:=by
 have e2:P*(u+10000*q)=P*(v+c+s):=by rw [hu]
 grind
theorem Qx3 (S:Nat):S % 10000+10000*(S / 10000)=S:=W7 S 10000
structure MulI (x y i d:Nat) (s:Nat×Nat×List Nat):Prop where
 l:s.2.2.length=(Ge x).length+(Ge y).length
 dg:Dg s.2.2
 v:Rx s.2.2+s.2.1*10000^(i+s.1)=Rx ((Ge x).take i)*y+10000^i*d*Rx ((Ge y).take s.1)
 c:s.2.1<10000
 b:s.1<=(Ge y).length/\(∀ j v,i+(Ge y).length<=j->s.2.2[j]? = some v->v=0)\/s.1=(Ge y).length+1/\s.2.1=0/\∀ j v,i+(Ge y).length+1<=j->s.2.2[j]? = some v->v=0
theorem Qth {x y:Nat} (hx:sz x<=200000000) (hy:sz y<=200000000):Ui 113 [.one (nd x),.one (nd y)] [.one (nd (x*y))]:=by
 have hxl:=Qc (Mj x) hx;have hyl:=Qc (Mj y) hy;have lx:=UK x;have ly:=UK y;show Ui 113 [.one (.row (Bl (Ge x))),.one (.row (Bl (Ge y)))] _;refine Fw func113 rfl ?_;refine Ud [.r 14 (eI (b:=(((Ge x).length+(Ge y).length:Nat):Int)) (by rw [lx,ly]; omega)),.i ((Ge x).length+(Ge y).length),.i ((Ge x).length+(Ge y).length)] rfl ?_;rw [show List.replicate ((Ge x).length+(Ge y).length) [LV.int .i64 0]=Bl (List.replicate ((Ge x).length+(Ge y).length) 0) from by simp [Bl]];refine Uh (S:=Nat×Un) 1 (λL1 s=>(18,.v (.oi (s.1:Int)))::L1) (λs=>[.row false 3 1 (Bl s.2)]) (λs=>(Ge x).length-s.1) (λs=>s.1<=(Ge x).length/\s.2.length=(Ge x).length+(Ge y).length/\Dg s.2/\Rx s.2=Rx ((Ge x).take s.1)*y/\∀ j v,s.1+(Ge y).length<=j->s.2[j]? = some v->v=0) (0,List.replicate ((Ge x).length+(Ge y).length) 0) ⟨Qh _,Jg ..,Dg.zeros _,by rw [CW (λx hx=>Zw hx)]; simp [Rx],λj v _ hv=>Zw (Qa hv)⟩ rfl rfl λs hs=>?_
 obtain ⟨i,o⟩:=s;obtain ⟨hp0,hp1,hp2,hp3,hp4⟩:=hs;dsimp only at hp0 hp1 hp2 hp3 hp4 ⊢;by_cases h1:i<(Ge x).length
 ·obtain ⟨d,hd⟩:=gxE (l:=(Ge x)) (i:=i) h1;have hd9:=Bw x d (Qa hd);refine Uc [.T] rfl ?_;refine Uh (S:=Nat×Nat×Un) 1 (λL1 s=>(8,.v (.oi (s.1:Int)))::(7,.v (.oi (s.2.1:Int)))::L1) (λs=>[.row false 3 1 (Bl s.2.2)]) (λs=>((Ge y).length-s.1)*2+min s.2.1 1) (MulI x y i d) (0,0,o) ⟨hp1,hp2,by dsimp only; rw [hp3]; simp [Rx],by show 0<10000; decide,.inl ⟨Nat.zero_le _,hp4⟩⟩ rfl rfl λs hs=>?_
  obtain ⟨k,c,o2⟩:=s;obtain ⟨hq0,hq1,hq2,hq3,hq4⟩:=hs;dsimp only at hq0 hq1 hq2 hq3 hq4 ⊢;have hol:(Bl o2).length=(Ge x).length+(Ge y).length:=by rw [Tn,hq0]
  by_cases h2:k<(Ge y).length
  ·obtain ⟨e,he⟩:=gxE (l:=(Ge y)) (i:=k) h2;have he9:=Bw y e (Qa he);have hde:d*e<=9999*9999:=Za (by omega) (by omega);obtain ⟨v,hoi⟩:=gxE (l:=o2) (i:=i+k) (by omega);have hv9:=hq1 v (Qa hoi);refine go tt [.g 25 true Uk,.t rfl,.r 34 (eI (b:=((i+k:Nat):Int)) (by omega)),.i (i+k),.x (Gq hoi),.r 38 (eI (b:=((v+c:Nat):Int)) (by omega)),.T,.x (Gq hd),.x (Gq he),.r 52 (eI (b:=((d*e:Nat):Int)) (by simp)),.r 53 (eI (b:=((v+c+d*e:Nat):Int)) (by omega)),.r 57 (eI (b:=((i+k:Nat):Int)) (by omega)),.r 59 (eI (b:=(((v+c+d*e) % 10000:Nat):Int)) (by rfl)),.i (i+k),.r 62 (eI (b:=(((v+c+d*e) / 10000:Nat):Int)) (by rfl))] rfl (by simp [Uw,hol,tdn,WU,-Int.natCast_add,-Int.natCast_mul]; omega) ?_;exact rd (k+1,(v+c+d*e) / 10000,o2.set (i+k) ((v+c+d*e) % 10000)) (by dsimp only; omega) ⟨by dsimp only; rw [List.length_set]; exact hq0,hq1.set (Nat.mod_lt _ (by decide)),by
    dsimp only;rw [<-Nat.add_assoc i k 1,Nat.pow_succ]; have:=CJ hq2 (eO hoi (u:=((v+c)+(d*e)) % 10000)) (s:=d*e) (q:=((v+c)+(d*e)) / 10000) (by rw [Qx3]); rw [this,Tj he,Nat.pow_add]; grind,by dsimp only; omega,.inl ⟨by dsimp only; omega,λj w hj hw=>(by
     dsimp only at hw;rcases hq4 with ⟨_,h⟩ | ⟨_,_,h⟩ <;> (rw [Ye (by omega)] at hw; exact h j w (by omega) hw))⟩⟩ (by rw [QK]; rfl)
  ·by_cases h3:0<c
   ·have hk:k=(Ge y).length:=by omega
    have hz:∀ j v,i+(Ge y).length<=j->o2[j]? = some v->v=0:=by
     rcases hq4 with ⟨_,h⟩ | ⟨_,h,_⟩
     ·exact h
     ·omega
    obtain ⟨v,hoi⟩:=gxE (l:=o2) (i:=i+k) (by omega);have hv0:v=0:=hz (i+k) v (by omega) hoi;have hv9:=hq1 v (Qa hoi);refine go tt [.g 25 false Uj,.T,.r 34 (eI (b:=((i+k:Nat):Int)) (by omega)),.i (i+k),.x (Gq hoi),.r 38 (eI (b:=((v+c:Nat):Int)) (by omega)),.F,.r 57 (eI (b:=((i+k:Nat):Int)) (by omega)),.r 59 (eI (b:=(((v+c) % 10000:Nat):Int)) (by rfl)),.i (i+k),.r 62 (eI (b:=(((v+c) / 10000:Nat):Int)) (by rfl))] rfl (by simp [Uw,hol,tdn,WU,-Int.natCast_add]; omega) ?_;exact rd (k+1,(v+c) / 10000,o2.set (i+k) ((v+c) % 10000)) (by dsimp only; omega) ⟨by dsimp only; rw [List.length_set]; exact hq0,hq1.set (Nat.mod_lt _ (by decide)),by
     dsimp only;rw [<-Nat.add_assoc i k 1,Nat.pow_succ]; have:=CJ hq2 (eO hoi (u:=(v+c) % 10000)) (s:=0) (q:=(v+c) / 10000) (by rw [Qx3]; rfl); rw [this,Nat.mul_zero,Nat.add_zero,I0 (by omega)],by dsimp only; omega,.inr ⟨by dsimp only; omega,by dsimp only; omega,λj w hj hw=>(by
      dsimp only at hw;rw [Ye (by omega)] at hw; exact hz j w (by omega) hw)⟩⟩ (by rw [QK]; rfl)
   ·refine Ud [.g 25 false Uj,.F] rfl ?_;exact rd (i+1,o2) (by dsimp only; omega) ⟨by dsimp only; omega,hq0,hq1,by
     dsimp only;rw [Tj hd,Xm]; have h:=hq2; rw [show c=0 by omega,Qn (l:=Ge y) (i:=k) (by omega),H6] at h; rw [Yj,Xo] at h; exact h,by
     dsimp only;rcases hq4 with ⟨_,h⟩ | ⟨_,_,h⟩
     ·exact λj w hj hw=>h j w (by omega) hw
     ·exact λj w hj hw=>h j w (by omega) hw⟩ rfl
 ·have hv:Rx o=x*y:=by rw [hp3,Qn (by omega),H6]
  have cc:=HW hp2;rw [hv] at cc;exact Ue [.F,.k cc] rfl
theorem eG {x y:Nat}:ZV x y<=0↔x<=y:=by
 unfold ZV;constructor
 ·intro h; split at h
  ·omega
  ·split at h <;> omega
 ·intro h; split
  ·omega
  ·split <;> omega
theorem Qbw {R y lo:Nat} (h1:y*lo<=R) (h2:R<y*(lo+1)):R / y=lo/\R % y=R-y*lo:=by
 have hy:0<y:=by
  rcases Q3 y with h | h
  ·subst h; simp at h2
  ·exact h
 have e:R / y=lo:=Nat.div_eq_of_lt_le (by rw [Zq]; exact h1) (by rw [Zq]; exact h2);refine ⟨e,?_⟩;have:=Xg R y;rw [e] at this; omega
theorem Qk0 {R y:Nat} (h:R<y*10000):sz R<=sz y+14:=by
 refine Be.2 (Z8 h ?_);have:=UI y;rw [Xh];have e:(2:Nat)^14=16384:=by decide
 rw [e]; exact Za (by omega) (by decide)
theorem Qda (y:Nat):sz (y*10000)<=sz y+14:=by
 refine Be.2 ?_;have:=UI y;rw [Xh];have e:(2:Nat)^14=16384:=by decide
 rw [e]; omega
theorem Qef {x y:Nat} (hx:sz x<=90000000) (hy:sz y<=90000000) (hy0:0<y):Ui 143 [.one (nd x),.one (nd y)] [.one (nd (x / y)),.one (nd (x % y))]:=by
 have hxl:=Qc (Mj x) hx;have hyl:=Qc (Mj y) hy;have lx:=UK x;show Ui 143 [.one (.row (Bl (Ge x))),.one (nd y)] _;refine Fw func143 rfl ?_;refine Ud [.i (Bl (Ge x)).length,.i (Bl (Ge x)).length,.z 7,.r 17 (eI (b:=((Ge x).length:Int)-1) (by rw [lx]))] rfl ?_;rw [lx,show List.replicate (Ge x).length [LV.int .i64 0]=Bl (List.replicate (Ge x).length 0) from by simp [Bl]];refine Uh (S:=Nat×Un×Un) 1 (λL1 s=>(8,.v (.oi ((s.1:Int)-1)))::(7,.v (.one (.row (Bl s.2.1))))::L1) (λs=>[.row false 3 1 (Bl s.2.2)]) (λs=>s.1) (λs=>s.1<=(Ge x).length/\s.2.2.length=(Ge x).length/\Dg s.2.2/\Rx (s.2.2.drop s.1)=Rx ((Ge x).drop s.1) / y/\s.2.1=Ge (Rx ((Ge x).drop s.1) % y)) ((Ge x).length,[],List.replicate (Ge x).length 0) ⟨Nat.le_refl _,List.length_replicate ..,Dg.zeros _,by dsimp only; rw [List.drop_eq_nil_of_le (by simp),List.drop_eq_nil_of_le (Nat.le_refl _)]; simp [Rx],by dsimp only; rw [List.drop_eq_nil_of_le (Nat.le_refl _)]; simp [Rx,Hw]⟩ rfl rfl λs hs=>?_
 obtain ⟨j,R,o⟩:=s;obtain ⟨hp0,hp1,hp2,hp3,hp4⟩:=hs;dsimp only at hp0 hp1 hp2 hp3 hp4 ⊢;cases j with
 |
  zero =>
  have cc:=HW hp2;rw [X9,X9,H6] at hp3;rw [X9,H6] at hp4;rw [hp3] at cc;exact Ue [.f (by simp),.k cc] rfl (by rw [hp4]; rfl) trivial
 |
  succ j =>
  obtain ⟨d,hd⟩:=gxE (l:=(Ge x)) (i:=j) (by omega);have hd9:=Bw x d (Qa hd);have hdd:=ZD hd;obtain ⟨hq1,hq2,hq3⟩:=uN (V:=Rx ((Ge x).drop (j+1))) (kd:=y) (d:=d) hy0;rw [<-hdd] at hq1 hq2;have hq3:=hq3 hd9;obtain ⟨rr,hrr0⟩:=nmE (Rx ((Ge x).drop (j+1)) % y);have hrr:rr<y:=by rw [hrr0]; exact Z7 _ hy0
  rw [<-hrr0] at hp4 hq1 hq2 hq3;subst hp4;have hrl:(Ge rr).length<=(Ge y).length:=ZN (by omega);have hR:rr*10000+d<y*10000:=by omega
  have hRs:=Qk0 hR;have hdv:Dg (d::Ge rr):=λz hz=>by
   rcases Qm.1 hz with rfl | hz
   ·exact hd9
   ·exact Bw rr z hz
  have cc:=HW hdv;rw [show Rx (d::Ge rr)=rr*10000+d from by simp only [Rx]; rw [H6]; omega] at cc;have hol:(Bl o).length=(Ge x).length:=by rw [Tn,hp1]
  have hrrl:=Tn (Ge rr);have ej:((j+1:Nat):Int)-1=(j:Int):=by omega
  rw [ej];refine go tt [.T,.x (Gq hd),.lo,.s (sz:=1) (Que (Ge rr)),.k cc] rfl (by simp [Uw,UK]; omega) ?_;refine Uh (S:=Nat×Nat) 2 (λL1 s=>(9,.v (.oi (s.1:Int)))::(10,.v (.oi (s.2:Int)))::L1) (λ_=>[.row false 3 1 (Bl o),.gone]) (λs=>s.2-s.1) (λs=>s.1<=s.2/\s.2<=9999/\y*s.1<=rr*10000+d/\rr*10000+d<y*(s.2+1)) (0,9999) ⟨by decide,by decide,by dsimp only; omega,by dsimp only; omega⟩ rfl rfl λs hs=>?_
  obtain ⟨lo,hi⟩:=s;obtain ⟨hb0,hb1,hb2,hb3⟩:=hs;dsimp only at hb0 hb1 hb2 hb3 ⊢;by_cases h2:lo<hi
  ·obtain ⟨m,hm⟩:=nmE ((lo+hi+1) / 2);have hym:y*m<=y*10000:=Zp y (by omega);have c1:=wN (x:=y) (mu:=m) (c0:=0) (by omega) (by omega) (by omega);have c2:=pM (x:=y*m+0) (y:=rr*10000+d) (Qc (Sw (show _<=y*10000 by omega)) (Qc (Qda y) (by omega))) (by omega);by_cases h3:y*m+0<=rr*10000+d
   ·refine go tt [.T,.r 35 (eI (b:=((lo+hi:Nat):Int)) (by omega)),.r 36 (eI (b:=((lo+hi+1:Nat):Int)) (by omega)),.r 37 (eI (b:=(m:Int)) (by rw [hm]; rfl)),.k c1,.k c2,.t (decide_eq_true (eG.2 h3))] rfl (by simp [Uw,WU,-Int.natCast_add]; omega) ?_;exact rd (m,hi) (by dsimp only; omega) ⟨by dsimp only; omega,hb1,by dsimp only; omega,hb3⟩ rfl
   ·refine go tt [.T,.r 35 (eI (b:=((lo+hi:Nat):Int)) (by omega)),.r 36 (eI (b:=((lo+hi+1:Nat):Int)) (by omega)),.r 37 (eI (b:=(m:Int)) (by rw [hm]; rfl)),.k c1,.k c2,.f (decide_eq_false λh=>h3 (eG.1 h)),.r 46 (eI (b:=((m-1:Nat):Int)) (by omega))] rfl (by simp [Uw,WU,-Int.natCast_add]; omega) ?_;exact rd (lo,m-1) (by dsimp only; omega) ⟨by dsimp only; omega,by dsimp only; omega,hb2,by dsimp only; rw [show m-1+1=m by omega]; omega⟩ rfl
  ·have hlh:lo=hi:=by omega
   have hfd:=Qbw hb2 (by rw [hlh]; exact hb3);have c1:=wN (x:=y) (mu:=lo) (c0:=0) (by omega) (by omega) (by omega);have c2:=pL (x:=rr*10000+d) (y:=y*lo+0) (by omega) (Qc (Sw (show _<=rr*10000+d by omega)) (by omega)) (by omega);rw [show rr*10000+d-(y*lo+0)=Rx ((Ge x).drop j) % y from by rw [hq2,hfd.2]; omega] at c2;refine go tt [.F,.i j,.k c1,.k c2] rfl (by simp [Uw,hol,tdn,WU,-Int.natCast_add]; omega) ?_;exact rd (j,Ge (Rx ((Ge x).drop j) % y),o.set j lo) (by dsimp only; omega) ⟨by dsimp only; omega,by dsimp only; rw [List.length_set]; exact hp1,hp2.set (by omega),by
    dsimp only;rw [HT (by omega)]; simp only [Rx]; rw [hp3,hq1,hfd.1],rfl⟩ (by rw [QK]; rfl)
theorem Qqa {a b:Int} (h:(decide (a<0) == decide (b<0))=true):U8 (decide (a<0)) (a.natAbs+b.natAbs)=a+b:=by
 unfold U8;by_cases h1:a<0 <;> by_cases h2:b<0 <;> simp [h1,h2] at h ⊢ <;> omega
theorem Qqd {a b:Int} (h:¬(decide (a<0) == decide (b<0))=true) (hl:b.natAbs<=a.natAbs):U8 (decide (a<0)) (a.natAbs-b.natAbs)=a+b:=by
 unfold U8;by_cases h1:a<0 <;> by_cases h2:b<0 <;> simp [h1,h2] at h ⊢ <;> omega
theorem Qki {a b:Int} (h:¬(decide (a<0) == decide (b<0))=true) (hl:¬b.natAbs<=a.natAbs):U8 (decide (b<0)) (b.natAbs-a.natAbs)=a+b:=by
 unfold U8;by_cases h1:a<0 <;> by_cases h2:b<0 <;> simp [h1,h2] at h ⊢ <;> omega
theorem YS (a:Int):(∃ m:Nat,a=(m:Int))\/∃ m:Nat,a=-(m:Int)/\0<m:=by
 rcases K9 a 0 with h | h
 ·exact .inr ⟨a.natAbs,by omega,by omega⟩
 ·exact .inl ⟨a.natAbs,by omega⟩
theorem Qqc (a b:Int):U8 (!(decide (a<0) == decide (b<0))) (a.natAbs*b.natAbs)=a*b:=by
 rcases YS a with ⟨m,rfl⟩ | ⟨m,rfl,hm⟩ <;> rcases YS b with ⟨n,rfl⟩ | ⟨n,rfl,hn⟩
 ·simp [U8,show ¬((m:Int)<0) by omega,show ¬((n:Int)<0) by omega]
 ·simp [U8,show ¬((m:Int)<0) by omega,show (-(n:Int)<0) by omega,hn,Ko]
 ·simp [U8,show (-(m:Int)<0) by omega,show ¬((n:Int)<0) by omega,hm,Kq]
 ·simp [U8,show (-(m:Int)<0) by omega,show (-(n:Int)<0) by omega,hm,hn,W6]
theorem Qqb {a b:Int} (h:a % b=0):U8 (!(decide (a<0) == decide (b<0))) (a.natAbs / b.natAbs)=a / b:=by
 by_cases hb:b=0
 ·subst hb; simp [U8]
 obtain ⟨c,rfl⟩:=Vf h;rw [Jf _ hb,J8,Nat.mul_div_cancel_left _ (by omega)];rcases YS b with ⟨n,rfl⟩ | ⟨n,rfl,hn⟩ <;> rcases YS c with ⟨m,rfl⟩ | ⟨m,rfl,hm⟩
 ·have:¬((n:Int)*(m:Int)<0):=by rw [<-Vj]; omega
  simp [U8,this,show ¬((n:Int)<0) by omega]
 ·have h1:0<n*m:=J4 (by omega) hm;have:((n:Int)*-(m:Int)<0):=by rw [Ko,<-Vj]; omega
  simp only [this,show ¬((n:Int)<0) by omega];simp [U8]
 ·by_cases h0:m=0
  ·subst h0; simp [U8]
  ·have h1:0<n*m:=J4 hn (by omega);have:(-(n:Int)*(m:Int)<0):=by rw [Kq,<-Vj]; omega
   simp only [this,show (-(n:Int)<0) by omega];simp [U8]
 ·have:¬(-(n:Int)*-(m:Int)<0):=by rw [W6,<-Vj]; omega
  simp only [this,show (-(n:Int)<0) by omega];simp [U8]
theorem eW {x y:Nat}:0<=ZV x y↔y<=x:=by
 unfold ZV;constructor
 ·intro h; split at h
  ·omega
  ·omega
 ·intro h; split
  ·omega
  ·split <;> omega
theorem BI {x e:Nat} (h:(Ge x).length=1) (he:(Ge x)[0]? = some e):x=e:=by
 rcases hd:Ge x with _ | ⟨u,l⟩
 ·rw [hd] at h; cases h
 ·rcases l with _ | ⟨w,l⟩
  ·rw [hd] at he; simp at he;have:=H6 x;rw [hd] at this; simp [Rx] at this; omega
  ·rw [hd] at h; simp at h
theorem mI {a b:Int} (hb:0<b):ri (a / ((Int.gcd a b:Nat):Int))++ri (b / ((Int.gcd a b:Nat):Int))=fr (Rat.divInt a b):=by
 obtain ⟨h1,h2⟩:=iV (n:=a) hb;rw [Dx,Int.gcd_comm] at h1 h2;rw [h1,h2]
theorem mO (a:Int):ri a++ri 1=fr (Rat.divInt a 1):=by
 have h:=mI (a:=a) (b:=1) (by decide);rw [show ((Int.gcd a 1:Nat):Int)=1 by simp] at h;simpa using h
theorem OC {a b:Int} (hb:b≠0) (ha2:U9 a<=90000000) (hb2:U9 b<=90000000):U9 ((Int.gcd a b:Nat):Int)<=90000000/\((Int.gcd a b:Nat):Int)≠0/\a % ((Int.gcd a b:Nat):Int)=0/\b % ((Int.gcd a b:Nat):Int)=0:=by
 have h1:=aN (n:=a) hb hb2;have h2:=fF (n:=a) hb;have h3:=DY a b;have h4:=DV a b;rw [Dx,Int.gcd_comm] at h1 h2 h3 h4;exact ⟨h1,by omega,h3,h4⟩
theorem zZ {a b:Int} (h:b<0):Ha a b=Rat.divInt (-a) (-b):=by
 unfold Ha; rw [if_neg (by omega)];exact (Rat.neg_divInt_neg a b).symm
theorem zX {a b:Int} (h:0<b):Ha a b=Rat.divInt a b:=by
 unfold Ha; rw [if_neg (by omega)]
theorem Qas (a b:Rat):Ha (a.num*(b.den:Int)+b.num*(a.den:Int)) ((a.den:Int)*(b.den:Int))=a+b:=by
 unfold Ha;rw [if_neg (Jo (Ey a) (Ey b)),<-Rat.divInt_add_divInt _ _ (Ey a) (Ey b),Z9,Z9]
theorem qW (a b:Rat):Ha (a.num*b.num) ((a.den:Int)*(b.den:Int))=a*b:=by
 unfold Ha;rw [if_neg (Jo (Ey a) (Ey b)),<-Rat.divInt_mul_divInt,Z9,Z9]
theorem zQ {a b:Rat} (h:b≠0):Ha (a.num*(b.den:Int)) ((a.den:Int)*b.num)=a / b:=by
 have hn:b.num≠0:=λe=>h (Rat.num_eq_zero.1 e)
 unfold Ha;rw [if_neg (Jo (Ey a) hn),<-Rat.divInt_mul_divInt,Z9,J5];congr 1
 conv=>rhs; rw [<-Z9 b,Rat.inv_divInt]
theorem Qfi {a b:Int} (ha:U9 a<=200000000) (hb:U9 b<=200000000):Ui 84 [.agg (ri a),.agg (ri b)] [.agg (ri (a+b))]:=by
 by_cases hs:(decide (a<0) == decide (b<0))=true
 ·have cm:=QQ (decide (a<0)) (a.natAbs+b.natAbs);rw [Qqa hs] at cm;exact Uf func84 rfl [.t hs,.k (Qs6 ha hb),.k cm] rfl
 ·have hs':(decide (a<0) == decide (b<0))=false:=by simpa using hs
  by_cases hl:b.natAbs<=a.natAbs
  ·have cm:=QQ (decide (a<0)) (a.natAbs-b.natAbs);rw [Qqd hs hl] at cm;exact Uf func84 rfl [.f hs',.k (pM ha hb),.t (decide_eq_true (eW.2 hl)),.k (pL ha hb hl),.k cm] rfl
  ·have cm:=QQ (decide (b<0)) (b.natAbs-a.natAbs);rw [Qki hs hl] at cm;exact Uf func84 rfl [.f hs',.k (pM ha hb),.f (decide_eq_false λh=>hl (eW.1 h)),.k (pL hb ha (by omega)),.k cm] rfl
theorem Qtt {a b:Int} (ha:U9 a<=200000000) (hb:U9 b<=200000000):Ui 144 [.agg (ri a),.agg (ri b)] [.agg (ri (a-b))]:=by
 have ca:=Qfi (a:=a) (b:=-b) ha (by rw [Ht]; exact hb);rw [show a+-b=a-b from by omega] at ca;exact Uf func144 rfl [.k (O9 (z:=b)),.k ca] rfl
theorem Eu {a b:Int} (ha:U9 a<=200000000) (hb:U9 b<=200000000):Ui 72 [.agg (ri a),.agg (ri b)] [.agg (ri (a*b))]:=by
 have cm:=QQ (!(decide (a<0) == decide (b<0))) (a.natAbs*b.natAbs);rw [Qqc] at cm;exact Uf func72 rfl [.k (Qth ha hb),.k cm] rfl
theorem BK {a b:Int} (ha:U9 a<=90000000) (hb:U9 b<=90000000) (h0:b≠0) (hd:a % b=0):Ui 105 [.agg (ri a),.agg (ri b)] [.agg (ri (a / b))]:=by
 have cm:=QQ (!(decide (a<0) == decide (b<0))) (a.natAbs / b.natAbs);rw [Qqb hd] at cm;exact Uf func105 rfl [.k (Qef ha hb (by omega)),.k cm] rfl
theorem Qvw (x:Nat):ri ((x:Nat):Int)=[nd x,.bool false]:=by
 unfold ri sg;rw [Xj,decide_eq_false (by omega)]
theorem xI {a b:Int} (ha:U9 a<=90000000) (hb:U9 b<=90000000):Ui 104 [.agg (ri a),.agg (ri b)] [.agg (ri ((Int.gcd a b:Nat):Int))]:=by
 rw [Qvw];refine Fw func104 rfl ?_;refine Uc [] rfl ?_;refine Uh (S:=Nat×Nat) 3 (λL1 s=>(5,.v (.one (nd s.1)))::(6,.v (.one (nd s.2)))::L1) (λ_=>[.blk 52 (ri a),.blk 52 (ri b),.blk 52 [.nils,.bool false]]) (λs=>s.2) (λs=>Nat.gcd s.1 s.2=Int.gcd a b/\sz s.1<=90000000/\sz s.2<=90000000) (a.natAbs,b.natAbs) ⟨rfl,ha,hb⟩ rfl rfl λs hs=>?_
 obtain ⟨x,y⟩:=s;obtain ⟨hp0,hp1,hp2⟩:=hs;dsimp only at hp0 hp1 hp2 ⊢;have hyn:=MY (x:=y);have hyl:=UK y;by_cases h1:y=0
 ·have e:Int.gcd a b=x:=by rw [<-hp0,h1,Nat.gcd_zero_right]
  rw [e];exact Ue [.f (by simp only [Tn]; exact decide_eq_false (by omega))] rfl
 ·have hlt:=Z7 x (show 0<y by omega);refine Uc [.t (by simp only [Tn]; exact decide_eq_true (by omega)),.k (Qef hp1 hp2 (by omega))] rfl ?_;exact rd (y,x % y) (by dsimp only; omega) ⟨by dsimp only; rw [<-hp0,Nat.gcd_comm x y,Nat.gcd_rec y x,Nat.gcd_comm],hp2,Nat.le_trans (Sw (by dsimp only; omega)) hp2⟩ rfl
theorem PL {a b:Int} (ha:U9 a<=90000000) (hb:U9 b<=90000000):Ui 52 [.agg (ri a),.agg (ri b)] [.agg (fr (Ha a b))]:=by
 rcases Km b 0 with hs | hs | hs
 ·skip
  by_cases h1:-b=1
  ·have h0:(Bl (Ge (-b).natAbs))[0]? = some [LV.int .i64 1]:=by rw [h1,show (1:Int).natAbs=1 from rfl,A7]; rfl
   have hl1:decide (((Bl (Ge (-b).natAbs)).length:Int)=1)=true:=by rw [h1,show (1:Int).natAbs=1 from rfl,A7]; rfl
   have e:fr (Ha a b)=ri (-a)++ri (-b):=by rw [zZ hs,h1]; exact (mO _).symm
   rw [e];exact Uf func52 rfl [.k (Df (z:=b)),.F,.t (decide_eq_true hs),.k (O9 (z:=a)),.k (O9 (z:=b)),.g 19 true hl1,.x h0,.t rfl] rfl
  ·have hgf:=OC (a:=-a) (b:=-b) (by omega) (by first | exact ha | (rw [Ht]; exact ha)) (by first | exact hb | (rw [Ht]; exact hb));have cg:=xI (a:=-a) (b:=-b) (by first | exact ha | (rw [Ht]; exact ha)) (by first | exact hb | (rw [Ht]; exact hb));have q1:=BK (a:=-a) (b:=((Int.gcd (-a) (-b):Nat):Int)) (by first | exact ha | (rw [Ht]; exact ha)) hgf.1 hgf.2.1 hgf.2.2.1;have q2:=BK (a:=-b) (b:=((Int.gcd (-a) (-b):Nat):Int)) (by first | exact hb | (rw [Ht]; exact hb)) hgf.1 hgf.2.1 hgf.2.2.2;have e:fr (Ha a b)=ri ((-a) / ((Int.gcd (-a) (-b):Nat):Int))++ri ((-b) / ((Int.gcd (-a) (-b):Nat):Int)):=by rw [zZ hs]; exact (mI (by omega)).symm
   rw [e];have hl:=UK (-b).natAbs;by_cases hl1:(Ge (-b).natAbs).length=1
   ·obtain ⟨u,hu⟩:=gxE (l:=(Ge (-b).natAbs)) (i:=0) (by omega);have hue:=BI hl1 hu;exact Uf func52 rfl [.k (Df (z:=b)),.F,.t (decide_eq_true hs),.k (O9 (z:=a)),.k (O9 (z:=b)),.g 19 true (by simp only [Tn]; exact decide_eq_true (by omega)),.x (Gq hu),.F,.k cg,.k q1,.k q2] rfl
   ·exact Uf func52 rfl [.k (Df (z:=b)),.F,.t (decide_eq_true hs),.k (O9 (z:=a)),.k (O9 (z:=b)),.g 19 false (by simp only [Tn]; exact decide_eq_false (by omega)),.f rfl,.k cg,.k q1,.k q2] rfl
 ·subst hs;have h0:(Bl (Ge (1:Int).natAbs))[0]? = some [LV.int .i64 1]:=by rw [show (1:Int).natAbs=1 from rfl,A7]; rfl
  have h1:decide (((Bl (Ge (1:Int).natAbs)).length:Int)=1)=true:=by rw [show (1:Int).natAbs=1 from rfl,A7]; rfl
  have e:fr (Ha a 0)=ri a++ri 1:=(mO a).symm;rw [e];exact Uf func52 rfl [.k (Df (z:=0)),.t rfl,.k (VR (n:=1) (by decide)),.f rfl,.g 19 true h1,.x h0,.t rfl] rfl
 ·skip
  by_cases h1:b=1
  ·have h0:(Bl (Ge (b).natAbs))[0]? = some [LV.int .i64 1]:=by rw [h1,show (1:Int).natAbs=1 from rfl,A7]; rfl
   have hl1:decide (((Bl (Ge (b).natAbs)).length:Int)=1)=true:=by rw [h1,show (1:Int).natAbs=1 from rfl,A7]; rfl
   have e:fr (Ha a b)=ri (a)++ri (b):=by rw [zX hs,h1]; exact (mO _).symm
   rw [e];exact Uf func52 rfl [.k (Df (z:=b)),.F,.F,.g 19 true hl1,.x h0,.t rfl] rfl
  ·have hgf:=OC (a:=a) (b:=b) (by omega) (by first | exact ha | (rw [Ht]; exact ha)) (by first | exact hb | (rw [Ht]; exact hb));have cg:=xI (a:=a) (b:=b) (by first | exact ha | (rw [Ht]; exact ha)) (by first | exact hb | (rw [Ht]; exact hb));have q1:=BK (a:=a) (b:=((Int.gcd (a) (b):Nat):Int)) (by first | exact ha | (rw [Ht]; exact ha)) hgf.1 hgf.2.1 hgf.2.2.1;have q2:=BK (a:=b) (b:=((Int.gcd (a) (b):Nat):Int)) (by first | exact hb | (rw [Ht]; exact hb)) hgf.1 hgf.2.1 hgf.2.2.2;have e:fr (Ha a b)=ri ((a) / ((Int.gcd (a) (b):Nat):Int))++ri ((b) / ((Int.gcd (a) (b):Nat):Int)):=by rw [zX hs]; exact (mI (by omega)).symm
   rw [e];have hl:=UK (b).natAbs;by_cases hl1:(Ge (b).natAbs).length=1
   ·obtain ⟨u,hu⟩:=gxE (l:=(Ge (b).natAbs)) (i:=0) (by omega);have hue:=BI hl1 hu;exact Uf func52 rfl [.k (Df (z:=b)),.F,.F,.g 19 true (by simp only [Tn]; exact decide_eq_true (by omega)),.x (Gq hu),.F,.k cg,.k q1,.k q2] rfl
   ·exact Uf func52 rfl [.k (Df (z:=b)),.F,.F,.g 19 false (by simp only [Tn]; exact decide_eq_false (by omega)),.f rfl,.k cg,.k q1,.k q2] rfl
theorem Qxo {n d:Int} (hn:-1000000000<=n/\n<=1000000000) (hd:-1000000000<=d/\d<=1000000000):Ui 15 [.oi n,.oi d] [.agg (fr (Ha n d))]:=by
 have b1:U9 n<=90000000:=Qc (Sl.2 (show n.natAbs<2^40 by omega)) (by decide);have b2:U9 d<=90000000:=Qc (Sl.2 (show d.natAbs<2^40 by omega)) (by decide);exact Uf func15 rfl [.k (VR (by omega)),.k (VR (by omega)),.k (PL b1 b2)] rfl
theorem Qtj {a:Rat}:Ui 69 [.agg (fr a)] [.agg (fr (-a))]:=by
 have e:fr (-a)=ri (-a.num)++ri (a.den:Int):=rfl;rw [e];exact Uf func69 rfl [.k (O9 (z:=a.num))] rfl
theorem Qd7 {a b:Rat} (ha:Qs 20000000 a) (hb:Qs 20000000 b):Ui 39 [.agg (fr a),.agg (fr b)] [.agg (fr (a+b))]:=by
 have k1:=Gh a.num (b.den:Int);have k2:=Gh b.num (a.den:Int);have k3:=Gh (a.den:Int) (b.den:Int);have k4:=YJ (a.num*(b.den:Int)) (b.num*(a.den:Int));have h1:=ha.1; have h2:=ha.2; have h3:=hb.1; have h4:=hb.2;have cm:=PL (a:=a.num*(b.den:Int)+b.num*(a.den:Int)) (b:=(a.den:Int)*(b.den:Int)) (by omega) (by omega);rw [Qas] at cm;exact Uf func39 rfl [.k (Eu (a:=a.num) (b:=(b.den:Int)) (by omega) (by omega)),.k (Eu (a:=b.num) (b:=(a.den:Int)) (by omega) (by omega)),.k (Qfi (by omega) (by omega)),.k (Eu (a:=(a.den:Int)) (b:=(b.den:Int)) (by omega) (by omega)),.k cm] rfl
theorem Qep {a b:Rat} (ha:Qs 40000000 a) (hb:Qs 40000000 b):Ui 29 [.agg (fr a),.agg (fr b)] [.agg (fr (a*b))]:=by
 have k1:=Gh a.num b.num;have k3:=Gh (a.den:Int) (b.den:Int);have h1:=ha.1; have h2:=ha.2; have h3:=hb.1; have h4:=hb.2;have cm:=PL (a:=a.num*b.num) (b:=(a.den:Int)*(b.den:Int)) (by omega) (by omega);rw [qW] at cm;exact Uf func29 rfl [.k (Eu (a:=a.num) (b:=b.num) (by omega) (by omega)),.k (Eu (a:=(a.den:Int)) (b:=(b.den:Int)) (by omega) (by omega)),.k cm] rfl
theorem pC {a b:Rat} (ha:Qs 40000000 a) (hb:Qs 40000000 b) (h0:b≠0):Ui 280 [.agg (fr a),.agg (fr b)] [.agg (fr (a / b))]:=by
 have k1:=Gh a.num (b.den:Int);have k3:=Gh (a.den:Int) b.num;have h1:=ha.1; have h2:=ha.2; have h3:=hb.1; have h4:=hb.2;have cm:=PL (a:=a.num*(b.den:Int)) (b:=(a.den:Int)*b.num) (by omega) (by omega);rw [zQ h0] at cm;exact Uf func280 rfl [.k (Eu (a:=a.num) (b:=(b.den:Int)) (by omega) (by omega)),.k (Eu (a:=(a.den:Int)) (b:=b.num) (by omega) (by omega)),.k cm] rfl
end Orr
namespace Orr
def Cx:Uo->Uo
 | []=>[]
 |
  x::l=>match Cx l with
  | []=>if x=0 then [] else [x]
  | y::k=>x::y::k
theorem JZ:∀ {l:Uo},(∀ x∈l,x=0)->Cx l=[]
 | [],_=>rfl
 |
  x::l,h=>by
  have ih:=JZ (l:=l) (λy hy=>h y (Qg _ hy));simp [Cx,ih,h x (Qy ..)]
theorem EH:∀ {l:Uo} {m:Nat} {y:Rat},(∀ j x,m<j->l[j]? = some x->x=0)->l[m]? = some y->y≠0->Cx l=l.take (m+1)
 | [],m,y,_,h,_=>by simp at h
 |
  x::l,0,y,h1,h2,h3=>by
  have h0:Cx l=[]:=JZ λz hz=>by
   obtain ⟨j,hj⟩:=Zm.1 hz;exact h1 (j+1) z (by omega) (by simpa using hj)
  simp at h2;subst h2;simp [Cx,h0,h3]
 |
  x::l,m+1,y,h1,h2,h3=>by
  have ih:=EH (l:=l) (m:=m) (y:=y) (λj z hj hz=>h1 (j+1) z (by omega) (by simpa using hz)) (by simpa using h2) h3;cases hl:l with
  | nil=>subst hl; simp at h2
  |
   cons u k =>
   subst hl;rw [Ve] at ih;simp only [Cx] at ih ⊢;rw [ih];simp
theorem zH {l:Uo} {m:Nat} (hm:m<=l.length) (h1:∀ j x,m<=j->l[j]? = some x->x=0) (h2:0<m->∃ y,l[m-1]? = some y/\y≠0):Cx l=l.take m:=by
 rcases Q3 m with h0 | h0
 ·subst h0;rw [JZ λz hz=>?_]; rfl;obtain ⟨j,hj⟩:=Zm.1 hz;exact h1 j z (by omega) hj
 ·obtain ⟨y,hy,hy0⟩:=h2 h0;have:=EH (l:=l) (m:=m-1) (y:=y) (λj x hj hx=>h1 j x (by omega) hx) hy hy0;rwa [show m-1+1=m from by omega] at this
theorem zP:∀ (l:Uo),∀ z∈Cx l,z∈l
 | [],z,h=>h
 |
  x::l,z,h=>by
  simp only [Cx] at h;have ih:=zP l
  split at h
  ·split at h
   ·cases h
   ·simp at h; simp [h]
  ·rename_i y k e;rw [e] at ih;rcases Qm.1 h with h | h
   ·simp [h]
   ·exact Qg _ (ih z h)
theorem zS:∀ (l:Uo),(Cx l).length<=l.length
 | []=>Ql _
 |
  x::l=>by
  have ih:=zS l;simp only [Cx]
  split
  ·split <;> simp
  ·rename_i y k e;rw [e] at ih;simp at ih ⊢; omega
def zp (p:Ul):Uo:=p.map λ(z:Int)=>(z:Rat)
theorem Ee:∀ (p:Ul),Cx (zp p)=zp (trim p)
 | []=>rfl
 |
  x::l=>by
  have ih:=Ee l;unfold zp at ih ⊢;simp only [Zz,Cx,trim,ih];cases h:trim l with
  |
   nil =>
   simp only [Jb];by_cases hx:x=0
   ·subst hx; simp
   ·have:(x:Rat)≠0:=λe=>hx (by exact_mod_cast e)
    simp [hx,this]
  | cons y k=>simp
theorem Au (p:Ul):(zp p).length=p.length:=Q8 _
theorem Qwx {p:Ul} {i:Nat} {z:Int} (h:p[i]? = some z):(zp p)[i]? = some (z:Rat):=by simp [zp,h]
theorem NV (p:Ul) (i:Nat):(zp p).getD i 0=((p.getD i 0:Int):Rat):=by
 simp only [Qi,zp,Zb];cases p[i]? <;> rfl
def Rb (s:Nat) (p:Uo):Prop:=∀ q∈p,Qs s q
theorem Rb.mono {s t:Nat} {p:Uo} (h:Rb s p) (ht:s<=t):Rb t p:=λq hq=>(h q hq).mono ht
theorem Rb.get {s:Nat} {p:Uo} (h:Rb s p) {i:Nat} {q:Rat} (hq:p[i]? = some q):Qs s q:=h q (Qa hq)
theorem Ak {s:Nat} {z:Int} (h:U9 z<=s) (h1:1<=s):Qs s (z:Rat):=⟨by simpa using h,Qc (show U9 ((1:Nat):Int)<=1 by decide) h1⟩
theorem zJ {s:Nat} {p:Ul} (h:Bd s p) (h1:1<=s):Rb s (zp p):=λq hq=>by
 obtain ⟨z,hz,rfl⟩:=Q6.1 hq;exact Ak (h z hz) h1
theorem Qps {s:Nat} (h1:1<=s):Qs s 0:=Ak (z:=0) (by simp [M4]) h1
theorem Rb.getD {s:Nat} {p:Uo} (h:Rb s p) (h1:1<=s) (i:Nat):Qs s (p.getD i 0):=by
 rw [Qi];cases e:p[i]? with
 | none=>exact Qps h1
 | some q=>exact h.get e
theorem Rb.trim {s:Nat} {p:Uo} (h:Rb s p):Rb s (Cx p):=λq hq=>h q (zP p q hq)
def VK (f:Nat->Rat) (n:Nat):Uo:=(List.range n).map f
theorem EE (f:Nat->Rat) (n:Nat):(VK f n).length=n:=by simp [VK]
theorem zL (f:Nat->Rat) (n:Nat):VK f (n+1)=VK f n++[f n]:=by simp [VK,Wd]
theorem Qql {s n:Nat} {f:Nat->Rat} (h:∀ i,i<n->Qs s (f i)):Rb s (VK f n):=λq hq=>by
 obtain ⟨i,hi,rfl⟩:=Q6.1 hq;exact h i (Kj.1 hi)
theorem vN {f:Nat->Rat} {g:Nat->Int} (n:Nat) (h:∀ i,i<n->f i=(g i:Rat)):VK f n=zp ((List.range n).map g):=by
 simp only [VK,zp,List.map_map];exact Xt λi hi=>h i (Kj.1 hi)
def Qcz (p q:Uo):Uo:=Cx (VK (λi=>p.getD i 0+q.getD i 0) (max p.length q.length))
def QC (p:Uo) (c:Rat):Uo:=Cx (VK (λi=>p.getD i 0*c) p.length)
def vG (p:Uo):Uo:=QC p (-1)
def Qsd (p q:Uo):Uo:=Qcz p (vG q)
theorem Qpu (p q:Ul):Qcz (zp p) (zp q)=zp (ZU p q):=by
 unfold Qcz ZU Av;rw [vN (g:=λk=>p.getD k 0+q.getD k 0) _ λi _=>by rw [NV,NV,Kd],Ee,Au,Au]
theorem zF (p:Ul) (c:Int):QC (zp p) (c:Rat)=zp (Fo p c):=by
 unfold QC Fo Av;rw [vN (g:=λk=>p.getD k 0*c) _ λi _=>by rw [NV,X5],Ee,Au]
theorem bM (p:Ul):Fo p (-1)=P9 p:=by
 unfold Fo P9 Av;congr 2;funext k;omega
theorem oC (p:Ul):vG (zp p)=zp (P9 p):=by
 rw [<-bM,<-zF]; rfl
theorem fQ {p q:Ul} (hp:U6 p) (hq:U6 q) (h:∀ k,p.getD k 0=q.getD k 0):p=q:=by
 have key:∀ {p q:Ul},U6 q->(∀ k,p.getD k 0=q.getD k 0)->q.length<=p.length:=by
  intro p q hq h;rcases Zd p.length q.length with h1 | h1
  ·have h2:=Hy hq (by omega);rw [<-h,Qi,Qw (by omega)] at h2;exact (h2 rfl).elim
  ·exact h1
 exact CP (Kc (key hp λk=>(h k).symm) (key hq h)) λj _=>h j
theorem mN {n m:Nat} {f g:Nat->Int} (hn:n<=m) (h:∀ k,k<n->f k=g k) (h0:∀ k,n<=k->k<m->g k=0):Av n f=Av m g:=by
 refine fQ (Fq _ _) (Fq _ _) λk=>?_
 rw [S4,S4];by_cases h1:k<n
 ·rw [if_pos h1,if_pos (by omega),h k h1]
 ·rw [if_neg h1];by_cases h2:k<m
  ·rw [if_pos h2,h0 k (by omega) h2]
  ·rw [if_neg h2]
theorem Qp2 (p q:Ul):Qsd (zp p) (zp q)=zp (Mx p q):=by
 unfold Qsd;rw [oC,Qpu];congr 1;have hl:=I7 q;unfold ZU Mx;refine mN (by omega) (λk _=>?_) λk h1 h2=>?_
 ·unfold P9;rw [S4]
  split
  ·omega
  ·rename_i h;have:q.getD k 0=0:=by rw [Qi,Qw (by omega)]; rfl
   omega
 ·have h3:p.getD k 0=0:=by rw [Qi,Qw (by omega)]; rfl
  have h4:(P9 q).getD k 0=0:=by rw [Qi,Qw (by omega)]; rfl
  unfold P9 at h4;rw [S4] at h4
  split at h4
  ·omega
  ·have:q.getD k 0=0:=by rw [Qi,Qw (by omega)]; rfl
   omega
end Orr
namespace Orr
open Go Go.Proofs Tryz
set_option maxRecDepth 10000
def frow (p:Uo):Ur:=p.map fr
theorem By (p:Uo):(frow p).length=p.length:=by simp [frow]
theorem ZE {p:Uo} {i:Nat} {q:Rat} (h:p[i]? = some q):(frow p)[i]? = some (fr q):=G7 h
theorem OM (p:Uo) (q:Rat):frow (p++[q])=frow p++[fr q]:=by simp [frow]
theorem Qb4 (p:Uo):∀ c∈frow p,c.length=4:=λc hc=>by obtain ⟨x,_,rfl⟩:=Q6.1 hc; rfl
abbrev rp (p:Uo):LV:=.row (frow p)
theorem Qcp (q:Rat):∀ c∈[fr q],c.length=4:=λc hc=>by rw [Qk.1 hc]; rfl
theorem Qfh:Ui 279 [] [.agg (fr 0)]:=Uf func279 rfl [.k (VI (n:=0) (by decide))] rfl
theorem KQ {p:Uo}:Ui 251 [.one (rp p)] [.one (rp (Cx p))]:=by
 refine Fw func251 rfl (ln 0 rfl rfl λhl=>?_);rw [By] at hl;have hpl:=By p;refine Uc [] rfl ?_;refine lp (S:=Nat) 0 (λL1 n=>(3,.v (.oi n))::L1) (λ_=>[]) id (λn=>n<=p.length/\∀ j x,n<=j->p[j]? = some x->x=0) (frow p).length ⟨by rw [hpl]; exact Ql _,λj x h1 h2=>by
  have:=(Qf.1 h2).1; rw [hpl] at h1; omega⟩ rfl (λ_ _=>rfl) rfl λn hs=>?_
 obtain ⟨h1,h2⟩:=hs;cases n with
 |
  zero =>
  have e:=zH h1 (λj x h=>h2 j x h) (λh=>absurd h (by decide));exact Ue [.g 8 false (by simp),.f rfl,.i 0] rfl (by rw [e]; rfl) (by simp [Uw])
 |
  succ n =>
  obtain ⟨x,hx⟩:=gxE (l:=p) (i:=n) (by omega);have hn:=Rat.num_eq_zero (q:=x);by_cases h0:x=0
  ·refine Ud [.g 8 true (by simp),.r 11 (eI (b:=(n:Int)) (by simp)),.x (ZE hx),.k (Df (z:=x.num)),.t (decide_eq_true (hn.2 h0)),.r 18 (eI (b:=(n:Int)) (by simp))] rfl ?_;exact rd n (by simp) ⟨by omega,λj y h3 h4=>by
    rcases Vl h3 with rfl | h3
    ·rw [hx] at h4; injection h4 with h4; rw [<-h4,h0]
    ·exact h2 j y h3 h4⟩ rfl
  ·have e:=zH h1 (λj x h=>h2 j x h) (λ_=>⟨x,hx,h0⟩);exact Ue [.g 8 true (by simp),.r 11 (eI (b:=(n:Int)) (by simp)),.x (ZE hx),.k (Df (z:=x.num)),.f (decide_eq_false λh=>h0 (hn.1 h)),.i (n+1)] rfl (by rw [e]; simp [rp,frow,Jt]) (by simp [Uw,hpl] <;> omega)
theorem Qrm {p:Uo} {i:Nat} (hi:i<1099511627776):Ui 253 [.one (rp p),.oi i] [.agg (fr (p.getD i 0))]:=by
 have hpl:=By p;by_cases h:i<p.length
 ·have e:p.getD i 0=p[i]:=by rw [Qi,Qe h]; rfl
  rw [e];exact Uf func253 rfl [.g 7 false Uj,.F,.x (ZE (Qe h))] rfl
 ·have e:p.getD i 0=0:=by rw [Qi,Qw (by omega)]; rfl
  rw [e];exact Uf func253 rfl [.g 7 false Uj,.T,.k Qfh] rfl
theorem Qfv:Ui 247 [.one (ids [1])] [.one (rp (zp [1]))]:=by
 have cc:=KQ (p:=zp [1]);rw [Ee,show trim [1]=[1] from rfl] at cc;refine Fw func247 rfl ?_;refine Uc [.o 3 54 4] rfl ?_;refine Uh (S:=Nat) 1 (λL1 i=>(7,.v (.oi i))::(3,.v (.one (.orow 0 4 none)))::L1) (λi=>[.row false 54 4 (frow ((zp [1]).take i))]) (λi=>1-i) (λi=>i<=1) 0 (by decide) rfl rfl λi hi=>?_
 rcases (show i=0\/i=1 by omega) with rfl | rfl
 ·refine go tt [.t rfl,.x (l:=idl [1]) (i:=0) (xs:=[.int .i64 1]) rfl,.k (VI (n:=1) (by decide)),.s (sz:=4) (Qcp _)] rfl (by simp [Uw,frow]) ?_;exact rd 1 (by omega) (by omega) rfl
 ·exact Ue [.f rfl,.k cc] rfl
theorem Qty {p q:Uo} (hp:Rb 20000000 p) (hq:Rb 20000000 q) (hlp:p.length<=1000000) (hlq:q.length<=1000000):Ui 212 [.one (rp p),.one (rp q)] [.one (rp (Qcz p q))]:=by
 have h1:=By p;have h2:=By q;obtain ⟨M,hM⟩:=nmE (max p.length q.length);have cc:=KQ (p:=VK (λi=>p.getD i 0+q.getD i 0) M);unfold Qcz;rw [<-hM];refine Fw func212 rfl ?_;refine Uc [.o 5 54 4] rfl ?_;refine Uh (S:=Nat) 1 (λL1 i=>(6,.v (.oi i))::(5,.v (.one (.orow 0 4 none)))::L1) (λi=>[.row false 54 4 (frow (VK (λi=>p.getD i 0+q.getD i 0) i))]) (λi=>M-i) (λi=>i<=M) 0 (Qh _) rfl rfl λi hi=>?_
 have hol:(frow (VK (λi=>p.getD i 0+q.getD i 0) i)).length=i:=by rw [By,EE]
 by_cases h:i<M
 ·refine go tt [.r 12 (eI (b:=(M:Int)) (by omega)),.T,.k (Qrm (p:=p) (i:=i) (by omega)),.k (Qrm (p:=q) (i:=i) (by omega)),.k (Qd7 (hp.getD (by decide) i) (hq.getD (by decide) i)),.s (sz:=4) (Qcp _)] rfl (by simp [Uw,hol,-List.getD_eq_getElem?_getD]; omega) ?_;exact rd (i+1) (by omega) h (by rw [zL,OM]; rfl)
 ·have e:i=M:=by omega
  rw [e];exact Ue [.r 12 (eI (b:=(M:Int)) (by omega)),.F,.k cc] rfl
theorem BF {p:Uo} {c:Rat} (hp:Rb 40000000 p) (hc:Qs 40000000 c) (hlp:p.length<=1000000):Ui 252 [.one (rp p),.agg (fr c)] [.one (rp (QC p c))]:=by
 have h1:=By p;have cc:=KQ (p:=VK (λi=>p.getD i 0*c) p.length);unfold QC;refine Fw func252 rfl ?_;refine Uc [.o 5 54 4] rfl ?_;refine Uh (S:=Nat) 2 (λL1 i=>(9,.v (.oi i))::(5,.v (.one (.orow 1 4 none)))::L1) (λi=>[.blk 54 (fr c),.row false 54 4 (frow (VK (λi=>p.getD i 0*c) i))]) (λi=>p.length-i) (λi=>i<=p.length) 0 (Qh _) rfl rfl λi hi=>?_
 have hol:(frow (VK (λi=>p.getD i 0*c) i)).length=i:=by rw [By,EE]
 by_cases h:i<p.length
 ·have hg:p[i]? = some (p.getD i 0):=by rw [Qi,Qe h]; rfl
  refine go tt [.T,.x (ZE hg),.k (Qep (hp.getD (by decide) i) hc),.s (sz:=4) (Qcp _)] rfl (by simp [Uw,hol,-List.getD_eq_getElem?_getD]; omega) ?_;exact rd (i+1) (by omega) h (by rw [zL,OM]; rfl)
 ·have e:i=p.length:=by omega
  rw [e];exact Ue [.F,.k cc] rfl
theorem Qfu {p:Uo} (hp:Rb 40000000 p) (hlp:p.length<=1000000):Ui 210 [.one (rp p)] [.one (rp (vG p))]:=by
 have cs:=BF (p:=p) (c:=-1) hp ⟨by decide,by decide⟩ hlp;have co:=VI (n:=-1) (by decide);rw [show ((-1:Int):Rat)=-1 from rfl] at co;exact Uf func210 rfl [.k co,.k cs] rfl
theorem Qpq {s t:Nat} {a b:Rat} (ha:Qs s a) (hb:Qs t b):Qs (s+t+1) (a*b):=by
 rw [<-qW];unfold Ha;rw [if_neg (Jo (Ey a) (Ey b))];have h1:=Gh a.num b.num;have h2:=Gh (a.den:Int) (b.den:Int);have:=ha.1; have:=ha.2; have:=hb.1; have:=hb.2;exact Qs.divInt (by omega) (by omega) (by omega)
theorem Qvv {s:Nat} {p:Uo} (hp:Rb s p):Rb (s+2) (vG p):=by
 unfold vG QC;refine Rb.trim (Qql λi hi=>?_);have h1:Qs (s+0) (p.getD i 0):=by
  have hi:i<p.length:=hi;rw [Qi,Qe hi];exact hp _ (Xv hi)
 have:=Qpq h1 (show Qs 1 (-1:Rat) from ⟨by decide,by decide⟩);exact this.mono (by omega)
theorem Qj4 (p:Uo):(vG p).length<=p.length:=by
 unfold vG QC;exact Qc (zS _) (by rw [EE]; exact Ql _)
theorem Qeq {a b:Int} (ha:U9 a<=40000000) (hb:U9 b<=40000000):Ui 29 [.agg (fr (a:Rat)),.agg (fr (b:Rat))] [.agg (fr ((a*b:Int):Rat))]:=by
 have h:=Qep (Ak ha (by decide)) (Ak hb (by decide));rw [<-X5] at h; exact h
theorem Qs7 {a b:Int} (ha:U9 a<=20000000) (hb:U9 b<=20000000):Ui 39 [.agg (fr (a:Rat)),.agg (fr (b:Rat))] [.agg (fr ((a+b:Int):Rat))]:=by
 have h:=Qd7 (Ak ha (by decide)) (Ak hb (by decide));rw [<-Kd] at h; exact h
theorem fW (l:Ul) (i:Nat) (z:Int):(frow (zp l)).set i (fr (z:Rat))=frow (zp (l.set i z)):=by simp [frow,zp,Vw]
theorem Qlq {p:Ul} {i:Nat} (h:i<p.length):(zp p)[i]? = some ((p.getD i 0:Int):Rat):=Qwx (Rp h)
theorem Tv {p:Ul} {i:Nat} (h:i<p.length):(frow (zp p))[i]? = some (fr ((p.getD i 0:Int):Rat)):=ZE (Qlq h)
theorem ON (p:Ul):(frow (zp p)).length=p.length:=by rw [By,Au]
abbrev zR:Uq:=[.nils,.bool false,.nils,.bool false]
theorem jP {n i:Nat} (h:i<n):(List.replicate i (fr 0)++List.replicate (n-i) zR).set i (fr 0)=List.replicate (i+1) (fr 0)++List.replicate (n-(i+1)) zR:=by
 rw [List.set_append_right _ _ (by simp),Jg,Ki,show n-i=n-(i+1)+1 by omega,J1 (n:=n-(i+1)),List.set_cons_zero,List.replicate_succ' (n:=i),Ze]; rfl
theorem AZ (n:Nat):List.replicate n (fr 0)++List.replicate (n-n) zR=frow (zp (List.replicate n 0)):=by simp [zp,frow]
theorem Qt0 {p q:Ul} {s t:Nat} (hlp:p.length<=1000000) (hlq:q.length<=1000000) (hp:Bd s p) (hq:Bd t q) (hst:s+t<=19000000):Ui 249 [.one (rp (zp p)),.one (rp (zp q))] [.one (rp (zp (Gf p q)))]:=by
 have hpl:=ON p;have hql:=ON q;rcases Q3 p.length with h0 | h0
 ·have e:Gf p q=[]:=by unfold Gf; rw [if_pos (.inl h0)]
  rw [e];exact Uf func249 rfl [.g 12 true Uk,.t rfl] rfl
 rcases Q3 q.length with h1 | h1
 ·have e:Gf p q=[]:=by unfold Gf; rw [if_pos (.inr h1)]
  rw [e];exact Uf func249 rfl [.g 12 false Uj,.T] rfl
 have e:Gf p q=trim (Ai p q (List.replicate (p.length+q.length-1) 0) p.length):=by unfold Gf; rw [if_neg (by omega)]
 rw [e];obtain ⟨N,hN⟩:=nmE (p.length+q.length-1);rw [<-hN];obtain ⟨o,ho⟩:=nmE (List.replicate N (0:Int));rw [<-ho];have hol:o.length=N:=by rw [ho]; simp
 have ho0:∀ m,o.getD m 0=0:=λm=>by rw [ho]; exact Bz N m
 have cc:=KQ (p:=zp (Ai p q o p.length));rw [Ee] at cc;refine Fw func249 rfl ?_;refine Ud [.g 12 false Uj,.F,.r 22 (eI (b:=(N:Int)) (by omega)),.i N,.i N,.r 25 (eI (b:=(N:Int)) (by simp))] rfl ?_;refine Uh (S:=Nat) 1 (λL1 i=>(26,.v (.oi i))::L1) (λi=>[.row false 54 4 (List.replicate i (fr 0)++List.replicate (N-i) zR)]) (λi=>N-i) (λi=>i<=N) 0 (Qh _) rfl rfl λi hi=>?_
 by_cases hlt:i<N
 ·refine Ud [.T,.k Qfh,.i i] rfl ?_;rw [jP hlt];exact rd (i+1) (by omega) hlt rfl
 have hiN:i=N:=by omega
 rw [hiN,AZ,<-ho];clear hiN hlt hi;refine Uc [.F] rfl ?_;refine Uh (S:=Nat) 1 (λL1 i=>(36,.v (.oi i))::L1) (λi=>[.row false 54 4 (frow (zp (Ai p q o i)))]) (λi=>p.length-i) (λi=>i<=p.length) 0 (Qh _) rfl rfl λi hi=>?_
 by_cases hlt:i<p.length
 ·refine Uc [.T] rfl ?_;refine Uh (S:=Nat) 1 (λL1 k=>(41,.v (.oi k))::L1) (λk=>[.row false 54 4 (frow (zp (Ob (p.getD i 0) q i (Ai p q o i) k)))]) (λk=>q.length-k) (λk=>k<=q.length) 0 (Qh _) rfl rfl λk hk=>?_
  by_cases hk2:k<q.length
  ·have hm1:U9 ((Ob (p.getD i 0) q i (Ai p q o i) k).getD (i+k) 0)<=20000000:=Qc (Im (t:=39) (yU (by rw [D3]; omega) (yW (λj hj=>by omega) ho0 (λi j=>M5 (Fj hp i) (Fj hq j))) (λj=>M5 (Fj hp i) (Fj hq j)) (i+k)) (Kh (show i+1<549755813888 by omega) (by decide))) (by omega);have hm2:U9 (p.getD i 0*q.getD k 0)<=20000000:=Qc (Gh _ _) (by have:=Fj hp i; have:=Fj hq k; omega);have hml:(Ob (p.getD i 0) q i (Ai p q o i) k).length=N:=by rw [Oc,D3,hol]
   have cm:=Qeq (a:=p.getD i 0) (b:=q.getD k 0) (Qc (Fj hp i) (by omega)) (Qc (Fj hq k) (by omega));have hfl:=ON (Ob (p.getD i 0) q i (Ai p q o i) k);refine go tt [.T,.i (i+k),.x (Tv (p:=Ob (p.getD i 0) q i (Ai p q o i) k) (i:=i+k) (by omega)),.x (Tv hlt),.x (Tv hk2),.k cm,.k (Qs7 hm1 hm2),.i (i+k)] rfl (by simp [Uw,hfl,-List.getD_eq_getElem?_getD] <;> omega) ?_;rw [fW];exact rd (k+1) (by omega) hk2 rfl
  ·obtain rfl:k=q.length:=by omega
   exact go tt [.F] rfl (by simp [Uw]; omega) (rd (i+1) (by omega) hlt rfl)
 ·obtain rfl:i=p.length:=by omega
  exact Ue [.F,.k cc] rfl
def uD (p:Ul) (n:Nat):Ul:=(List.range n).map λk=>p.getD (k+1) 0*((k+1:Nat):Int)
theorem Qgr (p:Ul) (n:Nat):(uD p n).length=n:=by simp [uD]
theorem Qby (p:Ul) (n:Nat):uD p (n+1)=uD p n++[p.getD (n+1) 0*((n+1:Nat):Int)]:=by simp [uD,Wd]
theorem kF (p:Ul) (z:Int):frow (zp (p++[z]))=frow (zp p)++[fr (z:Rat)]:=by simp [frow,zp]
theorem Qft {p:Ul} (hp:Bd 40000000 p) (hl:p.length<=1000000):Ui 209 [.one (rp (zp p))] [.one (rp (zp (Gk p)))]:=by
 have hpl:=ON p;have cc:=KQ (p:=zp (uD p (p.length-1)));rw [Ee] at cc;refine Fw func209 rfl ?_;refine Uc [.o 3 54 4] rfl ?_;refine Uh (S:=Nat) 1 (λL1 j=>(4,.v (.oi ((j+1:Nat):Int)))::(3,.v (.one (.orow 0 4 none)))::L1) (λj=>[.row false 54 4 (frow (zp (uD p j)))]) (λj=>p.length-j) (λj=>j<=p.length-1) 0 (Qh _) rfl rfl λj hj=>?_
 have hfl:=ON (uD p j);rw [Qgr] at hfl;by_cases h:j+1<p.length
 ·have hk:U9 ((j+1:Nat):Int)<=40000000:=Qc (jE (t:=38) (k:=j+1) (Kh (show j+1<274877906944 by omega) (by decide))) (by decide);refine go tt [.T,.x (Tv h),.k (VI (n:=((j+1:Nat):Int)) (by omega)),.k (Qeq (Fj hp (j+1)) hk),.s (sz:=4) (Qcp _)] rfl (by simp [Uw,hfl,-List.getD_eq_getElem?_getD] <;> omega) ?_;exact rd (j+1) (by omega) (by omega) (by rw [Qby,kF]; rfl)
 ·have e:j=p.length-1:=by omega
  rw [e];exact Ue [.F,.k cc] rfl
theorem Qpy:[LV.nils,LV.bool false].map FQ=ri 0:=by
 show _=[nd 0,sg 0];unfold nd dl;rw [Hw]; rfl
end Orr
namespace Orr
def G9 (p:Ul):Int:=p.getD (p.length-1) 0
def EG (a b:Ul):Int:=if G9 b<0 then -(G9 a) else G9 a
def WV (a b:Ul) (i:Nat):Int:=a.getD i 0*((G9 b).natAbs:Int)-(if a.length-b.length<=i then EG a b*b.getD (i-(a.length-b.length)) 0 else 0)
def tR (a b:Ul):Ul:=Av a.length (WV a b)
inductive RRun (b:List Int):Nat->List Int->List Int->Prop
 | stop {a:List Int}:a.length<b.length->RRun b 0 a a
 | step {k:Nat} {a r:List Int}:b.length<=a.length->a.length<=1000->Bd 9000000 a->Bd 9000000 b->RRun b k (tR a b) r->RRun b (k+1) a r
def Iy (p:Ul):Nat->Nat
 | 0=>0
 | i+1=>Int.gcd (Iy p i:Nat) (p.getD i 0)
def UY (p:Ul):Nat:=Iy p p.length
theorem HF (p:Ul):∀ {i j:Nat},j<i->((Iy p i:Nat):Int)∣p.getD j 0
 | 0,_,h=>absurd h (Nat.not_lt_zero _)
 |
  i+1,j,h=>by
  simp only [Iy];rcases Zd j i with h1 | h1
  ·exact V7 (Int.gcd_dvd_left ..) (HF p h1)
  ·rw [show j=i by omega]; exact Wu ..
theorem uY (p:Ul) (j:Nat):((UY p:Nat):Int)∣p.getD j 0:=by
 rcases Zd j p.length with h | h
 ·exact HF p h
 ·rw [Qi,Qw h]; exact Int.dvd_zero _
theorem ZM {s:Nat} {p:Ul} (h:Bd s p):∀ i,U9 ((Iy p i:Nat):Int)<=s
 | 0=>by simp [Iy,M4]
 |
  i+1=>by
  simp only [Iy];by_cases h0:p.getD i 0=0
  ·rw [h0,Int.gcd_zero_right]; exact ZM h i
  ·have h1:=Wu (Iy p i:Nat) (p.getD i 0);have h2:(Int.gcd (Iy p i:Nat) (p.getD i 0))<=(p.getD i 0).natAbs:=Kw (by omega) (by simpa using X7.2 h1);have h3:=Fj h i;rw [Sl] at h3 ⊢;simp only [Xj];omega
theorem Qbp {p:Ul} {j i:Nat} (hj:j<i) (h:p.getD j 0≠0):0<Iy p i:=by
 have:=HF p hj;rcases Q3 (Iy p i) with h0 | h0
 ·rw [h0] at this;exact absurd (Int.zero_dvd.1 this) h
 ·exact h0
theorem uV {p:Ul} (ht:U6 p) (h:0<p.length):0<UY p:=Qbp (j:=p.length-1) (by omega) (Hy ht h)
def Ls (p:Ul):Int:=if G9 p<0 then -((UY p:Nat):Int) else ((UY p:Nat):Int)
def Tc (p:Ul):Ul:=Av p.length λi=>p.getD i 0 / Ls p
def Ns (p:Ul):Ul:=if G9 p<0 then P9 (Tc p) else Tc p
theorem Qb2 (p:Ul) (j:Nat):Ls p∣p.getD j 0:=by
 unfold Ls
 split
 ·exact Ub.2 (uY p j)
 ·exact uY p j
theorem Qg9 {p:Ul} (ht:U6 p) (h:0<p.length):Ls p≠0:=by
 have:=uV ht h;unfold Ls
 split <;> omega
theorem OJ {s:Nat} {p:Ul} (h:Bd s p):U9 (Ls p)<=s:=by
 unfold Ls
 split
 ·rw [Ht]; exact ZM h _
 ·exact ZM h _
theorem cG {p:Ul} {c:Int} (hc:c≠0) (hd:∀ j,c∣p.getD j 0):QC (zp p) (1 / (c:Rat))=zp (Av p.length λi=>p.getD i 0 / c):=by
 unfold QC Av;rw [vN (g:=λi=>p.getD i 0 / c) _ λi _=>?_,Ee,Au];obtain ⟨k,hk⟩:=hd i;have hc':(c:Rat)≠0:=λe=>hc (by exact_mod_cast e)
 rw [NV,hk,Jf _ hc,X5];grind
theorem NP {s:Nat} {p:Ul} (h:Bd s p):Bd s (Tc p):=JP λi _=>Qc (XY _ _) (Fj h i)
theorem RV (p:Ul):(Tc p).length<=p.length:=I1 _ _
theorem Qau {s:Nat} {p:Ul} (h:Bd s p):Bd s (Ns p):=by
 unfold Ns
 split
 ·exact PN (NP h)
 ·exact NP h
theorem nH (p:Ul):(Ns p).length<=p.length:=by
 unfold Ns
 split
 ·exact Qc (I7 _) (RV p)
 ·exact RV p
inductive GRun:Nat->List Int->List Int->List Int->Prop
 | stop (a:List Int):GRun 0 a [] a
 | step {k m:Nat} {a b r g:List Int}:0<b.length->b.length<=1000->Bd 9000000 b->RRun b m a r->r.length<=1000->Bd 9000000 r->U6 r->GRun k b (Tc r) g->GRun (k+1) a b g
theorem GRun.inv {k:Nat} {a b g:Ul} (h:GRun k a b g):(k=0/\b.length=0/\a=g)\/∃ j m r,k=j+1/\0<b.length/\b.length<=1000/\Bd 9000000 b/\RRun b m a r/\r.length<=1000/\Bd 9000000 r/\U6 r/\GRun j b (Tc r) g:=by
 cases h with
 | stop=>exact .inl ⟨rfl,rfl,rfl⟩
 | step h1 h2 h3 h4 h5 h6 h7 h8=>exact .inr ⟨_,_,_,rfl,h1,h2,h3,h4,h5,h6,h7,h8⟩
def QD (k:Nat) (p:Ul):Ul:=List.replicate k 0++p
theorem cM (k:Nat) (p:Ul):(QD k p).length=k+p.length:=by simp [QD]
theorem Qav {s k:Nat} {p:Ul} (h:Bd s p):Bd s (QD k p):=λz hz=>by
 rcases Qq.1 hz with h1 | h1
 ·rw [Zw h1,M4]; exact Qh _
 ·exact h z h1
inductive DRun (b:List Int):Nat->List Int->List Int->List Int->List Int->Prop
 | stop {a q:List Int}:a.length<b.length->DRun b 0 a q q a
 | step {k:Nat} {a q qf r:List Int}:b.length<=a.length->a.length<=1000->Bd 9000000 a->G9 b≠0->G9 b∣G9 a->a.length-b.length<q.length ->
  DRun b k (Mx a (QD (a.length-b.length) (Fo b (G9 a / G9 b)))) (q.set (a.length-b.length) (G9 a / G9 b)) qf r->DRun b (k+1) a q qf r
theorem DRun.inv {b a q qf r:Ul} {k:Nat} (h:DRun b k a q qf r):(k=0/\q=qf/\a=r/\a.length<b.length)\/∃ j,k=j+1/\b.length<=a.length/\a.length<=1000/\Bd 9000000 a/\G9 b≠0/\G9 b∣G9 a/\a.length-b.length<q.length /\
 DRun b j (Mx a (QD (a.length-b.length) (Fo b (G9 a / G9 b)))) (q.set (a.length-b.length) (G9 a / G9 b)) qf r:=by
 cases h with
 | stop h=>exact .inl ⟨rfl,rfl,rfl,h⟩
 | step h1 h2 h3 h4 h5 h6 h7=>exact .inr ⟨_,rfl,h1,h2,h3,h4,h5,h6,h7⟩
def Ms (l:Um):Ul:=l.getD (l.length-1) []
inductive LRun:Nat->List (List Int)->List (List Int)->Prop
 | stop {l:List (List Int)}:(Ms l).length<=1->LRun 0 l l
 | step {k m:Nat} {l f:List (List Int)} {g:List Int}:1<(Ms l).length->(Ms l).length<=1000->U6 (Ms l)->Bd 9000000 (Ms l)->Bd 9000000 (Gk (Ms l))->GRun m (Tc (Ms l)) (Tc (Gk (Ms l))) g->l.length<=1000->LRun k (l++[g]) f->LRun (k+1) l f
theorem LRun.inv {k:Nat} {l f:Um} (h:LRun k l f):(k=0/\l=f/\(Ms l).length<=1)\/∃ j m g,k=j+1/\1<(Ms l).length/\(Ms l).length<=1000/\U6 (Ms l)/\Bd 9000000 (Ms l)/\Bd 9000000 (Gk (Ms l))/\GRun m (Tc (Ms l)) (Tc (Gk (Ms l))) g/\l.length<=1000/\LRun j (l++[g]) f:=by
 cases h with
 | stop h=>exact .inl ⟨rfl,rfl,h⟩
 | step h1 h2 h3 h4 h5 h6 h7 h8=>exact .inr ⟨_,_,_,rfl,h1,h2,h3,h4,h5,h6,h7,h8⟩
def DOk (a b q:Ul):Prop:=0<b.length/\b.length<=1000/\a.length<=1000/\Bd 9000000 b/\∃ qf r n,Bd 9000000 qf/\qf.length<=1000/\DRun b n a (List.replicate (a.length+1-b.length) 0) qf r/\q=trim qf
theorem DOk.bd {a b q:Ul} (h:DOk a b q):Bd 9000000 q:=by
 obtain ⟨_,_,_,_,qf,r,n,h1,_,_,rfl⟩:=h;exact Su h1
theorem DOk.len {a b q:Ul} (h:DOk a b q):q.length<=1000:=by
 obtain ⟨_,_,_,_,qf,r,n,_,h1,_,rfl⟩:=h;exact Qc (Ru _) h1
theorem DOk.trim {a b q:Ul} (h:DOk a b q):U6 q:=by
 obtain ⟨_,_,_,_,qf,r,n,_,_,_,rfl⟩:=h;exact Tg _
def Qw3 (a b c f:Ul):Prop:=∃ x y z,DOk a b x/\DOk b c y/\DOk (Tc x) (Tc y) z/\f=Tc z
structure FRun (a:List Int) (m:Nat) (f:Nat->List Int):Prop where
 run:∃ n l,LRun n [Tc a] l/\l.length=m+1/\∀ k,k<m->Qw3 ((l++[[1]]).getD k []) ((l++[[1]]).getD (k+1) []) ((l++[[1]]).getD (k+2) []) (f k)
 small:m<=1000
def EL (f:Nat->Ul) (n:Nat):Um:=(List.range n).map f
theorem sJ (f:Nat->Ul) (n:Nat):(EL f n).length=n:=by simp [EL]
theorem Qdb (f:Nat->Ul) (n:Nat):EL f (n+1)=EL f n++[f n]:=by simp [EL,Wd]
theorem Qk2 {f:Nat->Ul} {n i:Nat} (h:i<n):(EL f n)[i]? = some (f i):=by simp [EL,X6 h]
theorem nX {l:Um} {i:Nat} (h:i<l.length):l[i]? = some (l.getD i []):=by
 rw [Qi,Qe h]; rfl
def Om (f:Nat->Ul):Nat->Ul
 | 0=>[1]
 | i+1=>Gf (Om f i) (f i)
def Qw2 (m:Nat) (f:Nat->Ul):Prop:=∀ i,i<m->Bd 9000000 (Om f i)/\(Om f i).length<=1000/\Bd 9000000 (f i)/\(f i).length<=1000
inductive CRun:Nat->List (List Int)->List Int->List (List Int)->Prop
 | stop {l:List (List Int)} {g:List Int}:g.length=0->CRun 0 l g l
 | step {k m:Nat} {l f:List (List Int)} {g r:List Int}:0<g.length->g.length<=1000->Bd 9000000 g->RRun g m (Ms l) r->U6 r->Bd 9000000 r->r.length<=1000->0<l.length->l.length<=1000->CRun k (l++[g]) (P9 (Ns r)) f->CRun (k+1) l g f
theorem CRun.inv {k:Nat} {l f:Um} {g:Ul} (h:CRun k l g f):(k=0/\l=f/\g.length=0)\/∃ j m r,k=j+1/\0<g.length/\g.length<=1000/\Bd 9000000 g/\RRun g m (Ms l) r/\U6 r/\Bd 9000000 r/\r.length<=1000/\0<l.length/\l.length<=1000/\CRun j (l++[g]) (P9 (Ns r)) f:=by
 cases h with
 | stop h=>exact .inl ⟨rfl,rfl,h⟩
 | step h1 h2 h3 h4 h5 h6 h7 h8 h9 h10=>exact .inr ⟨_,_,_,rfl,h1,h2,h3,h4,h5,h6,h7,h8,h9,h10⟩
structure ChRun (a:List Int) (sq:List Int) (c:List (List Int)):Prop where
 fac:∃ m f,FRun a m f/\Qw2 m f/\sq=Om f m
 Cq:∃ n,CRun n [sq] (Ns (Gk sq)) c
 bd:Bd 8000000 sq
 len:sq.length<=1000
 small:c.length<=1000
def Qdt (q:Rat) (c:Um):Prop:=∃ sq,ChRun [-q.num,(q.den:Int)] sq c
end Orr
namespace Orr
open Go Go.Proofs Tryz
set_option maxRecDepth 10000
theorem RRun.inv {b a r:Ul} {k:Nat} (h:RRun b k a r):(k=0/\a=r/\a.length<b.length)\/(∃ j,k=j+1/\b.length<=a.length/\a.length<=1000/\Bd 9000000 a/\Bd 9000000 b/\RRun b j (tR a b) r):=by
 cases h with
 | stop h=>exact .inl ⟨rfl,rfl,h⟩
 | step h1 h2 h3 h4 h5=>exact .inr ⟨_,rfl,h1,h2,h3,h4,h5⟩
theorem Qp3 {a b:Ul} (ha:Bd 9000000 a):U9 (EG a b)<=9000000:=by
 unfold EG; split
 ·rw [Ht]; exact Fj ha _
 ·exact Fj ha _
theorem Qpx (n:Nat):ri (n:Int)=[nd n,.bool false]:=by
 show [nd n,sg (n:Int)]=_;unfold sg;rw [decide_eq_false (by omega)]
def vR (a b:Ul) (n:Nat):Ul:=(List.range n).map (WV a b)
theorem Qka (a b:Ul) (n:Nat):(vR a b n).length=n:=by simp [vR]
theorem zG (a b:Ul) (n:Nat):vR a b (n+1)=vR a b n++[WV a b n]:=by simp [vR,Wd]
theorem lN {a0 b res:Ul} {n:Nat} (hb0:0<b.length) (hb1:b.length<=1000) (hbb0:Bd 9000000 b) (hrun:RRun b n a0 res):Ui 211 [.one (rp (zp a0)),.one (rp (zp b))] [.one (rp (zp res))]:=by
 have hbl:=ON b;have hle:U9 (((G9 b).natAbs:Nat):Int)<=9000000:=Fj hbb0 _;refine Fw func211 rfl ?_;refine Ud [.r 15 (eI (b:=((b.length-1:Nat):Int)) (by omega)),.x (Tv (p:=b) (i:=b.length-1) (by omega))] rfl ?_;refine sb [(0,.v (.one (rp (zp a0)))),(1,.v (.one (rp (zp b)))),(5,.v (.one (.ow 0 0))),(6,.v (.one (.ow 1 0)))] [.blk 52 (ri (G9 b)),.blk 52 [nd (G9 b).natAbs,.bool false]] rfl rfl ?_;refine Uh (S:=Nat×Ul) 2 (λL1 s=>(0,.v (.one (rp (zp s.2))))::L1) (λ_=>[.blk 52 (ri (G9 b)),.blk 52 [nd (G9 b).natAbs,.bool false]]) (λs=>s.1) (λs=>RRun b s.1 s.2 res) (n,a0) hrun rfl rfl λ⟨k,a⟩ hs=>?_
 have hal:=ON a;have hs:RRun b k a res:=hs;rcases RRun.inv hs with ⟨rfl,rfl,h1⟩ | ⟨j,rfl,h1,h2,ha,hb,hr⟩
 ·exact Ue [.f (decide_eq_false (by dsimp only; omega))] rfl
 obtain ⟨K,hK⟩:=nmE (a.length-b.length);have htb:=Qp3 (b:=b) ha;have cc:=KQ (p:=zp (vR a b a.length));rw [Ee,show trim (vR a b a.length)=tR a b from rfl] at cc;refine Ud [.t (decide_eq_true (by dsimp only; omega)),.r 30 (eI (b:=(K:Int)) (by dsimp only; omega)),.r 34 (eI (b:=((a.length-1:Nat):Int)) (by dsimp only; omega)),.x (Tv (p:=a) (i:=a.length-1) (by omega))] rfl ?_;refine ct 1 (S:=Unit) (λ_=>[(0,.v (.one (rp (zp a)))),(1,.v (.one (rp (zp b)))),(5,.v (.one (.ow 0 0))),(6,.v (.one (.ow 1 0))),(7,.v (.oi K)),(8,.v (.one (.ow 2 0)))]) (λ_=>[.blk 52 (ri (G9 b)),.blk 52 [nd (G9 b).natAbs,.bool false],.blk 52 (ri (EG a b))]) (λ_=>True) rfl ?_ (λ_ _=>?_)
 ·by_cases hn:G9 b<0
  ·have e:EG a b=-(G9 a):=if_pos hn;rw [e];exact go tt [.t (decide_eq_true hn),.k (O9 (z:=G9 a))] rfl trivial (rc () trivial rfl)
  ·have e:EG a b=G9 a:=if_neg hn;rw [e];exact go tt [.f (decide_eq_false hn)] rfl trivial (rc () trivial rfl)
 refine Uc [.o 9 54 4] rfl ?_;refine Uh (S:=Nat) 4 (λL1 i=>(44,.v (.oi i))::(9,.v (.one (.orow 3 4 none)))::L1) (λi=>[.blk 52 (ri (G9 b)),.blk 52 [nd (G9 b).natAbs,.bool false],.blk 52 (ri (EG a b)),.row false 54 4 (frow (zp (vR a b i)))]) (λi=>a.length-i) (λi=>i<=a.length) 0 (Qh _) rfl rfl λi hi=>?_
 have hfl:=ON (vR a b i);rw [Qka] at hfl;by_cases h:i<a.length
 ·have cm:=Eu (a:=a.getD i 0) (b:=(((G9 b).natAbs:Nat):Int)) (Qc (Fj ha i) (by decide)) (by omega);have hm:=Gh (a.getD i 0) (((G9 b).natAbs:Nat):Int);have hai:=Fj ha i;rw [Qpx (G9 b).natAbs] at cm;by_cases hk:K<=i
  ·have hbi:=Fj hb (i-K);have hm2:=Gh (EG a b) (b.getD (i-K) 0);have e:WV a b i=a.getD i 0*(((G9 b).natAbs:Nat):Int)-EG a b*b.getD (i-K) 0:=by unfold WV; rw [if_pos (by omega),hK]
   refine go tt [.T,.x (Tv h),.k cm,.T,.r 62 (eI (b:=((i-K:Nat):Int)) (by omega)),.x (Tv (p:=b) (i:=i-K) (by omega)),.k (Eu (a:=EG a b) (b:=b.getD (i-K) 0) (by omega) (by omega)),.k (Qtt (by omega) (by omega)),.k (VR (n:=1) (by decide)),.k (Et (n:=a.getD i 0*(((G9 b).natAbs:Nat):Int)-EG a b*b.getD (i-K) 0)),.s (sz:=4) (Qcp _)] rfl (by simp [Uw,hfl,-List.getD_eq_getElem?_getD] <;> omega) ?_;exact rd (i+1) (by omega) h (by rw [zG,kF,e]; rfl)
  ·have e:WV a b i=a.getD i 0*(((G9 b).natAbs:Nat):Int):=by unfold WV; rw [if_neg (by omega),Int.sub_zero]
   refine go tt [.T,.x (Tv h),.k cm,.F,.k (VR (n:=1) (by decide)),.k (Et (n:=a.getD i 0*(((G9 b).natAbs:Nat):Int))),.s (sz:=4) (Qcp _)] rfl (by simp [Uw,hfl,-List.getD_eq_getElem?_getD] <;> omega) ?_;exact rd (i+1) (by omega) h (by rw [zG,kF,e]; rfl)
 ·have e:i=a.length:=by omega
  rw [e];exact go tt [.F,.k cc] rfl trivial (rd (j,tR a b) (by omega) hr rfl)
theorem Qtx:Ui 72 [.agg (ri 1),.agg (ri 1)] [.agg (ri 1)]:=Eu (a:=1) (b:=1) (by decide) (by decide)
theorem Qnf:Ui 104 [.agg (ri 1),.agg (ri 1)] [.agg (ri 1)]:=xI (a:=1) (b:=1) (by decide) (by decide)
theorem Qmv {z:Int} (hz:U9 z<=90000000):Ui 72 [.agg (ri z),.agg (ri 1)] [.agg (ri z)]:=by
 have h:=Eu (a:=z) (b:=1) (by omega) (by decide);rwa [Ua] at h
theorem lF {z:Int} (hz:U9 z<=90000000):Ui 105 [.agg (ri z),.agg (ri 1)] [.agg (ri z)]:=by
 have h:=BK (a:=z) (b:=1) hz (by decide) (by decide) (Int.emod_one z);rwa [Int.ediv_one] at h
theorem Qer {z:Int}:Ui 69 [.agg (fr (z:Rat))] [.agg (fr ((-z:Int):Rat))]:=by
 have h:=Qtj (a:=(z:Rat));rwa [<-Vn] at h
theorem Qvt {c:Int} (hc:c≠0) (hs:U9 c<=9000000):Qs 40000000 (((1:Int):Rat) / (c:Rat)):=by
 have h0:(c:Rat)≠0:=λe=>hc (by exact_mod_cast e)
 rw [<-zQ h0];unfold Ha;rw [if_neg (Jo (Ey _) (λe=>hc (by simpa using e)))];refine Qs.divInt (by show U9 (1*1)<=_; decide) ?_ (by decide);show U9 (1*c)<=_;rw [Kr]; omega
theorem pD {p:Ul} {c:Int} (hc:c≠0) (hs:U9 c<=9000000) (hd:∀ j,c∣p.getD j 0) (hp:Bd 9000000 p) (hl:p.length<=1000):Ui 252 [.one (rp (zp p)),.agg (fr (((1:Int):Rat) / (c:Rat)))] [.one (rp (zp (Av p.length λi=>p.getD i 0 / c)))]:=by
 have h:=BF ((zJ hp (by omega)).mono (by omega)) (Qvt hc hs) (by rw [Au]; omega);rwa [show ((1:Int):Rat)=1 from rfl,cG hc hd] at h
theorem QX {p:Ul} (tp:U6 p) (hp:Bd 9000000 p) (hl:p.length<=1000):Ui 250 [.one (rp (zp p))] [.agg (fr ((Ls p:Int):Rat)),.one (rp (zp (Tc p)))]:=by
 have hpl:=ON p;rcases Q3 p.length with h0 | h0
 ·have e:=Qj h0;subst e;exact Uf func250 rfl [.t rfl,.k Qfh] rfl
 have hc:=Qg9 tp h0;refine Fw func250 rfl ?_;refine Uc [.F,.k (VR (n:=1) (by decide))] rfl ?_;refine Uh (S:=Nat) 2 (λL1 i=>(16,.v (.oi i))::L1) (λi=>[.blk 54 [.nils,.bool false,.nils,.bool false],.blk 52 (ri 1)]) (λi=>p.length-i) (λi=>i<=p.length) 0 (Qh _) rfl rfl λi hi=>?_
 by_cases h:i<p.length
 ·refine Ud [.T,.x (Tv h),.k Qtx,.x (Tv h),.k Qnf,.k (lF (z:=1) (by decide))] rfl ?_;exact rd (i+1) (by omega) h rfl
 refine Uc [.F] rfl ?_;clear h hi;refine nlb 2 rfl rfl rfl ?_;rw [Qpy];refine Uh (S:=Nat) 3 (λL1 i=>(37,.v (.oi i))::L1) (λi=>[.blk 54 [.nils,.bool false,.nils,.bool false],.blk 52 (ri 1),.blk 52 (ri ((Iy p i:Nat):Int))]) (λi=>p.length-i) (λi=>i<=p.length) 0 (Qh _) rfl rfl λi hi=>?_
 by_cases h:i<p.length
 ·have hb:=Fj hp i;have hg:=ZM hp i;refine Ud [.T,.x (Tv h),.k (Qmv (z:=p.getD i 0) (by omega)),.x (Tv h),.k (lF (z:=p.getD i 0) (by omega)),.k (xI (a:=((Iy p i:Nat):Int)) (b:=p.getD i 0) (by omega) (by omega))] rfl ?_;exact rd (i+1) (by omega) h rfl
 have e:i=p.length:=by omega
 rw [e];have co:=VI (n:=1) (by decide);have cs:=pD hc (OJ hp) (Qb2 p) hp hl;by_cases hn:G9 p<0
 ·have e2:Ls p=-((UY p:Nat):Int):=if_pos hn;rw [show (λi=>p.getD i 0 / Ls p)=λi=>p.getD i 0 / Ls p from rfl] at cs;have cn:=Qer (z:=((UY p:Nat):Int));rw [<-e2] at cn;exact Ue [.F,.k (Et (n:=((UY p:Nat):Int))),.r 62 (eI (b:=((p.length-1:Nat):Int)) (by omega)),.x (Tv (p:=p) (i:=p.length-1) (by omega)),.t (decide_eq_true hn),.k cn,.k co,.k (pC (a:=((1:Int):Rat)) (b:=((Ls p:Int):Rat)) ⟨by decide,by decide⟩ (Ak (by have:=OJ hp; omega) (by decide)) (λe=>hc (by exact_mod_cast e))),.k cs] rfl rfl (by simp [Uw]; omega)
 ·have e2:Ls p=((UY p:Nat):Int):=if_neg hn;have cm:=Et (n:=Ls p);rw [e2] at cm cs hc ⊢;exact Ue [.F,.k cm,.r 62 (eI (b:=((p.length-1:Nat):Int)) (by omega)),.x (Tv (p:=p) (i:=p.length-1) (by omega)),.f (decide_eq_false hn),.k co,.k (pC (a:=((1:Int):Rat)) (b:=((((UY p:Nat):Int):Int):Rat)) ⟨by decide,by decide⟩ (Ak (by have:=ZM hp p.length; unfold UY; omega) (by decide)) (λe=>hc (by exact_mod_cast e))),.k cs] rfl (by unfold Tc; rw [e2]; rfl) (by simp [Uw]; omega)
theorem QZ {p:Ul} (tp:U6 p) (hp:Bd 9000000 p) (hl:p.length<=1000):Ui 276 [.one (rp (zp p))] [.one (rp (zp (Tc p)))] :=
 Uf func276 rfl [.k (QX tp hp hl)] rfl
theorem OY {p:Ul} (tp:U6 p):Ls p<0↔G9 p<0:=by
 unfold Ls;rcases Q3 p.length with h0 | h0
 ·have:=Qj h0; subst this; decide
 ·have:=uV tp h0
  split <;> omega
theorem Qfq {p:Ul} (hp:Bd 9000000 p) (hl:p.length<=1000000):Ui 210 [.one (rp (zp p))] [.one (rp (zp (P9 p)))]:=by
 have h:=Qfu ((zJ hp (by decide)).mono (by decide)) (by rw [Au]; exact hl);rwa [oC] at h
theorem wA {p:Ul} (tp:U6 p) (hp:Bd 9000000 p) (hl:p.length<=1000):Ui 208 [.one (rp (zp p))] [.one (rp (zp (Ns p)))]:=by
 by_cases hn:G9 p<0
 ·have e:Ns p=P9 (Tc p):=if_pos hn;rw [e];exact Uf func208 rfl [.k (QX tp hp hl),.t (decide_eq_true ((OY tp).2 hn)),.k (Qfq (NP hp) (Qc (RV p) (by omega)))] rfl
 ·have e:Ns p=Tc p:=if_neg hn;rw [e];exact Uf func208 rfl [.k (QX tp hp hl),.f (decide_eq_false λh=>hn ((OY tp).1 h))] rfl
end Orr
namespace Orr
section
variable {x d:Int} (hd:0<d) (hg:Int.gcd x d=1) (hx:U9 x<=2000000) (hs:U9 d<=2000000)
include hd in
include hd in
include hd in
include hd hx hs in
include hd hx hs in
include hd hx hs in
include hd hg hx hs in
include hd hg hx hs in
end
end Orr
namespace Orr
open Go Go.Proofs Tryz
set_option maxRecDepth 10000
theorem Qtz {a b g:Ul} {n:Nat} (ta:U6 a) (tb:U6 b) (ha:Bd 9000000 a) (hb:Bd 9000000 b) (la:a.length<=1000) (lb:b.length<=1000) (hrun:GRun n (Tc a) (Tc b) g):Ui 277 [.one (rp (zp a)),.one (rp (zp b))] [.one (rp (zp g))]:=by
 refine Fw func277 rfl ?_;refine Uc [.k (QZ ta ha la),.k (QZ tb hb lb)] rfl ?_;refine sb [(0,.v (.one (rp (zp (Tc a))))),(1,.v (.one (rp (zp (Tc b)))))] [] rfl rfl ?_;refine Uh (S:=Nat×Ul×Ul) 0 (λL1 s=>(0,.v (.one (rp (zp s.2.1))))::(1,.v (.one (rp (zp s.2.2))))::L1) (λ_=>[]) (λs=>s.1) (λs=>GRun s.1 s.2.1 s.2.2 g) (n,Tc a,Tc b) hrun rfl rfl λ⟨k,x,y⟩ hs=>?_
 have hs:GRun k x y g:=hs;have hyl:=ON y;rcases hs.inv with ⟨hk,hy0,hxg⟩ | ⟨j,m2,r,hk,hy0,hy1,hyb,hrr,hrl,hrb,hrt,hgr⟩
 ·rw [<-hxg];exact Ue [.f (decide_eq_false (by dsimp only; omega))] rfl
 ·subst hk;refine Uc [.t (decide_eq_true (by dsimp only; omega)),.k (lN (a0:=x) (b:=y) (res:=r) hy0 hy1 hyb hrr),.k (QZ (p:=r) hrt hrb hrl)] rfl ?_;exact rd (j,y,Tc r) (by dsimp only; omega) hgr rfl
theorem Qmy {x y:Int} (hx:U9 x<=9000000) (hy:U9 y<=9000000) (h0:y≠0) (hd:y∣x):Ui 280 [.agg (fr (x:Rat)),.agg (fr (y:Rat))] [.agg (fr ((x / y:Int):Rat))]:=by
 have hy0:(y:Rat)≠0:=λe=>h0 (by exact_mod_cast e)
 have h:=pC (Ak (s:=40000000) (z:=x) (by omega) (by omega)) (Ak (s:=40000000) (z:=y) (by omega) (by omega)) hy0;obtain ⟨k,rfl⟩:=hd;rw [Jf _ h0];rwa [show (((y*k:Int):Rat)) / (y:Rat)=(k:Rat) by rw [X5]; grind] at h
theorem Qbj {p:Ul} {c:Int} (hp:Bd 40000000 p) (hc:U9 c<=40000000) (hl:p.length<=1000000):Ui 252 [.one (rp (zp p)),.agg (fr (c:Rat))] [.one (rp (zp (Fo p c)))]:=by
 have h:=BF (zJ hp (by omega)) (Ak hc (by omega)) (by rw [Au]; exact hl);rwa [zF] at h
theorem Qqe (k:Nat) (p:Ul):frow (zp (List.replicate k 0))++frow (zp p)=frow (zp (QD k p)):=by simp [zp,QD,frow]
theorem Qb5 (l:Ul) (i:Nat) (z:Int):(frow (zp l)).set i [nd ((z:Rat)).num.natAbs,sg ((z:Rat)).num,nd (((z:Rat)).den:Int).natAbs,sg (((z:Rat)).den:Int)]=frow (zp (l.set i z)):=fW l i z
theorem Qnk {p q:Ul} (hp:Bd 18000000 p) (hq:Bd 18000000 q) (hlp:p.length<=1000000) (hlq:q.length<=1000000):Uz prog 173 [.one (rp (zp p)),.one (.orow 0 4 none)] [.row false 54 4 (frow (zp q))] [.one (rp (zp (Mx p q)))] [.gone]:=by
 have hn:=Qfu ((zJ hq (by decide)).mono (by decide)) (by rw [Au]; exact hlq);have ha:=Qty (p:=zp p) (q:=vG (zp q)) ((zJ hp (by decide)).mono (by decide)) ((Qvv (zJ hq (by decide))).mono (by decide)) (by rw [Au]; exact hlp) (Qc (Qj4 _) (by rw [Au]; exact hlq));have e:Qcz (zp p) (vG (zp q))=zp (Mx p q):=Qp2 p q;rw [e] at ha;refine Fw func173 rfl ?_;exact Ug [] [0] [.k hn,.k ha] rfl
theorem Qbk {a0 b qf rem:Ul} {n:Nat} (hb0:0<b.length) (hb1:b.length<=1000) (hl0:a0.length<=1000) (hbb:Bd 9000000 b) (hqb:Bd 9000000 qf) (hrun:DRun b n a0 (List.replicate (a0.length+1-b.length) 0) qf rem):Ui 278 [.one (rp (zp a0)),.one (rp (zp b))] [.one (rp (zp (trim qf))),.one (rp (zp rem))]:=by
 have h0l:=ON a0;have hbl:=ON b;obtain ⟨N,hN⟩:=nmE (a0.length+1-b.length);rw [<-hN] at hrun;have cc:=KQ (p:=zp qf);rw [Ee] at cc;refine Fw func278 rfl ?_;refine Ud [.r 18 (eI (b:=(N:Int)) (by omega)),.i N,.i N,.r 21 (eI (b:=(N:Int)) (by simp))] rfl ?_;refine Uh (S:=Nat) 1 (λL1 i=>(22,.v (.oi i))::L1) (λi=>[.row false 54 4 (List.replicate i (fr 0)++List.replicate (N-i) zR)]) (λi=>N-i) (λi=>i<=N) 0 (Qh _) rfl rfl λi hi=>?_
 by_cases hlt:i<N
 ·refine Ud [.T,.k Qfh,.i i] rfl ?_;rw [jP hlt];exact rd (i+1) (by omega) hlt rfl
 have hiN:i=N:=by omega
 rw [hiN,AZ];clear hiN hlt hi;refine Uc [.F] rfl ?_;refine sb [(0,.v (.one (rp (zp a0)))),(1,.v (.one (rp (zp b)))),(6,.v (.one (.orow 0 4 none)))] [.row false 54 4 (frow (zp (List.replicate N 0)))] rfl rfl ?_;refine Uh (S:=Nat×Ul×Ul) 1 (λL1 s=>(0,.v (.one (rp (zp s.2.1))))::L1) (λs=>[.row false 54 4 (frow (zp s.2.2))]) (λs=>s.1) (λs=>DRun b s.1 s.2.1 s.2.2 qf rem/\s.2.2.length=N) (n,a0,List.replicate N 0) ⟨hrun,Jg⟩ rfl rfl λ⟨k,a,q⟩ ⟨hr0,hr1⟩=>?_
 have hr0:DRun b k a q qf rem:=hr0;have hr1:q.length=N:=hr1;have hal:=ON a;have hql:=ON q;rcases hr0.inv with ⟨hk,hqf,har,hlt⟩ | ⟨j,hk,hba,hal2,hab,hpb,hpd,hkq,hrj⟩
 ·subst hqf; subst har;exact Ue [.f (decide_eq_false (by dsimp only; omega)),.k cc] rfl
 subst hk;obtain ⟨K,hK⟩:=nmE (a.length-b.length);rw [<-hK] at hrj hkq;have hla:U9 (G9 a)<=9000000:=Fj hab _;have hlb:U9 (G9 b)<=9000000:=Fj hbb _;obtain ⟨c,hc⟩:=nmE (G9 a / G9 b);have cq:=Qmy hla hlb hpb hpd;have hcs:U9 (G9 a / G9 b)<=9000000:=Qc (XY _ _) hla;rw [<-hc] at cq hcs hrj;have hsl:=Fh b c;have hqs:∀ x,(q.set K x).length=N:=λx=>by rw [Xf]; exact hr1
 dsimp only;refine go tt [.T,.r 39 (eI (b:=(K:Int)) (by omega)),.r 43 (eI (b:=((a.length-1:Nat):Int)) (by omega)),.x (Tv (p:=a) (i:=a.length-1) (by omega)),.r 49 (eI (b:=((b.length-1:Nat):Int)) (by omega)),.x (Tv (p:=b) (i:=b.length-1) (by omega)),.k cq,.i K,.i K,.i K,.r 60 (eI (b:=(K:Int)) (by simp))] rfl (by simp [Uw,hql] <;> omega) ?_;rw [Qb5];refine Uh (S:=Nat) 3 (λL1 i=>(61,.v (.oi i))::L1) (λi=>[.row false 54 4 (frow (zp (q.set K c))),.blk 54 (fr (c:Rat)),.row false 54 4 (List.replicate i (fr 0)++List.replicate (K-i) zR)]) (λi=>K-i) (λi=>i<=K) 0 (Qh _) rfl rfl λi hi=>?_
 by_cases hlt:i<K
 ·refine Ud [.T,.k Qfh,.i i] rfl ?_;rw [jP hlt];exact rd (i+1) (by omega) hlt rfl
 have hiK:i=K:=by omega
 rw [hiK,AZ];clear hiK hlt hi;have hzl:=ON (List.replicate K 0);rw [Jg] at hzl;have hpl:=ON (Fo b c);refine Uc [.F] rfl ?_;refine sb [(10,.v (.one (.orow 2 4 none))),(9,.v (.one (.ow 1 0))),(0,.v (.one (rp (zp a)))),(1,.v (.one (rp (zp b)))),(6,.v (.one (.orow 0 4 none)))] [.row false 54 4 (frow (zp (q.set K c))),.blk 54 (fr (c:Rat)),.row false 54 4 (frow (zp (List.replicate K 0)))] rfl rfl ?_;have p2:=Qnk (p:=a) (q:=QD K (Fo b c)) (Ux hab (by decide)) (Ux (Qav (Gd hbb hcs)) (by decide)) (by omega) (by rw [cM]; omega);rw [<-Qqe] at p2;refine go tt [.k (Qbj (c:=c) (Ux hbb (by decide)) (by omega) (by omega)),.s (sz:=4) (Qb4 (zp (Fo b c))),.c [2] p2] rfl (by simp [Uw,hzl,hpl]; omega) ?_;exact rd (j,Mx a (QD K (Fo b c)),q.set K c) (by dsimp only; omega) ⟨hrj,hqs c⟩ rfl
def sB (l:Um):Ur:=l.map λp=>[rp (zp p)]
theorem VQ (l:Um):(sB l).length=l.length:=by simp [sB]
theorem GM (l:Um) (g:Ul):sB l++[[rp (zp g)]]=sB (l++[g]):=by simp [sB]
theorem YO {l:Um} {i:Nat} (h:i<l.length):(sB l)[i]? = some [rp (zp (l.getD i []))]:=G7 (nX h)
theorem Qo8 (x:LV):∀ c∈[[x]],c.length=1:=λc hc=>by rw [Qk.1 hc]; rfl
theorem BU {a b q:Ul} (h:DOk a b q):∃ r,Ui 278 [.one (rp (zp a)),.one (rp (zp b))] [.one (rp (zp q)),.one (rp (zp r))]:=by
 obtain ⟨h1,h2,h3,h4,qf,r,n,h5,h6,h7,rfl⟩:=h;exact ⟨r,Qbk h1 h2 h3 h4 h5 h7⟩
theorem mZ {a:Ul} {mf:Nat} {f:Nat->Ul} (ta:U6 a) (ha:Bd 9000000 a) (la:a.length<=1000) (h2:2<=a.length) (hF:FRun a mf f):Ui 248 [.one (rp (zp a))] [.one (.row (sB (EL f mf)))]:=by
 obtain ⟨⟨n,ls,hrun,hlen,hq⟩,hms⟩:=hF;have hal:=ON a;refine Fw func248 rfl ?_;refine Uc [.F,.k (QZ ta ha la),.o 3 163 1,.lo] rfl ?_;refine sb [(3,.v (.one (.orow 0 1 none))),(4,.v (.one (.orow 1 1 none)))] [.row false 163 1 [],.row false 163 1 (sB [Tc a])] rfl rfl ?_;refine Uh (S:=Nat×Um) 2 (λL1 s=>(4,.v (.one (.orow 1 1 none)))::L1) (λs=>[.row false 163 1 [],.row false 163 1 (sB s.2)]) (λs=>s.1) (λs=>LRun s.1 s.2 ls/\0<s.2.length/\s.2.length<=1001) (n,[Tc a]) ⟨hrun,by show 0<1; decide,by show 1<=1001; decide⟩ rfl rfl λ⟨k,l⟩ ⟨hs1,hs2,hs3⟩=>?_
 have hs1:LRun k l ls:=hs1;have hs2:0<l.length:=hs2;have hs3:l.length<=1001:=hs3;have hll:=VQ l;have hlast:(sB l)[l.length-1]? = some [rp (zp (Ms l))]:=YO (by omega);have hpl:=ON (Ms l);dsimp only;rcases hs1.inv with ⟨hk,hlf,hl1⟩ | ⟨j,m2,g,hk,hg1,hg2,hg3,hg4,hg5,hg6,hg7,hlr⟩
 ·have hlm:l.length=mf+1:=by rw [hlf]; exact hlen
  rw [<-hlf] at hq;have hl2:=VQ (l++[[1]]);have hl3:(l++[[1]]).length=mf+2:=by simp [hlm]
  refine go tt [.r 23 (eI (b:=((l.length-1:Nat):Int)) (by omega)),.i (l.length-1),.x hlast,.F,.k Qfv,.s (sz:=1) (Qo8 _)] rfl (by simp [Uw,hll]; omega) ?_;rw [GM];refine Uh (S:=Nat) 2 (λL1 i=>(6,.v (.oi i))::(3,.v (.one (.orow 0 1 none)))::L1) (λi=>[.row false 163 1 (sB (EL f i)),.row false 163 1 (sB (l++[[1]]))]) (λi=>mf-i) (λi=>i<=mf) 0 (Qh _) rfl rfl λi hi=>?_
  have htl:=VQ (EL f i);rw [sJ] at htl;by_cases h:i<mf
  ·obtain ⟨x,y,z,hx,hy,hz,hf⟩:=hq i h;obtain ⟨rx,hdx⟩:=BU hx;obtain ⟨ry,hdy⟩:=BU hy;obtain ⟨rz,hdz⟩:=BU hz;refine go tt [.T,.i i,.x (YO (by omega)),.i (i+1),.x (YO (by omega)),.k hdx,.i (i+1),.x (YO (by omega)),.i (i+2),.x (YO (by omega)),.k hdy,.k (QZ hx.trim hx.bd hx.len),.k (QZ hy.trim hy.bd hy.len),.k hdz,.k (QZ hz.trim hz.bd hz.len),.s (sz:=1) (Qo8 _)] rfl (by simp [Uw,hl2,htl]; omega) ?_;exact rd (i+1) (by omega) h (by rw [GM,Qdb,hf]; rfl)
  ·have e:i=mf:=by omega
   rw [e];exact Ue [.F] rfl rfl (by simp [Uw]; omega)
 ·subst hk;refine go tt [.r 23 (eI (b:=((l.length-1:Nat):Int)) (by omega)),.i (l.length-1),.x hlast,.T,.r 31 (eI (b:=((l.length-1:Nat):Int)) (by omega)),.i (l.length-1),.x hlast,.k (Qft (Ux hg4 (by decide)) (by omega)),.k (Qtz hg3 (Fq _ _) hg4 hg5 hg2 (Qc (P7 _) (by omega)) hg6),.s (sz:=1) (Qo8 _)] rfl (by simp [Uw,hll]; omega) ?_;exact rd (j,l++[g]) (by dsimp only; omega) ⟨hlr,by simp,by simp; omega⟩ (by rw [GM]; rfl)
theorem Qbl {a:Ul} {mf:Nat} {f:Nat->Ul} (ta:U6 a) (ha:Bd 9000000 a) (la:a.length<=1000) (h2:2<=a.length) (hF:FRun a mf f) (hP:Qw2 mf f):Ui 207 [.one (rp (zp a))] [.one (rp (zp (Om f mf)))]:=by
 have hms:=hF.small;have hal:=ON a;have htl:=VQ (EL f mf);rw [sJ] at htl;refine Fw func207 rfl ?_;refine Uc [.F,.k Qfv,.k (mZ ta ha la h2 hF)] rfl ?_;refine Uh (S:=Nat) 0 (λL1 i=>(15,.v (.oi i))::(3,.v (.one (rp (zp (Om f i)))))::L1) (λ_=>[]) (λi=>mf-i) (λi=>i<=mf) 0 (Qh _) rfl rfl λi hi=>?_
 by_cases h:i<mf
 ·obtain ⟨g1,g2,g3,g4⟩:=hP i h;refine Ud [.T,.x (G7 (f:=λp=>[rp (zp p)]) (Qk2 h)),.k (Qt0 (p:=Om f i) (q:=f i) (by omega) (by omega) g1 g3 (by decide))] rfl ?_;exact rd (i+1) (by omega) h rfl
 ·have e:i=mf:=by omega
  rw [e];exact Ue [.F] rfl
theorem Qce {l:Um} (g:Ul) (h:0<l.length):(sB l++[[rp (zp g)]])[l.length-1]? = some [rp (zp (Ms l))]:=by
 rw [Zj (by rw [VQ]; omega)];exact YO (by omega)
theorem Qfs {a sq:Ul} {c:Um} (ta:U6 a) (ha:Bd 9000000 a) (la:a.length<=1000) (h2:2<=a.length) (hC:ChRun a sq c):Ui 172 [.one (rp (zp a))] [.one (.row (sB c))]:=by
 obtain ⟨⟨mf,f,hF,hP,rfl⟩,⟨n,hcr⟩,hbd,hle,hsm⟩:=hC;refine Fw func172 rfl ?_;refine Uc [.k (Qbl ta ha la h2 hF hP),.lo,.k (Qft (p:=Om f mf) (Ux hbd (by decide)) (by omega)),.k (wA (p:=Gk (Om f mf)) (Fq _ _) (Ux (xF (t:=10) hbd (by omega)) (by decide)) (Qc (P7 _) (by omega)))] rfl ?_;refine sb [(5,.v (.one (rp (zp (Ns (Gk (Om f mf))))))),(4,.v (.one (.orow 0 1 none)))] [.row false 163 1 (sB [Om f mf])] rfl rfl ?_;refine Uh (S:=Nat×Um×Ul) 1 (λL1 s=>(5,.v (.one (rp (zp s.2.2))))::(4,.v (.one (.orow 0 1 none)))::L1) (λs=>[.row false 163 1 (sB s.2.1)]) (λs=>s.1) (λs=>CRun s.1 s.2.1 s.2.2 c/\0<s.2.1.length/\s.2.1.length<=1001) (n,[Om f mf],Ns (Gk (Om f mf))) ⟨hcr,by show 0<1; decide,by show 1<=1001; decide⟩ rfl rfl λ⟨k,l,g⟩ ⟨hs1,hs2,hs3⟩=>?_
 have hs1:CRun k l g c:=hs1;have hs2:0<l.length:=hs2;have hs3:l.length<=1001:=hs3;have hll:=VQ l;have hgl:=ON g;dsimp only;rcases hs1.inv with ⟨hk,hlf,hg0⟩ | ⟨j,m2,r,hk,hg1,hg2,hg3,hrr,hrt,hrb,hrl,hl0,hl1,hcj⟩
 ·subst hlf;exact Ue [.F] rfl
 ·subst hk;refine go tt [.T,.s (sz:=1) (Qo8 _),.r 23 (eI (b:=((l.length-1:Nat):Int)) (by simp; omega)),.i (l.length-1),.x (Qce g hl0),.k (lN (a0:=Ms l) (b:=g) (res:=r) hg1 hg2 hg3 hrr),.k (wA (p:=r) hrt hrb hrl),.k (Qfq (p:=Ns r) (Qau hrb) (Qc (nH r) (by omega)))] rfl (by simp [Uw,hll]; omega) ?_;exact rd (j,l++[g],P9 (Ns r)) (by dsimp only; omega) ⟨hcj,by simp,by simp; omega⟩ (by rw [GM]; rfl)
theorem Qw7 {q:Rat} (h1:U9 q.num<=2000000) (h2:U9 (q.den:Int)<=2000000):Bd 9000000 [-q.num,(q.den:Int)]:=λz hz=>by
 simp only [Qm,Xw,or_false] at hz;rcases hz with rfl | rfl
 ·rw [Ht]; omega
 ·omega
abbrev aq (q:Rat) (c:Um):Uq:=[rp (zp [-q.num,(q.den:Int)]),.row (sB c)]++fr q++fr q
theorem wL {q:Rat} {c:Um} (hq:Qs 2000000 q) (hC:Qdt q c):Ui 132 [.agg (fr q)] [.agg (aq q c)]:=by
 obtain ⟨sq,hch⟩:=hC;have co:=VR (n:=1) (by decide);exact Uf func132 rfl [.k co,.k (Et (n:=q.num)),.k (Qer (z:=q.num)),.k co,.k (Et (n:=(q.den:Int))),.k (Qfs (a:=[-q.num,(q.den:Int)]) (Qaj q) (Qw7 hq.1 hq.2) (by show 2<=1000; decide) (Ql 2) hch)] rfl
end Orr
namespace Orr
end Orr
namespace Orr
open Go Go.Proofs Tryz
set_option maxRecDepth 10000
structure Rs (k:Crv):Prop where
 n:JR k
 c:Cs 100000 16 k



theorem Qos (l:Un) (n:Nat):(lm l).take (min l.length n)=lm (l.take n):=by
 rw [lm,lm,<-Jt];rcases Nat.le_total l.length n with h | h
 ·rw [Zx h,Q7,Qn h]
 ·rw [V5 h]
theorem Qtv {l:Un} {n:Nat} (hn:n<=1000):Ui 175 [.one (.row (lm l)),.oi n] [.one (.row (lm (l.take n)))]:=by
 rw [<-Qos];have hll:(lm l).length=l.length:=by simp [lm]
 exact Uf func175 rfl [.r 9 (eI (b:=((min l.length n:Nat):Int)) (by omega)),.i (min l.length n)] rfl rfl (by simp [Uw,hll]; omega)
def Ig (l:List RawInt):Ur:=l.map An
theorem Ou (l:List RawInt):(Ig l).length=l.length:=by simp [Ig]
abbrev rcw (z:RawPt):Uq:=[.row (Ig z.x),.row (Ig z.y),.bool z.d.b,.row (lm z.d.l)]
theorem UZ {z:RawInt} (hz:z.Ok) {most:Int} (hm:0<=most/\most<=999):Ui 137 [.agg (An z),.oi most] [.agg (Hg (Hu most z))]:=by
 obtain ⟨b,l⟩:=z;have hb:=KP hm.1 ⟨b,l⟩;have hs:U9 (Hu most ⟨b,l⟩)<=100000000:=Qc (Sl.2 (show (Hu most ⟨b,l⟩).natAbs<2^10 by omega)) (by decide);cases l with
 | nil=>exact Uf func137 rfl [.t rfl] rfl (by simp [Hu,D5]) trivial
 |
  cons u l =>
  have hu:=hz.u u (Qy ..);have co:=VR (n:=Hu most ⟨b,u::l⟩) (by omega);have ct:=Qtq hs;have hr:Int.tmod (u:Int) (most+1)=(u:Int) % (most+1):=Y3 (by omega);have h1:=Vi (u:Int) (b:=most+1) (by omega);have h2:=Yv (u:Int) (b:=most+1) (by omega);cases b with
  |
   true =>
   rw [show Hu most ⟨true,u::l⟩=-((u:Int) % (most+1)) from rfl] at co ct ⊢;exact Uf func137 rfl [.f (decide_eq_false (by simp [lm]; try omega)),.x (l:=lm (u::l)) (i:=0) (xs:=[.int .u32 (u:Int)]) rfl,.r 18 (eI hr),.t rfl,.k co,.k ct] rfl rfl (by simp [Uw]; omega)
  |
   false =>
   rw [show Hu most ⟨false,u::l⟩=(u:Int) % (most+1) from rfl] at co ct ⊢;exact Uf func137 rfl [.f (decide_eq_false (by simp [lm]; try omega)),.x (l:=lm (u::l)) (i:=0) (xs:=[.int .u32 (u:Int)]) rfl,.r 18 (eI hr),.f rfl,.k co,.k ct] rfl rfl (by simp [Uw]; omega)
theorem oz2 {P:Program} [Mo P] {n:Nat} {Q:Exit->Sg->Us->Prop} {L L':Sg} {B B':Us} (d off T sz:Nat) {it:List It} (hs:H9 it=true) (h:bN (P:=P) d L B [.oc d off T sz]=some (L',B',[],[])) (k:AK P n Q it L' B'):AK P n Q it L B:=AK.sub (EJ h EqOk.nil) hs k
theorem pz {P:Program} [Mo P] {n:Nat} {Q:Exit->Sg->Us->Prop} {L L':Sg} {B B':Us} (i:Nat) {it:List It} (hs:H9 it=true) (h:Qcx [i] L B=some (L',B')) (k:AK P n Q it L' B'):AK P n Q it L B:=AK.sub (FM h) hs k
def Ae (l:Ul):Ur:=l.map Hg
theorem qV (l:Ul):(Ae l).length=l.length:=by simp [Ae]
theorem RH {most:Int} {l:List RawInt} {i:Nat} {a:RawInt} (hi:i<3) (h:l[i]? = some a):Ae (Gi most (l.take (i+1)))=Ae (Gi most (l.take i))++[Hg (Hu most a)]:=by
 rw [yJ hi h]; simp [Ae]
theorem yZ {most:Int} {l:List RawInt} {i:Nat} (hi:i<=3) (h:i<=l.length):(Ae (Gi most (l.take i))).length=i:=by
 rw [qV]; unfold Gi; rw [List.length_map,List.length_take,List.length_take]; omega
def rwq (z:RawPt):Uq:=rcw z++[.int .i64 z.id]
end Orr
namespace Orr
open Go Go.Proofs Tryz Orq
set_option maxRecDepth 10000
end Orr
namespace Orr
open Go Go.Proofs Tryz
set_option maxRecDepth 10000
abbrev run1:Crv:=⟨[0,1],[],1⟩
theorem LY:JR run1:=⟨rfl,rfl,by decide,by decide⟩
theorem cs_run1:Cs 3 3 run1:=by
 refine ⟨λz hz=>?_,λz hz=>(by cases hz),by decide,by decide,by decide⟩;rcases Qm.1 hz with rfl | hz
 ·decide
 ·rw [Qk.1 hz]; decide
theorem Cs.up {s n s' n':Nat} {k:Crv} (h:Cs s n k) (hs:s<=s') (hn:n<=n'):Cs s' n' k:=⟨Ux h.x hs,Ux h.y hs,Qc h.d hs,Qc h.lx hn,Qc h.ly hn⟩
end Orr
namespace Orr
open Go Go.Proofs Tryz Orq
set_option maxRecDepth 10000
abbrev SO:List Pt:=[⟨run1,1⟩,⟨Oy 1 0,2⟩]
theorem Qwp:(Sf (tq 0) SO).map (·.id)=[1,2]:=by decide +kernel
theorem Qp6:Sc run1:=⟨LY,cs_run1.up (by decide) (by decide)⟩
theorem Qza:∀ p∈SO,Sc p.c:=λp hp=>by
 rcases Qm.1 hp with rfl | hp
 ·exact Qp6
 ·rw [Qk.1 hp]; exact tM (by decide) (by decide)


theorem BY {c:Cr} {l l':List Pt} {r1:Ur×Ur} {ws:List Wt} (hc:CrOk c) (hl:∀ p∈l',Sc p.c) (hn:l'.length≤1000) (h:Rz c.l c.now (Fp (PZ l' c.now))=some ws) :
 Uz prog 392 [.one (.ow 0 0),.agg [pts l'],.oi 0] [.blk 199 (To c (Uv l) r1)] [.oi 0] [.blk 199 (To ⟨c.now,ws,c.ev⟩ (Uv l') (pT l' c.now))]:=by
 have hB:=pY hl hn;have cn:=pE (T:=199) (c:=c) (r0:=Uv l') (r1:=r1) hc.n;have cb:=IF (c:=c) (r1:=r1) hl hn hc.n;have cg:=Qbb (T:=199) (r0:=Uv l') (r1:=pT l' c.now) hc hc.n (Ix hc.n) (J3 0) (hB.p _ hc.n) (hB.n _ hc.n) h;refine Fw func392 rfl ?_;exact Ug [] [0] [.f rfl,.c [0] cn,.c [0] cb,.c [0] cg] rfl
theorem Qna {lx ly:Ur} {px py:Ul} {x y:LV} {d id:Int} {c:Cr} {l:List Pt} {r1:Ur×Ur} {ws:List Wt} (hx:IsInts lx px) (hy:IsInts ly py) (hd:Gj x y d) (hk:Cs 4294967294 1073741824 (Crv.mk px py d)) (hll:l.length<=900)
 (he:WQ l ⟨Crv.norm (Crv.mk px py d),id⟩=0) (hc:CrOk c) (hl:∀ p∈put l ⟨Crv.norm (Crv.mk px py d),id⟩,Sc p.c) (hn:(put l ⟨Crv.norm (Crv.mk px py d),id⟩).length≤1000) (h:Rz c.l c.now (Fp (PZ (put l ⟨Crv.norm (Crv.mk px py d),id⟩) c.now))=some ws) :
 Uz prog 390 [.one (.ow 0 0),.agg [.row lx,.row ly,x,y,.int .i64 id]] [.blk 199 (To c (Uv l) r1)] [.oi 0] [.blk 199 (To ⟨c.now,ws,c.ev⟩ (Uv (put l ⟨Crv.norm (Crv.mk px py d),id⟩)) (pT (put l ⟨Crv.norm (Crv.mk px py d),id⟩) c.now))]:=by
 have cp:=wR (l:=l) (id:=id) hx hy hd hk (by omega);rw [if_pos he,he] at cp;have cw:=BY (l:=l) (r1:=r1) hc hl hn h;refine Fw func390 rfl ?_;obtain ⟨b,l',rfl,rfl,_⟩:=hd;exact Ug [] [0] [.k cp,.c [0] cw] rfl
theorem Qfa {lx ly:Ur} {px py:Ul} {x y:LV} {d id:Int} {c:Cr} {l l':List Pt} {r1:Ur×Ur} {ws:List Wt} (hx:IsInts lx px) (hy:IsInts ly py) (hd:Gj x y d) (hk:Cs 4294967294 1073741824 (Crv.mk px py d)) (hll:l.length<=1000) (h:has l id=true) (hc:CrOk c)
 (hl':l'=l.set (Ro l id) (Pt.mk (Crv.norm (Crv.mk px py d)) id)) (hs:∀ p∈l',Sc p.c) (hw:Rz c.l c.now (Fp (PZ l' c.now))=some ws) :
 Uz prog 391 [.one (.ow 0 0),.agg [.row lx,.row ly,x,y,.int .i64 id]] [.blk 199 (To c (Uv l) r1)] [.oi 0] [.blk 199 (To ⟨c.now,ws,c.ev⟩ (Uv l') (pT l' c.now))]:=by
 have ct1:=UQ (l:=l) hx hy hd hk (by omega) h;rw [<-hl'] at ct1;have cw:=BY (c:=c) (l:=l) (l':=l') (r1:=r1) hc hs (by rw [hl',Xf]; omega) hw;obtain ⟨b,r,rfl,rfl,_⟩:=hd;refine Fw func391 rfl ?_;exact Ug [] [0] [.k ct1,.c [0] cw] rfl
theorem Qe9 {id:Int} {c:Cr} {l l':List Pt} {r1:Ur×Ur} {ws:List Wt} (hll:l.length<=1000) (h:has l id=true) (hc:CrOk c)
 (hl':l'=l.take (Ro l id)++l.drop (Ro l id+1)) (hs:∀ p∈l',Sc p.c) (hw:Rz c.l c.now (Fp (PZ l' c.now))=some ws) :
 Uz prog 389 [.one (.ow 0 0),.oi id] [.blk 199 (To c (Uv l) r1)] [.oi 0] [.blk 199 (To ⟨c.now,ws,c.ev⟩ (Uv l') (pT l' c.now))]:=by
 have ct1:=WI (l:=l) (id:=id) (by omega) h;rw [<-hl'] at ct1;have cw:=BY (c:=c) (l:=l) (l':=l') (r1:=r1) hc hs (by rw [hl',Qu,Qr,Q9]; omega) hw;refine Fw func389 rfl ?_;exact Ug [] [0] [.k ct1,.c [0] cw] rfl
end Orr
namespace Orq
open Orr Go
def p3j (W:List Pt) (x:Pt) (i j:Nat):List P3:=Ch i W++(Hx j (W.drop (i+1))).map (λm=>(x,m))
def qT (W:List Pt) (x y:Pt) (i j k:Nat):List P3:=Ch i W++(Hx j (W.drop (i+1))++(((W.drop (i+1)).drop (j+1)).take k).map (λz=>(y,z))).map (λm=>(x,m))
theorem LG (W:List Pt) (x:Pt) (i:Nat):p3j W x i 0=Ch i W:=by simp [p3j,Hx]
theorem LR (W:List Pt) (x y:Pt) (i j:Nat):qT W x y i j 0=p3j W x i j:=by simp [qT,p3j]
theorem LH {W:List Pt} {x y z:Pt} {i j k:Nat} (h:((W.drop (i+1)).drop (j+1))[k]? = some z):qT W x y i j (k+1)=qT W x y i j k++[(x,y,z)]:=by
 unfold qT;rw [Z3,h]; simp
theorem yD {W:List Pt} {x y:Pt} {i j k:Nat} (hy:(W.drop (i+1))[j]? = some y) (hk:((W.drop (i+1)).drop (j+1)).length<=k):qT W x y i j k=p3j W x i (j+1):=by
 unfold qT p3j;rw [Qn hk,D7 _ j y hy]
theorem yC {W:List Pt} {x:Pt} {i j:Nat} (hx:W[i]? = some x) (hj:j=(W.drop (i+1)).length):p3j W x i j=Ch (i+1) W:=by
 unfold p3j;rw [hj,YD W i x hx]; rfl
theorem Qai {W:List Pt} {i:Nat} (h:i=W.length):Ch i W=Hl W:=by rw [h]; rfl
def p4j (W:List Pt) (x:Pt) (i j:Nat):List P4:=Db i W++(Ch j (W.drop (i+1))).map (λm=>(x,m))
def p4k (W:List Pt) (x y:Pt) (i j k:Nat):List P4:=Db i W++(p3j (W.drop (i+1)) y j k).map (λm=>(x,m))
def p4m (W:List Pt) (x y z:Pt) (i j k m:Nat):List P4:=Db i W++(qT (W.drop (i+1)) y z j k m).map (λm=>(x,m))
theorem Qi7 (W:List Pt) (x:Pt) (i:Nat):p4j W x i 0=Db i W:=by simp [p4j,Ch]
theorem Qi8 (W:List Pt) (x y:Pt) (i j:Nat):p4k W x y i j 0=p4j W x i j:=by unfold p4k p4j; rw [LG]
theorem Qja (W:List Pt) (x y z:Pt) (i j k:Nat):p4m W x y z i j k 0=p4k W x y i j k:=by unfold p4m p4k; rw [LR]
theorem Qi9 {W:List Pt} {x y z u:Pt} {i j k m:Nat} (h:(((W.drop (i+1)).drop (j+1)).drop (k+1))[m]? = some u):p4m W x y z i j k (m+1)=p4m W x y z i j k m++[(x,y,z,u)]:=by
 unfold p4m;rw [LH h]; simp
theorem Qpd {W:List Pt} {x y z:Pt} {i j k m:Nat} (hz:((W.drop (i+1)).drop (j+1))[k]? = some z) (hm:(((W.drop (i+1)).drop (j+1)).drop (k+1)).length<=m):p4m W x y z i j k m=p4k W x y i j (k+1):=by
 unfold p4m p4k;rw [yD hz hm]
theorem Qpc {W:List Pt} {x y:Pt} {i j k:Nat} (hy:(W.drop (i+1))[j]? = some y) (hk:k=((W.drop (i+1)).drop (j+1)).length):p4k W x y i j k=p4j W x i (j+1):=by
 unfold p4k p4j;rw [yC hy hk]
theorem Qpb {W:List Pt} {x:Pt} {i j:Nat} (hx:W[i]? = some x) (hj:j=(W.drop (i+1)).length):p4j W x i j=Db (i+1) W:=by
 unfold p4j;rw [hj,RE W i x hx]; rfl
theorem Qpt {W:List Pt} {i:Nat} (h:i=W.length):Db i W=Al W:=by rw [h]; rfl
theorem KE:∀ (k:Nat) (l:List Pt),∃ r,Fx l=Hx k l++r
 | 0,l=>⟨Fx l,rfl⟩
 | k+1,[]=>⟨[],rfl⟩
 |
  k+1,x::l=>by
  obtain ⟨r,h⟩:=KE k l;exact ⟨r,by show l.map _++Hx l.length l=l.map _++Hx k l++r; rw [show Hx l.length l=Fx l from rfl,h,Ze]⟩
theorem EO:∀ (k:Nat) (l:List Pt),∃ r,Hl l=Ch k l++r
 | 0,l=>⟨Hl l,rfl⟩
 | k+1,[]=>⟨[],rfl⟩
 |
  k+1,x::l=>by
  obtain ⟨r,h⟩:=EO k l;exact ⟨r,by show (Fx l).map _++Ch l.length l=(Fx l).map _++Ch k l++r; rw [show Ch l.length l=Hl l from rfl,h,Ze]⟩
theorem tZ:∀ (k:Nat) (l:List Pt),∃ r,Al l=Db k l++r
 | 0,l=>⟨Al l,rfl⟩
 | k+1,[]=>⟨[],rfl⟩
 |
  k+1,x::l=>by
  obtain ⟨r,h⟩:=tZ k l;exact ⟨r,by show (Hl l).map _++Db l.length l=(Hl l).map _++Db k l++r; rw [show Db l.length l=Al l from rfl,h,Ze]⟩
theorem iD {W:List Pt} (h6:W.length<=6) {x y:Pt} {i j k:Nat} (hx:W[i]? = some x) (hy:(W.drop (i+1))[j]? = some y):(qT W x y i j k).length<=20:=by
 have h0:=(YP h6).1;obtain ⟨r,hr⟩:=EO (i+1) W;rw [YD W i x hx] at hr;obtain ⟨r2,hr2⟩:=KE (j+1) (W.drop (i+1));rw [D7 _ j y hy] at hr2;have e1:=congrArg List.length hr;have e2:=congrArg List.length hr2;have e3:(((W.drop (i+1)).drop (j+1)).take k).length<=((W.drop (i+1)).drop (j+1)).length:=by rw [Qr]; exact Nat.min_le_right _ _
 unfold qT;simp only [Qu,Q8] at e1 e2 ⊢;omega
theorem Qpe {W:List Pt} (h6:W.length<=6) {x y z:Pt} {i j k m:Nat} (hx:W[i]? = some x) (hy:(W.drop (i+1))[j]? = some y) (hz:((W.drop (i+1)).drop (j+1))[k]? = some z):(p4m W x y z i j k m).length<=15:=by
 have h0:=(YP h6).2;obtain ⟨r,hr⟩:=tZ (i+1) W;rw [RE W i x hx] at hr;obtain ⟨r1,hr1⟩:=EO (j+1) (W.drop (i+1));rw [YD _ j y hy] at hr1;obtain ⟨r2,hr2⟩:=KE (k+1) ((W.drop (i+1)).drop (j+1));rw [D7 _ k z hz] at hr2;have e1:=congrArg List.length hr;have e2:=congrArg List.length hr1;have e4:=congrArg List.length hr2;have e3:((((W.drop (i+1)).drop (j+1)).drop (k+1)).take m).length<=(((W.drop (i+1)).drop (j+1)).drop (k+1)).length:=by rw [Qr]; exact Nat.min_le_right _ _
 unfold p4m qT;simp only [Qu,Q8] at e1 e2 e4 ⊢;omega
theorem Qcb {sg:Ul->Int} (hg:∀ p,-1<=He sg p/\He sg p<=1) (ps:List P3):kN (Aq (ZF sg ps)):=by
 have key:∀ (ps:List P3) (M:Ni),kN M->kN ((ZF sg ps).foldl (λM e=>Lp M e.1 (.int .i64 e.2)) M):=by
  intro ps
  induction ps with
  | nil=>intro M h; exact h
  | cons m ps ih=>intro M h; exact ih _ (Qh6 h (hg _))
 exact key ps [] Qh5
theorem pH (sg:Ul->Int) (T:Ni) (ps:List P4):VU (I5 T (VV sg ps)):=by
 have key:∀ (ps:List P4) (F:Ni),VU F->VU ((VV sg ps).foldl (λF e=>OV T e.2 e.1 F) F):=by
  intro ps
  induction ps with
  | nil=>intro M h; exact h
  | cons m ps ih=>intro M h; exact ih _ (pG h)
 exact key ps [] Qax
theorem qA (p:Ul) (q:Rat):-1<=H5 p q/\H5 p q<=1:=by
 rw [M8]; unfold U7
 split
 ·exact ⟨by decide,by decide⟩
 ·split <;> exact ⟨by decide,by decide⟩
theorem Qkn {p:Ul} {a:Tm} {s:Int} (h:GQ p a=some s):-1<=s/\s<=1:=by
 unfold GQ at h
 split at h
 ·injection h with h; subst h; exact ⟨by decide,by decide⟩
 ·split at h
  ·injection h with h; subst h; exact qA _ _
  ·obtain ⟨g,_,h⟩:=Qd.1 h
   split at h
   ·injection h with h; subst h; exact ⟨by decide,by decide⟩
   ·obtain ⟨c,_,h⟩:=Qd.1 h;obtain ⟨x,_,h⟩:=Qd.1 h;injection h with h; subst h; exact qA _ _
theorem Qhp (a:Tm) (p:Ul):-1<=He (Fl a) p/\He (Fl a) p<=1:=by
 have hs:∀ p,-1<=Fl a p/\Fl a p<=1:=λp=>by
  unfold Fl;cases h:GQ p a with
  | none=>exact ⟨by decide,by decide⟩
  | some s=>exact Qkn h
 have key:∀ (k:Nat) (p:Ul),-1<=Tk (Fl a) k p/\Tk (Fl a) k p<=1:=by
  intro k
  induction k with
  | zero=>intro p; exact ⟨by simp [Tk],by simp [Tk]⟩
  |
   succ k ih =>
   intro p;simp only [Tk]
   split
   ·exact ⟨by decide,by decide⟩
   ·split
    ·exact ih _
    ·exact hs p
 exact key _ p
end Orq
namespace Orr
open Go Go.Proofs Tryz Orq
set_option maxRecDepth 10000
theorem lV {a b c:Pt} {t:Tm} (ha:Sc a.c) (hb:Sc b.c) (hc:Sc c.c) (ht:Va t):Ui 163 [.oi 3,.agg (ta t),.one (.row [U5 a,U5 b,U5 c])] [.agg (Lm (D2 (Fl t) a b c)),.oi 0]:=by
 have hp:=(JE ha hb hc).dp;have e:Lm (D2 (Fl t) a b c)=[.int .i64 3,.int .i64 a.id,.int .i64 b.id,.int .i64 c.id,.int .i64 0,pl (Gt a.c b.c c.c),.int .i64 (He (Fl t) (Gt a.c b.c c.c))]:=by rw [D2]
 rw [e];have cg:=TC hp ht;have cf:=wG ha hb hc;generalize Gt a.c b.c c.c=F at *;refine Fw func163 rfl ?_;refine Uc [.k Qbg,.f rfl] rfl ?_;refine Uh (S:=Nat) 3 (λL1 i=>(22,.v (.oi i))::L1) (λi=>[.blk 189 (ta t),.blk 136 zCt,.blk 136 [.int .i64 3,.int .i64 (if 1<=i then a.id else 0),.int .i64 (if 2<=i then b.id else 0),.int .i64 (if 3<=i then c.id else 0),.int .i64 0,.nils,.int .i64 0]]) (λi=>3-i) (λi=>i<=3) 0 (Qh _) rfl rfl λi hi=>?_
 rcases (show i=0\/i=1\/i=2\/i=3 by omega) with rfl | rfl | rfl | rfl
 ·refine Uc [.t rfl,.x (i:=0) (xs:=U5 a) rfl,.i 0] rfl ?_ (by simp [Uw]);exact rd 1 (by omega) (by omega) rfl
 ·refine Uc [.t rfl,.x (i:=1) (xs:=U5 b) rfl,.i 1] rfl ?_ (by simp [Uw]);exact rd 2 (by omega) (by omega) rfl
 ·refine Uc [.t rfl,.x (i:=2) (xs:=U5 c) rfl,.i 2] rfl ?_ (by simp [Uw]);exact rd 3 (by omega) (by omega) rfl
 ·exact Ue [.f rfl,.f rfl,.f rfl,.t rfl,.x (i:=0) (xs:=U5 a) rfl,.x (i:=1) (xs:=U5 b) rfl,.x (i:=2) (xs:=U5 c) rfl,.k cf,.k cg] rfl
theorem A0 {α:Type} (s:α->α->α->Bool):∀ (l acc:List α) (c:α),Pn s acc (l++[c])=c::La s c (Pn s acc l)
 | [],_,_=>rfl
 | _::l,_,c=>A0 s l _ c
theorem lR {R:List Pt} {t:Tm} (hR:∀ p∈R,Sc p.c) (hn:R.length≤1000000) (ht:Va t):Ui 200 [.agg (ta t),.one (pts R)] [.one (pts (S8 (Fl t) R))]:=by
 have hcl:=Gu R;show Ui 200 [.agg (ta t),.one (.row (Uv R))] [.one (.row (Uv (Pn (UL (Fl t)) [] R).reverse))];obtain ⟨s,hs⟩:=nmE (UL (Fl t));have hs':∀ a b c,s a b c=decide (0<He (Fl t) (Gt a.c b.c c.c)):=λa b c=>by rw [hs]; rfl
 rw [<-hs];refine Fw func200 rfl ?_;refine Uc [.o 5 38 5] rfl ?_;refine Uh (S:=Nat) 2 (λL1 i=>(10,.v (.oi i))::(5,.v (.one (.orow 1 5 none)))::L1) (λi=>[.blk 189 (ta t),.row false 38 5 (Uv (Pn s [] (R.take i)).reverse)]) (λi=>R.length-i) (λi=>i<=R.length) 0 (Qh _) rfl rfl λi hi=>?_
 by_cases hlt:i<R.length
 ·obtain ⟨c,hc⟩:=gxE (l:=R) (i:=i) hlt;have hcp:=hR c (Qa hc);have hst:Pn s [] (R.take (i+1))=c::La s c (Pn s [] (R.take i)):=by rw [Z3,hc]; exact A0 s _ _ c
  obtain ⟨O,hO⟩:=nmE (Pn s [] (R.take i));have hOl:O.length<=1000000:=by
   have:=KZ s (R.take i) [];rw [<-hO,Qr] at this; simp at this; omega
  have hOm:∀ x∈O,Sc x.c:=λx hx=>by
   rw [hO] at hx;rcases KX hx with h | h
   ·cases h
   ·exact hR x (Qo h)
  rw [<-hO] at hst ⊢;have hrl:(Uv O.reverse).length=O.length:=by rw [Gu,Xs]
  have hm:∀ y∈[U5 c],y.length=5:=λy hy=>by rw [Qk.1 hy]; rfl
  have hget:∀ {pre r:List Pt} {x:Pt},O=pre++x::r->∀ j,j=r.length->(Uv O.reverse)[j]? = some (U5 x):=λ{pre r x} e j hj=>by
   refine Sp ?_;rw [e,hj]; simp
  have hfin:∀ {pre st:List Pt},O=pre++st->Uv (c::st).reverse=(Uv O.reverse).take st.length++[U5 c]:=λ{pre st} e=>by
   rw [e]; simp [Uv,Jt,List.take_append]
  have hfull:Uv (c::O).reverse=Uv O.reverse++[U5 c]:=by simp [Uv]
  refine Uc [.t (by simp [hcl]; omega),.x (Sp hc)] rfl ?_;refine Uh (S:=Bool×List Pt) 3 (λL1 s=>(5,.v (.one (.orow 1 5 (cond s.1 (some (0,s.2.length)) none))))::L1) (λ_=>[.blk 189 (ta t),.row false 38 5 (Uv O.reverse),.blk 38 (U5 c)]) (λs=>s.2.length) (λst=>(∃ pre,O=pre++st.2/\(st.1=false->pre=[]))/\La s c st.2=La s c O) (false,O) ⟨⟨[],rfl,λ_=>rfl⟩,rfl⟩ rfl rfl λ⟨b,st⟩ ⟨⟨pre,h1,h2⟩,h3⟩=>?_
  have h1:O=pre++st:=h1;have h3:La s c st=La s c O:=h3;have hl1:O.length=pre.length+st.length:=by rw [h1,Qu]
  have fin:∀ {st:List Pt},O=pre++st->La s c st=La s c O->La s c st=st->Uv (Pn s [] (R.take (i+1))).reverse=(Uv O.reverse).take st.length++[U5 c]/\(pre=[]->Uv (Pn s [] (R.take (i+1))).reverse=Uv O.reverse++[U5 c]):=λ{st} e1 e2 e3=>by
   rw [hst,<-e2,e3];refine ⟨hfin e1,λhp=>?_⟩;rw [hp] at e1;rw [<-hfull,e1]; rfl
  rcases st with _ | ⟨z,_ | ⟨y,r⟩⟩
  ·obtain ⟨f1,f2⟩:=fin h1 h3 rfl;cases b with
   |
    false =>
    have hp:=h2 rfl;have f2:=f2 hp;rw [hp] at hl1;have hl2:(Uv O.reverse).length<=1:=by rw [hrl,hl1]; simp
    refine Ud [.g 17 false Uj,.f rfl,.s (sz:=5) hm] rfl ?_;exact rd (i+1) (by omega) hlt (by rw [f2]; rfl)
   |
    true =>
    refine Ud [.g 17 false (decide_eq_false (by simp)),.f rfl,.s (sz:=5) hm] rfl ?_;exact rd (i+1) (by omega) hlt (by rw [f1]; rfl)
  ·obtain ⟨f1,f2⟩:=fin h1 h3 rfl;cases b with
   |
    false =>
    have hp:=h2 rfl;have f2:=f2 hp;rw [hp] at hl1;have hl2:(Uv O.reverse).length<=1:=by rw [hrl,hl1]; simp
    refine Ud [.g 17 false Uj,.f rfl,.s (sz:=5) hm] rfl ?_;exact rd (i+1) (by omega) hlt (by rw [f2]; rfl)
   |
    true =>
    refine Ud [.g 17 false (decide_eq_false (by simp)),.f rfl,.s (sz:=5) hm] rfl ?_;exact rd (i+1) (by omega) hlt (by rw [f1]; rfl)
  ·have sz:=hOm z (by rw [h1]; simp);have sy:=hOm y (by rw [h1]; simp);have co:=wG sy sz hcp;have cg:=TC (JE sy sz hcp).dp ht;have gz:=hget h1 (r.length+1) rfl;have gy:=hget (pre:=pre++[z]) (r:=r) (x:=y) (by rw [h1]; simp) r.length rfl;have hl1:O.length=pre.length+(r.length+2):=hl1;have hls:=hs' y z c;by_cases hq:s y z c=true
   ·have hg:¬He (Fl t) (Gt y.c z.c c.c)<=0:=by rw [hls] at hq; have:=of_decide_eq_true hq; omega
    obtain ⟨f1,f2⟩:=fin h1 h3 (by simp only [La]; rw [if_pos hq]);cases b with
    |
     false =>
     have hp:=h2 rfl;have f2:=f2 hp;rw [hp] at hl1;have hl2:(Uv O.reverse).length=r.length+2:=by rw [hrl,hl1]; simp
     refine Ud [.g 17 true Uk,.r 21 (eI (b:=(r.length:Int)) (by omega)),.i r.length,.x gy,.r 28 (eI (b:=((r.length+1:Nat):Int)) (by omega)),.i (r.length+1),.x gz,.k co,.k cg,.f (decide_eq_false hg),.s (sz:=5) hm] rfl ?_;exact rd (i+1) (by omega) hlt (by rw [f2]; rfl)
    |
     true =>
     refine Ud [.g 17 true (decide_eq_true (by simp; omega)),.r 21 (eI (b:=(r.length:Int)) (by simp; omega)),.i r.length,.x (l:=Uv O.reverse) (i:=0+r.length) (xs:=U5 y) (by rw [Zy]; exact gy),.r 28 (eI (b:=((r.length+1:Nat):Int)) (by simp)),.i (r.length+1),.x (l:=Uv O.reverse) (i:=0+(r.length+1)) (xs:=U5 z) (by rw [Zy]; exact gz),.k co,.k cg,.f (decide_eq_false hg),.s (sz:=5) hm] rfl ?_;exact rd (i+1) (by omega) hlt (by rw [f1]; rfl)
   ·have hg:He (Fl t) (Gt y.c z.c c.c)<=0:=by
     rw [hls] at hq; have:=of_decide_eq_false (Ws.2 hq); omega
    have hpop:La s c (y::r)=La s c O:=by rw [<-h3]; simp only [La]; rw [if_neg hq]
    have hin:(∃ pre',O=pre'++(y::r)/\((true:Bool)=false->pre'=[]))/\La s c (y::r)=La s c O:=⟨⟨pre++[z],by rw [h1]; simp,λh=>by cases h⟩,hpop⟩;cases b with
    |
     false =>
     have hp:=h2 rfl;rw [hp] at hl1;have hl2:(Uv O.reverse).length=r.length+2:=by rw [hrl,hl1]; simp
     refine Ud [.g 17 true Uk,.r 21 (eI (b:=(r.length:Int)) (by omega)),.i r.length,.x gy,.r 28 (eI (b:=((r.length+1:Nat):Int)) (by omega)),.i (r.length+1),.x gz,.k co,.k cg,.t (decide_eq_true hg),.r 42 (eI (b:=((r.length+1:Nat):Int)) (by omega)),.i (r.length+1)] rfl ?_;exact rd (true,y::r) (by simp) hin rfl
    |
     true =>
     refine Ud [.g 17 true (decide_eq_true (by simp; omega)),.r 21 (eI (b:=(r.length:Int)) (by simp; omega)),.i r.length,.x (l:=Uv O.reverse) (i:=0+r.length) (xs:=U5 y) (by rw [Zy]; exact gy),.r 28 (eI (b:=((r.length+1:Nat):Int)) (by simp)),.i (r.length+1),.x (l:=Uv O.reverse) (i:=0+(r.length+1)) (xs:=U5 z) (by rw [Zy]; exact gz),.k co,.k cg,.t (decide_eq_true hg),.r 42 (eI (b:=((r.length+1:Nat):Int)) (by simp)),.i (r.length+1)] rfl ?_;exact rd (true,y::r) (by simp) hin rfl
 ·obtain rfl:i=R.length:=by omega
  rw [Q7];exact Ue [.f (by simp [hcl])] rfl
theorem mV {sg:Ul->Int} {R:List Pt} (h:R≠[]):0<(S8 sg R).length:=by
 unfold S8;rw [Xs];obtain ⟨x,hx⟩:∃ x,R.getLast? = some x:=⟨_,Yo h⟩;obtain ⟨l,hl⟩:=Y6.1 hx;rw [hl,A0]; simp
theorem rS {α:Type} (s:α->α->α->Bool) (c:α):∀ {st:List α},st≠[]->0<(La s c st).length
 | [],h=>absurd rfl h
 | [_],_=>by simp [La]
 |
  b::a::r,_=>by
  simp only [La]
  split
  ·simp
  ·exact rS s c (by simp)
theorem BS {sg:Ul->Int} {R:List Pt} (h:2<=R.length):2<=(S8 sg R).length:=by
 unfold S8;rw [Xs];obtain ⟨x,hx⟩:∃ x,R.getLast? = some x:=⟨_,Yo (by intro e; rw [e] at h; simp at h)⟩;obtain ⟨l,hl⟩:=Y6.1 hx;have hl0:l≠[]:=by intro e; rw [hl,e] at h; simp at h
 have:=mV (sg:=sg) hl0;unfold S8 at this;rw [Xs] at this;have:=rS (UL sg) x (st:=Pn (UL sg) [] l) (by intro e; rw [e] at this; simp at this);rw [hl,A0,Q4]; omega
theorem lC {R:List Pt} {t:Tm} (hR:∀ p∈R,Sc p.c) (hn:R.length≤1000000) (ht:Va t):Ui 164 [.agg (ta t),.one (pts R)] [.one (pts (Lq (Fl t) R))]:=by
 have hcl:=Gu R;have hrl:=Gu R.reverse;rw [Xs] at hrl;show Ui 164 [.agg (ta t),.one (.row (Uv R))] [.one (.row (Uv (Lq (Fl t) R)))];refine Fw func164 rfl ?_;by_cases h3:R.length<3
 ·have e:Lq (Fl t) R=R:=if_pos h3;rw [e];exact Ue [.T] rfl
 have c1:=lR hR hn ht;have c2:=lR (R:=R.reverse) (λp hp=>hR p (Jl.1 hp)) (by rw [Xs]; exact hn) ht;have p1:=BS (sg:=Fl t) (R:=R) (by omega);have p2:=BS (sg:=Fl t) (R:=R.reverse) (by rw [Xs]; omega);have k1:=QJ (Fl t) R;have k2:=QJ (Fl t) R.reverse;rw [Xs] at k2;refine go tt [.F,.o 5 38 5,.r 15 (eI (b:=(R.length:Int)-1-((0:Nat):Int)) (by omega))] rfl (by simp [Uw,hcl]; omega) ?_;refine Uh (S:=Nat) 2 (λL1 j=>(6,.v (.oi ((R.length:Int)-1-(j:Int))))::(5,.v (.one (.orow 1 5 none)))::L1) (λj=>[.blk 189 (ta t),.row false 38 5 (Uv (R.reverse.take j))]) (λj=>R.length-j) (λj=>j<=R.length) 0 (Qh _) rfl rfl λj hj=>?_
 by_cases hlt:j<R.length
 ·obtain ⟨x,hx⟩:=gxE (l:=R) (i:=R.length-1-j) (by omega);have hx':R.reverse[j]? = some x:=by rw [List.getElem?_reverse (by omega)]; exact hx
  have hm:∀ y∈[U5 x],y.length=5:=λy hy=>by rw [Qk.1 hy]; rfl
  have e:Uv (R.reverse.take (j+1))=Uv (R.reverse.take j)++[U5 x]:=by rw [Z3,hx']; simp [Uv]
  have htl:(Uv (R.reverse.take j)).length=j:=by rw [Gu,Qr,Xs]; omega
  refine go tt [.T,.r 22 (eI (b:=((R.length-1-j:Nat):Int)) (by omega)),.x (Sp hx),.s (sz:=5) hm,.r 19 (eI (b:=(R.length:Int)-1-((j+1:Nat):Int)) (by omega))] rfl (by simp [Uw,htl]; omega) ?_;exact rd (j+1) (by omega) hlt (by rw [e]; rfl)
 ·obtain rfl:j=R.length:=by omega
  rw [Qn (by rw [Xs]; exact Ql _)];obtain ⟨A,hA⟩:=nmE (S8 (Fl t) R);obtain ⟨C,hC⟩:=nmE (S8 (Fl t) R.reverse);have e:Lq (Fl t) R=A.dropLast++C.dropLast:=by rw [hA,hC]; exact if_neg h3
  rw [<-hA] at c1 p1 k1;rw [<-hC] at c2 p2 k2;rw [e];have hs:∀ y∈(C.map U5).take (C.length-1),y.length=5:=λy hy=>YT C y (Qo hy)
  have hs2:∀ y∈(A.map U5).take (A.length-1),y.length=5:=λy hy=>YT A y (Qo hy)
  refine Ue [.F,.p 1,.k c1,.k c2,.r 36 (eI (b:=((A.length-1:Nat):Int)) (by simp; omega)),.r 39 (eI (b:=((A.length-1:Nat):Int)) (by simp; omega)),.i (A.length-1),.r 44 (eI (b:=((C.length-1:Nat):Int)) (by simp; omega)),.i (C.length-1),.s (sz:=5) hs] rfl (by simp [Uv,Jt,List.dropLast_eq_take]) ?_;simp only [Uw,Qr,Q8]
  and_intros <;> first | exact hs2 | omega
theorem TB {l:List Pt} {t:Tm} (hl:∀ p∈l,Sc p.c) (hn:l.length≤1000000) (ht:Va t):Uz prog 161 [.agg (ta t),.one (pts l)] [] [.one (.orow 0 7 none)] [.row false 136 7 (Fg (Ss (Fl t) l))]:=by
 have hcl:=Gu l;show Uz prog 161 [.agg (ta t),.one (.row (Uv l))] [] [.one (.orow 0 7 none)] [.row false 136 7 (Fg (Ss (Fl t) l))];refine Fw func161 rfl ?_;refine Uc [.o 5 136 7] rfl ?_;refine Uh (S:=Nat) 2 (λL1 i=>(6,.v (.oi ((i+1:Nat):Int)))::(5,.v (.one (.orow 1 7 none)))::L1) (λi=>[.blk 189 (ta t),.row false 136 7 (Fg ((Ss (Fl t) l).take i))]) (λi=>l.length-i) (λi=>i<=l.length-1) 0 (Qh _) rfl rfl λi hi=>?_
 by_cases hlt:i+1<l.length
 ·obtain ⟨a,ha⟩:=gxE (l:=l) (i:=i) (by omega);obtain ⟨b,hb⟩:=gxE (l:=l) (i:=i+1) hlt;have hg:=TQ (Fl t) ha hb;have hm:∀ y∈[Lm (QN (Fl t) a b)],y.length=7:=λy hy=>by rw [Qk.1 hy]; rfl
  refine go tt [.t (by simp [hcl]; omega),.r 19 (eI (b:=(i:Int)) (by simp)),.x (Sp ha),.x (Sp hb),.k (lY (hl a (Qa ha)) (hl b (Qa hb)) ht),.s (sz:=7) hm,.r 14 (eI (b:=((i+1+1:Nat):Int)) (by simp))] rfl (by simp [Uw,Gu,Nk,Bb]; omega) ?_;exact rd (i+1) (by omega) (by omega) (by rw [hg]; simp [Fg]; rfl)
 ·have e:(Ss (Fl t) l).take i=Ss (Fl t) l:=Qn (by rw [Bb]; omega);rw [e];exact Ug [] [1] [.f (by simp [hcl]; omega)] rfl
theorem uA {C:List Pt} {i:Nat} {a b:Pt} (ha:C[i]? = some a) (hb:C[(i+1) % C.length]? = some b):(Rl C)[i]? = some (a,b):=by
 have hi:=(Qf.1 ha).1;unfold Rl;rw [List.getElem?_zip_eq_some];refine ⟨ha,?_⟩;by_cases h:i+1<C.length
 ·rw [Xx h] at hb;rw [Zj (by rw [Q9]; omega),Xe,Js]; exact hb
 ·have e:i+1=C.length:=by omega
  rw [e,Nat.mod_self] at hb;rw [Xb (by rw [Q9]; omega),Q9,show i-(C.length-1)=0 by omega,Kf (by omega)]; exact hb
theorem uI (C:List Pt):(Rl C).length=C.length:=by
 unfold Rl;rw [List.length_zip,Qu,Q9,Qr]; omega
theorem EA {α β:Type} {f:α->List β} {l:List α} {i:Nat} {x:α} (h:l[i]? = some x):(l.take (i+1)).flatMap f=(l.take i).flatMap f++f x:=by
 rw [Z3,h]; simp
theorem TK {α β:Type} {f:α->β} {p:α->Bool} {l:List α} {i:Nat} {x:α} (h:l[i]? = some x):((l.take (i+1)).filter p).map f=((l.take i).filter p).map f++if p x=true then [f x] else []:=by
 rw [Z3,h,Vk,Yf];congr 1;simp only [Option.toList];by_cases hp:p x=true
 ·rw [if_pos hp,X8 hp]; rfl
 ·rw [if_neg hp,Jv hp]; rfl
theorem fY {α β:Type} {f:α->List β} {n:Nat} (hf:∀ x,(f x).length<=n) (l:List α):(l.flatMap f).length<=l.length*n:=KW f n l λx _=>hf x
theorem Qap {l:List Pt} (hl:∀ p∈l,Sc p.c):∀ p∈l,Qsq 4294967294 1073741824 p:=λp hp=>⟨(hl p hp).n,(hl p hp).c.mono (by decide) (by decide)⟩
set_option maxHeartbeats 4000000 in
theorem IK {l:List Pt} {a:Tm} {c:Cr} {r1:Ur} (hl:∀ p∈l,Sc p.c) (hn:l.length≤10) (ha:Va a):Uz prog 129 [.one (.ow 0 0),.agg (ta a)] [.blk 201 (Hn c (Uv l) r1)] [.one (.row (Fg (GO l a)))] [.blk 201 (Hn c (Uv l) (brH l a))]:=by
 have hwl:=As l;have cw:=pA (l:=l) (Qap hl) (by omega);have cr:=wT (l:=Rj l) (λp hp=>hl p (Mf hp)) (by omega) ha;have cn:=lC (R:=Sf a (Rj l)) (λp hp=>hl p (Mf (Hj.1 hp))) (by rw [Cd]; omega) ha;have cr2:=wT hl (by omega) ha;have cc:=TB (l:=Sf a l) (t:=a) (λp hp=>hl p (Hj.1 hp)) (by rw [Cd]; omega) ha;have hCm:∀ p∈Pd l a,p∈l:=λp hp=>Iz hp
 have hCl:=HG l a;have e0:GO l a=O2 l a++Nn (Fl a) l (Pd l a):=rfl;rw [e0];show Uz prog 129 _ _ _ [.blk 201 (Hn c (Uv l) (Uv (Pd l a)))];have cn:Ui 164 [.agg (ta a),.one (pts (Sf a (Rj l)))] [.one (pts (Pd l a))]:=cn;have cc:Uz prog 161 [.agg (ta a),.one (pts (Sf a l))] [] [.one (.orow 0 7 none)] [.row false 136 7 (Fg (O2 l a))]:=cc;have hbl:(O2 l a).length<=10:=by unfold O2; rw [Bb,Cd]; omega
 obtain ⟨C,hC⟩:=nmE (Pd l a);obtain ⟨cs0,hc0⟩:=nmE (O2 l a);rw [<-hC] at cn hCm hCl ⊢;rw [<-hc0] at cc hbl ⊢;have hcp:=Gu C;have hlp:=Gu l;have eel:∀ x,(E5 (Fl a) l x).length<=l.length:=λx=>by unfold E5; rw [List.length_map]; exact List.length_filter_le _ _
 refine Fw func129 rfl ?_;refine Uc [.k cw,.k cr,.k cn,.k Ii,.k cr2,.c [2] cc] rfl ?_;by_cases h2:C.length<2
 ·have e:Nn (Fl a) l C=[]:=if_pos h2;rw [e,Zv];exact Ug [2] [0] [.t (decide_eq_true (by simp; omega))] rfl
 have e:Nn (Fl a) l C=(Rl C).flatMap (E5 (Fl a) l):=if_neg h2;rw [e];refine Uc [.f (decide_eq_false (by simp; omega))] rfl ?_;refine sb [(48,.v (.oi 0)),(47,.v (.oi ((C.map U5).length:Int))),(46,.v (.one (pts C))),(6,.v (.one (.orow 2 7 none))),(3,.v (.one (.ow 1 0))),(0,.v (.one (.ow 0 0)))] [.blk 201 (Hn c (Uv l) (Uv C)),.blk 189 (ta a),.row false 136 7 (Fg cs0)] rfl rfl ?_;rw [show Fg cs0=Fg (cs0++((Rl C).take 0).flatMap (E5 (Fl a) l)) by simp];refine Uh (S:=Nat) 3 (λL1 i=>(48,.v (.oi i))::(6,.v (.one (.orow 2 7 none)))::L1) (λi=>[.blk 201 (Hn c (Uv l) (Uv C)),.blk 189 (ta a),.row false 136 7 (Fg (cs0++((Rl C).take i).flatMap (E5 (Fl a) l)))]) (λi=>C.length-i) (λi=>i<=C.length) 0 (Qh _) rfl rfl λi hi=>?_
 by_cases hlt:i<C.length
 ·obtain ⟨x,hx⟩:=gxE (l:=C) (i:=i) hlt;obtain ⟨y,hy⟩:=gxE (l:=C) (i:=(i+1) % C.length) (Z7 _ (by omega));have he:=uA hx hy;have sx:=hl x (hCm x (Qa hx));have sy:=hl y (hCm y (Qa hy));have hflat:=EA (f:=E5 (Fl a) l) he;obtain ⟨F,hF⟩:=nmE (cs0++((Rl C).take i).flatMap (E5 (Fl a) l));have hFl:F.length<=10+20*10:=by
   have h1:=fY eel ((Rl C).take i);have h2:((Rl C).take i).length*l.length<=20*10:=Za (by rw [Qr]; omega) hn;rw [hF,Qu]; omega
  have hmod:(((i+1:Nat):Int)).tmod ((C.map U5).length:Int)=(((i+1) % C.length:Nat):Int):=by rw [Q8]; exact (Int.ofNat_tmod _ _).symm
  have hm0:=Vi ((i+1:Nat):Int) (show (C.length:Int)≠0 by omega);have hm1:=Yv ((i+1:Nat):Int) (show (0:Int)<C.length by omega);have hnext:cs0++((Rl C).take (i+1)).flatMap (E5 (Fl a) l)=F++(l.filter (VY (x,y))).map λc=>D2 (Fl a) x y c:=by rw [hflat,<-Ze,<-hF]; rfl
  rw [<-hF];refine go tt [.t (decide_eq_true (by simp; omega)),.x (Sp hx),.r 58 (eI (b:=((i+1:Nat):Int)) (by simp)),.r 64 (eI (b:=(((i+1) % C.length:Nat):Int)) hmod),.x (Sp hy),.k Ii] rfl (by simp only [Uw]; omega) ?_;rw [show Fg F=Fg (F++((l.take 0).filter (VY (x,y))).map λc=>D2 (Fl a) x y c) by simp];refine Uh (S:=Nat) 5 (λL1 k=>(73,.v (.oi k))::(6,.v (.one (.orow 2 7 none)))::L1) (λk=>[.blk 201 (Hn c (Uv l) (Uv C)),.blk 189 (ta a),.row false 136 7 (Fg (F++((l.take k).filter (VY (x,y))).map λc=>D2 (Fl a) x y c)),.blk 38 (U5 x),.blk 38 (U5 y)]) (λk=>l.length-k) (λk=>k<=l.length) 0 (Qh _) rfl rfl λk hk=>?_
  by_cases hlk:k<l.length
  ·obtain ⟨z,hz⟩:=gxE (l:=l) (i:=k) hlk;have sz:=hl z (Qa hz);have hflt:=TK (f:=λc=>D2 (Fl a) x y c) (p:=VY (x,y)) hz;obtain ⟨G,hG⟩:=nmE (((l.take k).filter (VY (x,y))).map λc=>D2 (Fl a) x y c);have hGl:G.length<=10:=by
    have h1:=Yy (VY (x,y)) (l.take k);rw [Qr] at h1;rw [hG,Q8]; omega
   rw [<-hG] at hflt ⊢;by_cases h1:z.id=x.id
   ·rw [if_neg (show ¬VY (x,y) z=true by simp [VY,h1]),Zv] at hflt;refine Ud [.t (decide_eq_true (by simp; omega)),.x (Sp hz),.g 82 false (decide_eq_false (by simp [h1])),.f rfl] rfl ?_;exact rd (k+1) (by omega) hlk (by rw [hflt]; rfl)
   ·by_cases h2:z.id=y.id
    ·rw [if_neg (show ¬VY (x,y) z=true by simp [VY,h2]),Zv] at hflt;refine Ud [.t (decide_eq_true (by simp; omega)),.x (Sp hz),.g 82 true (decide_eq_true h1),.f (decide_eq_false (by simp [h2]))] rfl ?_;exact rd (k+1) (by omega) hlk (by rw [hflt]; rfl)
    ·rw [if_pos (show VY (x,y) z=true by simp [VY,h1,h2])] at hflt;have hm:∀ q∈[Lm (D2 (Fl a) x y z)],q.length=7:=λq hq=>by rw [Qk.1 hq]; rfl
     refine go tt [.t (decide_eq_true (by simp; omega)),.x (Sp hz),.g 82 true (decide_eq_true h1),.t (decide_eq_true h2),.k (lV sx sy sz ha),.s (sz:=7) hm] rfl (by simp [Uw,Nk]; omega) ?_;have e3:Fg (F++(G++[D2 (Fl a) x y z]))=Fg (F++G)++[Lm (D2 (Fl a) x y z)]:=by simp [Fg]
     exact rd (k+1) (by omega) hlk (by rw [hflt,e3]; rfl)
  ·obtain rfl:k=l.length:=by omega
   rw [Q7,<-hnext];refine Ud [.f (decide_eq_false (by simp))] rfl ?_;exact rd (i+1) (by omega) hlt rfl
 ·obtain rfl:i=C.length:=by omega
  rw [Qn (by rw [uI]; exact Ql _)];exact Ug [2] [0] [.f (decide_eq_false (by simp))] rfl
theorem ozM {P:Program} [Mo P] {n:Nat} {Q:Exit->Sg->Us->Prop} {L L':Sg} {B B':Us} (d off T sz:Nat) {it:List It} (hs:H9 it=true) (h:bN (P:=P) d L B [.oc d off T sz]=some (L',B',[],[])) (k:AK P n Q it L' B'):AK P n Q it L B:=AK.sub (EJ h EqOk.nil) hs k
theorem xE {k:Crv} (hk:Sc k):Ui 241 [.agg (cl k)] [.one (.row (JQ (Ib k)))]:=by
 have ok:=FW hk.n hk.c;have l1:=Rq k.x k.x;have l2:=Rq k.y k.y;have:=hk.c.lx;have:=hk.c.ly;have bx:Bd 258 (Gf k.x k.x):=Mi (u:=2) hk.c.x hk.c.x (by omega);have by_:Bd 258 (Gf k.y k.y):=Mi (u:=2) hk.c.y hk.c.y (by omega);have c1:=Mz (p:=k.x) (c:=k.d) (by omega) (Ux hk.c.x (by decide)) (Qc hk.c.d (by decide));have c2:=Mz (p:=k.y) (c:=k.d) (by omega) (Ux hk.c.y (by decide)) (Qc hk.c.d (by decide));have c3:=HY (p:=k.x) (q:=k.x) hk.n.1 hk.n.1 (by omega) (by omega) hk.c.x hk.c.x (by decide);have c4:=HY (p:=k.y) (q:=k.y) hk.n.2.1 hk.n.2.1 (by omega) (by omega) hk.c.y hk.c.y (by decide);have c5:=xR (p:=Gf k.x k.x) (q:=Gf k.y k.y) (by omega) (by omega) (Ux bx (by decide)) (Ux by_ (by decide));have c6:=Nj (Uy k.d) (Uy k.d) (Qc hk.c.d (by decide)) (Qc hk.c.d (by decide));have hl:∀ p∈Ib k,p.length≤1000000:=λp hp=>by
  obtain ⟨j,hj⟩:=X1 hp;have h1:=ok.2 j p hj;have:[2,2,4,0].getD j 0<=4:=by
   match j with
   | 0=>decide
   | 1=>decide
   | 2=>decide
   | 3=>decide
   | j+4=>simp
  omega
 have cd:=Qeb (r:=Ib k) (λp hp=>(ok.1 p hp).1) (λp hp=>Ux (ok.1 p hp).2 (by decide)) hl (by show 4<=1000; decide);exact Uf func241 rfl [.k (Dh hk.n (hk.c.mono (by decide) (by decide))),.k c1,.k c2,.k c3,.k c4,.k c5,.k c6,.k cd] rfl
theorem Qel {a b c d:Crv} (ha:Sc a) (hb:Sc b) (hc:Sc c) (hd:Sc d):Ui 199 [.agg (cl a),.agg (cl b),.agg (cl c),.agg (cl d)] [pr (ZJ a b c d)]:=by
 have cd:=Qrg (by decide) (k:=4) (ds:=[2,2,4,0]) (by decide) rfl (by decide) (EP ha.n hb.n hc.n hd.n ha.c hb.c hc.c hd.c);exact Uf func199 rfl [.k (xE ha),.k (xE hb),.k (xE hc),.k (xE hd),.k cd] rfl
set_option maxHeartbeats 1000000 in
theorem Qms {a b c d:Pt} {t:Tm} (ha:Sc a.c) (hb:Sc b.c) (hc:Sc c.c) (hd:Sc d.c) (ht:Va t):Ui 163 [.oi 4,.agg (ta t),.one (.row [U5 a,U5 b,U5 c,U5 d])] [.agg (Lm (qK (Fl t) a b c d)),.oi 0]:=by
 have hp:=(eP ha hb hc hd).dp;have e:Lm (qK (Fl t) a b c d)=[.int .i64 4,.int .i64 a.id,.int .i64 b.id,.int .i64 c.id,.int .i64 d.id,pl (ZJ a.c b.c c.c d.c),.int .i64 (He (Fl t) (ZJ a.c b.c c.c d.c))]:=by rw [qK]
 rw [e];have cg:=TC hp ht;have cf:=Qel ha hb hc hd;generalize ZJ a.c b.c c.c d.c=F at *;refine Fw func163 rfl ?_;refine Uc [.k Qbh,.f rfl] rfl ?_;refine Uh (S:=Nat) 3 (λL1 i=>(22,.v (.oi i))::L1) (λi=>[.blk 189 (ta t),.blk 136 zCt,.blk 136 [.int .i64 4,.int .i64 (if 1<=i then a.id else 0),.int .i64 (if 2<=i then b.id else 0),.int .i64 (if 3<=i then c.id else 0),.int .i64 (if 4<=i then d.id else 0),.nils,.int .i64 0]]) (λi=>4-i) (λi=>i<=4) 0 (Qh _) rfl rfl λi hi=>?_
 rcases (show i=0\/i=1\/i=2\/i=3\/i=4 by omega) with rfl | rfl | rfl | rfl | rfl
 ·refine Uc [.t rfl,.x (i:=0) (xs:=U5 a) rfl,.i 0] rfl ?_ (by simp [Uw]);exact rd 1 (by omega) (by omega) rfl
 ·refine Uc [.t rfl,.x (i:=1) (xs:=U5 b) rfl,.i 1] rfl ?_ (by simp [Uw]);exact rd 2 (by omega) (by omega) rfl
 ·refine Uc [.t rfl,.x (i:=2) (xs:=U5 c) rfl,.i 2] rfl ?_ (by simp [Uw]);exact rd 3 (by omega) (by omega) rfl
 ·refine Uc [.t rfl,.x (i:=3) (xs:=U5 d) rfl,.i 3] rfl ?_ (by simp [Uw]);exact rd 4 (by omega) (by omega) rfl
 ·exact Ue [.f rfl,.f rfl,.f rfl,.f rfl,.t rfl,.x (i:=0) (xs:=U5 a) rfl,.x (i:=1) (xs:=U5 b) rfl,.x (i:=2) (xs:=U5 c) rfl,.x (i:=3) (xs:=U5 d) rfl,.k cf,.k cg] rfl
end Orr
