/- R25 HullT H4 SD1 SC1 NewsN W1 W2 WR18 WS18 X20 B20 TouL TouQ RiseL AscL HLineL A20 WL20 WS20 SD2 WD18 WD20 ReadN LastN LastR LastT -/
import Derived.Test.YtkkhemmhhedniaaGreatPart09
import Derived.Test.YtkkhemmhhedniaaGreatPart00
import Derived.Test.YtkkhemmhhedniaaGreatPart08
import Derived.Test.YtkkhemmhhedniaaGreatPart04
import Derived.Test.YtkkhemmhhedniaaGreatPart05
import Derived.Deep.Slices
import Derived.ProofKit
import Derived.OpenShut
import Derived.WideKeyArgs
import Derived.SizedLaws
set_option linter.all false
namespace Orr
open Go Go.Proofs Orq
set_option maxRecDepth 10000
def Ce (sg:List Int->Int) (a b c:Pt):Ct:=⟨3,a.id,b.id,c.id,0,P9 a.c b.c c.c,Tg sg (P9 a.c b.c c.c)⟩
theorem Q71 {a b u:Pt} {q:Rat} {c:List (List Int)} (ha:Rs a.c) (hb:Rs b.c) (hu:Rs u.c) (hq:Qs 1000000 q):Uu Tryz.prog 321 [.one (.int .i64 3),.agg (aq q c),.one (.row [Dc a,Dc b,Dc u])] [.agg (rct (Ce (sgq q) a b u)),.one (.bool true)]:=by
 have x0:[Dc a,Dc b,Dc u][0]? = some (Dc a):=rfl;have x1:[Dc a,Dc b,Dc u][1]? = some (Dc b):=rfl;have x2:[Dc a,Dc b,Dc u][2]? = some (Dc u):=rfl;have cf:=Qnd ha hb hu;have hsz:=Qlt ha hb hu;have cg:=Ay (c:=c) (Ut hsz.1 (by decide)) (Qc hsz.2 (by decide)) hq;have e:rct (Ce (sgq q) a b u)=[.int .i64 3,.int .i64 a.id,.int .i64 b.id,.int .i64 u.id,.int .i64 0,rp (zp (P9 a.c b.c u.c)),.int .i64 (My (P9 a.c b.c u.c) q),.row [],.bool false]:=by simp only [Ce,rct,Qxn]
 rw [e];generalize P9 a.c b.c u.c=F at *;refine Gs Tryz.func321 rfl ?_;refine go tt [.g 14 false rfl,.g 18 false rfl,.x (l:=[[.int .i64 0],[.int .i64 2],[.int .i64 2],[.int .i64 3],[.int .i64 4],[.int .i64 4]]) (i:=3) (xs:=[.int .i64 3]) rfl,.f rfl] rfl trivial ?_;refine lp (S:=Nat) 3 (λL1 i=>(33,.v (.one (.int .i64 (i:Int))))::L1) (λi=>[.blk 37 (aq q c),.blk 272 rzc,.blk 272 [.int .i64 3,.int .i64 (if 0<i then a.id else 0),.int .i64 (if 1<i then b.id else 0),.int .i64 (if 2<i then u.id else 0),.int .i64 0,.nils,.int .i64 0,.nils,.bool false]]) (λi=>3-i) (λi=>i<=3) 0 (by decide) rfl (λ_ _=>rfl) rfl λi hi=>?_
 rcases (show i=0\/i=1\/i=2\/i=3 by omega) with rfl | rfl | rfl | rfl
 ·exact go tt [.t rfl,.x x0,.i 0] rfl (by simp [Us]) (rd 1 (by omega) (by omega) rfl)
 ·exact go tt [.t rfl,.x x1,.i 1] rfl (by simp [Us]) (rd 2 (by omega) (by omega) rfl)
 ·exact go tt [.t rfl,.x x2,.i 2] rfl (by simp [Us]) (rd 3 (by omega) (by omega) rfl)
 exact en tt [.f rfl,.f rfl,.f rfl,.t rfl,.x x0,.x x1,.x x2,.c [] cf,.c [] cg] rfl rfl trivial
theorem Zep {a b u:Pt} {q:Rat} {c:List (List Int)} (ha:Rs a.c) (hb:Rs b.c) (hu:Rs u.c) (hq:Qs 1000000 q):Uu Tryz.prog 292 [.one (.int .i64 3),.agg (aq q c),.one (.row [Dc a,Dc b,Dc u])] [.agg (rct (Ce (sgq q) a b u))] :=
 w tt Tryz.func292 rfl [.c [] (Q71 ha hb hu hq)] rfl rfl trivial
theorem Q74 {l:List Ct} (hn:l.length<=1000000):Gn Tryz.prog 293 [.one (.row (Gm l))] [] [.one (.orow 0 9 none)] [.row false 272 9 (Gm (Fy Ti l))]:=by
 have hcl:=M7 l;refine Gs Tryz.func293 rfl ?_;refine go tt [.o 3 272 9] rfl trivial ?_;refine lp (S:=Nat) 1 (λL1 i=>(8,.v (.one (.int .i64 (i:Int))))::(3,.v (.one (.orow 0 9 none)))::L1) (λi=>[.row false 272 9 (Gm (Fy Ti (l.take i)))]) (λi=>l.length-i) (λi=>i<=l.length) 0 (Qh _) rfl (λ_ _=>rfl) rfl λi hi=>?_
 by_cases hlt:i<l.length
 ·obtain ⟨c,hc⟩:=gxE (l:=l) (i:=i) hlt;have hst:Fy Ti (l.take (i+1))=P7 Ti (Fy Ti (l.take i)) c:=Ei hc;obtain ⟨O,hO⟩:=nmE (Fy Ti (l.take i));have hOl:O.length=i:=by rw [hO,Re,Qp]; omega
  have hrl:=M7 O;rw [<-hO] at hst ⊢;refine go tt [.t (decide_eq_true (by omega))] rfl trivial ?_;refine lp (S:=Nat) 1 (λL1 k=>(5,.v (.one (.int .i64 (k:Int))))::L1) (λ_=>[.row false 272 9 (Gm O)]) id (λk=>k<=O.length/\Tp Ti O c k=Tp Ti O c O.length) (Gm O).length ⟨by omega,by rw [hrl]⟩ rfl (λ_ _=>rfl) rfl λk ⟨hk,hp⟩=>?_
  have h7:=Qh1 O;have h7z:∀ y∈[rct c],y.length=9:=λy hy=>by rw [Qk.1 hy]; rfl
  cases k with
  |
   zero =>
   have hp:Tp Ti O c O.length=0:=by rw [<-hp]; rfl
   refine go tt [.g 15 false (by simp),.f rfl,.i 0,.x (Mv hc),.lo,.i 0,.s (sz:=9) (λy hy=>h7 y (Qn hy)),.s (sz:=9) (λy hy=>(Qu.1 hy).elim (h7z y) λhy=>h7 y (Qn hy))] rfl (by simp [Us]; omega) ?_;exact rd (i+1) (by omega) hlt (by rw [hst,<-Qee hp]; rfl)
  |
   succ k =>
   obtain ⟨x,hx⟩:=gxE (l:=O) (i:=k) (by omega);have cb:=Q0n (k:=c.kind) (i0:=c.i0) (i1:=c.i1) (i2:=c.i2) (i3:=c.i3) (l:=x.kind) (j0:=x.i0) (j1:=x.i1) (j2:=x.i2) (j3:=x.i3);by_cases hlc:Ti c x=true
   ·refine go tt [.g 15 true (by simp),.x (Mv hc),.r 23 (eI (b:=(k:Int)) (by simp)),.i k,.x (Mv hx),.c [] cb,.t hlc,.r 30 (eI (b:=(k:Int)) (by simp))] rfl (by simp [Us]; omega) ?_;exact rd k (by simp) ⟨by omega,by rw [<-hp,Qb1 hx hlc]⟩ rfl
   ·have hlc:Ti c x=false:=by simpa using hlc
    have hp:Tp Ti O c O.length=k+1:=by rw [<-hp,Ii hx hlc]
    refine go tt [.g 15 true (by simp),.x (Mv hc),.r 23 (eI (b:=(k:Int)) (by simp)),.i k,.x (Mv hx),.c [] cb,.f hlc,.i (k+1),.x (Mv hc),.lo,.i (k+1),.s (sz:=9) (λy hy=>h7 y (Q9 (Qn hy))),.s (sz:=9) (λy hy=>(Qu.1 hy).elim (h7z y) λhy=>h7 y (Q9 (Qn hy)))] rfl (by simp [Us]; omega) ?_;exact rd (i+1) (by omega) hlt (by rw [hst,<-Qee hp]; rfl)
 ·obtain rfl:i=l.length:=by omega
  rw [Qy];exact ed tt [] [0] [.f (decide_eq_false (by omega))] rfl trivial
theorem Qmv {l:List Pt} {q:Rat} {cs:List (List Int)} (hl:∀ p∈l,Rs p.c) (hn:l.length≤1000) (hq:Qs 1000000 q):Gn Tryz.prog 254 [.one (.row (Fc l)),.agg (aq q cs)] [] [.one (.orow 0 9 none)] [.row false 272 9 (Gm (Qov q l))]:=by
 have c1:=Qne (cs:=cs) hl (by omega) hq;have hML:(Fy (Cg q) l).length=l.length:=Re _ _;have hMl:∀ p∈Fy (Cg q) l,Rs p.c:=λp hp=>hl p (S8.1 hp)
 unfold Qov;obtain ⟨M,hM⟩:=nmE (Fy (Cg q) l);rw [<-hM] at c1 hML hMl ⊢;have hcl:=Hf M;have hrl:=Nj (sgq q) M;have c2:=Q74 (l:=Sj (sgq q) M) (by omega);refine Gs Tryz.func254 rfl ?_;refine go tt [.c [] c1,.o 6 272 9] rfl trivial ?_;refine lp (S:=Nat) 2 (λL1 i=>(7,.v (.one (.int .i64 (i:Int))))::(6,.v (.one (.orow 1 9 none)))::L1) (λi=>[.blk 37 (aq q cs),.row false 272 9 (Gm ((Sj (sgq q) M).take i))]) (λi=>M.length-i) (λi=>i<=M.length-1) 0 (Qh _) rfl (λ_ _=>rfl) rfl λi hi=>?_
 have htl:(Gm ((Sj (sgq q) M).take i)).length=i:=by rw [M7,Qp]; omega
 by_cases hlt:i+1<M.length
 ·obtain ⟨a,ha⟩:=gxE (l:=M) (i:=i) (by omega);obtain ⟨b,hb⟩:=gxE (l:=M) (i:=i+1) hlt;have hg:=Qg1 (sgq q) ha hb;have hm:∀ y∈[rct (Nw (sgq q) a b)],y.length=9:=λy hy=>by rw [Qk.1 hy]; rfl
  refine go tt [.t (decide_eq_true (by omega)),.x (Fb ha),.x (Fb hb),.c [] (Zeo (hMl a (Qa ha)) (hMl b (Qa hb)) hq),.s (sz:=9) hm] rfl (by simp [Us,htl]; omega) ?_;exact rd (i+1) (by omega) (by omega) (by rw [hg]; simp [Gm]; rfl)
 ·have e:(Sj (sgq q) M).take i=Sj (sgq q) M:=Ql (by omega);rw [e];exact ed tt [] [2] [.f (decide_eq_false (by omega)),.p 1,.c [2] c2] rfl (by simp [Us]; omega)
def Lu (q:Rat) (l:List Pt) (e:Pt×Pt):List Ct:=(l.filter (Sf e)).map λc=>Ce (sgq q) e.1 e.2 c
def Qgf (q:Rat) (l C:List Pt):List Ct:=if C.length<2 then [] else (Ft C).flatMap (Lu q l)
def Qcq (q:Rat) (l:List Pt):List Ct:=Fy Ti (Qov q l++Qgf q l (Qd0 q l))
theorem Qkr {q:Rat} {l:List Pt} (x:Pt×Pt):(Lu q l x).length<=l.length:=by unfold Lu; rw [List.length_map]; exact List.length_filter_le _ _
theorem Qla {q:Rat} {l C:List Pt} (hn:l.length<=10) (hC:C.length<=11):(Qgf q l C).length<=110:=by
 unfold Qgf
 split
 ·exact Qh _
 ·have h1:=E5 (f:=Lu q l) Qkr (Ft C);rw [E3] at h1;have h2:C.length*l.length<=11*10:=Zh hC hn;omega
theorem Qow (q:Rat) (l:List Pt):(Qov q l).length<=l.length:=by
 unfold Qov;rw [Re];have:=Nj (sgq q) (Fy (Cg q) l);rw [Re] at this;omega
theorem Q5f (q:Rat) {l:List Pt} (hn:l.length<=10):(Qcq q l).length<=1000000:=by
 unfold Qcq;have h1:=Qow q l;have h2:=Qla (q:=q) (C:=Qd0 q l) hn (Qc (Qs8 q l).2 (by omega));rw [Re,Q3]; omega
set_option maxHeartbeats 4000000 in
theorem Qp2 {l:List Pt} {q:Rat} {cs:List (List Int)} (hl:∀ p∈l,Rs p.c) (hn:l.length≤10) (hq:Qs 1000000 q):Uu Tryz.prog 256 [.one (.row (Fc l)),.agg (aq q cs)] [.one (.row (Gm (Qcq q l)))]:=by
 have c1:=Qmv (cs:=cs) hl (by omega) hq;have c2:=Qw6 (cs:=cs) hl (by omega) hq;obtain ⟨hCm,hCl⟩:=Qs8 q l;have hrl:=Qow q l;have hhl:=Qla (q:=q) (C:=Qd0 q l) hn (by omega);unfold Qcq;obtain ⟨C,hC⟩:=nmE (Qd0 q l);obtain ⟨cs0,hc0⟩:=nmE (Qov q l);rw [<-hC] at c2 hCm hCl hhl ⊢;rw [<-hc0] at c1 hrl ⊢;have c9:=Zem (l:=cs0++Qgf q l C) (by rw [Q3]; omega);have hcp:=Hf C;have hlp:=Hf l;refine Gs Tryz.func256 rfl ?_;refine go tt [.c [1] c1,.c [] c2] rfl trivial ?_;by_cases h2:C.length<2
 ·have e:Qgf q l C=[]:=if_pos h2;rw [e,Zq] at c9 ⊢;refine lp (S:=Unit) 2 (λL1 _=>(7,.v (.one (.int .i64 0)))::(5,.v (.one (.orow 1 9 none)))::L1) (λ_=>[.blk 37 (aq q cs),.row false 272 9 (Gm cs0)]) (λ_=>0) (λ_=>True) () trivial rfl (λ_ _=>rfl) rfl λ_ _=>?_
  by_cases h0:C.length=0
  ·exact en tt [.g 21 false (decide_eq_false (by omega)),.f rfl,.c [] c9] rfl rfl (by simp [Us] <;> omega)
  ·exact en tt [.g 21 true (decide_eq_true (by omega)),.f (decide_eq_false (by omega)),.c [] c9] rfl rfl (by simp [Us] <;> omega)
 have e:Qgf q l C=(Ft C).flatMap (Lu q l):=if_neg h2;rw [e] at c9 ⊢;refine sb [(7,.v (.one (.int .i64 0))),(6,.v (.one (.row (Fc C)))),(5,.v (.one (.orow 1 9 none))),(3,.v (.one (.ow 0 0))),(0,.v (.one (.row (Fc l))))] [.blk 37 (aq q cs),.row false 272 9 (Gm cs0)] rfl rfl ?_;rw [show Gm cs0=Gm (cs0++((Ft C).take 0).flatMap (Lu q l)) by simp];refine lp (S:=Nat) 2 (λL1 i=>(7,.v (.one (.int .i64 (i:Int))))::(5,.v (.one (.orow 1 9 none)))::L1) (λi=>[.blk 37 (aq q cs),.row false 272 9 (Gm (cs0++((Ft C).take i).flatMap (Lu q l)))]) (λi=>C.length-i) (λi=>i<=C.length) 0 (Qh _) rfl (λ_ _=>rfl) rfl λi hi=>?_
 by_cases hlt:i<C.length
 ·obtain ⟨x,hx⟩:=gxE (l:=C) (i:=i) hlt;obtain ⟨y,hy⟩:=gxE (l:=C) (i:=(i+1) % C.length) (Z4 _ (by omega));have he:=Qak hx hy;have sx:=hl x (hCm x (Qa hx));have sy:=hl y (hCm y (Qa hy));have hflat:=Ej (f:=Lu q l) he;obtain ⟨F,hF⟩:=nmE (cs0++((Ft C).take i).flatMap (Lu q l));have hFl:F.length<=10+20*10:=by
   have h1:=E5 (f:=Lu q l) Qkr ((Ft C).take i);have h2:((Ft C).take i).length*l.length<=20*10:=Zh (by rw [Qp]; omega) hn;rw [hF,Q3]; omega
  have hmod:(((i+1:Nat):Int)).tmod ((Fc C).length:Int)=(((i+1) % C.length:Nat):Int):=by rw [hcp]; exact (Int.ofNat_tmod _ _).symm
  have hm0:=J4 ((i+1:Nat):Int) (show (C.length:Int)≠0 by omega);have hm1:=Jb ((i+1:Nat):Int) (show (0:Int)<C.length by omega);have hnext:cs0++((Ft C).take (i+1)).flatMap (Lu q l)=F++(l.filter (Sf (x,y))).map λc=>Ce (sgq q) x y c:=by rw [hflat,<-Zl,<-hF]; rfl
  rw [<-hF];refine go tt [.g 21 true (decide_eq_true (by omega)),.t (decide_eq_true (by omega)),.x (Fb hx),.r 34 (eI (b:=((i+1:Nat):Int)) (by simp)),.r 37 (eI (b:=(((i+1) % C.length:Nat):Int)) hmod),.x (Fb hy)] rfl (by simp only [Us]; omega) ?_;rw [show Gm F=Gm (F++((l.take 0).filter (Sf (x,y))).map λc=>Ce (sgq q) x y c) by simp];refine lp (S:=Nat) 4 (λL1 k=>(42,.v (.one (.int .i64 (k:Int))))::(5,.v (.one (.orow 1 9 none)))::L1) (λk=>[.blk 37 (aq q cs),.row false 272 9 (Gm (F++((l.take k).filter (Sf (x,y))).map λc=>Ce (sgq q) x y c)),.blk 57 (Dc x),.blk 57 (Dc y)]) (λk=>l.length-k) (λk=>k<=l.length) 0 (Qh _) rfl (λ_ _=>rfl) rfl λk hk=>?_
  by_cases hlk:k<l.length
  ·obtain ⟨z,hz⟩:=gxE (l:=l) (i:=k) hlk;have sz:=hl z (Qa hz);have hflt:=Cj (f:=λc=>Ce (sgq q) x y c) (p:=Sf (x,y)) hz;obtain ⟨G,hG⟩:=nmE (((l.take k).filter (Sf (x,y))).map λc=>Ce (sgq q) x y c);have hGl:G.length<=10:=by
    have h1:=V1 (Sf (x,y)) (l.take k);rw [Qp] at h1;rw [hG,Q5]; omega
   have hrF:=M7 (F++G);rw [Q3] at hrF;rw [<-hG] at hflt ⊢;by_cases h1:z.id=x.id
   ·rw [if_neg (show ¬Sf (x,y) z=true by simp [Sf,h1]),Zq] at hflt;refine go tt [.t (decide_eq_true (by omega)),.x (Fb hz),.g 53 false (decide_eq_false (by simp [h1])),.f rfl] rfl (by simp [Us] <;> omega) ?_;exact rd (k+1) (by omega) hlk (by rw [hflt]; rfl)
   ·by_cases h2:z.id=y.id
    ·rw [if_neg (show ¬Sf (x,y) z=true by simp [Sf,h2]),Zq] at hflt;refine go tt [.t (decide_eq_true (by omega)),.x (Fb hz),.g 53 true (decide_eq_true h1),.x (Fb hz),.f (decide_eq_false (by simp [h2]))] rfl (by simp [Us] <;> omega) ?_;exact rd (k+1) (by omega) hlk (by rw [hflt]; rfl)
    ·rw [if_pos (show Sf (x,y) z=true by simp [Sf,h1,h2])] at hflt;have hm:∀ v∈[rct (Ce (sgq q) x y z)],v.length=9:=λv hv=>by rw [Qk.1 hv]; rfl
     refine go tt [.t (decide_eq_true (by omega)),.x (Fb hz),.g 53 true (decide_eq_true h1),.x (Fb hz),.t (decide_eq_true h2),.x (Fb hz),.c [] (Zep sx sy sz hq),.s (sz:=9) hm] rfl (by simp [Us,hrF] <;> omega) ?_;have e3:Gm (F++(G++[Ce (sgq q) x y z]))=Gm (F++G)++[rct (Ce (sgq q) x y z)]:=by simp [Gm]
     exact rd (k+1) (by omega) hlk (by rw [hflt,e3]; rfl)
  ·obtain rfl:k=l.length:=by omega
   rw [Qy,<-hnext];refine go tt [.f (decide_eq_false (by omega))] rfl (by simp [Us] <;> omega) ?_;exact rd (i+1) (by omega) hlt rfl
 ·obtain rfl:i=C.length:=by omega
  rw [Ql (by rw [E3]; exact Qm _)];exact en tt [.g 21 false (decide_eq_false (by omega)),.f rfl,.c [] c9] rfl rfl (by simp [Us] <;> omega)
theorem Q37 {l:List Pt} {q:Rat} {cs:List (List Int)} (hl:∀ p∈l,Rs p.c) (hn:l.length≤10) (hq:Qs 1000000 q):Uu Tryz.prog 200 [.one (.int .i64 2),.one (.row (Fc l)),.agg (aq q cs)] [.one (.row (Gm (Qcq q l)))] :=
 w tt Tryz.func200 rfl [.f rfl,.f rfl,.t rfl,.c [] (Qp2 hl hn hq)] rfl rfl trivial
theorem Qwj {l:List Pt} {q:Rat} {cs:List (List Int)} (hl:∀ p∈l,Rs p.c) (hn:l.length≤10) (hq:Qs 1000000 q):Uu Tryz.prog 128 [.one (.int .i64 2),.one (.row (Fc l)),.agg (aq q cs)] [.one (.row (Gm (Qcq q l)))] :=
 w tt Tryz.func128 rfl [.c [] (Q37 hl hn hq)] rfl rfl trivial
end Orr
namespace Orq
open Orr Go
section
variable {α:Type} {lt lt':α->α->Bool}
theorem Ql1 {out:List α} {x:α} (h:∀ y∈out,lt x y=lt' x y):∀ k,Tp lt out x k=Tp lt' out x k
 | 0=>rfl
 |
  k+1=>by
  simp only [Tp];cases hy:out[k]? with
  | none=>rfl
  | some y=>simp only [h y (Qa hy),Ql1 h k]
theorem Qhl {l:List α} (h:∀ u∈l,∀ v∈l,lt u v=lt' u v):∀ (m out:List α),(∀ x∈m,x∈l)->(∀ x∈out,x∈l)->m.foldl (P7 lt) out=m.foldl (P7 lt') out
 | [],_,_,_=>rfl
 |
  x::m,out,h1,h2=>by
  have e:P7 lt out x=P7 lt' out x:=by
   unfold P7; rw [Ql1 λy hy=>h x (h1 x (by simp)) y (h2 y hy)]
  simp only [Z6];rw [e];exact Qhl h m _ (λy hy=>h1 y (Qj _ hy)) λy hy=>by
   rcases Qef.1 hy with rfl | hy
   ·exact h1 _ (by simp)
   ·exact h2 y hy
end
theorem Qyw {a:Tm} {l:List Pt} {q:Rat} (hb:∀ u∈l,∀ v∈l,(Te (G9 a) u v=true↔Bu q u v)) (hd:l.Pairwise λx y=>x.id≠y.id):(So a l).Pairwise (Bu q) :=
 foldG_pw (S:=λx=>x∈l) (D:=λx y=>x.id≠y.id) (Qbw q) (λu v hu hv h=>(hb u hu v hv).1 h) (λu v hu hv hne h=>Qt9 (λe=>hne e.symm) λh'=>by
  rw [(hb u hu v hv).2 h'] at h; cases h) l [] .nil (λx hx=>by cases hx) (λx hx=>hx) hd (λx hx=>by cases hx)
theorem Zkm {a:Tm} (ha:Va a) {u v:Pt} (hu:Sc u.c) (hv:Sc v.c) {q:Rat} (h1:Tg (G9 a) (Hk u.c v.c)=U5 (Uy (Hk u.c v.c) q)) (h2:Tg (G9 a) (Hq u.c v.c)=U5 (Uy (Hq u.c v.c) q)) (hne:u.c≠v.c) (h:Bu q u v):lx (px · q) (py · q) u v:=by
 rcases h with h | ⟨h,h3⟩
 ·exact .inl h
 rcases h3 with h3 | ⟨h3,_⟩
 ·exact .inr ⟨h,h3⟩
 ·exfalso;rw [Qo9 hu hv] at h1;rw [Qo7 hu hv] at h2;have z1:U5 (px v q-px u q)=0:=Fv.2 (by grind);have z2:U5 (py v q-py u q)=0:=Fv.2 (by grind);rw [z1] at h1;rw [z2] at h2;have e1:(Hk u.c v.c).length=0:=Decidable.byContradiction λe=>(Od ha (Qaf hu hv).dp e).2 h1
  have e2:(Hq u.c v.c).length=0:=Decidable.byContradiction λe=>(Od ha (Qae hu hv).dp e).2 h2
  exact hne (Zf5 hu.n hv.n (Qi e1) (Qi e2))
structure LowC (X Y:Pt->Rat) (R L:List Pt):Prop where
 hd:L.head? = R.head?
 la:L.getLast? = R.getLast?
 srt:L.Pairwise (lx X Y)
 mem:∀ p∈L,p∈R
 edg:Edg (λa b=>∀ p∈R,0≤M5 X Y a b p) L
 cnv:Cnv (λa b c=>0<M5 X Y a b c) L
theorem Qnh {X Y:Pt->Rat} {sg:List Int->Int} {R:List Pt} (hs:∀ a∈R,∀ b∈R,∀ c∈R,(Qei sg a b c=true↔0<M5 X Y a b c)) (hR:R.Pairwise (lx X Y)) (h0:R≠[]):LowC X Y R (Sr sg R):=by
 cases R with
 | nil=>exact absurd rfl h0
 |
  cons f R =>
  obtain ⟨t,st,g1,g2,g3,g4⟩:=Qni hs hR R [f] f [] rfl ⟨Vi _ _,λp hp=>by rw [Qk.1 hp]; simp,trivial,trivial⟩ rfl rfl;have e:Sr sg (f::R)=(t::st).reverse:=by
   unfold Sr;rw [<-g1]; rfl
  rw [e];exact ⟨by rw [List.head?_reverse,g4],by rw [List.getLast?_reverse]; exact g3.symm,K7.2 g2.srt,λp hp=>g2.mem p (Jd.1 hp),g2.edg.rev,g2.cnv.rev⟩
theorem Zk3 {X Y:Pt->Rat} {R:List Pt} (hR:R.Pairwise (lx X Y)):∀ p∈R,∀ q∈R,p=q\/lx X Y p q\/lx X Y q p:=λp hp q hq=>by
 by_cases e:p=q
 ·exact .inl e
 ·exact .inr (Qvb hR hp hq e)
theorem Q9z {X Y:Pt->Rat} {R L L':List Pt} (hR:R.Pairwise (lx X Y)) (h:LowC X Y R L) (h':LowC X Y R L'):L=L':=by
 have hh:=h.hd.trans h'.hd.symm;have hl:=h.la.trans h'.la.symm;cases L with
 |
  nil=>cases L' with
  | nil=>rfl
  | cons _ _=>simp at hh
 |
  cons f M=>cases L' with
  | nil=>simp at hh
  |
   cons f' M' =>
   simp at hh;subst hh;obtain ⟨z,hz⟩:∃ z,(f::M).getLast? = some z:=⟨_,Yo (by simp)⟩;rw [Q8e (Zk3 hR) M M' f h.srt h'.srt h.mem h'.mem h.edg h'.edg h.cnv h'.cnv hz (hl ▸ hz)]
theorem Qvj {x y:Rat} (h:U5 x=U5 y):(0<=x->0<=y)/\(0<x->0<y):=by
 have h1:=Fq x;have h2:=Fq y;grind
theorem Qs3 {X Y X' Y':Pt->Rat} {R:List Pt}:∀ {L:List Pt},(∀ p∈L,p∈R)->(∀ e∈Eu L,∀ p∈R,U5 (M5 X Y e.1 e.2 p)=U5 (M5 X' Y' e.1 e.2 p))->Cnv (λa b c=>0<M5 X Y a b c) L->Cnv (λa b c=>0<M5 X' Y' a b c) L
 | [],_,_,_=>trivial
 | [_],_,_,_=>trivial
 | [_,_],_,_,_=>trivial
 | a::b::c::l,hm,he,h=>⟨(Qvj (he (a,b) (by simp [Eu]) c (hm c (by simp)))).2 h.1,Qs3 (λp hp=>hm p (Qj _ hp)) (λe hx=>he e (Qj _ hx)) h.2⟩
theorem Qua {X Y X' Y':Pt->Rat} {R L:List Pt} (h:LowC X Y R L) (hl:∀ u∈R,∀ v∈R,lx X Y u v->lx X' Y' u v) (he:∀ e∈Eu L,∀ p∈R,U5 (M5 X Y e.1 e.2 p)=U5 (M5 X' Y' e.1 e.2 p)):LowC X' Y' R L :=
 ⟨h.hd,h.la,h.srt.imp_of_mem λhu hv h'=>hl _ (h.mem _ hu) _ (h.mem _ hv) h',h.mem,Qqf.2 λe hx p hp=>(Qvj (he e hx p hp)).1 (Qqf.1 h.edg e hx p hp),Qs3 h.mem he h.cnv⟩
theorem Qq8 (X Y:Pt->Rat) (a b c:Pt):M5 (λp=>-X p) (λp=>-Y p) a b c=M5 X Y a b c:=by unfold M5; grind
theorem Qqz {X Y:Pt->Rat} {a b:Pt}:lx (λp=>-X p) (λp=>-Y p) a b↔lx X Y b a:=by unfold lx; grind
theorem Zit {L:List Pt} {f z:Pt} (h1:L.head? = some f) (h2:L.getLast? = some z) (hne:f≠z):∃ A,L=f::A++[z]:=by
 cases L with
 | nil=>cases h1
 |
  cons g M =>
  simp at h1;subst h1;cases M with
  | nil=>simp at h2; exact absurd h2 hne
  |
   cons x M =>
   rw [Jz] at h2;obtain ⟨A,hA⟩:=Y8.1 h2;exact ⟨A,by rw [hA]; rfl⟩
theorem Qky {α β:Type} {f g:α->List β}:∀ {m:List α},(∀ x∈m,f x=g x)->m.flatMap f=m.flatMap g
 | [],_=>rfl
 | x::m,h=>by rw [J3,J3,h x (by simp),Qky λy hy=>h y (Qj _ hy)]
theorem Qtz {sa sb:List Int->Int} {l C:List Pt} (h:∀ x∈Pf sa l C,Tg sb x.p=Tg sa x.p):Pf sb l C=Pf sa l C:=by
 by_cases h2:C.length<2
 ·unfold Pf; rw [if_pos h2,if_pos h2]
 ·have e:∀ s,Pf s l C=(Ft C).flatMap (Su s l):=λs=>if_neg h2
  rw [e] at h ⊢;rw [e];refine Qky λx hx=>Ys λc hc=>?_
  have:=h (Pu sa x.1 x.2 c) (Zy.2 ⟨x,hx,Wq hc⟩);show (⟨3,x.1.id,x.2.id,c.id,0,Hh x.1.c x.2.c c.c,Tg sb (Hh x.1.c x.2.c c.c)⟩:Ct)=⟨3,x.1.id,x.2.id,c.id,0,Hh x.1.c x.2.c c.c,Tg sa (Hh x.1.c x.2.c c.c)⟩;have this:Tg sb (Hh x.1.c x.2.c c.c)=Tg sa (Hh x.1.c x.2.c c.c):=this;rw [this]
theorem Q21 {l:List Pt} (hd:l.Pairwise λx y=>x.id≠y.id) {u v:Pt} (hu:u∈l) (hv:v∈l) (h:u.id=v.id):u=v:=by
 refine Classical.byContradiction λe=>?_
 rcases Qvb hd hu hv e with h' | h'
 ·exact h' h
 ·exact h' h.symm
structure Soon (l:List Pt) (a:Tm) (q:Rat):Prop where
 g:∀ p∈Qdq l++Qji l,Tg (G9 a) p=U5 (Uy p q)
 b:∀ u∈l,∀ v∈l,(Te (G9 a) u v=true↔Bu q u v)
 o:∀ u∈l,∀ v∈l,∀ w∈l,Tg (G9 a) (Hh u.c v.c w.c)=U5 (M5 (px · q) (py · q) u v w)
 t:∀ u∈l,∀ v∈l,∀ w∈l,(Qei (G9 a) u v w=true↔0<M5 (px · q) (py · q) u v w)
 r:(So a (Mc l)).Pairwise (lx (px · q) (py · q))
theorem Zcc {l:List Pt} (hl:∀ p∈l,Sc p.c) (hd:l.Pairwise λx y=>x.id≠y.id) {a:Tm} (ha:Va a):∃ y,Ff a y=-1/\∀ q,Ff a q=-1->q≤y->Soon l a q:=by
 obtain ⟨y,y1,y2⟩:=Qk5 ha (Qdq l++Qji l) λp hp=>(Qii hl p hp).dp
 refine ⟨y,y1,λq q1 q2=>?_⟩;have g:=y2 q q1 q2;have gP:=λp hp=>g p (Ju _ hp)
 have b:∀ u∈l,∀ v∈l,(Te (G9 a) u v=true↔Bu q u v):=λu hu v hv=>Qjp ha (hl u hu) (hl v hv) (gP _ (Cz hu hv).1) (gP _ (Cz hu hv).2)
 have o:∀ u∈l,∀ v∈l,∀ w∈l,Tg (G9 a) (Hh u.c v.c w.c)=U5 (M5 (px · q) (py · q) u v w):=λu hu v hv w hw=>by
  rw [g _ (Yc _ (Qso hu hv hw)),Qy2 (hl u hu) (hl v hv) (hl w hw)]
 refine ⟨g,b,o,λu hu v hv w hw=>?_,?_⟩
 ·unfold Qei;rw [o u hu v hv w hw,decide_eq_true_eq];have:=Fq (M5 (px · q) (py · q) u v w);grind
 ·have hw:∀ u∈Mc l,u∈l:=λu hu=>Mq hu
  have h1:=Qyw (a:=a) (l:=Mc l) (q:=q) (λu hu v hv=>b u (hw u hu) v (hw v hv)) (List.Pairwise.sublist (Zcw l) hd);have h2:(So a (Mc l)).Pairwise λx y=>x.c≠y.c:=(List.Perm.pairwise_iff (λ{x y} h e=>h e.symm) (Qmi (lt:=Te (G9 a)) (Mc l))).2 (Zhg l)
  refine (h1.and h2).imp_of_mem λ{u v} hu hv h=>?_
  have hu:=hw u (Hr.1 hu);have hv:=hw v (Hr.1 hv);exact Zkm ha (hl u hu) (hl v hv) (gP _ (Cz hu hv).1) (gP _ (Cz hu hv).2) h.2 h.1
theorem Q22 {l:List Pt} (hl:∀ p∈l,Sc p.c) (hd:l.Pairwise λx y=>x.id≠y.id) {a:Tm} (ha:Va a):∃ q,Soon l a q :=
 let ⟨y,h1,h2⟩:=Zcc hl hd ha
 ⟨y,h2 y h1 Qq⟩
theorem Qkd {l:List Pt} {a:Tm} {q:Rat} (S:Soon l a q) (h3:3<=(So a (Mc l)).length):∃ f z A B,Sr (G9 a) (So a (Mc l))=f::A++[z]/\Sr (G9 a) (So a (Mc l)).reverse=z::B++[f]/\LowC (px · q) (py · q) (So a (Mc l)) (f::A++[z])/\LowC (λp=>-px p q) (λp=>-py p q) (So a (Mc l)).reverse (z::B++[f])/\Ft (Hx l a)=Eu (f::A++[z])++Eu (z::B++[f])/\2<=(Hx l a).length:=by
 obtain ⟨R,hR⟩:=nmE (So a (Mc l));have hm:∀ x∈R,x∈l:=λx hx=>by rw [hR] at hx; exact Mq (Hr.1 hx)
 have r:=S.r;rw [<-hR] at r h3 ⊢;have h0:R≠[]:=λe=>by rw [e] at h3; simp at h3
 have c1:=Qnh (sg:=G9 a) (λu hu v hv w hw=>S.t u (hm u hu) v (hm v hv) w (hm w hw)) r h0;have r2:R.reverse.Pairwise (lx (λp=>-px p q) (λp=>-py p q)):=K7.2 (r.imp λh=>Qqz.2 h);have c2:=Qnh (sg:=G9 a) (R:=R.reverse) (X:=λp=>-px p q) (Y:=λp=>-py p q) (λu hu v hv w hw=>by
  rw [Qq8 (px · q) (py · q)];exact S.t u (hm u (Jd.1 hu)) v (hm v (Jd.1 hv)) w (hm w (Jd.1 hw))) r2 (by simpa using h0)
 obtain ⟨f,hf⟩:∃ f,R.head? = some f:=by cases R with
  | nil=>exact absurd rfl h0
  | cons f _=>exact ⟨f,rfl⟩
 obtain ⟨z,hz⟩:∃ z,R.getLast? = some z:=⟨_,Yo h0⟩;have hne:f≠z:=λe=>by
  subst e;cases R with
  | nil=>exact absurd rfl h0
  |
   cons g M =>
   simp at hf; subst hf;cases M with
   | nil=>simp at h3
   |
    cons x M =>
    rw [Jz] at hz;exact Dk _ ((Q6.1 r).1 g (V9 hz))
 obtain ⟨A,hA⟩:=Zit (c1.hd.trans hf) (c1.la.trans hz) hne;obtain ⟨B,hB⟩:=Zit (c2.hd.trans (by rw [List.head?_reverse]; exact hz)) (c2.la.trans (by rw [List.getLast?_reverse]; exact hf)) (Ne.symm hne);have hc:Hx l a=(f::A++[z]).dropLast++(z::B++[f]).dropLast:=by
  unfold Hx Dq;rw [<-hR,if_neg (by omega),hA,hB]
 rw [hA] at c1;rw [hB] at c2;refine ⟨f,z,A,B,hA,hB,c1,c2,by rw [hc]; exact Qtm,?_⟩;rw [hc,V8,V8];simp; omega
theorem Q4t {l:List Pt} (hl:∀ p∈l,Sc p.c) (hd:l.Pairwise λx y=>x.id≠y.id) {a b:Tm} (ha:Va a) (hb:Va b) (h:∀ x∈bcH l a,Tg (G9 b) x.p=Tg (G9 a) x.p):Hx l b=Hx l a/\bcH l b=bcH l a:=by
 obtain ⟨q,Sa⟩:=Q22 hl hd ha;obtain ⟨r,Sb⟩:=Q22 hl hd hb;obtain ⟨k1,k2⟩:=Zbp hl hd ha hb λx hx=>h x (Ju _ hx)
 have pa:=Qyw Sa.b hd;have pb:=Qyw Sb.b hd;rw [k1] at pb;have pab:=pa.and pb;have lexs:∀ u∈l,∀ v∈l,(Bu q u v↔Bu r u v):=λu hu v hv=>by
  by_cases e:u=v
  ·subst e; exact ⟨λh=>absurd h (Qay _ _),λh=>absurd h (Qay _ _)⟩
  ·rcases Qvb pab (Hr.2 hu) (Hr.2 hv) e with h' | h'
   ·exact ⟨λ_=>h'.2,λ_=>h'.1⟩
   ·exact ⟨λh=>absurd (Qbw _ _ _ _ h h'.1) (Qay _ _),λh=>absurd (Qbw _ _ _ _ h h'.2) (Qay _ _)⟩
 have bef:∀ u∈l,∀ v∈l,Te (G9 b) u v=Te (G9 a) u v:=λu hu v hv=>by
  have h1:=Sa.b u hu v hv;have h2:=Sb.b u hu v hv;have h3:=lexs u hu v hv;cases e1:Te (G9 a) u v <;> cases e2:Te (G9 b) u v <;> rw [e1] at h1 <;> rw [e2] at h2 <;> simp_all
 have eR:So b (Mc l)=So a (Mc l):=Qhl (l:=Mc l) (λu hu v hv=>bef u (Mq hu) v (Mq hv)) (Mc l) [] (λx hx=>hx) λx hx=>by cases hx
 have hm:∀ x∈So a (Mc l),x∈l:=λx hx=>Mq (Hr.1 hx)
 have rb:=Sb.r;rw [eR] at rb;have hc:Hx l b=Hx l a:=by
  by_cases h3:(So a (Mc l)).length<3
  ·unfold Hx Dq;rw [eR,if_pos h3,if_pos h3]
  ·obtain ⟨f,z,A,B,hA,hB,c1,c2,hE,hC2⟩:=Qkd Sa (by omega);obtain ⟨f',z',A',B',hA',hB',c1',c2',hE',_⟩:=Qkd Sb (by rw [eR]; omega);rw [eR] at hA' hB' c1' c2';have sgs:∀ e∈Ft (Hx l a),∀ p∈So a (Mc l),U5 (M5 (px · q) (py · q) e.1 e.2 p)=U5 (M5 (px · r) (py · r) e.1 e.2 p):=λe he p hp=>by
    obtain ⟨m1,m2⟩:=Qhj he;have m1:=La m1;have m2:=La m2;have m3:=hm p hp;by_cases ho:Sf e p=true
    ·have hx:Pu (G9 a) e.1 e.2 p∈bcH l a:=by
      refine Yc _ ?_;unfold Pf;rw [if_neg (by omega)];exact Zy.2 ⟨e,he,Wq (Km.2 ⟨m3,ho⟩)⟩
     have hg:Tg (G9 b) (Hh e.1.c e.2.c p.c)=Tg (G9 a) (Hh e.1.c e.2.c p.c):=h _ hx;rw [<-Sa.o _ m1 _ m2 _ m3,<-Sb.o _ m1 _ m2 _ m3,hg]
    ·have hz:∀ X Y:Pt->Rat,M5 X Y e.1 e.2 p=0:=λX Y=>by
      by_cases e1:p.id=e.1.id
      ·rw [Q21 hd m3 m1 e1]; exact (Qer _ _).1
      ·by_cases e2:p.id=e.2.id
       ·rw [Q21 hd m3 m2 e2]; exact (Qer _ _).2
       ·exact absurd (by simp [Sf,e1,e2]) ho
     rw [hz,hz]
   have hlx:∀ u∈So a (Mc l),∀ v∈So a (Mc l),lx (px · q) (py · q) u v->lx (px · r) (py · r) u v:=λu hu v hv huv=>by
    have ra:=Sa.r;by_cases e:u=v
    ·subst e; exact absurd huv (Dk _)
    ·rcases Qvb (ra.and rb) hu hv e with h' | h'
     ·exact h'.2
     ·exact absurd (Qud huv h'.1) (Dk _)
   have e1:=Q9z rb (Qua c1 hlx λe he=>sgs e (by rw [hE]; exact Ju _ he)) c1';have rb2:(So a (Mc l)).reverse.Pairwise (lx (λp=>-px p r) (λp=>-py p r)):=K7.2 (rb.imp λh=>Qqz.2 h);have e2:=Q9z rb2 (Qua c2 (λu hu v hv huv=>Qqz.2 (hlx v (Jd.1 hv) u (Jd.1 hu) (Qqz.1 huv))) λe he p hp=>by
    rw [Qq8 (px · q) (py · q),Qq8 (px · r) (py · r)];exact sgs e (by rw [hE]; exact Yc _ he) p (Jd.1 hp)) c2'
   unfold Hx Dq;rw [eR,if_neg h3,if_neg h3,hA,hB,hA',hB',e1,e2]
 refine ⟨hc,?_⟩;unfold bcH;rw [hc,k2,Qtz λx hx=>h x (Yc _ hx)]
theorem Zny {l:List Pt} (hl:∀ p∈l,Sc p.c) (hn:l.length≤10) (hd:l.Pairwise λx y=>x.id≠y.id):Stab (bcH l) (brH l):=by
 refine ⟨Qjk hl hn,⟨Qdq l++Qji l,Qii hl,λa _ x hx=>Qpo x hx⟩,λa b ha hb h=>?_⟩;obtain ⟨e1,e2⟩:=Q4t hl hd ha hb h;exact ⟨e2,by show Ux _=Ux _; rw [e1]⟩
end Orq
namespace Orr
open Go Go.Proofs Orq
set_option maxRecDepth 10000
theorem Zmn {T:Nat} {t:Rat} {Bc:Tm->List Ct} {Br:Tm->List (List LV)} {r0:List (List LV)} (ht:Qs 400000 t) (hB:BuildOk Bc)
 (hb:∀ a c r1,Va a->CrOk c->Gn Tryz.prog 113 [.one (.ow 0 0),.agg (ta a)] [.blk T (Pe c r0 r1)] [.one (.row (Fj (Bc a)))] [.blk T (Pe c r0 (Br a))])
 {K:Nat} {c c':Cr} {r1 r1':List (List LV)} {n:Int} (hc:CrOk c) (hev:0<=c.ev/\c.ev+K<=1000000000000000000) (h:Ff c.now t<=0) (hg:goF Bc Br t K c r1 0=some (c',r1',n)) :
 Gn Tryz.prog 97 [.one (.ow 0 0),.agg (rl t),.one (.ofn 113 [.ow 0 0] [])] [.blk T (Pe c r0 r1)] [.one (.int .i64 n),.one (.int .i64 0)] [.blk T (Pe c' r0 r1')]:=by
 have qt:Qb t:=ht.mono (by decide);have c1:=Qft hc.n.tb qt;refine Gs Tryz.func97 rfl ?_;refine go tt [.c [0] (Qpr hc.n),.c [] c1,.f (by simpa using h)] rfl trivial ?_;refine lp (S:=Nat×Cr×List (List LV)×Int) 2 (λL1 s=>(8,.v (.one (.int .i64 s.2.2.2)))::L1) (λs=>[.blk T (Pe s.2.1 r0 s.2.2.1),.blk 72 (rl t)]) (λs=>s.1) (λs=>CrOk s.2.1/\(0<=s.2.1.ev/\s.2.1.ev+s.1<=1000000000000000000)/\(0<=s.2.2.2/\s.2.2.2+s.1<=1000000000000000000)/\goF Bc Br t s.1 s.2.1 s.2.2.1 s.2.2.2=some (c',r1',n)) (K,c,r1,0) ⟨hc,hev,⟨Int.le_refl 0,by dsimp only; omega⟩,hg⟩ rfl (λ_ _=>rfl) rfl λ⟨k,x,r,m⟩ ⟨j1,j2,j3,j4⟩=>?_
 dsimp only at j1 j2 j3 j4 ⊢;cases k with
 | zero=>cases j4
 |
  succ k =>
  simp only [goF] at j4;obtain ⟨ws,w1,j4⟩:=Qf.1 j4;obtain ⟨o,o1,j4⟩:=Qf.1 j4;have cn:=Zdy (T:=T) (r0:=r0) (r1:=r) j1 w1 o1;have ca:=Zh1 (Uv t.num) (Uv (t.den:Int)) (Qc ht.1 (by decide)) (Qc ht.2 (by decide)) (by rw [Ol]; exact ht.mono (by decide));rw [Ol] at ca;cases o with
  |
   none =>
   injection j4 with j4; injection j4 with e1 j4; injection j4 with e2 e3;subst e1; subst e2; subst e3;exact ed tt [] [0] [.c [0] cn,.g 25 true rfl,.t rfl,.c [] ca] rfl trivial
  |
   some a =>
   have ha:=Zkx j1 w1 o1;dsimp only at j4;have cc:=Qft ha.tb qt;by_cases h0:0<Ff a t
   ·rw [if_pos h0] at j4;injection j4 with j4; injection j4 with e1 j4; injection j4 with e2 e3;subst e1; subst e2; subst e3;exact ed tt [] [0] [.c [0] cn,.g 25 false rfl,.c [] cc,.t (by simpa using h0),.c [] ca] rfl trivial
   ·rw [if_neg h0] at j4;obtain ⟨w2,l1,j4⟩:=Qf.1 j4;have j1':=Qiz j1 w1;have cl:=O8 (b:=a) (l:=[]) ha.tb (λt ht=>by cases ht) (by decide) rfl;have cb:=hb a { x with l:=ws } r ha j1';have cy:=Qzy (T:=T) (r0:=r0) (r1:=Br a) j1' ha (hB.p a ha) (hB.n a ha) l1;have hf:decide (0<Ff a t)=false:=by simpa using h0
    refine go tt [.c [0] cn,.g 25 false rfl,.c [] cc,.f hf,.c [] cl,.c [0] cb,.c [0] cy] rfl (by simp [Us]; omega) ?_;exact rd (k,⟨a,w2,x.ev+1⟩,Br a,m+1) (by dsimp only; omega) ⟨lay_ok _ j1' ha (hB.p a ha) (hB.n a ha) l1,by dsimp only; omega,by dsimp only; omega,j4⟩ rfl
theorem Q3t {T:Nat} {t:Rat} {c:Cr} {r0 r1:List (List LV)} (ht:Qb t) (hc:Va c.now) (h:0<Ff c.now t) :
 Gn Tryz.prog 97 [.one (.ow 0 0),.agg (rl t),.one (.ofn 113 [.ow 0 0] [])] [.blk T (Pe c r0 r1)] [.one (.int .i64 0),.one (.int .i64 8)] [.blk T (Pe c r0 r1)]:=by
 refine Gs Tryz.func97 rfl ?_;exact ed tt [] [0] [.c [0] (Qpr hc),.c [] (Qft hc.tb ht),.t (by simpa using h)] rfl trivial
def Q3o (l:List Pt) (a:Tm):Cr:=⟨a,(Fz (bcH l a)).map fresh,0⟩
theorem Qzx {zs:List (List LV)} {qs l:List Pt} {x y x' y':LV} {n d:Int} (hz:IsPts 4294967294 1073741824 zs qs) (hq:qs.length≤6) (hnl:Se [] qs=(l,0)) (hl:∀ p∈l,Sc p.c) (hn:l.length≤10) (h1:Hw x y n) (h2:Hw x' y' d) (bn:U6 n≤4294967295) (bd:U6 d≤4294967295) (ht:Qs 400000 (G6 n d)) :
 Gn Tryz.prog 66 [.agg [x,y,x',y'],.one (.row zs)] [] [.one (.ow 0 0),.one (.int .i64 0)] [.blk 124 (Pe (Q3o l (tq (G6 n d))) (Ux l) (brH l (tq (G6 n d))))]:=by
 have cn:=Zmp hz hq;rw [hnl] at cn;have co:=Zh1 h1 h2 bn bd (ht.mono (by decide));have hv:=Zlw ht;have hB:=Qjk hl hn;have cb:=Q3s hl hn hv;have cg:=Q3w (T:=124) (r0:=Ux l) (r1:=brH l (tq (G6 n d))) hv (hB.p _ hv) (hB.n _ hv);obtain ⟨b,l1,rfl,rfl,_⟩:=h1;obtain ⟨b',l2,rfl,rfl,_⟩:=h2;refine Gs Tryz.func66 rfl ?_;exact ed tt [] [2] [.c [] cn,.f rfl,.c [] co,.c [2] cb,.c [2] cg] rfl trivial
theorem Zjh {t:Rat} {l:List Pt} {K:Nat} {c c':Cr} {r1 r1':List (List LV)} {n:Int} (ht:Qs 400000 t) (hl:∀ p∈l,Sc p.c) (hn:l.length≤10) (hc:CrOk c) (hev:0≤c.ev/\c.ev+K≤1000000000000000000) (h:Ff c.now t≤0) (hg:goF (bcH l) (brH l) t K c r1 0=some (c',r1',n)) :
 Gn Tryz.prog 50 [.one (.ow 0 0),.agg (rl t)] [.blk 124 (Pe c (Ux l) r1)] [.one (.int .i64 n),.one (.int .i64 0)] [.blk 124 (Pe c' (Ux l) r1')]:=by
 have cg:=Zmn (T:=124) (r0:=Ux l) ht (Qjk hl hn) (λa c r1 ha _=>Qm9 (c:=c) (r1:=r1) hl hn ha) hc hev h hg;refine Gs Tryz.func50 rfl ?_;exact ed tt [] [0] [.c [] (Er (ht.mono (by decide))),.c [0] cg] rfl trivial
theorem Qwn {t:Rat} {l:List Pt} {c:Cr} {r1:List (List LV)} (ht:Qs 400000 t) (hc:Va c.now) (h:0<Ff c.now t) :
 Gn Tryz.prog 50 [.one (.ow 0 0),.agg (rl t)] [.blk 124 (Pe c (Ux l) r1)] [.one (.int .i64 0),.one (.int .i64 8)] [.blk 124 (Pe c (Ux l) r1)]:=by
 have cg:=Q3t (T:=124) (r0:=Ux l) (r1:=r1) (ht.mono (by decide)) hc h;refine Gs Tryz.func50 rfl ?_;exact ed tt [] [0] [.c [] (Er (ht.mono (by decide))),.c [0] cg] rfl trivial
theorem Qwo {c:Cr} {l s:List Pt} (hs:s.length<=1000000):Gn Tryz.prog 11 [.one (.ow 0 0)] [.blk 124 (Pe c (Ux l) (Ux s))] [.one (ids (s.map (·.id)))] [.blk 124 (Pe c (Ux l) (Ux s))]:=by
 have hcl:=Rl s;refine Gs Tryz.func11 rfl ?_;refine go tt [.o 3 3 1] rfl trivial ?_;refine lp (S:=Nat) 2 (λL1 i=>(11,.v (.one (.int .i64 (i:Int))))::(3,.v (.one (.orow 1 1 none)))::L1) (λi=>[.blk 124 (Pe c (Ux l) (Ux s)),.row false 3 1 (((s.take i).map (·.id)).map λ(z:Int)=>[LV.int .i64 z])]) (λi=>s.length-i) (λi=>i<=s.length) 0 (Qh _) rfl (λ_ _=>rfl) rfl λi hi=>?_
 by_cases hlt:i<s.length
 ·obtain ⟨p,hp⟩:=gxE (l:=s) (i:=i) hlt;have hg:(((s.take (i+1)).map (·.id)).map λ(z:Int)=>[LV.int .i64 z])=(((s.take i).map (·.id)).map λ(z:Int)=>[LV.int .i64 z])++[[.int .i64 p.id]]:=by
   rw [Zp,hp]; simp
  refine go tt [.t (by simp [hcl]; omega),.x (Ht hp),.s (sz:=1) (l:=[[.int .i64 p.id]]) (λc hc=>by rw [Qk.1 hc]; rfl)] rfl (by simp [Us]; omega) ?_;exact rd (i+1) (by omega) hlt (by rw [hg]; rfl)
 ·obtain rfl:i=s.length:=by omega
  rw [Qy];exact ed tt [1] [0] [.f (by simp [hcl])] rfl trivial
theorem Zhw {c:Cr} {l s:List Pt} {id:Int} (hs:s.length<=1000000):Gn Tryz.prog 14 [.one (.ow 0 0),.one (.int .i64 id)] [.blk 124 (Pe c (Ux l) (Ux s))] [.one (.bool (s.any λp=>decide (p.id=id)))] [.blk 124 (Pe c (Ux l) (Ux s))]:=by
 have hcl:=Rl s;refine Gs Tryz.func14 rfl ?_;refine go tt [] rfl trivial ?_;refine lp (S:=Nat) 1 (λL1 i=>(12,.v (.one (.int .i64 (i:Int))))::L1) (λ_=>[.blk 124 (Pe c (Ux l) (Ux s))]) (λi=>s.length-i) (λi=>i<=s.length/\(s.any λp=>decide (p.id=id))=(s.drop i).any λp=>decide (p.id=id)) 0 ⟨Qh _,by rw [Xq]⟩ rfl (λ_ _=>rfl) rfl λi ⟨hi,he⟩=>?_
 by_cases hlt:i<s.length
 ·obtain ⟨p,hp⟩:=gxE (l:=s) (i:=i) hlt;have hdr:s.drop i=p::s.drop (i+1):=by
   rw [Ze hlt]; congr 1;have:=Qe hlt; rw [hp] at this; injection this with this; exact this.symm
  rw [hdr,List.any_cons] at he;by_cases h:p.id=id
  ·rw [decide_eq_true h,Uc] at he;rw [he];exact ed tt [] [0] [.t (by simp [hcl]; omega),.x (Ht hp),.t (decide_eq_true h)] rfl trivial
  ·rw [decide_eq_false h,Kd] at he;refine go tt [.t (by simp [hcl]; omega),.x (Ht hp),.f (decide_eq_false h)] rfl (by simp [Us]; omega) ?_;exact rd (i+1) (by omega) ⟨hlt,he⟩ rfl
 ·obtain rfl:i=s.length:=by omega
  rw [Yu,List.any_nil] at he;rw [he];exact ed tt [] [0] [.f (by simp [hcl])] rfl trivial
theorem Q2h {l:List Pt} {id:Int} (h:has l id=true):Li l id<l.length:=by
 rcases Za (Li l id) l.length with h1 | h1
 ·exact h1
 ·simp [has,Qt h1] at h
theorem Zd9 {lx ly:List (List LV)} {px py:List Int} {x y:LV} {d id:Int} {l:List Pt} (hx:IsInts lx px) (hy:IsInts ly py) (hd:Hw x y d) (hk:Cs 4294967294 1073741824 (Crv.mk px py d)) (hl:l.length<=1000000) (h:has l id=true) :
 Uu Tryz.prog 120 [.agg [pts l],.agg [.row lx,.row ly,x,y,.int .i64 id]] [.agg [pts (l.set (Li l id) (Pt.mk (Crv.norm (Crv.mk px py d)) id))],.one (.int .i64 0)]:=by
 have ca:=Qz8 (l:=l) id (by omega);have cf:=Q0d hx hy hd hk id;obtain ⟨b,r,rfl,rfl,_⟩:=hd;obtain ⟨q,hq⟩:=nmE (Pt.mk (Crv.norm (Crv.mk px py d)) id);rw [<-hq] at cf ⊢;have By:=Q2h h;rw [h] at ca;have e:pts (l.set (Li l id) q)=.row ((l.map Gy).set (Li l id) (Gy q)):=by unfold pts; rw [List.map_set]
 rw [e];exact w tt Tryz.func120 rfl [.c [] ca,.f rfl,.s (Ip l),.c [] cf,.i (Li l id)] rfl rfl (by simp [Us]; omega)
theorem Zd7 {l:List Pt} {id:Int} (hl:l.length<=1000000) (h:has l id=true) :
 Uu Tryz.prog 122 [.agg [pts l],.one (.int .i64 id)] [.agg [pts (l.take (Li l id)++l.drop (Li l id+1))],.one (.int .i64 0)]:=by
 have ca:=Qz8 (l:=l) id (by omega);have By:=Q2h h;rw [h] at ca;have s1:∀ c∈(l.map Gy).take (Li l id),c.length=5:=λc hc=>Ip l c (Qn hc)
 have s3:∀ c∈(l.map Gy).drop (Li l id+1),c.length=5:=λc hc=>Ip l c (Q9 hc)
 have e:pts (l.take (Li l id)++l.drop (Li l id+1))=.row ((l.map Gy).take (Li l id)++(l.map Gy).drop (Li l id+1)):=by unfold pts; rw [List.map_append,List.map_take,List.map_drop]
 rw [e];refine w tt Tryz.func122 rfl [.c [] ca,.f rfl,.i (Li l id),.s s1,.i (Li l id+1),.s s3] rfl ?_ ?_
 ·simp
 ·have h1:(List.map Gy l).length=l.length:=by simp
  have h2:∀ z∈List.map Gy l,z.length=ti135.sz:=Ip l;simp only [Us,Qp,Xj,h1]
  and_intros <;> first | exact h2 | omega
theorem Q7h {l:List Pt} {id:Int} (hl:l.length<=1000000) (h:has l id=false) :
 Uu Tryz.prog 122 [.agg [pts l],.one (.int .i64 id)] [.agg [pts l],.one (.int .i64 5)]:=by
 have ca:=Qz8 (l:=l) id (by omega);rw [h] at ca;exact w tt Tryz.func122 rfl [.c [] ca,.t rfl] rfl rfl trivial
theorem Zd6 {l:List Nat} (hl:l.length<=1000000000):Uu Tryz.prog 251 [.one (.row (lm l)),.one (.row (lm l))] [.one (.bool true)]:=by
 have hll:(lm l).length=l.length:=by simp [lm]
 refine Gs Tryz.func251 rfl ?_;refine go tt [.f (decide_eq_false (λh=>h rfl))] rfl trivial ?_;refine lp (S:=Nat) 0 (λL1 i=>(5,.v (.one (.int .i64 (i:Int))))::L1) (λ_=>[]) (λi=>l.length-i) (λi=>i<=l.length) 0 (Qh _) rfl (λ_ _=>rfl) rfl λi hi=>?_
 by_cases h:i<l.length
 ·have hx:(lm l)[i]? = some [.int .u32 ((l[i]:Nat):Int)]:=Gt (Qe h);refine go tt [.t (decide_eq_true (by omega)),.x hx,.x hx,.f (decide_eq_false (λh=>h rfl))] rfl (by simp [Us]; omega) ?_;exact rd (i+1) (by omega) h rfl
 ·exact en tt [.f (decide_eq_false (by omega))] rfl rfl trivial
theorem Zd4 {z:Int} (hz:U6 z<=4294967295):Uu Tryz.prog 195 [.agg (Gv z),.agg (Gv z)] [.one (.bool true)] :=
 w tt Tryz.func195 rfl [.g 10 true (decide_eq_true rfl),.c [] (Zd6 (l:=Fh z.natAbs) (by have:=Ro (x:=z.natAbs) (k:=4294967295) hz; omega))] rfl rfl trivial
theorem Zd5 {p:List Int} (hp:Bd 4294967295 p) (hl:p.length<=1000000):Uu Tryz.prog 121 [pr p,pr p] [.one (.bool true)]:=by
 have By:(p.map Gv).length=p.length:=by simp
 show Uu Tryz.prog 121 [.one (.row (p.map Gv)),.one (.row (p.map Gv))] _;refine Gs Tryz.func121 rfl ?_;refine go tt [.f (decide_eq_false (λh=>h rfl))] rfl trivial ?_;refine lp (S:=Nat) 0 (λL1 i=>(13,.v (.one (.int .i64 (i:Int))))::L1) (λ_=>[]) (λi=>p.length-i) (λi=>i<=p.length) 0 (Qh _) rfl (λ_ _=>rfl) rfl λi hi=>?_
 by_cases h:i<p.length
 ·have hx:=Sw (H6 h);refine go tt [.t (decide_eq_true (by omega)),.x hx,.x hx,.c [] (Zd4 (U9 hp i)),.f rfl] rfl (by simp [Us]; omega) ?_;exact rd (i+1) (by omega) h rfl
 ·exact en tt [.f (decide_eq_false (by omega))] rfl rfl trivial
theorem Q7a {l:List Ct} (hl:∀ c∈l,Cp c.p) (hn:l.length≤1000000):Uu Tryz.prog 59 [.one (.row (Fj l)),.one (.row (Fj l))] [.one (.bool true)]:=by
 have hcl:=B9 l;refine Gs Tryz.func59 rfl ?_;refine go tt [.f (decide_eq_false (λh=>h rfl))] rfl trivial ?_;refine lp (S:=Nat) 0 (λL1 i=>(13,.v (.one (.int .i64 (i:Int))))::L1) (λ_=>[]) (λi=>l.length-i) (λi=>i<=l.length) 0 (Qh _) rfl (λ_ _=>rfl) rfl λi hi=>?_
 by_cases h:i<l.length
 ·obtain ⟨c,hc⟩:=gxE (l:=l) (i:=i) h;have hx:=Qf1 hc;have hp:=hl c (Qa hc);refine go tt [.t (decide_eq_true (by omega)),.x hx,.x hx,.g 27 false (by simp),.x hx,.x hx,.g 40 false (by simp),.x hx,.x hx,.c [] (Zd5 (Ut hp.b (by decide)) (by have:=hp.l; omega)),.f rfl] rfl (by simp [Us]; omega) ?_;exact rd (i+1) (by omega) h rfl
 ·exact en tt [.f (decide_eq_false (by omega))] rfl rfl trivial
end Orr
namespace Orr
open Go Go.Proofs Orq
theorem Qmg {x y:Int} (hx:-9223372036854775808<=x/\x<=9223372036854775807) (hy:-9223372036854775808<=y/\y<=9223372036854775807):Sc (Aa x y):=⟨Crv.nml _,((Qs9 hx hy).norm (by decide)).mono (by decide) (by decide)⟩
theorem Sc.pt {p:Pt} (h:Sc p.c):Qv9 4294967294 1073741824 p:=⟨h.n,h.c.mono (by decide) (by decide)⟩
end Orr
namespace Orr
open Go Go.Proofs
set_option maxRecDepth 10000
theorem Cs.up {s n s' n':Nat} {k:Crv} (h:Cs s n k) (hs:s<=s') (hn:n<=n'):Cs s' n' k:=⟨Ut h.x hs,Ut h.y hs,Qc h.d hs,Qc h.lx hn,Qc h.ly hn⟩
end Orr
namespace Orr
open Go Go.Proofs Orq
set_option maxRecDepth 10000
theorem Q4h {l m:List Pt} (h:l.Perm m) (hd:Ac l):Ac m:=(h.pairwise_iff (λh=>λe=>h e.symm)).1 hd

theorem Qju {c:Cr} {l l':List Pt} {r1:List (List LV)} {ws:List Wt} (hc:CrOk c) (hl:∀ p∈l',Sc p.c) (hn:l'.length≤10) (h:E6 c.l c.now (Fz (bcH l' c.now))=some ws) :
 Gn Tryz.prog 119 [.one (.ow 0 0),.agg [pts l'],.one (.int .i64 0)] [.blk 124 (Pe c (Ux l) r1)] [.one (.int .i64 0)] [.blk 124 (Pe ⟨c.now,ws,c.ev⟩ (Ux l') (brH l' c.now))]:=by
 have hB:=Qjk hl hn;have cn:=Qpr (T:=124) (c:=c) (r0:=Ux l') (r1:=r1) hc.n;have cb:=Qm9 (c:=c) (r1:=r1) hl hn hc.n;have cg:=Q3x (T:=124) (r0:=Ux l') (r1:=brH l' c.now) hc hc.n (Q4a hc.n) (Int.le_refl 0) (hB.p _ hc.n) (hB.n _ hc.n) h;refine Gs Tryz.func119 rfl ?_;exact ed tt [] [0] [.f rfl,.c [0] cn,.c [0] cb,.c [0] cg] rfl trivial
theorem Qna {c:Cr} {l l':List Pt} {r1:List (List LV)} {e:Int} (he:e≠0) :
 Gn Tryz.prog 119 [.one (.ow 0 0),.agg [pts l'],.one (.int .i64 e)] [.blk 124 (Pe c (Ux l) r1)] [.one (.int .i64 e)] [.blk 124 (Pe c (Ux l) r1)]:=by
 refine Gs Tryz.func119 rfl ?_;exact ed tt [] [0] [.t (by simpa using he)] rfl trivial
theorem Zdv {lx ly:List (List LV)} {px py:List Int} {x y:LV} {d id:Int} {c:Cr} {l:List Pt} {r1:List (List LV)} {ws:List Wt} (hx:IsInts lx px) (hy:IsInts ly py) (hd:Hw x y d) (hk:Cs 4294967294 1073741824 (Crv.mk px py d)) (hll:l.length<=900)
 (he:Ed l ⟨Crv.norm (Crv.mk px py d),id⟩=0) (hc:CrOk c) (hl:∀ p∈put l ⟨Crv.norm (Crv.mk px py d),id⟩,Sc p.c) (hn:(put l ⟨Crv.norm (Crv.mk px py d),id⟩).length≤10) (h:E6 c.l c.now (Fz (bcH (put l ⟨Crv.norm (Crv.mk px py d),id⟩) c.now))=some ws) :
 Gn Tryz.prog 61 [.one (.ow 0 0),.agg [.row lx,.row ly,x,y,.int .i64 id]] [.blk 124 (Pe c (Ux l) r1)] [.one (.int .i64 0)] [.blk 124 (Pe ⟨c.now,ws,c.ev⟩ (Ux (put l ⟨Crv.norm (Crv.mk px py d),id⟩)) (brH (put l ⟨Crv.norm (Crv.mk px py d),id⟩) c.now))]:=by
 have cp:=Q64 (l:=l) (id:=id) hx hy hd hk (by omega);rw [if_pos he,he] at cp;have cw:=Qju (l:=l) (r1:=r1) hc hl hn h;refine Gs Tryz.func61 rfl ?_;obtain ⟨b,l',rfl,rfl,_⟩:=hd;exact ed tt [] [0] [.c [] cp,.c [0] cw] rfl trivial
theorem Q6q {lx ly:List (List LV)} {px py:List Int} {x y:LV} {d id e:Int} {c:Cr} {l:List Pt} {r1:List (List LV)} (hx:IsInts lx px) (hy:IsInts ly py) (hd:Hw x y d) (hk:Cs 4294967294 1073741824 (Crv.mk px py d)) (hll:l.length<=900)
 (he:Ed l ⟨Crv.norm (Crv.mk px py d),id⟩=e) (h0:e≠0) :
 Gn Tryz.prog 61 [.one (.ow 0 0),.agg [.row lx,.row ly,x,y,.int .i64 id]] [.blk 124 (Pe c (Ux l) r1)] [.one (.int .i64 e)] [.blk 124 (Pe c (Ux l) r1)]:=by
 have cp:=Q64 (l:=l) (id:=id) hx hy hd hk (by omega);rw [he,if_neg h0] at cp;have cw:=Qna (c:=c) (l:=l) (l':=l) (r1:=r1) h0;refine Gs Tryz.func61 rfl ?_;obtain ⟨b,l',rfl,rfl,_⟩:=hd;exact ed tt [] [0] [.c [] cp,.c [0] cw] rfl trivial
theorem Q6r {lx ly:List (List LV)} {px py:List Int} {x y:LV} {d id:Int} {c:Cr} {l l':List Pt} {r1:List (List LV)} {ws:List Wt} (hx:IsInts lx px) (hy:IsInts ly py) (hd:Hw x y d) (hk:Cs 4294967294 1073741824 (Crv.mk px py d)) (hll:l.length<=10) (h:has l id=true) (hc:CrOk c)
 (hl':l'=l.set (Li l id) (Pt.mk (Crv.norm (Crv.mk px py d)) id)) (hs:∀ p∈l',Sc p.c) (hw:E6 c.l c.now (Fz (bcH l' c.now))=some ws) :
 Gn Tryz.prog 58 [.one (.ow 0 0),.agg [.row lx,.row ly,x,y,.int .i64 id]] [.blk 124 (Pe c (Ux l) r1)] [.one (.int .i64 0)] [.blk 124 (Pe ⟨c.now,ws,c.ev⟩ (Ux l') (brH l' c.now))]:=by
 have ct1:=Zd9 (l:=l) hx hy hd hk (by omega) h;rw [<-hl'] at ct1;have cw:=Qju (c:=c) (l:=l) (l':=l') (r1:=r1) hc hs (by rw [hl',Ja]; omega) hw;obtain ⟨b,r,rfl,rfl,_⟩:=hd;refine Gs Tryz.func58 rfl ?_;exact ed tt [] [0] [.c [] ct1,.c [0] cw] rfl trivial
theorem Q6p {id:Int} {c:Cr} {l l':List Pt} {r1:List (List LV)} {ws:List Wt} (hll:l.length<=10) (h:has l id=true) (hc:CrOk c)
 (hl':l'=l.take (Li l id)++l.drop (Li l id+1)) (hs:∀ p∈l',Sc p.c) (hw:E6 c.l c.now (Fz (bcH l' c.now))=some ws) :
 Gn Tryz.prog 60 [.one (.ow 0 0),.one (.int .i64 id)] [.blk 124 (Pe c (Ux l) r1)] [.one (.int .i64 0)] [.blk 124 (Pe ⟨c.now,ws,c.ev⟩ (Ux l') (brH l' c.now))]:=by
 have ct1:=Zd7 (l:=l) (id:=id) (by omega) h;rw [<-hl'] at ct1;have cw:=Qju (c:=c) (l:=l) (l':=l') (r1:=r1) hc hs (by rw [hl',Q3,Qp,Xj]; omega) hw;refine Gs Tryz.func60 rfl ?_;exact ed tt [] [0] [.c [] ct1,.c [0] cw] rfl trivial
theorem Q3v {id:Int} {c:Cr} {l:List Pt} {r1:List (List LV)} (hll:l.length<=10) (h:has l id=false) :
 Gn Tryz.prog 60 [.one (.ow 0 0),.one (.int .i64 id)] [.blk 124 (Pe c (Ux l) r1)] [.one (.int .i64 5)] [.blk 124 (Pe c (Ux l) r1)]:=by
 refine Gs Tryz.func60 rfl ?_;exact ed tt [] [0] [.c [] (Q7h (l:=l) (id:=id) (by omega) h),.c [0] (Qna (c:=c) (l:=l) (l':=l) (r1:=r1) (e:=5) (by decide))] rfl trivial
theorem Q3u {c:Cr} {r0:List (List LV)} {r1:List (List LV)}:Gn Tryz.prog 48 [.one (.ow 0 0)] [.blk 124 (Pe c r0 r1)] [.one (.ow 1 0)] [.blk 124 (Pe c r0 r1),.blk 124 (Pe c r0 r1)]:=by
 refine Gs Tryz.func48 rfl ?_;exact ed tt [] [0,1] [] rfl trivial
theorem Qwx {M:List Pt} {q:Rat} {c:List (List Int)} (hM:∀ p∈M,Rs p.c) (hl:M.length≤10) (hq:Qs 1000000 q) (hC:Qzl q c):Gn Tryz.prog 65 [.one (.ow 0 0)] [.blk 45 (plZ M q)] [] [.blk 45 (plB M q c (Qcq q M))]:=by
 refine Gs Tryz.func65 rfl ?_;exact ed tt [] [0] [.c [] (Qsw hq hC),.c [] (Qwj (cs:=c) hM hl hq),.c [] (Q7z (Q5f q hl))] rfl trivial
theorem Q31 {zs:List RawPt} {n d:Int} {O M:List Pt} {e:Nat} {c:List (List Int)} (hz:∀ z∈zs,z.Ok) (hO:Qgx 4 20 zs=O) (he:e≤O.length) (hd:Ac (Sx O e)) (hm:e<O.length->¬Ac (Sx O (e+1))) (hn:-9223372036854775808≤n/\n≤9223372036854775807) (hdd:-9223372036854775808≤d/\d≤9223372036854775807) (hC:Qzl (Ap n d) c) (hM:M=Fy Em (Qcg O e)) :
 Gn Tryz.prog 9 [.one (.row (Qe3 zs)),.one (.int .i64 n),.one (.int .i64 d)] [] [.one (.ow 0 0),.one (.ow 1 0),.one (.bool true)] [.blk 124 (Pe (Q3o M (tq (Ap n d))) (Ux M) (brH M (tq (Ap n d)))),.blk 45 (plB M (Ap n d) c (Qcq (Ap n d) M))]:=by
 have hO4:O.length<=4:=by rw [<-hO]; exact Qap _ _ (Qh _)
 have hid:∀ p∈O,-9223372036854775808≤p.id/\p.id≤9223372036854775807:=λp hp=>by
  rw [<-hO] at hp; have:=Zge p hp; omega
 have hlit:∀ p∈O,Q3h p:=λp hp=>by rw [<-hO] at hp; exact Qog (by decide) p hp
 have hcl:(Sx O e).length=e:=Qd2 he;have hcn:(Qcg O e).length=e:=by rw [Qhv,hcl]
 have hMl:M.length=e:=by rw [hM,Re,hcn]
 have hok:∀ p∈M,Nml p.c/\Cs 10 3 p.c:=λp hp=>by rw [hM,S8] at hp; exact Q00 hlit e p hp
 have hq:=Qg4 n d;obtain ⟨q,hqq⟩:=nmE (Ap n d);have cb:=Q0m (l:=Qcg O e) (by omega);rw [<-hM] at cb;rw [<-hqq] at hq hC ⊢;have csm:=Qz6 hn hdd;have c2:=Qwx (M:=M) (q:=q) (c:=c) (λp hp=>⟨(hok p hp).1,(hok p hp).2.mono (by decide) (by decide)⟩) (by omega) (hq.mono (by decide)) hC;have ctr:=Zh0 (q:=q) (hq.mono (by decide));have hnl:=Q43 (qs:=Qcg O e) (by omega) (Qf5 hd);have hnl2:Se [] (Qcg O e)=(M,0):=by rw [hM,<-hnl.2,<-hnl.1]
 have cs:=Qzx (zs:=Ux (Sx O e)) (qs:=Qcg O e) (l:=M) (n:=q.num) (d:=(q.den:Int)) (Qod λp hp=>(Qta hlit e p hp).mono (by decide) (by decide)) (by omega) hnl2 (λp hp=>⟨(hok p hp).1,(hok p hp).2.mono (by decide) (by decide)⟩) (by omega) (Uv q.num) (Uv (q.den:Int)) (Qc hq.1 (by decide)) (Qc hq.2 (by decide)) (by rw [Ol]; exact hq.mono (by decide));rw [Ol] at cs;rw [show G6 (Aq n 61-30) (1+Aq d 6)=q from hqq.symm] at csm;have cp:=Q3y hz;rw [hO] at cp;refine Gs Tryz.func9 rfl ?_;refine go tt [.c [0,1] cp] rfl trivial ?_;have h0l:=Rl O;refine ct 2 (S:=Unit) (λ_=>[(1,.v (.one (.int .i64 n))),(2,.v (.one (.int .i64 d))),(9,.v (.one (.row (Ux (Sx O e))))),(10,.v (.one (.row (Fc (Qcg O e)))))]) (λ_=>[.gone,.gone]) (λ_=>True) rfl ?_ (λ_ _=>?_)
 ·refine lp (S:=Nat) 2 (λL1 i=>(23,.v (.one (.int .i64 (i:Int))))::(9,.v (.one (.orow 0 5 none)))::(10,.v (.one (.orow 1 7 none)))::L1) (λi=>[.row false 135 5 (Ux (mix O i)),.row false 57 7 (Fc ((mix O i).map Pt.nrm))]) (λi=>O.length-i) (λi=>i<=O.length/\i<=e/\Ac (Sx O i)) 0 ⟨Qh _,Qh _,List.Pairwise.nil⟩ rfl (λ_ _=>rfl) (by rw [Q95]; rfl) λi ⟨hi,hie,hdi⟩=>?_
  have hl1:(Ux (mix O (i+1))).length=O.length:=by rw [Rl,Qi0]
  have hl0:(Ux (mix O i)).length=O.length:=by rw [Rl,Qi0]
  have hr0:(Fc ((mix O i).map Pt.nrm)).length=O.length:=by rw [Hf,Q5,Qi0]
  have hr1:(Fc ((mix O (i+1)).map Pt.nrm)).length=O.length:=by rw [Hf,Q5,Qi0]
  by_cases h:i<O.length
  ·obtain ⟨p,hp⟩:=gxE (l:=O) (i:=i) h;have hx:=Zfs hp;have hxn:((mix O i).map Pt.nrm)[i]? = some p.nrm:=by rw [Q7,hx]; rfl
   have cw:=O9 (v:=p.id) (n:=5) (hid p (Qa hp)) (by decide);rw [show Aq p.id 5=p.m5.id from rfl] at cw;refine go tt [.t (decide_eq_true (by omega)),.i i,.x (Ht hx),.c [] cw,.i i,.x (Ht hx),.c [] cw,.i i,.x (Ht hx),.i i,.x (Fb hxn)] rfl (by simp [Us,hl0,hr0]; omega) ?_;rw [Qrg hp,Qm5 hp];refine lp (S:=Nat) 2 (λL1 j=>(12,.v (.one (.int .i64 (j:Int))))::(9,.v (.one (.orow 0 5 none)))::(10,.v (.one (.orow 1 7 none)))::L1) (λ_=>[.row false 135 5 (Ux (mix O (i+1))),.row false 57 7 (Fc ((mix O (i+1)).map Pt.nrm))]) (λj=>i-j) (λj=>j<=i/\∀ k x,k<j->O[k]? = some x->x.m5.id≠p.m5.id) 0 ⟨Qh _,λk x h=>absurd h (Up _)⟩ rfl (λ_ _=>rfl) rfl λj ⟨hj,hjn⟩=>?_
   by_cases hji:j<i
   ·obtain ⟨x,hxj⟩:=gxE (l:=O) (i:=j) (by omega);have g1:=Q10 (i:=i+1) (show j<i+1 by omega) hxj;have g2:=Q10 (i:=i+1) (show i<i+1 by omega) hp;by_cases hq:x.m5.id=p.m5.id
    ·have hnd:¬Ac (Sx O (i+1)):=λhD=>by
      have:=Ye.1 hD j i (by rw [Qd2 (by omega)]; omega) (by rw [Qd2 (by omega)]; omega) hji;refine this ?_;have e1:(Sx O (i+1))[j]? = some x.m5:=by unfold Sx; rw [List.getElem?_map,List.getElem?_take,if_pos (by omega),hxj]; rfl
      have e2:(Sx O (i+1))[i]? = some p.m5:=by unfold Sx; rw [List.getElem?_map,List.getElem?_take,if_pos (by omega),hp]; rfl
      rw [(Qd.1 e1).2,(Qd.1 e2).2]; exact hq
     have hie2:i=e:=by
      rcases Za i e with h3 | h3
      ·exact absurd (Ze3 hd h3) hnd
      ·omega
     have c1:(Ux (mix O (i+1))).take i=Ux (Sx O e):=by rw [Q5c (by omega) (by omega),hie2]
     have c2:(Fc ((mix O (i+1)).map Pt.nrm)).take i=Fc (Qcg O e):=by rw [Qyx (by omega) (by omega),hie2]
     refine go tt [.t (decide_eq_true (by omega)),.i j,.x (Ht g1),.i i,.x (Ht g2),.t (decide_eq_true hq),.i i,.i i] rfl (by simp [Us,hl1,hr1]; omega) ?_;refine pz 0 rfl rfl ?_;refine pz 1 rfl rfl ?_;exact go tt [.t (decide_eq_true (by omega))] rfl trivial (rc () trivial (by rw [c1,c2]; rfl))
    ·refine go tt [.t (decide_eq_true (by omega)),.i j,.x (Ht g1),.i i,.x (Ht g2),.f (decide_eq_false hq)] rfl (by simp [Us,hl1]; omega) ?_;exact rd (j+1) (by omega) ⟨hji,λk y hk hy=>by
      rcases Za k j with h3 | h3
      ·exact hjn k y h3 hy
      ·have:k=j:=by omega
       subst this; rw [hxj] at hy; injection hy with hy; rw [<-hy]; exact hq⟩ rfl
   ·have hji2:j=i:=by omega
    rw [hji2] at hjn;have hD:=Q4i hp hdi hjn;have hle:i+1<=e:=by
     rcases Za i e with h3 | h3
     ·exact h3
     ·have:i=e:=by omega
      rw [this] at hD h;exact absurd hD (hm h)
    refine go tt [.f (decide_eq_false (by omega)),.f (decide_eq_false (by omega))] rfl (by simp [Us]; omega) ?_;exact rd (i+1) (by omega) ⟨h,hle,hD⟩ rfl
  ·have hiO:i=O.length:=by omega
   have hie2:i=e:=by omega
   have c1:Ux (mix O i)=Ux (Sx O e):=by rw [<-hie2,hiO,Qug]
   have c2:Fc ((mix O i).map Pt.nrm)=Fc (Qcg O e):=by rw [<-hie2,hiO,Qug]; rfl
   refine go tt [] rfl trivial ?_;rw [c1,c2];refine pz 0 rfl rfl ?_;refine pz 1 rfl rfl ?_;exact go tt [.f (decide_eq_false (by omega))] rfl trivial (rc () trivial rfl)
 ·exact ed tt [] [3,2] [.c [] cb,.c [] csm,.c [2] c2,.c [] ctr,.c [3] cs,.g 96 true rfl] rfl trivial
end Orr
namespace Orr
open Go
end Orr
namespace Orq
open Orr Go
end Orq
namespace Orr
open Orq Go
end Orr
namespace Orr
open Orq
end Orr
namespace Orq
open Orr Go
def Dc (s:List Int) (i:Nat):Pt:=⟨⟨trim [(i:Int)],trim [s.getD i 0,(i:Int)],1⟩,10-(i:Int)⟩
end Orq
namespace Orr
end Orr
namespace Orq
open Orr Go
section
variable {α:Type} {s:α->α->α->Bool} {S:α->Prop}
end
def hfn (s:List Int) (same:Bool) (i:Nat):List Int:=if same=true then [3,2] else trim [s.getD i 0,(i:Int)]
def hpt (s:List Int) (same:Bool) (i:Nat):Pt:=⟨⟨hfn s same i,Al (hfn s same i) (hfn s same i),1⟩,(i:Int)⟩
def By (s:List Int) (t:Int) (i:Nat):Int:=s.getD i 0+(i:Int)*t
end Orq
namespace Orr
open Go Go.Proofs Orq
set_option maxRecDepth 10000
theorem Qss {c c':Cr} {l l' m:List Pt} {a:Tm} {r:List (List LV)} (hm:m.length<=10) (hr:r=brH m a):Gn Tryz.prog 51 [.one (.ow 0 0),.one (.ow 1 0)] [.blk 124 (Pe c (Ux l) r),.blk 124 (Pe c' (Ux l') r)] [.one (.bool true)] [.blk 124 (Pe c (Ux l) r),.blk 124 (Pe c' (Ux l') r)]:=by
 have hl:=A2 m a;have hr:r=Ux (Hx m a):=hr;rw [hr];have c1:=Qwo (c:=c) (l:=l) (s:=Hx m a) (by omega);have c2:=Qwo (c:=c') (l:=l') (s:=Hx m a) (by omega);have cs:=Q69 (a:=(Hx m a).map (·.id)) (b:=(Hx m a).map (·.id)) (by rw [Q5]; omega) (by rw [Q5]; omega);rw [decide_eq_true rfl] at cs;refine Gs Tryz.func51 rfl ?_;exact ed tt [] [0,1] [.c [0] c1,.c [1] c2,.c [] cs] rfl trivial
abbrev wkH:List Pt:=[⟨Aa 1 0,1⟩,⟨Aa 0 1,2⟩,⟨Aa 0 0,3⟩]
theorem Zhi:(Hx wkH (tq 0)).map (·.id)=[3,1,2]:=by decide +kernel
theorem Zl0:(Hx wkH (tq 0)).any (λp=>decide (p.id=2))=true:=by decide +kernel
theorem Zl1:(Hx wkH (tq 0)).any (λp=>decide (p.id=9))=false:=by decide +kernel
theorem Zcx:∀ p∈wkH,Sc p.c:=λp hp=>by
 rcases Qo.1 hp with rfl | hp
 ·exact Qmg (by decide) (by decide)
 rcases Qo.1 hp with rfl | hp
 ·exact Qmg (by decide) (by decide)
 ·rw [Qk.1 hp]; exact Qmg (by decide) (by decide)
theorem Qnm:Uu Tryz.prog 18 [] [.one (.bool true)]:=by
 have hq:Qs 400000 (G6 0 0):=⟨by decide,by decide⟩;have ez:G6 0 0=0:=by decide
 have zp:IsPts 4294967294 1073741824 (Ux [⟨Aa 0 0,3⟩,⟨Aa 0 1,2⟩,⟨Aa 1 0,1⟩]) [⟨Aa 0 0,3⟩,⟨Aa 0 1,2⟩,⟨Aa 1 0,1⟩]:=Q1k λp hp=>(Zcx p (by simp at hp ⊢; rcases hp with h | h | h <;> simp [h])).pt
 have hnl:Se [] [⟨Aa 0 0,3⟩,⟨Aa 0 1,2⟩,⟨Aa 1 0,1⟩]=(wkH,0):=rfl;have cn:=Qzx zp (by decide) hnl Zcx (by decide) Cd Cd (by decide) (by decide) hq;rw [ez] at cn;have hl:(Hx wkH (tq 0)).length<=1000000:=Qc (A2 _ _) (by decide);have ci:=Qwo (c:=Q3o wkH (tq 0)) (l:=wkH) hl;have o2:=Zhw (c:=Q3o wkH (tq 0)) (l:=wkH) (id:=2) hl;have o9:=Zhw (c:=Q3o wkH (tq 0)) (l:=wkH) (id:=9) hl;rw [Zhi] at ci;rw [Zl0] at o2;rw [Zl1] at o9;have cs:=Q69 (a:=[3,1,2]) (b:=[3,1,2]) (by decide) (by decide);refine Gs Tryz.func18 rfl ?_;exact en tt [.c [] (Qpv (x:=0) (y:=0) (by decide) (by decide)),.c [] (Qpv (x:=0) (y:=1) (by decide) (by decide)),.c [] (Qpv (x:=1) (y:=0) (by decide) (by decide)),.c [0] cn,.g 17 true rfl,.g 21 true rfl,.c [0] ci,.c [] cs,.g 27 true rfl,.c [0] o2,.g 31 true rfl,.c [0] o9] rfl rfl trivial
theorem Q58 (l:List Pt):(Qji l).length=l.length*(l.length*l.length):=by
 have h:∀ {α:Type} (f:Pt->List α) (k:Nat) (m:List Pt),(∀ x,(f x).length=k)->(m.flatMap f).length=m.length*k:=λf k m hf=>by
  induction m with
  | nil=>simp
  | cons y m ih=>rw [J3,Q3,ih,hf,Q8,X6,Kk,X8]
 unfold Qji;exact h _ _ _ λa=>h _ _ _ λb=>Q5 _
theorem Q57 {l:List Pt} (h:l.length<=10):(Qdq l++Qji l).length<=1000000:=by
 rw [Q3,Q59,Q58];have h1:l.length*(l.length*2)<=10*(10*2):=Zh h (Zh h (Qm 2));have h2:l.length*(l.length*l.length)<=10*(10*10):=Zh h (Zh h h);omega

theorem Q75 {p:Pt}:Uu Tryz.prog 62 [.agg (Dc p)] [.agg (Gy p)]:=w tt Tryz.func62 rfl [] rfl rfl trivial
theorem Qlm {x:List Int} {i:Nat} {z:Int} (h:x[i]? = some z):Ml ((x.map (· * -5)).take i)++[Gv (z*-5)]=Ml ((x.map (· * -5)).take (i+1)):=by
 rw [Zp,Q7,h]; simp [Ml]
theorem Qqr {z:Int} {s:Nat} (h:U6 z<=s):U6 (z*-5)<=s+3:=Qc (Fo _ _) (Nat.add_le_add h (by decide))
theorem Zm1 {k:Crv} {s n:Nat} (h:Cs s n k):Cs (s+3) n ⟨k.x.map (· * -5),k.y.map (· * -5),k.d*-5⟩ :=
 ⟨λz hz=>by obtain ⟨w,hw,rfl⟩:=Zn.1 hz; exact Qqr (h.x w hw),λz hz=>by obtain ⟨w,hw,rfl⟩:=Zn.1 hz; exact Qqr (h.y w hw),Qqr h.d,by simpa using h.lx,by simpa using h.ly⟩
theorem Zfi {ws:List Wt} {l:List Ct} (h:ws.map (·.c)=Fz l) (ho:∀ c∈l,Cp c.p):∀ x∈Fz (ws.map (·.c)),Cp x.p:=λx hx=>by
 have:=Ir hx;rw [h] at this;exact ho x (Ir this)
set_option maxHeartbeats 8000000 in
theorem Qmx {zs:List RawPt} {n d k:Int} (hz:∀ z∈zs,z.Ok) (hn:-9223372036854775808≤n/\n≤9223372036854775807) (hdd:-9223372036854775808≤d/\d≤9223372036854775807) (hk:-9223372036854775808≤k/\k≤9223372036854775807):Uu Tryz.prog 8 [.one (.row (Qe3 zs)),.one (.int .i64 n),.one (.int .i64 d),.one (.int .i64 k)] [.one (.bool true)]:=by
 obtain ⟨e,he,hd,hm⟩:=Zj0 (Qgx 4 20 zs);have hq0:=Qg4 30 0;have cb:=Q31 (n:=30) (d:=0) hz rfl he hd hm (by decide) (by decide) (Znp (hq0.mono (by decide))) rfl;obtain ⟨O,hO⟩:=nmE (Qgx 4 20 zs);have hO4:O.length<=4:=by rw [hO]; exact Qap _ _ (Qh _)
 have hlit:∀ p∈O,Q3h p:=λp hp=>by rw [hO] at hp; exact Qog (by decide) p hp
 rw [<-hO] at cb he hd;obtain ⟨M,hM⟩:=nmE (Fy Em (Qcg O e));rw [<-hM] at cb;obtain ⟨q,hq⟩:=nmE (Ap 30 0);rw [<-hq] at cb hq0;have hcn:(Qcg O e).length=e:=by rw [Qhv,Qd2 he]
 have hMl:M.length=e:=by rw [hM,Re,hcn]
 have hMs:Tk M:=by rw [hM]; exact Qe6 (Qf5 hd)
 have hMd:Ac M:=by rw [hM]; exact Q4h (Qmi _).symm (Qf5 hd)
 have hok:∀ p∈M,Nml p.c/\Cs 10 3 p.c:=λp hp=>by
  rw [hM,S8] at hp;exact Q00 hlit e p hp
 have hsc:∀ p∈M,Sc p.c:=λp hp=>⟨(hok p hp).1,(hok p hp).2.mono (by decide) (by decide)⟩
 have hln:M.length<=10:=by omega
 have hv:Va (tq q):=Zlw (hq0.mono (by decide));have S:Stab (bcH M) (brH M):=Zny hsc hln hMd;obtain ⟨c0,hc0⟩:=nmE (Q3o M (tq q));have hst:KSt (bcH M) (brH M) c0 (brH M (tq q)):=by rw [hc0]; exact Zja S hv
 have hn0:c0.now=tq q:=by rw [hc0]; rfl
 have hev0:c0.ev=0:=by rw [hc0]; rfl
 rw [<-hc0] at cb;have hal:(Qdq M++Qji M).length<=1000000:=Q57 hln;have csm:=Qz6 hn hdd;obtain ⟨t,ht⟩:=nmE (Ap n d);have htq:Qs 400000 t:=by rw [ht]; exact (Qg4 n d).mono (by decide)
 rw [show G6 (Aq n 61-30) (1+Aq d 6)=t from ht.symm] at csm;have ctt:=Zh0 (q:=t) (htq.mono (by decide));obtain ⟨c1,r1,a1,a2,hS,hadv⟩:∃ (c1:Cr) (r1:List (List LV)) (a1 a2:Int),KSt (bcH M) (brH M) c1 r1/\Gn Tryz.prog 50 [.one (.ow 0 0),.agg (rl t)] [.blk 124 (Pe c0 (Ux M) (brH M (tq q)))] [.one (.int .i64 a1),.one (.int .i64 a2)] [.blk 124 (Pe c1 (Ux M) r1)]:=by
  by_cases hp:q<=t
  ·obtain ⟨K,c',E,h1,h2,h3,h4,h5,h6,h7⟩:=Zi3 S (Qii hsc) (λa _=>Qpo) hal htq hst (by rw [hn0,Qvs]; exact Qdz.2 hp);exact ⟨c',_,_,_,h4,Zjh (l:=M) (K:=K) htq hsc hln hst.inv.ok (by rw [hev0]; omega) (by rw [hn0,Qvs]; exact Qdz.2 hp) h2⟩
  ·exact ⟨c0,_,_,_,hst,Qwn (l:=M) (r1:=brH M (tq q)) htq hst.inv.ok.n (by rw [hn0,Qvs]; exact Cm.2 (Jg.1 hp))⟩
 have hcrl:=Hf M;refine Gs Tryz.func8 rfl ?_;refine go tt [.c [0,1] cb,.f rfl,.c [] csm,.c [] ctt,.c [0] hadv,.c [0,3] Q3u,.f rfl] rfl trivial ?_;by_cases hM0:M.length=0
 ·exact en tt [.t (decide_eq_true (by omega)),.c [] Qnm] rfl rfl trivial
 have hw1:Aq k (M.length:Int)=k % (M.length:Int):=if_neg (by omega);have hw2:=J4 k (b:=(M.length:Int)) (by omega);have hw3:=Jb k (b:=(M.length:Int)) (by omega);obtain ⟨j,hj⟩:∃ j:Nat,(j:Int)=k % (M.length:Int):=⟨(k % (M.length:Int)).toNat,by omega⟩;have cwi:=O9 (v:=k) (n:=(M.length:Int)) hk (by omega);rw [hw1,<-hj] at cwi;rw [<-hcrl] at cwi;obtain ⟨p,hp⟩:=gxE (l:=M) (i:=j) (by omega);obtain ⟨hpn,hpc⟩:=hok p (Qa hp);have hpid:has M p.id=true:=Zkj hMs hp;obtain ⟨X,hX⟩:=nmE (p.c.x.map (· * -5));obtain ⟨Y,hY⟩:=nmE (p.c.y.map (· * -5));obtain ⟨D,hD⟩:=nmE (p.c.d*-5);have hXl:X.length=p.c.x.length:=by rw [hX,Q5]
 have hYl:Y.length=p.c.y.length:=by rw [hY,Q5]
 have hc5:Cs 13 3 (Crv.mk X Y D):=by rw [hX,hY,hD]; exact Zm1 hpc
 have hnm:Crv.norm (Crv.mk X Y D)=p.c:=by rw [hX,hY,hD]; exact Zae hpn (by decide)
 have hm5:=λ{z:Int} (h:U6 z<=10)=>S9 (a:=z) (b:=-5) (by omega) (by decide)
 have hto:=λ{z:Int} (h:U6 z<=10)=>Q3z (z:=z*-5) (by have:=Qqr h; omega)
 have hfr:=λ{z:Int} (h:U6 z<=10)=>Qjt (z:=z) (by omega)
 have cof:=C3 (n:=-5) (by decide);have cmd:=hm5 hpc.d;have ctd:=hto hpc.d;rw [<-hD] at cmd ctd;refine go tt [.f (decide_eq_false (by omega)),.c [] cwi,.x (Fb hp),.c [] (hfr hpc.d),.c [] cof,.c [] cmd,.c [] ctd] rfl (by simp [Us] <;> omega) ?_;refine oz2 15 0 51 2 rfl rfl ?_;have hxl:(p.c.x.map Gv).length=p.c.x.length:=by simp
 have hyl:(p.c.y.map Gv).length=p.c.y.length:=by simp
 have hx3:=hpc.lx;have hy3:=hpc.ly;have hXt:∀ i,i<=p.c.x.length->(Ml (X.take i)).length=i:=λi hi=>by rw [Qgq,Qp]; omega
 have hYt:∀ i,i<=p.c.y.length->(Ml (Y.take i)).length=i:=λi hi=>by rw [Qgq,Qp]; omega
 refine lp (S:=Nat) 7 (λL1 i=>(71,.v (.one (.int .i64 (i:Int))))::L1) (λi=>[.blk 124 (Pe c1 (Ux M) r1),.blk 45 (plB M q [[-q.num,(q.den:Int)],[1]] (Qcq q M)),.blk 35 (fr t),.blk 124 (Pe c1 (Ux M) r1),.blk 57 (Dc p),.blk 53 [.orow 6 2 none,.nils,sg D,mg D],.row false 51 2 (Ml (X.take i))]) (λi=>p.c.x.length-i) (λi=>i<=p.c.x.length) 0 (Qh _) rfl (λ_ _=>rfl) rfl λi hi=>?_
 by_cases hlt:i<p.c.x.length
 ·obtain ⟨z,hz⟩:=gxE (l:=p.c.x) (i:=i) hlt;have hzs:=hpc.x z (Qa hz);have hs:∀ y∈[Gv (z*-5)],y.length=2:=λy hy=>by rw [Qk.1 hy]; rfl
  refine go tt [.t (decide_eq_true (by omega)),.x (Gt (f:=Gv) hz),.c [] (hfr hzs),.c [] cof,.c [] (hm5 hzs),.c [] (hto hzs),.s (sz:=2) hs] rfl (by simp [Us,hXt i hi]; omega) ?_;exact rd (i+1) (by omega) hlt (by rw [hX,<-Qlm hz]; rfl)
 obtain rfl:i=p.c.x.length:=by omega
 rw [Ql (by omega)];refine go tt [.f (decide_eq_false (by omega))] rfl trivial ?_;refine pz 6 rfl rfl ?_;refine oz2 15 1 51 2 rfl rfl ?_;refine lp (S:=Nat) 8 (λL1 i=>(96,.v (.one (.int .i64 (i:Int))))::L1) (λi=>[.blk 124 (Pe c1 (Ux M) r1),.blk 45 (plB M q [[-q.num,(q.den:Int)],[1]] (Qcq q M)),.blk 35 (fr t),.blk 124 (Pe c1 (Ux M) r1),.blk 57 (Dc p),.blk 53 [.row (Ml X),.orow 7 2 none,sg D,mg D],.gone,.row false 51 2 (Ml (Y.take i))]) (λi=>p.c.y.length-i) (λi=>i<=p.c.y.length) 0 (Qh _) rfl (λ_ _=>rfl) rfl λi hi=>?_
 by_cases hlt:i<p.c.y.length
 ·obtain ⟨z,hz⟩:=gxE (l:=p.c.y) (i:=i) hlt;have hzs:=hpc.y z (Qa hz);have hs:∀ y∈[Gv (z*-5)],y.length=2:=λy hy=>by rw [Qk.1 hy]; rfl
  refine go tt [.t (decide_eq_true (by omega)),.x (Gt (f:=Gv) hz),.c [] (hfr hzs),.c [] cof,.c [] (hm5 hzs),.c [] (hto hzs),.s (sz:=2) hs] rfl (by simp [Us,hYt i hi]; omega) ?_;exact rd (i+1) (by omega) hlt (by rw [hY,<-Qlm hz]; rfl)
 obtain rfl:i=p.c.y.length:=by omega
 rw [Ql (by omega)];obtain ⟨⟨ok1,kk1⟩,hcs,hr1⟩:=hS;obtain ⟨w2,l1,l2⟩:=Qli ok1.n ok1.l (Fz (bcH M c1.now));have okw:=Orr.lay_ok c1.ev ok1 ok1.n (S.ok.p _ ok1.n) (S.ok.n _ ok1.n) l1;have cturn:=Q6r (c:=c1) (l:=M) (l':=M) (r1:=r1) (Gf X) (Gf Y) (Uv D) (hc5.mono (by decide) (by decide)) (by omega) hpid ok1 (by rw [hnm]; exact (Zby hMs hp).symm) hsc l1;obtain ⟨s,hs⟩:=nmE (brH M c1.now);rw [<-hs] at cturn hr1;rw [hr1] at cturn;rw [hr1];have cal:=Qss (c:=c1) (c':=⟨c1.now,w2,c1.ev⟩) (l:=M) (l':=M) (m:=M) (a:=c1.now) (r:=s) (by omega) hs;have cC1:=Qjv (T:=124) (c:=c1) (r0:=Ux M) (r1:=s) ok1;have cC2:=Qjv (T:=124) (c:=⟨c1.now,w2,c1.ev⟩) (r0:=Ux M) (r1:=s) okw;have hcs2:Fz ((⟨c1.now,w2,c1.ev⟩:Cr).l.map (·.c))=Fz (c1.l.map (·.c)):=by
  show Fz (w2.map (·.c))=_;rw [l2,hcs]
 rw [hcs2] at cC2;have hC5:∀ x∈Fz (c1.l.map (·.c)),Cp x.p:=Zfi hcs (S.ok.p _ ok1.n);have hCl:(Fz (c1.l.map (·.c))).length≤1000000:=by rw [Ll,Q5]; have:=ok1.k; omega
 have csc:=Q7a (l:=Fz (c1.l.map (·.c))) hC5 hCl;have cE1:=Qnb (T:=124) (c:=c1) (r0:=Ux M) (r1:=s);have cE2:=Qnb (T:=124) (c:=⟨c1.now,w2,c1.ev⟩) (r0:=Ux M) (r1:=s);have hji:=(Qd.1 hp).1;obtain ⟨N,hN⟩:=nmE (M.take j++M.drop (j+1));have hNl:=Qtv hji;rw [<-hN] at hNl;have hNm:∀ x∈N,x∈M:=λx hx=>by
  rw [hN] at hx;rcases Qu.1 hx with h | h
  ·exact Qn h
  ·exact Q9 h
 have hNs:∀ x∈N,Sc x.c:=λx hx=>hsc x (hNm x hx)
 have hBN:=Qjk hNs (by omega);obtain ⟨w3,m1,m2⟩:=Qli okw.n okw.l (Fz (bcH N c1.now));have okw3:=Orr.lay_ok c1.ev okw okw.n (hBN.p _ okw.n) (hBN.n _ okw.n) m1;have cdr:=Q6p (c:=⟨c1.now,w2,c1.ev⟩) (l:=M) (l':=N) (r1:=s) (by omega) hpid okw (by rw [Qyf hMs hp]; exact hN) hNs m1;have hgo:has N p.id=false:=by rw [hN]; exact Q9n hMs hp
 have cde:=Q3v (c:=⟨c1.now,w3,c1.ev⟩) (l:=N) (r1:=brH N c1.now) (id:=p.id) (by omega) hgo;have hnp:Crv.norm (Crv.mk p.c.x p.c.y p.c.d)=p.c:=Crv.norm_of hpn;have hpb:put N ⟨Crv.norm (Crv.mk p.c.x p.c.y p.c.d),p.id⟩=M:=by rw [hnp,hN]; exact Za6 hMs hp
 have hpe:Ed N ⟨Crv.norm (Crv.mk p.c.x p.c.y p.c.d),p.id⟩=0:=by
  unfold Ed;rw [if_neg (by rw [hgo]; decide),if_neg (by omega)]
 obtain ⟨w4,n1,n2⟩:=Qli okw3.n okw3.l (Fz (bcH M c1.now));have okw4:=Orr.lay_ok c1.ev okw3 okw3.n (S.ok.p _ ok1.n) (S.ok.n _ ok1.n) n1;have cpu:=Zdv (c:=⟨c1.now,w3,c1.ev⟩) (l:=N) (r1:=brH N c1.now) (ws:=w4) (Gf p.c.x) (Gf p.c.y) (Uv p.c.d) (hpc.mono (by decide) (by decide)) (by omega) hpe okw3 (by rw [hpb]; exact hsc) (by rw [hpb]; omega) (by rw [hpb]; exact n1);rw [hpb] at cpu;have hpe6:Ed M ⟨Crv.norm (Crv.mk p.c.x p.c.y p.c.d),p.id⟩=6:=by
  unfold Ed;rw [if_pos hpid]
 have cpe:=Q6q (c:=⟨c1.now,w4,c1.ev⟩) (l:=M) (r1:=brH M c1.now) (Gf p.c.x) (Gf p.c.y) (Uv p.c.d) (hpc.mono (by decide) (by decide)) (by omega) hpe6 (by decide);rw [<-hs] at cpu cpe;have cal2:=Qss (c:=c1) (c':=⟨c1.now,w4,c1.ev⟩) (l:=M) (l':=M) (m:=M) (a:=c1.now) (r:=s) (by omega) hs;have cC4:=Qjv (T:=124) (c:=⟨c1.now,w4,c1.ev⟩) (r0:=Ux M) (r1:=s) okw4;have hcs4:Fz ((⟨c1.now,w4,c1.ev⟩:Cr).l.map (·.c))=Fz (c1.l.map (·.c)):=by
  show Fz (w4.map (·.c))=_;rw [n2,hcs]
 rw [hcs4] at cC4;have hne:decide (c1.ev≠c1.ev)=false:=decide_eq_false (λh=>h rfl);refine go tt [.f (decide_eq_false (by omega))] rfl trivial ?_;refine pz 7 rfl rfl ?_;refine go tt [.c [3] cturn,.g 123 false rfl,.lo,.c [0,3] cal,.g 129 false rfl,.lo,.c [0] cC1,.lo,.c [3] cC2,.c [] csc,.g 141 false rfl,.lo,.c [0] cE1,.lo,.c [3] cE2,.f hne,.c [3] cdr,.g 157 false rfl,.c [3] cde,.g 164 false rfl,.c [] Q75,.c [3] cpu,.g 171 false rfl,.c [] Q75,.c [3] cpe,.f rfl] rfl trivial ?_;exact en tt [.lo,.c [0,3] cal2,.g 181 true rfl,.lo,.c [0] cC1,.lo,.c [3] cC4,.c [] csc,.g 192 true rfl,.c [] Qnm] rfl rfl trivial
end Orr
namespace Orr
open Go Go.Proofs
variable {H:Type} {enc:TypeId×Value->H} {w:World} {base:Nat} {spare:Nat->Bool} {held:Bool}
theorem Ly {α:Type} {l:List α} {n i:Nat} (h:l.length=n) (hi:i<n):∃ x,l[i]? = some x:=⟨l[i]'(by omega),Qe (by omega)⟩
end Orr
namespace Orr
open Go Go.Proofs Go.ChangeShapes Go.WideShapes Go.ChangeAt Go.RowKit Go.WideElems
theorem Zes {w:World} {a:Addr} {v:Value} (h:w.cell? a=some v):a.spot=none/\a.block<w.heap.size:=by
 simp only [World.cell?] at h
 split at h
 ·rename_i c t fr hc
  split at h
  ·cases h
  ·rename_i hs;refine ⟨by cases e:a.spot with | none=>rfl | some _=>simp [e] at hs,?_⟩;exact (Array.getElem?_eq_some_iff.1 hc).1
 ·cases h
theorem Zdj {a:Addr} (h:a.spot=none) (n m:Nat):(a.add n).add m=⟨a.block,a.off+n+m,none⟩:=by
 obtain ⟨b,o,s⟩:=a;simp only at h;subst h;simp only [Addr.add]
 split
 ·rename_i h; subst h
  split
  ·rename_i h; subst h; simp
  ·simp
 ·split
  ·rename_i h; subst h; simp
  ·simp
def fr0 (w:World):Fr:=⟨λb=>b<w.heap.size,λ_=>False,w,λ_=>False,λ_=>none⟩
theorem hs0 (w:World):HS (fr0 w) (ob []) (nw []) (λ_=>none) (λ_=>False) w where
 size:=Qm _
 kept:=λb hb=>⟨hb,rfl,Iff.rfl⟩
 ids:=λi h=>h.elim
 nj:=λi h=>by rw [Qq6] at h; cases h
 io:=⟨rfl,rfl⟩
 blk:=λi=>by rw [Qq6]; trivial
 nk:=λi g c m h _=>by rw [Qq6] at h; cases h
 inj:=λi j g c m c' m' h _ _ _=>by rw [Qq6] at h; cases h
 mlt:=λb h=>h.elim
 m0:=λb _ h=>h.elim
 un:=λi _=>⟨rfl,rfl⟩
 uj:=λi _ h=>h.elim
theorem Zgv {w w':World} {bl:Nat->OB} {U:Nat->Prop} {E:Np} {M:Nat->Prop} (h:HS (fr0 w) bl U E M w') {p:MemPlace} (hp:p.block<w.heap.size):w.sameAt w' p:=by
 cases p with
 | cell b off=>simp only [World.sameAt,World.cell?]; rw [(h.kept b hp).2.1]; rfl
 | map b=>exact (h.kept b hp).2.1
theorem Zfh {w w':World} {bl:Nat->OB} {U:Nat->Prop} {E:Np} {M:Nat->Prop} (h:HS (fr0 w) bl U E M w') (may:MemPlace->Prop):w.keptBut w' may:=by
 refine ⟨h.io.1,h.io.2,λi hi=>?_⟩;have e:w'.heap[i]? = w.heap[i]? := (h.kept i hi).2.1;rw [e];cases w.heap[i]? with
 | none=>rfl
 | some o=>cases o <;> simp
theorem Qbk {H:Type} {P:Program} {e:TypeId}:∀ {l:List (DataW H)} {i:Nat} {d:DataW H},l[i]? = some d->∀ n∈d.weights P e,n∈DataW.weightsAll P e l
 | [],i,d,h,_,_=>by simp at h
 |
  x::l,0,d,h,n,hn=>by
  simp at h; subst h;simp only [DataW.weightsAll,Qu]; exact .inl hn
 |
  x::l,i+1,d,h,n,hn=>by
  simp only [DataW.weightsAll,Qu];exact .inr (Qbk (i:=i) (by simpa using h) n hn)
theorem Av {H:Type} {P:Program} {t:TypeId} {fs:Array Field} {parts:List (DataW H)} (hu:P.underlying t=some (.struct fs)) (hz:((DataW.agg parts).weights P t).all (· <= reachBytes)=true) {i:Nat} {f:Field} {d:DataW H} (hf:fs[i]? = some f) (hd:parts[i]? = some d) :
 (d.weights P f.type).all (· <= reachBytes)=true:=by
 rw [Yt] at hz ⊢;intro n hn;refine hz n ?_;simp only [DataW.weights,hu];exact DataW.weights_mem_each (j:=i) (by rw [Q7]; simp [hf]) hd n hn
variable {H:Type} {enc:TypeId×Value->H} {w:World}
abbrev O0:Nat->Prop:=λ_=>False
def Els (w:World) (cs:List Value) (ls:List LV):Prop:=cs.length=ls.length/\∀ (j:Nat) (u:LV),ls[j]? = some u->∃ v,cs[j]? = some v/\LRep w O0 v u
theorem Qe1 {α:Type} {rw_:α->List LV} {Ok:α->Prop} {t e sz:Nat} (hu:Tryz.prog.underlying t=some (.slice e)) (hc:Tryz.prog.cellsOf e=sz) (hsz:0<sz) (hb:1<=Tryz.prog.bytesOf e) (hw:∀ z,(rw_ z).length=sz)
 (elem:∀ fuel cs x,DataW.trod enc Tryz.prog w 0 (λ_=>true) true fuel e cs=some x->(x.1.weights Tryz.prog e).all (· <= reachBytes)=true->∃ z,Ok z/\Els w cs (rw_ z))
 {fuel:Nat} {cs:List Value} {x:DataW H×List MemPlace} (h:DataW.trod enc Tryz.prog w 0 (λ_=>true) true fuel t cs=some x) (hz:(x.1.weights Tryz.prog t).all (· <= reachBytes)=true) :
 ∃ (v:Value) (l:List α),cs=[v]/\(∀ z∈l,Ok z)/\l.length<2^47/\LRep w O0 v (.row (l.map rw_)):=by
 rcases Go.Deep.open_slice hu h with ⟨rfl,_⟩ | ⟨a',len,cap,m,n,D,Pl,rfl,_,hlc,hcap,hm,rfl,hr⟩
 ·refine ⟨_,[],rfl,by simp,Nat.two_pow_pos 47,?_⟩;exact LRep.row none 0 0 0 0 [] (λ_ _=>.bool true) (Qm _) (by decide) (by simp) (by simp) (by simp) (by simp)
 ·simp only [if_true] at hm;subst hm;rw [Yt] at hz;have hlen:len<2^47:=by
   have h0:=hz ((len+(m-len))*Tryz.prog.bytesOf e) (by simp [DataW.weights,hu]);have h1:len<=(len+(m-len))*Tryz.prog.bytesOf e:=by
    have:=Zh (Ve len (m-len)) hb;omega
   have h2:(len+(m-len))*Tryz.prog.bytesOf e<=reachBytes:=by simpa using h0
   exact Zw (Qc h1 h2) reachBytes_lt
  have hel:∀ i,i<len->((D i).weights Tryz.prog e).all (· <= reachBytes)=true:=λi hi=>by
   rw [Yt];intro k hk;refine hz k ?_;simp only [DataW.weights,hu];refine Qj _ (Qu.2 (.inl (Qbk (i:=i) ?_ k hk)));rw [Q7,Xu hi]; rfl
  have hone:∀ i,i<len->∃ z cs',Ok z/\Els w cs' (rw_ z)/\∀ j,j<sz->w.cell? ((a'.add (i*sz)).add j)=cs'[j]? := λi hi=>by
   obtain ⟨cs',hcs,htr⟩:=hr i (by omega);rw [hc] at hcs;obtain ⟨_,hl,hcell⟩:=World.cells?_some hcs;obtain ⟨z,hz1,hz2⟩:=elem _ _ _ htr (hel i hi);refine ⟨z,cs',hz1,hz2,λj hj=>?_⟩;rw [hcell j (by omega)]
  have hspot:0<len->a'.spot=none/\a'.block<w.heap.size:=λh0=>by
   obtain ⟨z,cs',_,⟨hl,_⟩,h3⟩:=hone 0 h0;have h4:=h3 0 hsz;have:(a'.add (0*sz)).add 0=a':=by simp [Addr.add]
   rw [this,Qe (by rw [hl,hw]; exact hsz)] at h4;exact Zes h4
  obtain ⟨l,hll,hl⟩:∃ l:List α,l.length=len/\∀ i z,l[i]? = some z->Ok z/\∃ cs',Els w cs' (rw_ z)/\∀ j,j<sz->w.cell? ((a'.add (i*sz)).add j)=cs'[j]? := by
   have:∀ k,k<=len->∃ l:List α,l.length=k/\∀ i z,l[i]? = some z->Ok z/\∃ cs',Els w cs' (rw_ z)/\∀ j,j<sz->w.cell? ((a'.add (i*sz)).add j)=cs'[j]? := by
    intro k
    induction k with
    | zero=>intro _; exact ⟨[],rfl,λi z h=>by simp at h⟩
    |
     succ k ih =>
     intro hk;obtain ⟨l,h1,h2⟩:=ih (by omega);obtain ⟨z,cs',h3,h4,h5⟩:=hone k (by omega);refine ⟨l++[z],by simp [h1],λi y hy=>?_⟩;rcases Za i l.length with hi | hi
     ·rw [Zf hi] at hy; exact h2 i y hy
     ·rw [Z0 hi] at hy;have:i-l.length=0:=by
       rcases Qz (i-l.length) with h | h
       ·exact h
       ·rw [Qt (by rw [Yz]; exact h)] at hy; cases hy
      rw [this] at hy;simp at hy;subst hy;have:i=k:=by omega
      subst this;exact ⟨h3,cs',h4,h5⟩
   exact this len (Qm _)
  refine ⟨_,l,rfl,λz hz=>?_,by rw [hll]; exact hlen,?_⟩
  ·obtain ⟨i,hi⟩:=Zd.1 hz;exact (hl i z hi).1
  ·have key:LRep w O0 (.slice (some a') (l.map rw_).length m) (.row (l.map rw_)):=by
    have hgl:∀ i c,(l.map rw_)[i]? = some c->∃ z,l[i]? = some z/\c=rw_ z/\i<len:=λi c h=>by
     rw [Q7] at h;cases e:l[i]? with
     | none=>rw [e] at h; cases h
     | some z=>rw [e] at h; simp at h; exact ⟨z,rfl,h.symm,by have:=(Qd.1 e).1; omega⟩
    have hcl:∀ i c,(l.map rw_)[i]? = some c->∃ cs':List Value,Els w cs' c/\∀ j,j<sz->w.cell? ⟨a'.block,a'.off+i*sz+j,none⟩=cs'[j]? := λi c h=>by
     obtain ⟨z,hz,rfl,hi⟩:=hgl i c h;obtain ⟨_,cs',h1,h2⟩:=hl i z hz;refine ⟨cs',h1,λj hj=>?_⟩;rw [<-h2 j hj,Zdj (hspot (by omega)).1]
    refine LRep.row (some a') m sz a'.block a'.off (l.map rw_) (λi j=>(w.cell? ⟨a'.block,a'.off+i*sz+j,none⟩).getD (.bool true)) (by rw [Q5]; omega) ?_ ?_ ?_ ?_ ?_
    ·have:maxLen=2^63-1:=by rfl
     omega
    ·intro c hc2;obtain ⟨z,_,rfl⟩:=Zn.1 hc2;exact hw z
    ·intro h0;rw [Q5,hll] at h0;obtain ⟨hs,hb⟩:=hspot h0;refine ⟨?_,hb,by simp [O0]⟩;obtain ⟨b,o,s⟩:=a';simp only at hs;rw [hs]
    ·intro i c hi j hj;obtain ⟨z,_,rfl,_⟩:=hgl i c hi;obtain ⟨cs',⟨h1,_⟩,h2⟩:=hcl i _ hi;have hjs:j<sz:=by rw [<-hw z]; exact hj
     rw [h2 j hjs,Qe (by rw [h1]; exact hj)]; rfl
    ·intro i c hi j u hu2;obtain ⟨z,_,rfl,_⟩:=hgl i c hi;obtain ⟨cs',⟨h1,h3⟩,h2⟩:=hcl i _ hi;obtain ⟨v,hv,hr2⟩:=h3 j u hu2;have hjs:j<sz:=by rw [<-hw z]; exact (Qd.1 hu2).1
     show LRep w O0 ((w.cell? ⟨a'.block,a'.off+i*sz+j,none⟩).getD (.bool true)) u;rw [h2 j hjs,hv]; exact hr2
   rw [Q5,hll] at key;exact key
abbrev Zow (x:Nat):List LV:=[.int .u32 (x:Int)]
theorem Zct:∀ fuel cs x,DataW.trod enc Tryz.prog w 0 (λ_=>true) true fuel 199 cs=some x->(x.1.weights Tryz.prog 199).all (· <= reachBytes)=true->∃ z:Nat,z<4294967296/\Els w cs (Zow z):=by
 intro fuel cs x h _;obtain ⟨n,rfl,_,hwf⟩:=DataW.trod_int Tryz.underlying199 h;have hn:0<=n/\n<4294967296:=by
  have:0<=n/\n<=4294967295:=by simpa [Lit.wf,IntKind.min,IntKind.max,IntKind.signed,IntKind.bits] using hwf
  omega
 refine ⟨n.toNat,by omega,rfl,λj u hu=>?_⟩
 match j,hu with
 |
  0,hu =>
  simp at hu; subst hu;refine ⟨_,rfl,?_⟩;rw [show max n 0=n by omega];exact .int _ _
 | j+1,hu=>simp at hu
set_option maxRecDepth 20000 in
theorem Qlb:∀ fuel cs x,DataW.trod enc Tryz.prog w 0 (λ_=>true) true fuel 51 cs=some x->(x.1.weights Tryz.prog 51).all (· <= reachBytes)=true->∃ z:RawInt,z.Ok/\Els w cs (Qg0 z):=by
 intro fuel cs x h hz;obtain ⟨xs,n,_,rfl,hl,hxs,hf⟩:=DataW.trod_struct Tryz.underlying51 h;have hl:cs.length=2:=hl
 match cs,hl with
 |
  [v0,v1],_ =>
  obtain ⟨z0,hz0⟩:=Ly (i:=0) hxs (by decide);obtain ⟨z1,hz1⟩:=Ly (i:=1) hxs (by decide);have h0:=hf 0 _ rfl;have h1:=hf 1 _ rfl;rw [hz0] at h0; rw [hz1] at h1;obtain ⟨b,e0,_⟩:=DataW.trod_bool Tryz.underlying4 h0;have f0:v0=.bool b:=(List.cons.inj (show [v0]=[Value.bool b] from e0)).1;have hw1:=Av Tryz.underlying51 hz (i:=1) rfl (d:=z1.1) (by rw [Q7,hz1]; rfl);obtain ⟨v,l,e1,hlo,_,hrep⟩:=Qe1 (sz:=1) (Ok:=λu:Nat=>u<4294967296) (rw_:=Zow) Tryz.underlying49 (by kernel_rfl) (by decide) (of_decide_eq_true (by kernel_rfl)) (λ_=>rfl) Zct h1 hw1;have f1:v1=v:=(List.cons.inj (show [v1]=[v] from e1)).1;subst f0 f1;refine ⟨⟨b,l⟩,⟨hlo⟩,rfl,λj u hu=>?_⟩
  match j,hu with
  | 0,hu=>simp at hu; subst hu; exact ⟨_,rfl,.bool _⟩
  | 1,hu=>simp at hu; subst hu; exact ⟨_,rfl,hrep⟩
  | j+2,hu=>simp at hu
set_option maxRecDepth 20000 in
theorem Qye:∀ fuel cs x,DataW.trod enc Tryz.prog w 0 (λ_=>true) true fuel 135 cs=some x->(x.1.weights Tryz.prog 135).all (· <= reachBytes)=true->∃ z:RawPt,z.Ok/\Els w cs (rwq z):=by
 intro fuel cs x h hz;obtain ⟨xs,n,_,rfl,hl,hxs,hf⟩:=DataW.trod_struct Tryz.underlying135 h;have hl:cs.length=5:=hl
 match cs,hl with
 |
  [v0,v1,v2,v3,v4],_ =>
  obtain ⟨z0,hz0⟩:=Ly (i:=0) hxs (by decide);obtain ⟨z1,hz1⟩:=Ly (i:=1) hxs (by decide);have h0:=hf 0 _ rfl;have h1:=hf 1 _ rfl;rw [hz0] at h0; rw [hz1] at h1;obtain ⟨id,e4,_,hwf⟩:=DataW.trod_int Tryz.underlying3 h1;have f4:v4=.int .i64 id:=(List.cons.inj (show [v4]=[Value.int .i64 id] from e4)).1;have hw0:=Av Tryz.underlying135 hz (i:=0) rfl (d:=z0.1) (by rw [Q7,hz0]; rfl);obtain ⟨ys,n2,_,e5,_,hys,hg⟩:=DataW.trod_struct Tryz.underlying53 h0;rw [e5] at hw0;obtain ⟨y0,hy0⟩:=Ly (i:=0) hys (by decide);obtain ⟨y1,hy1⟩:=Ly (i:=1) hys (by decide);obtain ⟨y2,hy2⟩:=Ly (i:=2) hys (by decide);have g0:=hg 0 _ rfl;have g1:=hg 1 _ rfl;have g2:=hg 2 _ rfl;rw [hy0] at g0; rw [hy1] at g1; rw [hy2] at g2;have w0:=Av Tryz.underlying53 hw0 (i:=0) rfl (d:=y0.1) (by rw [Q7,hy0]; rfl);have w1:=Av Tryz.underlying53 hw0 (i:=1) rfl (d:=y1.1) (by rw [Q7,hy1]; rfl);have w2:=Av Tryz.underlying53 hw0 (i:=2) rfl (d:=y2.1) (by rw [Q7,hy2]; rfl);obtain ⟨u0,lx,e0,hx,_,rx⟩:=Qe1 (sz:=2) (Ok:=RawInt.Ok) (rw_:=Qg0) Tryz.underlying48 (by kernel_rfl) (by decide) (of_decide_eq_true (by kernel_rfl)) (λ_=>rfl) Qlb g0 w0;obtain ⟨u1,ly,e1,hy,_,ry⟩:=Qe1 (sz:=2) (Ok:=RawInt.Ok) (rw_:=Qg0) Tryz.underlying48 (by kernel_rfl) (by decide) (of_decide_eq_true (by kernel_rfl)) (λ_=>rfl) Qlb g1 w1;obtain ⟨d,hd,hde⟩:=Qlb _ _ _ g2 w2;have f0:v0=u0:=(List.cons.inj (show [v0]=[u0] from e0)).1;have f1:v1=u1:=(List.cons.inj (show [v1]=[u1] from e1)).1;have hde2:Els w [v2,v3] (Qg0 d):=hde;subst f0 f1 f4;obtain ⟨q2,hq2,r2⟩:=hde2.2 0 _ rfl;obtain ⟨q3,hq3,r3⟩:=hde2.2 1 _ rfl;simp at hq2 hq3;subst hq2 hq3;refine ⟨⟨lx,ly,d,id⟩,⟨hx,hy,hd,by simpa [Lit.wf,IntKind.min,IntKind.max,IntKind.signed,IntKind.bits] using hwf⟩,rfl,λj u hu=>?_⟩
  match j,hu with
  | 0,hu=>simp [rwq] at hu; subst hu; exact ⟨_,rfl,rx⟩
  | 1,hu=>simp [rwq] at hu; subst hu; exact ⟨_,rfl,ry⟩
  | 2,hu=>simp [rwq] at hu; subst hu; exact ⟨_,rfl,r2⟩
  | 3,hu=>simp [rwq] at hu; subst hu; exact ⟨_,rfl,r3⟩
  | 4,hu=>simp [rwq] at hu; subst hu; exact ⟨_,rfl,.int _ _⟩
  | j+5,hu=>simp [rwq] at hu
end Orr
namespace Orr
open Go Go.Proofs Go.ChangeShapes Go.WideShapes Go.ChangeAt Go.RowKit Go.WideElems
set_option maxRecDepth 20000 in
theorem Qt7 {f:FuncId} {fn:Func} {s:ChangeSpec} (hp:fn.params = #[22,3,3,3]) (hr:fn.resultTypes = #[4]) (hv:s.vars=[])
 (hs:∀ (H:Type) (d1 d2 d3 d4:DataW H),s.fn H [d1,d2,d3,d4]={ results:=[.lit (.bool true)],args:=[d1,d2,d3,d4] })
 (hlaid:laidOutB Tryz.prog=true) (hr22:Tryz.prog.readableRec 22=true) (hr3:Tryz.prog.readableRec 3=true) (hs22:22<Tryz.prog.types.size) (hs3:3<Tryz.prog.types.size)
 (law:∀ (zs:List RawPt) (n d k:Int),(∀ z∈zs,z.Ok)->(-2^63≤n/\n≤2^63-1)->(-2^63≤d/\d≤2^63-1)->(-2^63≤k/\k≤2^63-1)->Uu Tryz.prog f [.one (.row (Qe3 zs)),.one (.int .i64 n),.one (.int .i64 d),.one (.int .i64 k)] [.one (.bool true)])
 {H:Type} {enc:TypeId×Value->H} {W:World} {base:Nat} {args:Array Value} {ds gs:List (DataW H)} {Te:List MemPlace} {fresh handsOn:Bool}
 (hval:∀ (j:Nat) t v,fn.params[j]? = some t->args[j]? = some v->Value.okWide Tryz.prog W .any base t v)
 (hW:DataW.Whole enc Tryz.prog fn.params.toList s.vars false W args.toList ds gs Te)
 (hz:(DataW.weightsEach Tryz.prog (fn.params.toList++s.plain.varTypes Tryz.prog) (ds++gs)).all (· <= reachBytes)=true) :
 Calls Tryz.prog f args W λe W'=>∃ v,e=.returned v/\s.post enc Tryz.prog fn false fresh handsOn false W args v W':=by
 have hW':=hW;obtain ⟨p,q,hA0,hV,rfl,hfz,hnd⟩:=hW;have hA:DataW.TrodAll enc Tryz.prog W 0 (λ_=>true) true fn.params.toList args.toList ds p:=hA0;rw [hv] at hV;obtain ⟨rfl,rfl⟩:=trodVars_none hV;have hlt:=hW'.lt;rw [hp] at hA hval hz;obtain ⟨v0,vs0,d0,ds0,p0,q0,hargs0,rfl,rfl,h0,r0⟩:=trodAll_cons hA;obtain ⟨v1,vs1,d1,ds1,p1,q1,rfl,rfl,rfl,h1,r1⟩:=trodAll_cons r0;obtain ⟨v2,vs2,d2,ds2,p2,q2,rfl,rfl,rfl,h2,r2⟩:=trodAll_cons r1;obtain ⟨v3,vs3,d3,ds3,p3,q3,rfl,rfl,rfl,h3,r3⟩:=trodAll_cons r2;obtain ⟨rfl,rfl,rfl⟩:=trodAll_nil r3;obtain rfl:args = #[v0,v1,v2,v3]:=by cases args; simp_all
 obtain ⟨n,rfl,rfl,rfl,w1⟩:=open_int Tryz.underlying3 (hval 1 3 v1 rfl rfl) h1;obtain ⟨d,rfl,rfl,rfl,w2⟩:=open_int Tryz.underlying3 (hval 2 3 v2 rfl rfl) h2;obtain ⟨k,rfl,rfl,rfl,w3⟩:=open_int Tryz.underlying3 (hval 3 3 v3 rfl rfl) h3;have hv0:=hval 0 22 v0 rfl rfl;obtain ⟨a,len,cap,rfl⟩:=okWide_slice Tryz.underlying22 hv0;have hz0:(d0.weights Tryz.prog 22).all (· <= reachBytes)=true:=by
  rw [Yt] at hz ⊢;intro j hj;exact hz j (DataW.weights_mem_each (j:=0) rfl rfl j hj)
 have h0':=h0;obtain ⟨fu,h0'⟩:=h0';obtain ⟨v,zs,e0,hok,hlen,hrep⟩:=Qe1 (sz:=5) (Ok:=RawPt.Ok) (rw_:=rwq) Tryz.underlying22 (by kernel_rfl) (by decide) (of_decide_eq_true (by kernel_rfl)) (λ_=>rfl) Qye h0' hz0;have f0:Value.slice a len cap=v:=(List.cons.inj (show [Value.slice a len cap]=[v] from e0)).1;subst f0;have hd1:-2^63<=d/\d<=2^63-1:=by simpa [Lit.wf,IntKind.min,IntKind.max,IntKind.signed,IntKind.bits] using w2
 have hrep:LRep W (λ_=>False) (.slice a len cap) (.row (Qe3 zs)):=hrep;have hn1:-2^63<=n/\n<=2^63-1:=by simpa [Lit.wf,IntKind.min,IntKind.max,IntKind.signed,IntKind.bits] using w1
 have hk1:-2^63<=k/\k<=2^63-1:=by simpa [Lit.wf,IntKind.min,IntKind.max,IntKind.signed,IntKind.bits] using w3
 have hcall:=(law zs n d k hok hn1 hd1 hk1).2 (fr0 W) (λ_=>none) (λ_=>False) W [.slice a len cap,.int .i64 n,.int .i64 d,.int .i64 k] (hs0 W) (.cons (show XRep W (λ_=>False) (λ_=>none) (.slice a len cap) (.row (Qe3 zs)) from hrep.x) (.cons (show XRep W (λ_=>False) (λ_=>none) (.int .i64 n) (.int .i64 n) from (LRep.int .i64 n).x) (.cons (show XRep W (λ_=>False) (λ_=>none) (.int .i64 d) (.int .i64 d) from (LRep.int .i64 d).x) (.cons (show XRep W (λ_=>False) (λ_=>none) (.int .i64 k) (.int .i64 k) from (LRep.int .i64 k).x) .nil))));refine hcall.mono λe W' ⟨v,u,Bo,E',M',he,⟨hu,hBo⟩,_,hm,har⟩=>?_
 subst hu;obtain rfl:v=.bool true:=by
  have h:LRep _ _ v (.bool true):=har;cases h;rfl
 refine ⟨_,he,?_⟩;refine ⟨[d0,.lit (.int .i64 n),.lit (.int .i64 d),.lit (.int .i64 k)],[],_,[],p0++([]++([]++([]++[]))),[],hW',?_,?_,?_,Zfh hm _,λh=>by cases h⟩
 ·rw [hr,Zq,hs];exact trodAll_cons_mk (shut_bool Tryz.underlying4 true) trodAll_mk0
 ·rw [hp,Zq,hs];have hb:∀ p∈p0,p.block<W.heap.size:=λp hp=>hlt p (by simp [hp])
  exact trodAll_cons_mk (Trod_stays hlaid hr22 hs22 h0 (λp hp=>Zgv hm (hb p hp)) (λp hp=>by simpa using hb p hp)) (trodAll_cons_mk (shut_int Tryz.underlying3 w1) (trodAll_cons_mk (shut_int Tryz.underlying3 w2) (trodAll_cons_mk (shut_int Tryz.underlying3 w3) trodAll_mk0)))
 ·rw [hv,Zq,hs];rfl
end Orr
