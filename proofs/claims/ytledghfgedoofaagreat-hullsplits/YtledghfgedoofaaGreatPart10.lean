/- R25 HullT H4 SD1 SC1 NewsN W1 W2 WR18 WS18 X20 B20 TouL TouQ RiseL AscL HLineL A20 WL20 WS20 ReadN LastN LastR LastS -/
import Derived.Test.YtledghfgedoofaaGreatPart09
import Derived.Test.YtledghfgedoofaaGreatPart00
import Derived.Test.YtledghfgedoofaaGreatPart08
import Derived.Test.YtledghfgedoofaaGreatPart07
import Derived.Test.YtledghfgedoofaaGreatPart04
import Derived.Test.YtledghfgedoofaaGreatPart05
import Derived.Deep.Slices
import Derived.ProofKit
import Derived.OpenShut
import Derived.WideKeyArgs
import Derived.SizedLaws
set_option linter.all false
namespace Orr
open Go Go.Proofs Orq
set_option maxRecDepth 10000
def Cf (sg:List Int->Int) (a b c:Pt):Ct:=⟨3,a.id,b.id,c.id,0,P8 a.c b.c c.c,Tf sg (P8 a.c b.c c.c)⟩
theorem Q7r {a b u:Pt} {q:Rat} {c:List (List Int)} (ha:Rs a.c) (hb:Rs b.c) (hu:Rs u.c) (hq:Qs 1000000 q):Ut Tryz.prog 249 [.one (.int .i64 3),.agg (aq q c),.one (.row [Dx a,Dx b,Dx u])] [.agg (rct (Cf (sgq q) a b u)),.one (.bool true)]:=by
 have x0:[Dx a,Dx b,Dx u][0]? = some (Dx a):=rfl;have x1:[Dx a,Dx b,Dx u][1]? = some (Dx b):=rfl;have x2:[Dx a,Dx b,Dx u][2]? = some (Dx u):=rfl;have cf:=Qm0 ha hb hu;have hsz:=Qln ha hb hu;have cg:=Av (c:=c) (Us hsz.1 (by decide)) (Qc hsz.2 (by decide)) hq;have e:rct (Cf (sgq q) a b u)=[.int .i64 3,.int .i64 a.id,.int .i64 b.id,.int .i64 u.id,.int .i64 0,rp (zp (P8 a.c b.c u.c)),.int .i64 (Mx (P8 a.c b.c u.c) q),.row [],.bool false]:=by simp only [Cf,rct,Qxi]
 rw [e];generalize P8 a.c b.c u.c=F at *;refine Gv Tryz.func249 rfl ?_;refine go tt [.g 14 false rfl,.g 18 false rfl,.x (l:=[[.int .i64 0],[.int .i64 2],[.int .i64 2],[.int .i64 3],[.int .i64 4],[.int .i64 4]]) (i:=3) (xs:=[.int .i64 3]) rfl,.f rfl] rfl trivial ?_;refine lp (S:=Nat) 3 (λL1 i=>(33,.v (.one (.int .i64 (i:Int))))::L1) (λi=>[.blk 82 (aq q c),.blk 213 rzc,.blk 213 [.int .i64 3,.int .i64 (if 0<i then a.id else 0),.int .i64 (if 1<i then b.id else 0),.int .i64 (if 2<i then u.id else 0),.int .i64 0,.nils,.int .i64 0,.nils,.bool false]]) (λi=>3-i) (λi=>i<=3) 0 (by decide) rfl (λ_ _=>rfl) rfl λi hi=>?_
 rcases (show i=0\/i=1\/i=2\/i=3 by omega) with rfl | rfl | rfl | rfl
 ·exact go tt [.t rfl,.x x0,.i 0] rfl (by simp [Ur]) (rd 1 (by omega) (by omega) rfl)
 ·exact go tt [.t rfl,.x x1,.i 1] rfl (by simp [Ur]) (rd 2 (by omega) (by omega) rfl)
 ·exact go tt [.t rfl,.x x2,.i 2] rfl (by simp [Ur]) (rd 3 (by omega) (by omega) rfl)
 exact en tt [.f rfl,.f rfl,.f rfl,.t rfl,.x x0,.x x1,.x x2,.c [] cf,.c [] cg] rfl rfl trivial
theorem Zef {a b u:Pt} {q:Rat} {c:List (List Int)} (ha:Rs a.c) (hb:Rs b.c) (hu:Rs u.c) (hq:Qs 1000000 q):Ut Tryz.prog 226 [.one (.int .i64 3),.agg (aq q c),.one (.row [Dx a,Dx b,Dx u])] [.agg (rct (Cf (sgq q) a b u))] :=
 w tt Tryz.func226 rfl [.c [] (Q7r ha hb hu hq)] rfl rfl trivial
theorem Q7u {l:List Ct} (hn:l.length<=1000000):Hh Tryz.prog 227 [.one (.row (Gi l))] [] [.one (.orow 0 9 none)] [.row false 213 9 (Gi (Fx Tg l))]:=by
 have hcl:=M6 l;refine Gv Tryz.func227 rfl ?_;refine go tt [.o 3 213 9] rfl trivial ?_;refine lp (S:=Nat) 1 (λL1 i=>(8,.v (.one (.int .i64 (i:Int))))::(3,.v (.one (.orow 0 9 none)))::L1) (λi=>[.row false 213 9 (Gi (Fx Tg (l.take i)))]) (λi=>l.length-i) (λi=>i<=l.length) 0 (Qh _) rfl (λ_ _=>rfl) rfl λi hi=>?_
 by_cases hlt:i<l.length
 ·obtain ⟨c,hc⟩:=gxE (l:=l) (i:=i) hlt;have hst:Fx Tg (l.take (i+1))=P6 Tg (Fx Tg (l.take i)) c:=Eh hc;obtain ⟨O,hO⟩:=nmE (Fx Tg (l.take i));have hOl:O.length=i:=by rw [hO,H9,Qr]; omega
  have hrl:=M6 O;rw [<-hO] at hst ⊢;refine go tt [.t (decide_eq_true (by omega))] rfl trivial ?_;refine lp (S:=Nat) 1 (λL1 k=>(5,.v (.one (.int .i64 (k:Int))))::L1) (λ_=>[.row false 213 9 (Gi O)]) id (λk=>k<=O.length/\Tn Tg O c k=Tn Tg O c O.length) (Gi O).length ⟨by omega,by rw [hrl]⟩ rfl (λ_ _=>rfl) rfl λk ⟨hk,hp⟩=>?_
  have h7:=Qh2 O;have h7z:∀ y∈[rct c],y.length=9:=λy hy=>by rw [Qk.1 hy]; rfl
  cases k with
  |
   zero =>
   have hp:Tn Tg O c O.length=0:=by rw [<-hp]; rfl
   refine go tt [.g 15 false (by simp),.f rfl,.i 0,.x (Mt hc),.lo,.i 0,.s (sz:=9) (λy hy=>h7 y (Qm hy)),.s (sz:=9) (λy hy=>(Qu.1 hy).elim (h7z y) λhy=>h7 y (Qm hy))] rfl (by simp [Ur]; omega) ?_;exact rd (i+1) (by omega) hlt (by rw [hst,<-Qef hp]; rfl)
  |
   succ k =>
   obtain ⟨x,hx⟩:=gxE (l:=O) (i:=k) (by omega);have cb:=Q0e (k:=c.kind) (i0:=c.i0) (i1:=c.i1) (i2:=c.i2) (i3:=c.i3) (l:=x.kind) (j0:=x.i0) (j1:=x.i1) (j2:=x.i2) (j3:=x.i3);by_cases hlc:Tg c x=true
   ·refine go tt [.g 15 true (by simp),.x (Mt hc),.r 23 (eI (b:=(k:Int)) (by simp)),.i k,.x (Mt hx),.c [] cb,.t hlc,.r 30 (eI (b:=(k:Int)) (by simp))] rfl (by simp [Ur]; omega) ?_;exact rd k (by simp) ⟨by omega,by rw [<-hp,Qb1 hx hlc]⟩ rfl
   ·have hlc:Tg c x=false:=by simpa using hlc
    have hp:Tn Tg O c O.length=k+1:=by rw [<-hp,Ii hx hlc]
    refine go tt [.g 15 true (by simp),.x (Mt hc),.r 23 (eI (b:=(k:Int)) (by simp)),.i k,.x (Mt hx),.c [] cb,.f hlc,.i (k+1),.x (Mt hc),.lo,.i (k+1),.s (sz:=9) (λy hy=>h7 y (Zc (Qm hy))),.s (sz:=9) (λy hy=>(Qu.1 hy).elim (h7z y) λhy=>h7 y (Zc (Qm hy)))] rfl (by simp [Ur]; omega) ?_;exact rd (i+1) (by omega) hlt (by rw [hst,<-Qef hp]; rfl)
 ·obtain rfl:i=l.length:=by omega
  rw [Qy];exact ed tt [] [0] [.f (decide_eq_false (by omega))] rfl trivial
theorem Qml {l:List Pt} {q:Rat} {cs:List (List Int)} (hl:∀ p∈l,Rs p.c) (hn:l.length≤1000) (hq:Qs 1000000 q):Hh Tryz.prog 188 [.one (.row (Fa l)),.agg (aq q cs)] [] [.one (.orow 0 9 none)] [.row false 213 9 (Gi (Qoi q l))]:=by
 have c1:=Qm1 (cs:=cs) hl (by omega) hq;have hML:(Fx (Ch q) l).length=l.length:=H9 _ _;have hMl:∀ p∈Fx (Ch q) l,Rs p.c:=λp hp=>hl p (S7.1 hp)
 unfold Qoi;obtain ⟨M,hM⟩:=nmE (Fx (Ch q) l);rw [<-hM] at c1 hML hMl ⊢;have hcl:=Hl M;have hrl:=Ni (sgq q) M;have c2:=Q7u (l:=Si (sgq q) M) (by omega);refine Gv Tryz.func188 rfl ?_;refine go tt [.c [] c1,.o 6 213 9] rfl trivial ?_;refine lp (S:=Nat) 2 (λL1 i=>(7,.v (.one (.int .i64 (i:Int))))::(6,.v (.one (.orow 1 9 none)))::L1) (λi=>[.blk 82 (aq q cs),.row false 213 9 (Gi ((Si (sgq q) M).take i))]) (λi=>M.length-i) (λi=>i<=M.length-1) 0 (Qh _) rfl (λ_ _=>rfl) rfl λi hi=>?_
 have htl:(Gi ((Si (sgq q) M).take i)).length=i:=by rw [M6,Qr]; omega
 by_cases hlt:i+1<M.length
 ·obtain ⟨a,ha⟩:=gxE (l:=M) (i:=i) (by omega);obtain ⟨b,hb⟩:=gxE (l:=M) (i:=i+1) hlt;have hg:=Qg3 (sgq q) ha hb;have hm:∀ y∈[rct (Nw (sgq q) a b)],y.length=9:=λy hy=>by rw [Qk.1 hy]; rfl
  refine go tt [.t (decide_eq_true (by omega)),.x (Fc ha),.x (Fc hb),.c [] (Zee (hMl a (Qa ha)) (hMl b (Qa hb)) hq),.s (sz:=9) hm] rfl (by simp [Ur,htl]; omega) ?_;exact rd (i+1) (by omega) (by omega) (by rw [hg]; simp [Gi]; rfl)
 ·have e:(Si (sgq q) M).take i=Si (sgq q) M:=Qn (by omega);rw [e];exact ed tt [] [2] [.f (decide_eq_false (by omega)),.p 1,.c [2] c2] rfl (by simp [Ur]; omega)
def Lu (q:Rat) (l:List Pt) (e:Pt×Pt):List Ct:=(l.filter (Se e)).map λc=>Cf (sgq q) e.1 e.2 c
def Qgh (q:Rat) (l C:List Pt):List Ct:=if C.length<2 then [] else (Fq C).flatMap (Lu q l)
def Qe3 (q:Rat) (l:List Pt):List Ct:=Fx Tg (Qoi q l++Qgh q l (Qd1 q l))
theorem Qkn {q:Rat} {l:List Pt} (x:Pt×Pt):(Lu q l x).length<=l.length:=by unfold Lu; rw [List.length_map]; exact List.length_filter_le _ _
theorem Qk5 {q:Rat} {l C:List Pt} (hn:l.length<=10) (hC:C.length<=11):(Qgh q l C).length<=110:=by
 unfold Qgh
 split
 ·exact Qh _
 ·have h1:=E5 (f:=Lu q l) Qkn (Fq C);rw [Ez] at h1;have h2:C.length*l.length<=11*10:=Zf hC hn;omega
theorem Qoj (q:Rat) (l:List Pt):(Qoi q l).length<=l.length:=by
 unfold Qoi;rw [H9];have:=Ni (sgq q) (Fx (Ch q) l);rw [H9] at this;omega
theorem Q47 (q:Rat) {l:List Pt} (hn:l.length<=10):(Qe3 q l).length<=1000000:=by
 unfold Qe3;have h1:=Qoj q l;have h2:=Qk5 (q:=q) (C:=Qd1 q l) hn (Qc (Qs5 q l).2 (by omega));rw [H9,Q4]; omega
set_option maxHeartbeats 4000000 in
theorem Qpv {l:List Pt} {q:Rat} {cs:List (List Int)} (hl:∀ p∈l,Rs p.c) (hn:l.length≤10) (hq:Qs 1000000 q):Ut Tryz.prog 190 [.one (.row (Fa l)),.agg (aq q cs)] [.one (.row (Gi (Qe3 q l)))]:=by
 have c1:=Qml (cs:=cs) hl (by omega) hq;have c2:=Qw1 (cs:=cs) hl (by omega) hq;obtain ⟨hCm,hCl⟩:=Qs5 q l;have hrl:=Qoj q l;have hhl:=Qk5 (q:=q) (C:=Qd1 q l) hn (by omega);unfold Qe3;obtain ⟨C,hC⟩:=nmE (Qd1 q l);obtain ⟨cs0,hc0⟩:=nmE (Qoi q l);rw [<-hC] at c2 hCm hCl hhl ⊢;rw [<-hc0] at c1 hrl ⊢;have c9:=Zec (l:=cs0++Qgh q l C) (by rw [Q4]; omega);have hcp:=Hl C;have hlp:=Hl l;refine Gv Tryz.func190 rfl ?_;refine go tt [.c [1] c1,.c [] c2] rfl trivial ?_;by_cases h2:C.length<2
 ·have e:Qgh q l C=[]:=if_pos h2;rw [e,Zo] at c9 ⊢;refine lp (S:=Unit) 2 (λL1 _=>(7,.v (.one (.int .i64 0)))::(5,.v (.one (.orow 1 9 none)))::L1) (λ_=>[.blk 82 (aq q cs),.row false 213 9 (Gi cs0)]) (λ_=>0) (λ_=>True) () trivial rfl (λ_ _=>rfl) rfl λ_ _=>?_
  by_cases h0:C.length=0
  ·exact en tt [.g 21 false (decide_eq_false (by omega)),.f rfl,.c [] c9] rfl rfl (by simp [Ur] <;> omega)
  ·exact en tt [.g 21 true (decide_eq_true (by omega)),.f (decide_eq_false (by omega)),.c [] c9] rfl rfl (by simp [Ur] <;> omega)
 have e:Qgh q l C=(Fq C).flatMap (Lu q l):=if_neg h2;rw [e] at c9 ⊢;refine sb [(7,.v (.one (.int .i64 0))),(6,.v (.one (.row (Fa C)))),(5,.v (.one (.orow 1 9 none))),(3,.v (.one (.ow 0 0))),(0,.v (.one (.row (Fa l))))] [.blk 82 (aq q cs),.row false 213 9 (Gi cs0)] rfl rfl ?_;rw [show Gi cs0=Gi (cs0++((Fq C).take 0).flatMap (Lu q l)) by simp];refine lp (S:=Nat) 2 (λL1 i=>(7,.v (.one (.int .i64 (i:Int))))::(5,.v (.one (.orow 1 9 none)))::L1) (λi=>[.blk 82 (aq q cs),.row false 213 9 (Gi (cs0++((Fq C).take i).flatMap (Lu q l)))]) (λi=>C.length-i) (λi=>i<=C.length) 0 (Qh _) rfl (λ_ _=>rfl) rfl λi hi=>?_
 by_cases hlt:i<C.length
 ·obtain ⟨x,hx⟩:=gxE (l:=C) (i:=i) hlt;obtain ⟨y,hy⟩:=gxE (l:=C) (i:=(i+1) % C.length) (Z4 _ (by omega));have he:=Qai hx hy;have sx:=hl x (hCm x (Qa hx));have sy:=hl y (hCm y (Qa hy));have hflat:=Ei (f:=Lu q l) he;obtain ⟨F,hF⟩:=nmE (cs0++((Fq C).take i).flatMap (Lu q l));have hFl:F.length<=10+20*10:=by
   have h1:=E5 (f:=Lu q l) Qkn ((Fq C).take i);have h2:((Fq C).take i).length*l.length<=20*10:=Zf (by rw [Qr]; omega) hn;rw [hF,Q4]; omega
  have hmod:(((i+1:Nat):Int)).tmod ((Fa C).length:Int)=(((i+1) % C.length:Nat):Int):=by rw [hcp]; exact (Int.ofNat_tmod _ _).symm
  have hm0:=Yd ((i+1:Nat):Int) (show (C.length:Int)≠0 by omega);have hm1:=Jl ((i+1:Nat):Int) (show (0:Int)<C.length by omega);have hnext:cs0++((Fq C).take (i+1)).flatMap (Lu q l)=F++(l.filter (Se (x,y))).map λc=>Cf (sgq q) x y c:=by rw [hflat,<-Zl,<-hF]; rfl
  rw [<-hF];refine go tt [.g 21 true (decide_eq_true (by omega)),.t (decide_eq_true (by omega)),.x (Fc hx),.r 34 (eI (b:=((i+1:Nat):Int)) (by simp)),.r 37 (eI (b:=(((i+1) % C.length:Nat):Int)) hmod),.x (Fc hy)] rfl (by simp only [Ur]; omega) ?_;rw [show Gi F=Gi (F++((l.take 0).filter (Se (x,y))).map λc=>Cf (sgq q) x y c) by simp];refine lp (S:=Nat) 4 (λL1 k=>(42,.v (.one (.int .i64 (k:Int))))::(5,.v (.one (.orow 1 9 none)))::L1) (λk=>[.blk 82 (aq q cs),.row false 213 9 (Gi (F++((l.take k).filter (Se (x,y))).map λc=>Cf (sgq q) x y c)),.blk 92 (Dx x),.blk 92 (Dx y)]) (λk=>l.length-k) (λk=>k<=l.length) 0 (Qh _) rfl (λ_ _=>rfl) rfl λk hk=>?_
  by_cases hlk:k<l.length
  ·obtain ⟨z,hz⟩:=gxE (l:=l) (i:=k) hlk;have sz:=hl z (Qa hz);have hflt:=Cm (f:=λc=>Cf (sgq q) x y c) (p:=Se (x,y)) hz;obtain ⟨G,hG⟩:=nmE (((l.take k).filter (Se (x,y))).map λc=>Cf (sgq q) x y c);have hGl:G.length<=10:=by
    have h1:=V0 (Se (x,y)) (l.take k);rw [Qr] at h1;rw [hG,Q6]; omega
   have hrF:=M6 (F++G);rw [Q4] at hrF;rw [<-hG] at hflt ⊢;by_cases h1:z.id=x.id
   ·rw [if_neg (show ¬Se (x,y) z=true by simp [Se,h1]),Zo] at hflt;refine go tt [.t (decide_eq_true (by omega)),.x (Fc hz),.g 53 false (decide_eq_false (by simp [h1])),.f rfl] rfl (by simp [Ur] <;> omega) ?_;exact rd (k+1) (by omega) hlk (by rw [hflt]; rfl)
   ·by_cases h2:z.id=y.id
    ·rw [if_neg (show ¬Se (x,y) z=true by simp [Se,h2]),Zo] at hflt;refine go tt [.t (decide_eq_true (by omega)),.x (Fc hz),.g 53 true (decide_eq_true h1),.x (Fc hz),.f (decide_eq_false (by simp [h2]))] rfl (by simp [Ur] <;> omega) ?_;exact rd (k+1) (by omega) hlk (by rw [hflt]; rfl)
    ·rw [if_pos (show Se (x,y) z=true by simp [Se,h1,h2])] at hflt;have hm:∀ v∈[rct (Cf (sgq q) x y z)],v.length=9:=λv hv=>by rw [Qk.1 hv]; rfl
     refine go tt [.t (decide_eq_true (by omega)),.x (Fc hz),.g 53 true (decide_eq_true h1),.x (Fc hz),.t (decide_eq_true h2),.x (Fc hz),.c [] (Zef sx sy sz hq),.s (sz:=9) hm] rfl (by simp [Ur,hrF] <;> omega) ?_;have e3:Gi (F++(G++[Cf (sgq q) x y z]))=Gi (F++G)++[rct (Cf (sgq q) x y z)]:=by simp [Gi]
     exact rd (k+1) (by omega) hlk (by rw [hflt,e3]; rfl)
  ·obtain rfl:k=l.length:=by omega
   rw [Qy,<-hnext];refine go tt [.f (decide_eq_false (by omega))] rfl (by simp [Ur] <;> omega) ?_;exact rd (i+1) (by omega) hlt rfl
 ·obtain rfl:i=C.length:=by omega
  rw [Qn (by rw [Ez]; exact Ql _)];exact en tt [.g 21 false (decide_eq_false (by omega)),.f rfl,.c [] c9] rfl rfl (by simp [Ur] <;> omega)
theorem Q3x {l:List Pt} {q:Rat} {cs:List (List Int)} (hl:∀ p∈l,Rs p.c) (hn:l.length≤10) (hq:Qs 1000000 q):Ut Tryz.prog 139 [.one (.int .i64 2),.one (.row (Fa l)),.agg (aq q cs)] [.one (.row (Gi (Qe3 q l)))] :=
 w tt Tryz.func139 rfl [.f rfl,.f rfl,.t rfl,.c [] (Qpv hl hn hq)] rfl rfl trivial
theorem Qwc {l:List Pt} {q:Rat} {cs:List (List Int)} (hl:∀ p∈l,Rs p.c) (hn:l.length≤10) (hq:Qs 1000000 q):Ut Tryz.prog 92 [.one (.int .i64 2),.one (.row (Fa l)),.agg (aq q cs)] [.one (.row (Gi (Qe3 q l)))] :=
 w tt Tryz.func92 rfl [.c [] (Q3x hl hn hq)] rfl rfl trivial
end Orr
namespace Orq
open Orr Go
section
variable {α:Type} {lt lt':α->α->Bool}
theorem Qlv {out:List α} {x:α} (h:∀ y∈out,lt x y=lt' x y):∀ k,Tn lt out x k=Tn lt' out x k
 | 0=>rfl
 |
  k+1=>by
  simp only [Tn];cases hy:out[k]? with
  | none=>rfl
  | some y=>simp only [h y (Qa hy),Qlv h k]
theorem Qhl {l:List α} (h:∀ u∈l,∀ v∈l,lt u v=lt' u v):∀ (m out:List α),(∀ x∈m,x∈l)->(∀ x∈out,x∈l)->m.foldl (P6 lt) out=m.foldl (P6 lt') out
 | [],_,_,_=>rfl
 |
  x::m,out,h1,h2=>by
  have e:P6 lt out x=P6 lt' out x:=by
   unfold P6; rw [Qlv λy hy=>h x (h1 x (by simp)) y (h2 y hy)]
  simp only [Z5];rw [e];exact Qhl h m _ (λy hy=>h1 y (Qj _ hy)) λy hy=>by
   rcases Qeg.1 hy with rfl | hy
   ·exact h1 _ (by simp)
   ·exact h2 y hy
end
theorem Qyp {a:Tm} {l:List Pt} {q:Rat} (hb:∀ u∈l,∀ v∈l,(Td (G0 a) u v=true↔Bu q u v)) (hd:l.Pairwise λx y=>x.id≠y.id):(Sl a l).Pairwise (Bu q) :=
 foldG_pw (S:=λx=>x∈l) (D:=λx y=>x.id≠y.id) (Qbw q) (λu v hu hv h=>(hb u hu v hv).1 h) (λu v hu hv hne h=>Qt4 (λe=>hne e.symm) λh'=>by
  rw [(hb u hu v hv).2 h'] at h; cases h) l [] .nil (λx hx=>by cases hx) (λx hx=>hx) hd (λx hx=>by cases hx)
theorem Zj4 {a:Tm} (ha:Va a) {u v:Pt} (hu:Sc u.c) (hv:Sc v.c) {q:Rat} (h1:Tf (G0 a) (Hf u.c v.c)=U4 (Uw (Hf u.c v.c) q)) (h2:Tf (G0 a) (Hp u.c v.c)=U4 (Uw (Hp u.c v.c) q)) (hne:u.c≠v.c) (h:Bu q u v):lx (px · q) (py · q) u v:=by
 rcases h with h | ⟨h,h3⟩
 ·exact .inl h
 rcases h3 with h3 | ⟨h3,_⟩
 ·exact .inr ⟨h,h3⟩
 ·exfalso;rw [Qox hu hv] at h1;rw [Qov hu hv] at h2;have z1:U4 (px v q-px u q)=0:=Fu.2 (by grind);have z2:U4 (py v q-py u q)=0:=Fu.2 (by grind);rw [z1] at h1;rw [z2] at h2;have e1:(Hf u.c v.c).length=0:=Decidable.byContradiction λe=>(Ob ha (Qad hu hv).dp e).2 h1
  have e2:(Hp u.c v.c).length=0:=Decidable.byContradiction λe=>(Ob ha (Qac hu hv).dp e).2 h2
  exact hne (Zfs hu.n hv.n (Qi e1) (Qi e2))
structure LowC (X Y:Pt->Rat) (R L:List Pt):Prop where
 hd:L.head? = R.head?
 la:L.getLast? = R.getLast?
 srt:L.Pairwise (lx X Y)
 mem:∀ p∈L,p∈R
 edg:Edg (λa b=>∀ p∈R,0≤M4 X Y a b p) L
 cnv:Cnv (λa b c=>0<M4 X Y a b c) L
theorem Qm4 {X Y:Pt->Rat} {sg:List Int->Int} {R:List Pt} (hs:∀ a∈R,∀ b∈R,∀ c∈R,(Qek sg a b c=true↔0<M4 X Y a b c)) (hR:R.Pairwise (lx X Y)) (h0:R≠[]):LowC X Y R (Sp sg R):=by
 cases R with
 | nil=>exact absurd rfl h0
 |
  cons f R =>
  obtain ⟨t,st,g1,g2,g3,g4⟩:=Qm5 hs hR R [f] f [] rfl ⟨Vg _ _,λp hp=>by rw [Qk.1 hp]; simp,trivial,trivial⟩ rfl rfl;have e:Sp sg (f::R)=(t::st).reverse:=by
   unfold Sp;rw [<-g1]; rfl
  rw [e];exact ⟨by rw [List.head?_reverse,g4],by rw [List.getLast?_reverse]; exact g3.symm,K6.2 g2.srt,λp hp=>g2.mem p (Jc.1 hp),g2.edg.rev,g2.cnv.rev⟩
theorem Zkk {X Y:Pt->Rat} {R:List Pt} (hR:R.Pairwise (lx X Y)):∀ p∈R,∀ q∈R,p=q\/lx X Y p q\/lx X Y q p:=λp hp q hq=>by
 by_cases e:p=q
 ·exact .inl e
 ·exact .inr (Qu5 hR hp hq e)
theorem Q9s {X Y:Pt->Rat} {R L L':List Pt} (hR:R.Pairwise (lx X Y)) (h:LowC X Y R L) (h':LowC X Y R L'):L=L':=by
 have hh:=h.hd.trans h'.hd.symm;have hl:=h.la.trans h'.la.symm;cases L with
 |
  nil=>cases L' with
  | nil=>rfl
  | cons _ _=>simp at hh
 |
  cons f M=>cases L' with
  | nil=>simp at hh
  |
   cons f' M' =>
   simp at hh;subst hh;obtain ⟨z,hz⟩:∃ z,(f::M).getLast? = some z:=⟨_,Yk (by simp)⟩;rw [Q73 (Zkk hR) M M' f h.srt h'.srt h.mem h'.mem h.edg h'.edg h.cnv h'.cnv hz (hl ▸ hz)]
theorem Qvd {x y:Rat} (h:U4 x=U4 y):(0<=x->0<=y)/\(0<x->0<y):=by
 have h1:=Fp x;have h2:=Fp y;grind
theorem Qs0 {X Y X' Y':Pt->Rat} {R:List Pt}:∀ {L:List Pt},(∀ p∈L,p∈R)->(∀ e∈Et L,∀ p∈R,U4 (M4 X Y e.1 e.2 p)=U4 (M4 X' Y' e.1 e.2 p))->Cnv (λa b c=>0<M4 X Y a b c) L->Cnv (λa b c=>0<M4 X' Y' a b c) L
 | [],_,_,_=>trivial
 | [_],_,_,_=>trivial
 | [_,_],_,_,_=>trivial
 | a::b::c::l,hm,he,h=>⟨(Qvd (he (a,b) (by simp [Et]) c (hm c (by simp)))).2 h.1,Qs0 (λp hp=>hm p (Qj _ hp)) (λe hx=>he e (Qj _ hx)) h.2⟩
theorem Qt5 {X Y X' Y':Pt->Rat} {R L:List Pt} (h:LowC X Y R L) (hl:∀ u∈R,∀ v∈R,lx X Y u v->lx X' Y' u v) (he:∀ e∈Et L,∀ p∈R,U4 (M4 X Y e.1 e.2 p)=U4 (M4 X' Y' e.1 e.2 p)):LowC X' Y' R L :=
 ⟨h.hd,h.la,h.srt.imp_of_mem λhu hv h'=>hl _ (h.mem _ hu) _ (h.mem _ hv) h',h.mem,Qp8.2 λe hx p hp=>(Qvd (he e hx p hp)).1 (Qp8.1 h.edg e hx p hp),Qs0 h.mem he h.cnv⟩
theorem Qq2 (X Y:Pt->Rat) (a b c:Pt):M4 (λp=>-X p) (λp=>-Y p) a b c=M4 X Y a b c:=by unfold M4; grind
theorem Qqs {X Y:Pt->Rat} {a b:Pt}:lx (λp=>-X p) (λp=>-Y p) a b↔lx X Y b a:=by unfold lx; grind
theorem Zig {L:List Pt} {f z:Pt} (h1:L.head? = some f) (h2:L.getLast? = some z) (hne:f≠z):∃ A,L=f::A++[z]:=by
 cases L with
 | nil=>cases h1
 |
  cons g M =>
  simp at h1;subst h1;cases M with
  | nil=>simp at h2; exact absurd h2 hne
  |
   cons x M =>
   rw [Jx] at h2;obtain ⟨A,hA⟩:=Y4.1 h2;exact ⟨A,by rw [hA]; rfl⟩
theorem Qku {α β:Type} {f g:α->List β}:∀ {m:List α},(∀ x∈m,f x=g x)->m.flatMap f=m.flatMap g
 | [],_=>rfl
 | x::m,h=>by rw [J0,J0,h x (by simp),Qku λy hy=>h y (Qj _ hy)]
theorem Qtu {sa sb:List Int->Int} {l C:List Pt} (h:∀ x∈Pa sa l C,Tf sb x.p=Tf sa x.p):Pa sb l C=Pa sa l C:=by
 by_cases h2:C.length<2
 ·unfold Pa; rw [if_pos h2,if_pos h2]
 ·have e:∀ s,Pa s l C=(Fq C).flatMap (Ss s l):=λs=>if_neg h2
  rw [e] at h ⊢;rw [e];refine Qku λx hx=>Ve λc hc=>?_
  have:=h (Pp sa x.1 x.2 c) (Zy.2 ⟨x,hx,Wp hc⟩);show (⟨3,x.1.id,x.2.id,c.id,0,Ha x.1.c x.2.c c.c,Tf sb (Ha x.1.c x.2.c c.c)⟩:Ct)=⟨3,x.1.id,x.2.id,c.id,0,Ha x.1.c x.2.c c.c,Tf sa (Ha x.1.c x.2.c c.c)⟩;have this:Tf sb (Ha x.1.c x.2.c c.c)=Tf sa (Ha x.1.c x.2.c c.c):=this;rw [this]
theorem Q2r {l:List Pt} (hd:l.Pairwise λx y=>x.id≠y.id) {u v:Pt} (hu:u∈l) (hv:v∈l) (h:u.id=v.id):u=v:=by
 refine Classical.byContradiction λe=>?_
 rcases Qu5 hd hu hv e with h' | h'
 ·exact h' h
 ·exact h' h.symm
structure Soon (l:List Pt) (a:Tm) (q:Rat):Prop where
 g:∀ p∈Qds l++Qjj l,Tf (G0 a) p=U4 (Uw p q)
 b:∀ u∈l,∀ v∈l,(Td (G0 a) u v=true↔Bu q u v)
 o:∀ u∈l,∀ v∈l,∀ w∈l,Tf (G0 a) (Ha u.c v.c w.c)=U4 (M4 (px · q) (py · q) u v w)
 t:∀ u∈l,∀ v∈l,∀ w∈l,(Qek (G0 a) u v w=true↔0<M4 (px · q) (py · q) u v w)
 r:(Sl a (Mc l)).Pairwise (lx (px · q) (py · q))
theorem Zb2 {l:List Pt} (hl:∀ p∈l,Sc p.c) (hd:l.Pairwise λx y=>x.id≠y.id) {a:Tm} (ha:Va a):∃ y,Fe a y=-1/\∀ q,Fe a q=-1->q≤y->Soon l a q:=by
 obtain ⟨y,y1,y2⟩:=Qk1 ha (Qds l++Qjj l) λp hp=>(Qik hl p hp).dp
 refine ⟨y,y1,λq q1 q2=>?_⟩;have g:=y2 q q1 q2;have gP:=λp hp=>g p (Js _ hp)
 have b:∀ u∈l,∀ v∈l,(Td (G0 a) u v=true↔Bu q u v):=λu hu v hv=>Qjp ha (hl u hu) (hl v hv) (gP _ (C4 hu hv).1) (gP _ (C4 hu hv).2)
 have o:∀ u∈l,∀ v∈l,∀ w∈l,Tf (G0 a) (Ha u.c v.c w.c)=U4 (M4 (px · q) (py · q) u v w):=λu hu v hv w hw=>by
  rw [g _ (Yb _ (Qsj hu hv hw)),Qyv (hl u hu) (hl v hv) (hl w hw)]
 refine ⟨g,b,o,λu hu v hv w hw=>?_,?_⟩
 ·unfold Qek;rw [o u hu v hv w hw,decide_eq_true_eq];have:=Fp (M4 (px · q) (py · q) u v w);grind
 ·have hw:∀ u∈Mc l,u∈l:=λu hu=>Mp hu
  have h1:=Qyp (a:=a) (l:=Mc l) (q:=q) (λu hu v hv=>b u (hw u hu) v (hw v hv)) (List.Pairwise.sublist (Zco l) hd);have h2:(Sl a (Mc l)).Pairwise λx y=>x.c≠y.c:=(List.Perm.pairwise_iff (λ{x y} h e=>h e.symm) (Qma (lt:=Td (G0 a)) (Mc l))).2 (Zg3 l)
  refine (h1.and h2).imp_of_mem λ{u v} hu hv h=>?_
  have hu:=hw u (Hq.1 hu);have hv:=hw v (Hq.1 hv);exact Zj4 ha (hl u hu) (hl v hv) (gP _ (C4 hu hv).1) (gP _ (C4 hu hv).2) h.2 h.1
theorem Q2t {l:List Pt} (hl:∀ p∈l,Sc p.c) (hd:l.Pairwise λx y=>x.id≠y.id) {a:Tm} (ha:Va a):∃ q,Soon l a q :=
 let ⟨y,h1,h2⟩:=Zb2 hl hd ha
 ⟨y,h2 y h1 Qp⟩
theorem Qj8 {l:List Pt} {a:Tm} {q:Rat} (S:Soon l a q) (h3:3<=(Sl a (Mc l)).length):∃ f z A B,Sp (G0 a) (Sl a (Mc l))=f::A++[z]/\Sp (G0 a) (Sl a (Mc l)).reverse=z::B++[f]/\LowC (px · q) (py · q) (Sl a (Mc l)) (f::A++[z])/\LowC (λp=>-px p q) (λp=>-py p q) (Sl a (Mc l)).reverse (z::B++[f])/\Fq (Hu l a)=Et (f::A++[z])++Et (z::B++[f])/\2<=(Hu l a).length:=by
 obtain ⟨R,hR⟩:=nmE (Sl a (Mc l));have hm:∀ x∈R,x∈l:=λx hx=>by rw [hR] at hx; exact Mp (Hq.1 hx)
 have r:=S.r;rw [<-hR] at r h3 ⊢;have h0:R≠[]:=λe=>by rw [e] at h3; simp at h3
 have c1:=Qm4 (sg:=G0 a) (λu hu v hv w hw=>S.t u (hm u hu) v (hm v hv) w (hm w hw)) r h0;have r2:R.reverse.Pairwise (lx (λp=>-px p q) (λp=>-py p q)):=K6.2 (r.imp λh=>Qqs.2 h);have c2:=Qm4 (sg:=G0 a) (R:=R.reverse) (X:=λp=>-px p q) (Y:=λp=>-py p q) (λu hu v hv w hw=>by
  rw [Qq2 (px · q) (py · q)];exact S.t u (hm u (Jc.1 hu)) v (hm v (Jc.1 hv)) w (hm w (Jc.1 hw))) r2 (by simpa using h0)
 obtain ⟨f,hf⟩:∃ f,R.head? = some f:=by cases R with
  | nil=>exact absurd rfl h0
  | cons f _=>exact ⟨f,rfl⟩
 obtain ⟨z,hz⟩:∃ z,R.getLast? = some z:=⟨_,Yk h0⟩;have hne:f≠z:=λe=>by
  subst e;cases R with
  | nil=>exact absurd rfl h0
  |
   cons g M =>
   simp at hf; subst hf;cases M with
   | nil=>simp at h3
   |
    cons x M =>
    rw [Jx] at hz;exact Dk _ ((Q5.1 r).1 g (V8 hz))
 obtain ⟨A,hA⟩:=Zig (c1.hd.trans hf) (c1.la.trans hz) hne;obtain ⟨B,hB⟩:=Zig (c2.hd.trans (by rw [List.head?_reverse]; exact hz)) (c2.la.trans (by rw [List.getLast?_reverse]; exact hf)) (Ne.symm hne);have hc:Hu l a=(f::A++[z]).dropLast++(z::B++[f]).dropLast:=by
  unfold Hu Dq;rw [<-hR,if_neg (by omega),hA,hB]
 rw [hA] at c1;rw [hB] at c2;refine ⟨f,z,A,B,hA,hB,c1,c2,by rw [hc]; exact Qtj,?_⟩;rw [hc,V7,V7];simp; omega
theorem Q4k {l:List Pt} (hl:∀ p∈l,Sc p.c) (hd:l.Pairwise λx y=>x.id≠y.id) {a b:Tm} (ha:Va a) (hb:Va b) (h:∀ x∈bcH l a,Tf (G0 b) x.p=Tf (G0 a) x.p):Hu l b=Hu l a/\bcH l b=bcH l a:=by
 obtain ⟨q,Sa⟩:=Q2t hl hd ha;obtain ⟨r,Sb⟩:=Q2t hl hd hb;obtain ⟨k1,k2⟩:=Zbf hl hd ha hb λx hx=>h x (Js _ hx)
 have pa:=Qyp Sa.b hd;have pb:=Qyp Sb.b hd;rw [k1] at pb;have pab:=pa.and pb;have lexs:∀ u∈l,∀ v∈l,(Bu q u v↔Bu r u v):=λu hu v hv=>by
  by_cases e:u=v
  ·subst e; exact ⟨λh=>absurd h (Qaw _ _),λh=>absurd h (Qaw _ _)⟩
  ·rcases Qu5 pab (Hq.2 hu) (Hq.2 hv) e with h' | h'
   ·exact ⟨λ_=>h'.2,λ_=>h'.1⟩
   ·exact ⟨λh=>absurd (Qbw _ _ _ _ h h'.1) (Qaw _ _),λh=>absurd (Qbw _ _ _ _ h h'.2) (Qaw _ _)⟩
 have bef:∀ u∈l,∀ v∈l,Td (G0 b) u v=Td (G0 a) u v:=λu hu v hv=>by
  have h1:=Sa.b u hu v hv;have h2:=Sb.b u hu v hv;have h3:=lexs u hu v hv;cases e1:Td (G0 a) u v <;> cases e2:Td (G0 b) u v <;> rw [e1] at h1 <;> rw [e2] at h2 <;> simp_all
 have eR:Sl b (Mc l)=Sl a (Mc l):=Qhl (l:=Mc l) (λu hu v hv=>bef u (Mp hu) v (Mp hv)) (Mc l) [] (λx hx=>hx) λx hx=>by cases hx
 have hm:∀ x∈Sl a (Mc l),x∈l:=λx hx=>Mp (Hq.1 hx)
 have rb:=Sb.r;rw [eR] at rb;have hc:Hu l b=Hu l a:=by
  by_cases h3:(Sl a (Mc l)).length<3
  ·unfold Hu Dq;rw [eR,if_pos h3,if_pos h3]
  ·obtain ⟨f,z,A,B,hA,hB,c1,c2,hE,hC2⟩:=Qj8 Sa (by omega);obtain ⟨f',z',A',B',hA',hB',c1',c2',hE',_⟩:=Qj8 Sb (by rw [eR]; omega);rw [eR] at hA' hB' c1' c2';have sgs:∀ e∈Fq (Hu l a),∀ p∈Sl a (Mc l),U4 (M4 (px · q) (py · q) e.1 e.2 p)=U4 (M4 (px · r) (py · r) e.1 e.2 p):=λe he p hp=>by
    obtain ⟨m1,m2⟩:=Qhj he;have m1:=Lb m1;have m2:=Lb m2;have m3:=hm p hp;by_cases ho:Se e p=true
    ·have hx:Pp (G0 a) e.1 e.2 p∈bcH l a:=by
      refine Yb _ ?_;unfold Pa;rw [if_neg (by omega)];exact Zy.2 ⟨e,he,Wp (Kl.2 ⟨m3,ho⟩)⟩
     have hg:Tf (G0 b) (Ha e.1.c e.2.c p.c)=Tf (G0 a) (Ha e.1.c e.2.c p.c):=h _ hx;rw [<-Sa.o _ m1 _ m2 _ m3,<-Sb.o _ m1 _ m2 _ m3,hg]
    ·have hz:∀ X Y:Pt->Rat,M4 X Y e.1 e.2 p=0:=λX Y=>by
      by_cases e1:p.id=e.1.id
      ·rw [Q2r hd m3 m1 e1]; exact (Qet _ _).1
      ·by_cases e2:p.id=e.2.id
       ·rw [Q2r hd m3 m2 e2]; exact (Qet _ _).2
       ·exact absurd (by simp [Se,e1,e2]) ho
     rw [hz,hz]
   have hlx:∀ u∈Sl a (Mc l),∀ v∈Sl a (Mc l),lx (px · q) (py · q) u v->lx (px · r) (py · r) u v:=λu hu v hv huv=>by
    have ra:=Sa.r;by_cases e:u=v
    ·subst e; exact absurd huv (Dk _)
    ·rcases Qu5 (ra.and rb) hu hv e with h' | h'
     ·exact h'.2
     ·exact absurd (Qt8 huv h'.1) (Dk _)
   have e1:=Q9s rb (Qt5 c1 hlx λe he=>sgs e (by rw [hE]; exact Js _ he)) c1';have rb2:(Sl a (Mc l)).reverse.Pairwise (lx (λp=>-px p r) (λp=>-py p r)):=K6.2 (rb.imp λh=>Qqs.2 h);have e2:=Q9s rb2 (Qt5 c2 (λu hu v hv huv=>Qqs.2 (hlx v (Jc.1 hv) u (Jc.1 hu) (Qqs.1 huv))) λe he p hp=>by
    rw [Qq2 (px · q) (py · q),Qq2 (px · r) (py · r)];exact sgs e (by rw [hE]; exact Yb _ he) p (Jc.1 hp)) c2'
   unfold Hu Dq;rw [eR,if_neg h3,if_neg h3,hA,hB,hA',hB',e1,e2]
 refine ⟨hc,?_⟩;unfold bcH;rw [hc,k2,Qtu λx hx=>h x (Yb _ hx)]
theorem Znd {l:List Pt} (hl:∀ p∈l,Sc p.c) (hn:l.length≤10) (hd:l.Pairwise λx y=>x.id≠y.id):Stab (bcH l) (brH l):=by
 refine ⟨Qv6 hl hn,⟨Qds l++Qjj l,Qik hl,λa _ x hx=>Qpf x hx⟩,λa b ha hb h=>?_⟩;obtain ⟨e1,e2⟩:=Q4k hl hd ha hb h;exact ⟨e2,by show Uy _=Uy _; rw [e1]⟩
end Orq
namespace Orr
open Go Go.Proofs Orq
set_option maxRecDepth 10000
theorem Zl2 {T:Nat} {t:Rat} {Bc:Tm->List Ct} {Br:Tm->List (List LV)} {r0:List (List LV)} (ht:Qs 400000 t) (hB:BuildOk Bc)
 (hb:∀ a c r1,Va a->CrOk c->Hh Tryz.prog 40 [.one (.ow 0 0),.agg (ta a)] [.blk T (B9 c r0 r1)] [.one (.row (Fj (Bc a)))] [.blk T (B9 c r0 (Br a))])
 {K:Nat} {c c':Cr} {r1 r1':List (List LV)} {n:Int} (hc:CrOk c) (hev:0<=c.ev/\c.ev+K<=1000000000000000000) (h:Fe c.now t<=0) (hg:goF Bc Br t K c r1 0=some (c',r1',n)) :
 Hh Tryz.prog 41 [.one (.ow 0 0),.agg (rl t),.one (.ofn 40 [.ow 0 0] [])] [.blk T (B9 c r0 r1)] [.one (.int .i64 n),.one (.int .i64 0)] [.blk T (B9 c' r0 r1')]:=by
 have qt:Qb t:=ht.mono (by decide);have c1:=Qfw hc.n.tb qt;refine Gv Tryz.func41 rfl ?_;refine go tt [.c [0] (Qwj hc.n),.c [] c1,.f (by simpa using h)] rfl trivial ?_;refine lp (S:=Nat×Cr×List (List LV)×Int) 2 (λL1 s=>(8,.v (.one (.int .i64 s.2.2.2)))::L1) (λs=>[.blk T (B9 s.2.1 r0 s.2.2.1),.blk 40 (rl t)]) (λs=>s.1) (λs=>CrOk s.2.1/\(0<=s.2.1.ev/\s.2.1.ev+s.1<=1000000000000000000)/\(0<=s.2.2.2/\s.2.2.2+s.1<=1000000000000000000)/\goF Bc Br t s.1 s.2.1 s.2.2.1 s.2.2.2=some (c',r1',n)) (K,c,r1,0) ⟨hc,hev,⟨Int.le_refl 0,by dsimp only; omega⟩,hg⟩ rfl (λ_ _=>rfl) rfl λ⟨k,x,r,m⟩ ⟨j1,j2,j3,j4⟩=>?_
 dsimp only at j1 j2 j3 j4 ⊢;cases k with
 | zero=>cases j4
 |
  succ k =>
  simp only [goF] at j4;obtain ⟨ws,w1,j4⟩:=Qf.1 j4;obtain ⟨o,o1,j4⟩:=Qf.1 j4;have cn:=Zdq (T:=T) (r0:=r0) (r1:=r) j1 w1 o1;have ca:=Zhn (Uu t.num) (Uu (t.den:Int)) (Qc ht.1 (by decide)) (Qc ht.2 (by decide)) (by rw [Ol]; exact ht.mono (by decide));rw [Ol] at ca;cases o with
  |
   none =>
   injection j4 with j4; injection j4 with e1 j4; injection j4 with e2 e3;subst e1; subst e2; subst e3;exact ed tt [] [0] [.c [0] cn,.g 25 true rfl,.t rfl,.c [] ca] rfl trivial
  |
   some a =>
   have ha:=Zke j1 w1 o1;dsimp only at j4;have cc:=Qfw ha.tb qt;by_cases h0:0<Fe a t
   ·rw [if_pos h0] at j4;injection j4 with j4; injection j4 with e1 j4; injection j4 with e2 e3;subst e1; subst e2; subst e3;exact ed tt [] [0] [.c [0] cn,.g 25 false rfl,.c [] cc,.t (by simpa using h0),.c [] ca] rfl trivial
   ·rw [if_neg h0] at j4;obtain ⟨w2,l1,j4⟩:=Qf.1 j4;have j1':=Qi0 j1 w1;have cl:=O7 (b:=a) (l:=[]) ha.tb (λt ht=>by cases ht) (by decide) rfl;have cb:=hb a { x with l:=ws } r ha j1';have cy:=Zdo (T:=T) (r0:=r0) (r1:=Br a) j1' ha (hB.p a ha) (hB.n a ha) l1;have hf:decide (0<Fe a t)=false:=by simpa using h0
    refine go tt [.c [0] cn,.g 25 false rfl,.c [] cc,.f hf,.c [] cl,.c [0] cb,.c [0] cy] rfl (by simp [Ur]; omega) ?_;exact rd (k,⟨a,w2,x.ev+1⟩,Br a,m+1) (by dsimp only; omega) ⟨lay_ok _ j1' ha (hB.p a ha) (hB.n a ha) l1,by dsimp only; omega,by dsimp only; omega,j4⟩ rfl
theorem Q3m {T:Nat} {t:Rat} {c:Cr} {r0 r1:List (List LV)} (ht:Qb t) (hc:Va c.now) (h:0<Fe c.now t) :
 Hh Tryz.prog 41 [.one (.ow 0 0),.agg (rl t),.one (.ofn 40 [.ow 0 0] [])] [.blk T (B9 c r0 r1)] [.one (.int .i64 0),.one (.int .i64 8)] [.blk T (B9 c r0 r1)]:=by
 refine Gv Tryz.func41 rfl ?_;exact ed tt [] [0] [.c [0] (Qwj hc),.c [] (Qfw hc.tb ht),.t (by simpa using h)] rfl trivial
def Q3g (l:List Pt) (a:Tm):Cr:=⟨a,(Hi (bcH l a)).map fresh,0⟩
theorem Qzr {zs:List (List LV)} {qs l:List Pt} {x y x' y':LV} {n d:Int} (hz:IsPts 4294967294 1073741824 zs qs) (hq:qs.length≤6) (hnl:T0 [] qs=(l,0)) (hl:∀ p∈l,Sc p.c) (hn:l.length≤10) (h1:Rk x y n) (h2:Rk x' y' d) (bn:U6 n≤4294967295) (bd:U6 d≤4294967295) (ht:Qs 400000 (Gt n d)) :
 Hh Tryz.prog 9 [.agg [x,y,x',y'],.one (.row zs)] [] [.one (.ow 0 0),.one (.int .i64 0)] [.blk 71 (B9 (Q3g l (tq (Gt n d))) (Uy l) (brH l (tq (Gt n d))))]:=by
 have cn:=Zl4 hz hq;rw [hnl] at cn;have co:=Zhn h1 h2 bn bd (ht.mono (by decide));have hv:=Zg2 ht;have hB:=Qv6 hl hn;have cb:=Q3k hl hn hv;have cg:=Q3o (T:=71) (r0:=Uy l) (r1:=brH l (tq (Gt n d))) hv (hB.p _ hv) (hB.n _ hv);obtain ⟨b,l1,rfl,rfl,_⟩:=h1;obtain ⟨b',l2,rfl,rfl,_⟩:=h2;refine Gv Tryz.func9 rfl ?_;exact ed tt [] [2] [.c [] cn,.f rfl,.c [] co,.c [2] cb,.c [2] cg] rfl trivial
theorem Qwg {t:Rat} {l:List Pt} {K:Nat} {c c':Cr} {r1 r1':List (List LV)} {n:Int} (ht:Qs 400000 t) (hl:∀ p∈l,Sc p.c) (hn:l.length≤10) (hc:CrOk c) (hev:0≤c.ev/\c.ev+K≤1000000000000000000) (h:Fe c.now t≤0) (hg:goF (bcH l) (brH l) t K c r1 0=some (c',r1',n)) :
 Hh Tryz.prog 13 [.one (.ow 0 0),.agg (rl t)] [.blk 71 (B9 c (Uy l) r1)] [.one (.int .i64 n),.one (.int .i64 0)] [.blk 71 (B9 c' (Uy l) r1')]:=by
 have cg:=Zl2 (T:=71) (r0:=Uy l) ht (Qv6 hl hn) (λa c r1 ha _=>Q3l (c:=c) (r1:=r1) hl hn ha) hc hev h hg;refine Gv Tryz.func13 rfl ?_;exact ed tt [] [0] [.c [] (Ep (ht.mono (by decide))),.c [0] cg] rfl trivial
theorem Qwh {t:Rat} {l:List Pt} {c:Cr} {r1:List (List LV)} (ht:Qs 400000 t) (hc:Va c.now) (h:0<Fe c.now t) :
 Hh Tryz.prog 13 [.one (.ow 0 0),.agg (rl t)] [.blk 71 (B9 c (Uy l) r1)] [.one (.int .i64 0),.one (.int .i64 8)] [.blk 71 (B9 c (Uy l) r1)]:=by
 have cg:=Q3m (T:=71) (r0:=Uy l) (r1:=r1) (ht.mono (by decide)) hc h;refine Gv Tryz.func13 rfl ?_;exact ed tt [] [0] [.c [] (Ep (ht.mono (by decide))),.c [0] cg] rfl trivial
theorem Qwi {c:Cr} {l s:List Pt} (hs:s.length<=1000000):Hh Tryz.prog 11 [.one (.ow 0 0)] [.blk 71 (B9 c (Uy l) (Uy s))] [.one (ids (s.map (·.id)))] [.blk 71 (B9 c (Uy l) (Uy s))]:=by
 have hcl:=Rj s;refine Gv Tryz.func11 rfl ?_;refine go tt [.o 3 3 1] rfl trivial ?_;refine lp (S:=Nat) 2 (λL1 i=>(11,.v (.one (.int .i64 (i:Int))))::(3,.v (.one (.orow 1 1 none)))::L1) (λi=>[.blk 71 (B9 c (Uy l) (Uy s)),.row false 3 1 (((s.take i).map (·.id)).map λ(z:Int)=>[LV.int .i64 z])]) (λi=>s.length-i) (λi=>i<=s.length) 0 (Qh _) rfl (λ_ _=>rfl) rfl λi hi=>?_
 by_cases hlt:i<s.length
 ·obtain ⟨p,hp⟩:=gxE (l:=s) (i:=i) hlt;have hg:(((s.take (i+1)).map (·.id)).map λ(z:Int)=>[LV.int .i64 z])=(((s.take i).map (·.id)).map λ(z:Int)=>[LV.int .i64 z])++[[.int .i64 p.id]]:=by
   rw [Zs,hp]; simp
  refine go tt [.t (by simp [hcl]; omega),.x (Hr hp),.s (sz:=1) (l:=[[.int .i64 p.id]]) (λc hc=>by rw [Qk.1 hc]; rfl)] rfl (by simp [Ur]; omega) ?_;exact rd (i+1) (by omega) hlt (by rw [hg]; rfl)
 ·obtain rfl:i=s.length:=by omega
  rw [Qy];exact ed tt [1] [0] [.f (by simp [hcl])] rfl trivial
theorem Zhj {c:Cr} {l s:List Pt} {id:Int} (hs:s.length<=1000000):Hh Tryz.prog 12 [.one (.ow 0 0),.one (.int .i64 id)] [.blk 71 (B9 c (Uy l) (Uy s))] [.one (.bool (s.any λp=>decide (p.id=id)))] [.blk 71 (B9 c (Uy l) (Uy s))]:=by
 have hcl:=Rj s;refine Gv Tryz.func12 rfl ?_;refine go tt [] rfl trivial ?_;refine lp (S:=Nat) 1 (λL1 i=>(12,.v (.one (.int .i64 (i:Int))))::L1) (λ_=>[.blk 71 (B9 c (Uy l) (Uy s))]) (λi=>s.length-i) (λi=>i<=s.length/\(s.any λp=>decide (p.id=id))=(s.drop i).any λp=>decide (p.id=id)) 0 ⟨Qh _,by rw [Xp]⟩ rfl (λ_ _=>rfl) rfl λi ⟨hi,he⟩=>?_
 by_cases hlt:i<s.length
 ·obtain ⟨p,hp⟩:=gxE (l:=s) (i:=i) hlt;have hdr:s.drop i=p::s.drop (i+1):=by
   rw [Zi hlt]; congr 1;have:=Qe hlt; rw [hp] at this; injection this with this; exact this.symm
  rw [hdr,List.any_cons] at he;by_cases h:p.id=id
  ·rw [decide_eq_true h,Ud] at he;rw [he];exact ed tt [] [0] [.t (by simp [hcl]; omega),.x (Hr hp),.t (decide_eq_true h)] rfl trivial
  ·rw [decide_eq_false h,Kc] at he;refine go tt [.t (by simp [hcl]; omega),.x (Hr hp),.f (decide_eq_false h)] rfl (by simp [Ur]; omega) ?_;exact rd (i+1) (by omega) ⟨hlt,he⟩ rfl
 ·obtain rfl:i=s.length:=by omega
  rw [Yo,List.any_nil] at he;rw [he];exact ed tt [] [0] [.f (by simp [hcl])] rfl trivial

theorem Zdy {l:List Nat} (hl:l.length<=1000000000):Ut Tryz.prog 141 [.one (.row (lm l)),.one (.row (lm l))] [.one (.bool true)]:=by
 have hll:(lm l).length=l.length:=by simp [lm]
 refine Gv Tryz.func141 rfl ?_;refine go tt [.f (decide_eq_false (λh=>h rfl))] rfl trivial ?_;refine lp (S:=Nat) 0 (λL1 i=>(5,.v (.one (.int .i64 (i:Int))))::L1) (λ_=>[]) (λi=>l.length-i) (λi=>i<=l.length) 0 (Qh _) rfl (λ_ _=>rfl) rfl λi hi=>?_
 by_cases h:i<l.length
 ·have hx:(lm l)[i]? = some [.int .u32 ((l[i]:Nat):Int)]:=Gx (Qe h);refine go tt [.t (decide_eq_true (by omega)),.x hx,.x hx,.f (decide_eq_false (λh=>h rfl))] rfl (by simp [Ur]; omega) ?_;exact rd (i+1) (by omega) h rfl
 ·exact en tt [.f (decide_eq_false (by omega))] rfl rfl trivial
theorem Zdw {z:Int} (hz:U6 z<=4294967295):Ut Tryz.prog 95 [.agg (Gw z),.agg (Gw z)] [.one (.bool true)] :=
 w tt Tryz.func95 rfl [.g 10 true (decide_eq_true rfl),.c [] (Zdy (l:=Fg z.natAbs) (by have:=Rm (x:=z.natAbs) (k:=4294967295) hz; omega))] rfl rfl trivial
theorem Zdx {p:List Int} (hp:Bd 4294967295 p) (hl:p.length<=1000000):Ut Tryz.prog 49 [pr p,pr p] [.one (.bool true)]:=by
 have By:(p.map Gw).length=p.length:=by simp
 show Ut Tryz.prog 49 [.one (.row (p.map Gw)),.one (.row (p.map Gw))] _;refine Gv Tryz.func49 rfl ?_;refine go tt [.f (decide_eq_false (λh=>h rfl))] rfl trivial ?_;refine lp (S:=Nat) 0 (λL1 i=>(13,.v (.one (.int .i64 (i:Int))))::L1) (λ_=>[]) (λi=>p.length-i) (λi=>i<=p.length) 0 (Qh _) rfl (λ_ _=>rfl) rfl λi hi=>?_
 by_cases h:i<p.length
 ·have hx:=Sv (Hz h);refine go tt [.t (decide_eq_true (by omega)),.x hx,.x hx,.c [] (Zdw (U8 hp i)),.f rfl] rfl (by simp [Ur]; omega) ?_;exact rd (i+1) (by omega) h rfl
 ·exact en tt [.f (decide_eq_false (by omega))] rfl rfl trivial
theorem Q6z {l:List Ct} (hl:∀ c∈l,Cp c.p) (hn:l.length≤1000000):Ut Tryz.prog 24 [.one (.row (Fj l)),.one (.row (Fj l))] [.one (.bool true)]:=by
 have hcl:=Ca l;refine Gv Tryz.func24 rfl ?_;refine go tt [.f (decide_eq_false (λh=>h rfl))] rfl trivial ?_;refine lp (S:=Nat) 0 (λL1 i=>(13,.v (.one (.int .i64 (i:Int))))::L1) (λ_=>[]) (λi=>l.length-i) (λi=>i<=l.length) 0 (Qh _) rfl (λ_ _=>rfl) rfl λi hi=>?_
 by_cases h:i<l.length
 ·obtain ⟨c,hc⟩:=gxE (l:=l) (i:=i) h;have hx:=Qf3 hc;have hp:=hl c (Qa hc);refine go tt [.t (decide_eq_true (by omega)),.x hx,.x hx,.g 27 false (by simp),.x hx,.x hx,.g 40 false (by simp),.x hx,.x hx,.c [] (Zdx (Us hp.b (by decide)) (by have:=hp.l; omega)),.f rfl] rfl (by simp [Ur]; omega) ?_;exact rd (i+1) (by omega) h rfl
 ·exact en tt [.f (decide_eq_false (by omega))] rfl rfl trivial
end Orr
namespace Orr
open Go Go.Proofs Orq
theorem Ql8 {x y:Int} (hx:-9223372036854775808<=x/\x<=9223372036854775807) (hy:-9223372036854775808<=y/\y<=9223372036854775807):Sc (E9 x y):=⟨Crv.nml _,((Qs6 hx hy).norm (by decide)).mono (by decide) (by decide)⟩
theorem Sc.pt {p:Pt} (h:Sc p.c):Qv1 4294967294 1073741824 p:=⟨h.n,h.c.mono (by decide) (by decide)⟩
end Orr
namespace Orr
open Go Go.Proofs
set_option maxRecDepth 10000
theorem Cs.up {s n s' n':Nat} {k:Crv} (h:Cs s n k) (hs:s<=s') (hn:n<=n'):Cs s' n' k:=⟨Us h.x hs,Us h.y hs,Qc h.d hs,Qc h.lx hn,Qc h.ly hn⟩
end Orr
namespace Orr
open Go Go.Proofs Orq
set_option maxRecDepth 10000
theorem Q37 {l m:List Pt} (h:l.Perm m) (hd:Ab l):Ab m:=(h.pairwise_iff (λh=>λe=>h e.symm)).1 hd
theorem Q8s {Bc:Tm->List Ct} {q:Rat} {E:List Tm} (h:Evs Bc q (tq q) E):E=[]:=by
 cases h with
 | nil h=>rfl
 | cons he h1 h2=>exact absurd h1 h2
theorem Zch {t q:Rat}:Fe (tq t) q=1↔q<t:=by
 rw [Ir]; rcases Tx t q with ⟨e,h⟩ | ⟨e,h⟩ | ⟨e,h⟩ <;> grind
theorem Zcg {t q:Rat}:Fe (tq t) q=-1↔t<q:=by
 rw [Ir]; rcases Tx t q with ⟨e,h⟩ | ⟨e,h⟩ | ⟨e,h⟩ <;> grind
theorem Q2y {s t:Rat}:Pj (tq s) (tq t)↔s<t:=by
 constructor
 ·rintro ⟨q,h1,h2⟩
  have:=Zcg.1 h1; have:=Zch.1 h2; grind
 ·intro h;exact ⟨(s+t) / 2,Zcg.2 (by grind),Zch.2 (by grind)⟩
theorem Zb1 (n d:Int):(-100:Rat)<=Ck n d:=by
 have h1:Di n 61=n % 61:=rfl;have h2:Di d 6=d % 6:=rfl;unfold Ck Gt;rw [if_neg (by omega),<-Ls];have e:(0:Rat)<((1+Di d 6:Int):Rat):=by
  have:((0:Int):Rat)<((1+Di d 6:Int):Rat):=X9.2 (by omega);exact this
 obtain ⟨a,ha⟩:=nmE (Di n 61-30);obtain ⟨b,hb⟩:=nmE (1+Di d 6);have h3:-30<=a:=by omega
 have h4:1<=b:=by omega
 rw [<-ha];rw [<-hb] at e ⊢;refine Uc.1 λh=>?_
 have h5:=Q8 (Qq h) (Qq e);have h6:(a:Rat) / (b:Rat)*(b:Rat)=(a:Rat):=by grind
 rw [h6] at h5;have h7:((a:Int):Rat)<=((-100*b:Int):Rat):=by rw [Xj]; exact h5
 have:=Xz.1 h7;omega
theorem Q3n {c:Cr} {r0:List (List LV)} {r1:List (List LV)}:Hh Tryz.prog 19 [.one (.ow 0 0)] [.blk 71 (B9 c r0 r1)] [.one (.ow 1 0)] [.blk 71 (B9 c r0 r1),.blk 71 (B9 c r0 r1)]:=by
 refine Gv Tryz.func19 rfl ?_;exact ed tt [] [0,1] [] rfl trivial
theorem Qws {M:List Pt} {q:Rat} {c:List (List Int)} (hM:∀ p∈M,Rs p.c) (hl:M.length≤10) (hq:Qs 1000000 q) (hC:Qzf q c):Hh Tryz.prog 47 [.one (.ow 0 0)] [.blk 88 (plZ M q)] [] [.blk 88 (plB M q c (Qe3 q M))]:=by
 refine Gv Tryz.func47 rfl ?_;exact ed tt [] [0] [.c [] (Qss hq hC),.c [] (Qwc (cs:=c) hM hl hq),.c [] (Q7p (Q47 q hl))] rfl trivial
theorem Q3r {zs:List RawPt} {n d:Int} {O M:List Pt} {e:Nat} {c:List (List Int)} (hz:∀ z∈zs,z.Ok) (hO:Qgz 4 20 zs=O) (he:e≤O.length) (hd:Ab (Sx O e)) (hm:e<O.length->¬Ab (Sx O (e+1))) (hn:-9223372036854775808≤n/\n≤9223372036854775807) (hdd:-9223372036854775808≤d/\d≤9223372036854775807) (hC:Qzf (Ck n d) c) (hM:M=Fx El (Qch O e)) :
 Hh Tryz.prog 18 [.one (.row (Qe6 zs)),.one (.int .i64 n),.one (.int .i64 d)] [] [.one (.ow 0 0),.one (.ow 1 0),.one (.bool true)] [.blk 71 (B9 (Q3g M (tq (Ck n d))) (Uy M) (brH M (tq (Ck n d)))),.blk 88 (plB M (Ck n d) c (Qe3 (Ck n d) M))]:=by
 have hO4:O.length<=4:=by rw [<-hO]; exact Qan _ _ (Qh _)
 have hid:∀ p∈O,-9223372036854775808≤p.id/\p.id≤9223372036854775807:=λp hp=>by
  rw [<-hO] at hp; have:=Zf1 p hp; omega
 have hlit:∀ p∈O,Q29 p:=λp hp=>by rw [<-hO] at hp; exact Qn3 (by decide) p hp
 have hcl:(Sx O e).length=e:=Qd3 he;have hcn:(Qch O e).length=e:=by rw [Qhv,hcl]
 have hMl:M.length=e:=by rw [hM,H9,hcn]
 have hok:∀ p∈M,Nml p.c/\Cs 10 3 p.c:=λp hp=>by rw [hM,S7] at hp; exact Q0r hlit e p hp
 have hq:=Qg6 n d;obtain ⟨q,hqq⟩:=nmE (Ck n d);have cb:=Q0d (l:=Qch O e) (by omega);rw [<-hM] at cb;rw [<-hqq] at hq hC ⊢;have csm:=Qzz hn hdd;have c2:=Qws (M:=M) (q:=q) (c:=c) (λp hp=>⟨(hok p hp).1,(hok p hp).2.mono (by decide) (by decide)⟩) (by omega) (hq.mono (by decide)) hC;have ctr:=Q63 (q:=q) (hq.mono (by decide));have hnl:=Q4v (qs:=Qch O e) (by omega) (Qm9 hd);have hnl2:T0 [] (Qch O e)=(M,0):=by rw [hM,<-hnl.2,<-hnl.1]
 have cs:=Qzr (zs:=Uy (Sx O e)) (qs:=Qch O e) (l:=M) (n:=q.num) (d:=(q.den:Int)) (Qn0 λp hp=>(Qs7 hlit e p hp).mono (by decide) (by decide)) (by omega) hnl2 (λp hp=>⟨(hok p hp).1,(hok p hp).2.mono (by decide) (by decide)⟩) (by omega) (Uu q.num) (Uu (q.den:Int)) (Qc hq.1 (by decide)) (Qc hq.2 (by decide)) (by rw [Ol]; exact hq.mono (by decide));rw [Ol] at cs;rw [show Gt (Di n 61-30) (1+Di d 6)=q from hqq.symm] at csm;have cp:=Q3p hz;rw [hO] at cp;refine Gv Tryz.func18 rfl ?_;refine go tt [.c [0,1] cp] rfl trivial ?_;have h0l:=Rj O;refine ct 2 (S:=Unit) (λ_=>[(1,.v (.one (.int .i64 n))),(2,.v (.one (.int .i64 d))),(9,.v (.one (.row (Uy (Sx O e))))),(10,.v (.one (.row (Fa (Qch O e)))))]) (λ_=>[.gone,.gone]) (λ_=>True) rfl ?_ (λ_ _=>?_)
 ·refine lp (S:=Nat) 2 (λL1 i=>(23,.v (.one (.int .i64 (i:Int))))::(9,.v (.one (.orow 0 5 none)))::(10,.v (.one (.orow 1 7 none)))::L1) (λi=>[.row false 33 5 (Uy (mix O i)),.row false 92 7 (Fa ((mix O i).map Pt.nrm))]) (λi=>O.length-i) (λi=>i<=O.length/\i<=e/\Ab (Sx O i)) 0 ⟨Qh _,Qh _,List.Pairwise.nil⟩ rfl (λ_ _=>rfl) (by rw [Q9y]; rfl) λi ⟨hi,hie,hdi⟩=>?_
  have hl1:(Uy (mix O (i+1))).length=O.length:=by rw [Rj,Qi1]
  have hl0:(Uy (mix O i)).length=O.length:=by rw [Rj,Qi1]
  have hr0:(Fa ((mix O i).map Pt.nrm)).length=O.length:=by rw [Hl,Q6,Qi1]
  have hr1:(Fa ((mix O (i+1)).map Pt.nrm)).length=O.length:=by rw [Hl,Q6,Qi1]
  by_cases h:i<O.length
  ·obtain ⟨p,hp⟩:=gxE (l:=O) (i:=i) h;have hx:=Zff hp;have hxn:((mix O i).map Pt.nrm)[i]? = some p.nrm:=by rw [Q9,hx]; rfl
   have cw:=Qdw (v:=p.id) (n:=5) (hid p (Qa hp)) (by decide);rw [show Di p.id 5=p.m5.id from rfl] at cw;refine go tt [.t (decide_eq_true (by omega)),.i i,.x (Hr hx),.c [] cw,.i i,.x (Hr hx),.c [] cw,.i i,.x (Hr hx),.i i,.x (Fc hxn)] rfl (by simp [Ur,hl0,hr0]; omega) ?_;rw [Qra hp,Qmu hp];refine lp (S:=Nat) 2 (λL1 j=>(12,.v (.one (.int .i64 (j:Int))))::(9,.v (.one (.orow 0 5 none)))::(10,.v (.one (.orow 1 7 none)))::L1) (λ_=>[.row false 33 5 (Uy (mix O (i+1))),.row false 92 7 (Fa ((mix O (i+1)).map Pt.nrm))]) (λj=>i-j) (λj=>j<=i/\∀ k x,k<j->O[k]? = some x->x.m5.id≠p.m5.id) 0 ⟨Qh _,λk x h=>absurd h (Uo _)⟩ rfl (λ_ _=>rfl) rfl λj ⟨hj,hjn⟩=>?_
   by_cases hji:j<i
   ·obtain ⟨x,hxj⟩:=gxE (l:=O) (i:=j) (by omega);have g1:=Q1s (i:=i+1) (show j<i+1 by omega) hxj;have g2:=Q1s (i:=i+1) (show i<i+1 by omega) hp;by_cases hq:x.m5.id=p.m5.id
    ·have hnd:¬Ab (Sx O (i+1)):=λhD=>by
      have:=Y6.1 hD j i (by rw [Qd3 (by omega)]; omega) (by rw [Qd3 (by omega)]; omega) hji;refine this ?_;have e1:(Sx O (i+1))[j]? = some x.m5:=by unfold Sx; rw [List.getElem?_map,List.getElem?_take,if_pos (by omega),hxj]; rfl
      have e2:(Sx O (i+1))[i]? = some p.m5:=by unfold Sx; rw [List.getElem?_map,List.getElem?_take,if_pos (by omega),hp]; rfl
      rw [(Qd.1 e1).2,(Qd.1 e2).2]; exact hq
     have hie2:i=e:=by
      rcases Za i e with h3 | h3
      ·exact absurd (Zet hd h3) hnd
      ·omega
     have c1:(Uy (mix O (i+1))).take i=Uy (Sx O e):=by rw [Q44 (by omega) (by omega),hie2]
     have c2:(Fa ((mix O (i+1)).map Pt.nrm)).take i=Fa (Qch O e):=by rw [Qyq (by omega) (by omega),hie2]
     refine go tt [.t (decide_eq_true (by omega)),.i j,.x (Hr g1),.i i,.x (Hr g2),.t (decide_eq_true hq),.i i,.i i] rfl (by simp [Ur,hl1,hr1]; omega) ?_;refine pz 0 rfl rfl ?_;refine pz 1 rfl rfl ?_;exact go tt [.t (decide_eq_true (by omega))] rfl trivial (rc () trivial (by rw [c1,c2]; rfl))
    ·refine go tt [.t (decide_eq_true (by omega)),.i j,.x (Hr g1),.i i,.x (Hr g2),.f (decide_eq_false hq)] rfl (by simp [Ur,hl1]; omega) ?_;exact rd (j+1) (by omega) ⟨hji,λk y hk hy=>by
      rcases Za k j with h3 | h3
      ·exact hjn k y h3 hy
      ·have:k=j:=by omega
       subst this; rw [hxj] at hy; injection hy with hy; rw [<-hy]; exact hq⟩ rfl
   ·have hji2:j=i:=by omega
    rw [hji2] at hjn;have hD:=Q38 hp hdi hjn;have hle:i+1<=e:=by
     rcases Za i e with h3 | h3
     ·exact h3
     ·have:i=e:=by omega
      rw [this] at hD h;exact absurd hD (hm h)
    refine go tt [.f (decide_eq_false (by omega)),.f (decide_eq_false (by omega))] rfl (by simp [Ur]; omega) ?_;exact rd (i+1) (by omega) ⟨h,hle,hD⟩ rfl
  ·have hiO:i=O.length:=by omega
   have hie2:i=e:=by omega
   have c1:Uy (mix O i)=Uy (Sx O e):=by rw [<-hie2,hiO,Qub]
   have c2:Fa ((mix O i).map Pt.nrm)=Fa (Qch O e):=by rw [<-hie2,hiO,Qub]; rfl
   refine go tt [] rfl trivial ?_;rw [c1,c2];refine pz 0 rfl rfl ?_;refine pz 1 rfl rfl ?_;exact go tt [.f (decide_eq_false (by omega))] rfl trivial (rc () trivial rfl)
 ·exact ed tt [] [3,2] [.c [] cb,.c [] csm,.c [2] c2,.c [] ctr,.c [3] cs,.g 96 true rfl] rfl trivial
end Orr
namespace Orr
open Go
end Orr
namespace Orq
open Orr Go
end Orq
namespace Orr
open Orq Go
end Orr
namespace Orr
open Orq
end Orr
namespace Orq
open Orr Go
def Dx (s:List Int) (i:Nat):Pt:=⟨⟨trim [(i:Int)],trim [s.getD i 0,(i:Int)],1⟩,10-(i:Int)⟩
end Orq
namespace Orr
end Orr
namespace Orq
open Orr Go
section
variable {α:Type} {s:α->α->α->Bool} {S:α->Prop}
end
def hfn (s:List Int) (same:Bool) (i:Nat):List Int:=if same=true then [3,2] else trim [s.getD i 0,(i:Int)]
def hpt (s:List Int) (same:Bool) (i:Nat):Pt:=⟨⟨hfn s same i,Ak (hfn s same i) (hfn s same i),1⟩,(i:Int)⟩
def By (s:List Int) (t:Int) (i:Nat):Int:=s.getD i 0+(i:Int)*t
end Orq
namespace Orr
open Go Go.Proofs Orq
set_option maxRecDepth 10000
theorem Q6a {c c':Cr} {l l' m:List Pt} {a:Tm} {r:List (List LV)} (hm:m.length<=10) (hr:r=brH m a):Hh Tryz.prog 23 [.one (.ow 0 0),.one (.ow 1 0)] [.blk 71 (B9 c (Uy l) r),.blk 71 (B9 c' (Uy l') r)] [.one (.bool true)] [.blk 71 (B9 c (Uy l) r),.blk 71 (B9 c' (Uy l') r)]:=by
 have hl:=A0 m a;have hr:r=Uy (Hu m a):=hr;rw [hr];have c1:=Qwi (c:=c) (l:=l) (s:=Hu m a) (by omega);have c2:=Qwi (c:=c') (l:=l') (s:=Hu m a) (by omega);have cs:=Q6y (a:=(Hu m a).map (·.id)) (b:=(Hu m a).map (·.id)) (by rw [Q6]; omega) (by rw [Q6]; omega);rw [decide_eq_true rfl] at cs;refine Gv Tryz.func23 rfl ?_;exact ed tt [] [0,1] [.c [0] c1,.c [1] c2,.c [] cs] rfl trivial
abbrev wkH:List Pt:=[⟨E9 1 0,1⟩,⟨E9 0 1,2⟩,⟨E9 0 0,3⟩]
theorem Zg5:(Hu wkH (tq 0)).map (·.id)=[3,1,2]:=by decide +kernel
theorem Zlg:(Hu wkH (tq 0)).any (λp=>decide (p.id=2))=true:=by decide +kernel
theorem Zlh:(Hu wkH (tq 0)).any (λp=>decide (p.id=9))=false:=by decide +kernel
theorem Zcp:∀ p∈wkH,Sc p.c:=λp hp=>by
 rcases Qo.1 hp with rfl | hp
 ·exact Ql8 (by decide) (by decide)
 rcases Qo.1 hp with rfl | hp
 ·exact Ql8 (by decide) (by decide)
 ·rw [Qk.1 hp]; exact Ql8 (by decide) (by decide)
theorem Qm8:Ut Tryz.prog 17 [] [.one (.bool true)]:=by
 have hq:Qs 400000 (Gt 0 0):=⟨by decide,by decide⟩;have ez:Gt 0 0=0:=by decide
 have zp:IsPts 4294967294 1073741824 (Uy [⟨E9 0 0,3⟩,⟨E9 0 1,2⟩,⟨E9 1 0,1⟩]) [⟨E9 0 0,3⟩,⟨E9 0 1,2⟩,⟨E9 1 0,1⟩]:=Q1c λp hp=>(Zcp p (by simp at hp ⊢; rcases hp with h | h | h <;> simp [h])).pt
 have hnl:T0 [] [⟨E9 0 0,3⟩,⟨E9 0 1,2⟩,⟨E9 1 0,1⟩]=(wkH,0):=rfl;have cn:=Qzr zp (by decide) hnl Zcp (by decide) Ce Ce (by decide) (by decide) hq;rw [ez] at cn;have hl:(Hu wkH (tq 0)).length<=1000000:=Qc (A0 _ _) (by decide);have ci:=Qwi (c:=Q3g wkH (tq 0)) (l:=wkH) hl;have o2:=Zhj (c:=Q3g wkH (tq 0)) (l:=wkH) (id:=2) hl;have o9:=Zhj (c:=Q3g wkH (tq 0)) (l:=wkH) (id:=9) hl;rw [Zg5] at ci;rw [Zlg] at o2;rw [Zlh] at o9;have cs:=Q6y (a:=[3,1,2]) (b:=[3,1,2]) (by decide) (by decide);refine Gv Tryz.func17 rfl ?_;exact en tt [.c [] (Qpn (x:=0) (y:=0) (by decide) (by decide)),.c [] (Qpn (x:=0) (y:=1) (by decide) (by decide)),.c [] (Qpn (x:=1) (y:=0) (by decide) (by decide)),.c [0] cn,.g 17 true rfl,.g 21 true rfl,.c [0] ci,.c [] cs,.g 27 true rfl,.c [0] o2,.g 31 true rfl,.c [0] o9] rfl rfl trivial
theorem Q50 (l:List Pt):(Qjj l).length=l.length*(l.length*l.length):=by
 have h:∀ {α:Type} (f:Pt->List α) (k:Nat) (m:List Pt),(∀ x,(f x).length=k)->(m.flatMap f).length=m.length*k:=λf k m hf=>by
  induction m with
  | nil=>simp
  | cons y m ih=>rw [J0,Q4,ih,hf,Q7,X8,Ki,Ja]
 unfold Qjj;exact h _ _ _ λa=>h _ _ _ λb=>Q6 _
theorem Q5z {l:List Pt} (h:l.length<=10):(Qds l++Qjj l).length<=1000000:=by
 rw [Q4,Q51,Q50];have h1:l.length*(l.length*2)<=10*(10*2):=Zf h (Zf h (Ql 2));have h2:l.length*(l.length*l.length)<=10*(10*10):=Zf h (Zf h h);omega
set_option maxHeartbeats 8000000 in
theorem Qka {zs:List RawPt} {cs:List Int} (hz:∀ z∈zs,z.Ok) (hcs:∀ z∈cs,-9223372036854775808≤z/\z≤9223372036854775807):Ut Tryz.prog 4 [.one (.row (Qe6 zs)),.one (.row (idl cs))] [.one (.bool true)]:=by
 obtain ⟨e,he,hd,hm⟩:=Zjk (Qgz 4 20 zs);have hq0:=Qg6 25 0;have cb:=Q3r (n:=25) (d:=0) hz rfl he hd hm (by decide) (by decide) (Zm4 (hq0.mono (by decide))) rfl;obtain ⟨O,hO⟩:=nmE (Qgz 4 20 zs);have hO4:O.length<=4:=by rw [hO]; exact Qan _ _ (Qh _)
 have hlit:∀ p∈O,Q29 p:=λp hp=>by rw [hO] at hp; exact Qn3 (by decide) p hp
 rw [<-hO] at cb he hd;obtain ⟨M,hM⟩:=nmE (Fx El (Qch O e));rw [<-hM] at cb;have hq12:Ck 25 0<=((12:Int):Rat):=by decide
 obtain ⟨q,hq⟩:=nmE (Ck 25 0);rw [<-hq] at cb hq0 hq12;have hcn:(Qch O e).length=e:=by rw [Qhv,Qd3 he]
 have hMl:M.length=e:=by rw [hM,H9,hcn]
 have hMd:Ab M:=by rw [hM]; exact Q37 (Qma _).symm (Qm9 hd)
 have hsc:∀ p∈M,Sc p.c:=λp hp=>by
  rw [hM,S7] at hp;have:=Q0r hlit e p hp;exact ⟨this.1,this.2.mono (by decide) (by decide)⟩
 have hln:M.length<=10:=by omega
 have hv:Va (tq q):=Zg2 (hq0.mono (by decide));have S:Stab (bcH M) (brH M):=Znd hsc hln hMd;obtain ⟨c0,hc0⟩:=nmE (Q3g M (tq q));have hst:KSt (bcH M) (brH M) c0 (brH M (tq q)):=by rw [hc0]; exact Ziw S hv
 have hn0:c0.now=tq q:=by rw [hc0]; rfl
 have hev0:c0.ev=0:=by rw [hc0]; rfl
 rw [<-hc0] at cb;have hal:(Qds M++Qjj M).length<=1000000:=Q5z hln;have adv:=λ{t:Rat} (ht:Qs 400000 t) {c:Cr} {r:List (List LV)} (hS:KSt (bcH M) (brH M) c r) (h:Fe c.now t<=0)=>Zip S (Qik hsc) (λa _=>Qpf) hal ht hS h
 have from0:∀ {t:Rat},Qs 400000 t->q<=t->∃ E,Evs (bcH M) t (tq q) E/\E.length<=67000000:=λ{t} ht h=>by
  obtain ⟨_,_,E,_,_,_,_,_,h1,h2⟩:=adv ht hst (by rw [hn0,Ir]; exact Cu.2 h);rw [hn0] at h2;exact ⟨E,h2,h1⟩
 obtain ⟨T,hT⟩:=nmE (((12:Int):Rat));have hTq:Qs 400000 T:=by rw [hT]; exact ⟨by decide,by decide⟩
 rw [<-hT] at hq12;obtain ⟨K,c',E,hK,hg,hnow,hS',hev,hEl,hE⟩:=adv hTq hst (by rw [hn0,Ir]; exact Cu.2 hq12);rw [hn0] at hE;rw [hev0] at hev;have cadv:=Qwg (l:=M) (K:=K) hTq hsc hln hst.inv.ok (by rw [hev0]; omega) (by rw [hn0,Ir]; exact Cu.2 hq12) hg;have co12:=Qcx (n:=12) (by decide);rw [<-hT] at co12;have co100:=Qcx (n:=-100) (by decide);have ct12:=Q63 (q:=T) (hTq.mono (by decide));obtain ⟨L0,hL0⟩:=nmE (((-100:Int):Rat));rw [<-hL0] at co100;have hL0q:Qs 400000 L0:=by rw [hL0]; exact ⟨by decide,by decide⟩
 have hil:(idl cs).length=cs.length:=by simp
 refine Gv Tryz.func4 rfl (ln 1 rfl rfl λhcl=>?_);rw [hil] at hcl;refine go tt [.c [0,1] cb,.f rfl,.c [0,2] Q3n,.f rfl,.c [] co12,.c [] ct12,.c [0] cadv,.c [] co100] rfl trivial ?_;refine lp (S:=Nat×Cr×List (List LV)×Nat×Rat) 5 (λL1 s=>(14,.v (.one (.int .i64 (s.1:Int))))::(12,.v (.one (.int .i64 (s.2.2.2.1:Int))))::L1) (λs=>[.blk 71 (B9 c' (Uy M) (brH M (tq T))),.blk 88 (plB M q [[-q.num,(q.den:Int)],[1]] (Qe3 q M)),.blk 71 (B9 s.2.1 (Uy M) s.2.2.1),.blk 52 (fr T),.blk 52 (fr s.2.2.2.2)]) (λs=>4-s.1) (λs=>(s.1<=4/\s.1<=cs.length)/\KSt (bcH M) (brH M) s.2.1 s.2.2.1/\s.2.1.ev=(s.2.2.2.1:Int)/\s.2.2.2.1<=67000000/\Qs 400000 s.2.2.2.2/\∃ (cur:Rat) (F:List Tm),s.2.1.now=tq cur/\Qs 400000 cur/\q<=cur/\cur<=T/\(s.2.2.2.2=L0\/s.2.2.2.2=cur)/\Evs (bcH M) cur (tq q) F/\s.2.2.2.1=F.length) (0,c0,brH M (tq q),0,L0) ⟨⟨by show 0<=4; decide,Qh _⟩,hst,hev0,by show 0<=67000000; decide,hL0q,q,[],hn0,hq0.mono (by decide),Qp,hq12,.inl rfl,by
  obtain ⟨F,h1,_⟩:=from0 (hq0.mono (by decide)) (Qp (a:=q));rw [Q8s h1] at h1; exact h1,rfl⟩ rfl (λ_ _=>rfl) rfl λ⟨i,c,r,m,la⟩ ⟨⟨hi1,hi2⟩,hS,hce,hm7,hlq,cur,F,hcur,hcq,hqc,hcT,hla,hF,hmF⟩=>?_
 dsimp only at hi1 hi2 hS hce hm7 hlq hcur hla hmF ⊢;have hvc:Va (tq cur):=Zg2 hcq;by_cases hr:i<cs.length/\i<4
 ·obtain ⟨z,hzi⟩:=gxE (l:=cs) (i:=i) hr.1;have hzb:=hcs z (Qa hzi);have csm:=Qzz (n:=z) (d:=(i:Int)) hzb (by omega);obtain ⟨t,ht⟩:=nmE (Ck z i);have htq:Qs 400000 t:=by rw [ht]; exact (Qg6 z i).mono (by decide)
  have htl:L0<=t:=by rw [ht,hL0]; exact Zb1 z i
  rw [show Gt (Di z 61-30) (1+Di (i:Int) 6)=t from ht.symm] at csm;have cc1:=Qpt (a:=t) (b:=T) (htq.mono (by decide)) (hTq.mono (by decide));have cc2:=Qpt (a:=t) (b:=la) (htq.mono (by decide)) (hlq.mono (by decide));have ctt:=Q63 (q:=t) (htq.mono (by decide));by_cases h12:0<Gq t T
  ·refine go tt [.g 45 true (decide_eq_true (by omega)),.t (decide_eq_true (by omega)),.x (Oc hzi),.c [] csm,.c [] cc1,.t (decide_eq_true h12)] rfl (by simp [Ur]; omega) ?_;exact rd (i+1,c,r,m,la) (by dsimp only; omega) ⟨⟨hr.2,hr.1⟩,hS,hce,hm7,hlq,cur,F,hcur,hcq,hqc,hcT,hla,hF,hmF⟩ rfl
  have htT:t<=T:=by
   rcases Tx t T with h | h | h
   ·omega
   ·exact h.2 ▸ Qp
   ·exact Qq h.2
  by_cases hp:cur<=t
  ·obtain ⟨K1,c1,E1,k1,k2,k3,k4,k5,k6,k7⟩:=adv htq hS (by rw [hcur,Ir]; exact Cu.2 hp);rw [hcur] at k7;have hqt:q<=t:=Ze hqc hp;obtain ⟨F2,f1,f2⟩:=from0 htq hqt;have hnt:¬Pj (tq cur) (tq q):=λh=>absurd (Q2y.1 h) (Uc.2 hqc)
   have hcat:=Q02 S hp hvc hF hv hnt k7 f1;have ca:=Qwg (l:=M) (K:=K1) htq hsc hln hS.inv.ok (by rw [hce]; omega) (by rw [hcur,Ir]; exact Cu.2 hp) k2;have hnl:¬Gq t la<0:=λh=>by
    have h:=Nq.1 h;rcases hla with h2 | h2
    ·rw [h2] at h; exact absurd htl (X4.2 h)
    ·rw [h2] at h; exact absurd hp (X4.2 h)
   refine go tt [.g 45 true (decide_eq_true (by omega)),.t (decide_eq_true (by omega)),.x (Oc hzi),.c [] csm,.c [] cc1,.f (decide_eq_false h12),.c [] ctt,.c [2] ca,.t rfl,.c [] cc2,.f (decide_eq_false hnl)] rfl (by simp [Ur]; omega) ?_;exact rd (i+1,c1,brH M (tq t),m+E1.length,t) (by dsimp only; omega) ⟨⟨hr.2,hr.1⟩,k4,by dsimp only; rw [k5,hce]; omega,by dsimp only; omega,htq,t,F2,k3,htq,hqt,htT,.inr rfl,f1,by dsimp only; omega⟩ rfl
  ·have By:t<cur:=X4.1 hp;have ca:=Qwh (l:=M) (r1:=r) htq hS.inv.ok.n (by rw [hcur,Ir]; exact Cq.2 By);refine go tt [.g 45 true (decide_eq_true (by omega)),.t (decide_eq_true (by omega)),.x (Oc hzi),.c [] csm,.c [] cc1,.f (decide_eq_false h12),.c [] ctt,.c [2] ca,.f rfl,.g 80 false rfl,.f rfl] rfl (by simp [Ur]; omega) ?_;exact rd (i+1,c,r,m,la) (by dsimp only; omega) ⟨⟨hr.2,hr.1⟩,hS,hce,hm7,hlq,cur,F,hcur,hcq,hqc,hcT,hla,hF,hmF⟩ rfl
 obtain ⟨K2,c2,E2,k1,k2,k3,k4,k5,k6,k7⟩:=adv hTq hS (by rw [hcur,Ir]; exact Cu.2 hcT);rw [hcur] at k7;have hnt:¬Pj (tq cur) (tq q):=λh=>absurd (Q2y.1 h) (Uc.2 hqc)
 have hcat:=Q02 S hcT hvc hF hv hnt k7 hE;have ca:=Qwg (l:=M) (K:=K2) hTq hsc hln hS.inv.ok (by rw [hce]; omega) (by rw [hcur,Ir]; exact Cu.2 hcT) k2;obtain ⟨s,hs⟩:=nmE (brH M (tq T));have hcs1:Hi (c'.l.map (·.c))=Hi (c2.l.map (·.c)):=by rw [hS'.cs,k4.cs,hnow,k3]
 rw [<-hs] at ca ⊢;have cal:=Q6a (c:=c') (c':=c2) (l:=M) (l':=M) (m:=M) (a:=tq T) (r:=s) (by omega) hs;have cC1:=Qsp (T:=71) (c:=c') (r0:=Uy M) (r1:=s) hS'.inv.ok;have cC2:=Qsp (T:=71) (c:=c2) (r0:=Uy M) (r1:=s) k4.inv.ok;rw [hcs1] at cC1;have csc:=Q6z (l:=Hi (c2.l.map (·.c))) (λx hx=>by
  obtain ⟨w,hw,rfl⟩:=Zr.1 (Qb8 hx);exact (k4.inv.ok.l w hw).p) (by rw [Ll,Q6]; have:=k4.inv.ok.k; omega)
 have hes:((m:Nat):Int)+((E2.length:Nat):Int)=((E.length:Nat):Int):=by omega
 have hev2:c'.ev=c2.ev:=by rw [hev,k5,hce]; omega
 by_cases h:i<cs.length
 ·exact en tt [.g 45 true (decide_eq_true (by omega)),.f (decide_eq_false (by omega)),.c [] ct12,.c [2] ca,.g 93 true rfl,.g 97 true rfl,.g 104 true (decide_eq_true hes),.lo,.c [0] Qbo,.lo,.c [2] Qbo,.g 115 true (decide_eq_true hev2),.lo,.c [0,2] cal,.g 120 true rfl,.lo,.c [0] cC1,.lo,.c [2] cC2,.c [] csc,.g 131 true rfl,.c [] Qm8] rfl rfl (by simp [Ur]; omega)
 ·exact en tt [.g 45 false (decide_eq_false (by omega)),.f rfl,.c [] ct12,.c [2] ca,.g 93 true rfl,.g 97 true rfl,.g 104 true (decide_eq_true hes),.lo,.c [0] Qbo,.lo,.c [2] Qbo,.g 115 true (decide_eq_true hev2),.lo,.c [0,2] cal,.g 120 true rfl,.lo,.c [0] cC1,.lo,.c [2] cC2,.c [] csc,.g 131 true rfl,.c [] Qm8] rfl rfl (by simp [Ur]; omega)
end Orr
namespace Orr
open Go Go.Proofs
variable {H:Type} {enc:TypeId×Value->H} {w:World} {base:Nat} {spare:Nat->Bool} {held:Bool}
theorem Ly {α:Type} {l:List α} {n i:Nat} (h:l.length=n) (hi:i<n):∃ x,l[i]? = some x:=⟨l[i]'(by omega),Qe (by omega)⟩
end Orr
namespace Orr
open Go Go.Proofs Go.ChangeShapes Go.WideShapes Go.ChangeAt Go.RowKit Go.WideElems
theorem Zei {w:World} {a:Addr} {v:Value} (h:w.cell? a=some v):a.spot=none/\a.block<w.heap.size:=by
 simp only [World.cell?] at h
 split at h
 ·rename_i c t fr hc
  split at h
  ·cases h
  ·rename_i hs;refine ⟨by cases e:a.spot with | none=>rfl | some _=>simp [e] at hs,?_⟩;exact (Array.getElem?_eq_some_iff.1 hc).1
 ·cases h
theorem Zdb {a:Addr} (h:a.spot=none) (n m:Nat):(a.add n).add m=⟨a.block,a.off+n+m,none⟩:=by
 obtain ⟨b,o,s⟩:=a;simp only at h;subst h;simp only [Addr.add]
 split
 ·rename_i h; subst h
  split
  ·rename_i h; subst h; simp
  ·simp
 ·split
  ·rename_i h; subst h; simp
  ·simp
def fr0 (w:World):Fr:=⟨λb=>b<w.heap.size,λ_=>False,w,λ_=>False,λ_=>none⟩
theorem hs0 (w:World):HS (fr0 w) (ob []) (nw []) (λ_=>none) (λ_=>False) w where
 size:=Ql _
 kept:=λb hb=>⟨hb,rfl,Iff.rfl⟩
 ids:=λi h=>h.elim
 nj:=λi h=>by rw [Qq0] at h; cases h
 io:=⟨rfl,rfl⟩
 blk:=λi=>by rw [Qq0]; trivial
 nk:=λi g c m h _=>by rw [Qq0] at h; cases h
 inj:=λi j g c m c' m' h _ _ _=>by rw [Qq0] at h; cases h
 mlt:=λb h=>h.elim
 m0:=λb _ h=>h.elim
 un:=λi _=>⟨rfl,rfl⟩
 uj:=λi _ h=>h.elim
theorem Q2s {w w':World} {bl:Nat->OB} {U:Nat->Prop} {E:No} {M:Nat->Prop} (h:HS (fr0 w) bl U E M w') {p:MemPlace} (hp:p.block<w.heap.size):w.sameAt w' p:=by
 cases p with
 | cell b off=>simp only [World.sameAt,World.cell?]; rw [(h.kept b hp).2.1]; rfl
 | map b=>exact (h.kept b hp).2.1
theorem Ze5 {w w':World} {bl:Nat->OB} {U:Nat->Prop} {E:No} {M:Nat->Prop} (h:HS (fr0 w) bl U E M w') (may:MemPlace->Prop):w.keptBut w' may:=by
 refine ⟨h.io.1,h.io.2,λi hi=>?_⟩;have e:w'.heap[i]? = w.heap[i]? := (h.kept i hi).2.1;rw [e];cases w.heap[i]? with
 | none=>rfl
 | some o=>cases o <;> simp
theorem Qbk {H:Type} {P:Program} {e:TypeId}:∀ {l:List (DataW H)} {i:Nat} {d:DataW H},l[i]? = some d->∀ n∈d.weights P e,n∈DataW.weightsAll P e l
 | [],i,d,h,_,_=>by simp at h
 |
  x::l,0,d,h,n,hn=>by
  simp at h; subst h;simp only [DataW.weightsAll,Qu]; exact .inl hn
 |
  x::l,i+1,d,h,n,hn=>by
  simp only [DataW.weightsAll,Qu];exact .inr (Qbk (i:=i) (by simpa using h) n hn)
theorem Ar {H:Type} {P:Program} {t:TypeId} {fs:Array Field} {parts:List (DataW H)} (hu:P.underlying t=some (.struct fs)) (hz:((DataW.agg parts).weights P t).all (· <= reachBytes)=true) {i:Nat} {f:Field} {d:DataW H} (hf:fs[i]? = some f) (hd:parts[i]? = some d) :
 (d.weights P f.type).all (· <= reachBytes)=true:=by
 rw [J9] at hz ⊢;intro n hn;refine hz n ?_;simp only [DataW.weights,hu];exact DataW.weights_mem_each (j:=i) (by rw [Q9]; simp [hf]) hd n hn
variable {H:Type} {enc:TypeId×Value->H} {w:World}
abbrev O0:Nat->Prop:=λ_=>False
def Els (w:World) (cs:List Value) (ls:List LV):Prop:=cs.length=ls.length/\∀ (j:Nat) (u:LV),ls[j]? = some u->∃ v,cs[j]? = some v/\LRep w O0 v u
theorem Qbb {α:Type} {rw_:α->List LV} {Ok:α->Prop} {t e sz:Nat} (hu:Tryz.prog.underlying t=some (.slice e)) (hc:Tryz.prog.cellsOf e=sz) (hsz:0<sz) (hb:1<=Tryz.prog.bytesOf e) (hw:∀ z,(rw_ z).length=sz)
 (elem:∀ fuel cs x,DataW.trod enc Tryz.prog w 0 (λ_=>true) true fuel e cs=some x->(x.1.weights Tryz.prog e).all (· <= reachBytes)=true->∃ z,Ok z/\Els w cs (rw_ z))
 {fuel:Nat} {cs:List Value} {x:DataW H×List MemPlace} (h:DataW.trod enc Tryz.prog w 0 (λ_=>true) true fuel t cs=some x) (hz:(x.1.weights Tryz.prog t).all (· <= reachBytes)=true) :
 ∃ (v:Value) (l:List α),cs=[v]/\(∀ z∈l,Ok z)/\l.length<2^47/\LRep w O0 v (.row (l.map rw_)):=by
 rcases Go.Deep.open_slice hu h with ⟨rfl,_⟩ | ⟨a',len,cap,m,n,D,Pl,rfl,_,hlc,hcap,hm,rfl,hr⟩
 ·refine ⟨_,[],rfl,by simp,Nat.two_pow_pos 47,?_⟩;exact LRep.row none 0 0 0 0 [] (λ_ _=>.bool true) (Ql _) (by decide) (by simp) (by simp) (by simp) (by simp)
 ·simp only [if_true] at hm;subst hm;rw [J9] at hz;have hlen:len<2^47:=by
   have h0:=hz ((len+(m-len))*Tryz.prog.bytesOf e) (by simp [DataW.weights,hu]);have h1:len<=(len+(m-len))*Tryz.prog.bytesOf e:=by
    have:=Zf (Y9 len (m-len)) hb;omega
   have h2:(len+(m-len))*Tryz.prog.bytesOf e<=reachBytes:=by simpa using h0
   exact Zv (Qc h1 h2) reachBytes_lt
  have hel:∀ i,i<len->((D i).weights Tryz.prog e).all (· <= reachBytes)=true:=λi hi=>by
   rw [J9];intro k hk;refine hz k ?_;simp only [DataW.weights,hu];refine Qj _ (Qu.2 (.inl (Qbk (i:=i) ?_ k hk)));rw [Q9,Xs hi]; rfl
  have hone:∀ i,i<len->∃ z cs',Ok z/\Els w cs' (rw_ z)/\∀ j,j<sz->w.cell? ((a'.add (i*sz)).add j)=cs'[j]? := λi hi=>by
   obtain ⟨cs',hcs,htr⟩:=hr i (by omega);rw [hc] at hcs;obtain ⟨_,hl,hcell⟩:=World.cells?_some hcs;obtain ⟨z,hz1,hz2⟩:=elem _ _ _ htr (hel i hi);refine ⟨z,cs',hz1,hz2,λj hj=>?_⟩;rw [hcell j (by omega)]
  have hspot:0<len->a'.spot=none/\a'.block<w.heap.size:=λh0=>by
   obtain ⟨z,cs',_,⟨hl,_⟩,h3⟩:=hone 0 h0;have h4:=h3 0 hsz;have:(a'.add (0*sz)).add 0=a':=by simp [Addr.add]
   rw [this,Qe (by rw [hl,hw]; exact hsz)] at h4;exact Zei h4
  obtain ⟨l,hll,hl⟩:∃ l:List α,l.length=len/\∀ i z,l[i]? = some z->Ok z/\∃ cs',Els w cs' (rw_ z)/\∀ j,j<sz->w.cell? ((a'.add (i*sz)).add j)=cs'[j]? := by
   have:∀ k,k<=len->∃ l:List α,l.length=k/\∀ i z,l[i]? = some z->Ok z/\∃ cs',Els w cs' (rw_ z)/\∀ j,j<sz->w.cell? ((a'.add (i*sz)).add j)=cs'[j]? := by
    intro k
    induction k with
    | zero=>intro _; exact ⟨[],rfl,λi z h=>by simp at h⟩
    |
     succ k ih =>
     intro hk;obtain ⟨l,h1,h2⟩:=ih (by omega);obtain ⟨z,cs',h3,h4,h5⟩:=hone k (by omega);refine ⟨l++[z],by simp [h1],λi y hy=>?_⟩;rcases Za i l.length with hi | hi
     ·rw [Zj hi] at hy; exact h2 i y hy
     ·rw [Z3 hi] at hy;have:i-l.length=0:=by
       rcases Qz (i-l.length) with h | h
       ·exact h
       ·rw [Qt (by rw [Yu]; exact h)] at hy; cases hy
      rw [this] at hy;simp at hy;subst hy;have:i=k:=by omega
      subst this;exact ⟨h3,cs',h4,h5⟩
   exact this len (Ql _)
  refine ⟨_,l,rfl,λz hz=>?_,by rw [hll]; exact hlen,?_⟩
  ·obtain ⟨i,hi⟩:=Zd.1 hz;exact (hl i z hi).1
  ·have key:LRep w O0 (.slice (some a') (l.map rw_).length m) (.row (l.map rw_)):=by
    have hgl:∀ i c,(l.map rw_)[i]? = some c->∃ z,l[i]? = some z/\c=rw_ z/\i<len:=λi c h=>by
     rw [Q9] at h;cases e:l[i]? with
     | none=>rw [e] at h; cases h
     | some z=>rw [e] at h; simp at h; exact ⟨z,rfl,h.symm,by have:=(Qd.1 e).1; omega⟩
    have hcl:∀ i c,(l.map rw_)[i]? = some c->∃ cs':List Value,Els w cs' c/\∀ j,j<sz->w.cell? ⟨a'.block,a'.off+i*sz+j,none⟩=cs'[j]? := λi c h=>by
     obtain ⟨z,hz,rfl,hi⟩:=hgl i c h;obtain ⟨_,cs',h1,h2⟩:=hl i z hz;refine ⟨cs',h1,λj hj=>?_⟩;rw [<-h2 j hj,Zdb (hspot (by omega)).1]
    refine LRep.row (some a') m sz a'.block a'.off (l.map rw_) (λi j=>(w.cell? ⟨a'.block,a'.off+i*sz+j,none⟩).getD (.bool true)) (by rw [Q6]; omega) ?_ ?_ ?_ ?_ ?_
    ·have:maxLen=2^63-1:=by rfl
     omega
    ·intro c hc2;obtain ⟨z,_,rfl⟩:=Zr.1 hc2;exact hw z
    ·intro h0;rw [Q6,hll] at h0;obtain ⟨hs,hb⟩:=hspot h0;refine ⟨?_,hb,by simp [O0]⟩;obtain ⟨b,o,s⟩:=a';simp only at hs;rw [hs]
    ·intro i c hi j hj;obtain ⟨z,_,rfl,_⟩:=hgl i c hi;obtain ⟨cs',⟨h1,_⟩,h2⟩:=hcl i _ hi;have hjs:j<sz:=by rw [<-hw z]; exact hj
     rw [h2 j hjs,Qe (by rw [h1]; exact hj)]; rfl
    ·intro i c hi j u hu2;obtain ⟨z,_,rfl,_⟩:=hgl i c hi;obtain ⟨cs',⟨h1,h3⟩,h2⟩:=hcl i _ hi;obtain ⟨v,hv,hr2⟩:=h3 j u hu2;have hjs:j<sz:=by rw [<-hw z]; exact (Qd.1 hu2).1
     show LRep w O0 ((w.cell? ⟨a'.block,a'.off+i*sz+j,none⟩).getD (.bool true)) u;rw [h2 j hjs,hv]; exact hr2
   rw [Q6,hll] at key;exact key
abbrev Zn0 (x:Nat):List LV:=[.int .u32 (x:Int)]
theorem Zcl:∀ fuel cs x,DataW.trod enc Tryz.prog w 0 (λ_=>true) true fuel 143 cs=some x->(x.1.weights Tryz.prog 143).all (· <= reachBytes)=true->∃ z:Nat,z<4294967296/\Els w cs (Zn0 z):=by
 intro fuel cs x h _;obtain ⟨n,rfl,_,hwf⟩:=DataW.trod_int Tryz.underlying143 h;have hn:0<=n/\n<4294967296:=by
  have:0<=n/\n<=4294967295:=by simpa [Lit.wf,IntKind.min,IntKind.max,IntKind.signed,IntKind.bits] using hwf
  omega
 refine ⟨n.toNat,by omega,rfl,λj u hu=>?_⟩
 match j,hu with
 |
  0,hu =>
  simp at hu; subst hu;refine ⟨_,rfl,?_⟩;rw [show max n 0=n by omega];exact .int _ _
 | j+1,hu=>simp at hu
set_option maxRecDepth 20000 in
theorem Qk6:∀ fuel cs x,DataW.trod enc Tryz.prog w 0 (λ_=>true) true fuel 27 cs=some x->(x.1.weights Tryz.prog 27).all (· <= reachBytes)=true->∃ z:RawInt,z.Ok/\Els w cs (Qg2 z):=by
 intro fuel cs x h hz;obtain ⟨xs,n,_,rfl,hl,hxs,hf⟩:=DataW.trod_struct Tryz.underlying27 h;have hl:cs.length=2:=hl
 match cs,hl with
 |
  [v0,v1],_ =>
  obtain ⟨z0,hz0⟩:=Ly (i:=0) hxs (by decide);obtain ⟨z1,hz1⟩:=Ly (i:=1) hxs (by decide);have h0:=hf 0 _ rfl;have h1:=hf 1 _ rfl;rw [hz0] at h0; rw [hz1] at h1;obtain ⟨b,e0,_⟩:=DataW.trod_bool Tryz.underlying4 h0;have f0:v0=.bool b:=(List.cons.inj (show [v0]=[Value.bool b] from e0)).1;have hw1:=Ar Tryz.underlying27 hz (i:=1) rfl (d:=z1.1) (by rw [Q9,hz1]; rfl);obtain ⟨v,l,e1,hlo,_,hrep⟩:=Qbb (sz:=1) (Ok:=λu:Nat=>u<4294967296) (rw_:=Zn0) Tryz.underlying25 (by kernel_rfl) (by decide) (of_decide_eq_true (by kernel_rfl)) (λ_=>rfl) Zcl h1 hw1;have f1:v1=v:=(List.cons.inj (show [v1]=[v] from e1)).1;subst f0 f1;refine ⟨⟨b,l⟩,⟨hlo⟩,rfl,λj u hu=>?_⟩
  match j,hu with
  | 0,hu=>simp at hu; subst hu; exact ⟨_,rfl,.bool _⟩
  | 1,hu=>simp at hu; subst hu; exact ⟨_,rfl,hrep⟩
  | j+2,hu=>simp at hu
set_option maxRecDepth 20000 in
theorem Qx7:∀ fuel cs x,DataW.trod enc Tryz.prog w 0 (λ_=>true) true fuel 33 cs=some x->(x.1.weights Tryz.prog 33).all (· <= reachBytes)=true->∃ z:RawPt,z.Ok/\Els w cs (rwq z):=by
 intro fuel cs x h hz;obtain ⟨xs,n,_,rfl,hl,hxs,hf⟩:=DataW.trod_struct Tryz.underlying33 h;have hl:cs.length=5:=hl
 match cs,hl with
 |
  [v0,v1,v2,v3,v4],_ =>
  obtain ⟨z0,hz0⟩:=Ly (i:=0) hxs (by decide);obtain ⟨z1,hz1⟩:=Ly (i:=1) hxs (by decide);have h0:=hf 0 _ rfl;have h1:=hf 1 _ rfl;rw [hz0] at h0; rw [hz1] at h1;obtain ⟨id,e4,_,hwf⟩:=DataW.trod_int Tryz.underlying3 h1;have f4:v4=.int .i64 id:=(List.cons.inj (show [v4]=[Value.int .i64 id] from e4)).1;have hw0:=Ar Tryz.underlying33 hz (i:=0) rfl (d:=z0.1) (by rw [Q9,hz0]; rfl);obtain ⟨ys,n2,_,e5,_,hys,hg⟩:=DataW.trod_struct Tryz.underlying29 h0;rw [e5] at hw0;obtain ⟨y0,hy0⟩:=Ly (i:=0) hys (by decide);obtain ⟨y1,hy1⟩:=Ly (i:=1) hys (by decide);obtain ⟨y2,hy2⟩:=Ly (i:=2) hys (by decide);have g0:=hg 0 _ rfl;have g1:=hg 1 _ rfl;have g2:=hg 2 _ rfl;rw [hy0] at g0; rw [hy1] at g1; rw [hy2] at g2;have w0:=Ar Tryz.underlying29 hw0 (i:=0) rfl (d:=y0.1) (by rw [Q9,hy0]; rfl);have w1:=Ar Tryz.underlying29 hw0 (i:=1) rfl (d:=y1.1) (by rw [Q9,hy1]; rfl);have w2:=Ar Tryz.underlying29 hw0 (i:=2) rfl (d:=y2.1) (by rw [Q9,hy2]; rfl);obtain ⟨u0,lx,e0,hx,_,rx⟩:=Qbb (sz:=2) (Ok:=RawInt.Ok) (rw_:=Qg2) Tryz.underlying24 (by kernel_rfl) (by decide) (of_decide_eq_true (by kernel_rfl)) (λ_=>rfl) Qk6 g0 w0;obtain ⟨u1,ly,e1,hy,_,ry⟩:=Qbb (sz:=2) (Ok:=RawInt.Ok) (rw_:=Qg2) Tryz.underlying24 (by kernel_rfl) (by decide) (of_decide_eq_true (by kernel_rfl)) (λ_=>rfl) Qk6 g1 w1;obtain ⟨d,hd,hde⟩:=Qk6 _ _ _ g2 w2;have f0:v0=u0:=(List.cons.inj (show [v0]=[u0] from e0)).1;have f1:v1=u1:=(List.cons.inj (show [v1]=[u1] from e1)).1;have hde2:Els w [v2,v3] (Qg2 d):=hde;subst f0 f1 f4;obtain ⟨q2,hq2,r2⟩:=hde2.2 0 _ rfl;obtain ⟨q3,hq3,r3⟩:=hde2.2 1 _ rfl;simp at hq2 hq3;subst hq2 hq3;refine ⟨⟨lx,ly,d,id⟩,⟨hx,hy,hd,by simpa [Lit.wf,IntKind.min,IntKind.max,IntKind.signed,IntKind.bits] using hwf⟩,rfl,λj u hu=>?_⟩
  match j,hu with
  | 0,hu=>simp [rwq] at hu; subst hu; exact ⟨_,rfl,rx⟩
  | 1,hu=>simp [rwq] at hu; subst hu; exact ⟨_,rfl,ry⟩
  | 2,hu=>simp [rwq] at hu; subst hu; exact ⟨_,rfl,r2⟩
  | 3,hu=>simp [rwq] at hu; subst hu; exact ⟨_,rfl,r3⟩
  | 4,hu=>simp [rwq] at hu; subst hu; exact ⟨_,rfl,.int _ _⟩
  | j+5,hu=>simp [rwq] at hu
end Orr
namespace Orr
open Go Go.Proofs Go.ChangeShapes Go.WideShapes Go.ChangeAt Go.RowKit Go.WideElems
variable {H:Type} {enc:TypeId×Value->H} {w:World}
theorem Q9e:∀ fuel cs x,DataW.trod enc Tryz.prog w 0 (λ_=>true) true fuel 3 cs=some x->(x.1.weights Tryz.prog 3).all (· <= reachBytes)=true->∃ z:Int,(-9223372036854775808<=z/\z<=9223372036854775807)/\Els w cs [LV.int .i64 z]:=by
 intro fuel cs x h _;obtain ⟨n,rfl,_,hwf⟩:=DataW.trod_int Tryz.underlying3 h;refine ⟨n,by simpa [Lit.wf,IntKind.min,IntKind.max,IntKind.signed,IntKind.bits] using hwf,rfl,λj u hu=>?_⟩
 match j,hu with
 |
  0,hu =>
  simp at hu; subst hu;exact ⟨_,rfl,.int _ _⟩
 | j+1,hu=>simp at hu
set_option maxRecDepth 20000 in
theorem Qt2 {f:FuncId} {fn:Func} {s:ChangeSpec} (hp:fn.params = #[34,42]) (hr:fn.resultTypes = #[4]) (hv:s.vars=[])
 (hs:∀ (H:Type) (d1 d2:DataW H),s.fn H [d1,d2]={ results:=[.lit (.bool true)],args:=[d1,d2] })
 (hlaid:laidOutB Tryz.prog=true) (hr22:Tryz.prog.readableRec 34=true) (hr3:Tryz.prog.readableRec 42=true) (hs22:34<Tryz.prog.types.size) (hs3:42<Tryz.prog.types.size)
 (law:∀ (zs:List RawPt) (cs:List Int),(∀ z∈zs,z.Ok)->(∀ z∈cs,-9223372036854775808≤z/\z≤9223372036854775807)->Ut Tryz.prog f [.one (.row (Qe6 zs)),.one (.row (idl cs))] [.one (.bool true)])
 {H:Type} {enc:TypeId×Value->H} {W:World} {base:Nat} {args:Array Value} {ds gs:List (DataW H)} {Td:List MemPlace} {fresh handsOn:Bool}
 (hval:∀ (j:Nat) t v,fn.params[j]? = some t->args[j]? = some v->Value.okWide Tryz.prog W .any base t v)
 (hW:DataW.Whole enc Tryz.prog fn.params.toList s.vars false W args.toList ds gs Td)
 (hz:(DataW.weightsEach Tryz.prog (fn.params.toList++s.plain.varTypes Tryz.prog) (ds++gs)).all (· <= reachBytes)=true) :
 Calls Tryz.prog f args W λe W'=>∃ v,e=.returned v/\s.post enc Tryz.prog fn false fresh handsOn false W args v W':=by
 have hW':=hW;obtain ⟨p,q,hA0,hV,rfl,hfz,hnd⟩:=hW;have hA:DataW.TrodAll enc Tryz.prog W 0 (λ_=>true) true fn.params.toList args.toList ds p:=hA0;rw [hv] at hV;obtain ⟨rfl,rfl⟩:=trodVars_none hV;have hlt:=hW'.lt;rw [hp] at hA hval hz;obtain ⟨v0,vs0,d0,ds0,p0,q0,hargs0,rfl,rfl,h0,r0⟩:=trodAll_cons hA;obtain ⟨v1,vs1,d1,ds1,p1,q1,rfl,rfl,rfl,h1,r1⟩:=trodAll_cons r0;obtain ⟨rfl,rfl,rfl⟩:=trodAll_nil r1;obtain rfl:args = #[v0,v1]:=by cases args; simp_all
 have hv1:=hval 1 42 v1 rfl rfl;obtain ⟨a1,len1,cap1,rfl⟩:=okWide_slice Tryz.underlying42 hv1;have hz1:(d1.weights Tryz.prog 42).all (· <= reachBytes)=true:=by
  rw [J9] at hz ⊢;intro k hk;exact hz k (DataW.weights_mem_each (j:=1) rfl rfl k hk)
 have h1':=h1;obtain ⟨fu1,h1'⟩:=h1';obtain ⟨u1,cs,e1,hok1,hlen1,hrep1⟩:=Qbb (sz:=1) (Ok:=λz:Int=>-9223372036854775808<=z/\z<=9223372036854775807) (rw_:=λ(z:Int)=>[LV.int .i64 z]) Tryz.underlying42 (by kernel_rfl) (by decide) (of_decide_eq_true (by kernel_rfl)) (λ_=>rfl) Q9e h1' hz1;have f1:Value.slice a1 len1 cap1=u1:=(List.cons.inj (show [Value.slice a1 len1 cap1]=[u1] from e1)).1;subst f1;have hrep1:LRep W (λ_=>False) (.slice a1 len1 cap1) (.row (idl cs)):=hrep1;have hv0:=hval 0 34 v0 rfl rfl;obtain ⟨a,len,cap,rfl⟩:=okWide_slice Tryz.underlying34 hv0;have hz0:(d0.weights Tryz.prog 34).all (· <= reachBytes)=true:=by
  rw [J9] at hz ⊢;intro k hk;exact hz k (DataW.weights_mem_each (j:=0) rfl rfl k hk)
 have h0':=h0;obtain ⟨fu,h0'⟩:=h0';obtain ⟨v,zs,e0,hok,hlen,hrep⟩:=Qbb (sz:=5) (Ok:=RawPt.Ok) (rw_:=rwq) Tryz.underlying34 (by kernel_rfl) (by decide) (of_decide_eq_true (by kernel_rfl)) (λ_=>rfl) Qx7 h0' hz0;have f0:Value.slice a len cap=v:=(List.cons.inj (show [Value.slice a len cap]=[v] from e0)).1;subst f0;have hrep:LRep W (λ_=>False) (.slice a len cap) (.row (Qe6 zs)):=hrep;have hcall:=(law zs cs hok hok1).2 (fr0 W) (λ_=>none) (λ_=>False) W [.slice a len cap,.slice a1 len1 cap1] (hs0 W) (.cons (show XRep W (λ_=>False) (λ_=>none) (.slice a len cap) (.row (Qe6 zs)) from hrep.x) (.cons (show XRep W (λ_=>False) (λ_=>none) (.slice a1 len1 cap1) (.row (idl cs)) from hrep1.x) .nil));refine hcall.mono λe W' ⟨v,u,Bo,E',M',he,⟨hu,hBo⟩,_,hm,har⟩=>?_
 subst hu;obtain rfl:v=.bool true:=by
  have h:LRep _ _ v (.bool true):=har;cases h;rfl
 refine ⟨_,he,?_⟩;refine ⟨[d0,d1],[],_,[],p0++(p1++[]),[],hW',?_,?_,?_,Ze5 hm _,λh=>by cases h⟩
 ·rw [hr,Zo,hs];exact trodAll_cons_mk (shut_bool Tryz.underlying4 true) trodAll_mk0
 ·rw [hp,Zo,hs];have hb:∀ p∈p0,p.block<W.heap.size:=λp hp=>hlt p (by simp [hp])
  have hb1:∀ p∈p1,p.block<W.heap.size:=λp hp=>hlt p (by simp [hp])
  exact trodAll_cons_mk (Trod_stays hlaid hr22 hs22 h0 (λp hp=>Q2s hm (hb p hp)) (λp hp=>by simpa using hb p hp)) (trodAll_cons_mk (Trod_stays hlaid hr3 hs3 h1 (λp hp=>Q2s hm (hb1 p hp)) (λp hp=>by simpa using hb1 p hp)) trodAll_mk0)
 ·rw [hv,Zo,hs];rfl
end Orr
