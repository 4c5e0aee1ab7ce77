/- R12 R13 R14 R15 R16 R17 R18 PairN PairQ SplitL PW1 R21 DetL H1 R22 HullG TurnL HullQ HullS H2 H3 R23 R24 -/
import Derived.Test.YtkkhemmhhedniaaGreatPart08
import Derived.Test.YtkkhemmhhedniaaGreatPart05
import Derived.Test.YtkkhemmhhedniaaGreatPart00
import Derived.Test.YtkkhemmhhedniaaGreatPart07
import Derived.Test.YtkkhemmhhedniaaGreatPart06
set_option linter.all false
namespace Orr
open Go Go.Proofs
set_option maxRecDepth 10000
def Cg (q:Rat) (a b:Pt):Bool:=if My (Hk a.c b.c) q≠0 then decide (0<My (Hk a.c b.c) q) else if My (Hq a.c b.c) q≠0 then decide (0<My (Hq a.c b.c) q) else decide (a.id<b.id)
theorem A0 {a b:Pt} {q:Rat} {c:List (List Int)} (ha:Rs a.c) (hb:Rs b.c) (hq:Qs 1000000 q):Uu Tryz.prog 17 [.agg (Dc a),.agg (Dc b),.agg (aq q c)] [.one (.bool (Cg q a b))]:=by
 have c1:=Ay (p:=Hk a.c b.c) (c:=c) (Ut (Qb3 ha hb).1 (by decide)) (Qc (Qb3 ha hb).2 (by decide)) hq;have c2:=Ay (p:=Hq a.c b.c) (c:=c) (Ut (Qb0 ha hb).1 (by decide)) (Qc (Qb0 ha hb).2 (by decide)) hq;by_cases h1:My (Hk a.c b.c) q≠0
 ·exact w tt Tryz.func17 rfl [.c [] (Qac ha hb),.c [] c1,.t (decide_eq_true h1)] rfl (by unfold Cg; rw [if_pos h1]) trivial
 by_cases h2:My (Hq a.c b.c) q≠0
 ·exact w tt Tryz.func17 rfl [.c [] (Qac ha hb),.c [] c1,.f (decide_eq_false h1),.c [] (Qj4 ha hb),.c [] c2,.t (decide_eq_true h2)] rfl (by unfold Cg; rw [if_neg h1,if_pos h2]) trivial
 ·exact w tt Tryz.func17 rfl [.c [] (Qac ha hb),.c [] c1,.f (decide_eq_false h1),.c [] (Qj4 ha hb),.c [] c2,.f (decide_eq_false h2)] rfl (by unfold Cg; rw [if_neg h1,if_neg h2]) trivial
theorem Qne {l:List Pt} {q:Rat} {cs:List (List Int)} (hl:∀ p∈l,Rs p.c) (hn:l.length≤1000000) (hq:Qs 1000000 q):Uu Tryz.prog 291 [.one (.row (Fc l)),.agg (aq q cs)] [.one (.row (Fc (Fy (Cg q) l)))]:=by
 have hcl:=Hf l;obtain ⟨lt,hlt0⟩:=nmE (Cg q);rw [<-hlt0];refine Gs Tryz.func291 rfl ?_;refine go tt [.o 5 57 7] rfl trivial ?_;refine lp (S:=Nat) 2 (λL1 i=>(10,.v (.one (.int .i64 (i:Int))))::(5,.v (.one (.orow 1 7 none)))::L1) (λi=>[.blk 37 (aq q cs),.row false 57 7 (Fc (Fy lt (l.take i)))]) (λi=>l.length-i) (λi=>i<=l.length) 0 (Qh _) rfl (λ_ _=>rfl) rfl λi hi=>?_
 by_cases hlt:i<l.length
 ·obtain ⟨c,hc⟩:=gxE (l:=l) (i:=i) hlt;have hst:Fy lt (l.take (i+1))=P7 lt (Fy lt (l.take i)) c:=Ei hc;have hcp:=hl c (Qa hc);obtain ⟨O,hO⟩:=nmE (Fy lt (l.take i));have hOl:O.length=i:=by rw [hO,Re,Qp]; omega
  have hOm:∀ x∈O,Rs x.c:=λx hx=>by rw [hO,S8] at hx; exact hl x (Qn hx)
  have hrl:=Hf O;rw [<-hO] at hst ⊢;refine go tt [.t (decide_eq_true (by omega))] rfl trivial ?_;refine lp (S:=Nat) 2 (λL1 k=>(7,.v (.one (.int .i64 (k:Int))))::L1) (λ_=>[.blk 37 (aq q cs),.row false 57 7 (Fc O)]) id (λk=>k<=O.length/\Tp lt O c k=Tp lt O c O.length) (Fc O).length ⟨by omega,by rw [hrl]⟩ rfl (λ_ _=>rfl) rfl λk ⟨hk,hp⟩=>?_
  have h7:=Qe2 O;have h7z:∀ y∈[Dc c],y.length=7:=λy hy=>by rw [Qk.1 hy]; rfl
  cases k with
  |
   zero =>
   have hp:Tp lt O c O.length=0:=by rw [<-hp]; rfl
   refine go tt [.g 17 false (by simp),.f rfl,.i 0,.x (Fb hc),.lo,.i 0,.s (sz:=7) (λy hy=>h7 y (Qn hy)),.s (sz:=7) (λy hy=>(Qu.1 hy).elim (h7z y) λhy=>h7 y (Qn hy))] rfl (by simp [Us]; omega) ?_;exact rd (i+1) (by omega) hlt (by rw [hst,<-Qeg hp]; rfl)
  |
   succ k =>
   obtain ⟨x,hx⟩:=gxE (l:=O) (i:=k) (by omega);have cb:=A0 (c:=cs) hcp (hOm x (Qa hx)) hq;rw [<-hlt0] at cb;by_cases hlc:lt c x=true
   ·refine go tt [.g 17 true (by simp),.x (Fb hc),.r 24 (eI (b:=(k:Int)) (by simp)),.i k,.x (Fb hx),.c [] cb,.t hlc,.r 31 (eI (b:=(k:Int)) (by simp))] rfl (by simp [Us]; omega) ?_;exact rd k (by simp) ⟨by omega,by rw [<-hp,Qb1 hx hlc]⟩ rfl
   ·have hlc:lt c x=false:=by simpa using hlc
    have hp:Tp lt O c O.length=k+1:=by rw [<-hp,Ii hx hlc]
    refine go tt [.g 17 true (by simp),.x (Fb hc),.r 24 (eI (b:=(k:Int)) (by simp)),.i k,.x (Fb hx),.c [] cb,.f hlc,.i (k+1),.x (Fb hc),.lo,.i (k+1),.s (sz:=7) (λy hy=>h7 y (Q9 (Qn hy))),.s (sz:=7) (λy hy=>(Qu.1 hy).elim (h7z y) λhy=>h7 y (Q9 (Qn hy)))] rfl (by simp [Us]; omega) ?_;exact rd (i+1) (by omega) hlt (by rw [hst,<-Qeg hp]; rfl)
 ·obtain rfl:i=l.length:=by omega
  rw [Qy];exact en tt [.f (decide_eq_false (by omega))] rfl rfl trivial
def rct (c:Ct):List LV:=[.int .i64 c.kind,.int .i64 c.i0,.int .i64 c.i1,.int .i64 c.i2,.int .i64 c.i3,rp (zp c.p),.int .i64 c.want,.row [],.bool false]
def Gm (l:List Ct):List (List LV):=l.map rct
theorem M7 (l:List Ct):(Gm l).length=l.length:=by simp [Gm]
theorem Qh1 (l:List Ct):∀ c∈Gm l,c.length=9:=λc hc=>by obtain ⟨x,_,rfl⟩:=Zn.1 hc; rfl
theorem Mv {l:List Ct} {i:Nat} {c:Ct} (h:l[i]? = some c):(Gm l)[i]? = some (rct c):=Gt h
theorem Qee {lt:Ct->Ct->Bool} {O:List Ct} {c:Ct} {k:Nat} (hp:Tp lt O c O.length=k):(Gm O).take k++([rct c]++((Gm O).drop k).take ((Gm O).length-k))=Gm (P7 lt O c):=Qt1 hp
theorem Q0n {k i0 i1 i2 i3 l j0 j1 j2 j3:Int}:Uu Tryz.prog 322 [.agg [.int .i64 k,.int .i64 i0,.int .i64 i1,.int .i64 i2,.int .i64 i3],.agg [.int .i64 l,.int .i64 j0,.int .i64 j1,.int .i64 j2,.int .i64 j3]] [.one (.bool (Rm [k,i0,i1,i2,i3] [l,j0,j1,j2,j3]))]:=by
 by_cases hk:k=l
 ·subst hk;rw [show Rm [k,i0,i1,i2,i3] [k,j0,j1,j2,j3]=Rm [i0,i1,i2,i3] [j0,j1,j2,j3] from by simp [Rm]];refine Gs Tryz.func322 rfl ?_;refine go tt [.f (by simp)] rfl trivial ?_;refine lp (S:=Nat) 2 (λL1 i=>(5,.v (.one (.int .i64 (i:Int))))::L1) (λ_=>[.blk 88 [.int .i64 k,.int .i64 i0,.int .i64 i1,.int .i64 i2,.int .i64 i3],.blk 88 [.int .i64 k,.int .i64 j0,.int .i64 j1,.int .i64 j2,.int .i64 j3]]) (λi=>4-i) (λi=>i<=4/\Rm ([i0,i1,i2,i3].drop i) ([j0,j1,j2,j3].drop i)=Rm [i0,i1,i2,i3] [j0,j1,j2,j3]) 0 ⟨by omega,rfl⟩ rfl (λ_ _=>rfl) rfl λi ⟨hi,he⟩=>?_
  rw [<-he];rcases (show i=0\/i=1\/i=2\/i=3\/i=4 by omega) with rfl | rfl | rfl | rfl | rfl
  ·by_cases h:i0=j0
   ·exact go tt [.t rfl,.i 0,.i 0,.f (by simpa using h)] rfl (by simp [Us]) (rd 1 (by omega) ⟨by omega,by simp [Rm,h]⟩ rfl)
   ·exact en tt [.t rfl,.i 0,.i 0,.t (by simpa using h),.i 0,.i 0] rfl (by simp [Rm,h]) trivial
  ·by_cases h:i1=j1
   ·exact go tt [.t rfl,.i 1,.i 1,.f (by simpa using h)] rfl (by simp [Us]) (rd 2 (by omega) ⟨by omega,by simp [Rm,h]⟩ rfl)
   ·exact en tt [.t rfl,.i 1,.i 1,.t (by simpa using h),.i 1,.i 1] rfl (by simp [Rm,h]) trivial
  ·by_cases h:i2=j2
   ·exact go tt [.t rfl,.i 2,.i 2,.f (by simpa using h)] rfl (by simp [Us]) (rd 3 (by omega) ⟨by omega,by simp [Rm,h]⟩ rfl)
   ·exact en tt [.t rfl,.i 2,.i 2,.t (by simpa using h),.i 2,.i 2] rfl (by simp [Rm,h]) trivial
  ·by_cases h:i3=j3
   ·exact go tt [.t rfl,.i 3,.i 3,.f (by simpa using h)] rfl (by simp [Us]) (rd 4 (by omega) ⟨by omega,by simp [Rm,h]⟩ rfl)
   ·exact en tt [.t rfl,.i 3,.i 3,.t (by simpa using h),.i 3,.i 3] rfl (by simp [Rm,h]) trivial
  ·exact en tt [.f rfl] rfl (by simp [Rm]) trivial
 ·exact w tt Tryz.func322 rfl [.t (by simpa using hk)] rfl (by simp [Rm,hk]) trivial
theorem Zem {l:List Ct} (hn:l.length<=1000000):Uu Tryz.prog 293 [.one (.row (Gm l))] [.one (.row (Gm (Fy Ti l)))]:=by
 have hcl:=M7 l;refine Gs Tryz.func293 rfl ?_;refine go tt [.o 3 272 9] rfl trivial ?_;refine lp (S:=Nat) 1 (λL1 i=>(8,.v (.one (.int .i64 (i:Int))))::(3,.v (.one (.orow 0 9 none)))::L1) (λi=>[.row false 272 9 (Gm (Fy Ti (l.take i)))]) (λi=>l.length-i) (λi=>i<=l.length) 0 (Qh _) rfl (λ_ _=>rfl) rfl λi hi=>?_
 by_cases hlt:i<l.length
 ·obtain ⟨c,hc⟩:=gxE (l:=l) (i:=i) hlt;have hst:Fy Ti (l.take (i+1))=P7 Ti (Fy Ti (l.take i)) c:=Ei hc;obtain ⟨O,hO⟩:=nmE (Fy Ti (l.take i));have hOl:O.length=i:=by rw [hO,Re,Qp]; omega
  have hrl:=M7 O;rw [<-hO] at hst ⊢;refine go tt [.t (decide_eq_true (by omega))] rfl trivial ?_;refine lp (S:=Nat) 1 (λL1 k=>(5,.v (.one (.int .i64 (k:Int))))::L1) (λ_=>[.row false 272 9 (Gm O)]) id (λk=>k<=O.length/\Tp Ti O c k=Tp Ti O c O.length) (Gm O).length ⟨by omega,by rw [hrl]⟩ rfl (λ_ _=>rfl) rfl λk ⟨hk,hp⟩=>?_
  have h7:=Qh1 O;have h7z:∀ y∈[rct c],y.length=9:=λy hy=>by rw [Qk.1 hy]; rfl
  cases k with
  |
   zero =>
   have hp:Tp Ti O c O.length=0:=by rw [<-hp]; rfl
   refine go tt [.g 15 false (by simp),.f rfl,.i 0,.x (Mv hc),.lo,.i 0,.s (sz:=9) (λy hy=>h7 y (Qn hy)),.s (sz:=9) (λy hy=>(Qu.1 hy).elim (h7z y) λhy=>h7 y (Qn hy))] rfl (by simp [Us]; omega) ?_;exact rd (i+1) (by omega) hlt (by rw [hst,<-Qee hp]; rfl)
  |
   succ k =>
   obtain ⟨x,hx⟩:=gxE (l:=O) (i:=k) (by omega);have cb:=Q0n (k:=c.kind) (i0:=c.i0) (i1:=c.i1) (i2:=c.i2) (i3:=c.i3) (l:=x.kind) (j0:=x.i0) (j1:=x.i1) (j2:=x.i2) (j3:=x.i3);by_cases hlc:Ti c x=true
   ·refine go tt [.g 15 true (by simp),.x (Mv hc),.r 23 (eI (b:=(k:Int)) (by simp)),.i k,.x (Mv hx),.c [] cb,.t hlc,.r 30 (eI (b:=(k:Int)) (by simp))] rfl (by simp [Us]; omega) ?_;exact rd k (by simp) ⟨by omega,by rw [<-hp,Qb1 hx hlc]⟩ rfl
   ·have hlc:Ti c x=false:=by simpa using hlc
    have hp:Tp Ti O c O.length=k+1:=by rw [<-hp,Ii hx hlc]
    refine go tt [.g 15 true (by simp),.x (Mv hc),.r 23 (eI (b:=(k:Int)) (by simp)),.i k,.x (Mv hx),.c [] cb,.f hlc,.i (k+1),.x (Mv hc),.lo,.i (k+1),.s (sz:=9) (λy hy=>h7 y (Q9 (Qn hy))),.s (sz:=9) (λy hy=>(Qu.1 hy).elim (h7z y) λhy=>h7 y (Q9 (Qn hy)))] rfl (by simp [Us]; omega) ?_;exact rd (i+1) (by omega) hlt (by rw [hst,<-Qee hp]; rfl)
 ·obtain rfl:i=l.length:=by omega
  rw [Qy];exact en tt [.f (decide_eq_false (by omega))] rfl rfl trivial
abbrev sgq (q:Rat):List Int->Int:=λp=>G8 p q
abbrev rzc:List LV:=[.int .i64 0,.int .i64 0,.int .i64 0,.int .i64 0,.int .i64 0,.nils,.int .i64 0,.nils,.bool false]
theorem Q70 {a b:Pt} {q:Rat} {c:List (List Int)} (ha:Rs a.c) (hb:Rs b.c) (hq:Qs 1000000 q):Uu Tryz.prog 321 [.one (.int .i64 1),.agg (aq q c),.one (.row [Dc a,Dc b])] [.agg (rct (Nw (sgq q) a b)),.one (.bool true)]:=by
 have hfl:=fzl (Hk a.c b.c);have x0:[Dc a,Dc b][0]? = some (Dc a):=rfl;have x1:[Dc a,Dc b][1]? = some (Dc b):=rfl;refine Gs Tryz.func321 rfl ?_;refine go tt [.g 14 false rfl,.g 18 false rfl,.x (l:=[[.int .i64 0],[.int .i64 2],[.int .i64 2],[.int .i64 3],[.int .i64 4],[.int .i64 4]]) (i:=1) (xs:=[.int .i64 2]) rfl,.f rfl] rfl trivial ?_;refine lp (S:=Nat) 3 (λL1 i=>(33,.v (.one (.int .i64 (i:Int))))::L1) (λi=>[.blk 37 (aq q c),.blk 272 rzc,.blk 272 [.int .i64 1,.int .i64 (if 0<i then a.id else 0),.int .i64 (if 1<i then b.id else 0),.int .i64 0,.int .i64 0,.nils,.int .i64 0,.nils,.bool false]]) (λi=>2-i) (λi=>i<=2) 0 (by decide) rfl (λ_ _=>rfl) rfl λi hi=>?_
 rcases (show i=0\/i=1\/i=2 by omega) with rfl | rfl | rfl
 ·exact go tt [.t rfl,.x x0,.i 0] rfl (by simp [Us]) (rd 1 (by omega) (by omega) rfl)
 ·exact go tt [.t rfl,.x x1,.i 1] rfl (by simp [Us]) (rd 2 (by omega) (by omega) rfl)
 by_cases h0:(Hk a.c b.c).length=0
 ·have e:Dm a b=Hq a.c b.c:=if_neg (by omega);exact en tt [.f rfl,.t rfl,.x x0,.x x1,.c [] (Qac ha hb),.t (decide_eq_true (by omega)),.x x0,.x x1,.c [] (Qj4 ha hb),.c [] (Ay (p:=Hq a.c b.c) (c:=c) (Ut (Qb0 ha hb).1 (by decide)) (Nat.le_trans (Qb0 ha hb).2 (by decide)) hq)] rfl (by unfold Nw; rw [e]; rfl) trivial
 ·have e:Dm a b=Hk a.c b.c:=if_pos (by omega);exact en tt [.f rfl,.t rfl,.x x0,.x x1,.c [] (Qac ha hb),.f (decide_eq_false (by omega)),.c [] (Ay (p:=Hk a.c b.c) (c:=c) (Ut (Qb3 ha hb).1 (by decide)) (Nat.le_trans (Qb3 ha hb).2 (by decide)) hq)] rfl (by unfold Nw; rw [e]; rfl) trivial
theorem Zeo {a b:Pt} {q:Rat} {c:List (List Int)} (ha:Rs a.c) (hb:Rs b.c) (hq:Qs 1000000 q):Uu Tryz.prog 292 [.one (.int .i64 1),.agg (aq q c),.one (.row [Dc a,Dc b])] [.agg (rct (Nw (sgq q) a b))] :=
 w tt Tryz.func292 rfl [.c [] (Q70 ha hb hq)] rfl rfl trivial
def Qov (q:Rat) (l:List Pt):List Ct:=Fy Ti (Sj (sgq q) (Fy (Cg q) l))
theorem Q7z {l:List Ct} (hn:l.length<=1000000):Uu Tryz.prog 127 [.one (.row []),.one (.row (Gm l))] [.one (.row (Gm l))]:=by
 have hcl:=M7 l;refine Gs Tryz.func127 rfl ?_;refine go tt [] rfl trivial ?_;refine lp (S:=Nat) 0 (λL1 i=>(9,.v (.one (.int .i64 (i:Int))))::L1) (λ_=>[]) (λi=>l.length-i) (λi=>i<=l.length) 0 (Qh _) rfl (λ_ _=>rfl) rfl λi hi=>?_
 by_cases hlt:i<l.length
 ·refine go tt [.t (decide_eq_true (by omega))] rfl trivial ?_;refine lp (S:=Nat) 0 (λL1 k=>(14,.v (.one (.int .i64 (k:Int))))::L1) (λ_=>[]) (λk=>0-k) (λk=>k=0) 0 rfl rfl (λ_ _=>rfl) rfl λk hk=>?_
  subst hk;exact go tt [.f rfl] rfl (by simp [Us]; omega) (rd (i+1) (by omega) hlt rfl)
 ·exact en tt [.f (decide_eq_false (by omega))] rfl rfl trivial
theorem Zfp (l:List Nat) (n:Nat):(lm l).take (min l.length n)=lm (l.take n):=by
 rw [lm,lm,<-Jr];rcases Nat.le_total l.length n with h | h
 ·rw [Zt h,Qy,Ql h]
 ·rw [Kb h]
theorem Zjr {l:List Nat} {n:Nat} (hn:n<=1000):Uu Tryz.prog 252 [.one (.row (lm l)),.one (.int .i64 (n:Int))] [.one (.row (lm (l.take n)))]:=by
 rw [<-Zfp];have hll:(lm l).length=l.length:=by simp [lm]
 exact w tt Tryz.func252 rfl [.r 9 (eI (b:=((min l.length n:Nat):Int)) (by omega)),.i (min l.length n)] rfl rfl (by simp [Us,hll]; omega)
theorem Q7n {z:RawInt}:Uu Tryz.prog 197 [.agg (Qg0 z),.one (.int .i64 1)] [.agg (Qg0 z.cut)] :=
 w tt Tryz.func197 rfl [.c [] (Zjr (l:=z.l) (n:=1) (by decide))] rfl rfl trivial
def Qcr (l:List RawInt):List (List LV):=l.map Qg0
theorem Qb5 (l:List RawInt):(Qcr l).length=l.length:=by simp [Qcr]
theorem Q0f {l:List RawInt}:Uu Tryz.prog 196 [.one (.row (Qcr l)),.one (.int .i64 3),.one (.int .i64 1)] [.one (.row (Qcr ((l.take 3).map RawInt.cut)))]:=by
 have hll:=Qb5 l;refine Gs Tryz.func196 rfl (ln 0 rfl rfl λhzl=>?_);rw [hll] at hzl;refine go tt [.o 7 51 2] rfl trivial ?_;refine lp (S:=Nat) 1 (λL1 i=>(8,.v (.one (.int .i64 (i:Int))))::(7,.v (.one (.orow 0 2 none)))::L1) (λi=>[.row false 51 2 (Qcr ((l.take i).map RawInt.cut))]) (λi=>3-i) (λi=>i<=3/\i<=l.length) 0 ⟨by decide,Qh _⟩ rfl (λ_ _=>rfl) rfl λi ⟨hi,hi2⟩=>?_
 have hil:(Qcr ((l.take i).map RawInt.cut)).length=i:=by rw [Qb5,Q5,Qp]; omega
 by_cases h1:i<l.length
 ·by_cases h2:i<3
  ·obtain ⟨z,hz⟩:=gxE (l:=l) (i:=i) h1;have hm:∀ y∈[Qg0 z.cut],y.length=2:=λy hy=>by rw [Qk.1 hy]; rfl
   refine go tt [.g 13 true (decide_eq_true (by omega)),.t (decide_eq_true (by omega)),.x (Gt (f:=Qg0) hz),.c [] Q7n,.s (sz:=2) hm] rfl (by simp [Us,hil,-List.map_take]; omega) ?_;exact rd (i+1) (by omega) ⟨h2,h1⟩ (by rw [Zp,hz]; simp [Qcr]; rfl)
  ·have e:i=3:=by omega
   have e2:l.take 3=l.take i:=by rw [e]
   rw [e2];exact en tt [.g 13 true (decide_eq_true (by omega)),.f (decide_eq_false (by omega))] rfl rfl trivial
 ·have e:l.take i=l.take 3:=by rw [Ql (by omega),Ql (by omega)]
  rw [e];exact en tt [.g 13 false (decide_eq_false (by omega)),.f rfl] rfl rfl trivial
abbrev rcw (z:RawPt):List LV:=[.row (Qcr z.x),.row (Qcr z.y),.bool z.d.b,.row (lm z.d.l)]
def RawPt.cut (z:RawPt):RawPt:=⟨(z.x.take 3).map RawInt.cut,(z.y.take 3).map RawInt.cut,z.d.cut,z.id⟩
theorem Zml {z:RawPt}:Uu Tryz.prog 124 [.agg (rcw z),.one (.int .i64 3),.one (.int .i64 1)] [.agg (rcw z.cut)] :=
 w tt Tryz.func124 rfl [.c [] (Q0f (l:=z.x)),.c [] (Q0f (l:=z.y)),.c [] (Q7n (z:=z.d))] rfl rfl trivial
theorem Qdv {z:RawInt} (hz:z.Ok) {most:Int} (hm:0<=most/\most<=999):Uu Tryz.prog 198 [.agg (Qg0 z),.one (.int .i64 most)] [.agg (Gv (Td most z))]:=by
 obtain ⟨b,l⟩:=z;have hb:=Qc8 hm.1 ⟨b,l⟩;have hs:U6 (Td most ⟨b,l⟩)<=100000000:=Qc (T0.2 (show (Td most ⟨b,l⟩).natAbs<2^10 by omega)) (by decide);cases l with
 | nil=>exact w tt Tryz.func198 rfl [.t rfl] rfl (by simp [Td,Eb]) trivial
 |
  cons u l =>
  have hu:=hz.u u (Qx ..);have co:=C3 (n:=Td most ⟨b,u::l⟩) (by omega);have ct:=Q3z hs;have hr:Int.tmod (u:Int) (most+1)=(u:Int) % (most+1):=Y4 (by omega);have h1:=J4 (u:Int) (b:=most+1) (by omega);have h2:=Jb (u:Int) (b:=most+1) (by omega);cases b with
  |
   true =>
   rw [show Td most ⟨true,u::l⟩=-((u:Int) % (most+1)) from rfl] at co ct ⊢;exact w tt Tryz.func198 rfl [.f (decide_eq_false (by simp [lm]; try omega)),.x (l:=lm (u::l)) (i:=0) (xs:=[.int .u32 (u:Int)]) rfl,.r 18 (eI hr),.t rfl,.c [] co,.c [] ct] rfl rfl (by simp [Us]; omega)
  |
   false =>
   rw [show Td most ⟨false,u::l⟩=(u:Int) % (most+1) from rfl] at co ct ⊢;exact w tt Tryz.func198 rfl [.f (decide_eq_false (by simp [lm]; try omega)),.x (l:=lm (u::l)) (i:=0) (xs:=[.int .u32 (u:Int)]) rfl,.r 18 (eI hr),.f rfl,.c [] co,.c [] ct] rfl rfl (by simp [Us]; omega)
theorem oz2 {P:Program} [Mo P] {n:Nat} {Q:Exit->Sg->List OB->Prop} {L L':Sg} {B B':List OB} (d off T sz:Nat) {it:List It} (hs:Tj it=true) (h:Za1 (P:=P) d L B [.oc d off T sz]=some (L',B',[],[])) (k:AK P n Q it L' B'):AK P n Q it L B:=AK.sub (Qyj h EqOk.nil) hs k
theorem pz {P:Program} [Mo P] {n:Nat} {Q:Exit->Sg->List OB->Prop} {L L':Sg} {B B':List OB} (i:Nat) {it:List It} (hs:Tj it=true) (h:Q5d [i] L B=some (L',B')) (k:AK P n Q it L' B'):AK P n Q it L B:=AK.sub (Qey h) hs k
def Ml (l:List Int):List (List LV):=l.map Gv
theorem Qgq (l:List Int):(Ml l).length=l.length:=by simp [Ml]
theorem Qgo {most:Int} {l:List RawInt} {i:Nat} {a:RawInt} (hi:i<3) (h:l[i]? = some a):Ml (Hg most (l.take (i+1)))=Ml (Hg most (l.take i))++[Gv (Td most a)]:=by
 rw [Qqx hi h]; simp [Ml]
theorem Qqw {most:Int} {l:List RawInt} {i:Nat} (hi:i<=3) (h:i<=l.length):(Ml (Hg most (l.take i))).length=i:=by
 rw [Qgq]; unfold Hg; rw [List.length_map,List.length_take,List.length_take]; omega
theorem Q6u {z:RawPt} (hz:z.Ok) {most:Int} (hm:0<=most/\most<=999):Uu Tryz.prog 125 [.agg (rcw z),.one (.int .i64 most)] [.agg (cl4 (Qej most z.x z.y z.d))]:=by
 have hxl:=Qb5 z.x;have hyl:=Qb5 z.y;obtain ⟨D,hD⟩:=nmE (Td 3 z.d);have cd:=Qdv hz.d (most:=3) (by decide);have hx0:∀ {i:Nat},z.x.length<=i\/3<=i->Hg most (z.x.take i)=Hg most z.x:=Qhs most;have hy0:∀ {i:Nat},z.y.length<=i\/3<=i->Hg most (z.y.take i)=Hg most z.y:=Qhs most;unfold Qej;rw [<-hD] at cd ⊢;refine Gs Tryz.func125 rfl ?_;refine go tt [.c [] cd] rfl trivial ?_;refine oz2 5 0 51 2 rfl rfl ?_;refine lp (S:=Nat) 4 (λL1 i=>(6,.v (.one (.int .i64 (i:Int))))::L1) (λi=>[.blk 53 (rcw z),.blk 53 [.nils,.nils,.bool false,.nils],.blk 53 [.orow 3 2 none,.nils,sg D,mg D],.row false 51 2 (Ml (Hg most (z.x.take i)))]) (λi=>3-i) (λi=>i<=3/\i<=z.x.length) 0 ⟨by decide,Qh _⟩ rfl (λ_ _=>rfl) rfl λi ⟨hi,hi2⟩=>?_
 have hll:=Qqw (most:=most) hi hi2;by_cases hr:i<z.x.length/\i<3
 ·obtain ⟨a,ha⟩:=gxE (l:=z.x) (i:=i) hr.1;have hs:∀ y∈[Gv (Td most a)],y.length=2:=λy hy=>by rw [Qk.1 hy]; rfl
  refine go tt [.g 17 true (decide_eq_true (by omega)),.t (decide_eq_true (by omega)),.x (Gt (f:=Qg0) ha),.c [] (Qdv (hz.x a (Qa ha)) hm),.s (sz:=2) hs] rfl (by simp [Us,hll]; omega) ?_;exact rd (i+1) (by omega) ⟨hr.2,hr.1⟩ (by rw [Qgo hr.2 ha]; rfl)
 have hg1:decide ((i:Int)<((Qcr z.x).length:Int))=true->i<z.x.length:=λh=>by have:=of_decide_eq_true h; omega
 rw [hx0 (by omega)];clear hll;have hfin:∀ {j:Nat},j<=3/\j<=z.y.length->¬(j<z.y.length/\j<3)->Ml (Hg most (z.y.take j))=Ml (Hg most z.y):=λh1 h2=>by rw [hy0 (by omega)]
 by_cases hxx:i<z.x.length
 ·refine go tt [.g 17 true (decide_eq_true (by omega)),.f (decide_eq_false (by omega))] rfl trivial ?_;refine pz 3 rfl rfl ?_;refine oz2 5 1 51 2 rfl rfl ?_;refine lp (S:=Nat) 5 (λL1 j=>(7,.v (.one (.int .i64 (j:Int))))::L1) (λj=>[.blk 53 (rcw z),.blk 53 [.nils,.nils,.bool false,.nils],.blk 53 [.row (Ml (Hg most z.x)),.orow 4 2 none,sg D,mg D],.gone,.row false 51 2 (Ml (Hg most (z.y.take j)))]) (λj=>3-j) (λj=>j<=3/\j<=z.y.length) 0 ⟨by decide,Qh _⟩ rfl (λ_ _=>rfl) rfl λj ⟨hj,hj2⟩=>?_
  have hll:=Qqw (most:=most) hj hj2;by_cases hr:j<z.y.length/\j<3
  ·obtain ⟨a,ha⟩:=gxE (l:=z.y) (i:=j) hr.1;have hs:∀ y∈[Gv (Td most a)],y.length=2:=λy hy=>by rw [Qk.1 hy]; rfl
   refine go tt [.g 40 true (decide_eq_true (by omega)),.t (decide_eq_true (by omega)),.x (Gt (f:=Qg0) ha),.c [] (Qdv (hz.y a (Qa ha)) hm),.s (sz:=2) hs] rfl (by simp [Us,hll]; omega) ?_;exact rd (j+1) (by omega) ⟨hr.2,hr.1⟩ (by rw [Qgo hr.2 ha]; rfl)
  rw [hfin ⟨hj,hj2⟩ hr];by_cases hyy:j<z.y.length
  ·exact ed tt [4] [] [.g 40 true (decide_eq_true (by omega)),.f (decide_eq_false (by omega))] rfl trivial
  ·exact ed tt [4] [] [.g 40 false (decide_eq_false (by omega)),.f rfl] rfl trivial
 ·refine go tt [.g 17 false (decide_eq_false (by omega)),.f rfl] rfl trivial ?_;refine pz 3 rfl rfl ?_;refine oz2 5 1 51 2 rfl rfl ?_;refine lp (S:=Nat) 5 (λL1 j=>(7,.v (.one (.int .i64 (j:Int))))::L1) (λj=>[.blk 53 (rcw z),.blk 53 [.nils,.nils,.bool false,.nils],.blk 53 [.row (Ml (Hg most z.x)),.orow 4 2 none,sg D,mg D],.gone,.row false 51 2 (Ml (Hg most (z.y.take j)))]) (λj=>3-j) (λj=>j<=3/\j<=z.y.length) 0 ⟨by decide,Qh _⟩ rfl (λ_ _=>rfl) rfl λj ⟨hj,hj2⟩=>?_
  have hll:=Qqw (most:=most) hj hj2;by_cases hr:j<z.y.length/\j<3
  ·obtain ⟨a,ha⟩:=gxE (l:=z.y) (i:=j) hr.1;have hs:∀ y∈[Gv (Td most a)],y.length=2:=λy hy=>by rw [Qk.1 hy]; rfl
   refine go tt [.g 40 true (decide_eq_true (by omega)),.t (decide_eq_true (by omega)),.x (Gt (f:=Qg0) ha),.c [] (Qdv (hz.y a (Qa ha)) hm),.s (sz:=2) hs] rfl (by simp [Us,hll]; omega) ?_;exact rd (j+1) (by omega) ⟨hr.2,hr.1⟩ (by rw [Qgo hr.2 ha]; rfl)
  rw [hfin ⟨hj,hj2⟩ hr];by_cases hyy:j<z.y.length
  ·exact ed tt [4] [] [.g 40 true (decide_eq_true (by omega)),.f (decide_eq_false (by omega))] rfl trivial
  ·exact ed tt [4] [] [.g 40 false (decide_eq_false (by omega)),.f rfl] rfl trivial
theorem Qz6 {n d:Int} (hn:-9223372036854775808<=n/\n<=9223372036854775807) (hd:-9223372036854775808<=d/\d<=9223372036854775807):Uu Tryz.prog 52 [.one (.int .i64 n),.one (.int .i64 d)] [.agg (fr (G6 (Aq n 61-30) (1+Aq d 6)))]:=by
 have h1:Aq n 61=n % 61:=rfl;have h2:Aq d 6=d % 6:=rfl;exact w tt Tryz.func52 rfl [.c [] (O9 (v:=n) (n:=61) hn (by decide)),.c [] (O9 (v:=d) (n:=6) hd (by decide)),.c [] (Zmr (n:=Aq n 61-30) (d:=1+Aq d 6) (by omega) (by omega))] rfl rfl (by simp [Us]; omega)
def rwq (z:RawPt):List LV:=rcw z++[.int .i64 z.id]
def Qe3 (l:List RawPt):List (List LV):=l.map rwq
theorem Q5k (l:List RawPt):(Qe3 l).length=l.length:=by simp [Qe3]
theorem Qrv {l:List RawPt} {i:Nat} {z:RawPt} (h:l[i]? = some z):(Qe3 l)[i]? = some (rwq z):=Gt h
theorem Zjy {most:Int} (hm:0<=most/\most<=999) (z:RawPt):Cs 100000 16 (Qbx most z).c:=(Qnl hm z.x z.y z.d).mono (by decide) (by decide)
def Io (n:Nat) (most:Int) (zs:List RawPt) (i:Nat):List Pt:=Qgx n most (zs.take i)
theorem Za3 (n:Nat) (most:Int) (zs:List RawPt) (i:Nat):(Io n most zs i).length<=n:=Qap _ _ (Qh _)
theorem Zgd {n:Nat} {most:Int} {zs:List RawPt} {i:Nat} {z:RawPt} (h:zs[i]? = some z) (hl:(Io n most zs i).length<n) (ha:(Io n most zs i).any (λx=>decide (x.id=(Qbx most z).id))=true):Io n most zs (i+1)=Io n most zs i:=by
 unfold Io Qgx at *;rw [Zp,h,Vq,J5];exact Oc _ _ _ hl ha
theorem Za4 {n:Nat} {most:Int} {zs:List RawPt} {i:Nat} {z:RawPt} (h:zs[i]? = some z) (hl:(Io n most zs i).length<n) (ha:(Io n most zs i).any (λx=>decide (x.id=(Qbx most z).id))=false):Io n most zs (i+1)=Io n most zs i++[Qbx most z]:=by
 unfold Io Qgx at *;rw [Zp,h,Vq,J5];exact Ai _ _ _ hl ha
theorem Za2 {n:Nat} {most:Int} {zs:List RawPt} {i:Nat} (h:¬(i<zs.length/\(Io n most zs i).length<n)):Io n most zs i=Qgx n most zs:=by
 by_cases h1:i<zs.length
 ·have hl:n<=(Io n most zs i).length:=Vf λh2=>h ⟨h1,h2⟩
  unfold Io Qgx at *
  conv=>rhs; rw [<-Zb i zs,J5]
  exact (Qgd _ _ _ hl).symm
 ·unfold Io; rw [List.take_of_length_le (by omega)]
theorem Q6b {f:Pt->Bool} {l:List Pt} {k:Nat} {x:Pt} (h:l[k]? = some x):(l.take (k+1)).any f=((l.take k).any f || f x):=by
 rw [Zp,h]; simp
theorem Q3y {zs:List RawPt} (hz:∀ z∈zs,z.Ok):Gn Tryz.prog 63 [.one (.row (Qe3 zs)),.one (.int .i64 4)] [] [.one (.orow 0 5 none),.one (.orow 1 7 none)] [.row false 135 5 (Ux (Qgx 4 20 zs)),.row false 57 7 (Fc ((Qgx 4 20 zs).map Pt.nrm))]:=by
 have hzl:=Q5k zs;refine Gs Tryz.func63 rfl (ln 0 rfl rfl λhz63=>?_);rw [hzl] at hz63;refine go tt [.o 6 135 5,.o 7 57 7] rfl trivial ?_;refine lp (S:=Nat) 2 (λL1 i=>(8,.v (.one (.int .i64 (i:Int))))::(6,.v (.one (.orow 0 5 none)))::(7,.v (.one (.orow 1 7 none)))::L1) (λi=>[.row false 135 5 (Ux (Io 4 20 zs i)),.row false 57 7 (Fc ((Io 4 20 zs i).map Pt.nrm))]) (λi=>zs.length-i) (λi=>i<=zs.length) 0 (Qh _) rfl (λ_ _=>rfl) rfl λi hi=>?_
 have hOl:=Za3 4 20 zs i;have hend:=Za2 (n:=4) (most:=20) (zs:=zs) (i:=i);by_cases h1:i<zs.length
 ·by_cases h2:(Io 4 20 zs i).length<4
  ·obtain ⟨z,hzi⟩:=gxE (l:=zs) (i:=i) h1;have hzok:=hz z (Qa hzi);have hin:=Zgd hzi h2;have hout:=Za4 hzi h2;obtain ⟨O,hO⟩:=nmE (Io 4 20 zs i);rw [<-hO] at hOl h2 hin hout ⊢;have By:=Rl O;have hrl:(Fc (O.map Pt.nrm)).length=O.length:=by rw [Hf,Q5]
   obtain ⟨p,hp⟩:=nmE (Qbx 20 z);have hid:Aq z.id 1000=p.id:=by rw [hp]; rfl
   have cw:=O9 (v:=z.id) (n:=1000) hzok.id (by decide);have cl:=Q6u hzok (most:=20) (by decide);have ecl:cl4 (Qej 20 z.x z.y z.d)=cl4 p.c:=by rw [hp]; rfl
   rw [hid] at cw;rw [ecl] at cl;rw [<-hp] at hin hout;refine go tt [.g 16 true (decide_eq_true (by omega)),.t (decide_eq_true (by omega)),.x (Qrv hzi),.c [] (Zml (z:=z)),.x (Qrv hzi),.c [] cw,.f rfl,.t rfl,.x (Qrv hzi),.c [] cl] rfl trivial ?_;refine lp (S:=Nat) 3 (λL1 k=>(57,.v (.one (.int .i64 (k:Int))))::(10,.v (.one (.bool ((O.take k).any (λx=>decide (x.id=p.id))))))::L1) (λ_=>[.row false 135 5 (Ux O),.row false 57 7 (Fc (O.map Pt.nrm)),.blk 135 [pl p.c.x,pl p.c.y,sg p.c.d,mg p.c.d,.int .i64 p.id]]) (λk=>O.length-k) (λk=>k<=O.length) 0 (Qh _) rfl (λ_ _=>rfl) rfl λk hk=>?_
   by_cases hk2:k<O.length
   ·obtain ⟨x,hx⟩:=gxE (l:=O) (i:=k) hk2;have ha:=Q6b (f:=λx=>decide (x.id=p.id)) hx;cases hb:(O.take k).any (λx=>decide (x.id=p.id)) with
    |
     true =>
     rw [hb,Uc] at ha;exact go tt [.t (decide_eq_true (by omega)),.g 61 true rfl] rfl (by simp [Us]; omega) (rd (k+1) (by omega) hk2 (by rw [ha]; rfl))
    |
     false =>
     rw [hb,Kd] at ha;exact go tt [.t (decide_eq_true (by omega)),.g 61 false rfl,.i k,.x (Ht hx)] rfl (by simp [Us,By]; omega) (rd (k+1) (by omega) hk2 (by rw [ha]; rfl))
   have hk3:O.take k=O:=Ql (by omega);rw [hk3];cases hb:O.any (λx=>decide (x.id=p.id)) with
   |
    true =>
    refine go tt [.f (decide_eq_false (by omega)),.f rfl] rfl (by simp [Us]; omega) ?_;exact rd (i+1) (by omega) h1 (by rw [hin hb]; rfl)
   |
    false =>
    have cf:=Q7y (k:=p.c) (id:=p.id) (by rw [hp]; exact Zjy (by decide) z);have hm1:∀ y∈[Gy p],y.length=5:=λy hy=>by rw [Qk.1 hy]; rfl
    have hm2:∀ y∈[Dc p.nrm],y.length=7:=λy hy=>by rw [Qk.1 hy]; rfl
    have e1:Ux (O++[p])=Ux O++[Gy p]:=by simp [Ux]
    have e2:Fc ((O++[p]).map Pt.nrm)=Fc (O.map Pt.nrm)++[Dc p.nrm]:=by simp [Fc]
    refine go tt [.f (decide_eq_false (by omega)),.t rfl,.s (sz:=5) hm1,.c [] cf,.s (sz:=7) hm2] rfl (by simp [Us,By,hrl]; omega) ?_;exact rd (i+1) (by omega) h1 (by rw [hout hb,e1,e2]; rfl)
  ·rw [hend (λh=>h2 h.2)];rw [hend (λh=>h2 h.2)] at h2;have By:=Rl (Qgx 4 20 zs);exact ed tt [] [0,1] [.g 16 true (decide_eq_true (by omega)),.f (decide_eq_false (by omega))] rfl trivial
 ·rw [hend (λh=>h1 h.1)];exact ed tt [] [0,1] [.g 16 false (decide_eq_false (by omega)),.f rfl] rfl trivial
abbrev plZ (M:List Pt) (q:Rat):List LV:=.row (Fc M)::(fr q++[.nils,.nils,.nils,.bool false,.nils,.bool false,.nils,.bool false,.nils,.bool false,.nils,.int .i64 0,.nils])
abbrev plB (M:List Pt) (q:Rat) (c:List (List Int)) (w:List Ct):List LV:=.row (Fc M)::(fr q++(aq q c++[.row (Gm w),.int .i64 0,.nils]))
end Orr
namespace Orr
open Go Go.Proofs Orq
set_option maxRecDepth 10000
theorem Ze3 {O:List Pt} {e j:Nat} (h:Ac (Sx O e)) (hj:j<=e):Ac (Sx O j):=by
 have:Sx O j=(Sx O e).take j:=by unfold Sx; rw [<-List.map_take,List.take_take,Nat.min_eq_left hj]
 rw [this];exact List.Pairwise.sublist (W9 _ _) h
theorem Zj0 (O:List Pt):∃ e,e<=O.length/\Ac (Sx O e)/\(e<O.length->¬Ac (Sx O (e+1))):=by
 have key:∀ k,Ac (Sx O k)\/∃ e,e<k/\Ac (Sx O e)/\¬Ac (Sx O (e+1)):=by
  intro k
  induction k with
  | zero=>exact .inl List.Pairwise.nil
  |
   succ k ih =>
   rcases ih with h | ⟨e,h1,h2,h3⟩
   ·by_cases h4:Ac (Sx O (k+1))
    ·exact .inl h4
    ·exact .inr ⟨k,Ui k,h,h4⟩
   ·exact .inr ⟨e,by omega,h2,h3⟩
 rcases key O.length with h | ⟨e,h1,h2,h3⟩
 ·exact ⟨O.length,Qm _,h,λh=>absurd h (Ki _)⟩
 ·exact ⟨e,by omega,h2,λ_=>h3⟩
theorem Qrg {O:List Pt} {i:Nat} {p:Pt} (h:O[i]? = some p):(Ux (mix O i)).set i [pl p.c.x,pl p.c.y,sg p.c.d,mg p.c.d,.int .i64 p.m5.id]=Ux (mix O (i+1)):=by
 rw [<-Q11 h]; simp only [Ux,V2]; rfl
theorem Qm5 {O:List Pt} {i:Nat} {p:Pt} (h:O[i]? = some p):(Fc ((mix O i).map Pt.nrm)).set i [rp (Ar p.nrm.c.x p.nrm.c.d),rp (Ar p.nrm.c.y p.nrm.c.d),pl p.nrm.c.x,pl p.nrm.c.y,sg p.nrm.c.d,mg p.nrm.c.d,.int .i64 p.m5.id]=Fc ((mix O (i+1)).map Pt.nrm):=by
 rw [<-Q11 h]; simp only [Fc,V2]; rfl
theorem Q5c {O:List Pt} {e i:Nat} (h:e<=i) (hi:i<=O.length):(Ux (mix O i)).take e=Ux (Sx O e):=by
 unfold Ux; rw [<-List.map_take,Quh h hi]; rfl
theorem Qyx {O:List Pt} {e i:Nat} (h:e<=i) (hi:i<=O.length):(Fc ((mix O i).map Pt.nrm)).take e=Fc (Qcg O e):=by
 unfold Fc; rw [<-List.map_take,<-List.map_take,Quh h hi]; rfl
theorem Qug {O:List Pt}:mix O O.length=Sx O O.length:=by unfold mix Sx; simp
abbrev Ap (n d:Int):Rat:=G6 (Aq n 61-30) (1+Aq d 6)
theorem Qg4 (n d:Int):Qs 100 (Ap n d):=by
 have h1:Aq n 61=n % 61:=rfl;have h2:Aq d 6=d % 6:=rfl;unfold Ap G6;rw [if_neg (by omega)];exact Qs.divInt (Qc (T0.2 (show (Aq n 61-30).natAbs<2^10 by omega)) (by decide)) (Qc (T0.2 (show (1+Aq d 6).natAbs<2^10 by omega)) (by decide)) (by decide)
theorem Zge {n:Nat} {most:Int} {l:List RawPt}:∀ p∈Qgx n most l,0≤p.id/\p.id<1000:=λp hp=>by
 rcases Qd9 _ _ hp with h | h
 ·cases h
 ·obtain ⟨z,_,rfl⟩:=Zn.1 h;exact ⟨J4 _ (by decide),Jb _ (by decide)⟩
end Orr
namespace Orr
def Zrq (s m:Pt×Pt):Bool:=decide (m.1.id≠s.1.id) || decide (m.2.id≠s.2.id)
end Orr
namespace Orq
open Orr Go
structure Quiet {β:Type} (Bc:Tm->List Ct) (Br:Tm->β) (a b:Tm):Prop where
 va:Va a
 vb:Va b
 le:¬Di b a
 n:∀ x∈Bc a,∃ o,Dt x.p a o/\∀ u,o=some u->Di b u
section
variable {β:Type} {Bc:Tm->List Ct} {Br:Tm->β} (S:Stab Bc Br)
include S
theorem Quiet.same {a b:Tm} (h:Quiet Bc Br a b):Bc b=Bc a/\Br b=Br a:=by
 refine S.st a b h.va h.vb λx hx=>?_
 obtain ⟨o,o1,o2⟩:=h.n x hx;exact Qn8 (S.ok.p _ h.va _ hx).dp h.va h.vb h.le o1 o2
end
theorem Zhc {p:List Int} (h:Cp p):(tms p).length<=67:=by
 obtain ⟨l,l1,l2,_⟩:=Qbi h;unfold tms; rw [l1]; exact l2
theorem Q28:∀ {Ps:List (List Int)},(∀ p∈Ps,Cp p)->(Ps.flatMap tms).length≤67*Ps.length
 | [],_=>Qh _
 |
  p::Ps,h=>by
  have h1:=Zhc (h p (by simp));have h2:=Q28 (Ps:=Ps) λq hq=>h q (Qj _ hq)
  rw [J3,Q3,Q8]; omega
theorem Zni (T:List Tm) (a:Tm):mu T a<=T.length:=V1 _ _
theorem Zi3 {β:Type} {Bc:Tm->List Ct} {Br:Tm->β} (S:Stab Bc Br) {Ps:List (List Int)} (hP:∀ p∈Ps,Cp p) (hPs:∀ a,Va a->∀ x∈Bc a,x.p∈Ps) (hl:Ps.length≤1000000) {t:Rat} (ht:Qs 400000 t) {c:Cr} {r:β} (hS:KSt Bc Br c r) (h:Ff c.now t≤0) :
 ∃ (K:Nat) (c':Cr) (E:List Tm),K<=67000001/\goF Bc Br t K c r 0=some (c',Br (tq t),((E.length:Nat):Int))/\c'.now=tq t/\KSt Bc Br c' (Br (tq t))/\c'.ev=c.ev+((E.length:Nat):Int)/\E.length<=67000000/\Evs Bc t c.now E:=by
 have hm:=Q28 hP;have hmu:=Zni (Ps.flatMap tms) c.now;have hv:=hS.inv.ok.n;obtain ⟨c',r',E,g1,g2,g3,g4,g5,g6⟩:=Zm7 S ht hP hPs (mu (Ps.flatMap tms) c.now) c r 0 (Qm _) hS λh'=>by
  have:=(Qkb hv.cut).2 h'; omega
 have hr:r'=Br (tq t):=by rw [g3.r,g2]
 rw [hr] at g1 g3;rw [Int.zero_add] at g1;exact ⟨_,c',E,by omega,g1,g2,g3,g4,by omega,g6⟩
theorem Zja {β:Type} {Bc:Tm->List Ct} {Br:Tm->β} (S:Stab Bc Br) {a:Tm} (ha:Va a):KSt Bc Br ⟨a,(Fz (Bc a)).map fresh,0⟩ (Br a):=by
 refine ⟨⟨⟨ha,λw hw=>?_,?_⟩,λw hw hk=>?_⟩,?_,rfl⟩
 ·obtain ⟨x,hx,rfl⟩:=Zn.1 hw;exact ⟨S.ok.p _ ha x (Ir hx),λt ht=>by cases ht⟩
 ·show ((Fz (Bc a)).map fresh).length<=1000;rw [Q5,Ll]; exact S.ok.n _ ha
 ·obtain ⟨x,hx,rfl⟩:=Zn.1 hw;cases hk
 ·show ((Fz (Bc a)).map fresh).map (·.c)=Fz (Bc a);rw [List.map_map];show (Fz (Bc a)).map (λx=>x)=_;rw [List.map_id']
end Orq
namespace Orr
open Go Go.Proofs Orq
set_option maxRecDepth 10000
end Orr
namespace Orr
open Go Go.Proofs
set_option maxRecDepth 10000
theorem Q0g {p q:List Int} (hp:Bd 19000000 p) (hq:Bd 19000000 q) (hlp:p.length<=1000000) (hlq:q.length<=1000000):Uu Tryz.prog 143 [.one (rp (zp p)),.one (rp (zp q))] [.one (rp (zp (Al p q)))]:=by
 have h:=Qwz (Ox (Ut hp (by decide)) (by decide)) (Ox (Ut hq (by decide)) (by decide)) (by rw [Sl]; exact hlp) (by rw [Sl]; exact hlq);rwa [Q2s] at h
theorem Qxn (p:List Int) (q:Rat):Tg (sgq q) p=My p q:=rfl
end Orr
namespace Orr
def E7 (l:List (List (List Int))):List (List LV):=l.map λr=>[.row (r.map λp=>[pl p])]
abbrev Qcj (r:List (List Int)):List (List LV):=r.map λp=>[pl p]
theorem Qb2 (l:List (List (List Int))):(E7 l).length=l.length:=by simp [E7]
def Qa2 (i:Nat) (rows:List (List (List Int))):Nat->List (List (List Int))
 | 0=>[]
 | j+1=>if j=i then Qa2 i rows j else Qa2 i rows j++[(rows.getD j []).drop 1]
def Qch (rows:List (List (List Int))) (i:Nat):List (List (List Int)):=Qa2 i rows rows.length
def Cc (f:Nat->List Int) (rows:List (List (List Int))):Nat->List Int
 | 0=>[]
 |
  i+1=>if ((rows.getD i []).getD 0 []).length=0 then Cc f rows i else
  if i % 2=0 then Al (Cc f rows i) (Fx ((rows.getD i []).getD 0 []) (f i)) else Px (Cc f rows i) (Fx ((rows.getD i []).getD 0 []) (f i))
def Dn:Nat->List (List (List Int))->List Int
 | 0,_=>[1]
 | k+1,rows=>Cc (λi=>Dn k (Qch rows i)) rows (k+1)
structure Sq (s:Nat) (ds:List Nat) (k w:Nat) (rows:List (List (List Int))):Prop where
 l:rows.length=k
 w:∀ r∈rows,r.length=w
 t:∀ r∈rows,∀ p∈r,U0 p
 b:∀ r∈rows,∀ p∈r,Bd s p
 n:∀ r∈rows,∀ (j:Nat) (p:List Int),r[j]? = some p->p.length≤ds.getD j 0+1
theorem Qlp {i:Nat} {rows:List (List (List Int))}:∀ {j:Nat} {r:List (List Int)},j≤rows.length->r∈Qa2 i rows j->∃ q∈rows,r=q.drop 1
 | 0,r,_,h=>by simp [Qa2] at h
 |
  j+1,r,hj,h=>by
  simp only [Qa2] at h
  split at h
  ·exact Qlp (by omega) h
  ·rcases Qu.1 h with h | h
   ·exact Qlp (by omega) h
   ·rw [Qk.1 h];exact ⟨rows.getD j [],Qa (i:=j) (by rw [Qg,Qe (by omega)]; rfl),rfl⟩
theorem Qlo {i:Nat} {rows:List (List (List Int))}:∀ (j:Nat),(Qa2 i rows j).length=if i<j then j-1 else j
 | 0=>rfl
 |
  j+1=>by
  have ih:=Qlo (i:=i) (rows:=rows) j;simp only [Qa2]
  split
  ·rename_i e; subst e; rw [ih,if_neg (by omega),if_pos (by omega)]; omega
  ·rw [Q3,ih,Yz]
   split <;> split <;> omega
theorem Sq.min {s d k w:Nat} {ds:List Nat} {rows:List (List (List Int))} (h:Sq s (d::ds) (k+1) (w+1) rows) {i:Nat} (hi:i<k+1):Sq s ds k w (Qch rows i):=by
 have hl:=h.l;have hm:∀ {r:List (List Int)},r∈Qch rows i->∃ q∈rows,r=q.drop 1:=λh=>Qlp (Qm _) h
 refine ⟨by unfold Qch; rw [Qlo,hl,if_pos hi]; omega,λr hr=>?_,λr hr p hp=>?_,λr hr p hp=>?_,λr hr j p hp=>?_⟩
 ·obtain ⟨q,hq,rfl⟩:=hm hr;rw [Xj,h.w q hq]; omega
 all_goals obtain ⟨q,hq,rfl⟩:=hm hr
 ·exact h.t q hq p (Q9 hp)
 ·exact h.b q hq p (Q9 hp)
 ·rw [Z5] at hp;have:=h.n q hq (1+j) p hp;rw [X8 1 j] at this;exact this
theorem Sq.at {s d k w:Nat} {ds:List Nat} {rows:List (List (List Int))} (h:Sq s (d::ds) k (w+1) rows) {i:Nat} (hi:i<k):∃ p r,rows[i]? = some (p::r)/\(rows.getD i []).getD 0 []=p/\U0 p/\Bd s p/\p.length<=d+1:=by
 obtain ⟨r,hr⟩:=gxE (l:=rows) (i:=i) (by rw [h.l]; exact hi);have hm:=Qa hr;cases r with
 | nil=>have:=h.w _ hm; simp at this
 |
  cons p r =>
  have e:rows.getD i []=p::r:=by rw [Qg,hr]; rfl
  refine ⟨p,r,hr,by rw [e]; rfl,h.t _ hm p (by simp),h.b _ hm p (by simp),h.n _ hm 0 p rfl⟩
theorem Qqc {s d k w:Nat} {ds:List Nat} {f:Nat->List Int} {rows:List (List (List Int))} {B L:Nat} (h:Sq s (d::ds) k (w+1) rows) (hn:d<31) (hf:∀ i,i<k->Bd B (f i)/\(f i).length<=L+1):∀ i,i<=k->U0 (Cc f rows i)/\Bd (s+B+5+i) (Cc f rows i)/\(Cc f rows i).length<=d+L+1
 | 0,_=>⟨rfl,λz hz=>(by cases hz),Qh _⟩
 |
  i+1,hi=>by
  obtain ⟨h1,h2,h3⟩:=Qqc h hn hf i (by omega);obtain ⟨p,r,_,e,t,b,l⟩:=h.at (i:=i) (by omega);obtain ⟨f1,f2⟩:=hf i (by omega);have hp1:Bd (s+B+5) (Fx p (f i)):=Qds b f1 (by omega);have hp2:=Qaw p (f i);simp only [Cc];rw [e]
  split
  ·exact ⟨h1,Ut h2 (by omega),h3⟩
  ·split
   ·exact ⟨Fu _ _,Ut (Qpq h2 hp1) (by omega),Qc (Qll _ _) (by omega)⟩
   ·exact ⟨Fu _ _,Ut (Iw h2 hp1) (by omega),Qc (L8 _ _) (by omega)⟩
theorem Qra {s:Nat}:∀ (k:Nat) (ds:List Nat) (rows:List (List (List Int))),k<=4->ds.length=k->ds.sum<31->Sq s ds k k rows->U0 (Dn k rows)/\Bd (k*(s+10)+1) (Dn k rows)/\(Dn k rows).length<=ds.sum+1
 | 0,ds,rows,_,_,_,_=>⟨rfl,λz hz=>(by simp [Dn] at hz; subst hz; rw [Yb]; decide),by simp [Dn]⟩
 | k+1,[],rows,_,hl,_,_=>by simp at hl
 |
  k+1,d::ds,rows,hk,hl,hd,h=>by
  rw [Kg] at hd;have ih:=λi (hi:i<k+1)=>Qra k ds (Qch rows i) (by omega) (by simpa using hl) (by omega) (h.min hi)
  obtain ⟨h1,h2,h3⟩:=Qqc (f:=λi=>Dn k (Qch rows i)) (B:=k*(s+10)+1) (L:=ds.sum) h (by omega) (λi hi=>⟨(ih i hi).2.1,(ih i hi).2.2⟩) (k+1) (Qm _);have e1:(k+1)*(s+10)=k*(s+10)+(s+10):=Z7 ..;rw [Kg];exact ⟨h1,Ut h2 (by omega),h3⟩
def Ec (a b c:Crv):List (List (List Int)):=[[a.x,a.y,[a.d]],[b.x,b.y,[b.d]],[c.x,c.y,[c.d]]]
def Hh (a b c:Crv):List Int:=Dn 3 (Ec a b c)
end Orr
namespace Orr
open Go Go.Proofs Orq
set_option maxRecDepth 10000
theorem gz {P:Program} [Mo P] {n:Nat} {Q:Exit->Sg->List OB->Prop} {L L':Sg} {B B':List OB} (i:Nat) {it:List It} (hs:Tj it=true) (h:Q5d [i] L B=some (L',B')) (k:AK P n Q it L' B'):AK P n Q it L B:=AK.sub (Qey h) hs k
theorem Ql9 {r:List (List Int)} {i:Nat} {p:List Int} (h:r[i]? = some p):(Qcj r)[i]? = some [pl p]:=Gt h
theorem Lj {l:List (List (List Int))} {i:Nat} {r:List (List Int)} (h:l[i]? = some r):(E7 l)[i]? = some [.row (Qcj r)]:=Gt h
theorem Zjg {r:List (List Int)} (ht:∀ p∈r,U0 p) (hb:∀ p∈r,Bd 1000000 p) (hl:∀ p∈r,p.length≤1000000) (hn:r.length≤1000):Uu Tryz.prog 281 [.one (.row (Qcj r))] [.one (.row (Qcj r))]:=by
 have hrl:(Qcj r).length=r.length:=by simp
 refine Gs Tryz.func281 rfl ?_;refine go tt [.o 3 48 1] rfl trivial ?_;refine lp (S:=Nat) 1 (λL1 i=>(8,.v (.one (.int .i64 (i:Int))))::(3,.v (.one (.orow 0 1 none)))::L1) (λi=>[.row false 48 1 (Qcj (r.take i))]) (λi=>r.length-i) (λi=>i<=r.length) 0 (Qh _) rfl (λ_ _=>rfl) rfl λi hi=>?_
 by_cases h:i<r.length
 ·obtain ⟨p,hp⟩:=gxE (l:=r) (i:=i) h;have hm:=Qa hp;have hs:∀ y∈[[pl p]],y.length=1:=λy hy=>by rw [Qk.1 hy]; rfl
  have e:Qcj (r.take (i+1))=Qcj (r.take i)++[[pl p]]:=by rw [Zp,hp]; simp
  refine go tt [.t (decide_eq_true (by omega)),.x (Ql9 hp),.c [] (Ho (ht p hm) (by have:=hl p hm; omega) (Ut (hb p hm) (by decide))),.s (sz:=1) hs] rfl (by simp [Us] <;> omega) ?_;exact rd (i+1) (by omega) h (by rw [e]; rfl)
 ·obtain rfl:i=r.length:=by omega
  rw [Qy];exact en tt [.f (decide_eq_false (by omega))] rfl rfl trivial
theorem Zmy {s k w:Nat} {ds:List Nat} {rows:List (List (List Int))} (h:Sq s ds k k rows) (_hw:w=k) (hk:k<=4):Uu Tryz.prog 312 [.one (.row (E7 rows))] [.one (.bool true)]:=by
 have hrl:=Qb2 rows;have hl:=h.l;refine Gs Tryz.func312 rfl ?_;refine go tt [] rfl trivial ?_;refine lp (S:=Nat) 0 (λL1 i=>(7,.v (.one (.int .i64 (i:Int))))::L1) (λ_=>[]) (λi=>rows.length-i) (λi=>i<=rows.length) 0 (Qh _) rfl (λ_ _=>rfl) rfl λi hi=>?_
 by_cases hlt:i<rows.length
 ·obtain ⟨r,hr⟩:=gxE (l:=rows) (i:=i) hlt;have hw:=h.w r (Qa hr);have hql:(Qcj r).length=r.length:=by simp
  refine go tt [.t (decide_eq_true (by omega)),.x (Lj hr),.f (decide_eq_false (λh=>h (by omega)))] rfl (by simp [Us] <;> omega) ?_;exact rd (i+1) (by omega) hlt rfl
 ·exact en tt [.f (decide_eq_false (by omega))] rfl (by rw [decide_eq_true (by omega:((E7 rows).length:Int)<=4)]) trivial
theorem Zee {s k w:Nat} {ds:List Nat} {rows:List (List (List Int))} (h:Sq s ds k w rows) (hs:s<=1000000) (hk:k<=4) (hw:w<=4) (hd:∀ j,ds.getD j 0<=1000) (i:Nat):Uu Tryz.prog 336 [.one (.int .i64 (i:Int)),.one (.int .i64 0),.one (.row (E7 rows))] [.one (.row (E7 (Qch rows i)))]:=by
 have hrl:=Qb2 rows;have hl:=h.l;have hml:∀ j,j<=rows.length->(E7 (Qa2 i rows j)).length<=4:=λj hj=>by
  rw [Qb2,Qlo]; split <;> omega
 refine Gs Tryz.func336 rfl ?_;refine go tt [.o 7 287 1] rfl trivial ?_;refine lp (S:=Nat) 1 (λL1 j=>(15,.v (.one (.int .i64 (j:Int))))::(7,.v (.one (.orow 0 1 none)))::L1) (λj=>[.row false 287 1 (E7 (Qa2 i rows j))]) (λj=>rows.length-j) (λj=>j<=rows.length) 0 (Qh _) rfl (λ_ _=>rfl) rfl λj hj=>?_
 have hmlj:=hml j hj;by_cases hlt:j<rows.length
 ·obtain ⟨r,hr⟩:=gxE (l:=rows) (i:=j) hlt;have hm:=Qa hr;have hw:=h.w r hm;have hql:(Qcj r).length=r.length:=by simp
  by_cases hij:j=i
  ·have e:Qa2 i rows (j+1)=Qa2 i rows j:=by simp only [Qa2]; rw [if_pos hij]
   refine go tt [.t (decide_eq_true (by omega)),.x (Lj hr),.t (decide_eq_true (by omega))] rfl (by simp [Us] <;> omega) ?_;exact rd (j+1) (by omega) hlt (by rw [e]; rfl)
  ·have e:Qa2 i rows (j+1)=Qa2 i rows j++[r.drop 1]:=by
    simp only [Qa2]; rw [if_neg hij,Qg,hr]; rfl
   refine go tt [.t (decide_eq_true (by omega)),.x (Lj hr),.f (decide_eq_false (by omega)),.o 10 48 1] rfl (by simp [Us]) ?_;refine lp (S:=Nat) 2 (λL1 c=>(25,.v (.one (.int .i64 (c:Int))))::(10,.v (.one (.orow 1 1 none)))::L1) (λc=>[.row false 287 1 (E7 (Qa2 i rows j)),.row false 48 1 (Qcj ((r.take c).drop 1))]) (λc=>r.length-c) (λc=>c<=r.length) 0 (Qh _) rfl (λ_ _=>rfl) rfl λc hc=>?_
   by_cases hcl:c<r.length
   ·obtain ⟨p,hp⟩:=gxE (l:=r) (i:=c) hcl;have hpm:=Qa hp;by_cases h0:c=0
    ·subst h0;refine go tt [.t (decide_eq_true (by omega)),.x (Ql9 hp),.f (decide_eq_false (by simp))] rfl (by simp [Us]) ?_;exact rd 1 (by omega) hcl (by rw [Zp,hp]; rfl)
    ·have hs1:∀ y∈[[pl p]],y.length=1:=λy hy=>by rw [Qk.1 hy]; rfl
     have e2:Qcj ((r.take (c+1)).drop 1)=Qcj ((r.take c).drop 1)++[[pl p]]:=by
      rw [Zp,hp,Yn (by rw [Qp]; omega)]; simp
     refine go tt [.t (decide_eq_true (by omega)),.x (Ql9 hp),.t (decide_eq_true (by omega)),.c [] (Ho (h.t r hm p hpm) (by have:=h.n r hm c p hp; have:=hd c; omega) (Ut (h.b r hm p hpm) (by omega))),.s (sz:=1) hs1] rfl (by simp [Us] <;> omega) ?_;exact rd (c+1) (by omega) hcl (by rw [e2]; rfl)
   ·obtain rfl:c=r.length:=by omega
    rw [Qy];have hs1:∀ y∈[[LV.row (Qcj (r.drop 1))]],y.length=1:=λy hy=>by rw [Qk.1 hy]; rfl
    refine go tt [.f (decide_eq_false (by omega))] rfl trivial ?_;refine gz 1 rfl rfl ?_;refine go tt [.s (sz:=1) hs1] rfl (by simp [Us] <;> omega) ?_;exact rd (j+1) (by omega) hlt (by rw [e]; simp [E7]; rfl)
 ·obtain rfl:j=rows.length:=by omega
  exact en tt [.f (decide_eq_false (by omega))] rfl rfl trivial
theorem Qhm:∀ (ds:List Nat) (j:Nat),ds.getD j 0<=ds.sum
 | [],j=>by simp
 | d::ds,0=>by simp
 |
  d::ds,j+1=>by
  have:=Qhm ds j;rw [Kg];show ds.getD j 0<=_;omega
theorem Zh4 {s:Nat} (hs:s<=100000):∀ (k:Nat) (ds:List Nat) (rows:List (List (List Int))),k<=4->ds.length=k->ds.sum<31->Sq s ds k k rows->Uu Tryz.prog 313 [.one (.row (E7 rows))] [pr (Dn k rows)]
 |
  0,ds,rows,_,_,_,h=>by
  have e:=Qi h.l;subst e;have co:=Qz1 (p:=[1]) (by decide) (by decide);exact w tt Tryz.func313 rfl [.t rfl,.c [] co] rfl rfl trivial
 | k+1,[],_,_,hl,_,_=>by simp at hl
 |
  k+1,d::ds,rows,hk,hl,hd,h=>by
  rw [Kg] at hd;have hl':ds.length=k:=by simpa using hl
  have hrl:=Qb2 rows;have hrn:=h.l;have hmin:=λi (hi:i<k+1)=>h.min hi
  have ih:=λi (hi:i<k+1)=>Zh4 hs k ds (Qch rows i) (by omega) hl' (by omega) (hmin i hi)
  have hok:=λi (hi:i<k+1)=>Qra k ds (Qch rows i) (by omega) hl' (by omega) (hmin i hi)
  have hb:k*(s+10)+1<=500000:=by
   have:k*(s+10)<=4*(100010):=Zh (by omega) (by omega);omega
  have hds:=Qqc (f:=λi=>Dn k (Qch rows i)) (B:=k*(s+10)+1) (L:=ds.sum) h (by omega) (λi hi=>⟨(hok i hi).2.1,(hok i hi).2.2⟩);have cm:=Zee h (by omega) hk hk (λj=>by have:=Qhm (d::ds) j; rw [Kg] at this; omega);show Uu Tryz.prog 313 [.one (.row (E7 rows))] [pr (Cc (λi=>Dn k (Qch rows i)) rows (k+1))];obtain ⟨f,hf⟩:=nmE (λi=>Dn k (Qch rows i));rw [<-hf] at hds ⊢;have hfi:∀ i,f i=Dn k (Qch rows i):=λi=>by rw [hf]
  refine Gs Tryz.func313 rfl ?_;refine go tt [.f (decide_eq_false (by omega)),.z 3] rfl trivial ?_;refine lp (S:=Nat) 0 (λL1 i=>(14,.v (.one (.int .i64 (i:Int))))::(3,.v (pr (Cc f rows i)))::L1) (λ_=>[]) (λi=>k+1-i) (λi=>i<=k+1) 0 (Qh _) rfl (λ_ _=>rfl) rfl λi hi=>?_
  obtain ⟨d1,d2,d3⟩:=hds i hi;by_cases hlt:i<k+1
  ·obtain ⟨p,r,hr,e,t,b,l⟩:=h.at hlt;have hx0:(Qcj (p::r))[0]? = some [pl p]:=rfl;have By:(p.map Gv).length=p.length:=by simp
   have cn:=Ho t (by omega) (Ut b (by omega));by_cases h0:p.length=0
   ·have es:Cc f rows (i+1)=Cc f rows i:=by simp only [Cc]; rw [e,if_pos h0]
    refine go tt [.t (decide_eq_true (by omega)),.x (Lj hr),.x hx0,.c [] cn,.t (decide_eq_true (by omega))] rfl (by simp [Us] <;> omega) ?_;exact rd (i+1) (by omega) hlt (by rw [es]; rfl)
   ·obtain ⟨k1,k2,k3⟩:=hok i hlt;have ci:=ih i hlt;have cp:=Q61 (p:=p) (q:=f i) t (by rw [hfi]; exact k1) (by omega) (by rw [hfi]; omega) b (by rw [hfi]; exact k2) (by omega);have hmb:Bd (s+(k*(s+10)+1)+5) (Fx p (f i)):=Qds b (by rw [hfi]; exact k2) (by omega);have hml:=Qaw p (f i);have hfl:(f i).length<=ds.sum+1:=by rw [hfi]; exact k3
    rw [<-hfi] at ci;by_cases h2:i % 2=0
    ·have es:Cc f rows (i+1)=Al (Cc f rows i) (Fx p (f i)):=by simp only [Cc]; rw [e,if_neg h0,if_pos h2]
     refine go tt [.t (decide_eq_true (by omega)),.x (Lj hr),.x hx0,.c [] cn,.f (decide_eq_false (by omega)),.x hx0,.c [] (cm i),.c [] ci,.c [] cp,.r 34 (eI (b:=((i % 2:Nat):Int)) rfl),.t (decide_eq_true (by omega)),.c [] (Q6y (p:=Cc f rows i) (q:=Fx p (f i)) (by omega) (by omega) (Ut d2 (by omega)) (Ut hmb (by omega)))] rfl (by simp [Us] <;> omega) ?_;exact rd (i+1) (by omega) hlt (by rw [es]; rfl)
    ·have es:Cc f rows (i+1)=Px (Cc f rows i) (Fx p (f i)):=by simp only [Cc]; rw [e,if_neg h0,if_neg h2]
     refine go tt [.t (decide_eq_true (by omega)),.x (Lj hr),.x hx0,.c [] cn,.f (decide_eq_false (by omega)),.x hx0,.c [] (cm i),.c [] ci,.c [] cp,.r 34 (eI (b:=((i % 2:Nat):Int)) rfl),.f (decide_eq_false (by omega)),.c [] (Qjy (p:=Cc f rows i) (q:=Fx p (f i)) (by omega) (by omega) (Ut d2 (by omega)) (Ut hmb (by omega)))] rfl (by simp [Us] <;> omega) ?_;exact rd (i+1) (by omega) hlt (by rw [es]; rfl)
  ·obtain rfl:i=k+1:=by omega
   exact en tt [.f (decide_eq_false (by omega))] rfl rfl trivial
theorem Zmm {s:Nat} (hs:s<=100000) {k:Nat} {ds:List Nat} {rows:List (List (List Int))} (hk:k<=4) (hl:ds.length=k) (hd:ds.sum<31) (h:Sq s ds k k rows):Uu Tryz.prog 282 [.one (.row (E7 rows))] [pr (Dn k rows),.one (.int .i64 0)] :=
 w tt Tryz.func282 rfl [.c [] (Zmy h rfl hk),.f rfl,.c [] (Zh4 hs k ds rows hk hl hd h)] rfl rfl trivial
theorem Qww {k:Crv} (hk:Sc k):Uu Tryz.prog 280 [.agg (cl k)] [.one (.row (Qcj [k.x,k.y,[k.d]]))]:=by
 have h0:k.d≠0:=by have:=hk.n.2.2.1; omega
 have td:U0 [k.d]:=by unfold U0; simp [trim,h0]
 have cd:=Zjg (r:=[k.x,k.y,[k.d]]) (λp hp=>by
  rcases Qo.1 hp with rfl | hp
  ·exact hk.n.1
  rcases Qo.1 hp with rfl | hp
  ·exact hk.n.2.1
  ·rw [Qk.1 hp]; exact td) (λp hp=>by
  rcases Qo.1 hp with rfl | hp
  ·exact Ut hk.c.x (by decide)
  rcases Qo.1 hp with rfl | hp
  ·exact Ut hk.c.y (by decide)
  ·rw [Qk.1 hp];intro z hz; rw [Qk.1 hz]; exact Qc hk.c.d (by decide)) (λp hp=>by
  rcases Qo.1 hp with rfl | hp
  ·have:=hk.c.lx; omega
  rcases Qo.1 hp with rfl | hp
  ·have:=hk.c.ly; omega
  ·rw [Qk.1 hp]; show 1<=1000000; decide) (by show 3<=1000; decide)
 exact w tt Tryz.func280 rfl [.c [] (Qdx hk.n (hk.c.mono (by decide) (by decide))),.c [] cd] rfl rfl trivial
theorem Qvn {a b c:Crv} (ha:Sc a) (hb:Sc b) (hc:Sc c):Sq 90 [2,2,0] 3 3 (Ec a b c):=by
 have key:∀ k:Crv,Sc k->(∀ p∈[k.x,k.y,[k.d]],U0 p/\Bd 90 p)/\∀ (j:Nat) (p:List Int),[k.x,k.y,[k.d]][j]? = some p->p.length≤[2,2,0].getD j 0+1:=λk hk=>by
  have h0:k.d≠0:=by have:=hk.n.2.2.1; omega
  have td:U0 [k.d]:=by unfold U0; simp [trim,h0]
  refine ⟨λp hp=>?_,λj p hp=>?_⟩
  ·rcases Qo.1 hp with rfl | hp
   ·exact ⟨hk.n.1,hk.c.x⟩
   rcases Qo.1 hp with rfl | hp
   ·exact ⟨hk.n.2.1,hk.c.y⟩
   ·rw [Qk.1 hp];exact ⟨td,λz hz=>by rw [Qk.1 hz]; exact hk.c.d⟩
  ·match j,hp with
   | 0,hp=>injection hp with hp; subst hp; exact hk.c.lx
   | 1,hp=>injection hp with hp; subst hp; exact hk.c.ly
   | 2,hp=>injection hp with hp; subst hp; exact Qm _
   | j+3,hp=>simp at hp
 have hr:∀ r∈Ec a b c,∃ k:Crv,Sc k/\r=[k.x,k.y,[k.d]]:=λr hr=>by
  rcases Qo.1 hr with rfl | hr
  ·exact ⟨a,ha,rfl⟩
  rcases Qo.1 hr with rfl | hr
  ·exact ⟨b,hb,rfl⟩
  ·rw [Qk.1 hr]; exact ⟨c,hc,rfl⟩
 refine ⟨rfl,λr h=>?_,λr h p hp=>?_,λr h p hp=>?_,λr h j p hp=>?_⟩
 all_goals obtain ⟨k,hk,rfl⟩:=hr r h
 ·rfl
 ·exact ((key k hk).1 p hp).1
 ·exact ((key k hk).1 p hp).2
 ·exact (key k hk).2 j p hp
theorem Qf0 {a b c:Crv} (ha:Sc a) (hb:Sc b) (hc:Sc c):Cp (Hh a b c):=by
 obtain ⟨h1,h2,h3⟩:=Qra 3 [2,2,0] (Ec a b c) (by decide) rfl (by decide) (Qvn ha hb hc);exact ⟨h1,Qc h3 (by decide),Ut h2 (by decide)⟩
theorem Qsu {a b c:Crv} (ha:Sc a) (hb:Sc b) (hc:Sc c):Uu Tryz.prog 237 [.agg (cl a),.agg (cl b),.agg (cl c)] [pr (Hh a b c)]:=by
 have cd:=Zmm (by decide) (k:=3) (ds:=[2,2,0]) (by decide) rfl (by decide) (Qvn ha hb hc);exact w tt Tryz.func237 rfl [.c [] (Qww ha),.c [] (Qww hb),.c [] (Qww hc),.c [] cd] rfl rfl trivial
abbrev zrw (r:List (List Int)):List (List LV):=r.map λp=>[rp (zp p)]
def zmt (M:List (List (List Int))):List (List LV):=M.map λr=>[.row (zrw r)]
theorem Qsf (M:List (List (List Int))):(zmt M).length=M.length:=by simp [zmt]
theorem Qsi {r:List (List Int)} {i:Nat} {p:List Int} (h:r[i]? = some p):(zrw r)[i]? = some [rp (zp p)]:=Gt h
theorem Qjh {l:List (List (List Int))} {i:Nat} {r:List (List Int)} (h:l[i]? = some r):(zmt l)[i]? = some [.row (zrw r)]:=Gt h
theorem Qxi {α:Type} {R:List α} {j k:Nat} {x:α} (h:R[j]? = some x):(R.take (j+1)).eraseIdx k=if j=k then (R.take j).eraseIdx k else (R.take j).eraseIdx k++[x]:=by
 have hj:=(Qd.1 h).1;have hl:(R.take j).length=j:=by rw [Qp]; omega
 rw [Zp,h,Vq];rcases Vy k j with hk | hk | hk
 ·rw [if_neg (by omega),List.eraseIdx_append_of_lt_length (by omega)]
 ·subst hk;rw [if_pos rfl,Ky (by omega),hl,Jq,Kf (l:=R.take k) (by omega)];show R.take k++[]=_;rw [Zq]
 ·rw [if_neg (by omega),Ky (by omega),hl,Kf (l:=[x]) (by simp; omega),Kf (by omega)]
def He (M:List (List (List Int))) (k:Nat):List (List (List Int)):=(M.drop 1).map (·.eraseIdx k)
theorem Quf {M:List (List (List Int))} {i k:Nat} {R:List (List Int)} (h:M[i]? = some R) (h0:0<i):He (M.take (i+1)) k=He (M.take i) k++[R.eraseIdx k]:=by
 have hi:=(Qd.1 h).1;unfold He;rw [Zp,h,Vq,Yn (by rw [Qp]; omega),J5]; rfl
theorem Qx3 {M:List (List (List Int))} {i k:Nat} (hi:i<=M.length):(He (M.take i) k).length=i-1:=by
 unfold He; rw [List.length_map,List.length_drop,List.length_take]; omega
theorem Q73 {M:List (List (List Int))} {k:Nat} (hn:M.length≤100) (hM:∀ R∈M,R.length≤100):Uu Tryz.prog 142 [.one (.row (zmt M)),.one (.int .i64 0),.one (.int .i64 (k:Int))] [.one (.row (zmt (He M k)))]:=by
 have hrl:=Qsf M;refine Gs Tryz.func142 rfl ?_;refine go tt [.o 7 29 1] rfl trivial ?_;refine lp (S:=Nat) 1 (λL1 i=>(13,.v (.one (.int .i64 (i:Int))))::(7,.v (.one (.orow 0 1 none)))::L1) (λi=>[.row false 29 1 (zmt (He (M.take i) k))]) (λi=>M.length-i) (λi=>i<=M.length) 0 (Qh _) rfl (λ_ _=>rfl) rfl λi hi=>?_
 have hml:(zmt (He (M.take i) k)).length=i-1:=by rw [Qsf,Qx3 hi]
 by_cases hlt:i<M.length
 ·obtain ⟨r,hr⟩:=gxE (l:=M) (i:=i) hlt;have hm:=hM r (Qa hr);have hql:(zrw r).length=r.length:=by simp
  by_cases h0:i=0
  ·subst h0;have e:He (M.take 1) k=He (M.take 0) k:=by unfold He; simp
   refine go tt [.t (decide_eq_true (by omega)),.t rfl] rfl (by simp [Us]) ?_;exact rd 1 (by omega) hlt (by rw [e]; rfl)
  ·have e:=Quf (k:=k) hr (by omega);refine go tt [.t (decide_eq_true (by omega)),.f (decide_eq_false (by omega)),.o 9 28 1,.x (Qjh hr)] rfl (by simp [Us] <;> omega) ?_;refine lp (S:=Nat) 2 (λL1 c=>(24,.v (.one (.int .i64 (c:Int))))::(9,.v (.one (.orow 1 1 none)))::L1) (λc=>[.row false 29 1 (zmt (He (M.take i) k)),.row false 28 1 (zrw ((r.take c).eraseIdx k))]) (λc=>r.length-c) (λc=>c<=r.length) 0 (Qh _) rfl (λ_ _=>rfl) rfl λc hc=>?_
   have hzl:((r.take c).eraseIdx k).length<=c:=by
    exact Qc (List.eraseIdx_sublist ..).length_le (by rw [Qp]; omega)
   by_cases hcl:c<r.length
   ·obtain ⟨p,hp⟩:=gxE (l:=r) (i:=c) hcl;have e2:=Qxi (k:=k) hp;by_cases hck:c=k
    ·rw [if_pos hck] at e2;refine go tt [.t (decide_eq_true (by omega)),.f (decide_eq_false (by omega))] rfl (by simp [Us] <;> omega) ?_;exact rd (c+1) (by omega) hcl (by rw [e2]; rfl)
    ·rw [if_neg hck] at e2;have hs1:∀ y∈[[rp (zp p)]],y.length=1:=λy hy=>by rw [Qk.1 hy]; rfl
     refine go tt [.t (decide_eq_true (by omega)),.t (decide_eq_true (by omega)),.x (Qjh hr),.x (Qsi hp),.s (sz:=1) hs1] rfl (by simp [Us] <;> omega) ?_;exact rd (c+1) (by omega) hcl (by rw [e2]; simp [zrw]; rfl)
   ·obtain rfl:c=r.length:=by omega
    rw [Qy];have hs1:∀ y∈[[LV.row (zrw (r.eraseIdx k))]],y.length=1:=λy hy=>by rw [Qk.1 hy]; rfl
    refine go tt [.f (decide_eq_false (by omega))] rfl trivial ?_;refine gz 1 rfl rfl ?_;refine go tt [.s (sz:=1) hs1] rfl (by simp [Us] <;> omega) ?_;exact rd (i+1) (by omega) hlt (by rw [e]; simp [zmt]; rfl)
 ·obtain rfl:i=M.length:=by omega
  rw [Qy];exact en tt [.f (decide_eq_false (by omega))] rfl rfl trivial
def Qy1 (k:Nat) (p:List Int):List Int:=if k % 2=1 then Pg p else p
def Ls (f:List (List (List Int))->List Int) (M:List (List (List Int))):Nat->List Int
 | 0=>[]
 | k+1=>Al (Ls f M k) (Qy1 k (Fx ((M.getD 0 []).getD k []) (f (He M k))))
def Qf4:Nat->List (List (List Int))->List Int
 | 0,_=>[1]
 | n+1,M=>Ls (Qf4 n) M (n+1)
structure SqR (s:Nat) (ds:List Nat) (M:List (List (List Int))):Prop where
 l:M.length=ds.length
 w:∀ r∈M,r.length=ds.length
 b:∀ r∈M,∀ p∈r,Bd s p
 n:∀ r∈M,∀ (j:Nat) (p:List Int),r[j]? = some p->p.length≤ds.getD j 0+1
theorem Lm:∀ {ds:List Nat} {k:Nat},k<ds.length->(ds.eraseIdx k).sum+ds.getD k 0=ds.sum
 | [],_,h=>by simp at h
 | d::ds,0,_=>by simp [X8]
 |
  d::ds,k+1,h=>by
  have:=Lm (ds:=ds) (k:=k) (by simpa using h);simp only [List.eraseIdx_cons_succ,Kg,Q4];omega
theorem SqR.minor {s:Nat} {ds:List Nat} {M:List (List (List Int))} (h:SqR s ds M) {k:Nat} (hk:k<ds.length):SqR s (ds.eraseIdx k) (He M k):=by
 have hl:=h.l;unfold He;refine ⟨by rw [Q5,Xj,Jh hk]; omega,λr hr=>?_,λr hr p hp=>?_,λr hr j p hp=>?_⟩
 all_goals obtain ⟨q,hq,rfl⟩:=Zn.1 hr
 all_goals have hq:=Q9 hq
 ·rw [Jh (by rw [h.w q hq]; exact hk),Jh hk,h.w q hq]
 ·exact h.b q hq p (List.mem_of_mem_eraseIdx hp)
 ·rw [List.getElem?_eraseIdx] at hp;rw [Qg,List.getElem?_eraseIdx]
  split at hp <;> rename_i hj
  ·rw [if_pos hj,<-Qg]; exact h.n q hq j p hp
  ·rw [if_neg hj,<-Qg]; exact h.n q hq (j+1) p hp
theorem SqR.at {s:Nat} {ds:List Nat} {M:List (List (List Int))} (h:SqR s ds M) {k:Nat} (hk:k<ds.length):∃ r p,M[0]? = some r/\r[k]? = some p/\(M.getD 0 []).getD k []=p/\Bd s p/\p.length<=ds.getD k 0+1:=by
 obtain ⟨r,hr⟩:=gxE (l:=M) (i:=0) (by rw [h.l]; omega);have hm:=Qa hr;obtain ⟨p,hp⟩:=gxE (l:=r) (i:=k) (by rw [h.w r hm]; exact hk);refine ⟨r,p,hr,hp,?_,h.b r hm p (Qa hp),h.n r hm k p hp⟩;rw [Qg (l:=M),hr,Kc,Qg,hp]; rfl
theorem Zgz {k s:Nat} {p:List Int} (h:Bd s p):Bd s (Qy1 k p):=by
 unfold Qy1; split
 ·exact Qbn h
 ·exact h
theorem Zb2 (k:Nat) (p:List Int):(Qy1 k p).length<=p.length:=by
 unfold Qy1; split
 ·exact L6 _
 ·exact Qm _
theorem Qkh {s B:Nat} {ds:List Nat} {f:List (List (List Int))->List Int} {M:List (List (List Int))} (h:SqR s ds M) (hs:ds.sum<64) (hf:∀ k,k<ds.length->Bd B (f (He M k))/\(f (He M k)).length<=(ds.eraseIdx k).sum+1):∀ i,i<=ds.length->Bd (s+B+7+i) (Ls f M i)/\(Ls f M i).length<=ds.sum+1
 | 0,_=>⟨λz hz=>(by cases hz),Qh _⟩
 |
  i+1,hi=>by
  obtain ⟨h2,h3⟩:=Qkh h hs hf i (by omega);obtain ⟨r,p,_,_,e,b,l⟩:=h.at (k:=i) (by omega);obtain ⟨f1,f2⟩:=hf i (by omega);have hd:=Lm (ds:=ds) (k:=i) (by omega);have hp1:Bd (s+B+7) (Fx p (f (He M i))):=Qds b f1 (Zw l (by omega));have hp2:=Qaw p (f (He M i));have hp3:=Zb2 i (Fx p (f (He M i)));simp only [Ls];rw [e];exact ⟨Ut (Qpq h2 (Zgz hp1)) (by omega),Qc (Qll _ _) (by omega)⟩
theorem Qp9 {s:Nat}:∀ (n:Nat) (ds:List Nat) (M:List (List (List Int))),ds.length=n->ds.sum<64->SqR s ds M->Bd (n*(s+20)+1) (Qf4 n M)/\(Qf4 n M).length<=ds.sum+1/\n<=9\/9<n
 | 0,ds,M,_,_,_=>.inl ⟨λz hz=>(by simp [Qf4] at hz; subst hz; rw [Yb]; decide),by simp [Qf4],by omega⟩
 |
  n+1,ds,M,hl,hs,h=>by
  by_cases h9:9<n+1
  ·exact .inr h9
  have hsum:=λk (hk:k<ds.length)=>Lm (ds:=ds) (k:=k) hk
  have:=Qkh (f:=Qf4 n) (B:=n*(s+20)+1) h hs (λk hk=>by
   have hd:=hsum k hk;rcases Qp9 n (ds.eraseIdx k) (He M k) (by rw [Jh hk]; omega) (by omega) (h.minor hk) with h' | h'
   ·exact ⟨h'.1,h'.2.1⟩
   ·omega) (n+1) (by omega)
  have e1:(n+1)*(s+20)=n*(s+20)+(s+20):=Z7 ..;exact .inl ⟨Ut this.1 (by omega),this.2,by omega⟩
theorem Q7x {s:Nat} (hs:s<=1000000):∀ (n:Nat) (ds:List Nat) (M:List (List (List Int))),n<=4->ds.length=n->ds.sum<64->SqR s ds M->Uu Tryz.prog 73 [.one (.row (zmt M))] [.one (rp (zp (Qf4 n M)))]
 |
  0,ds,M,_,hl,_,h=>by
  have e:=Qi (h.l.trans hl);subst e;exact w tt Tryz.func73 rfl [.t rfl,.c [] Qw4] rfl rfl trivial
 |
  n+1,ds,M,hn,hl,hd,h=>by
  have hrl:=Qsf M;have hMl:=h.l;have ih:=λk (hk:k<ds.length)=>Q7x hs n (ds.eraseIdx k) (He M k) (by omega) (by rw [Jh hk]; omega) (by have:=Lm (ds:=ds) (k:=k) hk; omega) (h.minor hk)
  have hb:n*(s+20)+1<=3*1000020+1:=Nat.add_le_add_right (Zh (by omega) (by omega)) 1;have hok:∀ k,k<ds.length->Bd (n*(s+20)+1) (Qf4 n (He M k))/\(Qf4 n (He M k)).length<=(ds.eraseIdx k).sum+1:=λk hk=>by
   have hd':=Lm (ds:=ds) (k:=k) hk;rcases Qp9 n (ds.eraseIdx k) (He M k) (by rw [Jh hk]; omega) (by omega) (h.minor hk) with h' | h'
   ·exact ⟨h'.1,h'.2.1⟩
   ·omega
  have hds:=Qkh (f:=Qf4 n) (B:=n*(s+20)+1) h hd hok;have cm:=λk=>Q73 (M:=M) (k:=k) (by omega) (λr hr=>by rw [h.w r hr]; omega)
  show Uu Tryz.prog 73 [.one (.row (zmt M))] [.one (rp (zp (Ls (Qf4 n) M (n+1))))];obtain ⟨f,hf⟩:=nmE (Qf4 n);rw [<-hf] at hds hok ih ⊢;refine Gs Tryz.func73 rfl ?_;refine go tt [.f (decide_eq_false (by omega)),.z 3] rfl trivial ?_;refine lp (S:=Nat) 0 (λL1 i=>(13,.v (.one (.int .i64 (i:Int))))::(3,.v (.one (rp (zp (Ls f M i)))))::L1) (λ_=>[]) (λi=>M.length-i) (λi=>i<=M.length) 0 (Qh _) rfl (λ_ _=>rfl) rfl λi hi=>?_
  obtain ⟨d2,d3⟩:=hds i (by omega);by_cases hlt:i<M.length
  ·obtain ⟨r,p,hr,hp,e,b,l⟩:=h.at (k:=i) (by omega);obtain ⟨k2,k3⟩:=hok i (by omega);have hse:=Lm (ds:=ds) (k:=i) (by omega);have ci:=ih i (by omega);have cp:=Qw2 (p:=p) (q:=f (He M i)) (by omega) (by omega) b k2 (by omega);have hmb:Bd (s+(n*(s+20)+1)+7) (Fx p (f (He M i))):=Qds b k2 (Zw l (by omega));have hml:=Qaw p (f (He M i));by_cases h2:i % 2=1
   ·have es:Ls f M (i+1)=Al (Ls f M i) (Pg (Fx p (f (He M i)))):=by simp only [Ls,Qy1]; rw [e,if_pos h2]
    have hnl:=L6 (Fx p (f (He M i)));refine go tt [.t (decide_eq_true (by omega)),.x (Qjh hr),.x (Qsi hp),.c [] (cm i),.c [] ci,.c [] cp,.r 28 (eI (b:=((i % 2:Nat):Int)) rfl),.t (decide_eq_true (by omega)),.c [] (Qwy (Ut hmb (by omega)) (by omega)),.c [] (Q0g (p:=Ls f M i) (q:=Pg (Fx p (f (He M i)))) (Ut d2 (by omega)) (Ut (Qbn hmb) (by omega)) (by omega) (by omega))] rfl (by simp [Us] <;> omega) ?_;exact rd (i+1) (by omega) hlt (by rw [es]; rfl)
   ·have es:Ls f M (i+1)=Al (Ls f M i) (Fx p (f (He M i))):=by simp only [Ls,Qy1]; rw [e,if_neg h2]
    refine go tt [.t (decide_eq_true (by omega)),.x (Qjh hr),.x (Qsi hp),.c [] (cm i),.c [] ci,.c [] cp,.r 28 (eI (b:=((i % 2:Nat):Int)) rfl),.f (decide_eq_false (by omega)),.c [] (Q0g (p:=Ls f M i) (q:=Fx p (f (He M i))) (Ut d2 (by omega)) (Ut hmb (by omega)) (by omega) (by omega))] rfl (by simp [Us] <;> omega) ?_;exact rd (i+1) (by omega) hlt (by rw [es]; rfl)
  ·obtain rfl:i=n+1:=by omega
   exact en tt [.f (decide_eq_false (by omega))] rfl rfl trivial
theorem Quu {a b c:Crv} (ha:Rs a) (hb:Rs b) (hc:Rs c):SqR 100000 [15,15,0] (Ec a b c):=by
 have key:∀ k:Crv,Rs k->(∀ p∈[k.x,k.y,[k.d]],Bd 100000 p)/\∀ (j:Nat) (p:List Int),[k.x,k.y,[k.d]][j]? = some p->p.length≤[15,15,0].getD j 0+1:=λk hk=>by
  refine ⟨λp hp=>?_,λj p hp=>?_⟩
  ·simp only [Qo,Uf,or_false] at hp;rcases hp with rfl | rfl | rfl
   ·exact hk.c.x
   ·exact hk.c.y
   ·exact Zmh hk.c.d
  ·match j,hp with
   | 0,hp=>injection hp with hp; subst hp; exact hk.c.lx
   | 1,hp=>injection hp with hp; subst hp; exact hk.c.ly
   | 2,hp=>injection hp with hp; subst hp; exact Qm _
   | j+3,hp=>simp at hp
 have h3:∀ r∈Ec a b c,r=[a.x,a.y,[a.d]]\/r=[b.x,b.y,[b.d]]\/r=[c.x,c.y,[c.d]]:=λr hr=>by
  simpa [Ec] using hr
 refine ⟨rfl,λr hr=>?_,λr hr=>?_,λr hr=>?_⟩
 ·rcases h3 r hr with rfl | rfl | rfl <;> rfl
 ·rcases h3 r hr with rfl | rfl | rfl
  ·exact (key a ha).1
  ·exact (key b hb).1
  ·exact (key c hc).1
 ·rcases h3 r hr with rfl | rfl | rfl
  ·exact (key a ha).2
  ·exact (key b hb).2
  ·exact (key c hc).2
def P9 (a b c:Crv):List Int:=Qf4 3 (Ec a b c)
theorem Qlt {a b c:Crv} (ha:Rs a) (hb:Rs b) (hc:Rs c):Bd 400000 (P9 a b c)/\(P9 a b c).length<=31:=by
 rcases Qp9 3 [15,15,0] (Ec a b c) rfl (by decide) (Quu ha hb hc) with h | h
 ·exact ⟨Ut h.1 (by decide),h.2.1⟩
 ·omega
theorem Qnd {a b c:Crv} (ha:Rs a) (hb:Rs b) (hc:Rs c):Uu Tryz.prog 16 [.agg (rcl a),.agg (rcl b),.agg (rcl c)] [.one (rp (zp (P9 a b c)))]:=by
 have cd:=Q7x (by decide) 3 [15,15,0] (Ec a b c) (by decide) rfl (by decide) (Quu ha hb hc);have x0:[rcl a,rcl b,rcl c][0]? = some (rcl a):=rfl;have x1:[rcl a,rcl b,rcl c][1]? = some (rcl b):=rfl;have x2:[rcl a,rcl b,rcl c][2]? = some (rcl c):=rfl;have hs1:∀ k:Crv,∀ y∈[[LV.row (zrw [k.x,k.y,[k.d]])]],y.length=1:=λk y hy=>by rw [Qk.1 hy]; rfl
 refine Gs Tryz.func16 rfl ?_;refine go tt [.o 7 29 1] rfl trivial ?_;refine lp (S:=Nat) 4 (λL1 i=>(18,.v (.one (.int .i64 (i:Int))))::(7,.v (.one (.orow 3 1 none)))::L1) (λi=>[.blk 55 (rcl a),.blk 55 (rcl b),.blk 55 (rcl c),.row false 29 1 (zmt ((Ec a b c).take i))]) (λi=>3-i) (λi=>i<=3) 0 (by decide) rfl (λ_ _=>rfl) rfl λi hi=>?_
 rcases (show i=0\/i=1\/i=2\/i=3 by omega) with rfl | rfl | rfl | rfl
 ·exact go tt [.t rfl,.x x0,.c [] (Qcy ha),.s (sz:=1) (hs1 a)] rfl (by simp [Us,zmt,Ec]) (rd 1 (by omega) (by omega) rfl)
 ·exact go tt [.t rfl,.x x1,.c [] (Qcy hb),.s (sz:=1) (hs1 b)] rfl (by simp [Us,zmt,Ec]) (rd 2 (by omega) (by omega) rfl)
 ·exact go tt [.t rfl,.x x2,.c [] (Qcy hc),.s (sz:=1) (hs1 c)] rfl (by simp [Us,zmt,Ec]) (rd 3 (by omega) (by omega) rfl)
 ·exact en tt [.f rfl,.c [] cd] rfl rfl trivial
end Orr
namespace Orq
theorem ang {ux uy vx vy wx wy:Rat} (hu:0<ux\/ux=0/\0<uy) (hv:0<vx\/vx=0/\0<vy) (hw:0<wx\/wx=0/\0<wy)
 (h1:0<=ux*vy-vx*uy) (h2:0<=vx*wy-wx*vy):0<=ux*wy-wx*uy/\(0<ux*vy-vx*uy\/0<vx*wy-wx*vy->0<ux*wy-wx*uy):=by
 have ux0:0<=ux:=by grind
 have wx0:0<=wx:=by grind
 rcases hv with hv | ⟨hv,hv2⟩
 ·have e:vx*(ux*wy-wx*uy)=ux*(vx*wy-wx*vy)+wx*(ux*vy-vx*uy):=by grind
  have hux:0<ux:=by
   rcases hu with h | ⟨h,h'⟩
   ·exact h
   ·have:=Jk hv h';rw [h] at h1; grind
  have p1:=V6 ux0 h2;have p2:=V6 wx0 h1;have key:∀ z:Rat,vx*z=ux*(vx*wy-wx*vy)+wx*(ux*vy-vx*uy)->0<=z:=λz hz=>by
   refine Rat.not_lt.1 λhn=>?_
   have:=Jk hv (show 0 < -z by grind);grind
  refine ⟨key _ e,λhs=>?_⟩;rcases hw with hw | ⟨hw,hw2⟩
  ·have hpos:0<vx*(ux*wy-wx*uy):=by
    rcases hs with hs | hs
    ·have:=Jk hw hs; grind
    ·have:=Jk hux hs; grind
   have h0:=key _ e;refine Jg.1 λhn=>?_
   have:ux*wy-wx*uy=0:=by grind
   rw [this] at hpos; grind
  ·have:=Jk hux hw2;rw [hw]; grind
 ·rw [hv] at h1 h2;have hw0:wx=0:=by
   rcases hw with hw | hw
   ·have:=Jk hw hv2; grind
   ·exact hw.1
  have hwy:0<wy:=by grind
  have p:=V6 ux0 (Qr hwy);refine ⟨by rw [hw0]; grind,λhs=>?_⟩;rw [hv,hw0] at hs;have hux:0<ux:=by
   rcases hs with hs | hs
   ·refine Jg.1 λhn=>?_
    have:ux=0:=by grind
    rw [this] at hs; grind
   ·grind
  have:=Jk hux hwy;rw [hw0]; grind
section
variable {α:Type} (X Y:α->Rat)
def lx (a b:α):Prop:=X a<X b\/X a=X b/\Y a<Y b
def M5 (a b c:α):Rat:=(X b-X a)*(Y c-Y a)-(X c-X a)*(Y b-Y a)
variable {X Y}
theorem Dk (a:α):¬lx X Y a a:=by unfold lx; grind
theorem Qud {a b c:α} (h:lx X Y a b) (h':lx X Y b c):lx X Y a c:=by unfold lx at *; grind
theorem Dl {a b:α} (h:lx X Y a b):0<X b-X a\/X b-X a=0/\0<Y b-Y a:=by unfold lx at h; grind
theorem Qer (a b:α):M5 X Y a b a=0/\M5 X Y a b b=0:=by unfold M5; grind
theorem Qut (a b c:α):M5 X Y a c b=- M5 X Y a b c:=by unfold M5; grind
theorem Qq9 (a b c:α):M5 X Y a b c=(X b-X a)*(Y c-Y b)-(X c-X b)*(Y b-Y a):=by unfold M5; grind
def Edg (Q:α->α->Prop):List α->Prop
 | a::b::r=>Q a b/\Edg Q (b::r)
 | _=>True
def Cnv (R:α->α->α->Prop):List α->Prop
 | a::b::c::r=>R a b c/\Cnv R (b::c::r)
 | _=>True
theorem Edg.tail {Q:α->α->Prop} {a:α} {l:List α} (h:Edg Q (a::l)):Edg Q l:=by
 cases l with
 | nil=>trivial
 | cons b l=>exact h.2
theorem Cnv.tail {R:α->α->α->Prop} {a:α} {l:List α} (h:Cnv R (a::l)):Cnv R l:=by
 match l,h with
 | [],_=>trivial
 | [_],_=>trivial
 | b::c::l,h=>exact h.2
theorem Edg.imp {Q Q':α->α->Prop}:∀ {l:List α},(∀ a∈l,∀ b∈l,Q a b->Q' a b)->Edg Q l->Edg Q' l
 | [],_,_=>trivial
 | [_],_,_=>trivial
 | a::b::l,hq,h=>⟨hq a (by simp) b (by simp) h.1,Edg.imp (l:=b::l) (λx hx y hy=>hq x (Qj _ hx) y (Qj _ hy)) h.2⟩
theorem Cnv.imp {R R':α->α->α->Prop}:∀ {l:List α},(∀ a∈l,∀ b∈l,∀ c∈l,R a b c->R' a b c)->Cnv R l->Cnv R' l
 | [],_,_=>trivial
 | [_],_,_=>trivial
 | [_,_],_,_=>trivial
 | a::b::c::l,hq,h=>⟨hq a (by simp) b (by simp) c (by simp) h.1,Cnv.imp (l:=b::c::l) (λx hx y hy z hz=>hq x (Qj _ hx) y (Qj _ hy) z (Qj _ hz)) h.2⟩
def Da (s:α->α->α->Bool) (c:α):List α->List α
 | b::a::r=>if s a b c=true then b::a::r else Da s c (a::r)
 | l=>l
def Pd (s:α->α->α->Bool):List α->List α->List α
 | acc,[]=>acc
 | acc,c::l=>Pd s (c::Da s c acc) l
structure Stk (X Y:α->Rat) (P:List α) (st:List α):Prop where
 srt:st.Pairwise λb a=>lx X Y a b
 mem:∀ p∈st,p∈P
 edg:Edg (λb a=>∀ p∈P,0≤M5 X Y a b p) st
 cnv:Cnv (λc b a=>0<M5 X Y a b c) st
theorem Stk.tail {P:List α} {a:α} {st:List α} (h:Stk X Y P (a::st)):Stk X Y P st:=⟨(Q6.1 h.srt).2,λp hp=>h.mem p (Qj _ hp),h.edg.tail,h.cnv.tail⟩
theorem Zau {P:List α} {s:α->α->α->Bool} {c:α} (hs:∀ a∈P,∀ b∈P,(s a b c=true↔0<M5 X Y a b c)) (hc:∀ p∈P,lx X Y p c) :
 ∀ (st:List α) (t:α),Stk X Y P (t::st)->(∀ p∈P,lx X Y t p->0≤M5 X Y t c p) ->
 ∃ t' st',Da s c (t::st)=t'::st'/\Stk X Y P (t'::st')/\(∀ p∈P,lx X Y t' p->0≤M5 X Y t' c p)/\(∀ a r,st'=a::r->0<M5 X Y a t' c)/\(t'::st').getLast? = (t::st).getLast?
 | [],t,h,h2=>⟨t,[],rfl,h,h2,λa r e=>(by cases e),rfl⟩
 |
  a::r,t,h,h2=>by
  have ht:=h.mem t (by simp);have ha:=h.mem a (by simp);by_cases e:s a t c=true
  ·refine ⟨t,a::r,by simp only [Da]; rw [if_pos e],h,h2,λa' r' e'=>?_,rfl⟩;injection e' with e1 _
   rw [<-e1]; exact (hs a ha t ht).1 e
  ·have hle:M5 X Y a t c<=0:=Rat.not_lt.1 λh'=>e ((hs a ha t ht).2 h')
   have hat:lx X Y a t:=(Q6.1 h.srt).1 a (by simp);obtain ⟨t',st',g1,g2,g3,g4,g5⟩:=Zau hs hc r a h.tail λp hp hap=>by
    have e1:=h.edg.1 p hp;have k:=ang (Dl (hc a ha)) (Dl hat) (Dl hap) (by rw [Qut] at *; unfold M5 at *; grind) (by unfold M5 at *; grind);unfold M5; grind
   exact ⟨t',st',by simp only [Da]; rw [if_neg e]; exact g1,g2,g3,g4,by rw [g5]; rfl⟩
theorem Qnt {P:List α} {c:α}:∀ (st:List α) (t:α),Stk X Y P (t::st)->lx X Y t c->(∀ a r,st=a::r->0<M5 X Y a t c)->Edg (λb a=>0<M5 X Y a b c) (t::st)
 | [],_,_,_,_=>trivial
 | [a],t,_,_,h=>⟨h a [] rfl,trivial⟩
 |
  a::q::r,t,hS,htc,h=>by
  have h1:=h a (q::r) rfl;have h0:0<M5 X Y q a t:=hS.cnv.1;have p1:=Q6.1 hS.srt;have p2:=Q6.1 p1.2;have hat:lx X Y a t:=p1.1 a (by simp);have hqa:lx X Y q a:=p2.1 q (by simp);refine ⟨h1,Qnt (q::r) a hS.tail (Qud hat htc) λa' r' e=>?_⟩;injection e with e _;rw [<-e];rw [Qq9] at h0 h1 ⊢;have k:=(ang (Dl hqa) (Dl hat) (Dl htc) (Qr h0) (Qr h1)).2 (.inl h0);grind
theorem Zgg {P:List α} {t:α} {st:List α} {c:α} (h:Stk X Y P (t::st)) (hc:∀ p∈P,lx X Y p c) (hP:∀ p∈P,p=t\/lx X Y p t\/lx X Y t p) (hb:∀ p∈P,(t::st).getLast? = some p\/∃ b,(t::st).getLast? = some b/\lx X Y b p) (h2:∀ p∈P,lx X Y t p->0≤M5 X Y t c p) (h3:∀ a r,st=a::r->0<M5 X Y a t c):Stk X Y (P++[c]) (c::t::st):=by
 have ht:=h.mem t (by simp);have htc:=hc t ht;have hf:=Qnt st t h htc h3;refine ⟨Q6.2 ⟨λp hp=>hc p (h.mem p hp),h.srt⟩,λp hp=>?_,⟨λp hp=>?_,?_⟩,?_⟩
 ·rcases Qo.1 hp with rfl | hp
  ·simp
  ·exact Ju _ (h.mem p hp)
 ·rcases Qu.1 hp with hp | hp
  ·rcases hP p hp with rfl | hpt | htp
   ·rw [(Qer p c).1]; exact Qq
   ·cases st with
    |
     nil =>
     exfalso;rcases hb p hp with e | ⟨b,e,hb⟩
     ·injection e with e; subst e; exact Dk _ hpt
     ·injection e with e; subst e; exact Dk _ (Qud hpt hb)
    |
     cons a r =>
     have e1:=h.edg.1 p hp;have h3:=h3 a r rfl;have hat:lx X Y a t:=(Q6.1 h.srt).1 a (by simp);have k:=(ang (Dl hpt) (Dl hat) (Dl htc) (by unfold M5 at *; grind) (by unfold M5 at *; grind)).1;unfold M5; grind
   ·exact h2 p hp htp
  ·rw [Qk.1 hp,(Qer t c).2]; exact Qq
 ·cases st with
  | nil=>trivial
  |
   cons a r =>
   have key:∀ l:List α,Edg (λb a=>∀ p∈P,0≤M5 X Y a b p) l->Edg (λb a=>0<M5 X Y a b c) l->Edg (λb a=>∀ p∈P++[c],0≤M5 X Y a b p) l:=by
    intro l
    induction l with
    | nil=>intros; trivial
    |
     cons x l ih =>
     cases l with
     | nil=>intros; trivial
     |
      cons y l =>
      intro k1 k2;refine ⟨λp hp=>?_,ih k1.2 k2.2⟩;rcases Qu.1 hp with hp | hp
      ·exact k1.1 p hp
      ·rw [Qk.1 hp]; exact Qr k2.1
   exact key _ h.edg hf
 ·cases st with
  | nil=>trivial
  | cons a r=>exact ⟨h3 a r rfl,h.cnv⟩
theorem Qni {s:α->α->α->Bool} {row:List α} (hs:∀ a∈row,∀ b∈row,∀ c∈row,(s a b c=true↔0<M5 X Y a b c)) (hrow:row.Pairwise (lx X Y)) :
 ∀ (l P:List α) (t:α) (st:List α),row=P++l->Stk X Y P (t::st)->P.getLast? = some t->(t::st).getLast? = P.head? ->
 ∃ t' st',Pd s (t::st) l=t'::st'/\Stk X Y row (t'::st')/\row.getLast? = some t'/\(t'::st').getLast? = row.head?
 |
  [],P,t,st,e,h,h1,h2=>by
  rw [Zq] at e; subst e;exact ⟨t,st,rfl,h,h1,h2⟩
 |
  c::l,P,t,st,e,h,h1,h2=>by
  have hPm:∀ p∈P,p∈row:=λp hp=>by rw [e]; exact Ju _ hp
  have hcm:c∈row:=by rw [e]; simp
  have hpw:=hrow;rw [e] at hpw;obtain ⟨w1,w2,w3⟩:=Je.1 hpw;have hc:∀ p∈P,lx X Y p c:=λp hp=>w3 p hp c (by simp)
  have htop:∀ p∈P,p=t\/lx X Y p t:=λp hp=>by
   obtain ⟨P1,rfl⟩:∃ P1,P=P1++[t]:=by
    have:=Y8.1 h1;exact this
   rcases Qu.1 hp with hp | hp
   ·exact .inr ((Je.1 w1).2.2 p hp t (by simp))
   ·exact .inl (Qk.1 hp)
  obtain ⟨t',st',g1,g2,g3,g4,g5⟩:=Zau (λa ha b hb=>hs a (hPm a ha) b (hPm b hb) c hcm) hc st t h λp hp htp=>by
   rcases htop p hp with rfl | h'
   ·exact absurd htp (Dk _)
   ·exact absurd (Qud htp h') (Dk _)
  have tot:∀ p∈P,p=t'\/lx X Y p t'\/lx X Y t' p:=λp hp=>by
   obtain ⟨i,hi,rfl⟩:=Y9.1 hp;obtain ⟨j,hj,e2⟩:=Y9.1 (g2.mem t' (by simp));rcases Vy i j with h' | h' | h'
   ·exact .inr (.inl (by rw [<-e2]; exact Ye.1 w1 i j hi hj h'))
   ·subst h'; exact .inl e2
   ·exact .inr (.inr (by rw [<-e2]; exact Ye.1 w1 j i hj hi h'))
  have hPne:P≠[]:=λh'=>by rw [h'] at h1; cases h1
  have hb:∀ p∈P,(t'::st').getLast? = some p\/∃ b,(t'::st').getLast? = some b/\lx X Y b p:=λp hp=>by
   rw [g5,h2];cases P with
   | nil=>exact absurd rfl hPne
   |
    cons f P' =>
    rcases Qo.1 hp with rfl | hp
    ·exact .inl rfl
    ·exact .inr ⟨f,rfl,(Q6.1 w1).1 p hp⟩
  have hpush:=Zgg g2 hc tot hb g3 g4;obtain ⟨t2,st2,k1,k2,k3,k4⟩:=Qni hs hrow l (P++[c]) c (t'::st') (by rw [e]; simp) hpush (by simp) (by
   rw [Jz,g5,h2];cases P with
   | nil=>exact absurd rfl hPne
   | cons f P'=>rfl)
  exact ⟨t2,st2,by simp only [Pd]; rw [g1]; exact k1,k2,k3,k4⟩
theorem Q8e {P:List α} (tot:∀ p∈P,∀ q∈P,p=q\/lx X Y p q\/lx X Y q p) {z:α} :
 ∀ (L L':List α) (f:α),(f::L).Pairwise (lx X Y)->(f::L').Pairwise (lx X Y)->(∀ p∈f::L,p∈P)->(∀ p∈f::L',p∈P) ->
 Edg (λa b=>∀ p∈P,0≤M5 X Y a b p) (f::L)->Edg (λa b=>∀ p∈P,0≤M5 X Y a b p) (f::L') ->
 Cnv (λa b c=>0<M5 X Y a b c) (f::L)->Cnv (λa b c=>0<M5 X Y a b c) (f::L')->(f::L).getLast? = some z->(f::L').getLast? = some z->L=L':=by
 have one:∀ (L L':List α) (f b b':α),(f::b::L).Pairwise (lx X Y)->(f::b'::L').Pairwise (lx X Y)->(∀ p∈f::b::L,p∈P)->b'∈P ->
  Edg (λa b=>∀ p∈P,0≤M5 X Y a b p) (f::b::L)->0≤M5 X Y f b' b->Cnv (λa b c=>0<M5 X Y a b c) (f::b::L)->(f::b::L).getLast? = some z->(f::b'::L').getLast? = some z->¬lx X Y b b':=by
  intro L L' f b b' s s' m m' e e' c l l' hlt;have s1:=Q6.1 s;have hfb:lx X Y f b:=s1.1 b (by simp);have hcol:M5 X Y f b b'=0:=by
   have:=e.1 b' m';rw [Qut] at e'; grind
  cases L with
  |
   nil =>
   simp at l;subst l;have hz:b'=b\/lx X Y b' b:=by
    have:b∈f::b'::L':=V9 l';have s2:=(Q6.1 s').2;rcases Qo.1 this with rfl | h
    ·exact absurd hfb (Dk _)
    ·rcases Qo.1 h with h | h
     ·exact .inl h.symm
     ·exact .inr ((Q6.1 s2).1 b h)
   rcases hz with rfl | hz
   ·exact Dk _ hlt
   ·exact Dk _ (Qud hlt hz)
  |
   cons d M =>
   have h1:0<M5 X Y f b d:=c.1;have h2:=e.2.1 b' m';have s2:=Q6.1 s1.2;have hbd:lx X Y b d:=s2.1 d (by simp);have k:=(ang (Dl hlt) (Dl hfb) (Dl hbd) (by unfold M5 at hcol; grind) (by rw [Qq9] at h1; exact Rat.le_of_lt h1)).2 (.inr (by rw [Qq9] at h1; exact h1));unfold M5 at h2; grind
 intro L
 induction L with
 |
  nil =>
  intro L' f s s' m m' e e' c c' l l';simp at l;cases L' with
  | nil=>rfl
  |
   cons b' M' =>
   exfalso;subst l;have h1:=(Q6.1 s').1 f (by
    rw [Jz] at l';exact V9 l')
   exact Dk _ h1
 |
  cons b M ih =>
  intro L' f s s' m m' e e' c c' l l';cases L' with
  |
   nil =>
   exfalso;simp at l';subst l';have h1:=(Q6.1 s).1 f (by
    rw [Jz] at l;exact V9 l)
   exact Dk _ h1
  |
   cons b' M' =>
   have hb:=m b (by simp);have hb':=m' b' (by simp);have heq:b=b':=by
    rcases tot b hb b' hb' with h | h | h
    ·exact h
    ·exact absurd h (one M M' f b b' s s' m hb' e (e'.1 b hb) c l l')
    ·exact absurd h (one M' M f b' b s' s m' hb e' (e.1 b' hb') c' l' l)
   subst heq;rw [Jz] at l l';rw [ih M' b (Q6.1 s).2 (Q6.1 s').2 (λp hp=>m p (Qj _ hp)) (λp hp=>m' p (Qj _ hp)) e.2 e'.2 c.tail c'.tail l l']
end
end Orq
namespace Orr
open Go
theorem Qts (c:Int) (l:List Int):Hj (l.map (· * c))=Hj l*c.natAbs:=by
 have key:∀ (l:List Int) (g:Nat),(l.map (· * c)).foldl (λg z=>Nat.gcd g z.natAbs) (g*c.natAbs)=l.foldl (λg z=>Nat.gcd g z.natAbs) g*c.natAbs:=by
  intro l
  induction l with
  | nil=>intro g; rfl
  |
   cons z l ih =>
   intro g;simp only [Z1,Z6,Jt,Ub];exact ih _
 have:=key l 0;rwa [Yb] at this
theorem Qvu {l:List Int} {c:Int} (hc:c≠0) (ht:U0 l):U0 (l.map (· * c)):=by
 have h:=Qmn (l:=l.map (· * c)) (m:=l.length) (by simp) (λj y hj hy=>by rw [Qt (by simpa using hj)] at hy; cases hy) (λh0=>⟨l.getD (l.length-1) 0*c,by rw [Q7,Qbs (by omega)]; rfl,X9 (Hi ht h0) hc⟩);unfold U0;rw [h,Ql (by simp)]
theorem Zae {k:Crv} (h:Nml k) {c:Int} (hc:c<0):Crv.norm ⟨k.x.map (· * c),k.y.map (· * c),k.d*c⟩=k:=by
 obtain ⟨hx,hy,hd,hg⟩:=h;obtain ⟨K,hK⟩:∃ K:Crv,K=⟨k.x.map (· * c),k.y.map (· * c),k.d*c⟩:=⟨_,rfl⟩;have hdc:k.d*c<0:=Y7 hd hc;have hd':K.d'=k.d*c:=by rw [hK]; exact if_neg (by show ¬k.d*c=0; omega)
 have tx:trim K.x=k.x.map (· * c):=by rw [hK]; exact Qvu (by omega) hx
 have ty:trim K.y=k.y.map (· * c):=by rw [hK]; exact Qvu (by omega) hy
 have e:k.d*c::(k.x.map (· * c)++k.y.map (· * c))=(k.d::(k.x++k.y)).map (· * c):=by simp
 have hG:K.g=c:=by
  unfold Crv.g;rw [hd',tx,ty,if_pos hdc,e,Qts,hg]; omega
 have back:∀ l:List Int,(l.map (· * c)).map (· / c)=l:=λl=>by
  rw [List.map_map]
  conv=>rhs; rw [<-List.map_id l]
  exact Ys λz _=>Int.mul_ediv_cancel z (by omega)
 rw [<-hK];unfold Crv.norm;rw [hG,tx,ty,hd',back,back,Int.mul_ediv_cancel _ (by omega),show trim k.x=k.x from hx,show trim k.y=k.y from hy]
theorem Q23 {M:List Pt} (hs:Tk M) {i j:Nat} {p r:Pt} (hij:i<j) (hi:M[i]? = some p) (hj:M[j]? = some r):p.id<r.id:=by
 obtain ⟨h1,e1⟩:=Qd.1 hi;obtain ⟨h2,e2⟩:=Qd.1 hj;rw [<-e1,<-e2];exact Ye.1 hs i j h1 h2 hij
theorem Qyf {M:List Pt} (hs:Tk M) {i:Nat} {p:Pt} (h:M[i]? = some p):Li M p.id=i :=
 Ql2 (λj r hj hr=>Q23 hs hj hr h) (.inr ⟨p,h,Int.lt_irrefl _⟩)
theorem Zkj {M:List Pt} (hs:Tk M) {i:Nat} {p:Pt} (h:M[i]? = some p):has M p.id=true:=by
 unfold has; rw [Qyf hs h,h]; exact decide_eq_true rfl
theorem Qk6 {M:List Pt} {i:Nat} (hi:i<M.length) (j:Nat):(M.take i++M.drop (i+1))[j]? = if j<i then M[j]? else M[j+1]? := by
 by_cases h:j<i
 ·rw [if_pos h,Zf (by rw [Qp]; omega),Xm,if_pos h]
 ·rw [if_neg h,Z0 (by rw [Qp]; omega),Qp,Z5];congr 1; omega
theorem Qtv {M:List Pt} {i:Nat} (hi:i<M.length):(M.take i++M.drop (i+1)).length+1=M.length:=by
 rw [Q3,Qp,Xj]; omega
theorem Qu5 {M:List Pt} (hs:Tk M) {i:Nat} {p:Pt} (h:M[i]? = some p):Li (M.take i++M.drop (i+1)) p.id=i:=by
 have hi:=(Qd.1 h).1;refine Ql2 (λj r hj hr=>?_) ?_
 ·rw [Qk6 hi,if_pos hj] at hr; exact Q23 hs hj hr h
 ·by_cases hl:i+1<M.length
  ·refine .inr ⟨M[i+1],?_,?_⟩
   ·rw [Qk6 hi,if_neg (Ki _)]; exact Qe hl
   ·have:=Q23 hs (Ui i) h (Qe hl); omega
  ·left; have:=Qtv hi; omega
theorem Q9n {M:List Pt} (hs:Tk M) {i:Nat} {p:Pt} (h:M[i]? = some p):has (M.take i++M.drop (i+1)) p.id=false:=by
 have hi:=(Qd.1 h).1;unfold has;rw [Qu5 hs h,Qk6 hi,if_neg (Ki _)];cases hn:M[i+1]? with
 | none=>rfl
 |
  some r =>
  have:=Q23 hs (Ui i) h hn;exact decide_eq_false (by omega)
theorem Za6 {M:List Pt} (hs:Tk M) {i:Nat} {p:Pt} (h:M[i]? = some p):put (M.take i++M.drop (i+1)) p=M:=by
 have hi:=(Qd.1 h).1;have hl:(M.take i).length=i:=by rw [Qp]; omega
 unfold put;rw [Qu5 hs h,Jm (by omega),Ql (by omega),Yn (by omega),List.drop_of_length_le (by omega),Yi];have e:M=M.take i++M.drop i:=(Zb i M).symm
 conv=>rhs; rw [e,Ze hi,(Qd.1 h).2]
theorem Zby {M:List Pt} (hs:Tk M) {i:Nat} {p:Pt} (h:M[i]? = some p):M.set (Li M p.id) p=M:=by
 rw [Qyf hs h];apply Xe;intro j;rw [Yk]
 split
 ·rename_i e;subst e;rw [if_pos (Qd.1 h).1,h]
 ·rfl
end Orr
namespace Orq
open Orr Go
theorem Qvt {p q:List Int} (tp:U0 p) (tq:U0 q) (h:∀ i,p.getD i 0=q.getD i 0):p=q:=by
 have hl:∀ {p q:List Int},U0 p->(∀ i,p.getD i 0=q.getD i 0)->p.length<=q.length:=λ{p q} tp h=>by
  refine Nat.not_lt.1 λhn=>?_
  have h1:=Hi tp (by omega);rw [h,Qg,Qt (by omega)] at h1;exact h1 rfl
 have e:=Ko (hl tp h) (hl tq λi=>(h i).symm);refine List.ext_getElem e λi h1 h2=>?_
 have:=h i;rw [Qg,Qg,Qe h1,Qe h2] at this;exact this
theorem Qtu {p:List Int} (h:p=[]) (i:Nat):p.getD i 0=0:=by rw [h]; simp
theorem D6 (p:List Int) (c:Int) (i:Nat):(Fg p c).getD i 0=p.getD i 0*c:=by
 unfold Fg;rw [Tq]
 split
 ·rfl
 ·rename_i h;rw [Qg,Qt (by omega)]; simp
theorem Ql6 (p q:List Int) (i:Nat):(Px p q).getD i 0=p.getD i 0-q.getD i 0:=by
 unfold Px;rw [Tq]
 split
 ·rfl
 ·rename_i h;rw [Qg,Qg,Qt (by omega),Qt (by omega)]; simp
theorem Zf5 {x y:Crv} (hx:Nml x) (hy:Nml y) (h1:Hk x y=[]) (h2:Hq x y=[]):x=y:=by
 have e1:∀ i,y.x.getD i 0*x.d=x.x.getD i 0*y.d:=λi=>by
  have:=Qtu h1 i;unfold Hk at this;rw [Ql6,D6,D6] at this;omega
 have e2:∀ i,y.y.getD i 0*x.d=x.y.getD i 0*y.d:=λi=>by
  have:=Qtu h2 i;unfold Hq at this;rw [Ql6,D6,D6] at this;omega
 have key:∀ {x y:Crv},Nml x->Nml y->(∀ i,y.x.getD i 0*x.d=x.x.getD i 0*y.d)->(∀ i,y.y.getD i 0*x.d=x.y.getD i 0*y.d)->x.d∣y.d:=λ{x y} hx hy e1 e2=>by
  have hd:=Qtl (d:=x.d) (l:=(x.d::(x.x++x.y)).map (· * y.d)) λz hz=>by
   obtain ⟨w,hw,rfl⟩:=Zn.1 hz;rcases Qo.1 hw with rfl | hw
   ·exact W7 _ _
   ·rcases Qu.1 hw with hw | hw
    ·obtain ⟨i,hi,rfl⟩:=Y9.1 hw;have:=e1 i;rw [show x.x.getD i 0=x.x[i] from by rw [Qg,Qe hi]; rfl] at this;rw [<-this]; exact Vd _ _
    ·obtain ⟨i,hi,rfl⟩:=Y9.1 hw;have:=e2 i;rw [show x.y.getD i 0=x.y[i] from by rw [Qg,Qe hi]; rfl] at this;rw [<-this]; exact Vd _ _
  rw [Qts,hx.2.2.2,Kk] at hd;exact Vk hd (Int.natAbs_dvd.2 (Wc _))
 have hd:x.d=y.d:=Int.dvd_antisymm (We hx.2.2.1) (We hy.2.2.1) (key hx hy e1 e2) (key hy hx (λi=>(e1 i).symm) λi=>(e2 i).symm);have hd0:y.d≠0:=by have:=hy.2.2.1; omega
 rw [hd] at e1 e2;have ex:x.x=y.x:=Qvt hx.1 hy.1 λi=>(Y3 hd0 (e1 i)).symm
 have ey:x.y=y.y:=Qvt hx.2.1 hy.2.1 λi=>(Y3 hd0 (e2 i)).symm
 cases x; cases y;simp only at hd ex ey;rw [hd,ex,ey]
theorem Zhg (l:List Pt):(Mc l).Pairwise λx y=>x.c≠y.c:=by
 have key:∀ (l out:List Pt),out.Pairwise (λx y=>x.c≠y.c)->(l.foldl Nn out).Pairwise λx y=>x.c≠y.c:=by
  intro l
  induction l with
  | nil=>intro out h; exact h
  |
   cons p l ih =>
   intro out h;refine ih _ ?_;unfold Nn
   split
   ·exact h
   ·rename_i hn;refine Je.2 ⟨h,Vi _ _,λa ha b hb e=>hn ?_⟩;rw [Qk.1 hb] at e;rw [List.any_eq_true];exact ⟨a,ha,by rw [<-e]; simp [Ev]⟩
 exact key l [] .nil
theorem Zcw (l:List Pt):(Mc l).Sublist l:=by
 have key:∀ (l out o:List Pt),out.Sublist o->(l.foldl Nn out).Sublist (o++l):=by
  intro l
  induction l with
  | nil=>intro out o h; rw [Zq]; exact h
  |
   cons p l ih =>
   intro out o h;have:(Nn out p).Sublist (o++[p]):=by
    unfold Nn
    split
    ·exact h.trans (List.sublist_append_left _ _)
    ·exact h.append (List.Sublist.refl _)
   have:=ih _ _ this;rwa [Zl] at this
 exact key l [] [] (List.Sublist.refl _)
theorem Ie (f:Nat->List Int) (rows:List (List (List Int))) (q:Rat) (i:Nat):Uy (Cc f rows (i+1)) q=Uy (Cc f rows i) q+(if i % 2=0 then 1 else -1)*(Uy ((rows.getD i []).getD 0 []) q*Uy (f i) q):=by
 simp only [Cc]
 split
 ·rename_i h;have:Uy ((rows.getD i []).getD 0 []) q=0:=by rw [Qi h]; rfl
  rw [this]; grind
 ·split
  ·rw [Qu1,Fp]; grind
  ·rw [Bb,Fp]; grind
theorem Q2b (z:Int) (q:Rat):Uy [z] q=(z:Rat):=by simp [Uy,Rat.add_zero]
theorem Quy (p:List Int) (q:Rat):Uy (Dn 1 [[p]]) q=Uy p q:=by
 show Uy (Cc (λi=>Dn 0 (Qch [[p]] i)) [[p]] (0+1)) q=_;rw [Ie];show (0:Rat)+1*(Uy p q*Uy [1] q)=_;rw [Q2b];have:((1:Int):Rat)=1:=rfl;grind
theorem Qlv (p r s t:List Int) (q:Rat):Uy (Dn 2 [[p,r],[s,t]]) q=Uy p q*Uy t q-Uy s q*Uy r q:=by
 show Uy (Cc (λi=>Dn 1 (Qch [[p,r],[s,t]] i)) [[p,r],[s,t]] (0+1+1)) q=_;rw [Ie,Ie];show (0:Rat)+1*(Uy p q*Uy (Dn 1 [[t]]) q)+(-1)*(Uy s q*Uy (Dn 1 [[r]]) q)=_;rw [Quy,Quy]; grind
theorem Zaq (a1 a2 a3 b1 b2 b3 c1 c2 c3:List Int) (q:Rat):Uy (Dn 3 [[a1,a2,a3],[b1,b2,b3],[c1,c2,c3]]) q=Uy a1 q*(Uy b2 q*Uy c3 q-Uy c2 q*Uy b3 q)-Uy b1 q*(Uy a2 q*Uy c3 q-Uy c2 q*Uy a3 q)+Uy c1 q*(Uy a2 q*Uy b3 q-Uy b2 q*Uy a3 q):=by
 show Uy (Cc (λi=>Dn 2 (Qch [[a1,a2,a3],[b1,b2,b3],[c1,c2,c3]] i)) [[a1,a2,a3],[b1,b2,b3],[c1,c2,c3]] (0+1+1+1)) q=_;rw [Ie,Ie,Ie];show (0:Rat)+1*(Uy a1 q*Uy (Dn 2 [[b2,b3],[c2,c3]]) q)+(-1)*(Uy b1 q*Uy (Dn 2 [[a2,a3],[c2,c3]]) q)+1*(Uy c1 q*Uy (Dn 2 [[a2,a3],[b2,b3]]) q)=_;rw [Qlv,Qlv,Qlv]; grind
theorem Qy2 {a b c:Pt} (ha:Sc a.c) (hb:Sc b.c) (hc:Sc c.c) (q:Rat):U5 (Uy (Hh a.c b.c c.c) q)=U5 (M5 (px · q) (py · q) a b c):=by
 have Li:∀ {k:Crv},Sc k->(0:Rat)<(k.d:Rat):=λh=>by exact_mod_cast h.n.2.2.1
 have pa:=Li ha;have pb:=Li hb;have pc:=Li hc;have xx:∀ {p:Pt},0<(p.c.d:Rat)->Uy p.c.x q=px p q*(p.c.d:Rat)/\Uy p.c.y q=py p q*(p.c.d:Rat):=λ{p} h=>by
  unfold px py;exact ⟨(Zk (by grind)).symm,(Zk (by grind)).symm⟩
 obtain ⟨xa,ya⟩:=xx pa;obtain ⟨xb,yb⟩:=xx pb;obtain ⟨xc,yc⟩:=xx pc;have e:Uy (Hh a.c b.c c.c) q=((a.c.d:Rat)*(b.c.d:Rat)*(c.c.d:Rat))*M5 (px · q) (py · q) a b c:=by
  unfold Hh Ec M5;rw [Zaq,Q2b,Q2b,Q2b,xa,xb,xc,ya,yb,yc];grind
 rw [e,D8 (Jk (Jk pa pb) pc)]
def Qei (sg:List Int->Int) (a b c:Pt):Bool:=decide (0<Tg sg (Hh a.c b.c c.c))
def Sr (sg:List Int->Int) (row:List Pt):List Pt:=(Pd (Qei sg) [] row).reverse
def Dq (sg:List Int->Int) (row:List Pt):List Pt:=if row.length<3 then row else (Sr sg row).dropLast++(Sr sg row.reverse).dropLast
def Hx (l:List Pt) (a:Tm):List Pt:=Dq (G9 a) (So a (Mc l))
def Ft (C:List Pt):List (Pt×Pt):=C.zip (C.drop 1++C.take 1)
def Pu (sg:List Int->Int) (a b c:Pt):Ct:=⟨3,a.id,b.id,c.id,0,Hh a.c b.c c.c,Tg sg (Hh a.c b.c c.c)⟩
def Sf (e:Pt×Pt) (c:Pt):Bool:=decide (c.id≠e.1.id) && decide (c.id≠e.2.id)
def Su (sg:List Int->Int) (l:List Pt) (e:Pt×Pt):List Ct:=(l.filter (Sf e)).map λc=>Pu sg e.1 e.2 c
def Pf (sg:List Int->Int) (l C:List Pt):List Ct:=if C.length<2 then [] else (Ft C).flatMap (Su sg l)
def bcH (l:List Pt) (a:Tm):List Ct:=bcS l a++Pf (G9 a) l (Hx l a)
abbrev brH (l:List Pt) (a:Tm):List (List LV):=Ux (Hx l a)
def Qji (l:List Pt):List (List Int):=l.flatMap λx=>l.flatMap λy=>l.map λz=>Hh x.c y.c z.c
theorem Qso {l:List Pt} {x y z:Pt} (hx:x∈l) (hy:y∈l) (hz:z∈l):Hh x.c y.c z.c∈Qji l :=
 Zy.2 ⟨x,hx,Zy.2 ⟨y,hy,Zn.2 ⟨z,hz,rfl⟩⟩⟩
theorem Zdk {l:List Pt} (hl:∀ p∈l,Sc p.c):∀ p∈Qji l,Cp p:=λp hp=>by
 obtain ⟨x,hx,hp⟩:=Zy.1 hp;obtain ⟨y,hy,hp⟩:=Zy.1 hp;obtain ⟨z,hz,rfl⟩:=Zn.1 hp;exact Qf0 (hl x hx) (hl y hy) (hl z hz)
theorem Ql0 {α:Type} (s:α->α->α->Bool) (c:α):∀ st:List α,(Da s c st).Sublist st
 | []=>List.Sublist.refl _
 | [_]=>List.Sublist.refl _
 |
  b::a::r=>by
  simp only [Da]
  split
  ·exact List.Sublist.refl _
  ·exact (Ql0 s c (a::r)).trans (List.sublist_cons_self _ _)
theorem Qc0 {α:Type} {s:α->α->α->Bool}:∀ {l acc:List α} {x:α},x∈Pd s acc l->x∈acc\/x∈l
 | [],acc,x,h=>.inl h
 |
  c::l,acc,x,h=>by
  rcases Qc0 (l:=l) h with h | h
  ·rcases Qo.1 h with rfl | h
   ·exact .inr (by simp)
   ·exact .inl ((Ql0 s c acc).subset h)
  ·exact .inr (Qj _ h)
theorem Qcz {α:Type} (s:α->α->α->Bool):∀ (l acc:List α),(Pd s acc l).length<=acc.length+l.length
 | [],acc=>by simp [Pd]
 |
  c::l,acc=>by
  have h1:=Qcz s l (c::Da s c acc);have h2:=(Ql0 s c acc).length_le;simp only [Pd,Q8] at h1 ⊢;omega
theorem Qj6 {sg:List Int->Int} {row:List Pt} {x:Pt} (h:x∈Sr sg row):x∈row:=by
 unfold Sr at h;rcases Qc0 (Jd.1 h) with h | h
 ·cases h
 ·exact h
theorem I3 (sg:List Int->Int) (row:List Pt):(Sr sg row).length<=row.length:=by
 have:=Qcz (Qei sg) row [];unfold Sr; rw [List.length_reverse]; simpa using this
theorem Qyv {sg:List Int->Int} {row:List Pt} {x:Pt} (h:x∈Dq sg row):x∈row:=by
 unfold Dq at h
 split at h
 ·exact h
 ·rcases Qu.1 h with h | h
  ·exact Qj6 ((List.dropLast_sublist _).subset h)
  ·exact Jd.1 (Qj6 ((List.dropLast_sublist _).subset h))
theorem Qyu (sg:List Int->Int) (row:List Pt):(Dq sg row).length<=2*row.length:=by
 unfold Dq
 split
 ·omega
 ·have h1:=I3 sg row;have h2:=I3 sg row.reverse;rw [Xv] at h2;rw [Q3,List.length_dropLast,List.length_dropLast]; omega
theorem La {l:List Pt} {a:Tm} {x:Pt} (h:x∈Hx l a):x∈l:=Mq (Hr.1 (Qyv h))
theorem A2 (l:List Pt) (a:Tm):(Hx l a).length<=2*l.length:=by
 have h1:=Qyu (G9 a) (So a (Mc l));rw [Db] at h1;have:=Qmp l;unfold Hx; omega
theorem Qhj {C:List Pt} {e:Pt×Pt} (h:e∈Ft C):e.1∈C/\e.2∈C:=by
 unfold Ft at h;have h1:=List.of_mem_zip (show (e.1,e.2)∈_ from h);refine ⟨h1.1,?_⟩;rcases Qu.1 h1.2 with h | h
 ·exact Q9 h
 ·exact Qn h
theorem Qxr {sg:List Int->Int} {l C:List Pt} {x:Ct} (h:x∈Pf sg l C):∃ e∈Ft C,∃ c∈l,Sf e c=true/\x=Pu sg e.1 e.2 c:=by
 unfold Pf at h
 split at h
 ·cases h
 ·obtain ⟨e,he,h⟩:=Zy.1 h;obtain ⟨c,hc,rfl⟩:=Zn.1 h;obtain ⟨h1,h2⟩:=Km.1 hc;exact ⟨e,he,c,h1,h2,rfl⟩
theorem Qpo {l:List Pt} {a:Tm}:∀ x∈bcH l a,x.p∈Qdq l++Qji l:=λx hx=>by
 rcases Qu.1 hx with hx | hx
 ·exact Ju _ (Zdn x hx)
 ·obtain ⟨e,he,c,hc,_,rfl⟩:=Qxr hx;obtain ⟨h1,h2⟩:=Qhj he;exact Yc _ (Qso (La h1) (La h2) hc)
theorem Qii {l:List Pt} (hl:∀ p∈l,Sc p.c):∀ p∈Qdq l++Qji l,Cp p:=λp hp=>by
 rcases Qu.1 hp with h | h
 ·exact Qzo hl p h
 ·exact Zdk hl p h
theorem Qc3 {α β:Type} (f:α->List β) (n:Nat):∀ (m:List α),(∀ x∈m,(f x).length≤n)->(m.flatMap f).length≤m.length*n
 | [],_=>by simp
 |
  x::m,h=>by
  have:=Qc3 f n m λy hy=>h y (Qj _ hy)
  have:=h x (by simp);rw [J3,Q3,Q8,Z7]; omega
theorem Qxq (sg:List Int->Int) (l C:List Pt):(Pf sg l C).length<=C.length*l.length:=by
 unfold Pf
 split
 ·simp
 ·refine Qc (Qc3 _ l.length _ λe _=>?_) (Q0 _ ?_)
  ·unfold Su; rw [List.length_map]; exact List.length_filter_le _ _
  ·unfold Ft; rw [List.length_zip]; exact Nat.min_le_left _ _
theorem Qjk {l:List Pt} (hl:∀ p∈l,Sc p.c) (hn:l.length≤10):BuildOk (bcH l) :=
 ⟨λ_ _ x hx=>Qii hl _ (Qpo x hx),λa _=>by
  have h1:=Qxq (G9 a) l (Hx l a);have h2:=A2 l a;have h3:(Hx l a).length*l.length<=20*10:=Zh (by omega) hn;show (bcS l a++Pf (G9 a) l (Hx l a)).length<=1000;have h4:(bcS l a).length<=l.length:=by unfold bcS; rw [Nj,Db]; omega
  rw [Q3]; omega⟩
def Eu {α:Type} (l:List α):List (α×α):=l.zip (l.drop 1)
theorem Qqf {α:Type} {Q:α->α->Prop}:∀ {l:List α},Edg Q l↔∀ e∈Eu l,Q e.1 e.2
 | []=>by simp [Edg,Eu]
 | [_]=>by simp [Edg,Eu]
 |
  a::b::l=>by
  have ih:=Qqf (Q:=Q) (l:=b::l);have e:Eu (a::b::l)=(a,b)::Eu (b::l):=rfl;rw [e];constructor
  ·rintro ⟨h1,h2⟩ x hx
   rcases Qo.1 hx with rfl | hx
   ·exact h1
   ·exact ih.1 h2 x hx
  ·intro h;exact ⟨h (a,b) (by simp),ih.2 λx hx=>h x (Qj _ hx)⟩
theorem Qkc {α:Type} (f z:α) (A:List α):Eu (f::A++[z])=(f::A).zip (A++[z]):=by
 unfold Eu;rw [Xd,Wp,Xq];have:f::(A++[z])=(f::A)++[z]:=rfl;rw [this];have h:A++[z]=(A++[z])++[]:=(Zq _).symm
 conv=>lhs; rw [h]
 rw [List.zip_append (by simp)];simp
theorem Qtm {f z:Pt} {A B:List Pt}:Ft ((f::A++[z]).dropLast++(z::B++[f]).dropLast)=Eu (f::A++[z])++Eu (z::B++[f]):=by
 rw [V8,V8,Qkc,Qkc,<-List.zip_append (by simp)];unfold Ft;congr 1;simp
theorem Edg.rev {α:Type} {Q:α->α->Prop}:∀ {l:List α},Edg Q l->Edg (λa b=>Q b a) l.reverse:=by
 have app:∀ {Q:α->α->Prop} {l:List α} {b a:α},Edg Q (l++[b])->Q b a->Edg Q (l++[b]++[a]):=by
  intro Q l
  induction l with
  | nil=>intro b a _ h; exact ⟨h,trivial⟩
  |
   cons x l ih =>
   intro b a h h2;cases l with
   | nil=>exact ⟨h.1,ih h.2 h2⟩
   | cons y l=>exact ⟨h.1,ih h.2 h2⟩
 intro l
 induction l with
 | nil=>intro _; trivial
 |
  cons a l ih =>
  intro h;cases l with
  | nil=>trivial
  |
   cons b l =>
   have:=ih h.2;rw [Yl] at this ⊢;rw [Yl];exact app this h.1
theorem Cnv.rev {α:Type} {R:α->α->α->Prop}:∀ {l:List α},Cnv R l->Cnv (λa b c=>R c b a) l.reverse:=by
 have app:∀ {R:α->α->α->Prop} {l:List α} {c b a:α},Cnv R (l++[c,b])->R c b a->Cnv R (l++[c,b,a]):=by
  intro R l
  induction l with
  | nil=>intro c b a _ h; exact ⟨h,trivial⟩
  |
   cons x l ih =>
   intro c b a h h2;cases l with
   | nil=>exact ⟨h.1,ih h.2 h2⟩
   |
    cons y l =>
    cases l with
    | nil=>exact ⟨h.1,ih h.2 h2⟩
    | cons w l=>exact ⟨h.1,ih h.2 h2⟩
 intro l
 induction l with
 | nil=>intro _; trivial
 |
  cons a l ih =>
  intro h
  match l,h with
  | [],_=>trivial
  | [_],_=>trivial
  |
   b::c::l,h =>
   have:=ih h.2;rw [Yl,Yl,Zl] at this;rw [Yl,Yl,Yl,Zl,Zl];exact app this h.1
end Orq
namespace Orr
open Go Go.Proofs Orq
set_option maxRecDepth 10000
theorem Qz0 {a b c:Pt} {t:Tm} (ha:Sc a.c) (hb:Sc b.c) (hc:Sc c.c) (ht:Va t):Uu Tryz.prog 179 [.one (.int .i64 3),.agg (ta t),.one (.row [Gy a,Gy b,Gy c])] [.agg (Qci (Pu (G9 t) a b c)),.one (.int .i64 0)]:=by
 have hp:=(Qf0 ha hb hc).dp;have e:Qci (Pu (G9 t) a b c)=[.int .i64 3,.int .i64 a.id,.int .i64 b.id,.int .i64 c.id,.int .i64 0,pl (Hh a.c b.c c.c),.int .i64 (Tg (G9 t) (Hh a.c b.c c.c))]:=by rw [Pu]
 rw [e];have cg:=Q0e hp ht;have cf:=Qsu ha hb hc;generalize Hh a.c b.c c.c=F at *;refine Gs Tryz.func179 rfl ?_;refine go tt [.c [] Q33,.f rfl] rfl trivial ?_;refine lp (S:=Nat) 3 (λL1 i=>(22,.v (.one (.int .i64 (i:Int))))::L1) (λi=>[.blk 74 (ta t),.blk 90 zCt,.blk 90 [.int .i64 3,.int .i64 (if 1<=i then a.id else 0),.int .i64 (if 2<=i then b.id else 0),.int .i64 (if 3<=i then c.id else 0),.int .i64 0,.nils,.int .i64 0]]) (λi=>3-i) (λi=>i<=3) 0 (Qh _) rfl (λ_ _=>rfl) rfl λi hi=>?_
 rcases (show i=0\/i=1\/i=2\/i=3 by omega) with rfl | rfl | rfl | rfl
 ·refine go tt [.t rfl,.x (i:=0) (xs:=Gy a) rfl,.i 0] rfl (by simp [Us]) ?_;exact rd 1 (by omega) (by omega) rfl
 ·refine go tt [.t rfl,.x (i:=1) (xs:=Gy b) rfl,.i 1] rfl (by simp [Us]) ?_;exact rd 2 (by omega) (by omega) rfl
 ·refine go tt [.t rfl,.x (i:=2) (xs:=Gy c) rfl,.i 2] rfl (by simp [Us]) ?_;exact rd 3 (by omega) (by omega) rfl
 ·exact en tt [.f rfl,.f rfl,.f rfl,.t rfl,.x (i:=0) (xs:=Gy a) rfl,.x (i:=1) (xs:=Gy b) rfl,.x (i:=2) (xs:=Gy c) rfl,.c [] cf,.c [] cg] rfl rfl trivial
theorem Es {α:Type} (s:α->α->α->Bool):∀ (l acc:List α) (c:α),Pd s acc (l++[c])=c::Da s c (Pd s acc l)
 | [],_,_=>rfl
 | _::l,_,c=>Es s l _ c
theorem Qz9 {R:List Pt} {t:Tm} (hR:∀ p∈R,Sc p.c) (hn:R.length≤1000000) (ht:Va t):Uu Tryz.prog 248 [.agg (ta t),.one (pts R)] [.one (pts (Sr (G9 t) R))]:=by
 have hcl:=Rl R;show Uu Tryz.prog 248 [.agg (ta t),.one (.row (Ux R))] [.one (.row (Ux (Pd (Qei (G9 t)) [] R).reverse))];obtain ⟨s,hs⟩:=nmE (Qei (G9 t));have hs':∀ a b c,s a b c=decide (0<Tg (G9 t) (Hh a.c b.c c.c)):=λa b c=>by rw [hs]; rfl
 rw [<-hs];refine Gs Tryz.func248 rfl ?_;refine go tt [.o 5 135 5] rfl trivial ?_;refine lp (S:=Nat) 2 (λL1 i=>(10,.v (.one (.int .i64 (i:Int))))::(5,.v (.one (.orow 1 5 none)))::L1) (λi=>[.blk 74 (ta t),.row false 135 5 (Ux (Pd s [] (R.take i)).reverse)]) (λi=>R.length-i) (λi=>i<=R.length) 0 (Qh _) rfl (λ_ _=>rfl) rfl λi hi=>?_
 by_cases hlt:i<R.length
 ·obtain ⟨c,hc⟩:=gxE (l:=R) (i:=i) hlt;have hcp:=hR c (Qa hc);have hst:Pd s [] (R.take (i+1))=c::Da s c (Pd s [] (R.take i)):=by rw [Zp,hc]; exact Es s _ _ c
  obtain ⟨O,hO⟩:=nmE (Pd s [] (R.take i));have hOl:O.length<=1000000:=by
   have:=Qcz s (R.take i) [];rw [<-hO,Qp] at this; simp at this; omega
  have hOm:∀ x∈O,Sc x.c:=λx hx=>by
   rw [hO] at hx;rcases Qc0 hx with h | h
   ·cases h
   ·exact hR x (Qn h)
  rw [<-hO] at hst ⊢;have hrl:(Ux O.reverse).length=O.length:=by rw [Rl,Xv]
  have hm:∀ y∈[Gy c],y.length=5:=λy hy=>by rw [Qk.1 hy]; rfl
  have hget:∀ {pre r:List Pt} {x:Pt},O=pre++x::r->∀ j,j=r.length->(Ux O.reverse)[j]? = some (Gy x):=λ{pre r x} e j hj=>by
   refine Ht ?_;rw [e,hj]; simp
  have hfin:∀ {pre st:List Pt},O=pre++st->Ux (c::st).reverse=(Ux O.reverse).take st.length++[Gy c]:=λ{pre st} e=>by
   rw [e]; simp [Ux,Jr,List.take_append]
  have hfull:Ux (c::O).reverse=Ux O.reverse++[Gy c]:=by simp [Ux]
  refine go tt [.t (by simp [hcl]; omega),.x (Ht hc)] rfl trivial ?_;refine lp (S:=Bool×List Pt) 3 (λL1 s=>(5,.v (.one (.orow 1 5 (cond s.1 (some (0,s.2.length)) none))))::L1) (λ_=>[.blk 74 (ta t),.row false 135 5 (Ux O.reverse),.blk 135 (Gy c)]) (λs=>s.2.length) (λst=>(∃ pre,O=pre++st.2/\(st.1=false->pre=[]))/\Da s c st.2=Da s c O) (false,O) ⟨⟨[],rfl,λ_=>rfl⟩,rfl⟩ rfl (λ_ _=>rfl) rfl λ⟨b,st⟩ ⟨⟨pre,h1,h2⟩,h3⟩=>?_
  have h1:O=pre++st:=h1;have h3:Da s c st=Da s c O:=h3;have hl1:O.length=pre.length+st.length:=by rw [h1,Q3]
  have fin:∀ {st:List Pt},O=pre++st->Da s c st=Da s c O->Da s c st=st->Ux (Pd s [] (R.take (i+1))).reverse=(Ux O.reverse).take st.length++[Gy c]/\(pre=[]->Ux (Pd s [] (R.take (i+1))).reverse=Ux O.reverse++[Gy c]):=λ{st} e1 e2 e3=>by
   rw [hst,<-e2,e3];refine ⟨hfin e1,λhp=>?_⟩;rw [hp] at e1;rw [<-hfull,e1]; rfl
  rcases st with _ | ⟨z,_ | ⟨y,r⟩⟩
  ·obtain ⟨f1,f2⟩:=fin h1 h3 rfl;cases b with
   |
    false =>
    have hp:=h2 rfl;have f2:=f2 hp;rw [hp] at hl1;have hl2:(Ux O.reverse).length<=1:=by rw [hrl,hl1]; simp
    refine go tt [.g 17 false (decide_eq_false (by omega)),.f rfl,.s (sz:=5) hm] rfl (by simp [Us]; omega) ?_;exact rd (i+1) (by omega) hlt (by rw [f2]; rfl)
   |
    true =>
    refine go tt [.g 17 false (decide_eq_false (by simp)),.f rfl,.s (sz:=5) hm] rfl (by simp [Us]; omega) ?_;exact rd (i+1) (by omega) hlt (by rw [f1]; rfl)
  ·obtain ⟨f1,f2⟩:=fin h1 h3 rfl;cases b with
   |
    false =>
    have hp:=h2 rfl;have f2:=f2 hp;rw [hp] at hl1;have hl2:(Ux O.reverse).length<=1:=by rw [hrl,hl1]; simp
    refine go tt [.g 17 false (decide_eq_false (by omega)),.f rfl,.s (sz:=5) hm] rfl (by simp [Us]; omega) ?_;exact rd (i+1) (by omega) hlt (by rw [f2]; rfl)
   |
    true =>
    refine go tt [.g 17 false (decide_eq_false (by simp)),.f rfl,.s (sz:=5) hm] rfl (by simp [Us]; omega) ?_;exact rd (i+1) (by omega) hlt (by rw [f1]; rfl)
  ·have sz:=hOm z (by rw [h1]; simp);have sy:=hOm y (by rw [h1]; simp);have co:=Qsu sy sz hcp;have cg:=Q0e (Qf0 sy sz hcp).dp ht;have gz:=hget h1 (r.length+1) rfl;have gy:=hget (pre:=pre++[z]) (r:=r) (x:=y) (by rw [h1]; simp) r.length rfl;have hl1:O.length=pre.length+(r.length+2):=hl1;have hls:=hs' y z c;by_cases hq:s y z c=true
   ·have hg:¬Tg (G9 t) (Hh y.c z.c c.c)<=0:=by rw [hls] at hq; have:=of_decide_eq_true hq; omega
    obtain ⟨f1,f2⟩:=fin h1 h3 (by simp only [Da]; rw [if_pos hq]);cases b with
    |
     false =>
     have hp:=h2 rfl;have f2:=f2 hp;rw [hp] at hl1;have hl2:(Ux O.reverse).length=r.length+2:=by rw [hrl,hl1]; simp
     refine go tt [.g 17 true (decide_eq_true (by omega)),.r 21 (eI (b:=(r.length:Int)) (by omega)),.i r.length,.x gy,.r 28 (eI (b:=((r.length+1:Nat):Int)) (by omega)),.i (r.length+1),.x gz,.c [] co,.c [] cg,.f (decide_eq_false hg),.s (sz:=5) hm] rfl (by simp [Us]; omega) ?_;exact rd (i+1) (by omega) hlt (by rw [f2]; rfl)
    |
     true =>
     refine go tt [.g 17 true (decide_eq_true (by simp; omega)),.r 21 (eI (b:=(r.length:Int)) (by simp; omega)),.i r.length,.x (l:=Ux O.reverse) (i:=0+r.length) (xs:=Gy y) (by rw [Zu]; exact gy),.r 28 (eI (b:=((r.length+1:Nat):Int)) (by simp)),.i (r.length+1),.x (l:=Ux O.reverse) (i:=0+(r.length+1)) (xs:=Gy z) (by rw [Zu]; exact gz),.c [] co,.c [] cg,.f (decide_eq_false hg),.s (sz:=5) hm] rfl (by simp [Us]; omega) ?_;exact rd (i+1) (by omega) hlt (by rw [f1]; rfl)
   ·have hg:Tg (G9 t) (Hh y.c z.c c.c)<=0:=by
     rw [hls] at hq; have:=of_decide_eq_false (Bool.eq_false_iff.2 hq); omega
    have hpop:Da s c (y::r)=Da s c O:=by rw [<-h3]; simp only [Da]; rw [if_neg hq]
    have hin:(∃ pre',O=pre'++(y::r)/\((true:Bool)=false->pre'=[]))/\Da s c (y::r)=Da s c O:=⟨⟨pre++[z],by rw [h1]; simp,λh=>by cases h⟩,hpop⟩;cases b with
    |
     false =>
     have hp:=h2 rfl;rw [hp] at hl1;have hl2:(Ux O.reverse).length=r.length+2:=by rw [hrl,hl1]; simp
     refine go tt [.g 17 true (decide_eq_true (by omega)),.r 21 (eI (b:=(r.length:Int)) (by omega)),.i r.length,.x gy,.r 28 (eI (b:=((r.length+1:Nat):Int)) (by omega)),.i (r.length+1),.x gz,.c [] co,.c [] cg,.t (decide_eq_true hg),.r 42 (eI (b:=((r.length+1:Nat):Int)) (by omega)),.i (r.length+1)] rfl (by simp [Us]; omega) ?_;exact rd (true,y::r) (by simp) hin rfl
    |
     true =>
     refine go tt [.g 17 true (decide_eq_true (by simp; omega)),.r 21 (eI (b:=(r.length:Int)) (by simp; omega)),.i r.length,.x (l:=Ux O.reverse) (i:=0+r.length) (xs:=Gy y) (by rw [Zu]; exact gy),.r 28 (eI (b:=((r.length+1:Nat):Int)) (by simp)),.i (r.length+1),.x (l:=Ux O.reverse) (i:=0+(r.length+1)) (xs:=Gy z) (by rw [Zu]; exact gz),.c [] co,.c [] cg,.t (decide_eq_true hg),.r 42 (eI (b:=((r.length+1:Nat):Int)) (by simp)),.i (r.length+1)] rfl (by simp [Us]; omega) ?_;exact rd (true,y::r) (by simp) hin rfl
 ·obtain rfl:i=R.length:=by omega
  rw [Qy];exact en tt [.f (by simp [hcl])] rfl rfl trivial
theorem Qxa {sg:List Int->Int} {R:List Pt} (h:R≠[]):0<(Sr sg R).length:=by
 unfold Sr;rw [Xv];obtain ⟨x,hx⟩:∃ x,R.getLast? = some x:=⟨_,Yo h⟩;obtain ⟨l,hl⟩:=Y8.1 hx;rw [hl,Es]; simp
theorem Qu2 {α:Type} (s:α->α->α->Bool) (c:α):∀ {st:List α},st≠[]->0<(Da s c st).length
 | [],h=>absurd rfl h
 | [_],_=>by simp [Da]
 |
  b::a::r,_=>by
  simp only [Da]
  split
  ·simp
  ·exact Qu2 s c (by simp)
theorem Qj7 {sg:List Int->Int} {R:List Pt} (h:2<=R.length):2<=(Sr sg R).length:=by
 unfold Sr;rw [Xv];obtain ⟨x,hx⟩:∃ x,R.getLast? = some x:=⟨_,Yo (by intro e; rw [e] at h; simp at h)⟩;obtain ⟨l,hl⟩:=Y8.1 hx;have hl0:l≠[]:=by intro e; rw [hl,e] at h; simp at h
 have:=Qxa (sg:=sg) hl0;unfold Sr at this;rw [Xv] at this;have:=Qu2 (Qei sg) x (st:=Pd (Qei sg) [] l) (by intro e; rw [e] at this; simp at this);rw [hl,Es,Q8]; omega
theorem Q0o {R:List Pt} {t:Tm} (hR:∀ p∈R,Sc p.c) (hn:R.length≤1000000) (ht:Va t):Uu Tryz.prog 188 [.agg (ta t),.one (pts R)] [.one (pts (Dq (G9 t) R))]:=by
 have hcl:=Rl R;have hrl:=Rl R.reverse;rw [Xv] at hrl;show Uu Tryz.prog 188 [.agg (ta t),.one (.row (Ux R))] [.one (.row (Ux (Dq (G9 t) R)))];refine Gs Tryz.func188 rfl ?_;by_cases h3:R.length<3
 ·have e:Dq (G9 t) R=R:=if_pos h3;rw [e];exact en tt [.t (decide_eq_true (by omega))] rfl rfl trivial
 have c1:=Qz9 hR hn ht;have c2:=Qz9 (R:=R.reverse) (λp hp=>hR p (Jd.1 hp)) (by rw [Xv]; exact hn) ht;have p1:=Qj7 (sg:=G9 t) (R:=R) (by omega);have p2:=Qj7 (sg:=G9 t) (R:=R.reverse) (by rw [Xv]; omega);have k1:=I3 (G9 t) R;have k2:=I3 (G9 t) R.reverse;rw [Xv] at k2;refine go tt [.f (decide_eq_false (by omega)),.o 5 135 5,.r 15 (eI (b:=(R.length:Int)-1-((0:Nat):Int)) (by omega))] rfl (by simp [Us,hcl]; omega) ?_;refine lp (S:=Nat) 2 (λL1 j=>(6,.v (.one (.int .i64 ((R.length:Int)-1-(j:Int)))))::(5,.v (.one (.orow 1 5 none)))::L1) (λj=>[.blk 74 (ta t),.row false 135 5 (Ux (R.reverse.take j))]) (λj=>R.length-j) (λj=>j<=R.length) 0 (Qh _) rfl (λ_ _=>rfl) rfl λj hj=>?_
 by_cases hlt:j<R.length
 ·obtain ⟨x,hx⟩:=gxE (l:=R) (i:=R.length-1-j) (by omega);have hx':R.reverse[j]? = some x:=by rw [List.getElem?_reverse (by omega)]; exact hx
  have hm:∀ y∈[Gy x],y.length=5:=λy hy=>by rw [Qk.1 hy]; rfl
  have e:Ux (R.reverse.take (j+1))=Ux (R.reverse.take j)++[Gy x]:=by rw [Zp,hx']; simp [Ux]
  have htl:(Ux (R.reverse.take j)).length=j:=by rw [Rl,Qp,Xv]; omega
  refine go tt [.t (decide_eq_true (by omega)),.r 22 (eI (b:=((R.length-1-j:Nat):Int)) (by omega)),.x (Ht hx),.s (sz:=5) hm,.r 19 (eI (b:=(R.length:Int)-1-((j+1:Nat):Int)) (by omega))] rfl (by simp [Us,htl]; omega) ?_;exact rd (j+1) (by omega) hlt (by rw [e]; rfl)
 ·obtain rfl:j=R.length:=by omega
  rw [Ql (by rw [Xv]; exact Qm _)];obtain ⟨A,hA⟩:=nmE (Sr (G9 t) R);obtain ⟨C,hC⟩:=nmE (Sr (G9 t) R.reverse);have e:Dq (G9 t) R=A.dropLast++C.dropLast:=by rw [hA,hC]; exact if_neg h3
  rw [<-hA] at c1 p1 k1;rw [<-hC] at c2 p2 k2;rw [e];have hs:∀ y∈(C.map Gy).take (C.length-1),y.length=5:=λy hy=>Qrq C y (Qn hy)
  have hs2:∀ y∈(A.map Gy).take (A.length-1),y.length=5:=λy hy=>Qrq A y (Qn hy)
  refine en tt [.f (decide_eq_false (by omega)),.p 1,.c [] c1,.c [] c2,.r 36 (eI (b:=((A.length-1:Nat):Int)) (by simp; omega)),.r 39 (eI (b:=((A.length-1:Nat):Int)) (by simp; omega)),.i (A.length-1),.r 44 (eI (b:=((C.length-1:Nat):Int)) (by simp; omega)),.i (C.length-1),.s (sz:=5) hs] rfl (by simp [Ux,Jr,List.dropLast_eq_take]) ?_;simp only [Us,Qp,Q5]
  and_intros <;> first | exact hs2 | omega
theorem Qhh {l:List Pt} {t:Tm} (hl:∀ p∈l,Sc p.c) (hn:l.length≤1000000) (ht:Va t):Gn Tryz.prog 182 [.agg (ta t),.one (pts l)] [] [.one (.orow 0 7 none)] [.row false 90 7 (Fj (Sj (G9 t) l))]:=by
 have hcl:=Rl l;show Gn Tryz.prog 182 [.agg (ta t),.one (.row (Ux l))] [] [.one (.orow 0 7 none)] [.row false 90 7 (Fj (Sj (G9 t) l))];refine Gs Tryz.func182 rfl ?_;refine go tt [.o 5 90 7] rfl trivial ?_;refine lp (S:=Nat) 2 (λL1 i=>(6,.v (.one (.int .i64 ((i+1:Nat):Int))))::(5,.v (.one (.orow 1 7 none)))::L1) (λi=>[.blk 74 (ta t),.row false 90 7 (Fj ((Sj (G9 t) l).take i))]) (λi=>l.length-i) (λi=>i<=l.length-1) 0 (Qh _) rfl (λ_ _=>rfl) rfl λi hi=>?_
 by_cases hlt:i+1<l.length
 ·obtain ⟨a,ha⟩:=gxE (l:=l) (i:=i) (by omega);obtain ⟨b,hb⟩:=gxE (l:=l) (i:=i+1) hlt;have hg:=Qg1 (G9 t) ha hb;have hm:∀ y∈[Qci (Nw (G9 t) a b)],y.length=7:=λy hy=>by rw [Qk.1 hy]; rfl
  refine go tt [.t (by simp [hcl]; omega),.r 19 (eI (b:=(i:Int)) (by simp)),.x (Ht ha),.x (Ht hb),.c [] (Zdz (hl a (Qa ha)) (hl b (Qa hb)) ht),.s (sz:=7) hm,.r 14 (eI (b:=((i+1+1:Nat):Int)) (by simp))] rfl (by simp [Us,Rl,B9,Nj]; omega) ?_;exact rd (i+1) (by omega) (by omega) (by rw [hg]; simp [Fj]; rfl)
 ·have e:(Sj (G9 t) l).take i=Sj (G9 t) l:=Ql (by rw [Nj]; omega);rw [e];exact ed tt [] [1] [.f (by simp [hcl]; omega)] rfl trivial
theorem Qak {C:List Pt} {i:Nat} {a b:Pt} (ha:C[i]? = some a) (hb:C[(i+1) % C.length]? = some b):(Ft C)[i]? = some (a,b):=by
 have hi:=(Qd.1 ha).1;unfold Ft;rw [List.getElem?_zip_eq_some];refine ⟨ha,?_⟩;by_cases h:i+1<C.length
 ·rw [Xy h] at hb;rw [Zf (by rw [Xj]; omega),Z5,X8]; exact hb
 ·have e:i+1=C.length:=by omega
  rw [e,Nat.mod_self] at hb;rw [Z0 (by rw [Xj]; omega),Xj,show i-(C.length-1)=0 by omega,Kt (by omega)]; exact hb
theorem E3 (C:List Pt):(Ft C).length=C.length:=by
 unfold Ft;rw [List.length_zip,Q3,Xj,Qp]; omega
theorem Ej {α β:Type} {f:α->List β} {l:List α} {i:Nat} {x:α} (h:l[i]? = some x):(l.take (i+1)).flatMap f=(l.take i).flatMap f++f x:=by
 rw [Zp,h]; simp
theorem Cj {α β:Type} {f:α->β} {p:α->Bool} {l:List α} {i:Nat} {x:α} (h:l[i]? = some x):((l.take (i+1)).filter p).map f=((l.take i).filter p).map f++if p x=true then [f x] else []:=by
 rw [Zp,h,List.filter_append,J5];congr 1;simp only [Option.toList];by_cases hp:p x=true
 ·rw [if_pos hp,X2 hp]; rfl
 ·rw [if_neg hp,Jw hp]; rfl
theorem E5 {α β:Type} {f:α->List β} {n:Nat} (hf:∀ x,(f x).length<=n) (l:List α):(l.flatMap f).length<=l.length*n:=Qc3 f n l λx _=>hf x
theorem Q3f {l:List Pt} (hl:∀ p∈l,Sc p.c):∀ p∈l,Qv9 4294967294 1073741824 p:=λp hp=>⟨(hl p hp).n,(hl p hp).c.mono (by decide) (by decide)⟩
set_option maxHeartbeats 4000000 in
theorem Qm9 {l:List Pt} {a:Tm} {c:Cr} {r1:List (List LV)} (hl:∀ p∈l,Sc p.c) (hn:l.length≤10) (ha:Va a):Gn Tryz.prog 113 [.one (.ow 0 0),.agg (ta a)] [.blk 124 (Pe c (Ux l) r1)] [.one (.row (Fj (bcH l a)))] [.blk 124 (Pe c (Ux l) (brH l a))]:=by
 have hwl:=Qmp l;have cw:=Q7g (l:=l) (Q3f hl) (by omega);have cr:=Qz5 (l:=Mc l) (λp hp=>hl p (Mq hp)) (by omega) ha;have cn:=Q0o (R:=So a (Mc l)) (λp hp=>hl p (Mq (Hr.1 hp))) (by rw [Db]; omega) ha;have cr2:=Qz5 hl (by omega) ha;have cc:=Qhh (l:=So a l) (t:=a) (λp hp=>hl p (Hr.1 hp)) (by rw [Db]; omega) ha;have hCm:∀ p∈Hx l a,p∈l:=λp hp=>La hp
 have hCl:=A2 l a;have e0:bcH l a=bcS l a++Pf (G9 a) l (Hx l a):=rfl;rw [e0];show Gn Tryz.prog 113 _ _ _ [.blk 124 (Pe c (Ux l) (Ux (Hx l a)))];have cn:Uu Tryz.prog 188 [.agg (ta a),.one (pts (So a (Mc l)))] [.one (pts (Hx l a))]:=cn;have cc:Gn Tryz.prog 182 [.agg (ta a),.one (pts (So a l))] [] [.one (.orow 0 7 none)] [.row false 90 7 (Fj (bcS l a))]:=cc;have hbl:(bcS l a).length<=10:=by unfold bcS; rw [Nj,Db]; omega
 obtain ⟨C,hC⟩:=nmE (Hx l a);obtain ⟨cs0,hc0⟩:=nmE (bcS l a);rw [<-hC] at cn hCm hCl ⊢;rw [<-hc0] at cc hbl ⊢;have hcp:=Rl C;have hlp:=Rl l;have eel:∀ x,(Su (G9 a) l x).length<=l.length:=λx=>by unfold Su; rw [List.length_map]; exact List.length_filter_le _ _
 refine Gs Tryz.func113 rfl ?_;refine go tt [.c [] cw,.c [] cr,.c [] cn,.c [] Qps,.c [] cr2,.c [2] cc] rfl trivial ?_;by_cases h2:C.length<2
 ·have e:Pf (G9 a) l C=[]:=if_pos h2;rw [e,Zq];exact ed tt [2] [0] [.t (decide_eq_true (by simp; omega))] rfl trivial
 have e:Pf (G9 a) l C=(Ft C).flatMap (Su (G9 a) l):=if_neg h2;rw [e];refine go tt [.f (decide_eq_false (by simp; omega))] rfl trivial ?_;refine sb [(48,.v (.one (.int .i64 0))),(47,.v (.one (.int .i64 ((C.map Gy).length:Int)))),(46,.v (.one (pts C))),(6,.v (.one (.orow 2 7 none))),(3,.v (.one (.ow 1 0))),(0,.v (.one (.ow 0 0)))] [.blk 124 (Pe c (Ux l) (Ux C)),.blk 74 (ta a),.row false 90 7 (Fj cs0)] rfl rfl ?_;rw [show Fj cs0=Fj (cs0++((Ft C).take 0).flatMap (Su (G9 a) l)) by simp];refine lp (S:=Nat) 3 (λL1 i=>(48,.v (.one (.int .i64 (i:Int))))::(6,.v (.one (.orow 2 7 none)))::L1) (λi=>[.blk 124 (Pe c (Ux l) (Ux C)),.blk 74 (ta a),.row false 90 7 (Fj (cs0++((Ft C).take i).flatMap (Su (G9 a) l)))]) (λi=>C.length-i) (λi=>i<=C.length) 0 (Qh _) rfl (λ_ _=>rfl) rfl λi hi=>?_
 by_cases hlt:i<C.length
 ·obtain ⟨x,hx⟩:=gxE (l:=C) (i:=i) hlt;obtain ⟨y,hy⟩:=gxE (l:=C) (i:=(i+1) % C.length) (Z4 _ (by omega));have he:=Qak hx hy;have sx:=hl x (hCm x (Qa hx));have sy:=hl y (hCm y (Qa hy));have hflat:=Ej (f:=Su (G9 a) l) he;obtain ⟨F,hF⟩:=nmE (cs0++((Ft C).take i).flatMap (Su (G9 a) l));have hFl:F.length<=10+20*10:=by
   have h1:=E5 eel ((Ft C).take i);have h2:((Ft C).take i).length*l.length<=20*10:=Zh (by rw [Qp]; omega) hn;rw [hF,Q3]; omega
  have hmod:(((i+1:Nat):Int)).tmod ((C.map Gy).length:Int)=(((i+1) % C.length:Nat):Int):=by rw [Q5]; exact (Int.ofNat_tmod _ _).symm
  have hm0:=J4 ((i+1:Nat):Int) (show (C.length:Int)≠0 by omega);have hm1:=Jb ((i+1:Nat):Int) (show (0:Int)<C.length by omega);have hnext:cs0++((Ft C).take (i+1)).flatMap (Su (G9 a) l)=F++(l.filter (Sf (x,y))).map λc=>Pu (G9 a) x y c:=by rw [hflat,<-Zl,<-hF]; rfl
  rw [<-hF];refine go tt [.t (decide_eq_true (by simp; omega)),.x (Ht hx),.r 58 (eI (b:=((i+1:Nat):Int)) (by simp)),.r 64 (eI (b:=(((i+1) % C.length:Nat):Int)) hmod),.x (Ht hy),.c [] Qps] rfl (by simp only [Us]; omega) ?_;rw [show Fj F=Fj (F++((l.take 0).filter (Sf (x,y))).map λc=>Pu (G9 a) x y c) by simp];refine lp (S:=Nat) 5 (λL1 k=>(73,.v (.one (.int .i64 (k:Int))))::(6,.v (.one (.orow 2 7 none)))::L1) (λk=>[.blk 124 (Pe c (Ux l) (Ux C)),.blk 74 (ta a),.row false 90 7 (Fj (F++((l.take k).filter (Sf (x,y))).map λc=>Pu (G9 a) x y c)),.blk 135 (Gy x),.blk 135 (Gy y)]) (λk=>l.length-k) (λk=>k<=l.length) 0 (Qh _) rfl (λ_ _=>rfl) rfl λk hk=>?_
  by_cases hlk:k<l.length
  ·obtain ⟨z,hz⟩:=gxE (l:=l) (i:=k) hlk;have sz:=hl z (Qa hz);have hflt:=Cj (f:=λc=>Pu (G9 a) x y c) (p:=Sf (x,y)) hz;obtain ⟨G,hG⟩:=nmE (((l.take k).filter (Sf (x,y))).map λc=>Pu (G9 a) x y c);have hGl:G.length<=10:=by
    have h1:=V1 (Sf (x,y)) (l.take k);rw [Qp] at h1;rw [hG,Q5]; omega
   rw [<-hG] at hflt ⊢;by_cases h1:z.id=x.id
   ·rw [if_neg (show ¬Sf (x,y) z=true by simp [Sf,h1]),Zq] at hflt;refine go tt [.t (decide_eq_true (by simp; omega)),.x (Ht hz),.g 82 false (decide_eq_false (by simp [h1])),.f rfl] rfl (by simp [Us]; omega) ?_;exact rd (k+1) (by omega) hlk (by rw [hflt]; rfl)
   ·by_cases h2:z.id=y.id
    ·rw [if_neg (show ¬Sf (x,y) z=true by simp [Sf,h2]),Zq] at hflt;refine go tt [.t (decide_eq_true (by simp; omega)),.x (Ht hz),.g 82 true (decide_eq_true h1),.f (decide_eq_false (by simp [h2]))] rfl (by simp [Us]; omega) ?_;exact rd (k+1) (by omega) hlk (by rw [hflt]; rfl)
    ·rw [if_pos (show Sf (x,y) z=true by simp [Sf,h1,h2])] at hflt;have hm:∀ q∈[Qci (Pu (G9 a) x y z)],q.length=7:=λq hq=>by rw [Qk.1 hq]; rfl
     refine go tt [.t (decide_eq_true (by simp; omega)),.x (Ht hz),.g 82 true (decide_eq_true h1),.t (decide_eq_true h2),.c [] (Qz0 sx sy sz ha),.s (sz:=7) hm] rfl (by simp [Us,B9]; omega) ?_;have e3:Fj (F++(G++[Pu (G9 a) x y z]))=Fj (F++G)++[Qci (Pu (G9 a) x y z)]:=by simp [Fj]
     exact rd (k+1) (by omega) hlk (by rw [hflt,e3]; rfl)
  ·obtain rfl:k=l.length:=by omega
   rw [Qy,<-hnext];refine go tt [.f (decide_eq_false (by simp))] rfl (by simp [Us]; omega) ?_;exact rd (i+1) (by omega) hlt rfl
 ·obtain rfl:i=C.length:=by omega
  rw [Ql (by rw [E3]; exact Qm _)];exact ed tt [2] [0] [.f (decide_eq_false (by simp))] rfl trivial
set_option maxHeartbeats 4000000 in
theorem Q3s {l:List Pt} {a:Tm} (hl:∀ p∈l,Sc p.c) (hn:l.length≤10) (ha:Va a):Gn Tryz.prog 113 [.one (.ow 0 0),.agg (ta a)] [.blk 124 (crz (.row (Ux l)) .nils)] [.one (.row (Fj (bcH l a)))] [.blk 124 (crz (.row (Ux l)) (.row (brH l a)))]:=by
 have hwl:=Qmp l;have cw:=Q7g (l:=l) (Q3f hl) (by omega);have cr:=Qz5 (l:=Mc l) (λp hp=>hl p (Mq hp)) (by omega) ha;have cn:=Q0o (R:=So a (Mc l)) (λp hp=>hl p (Mq (Hr.1 hp))) (by rw [Db]; omega) ha;have cr2:=Qz5 hl (by omega) ha;have cc:=Qhh (l:=So a l) (t:=a) (λp hp=>hl p (Hr.1 hp)) (by rw [Db]; omega) ha;have hCm:∀ p∈Hx l a,p∈l:=λp hp=>La hp
 have hCl:=A2 l a;have e0:bcH l a=bcS l a++Pf (G9 a) l (Hx l a):=rfl;rw [e0];show Gn Tryz.prog 113 _ _ _ [.blk 124 (crz (.row (Ux l)) (.row (Ux (Hx l a))))];have cn:Uu Tryz.prog 188 [.agg (ta a),.one (pts (So a (Mc l)))] [.one (pts (Hx l a))]:=cn;have cc:Gn Tryz.prog 182 [.agg (ta a),.one (pts (So a l))] [] [.one (.orow 0 7 none)] [.row false 90 7 (Fj (bcS l a))]:=cc;have hbl:(bcS l a).length<=10:=by unfold bcS; rw [Nj,Db]; omega
 obtain ⟨C,hC⟩:=nmE (Hx l a);obtain ⟨cs0,hc0⟩:=nmE (bcS l a);rw [<-hC] at cn hCm hCl ⊢;rw [<-hc0] at cc hbl ⊢;have hcp:=Rl C;have hlp:=Rl l;have eel:∀ x,(Su (G9 a) l x).length<=l.length:=λx=>by unfold Su; rw [List.length_map]; exact List.length_filter_le _ _
 refine Gs Tryz.func113 rfl ?_;refine go tt [.c [] cw,.c [] cr,.c [] cn,.c [] Qps,.c [] cr2,.c [2] cc] rfl trivial ?_;by_cases h2:C.length<2
 ·have e:Pf (G9 a) l C=[]:=if_pos h2;rw [e,Zq];exact ed tt [2] [0] [.t (decide_eq_true (by simp; omega))] rfl trivial
 have e:Pf (G9 a) l C=(Ft C).flatMap (Su (G9 a) l):=if_neg h2;rw [e];refine go tt [.f (decide_eq_false (by simp; omega))] rfl trivial ?_;refine sb [(48,.v (.one (.int .i64 0))),(47,.v (.one (.int .i64 ((C.map Gy).length:Int)))),(46,.v (.one (pts C))),(6,.v (.one (.orow 2 7 none))),(3,.v (.one (.ow 1 0))),(0,.v (.one (.ow 0 0)))] [.blk 124 (crz (.row (Ux l)) (.row (Ux C))),.blk 74 (ta a),.row false 90 7 (Fj cs0)] rfl rfl ?_;rw [show Fj cs0=Fj (cs0++((Ft C).take 0).flatMap (Su (G9 a) l)) by simp];refine lp (S:=Nat) 3 (λL1 i=>(48,.v (.one (.int .i64 (i:Int))))::(6,.v (.one (.orow 2 7 none)))::L1) (λi=>[.blk 124 (crz (.row (Ux l)) (.row (Ux C))),.blk 74 (ta a),.row false 90 7 (Fj (cs0++((Ft C).take i).flatMap (Su (G9 a) l)))]) (λi=>C.length-i) (λi=>i<=C.length) 0 (Qh _) rfl (λ_ _=>rfl) rfl λi hi=>?_
 by_cases hlt:i<C.length
 ·obtain ⟨x,hx⟩:=gxE (l:=C) (i:=i) hlt;obtain ⟨y,hy⟩:=gxE (l:=C) (i:=(i+1) % C.length) (Z4 _ (by omega));have he:=Qak hx hy;have sx:=hl x (hCm x (Qa hx));have sy:=hl y (hCm y (Qa hy));have hflat:=Ej (f:=Su (G9 a) l) he;obtain ⟨F,hF⟩:=nmE (cs0++((Ft C).take i).flatMap (Su (G9 a) l));have hFl:F.length<=10+20*10:=by
   have h1:=E5 eel ((Ft C).take i);have h2:((Ft C).take i).length*l.length<=20*10:=Zh (by rw [Qp]; omega) hn;rw [hF,Q3]; omega
  have hmod:(((i+1:Nat):Int)).tmod ((C.map Gy).length:Int)=(((i+1) % C.length:Nat):Int):=by rw [Q5]; exact (Int.ofNat_tmod _ _).symm
  have hm0:=J4 ((i+1:Nat):Int) (show (C.length:Int)≠0 by omega);have hm1:=Jb ((i+1:Nat):Int) (show (0:Int)<C.length by omega);have hnext:cs0++((Ft C).take (i+1)).flatMap (Su (G9 a) l)=F++(l.filter (Sf (x,y))).map λc=>Pu (G9 a) x y c:=by rw [hflat,<-Zl,<-hF]; rfl
  rw [<-hF];refine go tt [.t (decide_eq_true (by simp; omega)),.x (Ht hx),.r 58 (eI (b:=((i+1:Nat):Int)) (by simp)),.r 64 (eI (b:=(((i+1) % C.length:Nat):Int)) hmod),.x (Ht hy),.c [] Qps] rfl (by simp only [Us]; omega) ?_;rw [show Fj F=Fj (F++((l.take 0).filter (Sf (x,y))).map λc=>Pu (G9 a) x y c) by simp];refine lp (S:=Nat) 5 (λL1 k=>(73,.v (.one (.int .i64 (k:Int))))::(6,.v (.one (.orow 2 7 none)))::L1) (λk=>[.blk 124 (crz (.row (Ux l)) (.row (Ux C))),.blk 74 (ta a),.row false 90 7 (Fj (F++((l.take k).filter (Sf (x,y))).map λc=>Pu (G9 a) x y c)),.blk 135 (Gy x),.blk 135 (Gy y)]) (λk=>l.length-k) (λk=>k<=l.length) 0 (Qh _) rfl (λ_ _=>rfl) rfl λk hk=>?_
  by_cases hlk:k<l.length
  ·obtain ⟨z,hz⟩:=gxE (l:=l) (i:=k) hlk;have sz:=hl z (Qa hz);have hflt:=Cj (f:=λc=>Pu (G9 a) x y c) (p:=Sf (x,y)) hz;obtain ⟨G,hG⟩:=nmE (((l.take k).filter (Sf (x,y))).map λc=>Pu (G9 a) x y c);have hGl:G.length<=10:=by
    have h1:=V1 (Sf (x,y)) (l.take k);rw [Qp] at h1;rw [hG,Q5]; omega
   rw [<-hG] at hflt ⊢;by_cases h1:z.id=x.id
   ·rw [if_neg (show ¬Sf (x,y) z=true by simp [Sf,h1]),Zq] at hflt;refine go tt [.t (decide_eq_true (by simp; omega)),.x (Ht hz),.g 82 false (decide_eq_false (by simp [h1])),.f rfl] rfl (by simp [Us]; omega) ?_;exact rd (k+1) (by omega) hlk (by rw [hflt]; rfl)
   ·by_cases h2:z.id=y.id
    ·rw [if_neg (show ¬Sf (x,y) z=true by simp [Sf,h2]),Zq] at hflt;refine go tt [.t (decide_eq_true (by simp; omega)),.x (Ht hz),.g 82 true (decide_eq_true h1),.f (decide_eq_false (by simp [h2]))] rfl (by simp [Us]; omega) ?_;exact rd (k+1) (by omega) hlk (by rw [hflt]; rfl)
    ·rw [if_pos (show Sf (x,y) z=true by simp [Sf,h1,h2])] at hflt;have hm:∀ q∈[Qci (Pu (G9 a) x y z)],q.length=7:=λq hq=>by rw [Qk.1 hq]; rfl
     refine go tt [.t (decide_eq_true (by simp; omega)),.x (Ht hz),.g 82 true (decide_eq_true h1),.t (decide_eq_true h2),.c [] (Qz0 sx sy sz ha),.s (sz:=7) hm] rfl (by simp [Us,B9]; omega) ?_;have e3:Fj (F++(G++[Pu (G9 a) x y z]))=Fj (F++G)++[Qci (Pu (G9 a) x y z)]:=by simp [Fj]
     exact rd (k+1) (by omega) hlk (by rw [hflt,e3]; rfl)
  ·obtain rfl:k=l.length:=by omega
   rw [Qy,<-hnext];refine go tt [.f (decide_eq_false (by simp))] rfl (by simp [Us]; omega) ?_;exact rd (i+1) (by omega) hlt rfl
 ·obtain rfl:i=C.length:=by omega
  rw [Ql (by rw [E3]; exact Qm _)];exact ed tt [2] [0] [.f (decide_eq_false (by simp))] rfl trivial
def Qmf (a b:Crv):Bool:=decide ((Qmd (Ar a.x a.d) (Ar b.x b.d)).length=0) && decide ((Qmd (Ar a.y a.d) (Ar b.y b.d)).length=0)
theorem Zel {a b:Crv} (ha:Rs a) (hb:Rs b):Uu Tryz.prog 326 [.agg (rcl a),.agg (rcl b)] [.one (.bool (Qmf a b))]:=by
 have lx1:=ha.c.lx;have ly1:=ha.c.ly;have lx2:=hb.c.lx;have ly2:=hb.c.ly;have cx:=Qw5 (p:=Ar a.x a.d) (q:=Ar b.x b.d) (Qdf (Ut ha.c.x (by decide)) (Qc ha.c.d (by decide)) (by decide)) (Qdf (Ut hb.c.x (by decide)) (Qc hb.c.d (by decide)) (by decide)) (by rw [Mw]; omega) (by rw [Mw]; omega);have cy:=Qw5 (p:=Ar a.y a.d) (q:=Ar b.y b.d) (Qdf (Ut ha.c.y (by decide)) (Qc ha.c.d (by decide)) (by decide)) (Qdf (Ut hb.c.y (by decide)) (Qc hb.c.d (by decide)) (by decide)) (by rw [Mw]; omega) (by rw [Mw]; omega);unfold Qmf;generalize Qmd (Ar a.x a.d) (Ar b.x b.d)=X at *;generalize Qmd (Ar a.y a.d) (Ar b.y b.d)=Y at *;have hX:(frow X).length=X.length:=by simp [frow]
 have hY:(frow Y).length=Y.length:=by simp [frow]
 by_cases h:X.length=0
 ·by_cases h':Y.length=0
  ·rw [decide_eq_true h,decide_eq_true h'];exact w tt Tryz.func326 rfl [.c [] cx,.g 12 true (decide_eq_true (by omega)),.c [] cy,.g 19 true (decide_eq_true (by omega))] rfl rfl trivial
  ·rw [decide_eq_true h,decide_eq_false h'];exact w tt Tryz.func326 rfl [.c [] cx,.g 12 true (decide_eq_true (by omega)),.c [] cy,.g 19 false (decide_eq_false (by omega))] rfl rfl trivial
 ·rw [decide_eq_false h];exact w tt Tryz.func326 rfl [.c [] cx,.g 12 false (decide_eq_false (by omega))] rfl rfl trivial
def Qig (out:List Pt) (p:Pt):List Pt:=if (out.any λo=>Qmf o.c p.c)=true then out else out++[p]
def Ab (l:List Pt):List Pt:=(Fy Em l).foldl Qig []
theorem Qfg:∀ (M O:List Pt),(∀ p∈M.foldl Qig O,p∈O\/p∈M)/\(M.foldl Qig O).length≤O.length+M.length
 | [],O=>⟨λp hp=>.inl hp,by simp⟩
 |
  x::M,O=>by
  obtain ⟨h1,h2⟩:=Qfg M (Qig O x);have e1:(Qig O x).length<=O.length+1:=by unfold Qig; split <;> simp
  refine ⟨λp hp=>?_,by rw [Z6,Q8]; omega⟩;rcases h1 p hp with h | h
  ·unfold Qig at h
   split at h
   ·exact .inl h
   ·rcases Qu.1 h with h | h
    ·exact .inl h
    ·exact .inr (by rw [Qk.1 h]; simp)
  ·exact .inr (Qj _ h)
theorem Qha {l:List Pt} {p:Pt} (h:p∈Ab l):p∈l:=by
 rcases (Qfg (Fy Em l) []).1 p h with h | h
 ·cases h
 ·exact S8.1 h
theorem Qpl (l:List Pt):(Ab l).length<=l.length:=by
 have:=(Qfg (Fy Em l) []).2;rw [Re,Vm,Zu] at this;exact this
theorem Zcn {α:Type} {f:α->Bool} {l:List α} {i:Nat} {x:α} (h:l[i]? = some x):(l.take (i+1)).any f=((l.take i).any f || f x):=by
 rw [Zp,h,List.any_append]; simp
theorem Zen {l:List Pt} (hl:∀ p∈l,Rs p.c) (hn:l.length≤1000):Uu Tryz.prog 297 [.one (.row (Fc l))] [.one (.row (Fc (Ab l)))]:=by
 have c1:=Q0m (l:=l) (by omega);have hML:(Fy Em l).length=l.length:=Re _ _;have hMl:∀ p∈Fy Em l,Rs p.c:=λp hp=>hl p (S8.1 hp)
 unfold Ab;obtain ⟨M,hM⟩:=nmE (Fy Em l);rw [<-hM] at c1 hML hMl ⊢;have hcl:=Hf M;refine Gs Tryz.func297 rfl ?_;refine go tt [.o 3 57 7,.c [] c1] rfl trivial ?_;refine lp (S:=Nat) 1 (λL1 i=>(11,.v (.one (.int .i64 (i:Int))))::(3,.v (.one (.orow 0 7 none)))::L1) (λi=>[.row false 57 7 (Fc ((M.take i).foldl Qig []))]) (λi=>M.length-i) (λi=>i<=M.length) 0 (Qh _) rfl (λ_ _=>rfl) rfl λi hi=>?_
 by_cases hlt:i<M.length
 ·obtain ⟨p,hp⟩:=gxE (l:=M) (i:=i) hlt;have hpr:=hMl p (Qa hp);have hst:=Rt Qig [] M hp;have hsub:=Qfg (M.take i) [];obtain ⟨O,hO⟩:=nmE ((M.take i).foldl Qig []);rw [<-hO] at hst hsub ⊢;have hOl:O.length<=1000:=by have:=hsub.2; rw [Vm,Qp] at this; omega
  have hOm:∀ o∈O,Rs o.c:=λo ho=>by
   rcases hsub.1 o ho with h | h
   ·cases h
   ·exact hMl o (Qn h)
  have hrl:=Hf O;refine go tt [.t (decide_eq_true (by omega))] rfl trivial ?_;refine lp (S:=Nat) 1 (λL1 k=>(16,.v (.one (.int .i64 (k:Int))))::(5,.v (.one (.bool ((O.take k).any λo=>Qmf o.c p.c))))::L1) (λ_=>[.row false 57 7 (Fc O)]) (λk=>O.length-k) (λk=>k<=O.length) 0 (Qh _) rfl (λ_ _=>rfl) rfl λk hk=>?_
  by_cases hkl:k<O.length
  ·obtain ⟨o,ho⟩:=gxE (l:=O) (i:=k) hkl;have ha:=Zcn (f:=λo=>Qmf o.c p.c) ho;cases hb:(O.take k).any λo=>Qmf o.c p.c with
   |
    true =>
    rw [hb,Uc] at ha;refine go tt [.t (decide_eq_true (by omega)),.g 20 true rfl] rfl (by simp [Us] <;> omega) ?_;exact rd (k+1) (by omega) hkl (by rw [ha]; rfl)
   |
    false =>
    rw [hb,Kd] at ha;refine go tt [.t (decide_eq_true (by omega)),.g 20 false rfl,.i k,.x (Fb ho),.x (Fb hp),.c [] (Zel (hOm o (Qa ho)) hpr)] rfl (by simp [Us] <;> omega) ?_;exact rd (k+1) (by omega) hkl (by rw [ha]; rfl)
  ·obtain rfl:k=O.length:=by omega
   rw [Qy];have h7z:∀ y∈[Dc p],y.length=7:=λy hy=>by rw [Qk.1 hy]; rfl
   cases hb:O.any λo=>Qmf o.c p.c with
   |
    true =>
    have e:Qig O p=O:=if_pos hb;refine go tt [.f (decide_eq_false (by omega)),.f rfl] rfl (by simp [Us] <;> omega) ?_;exact rd (i+1) (by omega) hlt (by rw [hst,e]; rfl)
   |
    false =>
    have e:Qig O p=O++[p]:=if_neg (by rw [hb]; decide);refine go tt [.f (decide_eq_false (by omega)),.t rfl,.x (Fb hp),.s (sz:=7) h7z] rfl (by simp [Us] <;> omega) ?_;exact rd (i+1) (by omega) hlt (by rw [hst,e]; simp [Fc]; rfl)
 ·obtain rfl:i=M.length:=by omega
  rw [Qy];exact en tt [.f (decide_eq_false (by omega))] rfl rfl trivial
def Zjc (q:Rat) (a b c:Pt):Bool:=(Cg q a c && Cg q c b) || (Cg q b c && Cg q c a)
def Dv (q:Rat) (a b c:Pt):Bool:=decide (c.id=a.id) || (decide (c.id=b.id) || !(decide (My (P9 a.c b.c c.c) q<0) || (decide (My (P9 a.c b.c c.c) q=0) && !Zjc q a b c)))
def Qd5 (q:Rat) (a b:Pt) (l:List Pt):Bool:=l.all (Dv q a b)
theorem Qp4 {a b:Pt} {l:List Pt} {q:Rat} {cs:List (List Int)} (ha:Rs a.c) (hb:Rs b.c) (hl:∀ p∈l,Rs p.c) (hn:l.length≤1000) (hq:Qs 1000000 q):Uu Tryz.prog 324 [.agg (Dc a),.agg (Dc b),.one (.row (Fc l)),.agg (aq q cs)] [.one (.bool (Qd5 q a b l))]:=by
 have hcl:=Hf l;refine Gs Tryz.func324 rfl ?_;refine go tt [] rfl trivial ?_;refine lp (S:=Nat) 3 (λL1 i=>(14,.v (.one (.int .i64 (i:Int))))::L1) (λ_=>[.blk 57 (Dc a),.blk 57 (Dc b),.blk 37 (aq q cs)]) (λi=>l.length-i) (λi=>i<=l.length/\Qd5 q a b l=Qd5 q a b (l.drop i)) 0 ⟨Qh _,rfl⟩ rfl (λ_ _=>rfl) rfl λi ⟨hi,he⟩=>?_
 by_cases hlt:i<l.length
 ·obtain ⟨c,hc⟩:=gxE (l:=l) (i:=i) hlt;have hcr:=hl c (Qa hc);have hdr:Qd5 q a b (l.drop i)=(Dv q a b c && Qd5 q a b (l.drop (i+1))):=by
   obtain ⟨h1,h2⟩:=Qd.1 hc;rw [Ze h1,h2]; rfl
  have co:=Qnd ha hb hcr;have hsz:=Qlt ha hb hcr;have cA:=Ay (c:=cs) (Ut hsz.1 (by decide)) (Qc hsz.2 (by decide)) hq;have b1:=A0 (c:=cs) ha hcr hq;have b2:=A0 (c:=cs) hcr hb hq;have b3:=A0 (c:=cs) hb hcr hq;have b4:=A0 (c:=cs) hcr ha hq;by_cases h1:c.id=a.id
  ·have e:Dv q a b c=true:=by simp [Dv,h1]
   rw [e,Vj] at hdr;refine go tt [.t (decide_eq_true (by omega)),.x (Fb hc),.g 26 true (decide_eq_true h1),.t rfl] rfl (by simp [Us] <;> omega) ?_;exact rd (i+1) (by omega) ⟨hlt,by rw [he,hdr]⟩ rfl
  by_cases h2:c.id=b.id
  ·have e:Dv q a b c=true:=by simp [Dv,h2]
   rw [e,Vj] at hdr;refine go tt [.t (decide_eq_true (by omega)),.x (Fb hc),.g 26 false (decide_eq_false h1),.t (decide_eq_true h2)] rfl (by simp [Us] <;> omega) ?_;exact rd (i+1) (by omega) ⟨hlt,by rw [he,hdr]⟩ rfl
  have e0:Dv q a b c = !(decide (My (P9 a.c b.c c.c) q<0) || (decide (My (P9 a.c b.c c.c) q=0) && !Zjc q a b c)):=by unfold Dv; rw [decide_eq_false h1,decide_eq_false h2,Bool.false_or,Bool.false_or]
  generalize My (P9 a.c b.c c.c) q=s at *;by_cases hs:s<0
  ·rw [decide_eq_true hs,Uc] at e0;rw [e0] at hdr;rw [he,hdr];exact en tt [.t (decide_eq_true (by omega)),.x (Fb hc),.g 26 false (decide_eq_false h1),.f (decide_eq_false h2),.c [] co,.c [] cA,.g 44 true (decide_eq_true hs),.t rfl] rfl rfl trivial
  rw [decide_eq_false hs,Kd] at e0;by_cases hz:s=0
  ·rw [decide_eq_true hz,Vj,Bool.not_not] at e0;unfold Zjc at e0;cases k1:Cg q a c with
   |
    true =>
    rw [k1] at b1 e0;cases k2:Cg q c b with
    |
     true =>
     rw [k2] at b2 e0;have e0:Dv q a b c=true:=e0;rw [e0,Vj] at hdr;refine go tt [.t (decide_eq_true (by omega)),.x (Fb hc),.g 26 false (decide_eq_false h1),.f (decide_eq_false h2),.c [] co,.c [] cA,.g 44 false (decide_eq_false hs),.g 47 true (decide_eq_true hz),.c [] b1,.g 52 true rfl,.c [] b2,.g 58 true rfl,.f rfl] rfl (by simp [Us] <;> omega) ?_;exact rd (i+1) (by omega) ⟨hlt,by rw [he,hdr]⟩ rfl
    |
     false =>
     rw [k2,Bool.and_false,Kd] at e0;rw [k2] at b2;cases k3:Cg q b c with
     |
      true =>
      rw [k3] at b3 e0;cases k4:Cg q c a with
      |
       true =>
       rw [k4] at b4 e0;have e0:Dv q a b c=true:=e0;rw [e0,Vj] at hdr;refine go tt [.t (decide_eq_true (by omega)),.x (Fb hc),.g 26 false (decide_eq_false h1),.f (decide_eq_false h2),.c [] co,.c [] cA,.g 44 false (decide_eq_false hs),.g 47 true (decide_eq_true hz),.c [] b1,.g 52 true rfl,.c [] b2,.g 58 false rfl,.c [] b3,.g 63 true rfl,.c [] b4,.f rfl] rfl (by simp [Us] <;> omega) ?_;exact rd (i+1) (by omega) ⟨hlt,by rw [he,hdr]⟩ rfl
      |
       false =>
       rw [k4] at b4 e0;have e0:Dv q a b c=false:=e0;rw [e0,Vz] at hdr;rw [he,hdr];exact en tt [.t (decide_eq_true (by omega)),.x (Fb hc),.g 26 false (decide_eq_false h1),.f (decide_eq_false h2),.c [] co,.c [] cA,.g 44 false (decide_eq_false hs),.g 47 true (decide_eq_true hz),.c [] b1,.g 52 true rfl,.c [] b2,.g 58 false rfl,.c [] b3,.g 63 true rfl,.c [] b4,.t rfl] rfl rfl trivial
     |
      false =>
      rw [k3] at b3 e0;have e0:Dv q a b c=false:=e0;rw [e0,Vz] at hdr;rw [he,hdr];exact en tt [.t (decide_eq_true (by omega)),.x (Fb hc),.g 26 false (decide_eq_false h1),.f (decide_eq_false h2),.c [] co,.c [] cA,.g 44 false (decide_eq_false hs),.g 47 true (decide_eq_true hz),.c [] b1,.g 52 true rfl,.c [] b2,.g 58 false rfl,.c [] b3,.g 63 false rfl,.t rfl] rfl rfl trivial
   |
    false =>
    rw [k1,Vz,Kd] at e0;rw [k1] at b1;cases k3:Cg q b c with
    |
     true =>
     rw [k3] at b3 e0;cases k4:Cg q c a with
     |
      true =>
      rw [k4] at b4 e0;have e0:Dv q a b c=true:=e0;rw [e0,Vj] at hdr;refine go tt [.t (decide_eq_true (by omega)),.x (Fb hc),.g 26 false (decide_eq_false h1),.f (decide_eq_false h2),.c [] co,.c [] cA,.g 44 false (decide_eq_false hs),.g 47 true (decide_eq_true hz),.c [] b1,.g 52 false rfl,.g 58 false rfl,.c [] b3,.g 63 true rfl,.c [] b4,.f rfl] rfl (by simp [Us] <;> omega) ?_;exact rd (i+1) (by omega) ⟨hlt,by rw [he,hdr]⟩ rfl
     |
      false =>
      rw [k4] at b4 e0;have e0:Dv q a b c=false:=e0;rw [e0,Vz] at hdr;rw [he,hdr];exact en tt [.t (decide_eq_true (by omega)),.x (Fb hc),.g 26 false (decide_eq_false h1),.f (decide_eq_false h2),.c [] co,.c [] cA,.g 44 false (decide_eq_false hs),.g 47 true (decide_eq_true hz),.c [] b1,.g 52 false rfl,.g 58 false rfl,.c [] b3,.g 63 true rfl,.c [] b4,.t rfl] rfl rfl trivial
    |
     false =>
     rw [k3] at b3 e0;have e0:Dv q a b c=false:=e0;rw [e0,Vz] at hdr;rw [he,hdr];exact en tt [.t (decide_eq_true (by omega)),.x (Fb hc),.g 26 false (decide_eq_false h1),.f (decide_eq_false h2),.c [] co,.c [] cA,.g 44 false (decide_eq_false hs),.g 47 true (decide_eq_true hz),.c [] b1,.g 52 false rfl,.g 58 false rfl,.c [] b3,.g 63 false rfl,.t rfl] rfl rfl trivial
  ·rw [decide_eq_false hz,Vz] at e0;have e0:Dv q a b c=true:=e0;rw [e0,Vj] at hdr;refine go tt [.t (decide_eq_true (by omega)),.x (Fb hc),.g 26 false (decide_eq_false h1),.f (decide_eq_false h2),.c [] co,.c [] cA,.g 44 false (decide_eq_false hs),.g 47 false (decide_eq_false hz),.f rfl] rfl (by simp [Us] <;> omega) ?_;exact rd (i+1) (by omega) ⟨hlt,by rw [he,hdr]⟩ rfl
 ·obtain rfl:i=l.length:=by omega
  rw [he,Yu];exact en tt [.f (decide_eq_false (by omega))] rfl rfl trivial
def Qhx (q:Rat) (W:List Pt) (a:Pt):Option Pt:=W.find? λp=>decide (p.id≠a.id) && Qd5 q a p W
def Du (q:Rat) (W:List Pt) (s0:Pt):Nat->Pt->List Pt->List Pt
 | 0,_,O=>O
 |
  k+1,a,O=>match Qhx q W a with
  | none=>O
  | some b=>if b.id=s0.id then O else Du q W s0 k b (O++[b])
def Qd0 (q:Rat) (l:List Pt):List Pt:=if (Ab l).length<2 then Ab l else
 match Fy (Cg q) (Ab l) with
 | []=>[]
 | s::_=>Du q (Ab l) s (Ab l).length s [s]
theorem Qom {q:Rat} {W:List Pt} {a b:Pt} (h:Qhx q W a=some b):b∈W/\b.id≠a.id:=by
 have h1:=List.find?_some h;simp only [Zm,decide_eq_true_eq] at h1;exact ⟨List.mem_of_find?_eq_some h,h1.1⟩
theorem Qs7 {q:Rat} {W:List Pt} {s0:Pt}:∀ (k:Nat) (a:Pt) (O:List Pt),(∀ p∈O,p∈W)->(∀ p∈Du q W s0 k a O,p∈W)/\(Du q W s0 k a O).length≤O.length+k
 | 0,_,O,h=>⟨h,Qm _⟩
 |
  k+1,a,O,h=>by
  unfold Du;cases hb:Qhx q W a with
  | none=>exact ⟨h,Ve _ _⟩
  |
   some b =>
   have hm:=(Qom hb).1;dsimp only
   split
   ·exact ⟨h,Ve _ _⟩
   ·obtain ⟨h1,h2⟩:=Qs7 (q:=q) (s0:=s0) k b (O++[b]) (λp hp=>(Qu.1 hp).elim (h p) λhp=>by rw [Qk.1 hp]; exact hm);rw [Q3,Yz] at h2;exact ⟨h1,by omega⟩
theorem Qs8 (q:Rat) (l:List Pt):(∀ p∈Qd0 q l,p∈l)/\(Qd0 q l).length≤l.length+1:=by
 have hw:=Qpl l;unfold Qd0
 split
 ·exact ⟨λp hp=>Qha hp,by omega⟩
 ·split
  ·exact ⟨λp hp=>(by cases hp),Qh _⟩
  ·rename_i s S hS;have hs:s∈Ab l:=S8.1 (show s∈Fy (Cg q) (Ab l) by rw [hS]; simp);obtain ⟨h1,h2⟩:=Qs7 (q:=q) (s0:=s) (Ab l).length s [s] (λp hp=>by rw [Qk.1 hp]; exact hs);exact ⟨λp hp=>Qha (h1 p hp),by rw [Yz] at h2; omega⟩
theorem Zac {q:Rat} {W:List Pt} {a b:Pt} (h:Qhx q W a=some b):∃ j:Nat,W[j]? = some b/\b.id≠a.id/\Qd5 q a b W=true/\∀ (i:Nat) (p:Pt),i<j->W[i]? = some p->p.id=a.id\/Qd5 q a p W=false:=by
 unfold Qhx at h;obtain ⟨h1,u,v,hW,h3⟩:=List.find?_eq_some_iff_append.1 h;simp only [Zm,decide_eq_true_eq] at h1;refine ⟨u.length,by rw [hW,Z0 (Qm _),Jq]; rfl,h1.1,h1.2,λi p hi hp=>?_⟩;have hp':u[i]? = some p:=by rw [<-hp,hW,Zf hi]
 have:=h3 p (Qa hp');simp only [Bool.not_eq_true',Bool.and_eq_false_iff,decide_eq_false_iff_not,Decidable.not_not] at this;exact this
theorem Zad {q:Rat} {W:List Pt} {a:Pt} (h:Qhx q W a=none):∀ p∈W,p.id=a.id\/Qd5 q a p W=false:=λp hp=>by
 have:=List.find?_eq_none.1 h p hp;simp only [Bool.not_eq_true,Bool.and_eq_false_iff,decide_eq_false_iff_not,Decidable.not_not] at this;exact this
set_option maxHeartbeats 4000000 in
theorem Qw6 {l:List Pt} {q:Rat} {cs:List (List Int)} (hl:∀ p∈l,Rs p.c) (hn:l.length≤1000) (hq:Qs 1000000 q):Uu Tryz.prog 295 [.one (.row (Fc l)),.agg (aq q cs)] [.one (.row (Fc (Qd0 q l)))]:=by
 have c1:=Zen hl hn;have hWl:∀ p∈Ab l,Rs p.c:=λp hp=>hl p (Qha hp)
 have hWn:=Qpl l;unfold Qd0;obtain ⟨W,hW⟩:=nmE (Ab l);rw [<-hW] at c1 hWl hWn ⊢;have hcl:=Hf W;by_cases h2:W.length<2
 ·rw [if_pos h2];exact w tt Tryz.func295 rfl [.c [] c1,.t (decide_eq_true (by omega))] rfl rfl trivial
 rw [if_neg h2];have c2:=Qne (l:=W) (cs:=cs) hWl (by omega) hq;obtain ⟨s,S,hS⟩:∃ s S,Fy (Cg q) W=s::S:=by
  have:(Fy (Cg q) W).length=W.length:=Re _ _;cases hs:Fy (Cg q) W with
  | nil=>rw [hs] at this; simp at this; omega
  | cons s S=>exact ⟨s,S,rfl⟩
 have hsW:s∈W:=S8.1 (show s∈Fy (Cg q) W by rw [hS]; simp);rw [hS] at c2 ⊢;show Uu Tryz.prog 295 _ [.one (.row (Fc (Du q W s W.length s [s])))];have hx0:(Fc (s::S))[0]? = some (Dc s):=rfl;refine Gs Tryz.func295 rfl ?_;refine go tt [.c [] c1,.f (decide_eq_false (by omega)),.c [] c2,.x hx0,.lo] rfl trivial ?_;refine sb [(7,.v (.one (.orow 1 7 none))),(6,.v (.one (.row (Fc (s::S))))),(5,.v (.one (.row (Fc W)))),(3,.v (.one (.ow 0 0)))] [.blk 37 (aq q cs),.row false 57 7 (Fc [s])] rfl rfl ?_;refine lp (S:=List Pt) 2 (λL1 _=>(7,.v (.one (.orow 1 7 none)))::L1) (λO=>[.blk 37 (aq q cs),.row false 57 7 (Fc O)]) (λO=>W.length+1-O.length) (λO=>O.length<=W.length+1/\∃ a,a∈W/\O[O.length-1]? = some a/\Du q W s (W.length+1-O.length) a O=Du q W s W.length s [s]) [s] ⟨by show 1<=_; omega,s,hsW,rfl,rfl⟩ rfl (λ_ _=>rfl) rfl λO ⟨hO,a,haW,hla,he⟩=>?_
 have har:=hWl a haW;have hrl:=Hf O;have hO1:0<O.length:=by
  have:=(Qd.1 hla).1; omega
 by_cases hlt:O.length<=W.length
 ·obtain ⟨k,hk⟩:∃ k,W.length+1-O.length=k+1:=⟨W.length-O.length,by omega⟩;rw [hk] at he;refine go tt [.t (decide_eq_true (by omega)),.r 31 (eI (b:=((O.length-1:Nat):Int)) (by omega)),.i (O.length-1),.x (Fb hla)] rfl (by simp [Us] <;> omega) ?_;cases hb:Qhx q W a with
  |
   none =>
   have hno:=Zad hb;have ef:Du q W s W.length s [s]=O:=by rw [<-he]; unfold Du; rw [hb]
   rw [ef];refine lp (S:=Nat) 3 (λL1 i=>(36,.v (.one (.int .i64 (i:Int))))::L1) (λ_=>[.blk 37 (aq q cs),.row false 57 7 (Fc O),.blk 57 (Dc a)]) (λi=>W.length-i) (λi=>i<=W.length) 0 (Qh _) rfl (λ_ _=>rfl) rfl λi hi=>?_
   by_cases hil:i<W.length
   ·obtain ⟨p,hp⟩:=gxE (l:=W) (i:=i) hil;have hpm:=Qa hp;by_cases h1:p.id=a.id
    ·refine go tt [.t (decide_eq_true (by omega)),.x (Fb hp),.g 47 false (decide_eq_false (by simpa using h1)),.f rfl] rfl (by simp [Us] <;> omega) ?_;exact rd (i+1) (by omega) hil rfl
    ·have ce:=Qp4 (cs:=cs) har (hWl p hpm) hWl (by omega) hq;rw [(hno p hpm).resolve_left h1] at ce;refine go tt [.t (decide_eq_true (by omega)),.x (Fb hp),.g 47 true (decide_eq_true h1),.x (Fb hp),.c [] ce,.f rfl] rfl (by simp [Us] <;> omega) ?_;exact rd (i+1) (by omega) hil rfl
   ·by_cases h3:a.id=s.id
    ·exact en tt [.f (decide_eq_false (by omega)),.x hx0,.g 69 true (decide_eq_true h3),.t rfl] rfl rfl (by simp [Us] <;> omega)
    ·exact en tt [.f (decide_eq_false (by omega)),.x hx0,.g 69 false (decide_eq_false h3),.r 75 (eI (b:=((O.length-1:Nat):Int)) (by omega)),.i (O.length-1),.x (Fb hla),.t (decide_eq_true rfl)] rfl rfl (by simp [Us] <;> omega)
  |
   some b =>
   obtain ⟨j,hj,hba,heb,hjb⟩:=Zac hb;have hbW:=(Qom hb).1;have hjl:=(Qd.1 hj).1;have hbr:=hWl b hbW;have h7z:∀ y∈[Dc b],y.length=7:=λy hy=>by rw [Qk.1 hy]; rfl
   have cb:=Qp4 (cs:=cs) har hbr hWl (by omega) hq;rw [heb] at cb;refine lp (S:=Nat) 3 (λL1 i=>(36,.v (.one (.int .i64 (i:Int))))::L1) (λ_=>[.blk 37 (aq q cs),.row false 57 7 (Fc O),.blk 57 (Dc a)]) (λi=>j-i) (λi=>i<=j) 0 (Qh _) rfl (λ_ _=>rfl) rfl λi hi=>?_
   by_cases hij:i<j
   ·obtain ⟨p,hp⟩:=gxE (l:=W) (i:=i) (by omega);have hpm:=Qa hp;by_cases h1:p.id=a.id
    ·refine go tt [.t (decide_eq_true (by omega)),.x (Fb hp),.g 47 false (decide_eq_false (by simpa using h1)),.f rfl] rfl (by simp [Us] <;> omega) ?_;exact rd (i+1) (by omega) hij rfl
    ·have ce:=Qp4 (cs:=cs) har (hWl p hpm) hWl (by omega) hq;rw [(hjb i p hij hp).resolve_left h1] at ce;refine go tt [.t (decide_eq_true (by omega)),.x (Fb hp),.g 47 true (decide_eq_true h1),.x (Fb hp),.c [] ce,.f rfl] rfl (by simp [Us] <;> omega) ?_;exact rd (i+1) (by omega) hij rfl
   ·obtain rfl:i=j:=by omega
    by_cases h3:b.id=s.id
    ·have ef:Du q W s W.length s [s]=O:=by rw [<-he]; unfold Du; rw [hb]; exact if_pos h3
     rw [ef];exact en tt [.t (decide_eq_true (by omega)),.x (Fb hj),.g 47 true (decide_eq_true hba),.x (Fb hj),.c [] cb,.t rfl,.x (Fb hj),.x hx0,.g 69 true (decide_eq_true h3),.t rfl] rfl rfl (by simp [Us] <;> omega)
    ·have ef:Du q W s k b (O++[b])=Du q W s W.length s [s]:=by
      rw [<-he];show _=(match Qhx q W a with | none=>O | some b=>if b.id=s.id then O else Du q W s k b (O++[b]));rw [hb];exact (if_neg h3).symm
     refine go tt [.t (decide_eq_true (by omega)),.x (Fb hj),.g 47 true (decide_eq_true hba),.x (Fb hj),.c [] cb,.t rfl,.x (Fb hj),.x hx0,.g 69 false (decide_eq_false h3),.r 75 (eI (b:=((O.length-1:Nat):Int)) (by omega)),.i (O.length-1),.x (Fb hla),.f (decide_eq_false hba),.s (sz:=7) h7z] rfl (by simp [Us] <;> omega) ?_;have hl1:(O++[b]).length=O.length+1:=by simp
     exact rd (O++[b]) (by omega) ⟨by omega,b,hbW,by rw [hl1,Jp,Z0 (Qm _),Jq]; rfl,by rw [hl1,show W.length+1-(O.length+1)=k by omega]; exact ef⟩ (by simp [Fc]; rfl)
 ·rw [show W.length+1-O.length=0 by omega] at he;have ef:Du q W s W.length s [s]=O:=he.symm;rw [ef];exact en tt [.f (decide_eq_false (by omega))] rfl rfl trivial
end Orr
