/- R12 R13 R14 R15 R16 R17 R18 PairN PairQ SplitL PW1 R21 DetL H1 R22 HullG TurnL HullQ HullS H2 H3 R23 R24 R25 -/
import Derived.Test.YtkkhemmhhedniaaGreatPart08
import Derived.Test.YtkkhemmhhedniaaGreatPart05
import Derived.Test.YtkkhemmhhedniaaGreatPart00
import Derived.Test.YtkkhemmhhedniaaGreatPart07
import Derived.Test.YtkkhemmhhedniaaGreatPart06
set_option linter.all false
namespace Orr
open Go Go.Proofs
set_option maxRecDepth 10000
def Dq (q:Rat) (a b:Pt):Bool:=if Ms (Hp a.c b.c) q≠0 then decide (0<Ms (Hp a.c b.c) q) else if Ms (Re a.c b.c) q≠0 then decide (0<Ms (Re a.c b.c) q) else decide (a.id<b.id)
theorem Iw {a b:Pt} {q:Rat} {c:List (List Int)} (ha:Rs a.c) (hb:Rs b.c) (hq:Qs 1000000 q):Fa Tryz.prog 17 [.agg (Lt a),.agg (Lt b),.agg (aq q c)] [.one (.bool (Dq q a b))]:=by
 have c1:=Ev (p:=Hp a.c b.c) (c:=c) (U8 (Qc0 ha hb).1 (by decide)) (Qc (Qc0 ha hb).2 (by decide)) hq;have c2:=Ev (p:=Re a.c b.c) (c:=c) (U8 (Qcx ha hb).1 (by decide)) (Qc (Qcx ha hb).2 (by decide)) hq;by_cases h1:Ms (Hp a.c b.c) q≠0
 ·exact w tt Tryz.func17 rfl [.c [] (Qbc ha hb),.c [] c1,.t (decide_eq_true h1)] rfl (by unfold Dq; rw [if_pos h1]) trivial
 by_cases h2:Ms (Re a.c b.c) q≠0
 ·exact w tt Tryz.func17 rfl [.c [] (Qbc ha hb),.c [] c1,.f (decide_eq_false h1),.c [] (Qk2 ha hb),.c [] c2,.t (decide_eq_true h2)] rfl (by unfold Dq; rw [if_neg h1,if_pos h2]) trivial
 ·exact w tt Tryz.func17 rfl [.c [] (Qbc ha hb),.c [] c1,.f (decide_eq_false h1),.c [] (Qk2 ha hb),.c [] c2,.f (decide_eq_false h2)] rfl (by unfold Dq; rw [if_neg h1,if_neg h2]) trivial
theorem Qof {l:List Pt} {q:Rat} {cs:List (List Int)} (hl:∀ p∈l,Rs p.c) (hn:l.length≤1000000) (hq:Qs 1000000 q):Fa Tryz.prog 291 [.one (.row (Fy l)),.agg (aq q cs)] [.one (.row (Fy (Gy (Dq q) l)))]:=by
 have hcl:=Rf l;obtain ⟨lt,hlt0⟩:=nmE (Dq q);rw [<-hlt0];refine Hl Tryz.func291 rfl ?_;refine go tt [.o 5 57 7] rfl trivial ?_;refine lp (S:=Nat) 2 (λL1 i=>(10,.v (.one (.int .i64 (i:Int))))::(5,.v (.one (.orow 1 7 none)))::L1) (λi=>[.blk 37 (aq q cs),.row false 57 7 (Fy (Gy lt (l.take i)))]) (λi=>l.length-i) (λi=>i<=l.length) 0 (Qi _) rfl (λ_ _=>rfl) rfl λi hi=>?_
 by_cases hlt:i<l.length
 ·obtain ⟨c,hc⟩:=gxE (l:=l) (i:=i) hlt;have hst:Gy lt (l.take (i+1))=M8 lt (Gy lt (l.take i)) c:=Ah hc;have hcp:=hl c (Qa hc);obtain ⟨O,hO⟩:=nmE (Gy lt (l.take i));have hOl:O.length=i:=by rw [hO,Te,Qr]; omega
  have hOm:∀ x∈O,Rs x.c:=λx hx=>by rw [hO,Ma] at hx; exact hl x (Qn hx)
  have hrl:=Rf O;rw [<-hO] at hst ⊢;refine go tt [.t (decide_eq_true (by omega))] rfl trivial ?_;refine lp (S:=Nat) 2 (λL1 k=>(7,.v (.one (.int .i64 (k:Int))))::L1) (λ_=>[.blk 37 (aq q cs),.row false 57 7 (Fy O)]) id (λk=>k<=O.length/\Sv lt O c k=Sv lt O c O.length) (Fy O).length ⟨by omega,by rw [hrl]⟩ rfl (λ_ _=>rfl) rfl λk ⟨hk,hp⟩=>?_
  have h7:=Qfz O;have h7z:∀ y∈[Lt c],y.length=7:=λy hy=>by rw [Qk.1 hy]; rfl
  cases k with
  |
   zero =>
   have hp:Sv lt O c O.length=0:=by rw [<-hp]; rfl
   refine go tt [.g 17 false (by simp),.f rfl,.i 0,.x (Ga hc),.lo,.i 0,.s (sz:=7) (λy hy=>h7 y (Qn hy)),.s (sz:=7) (λy hy=>(Qu.1 hy).elim (h7z y) λhy=>h7 y (Qn hy))] rfl (by simp [U9]; omega) ?_;exact rd (i+1) (by omega) hlt (by rw [hst,<-Qfb hp]; rfl)
  |
   succ k =>
   obtain ⟨x,hx⟩:=gxE (l:=O) (i:=k) (by omega);have cb:=Iw (c:=cs) hcp (hOm x (Qa hx)) hq;rw [<-hlt0] at cb;by_cases hlc:lt c x=true
   ·refine go tt [.g 17 true (by simp),.x (Ga hc),.r 24 (eI (b:=(k:Int)) (by simp)),.i k,.x (Ga hx),.c [] cb,.t hlc,.r 31 (eI (b:=(k:Int)) (by simp))] rfl (by simp [U9]; omega) ?_;exact rd k (by simp) ⟨by omega,by rw [<-hp,Qcy hx hlc]⟩ rfl
   ·have hlc:lt c x=false:=by simpa using hlc
    have hp:Sv lt O c O.length=k+1:=by rw [<-hp,Oc hx hlc]
    refine go tt [.g 17 true (by simp),.x (Ga hc),.r 24 (eI (b:=(k:Int)) (by simp)),.i k,.x (Ga hx),.c [] cb,.f hlc,.i (k+1),.x (Ga hc),.lo,.i (k+1),.s (sz:=7) (λy hy=>h7 y (Ze (Qn hy))),.s (sz:=7) (λy hy=>(Qu.1 hy).elim (h7z y) λhy=>h7 y (Ze (Qn hy)))] rfl (by simp [U9]; omega) ?_;exact rd (i+1) (by omega) hlt (by rw [hst,<-Qfb hp]; rfl)
 ·obtain rfl:i=l.length:=by omega
  rw [Qy];exact en tt [.f (decide_eq_false (by omega))] rfl rfl trivial
def rct (c:Ct):List LV:=[.int .i64 c.kind,.int .i64 c.i0,.int .i64 c.i1,.int .i64 c.i2,.int .i64 c.i3,rp (zp c.p),.int .i64 c.want,.row [],.bool false]
def G9 (l:List Ct):List (List LV):=l.map rct
theorem Bm (l:List Ct):(G9 l).length=l.length:=by simp [G9]
theorem Qi1 (l:List Ct):∀ c∈G9 l,c.length=9:=λc hc=>by obtain ⟨x,_,rfl⟩:=Zp.1 hc; rfl
theorem Nz {l:List Ct} {i:Nat} {c:Ct} (h:l[i]? = some c):(G9 l)[i]? = some (rct c):=Ho h
theorem Qe9 {lt:Ct->Ct->Bool} {O:List Ct} {c:Ct} {k:Nat} (hp:Sv lt O c O.length=k):(G9 O).take k++([rct c]++((G9 O).drop k).take ((G9 O).length-k))=G9 (M8 lt O c):=Qvl hp
theorem Q2k {k i0 i1 i2 i3 l j0 j1 j2 j3:Int}:Fa Tryz.prog 322 [.agg [.int .i64 k,.int .i64 i0,.int .i64 i1,.int .i64 i2,.int .i64 i3],.agg [.int .i64 l,.int .i64 j0,.int .i64 j1,.int .i64 j2,.int .i64 j3]] [.one (.bool (Tq [k,i0,i1,i2,i3] [l,j0,j1,j2,j3]))]:=by
 by_cases hk:k=l
 ·subst hk;rw [show Tq [k,i0,i1,i2,i3] [k,j0,j1,j2,j3]=Tq [i0,i1,i2,i3] [j0,j1,j2,j3] from by simp [Tq]];refine Hl Tryz.func322 rfl ?_;refine go tt [.f (by simp)] rfl trivial ?_;refine lp (S:=Nat) 2 (λL1 i=>(5,.v (.one (.int .i64 (i:Int))))::L1) (λ_=>[.blk 88 [.int .i64 k,.int .i64 i0,.int .i64 i1,.int .i64 i2,.int .i64 i3],.blk 88 [.int .i64 k,.int .i64 j0,.int .i64 j1,.int .i64 j2,.int .i64 j3]]) (λi=>4-i) (λi=>i<=4/\Tq ([i0,i1,i2,i3].drop i) ([j0,j1,j2,j3].drop i)=Tq [i0,i1,i2,i3] [j0,j1,j2,j3]) 0 ⟨by omega,rfl⟩ rfl (λ_ _=>rfl) rfl λi ⟨hi,he⟩=>?_
  rw [<-he];rcases (show i=0\/i=1\/i=2\/i=3\/i=4 by omega) with rfl | rfl | rfl | rfl | rfl
  ·by_cases h:i0=j0
   ·exact go tt [.t rfl,.i 0,.i 0,.f (by simpa using h)] rfl (by simp [U9]) (rd 1 (by omega) ⟨by omega,by simp [Tq,h]⟩ rfl)
   ·exact en tt [.t rfl,.i 0,.i 0,.t (by simpa using h),.i 0,.i 0] rfl (by simp [Tq,h]) trivial
  ·by_cases h:i1=j1
   ·exact go tt [.t rfl,.i 1,.i 1,.f (by simpa using h)] rfl (by simp [U9]) (rd 2 (by omega) ⟨by omega,by simp [Tq,h]⟩ rfl)
   ·exact en tt [.t rfl,.i 1,.i 1,.t (by simpa using h),.i 1,.i 1] rfl (by simp [Tq,h]) trivial
  ·by_cases h:i2=j2
   ·exact go tt [.t rfl,.i 2,.i 2,.f (by simpa using h)] rfl (by simp [U9]) (rd 3 (by omega) ⟨by omega,by simp [Tq,h]⟩ rfl)
   ·exact en tt [.t rfl,.i 2,.i 2,.t (by simpa using h),.i 2,.i 2] rfl (by simp [Tq,h]) trivial
  ·by_cases h:i3=j3
   ·exact go tt [.t rfl,.i 3,.i 3,.f (by simpa using h)] rfl (by simp [U9]) (rd 4 (by omega) ⟨by omega,by simp [Tq,h]⟩ rfl)
   ·exact en tt [.t rfl,.i 3,.i 3,.t (by simpa using h),.i 3,.i 3] rfl (by simp [Tq,h]) trivial
  ·exact en tt [.f rfl] rfl (by simp [Tq]) trivial
 ·exact w tt Tryz.func322 rfl [.t (by simpa using hk)] rfl (by simp [Tq,hk]) trivial
theorem Zgn {l:List Ct} (hn:l.length<=1000000):Fa Tryz.prog 293 [.one (.row (G9 l))] [.one (.row (G9 (Gy So l)))]:=by
 have hcl:=Bm l;refine Hl Tryz.func293 rfl ?_;refine go tt [.o 3 272 9] rfl trivial ?_;refine lp (S:=Nat) 1 (λL1 i=>(8,.v (.one (.int .i64 (i:Int))))::(3,.v (.one (.orow 0 9 none)))::L1) (λi=>[.row false 272 9 (G9 (Gy So (l.take i)))]) (λi=>l.length-i) (λi=>i<=l.length) 0 (Qi _) rfl (λ_ _=>rfl) rfl λi hi=>?_
 by_cases hlt:i<l.length
 ·obtain ⟨c,hc⟩:=gxE (l:=l) (i:=i) hlt;have hst:Gy So (l.take (i+1))=M8 So (Gy So (l.take i)) c:=Ah hc;obtain ⟨O,hO⟩:=nmE (Gy So (l.take i));have hOl:O.length=i:=by rw [hO,Te,Qr]; omega
  have hrl:=Bm O;rw [<-hO] at hst ⊢;refine go tt [.t (decide_eq_true (by omega))] rfl trivial ?_;refine lp (S:=Nat) 1 (λL1 k=>(5,.v (.one (.int .i64 (k:Int))))::L1) (λ_=>[.row false 272 9 (G9 O)]) id (λk=>k<=O.length/\Sv So O c k=Sv So O c O.length) (G9 O).length ⟨by omega,by rw [hrl]⟩ rfl (λ_ _=>rfl) rfl λk ⟨hk,hp⟩=>?_
  have h7:=Qi1 O;have h7z:∀ y∈[rct c],y.length=9:=λy hy=>by rw [Qk.1 hy]; rfl
  cases k with
  |
   zero =>
   have hp:Sv So O c O.length=0:=by rw [<-hp]; rfl
   refine go tt [.g 15 false (by simp),.f rfl,.i 0,.x (Nz hc),.lo,.i 0,.s (sz:=9) (λy hy=>h7 y (Qn hy)),.s (sz:=9) (λy hy=>(Qu.1 hy).elim (h7z y) λhy=>h7 y (Qn hy))] rfl (by simp [U9]; omega) ?_;exact rd (i+1) (by omega) hlt (by rw [hst,<-Qe9 hp]; rfl)
  |
   succ k =>
   obtain ⟨x,hx⟩:=gxE (l:=O) (i:=k) (by omega);have cb:=Q2k (k:=c.kind) (i0:=c.i0) (i1:=c.i1) (i2:=c.i2) (i3:=c.i3) (l:=x.kind) (j0:=x.i0) (j1:=x.i1) (j2:=x.i2) (j3:=x.i3);by_cases hlc:So c x=true
   ·refine go tt [.g 15 true (by simp),.x (Nz hc),.r 23 (eI (b:=(k:Int)) (by simp)),.i k,.x (Nz hx),.c [] cb,.t hlc,.r 30 (eI (b:=(k:Int)) (by simp))] rfl (by simp [U9]; omega) ?_;exact rd k (by simp) ⟨by omega,by rw [<-hp,Qcy hx hlc]⟩ rfl
   ·have hlc:So c x=false:=by simpa using hlc
    have hp:Sv So O c O.length=k+1:=by rw [<-hp,Oc hx hlc]
    refine go tt [.g 15 true (by simp),.x (Nz hc),.r 23 (eI (b:=(k:Int)) (by simp)),.i k,.x (Nz hx),.c [] cb,.f hlc,.i (k+1),.x (Nz hc),.lo,.i (k+1),.s (sz:=9) (λy hy=>h7 y (Ze (Qn hy))),.s (sz:=9) (λy hy=>(Qu.1 hy).elim (h7z y) λhy=>h7 y (Ze (Qn hy)))] rfl (by simp [U9]; omega) ?_;exact rd (i+1) (by omega) hlt (by rw [hst,<-Qe9 hp]; rfl)
 ·obtain rfl:i=l.length:=by omega
  rw [Qy];exact en tt [.f (decide_eq_false (by omega))] rfl rfl trivial
abbrev sgq (q:Rat):List Int->Int:=λp=>Gl p q
abbrev rzc:List LV:=[.int .i64 0,.int .i64 0,.int .i64 0,.int .i64 0,.int .i64 0,.nils,.int .i64 0,.nils,.bool false]
theorem Q9s {a b:Pt} {q:Rat} {c:List (List Int)} (ha:Rs a.c) (hb:Rs b.c) (hq:Qs 1000000 q):Fa Tryz.prog 321 [.one (.int .i64 1),.agg (aq q c),.one (.row [Lt a,Lt b])] [.agg (rct (Ch (sgq q) a b)),.one (.bool true)]:=by
 have hfl:=fzl (Hp a.c b.c);have x0:[Lt a,Lt b][0]? = some (Lt a):=rfl;have x1:[Lt a,Lt b][1]? = some (Lt b):=rfl;refine Hl Tryz.func321 rfl ?_;refine go tt [.g 14 false rfl,.g 18 false rfl,.x (l:=[[.int .i64 0],[.int .i64 2],[.int .i64 2],[.int .i64 3],[.int .i64 4],[.int .i64 4]]) (i:=1) (xs:=[.int .i64 2]) rfl,.f rfl] rfl trivial ?_;refine lp (S:=Nat) 3 (λL1 i=>(33,.v (.one (.int .i64 (i:Int))))::L1) (λi=>[.blk 37 (aq q c),.blk 272 rzc,.blk 272 [.int .i64 1,.int .i64 (if 0<i then a.id else 0),.int .i64 (if 1<i then b.id else 0),.int .i64 0,.int .i64 0,.nils,.int .i64 0,.nils,.bool false]]) (λi=>2-i) (λi=>i<=2) 0 (by decide) rfl (λ_ _=>rfl) rfl λi hi=>?_
 rcases (show i=0\/i=1\/i=2 by omega) with rfl | rfl | rfl
 ·exact go tt [.t rfl,.x x0,.i 0] rfl (by simp [U9]) (rd 1 (by omega) (by omega) rfl)
 ·exact go tt [.t rfl,.x x1,.i 1] rfl (by simp [U9]) (rd 2 (by omega) (by omega) rfl)
 by_cases h0:(Hp a.c b.c).length=0
 ·have e:Bh a b=Re a.c b.c:=if_neg (by omega);exact en tt [.f rfl,.t rfl,.x x0,.x x1,.c [] (Qbc ha hb),.t (decide_eq_true (by omega)),.x x0,.x x1,.c [] (Qk2 ha hb),.c [] (Ev (p:=Re a.c b.c) (c:=c) (U8 (Qcx ha hb).1 (by decide)) (Nat.le_trans (Qcx ha hb).2 (by decide)) hq)] rfl (by unfold Ch; rw [e]; rfl) trivial
 ·have e:Bh a b=Hp a.c b.c:=if_pos (by omega);exact en tt [.f rfl,.t rfl,.x x0,.x x1,.c [] (Qbc ha hb),.f (decide_eq_false (by omega)),.c [] (Ev (p:=Hp a.c b.c) (c:=c) (U8 (Qc0 ha hb).1 (by decide)) (Nat.le_trans (Qc0 ha hb).2 (by decide)) hq)] rfl (by unfold Ch; rw [e]; rfl) trivial
theorem Zgp {a b:Pt} {q:Rat} {c:List (List Int)} (ha:Rs a.c) (hb:Rs b.c) (hq:Qs 1000000 q):Fa Tryz.prog 292 [.one (.int .i64 1),.agg (aq q c),.one (.row [Lt a,Lt b])] [.agg (rct (Ch (sgq q) a b))] :=
 w tt Tryz.func292 rfl [.c [] (Q9s ha hb hq)] rfl rfl trivial
def Qp2 (q:Rat) (l:List Pt):List Ct:=Gy So (Pe (sgq q) (Gy (Dq q) l))
theorem Q9r {l:List Ct} (hn:l.length<=1000000):Fa Tryz.prog 127 [.one (.row []),.one (.row (G9 l))] [.one (.row (G9 l))]:=by
 have hcl:=Bm l;refine Hl Tryz.func127 rfl ?_;refine go tt [] rfl trivial ?_;refine lp (S:=Nat) 0 (λL1 i=>(9,.v (.one (.int .i64 (i:Int))))::L1) (λ_=>[]) (λi=>l.length-i) (λi=>i<=l.length) 0 (Qi _) rfl (λ_ _=>rfl) rfl λi hi=>?_
 by_cases hlt:i<l.length
 ·refine go tt [.t (decide_eq_true (by omega))] rfl trivial ?_;refine lp (S:=Nat) 0 (λL1 k=>(14,.v (.one (.int .i64 (k:Int))))::L1) (λ_=>[]) (λk=>0-k) (λk=>k=0) 0 rfl rfl (λ_ _=>rfl) rfl λk hk=>?_
  subst hk;exact go tt [.f rfl] rfl (by simp [U9]; omega) (rd (i+1) (by omega) hlt rfl)
 ·exact en tt [.f (decide_eq_false (by omega))] rfl rfl trivial
theorem Zht (l:List Nat) (n:Nat):(lm l).take (min l.length n)=lm (l.take n):=by
 rw [lm,lm,<-J7];rcases Nat.le_total l.length n with h | h
 ·rw [Zw h,Qy,Qo h]
 ·rw [Kq h]
theorem Zlz {l:List Nat} {n:Nat} (hn:n<=1000):Fa Tryz.prog 252 [.one (.row (lm l)),.one (.int .i64 (n:Int))] [.one (.row (lm (l.take n)))]:=by
 rw [<-Zht];have hll:(lm l).length=l.length:=by simp [lm]
 exact w tt Tryz.func252 rfl [.r 9 (eI (b:=((min l.length n:Nat):Int)) (by omega)),.i (min l.length n)] rfl rfl (by simp [U9,hll]; omega)
theorem Q9f {z:RawInt}:Fa Tryz.prog 197 [.agg (Qhw z),.one (.int .i64 1)] [.agg (Qhw z.cut)] :=
 w tt Tryz.func197 rfl [.c [] (Zlz (l:=z.l) (n:=1) (by decide))] rfl rfl trivial
def Qdl (l:List RawInt):List (List LV):=l.map Qhw
theorem Qc3 (l:List RawInt):(Qdl l).length=l.length:=by simp [Qdl]
theorem Q2d {l:List RawInt}:Fa Tryz.prog 196 [.one (.row (Qdl l)),.one (.int .i64 3),.one (.int .i64 1)] [.one (.row (Qdl ((l.take 3).map RawInt.cut)))]:=by
 have hll:=Qc3 l;refine Hl Tryz.func196 rfl (ln 0 rfl rfl λhzl=>?_);rw [hll] at hzl;refine go tt [.o 7 51 2] rfl trivial ?_;refine lp (S:=Nat) 1 (λL1 i=>(8,.v (.one (.int .i64 (i:Int))))::(7,.v (.one (.orow 0 2 none)))::L1) (λi=>[.row false 51 2 (Qdl ((l.take i).map RawInt.cut))]) (λi=>3-i) (λi=>i<=3/\i<=l.length) 0 ⟨by decide,Qi _⟩ rfl (λ_ _=>rfl) rfl λi ⟨hi,hi2⟩=>?_
 have hil:(Qdl ((l.take i).map RawInt.cut)).length=i:=by rw [Qc3,Q8,Qr]; omega
 by_cases h1:i<l.length
 ·by_cases h2:i<3
  ·obtain ⟨z,hz⟩:=gxE (l:=l) (i:=i) h1;have hm:∀ y∈[Qhw z.cut],y.length=2:=λy hy=>by rw [Qk.1 hy]; rfl
   refine go tt [.g 13 true (decide_eq_true (by omega)),.t (decide_eq_true (by omega)),.x (Ho (f:=Qhw) hz),.c [] Q9f,.s (sz:=2) hm] rfl (by simp [U9,hil,-List.map_take]; omega) ?_;exact rd (i+1) (by omega) ⟨h2,h1⟩ (by rw [Zq,hz]; simp [Qdl]; rfl)
  ·have e:i=3:=by omega
   have e2:l.take 3=l.take i:=by rw [e]
   rw [e2];exact en tt [.g 13 true (decide_eq_true (by omega)),.f (decide_eq_false (by omega))] rfl rfl trivial
 ·have e:l.take i=l.take 3:=by rw [Qo (by omega),Qo (by omega)]
  rw [e];exact en tt [.g 13 false (decide_eq_false (by omega)),.f rfl] rfl rfl trivial
abbrev rcw (z:RawPt):List LV:=[.row (Qdl z.x),.row (Qdl z.y),.bool z.d.b,.row (lm z.d.l)]
def RawPt.cut (z:RawPt):RawPt:=⟨(z.x.take 3).map RawInt.cut,(z.y.take 3).map RawInt.cut,z.d.cut,z.id⟩
theorem Zoq {z:RawPt}:Fa Tryz.prog 124 [.agg (rcw z),.one (.int .i64 3),.one (.int .i64 1)] [.agg (rcw z.cut)] :=
 w tt Tryz.func124 rfl [.c [] (Q2d (l:=z.x)),.c [] (Q2d (l:=z.y)),.c [] (Q9f (z:=z.d))] rfl rfl trivial
theorem Qer {z:RawInt} (hz:z.Ok) {most:Int} (hm:0<=most/\most<=999):Fa Tryz.prog 198 [.agg (Qhw z),.one (.int .i64 most)] [.agg (Hn (T0 most z))]:=by
 obtain ⟨b,l⟩:=z;have hb:=Qd6 hm.1 ⟨b,l⟩;have hs:Fq (T0 most ⟨b,l⟩)<=100000000:=Qc (Sl.2 (show (T0 most ⟨b,l⟩).natAbs<2^10 by omega)) (by decide);cases l with
 | nil=>exact w tt Tryz.func198 rfl [.t rfl] rfl (by simp [T0,Ab]) trivial
 |
  cons u l =>
  have hu:=hz.u u (Qw ..);have co:=Lp (n:=T0 most ⟨b,u::l⟩) (by omega);have ct:=Q84 hs;have hr:Int.tmod (u:Int) (most+1)=(u:Int) % (most+1):=Vd (by omega);have h1:=Yp (u:Int) (b:=most+1) (by omega);have h2:=J3 (u:Int) (b:=most+1) (by omega);cases b with
  |
   true =>
   rw [show T0 most ⟨true,u::l⟩=-((u:Int) % (most+1)) from rfl] at co ct ⊢;exact w tt Tryz.func198 rfl [.f (decide_eq_false (by simp [lm]; try omega)),.x (l:=lm (u::l)) (i:=0) (xs:=[.int .u32 (u:Int)]) rfl,.r 18 (eI hr),.t rfl,.c [] co,.c [] ct] rfl rfl (by simp [U9]; omega)
  |
   false =>
   rw [show T0 most ⟨false,u::l⟩=(u:Int) % (most+1) from rfl] at co ct ⊢;exact w tt Tryz.func198 rfl [.f (decide_eq_false (by simp [lm]; try omega)),.x (l:=lm (u::l)) (i:=0) (xs:=[.int .u32 (u:Int)]) rfl,.r 18 (eI hr),.f rfl,.c [] co,.c [] ct] rfl rfl (by simp [U9]; omega)
theorem oz2 {P:Program} [Mo P] {n:Nat} {Q:Exit->Sg->List OB->Prop} {L L':Sg} {B B':List OB} (d off T sz:Nat) {it:List It} (hs:Sp it=true) (h:Zcw (P:=P) d L B [.oc d off T sz]=some (L',B',[],[])) (k:AK P n Q it L' B'):AK P n Q it L B:=AK.sub (Q0h h EqOk.nil) hs k
theorem pz {P:Program} [Mo P] {n:Nat} {Q:Exit->Sg->List OB->Prop} {L L':Sg} {B B':List OB} (i:Nat) {it:List It} (hs:Sp it=true) (h:Q61 [i] L B=some (L',B')) (k:AK P n Q it L' B'):AK P n Q it L B:=AK.sub (Qfu h) hs k
def I2 (l:List Int):List (List LV):=l.map Hn
theorem Q6p (l:List Int):(I2 l).length=l.length:=by simp [I2]
theorem Qhm {most:Int} {l:List RawInt} {i:Nat} {a:RawInt} (hi:i<3) (h:l[i]? = some a):I2 (Hy most (l.take (i+1)))=I2 (Hy most (l.take i))++[Hn (T0 most a)]:=by
 rw [Qr9 hi h]; simp [I2]
theorem Qr8 {most:Int} {l:List RawInt} {i:Nat} (hi:i<=3) (h:i<=l.length):(I2 (Hy most (l.take i))).length=i:=by
 rw [Q6p]; unfold Hy; rw [List.length_map,List.length_take,List.length_take]; omega
theorem Q8o {z:RawPt} (hz:z.Ok) {most:Int} (hm:0<=most/\most<=999):Fa Tryz.prog 125 [.agg (rcw z),.one (.int .i64 most)] [.agg (cl4 (Qff most z.x z.y z.d))]:=by
 have hxl:=Qc3 z.x;have hyl:=Qc3 z.y;obtain ⟨D,hD⟩:=nmE (T0 3 z.d);have cd:=Qer hz.d (most:=3) (by decide);have hx0:∀ {i:Nat},z.x.length<=i\/3<=i->Hy most (z.x.take i)=Hy most z.x:=Qiq most;have hy0:∀ {i:Nat},z.y.length<=i\/3<=i->Hy most (z.y.take i)=Hy most z.y:=Qiq most;unfold Qff;rw [<-hD] at cd ⊢;refine Hl Tryz.func125 rfl ?_;refine go tt [.c [] cd] rfl trivial ?_;refine oz2 5 0 51 2 rfl rfl ?_;refine lp (S:=Nat) 4 (λL1 i=>(6,.v (.one (.int .i64 (i:Int))))::L1) (λi=>[.blk 53 (rcw z),.blk 53 [.nils,.nils,.bool false,.nils],.blk 53 [.orow 3 2 none,.nils,sg D,mg D],.row false 51 2 (I2 (Hy most (z.x.take i)))]) (λi=>3-i) (λi=>i<=3/\i<=z.x.length) 0 ⟨by decide,Qi _⟩ rfl (λ_ _=>rfl) rfl λi ⟨hi,hi2⟩=>?_
 have hll:=Qr8 (most:=most) hi hi2;by_cases hr:i<z.x.length/\i<3
 ·obtain ⟨a,ha⟩:=gxE (l:=z.x) (i:=i) hr.1;have hs:∀ y∈[Hn (T0 most a)],y.length=2:=λy hy=>by rw [Qk.1 hy]; rfl
  refine go tt [.g 17 true (decide_eq_true (by omega)),.t (decide_eq_true (by omega)),.x (Ho (f:=Qhw) ha),.c [] (Qer (hz.x a (Qa ha)) hm),.s (sz:=2) hs] rfl (by simp [U9,hll]; omega) ?_;exact rd (i+1) (by omega) ⟨hr.2,hr.1⟩ (by rw [Qhm hr.2 ha]; rfl)
 have hg1:decide ((i:Int)<((Qdl z.x).length:Int))=true->i<z.x.length:=λh=>by have:=of_decide_eq_true h; omega
 rw [hx0 (by omega)];clear hll;have hfin:∀ {j:Nat},j<=3/\j<=z.y.length->¬(j<z.y.length/\j<3)->I2 (Hy most (z.y.take j))=I2 (Hy most z.y):=λh1 h2=>by rw [hy0 (by omega)]
 by_cases hxx:i<z.x.length
 ·refine go tt [.g 17 true (decide_eq_true (by omega)),.f (decide_eq_false (by omega))] rfl trivial ?_;refine pz 3 rfl rfl ?_;refine oz2 5 1 51 2 rfl rfl ?_;refine lp (S:=Nat) 5 (λL1 j=>(7,.v (.one (.int .i64 (j:Int))))::L1) (λj=>[.blk 53 (rcw z),.blk 53 [.nils,.nils,.bool false,.nils],.blk 53 [.row (I2 (Hy most z.x)),.orow 4 2 none,sg D,mg D],.gone,.row false 51 2 (I2 (Hy most (z.y.take j)))]) (λj=>3-j) (λj=>j<=3/\j<=z.y.length) 0 ⟨by decide,Qi _⟩ rfl (λ_ _=>rfl) rfl λj ⟨hj,hj2⟩=>?_
  have hll:=Qr8 (most:=most) hj hj2;by_cases hr:j<z.y.length/\j<3
  ·obtain ⟨a,ha⟩:=gxE (l:=z.y) (i:=j) hr.1;have hs:∀ y∈[Hn (T0 most a)],y.length=2:=λy hy=>by rw [Qk.1 hy]; rfl
   refine go tt [.g 40 true (decide_eq_true (by omega)),.t (decide_eq_true (by omega)),.x (Ho (f:=Qhw) ha),.c [] (Qer (hz.y a (Qa ha)) hm),.s (sz:=2) hs] rfl (by simp [U9,hll]; omega) ?_;exact rd (j+1) (by omega) ⟨hr.2,hr.1⟩ (by rw [Qhm hr.2 ha]; rfl)
  rw [hfin ⟨hj,hj2⟩ hr];by_cases hyy:j<z.y.length
  ·exact ed tt [4] [] [.g 40 true (decide_eq_true (by omega)),.f (decide_eq_false (by omega))] rfl trivial
  ·exact ed tt [4] [] [.g 40 false (decide_eq_false (by omega)),.f rfl] rfl trivial
 ·refine go tt [.g 17 false (decide_eq_false (by omega)),.f rfl] rfl trivial ?_;refine pz 3 rfl rfl ?_;refine oz2 5 1 51 2 rfl rfl ?_;refine lp (S:=Nat) 5 (λL1 j=>(7,.v (.one (.int .i64 (j:Int))))::L1) (λj=>[.blk 53 (rcw z),.blk 53 [.nils,.nils,.bool false,.nils],.blk 53 [.row (I2 (Hy most z.x)),.orow 4 2 none,sg D,mg D],.gone,.row false 51 2 (I2 (Hy most (z.y.take j)))]) (λj=>3-j) (λj=>j<=3/\j<=z.y.length) 0 ⟨by decide,Qi _⟩ rfl (λ_ _=>rfl) rfl λj ⟨hj,hj2⟩=>?_
  have hll:=Qr8 (most:=most) hj hj2;by_cases hr:j<z.y.length/\j<3
  ·obtain ⟨a,ha⟩:=gxE (l:=z.y) (i:=j) hr.1;have hs:∀ y∈[Hn (T0 most a)],y.length=2:=λy hy=>by rw [Qk.1 hy]; rfl
   refine go tt [.g 40 true (decide_eq_true (by omega)),.t (decide_eq_true (by omega)),.x (Ho (f:=Qhw) ha),.c [] (Qer (hz.y a (Qa ha)) hm),.s (sz:=2) hs] rfl (by simp [U9,hll]; omega) ?_;exact rd (j+1) (by omega) ⟨hr.2,hr.1⟩ (by rw [Qhm hr.2 ha]; rfl)
  rw [hfin ⟨hj,hj2⟩ hr];by_cases hyy:j<z.y.length
  ·exact ed tt [4] [] [.g 40 true (decide_eq_true (by omega)),.f (decide_eq_false (by omega))] rfl trivial
  ·exact ed tt [4] [] [.g 40 false (decide_eq_false (by omega)),.f rfl] rfl trivial
theorem Zf6 {n d:Int} (hn:-9223372036854775808<=n/\n<=9223372036854775807) (hd:-9223372036854775808<=d/\d<=9223372036854775807):Fa Tryz.prog 52 [.one (.int .i64 n),.one (.int .i64 d)] [.agg (fr (He (Qa4 n 61-30) (1+Qa4 d 6)))]:=by
 have h1:Qa4 n 61=n % 61:=rfl;have h2:Qa4 d 6=d % 6:=rfl;exact w tt Tryz.func52 rfl [.c [] (Qeq (v:=n) (n:=61) hn (by decide)),.c [] (Qeq (v:=d) (n:=6) hd (by decide)),.c [] (Zj7 (n:=Qa4 n 61-30) (d:=1+Qa4 d 6) (by omega) (by omega))] rfl rfl (by simp [U9]; omega)
def rwq (z:RawPt):List LV:=rcw z++[.int .i64 z.id]
def Qf1 (l:List RawPt):List (List LV):=l.map rwq
theorem Q7a (l:List RawPt):(Qf1 l).length=l.length:=by simp [Qf1]
theorem Qtc {l:List RawPt} {i:Nat} {z:RawPt} (h:l[i]? = some z):(Qf1 l)[i]? = some (rwq z):=Ho h
theorem Zl6 {most:Int} (hm:0<=most/\most<=999) (z:RawPt):Cs 100000 16 (Qcs most z).c:=(Qon hm z.x z.y z.d).mono (by decide) (by decide)
def Og (n:Nat) (most:Int) (zs:List RawPt) (i:Nat):List Pt:=Qht n most (zs.take i)
theorem Zcy (n:Nat) (most:Int) (zs:List RawPt) (i:Nat):(Og n most zs i).length<=n:=Qbo _ _ (Qi _)
theorem Zik {n:Nat} {most:Int} {zs:List RawPt} {i:Nat} {z:RawPt} (h:zs[i]? = some z) (hl:(Og n most zs i).length<n) (ha:(Og n most zs i).any (λx=>decide (x.id=(Qcs most z).id))=true):Og n most zs (i+1)=Og n most zs i:=by
 unfold Og Qht at *;rw [Zq,h,Vz,Jo];exact Qab _ _ _ hl ha
theorem Zcz {n:Nat} {most:Int} {zs:List RawPt} {i:Nat} {z:RawPt} (h:zs[i]? = some z) (hl:(Og n most zs i).length<n) (ha:(Og n most zs i).any (λx=>decide (x.id=(Qcs most z).id))=false):Og n most zs (i+1)=Og n most zs i++[Qcs most z]:=by
 unfold Og Qht at *;rw [Zq,h,Vz,Jo];exact If _ _ _ hl ha
theorem Zcx {n:Nat} {most:Int} {zs:List RawPt} {i:Nat} (h:¬(i<zs.length/\(Og n most zs i).length<n)):Og n most zs i=Qht n most zs:=by
 by_cases h1:i<zs.length
 ·have hl:n<=(Og n most zs i).length:=Y3 λh2=>h ⟨h1,h2⟩
  unfold Og Qht at *
  conv=>rhs; rw [<-Zd i zs,Jo]
  exact (Qg7 _ _ _ hl).symm
 ·unfold Og; rw [List.take_of_length_le (by omega)]
theorem Q73 {f:Pt->Bool} {l:List Pt} {k:Nat} {x:Pt} (h:l[k]? = some x):(l.take (k+1)).any f=((l.take k).any f || f x):=by
 rw [Zq,h]; simp
theorem Q5m {zs:List RawPt} (hz:∀ z∈zs,z.Ok):Rh Tryz.prog 63 [.one (.row (Qf1 zs)),.one (.int .i64 4)] [] [.one (.orow 0 5 none),.one (.orow 1 7 none)] [.row false 135 5 (Fh (Qht 4 20 zs)),.row false 57 7 (Fy ((Qht 4 20 zs).map Pt.nrm))]:=by
 have hzl:=Q7a zs;refine Hl Tryz.func63 rfl (ln 0 rfl rfl λhz63=>?_);rw [hzl] at hz63;refine go tt [.o 6 135 5,.o 7 57 7] rfl trivial ?_;refine lp (S:=Nat) 2 (λL1 i=>(8,.v (.one (.int .i64 (i:Int))))::(6,.v (.one (.orow 0 5 none)))::(7,.v (.one (.orow 1 7 none)))::L1) (λi=>[.row false 135 5 (Fh (Og 4 20 zs i)),.row false 57 7 (Fy ((Og 4 20 zs i).map Pt.nrm))]) (λi=>zs.length-i) (λi=>i<=zs.length) 0 (Qi _) rfl (λ_ _=>rfl) rfl λi hi=>?_
 have hOl:=Zcy 4 20 zs i;have hend:=Zcx (n:=4) (most:=20) (zs:=zs) (i:=i);by_cases h1:i<zs.length
 ·by_cases h2:(Og 4 20 zs i).length<4
  ·obtain ⟨z,hzi⟩:=gxE (l:=zs) (i:=i) h1;have hzok:=hz z (Qa hzi);have hin:=Zik hzi h2;have hout:=Zcz hzi h2;obtain ⟨O,hO⟩:=nmE (Og 4 20 zs i);rw [<-hO] at hOl h2 hin hout ⊢;have Nl:=Tn O;have hrl:(Fy (O.map Pt.nrm)).length=O.length:=by rw [Rf,Q8]
   obtain ⟨p,hp⟩:=nmE (Qcs 20 z);have hid:Qa4 z.id 1000=p.id:=by rw [hp]; rfl
   have cw:=Qeq (v:=z.id) (n:=1000) hzok.id (by decide);have cl:=Q8o hzok (most:=20) (by decide);have ecl:cl4 (Qff 20 z.x z.y z.d)=cl4 p.c:=by rw [hp]; rfl
   rw [hid] at cw;rw [ecl] at cl;rw [<-hp] at hin hout;refine go tt [.g 16 true (decide_eq_true (by omega)),.t (decide_eq_true (by omega)),.x (Qtc hzi),.c [] (Zoq (z:=z)),.x (Qtc hzi),.c [] cw,.f rfl,.t rfl,.x (Qtc hzi),.c [] cl] rfl trivial ?_;refine lp (S:=Nat) 3 (λL1 k=>(57,.v (.one (.int .i64 (k:Int))))::(10,.v (.one (.bool ((O.take k).any (λx=>decide (x.id=p.id))))))::L1) (λ_=>[.row false 135 5 (Fh O),.row false 57 7 (Fy (O.map Pt.nrm)),.blk 135 [pl p.c.x,pl p.c.y,sg p.c.d,mg p.c.d,.int .i64 p.id]]) (λk=>O.length-k) (λk=>k<=O.length) 0 (Qi _) rfl (λ_ _=>rfl) rfl λk hk=>?_
   by_cases hk2:k<O.length
   ·obtain ⟨x,hx⟩:=gxE (l:=O) (i:=k) hk2;have ha:=Q73 (f:=λx=>decide (x.id=p.id)) hx;cases hb:(O.take k).any (λx=>decide (x.id=p.id)) with
    |
     true =>
     rw [hb,Uq] at ha;exact go tt [.t (decide_eq_true (by omega)),.g 61 true rfl] rfl (by simp [U9]; omega) (rd (k+1) (by omega) hk2 (by rw [ha]; rfl))
    |
     false =>
     rw [hb,Ks] at ha;exact go tt [.t (decide_eq_true (by omega)),.g 61 false rfl,.i k,.x (Rp hx)] rfl (by simp [U9,Nl]; omega) (rd (k+1) (by omega) hk2 (by rw [ha]; rfl))
   have hk3:O.take k=O:=Qo (by omega);rw [hk3];cases hb:O.any (λx=>decide (x.id=p.id)) with
   |
    true =>
    refine go tt [.f (decide_eq_false (by omega)),.f rfl] rfl (by simp [U9]; omega) ?_;exact rd (i+1) (by omega) h1 (by rw [hin hb]; rfl)
   |
    false =>
    have cf:=Q9q (k:=p.c) (id:=p.id) (by rw [hp]; exact Zl6 (by decide) z);have hm1:∀ y∈[H5 p],y.length=5:=λy hy=>by rw [Qk.1 hy]; rfl
    have hm2:∀ y∈[Lt p.nrm],y.length=7:=λy hy=>by rw [Qk.1 hy]; rfl
    have e1:Fh (O++[p])=Fh O++[H5 p]:=by simp [Fh]
    have e2:Fy ((O++[p]).map Pt.nrm)=Fy (O.map Pt.nrm)++[Lt p.nrm]:=by simp [Fy]
    refine go tt [.f (decide_eq_false (by omega)),.t rfl,.s (sz:=5) hm1,.c [] cf,.s (sz:=7) hm2] rfl (by simp [U9,Nl,hrl]; omega) ?_;exact rd (i+1) (by omega) h1 (by rw [hout hb,e1,e2]; rfl)
  ·rw [hend (λh=>h2 h.2)];rw [hend (λh=>h2 h.2)] at h2;have Nl:=Tn (Qht 4 20 zs);exact ed tt [] [0,1] [.g 16 true (decide_eq_true (by omega)),.f (decide_eq_false (by omega))] rfl trivial
 ·rw [hend (λh=>h1 h.1)];exact ed tt [] [0,1] [.g 16 false (decide_eq_false (by omega)),.f rfl] rfl trivial
abbrev plZ (M:List Pt) (q:Rat):List LV:=.row (Fy M)::(fr q++[.nils,.nils,.nils,.bool false,.nils,.bool false,.nils,.bool false,.nils,.bool false,.nils,.int .i64 0,.nils])
abbrev plB (M:List Pt) (q:Rat) (c:List (List Int)) (w:List Ct):List LV:=.row (Fy M)::(fr q++(aq q c++[.row (G9 w),.int .i64 0,.nils]))
end Orr
namespace Orr
open Go Go.Proofs Orq
set_option maxRecDepth 10000
theorem Zg5 {O:List Pt} {e j:Nat} (h:A9 (Pz O e)) (hj:j<=e):A9 (Pz O j):=by
 have:Pz O j=(Pz O e).take j:=by unfold Pz; rw [<-List.map_take,List.take_take,Nat.min_eq_left hj]
 rw [this];exact List.Pairwise.sublist (Um _ _) h
theorem Zl8 (O:List Pt):∃ e,e<=O.length/\A9 (Pz O e)/\(e<O.length->¬A9 (Pz O (e+1))):=by
 have key:∀ k,A9 (Pz O k)\/∃ e,e<k/\A9 (Pz O e)/\¬A9 (Pz O (e+1)):=by
  intro k
  induction k with
  | zero=>exact .inl List.Pairwise.nil
  |
   succ k ih =>
   rcases ih with h | ⟨e,h1,h2,h3⟩
   ·by_cases h4:A9 (Pz O (k+1))
    ·exact .inl h4
    ·exact .inr ⟨k,Nat.lt_succ_self k,h,h4⟩
   ·exact .inr ⟨e,by omega,h2,h3⟩
 rcases key O.length with h | ⟨e,h1,h2,h3⟩
 ·exact ⟨O.length,Ql _,h,λh=>absurd h (Uk _)⟩
 ·exact ⟨e,by omega,h2,λ_=>h3⟩
theorem Qsx {O:List Pt} {i:Nat} {p:Pt} (h:O[i]? = some p):(Fh (mix O i)).set i [pl p.c.x,pl p.c.y,sg p.c.d,mg p.c.d,.int .i64 p.m5.id]=Fh (mix O (i+1)):=by
 rw [<-Q3z h]; simp only [Fh,Kf]; rfl
theorem Qn4 {O:List Pt} {i:Nat} {p:Pt} (h:O[i]? = some p):(Fy ((mix O i).map Pt.nrm)).set i [rp (Im p.nrm.c.x p.nrm.c.d),rp (Im p.nrm.c.y p.nrm.c.d),pl p.nrm.c.x,pl p.nrm.c.y,sg p.nrm.c.d,mg p.nrm.c.d,.int .i64 p.m5.id]=Fy ((mix O (i+1)).map Pt.nrm):=by
 rw [<-Q3z h]; simp only [Fy,Kf]; rfl
theorem Q60 {O:List Pt} {e i:Nat} (h:e<=i) (hi:i<=O.length):(Fh (mix O i)).take e=Fh (Pz O e):=by
 unfold Fh; rw [<-List.map_take,Qv2 h hi]; rfl
theorem Q0w {O:List Pt} {e i:Nat} (h:e<=i) (hi:i<=O.length):(Fy ((mix O i).map Pt.nrm)).take e=Fy (Qdb O e):=by
 unfold Fy; rw [<-List.map_take,<-List.map_take,Qv2 h hi]; rfl
theorem Qv1 {O:List Pt}:mix O O.length=Pz O O.length:=by unfold mix Pz; simp
abbrev Qan (n d:Int):Rat:=He (Qa4 n 61-30) (1+Qa4 d 6)
theorem Qqg (n d:Int):Qs 100 (Qan n d):=by
 have h1:Qa4 n 61=n % 61:=rfl;have h2:Qa4 d 6=d % 6:=rfl;unfold Qan He;rw [if_neg (by omega)];exact Qs.divInt (Qc (Sl.2 (show (Qa4 n 61-30).natAbs<2^10 by omega)) (by decide)) (Qc (Sl.2 (show (1+Qa4 d 6).natAbs<2^10 by omega)) (by decide)) (by decide)
theorem Zil {n:Nat} {most:Int} {l:List RawPt}:∀ p∈Qht n most l,0≤p.id/\p.id<1000:=λp hp=>by
 rcases Qe3 _ _ hp with h | h
 ·cases h
 ·obtain ⟨z,_,rfl⟩:=Zp.1 h;exact ⟨Yp _ (by decide),J3 _ (by decide)⟩
end Orr
namespace Orr
def Zt1 (s m:Pt×Pt):Bool:=decide (m.1.id≠s.1.id) || decide (m.2.id≠s.2.id)
end Orr
namespace Orq
open Orr Go
theorem Zny {a b:Tm} (ha:Cut (Fv a)) (hb:Cut (Fv b)) (h:¬Nc a b) (h':¬Nc b a):∀ q,Fv a q=Fv b q:=by
 rcases tri ha hb with h1 | h1 | h1
 ·exact absurd h1 h
 ·exact h1
 ·exact absurd h1 h'
theorem Zjk {a b b':Tm} (h:∀ q,Fv b q=Fv b' q):Nc a b↔Nc a b':=by
 unfold Nc; simp only [h]
theorem Zem {a b b':Tm} (h:∀ q,Fv b q=Fv b' q):Nc b a↔Nc b' a:=by
 unfold Nc; simp only [h]
theorem Zcd {p:List Int} {a:Tm} (ha:Va a) {t t':Tm} (h:Pg p a (some t)) (h':Pg p a (some t')):∀ q,Fv t q=Fv t' q:=by
 obtain ⟨_,v,l,s,s0,h4,h5⟩:=h;obtain ⟨_,v',l',s',s0',h4',h5'⟩:=h';have es:s=s':=Qf0 (h4 _ ha.cut (λ_ h=>h) l) (h4' _ ha.cut (λ_ h=>h) l');refine Zny v.cut v'.cut (λhlt=>?_) λhlt=>?_
 ·have:=Qf0 (h4' _ v.cut (Qd5 ha.cut v.cut (Qsc ha.cut v.cut l)) hlt) h5;omega
 ·have:=Qf0 (h4 _ v'.cut (Qd5 ha.cut v'.cut (Qsc ha.cut v'.cut l')) hlt) h5';omega
theorem Qwa {p:List Int} {a:Tm} (ha:Va a) {t:Tm} (h:Pg p a (some t)) (h':Pg p a none):False:=by
 obtain ⟨h1,v,l,s,s0,h4,h5⟩:=h;rcases h' with h' | ⟨s',s0',h'⟩
 ·exact h1 h'
 ·have e1:=Qf0 (h' _ ha.cut λ_ h=>h) (h4 _ ha.cut (λ_ h=>h) l);have e2:=Qf0 (h' _ v.cut (Qd5 ha.cut v.cut (Qsc ha.cut v.cut l))) h5;omega
structure Quiet {β:Type} (Bc:Tm->List Ct) (Br:Tm->β) (a b:Tm):Prop where
 va:Va a
 vb:Va b
 le:¬Nc b a
 n:∀ x∈Bc a,∃ o,Pg x.p a o/\∀ u,o=some u->Nc b u
section
variable {β:Type} {Bc:Tm->List Ct} {Br:Tm->β} (S:Stab Bc Br)
include S
theorem Quiet.same {a b:Tm} (h:Quiet Bc Br a b):Bc b=Bc a/\Br b=Br a:=by
 refine S.st a b h.va h.vb λx hx=>?_
 obtain ⟨o,o1,o2⟩:=h.n x hx;exact Qg9 (S.ok.p _ h.va _ hx).dp h.va h.vb h.le o1 o2
end
theorem Zjm {p:List Int} (h:Cp p):(tms p).length<=67:=by
 obtain ⟨l,l1,l2,_⟩:=Qcf h;unfold tms; rw [l1]; exact l2
theorem Q42:∀ {Ps:List (List Int)},(∀ p∈Ps,Cp p)->(Ps.flatMap tms).length≤67*Ps.length
 | [],_=>Qi _
 |
  p::Ps,h=>by
  have h1:=Zjm (h p (by simp));have h2:=Q42 (Ps:=Ps) λq hq=>h q (Qj _ hq)
  rw [Yg,Q4,Q7]; omega
theorem Zps (T:List Tm) (a:Tm):mu T a<=T.length:=Ke _ _
theorem Zlb {β:Type} {Bc:Tm->List Ct} {Br:Tm->β} (S:Stab Bc Br) {Ps:List (List Int)} (hP:∀ p∈Ps,Cp p) (hPs:∀ a,Va a->∀ x∈Bc a,x.p∈Ps) (hl:Ps.length≤1000000) {t:Rat} (ht:Qs 400000 t) {c:Cr} {r:β} (hS:KSt Bc Br c r) (h:Fv c.now t≤0) :
 ∃ (K:Nat) (c':Cr) (E:List Tm),K<=67000001/\goF Bc Br t K c r 0=some (c',Br (tq t),((E.length:Nat):Int))/\c'.now=tq t/\KSt Bc Br c' (Br (tq t))/\c'.ev=c.ev+((E.length:Nat):Int)/\E.length<=67000000/\Evs Bc t c.now E:=by
 have hm:=Q42 hP;have hmu:=Zps (Ps.flatMap tms) c.now;have hv:=hS.inv.ok.n;obtain ⟨c',r',E,g1,g2,g3,g4,g5,g6⟩:=Zpd S ht hP hPs (mu (Ps.flatMap tms) c.now) c r 0 (Ql _) hS λh'=>by
  have:=(Qbd hv.cut).2 h'; omega
 have hr:r'=Br (tq t):=by rw [g3.r,g2]
 rw [hr] at g1 g3;rw [Int.zero_add] at g1;exact ⟨_,c',E,by omega,g1,g2,g3,g4,by omega,g6⟩
theorem Zlj {β:Type} {Bc:Tm->List Ct} {Br:Tm->β} (S:Stab Bc Br) {a:Tm} (ha:Va a):KSt Bc Br ⟨a,(H8 (Bc a)).map fresh,0⟩ (Br a):=by
 refine ⟨⟨⟨ha,λw hw=>?_,?_⟩,λw hw hk=>?_⟩,?_,rfl⟩
 ·obtain ⟨x,hx,rfl⟩:=Zp.1 hw;exact ⟨S.ok.p _ ha x (Qh1 hx),λt ht=>by cases ht⟩
 ·show ((H8 (Bc a)).map fresh).length<=1000;rw [Q8,Ep]; exact S.ok.n _ ha
 ·obtain ⟨x,hx,rfl⟩:=Zp.1 hw;cases hk
 ·show ((H8 (Bc a)).map fresh).map (·.c)=H8 (Bc a);rw [List.map_map];show (H8 (Bc a)).map (λx=>x)=_;rw [List.map_id']
end Orq
namespace Orr
open Go Go.Proofs Orq
set_option maxRecDepth 10000
end Orr
namespace Orr
open Go Go.Proofs
set_option maxRecDepth 10000
theorem Q2e {p q:List Int} (hp:Bd 19000000 p) (hq:Bd 19000000 q) (hlp:p.length<=1000000) (hlq:q.length<=1000000):Fa Tryz.prog 143 [.one (rp (zp p)),.one (rp (zp q))] [.one (rp (zp (Ii p q)))]:=by
 have h:=Qyq (Qa0 (U8 hp (by decide)) (by decide)) (Qa0 (U8 hq (by decide)) (by decide)) (by rw [Pn]; exact hlp) (by rw [Pn]; exact hlq);rwa [Q4n] at h
theorem Qzi (p:List Int) (q:Rat):Tg (sgq q) p=Ms p q:=rfl
end Orr
namespace Orr
def A4 (l:List (List (List Int))):List (List LV):=l.map λr=>[.row (r.map λp=>[pl p])]
abbrev Qde (r:List (List Int)):List (List LV):=r.map λp=>[pl p]
theorem Qcz (l:List (List (List Int))):(A4 l).length=l.length:=by simp [A4]
def Qbz (i:Nat) (rows:List (List (List Int))):Nat->List (List (List Int))
 | 0=>[]
 | j+1=>if j=i then Qbz i rows j else Qbz i rows j++[(rows.getD j []).drop 1]
def Qdc (rows:List (List (List Int))) (i:Nat):List (List (List Int)):=Qbz i rows rows.length
def Dk (f:Nat->List Int) (rows:List (List (List Int))):Nat->List Int
 | 0=>[]
 |
  i+1=>if ((rows.getD i []).getD 0 []).length=0 then Dk f rows i else
  if i % 2=0 then Ii (Dk f rows i) (Gs ((rows.getD i []).getD 0 []) (f i)) else Pa (Dk f rows i) (Gs ((rows.getD i []).getD 0 []) (f i))
def Lk:Nat->List (List (List Int))->List Int
 | 0,_=>[1]
 | k+1,rows=>Dk (λi=>Lk k (Qdc rows i)) rows (k+1)
structure Sq (s:Nat) (ds:List Nat) (k w:Nat) (rows:List (List (List Int))):Prop where
 l:rows.length=k
 w:∀ r∈rows,r.length=w
 t:∀ r∈rows,∀ p∈r,Fg p
 b:∀ r∈rows,∀ p∈r,Bd s p
 n:∀ r∈rows,∀ (j:Nat) (p:List Int),r[j]? = some p->p.length≤ds.getD j 0+1
theorem Qmj {i:Nat} {rows:List (List (List Int))}:∀ {j:Nat} {r:List (List Int)},j≤rows.length->r∈Qbz i rows j->∃ q∈rows,r=q.drop 1
 | 0,r,_,h=>by simp [Qbz] at h
 |
  j+1,r,hj,h=>by
  simp only [Qbz] at h
  split at h
  ·exact Qmj (by omega) h
  ·rcases Qu.1 h with h | h
   ·exact Qmj (by omega) h
   ·rw [Qk.1 h];exact ⟨rows.getD j [],Qa (i:=j) (by rw [Qe,Qd (by omega)]; rfl),rfl⟩
theorem Qmi {i:Nat} {rows:List (List (List Int))}:∀ (j:Nat),(Qbz i rows j).length=if i<j then j-1 else j
 | 0=>rfl
 |
  j+1=>by
  have ih:=Qmi (i:=i) (rows:=rows) j;simp only [Qbz]
  split
  ·rename_i e; subst e; rw [ih,if_neg (by omega),if_pos (by omega)]; omega
  ·rw [Q4,ih,Y8]
   split <;> split <;> omega
theorem Sq.min {s d k w:Nat} {ds:List Nat} {rows:List (List (List Int))} (h:Sq s (d::ds) (k+1) (w+1) rows) {i:Nat} (hi:i<k+1):Sq s ds k w (Qdc rows i):=by
 have hl:=h.l;have hm:∀ {r:List (List Int)},r∈Qdc rows i->∃ q∈rows,r=q.drop 1:=λh=>Qmj (Ql _) h
 refine ⟨by unfold Qdc; rw [Qmi,hl,if_pos hi]; omega,λr hr=>?_,λr hr p hp=>?_,λr hr p hp=>?_,λr hr j p hp=>?_⟩
 ·obtain ⟨q,hq,rfl⟩:=hm hr;rw [Jf,h.w q hq]; omega
 all_goals obtain ⟨q,hq,rfl⟩:=hm hr
 ·exact h.t q hq p (Ze hp)
 ·exact h.b q hq p (Ze hp)
 ·rw [Xh] at hp;have:=h.n q hq (1+j) p hp;rw [Jm 1 j] at this;exact this
theorem Sq.at {s d k w:Nat} {ds:List Nat} {rows:List (List (List Int))} (h:Sq s (d::ds) k (w+1) rows) {i:Nat} (hi:i<k):∃ p r,rows[i]? = some (p::r)/\(rows.getD i []).getD 0 []=p/\Fg p/\Bd s p/\p.length<=d+1:=by
 obtain ⟨r,hr⟩:=gxE (l:=rows) (i:=i) (by rw [h.l]; exact hi);have hm:=Qa hr;cases r with
 | nil=>have:=h.w _ hm; simp at this
 |
  cons p r =>
  have e:rows.getD i []=p::r:=by rw [Qe,hr]; rfl
  refine ⟨p,r,hr,by rw [e]; rfl,h.t _ hm p (by simp),h.b _ hm p (by simp),h.n _ hm 0 p rfl⟩
theorem Qrm {s d k w:Nat} {ds:List Nat} {f:Nat->List Int} {rows:List (List (List Int))} {B L:Nat} (h:Sq s (d::ds) k (w+1) rows) (hn:d<31) (hf:∀ i,i<k->Bd B (f i)/\(f i).length<=L+1):∀ i,i<=k->Fg (Dk f rows i)/\Bd (s+B+5+i) (Dk f rows i)/\(Dk f rows i).length<=d+L+1
 | 0,_=>⟨rfl,λz hz=>(by cases hz),Qi _⟩
 |
  i+1,hi=>by
  obtain ⟨h1,h2,h3⟩:=Qrm h hn hf i (by omega);obtain ⟨p,r,_,e,t,b,l⟩:=h.at (i:=i) (by omega);obtain ⟨f1,f2⟩:=hf i (by omega);have hp1:Bd (s+B+5) (Gs p (f i)):=Qeo b f1 (by omega);have hp2:=Qbu p (f i);simp only [Dk];rw [e]
  split
  ·exact ⟨h1,U8 h2 (by omega),h3⟩
  ·split
   ·exact ⟨Fw _ _,U8 (Qqx h2 hp1) (by omega),Qc (Qmg _ _) (by omega)⟩
   ·exact ⟨Fw _ _,U8 (Lv h2 hp1) (by omega),Qc (No _ _) (by omega)⟩
theorem Qj4 {s:Nat}:∀ (k:Nat) (ds:List Nat) (rows:List (List (List Int))),k<=4->ds.length=k->ds.sum<31->Sq s ds k k rows->Fg (Lk k rows)/\Bd (k*(s+10)+1) (Lk k rows)/\(Lk k rows).length<=ds.sum+1
 | 0,ds,rows,_,_,_,_=>⟨rfl,λz hz=>(by simp [Lk] at hz; subst hz; rw [J6]; decide),by simp [Lk]⟩
 | k+1,[],rows,_,hl,_,_=>by simp at hl
 |
  k+1,d::ds,rows,hk,hl,hd,h=>by
  rw [Kv] at hd;have ih:=λi (hi:i<k+1)=>Qj4 k ds (Qdc rows i) (by omega) (by simpa using hl) (by omega) (h.min hi)
  obtain ⟨h1,h2,h3⟩:=Qrm (f:=λi=>Lk k (Qdc rows i)) (B:=k*(s+10)+1) (L:=ds.sum) h (by omega) (λi hi=>⟨(ih i hi).2.1,(ih i hi).2.2⟩) (k+1) (Ql _);have e1:(k+1)*(s+10)=k*(s+10)+(s+10):=Xd ..;rw [Kv];exact ⟨h1,U8 h2 (by omega),h3⟩
def Bv (a b c:Crv):List (List (List Int)):=[[a.x,a.y,[a.d]],[b.x,b.y,[b.d]],[c.x,c.y,[c.d]]]
def Hm (a b c:Crv):List Int:=Lk 3 (Bv a b c)
end Orr
namespace Orr
open Go Go.Proofs Orq
set_option maxRecDepth 10000
theorem gz {P:Program} [Mo P] {n:Nat} {Q:Exit->Sg->List OB->Prop} {L L':Sg} {B B':List OB} (i:Nat) {it:List It} (hs:Sp it=true) (h:Q61 [i] L B=some (L',B')) (k:AK P n Q it L' B'):AK P n Q it L B:=AK.sub (Qfu h) hs k
theorem Qm4 {r:List (List Int)} {i:Nat} {p:List Int} (h:r[i]? = some p):(Qde r)[i]? = some [pl p]:=Ho h
theorem Em {l:List (List (List Int))} {i:Nat} {r:List (List Int)} (h:l[i]? = some r):(A4 l)[i]? = some [.row (Qde r)]:=Ho h
theorem Zlp {r:List (List Int)} (ht:∀ p∈r,Fg p) (hb:∀ p∈r,Bd 1000000 p) (hl:∀ p∈r,p.length≤1000000) (hn:r.length≤1000):Fa Tryz.prog 281 [.one (.row (Qde r))] [.one (.row (Qde r))]:=by
 have hrl:(Qde r).length=r.length:=by simp
 refine Hl Tryz.func281 rfl ?_;refine go tt [.o 3 48 1] rfl trivial ?_;refine lp (S:=Nat) 1 (λL1 i=>(8,.v (.one (.int .i64 (i:Int))))::(3,.v (.one (.orow 0 1 none)))::L1) (λi=>[.row false 48 1 (Qde (r.take i))]) (λi=>r.length-i) (λi=>i<=r.length) 0 (Qi _) rfl (λ_ _=>rfl) rfl λi hi=>?_
 by_cases h:i<r.length
 ·obtain ⟨p,hp⟩:=gxE (l:=r) (i:=i) h;have hm:=Qa hp;have hs:∀ y∈[[pl p]],y.length=1:=λy hy=>by rw [Qk.1 hy]; rfl
  have e:Qde (r.take (i+1))=Qde (r.take i)++[[pl p]]:=by rw [Zq,hp]; simp
  refine go tt [.t (decide_eq_true (by omega)),.x (Qm4 hp),.c [] (Ri (ht p hm) (by have:=hl p hm; omega) (U8 (hb p hm) (by decide))),.s (sz:=1) hs] rfl (by simp [U9] <;> omega) ?_;exact rd (i+1) (by omega) h (by rw [e]; rfl)
 ·obtain rfl:i=r.length:=by omega
  rw [Qy];exact en tt [.f (decide_eq_false (by omega))] rfl rfl trivial
theorem Zo4 {s k w:Nat} {ds:List Nat} {rows:List (List (List Int))} (h:Sq s ds k k rows) (_hw:w=k) (hk:k<=4):Fa Tryz.prog 312 [.one (.row (A4 rows))] [.one (.bool true)]:=by
 have hrl:=Qcz rows;have hl:=h.l;refine Hl Tryz.func312 rfl ?_;refine go tt [] rfl trivial ?_;refine lp (S:=Nat) 0 (λL1 i=>(7,.v (.one (.int .i64 (i:Int))))::L1) (λ_=>[]) (λi=>rows.length-i) (λi=>i<=rows.length) 0 (Qi _) rfl (λ_ _=>rfl) rfl λi hi=>?_
 by_cases hlt:i<rows.length
 ·obtain ⟨r,hr⟩:=gxE (l:=rows) (i:=i) hlt;have hw:=h.w r (Qa hr);have hql:(Qde r).length=r.length:=by simp
  refine go tt [.t (decide_eq_true (by omega)),.x (Em hr),.f (decide_eq_false (λh=>h (by omega)))] rfl (by simp [U9] <;> omega) ?_;exact rd (i+1) (by omega) hlt rfl
 ·exact en tt [.f (decide_eq_false (by omega))] rfl (by rw [decide_eq_true (by omega:((A4 rows).length:Int)<=4)]) trivial
theorem Zgf {s k w:Nat} {ds:List Nat} {rows:List (List (List Int))} (h:Sq s ds k w rows) (hs:s<=1000000) (hk:k<=4) (hw:w<=4) (hd:∀ j,ds.getD j 0<=1000) (i:Nat):Fa Tryz.prog 336 [.one (.int .i64 (i:Int)),.one (.int .i64 0),.one (.row (A4 rows))] [.one (.row (A4 (Qdc rows i)))]:=by
 have hrl:=Qcz rows;have hl:=h.l;have hml:∀ j,j<=rows.length->(A4 (Qbz i rows j)).length<=4:=λj hj=>by
  rw [Qcz,Qmi]; split <;> omega
 refine Hl Tryz.func336 rfl ?_;refine go tt [.o 7 287 1] rfl trivial ?_;refine lp (S:=Nat) 1 (λL1 j=>(15,.v (.one (.int .i64 (j:Int))))::(7,.v (.one (.orow 0 1 none)))::L1) (λj=>[.row false 287 1 (A4 (Qbz i rows j))]) (λj=>rows.length-j) (λj=>j<=rows.length) 0 (Qi _) rfl (λ_ _=>rfl) rfl λj hj=>?_
 have hmlj:=hml j hj;by_cases hlt:j<rows.length
 ·obtain ⟨r,hr⟩:=gxE (l:=rows) (i:=j) hlt;have hm:=Qa hr;have hw:=h.w r hm;have hql:(Qde r).length=r.length:=by simp
  by_cases hij:j=i
  ·have e:Qbz i rows (j+1)=Qbz i rows j:=by simp only [Qbz]; rw [if_pos hij]
   refine go tt [.t (decide_eq_true (by omega)),.x (Em hr),.t (decide_eq_true (by omega))] rfl (by simp [U9] <;> omega) ?_;exact rd (j+1) (by omega) hlt (by rw [e]; rfl)
  ·have e:Qbz i rows (j+1)=Qbz i rows j++[r.drop 1]:=by
    simp only [Qbz]; rw [if_neg hij,Qe,hr]; rfl
   refine go tt [.t (decide_eq_true (by omega)),.x (Em hr),.f (decide_eq_false (by omega)),.o 10 48 1] rfl (by simp [U9]) ?_;refine lp (S:=Nat) 2 (λL1 c=>(25,.v (.one (.int .i64 (c:Int))))::(10,.v (.one (.orow 1 1 none)))::L1) (λc=>[.row false 287 1 (A4 (Qbz i rows j)),.row false 48 1 (Qde ((r.take c).drop 1))]) (λc=>r.length-c) (λc=>c<=r.length) 0 (Qi _) rfl (λ_ _=>rfl) rfl λc hc=>?_
   by_cases hcl:c<r.length
   ·obtain ⟨p,hp⟩:=gxE (l:=r) (i:=c) hcl;have hpm:=Qa hp;by_cases h0:c=0
    ·subst h0;refine go tt [.t (decide_eq_true (by omega)),.x (Qm4 hp),.f (decide_eq_false (by simp))] rfl (by simp [U9]) ?_;exact rd 1 (by omega) hcl (by rw [Zq,hp]; rfl)
    ·have hs1:∀ y∈[[pl p]],y.length=1:=λy hy=>by rw [Qk.1 hy]; rfl
     have e2:Qde ((r.take (c+1)).drop 1)=Qde ((r.take c).drop 1)++[[pl p]]:=by
      rw [Zq,hp,V5 (by rw [Qr]; omega)]; simp
     refine go tt [.t (decide_eq_true (by omega)),.x (Qm4 hp),.t (decide_eq_true (by omega)),.c [] (Ri (h.t r hm p hpm) (by have:=h.n r hm c p hp; have:=hd c; omega) (U8 (h.b r hm p hpm) (by omega))),.s (sz:=1) hs1] rfl (by simp [U9] <;> omega) ?_;exact rd (c+1) (by omega) hcl (by rw [e2]; rfl)
   ·obtain rfl:c=r.length:=by omega
    rw [Qy];have hs1:∀ y∈[[LV.row (Qde (r.drop 1))]],y.length=1:=λy hy=>by rw [Qk.1 hy]; rfl
    refine go tt [.f (decide_eq_false (by omega))] rfl trivial ?_;refine gz 1 rfl rfl ?_;refine go tt [.s (sz:=1) hs1] rfl (by simp [U9] <;> omega) ?_;exact rd (j+1) (by omega) hlt (by rw [e]; simp [A4]; rfl)
 ·obtain rfl:j=rows.length:=by omega
  exact en tt [.f (decide_eq_false (by omega))] rfl rfl trivial
theorem Qij:∀ (ds:List Nat) (j:Nat),ds.getD j 0<=ds.sum
 | [],j=>by simp
 | d::ds,0=>by simp
 |
  d::ds,j+1=>by
  have:=Qij ds j;rw [Kv];show ds.getD j 0<=_;omega
theorem Zkd {s:Nat} (hs:s<=100000):∀ (k:Nat) (ds:List Nat) (rows:List (List (List Int))),k<=4->ds.length=k->ds.sum<31->Sq s ds k k rows->Fa Tryz.prog 313 [.one (.row (A4 rows))] [pr (Lk k rows)]
 |
  0,ds,rows,_,_,_,h=>by
  have e:=Qh h.l;subst e;have co:=Q12 (p:=[1]) (by decide) (by decide);exact w tt Tryz.func313 rfl [.t rfl,.c [] co] rfl rfl trivial
 | k+1,[],_,_,hl,_,_=>by simp at hl
 |
  k+1,d::ds,rows,hk,hl,hd,h=>by
  rw [Kv] at hd;have hl':ds.length=k:=by simpa using hl
  have hrl:=Qcz rows;have hrn:=h.l;have hmin:=λi (hi:i<k+1)=>h.min hi
  have ih:=λi (hi:i<k+1)=>Zkd hs k ds (Qdc rows i) (by omega) hl' (by omega) (hmin i hi)
  have hok:=λi (hi:i<k+1)=>Qj4 k ds (Qdc rows i) (by omega) hl' (by omega) (hmin i hi)
  have hb:k*(s+10)+1<=500000:=by
   have:k*(s+10)<=4*(100010):=Zh (by omega) (by omega);omega
  have hds:=Qrm (f:=λi=>Lk k (Qdc rows i)) (B:=k*(s+10)+1) (L:=ds.sum) h (by omega) (λi hi=>⟨(hok i hi).2.1,(hok i hi).2.2⟩);have cm:=Zgf h (by omega) hk hk (λj=>by have:=Qij (d::ds) j; rw [Kv] at this; omega);show Fa Tryz.prog 313 [.one (.row (A4 rows))] [pr (Dk (λi=>Lk k (Qdc rows i)) rows (k+1))];obtain ⟨f,hf⟩:=nmE (λi=>Lk k (Qdc rows i));rw [<-hf] at hds ⊢;have hfi:∀ i,f i=Lk k (Qdc rows i):=λi=>by rw [hf]
  refine Hl Tryz.func313 rfl ?_;refine go tt [.f (decide_eq_false (by omega)),.z 3] rfl trivial ?_;refine lp (S:=Nat) 0 (λL1 i=>(14,.v (.one (.int .i64 (i:Int))))::(3,.v (pr (Dk f rows i)))::L1) (λ_=>[]) (λi=>k+1-i) (λi=>i<=k+1) 0 (Qi _) rfl (λ_ _=>rfl) rfl λi hi=>?_
  obtain ⟨d1,d2,d3⟩:=hds i hi;by_cases hlt:i<k+1
  ·obtain ⟨p,r,hr,e,t,b,l⟩:=h.at hlt;have hx0:(Qde (p::r))[0]? = some [pl p]:=rfl;have Nl:(p.map Hn).length=p.length:=by simp
   have cn:=Ri t (by omega) (U8 b (by omega));by_cases h0:p.length=0
   ·have es:Dk f rows (i+1)=Dk f rows i:=by simp only [Dk]; rw [e,if_pos h0]
    refine go tt [.t (decide_eq_true (by omega)),.x (Em hr),.x hx0,.c [] cn,.t (decide_eq_true (by omega))] rfl (by simp [U9] <;> omega) ?_;exact rd (i+1) (by omega) hlt (by rw [es]; rfl)
   ·obtain ⟨k1,k2,k3⟩:=hok i hlt;have ci:=ih i hlt;have cp:=Q8u (p:=p) (q:=f i) t (by rw [hfi]; exact k1) (by omega) (by rw [hfi]; omega) b (by rw [hfi]; exact k2) (by omega);have hmb:Bd (s+(k*(s+10)+1)+5) (Gs p (f i)):=Qeo b (by rw [hfi]; exact k2) (by omega);have hml:=Qbu p (f i);have hfl:(f i).length<=ds.sum+1:=by rw [hfi]; exact k3
    rw [<-hfi] at ci;by_cases h2:i % 2=0
    ·have es:Dk f rows (i+1)=Ii (Dk f rows i) (Gs p (f i)):=by simp only [Dk]; rw [e,if_neg h0,if_pos h2]
     refine go tt [.t (decide_eq_true (by omega)),.x (Em hr),.x hx0,.c [] cn,.f (decide_eq_false (by omega)),.x hx0,.c [] (cm i),.c [] ci,.c [] cp,.r 34 (eI (b:=((i % 2:Nat):Int)) rfl),.t (decide_eq_true (by omega)),.c [] (Q8r (p:=Dk f rows i) (q:=Gs p (f i)) (by omega) (by omega) (U8 d2 (by omega)) (U8 hmb (by omega)))] rfl (by simp [U9] <;> omega) ?_;exact rd (i+1) (by omega) hlt (by rw [es]; rfl)
    ·have es:Dk f rows (i+1)=Pa (Dk f rows i) (Gs p (f i)):=by simp only [Dk]; rw [e,if_neg h0,if_neg h2]
     refine go tt [.t (decide_eq_true (by omega)),.x (Em hr),.x hx0,.c [] cn,.f (decide_eq_false (by omega)),.x hx0,.c [] (cm i),.c [] ci,.c [] cp,.r 34 (eI (b:=((i % 2:Nat):Int)) rfl),.f (decide_eq_false (by omega)),.c [] (Qku (p:=Dk f rows i) (q:=Gs p (f i)) (by omega) (by omega) (U8 d2 (by omega)) (U8 hmb (by omega)))] rfl (by simp [U9] <;> omega) ?_;exact rd (i+1) (by omega) hlt (by rw [es]; rfl)
  ·obtain rfl:i=k+1:=by omega
   exact en tt [.f (decide_eq_false (by omega))] rfl rfl trivial
theorem Zor {s:Nat} (hs:s<=100000) {k:Nat} {ds:List Nat} {rows:List (List (List Int))} (hk:k<=4) (hl:ds.length=k) (hd:ds.sum<31) (h:Sq s ds k k rows):Fa Tryz.prog 282 [.one (.row (A4 rows))] [pr (Lk k rows),.one (.int .i64 0)] :=
 w tt Tryz.func282 rfl [.c [] (Zo4 h rfl hk),.f rfl,.c [] (Zkd hs k ds rows hk hl hd h)] rfl rfl trivial
theorem Qyn {k:Crv} (hk:Sc k):Fa Tryz.prog 280 [.agg (cl k)] [.one (.row (Qde [k.x,k.y,[k.d]]))]:=by
 have h0:k.d≠0:=by have:=hk.n.2.2.1; omega
 have td:Fg [k.d]:=by unfold Fg; simp [trim,h0]
 have cd:=Zlp (r:=[k.x,k.y,[k.d]]) (λp hp=>by
  rcases Qm.1 hp with rfl | hp
  ·exact hk.n.1
  rcases Qm.1 hp with rfl | hp
  ·exact hk.n.2.1
  ·rw [Qk.1 hp]; exact td) (λp hp=>by
  rcases Qm.1 hp with rfl | hp
  ·exact U8 hk.c.x (by decide)
  rcases Qm.1 hp with rfl | hp
  ·exact U8 hk.c.y (by decide)
  ·rw [Qk.1 hp];intro z hz; rw [Qk.1 hz]; exact Qc hk.c.d (by decide)) (λp hp=>by
  rcases Qm.1 hp with rfl | hp
  ·have:=hk.c.lx; omega
  rcases Qm.1 hp with rfl | hp
  ·have:=hk.c.ly; omega
  ·rw [Qk.1 hp]; show 1<=1000000; decide) (by show 3<=1000; decide)
 exact w tt Tryz.func280 rfl [.c [] (Qet hk.n (hk.c.mono (by decide) (by decide))),.c [] cd] rfl rfl trivial
theorem Qxf {a b c:Crv} (ha:Sc a) (hb:Sc b) (hc:Sc c):Sq 90 [2,2,0] 3 3 (Bv a b c):=by
 have key:∀ k:Crv,Sc k->(∀ p∈[k.x,k.y,[k.d]],Fg p/\Bd 90 p)/\∀ (j:Nat) (p:List Int),[k.x,k.y,[k.d]][j]? = some p->p.length≤[2,2,0].getD j 0+1:=λk hk=>by
  have h0:k.d≠0:=by have:=hk.n.2.2.1; omega
  have td:Fg [k.d]:=by unfold Fg; simp [trim,h0]
  refine ⟨λp hp=>?_,λj p hp=>?_⟩
  ·rcases Qm.1 hp with rfl | hp
   ·exact ⟨hk.n.1,hk.c.x⟩
   rcases Qm.1 hp with rfl | hp
   ·exact ⟨hk.n.2.1,hk.c.y⟩
   ·rw [Qk.1 hp];exact ⟨td,λz hz=>by rw [Qk.1 hz]; exact hk.c.d⟩
  ·match j,hp with
   | 0,hp=>injection hp with hp; subst hp; exact hk.c.lx
   | 1,hp=>injection hp with hp; subst hp; exact hk.c.ly
   | 2,hp=>injection hp with hp; subst hp; exact Ql _
   | j+3,hp=>simp at hp
 have hr:∀ r∈Bv a b c,∃ k:Crv,Sc k/\r=[k.x,k.y,[k.d]]:=λr hr=>by
  rcases Qm.1 hr with rfl | hr
  ·exact ⟨a,ha,rfl⟩
  rcases Qm.1 hr with rfl | hr
  ·exact ⟨b,hb,rfl⟩
  ·rw [Qk.1 hr]; exact ⟨c,hc,rfl⟩
 refine ⟨rfl,λr h=>?_,λr h p hp=>?_,λr h p hp=>?_,λr h j p hp=>?_⟩
 all_goals obtain ⟨k,hk,rfl⟩:=hr r h
 ·rfl
 ·exact ((key k hk).1 p hp).1
 ·exact ((key k hk).1 p hp).2
 ·exact (key k hk).2 j p hp
theorem Qgw {a b c:Crv} (ha:Sc a) (hb:Sc b) (hc:Sc c):Cp (Hm a b c):=by
 obtain ⟨h1,h2,h3⟩:=Qj4 3 [2,2,0] (Bv a b c) (by decide) rfl (by decide) (Qxf ha hb hc);exact ⟨h1,Qc h3 (by decide),U8 h2 (by decide)⟩
theorem Quc {a b c:Crv} (ha:Sc a) (hb:Sc b) (hc:Sc c):Fa Tryz.prog 237 [.agg (cl a),.agg (cl b),.agg (cl c)] [pr (Hm a b c)]:=by
 have cd:=Zor (by decide) (k:=3) (ds:=[2,2,0]) (by decide) rfl (by decide) (Qxf ha hb hc);exact w tt Tryz.func237 rfl [.c [] (Qyn ha),.c [] (Qyn hb),.c [] (Qyn hc),.c [] cd] rfl rfl trivial
abbrev zrw (r:List (List Int)):List (List LV):=r.map λp=>[rp (zp p)]
def zmt (M:List (List (List Int))):List (List LV):=M.map λr=>[.row (zrw r)]
theorem Qtx (M:List (List (List Int))):(zmt M).length=M.length:=by simp [zmt]
theorem Qt0 {r:List (List Int)} {i:Nat} {p:List Int} (h:r[i]? = some p):(zrw r)[i]? = some [rp (zp p)]:=Ho h
theorem Qkh {l:List (List (List Int))} {i:Nat} {r:List (List Int)} (h:l[i]? = some r):(zmt l)[i]? = some [.row (zrw r)]:=Ho h
theorem Qzc {α:Type} {R:List α} {j k:Nat} {x:α} (h:R[j]? = some x):(R.take (j+1)).eraseIdx k=if j=k then (R.take j).eraseIdx k else (R.take j).eraseIdx k++[x]:=by
 have hj:=(Qf.1 h).1;have hl:(R.take j).length=j:=by rw [Qr]; omega
 rw [Zq,h,Vz];rcases Vg k j with hk | hk | hk
 ·rw [if_neg (by omega),List.eraseIdx_append_of_lt_length (by omega)]
 ·subst hk;rw [if_pos rfl,Wj (by omega),hl,Jw,Ku (l:=R.take k) (by omega)];show R.take k++[]=_;rw [Zo]
 ·rw [if_neg (by omega),Wj (by omega),hl,Ku (l:=[x]) (by simp; omega),Ku (by omega)]
def Hw (M:List (List (List Int))) (k:Nat):List (List (List Int)):=(M.drop 1).map (·.eraseIdx k)
theorem Qv0 {M:List (List (List Int))} {i k:Nat} {R:List (List Int)} (h:M[i]? = some R) (h0:0<i):Hw (M.take (i+1)) k=Hw (M.take i) k++[R.eraseIdx k]:=by
 have hi:=(Qf.1 h).1;unfold Hw;rw [Zq,h,Vz,V5 (by rw [Qr]; omega),Jo]; rfl
theorem Qzx {M:List (List (List Int))} {i k:Nat} (hi:i<=M.length):(Hw (M.take i) k).length=i-1:=by
 unfold Hw; rw [List.length_map,List.length_drop,List.length_take]; omega
theorem Q9v {M:List (List (List Int))} {k:Nat} (hn:M.length≤100) (hM:∀ R∈M,R.length≤100):Fa Tryz.prog 142 [.one (.row (zmt M)),.one (.int .i64 0),.one (.int .i64 (k:Int))] [.one (.row (zmt (Hw M k)))]:=by
 have hrl:=Qtx M;refine Hl Tryz.func142 rfl ?_;refine go tt [.o 7 29 1] rfl trivial ?_;refine lp (S:=Nat) 1 (λL1 i=>(13,.v (.one (.int .i64 (i:Int))))::(7,.v (.one (.orow 0 1 none)))::L1) (λi=>[.row false 29 1 (zmt (Hw (M.take i) k))]) (λi=>M.length-i) (λi=>i<=M.length) 0 (Qi _) rfl (λ_ _=>rfl) rfl λi hi=>?_
 have hml:(zmt (Hw (M.take i) k)).length=i-1:=by rw [Qtx,Qzx hi]
 by_cases hlt:i<M.length
 ·obtain ⟨r,hr⟩:=gxE (l:=M) (i:=i) hlt;have hm:=hM r (Qa hr);have hql:(zrw r).length=r.length:=by simp
  by_cases h0:i=0
  ·subst h0;have e:Hw (M.take 1) k=Hw (M.take 0) k:=by unfold Hw; simp
   refine go tt [.t (decide_eq_true (by omega)),.t rfl] rfl (by simp [U9]) ?_;exact rd 1 (by omega) hlt (by rw [e]; rfl)
  ·have e:=Qv0 (k:=k) hr (by omega);refine go tt [.t (decide_eq_true (by omega)),.f (decide_eq_false (by omega)),.o 9 28 1,.x (Qkh hr)] rfl (by simp [U9] <;> omega) ?_;refine lp (S:=Nat) 2 (λL1 c=>(24,.v (.one (.int .i64 (c:Int))))::(9,.v (.one (.orow 1 1 none)))::L1) (λc=>[.row false 29 1 (zmt (Hw (M.take i) k)),.row false 28 1 (zrw ((r.take c).eraseIdx k))]) (λc=>r.length-c) (λc=>c<=r.length) 0 (Qi _) rfl (λ_ _=>rfl) rfl λc hc=>?_
   have hzl:((r.take c).eraseIdx k).length<=c:=by
    exact Qc (List.eraseIdx_sublist ..).length_le (by rw [Qr]; omega)
   by_cases hcl:c<r.length
   ·obtain ⟨p,hp⟩:=gxE (l:=r) (i:=c) hcl;have e2:=Qzc (k:=k) hp;by_cases hck:c=k
    ·rw [if_pos hck] at e2;refine go tt [.t (decide_eq_true (by omega)),.f (decide_eq_false (by omega))] rfl (by simp [U9] <;> omega) ?_;exact rd (c+1) (by omega) hcl (by rw [e2]; rfl)
    ·rw [if_neg hck] at e2;have hs1:∀ y∈[[rp (zp p)]],y.length=1:=λy hy=>by rw [Qk.1 hy]; rfl
     refine go tt [.t (decide_eq_true (by omega)),.t (decide_eq_true (by omega)),.x (Qkh hr),.x (Qt0 hp),.s (sz:=1) hs1] rfl (by simp [U9] <;> omega) ?_;exact rd (c+1) (by omega) hcl (by rw [e2]; simp [zrw]; rfl)
   ·obtain rfl:c=r.length:=by omega
    rw [Qy];have hs1:∀ y∈[[LV.row (zrw (r.eraseIdx k))]],y.length=1:=λy hy=>by rw [Qk.1 hy]; rfl
    refine go tt [.f (decide_eq_false (by omega))] rfl trivial ?_;refine gz 1 rfl rfl ?_;refine go tt [.s (sz:=1) hs1] rfl (by simp [U9] <;> omega) ?_;exact rd (i+1) (by omega) hlt (by rw [e]; simp [zmt]; rfl)
 ·obtain rfl:i=M.length:=by omega
  rw [Qy];exact en tt [.f (decide_eq_false (by omega))] rfl rfl trivial
def Q01 (k:Nat) (p:List Int):List Int:=if k % 2=1 then P0 p else p
def Ey (f:List (List (List Int))->List Int) (M:List (List (List Int))):Nat->List Int
 | 0=>[]
 | k+1=>Ii (Ey f M k) (Q01 k (Gs ((M.getD 0 []).getD k []) (f (Hw M k))))
def Qgz:Nat->List (List (List Int))->List Int
 | 0,_=>[1]
 | n+1,M=>Ey (Qgz n) M (n+1)
structure SqR (s:Nat) (ds:List Nat) (M:List (List (List Int))):Prop where
 l:M.length=ds.length
 w:∀ r∈M,r.length=ds.length
 b:∀ r∈M,∀ p∈r,Bd s p
 n:∀ r∈M,∀ (j:Nat) (p:List Int),r[j]? = some p->p.length≤ds.getD j 0+1
theorem Er:∀ {ds:List Nat} {k:Nat},k<ds.length->(ds.eraseIdx k).sum+ds.getD k 0=ds.sum
 | [],_,h=>by simp at h
 | d::ds,0,_=>by simp [Jm]
 |
  d::ds,k+1,h=>by
  have:=Er (ds:=ds) (k:=k) (by simpa using h);simp only [List.eraseIdx_cons_succ,Kv,Q3];omega
theorem SqR.minor {s:Nat} {ds:List Nat} {M:List (List (List Int))} (h:SqR s ds M) {k:Nat} (hk:k<ds.length):SqR s (ds.eraseIdx k) (Hw M k):=by
 have hl:=h.l;unfold Hw;refine ⟨by rw [Q8,Jf,Jv hk]; omega,λr hr=>?_,λr hr p hp=>?_,λr hr j p hp=>?_⟩
 all_goals obtain ⟨q,hq,rfl⟩:=Zp.1 hr
 all_goals have hq:=Ze hq
 ·rw [Jv (by rw [h.w q hq]; exact hk),Jv hk,h.w q hq]
 ·exact h.b q hq p (List.mem_of_mem_eraseIdx hp)
 ·rw [List.getElem?_eraseIdx] at hp;rw [Qe,List.getElem?_eraseIdx]
  split at hp <;> rename_i hj
  ·rw [if_pos hj,<-Qe]; exact h.n q hq j p hp
  ·rw [if_neg hj,<-Qe]; exact h.n q hq (j+1) p hp
theorem SqR.at {s:Nat} {ds:List Nat} {M:List (List (List Int))} (h:SqR s ds M) {k:Nat} (hk:k<ds.length):∃ r p,M[0]? = some r/\r[k]? = some p/\(M.getD 0 []).getD k []=p/\Bd s p/\p.length<=ds.getD k 0+1:=by
 obtain ⟨r,hr⟩:=gxE (l:=M) (i:=0) (by rw [h.l]; omega);have hm:=Qa hr;obtain ⟨p,hp⟩:=gxE (l:=r) (i:=k) (by rw [h.w r hm]; exact hk);refine ⟨r,p,hr,hp,?_,h.b r hm p (Qa hp),h.n r hm k p hp⟩;rw [Qe (l:=M),hr,Kr,Qe,hp]; rfl
theorem Zi7 {k s:Nat} {p:List Int} (h:Bd s p):Bd s (Q01 k p):=by
 unfold Q01; split
 ·exact On h
 ·exact h
theorem Zdx (k:Nat) (p:List Int):(Q01 k p).length<=p.length:=by
 unfold Q01; split
 ·exact Cf _
 ·exact Ql _
theorem Qle {s B:Nat} {ds:List Nat} {f:List (List (List Int))->List Int} {M:List (List (List Int))} (h:SqR s ds M) (hs:ds.sum<64) (hf:∀ k,k<ds.length->Bd B (f (Hw M k))/\(f (Hw M k)).length<=(ds.eraseIdx k).sum+1):∀ i,i<=ds.length->Bd (s+B+7+i) (Ey f M i)/\(Ey f M i).length<=ds.sum+1
 | 0,_=>⟨λz hz=>(by cases hz),Qi _⟩
 |
  i+1,hi=>by
  obtain ⟨h2,h3⟩:=Qle h hs hf i (by omega);obtain ⟨r,p,_,_,e,b,l⟩:=h.at (k:=i) (by omega);obtain ⟨f1,f2⟩:=hf i (by omega);have hd:=Er (ds:=ds) (k:=i) (by omega);have hp1:Bd (s+B+7) (Gs p (f (Hw M i))):=Qeo b f1 (Zz l (by omega));have hp2:=Qbu p (f (Hw M i));have hp3:=Zdx i (Gs p (f (Hw M i)));simp only [Ey];rw [e];exact ⟨U8 (Qqx h2 (Zi7 hp1)) (by omega),Qc (Qmg _ _) (by omega)⟩
theorem Qrj {s:Nat}:∀ (n:Nat) (ds:List Nat) (M:List (List (List Int))),ds.length=n->ds.sum<64->SqR s ds M->Bd (n*(s+20)+1) (Qgz n M)/\(Qgz n M).length<=ds.sum+1/\n<=9\/9<n
 | 0,ds,M,_,_,_=>.inl ⟨λz hz=>(by simp [Qgz] at hz; subst hz; rw [J6]; decide),by simp [Qgz],by omega⟩
 |
  n+1,ds,M,hl,hs,h=>by
  by_cases h9:9<n+1
  ·exact .inr h9
  have hsum:=λk (hk:k<ds.length)=>Er (ds:=ds) (k:=k) hk
  have:=Qle (f:=Qgz n) (B:=n*(s+20)+1) h hs (λk hk=>by
   have hd:=hsum k hk;rcases Qrj n (ds.eraseIdx k) (Hw M k) (by rw [Jv hk]; omega) (by omega) (h.minor hk) with h' | h'
   ·exact ⟨h'.1,h'.2.1⟩
   ·omega) (n+1) (by omega)
  have e1:(n+1)*(s+20)=n*(s+20)+(s+20):=Xd ..;exact .inl ⟨U8 this.1 (by omega),this.2,by omega⟩
theorem Q9p {s:Nat} (hs:s<=1000000):∀ (n:Nat) (ds:List Nat) (M:List (List (List Int))),n<=4->ds.length=n->ds.sum<64->SqR s ds M->Fa Tryz.prog 73 [.one (.row (zmt M))] [.one (rp (zp (Qgz n M)))]
 |
  0,ds,M,_,hl,_,h=>by
  have e:=Qh (h.l.trans hl);subst e;exact w tt Tryz.func73 rfl [.t rfl,.c [] Qyw] rfl rfl trivial
 |
  n+1,ds,M,hn,hl,hd,h=>by
  have hrl:=Qtx M;have hMl:=h.l;have ih:=λk (hk:k<ds.length)=>Q9p hs n (ds.eraseIdx k) (Hw M k) (by omega) (by rw [Jv hk]; omega) (by have:=Er (ds:=ds) (k:=k) hk; omega) (h.minor hk)
  have hb:n*(s+20)+1<=3*1000020+1:=Nat.add_le_add_right (Zh (by omega) (by omega)) 1;have hok:∀ k,k<ds.length->Bd (n*(s+20)+1) (Qgz n (Hw M k))/\(Qgz n (Hw M k)).length<=(ds.eraseIdx k).sum+1:=λk hk=>by
   have hd':=Er (ds:=ds) (k:=k) hk;rcases Qrj n (ds.eraseIdx k) (Hw M k) (by rw [Jv hk]; omega) (by omega) (h.minor hk) with h' | h'
   ·exact ⟨h'.1,h'.2.1⟩
   ·omega
  have hds:=Qle (f:=Qgz n) (B:=n*(s+20)+1) h hd hok;have cm:=λk=>Q9v (M:=M) (k:=k) (by omega) (λr hr=>by rw [h.w r hr]; omega)
  show Fa Tryz.prog 73 [.one (.row (zmt M))] [.one (rp (zp (Ey (Qgz n) M (n+1))))];obtain ⟨f,hf⟩:=nmE (Qgz n);rw [<-hf] at hds hok ih ⊢;refine Hl Tryz.func73 rfl ?_;refine go tt [.f (decide_eq_false (by omega)),.z 3] rfl trivial ?_;refine lp (S:=Nat) 0 (λL1 i=>(13,.v (.one (.int .i64 (i:Int))))::(3,.v (.one (rp (zp (Ey f M i)))))::L1) (λ_=>[]) (λi=>M.length-i) (λi=>i<=M.length) 0 (Qi _) rfl (λ_ _=>rfl) rfl λi hi=>?_
  obtain ⟨d2,d3⟩:=hds i (by omega);by_cases hlt:i<M.length
  ·obtain ⟨r,p,hr,hp,e,b,l⟩:=h.at (k:=i) (by omega);obtain ⟨k2,k3⟩:=hok i (by omega);have hse:=Er (ds:=ds) (k:=i) (by omega);have ci:=ih i (by omega);have cp:=Qyu (p:=p) (q:=f (Hw M i)) (by omega) (by omega) b k2 (by omega);have hmb:Bd (s+(n*(s+20)+1)+7) (Gs p (f (Hw M i))):=Qeo b k2 (Zz l (by omega));have hml:=Qbu p (f (Hw M i));by_cases h2:i % 2=1
   ·have es:Ey f M (i+1)=Ii (Ey f M i) (P0 (Gs p (f (Hw M i)))):=by simp only [Ey,Q01]; rw [e,if_pos h2]
    have hnl:=Cf (Gs p (f (Hw M i)));refine go tt [.t (decide_eq_true (by omega)),.x (Qkh hr),.x (Qt0 hp),.c [] (cm i),.c [] ci,.c [] cp,.r 28 (eI (b:=((i % 2:Nat):Int)) rfl),.t (decide_eq_true (by omega)),.c [] (Qyp (U8 hmb (by omega)) (by omega)),.c [] (Q2e (p:=Ey f M i) (q:=P0 (Gs p (f (Hw M i)))) (U8 d2 (by omega)) (U8 (On hmb) (by omega)) (by omega) (by omega))] rfl (by simp [U9] <;> omega) ?_;exact rd (i+1) (by omega) hlt (by rw [es]; rfl)
   ·have es:Ey f M (i+1)=Ii (Ey f M i) (Gs p (f (Hw M i))):=by simp only [Ey,Q01]; rw [e,if_neg h2]
    refine go tt [.t (decide_eq_true (by omega)),.x (Qkh hr),.x (Qt0 hp),.c [] (cm i),.c [] ci,.c [] cp,.r 28 (eI (b:=((i % 2:Nat):Int)) rfl),.f (decide_eq_false (by omega)),.c [] (Q2e (p:=Ey f M i) (q:=Gs p (f (Hw M i))) (U8 d2 (by omega)) (U8 hmb (by omega)) (by omega) (by omega))] rfl (by simp [U9] <;> omega) ?_;exact rd (i+1) (by omega) hlt (by rw [es]; rfl)
  ·obtain rfl:i=n+1:=by omega
   exact en tt [.f (decide_eq_false (by omega))] rfl rfl trivial
theorem Qwg {a b c:Crv} (ha:Rs a) (hb:Rs b) (hc:Rs c):SqR 100000 [15,15,0] (Bv a b c):=by
 have key:∀ k:Crv,Rs k->(∀ p∈[k.x,k.y,[k.d]],Bd 100000 p)/\∀ (j:Nat) (p:List Int),[k.x,k.y,[k.d]][j]? = some p->p.length≤[15,15,0].getD j 0+1:=λk hk=>by
  refine ⟨λp hp=>?_,λj p hp=>?_⟩
  ·simp only [Qm,Kn,or_false] at hp;rcases hp with rfl | rfl | rfl
   ·exact hk.c.x
   ·exact hk.c.y
   ·exact Zon hk.c.d
  ·match j,hp with
   | 0,hp=>injection hp with hp; subst hp; exact hk.c.lx
   | 1,hp=>injection hp with hp; subst hp; exact hk.c.ly
   | 2,hp=>injection hp with hp; subst hp; exact Ql _
   | j+3,hp=>simp at hp
 have h3:∀ r∈Bv a b c,r=[a.x,a.y,[a.d]]\/r=[b.x,b.y,[b.d]]\/r=[c.x,c.y,[c.d]]:=λr hr=>by
  simpa [Bv] using hr
 refine ⟨rfl,λr hr=>?_,λr hr=>?_,λr hr=>?_⟩
 ·rcases h3 r hr with rfl | rfl | rfl <;> rfl
 ·rcases h3 r hr with rfl | rfl | rfl
  ·exact (key a ha).1
  ·exact (key b hb).1
  ·exact (key c hc).1
 ·rcases h3 r hr with rfl | rfl | rfl
  ·exact (key a ha).2
  ·exact (key b hb).2
  ·exact (key c hc).2
def M9 (a b c:Crv):List Int:=Qgz 3 (Bv a b c)
theorem Qmo {a b c:Crv} (ha:Rs a) (hb:Rs b) (hc:Rs c):Bd 400000 (M9 a b c)/\(M9 a b c).length<=31:=by
 rcases Qrj 3 [15,15,0] (Bv a b c) rfl (by decide) (Qwg ha hb hc) with h | h
 ·exact ⟨U8 h.1 (by decide),h.2.1⟩
 ·omega
theorem Qoe {a b c:Crv} (ha:Rs a) (hb:Rs b) (hc:Rs c):Fa Tryz.prog 16 [.agg (rcl a),.agg (rcl b),.agg (rcl c)] [.one (rp (zp (M9 a b c)))]:=by
 have cd:=Q9p (by decide) 3 [15,15,0] (Bv a b c) (by decide) rfl (by decide) (Qwg ha hb hc);have x0:[rcl a,rcl b,rcl c][0]? = some (rcl a):=rfl;have x1:[rcl a,rcl b,rcl c][1]? = some (rcl b):=rfl;have x2:[rcl a,rcl b,rcl c][2]? = some (rcl c):=rfl;have hs1:∀ k:Crv,∀ y∈[[LV.row (zrw [k.x,k.y,[k.d]])]],y.length=1:=λk y hy=>by rw [Qk.1 hy]; rfl
 refine Hl Tryz.func16 rfl ?_;refine go tt [.o 7 29 1] rfl trivial ?_;refine lp (S:=Nat) 4 (λL1 i=>(18,.v (.one (.int .i64 (i:Int))))::(7,.v (.one (.orow 3 1 none)))::L1) (λi=>[.blk 55 (rcl a),.blk 55 (rcl b),.blk 55 (rcl c),.row false 29 1 (zmt ((Bv a b c).take i))]) (λi=>3-i) (λi=>i<=3) 0 (by decide) rfl (λ_ _=>rfl) rfl λi hi=>?_
 rcases (show i=0\/i=1\/i=2\/i=3 by omega) with rfl | rfl | rfl | rfl
 ·exact go tt [.t rfl,.x x0,.c [] (Qdt ha),.s (sz:=1) (hs1 a)] rfl (by simp [U9,zmt,Bv]) (rd 1 (by omega) (by omega) rfl)
 ·exact go tt [.t rfl,.x x1,.c [] (Qdt hb),.s (sz:=1) (hs1 b)] rfl (by simp [U9,zmt,Bv]) (rd 2 (by omega) (by omega) rfl)
 ·exact go tt [.t rfl,.x x2,.c [] (Qdt hc),.s (sz:=1) (hs1 c)] rfl (by simp [U9,zmt,Bv]) (rd 3 (by omega) (by omega) rfl)
 ·exact en tt [.f rfl,.c [] cd] rfl rfl trivial
end Orr
namespace Orq
theorem ang {ux uy vx vy wx wy:Rat} (hu:0<ux\/ux=0/\0<uy) (hv:0<vx\/vx=0/\0<vy) (hw:0<wx\/wx=0/\0<wy)
 (h1:0<=ux*vy-vx*uy) (h2:0<=vx*wy-wx*vy):0<=ux*wy-wx*uy/\(0<ux*vy-vx*uy\/0<vx*wy-wx*vy->0<ux*wy-wx*uy):=by
 have ux0:0<=ux:=by grind
 have wx0:0<=wx:=by grind
 rcases hv with hv | ⟨hv,hv2⟩
 ·have e:vx*(ux*wy-wx*uy)=ux*(vx*wy-wx*vy)+wx*(ux*vy-vx*uy):=by grind
  have hux:0<ux:=by
   rcases hu with h | ⟨h,h'⟩
   ·exact h
   ·have:=Jj hv h';rw [h] at h1; grind
  have p1:=Kj ux0 h2;have p2:=Kj wx0 h1;have key:∀ z:Rat,vx*z=ux*(vx*wy-wx*vy)+wx*(ux*vy-vx*uy)->0<=z:=λz hz=>by
   refine Up.1 λhn=>?_
   have:=Jj hv (show 0 < -z by grind);grind
  refine ⟨key _ e,λhs=>?_⟩;rcases hw with hw | ⟨hw,hw2⟩
  ·have hpos:0<vx*(ux*wy-wx*uy):=by
    rcases hs with hs | hs
    ·have:=Jj hw hs; grind
    ·have:=Jj hux hs; grind
   have h0:=key _ e;refine Jk.1 λhn=>?_
   have:ux*wy-wx*uy=0:=by grind
   rw [this] at hpos; grind
  ·have:=Jj hux hw2;rw [hw]; grind
 ·rw [hv] at h1 h2;have hw0:wx=0:=by
   rcases hw with hw | hw
   ·have:=Jj hw hv2; grind
   ·exact hw.1
  have hwy:0<wy:=by grind
  have p:=Kj ux0 (Qp hwy);refine ⟨by rw [hw0]; grind,λhs=>?_⟩;rw [hv,hw0] at hs;have hux:0<ux:=by
   rcases hs with hs | hs
   ·refine Jk.1 λhn=>?_
    have:ux=0:=by grind
    rw [this] at hs; grind
   ·grind
  have:=Jj hux hwy;rw [hw0]; grind
section
variable {α:Type} (X Y:α->Rat)
def lx (a b:α):Prop:=X a<X b\/X a=X b/\Y a<Y b
def Bi (a b c:α):Rat:=(X b-X a)*(Y c-Y a)-(X c-X a)*(Y b-Y a)
variable {X Y}
theorem Li (a:α):¬lx X Y a a:=by unfold lx; grind
theorem Qvy {a b c:α} (h:lx X Y a b) (h':lx X Y b c):lx X Y a c:=by unfold lx at *; grind
theorem Lj {a b:α} (h:lx X Y a b):0<X b-X a\/X b-X a=0/\0<Y b-Y a:=by unfold lx at h; grind
theorem Qfn (a b:α):Bi X Y a b a=0/\Bi X Y a b b=0:=by unfold Bi; grind
theorem Qwf (a b c:α):Bi X Y a c b=- Bi X Y a b c:=by unfold Bi; grind
theorem Qsp (a b c:α):Bi X Y a b c=(X b-X a)*(Y c-Y b)-(X c-X b)*(Y b-Y a):=by unfold Bi; grind
def Edg (Q:α->α->Prop):List α->Prop
 | a::b::r=>Q a b/\Edg Q (b::r)
 | _=>True
def Cnv (R:α->α->α->Prop):List α->Prop
 | a::b::c::r=>R a b c/\Cnv R (b::c::r)
 | _=>True
theorem Edg.tail {Q:α->α->Prop} {a:α} {l:List α} (h:Edg Q (a::l)):Edg Q l:=by
 cases l with
 | nil=>trivial
 | cons b l=>exact h.2
theorem Cnv.tail {R:α->α->α->Prop} {a:α} {l:List α} (h:Cnv R (a::l)):Cnv R l:=by
 match l,h with
 | [],_=>trivial
 | [_],_=>trivial
 | b::c::l,h=>exact h.2
theorem Edg.imp {Q Q':α->α->Prop}:∀ {l:List α},(∀ a∈l,∀ b∈l,Q a b->Q' a b)->Edg Q l->Edg Q' l
 | [],_,_=>trivial
 | [_],_,_=>trivial
 | a::b::l,hq,h=>⟨hq a (by simp) b (by simp) h.1,Edg.imp (l:=b::l) (λx hx y hy=>hq x (Qj _ hx) y (Qj _ hy)) h.2⟩
theorem Cnv.imp {R R':α->α->α->Prop}:∀ {l:List α},(∀ a∈l,∀ b∈l,∀ c∈l,R a b c->R' a b c)->Cnv R l->Cnv R' l
 | [],_,_=>trivial
 | [_],_,_=>trivial
 | [_,_],_,_=>trivial
 | a::b::c::l,hq,h=>⟨hq a (by simp) b (by simp) c (by simp) h.1,Cnv.imp (l:=b::c::l) (λx hx y hy z hz=>hq x (Qj _ hx) y (Qj _ hy) z (Qj _ hz)) h.2⟩
def Lb (s:α->α->α->Bool) (c:α):List α->List α
 | b::a::r=>if s a b c=true then b::a::r else Lb s c (a::r)
 | l=>l
def Mc (s:α->α->α->Bool):List α->List α->List α
 | acc,[]=>acc
 | acc,c::l=>Mc s (c::Lb s c acc) l
structure Stk (X Y:α->Rat) (P:List α) (st:List α):Prop where
 srt:st.Pairwise λb a=>lx X Y a b
 mem:∀ p∈st,p∈P
 edg:Edg (λb a=>∀ p∈P,0≤Bi X Y a b p) st
 cnv:Cnv (λc b a=>0<Bi X Y a b c) st
theorem Stk.tail {P:List α} {a:α} {st:List α} (h:Stk X Y P (a::st)):Stk X Y P st:=⟨(Q6.1 h.srt).2,λp hp=>h.mem p (Qj _ hp),h.edg.tail,h.cnv.tail⟩
theorem Zcq {P:List α} {s:α->α->α->Bool} {c:α} (hs:∀ a∈P,∀ b∈P,(s a b c=true↔0<Bi X Y a b c)) (hc:∀ p∈P,lx X Y p c) :
 ∀ (st:List α) (t:α),Stk X Y P (t::st)->(∀ p∈P,lx X Y t p->0≤Bi X Y t c p) ->
 ∃ t' st',Lb s c (t::st)=t'::st'/\Stk X Y P (t'::st')/\(∀ p∈P,lx X Y t' p->0≤Bi X Y t' c p)/\(∀ a r,st'=a::r->0<Bi X Y a t' c)/\(t'::st').getLast? = (t::st).getLast?
 | [],t,h,h2=>⟨t,[],rfl,h,h2,λa r e=>(by cases e),rfl⟩
 |
  a::r,t,h,h2=>by
  have ht:=h.mem t (by simp);have ha:=h.mem a (by simp);by_cases e:s a t c=true
  ·refine ⟨t,a::r,by simp only [Lb]; rw [if_pos e],h,h2,λa' r' e'=>?_,rfl⟩;injection e' with e1 _
   rw [<-e1]; exact (hs a ha t ht).1 e
  ·have hle:Bi X Y a t c<=0:=Up.1 λh'=>e ((hs a ha t ht).2 h')
   have hat:lx X Y a t:=(Q6.1 h.srt).1 a (by simp);obtain ⟨t',st',g1,g2,g3,g4,g5⟩:=Zcq hs hc r a h.tail λp hp hap=>by
    have e1:=h.edg.1 p hp;have k:=ang (Lj (hc a ha)) (Lj hat) (Lj hap) (by rw [Qwf] at *; unfold Bi at *; grind) (by unfold Bi at *; grind);unfold Bi; grind
   exact ⟨t',st',by simp only [Lb]; rw [if_neg e]; exact g1,g2,g3,g4,by rw [g5]; rfl⟩
theorem Qow {P:List α} {c:α}:∀ (st:List α) (t:α),Stk X Y P (t::st)->lx X Y t c->(∀ a r,st=a::r->0<Bi X Y a t c)->Edg (λb a=>0<Bi X Y a b c) (t::st)
 | [],_,_,_,_=>trivial
 | [a],t,_,_,h=>⟨h a [] rfl,trivial⟩
 |
  a::q::r,t,hS,htc,h=>by
  have h1:=h a (q::r) rfl;have h0:0<Bi X Y q a t:=hS.cnv.1;have p1:=Q6.1 hS.srt;have p2:=Q6.1 p1.2;have hat:lx X Y a t:=p1.1 a (by simp);have hqa:lx X Y q a:=p2.1 q (by simp);refine ⟨h1,Qow (q::r) a hS.tail (Qvy hat htc) λa' r' e=>?_⟩;injection e with e _;rw [<-e];rw [Qsp] at h0 h1 ⊢;have k:=(ang (Lj hqa) (Lj hat) (Lj htc) (Qp h0) (Qp h1)).2 (.inl h0);grind
theorem Zin {P:List α} {t:α} {st:List α} {c:α} (h:Stk X Y P (t::st)) (hc:∀ p∈P,lx X Y p c) (hP:∀ p∈P,p=t\/lx X Y p t\/lx X Y t p) (hb:∀ p∈P,(t::st).getLast? = some p\/∃ b,(t::st).getLast? = some b/\lx X Y b p) (h2:∀ p∈P,lx X Y t p->0≤Bi X Y t c p) (h3:∀ a r,st=a::r->0<Bi X Y a t c):Stk X Y (P++[c]) (c::t::st):=by
 have ht:=h.mem t (by simp);have htc:=hc t ht;have hf:=Qow st t h htc h3;refine ⟨Q6.2 ⟨λp hp=>hc p (h.mem p hp),h.srt⟩,λp hp=>?_,⟨λp hp=>?_,?_⟩,?_⟩
 ·rcases Qm.1 hp with rfl | hp
  ·simp
  ·exact J9 _ (h.mem p hp)
 ·rcases Qu.1 hp with hp | hp
  ·rcases hP p hp with rfl | hpt | htp
   ·rw [(Qfn p c).1]; exact Qq
   ·cases st with
    |
     nil =>
     exfalso;rcases hb p hp with e | ⟨b,e,hb⟩
     ·injection e with e; subst e; exact Li _ hpt
     ·injection e with e; subst e; exact Li _ (Qvy hpt hb)
    |
     cons a r =>
     have e1:=h.edg.1 p hp;have h3:=h3 a r rfl;have hat:lx X Y a t:=(Q6.1 h.srt).1 a (by simp);have k:=(ang (Lj hpt) (Lj hat) (Lj htc) (by unfold Bi at *; grind) (by unfold Bi at *; grind)).1;unfold Bi; grind
   ·exact h2 p hp htp
  ·rw [Qk.1 hp,(Qfn t c).2]; exact Qq
 ·cases st with
  | nil=>trivial
  |
   cons a r =>
   have key:∀ l:List α,Edg (λb a=>∀ p∈P,0≤Bi X Y a b p) l->Edg (λb a=>0<Bi X Y a b c) l->Edg (λb a=>∀ p∈P++[c],0≤Bi X Y a b p) l:=by
    intro l
    induction l with
    | nil=>intros; trivial
    |
     cons x l ih =>
     cases l with
     | nil=>intros; trivial
     |
      cons y l =>
      intro k1 k2;refine ⟨λp hp=>?_,ih k1.2 k2.2⟩;rcases Qu.1 hp with hp | hp
      ·exact k1.1 p hp
      ·rw [Qk.1 hp]; exact Qp k2.1
   exact key _ h.edg hf
 ·cases st with
  | nil=>trivial
  | cons a r=>exact ⟨h3 a r rfl,h.cnv⟩
theorem Qoj {s:α->α->α->Bool} {row:List α} (hs:∀ a∈row,∀ b∈row,∀ c∈row,(s a b c=true↔0<Bi X Y a b c)) (hrow:row.Pairwise (lx X Y)) :
 ∀ (l P:List α) (t:α) (st:List α),row=P++l->Stk X Y P (t::st)->P.getLast? = some t->(t::st).getLast? = P.head? ->
 ∃ t' st',Mc s (t::st) l=t'::st'/\Stk X Y row (t'::st')/\row.getLast? = some t'/\(t'::st').getLast? = row.head?
 |
  [],P,t,st,e,h,h1,h2=>by
  rw [Zo] at e; subst e;exact ⟨t,st,rfl,h,h1,h2⟩
 |
  c::l,P,t,st,e,h,h1,h2=>by
  have hPm:∀ p∈P,p∈row:=λp hp=>by rw [e]; exact J9 _ hp
  have hcm:c∈row:=by rw [e]; simp
  have hpw:=hrow;rw [e] at hpw;obtain ⟨w1,w2,w3⟩:=Ju.1 hpw;have hc:∀ p∈P,lx X Y p c:=λp hp=>w3 p hp c (by simp)
  have htop:∀ p∈P,p=t\/lx X Y p t:=λp hp=>by
   obtain ⟨P1,rfl⟩:∃ P1,P=P1++[t]:=by
    have:=Vh.1 h1;exact this
   rcases Qu.1 hp with hp | hp
   ·exact .inr ((Ju.1 w1).2.2 p hp t (by simp))
   ·exact .inl (Qk.1 hp)
  obtain ⟨t',st',g1,g2,g3,g4,g5⟩:=Zcq (λa ha b hb=>hs a (hPm a ha) b (hPm b hb) c hcm) hc st t h λp hp htp=>by
   rcases htop p hp with rfl | h'
   ·exact absurd htp (Li _)
   ·exact absurd (Qvy htp h') (Li _)
  have tot:∀ p∈P,p=t'\/lx X Y p t'\/lx X Y t' p:=λp hp=>by
   obtain ⟨i,hi,rfl⟩:=Vi.1 hp;obtain ⟨j,hj,e2⟩:=Vi.1 (g2.mem t' (by simp));rcases Vg i j with h' | h' | h'
   ·exact .inr (.inl (by rw [<-e2]; exact Vj.1 w1 i j hi hj h'))
   ·subst h'; exact .inl e2
   ·exact .inr (.inr (by rw [<-e2]; exact Vj.1 w1 j i hj hi h'))
  have hPne:P≠[]:=λh'=>by rw [h'] at h1; cases h1
  have hb:∀ p∈P,(t'::st').getLast? = some p\/∃ b,(t'::st').getLast? = some b/\lx X Y b p:=λp hp=>by
   rw [g5,h2];cases P with
   | nil=>exact absurd rfl hPne
   |
    cons f P' =>
    rcases Qm.1 hp with rfl | hp
    ·exact .inl rfl
    ·exact .inr ⟨f,rfl,(Q6.1 w1).1 p hp⟩
  have hpush:=Zin g2 hc tot hb g3 g4;obtain ⟨t2,st2,k1,k2,k3,k4⟩:=Qoj hs hrow l (P++[c]) c (t'::st') (by rw [e]; simp) hpush (by simp) (by
   rw [Ye,g5,h2];cases P with
   | nil=>exact absurd rfl hPne
   | cons f P'=>rfl)
  exact ⟨t2,st2,by simp only [Mc]; rw [g1]; exact k1,k2,k3,k4⟩
theorem Q95 {P:List α} (tot:∀ p∈P,∀ q∈P,p=q\/lx X Y p q\/lx X Y q p) {z:α} :
 ∀ (L L':List α) (f:α),(f::L).Pairwise (lx X Y)->(f::L').Pairwise (lx X Y)->(∀ p∈f::L,p∈P)->(∀ p∈f::L',p∈P) ->
 Edg (λa b=>∀ p∈P,0≤Bi X Y a b p) (f::L)->Edg (λa b=>∀ p∈P,0≤Bi X Y a b p) (f::L') ->
 Cnv (λa b c=>0<Bi X Y a b c) (f::L)->Cnv (λa b c=>0<Bi X Y a b c) (f::L')->(f::L).getLast? = some z->(f::L').getLast? = some z->L=L':=by
 have one:∀ (L L':List α) (f b b':α),(f::b::L).Pairwise (lx X Y)->(f::b'::L').Pairwise (lx X Y)->(∀ p∈f::b::L,p∈P)->b'∈P ->
  Edg (λa b=>∀ p∈P,0≤Bi X Y a b p) (f::b::L)->0≤Bi X Y f b' b->Cnv (λa b c=>0<Bi X Y a b c) (f::b::L)->(f::b::L).getLast? = some z->(f::b'::L').getLast? = some z->¬lx X Y b b':=by
  intro L L' f b b' s s' m m' e e' c l l' hlt;have s1:=Q6.1 s;have hfb:lx X Y f b:=s1.1 b (by simp);have hcol:Bi X Y f b b'=0:=by
   have:=e.1 b' m';rw [Qwf] at e'; grind
  cases L with
  |
   nil =>
   simp at l;subst l;have hz:b'=b\/lx X Y b' b:=by
    have:b∈f::b'::L':=Km l';have s2:=(Q6.1 s').2;rcases Qm.1 this with rfl | h
    ·exact absurd hfb (Li _)
    ·rcases Qm.1 h with h | h
     ·exact .inl h.symm
     ·exact .inr ((Q6.1 s2).1 b h)
   rcases hz with rfl | hz
   ·exact Li _ hlt
   ·exact Li _ (Qvy hlt hz)
  |
   cons d M =>
   have h1:0<Bi X Y f b d:=c.1;have h2:=e.2.1 b' m';have s2:=Q6.1 s1.2;have hbd:lx X Y b d:=s2.1 d (by simp);have k:=(ang (Lj hlt) (Lj hfb) (Lj hbd) (by unfold Bi at hcol; grind) (by rw [Qsp] at h1; exact Rat.le_of_lt h1)).2 (.inr (by rw [Qsp] at h1; exact h1));unfold Bi at h2; grind
 intro L
 induction L with
 |
  nil =>
  intro L' f s s' m m' e e' c c' l l';simp at l;cases L' with
  | nil=>rfl
  |
   cons b' M' =>
   exfalso;subst l;have h1:=(Q6.1 s').1 f (by
    rw [Ye] at l';exact Km l')
   exact Li _ h1
 |
  cons b M ih =>
  intro L' f s s' m m' e e' c c' l l';cases L' with
  |
   nil =>
   exfalso;simp at l';subst l';have h1:=(Q6.1 s).1 f (by
    rw [Ye] at l;exact Km l)
   exact Li _ h1
  |
   cons b' M' =>
   have hb:=m b (by simp);have hb':=m' b' (by simp);have heq:b=b':=by
    rcases tot b hb b' hb' with h | h | h
    ·exact h
    ·exact absurd h (one M M' f b b' s s' m hb' e (e'.1 b hb) c l l')
    ·exact absurd h (one M' M f b' b s' s m' hb e' (e.1 b' hb') c' l' l)
   subst heq;rw [Ye] at l l';rw [ih M' b (Q6.1 s).2 (Q6.1 s').2 (λp hp=>m p (Qj _ hp)) (λp hp=>m' p (Qj _ hp)) e.2 e'.2 c.tail c'.tail l l']
end
end Orq
namespace Orr
open Go
theorem Zba (c:Int) (l:List Int):Hz (l.map (· * c))=Hz l*c.natAbs:=by
 have key:∀ (l:List Int) (g:Nat),(l.map (· * c)).foldl (λg z=>Nat.gcd g z.natAbs) (g*c.natAbs)=l.foldl (λg z=>Nat.gcd g z.natAbs) g*c.natAbs:=by
  intro l
  induction l with
  | nil=>intro g; rfl
  |
   cons z l ih =>
   intro g;simp only [Xb,Xg,Jx,Uo];exact ih _
 have:=key l 0;rwa [J6] at this
end Orr
namespace Orq
open Orr Go
theorem Qxl {p q:List Int} (tp:Fg p) (tq:Fg q) (h:∀ i,p.getD i 0=q.getD i 0):p=q:=by
 have hl:∀ {p q:List Int},Fg p->(∀ i,p.getD i 0=q.getD i 0)->p.length<=q.length:=λ{p q} tp h=>by
  refine Nat.not_lt.1 λhn=>?_
  have h1:=Hr tp (by omega);rw [h,Qe,Qt (by omega)] at h1;exact h1 rfl
 have e:=Vw (hl tp h) (hl tq λi=>(h i).symm);refine List.ext_getElem e λi h1 h2=>?_
 have:=h i;rw [Qe,Qe,Qd h1,Qd h2] at this;exact this
theorem Qve {p:List Int} (h:p=[]) (i:Nat):p.getD i 0=0:=by rw [h]; simp
theorem Ec (p:List Int) (c:Int) (i:Nat):(Gb p c).getD i 0=p.getD i 0*c:=by
 unfold Gb;rw [Rz]
 split
 ·rfl
 ·rename_i h;rw [Qe,Qt (by omega)]; simp
theorem Qm1 (p q:List Int) (i:Nat):(Pa p q).getD i 0=p.getD i 0-q.getD i 0:=by
 unfold Pa;rw [Rz]
 split
 ·rfl
 ·rename_i h;rw [Qe,Qe,Qt (by omega),Qt (by omega)]; simp
theorem Zia {x y:Crv} (hx:Nml x) (hy:Nml y) (h1:Hp x y=[]) (h2:Re x y=[]):x=y:=by
 have e1:∀ i,y.x.getD i 0*x.d=x.x.getD i 0*y.d:=λi=>by
  have:=Qve h1 i;unfold Hp at this;rw [Qm1,Ec,Ec] at this;omega
 have e2:∀ i,y.y.getD i 0*x.d=x.y.getD i 0*y.d:=λi=>by
  have:=Qve h2 i;unfold Re at this;rw [Qm1,Ec,Ec] at this;omega
 have key:∀ {x y:Crv},Nml x->Nml y->(∀ i,y.x.getD i 0*x.d=x.x.getD i 0*y.d)->(∀ i,y.y.getD i 0*x.d=x.y.getD i 0*y.d)->x.d∣y.d:=λ{x y} hx hy e1 e2=>by
  have hd:=Qu6 (d:=x.d) (l:=(x.d::(x.x++x.y)).map (· * y.d)) λz hz=>by
   obtain ⟨w,hw,rfl⟩:=Zp.1 hz;rcases Qm.1 hw with rfl | hw
   ·exact V6 _ _
   ·rcases Qu.1 hw with hw | hw
    ·obtain ⟨i,hi,rfl⟩:=Vi.1 hw;have:=e1 i;rw [show x.x.getD i 0=x.x[i] from by rw [Qe,Qd hi]; rfl] at this;rw [<-this]; exact Vk _ _
    ·obtain ⟨i,hi,rfl⟩:=Vi.1 hw;have:=e2 i;rw [show x.y.getD i 0=x.y[i] from by rw [Qe,Qd hi]; rfl] at this;rw [<-this]; exact Vk _ _
  rw [Zba,hx.2.2.2,Ky] at hd;exact Vr hd (Int.natAbs_dvd.2 (Ww _))
 have hd:x.d=y.d:=Int.dvd_antisymm (Wx hx.2.2.1) (Wx hy.2.2.1) (key hx hy e1 e2) (key hy hx (λi=>(e1 i).symm) λi=>(e2 i).symm);have hd0:y.d≠0:=by have:=hy.2.2.1; omega
 rw [hd] at e1 e2;have ex:x.x=y.x:=Qxl hx.1 hy.1 λi=>(Vb hd0 (e1 i)).symm
 have ey:x.y=y.y:=Qxl hx.2.1 hy.2.1 λi=>(Vb hd0 (e2 i)).symm
 cases x; cases y;simp only at hd ex ey;rw [hd,ex,ey]
theorem Zjp (l:List Pt):(Nb l).Pairwise λx y=>x.c≠y.c:=by
 have key:∀ (l out:List Pt),out.Pairwise (λx y=>x.c≠y.c)->(l.foldl B6 out).Pairwise λx y=>x.c≠y.c:=by
  intro l
  induction l with
  | nil=>intro out h; exact h
  |
   cons p l ih =>
   intro out h;refine ih _ ?_;unfold B6
   split
   ·exact h
   ·rename_i hn;refine Ju.2 ⟨h,Vp _ _,λa ha b hb e=>hn ?_⟩;rw [Qk.1 hb] at e;rw [List.any_eq_true];exact ⟨a,ha,by rw [<-e]; simp [Aw]⟩
 exact key l [] .nil
theorem Zex (l:List Pt):(Nb l).Sublist l:=by
 have key:∀ (l out o:List Pt),out.Sublist o->(l.foldl B6 out).Sublist (o++l):=by
  intro l
  induction l with
  | nil=>intro out o h; rw [Zo]; exact h
  |
   cons p l ih =>
   intro out o h;have:(B6 out p).Sublist (o++[p]):=by
    unfold B6
    split
    ·exact h.trans (List.sublist_append_left _ _)
    ·exact h.append (List.Sublist.refl _)
   have:=ih _ _ this;rwa [Zm] at this
 exact key l [] [] (List.Sublist.refl _)
theorem I8 (f:Nat->List Int) (rows:List (List (List Int))) (q:Rat) (i:Nat):Fe (Dk f rows (i+1)) q=Fe (Dk f rows i) q+(if i % 2=0 then 1 else -1)*(Fe ((rows.getD i []).getD 0 []) q*Fe (f i) q):=by
 simp only [Dk]
 split
 ·rename_i h;have:Fe ((rows.getD i []).getD 0 []) q=0:=by rw [Qh h]; rfl
  rw [this]; grind
 ·split
  ·rw [Qwn,Gn]; grind
  ·rw [Cn,Gn]; grind
theorem Q38 (z:Int) (q:Rat):Fe [z] q=(z:Rat):=by simp [Fe,Rat.add_zero]
theorem Qwk (p:List Int) (q:Rat):Fe (Lk 1 [[p]]) q=Fe p q:=by
 show Fe (Dk (λi=>Lk 0 (Qdc [[p]] i)) [[p]] (0+1)) q=_;rw [I8];show (0:Rat)+1*(Fe p q*Fe [1] q)=_;rw [Q38];have:((1:Int):Rat)=1:=rfl;grind
theorem Qmr (p r s t:List Int) (q:Rat):Fe (Lk 2 [[p,r],[s,t]]) q=Fe p q*Fe t q-Fe s q*Fe r q:=by
 show Fe (Dk (λi=>Lk 1 (Qdc [[p,r],[s,t]] i)) [[p,r],[s,t]] (0+1+1)) q=_;rw [I8,I8];show (0:Rat)+1*(Fe p q*Fe (Lk 1 [[t]]) q)+(-1)*(Fe s q*Fe (Lk 1 [[r]]) q)=_;rw [Qwk,Qwk]; grind
theorem Zcm (a1 a2 a3 b1 b2 b3 c1 c2 c3:List Int) (q:Rat):Fe (Lk 3 [[a1,a2,a3],[b1,b2,b3],[c1,c2,c3]]) q=Fe a1 q*(Fe b2 q*Fe c3 q-Fe c2 q*Fe b3 q)-Fe b1 q*(Fe a2 q*Fe c3 q-Fe c2 q*Fe a3 q)+Fe c1 q*(Fe a2 q*Fe b3 q-Fe b2 q*Fe a3 q):=by
 show Fe (Dk (λi=>Lk 2 (Qdc [[a1,a2,a3],[b1,b2,b3],[c1,c2,c3]] i)) [[a1,a2,a3],[b1,b2,b3],[c1,c2,c3]] (0+1+1+1)) q=_;rw [I8,I8,I8];show (0:Rat)+1*(Fe a1 q*Fe (Lk 2 [[b2,b3],[c2,c3]]) q)+(-1)*(Fe b1 q*Fe (Lk 2 [[a2,a3],[c2,c3]]) q)+1*(Fe c1 q*Fe (Lk 2 [[a2,a3],[b2,b3]]) q)=_;rw [Qmr,Qmr,Qmr]; grind
theorem Q02 {a b c:Pt} (ha:Sc a.c) (hb:Sc b.c) (hc:Sc c.c) (q:Rat):Fo (Fe (Hm a.c b.c c.c) q)=Fo (Bi (px · q) (py · q) a b c):=by
 have pos:∀ {k:Crv},Sc k->(0:Rat)<(k.d:Rat):=λh=>by exact_mod_cast h.n.2.2.1
 have pa:=pos ha;have pb:=pos hb;have pc:=pos hc;have xx:∀ {p:Pt},0<(p.c.d:Rat)->Fe p.c.x q=px p q*(p.c.d:Rat)/\Fe p.c.y q=py p q*(p.c.d:Rat):=λ{p} h=>by
  unfold px py;exact ⟨(Zj (by grind)).symm,(Zj (by grind)).symm⟩
 obtain ⟨xa,ya⟩:=xx pa;obtain ⟨xb,yb⟩:=xx pb;obtain ⟨xc,yc⟩:=xx pc;have e:Fe (Hm a.c b.c c.c) q=((a.c.d:Rat)*(b.c.d:Rat)*(c.c.d:Rat))*Bi (px · q) (py · q) a b c:=by
  unfold Hm Bv Bi;rw [Zcm,Q38,Q38,Q38,xa,xb,xc,ya,yb,yc];grind
 rw [e,Ef (Jj (Jj pa pb) pc)]
def Qfe (sg:List Int->Int) (a b c:Pt):Bool:=decide (0<Tg sg (Hm a.c b.c c.c))
def Pu (sg:List Int->Int) (row:List Pt):List Pt:=(Mc (Qfe sg) [] row).reverse
def Lm (sg:List Int->Int) (row:List Pt):List Pt:=if row.length<3 then row else (Pu sg row).dropLast++(Pu sg row.reverse).dropLast
def Rt (l:List Pt) (a:Tm):List Pt:=Lm (Hk a) (Pp a (Nb l))
def Gq (C:List Pt):List (Pt×Pt):=C.zip (C.drop 1++C.take 1)
def Mv (sg:List Int->Int) (a b c:Pt):Ct:=⟨3,a.id,b.id,c.id,0,Hm a.c b.c c.c,Tg sg (Hm a.c b.c c.c)⟩
def Pj (e:Pt×Pt) (c:Pt):Bool:=decide (c.id≠e.1.id) && decide (c.id≠e.2.id)
def Pw (sg:List Int->Int) (l:List Pt) (e:Pt×Pt):List Ct:=(l.filter (Pj e)).map λc=>Mv sg e.1 e.2 c
def Md (sg:List Int->Int) (l C:List Pt):List Ct:=if C.length<2 then [] else (Gq C).flatMap (Pw sg l)
def bcH (l:List Pt) (a:Tm):List Ct:=bcS l a++Md (Hk a) l (Rt l a)
abbrev brH (l:List Pt) (a:Tm):List (List LV):=Fh (Rt l a)
def Qki (l:List Pt):List (List Int):=l.flatMap λx=>l.flatMap λy=>l.map λz=>Hm x.c y.c z.c
theorem Qt7 {l:List Pt} {x y z:Pt} (hx:x∈l) (hy:y∈l) (hz:z∈l):Hm x.c y.c z.c∈Qki l :=
 Z0.2 ⟨x,hx,Z0.2 ⟨y,hy,Zp.2 ⟨z,hz,rfl⟩⟩⟩
theorem Zfl {l:List Pt} (hl:∀ p∈l,Sc p.c):∀ p∈Qki l,Cp p:=λp hp=>by
 obtain ⟨x,hx,hp⟩:=Z0.1 hp;obtain ⟨y,hy,hp⟩:=Z0.1 hp;obtain ⟨z,hz,rfl⟩:=Zp.1 hp;exact Qgw (hl x hx) (hl y hy) (hl z hz)
theorem Qmw {α:Type} (s:α->α->α->Bool) (c:α):∀ st:List α,(Lb s c st).Sublist st
 | []=>List.Sublist.refl _
 | [_]=>List.Sublist.refl _
 |
  b::a::r=>by
  simp only [Lb]
  split
  ·exact List.Sublist.refl _
  ·exact (Qmw s c (a::r)).trans (List.sublist_cons_self _ _)
theorem Qdv {α:Type} {s:α->α->α->Bool}:∀ {l acc:List α} {x:α},x∈Mc s acc l->x∈acc\/x∈l
 | [],acc,x,h=>.inl h
 |
  c::l,acc,x,h=>by
  rcases Qdv (l:=l) h with h | h
  ·rcases Qm.1 h with rfl | h
   ·exact .inr (by simp)
   ·exact .inl ((Qmw s c acc).subset h)
  ·exact .inr (Qj _ h)
theorem Qdu {α:Type} (s:α->α->α->Bool):∀ (l acc:List α),(Mc s acc l).length<=acc.length+l.length
 | [],acc=>by simp [Mc]
 |
  c::l,acc=>by
  have h1:=Qdu s l (c::Lb s c acc);have h2:=(Qmw s c acc).length_le;simp only [Mc,Q7] at h1 ⊢;omega
theorem Qk4 {sg:List Int->Int} {row:List Pt} {x:Pt} (h:x∈Pu sg row):x∈row:=by
 unfold Pu at h;rcases Qdv (Jt.1 h) with h | h
 ·cases h
 ·exact h
theorem Ox (sg:List Int->Int) (row:List Pt):(Pu sg row).length<=row.length:=by
 have:=Qdu (Qfe sg) row [];unfold Pu; rw [List.length_reverse]; simpa using this
theorem Q0u {sg:List Int->Int} {row:List Pt} {x:Pt} (h:x∈Lm sg row):x∈row:=by
 unfold Lm at h
 split at h
 ·exact h
 ·rcases Qu.1 h with h | h
  ·exact Qk4 ((List.dropLast_sublist _).subset h)
  ·exact Jt.1 (Qk4 ((List.dropLast_sublist _).subset h))
theorem Q0t (sg:List Int->Int) (row:List Pt):(Lm sg row).length<=2*row.length:=by
 unfold Lm
 split
 ·omega
 ·have h1:=Ox sg row;have h2:=Ox sg row.reverse;rw [X3] at h2;rw [Q4,List.length_dropLast,List.length_dropLast]; omega
theorem Bs {l:List Pt} {a:Tm} {x:Pt} (h:x∈Rt l a):x∈l:=Nv (Rj.1 (Q0u h))
theorem Ix (l:List Pt) (a:Tm):(Rt l a).length<=2*l.length:=by
 have h1:=Q0t (Hk a) (Pp a (Nb l));rw [Lc] at h1;have:=Qnn l;unfold Rt; omega
theorem Qbm {C:List Pt} {e:Pt×Pt} (h:e∈Gq C):e.1∈C/\e.2∈C:=by
 unfold Gq at h;have h1:=List.of_mem_zip (show (e.1,e.2)∈_ from h);refine ⟨h1.1,?_⟩;rcases Qu.1 h1.2 with h | h
 ·exact Ze h
 ·exact Qn h
theorem Ql7 {sg:List Int->Int} {l C:List Pt} {x:Ct} (h:x∈Md sg l C):∃ e∈Gq C,∃ c∈l,Pj e c=true/\x=Mv sg e.1 e.2 c:=by
 unfold Md at h
 split at h
 ·cases h
 ·obtain ⟨e,he,h⟩:=Z0.1 h;obtain ⟨c,hc,rfl⟩:=Zp.1 h;obtain ⟨h1,h2⟩:=K8.1 hc;exact ⟨e,he,c,h1,h2,rfl⟩
theorem Qqv {l:List Pt} {a:Tm}:∀ x∈bcH l a,x.p∈Qem l++Qki l:=λx hx=>by
 rcases Qu.1 hx with hx | hx
 ·exact J9 _ (Zfp x hx)
 ·obtain ⟨e,he,c,hc,_,rfl⟩:=Ql7 hx;obtain ⟨h1,h2⟩:=Qbm he;exact Yn _ (Qt7 (Bs h1) (Bs h2) hc)
theorem Qjk {l:List Pt} (hl:∀ p∈l,Sc p.c):∀ p∈Qem l++Qki l,Cp p:=λp hp=>by
 rcases Qu.1 hp with h | h
 ·exact Q1o hl p h
 ·exact Zfl hl p h
theorem Qdz {α β:Type} (f:α->List β) (n:Nat):∀ (m:List α),(∀ x∈m,(f x).length≤n)->(m.flatMap f).length≤m.length*n
 | [],_=>by simp
 |
  x::m,h=>by
  have:=Qdz f n m λy hy=>h y (Qj _ hy)
  have:=h x (by simp);rw [Yg,Q4,Q7,Xd]; omega
theorem Qzm (sg:List Int->Int) (l C:List Pt):(Md sg l C).length<=C.length*l.length:=by
 unfold Md
 split
 ·simp
 ·refine Qc (Qdz _ l.length _ λe _=>?_) (Qx _ ?_)
  ·unfold Pw; rw [List.length_map]; exact List.length_filter_le _ _
  ·unfold Gq; rw [List.length_zip]; exact Nat.min_le_left _ _
theorem Qx3 {l:List Pt} (hl:∀ p∈l,Sc p.c) (hn:l.length≤10):BuildOk (bcH l) :=
 ⟨λ_ _ x hx=>Qjk hl _ (Qqv x hx),λa _=>by
  have h1:=Qzm (Hk a) l (Rt l a);have h2:=Ix l a;have h3:(Rt l a).length*l.length<=20*10:=Zh (by omega) hn;show (bcS l a++Md (Hk a) l (Rt l a)).length<=1000;have h4:(bcS l a).length<=l.length:=by unfold bcS; rw [Bw,Lc]; omega
  rw [Q4]; omega⟩
def Au {α:Type} (l:List α):List (α×α):=l.zip (l.drop 1)
theorem Qrp {α:Type} {Q:α->α->Prop}:∀ {l:List α},Edg Q l↔∀ e∈Au l,Q e.1 e.2
 | []=>by simp [Edg,Au]
 | [_]=>by simp [Edg,Au]
 |
  a::b::l=>by
  have ih:=Qrp (Q:=Q) (l:=b::l);have e:Au (a::b::l)=(a,b)::Au (b::l):=rfl;rw [e];constructor
  ·rintro ⟨h1,h2⟩ x hx
   rcases Qm.1 hx with rfl | hx
   ·exact h1
   ·exact ih.1 h2 x hx
  ·intro h;exact ⟨h (a,b) (by simp),ih.2 λx hx=>h x (Qj _ hx)⟩
theorem Qk9 {α:Type} (f z:α) (A:List α):Au (f::A++[z])=(f::A).zip (A++[z]):=by
 unfold Au;rw [Xl,W7,Xu];have:f::(A++[z])=(f::A)++[z]:=rfl;rw [this];have h:A++[z]=(A++[z])++[]:=(Zo _).symm
 conv=>lhs; rw [h]
 rw [List.zip_append (by simp)];simp
theorem Qu7 {f z:Pt} {A B:List Pt}:Gq ((f::A++[z]).dropLast++(z::B++[f]).dropLast)=Au (f::A++[z])++Au (z::B++[f]):=by
 rw [Kl,Kl,Qk9,Qk9,<-List.zip_append (by simp)];unfold Gq;congr 1;simp
theorem Edg.rev {α:Type} {Q:α->α->Prop}:∀ {l:List α},Edg Q l->Edg (λa b=>Q b a) l.reverse:=by
 have app:∀ {Q:α->α->Prop} {l:List α} {b a:α},Edg Q (l++[b])->Q b a->Edg Q (l++[b]++[a]):=by
  intro Q l
  induction l with
  | nil=>intro b a _ h; exact ⟨h,trivial⟩
  |
   cons x l ih =>
   intro b a h h2;cases l with
   | nil=>exact ⟨h.1,ih h.2 h2⟩
   | cons y l=>exact ⟨h.1,ih h.2 h2⟩
 intro l
 induction l with
 | nil=>intro _; trivial
 |
  cons a l ih =>
  intro h;cases l with
  | nil=>trivial
  |
   cons b l =>
   have:=ih h.2;rw [Yu] at this ⊢;rw [Yu];exact app this h.1
theorem Cnv.rev {α:Type} {R:α->α->α->Prop}:∀ {l:List α},Cnv R l->Cnv (λa b c=>R c b a) l.reverse:=by
 have app:∀ {R:α->α->α->Prop} {l:List α} {c b a:α},Cnv R (l++[c,b])->R c b a->Cnv R (l++[c,b,a]):=by
  intro R l
  induction l with
  | nil=>intro c b a _ h; exact ⟨h,trivial⟩
  |
   cons x l ih =>
   intro c b a h h2;cases l with
   | nil=>exact ⟨h.1,ih h.2 h2⟩
   |
    cons y l =>
    cases l with
    | nil=>exact ⟨h.1,ih h.2 h2⟩
    | cons w l=>exact ⟨h.1,ih h.2 h2⟩
 intro l
 induction l with
 | nil=>intro _; trivial
 |
  cons a l ih =>
  intro h
  match l,h with
  | [],_=>trivial
  | [_],_=>trivial
  |
   b::c::l,h =>
   have:=ih h.2;rw [Yu,Yu,Zm] at this;rw [Yu,Yu,Yu,Zm,Zm];exact app this h.1
end Orq
namespace Orr
open Go Go.Proofs Orq
set_option maxRecDepth 10000
theorem Q11 {a b c:Pt} {t:Tm} (ha:Sc a.c) (hb:Sc b.c) (hc:Sc c.c) (ht:Va t):Fa Tryz.prog 179 [.one (.int .i64 3),.agg (ta t),.one (.row [H5 a,H5 b,H5 c])] [.agg (Qdd (Mv (Hk t) a b c)),.one (.int .i64 0)]:=by
 have hp:=(Qgw ha hb hc).dp;have e:Qdd (Mv (Hk t) a b c)=[.int .i64 3,.int .i64 a.id,.int .i64 b.id,.int .i64 c.id,.int .i64 0,pl (Hm a.c b.c c.c),.int .i64 (Tg (Hk t) (Hm a.c b.c c.c))]:=by rw [Mv]
 rw [e];have cg:=Q2c hp ht;have cf:=Quc ha hb hc;generalize Hm a.c b.c c.c=F at *;refine Hl Tryz.func179 rfl ?_;refine go tt [.c [] Q5q,.f rfl] rfl trivial ?_;refine lp (S:=Nat) 3 (λL1 i=>(22,.v (.one (.int .i64 (i:Int))))::L1) (λi=>[.blk 74 (ta t),.blk 90 zCt,.blk 90 [.int .i64 3,.int .i64 (if 1<=i then a.id else 0),.int .i64 (if 2<=i then b.id else 0),.int .i64 (if 3<=i then c.id else 0),.int .i64 0,.nils,.int .i64 0]]) (λi=>3-i) (λi=>i<=3) 0 (Qi _) rfl (λ_ _=>rfl) rfl λi hi=>?_
 rcases (show i=0\/i=1\/i=2\/i=3 by omega) with rfl | rfl | rfl | rfl
 ·refine go tt [.t rfl,.x (i:=0) (xs:=H5 a) rfl,.i 0] rfl (by simp [U9]) ?_;exact rd 1 (by omega) (by omega) rfl
 ·refine go tt [.t rfl,.x (i:=1) (xs:=H5 b) rfl,.i 1] rfl (by simp [U9]) ?_;exact rd 2 (by omega) (by omega) rfl
 ·refine go tt [.t rfl,.x (i:=2) (xs:=H5 c) rfl,.i 2] rfl (by simp [U9]) ?_;exact rd 3 (by omega) (by omega) rfl
 ·exact en tt [.f rfl,.f rfl,.f rfl,.t rfl,.x (i:=0) (xs:=H5 a) rfl,.x (i:=1) (xs:=H5 b) rfl,.x (i:=2) (xs:=H5 c) rfl,.c [] cf,.c [] cg] rfl rfl trivial
theorem Ar {α:Type} (s:α->α->α->Bool):∀ (l acc:List α) (c:α),Mc s acc (l++[c])=c::Lb s c (Mc s acc l)
 | [],_,_=>rfl
 | _::l,_,c=>Ar s l _ c
theorem Q18 {R:List Pt} {t:Tm} (hR:∀ p∈R,Sc p.c) (hn:R.length≤1000000) (ht:Va t):Fa Tryz.prog 248 [.agg (ta t),.one (pts R)] [.one (pts (Pu (Hk t) R))]:=by
 have hcl:=Tn R;show Fa Tryz.prog 248 [.agg (ta t),.one (.row (Fh R))] [.one (.row (Fh (Mc (Qfe (Hk t)) [] R).reverse))];obtain ⟨s,hs⟩:=nmE (Qfe (Hk t));have hs':∀ a b c,s a b c=decide (0<Tg (Hk t) (Hm a.c b.c c.c)):=λa b c=>by rw [hs]; rfl
 rw [<-hs];refine Hl Tryz.func248 rfl ?_;refine go tt [.o 5 135 5] rfl trivial ?_;refine lp (S:=Nat) 2 (λL1 i=>(10,.v (.one (.int .i64 (i:Int))))::(5,.v (.one (.orow 1 5 none)))::L1) (λi=>[.blk 74 (ta t),.row false 135 5 (Fh (Mc s [] (R.take i)).reverse)]) (λi=>R.length-i) (λi=>i<=R.length) 0 (Qi _) rfl (λ_ _=>rfl) rfl λi hi=>?_
 by_cases hlt:i<R.length
 ·obtain ⟨c,hc⟩:=gxE (l:=R) (i:=i) hlt;have hcp:=hR c (Qa hc);have hst:Mc s [] (R.take (i+1))=c::Lb s c (Mc s [] (R.take i)):=by rw [Zq,hc]; exact Ar s _ _ c
  obtain ⟨O,hO⟩:=nmE (Mc s [] (R.take i));have hOl:O.length<=1000000:=by
   have:=Qdu s (R.take i) [];rw [<-hO,Qr] at this; simp at this; omega
  have hOm:∀ x∈O,Sc x.c:=λx hx=>by
   rw [hO] at hx;rcases Qdv hx with h | h
   ·cases h
   ·exact hR x (Qn h)
  rw [<-hO] at hst ⊢;have hrl:(Fh O.reverse).length=O.length:=by rw [Tn,X3]
  have hm:∀ y∈[H5 c],y.length=5:=λy hy=>by rw [Qk.1 hy]; rfl
  have hget:∀ {pre r:List Pt} {x:Pt},O=pre++x::r->∀ j,j=r.length->(Fh O.reverse)[j]? = some (H5 x):=λ{pre r x} e j hj=>by
   refine Rp ?_;rw [e,hj]; simp
  have hfin:∀ {pre st:List Pt},O=pre++st->Fh (c::st).reverse=(Fh O.reverse).take st.length++[H5 c]:=λ{pre st} e=>by
   rw [e]; simp [Fh,J7,List.take_append]
  have hfull:Fh (c::O).reverse=Fh O.reverse++[H5 c]:=by simp [Fh]
  refine go tt [.t (by simp [hcl]; omega),.x (Rp hc)] rfl trivial ?_;refine lp (S:=Bool×List Pt) 3 (λL1 s=>(5,.v (.one (.orow 1 5 (cond s.1 (some (0,s.2.length)) none))))::L1) (λ_=>[.blk 74 (ta t),.row false 135 5 (Fh O.reverse),.blk 135 (H5 c)]) (λs=>s.2.length) (λst=>(∃ pre,O=pre++st.2/\(st.1=false->pre=[]))/\Lb s c st.2=Lb s c O) (false,O) ⟨⟨[],rfl,λ_=>rfl⟩,rfl⟩ rfl (λ_ _=>rfl) rfl λ⟨b,st⟩ ⟨⟨pre,h1,h2⟩,h3⟩=>?_
  have h1:O=pre++st:=h1;have h3:Lb s c st=Lb s c O:=h3;have hl1:O.length=pre.length+st.length:=by rw [h1,Q4]
  have fin:∀ {st:List Pt},O=pre++st->Lb s c st=Lb s c O->Lb s c st=st->Fh (Mc s [] (R.take (i+1))).reverse=(Fh O.reverse).take st.length++[H5 c]/\(pre=[]->Fh (Mc s [] (R.take (i+1))).reverse=Fh O.reverse++[H5 c]):=λ{st} e1 e2 e3=>by
   rw [hst,<-e2,e3];refine ⟨hfin e1,λhp=>?_⟩;rw [hp] at e1;rw [<-hfull,e1]; rfl
  rcases st with _ | ⟨z,_ | ⟨y,r⟩⟩
  ·obtain ⟨f1,f2⟩:=fin h1 h3 rfl;cases b with
   |
    false =>
    have hp:=h2 rfl;have f2:=f2 hp;rw [hp] at hl1;have hl2:(Fh O.reverse).length<=1:=by rw [hrl,hl1]; simp
    refine go tt [.g 17 false (decide_eq_false (by omega)),.f rfl,.s (sz:=5) hm] rfl (by simp [U9]; omega) ?_;exact rd (i+1) (by omega) hlt (by rw [f2]; rfl)
   |
    true =>
    refine go tt [.g 17 false (decide_eq_false (by simp)),.f rfl,.s (sz:=5) hm] rfl (by simp [U9]; omega) ?_;exact rd (i+1) (by omega) hlt (by rw [f1]; rfl)
  ·obtain ⟨f1,f2⟩:=fin h1 h3 rfl;cases b with
   |
    false =>
    have hp:=h2 rfl;have f2:=f2 hp;rw [hp] at hl1;have hl2:(Fh O.reverse).length<=1:=by rw [hrl,hl1]; simp
    refine go tt [.g 17 false (decide_eq_false (by omega)),.f rfl,.s (sz:=5) hm] rfl (by simp [U9]; omega) ?_;exact rd (i+1) (by omega) hlt (by rw [f2]; rfl)
   |
    true =>
    refine go tt [.g 17 false (decide_eq_false (by simp)),.f rfl,.s (sz:=5) hm] rfl (by simp [U9]; omega) ?_;exact rd (i+1) (by omega) hlt (by rw [f1]; rfl)
  ·have sz:=hOm z (by rw [h1]; simp);have sy:=hOm y (by rw [h1]; simp);have co:=Quc sy sz hcp;have cg:=Q2c (Qgw sy sz hcp).dp ht;have gz:=hget h1 (r.length+1) rfl;have gy:=hget (pre:=pre++[z]) (r:=r) (x:=y) (by rw [h1]; simp) r.length rfl;have hl1:O.length=pre.length+(r.length+2):=hl1;have hls:=hs' y z c;by_cases hq:s y z c=true
   ·have hg:¬Tg (Hk t) (Hm y.c z.c c.c)<=0:=by rw [hls] at hq; have:=of_decide_eq_true hq; omega
    obtain ⟨f1,f2⟩:=fin h1 h3 (by simp only [Lb]; rw [if_pos hq]);cases b with
    |
     false =>
     have hp:=h2 rfl;have f2:=f2 hp;rw [hp] at hl1;have hl2:(Fh O.reverse).length=r.length+2:=by rw [hrl,hl1]; simp
     refine go tt [.g 17 true (decide_eq_true (by omega)),.r 21 (eI (b:=(r.length:Int)) (by omega)),.i r.length,.x gy,.r 28 (eI (b:=((r.length+1:Nat):Int)) (by omega)),.i (r.length+1),.x gz,.c [] co,.c [] cg,.f (decide_eq_false hg),.s (sz:=5) hm] rfl (by simp [U9]; omega) ?_;exact rd (i+1) (by omega) hlt (by rw [f2]; rfl)
    |
     true =>
     refine go tt [.g 17 true (decide_eq_true (by simp; omega)),.r 21 (eI (b:=(r.length:Int)) (by simp; omega)),.i r.length,.x (l:=Fh O.reverse) (i:=0+r.length) (xs:=H5 y) (by rw [Zx]; exact gy),.r 28 (eI (b:=((r.length+1:Nat):Int)) (by simp)),.i (r.length+1),.x (l:=Fh O.reverse) (i:=0+(r.length+1)) (xs:=H5 z) (by rw [Zx]; exact gz),.c [] co,.c [] cg,.f (decide_eq_false hg),.s (sz:=5) hm] rfl (by simp [U9]; omega) ?_;exact rd (i+1) (by omega) hlt (by rw [f1]; rfl)
   ·have hg:Tg (Hk t) (Hm y.c z.c c.c)<=0:=by
     rw [hls] at hq; have:=of_decide_eq_false (Bool.eq_false_iff.2 hq); omega
    have hpop:Lb s c (y::r)=Lb s c O:=by rw [<-h3]; simp only [Lb]; rw [if_neg hq]
    have hin:(∃ pre',O=pre'++(y::r)/\((true:Bool)=false->pre'=[]))/\Lb s c (y::r)=Lb s c O:=⟨⟨pre++[z],by rw [h1]; simp,λh=>by cases h⟩,hpop⟩;cases b with
    |
     false =>
     have hp:=h2 rfl;rw [hp] at hl1;have hl2:(Fh O.reverse).length=r.length+2:=by rw [hrl,hl1]; simp
     refine go tt [.g 17 true (decide_eq_true (by omega)),.r 21 (eI (b:=(r.length:Int)) (by omega)),.i r.length,.x gy,.r 28 (eI (b:=((r.length+1:Nat):Int)) (by omega)),.i (r.length+1),.x gz,.c [] co,.c [] cg,.t (decide_eq_true hg),.r 42 (eI (b:=((r.length+1:Nat):Int)) (by omega)),.i (r.length+1)] rfl (by simp [U9]; omega) ?_;exact rd (true,y::r) (by simp) hin rfl
    |
     true =>
     refine go tt [.g 17 true (decide_eq_true (by simp; omega)),.r 21 (eI (b:=(r.length:Int)) (by simp; omega)),.i r.length,.x (l:=Fh O.reverse) (i:=0+r.length) (xs:=H5 y) (by rw [Zx]; exact gy),.r 28 (eI (b:=((r.length+1:Nat):Int)) (by simp)),.i (r.length+1),.x (l:=Fh O.reverse) (i:=0+(r.length+1)) (xs:=H5 z) (by rw [Zx]; exact gz),.c [] co,.c [] cg,.t (decide_eq_true hg),.r 42 (eI (b:=((r.length+1:Nat):Int)) (by simp)),.i (r.length+1)] rfl (by simp [U9]; omega) ?_;exact rd (true,y::r) (by simp) hin rfl
 ·obtain rfl:i=R.length:=by omega
  rw [Qy];exact en tt [.f (by simp [hcl])] rfl rfl trivial
theorem Qy2 {sg:List Int->Int} {R:List Pt} (h:R≠[]):0<(Pu sg R).length:=by
 unfold Pu;rw [X3];obtain ⟨x,hx⟩:∃ x,R.getLast? = some x:=⟨_,Yv h⟩;obtain ⟨l,hl⟩:=Vh.1 hx;rw [hl,Ar]; simp
theorem Qwp {α:Type} (s:α->α->α->Bool) (c:α):∀ {st:List α},st≠[]->0<(Lb s c st).length
 | [],h=>absurd rfl h
 | [_],_=>by simp [Lb]
 |
  b::a::r,_=>by
  simp only [Lb]
  split
  ·simp
  ·exact Qwp s c (by simp)
theorem Qk5 {sg:List Int->Int} {R:List Pt} (h:2<=R.length):2<=(Pu sg R).length:=by
 unfold Pu;rw [X3];obtain ⟨x,hx⟩:∃ x,R.getLast? = some x:=⟨_,Yv (by intro e; rw [e] at h; simp at h)⟩;obtain ⟨l,hl⟩:=Vh.1 hx;have hl0:l≠[]:=by intro e; rw [hl,e] at h; simp at h
 have:=Qy2 (sg:=sg) hl0;unfold Pu at this;rw [X3] at this;have:=Qwp (Qfe sg) x (st:=Mc (Qfe sg) [] l) (by intro e; rw [e] at this; simp at this);rw [hl,Ar,Q7]; omega
theorem Q2l {R:List Pt} {t:Tm} (hR:∀ p∈R,Sc p.c) (hn:R.length≤1000000) (ht:Va t):Fa Tryz.prog 188 [.agg (ta t),.one (pts R)] [.one (pts (Lm (Hk t) R))]:=by
 have hcl:=Tn R;have hrl:=Tn R.reverse;rw [X3] at hrl;show Fa Tryz.prog 188 [.agg (ta t),.one (.row (Fh R))] [.one (.row (Fh (Lm (Hk t) R)))];refine Hl Tryz.func188 rfl ?_;by_cases h3:R.length<3
 ·have e:Lm (Hk t) R=R:=if_pos h3;rw [e];exact en tt [.t (decide_eq_true (by omega))] rfl rfl trivial
 have c1:=Q18 hR hn ht;have c2:=Q18 (R:=R.reverse) (λp hp=>hR p (Jt.1 hp)) (by rw [X3]; exact hn) ht;have p1:=Qk5 (sg:=Hk t) (R:=R) (by omega);have p2:=Qk5 (sg:=Hk t) (R:=R.reverse) (by rw [X3]; omega);have k1:=Ox (Hk t) R;have k2:=Ox (Hk t) R.reverse;rw [X3] at k2;refine go tt [.f (decide_eq_false (by omega)),.o 5 135 5,.r 15 (eI (b:=(R.length:Int)-1-((0:Nat):Int)) (by omega))] rfl (by simp [U9,hcl]; omega) ?_;refine lp (S:=Nat) 2 (λL1 j=>(6,.v (.one (.int .i64 ((R.length:Int)-1-(j:Int)))))::(5,.v (.one (.orow 1 5 none)))::L1) (λj=>[.blk 74 (ta t),.row false 135 5 (Fh (R.reverse.take j))]) (λj=>R.length-j) (λj=>j<=R.length) 0 (Qi _) rfl (λ_ _=>rfl) rfl λj hj=>?_
 by_cases hlt:j<R.length
 ·obtain ⟨x,hx⟩:=gxE (l:=R) (i:=R.length-1-j) (by omega);have hx':R.reverse[j]? = some x:=by rw [List.getElem?_reverse (by omega)]; exact hx
  have hm:∀ y∈[H5 x],y.length=5:=λy hy=>by rw [Qk.1 hy]; rfl
  have e:Fh (R.reverse.take (j+1))=Fh (R.reverse.take j)++[H5 x]:=by rw [Zq,hx']; simp [Fh]
  have htl:(Fh (R.reverse.take j)).length=j:=by rw [Tn,Qr,X3]; omega
  refine go tt [.t (decide_eq_true (by omega)),.r 22 (eI (b:=((R.length-1-j:Nat):Int)) (by omega)),.x (Rp hx),.s (sz:=5) hm,.r 19 (eI (b:=(R.length:Int)-1-((j+1:Nat):Int)) (by omega))] rfl (by simp [U9,htl]; omega) ?_;exact rd (j+1) (by omega) hlt (by rw [e]; rfl)
 ·obtain rfl:j=R.length:=by omega
  rw [Qo (by rw [X3]; exact Ql _)];obtain ⟨A,hA⟩:=nmE (Pu (Hk t) R);obtain ⟨C,hC⟩:=nmE (Pu (Hk t) R.reverse);have e:Lm (Hk t) R=A.dropLast++C.dropLast:=by rw [hA,hC]; exact if_neg h3
  rw [<-hA] at c1 p1 k1;rw [<-hC] at c2 p2 k2;rw [e];have hs:∀ y∈(C.map H5).take (C.length-1),y.length=5:=λy hy=>Qs7 C y (Qn hy)
  have hs2:∀ y∈(A.map H5).take (A.length-1),y.length=5:=λy hy=>Qs7 A y (Qn hy)
  refine en tt [.f (decide_eq_false (by omega)),.p 1,.c [] c1,.c [] c2,.r 36 (eI (b:=((A.length-1:Nat):Int)) (by simp; omega)),.r 39 (eI (b:=((A.length-1:Nat):Int)) (by simp; omega)),.i (A.length-1),.r 44 (eI (b:=((C.length-1:Nat):Int)) (by simp; omega)),.i (C.length-1),.s (sz:=5) hs] rfl (by simp [Fh,J7,List.dropLast_eq_take]) ?_;simp only [U9,Qr,Q8]
  and_intros <;> first | exact hs2 | omega
theorem Qif {l:List Pt} {t:Tm} (hl:∀ p∈l,Sc p.c) (hn:l.length≤1000000) (ht:Va t):Rh Tryz.prog 182 [.agg (ta t),.one (pts l)] [] [.one (.orow 0 7 none)] [.row false 90 7 (Gm (Pe (Hk t) l))]:=by
 have hcl:=Tn l;show Rh Tryz.prog 182 [.agg (ta t),.one (.row (Fh l))] [] [.one (.orow 0 7 none)] [.row false 90 7 (Gm (Pe (Hk t) l))];refine Hl Tryz.func182 rfl ?_;refine go tt [.o 5 90 7] rfl trivial ?_;refine lp (S:=Nat) 2 (λL1 i=>(6,.v (.one (.int .i64 ((i+1:Nat):Int))))::(5,.v (.one (.orow 1 7 none)))::L1) (λi=>[.blk 74 (ta t),.row false 90 7 (Gm ((Pe (Hk t) l).take i))]) (λi=>l.length-i) (λi=>i<=l.length-1) 0 (Qi _) rfl (λ_ _=>rfl) rfl λi hi=>?_
 by_cases hlt:i+1<l.length
 ·obtain ⟨a,ha⟩:=gxE (l:=l) (i:=i) (by omega);obtain ⟨b,hb⟩:=gxE (l:=l) (i:=i+1) hlt;have hg:=Qhx (Hk t) ha hb;have hm:∀ y∈[Qdd (Ch (Hk t) a b)],y.length=7:=λy hy=>by rw [Qk.1 hy]; rfl
  refine go tt [.t (by simp [hcl]; omega),.r 19 (eI (b:=(i:Int)) (by simp)),.x (Rp ha),.x (Rp hb),.c [] (Zf1 (hl a (Qa ha)) (hl b (Qa hb)) ht),.s (sz:=7) hm,.r 14 (eI (b:=((i+1+1:Nat):Int)) (by simp))] rfl (by simp [U9,Tn,Dh,Bw]; omega) ?_;exact rd (i+1) (by omega) (by omega) (by rw [hg]; simp [Gm]; rfl)
 ·have e:(Pe (Hk t) l).take i=Pe (Hk t) l:=Qo (by rw [Bw]; omega);rw [e];exact ed tt [] [1] [.f (by simp [hcl]; omega)] rfl trivial
theorem Qbl {C:List Pt} {i:Nat} {a b:Pt} (ha:C[i]? = some a) (hb:C[(i+1) % C.length]? = some b):(Gq C)[i]? = some (a,b):=by
 have hi:=(Qf.1 ha).1;unfold Gq;rw [List.getElem?_zip_eq_some];refine ⟨ha,?_⟩;by_cases h:i+1<C.length
 ·rw [X5 h] at hb;rw [Zi (by rw [Jf]; omega),Xh,Jm]; exact hb
 ·have e:i+1=C.length:=by omega
  rw [e,Nat.mod_self] at hb;rw [Xa (by rw [Jf]; omega),Jf,show i-(C.length-1)=0 by omega,Wc (by omega)]; exact hb
theorem A1 (C:List Pt):(Gq C).length=C.length:=by
 unfold Gq;rw [List.length_zip,Q4,Jf,Qr]; omega
theorem Ai {α β:Type} {f:α->List β} {l:List α} {i:Nat} {x:α} (h:l[i]? = some x):(l.take (i+1)).flatMap f=(l.take i).flatMap f++f x:=by
 rw [Zq,h]; simp
theorem Du {α β:Type} {f:α->β} {p:α->Bool} {l:List α} {i:Nat} {x:α} (h:l[i]? = some x):((l.take (i+1)).filter p).map f=((l.take i).filter p).map f++if p x=true then [f x] else []:=by
 rw [Zq,h,List.filter_append,Jo];congr 1;simp only [Option.toList];by_cases hp:p x=true
 ·rw [if_pos hp,Ja hp]; rfl
 ·rw [if_neg hp,Yb hp]; rfl
theorem A3 {α β:Type} {f:α->List β} {n:Nat} (hf:∀ x,(f x).length<=n) (l:List α):(l.flatMap f).length<=l.length*n:=Qdz f n l λx _=>hf x
theorem Q47 {l:List Pt} (hl:∀ p∈l,Sc p.c):∀ p∈l,Qxy 4294967294 1073741824 p:=λp hp=>⟨(hl p hp).n,(hl p hp).c.mono (by decide) (by decide)⟩
set_option maxHeartbeats 4000000 in
theorem Q5j {l:List Pt} {a:Tm} {c:Cr} {r1:List (List LV)} (hl:∀ p∈l,Sc p.c) (hn:l.length≤10) (ha:Va a):Rh Tryz.prog 113 [.one (.ow 0 0),.agg (ta a)] [.blk 124 (C7 c (Fh l) r1)] [.one (.row (Gm (bcH l a)))] [.blk 124 (C7 c (Fh l) (brH l a))]:=by
 have hwl:=Qnn l;have cw:=Q89 (l:=l) (Q47 hl) (by omega);have cr:=Q16 (l:=Nb l) (λp hp=>hl p (Nv hp)) (by omega) ha;have cn:=Q2l (R:=Pp a (Nb l)) (λp hp=>hl p (Nv (Rj.1 hp))) (by rw [Lc]; omega) ha;have cr2:=Q16 hl (by omega) ha;have cc:=Qif (l:=Pp a l) (t:=a) (λp hp=>hl p (Rj.1 hp)) (by rw [Lc]; omega) ha;have hCm:∀ p∈Rt l a,p∈l:=λp hp=>Bs hp
 have hCl:=Ix l a;have e0:bcH l a=bcS l a++Md (Hk a) l (Rt l a):=rfl;rw [e0];show Rh Tryz.prog 113 _ _ _ [.blk 124 (C7 c (Fh l) (Fh (Rt l a)))];have cn:Fa Tryz.prog 188 [.agg (ta a),.one (pts (Pp a (Nb l)))] [.one (pts (Rt l a))]:=cn;have cc:Rh Tryz.prog 182 [.agg (ta a),.one (pts (Pp a l))] [] [.one (.orow 0 7 none)] [.row false 90 7 (Gm (bcS l a))]:=cc;have hbl:(bcS l a).length<=10:=by unfold bcS; rw [Bw,Lc]; omega
 obtain ⟨C,hC⟩:=nmE (Rt l a);obtain ⟨cs0,hc0⟩:=nmE (bcS l a);rw [<-hC] at cn hCm hCl ⊢;rw [<-hc0] at cc hbl ⊢;have hcp:=Tn C;have hlp:=Tn l;have eel:∀ x,(Pw (Hk a) l x).length<=l.length:=λx=>by unfold Pw; rw [List.length_map]; exact List.length_filter_le _ _
 refine Hl Tryz.func113 rfl ?_;refine go tt [.c [] cw,.c [] cr,.c [] cn,.c [] Qq0,.c [] cr2,.c [2] cc] rfl trivial ?_;by_cases h2:C.length<2
 ·have e:Md (Hk a) l C=[]:=if_pos h2;rw [e,Zo];exact ed tt [2] [0] [.t (decide_eq_true (by simp; omega))] rfl trivial
 have e:Md (Hk a) l C=(Gq C).flatMap (Pw (Hk a) l):=if_neg h2;rw [e];refine go tt [.f (decide_eq_false (by simp; omega))] rfl trivial ?_;refine sb [(48,.v (.one (.int .i64 0))),(47,.v (.one (.int .i64 ((C.map H5).length:Int)))),(46,.v (.one (pts C))),(6,.v (.one (.orow 2 7 none))),(3,.v (.one (.ow 1 0))),(0,.v (.one (.ow 0 0)))] [.blk 124 (C7 c (Fh l) (Fh C)),.blk 74 (ta a),.row false 90 7 (Gm cs0)] rfl rfl ?_;rw [show Gm cs0=Gm (cs0++((Gq C).take 0).flatMap (Pw (Hk a) l)) by simp];refine lp (S:=Nat) 3 (λL1 i=>(48,.v (.one (.int .i64 (i:Int))))::(6,.v (.one (.orow 2 7 none)))::L1) (λi=>[.blk 124 (C7 c (Fh l) (Fh C)),.blk 74 (ta a),.row false 90 7 (Gm (cs0++((Gq C).take i).flatMap (Pw (Hk a) l)))]) (λi=>C.length-i) (λi=>i<=C.length) 0 (Qi _) rfl (λ_ _=>rfl) rfl λi hi=>?_
 by_cases hlt:i<C.length
 ·obtain ⟨x,hx⟩:=gxE (l:=C) (i:=i) hlt;obtain ⟨y,hy⟩:=gxE (l:=C) (i:=(i+1) % C.length) (Xf _ (by omega));have he:=Qbl hx hy;have sx:=hl x (hCm x (Qa hx));have sy:=hl y (hCm y (Qa hy));have hflat:=Ai (f:=Pw (Hk a) l) he;obtain ⟨F,hF⟩:=nmE (cs0++((Gq C).take i).flatMap (Pw (Hk a) l));have hFl:F.length<=10+20*10:=by
   have h1:=A3 eel ((Gq C).take i);have h2:((Gq C).take i).length*l.length<=20*10:=Zh (by rw [Qr]; omega) hn;rw [hF,Q4]; omega
  have hmod:(((i+1:Nat):Int)).tmod ((C.map H5).length:Int)=(((i+1) % C.length:Nat):Int):=by rw [Q8]; exact (Int.ofNat_tmod _ _).symm
  have hm0:=Yp ((i+1:Nat):Int) (show (C.length:Int)≠0 by omega);have hm1:=J3 ((i+1:Nat):Int) (show (0:Int)<C.length by omega);have hnext:cs0++((Gq C).take (i+1)).flatMap (Pw (Hk a) l)=F++(l.filter (Pj (x,y))).map λc=>Mv (Hk a) x y c:=by rw [hflat,<-Zm,<-hF]; rfl
  rw [<-hF];refine go tt [.t (decide_eq_true (by simp; omega)),.x (Rp hx),.r 58 (eI (b:=((i+1:Nat):Int)) (by simp)),.r 64 (eI (b:=(((i+1) % C.length:Nat):Int)) hmod),.x (Rp hy),.c [] Qq0] rfl (by simp only [U9]; omega) ?_;rw [show Gm F=Gm (F++((l.take 0).filter (Pj (x,y))).map λc=>Mv (Hk a) x y c) by simp];refine lp (S:=Nat) 5 (λL1 k=>(73,.v (.one (.int .i64 (k:Int))))::(6,.v (.one (.orow 2 7 none)))::L1) (λk=>[.blk 124 (C7 c (Fh l) (Fh C)),.blk 74 (ta a),.row false 90 7 (Gm (F++((l.take k).filter (Pj (x,y))).map λc=>Mv (Hk a) x y c)),.blk 135 (H5 x),.blk 135 (H5 y)]) (λk=>l.length-k) (λk=>k<=l.length) 0 (Qi _) rfl (λ_ _=>rfl) rfl λk hk=>?_
  by_cases hlk:k<l.length
  ·obtain ⟨z,hz⟩:=gxE (l:=l) (i:=k) hlk;have sz:=hl z (Qa hz);have hflt:=Du (f:=λc=>Mv (Hk a) x y c) (p:=Pj (x,y)) hz;obtain ⟨G,hG⟩:=nmE (((l.take k).filter (Pj (x,y))).map λc=>Mv (Hk a) x y c);have hGl:G.length<=10:=by
    have h1:=Ke (Pj (x,y)) (l.take k);rw [Qr] at h1;rw [hG,Q8]; omega
   rw [<-hG] at hflt ⊢;by_cases h1:z.id=x.id
   ·rw [if_neg (show ¬Pj (x,y) z=true by simp [Pj,h1]),Zo] at hflt;refine go tt [.t (decide_eq_true (by simp; omega)),.x (Rp hz),.g 82 false (decide_eq_false (by simp [h1])),.f rfl] rfl (by simp [U9]; omega) ?_;exact rd (k+1) (by omega) hlk (by rw [hflt]; rfl)
   ·by_cases h2:z.id=y.id
    ·rw [if_neg (show ¬Pj (x,y) z=true by simp [Pj,h2]),Zo] at hflt;refine go tt [.t (decide_eq_true (by simp; omega)),.x (Rp hz),.g 82 true (decide_eq_true h1),.f (decide_eq_false (by simp [h2]))] rfl (by simp [U9]; omega) ?_;exact rd (k+1) (by omega) hlk (by rw [hflt]; rfl)
    ·rw [if_pos (show Pj (x,y) z=true by simp [Pj,h1,h2])] at hflt;have hm:∀ q∈[Qdd (Mv (Hk a) x y z)],q.length=7:=λq hq=>by rw [Qk.1 hq]; rfl
     refine go tt [.t (decide_eq_true (by simp; omega)),.x (Rp hz),.g 82 true (decide_eq_true h1),.t (decide_eq_true h2),.c [] (Q11 sx sy sz ha),.s (sz:=7) hm] rfl (by simp [U9,Dh]; omega) ?_;have e3:Gm (F++(G++[Mv (Hk a) x y z]))=Gm (F++G)++[Qdd (Mv (Hk a) x y z)]:=by simp [Gm]
     exact rd (k+1) (by omega) hlk (by rw [hflt,e3]; rfl)
  ·obtain rfl:k=l.length:=by omega
   rw [Qy,<-hnext];refine go tt [.f (decide_eq_false (by simp))] rfl (by simp [U9]; omega) ?_;exact rd (i+1) (by omega) hlt rfl
 ·obtain rfl:i=C.length:=by omega
  rw [Qo (by rw [A1]; exact Ql _)];exact ed tt [2] [0] [.f (decide_eq_false (by simp))] rfl trivial
set_option maxHeartbeats 4000000 in
theorem Q5i {l:List Pt} {a:Tm} (hl:∀ p∈l,Sc p.c) (hn:l.length≤10) (ha:Va a):Rh Tryz.prog 113 [.one (.ow 0 0),.agg (ta a)] [.blk 124 (crz (.row (Fh l)) .nils)] [.one (.row (Gm (bcH l a)))] [.blk 124 (crz (.row (Fh l)) (.row (brH l a)))]:=by
 have hwl:=Qnn l;have cw:=Q89 (l:=l) (Q47 hl) (by omega);have cr:=Q16 (l:=Nb l) (λp hp=>hl p (Nv hp)) (by omega) ha;have cn:=Q2l (R:=Pp a (Nb l)) (λp hp=>hl p (Nv (Rj.1 hp))) (by rw [Lc]; omega) ha;have cr2:=Q16 hl (by omega) ha;have cc:=Qif (l:=Pp a l) (t:=a) (λp hp=>hl p (Rj.1 hp)) (by rw [Lc]; omega) ha;have hCm:∀ p∈Rt l a,p∈l:=λp hp=>Bs hp
 have hCl:=Ix l a;have e0:bcH l a=bcS l a++Md (Hk a) l (Rt l a):=rfl;rw [e0];show Rh Tryz.prog 113 _ _ _ [.blk 124 (crz (.row (Fh l)) (.row (Fh (Rt l a))))];have cn:Fa Tryz.prog 188 [.agg (ta a),.one (pts (Pp a (Nb l)))] [.one (pts (Rt l a))]:=cn;have cc:Rh Tryz.prog 182 [.agg (ta a),.one (pts (Pp a l))] [] [.one (.orow 0 7 none)] [.row false 90 7 (Gm (bcS l a))]:=cc;have hbl:(bcS l a).length<=10:=by unfold bcS; rw [Bw,Lc]; omega
 obtain ⟨C,hC⟩:=nmE (Rt l a);obtain ⟨cs0,hc0⟩:=nmE (bcS l a);rw [<-hC] at cn hCm hCl ⊢;rw [<-hc0] at cc hbl ⊢;have hcp:=Tn C;have hlp:=Tn l;have eel:∀ x,(Pw (Hk a) l x).length<=l.length:=λx=>by unfold Pw; rw [List.length_map]; exact List.length_filter_le _ _
 refine Hl Tryz.func113 rfl ?_;refine go tt [.c [] cw,.c [] cr,.c [] cn,.c [] Qq0,.c [] cr2,.c [2] cc] rfl trivial ?_;by_cases h2:C.length<2
 ·have e:Md (Hk a) l C=[]:=if_pos h2;rw [e,Zo];exact ed tt [2] [0] [.t (decide_eq_true (by simp; omega))] rfl trivial
 have e:Md (Hk a) l C=(Gq C).flatMap (Pw (Hk a) l):=if_neg h2;rw [e];refine go tt [.f (decide_eq_false (by simp; omega))] rfl trivial ?_;refine sb [(48,.v (.one (.int .i64 0))),(47,.v (.one (.int .i64 ((C.map H5).length:Int)))),(46,.v (.one (pts C))),(6,.v (.one (.orow 2 7 none))),(3,.v (.one (.ow 1 0))),(0,.v (.one (.ow 0 0)))] [.blk 124 (crz (.row (Fh l)) (.row (Fh C))),.blk 74 (ta a),.row false 90 7 (Gm cs0)] rfl rfl ?_;rw [show Gm cs0=Gm (cs0++((Gq C).take 0).flatMap (Pw (Hk a) l)) by simp];refine lp (S:=Nat) 3 (λL1 i=>(48,.v (.one (.int .i64 (i:Int))))::(6,.v (.one (.orow 2 7 none)))::L1) (λi=>[.blk 124 (crz (.row (Fh l)) (.row (Fh C))),.blk 74 (ta a),.row false 90 7 (Gm (cs0++((Gq C).take i).flatMap (Pw (Hk a) l)))]) (λi=>C.length-i) (λi=>i<=C.length) 0 (Qi _) rfl (λ_ _=>rfl) rfl λi hi=>?_
 by_cases hlt:i<C.length
 ·obtain ⟨x,hx⟩:=gxE (l:=C) (i:=i) hlt;obtain ⟨y,hy⟩:=gxE (l:=C) (i:=(i+1) % C.length) (Xf _ (by omega));have he:=Qbl hx hy;have sx:=hl x (hCm x (Qa hx));have sy:=hl y (hCm y (Qa hy));have hflat:=Ai (f:=Pw (Hk a) l) he;obtain ⟨F,hF⟩:=nmE (cs0++((Gq C).take i).flatMap (Pw (Hk a) l));have hFl:F.length<=10+20*10:=by
   have h1:=A3 eel ((Gq C).take i);have h2:((Gq C).take i).length*l.length<=20*10:=Zh (by rw [Qr]; omega) hn;rw [hF,Q4]; omega
  have hmod:(((i+1:Nat):Int)).tmod ((C.map H5).length:Int)=(((i+1) % C.length:Nat):Int):=by rw [Q8]; exact (Int.ofNat_tmod _ _).symm
  have hm0:=Yp ((i+1:Nat):Int) (show (C.length:Int)≠0 by omega);have hm1:=J3 ((i+1:Nat):Int) (show (0:Int)<C.length by omega);have hnext:cs0++((Gq C).take (i+1)).flatMap (Pw (Hk a) l)=F++(l.filter (Pj (x,y))).map λc=>Mv (Hk a) x y c:=by rw [hflat,<-Zm,<-hF]; rfl
  rw [<-hF];refine go tt [.t (decide_eq_true (by simp; omega)),.x (Rp hx),.r 58 (eI (b:=((i+1:Nat):Int)) (by simp)),.r 64 (eI (b:=(((i+1) % C.length:Nat):Int)) hmod),.x (Rp hy),.c [] Qq0] rfl (by simp only [U9]; omega) ?_;rw [show Gm F=Gm (F++((l.take 0).filter (Pj (x,y))).map λc=>Mv (Hk a) x y c) by simp];refine lp (S:=Nat) 5 (λL1 k=>(73,.v (.one (.int .i64 (k:Int))))::(6,.v (.one (.orow 2 7 none)))::L1) (λk=>[.blk 124 (crz (.row (Fh l)) (.row (Fh C))),.blk 74 (ta a),.row false 90 7 (Gm (F++((l.take k).filter (Pj (x,y))).map λc=>Mv (Hk a) x y c)),.blk 135 (H5 x),.blk 135 (H5 y)]) (λk=>l.length-k) (λk=>k<=l.length) 0 (Qi _) rfl (λ_ _=>rfl) rfl λk hk=>?_
  by_cases hlk:k<l.length
  ·obtain ⟨z,hz⟩:=gxE (l:=l) (i:=k) hlk;have sz:=hl z (Qa hz);have hflt:=Du (f:=λc=>Mv (Hk a) x y c) (p:=Pj (x,y)) hz;obtain ⟨G,hG⟩:=nmE (((l.take k).filter (Pj (x,y))).map λc=>Mv (Hk a) x y c);have hGl:G.length<=10:=by
    have h1:=Ke (Pj (x,y)) (l.take k);rw [Qr] at h1;rw [hG,Q8]; omega
   rw [<-hG] at hflt ⊢;by_cases h1:z.id=x.id
   ·rw [if_neg (show ¬Pj (x,y) z=true by simp [Pj,h1]),Zo] at hflt;refine go tt [.t (decide_eq_true (by simp; omega)),.x (Rp hz),.g 82 false (decide_eq_false (by simp [h1])),.f rfl] rfl (by simp [U9]; omega) ?_;exact rd (k+1) (by omega) hlk (by rw [hflt]; rfl)
   ·by_cases h2:z.id=y.id
    ·rw [if_neg (show ¬Pj (x,y) z=true by simp [Pj,h2]),Zo] at hflt;refine go tt [.t (decide_eq_true (by simp; omega)),.x (Rp hz),.g 82 true (decide_eq_true h1),.f (decide_eq_false (by simp [h2]))] rfl (by simp [U9]; omega) ?_;exact rd (k+1) (by omega) hlk (by rw [hflt]; rfl)
    ·rw [if_pos (show Pj (x,y) z=true by simp [Pj,h1,h2])] at hflt;have hm:∀ q∈[Qdd (Mv (Hk a) x y z)],q.length=7:=λq hq=>by rw [Qk.1 hq]; rfl
     refine go tt [.t (decide_eq_true (by simp; omega)),.x (Rp hz),.g 82 true (decide_eq_true h1),.t (decide_eq_true h2),.c [] (Q11 sx sy sz ha),.s (sz:=7) hm] rfl (by simp [U9,Dh]; omega) ?_;have e3:Gm (F++(G++[Mv (Hk a) x y z]))=Gm (F++G)++[Qdd (Mv (Hk a) x y z)]:=by simp [Gm]
     exact rd (k+1) (by omega) hlk (by rw [hflt,e3]; rfl)
  ·obtain rfl:k=l.length:=by omega
   rw [Qy,<-hnext];refine go tt [.f (decide_eq_false (by simp))] rfl (by simp [U9]; omega) ?_;exact rd (i+1) (by omega) hlt rfl
 ·obtain rfl:i=C.length:=by omega
  rw [Qo (by rw [A1]; exact Ql _)];exact ed tt [2] [0] [.f (decide_eq_false (by simp))] rfl trivial
def Qna (a b:Crv):Bool:=decide ((Qm8 (Im a.x a.d) (Im b.x b.d)).length=0) && decide ((Qm8 (Im a.y a.d) (Im b.y b.d)).length=0)
theorem Zgm {a b:Crv} (ha:Rs a) (hb:Rs b):Fa Tryz.prog 326 [.agg (rcl a),.agg (rcl b)] [.one (.bool (Qna a b))]:=by
 have lx1:=ha.c.lx;have ly1:=ha.c.ly;have lx2:=hb.c.lx;have ly2:=hb.c.ly;have cx:=Qyx (p:=Im a.x a.d) (q:=Im b.x b.d) (Qed (U8 ha.c.x (by decide)) (Qc ha.c.d (by decide)) (by decide)) (Qed (U8 hb.c.x (by decide)) (Qc hb.c.d (by decide)) (by decide)) (by rw [Ba]; omega) (by rw [Ba]; omega);have cy:=Qyx (p:=Im a.y a.d) (q:=Im b.y b.d) (Qed (U8 ha.c.y (by decide)) (Qc ha.c.d (by decide)) (by decide)) (Qed (U8 hb.c.y (by decide)) (Qc hb.c.d (by decide)) (by decide)) (by rw [Ba]; omega) (by rw [Ba]; omega);unfold Qna;generalize Qm8 (Im a.x a.d) (Im b.x b.d)=X at *;generalize Qm8 (Im a.y a.d) (Im b.y b.d)=Y at *;have hX:(frow X).length=X.length:=by simp [frow]
 have hY:(frow Y).length=Y.length:=by simp [frow]
 by_cases h:X.length=0
 ·by_cases h':Y.length=0
  ·rw [decide_eq_true h,decide_eq_true h'];exact w tt Tryz.func326 rfl [.c [] cx,.g 12 true (decide_eq_true (by omega)),.c [] cy,.g 19 true (decide_eq_true (by omega))] rfl rfl trivial
  ·rw [decide_eq_true h,decide_eq_false h'];exact w tt Tryz.func326 rfl [.c [] cx,.g 12 true (decide_eq_true (by omega)),.c [] cy,.g 19 false (decide_eq_false (by omega))] rfl rfl trivial
 ·rw [decide_eq_false h];exact w tt Tryz.func326 rfl [.c [] cx,.g 12 false (decide_eq_false (by omega))] rfl rfl trivial
def Qji (out:List Pt) (p:Pt):List Pt:=if (out.any λo=>Qna o.c p.c)=true then out else out++[p]
def A8 (l:List Pt):List Pt:=(Gy Al l).foldl Qji []
theorem Qgd:∀ (M O:List Pt),(∀ p∈M.foldl Qji O,p∈O\/p∈M)/\(M.foldl Qji O).length≤O.length+M.length
 | [],O=>⟨λp hp=>.inl hp,by simp⟩
 |
  x::M,O=>by
  obtain ⟨h1,h2⟩:=Qgd M (Qji O x);have e1:(Qji O x).length<=O.length+1:=by unfold Qji; split <;> simp
  refine ⟨λp hp=>?_,by rw [Xg,Q7]; omega⟩;rcases h1 p hp with h | h
  ·unfold Qji at h
   split at h
   ·exact .inl h
   ·rcases Qu.1 h with h | h
    ·exact .inl h
    ·exact .inr (by rw [Qk.1 h]; simp)
  ·exact .inr (Qj _ h)
theorem Qh7 {l:List Pt} {p:Pt} (h:p∈A8 l):p∈l:=by
 rcases (Qgd (Gy Al l) []).1 p h with h | h
 ·cases h
 ·exact Ma.1 h
theorem Qqr (l:List Pt):(A8 l).length<=l.length:=by
 have:=(Qgd (Gy Al l) []).2;rw [Te,Vu,Zx] at this;exact this
theorem Zej {α:Type} {f:α->Bool} {l:List α} {i:Nat} {x:α} (h:l[i]? = some x):(l.take (i+1)).any f=((l.take i).any f || f x):=by
 rw [Zq,h,List.any_append]; simp
theorem Zgo {l:List Pt} (hl:∀ p∈l,Rs p.c) (hn:l.length≤1000):Fa Tryz.prog 297 [.one (.row (Fy l))] [.one (.row (Fy (A8 l)))]:=by
 have c1:=Q2j (l:=l) (by omega);have hML:(Gy Al l).length=l.length:=Te _ _;have hMl:∀ p∈Gy Al l,Rs p.c:=λp hp=>hl p (Ma.1 hp)
 unfold A8;obtain ⟨M,hM⟩:=nmE (Gy Al l);rw [<-hM] at c1 hML hMl ⊢;have hcl:=Rf M;refine Hl Tryz.func297 rfl ?_;refine go tt [.o 3 57 7,.c [] c1] rfl trivial ?_;refine lp (S:=Nat) 1 (λL1 i=>(11,.v (.one (.int .i64 (i:Int))))::(3,.v (.one (.orow 0 7 none)))::L1) (λi=>[.row false 57 7 (Fy ((M.take i).foldl Qji []))]) (λi=>M.length-i) (λi=>i<=M.length) 0 (Qi _) rfl (λ_ _=>rfl) rfl λi hi=>?_
 by_cases hlt:i<M.length
 ·obtain ⟨p,hp⟩:=gxE (l:=M) (i:=i) hlt;have hpr:=hMl p (Qa hp);have hst:=Ru Qji [] M hp;have hsub:=Qgd (M.take i) [];obtain ⟨O,hO⟩:=nmE ((M.take i).foldl Qji []);rw [<-hO] at hst hsub ⊢;have hOl:O.length<=1000:=by have:=hsub.2; rw [Vu,Qr] at this; omega
  have hOm:∀ o∈O,Rs o.c:=λo ho=>by
   rcases hsub.1 o ho with h | h
   ·cases h
   ·exact hMl o (Qn h)
  have hrl:=Rf O;refine go tt [.t (decide_eq_true (by omega))] rfl trivial ?_;refine lp (S:=Nat) 1 (λL1 k=>(16,.v (.one (.int .i64 (k:Int))))::(5,.v (.one (.bool ((O.take k).any λo=>Qna o.c p.c))))::L1) (λ_=>[.row false 57 7 (Fy O)]) (λk=>O.length-k) (λk=>k<=O.length) 0 (Qi _) rfl (λ_ _=>rfl) rfl λk hk=>?_
  by_cases hkl:k<O.length
  ·obtain ⟨o,ho⟩:=gxE (l:=O) (i:=k) hkl;have ha:=Zej (f:=λo=>Qna o.c p.c) ho;cases hb:(O.take k).any λo=>Qna o.c p.c with
   |
    true =>
    rw [hb,Uq] at ha;refine go tt [.t (decide_eq_true (by omega)),.g 20 true rfl] rfl (by simp [U9] <;> omega) ?_;exact rd (k+1) (by omega) hkl (by rw [ha]; rfl)
   |
    false =>
    rw [hb,Ks] at ha;refine go tt [.t (decide_eq_true (by omega)),.g 20 false rfl,.i k,.x (Ga ho),.x (Ga hp),.c [] (Zgm (hOm o (Qa ho)) hpr)] rfl (by simp [U9] <;> omega) ?_;exact rd (k+1) (by omega) hkl (by rw [ha]; rfl)
  ·obtain rfl:k=O.length:=by omega
   rw [Qy];have h7z:∀ y∈[Lt p],y.length=7:=λy hy=>by rw [Qk.1 hy]; rfl
   cases hb:O.any λo=>Qna o.c p.c with
   |
    true =>
    have e:Qji O p=O:=if_pos hb;refine go tt [.f (decide_eq_false (by omega)),.f rfl] rfl (by simp [U9] <;> omega) ?_;exact rd (i+1) (by omega) hlt (by rw [hst,e]; rfl)
   |
    false =>
    have e:Qji O p=O++[p]:=if_neg (by rw [hb]; decide);refine go tt [.f (decide_eq_false (by omega)),.t rfl,.x (Ga hp),.s (sz:=7) h7z] rfl (by simp [U9] <;> omega) ?_;exact rd (i+1) (by omega) hlt (by rw [hst,e]; simp [Fy]; rfl)
 ·obtain rfl:i=M.length:=by omega
  rw [Qy];exact en tt [.f (decide_eq_false (by omega))] rfl rfl trivial
def Zll (q:Rat) (a b c:Pt):Bool:=(Dq q a c && Dq q c b) || (Dq q b c && Dq q c a)
def Lr (q:Rat) (a b c:Pt):Bool:=decide (c.id=a.id) || (decide (c.id=b.id) || !(decide (Ms (M9 a.c b.c c.c) q<0) || (decide (Ms (M9 a.c b.c c.c) q=0) && !Zll q a b c)))
def Qez (q:Rat) (a b:Pt) (l:List Pt):Bool:=l.all (Lr q a b)
theorem Qrc {a b:Pt} {l:List Pt} {q:Rat} {cs:List (List Int)} (ha:Rs a.c) (hb:Rs b.c) (hl:∀ p∈l,Rs p.c) (hn:l.length≤1000) (hq:Qs 1000000 q):Fa Tryz.prog 324 [.agg (Lt a),.agg (Lt b),.one (.row (Fy l)),.agg (aq q cs)] [.one (.bool (Qez q a b l))]:=by
 have hcl:=Rf l;refine Hl Tryz.func324 rfl ?_;refine go tt [] rfl trivial ?_;refine lp (S:=Nat) 3 (λL1 i=>(14,.v (.one (.int .i64 (i:Int))))::L1) (λ_=>[.blk 57 (Lt a),.blk 57 (Lt b),.blk 37 (aq q cs)]) (λi=>l.length-i) (λi=>i<=l.length/\Qez q a b l=Qez q a b (l.drop i)) 0 ⟨Qi _,rfl⟩ rfl (λ_ _=>rfl) rfl λi ⟨hi,he⟩=>?_
 by_cases hlt:i<l.length
 ·obtain ⟨c,hc⟩:=gxE (l:=l) (i:=i) hlt;have hcr:=hl c (Qa hc);have hdr:Qez q a b (l.drop i)=(Lr q a b c && Qez q a b (l.drop (i+1))):=by
   obtain ⟨h1,h2⟩:=Qf.1 hc;rw [Zl h1,h2]; rfl
  have co:=Qoe ha hb hcr;have hsz:=Qmo ha hb hcr;have cA:=Ev (c:=cs) (U8 hsz.1 (by decide)) (Qc hsz.2 (by decide)) hq;have b1:=Iw (c:=cs) ha hcr hq;have b2:=Iw (c:=cs) hcr hb hq;have b3:=Iw (c:=cs) hb hcr hq;have b4:=Iw (c:=cs) hcr ha hq;by_cases h1:c.id=a.id
  ·have e:Lr q a b c=true:=by simp [Lr,h1]
   rw [e,Vq] at hdr;refine go tt [.t (decide_eq_true (by omega)),.x (Ga hc),.g 26 true (decide_eq_true h1),.t rfl] rfl (by simp [U9] <;> omega) ?_;exact rd (i+1) (by omega) ⟨hlt,by rw [he,hdr]⟩ rfl
  by_cases h2:c.id=b.id
  ·have e:Lr q a b c=true:=by simp [Lr,h2]
   rw [e,Vq] at hdr;refine go tt [.t (decide_eq_true (by omega)),.x (Ga hc),.g 26 false (decide_eq_false h1),.t (decide_eq_true h2)] rfl (by simp [U9] <;> omega) ?_;exact rd (i+1) (by omega) ⟨hlt,by rw [he,hdr]⟩ rfl
  have e0:Lr q a b c = !(decide (Ms (M9 a.c b.c c.c) q<0) || (decide (Ms (M9 a.c b.c c.c) q=0) && !Zll q a b c)):=by unfold Lr; rw [decide_eq_false h1,decide_eq_false h2,Bool.false_or,Bool.false_or]
  generalize Ms (M9 a.c b.c c.c) q=s at *;by_cases hs:s<0
  ·rw [decide_eq_true hs,Uq] at e0;rw [e0] at hdr;rw [he,hdr];exact en tt [.t (decide_eq_true (by omega)),.x (Ga hc),.g 26 false (decide_eq_false h1),.f (decide_eq_false h2),.c [] co,.c [] cA,.g 44 true (decide_eq_true hs),.t rfl] rfl rfl trivial
  rw [decide_eq_false hs,Ks] at e0;by_cases hz:s=0
  ·rw [decide_eq_true hz,Vq,Bool.not_not] at e0;unfold Zll at e0;cases k1:Dq q a c with
   |
    true =>
    rw [k1] at b1 e0;cases k2:Dq q c b with
    |
     true =>
     rw [k2] at b2 e0;have e0:Lr q a b c=true:=e0;rw [e0,Vq] at hdr;refine go tt [.t (decide_eq_true (by omega)),.x (Ga hc),.g 26 false (decide_eq_false h1),.f (decide_eq_false h2),.c [] co,.c [] cA,.g 44 false (decide_eq_false hs),.g 47 true (decide_eq_true hz),.c [] b1,.g 52 true rfl,.c [] b2,.g 58 true rfl,.f rfl] rfl (by simp [U9] <;> omega) ?_;exact rd (i+1) (by omega) ⟨hlt,by rw [he,hdr]⟩ rfl
    |
     false =>
     rw [k2,Bool.and_false,Ks] at e0;rw [k2] at b2;cases k3:Dq q b c with
     |
      true =>
      rw [k3] at b3 e0;cases k4:Dq q c a with
      |
       true =>
       rw [k4] at b4 e0;have e0:Lr q a b c=true:=e0;rw [e0,Vq] at hdr;refine go tt [.t (decide_eq_true (by omega)),.x (Ga hc),.g 26 false (decide_eq_false h1),.f (decide_eq_false h2),.c [] co,.c [] cA,.g 44 false (decide_eq_false hs),.g 47 true (decide_eq_true hz),.c [] b1,.g 52 true rfl,.c [] b2,.g 58 false rfl,.c [] b3,.g 63 true rfl,.c [] b4,.f rfl] rfl (by simp [U9] <;> omega) ?_;exact rd (i+1) (by omega) ⟨hlt,by rw [he,hdr]⟩ rfl
      |
       false =>
       rw [k4] at b4 e0;have e0:Lr q a b c=false:=e0;rw [e0,V9] at hdr;rw [he,hdr];exact en tt [.t (decide_eq_true (by omega)),.x (Ga hc),.g 26 false (decide_eq_false h1),.f (decide_eq_false h2),.c [] co,.c [] cA,.g 44 false (decide_eq_false hs),.g 47 true (decide_eq_true hz),.c [] b1,.g 52 true rfl,.c [] b2,.g 58 false rfl,.c [] b3,.g 63 true rfl,.c [] b4,.t rfl] rfl rfl trivial
     |
      false =>
      rw [k3] at b3 e0;have e0:Lr q a b c=false:=e0;rw [e0,V9] at hdr;rw [he,hdr];exact en tt [.t (decide_eq_true (by omega)),.x (Ga hc),.g 26 false (decide_eq_false h1),.f (decide_eq_false h2),.c [] co,.c [] cA,.g 44 false (decide_eq_false hs),.g 47 true (decide_eq_true hz),.c [] b1,.g 52 true rfl,.c [] b2,.g 58 false rfl,.c [] b3,.g 63 false rfl,.t rfl] rfl rfl trivial
   |
    false =>
    rw [k1,V9,Ks] at e0;rw [k1] at b1;cases k3:Dq q b c with
    |
     true =>
     rw [k3] at b3 e0;cases k4:Dq q c a with
     |
      true =>
      rw [k4] at b4 e0;have e0:Lr q a b c=true:=e0;rw [e0,Vq] at hdr;refine go tt [.t (decide_eq_true (by omega)),.x (Ga hc),.g 26 false (decide_eq_false h1),.f (decide_eq_false h2),.c [] co,.c [] cA,.g 44 false (decide_eq_false hs),.g 47 true (decide_eq_true hz),.c [] b1,.g 52 false rfl,.g 58 false rfl,.c [] b3,.g 63 true rfl,.c [] b4,.f rfl] rfl (by simp [U9] <;> omega) ?_;exact rd (i+1) (by omega) ⟨hlt,by rw [he,hdr]⟩ rfl
     |
      false =>
      rw [k4] at b4 e0;have e0:Lr q a b c=false:=e0;rw [e0,V9] at hdr;rw [he,hdr];exact en tt [.t (decide_eq_true (by omega)),.x (Ga hc),.g 26 false (decide_eq_false h1),.f (decide_eq_false h2),.c [] co,.c [] cA,.g 44 false (decide_eq_false hs),.g 47 true (decide_eq_true hz),.c [] b1,.g 52 false rfl,.g 58 false rfl,.c [] b3,.g 63 true rfl,.c [] b4,.t rfl] rfl rfl trivial
    |
     false =>
     rw [k3] at b3 e0;have e0:Lr q a b c=false:=e0;rw [e0,V9] at hdr;rw [he,hdr];exact en tt [.t (decide_eq_true (by omega)),.x (Ga hc),.g 26 false (decide_eq_false h1),.f (decide_eq_false h2),.c [] co,.c [] cA,.g 44 false (decide_eq_false hs),.g 47 true (decide_eq_true hz),.c [] b1,.g 52 false rfl,.g 58 false rfl,.c [] b3,.g 63 false rfl,.t rfl] rfl rfl trivial
  ·rw [decide_eq_false hz,V9] at e0;have e0:Lr q a b c=true:=e0;rw [e0,Vq] at hdr;refine go tt [.t (decide_eq_true (by omega)),.x (Ga hc),.g 26 false (decide_eq_false h1),.f (decide_eq_false h2),.c [] co,.c [] cA,.g 44 false (decide_eq_false hs),.g 47 false (decide_eq_false hz),.f rfl] rfl (by simp [U9] <;> omega) ?_;exact rd (i+1) (by omega) ⟨hlt,by rw [he,hdr]⟩ rfl
 ·obtain rfl:i=l.length:=by omega
  rw [he,Y0];exact en tt [.f (decide_eq_false (by omega))] rfl rfl trivial
def Qiv (q:Rat) (W:List Pt) (a:Pt):Option Pt:=W.find? λp=>decide (p.id≠a.id) && Qez q a p W
def Lq (q:Rat) (W:List Pt) (s0:Pt):Nat->Pt->List Pt->List Pt
 | 0,_,O=>O
 |
  k+1,a,O=>match Qiv q W a with
  | none=>O
  | some b=>if b.id=s0.id then O else Lq q W s0 k b (O++[b])
def Qev (q:Rat) (l:List Pt):List Pt:=if (A8 l).length<2 then A8 l else
 match Gy (Dq q) (A8 l) with
 | []=>[]
 | s::_=>Lq q (A8 l) s (A8 l).length s [s]
theorem Qpo {q:Rat} {W:List Pt} {a b:Pt} (h:Qiv q W a=some b):b∈W/\b.id≠a.id:=by
 have h1:=List.find?_some h;simp only [Zn,decide_eq_true_eq] at h1;exact ⟨List.mem_of_find?_eq_some h,h1.1⟩
theorem Qus {q:Rat} {W:List Pt} {s0:Pt}:∀ (k:Nat) (a:Pt) (O:List Pt),(∀ p∈O,p∈W)->(∀ p∈Lq q W s0 k a O,p∈W)/\(Lq q W s0 k a O).length≤O.length+k
 | 0,_,O,h=>⟨h,Ql _⟩
 |
  k+1,a,O,h=>by
  unfold Lq;cases hb:Qiv q W a with
  | none=>exact ⟨h,Vl _ _⟩
  |
   some b =>
   have hm:=(Qpo hb).1;dsimp only
   split
   ·exact ⟨h,Vl _ _⟩
   ·obtain ⟨h1,h2⟩:=Qus (q:=q) (s0:=s0) k b (O++[b]) (λp hp=>(Qu.1 hp).elim (h p) λhp=>by rw [Qk.1 hp]; exact hm);rw [Q4,Y8] at h2;exact ⟨h1,by omega⟩
theorem Qut (q:Rat) (l:List Pt):(∀ p∈Qev q l,p∈l)/\(Qev q l).length≤l.length+1:=by
 have hw:=Qqr l;unfold Qev
 split
 ·exact ⟨λp hp=>Qh7 hp,by omega⟩
 ·split
  ·exact ⟨λp hp=>(by cases hp),Qi _⟩
  ·rename_i s S hS;have hs:s∈A8 l:=Ma.1 (show s∈Gy (Dq q) (A8 l) by rw [hS]; simp);obtain ⟨h1,h2⟩:=Qus (q:=q) (s0:=s) (A8 l).length s [s] (λp hp=>by rw [Qk.1 hp]; exact hs);exact ⟨λp hp=>Qh7 (h1 p hp),by rw [Y8] at h2; omega⟩
theorem Zb8 {q:Rat} {W:List Pt} {a b:Pt} (h:Qiv q W a=some b):∃ j:Nat,W[j]? = some b/\b.id≠a.id/\Qez q a b W=true/\∀ (i:Nat) (p:Pt),i<j->W[i]? = some p->p.id=a.id\/Qez q a p W=false:=by
 unfold Qiv at h;obtain ⟨h1,u,v,hW,h3⟩:=List.find?_eq_some_iff_append.1 h;simp only [Zn,decide_eq_true_eq] at h1;refine ⟨u.length,by rw [hW,Xa (Ql _),Jw]; rfl,h1.1,h1.2,λi p hi hp=>?_⟩;have hp':u[i]? = some p:=by rw [<-hp,hW,Zi hi]
 have:=h3 p (Qa hp');simp only [Bool.not_eq_true',Bool.and_eq_false_iff,decide_eq_false_iff_not,Decidable.not_not] at this;exact this
theorem Zb9 {q:Rat} {W:List Pt} {a:Pt} (h:Qiv q W a=none):∀ p∈W,p.id=a.id\/Qez q a p W=false:=λp hp=>by
 have:=List.find?_eq_none.1 h p hp;simp only [Bool.not_eq_true,Bool.and_eq_false_iff,decide_eq_false_iff_not,Decidable.not_not] at this;exact this
set_option maxHeartbeats 4000000 in
theorem Qyy {l:List Pt} {q:Rat} {cs:List (List Int)} (hl:∀ p∈l,Rs p.c) (hn:l.length≤1000) (hq:Qs 1000000 q):Fa Tryz.prog 295 [.one (.row (Fy l)),.agg (aq q cs)] [.one (.row (Fy (Qev q l)))]:=by
 have c1:=Zgo hl hn;have hWl:∀ p∈A8 l,Rs p.c:=λp hp=>hl p (Qh7 hp)
 have hWn:=Qqr l;unfold Qev;obtain ⟨W,hW⟩:=nmE (A8 l);rw [<-hW] at c1 hWl hWn ⊢;have hcl:=Rf W;by_cases h2:W.length<2
 ·rw [if_pos h2];exact w tt Tryz.func295 rfl [.c [] c1,.t (decide_eq_true (by omega))] rfl rfl trivial
 rw [if_neg h2];have c2:=Qof (l:=W) (cs:=cs) hWl (by omega) hq;obtain ⟨s,S,hS⟩:∃ s S,Gy (Dq q) W=s::S:=by
  have:(Gy (Dq q) W).length=W.length:=Te _ _;cases hs:Gy (Dq q) W with
  | nil=>rw [hs] at this; simp at this; omega
  | cons s S=>exact ⟨s,S,rfl⟩
 have hsW:s∈W:=Ma.1 (show s∈Gy (Dq q) W by rw [hS]; simp);rw [hS] at c2 ⊢;show Fa Tryz.prog 295 _ [.one (.row (Fy (Lq q W s W.length s [s])))];have hx0:(Fy (s::S))[0]? = some (Lt s):=rfl;refine Hl Tryz.func295 rfl ?_;refine go tt [.c [] c1,.f (decide_eq_false (by omega)),.c [] c2,.x hx0,.lo] rfl trivial ?_;refine sb [(7,.v (.one (.orow 1 7 none))),(6,.v (.one (.row (Fy (s::S))))),(5,.v (.one (.row (Fy W)))),(3,.v (.one (.ow 0 0)))] [.blk 37 (aq q cs),.row false 57 7 (Fy [s])] rfl rfl ?_;refine lp (S:=List Pt) 2 (λL1 _=>(7,.v (.one (.orow 1 7 none)))::L1) (λO=>[.blk 37 (aq q cs),.row false 57 7 (Fy O)]) (λO=>W.length+1-O.length) (λO=>O.length<=W.length+1/\∃ a,a∈W/\O[O.length-1]? = some a/\Lq q W s (W.length+1-O.length) a O=Lq q W s W.length s [s]) [s] ⟨by show 1<=_; omega,s,hsW,rfl,rfl⟩ rfl (λ_ _=>rfl) rfl λO ⟨hO,a,haW,hla,he⟩=>?_
 have har:=hWl a haW;have hrl:=Rf O;have hO1:0<O.length:=by
  have:=(Qf.1 hla).1; omega
 by_cases hlt:O.length<=W.length
 ·obtain ⟨k,hk⟩:∃ k,W.length+1-O.length=k+1:=⟨W.length-O.length,by omega⟩;rw [hk] at he;refine go tt [.t (decide_eq_true (by omega)),.r 31 (eI (b:=((O.length-1:Nat):Int)) (by omega)),.i (O.length-1),.x (Ga hla)] rfl (by simp [U9] <;> omega) ?_;cases hb:Qiv q W a with
  |
   none =>
   have hno:=Zb9 hb;have ef:Lq q W s W.length s [s]=O:=by rw [<-he]; unfold Lq; rw [hb]
   rw [ef];refine lp (S:=Nat) 3 (λL1 i=>(36,.v (.one (.int .i64 (i:Int))))::L1) (λ_=>[.blk 37 (aq q cs),.row false 57 7 (Fy O),.blk 57 (Lt a)]) (λi=>W.length-i) (λi=>i<=W.length) 0 (Qi _) rfl (λ_ _=>rfl) rfl λi hi=>?_
   by_cases hil:i<W.length
   ·obtain ⟨p,hp⟩:=gxE (l:=W) (i:=i) hil;have hpm:=Qa hp;by_cases h1:p.id=a.id
    ·refine go tt [.t (decide_eq_true (by omega)),.x (Ga hp),.g 47 false (decide_eq_false (by simpa using h1)),.f rfl] rfl (by simp [U9] <;> omega) ?_;exact rd (i+1) (by omega) hil rfl
    ·have ce:=Qrc (cs:=cs) har (hWl p hpm) hWl (by omega) hq;rw [(hno p hpm).resolve_left h1] at ce;refine go tt [.t (decide_eq_true (by omega)),.x (Ga hp),.g 47 true (decide_eq_true h1),.x (Ga hp),.c [] ce,.f rfl] rfl (by simp [U9] <;> omega) ?_;exact rd (i+1) (by omega) hil rfl
   ·by_cases h3:a.id=s.id
    ·exact en tt [.f (decide_eq_false (by omega)),.x hx0,.g 69 true (decide_eq_true h3),.t rfl] rfl rfl (by simp [U9] <;> omega)
    ·exact en tt [.f (decide_eq_false (by omega)),.x hx0,.g 69 false (decide_eq_false h3),.r 75 (eI (b:=((O.length-1:Nat):Int)) (by omega)),.i (O.length-1),.x (Ga hla),.t (decide_eq_true rfl)] rfl rfl (by simp [U9] <;> omega)
  |
   some b =>
   obtain ⟨j,hj,hba,heb,hjb⟩:=Zb8 hb;have hbW:=(Qpo hb).1;have hjl:=(Qf.1 hj).1;have hbr:=hWl b hbW;have h7z:∀ y∈[Lt b],y.length=7:=λy hy=>by rw [Qk.1 hy]; rfl
   have cb:=Qrc (cs:=cs) har hbr hWl (by omega) hq;rw [heb] at cb;refine lp (S:=Nat) 3 (λL1 i=>(36,.v (.one (.int .i64 (i:Int))))::L1) (λ_=>[.blk 37 (aq q cs),.row false 57 7 (Fy O),.blk 57 (Lt a)]) (λi=>j-i) (λi=>i<=j) 0 (Qi _) rfl (λ_ _=>rfl) rfl λi hi=>?_
   by_cases hij:i<j
   ·obtain ⟨p,hp⟩:=gxE (l:=W) (i:=i) (by omega);have hpm:=Qa hp;by_cases h1:p.id=a.id
    ·refine go tt [.t (decide_eq_true (by omega)),.x (Ga hp),.g 47 false (decide_eq_false (by simpa using h1)),.f rfl] rfl (by simp [U9] <;> omega) ?_;exact rd (i+1) (by omega) hij rfl
    ·have ce:=Qrc (cs:=cs) har (hWl p hpm) hWl (by omega) hq;rw [(hjb i p hij hp).resolve_left h1] at ce;refine go tt [.t (decide_eq_true (by omega)),.x (Ga hp),.g 47 true (decide_eq_true h1),.x (Ga hp),.c [] ce,.f rfl] rfl (by simp [U9] <;> omega) ?_;exact rd (i+1) (by omega) hij rfl
   ·obtain rfl:i=j:=by omega
    by_cases h3:b.id=s.id
    ·have ef:Lq q W s W.length s [s]=O:=by rw [<-he]; unfold Lq; rw [hb]; exact if_pos h3
     rw [ef];exact en tt [.t (decide_eq_true (by omega)),.x (Ga hj),.g 47 true (decide_eq_true hba),.x (Ga hj),.c [] cb,.t rfl,.x (Ga hj),.x hx0,.g 69 true (decide_eq_true h3),.t rfl] rfl rfl (by simp [U9] <;> omega)
    ·have ef:Lq q W s k b (O++[b])=Lq q W s W.length s [s]:=by
      rw [<-he];show _=(match Qiv q W a with | none=>O | some b=>if b.id=s.id then O else Lq q W s k b (O++[b]));rw [hb];exact (if_neg h3).symm
     refine go tt [.t (decide_eq_true (by omega)),.x (Ga hj),.g 47 true (decide_eq_true hba),.x (Ga hj),.c [] cb,.t rfl,.x (Ga hj),.x hx0,.g 69 false (decide_eq_false h3),.r 75 (eI (b:=((O.length-1:Nat):Int)) (by omega)),.i (O.length-1),.x (Ga hla),.f (decide_eq_false hba),.s (sz:=7) h7z] rfl (by simp [U9] <;> omega) ?_;have hl1:(O++[b]).length=O.length+1:=by simp
     exact rd (O++[b]) (by omega) ⟨by omega,b,hbW,by rw [hl1,J4,Xa (Ql _),Jw]; rfl,by rw [hl1,show W.length+1-(O.length+1)=k by omega]; exact ef⟩ (by simp [Fy]; rfl)
 ·rw [show W.length+1-O.length=0 by omega] at he;have ef:Lq q W s W.length s [s]=O:=he.symm;rw [ef];exact en tt [.f (decide_eq_false (by omega))] rfl rfl trivial
def Dm (sg:List Int->Int) (a b c:Pt):Ct:=⟨3,a.id,b.id,c.id,0,M9 a.c b.c c.c,Tg sg (M9 a.c b.c c.c)⟩
theorem Q9t {a b u:Pt} {q:Rat} {c:List (List Int)} (ha:Rs a.c) (hb:Rs b.c) (hu:Rs u.c) (hq:Qs 1000000 q):Fa Tryz.prog 321 [.one (.int .i64 3),.agg (aq q c),.one (.row [Lt a,Lt b,Lt u])] [.agg (rct (Dm (sgq q) a b u)),.one (.bool true)]:=by
 have x0:[Lt a,Lt b,Lt u][0]? = some (Lt a):=rfl;have x1:[Lt a,Lt b,Lt u][1]? = some (Lt b):=rfl;have x2:[Lt a,Lt b,Lt u][2]? = some (Lt u):=rfl;have cf:=Qoe ha hb hu;have hsz:=Qmo ha hb hu;have cg:=Ev (c:=c) (U8 hsz.1 (by decide)) (Qc hsz.2 (by decide)) hq;have e:rct (Dm (sgq q) a b u)=[.int .i64 3,.int .i64 a.id,.int .i64 b.id,.int .i64 u.id,.int .i64 0,rp (zp (M9 a.c b.c u.c)),.int .i64 (Ms (M9 a.c b.c u.c) q),.row [],.bool false]:=by simp only [Dm,rct,Qzi]
 rw [e];generalize M9 a.c b.c u.c=F at *;refine Hl Tryz.func321 rfl ?_;refine go tt [.g 14 false rfl,.g 18 false rfl,.x (l:=[[.int .i64 0],[.int .i64 2],[.int .i64 2],[.int .i64 3],[.int .i64 4],[.int .i64 4]]) (i:=3) (xs:=[.int .i64 3]) rfl,.f rfl] rfl trivial ?_;refine lp (S:=Nat) 3 (λL1 i=>(33,.v (.one (.int .i64 (i:Int))))::L1) (λi=>[.blk 37 (aq q c),.blk 272 rzc,.blk 272 [.int .i64 3,.int .i64 (if 0<i then a.id else 0),.int .i64 (if 1<i then b.id else 0),.int .i64 (if 2<i then u.id else 0),.int .i64 0,.nils,.int .i64 0,.nils,.bool false]]) (λi=>3-i) (λi=>i<=3) 0 (by decide) rfl (λ_ _=>rfl) rfl λi hi=>?_
 rcases (show i=0\/i=1\/i=2\/i=3 by omega) with rfl | rfl | rfl | rfl
 ·exact go tt [.t rfl,.x x0,.i 0] rfl (by simp [U9]) (rd 1 (by omega) (by omega) rfl)
 ·exact go tt [.t rfl,.x x1,.i 1] rfl (by simp [U9]) (rd 2 (by omega) (by omega) rfl)
 ·exact go tt [.t rfl,.x x2,.i 2] rfl (by simp [U9]) (rd 3 (by omega) (by omega) rfl)
 exact en tt [.f rfl,.f rfl,.f rfl,.t rfl,.x x0,.x x1,.x x2,.c [] cf,.c [] cg] rfl rfl trivial
theorem Zgq {a b u:Pt} {q:Rat} {c:List (List Int)} (ha:Rs a.c) (hb:Rs b.c) (hu:Rs u.c) (hq:Qs 1000000 q):Fa Tryz.prog 292 [.one (.int .i64 3),.agg (aq q c),.one (.row [Lt a,Lt b,Lt u])] [.agg (rct (Dm (sgq q) a b u))] :=
 w tt Tryz.func292 rfl [.c [] (Q9t ha hb hu hq)] rfl rfl trivial
theorem Q9w {l:List Ct} (hn:l.length<=1000000):Rh Tryz.prog 293 [.one (.row (G9 l))] [] [.one (.orow 0 9 none)] [.row false 272 9 (G9 (Gy So l))]:=by
 have hcl:=Bm l;refine Hl Tryz.func293 rfl ?_;refine go tt [.o 3 272 9] rfl trivial ?_;refine lp (S:=Nat) 1 (λL1 i=>(8,.v (.one (.int .i64 (i:Int))))::(3,.v (.one (.orow 0 9 none)))::L1) (λi=>[.row false 272 9 (G9 (Gy So (l.take i)))]) (λi=>l.length-i) (λi=>i<=l.length) 0 (Qi _) rfl (λ_ _=>rfl) rfl λi hi=>?_
 by_cases hlt:i<l.length
 ·obtain ⟨c,hc⟩:=gxE (l:=l) (i:=i) hlt;have hst:Gy So (l.take (i+1))=M8 So (Gy So (l.take i)) c:=Ah hc;obtain ⟨O,hO⟩:=nmE (Gy So (l.take i));have hOl:O.length=i:=by rw [hO,Te,Qr]; omega
  have hrl:=Bm O;rw [<-hO] at hst ⊢;refine go tt [.t (decide_eq_true (by omega))] rfl trivial ?_;refine lp (S:=Nat) 1 (λL1 k=>(5,.v (.one (.int .i64 (k:Int))))::L1) (λ_=>[.row false 272 9 (G9 O)]) id (λk=>k<=O.length/\Sv So O c k=Sv So O c O.length) (G9 O).length ⟨by omega,by rw [hrl]⟩ rfl (λ_ _=>rfl) rfl λk ⟨hk,hp⟩=>?_
  have h7:=Qi1 O;have h7z:∀ y∈[rct c],y.length=9:=λy hy=>by rw [Qk.1 hy]; rfl
  cases k with
  |
   zero =>
   have hp:Sv So O c O.length=0:=by rw [<-hp]; rfl
   refine go tt [.g 15 false (by simp),.f rfl,.i 0,.x (Nz hc),.lo,.i 0,.s (sz:=9) (λy hy=>h7 y (Qn hy)),.s (sz:=9) (λy hy=>(Qu.1 hy).elim (h7z y) λhy=>h7 y (Qn hy))] rfl (by simp [U9]; omega) ?_;exact rd (i+1) (by omega) hlt (by rw [hst,<-Qe9 hp]; rfl)
  |
   succ k =>
   obtain ⟨x,hx⟩:=gxE (l:=O) (i:=k) (by omega);have cb:=Q2k (k:=c.kind) (i0:=c.i0) (i1:=c.i1) (i2:=c.i2) (i3:=c.i3) (l:=x.kind) (j0:=x.i0) (j1:=x.i1) (j2:=x.i2) (j3:=x.i3);by_cases hlc:So c x=true
   ·refine go tt [.g 15 true (by simp),.x (Nz hc),.r 23 (eI (b:=(k:Int)) (by simp)),.i k,.x (Nz hx),.c [] cb,.t hlc,.r 30 (eI (b:=(k:Int)) (by simp))] rfl (by simp [U9]; omega) ?_;exact rd k (by simp) ⟨by omega,by rw [<-hp,Qcy hx hlc]⟩ rfl
   ·have hlc:So c x=false:=by simpa using hlc
    have hp:Sv So O c O.length=k+1:=by rw [<-hp,Oc hx hlc]
    refine go tt [.g 15 true (by simp),.x (Nz hc),.r 23 (eI (b:=(k:Int)) (by simp)),.i k,.x (Nz hx),.c [] cb,.f hlc,.i (k+1),.x (Nz hc),.lo,.i (k+1),.s (sz:=9) (λy hy=>h7 y (Ze (Qn hy))),.s (sz:=9) (λy hy=>(Qu.1 hy).elim (h7z y) λhy=>h7 y (Ze (Qn hy)))] rfl (by simp [U9]; omega) ?_;exact rd (i+1) (by omega) hlt (by rw [hst,<-Qe9 hp]; rfl)
 ·obtain rfl:i=l.length:=by omega
  rw [Qy];exact ed tt [] [0] [.f (decide_eq_false (by omega))] rfl trivial
theorem Qnu {l:List Pt} {q:Rat} {cs:List (List Int)} (hl:∀ p∈l,Rs p.c) (hn:l.length≤1000) (hq:Qs 1000000 q):Rh Tryz.prog 254 [.one (.row (Fy l)),.agg (aq q cs)] [] [.one (.orow 0 9 none)] [.row false 272 9 (G9 (Qp2 q l))]:=by
 have c1:=Qof (cs:=cs) hl (by omega) hq;have hML:(Gy (Dq q) l).length=l.length:=Te _ _;have hMl:∀ p∈Gy (Dq q) l,Rs p.c:=λp hp=>hl p (Ma.1 hp)
 unfold Qp2;obtain ⟨M,hM⟩:=nmE (Gy (Dq q) l);rw [<-hM] at c1 hML hMl ⊢;have hcl:=Rf M;have hrl:=Bw (sgq q) M;have c2:=Q9w (l:=Pe (sgq q) M) (by omega);refine Hl Tryz.func254 rfl ?_;refine go tt [.c [] c1,.o 6 272 9] rfl trivial ?_;refine lp (S:=Nat) 2 (λL1 i=>(7,.v (.one (.int .i64 (i:Int))))::(6,.v (.one (.orow 1 9 none)))::L1) (λi=>[.blk 37 (aq q cs),.row false 272 9 (G9 ((Pe (sgq q) M).take i))]) (λi=>M.length-i) (λi=>i<=M.length-1) 0 (Qi _) rfl (λ_ _=>rfl) rfl λi hi=>?_
 have htl:(G9 ((Pe (sgq q) M).take i)).length=i:=by rw [Bm,Qr]; omega
 by_cases hlt:i+1<M.length
 ·obtain ⟨a,ha⟩:=gxE (l:=M) (i:=i) (by omega);obtain ⟨b,hb⟩:=gxE (l:=M) (i:=i+1) hlt;have hg:=Qhx (sgq q) ha hb;have hm:∀ y∈[rct (Ch (sgq q) a b)],y.length=9:=λy hy=>by rw [Qk.1 hy]; rfl
  refine go tt [.t (decide_eq_true (by omega)),.x (Ga ha),.x (Ga hb),.c [] (Zgp (hMl a (Qa ha)) (hMl b (Qa hb)) hq),.s (sz:=9) hm] rfl (by simp [U9,htl]; omega) ?_;exact rd (i+1) (by omega) (by omega) (by rw [hg]; simp [G9]; rfl)
 ·have e:(Pe (sgq q) M).take i=Pe (sgq q) M:=Qo (by omega);rw [e];exact ed tt [] [2] [.f (decide_eq_false (by omega)),.p 1,.c [2] c2] rfl (by simp [U9]; omega)
def E4 (q:Rat) (l:List Pt) (e:Pt×Pt):List Ct:=(l.filter (Pj e)).map λc=>Dm (sgq q) e.1 e.2 c
def Qhd (q:Rat) (l C:List Pt):List Ct:=if C.length<2 then [] else (Gq C).flatMap (E4 q l)
def Qb9 (q:Rat) (l:List Pt):List Ct:=Gy So (Qp2 q l++Qhd q l (Qev q l))
theorem Qlq {q:Rat} {l:List Pt} (x:Pt×Pt):(E4 q l x).length<=l.length:=by unfold E4; rw [List.length_map]; exact List.length_filter_le _ _
theorem Ql6 {q:Rat} {l C:List Pt} (hn:l.length<=10) (hC:C.length<=11):(Qhd q l C).length<=110:=by
 unfold Qhd
 split
 ·exact Qi _
 ·have h1:=A3 (f:=E4 q l) Qlq (Gq C);rw [A1] at h1;have h2:C.length*l.length<=11*10:=Zh hC hn;omega
theorem Qp3 (q:Rat) (l:List Pt):(Qp2 q l).length<=l.length:=by
 unfold Qp2;rw [Te];have:=Bw (sgq q) (Gy (Dq q) l);rw [Te] at this;omega
theorem Q63 (q:Rat) {l:List Pt} (hn:l.length<=10):(Qb9 q l).length<=1000000:=by
 unfold Qb9;have h1:=Qp3 q l;have h2:=Ql6 (q:=q) (C:=Qev q l) hn (Qc (Qut q l).2 (by omega));rw [Te,Q4]; omega
set_option maxHeartbeats 4000000 in
theorem Qra {l:List Pt} {q:Rat} {cs:List (List Int)} (hl:∀ p∈l,Rs p.c) (hn:l.length≤10) (hq:Qs 1000000 q):Fa Tryz.prog 256 [.one (.row (Fy l)),.agg (aq q cs)] [.one (.row (G9 (Qb9 q l)))]:=by
 have c1:=Qnu (cs:=cs) hl (by omega) hq;have c2:=Qyy (cs:=cs) hl (by omega) hq;obtain ⟨hCm,hCl⟩:=Qut q l;have hrl:=Qp3 q l;have hhl:=Ql6 (q:=q) (C:=Qev q l) hn (by omega);unfold Qb9;obtain ⟨C,hC⟩:=nmE (Qev q l);obtain ⟨cs0,hc0⟩:=nmE (Qp2 q l);rw [<-hC] at c2 hCm hCl hhl ⊢;rw [<-hc0] at c1 hrl ⊢;have c9:=Zgn (l:=cs0++Qhd q l C) (by rw [Q4]; omega);have hcp:=Rf C;have hlp:=Rf l;refine Hl Tryz.func256 rfl ?_;refine go tt [.c [1] c1,.c [] c2] rfl trivial ?_;by_cases h2:C.length<2
 ·have e:Qhd q l C=[]:=if_pos h2;rw [e,Zo] at c9 ⊢;refine lp (S:=Unit) 2 (λL1 _=>(7,.v (.one (.int .i64 0)))::(5,.v (.one (.orow 1 9 none)))::L1) (λ_=>[.blk 37 (aq q cs),.row false 272 9 (G9 cs0)]) (λ_=>0) (λ_=>True) () trivial rfl (λ_ _=>rfl) rfl λ_ _=>?_
  by_cases h0:C.length=0
  ·exact en tt [.g 21 false (decide_eq_false (by omega)),.f rfl,.c [] c9] rfl rfl (by simp [U9] <;> omega)
  ·exact en tt [.g 21 true (decide_eq_true (by omega)),.f (decide_eq_false (by omega)),.c [] c9] rfl rfl (by simp [U9] <;> omega)
 have e:Qhd q l C=(Gq C).flatMap (E4 q l):=if_neg h2;rw [e] at c9 ⊢;refine sb [(7,.v (.one (.int .i64 0))),(6,.v (.one (.row (Fy C)))),(5,.v (.one (.orow 1 9 none))),(3,.v (.one (.ow 0 0))),(0,.v (.one (.row (Fy l))))] [.blk 37 (aq q cs),.row false 272 9 (G9 cs0)] rfl rfl ?_;rw [show G9 cs0=G9 (cs0++((Gq C).take 0).flatMap (E4 q l)) by simp];refine lp (S:=Nat) 2 (λL1 i=>(7,.v (.one (.int .i64 (i:Int))))::(5,.v (.one (.orow 1 9 none)))::L1) (λi=>[.blk 37 (aq q cs),.row false 272 9 (G9 (cs0++((Gq C).take i).flatMap (E4 q l)))]) (λi=>C.length-i) (λi=>i<=C.length) 0 (Qi _) rfl (λ_ _=>rfl) rfl λi hi=>?_
 by_cases hlt:i<C.length
 ·obtain ⟨x,hx⟩:=gxE (l:=C) (i:=i) hlt;obtain ⟨y,hy⟩:=gxE (l:=C) (i:=(i+1) % C.length) (Xf _ (by omega));have he:=Qbl hx hy;have sx:=hl x (hCm x (Qa hx));have sy:=hl y (hCm y (Qa hy));have hflat:=Ai (f:=E4 q l) he;obtain ⟨F,hF⟩:=nmE (cs0++((Gq C).take i).flatMap (E4 q l));have hFl:F.length<=10+20*10:=by
   have h1:=A3 (f:=E4 q l) Qlq ((Gq C).take i);have h2:((Gq C).take i).length*l.length<=20*10:=Zh (by rw [Qr]; omega) hn;rw [hF,Q4]; omega
  have hmod:(((i+1:Nat):Int)).tmod ((Fy C).length:Int)=(((i+1) % C.length:Nat):Int):=by rw [hcp]; exact (Int.ofNat_tmod _ _).symm
  have hm0:=Yp ((i+1:Nat):Int) (show (C.length:Int)≠0 by omega);have hm1:=J3 ((i+1:Nat):Int) (show (0:Int)<C.length by omega);have hnext:cs0++((Gq C).take (i+1)).flatMap (E4 q l)=F++(l.filter (Pj (x,y))).map λc=>Dm (sgq q) x y c:=by rw [hflat,<-Zm,<-hF]; rfl
  rw [<-hF];refine go tt [.g 21 true (decide_eq_true (by omega)),.t (decide_eq_true (by omega)),.x (Ga hx),.r 34 (eI (b:=((i+1:Nat):Int)) (by simp)),.r 37 (eI (b:=(((i+1) % C.length:Nat):Int)) hmod),.x (Ga hy)] rfl (by simp only [U9]; omega) ?_;rw [show G9 F=G9 (F++((l.take 0).filter (Pj (x,y))).map λc=>Dm (sgq q) x y c) by simp];refine lp (S:=Nat) 4 (λL1 k=>(42,.v (.one (.int .i64 (k:Int))))::(5,.v (.one (.orow 1 9 none)))::L1) (λk=>[.blk 37 (aq q cs),.row false 272 9 (G9 (F++((l.take k).filter (Pj (x,y))).map λc=>Dm (sgq q) x y c)),.blk 57 (Lt x),.blk 57 (Lt y)]) (λk=>l.length-k) (λk=>k<=l.length) 0 (Qi _) rfl (λ_ _=>rfl) rfl λk hk=>?_
  by_cases hlk:k<l.length
  ·obtain ⟨z,hz⟩:=gxE (l:=l) (i:=k) hlk;have sz:=hl z (Qa hz);have hflt:=Du (f:=λc=>Dm (sgq q) x y c) (p:=Pj (x,y)) hz;obtain ⟨G,hG⟩:=nmE (((l.take k).filter (Pj (x,y))).map λc=>Dm (sgq q) x y c);have hGl:G.length<=10:=by
    have h1:=Ke (Pj (x,y)) (l.take k);rw [Qr] at h1;rw [hG,Q8]; omega
   have hrF:=Bm (F++G);rw [Q4] at hrF;rw [<-hG] at hflt ⊢;by_cases h1:z.id=x.id
   ·rw [if_neg (show ¬Pj (x,y) z=true by simp [Pj,h1]),Zo] at hflt;refine go tt [.t (decide_eq_true (by omega)),.x (Ga hz),.g 53 false (decide_eq_false (by simp [h1])),.f rfl] rfl (by simp [U9] <;> omega) ?_;exact rd (k+1) (by omega) hlk (by rw [hflt]; rfl)
   ·by_cases h2:z.id=y.id
    ·rw [if_neg (show ¬Pj (x,y) z=true by simp [Pj,h2]),Zo] at hflt;refine go tt [.t (decide_eq_true (by omega)),.x (Ga hz),.g 53 true (decide_eq_true h1),.x (Ga hz),.f (decide_eq_false (by simp [h2]))] rfl (by simp [U9] <;> omega) ?_;exact rd (k+1) (by omega) hlk (by rw [hflt]; rfl)
    ·rw [if_pos (show Pj (x,y) z=true by simp [Pj,h1,h2])] at hflt;have hm:∀ v∈[rct (Dm (sgq q) x y z)],v.length=9:=λv hv=>by rw [Qk.1 hv]; rfl
     refine go tt [.t (decide_eq_true (by omega)),.x (Ga hz),.g 53 true (decide_eq_true h1),.x (Ga hz),.t (decide_eq_true h2),.x (Ga hz),.c [] (Zgq sx sy sz hq),.s (sz:=9) hm] rfl (by simp [U9,hrF] <;> omega) ?_;have e3:G9 (F++(G++[Dm (sgq q) x y z]))=G9 (F++G)++[rct (Dm (sgq q) x y z)]:=by simp [G9]
     exact rd (k+1) (by omega) hlk (by rw [hflt,e3]; rfl)
  ·obtain rfl:k=l.length:=by omega
   rw [Qy,<-hnext];refine go tt [.f (decide_eq_false (by omega))] rfl (by simp [U9] <;> omega) ?_;exact rd (i+1) (by omega) hlt rfl
 ·obtain rfl:i=C.length:=by omega
  rw [Qo (by rw [A1]; exact Ql _)];exact en tt [.g 21 false (decide_eq_false (by omega)),.f rfl,.c [] c9] rfl rfl (by simp [U9] <;> omega)
theorem Q5u {l:List Pt} {q:Rat} {cs:List (List Int)} (hl:∀ p∈l,Rs p.c) (hn:l.length≤10) (hq:Qs 1000000 q):Fa Tryz.prog 200 [.one (.int .i64 2),.one (.row (Fy l)),.agg (aq q cs)] [.one (.row (G9 (Qb9 q l)))] :=
 w tt Tryz.func200 rfl [.f rfl,.f rfl,.t rfl,.c [] (Qra hl hn hq)] rfl rfl trivial
theorem Qx8 {l:List Pt} {q:Rat} {cs:List (List Int)} (hl:∀ p∈l,Rs p.c) (hn:l.length≤10) (hq:Qs 1000000 q):Fa Tryz.prog 128 [.one (.int .i64 2),.one (.row (Fy l)),.agg (aq q cs)] [.one (.row (G9 (Qb9 q l)))] :=
 w tt Tryz.func128 rfl [.c [] (Q5u hl hn hq)] rfl rfl trivial
end Orr
