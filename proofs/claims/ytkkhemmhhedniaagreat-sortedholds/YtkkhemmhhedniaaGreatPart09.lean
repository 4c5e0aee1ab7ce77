/- R12 R13 R14 R15 R16 R17 R18 SC1 SplitL NewsN W1 W2 WR18 WS18 Z1 Z2 Z3 Z4 Z5 HullG TurnL PairN DetL H1 HullQ Z6 Z7 HoS K5 Z8 R27 R28 Hal18 WH18 ReadN LastN LastR -/
import Derived.Test.YtkkhemmhhedniaaGreatPart08
import Derived.Test.YtkkhemmhhedniaaGreatPart05
import Derived.Test.YtkkhemmhhedniaaGreatPart00
import Derived.Test.YtkkhemmhhedniaaGreatPart07
import Derived.Test.YtkkhemmhhedniaaGreatPart04
import Derived.Test.YtkkhemmhhedniaaGreatPart06
import Derived.Deep.Slices
import Derived.ProofKit
import Derived.OpenShut
import Derived.WideKeyArgs
import Derived.SizedLaws
set_option linter.all false
namespace Orr
open Go Go.Proofs
set_option maxRecDepth 10000
def Qjy (q:Rat) (a b:Pt):Bool:=if Lk (Gz a.c b.c) q≠0 then decide (0<Lk (Gz a.c b.c) q) else if Lk (Hj a.c b.c) q≠0 then decide (0<Lk (Hj a.c b.c) q) else decide (a.id<b.id)
theorem Qzy {a b:Pt} {q:Rat} {c:List (List Int)} (ha:Rs a.c) (hb:Rs b.c) (hq:Qs 1000000 q):Ub Tryz.prog 17 [.agg (rpt a),.agg (rpt b),.agg (aq q c)] [.one (.bool (Qjy q a b))]:=by
 have c1:=If (p:=Gz a.c b.c) (c:=c) (W9 (O6 ha hb).1 (by decide)) (Qa (O6 ha hb).2 (by decide)) hq;have c2:=If (p:=Hj a.c b.c) (c:=c) (W9 (O5 ha hb).1 (by decide)) (Qa (O5 ha hb).2 (by decide)) hq;by_cases h1:Lk (Gz a.c b.c) q≠0
 ·exact w tt Tryz.func17 rfl [.c [] (Ih ha hb),.c [] c1,.t (decide_eq_true h1)] rfl (by unfold Qjy; rw [if_pos h1]) trivial
 by_cases h2:Lk (Hj a.c b.c) q≠0
 ·exact w tt Tryz.func17 rfl [.c [] (Ih ha hb),.c [] c1,.f (decide_eq_false h1),.c [] (Qhf ha hb),.c [] c2,.t (decide_eq_true h2)] rfl (by unfold Qjy; rw [if_neg h1,if_pos h2]) trivial
 ·exact w tt Tryz.func17 rfl [.c [] (Ih ha hb),.c [] c1,.f (decide_eq_false h1),.c [] (Qhf ha hb),.c [] c2,.f (decide_eq_false h2)] rfl (by unfold Qjy; rw [if_neg h1,if_neg h2]) trivial
theorem Qz0 {l:List Pt} {q:Rat} {cs:List (List Int)} (hl:∀ p∈l,Rs p.c) (hn:l.length≤1000000) (hq:Qs 1000000 q):Ub Tryz.prog 291 [.one (.row (U8 l)),.agg (aq q cs)] [.one (.row (U8 (Gv (Qjy q) l)))]:=by
 have hcl:=Sx l;obtain ⟨lt,hlt0⟩:=nmE (Qjy q);rw [<-hlt0];refine Gl Tryz.func291 rfl ?_;refine go tt [.o 5 57 7] rfl trivial ?_;refine lp (S:=Nat) 2 (λL1 i=>(10,.v (.one (.int .i64 (i:Int))))::(5,.v (.one (.orow 1 7 none)))::L1) (λi=>[.blk 37 (aq q cs),.row false 57 7 (U8 (Gv lt (l.take i)))]) (λi=>l.length-i) (λi=>i<=l.length) 0 (Qi _) rfl (λ_ _=>rfl) rfl λi hi=>?_
 by_cases hlt:i<l.length
 ·obtain ⟨c,hc⟩:=gxE (l:=l) (i:=i) hlt;have hst:Gv lt (l.take (i+1))=Ng lt (Gv lt (l.take i)) c:=Ar hc;have hcp:=hl c (Qc hc);obtain ⟨O,hO⟩:=nmE (Gv lt (l.take i));have hOl:O.length=i:=by rw [hO,Tv,Qy]; omega
  have hOm:∀ x∈O,Rs x.c:=λx hx=>by rw [hO,C3] at hx; exact hl x (Qn hx)
  have hrl:=Sx O;rw [<-hO] at hst ⊢;refine go tt [.t (decide_eq_true (by omega))] rfl trivial ?_;refine lp (S:=Nat) 2 (λL1 k=>(7,.v (.one (.int .i64 (k:Int))))::L1) (λ_=>[.blk 37 (aq q cs),.row false 57 7 (U8 O)]) id (λk=>k<=O.length/\Tn lt O c k=Tn lt O c O.length) (U8 O).length ⟨by omega,by rw [hrl]⟩ rfl (λ_ _=>rfl) rfl λk ⟨hk,hp⟩=>?_
  have h7:=Qcx O;have h7z:∀ y∈[rpt c],y.length=7:=λy hy=>by rw [Qp.1 hy]; rfl
  cases k with
  |
   zero =>
   have hp:Tn lt O c O.length=0:=by rw [<-hp]; rfl
   refine go tt [.g 17 false (by simp),.f rfl,.i 0,.x (Tk hc),.lo,.i 0,.s (sz:=7) (λy hy=>h7 y (Qn hy)),.s (sz:=7) (λy hy=>(Qz.1 hy).elim (h7z y) λhy=>h7 y (Qn hy))] rfl (by simp [Ua]; omega) ?_;exact rd (i+1) (by omega) hlt (by rw [hst,<-Qca hp]; rfl)
  |
   succ k =>
   obtain ⟨x,hx⟩:=gxE (l:=O) (i:=k) (by omega);have cb:=Qzy (c:=cs) hcp (hOm x (Qc hx)) hq;rw [<-hlt0] at cb;by_cases hlc:lt c x=true
   ·refine go tt [.g 17 true (by simp),.x (Tk hc),.r 24 (eI (b:=(k:Int)) (by simp)),.i k,.x (Tk hx),.c [] cb,.t hlc,.r 31 (eI (b:=(k:Int)) (by simp))] rfl (by simp [Ua]; omega) ?_;exact rd k (by simp) ⟨by omega,by rw [<-hp,Qcp hx hlc]⟩ rfl
   ·have hlc:lt c x=false:=by simpa using hlc
    have hp:Tn lt O c O.length=k+1:=by rw [<-hp,I6 hx hlc]
    refine go tt [.g 17 true (by simp),.x (Tk hc),.r 24 (eI (b:=(k:Int)) (by simp)),.i k,.x (Tk hx),.c [] cb,.f hlc,.i (k+1),.x (Tk hc),.lo,.i (k+1),.s (sz:=7) (λy hy=>h7 y (Zg (Qn hy))),.s (sz:=7) (λy hy=>(Qz.1 hy).elim (h7z y) λhy=>h7 y (Zg (Qn hy)))] rfl (by simp [Ua]; omega) ?_;exact rd (i+1) (by omega) hlt (by rw [hst,<-Qca hp]; rfl)
 ·obtain rfl:i=l.length:=by omega
  rw [Q4];exact en tt [.f (decide_eq_false (by omega))] rfl rfl trivial
def rct (c:Ct):List LV:=[.int .i64 c.kind,.int .i64 c.i0,.int .i64 c.i1,.int .i64 c.i2,.int .i64 c.i3,rp (zp c.p),.int .i64 c.want,.row [],.bool false]
def Ri (l:List Ct):List (List LV):=l.map rct
theorem Ao (l:List Ct):(Ri l).length=l.length:=by simp [Ri]
theorem Qrz (l:List Ct):∀ c∈Ri l,c.length=9:=λc hc=>by obtain ⟨x,_,rfl⟩:=Zr.1 hc; rfl
theorem O9 {l:List Ct} {i:Nat} {c:Ct} (h:l[i]? = some c):(Ri l)[i]? = some (rct c):=Gx h
theorem Qqn {lt:Ct->Ct->Bool} {O:List Ct} {c:Ct} {k:Nat} (hp:Tn lt O c O.length=k):(Ri O).take k++([rct c]++((Ri O).drop k).take ((Ri O).length-k))=Ri (Ng lt O c):=Qqo hp
theorem Zao {k i0 i1 i2 i3 l j0 j1 j2 j3:Int}:Ub Tryz.prog 322 [.agg [.int .i64 k,.int .i64 i0,.int .i64 i1,.int .i64 i2,.int .i64 i3],.agg [.int .i64 l,.int .i64 j0,.int .i64 j1,.int .i64 j2,.int .i64 j3]] [.one (.bool (Hm [k,i0,i1,i2,i3] [l,j0,j1,j2,j3]))]:=by
 by_cases hk:k=l
 ·subst hk;rw [show Hm [k,i0,i1,i2,i3] [k,j0,j1,j2,j3]=Hm [i0,i1,i2,i3] [j0,j1,j2,j3] from by simp [Hm]];refine Gl Tryz.func322 rfl ?_;refine go tt [.f (by simp)] rfl trivial ?_;refine lp (S:=Nat) 2 (λL1 i=>(5,.v (.one (.int .i64 (i:Int))))::L1) (λ_=>[.blk 88 [.int .i64 k,.int .i64 i0,.int .i64 i1,.int .i64 i2,.int .i64 i3],.blk 88 [.int .i64 k,.int .i64 j0,.int .i64 j1,.int .i64 j2,.int .i64 j3]]) (λi=>4-i) (λi=>i<=4/\Hm ([i0,i1,i2,i3].drop i) ([j0,j1,j2,j3].drop i)=Hm [i0,i1,i2,i3] [j0,j1,j2,j3]) 0 ⟨by omega,rfl⟩ rfl (λ_ _=>rfl) rfl λi ⟨hi,he⟩=>?_
  rw [<-he];rcases (show i=0\/i=1\/i=2\/i=3\/i=4 by omega) with rfl | rfl | rfl | rfl | rfl
  ·by_cases h:i0=j0
   ·exact go tt [.t rfl,.i 0,.i 0,.f (by simpa using h)] rfl (by simp [Ua]) (rd 1 (by omega) ⟨by omega,by simp [Hm,h]⟩ rfl)
   ·exact en tt [.t rfl,.i 0,.i 0,.t (by simpa using h),.i 0,.i 0] rfl (by simp [Hm,h]) trivial
  ·by_cases h:i1=j1
   ·exact go tt [.t rfl,.i 1,.i 1,.f (by simpa using h)] rfl (by simp [Ua]) (rd 2 (by omega) ⟨by omega,by simp [Hm,h]⟩ rfl)
   ·exact en tt [.t rfl,.i 1,.i 1,.t (by simpa using h),.i 1,.i 1] rfl (by simp [Hm,h]) trivial
  ·by_cases h:i2=j2
   ·exact go tt [.t rfl,.i 2,.i 2,.f (by simpa using h)] rfl (by simp [Ua]) (rd 3 (by omega) ⟨by omega,by simp [Hm,h]⟩ rfl)
   ·exact en tt [.t rfl,.i 2,.i 2,.t (by simpa using h),.i 2,.i 2] rfl (by simp [Hm,h]) trivial
  ·by_cases h:i3=j3
   ·exact go tt [.t rfl,.i 3,.i 3,.f (by simpa using h)] rfl (by simp [Ua]) (rd 4 (by omega) ⟨by omega,by simp [Hm,h]⟩ rfl)
   ·exact en tt [.t rfl,.i 3,.i 3,.t (by simpa using h),.i 3,.i 3] rfl (by simp [Hm,h]) trivial
  ·exact en tt [.f rfl] rfl (by simp [Hm]) trivial
 ·exact w tt Tryz.func322 rfl [.t (by simpa using hk)] rfl (by simp [Hm,hk]) trivial
theorem Zas {l:List Ct} (hn:l.length<=1000000):Ub Tryz.prog 293 [.one (.row (Ri l))] [.one (.row (Ri (Gv Nk l)))]:=by
 have hcl:=Ao l;refine Gl Tryz.func293 rfl ?_;refine go tt [.o 3 272 9] rfl trivial ?_;refine lp (S:=Nat) 1 (λL1 i=>(8,.v (.one (.int .i64 (i:Int))))::(3,.v (.one (.orow 0 9 none)))::L1) (λi=>[.row false 272 9 (Ri (Gv Nk (l.take i)))]) (λi=>l.length-i) (λi=>i<=l.length) 0 (Qi _) rfl (λ_ _=>rfl) rfl λi hi=>?_
 by_cases hlt:i<l.length
 ·obtain ⟨c,hc⟩:=gxE (l:=l) (i:=i) hlt;have hst:Gv Nk (l.take (i+1))=Ng Nk (Gv Nk (l.take i)) c:=Ar hc;obtain ⟨O,hO⟩:=nmE (Gv Nk (l.take i));have hOl:O.length=i:=by rw [hO,Tv,Qy]; omega
  have hrl:=Ao O;rw [<-hO] at hst ⊢;refine go tt [.t (decide_eq_true (by omega))] rfl trivial ?_;refine lp (S:=Nat) 1 (λL1 k=>(5,.v (.one (.int .i64 (k:Int))))::L1) (λ_=>[.row false 272 9 (Ri O)]) id (λk=>k<=O.length/\Tn Nk O c k=Tn Nk O c O.length) (Ri O).length ⟨by omega,by rw [hrl]⟩ rfl (λ_ _=>rfl) rfl λk ⟨hk,hp⟩=>?_
  have h7:=Qrz O;have h7z:∀ y∈[rct c],y.length=9:=λy hy=>by rw [Qp.1 hy]; rfl
  cases k with
  |
   zero =>
   have hp:Tn Nk O c O.length=0:=by rw [<-hp]; rfl
   refine go tt [.g 15 false (by simp),.f rfl,.i 0,.x (O9 hc),.lo,.i 0,.s (sz:=9) (λy hy=>h7 y (Qn hy)),.s (sz:=9) (λy hy=>(Qz.1 hy).elim (h7z y) λhy=>h7 y (Qn hy))] rfl (by simp [Ua]; omega) ?_;exact rd (i+1) (by omega) hlt (by rw [hst,<-Qqn hp]; rfl)
  |
   succ k =>
   obtain ⟨x,hx⟩:=gxE (l:=O) (i:=k) (by omega);have cb:=Zao (k:=c.kind) (i0:=c.i0) (i1:=c.i1) (i2:=c.i2) (i3:=c.i3) (l:=x.kind) (j0:=x.i0) (j1:=x.i1) (j2:=x.i2) (j3:=x.i3);by_cases hlc:Nk c x=true
   ·refine go tt [.g 15 true (by simp),.x (O9 hc),.r 23 (eI (b:=(k:Int)) (by simp)),.i k,.x (O9 hx),.c [] cb,.t hlc,.r 30 (eI (b:=(k:Int)) (by simp))] rfl (by simp [Ua]; omega) ?_;exact rd k (by simp) ⟨by omega,by rw [<-hp,Qcp hx hlc]⟩ rfl
   ·have hlc:Nk c x=false:=by simpa using hlc
    have hp:Tn Nk O c O.length=k+1:=by rw [<-hp,I6 hx hlc]
    refine go tt [.g 15 true (by simp),.x (O9 hc),.r 23 (eI (b:=(k:Int)) (by simp)),.i k,.x (O9 hx),.c [] cb,.f hlc,.i (k+1),.x (O9 hc),.lo,.i (k+1),.s (sz:=9) (λy hy=>h7 y (Zg (Qn hy))),.s (sz:=9) (λy hy=>(Qz.1 hy).elim (h7z y) λhy=>h7 y (Zg (Qn hy)))] rfl (by simp [Ua]; omega) ?_;exact rd (i+1) (by omega) hlt (by rw [hst,<-Qqn hp]; rfl)
 ·obtain rfl:i=l.length:=by omega
  rw [Q4];exact en tt [.f (decide_eq_false (by omega))] rfl rfl trivial
abbrev sgq (q:Rat):List Int->Int:=λp=>U4 p q
abbrev rzc:List LV:=[.int .i64 0,.int .i64 0,.int .i64 0,.int .i64 0,.int .i64 0,.nils,.int .i64 0,.nils,.bool false]
theorem Q3v {a b:Pt} {q:Rat} {c:List (List Int)} (ha:Rs a.c) (hb:Rs b.c) (hq:Qs 1000000 q):Ub Tryz.prog 321 [.one (.int .i64 1),.agg (aq q c),.one (.row [rpt a,rpt b])] [.agg (rct (Mv (sgq q) a b)),.one (.bool true)]:=by
 have hfl:=fzl (Gz a.c b.c);have x0:[rpt a,rpt b][0]? = some (rpt a):=rfl;have x1:[rpt a,rpt b][1]? = some (rpt b):=rfl;refine Gl Tryz.func321 rfl ?_;refine go tt [.g 14 false rfl,.g 18 false rfl,.x (l:=[[.int .i64 0],[.int .i64 2],[.int .i64 2],[.int .i64 3],[.int .i64 4],[.int .i64 4]]) (i:=1) (xs:=[.int .i64 2]) rfl,.f rfl] rfl trivial ?_;refine lp (S:=Nat) 3 (λL1 i=>(33,.v (.one (.int .i64 (i:Int))))::L1) (λi=>[.blk 37 (aq q c),.blk 272 rzc,.blk 272 [.int .i64 1,.int .i64 (if 0<i then a.id else 0),.int .i64 (if 1<i then b.id else 0),.int .i64 0,.int .i64 0,.nils,.int .i64 0,.nils,.bool false]]) (λi=>2-i) (λi=>i<=2) 0 (by decide) rfl (λ_ _=>rfl) rfl λi hi=>?_
 rcases (show i=0\/i=1\/i=2 by omega) with rfl | rfl | rfl
 ·exact go tt [.t rfl,.x x0,.i 0] rfl (by simp [Ua]) (rd 1 (by omega) (by omega) rfl)
 ·exact go tt [.t rfl,.x x1,.i 1] rfl (by simp [Ua]) (rd 2 (by omega) (by omega) rfl)
 by_cases h0:(Gz a.c b.c).length=0
 ·have e:Pi a b=Hj a.c b.c:=if_neg (by omega);exact en tt [.f rfl,.t rfl,.x x0,.x x1,.c [] (Ih ha hb),.t (decide_eq_true (by omega)),.x x0,.x x1,.c [] (Qhf ha hb),.c [] (If (p:=Hj a.c b.c) (c:=c) (W9 (O5 ha hb).1 (by decide)) (Nat.le_trans (O5 ha hb).2 (by decide)) hq)] rfl (by unfold Mv; rw [e]; rfl) trivial
 ·have e:Pi a b=Gz a.c b.c:=if_pos (by omega);exact en tt [.f rfl,.t rfl,.x x0,.x x1,.c [] (Ih ha hb),.f (decide_eq_false (by omega)),.c [] (If (p:=Gz a.c b.c) (c:=c) (W9 (O6 ha hb).1 (by decide)) (Nat.le_trans (O6 ha hb).2 (by decide)) hq)] rfl (by unfold Mv; rw [e]; rfl) trivial
theorem Zat {a b:Pt} {q:Rat} {c:List (List Int)} (ha:Rs a.c) (hb:Rs b.c) (hq:Qs 1000000 q):Ub Tryz.prog 292 [.one (.int .i64 1),.agg (aq q c),.one (.row [rpt a,rpt b])] [.agg (rct (Mv (sgq q) a b))] :=
 w tt Tryz.func292 rfl [.c [] (Q3v ha hb hq)] rfl rfl trivial
def Oc (q:Rat) (l:List Pt):List Ct:=Gv Nk (Ra (sgq q) (Gv (Qjy q) l))
theorem Qmu {l:List Pt} {q:Rat} {cs:List (List Int)} (hl:∀ p∈l,Rs p.c) (hn:l.length≤1000) (hq:Qs 1000000 q):Ub Tryz.prog 254 [.one (.row (U8 l)),.agg (aq q cs)] [.one (.row (Ri (Oc q l)))]:=by
 have c1:=Qz0 (cs:=cs) hl (by omega) hq;have hML:(Gv (Qjy q) l).length=l.length:=Tv _ _;have hMl:∀ p∈Gv (Qjy q) l,Rs p.c:=λp hp=>hl p (C3.1 hp)
 unfold Oc;obtain ⟨M,hM⟩:=nmE (Gv (Qjy q) l);rw [<-hM] at c1 hML hMl ⊢;have hcl:=Sx M;have hrl:=Cy (sgq q) M;have c2:=Zas (l:=Ra (sgq q) M) (by omega);refine Gl Tryz.func254 rfl ?_;refine go tt [.c [] c1,.o 6 272 9] rfl trivial ?_;refine lp (S:=Nat) 2 (λL1 i=>(7,.v (.one (.int .i64 (i:Int))))::(6,.v (.one (.orow 1 9 none)))::L1) (λi=>[.blk 37 (aq q cs),.row false 272 9 (Ri ((Ra (sgq q) M).take i))]) (λi=>M.length-i) (λi=>i<=M.length-1) 0 (Qi _) rfl (λ_ _=>rfl) rfl λi hi=>?_
 have htl:(Ri ((Ra (sgq q) M).take i)).length=i:=by rw [Ao,Qy]; omega
 by_cases hlt:i+1<M.length
 ·obtain ⟨a,ha⟩:=gxE (l:=M) (i:=i) (by omega);obtain ⟨b,hb⟩:=gxE (l:=M) (i:=i+1) hlt;have hg:=Qep (sgq q) ha hb;have hm:∀ y∈[rct (Mv (sgq q) a b)],y.length=9:=λy hy=>by rw [Qp.1 hy]; rfl
  refine go tt [.t (decide_eq_true (by omega)),.x (Tk ha),.x (Tk hb),.c [] (Zat (hMl a (Qc ha)) (hMl b (Qc hb)) hq),.s (sz:=9) hm] rfl (by simp [Ua,htl]; omega) ?_;exact rd (i+1) (by omega) (by omega) (by rw [hg]; simp [Ri]; rfl)
 ·have e:(Ra (sgq q) M).take i=Ra (sgq q) M:=Qo (by omega);rw [e];exact en tt [.f (decide_eq_false (by omega)),.c [] c2] rfl rfl (by simp [Ua]; omega)
theorem Qzz {l:List Pt} {q:Rat} {cs:List (List Int)} (hl:∀ p∈l,Rs p.c) (hn:l.length≤1000) (hq:Qs 1000000 q):Ub Tryz.prog 200 [.one (.int .i64 0),.one (.row (U8 l)),.agg (aq q cs)] [.one (.row (Ri (Oc q l)))] :=
 w tt Tryz.func200 rfl [.t rfl,.c [] (Qmu hl hn hq)] rfl rfl trivial
theorem Qs4 {l:List Pt} {q:Rat} {cs:List (List Int)} (hl:∀ p∈l,Rs p.c) (hn:l.length≤1000) (hq:Qs 1000000 q):Ub Tryz.prog 128 [.one (.int .i64 0),.one (.row (U8 l)),.agg (aq q cs)] [.one (.row (Ri (Oc q l)))] :=
 w tt Tryz.func128 rfl [.c [] (Qzz hl hn hq)] rfl rfl trivial
theorem Q3u {l:List Ct} (hn:l.length<=1000000):Ub Tryz.prog 127 [.one (.row []),.one (.row (Ri l))] [.one (.row (Ri l))]:=by
 have hcl:=Ao l;refine Gl Tryz.func127 rfl ?_;refine go tt [] rfl trivial ?_;refine lp (S:=Nat) 0 (λL1 i=>(9,.v (.one (.int .i64 (i:Int))))::L1) (λ_=>[]) (λi=>l.length-i) (λi=>i<=l.length) 0 (Qi _) rfl (λ_ _=>rfl) rfl λi hi=>?_
 by_cases hlt:i<l.length
 ·refine go tt [.t (decide_eq_true (by omega))] rfl trivial ?_;refine lp (S:=Nat) 0 (λL1 k=>(14,.v (.one (.int .i64 (k:Int))))::L1) (λ_=>[]) (λk=>0-k) (λk=>k=0) 0 rfl rfl (λ_ _=>rfl) rfl λk hk=>?_
  subst hk;exact go tt [.f rfl] rfl (by simp [Ua]; omega) (rd (i+1) (by omega) hlt rfl)
 ·exact en tt [.f (decide_eq_false (by omega))] rfl rfl trivial
theorem Zbv (l:List Nat) (n:Nat):(lm l).take (min l.length n)=lm (l.take n):=by
 rw [lm,lm,<-Yd];rcases Nat.le_total l.length n with h | h
 ·rw [Zq h,Q4,Qo h]
 ·rw [Vp h]
theorem Zfy {l:List Nat} {n:Nat} (hn:n<=1000):Ub Tryz.prog 252 [.one (.row (lm l)),.one (.int .i64 (n:Int))] [.one (.row (lm (l.take n)))]:=by
 rw [<-Zbv];have hll:(lm l).length=l.length:=by simp [lm]
 exact w tt Tryz.func252 rfl [.r 9 (eI (b:=((min l.length n:Nat):Int)) (by omega)),.i (min l.length n)] rfl rfl (by simp [Ua,hll]; omega)
theorem Q3f {z:RawInt}:Ub Tryz.prog 197 [.agg (Qeo z),.one (.int .i64 1)] [.agg (Qeo z.cut)] :=
 w tt Tryz.func197 rfl [.c [] (Zfy (l:=z.l) (n:=1) (by decide))] rfl rfl trivial
def Qat (l:List RawInt):List (List LV):=l.map Qeo
theorem Qaa (l:List RawInt):(Qat l).length=l.length:=by simp [Qat]
theorem Qwr {l:List RawInt}:Ub Tryz.prog 196 [.one (.row (Qat l)),.one (.int .i64 3),.one (.int .i64 1)] [.one (.row (Qat ((l.take 3).map RawInt.cut)))]:=by
 have hll:=Qaa l;refine Gl Tryz.func196 rfl (ln 0 rfl rfl λhzl=>?_);rw [hll] at hzl;refine go tt [.o 7 51 2] rfl trivial ?_;refine lp (S:=Nat) 1 (λL1 i=>(8,.v (.one (.int .i64 (i:Int))))::(7,.v (.one (.orow 0 2 none)))::L1) (λi=>[.row false 51 2 (Qat ((l.take i).map RawInt.cut))]) (λi=>3-i) (λi=>i<=3/\i<=l.length) 0 ⟨by decide,Qi _⟩ rfl (λ_ _=>rfl) rfl λi ⟨hi,hi2⟩=>?_
 have hil:(Qat ((l.take i).map RawInt.cut)).length=i:=by rw [Qaa,Ze,Qy]; omega
 by_cases h1:i<l.length
 ·by_cases h2:i<3
  ·obtain ⟨z,hz⟩:=gxE (l:=l) (i:=i) h1;have hm:∀ y∈[Qeo z.cut],y.length=2:=λy hy=>by rw [Qp.1 hy]; rfl
   refine go tt [.g 13 true (decide_eq_true (by omega)),.t (decide_eq_true (by omega)),.x (Gx (f:=Qeo) hz),.c [] Q3f,.s (sz:=2) hm] rfl (by simp [Ua,hil,-List.map_take]; omega) ?_;exact rd (i+1) (by omega) ⟨h2,h1⟩ (by rw [Xa,hz]; simp [Qat]; rfl)
  ·have e:i=3:=by omega
   have e2:l.take 3=l.take i:=by rw [e]
   rw [e2];exact en tt [.g 13 true (decide_eq_true (by omega)),.f (decide_eq_false (by omega))] rfl rfl trivial
 ·have e:l.take i=l.take 3:=by rw [Qo (by omega),Qo (by omega)]
  rw [e];exact en tt [.g 13 false (decide_eq_false (by omega)),.f rfl] rfl rfl trivial
abbrev rcw (z:RawPt):List LV:=[.row (Qat z.x),.row (Qat z.y),.bool z.d.b,.row (lm z.d.l)]
def RawPt.cut (z:RawPt):RawPt:=⟨(z.x.take 3).map RawInt.cut,(z.y.take 3).map RawInt.cut,z.d.cut,z.id⟩
theorem Zio {z:RawPt}:Ub Tryz.prog 124 [.agg (rcw z),.one (.int .i64 3),.one (.int .i64 1)] [.agg (rcw z.cut)] :=
 w tt Tryz.func124 rfl [.c [] (Qwr (l:=z.x)),.c [] (Qwr (l:=z.y)),.c [] (Q3f (z:=z.d))] rfl rfl trivial
theorem Qbt {z:RawInt} (hz:z.Ok) {most:Int} (hm:0<=most/\most<=999):Ub Tryz.prog 198 [.agg (Qeo z),.one (.int .i64 most)] [.agg (Ft (Hz most z))]:=by
 obtain ⟨b,l⟩:=z;have hb:=Qa8 hm.1 ⟨b,l⟩;have hs:Ul (Hz most ⟨b,l⟩)<=100000000:=Qa (H7.2 (show (Hz most ⟨b,l⟩).natAbs<2^10 by omega)) (by decide);cases l with
 | nil=>exact w tt Tryz.func198 rfl [.t rfl] rfl (by simp [Hz,Dm]) trivial
 |
  cons u l =>
  have hu:=hz.u u (Qt ..);have co:=Cc (n:=Hz most ⟨b,u::l⟩) (by omega);have ct:=Q25 hs;have hr:Int.tmod (u:Int) (most+1)=(u:Int) % (most+1):=Ys (by omega);have h1:=Vy (u:Int) (b:=most+1) (by omega);have h2:=Yy (u:Int) (b:=most+1) (by omega);cases b with
  |
   true =>
   rw [show Hz most ⟨true,u::l⟩=-((u:Int) % (most+1)) from rfl] at co ct ⊢;exact w tt Tryz.func198 rfl [.f (decide_eq_false (by simp [lm]; try omega)),.x (l:=lm (u::l)) (i:=0) (xs:=[.int .u32 (u:Int)]) rfl,.r 18 (eI hr),.t rfl,.c [] co,.c [] ct] rfl rfl (by simp [Ua]; omega)
  |
   false =>
   rw [show Hz most ⟨false,u::l⟩=(u:Int) % (most+1) from rfl] at co ct ⊢;exact w tt Tryz.func198 rfl [.f (decide_eq_false (by simp [lm]; try omega)),.x (l:=lm (u::l)) (i:=0) (xs:=[.int .u32 (u:Int)]) rfl,.r 18 (eI hr),.f rfl,.c [] co,.c [] ct] rfl rfl (by simp [Ua]; omega)
theorem oz2 {P:Program} [Mo P] {n:Nat} {Q:Exit->Sg->List OB->Prop} {L L':Sg} {B B':List OB} (d off T sz:Nat) {it:List It} (hs:H8 it=true) (h:Q6y (P:=P) d L B [.oc d off T sz]=some (L',B',[],[])) (k:AK P n Q it L' B'):AK P n Q it L B:=AK.sub (Qu3 h EqOk.nil) hs k
theorem pz {P:Program} [Mo P] {n:Nat} {Q:Exit->Sg->List OB->Prop} {L L':Sg} {B B':List OB} (i:Nat) {it:List It} (hs:H8 it=true) (h:Q04 [i] L B=some (L',B')) (k:AK P n Q it L' B'):AK P n Q it L B:=AK.sub (Qcs h) hs k
def L9 (l:List Int):List (List LV):=l.map Ft
theorem Q0t (l:List Int):(L9 l).length=l.length:=by simp [L9]
theorem Qef {most:Int} {l:List RawInt} {i:Nat} {a:RawInt} (hi:i<3) (h:l[i]? = some a):L9 (Gg most (l.take (i+1)))=L9 (Gg most (l.take i))++[Ft (Hz most a)]:=by
 rw [Qnq hi h]; simp [L9]
theorem Qnp {most:Int} {l:List RawInt} {i:Nat} (hi:i<=3) (h:i<=l.length):(L9 (Gg most (l.take i))).length=i:=by
 rw [Q0t]; unfold Gg; rw [List.length_map,List.length_take,List.length_take]; omega
theorem Q2p {z:RawPt} (hz:z.Ok) {most:Int} (hm:0<=most/\most<=999):Ub Tryz.prog 125 [.agg (rcw z),.one (.int .i64 most)] [.agg (cl4 (Qcd most z.x z.y z.d))]:=by
 have hxl:=Qaa z.x;have hyl:=Qaa z.y;obtain ⟨D,hD⟩:=nmE (Hz 3 z.d);have cd:=Qbt hz.d (most:=3) (by decide);have hx0:∀ {i:Nat},z.x.length<=i\/3<=i->Gg most (z.x.take i)=Gg most z.x:=Qfe most;have hy0:∀ {i:Nat},z.y.length<=i\/3<=i->Gg most (z.y.take i)=Gg most z.y:=Qfe most;unfold Qcd;rw [<-hD] at cd ⊢;refine Gl Tryz.func125 rfl ?_;refine go tt [.c [] cd] rfl trivial ?_;refine oz2 5 0 51 2 rfl rfl ?_;refine lp (S:=Nat) 4 (λL1 i=>(6,.v (.one (.int .i64 (i:Int))))::L1) (λi=>[.blk 53 (rcw z),.blk 53 [.nils,.nils,.bool false,.nils],.blk 53 [.orow 3 2 none,.nils,sg D,mg D],.row false 51 2 (L9 (Gg most (z.x.take i)))]) (λi=>3-i) (λi=>i<=3/\i<=z.x.length) 0 ⟨by decide,Qi _⟩ rfl (λ_ _=>rfl) rfl λi ⟨hi,hi2⟩=>?_
 have hll:=Qnp (most:=most) hi hi2;by_cases hr:i<z.x.length/\i<3
 ·obtain ⟨a,ha⟩:=gxE (l:=z.x) (i:=i) hr.1;have hs:∀ y∈[Ft (Hz most a)],y.length=2:=λy hy=>by rw [Qp.1 hy]; rfl
  refine go tt [.g 17 true (decide_eq_true (by omega)),.t (decide_eq_true (by omega)),.x (Gx (f:=Qeo) ha),.c [] (Qbt (hz.x a (Qc ha)) hm),.s (sz:=2) hs] rfl (by simp [Ua,hll]; omega) ?_;exact rd (i+1) (by omega) ⟨hr.2,hr.1⟩ (by rw [Qef hr.2 ha]; rfl)
 have hg1:decide ((i:Int)<((Qat z.x).length:Int))=true->i<z.x.length:=λh=>by have:=of_decide_eq_true h; omega
 rw [hx0 (by omega)];clear hll;have hfin:∀ {j:Nat},j<=3/\j<=z.y.length->¬(j<z.y.length/\j<3)->L9 (Gg most (z.y.take j))=L9 (Gg most z.y):=λh1 h2=>by rw [hy0 (by omega)]
 by_cases hxx:i<z.x.length
 ·refine go tt [.g 17 true (decide_eq_true (by omega)),.f (decide_eq_false (by omega))] rfl trivial ?_;refine pz 3 rfl rfl ?_;refine oz2 5 1 51 2 rfl rfl ?_;refine lp (S:=Nat) 5 (λL1 j=>(7,.v (.one (.int .i64 (j:Int))))::L1) (λj=>[.blk 53 (rcw z),.blk 53 [.nils,.nils,.bool false,.nils],.blk 53 [.row (L9 (Gg most z.x)),.orow 4 2 none,sg D,mg D],.gone,.row false 51 2 (L9 (Gg most (z.y.take j)))]) (λj=>3-j) (λj=>j<=3/\j<=z.y.length) 0 ⟨by decide,Qi _⟩ rfl (λ_ _=>rfl) rfl λj ⟨hj,hj2⟩=>?_
  have hll:=Qnp (most:=most) hj hj2;by_cases hr:j<z.y.length/\j<3
  ·obtain ⟨a,ha⟩:=gxE (l:=z.y) (i:=j) hr.1;have hs:∀ y∈[Ft (Hz most a)],y.length=2:=λy hy=>by rw [Qp.1 hy]; rfl
   refine go tt [.g 40 true (decide_eq_true (by omega)),.t (decide_eq_true (by omega)),.x (Gx (f:=Qeo) ha),.c [] (Qbt (hz.y a (Qc ha)) hm),.s (sz:=2) hs] rfl (by simp [Ua,hll]; omega) ?_;exact rd (j+1) (by omega) ⟨hr.2,hr.1⟩ (by rw [Qef hr.2 ha]; rfl)
  rw [hfin ⟨hj,hj2⟩ hr];by_cases hyy:j<z.y.length
  ·exact ed tt [4] [] [.g 40 true (decide_eq_true (by omega)),.f (decide_eq_false (by omega))] rfl trivial
  ·exact ed tt [4] [] [.g 40 false (decide_eq_false (by omega)),.f rfl] rfl trivial
 ·refine go tt [.g 17 false (decide_eq_false (by omega)),.f rfl] rfl trivial ?_;refine pz 3 rfl rfl ?_;refine oz2 5 1 51 2 rfl rfl ?_;refine lp (S:=Nat) 5 (λL1 j=>(7,.v (.one (.int .i64 (j:Int))))::L1) (λj=>[.blk 53 (rcw z),.blk 53 [.nils,.nils,.bool false,.nils],.blk 53 [.row (L9 (Gg most z.x)),.orow 4 2 none,sg D,mg D],.gone,.row false 51 2 (L9 (Gg most (z.y.take j)))]) (λj=>3-j) (λj=>j<=3/\j<=z.y.length) 0 ⟨by decide,Qi _⟩ rfl (λ_ _=>rfl) rfl λj ⟨hj,hj2⟩=>?_
  have hll:=Qnp (most:=most) hj hj2;by_cases hr:j<z.y.length/\j<3
  ·obtain ⟨a,ha⟩:=gxE (l:=z.y) (i:=j) hr.1;have hs:∀ y∈[Ft (Hz most a)],y.length=2:=λy hy=>by rw [Qp.1 hy]; rfl
   refine go tt [.g 40 true (decide_eq_true (by omega)),.t (decide_eq_true (by omega)),.x (Gx (f:=Qeo) ha),.c [] (Qbt (hz.y a (Qc ha)) hm),.s (sz:=2) hs] rfl (by simp [Ua,hll]; omega) ?_;exact rd (j+1) (by omega) ⟨hr.2,hr.1⟩ (by rw [Qef hr.2 ha]; rfl)
  rw [hfin ⟨hj,hj2⟩ hr];by_cases hyy:j<z.y.length
  ·exact ed tt [4] [] [.g 40 true (decide_eq_true (by omega)),.f (decide_eq_false (by omega))] rfl trivial
  ·exact ed tt [4] [] [.g 40 false (decide_eq_false (by omega)),.f rfl] rfl trivial
theorem Zaa {n d:Int} (hn:-9223372036854775808<=n/\n<=9223372036854775807) (hd:-9223372036854775808<=d/\d<=9223372036854775807):Ub Tryz.prog 52 [.one (.int .i64 n),.one (.int .i64 d)] [.agg (fr (Fg (A8 n 61-30) (1+A8 d 6)))]:=by
 have h1:A8 n 61=n % 61:=rfl;have h2:A8 d 6=d % 6:=rfl;exact w tt Tryz.func52 rfl [.c [] (Qbs (v:=n) (n:=61) hn (by decide)),.c [] (Qbs (v:=d) (n:=6) hd (by decide)),.c [] (Zd6 (n:=A8 n 61-30) (d:=1+A8 d 6) (by omega) (by omega))] rfl rfl (by simp [Ua]; omega)
def rwq (z:RawPt):List LV:=rcw z++[.int .i64 z.id]
def Qcz (l:List RawPt):List (List LV):=l.map rwq
theorem Q1c (l:List RawPt):(Qcz l).length=l.length:=by simp [Qcz]
theorem Qop {l:List RawPt} {i:Nat} {z:RawPt} (h:l[i]? = some z):(Qcz l)[i]? = some (rwq z):=Gx h
theorem Zf6 {most:Int} (hm:0<=most/\most<=999) (z:RawPt):Cs 100000 16 (Oz most z).c:=(Qkd hm z.x z.y z.d).mono (by decide) (by decide)
def El (n:Nat) (most:Int) (zs:List RawPt) (i:Nat):List Pt:=Qel n most (zs.take i)
theorem Q60 (n:Nat) (most:Int) (zs:List RawPt) (i:Nat):(El n most zs i).length<=n:=Is _ _ (Qi _)
theorem Zcl {n:Nat} {most:Int} {zs:List RawPt} {i:Nat} {z:RawPt} (h:zs[i]? = some z) (hl:(El n most zs i).length<n) (ha:(El n most zs i).any (λx=>decide (x.id=(Oz most z).id))=true):El n most zs (i+1)=El n most zs i:=by
 unfold El Qel at *;rw [Xa,h,We,Ya];exact Ad _ _ _ hl ha
theorem Q61 {n:Nat} {most:Int} {zs:List RawPt} {i:Nat} {z:RawPt} (h:zs[i]? = some z) (hl:(El n most zs i).length<n) (ha:(El n most zs i).any (λx=>decide (x.id=(Oz most z).id))=false):El n most zs (i+1)=El n most zs i++[Oz most z]:=by
 unfold El Qel at *;rw [Xa,h,We,Ya];exact Lj _ _ _ hl ha
theorem Q6z {n:Nat} {most:Int} {zs:List RawPt} {i:Nat} (h:¬(i<zs.length/\(El n most zs i).length<n)):El n most zs i=Qel n most zs:=by
 by_cases h1:i<zs.length
 ·have hl:n<=(El n most zs i).length:=Yj λh2=>h ⟨h1,h2⟩
  unfold El Qel at *
  conv=>rhs; rw [<-Za i zs,Ya]
  exact (Qd1 _ _ _ hl).symm
 ·unfold El; rw [List.take_of_length_le (by omega)]
theorem Q13 {f:Pt->Bool} {l:List Pt} {k:Nat} {x:Pt} (h:l[k]? = some x):(l.take (k+1)).any f=((l.take k).any f || f x):=by
 rw [Xa,h]; simp
theorem Qzp {zs:List RawPt} (hz:∀ z∈zs,z.Ok):Hq Tryz.prog 63 [.one (.row (Qcz zs)),.one (.int .i64 4)] [] [.one (.orow 0 5 none),.one (.orow 1 7 none)] [.row false 135 5 (Ut (Qel 4 20 zs)),.row false 57 7 (U8 ((Qel 4 20 zs).map Pt.nrm))]:=by
 have hzl:=Q1c zs;refine Gl Tryz.func63 rfl (ln 0 rfl rfl λhz63=>?_);rw [hzl] at hz63;refine go tt [.o 6 135 5,.o 7 57 7] rfl trivial ?_;refine lp (S:=Nat) 2 (λL1 i=>(8,.v (.one (.int .i64 (i:Int))))::(6,.v (.one (.orow 0 5 none)))::(7,.v (.one (.orow 1 7 none)))::L1) (λi=>[.row false 135 5 (Ut (El 4 20 zs i)),.row false 57 7 (U8 ((El 4 20 zs i).map Pt.nrm))]) (λi=>zs.length-i) (λi=>i<=zs.length) 0 (Qi _) rfl (λ_ _=>rfl) rfl λi hi=>?_
 have hOl:=Q60 4 20 zs i;have hend:=Q6z (n:=4) (most:=20) (zs:=zs) (i:=i);by_cases h1:i<zs.length
 ·by_cases h2:(El 4 20 zs i).length<4
  ·obtain ⟨z,hzi⟩:=gxE (l:=zs) (i:=i) h1;have hzok:=hz z (Qc hzi);have hin:=Zcl hzi h2;have hout:=Q61 hzi h2;obtain ⟨O,hO⟩:=nmE (El 4 20 zs i);rw [<-hO] at hOl h2 hin hout ⊢;have hpl:=Pj O;have hrl:(U8 (O.map Pt.nrm)).length=O.length:=by rw [Sx,Ze]
   obtain ⟨p,hp⟩:=nmE (Oz 20 z);have hid:A8 z.id 1000=p.id:=by rw [hp]; rfl
   have cw:=Qbs (v:=z.id) (n:=1000) hzok.id (by decide);have cl:=Q2p hzok (most:=20) (by decide);have ecl:cl4 (Qcd 20 z.x z.y z.d)=cl4 p.c:=by rw [hp]; rfl
   rw [hid] at cw;rw [ecl] at cl;rw [<-hp] at hin hout;refine go tt [.g 16 true (decide_eq_true (by omega)),.t (decide_eq_true (by omega)),.x (Qop hzi),.c [] (Zio (z:=z)),.x (Qop hzi),.c [] cw,.f rfl,.t rfl,.x (Qop hzi),.c [] cl] rfl trivial ?_;refine lp (S:=Nat) 3 (λL1 k=>(57,.v (.one (.int .i64 (k:Int))))::(10,.v (.one (.bool ((O.take k).any (λx=>decide (x.id=p.id))))))::L1) (λ_=>[.row false 135 5 (Ut O),.row false 57 7 (U8 (O.map Pt.nrm)),.blk 135 [pl p.c.x,pl p.c.y,sg p.c.d,mg p.c.d,.int .i64 p.id]]) (λk=>O.length-k) (λk=>k<=O.length) 0 (Qi _) rfl (λ_ _=>rfl) rfl λk hk=>?_
   by_cases hk2:k<O.length
   ·obtain ⟨x,hx⟩:=gxE (l:=O) (i:=k) hk2;have ha:=Q13 (f:=λx=>decide (x.id=p.id)) hx;cases hb:(O.take k).any (λx=>decide (x.id=p.id)) with
    |
     true =>
     rw [hb,Bool.true_or] at ha;exact go tt [.t (decide_eq_true (by omega)),.g 61 true rfl] rfl (by simp [Ua]; omega) (rd (k+1) (by omega) hk2 (by rw [ha]; rfl))
    |
     false =>
     rw [hb,Bool.false_or] at ha;exact go tt [.t (decide_eq_true (by omega)),.g 61 false rfl,.i k,.x (M6 hx)] rfl (by simp [Ua,hpl]; omega) (rd (k+1) (by omega) hk2 (by rw [ha]; rfl))
   have hk3:O.take k=O:=Qo (by omega);rw [hk3];cases hb:O.any (λx=>decide (x.id=p.id)) with
   |
    true =>
    refine go tt [.f (decide_eq_false (by omega)),.f rfl] rfl (by simp [Ua]; omega) ?_;exact rd (i+1) (by omega) h1 (by rw [hin hb]; rfl)
   |
    false =>
    have cf:=Q3t (k:=p.c) (id:=p.id) (by rw [hp]; exact Zf6 (by decide) z);have hm1:∀ y∈[P9 p],y.length=5:=λy hy=>by rw [Qp.1 hy]; rfl
    have hm2:∀ y∈[rpt p.nrm],y.length=7:=λy hy=>by rw [Qp.1 hy]; rfl
    have e1:Ut (O++[p])=Ut O++[P9 p]:=by simp [Ut]
    have e2:U8 ((O++[p]).map Pt.nrm)=U8 (O.map Pt.nrm)++[rpt p.nrm]:=by simp [U8]
    refine go tt [.f (decide_eq_false (by omega)),.t rfl,.s (sz:=5) hm1,.c [] cf,.s (sz:=7) hm2] rfl (by simp [Ua,hpl,hrl]; omega) ?_;exact rd (i+1) (by omega) h1 (by rw [hout hb,e1,e2]; rfl)
  ·rw [hend (λh=>h2 h.2)];rw [hend (λh=>h2 h.2)] at h2;have hpl:=Pj (Qel 4 20 zs);exact ed tt [] [0,1] [.g 16 true (decide_eq_true (by omega)),.f (decide_eq_false (by omega))] rfl trivial
 ·rw [hend (λh=>h1 h.1)];exact ed tt [] [0,1] [.g 16 false (decide_eq_false (by omega)),.f rfl] rfl trivial
abbrev plZ (M:List Pt) (q:Rat):List LV:=.row (U8 M)::(fr q++[.nils,.nils,.nils,.bool false,.nils,.bool false,.nils,.bool false,.nils,.bool false,.nils,.int .i64 0,.nils])
abbrev plB (M:List Pt) (q:Rat) (c:List (List Int)) (w:List Ct):List LV:=.row (U8 M)::(fr q++(aq q c++[.row (Ri w),.int .i64 0,.nils]))
theorem Qtl {M:List Pt} {q:Rat} {c:List (List Int)} (hM:∀ p∈M,Rs p.c) (hl:M.length≤1000) (hq:Qs 1000000 q) (hC:Qv4 q c):Hq Tryz.prog 107 [.one (.ow 0 0)] [.blk 195 (plZ M q)] [] [.blk 195 (plB M q c (Oc q M))]:=by
 have hw:(Oc q M).length<=1000000:=by
  unfold Oc;rw [Tv,Cy,Tv]; omega
 refine Gl Tryz.func107 rfl ?_;exact ed tt [] [0] [.c [] (Qpo hq hC),.c [] (Qs4 (cs:=c) hM hl hq),.c [] (Q3u hw)] rfl trivial
end Orr
namespace Orr
open Go Go.Proofs Orq
set_option maxRecDepth 10000
theorem Za7 {O:List Pt} {e j:Nat} (h:Lf (Tl O e)) (hj:j<=e):Lf (Tl O j):=by
 have:Tl O j=(Tl O e).take j:=by unfold Tl; rw [<-List.map_take,List.take_take,Nat.min_eq_left hj]
 rw [this];exact List.Pairwise.sublist (Wl _ _) h
theorem Zf8 (O:List Pt):∃ e,e<=O.length/\Lf (Tl O e)/\(e<O.length->¬Lf (Tl O (e+1))):=by
 have key:∀ k,Lf (Tl O k)\/∃ e,e<k/\Lf (Tl O e)/\¬Lf (Tl O (e+1)):=by
  intro k
  induction k with
  | zero=>exact .inl List.Pairwise.nil
  |
   succ k ih =>
   rcases ih with h | ⟨e,h1,h2,h3⟩
   ·by_cases h4:Lf (Tl O (k+1))
    ·exact .inl h4
    ·exact .inr ⟨k,Nat.lt_succ_self k,h,h4⟩
   ·exact .inr ⟨e,by omega,h2,h3⟩
 rcases key O.length with h | ⟨e,h1,h2,h3⟩
 ·exact ⟨O.length,Qk _,h,λh=>absurd h (Wi _)⟩
 ·exact ⟨e,by omega,h2,λ_=>h3⟩
theorem Qob {O:List Pt} {i:Nat} {p:Pt} (h:O[i]? = some p):(Ut (O3 O i)).set i [pl p.c.x,pl p.c.y,sg p.c.d,mg p.c.d,.int .i64 p.m5.id]=Ut (O3 O (i+1)):=by
 rw [<-Qya h]; simp only [Ut,Vi]; rfl
theorem Qjz {O:List Pt} {i:Nat} {p:Pt} (h:O[i]? = some p):(U8 ((O3 O i).map Pt.nrm)).set i [rp (rxs p.nrm.c.x p.nrm.c.d),rp (rxs p.nrm.c.y p.nrm.c.d),pl p.nrm.c.x,pl p.nrm.c.y,sg p.nrm.c.d,mg p.nrm.c.d,.int .i64 p.m5.id]=U8 ((O3 O (i+1)).map Pt.nrm):=by
 rw [<-Qya h]; simp only [U8,Vi]; rfl
theorem Q03 {O:List Pt} {e i:Nat} (h:e<=i) (hi:i<=O.length):(Ut (O3 O i)).take e=Ut (Tl O e):=by
 unfold Ut; rw [<-List.map_take,Qq3 h hi]; rfl
theorem Qvh {O:List Pt} {e i:Nat} (h:e<=i) (hi:i<=O.length):(U8 ((O3 O i).map Pt.nrm)).take e=U8 (Qaj O e):=by
 unfold U8; rw [<-List.map_take,<-List.map_take,Qq3 h hi]; rfl
theorem Qq2 {O:List Pt}:O3 O O.length=Tl O O.length:=by unfold O3 Tl; simp
abbrev Aq (n d:Int):Rat:=Fg (A8 n 61-30) (1+A8 d 6)
theorem Ql2 (n d:Int):Qs 100 (Aq n d):=by
 have h1:A8 n 61=n % 61:=rfl;have h2:A8 d 6=d % 6:=rfl;unfold Aq Fg;rw [if_neg (by omega)];exact Qs.divInt (Qa (H7.2 (show (A8 n 61-30).natAbs<2^10 by omega)) (by decide)) (Qa (H7.2 (show (1+A8 d 6).natAbs<2^10 by omega)) (by decide)) (by decide)
theorem Zcm {n:Nat} {most:Int} {l:List RawPt}:∀ p∈Qel n most l,0≤p.id/\p.id<1000:=λp hp=>by
 rcases Qb3 _ _ hp with h | h
 ·cases h
 ·obtain ⟨z,_,rfl⟩:=Zr.1 h;exact ⟨Vy _ (by decide),Yy _ (by decide)⟩
theorem Qzt {zs:List RawPt} {n d:Int} {O M:List Pt} {e:Nat} {c:List (List Int)} (hz:∀ z∈zs,z.Ok) (hO:Qel 4 20 zs=O) (he:e≤O.length) (hd:Lf (Tl O e)) (hm:e<O.length->¬Lf (Tl O (e+1))) (hn:-9223372036854775808≤n/\n≤9223372036854775807) (hdd:-9223372036854775808≤d/\d≤9223372036854775807) (hC:Qv4 (Aq n d) c) (hM:M=Gv Qak (Qaj O e)) :
 Hq Tryz.prog 42 [.one (.row (Qcz zs)),.one (.int .i64 n),.one (.int .i64 d)] [] [.one (.ow 0 0),.one (.ow 1 0),.one (.bool true)] [.blk 120 (Bt (Qzk M (tq (Aq n d))) (Ut M) (brS M (tq (Aq n d)))),.blk 195 (plB M (Aq n d) c (Oc (Aq n d) M))]:=by
 have hO4:O.length<=4:=by rw [<-hO]; exact Is _ _ (Qi _)
 have hid:∀ p∈O,-9223372036854775808≤p.id/\p.id≤9223372036854775807:=λp hp=>by
  rw [<-hO] at hp; have:=Zcm p hp; omega
 have hlit:∀ p∈O,Qzf p:=λp hp=>by rw [<-hO] at hp; exact Qk7 (by decide) p hp
 have hcl:(Tl O e).length=e:=Qbx he;have hcn:(Qaj O e).length=e:=by rw [Qfh,hcl]
 have hMl:M.length=e:=by rw [hM,Tv,hcn]
 have hok:∀ p∈M,Nml p.c/\Cs 10 3 p.c:=λp hp=>by rw [hM,C3] at hp; exact Qw8 hlit e p hp
 have hq:=Ql2 n d;obtain ⟨q,hqq⟩:=nmE (Aq n d);have cb:=Zam (l:=Qaj O e) (by omega);rw [<-hM] at cb;rw [<-hqq] at hq hC ⊢;have csm:=Zaa hn hdd;have c2:=Qtl (M:=M) (q:=q) (c:=c) (λp hp=>⟨(hok p hp).1,(hok p hp).2.mono (by decide) (by decide)⟩) (by omega) (hq.mono (by decide)) hC;have ctr:=Qwm (q:=q) (hq.mono (by decide));have hnl:=Q0w (qs:=Qaj O e) (by omega) (Qkf hd);have hnl2:Rz [] (Qaj O e)=(M,0):=by rw [hM,<-hnl.2,<-hnl.1]
 have cs:=Qwl (zs:=Ut (Tl O e)) (qs:=Qaj O e) (l:=M) (n:=q.num) (d:=(q.den:Int)) (Qk4 λp hp=>(Qp0 hlit e p hp).mono (by decide) (by decide)) (by omega) hnl2 (λp hp=>⟨(hok p hp).1,(hok p hp).2.mono (by decide) (by decide)⟩) (by omega) (Uc q.num) (Uc (q.den:Int)) (Qa hq.1 (by decide)) (Qa hq.2 (by decide)) (by rw [An]; exact hq.mono (by decide));rw [An] at cs;rw [show Fg (A8 n 61-30) (1+A8 d 6)=q from hqq.symm] at csm;have cp:=Qzp hz;rw [hO] at cp;refine Gl Tryz.func42 rfl ?_;refine go tt [.c [0,1] cp] rfl trivial ?_;have h0l:=Pj O;refine ct 2 (S:=Unit) (λ_=>[(1,.v (.one (.int .i64 n))),(2,.v (.one (.int .i64 d))),(9,.v (.one (.row (Ut (Tl O e))))),(10,.v (.one (.row (U8 (Qaj O e)))))]) (λ_=>[.gone,.gone]) (λ_=>True) rfl ?_ (λ_ _=>?_)
 ·refine lp (S:=Nat) 2 (λL1 i=>(23,.v (.one (.int .i64 (i:Int))))::(9,.v (.one (.orow 0 5 none)))::(10,.v (.one (.orow 1 7 none)))::L1) (λi=>[.row false 135 5 (Ut (O3 O i)),.row false 57 7 (U8 ((O3 O i).map Pt.nrm))]) (λi=>O.length-i) (λi=>i<=O.length/\i<=e/\Lf (Tl O i)) 0 ⟨Qi _,Qi _,List.Pairwise.nil⟩ rfl (λ_ _=>rfl) (by rw [Q56]; rfl) λi ⟨hi,hie,hdi⟩=>?_
  have hl1:(Ut (O3 O (i+1))).length=O.length:=by rw [Pj,Qgi]
  have hl0:(Ut (O3 O i)).length=O.length:=by rw [Pj,Qgi]
  have hr0:(U8 ((O3 O i).map Pt.nrm)).length=O.length:=by rw [Sx,Ze,Qgi]
  have hr1:(U8 ((O3 O (i+1)).map Pt.nrm)).length=O.length:=by rw [Sx,Ze,Qgi]
  by_cases h:i<O.length
  ·obtain ⟨p,hp⟩:=gxE (l:=O) (i:=i) h;have hx:=Zbz hp;have hxn:((O3 O i).map Pt.nrm)[i]? = some p.nrm:=by rw [Q7,hx]; rfl
   have cw:=Qbs (v:=p.id) (n:=5) (hid p (Qc hp)) (by decide);rw [show A8 p.id 5=p.m5.id from rfl] at cw;refine go tt [.t (decide_eq_true (by omega)),.i i,.x (M6 hx),.c [] cw,.i i,.x (M6 hx),.c [] cw,.i i,.x (M6 hx),.i i,.x (Tk hxn)] rfl (by simp [Ua,hl0,hr0]; omega) ?_;rw [Qob hp,Qjz hp];refine lp (S:=Nat) 2 (λL1 j=>(12,.v (.one (.int .i64 (j:Int))))::(9,.v (.one (.orow 0 5 none)))::(10,.v (.one (.orow 1 7 none)))::L1) (λ_=>[.row false 135 5 (Ut (O3 O (i+1))),.row false 57 7 (U8 ((O3 O (i+1)).map Pt.nrm))]) (λj=>i-j) (λj=>j<=i/\∀ k x,k<j->O[k]? = some x->x.m5.id≠p.m5.id) 0 ⟨Qi _,λk x h=>absurd h (W4 _)⟩ rfl (λ_ _=>rfl) rfl λj ⟨hj,hjn⟩=>?_
   by_cases hji:j<i
   ·obtain ⟨x,hxj⟩:=gxE (l:=O) (i:=j) (by omega);have g1:=Qx9 (i:=i+1) (show j<i+1 by omega) hxj;have g2:=Qx9 (i:=i+1) (show i<i+1 by omega) hp;by_cases hq:x.m5.id=p.m5.id
    ·have hnd:¬Lf (Tl O (i+1)):=λhD=>by
      have:=List.pairwise_iff_getElem.1 hD j i (by rw [Qbx (by omega)]; omega) (by rw [Qbx (by omega)]; omega) hji;refine this ?_;have e1:(Tl O (i+1))[j]? = some x.m5:=by unfold Tl; rw [List.getElem?_map,List.getElem?_take,if_pos (by omega),hxj]; rfl
      have e2:(Tl O (i+1))[i]? = some p.m5:=by unfold Tl; rw [List.getElem?_map,List.getElem?_take,if_pos (by omega),hp]; rfl
      rw [(Qf.1 e1).2,(Qf.1 e2).2]; exact hq
     have hie2:i=e:=by
      rcases Q5 i e with h3 | h3
      ·exact absurd (Za7 hd h3) hnd
      ·omega
     have c1:(Ut (O3 O (i+1))).take i=Ut (Tl O e):=by rw [Q03 (by omega) (by omega),hie2]
     have c2:(U8 ((O3 O (i+1)).map Pt.nrm)).take i=U8 (Qaj O e):=by rw [Qvh (by omega) (by omega),hie2]
     refine go tt [.t (decide_eq_true (by omega)),.i j,.x (M6 g1),.i i,.x (M6 g2),.t (decide_eq_true hq),.i i,.i i] rfl (by simp [Ua,hl1,hr1]; omega) ?_;refine pz 0 rfl rfl ?_;refine pz 1 rfl rfl ?_;exact go tt [.t (decide_eq_true (by omega))] rfl trivial (rc () trivial (by rw [c1,c2]; rfl))
    ·refine go tt [.t (decide_eq_true (by omega)),.i j,.x (M6 g1),.i i,.x (M6 g2),.f (decide_eq_false hq)] rfl (by simp [Ua,hl1]; omega) ?_;exact rd (j+1) (by omega) ⟨hji,λk y hk hy=>by
      rcases Q5 k j with h3 | h3
      ·exact hjn k y h3 hy
      ·have:k=j:=by omega
       subst this; rw [hxj] at hy; injection hy with hy; rw [<-hy]; exact hq⟩ rfl
   ·have hji2:j=i:=by omega
    rw [hji2] at hjn;have hD:=Qz9 hp hdi hjn;have hle:i+1<=e:=by
     rcases Q5 i e with h3 | h3
     ·exact h3
     ·have:i=e:=by omega
      rw [this] at hD h;exact absurd hD (hm h)
    refine go tt [.f (decide_eq_false (by omega)),.f (decide_eq_false (by omega))] rfl (by simp [Ua]; omega) ?_;exact rd (i+1) (by omega) ⟨h,hle,hD⟩ rfl
  ·have hiO:i=O.length:=by omega
   have hie2:i=e:=by omega
   have c1:Ut (O3 O i)=Ut (Tl O e):=by rw [<-hie2,hiO,Qq2]
   have c2:U8 ((O3 O i).map Pt.nrm)=U8 (Qaj O e):=by rw [<-hie2,hiO,Qq2]; rfl
   refine go tt [] rfl trivial ?_;rw [c1,c2];refine pz 0 rfl rfl ?_;refine pz 1 rfl rfl ?_;exact go tt [.f (decide_eq_false (by omega))] rfl trivial (rc () trivial rfl)
 ·exact ed tt [] [3,2] [.c [] cb,.c [] csm,.c [2] c2,.c [] ctr,.c [3] cs,.g 96 true rfl] rfl trivial
theorem Q9u {c c':Cr} {l l' s s':List Pt} (hs:s.length<=1000000) (hs':s'.length<=1000000):Hq Tryz.prog 46 [.one (.ow 0 0),.one (.ow 1 0)] [.blk 120 (Bt c (Ut l) (Ut s)),.blk 120 (Bt c' (Ut l') (Ut s'))] [.one (.bool (decide (s.map (·.id)=s'.map (·.id))))] [.blk 120 (Bt c (Ut l) (Ut s)),.blk 120 (Bt c' (Ut l') (Ut s'))]:=by
 have h1:=Qmn (c:=c) (l:=l) (s:=s) hs;have h2:=Qmn (c:=c') (l:=l') (s:=s') hs';have h3:=Qtf (a:=s.map (·.id)) (b:=s'.map (·.id)) (by simpa using hs) (by simpa using hs');refine Gl Tryz.func46 rfl ?_;exact ed tt [] [0,1] [.c [0] h1,.c [1] h2,.c [] h3] rfl trivial
theorem Q2b {c c':Cr} {l l' m:List Pt} {a:Tm} {r:List (List LV)} (hm:m.length<=1000000) (hr:r=brS m a):Hq Tryz.prog 46 [.one (.ow 0 0),.one (.ow 1 0)] [.blk 120 (Bt c (Ut l) r),.blk 120 (Bt c' (Ut l') r)] [.one (.bool true)] [.blk 120 (Bt c (Ut l) r),.blk 120 (Bt c' (Ut l') r)]:=by
 have h:=Q9u (c:=c) (c':=c') (l:=l) (l':=l') (s:=Em a m) (s':=Em a m) (by rw [By]; exact hm) (by rw [By]; exact hm);rw [decide_eq_true rfl] at h;rw [hr]; exact h
end Orr
namespace Orq
open Orr Go
theorem Zhy {a b:Tm} (ha:Cut (Up a)) (hb:Cut (Up b)) (h:¬Pd a b) (h':¬Pd b a):∀ q,Up a q=Up b q:=by
 rcases tri ha hb with h1 | h1 | h1
 ·exact absurd h1 h
 ·exact h1
 ·exact absurd h1 h'
theorem Zdm {a b b':Tm} (h:∀ q,Up b q=Up b' q):Pd a b↔Pd a b':=by
 unfold Pd; simp only [h]
theorem Q8q {a b b':Tm} (h:∀ q,Up b q=Up b' q):Pd b a↔Pd b' a:=by
 unfold Pd; simp only [h]
theorem Q6g {p:List Int} {a:Tm} (ha:Va a) {t t':Tm} (h:Rx p a (some t)) (h':Rx p a (some t')):∀ q,Up t q=Up t' q:=by
 obtain ⟨_,v,l,s,s0,h4,h5⟩:=h;obtain ⟨_,v',l',s',s0',h4',h5'⟩:=h';have es:s=s':=Qcy (h4 _ ha.cut (λ_ h=>h) l) (h4' _ ha.cut (λ_ h=>h) l');refine Zhy v.cut v'.cut (λhlt=>?_) λhlt=>?_
 ·have:=Qcy (h4' _ v.cut (Qa7 ha.cut v.cut (Qnt ha.cut v.cut l)) hlt) h5;omega
 ·have:=Qcy (h4 _ v'.cut (Qa7 ha.cut v'.cut (Qnt ha.cut v'.cut l')) hlt) h5';omega
theorem Qrc {p:List Int} {a:Tm} (ha:Va a) {t:Tm} (h:Rx p a (some t)) (h':Rx p a none):False:=by
 obtain ⟨h1,v,l,s,s0,h4,h5⟩:=h;rcases h' with h' | ⟨s',s0',h'⟩
 ·exact h1 h'
 ·have e1:=Qcy (h' _ ha.cut λ_ h=>h) (h4 _ ha.cut (λ_ h=>h) l);have e2:=Qcy (h' _ v.cut (Qa7 ha.cut v.cut (Qnt ha.cut v.cut l))) h5;omega
structure Quiet {β:Type} (Bc:Tm->List Ct) (Br:Tm->β) (a b:Tm):Prop where
 va:Va a
 vb:Va b
 le:¬Pd b a
 n:∀ x∈Bc a,∃ o,Rx x.p a o/\∀ u,o=some u->Pd b u
section
variable {β:Type} {Bc:Tm->List Ct} {Br:Tm->β} (S:Stab Bc Br)
include S
theorem Quiet.same {a b:Tm} (h:Quiet Bc Br a b):Bc b=Bc a/\Br b=Br a:=by
 refine S.st a b h.va h.vb λx hx=>?_
 obtain ⟨o,o1,o2⟩:=h.n x hx;exact Qd3 (S.ok.p _ h.va _ hx).dp h.va h.vb h.le o1 o2
end
theorem Zdo {p:List Int} (h:Cp p):(tms p).length<=67:=by
 obtain ⟨l,l1,l2,_⟩:=Oi h;unfold tms; rw [l1]; exact l2
theorem Qy8:∀ {Ps:List (List Int)},(∀ p∈Ps,Cp p)->(Ps.flatMap tms).length≤67*Ps.length
 | [],_=>Qi _
 |
  p::Ps,h=>by
  have h1:=Zdo (h p (by simp));have h2:=Qy8 (Ps:=Ps) λq hq=>h q (Qj _ hq)
  rw [Ka,Zb,Q8]; omega
theorem Zjq (T:List Tm) (a:Tm):mu T a<=T.length:=List.length_filter_le _ _
theorem Zfb {β:Type} {Bc:Tm->List Ct} {Br:Tm->β} (S:Stab Bc Br) {Ps:List (List Int)} (hP:∀ p∈Ps,Cp p) (hPs:∀ a,Va a->∀ x∈Bc a,x.p∈Ps) (hl:Ps.length≤1000000) {t:Rat} (ht:Qs 400000 t) {c:Cr} {r:β} (hS:KSt Bc Br c r) (h:Up c.now t≤0) :
 ∃ (K:Nat) (c':Cr) (E:List Tm),K<=67000001/\goF Bc Br t K c r 0=some (c',Br (tq t),((E.length:Nat):Int))/\c'.now=tq t/\KSt Bc Br c' (Br (tq t))/\c'.ev=c.ev+((E.length:Nat):Int)/\E.length<=67000000/\Evs Bc t c.now E:=by
 have hm:=Qy8 hP;have hmu:=Zjq (Ps.flatMap tms) c.now;have hv:=hS.inv.ok.n;obtain ⟨c',r',E,g1,g2,g3,g4,g5,g6⟩:=Zjb S ht hP hPs (mu (Ps.flatMap tms) c.now) c r 0 (Qk _) hS λh'=>by
  have:=(Ii hv.cut).2 h'; omega
 have hr:r'=Br (tq t):=by rw [g3.r,g2]
 rw [hr] at g1 g3;rw [Int.zero_add] at g1;exact ⟨_,c',E,by omega,g1,g2,g3,g4,by omega,g6⟩
theorem Zfj {β:Type} {Bc:Tm->List Ct} {Br:Tm->β} (S:Stab Bc Br) {a:Tm} (ha:Va a):KSt Bc Br ⟨a,(Gk (Bc a)).map fresh,0⟩ (Br a):=by
 refine ⟨⟨⟨ha,λw hw=>?_,?_⟩,λw hw hk=>?_⟩,?_,rfl⟩
 ·obtain ⟨x,hx,rfl⟩:=Zr.1 hw;exact ⟨S.ok.p _ ha x (Qad hx),λt ht=>by cases ht⟩
 ·show ((Gk (Bc a)).map fresh).length<=1000;rw [Ze,Nz]; exact S.ok.n _ ha
 ·obtain ⟨x,hx,rfl⟩:=Zr.1 hw;cases hk
 ·show ((Gk (Bc a)).map fresh).map (·.c)=Gk (Bc a);rw [List.map_map];show (Gk (Bc a)).map (λx=>x)=_;rw [List.map_id']
end Orq
namespace Orr
open Go Go.Proofs Orq
theorem Q7y {x y:Int} (hx:-9223372036854775808<=x/\x<=9223372036854775807) (hy:-9223372036854775808<=y/\y<=9223372036854775807):Sc (Q8f x y):=⟨Crv.nml _,((Qpz hx hy).norm (by decide)).mono (by decide) (by decide)⟩
theorem Sc.pt {p:Pt} (h:Sc p.c):Q1y 4294967294 1073741824 p:=⟨h.n,h.c.mono (by decide) (by decide)⟩
end Orr
namespace Orr
open Go Go.Proofs
set_option maxRecDepth 10000
theorem Q2w {n:Nat} (hn:n<=256):Ub Tryz.prog 187 [.agg (Ft 1),.one (.int .i64 (n:Int))] [.agg (Ft 1)]:=by
 have cm:=Ns (Uc 1) (Uc 1) (by decide) (by decide);rw [show (1:Int)*1=1 from rfl] at cm;refine Gl Tryz.func187 rfl ?_;refine go tt [.c [] (Qjn (z:=1) (by decide)),.r 8 (v:=.one (.int .i64 (n:Int))) (by simp; omega),.r 9 (v:=.one (.int .i64 (n:Int))) (by simp)] rfl trivial ?_;refine lp (S:=Nat) 3 (λL1 i=>(10,.v (.one (.int .i64 (i:Int))))::L1) (λ_=>[.blk 51 (Ft 1),.blk 51 [.bool false,.nils],.blk 51 (Ft 1)]) (λi=>n-i) (λi=>i<=n) 0 (Qi _) rfl (λ_ _=>rfl) rfl λi hi=>?_
 by_cases h:i<n
 ·refine go tt [.t (by simp; omega),.c [] cm] rfl (by simp [Ua]; omega) ?_;exact rd (i+1) (by omega) h rfl
 ·obtain rfl:i=n:=by omega
  exact en tt [.f (by simp)] rfl rfl trivial
theorem Q93:Ub Tryz.prog 184 [pr [],.agg (Ft 0),.agg (Ft 1)] [pr [],.one (.int .i64 0)]:=by
 have n0:=S6 (Uc 0) (by decide);have n1:=S6 (Uc 1) (by decide);have cn:=Gq (p:=[]) rfl (by decide) Np;refine Gl Tryz.func184 rfl ?_;refine go tt [.c [] n1,.c [] (B7 (z:=1)),.f rfl,.c [] cn,.z 8,.c [] n0,.c [] n1,.c [] (Qjn (z:=1) (by decide))] rfl (by simp [Ua]) ?_;refine lp (S:=Unit) 3 (λL1 _=>(11,.v (.one (.int .i64 (-1))))::(8,.v (pr []))::L1) (λ_=>[.blk 51 (Ft 0),.blk 51 (Ft 1),.blk 51 (Ft 1)]) (λ_=>0) (λ_=>True) () trivial rfl (λ_ _=>rfl) rfl λ_ _=>?_
 exact en tt [.f (b:=decide ((0:Int)<=-1)) (by decide)] rfl rfl trivial
theorem Q94:Ub Tryz.prog 184 [pr [0,1],.agg (Ft 0),.agg (Ft 1)] [pr [0,1],.one (.int .i64 0)]:=by
 have n0:=S6 (Uc 0) (by decide);have n1:=S6 (Uc 1) (by decide);have b01:Bd 4 ([0,1]:List Int):=λz hz=>by rcases Qq.1 hz with rfl | hz; decide; rw [Qp.1 hz]; decide
 have b1:Bd 4 ([1]:List Int):=λz hz=>by rw [Qp.1 hz]; decide
 have b0:Bd 4 ([0]:List Int):=λz hz=>by rw [Qp.1 hz]; decide
 have cn:=Gq (p:=[0,1]) rfl (by decide) (W9 b01 (by decide));have m1:=Qtc (p:=[]) (q:=[0,1]) (s:=4) (t:=4) rfl rfl (by decide) (by decide) Np b01 (by decide);have m2:=Qtc (p:=[1]) (q:=[0,1]) (s:=4) (t:=4) rfl rfl (by decide) (by decide) b1 b01 (by decide);have a1:=Qtb (p:=[]) (q:=[1]) (by decide) (by decide) Np (W9 b1 (by decide));have a2:=Qtb (p:=[0,1]) (q:=[0]) (by decide) (by decide) (W9 b01 (by decide)) (W9 b0 (by decide));rw [show Fu [] [0,1]=[] from rfl] at m1;rw [show Fu [1] [0,1]=[0,1] from rfl] at m2;rw [show Qal [] [1]=[1] from rfl] at a1;rw [show Qal [0,1] [0]=[0,1] from rfl] at a2;have w1:=Ns (Uc 1) (Uc 1) (by decide) (by decide);have w0:=Ns (Uc 0) (Uc 1) (by decide) (by decide);rw [show (1:Int)*1=1 from rfl] at w1;rw [show (0:Int)*1=0 from rfl] at w0;refine Gl Tryz.func184 rfl ?_;refine go tt [.c [] n1,.c [] (B7 (z:=1)),.f rfl,.c [] cn,.z 8,.c [] n0,.c [] n1,.c [] (Qjn (z:=1) (by decide)),.r 25 (eI (b:=1) rfl)] rfl (by simp [Ua]) ?_;refine lp (S:=Nat) 3 (λL1 k=>(11,.v (.one (.int .i64 (if k=2 then 1 else if k=1 then 0 else -1))))::(8,.v (pr (if k=2 then [] else if k=1 then [1] else [0,1])))::L1) (λ_=>[.blk 51 (Ft 0),.blk 51 (Ft 1),.blk 51 (Ft 1)]) (λk=>k) (λk=>k<=2) 2 (Qk _) rfl (λ_ _=>rfl) rfl λk hk=>?_
 rcases (show k=0\/k=1\/k=2 by omega) with rfl | rfl | rfl
 ·exact en tt [.f (b:=decide ((0:Int)<=-1)) (by decide)] rfl rfl trivial
 ·refine go tt [.t rfl,.c [] m2,.x (i:=0) (xs:=Ft 0) rfl,.c [] w0,.c [] a2,.c [] w1,.r 29 (eI (b:=-1) rfl)] rfl (by simp [Ua]) ?_;exact rd 0 (by omega) (by omega) rfl
 ·refine go tt [.t rfl,.c [] m1,.x (i:=1) (xs:=Ft 1) rfl,.c [] w1,.c [] a1,.c [] w1,.r 29 (eI (b:=0) rfl)] rfl (by simp [Ua]) ?_;exact rd 1 (by omega) (by omega) rfl
abbrev Q7u:Crv:=⟨[0,1],[],1⟩
theorem Qq8:Nml Q7u:=⟨rfl,rfl,by decide,by decide⟩
theorem cs_run1:Cs 3 3 Q7u:=by
 refine ⟨λz hz=>?_,λz hz=>(by cases hz),by decide,by decide,by decide⟩;rcases Qq.1 hz with rfl | hz
 ·decide
 ·rw [Qp.1 hz]; decide
theorem Cs.up {s n s' n':Nat} {k:Crv} (h:Cs s n k) (hs:s<=s') (hn:n<=n'):Cs s' n' k:=⟨W9 h.x hs,W9 h.y hs,Qa h.d hs,Qa h.lx hn,Qa h.ly hn⟩
theorem Zar {x y x' y':LV} {n d:Int} (h1:He x y n) (h2:He x' y' d) (hn:Ul n<=4294967295) (hd:Ul d<=4294967295) (hq:Qs 4294967295 (Fg n d)):Ub Tryz.prog 183 [.agg [x,y,x',y']] [.agg (rl (-(Fg n d)))]:=by
 have c1:=Qbw h1 h2 hn hd;obtain ⟨b,l,rfl,rfl,_⟩:=h1;obtain ⟨b',l',rfl,rfl,_⟩:=h2;exact w tt Tryz.func183 rfl [.c [] c1,.c [] (Qe5 (Uc _) hq.1)] rfl rfl trivial
theorem Zfu:Ub Tryz.prog 111 [.one (.row [[.bool false,.row []],[.bool false,.row [[.int .u32 1]]]]),.one (.row []),.agg [.bool false,.row [],.bool false,.row []]] [.agg (cl Q7u)]:=by
 have i01:IsInts [[.bool false,.row []],[.bool false,.row [[.int .u32 1]]]] [0,1]:=by
  refine ⟨⟨_,_,rfl,false,[],rfl,rfl,(λx hx=>by cases hx),rfl⟩,⟨_,_,rfl,false,[1],rfl,rfl,(λx hx=>by rw [Qp.1 hx]; decide),rfl⟩,trivial⟩
 have cn:=Be i01 (by decide) (W9 cs_run1.x (by decide));have cn0:=Gq (p:=[]) rfl (by decide) Np;rw [show trim [0,1]=[0,1] from rfl] at cn;have cg:=Zar Sr Sr (by decide) (by decide) (show Qs 4294967295 (Fg 0 0) from ⟨by decide,by decide⟩);rw [show -(Fg 0 0)=0 from by decide] at cg;have p0:=Q2w (n:=0) (by decide);have p1:=Q2w (n:=1) (by decide);have s1:=Bq (p:=[0,1]) (c:=1) (by decide) (W9 cs_run1.x (by decide)) (by decide);have s0:=Bq (p:=[]) (c:=1) (by decide) Np (by decide);rw [show Uu [0,1] 1=[0,1] from rfl] at s1;rw [show Uu [] 1=[] from rfl] at s0;have ck:=Q29 Qq8 (cs_run1.up (by decide) (by decide));refine Gl Tryz.func111 rfl ?_;refine go tt [.c [] cn,.c [] cn0,.c [] cg,.c [] Q94,.c [] Q93,.c [] (Pe _),.r 40 (eI (b:=1) (by decide)),.c [] (Pe _),.r 43 (eI (b:=0) (by decide)),.r 46 (eI (b:=((1:Nat):Int)) (by decide))] rfl (by simp [Ua]) ?_;exact en tt [.r 52 (eI (b:=((0:Nat):Int)) (by decide)),.c [] p0,.c [] s1,.r 60 (eI (b:=((1:Nat):Int)) (by decide)),.c [] p1,.c [] s0,.c [] p1,.c [] ck] rfl rfl (by simp [Ua])
end Orr
namespace Orr
open Go Go.Proofs Orq
set_option maxRecDepth 10000
theorem Q5j {Bc:Tm->List Ct} {Br:Tm->List (List LV)} {t:Rat}:∀ {k:Nat} {c c':Cr} {r r':List (List LV)} {n n':Int},goF Bc Br t k c r n=some (c',r',n')->r'=r\/∃ a,r'=Br a
 | 0,_,_,_,_,_,_,h=>by cases h
 |
  k+1,c,c',r,r',n,n',h=>by
  simp only [goF] at h;obtain ⟨ws,_,h⟩:=Qe.1 h;obtain ⟨o,_,h⟩:=Qe.1 h;cases o with
  | none=>injection h with h; injection h with _ h; injection h with h _; exact .inl h.symm
  |
   some a =>
   dsimp only at h
   split at h
   ·injection h with h; injection h with _ h; injection h with h _; exact .inl h.symm
   ·obtain ⟨w2,_,h⟩:=Qe.1 h;rcases Q5j h with e | e
    ·exact .inr ⟨a,e⟩
    ·exact .inr e
abbrev wkP:List Pt:=[⟨Q7u,1⟩,⟨Q8f 1 0,2⟩]
def Zes (l:List LV):Int:=match l with
 | [_,_,_,_,.int _ z]=>z
 | _=>0
theorem Q5t (l:List Pt):(Ut l).map Zes=l.map (·.id):=by
 simp only [Ut,List.map_map]; rfl
theorem Zk8:(goF (bcS wkP) (brS wkP) 1 5 (Qzk wkP (tq 0)) (brS wkP (tq 0)) 0).map (λx=>(x.2.1.map Zes,x.2.2))=some ([2,1],1):=by decide +kernel
theorem Zh7:(Em (tq 0) wkP).map (·.id)=[1,2]:=by decide +kernel
theorem Zc6:Sc Q7u:=⟨Qq8,cs_run1.up (by decide) (by decide)⟩
theorem Qzd:∀ p∈wkP,Sc p.c:=λp hp=>by
 rcases Qq.1 hp with rfl | hp
 ·exact Zc6
 ·rw [Qp.1 hp]; exact Q7y (by decide) (by decide)
theorem Qke:Ub Tryz.prog 47 [] [.one (.bool true)]:=by
 have hq:Qs 400000 (Fg 0 0):=⟨by decide,by decide⟩;have ez:Fg 0 0=0:=by decide
 have zp:IsPts 4294967294 1073741824 (Ut wkP) wkP:=Qxv λp hp=>(Qzd p hp).pt
 have hnl:Rz [] wkP=(wkP,0):=rfl;have cn:=Qwl (qs:=wkP) zp (by decide) hnl Qzd (by decide) Sr Sr (by decide) (by decide) hq;rw [ez] at cn;have ci:=Qmn (c:=Qzk wkP (tq 0)) (l:=wkP) (s:=Em (tq 0) wkP) (by rw [By]; decide);rw [Zh7] at ci;have cs:=Qtf (a:=[1,2]) (b:=[1,2]) (by decide) (by decide);have cs2:=Qtf (a:=[2,1]) (b:=[2,1]) (by decide) (by decide);obtain ⟨x,hx,hx2⟩:=Yn.1 Zk8;obtain ⟨c',r',n'⟩:=x;injection hx2 with h3 h4;dsimp only at h3 h4;subst h4;obtain ⟨s,hs,hsl⟩:∃ s,r'=Ut s/\s.length<=1000000:=by
  rcases Q5j hx with e | ⟨a,e⟩
  ·exact ⟨_,e,by rw [By]; decide⟩
  ·exact ⟨_,e,by rw [By]; decide⟩
 subst hs;rw [Q5t] at h3;have hB:=Qmi Qzd (by decide);have hv:Va (tq 0):=Q1o (by rw [<-ez]; exact hq);have hc:CrOk (Qzk wkP (tq 0)):=⟨hv,λw hw=>by
  obtain ⟨x,hx,rfl⟩:=Zr.1 hw;exact ⟨hB.p _ hv x (Qad hx),λt ht=>by cases ht⟩,by
  show ((Gk (bcS wkP (tq 0))).map fresh).length<=1000;rw [Ze,Nz]; exact hB.n _ hv⟩
 have ca:=Qte (t:=1) ⟨by decide,by decide⟩ Qzd (by decide) hc ⟨by decide,by decide⟩ (by decide +kernel) hx;have ci2:=Qmn (c:=c') (l:=wkP) (s:=s) hsl;rw [h3] at ci2;have co:=Qdo (n:=1) (by decide);have ct:=Qwm (q:=1) ⟨by decide,by decide⟩;refine Gl Tryz.func47 rfl ?_;exact en tt [.z 6,.c [] Zfu,.c [] (Zab (by decide) (by decide)),.c [0] cn,.g 21 false rfl,.g 25 false rfl,.c [0] ci,.c [] cs,.f rfl,.c [] co,.c [] ct,.c [0] ca,.g 41 true rfl,.g 45 true rfl,.c [0] ci2,.c [] cs2] rfl rfl trivial
theorem Qz8 {l m:List Pt} (h:l.Perm m) (hd:Lf l):Lf m:=(h.pairwise_iff (λh=>λe=>h e.symm)).1 hd
theorem Q8s {t q:Rat}:Up (tq t) q=1↔q<t:=by
 rw [Ql6]; rcases Rk t q with ⟨e,h⟩ | ⟨e,h⟩ | ⟨e,h⟩ <;> grind
theorem Q8r {t q:Rat}:Up (tq t) q=-1↔t<q:=by
 rw [Ql6]; rcases Rk t q with ⟨e,h⟩ | ⟨e,h⟩ | ⟨e,h⟩ <;> grind
theorem Zdn {s t:Rat}:Pd (tq s) (tq t)↔s<t:=by
 constructor
 ·rintro ⟨q,h1,h2⟩
  have:=Q8r.1 h1; have:=Q8s.1 h2; grind
 ·intro h;exact ⟨(s+t) / 2,Q8r.2 (by grind),Q8s.2 (by grind)⟩
end Orr
namespace Orq
open Orr Go
theorem Qq5 {c x y:Rat} (hc:0<c) (h:c*x=c*y):x=y:=by
 have h1:1 / c*c=1:=Fb hc;have e:∀ z:Rat,z=1 / c*(c*z):=λz=>by grind
 rw [e x,h,<-e y]
theorem Qkc (p:List Int):∀ i,i<=p.length->D5 p i=Gm (p.take i)
 | 0,_=>rfl
 |
  i+1,h=>by
  have hx:p[i]? = some (p.getD i 0):=by rw [Qg,Qd (by omega)]; rfl
  rw [Qd2 hx,<-Qkc p i (by omega)];rfl
theorem Zaz (p:List Int):((Orr.cont p:Nat):Int)=H2 p:=by
 unfold Orr.cont H2; rw [Qkc p _ (Nat.le_refl _),List.take_length]
theorem Q6s (p:List Int):Uq p=Un p:=rfl
theorem Q40 (p:List Int):Pf p=Fp p:=by unfold Pf Fp; rw [Zaz,Q6s]
theorem Qbd (p:List Int) (k:Nat):(Ge p).getD k 0=p.getD k 0 / Fp p:=by
 unfold Ge;rw [H4,Q40]
 split
 ·rfl
 ·rename_i h; rw [Gp (by omega),Int.zero_ediv]
theorem Te (p:List Int):Ge p=Uh p:=by
 unfold Uh
 split
 ·rename_i h; rw [List.eq_nil_of_length_eq_zero h]; rfl
 ·exact Qc7 (Qjc p) (Gu _) λk=>by rw [Qbd,Ma]
theorem Qrw (p:List Int) (k:Nat):(Hd p).getD k 0=p.getD k 0 / H2 p:=by
 unfold Hd
 split
 ·rename_i h;rw [Qlj,Qbd];have:Fp p=-H2 p:=if_pos h;rw [this,Int.ediv_neg,Int.neg_neg]
 ·rename_i h;rw [Qbd];have:Fp p=H2 p:=if_neg h;rw [this]
theorem Qfs (p:List Int):Uf (Hd p):=by
 unfold Hd; split
 ·exact Us _ _
 ·exact Qjc p
theorem Qfl (p:List Int):Hd p=Do p:=by
 unfold Do
 split
 ·rename_i h; rw [List.eq_nil_of_length_eq_zero h]; rfl
 ·exact Qc7 (Qfs p) (Gu _) λk=>by rw [Qrw,Ma]
theorem Qlk {p:List Int} (tp:Uf p) (h:p.length≠0):Prm (Do p):=λd hd=>by
 refine (Ro tp h).2.2.1 d λk=>?_
 have h1:=hd k;unfold Do at h1;rw [if_neg h,Ma] at h1;unfold Uh;rw [if_neg h,Ma];unfold Fp
 split
 ·rw [Int.ediv_neg]; exact Int.dvd_neg.2 h1
 ·exact h1
theorem Qpy {a b c:Int} (h:Nat.Coprime a.natAbs b.natAbs) (h2:a∣b*c):a∣c:=Xj.1 (h.dvd_of_dvd_mul_left (by rw [<-Jt]; exact Xj.2 h2))
theorem Qlp {p q:List Int} (tp:Uf p) (tq:Uf q) (hp:Prm p) (hq:Prm q) {c:Rat} (hc:0<c) (h:∀ t,Ug p t=c*Ug q t):p=q:=by
 have hd:=c.den_nz;have hd0:((c.den:Int):Rat)≠0:=Ae (by omega);have e:c*((c.den:Int):Rat)=(c.num:Rat):=by
  have h1:(c.num:Rat) / ((c.den:Int):Rat)=c:=by rw [Gf,Zp]
  have h2:(c.num:Rat) / ((c.den:Int):Rat)*((c.den:Int):Rat)=(c.num:Rat):=Zh hd0;rw [h1] at h2; exact h2
 have hk:∀ k,(c.den:Int)*p.getD k 0=c.num*q.getD k 0:=λk=>by
  have:=My (p:=Uu p (c.den:Int)) (q:=Uu q c.num) (λt=>by
   rw [Gy,Gy,h,<-e]; grind) k
  rw [H3,H3] at this;rw [Vf,this,Vf]
 have d1:(c.den:Int)∣1:=hq _ λk=>Qpy (a:=(c.den:Int)) (b:=c.num) (by simpa using c.reduced.symm) (by rw [<-hk k]; exact V9 _ _)
 have d2:c.num∣1:=hp _ λk=>Qpy (a:=c.num) (b:=(c.den:Int)) (by simpa using c.reduced) (by rw [hk k]; exact V9 _ _)
 have p1:0<c.num:=by
  have h0:=Rat.num_nonneg.2 (Qm hc);rcases Int.lt_or_eq_of_le h0 with h1 | h1
  ·exact h1
  ·exfalso;rw [<-h1] at e;have e0:((0:Int):Rat)=0:=rfl;rw [e0] at e;rcases Jo.1 e with h2 | h2
   ·grind
   ·exact hd0 h2
 have e1:=Int.le_of_dvd (by decide) d1;have e2:=Int.le_of_dvd (by decide) d2;have n1:c.num=1:=by omega
 have n2:(c.den:Int)=1:=by omega
 refine Qc7 tp tq λk=>?_
 have:=hk k;rw [n1,n2] at this; omega
theorem Q1b {a b:List Int} (hb:b.length<=a.length):Lb a b=str b ((Un b).natAbs:Int) (a.length-b.length) (Bz a b) a:=by
 refine Qc7 (Us _ _) (Us _ _) λk=>?_
 unfold Lb str;rw [H4,Nw,H3,Qnv]
 split
 ·rfl
 ·rename_i h;rw [Gp (p:=a) (by omega),J1,if_pos (by omega),Gp (p:=b) (by omega),Vg]; rfl
theorem Q7r {a b:List Int} (hb:b.length<=a.length) (t:Rat):(((Un b).natAbs:Int):Rat)*Ug a t=((Bz a b:Int):Rat)*t^(a.length-b.length)*Ug b t+Ug (Lb a b) t:=by
 rw [Q1b hb]; exact Q8i _ _ _ _ _ _
theorem Q1a {a b:List Int} (hb0:b.length≠0) (hb:b.length<=a.length):(Lb a b).length<a.length:=by
 have h:=Qnl (p:=Lb a b) (n:=a.length-1) (Us _ _) (Qa (Db _ _) (by omega)) (by
  unfold Lb B9;rw [H4,if_pos (by omega),if_pos (by omega),show a.length-1-(a.length-b.length)=b.length-1 by omega];show Uq a*((Uq b).natAbs:Int)-Bz a b*Uq b=0;unfold Bz
  split
  ·rw [show ((Uq b).natAbs:Int)=-Uq b by omega,Vu,Y6]; omega
  ·rw [show ((Uq b).natAbs:Int)=Uq b by omega]; omega)
 omega
theorem Q7q {a b:List Int} {s t:Nat} (ha:Bd s a) (hb:Bd t b):Bd (s+t+1) (Lb a b):=Es λi _=>by
 have h1:=Um ha i;have h2:Ul ((Uq b).natAbs:Int)<=t:=by
  have h:Ul (Uq b)<=t:=Um hb (b.length-1);rw [H7] at h ⊢;rw [Zx]; exact h
 have h3:Ul (Bz a b)<=s:=by
  have:=Um ha (a.length-1);unfold Bz
  split
  ·rw [Fy]; exact this
  ·exact this
 have h4:=Uv (a.getD i 0) ((Uq b).natAbs:Int);unfold B9
 split
 ·have h5:=Uv (Bz a b) (b.getD (i-(a.length-b.length)) 0);have h6:=Um hb (i-(a.length-b.length));have:=Qgf (a.getD i 0*((Uq b).natAbs:Int)) (Bz a b*b.getD (i-(a.length-b.length)) 0);omega
 ·rw [Int.sub_zero]; omega
theorem Qy1 {b:List Int} (tb:Uf b) (hb:b.length≠0) {t:Nat} (bb:Bd t b):∀ (k:Nat) (a:List Int) (s:Nat),a.length<b.length+k->Uf a->a.length<=60->Bd s a->s+k*(t+1)<=9000000->t<=9000000 ->
 ∃ n r,RRun b n a r/\Uf r/\r.length<b.length/\Bd (s+k*(t+1)) r/\∃ (u:Rat) (X:List Rat),0<u/\∀ x,u*Ug a x=ev X x*Ug b x+Ug r x
 | 0,a,s,hl,ta,_,ba,_,_=>⟨0,a,.stop (by omega),ta,by omega,by rw [Yp]; exact ba,1,[],by decide,λx=>by simp only [ev]; grind⟩
 |
  k+1,a,s,hl,ta,h6,ba,hs,ht=>by
  rcases Q5 a.length b.length with h | h
  ·exact ⟨0,a,.stop h,ta,h,W9 ba (by omega),1,[],by decide,λx=>by simp only [ev]; grind⟩
  ·have h1:=Q1a hb h;have e:s+t+1+k*(t+1)=s+(k+1)*(t+1):=by rw [Xc]; omega
   obtain ⟨n,r,r1,r2,r3,r4,u,X,hu,hX⟩:=Qy1 tb hb bb k (Lb a b) (s+t+1) (by omega) (Us _ _) (by omega) (Q7q ba bb) (by omega) ht;have hlp:((0:Int):Rat)<(((Un b).natAbs:Int):Rat):=X5.2 (by have:=Bi tb hb; omega);have hlp:(0:Rat)<(((Un b).natAbs:Int):Rat):=by simpa using hlp
   refine ⟨n+1,r,.step h (by omega) (W9 ba (by omega)) (W9 bb ht) r1,r2,r3,by rw [<-e]; exact r4,u*(((Un b).natAbs:Int):Rat),Hx (Pm (u*((Bz a b:Int):Rat)) (cz (mono (a.length-b.length) 1))) X,Vv hu hlp,λx=>?_⟩;have g1:=Q7r h x;have g2:=hX x;rw [U5,Uw,Ue,Ef];have e1:((1:Int):Rat)=1:=rfl;rw [e1];have:u*(((Un b).natAbs:Int):Rat)*Ug a x=u*((((Un b).natAbs:Int):Rat)*Ug a x):=by grind
   rw [this,g1]; grind
theorem Zc1 {a b r:List Int} (ta:Uf a) (tb:Uf b) (hb:b.length≠0) (hl:a.length<=60) (tr:Uf r) (hr:r.length<b.length) {u:Rat} {X:List Rat} (hu:0<u) (hX:∀ x,u*Ug a x=ev X x*Ug b x+Ug r x):Hd r=Fz a b:=by
 obtain ⟨h1,h2,_,u',v',up,vp,X',hX'⟩:=Qcv ta tb hb hl;have key:∀ x,ev (Hx (Pm (u*v') (cz (Fz a b))) (Pm (-u') (cz r))) x=ev (Fo (Hx (Pm u' X) (Pm (-u) X')) (cz b)) x:=λx=>by
  have g1:=hX x;have g2:=hX' x;rw [U5,Uw,Uw,Ui,U5,Uw,Uw,Ue,Ue,Ue];have k1:u'*(u*Ug a x)=u'*(ev X x*Ug b x+Ug r x):=by rw [g1]
  have k2:u*(u'*Ug a x)=u*(ev X' x*Ug b x+v'*Ug (Fz a b) x):=by rw [g2]
  grind
 have hz:∀ x,ev (Hx (Pm u' X) (Pm (-u) X')) x=0:=by
  rcases Qfc (Hx (Pm u' X) (Pm (-u) X')) with h | ⟨m,_,h⟩
  ·exact h
  ·exfalso;have hm:=Qd6 h (Qap tb (by omega));have h3:=(Q5l (λt=>(key t).symm) hm).1;rw [G5,Hu,Hu,Tg,Tg,Gp (p:=Fz a b) (by omega),Gp (p:=r) (by omega)] at h3;have e0:((0:Int):Rat)=0:=rfl;rw [e0] at h3;exact h3 (by grind)
 have hpr:∀ x,Ug r x=u*v' / u'*Ug (Fz a b) x:=λx=>by
  have g:=key x;rw [Ui,hz x,U5,Uw,Uw,Ue,Ue] at g;have hd:u*v' / u'*u'=u*v':=Fb up;have hne:u'≠0:=by grind
  have:u'*Ug r x=u'*(u*v' / u'*Ug (Fz a b) x):=by
   have e:u'*(u*v' / u'*Ug (Fz a b) x)=(u*v' / u'*u')*Ug (Fz a b) x:=by grind
   rw [e,hd]; grind
  exact Qq5 up this
 have hcp:0<u*v' / u':=Nu (Vv hu vp) up;rw [Qfl];have hlen:=Cj tr h1 (by grind:u*v' / u'≠0) hpr;by_cases h0:r.length=0
 ·rw [Qh h0,Qh (l:=Fz a b) (by omega)]; rfl
 ·obtain ⟨c,cp,hc⟩:=Qrm tr;have hcn:c≠0:=by grind
  have hp2:Prm (Fz a b):=by
   unfold Fz at hlen ⊢;have ht:Uf (Pg a b (Ty a b)):=by
    unfold Pg; split
    ·exact Us _ _
    ·exact (Qoa hb _ _ _ ta (by omega)).1
   refine Qlk ht λe=>?_
   rw [Qh e] at hlen;exact h0 hlen
  have tn:Uf (Do r):=by rw [<-Qfl]; exact Qfs r
  refine Qlp tn h1 (Qlk tr h0) hp2 (c:=u*v' / u' / c) (Nu hcp cp) λt=>?_
  have g1:=hc t;have g2:=hpr t;have hd:u*v' / u' / c*c=u*v' / u':=Fb cp;refine Qq5 cp ?_;have e:c*(u*v' / u' / c*Ug (Fz a b) t)=(u*v' / u' / c*c)*Ug (Fz a b) t:=by grind
  rw [e,hd,<-g1,g2]
theorem Qrs {p:List Int} (h:Pr1 p):Uh p=p:=by
 obtain ⟨h1,h2,h3,h4,_,h6,h7⟩:=Ro h.t h.n;have hl:=h.l;have hc:0<Fp p:=by
  have:=Ee h.t h.n;unfold Fp;rw [if_neg (by omega)];unfold H2 at this ⊢; omega
 have hq:((0:Int):Rat)<(Fp p:Rat):=X5.2 hc;exact (Qlp h.t h1 h.m h3 (c:=(Fp p:Rat)) (by simpa using hq) h7).symm
theorem Qrt {r:List Int} (tr:Uf r):(Uh r).length=r.length/\((Uh r).length=0\/Pr1 (Uh r)):=by
 by_cases h:r.length=0
 ·rw [Qh h]; exact ⟨rfl,.inl rfl⟩
 ·exact ⟨(Ro tr h).2.1,.inr (Q00 tr h)⟩
theorem Qet {s m lb la:Nat} (e:la-1=m+(lb-1)) (hm:1<=m) (hs:(s+8)*3^(la-1)<=9000000):(s+(m+1)*(s+8)+8)*3^(lb-1)<=9000000/\s+(m+1)*(s+8)<=9000000:=by
 have e2:s+(m+1)*(s+8)+8=(m+2)*(s+8):=by
  rw [show m+2=(m+1)+1 by omega,Xc (m+1)]; omega
 have e3:(m+2)*(s+8)*3^(lb-1)<=(s+8)*3^(la-1):=by
  rw [e,Xe,<-Xm,Zd (s+8)];exact Qw _ (Qw _ (Zch m hm))
 have:(m+2)*(s+8)<=(m+2)*(s+8)*3^(lb-1):=Jl _ (Zv (by decide));exact ⟨by rw [e2]; omega,by omega⟩
theorem Qr8 {a b:List Int} {s:Nat} (ta:Uf a) (tb:Uf b) (hb:b.length≠0) (hab:b.length<a.length) (hl:a.length<=60) (ba:Bd s a) (bb:Bd s b) (hs:(s+8)*3^(a.length-1)<=9000000) :
 ∃ n r,RRun b n a r/\Uf r/\r.length<b.length/\Bd (s+(a.length-b.length+1)*(s+8)) r/\Hd r=Fz a b/\∃ (u:Rat) (X:List Rat),0<u/\∀ x,u*Ug a x=ev X x*Ug b x+Ug r x:=by
 obtain ⟨k1,k2⟩:=Qet (s:=s) (m:=a.length-b.length) (lb:=b.length) (la:=a.length) (by omega) (by omega) hs;have h1:(a.length-b.length+1)*(s+1)<=(a.length-b.length+1)*(s+8):=Zf _ (by omega);obtain ⟨n,r,r1,r2,r3,r4,u,X,hu,hX⟩:=Qy1 tb hb bb (a.length-b.length+1) a s (by omega) ta hl ba (by omega) (by omega);exact ⟨n,r,r1,r2,r3,W9 r4 (by omega),Zc1 ta tb hb hl r2 r3 hu hX,u,X,hu,hX⟩
theorem Qxp:∀ (k:Nat) (a b:List Int) (s:Nat),b.length<k->Pr1 a->(b.length=0\/Pr1 b)->Uf b->b.length<a.length->a.length<=60->Bd s a->Bd s b->(s+8)*3^(a.length-1)<=9000000 ->
 ∃ n g,GRun n a b g/\Pr1 g/\Az (cz g) (cz a)/\Az (cz g) (cz b)
 | 0,_,_,_,h,_,_,_,_,_,_,_,_=>by omega
 |
  k+1,a,b,s,hk,pa,pb,tb,hab,hl,ba,bb,hs=>by
  rcases pb with h0 | pb
  ·rw [Qh h0];exact ⟨0,a,.stop a,pa,dvd_refl _,⟨[],λt=>by simp only [cz,Jf,ev]; grind⟩⟩
  ·have hb:=pb.n;obtain ⟨n,r,r1,r2,r3,r4,_,u,X,hu,hX⟩:=Qr8 pa.t tb hb hab hl ba bb hs;obtain ⟨k1,k2⟩:=Qet (s:=s) (m:=a.length-b.length) (lb:=b.length) (la:=a.length) (by omega) (by omega) hs;obtain ⟨p1,p2⟩:=Qrt r2;obtain ⟨_,p3,p4,c,c1,c2⟩:=Ei r2;have tp:Uf (Uh r):=by
    rcases p2 with h | h
    ·rw [Qh h]; rfl
    ·exact h.t
   obtain ⟨j,g,g1,g2,g3,g4⟩:=Qxp k b (Uh r) (s+(a.length-b.length+1)*(s+8)) (by omega) pb p2 tp (by omega) (by omega) (W9 bb (by omega)) (p4 _ r4) k1;refine ⟨j+1,g,.step (by omega) (by omega) (W9 bb (by omega)) r1 (by omega) (W9 r4 k2) r2 (by rw [Te]; exact g1),g2,?_,g3⟩;obtain ⟨y,hy⟩:=g3;obtain ⟨z,hz⟩:=g4;have hu1:1 / u*u=1:=Fb hu;refine ⟨Pm (1 / u) (Hx (Fo X y) (Pm c z)),λt=>?_⟩;have a1:=hX t;have a2:=hy t;have a3:=hz t;have a4:=c2 t;rw [Ue] at a2 a3 ⊢;rw [Uw,U5,Ui,Uw];have:Ug a t=1 / u*(u*Ug a t):=by grind
   rw [this,a1,a2,a4,a3]; grind
theorem Qu1 {c:Int} (h:c≠0):Uu [1] c=[c]:=by
 show S9 1 _=_;rw [Dc,Qav];show (if 1*c=0 then _ else [1*c])=_;rw [Yk,if_neg h]
theorem Qvm (k:Nat) (c:Int) (i:Nat):(Rv k [c]).getD i 0=if i=k then c else 0:=by
 unfold Rv;rw [Qg];rcases Kb i k with h | h | h
 ·rw [Zi (by simpa using h),if_neg (by omega)];simp [h]
 ·subst h;rw [Xh (by simp)]; simp
 ·rw [Qr (by simp; omega),if_neg (by omega)]; rfl
theorem Qht:∀ (k:Nat) (a q p:List Int),a.length<=k->Uf a->a.length<=60->Bd 9000000 a->a.length<=q.length->q.length=p.length->(∀ i,i<a.length->a.getD i 0=p.getD i 0)->(∀ i,i<a.length->q.getD i 0=0)->(∀ i,a.length<=i->q.getD i 0=p.getD i 0)->∃ n,DRun [1] n a q p []
 |
  0,a,q,p,h,_,_,_,_,hq,_,_,h3=>by
  have e:=Qh (l:=a) (by omega);subst e;have e2:q=p:=by
   refine List.ext_getElem hq λi h1 h2=>?_
   have:=h3 i (by simp);rw [Qg,Qg,Qd h1,Qd h2] at this;exact this
  rw [e2]; exact ⟨0,.stop (by decide)⟩
 |
  k+1,a,q,p,h,ta,h6,ba,haq,hq,h1,h2,h3=>by
  by_cases h0:a.length=0
  ·exact Qht k a q p (by omega) ta h6 ba haq hq h1 h2 h3
  ·have hlead:Uq a≠0:=Gh ta (by omega);have hp1:Uq [1]=1:=rfl;have e1:Tj a (Rv (a.length-1) (Uu [1] (Uq a / Uq [1])))=Tj a (Rv (a.length-1) [Uq a]):=by
    rw [hp1,Ve,Qu1 hlead]
   have g:∀ i,(Tj a (Rv (a.length-1) [Uq a])).getD i 0=if i=a.length-1 then 0 else a.getD i 0:=λi=>by
    rw [Nw,Qvm]
    split
    ·rename_i e; subst e; exact Int.sub_self _
    ·rw [Int.sub_zero]
   have ll:(Tj a (Rv (a.length-1) [Uq a])).length<=a.length-1:=by
    refine Qnl (Us _ _) (Qa (Ms _ _) ?_) (by rw [g,if_pos rfl]);rw [Qi5]; simp; omega
   have gz:∀ i,(Tj a (Rv (a.length-1) [Uq a])).length<=i->i<a.length-1->a.getD i 0=0:=λi k1 k2=>by
    have:=g i;rw [Gp k1,if_neg (by omega)] at this;exact this.symm
   have gs:∀ i,(q.set (a.length-1) (Uq a)).getD i 0=if i=a.length-1 then Uq a else q.getD i 0:=λi=>by
    rw [Qg,Yc];by_cases e:a.length-1=i
    ·rw [if_pos e,if_pos (by omega),if_pos e.symm]; rfl
    ·rw [if_neg e,if_neg (λh=>e h.symm),Qg]
   have hpa:Uq a=p.getD (a.length-1) 0:=h1 _ (by omega);obtain ⟨n,hn⟩:=Qht k (Tj a (Rv (a.length-1) [Uq a])) (q.set (a.length-1) (Uq a)) p (by omega) (Us _ _) (by omega) (λz hz=>by
    obtain ⟨i,hi⟩:=Jm hz;have e:z=(Tj a (Rv (a.length-1) [Uq a])).getD i 0:=by rw [Qg,hi]; rfl
    rw [e,g]
    split
    ·exact Qi _
    ·exact Um ba i) (by rw [X9]; omega) (by rw [X9]; exact hq) (λi hi=>by rw [g,if_neg (by omega)]; exact h1 i (by omega)) (λi hi=>by rw [gs,if_neg (by omega)]; exact h2 i (by omega)) (λi hi=>by
    rw [gs]
    split
    ·rename_i e; rw [e]; exact hpa
    ·rename_i e;by_cases k1:a.length<=i
     ·exact h3 i k1
     ·rw [h2 i (by omega),<-h1 i (by omega),gz i hi (by omega)])
   refine ⟨n+1,.step (by show 1<=a.length; omega) (by omega) ba (by decide) (by rw [hp1]; exact W7 _) (by show a.length-1<q.length; omega) ?_⟩;show DRun [1] n (Tj a (Rv (a.length-1) (Uu [1] (Uq a / Uq [1])))) (q.set (a.length-1) (Uq a / Uq [1])) p [];rw [e1,hp1,Ve]; exact hn
theorem Zba {p:List Int} (tp:Uf p) (hl:p.length<=60) (bp:Bd 9000000 p):DOk p [1] p:=by
 obtain ⟨n,hn⟩:=Qht p.length p (List.replicate (p.length+1-1) 0) p (Qk _) tp hl bp (by simp) (by simp) (λ_ _=>rfl) (λi _=>Hi _ i) (λi hi=>by rw [Hi,Gp hi]);exact ⟨by decide,by decide,by omega,b1 (by decide),p,[],n,bp,by omega,hn,tp.symm⟩
theorem Qw7:∀ (k:Nat) (pre:List (List Int)) (a b:List Int) (s:Nat) (L:List (List Int)),chF k a b=some L->Uf a->Uf b->b.length<a.length->a.length<=60->Bd s a->Bd s b->(s+8)*3^(a.length-1)<=9000000->pre.length+a.length<=500 ->
 ∃ n,CRun n (pre++[a]) b (pre++[a]++L)/\L.length<=b.length
 | 0,_,_,_,_,_,h,_,_,_,_,_,_,_,_=>by cases h
 |
  k+1,pre,a,b,s,L,h,ta,tb,hab,hl,ba,bb,hs,hp=>by
  simp only [chF] at h
  split at h
  ·rename_i h0;injection h with h; subst h;rw [Xt];exact ⟨0,.stop h0,by simp⟩
  ·rename_i h0;obtain ⟨r0,hr0,h⟩:=Qe.1 h;obtain ⟨l,hl1,h⟩:=Qe.1 h;injection h with h; subst h;have er:r0=Fz a b:=by
    unfold chk at hr0
    split at hr0
    ·injection hr0 with hr0; exact hr0.symm
    ·cases hr0
   rw [er] at hl1;obtain ⟨n,r,r1,r2,r3,r4,r5,_⟩:=Qr8 ta tb h0 hab hl ba bb hs;obtain ⟨k1,k2⟩:=Qet (s:=s) (m:=a.length-b.length) (lb:=b.length) (la:=a.length) (by omega) (by omega) hs;have hlp:=Aj r;have hln:=Di (Hd r);rw [<-r5] at hl1;obtain ⟨j,c1,c2⟩:=Qw7 k (pre++[a]) b (Sv (Hd r)) (s+(a.length-b.length+1)*(s+8)) l hl1 tb (Us _ _) (by omega) (by omega) (W9 bb (by omega)) (Qbq (Qj3 r4)) k1 (by simp; omega);have hlast:Sa (pre++[a])=a:=by unfold Sa; simp
   refine ⟨j+1,.step (by omega) (by omega) (W9 bb (by omega)) (by rw [hlast]; exact r1) r2 (W9 r4 k2) (by omega) (by simp) (by simp; omega) ?_,by simp; omega⟩;have e:pre++[a]++b::l=pre++[a]++[b]++l:=by simp
   rw [e]; exact c1
theorem Q36 {P g q:List Int} {s:Nat} (sq:Sqp P g q) (l2:2<=q.length) (lq:q.length<=9) (bq:Bd s q) (hs:(s+4+8)*3^8<=9000000) {L:List (List Int)} (hL:chF 66 q (Uh (U3 q))=some L):ChRun q q (q::L):=by
 have pq:=sq.pq;have hpow:(s+4+8)*3^(q.length-1)<=9000000:=Qa (Zf _ (Zn (by decide) (by omega))) hs;have hs9:s+4<=8000000:=by
  have:(s+4+8)*3^8=(s+4+8)*6561:=rfl;omega
 have ld:=Ry q;have bd:Bd (s+4) (U3 q):=Qmj bq (by omega);obtain ⟨p1,p2⟩:=Qrt (r:=U3 q) (Us _ _);obtain ⟨_,p3,p4,c,c1,c2⟩:=Ei (a:=U3 q) (Us _ _);have tp:Uf (Uh (U3 q)):=by
  rcases p2 with h | h
  ·rw [Qh h]; rfl
  ·exact h.t
 obtain ⟨m,h,g1,g2,g3,g4⟩:=Qxp 66 q (Uh (U3 q)) (s+4) (by omega) pq p2 tp (by omega) (by omega) (W9 bq (by omega)) (p4 _ bd) hpow;have hone:h=[1]:=by
  obtain ⟨c',_,hc'⟩:=sq.num g3 (by
   obtain ⟨z,hz⟩:=g4;exact ⟨Pm c z,λt=>by
    have:=hz t;rw [Ue] at this;rw [Hl,<-Dn,c2,this,Uw]; grind⟩)
  refine g2.one (Nat.lt_of_not_le λh2=>?_);have hd:=Qap g2.t (by omega);have:=Mr (p:=cz h) (q:=[c']) (λt=>by rw [hc' t]; simp only [ev]; grind) (h.length-1);rw [Qg (l:=[c']),Qr (by simp; omega)] at this;exact hd.1 this
 subst hone;have hpq:=Qrs pq;have t1:Uf [1]:=rfl;have dq:=Zba pq.t (by omega) (W9 bq (by omega:s<=9000000));have fr:FRun q 1 (λ_=>q):=by
  refine ⟨⟨1,[q,[1]],?_,rfl,?_⟩,by decide⟩
  ·rw [Te,hpq];refine .step (m:=m) (g:=[1]) (by show 1<q.length; omega) (by show q.length<=1000; omega) (by show Uf q; exact pq.t) (by show Bd 9000000 q; exact W9 bq (by omega)) (by show Bd 9000000 (U3 q); exact W9 bd (by omega)) ?_ (by show 1<=1000; decide) ?_
   ·show GRun m (Ge q) (Ge (U3 q)) [1];rw [Te,Te,hpq]; exact g1
   ·exact .stop (by show 1<=1; decide)
  ·intro k hk;have:k=0:=by omega
   subst this;exact ⟨q,[1],q,dq,div_one,by rw [Te,hpq,Qrq]; exact dq,by rw [Te,hpq]⟩
 obtain ⟨n,c3,c4⟩:=Qw7 66 [] q (Uh (U3 q)) (s+4) L hL pq.t tp (by omega) (by omega) (W9 bq (by omega)) (p4 _ bd) hpow (by simp; omega);have hsz:Hd (U3 q)=Uh (U3 q):=by
  have hlp:¬Uq (U3 q)<0:=by
   have h1:Uq (U3 q)=Un q*((q.length-1:Nat):Int):=by
    have hld:(U3 q).length=q.length-1:=by
     refine V2 ld (Yj λh=>?_);have h1:=Ts q (q.length-2);rw [Gp (by omega),show q.length-2+1=q.length-1 by omega] at h1;have h3:q.getD (q.length-1) 0≠0:=Gh pq.t (by omega);rcases J8.1 h1.symm with h4 | h4
     ·exact h3 h4
     ·omega
    unfold Uq Un;rw [hld,Ts,show q.length-1-1+1=q.length-1 by omega]
   have:=W5 pq.l (show (0:Int)<((q.length-1:Nat):Int) by omega);omega
  unfold Hd;rw [if_neg hlp,Te]
 refine ⟨⟨1,λ_=>q,fr,λi hi=>?_,?_⟩,⟨n,?_⟩,W9 bq (by omega),by omega,by simp; omega⟩
 ·have:i=0:=by omega
  subst this;exact ⟨b1 (by decide),by show 1<=1000; decide,W9 bq (by omega),show q.length<=1000 by omega⟩
 ·show q=Fu [1] q;rw [Qk9 pq.t (by omega)]
 ·rw [hsz]; exact c3
def crR (C:List (List Int)) (p:List Int) (lo hi t:Rat):Int :=
 if U7 lo hi=0 then U7 lo t else if U7 t lo<=0 then 1 else if 0<U7 t hi then -1 else if Gw C lo t=0 then 1 else if U4 p t=0 then 0 else -1
theorem Qtt {p:List Int} {C:List (List Int)} {lo hi:Rat} (V:Vt (cz p) (C.map cz) lo hi) (q:Rat):crR C p lo hi q=cq (cz p) lo hi q:=by
 have hl:=V.l;unfold crR;rw [if_neg (λh=>by have:=Ch.1 h; grind)];rcases Classical.em (q<=lo) with h1 | h1
 ·rw [if_pos (E3.2 h1),Ni h1]
 rw [if_neg (λh=>h1 (E3.1 h))];rcases Classical.em (hi<q) with h2 | h2
 ·rw [if_pos (S7.2 h2),A1 hl h2]
 rw [if_neg (λh=>h2 (S7.1 h))];have h1':lo<q:=Jp.1 h1;have h2':q<=hi:=Rat.not_lt.1 h2;rw [C6 (Qm h1'),To];rcases V.two h1' h2' with ⟨a,b,_⟩ | ⟨a,b,_⟩
 ·rw [if_pos (by rw [a]; omega),b]
 ·rw [if_neg (by have:=V.v; omega)];rw [Mn h1' h2',Ue] at *
  split
  ·rfl
  ·rename_i h0;rw [if_neg h0] at b
   split at b
   ·exact absurd rfl b
   ·rename_i hne; rw [if_neg hne]
theorem Qm0 {p:List Int} {C:List (List Int)} (x q:Rat):crR C p x x q=U7 x q:=by
 unfold crR;rw [if_pos (Ch.2 rfl)]
theorem Zbx {t:Tm} {L:List (List Rat)} {D M k:Nat} {lo hi:Rat} (hu:Hv t D M k ⟨t.p,lo,hi⟩) (V:Vt (cz t.p) L lo hi) :
 (cq (cz t.p) lo hi (A2 lo hi)<=0->Hv t D M (k+1) ⟨t.p,lo,A2 lo hi⟩/\Vt (cz t.p) L lo (A2 lo hi))/\(¬cq (cz t.p) lo hi (A2 lo hi)<=0->Hv t D M (k+1) ⟨t.p,A2 lo hi,hi⟩/\Vt (cz t.p) L (A2 lo hi) hi):=by
 have hl:=V.l;have h2:(lo+hi) / 2*2=lo+hi:=Fb (by decide);have gm:Gr D M (k+1) (A2 lo hi):=by rw [Qa9]; exact Qt9 hu.l hu.h
 rw [Qa9] at *;generalize (lo+hi) / 2=m at *;have m1:lo<m:=by grind
 have m2:m<hi:=by grind
 have cut:∀ q,Up ⟨t.p,lo,hi⟩ q=cq (cz t.p) lo hi q:=λq=>Rw (t:=⟨t.p,lo,hi⟩) hl q
 refine ⟨λh=>?_,λh=>?_⟩
 ·have hm:cq (cz t.p) lo hi m≠1:=λe=>by omega
  have V':Vt (cz t.p) L lo m:=⟨V.s,m1,by rw [V.eq_hi m1 (Qm m2) hm]; exact V.v⟩;refine ⟨⟨rfl,.inr ⟨L,V'⟩,λq=>?_,Qfb hu.l,gm⟩,V'⟩;rw [<-hu.c q,cut q];show Up ⟨t.p,lo,m⟩ q=_;rw [Rw (t:=⟨t.p,lo,m⟩) m1 q];exact (V'.uniq V.cut (Ni Ql) hm V.van q).symm
 ·have hm:cq (cz t.p) lo hi m=1:=by
   rcases V.cut.val m with e | e | e <;> omega
  have V':Vt (cz t.p) L m hi:=⟨V.s,m2,by rw [V.eq_lo m1 (Qm m2) hm]; exact V.v⟩;refine ⟨⟨rfl,.inr ⟨L,V'⟩,λq=>?_,gm,Qfb hu.h⟩,V'⟩;rw [<-hu.c q,cut q];show Up ⟨t.p,m,hi⟩ q=_;rw [Rw (t:=⟨t.p,m,hi⟩) m2 q];exact (V'.uniq V.cut hm V.hi1 V.van q).symm
def p2 (k:Nat):Rat:=((2^k:Nat):Rat)
theorem Qiq (a b:Nat):p2 (a+b)=p2 a*p2 b:=by unfold p2; rw [Nat.pow_add,Rat.natCast_mul]
theorem Qcl {a b:Nat} (h:a<=b):p2 a<=p2 b:=Q9.2 (Zn (by decide) h)
theorem Qlf (k:Nat):0<=p2 k:=Xl
theorem Qcm (k:Nat):p2 (k+1)=p2 k+p2 k:=by have:=Qlm k; unfold p2; rw [this]; grind
theorem Q6k (k:Nat):1<=p2 k:=Qcl (Qi k)
theorem Qxj {S m:Nat} {R:Rat} (h0:0≤R) (hR:R≤p2 m):∀ {p:List Rat},(∀ a∈p,Uk a≤p2 S)->evB R p≤p2 (S+(m+1)*p.length)
 | [],_=>Qlf _
 |
  a::p,h=>by
  have ih:=Qxj h0 hR (p:=p) (λx hx=>h x (Qj _ hx));have h1:=h a (Qt ..);have h2:=Su h0 hR (E9 h0 p) ih;rw [<-Qiq] at h2;have e:S+(m+1)*(a::p).length=(m+(S+(m+1)*p.length))+1:=by rw [Q8,V7]; omega
  rw [e,Qcm];have h3:=Qcl (show S<=m+(S+(m+1)*p.length) by omega);simp only [evB]; grind
theorem Qxd {S m:Nat} {R:Rat} (h0:0≤R) (hR:R≤p2 m):∀ {p:List Rat},(∀ a∈p,Uk a≤p2 S)->dqB R p≤p2 (S+(m+1)*p.length)
 | [],_=>Qlf _
 |
  a::p,h=>by
  have hp:=λx hx=>h x (Qj a hx)
  have ih:=Qxd h0 hR (p:=p) hp;have h1:=Qxj h0 hR (p:=p) hp;have h2:=Su h0 hR (Sp h0 p) ih;rw [<-Qiq] at h2;have e:S+(m+1)*(a::p).length=(m+(S+(m+1)*p.length))+1:=by rw [Q8,V7]; omega
  rw [e,Qcm];have h3:=Qcl (show S+(m+1)*p.length<=m+(S+(m+1)*p.length) by omega);simp only [dqB]; grind
theorem Zga {S:Nat} {p:List Int} (h:Bd S p):∀ a∈cz p,Uk a≤p2 S:=λa ha=>by
 obtain ⟨z,hz,rfl⟩:=Zr.1 ha;have h1:=Qa5 (q:=(z:Rat));rw [Rat.num_intCast] at h1;exact Q6 h1 (Qcl (h z hz))
theorem Qyo {D:Rat} {b:Nat} (h0:0<=D) (h:D<=p2 b):∀ n:Nat,D^n<=p2 (b*n)/\0<=D^n
 | 0=>by rw [Xd]; exact ⟨Q6k _,by decide⟩
 |
  n+1=>by
  obtain ⟨h1,h2⟩:=Qyo h0 h n;rw [Z9,V7,Qiq];exact ⟨Su h2 h1 h0 h,Ph h2 h0⟩
theorem Zce {p:List Int} {n b:Nat} (hl:p.length=n+1) {q:Rat} (hb:Ul (q.den:Int)<=b) (h:Ug p q≠0):1<=Uk (Ug p q)*p2 (b*n):=by
 have hd0:(0:Rat)<((q.den:Int):Rat):=by
  have := @Rat.intCast_lt_intCast 0 (q.den:Int);rw [show ((0:Int):Rat)=0 from rfl] at this;exact this.2 (den_pos q)
 have hd:((q.den:Int):Rat)≠0:=by intro h; rw [h] at hd0; exact absurd hd0 (by decide)
 obtain ⟨_,hv⟩:=Qo4 p q.num q.den hd p.length (Qk _);rw [Yb,X6,Gf,Zp] at hv;have hD:((q.den:Int):Rat)<=p2 b:=by
  have h1:=H7.1 hb;rw [Zx] at h1;exact Q9.2 (Jr h1)
 generalize (S0 p q.num (q.den:Int) p.length).1=Z at hv;generalize ((q.den:Int):Rat)=D at *;rw [hl,Z9] at hv;have hZ:(Z:Rat)=D^n*Ug p q:=by
  have:((Z:Rat)-D^n*Ug p q)*D=0:=by grind
  rcases Jo.1 this with h' | h'
  ·grind
  ·exact absurd h' hd
 obtain ⟨k1,k2⟩:=Qyo (Qm hd0) hD n;have hp0:=Qn9 hd0 n;have hz0:Z≠0:=λe=>by
  rw [e] at hZ;rcases Jo.1 hZ.symm with h' | h'
  ·rw [h'] at hp0; exact absurd hp0 (by decide)
  ·exact h h'
 have h1:=Al hz0;rw [hZ,Cm] at h1;have h2:Uk (D^n)=D^n:=by unfold Uk; rw [if_neg (by grind)]
 rw [h2] at h1;have:=Q3 k1 (Gj (Ug p q));grind
theorem Zbg {p:List Int} {L:List (List Rat)} {lo hi r:Rat} (V:Vt (cz p) L lo hi) {n b m S:Nat} (hl:p.length=n+1) (hS:Bd S p) (h1:Uk r<=p2 m) (h2:Uk hi<=p2 m) (hr:lo<r) (hc:cq (cz p) lo hi r=1) (hb:Ul (r.den:Int)<=b):1<=(hi-r)*p2 (S+(m+1)*(n+1)+b*n):=by
 have hrh:r<hi:=by
  rcases Vx.1 (show r<=hi from by
   rcases Uy r hi with e | e
   ·exact e
   ·rw [A1 V.l e] at hc; exact absurd hc (by decide)) with e | e
  ·exact e
  ·rw [e] at hc; exact absurd hc V.hi1
 have s1:Uo (ev (cz p) r)=Td (cz p) lo:=by
  rcases V.two hr (Qm hrh) with ⟨_,_,c⟩ | ⟨_,c,_⟩
  ·exact c
  ·exact absurd hc c
 have s0:=V.lowlo;have s2:Uo (ev (cz p) hi)≠Td (cz p) lo:=λe=>by
  refine V.hi1 ?_;rw [Mn V.l Ql,if_neg (by rw [e]; exact s0),if_pos e]
 have hne:ev (cz p) r≠0:=λe=>s0 (by rw [<-s1]; exact Fa.2 e)
 have hd:Uk (ev (cz p) r)<=Uk (ev (cz p) hi-ev (cz p) r):=by
  rw [<-s1] at s2;unfold Uo at s2;unfold Uk;generalize ev (cz p) r=x at *;generalize ev (cz p) hi=y at *
  repeat' split
  all_goals (repeat' split at s2)
  all_goals grind
 have h3:=Q4w (R:=p2 m) h2 h1 (cz p);have h4:=Qxd (S:=S) (Qlf m) (Ql (a:=p2 m)) (Zga hS);have hcl:(cz p).length=n+1:=by unfold cz; rw [List.length_map,hl]
 rw [hcl] at h4;have h5:=Zce hl hb (by rw [<-Ue]; exact hne);rw [<-Ue] at h5;have hq:Uk (hi-r)=hi-r:=by unfold Uk; rw [if_neg (by grind)]
 rw [hq] at h3;have h6:Uk (ev (cz p) r)<=(hi-r)*p2 (S+(m+1)*(n+1)):=Q6 (Q6 hd h3) (by
  have:=Zk h4 (show 0<=hi-r by grind);exact this)
 have h7:=Q3 h6 (Qlf (b*n));rw [Qiq];grind
theorem Zgx {β:Type} {Bc:Tm->List Ct} {Br:Tm->β} {c:Cr} {r:β} (hS:KSt Bc Br c r):∃ ws o,Nl c.now c.l=some ws/\Qio ws=some o/\KSt Bc Br { c with l:=ws } r/\match o with
 | none=>∀ x∈Bc c.now,Rx x.p c.now none
 | some a=>Va a/\Pd c.now a/\(∃ x∈Bc c.now,Rx x.p c.now (some a)/\a∈tms x.p)/\∀ x∈Bc c.now,∃ o',Rx x.p c.now o'/\∀ u,o'=some u->¬Pd u a:=by
 obtain ⟨⟨ok,kk⟩,hcs,hr⟩:=hS;obtain ⟨ws,w1,w2,w3⟩:=Qnr ok.n ok.l kk;have ok':=O2 ok w1;rw [hcs] at w2;have hc_w:∀ x∈Bc c.now,∃ w∈ws,w.c=x:=λx hx=>by
  have:x∈ws.map (·.c):=by rw [w2]; exact C0.2 hx
  exact Zr.1 this
 have hw_c:∀ w∈ws,w.c∈Bc c.now:=λw hw=>C0.1 (by rw [<-w2]; exact List.mem_map_of_mem hw)
 obtain ⟨o,o1,o2⟩:=Qum ok'.l;refine ⟨ws,o,w1,o1,⟨⟨ok',λw hw _=>(w3 w hw).2⟩,w2,hr⟩,?_⟩;cases o with
 | none =>
  intro x hx;obtain ⟨w,hw,rfl⟩:=hc_w x hx;have:=(w3 w hw).2.1;rw [o2 w hw] at this;exact this
 |
  some a =>
  obtain ⟨va,⟨w,hw,hwa⟩,hmin⟩:=o2;have k:=(w3 w hw).2.1;rw [hwa] at k;exact ⟨va,k.2.2.1,⟨w.c,hw_c w hw,k,(w3 w hw).2.2 a hwa⟩,λx hx=>by
   obtain ⟨v,hv,rfl⟩:=hc_w x hx;exact ⟨v.fails,(w3 v hv).2.1,λu hu=>hmin v hv u hu⟩⟩
theorem Qt2 {Bc:Tm->List Ct} {now a:Tm} (hn:Va now) (ha:Va a) (hmin:∀ x∈Bc now,∃ o',Rx x.p now o'/\∀ u,o'=some u->¬Pd u a) {t:Rat} (ht:Va (tq t)) (hta:Up a t=1) {E:List Tm} (h:Evs Bc t now E):E=[]:=by
 cases h with
 | nil=>rfl
 |
  cons he h1 h2 h3 h4 h5 =>
  exfalso;obtain ⟨x,hx,hxe⟩:=h4;obtain ⟨o',ho,hu⟩:=hmin x hx;cases o' with
  | none=>exact Qrc hn hxe ho
  |
   some u =>
   have e:=Q6g hn hxe ho;exact hu u rfl ((Q8q e).1 (Zjm he.cut ht.cut h2 ((Ii ha.cut).1 (by omega))))
theorem Q4y {Bc:Tm->List Ct} {now a:Tm} (hn:Va now) (ha:Va a) (hx:∃ x∈Bc now,Rx x.p now (some a)) {t:Rat} (hta:Up a t≠1) {E:List Tm} (h:Evs Bc t now E):E≠[]:=by
 rintro rfl
 cases h with
 |
  nil h =>
  obtain ⟨x,hx,hxa⟩:=hx;obtain ⟨o',ho,hu⟩:=h x hx;cases o' with
  | none=>exact Qrc hn hxa ho
  |
   some u =>
   have e:=Q6g hn hxa ho;have h1:=(Ii ha.cut).2 ((Zdm e).2 (hu u rfl));rcases ha.cut.val t with h2 | h2 | h2 <;> omega
theorem Qm9 {β:Type} {Bc:Tm->List Ct} {Br:Tm->β} (S:Stab Bc Br) {now:Tm} (hn:Va now) {t:Rat} (ht:Va (tq t)) (hnow:¬Pd (tq t) now) (h:Evs Bc t now []):Bc (tq t)=Bc now/\Br (tq t)=Br now:=by
 cases h with
 |
  nil h =>
  refine S.st _ _ hn ht λx hx=>?_
  obtain ⟨o,ho,hu⟩:=h x hx;exact Qd3 (S.ok.p _ hn _ hx).dp hn ht hnow ho hu
structure LwS (t:Tm) (L:List (List Rat)) (D M k0 w0 j:Nat) (lo hi:Rat):Prop where
 hv:Hv t D M (k0+j) ⟨t.p,lo,hi⟩
 v:Vt (cz t.p) L lo hi
 w:(hi-lo)*p2 j<=p2 w0
theorem LwS.next {t:Tm} {L:List (List Rat)} {D M k0 w0 j:Nat} {lo hi:Rat} (h:LwS t L D M k0 w0 j lo hi) :
 (cq (cz t.p) lo hi (A2 lo hi)<=0->LwS t L D M k0 w0 (j+1) lo (A2 lo hi))/\(¬cq (cz t.p) lo hi (A2 lo hi)<=0->LwS t L D M k0 w0 (j+1) (A2 lo hi) hi):=by
 obtain ⟨s1,s2⟩:=Zbx h.hv h.v;have h2:(lo+hi) / 2*2=lo+hi:=Fb (by decide);have e:=Qa9 lo hi;have hw:=h.w;have hj:=Qcm j;refine ⟨λhc=>?_,λhc=>?_⟩
 ·obtain ⟨a,b⟩:=s1 hc;refine ⟨a,b,?_⟩;rw [e,hj];generalize (lo+hi) / 2=m at *;have:(m-lo)*(p2 j+p2 j)=(hi-lo)*p2 j:=by
   have:m+m=lo+hi:=by grind
   have:(m-lo)*(p2 j+p2 j)=(m+m-lo-lo)*p2 j:=by grind
   rw [this,‹m+m=lo+hi›]; grind
  rw [this]; exact hw
 ·obtain ⟨a,b⟩:=s2 hc;refine ⟨a,b,?_⟩;rw [e,hj];generalize (lo+hi) / 2=m at *;have:(hi-m)*(p2 j+p2 j)=(hi-lo)*p2 j:=by
   have:m+m=lo+hi:=by grind
   have:(hi-m)*(p2 j+p2 j)=(hi+hi-(m+m))*p2 j:=by grind
   rw [this,‹m+m=lo+hi›]; grind
  rw [this]; exact hw
theorem Qne {D M k s:Nat} {x:Rat} (h:Gr D M k x) (hs:Ul (M:Int)<=s):Uk x<=p2 s:=by
 refine Q6 h.b ?_;have h1:=H7.1 hs;rw [Zx] at h1;exact Q9.2 (Jr h1)
theorem LwS.few {t:Tm} {L:List (List Rat)} {D M k0 w0 j:Nat} {lo hi:Rat} (h:LwS t L D M k0 w0 j lo hi) {n S m b:Nat} (hl:t.p.length=n+1) (hS:Bd S t.p) (hM:Ul (M:Int)<=m) {r:Rat} (hb:Ul (r.den:Int)<=b) (hr:lo<r) (hc:Up t r=1):j<=w0+(S+(m+1)*(n+1)+b*n):=by
 have hcq:cq (cz t.p) lo hi r=1:=by
  rw [<-Rw (t:=⟨t.p,lo,hi⟩) h.v.l r,h.hv.c]; exact hc
 have q1:=Qne h.hv.l hM;have q2:=Qne h.hv.h hM;have hrh:r<=hi:=by
  rcases Uy r hi with e | e
  ·exact e
  ·rw [A1 h.v.l e] at hcq; exact absurd hcq (by decide)
 have q3:Uk r<=p2 m:=by
  have a1:=Rh.1 q1;have a2:=Rh.1 q2;rw [Rh];constructor
  ·exact Q6 a1.1 (Qm hr)
  ·exact Q6 hrh a2.2
 have hg:=Zbg h.v hl hS q3 q2 hr hcq hb;obtain ⟨G,hG⟩:=nmE (S+(m+1)*(n+1)+b*n);rw [<-hG] at hg ⊢;rcases Q5 (w0+G) j with hj | hj
 ·exfalso;have h1:=Qcl (show w0+G+1<=j from hj);rw [Qcm,Qiq] at h1;have hw:=h.w;have hlo:0<hi-lo:=by have:=h.v.l; grind
  have h2:(hi-r)*p2 G<=(hi-lo)*p2 G:=Q3 (by grind) (Qlf G);have h3:=Zk h1 (Qm hlo);have h4:1<=(hi-lo)*p2 G:=Q6 hg h2;have h5:=Q3 h4 (Qlf w0);have h6:=Q6k w0;have e1:(hi-lo)*(p2 w0*p2 G+p2 w0*p2 G)=(hi-lo)*p2 G*p2 w0+(hi-lo)*p2 G*p2 w0:=by grind
  rw [e1] at h3;grind
 ·exact hj
end Orq
namespace Orq
section
variable {α:Type} (X Y:α->Rat)
def lx (a b:α):Prop:=X a<X b\/X a=X b/\Y a<Y b
def ori (a b c:α):Rat:=(X b-X a)*(Y c-Y a)-(X c-X a)*(Y b-Y a)
variable {X Y}
def Edg (Q:α->α->Prop):List α->Prop
 | a::b::r=>Q a b/\Edg Q (b::r)
 | _=>True
def Cnv (R:α->α->α->Prop):List α->Prop
 | a::b::c::r=>R a b c/\Cnv R (b::c::r)
 | _=>True
theorem Edg.tail {Q:α->α->Prop} {a:α} {l:List α} (h:Edg Q (a::l)):Edg Q l:=by
 cases l with
 | nil=>trivial
 | cons b l=>exact h.2
theorem Cnv.tail {R:α->α->α->Prop} {a:α} {l:List α} (h:Cnv R (a::l)):Cnv R l:=by
 match l,h with
 | [],_=>trivial
 | [_],_=>trivial
 | b::c::l,h=>exact h.2
theorem Edg.imp {Q Q':α->α->Prop}:∀ {l:List α},(∀ a∈l,∀ b∈l,Q a b->Q' a b)->Edg Q l->Edg Q' l
 | [],_,_=>trivial
 | [_],_,_=>trivial
 | a::b::l,hq,h=>⟨hq a (by simp) b (by simp) h.1,Edg.imp (l:=b::l) (λx hx y hy=>hq x (Qj _ hx) y (Qj _ hy)) h.2⟩
theorem Cnv.imp {R R':α->α->α->Prop}:∀ {l:List α},(∀ a∈l,∀ b∈l,∀ c∈l,R a b c->R' a b c)->Cnv R l->Cnv R' l
 | [],_,_=>trivial
 | [_],_,_=>trivial
 | [_,_],_,_=>trivial
 | a::b::c::l,hq,h=>⟨hq a (by simp) b (by simp) c (by simp) h.1,Cnv.imp (l:=b::c::l) (λx hx y hy z hz=>hq x (Qj _ hx) y (Qj _ hy) z (Qj _ hz)) h.2⟩
structure Stk (X Y:α->Rat) (P:List α) (st:List α):Prop where
 srt:st.Pairwise λb a=>lx X Y a b
 mem:∀ p∈st,p∈P
 edg:Edg (λb a=>∀ p∈P,0≤ori X Y a b p) st
 cnv:Cnv (λc b a=>0<ori X Y a b c) st
theorem Stk.tail {P:List α} {a:α} {st:List α} (h:Stk X Y P (a::st)):Stk X Y P st:=⟨(Zu.1 h.srt).2,λp hp=>h.mem p (Qj _ hp),h.edg.tail,h.cnv.tail⟩
end
end Orq
namespace Orr
open Go
end Orr
namespace Orr
def Zn1 (s m:Pt×Pt):Bool:=decide (m.1.id≠s.1.id) || decide (m.2.id≠s.2.id)
def Qq0 (i:Nat) (rows:List (List (List Int))):Nat->List (List (List Int))
 | 0=>[]
 | j+1=>if j=i then Qq0 i rows j else Qq0 i rows j++[(rows.getD j []).drop 1]
def Zg0 (rows:List (List (List Int))) (i:Nat):List (List (List Int)):=Qq0 i rows rows.length
structure Sq (s:Nat) (ds:List Nat) (k w:Nat) (rows:List (List (List Int))):Prop where
 l:rows.length=k
 w:∀ r∈rows,r.length=w
 t:∀ r∈rows,∀ p∈r,Uf p
 b:∀ r∈rows,∀ p∈r,Bd s p
 n:∀ r∈rows,∀ (j:Nat) (p:List Int),r[j]? = some p->p.length≤ds.getD j 0+1
theorem Qil {i:Nat} {rows:List (List (List Int))}:∀ {j:Nat} {r:List (List Int)},j≤rows.length->r∈Qq0 i rows j->∃ q∈rows,r=q.drop 1
 | 0,r,_,h=>by simp [Qq0] at h
 |
  j+1,r,hj,h=>by
  simp only [Qq0] at h
  split at h
  ·exact Qil (by omega) h
  ·rcases Qz.1 h with h | h
   ·exact Qil (by omega) h
   ·rw [Qp.1 h];exact ⟨rows.getD j [],Qc (i:=j) (by rw [Qg,Qd (by omega)]; rfl),rfl⟩
theorem Qq1 {i:Nat} {rows:List (List (List Int))}:∀ (j:Nat),(Qq0 i rows j).length=if i<j then j-1 else j
 | 0=>rfl
 |
  j+1=>by
  have ih:=Qq1 (i:=i) (rows:=rows) j;simp only [Qq0]
  split
  ·rename_i e; subst e; rw [ih,if_neg (by omega),if_pos (by omega)]; omega
  ·rw [Zb,ih,Kk]
   split <;> split <;> omega
theorem Sq.min {s d k w:Nat} {ds:List Nat} {rows:List (List (List Int))} (h:Sq s (d::ds) (k+1) (w+1) rows) {i:Nat} (hi:i<k+1):Sq s ds k w (Zg0 rows i):=by
 have hl:=h.l;have hm:∀ {r:List (List Int)},r∈Zg0 rows i->∃ q∈rows,r=q.drop 1:=λh=>Qil (Qk _) h
 refine ⟨by unfold Zg0; rw [Qq1,hl,if_pos hi]; omega,λr hr=>?_,λr hr p hp=>?_,λr hr p hp=>?_,λr hr j p hp=>?_⟩
 ·obtain ⟨q,hq,rfl⟩:=hm hr;rw [Yv,h.w q hq]; omega
 all_goals obtain ⟨q,hq,rfl⟩:=hm hr
 ·exact h.t q hq p (Zg hp)
 ·exact h.b q hq p (Zg hp)
 ·rw [Xf] at hp;have:=h.n q hq (1+j) p hp;rw [J3 1 j] at this;exact this
theorem Sq.at {s d k w:Nat} {ds:List Nat} {rows:List (List (List Int))} (h:Sq s (d::ds) k (w+1) rows) {i:Nat} (hi:i<k):∃ p r,rows[i]? = some (p::r)/\(rows.getD i []).getD 0 []=p/\Uf p/\Bd s p/\p.length<=d+1:=by
 obtain ⟨r,hr⟩:=gxE (l:=rows) (i:=i) (by rw [h.l]; exact hi);have hm:=Qc hr;cases r with
 | nil=>have:=h.w _ hm; simp at this
 |
  cons p r =>
  have e:rows.getD i []=p::r:=by rw [Qg,hr]; rfl
  refine ⟨p,r,hr,by rw [e]; rfl,h.t _ hm p (by simp),h.b _ hm p (by simp),h.n _ hm 0 p rfl⟩
end Orr
namespace Orr
open Go Go.Proofs Orq
set_option maxRecDepth 10000
theorem gz {P:Program} [Mo P] {n:Nat} {Q:Exit->Sg->List OB->Prop} {L L':Sg} {B B':List OB} (i:Nat) {it:List It} (hs:H8 it=true) (h:Q04 [i] L B=some (L',B')) (k:AK P n Q it L' B'):AK P n Q it L B:=AK.sub (Qcs h) hs k
end Orr
namespace Orq
open Orr Go
theorem Q0s {a b:Crv} (ha:Cs 10 3 a) (hb:Cs 10 3 b):Bd 21 (Gz a b)/\(Gz a b).length<=3:=by
 have l1:=Uz b.x a.d;have l2:=Uz a.x b.d;have:=ha.lx;have:=hb.lx;exact ⟨W9 (Dw (U9 hb.x ha.d) (U9 ha.x hb.d)) (by omega),Qa (Ms _ _) (by omega)⟩
theorem Q0q {a b:Crv} (ha:Cs 10 3 a) (hb:Cs 10 3 b):Bd 21 (Hj a b)/\(Hj a b).length<=3:=by
 have l1:=Uz b.y a.d;have l2:=Uz a.y b.d;have:=ha.ly;have:=hb.ly;exact ⟨W9 (Dw (U9 hb.y ha.d) (U9 ha.y hb.d)) (by omega),Qa (Ms _ _) (by omega)⟩
theorem Q0r {a b:Pt} (ha:Cs 10 3 a.c) (hb:Cs 10 3 b.c):Bd 86 (Pi a b)/\(Pi a b).length<=3:=by
 obtain ⟨b1,l1⟩:=Q0s ha hb;obtain ⟨b2,l2⟩:=Q0q ha hb;unfold Pi E8
 split
 ·exact ⟨W9 b1 (by decide),by omega⟩
 ·exact ⟨W9 b2 (by decide),by omega⟩
theorem Zhh (q:Rat) (p:List Int):P4 (tq q) p=U4 p q:=by
 unfold P4 Qi6
 split
 ·rename_i h; rw [List.eq_nil_of_length_eq_zero h]; rfl
 ·rw [if_pos (Tt.2 (Ql (a:=q)))]; rfl
theorem Q5g (q:Rat) (p:List Int):Mk (P4 (tq q)) p=Lk p q:=by
 have:P4 (tq q)=λp=>U4 p q:=funext (Zhh q)
 rw [this]; rfl
theorem Qvi {b a r:List Int} {k:Nat} (h:RRun b k a r):r.length<b.length:=by
 induction h with
 | stop h=>exact h
 | step _ _ _ _ _ ih=>exact ih
theorem Qtu {k:Nat} {l f:List (List Int)} {g:List Int} (h:CRun k l g f):(∀ p∈l,Bd 9000000 p/\p.length≤64)->g.length≤64->∀ p∈f,Bd 9000000 p/\p.length≤64:=by
 induction h with
 | stop _=>exact λh _=>h
 |
  step h1 h2 h3 h4 h5 h6 h7 h8 h9 _ ih =>
  intro hl hg;refine ih (λp hp=>?_) ?_
  ·rcases Qz.1 hp with hp | hp
   ·exact hl p hp
   ·rw [Qp.1 hp]; exact ⟨h3,hg⟩
  ·have:=Qvi h4;exact Qa (Di _) (Qa (Aj _) (by omega))
theorem Qpt {p:List Int} {C:List (List Int)} (h:ChRun p p C) (hl:p.length≤60):∀ x∈C,Bd 9000000 x/\x.length≤64:=by
 obtain ⟨n,hn⟩:=h.chain;refine Qtu hn (λx hx=>?_) ?_
 ·rw [Qp.1 hx]; exact ⟨W9 h.bd (by decide),by omega⟩
 ·refine Qa (Aj _) ?_;have:=Ry p; omega
def bq (n:Nat):Nat->Nat
 | 0=>100
 | i+1=>17000+n*bq n i
structure HI (a:Tm) (L:List (List Rat)) (j:Nat) (lo hi:Rat):Prop where
 w:∃ D M k0,LwS a L D M k0 226 j lo hi/\0<M/\Ul (D:Int)<=224/\Ul (M:Int)<=225/\k0<=14925
structure HX (a:Tm) (C:List (List Int)) (q:Rat) (b j:Nat) (lo hi:Rat):Prop where
 ql:Qs b lo
 qh:Qs b hi
 c:lo=hi/\q<lo/\Up a hi=0\/HI a (C.map cz) j lo hi
theorem HI.qs {a:Tm} {L:List (List Rat)} {j:Nat} {lo hi:Rat} (h:HI a L j lo hi) {b:Nat} (hb:15374+j<=b):Qs b lo/\Qs b hi:=by
 obtain ⟨D,M,k0,hw,hM,h1,h2,h3⟩:=h.w;exact ⟨Qk1 hw.hv.l hM (by omega),Qk1 hw.hv.h hM (by omega)⟩
theorem HI.cq {a:Tm} {L:List (List Rat)} {j:Nat} {lo hi:Rat} (h:HI a L j lo hi) (q:Rat):Orq.cq (cz a.p) lo hi q=Up a q:=by
 obtain ⟨D,M,k0,hw,_⟩:=h.w;rw [<-Rw (t:=⟨a.p,lo,hi⟩) hw.v.l q]; exact hw.hv.c q
theorem HI.lt {a:Tm} {L:List (List Rat)} {j:Nat} {lo hi:Rat} (h:HI a L j lo hi):lo<hi:=by
 obtain ⟨D,M,k0,hw,_⟩:=h.w;exact hw.v.l
theorem HI.few {a:Tm} {L:List (List Rat)} {j:Nat} {lo hi:Rat} (h:HI a L j lo hi) {n b:Nat} (hn:a.p.length<=n+1) (h2:2<=a.p.length) (n4:n<=4) (hS:Bd 224 a.p) {r:Rat} (hb:Qs b r) (hr:lo<r) (hc:Up a r=1):j<=1580+n*b:=by
 obtain ⟨D,M,k0,hw,hM,h1,hM2,h3⟩:=h.w;have h5:=hw.few (n:=a.p.length-1) (by omega) hS hM2 (b:=b) hb.2 hr hc;have h6:b*(a.p.length-1)<=n*b:=by rw [Zd]; exact Qw _ (by omega)
 have h7:(225+1)*(a.p.length-1+1)<=(225+1)*5:=Zf _ (by omega);omega
structure HA (a:Tm) (n:Nat) (C:List (List Int)):Prop where
 va:Va a
 pt:a.point=false
 n:a.p.length<=n+1
 b:Bd 224 a.p
 ch:ChRun a.p a.p C
 pr:Ge a.p=a.p
 i:HI a (C.map cz) 0 a.lo a.hi
theorem Zjc {a:Tm} (va:Va a) (hp:a.point=false) {n:Nat} (hz:Sz 86 (n+1) a) (n4:n<=4):∃ C,HA a n C:=by
 obtain ⟨l,P,g,h1,sq,V⟩:=va.sc hp;have hb:Bd 224 a.p:=hz.b;have hch:=Q36 sq va.n2 va.n hb (by decide) h1;obtain ⟨D,M,k,g1,g2,g3,g4,g5,g6⟩:=hz.g;refine ⟨a.p::l,va,hp,hz.n,hb,hch,by rw [Te]; exact Qrs sq.pq,⟨D,M,k,⟨⟨rfl,.inr ⟨_,V⟩,λ_=>rfl,g1,g2⟩,V,?_⟩,g3,g4,g5,by omega⟩⟩;have q1:=Rh.1 (Qne g1 g5);have q2:=Rh.1 (Qne g2 g5);have e:p2 226=p2 225+p2 225:=Qcm 225;have e0:p2 0=1:=rfl;rw [e,e0];grind
def xlo (a:Tm):Rat:=if U4 a.p a.hi=0 then a.hi else a.lo
theorem HA.start {a:Tm} {n:Nat} {C:List (List Int)} (h:HA a n C) {q:Rat} {b:Nat} (hq:Up a q=1) (hb:15374<=b):HX a C q b 0 (xlo a) a.hi:=by
 obtain ⟨q1,q2⟩:=h.i.qs (b:=b) (by omega);unfold xlo
 split
 ·rename_i h0;refine ⟨q2,q2,.inl ⟨rfl,?_,?_⟩⟩
  ·refine Jp.1 λhle=>?_
   have hc:=h.va.cut;have h1:Up a a.hi=0:=?_
   ·rcases Vx.1 hle with h2 | h2
    ·have:=hc.mono' h2 (by omega); omega
    ·rw [h2] at h1; omega
   rw [<-h.i.cq,Mn h.i.lt Ql,if_pos (by rw [Ue,<-To]; exact h0)]
  ·rw [<-h.i.cq,Mn h.i.lt Ql,if_pos (by rw [Ue,<-To]; exact h0)]
 ·exact ⟨q1,q2,.inr h.i⟩
theorem HX.cmp {a:Tm} {C:List (List Int)} {q:Rat} {b j:Nat} {lo hi:Rat} (h:HX a C q b j lo hi) (hp:HI a (C.map cz) 0 a.lo a.hi) (hq:Up a q=1):crR C a.p lo hi q=1:=by
 rcases h.c with ⟨rfl,h1,_⟩ | h1
 ·rw [Qm0];rcases Rk lo q with ⟨e,e'⟩ | ⟨e,e'⟩ | ⟨e,e'⟩ <;> grind
 ·obtain ⟨D,M,k0,hw,_⟩:=h1.w;rw [Qtt hw.v,h1.cq,hq]
theorem HX.next {a:Tm} {n:Nat} {C:List (List Int)} (ha:HA a n C) (n4:n<=4) {q:Rat} {b0 j:Nat} {lo hi:Rat} (h:HX a C q (17000+n*b0) j lo hi) (hb:Qs b0 q) (hq:Up a q=1) (hlo:lo<q) :
 lo<hi/\j<=1580+n*b0/\(crR C a.p lo hi (A2 lo hi)<=0->HX a C q (17000+n*b0) (j+1) lo (A2 lo hi))/\(¬crR C a.p lo hi (A2 lo hi)<=0->HX a C q (17000+n*b0) (j+1) (A2 lo hi) hi):=by
 rcases h.c with ⟨_,h1,_⟩ | h1
 ·grind
 ·have hj:=h1.few ha.n ha.va.n2 n4 ha.b hb hlo hq;obtain ⟨D,M,k0,hw,g1,g2,g3,g4⟩:=h1.w;obtain ⟨s1,s2⟩:=hw.next;refine ⟨h1.lt,hj,λhc=>?_,λhc=>?_⟩
  ·rw [Qtt hw.v] at hc;have hi':HI a (C.map cz) (j+1) lo (A2 lo hi):=⟨D,M,k0,s1 hc,g1,g2,g3,g4⟩;obtain ⟨q1,q2⟩:=hi'.qs (b:=17000+n*b0) (by omega);exact ⟨q1,q2,.inr hi'⟩
  ·rw [Qtt hw.v] at hc;have hi':HI a (C.map cz) (j+1) (A2 lo hi) hi:=⟨D,M,k0,s2 hc,g1,g2,g3,g4⟩;obtain ⟨q1,q2⟩:=hi'.qs (b:=17000+n*b0) (by omega);exact ⟨q1,q2,.inr hi'⟩
theorem HX.fin {a:Tm} {C:List (List Int)} {q:Rat} {b j:Nat} {lo hi:Rat} (ha:Va a) (h:HX a C q b j lo hi):(lo≠hi->Up a lo=1)/\Up a hi≠1/\lo<=hi:=by
 rcases h.c with ⟨h1,h2,h3⟩ | h1
 ·exact ⟨λh=>absurd h1 h,by omega,by rw [h1]; exact Ql⟩
 ·obtain ⟨D,M,k0,hw,_⟩:=h1.w;refine ⟨λ_=>by rw [<-h1.cq]; exact Ni Ql,by rw [<-h1.cq]; exact hw.v.hi1,Qm h1.lt⟩
theorem Zjd {p:List Int} (h:Cp p) {n:Nat} (n4:n<=4) (hb:Bd 86 p) (hn:p.length<=n+1) {a:Tm} (ha:Va a) (ht:a∈tms p):∃ C,HA a n C:=by
 unfold tms at ht;cases hl:Lq p with
 | none=>rw [hl] at ht; cases ht
 |
  some l =>
  rw [hl] at ht;obtain ⟨h1,h2⟩:=Q8v h (s:=86) (by decide) hb hl a ht;exact Zjc ha h1 (n:=n) ⟨Qa h2.n hn,h2.b,h2.g⟩ n4
theorem Q2a {n:Nat} (h:n<=2):∀ i,i<=4->bq n i<=400000:=by
 have key:∀ i,bq n i<=bq 2 i:=λi=>by
  induction i with
  | zero=>exact Qk _
  | succ i ih=>exact Nat.add_le_add_left (Zt h ih) _
 have k1:=key 1; have k2:=key 2; have k3:=key 3; have k4:=key 4;have e1:bq 2 1=17200:=rfl;have e2:bq 2 2=51400:=rfl;have e3:bq 2 3=119800:=rfl;have e4:bq 2 4=256600:=rfl;intro i hi
 match i,hi with
 | 0,_=>show 100<=_; decide
 | 1,_=>omega
 | 2,_=>omega
 | 3,_=>omega
 | 4,_=>omega
end Orq
namespace Orr
open Go Orq
theorem Qlu {sg:List Int->Int}:∀ {l:List Pt},(∀ p∈l,Cs 10 3 p.c)->∀ x∈Ra sg l,Bd 86 x.p/\x.p.length≤3/\x.want=Mk sg x.p
 | [],_,x,hx=>by cases hx
 | [_],_,x,hx=>by cases hx
 |
  a::b::l,h,x,hx=>by
  rcases Qq.1 hx with rfl | hx
  ·have:=Q0r (h a (by simp)) (h b (by simp));exact ⟨this.1,this.2,rfl⟩
  ·exact Qlu (λp hp=>h p (Qj _ hp)) x hx
theorem Q9o {l:List Pt} (hl:∀ p∈l,Nml p.c/\Cs 10 3 p.c) {a:Tm}:∀ x∈bcS l a,Bd 86 x.p/\x.p.length≤3/\x.want=Mk (P4 a) x.p :=
 Qlu λp hp=>(hl p (Rq.1 hp)).2
end Orr
namespace Orr
open Go Go.Proofs Orq
set_option maxRecDepth 10000
def evF (a:Tm) (w:Wt):Option (List LV):=match w.fails with
 | none=>none
 | some t=>if Qfv t a=some 0 then some ([.int .i64 w.c.kind,.int .i64 w.c.i0,.int .i64 w.c.i1,.int .i64 w.c.i2,.int .i64 w.c.i3]++ta t) else none
theorem Q4v {a:Tm} {ws:List Wt} {i:Nat} {w:Wt} (h:ws[i]? = some w):(ws.take (i+1)).filterMap (evF a)=(ws.take i).filterMap (evF a)++(evF a w).toList:=by
 rw [Xa,h,List.filterMap_append];show _++List.filterMap (evF a) [w]=_;cases hw:evF a w <;> simp [hw]
theorem Q2k {T:Nat} {c:Cr} {r0 r1:List (List LV)} {ws:List Wt} {a:Tm} (hc:CrOk c) (h:Nl c.now c.l=some ws) (hr:Qio ws=some (some a)) (va:Va a):Hq Tryz.prog 26 [.one (.ow 0 0)] [.blk T (Bt c r0 r1)] [.one (.row (ws.filterMap (evF a)))] [.blk T (Bt { c with l:=ws } r0 r1)]:=by
 have cn:=Qmk (T:=T) (r0:=r0) (r1:=r1) hc h hr;have hc':=O2 hc h;have hk:=hc'.k;have hw:=Nb ws;refine Gl Tryz.func26 rfl ?_;refine go tt [.c [0] cn,.f rfl,.o 5 174 14] rfl trivial ?_;refine lp (S:=Nat) 3 (λL1 i=>(22,.v (.one (.int .i64 (i:Int))))::(5,.v (.one (.orow 2 14 none)))::L1) (λi=>[.blk T (Bt { c with l:=ws } r0 r1),.blk 74 (ta a),.row false 174 14 ((ws.take i).filterMap (evF a))]) (λi=>ws.length-i) (λi=>i<=ws.length) 0 (Qi _) rfl (λ_ _=>rfl) rfl λi hi=>?_
 by_cases hlt:i<ws.length
 ·obtain ⟨w,hx⟩:=gxE (l:=ws) (i:=i) hlt;have hl:decide ((i:Int)<((Qam ws).length:Int))=true:=by simp [hw]; omega
  have hfl:((ws.take i).filterMap (evF a)).length<=i:=Qa (V5 _ _) (by rw [Qy]; omega);have hg:=Q4v (a:=a) hx;have hvb:=(hc'.l w (Qc hx)).f;obtain ⟨wc,wk,wf⟩:=w;have hk:ws.length<=1000:=hk;cases wf with
  |
   none =>
   refine go tt [.t hl,.x (Rt hx),.g 28 false rfl,.f rfl] rfl (by simp [Ua]; omega) ?_;exact rd (i+1) (by omega) hlt (by rw [hg]; simp [evF]; rfl)
  |
   some t =>
   have vt:=hvb t rfl;obtain ⟨r,r1',_⟩:=Ot vt va;have cc:=Qg4 vt.tb va.tb r1';by_cases D:r=0
   ·have he:evF a ⟨wc,wk,some t⟩=some ([.int .i64 wc.kind,.int .i64 wc.i0,.int .i64 wc.i1,.int .i64 wc.i2,.int .i64 wc.i3]++ta t):=if_pos (by rw [r1',D]);have cl:=Lu (b:=t) (l:=[]) vt.tb (λt ht=>by cases ht) (by decide) rfl;refine go tt [.t hl,.x (Rt hx),.g 28 true rfl,.c [] cc,.t (decide_eq_true D),.c [] cl,.s (l:=[[.int .i64 wc.kind,.int .i64 wc.i0,.int .i64 wc.i1,.int .i64 wc.i2,.int .i64 wc.i3]++ta t]) (sz:=14) (λc hc=>by rw [Qp.1 hc]; rfl)] rfl (by simp [Ua]; omega) ?_;exact rd (i+1) (by omega) hlt (by rw [hg,he]; rfl)
   ·have he:evF a ⟨wc,wk,some t⟩=none:=if_neg (by rw [r1']; intro h; injection h with h; exact D h);refine go tt [.t hl,.x (Rt hx),.g 28 true rfl,.c [] cc,.f (decide_eq_false D)] rfl (by simp [Ua]; omega) ?_;exact rd (i+1) (by omega) hlt (by rw [hg,he]; simp; rfl)
 ·obtain rfl:i=ws.length:=by omega
  rw [Q4];exact ed tt [2] [0] [.f (by simp [hw])] rfl trivial
theorem Zbf {ws:List Wt} {a:Tm} (va:Va a) {w:Wt} (hw:w∈ws) (hf:w.fails=some a):0<(ws.filterMap (evF a)).length:=by
 obtain ⟨r,h1,h2⟩:=Ot va va;have h0:r=0:=by
  rcases h2 with ⟨_,h⟩ | ⟨e,_⟩ | ⟨_,h⟩
  ·exact absurd h λh=>I1 va.cut va.cut h h
  ·exact e
  ·exact absurd h λh=>I1 va.cut va.cut h h
 have he:evF a w=some ([.int .i64 w.c.kind,.int .i64 w.c.i0,.int .i64 w.c.i1,.int .i64 w.c.i2,.int .i64 w.c.i3]++ta a):=by
  unfold evF; rw [hf]; exact if_pos (by rw [h1,h0])
 obtain ⟨x,hx⟩:∃ x,x∈ws.filterMap (evF a):=⟨_,Ji.2 ⟨w,hw,he⟩⟩;exact List.length_pos_of_mem hx
theorem Qqv {now:Tm}:∀ {ws:List Wt},(∀ w∈ws,w.known=true)->Nl now ws=some ws
 | [],_=>rfl
 |
  w::l,h=>by
  simp only [Nl];rw [if_pos (h w (Qt ..)),Qqv λx hx=>h x (Qj _ hx)];rfl
theorem Qqw {now:Tm} {l ws:List Wt} (h:Nl now l=some ws):∀ w∈ws,w.known=true:=λv hv=>by
 obtain ⟨h1,h2⟩:=O1 h;obtain ⟨i,hi⟩:=Jm hv;have hil:i<l.length:=by rw [<-h1]; exact (Qf.1 hi).1
 obtain ⟨v',h3,h4⟩:=h2 i _ (Qd hil);rw [hi] at h3; injection h3 with h3; subst h3;rcases h4 with ⟨h5,rfl⟩ | ⟨_,r,_,rfl⟩
 ·exact h5
 ·rfl
end Orr
namespace Orq
open Orr Go
theorem Q7j {β:Type} {Bc:Tm->List Ct} {Br:Tm->β} {n:Nat} (n4:n≤4) (hsz:∀ a,∀ x∈Bc a,Bd 86 x.p/\x.p.length≤n+1/\x.want=Mk (P4 a) x.p) (S:Stab Bc Br) {c:Cr} {r:β} {q:Rat} (hS:KSt Bc Br c r) (hq:c.now=tq q) :
 ∃ ws o,Nl c.now c.l=some ws/\Qio ws=some o/\Nl c.now ws=some ws/\KSt Bc Br { c with l:=ws } r/\∀ a,o=some a->Va a/\0<(ws.filterMap (evF a)).length/\Up a q=1/\(∃ C,HA a n C)/\(∃ x∈Bc c.now,Rx x.p c.now (some a))/\∀ x∈Bc c.now,∃ o',Rx x.p c.now o'/\∀ u,o'=some u->¬Pd u a:=by
 obtain ⟨ws,o,h1,h2,h3,h4⟩:=Zgx hS;refine ⟨ws,o,h1,h2,Qqv (Qqw h1),h3,λa ha=>?_⟩;subst ha;obtain ⟨va,hlt,⟨x,hx,hxn,hxt⟩,hmin⟩:=h4;obtain ⟨o',o1,o2⟩:=Qum h3.inv.ok.l;rw [h2] at o1;injection o1 with o1; subst o1;obtain ⟨_,⟨w,hw,hwf⟩,_⟩:=o2;obtain ⟨k1,k2,_⟩:=hsz c.now x hx;have hcp:=S.ok.p _ hS.inv.ok.n _ hx;refine ⟨va,Zbf va hw hwf,?_,Zjd hcp n4 k1 k2 va hxt,⟨x,hx,hxn⟩,hmin⟩;rw [hq] at hlt;have h5:=(Ii va.cut (t:=q)).2 hlt;rcases va.cut.val q with e | e | e <;> omega
theorem Zje {β:Type} {Bc:Tm->List Ct} {Br:Tm->β} {n:Nat} (hsz:∀ a,∀ x∈Bc a,Bd 86 x.p/\x.p.length≤n+1/\x.want=Mk (P4 a) x.p) {c:Cr} {r:β} {q:Rat} (hS:KSt Bc Br c r) (hq:c.now=tq q):∀ x∈Gk (c.l.map (·.c)),Bd 86 x.p/\x.p.length≤n+1/\Uf x.p/\Lk x.p q=x.want:=λx hx=>by
 have h1:=C0.1 hx;obtain ⟨w,hw,rfl⟩:=Zr.1 h1;have h2:w.c∈Gk (Bc c.now):=by rw [<-hS.cs]; exact h1
 obtain ⟨k1,k2,k3⟩:=hsz _ _ (C0.1 h2);refine ⟨k1,k2,(hS.inv.ok.l w hw).p.t,?_⟩;rw [k3,hq,Q5g]
end Orq
namespace Orr
open Go Go.Proofs Orq
set_option maxRecDepth 10000
abbrev ax (p:List Int) (C:List (List Int)) (lo hi:Rat):List LV:=[rp (zp p),.row (zls C)]++fr lo++fr hi
theorem Qql {sg:List Int->Int} {l:List (List Int)} {i:Nat} {p:List Int} (h:l[i]? = some p):(idl (l.map sg))[i]? = some [.int .i64 (sg p)]:=Qb8 (by rw [Q7,h]; rfl)
theorem Q3r {l:List (List Int)} {sg:List Int->Int} (hl:l.length<=1000) (hs:∀ p,-1<=sg p/\sg p<=1):Ub Tryz.prog 219 [.one (.row (idl (l.map sg)))] [.one (.int .i64 (Pw sg l:Nat))]:=by
 have hpl:(idl (l.map sg)).length=l.length:=by simp
 refine Gl Tryz.func219 rfl ?_;refine go tt [] rfl trivial ?_;refine lp (S:=Nat) 0 (λL1 i=>(8,.v (.one (.int .i64 (i:Int))))::(3,.v (.one (.int .i64 ((C5 sg l i).1:Int))))::(4,.v (.one (.int .i64 (C5 sg l i).2)))::L1) (λ_=>[]) (λi=>l.length-i) (λi=>i<=l.length) 0 (Qi _) rfl (λ_ _=>rfl) rfl λi hi=>?_
 by_cases hlt:i<l.length
 ·obtain ⟨p,hp⟩:=gxE (l:=l) (i:=i) hlt;have hst:C5 sg l (i+1)=Ho sg (C5 sg l i) p:=Pz _ _ _ hp;obtain ⟨b1,b2,b3⟩:=Qjd hs l i;have b4:=hs p;have hx:=Qql (sg:=sg) hp;have ht:decide ((i:Int)<((idl (l.map sg)).length:Int))=true:=decide_eq_true (by omega);by_cases h0:sg p=0
  ·refine go tt [.t ht,.x hx,.f (by simpa using h0)] rfl (by simp [Ua]; omega) ?_;exact rd (i+1) (by omega) hlt (by rw [hst,show Ho sg (C5 sg l i) p=C5 sg l i from by unfold Ho; rw [if_pos h0]]; rfl)
  ·by_cases h2:(C5 sg l i).2=0
   ·refine go tt [.t ht,.x hx,.t (by simpa using h0),.g 18 false (by simp [h2]),.f rfl,.x hx] rfl (by simp [Ua]; omega) ?_;exact rd (i+1) (by omega) hlt (by rw [hst,show Ho sg (C5 sg l i) p=((C5 sg l i).1,sg p) from by unfold Ho; rw [if_neg h0,if_neg (by omega)]]; rfl)
   ·by_cases h1:(C5 sg l i).2=-(sg p)
    ·refine go tt [.t ht,.x hx,.t (by simpa using h0),.g 18 true (by simpa using h2),.x hx,.t (by simp; omega),.x hx] rfl (by simp [Ua]; omega) ?_;exact rd (i+1) (by omega) hlt (by rw [hst,show Ho sg (C5 sg l i) p=((C5 sg l i).1+1,sg p) from by unfold Ho; rw [if_neg h0,if_pos h1]]; rfl)
    ·refine go tt [.t ht,.x hx,.t (by simpa using h0),.g 18 true (by simpa using h2),.x hx,.f (by simp; omega),.x hx] rfl (by simp [Ua]; omega) ?_;exact rd (i+1) (by omega) hlt (by rw [hst,show Ho sg (C5 sg l i) p=((C5 sg l i).1,sg p) from by unfold Ho; rw [if_neg h0,if_neg h1]]; rfl)
 ·obtain rfl:i=l.length:=by omega
  refine en tt [.f (decide_eq_false (by omega))] rfl ?_ trivial;unfold C5 Pw; rw [List.take_length]
def Cok (C:List (List Int)):Prop:=C.length≤1000/\∀ p∈C,Bd 9000000 p/\p.length≤64
theorem Qhd {C:List (List Int)} {q:Rat} (hC:Cok C) (hq:Qs 1000000 q):Ub Tryz.prog 164 [.one (.row (zls C)),.agg (fr q)] [.one (.int .i64 (Sf C q:Nat))]:=by
 obtain ⟨hl,hp⟩:=hC;have hzl:=Ay C;refine Gl Tryz.func164 rfl ?_;refine go tt [.o 5 3 1] rfl trivial ?_;refine lp (S:=Nat) 2 (λL1 i=>(9,.v (.one (.int .i64 (i:Int))))::(5,.v (.one (.orow 1 1 none)))::L1) (λi=>[.blk 35 (fr q),.row false 3 1 (idl ((C.take i).map λp=>U4 p q))]) (λi=>C.length-i) (λi=>i<=C.length) 0 (Qi _) rfl (λ_ _=>rfl) rfl λi hi=>?_
 have hol:(idl ((C.take i).map λp=>U4 p q)).length=i:=by simp; omega
 by_cases h:i<C.length
 ·have hx:=Ax h;have hm:=Xu h;have he:C.getD i []=C[i]:=by rw [Qg,Qd h]; rfl
  rw [he] at hx;have cs:=Qbv (W9 (hp _ hm).1 (by decide)) (hp _ hm).2 hq;have hg:idl ((C.take (i+1)).map λp=>U4 p q)=idl ((C.take i).map λp=>U4 p q)++[[.int .i64 (U4 C[i] q)]]:=by
   have e:(C.take (i+1)).map (λp=>U4 p q)=(C.take i).map (λp=>U4 p q)++[U4 C[i] q]:=by rw [Xa,Qd h,Ya]; rfl
   rw [e]; exact Ya
  refine go tt [.t (decide_eq_true (by omega)),.x hx,.c [] cs,.s (sz:=1) (Qup _)] rfl (by simp [Ua,hol,-List.map_take]; omega) ?_;exact rd (i+1) (by omega) h (by rw [hg]; rfl)
 ·have e:i=C.length:=by omega
  rw [e,Q4];exact en tt [.f (decide_eq_false (by omega)),.p 1,.c [] (Q3r (sg:=λp=>U4 p q) hl λp=>M3 p q)] rfl rfl trivial
theorem Qtm {C:List (List Int)} {lo hi:Rat} (hC:Cok C) (ql:Qs 1000000 lo) (qh:Qs 1000000 hi):Ub Tryz.prog 93 [.one (.row (zls C)),.agg (fr lo),.agg (fr hi)] [.one (.int .i64 (Gw C lo hi))]:=by
 have b1:Sf C lo<=C.length:=Px (λp=>M3 p lo) C;have b2:Sf C hi<=C.length:=Px (λp=>M3 p hi) C;have hl:=hC.1;have c1:=Cg (qh.mono (by decide)) (ql.mono (by decide));unfold Gw;by_cases h:U7 hi lo<0
 ·rw [if_pos h];exact w tt Tryz.func93 rfl [.c [] c1,.t (by simpa using h)] rfl rfl trivial
 ·rw [if_neg h];exact w tt Tryz.func93 rfl [.c [] c1,.f (by simpa using h),.c [] (Qhd hC ql),.c [] (Qhd hC qh)] rfl rfl (by simp [Ua]; omega)
theorem Qpm {p:List Int} {C:List (List Int)} {lo hi:Rat} (ql:Qs 1000000 lo) (qh:Qs 1000000 hi):Ub Tryz.prog 89 [.agg (ax p C lo hi)] [.one (.bool (decide (U7 lo hi=0)))] :=
 w tt Tryz.func89 rfl [.c [] (Cg (ql.mono (by decide)) (qh.mono (by decide)))] rfl rfl trivial
theorem On {p:List Int} {C:List (List Int)} {lo hi t:Rat} (hp:Bd 30000000 p) (hpl:p.length<=64) (hC:Cok C) (ql:Qs 1000000 lo) (qh:Qs 1000000 hi) (qt:Qs 1000000 t):Ub Tryz.prog 28 [.agg (ax p C lo hi),.agg (fr t)] [.one (.int .i64 (crR C p lo hi t))]:=by
 have c0:=Qpm (p:=p) (C:=C) ql qh;have c1:=Cg (ql.mono (t:=40000000) (by decide)) (qt.mono (by decide));have c2:=Cg (qt.mono (t:=40000000) (by decide)) (ql.mono (by decide));have c3:=Cg (qt.mono (t:=40000000) (by decide)) (qh.mono (by decide));have c4:=Qtm hC ql qt;have c5:=Qbv hp hpl qt;unfold crR;by_cases h0:U7 lo hi=0
 ·rw [if_pos h0];exact w tt Tryz.func28 rfl [.c [] c0,.t (decide_eq_true h0),.c [] c1] rfl rfl trivial
 rw [if_neg h0];by_cases h1:U7 t lo<=0
 ·rw [if_pos h1];exact w tt Tryz.func28 rfl [.c [] c0,.f (decide_eq_false h0),.c [] c2,.t (decide_eq_true h1)] rfl rfl trivial
 rw [if_neg h1];by_cases h2:0<U7 t hi
 ·rw [if_pos h2];exact w tt Tryz.func28 rfl [.c [] c0,.f (decide_eq_false h0),.c [] c2,.f (decide_eq_false h1),.c [] c3,.t (decide_eq_true h2)] rfl rfl trivial
 rw [if_neg h2];by_cases h3:Gw C lo t=0
 ·rw [if_pos h3];exact w tt Tryz.func28 rfl [.c [] c0,.f (decide_eq_false h0),.c [] c2,.f (decide_eq_false h1),.c [] c3,.f (decide_eq_false h2),.c [] c4,.t (decide_eq_true h3)] rfl rfl trivial
 rw [if_neg h3];by_cases h4:U4 p t=0
 ·rw [if_pos h4];exact w tt Tryz.func28 rfl [.c [] c0,.f (decide_eq_false h0),.c [] c2,.f (decide_eq_false h1),.c [] c3,.f (decide_eq_false h2),.c [] c4,.f (decide_eq_false h3),.c [] c5,.t (decide_eq_true h4)] rfl rfl trivial
 rw [if_neg h4];exact w tt Tryz.func28 rfl [.c [] c0,.f (decide_eq_false h0),.c [] c2,.f (decide_eq_false h1),.c [] c3,.f (decide_eq_false h2),.c [] c4,.f (decide_eq_false h3),.c [] c5,.f (decide_eq_false h4)] rfl rfl trivial
theorem Zac {p:List Int} {C c:List (List Int)} {lo hi t:Rat} (hp:Bd 30000000 p) (hpl:p.length<=64) (hC:Cok C) (ql:Qs 1000000 lo) (qh:Qs 1000000 hi) (qt:Qs 1000000 t) (hc:Cok c):Ub Tryz.prog 25 [.agg (ax p C lo hi),.agg (aq t c)] [.one (.int .i64 (crR C p lo hi t))]:=by
 have c0:=Qpm (p:=p) (C:=C) ql qh;have ct:Ub Tryz.prog 89 [.agg (aq t c)] [.one (.bool true)]:=Qhe qt;have c1:=On hp hpl hC ql qh qt;by_cases h0:U7 lo hi=0
 ·have e:crR C p lo hi t=-(crR c [-t.num,(t.den:Int)] t t lo):=by
   rw [Qm0]; unfold crR; rw [if_pos h0];rcases Rk lo t with ⟨e,h⟩ | ⟨e,h⟩ | ⟨e,h⟩ <;> rcases Rk t lo with ⟨e',h'⟩ | ⟨e',h'⟩ | ⟨e',h'⟩ <;> grind
  have hbt:Bd 30000000 [-t.num,(t.den:Int)]:=W9 (Q19 qt.1 qt.2) (by decide);have c2:=On (p:=[-t.num,(t.den:Int)]) (C:=c) (lo:=t) (hi:=t) hbt (by show 2<=64; decide) hc qt qt ql;have hb:-1<=crR c [-t.num,(t.den:Int)] t t lo/\crR c [-t.num,(t.den:Int)] t t lo<=1:=by
   rw [Qm0]; rcases Rk t lo with ⟨e',h'⟩ | ⟨e',h'⟩ | ⟨e',h'⟩ <;> omega
  rw [e];exact w tt Tryz.func25 rfl [.c [] c0,.t (decide_eq_true h0),.c [] c2] rfl rfl (by simp [Ua]; omega)
 ·exact w tt Tryz.func25 rfl [.c [] c0,.f (decide_eq_false h0),.c [] ct,.t rfl,.c [] c1] rfl rfl trivial
theorem Qwg {q:Rat} (hq:Qs 1000000 q):Ub Tryz.prog 82 [.agg (rl q)] [.agg (fr q)]:=by
 have h1:Ul q.num<=1000000:=hq.1;have h2:Ul (q.den:Int)<=1000000:=hq.2;have cm:=Oo (a:=q.num) (b:=(q.den:Int)) (by omega) (by omega);have e:Fg q.num (q.den:Int)=q:=by rw [O8 (by have:=den_pos q; omega),Zp]
 rw [e] at cm;exact w tt Tryz.func82 rfl [.c [] (Qdn (z:=q.num) (by omega)),.c [] (Qdn (z:=(q.den:Int)) (by omega)),.c [] cm] rfl rfl trivial
def Q0e (p:List Int) (lo hi:Rat):Rat:=if U7 lo hi≠0/\U4 p hi=0 then hi else lo
theorem Zaf {p:List Int} {C:List (List Int)} {lo hi:Rat} (hp:Bd 30000000 p) (hpl:p.length<=64) (ql:Qs 1000000 lo) (qh:Qs 1000000 hi):Ub Tryz.prog 81 [.agg (ax p C lo hi)] [.agg (ax p C (Q0e p lo hi) hi)]:=by
 have c1:=Cg (ql.mono (t:=40000000) (by decide)) (qh.mono (by decide));have c2:=Qbv hp hpl qh;unfold Q0e;by_cases h0:U7 lo hi=0
 ·rw [if_neg (λh=>h.1 h0)];exact w tt Tryz.func81 rfl [.c [] c1,.g 9 false (by simp [h0]),.f rfl] rfl rfl trivial
 by_cases h1:U4 p hi=0
 ·rw [if_pos ⟨h0,h1⟩];exact w tt Tryz.func81 rfl [.c [] c1,.g 9 true (by simp [h0]),.c [] c2,.t (decide_eq_true h1)] rfl rfl trivial
 ·rw [if_neg (λh=>h1 h.2)];exact w tt Tryz.func81 rfl [.c [] c1,.g 9 true (by simp [h0]),.c [] c2,.f (decide_eq_false h1)] rfl rfl trivial
theorem Qwf {p:List Int} {C:List (List Int)} {lo hi:Rat} (tp:Uf p) (hp:Bd 8000000 p) (h2:2<=p.length) (hpl:p.length<=64) (hpr:Ge p=p) (hC:ChRun p p C) (ql:Qs 1000000 lo) (qh:Qs 1000000 hi):Ub Tryz.prog 20 [.agg (ta ⟨p,lo,hi⟩)] [.agg (ax p C (Q0e p lo hi) hi)]:=by
 have cf:=D2 (p:=p) (W9 hp (by decide)) (by omega);rw [tp] at cf;have cp:=D3 tp (W9 hp (by decide)) (by omega);rw [hpr] at cp;have cc:=Qpn tp (W9 hp (by decide)) (by omega) h2 hC;have ce:=Zaf (p:=p) (C:=C) (lo:=lo) (hi:=hi) (W9 hp (by decide)) hpl ql qh;exact w tt Tryz.func20 rfl [.c [] cf,.c [] cp,.c [] cc,.c [] (Qwg ql),.c [] (Qwg qh),.c [] ce] rfl rfl trivial
theorem Qvb {q:Rat} (h:Qs 1000000 q):ChRun [-q.num,(q.den:Int)] [-q.num,(q.den:Int)] [[-q.num,(q.den:Int)],[1]]/\Ge [-q.num,(q.den:Int)]=[-q.num,(q.den:Int)]:=by
 have hg:Int.gcd (-q.num) (q.den:Int)=1:=by
  rw [Int.neg_gcd];have:=q.reduced;unfold Nat.Coprime at this;simpa [Int.gcd] using this
 exact ⟨Qka (den_pos q) hg (by rw [Fy]; exact h.1) h.2,I8 (den_pos q) hg⟩
theorem Q2g {q:Rat} (h:Qs 1000000 q):Ub Tryz.prog 20 [.agg (ta (tq q))] [.agg (aq q [[-q.num,(q.den:Int)],[1]])]:=by
 obtain ⟨h1,h2⟩:=Qvb h;have c:=Qwf (p:=[-q.num,(q.den:Int)]) (lo:=q) (hi:=q) (Qov q) (W9 (bd2 (s:=1000000) (by rw [Fy]; exact h.1) h.2) (by decide)) (by show 2<=2; decide) (by show 2<=64; decide) h2 h1 h h;have e:Q0e [-q.num,(q.den:Int)] q q=q:=if_neg λh=>h.1 (Ch.2 rfl)
 rw [e] at c;exact c
theorem Zi2 {q:Rat} (h:Qs 1000000 q):Cok [[-q.num,(q.den:Int)],[1]]:=⟨by show 2<=1000; decide,λp hp=>by
 simp only [Qq,Wq,or_false] at hp;rcases hp with rfl | rfl
 ·exact ⟨W9 (bd2 (s:=1000000) (by rw [Fy]; exact h.1) h.2) (by decide),by show 2<=64; decide⟩
 ·exact ⟨b1 (by decide),by show 1<=64; decide⟩⟩
theorem Zad {lo hi:Rat} (ql:Qs 1000000 lo) (qh:Qs 1000000 hi):Ub Tryz.prog 95 [.agg (fr lo),.agg (fr hi)] [.agg (fr (A2 lo hi))]:=by
 have c1:=Qs5 (ql.mono (t:=20000000) (by decide)) (qh.mono (by decide));have c2:=Zd6 (n:=1) (d:=2) (by decide) (by decide);have e:Fg 1 2=(1:Rat) / 2:=by rw [O8 (by decide)]; decide +kernel
 rw [e] at c2;have q1:Qs 40000000 (lo+hi):=(Zg8 ql qh).mono (by decide);have q2:Qs 40000000 ((1:Rat) / 2):=by rw [<-e]; exact ⟨by decide,by decide⟩
 have c3:=Qta q1 q2;have em:(lo+hi)*((1:Rat) / 2)=A2 lo hi:=by rw [Qa9]; grind
 rw [em] at c3;exact w tt Tryz.func95 rfl [.c [] c1,.c [] c2,.c [] c3] rfl rfl trivial
theorem Qj6 {p:List Int} {C:List (List Int)} {lo hi:Rat} (hp:Bd 30000000 p) (hpl:p.length<=64) (hC:Cok C) (ql:Qs 1000000 lo) (qh:Qs 1000000 hi) (qm:Qs 1000000 (A2 lo hi)) (hne:lo≠hi):Ub Tryz.prog 44 [.agg (ax p C lo hi)] [.agg (if crR C p lo hi (A2 lo hi)<=0 then ax p C lo (A2 lo hi) else ax p C (A2 lo hi) hi)]:=by
 have c1:=Cg (ql.mono (t:=40000000) (by decide)) (qh.mono (by decide));have c2:=Zad ql qh;have c3:=On hp hpl hC ql qh qm;have h0:¬U7 lo hi=0:=λh=>hne (Ch.1 h)
 by_cases h:crR C p lo hi (A2 lo hi)<=0
 ·rw [if_pos h];exact w tt Tryz.func44 rfl [.c [] c1,.f (decide_eq_false h0),.c [] c2,.c [] c3,.t (decide_eq_true h)] rfl rfl trivial
 ·rw [if_neg h];exact w tt Tryz.func44 rfl [.c [] c1,.f (decide_eq_false h0),.c [] c2,.c [] c3,.f (decide_eq_false h)] rfl rfl trivial
set_option maxHeartbeats 8000000 in
theorem Qjq {zs:List RawPt} {n d:Int} (hz:∀ z∈zs,z.Ok) (hn:-9223372036854775808≤n/\n≤9223372036854775807) (hdd:-9223372036854775808≤d/\d≤9223372036854775807):Ub Tryz.prog 6 [.one (.row (Qcz zs)),.one (.int .i64 n),.one (.int .i64 d)] [.one (.bool true)]:=by
 obtain ⟨e,he,hd,hm⟩:=Zf8 (Qel 4 20 zs);have hq0:=Ql2 n d;have cb:=Qzt hz rfl he hd hm hn hdd (Zjx (hq0.mono (by decide))) rfl;obtain ⟨O,hO⟩:=nmE (Qel 4 20 zs);have hO4:O.length<=4:=by rw [hO]; exact Is _ _ (Qi _)
 have hlit:∀ p∈O,Qzf p:=λp hp=>by rw [hO] at hp; exact Qk7 (by decide) p hp
 rw [<-hO] at cb he hd;obtain ⟨M,hM⟩:=nmE (Gv Qak (Qaj O e));rw [<-hM] at cb;obtain ⟨q,hq⟩:=nmE (Aq n d);rw [<-hq] at cb hq0;have hcn:(Qaj O e).length=e:=by rw [Qfh,Qbx he]
 have hMl:M.length=e:=by rw [hM,Tv,hcn]
 have hMd:Lf M:=by rw [hM]; exact Qz8 (Qvr _).symm (Qkf hd)
 have hok:∀ p∈M,Nml p.c/\Cs 10 3 p.c:=λp hp=>by
  rw [hM,C3] at hp;exact Qw8 hlit e p hp
 have hsc:∀ p∈M,Sc p.c:=λp hp=>⟨(hok p hp).1,(hok p hp).2.mono (by decide) (by decide)⟩
 have hln:M.length<=1000:=by omega
 have hv:Va (tq q):=Q1o (hq0.mono (by decide));have S:Stab (bcS M) (brS M):=Zj6 hsc hln hMd;obtain ⟨c0,hc0⟩:=nmE (Qzk M (tq q));have hst:KSt (bcS M) (brS M) c0 (brS M (tq q)):=by rw [hc0]; exact Zfj S hv
 have hn0:c0.now=tq q:=by rw [hc0]; rfl
 have hev0:c0.ev=0:=by rw [hc0]; rfl
 rw [<-hc0] at cb;have hal:(Qmf M).length<=1000000:=by
  rw [Q11];have:M.length*(M.length*2)<=4*(4*2):=Zt (by omega) (Zt (by omega) (Qk 2));omega
 have hsz:∀ a,∀ x∈bcS M a,Bd 86 x.p/\x.p.length≤2+1/\x.want=Mk (P4 a) x.p:=λa=>Q9o hok
 have adv:=λ{t:Rat} (ht:Qs 400000 t) {c:Cr} {r:List (List LV)} (hS:KSt (bcS M) (brS M) c r) (h:Up c.now t<=0)=>Zfb S (Qmg hsc) (λa _=>Q9n) hal ht hS h
 refine Gl Tryz.func6 rfl ?_;refine go tt [.c [0,1] cb,.f rfl] rfl trivial ?_;refine lp (S:=Nat×Cr×(List (List LV))×Rat) 2 (λL1 s=>(10,.v (.one (.int .i64 (s.1:Int))))::L1) (λs=>[.blk 120 (Bt s.2.1 (Ut M) s.2.2.1),.blk 195 (plB M q [[-q.num,(q.den:Int)],[1]] (Oc q M))]) (λs=>4-s.1) (λs=>s.1<=4/\KSt (bcS M) (brS M) s.2.1 s.2.2.1/\s.2.1.now=tq s.2.2.2/\Qs (bq 2 s.1) s.2.2.2/\0<=s.2.1.ev/\s.2.1.ev<=((s.1*67000000:Nat):Int)) (0,c0,brS M (tq q),q) ⟨Qi _,hst,hn0,hq0.mono (by show 100<=100; decide),by show 0<=c0.ev; omega,by show c0.ev<=_; omega⟩ rfl (λ_ _=>rfl) rfl λ⟨i,c,r,cur⟩ ⟨hi,hS,hcur,hcq,hev1,hev2⟩=>?_
 dsimp only at hi hS hcur hcq hev1 hev2 ⊢;by_cases hr:i<4
 ·have hb1:bq 2 i<=400000:=Q2a (by decide) i (by omega);have hb2:bq 2 (i+1)<=400000:=Q2a (by decide) (i+1) (by omega);have h4:=hcq.mono hb1;have h6:Qs 1000000 cur:=h4.mono (by decide);obtain ⟨ws,o,w1,w2,w3,hS2,hnx⟩:=Q7j (n:=2) (by decide) hsz S hS hcur;have hld:=Zje hsz hS hcur;have cNow:=Qs9 (T:=120) (c:=c) (r0:=Ut M) (r1:=r) hS.inv.ok.n;rw [hcur] at cNow;have cFA:=Q2g h6;have cC:=Q2l (T:=120) (c:=c) (r0:=Ut M) (r1:=r) hS.inv.ok;have cNx:=Qmk (T:=120) (r0:=Ut M) (r1:=r) hS.inv.ok w1 w2;obtain ⟨L,hL⟩:=nmE (Gk (c.l.map (·.c)));rw [<-hL] at cC hld;have hLl:L.length<=1000:=by rw [hL,Nz,Ze]; exact hS.inv.ok.k
  have hcl:=Da L;obtain ⟨cc,hcc⟩:=nmE ([[-cur.num,(cur.den:Int)],[1]]);have hck:Cok cc:=by rw [hcc]; exact Zi2 h6
  rw [<-hcc] at cFA;refine go tt [.t (decide_eq_true (by omega)),.c [0] cNow,.c [] cFA,.c [0] cC] rfl (by simp [Ua]) ?_;refine lp (S:=Nat) 3 (λL1 k=>(47,.v (.one (.int .i64 (k:Int))))::L1) (λ_=>[.blk 120 (Bt c (Ut M) r),.blk 195 (plB M q [[-q.num,(q.den:Int)],[1]] (Oc q M)),.blk 37 (aq cur cc)]) (λk=>L.length-k) (λk=>k<=L.length) 0 (Qi _) rfl (λ_ _=>rfl) rfl λk hk=>?_
  by_cases hkl:k<L.length
  ·obtain ⟨x,hx⟩:=gxE (l:=L) (i:=k) hkl;obtain ⟨x1,x2,x3,x4⟩:=hld x (Qc hx);have cf:=D2 (p:=x.p) (W9 x1 (by decide)) (by omega);rw [x3] at cf;have ca:=If (c:=cc) (W9 x1 (by decide)) (by omega) h6;rw [x4] at ca;refine go tt [.t (decide_eq_true (by omega)),.x (Qa0 hx),.c [] cf,.c [] ca,.x (Qa0 hx),.f (by simp)] rfl (by simp [Ua] <;> omega) ?_;exact rd (k+1) (by omega) hkl rfl
  ·cases o with
   | none=>exact en tt [.f (decide_eq_false (by omega)),.c [0] cNx,.t rfl,.c [] Qke] rfl rfl (by simp [Ua])
   |
    some a =>
    obtain ⟨va,hpos,hlt,⟨C,hA⟩,hex,hmin⟩:=hnx a rfl;have hokC:Cok C:=⟨hA.ch.small,Qpt hA.ch (by have:=hA.n; omega)⟩;have hX0:=hA.start hlt (b:=bq 2 (i+1)) (by show 15374<=17000+_; omega);have hAb:Bd 8000000 a.p:=W9 hA.b (by decide);have hAl:a.p.length<=64:=by have:=hA.n; omega
    have hAq:=hA.i.qs (b:=1000000) (by decide);have cFa:=Qwf (p:=a.p) (C:=C) (lo:=a.lo) (hi:=a.hi) va.tr hAb va.n2 hAl hA.pr hA.ch hAq.1 hAq.2;have hxl:Q0e a.p a.lo a.hi=xlo a:=by
     have:U7 a.lo a.hi≠0:=λh=>by
      have h1:=Ch.1 h;have h2:=hA.i.lt;rw [h1] at h2; exact Rat.lt_irrefl h2
     unfold Q0e xlo;by_cases h:U4 a.p a.hi=0
     ·rw [if_pos ⟨this,h⟩,if_pos h]
     ·rw [if_neg (λh'=>h h'.2),if_neg h]
    rw [hxl] at cFa;have hx4:Qs 1000000 (xlo a):=hX0.ql.mono (by omega);have hh4:Qs 1000000 a.hi:=hX0.qh.mono (by omega);have cCm:=Zac (p:=a.p) (C:=C) (c:=cc) (lo:=xlo a) (hi:=a.hi) (t:=cur) (W9 hAb (by decide)) hAl hokC hx4 hh4 h6 hck;rw [hX0.cmp hA.i hlt] at cCm;have cBt:=Q2k (T:=120) (c:={ c with l:=ws }) (r0:=Ut M) (r1:=r) hS2.inv.ok w3 w2 va;have hbl:¬((ws.filterMap (evF a)).length:Int)=0:=by omega
    refine go tt [.f (decide_eq_false (by omega)),.c [0] cNx,.f rfl,.c [] cFa,.c [] cCm,.g 80 false (decide_eq_false (by decide)),.c [0] cBt,.f (decide_eq_false hbl),.c [0,5] Q21] rfl (by simp [Ua] <;> omega) ?_;refine lp (S:=Nat×Rat×Rat) 6 (λL1 _=>L1) (λs=>[.blk 120 (Bt { c with l:=ws } (Ut M) r),.blk 195 (plB M q [[-q.num,(q.den:Int)],[1]] (Oc q M)),.blk 37 (aq cur cc),.blk 74 (ta a),.blk 37 (ax a.p C s.2.1 s.2.2),.blk 120 (Bt { c with l:=ws } (Ut M) r)]) (λs=>1581+2*bq 2 i-s.1) (λs=>HX a C cur (bq 2 (i+1)) s.1 s.2.1 s.2.2) (0,xlo a,a.hi) hX0 rfl (λ_ _=>rfl) rfl λ⟨j,lo,hi⟩ hX=>?_
    dsimp only at hX ⊢;have ql6:Qs 1000000 lo:=hX.ql.mono (by omega);have qh6:Qs 1000000 hi:=hX.qh.mono (by omega);have cW:=On (p:=[-cur.num,(cur.den:Int)]) (C:=cc) (lo:=cur) (hi:=cur) (t:=lo) (W9 (Q19 h6.1 h6.2) (by decide)) (by show 2<=64; decide) hck h6 h6 ql6;rw [Qm0] at cW;by_cases hlo:lo<cur
    ·obtain ⟨n1,n2,n3,n4⟩:=HX.next hA (by decide) hX hcq hlt hlo;have hne:lo≠hi:=λh=>by rw [h] at n1; exact Rat.lt_irrefl n1
     have hW:0<U7 cur lo:=S7.2 hlo;by_cases hc:crR C a.p lo hi (A2 lo hi)<=0
     ·have h5:=n3 hc;have cH:=Qj6 (p:=a.p) (C:=C) (W9 hAb (by decide)) hAl hokC ql6 qh6 (h5.qh.mono (by show 17000+_<=_; exact Qa hb2 (by decide))) hne;rw [if_pos hc] at cH;refine go tt [.c [] cW,.t (decide_eq_true hW),.c [] cH] rfl (by simp [Ua]) ?_;exact rd (j+1,lo,A2 lo hi) (by dsimp only; omega) h5 rfl
     ·have h5:=n4 hc;have cH:=Qj6 (p:=a.p) (C:=C) (W9 hAb (by decide)) hAl hokC ql6 qh6 (h5.ql.mono (by show 17000+_<=_; exact Qa hb2 (by decide))) hne;rw [if_neg hc] at cH;refine go tt [.c [] cW,.t (decide_eq_true hW),.c [] cH] rfl (by simp [Ua]) ?_;exact rd (j+1,A2 lo hi,hi) (by dsimp only; omega) h5 rfl
    ·have hcl':cur<=lo:=Rat.not_lt.1 hlo;have hW:¬0<U7 cur lo:=λh=>hlo (S7.1 h)
     obtain ⟨f1,f2,f3⟩:=HX.fin va hX;have qh4:Qs 400000 hi:=hX.qh.mono hb2;have ql4:Qs 400000 lo:=hX.ql.mono hb2;have hci:cur<=hi:=Q6 hcl' f3;have cE:=Cg (ql6.mono (t:=40000000) (by decide)) (qh6.mono (by decide));have cTh:=Qwm (q:=hi) (qh6.mono (by decide));have hcm:Up c.now hi<=0:=by rw [hcur,Ql6]; exact E3.2 hci
     obtain ⟨K1,c1,E1,k1,k2,k3,k4,k5,k6,k7⟩:=adv qh4 hS2 hcm;have hE1:E1≠[]:=Q4y (t:=hi) hS.inv.ok.n va hex f2 k7;have hE1l:0<E1.length:=Jn.2 hE1;have cA1:=Qte (l:=M) (K:=K1) qh4 hsc hln hS2.inv.ok ⟨hev1,by show c.ev+_<=_; omega⟩ hcm k2;have hnl:¬(0:Int)+((E1.length:Nat):Int)<1:=by omega
     have hinv:i+1<=4/\KSt (bcS M) (brS M) c1 (brS M (tq hi))/\c1.now=tq hi/\Qs (bq 2 (i+1)) hi/\0<=c1.ev/\c1.ev<=(((i+1)*67000000:Nat):Int):=⟨hr,k4,k3,hX.qh,by rw [k5]; show 0<=c.ev+_; omega,by rw [k5]; show c.ev+_<=_; omega⟩;by_cases hne:lo=hi
     ·have h0:U7 lo hi=0:=Ch.2 hne;rw [h0] at cE;refine go tt [.c [] cW,.f (decide_eq_false hW),.c [] cE,.f rfl,.c [] cTh,.c [0] cA1,.g 144 false rfl,.f (decide_eq_false (by omega))] rfl (by simp [Ua] <;> omega) ?_;exact rd (i+1,c1,brS M (tq hi),hi) (by dsimp only; omega) hinv rfl
     ·have h0:¬U7 lo hi=0:=λh=>hne (Ch.1 h)
      have cTl:=Qwm (q:=lo) (ql6.mono (by decide));have hcm2:Up c.now lo<=0:=by rw [hcur,Ql6]; exact E3.2 hcl'
      obtain ⟨K2,c2,E2,m1,m2,m3,m4,m5,m6,m7⟩:=adv ql4 hS2 hcm2;have hE2:E2=[]:=Qt2 hS.inv.ok.n va hmin (Q1o ql4) (f1 hne) m7;subst hE2;have hsame:=(Qm9 S hS.inv.ok.n (Q1o ql4) (by rw [hcur]; exact λh=>absurd (Zdn.1 h) (Rat.not_lt.2 hcl')) m7).2;have cA2:=Qte (l:=M) (K:=K2) ql4 hsc hln hS2.inv.ok ⟨hev1,by show c.ev+_<=_; omega⟩ hcm2 m2;have hrr:r=brS M (tq lo):=by rw [hsame]; exact hS.r
      rw [<-hrr] at cA2;have cAl:=Q2b (c:={ c with l:=ws }) (c':=c2) (l:=M) (l':=M) (m:=M) (a:=tq lo) (r:=r) (by omega) hrr;have hev3:¬¬c2.ev=c.ev:=λh=>h (by rw [m5]; show c.ev+((0:Nat):Int)=_; omega)
      refine go tt [.c [] cW,.f (decide_eq_false hW),.c [] cE,.t (by simpa using h0),.c [] cTl,.c [5] cA2,.g 113 true rfl,.g 116 false (decide_eq_false (by simp)),.lo,.c [0,5] cAl,.g 122 false rfl,.lo,.c [5] Qj5,.lo,.c [0] Qj5,.f (by simpa using hev3),.c [] cTh,.c [0] cA1,.g 144 false rfl,.f (decide_eq_false (by omega))] rfl (by simp [Ua] <;> omega) ?_;exact rd (i+1,c1,brS M (tq hi),hi) (by dsimp only; omega) hinv rfl
 ·exact en tt [.f (decide_eq_false (by omega)),.c [] Qke] rfl rfl (by simp [Ua])
end Orr
namespace Orr
open Go Go.Proofs
variable {H:Type} {enc:TypeId×Value->H} {w:World} {base:Nat} {spare:Nat->Bool} {Zje:Bool}
theorem Df {α:Type} {l:List α} {n i:Nat} (h:l.length=n) (hi:i<n):∃ x,l[i]? = some x:=⟨l[i]'(by omega),Qd (by omega)⟩
end Orr
namespace Orr
open Go Go.Proofs Go.ChangeShapes Go.WideShapes Go.ChangeAt Go.RowKit Go.WideElems
theorem Zaw {w:World} {a:Addr} {v:Value} (h:w.cell? a=some v):a.spot=none/\a.block<w.heap.size:=by
 simp only [World.cell?] at h
 split at h
 ·rename_i c t fr hc
  split at h
  ·cases h
  ·rename_i hs;refine ⟨by cases e:a.spot with | none=>rfl | some _=>simp [e] at hs,?_⟩;exact (Array.getElem?_eq_some_iff.1 hc).1
 ·cases h
theorem Q9k {a:Addr} (h:a.spot=none) (n m:Nat):(a.add n).add m=⟨a.block,a.off+n+m,none⟩:=by
 obtain ⟨b,o,s⟩:=a;simp only at h;subst h;simp only [Addr.add]
 split
 ·rename_i h; subst h
  split
  ·rename_i h; subst h; simp
  ·simp
 ·split
  ·rename_i h; subst h; simp
  ·simp
def fr0 (w:World):Fr:=⟨λb=>b<w.heap.size,λ_=>False,w,λ_=>False,λ_=>none⟩
theorem hs0 (w:World):HS (fr0 w) (ob []) (nw []) (λ_=>none) (λ_=>False) w where
 size:=Qk _
 kept:=λb hb=>⟨hb,rfl,Iff.rfl⟩
 ids:=λi h=>h.elim
 nj:=λi h=>by rw [Qn1] at h; cases h
 io:=⟨rfl,rfl⟩
 blk:=λi=>by rw [Qn1]; trivial
 nk:=λi g c m h _=>by rw [Qn1] at h; cases h
 inj:=λi j g c m c' m' h _ _ _=>by rw [Qn1] at h; cases h
 mlt:=λb h=>h.elim
 m0:=λb _ h=>h.elim
 un:=λi _=>⟨rfl,rfl⟩
 uj:=λi _ h=>h.elim
theorem Zc5 {w w':World} {bl:Nat->OB} {U:Nat->Prop} {E:Ml} {M:Nat->Prop} (h:HS (fr0 w) bl U E M w') {p:MemPlace} (hp:p.block<w.heap.size):w.sameAt w' p:=by
 cases p with
 | cell b off=>simp only [World.sameAt,World.cell?]; rw [(h.kept b hp).2.1]; rfl
 | map b=>exact (h.kept b hp).2.1
theorem Zbo {w w':World} {bl:Nat->OB} {U:Nat->Prop} {E:Ml} {M:Nat->Prop} (h:HS (fr0 w) bl U E M w') (may:MemPlace->Prop):w.keptBut w' may:=by
 refine ⟨h.io.1,h.io.2,λi hi=>?_⟩;have e:w'.heap[i]? = w.heap[i]? := (h.kept i hi).2.1;rw [e];cases w.heap[i]? with
 | none=>rfl
 | some o=>cases o <;> simp
theorem Ol {H:Type} {P:Program} {e:TypeId}:∀ {l:List (DataW H)} {i:Nat} {d:DataW H},l[i]? = some d->∀ n∈d.weights P e,n∈DataW.weightsAll P e l
 | [],i,d,h,_,_=>by simp at h
 |
  x::l,0,d,h,n,hn=>by
  simp at h; subst h;simp only [DataW.weightsAll,Qz]; exact .inl hn
 |
  x::l,i+1,d,h,n,hn=>by
  simp only [DataW.weightsAll,Qz];exact .inr (Ol (i:=i) (by simpa using h) n hn)
theorem Lt {H:Type} {P:Program} {t:TypeId} {fs:Array Field} {parts:List (DataW H)} (hu:P.underlying t=some (.struct fs)) (hz:((DataW.agg parts).weights P t).all (· <= reachBytes)=true) {i:Nat} {f:Field} {d:DataW H} (hf:fs[i]? = some f) (hd:parts[i]? = some d) :
 (d.weights P f.type).all (· <= reachBytes)=true:=by
 rw [Yi] at hz ⊢;intro n hn;refine hz n ?_;simp only [DataW.weights,hu];exact DataW.weights_mem_each (j:=i) (by rw [Q7]; simp [hf]) hd n hn
variable {H:Type} {enc:TypeId×Value->H} {w:World}
abbrev O0:Nat->Prop:=λ_=>False
def Els (w:World) (cs:List Value) (ls:List LV):Prop:=cs.length=ls.length/\∀ (j:Nat) (u:LV),ls[j]? = some u->∃ v,cs[j]? = some v/\LRep w O0 v u
theorem Qcw {α:Type} {rw_:α->List LV} {Ok:α->Prop} {t e sz:Nat} (hu:Tryz.prog.underlying t=some (.slice e)) (hc:Tryz.prog.cellsOf e=sz) (hsz:0<sz) (hb:1<=Tryz.prog.bytesOf e) (hw:∀ z,(rw_ z).length=sz)
 (elem:∀ fuel cs x,DataW.trod enc Tryz.prog w 0 (λ_=>true) true fuel e cs=some x->(x.1.weights Tryz.prog e).all (· <= reachBytes)=true->∃ z,Ok z/\Els w cs (rw_ z))
 {fuel:Nat} {cs:List Value} {x:DataW H×List MemPlace} (h:DataW.trod enc Tryz.prog w 0 (λ_=>true) true fuel t cs=some x) (hz:(x.1.weights Tryz.prog t).all (· <= reachBytes)=true) :
 ∃ (v:Value) (l:List α),cs=[v]/\(∀ z∈l,Ok z)/\l.length<2^47/\LRep w O0 v (.row (l.map rw_)):=by
 rcases Go.Deep.open_slice hu h with ⟨rfl,_⟩ | ⟨a',len,cap,m,n,D,Pl,rfl,_,hlc,hcap,hm,rfl,hr⟩
 ·refine ⟨_,[],rfl,by simp,Nat.two_pow_pos 47,?_⟩;exact LRep.row none 0 0 0 0 [] (λ_ _=>.bool true) (Qk _) (by decide) (by simp) (by simp) (by simp) (by simp)
 ·simp only [if_true] at hm;subst hm;rw [Yi] at hz;have hlen:len<2^47:=by
   have h0:=hz ((len+(m-len))*Tryz.prog.bytesOf e) (by simp [DataW.weights,hu]);have h1:len<=(len+(m-len))*Tryz.prog.bytesOf e:=by
    have:=Zt (Kh len (m-len)) hb;omega
   have h2:(len+(m-len))*Tryz.prog.bytesOf e<=reachBytes:=by simpa using h0
   exact Zy (Qa h1 h2) reachBytes_lt
  have hel:∀ i,i<len->((D i).weights Tryz.prog e).all (· <= reachBytes)=true:=λi hi=>by
   rw [Yi];intro k hk;refine hz k ?_;simp only [DataW.weights,hu];refine Qj _ (Qz.2 (.inl (Ol (i:=i) ?_ k hk)));rw [Q7,X1 hi]; rfl
  have hone:∀ i,i<len->∃ z cs',Ok z/\Els w cs' (rw_ z)/\∀ j,j<sz->w.cell? ((a'.add (i*sz)).add j)=cs'[j]? := λi hi=>by
   obtain ⟨cs',hcs,htr⟩:=hr i (by omega);rw [hc] at hcs;obtain ⟨_,hl,hcell⟩:=World.cells?_some hcs;obtain ⟨z,hz1,hz2⟩:=elem _ _ _ htr (hel i hi);refine ⟨z,cs',hz1,hz2,λj hj=>?_⟩;rw [hcell j (by omega)]
  have hspot:0<len->a'.spot=none/\a'.block<w.heap.size:=λh0=>by
   obtain ⟨z,cs',_,⟨hl,_⟩,h3⟩:=hone 0 h0;have h4:=h3 0 hsz;have:(a'.add (0*sz)).add 0=a':=by simp [Addr.add]
   rw [this,Qd (by rw [hl,hw]; exact hsz)] at h4;exact Zaw h4
  obtain ⟨l,hll,hl⟩:∃ l:List α,l.length=len/\∀ i z,l[i]? = some z->Ok z/\∃ cs',Els w cs' (rw_ z)/\∀ j,j<sz->w.cell? ((a'.add (i*sz)).add j)=cs'[j]? := by
   have:∀ k,k<=len->∃ l:List α,l.length=k/\∀ i z,l[i]? = some z->Ok z/\∃ cs',Els w cs' (rw_ z)/\∀ j,j<sz->w.cell? ((a'.add (i*sz)).add j)=cs'[j]? := by
    intro k
    induction k with
    | zero=>intro _; exact ⟨[],rfl,λi z h=>by simp at h⟩
    |
     succ k ih =>
     intro hk;obtain ⟨l,h1,h2⟩:=ih (by omega);obtain ⟨z,cs',h3,h4,h5⟩:=hone k (by omega);refine ⟨l++[z],by simp [h1],λi y hy=>?_⟩;rcases Q5 i l.length with hi | hi
     ·rw [Zi hi] at hy; exact h2 i y hy
     ·rw [Xh hi] at hy;have:i-l.length=0:=by
       rcases Qx (i-l.length) with h | h
       ·exact h
       ·rw [Qr (by rw [Kk]; exact h)] at hy; cases hy
      rw [this] at hy;simp at hy;subst hy;have:i=k:=by omega
      subst this;exact ⟨h3,cs',h4,h5⟩
   exact this len (Qk _)
  refine ⟨_,l,rfl,λz hz=>?_,by rw [hll]; exact hlen,?_⟩
  ·obtain ⟨i,hi⟩:=Zc.1 hz;exact (hl i z hi).1
  ·have key:LRep w O0 (.slice (some a') (l.map rw_).length m) (.row (l.map rw_)):=by
    have hgl:∀ i c,(l.map rw_)[i]? = some c->∃ z,l[i]? = some z/\c=rw_ z/\i<len:=λi c h=>by
     rw [Q7] at h;cases e:l[i]? with
     | none=>rw [e] at h; cases h
     | some z=>rw [e] at h; simp at h; exact ⟨z,rfl,h.symm,by have:=(Qf.1 e).1; omega⟩
    have hcl:∀ i c,(l.map rw_)[i]? = some c->∃ cs':List Value,Els w cs' c/\∀ j,j<sz->w.cell? ⟨a'.block,a'.off+i*sz+j,none⟩=cs'[j]? := λi c h=>by
     obtain ⟨z,hz,rfl,hi⟩:=hgl i c h;obtain ⟨_,cs',h1,h2⟩:=hl i z hz;refine ⟨cs',h1,λj hj=>?_⟩;rw [<-h2 j hj,Q9k (hspot (by omega)).1]
    refine LRep.row (some a') m sz a'.block a'.off (l.map rw_) (λi j=>(w.cell? ⟨a'.block,a'.off+i*sz+j,none⟩).getD (.bool true)) (by rw [Ze]; omega) ?_ ?_ ?_ ?_ ?_
    ·have:maxLen=2^63-1:=by rfl
     omega
    ·intro c hc2;obtain ⟨z,_,rfl⟩:=Zr.1 hc2;exact hw z
    ·intro h0;rw [Ze,hll] at h0;obtain ⟨hs,hb⟩:=hspot h0;refine ⟨?_,hb,by simp [O0]⟩;obtain ⟨b,o,s⟩:=a';simp only at hs;rw [hs]
    ·intro i c hi j hj;obtain ⟨z,_,rfl,_⟩:=hgl i c hi;obtain ⟨cs',⟨h1,_⟩,h2⟩:=hcl i _ hi;have hjs:j<sz:=by rw [<-hw z]; exact hj
     rw [h2 j hjs,Qd (by rw [h1]; exact hj)]; rfl
    ·intro i c hi j u hu2;obtain ⟨z,_,rfl,_⟩:=hgl i c hi;obtain ⟨cs',⟨h1,h3⟩,h2⟩:=hcl i _ hi;obtain ⟨v,hv,hr2⟩:=h3 j u hu2;have hjs:j<sz:=by rw [<-hw z]; exact (Qf.1 hu2).1
     show LRep w O0 ((w.cell? ⟨a'.block,a'.off+i*sz+j,none⟩).getD (.bool true)) u;rw [h2 j hjs,hv]; exact hr2
   rw [Ze,hll] at key;exact key
abbrev Zk5 (x:Nat):List LV:=[.int .u32 (x:Int)]
theorem Q8x:∀ fuel cs x,DataW.trod enc Tryz.prog w 0 (λ_=>true) true fuel 199 cs=some x->(x.1.weights Tryz.prog 199).all (· <= reachBytes)=true->∃ z:Nat,z<4294967296/\Els w cs (Zk5 z):=by
 intro fuel cs x h _;obtain ⟨n,rfl,_,hwf⟩:=DataW.trod_int Tryz.underlying199 h;have hn:0<=n/\n<4294967296:=by
  have:0<=n/\n<=4294967295:=by simpa [Lit.wf,IntKind.min,IntKind.max,IntKind.signed,IntKind.bits] using hwf
  omega
 refine ⟨n.toNat,by omega,rfl,λj u hu=>?_⟩
 match j,hu with
 |
  0,hu =>
  simp at hu; subst hu;refine ⟨_,rfl,?_⟩;rw [show max n 0=n by omega];exact .int _ _
 | j+1,hu=>simp at hu
set_option maxRecDepth 20000 in
theorem Qic:∀ fuel cs x,DataW.trod enc Tryz.prog w 0 (λ_=>true) true fuel 51 cs=some x->(x.1.weights Tryz.prog 51).all (· <= reachBytes)=true->∃ z:RawInt,z.Ok/\Els w cs (Qeo z):=by
 intro fuel cs x h hz;obtain ⟨xs,n,_,rfl,hl,hxs,hf⟩:=DataW.trod_struct Tryz.underlying51 h;have hl:cs.length=2:=hl
 match cs,hl with
 |
  [v0,v1],_ =>
  obtain ⟨z0,hz0⟩:=Df (i:=0) hxs (by decide);obtain ⟨z1,hz1⟩:=Df (i:=1) hxs (by decide);have h0:=hf 0 _ rfl;have h1:=hf 1 _ rfl;rw [hz0] at h0; rw [hz1] at h1;obtain ⟨b,e0,_⟩:=DataW.trod_bool Tryz.underlying4 h0;have f0:v0=.bool b:=(List.cons.inj (show [v0]=[Value.bool b] from e0)).1;have hw1:=Lt Tryz.underlying51 hz (i:=1) rfl (d:=z1.1) (by rw [Q7,hz1]; rfl);obtain ⟨v,l,e1,hlo,_,hrep⟩:=Qcw (sz:=1) (Ok:=λu:Nat=>u<4294967296) (rw_:=Zk5) Tryz.underlying49 (by kernel_rfl) (by decide) (of_decide_eq_true (by kernel_rfl)) (λ_=>rfl) Q8x h1 hw1;have f1:v1=v:=(List.cons.inj (show [v1]=[v] from e1)).1;subst f0 f1;refine ⟨⟨b,l⟩,⟨hlo⟩,rfl,λj u hu=>?_⟩
  match j,hu with
  | 0,hu=>simp at hu; subst hu; exact ⟨_,rfl,.bool _⟩
  | 1,hu=>simp at hu; subst hu; exact ⟨_,rfl,hrep⟩
  | j+2,hu=>simp at hu
set_option maxRecDepth 20000 in
theorem Qux:∀ fuel cs x,DataW.trod enc Tryz.prog w 0 (λ_=>true) true fuel 135 cs=some x->(x.1.weights Tryz.prog 135).all (· <= reachBytes)=true->∃ z:RawPt,z.Ok/\Els w cs (rwq z):=by
 intro fuel cs x h hz;obtain ⟨xs,n,_,rfl,hl,hxs,hf⟩:=DataW.trod_struct Tryz.underlying135 h;have hl:cs.length=5:=hl
 match cs,hl with
 |
  [v0,v1,v2,v3,v4],_ =>
  obtain ⟨z0,hz0⟩:=Df (i:=0) hxs (by decide);obtain ⟨z1,hz1⟩:=Df (i:=1) hxs (by decide);have h0:=hf 0 _ rfl;have h1:=hf 1 _ rfl;rw [hz0] at h0; rw [hz1] at h1;obtain ⟨id,e4,_,hwf⟩:=DataW.trod_int Tryz.underlying3 h1;have f4:v4=.int .i64 id:=(List.cons.inj (show [v4]=[Value.int .i64 id] from e4)).1;have hw0:=Lt Tryz.underlying135 hz (i:=0) rfl (d:=z0.1) (by rw [Q7,hz0]; rfl);obtain ⟨ys,n2,_,e5,_,hys,hg⟩:=DataW.trod_struct Tryz.underlying53 h0;rw [e5] at hw0;obtain ⟨y0,hy0⟩:=Df (i:=0) hys (by decide);obtain ⟨y1,hy1⟩:=Df (i:=1) hys (by decide);obtain ⟨y2,hy2⟩:=Df (i:=2) hys (by decide);have g0:=hg 0 _ rfl;have g1:=hg 1 _ rfl;have g2:=hg 2 _ rfl;rw [hy0] at g0; rw [hy1] at g1; rw [hy2] at g2;have w0:=Lt Tryz.underlying53 hw0 (i:=0) rfl (d:=y0.1) (by rw [Q7,hy0]; rfl);have w1:=Lt Tryz.underlying53 hw0 (i:=1) rfl (d:=y1.1) (by rw [Q7,hy1]; rfl);have w2:=Lt Tryz.underlying53 hw0 (i:=2) rfl (d:=y2.1) (by rw [Q7,hy2]; rfl);obtain ⟨u0,lx,e0,hx,_,rx⟩:=Qcw (sz:=2) (Ok:=RawInt.Ok) (rw_:=Qeo) Tryz.underlying48 (by kernel_rfl) (by decide) (of_decide_eq_true (by kernel_rfl)) (λ_=>rfl) Qic g0 w0;obtain ⟨u1,ly,e1,hy,_,ry⟩:=Qcw (sz:=2) (Ok:=RawInt.Ok) (rw_:=Qeo) Tryz.underlying48 (by kernel_rfl) (by decide) (of_decide_eq_true (by kernel_rfl)) (λ_=>rfl) Qic g1 w1;obtain ⟨d,hd,hde⟩:=Qic _ _ _ g2 w2;have f0:v0=u0:=(List.cons.inj (show [v0]=[u0] from e0)).1;have f1:v1=u1:=(List.cons.inj (show [v1]=[u1] from e1)).1;have hde2:Els w [v2,v3] (Qeo d):=hde;subst f0 f1 f4;obtain ⟨q2,hq2,r2⟩:=hde2.2 0 _ rfl;obtain ⟨q3,hq3,r3⟩:=hde2.2 1 _ rfl;simp at hq2 hq3;subst hq2 hq3;refine ⟨⟨lx,ly,d,id⟩,⟨hx,hy,hd,by simpa [Lit.wf,IntKind.min,IntKind.max,IntKind.signed,IntKind.bits] using hwf⟩,rfl,λj u hu=>?_⟩
  match j,hu with
  | 0,hu=>simp [rwq] at hu; subst hu; exact ⟨_,rfl,rx⟩
  | 1,hu=>simp [rwq] at hu; subst hu; exact ⟨_,rfl,ry⟩
  | 2,hu=>simp [rwq] at hu; subst hu; exact ⟨_,rfl,r2⟩
  | 3,hu=>simp [rwq] at hu; subst hu; exact ⟨_,rfl,r3⟩
  | 4,hu=>simp [rwq] at hu; subst hu; exact ⟨_,rfl,.int _ _⟩
  | j+5,hu=>simp [rwq] at hu
set_option maxRecDepth 20000 in
theorem Quc {f:FuncId} {fn:Func} {s:ChangeSpec} (hp:fn.params = #[22,3,3]) (hr:fn.resultTypes = #[4]) (hv:s.vars=[])
 (hs:∀ (H:Type) (d1 d2 d3:DataW H),s.fn H [d1,d2,d3]={ results:=[.lit (.bool true)],args:=[d1,d2,d3] })
 (hlaid:laidOutB Tryz.prog=true) (hr22:Tryz.prog.readableRec 22=true) (hr3:Tryz.prog.readableRec 3=true) (hs22:22<Tryz.prog.types.size) (hs3:3<Tryz.prog.types.size)
 (law:∀ (zs:List RawPt) (n d:Int),(∀ z∈zs,z.Ok)->(-2^63≤n/\n≤2^63-1)->(-2^63≤d/\d≤2^63-1)->Ub Tryz.prog f [.one (.row (Qcz zs)),.one (.int .i64 n),.one (.int .i64 d)] [.one (.bool true)])
 {H:Type} {enc:TypeId×Value->H} {W:World} {base:Nat} {args:Array Value} {ds gs:List (DataW H)} {P6:List MemPlace} {fresh handsOn:Bool}
 (hval:∀ (j:Nat) t v,fn.params[j]? = some t->args[j]? = some v->Value.okWide Tryz.prog W .any base t v)
 (hW:DataW.Whole enc Tryz.prog fn.params.toList s.vars false W args.toList ds gs P6)
 (hz:(DataW.weightsEach Tryz.prog (fn.params.toList++s.plain.varTypes Tryz.prog) (ds++gs)).all (· <= reachBytes)=true) :
 Calls Tryz.prog f args W λe W'=>∃ v,e=.returned v/\s.post enc Tryz.prog fn false fresh handsOn false W args v W':=by
 have hW':=hW;obtain ⟨p,q,hA0,hV,rfl,hfz,hnd⟩:=hW;have hA:DataW.TrodAll enc Tryz.prog W 0 (λ_=>true) true fn.params.toList args.toList ds p:=hA0;rw [hv] at hV;obtain ⟨rfl,rfl⟩:=trodVars_none hV;have hlt:=hW'.lt;rw [hp] at hA hval hz;obtain ⟨v0,vs0,d0,ds0,p0,q0,hargs0,rfl,rfl,h0,r0⟩:=trodAll_cons hA;obtain ⟨v1,vs1,d1,ds1,p1,q1,rfl,rfl,rfl,h1,r1⟩:=trodAll_cons r0;obtain ⟨v2,vs2,d2,ds2,p2,q2,rfl,rfl,rfl,h2,r2⟩:=trodAll_cons r1;obtain ⟨rfl,rfl,rfl⟩:=trodAll_nil r2;obtain rfl:args = #[v0,v1,v2]:=by cases args; simp_all
 obtain ⟨n,rfl,rfl,rfl,w1⟩:=open_int Tryz.underlying3 (hval 1 3 v1 rfl rfl) h1;obtain ⟨d,rfl,rfl,rfl,w2⟩:=open_int Tryz.underlying3 (hval 2 3 v2 rfl rfl) h2;have hv0:=hval 0 22 v0 rfl rfl;obtain ⟨a,len,cap,rfl⟩:=okWide_slice Tryz.underlying22 hv0;have hz0:(d0.weights Tryz.prog 22).all (· <= reachBytes)=true:=by
  rw [Yi] at hz ⊢;intro k hk;exact hz k (DataW.weights_mem_each (j:=0) rfl rfl k hk)
 have h0':=h0;obtain ⟨fu,h0'⟩:=h0';obtain ⟨v,zs,e0,hok,hlen,hrep⟩:=Qcw (sz:=5) (Ok:=RawPt.Ok) (rw_:=rwq) Tryz.underlying22 (by kernel_rfl) (by decide) (of_decide_eq_true (by kernel_rfl)) (λ_=>rfl) Qux h0' hz0;have f0:Value.slice a len cap=v:=(List.cons.inj (show [Value.slice a len cap]=[v] from e0)).1;subst f0;have hd1:-2^63<=d/\d<=2^63-1:=by simpa [Lit.wf,IntKind.min,IntKind.max,IntKind.signed,IntKind.bits] using w2
 have hrep:LRep W (λ_=>False) (.slice a len cap) (.row (Qcz zs)):=hrep;have hn1:-2^63<=n/\n<=2^63-1:=by simpa [Lit.wf,IntKind.min,IntKind.max,IntKind.signed,IntKind.bits] using w1
 have hcall:=(law zs n d hok hn1 hd1).2 (fr0 W) (λ_=>none) (λ_=>False) W [.slice a len cap,.int .i64 n,.int .i64 d] (hs0 W) (.cons (show XRep W (λ_=>False) (λ_=>none) (.slice a len cap) (.row (Qcz zs)) from hrep.x) (.cons (show XRep W (λ_=>False) (λ_=>none) (.int .i64 n) (.int .i64 n) from (LRep.int .i64 n).x) (.cons (show XRep W (λ_=>False) (λ_=>none) (.int .i64 d) (.int .i64 d) from (LRep.int .i64 d).x) .nil)));refine hcall.mono λe W' ⟨v,u,Bo,E',M',he,⟨hu,hBo⟩,_,hm,har⟩=>?_
 subst hu;obtain rfl:v=.bool true:=by
  have h:LRep _ _ v (.bool true):=har;cases h;rfl
 refine ⟨_,he,?_⟩;refine ⟨[d0,.lit (.int .i64 n),.lit (.int .i64 d)],[],_,[],p0++([]++([]++[])),[],hW',?_,?_,?_,Zbo hm _,λh=>by cases h⟩
 ·rw [hr,Xt,hs];exact trodAll_cons_mk (shut_bool Tryz.underlying4 true) trodAll_mk0
 ·rw [hp,Xt,hs];have hb:∀ p∈p0,p.block<W.heap.size:=λp hp=>hlt p (by simp [hp])
  exact trodAll_cons_mk (Trod_stays hlaid hr22 hs22 h0 (λp hp=>Zc5 hm (hb p hp)) (λp hp=>by simpa using hb p hp)) (trodAll_cons_mk (shut_int Tryz.underlying3 w1) (trodAll_cons_mk (shut_int Tryz.underlying3 w2) trodAll_mk0))
 ·rw [hv,Xt,hs];rfl
end Orr
