/- R12 R13 R14 R15 R16 R17 R18 PairN PairQ SplitL PW1 R21 DetL H1 R22 HullG TurnL HullQ HullS H2 H3 R23 R24 -/
import Derived.Test.YtledghfgedoofaaGreatPart08
import Derived.Test.YtledghfgedoofaaGreatPart05
import Derived.Test.YtledghfgedoofaaGreatPart00
import Derived.Test.YtledghfgedoofaaGreatPart07
import Derived.Test.YtledghfgedoofaaGreatPart06
set_option linter.all false
namespace Orr
open Go Go.Proofs
set_option maxRecDepth 10000
def Ch (q:Rat) (a b:Pt):Bool:=if Mx (Hf a.c b.c) q≠0 then decide (0<Mx (Hf a.c b.c) q) else if Mx (Hp a.c b.c) q≠0 then decide (0<Mx (Hp a.c b.c) q) else decide (a.id<b.id)
theorem Ax {a b:Pt} {q:Rat} {c:List (List Int)} (ha:Rs a.c) (hb:Rs b.c) (hq:Qs 1000000 q):Ut Tryz.prog 248 [.agg (Dx a),.agg (Dx b),.agg (aq q c)] [.one (.bool (Ch q a b))]:=by
 have c1:=Av (p:=Hf a.c b.c) (c:=c) (Us (Qb3 ha hb).1 (by decide)) (Qc (Qb3 ha hb).2 (by decide)) hq;have c2:=Av (p:=Hp a.c b.c) (c:=c) (Us (Qb0 ha hb).1 (by decide)) (Qc (Qb0 ha hb).2 (by decide)) hq;by_cases h1:Mx (Hf a.c b.c) q≠0
 ·exact w tt Tryz.func248 rfl [.c [] (Qaa ha hb),.c [] c1,.t (decide_eq_true h1)] rfl (by unfold Ch; rw [if_pos h1]) trivial
 by_cases h2:Mx (Hp a.c b.c) q≠0
 ·exact w tt Tryz.func248 rfl [.c [] (Qaa ha hb),.c [] c1,.f (decide_eq_false h1),.c [] (Qjy ha hb),.c [] c2,.t (decide_eq_true h2)] rfl (by unfold Ch; rw [if_neg h1,if_pos h2]) trivial
 ·exact w tt Tryz.func248 rfl [.c [] (Qaa ha hb),.c [] c1,.f (decide_eq_false h1),.c [] (Qjy ha hb),.c [] c2,.f (decide_eq_false h2)] rfl (by unfold Ch; rw [if_neg h1,if_neg h2]) trivial
theorem Qm1 {l:List Pt} {q:Rat} {cs:List (List Int)} (hl:∀ p∈l,Rs p.c) (hn:l.length≤1000000) (hq:Qs 1000000 q):Ut Tryz.prog 225 [.one (.row (Fa l)),.agg (aq q cs)] [.one (.row (Fa (Fx (Ch q) l)))]:=by
 have hcl:=Hl l;obtain ⟨lt,hlt0⟩:=nmE (Ch q);rw [<-hlt0];refine Gv Tryz.func225 rfl ?_;refine go tt [.o 5 92 7] rfl trivial ?_;refine lp (S:=Nat) 2 (λL1 i=>(10,.v (.one (.int .i64 (i:Int))))::(5,.v (.one (.orow 1 7 none)))::L1) (λi=>[.blk 82 (aq q cs),.row false 92 7 (Fa (Fx lt (l.take i)))]) (λi=>l.length-i) (λi=>i<=l.length) 0 (Qh _) rfl (λ_ _=>rfl) rfl λi hi=>?_
 by_cases hlt:i<l.length
 ·obtain ⟨c,hc⟩:=gxE (l:=l) (i:=i) hlt;have hst:Fx lt (l.take (i+1))=P6 lt (Fx lt (l.take i)) c:=Eh hc;have hcp:=hl c (Qa hc);obtain ⟨O,hO⟩:=nmE (Fx lt (l.take i));have hOl:O.length=i:=by rw [hO,H9,Qr]; omega
  have hOm:∀ x∈O,Rs x.c:=λx hx=>by rw [hO,S7] at hx; exact hl x (Qm hx)
  have hrl:=Hl O;rw [<-hO] at hst ⊢;refine go tt [.t (decide_eq_true (by omega))] rfl trivial ?_;refine lp (S:=Nat) 2 (λL1 k=>(7,.v (.one (.int .i64 (k:Int))))::L1) (λ_=>[.blk 82 (aq q cs),.row false 92 7 (Fa O)]) id (λk=>k<=O.length/\Tn lt O c k=Tn lt O c O.length) (Fa O).length ⟨by omega,by rw [hrl]⟩ rfl (λ_ _=>rfl) rfl λk ⟨hk,hp⟩=>?_
  have h7:=Qe4 O;have h7z:∀ y∈[Dx c],y.length=7:=λy hy=>by rw [Qk.1 hy]; rfl
  cases k with
  |
   zero =>
   have hp:Tn lt O c O.length=0:=by rw [<-hp]; rfl
   refine go tt [.g 17 false (by simp),.f rfl,.i 0,.x (Fc hc),.lo,.i 0,.s (sz:=7) (λy hy=>h7 y (Qm hy)),.s (sz:=7) (λy hy=>(Qu.1 hy).elim (h7z y) λhy=>h7 y (Qm hy))] rfl (by simp [Ur]; omega) ?_;exact rd (i+1) (by omega) hlt (by rw [hst,<-Qeh hp]; rfl)
  |
   succ k =>
   obtain ⟨x,hx⟩:=gxE (l:=O) (i:=k) (by omega);have cb:=Ax (c:=cs) hcp (hOm x (Qa hx)) hq;rw [<-hlt0] at cb;by_cases hlc:lt c x=true
   ·refine go tt [.g 17 true (by simp),.x (Fc hc),.r 24 (eI (b:=(k:Int)) (by simp)),.i k,.x (Fc hx),.c [] cb,.t hlc,.r 31 (eI (b:=(k:Int)) (by simp))] rfl (by simp [Ur]; omega) ?_;exact rd k (by simp) ⟨by omega,by rw [<-hp,Qb1 hx hlc]⟩ rfl
   ·have hlc:lt c x=false:=by simpa using hlc
    have hp:Tn lt O c O.length=k+1:=by rw [<-hp,Ii hx hlc]
    refine go tt [.g 17 true (by simp),.x (Fc hc),.r 24 (eI (b:=(k:Int)) (by simp)),.i k,.x (Fc hx),.c [] cb,.f hlc,.i (k+1),.x (Fc hc),.lo,.i (k+1),.s (sz:=7) (λy hy=>h7 y (Zc (Qm hy))),.s (sz:=7) (λy hy=>(Qu.1 hy).elim (h7z y) λhy=>h7 y (Zc (Qm hy)))] rfl (by simp [Ur]; omega) ?_;exact rd (i+1) (by omega) hlt (by rw [hst,<-Qeh hp]; rfl)
 ·obtain rfl:i=l.length:=by omega
  rw [Qy];exact en tt [.f (decide_eq_false (by omega))] rfl rfl trivial
def rct (c:Ct):List LV:=[.int .i64 c.kind,.int .i64 c.i0,.int .i64 c.i1,.int .i64 c.i2,.int .i64 c.i3,rp (zp c.p),.int .i64 c.want,.row [],.bool false]
def Gi (l:List Ct):List (List LV):=l.map rct
theorem M6 (l:List Ct):(Gi l).length=l.length:=by simp [Gi]
theorem Qh2 (l:List Ct):∀ c∈Gi l,c.length=9:=λc hc=>by obtain ⟨x,_,rfl⟩:=Zr.1 hc; rfl
theorem Mt {l:List Ct} {i:Nat} {c:Ct} (h:l[i]? = some c):(Gi l)[i]? = some (rct c):=Gx h
theorem Qef {lt:Ct->Ct->Bool} {O:List Ct} {c:Ct} {k:Nat} (hp:Tn lt O c O.length=k):(Gi O).take k++([rct c]++((Gi O).drop k).take ((Gi O).length-k))=Gi (P6 lt O c):=Qtw hp
theorem Q0e {k i0 i1 i2 i3 l j0 j1 j2 j3:Int}:Ut Tryz.prog 250 [.agg [.int .i64 k,.int .i64 i0,.int .i64 i1,.int .i64 i2,.int .i64 i3],.agg [.int .i64 l,.int .i64 j0,.int .i64 j1,.int .i64 j2,.int .i64 j3]] [.one (.bool (Rl [k,i0,i1,i2,i3] [l,j0,j1,j2,j3]))]:=by
 by_cases hk:k=l
 ·subst hk;rw [show Rl [k,i0,i1,i2,i3] [k,j0,j1,j2,j3]=Rl [i0,i1,i2,i3] [j0,j1,j2,j3] from by simp [Rl]];refine Gv Tryz.func250 rfl ?_;refine go tt [.f (by simp)] rfl trivial ?_;refine lp (S:=Nat) 2 (λL1 i=>(5,.v (.one (.int .i64 (i:Int))))::L1) (λ_=>[.blk 120 [.int .i64 k,.int .i64 i0,.int .i64 i1,.int .i64 i2,.int .i64 i3],.blk 120 [.int .i64 k,.int .i64 j0,.int .i64 j1,.int .i64 j2,.int .i64 j3]]) (λi=>4-i) (λi=>i<=4/\Rl ([i0,i1,i2,i3].drop i) ([j0,j1,j2,j3].drop i)=Rl [i0,i1,i2,i3] [j0,j1,j2,j3]) 0 ⟨by omega,rfl⟩ rfl (λ_ _=>rfl) rfl λi ⟨hi,he⟩=>?_
  rw [<-he];rcases (show i=0\/i=1\/i=2\/i=3\/i=4 by omega) with rfl | rfl | rfl | rfl | rfl
  ·by_cases h:i0=j0
   ·exact go tt [.t rfl,.i 0,.i 0,.f (by simpa using h)] rfl (by simp [Ur]) (rd 1 (by omega) ⟨by omega,by simp [Rl,h]⟩ rfl)
   ·exact en tt [.t rfl,.i 0,.i 0,.t (by simpa using h),.i 0,.i 0] rfl (by simp [Rl,h]) trivial
  ·by_cases h:i1=j1
   ·exact go tt [.t rfl,.i 1,.i 1,.f (by simpa using h)] rfl (by simp [Ur]) (rd 2 (by omega) ⟨by omega,by simp [Rl,h]⟩ rfl)
   ·exact en tt [.t rfl,.i 1,.i 1,.t (by simpa using h),.i 1,.i 1] rfl (by simp [Rl,h]) trivial
  ·by_cases h:i2=j2
   ·exact go tt [.t rfl,.i 2,.i 2,.f (by simpa using h)] rfl (by simp [Ur]) (rd 3 (by omega) ⟨by omega,by simp [Rl,h]⟩ rfl)
   ·exact en tt [.t rfl,.i 2,.i 2,.t (by simpa using h),.i 2,.i 2] rfl (by simp [Rl,h]) trivial
  ·by_cases h:i3=j3
   ·exact go tt [.t rfl,.i 3,.i 3,.f (by simpa using h)] rfl (by simp [Ur]) (rd 4 (by omega) ⟨by omega,by simp [Rl,h]⟩ rfl)
   ·exact en tt [.t rfl,.i 3,.i 3,.t (by simpa using h),.i 3,.i 3] rfl (by simp [Rl,h]) trivial
  ·exact en tt [.f rfl] rfl (by simp [Rl]) trivial
 ·exact w tt Tryz.func250 rfl [.t (by simpa using hk)] rfl (by simp [Rl,hk]) trivial
theorem Zec {l:List Ct} (hn:l.length<=1000000):Ut Tryz.prog 227 [.one (.row (Gi l))] [.one (.row (Gi (Fx Tg l)))]:=by
 have hcl:=M6 l;refine Gv Tryz.func227 rfl ?_;refine go tt [.o 3 213 9] rfl trivial ?_;refine lp (S:=Nat) 1 (λL1 i=>(8,.v (.one (.int .i64 (i:Int))))::(3,.v (.one (.orow 0 9 none)))::L1) (λi=>[.row false 213 9 (Gi (Fx Tg (l.take i)))]) (λi=>l.length-i) (λi=>i<=l.length) 0 (Qh _) rfl (λ_ _=>rfl) rfl λi hi=>?_
 by_cases hlt:i<l.length
 ·obtain ⟨c,hc⟩:=gxE (l:=l) (i:=i) hlt;have hst:Fx Tg (l.take (i+1))=P6 Tg (Fx Tg (l.take i)) c:=Eh hc;obtain ⟨O,hO⟩:=nmE (Fx Tg (l.take i));have hOl:O.length=i:=by rw [hO,H9,Qr]; omega
  have hrl:=M6 O;rw [<-hO] at hst ⊢;refine go tt [.t (decide_eq_true (by omega))] rfl trivial ?_;refine lp (S:=Nat) 1 (λL1 k=>(5,.v (.one (.int .i64 (k:Int))))::L1) (λ_=>[.row false 213 9 (Gi O)]) id (λk=>k<=O.length/\Tn Tg O c k=Tn Tg O c O.length) (Gi O).length ⟨by omega,by rw [hrl]⟩ rfl (λ_ _=>rfl) rfl λk ⟨hk,hp⟩=>?_
  have h7:=Qh2 O;have h7z:∀ y∈[rct c],y.length=9:=λy hy=>by rw [Qk.1 hy]; rfl
  cases k with
  |
   zero =>
   have hp:Tn Tg O c O.length=0:=by rw [<-hp]; rfl
   refine go tt [.g 15 false (by simp),.f rfl,.i 0,.x (Mt hc),.lo,.i 0,.s (sz:=9) (λy hy=>h7 y (Qm hy)),.s (sz:=9) (λy hy=>(Qu.1 hy).elim (h7z y) λhy=>h7 y (Qm hy))] rfl (by simp [Ur]; omega) ?_;exact rd (i+1) (by omega) hlt (by rw [hst,<-Qef hp]; rfl)
  |
   succ k =>
   obtain ⟨x,hx⟩:=gxE (l:=O) (i:=k) (by omega);have cb:=Q0e (k:=c.kind) (i0:=c.i0) (i1:=c.i1) (i2:=c.i2) (i3:=c.i3) (l:=x.kind) (j0:=x.i0) (j1:=x.i1) (j2:=x.i2) (j3:=x.i3);by_cases hlc:Tg c x=true
   ·refine go tt [.g 15 true (by simp),.x (Mt hc),.r 23 (eI (b:=(k:Int)) (by simp)),.i k,.x (Mt hx),.c [] cb,.t hlc,.r 30 (eI (b:=(k:Int)) (by simp))] rfl (by simp [Ur]; omega) ?_;exact rd k (by simp) ⟨by omega,by rw [<-hp,Qb1 hx hlc]⟩ rfl
   ·have hlc:Tg c x=false:=by simpa using hlc
    have hp:Tn Tg O c O.length=k+1:=by rw [<-hp,Ii hx hlc]
    refine go tt [.g 15 true (by simp),.x (Mt hc),.r 23 (eI (b:=(k:Int)) (by simp)),.i k,.x (Mt hx),.c [] cb,.f hlc,.i (k+1),.x (Mt hc),.lo,.i (k+1),.s (sz:=9) (λy hy=>h7 y (Zc (Qm hy))),.s (sz:=9) (λy hy=>(Qu.1 hy).elim (h7z y) λhy=>h7 y (Zc (Qm hy)))] rfl (by simp [Ur]; omega) ?_;exact rd (i+1) (by omega) hlt (by rw [hst,<-Qef hp]; rfl)
 ·obtain rfl:i=l.length:=by omega
  rw [Qy];exact en tt [.f (decide_eq_false (by omega))] rfl rfl trivial
abbrev sgq (q:Rat):List Int->Int:=λp=>Gz p q
abbrev rzc:List LV:=[.int .i64 0,.int .i64 0,.int .i64 0,.int .i64 0,.int .i64 0,.nils,.int .i64 0,.nils,.bool false]
theorem Q7q {a b:Pt} {q:Rat} {c:List (List Int)} (ha:Rs a.c) (hb:Rs b.c) (hq:Qs 1000000 q):Ut Tryz.prog 249 [.one (.int .i64 1),.agg (aq q c),.one (.row [Dx a,Dx b])] [.agg (rct (Nw (sgq q) a b)),.one (.bool true)]:=by
 have hfl:=fzl (Hf a.c b.c);have x0:[Dx a,Dx b][0]? = some (Dx a):=rfl;have x1:[Dx a,Dx b][1]? = some (Dx b):=rfl;refine Gv Tryz.func249 rfl ?_;refine go tt [.g 14 false rfl,.g 18 false rfl,.x (l:=[[.int .i64 0],[.int .i64 2],[.int .i64 2],[.int .i64 3],[.int .i64 4],[.int .i64 4]]) (i:=1) (xs:=[.int .i64 2]) rfl,.f rfl] rfl trivial ?_;refine lp (S:=Nat) 3 (λL1 i=>(33,.v (.one (.int .i64 (i:Int))))::L1) (λi=>[.blk 82 (aq q c),.blk 213 rzc,.blk 213 [.int .i64 1,.int .i64 (if 0<i then a.id else 0),.int .i64 (if 1<i then b.id else 0),.int .i64 0,.int .i64 0,.nils,.int .i64 0,.nils,.bool false]]) (λi=>2-i) (λi=>i<=2) 0 (by decide) rfl (λ_ _=>rfl) rfl λi hi=>?_
 rcases (show i=0\/i=1\/i=2 by omega) with rfl | rfl | rfl
 ·exact go tt [.t rfl,.x x0,.i 0] rfl (by simp [Ur]) (rd 1 (by omega) (by omega) rfl)
 ·exact go tt [.t rfl,.x x1,.i 1] rfl (by simp [Ur]) (rd 2 (by omega) (by omega) rfl)
 by_cases h0:(Hf a.c b.c).length=0
 ·have e:Dm a b=Hp a.c b.c:=if_neg (by omega);exact en tt [.f rfl,.t rfl,.x x0,.x x1,.c [] (Qaa ha hb),.t (decide_eq_true (by omega)),.x x0,.x x1,.c [] (Qjy ha hb),.c [] (Av (p:=Hp a.c b.c) (c:=c) (Us (Qb0 ha hb).1 (by decide)) (Nat.le_trans (Qb0 ha hb).2 (by decide)) hq)] rfl (by unfold Nw; rw [e]; rfl) trivial
 ·have e:Dm a b=Hf a.c b.c:=if_pos (by omega);exact en tt [.f rfl,.t rfl,.x x0,.x x1,.c [] (Qaa ha hb),.f (decide_eq_false (by omega)),.c [] (Av (p:=Hf a.c b.c) (c:=c) (Us (Qb3 ha hb).1 (by decide)) (Nat.le_trans (Qb3 ha hb).2 (by decide)) hq)] rfl (by unfold Nw; rw [e]; rfl) trivial
theorem Zee {a b:Pt} {q:Rat} {c:List (List Int)} (ha:Rs a.c) (hb:Rs b.c) (hq:Qs 1000000 q):Ut Tryz.prog 226 [.one (.int .i64 1),.agg (aq q c),.one (.row [Dx a,Dx b])] [.agg (rct (Nw (sgq q) a b))] :=
 w tt Tryz.func226 rfl [.c [] (Q7q ha hb hq)] rfl rfl trivial
def Qoi (q:Rat) (l:List Pt):List Ct:=Fx Tg (Si (sgq q) (Fx (Ch q) l))
theorem Q7p {l:List Ct} (hn:l.length<=1000000):Ut Tryz.prog 91 [.one (.row []),.one (.row (Gi l))] [.one (.row (Gi l))]:=by
 have hcl:=M6 l;refine Gv Tryz.func91 rfl ?_;refine go tt [] rfl trivial ?_;refine lp (S:=Nat) 0 (λL1 i=>(9,.v (.one (.int .i64 (i:Int))))::L1) (λ_=>[]) (λi=>l.length-i) (λi=>i<=l.length) 0 (Qh _) rfl (λ_ _=>rfl) rfl λi hi=>?_
 by_cases hlt:i<l.length
 ·refine go tt [.t (decide_eq_true (by omega))] rfl trivial ?_;refine lp (S:=Nat) 0 (λL1 k=>(14,.v (.one (.int .i64 (k:Int))))::L1) (λ_=>[]) (λk=>0-k) (λk=>k=0) 0 rfl rfl (λ_ _=>rfl) rfl λk hk=>?_
  subst hk;exact go tt [.f rfl] rfl (by simp [Ur]; omega) (rd (i+1) (by omega) hlt rfl)
 ·exact en tt [.f (decide_eq_false (by omega))] rfl rfl trivial
theorem Zfc (l:List Nat) (n:Nat):(lm l).take (min l.length n)=lm (l.take n):=by
 rw [lm,lm,<-Jp];rcases Nat.le_total l.length n with h | h
 ·rw [Zt h,Qy,Qn h]
 ·rw [Ka h]
theorem Zjc {l:List Nat} {n:Nat} (hn:n<=1000):Ut Tryz.prog 178 [.one (.row (lm l)),.one (.int .i64 (n:Int))] [.one (.row (lm (l.take n)))]:=by
 rw [<-Zfc];have hll:(lm l).length=l.length:=by simp [lm]
 exact w tt Tryz.func178 rfl [.r 9 (eI (b:=((min l.length n:Nat):Int)) (by omega)),.i (min l.length n)] rfl rfl (by simp [Ur,hll]; omega)
theorem Q7d {z:RawInt}:Ut Tryz.prog 133 [.agg (Qg2 z),.one (.int .i64 1)] [.agg (Qg2 z.cut)] :=
 w tt Tryz.func133 rfl [.c [] (Zjc (l:=z.l) (n:=1) (by decide))] rfl rfl trivial
def Qcr (l:List RawInt):List (List LV):=l.map Qg2
theorem Qb5 (l:List RawInt):(Qcr l).length=l.length:=by simp [Qcr]
theorem Qz6 {l:List RawInt}:Ut Tryz.prog 132 [.one (.row (Qcr l)),.one (.int .i64 3),.one (.int .i64 1)] [.one (.row (Qcr ((l.take 3).map RawInt.cut)))]:=by
 have hll:=Qb5 l;refine Gv Tryz.func132 rfl (ln 0 rfl rfl λhzl=>?_);rw [hll] at hzl;refine go tt [.o 7 27 2] rfl trivial ?_;refine lp (S:=Nat) 1 (λL1 i=>(8,.v (.one (.int .i64 (i:Int))))::(7,.v (.one (.orow 0 2 none)))::L1) (λi=>[.row false 27 2 (Qcr ((l.take i).map RawInt.cut))]) (λi=>3-i) (λi=>i<=3/\i<=l.length) 0 ⟨by decide,Qh _⟩ rfl (λ_ _=>rfl) rfl λi ⟨hi,hi2⟩=>?_
 have hil:(Qcr ((l.take i).map RawInt.cut)).length=i:=by rw [Qb5,Q6,Qr]; omega
 by_cases h1:i<l.length
 ·by_cases h2:i<3
  ·obtain ⟨z,hz⟩:=gxE (l:=l) (i:=i) h1;have hm:∀ y∈[Qg2 z.cut],y.length=2:=λy hy=>by rw [Qk.1 hy]; rfl
   refine go tt [.g 13 true (decide_eq_true (by omega)),.t (decide_eq_true (by omega)),.x (Gx (f:=Qg2) hz),.c [] Q7d,.s (sz:=2) hm] rfl (by simp [Ur,hil,-List.map_take]; omega) ?_;exact rd (i+1) (by omega) ⟨h2,h1⟩ (by rw [Zs,hz]; simp [Qcr]; rfl)
  ·have e:i=3:=by omega
   have e2:l.take 3=l.take i:=by rw [e]
   rw [e2];exact en tt [.g 13 true (decide_eq_true (by omega)),.f (decide_eq_false (by omega))] rfl rfl trivial
 ·have e:l.take i=l.take 3:=by rw [Qn (by omega),Qn (by omega)]
  rw [e];exact en tt [.g 13 false (decide_eq_false (by omega)),.f rfl] rfl rfl trivial
abbrev rcw (z:RawPt):List LV:=[.row (Qcr z.x),.row (Qcr z.y),.bool z.d.b,.row (lm z.d.l)]
def RawPt.cut (z:RawPt):RawPt:=⟨(z.x.take 3).map RawInt.cut,(z.y.take 3).map RawInt.cut,z.d.cut,z.id⟩
theorem Zl0 {z:RawPt}:Ut Tryz.prog 87 [.agg (rcw z),.one (.int .i64 3),.one (.int .i64 1)] [.agg (rcw z.cut)] :=
 w tt Tryz.func87 rfl [.c [] (Qz6 (l:=z.x)),.c [] (Qz6 (l:=z.y)),.c [] (Q7d (z:=z.d))] rfl rfl trivial
theorem Qdy {z:RawInt} (hz:z.Ok) {most:Int} (hm:0<=most/\most<=999):Ut Tryz.prog 134 [.agg (Qg2 z),.one (.int .i64 most)] [.agg (Gw (Tc most z))]:=by
 obtain ⟨b,l⟩:=z;have hb:=Qc9 hm.1 ⟨b,l⟩;have hs:U6 (Tc most ⟨b,l⟩)<=100000000:=Qc (Tz.2 (show (Tc most ⟨b,l⟩).natAbs<2^10 by omega)) (by decide);cases l with
 | nil=>exact w tt Tryz.func134 rfl [.t rfl] rfl (by simp [Tc,Eb]) trivial
 |
  cons u l =>
  have hu:=hz.u u (Qx ..);have co:=Dt (n:=Tc most ⟨b,u::l⟩) (by omega);have ct:=Q62 hs;have hr:Int.tmod (u:Int) (most+1)=(u:Int) % (most+1):=Yy (by omega);have h1:=Yd (u:Int) (b:=most+1) (by omega);have h2:=Jl (u:Int) (b:=most+1) (by omega);cases b with
  |
   true =>
   rw [show Tc most ⟨true,u::l⟩=-((u:Int) % (most+1)) from rfl] at co ct ⊢;exact w tt Tryz.func134 rfl [.f (decide_eq_false (by simp [lm]; try omega)),.x (l:=lm (u::l)) (i:=0) (xs:=[.int .u32 (u:Int)]) rfl,.r 18 (eI hr),.t rfl,.c [] co,.c [] ct] rfl rfl (by simp [Ur]; omega)
  |
   false =>
   rw [show Tc most ⟨false,u::l⟩=(u:Int) % (most+1) from rfl] at co ct ⊢;exact w tt Tryz.func134 rfl [.f (decide_eq_false (by simp [lm]; try omega)),.x (l:=lm (u::l)) (i:=0) (xs:=[.int .u32 (u:Int)]) rfl,.r 18 (eI hr),.f rfl,.c [] co,.c [] ct] rfl rfl (by simp [Ur]; omega)
theorem oz2 {P:Program} [Mo P] {n:Nat} {Q:Exit->Sg->List OB->Prop} {L L':Sg} {B B':List OB} (d off T sz:Nat) {it:List It} (hs:Ti it=true) (h:Zat (P:=P) d L B [.oc d off T sz]=some (L',B',[],[])) (k:AK P n Q it L' B'):AK P n Q it L B:=AK.sub (Qyc h EqOk.nil) hs k
theorem pz {P:Program} [Mo P] {n:Nat} {Q:Exit->Sg->List OB->Prop} {L L':Sg} {B B':List OB} (i:Nat) {it:List It} (hs:Ti it=true) (h:Q45 [i] L B=some (L',B')) (k:AK P n Q it L' B'):AK P n Q it L B:=AK.sub (Qe0 h) hs k
def A7 (l:List Int):List (List LV):=l.map Gw
theorem Q4r (l:List Int):(A7 l).length=l.length:=by simp [A7]
theorem Qgr {most:Int} {l:List RawInt} {i:Nat} {a:RawInt} (hi:i<3) (h:l[i]? = some a):A7 (G9 most (l.take (i+1)))=A7 (G9 most (l.take i))++[Gw (Tc most a)]:=by
 rw [Qqp hi h]; simp [A7]
theorem Qqo {most:Int} {l:List RawInt} {i:Nat} (hi:i<=3) (h:i<=l.length):(A7 (G9 most (l.take i))).length=i:=by
 rw [Q4r]; unfold G9; rw [List.length_map,List.length_take,List.length_take]; omega
theorem Q6k {z:RawPt} (hz:z.Ok) {most:Int} (hm:0<=most/\most<=999):Ut Tryz.prog 88 [.agg (rcw z),.one (.int .i64 most)] [.agg (cl4 (Qel most z.x z.y z.d))]:=by
 have hxl:=Qb5 z.x;have hyl:=Qb5 z.y;obtain ⟨D,hD⟩:=nmE (Tc 3 z.d);have cd:=Qdy hz.d (most:=3) (by decide);have hx0:∀ {i:Nat},z.x.length<=i\/3<=i->G9 most (z.x.take i)=G9 most z.x:=Qhs most;have hy0:∀ {i:Nat},z.y.length<=i\/3<=i->G9 most (z.y.take i)=G9 most z.y:=Qhs most;unfold Qel;rw [<-hD] at cd ⊢;refine Gv Tryz.func88 rfl ?_;refine go tt [.c [] cd] rfl trivial ?_;refine oz2 5 0 27 2 rfl rfl ?_;refine lp (S:=Nat) 4 (λL1 i=>(6,.v (.one (.int .i64 (i:Int))))::L1) (λi=>[.blk 29 (rcw z),.blk 29 [.nils,.nils,.bool false,.nils],.blk 29 [.orow 3 2 none,.nils,sg D,mg D],.row false 27 2 (A7 (G9 most (z.x.take i)))]) (λi=>3-i) (λi=>i<=3/\i<=z.x.length) 0 ⟨by decide,Qh _⟩ rfl (λ_ _=>rfl) rfl λi ⟨hi,hi2⟩=>?_
 have hll:=Qqo (most:=most) hi hi2;by_cases hr:i<z.x.length/\i<3
 ·obtain ⟨a,ha⟩:=gxE (l:=z.x) (i:=i) hr.1;have hs:∀ y∈[Gw (Tc most a)],y.length=2:=λy hy=>by rw [Qk.1 hy]; rfl
  refine go tt [.g 17 true (decide_eq_true (by omega)),.t (decide_eq_true (by omega)),.x (Gx (f:=Qg2) ha),.c [] (Qdy (hz.x a (Qa ha)) hm),.s (sz:=2) hs] rfl (by simp [Ur,hll]; omega) ?_;exact rd (i+1) (by omega) ⟨hr.2,hr.1⟩ (by rw [Qgr hr.2 ha]; rfl)
 have hg1:decide ((i:Int)<((Qcr z.x).length:Int))=true->i<z.x.length:=λh=>by have:=of_decide_eq_true h; omega
 rw [hx0 (by omega)];clear hll;have hfin:∀ {j:Nat},j<=3/\j<=z.y.length->¬(j<z.y.length/\j<3)->A7 (G9 most (z.y.take j))=A7 (G9 most z.y):=λh1 h2=>by rw [hy0 (by omega)]
 by_cases hxx:i<z.x.length
 ·refine go tt [.g 17 true (decide_eq_true (by omega)),.f (decide_eq_false (by omega))] rfl trivial ?_;refine pz 3 rfl rfl ?_;refine oz2 5 1 27 2 rfl rfl ?_;refine lp (S:=Nat) 5 (λL1 j=>(7,.v (.one (.int .i64 (j:Int))))::L1) (λj=>[.blk 29 (rcw z),.blk 29 [.nils,.nils,.bool false,.nils],.blk 29 [.row (A7 (G9 most z.x)),.orow 4 2 none,sg D,mg D],.gone,.row false 27 2 (A7 (G9 most (z.y.take j)))]) (λj=>3-j) (λj=>j<=3/\j<=z.y.length) 0 ⟨by decide,Qh _⟩ rfl (λ_ _=>rfl) rfl λj ⟨hj,hj2⟩=>?_
  have hll:=Qqo (most:=most) hj hj2;by_cases hr:j<z.y.length/\j<3
  ·obtain ⟨a,ha⟩:=gxE (l:=z.y) (i:=j) hr.1;have hs:∀ y∈[Gw (Tc most a)],y.length=2:=λy hy=>by rw [Qk.1 hy]; rfl
   refine go tt [.g 40 true (decide_eq_true (by omega)),.t (decide_eq_true (by omega)),.x (Gx (f:=Qg2) ha),.c [] (Qdy (hz.y a (Qa ha)) hm),.s (sz:=2) hs] rfl (by simp [Ur,hll]; omega) ?_;exact rd (j+1) (by omega) ⟨hr.2,hr.1⟩ (by rw [Qgr hr.2 ha]; rfl)
  rw [hfin ⟨hj,hj2⟩ hr];by_cases hyy:j<z.y.length
  ·exact ed tt [4] [] [.g 40 true (decide_eq_true (by omega)),.f (decide_eq_false (by omega))] rfl trivial
  ·exact ed tt [4] [] [.g 40 false (decide_eq_false (by omega)),.f rfl] rfl trivial
 ·refine go tt [.g 17 false (decide_eq_false (by omega)),.f rfl] rfl trivial ?_;refine pz 3 rfl rfl ?_;refine oz2 5 1 27 2 rfl rfl ?_;refine lp (S:=Nat) 5 (λL1 j=>(7,.v (.one (.int .i64 (j:Int))))::L1) (λj=>[.blk 29 (rcw z),.blk 29 [.nils,.nils,.bool false,.nils],.blk 29 [.row (A7 (G9 most z.x)),.orow 4 2 none,sg D,mg D],.gone,.row false 27 2 (A7 (G9 most (z.y.take j)))]) (λj=>3-j) (λj=>j<=3/\j<=z.y.length) 0 ⟨by decide,Qh _⟩ rfl (λ_ _=>rfl) rfl λj ⟨hj,hj2⟩=>?_
  have hll:=Qqo (most:=most) hj hj2;by_cases hr:j<z.y.length/\j<3
  ·obtain ⟨a,ha⟩:=gxE (l:=z.y) (i:=j) hr.1;have hs:∀ y∈[Gw (Tc most a)],y.length=2:=λy hy=>by rw [Qk.1 hy]; rfl
   refine go tt [.g 40 true (decide_eq_true (by omega)),.t (decide_eq_true (by omega)),.x (Gx (f:=Qg2) ha),.c [] (Qdy (hz.y a (Qa ha)) hm),.s (sz:=2) hs] rfl (by simp [Ur,hll]; omega) ?_;exact rd (j+1) (by omega) ⟨hr.2,hr.1⟩ (by rw [Qgr hr.2 ha]; rfl)
  rw [hfin ⟨hj,hj2⟩ hr];by_cases hyy:j<z.y.length
  ·exact ed tt [4] [] [.g 40 true (decide_eq_true (by omega)),.f (decide_eq_false (by omega))] rfl trivial
  ·exact ed tt [4] [] [.g 40 false (decide_eq_false (by omega)),.f rfl] rfl trivial
theorem Qzz {n d:Int} (hn:-9223372036854775808<=n/\n<=9223372036854775807) (hd:-9223372036854775808<=d/\d<=9223372036854775807):Ut Tryz.prog 20 [.one (.int .i64 n),.one (.int .i64 d)] [.agg (fr (Gt (Di n 61-30) (1+Di d 6)))]:=by
 have h1:Di n 61=n % 61:=rfl;have h2:Di d 6=d % 6:=rfl;exact w tt Tryz.func20 rfl [.c [] (Qdw (v:=n) (n:=61) hn (by decide)),.c [] (Qdw (v:=d) (n:=6) hd (by decide)),.c [] (Zl6 (n:=Di n 61-30) (d:=1+Di d 6) (by omega) (by omega))] rfl rfl (by simp [Ur]; omega)
def rwq (z:RawPt):List LV:=rcw z++[.int .i64 z.id]
def Qe6 (l:List RawPt):List (List LV):=l.map rwq
theorem Q5c (l:List RawPt):(Qe6 l).length=l.length:=by simp [Qe6]
theorem Qrp {l:List RawPt} {i:Nat} {z:RawPt} (h:l[i]? = some z):(Qe6 l)[i]? = some (rwq z):=Gx h
theorem Zji {most:Int} (hm:0<=most/\most<=999) (z:RawPt):Cs 100000 16 (Qbx most z).c:=(Qm7 hm z.x z.y z.d).mono (by decide) (by decide)
def Io (n:Nat) (most:Int) (zs:List RawPt) (i:Nat):List Pt:=Qgz n most (zs.take i)
theorem Zav (n:Nat) (most:Int) (zs:List RawPt) (i:Nat):(Io n most zs i).length<=n:=Qan _ _ (Qh _)
theorem Zf0 {n:Nat} {most:Int} {zs:List RawPt} {i:Nat} {z:RawPt} (h:zs[i]? = some z) (hl:(Io n most zs i).length<n) (ha:(Io n most zs i).any (λx=>decide (x.id=(Qbx most z).id))=true):Io n most zs (i+1)=Io n most zs i:=by
 unfold Io Qgz at *;rw [Zs,h,Vo,J1];exact Oa _ _ _ hl ha
theorem Zaw {n:Nat} {most:Int} {zs:List RawPt} {i:Nat} {z:RawPt} (h:zs[i]? = some z) (hl:(Io n most zs i).length<n) (ha:(Io n most zs i).any (λx=>decide (x.id=(Qbx most z).id))=false):Io n most zs (i+1)=Io n most zs i++[Qbx most z]:=by
 unfold Io Qgz at *;rw [Zs,h,Vo,J1];exact Ah _ _ _ hl ha
theorem Zau {n:Nat} {most:Int} {zs:List RawPt} {i:Nat} (h:¬(i<zs.length/\(Io n most zs i).length<n)):Io n most zs i=Qgz n most zs:=by
 by_cases h1:i<zs.length
 ·have hl:n<=(Io n most zs i).length:=Vb λh2=>h ⟨h1,h2⟩
  unfold Io Qgz at *
  conv=>rhs; rw [<-Zb i zs,J1]
  exact (Qge _ _ _ hl).symm
 ·unfold Io; rw [List.take_of_length_le (by omega)]
theorem Q53 {f:Pt->Bool} {l:List Pt} {k:Nat} {x:Pt} (h:l[k]? = some x):(l.take (k+1)).any f=((l.take k).any f || f x):=by
 rw [Zs,h]; simp
theorem Q3p {zs:List RawPt} (hz:∀ z∈zs,z.Ok):Hh Tryz.prog 45 [.one (.row (Qe6 zs)),.one (.int .i64 4)] [] [.one (.orow 0 5 none),.one (.orow 1 7 none)] [.row false 33 5 (Uy (Qgz 4 20 zs)),.row false 92 7 (Fa ((Qgz 4 20 zs).map Pt.nrm))]:=by
 have hzl:=Q5c zs;refine Gv Tryz.func45 rfl (ln 0 rfl rfl λhz63=>?_);rw [hzl] at hz63;refine go tt [.o 6 33 5,.o 7 92 7] rfl trivial ?_;refine lp (S:=Nat) 2 (λL1 i=>(8,.v (.one (.int .i64 (i:Int))))::(6,.v (.one (.orow 0 5 none)))::(7,.v (.one (.orow 1 7 none)))::L1) (λi=>[.row false 33 5 (Uy (Io 4 20 zs i)),.row false 92 7 (Fa ((Io 4 20 zs i).map Pt.nrm))]) (λi=>zs.length-i) (λi=>i<=zs.length) 0 (Qh _) rfl (λ_ _=>rfl) rfl λi hi=>?_
 have hOl:=Zav 4 20 zs i;have hend:=Zau (n:=4) (most:=20) (zs:=zs) (i:=i);by_cases h1:i<zs.length
 ·by_cases h2:(Io 4 20 zs i).length<4
  ·obtain ⟨z,hzi⟩:=gxE (l:=zs) (i:=i) h1;have hzok:=hz z (Qa hzi);have hin:=Zf0 hzi h2;have hout:=Zaw hzi h2;obtain ⟨O,hO⟩:=nmE (Io 4 20 zs i);rw [<-hO] at hOl h2 hin hout ⊢;have By:=Rj O;have hrl:(Fa (O.map Pt.nrm)).length=O.length:=by rw [Hl,Q6]
   obtain ⟨p,hp⟩:=nmE (Qbx 20 z);have hid:Di z.id 1000=p.id:=by rw [hp]; rfl
   have cw:=Qdw (v:=z.id) (n:=1000) hzok.id (by decide);have cl:=Q6k hzok (most:=20) (by decide);have ecl:cl4 (Qel 20 z.x z.y z.d)=cl4 p.c:=by rw [hp]; rfl
   rw [hid] at cw;rw [ecl] at cl;rw [<-hp] at hin hout;refine go tt [.g 16 true (decide_eq_true (by omega)),.t (decide_eq_true (by omega)),.x (Qrp hzi),.c [] (Zl0 (z:=z)),.x (Qrp hzi),.c [] cw,.f rfl,.t rfl,.x (Qrp hzi),.c [] cl] rfl trivial ?_;refine lp (S:=Nat) 3 (λL1 k=>(57,.v (.one (.int .i64 (k:Int))))::(10,.v (.one (.bool ((O.take k).any (λx=>decide (x.id=p.id))))))::L1) (λ_=>[.row false 33 5 (Uy O),.row false 92 7 (Fa (O.map Pt.nrm)),.blk 33 [pl p.c.x,pl p.c.y,sg p.c.d,mg p.c.d,.int .i64 p.id]]) (λk=>O.length-k) (λk=>k<=O.length) 0 (Qh _) rfl (λ_ _=>rfl) rfl λk hk=>?_
   by_cases hk2:k<O.length
   ·obtain ⟨x,hx⟩:=gxE (l:=O) (i:=k) hk2;have ha:=Q53 (f:=λx=>decide (x.id=p.id)) hx;cases hb:(O.take k).any (λx=>decide (x.id=p.id)) with
    |
     true =>
     rw [hb,Ud] at ha;exact go tt [.t (decide_eq_true (by omega)),.g 61 true rfl] rfl (by simp [Ur]; omega) (rd (k+1) (by omega) hk2 (by rw [ha]; rfl))
    |
     false =>
     rw [hb,Kc] at ha;exact go tt [.t (decide_eq_true (by omega)),.g 61 false rfl,.i k,.x (Hr hx)] rfl (by simp [Ur,By]; omega) (rd (k+1) (by omega) hk2 (by rw [ha]; rfl))
   have hk3:O.take k=O:=Qn (by omega);rw [hk3];cases hb:O.any (λx=>decide (x.id=p.id)) with
   |
    true =>
    refine go tt [.f (decide_eq_false (by omega)),.f rfl] rfl (by simp [Ur]; omega) ?_;exact rd (i+1) (by omega) h1 (by rw [hin hb]; rfl)
   |
    false =>
    have cf:=Q7o (k:=p.c) (id:=p.id) (by rw [hp]; exact Zji (by decide) z);have hm1:∀ y∈[Hb p],y.length=5:=λy hy=>by rw [Qk.1 hy]; rfl
    have hm2:∀ y∈[Dx p.nrm],y.length=7:=λy hy=>by rw [Qk.1 hy]; rfl
    have e1:Uy (O++[p])=Uy O++[Hb p]:=by simp [Uy]
    have e2:Fa ((O++[p]).map Pt.nrm)=Fa (O.map Pt.nrm)++[Dx p.nrm]:=by simp [Fa]
    refine go tt [.f (decide_eq_false (by omega)),.t rfl,.s (sz:=5) hm1,.c [] cf,.s (sz:=7) hm2] rfl (by simp [Ur,By,hrl]; omega) ?_;exact rd (i+1) (by omega) h1 (by rw [hout hb,e1,e2]; rfl)
  ·rw [hend (λh=>h2 h.2)];rw [hend (λh=>h2 h.2)] at h2;have By:=Rj (Qgz 4 20 zs);exact ed tt [] [0,1] [.g 16 true (decide_eq_true (by omega)),.f (decide_eq_false (by omega))] rfl trivial
 ·rw [hend (λh=>h1 h.1)];exact ed tt [] [0,1] [.g 16 false (decide_eq_false (by omega)),.f rfl] rfl trivial
abbrev plZ (M:List Pt) (q:Rat):List LV:=.row (Fa M)::(fr q++[.nils,.nils,.nils,.bool false,.nils,.bool false,.nils,.bool false,.nils,.bool false,.nils,.int .i64 0,.nils])
abbrev plB (M:List Pt) (q:Rat) (c:List (List Int)) (w:List Ct):List LV:=.row (Fa M)::(fr q++(aq q c++[.row (Gi w),.int .i64 0,.nils]))
end Orr
namespace Orr
open Go Go.Proofs Orq
set_option maxRecDepth 10000
theorem Zet {O:List Pt} {e j:Nat} (h:Ab (Sx O e)) (hj:j<=e):Ab (Sx O j):=by
 have:Sx O j=(Sx O e).take j:=by unfold Sx; rw [<-List.map_take,List.take_take,Nat.min_eq_left hj]
 rw [this];exact List.Pairwise.sublist (W9 _ _) h
theorem Zjk (O:List Pt):∃ e,e<=O.length/\Ab (Sx O e)/\(e<O.length->¬Ab (Sx O (e+1))):=by
 have key:∀ k,Ab (Sx O k)\/∃ e,e<k/\Ab (Sx O e)/\¬Ab (Sx O (e+1)):=by
  intro k
  induction k with
  | zero=>exact .inl List.Pairwise.nil
  |
   succ k ih =>
   rcases ih with h | ⟨e,h1,h2,h3⟩
   ·by_cases h4:Ab (Sx O (k+1))
    ·exact .inl h4
    ·exact .inr ⟨k,Nat.lt_succ_self k,h,h4⟩
   ·exact .inr ⟨e,by omega,h2,h3⟩
 rcases key O.length with h | ⟨e,h1,h2,h3⟩
 ·exact ⟨O.length,Ql _,h,λh=>absurd h (W6 _)⟩
 ·exact ⟨e,by omega,h2,λ_=>h3⟩
theorem Qra {O:List Pt} {i:Nat} {p:Pt} (h:O[i]? = some p):(Uy (mix O i)).set i [pl p.c.x,pl p.c.y,sg p.c.d,mg p.c.d,.int .i64 p.m5.id]=Uy (mix O (i+1)):=by
 rw [<-Q1t h]; simp only [Uy,V1]; rfl
theorem Qmu {O:List Pt} {i:Nat} {p:Pt} (h:O[i]? = some p):(Fa ((mix O i).map Pt.nrm)).set i [rp (Ao p.nrm.c.x p.nrm.c.d),rp (Ao p.nrm.c.y p.nrm.c.d),pl p.nrm.c.x,pl p.nrm.c.y,sg p.nrm.c.d,mg p.nrm.c.d,.int .i64 p.m5.id]=Fa ((mix O (i+1)).map Pt.nrm):=by
 rw [<-Q1t h]; simp only [Fa,V1]; rfl
theorem Q44 {O:List Pt} {e i:Nat} (h:e<=i) (hi:i<=O.length):(Uy (mix O i)).take e=Uy (Sx O e):=by
 unfold Uy; rw [<-List.map_take,Quc h hi]; rfl
theorem Qyq {O:List Pt} {e i:Nat} (h:e<=i) (hi:i<=O.length):(Fa ((mix O i).map Pt.nrm)).take e=Fa (Qch O e):=by
 unfold Fa; rw [<-List.map_take,<-List.map_take,Quc h hi]; rfl
theorem Qub {O:List Pt}:mix O O.length=Sx O O.length:=by unfold mix Sx; simp
abbrev Ck (n d:Int):Rat:=Gt (Di n 61-30) (1+Di d 6)
theorem Qg6 (n d:Int):Qs 100 (Ck n d):=by
 have h1:Di n 61=n % 61:=rfl;have h2:Di d 6=d % 6:=rfl;unfold Ck Gt;rw [if_neg (by omega)];exact Qs.divInt (Qc (Tz.2 (show (Di n 61-30).natAbs<2^10 by omega)) (by decide)) (Qc (Tz.2 (show (1+Di d 6).natAbs<2^10 by omega)) (by decide)) (by decide)
theorem Zf1 {n:Nat} {most:Int} {l:List RawPt}:∀ p∈Qgz n most l,0≤p.id/\p.id<1000:=λp hp=>by
 rcases Qea _ _ hp with h | h
 ·cases h
 ·obtain ⟨z,_,rfl⟩:=Zr.1 h;exact ⟨Yd _ (by decide),Jl _ (by decide)⟩
end Orr
namespace Orr
def Zqr (s m:Pt×Pt):Bool:=decide (m.1.id≠s.1.id) || decide (m.2.id≠s.2.id)
end Orr
namespace Orq
open Orr Go
theorem Qqy {p:List Int} {a a':Tm} (h:∀ q,Fe a q=Fe a' q) {o:Option Tm} (hn:Sw p a o):Sw p a' o:=by
 have e:Fe a=Fe a':=funext h;unfold Sw Leq Pj at *;rw [<-e]; exact hn
theorem Qy8 {a b:Tm} (ha:Cut (Fe a)) (hb:Cut (Fe b)) (h:¬Pj a b) (h':¬Pj b a):∀ q,Fe a q=Fe b q:=by
 rcases tri ha hb with h1 | h1 | h1
 ·exact absurd h1 h
 ·exact h1
 ·exact absurd h1 h'
theorem Q2x {a b b':Tm} (h:∀ q,Fe b q=Fe b' q):Pj a b↔Pj a b':=by
 unfold Pj; simp only [h]
theorem Qbg {a b b':Tm} (h:∀ q,Fe b q=Fe b' q):Pj b a↔Pj b' a:=by
 unfold Pj; simp only [h]
theorem Oi {p:List Int} {a:Tm} (ha:Va a) {t t':Tm} (h:Sw p a (some t)) (h':Sw p a (some t')):∀ q,Fe t q=Fe t' q:=by
 obtain ⟨_,v,l,s,s0,h4,h5⟩:=h;obtain ⟨_,v',l',s',s0',h4',h5'⟩:=h';have es:s=s':=Qe5 (h4 _ ha.cut (λ_ h=>h) l) (h4' _ ha.cut (λ_ h=>h) l');refine Qy8 v.cut v'.cut (λhlt=>?_) λhlt=>?_
 ·have:=Qe5 (h4' _ v.cut (Qgp ha.cut v.cut (Qqr ha.cut v.cut l)) hlt) h5;omega
 ·have:=Qe5 (h4 _ v'.cut (Qgp ha.cut v'.cut (Qqr ha.cut v'.cut l')) hlt) h5';omega
theorem Pq {p:List Int} {a:Tm} (ha:Va a) {t:Tm} (h:Sw p a (some t)) (h':Sw p a none):False:=by
 obtain ⟨h1,v,l,s,s0,h4,h5⟩:=h;rcases h' with h' | ⟨s',s0',h'⟩
 ·exact h1 h'
 ·have e1:=Qe5 (h' _ ha.cut λ_ h=>h) (h4 _ ha.cut (λ_ h=>h) l);have e2:=Qe5 (h' _ v.cut (Qgp ha.cut v.cut (Qqr ha.cut v.cut l))) h5;omega
structure Quiet {β:Type} (Bc:Tm->List Ct) (Br:Tm->β) (a b:Tm):Prop where
 va:Va a
 vb:Va b
 le:¬Pj b a
 n:∀ x∈Bc a,∃ o,Sw x.p a o/\∀ u,o=some u->Pj b u
section
variable {β:Type} {Bc:Tm->List Ct} {Br:Tm->β} (S:Stab Bc Br)
include S
theorem Quiet.same {a b:Tm} (h:Quiet Bc Br a b):Bc b=Bc a/\Br b=Br a:=by
 refine S.st a b h.va h.vb λx hx=>?_
 obtain ⟨o,o1,o2⟩:=h.n x hx;exact Qnv (S.ok.p _ h.va _ hx).dp h.va h.vb h.le o1 o2
theorem Qo3 {a b:Tm} (ha:Va a) (hb:Va b) (h:∀ q,Fe a q=Fe b q):Quiet Bc Br a b:=by
 refine ⟨ha,hb,λh'=>Qda hb.cut hb.cut ((Q2x h).1 h') ((Q2x h).1 h'),λx hx=>?_⟩;obtain ⟨r,_,r2,_⟩:=Qlk (S.ok.p _ ha _ hx) ha;refine ⟨r,r2,λu hu=>?_⟩;subst hu;obtain ⟨q,q1,q2⟩:=r2.2.2.1;exact ⟨q,by rw [<-h]; exact q1,q2⟩
theorem Q4e {t:Rat} {a:Tm} {E:List Tm} (hE:Evs Bc t a E):∀ {b:Tm} {E':List Tm},Quiet Bc Br a b->Evs Bc t b E'->E.length=E'.length:=by
 induction hE with
 |
  @nil a h =>
  intro b E' hq hE';have hs:=(Quiet.same S hq).1;cases hE' with
  | nil _=>rfl
  |
   cons he h1 h2 h3 h4 h5 =>
   exfalso;obtain ⟨x,hx,hx2⟩:=h4;rw [hs] at hx;obtain ⟨o,o1,o2⟩:=h x hx;obtain ⟨o',o1',o2'⟩:=hq.n x hx;cases o with
   |
    none =>
    cases o' with
    | none=>exact Pq hq.vb hx2 (Ib hq.va.cut hq.vb.cut hq.le o1' o2')
    | some u=>exact Pq hq.va o1' o1
   |
    some u =>
    cases o' with
    | none=>exact Pq hq.va o1 o1'
    |
     some u' =>
     have e1:=Oi hq.va o1 o1';have e2:=Oi hq.vb (Ib hq.va.cut hq.vb.cut hq.le o1' o2') hx2;obtain ⟨q,q1,q2⟩:=o2 u rfl;exact h2 ⟨q,q1,by rw [<-e2,<-e1]; exact q2⟩
 |
  @cons a e E he h1 h2 h3 h4 h5 ih =>
  intro b E' hq hE';have hs:=(Quiet.same S hq).1;have nx:∀ x∈Bc a,∀ u,Sw x.p a (some u)->Pj b u/\Sw x.p b (some u):=λx hx u hu=>by
   obtain ⟨o',o1',o2'⟩:=hq.n x hx;cases o' with
   | none=>exact (Pq hq.va hu o1').elim
   |
    some u' =>
    have e1:=Oi hq.va o1' hu;have hb':=o2' u' rfl;have hb2:Pj b u:=by obtain ⟨q,q1,q2⟩:=hb'; exact ⟨q,q1,by rw [<-e1]; exact q2⟩
    exact ⟨hb2,Ib hq.va.cut hq.vb.cut hq.le hu λv hv=>by injection hv with hv; subst hv; exact hb2⟩
  obtain ⟨x0,hx0,hn0⟩:=h4;obtain ⟨hb0,hnb0⟩:=nx x0 hx0 e hn0;cases hE' with
  |
   nil h' =>
   exfalso;obtain ⟨o,o1,o2⟩:=h' x0 (by rw [hs]; exact hx0);cases o with
   | none=>exact Pq hq.vb hnb0 o1
   |
    some u =>
    have e1:=Oi hq.vb o1 hnb0;obtain ⟨q,q1,q2⟩:=o2 u rfl;exact h2 ⟨q,q1,by rw [<-e1]; exact q2⟩
  |
   @cons _ e' E'' he' h1' h2' h3' h4' h5' =>
   obtain ⟨x1,hx1,hn1⟩:=h4';rw [hs] at hx1;have a1:¬Pj e' e:=λhlt=>by
    obtain ⟨o,o1,o2⟩:=h3 x1 hx1;cases o with
    |
     none =>
     obtain ⟨o',o1',o2'⟩:=hq.n x1 hx1;cases o' with
     | none=>exact Pq hq.vb hn1 (Ib hq.va.cut hq.vb.cut hq.le o1' o2')
     | some u=>exact Pq hq.va o1' o1
    |
     some u =>
     have e2:=Oi hq.vb (nx x1 hx1 u o1).2 hn1;exact o2 u rfl ((Qbg e2).2 hlt)
   have a2:¬Pj e e':=λhlt=>by
    obtain ⟨o,o1,o2⟩:=h3' x0 (by rw [hs]; exact hx0);cases o with
    | none=>exact Pq hq.vb hnb0 o1
    |
     some u =>
     have e2:=Oi hq.vb o1 hnb0;exact o2 u rfl ((Qbg e2).2 hlt)
   have:=ih (Qo3 S he he' (Qy8 he.cut he'.cut a2 a1)) h5';simp [this]
theorem Q02 {t1 t2:Rat} (h12:t1<=t2) (ht:Va (tq t1)) {a:Tm} {E1:List Tm} (h:Evs Bc t1 a E1):∀ {E2 E:List Tm},Va a->¬Pj (tq t1) a->Evs Bc t2 (tq t1) E2->Evs Bc t2 a E->E.length=E1.length+E2.length:=by
 have lt12:∀ {u:Tm},Pj (tq t2) u->Pj (tq t1) u:=λ⟨q,q1,q2⟩=>⟨q,by
  rw [Ir] at q1 ⊢;rcases Tx t1 q with ⟨e,h⟩ | ⟨e,h⟩ | ⟨e,h⟩ <;> rcases Tx t2 q with ⟨e',h'⟩ | ⟨e',h'⟩ | ⟨e',h'⟩ <;> grind,q2⟩
 induction h with
 |
  @nil a h =>
  intro E2 E ha hle h2 h';have:=Q4e S h' ⟨ha,ht,hle,h⟩ h2;simp [this]
 |
  @cons a e E1 he b1 b2 b3 b4 b5 ih =>
  intro E2 E ha hle h2 h';obtain ⟨x0,hx0,hn0⟩:=b4;cases h' with
  |
   nil g =>
   exfalso;obtain ⟨o,o1,o2⟩:=g x0 hx0;cases o with
   | none=>exact Pq ha hn0 o1
   |
    some u =>
    have e1:=Oi ha o1 hn0;obtain ⟨q,q1,q2⟩:=lt12 (o2 u rfl);exact b2 ⟨q,q1,by rw [<-e1]; exact q2⟩
  |
   @cons _ e' E'' he' c1 c2 c3 c4 c5 =>
   obtain ⟨x1,hx1,hn1⟩:=c4;have a1:¬Pj e' e:=λhlt=>by
    obtain ⟨o,o1,o2⟩:=b3 x1 hx1;cases o with
    | none=>exact Pq ha hn1 o1
    | some u=>exact o2 u rfl ((Qbg (Oi ha o1 hn1)).2 hlt)
   have a2:¬Pj e e':=λhlt=>by
    obtain ⟨o,o1,o2⟩:=c3 x0 hx0;cases o with
    | none=>exact Pq ha hn0 o1
    | some u=>exact o2 u rfl ((Qbg (Oi ha o1 hn0)).2 hlt)
   have eq:=Qy8 he'.cut he.cut a1 a2;have hE:∃ E3,Evs Bc t2 e E3/\E3.length=E''.length:=by
    have hs:=(Quiet.same S (Qo3 S he' he eq)).1;cases c5 with
    | nil g=>exact ⟨[],.nil λx hx=>by
     rw [hs] at hx;obtain ⟨o,o1,o2⟩:=g x hx;exact ⟨o,Qqy eq o1,o2⟩,rfl⟩
    |
     @cons _ f F hf d1 d2 d3 d4 d5 =>
     refine ⟨f::F,.cons hf ((Qbg eq).1 d1) d2 (λx hx=>?_) ?_ d5,rfl⟩
     ·rw [hs] at hx;obtain ⟨o,o1,o2⟩:=d3 x hx;exact ⟨o,Qqy eq o1,o2⟩
     ·obtain ⟨x,hx,hxn⟩:=d4;exact ⟨x,by rw [hs]; exact hx,Qqy eq hxn⟩
   obtain ⟨E3,h3,h4⟩:=hE;have:=ih he b2 h2 h3;simp only [Q7];omega
end
theorem Zgy {p:List Int} (h:Cp p):(tms p).length<=67:=by
 obtain ⟨l,l1,l2,_⟩:=Qbi h;unfold tms; rw [l1]; exact l2
theorem Q20:∀ {Ps:List (List Int)},(∀ p∈Ps,Cp p)->(Ps.flatMap tms).length≤67*Ps.length
 | [],_=>Qh _
 |
  p::Ps,h=>by
  have h1:=Zgy (h p (by simp));have h2:=Q20 (Ps:=Ps) λq hq=>h q (Qj _ hq)
  rw [J0,Q4,Q7]; omega
theorem Zmy (T:List Tm) (a:Tm):mu T a<=T.length:=V0 _ _
theorem Zip {β:Type} {Bc:Tm->List Ct} {Br:Tm->β} (S:Stab Bc Br) {Ps:List (List Int)} (hP:∀ p∈Ps,Cp p) (hPs:∀ a,Va a->∀ x∈Bc a,x.p∈Ps) (hl:Ps.length≤1000000) {t:Rat} (ht:Qs 400000 t) {c:Cr} {r:β} (hS:KSt Bc Br c r) (h:Fe c.now t≤0) :
 ∃ (K:Nat) (c':Cr) (E:List Tm),K<=67000001/\goF Bc Br t K c r 0=some (c',Br (tq t),((E.length:Nat):Int))/\c'.now=tq t/\KSt Bc Br c' (Br (tq t))/\c'.ev=c.ev+((E.length:Nat):Int)/\E.length<=67000000/\Evs Bc t c.now E:=by
 have hm:=Q20 hP;have hmu:=Zmy (Ps.flatMap tms) c.now;have hv:=hS.inv.ok.n;obtain ⟨c',r',E,g1,g2,g3,g4,g5,g6⟩:=Zmn S ht hP hPs (mu (Ps.flatMap tms) c.now) c r 0 (Ql _) hS λh'=>by
  have:=(Qj6 hv.cut).2 h'; omega
 have hr:r'=Br (tq t):=by rw [g3.r,g2]
 rw [hr] at g1 g3;rw [Int.zero_add] at g1;exact ⟨_,c',E,by omega,g1,g2,g3,g4,by omega,g6⟩
theorem Ziw {β:Type} {Bc:Tm->List Ct} {Br:Tm->β} (S:Stab Bc Br) {a:Tm} (ha:Va a):KSt Bc Br ⟨a,(Hi (Bc a)).map fresh,0⟩ (Br a):=by
 refine ⟨⟨⟨ha,λw hw=>?_,?_⟩,λw hw hk=>?_⟩,?_,rfl⟩
 ·obtain ⟨x,hx,rfl⟩:=Zr.1 hw;exact ⟨S.ok.p _ ha x (Qb8 hx),λt ht=>by cases ht⟩
 ·show ((Hi (Bc a)).map fresh).length<=1000;rw [Q6,Ll]; exact S.ok.n _ ha
 ·obtain ⟨x,hx,rfl⟩:=Zr.1 hw;cases hk
 ·show ((Hi (Bc a)).map fresh).map (·.c)=Hi (Bc a);rw [List.map_map];show (Hi (Bc a)).map (λx=>x)=_;rw [List.map_id']
end Orq
namespace Orr
open Go Go.Proofs Orq
set_option maxRecDepth 10000
end Orr
namespace Orr
open Go Go.Proofs
set_option maxRecDepth 10000
theorem Qz7 {p q:List Int} (hp:Bd 19000000 p) (hq:Bd 19000000 q) (hlp:p.length<=1000000) (hlq:q.length<=1000000):Ut Tryz.prog 187 [.one (rp (zp p)),.one (rp (zp q))] [.one (rp (zp (Ak p q)))]:=by
 have h:=Qwu (Ox (Us hp (by decide)) (by decide)) (Ox (Us hq (by decide)) (by decide)) (by rw [Sk]; exact hlp) (by rw [Sk]; exact hlq);rwa [Q2j] at h
theorem Qxi (p:List Int) (q:Rat):Tf (sgq q) p=Mx p q:=rfl
end Orr
namespace Orr
def E6 (l:List (List (List Int))):List (List LV):=l.map λr=>[.row (r.map λp=>[pl p])]
abbrev Qck (r:List (List Int)):List (List LV):=r.map λp=>[pl p]
theorem Qb2 (l:List (List (List Int))):(E6 l).length=l.length:=by simp [E6]
def Qaz (i:Nat) (rows:List (List (List Int))):Nat->List (List (List Int))
 | 0=>[]
 | j+1=>if j=i then Qaz i rows j else Qaz i rows j++[(rows.getD j []).drop 1]
def Qci (rows:List (List (List Int))) (i:Nat):List (List (List Int)):=Qaz i rows rows.length
def Cd (f:Nat->List Int) (rows:List (List (List Int))):Nat->List Int
 | 0=>[]
 |
  i+1=>if ((rows.getD i []).getD 0 []).length=0 then Cd f rows i else
  if i % 2=0 then Ak (Cd f rows i) (Fw ((rows.getD i []).getD 0 []) (f i)) else Pw (Cd f rows i) (Fw ((rows.getD i []).getD 0 []) (f i))
def Dn:Nat->List (List (List Int))->List Int
 | 0,_=>[1]
 | k+1,rows=>Cd (λi=>Dn k (Qci rows i)) rows (k+1)
structure Sq (s:Nat) (ds:List Nat) (k w:Nat) (rows:List (List (List Int))):Prop where
 l:rows.length=k
 w:∀ r∈rows,r.length=w
 t:∀ r∈rows,∀ p∈r,Uz p
 b:∀ r∈rows,∀ p∈r,Bd s p
 n:∀ r∈rows,∀ (j:Nat) (p:List Int),r[j]? = some p->p.length≤ds.getD j 0+1
theorem Qli {i:Nat} {rows:List (List (List Int))}:∀ {j:Nat} {r:List (List Int)},j≤rows.length->r∈Qaz i rows j->∃ q∈rows,r=q.drop 1
 | 0,r,_,h=>by simp [Qaz] at h
 |
  j+1,r,hj,h=>by
  simp only [Qaz] at h
  split at h
  ·exact Qli (by omega) h
  ·rcases Qu.1 h with h | h
   ·exact Qli (by omega) h
   ·rw [Qk.1 h];exact ⟨rows.getD j [],Qa (i:=j) (by rw [Qg,Qe (by omega)]; rfl),rfl⟩
theorem Qlh {i:Nat} {rows:List (List (List Int))}:∀ (j:Nat),(Qaz i rows j).length=if i<j then j-1 else j
 | 0=>rfl
 |
  j+1=>by
  have ih:=Qlh (i:=i) (rows:=rows) j;simp only [Qaz]
  split
  ·rename_i e; subst e; rw [ih,if_neg (by omega),if_pos (by omega)]; omega
  ·rw [Q4,ih,Yu]
   split <;> split <;> omega
theorem Sq.min {s d k w:Nat} {ds:List Nat} {rows:List (List (List Int))} (h:Sq s (d::ds) (k+1) (w+1) rows) {i:Nat} (hi:i<k+1):Sq s ds k w (Qci rows i):=by
 have hl:=h.l;have hm:∀ {r:List (List Int)},r∈Qci rows i->∃ q∈rows,r=q.drop 1:=λh=>Qli (Ql _) h
 refine ⟨by unfold Qci; rw [Qlh,hl,if_pos hi]; omega,λr hr=>?_,λr hr p hp=>?_,λr hr p hp=>?_,λr hr j p hp=>?_⟩
 ·obtain ⟨q,hq,rfl⟩:=hm hr;rw [X7,h.w q hq]; omega
 all_goals obtain ⟨q,hq,rfl⟩:=hm hr
 ·exact h.t q hq p (Zc hp)
 ·exact h.b q hq p (Zc hp)
 ·rw [Z6] at hp;have:=h.n q hq (1+j) p hp;rw [Ja 1 j] at this;exact this
theorem Sq.at {s d k w:Nat} {ds:List Nat} {rows:List (List (List Int))} (h:Sq s (d::ds) k (w+1) rows) {i:Nat} (hi:i<k):∃ p r,rows[i]? = some (p::r)/\(rows.getD i []).getD 0 []=p/\Uz p/\Bd s p/\p.length<=d+1:=by
 obtain ⟨r,hr⟩:=gxE (l:=rows) (i:=i) (by rw [h.l]; exact hi);have hm:=Qa hr;cases r with
 | nil=>have:=h.w _ hm; simp at this
 |
  cons p r =>
  have e:rows.getD i []=p::r:=by rw [Qg,hr]; rfl
  refine ⟨p,r,hr,by rw [e]; rfl,h.t _ hm p (by simp),h.b _ hm p (by simp),h.n _ hm 0 p rfl⟩
theorem Qp5 {s d k w:Nat} {ds:List Nat} {f:Nat->List Int} {rows:List (List (List Int))} {B L:Nat} (h:Sq s (d::ds) k (w+1) rows) (hn:d<31) (hf:∀ i,i<k->Bd B (f i)/\(f i).length<=L+1):∀ i,i<=k->Uz (Cd f rows i)/\Bd (s+B+5+i) (Cd f rows i)/\(Cd f rows i).length<=d+L+1
 | 0,_=>⟨rfl,λz hz=>(by cases hz),Qh _⟩
 |
  i+1,hi=>by
  obtain ⟨h1,h2,h3⟩:=Qp5 h hn hf i (by omega);obtain ⟨p,r,_,e,t,b,l⟩:=h.at (i:=i) (by omega);obtain ⟨f1,f2⟩:=hf i (by omega);have hp1:Bd (s+B+5) (Fw p (f i)):=Qdu b f1 (by omega);have hp2:=Qau p (f i);simp only [Cd];rw [e]
  split
  ·exact ⟨h1,Us h2 (by omega),h3⟩
  ·split
   ·exact ⟨Ft _ _,Us (Qph h2 hp1) (by omega),Qc (Qlf _ _) (by omega)⟩
   ·exact ⟨Ft _ _,Us (Iv h2 hp1) (by omega),Qc (L8 _ _) (by omega)⟩
theorem Qq4 {s:Nat}:∀ (k:Nat) (ds:List Nat) (rows:List (List (List Int))),k<=4->ds.length=k->ds.sum<31->Sq s ds k k rows->Uz (Dn k rows)/\Bd (k*(s+10)+1) (Dn k rows)/\(Dn k rows).length<=ds.sum+1
 | 0,ds,rows,_,_,_,_=>⟨rfl,λz hz=>(by simp [Dn] at hz; subst hz; rw [J8]; decide),by simp [Dn]⟩
 | k+1,[],rows,_,hl,_,_=>by simp at hl
 |
  k+1,d::ds,rows,hk,hl,hd,h=>by
  rw [Kf] at hd;have ih:=λi (hi:i<k+1)=>Qq4 k ds (Qci rows i) (by omega) (by simpa using hl) (by omega) (h.min hi)
  obtain ⟨h1,h2,h3⟩:=Qp5 (f:=λi=>Dn k (Qci rows i)) (B:=k*(s+10)+1) (L:=ds.sum) h (by omega) (λi hi=>⟨(ih i hi).2.1,(ih i hi).2.2⟩) (k+1) (Ql _);have e1:(k+1)*(s+10)=k*(s+10)+(s+10):=Z7 ..;rw [Kf];exact ⟨h1,Us h2 (by omega),h3⟩
def Ec (a b c:Crv):List (List (List Int)):=[[a.x,a.y,[a.d]],[b.x,b.y,[b.d]],[c.x,c.y,[c.d]]]
def Ha (a b c:Crv):List Int:=Dn 3 (Ec a b c)
end Orr
namespace Orr
open Go Go.Proofs Orq
set_option maxRecDepth 10000
theorem gz {P:Program} [Mo P] {n:Nat} {Q:Exit->Sg->List OB->Prop} {L L':Sg} {B B':List OB} (i:Nat) {it:List It} (hs:Ti it=true) (h:Q45 [i] L B=some (L',B')) (k:AK P n Q it L' B'):AK P n Q it L B:=AK.sub (Qe0 h) hs k
theorem Ql2 {r:List (List Int)} {i:Nat} {p:List Int} (h:r[i]? = some p):(Qck r)[i]? = some [pl p]:=Gx h
theorem Lj {l:List (List (List Int))} {i:Nat} {r:List (List Int)} (h:l[i]? = some r):(E6 l)[i]? = some [.row (Qck r)]:=Gx h
theorem Zi2 {r:List (List Int)} (ht:∀ p∈r,Uz p) (hb:∀ p∈r,Bd 1000000 p) (hl:∀ p∈r,p.length≤1000000) (hn:r.length≤1000):Ut Tryz.prog 160 [.one (.row (Qck r))] [.one (.row (Qck r))]:=by
 have hrl:(Qck r).length=r.length:=by simp
 refine Gv Tryz.func160 rfl ?_;refine go tt [.o 3 24 1] rfl trivial ?_;refine lp (S:=Nat) 1 (λL1 i=>(8,.v (.one (.int .i64 (i:Int))))::(3,.v (.one (.orow 0 1 none)))::L1) (λi=>[.row false 24 1 (Qck (r.take i))]) (λi=>r.length-i) (λi=>i<=r.length) 0 (Qh _) rfl (λ_ _=>rfl) rfl λi hi=>?_
 by_cases h:i<r.length
 ·obtain ⟨p,hp⟩:=gxE (l:=r) (i:=i) h;have hm:=Qa hp;have hs:∀ y∈[[pl p]],y.length=1:=λy hy=>by rw [Qk.1 hy]; rfl
  have e:Qck (r.take (i+1))=Qck (r.take i)++[[pl p]]:=by rw [Zs,hp]; simp
  refine go tt [.t (decide_eq_true (by omega)),.x (Ql2 hp),.c [] (Hm (ht p hm) (by have:=hl p hm; omega) (Us (hb p hm) (by decide))),.s (sz:=1) hs] rfl (by simp [Ur] <;> omega) ?_;exact rd (i+1) (by omega) h (by rw [e]; rfl)
 ·obtain rfl:i=r.length:=by omega
  rw [Qy];exact en tt [.f (decide_eq_false (by omega))] rfl rfl trivial
theorem Zmf {s k w:Nat} {ds:List Nat} {rows:List (List (List Int))} (h:Sq s ds k k rows) (_hw:w=k) (hk:k<=4):Ut Tryz.prog 206 [.one (.row (E6 rows))] [.one (.bool true)]:=by
 have hrl:=Qb2 rows;have hl:=h.l;refine Gv Tryz.func206 rfl ?_;refine go tt [] rfl trivial ?_;refine lp (S:=Nat) 0 (λL1 i=>(7,.v (.one (.int .i64 (i:Int))))::L1) (λ_=>[]) (λi=>rows.length-i) (λi=>i<=rows.length) 0 (Qh _) rfl (λ_ _=>rfl) rfl λi hi=>?_
 by_cases hlt:i<rows.length
 ·obtain ⟨r,hr⟩:=gxE (l:=rows) (i:=i) hlt;have hw:=h.w r (Qa hr);have hql:(Qck r).length=r.length:=by simp
  refine go tt [.t (decide_eq_true (by omega)),.x (Lj hr),.f (decide_eq_false (λh=>h (by omega)))] rfl (by simp [Ur] <;> omega) ?_;exact rd (i+1) (by omega) hlt rfl
 ·exact en tt [.f (decide_eq_false (by omega))] rfl (by rw [decide_eq_true (by omega:((E6 rows).length:Int)<=4)]) trivial
theorem Zd4 {s k w:Nat} {ds:List Nat} {rows:List (List (List Int))} (h:Sq s ds k w rows) (hs:s<=1000000) (hk:k<=4) (hw:w<=4) (hd:∀ j,ds.getD j 0<=1000) (i:Nat):Ut Tryz.prog 238 [.one (.int .i64 (i:Int)),.one (.int .i64 0),.one (.row (E6 rows))] [.one (.row (E6 (Qci rows i)))]:=by
 have hrl:=Qb2 rows;have hl:=h.l;have hml:∀ j,j<=rows.length->(E6 (Qaz i rows j)).length<=4:=λj hj=>by
  rw [Qb2,Qlh]; split <;> omega
 refine Gv Tryz.func238 rfl ?_;refine go tt [.o 7 227 1] rfl trivial ?_;refine lp (S:=Nat) 1 (λL1 j=>(15,.v (.one (.int .i64 (j:Int))))::(7,.v (.one (.orow 0 1 none)))::L1) (λj=>[.row false 227 1 (E6 (Qaz i rows j))]) (λj=>rows.length-j) (λj=>j<=rows.length) 0 (Qh _) rfl (λ_ _=>rfl) rfl λj hj=>?_
 have hmlj:=hml j hj;by_cases hlt:j<rows.length
 ·obtain ⟨r,hr⟩:=gxE (l:=rows) (i:=j) hlt;have hm:=Qa hr;have hw:=h.w r hm;have hql:(Qck r).length=r.length:=by simp
  by_cases hij:j=i
  ·have e:Qaz i rows (j+1)=Qaz i rows j:=by simp only [Qaz]; rw [if_pos hij]
   refine go tt [.t (decide_eq_true (by omega)),.x (Lj hr),.t (decide_eq_true (by omega))] rfl (by simp [Ur] <;> omega) ?_;exact rd (j+1) (by omega) hlt (by rw [e]; rfl)
  ·have e:Qaz i rows (j+1)=Qaz i rows j++[r.drop 1]:=by
    simp only [Qaz]; rw [if_neg hij,Qg,hr]; rfl
   refine go tt [.t (decide_eq_true (by omega)),.x (Lj hr),.f (decide_eq_false (by omega)),.o 10 24 1] rfl (by simp [Ur]) ?_;refine lp (S:=Nat) 2 (λL1 c=>(25,.v (.one (.int .i64 (c:Int))))::(10,.v (.one (.orow 1 1 none)))::L1) (λc=>[.row false 227 1 (E6 (Qaz i rows j)),.row false 24 1 (Qck ((r.take c).drop 1))]) (λc=>r.length-c) (λc=>c<=r.length) 0 (Qh _) rfl (λ_ _=>rfl) rfl λc hc=>?_
   by_cases hcl:c<r.length
   ·obtain ⟨p,hp⟩:=gxE (l:=r) (i:=c) hcl;have hpm:=Qa hp;by_cases h0:c=0
    ·subst h0;refine go tt [.t (decide_eq_true (by omega)),.x (Ql2 hp),.f (decide_eq_false (by simp))] rfl (by simp [Ur]) ?_;exact rd 1 (by omega) hcl (by rw [Zs,hp]; rfl)
    ·have hs1:∀ y∈[[pl p]],y.length=1:=λy hy=>by rw [Qk.1 hy]; rfl
     have e2:Qck ((r.take (c+1)).drop 1)=Qck ((r.take c).drop 1)++[[pl p]]:=by
      rw [Zs,hp,Vu (by rw [Qr]; omega)]; simp
     refine go tt [.t (decide_eq_true (by omega)),.x (Ql2 hp),.t (decide_eq_true (by omega)),.c [] (Hm (h.t r hm p hpm) (by have:=h.n r hm c p hp; have:=hd c; omega) (Us (h.b r hm p hpm) (by omega))),.s (sz:=1) hs1] rfl (by simp [Ur] <;> omega) ?_;exact rd (c+1) (by omega) hcl (by rw [e2]; rfl)
   ·obtain rfl:c=r.length:=by omega
    rw [Qy];have hs1:∀ y∈[[LV.row (Qck (r.drop 1))]],y.length=1:=λy hy=>by rw [Qk.1 hy]; rfl
    refine go tt [.f (decide_eq_false (by omega))] rfl trivial ?_;refine gz 1 rfl rfl ?_;refine go tt [.s (sz:=1) hs1] rfl (by simp [Ur] <;> omega) ?_;exact rd (j+1) (by omega) hlt (by rw [e]; simp [E6]; rfl)
 ·obtain rfl:j=rows.length:=by omega
  exact en tt [.f (decide_eq_false (by omega))] rfl rfl trivial
theorem Qhm:∀ (ds:List Nat) (j:Nat),ds.getD j 0<=ds.sum
 | [],j=>by simp
 | d::ds,0=>by simp
 |
  d::ds,j+1=>by
  have:=Qhm ds j;rw [Kf];show ds.getD j 0<=_;omega
theorem Zhq {s:Nat} (hs:s<=100000):∀ (k:Nat) (ds:List Nat) (rows:List (List (List Int))),k<=4->ds.length=k->ds.sum<31->Sq s ds k k rows->Ut Tryz.prog 207 [.one (.row (E6 rows))] [pr (Dn k rows)]
 |
  0,ds,rows,_,_,_,h=>by
  have e:=Qi h.l;subst e;have co:=Qzu (p:=[1]) (by decide) (by decide);exact w tt Tryz.func207 rfl [.t rfl,.c [] co] rfl rfl trivial
 | k+1,[],_,_,hl,_,_=>by simp at hl
 |
  k+1,d::ds,rows,hk,hl,hd,h=>by
  rw [Kf] at hd;have hl':ds.length=k:=by simpa using hl
  have hrl:=Qb2 rows;have hrn:=h.l;have hmin:=λi (hi:i<k+1)=>h.min hi
  have ih:=λi (hi:i<k+1)=>Zhq hs k ds (Qci rows i) (by omega) hl' (by omega) (hmin i hi)
  have hok:=λi (hi:i<k+1)=>Qq4 k ds (Qci rows i) (by omega) hl' (by omega) (hmin i hi)
  have hb:k*(s+10)+1<=500000:=by
   have:k*(s+10)<=4*(100010):=Zf (by omega) (by omega);omega
  have hds:=Qp5 (f:=λi=>Dn k (Qci rows i)) (B:=k*(s+10)+1) (L:=ds.sum) h (by omega) (λi hi=>⟨(hok i hi).2.1,(hok i hi).2.2⟩);have cm:=Zd4 h (by omega) hk hk (λj=>by have:=Qhm (d::ds) j; rw [Kf] at this; omega);show Ut Tryz.prog 207 [.one (.row (E6 rows))] [pr (Cd (λi=>Dn k (Qci rows i)) rows (k+1))];obtain ⟨f,hf⟩:=nmE (λi=>Dn k (Qci rows i));rw [<-hf] at hds ⊢;have hfi:∀ i,f i=Dn k (Qci rows i):=λi=>by rw [hf]
  refine Gv Tryz.func207 rfl ?_;refine go tt [.f (decide_eq_false (by omega)),.z 3] rfl trivial ?_;refine lp (S:=Nat) 0 (λL1 i=>(14,.v (.one (.int .i64 (i:Int))))::(3,.v (pr (Cd f rows i)))::L1) (λ_=>[]) (λi=>k+1-i) (λi=>i<=k+1) 0 (Qh _) rfl (λ_ _=>rfl) rfl λi hi=>?_
  obtain ⟨d1,d2,d3⟩:=hds i hi;by_cases hlt:i<k+1
  ·obtain ⟨p,r,hr,e,t,b,l⟩:=h.at hlt;have hx0:(Qck (p::r))[0]? = some [pl p]:=rfl;have By:(p.map Gw).length=p.length:=by simp
   have cn:=Hm t (by omega) (Us b (by omega));by_cases h0:p.length=0
   ·have es:Cd f rows (i+1)=Cd f rows i:=by simp only [Cd]; rw [e,if_pos h0]
    refine go tt [.t (decide_eq_true (by omega)),.x (Lj hr),.x hx0,.c [] cn,.t (decide_eq_true (by omega))] rfl (by simp [Ur] <;> omega) ?_;exact rd (i+1) (by omega) hlt (by rw [es]; rfl)
   ·obtain ⟨k1,k2,k3⟩:=hok i hlt;have ci:=ih i hlt;have cp:=Q6r (p:=p) (q:=f i) t (by rw [hfi]; exact k1) (by omega) (by rw [hfi]; omega) b (by rw [hfi]; exact k2) (by omega);have hmb:Bd (s+(k*(s+10)+1)+5) (Fw p (f i)):=Qdu b (by rw [hfi]; exact k2) (by omega);have hml:=Qau p (f i);have hfl:(f i).length<=ds.sum+1:=by rw [hfi]; exact k3
    rw [<-hfi] at ci;by_cases h2:i % 2=0
    ·have es:Cd f rows (i+1)=Ak (Cd f rows i) (Fw p (f i)):=by simp only [Cd]; rw [e,if_neg h0,if_pos h2]
     refine go tt [.t (decide_eq_true (by omega)),.x (Lj hr),.x hx0,.c [] cn,.f (decide_eq_false (by omega)),.x hx0,.c [] (cm i),.c [] ci,.c [] cp,.r 34 (eI (b:=((i % 2:Nat):Int)) rfl),.t (decide_eq_true (by omega)),.c [] (Q6o (p:=Cd f rows i) (q:=Fw p (f i)) (by omega) (by omega) (Us d2 (by omega)) (Us hmb (by omega)))] rfl (by simp [Ur] <;> omega) ?_;exact rd (i+1) (by omega) hlt (by rw [es]; rfl)
    ·have es:Cd f rows (i+1)=Pw (Cd f rows i) (Fw p (f i)):=by simp only [Cd]; rw [e,if_neg h0,if_neg h2]
     refine go tt [.t (decide_eq_true (by omega)),.x (Lj hr),.x hx0,.c [] cn,.f (decide_eq_false (by omega)),.x hx0,.c [] (cm i),.c [] ci,.c [] cp,.r 34 (eI (b:=((i % 2:Nat):Int)) rfl),.f (decide_eq_false (by omega)),.c [] (Qjs (p:=Cd f rows i) (q:=Fw p (f i)) (by omega) (by omega) (Us d2 (by omega)) (Us hmb (by omega)))] rfl (by simp [Ur] <;> omega) ?_;exact rd (i+1) (by omega) hlt (by rw [es]; rfl)
  ·obtain rfl:i=k+1:=by omega
   exact en tt [.f (decide_eq_false (by omega))] rfl rfl trivial
theorem Zl1 {s:Nat} (hs:s<=100000) {k:Nat} {ds:List Nat} {rows:List (List (List Int))} (hk:k<=4) (hl:ds.length=k) (hd:ds.sum<31) (h:Sq s ds k k rows):Ut Tryz.prog 161 [.one (.row (E6 rows))] [pr (Dn k rows),.one (.int .i64 0)] :=
 w tt Tryz.func161 rfl [.c [] (Zmf h rfl hk),.f rfl,.c [] (Zhq hs k ds rows hk hl hd h)] rfl rfl trivial
theorem Qwr {k:Crv} (hk:Sc k):Ut Tryz.prog 159 [.agg (cl k)] [.one (.row (Qck [k.x,k.y,[k.d]]))]:=by
 have h0:k.d≠0:=by have:=hk.n.2.2.1; omega
 have td:Uz [k.d]:=by unfold Uz; simp [trim,h0]
 have cd:=Zi2 (r:=[k.x,k.y,[k.d]]) (λp hp=>by
  rcases Qo.1 hp with rfl | hp
  ·exact hk.n.1
  rcases Qo.1 hp with rfl | hp
  ·exact hk.n.2.1
  ·rw [Qk.1 hp]; exact td) (λp hp=>by
  rcases Qo.1 hp with rfl | hp
  ·exact Us hk.c.x (by decide)
  rcases Qo.1 hp with rfl | hp
  ·exact Us hk.c.y (by decide)
  ·rw [Qk.1 hp];intro z hz; rw [Qk.1 hz]; exact Qc hk.c.d (by decide)) (λp hp=>by
  rcases Qo.1 hp with rfl | hp
  ·have:=hk.c.lx; omega
  rcases Qo.1 hp with rfl | hp
  ·have:=hk.c.ly; omega
  ·rw [Qk.1 hp]; show 1<=1000000; decide) (by show 3<=1000; decide)
 exact w tt Tryz.func159 rfl [.c [] (Qd0 hk.n (hk.c.mono (by decide) (by decide))),.c [] cd] rfl rfl trivial
theorem Qvh {a b c:Crv} (ha:Sc a) (hb:Sc b) (hc:Sc c):Sq 90 [2,2,0] 3 3 (Ec a b c):=by
 have key:∀ k:Crv,Sc k->(∀ p∈[k.x,k.y,[k.d]],Uz p/\Bd 90 p)/\∀ (j:Nat) (p:List Int),[k.x,k.y,[k.d]][j]? = some p->p.length≤[2,2,0].getD j 0+1:=λk hk=>by
  have h0:k.d≠0:=by have:=hk.n.2.2.1; omega
  have td:Uz [k.d]:=by unfold Uz; simp [trim,h0]
  refine ⟨λp hp=>?_,λj p hp=>?_⟩
  ·rcases Qo.1 hp with rfl | hp
   ·exact ⟨hk.n.1,hk.c.x⟩
   rcases Qo.1 hp with rfl | hp
   ·exact ⟨hk.n.2.1,hk.c.y⟩
   ·rw [Qk.1 hp];exact ⟨td,λz hz=>by rw [Qk.1 hz]; exact hk.c.d⟩
  ·match j,hp with
   | 0,hp=>injection hp with hp; subst hp; exact hk.c.lx
   | 1,hp=>injection hp with hp; subst hp; exact hk.c.ly
   | 2,hp=>injection hp with hp; subst hp; exact Ql _
   | j+3,hp=>simp at hp
 have hr:∀ r∈Ec a b c,∃ k:Crv,Sc k/\r=[k.x,k.y,[k.d]]:=λr hr=>by
  rcases Qo.1 hr with rfl | hr
  ·exact ⟨a,ha,rfl⟩
  rcases Qo.1 hr with rfl | hr
  ·exact ⟨b,hb,rfl⟩
  ·rw [Qk.1 hr]; exact ⟨c,hc,rfl⟩
 refine ⟨rfl,λr h=>?_,λr h p hp=>?_,λr h p hp=>?_,λr h j p hp=>?_⟩
 all_goals obtain ⟨k,hk,rfl⟩:=hr r h
 ·rfl
 ·exact ((key k hk).1 p hp).1
 ·exact ((key k hk).1 p hp).2
 ·exact (key k hk).2 j p hp
theorem Qf2 {a b c:Crv} (ha:Sc a) (hb:Sc b) (hc:Sc c):Cp (Ha a b c):=by
 obtain ⟨h1,h2,h3⟩:=Qq4 3 [2,2,0] (Ec a b c) (by decide) rfl (by decide) (Qvh ha hb hc);exact ⟨h1,Qc h3 (by decide),Us h2 (by decide)⟩
theorem Qsq {a b c:Crv} (ha:Sc a) (hb:Sc b) (hc:Sc c):Ut Tryz.prog 119 [.agg (cl a),.agg (cl b),.agg (cl c)] [pr (Ha a b c)]:=by
 have cd:=Zl1 (by decide) (k:=3) (ds:=[2,2,0]) (by decide) rfl (by decide) (Qvh ha hb hc);exact w tt Tryz.func119 rfl [.c [] (Qwr ha),.c [] (Qwr hb),.c [] (Qwr hc),.c [] cd] rfl rfl trivial
abbrev zrw (r:List (List Int)):List (List LV):=r.map λp=>[rp (zp p)]
def zmt (M:List (List (List Int))):List (List LV):=M.map λr=>[.row (zrw r)]
theorem Qsa (M:List (List (List Int))):(zmt M).length=M.length:=by simp [zmt]
theorem Qsd {r:List (List Int)} {i:Nat} {p:List Int} (h:r[i]? = some p):(zrw r)[i]? = some [rp (zp p)]:=Gx h
theorem Qji {l:List (List (List Int))} {i:Nat} {r:List (List Int)} (h:l[i]? = some r):(zmt l)[i]? = some [.row (zrw r)]:=Gx h
theorem Qxd {α:Type} {R:List α} {j k:Nat} {x:α} (h:R[j]? = some x):(R.take (j+1)).eraseIdx k=if j=k then (R.take j).eraseIdx k else (R.take j).eraseIdx k++[x]:=by
 have hj:=(Qd.1 h).1;have hl:(R.take j).length=j:=by rw [Qr]; omega
 rw [Zs,h,Vo];rcases Vx k j with hk | hk | hk
 ·rw [if_neg (by omega),List.eraseIdx_append_of_lt_length (by omega)]
 ·subst hk;rw [if_pos rfl,Kx (by omega),hl,Jo,Ke (l:=R.take k) (by omega)];show R.take k++[]=_;rw [Zo]
 ·rw [if_neg (by omega),Kx (by omega),hl,Ke (l:=[x]) (by simp; omega),Ke (by omega)]
def G8 (M:List (List (List Int))) (k:Nat):List (List (List Int)):=(M.drop 1).map (·.eraseIdx k)
theorem Qua {M:List (List (List Int))} {i k:Nat} {R:List (List Int)} (h:M[i]? = some R) (h0:0<i):G8 (M.take (i+1)) k=G8 (M.take i) k++[R.eraseIdx k]:=by
 have hi:=(Qd.1 h).1;unfold G8;rw [Zs,h,Vo,Vu (by rw [Qr]; omega),J1]; rfl
theorem Qxx {M:List (List (List Int))} {i k:Nat} (hi:i<=M.length):(G8 (M.take i) k).length=i-1:=by
 unfold G8; rw [List.length_map,List.length_drop,List.length_take]; omega
theorem Q7t {M:List (List (List Int))} {k:Nat} (hn:M.length≤100) (hM:∀ R∈M,R.length≤100):Ut Tryz.prog 287 [.one (.row (zmt M)),.one (.int .i64 0),.one (.int .i64 (k:Int))] [.one (.row (zmt (G8 M k)))]:=by
 have hrl:=Qsa M;refine Gv Tryz.func287 rfl ?_;refine go tt [.o 7 80 1] rfl trivial ?_;refine lp (S:=Nat) 1 (λL1 i=>(13,.v (.one (.int .i64 (i:Int))))::(7,.v (.one (.orow 0 1 none)))::L1) (λi=>[.row false 80 1 (zmt (G8 (M.take i) k))]) (λi=>M.length-i) (λi=>i<=M.length) 0 (Qh _) rfl (λ_ _=>rfl) rfl λi hi=>?_
 have hml:(zmt (G8 (M.take i) k)).length=i-1:=by rw [Qsa,Qxx hi]
 by_cases hlt:i<M.length
 ·obtain ⟨r,hr⟩:=gxE (l:=M) (i:=i) hlt;have hm:=hM r (Qa hr);have hql:(zrw r).length=r.length:=by simp
  by_cases h0:i=0
  ·subst h0;have e:G8 (M.take 1) k=G8 (M.take 0) k:=by unfold G8; simp
   refine go tt [.t (decide_eq_true (by omega)),.t rfl] rfl (by simp [Ur]) ?_;exact rd 1 (by omega) hlt (by rw [e]; rfl)
  ·have e:=Qua (k:=k) hr (by omega);refine go tt [.t (decide_eq_true (by omega)),.f (decide_eq_false (by omega)),.o 9 79 1,.x (Qji hr)] rfl (by simp [Ur] <;> omega) ?_;refine lp (S:=Nat) 2 (λL1 c=>(24,.v (.one (.int .i64 (c:Int))))::(9,.v (.one (.orow 1 1 none)))::L1) (λc=>[.row false 80 1 (zmt (G8 (M.take i) k)),.row false 79 1 (zrw ((r.take c).eraseIdx k))]) (λc=>r.length-c) (λc=>c<=r.length) 0 (Qh _) rfl (λ_ _=>rfl) rfl λc hc=>?_
   have hzl:((r.take c).eraseIdx k).length<=c:=by
    exact Qc (List.eraseIdx_sublist ..).length_le (by rw [Qr]; omega)
   by_cases hcl:c<r.length
   ·obtain ⟨p,hp⟩:=gxE (l:=r) (i:=c) hcl;have e2:=Qxd (k:=k) hp;by_cases hck:c=k
    ·rw [if_pos hck] at e2;refine go tt [.t (decide_eq_true (by omega)),.f (decide_eq_false (by omega))] rfl (by simp [Ur] <;> omega) ?_;exact rd (c+1) (by omega) hcl (by rw [e2]; rfl)
    ·rw [if_neg hck] at e2;have hs1:∀ y∈[[rp (zp p)]],y.length=1:=λy hy=>by rw [Qk.1 hy]; rfl
     refine go tt [.t (decide_eq_true (by omega)),.t (decide_eq_true (by omega)),.x (Qji hr),.x (Qsd hp),.s (sz:=1) hs1] rfl (by simp [Ur] <;> omega) ?_;exact rd (c+1) (by omega) hcl (by rw [e2]; simp [zrw]; rfl)
   ·obtain rfl:c=r.length:=by omega
    rw [Qy];have hs1:∀ y∈[[LV.row (zrw (r.eraseIdx k))]],y.length=1:=λy hy=>by rw [Qk.1 hy]; rfl
    refine go tt [.f (decide_eq_false (by omega))] rfl trivial ?_;refine gz 1 rfl rfl ?_;refine go tt [.s (sz:=1) hs1] rfl (by simp [Ur] <;> omega) ?_;exact rd (i+1) (by omega) hlt (by rw [e]; simp [zmt]; rfl)
 ·obtain rfl:i=M.length:=by omega
  rw [Qy];exact en tt [.f (decide_eq_false (by omega))] rfl rfl trivial
def Qyu (k:Nat) (p:List Int):List Int:=if k % 2=1 then Pd p else p
def Lr (f:List (List (List Int))->List Int) (M:List (List (List Int))):Nat->List Int
 | 0=>[]
 | k+1=>Ak (Lr f M k) (Qyu k (Fw ((M.getD 0 []).getD k []) (f (G8 M k))))
def Qf6:Nat->List (List (List Int))->List Int
 | 0,_=>[1]
 | n+1,M=>Lr (Qf6 n) M (n+1)
structure SqR (s:Nat) (ds:List Nat) (M:List (List (List Int))):Prop where
 l:M.length=ds.length
 w:∀ r∈M,r.length=ds.length
 b:∀ r∈M,∀ p∈r,Bd s p
 n:∀ r∈M,∀ (j:Nat) (p:List Int),r[j]? = some p->p.length≤ds.getD j 0+1
theorem Lm:∀ {ds:List Nat} {k:Nat},k<ds.length->(ds.eraseIdx k).sum+ds.getD k 0=ds.sum
 | [],_,h=>by simp at h
 | d::ds,0,_=>by simp [Ja]
 |
  d::ds,k+1,h=>by
  have:=Lm (ds:=ds) (k:=k) (by simpa using h);simp only [List.eraseIdx_cons_succ,Kf,Q3];omega
theorem SqR.minor {s:Nat} {ds:List Nat} {M:List (List (List Int))} (h:SqR s ds M) {k:Nat} (hk:k<ds.length):SqR s (ds.eraseIdx k) (G8 M k):=by
 have hl:=h.l;unfold G8;refine ⟨by rw [Q6,X7,Je hk]; omega,λr hr=>?_,λr hr p hp=>?_,λr hr j p hp=>?_⟩
 all_goals obtain ⟨q,hq,rfl⟩:=Zr.1 hr
 all_goals have hq:=Zc hq
 ·rw [Je (by rw [h.w q hq]; exact hk),Je hk,h.w q hq]
 ·exact h.b q hq p (List.mem_of_mem_eraseIdx hp)
 ·rw [List.getElem?_eraseIdx] at hp;rw [Qg,List.getElem?_eraseIdx]
  split at hp <;> rename_i hj
  ·rw [if_pos hj,<-Qg]; exact h.n q hq j p hp
  ·rw [if_neg hj,<-Qg]; exact h.n q hq (j+1) p hp
theorem SqR.at {s:Nat} {ds:List Nat} {M:List (List (List Int))} (h:SqR s ds M) {k:Nat} (hk:k<ds.length):∃ r p,M[0]? = some r/\r[k]? = some p/\(M.getD 0 []).getD k []=p/\Bd s p/\p.length<=ds.getD k 0+1:=by
 obtain ⟨r,hr⟩:=gxE (l:=M) (i:=0) (by rw [h.l]; omega);have hm:=Qa hr;obtain ⟨p,hp⟩:=gxE (l:=r) (i:=k) (by rw [h.w r hm]; exact hk);refine ⟨r,p,hr,hp,?_,h.b r hm p (Qa hp),h.n r hm k p hp⟩;rw [Qg (l:=M),hr,Kb,Qg,hp]; rfl
theorem Zgl {k s:Nat} {p:List Int} (h:Bd s p):Bd s (Qyu k p):=by
 unfold Qyu; split
 ·exact Qbn h
 ·exact h
theorem Zbr (k:Nat) (p:List Int):(Qyu k p).length<=p.length:=by
 unfold Qyu; split
 ·exact L6 _
 ·exact Ql _
theorem Qkd {s B:Nat} {ds:List Nat} {f:List (List (List Int))->List Int} {M:List (List (List Int))} (h:SqR s ds M) (hs:ds.sum<64) (hf:∀ k,k<ds.length->Bd B (f (G8 M k))/\(f (G8 M k)).length<=(ds.eraseIdx k).sum+1):∀ i,i<=ds.length->Bd (s+B+7+i) (Lr f M i)/\(Lr f M i).length<=ds.sum+1
 | 0,_=>⟨λz hz=>(by cases hz),Qh _⟩
 |
  i+1,hi=>by
  obtain ⟨h2,h3⟩:=Qkd h hs hf i (by omega);obtain ⟨r,p,_,_,e,b,l⟩:=h.at (k:=i) (by omega);obtain ⟨f1,f2⟩:=hf i (by omega);have hd:=Lm (ds:=ds) (k:=i) (by omega);have hp1:Bd (s+B+7) (Fw p (f (G8 M i))):=Qdu b f1 (Zv l (by omega));have hp2:=Qau p (f (G8 M i));have hp3:=Zbr i (Fw p (f (G8 M i)));simp only [Lr];rw [e];exact ⟨Us (Qph h2 (Zgl hp1)) (by omega),Qc (Qlf _ _) (by omega)⟩
theorem Qp2 {s:Nat}:∀ (n:Nat) (ds:List Nat) (M:List (List (List Int))),ds.length=n->ds.sum<64->SqR s ds M->Bd (n*(s+20)+1) (Qf6 n M)/\(Qf6 n M).length<=ds.sum+1/\n<=9\/9<n
 | 0,ds,M,_,_,_=>.inl ⟨λz hz=>(by simp [Qf6] at hz; subst hz; rw [J8]; decide),by simp [Qf6],by omega⟩
 |
  n+1,ds,M,hl,hs,h=>by
  by_cases h9:9<n+1
  ·exact .inr h9
  have hsum:=λk (hk:k<ds.length)=>Lm (ds:=ds) (k:=k) hk
  have:=Qkd (f:=Qf6 n) (B:=n*(s+20)+1) h hs (λk hk=>by
   have hd:=hsum k hk;rcases Qp2 n (ds.eraseIdx k) (G8 M k) (by rw [Je hk]; omega) (by omega) (h.minor hk) with h' | h'
   ·exact ⟨h'.1,h'.2.1⟩
   ·omega) (n+1) (by omega)
  have e1:(n+1)*(s+20)=n*(s+20)+(s+20):=Z7 ..;exact .inl ⟨Us this.1 (by omega),this.2,by omega⟩
theorem Q7n {s:Nat} (hs:s<=1000000):∀ (n:Nat) (ds:List Nat) (M:List (List (List Int))),n<=4->ds.length=n->ds.sum<64->SqR s ds M->Ut Tryz.prog 278 [.one (.row (zmt M))] [.one (rp (zp (Qf6 n M)))]
 |
  0,ds,M,_,hl,_,h=>by
  have e:=Qi (h.l.trans hl);subst e;exact w tt Tryz.func278 rfl [.t rfl,.c [] Qwz] rfl rfl trivial
 |
  n+1,ds,M,hn,hl,hd,h=>by
  have hrl:=Qsa M;have hMl:=h.l;have ih:=λk (hk:k<ds.length)=>Q7n hs n (ds.eraseIdx k) (G8 M k) (by omega) (by rw [Je hk]; omega) (by have:=Lm (ds:=ds) (k:=k) hk; omega) (h.minor hk)
  have hb:n*(s+20)+1<=3*1000020+1:=Nat.add_le_add_right (Zf (by omega) (by omega)) 1;have hok:∀ k,k<ds.length->Bd (n*(s+20)+1) (Qf6 n (G8 M k))/\(Qf6 n (G8 M k)).length<=(ds.eraseIdx k).sum+1:=λk hk=>by
   have hd':=Lm (ds:=ds) (k:=k) hk;rcases Qp2 n (ds.eraseIdx k) (G8 M k) (by rw [Je hk]; omega) (by omega) (h.minor hk) with h' | h'
   ·exact ⟨h'.1,h'.2.1⟩
   ·omega
  have hds:=Qkd (f:=Qf6 n) (B:=n*(s+20)+1) h hd hok;have cm:=λk=>Q7t (M:=M) (k:=k) (by omega) (λr hr=>by rw [h.w r hr]; omega)
  show Ut Tryz.prog 278 [.one (.row (zmt M))] [.one (rp (zp (Lr (Qf6 n) M (n+1))))];obtain ⟨f,hf⟩:=nmE (Qf6 n);rw [<-hf] at hds hok ih ⊢;refine Gv Tryz.func278 rfl ?_;refine go tt [.f (decide_eq_false (by omega)),.z 3] rfl trivial ?_;refine lp (S:=Nat) 0 (λL1 i=>(13,.v (.one (.int .i64 (i:Int))))::(3,.v (.one (rp (zp (Lr f M i)))))::L1) (λ_=>[]) (λi=>M.length-i) (λi=>i<=M.length) 0 (Qh _) rfl (λ_ _=>rfl) rfl λi hi=>?_
  obtain ⟨d2,d3⟩:=hds i (by omega);by_cases hlt:i<M.length
  ·obtain ⟨r,p,hr,hp,e,b,l⟩:=h.at (k:=i) (by omega);obtain ⟨k2,k3⟩:=hok i (by omega);have hse:=Lm (ds:=ds) (k:=i) (by omega);have ci:=ih i (by omega);have cp:=Qwx (p:=p) (q:=f (G8 M i)) (by omega) (by omega) b k2 (by omega);have hmb:Bd (s+(n*(s+20)+1)+7) (Fw p (f (G8 M i))):=Qdu b k2 (Zv l (by omega));have hml:=Qau p (f (G8 M i));by_cases h2:i % 2=1
   ·have es:Lr f M (i+1)=Ak (Lr f M i) (Pd (Fw p (f (G8 M i)))):=by simp only [Lr,Qyu]; rw [e,if_pos h2]
    have hnl:=L6 (Fw p (f (G8 M i)));refine go tt [.t (decide_eq_true (by omega)),.x (Qji hr),.x (Qsd hp),.c [] (cm i),.c [] ci,.c [] cp,.r 28 (eI (b:=((i % 2:Nat):Int)) rfl),.t (decide_eq_true (by omega)),.c [] (Qwt (Us hmb (by omega)) (by omega)),.c [] (Qz7 (p:=Lr f M i) (q:=Pd (Fw p (f (G8 M i)))) (Us d2 (by omega)) (Us (Qbn hmb) (by omega)) (by omega) (by omega))] rfl (by simp [Ur] <;> omega) ?_;exact rd (i+1) (by omega) hlt (by rw [es]; rfl)
   ·have es:Lr f M (i+1)=Ak (Lr f M i) (Fw p (f (G8 M i))):=by simp only [Lr,Qyu]; rw [e,if_neg h2]
    refine go tt [.t (decide_eq_true (by omega)),.x (Qji hr),.x (Qsd hp),.c [] (cm i),.c [] ci,.c [] cp,.r 28 (eI (b:=((i % 2:Nat):Int)) rfl),.f (decide_eq_false (by omega)),.c [] (Qz7 (p:=Lr f M i) (q:=Fw p (f (G8 M i))) (Us d2 (by omega)) (Us hmb (by omega)) (by omega) (by omega))] rfl (by simp [Ur] <;> omega) ?_;exact rd (i+1) (by omega) hlt (by rw [es]; rfl)
  ·obtain rfl:i=n+1:=by omega
   exact en tt [.f (decide_eq_false (by omega))] rfl rfl trivial
theorem Quo {a b c:Crv} (ha:Rs a) (hb:Rs b) (hc:Rs c):SqR 100000 [15,15,0] (Ec a b c):=by
 have key:∀ k:Crv,Rs k->(∀ p∈[k.x,k.y,[k.d]],Bd 100000 p)/\∀ (j:Nat) (p:List Int),[k.x,k.y,[k.d]][j]? = some p->p.length≤[15,15,0].getD j 0+1:=λk hk=>by
  refine ⟨λp hp=>?_,λj p hp=>?_⟩
  ·simp only [Qo,Ug,or_false] at hp;rcases hp with rfl | rfl | rfl
   ·exact hk.c.x
   ·exact hk.c.y
   ·exact Zlw hk.c.d
  ·match j,hp with
   | 0,hp=>injection hp with hp; subst hp; exact hk.c.lx
   | 1,hp=>injection hp with hp; subst hp; exact hk.c.ly
   | 2,hp=>injection hp with hp; subst hp; exact Ql _
   | j+3,hp=>simp at hp
 have h3:∀ r∈Ec a b c,r=[a.x,a.y,[a.d]]\/r=[b.x,b.y,[b.d]]\/r=[c.x,c.y,[c.d]]:=λr hr=>by
  simpa [Ec] using hr
 refine ⟨rfl,λr hr=>?_,λr hr=>?_,λr hr=>?_⟩
 ·rcases h3 r hr with rfl | rfl | rfl <;> rfl
 ·rcases h3 r hr with rfl | rfl | rfl
  ·exact (key a ha).1
  ·exact (key b hb).1
  ·exact (key c hc).1
 ·rcases h3 r hr with rfl | rfl | rfl
  ·exact (key a ha).2
  ·exact (key b hb).2
  ·exact (key c hc).2
def P8 (a b c:Crv):List Int:=Qf6 3 (Ec a b c)
theorem Qln {a b c:Crv} (ha:Rs a) (hb:Rs b) (hc:Rs c):Bd 400000 (P8 a b c)/\(P8 a b c).length<=31:=by
 rcases Qp2 3 [15,15,0] (Ec a b c) rfl (by decide) (Quo ha hb hc) with h | h
 ·exact ⟨Us h.1 (by decide),h.2.1⟩
 ·omega
theorem Qm0 {a b c:Crv} (ha:Rs a) (hb:Rs b) (hc:Rs c):Ut Tryz.prog 267 [.agg (rcl a),.agg (rcl b),.agg (rcl c)] [.one (rp (zp (P8 a b c)))]:=by
 have cd:=Q7n (by decide) 3 [15,15,0] (Ec a b c) (by decide) rfl (by decide) (Quo ha hb hc);have x0:[rcl a,rcl b,rcl c][0]? = some (rcl a):=rfl;have x1:[rcl a,rcl b,rcl c][1]? = some (rcl b):=rfl;have x2:[rcl a,rcl b,rcl c][2]? = some (rcl c):=rfl;have hs1:∀ k:Crv,∀ y∈[[LV.row (zrw [k.x,k.y,[k.d]])]],y.length=1:=λk y hy=>by rw [Qk.1 hy]; rfl
 refine Gv Tryz.func267 rfl ?_;refine go tt [.o 7 80 1] rfl trivial ?_;refine lp (S:=Nat) 4 (λL1 i=>(18,.v (.one (.int .i64 (i:Int))))::(7,.v (.one (.orow 3 1 none)))::L1) (λi=>[.blk 90 (rcl a),.blk 90 (rcl b),.blk 90 (rcl c),.row false 80 1 (zmt ((Ec a b c).take i))]) (λi=>3-i) (λi=>i<=3) 0 (by decide) rfl (λ_ _=>rfl) rfl λi hi=>?_
 rcases (show i=0\/i=1\/i=2\/i=3 by omega) with rfl | rfl | rfl | rfl
 ·exact go tt [.t rfl,.x x0,.c [] (Qcz ha),.s (sz:=1) (hs1 a)] rfl (by simp [Ur,zmt,Ec]) (rd 1 (by omega) (by omega) rfl)
 ·exact go tt [.t rfl,.x x1,.c [] (Qcz hb),.s (sz:=1) (hs1 b)] rfl (by simp [Ur,zmt,Ec]) (rd 2 (by omega) (by omega) rfl)
 ·exact go tt [.t rfl,.x x2,.c [] (Qcz hc),.s (sz:=1) (hs1 c)] rfl (by simp [Ur,zmt,Ec]) (rd 3 (by omega) (by omega) rfl)
 ·exact en tt [.f rfl,.c [] cd] rfl rfl trivial
end Orr
namespace Orq
theorem ang {ux uy vx vy wx wy:Rat} (hu:0<ux\/ux=0/\0<uy) (hv:0<vx\/vx=0/\0<vy) (hw:0<wx\/wx=0/\0<wy)
 (h1:0<=ux*vy-vx*uy) (h2:0<=vx*wy-wx*vy):0<=ux*wy-wx*uy/\(0<ux*vy-vx*uy\/0<vx*wy-wx*vy->0<ux*wy-wx*uy):=by
 have ux0:0<=ux:=by grind
 have wx0:0<=wx:=by grind
 rcases hv with hv | ⟨hv,hv2⟩
 ·have e:vx*(ux*wy-wx*uy)=ux*(vx*wy-wx*vy)+wx*(ux*vy-vx*uy):=by grind
  have hux:0<ux:=by
   rcases hu with h | ⟨h,h'⟩
   ·exact h
   ·have:=Jg hv h';rw [h] at h1; grind
  have p1:=V5 ux0 h2;have p2:=V5 wx0 h1;have key:∀ z:Rat,vx*z=ux*(vx*wy-wx*vy)+wx*(ux*vy-vx*uy)->0<=z:=λz hz=>by
   refine Uc.1 λhn=>?_
   have:=Jg hv (show 0 < -z by grind);grind
  refine ⟨key _ e,λhs=>?_⟩;rcases hw with hw | ⟨hw,hw2⟩
  ·have hpos:0<vx*(ux*wy-wx*uy):=by
    rcases hs with hs | hs
    ·have:=Jg hw hs; grind
    ·have:=Jg hux hs; grind
   have h0:=key _ e;refine X4.1 λhn=>?_
   have:ux*wy-wx*uy=0:=by grind
   rw [this] at hpos; grind
  ·have:=Jg hux hw2;rw [hw]; grind
 ·rw [hv] at h1 h2;have hw0:wx=0:=by
   rcases hw with hw | hw
   ·have:=Jg hw hv2; grind
   ·exact hw.1
  have hwy:0<wy:=by grind
  have p:=V5 ux0 (Qq hwy);refine ⟨by rw [hw0]; grind,λhs=>?_⟩;rw [hv,hw0] at hs;have hux:0<ux:=by
   rcases hs with hs | hs
   ·refine X4.1 λhn=>?_
    have:ux=0:=by grind
    rw [this] at hs; grind
   ·grind
  have:=Jg hux hwy;rw [hw0]; grind
section
variable {α:Type} (X Y:α->Rat)
def lx (a b:α):Prop:=X a<X b\/X a=X b/\Y a<Y b
def M4 (a b c:α):Rat:=(X b-X a)*(Y c-Y a)-(X c-X a)*(Y b-Y a)
variable {X Y}
theorem Dk (a:α):¬lx X Y a a:=by unfold lx; grind
theorem Qt8 {a b c:α} (h:lx X Y a b) (h':lx X Y b c):lx X Y a c:=by unfold lx at *; grind
theorem Dl {a b:α} (h:lx X Y a b):0<X b-X a\/X b-X a=0/\0<Y b-Y a:=by unfold lx at h; grind
theorem Qet (a b:α):M4 X Y a b a=0/\M4 X Y a b b=0:=by unfold M4; grind
theorem Qun (a b c:α):M4 X Y a c b=- M4 X Y a b c:=by unfold M4; grind
theorem Qq3 (a b c:α):M4 X Y a b c=(X b-X a)*(Y c-Y b)-(X c-X b)*(Y b-Y a):=by unfold M4; grind
def Edg (Q:α->α->Prop):List α->Prop
 | a::b::r=>Q a b/\Edg Q (b::r)
 | _=>True
def Cnv (R:α->α->α->Prop):List α->Prop
 | a::b::c::r=>R a b c/\Cnv R (b::c::r)
 | _=>True
theorem Edg.tail {Q:α->α->Prop} {a:α} {l:List α} (h:Edg Q (a::l)):Edg Q l:=by
 cases l with
 | nil=>trivial
 | cons b l=>exact h.2
theorem Cnv.tail {R:α->α->α->Prop} {a:α} {l:List α} (h:Cnv R (a::l)):Cnv R l:=by
 match l,h with
 | [],_=>trivial
 | [_],_=>trivial
 | b::c::l,h=>exact h.2
theorem Edg.imp {Q Q':α->α->Prop}:∀ {l:List α},(∀ a∈l,∀ b∈l,Q a b->Q' a b)->Edg Q l->Edg Q' l
 | [],_,_=>trivial
 | [_],_,_=>trivial
 | a::b::l,hq,h=>⟨hq a (by simp) b (by simp) h.1,Edg.imp (l:=b::l) (λx hx y hy=>hq x (Qj _ hx) y (Qj _ hy)) h.2⟩
theorem Cnv.imp {R R':α->α->α->Prop}:∀ {l:List α},(∀ a∈l,∀ b∈l,∀ c∈l,R a b c->R' a b c)->Cnv R l->Cnv R' l
 | [],_,_=>trivial
 | [_],_,_=>trivial
 | [_,_],_,_=>trivial
 | a::b::c::l,hq,h=>⟨hq a (by simp) b (by simp) c (by simp) h.1,Cnv.imp (l:=b::c::l) (λx hx y hy z hz=>hq x (Qj _ hx) y (Qj _ hy) z (Qj _ hz)) h.2⟩
def Db (s:α->α->α->Bool) (c:α):List α->List α
 | b::a::r=>if s a b c=true then b::a::r else Db s c (a::r)
 | l=>l
def S9 (s:α->α->α->Bool):List α->List α->List α
 | acc,[]=>acc
 | acc,c::l=>S9 s (c::Db s c acc) l
structure Stk (X Y:α->Rat) (P:List α) (st:List α):Prop where
 srt:st.Pairwise λb a=>lx X Y a b
 mem:∀ p∈st,p∈P
 edg:Edg (λb a=>∀ p∈P,0≤M4 X Y a b p) st
 cnv:Cnv (λc b a=>0<M4 X Y a b c) st
theorem Stk.tail {P:List α} {a:α} {st:List α} (h:Stk X Y P (a::st)):Stk X Y P st:=⟨(Q5.1 h.srt).2,λp hp=>h.mem p (Qj _ hp),h.edg.tail,h.cnv.tail⟩
theorem Zam {P:List α} {s:α->α->α->Bool} {c:α} (hs:∀ a∈P,∀ b∈P,(s a b c=true↔0<M4 X Y a b c)) (hc:∀ p∈P,lx X Y p c) :
 ∀ (st:List α) (t:α),Stk X Y P (t::st)->(∀ p∈P,lx X Y t p->0≤M4 X Y t c p) ->
 ∃ t' st',Db s c (t::st)=t'::st'/\Stk X Y P (t'::st')/\(∀ p∈P,lx X Y t' p->0≤M4 X Y t' c p)/\(∀ a r,st'=a::r->0<M4 X Y a t' c)/\(t'::st').getLast? = (t::st).getLast?
 | [],t,h,h2=>⟨t,[],rfl,h,h2,λa r e=>(by cases e),rfl⟩
 |
  a::r,t,h,h2=>by
  have ht:=h.mem t (by simp);have ha:=h.mem a (by simp);by_cases e:s a t c=true
  ·refine ⟨t,a::r,by simp only [Db]; rw [if_pos e],h,h2,λa' r' e'=>?_,rfl⟩;injection e' with e1 _
   rw [<-e1]; exact (hs a ha t ht).1 e
  ·have hle:M4 X Y a t c<=0:=Uc.1 λh'=>e ((hs a ha t ht).2 h')
   have hat:lx X Y a t:=(Q5.1 h.srt).1 a (by simp);obtain ⟨t',st',g1,g2,g3,g4,g5⟩:=Zam hs hc r a h.tail λp hp hap=>by
    have e1:=h.edg.1 p hp;have k:=ang (Dl (hc a ha)) (Dl hat) (Dl hap) (by rw [Qun] at *; unfold M4 at *; grind) (by unfold M4 at *; grind);unfold M4; grind
   exact ⟨t',st',by simp only [Db]; rw [if_neg e]; exact g1,g2,g3,g4,by rw [g5]; rfl⟩
theorem Qng {P:List α} {c:α}:∀ (st:List α) (t:α),Stk X Y P (t::st)->lx X Y t c->(∀ a r,st=a::r->0<M4 X Y a t c)->Edg (λb a=>0<M4 X Y a b c) (t::st)
 | [],_,_,_,_=>trivial
 | [a],t,_,_,h=>⟨h a [] rfl,trivial⟩
 |
  a::q::r,t,hS,htc,h=>by
  have h1:=h a (q::r) rfl;have h0:0<M4 X Y q a t:=hS.cnv.1;have p1:=Q5.1 hS.srt;have p2:=Q5.1 p1.2;have hat:lx X Y a t:=p1.1 a (by simp);have hqa:lx X Y q a:=p2.1 q (by simp);refine ⟨h1,Qng (q::r) a hS.tail (Qt8 hat htc) λa' r' e=>?_⟩;injection e with e _;rw [<-e];rw [Qq3] at h0 h1 ⊢;have k:=(ang (Dl hqa) (Dl hat) (Dl htc) (Qq h0) (Qq h1)).2 (.inl h0);grind
theorem Zf3 {P:List α} {t:α} {st:List α} {c:α} (h:Stk X Y P (t::st)) (hc:∀ p∈P,lx X Y p c) (hP:∀ p∈P,p=t\/lx X Y p t\/lx X Y t p) (hb:∀ p∈P,(t::st).getLast? = some p\/∃ b,(t::st).getLast? = some b/\lx X Y b p) (h2:∀ p∈P,lx X Y t p->0≤M4 X Y t c p) (h3:∀ a r,st=a::r->0<M4 X Y a t c):Stk X Y (P++[c]) (c::t::st):=by
 have ht:=h.mem t (by simp);have htc:=hc t ht;have hf:=Qng st t h htc h3;refine ⟨Q5.2 ⟨λp hp=>hc p (h.mem p hp),h.srt⟩,λp hp=>?_,⟨λp hp=>?_,?_⟩,?_⟩
 ·rcases Qo.1 hp with rfl | hp
  ·simp
  ·exact Js _ (h.mem p hp)
 ·rcases Qu.1 hp with hp | hp
  ·rcases hP p hp with rfl | hpt | htp
   ·rw [(Qet p c).1]; exact Qp
   ·cases st with
    |
     nil =>
     exfalso;rcases hb p hp with e | ⟨b,e,hb⟩
     ·injection e with e; subst e; exact Dk _ hpt
     ·injection e with e; subst e; exact Dk _ (Qt8 hpt hb)
    |
     cons a r =>
     have e1:=h.edg.1 p hp;have h3:=h3 a r rfl;have hat:lx X Y a t:=(Q5.1 h.srt).1 a (by simp);have k:=(ang (Dl hpt) (Dl hat) (Dl htc) (by unfold M4 at *; grind) (by unfold M4 at *; grind)).1;unfold M4; grind
   ·exact h2 p hp htp
  ·rw [Qk.1 hp,(Qet t c).2]; exact Qp
 ·cases st with
  | nil=>trivial
  |
   cons a r =>
   have key:∀ l:List α,Edg (λb a=>∀ p∈P,0≤M4 X Y a b p) l->Edg (λb a=>0<M4 X Y a b c) l->Edg (λb a=>∀ p∈P++[c],0≤M4 X Y a b p) l:=by
    intro l
    induction l with
    | nil=>intros; trivial
    |
     cons x l ih =>
     cases l with
     | nil=>intros; trivial
     |
      cons y l =>
      intro k1 k2;refine ⟨λp hp=>?_,ih k1.2 k2.2⟩;rcases Qu.1 hp with hp | hp
      ·exact k1.1 p hp
      ·rw [Qk.1 hp]; exact Qq k2.1
   exact key _ h.edg hf
 ·cases st with
  | nil=>trivial
  | cons a r=>exact ⟨h3 a r rfl,h.cnv⟩
theorem Qm5 {s:α->α->α->Bool} {row:List α} (hs:∀ a∈row,∀ b∈row,∀ c∈row,(s a b c=true↔0<M4 X Y a b c)) (hrow:row.Pairwise (lx X Y)) :
 ∀ (l P:List α) (t:α) (st:List α),row=P++l->Stk X Y P (t::st)->P.getLast? = some t->(t::st).getLast? = P.head? ->
 ∃ t' st',S9 s (t::st) l=t'::st'/\Stk X Y row (t'::st')/\row.getLast? = some t'/\(t'::st').getLast? = row.head?
 |
  [],P,t,st,e,h,h1,h2=>by
  rw [Zo] at e; subst e;exact ⟨t,st,rfl,h,h1,h2⟩
 |
  c::l,P,t,st,e,h,h1,h2=>by
  have hPm:∀ p∈P,p∈row:=λp hp=>by rw [e]; exact Js _ hp
  have hcm:c∈row:=by rw [e]; simp
  have hpw:=hrow;rw [e] at hpw;obtain ⟨w1,w2,w3⟩:=Jd.1 hpw;have hc:∀ p∈P,lx X Y p c:=λp hp=>w3 p hp c (by simp)
  have htop:∀ p∈P,p=t\/lx X Y p t:=λp hp=>by
   obtain ⟨P1,rfl⟩:∃ P1,P=P1++[t]:=by
    have:=Y4.1 h1;exact this
   rcases Qu.1 hp with hp | hp
   ·exact .inr ((Jd.1 w1).2.2 p hp t (by simp))
   ·exact .inl (Qk.1 hp)
  obtain ⟨t',st',g1,g2,g3,g4,g5⟩:=Zam (λa ha b hb=>hs a (hPm a ha) b (hPm b hb) c hcm) hc st t h λp hp htp=>by
   rcases htop p hp with rfl | h'
   ·exact absurd htp (Dk _)
   ·exact absurd (Qt8 htp h') (Dk _)
  have tot:∀ p∈P,p=t'\/lx X Y p t'\/lx X Y t' p:=λp hp=>by
   obtain ⟨i,hi,rfl⟩:=Y5.1 hp;obtain ⟨j,hj,e2⟩:=Y5.1 (g2.mem t' (by simp));rcases Vx i j with h' | h' | h'
   ·exact .inr (.inl (by rw [<-e2]; exact Y6.1 w1 i j hi hj h'))
   ·subst h'; exact .inl e2
   ·exact .inr (.inr (by rw [<-e2]; exact Y6.1 w1 j i hj hi h'))
  have hPne:P≠[]:=λh'=>by rw [h'] at h1; cases h1
  have hb:∀ p∈P,(t'::st').getLast? = some p\/∃ b,(t'::st').getLast? = some b/\lx X Y b p:=λp hp=>by
   rw [g5,h2];cases P with
   | nil=>exact absurd rfl hPne
   |
    cons f P' =>
    rcases Qo.1 hp with rfl | hp
    ·exact .inl rfl
    ·exact .inr ⟨f,rfl,(Q5.1 w1).1 p hp⟩
  have hpush:=Zf3 g2 hc tot hb g3 g4;obtain ⟨t2,st2,k1,k2,k3,k4⟩:=Qm5 hs hrow l (P++[c]) c (t'::st') (by rw [e]; simp) hpush (by simp) (by
   rw [Jx,g5,h2];cases P with
   | nil=>exact absurd rfl hPne
   | cons f P'=>rfl)
  exact ⟨t2,st2,by simp only [S9]; rw [g1]; exact k1,k2,k3,k4⟩
theorem Q73 {P:List α} (tot:∀ p∈P,∀ q∈P,p=q\/lx X Y p q\/lx X Y q p) {z:α} :
 ∀ (L L':List α) (f:α),(f::L).Pairwise (lx X Y)->(f::L').Pairwise (lx X Y)->(∀ p∈f::L,p∈P)->(∀ p∈f::L',p∈P) ->
 Edg (λa b=>∀ p∈P,0≤M4 X Y a b p) (f::L)->Edg (λa b=>∀ p∈P,0≤M4 X Y a b p) (f::L') ->
 Cnv (λa b c=>0<M4 X Y a b c) (f::L)->Cnv (λa b c=>0<M4 X Y a b c) (f::L')->(f::L).getLast? = some z->(f::L').getLast? = some z->L=L':=by
 have one:∀ (L L':List α) (f b b':α),(f::b::L).Pairwise (lx X Y)->(f::b'::L').Pairwise (lx X Y)->(∀ p∈f::b::L,p∈P)->b'∈P ->
  Edg (λa b=>∀ p∈P,0≤M4 X Y a b p) (f::b::L)->0≤M4 X Y f b' b->Cnv (λa b c=>0<M4 X Y a b c) (f::b::L)->(f::b::L).getLast? = some z->(f::b'::L').getLast? = some z->¬lx X Y b b':=by
  intro L L' f b b' s s' m m' e e' c l l' hlt;have s1:=Q5.1 s;have hfb:lx X Y f b:=s1.1 b (by simp);have hcol:M4 X Y f b b'=0:=by
   have:=e.1 b' m';rw [Qun] at e'; grind
  cases L with
  |
   nil =>
   simp at l;subst l;have hz:b'=b\/lx X Y b' b:=by
    have:b∈f::b'::L':=V8 l';have s2:=(Q5.1 s').2;rcases Qo.1 this with rfl | h
    ·exact absurd hfb (Dk _)
    ·rcases Qo.1 h with h | h
     ·exact .inl h.symm
     ·exact .inr ((Q5.1 s2).1 b h)
   rcases hz with rfl | hz
   ·exact Dk _ hlt
   ·exact Dk _ (Qt8 hlt hz)
  |
   cons d M =>
   have h1:0<M4 X Y f b d:=c.1;have h2:=e.2.1 b' m';have s2:=Q5.1 s1.2;have hbd:lx X Y b d:=s2.1 d (by simp);have k:=(ang (Dl hlt) (Dl hfb) (Dl hbd) (by unfold M4 at hcol; grind) (by rw [Qq3] at h1; exact Rat.le_of_lt h1)).2 (.inr (by rw [Qq3] at h1; exact h1));unfold M4 at h2; grind
 intro L
 induction L with
 |
  nil =>
  intro L' f s s' m m' e e' c c' l l';simp at l;cases L' with
  | nil=>rfl
  |
   cons b' M' =>
   exfalso;subst l;have h1:=(Q5.1 s').1 f (by
    rw [Jx] at l';exact V8 l')
   exact Dk _ h1
 |
  cons b M ih =>
  intro L' f s s' m m' e e' c c' l l';cases L' with
  |
   nil =>
   exfalso;simp at l';subst l';have h1:=(Q5.1 s).1 f (by
    rw [Jx] at l;exact V8 l)
   exact Dk _ h1
  |
   cons b' M' =>
   have hb:=m b (by simp);have hb':=m' b' (by simp);have heq:b=b':=by
    rcases tot b hb b' hb' with h | h | h
    ·exact h
    ·exact absurd h (one M M' f b b' s s' m hb' e (e'.1 b hb) c l l')
    ·exact absurd h (one M' M f b' b s' s m' hb e' (e.1 b' hb') c' l' l)
   subst heq;rw [Jx] at l l';rw [ih M' b (Q5.1 s).2 (Q5.1 s').2 (λp hp=>m p (Qj _ hp)) (λp hp=>m' p (Qj _ hp)) e.2 e'.2 c.tail c'.tail l l']
end
end Orq
namespace Orr
open Go
theorem Q84 (c:Int) (l:List Int):Hd (l.map (· * c))=Hd l*c.natAbs:=by
 have key:∀ (l:List Int) (g:Nat),(l.map (· * c)).foldl (λg z=>Nat.gcd g z.natAbs) (g*c.natAbs)=l.foldl (λg z=>Nat.gcd g z.natAbs) g*c.natAbs:=by
  intro l
  induction l with
  | nil=>intro g; rfl
  |
   cons z l ih =>
   intro g;simp only [Z0,Z5,Jr,Ub];exact ih _
 have:=key l 0;rwa [J8] at this
end Orr
namespace Orq
open Orr Go
theorem Qvn {p q:List Int} (tp:Uz p) (tq:Uz q) (h:∀ i,p.getD i 0=q.getD i 0):p=q:=by
 have hl:∀ {p q:List Int},Uz p->(∀ i,p.getD i 0=q.getD i 0)->p.length<=q.length:=λ{p q} tp h=>by
  refine Nat.not_lt.1 λhn=>?_
  have h1:=Ho tp (by omega);rw [h,Qg,Qt (by omega)] at h1;exact h1 rfl
 have e:=Kn (hl tp h) (hl tq λi=>(h i).symm);refine List.ext_getElem e λi h1 h2=>?_
 have:=h i;rw [Qg,Qg,Qe h1,Qe h2] at this;exact this
theorem Qtq {p:List Int} (h:p=[]) (i:Nat):p.getD i 0=0:=by rw [h]; simp
theorem D7 (p:List Int) (c:Int) (i:Nat):(Ff p c).getD i 0=p.getD i 0*c:=by
 unfold Ff;rw [To]
 split
 ·rfl
 ·rename_i h;rw [Qg,Qt (by omega)]; simp
theorem Qlz (p q:List Int) (i:Nat):(Pw p q).getD i 0=p.getD i 0-q.getD i 0:=by
 unfold Pw;rw [To]
 split
 ·rfl
 ·rename_i h;rw [Qg,Qg,Qt (by omega),Qt (by omega)]; simp
theorem Zfs {x y:Crv} (hx:Nml x) (hy:Nml y) (h1:Hf x y=[]) (h2:Hp x y=[]):x=y:=by
 have e1:∀ i,y.x.getD i 0*x.d=x.x.getD i 0*y.d:=λi=>by
  have:=Qtq h1 i;unfold Hf at this;rw [Qlz,D7,D7] at this;omega
 have e2:∀ i,y.y.getD i 0*x.d=x.y.getD i 0*y.d:=λi=>by
  have:=Qtq h2 i;unfold Hp at this;rw [Qlz,D7,D7] at this;omega
 have key:∀ {x y:Crv},Nml x->Nml y->(∀ i,y.x.getD i 0*x.d=x.x.getD i 0*y.d)->(∀ i,y.y.getD i 0*x.d=x.y.getD i 0*y.d)->x.d∣y.d:=λ{x y} hx hy e1 e2=>by
  have hd:=Qti (d:=x.d) (l:=(x.d::(x.x++x.y)).map (· * y.d)) λz hz=>by
   obtain ⟨w,hw,rfl⟩:=Zr.1 hz;rcases Qo.1 hw with rfl | hw
   ·exact W7 _ _
   ·rcases Qu.1 hw with hw | hw
    ·obtain ⟨i,hi,rfl⟩:=Y5.1 hw;have:=e1 i;rw [show x.x.getD i 0=x.x[i] from by rw [Qg,Qe hi]; rfl] at this;rw [<-this]; exact Y8 _ _
    ·obtain ⟨i,hi,rfl⟩:=Y5.1 hw;have:=e2 i;rw [show x.y.getD i 0=x.y[i] from by rw [Qg,Qe hi]; rfl] at this;rw [<-this]; exact Y8 _ _
  rw [Q84,hx.2.2.2,Ki] at hd;exact Vi hd (Int.natAbs_dvd.2 (Wb _))
 have hd:x.d=y.d:=Int.dvd_antisymm (Wd hx.2.2.1) (Wd hy.2.2.1) (key hx hy e1 e2) (key hy hx (λi=>(e1 i).symm) λi=>(e2 i).symm);have hd0:y.d≠0:=by have:=hy.2.2.1; omega
 rw [hd] at e1 e2;have ex:x.x=y.x:=Qvn hx.1 hy.1 λi=>(Yx hd0 (e1 i)).symm
 have ey:x.y=y.y:=Qvn hx.2.1 hy.2.1 λi=>(Yx hd0 (e2 i)).symm
 cases x; cases y;simp only at hd ex ey;rw [hd,ex,ey]
theorem Zg3 (l:List Pt):(Mc l).Pairwise λx y=>x.c≠y.c:=by
 have key:∀ (l out:List Pt),out.Pairwise (λx y=>x.c≠y.c)->(l.foldl Nm out).Pairwise λx y=>x.c≠y.c:=by
  intro l
  induction l with
  | nil=>intro out h; exact h
  |
   cons p l ih =>
   intro out h;refine ih _ ?_;unfold Nm
   split
   ·exact h
   ·rename_i hn;refine Jd.2 ⟨h,Vg _ _,λa ha b hb e=>hn ?_⟩;rw [Qk.1 hb] at e;rw [List.any_eq_true];exact ⟨a,ha,by rw [<-e]; simp [Eu]⟩
 exact key l [] .nil
theorem Zco (l:List Pt):(Mc l).Sublist l:=by
 have key:∀ (l out o:List Pt),out.Sublist o->(l.foldl Nm out).Sublist (o++l):=by
  intro l
  induction l with
  | nil=>intro out o h; rw [Zo]; exact h
  |
   cons p l ih =>
   intro out o h;have:(Nm out p).Sublist (o++[p]):=by
    unfold Nm
    split
    ·exact h.trans (List.sublist_append_left _ _)
    ·exact h.append (List.Sublist.refl _)
   have:=ih _ _ this;rwa [Zl] at this
 exact key l [] [] (List.Sublist.refl _)
theorem Ie (f:Nat->List Int) (rows:List (List (List Int))) (q:Rat) (i:Nat):Uw (Cd f rows (i+1)) q=Uw (Cd f rows i) q+(if i % 2=0 then 1 else -1)*(Uw ((rows.getD i []).getD 0 []) q*Uw (f i) q):=by
 simp only [Cd]
 split
 ·rename_i h;have:Uw ((rows.getD i []).getD 0 []) q=0:=by rw [Qi h]; rfl
  rw [this]; grind
 ·split
  ·rw [Quv,Fo]; grind
  ·rw [Bb,Fo]; grind
theorem Q13 (z:Int) (q:Rat):Uw [z] q=(z:Rat):=by simp [Uw,Rat.add_zero]
theorem Qus (p:List Int) (q:Rat):Uw (Dn 1 [[p]]) q=Uw p q:=by
 show Uw (Cd (λi=>Dn 0 (Qci [[p]] i)) [[p]] (0+1)) q=_;rw [Ie];show (0:Rat)+1*(Uw p q*Uw [1] q)=_;rw [Q13];have:((1:Int):Rat)=1:=rfl;grind
theorem Qlp (p r s t:List Int) (q:Rat):Uw (Dn 2 [[p,r],[s,t]]) q=Uw p q*Uw t q-Uw s q*Uw r q:=by
 show Uw (Cd (λi=>Dn 1 (Qci [[p,r],[s,t]] i)) [[p,r],[s,t]] (0+1+1)) q=_;rw [Ie,Ie];show (0:Rat)+1*(Uw p q*Uw (Dn 1 [[t]]) q)+(-1)*(Uw s q*Uw (Dn 1 [[r]]) q)=_;rw [Qus,Qus]; grind
theorem Zai (a1 a2 a3 b1 b2 b3 c1 c2 c3:List Int) (q:Rat):Uw (Dn 3 [[a1,a2,a3],[b1,b2,b3],[c1,c2,c3]]) q=Uw a1 q*(Uw b2 q*Uw c3 q-Uw c2 q*Uw b3 q)-Uw b1 q*(Uw a2 q*Uw c3 q-Uw c2 q*Uw a3 q)+Uw c1 q*(Uw a2 q*Uw b3 q-Uw b2 q*Uw a3 q):=by
 show Uw (Cd (λi=>Dn 2 (Qci [[a1,a2,a3],[b1,b2,b3],[c1,c2,c3]] i)) [[a1,a2,a3],[b1,b2,b3],[c1,c2,c3]] (0+1+1+1)) q=_;rw [Ie,Ie,Ie];show (0:Rat)+1*(Uw a1 q*Uw (Dn 2 [[b2,b3],[c2,c3]]) q)+(-1)*(Uw b1 q*Uw (Dn 2 [[a2,a3],[c2,c3]]) q)+1*(Uw c1 q*Uw (Dn 2 [[a2,a3],[b2,b3]]) q)=_;rw [Qlp,Qlp,Qlp]; grind
theorem Qyv {a b c:Pt} (ha:Sc a.c) (hb:Sc b.c) (hc:Sc c.c) (q:Rat):U4 (Uw (Ha a.c b.c c.c) q)=U4 (M4 (px · q) (py · q) a b c):=by
 have pos:∀ {k:Crv},Sc k->(0:Rat)<(k.d:Rat):=λh=>by exact_mod_cast h.n.2.2.1
 have pa:=pos ha;have pb:=pos hb;have pc:=pos hc;have xx:∀ {p:Pt},0<(p.c.d:Rat)->Uw p.c.x q=px p q*(p.c.d:Rat)/\Uw p.c.y q=py p q*(p.c.d:Rat):=λ{p} h=>by
  unfold px py;exact ⟨(Zk (by grind)).symm,(Zk (by grind)).symm⟩
 obtain ⟨xa,ya⟩:=xx pa;obtain ⟨xb,yb⟩:=xx pb;obtain ⟨xc,yc⟩:=xx pc;have e:Uw (Ha a.c b.c c.c) q=((a.c.d:Rat)*(b.c.d:Rat)*(c.c.d:Rat))*M4 (px · q) (py · q) a b c:=by
  unfold Ha Ec M4;rw [Zai,Q13,Q13,Q13,xa,xb,xc,ya,yb,yc];grind
 rw [e,D9 (Jg (Jg pa pb) pc)]
def Qek (sg:List Int->Int) (a b c:Pt):Bool:=decide (0<Tf sg (Ha a.c b.c c.c))
def Sp (sg:List Int->Int) (row:List Pt):List Pt:=(S9 (Qek sg) [] row).reverse
def Dq (sg:List Int->Int) (row:List Pt):List Pt:=if row.length<3 then row else (Sp sg row).dropLast++(Sp sg row.reverse).dropLast
def Hu (l:List Pt) (a:Tm):List Pt:=Dq (G0 a) (Sl a (Mc l))
def Fq (C:List Pt):List (Pt×Pt):=C.zip (C.drop 1++C.take 1)
def Pp (sg:List Int->Int) (a b c:Pt):Ct:=⟨3,a.id,b.id,c.id,0,Ha a.c b.c c.c,Tf sg (Ha a.c b.c c.c)⟩
def Se (e:Pt×Pt) (c:Pt):Bool:=decide (c.id≠e.1.id) && decide (c.id≠e.2.id)
def Ss (sg:List Int->Int) (l:List Pt) (e:Pt×Pt):List Ct:=(l.filter (Se e)).map λc=>Pp sg e.1 e.2 c
def Pa (sg:List Int->Int) (l C:List Pt):List Ct:=if C.length<2 then [] else (Fq C).flatMap (Ss sg l)
def bcH (l:List Pt) (a:Tm):List Ct:=bcS l a++Pa (G0 a) l (Hu l a)
abbrev brH (l:List Pt) (a:Tm):List (List LV):=Uy (Hu l a)
def Qjj (l:List Pt):List (List Int):=l.flatMap λx=>l.flatMap λy=>l.map λz=>Ha x.c y.c z.c
theorem Qsj {l:List Pt} {x y z:Pt} (hx:x∈l) (hy:y∈l) (hz:z∈l):Ha x.c y.c z.c∈Qjj l :=
 Zy.2 ⟨x,hx,Zy.2 ⟨y,hy,Zr.2 ⟨z,hz,rfl⟩⟩⟩
theorem Zdc {l:List Pt} (hl:∀ p∈l,Sc p.c):∀ p∈Qjj l,Cp p:=λp hp=>by
 obtain ⟨x,hx,hp⟩:=Zy.1 hp;obtain ⟨y,hy,hp⟩:=Zy.1 hp;obtain ⟨z,hz,rfl⟩:=Zr.1 hp;exact Qf2 (hl x hx) (hl y hy) (hl z hz)
theorem Qlu {α:Type} (s:α->α->α->Bool) (c:α):∀ st:List α,(Db s c st).Sublist st
 | []=>List.Sublist.refl _
 | [_]=>List.Sublist.refl _
 |
  b::a::r=>by
  simp only [Db]
  split
  ·exact List.Sublist.refl _
  ·exact (Qlu s c (a::r)).trans (List.sublist_cons_self _ _)
theorem Qc1 {α:Type} {s:α->α->α->Bool}:∀ {l acc:List α} {x:α},x∈S9 s acc l->x∈acc\/x∈l
 | [],acc,x,h=>.inl h
 |
  c::l,acc,x,h=>by
  rcases Qc1 (l:=l) h with h | h
  ·rcases Qo.1 h with rfl | h
   ·exact .inr (by simp)
   ·exact .inl ((Qlu s c acc).subset h)
  ·exact .inr (Qj _ h)
theorem Qc0 {α:Type} (s:α->α->α->Bool):∀ (l acc:List α),(S9 s acc l).length<=acc.length+l.length
 | [],acc=>by simp [S9]
 |
  c::l,acc=>by
  have h1:=Qc0 s l (c::Db s c acc);have h2:=(Qlu s c acc).length_le;simp only [S9,Q7] at h1 ⊢;omega
theorem Qj0 {sg:List Int->Int} {row:List Pt} {x:Pt} (h:x∈Sp sg row):x∈row:=by
 unfold Sp at h;rcases Qc1 (Jc.1 h) with h | h
 ·cases h
 ·exact h
theorem I2 (sg:List Int->Int) (row:List Pt):(Sp sg row).length<=row.length:=by
 have:=Qc0 (Qek sg) row [];unfold Sp; rw [List.length_reverse]; simpa using this
theorem Qyo {sg:List Int->Int} {row:List Pt} {x:Pt} (h:x∈Dq sg row):x∈row:=by
 unfold Dq at h
 split at h
 ·exact h
 ·rcases Qu.1 h with h | h
  ·exact Qj0 ((List.dropLast_sublist _).subset h)
  ·exact Jc.1 (Qj0 ((List.dropLast_sublist _).subset h))
theorem Qyn (sg:List Int->Int) (row:List Pt):(Dq sg row).length<=2*row.length:=by
 unfold Dq
 split
 ·omega
 ·have h1:=I2 sg row;have h2:=I2 sg row.reverse;rw [Xt] at h2;rw [Q4,List.length_dropLast,List.length_dropLast]; omega
theorem Lb {l:List Pt} {a:Tm} {x:Pt} (h:x∈Hu l a):x∈l:=Mp (Hq.1 (Qyo h))
theorem A0 (l:List Pt) (a:Tm):(Hu l a).length<=2*l.length:=by
 have h1:=Qyn (G0 a) (Sl a (Mc l));rw [Dc] at h1;have:=Qmg l;unfold Hu; omega
theorem Qhj {C:List Pt} {e:Pt×Pt} (h:e∈Fq C):e.1∈C/\e.2∈C:=by
 unfold Fq at h;have h1:=List.of_mem_zip (show (e.1,e.2)∈_ from h);refine ⟨h1.1,?_⟩;rcases Qu.1 h1.2 with h | h
 ·exact Zc h
 ·exact Qm h
theorem Qxm {sg:List Int->Int} {l C:List Pt} {x:Ct} (h:x∈Pa sg l C):∃ e∈Fq C,∃ c∈l,Se e c=true/\x=Pp sg e.1 e.2 c:=by
 unfold Pa at h
 split at h
 ·cases h
 ·obtain ⟨e,he,h⟩:=Zy.1 h;obtain ⟨c,hc,rfl⟩:=Zr.1 h;obtain ⟨h1,h2⟩:=Kl.1 hc;exact ⟨e,he,c,h1,h2,rfl⟩
theorem Qpf {l:List Pt} {a:Tm}:∀ x∈bcH l a,x.p∈Qds l++Qjj l:=λx hx=>by
 rcases Qu.1 hx with hx | hx
 ·exact Js _ (Zdf x hx)
 ·obtain ⟨e,he,c,hc,_,rfl⟩:=Qxm hx;obtain ⟨h1,h2⟩:=Qhj he;exact Yb _ (Qsj (Lb h1) (Lb h2) hc)
theorem Qik {l:List Pt} (hl:∀ p∈l,Sc p.c):∀ p∈Qds l++Qjj l,Cp p:=λp hp=>by
 rcases Qu.1 hp with h | h
 ·exact Qzi hl p h
 ·exact Zdc hl p h
theorem Qc4 {α β:Type} (f:α->List β) (n:Nat):∀ (m:List α),(∀ x∈m,(f x).length≤n)->(m.flatMap f).length≤m.length*n
 | [],_=>by simp
 |
  x::m,h=>by
  have:=Qc4 f n m λy hy=>h y (Qj _ hy)
  have:=h x (by simp);rw [J0,Q4,Q7,Z7]; omega
theorem Qxl (sg:List Int->Int) (l C:List Pt):(Pa sg l C).length<=C.length*l.length:=by
 unfold Pa
 split
 ·simp
 ·refine Qc (Qc4 _ l.length _ λe _=>?_) (Q0 _ ?_)
  ·unfold Ss; rw [List.length_map]; exact List.length_filter_le _ _
  ·unfold Fq; rw [List.length_zip]; exact Nat.min_le_left _ _
theorem Qv6 {l:List Pt} (hl:∀ p∈l,Sc p.c) (hn:l.length≤10):BuildOk (bcH l) :=
 ⟨λ_ _ x hx=>Qik hl _ (Qpf x hx),λa _=>by
  have h1:=Qxl (G0 a) l (Hu l a);have h2:=A0 l a;have h3:(Hu l a).length*l.length<=20*10:=Zf (by omega) hn;show (bcS l a++Pa (G0 a) l (Hu l a)).length<=1000;have h4:(bcS l a).length<=l.length:=by unfold bcS; rw [Ni,Dc]; omega
  rw [Q4]; omega⟩
def Et {α:Type} (l:List α):List (α×α):=l.zip (l.drop 1)
theorem Qp8 {α:Type} {Q:α->α->Prop}:∀ {l:List α},Edg Q l↔∀ e∈Et l,Q e.1 e.2
 | []=>by simp [Edg,Et]
 | [_]=>by simp [Edg,Et]
 |
  a::b::l=>by
  have ih:=Qp8 (Q:=Q) (l:=b::l);have e:Et (a::b::l)=(a,b)::Et (b::l):=rfl;rw [e];constructor
  ·rintro ⟨h1,h2⟩ x hx
   rcases Qo.1 hx with rfl | hx
   ·exact h1
   ·exact ih.1 h2 x hx
  ·intro h;exact ⟨h (a,b) (by simp),ih.2 λx hx=>h x (Qj _ hx)⟩
theorem Qj7 {α:Type} (f z:α) (A:List α):Et (f::A++[z])=(f::A).zip (A++[z]):=by
 unfold Et;rw [Xd,Wo,Xp];have:f::(A++[z])=(f::A)++[z]:=rfl;rw [this];have h:A++[z]=(A++[z])++[]:=(Zo _).symm
 conv=>lhs; rw [h]
 rw [List.zip_append (by simp)];simp
theorem Qtj {f z:Pt} {A B:List Pt}:Fq ((f::A++[z]).dropLast++(z::B++[f]).dropLast)=Et (f::A++[z])++Et (z::B++[f]):=by
 rw [V7,V7,Qj7,Qj7,<-List.zip_append (by simp)];unfold Fq;congr 1;simp
theorem Edg.rev {α:Type} {Q:α->α->Prop}:∀ {l:List α},Edg Q l->Edg (λa b=>Q b a) l.reverse:=by
 have app:∀ {Q:α->α->Prop} {l:List α} {b a:α},Edg Q (l++[b])->Q b a->Edg Q (l++[b]++[a]):=by
  intro Q l
  induction l with
  | nil=>intro b a _ h; exact ⟨h,trivial⟩
  |
   cons x l ih =>
   intro b a h h2;cases l with
   | nil=>exact ⟨h.1,ih h.2 h2⟩
   | cons y l=>exact ⟨h.1,ih h.2 h2⟩
 intro l
 induction l with
 | nil=>intro _; trivial
 |
  cons a l ih =>
  intro h;cases l with
  | nil=>trivial
  |
   cons b l =>
   have:=ih h.2;rw [Yi] at this ⊢;rw [Yi];exact app this h.1
theorem Cnv.rev {α:Type} {R:α->α->α->Prop}:∀ {l:List α},Cnv R l->Cnv (λa b c=>R c b a) l.reverse:=by
 have app:∀ {R:α->α->α->Prop} {l:List α} {c b a:α},Cnv R (l++[c,b])->R c b a->Cnv R (l++[c,b,a]):=by
  intro R l
  induction l with
  | nil=>intro c b a _ h; exact ⟨h,trivial⟩
  |
   cons x l ih =>
   intro c b a h h2;cases l with
   | nil=>exact ⟨h.1,ih h.2 h2⟩
   |
    cons y l =>
    cases l with
    | nil=>exact ⟨h.1,ih h.2 h2⟩
    | cons w l=>exact ⟨h.1,ih h.2 h2⟩
 intro l
 induction l with
 | nil=>intro _; trivial
 |
  cons a l ih =>
  intro h
  match l,h with
  | [],_=>trivial
  | [_],_=>trivial
  |
   b::c::l,h =>
   have:=ih h.2;rw [Yi,Yi,Zl] at this;rw [Yi,Yi,Yi,Zl,Zl];exact app this h.1
end Orq
namespace Orr
open Go Go.Proofs Orq
set_option maxRecDepth 10000
theorem Qzt {a b c:Pt} {t:Tm} (ha:Sc a.c) (hb:Sc b.c) (hc:Sc c.c) (ht:Va t):Ut Tryz.prog 76 [.one (.int .i64 3),.agg (ta t),.one (.row [Hb a,Hb b,Hb c])] [.agg (Qcj (Pp (G0 t) a b c)),.one (.int .i64 0)]:=by
 have hp:=(Qf2 ha hb hc).dp;have e:Qcj (Pp (G0 t) a b c)=[.int .i64 3,.int .i64 a.id,.int .i64 b.id,.int .i64 c.id,.int .i64 0,pl (Ha a.c b.c c.c),.int .i64 (Tf (G0 t) (Ha a.c b.c c.c))]:=by rw [Pp]
 rw [e];have cg:=Qz5 hp ht;have cf:=Qsq ha hb hc;generalize Ha a.c b.c c.c=F at *;refine Gv Tryz.func76 rfl ?_;refine go tt [.c [] Q3t,.f rfl] rfl trivial ?_;refine lp (S:=Nat) 3 (λL1 i=>(22,.v (.one (.int .i64 (i:Int))))::L1) (λi=>[.blk 64 (ta t),.blk 122 zCt,.blk 122 [.int .i64 3,.int .i64 (if 1<=i then a.id else 0),.int .i64 (if 2<=i then b.id else 0),.int .i64 (if 3<=i then c.id else 0),.int .i64 0,.nils,.int .i64 0]]) (λi=>3-i) (λi=>i<=3) 0 (Qh _) rfl (λ_ _=>rfl) rfl λi hi=>?_
 rcases (show i=0\/i=1\/i=2\/i=3 by omega) with rfl | rfl | rfl | rfl
 ·refine go tt [.t rfl,.x (i:=0) (xs:=Hb a) rfl,.i 0] rfl (by simp [Ur]) ?_;exact rd 1 (by omega) (by omega) rfl
 ·refine go tt [.t rfl,.x (i:=1) (xs:=Hb b) rfl,.i 1] rfl (by simp [Ur]) ?_;exact rd 2 (by omega) (by omega) rfl
 ·refine go tt [.t rfl,.x (i:=2) (xs:=Hb c) rfl,.i 2] rfl (by simp [Ur]) ?_;exact rd 3 (by omega) (by omega) rfl
 ·exact en tt [.f rfl,.f rfl,.f rfl,.t rfl,.x (i:=0) (xs:=Hb a) rfl,.x (i:=1) (xs:=Hb b) rfl,.x (i:=2) (xs:=Hb c) rfl,.c [] cf,.c [] cg] rfl rfl trivial
theorem Er {α:Type} (s:α->α->α->Bool):∀ (l acc:List α) (c:α),S9 s acc (l++[c])=c::Db s c (S9 s acc l)
 | [],_,_=>rfl
 | _::l,_,c=>Er s l _ c
theorem Qz1 {R:List Pt} {t:Tm} (hR:∀ p∈R,Sc p.c) (hn:R.length≤1000000) (ht:Va t):Ut Tryz.prog 112 [.agg (ta t),.one (pts R)] [.one (pts (Sp (G0 t) R))]:=by
 have hcl:=Rj R;show Ut Tryz.prog 112 [.agg (ta t),.one (.row (Uy R))] [.one (.row (Uy (S9 (Qek (G0 t)) [] R).reverse))];obtain ⟨s,hs⟩:=nmE (Qek (G0 t));have hs':∀ a b c,s a b c=decide (0<Tf (G0 t) (Ha a.c b.c c.c)):=λa b c=>by rw [hs]; rfl
 rw [<-hs];refine Gv Tryz.func112 rfl ?_;refine go tt [.o 5 33 5] rfl trivial ?_;refine lp (S:=Nat) 2 (λL1 i=>(10,.v (.one (.int .i64 (i:Int))))::(5,.v (.one (.orow 1 5 none)))::L1) (λi=>[.blk 64 (ta t),.row false 33 5 (Uy (S9 s [] (R.take i)).reverse)]) (λi=>R.length-i) (λi=>i<=R.length) 0 (Qh _) rfl (λ_ _=>rfl) rfl λi hi=>?_
 by_cases hlt:i<R.length
 ·obtain ⟨c,hc⟩:=gxE (l:=R) (i:=i) hlt;have hcp:=hR c (Qa hc);have hst:S9 s [] (R.take (i+1))=c::Db s c (S9 s [] (R.take i)):=by rw [Zs,hc]; exact Er s _ _ c
  obtain ⟨O,hO⟩:=nmE (S9 s [] (R.take i));have hOl:O.length<=1000000:=by
   have:=Qc0 s (R.take i) [];rw [<-hO,Qr] at this; simp at this; omega
  have hOm:∀ x∈O,Sc x.c:=λx hx=>by
   rw [hO] at hx;rcases Qc1 hx with h | h
   ·cases h
   ·exact hR x (Qm h)
  rw [<-hO] at hst ⊢;have hrl:(Uy O.reverse).length=O.length:=by rw [Rj,Xt]
  have hm:∀ y∈[Hb c],y.length=5:=λy hy=>by rw [Qk.1 hy]; rfl
  have hget:∀ {pre r:List Pt} {x:Pt},O=pre++x::r->∀ j,j=r.length->(Uy O.reverse)[j]? = some (Hb x):=λ{pre r x} e j hj=>by
   refine Hr ?_;rw [e,hj]; simp
  have hfin:∀ {pre st:List Pt},O=pre++st->Uy (c::st).reverse=(Uy O.reverse).take st.length++[Hb c]:=λ{pre st} e=>by
   rw [e]; simp [Uy,Jp,List.take_append]
  have hfull:Uy (c::O).reverse=Uy O.reverse++[Hb c]:=by simp [Uy]
  refine go tt [.t (by simp [hcl]; omega),.x (Hr hc)] rfl trivial ?_;refine lp (S:=Bool×List Pt) 3 (λL1 s=>(5,.v (.one (.orow 1 5 (cond s.1 (some (0,s.2.length)) none))))::L1) (λ_=>[.blk 64 (ta t),.row false 33 5 (Uy O.reverse),.blk 33 (Hb c)]) (λs=>s.2.length) (λst=>(∃ pre,O=pre++st.2/\(st.1=false->pre=[]))/\Db s c st.2=Db s c O) (false,O) ⟨⟨[],rfl,λ_=>rfl⟩,rfl⟩ rfl (λ_ _=>rfl) rfl λ⟨b,st⟩ ⟨⟨pre,h1,h2⟩,h3⟩=>?_
  have h1:O=pre++st:=h1;have h3:Db s c st=Db s c O:=h3;have hl1:O.length=pre.length+st.length:=by rw [h1,Q4]
  have fin:∀ {st:List Pt},O=pre++st->Db s c st=Db s c O->Db s c st=st->Uy (S9 s [] (R.take (i+1))).reverse=(Uy O.reverse).take st.length++[Hb c]/\(pre=[]->Uy (S9 s [] (R.take (i+1))).reverse=Uy O.reverse++[Hb c]):=λ{st} e1 e2 e3=>by
   rw [hst,<-e2,e3];refine ⟨hfin e1,λhp=>?_⟩;rw [hp] at e1;rw [<-hfull,e1]; rfl
  rcases st with _ | ⟨z,_ | ⟨y,r⟩⟩
  ·obtain ⟨f1,f2⟩:=fin h1 h3 rfl;cases b with
   |
    false =>
    have hp:=h2 rfl;have f2:=f2 hp;rw [hp] at hl1;have hl2:(Uy O.reverse).length<=1:=by rw [hrl,hl1]; simp
    refine go tt [.g 17 false (decide_eq_false (by omega)),.f rfl,.s (sz:=5) hm] rfl (by simp [Ur]; omega) ?_;exact rd (i+1) (by omega) hlt (by rw [f2]; rfl)
   |
    true =>
    refine go tt [.g 17 false (decide_eq_false (by simp)),.f rfl,.s (sz:=5) hm] rfl (by simp [Ur]; omega) ?_;exact rd (i+1) (by omega) hlt (by rw [f1]; rfl)
  ·obtain ⟨f1,f2⟩:=fin h1 h3 rfl;cases b with
   |
    false =>
    have hp:=h2 rfl;have f2:=f2 hp;rw [hp] at hl1;have hl2:(Uy O.reverse).length<=1:=by rw [hrl,hl1]; simp
    refine go tt [.g 17 false (decide_eq_false (by omega)),.f rfl,.s (sz:=5) hm] rfl (by simp [Ur]; omega) ?_;exact rd (i+1) (by omega) hlt (by rw [f2]; rfl)
   |
    true =>
    refine go tt [.g 17 false (decide_eq_false (by simp)),.f rfl,.s (sz:=5) hm] rfl (by simp [Ur]; omega) ?_;exact rd (i+1) (by omega) hlt (by rw [f1]; rfl)
  ·have sz:=hOm z (by rw [h1]; simp);have sy:=hOm y (by rw [h1]; simp);have co:=Qsq sy sz hcp;have cg:=Qz5 (Qf2 sy sz hcp).dp ht;have gz:=hget h1 (r.length+1) rfl;have gy:=hget (pre:=pre++[z]) (r:=r) (x:=y) (by rw [h1]; simp) r.length rfl;have hl1:O.length=pre.length+(r.length+2):=hl1;have hls:=hs' y z c;by_cases hq:s y z c=true
   ·have hg:¬Tf (G0 t) (Ha y.c z.c c.c)<=0:=by rw [hls] at hq; have:=of_decide_eq_true hq; omega
    obtain ⟨f1,f2⟩:=fin h1 h3 (by simp only [Db]; rw [if_pos hq]);cases b with
    |
     false =>
     have hp:=h2 rfl;have f2:=f2 hp;rw [hp] at hl1;have hl2:(Uy O.reverse).length=r.length+2:=by rw [hrl,hl1]; simp
     refine go tt [.g 17 true (decide_eq_true (by omega)),.r 21 (eI (b:=(r.length:Int)) (by omega)),.i r.length,.x gy,.r 28 (eI (b:=((r.length+1:Nat):Int)) (by omega)),.i (r.length+1),.x gz,.c [] co,.c [] cg,.f (decide_eq_false hg),.s (sz:=5) hm] rfl (by simp [Ur]; omega) ?_;exact rd (i+1) (by omega) hlt (by rw [f2]; rfl)
    |
     true =>
     refine go tt [.g 17 true (decide_eq_true (by simp; omega)),.r 21 (eI (b:=(r.length:Int)) (by simp; omega)),.i r.length,.x (l:=Uy O.reverse) (i:=0+r.length) (xs:=Hb y) (by rw [Zx]; exact gy),.r 28 (eI (b:=((r.length+1:Nat):Int)) (by simp)),.i (r.length+1),.x (l:=Uy O.reverse) (i:=0+(r.length+1)) (xs:=Hb z) (by rw [Zx]; exact gz),.c [] co,.c [] cg,.f (decide_eq_false hg),.s (sz:=5) hm] rfl (by simp [Ur]; omega) ?_;exact rd (i+1) (by omega) hlt (by rw [f1]; rfl)
   ·have hg:Tf (G0 t) (Ha y.c z.c c.c)<=0:=by
     rw [hls] at hq; have:=of_decide_eq_false (Bool.eq_false_iff.2 hq); omega
    have hpop:Db s c (y::r)=Db s c O:=by rw [<-h3]; simp only [Db]; rw [if_neg hq]
    have hin:(∃ pre',O=pre'++(y::r)/\((true:Bool)=false->pre'=[]))/\Db s c (y::r)=Db s c O:=⟨⟨pre++[z],by rw [h1]; simp,λh=>by cases h⟩,hpop⟩;cases b with
    |
     false =>
     have hp:=h2 rfl;rw [hp] at hl1;have hl2:(Uy O.reverse).length=r.length+2:=by rw [hrl,hl1]; simp
     refine go tt [.g 17 true (decide_eq_true (by omega)),.r 21 (eI (b:=(r.length:Int)) (by omega)),.i r.length,.x gy,.r 28 (eI (b:=((r.length+1:Nat):Int)) (by omega)),.i (r.length+1),.x gz,.c [] co,.c [] cg,.t (decide_eq_true hg),.r 42 (eI (b:=((r.length+1:Nat):Int)) (by omega)),.i (r.length+1)] rfl (by simp [Ur]; omega) ?_;exact rd (true,y::r) (by simp) hin rfl
    |
     true =>
     refine go tt [.g 17 true (decide_eq_true (by simp; omega)),.r 21 (eI (b:=(r.length:Int)) (by simp; omega)),.i r.length,.x (l:=Uy O.reverse) (i:=0+r.length) (xs:=Hb y) (by rw [Zx]; exact gy),.r 28 (eI (b:=((r.length+1:Nat):Int)) (by simp)),.i (r.length+1),.x (l:=Uy O.reverse) (i:=0+(r.length+1)) (xs:=Hb z) (by rw [Zx]; exact gz),.c [] co,.c [] cg,.t (decide_eq_true hg),.r 42 (eI (b:=((r.length+1:Nat):Int)) (by simp)),.i (r.length+1)] rfl (by simp [Ur]; omega) ?_;exact rd (true,y::r) (by simp) hin rfl
 ·obtain rfl:i=R.length:=by omega
  rw [Qy];exact en tt [.f (by simp [hcl])] rfl rfl trivial
theorem Qw5 {sg:List Int->Int} {R:List Pt} (h:R≠[]):0<(Sp sg R).length:=by
 unfold Sp;rw [Xt];obtain ⟨x,hx⟩:∃ x,R.getLast? = some x:=⟨_,Yk h⟩;obtain ⟨l,hl⟩:=Y4.1 hx;rw [hl,Er]; simp
theorem Quw {α:Type} (s:α->α->α->Bool) (c:α):∀ {st:List α},st≠[]->0<(Db s c st).length
 | [],h=>absurd rfl h
 | [_],_=>by simp [Db]
 |
  b::a::r,_=>by
  simp only [Db]
  split
  ·simp
  ·exact Quw s c (by simp)
theorem Qj1 {sg:List Int->Int} {R:List Pt} (h:2<=R.length):2<=(Sp sg R).length:=by
 unfold Sp;rw [Xt];obtain ⟨x,hx⟩:∃ x,R.getLast? = some x:=⟨_,Yk (by intro e; rw [e] at h; simp at h)⟩;obtain ⟨l,hl⟩:=Y4.1 hx;have hl0:l≠[]:=by intro e; rw [hl,e] at h; simp at h
 have:=Qw5 (sg:=sg) hl0;unfold Sp at this;rw [Xt] at this;have:=Quw (Qek sg) x (st:=S9 (Qek sg) [] l) (by intro e; rw [e] at this; simp at this);rw [hl,Er,Q7]; omega
theorem Q0f {R:List Pt} {t:Tm} (hR:∀ p∈R,Sc p.c) (hn:R.length≤1000000) (ht:Va t):Ut Tryz.prog 71 [.agg (ta t),.one (pts R)] [.one (pts (Dq (G0 t) R))]:=by
 have hcl:=Rj R;have hrl:=Rj R.reverse;rw [Xt] at hrl;show Ut Tryz.prog 71 [.agg (ta t),.one (.row (Uy R))] [.one (.row (Uy (Dq (G0 t) R)))];refine Gv Tryz.func71 rfl ?_;by_cases h3:R.length<3
 ·have e:Dq (G0 t) R=R:=if_pos h3;rw [e];exact en tt [.t (decide_eq_true (by omega))] rfl rfl trivial
 have c1:=Qz1 hR hn ht;have c2:=Qz1 (R:=R.reverse) (λp hp=>hR p (Jc.1 hp)) (by rw [Xt]; exact hn) ht;have p1:=Qj1 (sg:=G0 t) (R:=R) (by omega);have p2:=Qj1 (sg:=G0 t) (R:=R.reverse) (by rw [Xt]; omega);have k1:=I2 (G0 t) R;have k2:=I2 (G0 t) R.reverse;rw [Xt] at k2;refine go tt [.f (decide_eq_false (by omega)),.o 5 33 5,.r 15 (eI (b:=(R.length:Int)-1-((0:Nat):Int)) (by omega))] rfl (by simp [Ur,hcl]; omega) ?_;refine lp (S:=Nat) 2 (λL1 j=>(6,.v (.one (.int .i64 ((R.length:Int)-1-(j:Int)))))::(5,.v (.one (.orow 1 5 none)))::L1) (λj=>[.blk 64 (ta t),.row false 33 5 (Uy (R.reverse.take j))]) (λj=>R.length-j) (λj=>j<=R.length) 0 (Qh _) rfl (λ_ _=>rfl) rfl λj hj=>?_
 by_cases hlt:j<R.length
 ·obtain ⟨x,hx⟩:=gxE (l:=R) (i:=R.length-1-j) (by omega);have hx':R.reverse[j]? = some x:=by rw [List.getElem?_reverse (by omega)]; exact hx
  have hm:∀ y∈[Hb x],y.length=5:=λy hy=>by rw [Qk.1 hy]; rfl
  have e:Uy (R.reverse.take (j+1))=Uy (R.reverse.take j)++[Hb x]:=by rw [Zs,hx']; simp [Uy]
  have htl:(Uy (R.reverse.take j)).length=j:=by rw [Rj,Qr,Xt]; omega
  refine go tt [.t (decide_eq_true (by omega)),.r 22 (eI (b:=((R.length-1-j:Nat):Int)) (by omega)),.x (Hr hx),.s (sz:=5) hm,.r 19 (eI (b:=(R.length:Int)-1-((j+1:Nat):Int)) (by omega))] rfl (by simp [Ur,htl]; omega) ?_;exact rd (j+1) (by omega) hlt (by rw [e]; rfl)
 ·obtain rfl:j=R.length:=by omega
  rw [Qn (by rw [Xt]; exact Ql _)];obtain ⟨A,hA⟩:=nmE (Sp (G0 t) R);obtain ⟨C,hC⟩:=nmE (Sp (G0 t) R.reverse);have e:Dq (G0 t) R=A.dropLast++C.dropLast:=by rw [hA,hC]; exact if_neg h3
  rw [<-hA] at c1 p1 k1;rw [<-hC] at c2 p2 k2;rw [e];have hs:∀ y∈(C.map Hb).take (C.length-1),y.length=5:=λy hy=>Qrk C y (Qm hy)
  have hs2:∀ y∈(A.map Hb).take (A.length-1),y.length=5:=λy hy=>Qrk A y (Qm hy)
  refine en tt [.f (decide_eq_false (by omega)),.p 1,.c [] c1,.c [] c2,.r 36 (eI (b:=((A.length-1:Nat):Int)) (by simp; omega)),.r 39 (eI (b:=((A.length-1:Nat):Int)) (by simp; omega)),.i (A.length-1),.r 44 (eI (b:=((C.length-1:Nat):Int)) (by simp; omega)),.i (C.length-1),.s (sz:=5) hs] rfl (by simp [Uy,Jp,List.dropLast_eq_take]) ?_;simp only [Ur,Qr,Q6]
  and_intros <;> first | exact hs2 | omega
theorem Qhh {l:List Pt} {t:Tm} (hl:∀ p∈l,Sc p.c) (hn:l.length≤1000000) (ht:Va t):Hh Tryz.prog 75 [.agg (ta t),.one (pts l)] [] [.one (.orow 0 7 none)] [.row false 122 7 (Fj (Si (G0 t) l))]:=by
 have hcl:=Rj l;show Hh Tryz.prog 75 [.agg (ta t),.one (.row (Uy l))] [] [.one (.orow 0 7 none)] [.row false 122 7 (Fj (Si (G0 t) l))];refine Gv Tryz.func75 rfl ?_;refine go tt [.o 5 122 7] rfl trivial ?_;refine lp (S:=Nat) 2 (λL1 i=>(6,.v (.one (.int .i64 ((i+1:Nat):Int))))::(5,.v (.one (.orow 1 7 none)))::L1) (λi=>[.blk 64 (ta t),.row false 122 7 (Fj ((Si (G0 t) l).take i))]) (λi=>l.length-i) (λi=>i<=l.length-1) 0 (Qh _) rfl (λ_ _=>rfl) rfl λi hi=>?_
 by_cases hlt:i+1<l.length
 ·obtain ⟨a,ha⟩:=gxE (l:=l) (i:=i) (by omega);obtain ⟨b,hb⟩:=gxE (l:=l) (i:=i+1) hlt;have hg:=Qg3 (G0 t) ha hb;have hm:∀ y∈[Qcj (Nw (G0 t) a b)],y.length=7:=λy hy=>by rw [Qk.1 hy]; rfl
  refine go tt [.t (by simp [hcl]; omega),.r 19 (eI (b:=(i:Int)) (by simp)),.x (Hr ha),.x (Hr hb),.c [] (Zdr (hl a (Qa ha)) (hl b (Qa hb)) ht),.s (sz:=7) hm,.r 14 (eI (b:=((i+1+1:Nat):Int)) (by simp))] rfl (by simp [Ur,Rj,Ca,Ni]; omega) ?_;exact rd (i+1) (by omega) (by omega) (by rw [hg]; simp [Fj]; rfl)
 ·have e:(Si (G0 t) l).take i=Si (G0 t) l:=Qn (by rw [Ni]; omega);rw [e];exact ed tt [] [1] [.f (by simp [hcl]; omega)] rfl trivial
theorem Qai {C:List Pt} {i:Nat} {a b:Pt} (ha:C[i]? = some a) (hb:C[(i+1) % C.length]? = some b):(Fq C)[i]? = some (a,b):=by
 have hi:=(Qd.1 ha).1;unfold Fq;rw [List.getElem?_zip_eq_some];refine ⟨ha,?_⟩;by_cases h:i+1<C.length
 ·rw [Xw h] at hb;rw [Zj (by rw [X7]; omega),Z6,Ja]; exact hb
 ·have e:i+1=C.length:=by omega
  rw [e,Nat.mod_self] at hb;rw [Z3 (by rw [X7]; omega),X7,show i-(C.length-1)=0 by omega,Ks (by omega)]; exact hb
theorem Ez (C:List Pt):(Fq C).length=C.length:=by
 unfold Fq;rw [List.length_zip,Q4,X7,Qr]; omega
theorem Ei {α β:Type} {f:α->List β} {l:List α} {i:Nat} {x:α} (h:l[i]? = some x):(l.take (i+1)).flatMap f=(l.take i).flatMap f++f x:=by
 rw [Zs,h]; simp
theorem Cm {α β:Type} {f:α->β} {p:α->Bool} {l:List α} {i:Nat} {x:α} (h:l[i]? = some x):((l.take (i+1)).filter p).map f=((l.take i).filter p).map f++if p x=true then [f x] else []:=by
 rw [Zs,h,List.filter_append,J1];congr 1;simp only [Option.toList];by_cases hp:p x=true
 ·rw [if_pos hp,X2 hp]; rfl
 ·rw [if_neg hp,Ju hp]; rfl
theorem E5 {α β:Type} {f:α->List β} {n:Nat} (hf:∀ x,(f x).length<=n) (l:List α):(l.flatMap f).length<=l.length*n:=Qc4 f n l λx _=>hf x
theorem Q27 {l:List Pt} (hl:∀ p∈l,Sc p.c):∀ p∈l,Qv1 4294967294 1073741824 p:=λp hp=>⟨(hl p hp).n,(hl p hp).c.mono (by decide) (by decide)⟩
set_option maxHeartbeats 4000000 in
theorem Q3l {l:List Pt} {a:Tm} {c:Cr} {r1:List (List LV)} (hl:∀ p∈l,Sc p.c) (hn:l.length≤10) (ha:Va a):Hh Tryz.prog 40 [.one (.ow 0 0),.agg (ta a)] [.blk 71 (B9 c (Uy l) r1)] [.one (.row (Fj (bcH l a)))] [.blk 71 (B9 c (Uy l) (brH l a))]:=by
 have hwl:=Qmg l;have cw:=Q67 (l:=l) (Q27 hl) (by omega);have cr:=Qzy (l:=Mc l) (λp hp=>hl p (Mp hp)) (by omega) ha;have cn:=Q0f (R:=Sl a (Mc l)) (λp hp=>hl p (Mp (Hq.1 hp))) (by rw [Dc]; omega) ha;have cr2:=Qzy hl (by omega) ha;have cc:=Qhh (l:=Sl a l) (t:=a) (λp hp=>hl p (Hq.1 hp)) (by rw [Dc]; omega) ha;have hCm:∀ p∈Hu l a,p∈l:=λp hp=>Lb hp
 have hCl:=A0 l a;have e0:bcH l a=bcS l a++Pa (G0 a) l (Hu l a):=rfl;rw [e0];show Hh Tryz.prog 40 _ _ _ [.blk 71 (B9 c (Uy l) (Uy (Hu l a)))];have cn:Ut Tryz.prog 71 [.agg (ta a),.one (pts (Sl a (Mc l)))] [.one (pts (Hu l a))]:=cn;have cc:Hh Tryz.prog 75 [.agg (ta a),.one (pts (Sl a l))] [] [.one (.orow 0 7 none)] [.row false 122 7 (Fj (bcS l a))]:=cc;have hbl:(bcS l a).length<=10:=by unfold bcS; rw [Ni,Dc]; omega
 obtain ⟨C,hC⟩:=nmE (Hu l a);obtain ⟨cs0,hc0⟩:=nmE (bcS l a);rw [<-hC] at cn hCm hCl ⊢;rw [<-hc0] at cc hbl ⊢;have hcp:=Rj C;have hlp:=Rj l;have eel:∀ x,(Ss (G0 a) l x).length<=l.length:=λx=>by unfold Ss; rw [List.length_map]; exact List.length_filter_le _ _
 refine Gv Tryz.func40 rfl ?_;refine go tt [.c [] cw,.c [] cr,.c [] cn,.c [] Qpk,.c [] cr2,.c [2] cc] rfl trivial ?_;by_cases h2:C.length<2
 ·have e:Pa (G0 a) l C=[]:=if_pos h2;rw [e,Zo];exact ed tt [2] [0] [.t (decide_eq_true (by simp; omega))] rfl trivial
 have e:Pa (G0 a) l C=(Fq C).flatMap (Ss (G0 a) l):=if_neg h2;rw [e];refine go tt [.f (decide_eq_false (by simp; omega))] rfl trivial ?_;refine sb [(48,.v (.one (.int .i64 0))),(47,.v (.one (.int .i64 ((C.map Hb).length:Int)))),(46,.v (.one (pts C))),(6,.v (.one (.orow 2 7 none))),(3,.v (.one (.ow 1 0))),(0,.v (.one (.ow 0 0)))] [.blk 71 (B9 c (Uy l) (Uy C)),.blk 64 (ta a),.row false 122 7 (Fj cs0)] rfl rfl ?_;rw [show Fj cs0=Fj (cs0++((Fq C).take 0).flatMap (Ss (G0 a) l)) by simp];refine lp (S:=Nat) 3 (λL1 i=>(48,.v (.one (.int .i64 (i:Int))))::(6,.v (.one (.orow 2 7 none)))::L1) (λi=>[.blk 71 (B9 c (Uy l) (Uy C)),.blk 64 (ta a),.row false 122 7 (Fj (cs0++((Fq C).take i).flatMap (Ss (G0 a) l)))]) (λi=>C.length-i) (λi=>i<=C.length) 0 (Qh _) rfl (λ_ _=>rfl) rfl λi hi=>?_
 by_cases hlt:i<C.length
 ·obtain ⟨x,hx⟩:=gxE (l:=C) (i:=i) hlt;obtain ⟨y,hy⟩:=gxE (l:=C) (i:=(i+1) % C.length) (Z4 _ (by omega));have he:=Qai hx hy;have sx:=hl x (hCm x (Qa hx));have sy:=hl y (hCm y (Qa hy));have hflat:=Ei (f:=Ss (G0 a) l) he;obtain ⟨F,hF⟩:=nmE (cs0++((Fq C).take i).flatMap (Ss (G0 a) l));have hFl:F.length<=10+20*10:=by
   have h1:=E5 eel ((Fq C).take i);have h2:((Fq C).take i).length*l.length<=20*10:=Zf (by rw [Qr]; omega) hn;rw [hF,Q4]; omega
  have hmod:(((i+1:Nat):Int)).tmod ((C.map Hb).length:Int)=(((i+1) % C.length:Nat):Int):=by rw [Q6]; exact (Int.ofNat_tmod _ _).symm
  have hm0:=Yd ((i+1:Nat):Int) (show (C.length:Int)≠0 by omega);have hm1:=Jl ((i+1:Nat):Int) (show (0:Int)<C.length by omega);have hnext:cs0++((Fq C).take (i+1)).flatMap (Ss (G0 a) l)=F++(l.filter (Se (x,y))).map λc=>Pp (G0 a) x y c:=by rw [hflat,<-Zl,<-hF]; rfl
  rw [<-hF];refine go tt [.t (decide_eq_true (by simp; omega)),.x (Hr hx),.r 58 (eI (b:=((i+1:Nat):Int)) (by simp)),.r 64 (eI (b:=(((i+1) % C.length:Nat):Int)) hmod),.x (Hr hy),.c [] Qpk] rfl (by simp only [Ur]; omega) ?_;rw [show Fj F=Fj (F++((l.take 0).filter (Se (x,y))).map λc=>Pp (G0 a) x y c) by simp];refine lp (S:=Nat) 5 (λL1 k=>(73,.v (.one (.int .i64 (k:Int))))::(6,.v (.one (.orow 2 7 none)))::L1) (λk=>[.blk 71 (B9 c (Uy l) (Uy C)),.blk 64 (ta a),.row false 122 7 (Fj (F++((l.take k).filter (Se (x,y))).map λc=>Pp (G0 a) x y c)),.blk 33 (Hb x),.blk 33 (Hb y)]) (λk=>l.length-k) (λk=>k<=l.length) 0 (Qh _) rfl (λ_ _=>rfl) rfl λk hk=>?_
  by_cases hlk:k<l.length
  ·obtain ⟨z,hz⟩:=gxE (l:=l) (i:=k) hlk;have sz:=hl z (Qa hz);have hflt:=Cm (f:=λc=>Pp (G0 a) x y c) (p:=Se (x,y)) hz;obtain ⟨G,hG⟩:=nmE (((l.take k).filter (Se (x,y))).map λc=>Pp (G0 a) x y c);have hGl:G.length<=10:=by
    have h1:=V0 (Se (x,y)) (l.take k);rw [Qr] at h1;rw [hG,Q6]; omega
   rw [<-hG] at hflt ⊢;by_cases h1:z.id=x.id
   ·rw [if_neg (show ¬Se (x,y) z=true by simp [Se,h1]),Zo] at hflt;refine go tt [.t (decide_eq_true (by simp; omega)),.x (Hr hz),.g 82 false (decide_eq_false (by simp [h1])),.f rfl] rfl (by simp [Ur]; omega) ?_;exact rd (k+1) (by omega) hlk (by rw [hflt]; rfl)
   ·by_cases h2:z.id=y.id
    ·rw [if_neg (show ¬Se (x,y) z=true by simp [Se,h2]),Zo] at hflt;refine go tt [.t (decide_eq_true (by simp; omega)),.x (Hr hz),.g 82 true (decide_eq_true h1),.f (decide_eq_false (by simp [h2]))] rfl (by simp [Ur]; omega) ?_;exact rd (k+1) (by omega) hlk (by rw [hflt]; rfl)
    ·rw [if_pos (show Se (x,y) z=true by simp [Se,h1,h2])] at hflt;have hm:∀ q∈[Qcj (Pp (G0 a) x y z)],q.length=7:=λq hq=>by rw [Qk.1 hq]; rfl
     refine go tt [.t (decide_eq_true (by simp; omega)),.x (Hr hz),.g 82 true (decide_eq_true h1),.t (decide_eq_true h2),.c [] (Qzt sx sy sz ha),.s (sz:=7) hm] rfl (by simp [Ur,Ca]; omega) ?_;have e3:Fj (F++(G++[Pp (G0 a) x y z]))=Fj (F++G)++[Qcj (Pp (G0 a) x y z)]:=by simp [Fj]
     exact rd (k+1) (by omega) hlk (by rw [hflt,e3]; rfl)
  ·obtain rfl:k=l.length:=by omega
   rw [Qy,<-hnext];refine go tt [.f (decide_eq_false (by simp))] rfl (by simp [Ur]; omega) ?_;exact rd (i+1) (by omega) hlt rfl
 ·obtain rfl:i=C.length:=by omega
  rw [Qn (by rw [Ez]; exact Ql _)];exact ed tt [2] [0] [.f (decide_eq_false (by simp))] rfl trivial
set_option maxHeartbeats 4000000 in
theorem Q3k {l:List Pt} {a:Tm} (hl:∀ p∈l,Sc p.c) (hn:l.length≤10) (ha:Va a):Hh Tryz.prog 40 [.one (.ow 0 0),.agg (ta a)] [.blk 71 (crz (.row (Uy l)) .nils)] [.one (.row (Fj (bcH l a)))] [.blk 71 (crz (.row (Uy l)) (.row (brH l a)))]:=by
 have hwl:=Qmg l;have cw:=Q67 (l:=l) (Q27 hl) (by omega);have cr:=Qzy (l:=Mc l) (λp hp=>hl p (Mp hp)) (by omega) ha;have cn:=Q0f (R:=Sl a (Mc l)) (λp hp=>hl p (Mp (Hq.1 hp))) (by rw [Dc]; omega) ha;have cr2:=Qzy hl (by omega) ha;have cc:=Qhh (l:=Sl a l) (t:=a) (λp hp=>hl p (Hq.1 hp)) (by rw [Dc]; omega) ha;have hCm:∀ p∈Hu l a,p∈l:=λp hp=>Lb hp
 have hCl:=A0 l a;have e0:bcH l a=bcS l a++Pa (G0 a) l (Hu l a):=rfl;rw [e0];show Hh Tryz.prog 40 _ _ _ [.blk 71 (crz (.row (Uy l)) (.row (Uy (Hu l a))))];have cn:Ut Tryz.prog 71 [.agg (ta a),.one (pts (Sl a (Mc l)))] [.one (pts (Hu l a))]:=cn;have cc:Hh Tryz.prog 75 [.agg (ta a),.one (pts (Sl a l))] [] [.one (.orow 0 7 none)] [.row false 122 7 (Fj (bcS l a))]:=cc;have hbl:(bcS l a).length<=10:=by unfold bcS; rw [Ni,Dc]; omega
 obtain ⟨C,hC⟩:=nmE (Hu l a);obtain ⟨cs0,hc0⟩:=nmE (bcS l a);rw [<-hC] at cn hCm hCl ⊢;rw [<-hc0] at cc hbl ⊢;have hcp:=Rj C;have hlp:=Rj l;have eel:∀ x,(Ss (G0 a) l x).length<=l.length:=λx=>by unfold Ss; rw [List.length_map]; exact List.length_filter_le _ _
 refine Gv Tryz.func40 rfl ?_;refine go tt [.c [] cw,.c [] cr,.c [] cn,.c [] Qpk,.c [] cr2,.c [2] cc] rfl trivial ?_;by_cases h2:C.length<2
 ·have e:Pa (G0 a) l C=[]:=if_pos h2;rw [e,Zo];exact ed tt [2] [0] [.t (decide_eq_true (by simp; omega))] rfl trivial
 have e:Pa (G0 a) l C=(Fq C).flatMap (Ss (G0 a) l):=if_neg h2;rw [e];refine go tt [.f (decide_eq_false (by simp; omega))] rfl trivial ?_;refine sb [(48,.v (.one (.int .i64 0))),(47,.v (.one (.int .i64 ((C.map Hb).length:Int)))),(46,.v (.one (pts C))),(6,.v (.one (.orow 2 7 none))),(3,.v (.one (.ow 1 0))),(0,.v (.one (.ow 0 0)))] [.blk 71 (crz (.row (Uy l)) (.row (Uy C))),.blk 64 (ta a),.row false 122 7 (Fj cs0)] rfl rfl ?_;rw [show Fj cs0=Fj (cs0++((Fq C).take 0).flatMap (Ss (G0 a) l)) by simp];refine lp (S:=Nat) 3 (λL1 i=>(48,.v (.one (.int .i64 (i:Int))))::(6,.v (.one (.orow 2 7 none)))::L1) (λi=>[.blk 71 (crz (.row (Uy l)) (.row (Uy C))),.blk 64 (ta a),.row false 122 7 (Fj (cs0++((Fq C).take i).flatMap (Ss (G0 a) l)))]) (λi=>C.length-i) (λi=>i<=C.length) 0 (Qh _) rfl (λ_ _=>rfl) rfl λi hi=>?_
 by_cases hlt:i<C.length
 ·obtain ⟨x,hx⟩:=gxE (l:=C) (i:=i) hlt;obtain ⟨y,hy⟩:=gxE (l:=C) (i:=(i+1) % C.length) (Z4 _ (by omega));have he:=Qai hx hy;have sx:=hl x (hCm x (Qa hx));have sy:=hl y (hCm y (Qa hy));have hflat:=Ei (f:=Ss (G0 a) l) he;obtain ⟨F,hF⟩:=nmE (cs0++((Fq C).take i).flatMap (Ss (G0 a) l));have hFl:F.length<=10+20*10:=by
   have h1:=E5 eel ((Fq C).take i);have h2:((Fq C).take i).length*l.length<=20*10:=Zf (by rw [Qr]; omega) hn;rw [hF,Q4]; omega
  have hmod:(((i+1:Nat):Int)).tmod ((C.map Hb).length:Int)=(((i+1) % C.length:Nat):Int):=by rw [Q6]; exact (Int.ofNat_tmod _ _).symm
  have hm0:=Yd ((i+1:Nat):Int) (show (C.length:Int)≠0 by omega);have hm1:=Jl ((i+1:Nat):Int) (show (0:Int)<C.length by omega);have hnext:cs0++((Fq C).take (i+1)).flatMap (Ss (G0 a) l)=F++(l.filter (Se (x,y))).map λc=>Pp (G0 a) x y c:=by rw [hflat,<-Zl,<-hF]; rfl
  rw [<-hF];refine go tt [.t (decide_eq_true (by simp; omega)),.x (Hr hx),.r 58 (eI (b:=((i+1:Nat):Int)) (by simp)),.r 64 (eI (b:=(((i+1) % C.length:Nat):Int)) hmod),.x (Hr hy),.c [] Qpk] rfl (by simp only [Ur]; omega) ?_;rw [show Fj F=Fj (F++((l.take 0).filter (Se (x,y))).map λc=>Pp (G0 a) x y c) by simp];refine lp (S:=Nat) 5 (λL1 k=>(73,.v (.one (.int .i64 (k:Int))))::(6,.v (.one (.orow 2 7 none)))::L1) (λk=>[.blk 71 (crz (.row (Uy l)) (.row (Uy C))),.blk 64 (ta a),.row false 122 7 (Fj (F++((l.take k).filter (Se (x,y))).map λc=>Pp (G0 a) x y c)),.blk 33 (Hb x),.blk 33 (Hb y)]) (λk=>l.length-k) (λk=>k<=l.length) 0 (Qh _) rfl (λ_ _=>rfl) rfl λk hk=>?_
  by_cases hlk:k<l.length
  ·obtain ⟨z,hz⟩:=gxE (l:=l) (i:=k) hlk;have sz:=hl z (Qa hz);have hflt:=Cm (f:=λc=>Pp (G0 a) x y c) (p:=Se (x,y)) hz;obtain ⟨G,hG⟩:=nmE (((l.take k).filter (Se (x,y))).map λc=>Pp (G0 a) x y c);have hGl:G.length<=10:=by
    have h1:=V0 (Se (x,y)) (l.take k);rw [Qr] at h1;rw [hG,Q6]; omega
   rw [<-hG] at hflt ⊢;by_cases h1:z.id=x.id
   ·rw [if_neg (show ¬Se (x,y) z=true by simp [Se,h1]),Zo] at hflt;refine go tt [.t (decide_eq_true (by simp; omega)),.x (Hr hz),.g 82 false (decide_eq_false (by simp [h1])),.f rfl] rfl (by simp [Ur]; omega) ?_;exact rd (k+1) (by omega) hlk (by rw [hflt]; rfl)
   ·by_cases h2:z.id=y.id
    ·rw [if_neg (show ¬Se (x,y) z=true by simp [Se,h2]),Zo] at hflt;refine go tt [.t (decide_eq_true (by simp; omega)),.x (Hr hz),.g 82 true (decide_eq_true h1),.f (decide_eq_false (by simp [h2]))] rfl (by simp [Ur]; omega) ?_;exact rd (k+1) (by omega) hlk (by rw [hflt]; rfl)
    ·rw [if_pos (show Se (x,y) z=true by simp [Se,h1,h2])] at hflt;have hm:∀ q∈[Qcj (Pp (G0 a) x y z)],q.length=7:=λq hq=>by rw [Qk.1 hq]; rfl
     refine go tt [.t (decide_eq_true (by simp; omega)),.x (Hr hz),.g 82 true (decide_eq_true h1),.t (decide_eq_true h2),.c [] (Qzt sx sy sz ha),.s (sz:=7) hm] rfl (by simp [Ur,Ca]; omega) ?_;have e3:Fj (F++(G++[Pp (G0 a) x y z]))=Fj (F++G)++[Qcj (Pp (G0 a) x y z)]:=by simp [Fj]
     exact rd (k+1) (by omega) hlk (by rw [hflt,e3]; rfl)
  ·obtain rfl:k=l.length:=by omega
   rw [Qy,<-hnext];refine go tt [.f (decide_eq_false (by simp))] rfl (by simp [Ur]; omega) ?_;exact rd (i+1) (by omega) hlt rfl
 ·obtain rfl:i=C.length:=by omega
  rw [Qn (by rw [Ez]; exact Ql _)];exact ed tt [2] [0] [.f (decide_eq_false (by simp))] rfl trivial
def Ql7 (a b:Crv):Bool:=decide ((Ql5 (Ao a.x a.d) (Ao b.x b.d)).length=0) && decide ((Ql5 (Ao a.y a.d) (Ao b.y b.d)).length=0)
theorem Zeb {a b:Crv} (ha:Rs a) (hb:Rs b):Ut Tryz.prog 255 [.agg (rcl a),.agg (rcl b)] [.one (.bool (Ql7 a b))]:=by
 have lx1:=ha.c.lx;have ly1:=ha.c.ly;have lx2:=hb.c.lx;have ly2:=hb.c.ly;have cx:=Qw0 (p:=Ao a.x a.d) (q:=Ao b.x b.d) (Qdh (Us ha.c.x (by decide)) (Qc ha.c.d (by decide)) (by decide)) (Qdh (Us hb.c.x (by decide)) (Qc hb.c.d (by decide)) (by decide)) (by rw [Mv]; omega) (by rw [Mv]; omega);have cy:=Qw0 (p:=Ao a.y a.d) (q:=Ao b.y b.d) (Qdh (Us ha.c.y (by decide)) (Qc ha.c.d (by decide)) (by decide)) (Qdh (Us hb.c.y (by decide)) (Qc hb.c.d (by decide)) (by decide)) (by rw [Mv]; omega) (by rw [Mv]; omega);unfold Ql7;generalize Ql5 (Ao a.x a.d) (Ao b.x b.d)=X at *;generalize Ql5 (Ao a.y a.d) (Ao b.y b.d)=Y at *;have hX:(frow X).length=X.length:=by simp [frow]
 have hY:(frow Y).length=Y.length:=by simp [frow]
 by_cases h:X.length=0
 ·by_cases h':Y.length=0
  ·rw [decide_eq_true h,decide_eq_true h'];exact w tt Tryz.func255 rfl [.c [] cx,.g 12 true (decide_eq_true (by omega)),.c [] cy,.g 19 true (decide_eq_true (by omega))] rfl rfl trivial
  ·rw [decide_eq_true h,decide_eq_false h'];exact w tt Tryz.func255 rfl [.c [] cx,.g 12 true (decide_eq_true (by omega)),.c [] cy,.g 19 false (decide_eq_false (by omega))] rfl rfl trivial
 ·rw [decide_eq_false h];exact w tt Tryz.func255 rfl [.c [] cx,.g 12 false (decide_eq_false (by omega))] rfl rfl trivial
def Qii (out:List Pt) (p:Pt):List Pt:=if (out.any λo=>Ql7 o.c p.c)=true then out else out++[p]
def Aa (l:List Pt):List Pt:=(Fx El l).foldl Qii []
theorem Qfj:∀ (M O:List Pt),(∀ p∈M.foldl Qii O,p∈O\/p∈M)/\(M.foldl Qii O).length≤O.length+M.length
 | [],O=>⟨λp hp=>.inl hp,by simp⟩
 |
  x::M,O=>by
  obtain ⟨h1,h2⟩:=Qfj M (Qii O x);have e1:(Qii O x).length<=O.length+1:=by unfold Qii; split <;> simp
  refine ⟨λp hp=>?_,by rw [Z5,Q7]; omega⟩;rcases h1 p hp with h | h
  ·unfold Qii at h
   split at h
   ·exact .inl h
   ·rcases Qu.1 h with h | h
    ·exact .inl h
    ·exact .inr (by rw [Qk.1 h]; simp)
  ·exact .inr (Qj _ h)
theorem Qhb {l:List Pt} {p:Pt} (h:p∈Aa l):p∈l:=by
 rcases (Qfj (Fx El l) []).1 p h with h | h
 ·cases h
 ·exact S7.1 h
theorem Qpb (l:List Pt):(Aa l).length<=l.length:=by
 have:=(Qfj (Fx El l) []).2;rw [H9,Vk,Zx] at this;exact this
theorem Zcd {α:Type} {f:α->Bool} {l:List α} {i:Nat} {x:α} (h:l[i]? = some x):(l.take (i+1)).any f=((l.take i).any f || f x):=by
 rw [Zs,h,List.any_append]; simp
theorem Zed {l:List Pt} (hl:∀ p∈l,Rs p.c) (hn:l.length≤1000):Ut Tryz.prog 231 [.one (.row (Fa l))] [.one (.row (Fa (Aa l)))]:=by
 have c1:=Q0d (l:=l) (by omega);have hML:(Fx El l).length=l.length:=H9 _ _;have hMl:∀ p∈Fx El l,Rs p.c:=λp hp=>hl p (S7.1 hp)
 unfold Aa;obtain ⟨M,hM⟩:=nmE (Fx El l);rw [<-hM] at c1 hML hMl ⊢;have hcl:=Hl M;refine Gv Tryz.func231 rfl ?_;refine go tt [.o 3 92 7,.c [] c1] rfl trivial ?_;refine lp (S:=Nat) 1 (λL1 i=>(11,.v (.one (.int .i64 (i:Int))))::(3,.v (.one (.orow 0 7 none)))::L1) (λi=>[.row false 92 7 (Fa ((M.take i).foldl Qii []))]) (λi=>M.length-i) (λi=>i<=M.length) 0 (Qh _) rfl (λ_ _=>rfl) rfl λi hi=>?_
 by_cases hlt:i<M.length
 ·obtain ⟨p,hp⟩:=gxE (l:=M) (i:=i) hlt;have hpr:=hMl p (Qa hp);have hst:=Rr Qii [] M hp;have hsub:=Qfj (M.take i) [];obtain ⟨O,hO⟩:=nmE ((M.take i).foldl Qii []);rw [<-hO] at hst hsub ⊢;have hOl:O.length<=1000:=by have:=hsub.2; rw [Vk,Qr] at this; omega
  have hOm:∀ o∈O,Rs o.c:=λo ho=>by
   rcases hsub.1 o ho with h | h
   ·cases h
   ·exact hMl o (Qm h)
  have hrl:=Hl O;refine go tt [.t (decide_eq_true (by omega))] rfl trivial ?_;refine lp (S:=Nat) 1 (λL1 k=>(16,.v (.one (.int .i64 (k:Int))))::(5,.v (.one (.bool ((O.take k).any λo=>Ql7 o.c p.c))))::L1) (λ_=>[.row false 92 7 (Fa O)]) (λk=>O.length-k) (λk=>k<=O.length) 0 (Qh _) rfl (λ_ _=>rfl) rfl λk hk=>?_
  by_cases hkl:k<O.length
  ·obtain ⟨o,ho⟩:=gxE (l:=O) (i:=k) hkl;have ha:=Zcd (f:=λo=>Ql7 o.c p.c) ho;cases hb:(O.take k).any λo=>Ql7 o.c p.c with
   |
    true =>
    rw [hb,Ud] at ha;refine go tt [.t (decide_eq_true (by omega)),.g 20 true rfl] rfl (by simp [Ur] <;> omega) ?_;exact rd (k+1) (by omega) hkl (by rw [ha]; rfl)
   |
    false =>
    rw [hb,Kc] at ha;refine go tt [.t (decide_eq_true (by omega)),.g 20 false rfl,.i k,.x (Fc ho),.x (Fc hp),.c [] (Zeb (hOm o (Qa ho)) hpr)] rfl (by simp [Ur] <;> omega) ?_;exact rd (k+1) (by omega) hkl (by rw [ha]; rfl)
  ·obtain rfl:k=O.length:=by omega
   rw [Qy];have h7z:∀ y∈[Dx p],y.length=7:=λy hy=>by rw [Qk.1 hy]; rfl
   cases hb:O.any λo=>Ql7 o.c p.c with
   |
    true =>
    have e:Qii O p=O:=if_pos hb;refine go tt [.f (decide_eq_false (by omega)),.f rfl] rfl (by simp [Ur] <;> omega) ?_;exact rd (i+1) (by omega) hlt (by rw [hst,e]; rfl)
   |
    false =>
    have e:Qii O p=O++[p]:=if_neg (by rw [hb]; decide);refine go tt [.f (decide_eq_false (by omega)),.t rfl,.x (Fc hp),.s (sz:=7) h7z] rfl (by simp [Ur] <;> omega) ?_;exact rd (i+1) (by omega) hlt (by rw [hst,e]; simp [Fa]; rfl)
 ·obtain rfl:i=M.length:=by omega
  rw [Qy];exact en tt [.f (decide_eq_false (by omega))] rfl rfl trivial
def Ziy (q:Rat) (a b c:Pt):Bool:=(Ch q a c && Ch q c b) || (Ch q b c && Ch q c a)
def Dv (q:Rat) (a b c:Pt):Bool:=decide (c.id=a.id) || (decide (c.id=b.id) || !(decide (Mx (P8 a.c b.c c.c) q<0) || (decide (Mx (P8 a.c b.c c.c) q=0) && !Ziy q a b c)))
def Qd6 (q:Rat) (a b:Pt) (l:List Pt):Bool:=l.all (Dv q a b)
theorem Qpx {a b:Pt} {l:List Pt} {q:Rat} {cs:List (List Int)} (ha:Rs a.c) (hb:Rs b.c) (hl:∀ p∈l,Rs p.c) (hn:l.length≤1000) (hq:Qs 1000000 q):Ut Tryz.prog 252 [.agg (Dx a),.agg (Dx b),.one (.row (Fa l)),.agg (aq q cs)] [.one (.bool (Qd6 q a b l))]:=by
 have hcl:=Hl l;refine Gv Tryz.func252 rfl ?_;refine go tt [] rfl trivial ?_;refine lp (S:=Nat) 3 (λL1 i=>(14,.v (.one (.int .i64 (i:Int))))::L1) (λ_=>[.blk 92 (Dx a),.blk 92 (Dx b),.blk 82 (aq q cs)]) (λi=>l.length-i) (λi=>i<=l.length/\Qd6 q a b l=Qd6 q a b (l.drop i)) 0 ⟨Qh _,rfl⟩ rfl (λ_ _=>rfl) rfl λi ⟨hi,he⟩=>?_
 by_cases hlt:i<l.length
 ·obtain ⟨c,hc⟩:=gxE (l:=l) (i:=i) hlt;have hcr:=hl c (Qa hc);have hdr:Qd6 q a b (l.drop i)=(Dv q a b c && Qd6 q a b (l.drop (i+1))):=by
   obtain ⟨h1,h2⟩:=Qd.1 hc;rw [Zi h1,h2]; rfl
  have co:=Qm0 ha hb hcr;have hsz:=Qln ha hb hcr;have cA:=Av (c:=cs) (Us hsz.1 (by decide)) (Qc hsz.2 (by decide)) hq;have b1:=Ax (c:=cs) ha hcr hq;have b2:=Ax (c:=cs) hcr hb hq;have b3:=Ax (c:=cs) hb hcr hq;have b4:=Ax (c:=cs) hcr ha hq;by_cases h1:c.id=a.id
  ·have e:Dv q a b c=true:=by simp [Dv,h1]
   rw [e,Vh] at hdr;refine go tt [.t (decide_eq_true (by omega)),.x (Fc hc),.g 26 true (decide_eq_true h1),.t rfl] rfl (by simp [Ur] <;> omega) ?_;exact rd (i+1) (by omega) ⟨hlt,by rw [he,hdr]⟩ rfl
  by_cases h2:c.id=b.id
  ·have e:Dv q a b c=true:=by simp [Dv,h2]
   rw [e,Vh] at hdr;refine go tt [.t (decide_eq_true (by omega)),.x (Fc hc),.g 26 false (decide_eq_false h1),.t (decide_eq_true h2)] rfl (by simp [Ur] <;> omega) ?_;exact rd (i+1) (by omega) ⟨hlt,by rw [he,hdr]⟩ rfl
  have e0:Dv q a b c = !(decide (Mx (P8 a.c b.c c.c) q<0) || (decide (Mx (P8 a.c b.c c.c) q=0) && !Ziy q a b c)):=by unfold Dv; rw [decide_eq_false h1,decide_eq_false h2,Bool.false_or,Bool.false_or]
  generalize Mx (P8 a.c b.c c.c) q=s at *;by_cases hs:s<0
  ·rw [decide_eq_true hs,Ud] at e0;rw [e0] at hdr;rw [he,hdr];exact en tt [.t (decide_eq_true (by omega)),.x (Fc hc),.g 26 false (decide_eq_false h1),.f (decide_eq_false h2),.c [] co,.c [] cA,.g 44 true (decide_eq_true hs),.t rfl] rfl rfl trivial
  rw [decide_eq_false hs,Kc] at e0;by_cases hz:s=0
  ·rw [decide_eq_true hz,Vh,Bool.not_not] at e0;unfold Ziy at e0;cases k1:Ch q a c with
   |
    true =>
    rw [k1] at b1 e0;cases k2:Ch q c b with
    |
     true =>
     rw [k2] at b2 e0;have e0:Dv q a b c=true:=e0;rw [e0,Vh] at hdr;refine go tt [.t (decide_eq_true (by omega)),.x (Fc hc),.g 26 false (decide_eq_false h1),.f (decide_eq_false h2),.c [] co,.c [] cA,.g 44 false (decide_eq_false hs),.g 47 true (decide_eq_true hz),.c [] b1,.g 52 true rfl,.c [] b2,.g 58 true rfl,.f rfl] rfl (by simp [Ur] <;> omega) ?_;exact rd (i+1) (by omega) ⟨hlt,by rw [he,hdr]⟩ rfl
    |
     false =>
     rw [k2,Bool.and_false,Kc] at e0;rw [k2] at b2;cases k3:Ch q b c with
     |
      true =>
      rw [k3] at b3 e0;cases k4:Ch q c a with
      |
       true =>
       rw [k4] at b4 e0;have e0:Dv q a b c=true:=e0;rw [e0,Vh] at hdr;refine go tt [.t (decide_eq_true (by omega)),.x (Fc hc),.g 26 false (decide_eq_false h1),.f (decide_eq_false h2),.c [] co,.c [] cA,.g 44 false (decide_eq_false hs),.g 47 true (decide_eq_true hz),.c [] b1,.g 52 true rfl,.c [] b2,.g 58 false rfl,.c [] b3,.g 63 true rfl,.c [] b4,.f rfl] rfl (by simp [Ur] <;> omega) ?_;exact rd (i+1) (by omega) ⟨hlt,by rw [he,hdr]⟩ rfl
      |
       false =>
       rw [k4] at b4 e0;have e0:Dv q a b c=false:=e0;rw [e0,Vy] at hdr;rw [he,hdr];exact en tt [.t (decide_eq_true (by omega)),.x (Fc hc),.g 26 false (decide_eq_false h1),.f (decide_eq_false h2),.c [] co,.c [] cA,.g 44 false (decide_eq_false hs),.g 47 true (decide_eq_true hz),.c [] b1,.g 52 true rfl,.c [] b2,.g 58 false rfl,.c [] b3,.g 63 true rfl,.c [] b4,.t rfl] rfl rfl trivial
     |
      false =>
      rw [k3] at b3 e0;have e0:Dv q a b c=false:=e0;rw [e0,Vy] at hdr;rw [he,hdr];exact en tt [.t (decide_eq_true (by omega)),.x (Fc hc),.g 26 false (decide_eq_false h1),.f (decide_eq_false h2),.c [] co,.c [] cA,.g 44 false (decide_eq_false hs),.g 47 true (decide_eq_true hz),.c [] b1,.g 52 true rfl,.c [] b2,.g 58 false rfl,.c [] b3,.g 63 false rfl,.t rfl] rfl rfl trivial
   |
    false =>
    rw [k1,Vy,Kc] at e0;rw [k1] at b1;cases k3:Ch q b c with
    |
     true =>
     rw [k3] at b3 e0;cases k4:Ch q c a with
     |
      true =>
      rw [k4] at b4 e0;have e0:Dv q a b c=true:=e0;rw [e0,Vh] at hdr;refine go tt [.t (decide_eq_true (by omega)),.x (Fc hc),.g 26 false (decide_eq_false h1),.f (decide_eq_false h2),.c [] co,.c [] cA,.g 44 false (decide_eq_false hs),.g 47 true (decide_eq_true hz),.c [] b1,.g 52 false rfl,.g 58 false rfl,.c [] b3,.g 63 true rfl,.c [] b4,.f rfl] rfl (by simp [Ur] <;> omega) ?_;exact rd (i+1) (by omega) ⟨hlt,by rw [he,hdr]⟩ rfl
     |
      false =>
      rw [k4] at b4 e0;have e0:Dv q a b c=false:=e0;rw [e0,Vy] at hdr;rw [he,hdr];exact en tt [.t (decide_eq_true (by omega)),.x (Fc hc),.g 26 false (decide_eq_false h1),.f (decide_eq_false h2),.c [] co,.c [] cA,.g 44 false (decide_eq_false hs),.g 47 true (decide_eq_true hz),.c [] b1,.g 52 false rfl,.g 58 false rfl,.c [] b3,.g 63 true rfl,.c [] b4,.t rfl] rfl rfl trivial
    |
     false =>
     rw [k3] at b3 e0;have e0:Dv q a b c=false:=e0;rw [e0,Vy] at hdr;rw [he,hdr];exact en tt [.t (decide_eq_true (by omega)),.x (Fc hc),.g 26 false (decide_eq_false h1),.f (decide_eq_false h2),.c [] co,.c [] cA,.g 44 false (decide_eq_false hs),.g 47 true (decide_eq_true hz),.c [] b1,.g 52 false rfl,.g 58 false rfl,.c [] b3,.g 63 false rfl,.t rfl] rfl rfl trivial
  ·rw [decide_eq_false hz,Vy] at e0;have e0:Dv q a b c=true:=e0;rw [e0,Vh] at hdr;refine go tt [.t (decide_eq_true (by omega)),.x (Fc hc),.g 26 false (decide_eq_false h1),.f (decide_eq_false h2),.c [] co,.c [] cA,.g 44 false (decide_eq_false hs),.g 47 false (decide_eq_false hz),.f rfl] rfl (by simp [Ur] <;> omega) ?_;exact rd (i+1) (by omega) ⟨hlt,by rw [he,hdr]⟩ rfl
 ·obtain rfl:i=l.length:=by omega
  rw [he,Yo];exact en tt [.f (decide_eq_false (by omega))] rfl rfl trivial
def Qhx (q:Rat) (W:List Pt) (a:Pt):Option Pt:=W.find? λp=>decide (p.id≠a.id) && Qd6 q a p W
def Du (q:Rat) (W:List Pt) (s0:Pt):Nat->Pt->List Pt->List Pt
 | 0,_,O=>O
 |
  k+1,a,O=>match Qhx q W a with
  | none=>O
  | some b=>if b.id=s0.id then O else Du q W s0 k b (O++[b])
def Qd1 (q:Rat) (l:List Pt):List Pt:=if (Aa l).length<2 then Aa l else
 match Fx (Ch q) (Aa l) with
 | []=>[]
 | s::_=>Du q (Aa l) s (Aa l).length s [s]
theorem Qn9 {q:Rat} {W:List Pt} {a b:Pt} (h:Qhx q W a=some b):b∈W/\b.id≠a.id:=by
 have h1:=List.find?_some h;simp only [Zm,decide_eq_true_eq] at h1;exact ⟨List.mem_of_find?_eq_some h,h1.1⟩
theorem Qs4 {q:Rat} {W:List Pt} {s0:Pt}:∀ (k:Nat) (a:Pt) (O:List Pt),(∀ p∈O,p∈W)->(∀ p∈Du q W s0 k a O,p∈W)/\(Du q W s0 k a O).length≤O.length+k
 | 0,_,O,h=>⟨h,Ql _⟩
 |
  k+1,a,O,h=>by
  unfold Du;cases hb:Qhx q W a with
  | none=>exact ⟨h,Y9 _ _⟩
  |
   some b =>
   have hm:=(Qn9 hb).1;dsimp only
   split
   ·exact ⟨h,Y9 _ _⟩
   ·obtain ⟨h1,h2⟩:=Qs4 (q:=q) (s0:=s0) k b (O++[b]) (λp hp=>(Qu.1 hp).elim (h p) λhp=>by rw [Qk.1 hp]; exact hm);rw [Q4,Yu] at h2;exact ⟨h1,by omega⟩
theorem Qs5 (q:Rat) (l:List Pt):(∀ p∈Qd1 q l,p∈l)/\(Qd1 q l).length≤l.length+1:=by
 have hw:=Qpb l;unfold Qd1
 split
 ·exact ⟨λp hp=>Qhb hp,by omega⟩
 ·split
  ·exact ⟨λp hp=>(by cases hp),Qh _⟩
  ·rename_i s S hS;have hs:s∈Aa l:=S7.1 (show s∈Fx (Ch q) (Aa l) by rw [hS]; simp);obtain ⟨h1,h2⟩:=Qs4 (q:=q) (s0:=s) (Aa l).length s [s] (λp hp=>by rw [Qk.1 hp]; exact hs);exact ⟨λp hp=>Qhb (h1 p hp),by rw [Yu] at h2; omega⟩
theorem Q95 {q:Rat} {W:List Pt} {a b:Pt} (h:Qhx q W a=some b):∃ j:Nat,W[j]? = some b/\b.id≠a.id/\Qd6 q a b W=true/\∀ (i:Nat) (p:Pt),i<j->W[i]? = some p->p.id=a.id\/Qd6 q a p W=false:=by
 unfold Qhx at h;obtain ⟨h1,u,v,hW,h3⟩:=List.find?_eq_some_iff_append.1 h;simp only [Zm,decide_eq_true_eq] at h1;refine ⟨u.length,by rw [hW,Z3 (Ql _),Jo]; rfl,h1.1,h1.2,λi p hi hp=>?_⟩;have hp':u[i]? = some p:=by rw [<-hp,hW,Zj hi]
 have:=h3 p (Qa hp');simp only [Bool.not_eq_true',Bool.and_eq_false_iff,decide_eq_false_iff_not,Decidable.not_not] at this;exact this
theorem Q96 {q:Rat} {W:List Pt} {a:Pt} (h:Qhx q W a=none):∀ p∈W,p.id=a.id\/Qd6 q a p W=false:=λp hp=>by
 have:=List.find?_eq_none.1 h p hp;simp only [Bool.not_eq_true,Bool.and_eq_false_iff,decide_eq_false_iff_not,Decidable.not_not] at this;exact this
set_option maxHeartbeats 4000000 in
theorem Qw1 {l:List Pt} {q:Rat} {cs:List (List Int)} (hl:∀ p∈l,Rs p.c) (hn:l.length≤1000) (hq:Qs 1000000 q):Ut Tryz.prog 229 [.one (.row (Fa l)),.agg (aq q cs)] [.one (.row (Fa (Qd1 q l)))]:=by
 have c1:=Zed hl hn;have hWl:∀ p∈Aa l,Rs p.c:=λp hp=>hl p (Qhb hp)
 have hWn:=Qpb l;unfold Qd1;obtain ⟨W,hW⟩:=nmE (Aa l);rw [<-hW] at c1 hWl hWn ⊢;have hcl:=Hl W;by_cases h2:W.length<2
 ·rw [if_pos h2];exact w tt Tryz.func229 rfl [.c [] c1,.t (decide_eq_true (by omega))] rfl rfl trivial
 rw [if_neg h2];have c2:=Qm1 (l:=W) (cs:=cs) hWl (by omega) hq;obtain ⟨s,S,hS⟩:∃ s S,Fx (Ch q) W=s::S:=by
  have:(Fx (Ch q) W).length=W.length:=H9 _ _;cases hs:Fx (Ch q) W with
  | nil=>rw [hs] at this; simp at this; omega
  | cons s S=>exact ⟨s,S,rfl⟩
 have hsW:s∈W:=S7.1 (show s∈Fx (Ch q) W by rw [hS]; simp);rw [hS] at c2 ⊢;show Ut Tryz.prog 229 _ [.one (.row (Fa (Du q W s W.length s [s])))];have hx0:(Fa (s::S))[0]? = some (Dx s):=rfl;refine Gv Tryz.func229 rfl ?_;refine go tt [.c [] c1,.f (decide_eq_false (by omega)),.c [] c2,.x hx0,.lo] rfl trivial ?_;refine sb [(7,.v (.one (.orow 1 7 none))),(6,.v (.one (.row (Fa (s::S))))),(5,.v (.one (.row (Fa W)))),(3,.v (.one (.ow 0 0)))] [.blk 82 (aq q cs),.row false 92 7 (Fa [s])] rfl rfl ?_;refine lp (S:=List Pt) 2 (λL1 _=>(7,.v (.one (.orow 1 7 none)))::L1) (λO=>[.blk 82 (aq q cs),.row false 92 7 (Fa O)]) (λO=>W.length+1-O.length) (λO=>O.length<=W.length+1/\∃ a,a∈W/\O[O.length-1]? = some a/\Du q W s (W.length+1-O.length) a O=Du q W s W.length s [s]) [s] ⟨by show 1<=_; omega,s,hsW,rfl,rfl⟩ rfl (λ_ _=>rfl) rfl λO ⟨hO,a,haW,hla,he⟩=>?_
 have har:=hWl a haW;have hrl:=Hl O;have hO1:0<O.length:=by
  have:=(Qd.1 hla).1; omega
 by_cases hlt:O.length<=W.length
 ·obtain ⟨k,hk⟩:∃ k,W.length+1-O.length=k+1:=⟨W.length-O.length,by omega⟩;rw [hk] at he;refine go tt [.t (decide_eq_true (by omega)),.r 31 (eI (b:=((O.length-1:Nat):Int)) (by omega)),.i (O.length-1),.x (Fc hla)] rfl (by simp [Ur] <;> omega) ?_;cases hb:Qhx q W a with
  |
   none =>
   have hno:=Q96 hb;have ef:Du q W s W.length s [s]=O:=by rw [<-he]; unfold Du; rw [hb]
   rw [ef];refine lp (S:=Nat) 3 (λL1 i=>(36,.v (.one (.int .i64 (i:Int))))::L1) (λ_=>[.blk 82 (aq q cs),.row false 92 7 (Fa O),.blk 92 (Dx a)]) (λi=>W.length-i) (λi=>i<=W.length) 0 (Qh _) rfl (λ_ _=>rfl) rfl λi hi=>?_
   by_cases hil:i<W.length
   ·obtain ⟨p,hp⟩:=gxE (l:=W) (i:=i) hil;have hpm:=Qa hp;by_cases h1:p.id=a.id
    ·refine go tt [.t (decide_eq_true (by omega)),.x (Fc hp),.g 47 false (decide_eq_false (by simpa using h1)),.f rfl] rfl (by simp [Ur] <;> omega) ?_;exact rd (i+1) (by omega) hil rfl
    ·have ce:=Qpx (cs:=cs) har (hWl p hpm) hWl (by omega) hq;rw [(hno p hpm).resolve_left h1] at ce;refine go tt [.t (decide_eq_true (by omega)),.x (Fc hp),.g 47 true (decide_eq_true h1),.x (Fc hp),.c [] ce,.f rfl] rfl (by simp [Ur] <;> omega) ?_;exact rd (i+1) (by omega) hil rfl
   ·by_cases h3:a.id=s.id
    ·exact en tt [.f (decide_eq_false (by omega)),.x hx0,.g 69 true (decide_eq_true h3),.t rfl] rfl rfl (by simp [Ur] <;> omega)
    ·exact en tt [.f (decide_eq_false (by omega)),.x hx0,.g 69 false (decide_eq_false h3),.r 75 (eI (b:=((O.length-1:Nat):Int)) (by omega)),.i (O.length-1),.x (Fc hla),.t (decide_eq_true rfl)] rfl rfl (by simp [Ur] <;> omega)
  |
   some b =>
   obtain ⟨j,hj,hba,heb,hjb⟩:=Q95 hb;have hbW:=(Qn9 hb).1;have hjl:=(Qd.1 hj).1;have hbr:=hWl b hbW;have h7z:∀ y∈[Dx b],y.length=7:=λy hy=>by rw [Qk.1 hy]; rfl
   have cb:=Qpx (cs:=cs) har hbr hWl (by omega) hq;rw [heb] at cb;refine lp (S:=Nat) 3 (λL1 i=>(36,.v (.one (.int .i64 (i:Int))))::L1) (λ_=>[.blk 82 (aq q cs),.row false 92 7 (Fa O),.blk 92 (Dx a)]) (λi=>j-i) (λi=>i<=j) 0 (Qh _) rfl (λ_ _=>rfl) rfl λi hi=>?_
   by_cases hij:i<j
   ·obtain ⟨p,hp⟩:=gxE (l:=W) (i:=i) (by omega);have hpm:=Qa hp;by_cases h1:p.id=a.id
    ·refine go tt [.t (decide_eq_true (by omega)),.x (Fc hp),.g 47 false (decide_eq_false (by simpa using h1)),.f rfl] rfl (by simp [Ur] <;> omega) ?_;exact rd (i+1) (by omega) hij rfl
    ·have ce:=Qpx (cs:=cs) har (hWl p hpm) hWl (by omega) hq;rw [(hjb i p hij hp).resolve_left h1] at ce;refine go tt [.t (decide_eq_true (by omega)),.x (Fc hp),.g 47 true (decide_eq_true h1),.x (Fc hp),.c [] ce,.f rfl] rfl (by simp [Ur] <;> omega) ?_;exact rd (i+1) (by omega) hij rfl
   ·obtain rfl:i=j:=by omega
    by_cases h3:b.id=s.id
    ·have ef:Du q W s W.length s [s]=O:=by rw [<-he]; unfold Du; rw [hb]; exact if_pos h3
     rw [ef];exact en tt [.t (decide_eq_true (by omega)),.x (Fc hj),.g 47 true (decide_eq_true hba),.x (Fc hj),.c [] cb,.t rfl,.x (Fc hj),.x hx0,.g 69 true (decide_eq_true h3),.t rfl] rfl rfl (by simp [Ur] <;> omega)
    ·have ef:Du q W s k b (O++[b])=Du q W s W.length s [s]:=by
      rw [<-he];show _=(match Qhx q W a with | none=>O | some b=>if b.id=s.id then O else Du q W s k b (O++[b]));rw [hb];exact (if_neg h3).symm
     refine go tt [.t (decide_eq_true (by omega)),.x (Fc hj),.g 47 true (decide_eq_true hba),.x (Fc hj),.c [] cb,.t rfl,.x (Fc hj),.x hx0,.g 69 false (decide_eq_false h3),.r 75 (eI (b:=((O.length-1:Nat):Int)) (by omega)),.i (O.length-1),.x (Fc hla),.f (decide_eq_false hba),.s (sz:=7) h7z] rfl (by simp [Ur] <;> omega) ?_;have hl1:(O++[b]).length=O.length+1:=by simp
     exact rd (O++[b]) (by omega) ⟨by omega,b,hbW,by rw [hl1,Jn,Z3 (Ql _),Jo]; rfl,by rw [hl1,show W.length+1-(O.length+1)=k by omega]; exact ef⟩ (by simp [Fa]; rfl)
 ·rw [show W.length+1-O.length=0 by omega] at he;have ef:Du q W s W.length s [s]=O:=he.symm;rw [ef];exact en tt [.f (decide_eq_false (by omega))] rfl rfl trivial
end Orr
