/- R6 RefGL R7 RatOkL R8 R9 RefCL R10 RawL NewsL KGoL SortQ BegL R11 R12 R13 R14 R15 R16 R17 R18 PairN PairQ SplitL PW1 R21 DetL H1 -/
import Derived.Test.YtkkhemmhhedniaaGreatPart07
import Derived.Test.YtkkhemmhhedniaaGreatPart05
import Derived.Test.YtkkhemmhhedniaaGreatPart00
set_option linter.all false
namespace Orr
open Go Go.Proofs
set_option maxRecDepth 10000
theorem Q40 {a b:Int} (ha:U9 a<=40000000) (hb:U9 b<=40000000):Uw Tryz.prog 139 [.agg (fr (a:Rat)),.agg (fr (b:Rat))] [.agg (fr ((a*b:Int):Rat))]:=by
 have h:=Q4z (C3 ha (by decide)) (C3 hb (by decide));rw [<-X1] at h; exact h
theorem Zg3 {a b:Int} (ha:U9 a<=20000000) (hb:U9 b<=20000000):Uw Tryz.prog 169 [.agg (fr (a:Rat)),.agg (fr (b:Rat))] [.agg (fr ((a+b:Int):Rat))]:=by
 have h:=Q4p (C3 ha (by decide)) (C3 hb (by decide));rw [<-Kk] at h; exact h
theorem Qsg (l:List Int) (i:Nat) (z:Int):(frow (zp l)).set i (fr (z:Rat))=frow (zp (l.set i z)):=by simp [frow,zp,V1]
theorem Za4 {p:List Int} {i:Nat} (h:i<p.length):(zp p)[i]? = some ((p.getD i 0:Int):Rat):=Za3 (H8 h)
theorem Rr {p:List Int} {i:Nat} (h:i<p.length):(frow (zp p))[i]? = some (fr ((p.getD i 0:Int):Rat)):=Lc (Za4 h)
theorem fzl (p:List Int):(frow (zp p)).length=p.length:=by rw [Tn,T0]
abbrev zR:List LV:=[.nils,.bool false,.nils,.bool false]
theorem Qo5 {n i:Nat} (h:i<n):(List.replicate i (fr 0)++List.replicate (n-i) zR).set i (fr 0)=List.replicate (i+1) (fr 0)++List.replicate (n-(i+1)) zR:=by
 rw [List.set_append_right _ _ (by simp),Ja,Jn,show n-i=n-(i+1)+1 by omega,J7 (n:=n-(i+1)),List.set_cons_zero,List.replicate_succ' (n:=i),Zi]; rfl
theorem Qlc (n:Nat):List.replicate n (fr 0)++List.replicate (n-n) zR=frow (zp (List.replicate n 0)):=by simp [zp,frow]
theorem Qvl {p q:List Int} {s t:Nat} (hlp:p.length<=1000000) (hlq:q.length<=1000000) (hp:Bd s p) (hq:Bd t q) (hst:s+t<=19000000):Uw Tryz.prog 141 [.one (rp (zp p)),.one (rp (zp q))] [.one (rp (zp (Fu p q)))]:=by
 have Dv:=fzl p;have hql:=fzl q;rcases Qy p.length with h0 | h0
 ·have e:Fu p q=[]:=by unfold Fu; rw [if_pos (.inl h0)]
  rw [e];exact w tt Tryz.func141 rfl [.g 12 true (decide_eq_true (by omega)),.t rfl] rfl rfl trivial
 rcases Qy q.length with h1 | h1
 ·have e:Fu p q=[]:=by unfold Fu; rw [if_pos (.inr h1)]
  rw [e];exact w tt Tryz.func141 rfl [.g 12 false (decide_eq_false (by omega)),.t (decide_eq_true (by omega))] rfl rfl trivial
 have e:Fu p q=trim (No p q (List.replicate (p.length+q.length-1) 0) p.length):=by unfold Fu; rw [if_neg (by omega)]
 rw [e];obtain ⟨N,hN⟩:=nmE (p.length+q.length-1);rw [<-hN];obtain ⟨o,ho⟩:=nmE (List.replicate N (0:Int));rw [<-ho];have hol:o.length=N:=by rw [ho]; simp
 have ho0:∀ m,o.getD m 0=0:=λm=>by rw [ho]; exact Tw N m
 have cc:=Og (p:=zp (No p q o p.length));rw [Bb] at cc;refine Hn Tryz.func141 rfl ?_;refine go tt [.g 12 false (decide_eq_false (by omega)),.f (decide_eq_false (by omega)),.r 22 (eI (b:=(N:Int)) (by omega)),.i N,.i N,.r 25 (eI (b:=(N:Int)) (by simp))] rfl (by simp [Uu]; omega) ?_;refine lp (S:=Nat) 1 (λL1 i=>(26,.v (.one (.int .i64 (i:Int))))::L1) (λi=>[.row false 35 4 (List.replicate i (fr 0)++List.replicate (N-i) zR)]) (λi=>N-i) (λi=>i<=N) 0 (Qg _) rfl (λ_ _=>rfl) rfl λi hi=>?_
 by_cases hlt:i<N
 ·refine go tt [.t (decide_eq_true (by omega)),.c [] Q5i,.i i] rfl (by simp [Uu]; omega) ?_;rw [Qo5 hlt];exact rd (i+1) (by omega) hlt rfl
 have hiN:i=N:=by omega
 rw [hiN,Qlc,<-ho];clear hiN hlt hi;refine go tt [.f (decide_eq_false (by omega))] rfl trivial ?_;refine lp (S:=Nat) 1 (λL1 i=>(36,.v (.one (.int .i64 (i:Int))))::L1) (λi=>[.row false 35 4 (frow (zp (No p q o i)))]) (λi=>p.length-i) (λi=>i<=p.length) 0 (Qg _) rfl (λ_ _=>rfl) rfl λi hi=>?_
 by_cases hlt:i<p.length
 ·refine go tt [.t (decide_eq_true (by omega))] rfl trivial ?_;refine lp (S:=Nat) 1 (λL1 k=>(41,.v (.one (.int .i64 (k:Int))))::L1) (λk=>[.row false 35 4 (frow (zp (Ag (p.getD i 0) q i (No p q o i) k)))]) (λk=>q.length-k) (λk=>k<=q.length) 0 (Qg _) rfl (λ_ _=>rfl) rfl λk hk=>?_
  by_cases hk2:k<q.length
  ·have hm1:U9 ((Ag (p.getD i 0) q i (No p q o i) k).getD (i+k) 0)<=20000000:=Qd (El (t:=39) (Qpn (by rw [Np]; omega) (Qpm (λj hj=>by omega) ho0 (λi j=>Mg (Fb hp i) (Fb hq j))) (λj=>Mg (Fb hp i) (Fb hq j)) (i+k)) (Kn (show i+1<549755813888 by omega) (by decide))) (by omega);have hm2:U9 (p.getD i 0*q.getD k 0)<=20000000:=Qd (Ft _ _) (by have:=Fb hp i; have:=Fb hq k; omega);have hml:(Ag (p.getD i 0) q i (No p q o i) k).length=N:=by rw [Ah,Np,hol]
   have cm:=Q40 (a:=p.getD i 0) (b:=q.getD k 0) (Qd (Fb hp i) (by omega)) (Qd (Fb hq k) (by omega));have hfl:=fzl (Ag (p.getD i 0) q i (No p q o i) k);refine go tt [.t (decide_eq_true (by omega)),.i (i+k),.x (Rr (p:=Ag (p.getD i 0) q i (No p q o i) k) (i:=i+k) (by omega)),.x (Rr hlt),.x (Rr hk2),.c [] cm,.c [] (Zg3 hm1 hm2),.i (i+k)] rfl (by simp [Uu,hfl,-List.getD_eq_getElem?_getD] <;> omega) ?_;rw [Qsg];exact rd (k+1) (by omega) hk2 rfl
  ·obtain rfl:k=q.length:=by omega
   exact go tt [.f (decide_eq_false (by omega))] rfl (by simp [Uu]; omega) (rd (i+1) (by omega) hlt rfl)
 ·obtain rfl:i=p.length:=by omega
  exact en tt [.f (decide_eq_false (by omega)),.c [] cc] rfl rfl trivial
def Qsa (p:List Int) (n:Nat):List Int:=(List.range n).map λk=>p.getD (k+1) 0*((k+1:Nat):Int)
theorem Q6p (p:List Int) (n:Nat):(Qsa p n).length=n:=by simp [Qsa]
theorem Q2o (p:List Int) (n:Nat):Qsa p (n+1)=Qsa p n++[p.getD (n+1) 0*((n+1:Nat):Int)]:=by simp [Qsa,Wj]
theorem Qq4 (p:List Int) (z:Int):frow (zp (p++[z]))=frow (zp p)++[fr (z:Rat)]:=by simp [frow,zp]
theorem Qvj {p:List Int} (hp:Bd 40000000 p) (hl:p.length<=1000000):Uw Tryz.prog 71 [.one (rp (zp p))] [.one (rp (zp (Gf p)))]:=by
 have Dv:=fzl p;have cc:=Og (p:=zp (Qsa p (p.length-1)));rw [Bb] at cc;refine Hn Tryz.func71 rfl ?_;refine go tt [.o 3 35 4] rfl trivial ?_;refine lp (S:=Nat) 1 (λL1 j=>(4,.v (.one (.int .i64 ((j+1:Nat):Int))))::(3,.v (.one (.orow 0 4 none)))::L1) (λj=>[.row false 35 4 (frow (zp (Qsa p j)))]) (λj=>p.length-j) (λj=>j<=p.length-1) 0 (Qg _) rfl (λ_ _=>rfl) rfl λj hj=>?_
 have hfl:=fzl (Qsa p j);rw [Q6p] at hfl;by_cases h:j+1<p.length
 ·have hk:U9 ((j+1:Nat):Int)<=40000000:=Qd (Qpd (t:=38) (k:=j+1) (Kn (show j+1<274877906944 by omega) (by decide))) (by decide);refine go tt [.t (decide_eq_true (by omega)),.x (Rr h),.c [] (Qir (n:=((j+1:Nat):Int)) (by omega)),.c [] (Q40 (Fb hp (j+1)) hk),.s (sz:=4) (Qws _)] rfl (by simp [Uu,hfl,-List.getD_eq_getElem?_getD] <;> omega) ?_;exact rd (j+1) (by omega) (by omega) (by rw [Q2o,Qq4]; rfl)
 ·have e:j=p.length-1:=by omega
  rw [e];exact en tt [.f (decide_eq_false (by omega)),.c [] cc] rfl rfl trivial
theorem Zh1 (z:Int):fr (z:Rat)=[nd z.natAbs,sg z,.row [[.int .i64 1]],.bool false]:=by
 have e:Fp 1=[1]:=by rw [If (by decide),show 1 / 10000=0 from rfl,G0]
 show [nd z.natAbs,sg z,nd 1,sg 1]=_;unfold nd dl;rw [e]; rfl
theorem Q5r {p:List Int} (hl:p.length<=1000000):Uw Tryz.prog 165 [.one (rp (zp p))] [.one (.bool true)]:=by
 have Dv:=fzl p;refine Hn Tryz.func165 rfl ?_;refine go tt [] rfl trivial ?_;refine lp (S:=Nat) 0 (λL1 i=>(6,.v (.one (.int .i64 (i:Int))))::L1) (λ_=>[]) (λi=>p.length-i) (λi=>i<=p.length) 0 (Qg _) rfl (λ_ _=>rfl) rfl λi hi=>?_
 by_cases h:i<p.length
 ·have hg:=Rr h;rw [Zh1] at hg;refine go tt [.t (decide_eq_true (by omega)),.x hg,.g 17 false rfl,.x hg,.x (l:=[[.int .i64 1]]) (i:=0) (xs:=[.int .i64 1]) rfl,.f rfl] rfl (by simp [Uu]; omega) ?_;exact rd (i+1) (by omega) h rfl
 ·exact en tt [.f (decide_eq_false (by omega))] rfl rfl trivial
theorem Q04:[LV.nils,LV.bool false].map Qhf=ri 0:=by
 show _=[nd 0,sg 0];unfold nd dl;rw [G0]; rfl
theorem Qw2 (p:List Int) (q:Rat):Int.sign (Pu p q.num q.den p.length).1=Gm p q:=by
 unfold Gm Zec C0;generalize (Pu p q.num q.den p.length).1=z;rcases J4 z 0 with h | h | h
 ·rw [if_pos h,Jb h]
 ·subst h; rfl
 ·rw [if_neg (by omega),if_pos h,Jo h]
theorem Qyx {p:List Int} {q:Rat} (hp:Bd 30000000 p) (hl:p.length<=64) (hq:Qs 1000000 q):Uw Tryz.prog 94 [.one (rp (zp p)),.agg (fr q)] [.one (.int .i64 (Gm p q))]:=by
 have Dv:=fzl p;refine Hn Tryz.func94 rfl ?_;refine go tt [.c [] (Q5r (p:=p) (by omega)),.f rfl,.c [] (C5 (n:=1) (by decide)),.r 19 (eI (b:=(p.length:Int)-1-((0:Nat):Int)) (by simp; omega))] rfl (by simp [Uu]; omega) ?_;refine nlb 1 rfl rfl rfl ?_;rw [Q04];refine lp (S:=Nat) 3 (λL1 j=>(7,.v (.one (.int .i64 ((p.length:Int)-1-(j:Int)))))::L1) (λj=>[.blk 35 (fr q),.blk 33 (ri (Pu p q.num q.den j).1),.blk 33 (ri (Pu p q.num q.den j).2)]) (λj=>p.length-j) (λj=>j<=p.length) 0 (Qg _) rfl (λ_ _=>rfl) rfl λj hj=>?_
 have hv:=Qqw (k:=j) hp hq.1 hq.2;have hjl:j*(1000000+1)<=p.length*(1000000+1):=Qz _ (by omega);by_cases h:j<p.length
 ·have hc:=Fb hp (p.length-1-j);have hq1:=hq.1;have hq2:=hq.2;have hm1:U9 ((Pu p q.num q.den j).1*q.num)<=200000000:=Qd (Ft _ _) (by omega);have hm2:U9 (p.getD (p.length-1-j) 0*(Pu p q.num q.den j).2)<=200000000:=Qd (Ft _ _) (by omega);refine go tt [.t (decide_eq_true (by omega)),.c [] (Pf (a:=(Pu p q.num q.den j).1) (b:=q.num) (by omega) (by omega)),.r 29 (eI (b:=((p.length-1-j:Nat):Int)) (by omega)),.x (Rr (p:=p) (i:=p.length-1-j) (by omega)),.c [] (Pf (a:=p.getD (p.length-1-j) 0) (b:=(Pu p q.num q.den j).2) (by omega) (by omega)),.c [] (Qvd hm1 hm2),.c [] (Pf (a:=(Pu p q.num q.den j).2) (b:=(q.den:Int)) (by omega) (by omega)),.r 23 (eI (b:=(p.length:Int)-1-((j+1:Nat):Int)) (by omega))] rfl (by simp [Uu] <;> omega) ?_;exact rd (j+1) (by omega) h rfl
 ·obtain rfl:j=p.length:=by omega
  exact en tt [.f (decide_eq_false (by omega)),.c [] Qyr] rfl (by rw [Qw2]) trivial
end Orr
namespace Orr
def Gd (p:List Int):Int:=p.getD (p.length-1) 0
def Qak (a b:List Int):Int:=if Gd b<0 then -(Gd a) else Gd a
def Eo (a b:List Int) (i:Nat):Int:=a.getD i 0*((Gd b).natAbs:Int)-(if a.length-b.length<=i then Qak a b*b.getD (i-(a.length-b.length)) 0 else 0)
def Qnp (a b:List Int):List Int:=P8 a.length (Eo a b)
inductive RRun (b:List Int):Nat->List Int->List Int->Prop
 | stop {a:List Int}:a.length<b.length->RRun b 0 a a
 | step {k:Nat} {a r:List Int}:b.length<=a.length->a.length<=1000->Bd 9000000 a->Bd 9000000 b->RRun b k (Qnp a b) r->RRun b (k+1) a r
def Ez (p:List Int):Nat->Nat
 | 0=>0
 | i+1=>Int.gcd (Ez p i:Nat) (p.getD i 0)
def Qbp (p:List Int):Nat:=Ez p p.length
theorem Qe8 (p:List Int):∀ {i j:Nat},j<i->((Ez p i:Nat):Int)∣p.getD j 0
 | 0,_,h=>absurd h (Ur _)
 |
  i+1,j,h=>by
  simp only [Ez];rcases Q6 j i with h1 | h1
  ·exact Vl (Ue ..) (Qe8 p h1)
  ·rw [show j=i by omega]; exact Vw ..
theorem Qrv (p:List Int) (j:Nat):((Qbp p:Nat):Int)∣p.getD j 0:=by
 rcases Q6 j p.length with h | h
 ·exact Qe8 p h
 ·rw [Qf,Qu h]; exact Int.dvd_zero _
theorem Oj {s:Nat} {p:List Int} (h:Bd s p):∀ i,U9 ((Ez p i:Nat):Int)<=s
 | 0=>by simp [Ez,Mf]
 |
  i+1=>by
  simp only [Ez];by_cases h0:p.getD i 0=0
  ·rw [h0,Int.gcd_zero_right]; exact Oj h i
  ·have h1:=Vw (Ez p i:Nat) (p.getD i 0);have h2:(Int.gcd (Ez p i:Nat) (p.getD i 0))<=(p.getD i 0).natAbs:=Kd (by omega) (by simpa using Xz.2 h1);have h3:=Fb h i;rw [Te] at h3 ⊢;simp only [Xd];omega
theorem Q2b {p:List Int} {j i:Nat} (hj:j<i) (h:p.getD j 0≠0):0<Ez p i:=by
 have:=Qe8 p hj;rcases Qy (Ez p i) with h0 | h0
 ·rw [h0] at this;exact absurd (Int.zero_dvd.1 this) h
 ·exact h0
theorem Qrw {p:List Int} (ht:U3 p) (h:0<p.length):0<Qbp p:=Q2b (j:=p.length-1) (by omega) (Hk ht h)
def M4 (p:List Int):Int:=if Gd p<0 then -((Qbp p:Nat):Int) else ((Qbp p:Nat):Int)
def Hw (p:List Int):List Int:=P8 p.length λi=>p.getD i 0 / M4 p
def Ma (p:List Int):List Int:=if Gd p<0 then S5 (Hw p) else Hw p
theorem Q2s (p:List Int) (j:Nat):M4 p∣p.getD j 0:=by
 unfold M4
 split
 ·exact Us.2 (Qrv p j)
 ·exact Qrv p j
theorem Q62 {p:List Int} (ht:U3 p) (h:0<p.length):M4 p≠0:=by
 have:=Qrw ht h;unfold M4
 split <;> omega
theorem Qma {s:Nat} {p:List Int} (h:Bd s p):U9 (M4 p)<=s:=by
 unfold M4
 split
 ·rw [Hl]; exact Oj h _
 ·exact Oj h _
theorem Qxh {p:List Int} {c:Int} (hc:c≠0) (hd:∀ j,c∣p.getD j 0):Mb (zp p) (1 / (c:Rat))=zp (P8 p.length λi=>p.getD i 0 / c):=by
 unfold Mb P8;rw [Qii (g:=λi=>p.getD i 0 / c) _ λi _=>?_,Bb,T0];obtain ⟨k,hk⟩:=hd i;have hc':(c:Rat)≠0:=λe=>hc (by exact_mod_cast e)
 rw [Qew,hk,Xw _ hc,X1];grind
theorem Qip {s:Nat} {p:List Int} (h:Bd s p):Bd s (Hw p):=Qau λi _=>Qd (O3 _ _) (Fb h i)
theorem Qfq (p:List Int):(Hw p).length<=p.length:=E6 _ _
theorem Q1s {s:Nat} {p:List Int} (h:Bd s p):Bd s (Ma p):=by
 unfold Ma
 split
 ·exact Qav (Qip h)
 ·exact Qip h
theorem Qwh (p:List Int):(Ma p).length<=p.length:=by
 unfold Ma
 split
 ·exact Qd (Lf _) (Qfq p)
 ·exact Qfq p
inductive GRun:Nat->List Int->List Int->List Int->Prop
 | stop (a:List Int):GRun 0 a [] a
 | step {k m:Nat} {a b r g:List Int}:0<b.length->b.length<=1000->Bd 9000000 b->RRun b m a r->r.length<=1000->Bd 9000000 r->U3 r->GRun k b (Hw r) g->GRun (k+1) a b g
theorem GRun.inv {k:Nat} {a b g:List Int} (h:GRun k a b g):(k=0/\b.length=0/\a=g)\/∃ j m r,k=j+1/\0<b.length/\b.length<=1000/\Bd 9000000 b/\RRun b m a r/\r.length<=1000/\Bd 9000000 r/\U3 r/\GRun j b (Hw r) g:=by
 cases h with
 | stop=>exact .inl ⟨rfl,rfl,rfl⟩
 | step h1 h2 h3 h4 h5 h6 h7 h8=>exact .inr ⟨_,_,_,rfl,h1,h2,h3,h4,h5,h6,h7,h8⟩
def Ln (k:Nat) (p:List Int):List Int:=List.replicate k 0++p
theorem Qxl (k:Nat) (p:List Int):(Ln k p).length=k+p.length:=by simp [Ln]
theorem Q1t {s k:Nat} {p:List Int} (h:Bd s p):Bd s (Ln k p):=λz hz=>by
 rcases Qt.1 hz with h1 | h1
 ·rw [Zv h1,Mf]; exact Qg _
 ·exact h z h1
inductive DRun (b:List Int):Nat->List Int->List Int->List Int->List Int->Prop
 | stop {a q:List Int}:a.length<b.length->DRun b 0 a q q a
 | step {k:Nat} {a q qf r:List Int}:b.length<=a.length->a.length<=1000->Bd 9000000 a->Gd b≠0->Gd b∣Gd a->a.length-b.length<q.length ->
  DRun b k (Po a (Ln (a.length-b.length) (Fi b (Gd a / Gd b)))) (q.set (a.length-b.length) (Gd a / Gd b)) qf r->DRun b (k+1) a q qf r
theorem DRun.inv {b a q qf r:List Int} {k:Nat} (h:DRun b k a q qf r):(k=0/\q=qf/\a=r/\a.length<b.length)\/∃ j,k=j+1/\b.length<=a.length/\a.length<=1000/\Bd 9000000 a/\Gd b≠0/\Gd b∣Gd a/\a.length-b.length<q.length /\
 DRun b j (Po a (Ln (a.length-b.length) (Fi b (Gd a / Gd b)))) (q.set (a.length-b.length) (Gd a / Gd b)) qf r:=by
 cases h with
 | stop h=>exact .inl ⟨rfl,rfl,rfl,h⟩
 | step h1 h2 h3 h4 h5 h6 h7=>exact .inr ⟨_,rfl,h1,h2,h3,h4,h5,h6,h7⟩
def P7 (l:List (List Int)):List Int:=l.getD (l.length-1) []
inductive LRun:Nat->List (List Int)->List (List Int)->Prop
 | stop {l:List (List Int)}:(P7 l).length<=1->LRun 0 l l
 | step {k m:Nat} {l f:List (List Int)} {g:List Int}:1<(P7 l).length->(P7 l).length<=1000->U3 (P7 l)->Bd 9000000 (P7 l)->Bd 9000000 (Gf (P7 l))->GRun m (Hw (P7 l)) (Hw (Gf (P7 l))) g->l.length<=1000->LRun k (l++[g]) f->LRun (k+1) l f
theorem LRun.inv {k:Nat} {l f:List (List Int)} (h:LRun k l f):(k=0/\l=f/\(P7 l).length<=1)\/∃ j m g,k=j+1/\1<(P7 l).length/\(P7 l).length<=1000/\U3 (P7 l)/\Bd 9000000 (P7 l)/\Bd 9000000 (Gf (P7 l))/\GRun m (Hw (P7 l)) (Hw (Gf (P7 l))) g/\l.length<=1000/\LRun j (l++[g]) f:=by
 cases h with
 | stop h=>exact .inl ⟨rfl,rfl,h⟩
 | step h1 h2 h3 h4 h5 h6 h7 h8=>exact .inr ⟨_,_,_,rfl,h1,h2,h3,h4,h5,h6,h7,h8⟩
def DOk (a b q:List Int):Prop:=0<b.length/\b.length<=1000/\a.length<=1000/\Bd 9000000 b/\∃ qf r n,Bd 9000000 qf/\qf.length<=1000/\DRun b n a (List.replicate (a.length+1-b.length) 0) qf r/\q=trim qf
theorem DOk.bd {a b q:List Int} (h:DOk a b q):Bd 9000000 q:=by
 obtain ⟨_,_,_,_,qf,r,n,h1,_,_,rfl⟩:=h;exact Tc h1
theorem DOk.len {a b q:List Int} (h:DOk a b q):q.length<=1000:=by
 obtain ⟨_,_,_,_,qf,r,n,_,h1,_,rfl⟩:=h;exact Qd (Hq _) h1
theorem DOk.trim {a b q:List Int} (h:DOk a b q):U3 q:=by
 obtain ⟨_,_,_,_,qf,r,n,_,_,_,rfl⟩:=h;exact H6 _
def Zj2 (a b c f:List Int):Prop:=∃ x y z,DOk a b x/\DOk b c y/\DOk (Hw x) (Hw y) z/\f=Hw z
structure FRun (a:List Int) (m:Nat) (f:Nat->List Int):Prop where
 run:∃ n l,LRun n [Hw a] l/\l.length=m+1/\∀ k,k<m->Zj2 ((l++[[1]]).getD k []) ((l++[[1]]).getD (k+1) []) ((l++[[1]]).getD (k+2) []) (f k)
 small:m<=1000
def Qla (f:Nat->List Int) (n:Nat):List (List Int):=(List.range n).map f
theorem Qt8 (f:Nat->List Int) (n:Nat):(Qla f n).length=n:=by simp [Qla]
theorem Q3x (f:Nat->List Int) (n:Nat):Qla f (n+1)=Qla f n++[f n]:=by simp [Qla,Wj]
theorem Zaj {f:Nat->List Int} {n i:Nat} (h:i<n):(Qla f n)[i]? = some (f i):=by simp [Qla,X9 h]
theorem Qv8 {l:List (List Int)} {i:Nat} (h:i<l.length):l[i]? = some (l.getD i []):=by
 rw [Qf,Qe h]; rfl
def Aq (f:Nat->List Int):Nat->List Int
 | 0=>[1]
 | i+1=>Fu (Aq f i) (f i)
def Zj1 (m:Nat) (f:Nat->List Int):Prop:=∀ i,i<m->Bd 9000000 (Aq f i)/\(Aq f i).length<=1000/\Bd 9000000 (f i)/\(f i).length<=1000
inductive CRun:Nat->List (List Int)->List Int->List (List Int)->Prop
 | stop {l:List (List Int)} {g:List Int}:g.length=0->CRun 0 l g l
 | step {k m:Nat} {l f:List (List Int)} {g r:List Int}:0<g.length->g.length<=1000->Bd 9000000 g->RRun g m (P7 l) r->U3 r->Bd 9000000 r->r.length<=1000->0<l.length->l.length<=1000->CRun k (l++[g]) (S5 (Ma r)) f->CRun (k+1) l g f
theorem CRun.inv {k:Nat} {l f:List (List Int)} {g:List Int} (h:CRun k l g f):(k=0/\l=f/\g.length=0)\/∃ j m r,k=j+1/\0<g.length/\g.length<=1000/\Bd 9000000 g/\RRun g m (P7 l) r/\U3 r/\Bd 9000000 r/\r.length<=1000/\0<l.length/\l.length<=1000/\CRun j (l++[g]) (S5 (Ma r)) f:=by
 cases h with
 | stop h=>exact .inl ⟨rfl,rfl,h⟩
 | step h1 h2 h3 h4 h5 h6 h7 h8 h9 h10=>exact .inr ⟨_,_,_,rfl,h1,h2,h3,h4,h5,h6,h7,h8,h9,h10⟩
structure ChRun (a:List Int) (sq:List Int) (c:List (List Int)):Prop where
 fac:∃ m f,FRun a m f/\Zj1 m f/\sq=Aq f m
 C6:∃ n,CRun n [sq] (Ma (Gf sq)) c
 bd:Bd 8000000 sq
 len:sq.length<=1000
 small:c.length<=1000
def Qx5 (q:Rat) (c:List (List Int)):Prop:=∃ sq,ChRun [-q.num,(q.den:Int)] sq c
end Orr
namespace Orr
open Go Go.Proofs
set_option maxRecDepth 10000
theorem RRun.inv {b a r:List Int} {k:Nat} (h:RRun b k a r):(k=0/\a=r/\a.length<b.length)\/(∃ j,k=j+1/\b.length<=a.length/\a.length<=1000/\Bd 9000000 a/\Bd 9000000 b/\RRun b j (Qnp a b) r):=by
 cases h with
 | stop h=>exact .inl ⟨rfl,rfl,h⟩
 | step h1 h2 h3 h4 h5=>exact .inr ⟨_,rfl,h1,h2,h3,h4,h5⟩
theorem Zem {a b:List Int} (ha:Bd 9000000 a):U9 (Qak a b)<=9000000:=by
 unfold Qak; split
 ·rw [Hl]; exact Fb ha _
 ·exact Fb ha _
theorem Zei (n:Nat):ri (n:Int)=[nd n,.bool false]:=by
 show [nd n,sg (n:Int)]=_;unfold sg;rw [decide_eq_false (by omega)]
def Qqf (a b:List Int) (n:Nat):List Int:=(List.range n).map (Eo a b)
theorem Q9t (a b:List Int) (n:Nat):(Qqf a b n).length=n:=by simp [Qqf]
theorem Qnq (a b:List Int) (n:Nat):Qqf a b (n+1)=Qqf a b n++[Eo a b n]:=by simp [Qqf,Wj]
theorem Qyz {a0 b res:List Int} {n:Nat} (hb0:0<b.length) (hb1:b.length<=1000) (hbb0:Bd 9000000 b) (hrun:RRun b n a0 res):Uw Tryz.prog 138 [.one (rp (zp a0)),.one (rp (zp b))] [.one (rp (zp res))]:=by
 have hbl:=fzl b;have hle:U9 (((Gd b).natAbs:Nat):Int)<=9000000:=Fb hbb0 _;refine Hn Tryz.func138 rfl ?_;refine go tt [.r 15 (eI (b:=((b.length-1:Nat):Int)) (by omega)),.x (Rr (p:=b) (i:=b.length-1) (by omega))] rfl (by simp [Uu]; omega) ?_;refine sb [(0,.v (.one (rp (zp a0)))),(1,.v (.one (rp (zp b)))),(5,.v (.one (.ow 0 0))),(6,.v (.one (.ow 1 0)))] [.blk 33 (ri (Gd b)),.blk 33 [nd (Gd b).natAbs,.bool false]] rfl rfl ?_;refine lp (S:=Nat×List Int) 2 (λL1 s=>(0,.v (.one (rp (zp s.2))))::L1) (λ_=>[.blk 33 (ri (Gd b)),.blk 33 [nd (Gd b).natAbs,.bool false]]) (λs=>s.1) (λs=>RRun b s.1 s.2 res) (n,a0) hrun rfl (λ_ _=>rfl) rfl λ⟨k,a⟩ hs=>?_
 have hal:=fzl a;have hs:RRun b k a res:=hs;rcases RRun.inv hs with ⟨rfl,rfl,h1⟩ | ⟨j,rfl,h1,h2,ha,hb,hr⟩
 ·exact en tt [.f (decide_eq_false (by dsimp only; omega))] rfl rfl trivial
 obtain ⟨K,hK⟩:=nmE (a.length-b.length);have htb:=Zem (b:=b) ha;have cc:=Og (p:=zp (Qqf a b a.length));rw [Bb,show trim (Qqf a b a.length)=Qnp a b from rfl] at cc;refine go tt [.t (decide_eq_true (by dsimp only; omega)),.r 30 (eI (b:=(K:Int)) (by dsimp only; omega)),.r 34 (eI (b:=((a.length-1:Nat):Int)) (by dsimp only; omega)),.x (Rr (p:=a) (i:=a.length-1) (by omega))] rfl (by simp [Uu]; omega) ?_;refine ct 1 (S:=Unit) (λ_=>[(0,.v (.one (rp (zp a)))),(1,.v (.one (rp (zp b)))),(5,.v (.one (.ow 0 0))),(6,.v (.one (.ow 1 0))),(7,.v (.one (.int .i64 (K:Int)))),(8,.v (.one (.ow 2 0)))]) (λ_=>[.blk 33 (ri (Gd b)),.blk 33 [nd (Gd b).natAbs,.bool false],.blk 33 (ri (Qak a b))]) (λ_=>True) rfl ?_ (λ_ _=>?_)
 ·by_cases hn:Gd b<0
  ·have e:Qak a b=-(Gd a):=if_pos hn;rw [e];exact go tt [.t (decide_eq_true hn),.c [] (A7 (z:=Gd a))] rfl trivial (rc () trivial rfl)
  ·have e:Qak a b=Gd a:=if_neg hn;rw [e];exact go tt [.f (decide_eq_false hn)] rfl trivial (rc () trivial rfl)
 refine go tt [.o 9 35 4] rfl trivial ?_;refine lp (S:=Nat) 4 (λL1 i=>(44,.v (.one (.int .i64 (i:Int))))::(9,.v (.one (.orow 3 4 none)))::L1) (λi=>[.blk 33 (ri (Gd b)),.blk 33 [nd (Gd b).natAbs,.bool false],.blk 33 (ri (Qak a b)),.row false 35 4 (frow (zp (Qqf a b i)))]) (λi=>a.length-i) (λi=>i<=a.length) 0 (Qg _) rfl (λ_ _=>rfl) rfl λi hi=>?_
 have hfl:=fzl (Qqf a b i);rw [Q9t] at hfl;by_cases h:i<a.length
 ·have cm:=Pf (a:=a.getD i 0) (b:=(((Gd b).natAbs:Nat):Int)) (Qd (Fb ha i) (by decide)) (by omega);have hm:=Ft (a.getD i 0) (((Gd b).natAbs:Nat):Int);have hai:=Fb ha i;rw [Zei (Gd b).natAbs] at cm;by_cases hk:K<=i
  ·have hbi:=Fb hb (i-K);have hm2:=Ft (Qak a b) (b.getD (i-K) 0);have e:Eo a b i=a.getD i 0*(((Gd b).natAbs:Nat):Int)-Qak a b*b.getD (i-K) 0:=by unfold Eo; rw [if_pos (by omega),hK]
   refine go tt [.t (decide_eq_true (by omega)),.x (Rr h),.c [] cm,.t (decide_eq_true (by omega)),.r 62 (eI (b:=((i-K:Nat):Int)) (by omega)),.x (Rr (p:=b) (i:=i-K) (by omega)),.c [] (Pf (a:=Qak a b) (b:=b.getD (i-K) 0) (by omega) (by omega)),.c [] (Q5j (by omega) (by omega)),.c [] (C5 (n:=1) (by decide)),.c [] (Mc (n:=a.getD i 0*(((Gd b).natAbs:Nat):Int)-Qak a b*b.getD (i-K) 0)),.s (sz:=4) (Qws _)] rfl (by simp [Uu,hfl,-List.getD_eq_getElem?_getD] <;> omega) ?_;exact rd (i+1) (by omega) h (by rw [Qnq,Qq4,e]; rfl)
  ·have e:Eo a b i=a.getD i 0*(((Gd b).natAbs:Nat):Int):=by unfold Eo; rw [if_neg (by omega),Int.sub_zero]
   refine go tt [.t (decide_eq_true (by omega)),.x (Rr h),.c [] cm,.f (decide_eq_false (by omega)),.c [] (C5 (n:=1) (by decide)),.c [] (Mc (n:=a.getD i 0*(((Gd b).natAbs:Nat):Int))),.s (sz:=4) (Qws _)] rfl (by simp [Uu,hfl,-List.getD_eq_getElem?_getD] <;> omega) ?_;exact rd (i+1) (by omega) h (by rw [Qnq,Qq4,e]; rfl)
 ·have e:i=a.length:=by omega
  rw [e];exact go tt [.f (decide_eq_false (by omega)),.c [] cc] rfl trivial (rd (j,Qnp a b) (by omega) hr rfl)
theorem Zhj:Uw Tryz.prog 55 [.agg (ri 1),.agg (ri 1)] [.agg (ri 1)]:=Pf (a:=1) (b:=1) (by decide) (by decide)
theorem Zb3:Uw Tryz.prog 133 [.agg (ri 1),.agg (ri 1)] [.agg (ri 1)]:=Qiv (a:=1) (b:=1) (by decide) (by decide)
theorem Zbv {z:Int} (hz:U9 z<=90000000):Uw Tryz.prog 55 [.agg (ri z),.agg (ri 1)] [.agg (ri z)]:=by
 have h:=Pf (a:=z) (b:=1) (by omega) (by decide);rwa [Ww] at h
theorem Qyl {z:Int} (hz:U9 z<=90000000):Uw Tryz.prog 134 [.agg (ri z),.agg (ri 1)] [.agg (ri z)]:=by
 have h:=Qe6 (a:=z) (b:=1) hz (by decide) (by decide) (Int.emod_one z);rwa [Wc] at h
theorem Q41 {z:Int}:Uw Tryz.prog 67 [.agg (fr (z:Rat))] [.agg (fr ((-z:Int):Rat))]:=by
 have h:=Zg8 (a:=(z:Rat));rwa [<-Vr] at h
theorem Ziv {c:Int} (hc:c≠0) (hs:U9 c<=9000000):Qs 40000000 (((1:Int):Rat) / (c:Rat)):=by
 have h0:(c:Rat)≠0:=λe=>hc (by exact_mod_cast e)
 rw [<-Qng h0];unfold Gx;rw [if_neg (Jr (Bs _) (λe=>hc (by simpa using e)))];refine Qs.divInt (by show U9 (1*1)<=_; decide) ?_ (by decide);show U9 (1*c)<=_;rw [Y9]; omega
theorem Qvb {p:List Int} {c:Int} (hc:c≠0) (hs:U9 c<=9000000) (hd:∀ j,c∣p.getD j 0) (hp:Bd 9000000 p) (hl:p.length<=1000):Uw Tryz.prog 203 [.one (rp (zp p)),.agg (fr (((1:Int):Rat) / (c:Rat)))] [.one (rp (zp (P8 p.length λi=>p.getD i 0 / c)))]:=by
 have h:=Ex ((I6 hp (by omega)).mono (by omega)) (Ziv hc hs) (by rw [T0]; omega);rwa [show ((1:Int):Rat)=1 from rfl,Qxh hc hd] at h
theorem A9 {p:List Int} (tp:U3 p) (hp:Bd 9000000 p) (hl:p.length<=1000):Uw Tryz.prog 147 [.one (rp (zp p))] [.agg (fr ((M4 p:Int):Rat)),.one (rp (zp (Hw p)))]:=by
 have Dv:=fzl p;rcases Qy p.length with h0 | h0
 ·have e:=Qh h0;subst e;exact w tt Tryz.func147 rfl [.t rfl,.c [] Q5i] rfl rfl trivial
 have hc:=Q62 tp h0;refine Hn Tryz.func147 rfl ?_;refine go tt [.f (decide_eq_false (by omega)),.c [] (C5 (n:=1) (by decide))] rfl trivial ?_;refine lp (S:=Nat) 2 (λL1 i=>(16,.v (.one (.int .i64 (i:Int))))::L1) (λi=>[.blk 35 [.nils,.bool false,.nils,.bool false],.blk 33 (ri 1)]) (λi=>p.length-i) (λi=>i<=p.length) 0 (Qg _) rfl (λ_ _=>rfl) rfl λi hi=>?_
 by_cases h:i<p.length
 ·refine go tt [.t (decide_eq_true (by omega)),.x (Rr h),.c [] Zhj,.x (Rr h),.c [] Zb3,.c [] (Qyl (z:=1) (by decide))] rfl (by simp [Uu]; omega) ?_;exact rd (i+1) (by omega) h rfl
 refine go tt [.f (decide_eq_false (by omega))] rfl trivial ?_;clear h hi;refine nlb 2 rfl rfl rfl ?_;rw [Q04];refine lp (S:=Nat) 3 (λL1 i=>(37,.v (.one (.int .i64 (i:Int))))::L1) (λi=>[.blk 35 [.nils,.bool false,.nils,.bool false],.blk 33 (ri 1),.blk 33 (ri ((Ez p i:Nat):Int))]) (λi=>p.length-i) (λi=>i<=p.length) 0 (Qg _) rfl (λ_ _=>rfl) rfl λi hi=>?_
 by_cases h:i<p.length
 ·have hb:=Fb hp i;have hg:=Oj hp i;refine go tt [.t (decide_eq_true (by omega)),.x (Rr h),.c [] (Zbv (z:=p.getD i 0) (by omega)),.x (Rr h),.c [] (Qyl (z:=p.getD i 0) (by omega)),.c [] (Qiv (a:=((Ez p i:Nat):Int)) (b:=p.getD i 0) (by omega) (by omega))] rfl (by simp [Uu]; omega) ?_;exact rd (i+1) (by omega) h rfl
 have e:i=p.length:=by omega
 rw [e];have co:=Qir (n:=1) (by decide);have cs:=Qvb hc (Qma hp) (Q2s p) hp hl;by_cases hn:Gd p<0
 ·have e2:M4 p=-((Qbp p:Nat):Int):=if_pos hn;rw [show (λi=>p.getD i 0 / M4 p)=λi=>p.getD i 0 / M4 p from rfl] at cs;have cn:=Q41 (z:=((Qbp p:Nat):Int));rw [<-e2] at cn;exact en tt [.f (decide_eq_false (by omega)),.c [] (Mc (n:=((Qbp p:Nat):Int))),.r 62 (eI (b:=((p.length-1:Nat):Int)) (by omega)),.x (Rr (p:=p) (i:=p.length-1) (by omega)),.t (decide_eq_true hn),.c [] cn,.c [] co,.c [] (Qva (a:=((1:Int):Rat)) (b:=((M4 p:Int):Rat)) ⟨by decide,by decide⟩ (C3 (by have:=Qma hp; omega) (by decide)) (λe=>hc (by exact_mod_cast e))),.c [] cs] rfl rfl (by simp [Uu]; omega)
 ·have e2:M4 p=((Qbp p:Nat):Int):=if_neg hn;have cm:=Mc (n:=M4 p);rw [e2] at cm cs hc ⊢;exact en tt [.f (decide_eq_false (by omega)),.c [] cm,.r 62 (eI (b:=((p.length-1:Nat):Int)) (by omega)),.x (Rr (p:=p) (i:=p.length-1) (by omega)),.f (decide_eq_false hn),.c [] co,.c [] (Qva (a:=((1:Int):Rat)) (b:=((((Qbp p:Nat):Int):Int):Rat)) ⟨by decide,by decide⟩ (C3 (by have:=Oj hp p.length; unfold Qbp; omega) (by decide)) (λe=>hc (by exact_mod_cast e))),.c [] cs] rfl (by unfold Hw; rw [e2]; rfl) (by simp [Uu]; omega)
theorem A8 {p:List Int} (tp:U3 p) (hp:Bd 9000000 p) (hl:p.length<=1000):Uw Tryz.prog 80 [.one (rp (zp p))] [.one (rp (zp (Hw p)))] :=
 w tt Tryz.func80 rfl [.c [] (A9 tp hp hl)] rfl rfl trivial
theorem Qmb {p:List Int} (tp:U3 p):M4 p<0↔Gd p<0:=by
 unfold M4;rcases Qy p.length with h0 | h0
 ·have:=Qh h0; subst this; decide
 ·have:=Qrw tp h0
  split <;> omega
theorem Qvh {p:List Int} (hp:Bd 9000000 p) (hl:p.length<=1000000):Uw Tryz.prog 137 [.one (rp (zp p))] [.one (rp (zp (S5 p)))]:=by
 have h:=Qvm ((I6 hp (by decide)).mono (by decide)) (by rw [T0]; exact hl);rwa [Q05] at h
theorem Qro {p:List Int} (tp:U3 p) (hp:Bd 9000000 p) (hl:p.length<=1000):Uw Tryz.prog 136 [.one (rp (zp p))] [.one (rp (zp (Ma p)))]:=by
 by_cases hn:Gd p<0
 ·have e:Ma p=S5 (Hw p):=if_pos hn;rw [e];exact w tt Tryz.func136 rfl [.c [] (A9 tp hp hl),.t (decide_eq_true ((Qmb tp).2 hn)),.c [] (Qvh (Qip hp) (Qd (Qfq p) (by omega)))] rfl rfl trivial
 ·have e:Ma p=Hw p:=if_neg hn;rw [e];exact w tt Tryz.func136 rfl [.c [] (A9 tp hp hl),.f (decide_eq_false λh=>hn ((Qmb tp).1 h))] rfl rfl trivial
end Orr
namespace Orr
theorem E7 (f:Nat->Int):P8 1 f=trim [f 0]:=rfl
theorem Qjh (f:Nat->Int):P8 2 f=trim [f 0,f 1]:=rfl
theorem Qen (x:Int):trim [x]=if x=0 then [] else [x]:=rfl
theorem Qn2 (x y:Int):trim [x,y]=if y=0 then trim [x] else [x,y]:=by
 simp only [trim]; split <;> split <;> simp_all
theorem bd1 {s:Nat} {x:Int} (h:U9 x<=s):Bd s [x]:=λz hz=>by simp at hz; subst hz; exact h
theorem bd2 {s:Nat} {x y:Int} (h:U9 x<=s) (h':U9 y<=s):Bd s [x,y]:=λz hz=>by
 simp only [Qq,Kz,or_false] at hz;rcases hz with rfl | rfl <;> assumption
section
variable {x d:Int} (hd:0<d) (hg:Int.gcd x d=1) (hx:U9 x<=1000000) (hs:U9 d<=1000000)
theorem b1 {s:Nat} (h:1<=s):Bd s [1]:=bd1 (Qd (show U9 1<=1 by decide) h)
include hd in
theorem Qd4 (hg:Int.gcd x d=1):Hw [x,d]=[x,d]:=by
 have hc:M4 [x,d]=1:=by
  have h1:Qbp [x,d]=1:=by
   show Int.gcd (Int.gcd ((0:Nat):Int) x:Nat) d=1;rw [show Int.gcd ((0:Nat):Int) x=x.natAbs by simp,show Int.gcd ((x.natAbs:Nat):Int) d=Int.gcd x d by simp [Int.gcd],hg]
  unfold M4;rw [if_neg (show ¬Gd [x,d]<0 from by show ¬d<0; omega),h1]; rfl
 unfold Hw;rw [hc];show P8 2 _=_;rw [Qjh,Qn2];show (if d / 1=0 then _ else [x / 1,d / 1])=_;rw [Wc,if_neg (by omega),Wc]
theorem Q8x:Hw [1]=[1]:=by decide
include hd in
theorem Qks:Hw [d]=[1]:=by
 have hc:M4 [d]=d:=by
  have h1:((Qbp [d]:Nat):Int)=d:=by
   show ((Int.gcd ((0:Nat):Int) d:Nat):Int)=d;simp; omega
  unfold M4;rw [if_neg (show ¬Gd [d]<0 from by show ¬d<0; omega),h1]
 unfold Hw;rw [hc];show P8 1 _=_;rw [E7,Qen];show (if d / d=0 then _ else [d / d])=_;rw [Int.ediv_self (by omega)]; rfl
include hd in
theorem Qov:Gf [x,d]=[d]:=by
 show P8 1 _=_;rw [E7,Qen];show (if d*1=0 then _ else [d*1])=_;rw [Ww,if_neg (by omega)]
include hd hx hs in
theorem Qtv:∃ m,RRun [1] m [x,d] []:=by
 have h1:Qnp [x,d] [1]=trim [x]:=by
  show P8 2 _=_;rw [Qjh,Qn2];have e1:Eo [x,d] [1] 1=0:=by
   show d*1-(if 1<=1 then Qak [x,d] [1]*1 else 0)=0;have:Qak [x,d] [1]=d:=by unfold Qak; rw [if_neg (by decide)]; rfl
   rw [this]; simp
  have e0:Eo [x,d] [1] 0=x:=by
   show x*1-(if 1<=0 then _ else 0)=x;simp
  rw [e1,if_pos rfl,e0]
 have hb:Bd 9000000 [x,d]:=bd2 (by omega) (by omega);by_cases h0:x=0
 ·refine ⟨1,.step (by show 1<=2; decide) (by show 2<=1000; decide) hb (b1 (by decide)) ?_⟩;rw [h1,h0];exact .stop (by decide)
 ·refine ⟨2,.step (by show 1<=2; decide) (by show 2<=1000; decide) hb (b1 (by decide)) ?_⟩;rw [h1,Qen,if_neg h0];refine .step (Qi 1) (by show 1<=1000; decide) (bd1 (by omega)) (b1 (by decide)) ?_;have h2:Qnp [x] [1]=[]:=by
   show P8 1 _=_;rw [E7,Qen];have e0:Eo [x] [1] 0=0:=by
    show x*1-(if 0<=0 then Qak [x] [1]*1 else 0)=0;have:Qak [x] [1]=x:=by unfold Qak; rw [if_neg (by decide)]; rfl
    rw [this]; simp
   rw [e0,if_pos rfl]
  rw [h2];exact .stop (by decide)
include hd hx hs in
theorem Q7m:∃ m,GRun m [x,d] [1] [1]:=by
 obtain ⟨m,h⟩:=Qtv hd hx hs;exact ⟨1,.step (by decide) (by decide) (b1 (by decide)) h (by decide) Of rfl (by rw [show Hw []=[] by decide]; exact .stop _)⟩
theorem Q3i (c:Int):Po [c] [c]=[]:=by
 show P8 1 _=_;rw [E7,Qen];show (if c-c=0 then _ else _)=_;rw [if_pos (by omega)]
include hd hx hs in
theorem Qzg:DOk [x,d] [1] [x,d]:=by
 refine ⟨by decide,by decide,by show 2<=1000; decide,b1 (by decide),[x,d],[],?_⟩;have Dv:Gd [x,d] / Gd [1]=d:=by show d / 1=d; rw [Wc]
 have hsc:Fi [1] d=[d]:=by
  show P8 1 _=_;rw [E7,Qen];show (if 1*d=0 then _ else [1*d])=_;rw [Y9,if_neg (by omega)]
 have hsub:Po [x,d] (Ln 1 [d])=trim [x]:=by
  show P8 2 _=_;rw [Qjh,Qn2];show (if d-d=0 then trim [x-0] else _)=_;rw [if_pos (by omega),Int.sub_zero]
 have hb:Bd 9000000 [x,d]:=bd2 (by omega) (by omega);have ht:trim [x,d]=[x,d]:=by rw [Qn2,if_neg (by omega)]
 by_cases h0:x=0
 ·refine ⟨1,hb,by show 2<=1000; decide,?_,ht.symm⟩;refine .step (by show 1<=2; decide) (by show 2<=1000; decide) hb (by decide) (by show (1:Int)∣d; exact Int.one_dvd d) (by show 1<2; decide) ?_;rw [Dv,hsc,show [x,d].length-[(1:Int)].length=1 from rfl,hsub,Qen,if_pos h0];show DRun [1] 0 [] [0,d] [x,d] [];rw [h0]; exact .stop (by decide)
 ·refine ⟨2,hb,by show 2<=1000; decide,?_,ht.symm⟩;refine .step (by show 1<=2; decide) (by show 2<=1000; decide) hb (by decide) (by show (1:Int)∣d; exact Int.one_dvd d) (by show 1<2; decide) ?_;rw [Dv,hsc,show [x,d].length-[(1:Int)].length=1 from rfl,hsub,Qen,if_neg h0];refine .step (by show 1<=1; decide) (by show 1<=1000; decide) (bd1 (by omega)) (by decide) (by show (1:Int)∣x; exact Int.one_dvd x) (by show 0<2; decide) ?_;have hpl2:Gd [x] / Gd [1]=x:=by show x / 1=x; rw [Wc]
  have hsc2:Fi [1] x=[x]:=by
   show P8 1 _=_;rw [E7,Qen];show (if 1*x=0 then _ else [1*x])=_;rw [Y9,if_neg h0]
  rw [hpl2,hsc2,show [x].length-[(1:Int)].length=0 from rfl,show Ln 0 [x]=[x] from rfl,Q3i];exact .stop (by decide)
theorem div_one:DOk [1] [1] [1]:=by
 refine ⟨by decide,by decide,by decide,b1 (by decide),[1],[],1,b1 (by decide),by decide,?_,by decide⟩;refine .step (by decide) (by decide) (b1 (by decide)) (by decide) (by decide) (by decide) ?_;exact .stop (by decide)
include hd hg hx hs in
theorem Q66:FRun [x,d] 1 (λ_=>[x,d]):=by
 obtain ⟨m,hm⟩:=Q7m (x:=x) hd hx hs;refine ⟨⟨1,[[x,d],[1]],?_,rfl,?_⟩,by decide⟩
 ·rw [Qd4 hd hg];refine .step (by show 1<2; decide) (by show 2<=1000; decide) (by show trim [x,d]=[x,d]; rw [Qn2,if_neg (by omega)]) (by show Bd 9000000 [x,d]; exact bd2 (by omega) (by omega)) ?_ ?_ (by show 1<=1000; decide) (m:=m) (g:=[1]) ?_
  ·show Bd 9000000 (Gf [x,d]);rw [Qov hd]; exact bd1 (by omega)
  ·show GRun m (Hw [x,d]) (Hw (Gf [x,d])) [1];rw [Qd4 hd hg,Qov hd,Qks hd]; exact hm
  ·exact .stop (by show 1<=1; decide)
 ·intro k hk;have:k=0:=by omega
  subst this;exact ⟨[x,d],[1],[x,d],Qzg hd hx hs,div_one,by rw [Qd4 hd hg,Q8x]; exact Qzg hd hx hs,(Qd4 hd hg).symm⟩
theorem Q27 {p:List Int} (hp:U3 p) (h0:0<p.length):Fu [1] p=p:=by
 refine Ot (G8 _ _) hp λk=>?_
 unfold Fu;rw [if_neg (by
  rintro (h | h); · cases h
  ·omega),D4]
 show (No [1] p (List.replicate (1+p.length-1) 0) 1).getD k 0=_;simp only [No];rw [Qfv _ _ _ _ _ _ (by simp),Tw]
 split
 ·show 0+1*p.getD (k-0) 0=_;rw [Wn]; omega
 ·rename_i h;rw [Qf,Qu (by omega)]; rfl
include hd hg hx hs in
theorem Q2a:ChRun [x,d] [x,d] [[x,d],[1]]:=by
 obtain ⟨m,hm⟩:=Qtv (x:=x) hd hx hs;have ht:U3 [x,d]:=by show trim [x,d]=_; rw [Qn2,if_neg (by omega)]
 refine ⟨⟨1,λ_=>[x,d],Q66 hd hg hx hs,?_,?_⟩,⟨1,?_⟩,bd2 (by omega) (by omega),by show 2<=1000; decide,by show 2<=1000; decide⟩
 ·intro i hi;have:i=0:=by omega
  subst this;exact ⟨b1 (by decide),by show 1<=1000; decide,bd2 (by omega) (by omega),by show 2<=1000; decide⟩
 ·show [x,d]=Fu [1] [x,d];rw [Q27 ht (by show 0<2; decide)]
 ·have hz:Ma (Gf [x,d])=[1]:=by
   rw [Qov hd];unfold Ma;rw [if_neg (show ¬Gd [d]<0 from by show ¬d<0; omega),Qks hd]
  rw [hz];refine .step (by decide) (by decide) (b1 (by decide)) (m:=m) (r:=[]) hm rfl Of (by decide) (by show 0<1; decide) (by show 1<=1000; decide) ?_;exact .stop (by decide)
end
theorem Zgc {q:Rat} (h:Qs 1000000 q):Qx5 q [[-q.num,(q.den:Int)],[1]]:=by
 refine ⟨[-q.num,(q.den:Int)],Q2a (den_pos q) ?_ (by rw [Hl]; exact h.1) h.2⟩;rw [Int.neg_gcd];have:=q.reduced;unfold Nat.Coprime at this;simpa [Int.gcd] using this
end Orr
namespace Orr
open Go Go.Proofs
set_option maxRecDepth 10000
theorem Zhk {a b g:List Int} {n:Nat} (ta:U3 a) (tb:U3 b) (ha:Bd 9000000 a) (hb:Bd 9000000 b) (la:a.length<=1000) (lb:b.length<=1000) (hrun:GRun n (Hw a) (Hw b) g):Uw Tryz.prog 155 [.one (rp (zp a)),.one (rp (zp b))] [.one (rp (zp g))]:=by
 refine Hn Tryz.func155 rfl ?_;refine go tt [.c [] (A8 ta ha la),.c [] (A8 tb hb lb)] rfl trivial ?_;refine sb [(0,.v (.one (rp (zp (Hw a))))),(1,.v (.one (rp (zp (Hw b)))))] [] rfl rfl ?_;refine lp (S:=Nat×List Int×List Int) 0 (λL1 s=>(0,.v (.one (rp (zp s.2.1))))::(1,.v (.one (rp (zp s.2.2))))::L1) (λ_=>[]) (λs=>s.1) (λs=>GRun s.1 s.2.1 s.2.2 g) (n,Hw a,Hw b) hrun rfl (λ_ _=>rfl) rfl λ⟨k,x,y⟩ hs=>?_
 have hs:GRun k x y g:=hs;have hyl:=fzl y;rcases hs.inv with ⟨hk,hy0,hxg⟩ | ⟨j,m2,r,hk,hy0,hy1,hyb,hrr,hrl,hrb,hrt,hgr⟩
 ·rw [<-hxg];exact en tt [.f (decide_eq_false (by dsimp only; omega))] rfl rfl trivial
 ·subst hk;refine go tt [.t (decide_eq_true (by dsimp only; omega)),.c [] (Qyz (a0:=x) (b:=y) (res:=r) hy0 hy1 hyb hrr),.c [] (A8 (p:=r) hrt hrb hrl)] rfl trivial ?_;exact rd (j,y,Hw r) (by dsimp only; omega) hgr rfl
theorem Zbw {x y:Int} (hx:U9 x<=9000000) (hy:U9 y<=9000000) (h0:y≠0) (hd:y∣x):Uw Tryz.prog 207 [.agg (fr (x:Rat)),.agg (fr (y:Rat))] [.agg (fr ((x / y:Int):Rat))]:=by
 have hy0:(y:Rat)≠0:=λe=>h0 (by exact_mod_cast e)
 have h:=Qva (C3 (s:=40000000) (z:=x) (by omega) (by omega)) (C3 (s:=40000000) (z:=y) (by omega) (by omega)) hy0;obtain ⟨k,rfl⟩:=hd;rw [Xw _ h0];rwa [show (((y*k:Int):Rat)) / (y:Rat)=(k:Rat) by rw [X1]; grind] at h
theorem Q15 {p:List Int} {c:Int} (hp:Bd 40000000 p) (hc:U9 c<=40000000) (hl:p.length<=1000000):Uw Tryz.prog 203 [.one (rp (zp p)),.agg (fr (c:Rat))] [.one (rp (zp (Fi p c)))]:=by
 have h:=Ex (I6 hp (by omega)) (C3 hc (by omega)) (by rw [T0]; exact hl);rwa [Qno] at h
theorem Zey (k:Nat) (p:List Int):frow (zp (List.replicate k 0))++frow (zp p)=frow (zp (Ln k p)):=by simp [zp,Ln,frow]
theorem Q2w (l:List Int) (i:Nat) (z:Int):(frow (zp l)).set i [nd ((z:Rat)).num.natAbs,sg ((z:Rat)).num,nd (((z:Rat)).den:Int).natAbs,sg (((z:Rat)).den:Int)]=frow (zp (l.set i z)):=Qsg l i z
theorem Zb6 {p q:List Int} (hp:Bd 18000000 p) (hq:Bd 18000000 q) (hlp:p.length<=1000000) (hlq:q.length<=1000000):Se Tryz.prog 144 [.one (rp (zp p)),.one (.orow 0 4 none)] [.row false 35 4 (frow (zp q))] [.one (rp (zp (Po p q)))] [.gone]:=by
 have hn:=Qvm ((I6 hq (by decide)).mono (by decide)) (by rw [T0]; exact hlq);have ha:=Qvi (p:=zp p) (q:=Qqb (zp q)) ((I6 hp (by decide)).mono (by decide)) ((Q9f (I6 hq (by decide))).mono (by decide)) (by rw [T0]; exact hlp) (Qd (Qtw _) (by rw [T0]; exact hlq));have e:Q3n (zp p) (Qqb (zp q))=zp (Po p q):=Q09 p q;rw [e] at ha;refine Hn Tryz.func144 rfl ?_;exact ed tt [] [0] [.c [] hn,.c [] ha] rfl trivial
theorem Q16 {a0 b qf rem:List Int} {n:Nat} (hb0:0<b.length) (hb1:b.length<=1000) (hl0:a0.length<=1000) (hbb:Bd 9000000 b) (hqb:Bd 9000000 qf) (hrun:DRun b n a0 (List.replicate (a0.length+1-b.length) 0) qf rem):Uw Tryz.prog 259 [.one (rp (zp a0)),.one (rp (zp b))] [.one (rp (zp (trim qf))),.one (rp (zp rem))]:=by
 have h0l:=fzl a0;have hbl:=fzl b;obtain ⟨N,hN⟩:=nmE (a0.length+1-b.length);rw [<-hN] at hrun;have cc:=Og (p:=zp qf);rw [Bb] at cc;refine Hn Tryz.func259 rfl ?_;refine go tt [.r 18 (eI (b:=(N:Int)) (by omega)),.i N,.i N,.r 21 (eI (b:=(N:Int)) (by simp))] rfl (by simp [Uu]; omega) ?_;refine lp (S:=Nat) 1 (λL1 i=>(22,.v (.one (.int .i64 (i:Int))))::L1) (λi=>[.row false 35 4 (List.replicate i (fr 0)++List.replicate (N-i) zR)]) (λi=>N-i) (λi=>i<=N) 0 (Qg _) rfl (λ_ _=>rfl) rfl λi hi=>?_
 by_cases hlt:i<N
 ·refine go tt [.t (decide_eq_true (by omega)),.c [] Q5i,.i i] rfl (by simp [Uu]; omega) ?_;rw [Qo5 hlt];exact rd (i+1) (by omega) hlt rfl
 have hiN:i=N:=by omega
 rw [hiN,Qlc];clear hiN hlt hi;refine go tt [.f (decide_eq_false (by omega))] rfl trivial ?_;refine sb [(0,.v (.one (rp (zp a0)))),(1,.v (.one (rp (zp b)))),(6,.v (.one (.orow 0 4 none)))] [.row false 35 4 (frow (zp (List.replicate N 0)))] rfl rfl ?_;refine lp (S:=Nat×List Int×List Int) 1 (λL1 s=>(0,.v (.one (rp (zp s.2.1))))::L1) (λs=>[.row false 35 4 (frow (zp s.2.2))]) (λs=>s.1) (λs=>DRun b s.1 s.2.1 s.2.2 qf rem/\s.2.2.length=N) (n,a0,List.replicate N 0) ⟨hrun,Ja⟩ rfl (λ_ _=>rfl) rfl λ⟨k,a,q⟩ ⟨hr0,hr1⟩=>?_
 have hr0:DRun b k a q qf rem:=hr0;have hr1:q.length=N:=hr1;have hal:=fzl a;have hql:=fzl q;rcases hr0.inv with ⟨hk,hqf,har,hlt⟩ | ⟨j,hk,hba,hal2,hab,hpb,hpd,hkq,hrj⟩
 ·subst hqf; subst har;exact en tt [.f (decide_eq_false (by dsimp only; omega)),.c [] cc] rfl rfl trivial
 subst hk;obtain ⟨K,hK⟩:=nmE (a.length-b.length);rw [<-hK] at hrj hkq;have hla:U9 (Gd a)<=9000000:=Fb hab _;have hlb:U9 (Gd b)<=9000000:=Fb hbb _;obtain ⟨c,hc⟩:=nmE (Gd a / Gd b);have cq:=Zbw hla hlb hpb hpd;have hcs:U9 (Gd a / Gd b)<=9000000:=Qd (O3 _ _) hla;rw [<-hc] at cq hcs hrj;have hsl:=Fz b c;have hqs:∀ x,(q.set K x).length=N:=λx=>by rw [Jt]; exact hr1
 dsimp only;refine go tt [.t (decide_eq_true (by omega)),.r 39 (eI (b:=(K:Int)) (by omega)),.r 43 (eI (b:=((a.length-1:Nat):Int)) (by omega)),.x (Rr (p:=a) (i:=a.length-1) (by omega)),.r 49 (eI (b:=((b.length-1:Nat):Int)) (by omega)),.x (Rr (p:=b) (i:=b.length-1) (by omega)),.c [] cq,.i K,.i K,.i K,.r 60 (eI (b:=(K:Int)) (by simp))] rfl (by simp [Uu,hql] <;> omega) ?_;rw [Q2w];refine lp (S:=Nat) 3 (λL1 i=>(61,.v (.one (.int .i64 (i:Int))))::L1) (λi=>[.row false 35 4 (frow (zp (q.set K c))),.blk 35 (fr (c:Rat)),.row false 35 4 (List.replicate i (fr 0)++List.replicate (K-i) zR)]) (λi=>K-i) (λi=>i<=K) 0 (Qg _) rfl (λ_ _=>rfl) rfl λi hi=>?_
 by_cases hlt:i<K
 ·refine go tt [.t (decide_eq_true (by omega)),.c [] Q5i,.i i] rfl (by simp [Uu]; omega) ?_;rw [Qo5 hlt];exact rd (i+1) (by omega) hlt rfl
 have hiK:i=K:=by omega
 rw [hiK,Qlc];clear hiK hlt hi;have hzl:=fzl (List.replicate K 0);rw [Ja] at hzl;have Dv:=fzl (Fi b c);refine go tt [.f (decide_eq_false (by omega))] rfl trivial ?_;refine sb [(10,.v (.one (.orow 2 4 none))),(9,.v (.one (.ow 1 0))),(0,.v (.one (rp (zp a)))),(1,.v (.one (rp (zp b)))),(6,.v (.one (.orow 0 4 none)))] [.row false 35 4 (frow (zp (q.set K c))),.blk 35 (fr (c:Rat)),.row false 35 4 (frow (zp (List.replicate K 0)))] rfl rfl ?_;have p2:=Zb6 (p:=a) (q:=Ln K (Fi b c)) (Uv hab (by decide)) (Uv (Q1t (Gp hbb hcs)) (by decide)) (by omega) (by rw [Qxl]; omega);rw [<-Zey] at p2;refine go tt [.c [] (Q15 (c:=c) (Uv hbb (by decide)) (by omega) (by omega)),.s (sz:=4) (Qfg (zp (Fi b c))),.c [2] p2] rfl (by simp [Uu,hzl,Dv]; omega) ?_;exact rd (j,Po a (Ln K (Fi b c)),q.set K c) (by dsimp only; omega) ⟨hrj,hqs c⟩ rfl
def zls (l:List (List Int)):List (List LV):=l.map λp=>[rp (zp p)]
theorem Qbo (l:List (List Int)):(zls l).length=l.length:=by simp [zls]
theorem Qev (l:List (List Int)) (g:List Int):zls l++[[rp (zp g)]]=zls (l++[g]):=by simp [zls]
theorem Qbn {l:List (List Int)} {i:Nat} (h:i<l.length):(zls l)[i]? = some [rp (zp (l.getD i []))]:=Ho (Qv8 h)
theorem Zdx (x:LV):∀ c∈[[x]],c.length=1:=λc hc=>by rw [Qj.1 hc]; rfl
theorem Qix {a b q:List Int} (h:DOk a b q):∃ r,Uw Tryz.prog 259 [.one (rp (zp a)),.one (rp (zp b))] [.one (rp (zp q)),.one (rp (zp r))]:=by
 obtain ⟨h1,h2,h3,h4,qf,r,n,h5,h6,h7,rfl⟩:=h;exact ⟨r,Q16 h1 h2 h3 h4 h5 h7⟩
theorem Qvk {a:List Int} {mf:Nat} {f:Nat->List Int} (ta:U3 a) (ha:Bd 9000000 a) (la:a.length<=1000) (h2:2<=a.length) (hF:FRun a mf f):Uw Tryz.prog 202 [.one (rp (zp a))] [.one (.row (zls (Qla f mf)))]:=by
 obtain ⟨⟨n,ls,hrun,hlen,hq⟩,hms⟩:=hF;have hal:=fzl a;refine Hn Tryz.func202 rfl ?_;refine go tt [.f (decide_eq_false (by omega)),.c [] (A8 ta ha la),.o 3 28 1,.lo] rfl trivial ?_;refine sb [(3,.v (.one (.orow 0 1 none))),(4,.v (.one (.orow 1 1 none)))] [.row false 28 1 [],.row false 28 1 (zls [Hw a])] rfl rfl ?_;refine lp (S:=Nat×List (List Int)) 2 (λL1 s=>(4,.v (.one (.orow 1 1 none)))::L1) (λs=>[.row false 28 1 [],.row false 28 1 (zls s.2)]) (λs=>s.1) (λs=>LRun s.1 s.2 ls/\0<s.2.length/\s.2.length<=1001) (n,[Hw a]) ⟨hrun,by show 0<1; decide,by show 1<=1001; decide⟩ rfl (λ_ _=>rfl) rfl λ⟨k,l⟩ ⟨hs1,hs2,hs3⟩=>?_
 have hs1:LRun k l ls:=hs1;have hs2:0<l.length:=hs2;have hs3:l.length<=1001:=hs3;have hll:=Qbo l;have hlast:(zls l)[l.length-1]? = some [rp (zp (P7 l))]:=Qbn (by omega);have Dv:=fzl (P7 l);dsimp only;rcases hs1.inv with ⟨hk,hlf,hl1⟩ | ⟨j,m2,g,hk,hg1,hg2,hg3,hg4,hg5,hg6,hg7,hlr⟩
 ·have hlm:l.length=mf+1:=by rw [hlf]; exact hlen
  rw [<-hlf] at hq;have hl2:=Qbo (l++[[1]]);have hl3:(l++[[1]]).length=mf+2:=by simp [hlm]
  refine go tt [.r 23 (eI (b:=((l.length-1:Nat):Int)) (by omega)),.i (l.length-1),.x hlast,.f (decide_eq_false (by omega)),.c [] Qvn,.s (sz:=1) (Zdx _)] rfl (by simp [Uu,hll]; omega) ?_;rw [Qev];refine lp (S:=Nat) 2 (λL1 i=>(6,.v (.one (.int .i64 (i:Int))))::(3,.v (.one (.orow 0 1 none)))::L1) (λi=>[.row false 28 1 (zls (Qla f i)),.row false 28 1 (zls (l++[[1]]))]) (λi=>mf-i) (λi=>i<=mf) 0 (Qg _) rfl (λ_ _=>rfl) rfl λi hi=>?_
  have htl:=Qbo (Qla f i);rw [Qt8] at htl;by_cases h:i<mf
  ·obtain ⟨x,y,z,hx,hy,hz,hf⟩:=hq i h;obtain ⟨rx,hdx⟩:=Qix hx;obtain ⟨ry,hdy⟩:=Qix hy;obtain ⟨rz,hdz⟩:=Qix hz;refine go tt [.t (decide_eq_true (by omega)),.i i,.x (Qbn (by omega)),.i (i+1),.x (Qbn (by omega)),.c [] hdx,.i (i+1),.x (Qbn (by omega)),.i (i+2),.x (Qbn (by omega)),.c [] hdy,.c [] (A8 hx.trim hx.bd hx.len),.c [] (A8 hy.trim hy.bd hy.len),.c [] hdz,.c [] (A8 hz.trim hz.bd hz.len),.s (sz:=1) (Zdx _)] rfl (by simp [Uu,hl2,htl]; omega) ?_;exact rd (i+1) (by omega) h (by rw [Qev,Q3x,hf]; rfl)
  ·have e:i=mf:=by omega
   rw [e];exact en tt [.f (decide_eq_false (by omega))] rfl rfl (by simp [Uu]; omega)
 ·subst hk;refine go tt [.r 23 (eI (b:=((l.length-1:Nat):Int)) (by omega)),.i (l.length-1),.x hlast,.t (decide_eq_true (by omega)),.r 31 (eI (b:=((l.length-1:Nat):Int)) (by omega)),.i (l.length-1),.x hlast,.c [] (Qvj (Uv hg4 (by decide)) (by omega)),.c [] (Zhk hg3 (Fl _ _) hg4 hg5 hg2 (Qd (Pi _) (by omega)) hg6),.s (sz:=1) (Zdx _)] rfl (by simp [Uu,hll]; omega) ?_;exact rd (j,l++[g]) (by dsimp only; omega) ⟨hlr,by simp,by simp; omega⟩ (by rw [Qev]; rfl)
theorem Q17 {a:List Int} {mf:Nat} {f:Nat->List Int} (ta:U3 a) (ha:Bd 9000000 a) (la:a.length<=1000) (h2:2<=a.length) (hF:FRun a mf f) (hP:Zj1 mf f):Uw Tryz.prog 135 [.one (rp (zp a))] [.one (rp (zp (Aq f mf)))]:=by
 have hms:=hF.small;have hal:=fzl a;have htl:=Qbo (Qla f mf);rw [Qt8] at htl;refine Hn Tryz.func135 rfl ?_;refine go tt [.f (decide_eq_false (by omega)),.c [] Qvn,.c [] (Qvk ta ha la h2 hF)] rfl trivial ?_;refine lp (S:=Nat) 0 (λL1 i=>(15,.v (.one (.int .i64 (i:Int))))::(3,.v (.one (rp (zp (Aq f i)))))::L1) (λ_=>[]) (λi=>mf-i) (λi=>i<=mf) 0 (Qg _) rfl (λ_ _=>rfl) rfl λi hi=>?_
 by_cases h:i<mf
 ·obtain ⟨g1,g2,g3,g4⟩:=hP i h;refine go tt [.t (decide_eq_true (by omega)),.x (Ho (f:=λp=>[rp (zp p)]) (Zaj h)),.c [] (Qvl (p:=Aq f i) (q:=f i) (by omega) (by omega) g1 g3 (by decide))] rfl (by simp [Uu]; omega) ?_;exact rd (i+1) (by omega) h rfl
 ·have e:i=mf:=by omega
  rw [e];exact en tt [.f (decide_eq_false (by omega))] rfl rfl trivial
theorem Q23 {l:List (List Int)} (g:List Int) (h:0<l.length):(zls l++[[rp (zp g)]])[l.length-1]? = some [rp (zp (P7 l))]:=by
 rw [Q8 (by rw [Qbo]; omega)];exact Qbn (by omega)
theorem Q5q {a sq:List Int} {c:List (List Int)} (ta:U3 a) (ha:Bd 9000000 a) (la:a.length<=1000) (h2:2<=a.length) (hC:ChRun a sq c):Uw Tryz.prog 69 [.one (rp (zp a))] [.one (.row (zls c))]:=by
 obtain ⟨⟨mf,f,hF,hP,rfl⟩,⟨n,hcr⟩,hbd,hle,hsm⟩:=hC;refine Hn Tryz.func69 rfl ?_;refine go tt [.c [] (Q17 ta ha la h2 hF hP),.lo,.c [] (Qvj (p:=Aq f mf) (Uv hbd (by decide)) (by omega)),.c [] (Qro (p:=Gf (Aq f mf)) (Fl _ _) (Uv (Qhp (t:=10) hbd (by omega)) (by decide)) (Qd (Pi _) (by omega)))] rfl trivial ?_;refine sb [(5,.v (.one (rp (zp (Ma (Gf (Aq f mf))))))),(4,.v (.one (.orow 0 1 none)))] [.row false 28 1 (zls [Aq f mf])] rfl rfl ?_;refine lp (S:=Nat×List (List Int)×List Int) 1 (λL1 s=>(5,.v (.one (rp (zp s.2.2))))::(4,.v (.one (.orow 0 1 none)))::L1) (λs=>[.row false 28 1 (zls s.2.1)]) (λs=>s.1) (λs=>CRun s.1 s.2.1 s.2.2 c/\0<s.2.1.length/\s.2.1.length<=1001) (n,[Aq f mf],Ma (Gf (Aq f mf))) ⟨hcr,by show 0<1; decide,by show 1<=1001; decide⟩ rfl (λ_ _=>rfl) rfl λ⟨k,l,g⟩ ⟨hs1,hs2,hs3⟩=>?_
 have hs1:CRun k l g c:=hs1;have hs2:0<l.length:=hs2;have hs3:l.length<=1001:=hs3;have hll:=Qbo l;have hgl:=fzl g;dsimp only;rcases hs1.inv with ⟨hk,hlf,hg0⟩ | ⟨j,m2,r,hk,hg1,hg2,hg3,hrr,hrt,hrb,hrl,hl0,hl1,hcj⟩
 ·subst hlf;exact en tt [.f (decide_eq_false (by omega))] rfl rfl trivial
 ·subst hk;refine go tt [.t (decide_eq_true (by omega)),.s (sz:=1) (Zdx _),.r 23 (eI (b:=((l.length-1:Nat):Int)) (by simp; omega)),.i (l.length-1),.x (Q23 g hl0),.c [] (Qyz (a0:=P7 l) (b:=g) (res:=r) hg1 hg2 hg3 hrr),.c [] (Qro (p:=r) hrt hrb hrl),.c [] (Qvh (p:=Ma r) (Q1s hrb) (Qd (Qwh r) (by omega)))] rfl (by simp [Uu,hll]; omega) ?_;exact rd (j,l++[g],S5 (Ma r)) (by dsimp only; omega) ⟨hcj,by simp,by simp; omega⟩ (by rw [Qev]; rfl)
theorem Zj9 {q:Rat} (h1:U9 q.num<=1000000) (h2:U9 (q.den:Int)<=1000000):Bd 9000000 [-q.num,(q.den:Int)]:=λz hz=>by
 simp only [Qq,Kz,or_false] at hz;rcases hz with rfl | rfl
 ·rw [Hl]; omega
 ·omega
abbrev aq (q:Rat) (c:List (List Int)):List LV:=[rp (zp [-q.num,(q.den:Int)]),.row (zls c)]++fr q++fr q
theorem Qgi {q:Rat} {c:List (List Int)} (hq:Qs 1000000 q) (hC:Qx5 q c):Uw Tryz.prog 10 [.agg (fr q)] [.agg (aq q c)]:=by
 obtain ⟨sq,hch⟩:=hC;have co:=C5 (n:=1) (by decide);exact w tt Tryz.func10 rfl [.c [] co,.c [] (Mc (n:=q.num)),.c [] (Q41 (z:=q.num)),.c [] co,.c [] (Mc (n:=(q.den:Int))),.c [] (Q5q (a:=[-q.num,(q.den:Int)]) (Q1g q) (Zj9 hq.1 hq.2) (by show 2<=1000; decide) (Qi 2) hch)] rfl rfl trivial
theorem Qrp {q:Rat} {c:List (List Int)} (hq:Qs 1000000 q):Uw Tryz.prog 89 [.agg (aq q c)] [.one (.bool true)]:=by
 have cr:=Zb0 (a:=q) (b:=q) (hq.mono (by decide)) (hq.mono (by decide));rw [Bq] at cr;exact w tt Tryz.func89 rfl [.c [] cr] rfl rfl trivial
theorem Q3h {p:List Int} (h:p.length=0) (q:Rat):Gm p q=0:=by rw [Qh h]; rfl
theorem Qyy {p:List Int} {q:Rat} {c:List (List Int)} (hp:Bd 30000000 p) (hl:p.length<=64) (hq:Qs 1000000 q):Uw Tryz.prog 90 [.one (rp (zp p)),.agg (aq q c)] [.one (.bool (decide (Gm p q=0)))]:=by
 have Dv:=fzl p;rcases Qy p.length with h0 | h0
 ·rw [decide_eq_true (Q3h h0 q)];exact w tt Tryz.func90 rfl [.t (decide_eq_true (by omega))] rfl rfl trivial
 ·exact w tt Tryz.func90 rfl [.f (decide_eq_false (by omega)),.c [] (Qrp hq),.t rfl,.c [] (Qyx hp hl hq)] rfl rfl trivial
theorem Qls {p:List Int} {q:Rat} {c:List (List Int)} (hp:Bd 30000000 p) (hl:p.length<=64) (hq:Qs 1000000 q):Uw Tryz.prog 70 [.one (rp (zp p)),.agg (aq q c)] [.one (.int .i64 (Gm p q))]:=by
 by_cases h0:Gm p q=0
 ·have cz:=Qyy (c:=c) hp hl hq;rw [h0] at cz ⊢;exact w tt Tryz.func70 rfl [.c [] cz,.t rfl] rfl rfl trivial
 ·exact w tt Tryz.func70 rfl [.c [] (Qyy hp hl hq),.f (decide_eq_false h0),.c [] (Qrp hq),.g 11 true rfl,.t rfl,.c [] (Qyx hp hl hq)] rfl rfl trivial
theorem Ci {p:List Int} {q:Rat} {c:List (List Int)} (hp:Bd 20000000 p) (hl:p.length<=64) (hq:Qs 1000000 q):Uw Tryz.prog 15 [.one (rp (zp p)),.agg (aq q c)] [.one (.int .i64 (S0 p q))]:=by
 refine Hn Tryz.func15 rfl ?_;refine go tt [] rfl trivial ?_;refine lp (S:=List Int) 1 (λL1 r=>(0,.v (.one (rp (zp r))))::L1) (λ_=>[.blk 37 (aq q c)]) (λr=>r.length) (λr=>r.length<=64/\Bd (25000000-30*r.length) r/\Sj (λp=>Gm p q) r.length r=S0 p q) p ⟨hl,Uv hp (by omega),rfl⟩ rfl (λ_ _=>rfl) rfl λr ⟨hr0,hr1,hr2⟩=>?_
 have hrl:=fzl r;rcases Qy r.length with h0 | h0
 ·rw [Qgq _ h0] at hr2;exact en tt [.f (decide_eq_false (by omega))] rfl (by rw [<-hr2]) trivial
 by_cases hs:Gm r q=0
 ·have hd:=Pi r;refine go tt [.t (decide_eq_true (by omega)),.c [] (Qls (p:=r) (c:=c) (Uv hr1 (by omega)) hr0 hq),.f (decide_eq_false (λh=>h hs)),.c [] (Qvj (p:=r) (Uv hr1 (by omega)) (by omega))] rfl trivial ?_;exact rd (Gf r) (by omega) ⟨by omega,Uv (Qhp (t:=6) hr1 (by omega)) (by omega),by rw [<-hr2,Qgp _ h0 hs]⟩ rfl
 ·exact en tt [.t (decide_eq_true (by omega)),.c [] (Qls (p:=r) (c:=c) (Uv hr1 (by omega)) hr0 hq),.t (decide_eq_true hs)] rfl (by rw [<-hr2,Qgo _ h0 hs]) trivial
end Orr
namespace Orr
def Er (p:List Int) (d:Int):List Rat:=p.map λ(z:Int)=>(z:Rat) / (d:Rat)
theorem Mq (p:List Int) (d:Int):(Er p d).length=p.length:=Zc _
theorem Zeo {p:List Int} {i:Nat} {z:Int} {d:Int} (h:p[i]? = some z):(Er p d)[i]? = some ((z:Rat) / (d:Rat)):=by simp [Er,h]
theorem Q9v (p:List Int) (d:Int) (i:Nat):(Er p d).getD i 0=((p.getD i 0:Int):Rat) / (d:Rat):=by
 simp only [Qf,Er,Zb];cases p[i]? with
 | none=>simp; grind
 | some z=>rfl
theorem Ig (z d:Int):(z:Rat) / (d:Rat)=Rat.divInt z d:=by
 by_cases h:d=0
 ·subst h; simp; grind
 ·rw [Jx];have e1:(z:Rat)=Rat.divInt z 1:=by have:=Zz (z:Rat); simpa using this.symm
  have e2:(d:Rat)⁻¹=Rat.divInt 1 d:=by
   have:(d:Rat)=Rat.divInt d 1:=by have:=Zz (d:Rat); simpa using this.symm
   rw [this,Rat.inv_divInt]
  rw [e1,e2,K8];simp
theorem Zcq {z d:Int} (hd:0<d):(((z:Rat) / (d:Rat)).den:Int)*(Int.gcd z d:Nat)=d:=by
 rw [Ig];have h:=(Qpj (n:=z) hd).2;rw [<-h,Nl,Int.gcd_comm];exact Wo (Vw ..)
theorem Q7u {d a b L:Nat} (hd:0<d) (ha:L*a=d) {D:Nat} (hb:D*b=d):L*D / Nat.gcd L D*Nat.gcd a b=d:=by
 have hL:0<L:=W3 λe=>by rw [e] at ha; omega
 have hD:0<D:=W3 λe=>by rw [e] at hb; omega
 have hg:0<Nat.gcd L D:=Nat.gcd_pos_of_pos_left _ hL;show Nat.lcm L D*Nat.gcd a b=d;rw [<-Nat.gcd_mul_left];refine Nat.dvd_antisymm ?_ ?_
 ·-- gcd (M a) (M b) | d
  obtain ⟨u,hu⟩:=K0 L D;obtain ⟨v,hv⟩:=Ub L D;have hM:Nat.lcm L D=Nat.gcd L D*(u*v):=by
   unfold Nat.lcm
   conv=>lhs; rw [show L*D=Nat.gcd L D*u*(Nat.gcd L D*v) by rw [<-hu,<-hv]]
   rw [show Nat.gcd L D*u*(Nat.gcd L D*v)=Nat.gcd L D*(Nat.gcd L D*(u*v)) by rw [Xq,Kt u,]];exact Nat.mul_div_cancel_left _ hg
  have h1:Nat.lcm L D*a=v*d:=by
   rw [hM,<-ha]
   conv=>rhs; rw [hu]
   simp [Zh,Kt,Xq]
  have h2:Nat.lcm L D*b=u*d:=by
   rw [hM,<-hb]
   conv=>rhs; rw [hv]
   simp [Zh,Kt,Xq]
  have huv:Nat.gcd u v=1:=by
   have:=Nat.gcd_mul_left (Nat.gcd L D) u v;rw [<-hu,<-hv] at this;exact Nat.eq_of_mul_eq_mul_left hg (by omega)
  rw [h1,h2,Uc,Wm,huv,Wx];exact Nat.dvd_refl d
 ·refine Nat.dvd_gcd ?_ ?_
  ·rw [<-ha]; exact Nat.mul_dvd_mul_right (Nat.dvd_lcm_left L D) a
  ·rw [<-hb]; exact Nat.mul_dvd_mul_right (Nat.dvd_lcm_right L D) b
def lcd (z:List Int) (d:Int):Nat->Int
 | 0=>1
 | i+1=>lcd z d i*((((z.getD i 0:Int):Rat) / (d:Rat)).den:Int) / (Int.gcd (lcd z d i) ((((z.getD i 0:Int):Rat) / (d:Rat)).den:Int):Nat)
theorem Qwg {z:List Int} {d:Int} (hd:0<d):∀ i,i<=z.length->lcd z d i*((G9 (d::z.take i):Nat):Int)=d
 |
  0,_=>by
  show 1*_=d;have:((G9 [d]:Nat):Int)=d:=by unfold G9; simp; omega
  rw [V2,this,Y9]
 |
  i+1,hi=>by
  have ih:=Qwg (z:=z) hd i (by omega);have hz:z[i]? = some (z.getD i 0):=Qfj (l:=z) (by omega);have hstep:G9 (d::z.take (i+1))=Nat.gcd (G9 (d::z.take i)) (z.getD i 0).natAbs:=by
   have:=Qml (l:=d::z) (i:=i+1) (z:=z.getD i 0) (by simpa using hz);simpa using this
  have hdn:=Zcq (z:=z.getD i 0) hd;simp only [lcd];generalize hL:lcd z d i=L at *;generalize hD:(((z.getD i 0:Int):Rat) / (d:Rat)).den=D at *;have hLp:0<L:=by
   rcases J4 L 0 with h | h | h
   ·have:=Int.mul_nonneg (Int.neg_nonneg_of_nonpos (Wd h)) (Int.natCast_nonneg (G9 (d::z.take i)));rw [Ke] at this; omega
   ·rw [h,Yf] at ih; omega
   ·exact h
  obtain ⟨l,rfl⟩:=Yo (Wd hLp);obtain ⟨e,rfl⟩:=Yo (Wd hd);have h1:l*G9 (((e:Nat):Int)::z.take i)=e:=by exact_mod_cast ih
  have h2:D*Int.gcd (z.getD i 0) ((e:Nat):Int)=e:=by exact_mod_cast hdn
  have h3:=Q7u (d:=e) (by omega) h1 h2;have h4:Nat.gcd (G9 (((e:Nat):Int)::z.take i)) (Int.gcd (z.getD i 0) ((e:Nat):Int))=Nat.gcd (G9 (((e:Nat):Int)::z.take i)) (z.getD i 0).natAbs:=by
   have hge:G9 (((e:Nat):Int)::z.take i)∣e:=⟨l,by rw [Zh]; exact h1.symm⟩;show Nat.gcd _ (Nat.gcd (z.getD i 0).natAbs e)=_;rw [Wm (z.getD i 0).natAbs e,<-Nat.gcd_assoc,Nat.gcd_eq_left hge]
  rw [hstep,<-h4];rw [show Int.gcd ((l:Nat):Int) ((D:Nat):Int)=Nat.gcd l D by simp [Int.gcd]]
  exact_mod_cast h3
theorem Zc8 {x y:List Int} {d:Int} (hd:0<d) (hg:G9 (d::(x++y))=1):lcd (x++y) d (x++y).length=d:=by
 have:=Qwg (z:=x++y) hd (x++y).length (Qi _);rw [Q0,hg] at this;simpa using this
theorem Zda {z:List Int} {d:Int} (hd:0<d) {i:Nat} (hi:i<=z.length):U9 (lcd z d i)<=U9 d:=by
 have h:=Qwg (z:=z) hd i hi;refine Re ?_;have h0:G9 (d::z.take i)≠0:=λe=>by rw [e] at h; simp at h; omega
 have:d.natAbs=(lcd z d i).natAbs*G9 (d::z.take i):=by
  conv=>lhs; rw [<-h]
  rw [Jy]; simp
 rw [this];exact J3 _ (W3 h0)
end Orr
namespace Orr
open Go Go.Proofs
set_option maxRecDepth 10000
abbrev cl4 (k:Crv):List LV:=[pl k.x,pl k.y,sg k.d,mg k.d]
abbrev rcl (c:Crv):List LV:=[rp (Er c.x c.d),rp (Er c.y c.d)]++cl4 c
def Cf (p:Pt):List LV:=rcl p.c++[.int .i64 p.id]
def Fc (l:List Pt):List (List LV):=l.map Cf
structure Rs (k:Crv):Prop where
 n:Nml k
 c:Cs 100000 16 k
theorem Rs.d0 {k:Crv} (h:Rs k):0<k.d:=h.n.2.2.1
theorem Qcq {x:List Int} {d:Int} {s:Nat} (hx:Bd s x) (hd:U9 d<=s) (h1:1<=s):Rb s (Er x d):=λq hq=>by
 obtain ⟨z,hz,rfl⟩:=Zx.1 hq;rw [Ig];exact Qs.divInt (hx z hz) hd h1
theorem Qky {x:List Int} {d:Int} (tx:U3 x) (hd:d≠0):Mb (Er x d) (d:Rat)=zp x:=by
 have hd':(d:Rat)≠0:=λe=>hd (by exact_mod_cast e)
 unfold Mb;rw [Qii (g:=λi=>x.getD i 0) _ λi _=>?_,Mq,Qj8,Bb,tx];rw [Q9v]; grind
theorem Qrr {p:List Rat} {c:Int} (hp:Rb 40000000 p) (hc:U9 c<=40000000) (hl:p.length<=1000000):Uw Tryz.prog 290 [.one (rp p),.agg (ri c)] [.one (rp (Mb p (c:Rat)))] :=
 w tt Tryz.func290 rfl [.c [] (C5 (n:=1) (by decide)),.c [] (Mc (n:=c)),.c [] (Ex (p:=p) (c:=(c:Rat)) hp (C3 hc (by omega)) hl)] rfl rfl trivial
theorem Zen (x y:List Int) (d:Int):frow (Er x d)++frow (Er y d)=frow (Er (x++y) d):=by simp [Er,frow]
theorem Qeg {z:List Int} {d:Int} {i:Nat} (h:i<z.length):(Er z d)[i]? = some (((z.getD i 0:Int):Rat) / (d:Rat)):=Zeo (Qfj h)
theorem Qlh (a b:Int) (hb:b≠0) {s:Nat} (h:U9 b<=s):U9 ((Int.gcd a b:Nat):Int)<=s:=by
 refine Qd (Re ?_) h;simp only [Xd];exact Kd (by omega) (by simpa using Xz.2 (Vw a b))
theorem Zc9 (a b:Int):(a*b) % ((Int.gcd a b:Nat):Int)=0:=Jz (Vl (Ue ..) (W8 a b))
theorem Qlu {k:Crv} (hs:Rs k):Uw Tryz.prog 253 [.one (rp (Er k.x k.d)),.one (rp (Er k.y k.d))] [.agg (rcl k)]:=by
 have hlx:=hs.c.lx;have hly:=hs.c.ly;have hds:=hs.c.d;have hxy:Bd 100000 (k.x++k.y):=λz hz=>by rcases Qt.1 hz with h | h; exact hs.c.x z h; exact hs.c.y z h
 have hfx:(frow (Er k.x k.d)).length=k.x.length:=by rw [Tn,Mq]
 have hfy:(frow (Er k.y k.d)).length=k.y.length:=by rw [Tn,Mq]
 have hfl:(frow (Er (k.x++k.y) k.d)).length=k.x.length+k.y.length:=by rw [Tn,Mq,Q5]
 have hd0:=hs.d0;refine Hn Tryz.func253 rfl ?_;refine go tt [.c [] (C5 (n:=1) (by decide)),.s (sz:=4) (Qfg _),.s (sz:=4) (Qfg _)] rfl (by simp [Uu,hfx,hfy]; omega) ?_;rw [Zen];refine lp (S:=Nat) 3 (λL1 i=>(15,.v (.one (.int .i64 (i:Int))))::L1) (λi=>[.blk 55 [.nils,.nils,.nils,.nils,.bool false,.nils],.blk 33 (ri (lcd (k.x++k.y) k.d i)),.row false 35 4 (frow (Er (k.x++k.y) k.d))]) (λi=>k.x.length+k.y.length-i) (λi=>i<=k.x.length+k.y.length) 0 (Qg _) rfl (λ_ _=>rfl) rfl λi hi=>?_
 have hll:(k.x++k.y).length=k.x.length+k.y.length:=Q5;by_cases h:i<k.x.length+k.y.length
 ·have hlt:i<(k.x++k.y).length:=by omega
  have hqe:=Qcq (x:=(k.x++k.y)) (d:=k.d) (s:=100000) hxy hs.c.d (by decide);have hqi:=hqe.get (Qeg hlt);obtain ⟨D,hD⟩:=nmE (((((k.x++k.y).getD i 0:Int):Rat) / (k.d:Rat)));have hg:=Lc (Qeg (d:=k.d) hlt);have es:lcd (k.x++k.y) k.d (i+1)=lcd (k.x++k.y) k.d i*(D.den:Int) / ((Int.gcd (lcd (k.x++k.y) k.d i) (D.den:Int):Nat):Int):=by rw [hD]; rfl
  rw [<-hD] at hqi hg;have hq2:=hqi.2;have hli:=Qd (Zda (z:=(k.x++k.y)) hs.d0 (i:=i) (by omega)) hs.c.d;have hg0:((Int.gcd (lcd (k.x++k.y) k.d i) (D.den:Int):Nat):Int)≠0:=by have:=Int.gcd_ne_zero_right (a:=(lcd (k.x++k.y) k.d i)) (Bs D); omega
  have hmu:=Ft (lcd (k.x++k.y) k.d i) (D.den:Int);refine go tt [.t (decide_eq_true (by omega)),.i i,.x hg,.c [] (Pf (a:=lcd (k.x++k.y) k.d i) (b:=(D.den:Int)) (by omega) (by omega)),.i i,.x hg,.c [] (Qiv (a:=lcd (k.x++k.y) k.d i) (b:=(D.den:Int)) (by omega) (by omega)),.c [] (Qe6 (by omega) (Qd (Qlh _ _ (Bs D) hq2) (by decide)) hg0 (Zc9 _ _))] rfl (by simp [Uu,hfl]; omega) ?_;exact rd (i+1) (by omega) h (by rw [es]; rfl)
 have e:lcd (k.x++k.y) k.d i=k.d:=by rw [show i=(k.x++k.y).length by omega]; exact Zc8 hs.d0 hs.n.2.2.2
 rw [e];have hx:=Qrr (p:=Er k.x k.d) (c:=k.d) ((Qcq (s:=100000) hs.c.x hs.c.d (by decide)).mono (by omega)) (by omega) (by rw [Mq]; omega);have hy:=Qrr (p:=Er k.y k.d) (c:=k.d) ((Qcq (s:=100000) hs.c.y hs.c.d (by decide)).mono (by omega)) (by omega) (by rw [Mq]; omega);rw [Qky hs.n.1 (by omega)] at hx;rw [Qky hs.n.2.1 (by omega)] at hy;exact en tt [.f (decide_eq_false (by omega)),.c [] hx,.c [] (Zfr (p:=k.x) (Uv hs.c.x (by omega)) (by omega)),.c [] hy,.c [] (Zfr (p:=k.y) (Uv hs.c.y (by omega)) (by omega)),.c [] (Q5d (z:=k.d) (by omega))] rfl rfl trivial
theorem Qp7 (k:Crv):Gx 1 k.d'=((1:Int):Rat) / (k.d':Rat):=by
 unfold Gx; rw [if_neg k.d'_ne,Ig]
theorem Qg6 {x:List Int} {g d:Int} (hg:g≠0) (hd:d≠0) (hgd:g∣d) (tx:U3 x) (hx:∀ z∈x,g∣z):Mb (zp x) (((1:Int):Rat) / (d:Rat))=Er (trim (x.map (· / g))) (d / g):=by
 have ht:U3 (x.map (· / g)):=Lp tx hg hx;rw [show trim (x.map (· / g))=x.map (· / g) from ht];obtain ⟨e,rfl⟩:=hgd;have he:e≠0:=λh=>hd (by rw [h,Km])
 rw [Xw _ hg];have hgq:(g:Rat)≠0:=λh=>hg (by exact_mod_cast h)
 have heq:(e:Rat)≠0:=λh=>he (by exact_mod_cast h)
 unfold Mb;rw [T0];have hval:∀ i,i<x.length->(zp x).getD i 0*(((1:Int):Rat) / ((g*e:Int):Rat))=(((x.map (· / g)).getD i 0:Int):Rat) / (e:Rat):=λi hi=>by
  rw [Qew];have hz:=Qfj hi;have hm:(x.map (· / g)).getD i 0=x.getD i 0 / g:=by simp [Qf,Qe hi]
  obtain ⟨w,hw⟩:=hx _ (Qa hz);rw [hm,hw,Xw _ hg,X1,X1];have:((1:Int):Rat)=1:=rfl;rw [this];grind
 have htab:I8 (λi=>(zp x).getD i 0*(((1:Int):Rat) / ((g*e:Int):Rat))) x.length=Er (x.map (· / g)) e:=by
  apply Xu;intro i;by_cases hi:i<x.length
  ·rw [Qeg (by simpa using hi)];simp only [I8,Zb,X9 hi,Vp];rw [hval i hi]
  ·rw [Qu (by rw [Qek]; omega),Qu (by rw [Mq]; simp; omega)]
 rw [htab];rcases Qy x.length with h0 | h0
 ·have:=Qh h0; subst this; rfl
 ·have hl:(Er (x.map (· / g)) e).length=x.length:=by rw [Mq,Zc]
  have:=Qf5 (l:=Er (x.map (· / g)) e) (m:=x.length) (by omega) (λj y hj hy=>by rw [Qu (by omega)] at hy; cases hy) (λ_=>⟨_,Qeg (z:=x.map (· / g)) (d:=e) (i:=x.length-1) (by rw [Zc]; omega),λh=>by
   have h3:(((x.map (· / g)).getD (x.length-1) 0:Int):Rat)=0:=by grind
   have h4:(x.map (· / g)).getD (x.length-1) 0=0:=by exact_mod_cast h3
   have:=Hk ht (by rw [Zc]; omega);rw [Zc] at this;exact this h4⟩)
  rw [this,Qn (by omega)]
theorem Q9e {k:Crv} (hk:Cs 100000 16 k):Qs 40000000 (Gx 1 k.d'):=by
 have h1:=Qpc hk.d (by decide);rw [Qp7,Ig];exact Qs.divInt (by decide) (by omega) (by decide)
theorem Crv.g_dvd' (k:Crv) {z:Int} (h:z∈k.d'::(trim k.x++trim k.y)):k.g∣z:=Yn (k.g_dvd z h)
theorem Q9r (k:Crv):Mb (zp (trim k.x)) (Gx 1 k.d')=Er k.norm.x k.norm.d:=by
 rw [Qp7];exact Qg6 k.g_ne k.d'_ne (k.g_dvd' (by simp)) (H6 _) (λz hz=>k.g_dvd' (by simp [hz]))
theorem Q9s (k:Crv):Mb (zp (trim k.y)) (Gx 1 k.d')=Er k.norm.y k.norm.d:=by
 rw [Qp7];exact Qg6 k.g_ne k.d'_ne (k.g_dvd' (by simp)) (H6 _) (λz hz=>k.g_dvd' (by simp [hz]))
theorem Q07 {k:Crv} (h:Cs 100000 16 k):Rs k.norm:=⟨k.nml,h.norm (by decide)⟩
theorem Zb7 {k:Crv} (hk:Cs 100000 16 k):Uw Tryz.prog 199 [.agg (cl4 k)] [.agg (rcl (Crv.norm k))]:=by
 have hlx:=hk.lx;have hly:=hk.ly;have hkd:=hk.d;have hrq:=Q9e hk;have hdi:U9 k.d'<=100000:=Qpc hk.d (by decide);have hx:=Ex (p:=zp (trim k.x)) (c:=Gx 1 k.d') (I6 (Uv (Tc hk.x) (by omega)) (by omega)) hrq (by rw [T0]; have:=Hq k.x; omega);have hy:=Ex (p:=zp (trim k.y)) (c:=Gx 1 k.d') (I6 (Uv (Tc hk.y) (by omega)) (by omega)) hrq (by rw [T0]; have:=Hq k.y; omega);rw [Q9r] at hx;rw [Q9s] at hy;have c1:=C5 (n:=1) (by decide);have cm:=Qc5 (a:=1) (b:=k.d') (by decide) (by omega);by_cases h0:k.d=0
 ·have e:k.d'=1:=by unfold Crv.d'; rw [if_pos h0]
  rw [e] at hx hy cm;exact w tt Tryz.func199 rfl [.c [] (Qoc (z:=k.d) (by omega)),.c [] Mm,.t (decide_eq_true h0),.c [] c1,.c [] c1,.c [] cm,.c [] (Qax (p:=k.x) (Uv hk.x (by omega)) (by omega)),.c [] hx,.c [] (Qax (p:=k.y) (Uv hk.y (by omega)) (by omega)),.c [] hy,.c [] (Qlu (Q07 hk))] rfl rfl trivial
 ·have e:k.d'=k.d:=by unfold Crv.d'; rw [if_neg h0]
  rw [e] at hx hy cm;exact w tt Tryz.func199 rfl [.c [] (Qoc (z:=k.d) (by omega)),.c [] Mm,.f (decide_eq_false h0),.c [] c1,.c [] cm,.c [] (Qax (p:=k.x) (Uv hk.x (by omega)) (by omega)),.c [] hx,.c [] (Qax (p:=k.y) (Uv hk.y (by omega)) (by omega)),.c [] hy,.c [] (Qlu (Q07 hk))] rfl rfl trivial
theorem Q5t {k:Crv} {id:Int} (hk:Cs 100000 16 k):Uw Tryz.prog 126 [.agg (cl4 k++[.int .i64 id])] [.agg (Cf ⟨Crv.norm k,id⟩)] :=
 w tt Tryz.func126 rfl [.c [] (Zb7 hk)] rfl rfl trivial
theorem Qb6 {k:Crv} (hk:Rs k):Uw Tryz.prog 72 [.agg (rcl k)] [.one (rp (zp k.x)),.one (rp (zp k.y)),.one (rp (zp [k.d]))]:=by
 have hlx:=hk.c.lx;have hly:=hk.c.ly;have hkd:=hk.c.d;have hx:=Qax (p:=k.x) (Uv hk.c.x (by omega)) (by omega);have hy:=Qax (p:=k.y) (Uv hk.c.y (by omega)) (by omega);rw [show trim k.x=k.x from hk.n.1] at hx;rw [show trim k.y=k.y from hk.n.2.1] at hy;exact w tt Tryz.func72 rfl [.c [] (Qoc (z:=k.d) (by omega)),.c [] (C5 (n:=1) (by decide)),.c [] (Mc (n:=k.d)),.c [] hx,.c [] hy] rfl rfl trivial
theorem Qwy {p:List Int} {d:Int} (tp:U3 p) (hd:d≠0):Fu p [d]=Fi p d:=by
 refine Ot (G8 _ _) (Fl _ _) λm=>?_
 unfold Fi;rw [Ti];unfold Fu;by_cases h0:p.length=0
 ·rw [if_pos (.inl h0),if_neg (by omega)]; rfl
 ·rw [if_neg (by simp; exact λh=>h0 (by rw [h]; rfl)),D4];show (No p [d] (List.replicate (p.length+1-1) 0) p.length).getD m 0=_;have key:∀ i,i<=p.length->(No p [d] (List.replicate (p.length+1-1) 0) i).getD m 0=if m<i then p.getD m 0*d else 0:=by
   intro i
   induction i with
   | zero=>intro _; simp only [No]; rw [Tw,if_neg (by omega)]
   |
    succ i ih =>
    intro hi;simp only [No];rw [Qfv _ _ _ _ _ _ (by rw [Np,Ja]; show i+1<=_; omega),ih (by omega)];show (if i<=m/\m<i+1 then (if m<i then p.getD m 0*d else 0)+p.getD i 0*[d].getD (m-i) 0 else _)=_;by_cases e:m=i
    ·subst e;rw [if_pos ⟨Qi _,by omega⟩,if_neg (by omega),if_pos (by omega),Jn];show 0+p.getD m 0*d=_;omega
    ·rw [if_neg (by omega)];by_cases h1:m<i
     ·rw [if_pos h1,if_pos (by omega)]
     ·rw [if_neg h1,if_neg (by omega)]
  rw [key _ (Qi _)]
theorem Zj7 {s:Nat} {d:Int} (h:U9 d<=s):Bd s [d]:=λz hz=>by simp at hz; subst hz; exact h
theorem Qol {p:List Int} {d:Int} (tp:U3 p) (hd:d≠0) (hp:Bd 9000000 p) (hs:U9 d<=9000000) (hl:p.length<=1000):Uw Tryz.prog 141 [.one (rp (zp p)),.one (rp (zp [d]))] [.one (rp (zp (Fi p d)))]:=by
 have h:=Qvl (p:=p) (q:=[d]) (by omega) (by show 1<=1000000; decide) hp (Zj7 hs) (by decide);rwa [Qwy tp hd] at h
theorem Rs.dn {k:Crv} (h:Rs k):k.d≠0:=by have:=h.d0; omega
theorem Qyw {p q:List Int} (hp:Bd 19000000 p) (hq:Bd 19000000 q) (hlp:p.length<=1000000) (hlq:q.length<=1000000):Uw Tryz.prog 144 [.one (rp (zp p)),.one (rp (zp q))] [.one (rp (zp (Po p q)))]:=by
 have h:=Qvo (I6 hp (by decide)) (I6 hq (by decide)) (by rw [T0]; exact hlp) (by rw [T0]; exact hlq);rwa [Q09] at h
theorem Oh {a b:Crv} (ha:Rs a) (hb:Rs b):Uw Tryz.prog 74 [.agg (rcl a),.agg (rcl b)] [.one (rp (zp (Hm a b)))] :=
 w tt Tryz.func74 rfl [.c [] (Qb6 ha),.c [] (Qb6 hb),.c [] (Qol (p:=b.x) (d:=a.d) hb.n.1 ha.dn (Uv hb.c.x (by decide)) (Qd ha.c.d (by decide)) (by have:=hb.c.lx; omega)),.c [] (Qol (p:=a.x) (d:=b.d) ha.n.1 hb.dn (Uv ha.c.x (by decide)) (Qd hb.c.d (by decide)) (by have:=ha.c.lx; omega)),.c [] (Qyw (p:=Fi b.x a.d) (q:=Fi a.x b.d) (Uv (Gp hb.c.x ha.c.d) (by decide)) (Uv (Gp ha.c.x hb.c.d) (by decide)) (by have:=Fz b.x a.d; have:=hb.c.lx; omega) (by have:=Fz a.x b.d; have:=ha.c.lx; omega))] rfl rfl trivial
theorem Qiy {a b:Crv} (ha:Rs a) (hb:Rs b):Uw Tryz.prog 75 [.agg (rcl a),.agg (rcl b)] [.one (rp (zp (Hr a b)))] :=
 w tt Tryz.func75 rfl [.c [] (Qb6 ha),.c [] (Qb6 hb),.c [] (Qol (p:=b.y) (d:=a.d) hb.n.2.1 ha.dn (Uv hb.c.y (by decide)) (Qd ha.c.d (by decide)) (by have:=hb.c.ly; omega)),.c [] (Qol (p:=a.y) (d:=b.d) ha.n.2.1 hb.dn (Uv ha.c.y (by decide)) (Qd hb.c.d (by decide)) (by have:=ha.c.ly; omega)),.c [] (Qyw (p:=Fi b.y a.d) (q:=Fi a.y b.d) (Uv (Gp hb.c.y ha.c.d) (by decide)) (Uv (Gp ha.c.y hb.c.d) (by decide)) (by have:=Fz b.y a.d; have:=hb.c.ly; omega) (by have:=Fz a.y b.d; have:=ha.c.ly; omega))] rfl rfl trivial
theorem Qbd {a b:Crv} (ha:Rs a) (hb:Rs b):Bd 200001 (Hm a b)/\(Hm a b).length<=16:=by
 refine ⟨Uv (A1 (Gp hb.c.x ha.c.d) (Gp ha.c.x hb.c.d)) (by omega),Qd (Lh _ _) ?_⟩;have:=Fz b.x a.d; have:=Fz a.x b.d; have:=ha.c.lx; have:=hb.c.lx; omega
theorem Qba {a b:Crv} (ha:Rs a) (hb:Rs b):Bd 200001 (Hr a b)/\(Hr a b).length<=16:=by
 refine ⟨Uv (A1 (Gp hb.c.y ha.c.d) (Gp ha.c.y hb.c.d)) (by omega),Qd (Lh _ _) ?_⟩;have:=Fz b.y a.d; have:=Fz a.y b.d; have:=ha.c.ly; have:=hb.c.ly; omega
end Orr
namespace Orr
open Go
structure RawInt where
 b:Bool
 l:List Nat
structure RawPt where
 x:List RawInt
 y:List RawInt
 d:RawInt
 id:Int
abbrev Qf2 (z:RawInt):List LV:=[.bool z.b,Zjh z.l]
structure RawInt.Ok (z:RawInt):Prop where
 u:∀ u∈z.l,u<4294967296
structure RawPt.Ok (z:RawPt):Prop where
 x:∀ a∈z.x,a.Ok
 y:∀ a∈z.y,a.Ok
 d:z.d.Ok
 id:-9223372036854775808<=z.id/\z.id<=9223372036854775807
def RawInt.cut (z:RawInt):RawInt:=⟨z.b,z.l.take 1⟩
def Rt (most:Int) (z:RawInt):Int:=match z.l with
 | []=>0
 | u::_=>if z.b=true then -((u:Int) % (most+1)) else (u:Int) % (most+1)
theorem Qci {most:Int} (h:0<=most) (z:RawInt):-most<=Rt most z/\Rt most z<=most:=by
 unfold Rt
 split
 ·omega
 ·rename_i u _ _;have h1:=Yv (u:Int) (b:=most+1) (by omega);have h2:=Yc (u:Int) (b:=most+1) (by omega)
  split <;> omega
def G7 (most:Int) (l:List RawInt):List Int:=(l.take 3).map (Rt most)
def Qdu (most:Int) (x y:List RawInt) (d:RawInt):Crv:=⟨G7 most x,G7 most y,Rt 3 d⟩
def Qa8 (most:Int) (z:RawPt):Pt:=⟨Qdu most z.x z.y z.d,z.id % 1000⟩
theorem Qgw (most:Int) (l:List RawInt):(G7 most l).length<=3:=by unfold G7; rw [List.length_map,List.length_take]; omega
theorem Qpi {most:Int} {l:List RawInt} {i:Nat} {z:RawInt} (hi:i<3) (h:l[i]? = some z):G7 most (l.take (i+1))=G7 most (l.take i)++[Rt most z]:=by
 unfold G7;rw [Wu,Wu,V7 (by omega),V7 (by omega),Zw,h];simp
theorem Qgv (most:Int) {l:List RawInt} {i:Nat} (h:l.length<=i\/3<=i):G7 most (l.take i)=G7 most l:=by
 unfold G7;rw [Wu];rcases Nat.le_total 3 i with h3 | h3
 ·rw [Zt h3]
 ·rcases h with h | h
  ·rw [V7 h3,Qn (l:=l) (i:=i) (by omega),Qn (l:=l) (i:=3) (by omega)]
  ·rw [V7 h3,show i=3 by omega]
theorem Qgx {most:Int} {l:List RawInt} {z:Int} (hm:0<=most) (h:z∈G7 most l):-most<=z/\z<=most:=by
 obtain ⟨a,_,rfl⟩:=Zx.1 h;exact Qci hm a
theorem Ql0 {most:Int} (hm:0<=most/\most<=999) (x y:List RawInt) (d:RawInt):Cs 10 3 (Qdu most x y d):=by
 have key:∀ z:Int,-999<=z/\z<=999->U9 z<=10:=λz h=>Te.2 (by omega)
 refine ⟨λz hz=>?_,λz hz=>?_,?_,Qgw _ _,Qgw _ _⟩
 ·have:=Qgx hm.1 hz; exact key _ (by omega)
 ·have:=Qgx hm.1 hz; exact key _ (by omega)
 ·have:=Qci (most:=3) (by decide) d;show U9 (Rt 3 d)<=10;exact key _ (by omega)
def S9 (n:Nat):List Pt->List Pt->List Pt
 | out,[]=>out
 | out,p::l=>if out.length<n then (if out.any (λx=>decide (x.id=p.id))=true then S9 n out l else S9 n (out++[p]) l) else out
theorem Ik {n:Nat}:∀ (l out:List Pt) (p:Pt),(S9 n out l).length<n->(S9 n out l).any (λx=>decide (x.id=p.id))=true->S9 n out (l++[p])=S9 n out l
 |
  [],out,p,h,ha=>by
  simp only [S9] at h ha;show S9 n out [p]=out;simp only [S9];rw [if_pos h,if_pos ha]
 |
  x::l,out,p,h,ha=>by
  show S9 n out (x::(l++[p]))=S9 n out (x::l);simp only [S9] at h ha ⊢
  split
  ·rename_i h0;rw [if_pos h0] at h ha
   split
   ·rename_i h1;rw [if_pos h1] at h ha;exact Ik l out p h ha
   ·rename_i h1;rw [if_neg h1] at h ha;exact Ik l _ p h ha
  ·rfl
theorem Ek {n:Nat}:∀ (l out:List Pt) (p:Pt),(S9 n out l).length<n->(S9 n out l).any (λx=>decide (x.id=p.id))=false->S9 n out (l++[p])=S9 n out l++[p]
 |
  [],out,p,h,ha=>by
  simp only [S9] at h ha;show S9 n out [p]=out++[p];simp only [S9];rw [if_pos h,if_neg (by rw [ha]; simp)]
 |
  x::l,out,p,h,ha=>by
  show S9 n out (x::(l++[p]))=S9 n out (x::l)++[p];simp only [S9] at h ha ⊢
  split
  ·rename_i h0;rw [if_pos h0] at h ha
   split
   ·rename_i h1;rw [if_pos h1] at h ha;exact Ek l out p h ha
   ·rename_i h1;rw [if_neg h1] at h ha;exact Ek l _ p h ha
  ·rename_i h0;rw [if_neg h0] at h;omega
theorem Qfi {n:Nat}:∀ (l m out:List Pt),n<=(S9 n out l).length->S9 n out (l++m)=S9 n out l
 |
  [],m,out,h=>by
  simp only [S9] at h;show S9 n out m=out
  match m with
  | []=>rfl
  | p::m=>simp only [S9]; rw [if_neg (by omega)]
 |
  x::l,m,out,h=>by
  show S9 n out (x::(l++m))=S9 n out (x::l);simp only [S9] at h ⊢
  split
  ·rename_i h0;rw [if_pos h0] at h
   split
   ·rename_i h1;rw [if_pos h1] at h;exact Qfi l m out h
   ·rename_i h1;rw [if_neg h1] at h;exact Qfi l m _ h
  ·rfl
theorem Ox {n:Nat}:∀ (l out:List Pt),out.length<=n->(S9 n out l).length<=n
 | [],out,h=>h
 |
  x::l,out,h=>by
  simp only [S9]
  split
  ·split
   ·exact Ox l out h
   ·exact Ox l _ (by rw [Q5]; show _+1<=_; omega)
  ·exact h
theorem Qdk {n:Nat}:∀ (l out:List Pt) {p:Pt},p∈S9 n out l->p∈out\/p∈l
 | [],out,p,h=>.inl h
 |
  x::l,out,p,h=>by
  simp only [S9] at h
  split at h
  ·split at h
   ·rcases Qdk l out h with h | h
    ·exact .inl h
    ·exact .inr (Qk _ h)
   ·rcases Qdk l _ h with h | h
    ·rcases Qt.1 h with h | h
     ·exact .inl h
     ·exact .inr (by rw [Qj.1 h]; exact Qx ..)
    ·exact .inr (Qk _ h)
  ·exact .inl h
def Qfz (n:Nat) (most:Int) (zs:List RawPt):List Pt:=S9 n [] (zs.map (Qa8 most))
def Pt.nrm (p:Pt):Pt:=⟨p.c.norm,p.id⟩
end Orr
namespace Orr
def B6 (l:List Pt):Prop:=l.Pairwise λa b=>a.id<b.id
theorem Zc1 (id:Int):has [] id=false:=rfl
theorem Qsl (p:Pt) (l:List Pt) (id:Int):has (p::l) id=if p.id<id then has l id else decide (p.id=id):=by
 by_cases h:p.id<id
 ·rw [if_pos h]; unfold has; simp only [pos]; rw [if_pos h]; simp
 ·rw [if_neg h]; unfold has; simp only [pos]; rw [if_neg h]; simp
theorem Q86 (p:Pt) (l:List Pt) (q:Pt):put (p::l) q=if p.id<q.id then p::put l q else q::p::l:=by
 unfold put;simp only [pos]
 split <;> simp
theorem Qpa:∀ {l:List Pt} {id:Int},B6 l->(has l id=true↔∃ p∈l,p.id=id)
 | [],id,_=>by simp [Zc1]
 |
  p::l,id,h=>by
  have h1:=Zf.1 h;rw [Qsl]
  split
  ·rename_i hlt;rw [Qpa h1.2];constructor
   ·rintro ⟨x,hx,e⟩; exact ⟨x,Qk _ hx,e⟩
   ·rintro ⟨x,hx,e⟩
    rcases Qq.1 hx with rfl | hx
    ·omega
    ·exact ⟨x,hx,e⟩
  ·rename_i hge;rw [decide_eq_true_iff];constructor
   ·intro e; exact ⟨p,Qx ..,e⟩
   ·rintro ⟨x,hx,e⟩
    rcases Qq.1 hx with rfl | hx
    ·exact e
    ·have:=h1.1 x hx; omega
theorem Qkv:∀ {l:List Pt} {q:Pt},B6 l->has l q.id=false->B6 (put l q)
 | [],q,_,_=>by simp [put,pos,B6]
 |
  p::l,q,h,hn=>by
  have h1:=Zf.1 h;rw [Qsl] at hn;rw [Q86]
  split
  ·rename_i hlt;rw [if_pos hlt] at hn;refine Zf.2 ⟨λx hx=>?_,Qkv h1.2 hn⟩;rcases Q0z hx with rfl | hx
   ·exact hlt
   ·exact h1.1 x hx
  ·rename_i hge;rw [if_neg hge,decide_eq_false_iff_not] at hn;refine Zf.2 ⟨λx hx=>?_,h⟩;rcases Qq.1 hx with rfl | hx
   ·omega
   ·have:=h1.1 x hx; omega
theorem Q0c {l:List Pt} {q p:Pt} (h:p=q\/p∈l):p∈put l q:=by
 unfold put;rcases h with rfl | h
 ·simp
 ·rw [<-Zd (pos l q.id) l] at h;simp only [Qt,Qq] at h ⊢;rcases h with h | h
  ·exact .inl h
  ·exact .inr (.inr h)
theorem Q85 {l:List Pt} {q:Pt} (h:l.length<6):Qai l q=if has l q.id=true then 6 else 0:=by
 unfold Qai
 split
 ·rfl
 ·rw [if_neg (by omega)]
theorem Qm0:∀ (qs acc:List Pt),B6 acc->acc.length+qs.length<=6 ->
 ((Tx acc qs).2=0/\B6 (Tx acc qs).1/\(Tx acc qs).1.length=acc.length+qs.length/\qs.Pairwise (λa b=>a.id≠b.id)/\∀ q∈qs,∀ p∈acc,p.id≠q.id) \/
 ((Tx acc qs).2=6/\¬(qs.Pairwise (λa b=>a.id≠b.id)/\∀ q∈qs,∀ p∈acc,p.id≠q.id))
 | [],acc,hs,_=>.inl ⟨rfl,hs,rfl,List.Pairwise.nil,λ_ h=>absurd h (by simp)⟩
 |
  q::qs,acc,hs,hl=>by
  simp only [Q7] at hl;have he:=Q85 (l:=acc) (q:=q) (by omega);simp only [Tx];cases hh:has acc q.id with
  |
   true =>
   rw [hh,if_pos rfl] at he;rw [he,if_neg (by decide)];obtain ⟨p,hp,e⟩:=(Qpa hs).1 hh;exact .inr ⟨rfl,λh=>h.2 q (Qx ..) p hp e⟩
  |
   false =>
   rw [hh,if_neg (by decide)] at he;rw [he,if_pos rfl];have hno:∀ p∈acc,p.id≠q.id:=λp hp e=>by
    have:=(Qpa hs).2 ⟨p,hp,e⟩;rw [hh] at this; cases this
   have Dv:=Q0y acc q;rcases Qm0 qs (put acc q) (Qkv hs hh) (by omega) with ⟨h1,h2,h3,h4,h5⟩ | ⟨h1,h2⟩
   ·refine .inl ⟨h1,h2,by simp only [Q7]; omega,Zf.2 ⟨λx hx=>h5 x hx q (Q0c (.inl rfl)),h4⟩,λx hx p hp=>?_⟩;rcases Qq.1 hx with rfl | hx
    ·exact hno p hp
    ·exact h5 x hx p (Q0c (.inr hp))
   ·refine .inr ⟨h1,λh=>h2 ⟨(Zf.1 h.1).2,λx hx p hp=>?_⟩⟩;rcases Q0z hp with rfl | hp
    ·exact (Zf.1 h.1).1 x hx
    ·exact h.2 x (Qk _ hx) p hp
theorem Q28 {qs:List Pt} (hl:qs.length<=6) :
 ((Tx [] qs).2=0/\B6 (Tx [] qs).1/\(Tx [] qs).1.length=qs.length/\qs.Pairwise (λa b=>a.id≠b.id))\/((Tx [] qs).2=6/\¬qs.Pairwise (λa b=>a.id≠b.id)):=by
 rcases Qm0 qs [] List.Pairwise.nil (by simpa using hl) with ⟨h1,h2,h3,h4,_⟩ | ⟨h1,h2⟩
 ·exact .inl ⟨h1,h2,by simpa using h3,h4⟩
 ·exact .inr ⟨h1,λh=>h2 ⟨h,λ_ _ _ hp=>absurd hp (by simp)⟩⟩
end Orr
namespace Orq
open Orr Go
theorem Zic {a b:Tm} (ha:Cut (Fw a)) (hb:Cut (Fw b)) (h:¬TLt b a):Leq a (Fw b):=λq hq=>by
 rcases ha.val q with e | e | e
 ·exact absurd ⟨q,hq,e⟩ h
 ·obtain ⟨r,r1,r2⟩:=hb.dn q hq;exact absurd ⟨r,r2,ha.mono' r1 (by omega)⟩ h
 ·exact e
theorem Q2y {p:List Int} {a b:Tm} {o:Option Tm} (hp:Dp p) (ha:Va a) (hb:Va b) (hab:¬TLt b a) (h:Lu p a o) (ho:∀ t,o=some t->TLt b t):Nc (Rp b) p=Nc (Rp a) p:=by
 by_cases h0:p.length=0
 ·obtain rfl:=Qh h0; rfl
 obtain ⟨ra,_⟩:=Dh ha hp h0;obtain ⟨rb,_⟩:=Dh hb hp h0;have hl:=Zic ha.cut hb.cut hab;cases o with
 |
  none =>
  rcases h with h | ⟨s,s0,h⟩
  ·exact absurd (by rw [h]; rfl) h0
  ·exact (Q08 rb (h _ hb.cut hl)).trans (Q08 ra (h _ ha.cut λ_ h=>h)).symm
 |
  some t =>
  obtain ⟨h1,h2,h3,s,s0,h4,h5⟩:=h;exact (Q08 rb (h4 _ hb.cut hl (ho t rfl))).trans (Q08 ra (h4 _ ha.cut (λ_ h=>h) h3)).symm
open Classical in
noncomputable def mu (T:List Tm) (a:Tm):Nat:=(T.filter λt=>decide (TLt a t)).length
open Classical in
def tms (p:List Int):List Tm:=(Qqr p).getD []
structure KInv (c:Cr):Prop where
 ok:CrOk c
 k:∀ w∈c.l,w.known=true->Lu w.c.p c.now w.fails/\∀ t,w.fails=some t->t∈tms w.c.p
theorem Qwp {p:List Int} (h:Cp p) {a:Tm} (ha:Va a):∃ r,Qm3 p a=some r/\Lu p a r/\∀ t,r=some t->t∈tms p:=by
 obtain ⟨l,l1,_,_,l3⟩:=Que h;obtain ⟨r,r1,r2,r3⟩:=l3 a ha;refine ⟨r,?_,r2,λt ht=>by unfold tms; rw [l1]; exact r3 t ht⟩;unfold Qm3; rw [l1]; exact r1
theorem Qz7 {now:Tm} (hn:Va now):∀ {l:List Wt},(∀ w∈l,WtOk w)->(∀ w∈l,w.known=true->Lu w.c.p now w.fails/\∀ t,w.fails=some t->t∈tms w.c.p) ->
 ∃ ws,Qgy now l=some ws/\ws.map (·.c)=l.map (·.c)/\∀ w∈ws,w.known=true/\Lu w.c.p now w.fails/\∀ t,w.fails=some t->t∈tms w.c.p
 | [],_,_=>⟨[],rfl,rfl,λw hw=>by cases hw⟩
 |
  w::l,h,h'=>by
  obtain ⟨ws,w1,w2,w3⟩:=Qz7 hn (λv hv=>h v (Qk _ hv)) (λv hv=>h' v (Qk _ hv));by_cases hk:w.known=true
  ·refine ⟨w::ws,by simp only [Qgy,hk,if_true,w1]; rfl,by simp [w2],λv hv=>?_⟩;rcases Qq.1 hv with rfl | hv
   ·exact ⟨hk,h' v (by simp) hk⟩
   ·exact w3 v hv
  ·obtain ⟨r,r1,r2,r3⟩:=Qwp (h w (by simp)).p hn;refine ⟨⟨w.c,true,r⟩::ws,by simp only [Qgy]; rw [if_neg hk,r1,w1]; rfl,by simp [w2],λv hv=>?_⟩;rcases Qq.1 hv with rfl | hv
   ·exact ⟨rfl,r2,r3⟩
   ·exact w3 v hv
theorem Q2z {out:List Ct} {c x:Ct}:x∈Qcf out c↔x=c\/x∈out:=by
 have h:x∈out↔x∈out.take (Qaf out c out.length)\/x∈out.drop (Qaf out c out.length):=by
  rw [<-Qt,Zd]
 simp only [Qcf,Qt,Qq,h];constructor
 ·rintro (h | h | h)
  ·exact .inr (.inl h)
  ·exact .inl h
  ·exact .inr (.inr h)
 ·rintro (h | h | h)
  ·exact .inr (.inl h)
  ·exact .inl h
  ·exact .inr (.inr h)
theorem Qmf:∀ (l acc:List Ct) {y:Ct},y∈l.foldl Qcf acc↔y∈l\/y∈acc
 | [],acc,y=>by simp
 |
  c::l,acc,y=>by
  simp only [Xg];rw [Qmf l,Q2z,Qq];constructor
  ·rintro (h | h | h)
   ·exact .inl (.inr h)
   ·exact .inl (.inl h)
   ·exact .inr h
  ·rintro ((h | h) | h)
   ·exact .inr (.inl h)
   ·exact .inl h
   ·exact .inr (.inr h)
theorem Qnx {l:List Ct} {x:Ct}:x∈Sr l↔x∈l:=by unfold Sr; rw [Qmf]; simp
theorem Zin {ws:List Wt} (hw:∀ w∈ws,WtOk w):∃ o,Zim ws=some o/\match o with
 | none=>∀ w∈ws,w.fails=none
 | some a=>Va a/\(∃ w∈ws,w.fails=some a)/\∀ w∈ws,∀ t,w.fails=some t->¬TLt t a:=by
 have hv:∀ t∈ws.filterMap (·.fails),Va t:=λt ht=>by
  obtain ⟨w,w1,w2⟩:=Yt.1 ht;exact (hw w w1).f t w2
 unfold Zim;cases hf:ws.filterMap (·.fails) with
 |
  nil =>
  refine ⟨none,rfl,λw h=>?_⟩;cases e:w.fails with
  | none=>rfl
  |
   some t =>
   have:t∈ws.filterMap (·.fails):=Yt.2 ⟨w,h,e⟩;rw [hf] at this; cases this
 |
  cons b l =>
  rw [hf] at hv;obtain ⟨m,m1,m2,m3⟩:=Qms l b hv;refine ⟨some m,by show (Io b l).map some=_; rw [m1]; rfl,hv m m2,?_,λw h t e=>?_⟩
  ·rw [<-hf] at m2;exact Yt.1 m2
  ·exact m3 t (by rw [<-hf]; exact Yt.2 ⟨w,h,e⟩)
structure Stab {β:Type} (Bc:Tm->List Ct) (Br:Tm->β):Prop where
 ok:BuildOk Bc
 fin:∃ Ps:List (List Int),(∀ p∈Ps,Cp p)/\∀ a,Va a->∀ x∈Bc a,x.p∈Ps
 st:∀ a b,Va a->Va b->(∀ x∈Bc a,Nc (Rp b) x.p=Nc (Rp a) x.p)->Bc b=Bc a/\Br b=Br a
structure KSt {β:Type} (Bc:Tm->List Ct) (Br:Tm->β) (c:Cr) (r1:β):Prop where
 inv:KInv c
 cs:c.l.map (·.c)=Sr (Bc c.now)
 r:r1=Br c.now
inductive Evs (Bc:Tm->List Ct) (t:Rat):Tm->List Tm->Prop
 | nil {a:Tm} (h:∀ x∈Bc a,∃ o,Lu x.p a o/\∀ u,o=some u->TLt (tq t) u):Evs Bc t a []
 | cons {a e:Tm} {E:List Tm} (he:Va e) (h1:TLt a e) (h2:¬TLt (tq t) e) (h3:∀ x∈Bc a,∃ o,Lu x.p a o/\∀ u,o=some u->¬TLt u e) (h4:∃ x∈Bc a,Lu x.p a (some e)) (h5:Evs Bc t e E):Evs Bc t a (e::E)
end Orq
namespace Orq
open Orr Go
theorem Qsi {a:Tm} (ha:Va a):∀ (L:List (List Int)),(∀ p∈L,Dp p)->∃ y,Fw a y=-1/\∀ q,Fw a q=-1->q≤y->∀ p∈L,Nc (Rp a) p=U6 (Uy p q)
 |
  [],_=>by
  obtain ⟨y,hy⟩:=ha.cut.hi;exact ⟨y,hy,λq _ _ p hp=>by cases hp⟩
 |
  p::L,h=>by
  obtain ⟨y,y1,y2⟩:=Qsi ha L (λq hq=>h q (Qk _ hq));by_cases h0:p.length=0
  ·obtain rfl:=Qh h0;refine ⟨y,y1,λq q1 q2 r hr=>?_⟩;rcases Qq.1 hr with rfl | hr
   ·rw [Qju]; exact (Fq.2 rfl).symm
   ·exact y2 q q1 q2 r hr
  ·obtain ⟨⟨z,z1,z2⟩,_⟩:=Dh ha (h p (by simp)) h0;refine ⟨if y<=z then y else z,by split <;> assumption,λq q1 q2 r hr=>?_⟩;rcases Qq.1 hr with rfl | hr
   ·rw [<-Uz]; exact (z2 q q1 (by grind)).symm
   ·exact y2 q q1 (by grind) r hr
section Srt
variable {α:Type} {lt:α->α->Bool} {R:α->α->Prop}
theorem Qnc {out:List α} {x:α}:∀ k,k<=out.length->(∀ j y,Tu lt out x k<=j->j<k->out[j]? = some y->lt x y=true)/\(0<Tu lt out x k->∃ y,out[Tu lt out x k-1]? = some y/\lt x y=false)
 | 0,_=>⟨λj y _ h=>by omega,λh=>by simp [Tu] at h⟩
 |
  k+1,hk=>by
  obtain ⟨y,hy⟩:=gxE (l:=out) (i:=k) (by omega);by_cases h:lt x y=true
  ·rw [Qbb hy h];obtain ⟨h1,h2⟩:=Qnc (out:=out) (x:=x) k (by omega);refine ⟨λj z a1 a2 a3=>?_,h2⟩;by_cases e:j=k
   ·subst e; rw [hy] at a3; injection a3 with a3; subst a3; exact h
   ·exact h1 j z a1 (by omega) a3
  ·have h:lt x y=false:=by simpa using h
   rw [Ap hy h];exact ⟨λj z a1 a2 _=>by omega,λ_=>⟨y,by simpa using hy,h⟩⟩
theorem Zc5 (tr:∀ x y z,R x y->R y z->R x z) {out:List α} {x:α} (ho:out.Pairwise R) (h1:∀ y∈out,lt x y=true->R x y) (h2:∀ y∈out,lt x y=false->R y x):(Nm lt out x).Pairwise R:=by
 obtain ⟨s1,s2⟩:=Qnc (lt:=lt) (out:=out) (x:=x) out.length (Qi _);have hle:=Qp0 lt out x out.length;unfold Nm;obtain ⟨k,hk⟩:=nmE (Tu lt out x out.length);rw [<-hk] at s1 s2 hle ⊢;have hd:(out.take k++out.drop k).Pairwise R:=by rw [Zd]; exact ho
 obtain ⟨d1,d2,d3⟩:=X4.1 hd;have hR:∀ y∈out.drop k,R x y:=λy hy=>by
  obtain ⟨i,hi⟩:=Yg hy;rw [Xe] at hi;have:k+i<out.length:=(Qc.1 hi).1;exact h1 y (Ze hy) (s1 (k+i) y (by omega) this hi)
 have hL:∀ y∈out.take k,R y x:=λy hy=>by
  obtain ⟨i,hi⟩:=Yg hy;have hik:i<k:=by have:=(Qc.1 hi).1; simp at this; omega
  rw [Ve hik] at hi;obtain ⟨z,z1,z2⟩:=s2 (by omega);have hz:=h2 z (Qa z1) z2;by_cases e:i=k-1
  ·subst e; rw [hi] at z1; injection z1 with z1; subst z1; exact hz
  ·have hp:=Ye.1 ho i (k-1) (by omega) (by omega) (by omega);obtain ⟨_,e1⟩:=Qc.1 hi;obtain ⟨_,e2⟩:=Qc.1 z1;rw [e1,e2] at hp;exact tr _ _ _ hp hz
 refine X4.2 ⟨d1,Zf.2 ⟨hR,d2⟩,λy hy z hz=>?_⟩;rcases Qq.1 hz with rfl | hz
 ·exact hL y hy
 ·exact d3 y hy z hz
theorem foldG_pw (tr:∀ x y z,R x y->R y z->R x z) {S:α->Prop} (h1:∀ x y,S x->S y->lt x y=true->R x y) {D:α->α->Prop} (h2:∀ x y,S x->S y->D y x->lt x y=false->R y x) :
 ∀ (l acc:List α),acc.Pairwise R->(∀ x∈acc,S x)->(∀ x∈l,S x)->l.Pairwise D->(∀ x∈acc,∀ y∈l,D x y)->(l.foldl (Nm lt) acc).Pairwise R
 | [],acc,ha,_,_,_,_=>ha
 |
  x::l,acc,ha,hs,hl,hd,hx=>by
  rw [Zf] at hd;refine foldG_pw tr h1 h2 l (Nm lt acc x) ?_ ?_ (λy hy=>hl y (Qk _ hy)) hd.2 ?_
  ·exact Zc5 tr ha (λy hy=>h1 x y (hl x (by simp)) (hs y hy)) (λy hy=>h2 x y (hl x (by simp)) (hs y hy) (hx y hy x (by simp)))
  ·intro y hy;rcases Qjz.1 hy with rfl | hy
   ·exact hl _ (by simp)
   ·exact hs y hy
  ·intro y hy z hz;rcases Qjz.1 hy with rfl | hy
   ·exact hd.1 z hz
   ·exact hx y hy z (Qk _ hz)
end Srt
def px (p:Pt) (q:Rat):Rat:=Uy p.c.x q / (p.c.d:Rat)
def py (p:Pt) (q:Rat):Rat:=Uy p.c.y q / (p.c.d:Rat)
def Qbr (q:Rat) (x y:Pt):Prop:=px x q<px y q\/px x q=px y q/\(py x q<py y q\/py x q=py y q/\x.id<y.id)
theorem Zdc (q:Rat) (x y z:Pt) (h:Qbr q x y) (h':Qbr q y z):Qbr q x z:=by unfold Qbr at *; grind
theorem Q7w {q:Rat} {x y:Pt} (h:x.id≠y.id) (h':¬Qbr q x y):Qbr q y x:=by unfold Qbr at *; grind
theorem Qnu {u v:Rat} {c d:Int} (hc:0<c) (hd:0<d):U6 (v*(c:Rat)-u*(d:Rat))=U6 (v / (d:Rat)-u / (c:Rat)):=by
 have hc':(0:Rat)<(c:Rat):=by exact_mod_cast hc
 have hd':(0:Rat)<(d:Rat):=by exact_mod_cast hd
 have e:v*(c:Rat)-u*(d:Rat)=((c:Rat)*(d:Rat))*(v / (d:Rat)-u / (c:Rat)):=by
  rw [Jx,Jx];have h1:=W5 (c:Rat) (by grind);have h2:=W5 (d:Rat) (by grind);grind
 rw [e,Do (Jh hc' hd')]
theorem Qnv {x y:Pt} (hx:Sc x.c) (hy:Sc y.c) (q:Rat):U6 (Uy (Hm x.c y.c) q)=U6 (px y q-px x q):=by
 unfold Hm px; rw [Nt,Rh,Rh]; exact Qnu hx.n.2.2.1 hy.n.2.2.1
theorem Qnt {x y:Pt} (hx:Sc x.c) (hy:Sc y.c) (q:Rat):U6 (Uy (Hr x.c y.c) q)=U6 (py y q-py x q):=by
 unfold Hr py; rw [Nt,Rh,Rh]; exact Qnu hx.n.2.2.1 hy.n.2.2.1
theorem Qu1 {a:Tm} (ha:Va a) {x y:Pt} (hx:Sc x.c) (hy:Sc y.c) {q:Rat} (h1:Nc (Rp a) (Hm x.c y.c)=U6 (Uy (Hm x.c y.c) q)) (h2:Nc (Rp a) (Hr x.c y.c)=U6 (Uy (Hr x.c y.c) q)):Ms (Rp a) x y=true↔Qbr q x y:=by
 rw [Qnv hx hy] at h1;rw [Qnt hx hy] at h2;have d1:=(E4 hx hy).dp;have d2:=(E3 hx hy).dp;unfold Ms;simp only [Iw];have t1:=Ga (px y q-px x q);have t2:=Ga (py y q-py x q);by_cases e1:(Hm x.c y.c).length=0
 ·rw [if_neg (by omega)];rw [Qh e1,Qju] at h1;have:px x q=px y q:=by grind
  by_cases e2:(Hr x.c y.c).length=0
  ·rw [if_neg (by omega)];rw [Qh e2,Qju] at h2;unfold Qbr;simp only [decide_eq_true_eq];grind
  ·rw [if_pos (by omega)];have:=(Dh ha d2 e2).2;unfold Qbr;simp only [decide_eq_true_eq];grind
 ·rw [if_pos (by omega)];have:=(Dh ha d1 e1).2;unfold Qbr;simp only [decide_eq_true_eq];grind
def Qn9 (l:List Pt):List (List Int):=l.flatMap λx=>l.flatMap λy=>[Hm x.c y.c,Hr x.c y.c]
theorem Ev {l:List Pt} {x y:Pt} (hx:x∈l) (hy:y∈l):Hm x.c y.c∈Qn9 l/\Hr x.c y.c∈Qn9 l :=
 ⟨Xj.2 ⟨x,hx,Xj.2 ⟨y,hy,by simp⟩⟩,Xj.2 ⟨x,hx,Xj.2 ⟨y,hy,by simp⟩⟩⟩
theorem Zbj {l:List Pt} (hl:∀ p∈l,Sc p.c):∀ p∈Qn9 l,Cp p:=λp hp=>by
 obtain ⟨x,hx,hp⟩:=Xj.1 hp;obtain ⟨y,hy,hp⟩:=Xj.1 hp;simp at hp;rcases hp with rfl | rfl
 ·exact E4 (hl x hx) (hl y hy)
 ·exact E3 (hl x hx) (hl y hy)
theorem Qnm {sg:List Int->Int}:∀ {l:List Pt},∀ x∈Mk sg l,∃ u∈l,∃ v∈l,x.p=Qcm u v
 | [],x,hx=>by cases hx
 | [_],x,hx=>by cases hx
 |
  a::b::l,x,hx=>by
  simp only [Mk] at hx;rcases Qq.1 hx with rfl | hx
  ·exact ⟨a,by simp,b,by simp,rfl⟩
  ·obtain ⟨u,hu,v,hv,e⟩:=Qnm (l:=b::l) x hx;exact ⟨u,Qk _ hu,v,Qk _ hv,e⟩
theorem Q3d {l:List Pt} {u v:Pt} (hu:u∈l) (hv:v∈l):Qcm u v∈Qn9 l:=by
 unfold Qcm Qcb; split
 ·exact (Ev hu hv).1
 ·exact (Ev hu hv).2
theorem Zbn {l:List Pt} {a:Tm}:∀ x∈bcS l a,x.p∈Qn9 l:=λx hx=>by
 obtain ⟨u,hu,v,hv,e⟩:=Qnm x hx;rw [e]; exact Q3d (Mj.1 hu) (Mj.1 hv)
end Orq
namespace Orr
open Go
section
variable {α:Type} {lt:α->α->Bool}
theorem Q20 (out:List α) (c:α):(Nm lt out c).Perm (c::out):=by
 unfold Nm;exact (Uh).trans (by rw [Zd])
theorem Qjp:∀ (l acc:List α),(l.foldl (Nm lt) acc).Perm (l++acc)
 | [],acc=>List.Perm.refl _
 |
  c::l,acc=>by
  simp only [Xg];exact (Qjp l _).trans (((Q20 acc c).append_left l).trans Uh)
theorem Qk6 (l:List α):(Fx lt l).Perm l:=by
 have:=Qjp (lt:=lt) l [];rwa [Zy] at this
end
def Lt (a b:Pt):Bool:=decide (a.id<b.id)
def Pt.m5 (p:Pt):Pt:=⟨p.c,p.id % 5⟩
def mix (O:List Pt) (i:Nat):List Pt:=(O.take i).map Pt.m5++O.drop i
theorem Q75 (O:List Pt):mix O 0=O:=by simp [mix]
theorem Qh1 (O:List Pt) (i:Nat):(mix O i).length=O.length:=by
 unfold mix; rw [List.length_append,List.length_map,List.length_take,List.length_drop]; omega
theorem Q0e {O:List Pt} {i:Nat} {p:Pt} (h:O[i]? = some p):(mix O i).set i p.m5=mix O (i+1):=by
 have hi:=(Qc.1 h).1;have hl:((O.take i).map Pt.m5).length=i:=by rw [Zc,Qr]; omega
 unfold mix;rw [List.set_append,if_neg (by omega),hl,Jn,Zw,h,Vq,Yi,Zi];congr 1;rw [Zl hi];have:O[i]=p:=by
  have:=(Qc.1 h).2;exact this
 rfl
theorem Zdj {O:List Pt} {i:Nat} {p:Pt} (h:O[i]? = some p):(mix O i)[i]? = some p:=by
 have hi:=(Qc.1 h).1;have hl:((O.take i).map Pt.m5).length=i:=by rw [Zc,Qr]; omega
 unfold mix;rw [Zn (by omega),hl,Jn,Xe];exact h
theorem Q0d {O:List Pt} {i k:Nat} {p:Pt} (hk:k<i) (h:O[k]? = some p):(mix O i)[k]? = some p.m5:=by
 have hi:=(Qc.1 h).1;unfold mix;rw [Q8 (by rw [Zc,Qr]; omega),Zb,X6,if_pos hk,h]; rfl
theorem Qs3 {O:List Pt} {e i:Nat} (h:e<=i) (hi:i<=O.length):(mix O i).take e=(O.take e).map Pt.m5:=by
 unfold mix;rw [Ym (by rw [Zc,Qr]; omega),<-Yb,Wu,Zt h]
def Sl (O:List Pt) (e:Nat):List Pt:=(O.take e).map Pt.m5
def Qbq (O:List Pt) (e:Nat):List Pt:=(Sl O e).map Pt.nrm
def Lr (l:List Pt):Prop:=l.Pairwise λa b=>a.id≠b.id
theorem Q2d {O:List Pt} {i:Nat} {p:Pt} (h:O[i]? = some p):Sl O (i+1)=Sl O i++[p.m5]:=by
 unfold Sl; rw [List.take_succ,h,Option.toList_some,List.map_append]; rfl
theorem Q2k {O:List Pt} {i:Nat} {p:Pt} (h:O[i]? = some p) (hd:Lr (Sl O i)) (hn:∀ k x,k<i->O[k]? = some x->x.m5.id≠p.m5.id):Lr (Sl O (i+1)):=by
 rw [Q2d h];refine X4.2 ⟨hd,Ks _ _,λa ha b hb=>?_⟩;rw [Qj.1 hb];obtain ⟨x,hx,rfl⟩:=Zx.1 ha;obtain ⟨k,hk,rfl⟩:=Y8.1 hx;rw [Qr] at hk;rw [List.getElem_take];exact hn k _ (by omega) (Qe (by omega))
theorem Ql1 {O:List Pt} {e:Nat} (h:Lr (Sl O e)):Lr (Qbq O e):=List.Pairwise.map Pt.nrm (λ_ _ h=>h) h
theorem Qgz (O:List Pt) (e:Nat):(Qbq O e).length=(Sl O e).length:=by unfold Qbq; rw [List.length_map]
theorem Qdd {O:List Pt} {e:Nat} (h:e<=O.length):(Sl O e).length=e:=by unfold Sl; rw [List.length_map,List.length_take]; omega
def Q1l (p:Pt):Prop:=Cs 10 3 p.c
theorem Qmv {n:Nat} {most:Int} (hm:0≤most/\most≤999) {l:List RawPt}:∀ p∈Qfz n most l,Q1l p:=λp hp=>by
 rcases Qdk _ _ hp with h | h
 ·cases h
 ·obtain ⟨z,_,rfl⟩:=Zx.1 h;exact Ql0 hm _ _ _
theorem Qr0 {O:List Pt} (h:∀ p∈O,Q1l p) (e:Nat):∀ p∈Sl O e,Q1l p:=λp hp=>by
 obtain ⟨x,hx,rfl⟩:=Zx.1 hp;exact h x (Ql hx)
theorem Qzc {O:List Pt} (h:∀ p∈O,Q1l p) (e:Nat):∀ p∈Qbq O e,Nml p.c/\Cs 10 3 p.c:=λp hp=>by
 obtain ⟨x,hx,rfl⟩:=Zx.1 hp;exact ⟨x.c.nml,(Qr0 h e x hx).norm (by decide)⟩
theorem Qmr {s n:Nat}:∀ {l:List Pt},(∀ p∈l,Cs s n p.c)->IsPts s n (l.map Hi) (l.map Pt.nrm)
 | [],_=>trivial
 | p::l,h=>⟨⟨p.c.x.map Hg,p.c.y.map Hg,_,_,_,_,p.c.d,rfl,Ha _,Ha _,U0 _,h p (Qx ..),rfl⟩,Qmr λx hx=>h x (Qk _ hx)⟩
theorem Qny:∀ {l m:List Pt},B6 l->B6 m->(∀ x,x∈l↔x∈m)->l=m
 | [],[],_,_,_=>rfl
 | [],b::m,_,_,h=>absurd ((h b).2 (Qx ..)) (by simp)
 | a::l,[],_,_,h=>absurd ((h a).1 (Qx ..)) (by simp)
 |
  a::l,b::m,h1,h2,h=>by
  have h1':=Zf.1 h1;have h2':=Zf.1 h2;have hab:a=b:=by
   rcases Qq.1 ((h a).1 (Qx ..)) with e | e
   ·exact e
   ·rcases Qq.1 ((h b).2 (Qx ..)) with e2 | e2
    ·exact e2.symm
    ·have:=h2'.1 a e; have:=h1'.1 b e2; omega
  subst hab;congr 1;refine Qny h1'.2 h2'.2 λx=>⟨λhx=>?_,λhx=>?_⟩
  ·rcases Qq.1 ((h x).1 (Qk _ hx)) with e | e
   ·have:=h1'.1 x hx; rw [e] at this; omega
   ·exact e
  ·rcases Qq.1 ((h x).2 (Qk _ hx)) with e | e
   ·have:=h2'.1 x hx; rw [e] at this; omega
   ·exact e
theorem Qql {l:List Pt} (h:Lr l):B6 (Fx Lt l) :=
 Orq.foldG_pw (R:=λa b:Pt=>a.id<b.id) (S:=λ_=>True) (D:=λa b:Pt=>a.id≠b.id) (λx y z h1 h2=>Int.lt_trans h1 h2) (λx y _ _ h=>of_decide_eq_true h) (λx y _ _ h1 h=>by have:=of_decide_eq_false h; omega) l [] .nil (λx hx=>by cases hx) (λ_ _=>trivial) h (λx hx=>by cases hx)
theorem Q87 (l:List Pt) (q:Pt):(put l q).Perm (q::l):=by
 unfold put;exact List.perm_middle.trans (by rw [Zd])
theorem Qm1:∀ (qs acc:List Pt),(Tx acc qs).2=0->(Tx acc qs).1.Perm (qs++acc)
 | [],acc,_=>List.Perm.refl _
 |
  q::qs,acc,h=>by
  simp only [Tx] at h ⊢
  split
  ·rename_i h0;rw [if_pos h0] at h;refine (Qm1 qs _ h).trans ?_;exact ((Q87 acc q).append_left qs).trans Uh
  ·rename_i h0;rw [if_neg h0] at h;exact absurd h h0
theorem Q29 {qs:List Pt} (hl:qs.length<=6) (hd:Lr qs):(Tx [] qs).2=0/\(Tx [] qs).1=Fx Lt qs:=by
 rcases Q28 hl with ⟨h1,h2,_,_⟩ | ⟨_,h2⟩
 ·refine ⟨h1,Qny h2 (Qql hd) λx=>?_⟩;have h3:=Qm1 qs [] h1;rw [Zy] at h3;rw [h3.mem_iff,Sx]
 ·exact absurd hd h2
def Md:List Pt->Int->Int
 | [],_=>-1
 | p::l,id=>if p.id=id then 0 else if Md l id<0 then -1 else Md l id+1
theorem Q64:∀ (l:List Pt) (id:Int),Md l id<0->Md l id=-1
 | [],_,_=>rfl
 |
  p::l,id,h=>by
  simp only [Md] at h ⊢
  split
  ·rename_i h0; rw [if_pos h0] at h; omega
  ·rename_i h0; rw [if_neg h0] at h
   split
   ·rfl
   ·rename_i h1; rw [if_neg h1] at h; omega
theorem Q2u {M:List Pt} {i:Nat} {x:Pt} {id:Int} (hx:M[i]? = some x) (h:x.id=id):Md (M.drop i) id+(if Md (M.drop i) id<0 then 0 else (i:Int))=(i:Int):=by
 have hi:=(Qc.1 hx).1;have e:M.drop i=x::M.drop (i+1):=by
  rw [Zl hi,(Qc.1 hx).2]
 rw [e];simp only [Md,if_pos h];simp
theorem Qv2 {M:List Pt} {i:Nat} {x:Pt} {id:Int} (hx:M[i]? = some x) (h:¬x.id=id):Md (M.drop i) id+(if Md (M.drop i) id<0 then 0 else (i:Int))=Md (M.drop (i+1)) id+(if Md (M.drop (i+1)) id<0 then 0 else ((i+1:Nat):Int)):=by
 have hi:=(Qc.1 hx).1;have e:M.drop i=x::M.drop (i+1):=by
  rw [Zl hi,(Qc.1 hx).2]
 rw [e];have h2:=Q64 (M.drop (i+1)) id;simp only [Md,if_neg h]
 split
 ·rename_i h3;rw [h2 h3];simp
 ·rename_i h3;rw [if_neg (by omega)]
  push_cast
  omega
end Orr
namespace Orr
open Go Go.Proofs
set_option maxRecDepth 10000
theorem Zc4 {α:Type} {f:α->List LV} {lt:α->α->Bool} {O:List α} {c:α} {k:Nat} (hp:Tu lt O c O.length=k):(O.map f).take k++(f c::(O.map f).drop k)=(Nm lt O c).map f:=by
 simp [Nm,hp,Yb,W6]
theorem Qso {α:Type} {f:α->List LV} {lt:α->α->Bool} {O:List α} {c:α} {k:Nat} (hp:Tu lt O c O.length=k):(O.map f).take k++([f c]++((O.map f).drop k).take ((O.map f).length-k))=(Nm lt O c).map f:=by
 rw [Qn (l:=(O.map f).drop k) (by simp)];exact Zc4 hp
theorem Qdr {lt:Pt->Pt->Bool} {O:List Pt} {c:Pt} {k:Nat} (hp:Tu lt O c O.length=k):(Fc O).take k++([Cf c]++((Fc O).drop k).take ((Fc O).length-k))=Fc (Nm lt O c):=Qso hp
theorem Gy (l:List Pt):(Fc l).length=l.length:=by simp [Fc]
theorem Qee (l:List Pt):∀ c∈Fc l,c.length=7:=λc hc=>by obtain ⟨x,_,rfl⟩:=Zx.1 hc; rfl
theorem Fa {l:List Pt} {i:Nat} {c:Pt} (h:l[i]? = some c):(Fc l)[i]? = some (Cf c):=Ho h
theorem Qy0 {l:List Pt} (hn:l.length<=1000000):Uw Tryz.prog 64 [.one (.row (Fc l))] [.one (.row (Fc (Fx Lt l)))]:=by
 have hcl:=Gy l;refine Hn Tryz.func64 rfl ?_;refine go tt [.o 3 57 7] rfl trivial ?_;refine lp (S:=Nat) 1 (λL1 i=>(8,.v (.one (.int .i64 (i:Int))))::(3,.v (.one (.orow 0 7 none)))::L1) (λi=>[.row false 57 7 (Fc (Fx Lt (l.take i)))]) (λi=>l.length-i) (λi=>i<=l.length) 0 (Qg _) rfl (λ_ _=>rfl) rfl λi hi=>?_
 by_cases hlt:i<l.length
 ·obtain ⟨c,hc⟩:=gxE (l:=l) (i:=i) hlt;have hst:Fx Lt (l.take (i+1))=Nm Lt (Fx Lt (l.take i)) c:=Lo hc;obtain ⟨O,hO⟩:=nmE (Fx Lt (l.take i));have hOl:O.length=i:=by rw [hO,H5,Qr]; omega
  have hrl:=Gy O;rw [<-hO] at hst ⊢;refine go tt [.t (decide_eq_true (by omega))] rfl trivial ?_;refine lp (S:=Nat) 1 (λL1 k=>(5,.v (.one (.int .i64 (k:Int))))::L1) (λ_=>[.row false 57 7 (Fc O)]) id (λk=>k<=O.length/\Tu Lt O c k=Tu Lt O c O.length) (Fc O).length ⟨by omega,by rw [hrl]⟩ rfl (λ_ _=>rfl) rfl λk ⟨hk,hp⟩=>?_
  have h7:=Qee O;have h7z:∀ y∈[Cf c],y.length=7:=λy hy=>by rw [Qj.1 hy]; rfl
  cases k with
  |
   zero =>
   have hp:Tu Lt O c O.length=0:=by rw [<-hp]; rfl
   refine go tt [.g 15 false (by simp),.f rfl,.i 0,.x (Fa hc),.lo,.i 0,.s (sz:=7) (λy hy=>h7 y (Ql hy)),.s (sz:=7) (λy hy=>(Qt.1 hy).elim (h7z y) λhy=>h7 y (Ql hy))] rfl (by simp [Uu]; omega) ?_;exact rd (i+1) (by omega) hlt (by rw [hst,<-Qdr hp]; rfl)
  |
   succ k =>
   obtain ⟨x,hx⟩:=gxE (l:=O) (i:=k) (by omega);by_cases hlc:Lt c x=true
   ·refine go tt [.g 15 true (by simp),.x (Fa hc),.r 23 (eI (b:=(k:Int)) (by simp)),.i k,.x (Fa hx),.t hlc,.r 30 (eI (b:=(k:Int)) (by simp))] rfl (by simp [Uu]; omega) ?_;exact rd k (by simp) ⟨by omega,by rw [<-hp,Qbb hx hlc]⟩ rfl
   ·have hlc:Lt c x=false:=by simpa using hlc
    have hp:Tu Lt O c O.length=k+1:=by rw [<-hp,Ap hx hlc]
    refine go tt [.g 15 true (by simp),.x (Fa hc),.r 23 (eI (b:=(k:Int)) (by simp)),.i k,.x (Fa hx),.f hlc,.i (k+1),.x (Fa hc),.lo,.i (k+1),.s (sz:=7) (λy hy=>h7 y (Ze (Ql hy))),.s (sz:=7) (λy hy=>(Qt.1 hy).elim (h7z y) λhy=>h7 y (Ze (Ql hy)))] rfl (by simp [Uu]; omega) ?_;exact rd (i+1) (by omega) hlt (by rw [hst,<-Qdr hp]; rfl)
 ·obtain rfl:i=l.length:=by omega
  rw [Q0];exact en tt [.f (decide_eq_false (by omega))] rfl rfl trivial
def Nw (q:Rat) (a b:Pt):Bool:=if S0 (Hm a.c b.c) q≠0 then decide (0<S0 (Hm a.c b.c) q) else if S0 (Hr a.c b.c) q≠0 then decide (0<S0 (Hr a.c b.c) q) else decide (a.id<b.id)
theorem Dt {a b:Pt} {q:Rat} {c:List (List Int)} (ha:Rs a.c) (hb:Rs b.c) (hq:Qs 1000000 q):Uw Tryz.prog 17 [.agg (Cf a),.agg (Cf b),.agg (aq q c)] [.one (.bool (Nw q a b))]:=by
 have c1:=Ci (p:=Hm a.c b.c) (c:=c) (Uv (Qbd ha hb).1 (by decide)) (Qd (Qbd ha hb).2 (by decide)) hq;have c2:=Ci (p:=Hr a.c b.c) (c:=c) (Uv (Qba ha hb).1 (by decide)) (Qd (Qba ha hb).2 (by decide)) hq;by_cases h1:S0 (Hm a.c b.c) q≠0
 ·exact w tt Tryz.func17 rfl [.c [] (Oh ha hb),.c [] c1,.t (decide_eq_true h1)] rfl (by unfold Nw; rw [if_pos h1]) trivial
 by_cases h2:S0 (Hr a.c b.c) q≠0
 ·exact w tt Tryz.func17 rfl [.c [] (Oh ha hb),.c [] c1,.f (decide_eq_false h1),.c [] (Qiy ha hb),.c [] c2,.t (decide_eq_true h2)] rfl (by unfold Nw; rw [if_neg h1,if_pos h2]) trivial
 ·exact w tt Tryz.func17 rfl [.c [] (Oh ha hb),.c [] c1,.f (decide_eq_false h1),.c [] (Qiy ha hb),.c [] c2,.f (decide_eq_false h2)] rfl (by unfold Nw; rw [if_neg h1,if_neg h2]) trivial
theorem Qlt {l:List Pt} {q:Rat} {cs:List (List Int)} (hl:∀ p∈l,Rs p.c) (hn:l.length≤1000000) (hq:Qs 1000000 q):Uw Tryz.prog 291 [.one (.row (Fc l)),.agg (aq q cs)] [.one (.row (Fc (Fx (Nw q) l)))]:=by
 have hcl:=Gy l;obtain ⟨lt,hlt0⟩:=nmE (Nw q);rw [<-hlt0];refine Hn Tryz.func291 rfl ?_;refine go tt [.o 5 57 7] rfl trivial ?_;refine lp (S:=Nat) 2 (λL1 i=>(10,.v (.one (.int .i64 (i:Int))))::(5,.v (.one (.orow 1 7 none)))::L1) (λi=>[.blk 37 (aq q cs),.row false 57 7 (Fc (Fx lt (l.take i)))]) (λi=>l.length-i) (λi=>i<=l.length) 0 (Qg _) rfl (λ_ _=>rfl) rfl λi hi=>?_
 by_cases hlt:i<l.length
 ·obtain ⟨c,hc⟩:=gxE (l:=l) (i:=i) hlt;have hst:Fx lt (l.take (i+1))=Nm lt (Fx lt (l.take i)) c:=Lo hc;have hcp:=hl c (Qa hc);obtain ⟨O,hO⟩:=nmE (Fx lt (l.take i));have hOl:O.length=i:=by rw [hO,H5,Qr]; omega
  have hOm:∀ x∈O,Rs x.c:=λx hx=>by rw [hO,Sx] at hx; exact hl x (Ql hx)
  have hrl:=Gy O;rw [<-hO] at hst ⊢;refine go tt [.t (decide_eq_true (by omega))] rfl trivial ?_;refine lp (S:=Nat) 2 (λL1 k=>(7,.v (.one (.int .i64 (k:Int))))::L1) (λ_=>[.blk 37 (aq q cs),.row false 57 7 (Fc O)]) id (λk=>k<=O.length/\Tu lt O c k=Tu lt O c O.length) (Fc O).length ⟨by omega,by rw [hrl]⟩ rfl (λ_ _=>rfl) rfl λk ⟨hk,hp⟩=>?_
  have h7:=Qee O;have h7z:∀ y∈[Cf c],y.length=7:=λy hy=>by rw [Qj.1 hy]; rfl
  cases k with
  |
   zero =>
   have hp:Tu lt O c O.length=0:=by rw [<-hp]; rfl
   refine go tt [.g 17 false (by simp),.f rfl,.i 0,.x (Fa hc),.lo,.i 0,.s (sz:=7) (λy hy=>h7 y (Ql hy)),.s (sz:=7) (λy hy=>(Qt.1 hy).elim (h7z y) λhy=>h7 y (Ql hy))] rfl (by simp [Uu]; omega) ?_;exact rd (i+1) (by omega) hlt (by rw [hst,<-Qdr hp]; rfl)
  |
   succ k =>
   obtain ⟨x,hx⟩:=gxE (l:=O) (i:=k) (by omega);have cb:=Dt (c:=cs) hcp (hOm x (Qa hx)) hq;rw [<-hlt0] at cb;by_cases hlc:lt c x=true
   ·refine go tt [.g 17 true (by simp),.x (Fa hc),.r 24 (eI (b:=(k:Int)) (by simp)),.i k,.x (Fa hx),.c [] cb,.t hlc,.r 31 (eI (b:=(k:Int)) (by simp))] rfl (by simp [Uu]; omega) ?_;exact rd k (by simp) ⟨by omega,by rw [<-hp,Qbb hx hlc]⟩ rfl
   ·have hlc:lt c x=false:=by simpa using hlc
    have hp:Tu lt O c O.length=k+1:=by rw [<-hp,Ap hx hlc]
    refine go tt [.g 17 true (by simp),.x (Fa hc),.r 24 (eI (b:=(k:Int)) (by simp)),.i k,.x (Fa hx),.c [] cb,.f hlc,.i (k+1),.x (Fa hc),.lo,.i (k+1),.s (sz:=7) (λy hy=>h7 y (Ze (Ql hy))),.s (sz:=7) (λy hy=>(Qt.1 hy).elim (h7z y) λhy=>h7 y (Ze (Ql hy)))] rfl (by simp [Uu]; omega) ?_;exact rd (i+1) (by omega) hlt (by rw [hst,<-Qdr hp]; rfl)
 ·obtain rfl:i=l.length:=by omega
  rw [Q0];exact en tt [.f (decide_eq_false (by omega))] rfl rfl trivial
def rct (c:Ct):List LV:=[.int .i64 c.kind,.int .i64 c.i0,.int .i64 c.i1,.int .i64 c.i2,.int .i64 c.i3,rp (zp c.p),.int .i64 c.want,.row [],.bool false]
def Gl (l:List Ct):List (List LV):=l.map rct
theorem Mx (l:List Ct):(Gl l).length=l.length:=by simp [Gl]
theorem Qg5 (l:List Ct):∀ c∈Gl l,c.length=9:=λc hc=>by obtain ⟨x,_,rfl⟩:=Zx.1 hc; rfl
theorem Mp {l:List Ct} {i:Nat} {c:Ct} (h:l[i]? = some c):(Gl l)[i]? = some (rct c):=Ho h
theorem Qdq {lt:Ct->Ct->Bool} {O:List Ct} {c:Ct} {k:Nat} (hp:Tu lt O c O.length=k):(Gl O).take k++([rct c]++((Gl O).drop k).take ((Gl O).length-k))=Gl (Nm lt O c):=Qso hp
theorem Qy1 {k i0 i1 i2 i3 l j0 j1 j2 j3:Int}:Uw Tryz.prog 322 [.agg [.int .i64 k,.int .i64 i0,.int .i64 i1,.int .i64 i2,.int .i64 i3],.agg [.int .i64 l,.int .i64 j0,.int .i64 j1,.int .i64 j2,.int .i64 j3]] [.one (.bool (H9 [k,i0,i1,i2,i3] [l,j0,j1,j2,j3]))]:=by
 by_cases hk:k=l
 ·subst hk;rw [show H9 [k,i0,i1,i2,i3] [k,j0,j1,j2,j3]=H9 [i0,i1,i2,i3] [j0,j1,j2,j3] from by simp [H9]];refine Hn Tryz.func322 rfl ?_;refine go tt [.f (by simp)] rfl trivial ?_;refine lp (S:=Nat) 2 (λL1 i=>(5,.v (.one (.int .i64 (i:Int))))::L1) (λ_=>[.blk 88 [.int .i64 k,.int .i64 i0,.int .i64 i1,.int .i64 i2,.int .i64 i3],.blk 88 [.int .i64 k,.int .i64 j0,.int .i64 j1,.int .i64 j2,.int .i64 j3]]) (λi=>4-i) (λi=>i<=4/\H9 ([i0,i1,i2,i3].drop i) ([j0,j1,j2,j3].drop i)=H9 [i0,i1,i2,i3] [j0,j1,j2,j3]) 0 ⟨by omega,rfl⟩ rfl (λ_ _=>rfl) rfl λi ⟨hi,he⟩=>?_
  rw [<-he];rcases (show i=0\/i=1\/i=2\/i=3\/i=4 by omega) with rfl | rfl | rfl | rfl | rfl
  ·by_cases h:i0=j0
   ·exact go tt [.t rfl,.i 0,.i 0,.f (by simpa using h)] rfl (by simp [Uu]) (rd 1 (by omega) ⟨by omega,by simp [H9,h]⟩ rfl)
   ·exact en tt [.t rfl,.i 0,.i 0,.t (by simpa using h),.i 0,.i 0] rfl (by simp [H9,h]) trivial
  ·by_cases h:i1=j1
   ·exact go tt [.t rfl,.i 1,.i 1,.f (by simpa using h)] rfl (by simp [Uu]) (rd 2 (by omega) ⟨by omega,by simp [H9,h]⟩ rfl)
   ·exact en tt [.t rfl,.i 1,.i 1,.t (by simpa using h),.i 1,.i 1] rfl (by simp [H9,h]) trivial
  ·by_cases h:i2=j2
   ·exact go tt [.t rfl,.i 2,.i 2,.f (by simpa using h)] rfl (by simp [Uu]) (rd 3 (by omega) ⟨by omega,by simp [H9,h]⟩ rfl)
   ·exact en tt [.t rfl,.i 2,.i 2,.t (by simpa using h),.i 2,.i 2] rfl (by simp [H9,h]) trivial
  ·by_cases h:i3=j3
   ·exact go tt [.t rfl,.i 3,.i 3,.f (by simpa using h)] rfl (by simp [Uu]) (rd 4 (by omega) ⟨by omega,by simp [H9,h]⟩ rfl)
   ·exact en tt [.t rfl,.i 3,.i 3,.t (by simpa using h),.i 3,.i 3] rfl (by simp [H9,h]) trivial
  ·exact en tt [.f rfl] rfl (by simp [H9]) trivial
 ·exact w tt Tryz.func322 rfl [.t (by simpa using hk)] rfl (by simp [H9,hk]) trivial
theorem Zca {l:List Ct} (hn:l.length<=1000000):Uw Tryz.prog 293 [.one (.row (Gl l))] [.one (.row (Gl (Fx Rz l)))]:=by
 have hcl:=Mx l;refine Hn Tryz.func293 rfl ?_;refine go tt [.o 3 272 9] rfl trivial ?_;refine lp (S:=Nat) 1 (λL1 i=>(8,.v (.one (.int .i64 (i:Int))))::(3,.v (.one (.orow 0 9 none)))::L1) (λi=>[.row false 272 9 (Gl (Fx Rz (l.take i)))]) (λi=>l.length-i) (λi=>i<=l.length) 0 (Qg _) rfl (λ_ _=>rfl) rfl λi hi=>?_
 by_cases hlt:i<l.length
 ·obtain ⟨c,hc⟩:=gxE (l:=l) (i:=i) hlt;have hst:Fx Rz (l.take (i+1))=Nm Rz (Fx Rz (l.take i)) c:=Lo hc;obtain ⟨O,hO⟩:=nmE (Fx Rz (l.take i));have hOl:O.length=i:=by rw [hO,H5,Qr]; omega
  have hrl:=Mx O;rw [<-hO] at hst ⊢;refine go tt [.t (decide_eq_true (by omega))] rfl trivial ?_;refine lp (S:=Nat) 1 (λL1 k=>(5,.v (.one (.int .i64 (k:Int))))::L1) (λ_=>[.row false 272 9 (Gl O)]) id (λk=>k<=O.length/\Tu Rz O c k=Tu Rz O c O.length) (Gl O).length ⟨by omega,by rw [hrl]⟩ rfl (λ_ _=>rfl) rfl λk ⟨hk,hp⟩=>?_
  have h7:=Qg5 O;have h7z:∀ y∈[rct c],y.length=9:=λy hy=>by rw [Qj.1 hy]; rfl
  cases k with
  |
   zero =>
   have hp:Tu Rz O c O.length=0:=by rw [<-hp]; rfl
   refine go tt [.g 15 false (by simp),.f rfl,.i 0,.x (Mp hc),.lo,.i 0,.s (sz:=9) (λy hy=>h7 y (Ql hy)),.s (sz:=9) (λy hy=>(Qt.1 hy).elim (h7z y) λhy=>h7 y (Ql hy))] rfl (by simp [Uu]; omega) ?_;exact rd (i+1) (by omega) hlt (by rw [hst,<-Qdq hp]; rfl)
  |
   succ k =>
   obtain ⟨x,hx⟩:=gxE (l:=O) (i:=k) (by omega);have cb:=Qy1 (k:=c.kind) (i0:=c.i0) (i1:=c.i1) (i2:=c.i2) (i3:=c.i3) (l:=x.kind) (j0:=x.i0) (j1:=x.i1) (j2:=x.i2) (j3:=x.i3);by_cases hlc:Rz c x=true
   ·refine go tt [.g 15 true (by simp),.x (Mp hc),.r 23 (eI (b:=(k:Int)) (by simp)),.i k,.x (Mp hx),.c [] cb,.t hlc,.r 30 (eI (b:=(k:Int)) (by simp))] rfl (by simp [Uu]; omega) ?_;exact rd k (by simp) ⟨by omega,by rw [<-hp,Qbb hx hlc]⟩ rfl
   ·have hlc:Rz c x=false:=by simpa using hlc
    have hp:Tu Rz O c O.length=k+1:=by rw [<-hp,Ap hx hlc]
    refine go tt [.g 15 true (by simp),.x (Mp hc),.r 23 (eI (b:=(k:Int)) (by simp)),.i k,.x (Mp hx),.c [] cb,.f hlc,.i (k+1),.x (Mp hc),.lo,.i (k+1),.s (sz:=9) (λy hy=>h7 y (Ze (Ql hy))),.s (sz:=9) (λy hy=>(Qt.1 hy).elim (h7z y) λhy=>h7 y (Ze (Ql hy)))] rfl (by simp [Uu]; omega) ?_;exact rd (i+1) (by omega) hlt (by rw [hst,<-Qdq hp]; rfl)
 ·obtain rfl:i=l.length:=by omega
  rw [Q0];exact en tt [.f (decide_eq_false (by omega))] rfl rfl trivial
abbrev sgq (q:Rat):List Int->Int:=λp=>Gm p q
abbrev rzc:List LV:=[.int .i64 0,.int .i64 0,.int .i64 0,.int .i64 0,.int .i64 0,.nils,.int .i64 0,.nils,.bool false]
theorem Q5v {a b:Pt} {q:Rat} {c:List (List Int)} (ha:Rs a.c) (hb:Rs b.c) (hq:Qs 1000000 q):Uw Tryz.prog 321 [.one (.int .i64 1),.agg (aq q c),.one (.row [Cf a,Cf b])] [.agg (rct (Di (sgq q) a b)),.one (.bool true)]:=by
 have hfl:=fzl (Hm a.c b.c);have x0:[Cf a,Cf b][0]? = some (Cf a):=rfl;have x1:[Cf a,Cf b][1]? = some (Cf b):=rfl;refine Hn Tryz.func321 rfl ?_;refine go tt [.g 14 false rfl,.g 18 false rfl,.x (l:=[[.int .i64 0],[.int .i64 2],[.int .i64 2],[.int .i64 3],[.int .i64 4],[.int .i64 4]]) (i:=1) (xs:=[.int .i64 2]) rfl,.f rfl] rfl trivial ?_;refine lp (S:=Nat) 3 (λL1 i=>(33,.v (.one (.int .i64 (i:Int))))::L1) (λi=>[.blk 37 (aq q c),.blk 272 rzc,.blk 272 [.int .i64 1,.int .i64 (if 0<i then a.id else 0),.int .i64 (if 1<i then b.id else 0),.int .i64 0,.int .i64 0,.nils,.int .i64 0,.nils,.bool false]]) (λi=>2-i) (λi=>i<=2) 0 (by decide) rfl (λ_ _=>rfl) rfl λi hi=>?_
 rcases (show i=0\/i=1\/i=2 by omega) with rfl | rfl | rfl
 ·exact go tt [.t rfl,.x x0,.i 0] rfl (by simp [Uu]) (rd 1 (by omega) (by omega) rfl)
 ·exact go tt [.t rfl,.x x1,.i 1] rfl (by simp [Uu]) (rd 2 (by omega) (by omega) rfl)
 by_cases h0:(Hm a.c b.c).length=0
 ·have e:Qcm a b=Hr a.c b.c:=if_neg (by omega);exact en tt [.f rfl,.t rfl,.x x0,.x x1,.c [] (Oh ha hb),.t (decide_eq_true (by omega)),.x x0,.x x1,.c [] (Qiy ha hb),.c [] (Ci (p:=Hr a.c b.c) (c:=c) (Uv (Qba ha hb).1 (by decide)) (Nat.le_trans (Qba ha hb).2 (by decide)) hq)] rfl (by unfold Di; rw [e]; rfl) trivial
 ·have e:Qcm a b=Hm a.c b.c:=if_pos (by omega);exact en tt [.f rfl,.t rfl,.x x0,.x x1,.c [] (Oh ha hb),.f (decide_eq_false (by omega)),.c [] (Ci (p:=Hm a.c b.c) (c:=c) (Uv (Qbd ha hb).1 (by decide)) (Nat.le_trans (Qbd ha hb).2 (by decide)) hq)] rfl (by unfold Di; rw [e]; rfl) trivial
theorem Zcc {a b:Pt} {q:Rat} {c:List (List Int)} (ha:Rs a.c) (hb:Rs b.c) (hq:Qs 1000000 q):Uw Tryz.prog 292 [.one (.int .i64 1),.agg (aq q c),.one (.row [Cf a,Cf b])] [.agg (rct (Di (sgq q) a b))] :=
 w tt Tryz.func292 rfl [.c [] (Q5v ha hb hq)] rfl rfl trivial
def Qnh (q:Rat) (l:List Pt):List Ct:=Fx Rz (Mk (sgq q) (Fx (Nw q) l))
theorem Q5u {l:List Ct} (hn:l.length<=1000000):Uw Tryz.prog 127 [.one (.row []),.one (.row (Gl l))] [.one (.row (Gl l))]:=by
 have hcl:=Mx l;refine Hn Tryz.func127 rfl ?_;refine go tt [] rfl trivial ?_;refine lp (S:=Nat) 0 (λL1 i=>(9,.v (.one (.int .i64 (i:Int))))::L1) (λ_=>[]) (λi=>l.length-i) (λi=>i<=l.length) 0 (Qg _) rfl (λ_ _=>rfl) rfl λi hi=>?_
 by_cases hlt:i<l.length
 ·refine go tt [.t (decide_eq_true (by omega))] rfl trivial ?_;refine lp (S:=Nat) 0 (λL1 k=>(14,.v (.one (.int .i64 (k:Int))))::L1) (λ_=>[]) (λk=>0-k) (λk=>k=0) 0 rfl rfl (λ_ _=>rfl) rfl λk hk=>?_
  subst hk;exact go tt [.f rfl] rfl (by simp [Uu]; omega) (rd (i+1) (by omega) hlt rfl)
 ·exact en tt [.f (decide_eq_false (by omega))] rfl rfl trivial
theorem Zde (l:List Nat) (n:Nat):(lm l).take (min l.length n)=lm (l.take n):=by
 rw [lm,lm,<-Yb];rcases Nat.le_total l.length n with h | h
 ·rw [Zt h,Q0,Qn h]
 ·rw [V7 h]
theorem Zhi {l:List Nat} {n:Nat} (hn:n<=1000):Uw Tryz.prog 252 [.one (.row (lm l)),.one (.int .i64 (n:Int))] [.one (.row (lm (l.take n)))]:=by
 rw [<-Zde];have hll:(lm l).length=l.length:=by simp [lm]
 exact w tt Tryz.func252 rfl [.r 9 (eI (b:=((min l.length n:Nat):Int)) (by omega)),.i (min l.length n)] rfl rfl (by simp [Uu,hll]; omega)
theorem Q5l {z:RawInt}:Uw Tryz.prog 197 [.agg (Qf2 z),.one (.int .i64 1)] [.agg (Qf2 z.cut)] :=
 w tt Tryz.func197 rfl [.c [] (Zhi (l:=z.l) (n:=1) (by decide))] rfl rfl trivial
def Qb1 (l:List RawInt):List (List LV):=l.map Qf2
theorem Qbf (l:List RawInt):(Qb1 l).length=l.length:=by simp [Qb1]
theorem Qyt {l:List RawInt}:Uw Tryz.prog 196 [.one (.row (Qb1 l)),.one (.int .i64 3),.one (.int .i64 1)] [.one (.row (Qb1 ((l.take 3).map RawInt.cut)))]:=by
 have hll:=Qbf l;refine Hn Tryz.func196 rfl (ln 0 rfl rfl λhzl=>?_);rw [hll] at hzl;refine go tt [.o 7 51 2] rfl trivial ?_;refine lp (S:=Nat) 1 (λL1 i=>(8,.v (.one (.int .i64 (i:Int))))::(7,.v (.one (.orow 0 2 none)))::L1) (λi=>[.row false 51 2 (Qb1 ((l.take i).map RawInt.cut))]) (λi=>3-i) (λi=>i<=3/\i<=l.length) 0 ⟨by decide,Qg _⟩ rfl (λ_ _=>rfl) rfl λi ⟨hi,hi2⟩=>?_
 have hil:(Qb1 ((l.take i).map RawInt.cut)).length=i:=by rw [Qbf,Zc,Qr]; omega
 by_cases h1:i<l.length
 ·by_cases h2:i<3
  ·obtain ⟨z,hz⟩:=gxE (l:=l) (i:=i) h1;have hm:∀ y∈[Qf2 z.cut],y.length=2:=λy hy=>by rw [Qj.1 hy]; rfl
   refine go tt [.g 13 true (decide_eq_true (by omega)),.t (decide_eq_true (by omega)),.x (Ho (f:=Qf2) hz),.c [] Q5l,.s (sz:=2) hm] rfl (by simp [Uu,hil,-List.map_take]; omega) ?_;exact rd (i+1) (by omega) ⟨h2,h1⟩ (by rw [Zw,hz]; simp [Qb1]; rfl)
  ·have e:i=3:=by omega
   have e2:l.take 3=l.take i:=by rw [e]
   rw [e2];exact en tt [.g 13 true (decide_eq_true (by omega)),.f (decide_eq_false (by omega))] rfl rfl trivial
 ·have e:l.take i=l.take 3:=by rw [Qn (by omega),Qn (by omega)]
  rw [e];exact en tt [.g 13 false (decide_eq_false (by omega)),.f rfl] rfl rfl trivial
abbrev rcw (z:RawPt):List LV:=[.row (Qb1 z.x),.row (Qb1 z.y),.bool z.d.b,.row (lm z.d.l)]
def RawPt.cut (z:RawPt):RawPt:=⟨(z.x.take 3).map RawInt.cut,(z.y.take 3).map RawInt.cut,z.d.cut,z.id⟩
theorem Zkc {z:RawPt}:Uw Tryz.prog 124 [.agg (rcw z),.one (.int .i64 3),.one (.int .i64 1)] [.agg (rcw z.cut)] :=
 w tt Tryz.func124 rfl [.c [] (Qyt (l:=z.x)),.c [] (Qyt (l:=z.y)),.c [] (Q5l (z:=z.d))] rfl rfl trivial
theorem Qc6 {z:RawInt} (hz:z.Ok) {most:Int} (hm:0<=most/\most<=999):Uw Tryz.prog 198 [.agg (Qf2 z),.one (.int .i64 most)] [.agg (Hg (Rt most z))]:=by
 obtain ⟨b,l⟩:=z;have hb:=Qci hm.1 ⟨b,l⟩;have hs:U9 (Rt most ⟨b,l⟩)<=100000000:=Qd (Te.2 (show (Rt most ⟨b,l⟩).natAbs<2^10 by omega)) (by decide);cases l with
 | nil=>exact w tt Tryz.func198 rfl [.t rfl] rfl (by simp [Rt,Lk]) trivial
 |
  cons u l =>
  have hu:=hz.u u (Qx ..);have co:=C5 (n:=Rt most ⟨b,u::l⟩) (by omega);have ct:=Q5d hs;have hr:Int.tmod (u:Int) (most+1)=(u:Int) % (most+1):=Y3 (by omega);have h1:=Yv (u:Int) (b:=most+1) (by omega);have h2:=Yc (u:Int) (b:=most+1) (by omega);cases b with
  |
   true =>
   rw [show Rt most ⟨true,u::l⟩=-((u:Int) % (most+1)) from rfl] at co ct ⊢;exact w tt Tryz.func198 rfl [.f (decide_eq_false (by simp [lm]; try omega)),.x (l:=lm (u::l)) (i:=0) (xs:=[.int .u32 (u:Int)]) rfl,.r 18 (eI hr),.t rfl,.c [] co,.c [] ct] rfl rfl (by simp [Uu]; omega)
  |
   false =>
   rw [show Rt most ⟨false,u::l⟩=(u:Int) % (most+1) from rfl] at co ct ⊢;exact w tt Tryz.func198 rfl [.f (decide_eq_false (by simp [lm]; try omega)),.x (l:=lm (u::l)) (i:=0) (xs:=[.int .u32 (u:Int)]) rfl,.r 18 (eI hr),.f rfl,.c [] co,.c [] ct] rfl rfl (by simp [Uu]; omega)
theorem oz2 {P:Program} [Mo P] {n:Nat} {Q:Exit->Sg->List OB->Prop} {L L':Sg} {B B':List OB} (d off T sz:Nat) {it:List It} (hs:Ta it=true) (h:Q81 (P:=P) d L B [.oc d off T sz]=some (L',B',[],[])) (k:AK P n Q it L' B'):AK P n Q it L B:=AK.sub (Qw3 h EqOk.nil) hs k
theorem pz {P:Program} [Mo P] {n:Nat} {Q:Exit->Sg->List OB->Prop} {L L':Sg} {B B':List OB} (i:Nat) {it:List It} (hs:Ta it=true) (h:Q3k [i] L B=some (L',B')) (k:AK P n Q it L' B'):AK P n Q it L B:=AK.sub (Qd8 h) hs k
def Ad (l:List Int):List (List LV):=l.map Hg
theorem Q26 (l:List Int):(Ad l).length=l.length:=by simp [Ad]
theorem Qfs {most:Int} {l:List RawInt} {i:Nat} {a:RawInt} (hi:i<3) (h:l[i]? = some a):Ad (G7 most (l.take (i+1)))=Ad (G7 most (l.take i))++[Hg (Rt most a)]:=by
 rw [Qpi hi h]; simp [Ad]
theorem Qph {most:Int} {l:List RawInt} {i:Nat} (hi:i<=3) (h:i<=l.length):(Ad (G7 most (l.take i))).length=i:=by
 rw [Q26]; unfold G7; rw [List.length_map,List.length_take,List.length_take]; omega
theorem Q4y {z:RawPt} (hz:z.Ok) {most:Int} (hm:0<=most/\most<=999):Uw Tryz.prog 125 [.agg (rcw z),.one (.int .i64 most)] [.agg (cl4 (Qdu most z.x z.y z.d))]:=by
 have hxl:=Qbf z.x;have hyl:=Qbf z.y;obtain ⟨D,hD⟩:=nmE (Rt 3 z.d);have cd:=Qc6 hz.d (most:=3) (by decide);have hx0:∀ {i:Nat},z.x.length<=i\/3<=i->G7 most (z.x.take i)=G7 most z.x:=Qgv most;have hy0:∀ {i:Nat},z.y.length<=i\/3<=i->G7 most (z.y.take i)=G7 most z.y:=Qgv most;unfold Qdu;rw [<-hD] at cd ⊢;refine Hn Tryz.func125 rfl ?_;refine go tt [.c [] cd] rfl trivial ?_;refine oz2 5 0 51 2 rfl rfl ?_;refine lp (S:=Nat) 4 (λL1 i=>(6,.v (.one (.int .i64 (i:Int))))::L1) (λi=>[.blk 53 (rcw z),.blk 53 [.nils,.nils,.bool false,.nils],.blk 53 [.orow 3 2 none,.nils,sg D,mg D],.row false 51 2 (Ad (G7 most (z.x.take i)))]) (λi=>3-i) (λi=>i<=3/\i<=z.x.length) 0 ⟨by decide,Qg _⟩ rfl (λ_ _=>rfl) rfl λi ⟨hi,hi2⟩=>?_
 have hll:=Qph (most:=most) hi hi2;by_cases hr:i<z.x.length/\i<3
 ·obtain ⟨a,ha⟩:=gxE (l:=z.x) (i:=i) hr.1;have hs:∀ y∈[Hg (Rt most a)],y.length=2:=λy hy=>by rw [Qj.1 hy]; rfl
  refine go tt [.g 17 true (decide_eq_true (by omega)),.t (decide_eq_true (by omega)),.x (Ho (f:=Qf2) ha),.c [] (Qc6 (hz.x a (Qa ha)) hm),.s (sz:=2) hs] rfl (by simp [Uu,hll]; omega) ?_;exact rd (i+1) (by omega) ⟨hr.2,hr.1⟩ (by rw [Qfs hr.2 ha]; rfl)
 have hg1:decide ((i:Int)<((Qb1 z.x).length:Int))=true->i<z.x.length:=λh=>by have:=of_decide_eq_true h; omega
 rw [hx0 (by omega)];clear hll;have hfin:∀ {j:Nat},j<=3/\j<=z.y.length->¬(j<z.y.length/\j<3)->Ad (G7 most (z.y.take j))=Ad (G7 most z.y):=λh1 h2=>by rw [hy0 (by omega)]
 by_cases hxx:i<z.x.length
 ·refine go tt [.g 17 true (decide_eq_true (by omega)),.f (decide_eq_false (by omega))] rfl trivial ?_;refine pz 3 rfl rfl ?_;refine oz2 5 1 51 2 rfl rfl ?_;refine lp (S:=Nat) 5 (λL1 j=>(7,.v (.one (.int .i64 (j:Int))))::L1) (λj=>[.blk 53 (rcw z),.blk 53 [.nils,.nils,.bool false,.nils],.blk 53 [.row (Ad (G7 most z.x)),.orow 4 2 none,sg D,mg D],.gone,.row false 51 2 (Ad (G7 most (z.y.take j)))]) (λj=>3-j) (λj=>j<=3/\j<=z.y.length) 0 ⟨by decide,Qg _⟩ rfl (λ_ _=>rfl) rfl λj ⟨hj,hj2⟩=>?_
  have hll:=Qph (most:=most) hj hj2;by_cases hr:j<z.y.length/\j<3
  ·obtain ⟨a,ha⟩:=gxE (l:=z.y) (i:=j) hr.1;have hs:∀ y∈[Hg (Rt most a)],y.length=2:=λy hy=>by rw [Qj.1 hy]; rfl
   refine go tt [.g 40 true (decide_eq_true (by omega)),.t (decide_eq_true (by omega)),.x (Ho (f:=Qf2) ha),.c [] (Qc6 (hz.y a (Qa ha)) hm),.s (sz:=2) hs] rfl (by simp [Uu,hll]; omega) ?_;exact rd (j+1) (by omega) ⟨hr.2,hr.1⟩ (by rw [Qfs hr.2 ha]; rfl)
  rw [hfin ⟨hj,hj2⟩ hr];by_cases hyy:j<z.y.length
  ·exact ed tt [4] [] [.g 40 true (decide_eq_true (by omega)),.f (decide_eq_false (by omega))] rfl trivial
  ·exact ed tt [4] [] [.g 40 false (decide_eq_false (by omega)),.f rfl] rfl trivial
 ·refine go tt [.g 17 false (decide_eq_false (by omega)),.f rfl] rfl trivial ?_;refine pz 3 rfl rfl ?_;refine oz2 5 1 51 2 rfl rfl ?_;refine lp (S:=Nat) 5 (λL1 j=>(7,.v (.one (.int .i64 (j:Int))))::L1) (λj=>[.blk 53 (rcw z),.blk 53 [.nils,.nils,.bool false,.nils],.blk 53 [.row (Ad (G7 most z.x)),.orow 4 2 none,sg D,mg D],.gone,.row false 51 2 (Ad (G7 most (z.y.take j)))]) (λj=>3-j) (λj=>j<=3/\j<=z.y.length) 0 ⟨by decide,Qg _⟩ rfl (λ_ _=>rfl) rfl λj ⟨hj,hj2⟩=>?_
  have hll:=Qph (most:=most) hj hj2;by_cases hr:j<z.y.length/\j<3
  ·obtain ⟨a,ha⟩:=gxE (l:=z.y) (i:=j) hr.1;have hs:∀ y∈[Hg (Rt most a)],y.length=2:=λy hy=>by rw [Qj.1 hy]; rfl
   refine go tt [.g 40 true (decide_eq_true (by omega)),.t (decide_eq_true (by omega)),.x (Ho (f:=Qf2) ha),.c [] (Qc6 (hz.y a (Qa ha)) hm),.s (sz:=2) hs] rfl (by simp [Uu,hll]; omega) ?_;exact rd (j+1) (by omega) ⟨hr.2,hr.1⟩ (by rw [Qfs hr.2 ha]; rfl)
  rw [hfin ⟨hj,hj2⟩ hr];by_cases hyy:j<z.y.length
  ·exact ed tt [4] [] [.g 40 true (decide_eq_true (by omega)),.f (decide_eq_false (by omega))] rfl trivial
  ·exact ed tt [4] [] [.g 40 false (decide_eq_false (by omega)),.f rfl] rfl trivial
theorem Zbx {n d:Int} (hn:-9223372036854775808<=n/\n<=9223372036854775807) (hd:-9223372036854775808<=d/\d<=9223372036854775807):Uw Tryz.prog 52 [.one (.int .i64 n),.one (.int .i64 d)] [.agg (fr (Gx (I9 n 61-30) (1+I9 d 6)))]:=by
 have h1:I9 n 61=n % 61:=rfl;have h2:I9 d 6=d % 6:=rfl;exact w tt Tryz.func52 rfl [.c [] (Qc4 (v:=n) (n:=61) hn (by decide)),.c [] (Qc4 (v:=d) (n:=6) hd (by decide)),.c [] (Zkh (n:=I9 n 61-30) (d:=1+I9 d 6) (by omega) (by omega))] rfl rfl (by simp [Uu]; omega)
def rwq (z:RawPt):List LV:=rcw z++[.int .i64 z.id]
def Qef (l:List RawPt):List (List LV):=l.map rwq
theorem Q3r (l:List RawPt):(Qef l).length=l.length:=by simp [Qef]
theorem Qqi {l:List RawPt} {i:Nat} {z:RawPt} (h:l[i]? = some z):(Qef l)[i]? = some (rwq z):=Ho h
theorem Zho {most:Int} (hm:0<=most/\most<=999) (z:RawPt):Cs 100000 16 (Qa8 most z).c:=(Ql0 hm z.x z.y z.d).mono (by decide) (by decide)
def Au (n:Nat) (most:Int) (zs:List RawPt) (i:Nat):List Pt:=Qfz n most (zs.take i)
theorem Q83 (n:Nat) (most:Int) (zs:List RawPt) (i:Nat):(Au n most zs i).length<=n:=Ox _ _ (Qg _)
theorem Zd7 {n:Nat} {most:Int} {zs:List RawPt} {i:Nat} {z:RawPt} (h:zs[i]? = some z) (hl:(Au n most zs i).length<n) (ha:(Au n most zs i).any (λx=>decide (x.id=(Qa8 most z).id))=true):Au n most zs (i+1)=Au n most zs i:=by
 unfold Au Qfz at *;rw [Zw,h,Vq,Yi];exact Ik _ _ _ hl ha
theorem Q84 {n:Nat} {most:Int} {zs:List RawPt} {i:Nat} {z:RawPt} (h:zs[i]? = some z) (hl:(Au n most zs i).length<n) (ha:(Au n most zs i).any (λx=>decide (x.id=(Qa8 most z).id))=false):Au n most zs (i+1)=Au n most zs i++[Qa8 most z]:=by
 unfold Au Qfz at *;rw [Zw,h,Vq,Yi];exact Ek _ _ _ hl ha
theorem Q82 {n:Nat} {most:Int} {zs:List RawPt} {i:Nat} (h:¬(i<zs.length/\(Au n most zs i).length<n)):Au n most zs i=Qfz n most zs:=by
 by_cases h1:i<zs.length
 ·have hl:n<=(Au n most zs i).length:=Vg λh2=>h ⟨h1,h2⟩
  unfold Au Qfz at *
  conv=>rhs; rw [<-Zd i zs,Yi]
  exact (Qfi _ _ _ hl).symm
 ·unfold Au; rw [List.take_of_length_le (by omega)]
theorem Q4h {f:Pt->Bool} {l:List Pt} {k:Nat} {x:Pt} (h:l[k]? = some x):(l.take (k+1)).any f=((l.take k).any f || f x):=by
 rw [Zw,h]; simp
theorem Q10 {zs:List RawPt} (hz:∀ z∈zs,z.Ok):Se Tryz.prog 63 [.one (.row (Qef zs)),.one (.int .i64 4)] [] [.one (.orow 0 5 none),.one (.orow 1 7 none)] [.row false 135 5 (U8 (Qfz 4 20 zs)),.row false 57 7 (Fc ((Qfz 4 20 zs).map Pt.nrm))]:=by
 have hzl:=Q3r zs;refine Hn Tryz.func63 rfl (ln 0 rfl rfl λhz63=>?_);rw [hzl] at hz63;refine go tt [.o 6 135 5,.o 7 57 7] rfl trivial ?_;refine lp (S:=Nat) 2 (λL1 i=>(8,.v (.one (.int .i64 (i:Int))))::(6,.v (.one (.orow 0 5 none)))::(7,.v (.one (.orow 1 7 none)))::L1) (λi=>[.row false 135 5 (U8 (Au 4 20 zs i)),.row false 57 7 (Fc ((Au 4 20 zs i).map Pt.nrm))]) (λi=>zs.length-i) (λi=>i<=zs.length) 0 (Qg _) rfl (λ_ _=>rfl) rfl λi hi=>?_
 have hOl:=Q83 4 20 zs i;have hend:=Q82 (n:=4) (most:=20) (zs:=zs) (i:=i);by_cases h1:i<zs.length
 ·by_cases h2:(Au 4 20 zs i).length<4
  ·obtain ⟨z,hzi⟩:=gxE (l:=zs) (i:=i) h1;have hzok:=hz z (Qa hzi);have hin:=Zd7 hzi h2;have hout:=Q84 hzi h2;obtain ⟨O,hO⟩:=nmE (Au 4 20 zs i);rw [<-hO] at hOl h2 hin hout ⊢;have Dv:=Rv O;have hrl:(Fc (O.map Pt.nrm)).length=O.length:=by rw [Gy,Zc]
   obtain ⟨p,hp⟩:=nmE (Qa8 20 z);have hid:I9 z.id 1000=p.id:=by rw [hp]; rfl
   have cw:=Qc4 (v:=z.id) (n:=1000) hzok.id (by decide);have cl:=Q4y hzok (most:=20) (by decide);have ecl:cl4 (Qdu 20 z.x z.y z.d)=cl4 p.c:=by rw [hp]; rfl
   rw [hid] at cw;rw [ecl] at cl;rw [<-hp] at hin hout;refine go tt [.g 16 true (decide_eq_true (by omega)),.t (decide_eq_true (by omega)),.x (Qqi hzi),.c [] (Zkc (z:=z)),.x (Qqi hzi),.c [] cw,.f rfl,.t rfl,.x (Qqi hzi),.c [] cl] rfl trivial ?_;refine lp (S:=Nat) 3 (λL1 k=>(57,.v (.one (.int .i64 (k:Int))))::(10,.v (.one (.bool ((O.take k).any (λx=>decide (x.id=p.id))))))::L1) (λ_=>[.row false 135 5 (U8 O),.row false 57 7 (Fc (O.map Pt.nrm)),.blk 135 [pl p.c.x,pl p.c.y,sg p.c.d,mg p.c.d,.int .i64 p.id]]) (λk=>O.length-k) (λk=>k<=O.length) 0 (Qg _) rfl (λ_ _=>rfl) rfl λk hk=>?_
   by_cases hk2:k<O.length
   ·obtain ⟨x,hx⟩:=gxE (l:=O) (i:=k) hk2;have ha:=Q4h (f:=λx=>decide (x.id=p.id)) hx;cases hb:(O.take k).any (λx=>decide (x.id=p.id)) with
    |
     true =>
     rw [hb,Ud] at ha;exact go tt [.t (decide_eq_true (by omega)),.g 61 true rfl] rfl (by simp [Uu]; omega) (rd (k+1) (by omega) hk2 (by rw [ha]; rfl))
    |
     false =>
     rw [hb,V9] at ha;exact go tt [.t (decide_eq_true (by omega)),.g 61 false rfl,.i k,.x (Ru hx)] rfl (by simp [Uu,Dv]; omega) (rd (k+1) (by omega) hk2 (by rw [ha]; rfl))
   have hk3:O.take k=O:=Qn (by omega);rw [hk3];cases hb:O.any (λx=>decide (x.id=p.id)) with
   |
    true =>
    refine go tt [.f (decide_eq_false (by omega)),.f rfl] rfl (by simp [Uu]; omega) ?_;exact rd (i+1) (by omega) h1 (by rw [hin hb]; rfl)
   |
    false =>
    have cf:=Q5t (k:=p.c) (id:=p.id) (by rw [hp]; exact Zho (by decide) z);have hm1:∀ y∈[Hi p],y.length=5:=λy hy=>by rw [Qj.1 hy]; rfl
    have hm2:∀ y∈[Cf p.nrm],y.length=7:=λy hy=>by rw [Qj.1 hy]; rfl
    have e1:U8 (O++[p])=U8 O++[Hi p]:=by simp [U8]
    have e2:Fc ((O++[p]).map Pt.nrm)=Fc (O.map Pt.nrm)++[Cf p.nrm]:=by simp [Fc]
    refine go tt [.f (decide_eq_false (by omega)),.t rfl,.s (sz:=5) hm1,.c [] cf,.s (sz:=7) hm2] rfl (by simp [Uu,Dv,hrl]; omega) ?_;exact rd (i+1) (by omega) h1 (by rw [hout hb,e1,e2]; rfl)
  ·rw [hend (λh=>h2 h.2)];rw [hend (λh=>h2 h.2)] at h2;have Dv:=Rv (Qfz 4 20 zs);exact ed tt [] [0,1] [.g 16 true (decide_eq_true (by omega)),.f (decide_eq_false (by omega))] rfl trivial
 ·rw [hend (λh=>h1 h.1)];exact ed tt [] [0,1] [.g 16 false (decide_eq_false (by omega)),.f rfl] rfl trivial
abbrev plZ (M:List Pt) (q:Rat):List LV:=.row (Fc M)::(fr q++[.nils,.nils,.nils,.bool false,.nils,.bool false,.nils,.bool false,.nils,.bool false,.nils,.int .i64 0,.nils])
abbrev plB (M:List Pt) (q:Rat) (c:List (List Int)) (w:List Ct):List LV:=.row (Fc M)::(fr q++(aq q c++[.row (Gl w),.int .i64 0,.nils]))
end Orr
namespace Orr
open Go Go.Proofs Orq
set_option maxRecDepth 10000
theorem Zcs {O:List Pt} {e j:Nat} (h:Lr (Sl O e)) (hj:j<=e):Lr (Sl O j):=by
 have:Sl O j=(Sl O e).take j:=by unfold Sl; rw [<-List.map_take,List.take_take,Nat.min_eq_left hj]
 rw [this];exact List.Pairwise.sublist (Ua _ _) h
theorem Zhq (O:List Pt):∃ e,e<=O.length/\Lr (Sl O e)/\(e<O.length->¬Lr (Sl O (e+1))):=by
 have key:∀ k,Lr (Sl O k)\/∃ e,e<k/\Lr (Sl O e)/\¬Lr (Sl O (e+1)):=by
  intro k
  induction k with
  | zero=>exact .inl List.Pairwise.nil
  |
   succ k ih =>
   rcases ih with h | ⟨e,h1,h2,h3⟩
   ·by_cases h4:Lr (Sl O (k+1))
    ·exact .inl h4
    ·exact .inr ⟨k,Nat.lt_succ_self k,h,h4⟩
   ·exact .inr ⟨e,by omega,h2,h3⟩
 rcases key O.length with h | ⟨e,h1,h2,h3⟩
 ·exact ⟨O.length,Qi _,h,λh=>absurd h (W7 _)⟩
 ·exact ⟨e,by omega,h2,λ_=>h3⟩
theorem Qp2 {O:List Pt} {i:Nat} {p:Pt} (h:O[i]? = some p):(U8 (mix O i)).set i [pl p.c.x,pl p.c.y,sg p.c.d,mg p.c.d,.int .i64 p.m5.id]=U8 (mix O (i+1)):=by
 rw [<-Q0e h]; simp only [U8,V1]; rfl
theorem Qln {O:List Pt} {i:Nat} {p:Pt} (h:O[i]? = some p):(Fc ((mix O i).map Pt.nrm)).set i [rp (Er p.nrm.c.x p.nrm.c.d),rp (Er p.nrm.c.y p.nrm.c.d),pl p.nrm.c.x,pl p.nrm.c.y,sg p.nrm.c.d,mg p.nrm.c.d,.int .i64 p.m5.id]=Fc ((mix O (i+1)).map Pt.nrm):=by
 rw [<-Q0e h]; simp only [Fc,V1]; rfl
theorem Q3j {O:List Pt} {e i:Nat} (h:e<=i) (hi:i<=O.length):(U8 (mix O i)).take e=U8 (Sl O e):=by
 unfold U8; rw [<-List.map_take,Qs3 h hi]; rfl
theorem Qxg {O:List Pt} {e i:Nat} (h:e<=i) (hi:i<=O.length):(Fc ((mix O i).map Pt.nrm)).take e=Fc (Qbq O e):=by
 unfold Fc; rw [<-List.map_take,<-List.map_take,Qs3 h hi]; rfl
theorem Qs2 {O:List Pt}:mix O O.length=Sl O O.length:=by unfold mix Sl; simp
abbrev Ix (n d:Int):Rat:=Gx (I9 n 61-30) (1+I9 d 6)
theorem Qnw (n d:Int):Qs 100 (Ix n d):=by
 have h1:I9 n 61=n % 61:=rfl;have h2:I9 d 6=d % 6:=rfl;unfold Ix Gx;rw [if_neg (by omega)];exact Qs.divInt (Qd (Te.2 (show (I9 n 61-30).natAbs<2^10 by omega)) (by decide)) (Qd (Te.2 (show (1+I9 d 6).natAbs<2^10 by omega)) (by decide)) (by decide)
theorem Zd8 {n:Nat} {most:Int} {l:List RawPt}:∀ p∈Qfz n most l,0≤p.id/\p.id<1000:=λp hp=>by
 rcases Qdk _ _ hp with h | h
 ·cases h
 ·obtain ⟨z,_,rfl⟩:=Zx.1 h;exact ⟨Yv _ (by decide),Yc _ (by decide)⟩
end Orr
namespace Orr
def Zph (s m:Pt×Pt):Bool:=decide (m.1.id≠s.1.id) || decide (m.2.id≠s.2.id)
end Orr
namespace Orq
open Orr Go
structure Quiet {β:Type} (Bc:Tm->List Ct) (Br:Tm->β) (a b:Tm):Prop where
 va:Va a
 vb:Va b
 le:¬TLt b a
 n:∀ x∈Bc a,∃ o,Lu x.p a o/\∀ u,o=some u->TLt b u
section
variable {β:Type} {Bc:Tm->List Ct} {Br:Tm->β} (S:Stab Bc Br)
include S
theorem Quiet.same {a b:Tm} (h:Quiet Bc Br a b):Bc b=Bc a/\Br b=Br a:=by
 refine S.st a b h.va h.vb λx hx=>?_
 obtain ⟨o,o1,o2⟩:=h.n x hx;exact Q2y (S.ok.p _ h.va _ hx).dp h.va h.vb h.le o1 o2
end
end Orq
namespace Orr
open Go Go.Proofs Orq
set_option maxRecDepth 10000
end Orr
namespace Orr
open Go Go.Proofs
set_option maxRecDepth 10000
theorem Qyu {p q:List Int} (hp:Bd 19000000 p) (hq:Bd 19000000 q) (hlp:p.length<=1000000) (hlq:q.length<=1000000):Uw Tryz.prog 143 [.one (rp (zp p)),.one (rp (zp q))] [.one (rp (zp (Bv p q)))]:=by
 have h:=Qvi (I6 (Uv hp (by decide)) (by decide)) (I6 (Uv hq (by decide)) (by decide)) (by rw [T0]; exact hlp) (by rw [T0]; exact hlq);rwa [Q02] at h
theorem Qv7 (p:List Int) (q:Rat):Nc (sgq q) p=S0 p q:=rfl
end Orr
namespace Orr
def Eb (l:List (List (List Int))):List (List LV):=l.map λr=>[.row (r.map λp=>[pl p])]
abbrev Qbu (r:List (List Int)):List (List LV):=r.map λp=>[pl p]
theorem Qbc (l:List (List (List Int))):(Eb l).length=l.length:=by simp [Eb]
def O8 (i:Nat) (rows:List (List (List Int))):Nat->List (List (List Int))
 | 0=>[]
 | j+1=>if j=i then O8 i rows j else O8 i rows j++[(rows.getD j []).drop 1]
def Qbs (rows:List (List (List Int))) (i:Nat):List (List (List Int)):=O8 i rows rows.length
def Nk (f:Nat->List Int) (rows:List (List (List Int))):Nat->List Int
 | 0=>[]
 |
  i+1=>if ((rows.getD i []).getD 0 []).length=0 then Nk f rows i else
  if i % 2=0 then Bv (Nk f rows i) (Fu ((rows.getD i []).getD 0 []) (f i)) else Po (Nk f rows i) (Fu ((rows.getD i []).getD 0 []) (f i))
def Co:Nat->List (List (List Int))->List Int
 | 0,_=>[1]
 | k+1,rows=>Nk (λi=>Co k (Qbs rows i)) rows (k+1)
structure Sq (s:Nat) (ds:List Nat) (k w:Nat) (rows:List (List (List Int))):Prop where
 l:rows.length=k
 w:∀ r∈rows,r.length=w
 t:∀ r∈rows,∀ p∈r,U3 p
 b:∀ r∈rows,∀ p∈r,Bd s p
 n:∀ r∈rows,∀ (j:Nat) (p:List Int),r[j]? = some p->p.length≤ds.getD j 0+1
theorem Qka {i:Nat} {rows:List (List (List Int))}:∀ {j:Nat} {r:List (List Int)},j≤rows.length->r∈O8 i rows j->∃ q∈rows,r=q.drop 1
 | 0,r,_,h=>by simp [O8] at h
 |
  j+1,r,hj,h=>by
  simp only [O8] at h
  split at h
  ·exact Qka (by omega) h
  ·rcases Qt.1 h with h | h
   ·exact Qka (by omega) h
   ·rw [Qj.1 h];exact ⟨rows.getD j [],Qa (i:=j) (by rw [Qf,Qe (by omega)]; rfl),rfl⟩
theorem Qj9 {i:Nat} {rows:List (List (List Int))}:∀ (j:Nat),(O8 i rows j).length=if i<j then j-1 else j
 | 0=>rfl
 |
  j+1=>by
  have ih:=Qj9 (i:=i) (rows:=rows) j;simp only [O8]
  split
  ·rename_i e; subst e; rw [ih,if_neg (by omega),if_pos (by omega)]; omega
  ·rw [Q5,ih,Yy]
   split <;> split <;> omega
theorem Sq.min {s d k w:Nat} {ds:List Nat} {rows:List (List (List Int))} (h:Sq s (d::ds) (k+1) (w+1) rows) {i:Nat} (hi:i<k+1):Sq s ds k w (Qbs rows i):=by
 have hl:=h.l;have hm:∀ {r:List (List Int)},r∈Qbs rows i->∃ q∈rows,r=q.drop 1:=λh=>Qka (Qi _) h
 refine ⟨by unfold Qbs; rw [Qj9,hl,if_pos hi]; omega,λr hr=>?_,λr hr p hp=>?_,λr hr p hp=>?_,λr hr j p hp=>?_⟩
 ·obtain ⟨q,hq,rfl⟩:=hm hr;rw [Xt,h.w q hq]; omega
 all_goals obtain ⟨q,hq,rfl⟩:=hm hr
 ·exact h.t q hq p (Ze hp)
 ·exact h.b q hq p (Ze hp)
 ·rw [Xe] at hp;have:=h.n q hq (1+j) p hp;rw [Jm 1 j] at this;exact this
theorem Sq.at {s d k w:Nat} {ds:List Nat} {rows:List (List (List Int))} (h:Sq s (d::ds) k (w+1) rows) {i:Nat} (hi:i<k):∃ p r,rows[i]? = some (p::r)/\(rows.getD i []).getD 0 []=p/\U3 p/\Bd s p/\p.length<=d+1:=by
 obtain ⟨r,hr⟩:=gxE (l:=rows) (i:=i) (by rw [h.l]; exact hi);have hm:=Qa hr;cases r with
 | nil=>have:=h.w _ hm; simp at this
 |
  cons p r =>
  have e:rows.getD i []=p::r:=by rw [Qf,hr]; rfl
  refine ⟨p,r,hr,by rw [e]; rfl,h.t _ hm p (by simp),h.b _ hm p (by simp),h.n _ hm 0 p rfl⟩
theorem Qoz {s d k w:Nat} {ds:List Nat} {f:Nat->List Int} {rows:List (List (List Int))} {B L:Nat} (h:Sq s (d::ds) k (w+1) rows) (hn:d<31) (hf:∀ i,i<k->Bd B (f i)/\(f i).length<=L+1):∀ i,i<=k->U3 (Nk f rows i)/\Bd (s+B+5+i) (Nk f rows i)/\(Nk f rows i).length<=d+L+1
 | 0,_=>⟨rfl,λz hz=>(by cases hz),Qg _⟩
 |
  i+1,hi=>by
  obtain ⟨h1,h2,h3⟩:=Qoz h hn hf i (by omega);obtain ⟨p,r,_,e,t,b,l⟩:=h.at (i:=i) (by omega);obtain ⟨f1,f2⟩:=hf i (by omega);have hp1:Bd (s+B+5) (Fu p (f i)):=Qc2 b f1 (by omega);have hp2:=O5 p (f i);simp only [Nk];rw [e]
  split
  ·exact ⟨h1,Uv h2 (by omega),h3⟩
  ·split
   ·exact ⟨Fl _ _,Uv (Qob h2 hp1) (by omega),Qd (Qj6 _ _) (by omega)⟩
   ·exact ⟨Fl _ _,Uv (A1 h2 hp1) (by omega),Qd (Lh _ _) (by omega)⟩
theorem Qh6 {s:Nat}:∀ (k:Nat) (ds:List Nat) (rows:List (List (List Int))),k<=4->ds.length=k->ds.sum<31->Sq s ds k k rows->U3 (Co k rows)/\Bd (k*(s+10)+1) (Co k rows)/\(Co k rows).length<=ds.sum+1
 | 0,ds,rows,_,_,_,_=>⟨rfl,λz hz=>(by simp [Co] at hz; subst hz; rw [Ya]; decide),by simp [Co]⟩
 | k+1,[],rows,_,hl,_,_=>by simp at hl
 |
  k+1,d::ds,rows,hk,hl,hd,h=>by
  rw [Kc] at hd;have ih:=λi (hi:i<k+1)=>Qh6 k ds (Qbs rows i) (by omega) (by simpa using hl) (by omega) (h.min hi)
  obtain ⟨h1,h2,h3⟩:=Qoz (f:=λi=>Co k (Qbs rows i)) (B:=k*(s+10)+1) (L:=ds.sum) h (by omega) (λi hi=>⟨(ih i hi).2.1,(ih i hi).2.2⟩) (k+1) (Qi _);have e1:(k+1)*(s+10)=k*(s+10)+(s+10):=Xh ..;rw [Kc];exact ⟨h1,Uv h2 (by omega),h3⟩
def M6 (a b c:Crv):List (List (List Int)):=[[a.x,a.y,[a.d]],[b.x,b.y,[b.d]],[c.x,c.y,[c.d]]]
def Hp (a b c:Crv):List Int:=Co 3 (M6 a b c)
end Orr
namespace Orr
open Go Go.Proofs Orq
set_option maxRecDepth 10000
theorem gz {P:Program} [Mo P] {n:Nat} {Q:Exit->Sg->List OB->Prop} {L L':Sg} {B B':List OB} (i:Nat) {it:List It} (hs:Ta it=true) (h:Q3k [i] L B=some (L',B')) (k:AK P n Q it L' B'):AK P n Q it L B:=AK.sub (Qd8 h) hs k
theorem Qkx {r:List (List Int)} {i:Nat} {p:List Int} (h:r[i]? = some p):(Qbu r)[i]? = some [pl p]:=Ho h
theorem Dz {l:List (List (List Int))} {i:Nat} {r:List (List Int)} (h:l[i]? = some r):(Eb l)[i]? = some [.row (Qbu r)]:=Ho h
theorem Zg4 {r:List (List Int)} (ht:∀ p∈r,U3 p) (hb:∀ p∈r,Bd 1000000 p) (hl:∀ p∈r,p.length≤1000000) (hn:r.length≤1000):Uw Tryz.prog 281 [.one (.row (Qbu r))] [.one (.row (Qbu r))]:=by
 have hrl:(Qbu r).length=r.length:=by simp
 refine Hn Tryz.func281 rfl ?_;refine go tt [.o 3 48 1] rfl trivial ?_;refine lp (S:=Nat) 1 (λL1 i=>(8,.v (.one (.int .i64 (i:Int))))::(3,.v (.one (.orow 0 1 none)))::L1) (λi=>[.row false 48 1 (Qbu (r.take i))]) (λi=>r.length-i) (λi=>i<=r.length) 0 (Qg _) rfl (λ_ _=>rfl) rfl λi hi=>?_
 by_cases h:i<r.length
 ·obtain ⟨p,hp⟩:=gxE (l:=r) (i:=i) h;have hm:=Qa hp;have hs:∀ y∈[[pl p]],y.length=1:=λy hy=>by rw [Qj.1 hy]; rfl
  have e:Qbu (r.take (i+1))=Qbu (r.take i)++[[pl p]]:=by rw [Zw,hp]; simp
  refine go tt [.t (decide_eq_true (by omega)),.x (Qkx hp),.c [] (Rk (ht p hm) (by have:=hl p hm; omega) (Uv (hb p hm) (by decide))),.s (sz:=1) hs] rfl (by simp [Uu] <;> omega) ?_;exact rd (i+1) (by omega) h (by rw [e]; rfl)
 ·obtain rfl:i=r.length:=by omega
  rw [Q0];exact en tt [.f (decide_eq_false (by omega))] rfl rfl trivial
theorem Zks {s k w:Nat} {ds:List Nat} {rows:List (List (List Int))} (h:Sq s ds k k rows) (_hw:w=k) (hk:k<=4):Uw Tryz.prog 312 [.one (.row (Eb rows))] [.one (.bool true)]:=by
 have hrl:=Qbc rows;have hl:=h.l;refine Hn Tryz.func312 rfl ?_;refine go tt [] rfl trivial ?_;refine lp (S:=Nat) 0 (λL1 i=>(7,.v (.one (.int .i64 (i:Int))))::L1) (λ_=>[]) (λi=>rows.length-i) (λi=>i<=rows.length) 0 (Qg _) rfl (λ_ _=>rfl) rfl λi hi=>?_
 by_cases hlt:i<rows.length
 ·obtain ⟨r,hr⟩:=gxE (l:=rows) (i:=i) hlt;have hw:=h.w r (Qa hr);have hql:(Qbu r).length=r.length:=by simp
  refine go tt [.t (decide_eq_true (by omega)),.x (Dz hr),.f (decide_eq_false (λh=>h (by omega)))] rfl (by simp [Uu] <;> omega) ?_;exact rd (i+1) (by omega) hlt rfl
 ·exact en tt [.f (decide_eq_false (by omega))] rfl (by rw [decide_eq_true (by omega:((Eb rows).length:Int)<=4)]) trivial
theorem Zb4 {s k w:Nat} {ds:List Nat} {rows:List (List (List Int))} (h:Sq s ds k w rows) (hs:s<=1000000) (hk:k<=4) (hw:w<=4) (hd:∀ j,ds.getD j 0<=1000) (i:Nat):Uw Tryz.prog 336 [.one (.int .i64 (i:Int)),.one (.int .i64 0),.one (.row (Eb rows))] [.one (.row (Eb (Qbs rows i)))]:=by
 have hrl:=Qbc rows;have hl:=h.l;have hml:∀ j,j<=rows.length->(Eb (O8 i rows j)).length<=4:=λj hj=>by
  rw [Qbc,Qj9]; split <;> omega
 refine Hn Tryz.func336 rfl ?_;refine go tt [.o 7 287 1] rfl trivial ?_;refine lp (S:=Nat) 1 (λL1 j=>(15,.v (.one (.int .i64 (j:Int))))::(7,.v (.one (.orow 0 1 none)))::L1) (λj=>[.row false 287 1 (Eb (O8 i rows j))]) (λj=>rows.length-j) (λj=>j<=rows.length) 0 (Qg _) rfl (λ_ _=>rfl) rfl λj hj=>?_
 have hmlj:=hml j hj;by_cases hlt:j<rows.length
 ·obtain ⟨r,hr⟩:=gxE (l:=rows) (i:=j) hlt;have hm:=Qa hr;have hw:=h.w r hm;have hql:(Qbu r).length=r.length:=by simp
  by_cases hij:j=i
  ·have e:O8 i rows (j+1)=O8 i rows j:=by simp only [O8]; rw [if_pos hij]
   refine go tt [.t (decide_eq_true (by omega)),.x (Dz hr),.t (decide_eq_true (by omega))] rfl (by simp [Uu] <;> omega) ?_;exact rd (j+1) (by omega) hlt (by rw [e]; rfl)
  ·have e:O8 i rows (j+1)=O8 i rows j++[r.drop 1]:=by
    simp only [O8]; rw [if_neg hij,Qf,hr]; rfl
   refine go tt [.t (decide_eq_true (by omega)),.x (Dz hr),.f (decide_eq_false (by omega)),.o 10 48 1] rfl (by simp [Uu]) ?_;refine lp (S:=Nat) 2 (λL1 c=>(25,.v (.one (.int .i64 (c:Int))))::(10,.v (.one (.orow 1 1 none)))::L1) (λc=>[.row false 287 1 (Eb (O8 i rows j)),.row false 48 1 (Qbu ((r.take c).drop 1))]) (λc=>r.length-c) (λc=>c<=r.length) 0 (Qg _) rfl (λ_ _=>rfl) rfl λc hc=>?_
   by_cases hcl:c<r.length
   ·obtain ⟨p,hp⟩:=gxE (l:=r) (i:=c) hcl;have hpm:=Qa hp;by_cases h0:c=0
    ·subst h0;refine go tt [.t (decide_eq_true (by omega)),.x (Qkx hp),.f (decide_eq_false (by simp))] rfl (by simp [Uu]) ?_;exact rd 1 (by omega) hcl (by rw [Zw,hp]; rfl)
    ·have hs1:∀ y∈[[pl p]],y.length=1:=λy hy=>by rw [Qj.1 hy]; rfl
     have e2:Qbu ((r.take (c+1)).drop 1)=Qbu ((r.take c).drop 1)++[[pl p]]:=by
      rw [Zw,hp,Vv (by rw [Qr]; omega)]; simp
     refine go tt [.t (decide_eq_true (by omega)),.x (Qkx hp),.t (decide_eq_true (by omega)),.c [] (Rk (h.t r hm p hpm) (by have:=h.n r hm c p hp; have:=hd c; omega) (Uv (h.b r hm p hpm) (by omega))),.s (sz:=1) hs1] rfl (by simp [Uu] <;> omega) ?_;exact rd (c+1) (by omega) hcl (by rw [e2]; rfl)
   ·obtain rfl:c=r.length:=by omega
    rw [Q0];have hs1:∀ y∈[[LV.row (Qbu (r.drop 1))]],y.length=1:=λy hy=>by rw [Qj.1 hy]; rfl
    refine go tt [.f (decide_eq_false (by omega))] rfl trivial ?_;refine gz 1 rfl rfl ?_;refine go tt [.s (sz:=1) hs1] rfl (by simp [Uu] <;> omega) ?_;exact rd (j+1) (by omega) hlt (by rw [e]; simp [Eb]; rfl)
 ·obtain rfl:j=rows.length:=by omega
  exact en tt [.f (decide_eq_false (by omega))] rfl rfl trivial
theorem Qgn:∀ (ds:List Nat) (j:Nat),ds.getD j 0<=ds.sum
 | [],j=>by simp
 | d::ds,0=>by simp
 |
  d::ds,j+1=>by
  have:=Qgn ds j;rw [Kc];show ds.getD j 0<=_;omega
theorem Zft {s:Nat} (hs:s<=100000):∀ (k:Nat) (ds:List Nat) (rows:List (List (List Int))),k<=4->ds.length=k->ds.sum<31->Sq s ds k k rows->Uw Tryz.prog 313 [.one (.row (Eb rows))] [pr (Co k rows)]
 |
  0,ds,rows,_,_,_,h=>by
  have e:=Qh h.l;subst e;have co:=Q46 (p:=[1]) (by decide) (by decide);exact w tt Tryz.func313 rfl [.t rfl,.c [] co] rfl rfl trivial
 | k+1,[],_,_,hl,_,_=>by simp at hl
 |
  k+1,d::ds,rows,hk,hl,hd,h=>by
  rw [Kc] at hd;have hl':ds.length=k:=by simpa using hl
  have hrl:=Qbc rows;have hrn:=h.l;have hmin:=λi (hi:i<k+1)=>h.min hi
  have ih:=λi (hi:i<k+1)=>Zft hs k ds (Qbs rows i) (by omega) hl' (by omega) (hmin i hi)
  have hok:=λi (hi:i<k+1)=>Qh6 k ds (Qbs rows i) (by omega) hl' (by omega) (hmin i hi)
  have hb:k*(s+10)+1<=500000:=by
   have:k*(s+10)<=4*(100010):=Zr (by omega) (by omega);omega
  have hds:=Qoz (f:=λi=>Co k (Qbs rows i)) (B:=k*(s+10)+1) (L:=ds.sum) h (by omega) (λi hi=>⟨(hok i hi).2.1,(hok i hi).2.2⟩);have cm:=Zb4 h (by omega) hk hk (λj=>by have:=Qgn (d::ds) j; rw [Kc] at this; omega);show Uw Tryz.prog 313 [.one (.row (Eb rows))] [pr (Nk (λi=>Co k (Qbs rows i)) rows (k+1))];obtain ⟨f,hf⟩:=nmE (λi=>Co k (Qbs rows i));rw [<-hf] at hds ⊢;have hfi:∀ i,f i=Co k (Qbs rows i):=λi=>by rw [hf]
  refine Hn Tryz.func313 rfl ?_;refine go tt [.f (decide_eq_false (by omega)),.z 3] rfl trivial ?_;refine lp (S:=Nat) 0 (λL1 i=>(14,.v (.one (.int .i64 (i:Int))))::(3,.v (pr (Nk f rows i)))::L1) (λ_=>[]) (λi=>k+1-i) (λi=>i<=k+1) 0 (Qg _) rfl (λ_ _=>rfl) rfl λi hi=>?_
  obtain ⟨d1,d2,d3⟩:=hds i hi;by_cases hlt:i<k+1
  ·obtain ⟨p,r,hr,e,t,b,l⟩:=h.at hlt;have hx0:(Qbu (p::r))[0]? = some [pl p]:=rfl;have Dv:(p.map Hg).length=p.length:=by simp
   have cn:=Rk t (by omega) (Uv b (by omega));by_cases h0:p.length=0
   ·have es:Nk f rows (i+1)=Nk f rows i:=by simp only [Nk]; rw [e,if_pos h0]
    refine go tt [.t (decide_eq_true (by omega)),.x (Dz hr),.x hx0,.c [] cn,.t (decide_eq_true (by omega))] rfl (by simp [Uu] <;> omega) ?_;exact rd (i+1) (by omega) hlt (by rw [es]; rfl)
   ·obtain ⟨k1,k2,k3⟩:=hok i hlt;have ci:=ih i hlt;have cp:=Zg9 (p:=p) (q:=f i) t (by rw [hfi]; exact k1) (by omega) (by rw [hfi]; omega) b (by rw [hfi]; exact k2) (by omega);have hmb:Bd (s+(k*(s+10)+1)+5) (Fu p (f i)):=Qc2 b (by rw [hfi]; exact k2) (by omega);have hml:=O5 p (f i);have hfl:(f i).length<=ds.sum+1:=by rw [hfi]; exact k3
    rw [<-hfi] at ci;by_cases h2:i % 2=0
    ·have es:Nk f rows (i+1)=Bv (Nk f rows i) (Fu p (f i)):=by simp only [Nk]; rw [e,if_neg h0,if_pos h2]
     refine go tt [.t (decide_eq_true (by omega)),.x (Dz hr),.x hx0,.c [] cn,.f (decide_eq_false (by omega)),.x hx0,.c [] (cm i),.c [] ci,.c [] cp,.r 34 (eI (b:=((i % 2:Nat):Int)) rfl),.t (decide_eq_true (by omega)),.c [] (Q42 (p:=Nk f rows i) (q:=Fu p (f i)) (by omega) (by omega) (Uv d2 (by omega)) (Uv hmb (by omega)))] rfl (by simp [Uu] <;> omega) ?_;exact rd (i+1) (by omega) hlt (by rw [es]; rfl)
    ·have es:Nk f rows (i+1)=Po (Nk f rows i) (Fu p (f i)):=by simp only [Nk]; rw [e,if_neg h0,if_neg h2]
     refine go tt [.t (decide_eq_true (by omega)),.x (Dz hr),.x hx0,.c [] cn,.f (decide_eq_false (by omega)),.x hx0,.c [] (cm i),.c [] ci,.c [] cp,.r 34 (eI (b:=((i % 2:Nat):Int)) rfl),.f (decide_eq_false (by omega)),.c [] (Qis (p:=Nk f rows i) (q:=Fu p (f i)) (by omega) (by omega) (Uv d2 (by omega)) (Uv hmb (by omega)))] rfl (by simp [Uu] <;> omega) ?_;exact rd (i+1) (by omega) hlt (by rw [es]; rfl)
  ·obtain rfl:i=k+1:=by omega
   exact en tt [.f (decide_eq_false (by omega))] rfl rfl trivial
theorem Zkd {s:Nat} (hs:s<=100000) {k:Nat} {ds:List Nat} {rows:List (List (List Int))} (hk:k<=4) (hl:ds.length=k) (hd:ds.sum<31) (h:Sq s ds k k rows):Uw Tryz.prog 282 [.one (.row (Eb rows))] [pr (Co k rows),.one (.int .i64 0)] :=
 w tt Tryz.func282 rfl [.c [] (Zks h rfl hk),.f rfl,.c [] (Zft hs k ds rows hk hl hd h)] rfl rfl trivial
theorem Qvf {k:Crv} (hk:Sc k):Uw Tryz.prog 280 [.agg (cl k)] [.one (.row (Qbu [k.x,k.y,[k.d]]))]:=by
 have h0:k.d≠0:=by have:=hk.n.2.2.1; omega
 have td:U3 [k.d]:=by unfold U3; simp [trim,h0]
 have cd:=Zg4 (r:=[k.x,k.y,[k.d]]) (λp hp=>by
  rcases Qq.1 hp with rfl | hp
  ·exact hk.n.1
  rcases Qq.1 hp with rfl | hp
  ·exact hk.n.2.1
  ·rw [Qj.1 hp]; exact td) (λp hp=>by
  rcases Qq.1 hp with rfl | hp
  ·exact Uv hk.c.x (by decide)
  rcases Qq.1 hp with rfl | hp
  ·exact Uv hk.c.y (by decide)
  ·rw [Qj.1 hp];intro z hz; rw [Qj.1 hz]; exact Qd hk.c.d (by decide)) (λp hp=>by
  rcases Qq.1 hp with rfl | hp
  ·have:=hk.c.lx; omega
  rcases Qq.1 hp with rfl | hp
  ·have:=hk.c.ly; omega
  ·rw [Qj.1 hp]; show 1<=1000000; decide) (by show 3<=1000; decide)
 exact w tt Tryz.func280 rfl [.c [] (Qc9 hk.n (hk.c.mono (by decide) (by decide))),.c [] cd] rfl rfl trivial
theorem Qt4 {a b c:Crv} (ha:Sc a) (hb:Sc b) (hc:Sc c):Sq 90 [2,2,0] 3 3 (M6 a b c):=by
 have key:∀ k:Crv,Sc k->(∀ p∈[k.x,k.y,[k.d]],U3 p/\Bd 90 p)/\∀ (j:Nat) (p:List Int),[k.x,k.y,[k.d]][j]? = some p->p.length≤[2,2,0].getD j 0+1:=λk hk=>by
  have h0:k.d≠0:=by have:=hk.n.2.2.1; omega
  have td:U3 [k.d]:=by unfold U3; simp [trim,h0]
  refine ⟨λp hp=>?_,λj p hp=>?_⟩
  ·rcases Qq.1 hp with rfl | hp
   ·exact ⟨hk.n.1,hk.c.x⟩
   rcases Qq.1 hp with rfl | hp
   ·exact ⟨hk.n.2.1,hk.c.y⟩
   ·rw [Qj.1 hp];exact ⟨td,λz hz=>by rw [Qj.1 hz]; exact hk.c.d⟩
  ·match j,hp with
   | 0,hp=>injection hp with hp; subst hp; exact hk.c.lx
   | 1,hp=>injection hp with hp; subst hp; exact hk.c.ly
   | 2,hp=>injection hp with hp; subst hp; exact Qi _
   | j+3,hp=>simp at hp
 have hr:∀ r∈M6 a b c,∃ k:Crv,Sc k/\r=[k.x,k.y,[k.d]]:=λr hr=>by
  rcases Qq.1 hr with rfl | hr
  ·exact ⟨a,ha,rfl⟩
  rcases Qq.1 hr with rfl | hr
  ·exact ⟨b,hb,rfl⟩
  ·rw [Qj.1 hr]; exact ⟨c,hc,rfl⟩
 refine ⟨rfl,λr h=>?_,λr h p hp=>?_,λr h p hp=>?_,λr h j p hp=>?_⟩
 all_goals obtain ⟨k,hk,rfl⟩:=hr r h
 ·rfl
 ·exact ((key k hk).1 p hp).1
 ·exact ((key k hk).1 p hp).2
 ·exact (key k hk).2 j p hp
theorem Qe9 {a b c:Crv} (ha:Sc a) (hb:Sc b) (hc:Sc c):Cp (Hp a b c):=by
 obtain ⟨h1,h2,h3⟩:=Qh6 3 [2,2,0] (M6 a b c) (by decide) rfl (by decide) (Qt4 ha hb hc);exact ⟨h1,Qd h3 (by decide),Uv h2 (by decide)⟩
theorem Qrk {a b c:Crv} (ha:Sc a) (hb:Sc b) (hc:Sc c):Uw Tryz.prog 237 [.agg (cl a),.agg (cl b),.agg (cl c)] [pr (Hp a b c)]:=by
 have cd:=Zkd (by decide) (k:=3) (ds:=[2,2,0]) (by decide) rfl (by decide) (Qt4 ha hb hc);exact w tt Tryz.func237 rfl [.c [] (Qvf ha),.c [] (Qvf hb),.c [] (Qvf hc),.c [] cd] rfl rfl trivial
end Orr
