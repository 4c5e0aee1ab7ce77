/- R5 R6 RefGL R7 RatOkL R8 R9 RefCL R10 RawL NewsL KGoL SortQ BegL R11 R12 R13 R14 R15 R16 R17 R18 R19 -/
import Derived.Test.YtkkhemmhhedniaaGreatPart05
import Derived.Test.YtkkhemmhhedniaaGreatPart07
import Derived.Test.YtkkhemmhhedniaaGreatPart00
set_option linter.all false
namespace Orr
open Go Go.Proofs
set_option maxRecDepth 10000
def frow (p:List Rat):List (List LV):=p.map fr
theorem Rr (p:List Rat):(frow p).length=p.length:=by simp [frow]
theorem De {p:List Rat} {i:Nat} {q:Rat} (h:p[i]? = some q):(frow p)[i]? = some (fr q):=Ga h
theorem Qla (p:List Rat) (q:Rat):frow (p++[q])=frow p++[fr q]:=by simp [frow]
theorem Qd7 (p:List Rat):∀ c∈frow p,c.length=4:=λc hc=>by obtain ⟨x,_,rfl⟩:=Zg.1 hc; rfl
abbrev rp (p:List Rat):LV:=.row (frow p)
theorem Quz (q:Rat):∀ c∈[fr q],c.length=4:=λc hc=>by rw [Qp.1 hc]; rfl
theorem Q3o:Ub Tryz.prog 204 [] [.agg (fr 0)]:=w tt Tryz.func204 rfl [.c [] (Qhi (n:=0) (by decide))] rfl rfl trivial
theorem Iq {p:List Rat}:Ub Tryz.prog 87 [.one (rp p)] [.one (rp (Nm p))]:=by
 refine Gk Tryz.func87 rfl (ln 0 rfl rfl λhl=>?_);rw [Rr] at hl;have hpl:=Rr p;refine go tt [] rfl trivial ?_;refine lp (S:=Nat) 0 (λL1 n=>(3,.v (.one (.int .i64 (n:Int))))::L1) (λ_=>[]) id (λn=>n<=p.length/\∀ j x,n<=j->p[j]? = some x->x=0) (frow p).length ⟨by rw [hpl]; exact Qj _,λj x h1 h2=>by
  have:=(Qf.1 h2).1; rw [hpl] at h1; omega⟩ rfl (λ_ _=>rfl) rfl λn hs=>?_
 obtain ⟨h1,h2⟩:=hs;cases n with
 |
  zero =>
  have e:=Qez h1 (λj x h=>h2 j x h) (λh=>absurd h (by decide));exact en tt [.g 8 false (by simp),.f rfl,.i 0] rfl (by rw [e]; rfl) (by simp [Ua])
 |
  succ n =>
  obtain ⟨x,hx⟩:=gxE (l:=p) (i:=n) (by omega);have hn:=Rat.num_eq_zero (q:=x);by_cases h0:x=0
  ·refine go tt [.g 8 true (by simp),.r 11 (eI (b:=(n:Int)) (by simp)),.x (De hx),.c [] (P5 (z:=x.num)),.t (decide_eq_true (hn.2 h0)),.r 18 (eI (b:=(n:Int)) (by simp))] rfl (by simp [Ua]; omega) ?_;exact rd n (by simp) ⟨by omega,λj y h3 h4=>by
    rcases Y5 h3 with rfl | h3
    ·rw [hx] at h4; injection h4 with h4; rw [<-h4,h0]
    ·exact h2 j y h3 h4⟩ rfl
  ·have e:=Qez h1 (λj x h=>h2 j x h) (λ_=>⟨x,hx,h0⟩);exact en tt [.g 8 true (by simp),.r 11 (eI (b:=(n:Int)) (by simp)),.x (De hx),.c [] (P5 (z:=x.num)),.f (decide_eq_false λh=>h0 (hn.1 h)),.i (n+1)] rfl (by rw [e]; simp [rp,frow,Jo]) (by simp [Ua,hpl] <;> omega)
theorem Zeg {p:List Rat} {i:Nat} (hi:i<1099511627776):Ub Tryz.prog 205 [.one (rp p),.one (.int .i64 (i:Int))] [.agg (fr (p.getD i 0))]:=by
 have hpl:=Rr p;by_cases h:i<p.length
 ·have e:p.getD i 0=p[i]:=by rw [Qg,Qd h]; rfl
  rw [e];exact w tt Tryz.func205 rfl [.g 7 false (decide_eq_false (by omega)),.f (decide_eq_false (by omega)),.x (De (Qd h))] rfl rfl trivial
 ·have e:p.getD i 0=0:=by rw [Qg,Qr (by omega)]; rfl
  rw [e];exact w tt Tryz.func205 rfl [.g 7 false (decide_eq_false (by omega)),.t (decide_eq_true (by omega)),.c [] Q3o] rfl rfl trivial
theorem Q31:Ub Tryz.prog 140 [.one (ids [1])] [.one (rp (zp [1]))]:=by
 have cc:=Iq (p:=zp [1]);rw [Nf,show trim [1]=[1] from rfl] at cc;refine Gk Tryz.func140 rfl ?_;refine go tt [.o 3 35 4] rfl trivial ?_;refine lp (S:=Nat) 1 (λL1 i=>(7,.v (.one (.int .i64 (i:Int))))::(3,.v (.one (.orow 0 4 none)))::L1) (λi=>[.row false 35 4 (frow ((zp [1]).take i))]) (λi=>1-i) (λi=>i<=1) 0 (by decide) rfl (λ_ _=>rfl) rfl λi hi=>?_
 rcases (show i=0\/i=1 by omega) with rfl | rfl
 ·refine go tt [.t rfl,.x (l:=idl [1]) (i:=0) (xs:=[.int .i64 1]) rfl,.c [] (Qhi (n:=1) (by decide)),.s (sz:=4) (Quz _)] rfl (by simp [Ua,frow]) ?_;exact rd 1 (by omega) (by omega) rfl
 ·exact en tt [.f rfl,.c [] cc] rfl rfl trivial
theorem D4 {p:List Int} (hb:Bd 90000000 p) (hl:p.length<=1000000):Ub Tryz.prog 23 [pr p] [.one (rp (zp (trim p)))]:=by
 have hpl:(p.map Gb).length=p.length:=by simp
 have cc:=Iq (p:=zp p);rw [Nf] at cc;show Ub Tryz.prog 23 [.one (.row (p.map Gb))] _;refine Gk Tryz.func23 rfl ?_;refine go tt [.o 3 35 4] rfl trivial ?_;refine lp (S:=Nat) 1 (λL1 i=>(7,.v (.one (.int .i64 (i:Int))))::(3,.v (.one (.orow 0 4 none)))::L1) (λi=>[.row false 35 4 (frow (zp (p.take i)))]) (λi=>p.length-i) (λi=>i<=p.length) 0 (Qi _) rfl (λ_ _=>rfl) rfl λi hi=>?_
 have hol:(frow (zp (p.take i))).length=i:=by rw [Rr,Si,Qq]; omega
 by_cases h:i<p.length
 ·obtain ⟨z,hz⟩:=gxE (l:=p) (i:=i) h;have hzb:=hb z (Qc hz);have hg:frow (zp (p.take (i+1)))=frow (zp (p.take i))++[fr (z:Rat)]:=by
   rw [Xa,hz]; simp [frow,zp]
  refine go tt [.t (decide_eq_true (by omega)),.x (Ga (f:=Gb) hz),.c [] (Qdv (z:=z) (by omega)),.c [] (Ca (n:=1) (by decide)),.c [] (Pv (n:=z)),.s (sz:=4) (Quz _)] rfl (by simp [Ua,hol,-List.getD_eq_getElem?_getD]; omega) ?_;exact rd (i+1) (by omega) h (by rw [hg]; rfl)
 ·have e:i=p.length:=by omega
  rw [e,Za];exact en tt [.f (decide_eq_false (by omega)),.c [] cc] rfl rfl trivial
theorem Zef {p:List Int} (hb:Bd 90000000 p) (hl:p.length<=1000000):Ub Tryz.prog 289 [.one (rp (zp p))] [pr p]:=by
 have hpl:(frow (zp p)).length=p.length:=by rw [Rr,Si]
 show Ub Tryz.prog 289 [.one (rp (zp p))] [.one (.row (p.map Gb))];refine Gk Tryz.func289 rfl ?_;refine go tt [.o 3 51 2] rfl trivial ?_;refine lp (S:=Nat) 1 (λL1 i=>(7,.v (.one (.int .i64 (i:Int))))::(3,.v (.one (.orow 0 2 none)))::L1) (λi=>[.row false 51 2 ((p.take i).map Gb)]) (λi=>p.length-i) (λi=>i<=p.length) 0 (Qi _) rfl (λ_ _=>rfl) rfl λi hi=>?_
 have hol:((p.take i).map Gb).length=i:=by rw [Zd,Qq]; omega
 by_cases h:i<p.length
 ·obtain ⟨z,hz⟩:=gxE (l:=p) (i:=i) h;have hzb:=hb z (Qc hz);have hq:∀ c∈[Gb z],c.length=2:=λc hc=>by rw [Qp.1 hc]; rfl
  have hg:(p.take (i+1)).map Gb=(p.take i).map Gb++[Gb z]:=by
   rw [Xa,hz]; simp
  refine go tt [.t (decide_eq_true (by omega)),.x (De (Q9e hz)),.c [] (Q3h (z:=z) (by omega)),.s (sz:=2) hq] rfl (by simp [Ua]; omega) ?_;exact rd (i+1) (by omega) h (by rw [hg]; rfl)
 ·have e:i=p.length:=by omega
  rw [e,Za];exact en tt [.f (decide_eq_false (by omega))] rfl rfl trivial
theorem Q3z {p q:List Rat} (hp:Rb 20000000 p) (hq:Rb 20000000 q) (hlp:p.length<=1000000) (hlq:q.length<=1000000):Ub Tryz.prog 143 [.one (rp p),.one (rp q)] [.one (rp (Q1i p q))]:=by
 have h1:=Rr p;have h2:=Rr q;obtain ⟨M,hM⟩:=nmE (max p.length q.length);have cc:=Iq (p:=Ig (λi=>p.getD i 0+q.getD i 0) M);unfold Q1i;rw [<-hM];refine Gk Tryz.func143 rfl ?_;refine go tt [.o 5 35 4] rfl trivial ?_;refine lp (S:=Nat) 1 (λL1 i=>(6,.v (.one (.int .i64 (i:Int))))::(5,.v (.one (.orow 0 4 none)))::L1) (λi=>[.row false 35 4 (frow (Ig (λi=>p.getD i 0+q.getD i 0) i))]) (λi=>M-i) (λi=>i<=M) 0 (Qi _) rfl (λ_ _=>rfl) rfl λi hi=>?_
 have hol:(frow (Ig (λi=>p.getD i 0+q.getD i 0) i)).length=i:=by rw [Rr,Qdb]
 by_cases h:i<M
 ·refine go tt [.r 12 (eI (b:=(M:Int)) (by omega)),.t (decide_eq_true (by omega)),.c [] (Zeg (p:=p) (i:=i) (by omega)),.c [] (Zeg (p:=q) (i:=i) (by omega)),.c [] (Qtg (hp.getD (by decide) i) (hq.getD (by decide) i)),.s (sz:=4) (Quz _)] rfl (by simp [Ua,hol,-List.getD_eq_getElem?_getD]; omega) ?_;exact rd (i+1) (by omega) h (by rw [Qme,Qla]; rfl)
 ·have e:i=M:=by omega
  rw [e];exact en tt [.r 12 (eI (b:=(M:Int)) (by omega)),.f (decide_eq_false (by omega)),.c [] cc] rfl rfl trivial
theorem Ec {p:List Rat} {c:Rat} (hp:Rb 40000000 p) (hc:Qs 40000000 c) (hlp:p.length<=1000000):Ub Tryz.prog 203 [.one (rp p),.agg (fr c)] [.one (rp (Pp p c))]:=by
 have h1:=Rr p;have cc:=Iq (p:=Ig (λi=>p.getD i 0*c) p.length);unfold Pp;refine Gk Tryz.func203 rfl ?_;refine go tt [.o 5 35 4] rfl trivial ?_;refine lp (S:=Nat) 2 (λL1 i=>(9,.v (.one (.int .i64 (i:Int))))::(5,.v (.one (.orow 1 4 none)))::L1) (λi=>[.blk 35 (fr c),.row false 35 4 (frow (Ig (λi=>p.getD i 0*c) i))]) (λi=>p.length-i) (λi=>i<=p.length) 0 (Qi _) rfl (λ_ _=>rfl) rfl λi hi=>?_
 have hol:(frow (Ig (λi=>p.getD i 0*c) i)).length=i:=by rw [Rr,Qdb]
 by_cases h:i<p.length
 ·have hg:p[i]? = some (p.getD i 0):=by rw [Qg,Qd h]; rfl
  refine go tt [.t (decide_eq_true (by omega)),.x (De hg),.c [] (Qtk (hp.getD (by decide) i) hc),.s (sz:=4) (Quz _)] rfl (by simp [Ua,hol,-List.getD_eq_getElem?_getD]; omega) ?_;exact rd (i+1) (by omega) h (by rw [Qme,Qla]; rfl)
 ·have e:i=p.length:=by omega
  rw [e];exact en tt [.f (decide_eq_false (by omega)),.c [] cc] rfl rfl trivial
theorem Qtx {p:List Rat} (hp:Rb 40000000 p) (hlp:p.length<=1000000):Ub Tryz.prog 137 [.one (rp p)] [.one (rp (Qor p))]:=by
 have cs:=Ec (p:=p) (c:=-1) hp ⟨by decide,by decide⟩ hlp;have co:=Qhi (n:=-1) (by decide);rw [show ((-1:Int):Rat)=-1 from rfl] at co;exact w tt Tryz.func137 rfl [.c [] co,.c [] cs] rfl rfl trivial
theorem Zcw {s t:Nat} {a b:Rat} (ha:Qs s a) (hb:Qs t b):Qs (s+t+1) (a*b):=by
 rw [<-Qln];unfold Ft;rw [if_neg (Jh (Ma a) (Ma b))];have h1:=Uv a.num b.num;have h2:=Uv (a.den:Int) (b.den:Int);have:=ha.1; have:=ha.2; have:=hb.1; have:=hb.2;exact Qs.divInt (by omega) (by omega) (by omega)
theorem Q7m {s:Nat} {p:List Rat} (hp:Rb s p):Rb (s+2) (Qor p):=by
 unfold Qor Pp;refine Rb.trim (Zdp λi hi=>?_);have h1:Qs (s+0) (p.getD i 0):=by
  have hi:i<p.length:=hi;rw [Qg,Qd hi];exact hp _ (Xv hi)
 have:=Zcw h1 (show Qs 1 (-1:Rat) from ⟨by decide,by decide⟩);exact this.mono (by omega)
theorem Qse (p:List Rat):(Qor p).length<=p.length:=by
 unfold Qor Pp;exact Qa (Ql8 _) (by rw [Qdb]; exact Qj _)
theorem Zf3 {p q:List Rat} (hp:Rb 19000000 p) (hq:Rb 19000000 q) (hlp:p.length<=1000000) (hlq:q.length<=1000000):Ub Tryz.prog 144 [.one (rp p),.one (rp q)] [.one (rp (Q71 p q))] :=
 w tt Tryz.func144 rfl [.c [] (Qtx (hq.mono (by decide)) hlq),.c [] (Q3z (hp.mono (by decide)) ((Q7m hq).mono (by decide)) hlp (Qa (Qse q) hlq))] rfl rfl trivial
theorem Q21 {a b:Int} (ha:Ul a<=40000000) (hb:Ul b<=40000000):Ub Tryz.prog 139 [.agg (fr (a:Rat)),.agg (fr (b:Rat))] [.agg (fr ((a*b:Int):Rat))]:=by
 have h:=Qtk (B7 ha (by decide)) (B7 hb (by decide));rw [<-Xz] at h; exact h
theorem Zfp {a b:Int} (ha:Ul a<=20000000) (hb:Ul b<=20000000):Ub Tryz.prog 169 [.agg (fr (a:Rat)),.agg (fr (b:Rat))] [.agg (fr ((a+b:Int):Rat))]:=by
 have h:=Qtg (B7 ha (by decide)) (B7 hb (by decide));rw [<-V6] at h; exact h
theorem Qqr (l:List Int) (i:Nat) (z:Int):(frow (zp l)).set i (fr (z:Rat))=frow (zp (l.set i z)):=by simp [frow,zp,Vm]
theorem Q9f {p:List Int} {i:Nat} (h:i<p.length):(zp p)[i]? = some ((p.getD i 0:Int):Rat):=Q9e (Hl h)
theorem H5 {p:List Int} {i:Nat} (h:i<p.length):(frow (zp p))[i]? = some (fr ((p.getD i 0:Int):Rat)):=De (Q9f h)
theorem fzl (p:List Int):(frow (zp p)).length=p.length:=by rw [Rr,Si]
abbrev zR:List LV:=[.nils,.bool false,.nils,.bool false]
theorem Qnh {n i:Nat} (h:i<n):(List.replicate i (fr 0)++List.replicate (n-i) zR).set i (fr 0)=List.replicate (i+1) (fr 0)++List.replicate (n-(i+1)) zR:=by
 rw [List.set_append_right _ _ (by simp),X9,Ye,show n-i=n-(i+1)+1 by omega,J3 (n:=n-(i+1)),List.set_cons_zero,List.replicate_succ' (n:=i),Zy]; rfl
theorem Qju (n:Nat):List.replicate n (fr 0)++List.replicate (n-n) zR=frow (zp (List.replicate n 0)):=by simp [zp,frow]
theorem Q30 {p q:List Int} {s t:Nat} (hlp:p.length<=1000000) (hlq:q.length<=1000000) (hp:Bd s p) (hq:Bd t q) (hst:s+t<=19000000):Ub Tryz.prog 141 [.one (rp (zp p)),.one (rp (zp q))] [.one (rp (zp (Fv p q)))]:=by
 have hpl:=fzl p;have hql:=fzl q;rcases Qy p.length with h0 | h0
 ·have e:Fv p q=[]:=by unfold Fv; rw [if_pos (.inl h0)]
  rw [e];exact w tt Tryz.func141 rfl [.g 12 true (decide_eq_true (by omega)),.t rfl] rfl rfl trivial
 rcases Qy q.length with h1 | h1
 ·have e:Fv p q=[]:=by unfold Fv; rw [if_pos (.inr h1)]
  rw [e];exact w tt Tryz.func141 rfl [.g 12 false (decide_eq_false (by omega)),.t (decide_eq_true (by omega))] rfl rfl trivial
 have e:Fv p q=trim (My p q (List.replicate (p.length+q.length-1) 0) p.length):=by unfold Fv; rw [if_neg (by omega)]
 rw [e];obtain ⟨N,hN⟩:=nmE (p.length+q.length-1);rw [<-hN];obtain ⟨o,ho⟩:=nmE (List.replicate N (0:Int));rw [<-ho];have hol:o.length=N:=by rw [ho]; simp
 have ho0:∀ m,o.getD m 0=0:=λm=>by rw [ho]; exact Hm N m
 have cc:=Iq (p:=zp (My p q o p.length));rw [Nf] at cc;refine Gk Tryz.func141 rfl ?_;refine go tt [.g 12 false (decide_eq_false (by omega)),.f (decide_eq_false (by omega)),.r 22 (eI (b:=(N:Int)) (by omega)),.i N,.i N,.r 25 (eI (b:=(N:Int)) (by simp))] rfl (by simp [Ua]; omega) ?_;refine lp (S:=Nat) 1 (λL1 i=>(26,.v (.one (.int .i64 (i:Int))))::L1) (λi=>[.row false 35 4 (List.replicate i (fr 0)++List.replicate (N-i) zR)]) (λi=>N-i) (λi=>i<=N) 0 (Qi _) rfl (λ_ _=>rfl) rfl λi hi=>?_
 by_cases hlt:i<N
 ·refine go tt [.t (decide_eq_true (by omega)),.c [] Q3o,.i i] rfl (by simp [Ua]; omega) ?_;rw [Qnh hlt];exact rd (i+1) (by omega) hlt rfl
 have hiN:i=N:=by omega
 rw [hiN,Qju,<-ho];clear hiN hlt hi;refine go tt [.f (decide_eq_false (by omega))] rfl trivial ?_;refine lp (S:=Nat) 1 (λL1 i=>(36,.v (.one (.int .i64 (i:Int))))::L1) (λi=>[.row false 35 4 (frow (zp (My p q o i)))]) (λi=>p.length-i) (λi=>i<=p.length) 0 (Qi _) rfl (λ_ _=>rfl) rfl λi hi=>?_
 by_cases hlt:i<p.length
 ·refine go tt [.t (decide_eq_true (by omega))] rfl trivial ?_;refine lp (S:=Nat) 1 (λL1 k=>(41,.v (.one (.int .i64 (k:Int))))::L1) (λk=>[.row false 35 4 (frow (zp (Ej (p.getD i 0) q i (My p q o i) k)))]) (λk=>q.length-k) (λk=>k<=q.length) 0 (Qi _) rfl (λ_ _=>rfl) rfl λk hk=>?_
  by_cases hk2:k<q.length
  ·have hm1:Ul ((Ej (p.getD i 0) q i (My p q o i) k).getD (i+k) 0)<=20000000:=Qa (Lr (t:=39) (Qn3 (by rw [Mz]; omega) (Qn2 (λj hj=>by omega) ho0 (λi j=>Py (Um hp i) (Um hq j))) (λj=>Py (Um hp i) (Um hq j)) (i+k)) (V9 (show i+1<549755813888 by omega) (by decide))) (by omega);have hm2:Ul (p.getD i 0*q.getD k 0)<=20000000:=Qa (Uv _ _) (by have:=Um hp i; have:=Um hq k; omega);have hml:(Ej (p.getD i 0) q i (My p q o i) k).length=N:=by rw [Ek,Mz,hol]
   have cm:=Q21 (a:=p.getD i 0) (b:=q.getD k 0) (Qa (Um hp i) (by omega)) (Qa (Um hq k) (by omega));have hfl:=fzl (Ej (p.getD i 0) q i (My p q o i) k);refine go tt [.t (decide_eq_true (by omega)),.i (i+k),.x (H5 (p:=Ej (p.getD i 0) q i (My p q o i) k) (i:=i+k) (by omega)),.x (H5 hlt),.x (H5 hk2),.c [] cm,.c [] (Zfp hm1 hm2),.i (i+k)] rfl (by simp [Ua,hfl,-List.getD_eq_getElem?_getD] <;> omega) ?_;rw [Qqr];exact rd (k+1) (by omega) hk2 rfl
  ·obtain rfl:k=q.length:=by omega
   exact go tt [.f (decide_eq_false (by omega))] rfl (by simp [Ua]; omega) (rd (i+1) (by omega) hlt rfl)
 ·obtain rfl:i=p.length:=by omega
  exact en tt [.f (decide_eq_false (by omega)),.c [] cc] rfl rfl trivial
def Qql (p:List Int) (n:Nat):List Int:=(List.range n).map λk=>p.getD (k+1) 0*((k+1:Nat):Int)
theorem Q4z (p:List Int) (n:Nat):(Qql p n).length=n:=by simp [Qql]
theorem Q0m (p:List Int) (n:Nat):Qql p (n+1)=Qql p n++[p.getD (n+1) 0*((n+1:Nat):Int)]:=by simp [Qql,Ku]
theorem Qpi (p:List Int) (z:Int):frow (zp (p++[z]))=frow (zp p)++[fr (z:Rat)]:=by simp [frow,zp]
theorem Qtv {p:List Int} (hp:Bd 40000000 p) (hl:p.length<=1000000):Ub Tryz.prog 71 [.one (rp (zp p))] [.one (rp (zp (U3 p)))]:=by
 have hpl:=fzl p;have cc:=Iq (p:=zp (Qql p (p.length-1)));rw [Nf] at cc;refine Gk Tryz.func71 rfl ?_;refine go tt [.o 3 35 4] rfl trivial ?_;refine lp (S:=Nat) 1 (λL1 j=>(4,.v (.one (.int .i64 ((j+1:Nat):Int))))::(3,.v (.one (.orow 0 4 none)))::L1) (λj=>[.row false 35 4 (frow (zp (Qql p j)))]) (λj=>p.length-j) (λj=>j<=p.length-1) 0 (Qi _) rfl (λ_ _=>rfl) rfl λj hj=>?_
 have hfl:=fzl (Qql p j);rw [Q4z] at hfl;by_cases h:j+1<p.length
 ·have hk:Ul ((j+1:Nat):Int)<=40000000:=Qa (Qnr (t:=38) (k:=j+1) (V9 (show j+1<274877906944 by omega) (by decide))) (by decide);refine go tt [.t (decide_eq_true (by omega)),.x (H5 h),.c [] (Qhi (n:=((j+1:Nat):Int)) (by omega)),.c [] (Q21 (Um hp (j+1)) hk),.s (sz:=4) (Quz _)] rfl (by simp [Ua,hfl,-List.getD_eq_getElem?_getD] <;> omega) ?_;exact rd (j+1) (by omega) (by omega) (by rw [Q0m,Qpi]; rfl)
 ·have e:j=p.length-1:=by omega
  rw [e];exact en tt [.f (decide_eq_false (by omega)),.c [] cc] rfl rfl trivial
theorem Zgl (z:Int):fr (z:Rat)=[nd z.natAbs,sg z,.row [[.int .i64 1]],.bool false]:=by
 have e:U0 1=[1]:=by rw [Ac (by decide),show 1 / 10000=0 from rfl,Ge]
 show [nd z.natAbs,sg z,nd 1,sg 1]=_;unfold nd dl;rw [e]; rfl
theorem Q32 {p:List Int} (hl:p.length<=1000000):Ub Tryz.prog 165 [.one (rp (zp p))] [.one (.bool true)]:=by
 have hpl:=fzl p;refine Gk Tryz.func165 rfl ?_;refine go tt [] rfl trivial ?_;refine lp (S:=Nat) 0 (λL1 i=>(6,.v (.one (.int .i64 (i:Int))))::L1) (λ_=>[]) (λi=>p.length-i) (λi=>i<=p.length) 0 (Qi _) rfl (λ_ _=>rfl) rfl λi hi=>?_
 by_cases h:i<p.length
 ·have hg:=H5 h;rw [Zgl] at hg;refine go tt [.t (decide_eq_true (by omega)),.x hg,.g 17 false rfl,.x hg,.x (l:=[[.int .i64 1]]) (i:=0) (xs:=[.int .i64 1]) rfl,.f rfl] rfl (by simp [Ua]; omega) ?_;exact rd (i+1) (by omega) h rfl
 ·exact en tt [.f (decide_eq_false (by omega))] rfl rfl trivial
theorem Qy8:[LV.nils,LV.bool false].map Qf7=ri 0:=by
 show _=[nd 0,sg 0];unfold nd dl;rw [Ge]; rfl
theorem Qva (p:List Int) (q:Rat):Int.sign (S9 p q.num q.den p.length).1=U5 p q:=by
 unfold U5 Zcu Mm;generalize (S9 p q.num q.den p.length).1=z;rcases Jz z 0 with h | h | h
 ·rw [if_pos h,X3 h]
 ·subst h; rfl
 ·rw [if_neg (by omega),if_pos h,Jc h]
theorem Qb2 {p:List Int} {q:Rat} (hp:Bd 30000000 p) (hl:p.length<=64) (hq:Qs 1000000 q):Ub Tryz.prog 94 [.one (rp (zp p)),.agg (fr q)] [.one (.int .i64 (U5 p q))]:=by
 have hpl:=fzl p;refine Gk Tryz.func94 rfl ?_;refine go tt [.c [] (Q32 (p:=p) (by omega)),.f rfl,.c [] (Ca (n:=1) (by decide)),.r 19 (eI (b:=(p.length:Int)-1-((0:Nat):Int)) (by simp; omega))] rfl (by simp [Ua]; omega) ?_;refine nlb 1 rfl rfl rfl ?_;rw [Qy8];refine lp (S:=Nat) 3 (λL1 j=>(7,.v (.one (.int .i64 ((p.length:Int)-1-(j:Int)))))::L1) (λj=>[.blk 35 (fr q),.blk 33 (ri (S9 p q.num q.den j).1),.blk 33 (ri (S9 p q.num q.den j).2)]) (λj=>p.length-j) (λj=>j<=p.length) 0 (Qi _) rfl (λ_ _=>rfl) rfl λj hj=>?_
 have hv:=Qpb (k:=j) hp hq.1 hq.2;have hjl:j*(1000000+1)<=p.length*(1000000+1):=Qw _ (by omega);by_cases h:j<p.length
 ·have hc:=Um hp (p.length-1-j);have hq1:=hq.1;have hq2:=hq.2;have hm1:Ul ((S9 p q.num q.den j).1*q.num)<=200000000:=Qa (Uv _ _) (by omega);have hm2:Ul (p.getD (p.length-1-j) 0*(S9 p q.num q.den j).2)<=200000000:=Qa (Uv _ _) (by omega);refine go tt [.t (decide_eq_true (by omega)),.c [] (Sw (a:=(S9 p q.num q.den j).1) (b:=q.num) (by omega) (by omega)),.r 29 (eI (b:=((p.length-1-j:Nat):Int)) (by omega)),.x (H5 (p:=p) (i:=p.length-1-j) (by omega)),.c [] (Sw (a:=p.getD (p.length-1-j) 0) (b:=(S9 p q.num q.den j).2) (by omega) (by omega)),.c [] (Qtr hm1 hm2),.c [] (Sw (a:=(S9 p q.num q.den j).2) (b:=(q.den:Int)) (by omega) (by omega)),.r 23 (eI (b:=(p.length:Int)-1-((j+1:Nat):Int)) (by omega))] rfl (by simp [Ua] <;> omega) ?_;exact rd (j+1) (by omega) h rfl
 ·obtain rfl:j=p.length:=by omega
  exact en tt [.f (decide_eq_false (by omega)),.c [] Qw2] rfl (by rw [Qva]) trivial
end Orr
namespace Orr
def Ur (p:List Int):Int:=p.getD (p.length-1) 0
def Bv (a b:List Int):Int:=if Ur b<0 then -(Ur a) else Ur a
def B8 (a b:List Int) (i:Nat):Int:=a.getD i 0*((Ur b).natAbs:Int)-(if a.length-b.length<=i then Bv a b*b.getD (i-(a.length-b.length)) 0 else 0)
def Lf (a b:List Int):List Int:=Pg a.length (B8 a b)
inductive RRun (b:List Int):Nat->List Int->List Int->Prop
 | stop {a:List Int}:a.length<b.length->RRun b 0 a a
 | step {k:Nat} {a r:List Int}:b.length<=a.length->a.length<=1000->Bd 9000000 a->Bd 9000000 b->RRun b k (Lf a b) r->RRun b (k+1) a r
def D7 (p:List Int):Nat->Nat
 | 0=>0
 | i+1=>Int.gcd (D7 p i:Nat) (p.getD i 0)
def cont (p:List Int):Nat:=D7 p p.length
theorem Qdy (p:List Int):∀ {i j:Nat},j<i->((D7 p i:Nat):Int)∣p.getD j 0
 | 0,_,h=>absurd h (W4 _)
 |
  i+1,j,h=>by
  simp only [D7];rcases Q6 j i with h1 | h1
  ·exact Vv (Wo ..) (Qdy p h1)
  ·rw [show j=i by omega]; exact Vf ..
theorem Qp7 (p:List Int) (j:Nat):((cont p:Nat):Int)∣p.getD j 0:=by
 rcases Q6 j p.length with h | h
 ·exact Qdy p h
 ·rw [Qg,Qr h]; exact Int.dvd_zero _
theorem Iu {s:Nat} {p:List Int} (h:Bd s p):∀ i,Ul ((D7 p i:Nat):Int)<=s
 | 0=>by simp [D7,Px]
 |
  i+1=>by
  simp only [D7];by_cases h0:p.getD i 0=0
  ·rw [h0,Int.gcd_zero_right]; exact Iu h i
  ·have h1:=Vf (D7 p i:Nat) (p.getD i 0);have h2:(Int.gcd (D7 p i:Nat) (p.getD i 0))<=(p.getD i 0).natAbs:=Vx (by omega) (by simpa using Xl.2 h1);have h3:=Um h i;rw [Rh] at h3 ⊢;simp only [Zw];omega
theorem Q0c {p:List Int} {j i:Nat} (hj:j<i) (h:p.getD j 0≠0):0<D7 p i:=by
 have:=Qdy p hj;rcases Qy (D7 p i) with h0 | h0
 ·rw [h0] at this;exact absurd (Int.zero_dvd.1 this) h
 ·exact h0
theorem Qp8 {p:List Int} (ht:Uf p) (h:0<p.length):0<cont p:=Q0c (j:=p.length-1) (by omega) (Gi ht h)
def Pk (p:List Int):Int:=if Ur p<0 then -((cont p:Nat):Int) else ((cont p:Nat):Int)
def Gf (p:List Int):List Int:=Pg p.length λi=>p.getD i 0 / Pk p
def Hf (p:List Int):List Int:=if Ur p<0 then S5 (Gf p) else Gf p
theorem Q0p (p:List Int) (j:Nat):Pk p∣p.getD j 0:=by
 unfold Pk
 split
 ·exact W6.2 (Qp7 p j)
 ·exact Qp7 p j
theorem Q5e {p:List Int} (ht:Uf p) (h:0<p.length):Pk p≠0:=by
 have:=Qp8 ht h;unfold Pk
 split <;> omega
theorem Qkz {s:Nat} {p:List Int} (h:Bd s p):Ul (Pk p)<=s:=by
 unfold Pk
 split
 ·rw [Fx]; exact Iu h _
 ·exact Iu h _
theorem Qvq {p:List Int} {c:Int} (hc:c≠0) (hd:∀ j,c∣p.getD j 0):Pp (zp p) (1 / (c:Rat))=zp (Pg p.length λi=>p.getD i 0 / c):=by
 unfold Pp Pg;rw [Qg6 (g:=λi=>p.getD i 0 / c) _ λi _=>?_,Nf,Si];obtain ⟨k,hk⟩:=hd i;have hc':(c:Rat)≠0:=λe=>hc (by exact_mod_cast e)
 rw [Qdm,hk,Xw _ hc,Xz];grind
theorem Qhd {s:Nat} {p:List Int} (h:Bd s p):Bd s (Gf p):=E3 λi _=>Qa (I6 _ _) (Um h i)
theorem Qel (p:List Int):(Gf p).length<=p.length:=Db _ _
theorem Qjr (p:List Int):Uf (Gf p):=Ut _ _
theorem Qkf {s:Nat} {p:List Int} (h:Bd s p):Bd s (Hf p):=by
 unfold Hf
 split
 ·exact Qbx (Qhd h)
 ·exact Qhd h
theorem Aq (p:List Int):(Hf p).length<=p.length:=by
 unfold Hf
 split
 ·exact Qa (Di _) (Qel p)
 ·exact Qel p
inductive GRun:Nat->List Int->List Int->List Int->Prop
 | stop (a:List Int):GRun 0 a [] a
 | step {k m:Nat} {a b r g:List Int}:0<b.length->b.length<=1000->Bd 9000000 b->RRun b m a r->r.length<=1000->Bd 9000000 r->Uf r->GRun k b (Gf r) g->GRun (k+1) a b g
theorem GRun.inv {k:Nat} {a b g:List Int} (h:GRun k a b g):(k=0/\b.length=0/\a=g)\/∃ j m r,k=j+1/\0<b.length/\b.length<=1000/\Bd 9000000 b/\RRun b m a r/\r.length<=1000/\Bd 9000000 r/\Uf r/\GRun j b (Gf r) g:=by
 cases h with
 | stop=>exact .inl ⟨rfl,rfl,rfl⟩
 | step h1 h2 h3 h4 h5 h6 h7 h8=>exact .inr ⟨_,_,_,rfl,h1,h2,h3,h4,h5,h6,h7,h8⟩
def Ta (k:Nat) (p:List Int):List Int:=List.replicate k 0++p
theorem Qjk (k:Nat) (p:List Int):(Ta k p).length=k+p.length:=by simp [Ta]
theorem Qzt {s k:Nat} {p:List Int} (h:Bd s p):Bd s (Ta k p):=λz hz=>by
 rcases Q0.1 hz with h1 | h1
 ·rw [Zs h1,Px]; exact Qi _
 ·exact h z h1
inductive DRun (b:List Int):Nat->List Int->List Int->List Int->List Int->Prop
 | stop {a q:List Int}:a.length<b.length->DRun b 0 a q q a
 | step {k:Nat} {a q qf r:List Int}:b.length<=a.length->a.length<=1000->Bd 9000000 a->Ur b≠0->Ur b∣Ur a->a.length-b.length<q.length ->
  DRun b k (Tp a (Ta (a.length-b.length) (Uu b (Ur a / Ur b)))) (q.set (a.length-b.length) (Ur a / Ur b)) qf r->DRun b (k+1) a q qf r
theorem DRun.inv {b a q qf r:List Int} {k:Nat} (h:DRun b k a q qf r):(k=0/\q=qf/\a=r/\a.length<b.length)\/∃ j,k=j+1/\b.length<=a.length/\a.length<=1000/\Bd 9000000 a/\Ur b≠0/\Ur b∣Ur a/\a.length-b.length<q.length /\
 DRun b j (Tp a (Ta (a.length-b.length) (Uu b (Ur a / Ur b)))) (q.set (a.length-b.length) (Ur a / Ur b)) qf r:=by
 cases h with
 | stop h=>exact .inl ⟨rfl,rfl,rfl,h⟩
 | step h1 h2 h3 h4 h5 h6 h7=>exact .inr ⟨_,rfl,h1,h2,h3,h4,h5,h6,h7⟩
def Sj (l:List (List Int)):List Int:=l.getD (l.length-1) []
inductive LRun:Nat->List (List Int)->List (List Int)->Prop
 | stop {l:List (List Int)}:(Sj l).length<=1->LRun 0 l l
 | step {k m:Nat} {l f:List (List Int)} {g:List Int}:1<(Sj l).length->(Sj l).length<=1000->Uf (Sj l)->Bd 9000000 (Sj l)->Bd 9000000 (U3 (Sj l))->GRun m (Gf (Sj l)) (Gf (U3 (Sj l))) g->l.length<=1000->LRun k (l++[g]) f->LRun (k+1) l f
theorem LRun.inv {k:Nat} {l f:List (List Int)} (h:LRun k l f):(k=0/\l=f/\(Sj l).length<=1)\/∃ j m g,k=j+1/\1<(Sj l).length/\(Sj l).length<=1000/\Uf (Sj l)/\Bd 9000000 (Sj l)/\Bd 9000000 (U3 (Sj l))/\GRun m (Gf (Sj l)) (Gf (U3 (Sj l))) g/\l.length<=1000/\LRun j (l++[g]) f:=by
 cases h with
 | stop h=>exact .inl ⟨rfl,rfl,h⟩
 | step h1 h2 h3 h4 h5 h6 h7 h8=>exact .inr ⟨_,_,_,rfl,h1,h2,h3,h4,h5,h6,h7,h8⟩
def DOk (a b q:List Int):Prop:=0<b.length/\b.length<=1000/\a.length<=1000/\Bd 9000000 b/\∃ qf r n,Bd 9000000 qf/\qf.length<=1000/\DRun b n a (List.replicate (a.length+1-b.length) 0) qf r/\q=trim qf
theorem DOk.bd {a b q:List Int} (h:DOk a b q):Bd 9000000 q:=by
 obtain ⟨_,_,_,_,qf,r,n,h1,_,_,rfl⟩:=h;exact Rj h1
theorem DOk.len {a b q:List Int} (h:DOk a b q):q.length<=1000:=by
 obtain ⟨_,_,_,_,qf,r,n,_,h1,_,rfl⟩:=h;exact Qa (G0 _) h1
theorem DOk.trim {a b q:List Int} (h:DOk a b q):Uf q:=by
 obtain ⟨_,_,_,_,qf,r,n,_,_,_,rfl⟩:=h;exact Gu _
def Zim (a b c f:List Int):Prop:=∃ x y z,DOk a b x/\DOk b c y/\DOk (Gf x) (Gf y) z/\f=Gf z
structure FRun (a:List Int) (m:Nat) (f:Nat->List Int):Prop where
 run:∃ n l,LRun n [Gf a] l/\l.length=m+1/\∀ k,k<m->Zim ((l++[[1]]).getD k []) ((l++[[1]]).getD (k+1) []) ((l++[[1]]).getD (k+2) []) (f k)
 small:m<=1000
def Qjq (f:Nat->List Int) (n:Nat):List (List Int):=(List.range n).map f
theorem Qsq (f:Nat->List Int) (n:Nat):(Qjq f n).length=n:=by simp [Qjq]
theorem Q1v (f:Nat->List Int) (n:Nat):Qjq f (n+1)=Qjq f n++[f n]:=by simp [Qjq,Ku]
theorem Q8t {f:Nat->List Int} {n i:Nat} (h:i<n):(Qjq f n)[i]? = some (f i):=by simp [Qjq,X2 h]
theorem Quf {l:List (List Int)} {i:Nat} (h:i<l.length):l[i]? = some (l.getD i []):=by
 rw [Qg,Qd h]; rfl
def Et (f:Nat->List Int):Nat->List Int
 | 0=>[1]
 | i+1=>Fv (Et f i) (f i)
def Zil (m:Nat) (f:Nat->List Int):Prop:=∀ i,i<m->Bd 9000000 (Et f i)/\(Et f i).length<=1000/\Bd 9000000 (f i)/\(f i).length<=1000
inductive CRun:Nat->List (List Int)->List Int->List (List Int)->Prop
 | stop {l:List (List Int)} {g:List Int}:g.length=0->CRun 0 l g l
 | step {k m:Nat} {l f:List (List Int)} {g r:List Int}:0<g.length->g.length<=1000->Bd 9000000 g->RRun g m (Sj l) r->Uf r->Bd 9000000 r->r.length<=1000->0<l.length->l.length<=1000->CRun k (l++[g]) (S5 (Hf r)) f->CRun (k+1) l g f
theorem CRun.inv {k:Nat} {l f:List (List Int)} {g:List Int} (h:CRun k l g f):(k=0/\l=f/\g.length=0)\/∃ j m r,k=j+1/\0<g.length/\g.length<=1000/\Bd 9000000 g/\RRun g m (Sj l) r/\Uf r/\Bd 9000000 r/\r.length<=1000/\0<l.length/\l.length<=1000/\CRun j (l++[g]) (S5 (Hf r)) f:=by
 cases h with
 | stop h=>exact .inl ⟨rfl,rfl,h⟩
 | step h1 h2 h3 h4 h5 h6 h7 h8 h9 h10=>exact .inr ⟨_,_,_,rfl,h1,h2,h3,h4,h5,h6,h7,h8,h9,h10⟩
structure ChRun (a:List Int) (sq:List Int) (c:List (List Int)):Prop where
 fac:∃ m f,FRun a m f/\Zil m f/\sq=Et f m
 chain:∃ n,CRun n [sq] (Hf (U3 sq)) c
 bd:Bd 8000000 sq
 len:sq.length<=1000
 small:c.length<=1000
def Qwd (q:Rat) (c:List (List Int)):Prop:=∃ sq,ChRun [-q.num,(q.den:Int)] sq c
end Orr
namespace Orr
open Go Go.Proofs
set_option maxRecDepth 10000
theorem RRun.inv {b a r:List Int} {k:Nat} (h:RRun b k a r):(k=0/\a=r/\a.length<b.length)\/(∃ j,k=j+1/\b.length<=a.length/\a.length<=1000/\Bd 9000000 a/\Bd 9000000 b/\RRun b j (Lf a b) r):=by
 cases h with
 | stop h=>exact .inl ⟨rfl,rfl,h⟩
 | step h1 h2 h3 h4 h5=>exact .inr ⟨_,rfl,h1,h2,h3,h4,h5⟩
theorem Zc7 {a b:List Int} (ha:Bd 9000000 a):Ul (Bv a b)<=9000000:=by
 unfold Bv; split
 ·rw [Fx]; exact Um ha _
 ·exact Um ha _
theorem Zc2 (n:Nat):ri (n:Int)=[nd n,.bool false]:=by
 show [nd n,sg (n:Int)]=_;unfold sg;rw [decide_eq_false (by omega)]
def Qot (a b:List Int) (n:Nat):List Int:=(List.range n).map (B8 a b)
theorem Q72 (a b:List Int) (n:Nat):(Qot a b n).length=n:=by simp [Qot]
theorem Ql7 (a b:List Int) (n:Nat):Qot a b (n+1)=Qot a b n++[B8 a b n]:=by simp [Qot,Ku]
theorem Qw7 {a0 b res:List Int} {n:Nat} (hb0:0<b.length) (hb1:b.length<=1000) (hbb0:Bd 9000000 b) (hrun:RRun b n a0 res):Ub Tryz.prog 138 [.one (rp (zp a0)),.one (rp (zp b))] [.one (rp (zp res))]:=by
 have hbl:=fzl b;have hle:Ul (((Ur b).natAbs:Nat):Int)<=9000000:=Um hbb0 _;refine Gk Tryz.func138 rfl ?_;refine go tt [.r 15 (eI (b:=((b.length-1:Nat):Int)) (by omega)),.x (H5 (p:=b) (i:=b.length-1) (by omega))] rfl (by simp [Ua]; omega) ?_;refine sb [(0,.v (.one (rp (zp a0)))),(1,.v (.one (rp (zp b)))),(5,.v (.one (.ow 0 0))),(6,.v (.one (.ow 1 0)))] [.blk 33 (ri (Ur b)),.blk 33 [nd (Ur b).natAbs,.bool false]] rfl rfl ?_;refine lp (S:=Nat×List Int) 2 (λL1 s=>(0,.v (.one (rp (zp s.2))))::L1) (λ_=>[.blk 33 (ri (Ur b)),.blk 33 [nd (Ur b).natAbs,.bool false]]) (λs=>s.1) (λs=>RRun b s.1 s.2 res) (n,a0) hrun rfl (λ_ _=>rfl) rfl λ⟨k,a⟩ hs=>?_
 have hal:=fzl a;have hs:RRun b k a res:=hs;rcases RRun.inv hs with ⟨rfl,rfl,h1⟩ | ⟨j,rfl,h1,h2,ha,hb,hr⟩
 ·exact en tt [.f (decide_eq_false (by dsimp only; omega))] rfl rfl trivial
 obtain ⟨K,hK⟩:=nmE (a.length-b.length);have htb:=Zc7 (b:=b) ha;have cc:=Iq (p:=zp (Qot a b a.length));rw [Nf,show trim (Qot a b a.length)=Lf a b from rfl] at cc;refine go tt [.t (decide_eq_true (by dsimp only; omega)),.r 30 (eI (b:=(K:Int)) (by dsimp only; omega)),.r 34 (eI (b:=((a.length-1:Nat):Int)) (by dsimp only; omega)),.x (H5 (p:=a) (i:=a.length-1) (by omega))] rfl (by simp [Ua]; omega) ?_;refine ct 1 (S:=Unit) (λ_=>[(0,.v (.one (rp (zp a)))),(1,.v (.one (rp (zp b)))),(5,.v (.one (.ow 0 0))),(6,.v (.one (.ow 1 0))),(7,.v (.one (.int .i64 (K:Int)))),(8,.v (.one (.ow 2 0)))]) (λ_=>[.blk 33 (ri (Ur b)),.blk 33 [nd (Ur b).natAbs,.bool false],.blk 33 (ri (Bv a b))]) (λ_=>True) rfl ?_ (λ_ _=>?_)
 ·by_cases hn:Ur b<0
  ·have e:Bv a b=-(Ur a):=if_pos hn;rw [e];exact go tt [.t (decide_eq_true hn),.c [] (E6 (z:=Ur a))] rfl trivial (rc () trivial rfl)
  ·have e:Bv a b=Ur a:=if_neg hn;rw [e];exact go tt [.f (decide_eq_false hn)] rfl trivial (rc () trivial rfl)
 refine go tt [.o 9 35 4] rfl trivial ?_;refine lp (S:=Nat) 4 (λL1 i=>(44,.v (.one (.int .i64 (i:Int))))::(9,.v (.one (.orow 3 4 none)))::L1) (λi=>[.blk 33 (ri (Ur b)),.blk 33 [nd (Ur b).natAbs,.bool false],.blk 33 (ri (Bv a b)),.row false 35 4 (frow (zp (Qot a b i)))]) (λi=>a.length-i) (λi=>i<=a.length) 0 (Qi _) rfl (λ_ _=>rfl) rfl λi hi=>?_
 have hfl:=fzl (Qot a b i);rw [Q72] at hfl;by_cases h:i<a.length
 ·have cm:=Sw (a:=a.getD i 0) (b:=(((Ur b).natAbs:Nat):Int)) (Qa (Um ha i) (by decide)) (by omega);have hm:=Uv (a.getD i 0) (((Ur b).natAbs:Nat):Int);have hai:=Um ha i;rw [Zc2 (Ur b).natAbs] at cm;by_cases hk:K<=i
  ·have hbi:=Um hb (i-K);have hm2:=Uv (Bv a b) (b.getD (i-K) 0);have e:B8 a b i=a.getD i 0*(((Ur b).natAbs:Nat):Int)-Bv a b*b.getD (i-K) 0:=by unfold B8; rw [if_pos (by omega),hK]
   refine go tt [.t (decide_eq_true (by omega)),.x (H5 h),.c [] cm,.t (decide_eq_true (by omega)),.r 62 (eI (b:=((i-K:Nat):Int)) (by omega)),.x (H5 (p:=b) (i:=i-K) (by omega)),.c [] (Sw (a:=Bv a b) (b:=b.getD (i-K) 0) (by omega) (by omega)),.c [] (Q3p (by omega) (by omega)),.c [] (Ca (n:=1) (by decide)),.c [] (Pv (n:=a.getD i 0*(((Ur b).natAbs:Nat):Int)-Bv a b*b.getD (i-K) 0)),.s (sz:=4) (Quz _)] rfl (by simp [Ua,hfl,-List.getD_eq_getElem?_getD] <;> omega) ?_;exact rd (i+1) (by omega) h (by rw [Ql7,Qpi,e]; rfl)
  ·have e:B8 a b i=a.getD i 0*(((Ur b).natAbs:Nat):Int):=by unfold B8; rw [if_neg (by omega),Int.sub_zero]
   refine go tt [.t (decide_eq_true (by omega)),.x (H5 h),.c [] cm,.f (decide_eq_false (by omega)),.c [] (Ca (n:=1) (by decide)),.c [] (Pv (n:=a.getD i 0*(((Ur b).natAbs:Nat):Int))),.s (sz:=4) (Quz _)] rfl (by simp [Ua,hfl,-List.getD_eq_getElem?_getD] <;> omega) ?_;exact rd (i+1) (by omega) h (by rw [Ql7,Qpi,e]; rfl)
 ·have e:i=a.length:=by omega
  rw [e];exact go tt [.f (decide_eq_false (by omega)),.c [] cc] rfl trivial (rd (j,Lf a b) (by omega) hr rfl)
theorem Zf1:Ub Tryz.prog 55 [.agg (ri 1),.agg (ri 1)] [.agg (ri 1)]:=Sw (a:=1) (b:=1) (by decide) (by decide)
theorem Zan:Ub Tryz.prog 133 [.agg (ri 1),.agg (ri 1)] [.agg (ri 1)]:=Qhm (a:=1) (b:=1) (by decide) (by decide)
theorem Q95 {z:Int} (hz:Ul z<=90000000):Ub Tryz.prog 55 [.agg (ri z),.agg (ri 1)] [.agg (ri z)]:=by
 have h:=Sw (a:=z) (b:=1) (by omega) (by decide);rwa [K8] at h
theorem Qwu {z:Int} (hz:Ul z<=90000000):Ub Tryz.prog 134 [.agg (ri z),.agg (ri 1)] [.agg (ri z)]:=by
 have h:=Qdw (a:=z) (b:=1) hz (by decide) (by decide) (Int.emod_one z);rwa [Vi] at h
theorem Q22 {z:Int}:Ub Tryz.prog 67 [.agg (fr (z:Rat))] [.agg (fr ((-z:Int):Rat))]:=by
 have h:=Zft (a:=(z:Rat));rwa [<-Y8] at h
theorem Zhc {c:Int} (hc:c≠0) (hs:Ul c<=9000000):Qs 40000000 (((1:Int):Rat) / (c:Rat)):=by
 have h0:(c:Rat)≠0:=λe=>hc (by exact_mod_cast e)
 rw [<-Ql2 h0];unfold Ft;rw [if_neg (Jh (Ma _) (λe=>hc (by simpa using e)))];refine Qs.divInt (by show Ul (1*1)<=_; decide) ?_ (by decide);show Ul (1*c)<=_;rw [Yn]; omega
theorem Qtn {p:List Int} {c:Int} (hc:c≠0) (hs:Ul c<=9000000) (hd:∀ j,c∣p.getD j 0) (hp:Bd 9000000 p) (hl:p.length<=1000):Ub Tryz.prog 203 [.one (rp (zp p)),.agg (fr (((1:Int):Rat) / (c:Rat)))] [.one (rp (zp (Pg p.length λi=>p.getD i 0 / c)))]:=by
 have h:=Ec ((Qaz hp (by omega)).mono (by omega)) (Zhc hc hs) (by rw [Si]; omega);rwa [show ((1:Int):Rat)=1 from rfl,Qvq hc hd] at h
theorem E7 {p:List Int} (tp:Uf p) (hp:Bd 9000000 p) (hl:p.length<=1000):Ub Tryz.prog 147 [.one (rp (zp p))] [.agg (fr ((Pk p:Int):Rat)),.one (rp (zp (Gf p)))]:=by
 have hpl:=fzl p;rcases Qy p.length with h0 | h0
 ·have e:=Qh h0;subst e;exact w tt Tryz.func147 rfl [.t rfl,.c [] Q3o] rfl rfl trivial
 have hc:=Q5e tp h0;refine Gk Tryz.func147 rfl ?_;refine go tt [.f (decide_eq_false (by omega)),.c [] (Ca (n:=1) (by decide))] rfl trivial ?_;refine lp (S:=Nat) 2 (λL1 i=>(16,.v (.one (.int .i64 (i:Int))))::L1) (λi=>[.blk 35 [.nils,.bool false,.nils,.bool false],.blk 33 (ri 1)]) (λi=>p.length-i) (λi=>i<=p.length) 0 (Qi _) rfl (λ_ _=>rfl) rfl λi hi=>?_
 by_cases h:i<p.length
 ·refine go tt [.t (decide_eq_true (by omega)),.x (H5 h),.c [] Zf1,.x (H5 h),.c [] Zan,.c [] (Qwu (z:=1) (by decide))] rfl (by simp [Ua]; omega) ?_;exact rd (i+1) (by omega) h rfl
 refine go tt [.f (decide_eq_false (by omega))] rfl trivial ?_;clear h hi;refine nlb 2 rfl rfl rfl ?_;rw [Qy8];refine lp (S:=Nat) 3 (λL1 i=>(37,.v (.one (.int .i64 (i:Int))))::L1) (λi=>[.blk 35 [.nils,.bool false,.nils,.bool false],.blk 33 (ri 1),.blk 33 (ri ((D7 p i:Nat):Int))]) (λi=>p.length-i) (λi=>i<=p.length) 0 (Qi _) rfl (λ_ _=>rfl) rfl λi hi=>?_
 by_cases h:i<p.length
 ·have hb:=Um hp i;have hg:=Iu hp i;refine go tt [.t (decide_eq_true (by omega)),.x (H5 h),.c [] (Q95 (z:=p.getD i 0) (by omega)),.x (H5 h),.c [] (Qwu (z:=p.getD i 0) (by omega)),.c [] (Qhm (a:=((D7 p i:Nat):Int)) (b:=p.getD i 0) (by omega) (by omega))] rfl (by simp [Ua]; omega) ?_;exact rd (i+1) (by omega) h rfl
 have e:i=p.length:=by omega
 rw [e];have co:=Qhi (n:=1) (by decide);have cs:=Qtn hc (Qkz hp) (Q0p p) hp hl;by_cases hn:Ur p<0
 ·have e2:Pk p=-((cont p:Nat):Int):=if_pos hn;rw [show (λi=>p.getD i 0 / Pk p)=λi=>p.getD i 0 / Pk p from rfl] at cs;have cn:=Q22 (z:=((cont p:Nat):Int));rw [<-e2] at cn;exact en tt [.f (decide_eq_false (by omega)),.c [] (Pv (n:=((cont p:Nat):Int))),.r 62 (eI (b:=((p.length-1:Nat):Int)) (by omega)),.x (H5 (p:=p) (i:=p.length-1) (by omega)),.t (decide_eq_true hn),.c [] cn,.c [] co,.c [] (Qtm (a:=((1:Int):Rat)) (b:=((Pk p:Int):Rat)) ⟨by decide,by decide⟩ (B7 (by have:=Qkz hp; omega) (by decide)) (λe=>hc (by exact_mod_cast e))),.c [] cs] rfl rfl (by simp [Ua]; omega)
 ·have e2:Pk p=((cont p:Nat):Int):=if_neg hn;have cm:=Pv (n:=Pk p);rw [e2] at cm cs hc ⊢;exact en tt [.f (decide_eq_false (by omega)),.c [] cm,.r 62 (eI (b:=((p.length-1:Nat):Int)) (by omega)),.x (H5 (p:=p) (i:=p.length-1) (by omega)),.f (decide_eq_false hn),.c [] co,.c [] (Qtm (a:=((1:Int):Rat)) (b:=((((cont p:Nat):Int):Int):Rat)) ⟨by decide,by decide⟩ (B7 (by have:=Iu hp p.length; unfold cont; omega) (by decide)) (λe=>hc (by exact_mod_cast e))),.c [] cs] rfl (by unfold Gf; rw [e2]; rfl) (by simp [Ua]; omega)
theorem D5 {p:List Int} (tp:Uf p) (hp:Bd 9000000 p) (hl:p.length<=1000):Ub Tryz.prog 80 [.one (rp (zp p))] [.one (rp (zp (Gf p)))] :=
 w tt Tryz.func80 rfl [.c [] (E7 tp hp hl)] rfl rfl trivial
theorem Qk0 {p:List Int} (tp:Uf p):Pk p<0↔Ur p<0:=by
 unfold Pk;rcases Qy p.length with h0 | h0
 ·have:=Qh h0; subst this; decide
 ·have:=Qp8 tp h0
  split <;> omega
theorem Q3x {p:List Int} (hp:Bd 9000000 p) (hl:p.length<=1000000):Ub Tryz.prog 137 [.one (rp (zp p))] [.one (rp (zp (S5 p)))]:=by
 have h:=Qtx ((Qaz hp (by decide)).mono (by decide)) (by rw [Si]; exact hl);rwa [Qy9] at h
theorem Qp0 {p:List Int} (tp:Uf p) (hp:Bd 9000000 p) (hl:p.length<=1000):Ub Tryz.prog 136 [.one (rp (zp p))] [.one (rp (zp (Hf p)))]:=by
 by_cases hn:Ur p<0
 ·have e:Hf p=S5 (Gf p):=if_pos hn;rw [e];exact w tt Tryz.func136 rfl [.c [] (E7 tp hp hl),.t (decide_eq_true ((Qk0 tp).2 hn)),.c [] (Q3x (Qhd hp) (Qa (Qel p) (by omega)))] rfl rfl trivial
 ·have e:Hf p=Gf p:=if_neg hn;rw [e];exact w tt Tryz.func136 rfl [.c [] (E7 tp hp hl),.f (decide_eq_false λh=>hn ((Qk0 tp).1 h))] rfl rfl trivial
end Orr
namespace Orr
theorem Dc (f:Nat->Int):Pg 1 f=trim [f 0]:=rfl
theorem Qh9 (f:Nat->Int):Pg 2 f=trim [f 0,f 1]:=rfl
theorem Qa2 (x:Int):trim [x]=if x=0 then [] else [x]:=rfl
theorem Qmh (x y:Int):trim [x,y]=if y=0 then trim [x] else [x,y]:=by
 simp only [trim]; split <;> split <;> simp_all
theorem bd1 {s:Nat} {x:Int} (h:Ul x<=s):Bd s [x]:=λz hz=>by simp at hz; subst hz; exact h
theorem bd2 {s:Nat} {x y:Int} (h:Ul x<=s) (h':Ul y<=s):Bd s [x,y]:=λz hz=>by
 simp only [Qx,Wq,or_false] at hz;rcases hz with rfl | rfl <;> assumption
section
variable {x d:Int} (hd:0<d) (hg:Int.gcd x d=1) (hx:Ul x<=1000000) (hs:Ul d<=1000000)
theorem b1 {s:Nat} (h:1<=s):Bd s [1]:=bd1 (Qa (show Ul 1<=1 by decide) h)
include hd in
theorem Oh (hg:Int.gcd x d=1):Gf [x,d]=[x,d]:=by
 have hc:Pk [x,d]=1:=by
  have h1:cont [x,d]=1:=by
   show Int.gcd (Int.gcd ((0:Nat):Int) x:Nat) d=1;rw [show Int.gcd ((0:Nat):Int) x=x.natAbs by simp,show Int.gcd ((x.natAbs:Nat):Int) d=Int.gcd x d by simp [Int.gcd],hg]
  unfold Pk;rw [if_neg (show ¬Ur [x,d]<0 from by show ¬d<0; omega),h1]; rfl
 unfold Gf;rw [hc];show Pg 2 _=_;rw [Qh9,Qmh];show (if d / 1=0 then _ else [x / 1,d / 1])=_;rw [Vi,if_neg (by omega),Vi]
theorem Qr2:Gf [1]=[1]:=by decide
include hd in
theorem Qjb:Gf [d]=[1]:=by
 have hc:Pk [d]=d:=by
  have h1:((cont [d]:Nat):Int)=d:=by
   show ((Int.gcd ((0:Nat):Int) d:Nat):Int)=d;simp; omega
  unfold Pk;rw [if_neg (show ¬Ur [d]<0 from by show ¬d<0; omega),h1]
 unfold Gf;rw [hc];show Pg 1 _=_;rw [Dc,Qa2];show (if d / d=0 then _ else [d / d])=_;rw [Int.ediv_self (by omega)]; rfl
include hd in
theorem Qm7:U3 [x,d]=[d]:=by
 show Pg 1 _=_;rw [Dc,Qa2];show (if d*1=0 then _ else [d*1])=_;rw [K8,if_neg (by omega)]
include hd hx hs in
theorem Qsd:∃ m,RRun [1] m [x,d] []:=by
 have h1:Lf [x,d] [1]=trim [x]:=by
  show Pg 2 _=_;rw [Qh9,Qmh];have e1:B8 [x,d] [1] 1=0:=by
   show d*1-(if 1<=1 then Bv [x,d] [1]*1 else 0)=0;have:Bv [x,d] [1]=d:=by unfold Bv; rw [if_neg (by decide)]; rfl
   rw [this]; simp
  have e0:B8 [x,d] [1] 0=x:=by
   show x*1-(if 1<=0 then _ else 0)=x;simp
  rw [e1,if_pos rfl,e0]
 have hb:Bd 9000000 [x,d]:=bd2 (by omega) (by omega);by_cases h0:x=0
 ·refine ⟨1,.step (by show 1<=2; decide) (by show 2<=1000; decide) hb (b1 (by decide)) ?_⟩;rw [h1,h0];exact .stop (by decide)
 ·refine ⟨2,.step (by show 1<=2; decide) (by show 2<=1000; decide) hb (b1 (by decide)) ?_⟩;rw [h1,Qa2,if_neg h0];refine .step (Qj 1) (by show 1<=1000; decide) (bd1 (by omega)) (b1 (by decide)) ?_;have h2:Lf [x] [1]=[]:=by
   show Pg 1 _=_;rw [Dc,Qa2];have e0:B8 [x] [1] 0=0:=by
    show x*1-(if 0<=0 then Bv [x] [1]*1 else 0)=0;have:Bv [x] [1]=x:=by unfold Bv; rw [if_neg (by decide)]; rfl
    rw [this]; simp
   rw [e0,if_pos rfl]
  rw [h2];exact .stop (by decide)
include hd hx hs in
theorem Q5w:∃ m,GRun m [x,d] [1] [1]:=by
 obtain ⟨m,h⟩:=Qsd hd hx hs;exact ⟨1,.step (by decide) (by decide) (b1 (by decide)) h (by decide) Im rfl (by rw [show Gf []=[] by decide]; exact .stop _)⟩
theorem Q1d (c:Int):Tp [c] [c]=[]:=by
 show Pg 1 _=_;rw [Dc,Qa2];show (if c-c=0 then _ else _)=_;rw [if_pos (by omega)]
include hd hx hs in
theorem Qxp:DOk [x,d] [1] [x,d]:=by
 refine ⟨by decide,by decide,by show 2<=1000; decide,b1 (by decide),[x,d],[],?_⟩;have hpl:Ur [x,d] / Ur [1]=d:=by show d / 1=d; rw [Vi]
 have hsc:Uu [1] d=[d]:=by
  show Pg 1 _=_;rw [Dc,Qa2];show (if 1*d=0 then _ else [1*d])=_;rw [Yn,if_neg (by omega)]
 have hsub:Tp [x,d] (Ta 1 [d])=trim [x]:=by
  show Pg 2 _=_;rw [Qh9,Qmh];show (if d-d=0 then trim [x-0] else _)=_;rw [if_pos (by omega),Int.sub_zero]
 have hb:Bd 9000000 [x,d]:=bd2 (by omega) (by omega);have ht:trim [x,d]=[x,d]:=by rw [Qmh,if_neg (by omega)]
 by_cases h0:x=0
 ·refine ⟨1,hb,by show 2<=1000; decide,?_,ht.symm⟩;refine .step (by show 1<=2; decide) (by show 2<=1000; decide) hb (by decide) (by show (1:Int)∣d; exact W7 d) (by show 1<2; decide) ?_;rw [hpl,hsc,show [x,d].length-[(1:Int)].length=1 from rfl,hsub,Qa2,if_pos h0];show DRun [1] 0 [] [0,d] [x,d] [];rw [h0]; exact .stop (by decide)
 ·refine ⟨2,hb,by show 2<=1000; decide,?_,ht.symm⟩;refine .step (by show 1<=2; decide) (by show 2<=1000; decide) hb (by decide) (by show (1:Int)∣d; exact W7 d) (by show 1<2; decide) ?_;rw [hpl,hsc,show [x,d].length-[(1:Int)].length=1 from rfl,hsub,Qa2,if_neg h0];refine .step (by show 1<=1; decide) (by show 1<=1000; decide) (bd1 (by omega)) (by decide) (by show (1:Int)∣x; exact W7 x) (by show 0<2; decide) ?_;have hpl2:Ur [x] / Ur [1]=x:=by show x / 1=x; rw [Vi]
  have hsc2:Uu [1] x=[x]:=by
   show Pg 1 _=_;rw [Dc,Qa2];show (if 1*x=0 then _ else [1*x])=_;rw [Yn,if_neg h0]
  rw [hpl2,hsc2,show [x].length-[(1:Int)].length=0 from rfl,show Ta 0 [x]=[x] from rfl,Q1d];exact .stop (by decide)
theorem div_one:DOk [1] [1] [1]:=by
 refine ⟨by decide,by decide,by decide,b1 (by decide),[1],[],1,b1 (by decide),by decide,?_,by decide⟩;refine .step (by decide) (by decide) (b1 (by decide)) (by decide) (by decide) (by decide) ?_;exact .stop (by decide)
include hd hg hx hs in
theorem Q5h:FRun [x,d] 1 (λ_=>[x,d]):=by
 obtain ⟨m,hm⟩:=Q5w (x:=x) hd hx hs;refine ⟨⟨1,[[x,d],[1]],?_,rfl,?_⟩,by decide⟩
 ·rw [Oh hd hg];refine .step (by show 1<2; decide) (by show 2<=1000; decide) (by show trim [x,d]=[x,d]; rw [Qmh,if_neg (by omega)]) (by show Bd 9000000 [x,d]; exact bd2 (by omega) (by omega)) ?_ ?_ (by show 1<=1000; decide) (m:=m) (g:=[1]) ?_
  ·show Bd 9000000 (U3 [x,d]);rw [Qm7 hd]; exact bd1 (by omega)
  ·show GRun m (Gf [x,d]) (Gf (U3 [x,d])) [1];rw [Oh hd hg,Qm7 hd,Qjb hd]; exact hm
  ·exact .stop (by show 1<=1; decide)
 ·intro k hk;have:k=0:=by omega
  subst this;exact ⟨[x,d],[1],[x,d],Qxp hd hx hs,div_one,by rw [Oh hd hg,Qr2]; exact Qxp hd hx hs,(Oh hd hg).symm⟩
theorem Qlm {p:List Int} (hp:Uf p) (h0:0<p.length):Fv [1] p=p:=by
 refine I1 (Gd _ _) hp λk=>?_
 unfold Fv;rw [if_neg (by
  rintro (h | h); · cases h
  ·omega),C5]
 show (My [1] p (List.replicate (1+p.length-1) 0) 1).getD k 0=_;simp only [My];rw [Qeo _ _ _ _ _ _ (by simp),Hm]
 split
 ·show 0+1*p.getD (k-0) 0=_;rw [Kx]; omega
 ·rename_i h;rw [Qg,Qr (by omega)]; rfl
include hd hg hx hs in
theorem Qkm:ChRun [x,d] [x,d] [[x,d],[1]]:=by
 obtain ⟨m,hm⟩:=Qsd (x:=x) hd hx hs;have ht:Uf [x,d]:=by show trim [x,d]=_; rw [Qmh,if_neg (by omega)]
 refine ⟨⟨1,λ_=>[x,d],Q5h hd hg hx hs,?_,?_⟩,⟨1,?_⟩,bd2 (by omega) (by omega),by show 2<=1000; decide,by show 2<=1000; decide⟩
 ·intro i hi;have:i=0:=by omega
  subst this;exact ⟨b1 (by decide),by show 1<=1000; decide,bd2 (by omega) (by omega),by show 2<=1000; decide⟩
 ·show [x,d]=Fv [1] [x,d];rw [Qlm ht (by show 0<2; decide)]
 ·have hz:Hf (U3 [x,d])=[1]:=by
   rw [Qm7 hd];unfold Hf;rw [if_neg (show ¬Ur [d]<0 from by show ¬d<0; omega),Qjb hd]
  rw [hz];refine .step (by decide) (by decide) (b1 (by decide)) (m:=m) (r:=[]) hm rfl Im (by decide) (by show 0<1; decide) (by show 1<=1000; decide) ?_;exact .stop (by decide)
end
theorem Zj0 {q:Rat} (h:Qs 1000000 q):Qwd q [[-q.num,(q.den:Int)],[1]]:=by
 refine ⟨[-q.num,(q.den:Int)],Qkm (den_pos q) ?_ (by rw [Fx]; exact h.1) h.2⟩;rw [Int.neg_gcd];have:=q.reduced;unfold Nat.Coprime at this;simpa [Int.gcd] using this
end Orr
namespace Orr
open Go Go.Proofs
set_option maxRecDepth 10000
theorem Zf2 {a b g:List Int} {n:Nat} (ta:Uf a) (tb:Uf b) (ha:Bd 9000000 a) (hb:Bd 9000000 b) (la:a.length<=1000) (lb:b.length<=1000) (hrun:GRun n (Gf a) (Gf b) g):Ub Tryz.prog 155 [.one (rp (zp a)),.one (rp (zp b))] [.one (rp (zp g))]:=by
 refine Gk Tryz.func155 rfl ?_;refine go tt [.c [] (D5 ta ha la),.c [] (D5 tb hb lb)] rfl trivial ?_;refine sb [(0,.v (.one (rp (zp (Gf a))))),(1,.v (.one (rp (zp (Gf b)))))] [] rfl rfl ?_;refine lp (S:=Nat×List Int×List Int) 0 (λL1 s=>(0,.v (.one (rp (zp s.2.1))))::(1,.v (.one (rp (zp s.2.2))))::L1) (λ_=>[]) (λs=>s.1) (λs=>GRun s.1 s.2.1 s.2.2 g) (n,Gf a,Gf b) hrun rfl (λ_ _=>rfl) rfl λ⟨k,x,y⟩ hs=>?_
 have hs:GRun k x y g:=hs;have hyl:=fzl y;rcases hs.inv with ⟨hk,hy0,hxg⟩ | ⟨j,m2,r,hk,hy0,hy1,hyb,hrr,hrl,hrb,hrt,hgr⟩
 ·rw [<-hxg];exact en tt [.f (decide_eq_false (by dsimp only; omega))] rfl rfl trivial
 ·subst hk;refine go tt [.t (decide_eq_true (by dsimp only; omega)),.c [] (Qw7 (a0:=x) (b:=y) (res:=r) hy0 hy1 hyb hrr),.c [] (D5 (p:=r) hrt hrb hrl)] rfl trivial ?_;exact rd (j,y,Gf r) (by dsimp only; omega) hgr rfl
theorem Q97 {x y:Int} (hx:Ul x<=9000000) (hy:Ul y<=9000000) (h0:y≠0) (hd:y∣x):Ub Tryz.prog 207 [.agg (fr (x:Rat)),.agg (fr (y:Rat))] [.agg (fr ((x / y:Int):Rat))]:=by
 have hy0:(y:Rat)≠0:=λe=>h0 (by exact_mod_cast e)
 have h:=Qtm (B7 (s:=40000000) (z:=x) (by omega) (by omega)) (B7 (s:=40000000) (z:=y) (by omega) (by omega)) hy0;obtain ⟨k,rfl⟩:=hd;rw [Xw _ h0];rwa [show (((y*k:Int):Rat)) / (y:Rat)=(k:Rat) by rw [Xz]; grind] at h
theorem Qz7 {p:List Int} {c:Int} (hp:Bd 40000000 p) (hc:Ul c<=40000000) (hl:p.length<=1000000):Ub Tryz.prog 203 [.one (rp (zp p)),.agg (fr (c:Rat))] [.one (rp (zp (Uu p c)))]:=by
 have h:=Ec (Qaz hp (by omega)) (B7 hc (by omega)) (by rw [Si]; exact hl);rwa [Ql6] at h
theorem Zdi (k:Nat) (p:List Int):frow (zp (List.replicate k 0))++frow (zp p)=frow (zp (Ta k p)):=by simp [zp,Ta,frow]
theorem Q0s (l:List Int) (i:Nat) (z:Int):(frow (zp l)).set i [nd ((z:Rat)).num.natAbs,sg ((z:Rat)).num,nd (((z:Rat)).den:Int).natAbs,sg (((z:Rat)).den:Int)]=frow (zp (l.set i z)):=Qqr l i z
theorem Zaq {p q:List Int} (hp:Bd 18000000 p) (hq:Bd 18000000 q) (hlp:p.length<=1000000) (hlq:q.length<=1000000):G6 Tryz.prog 144 [.one (rp (zp p)),.one (.orow 0 4 none)] [.row false 35 4 (frow (zp q))] [.one (rp (zp (Tp p q)))] [.gone]:=by
 have hn:=Qtx ((Qaz hq (by decide)).mono (by decide)) (by rw [Si]; exact hlq);have ha:=Q3z (p:=zp p) (q:=Qor (zp q)) ((Qaz hp (by decide)).mono (by decide)) ((Q7m (Qaz hq (by decide))).mono (by decide)) (by rw [Si]; exact hlp) (Qa (Qse _) (by rw [Si]; exact hlq));have e:Q1i (zp p) (Qor (zp q))=zp (Tp p q):=Qze p q;rw [e] at ha;refine Gk Tryz.func144 rfl ?_;exact ed tt [] [0] [.c [] hn,.c [] ha] rfl trivial
theorem Qz8 {a0 b qf rem:List Int} {n:Nat} (hb0:0<b.length) (hb1:b.length<=1000) (hl0:a0.length<=1000) (hbb:Bd 9000000 b) (hqb:Bd 9000000 qf) (hrun:DRun b n a0 (List.replicate (a0.length+1-b.length) 0) qf rem):Ub Tryz.prog 259 [.one (rp (zp a0)),.one (rp (zp b))] [.one (rp (zp (trim qf))),.one (rp (zp rem))]:=by
 have h0l:=fzl a0;have hbl:=fzl b;obtain ⟨N,hN⟩:=nmE (a0.length+1-b.length);rw [<-hN] at hrun;have cc:=Iq (p:=zp qf);rw [Nf] at cc;refine Gk Tryz.func259 rfl ?_;refine go tt [.r 18 (eI (b:=(N:Int)) (by omega)),.i N,.i N,.r 21 (eI (b:=(N:Int)) (by simp))] rfl (by simp [Ua]; omega) ?_;refine lp (S:=Nat) 1 (λL1 i=>(22,.v (.one (.int .i64 (i:Int))))::L1) (λi=>[.row false 35 4 (List.replicate i (fr 0)++List.replicate (N-i) zR)]) (λi=>N-i) (λi=>i<=N) 0 (Qi _) rfl (λ_ _=>rfl) rfl λi hi=>?_
 by_cases hlt:i<N
 ·refine go tt [.t (decide_eq_true (by omega)),.c [] Q3o,.i i] rfl (by simp [Ua]; omega) ?_;rw [Qnh hlt];exact rd (i+1) (by omega) hlt rfl
 have hiN:i=N:=by omega
 rw [hiN,Qju];clear hiN hlt hi;refine go tt [.f (decide_eq_false (by omega))] rfl trivial ?_;refine sb [(0,.v (.one (rp (zp a0)))),(1,.v (.one (rp (zp b)))),(6,.v (.one (.orow 0 4 none)))] [.row false 35 4 (frow (zp (List.replicate N 0)))] rfl rfl ?_;refine lp (S:=Nat×List Int×List Int) 1 (λL1 s=>(0,.v (.one (rp (zp s.2.1))))::L1) (λs=>[.row false 35 4 (frow (zp s.2.2))]) (λs=>s.1) (λs=>DRun b s.1 s.2.1 s.2.2 qf rem/\s.2.2.length=N) (n,a0,List.replicate N 0) ⟨hrun,X9⟩ rfl (λ_ _=>rfl) rfl λ⟨k,a,q⟩ ⟨hr0,hr1⟩=>?_
 have hr0:DRun b k a q qf rem:=hr0;have hr1:q.length=N:=hr1;have hal:=fzl a;have hql:=fzl q;rcases hr0.inv with ⟨hk,hqf,har,hlt⟩ | ⟨j,hk,hba,hal2,hab,hpb,hpd,hkq,hrj⟩
 ·subst hqf; subst har;exact en tt [.f (decide_eq_false (by dsimp only; omega)),.c [] cc] rfl rfl trivial
 subst hk;obtain ⟨K,hK⟩:=nmE (a.length-b.length);rw [<-hK] at hrj hkq;have hla:Ul (Ur a)<=9000000:=Um hab _;have hlb:Ul (Ur b)<=9000000:=Um hbb _;obtain ⟨c,hc⟩:=nmE (Ur a / Ur b);have cq:=Q97 hla hlb hpb hpd;have hcs:Ul (Ur a / Ur b)<=9000000:=Qa (I6 _ _) hla;rw [<-hc] at cq hcs hrj;have hsl:=Uz b c;have hqs:∀ x,(q.set K x).length=N:=λx=>by rw [Ja]; exact hr1
 dsimp only;refine go tt [.t (decide_eq_true (by omega)),.r 39 (eI (b:=(K:Int)) (by omega)),.r 43 (eI (b:=((a.length-1:Nat):Int)) (by omega)),.x (H5 (p:=a) (i:=a.length-1) (by omega)),.r 49 (eI (b:=((b.length-1:Nat):Int)) (by omega)),.x (H5 (p:=b) (i:=b.length-1) (by omega)),.c [] cq,.i K,.i K,.i K,.r 60 (eI (b:=(K:Int)) (by simp))] rfl (by simp [Ua,hql] <;> omega) ?_;rw [Q0s];refine lp (S:=Nat) 3 (λL1 i=>(61,.v (.one (.int .i64 (i:Int))))::L1) (λi=>[.row false 35 4 (frow (zp (q.set K c))),.blk 35 (fr (c:Rat)),.row false 35 4 (List.replicate i (fr 0)++List.replicate (K-i) zR)]) (λi=>K-i) (λi=>i<=K) 0 (Qi _) rfl (λ_ _=>rfl) rfl λi hi=>?_
 by_cases hlt:i<K
 ·refine go tt [.t (decide_eq_true (by omega)),.c [] Q3o,.i i] rfl (by simp [Ua]; omega) ?_;rw [Qnh hlt];exact rd (i+1) (by omega) hlt rfl
 have hiK:i=K:=by omega
 rw [hiK,Qju];clear hiK hlt hi;have hzl:=fzl (List.replicate K 0);rw [X9] at hzl;have hpl:=fzl (Uu b c);refine go tt [.f (decide_eq_false (by omega))] rfl trivial ?_;refine sb [(10,.v (.one (.orow 2 4 none))),(9,.v (.one (.ow 1 0))),(0,.v (.one (rp (zp a)))),(1,.v (.one (rp (zp b)))),(6,.v (.one (.orow 0 4 none)))] [.row false 35 4 (frow (zp (q.set K c))),.blk 35 (fr (c:Rat)),.row false 35 4 (frow (zp (List.replicate K 0)))] rfl rfl ?_;have p2:=Zaq (p:=a) (q:=Ta K (Uu b c)) (W9 hab (by decide)) (W9 (Qzt (U9 hbb hcs)) (by decide)) (by omega) (by rw [Qjk]; omega);rw [<-Zdi] at p2;refine go tt [.c [] (Qz7 (c:=c) (W9 hbb (by decide)) (by omega) (by omega)),.s (sz:=4) (Qd7 (zp (Uu b c))),.c [2] p2] rfl (by simp [Ua,hzl,hpl]; omega) ?_;exact rd (j,Tp a (Ta K (Uu b c)),q.set K c) (by dsimp only; omega) ⟨hrj,hqs c⟩ rfl
def zls (l:List (List Int)):List (List LV):=l.map λp=>[rp (zp p)]
theorem A5 (l:List (List Int)):(zls l).length=l.length:=by simp [zls]
theorem Qdl (l:List (List Int)) (g:List Int):zls l++[[rp (zp g)]]=zls (l++[g]):=by simp [zls]
theorem A4 {l:List (List Int)} {i:Nat} (h:i<l.length):(zls l)[i]? = some [rp (zp (l.getD i []))]:=Ga (Quf h)
theorem Zch (x:LV):∀ c∈[[x]],c.length=1:=λc hc=>by rw [Qp.1 hc]; rfl
theorem Qho {a b q:List Int} (h:DOk a b q):∃ r,Ub Tryz.prog 259 [.one (rp (zp a)),.one (rp (zp b))] [.one (rp (zp q)),.one (rp (zp r))]:=by
 obtain ⟨h1,h2,h3,h4,qf,r,n,h5,h6,h7,rfl⟩:=h;exact ⟨r,Qz8 h1 h2 h3 h4 h5 h7⟩
theorem Qtw {a:List Int} {mf:Nat} {f:Nat->List Int} (ta:Uf a) (ha:Bd 9000000 a) (la:a.length<=1000) (h2:2<=a.length) (hF:FRun a mf f):Ub Tryz.prog 202 [.one (rp (zp a))] [.one (.row (zls (Qjq f mf)))]:=by
 obtain ⟨⟨n,ls,hrun,hlen,hq⟩,hms⟩:=hF;have hal:=fzl a;refine Gk Tryz.func202 rfl ?_;refine go tt [.f (decide_eq_false (by omega)),.c [] (D5 ta ha la),.o 3 28 1,.lo] rfl trivial ?_;refine sb [(3,.v (.one (.orow 0 1 none))),(4,.v (.one (.orow 1 1 none)))] [.row false 28 1 [],.row false 28 1 (zls [Gf a])] rfl rfl ?_;refine lp (S:=Nat×List (List Int)) 2 (λL1 s=>(4,.v (.one (.orow 1 1 none)))::L1) (λs=>[.row false 28 1 [],.row false 28 1 (zls s.2)]) (λs=>s.1) (λs=>LRun s.1 s.2 ls/\0<s.2.length/\s.2.length<=1001) (n,[Gf a]) ⟨hrun,by show 0<1; decide,by show 1<=1001; decide⟩ rfl (λ_ _=>rfl) rfl λ⟨k,l⟩ ⟨hs1,hs2,hs3⟩=>?_
 have hs1:LRun k l ls:=hs1;have hs2:0<l.length:=hs2;have hs3:l.length<=1001:=hs3;have hll:=A5 l;have hlast:(zls l)[l.length-1]? = some [rp (zp (Sj l))]:=A4 (by omega);have hpl:=fzl (Sj l);dsimp only;rcases hs1.inv with ⟨hk,hlf,hl1⟩ | ⟨j,m2,g,hk,hg1,hg2,hg3,hg4,hg5,hg6,hg7,hlr⟩
 ·have hlm:l.length=mf+1:=by rw [hlf]; exact hlen
  rw [<-hlf] at hq;have hl2:=A5 (l++[[1]]);have hl3:(l++[[1]]).length=mf+2:=by simp [hlm]
  refine go tt [.r 23 (eI (b:=((l.length-1:Nat):Int)) (by omega)),.i (l.length-1),.x hlast,.f (decide_eq_false (by omega)),.c [] Q31,.s (sz:=1) (Zch _)] rfl (by simp [Ua,hll]; omega) ?_;rw [Qdl];refine lp (S:=Nat) 2 (λL1 i=>(6,.v (.one (.int .i64 (i:Int))))::(3,.v (.one (.orow 0 1 none)))::L1) (λi=>[.row false 28 1 (zls (Qjq f i)),.row false 28 1 (zls (l++[[1]]))]) (λi=>mf-i) (λi=>i<=mf) 0 (Qi _) rfl (λ_ _=>rfl) rfl λi hi=>?_
  have htl:=A5 (Qjq f i);rw [Qsq] at htl;by_cases h:i<mf
  ·obtain ⟨x,y,z,hx,hy,hz,hf⟩:=hq i h;obtain ⟨rx,hdx⟩:=Qho hx;obtain ⟨ry,hdy⟩:=Qho hy;obtain ⟨rz,hdz⟩:=Qho hz;refine go tt [.t (decide_eq_true (by omega)),.i i,.x (A4 (by omega)),.i (i+1),.x (A4 (by omega)),.c [] hdx,.i (i+1),.x (A4 (by omega)),.i (i+2),.x (A4 (by omega)),.c [] hdy,.c [] (D5 hx.trim hx.bd hx.len),.c [] (D5 hy.trim hy.bd hy.len),.c [] hdz,.c [] (D5 hz.trim hz.bd hz.len),.s (sz:=1) (Zch _)] rfl (by simp [Ua,hl2,htl]; omega) ?_;exact rd (i+1) (by omega) h (by rw [Qdl,Q1v,hf]; rfl)
  ·have e:i=mf:=by omega
   rw [e];exact en tt [.f (decide_eq_false (by omega))] rfl rfl (by simp [Ua]; omega)
 ·subst hk;refine go tt [.r 23 (eI (b:=((l.length-1:Nat):Int)) (by omega)),.i (l.length-1),.x hlast,.t (decide_eq_true (by omega)),.r 31 (eI (b:=((l.length-1:Nat):Int)) (by omega)),.i (l.length-1),.x hlast,.c [] (Qtv (W9 hg4 (by decide)) (by omega)),.c [] (Zf2 hg3 (Ut _ _) hg4 hg5 hg2 (Qa (Te _) (by omega)) hg6),.s (sz:=1) (Zch _)] rfl (by simp [Ua,hll]; omega) ?_;exact rd (j,l++[g]) (by dsimp only; omega) ⟨hlr,by simp,by simp; omega⟩ (by rw [Qdl]; rfl)
theorem Qz9 {a:List Int} {mf:Nat} {f:Nat->List Int} (ta:Uf a) (ha:Bd 9000000 a) (la:a.length<=1000) (h2:2<=a.length) (hF:FRun a mf f) (hP:Zil mf f):Ub Tryz.prog 135 [.one (rp (zp a))] [.one (rp (zp (Et f mf)))]:=by
 have hms:=hF.small;have hal:=fzl a;have htl:=A5 (Qjq f mf);rw [Qsq] at htl;refine Gk Tryz.func135 rfl ?_;refine go tt [.f (decide_eq_false (by omega)),.c [] Q31,.c [] (Qtw ta ha la h2 hF)] rfl trivial ?_;refine lp (S:=Nat) 0 (λL1 i=>(15,.v (.one (.int .i64 (i:Int))))::(3,.v (.one (rp (zp (Et f i)))))::L1) (λ_=>[]) (λi=>mf-i) (λi=>i<=mf) 0 (Qi _) rfl (λ_ _=>rfl) rfl λi hi=>?_
 by_cases h:i<mf
 ·obtain ⟨g1,g2,g3,g4⟩:=hP i h;refine go tt [.t (decide_eq_true (by omega)),.x (Ga (f:=λp=>[rp (zp p)]) (Q8t h)),.c [] (Q30 (p:=Et f i) (q:=f i) (by omega) (by omega) g1 g3 (by decide))] rfl (by simp [Ua]; omega) ?_;exact rd (i+1) (by omega) h rfl
 ·have e:i=mf:=by omega
  rw [e];exact en tt [.f (decide_eq_false (by omega))] rfl rfl trivial
theorem Q0y {l:List (List Int)} (g:List Int) (h:0<l.length):(zls l++[[rp (zp g)]])[l.length-1]? = some [rp (zp (Sj l))]:=by
 rw [Zj (by rw [A5]; omega)];exact A4 (by omega)
theorem Qpy {a sq:List Int} {c:List (List Int)} (ta:Uf a) (ha:Bd 9000000 a) (la:a.length<=1000) (h2:2<=a.length) (hC:ChRun a sq c):Ub Tryz.prog 69 [.one (rp (zp a))] [.one (.row (zls c))]:=by
 obtain ⟨⟨mf,f,hF,hP,rfl⟩,⟨n,hcr⟩,hbd,hle,hsm⟩:=hC;refine Gk Tryz.func69 rfl ?_;refine go tt [.c [] (Qz9 ta ha la h2 hF hP),.lo,.c [] (Qtv (p:=Et f mf) (W9 hbd (by decide)) (by omega)),.c [] (Qp0 (p:=U3 (Et f mf)) (Ut _ _) (W9 (Qgf (t:=10) hbd (by omega)) (by decide)) (Qa (Te _) (by omega)))] rfl trivial ?_;refine sb [(5,.v (.one (rp (zp (Hf (U3 (Et f mf))))))),(4,.v (.one (.orow 0 1 none)))] [.row false 28 1 (zls [Et f mf])] rfl rfl ?_;refine lp (S:=Nat×List (List Int)×List Int) 1 (λL1 s=>(5,.v (.one (rp (zp s.2.2))))::(4,.v (.one (.orow 0 1 none)))::L1) (λs=>[.row false 28 1 (zls s.2.1)]) (λs=>s.1) (λs=>CRun s.1 s.2.1 s.2.2 c/\0<s.2.1.length/\s.2.1.length<=1001) (n,[Et f mf],Hf (U3 (Et f mf))) ⟨hcr,by show 0<1; decide,by show 1<=1001; decide⟩ rfl (λ_ _=>rfl) rfl λ⟨k,l,g⟩ ⟨hs1,hs2,hs3⟩=>?_
 have hs1:CRun k l g c:=hs1;have hs2:0<l.length:=hs2;have hs3:l.length<=1001:=hs3;have hll:=A5 l;have hgl:=fzl g;dsimp only;rcases hs1.inv with ⟨hk,hlf,hg0⟩ | ⟨j,m2,r,hk,hg1,hg2,hg3,hrr,hrt,hrb,hrl,hl0,hl1,hcj⟩
 ·subst hlf;exact en tt [.f (decide_eq_false (by omega))] rfl rfl trivial
 ·subst hk;refine go tt [.t (decide_eq_true (by omega)),.s (sz:=1) (Zch _),.r 23 (eI (b:=((l.length-1:Nat):Int)) (by simp; omega)),.i (l.length-1),.x (Q0y g hl0),.c [] (Qw7 (a0:=Sj l) (b:=g) (res:=r) hg1 hg2 hg3 hrr),.c [] (Qp0 (p:=r) hrt hrb hrl),.c [] (Q3x (p:=Hf r) (Qkf hrb) (Qa (Aq r) (by omega)))] rfl (by simp [Ua,hll]; omega) ?_;exact rd (j,l++[g],S5 (Hf r)) (by dsimp only; omega) ⟨hcj,by simp,by simp; omega⟩ (by rw [Qdl]; rfl)
theorem Q2m {q:Rat} (h1:Ul q.num<=1000000) (h2:Ul (q.den:Int)<=1000000):Bd 9000000 [-q.num,(q.den:Int)]:=λz hz=>by
 simp only [Qx,Wq,or_false] at hz;rcases hz with rfl | rfl
 ·rw [Fx]; omega
 ·omega
abbrev aq (q:Rat) (c:List (List Int)):List LV:=[rp (zp [-q.num,(q.den:Int)]),.row (zls c)]++fr q++fr q
theorem Qpz {q:Rat} {c:List (List Int)} (hq:Qs 1000000 q) (hC:Qwd q c):Ub Tryz.prog 10 [.agg (fr q)] [.agg (aq q c)]:=by
 obtain ⟨sq,hch⟩:=hC;have co:=Ca (n:=1) (by decide);exact w tt Tryz.func10 rfl [.c [] co,.c [] (Pv (n:=q.num)),.c [] (Q22 (z:=q.num)),.c [] co,.c [] (Pv (n:=(q.den:Int))),.c [] (Qpy (a:=[-q.num,(q.den:Int)]) (Qo2 q) (Q2m hq.1 hq.2) (by show 2<=1000; decide) (Qj 2) hch)] rfl rfl trivial
theorem Qhq {q:Rat} {c:List (List Int)} (hq:Qs 1000000 q):Ub Tryz.prog 89 [.agg (aq q c)] [.one (.bool true)]:=by
 have cr:=Ch (a:=q) (b:=q) (hq.mono (by decide)) (hq.mono (by decide));rw [Np] at cr;exact w tt Tryz.func89 rfl [.c [] cr] rfl rfl trivial
theorem Q1b {p:List Int} (h:p.length=0) (q:Rat):U5 p q=0:=by rw [Qh h]; rfl
theorem Qw6 {p:List Int} {q:Rat} {c:List (List Int)} (hp:Bd 30000000 p) (hl:p.length<=64) (hq:Qs 1000000 q):Ub Tryz.prog 90 [.one (rp (zp p)),.agg (aq q c)] [.one (.bool (decide (U5 p q=0)))]:=by
 have hpl:=fzl p;rcases Qy p.length with h0 | h0
 ·rw [decide_eq_true (Q1b h0 q)];exact w tt Tryz.func90 rfl [.t (decide_eq_true (by omega))] rfl rfl trivial
 ·exact w tt Tryz.func90 rfl [.f (decide_eq_false (by omega)),.c [] (Qhq hq),.t rfl,.c [] (Qb2 hp hl hq)] rfl rfl trivial
theorem Qkj {p:List Int} {q:Rat} {c:List (List Int)} (hp:Bd 30000000 p) (hl:p.length<=64) (hq:Qs 1000000 q):Ub Tryz.prog 70 [.one (rp (zp p)),.agg (aq q c)] [.one (.int .i64 (U5 p q))]:=by
 by_cases h0:U5 p q=0
 ·have cz:=Qw6 (c:=c) hp hl hq;rw [h0] at cz ⊢;exact w tt Tryz.func70 rfl [.c [] cz,.t rfl] rfl rfl trivial
 ·exact w tt Tryz.func70 rfl [.c [] (Qw6 hp hl hq),.f (decide_eq_false h0),.c [] (Qhq hq),.g 11 true rfl,.t rfl,.c [] (Qb2 hp hl hq)] rfl rfl trivial
theorem Ip {p:List Int} {q:Rat} {c:List (List Int)} (hp:Bd 20000000 p) (hl:p.length<=64) (hq:Qs 1000000 q):Ub Tryz.prog 15 [.one (rp (zp p)),.agg (aq q c)] [.one (.int .i64 (Lq p q))]:=by
 refine Gk Tryz.func15 rfl ?_;refine go tt [] rfl trivial ?_;refine lp (S:=List Int) 1 (λL1 r=>(0,.v (.one (rp (zp r))))::L1) (λ_=>[.blk 37 (aq q c)]) (λr=>r.length) (λr=>r.length<=64/\Bd (25000000-30*r.length) r/\To (λp=>U5 p q) r.length r=Lq p q) p ⟨hl,W9 hp (by omega),rfl⟩ rfl (λ_ _=>rfl) rfl λr ⟨hr0,hr1,hr2⟩=>?_
 have hrl:=fzl r;rcases Qy r.length with h0 | h0
 ·rw [Qfj _ h0] at hr2;exact en tt [.f (decide_eq_false (by omega))] rfl (by rw [<-hr2]) trivial
 by_cases hs:U5 r q=0
 ·have hd:=Te r;refine go tt [.t (decide_eq_true (by omega)),.c [] (Qkj (p:=r) (c:=c) (W9 hr1 (by omega)) hr0 hq),.f (decide_eq_false (λh=>h hs)),.c [] (Qtv (p:=r) (W9 hr1 (by omega)) (by omega))] rfl trivial ?_;exact rd (U3 r) (by omega) ⟨by omega,W9 (Qgf (t:=6) hr1 (by omega)) (by omega),by rw [<-hr2,Qfi _ h0 hs]⟩ rfl
 ·exact en tt [.t (decide_eq_true (by omega)),.c [] (Qkj (p:=r) (c:=c) (W9 hr1 (by omega)) hr0 hq),.t (decide_eq_true hs)] rfl (by rw [<-hr2,Qfh _ h0 hs]) trivial
end Orr
namespace Orr
def rxs (p:List Int) (d:Int):List Rat:=p.map λ(z:Int)=>(z:Rat) / (d:Rat)
theorem Li (p:List Int) (d:Int):(rxs p d).length=p.length:=Zd _
theorem Zc9 {p:List Int} {i:Nat} {z:Int} {d:Int} (h:p[i]? = some z):(rxs p d)[i]? = some ((z:Rat) / (d:Rat)):=by simp [rxs,h]
theorem Q74 (p:List Int) (d:Int) (i:Nat):(rxs p d).getD i 0=((p.getD i 0:Int):Rat) / (d:Rat):=by
 simp only [Qg,rxs,Q5];cases p[i]? with
 | none=>simp; grind
 | some z=>rfl
theorem Ad (z d:Int):(z:Rat) / (d:Rat)=Rat.divInt z d:=by
 by_cases h:d=0
 ·subst h; simp; grind
 ·rw [Ju];have e1:(z:Rat)=Rat.divInt z 1:=by have:=Zq (z:Rat); simpa using this.symm
  have e2:(d:Rat)⁻¹=Rat.divInt 1 d:=by
   have:(d:Rat)=Rat.divInt d 1:=by have:=Zq (d:Rat); simpa using this.symm
   rw [this,Rat.inv_divInt]
  rw [e1,e2,Kn];simp
theorem Za8 {z d:Int} (hd:0<d):(((z:Rat) / (d:Rat)).den:Int)*(Int.gcd z d:Nat)=d:=by
 rw [Ad];have h:=(Qny (n:=z) hd).2;rw [<-h,Ms,Int.gcd_comm];exact Ky (Vf ..)
theorem Q56 {d a b L:Nat} (hd:0<d) (ha:L*a=d) {D:Nat} (hb:D*b=d):L*D / Nat.gcd L D*Nat.gcd a b=d:=by
 have hL:0<L:=Wd λe=>by rw [e] at ha; omega
 have hD:0<D:=Wd λe=>by rw [e] at hb; omega
 have hg:0<Nat.gcd L D:=Nat.gcd_pos_of_pos_left _ hL;show Nat.lcm L D*Nat.gcd a b=d;rw [<-Nat.gcd_mul_left];refine Nat.dvd_antisymm ?_ ?_
 ·-- gcd (M a) (M b) | d
  obtain ⟨u,hu⟩:=Ki L D;obtain ⟨v,hv⟩:=Wm L D;have hM:Nat.lcm L D=Nat.gcd L D*(u*v):=by
   unfold Nat.lcm
   conv=>lhs; rw [show L*D=Nat.gcd L D*u*(Nat.gcd L D*v) by rw [<-hu,<-hv]]
   rw [show Nat.gcd L D*u*(Nat.gcd L D*v)=Nat.gcd L D*(Nat.gcd L D*(u*v)) by rw [Xo,Kf u,]];exact Nat.mul_div_cancel_left _ hg
  have h1:Nat.lcm L D*a=v*d:=by
   rw [hM,<-ha]
   conv=>rhs; rw [hu]
   simp [Zf,Kf,Xo]
  have h2:Nat.lcm L D*b=u*d:=by
   rw [hM,<-hb]
   conv=>rhs; rw [hv]
   simp [Zf,Kf,Xo]
  have huv:Nat.gcd u v=1:=by
   have:=Nat.gcd_mul_left (Nat.gcd L D) u v;rw [<-hu,<-hv] at this;exact Nat.eq_of_mul_eq_mul_left hg (by omega)
  rw [h1,h2,Nat.gcd_mul_right,Kw,huv,K9];exact Nat.dvd_refl d
 ·refine Nat.dvd_gcd ?_ ?_
  ·rw [<-ha]; exact Nat.mul_dvd_mul_right (Nat.dvd_lcm_left L D) a
  ·rw [<-hb]; exact Nat.mul_dvd_mul_right (Nat.dvd_lcm_right L D) b
def lcd (z:List Int) (d:Int):Nat->Int
 | 0=>1
 | i+1=>lcd z d i*((((z.getD i 0:Int):Rat) / (d:Rat)).den:Int) / (Int.gcd (lcd z d i) ((((z.getD i 0:Int):Rat) / (d:Rat)).den:Int):Nat)
theorem Qul {z:List Int} {d:Int} (hd:0<d):∀ i,i<=z.length->lcd z d i*((Gl (d::z.take i):Nat):Int)=d
 |
  0,_=>by
  show 1*_=d;have:((Gl [d]:Nat):Int)=d:=by unfold Gl; simp; omega
  rw [Vn,this,Yn]
 |
  i+1,hi=>by
  have ih:=Qul (z:=z) hd i (by omega);have hz:z[i]? = some (z.getD i 0):=Qec (l:=z) (by omega);have hstep:Gl (d::z.take (i+1))=Nat.gcd (Gl (d::z.take i)) (z.getD i 0).natAbs:=by
   have:=Qea (l:=d::z) (i:=i+1) (z:=z.getD i 0) (by simpa using hz);simpa using this
  have hdn:=Za8 (z:=z.getD i 0) hd;simp only [lcd];generalize hL:lcd z d i=L at *;generalize hD:(((z.getD i 0:Int):Rat) / (d:Rat)).den=D at *;have hLp:0<L:=by
   rcases Jz L 0 with h | h | h
   ·have:=Int.mul_nonneg (Int.neg_nonneg_of_nonpos (Int.le_of_lt h)) (Int.natCast_nonneg (Gl (d::z.take i)));rw [Y9] at this; omega
   ·rw [h,J4] at ih; omega
   ·exact h
  obtain ⟨l,rfl⟩:=Yi (Int.le_of_lt hLp);obtain ⟨e,rfl⟩:=Yi (Int.le_of_lt hd);have h1:l*Gl (((e:Nat):Int)::z.take i)=e:=by exact_mod_cast ih
  have h2:D*Int.gcd (z.getD i 0) ((e:Nat):Int)=e:=by exact_mod_cast hdn
  have h3:=Q56 (d:=e) (by omega) h1 h2;have h4:Nat.gcd (Gl (((e:Nat):Int)::z.take i)) (Int.gcd (z.getD i 0) ((e:Nat):Int))=Nat.gcd (Gl (((e:Nat):Int)::z.take i)) (z.getD i 0).natAbs:=by
   have hge:Gl (((e:Nat):Int)::z.take i)∣e:=⟨l,by rw [Zf]; exact h1.symm⟩;show Nat.gcd _ (Nat.gcd (z.getD i 0).natAbs e)=_;rw [Kw (z.getD i 0).natAbs e,<-Nat.gcd_assoc,Nat.gcd_eq_left hge]
  rw [hstep,<-h4];rw [show Int.gcd ((l:Nat):Int) ((D:Nat):Int)=Nat.gcd l D by simp [Int.gcd]]
  exact_mod_cast h3
theorem Zbu {x y:List Int} {d:Int} (hd:0<d) (hg:Gl (d::(x++y))=1):lcd (x++y) d (x++y).length=d:=by
 have:=Qul (z:=x++y) hd (x++y).length (Qj _);rw [Za,hg] at this;simpa using this
theorem Zbw {z:List Int} {d:Int} (hd:0<d) {i:Nat} (hi:i<=z.length):Ul (lcd z d i)<=Ul d:=by
 have h:=Qul (z:=z) hd i hi;refine Hr ?_;have h0:Gl (d::z.take i)≠0:=λe=>by rw [e] at h; simp at h; omega
 have:d.natAbs=(lcd z d i).natAbs*Gl (d::z.take i):=by
  conv=>lhs; rw [<-h]
  rw [Jv]; simp
 rw [this];exact Jm _ (Wd h0)
end Orr
namespace Orr
open Go Go.Proofs
set_option maxRecDepth 10000
abbrev cl4 (k:Crv):List LV:=[pl k.x,pl k.y,sg k.d,mg k.d]
abbrev rcl (c:Crv):List LV:=[rp (rxs c.x c.d),rp (rxs c.y c.d)]++cl4 c
def rpt (p:Pt):List LV:=rcl p.c++[.int .i64 p.id]
def U4 (l:List Pt):List (List LV):=l.map rpt
structure Rs (k:Crv):Prop where
 n:Nml k
 c:Cs 100000 16 k
theorem Rs.d0 {k:Crv} (h:Rs k):0<k.d:=h.n.2.2.1
theorem Qvj {x:List Int} {d:Int} {s:Nat} (hx:Bd s x) (hd:Ul d<=s) (h1:1<=s):Rb s (rxs x d):=λq hq=>by
 obtain ⟨z,hz,rfl⟩:=Zg.1 hq;rw [Ad];exact Qs.divInt (hx z hz) hd h1
theorem Qjh {x:List Int} {d:Int} (tx:Uf x) (hd:d≠0):Pp (rxs x d) (d:Rat)=zp x:=by
 have hd':(d:Rat)≠0:=λe=>hd (by exact_mod_cast e)
 unfold Pp;rw [Qg6 (g:=λi=>x.getD i 0) _ λi _=>?_,Li,Qix,Nf,tx];rw [Q74]; grind
theorem Qp1 {p:List Rat} {c:Int} (hp:Rb 40000000 p) (hc:Ul c<=40000000) (hl:p.length<=1000000):Ub Tryz.prog 290 [.one (rp p),.agg (ri c)] [.one (rp (Pp p (c:Rat)))] :=
 w tt Tryz.func290 rfl [.c [] (Ca (n:=1) (by decide)),.c [] (Pv (n:=c)),.c [] (Ec (p:=p) (c:=(c:Rat)) hp (B7 hc (by omega)) hl)] rfl rfl trivial
theorem Zc8 (x y:List Int) (d:Int):frow (rxs x d)++frow (rxs y d)=frow (rxs (x++y) d):=by simp [rxs,frow]
theorem Qc7 {z:List Int} {d:Int} {i:Nat} (h:i<z.length):(rxs z d)[i]? = some (((z.getD i 0:Int):Rat) / (d:Rat)):=Zc9 (Qec h)
theorem Qj2 (a b:Int) (hb:b≠0) {s:Nat} (h:Ul b<=s):Ul ((Int.gcd a b:Nat):Int)<=s:=by
 refine Qa (Hr ?_) h;simp only [Zw];exact Vx (by omega) (by simpa using Xl.2 (Vf a b))
theorem Zbv (a b:Int):(a*b) % ((Int.gcd a b:Nat):Int)=0:=Jw (Vv (Wo ..) (Kc a b))
theorem Qkk {k:Crv} (hs:Rs k):Ub Tryz.prog 253 [.one (rp (rxs k.x k.d)),.one (rp (rxs k.y k.d))] [.agg (rcl k)]:=by
 have hlx:=hs.c.lx;have hly:=hs.c.ly;have hds:=hs.c.d;have hxy:Bd 100000 (k.x++k.y):=λz hz=>by rcases Q0.1 hz with h | h; exact hs.c.x z h; exact hs.c.y z h
 have hfx:(frow (rxs k.x k.d)).length=k.x.length:=by rw [Rr,Li]
 have hfy:(frow (rxs k.y k.d)).length=k.y.length:=by rw [Rr,Li]
 have hfl:(frow (rxs (k.x++k.y) k.d)).length=k.x.length+k.y.length:=by rw [Rr,Li,Q8]
 have hd0:=hs.d0;refine Gk Tryz.func253 rfl ?_;refine go tt [.c [] (Ca (n:=1) (by decide)),.s (sz:=4) (Qd7 _),.s (sz:=4) (Qd7 _)] rfl (by simp [Ua,hfx,hfy]; omega) ?_;rw [Zc8];refine lp (S:=Nat) 3 (λL1 i=>(15,.v (.one (.int .i64 (i:Int))))::L1) (λi=>[.blk 55 [.nils,.nils,.nils,.nils,.bool false,.nils],.blk 33 (ri (lcd (k.x++k.y) k.d i)),.row false 35 4 (frow (rxs (k.x++k.y) k.d))]) (λi=>k.x.length+k.y.length-i) (λi=>i<=k.x.length+k.y.length) 0 (Qi _) rfl (λ_ _=>rfl) rfl λi hi=>?_
 have hll:(k.x++k.y).length=k.x.length+k.y.length:=Q8;by_cases h:i<k.x.length+k.y.length
 ·have hlt:i<(k.x++k.y).length:=by omega
  have hqe:=Qvj (x:=(k.x++k.y)) (d:=k.d) (s:=100000) hxy hs.c.d (by decide);have hqi:=hqe.get (Qc7 hlt);obtain ⟨D,hD⟩:=nmE (((((k.x++k.y).getD i 0:Int):Rat) / (k.d:Rat)));have hg:=De (Qc7 (d:=k.d) hlt);have es:lcd (k.x++k.y) k.d (i+1)=lcd (k.x++k.y) k.d i*(D.den:Int) / ((Int.gcd (lcd (k.x++k.y) k.d i) (D.den:Int):Nat):Int):=by rw [hD]; rfl
  rw [<-hD] at hqi hg;have hq2:=hqi.2;have hli:=Qa (Zbw (z:=(k.x++k.y)) hs.d0 (i:=i) (by omega)) hs.c.d;have hg0:((Int.gcd (lcd (k.x++k.y) k.d i) (D.den:Int):Nat):Int)≠0:=by have:=Int.gcd_ne_zero_right (a:=(lcd (k.x++k.y) k.d i)) (Ma D); omega
  have hmu:=Uv (lcd (k.x++k.y) k.d i) (D.den:Int);refine go tt [.t (decide_eq_true (by omega)),.i i,.x hg,.c [] (Sw (a:=lcd (k.x++k.y) k.d i) (b:=(D.den:Int)) (by omega) (by omega)),.i i,.x hg,.c [] (Qhm (a:=lcd (k.x++k.y) k.d i) (b:=(D.den:Int)) (by omega) (by omega)),.c [] (Qdw (by omega) (Qa (Qj2 _ _ (Ma D) hq2) (by decide)) hg0 (Zbv _ _))] rfl (by simp [Ua,hfl]; omega) ?_;exact rd (i+1) (by omega) h (by rw [es]; rfl)
 have e:lcd (k.x++k.y) k.d i=k.d:=by rw [show i=(k.x++k.y).length by omega]; exact Zbu hs.d0 hs.n.2.2.2
 rw [e];have hx:=Qp1 (p:=rxs k.x k.d) (c:=k.d) ((Qvj (s:=100000) hs.c.x hs.c.d (by decide)).mono (by omega)) (by omega) (by rw [Li]; omega);have hy:=Qp1 (p:=rxs k.y k.d) (c:=k.d) ((Qvj (s:=100000) hs.c.y hs.c.d (by decide)).mono (by omega)) (by omega) (by rw [Li]; omega);rw [Qjh hs.n.1 (by omega)] at hx;rw [Qjh hs.n.2.1 (by omega)] at hy;exact en tt [.f (decide_eq_false (by omega)),.c [] hx,.c [] (Zef (p:=k.x) (W9 hs.c.x (by omega)) (by omega)),.c [] hy,.c [] (Zef (p:=k.y) (W9 hs.c.y (by omega)) (by omega)),.c [] (Q3h (z:=k.d) (by omega))] rfl rfl trivial
theorem Qon (k:Crv):Ft 1 k.d'=((1:Int):Rat) / (k.d':Rat):=by
 unfold Ft; rw [if_neg k.d'_ne,Ad]
theorem Qfw {x:List Int} {g d:Int} (hg:g≠0) (hd:d≠0) (hgd:g∣d) (tx:Uf x) (hx:∀ z∈x,g∣z):Pp (zp x) (((1:Int):Rat) / (d:Rat))=rxs (trim (x.map (· / g))) (d / g):=by
 have ht:Uf (x.map (· / g)):=Dw tx hg hx;rw [show trim (x.map (· / g))=x.map (· / g) from ht];obtain ⟨e,rfl⟩:=hgd;have he:e≠0:=λh=>hd (by rw [h,Vk])
 rw [Xw _ hg];have hgq:(g:Rat)≠0:=λh=>hg (by exact_mod_cast h)
 have heq:(e:Rat)≠0:=λh=>he (by exact_mod_cast h)
 unfold Pp;rw [Si];have hval:∀ i,i<x.length->(zp x).getD i 0*(((1:Int):Rat) / ((g*e:Int):Rat))=(((x.map (· / g)).getD i 0:Int):Rat) / (e:Rat):=λi hi=>by
  rw [Qdm];have hz:=Qec hi;have hm:(x.map (· / g)).getD i 0=x.getD i 0 / g:=by simp [Qg,Qd hi]
  obtain ⟨w,hw⟩:=hx _ (Qc hz);rw [hm,hw,Xw _ hg,Xz,Xz];have:((1:Int):Rat)=1:=rfl;rw [this];grind
 have htab:Ig (λi=>(zp x).getD i 0*(((1:Int):Rat) / ((g*e:Int):Rat))) x.length=rxs (x.map (· / g)) e:=by
  apply Xs;intro i;by_cases hi:i<x.length
  ·rw [Qc7 (by simpa using hi)];simp only [Ig,Q5,X2 hi,Y7];rw [hval i hi]
  ·rw [Qr (by rw [Qdb]; omega),Qr (by rw [Li]; simp; omega)]
 rw [htab];rcases Qy x.length with h0 | h0
 ·have:=Qh h0; subst this; rfl
 ·have hl:(rxs (x.map (· / g)) e).length=x.length:=by rw [Li,Zd]
  have:=Qez (l:=rxs (x.map (· / g)) e) (m:=x.length) (by omega) (λj y hj hy=>by rw [Qr (by omega)] at hy; cases hy) (λ_=>⟨_,Qc7 (z:=x.map (· / g)) (d:=e) (i:=x.length-1) (by rw [Zd]; omega),λh=>by
   have h3:(((x.map (· / g)).getD (x.length-1) 0:Int):Rat)=0:=by grind
   have h4:(x.map (· / g)).getD (x.length-1) 0=0:=by exact_mod_cast h3
   have:=Gi ht (by rw [Zd]; omega);rw [Zd] at this;exact this h4⟩)
  rw [this,Qm (by omega)]
theorem Q7l {k:Crv} (hk:Cs 100000 16 k):Qs 40000000 (Ft 1 k.d'):=by
 have h1:=Qnq hk.d (by decide);rw [Qon,Ad];exact Qs.divInt (by decide) (by omega) (by decide)
theorem Crv.g_dvd' (k:Crv) {z:Int} (h:z∈k.d'::(trim k.x++trim k.y)):k.g∣z:=Yh (k.g_dvd z h)
theorem Q7x (k:Crv):Pp (zp (trim k.x)) (Ft 1 k.d')=rxs k.norm.x k.norm.d:=by
 rw [Qon];exact Qfw k.g_ne k.d'_ne (k.g_dvd' (by simp)) (Gu _) (λz hz=>k.g_dvd' (by simp [hz]))
theorem Q7y (k:Crv):Pp (zp (trim k.y)) (Ft 1 k.d')=rxs k.norm.y k.norm.d:=by
 rw [Qon];exact Qfw k.g_ne k.d'_ne (k.g_dvd' (by simp)) (Gu _) (λz hz=>k.g_dvd' (by simp [hz]))
theorem Qzd {k:Crv} (h:Cs 100000 16 k):Rs k.norm:=⟨k.nml,h.norm (by decide)⟩
theorem Zar {k:Crv} (hk:Cs 100000 16 k):Ub Tryz.prog 199 [.agg (cl4 k)] [.agg (rcl (Crv.norm k))]:=by
 have hlx:=hk.lx;have hly:=hk.ly;have hkd:=hk.d;have hrq:=Q7l hk;have hdi:Ul k.d'<=100000:=Qnq hk.d (by decide);have hx:=Ec (p:=zp (trim k.x)) (c:=Ft 1 k.d') (Qaz (W9 (Rj hk.x) (by omega)) (by omega)) hrq (by rw [Si]; have:=G0 k.x; omega);have hy:=Ec (p:=zp (trim k.y)) (c:=Ft 1 k.d') (Qaz (W9 (Rj hk.y) (by omega)) (by omega)) hrq (by rw [Si]; have:=G0 k.y; omega);rw [Q7x] at hx;rw [Q7y] at hy;have c1:=Ca (n:=1) (by decide);have cm:=O3 (a:=1) (b:=k.d') (by decide) (by omega);by_cases h0:k.d=0
 ·have e:k.d'=1:=by unfold Crv.d'; rw [if_pos h0]
  rw [e] at hx hy cm;exact w tt Tryz.func199 rfl [.c [] (Qdv (z:=k.d) (by omega)),.c [] P5,.t (decide_eq_true h0),.c [] c1,.c [] c1,.c [] cm,.c [] (D4 (p:=k.x) (W9 hk.x (by omega)) (by omega)),.c [] hx,.c [] (D4 (p:=k.y) (W9 hk.y (by omega)) (by omega)),.c [] hy,.c [] (Qkk (Qzd hk))] rfl rfl trivial
 ·have e:k.d'=k.d:=by unfold Crv.d'; rw [if_neg h0]
  rw [e] at hx hy cm;exact w tt Tryz.func199 rfl [.c [] (Qdv (z:=k.d) (by omega)),.c [] P5,.f (decide_eq_false h0),.c [] c1,.c [] cm,.c [] (D4 (p:=k.x) (W9 hk.x (by omega)) (by omega)),.c [] hx,.c [] (D4 (p:=k.y) (W9 hk.y (by omega)) (by omega)),.c [] hy,.c [] (Qkk (Qzd hk))] rfl rfl trivial
theorem Q36 {k:Crv} {id:Int} (hk:Cs 100000 16 k):Ub Tryz.prog 126 [.agg (cl4 k++[.int .i64 id])] [.agg (rpt ⟨Crv.norm k,id⟩)] :=
 w tt Tryz.func126 rfl [.c [] (Zar hk)] rfl rfl trivial
theorem Qm2 {k:Crv} (hk:Rs k):Ub Tryz.prog 72 [.agg (rcl k)] [.one (rp (zp k.x)),.one (rp (zp k.y)),.one (rp (zp [k.d]))]:=by
 have hlx:=hk.c.lx;have hly:=hk.c.ly;have hkd:=hk.c.d;have hx:=D4 (p:=k.x) (W9 hk.c.x (by omega)) (by omega);have hy:=D4 (p:=k.y) (W9 hk.c.y (by omega)) (by omega);rw [show trim k.x=k.x from hk.n.1] at hx;rw [show trim k.y=k.y from hk.n.2.1] at hy;exact w tt Tryz.func72 rfl [.c [] (Qdv (z:=k.d) (by omega)),.c [] (Ca (n:=1) (by decide)),.c [] (Pv (n:=k.d)),.c [] hx,.c [] hy] rfl rfl trivial
theorem Qu3 {p:List Int} {d:Int} (tp:Uf p) (hd:d≠0):Fv p [d]=Uu p d:=by
 refine I1 (Gd _ _) (Ut _ _) λm=>?_
 unfold Uu;rw [H9];unfold Fv;by_cases h0:p.length=0
 ·rw [if_pos (.inl h0),if_neg (by omega)]; rfl
 ·rw [if_neg (by simp; exact λh=>h0 (by rw [h]; rfl)),C5];show (My p [d] (List.replicate (p.length+1-1) 0) p.length).getD m 0=_;have key:∀ i,i<=p.length->(My p [d] (List.replicate (p.length+1-1) 0) i).getD m 0=if m<i then p.getD m 0*d else 0:=by
   intro i
   induction i with
   | zero=>intro _; simp only [My]; rw [Hm,if_neg (by omega)]
   |
    succ i ih =>
    intro hi;simp only [My];rw [Qeo _ _ _ _ _ _ (by rw [Mz,X9]; show i+1<=_; omega),ih (by omega)];show (if i<=m/\m<i+1 then (if m<i then p.getD m 0*d else 0)+p.getD i 0*[d].getD (m-i) 0 else _)=_;by_cases e:m=i
    ·subst e;rw [if_pos ⟨Qj _,by omega⟩,if_neg (by omega),if_pos (by omega),Ye];show 0+p.getD m 0*d=_;omega
    ·rw [if_neg (by omega)];by_cases h1:m<i
     ·rw [if_pos h1,if_pos (by omega)]
     ·rw [if_neg h1,if_neg (by omega)]
  rw [key _ (Qj _)]
theorem Zl8 {s:Nat} {d:Int} (h:Ul d<=s):Bd s [d]:=λz hz=>by simp at hz; subst hz; exact h
theorem Qmz {p:List Int} {d:Int} (tp:Uf p) (hd:d≠0) (hp:Bd 9000000 p) (hs:Ul d<=9000000) (hl:p.length<=1000):Ub Tryz.prog 141 [.one (rp (zp p)),.one (rp (zp [d]))] [.one (rp (zp (Uu p d)))]:=by
 have h:=Q30 (p:=p) (q:=[d]) (by omega) (by show 1<=1000000; decide) hp (Zl8 hs) (by decide);rwa [Qu3 tp hd] at h
theorem Rs.dn {k:Crv} (h:Rs k):k.d≠0:=by have:=h.d0; omega
theorem Qw5 {p q:List Int} (hp:Bd 19000000 p) (hq:Bd 19000000 q) (hlp:p.length<=1000000) (hlq:q.length<=1000000):Ub Tryz.prog 144 [.one (rp (zp p)),.one (rp (zp q))] [.one (rp (zp (Tp p q)))]:=by
 have h:=Zf3 (Qaz hp (by decide)) (Qaz hq (by decide)) (by rw [Si]; exact hlp) (by rw [Si]; exact hlq);rwa [Qze] at h
theorem Qhr {a b:Crv} (ha:Rs a) (hb:Rs b):Ub Tryz.prog 74 [.agg (rcl a),.agg (rcl b)] [.one (rp (zp (He a b)))] :=
 w tt Tryz.func74 rfl [.c [] (Qm2 ha),.c [] (Qm2 hb),.c [] (Qmz (p:=b.x) (d:=a.d) hb.n.1 ha.dn (W9 hb.c.x (by decide)) (Qa ha.c.d (by decide)) (by have:=hb.c.lx; omega)),.c [] (Qmz (p:=a.x) (d:=b.d) ha.n.1 hb.dn (W9 ha.c.x (by decide)) (Qa hb.c.d (by decide)) (by have:=ha.c.lx; omega)),.c [] (Qw5 (p:=Uu b.x a.d) (q:=Uu a.x b.d) (W9 (U9 hb.c.x ha.c.d) (by decide)) (W9 (U9 ha.c.x hb.c.d) (by decide)) (by have:=Uz b.x a.d; have:=hb.c.lx; omega) (by have:=Uz a.x b.d; have:=ha.c.lx; omega))] rfl rfl trivial
theorem Ir {a b:Crv} (ha:Rs a) (hb:Rs b):Ub Tryz.prog 75 [.agg (rcl a),.agg (rcl b)] [.one (rp (zp (Gw a b)))] :=
 w tt Tryz.func75 rfl [.c [] (Qm2 ha),.c [] (Qm2 hb),.c [] (Qmz (p:=b.y) (d:=a.d) hb.n.2.1 ha.dn (W9 hb.c.y (by decide)) (Qa ha.c.d (by decide)) (by have:=hb.c.ly; omega)),.c [] (Qmz (p:=a.y) (d:=b.d) ha.n.2.1 hb.dn (W9 ha.c.y (by decide)) (Qa hb.c.d (by decide)) (by have:=ha.c.ly; omega)),.c [] (Qw5 (p:=Uu b.y a.d) (q:=Uu a.y b.d) (W9 (U9 hb.c.y ha.c.d) (by decide)) (W9 (U9 ha.c.y hb.c.d) (by decide)) (by have:=Uz b.y a.d; have:=hb.c.ly; omega) (by have:=Uz a.y b.d; have:=ha.c.ly; omega))] rfl rfl trivial
theorem Qag {a b:Crv} (ha:Rs a) (hb:Rs b):Bd 200001 (He a b)/\(He a b).length<=16:=by
 refine ⟨W9 (Dy (U9 hb.c.x ha.c.d) (U9 ha.c.x hb.c.d)) (by omega),Qa (Mv _ _) ?_⟩;have:=Uz b.x a.d; have:=Uz a.x b.d; have:=ha.c.lx; have:=hb.c.lx; omega
theorem Qaf {a b:Crv} (ha:Rs a) (hb:Rs b):Bd 200001 (Gw a b)/\(Gw a b).length<=16:=by
 refine ⟨W9 (Dy (U9 hb.c.y ha.c.d) (U9 ha.c.y hb.c.d)) (by omega),Qa (Mv _ _) ?_⟩;have:=Uz b.y a.d; have:=Uz a.y b.d; have:=ha.c.ly; have:=hb.c.ly; omega
end Orr
namespace Orr
open Go
structure RawInt where
 b:Bool
 l:List Nat
structure RawPt where
 x:List RawInt
 y:List RawInt
 d:RawInt
 id:Int
abbrev Qex (z:RawInt):List LV:=[.bool z.b,Zh4 z.l]
structure RawInt.Ok (z:RawInt):Prop where
 u:∀ u∈z.l,u<4294967296
structure RawPt.Ok (z:RawPt):Prop where
 x:∀ a∈z.x,a.Ok
 y:∀ a∈z.y,a.Ok
 d:z.d.Ok
 id:-9223372036854775808<=z.id/\z.id<=9223372036854775807
def RawInt.cut (z:RawInt):RawInt:=⟨z.b,z.l.take 1⟩
def H6 (most:Int) (z:RawInt):Int:=match z.l with
 | []=>0
 | u::_=>if z.b=true then -((u:Int) % (most+1)) else (u:Int) % (most+1)
theorem Qbf {most:Int} (h:0<=most) (z:RawInt):-most<=H6 most z/\H6 most z<=most:=by
 unfold H6
 split
 ·omega
 ·rename_i u _ _;have h1:=V1 (u:Int) (b:=most+1) (by omega);have h2:=Y3 (u:Int) (b:=most+1) (by omega)
  split <;> omega
def Gh (most:Int) (l:List RawInt):List Int:=(l.take 3).map (H6 most)
def Qci (most:Int) (x y:List RawInt) (d:RawInt):Crv:=⟨Gh most x,Gh most y,H6 3 d⟩
def Qaa (most:Int) (z:RawPt):Pt:=⟨Qci most z.x z.y z.d,z.id % 1000⟩
theorem Qfo (most:Int) (l:List RawInt):(Gh most l).length<=3:=by unfold Gh; rw [List.length_map,List.length_take]; omega
theorem Qnw {most:Int} {l:List RawInt} {i:Nat} {z:RawInt} (hi:i<3) (h:l[i]? = some z):Gh most (l.take (i+1))=Gh most (l.take i)++[H6 most z]:=by
 unfold Gh;rw [K6,K6,Vu (by omega),Vu (by omega),Xa,h];simp
theorem Qfn (most:Int) {l:List RawInt} {i:Nat} (h:l.length<=i\/3<=i):Gh most (l.take i)=Gh most l:=by
 unfold Gh;rw [K6];rcases Nat.le_total 3 i with h3 | h3
 ·rw [Zr h3]
 ·rcases h with h | h
  ·rw [Vu h3,Qm (l:=l) (i:=i) (by omega),Qm (l:=l) (i:=3) (by omega)]
  ·rw [Vu h3,show i=3 by omega]
theorem Qfp {most:Int} {l:List RawInt} {z:Int} (hm:0<=most) (h:z∈Gh most l):-most<=z/\z<=most:=by
 obtain ⟨a,_,rfl⟩:=Zg.1 h;exact Qbf hm a
theorem Qkp {most:Int} (hm:0<=most/\most<=999) (x y:List RawInt) (d:RawInt):Cs 10 3 (Qci most x y d):=by
 have key:∀ z:Int,-999<=z/\z<=999->Ul z<=10:=λz h=>Rh.2 (by omega)
 refine ⟨λz hz=>?_,λz hz=>?_,?_,Qfo _ _,Qfo _ _⟩
 ·have:=Qfp hm.1 hz; exact key _ (by omega)
 ·have:=Qfp hm.1 hz; exact key _ (by omega)
 ·have:=Qbf (most:=3) (by decide) d;show Ul (H6 3 d)<=10;exact key _ (by omega)
def Sr (n:Nat):List Pt->List Pt->List Pt
 | out,[]=>out
 | out,p::l=>if out.length<n then (if out.any (λx=>decide (x.id=p.id))=true then Sr n out l else Sr n (out++[p]) l) else out
theorem Ak {n:Nat}:∀ (l out:List Pt) (p:Pt),(Sr n out l).length<n->(Sr n out l).any (λx=>decide (x.id=p.id))=true->Sr n out (l++[p])=Sr n out l
 |
  [],out,p,h,ha=>by
  simp only [Sr] at h ha;show Sr n out [p]=out;simp only [Sr];rw [if_pos h,if_pos ha]
 |
  x::l,out,p,h,ha=>by
  show Sr n out (x::(l++[p]))=Sr n out (x::l);simp only [Sr] at h ha ⊢
  split
  ·rename_i h0;rw [if_pos h0] at h ha
   split
   ·rename_i h1;rw [if_pos h1] at h ha;exact Ak l out p h ha
   ·rename_i h1;rw [if_neg h1] at h ha;exact Ak l _ p h ha
  ·rfl
theorem Lp {n:Nat}:∀ (l out:List Pt) (p:Pt),(Sr n out l).length<n->(Sr n out l).any (λx=>decide (x.id=p.id))=false->Sr n out (l++[p])=Sr n out l++[p]
 |
  [],out,p,h,ha=>by
  simp only [Sr] at h ha;show Sr n out [p]=out++[p];simp only [Sr];rw [if_pos h,if_neg (by rw [ha]; simp)]
 |
  x::l,out,p,h,ha=>by
  show Sr n out (x::(l++[p]))=Sr n out (x::l)++[p];simp only [Sr] at h ha ⊢
  split
  ·rename_i h0;rw [if_pos h0] at h ha
   split
   ·rename_i h1;rw [if_pos h1] at h ha;exact Lp l out p h ha
   ·rename_i h1;rw [if_neg h1] at h ha;exact Lp l _ p h ha
  ·rename_i h0;rw [if_neg h0] at h;omega
theorem Qd9 {n:Nat}:∀ (l m out:List Pt),n<=(Sr n out l).length->Sr n out (l++m)=Sr n out l
 |
  [],m,out,h=>by
  simp only [Sr] at h;show Sr n out m=out
  match m with
  | []=>rfl
  | p::m=>simp only [Sr]; rw [if_neg (by omega)]
 |
  x::l,m,out,h=>by
  show Sr n out (x::(l++m))=Sr n out (x::l);simp only [Sr] at h ⊢
  split
  ·rename_i h0;rw [if_pos h0] at h
   split
   ·rename_i h1;rw [if_pos h1] at h;exact Qd9 l m out h
   ·rename_i h1;rw [if_neg h1] at h;exact Qd9 l m _ h
  ·rfl
theorem I2 {n:Nat}:∀ (l out:List Pt),out.length<=n->(Sr n out l).length<=n
 | [],out,h=>h
 |
  x::l,out,h=>by
  simp only [Sr]
  split
  ·split
   ·exact I2 l out h
   ·exact I2 l _ (by rw [Q8]; show _+1<=_; omega)
  ·exact h
theorem Qb9 {n:Nat}:∀ (l out:List Pt) {p:Pt},p∈Sr n out l->p∈out\/p∈l
 | [],out,p,h=>.inl h
 |
  x::l,out,p,h=>by
  simp only [Sr] at h
  split at h
  ·split at h
   ·rcases Qb9 l out h with h | h
    ·exact .inl h
    ·exact .inr (Ql _ h)
   ·rcases Qb9 l _ h with h | h
    ·rcases Q0.1 h with h | h
     ·exact .inl h
     ·exact .inr (by rw [Qp.1 h]; exact Qt ..)
    ·exact .inr (Ql _ h)
  ·exact .inl h
def Qeu (n:Nat) (most:Int) (zs:List RawPt):List Pt:=Sr n [] (zs.map (Qaa most))
def Pt.nrm (p:Pt):Pt:=⟨p.c.norm,p.id⟩
end Orr
namespace Orr
def Nz (l:List Pt):Prop:=l.Pairwise λa b=>a.id<b.id
theorem Zbl (id:Int):has [] id=false:=rfl
theorem Qqv (p:Pt) (l:List Pt) (id:Int):has (p::l) id=if p.id<id then has l id else decide (p.id=id):=by
 by_cases h:p.id<id
 ·rw [if_pos h]; unfold has; simp only [pos]; rw [if_pos h]; simp
 ·rw [if_neg h]; unfold has; simp only [pos]; rw [if_neg h]; simp
theorem Q7d (p:Pt) (l:List Pt) (q:Pt):put (p::l) q=if p.id<q.id then p::put l q else q::p::l:=by
 unfold put;simp only [pos]
 split <;> simp
theorem Qnn:∀ {l:List Pt} {id:Int},Nz l->(has l id=true↔∃ p∈l,p.id=id)
 | [],id,_=>by simp [Zbl]
 |
  p::l,id,h=>by
  have h1:=Xg.1 h;rw [Qqv]
  split
  ·rename_i hlt;rw [Qnn h1.2];constructor
   ·rintro ⟨x,hx,e⟩; exact ⟨x,Ql _ hx,e⟩
   ·rintro ⟨x,hx,e⟩
    rcases Qx.1 hx with rfl | hx
    ·omega
    ·exact ⟨x,hx,e⟩
  ·rename_i hge;rw [decide_eq_true_iff];constructor
   ·intro e; exact ⟨p,Qt ..,e⟩
   ·rintro ⟨x,hx,e⟩
    rcases Qx.1 hx with rfl | hx
    ·exact e
    ·have:=h1.1 x hx; omega
theorem Qjd:∀ {l:List Pt} {q:Pt},Nz l->has l q.id=false->Nz (put l q)
 | [],q,_,_=>by simp [put,pos,Nz]
 |
  p::l,q,h,hn=>by
  have h1:=Xg.1 h;rw [Qqv] at hn;rw [Q7d]
  split
  ·rename_i hlt;rw [if_pos hlt] at hn;refine Xg.2 ⟨λx hx=>?_,Qjd h1.2 hn⟩;rcases Qy5 hx with rfl | hx
   ·exact hlt
   ·exact h1.1 x hx
  ·rename_i hge;rw [if_neg hge,decide_eq_false_iff_not] at hn;refine Xg.2 ⟨λx hx=>?_,h⟩;rcases Qx.1 hx with rfl | hx
   ·omega
   ·have:=h1.1 x hx; omega
theorem Qyj {l:List Pt} {q p:Pt} (h:p=q\/p∈l):p∈put l q:=by
 unfold put;rcases h with rfl | h
 ·simp
 ·rw [<-Q9 (pos l q.id) l] at h;simp only [Q0,Qx] at h ⊢;rcases h with h | h
  ·exact .inl h
  ·exact .inr (.inr h)
theorem Q7c {l:List Pt} {q:Pt} (h:l.length<6):Ol l q=if has l q.id=true then 6 else 0:=by
 unfold Ol
 split
 ·rfl
 ·rw [if_neg (by omega)]
theorem Qlp:∀ (qs acc:List Pt),Nz acc->acc.length+qs.length<=6 ->
 ((Tf acc qs).2=0/\Nz (Tf acc qs).1/\(Tf acc qs).1.length=acc.length+qs.length/\qs.Pairwise (λa b=>a.id≠b.id)/\∀ q∈qs,∀ p∈acc,p.id≠q.id) \/
 ((Tf acc qs).2=6/\¬(qs.Pairwise (λa b=>a.id≠b.id)/\∀ q∈qs,∀ p∈acc,p.id≠q.id))
 | [],acc,hs,_=>.inl ⟨rfl,hs,rfl,List.Pairwise.nil,λ_ h=>absurd h (by simp)⟩
 |
  q::qs,acc,hs,hl=>by
  simp only [Zc] at hl;have he:=Q7c (l:=acc) (q:=q) (by omega);simp only [Tf];cases hh:has acc q.id with
  |
   true =>
   rw [hh,if_pos rfl] at he;rw [he,if_neg (by decide)];obtain ⟨p,hp,e⟩:=(Qnn hs).1 hh;exact .inr ⟨rfl,λh=>h.2 q (Qt ..) p hp e⟩
  |
   false =>
   rw [hh,if_neg (by decide)] at he;rw [he,if_pos rfl];have hno:∀ p∈acc,p.id≠q.id:=λp hp e=>by
    have:=(Qnn hs).2 ⟨p,hp,e⟩;rw [hh] at this; cases this
   have hpl:=Qy4 acc q;rcases Qlp qs (put acc q) (Qjd hs hh) (by omega) with ⟨h1,h2,h3,h4,h5⟩ | ⟨h1,h2⟩
   ·refine .inl ⟨h1,h2,by simp only [Zc]; omega,Xg.2 ⟨λx hx=>h5 x hx q (Qyj (.inl rfl)),h4⟩,λx hx p hp=>?_⟩;rcases Qx.1 hx with rfl | hx
    ·exact hno p hp
    ·exact h5 x hx p (Qyj (.inr hp))
   ·refine .inr ⟨h1,λh=>h2 ⟨(Xg.1 h.1).2,λx hx p hp=>?_⟩⟩;rcases Qy5 hp with rfl | hp
    ·exact (Xg.1 h.1).1 x hx
    ·exact h.2 x (Ql _ hx) p hp
theorem Q05 {qs:List Pt} (hl:qs.length<=6) :
 ((Tf [] qs).2=0/\Nz (Tf [] qs).1/\(Tf [] qs).1.length=qs.length/\qs.Pairwise (λa b=>a.id≠b.id))\/((Tf [] qs).2=6/\¬qs.Pairwise (λa b=>a.id≠b.id)):=by
 rcases Qlp qs [] List.Pairwise.nil (by simpa using hl) with ⟨h1,h2,h3,h4,_⟩ | ⟨h1,h2⟩
 ·exact .inl ⟨h1,h2,by simpa using h3,h4⟩
 ·exact .inr ⟨h1,λh=>h2 ⟨h,λ_ _ _ hp=>absurd hp (by simp)⟩⟩
end Orr
namespace Orq
open Orr Go
theorem Zjr {a b c:Tm} (hb:Cut (Up b)) (hc:Cut (Up c)) (h:Pj a b) (h':Pj b c):Pj a c:=by
 obtain ⟨q,q1,q2⟩:=h;obtain ⟨r,r1,r2⟩:=h';exact ⟨q,q1,hc.mono' (hb.lt q2 r1) (by omega)⟩
theorem Qbe {a b:Tm} (ha:Cut (Up a)) (hb:Cut (Up b)) (h:¬Pj b a):Leq a (Up b):=λq hq=>by
 rcases ha.val q with e | e | e
 ·exact absurd ⟨q,hq,e⟩ h
 ·obtain ⟨r,r1,r2⟩:=hb.dn q hq;exact absurd ⟨r,r2,ha.mono' r1 (by omega)⟩ h
 ·exact e
theorem Zjo {a b c:Tm} (ha:Cut (Up a)) (hb:Cut (Up b)) (h:¬Pj b a) (h':Pj b c):Pj a c:=by
 obtain ⟨q,q1,q2⟩:=h';exact ⟨q,Qbe ha hb h q q1,q2⟩
theorem Qyc {a b c:Tm} (_:Cut (Up a)) (hb:Cut (Up b)) (hc:Cut (Up c)) (h:Pj a b) (h':¬Pj c b):Pj a c:=by
 obtain ⟨q,q1,q2⟩:=h;refine ⟨q,q1,?_⟩;have hl:=Qbe hb hc h';rcases hc.val q with e | e | e
 ·exact e
 ·obtain ⟨r,r1,r2⟩:=hb.up q q2;have h1:=hc.mono q r r1 (by omega);have:=hl r h1;omega
 ·have:=hl q e; omega
theorem Qnz {a b:Tm} (ha:Cut (Up a)) (hb:Cut (Up b)) (h:Pj a b):¬Pj b a:=λh'=>Oa ha hb h h'
theorem Qrn {p:List Int} {a b:Tm} {o:Option Tm} (ha:Cut (Up a)) (hb:Cut (Up b)) (hab:¬Pj b a) (h:Td p a o) (ho:∀ t,o=some t->Pj b t):Td p b o:=by
 have hl:=Qbe ha hb hab;cases o with
 |
  none =>
  rcases h with h | ⟨s,s0,h⟩
  ·exact .inl h
  ·exact .inr ⟨s,s0,λc hc hbc=>h c hc λq hq=>hl q (hbc q hq)⟩
 |
  some t =>
  obtain ⟨h1,h2,_,s,s0,h4,h5⟩:=h;exact ⟨h1,h2,ho t rfl,s,s0,λc hc hbc hm=>h4 c hc (λq hq=>hl q (hbc q hq)) hm,h5⟩
theorem Qeb {p:List Int} {a b:Tm} {o:Option Tm} (hp:Dp p) (ha:Va a) (hb:Va b) (hab:¬Pj b a) (h:Td p a o) (ho:∀ t,o=some t->Pj b t):B6 (Re b) p=B6 (Re a) p:=by
 by_cases h0:p.length=0
 ·obtain rfl:=Qh h0; rfl
 obtain ⟨ra,_⟩:=Qca ha hp h0;obtain ⟨rb,_⟩:=Qca hb hp h0;have hl:=Qbe ha.cut hb.cut hab;cases o with
 |
  none =>
  rcases h with h | ⟨s,s0,h⟩
  ·exact absurd (by rw [h]; rfl) h0
  ·exact (Qc5 rb (h _ hb.cut hl)).trans (Qc5 ra (h _ ha.cut λ_ h=>h)).symm
 |
  some t =>
  obtain ⟨h1,h2,h3,s,s0,h4,h5⟩:=h;exact (Qc5 rb (h4 _ hb.cut hl (ho t rfl))).trans (Qc5 ra (h4 _ ha.cut (λ_ h=>h) h3)).symm
theorem Qmf (t q:Rat):Up (tq t) q=U8 t q:=D6 (t:=tq t) rfl q
theorem Is {a:Tm} {t:Rat} (ha:Cut (Up a)):0<Up a t↔Pj (tq t) a:=by
 constructor
 ·intro h;have h1:Up a t=1:=by rcases ha.val t with e | e | e <;> omega
  obtain ⟨r,r1,r2⟩:=ha.up t h1;exact ⟨r,by rw [Qmf]; rcases Rq t r with ⟨e,e'⟩ | ⟨e,e'⟩ | ⟨e,e'⟩ <;> first | exact e | (exfalso; grind),r2⟩
 ·rintro ⟨q,q1,q2⟩
  rw [Qmf] at q1;have:t<q:=by rcases Rq t q with ⟨e,e'⟩ | ⟨e,e'⟩ | ⟨e,e'⟩ <;> first | exact e' | omega
  have:=ha.mono' this (by omega);omega
open Classical in
noncomputable def mu (T:List Tm) (a:Tm):Nat:=(T.filter λt=>decide (Pj a t)).length
theorem Qk1 {α:Type} {p q:α->Bool} (h:∀ x,p x=true->q x=true):∀ l:List α,(l.filter p).length<=(l.filter q).length
 | []=>Qj _
 |
  x::l=>by
  have ih:=Qk1 h l;by_cases hp:p x=true
  ·rw [Jk hp,Jk (h x hp)]; simp; exact ih
  ·rw [Yj hp];by_cases hq:q x=true
   ·rw [Jk hq]; simp; omega
   ·rw [Yj hq]; exact ih
theorem Qk2 {α:Type} {p q:α->Bool} (h:∀ x,p x=true->q x=true) {y:α} (hp:p y=false) (hq:q y=true):∀ {l:List α},y∈l->(l.filter p).length<(l.filter q).length
 | [],hy=>by cases hy
 |
  x::l,hy=>by
  rcases Qx.1 hy with rfl | hy
  ·rw [Yj (by simp [hp]),Jk hq];have:=Qk1 h l;simp; omega
  ·have ih:=Qk2 h hp hq hy;by_cases hp:p x=true
   ·rw [Jk hp,Jk (h x hp)]; simp; exact ih
   ·rw [Yj hp];by_cases hq:q x=true
    ·rw [Jk hq]; simp; omega
    ·rw [Yj hq]; exact ih
open Classical in
theorem Zex {T:List Tm} {a b:Tm} (ha:Cut (Up a)) (hb:Cut (Up b)) (hT:∀ t∈T,Cut (Up t)) (h:Pj a b) (hm:b∈T):mu T b<mu T a:=by
 have key:∀ l:List Tm,(∀ t∈l,Cut (Up t))->l.filter (λt=>decide (Pj b t))=l.filter (λt=>decide (Cut (Up t)/\Pj b t)):=λl hl=>List.filter_congr λx hx=>by simp [hl x hx]
 have key2:∀ l:List Tm,(∀ t∈l,Cut (Up t))->l.filter (λt=>decide (Pj a t))=l.filter (λt=>decide (Cut (Up t)/\Pj a t)):=λl hl=>List.filter_congr λx hx=>by simp [hl x hx]
 unfold mu;rw [key T hT,key2 T hT];refine Qk2 (λx hx=>?_) (y:=b) ?_ ?_ hm
 ·have hx:=of_decide_eq_true hx;exact decide_eq_true ⟨hx.1,Zjr hb hx.1 h hx.2⟩
 ·exact decide_eq_false λhx=>Oa hb hb hx.2 hx.2
 ·exact decide_eq_true ⟨hb,h⟩
def tms (p:List Int):List Tm:=(Lx p).getD []
structure KInv (c:Cr):Prop where
 ok:CrOk c
 k:∀ w∈c.l,w.known=true->Td w.c.p c.now w.fails/\∀ t,w.fails=some t->t∈tms w.c.p
theorem Qut {p:List Int} (h:Cp p) {a:Tm} (ha:Va a):∃ r,Qfr p a=some r/\Td p a r/\∀ t,r=some t->t∈tms p:=by
 obtain ⟨l,l1,_,_,l3⟩:=Ox h;obtain ⟨r,r1,r2,r3⟩:=l3 a ha;refine ⟨r,?_,r2,λt ht=>by unfold tms; rw [l1]; exact r3 t ht⟩;unfold Qfr; rw [l1]; exact r1
theorem Zh3 {p:List Int} (h:Cp p):∀ t∈tms p,Va t:=by
 obtain ⟨l,l1,_,l2,_⟩:=Ox h;unfold tms; rw [l1]; exact l2
theorem Qnx {now:Tm} (hn:Va now):∀ {l:List Wt},(∀ w∈l,WtOk w)->(∀ w∈l,w.known=true->Td w.c.p now w.fails/\∀ t,w.fails=some t->t∈tms w.c.p) ->
 ∃ ws,Nk now l=some ws/\ws.map (·.c)=l.map (·.c)/\∀ w∈ws,w.known=true/\Td w.c.p now w.fails/\∀ t,w.fails=some t->t∈tms w.c.p
 | [],_,_=>⟨[],rfl,rfl,λw hw=>by cases hw⟩
 |
  w::l,h,h'=>by
  obtain ⟨ws,w1,w2,w3⟩:=Qnx hn (λv hv=>h v (Ql _ hv)) (λv hv=>h' v (Ql _ hv));by_cases hk:w.known=true
  ·refine ⟨w::ws,by simp only [Nk,hk,if_true,w1]; rfl,by simp [w2],λv hv=>?_⟩;rcases Qx.1 hv with rfl | hv
   ·exact ⟨hk,h' v (by simp) hk⟩
   ·exact w3 v hv
  ·obtain ⟨r,r1,r2,r3⟩:=Qut (h w (by simp)).p hn;refine ⟨⟨w.c,true,r⟩::ws,by simp only [Nk]; rw [if_neg hk,r1,w1]; rfl,by simp [w2],λv hv=>?_⟩;rcases Qx.1 hv with rfl | hv
   ·exact ⟨rfl,r2,r3⟩
   ·exact w3 v hv
theorem Qx8 {at_:Tm} (ha:Va at_) {x:Ct}:∀ {l:List Wt},(∀ w∈l,WtOk w)->∃ w,Dh l x at_=some w/\w.c=x
 | [],_=>⟨fresh x,rfl,rfl⟩
 |
  v::l,h=>by
  obtain ⟨w,w1,w2⟩:=Qx8 ha (x:=x) λv hv=>h v (Ql _ hv)
  simp only [Dh]
  split
  ·cases hf:v.fails with
   | none=>exact ⟨_,rfl,rfl⟩
   |
    some t =>
    obtain ⟨c,c1,_⟩:=O5 ((h v (by simp)).f t hf) ha;dsimp only;rw [c1];show ∃ w,(if 0<c then some ⟨x,true,some t⟩ else Dh l x at_)=some w/\w.c=x
    split
    ·exact ⟨_,rfl,rfl⟩
    ·exact ⟨w,w1,w2⟩
  ·exact ⟨w,w1,w2⟩
theorem Q55 {at_:Tm} (ha:Va at_) {ol:List Wt} (ho:∀ w∈ol,WtOk w):∀ l:List Ct,∃ ws,Qcf ol at_ l=some ws/\ws.map (·.c)=l
 | []=>⟨[],rfl,rfl⟩
 |
  x::l=>by
  obtain ⟨w,w1,w2⟩:=Qx8 ha (x:=x) ho;obtain ⟨ws,s1,s2⟩:=Q55 ha ho l;exact ⟨w::ws,by simp only [Qcf,w1,s1]; rfl,by simp [w2,s2]⟩
theorem Q0u {out:List Ct} {c x:Ct}:x∈Qbb out c↔x=c\/x∈out:=by
 have h:x∈out↔x∈out.take (Oe out c out.length)\/x∈out.drop (Oe out c out.length):=by
  rw [<-Q0,Q9]
 simp only [Qbb,Q0,Qx,h];constructor
 ·rintro (h | h | h)
  ·exact .inr (.inl h)
  ·exact .inl h
  ·exact .inr (.inr h)
 ·rintro (h | h | h)
  ·exact .inr (.inl h)
  ·exact .inl h
  ·exact .inr (.inr h)
theorem Qk5:∀ (l acc:List Ct) {y:Ct},y∈l.foldl Qbb acc↔y∈l\/y∈acc
 | [],acc,y=>by simp
 |
  c::l,acc,y=>by
  simp only [Xk];rw [Qk5 l,Q0u,Qx];constructor
  ·rintro (h | h | h)
   ·exact .inl (.inr h)
   ·exact .inl (.inl h)
   ·exact .inr h
  ·rintro ((h | h) | h)
   ·exact .inr (.inl h)
   ·exact .inl h
   ·exact .inr (.inr h)
theorem C3 {l:List Ct} {x:Ct}:x∈Gm l↔x∈l:=by unfold Gm; rw [Qk5]; simp
theorem Quv {ws:List Wt} (hw:∀ w∈ws,WtOk w):∃ o,Qi1 ws=some o/\match o with
 | none=>∀ w∈ws,w.fails=none
 | some a=>Va a/\(∃ w∈ws,w.fails=some a)/\∀ w∈ws,∀ t,w.fails=some t->¬Pj t a:=by
 have hv:∀ t∈ws.filterMap (·.fails),Va t:=λt ht=>by
  obtain ⟨w,w1,w2⟩:=Jj.1 ht;exact (hw w w1).f t w2
 unfold Qi1;cases hf:ws.filterMap (·.fails) with
 |
  nil =>
  refine ⟨none,rfl,λw h=>?_⟩;cases e:w.fails with
  | none=>rfl
  |
   some t =>
   have:t∈ws.filterMap (·.fails):=Jj.2 ⟨w,h,e⟩;rw [hf] at this; cases this
 |
  cons b l =>
  rw [hf] at hv;obtain ⟨m,m1,m2,m3⟩:=Qek l b hv;refine ⟨some m,by show (Ao b l).map some=_; rw [m1]; rfl,hv m m2,?_,λw h t e=>?_⟩
  ·rw [<-hf] at m2;exact Jj.1 m2
  ·exact m3 t (by rw [<-hf]; exact Jj.2 ⟨w,h,e⟩)
theorem Zf6 {t a:Tm} (ht:Va t) (ha:Va a) {c:Int} (h:Qf4 t a=some c) (h0:0<c):Pj a t:=by
 obtain ⟨c',c1,c2⟩:=O5 ht ha;rw [h] at c1; injection c1 with c1; subst c1;rcases c2 with ⟨e,_⟩ | ⟨e,_⟩ | ⟨_,e⟩
 ·omega
 ·omega
 ·exact e
theorem Zbt {ol ws:List Wt} {now a:Tm} {l:List Ct} (hn:Va now) (ha:Va a) (hna:¬Pj a now) (ho:∀ w∈ol,WtOk w) (hk:∀ w∈ol,w.known=true->Td w.c.p now w.fails/\∀ t,w.fails=some t->t∈tms w.c.p) (h:Qcf ol a l=some ws) :
 ∀ w∈ws,w.known=true->Td w.c.p a w.fails/\∀ t,w.fails=some t->t∈tms w.c.p:=by
 obtain ⟨h1,h2⟩:=Qcg h;intro w hw hkn;obtain ⟨i,hi⟩:=Jn hw;have hil:i<l.length:=by rw [<-h1]; exact (Qf.1 hi).1
 obtain ⟨v,h3,h4⟩:=h2 i _ (Qd hil);rw [hi] at h4; injection h4 with h4; subst h4;rcases Qiu h3 with e | ⟨v,v1,v2,v3,e,v5⟩
 ·rw [e] at hkn; cases hkn
 ·obtain ⟨k1,k2⟩:=hk v v1 v2;rw [e];show Td (l[i]).p a v.fails/\∀ t,v.fails=some t->t∈tms (l[i]).p;rw [<-v3];refine ⟨Qrn hn.cut ha.cut hna k1 λt ht=>?_,k2⟩;obtain ⟨c,c1,c2⟩:=v5 t ht;exact Zf6 ((ho v v1).f t ht) ha c1 c2
structure Stab {β:Type} (Bc:Tm->List Ct) (Br:Tm->β):Prop where
 ok:BuildOk Bc
 fin:∃ Ps:List (List Int),(∀ p∈Ps,Cp p)/\∀ a,Va a->∀ x∈Bc a,x.p∈Ps
 st:∀ a b,Va a->Va b->(∀ x∈Bc a,B6 (Re b) x.p=B6 (Re a) x.p)->Bc b=Bc a/\Br b=Br a
structure KSt {β:Type} (Bc:Tm->List Ct) (Br:Tm->β) (c:Cr) (r1:β):Prop where
 inv:KInv c
 cs:c.l.map (·.c)=Gm (Bc c.now)
 r:r1=Br c.now
inductive Evs (Bc:Tm->List Ct) (t:Rat):Tm->List Tm->Prop
 | nil {a:Tm} (h:∀ x∈Bc a,∃ o,Td x.p a o/\∀ u,o=some u->Pj (tq t) u):Evs Bc t a []
 | cons {a e:Tm} {E:List Tm} (he:Va e) (h1:Pj a e) (h2:¬Pj (tq t) e) (h3:∀ x∈Bc a,∃ o,Td x.p a o/\∀ u,o=some u->¬Pj u e) (h4:∃ x∈Bc a,Td x.p a (some e)) (h5:Evs Bc t e E):Evs Bc t a (e::E)
theorem Zjd {β:Type} {Bc:Tm->List Ct} {Br:Tm->β} (S:Stab Bc Br) {t:Rat} (ht:Qs 400000 t) {Ps:List (List Int)} (hP:∀ p∈Ps,Cp p) (hPs:∀ a,Va a->∀ x∈Bc a,x.p∈Ps) :
 ∀ (m:Nat) (c:Cr) (r1:β) (n:Int),mu (Ps.flatMap tms) c.now<=m->KSt Bc Br c r1->¬Pj (tq t) c.now ->
 ∃ c' r' E,goF Bc Br t (m+1) c r1 n=some (c',r',n+(E.length:Nat))/\c'.now=tq t/\KSt Bc Br c' r'/\c'.ev=c.ev+(E.length:Nat)/\E.length<=m/\Evs Bc t c.now E:=by
 have hT:∀ t∈Ps.flatMap tms,Cut (Up t):=λu hu=>by
  obtain ⟨p,p1,p2⟩:=Xq.1 hu;exact (Zh3 (hP p p1) u p2).cut
 have hq:=Q10 ht;intro m
 induction m with
 | zero=>?_
 | succ m ih=>?_
 all_goals
  intro c r1 n hm hS hnow;obtain ⟨⟨ok,kk⟩,hcs,hr⟩:=hS;obtain ⟨ws,w1,w2,w3⟩:=Qnx ok.n ok.l kk;have ok':=Qac ok w1;rw [hcs] at w2;have hc_w:∀ x∈Bc c.now,∃ w∈ws,w.c=x:=λx hx=>by
   have:x∈ws.map (·.c):=by rw [w2]; exact C3.2 hx
   exact Zg.1 this
  have hw_c:∀ w∈ws,w.c∈Bc c.now:=λw hw=>C3.1 (by rw [<-w2]; exact List.mem_map_of_mem hw)
  obtain ⟨o,o1,o2⟩:=Quv ok'.l;have fin:(∀ w∈ws,∀ u,w.fails=some u->Pj (tq t) u)->KSt Bc Br ⟨tq t,ws,c.ev⟩ r1/\Evs Bc t c.now []:=λhall=>by
   have hg:∀ x∈Bc c.now,B6 (Re (tq t)) x.p=B6 (Re c.now) x.p:=λx hx=>by
    obtain ⟨w,hw,rfl⟩:=hc_w x hx;exact Qeb (S.ok.p _ ok.n _ hx).dp ok.n hq hnow (w3 w hw).2.1 (hall w hw)
   obtain ⟨s1,s2⟩:=S.st _ _ ok.n hq hg;refine ⟨⟨⟨⟨hq,ok'.l,ok'.k⟩,λw hw _=>⟨Qrn ok.n.cut hq.cut hnow (w3 w hw).2.1 (hall w hw),(w3 w hw).2.2⟩⟩,?_,?_⟩,.nil λx hx=>?_⟩
   ·show ws.map (·.c)=Gm (Bc (tq t)); rw [w2,s1]
   ·show r1=Br (tq t); rw [s2,hr]
   ·obtain ⟨w,hw,rfl⟩:=hc_w x hx;exact ⟨_,(w3 w hw).2.1,hall w hw⟩
 ·cases o with
  |
   none =>
   obtain ⟨f1,f2⟩:=fin λw hw u hu=>by rw [o2 w hw] at hu; cases hu
   exact ⟨_,_,[],by simp only [goF]; rw [w1]; simp only [Je]; rw [o1]; simp,rfl,f1,by simp,by simp,f2⟩
  |
   some a =>
   obtain ⟨va,⟨w,hw,hwa⟩,hmin⟩:=o2;by_cases h0:0<Up a t
   ·obtain ⟨f1,f2⟩:=fin λv hv u hu=>by
     have hu':=(ok'.l v hv).f u hu;exact Qyc hq.cut va.cut hu'.cut ((Is va.cut).1 h0) (hmin v hv u hu)
    exact ⟨_,_,[],by simp only [goF]; rw [w1]; simp only [Je]; rw [o1]; simp [h0],rfl,f1,by simp,by simp,f2⟩
   ·exfalso;obtain ⟨k1,k2,k3⟩:=w3 w hw;rw [hwa] at k2;have:a∈Ps.flatMap tms:=Xq.2 ⟨_,hPs _ ok.n _ (hw_c w hw),k3 a hwa⟩;have:=Zex ok.n.cut va.cut hT k2.2.2.1 this;omega
 ·cases o with
  |
   none =>
   obtain ⟨f1,f2⟩:=fin λw hw u hu=>by rw [o2 w hw] at hu; cases hu
   exact ⟨_,_,[],by simp only [goF]; rw [w1]; simp only [Je]; rw [o1]; simp,rfl,f1,by simp,by simp,f2⟩
  |
   some a =>
   obtain ⟨va,⟨w,hw,hwa⟩,hmin⟩:=o2;by_cases h0:0<Up a t
   ·obtain ⟨f1,f2⟩:=fin λv hv u hu=>by
     have hu':=(ok'.l v hv).f u hu;exact Qyc hq.cut va.cut hu'.cut ((Is va.cut).1 h0) (hmin v hv u hu)
    exact ⟨_,_,[],by simp only [goF]; rw [w1]; simp only [Je]; rw [o1]; simp [h0],rfl,f1,by simp,by simp,f2⟩
   ·obtain ⟨k1,k2,k3⟩:=w3 w hw;rw [hwa] at k2;have hna:=Qnz ok.n.cut va.cut k2.2.2.1;have hmem:a∈Ps.flatMap tms:=Xq.2 ⟨_,hPs _ ok.n _ (hw_c w hw),k3 a hwa⟩;have hlt:=Zex ok.n.cut va.cut hT k2.2.2.1 hmem;obtain ⟨w2',l1,l2⟩:=Q55 va ok'.l (Gm (Bc a));have hl:=Zbt ok.n va hna ok'.l (λv hv _=>(w3 v hv).2) l1;have hS':KSt Bc Br ⟨a,w2',c.ev+1⟩ (Br a):=⟨⟨Orr.lay_ok _ ok' va (S.ok.p a va) (S.ok.n a va) l1,hl⟩,l2,rfl⟩;obtain ⟨c',r',E,g1,g2,g3,g4,g5,g6⟩:=ih ⟨a,w2',c.ev+1⟩ (Br a) (n+1) (by show mu _ a<=m; omega) hS' (λh=>h0 ((Is va.cut).2 h));refine ⟨c',r',a::E,?_,g2,g3,by rw [g4]; simp; omega,by simp; omega,.cons va k2.2.2.1 (λh=>h0 ((Is va.cut).2 h)) (λx hx=>?_) ⟨w.c,hw_c w hw,k2⟩ g6⟩
    ·conv=>lhs; unfold goF
     rw [w1]; simp only [Je]; rw [o1]; simp only [Je]; rw [if_neg h0,l1]; simp only [Je];rw [g1]; simp; omega
    ·obtain ⟨v,hv,rfl⟩:=hc_w x hx;exact ⟨_,(w3 v hv).2.1,hmin v hv⟩
end Orq
namespace Orq
open Orr Go
theorem Qqt {a:Tm} (ha:Va a):∀ (L:List (List Int)),(∀ p∈L,Dp p)->∃ y,Up a y=-1/\∀ q,Up a q=-1->q≤y->∀ p∈L,B6 (Re a) p=Uo (Ug p q)
 |
  [],_=>by
  obtain ⟨y,hy⟩:=ha.cut.hi;exact ⟨y,hy,λq _ _ p hp=>by cases hp⟩
 |
  p::L,h=>by
  obtain ⟨y,y1,y2⟩:=Qqt ha L (λq hq=>h q (Ql _ hq));by_cases h0:p.length=0
  ·obtain rfl:=Qh h0;refine ⟨y,y1,λq q1 q2 r hr=>?_⟩;rcases Qx.1 hr with rfl | hr
   ·rw [Qim]; exact (Fa.2 rfl).symm
   ·exact y2 q q1 q2 r hr
  ·obtain ⟨⟨z,z1,z2⟩,_⟩:=Qca ha (h p (by simp)) h0;refine ⟨if y<=z then y else z,by split <;> assumption,λq q1 q2 r hr=>?_⟩;rcases Qx.1 hr with rfl | hr
   ·rw [<-Ue]; exact (z2 q q1 (by grind)).symm
   ·exact y2 q q1 (by grind) r hr
section Srt
variable {α:Type} {lt:α->α->Bool} {R:α->α->Prop}
theorem Qlx {out:List α} {x:α}:∀ k,k<=out.length->(∀ j y,S6 lt out x k<=j->j<k->out[j]? = some y->lt x y=true)/\(0<S6 lt out x k->∃ y,out[S6 lt out x k-1]? = some y/\lt x y=false)
 | 0,_=>⟨λj y _ h=>by omega,λh=>by simp [S6] at h⟩
 |
  k+1,hk=>by
  obtain ⟨y,hy⟩:=gxE (l:=out) (i:=k) (by omega);by_cases h:lt x y=true
  ·rw [Qcv hy h];obtain ⟨h1,h2⟩:=Qlx (out:=out) (x:=x) k (by omega);refine ⟨λj z a1 a2 a3=>?_,h2⟩;by_cases e:j=k
   ·subst e; rw [hy] at a3; injection a3 with a3; subst a3; exact h
   ·exact h1 j z a1 (by omega) a3
  ·have h:lt x y=false:=by simpa using h
   rw [Of hy h];exact ⟨λj z a1 a2 _=>by omega,λ_=>⟨y,by simpa using hy,h⟩⟩
theorem Zbq (tr:∀ x y z,R x y->R y z->R x z) {out:List α} {x:α} (ho:out.Pairwise R) (h1:∀ y∈out,lt x y=true->R x y) (h2:∀ y∈out,lt x y=false->R y x):(Ns lt out x).Pairwise R:=by
 obtain ⟨s1,s2⟩:=Qlx (lt:=lt) (out:=out) (x:=x) out.length (Qj _);have hle:=Qoe lt out x out.length;unfold Ns;obtain ⟨k,hk⟩:=nmE (S6 lt out x out.length);rw [<-hk] at s1 s2 hle ⊢;have hd:(out.take k++out.drop k).Pairwise R:=by rw [Q9]; exact ho
 obtain ⟨d1,d2,d3⟩:=Yd.1 hd;have hR:∀ y∈out.drop k,R x y:=λy hy=>by
  obtain ⟨i,hi⟩:=Jn hy;rw [Xf] at hi;have:k+i<out.length:=(Qf.1 hi).1;exact h1 y (Qz hy) (s1 (k+i) y (by omega) this hi)
 have hL:∀ y∈out.take k,R y x:=λy hy=>by
  obtain ⟨i,hi⟩:=Jn hy;have hik:i<k:=by have:=(Qf.1 hi).1; simp at this; omega
  rw [List.getElem?_take_of_lt hik] at hi;obtain ⟨z,z1,z2⟩:=s2 (by omega);have hz:=h2 z (Qc z1) z2;by_cases e:i=k-1
  ·subst e; rw [hi] at z1; injection z1 with z1; subst z1; exact hz
  ·have hp:=List.pairwise_iff_getElem.1 ho i (k-1) (by omega) (by omega) (by omega);obtain ⟨_,e1⟩:=Qf.1 hi;obtain ⟨_,e2⟩:=Qf.1 z1;rw [e1,e2] at hp;exact tr _ _ _ hp hz
 refine Yd.2 ⟨d1,Xg.2 ⟨hR,d2⟩,λy hy z hz=>?_⟩;rcases Qx.1 hz with rfl | hz
 ·exact hL y hy
 ·exact d3 y hy z hz
theorem foldG_pw (tr:∀ x y z,R x y->R y z->R x z) {S:α->Prop} (h1:∀ x y,S x->S y->lt x y=true->R x y) {D:α->α->Prop} (h2:∀ x y,S x->S y->D y x->lt x y=false->R y x) :
 ∀ (l acc:List α),acc.Pairwise R->(∀ x∈acc,S x)->(∀ x∈l,S x)->l.Pairwise D->(∀ x∈acc,∀ y∈l,D x y)->(l.foldl (Ns lt) acc).Pairwise R
 | [],acc,ha,_,_,_,_=>ha
 |
  x::l,acc,ha,hs,hl,hd,hx=>by
  rw [Xg] at hd;refine foldG_pw tr h1 h2 l (Ns lt acc x) ?_ ?_ (λy hy=>hl y (Ql _ hy)) hd.2 ?_
  ·exact Zbq tr ha (λy hy=>h1 x y (hl x (by simp)) (hs y hy)) (λy hy=>h2 x y (hl x (by simp)) (hs y hy) (hx y hy x (by simp)))
  ·intro y hy;rcases Qio.1 hy with rfl | hy
   ·exact hl _ (by simp)
   ·exact hs y hy
  ·intro y hy z hz;rcases Qio.1 hy with rfl | hy
   ·exact hd.1 z hz
   ·exact hx y hy z (Ql _ hz)
end Srt
def px (p:Pt) (q:Rat):Rat:=Ug p.c.x q / (p.c.d:Rat)
def py (p:Pt) (q:Rat):Rat:=Ug p.c.y q / (p.c.d:Rat)
theorem Qma {u v:Rat} {c d:Int} (hc:0<c) (hd:0<d):Uo (v*(c:Rat)-u*(d:Rat))=Uo (v / (d:Rat)-u / (c:Rat)):=by
 have hc':(0:Rat)<(c:Rat):=by exact_mod_cast hc
 have hd':(0:Rat)<(d:Rat):=by exact_mod_cast hd
 have e:v*(c:Rat)-u*(d:Rat)=((c:Rat)*(d:Rat))*(v / (d:Rat)-u / (c:Rat)):=by
  rw [Ju,Ju];have h1:=Wh (c:Rat) (by grind);have h2:=Wh (d:Rat) (by grind);grind
 rw [e,Ax (Vz hc' hd')]
theorem Q1q {x y:Pt} (hx:Sc x.c) (hy:Sc y.c) (q:Rat):Uo (Ug (He x.c y.c) q)=Uo (px y q-px x q):=by
 unfold He px; rw [Bt,Gz,Gz]; exact Qma hx.n.2.2.1 hy.n.2.2.1
theorem Q1p {x y:Pt} (hx:Sc x.c) (hy:Sc y.c) (q:Rat):Uo (Ug (Gw x.c y.c) q)=Uo (py y q-py x q):=by
 unfold Gw py; rw [Bt,Gz,Gz]; exact Qma hx.n.2.2.1 hy.n.2.2.1
def Qjz (l:List Pt):List (List Int):=l.flatMap λx=>l.flatMap λy=>[He x.c y.c,Gw x.c y.c]
theorem L8 {l:List Pt} {x y:Pt} (hx:x∈l) (hy:y∈l):He x.c y.c∈Qjz l/\Gw x.c y.c∈Qjz l :=
 ⟨Xq.2 ⟨x,hx,Xq.2 ⟨y,hy,by simp⟩⟩,Xq.2 ⟨x,hx,Xq.2 ⟨y,hy,by simp⟩⟩⟩
theorem Qmo {l:List Pt} (hl:∀ p∈l,Sc p.c):∀ p∈Qjz l,Cp p:=λp hp=>by
 obtain ⟨x,hx,hp⟩:=Xq.1 hp;obtain ⟨y,hy,hp⟩:=Xq.1 hp;simp at hp;rcases hp with rfl | rfl
 ·exact Iw (hl x hx) (hl y hy)
 ·exact Iv (hl x hx) (hl y hy)
theorem Q2e (l:List Pt):(Qjz l).length=l.length*(l.length*2):=by
 have h1:∀ (x:Pt) (m:List Pt),(m.flatMap λy=>[He x.c y.c,Gw x.c y.c]).length=m.length*2:=λx m=>by
  induction m with
  | nil=>rfl
  | cons y m ih=>rw [Kd,Q8,ih,Zc]; simp; omega
 have h2:∀ m:List Pt,(m.flatMap λx=>l.flatMap λy=>[He x.c y.c,Gw x.c y.c]).length=m.length*(l.length*2):=λm=>by
  induction m with
  | nil=>simp
  | cons y m ih=>rw [Kd,Q8,ih,Zc,h1,Ji,K9,J5]
 exact h2 l
end Orq
namespace Orr
open Go
section
variable {α:Type} {lt:α->α->Bool}
theorem Q0v (out:List α) (c:α):(Ns lt out c).Perm (c::out):=by
 unfold Ns;exact (Ws).trans (by rw [Q9])
theorem Qig:∀ (l acc:List α),(l.foldl (Ns lt) acc).Perm (l++acc)
 | [],acc=>List.Perm.refl _
 |
  c::l,acc=>by
  simp only [Xk];exact (Qig l _).trans (((Q0v acc c).append_left l).trans Ws)
theorem Qvy (l:List α):(Gn lt l).Perm l:=by
 have:=Qig (lt:=lt) l [];rwa [Xj] at this
end
def Bq (a b:Pt):Bool:=decide (a.id<b.id)
def Pt.m5 (p:Pt):Pt:=⟨p.c,p.id % 5⟩
def mix (O:List Pt) (i:Nat):List Pt:=(O.take i).map Pt.m5++O.drop i
theorem Q6h (O:List Pt):mix O 0=O:=by simp [mix]
theorem Qgt (O:List Pt) (i:Nat):(mix O i).length=O.length:=by
 unfold mix; rw [List.length_append,List.length_map,List.length_take,List.length_drop]; omega
theorem Qyl {O:List Pt} {i:Nat} {p:Pt} (h:O[i]? = some p):(mix O i).set i p.m5=mix O (i+1):=by
 have hi:=(Qf.1 h).1;have hl:((O.take i).map Pt.m5).length=i:=by rw [Zd,Qq]; omega
 unfold mix;rw [List.set_append,if_neg (by omega),hl,Ye,Xa,h,Wg,Yc,Zy];congr 1;rw [Zn hi];have:O[i]=p:=by
  have:=(Qf.1 h).2;exact this
 rfl
theorem Zb4 {O:List Pt} {i:Nat} {p:Pt} (h:O[i]? = some p):(mix O i)[i]? = some p:=by
 have hi:=(Qf.1 h).1;have hl:((O.take i).map Pt.m5).length=i:=by rw [Zd,Qq]; omega
 unfold mix;rw [Xi (by omega),hl,Ye,Xf];exact h
theorem Qyk {O:List Pt} {i k:Nat} {p:Pt} (hk:k<i) (h:O[k]? = some p):(mix O i)[k]? = some p.m5:=by
 have hi:=(Qf.1 h).1;unfold mix;rw [Zj (by rw [Zd,Qq]; omega),Q5,X5,if_pos hk,h]; rfl
theorem Qrg {O:List Pt} {e i:Nat} (h:e<=i) (hi:i<=O.length):(mix O i).take e=(O.take e).map Pt.m5:=by
 unfold mix;rw [Yg (by rw [Zd,Qq]; omega),<-Jo,K6,Zr h]
def Ts (O:List Pt) (e:Nat):List Pt:=(O.take e).map Pt.m5
def Qat (O:List Pt) (e:Nat):List Pt:=(Ts O e).map Pt.nrm
def Lj (l:List Pt):Prop:=l.Pairwise λa b=>a.id≠b.id
theorem Q0d {O:List Pt} {i:Nat} {p:Pt} (h:O[i]? = some p):Ts O (i+1)=Ts O i++[p.m5]:=by
 unfold Ts; rw [List.take_succ,h,Option.toList_some,List.map_append]; rfl
theorem Q0j {O:List Pt} {i:Nat} {p:Pt} (h:O[i]? = some p) (hd:Lj (Ts O i)) (hn:∀ k x,k<i->O[k]? = some x->x.m5.id≠p.m5.id):Lj (Ts O (i+1)):=by
 rw [Q0d h];refine Yd.2 ⟨hd,List.pairwise_singleton _ _,λa ha b hb=>?_⟩;rw [Qp.1 hb];obtain ⟨x,hx,rfl⟩:=Zg.1 ha;obtain ⟨k,hk,rfl⟩:=List.mem_iff_getElem.1 hx;rw [Qq] at hk;rw [List.getElem_take];exact hn k _ (by omega) (Qd (by omega))
theorem Qkr {O:List Pt} {e:Nat} (h:Lj (Ts O e)):Lj (Qat O e):=List.Pairwise.map Pt.nrm (λ_ _ h=>h) h
theorem Qfq (O:List Pt) (e:Nat):(Qat O e).length=(Ts O e).length:=by unfold Qat; rw [List.length_map]
theorem Qb3 {O:List Pt} {e:Nat} (h:e<=O.length):(Ts O e).length=e:=by unfold Ts; rw [List.length_map,List.length_take]; omega
def Qzp (p:Pt):Prop:=Cs 10 3 p.c
theorem Qlj {n:Nat} {most:Int} (hm:0≤most/\most≤999) {l:List RawPt}:∀ p∈Qeu n most l,Qzp p:=λp hp=>by
 rcases Qb9 _ _ hp with h | h
 ·cases h
 ·obtain ⟨z,_,rfl⟩:=Zg.1 h;exact Qkp hm _ _ _
theorem Qqb {O:List Pt} (h:∀ p∈O,Qzp p) (e:Nat):∀ p∈Ts O e,Qzp p:=λp hp=>by
 obtain ⟨x,hx,rfl⟩:=Zg.1 hp;exact h x (Qk hx)
theorem Qxl {O:List Pt} (h:∀ p∈O,Qzp p) (e:Nat):∀ p∈Qat O e,Nml p.c/\Cs 10 3 p.c:=λp hp=>by
 obtain ⟨x,hx,rfl⟩:=Zg.1 hp;exact ⟨x.c.nml,(Qqb h e x hx).norm (by decide)⟩
theorem Qlg {s n:Nat}:∀ {l:List Pt},(∀ p∈l,Cs s n p.c)->IsPts s n (l.map Hw) (l.map Pt.nrm)
 | [],_=>trivial
 | p::l,h=>⟨⟨p.c.x.map Gb,p.c.y.map Gb,_,_,_,_,p.c.d,rfl,Gy _,Gy _,Ud _,h p (Qt ..),rfl⟩,Qlg λx hx=>h x (Ql _ hx)⟩
theorem Qmc:∀ {l m:List Pt},Nz l->Nz m->(∀ x,x∈l↔x∈m)->l=m
 | [],[],_,_,_=>rfl
 | [],b::m,_,_,h=>absurd ((h b).2 (Qt ..)) (by simp)
 | a::l,[],_,_,h=>absurd ((h a).1 (Qt ..)) (by simp)
 |
  a::l,b::m,h1,h2,h=>by
  have h1':=Xg.1 h1;have h2':=Xg.1 h2;have hab:a=b:=by
   rcases Qx.1 ((h a).1 (Qt ..)) with e | e
   ·exact e
   ·rcases Qx.1 ((h b).2 (Qt ..)) with e2 | e2
    ·exact e2.symm
    ·have:=h2'.1 a e; have:=h1'.1 b e2; omega
  subst hab;congr 1;refine Qmc h1'.2 h2'.2 λx=>⟨λhx=>?_,λhx=>?_⟩
  ·rcases Qx.1 ((h x).1 (Ql _ hx)) with e | e
   ·have:=h1'.1 x hx; rw [e] at this; omega
   ·exact e
  ·rcases Qx.1 ((h x).2 (Ql _ hx)) with e | e
   ·have:=h2'.1 x hx; rw [e] at this; omega
   ·exact e
theorem Qoz {l:List Pt} (h:Lj l):Nz (Gn Bq l) :=
 Orq.foldG_pw (R:=λa b:Pt=>a.id<b.id) (S:=λ_=>True) (D:=λa b:Pt=>a.id≠b.id) (λx y z h1 h2=>Int.lt_trans h1 h2) (λx y _ _ h=>of_decide_eq_true h) (λx y _ _ h1 h=>by have:=of_decide_eq_false h; omega) l [] .nil (λx hx=>by cases hx) (λ_ _=>trivial) h (λx hx=>by cases hx)
theorem Q7e (l:List Pt) (q:Pt):(put l q).Perm (q::l):=by
 unfold put;exact List.perm_middle.trans (by rw [Q9])
theorem Qlq:∀ (qs acc:List Pt),(Tf acc qs).2=0->(Tf acc qs).1.Perm (qs++acc)
 | [],acc,_=>List.Perm.refl _
 |
  q::qs,acc,h=>by
  simp only [Tf] at h ⊢
  split
  ·rename_i h0;rw [if_pos h0] at h;refine (Qlq qs _ h).trans ?_;exact ((Q7e acc q).append_left qs).trans Ws
  ·rename_i h0;rw [if_neg h0] at h;exact absurd h h0
theorem Q06 {qs:List Pt} (hl:qs.length<=6) (hd:Lj qs):(Tf [] qs).2=0/\(Tf [] qs).1=Gn Bq qs:=by
 rcases Q05 hl with ⟨h1,h2,_,_⟩ | ⟨_,h2⟩
 ·refine ⟨h1,Qmc h2 (Qoz hd) λx=>?_⟩;have h3:=Qlq qs [] h1;rw [Xj] at h3;rw [h3.mem_iff,Qan]
 ·exact absurd hd h2
end Orr
namespace Orr
open Go Go.Proofs
set_option maxRecDepth 10000
theorem Zbp {α:Type} {f:α->List LV} {lt:α->α->Bool} {O:List α} {c:α} {k:Nat} (hp:S6 lt O c O.length=k):(O.map f).take k++(f c::(O.map f).drop k)=(Ns lt O c).map f:=by
 simp [Ns,hp,Jo,Y0]
theorem Qq0 {α:Type} {f:α->List LV} {lt:α->α->Bool} {O:List α} {c:α} {k:Nat} (hp:S6 lt O c O.length=k):(O.map f).take k++([f c]++((O.map f).drop k).take ((O.map f).length-k))=(Ns lt O c).map f:=by
 rw [Qm (l:=(O.map f).drop k) (by simp)];exact Zbp hp
theorem Qq1 {lt:Pt->Pt->Bool} {O:List Pt} {c:Pt} {k:Nat} (hp:S6 lt O c O.length=k):(U4 O).take k++([rpt c]++((U4 O).drop k).take ((U4 O).length-k))=U4 (Ns lt O c):=Qq0 hp
theorem Tq (l:List Pt):(U4 l).length=l.length:=by simp [U4]
theorem Qc4 (l:List Pt):∀ c∈U4 l,c.length=7:=λc hc=>by obtain ⟨x,_,rfl⟩:=Zg.1 hc; rfl
theorem Ld {l:List Pt} {i:Nat} {c:Pt} (h:l[i]? = some c):(U4 l)[i]? = some (rpt c):=Ga h
theorem Qw8 {l:List Pt} (hn:l.length<=1000000):Ub Tryz.prog 64 [.one (.row (U4 l))] [.one (.row (U4 (Gn Bq l)))]:=by
 have hcl:=Tq l;refine Gk Tryz.func64 rfl ?_;refine go tt [.o 3 57 7] rfl trivial ?_;refine lp (S:=Nat) 1 (λL1 i=>(8,.v (.one (.int .i64 (i:Int))))::(3,.v (.one (.orow 0 7 none)))::L1) (λi=>[.row false 57 7 (U4 (Gn Bq (l.take i)))]) (λi=>l.length-i) (λi=>i<=l.length) 0 (Qi _) rfl (λ_ _=>rfl) rfl λi hi=>?_
 by_cases hlt:i<l.length
 ·obtain ⟨c,hc⟩:=gxE (l:=l) (i:=i) hlt;have hst:Gn Bq (l.take (i+1))=Ns Bq (Gn Bq (l.take i)) c:=Qbo hc;obtain ⟨O,hO⟩:=nmE (Gn Bq (l.take i));have hOl:O.length=i:=by rw [hO,Pi,Qq]; omega
  have hrl:=Tq O;rw [<-hO] at hst ⊢;refine go tt [.t (decide_eq_true (by omega))] rfl trivial ?_;refine lp (S:=Nat) 1 (λL1 k=>(5,.v (.one (.int .i64 (k:Int))))::L1) (λ_=>[.row false 57 7 (U4 O)]) id (λk=>k<=O.length/\S6 Bq O c k=S6 Bq O c O.length) (U4 O).length ⟨by omega,by rw [hrl]⟩ rfl (λ_ _=>rfl) rfl λk ⟨hk,hp⟩=>?_
  have h7:=Qc4 O;have h7z:∀ y∈[rpt c],y.length=7:=λy hy=>by rw [Qp.1 hy]; rfl
  cases k with
  |
   zero =>
   have hp:S6 Bq O c O.length=0:=by rw [<-hp]; rfl
   refine go tt [.g 15 false (by simp),.f rfl,.i 0,.x (Ld hc),.lo,.i 0,.s (sz:=7) (λy hy=>h7 y (Qk hy)),.s (sz:=7) (λy hy=>(Q0.1 hy).elim (h7z y) λhy=>h7 y (Qk hy))] rfl (by simp [Ua]; omega) ?_;exact rd (i+1) (by omega) hlt (by rw [hst,<-Qq1 hp]; rfl)
  |
   succ k =>
   obtain ⟨x,hx⟩:=gxE (l:=O) (i:=k) (by omega);by_cases hlc:Bq c x=true
   ·refine go tt [.g 15 true (by simp),.x (Ld hc),.r 23 (eI (b:=(k:Int)) (by simp)),.i k,.x (Ld hx),.t hlc,.r 30 (eI (b:=(k:Int)) (by simp))] rfl (by simp [Ua]; omega) ?_;exact rd k (by simp) ⟨by omega,by rw [<-hp,Qcv hx hlc]⟩ rfl
   ·have hlc:Bq c x=false:=by simpa using hlc
    have hp:S6 Bq O c O.length=k+1:=by rw [<-hp,Of hx hlc]
    refine go tt [.g 15 true (by simp),.x (Ld hc),.r 23 (eI (b:=(k:Int)) (by simp)),.i k,.x (Ld hx),.f hlc,.i (k+1),.x (Ld hc),.lo,.i (k+1),.s (sz:=7) (λy hy=>h7 y (Qz (Qk hy))),.s (sz:=7) (λy hy=>(Q0.1 hy).elim (h7z y) λhy=>h7 y (Qz (Qk hy)))] rfl (by simp [Ua]; omega) ?_;exact rd (i+1) (by omega) hlt (by rw [hst,<-Qq1 hp]; rfl)
 ·obtain rfl:i=l.length:=by omega
  rw [Za];exact en tt [.f (decide_eq_false (by omega))] rfl rfl trivial
def rct (c:Ct):List LV:=[.int .i64 c.kind,.int .i64 c.i0,.int .i64 c.i1,.int .i64 c.i2,.int .i64 c.i3,rp (zp c.p),.int .i64 c.want,.row [],.bool false]
def Ro (l:List Ct):List (List LV):=l.map rct
theorem Av (l:List Ct):(Ro l).length=l.length:=by simp [Ro]
theorem Qsb (l:List Ct):∀ c∈Ro l,c.length=9:=λc hc=>by obtain ⟨x,_,rfl⟩:=Zg.1 hc; rfl
theorem Qaj {l:List Ct} {i:Nat} {c:Ct} (h:l[i]? = some c):(Ro l)[i]? = some (rct c):=Ga h
theorem Qqz {lt:Ct->Ct->Bool} {O:List Ct} {c:Ct} {k:Nat} (hp:S6 lt O c O.length=k):(Ro O).take k++([rct c]++((Ro O).drop k).take ((Ro O).length-k))=Ro (Ns lt O c):=Qq0 hp
theorem Zas {k i0 i1 i2 i3 l j0 j1 j2 j3:Int}:Ub Tryz.prog 322 [.agg [.int .i64 k,.int .i64 i0,.int .i64 i1,.int .i64 i2,.int .i64 i3],.agg [.int .i64 l,.int .i64 j0,.int .i64 j1,.int .i64 j2,.int .i64 j3]] [.one (.bool (Hq [k,i0,i1,i2,i3] [l,j0,j1,j2,j3]))]:=by
 by_cases hk:k=l
 ·subst hk;rw [show Hq [k,i0,i1,i2,i3] [k,j0,j1,j2,j3]=Hq [i0,i1,i2,i3] [j0,j1,j2,j3] from by simp [Hq]];refine Gk Tryz.func322 rfl ?_;refine go tt [.f (by simp)] rfl trivial ?_;refine lp (S:=Nat) 2 (λL1 i=>(5,.v (.one (.int .i64 (i:Int))))::L1) (λ_=>[.blk 88 [.int .i64 k,.int .i64 i0,.int .i64 i1,.int .i64 i2,.int .i64 i3],.blk 88 [.int .i64 k,.int .i64 j0,.int .i64 j1,.int .i64 j2,.int .i64 j3]]) (λi=>4-i) (λi=>i<=4/\Hq ([i0,i1,i2,i3].drop i) ([j0,j1,j2,j3].drop i)=Hq [i0,i1,i2,i3] [j0,j1,j2,j3]) 0 ⟨by omega,rfl⟩ rfl (λ_ _=>rfl) rfl λi ⟨hi,he⟩=>?_
  rw [<-he];rcases (show i=0\/i=1\/i=2\/i=3\/i=4 by omega) with rfl | rfl | rfl | rfl | rfl
  ·by_cases h:i0=j0
   ·exact go tt [.t rfl,.i 0,.i 0,.f (by simpa using h)] rfl (by simp [Ua]) (rd 1 (by omega) ⟨by omega,by simp [Hq,h]⟩ rfl)
   ·exact en tt [.t rfl,.i 0,.i 0,.t (by simpa using h),.i 0,.i 0] rfl (by simp [Hq,h]) trivial
  ·by_cases h:i1=j1
   ·exact go tt [.t rfl,.i 1,.i 1,.f (by simpa using h)] rfl (by simp [Ua]) (rd 2 (by omega) ⟨by omega,by simp [Hq,h]⟩ rfl)
   ·exact en tt [.t rfl,.i 1,.i 1,.t (by simpa using h),.i 1,.i 1] rfl (by simp [Hq,h]) trivial
  ·by_cases h:i2=j2
   ·exact go tt [.t rfl,.i 2,.i 2,.f (by simpa using h)] rfl (by simp [Ua]) (rd 3 (by omega) ⟨by omega,by simp [Hq,h]⟩ rfl)
   ·exact en tt [.t rfl,.i 2,.i 2,.t (by simpa using h),.i 2,.i 2] rfl (by simp [Hq,h]) trivial
  ·by_cases h:i3=j3
   ·exact go tt [.t rfl,.i 3,.i 3,.f (by simpa using h)] rfl (by simp [Ua]) (rd 4 (by omega) ⟨by omega,by simp [Hq,h]⟩ rfl)
   ·exact en tt [.t rfl,.i 3,.i 3,.t (by simpa using h),.i 3,.i 3] rfl (by simp [Hq,h]) trivial
  ·exact en tt [.f rfl] rfl (by simp [Hq]) trivial
 ·exact w tt Tryz.func322 rfl [.t (by simpa using hk)] rfl (by simp [Hq,hk]) trivial
theorem Zav {l:List Ct} (hn:l.length<=1000000):Ub Tryz.prog 293 [.one (.row (Ro l))] [.one (.row (Ro (Gn Mw l)))]:=by
 have hcl:=Av l;refine Gk Tryz.func293 rfl ?_;refine go tt [.o 3 272 9] rfl trivial ?_;refine lp (S:=Nat) 1 (λL1 i=>(8,.v (.one (.int .i64 (i:Int))))::(3,.v (.one (.orow 0 9 none)))::L1) (λi=>[.row false 272 9 (Ro (Gn Mw (l.take i)))]) (λi=>l.length-i) (λi=>i<=l.length) 0 (Qi _) rfl (λ_ _=>rfl) rfl λi hi=>?_
 by_cases hlt:i<l.length
 ·obtain ⟨c,hc⟩:=gxE (l:=l) (i:=i) hlt;have hst:Gn Mw (l.take (i+1))=Ns Mw (Gn Mw (l.take i)) c:=Qbo hc;obtain ⟨O,hO⟩:=nmE (Gn Mw (l.take i));have hOl:O.length=i:=by rw [hO,Pi,Qq]; omega
  have hrl:=Av O;rw [<-hO] at hst ⊢;refine go tt [.t (decide_eq_true (by omega))] rfl trivial ?_;refine lp (S:=Nat) 1 (λL1 k=>(5,.v (.one (.int .i64 (k:Int))))::L1) (λ_=>[.row false 272 9 (Ro O)]) id (λk=>k<=O.length/\S6 Mw O c k=S6 Mw O c O.length) (Ro O).length ⟨by omega,by rw [hrl]⟩ rfl (λ_ _=>rfl) rfl λk ⟨hk,hp⟩=>?_
  have h7:=Qsb O;have h7z:∀ y∈[rct c],y.length=9:=λy hy=>by rw [Qp.1 hy]; rfl
  cases k with
  |
   zero =>
   have hp:S6 Mw O c O.length=0:=by rw [<-hp]; rfl
   refine go tt [.g 15 false (by simp),.f rfl,.i 0,.x (Qaj hc),.lo,.i 0,.s (sz:=9) (λy hy=>h7 y (Qk hy)),.s (sz:=9) (λy hy=>(Q0.1 hy).elim (h7z y) λhy=>h7 y (Qk hy))] rfl (by simp [Ua]; omega) ?_;exact rd (i+1) (by omega) hlt (by rw [hst,<-Qqz hp]; rfl)
  |
   succ k =>
   obtain ⟨x,hx⟩:=gxE (l:=O) (i:=k) (by omega);have cb:=Zas (k:=c.kind) (i0:=c.i0) (i1:=c.i1) (i2:=c.i2) (i3:=c.i3) (l:=x.kind) (j0:=x.i0) (j1:=x.i1) (j2:=x.i2) (j3:=x.i3);by_cases hlc:Mw c x=true
   ·refine go tt [.g 15 true (by simp),.x (Qaj hc),.r 23 (eI (b:=(k:Int)) (by simp)),.i k,.x (Qaj hx),.c [] cb,.t hlc,.r 30 (eI (b:=(k:Int)) (by simp))] rfl (by simp [Ua]; omega) ?_;exact rd k (by simp) ⟨by omega,by rw [<-hp,Qcv hx hlc]⟩ rfl
   ·have hlc:Mw c x=false:=by simpa using hlc
    have hp:S6 Mw O c O.length=k+1:=by rw [<-hp,Of hx hlc]
    refine go tt [.g 15 true (by simp),.x (Qaj hc),.r 23 (eI (b:=(k:Int)) (by simp)),.i k,.x (Qaj hx),.c [] cb,.f hlc,.i (k+1),.x (Qaj hc),.lo,.i (k+1),.s (sz:=9) (λy hy=>h7 y (Qz (Qk hy))),.s (sz:=9) (λy hy=>(Q0.1 hy).elim (h7z y) λhy=>h7 y (Qz (Qk hy)))] rfl (by simp [Ua]; omega) ?_;exact rd (i+1) (by omega) hlt (by rw [hst,<-Qqz hp]; rfl)
 ·obtain rfl:i=l.length:=by omega
  rw [Za];exact en tt [.f (decide_eq_false (by omega))] rfl rfl trivial
abbrev sgq (q:Rat):List Int->Int:=λp=>U5 p q
abbrev rzc:List LV:=[.int .i64 0,.int .i64 0,.int .i64 0,.int .i64 0,.int .i64 0,.nils,.int .i64 0,.nils,.bool false]
theorem Q37 {l:List Ct} (hn:l.length<=1000000):Ub Tryz.prog 127 [.one (.row []),.one (.row (Ro l))] [.one (.row (Ro l))]:=by
 have hcl:=Av l;refine Gk Tryz.func127 rfl ?_;refine go tt [] rfl trivial ?_;refine lp (S:=Nat) 0 (λL1 i=>(9,.v (.one (.int .i64 (i:Int))))::L1) (λ_=>[]) (λi=>l.length-i) (λi=>i<=l.length) 0 (Qi _) rfl (λ_ _=>rfl) rfl λi hi=>?_
 by_cases hlt:i<l.length
 ·refine go tt [.t (decide_eq_true (by omega))] rfl trivial ?_;refine lp (S:=Nat) 0 (λL1 k=>(14,.v (.one (.int .i64 (k:Int))))::L1) (λ_=>[]) (λk=>0-k) (λk=>k=0) 0 rfl rfl (λ_ _=>rfl) rfl λk hk=>?_
  subst hk;exact go tt [.f rfl] rfl (by simp [Ua]; omega) (rd (i+1) (by omega) hlt rfl)
 ·exact en tt [.f (decide_eq_false (by omega))] rfl rfl trivial
theorem Zb0 (l:List Nat) (n:Nat):(lm l).take (min l.length n)=lm (l.take n):=by
 rw [lm,lm,<-Jo];rcases Nat.le_total l.length n with h | h
 ·rw [Zr h,Za,Qm h]
 ·rw [Vu h]
theorem Zf0 {l:List Nat} {n:Nat} (hn:n<=1000):Ub Tryz.prog 252 [.one (.row (lm l)),.one (.int .i64 (n:Int))] [.one (.row (lm (l.take n)))]:=by
 rw [<-Zb0];have hll:(lm l).length=l.length:=by simp [lm]
 exact w tt Tryz.func252 rfl [.r 9 (eI (b:=((min l.length n:Nat):Int)) (by omega)),.i (min l.length n)] rfl rfl (by simp [Ua,hll]; omega)
theorem Q3r {z:RawInt}:Ub Tryz.prog 197 [.agg (Qex z),.one (.int .i64 1)] [.agg (Qex z.cut)] :=
 w tt Tryz.func197 rfl [.c [] (Zf0 (l:=z.l) (n:=1) (by decide))] rfl rfl trivial
def Qa0 (l:List RawInt):List (List LV):=l.map Qex
theorem Qak (l:List RawInt):(Qa0 l).length=l.length:=by simp [Qa0]
theorem Qw3 {l:List RawInt}:Ub Tryz.prog 196 [.one (.row (Qa0 l)),.one (.int .i64 3),.one (.int .i64 1)] [.one (.row (Qa0 ((l.take 3).map RawInt.cut)))]:=by
 have hll:=Qak l;refine Gk Tryz.func196 rfl (ln 0 rfl rfl λhzl=>?_);rw [hll] at hzl;refine go tt [.o 7 51 2] rfl trivial ?_;refine lp (S:=Nat) 1 (λL1 i=>(8,.v (.one (.int .i64 (i:Int))))::(7,.v (.one (.orow 0 2 none)))::L1) (λi=>[.row false 51 2 (Qa0 ((l.take i).map RawInt.cut))]) (λi=>3-i) (λi=>i<=3/\i<=l.length) 0 ⟨by decide,Qi _⟩ rfl (λ_ _=>rfl) rfl λi ⟨hi,hi2⟩=>?_
 have hil:(Qa0 ((l.take i).map RawInt.cut)).length=i:=by rw [Qak,Zd,Qq]; omega
 by_cases h1:i<l.length
 ·by_cases h2:i<3
  ·obtain ⟨z,hz⟩:=gxE (l:=l) (i:=i) h1;have hm:∀ y∈[Qex z.cut],y.length=2:=λy hy=>by rw [Qp.1 hy]; rfl
   refine go tt [.g 13 true (decide_eq_true (by omega)),.t (decide_eq_true (by omega)),.x (Ga (f:=Qex) hz),.c [] Q3r,.s (sz:=2) hm] rfl (by simp [Ua,hil,-List.map_take]; omega) ?_;exact rd (i+1) (by omega) ⟨h2,h1⟩ (by rw [Xa,hz]; simp [Qa0]; rfl)
  ·have e:i=3:=by omega
   have e2:l.take 3=l.take i:=by rw [e]
   rw [e2];exact en tt [.g 13 true (decide_eq_true (by omega)),.f (decide_eq_false (by omega))] rfl rfl trivial
 ·have e:l.take i=l.take 3:=by rw [Qm (by omega),Qm (by omega)]
  rw [e];exact en tt [.g 13 false (decide_eq_false (by omega)),.f rfl] rfl rfl trivial
abbrev rcw (z:RawPt):List LV:=[.row (Qa0 z.x),.row (Qa0 z.y),.bool z.d.b,.row (lm z.d.l)]
def RawPt.cut (z:RawPt):RawPt:=⟨(z.x.take 3).map RawInt.cut,(z.y.take 3).map RawInt.cut,z.d.cut,z.id⟩
theorem Zir {z:RawPt}:Ub Tryz.prog 124 [.agg (rcw z),.one (.int .i64 3),.one (.int .i64 1)] [.agg (rcw z.cut)] :=
 w tt Tryz.func124 rfl [.c [] (Qw3 (l:=z.x)),.c [] (Qw3 (l:=z.y)),.c [] (Q3r (z:=z.d))] rfl rfl trivial
theorem Qb0 {z:RawInt} (hz:z.Ok) {most:Int} (hm:0<=most/\most<=999):Ub Tryz.prog 198 [.agg (Qex z),.one (.int .i64 most)] [.agg (Gb (H6 most z))]:=by
 obtain ⟨b,l⟩:=z;have hb:=Qbf hm.1 ⟨b,l⟩;have hs:Ul (H6 most ⟨b,l⟩)<=100000000:=Qa (Rh.2 (show (H6 most ⟨b,l⟩).natAbs<2^10 by omega)) (by decide);cases l with
 | nil=>exact w tt Tryz.func198 rfl [.t rfl] rfl (by simp [H6,Dm]) trivial
 |
  cons u l =>
  have hu:=hz.u u (Qt ..);have co:=Ca (n:=H6 most ⟨b,u::l⟩) (by omega);have ct:=Q3h hs;have hr:Int.tmod (u:Int) (most+1)=(u:Int) % (most+1):=Yv (by omega);have h1:=V1 (u:Int) (b:=most+1) (by omega);have h2:=Y3 (u:Int) (b:=most+1) (by omega);cases b with
  |
   true =>
   rw [show H6 most ⟨true,u::l⟩=-((u:Int) % (most+1)) from rfl] at co ct ⊢;exact w tt Tryz.func198 rfl [.f (decide_eq_false (by simp [lm]; try omega)),.x (l:=lm (u::l)) (i:=0) (xs:=[.int .u32 (u:Int)]) rfl,.r 18 (eI hr),.t rfl,.c [] co,.c [] ct] rfl rfl (by simp [Ua]; omega)
  |
   false =>
   rw [show H6 most ⟨false,u::l⟩=(u:Int) % (most+1) from rfl] at co ct ⊢;exact w tt Tryz.func198 rfl [.f (decide_eq_false (by simp [lm]; try omega)),.x (l:=lm (u::l)) (i:=0) (xs:=[.int .u32 (u:Int)]) rfl,.r 18 (eI hr),.f rfl,.c [] co,.c [] ct] rfl rfl (by simp [Ua]; omega)
theorem oz2 {P:Program} [Mo P] {n:Nat} {Q:Exit->Sg->List OB->Prop} {L L':Sg} {B B':List OB} (d off T sz:Nat) {it:List It} (hs:H4 it=true) (h:Q1c (P:=P) d L B [.oc d off T sz]=some (L',B',[],[])) (k:AK P n Q it L' B'):AK P n Q it L B:=AK.sub (Qoh h EqOk.nil) hs k
theorem pz {P:Program} [Mo P] {n:Nat} {Q:Exit->Sg->List OB->Prop} {L L':Sg} {B B':List OB} (i:Nat) {it:List It} (hs:H4 it=true) (h:Q1f [i] L B=some (L',B')) (k:AK P n Q it L' B'):AK P n Q it L B:=AK.sub (Qcy h) hs k
def Eh (l:List Int):List (List LV):=l.map Gb
theorem Q03 (l:List Int):(Eh l).length=l.length:=by simp [Eh]
theorem Qen {most:Int} {l:List RawInt} {i:Nat} {a:RawInt} (hi:i<3) (h:l[i]? = some a):Eh (Gh most (l.take (i+1)))=Eh (Gh most (l.take i))++[Gb (H6 most a)]:=by
 rw [Qnw hi h]; simp [Eh]
theorem Qnv {most:Int} {l:List RawInt} {i:Nat} (hi:i<=3) (h:i<=l.length):(Eh (Gh most (l.take i))).length=i:=by
 rw [Q03]; unfold Gh; rw [List.length_map,List.length_take,List.length_take]; omega
theorem Q20 {z:RawPt} (hz:z.Ok) {most:Int} (hm:0<=most/\most<=999):Ub Tryz.prog 125 [.agg (rcw z),.one (.int .i64 most)] [.agg (cl4 (Qci most z.x z.y z.d))]:=by
 have hxl:=Qak z.x;have hyl:=Qak z.y;obtain ⟨D,hD⟩:=nmE (H6 3 z.d);have cd:=Qb0 hz.d (most:=3) (by decide);have hx0:∀ {i:Nat},z.x.length<=i\/3<=i->Gh most (z.x.take i)=Gh most z.x:=Qfn most;have hy0:∀ {i:Nat},z.y.length<=i\/3<=i->Gh most (z.y.take i)=Gh most z.y:=Qfn most;unfold Qci;rw [<-hD] at cd ⊢;refine Gk Tryz.func125 rfl ?_;refine go tt [.c [] cd] rfl trivial ?_;refine oz2 5 0 51 2 rfl rfl ?_;refine lp (S:=Nat) 4 (λL1 i=>(6,.v (.one (.int .i64 (i:Int))))::L1) (λi=>[.blk 53 (rcw z),.blk 53 [.nils,.nils,.bool false,.nils],.blk 53 [.orow 3 2 none,.nils,sg D,mg D],.row false 51 2 (Eh (Gh most (z.x.take i)))]) (λi=>3-i) (λi=>i<=3/\i<=z.x.length) 0 ⟨by decide,Qi _⟩ rfl (λ_ _=>rfl) rfl λi ⟨hi,hi2⟩=>?_
 have hll:=Qnv (most:=most) hi hi2;by_cases hr:i<z.x.length/\i<3
 ·obtain ⟨a,ha⟩:=gxE (l:=z.x) (i:=i) hr.1;have hs:∀ y∈[Gb (H6 most a)],y.length=2:=λy hy=>by rw [Qp.1 hy]; rfl
  refine go tt [.g 17 true (decide_eq_true (by omega)),.t (decide_eq_true (by omega)),.x (Ga (f:=Qex) ha),.c [] (Qb0 (hz.x a (Qc ha)) hm),.s (sz:=2) hs] rfl (by simp [Ua,hll]; omega) ?_;exact rd (i+1) (by omega) ⟨hr.2,hr.1⟩ (by rw [Qen hr.2 ha]; rfl)
 have hg1:decide ((i:Int)<((Qa0 z.x).length:Int))=true->i<z.x.length:=λh=>by have:=of_decide_eq_true h; omega
 rw [hx0 (by omega)];clear hll;have hfin:∀ {j:Nat},j<=3/\j<=z.y.length->¬(j<z.y.length/\j<3)->Eh (Gh most (z.y.take j))=Eh (Gh most z.y):=λh1 h2=>by rw [hy0 (by omega)]
 by_cases hxx:i<z.x.length
 ·refine go tt [.g 17 true (decide_eq_true (by omega)),.f (decide_eq_false (by omega))] rfl trivial ?_;refine pz 3 rfl rfl ?_;refine oz2 5 1 51 2 rfl rfl ?_;refine lp (S:=Nat) 5 (λL1 j=>(7,.v (.one (.int .i64 (j:Int))))::L1) (λj=>[.blk 53 (rcw z),.blk 53 [.nils,.nils,.bool false,.nils],.blk 53 [.row (Eh (Gh most z.x)),.orow 4 2 none,sg D,mg D],.gone,.row false 51 2 (Eh (Gh most (z.y.take j)))]) (λj=>3-j) (λj=>j<=3/\j<=z.y.length) 0 ⟨by decide,Qi _⟩ rfl (λ_ _=>rfl) rfl λj ⟨hj,hj2⟩=>?_
  have hll:=Qnv (most:=most) hj hj2;by_cases hr:j<z.y.length/\j<3
  ·obtain ⟨a,ha⟩:=gxE (l:=z.y) (i:=j) hr.1;have hs:∀ y∈[Gb (H6 most a)],y.length=2:=λy hy=>by rw [Qp.1 hy]; rfl
   refine go tt [.g 40 true (decide_eq_true (by omega)),.t (decide_eq_true (by omega)),.x (Ga (f:=Qex) ha),.c [] (Qb0 (hz.y a (Qc ha)) hm),.s (sz:=2) hs] rfl (by simp [Ua,hll]; omega) ?_;exact rd (j+1) (by omega) ⟨hr.2,hr.1⟩ (by rw [Qen hr.2 ha]; rfl)
  rw [hfin ⟨hj,hj2⟩ hr];by_cases hyy:j<z.y.length
  ·exact ed tt [4] [] [.g 40 true (decide_eq_true (by omega)),.f (decide_eq_false (by omega))] rfl trivial
  ·exact ed tt [4] [] [.g 40 false (decide_eq_false (by omega)),.f rfl] rfl trivial
 ·refine go tt [.g 17 false (decide_eq_false (by omega)),.f rfl] rfl trivial ?_;refine pz 3 rfl rfl ?_;refine oz2 5 1 51 2 rfl rfl ?_;refine lp (S:=Nat) 5 (λL1 j=>(7,.v (.one (.int .i64 (j:Int))))::L1) (λj=>[.blk 53 (rcw z),.blk 53 [.nils,.nils,.bool false,.nils],.blk 53 [.row (Eh (Gh most z.x)),.orow 4 2 none,sg D,mg D],.gone,.row false 51 2 (Eh (Gh most (z.y.take j)))]) (λj=>3-j) (λj=>j<=3/\j<=z.y.length) 0 ⟨by decide,Qi _⟩ rfl (λ_ _=>rfl) rfl λj ⟨hj,hj2⟩=>?_
  have hll:=Qnv (most:=most) hj hj2;by_cases hr:j<z.y.length/\j<3
  ·obtain ⟨a,ha⟩:=gxE (l:=z.y) (i:=j) hr.1;have hs:∀ y∈[Gb (H6 most a)],y.length=2:=λy hy=>by rw [Qp.1 hy]; rfl
   refine go tt [.g 40 true (decide_eq_true (by omega)),.t (decide_eq_true (by omega)),.x (Ga (f:=Qex) ha),.c [] (Qb0 (hz.y a (Qc ha)) hm),.s (sz:=2) hs] rfl (by simp [Ua,hll]; omega) ?_;exact rd (j+1) (by omega) ⟨hr.2,hr.1⟩ (by rw [Qen hr.2 ha]; rfl)
  rw [hfin ⟨hj,hj2⟩ hr];by_cases hyy:j<z.y.length
  ·exact ed tt [4] [] [.g 40 true (decide_eq_true (by omega)),.f (decide_eq_false (by omega))] rfl trivial
  ·exact ed tt [4] [] [.g 40 false (decide_eq_false (by omega)),.f rfl] rfl trivial
theorem Zab {n d:Int} (hn:-9223372036854775808<=n/\n<=9223372036854775807) (hd:-9223372036854775808<=d/\d<=9223372036854775807):Ub Tryz.prog 52 [.one (.int .i64 n),.one (.int .i64 d)] [.agg (fr (Ft (Ih n 61-30) (1+Ih d 6)))]:=by
 have h1:Ih n 61=n % 61:=rfl;have h2:Ih d 6=d % 6:=rfl;exact w tt Tryz.func52 rfl [.c [] (Qbz (v:=n) (n:=61) hn (by decide)),.c [] (Qbz (v:=d) (n:=6) hd (by decide)),.c [] (Zea (n:=Ih n 61-30) (d:=1+Ih d 6) (by omega) (by omega))] rfl rfl (by simp [Ua]; omega)
def rwq (z:RawPt):List LV:=rcw z++[.int .i64 z.id]
def Qc6 (l:List RawPt):List (List LV):=l.map rwq
theorem Q1o (l:List RawPt):(Qc6 l).length=l.length:=by simp [Qc6]
theorem Qow {l:List RawPt} {i:Nat} {z:RawPt} (h:l[i]? = some z):(Qc6 l)[i]? = some (rwq z):=Ga h
theorem Zf8 {most:Int} (hm:0<=most/\most<=999) (z:RawPt):Cs 100000 16 (Qaa most z).c:=(Qkp hm z.x z.y z.d).mono (by decide) (by decide)
def Ev (n:Nat) (most:Int) (zs:List RawPt) (i:Nat):List Pt:=Qeu n most (zs.take i)
theorem Q7a (n:Nat) (most:Int) (zs:List RawPt) (i:Nat):(Ev n most zs i).length<=n:=I2 _ _ (Qi _)
theorem Zcq {n:Nat} {most:Int} {zs:List RawPt} {i:Nat} {z:RawPt} (h:zs[i]? = some z) (hl:(Ev n most zs i).length<n) (ha:(Ev n most zs i).any (λx=>decide (x.id=(Qaa most z).id))=true):Ev n most zs (i+1)=Ev n most zs i:=by
 unfold Ev Qeu at *;rw [Xa,h,Wg,Yc];exact Ak _ _ _ hl ha
theorem Q7b {n:Nat} {most:Int} {zs:List RawPt} {i:Nat} {z:RawPt} (h:zs[i]? = some z) (hl:(Ev n most zs i).length<n) (ha:(Ev n most zs i).any (λx=>decide (x.id=(Qaa most z).id))=false):Ev n most zs (i+1)=Ev n most zs i++[Qaa most z]:=by
 unfold Ev Qeu at *;rw [Xa,h,Wg,Yc];exact Lp _ _ _ hl ha
theorem Q69 {n:Nat} {most:Int} {zs:List RawPt} {i:Nat} (h:¬(i<zs.length/\(Ev n most zs i).length<n)):Ev n most zs i=Qeu n most zs:=by
 by_cases h1:i<zs.length
 ·have hl:n<=(Ev n most zs i).length:=Ym λh2=>h ⟨h1,h2⟩
  unfold Ev Qeu at *
  conv=>rhs; rw [<-Q9 i zs,Yc]
  exact (Qd9 _ _ _ hl).symm
 ·unfold Ev; rw [List.take_of_length_le (by omega)]
theorem Q2g {f:Pt->Bool} {l:List Pt} {k:Nat} {x:Pt} (h:l[k]? = some x):(l.take (k+1)).any f=((l.take k).any f || f x):=by
 rw [Xa,h]; simp
theorem Qzz {zs:List RawPt} (hz:∀ z∈zs,z.Ok):G6 Tryz.prog 63 [.one (.row (Qc6 zs)),.one (.int .i64 4)] [] [.one (.orow 0 5 none),.one (.orow 1 7 none)] [.row false 135 5 (Uq (Qeu 4 20 zs)),.row false 57 7 (U4 ((Qeu 4 20 zs).map Pt.nrm))]:=by
 have hzl:=Q1o zs;refine Gk Tryz.func63 rfl (ln 0 rfl rfl λhz63=>?_);rw [hzl] at hz63;refine go tt [.o 6 135 5,.o 7 57 7] rfl trivial ?_;refine lp (S:=Nat) 2 (λL1 i=>(8,.v (.one (.int .i64 (i:Int))))::(6,.v (.one (.orow 0 5 none)))::(7,.v (.one (.orow 1 7 none)))::L1) (λi=>[.row false 135 5 (Uq (Ev 4 20 zs i)),.row false 57 7 (U4 ((Ev 4 20 zs i).map Pt.nrm))]) (λi=>zs.length-i) (λi=>i<=zs.length) 0 (Qi _) rfl (λ_ _=>rfl) rfl λi hi=>?_
 have hOl:=Q7a 4 20 zs i;have hend:=Q69 (n:=4) (most:=20) (zs:=zs) (i:=i);by_cases h1:i<zs.length
 ·by_cases h2:(Ev 4 20 zs i).length<4
  ·obtain ⟨z,hzi⟩:=gxE (l:=zs) (i:=i) h1;have hzok:=hz z (Qc hzi);have hin:=Zcq hzi h2;have hout:=Q7b hzi h2;obtain ⟨O,hO⟩:=nmE (Ev 4 20 zs i);rw [<-hO] at hOl h2 hin hout ⊢;have hpl:=Du O;have hrl:(U4 (O.map Pt.nrm)).length=O.length:=by rw [Tq,Zd]
   obtain ⟨p,hp⟩:=nmE (Qaa 20 z);have hid:Ih z.id 1000=p.id:=by rw [hp]; rfl
   have cw:=Qbz (v:=z.id) (n:=1000) hzok.id (by decide);have cl:=Q20 hzok (most:=20) (by decide);have ecl:cl4 (Qci 20 z.x z.y z.d)=cl4 p.c:=by rw [hp]; rfl
   rw [hid] at cw;rw [ecl] at cl;rw [<-hp] at hin hout;refine go tt [.g 16 true (decide_eq_true (by omega)),.t (decide_eq_true (by omega)),.x (Qow hzi),.c [] (Zir (z:=z)),.x (Qow hzi),.c [] cw,.f rfl,.t rfl,.x (Qow hzi),.c [] cl] rfl trivial ?_;refine lp (S:=Nat) 3 (λL1 k=>(57,.v (.one (.int .i64 (k:Int))))::(10,.v (.one (.bool ((O.take k).any (λx=>decide (x.id=p.id))))))::L1) (λ_=>[.row false 135 5 (Uq O),.row false 57 7 (U4 (O.map Pt.nrm)),.blk 135 [pl p.c.x,pl p.c.y,sg p.c.d,mg p.c.d,.int .i64 p.id]]) (λk=>O.length-k) (λk=>k<=O.length) 0 (Qi _) rfl (λ_ _=>rfl) rfl λk hk=>?_
   by_cases hk2:k<O.length
   ·obtain ⟨x,hx⟩:=gxE (l:=O) (i:=k) hk2;have ha:=Q2g (f:=λx=>decide (x.id=p.id)) hx;cases hb:(O.take k).any (λx=>decide (x.id=p.id)) with
    |
     true =>
     rw [hb,Bool.true_or] at ha;exact go tt [.t (decide_eq_true (by omega)),.g 61 true rfl] rfl (by simp [Ua]; omega) (rd (k+1) (by omega) hk2 (by rw [ha]; rfl))
    |
     false =>
     rw [hb,Bool.false_or] at ha;exact go tt [.t (decide_eq_true (by omega)),.g 61 false rfl,.i k,.x (Oo hx)] rfl (by simp [Ua,hpl]; omega) (rd (k+1) (by omega) hk2 (by rw [ha]; rfl))
   have hk3:O.take k=O:=Qm (by omega);rw [hk3];cases hb:O.any (λx=>decide (x.id=p.id)) with
   |
    true =>
    refine go tt [.f (decide_eq_false (by omega)),.f rfl] rfl (by simp [Ua]; omega) ?_;exact rd (i+1) (by omega) h1 (by rw [hin hb]; rfl)
   |
    false =>
    have cf:=Q36 (k:=p.c) (id:=p.id) (by rw [hp]; exact Zf8 (by decide) z);have hm1:∀ y∈[Hw p],y.length=5:=λy hy=>by rw [Qp.1 hy]; rfl
    have hm2:∀ y∈[rpt p.nrm],y.length=7:=λy hy=>by rw [Qp.1 hy]; rfl
    have e1:Uq (O++[p])=Uq O++[Hw p]:=by simp [Uq]
    have e2:U4 ((O++[p]).map Pt.nrm)=U4 (O.map Pt.nrm)++[rpt p.nrm]:=by simp [U4]
    refine go tt [.f (decide_eq_false (by omega)),.t rfl,.s (sz:=5) hm1,.c [] cf,.s (sz:=7) hm2] rfl (by simp [Ua,hpl,hrl]; omega) ?_;exact rd (i+1) (by omega) h1 (by rw [hout hb,e1,e2]; rfl)
  ·rw [hend (λh=>h2 h.2)];rw [hend (λh=>h2 h.2)] at h2;have hpl:=Du (Qeu 4 20 zs);exact ed tt [] [0,1] [.g 16 true (decide_eq_true (by omega)),.f (decide_eq_false (by omega))] rfl trivial
 ·rw [hend (λh=>h1 h.1)];exact ed tt [] [0,1] [.g 16 false (decide_eq_false (by omega)),.f rfl] rfl trivial
abbrev plZ (M:List Pt) (q:Rat):List LV:=.row (U4 M)::(fr q++[.nils,.nils,.nils,.bool false,.nils,.bool false,.nils,.bool false,.nils,.bool false,.nils,.int .i64 0,.nils])
abbrev plB (M:List Pt) (q:Rat) (c:List (List Int)) (w:List Ct):List LV:=.row (U4 M)::(fr q++(aq q c++[.row (Ro w),.int .i64 0,.nils]))
end Orr
namespace Orr
open Go Go.Proofs Orq
set_option maxRecDepth 10000
theorem Zba {O:List Pt} {e j:Nat} (h:Lj (Ts O e)) (hj:j<=e):Lj (Ts O j):=by
 have:Ts O j=(Ts O e).take j:=by unfold Ts; rw [<-List.map_take,List.take_take,Nat.min_eq_left hj]
 rw [this];exact List.Pairwise.sublist (Wl _ _) h
theorem Zga (O:List Pt):∃ e,e<=O.length/\Lj (Ts O e)/\(e<O.length->¬Lj (Ts O (e+1))):=by
 have key:∀ k,Lj (Ts O k)\/∃ e,e<k/\Lj (Ts O e)/\¬Lj (Ts O (e+1)):=by
  intro k
  induction k with
  | zero=>exact .inl List.Pairwise.nil
  |
   succ k ih =>
   rcases ih with h | ⟨e,h1,h2,h3⟩
   ·by_cases h4:Lj (Ts O (k+1))
    ·exact .inl h4
    ·exact .inr ⟨k,Nat.lt_succ_self k,h,h4⟩
   ·exact .inr ⟨e,by omega,h2,h3⟩
 rcases key O.length with h | ⟨e,h1,h2,h3⟩
 ·exact ⟨O.length,Qj _,h,λh=>absurd h (Wi _)⟩
 ·exact ⟨e,by omega,h2,λ_=>h3⟩
theorem Qoi {O:List Pt} {i:Nat} {p:Pt} (h:O[i]? = some p):(Uq (mix O i)).set i [pl p.c.x,pl p.c.y,sg p.c.d,mg p.c.d,.int .i64 p.m5.id]=Uq (mix O (i+1)):=by
 rw [<-Qyl h]; simp only [Uq,Vm]; rfl
theorem Qka {O:List Pt} {i:Nat} {p:Pt} (h:O[i]? = some p):(U4 ((mix O i).map Pt.nrm)).set i [rp (rxs p.nrm.c.x p.nrm.c.d),rp (rxs p.nrm.c.y p.nrm.c.d),pl p.nrm.c.x,pl p.nrm.c.y,sg p.nrm.c.d,mg p.nrm.c.d,.int .i64 p.m5.id]=U4 ((mix O (i+1)).map Pt.nrm):=by
 rw [<-Qyl h]; simp only [U4,Vm]; rfl
theorem Q1e {O:List Pt} {e i:Nat} (h:e<=i) (hi:i<=O.length):(Uq (mix O i)).take e=Uq (Ts O e):=by
 unfold Uq; rw [<-List.map_take,Qrg h hi]; rfl
theorem Qvo {O:List Pt} {e i:Nat} (h:e<=i) (hi:i<=O.length):(U4 ((mix O i).map Pt.nrm)).take e=U4 (Qat O e):=by
 unfold U4; rw [<-List.map_take,<-List.map_take,Qrg h hi]; rfl
theorem Qrf {O:List Pt}:mix O O.length=Ts O O.length:=by unfold mix Ts; simp
abbrev Ay (n d:Int):Rat:=Ft (Ih n 61-30) (1+Ih d 6)
theorem Qmb (n d:Int):Qs 100 (Ay n d):=by
 have h1:Ih n 61=n % 61:=rfl;have h2:Ih d 6=d % 6:=rfl;unfold Ay Ft;rw [if_neg (by omega)];exact Qs.divInt (Qa (Rh.2 (show (Ih n 61-30).natAbs<2^10 by omega)) (by decide)) (Qa (Rh.2 (show (1+Ih d 6).natAbs<2^10 by omega)) (by decide)) (by decide)
theorem Zcr {n:Nat} {most:Int} {l:List RawPt}:∀ p∈Qeu n most l,0≤p.id/\p.id<1000:=λp hp=>by
 rcases Qb9 _ _ hp with h | h
 ·cases h
 ·obtain ⟨z,_,rfl⟩:=Zg.1 h;exact ⟨V1 _ (by decide),Y3 _ (by decide)⟩
end Orr
namespace Orr
open Go Go.Proofs
set_option maxRecDepth 10000
def Om (q:Rat) (a b:Pt):Bool:=if Lq (Gw b.c a.c) q≠0 then decide (0<Lq (Gw b.c a.c) q) else if Lq (He b.c a.c) q≠0 then decide (0<Lq (He b.c a.c) q) else decide (a.id<b.id)
theorem Q35 {a b:Pt} {q:Rat} {c:List (List Int)} (ha:Rs a.c) (hb:Rs b.c) (hq:Qs 1000000 q):Ub Tryz.prog 323 [.agg (rpt a),.agg (rpt b),.agg (aq q c)] [.one (.bool (Om q a b))]:=by
 have c1:=Ip (p:=Gw b.c a.c) (c:=c) (W9 (Qaf hb ha).1 (by decide)) (Qa (Qaf hb ha).2 (by decide)) hq;have c2:=Ip (p:=He b.c a.c) (c:=c) (W9 (Qag hb ha).1 (by decide)) (Qa (Qag hb ha).2 (by decide)) hq;by_cases h1:Lq (Gw b.c a.c) q≠0
 ·exact w tt Tryz.func323 rfl [.c [] (Ir hb ha),.c [] c1,.t (decide_eq_true h1)] rfl (by unfold Om; rw [if_pos h1]) trivial
 by_cases h2:Lq (He b.c a.c) q≠0
 ·exact w tt Tryz.func323 rfl [.c [] (Ir hb ha),.c [] c1,.f (decide_eq_false h1),.c [] (Qhr hb ha),.c [] c2,.t (decide_eq_true h2)] rfl (by unfold Om; rw [if_neg h1,if_pos h2]) trivial
 ·exact w tt Tryz.func323 rfl [.c [] (Ir hb ha),.c [] c1,.f (decide_eq_false h1),.c [] (Qhr hb ha),.c [] c2,.f (decide_eq_false h2)] rfl (by unfold Om; rw [if_neg h1,if_neg h2]) trivial
abbrev rgm (m:Pt×Pt):List LV:=rpt m.1++rpt m.2
def Aw (l:List (Pt×Pt)):List (List LV):=l.map rgm
theorem Dt (l:List (Pt×Pt)):(Aw l).length=l.length:=by simp [Aw]
theorem Qc2 (l:List (Pt×Pt)):∀ c∈Aw l,c.length=14:=λc hc=>by obtain ⟨x,_,rfl⟩:=Zg.1 hc; rfl
abbrev Zju:Pt:=⟨⟨[],[],0⟩,0⟩
def brk (bt:Pt->Pt->Bool):Nat->List Pt->Pt×List (Pt×Pt)
 | 0,l=>(l.headD Zju,[])
 |
  k+1,l=>if l.length<=1 then (l.headD Zju,[]) else
  if bt (brk bt k (l.take ((l.length+1) / 2))).1 (brk bt k (l.drop ((l.length+1) / 2))).1=true
  then ((brk bt k (l.take ((l.length+1) / 2))).1,((brk bt k (l.take ((l.length+1) / 2))).2++(brk bt k (l.drop ((l.length+1) / 2))).2)++[((brk bt k (l.take ((l.length+1) / 2))).1,(brk bt k (l.drop ((l.length+1) / 2))).1)])
  else ((brk bt k (l.drop ((l.length+1) / 2))).1,((brk bt k (l.take ((l.length+1) / 2))).2++(brk bt k (l.drop ((l.length+1) / 2))).2)++[((brk bt k (l.drop ((l.length+1) / 2))).1,(brk bt k (l.take ((l.length+1) / 2))).1)])
theorem Qhv {l:List Pt} {k:Nat} (h2:¬l.length<=1) (hk:l.length<=k+1):(l.take ((l.length+1) / 2)).length<=k/\(l.drop ((l.length+1) / 2)).length<=k/\0<(l.take ((l.length+1) / 2)).length/\0<(l.drop ((l.length+1) / 2)).length/\(l.take ((l.length+1) / 2)).length+(l.drop ((l.length+1) / 2)).length=l.length:=by
 rw [Qq,Z9]; omega
theorem Qdt (bt:Pt->Pt->Bool):∀ (k:Nat) (l:List Pt),0<l.length->l.length≤k->(brk bt k l).1∈l/\(∀ m∈(brk bt k l).2,m.1∈l/\m.2∈l)/\(brk bt k l).2.length+1=l.length
 | 0,l,h0,hk=>by omega
 |
  k+1,l,h0,hk=>by
  by_cases h1:l.length<=1
  ·obtain ⟨p,rfl⟩:=Yp.1 (show l.length=1 by omega);refine ⟨by simp [brk],λm hm=>by simp [brk] at hm,rfl⟩
  ·obtain ⟨k1,k2,k3,k4,k5⟩:=Qhv h1 hk;obtain ⟨a1,a2,a3⟩:=Qdt bt k _ k3 k1;obtain ⟨b1,b2,b3⟩:=Qdt bt k _ k4 k2;simp only [brk,if_neg h1]
   split
   all_goals
    refine ⟨?_,λm hm=>?_,by simp only [Q8,Yu]; omega⟩
    ·first | exact Qk a1 | exact Qz b1
    ·rcases Q0.1 hm with hm | hm
     ·rcases Q0.1 hm with hm | hm
      ·exact ⟨Qk (a2 m hm).1,Qk (a2 m hm).2⟩
      ·exact ⟨Qz (b2 m hm).1,Qz (b2 m hm).2⟩
     ·rw [Qp.1 hm]
      first | exact ⟨Qk a1,Qz b1⟩ | exact ⟨Qz b1,Qk a1⟩
theorem Zcz {l m:List (List LV)} (h:l=m):TV.one (LV.row l)=.one (.row m):=h ▸ rfl
theorem Qa6 {q:Rat} {c:List (List Int)} (hq:Qs 1000000 q):∀ (k:Nat) (l:List Pt),0<l.length->l.length≤k->l.length≤1000->(∀ p∈l,Rs p.c)->Ub Tryz.prog 294 [.one (.row (U4 l)),.agg (aq q c)] [.agg (rpt (brk (Om q) k l).1),.one (.row (Aw (brk (Om q) k l).2))]
 | 0,l,h0,hk,_,_=>by omega
 |
  k+1,l,h0,hk,hn,hl=>by
  have hcl:=Tq l;by_cases h1:l.length<=1
  ·obtain ⟨p,rfl⟩:=Yp.1 (show l.length=1 by omega);exact w tt Tryz.func294 rfl [.t rfl,.x (Ld (l:=[p]) (i:=0) rfl)] rfl rfl trivial
  ·obtain ⟨k1,k2,k3,k4,k5⟩:=Qhv h1 hk;obtain ⟨a1,a2,a3⟩:=Qdt (Om q) k _ k3 k1;obtain ⟨b1,b2,b3⟩:=Qdt (Om q) k _ k4 k2;have c1:=Qa6 (c:=c) hq k (l.take ((l.length+1) / 2)) k3 k1 (by omega) λp hp=>hl p (Qk hp)
   have c2:=Qa6 (c:=c) hq k (l.drop ((l.length+1) / 2)) k4 k2 (by omega) λp hp=>hl p (Qz hp)
   have hA:=hl _ (Qk a1);have hB:=hl _ (Qz b1);have cb:=Q35 (c:=c) hA hB hq;have e1:(U4 l).take ((l.length+1) / 2)=U4 (l.take ((l.length+1) / 2)):=by simp [U4,Jo]
   have e2:(U4 l).drop ((l.length+1) / 2)=U4 (l.drop ((l.length+1) / 2)):=by simp [U4,Y0]
   have htd:((l.length:Int)+1).tdiv 2=(((l.length+1) / 2:Nat):Int):=rfl;have h7:=eq_true (p:=∀ z,z∈U4 l->z.length=ti57.sz) (Qc4 l);simp only [brk,if_neg h1];generalize brk (Om q) k (l.take ((l.length+1) / 2))=A at *;generalize brk (Om q) k (l.drop ((l.length+1) / 2))=B at *;have g1:=Dt A.2;have g2:=Dt B.2;have gap:∀ m,Aw (A.2++B.2++[m])=(Aw A.2++Aw B.2)++[rgm m]:=λm=>by simp [Aw]
   by_cases hb:Om q A.1 B.1=true
   ·rw [if_pos hb];dsimp only;rw [gap];exact w tt Tryz.func294 rfl [.f (decide_eq_false (by omega)),.r 21 (eI (b:=(((l.length+1) / 2:Nat):Int)) (by rw [hcl]; rfl)),.i ((l.length+1) / 2),.r 25 (Zcz e1),.c [] c1,.i ((l.length+1) / 2),.r 33 (Zcz e2),.c [] c2,.s (sz:=14) (Qc2 A.2),.s (sz:=14) (Qc2 B.2),.c [] cb,.t hb,.s (sz:=14) (l:=[rgm (A.1,B.1)]) (λc hc=>by rw [Qp.1 hc]; rfl)] rfl rfl (by simp [Ua,Tq,Dt,h7]; omega)
   ·have hb:Om q A.1 B.1=false:=by simpa using hb
    rw [if_neg (by rw [hb]; decide)];dsimp only;rw [gap];exact w tt Tryz.func294 rfl [.f (decide_eq_false (by omega)),.r 21 (eI (b:=(((l.length+1) / 2:Nat):Int)) (by rw [hcl]; rfl)),.i ((l.length+1) / 2),.r 25 (Zcz e1),.c [] c1,.i ((l.length+1) / 2),.r 33 (Zcz e2),.c [] c2,.s (sz:=14) (Qc2 A.2),.s (sz:=14) (Qc2 B.2),.c [] cb,.f hb,.s (sz:=14) (l:=[rgm (B.1,A.1)]) (λc hc=>by rw [Qp.1 hc]; rfl)] rfl rfl (by simp [Ua,Tq,Dt,h7]; omega)
theorem Q38 {a b:Pt} {q:Rat} {c:List (List Int)} (ha:Rs a.c) (hb:Rs b.c) (hq:Qs 1000000 q):Ub Tryz.prog 321 [.one (.int .i64 2),.agg (aq q c),.one (.row [rpt a,rpt b])] [.agg (rct (Gv (sgq q) a b)),.one (.bool true)]:=by
 have hfl:=fzl (Gw b.c a.c);have x0:[rpt a,rpt b][0]? = some (rpt a):=rfl;have x1:[rpt a,rpt b][1]? = some (rpt b):=rfl;refine Gk Tryz.func321 rfl ?_;refine go tt [.g 14 false rfl,.g 18 false rfl,.x (l:=[[.int .i64 0],[.int .i64 2],[.int .i64 2],[.int .i64 3],[.int .i64 4],[.int .i64 4]]) (i:=2) (xs:=[.int .i64 2]) rfl,.f rfl] rfl trivial ?_;refine lp (S:=Nat) 3 (λL1 i=>(33,.v (.one (.int .i64 (i:Int))))::L1) (λi=>[.blk 37 (aq q c),.blk 272 rzc,.blk 272 [.int .i64 2,.int .i64 (if 0<i then a.id else 0),.int .i64 (if 1<i then b.id else 0),.int .i64 0,.int .i64 0,.nils,.int .i64 0,.nils,.bool false]]) (λi=>2-i) (λi=>i<=2) 0 (by decide) rfl (λ_ _=>rfl) rfl λi hi=>?_
 rcases (show i=0\/i=1\/i=2 by omega) with rfl | rfl | rfl
 ·exact go tt [.t rfl,.x x0,.i 0] rfl (by simp [Ua]) (rd 1 (by omega) (by omega) rfl)
 ·exact go tt [.t rfl,.x x1,.i 1] rfl (by simp [Ua]) (rd 2 (by omega) (by omega) rfl)
 by_cases h0:(Gw b.c a.c).length=0
 ·have e:Pn a b=He b.c a.c:=if_neg (by omega);exact en tt [.f rfl,.f rfl,.t rfl,.x x1,.x x0,.c [] (Ir hb ha),.t (decide_eq_true (by omega)),.x x1,.x x0,.c [] (Qhr hb ha),.c [] (Ip (p:=He b.c a.c) (c:=c) (W9 (Qag hb ha).1 (by decide)) (Nat.le_trans (Qag hb ha).2 (by decide)) hq)] rfl (by unfold Gv; rw [e]; rfl) trivial
 ·have e:Pn a b=Gw b.c a.c:=if_pos (by omega);exact en tt [.f rfl,.f rfl,.t rfl,.x x1,.x x0,.c [] (Ir hb ha),.f (decide_eq_false (by omega)),.c [] (Ip (p:=Gw b.c a.c) (c:=c) (W9 (Qaf hb ha).1 (by decide)) (Nat.le_trans (Qaf hb ha).2 (by decide)) hq)] rfl (by unfold Gv; rw [e]; rfl) trivial
theorem Zaw {a b:Pt} {q:Rat} {c:List (List Int)} (ha:Rs a.c) (hb:Rs b.c) (hq:Qs 1000000 q):Ub Tryz.prog 292 [.one (.int .i64 2),.agg (aq q c),.one (.row [rpt a,rpt b])] [.agg (rct (Gv (sgq q) a b))] :=
 w tt Tryz.func292 rfl [.c [] (Q38 ha hb hq)] rfl rfl trivial
def Ic (q:Rat) (l:List Pt):List Ct:=if l.length=0 then [] else Gn Mw ((brk (Om q) (Gn Bq l).length (Gn Bq l)).2.map λm=>Gv (sgq q) m.1 m.2)
theorem Q1h (q:Rat) {l:List Pt} (hn:l.length<=1000):(Ic q l).length<=1000000:=by
 unfold Ic
 split
 ·exact Qi _
 ·have hs:(Gn Bq l).length=l.length:=Pi _ _;obtain ⟨_,_,h3⟩:=Qdt (Om q) (Gn Bq l).length (Gn Bq l) (by omega) (Qj _);rw [Pi,Zd]; omega
theorem Qm1 {l:List Pt} {q:Rat} {cs:List (List Int)} (hl:∀ p∈l,Rs p.c) (hn:l.length≤1000) (hq:Qs 1000000 q):Ub Tryz.prog 255 [.one (.row (U4 l)),.agg (aq q cs)] [.one (.row (Ro (Ic q l)))]:=by
 have hcl:=Tq l;by_cases h0:l.length=0
 ·have e:Ic q l=[]:=if_pos h0;rw [e];exact w tt Tryz.func255 rfl [.t (decide_eq_true (by omega))] rfl rfl trivial
 have e:Ic q l=Gn Mw ((brk (Om q) (Gn Bq l).length (Gn Bq l)).2.map λm=>Gv (sgq q) m.1 m.2):=if_neg h0;rw [e];have c1:=Qw8 (l:=l) (by omega);have hML:(Gn Bq l).length=l.length:=Pi _ _;have hMl:∀ p∈Gn Bq l,Rs p.c:=λp hp=>hl p (Qan.1 hp)
 obtain ⟨M,hM⟩:=nmE (Gn Bq l);rw [<-hM] at c1 hML hMl ⊢;have c2:=Qa6 (c:=cs) hq M.length M (by omega) (Qj _) (by omega) hMl;obtain ⟨b1,b2,b3⟩:=Qdt (Om q) M.length M (by omega) (Qj _);generalize brk (Om q) M.length M=B at *;have gl:=Dt B.2;obtain ⟨C,hC⟩:=nmE (B.2.map λm=>Gv (sgq q) m.1 m.2);rw [<-hC];have hCl:C.length=B.2.length:=by rw [hC,Zd]
 have c3:=Zav (l:=C) (by omega);refine Gk Tryz.func255 rfl ?_;refine go tt [.f (decide_eq_false (by omega)),.c [] c1,.c [] c2,.o 7 272 9] rfl trivial ?_;refine lp (S:=Nat) 3 (λL1 i=>(21,.v (.one (.int .i64 (i:Int))))::(7,.v (.one (.orow 2 9 none)))::L1) (λi=>[.blk 37 (aq q cs),.blk 57 (rpt B.1),.row false 272 9 (Ro (C.take i))]) (λi=>B.2.length-i) (λi=>i<=B.2.length) 0 (Qi _) rfl (λ_ _=>rfl) rfl λi hi=>?_
 have htl:(Ro (C.take i)).length=i:=by rw [Av,Qq]; omega
 by_cases hlt:i<B.2.length
 ·obtain ⟨m,hm⟩:=gxE (l:=B.2) (i:=i) hlt;obtain ⟨m1,m2⟩:=b2 m (Qc hm);have hg:(Aw B.2)[i]? = some (rgm m):=Ga hm;have hs:C.take (i+1)=C.take i++[Gv (sgq q) m.1 m.2]:=by
   rw [hC,Xa,Q5,hm]; rfl
  have hm9:∀ y∈[rct (Gv (sgq q) m.1 m.2)],y.length=9:=λy hy=>by rw [Qp.1 hy]; rfl
  refine go tt [.t (decide_eq_true (by omega)),.x hg,.i 0,.x hg,.i 1,.c [] (Zaw (hMl _ m1) (hMl _ m2) hq),.s (sz:=9) hm9] rfl (by simp [Ua,htl]; omega) ?_;exact rd (i+1) (by omega) hlt (by rw [hs]; simp [Ro]; rfl)
 ·have e:C.take i=C:=Qm (by omega);rw [e];exact en tt [.f (decide_eq_false (by omega)),.c [] c3] rfl rfl (by simp [Ua] <;> omega)
theorem Q0a {l:List Pt} {q:Rat} {cs:List (List Int)} (hl:∀ p∈l,Rs p.c) (hn:l.length≤1000) (hq:Qs 1000000 q):Ub Tryz.prog 200 [.one (.int .i64 1),.one (.row (U4 l)),.agg (aq q cs)] [.one (.row (Ro (Ic q l)))] :=
 w tt Tryz.func200 rfl [.f rfl,.t rfl,.c [] (Qm1 hl hn hq)] rfl rfl trivial
theorem Qtf {l:List Pt} {q:Rat} {cs:List (List Int)} (hl:∀ p∈l,Rs p.c) (hn:l.length≤1000) (hq:Qs 1000000 q):Ub Tryz.prog 128 [.one (.int .i64 1),.one (.row (U4 l)),.agg (aq q cs)] [.one (.row (Ro (Ic q l)))] :=
 w tt Tryz.func128 rfl [.c [] (Q0a hl hn hq)] rfl rfl trivial
theorem Qtt {M:List Pt} {q:Rat} {c:List (List Int)} (hM:∀ p∈M,Rs p.c) (hl:M.length≤1000) (hq:Qs 1000000 q) (hC:Qwd q c):G6 Tryz.prog 101 [.one (.ow 0 0)] [.blk 185 (plZ M q)] [] [.blk 185 (plB M q c (Ic q M))]:=by
 refine Gk Tryz.func101 rfl ?_;exact ed tt [] [0] [.c [] (Qpz hq hC),.c [] (Qtf (cs:=c) hM hl hq),.c [] (Q37 (Q1h q hl))] rfl trivial
end Orr
