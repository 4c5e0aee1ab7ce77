/- K4 S1 S2 S3 R5 R6 RefGL R7 RatOkL R8 R9 RefCL R10 RawL NewsL KGoL SortQ BegL R11 R12 R13 R14 R15 R16 R17 R18 PairN PairQ SplitL PW1 R21 DetL -/
import Derived.Test.YtpnhifedfcgjbaaGreatPart07
import Derived.Test.YtpnhifedfcgjbaaGreatPart00
import Derived.Test.YtpnhifedfcgjbaaGreatPart05
set_option linter.all false
namespace Orr
open Go Go.Proofs Orq
set_option maxRecDepth 10000
theorem Qkd {at_:Tm} {x:Ct}:∀ {l:List Wt} {w:Wt},Dk l x at_=some w->w=fresh x\/∃ v∈l,v.known=true/\v.c.p=x.p/\w=⟨x,true,v.fails⟩/\∀ t,v.fails=some t->∃ c,Qe7 t at_=some c/\0<c
 | [],w,h=>by simp only [Dk] at h; injection h with h; exact .inl h.symm
 |
  v::l,w,h=>by
  simp only [Dk] at h;have tl:Dk l x at_=some w->w=fresh x\/∃ v'∈v::l,v'.known=true/\v'.c.p=x.p/\w=⟨x,true,v'.fails⟩/\∀ t,v'.fails=some t->∃ c,Qe7 t at_=some c/\0<c:=λh=>by
   rcases Qkd h with h | ⟨v',h1,h2⟩
   ·exact .inl h
   ·exact .inr ⟨v',Qi _ h1,h2⟩
  split at h
  ·rename_i hk;cases hf:v.fails with
   |
    none =>
    rw [hf] at h;injection h with h;exact .inr ⟨v,Qt ..,hk.2.1,hk.2.2,by rw [hf]; exact h.symm,λt ht=>by rw [hf] at ht; cases ht⟩
   |
    some t =>
    rw [hf] at h;obtain ⟨c,c1,h⟩:=Qf.1 h
    split at h
    ·rename_i h0;injection h with h;exact .inr ⟨v,Qt ..,hk.2.1,hk.2.2,by rw [hf]; exact h.symm,λu hu=>by rw [hf] at hu; injection hu with hu; subst hu; exact ⟨c,c1,h0⟩⟩
    ·exact tl h
  ·exact tl h
theorem lay_ok {c:Cr} {at_:Tm} {l:List Ct} {ws:List Wt} (ev:Int) (hc:CrOk c) (ha:Va at_) (hl:∀ x∈l,Cp x.p) (hn:l.length≤1000) (h:Lm c.l at_ (Uz l)=some ws):CrOk ⟨at_,ws,ev⟩:=by
 obtain ⟨h1,h2⟩:=Qdk h;refine ⟨ha,λw hw=>?_,by show ws.length<=1000; rw [h1,Cz]; exact hn⟩;obtain ⟨i,hi⟩:=Jn hw;have hil:i<(Uz l).length:=by rw [<-h1]; exact (Qc.1 hi).1
 obtain ⟨v,h3,h4⟩:=h2 i _ (Qe hil);rw [hi] at h4; injection h4 with h4; subst h4;have hx:=hl _ (Ai (Xv hil));rcases Qkd h3 with e | ⟨v,v1,_,v3,e,_⟩
 ·rw [e]; exact ⟨hx,λt ht=>by cases ht⟩
 ·rw [e]; exact ⟨hx,λt ht=>(hc.l v v1).f t ht⟩
def goF {β:Type} (Bc:Tm->List Ct) (Br:Tm->β) (t:Rat):Nat->Cr->β->Int->Option (Cr×β×Int)
 | 0,_,_,_=>none
 |
  k+1,c,r,n=>(Oi c.now c.l).bind λws=>(Qtg ws).bind λo=>match o with
  | none=>some (⟨tq t,ws,c.ev⟩,r,n)
  | some a=>if 0<Uq a t then some (⟨tq t,ws,c.ev⟩,r,n) else (Lm ws a (Uz (Bc a))).bind λw2=>goF Bc Br t k ⟨a,w2,c.ev+1⟩ (Br a) (n+1)
theorem Q9j {ws:List Wt} {a:Tm} (h:Qtg ws=some (some a)) (hv:∀ t∈ws.filterMap (·.fails),Va t):a∈ws.filterMap (·.fails)/\∀ t∈ws.filterMap (·.fails),¬Bv t a:=by
 unfold Qtg at h;cases hf:ws.filterMap (·.fails) with
 | nil=>rw [hf] at h; injection h with h; cases h
 |
  cons b l =>
  rw [hf] at h hv;obtain ⟨m,m1,m2⟩:=Vf.1 h;injection m2 with m2; subst m2;obtain ⟨m',n1,n2,n3⟩:=Qfr l b hv;rw [m1] at n1; injection n1 with n1; subst n1;exact ⟨n2,n3⟩
theorem Zjy {c:Cr} {ws:List Wt} {a:Tm} (hc:CrOk c) (h:Oi c.now c.l=some ws) (hr:Qtg ws=some (some a)):Va a:=by
 have hc':=Qh1 hc h;have hv:∀ t∈ws.filterMap (·.fails),Va t:=λt ht=>by
  obtain ⟨w,w1,w2⟩:=Jk.1 ht;exact (hc'.l w w1).f t w2
 exact hv a (Q9j hr hv).1
structure BuildOk (Bc:Tm->List Ct):Prop where
 p:∀ a,Va a->∀ x∈Bc a,Cp x.p
 n:∀ a,Va a->(Bc a).length<=1000
theorem Qmb {T:Nat} {c:Cr} {r0 r1:List (List LV)}:Ge Tryz.prog 22 [.one (.ow 0 0)] [.blk T (Rp c r0 r1)] [.one (.int .i64 c.ev)] [.blk T (Rp c r0 r1)]:=by
 refine Fv Tryz.func22 rfl ?_;exact ed tt [] [0] [] rfl trivial

theorem Q26 {a:Tm} (ha:Va a):Qe7 a a=some 0:=by
 obtain ⟨c,c1,c2⟩:=Qc4 ha ha;rcases c2 with ⟨_,h⟩ | ⟨e,_⟩ | ⟨_,h⟩
 ·exact absurd h λh=>Oj ha.cut ha.cut h h
 ·rw [c1,e]
 ·exact absurd h λh=>Oj ha.cut ha.cut h h
abbrev idl (l:List Int):List (List LV):=l.map λ(z:Int)=>[.int .i64 z]
def Eg (v n:Int):Int:=if n<1 then 0 else v.emod n
theorem Q4p {v n:Int} (h:0<n):(if v.tmod n<0 then v.tmod n+n else v.tmod n)=v % n:=by
 have h3:=Y6 v (show n≠0 by omega);have h4:=Yo v h;have h1:=Int.tmod_eq_emod (a:=v) (b:=n);have hn:((n.natAbs:Nat):Int)=n:=by omega
 split at h1
 ·rw [h1]; simp; omega
 ·rename_i hc;rw [h1,hn];have:v % n≠0:=λe=>hc (.inr (Yh e))
  rw [if_pos (by omega)]; omega
theorem Iy {v n:Int} (hv:-9223372036854775808<=v/\v<=9223372036854775807) (hn:n<=1000000000):W8 Tryz.prog 34 [.one (.int .i64 v),.one (.int .i64 n)] [.one (.int .i64 (Eg v n))]:=by
 unfold Eg;by_cases h:n<1
 ·rw [if_pos h];exact w tt Tryz.func34 rfl [.t (by simpa using h)] rfl rfl trivial
 ·rw [if_neg h];have e:=Q4p (v:=v) (n:=n) (by omega);have h3:=Y6 v (show n≠0 by omega);have h4:=Yo v (show 0<n by omega);show W8 Tryz.prog 34 [.one (.int .i64 v),.one (.int .i64 n)] [.one (.int .i64 (v % n))];by_cases h0:v.tmod n<0
  ·rw [if_pos h0] at e;have b:-n<=v.tmod n:=by omega
   exact w tt Tryz.func34 rfl [.f (by simpa using h),.t (by simpa using h0)] rfl (by rw [e]) (by simp [W6]; omega)
  ·rw [if_neg h0] at e;exact w tt Tryz.func34 rfl [.f (by simpa using h),.f (by simpa using h0)] rfl (by rw [e]) (by simp [W6]; omega)
end Orr
namespace Orr
open Go Go.Proofs
set_option maxRecDepth 10000
def frow (p:List Rat):List (List LV):=p.map fr
theorem H9 (p:List Rat):(frow p).length=p.length:=by simp [frow]
theorem Df {p:List Rat} {i:Nat} {q:Rat} (h:p[i]? = some q):(frow p)[i]? = some (fr q):=Ff h
theorem Qm3 (p:List Rat) (q:Rat):frow (p++[q])=frow p++[fr q]:=by simp [frow]
theorem Qfi (p:List Rat):∀ c∈frow p,c.length=4:=λc hc=>by obtain ⟨x,_,rfl⟩:=Zc.1 hc; rfl
abbrev rp (p:List Rat):LV:=.row (frow p)
theorem Qw6 (q:Rat):∀ c∈[fr q],c.length=4:=λc hc=>by rw [Qm.1 hc]; rfl
theorem Q6k:W8 Tryz.prog 112 [] [.agg (fr 0)]:=w tt Tryz.func112 rfl [.c [] (Qi1 (n:=0) (by decide))] rfl rfl trivial
theorem I0 {p:List Rat}:W8 Tryz.prog 73 [.one (rp p)] [.one (rp (Nc p))]:=by
 refine Fv Tryz.func73 rfl (ln 0 rfl rfl λhl=>?_);rw [H9] at hl;have hpl:=H9 p;refine go tt [] rfl trivial ?_;refine lp (S:=Nat) 0 (λL1 n=>(3,.v (.one (.int .i64 (n:Int))))::L1) (λ_=>[]) id (λn=>n<=p.length/\∀ j x,n<=j->p[j]? = some x->x=0) (frow p).length ⟨by rw [hpl]; exact Qn _,λj x h1 h2=>by
  have:=(Qc.1 h2).1; rw [hpl] at h1; omega⟩ rfl (λ_ _=>rfl) rfl λn hs=>?_
 obtain ⟨h1,h2⟩:=hs;cases n with
 |
  zero =>
  have e:=Qf9 h1 (λj x h=>h2 j x h) (λh=>absurd h (by decide));exact en tt [.g 8 false (by simp),.f rfl,.i 0] rfl (by rw [e]; rfl) (by simp [W6])
 |
  succ n =>
  obtain ⟨x,hx⟩:=gxE (l:=p) (i:=n) (by omega);have hn:=Rat.num_eq_zero (q:=x);by_cases h0:x=0
  ·refine go tt [.g 8 true (by simp),.r 11 (eI (b:=(n:Int)) (by simp)),.x (Df hx),.c [] (Pf (z:=x.num)),.t (decide_eq_true (hn.2 h0)),.r 18 (eI (b:=(n:Int)) (by simp))] rfl (by simp [W6]; omega) ?_;exact rd n (by simp) ⟨by omega,λj y h3 h4=>by
    rcases Y8 h3 with rfl | h3
    ·rw [hx] at h4; injection h4 with h4; rw [<-h4,h0]
    ·exact h2 j y h3 h4⟩ rfl
  ·have e:=Qf9 h1 (λj x h=>h2 j x h) (λ_=>⟨x,hx,h0⟩);exact en tt [.g 8 true (by simp),.r 11 (eI (b:=(n:Int)) (by simp)),.x (Df hx),.c [] (Pf (z:=x.num)),.f (decide_eq_false λh=>h0 (hn.1 h)),.i (n+1)] rfl (by rw [e]; simp [rp,frow,Ye]) (by simp [W6,hpl] <;> omega)
theorem Zg8 {p:List Rat} {i:Nat} (hi:i<1099511627776):W8 Tryz.prog 111 [.one (rp p),.one (.int .i64 (i:Int))] [.agg (fr (p.getD i 0))]:=by
 have hpl:=H9 p;by_cases h:i<p.length
 ·have e:p.getD i 0=p[i]:=by rw [Qh,Qe h]; rfl
  rw [e];exact w tt Tryz.func111 rfl [.g 7 false (decide_eq_false (by omega)),.f (decide_eq_false (by omega)),.x (Df (Qe h))] rfl rfl trivial
 ·have e:p.getD i 0=0:=by rw [Qh,Qu (by omega)]; rfl
  rw [e];exact w tt Tryz.func111 rfl [.g 7 false (decide_eq_false (by omega)),.t (decide_eq_true (by omega)),.c [] Q6k] rfl rfl trivial
theorem Qv4:W8 Tryz.prog 108 [.one (ids [1])] [.one (rp (zp [1]))]:=by
 have cc:=I0 (p:=zp [1]);rw [Mz,show trim [1]=[1] from rfl] at cc;refine Fv Tryz.func108 rfl ?_;refine go tt [.o 3 35 4] rfl trivial ?_;refine lp (S:=Nat) 1 (λL1 i=>(7,.v (.one (.int .i64 (i:Int))))::(3,.v (.one (.orow 0 4 none)))::L1) (λi=>[.row false 35 4 (frow ((zp [1]).take i))]) (λi=>1-i) (λi=>i<=1) 0 (by decide) rfl (λ_ _=>rfl) rfl λi hi=>?_
 rcases (show i=0\/i=1 by omega) with rfl | rfl
 ·refine go tt [.t rfl,.x (l:=idl [1]) (i:=0) (xs:=[.int .i64 1]) rfl,.c [] (Qi1 (n:=1) (by decide)),.s (sz:=4) (Qw6 _)] rfl (by simp [W6,frow]) ?_;exact rd 1 (by omega) (by omega) rfl
 ·exact en tt [.f rfl,.c [] cc] rfl rfl trivial
theorem Qam {p:List Int} (hb:Bd 90000000 p) (hl:p.length<=1000000):W8 Tryz.prog 28 [pr p] [.one (rp (zp (trim p)))]:=by
 have hpl:(p.map Fi).length=p.length:=by simp
 have cc:=I0 (p:=zp p);rw [Mz] at cc;show W8 Tryz.prog 28 [.one (.row (p.map Fi))] _;refine Fv Tryz.func28 rfl ?_;refine go tt [.o 3 35 4] rfl trivial ?_;refine lp (S:=Nat) 1 (λL1 i=>(7,.v (.one (.int .i64 (i:Int))))::(3,.v (.one (.orow 0 4 none)))::L1) (λi=>[.row false 35 4 (frow (zp (p.take i)))]) (λi=>p.length-i) (λi=>i<=p.length) 0 (Qg _) rfl (λ_ _=>rfl) rfl λi hi=>?_
 have hol:(frow (zp (p.take i))).length=i:=by rw [H9,Tj,Qp]; omega
 by_cases h:i<p.length
 ·obtain ⟨z,hz⟩:=gxE (l:=p) (i:=i) h;have hzb:=hb z (Qa hz);have hg:frow (zp (p.take (i+1)))=frow (zp (p.take i))++[fr (z:Rat)]:=by
   rw [Zx,hz]; simp [frow,zp]
  refine go tt [.t (decide_eq_true (by omega)),.x (Ff (f:=Fi) hz),.c [] (Qiy (z:=z) (by omega)),.c [] (Bb (n:=1) (by decide)),.c [] (Sy (n:=z)),.s (sz:=4) (Qw6 _)] rfl (by simp [W6,hol,-List.getD_eq_getElem?_getD]; omega) ?_;exact rd (i+1) (by omega) h (by rw [hg]; rfl)
 ·have e:i=p.length:=by omega
  rw [e,Q4];exact en tt [.f (decide_eq_false (by omega)),.c [] cc] rfl rfl trivial
theorem Zg7 {p:List Int} (hb:Bd 90000000 p) (hl:p.length<=1000000):W8 Tryz.prog 229 [.one (rp (zp p))] [pr p]:=by
 have hpl:(frow (zp p)).length=p.length:=by rw [H9,Tj]
 show W8 Tryz.prog 229 [.one (rp (zp p))] [.one (.row (p.map Fi))];refine Fv Tryz.func229 rfl ?_;refine go tt [.o 3 55 2] rfl trivial ?_;refine lp (S:=Nat) 1 (λL1 i=>(7,.v (.one (.int .i64 (i:Int))))::(3,.v (.one (.orow 0 2 none)))::L1) (λi=>[.row false 55 2 ((p.take i).map Fi)]) (λi=>p.length-i) (λi=>i<=p.length) 0 (Qg _) rfl (λ_ _=>rfl) rfl λi hi=>?_
 have hol:((p.take i).map Fi).length=i:=by rw [Q6,Qp]; omega
 by_cases h:i<p.length
 ·obtain ⟨z,hz⟩:=gxE (l:=p) (i:=i) h;have hzb:=hb z (Qa hz);have hq:∀ c∈[Fi z],c.length=2:=λc hc=>by rw [Qm.1 hc]; rfl
  have hg:(p.take (i+1)).map Fi=(p.take i).map Fi++[Fi z]:=by
   rw [Zx,hz]; simp
  refine go tt [.t (decide_eq_true (by omega)),.x (Df (Zb7 hz)),.c [] (Q2t (z:=z) (by omega)),.s (sz:=2) hq] rfl (by simp [W6]; omega) ?_;exact rd (i+1) (by omega) h (by rw [hg]; rfl)
 ·have e:i=p.length:=by omega
  rw [e,Q4];exact en tt [.f (decide_eq_false (by omega))] rfl rfl trivial
theorem Qv0 {p q:List Rat} (hp:Rb 20000000 p) (hq:Rb 20000000 q) (hlp:p.length<=1000000) (hlq:q.length<=1000000):W8 Tryz.prog 55 [.one (rp p),.one (rp q)] [.one (rp (Q4d p q))]:=by
 have h1:=H9 p;have h2:=H9 q;obtain ⟨M,hM⟩:=nmE (max p.length q.length);have cc:=I0 (p:=Ip (λi=>p.getD i 0+q.getD i 0) M);unfold Q4d;rw [<-hM];refine Fv Tryz.func55 rfl ?_;refine go tt [.o 5 35 4] rfl trivial ?_;refine lp (S:=Nat) 1 (λL1 i=>(6,.v (.one (.int .i64 (i:Int))))::(5,.v (.one (.orow 0 4 none)))::L1) (λi=>[.row false 35 4 (frow (Ip (λi=>p.getD i 0+q.getD i 0) i))]) (λi=>M-i) (λi=>i<=M) 0 (Qg _) rfl (λ_ _=>rfl) rfl λi hi=>?_
 have hol:(frow (Ip (λi=>p.getD i 0+q.getD i 0) i)).length=i:=by rw [H9,Qei]
 by_cases h:i<M
 ·refine go tt [.r 12 (eI (b:=(M:Int)) (by omega)),.t (decide_eq_true (by omega)),.c [] (Zg8 (p:=p) (i:=i) (by omega)),.c [] (Zg8 (p:=q) (i:=i) (by omega)),.c [] (Q5j (hp.getD (by decide) i) (hq.getD (by decide) i)),.s (sz:=4) (Qw6 _)] rfl (by simp [W6,hol,-List.getD_eq_getElem?_getD]; omega) ?_;exact rd (i+1) (by omega) h (by rw [Qn9,Qm3]; rfl)
 ·have e:i=M:=by omega
  rw [e];exact en tt [.r 12 (eI (b:=(M:Int)) (by omega)),.f (decide_eq_false (by omega)),.c [] cc] rfl rfl trivial
theorem En {p:List Rat} {c:Rat} (hp:Rb 40000000 p) (hc:Qs 40000000 c) (hlp:p.length<=1000000):W8 Tryz.prog 156 [.one (rp p),.agg (fr c)] [.one (rp (Sx p c))]:=by
 have h1:=H9 p;have cc:=I0 (p:=Ip (λi=>p.getD i 0*c) p.length);unfold Sx;refine Fv Tryz.func156 rfl ?_;refine go tt [.o 5 35 4] rfl trivial ?_;refine lp (S:=Nat) 2 (λL1 i=>(9,.v (.one (.int .i64 (i:Int))))::(5,.v (.one (.orow 1 4 none)))::L1) (λi=>[.blk 35 (fr c),.row false 35 4 (frow (Ip (λi=>p.getD i 0*c) i))]) (λi=>p.length-i) (λi=>i<=p.length) 0 (Qg _) rfl (λ_ _=>rfl) rfl λi hi=>?_
 have hol:(frow (Ip (λi=>p.getD i 0*c) i)).length=i:=by rw [H9,Qei]
 by_cases h:i<p.length
 ·have hg:p[i]? = some (p.getD i 0):=by rw [Qh,Qe h]; rfl
  refine go tt [.t (decide_eq_true (by omega)),.x (Df hg),.c [] (Q5y (hp.getD (by decide) i) hc),.s (sz:=4) (Qw6 _)] rfl (by simp [W6,hol,-List.getD_eq_getElem?_getD]; omega) ?_;exact rd (i+1) (by omega) h (by rw [Qn9,Qm3]; rfl)
 ·have e:i=p.length:=by omega
  rw [e];exact en tt [.f (decide_eq_false (by omega)),.c [] cc] rfl rfl trivial
theorem Qv3 {p:List Rat} (hp:Rb 40000000 p) (hlp:p.length<=1000000):W8 Tryz.prog 104 [.one (rp p)] [.one (rp (Qql p))]:=by
 have cs:=En (p:=p) (c:=-1) hp ⟨by decide,by decide⟩ hlp;have co:=Qi1 (n:=-1) (by decide);rw [show ((-1:Int):Rat)=-1 from rfl] at co;exact w tt Tryz.func104 rfl [.c [] co,.c [] cs] rfl rfl trivial
theorem Zfo {s t:Nat} {a b:Rat} (ha:Qs s a) (hb:Qs t b):Qs (s+t+1) (a*b):=by
 rw [<-Qni];unfold Fx;rw [if_neg (X9 (Nj a) (Nj b))];have h1:=Us a.num b.num;have h2:=Us (a.den:Int) (b.den:Int);have:=ha.1; have:=ha.2; have:=hb.1; have:=hb.2;exact Qs.divInt (by omega) (by omega) (by omega)
theorem Zah {s:Nat} {p:List Rat} (hp:Rb s p):Rb (s+2) (Qql p):=by
 unfold Qql Sx;refine Rb.trim (Zgg λi hi=>?_);have h1:Qs (s+0) (p.getD i 0):=by
  have hi:i<p.length:=hi;rw [Qh,Qe hi];exact hp _ (Xv hi)
 have:=Zfo h1 (show Qs 1 (-1:Rat) from ⟨by decide,by decide⟩);exact this.mono (by omega)
theorem Quc (p:List Rat):(Qql p).length<=p.length:=by
 unfold Qql Sx;exact Qd (Qn3 _) (by rw [Qei]; exact Qn _)
theorem Q6v {p q:List Rat} (hp:Rb 19000000 p) (hq:Rb 19000000 q) (hlp:p.length<=1000000) (hlq:q.length<=1000000):W8 Tryz.prog 106 [.one (rp p),.one (rp q)] [.one (rp (Qk8 p q))] :=
 w tt Tryz.func106 rfl [.c [] (Qv3 (hq.mono (by decide)) hlq),.c [] (Qv0 (hp.mono (by decide)) ((Zah hq).mono (by decide)) hlp (Qd (Quc q) hlq))] rfl rfl trivial
theorem Q5z {a b:Int} (ha:Uh a<=40000000) (hb:Uh b<=40000000):W8 Tryz.prog 107 [.agg (fr (a:Rat)),.agg (fr (b:Rat))] [.agg (fr ((a*b:Int):Rat))]:=by
 have h:=Q5y (B6 ha (by decide)) (B6 hb (by decide));rw [<-Xq] at h; exact h
theorem Zii {a b:Int} (ha:Uh a<=20000000) (hb:Uh b<=20000000):W8 Tryz.prog 110 [.agg (fr (a:Rat)),.agg (fr (b:Rat))] [.agg (fr ((a+b:Int):Rat))]:=by
 have h:=Q5j (B6 ha (by decide)) (B6 hb (by decide));rw [<-V1] at h; exact h
theorem Qsm (l:List Int) (i:Nat) (z:Int):(frow (zp l)).set i (fr (z:Rat))=frow (zp (l.set i z)):=by simp [frow,zp,Yp]
theorem Zb8 {p:List Int} {i:Nat} (h:i<p.length):(zp p)[i]? = some ((p.getD i 0:Int):Rat):=Zb7 (Gy h)
theorem Hq {p:List Int} {i:Nat} (h:i<p.length):(frow (zp p))[i]? = some (fr ((p.getD i 0:Int):Rat)):=Df (Zb8 h)
theorem fzl (p:List Int):(frow (zp p)).length=p.length:=by rw [H9,Tj]
abbrev zR:List LV:=[.nils,.bool false,.nils,.bool false]
theorem Qpf {n i:Nat} (h:i<n):(List.replicate i (fr 0)++List.replicate (n-i) zR).set i (fr 0)=List.replicate (i+1) (fr 0)++List.replicate (n-(i+1)) zR:=by
 rw [List.set_append_right _ _ (by simp),X8,Ys,show n-i=n-(i+1)+1 by omega,Jy (n:=n-(i+1)),List.set_cons_zero,List.replicate_succ' (n:=i),Ze]; rfl
theorem Qlp (n:Nat):List.replicate n (fr 0)++List.replicate (n-n) zR=frow (zp (List.replicate n 0)):=by simp [zp,frow]
theorem Qb1 {p q:List Int} {s t:Nat} (hlp:p.length<=1000000) (hlq:q.length<=1000000) (hp:Bd s p) (hq:Bd t q) (hst:s+t<=19000000):W8 Tryz.prog 56 [.one (rp (zp p)),.one (rp (zp q))] [.one (rp (zp (Uo p q)))]:=by
 have hpl:=fzl p;have hql:=fzl q;rcases Qy p.length with h0 | h0
 ·have e:Uo p q=[]:=by unfold Uo; rw [if_pos (.inl h0)]
  rw [e];exact w tt Tryz.func56 rfl [.g 12 true (decide_eq_true (by omega)),.t rfl] rfl rfl trivial
 rcases Qy q.length with h1 | h1
 ·have e:Uo p q=[]:=by unfold Uo; rw [if_pos (.inr h1)]
  rw [e];exact w tt Tryz.func56 rfl [.g 12 false (decide_eq_false (by omega)),.t (decide_eq_true (by omega))] rfl rfl trivial
 have e:Uo p q=trim (By p q (List.replicate (p.length+q.length-1) 0) p.length):=by unfold Uo; rw [if_neg (by omega)]
 rw [e];obtain ⟨N,hN⟩:=nmE (p.length+q.length-1);rw [<-hN];obtain ⟨o,ho⟩:=nmE (List.replicate N (0:Int));rw [<-ho];have hol:o.length=N:=by rw [ho]; simp
 have ho0:∀ m,o.getD m 0=0:=λm=>by rw [ho]; exact Tr N m
 have cc:=I0 (p:=zp (By p q o p.length));rw [Mz] at cc;refine Fv Tryz.func56 rfl ?_;refine go tt [.g 12 false (decide_eq_false (by omega)),.f (decide_eq_false (by omega)),.r 22 (eI (b:=(N:Int)) (by omega)),.i N,.i N,.r 25 (eI (b:=(N:Int)) (by simp))] rfl (by simp [W6]; omega) ?_;refine lp (S:=Nat) 1 (λL1 i=>(26,.v (.one (.int .i64 (i:Int))))::L1) (λi=>[.row false 35 4 (List.replicate i (fr 0)++List.replicate (N-i) zR)]) (λi=>N-i) (λi=>i<=N) 0 (Qg _) rfl (λ_ _=>rfl) rfl λi hi=>?_
 by_cases hlt:i<N
 ·refine go tt [.t (decide_eq_true (by omega)),.c [] Q6k,.i i] rfl (by simp [W6]; omega) ?_;rw [Qpf hlt];exact rd (i+1) (by omega) hlt rfl
 have hiN:i=N:=by omega
 rw [hiN,Qlp,<-ho];clear hiN hlt hi;refine go tt [.f (decide_eq_false (by omega))] rfl trivial ?_;refine lp (S:=Nat) 1 (λL1 i=>(36,.v (.one (.int .i64 (i:Int))))::L1) (λi=>[.row false 35 4 (frow (zp (By p q o i)))]) (λi=>p.length-i) (λi=>i<=p.length) 0 (Qg _) rfl (λ_ _=>rfl) rfl λi hi=>?_
 by_cases hlt:i<p.length
 ·refine go tt [.t (decide_eq_true (by omega))] rfl trivial ?_;refine lp (S:=Nat) 1 (λL1 k=>(41,.v (.one (.int .i64 (k:Int))))::L1) (λk=>[.row false 35 4 (frow (zp (E3 (p.getD i 0) q i (By p q o i) k)))]) (λk=>q.length-k) (λk=>k<=q.length) 0 (Qg _) rfl (λ_ _=>rfl) rfl λk hk=>?_
  by_cases hk2:k<q.length
  ·have hm1:Uh ((E3 (p.getD i 0) q i (By p q o i) k).getD (i+k) 0)<=20000000:=Qd (Ea (t:=39) (Qpy (by rw [Bm]; omega) (Qpx (λj hj=>by omega) ho0 (λi j=>S6 (Ul hp i) (Ul hq j))) (λj=>S6 (Ul hp i) (Ul hq j)) (i+k)) (V5 (show i+1<549755813888 by omega) (by decide))) (by omega);have hm2:Uh (p.getD i 0*q.getD k 0)<=20000000:=Qd (Us _ _) (by have:=Ul hp i; have:=Ul hq k; omega);have hml:(E3 (p.getD i 0) q i (By p q o i) k).length=N:=by rw [E4,Bm,hol]
   have cm:=Q5z (a:=p.getD i 0) (b:=q.getD k 0) (Qd (Ul hp i) (by omega)) (Qd (Ul hq k) (by omega));have hfl:=fzl (E3 (p.getD i 0) q i (By p q o i) k);refine go tt [.t (decide_eq_true (by omega)),.i (i+k),.x (Hq (p:=E3 (p.getD i 0) q i (By p q o i) k) (i:=i+k) (by omega)),.x (Hq hlt),.x (Hq hk2),.c [] cm,.c [] (Zii hm1 hm2),.i (i+k)] rfl (by simp [W6,hfl,-List.getD_eq_getElem?_getD] <;> omega) ?_;rw [Qsm];exact rd (k+1) (by omega) hk2 rfl
  ·obtain rfl:k=q.length:=by omega
   exact go tt [.f (decide_eq_false (by omega))] rfl (by simp [W6]; omega) (rd (i+1) (by omega) hlt rfl)
 ·obtain rfl:i=p.length:=by omega
  exact en tt [.f (decide_eq_false (by omega)),.c [] cc] rfl rfl trivial
def Qsf (p:List Int) (n:Nat):List Int:=(List.range n).map λk=>p.getD (k+1) 0*((k+1:Nat):Int)
theorem Q7t (p:List Int) (n:Nat):(Qsf p n).length=n:=by simp [Qsf]
theorem Q3h (p:List Int) (n:Nat):Qsf p (n+1)=Qsf p n++[p.getD (n+1) 0*((n+1:Nat):Int)]:=by simp [Qsf,Ku]
theorem Qrc (p:List Int) (z:Int):frow (zp (p++[z]))=frow (zp p)++[fr (z:Rat)]:=by simp [frow,zp]
theorem Qv1 {p:List Int} (hp:Bd 40000000 p) (hl:p.length<=1000000):W8 Tryz.prog 52 [.one (rp (zp p))] [.one (rp (zp (U8 p)))]:=by
 have hpl:=fzl p;have cc:=I0 (p:=zp (Qsf p (p.length-1)));rw [Mz] at cc;refine Fv Tryz.func52 rfl ?_;refine go tt [.o 3 35 4] rfl trivial ?_;refine lp (S:=Nat) 1 (λL1 j=>(4,.v (.one (.int .i64 ((j+1:Nat):Int))))::(3,.v (.one (.orow 0 4 none)))::L1) (λj=>[.row false 35 4 (frow (zp (Qsf p j)))]) (λj=>p.length-j) (λj=>j<=p.length-1) 0 (Qg _) rfl (λ_ _=>rfl) rfl λj hj=>?_
 have hfl:=fzl (Qsf p j);rw [Q7t] at hfl;by_cases h:j+1<p.length
 ·have hk:Uh ((j+1:Nat):Int)<=40000000:=Qd (Qpp (t:=38) (k:=j+1) (V5 (show j+1<274877906944 by omega) (by decide))) (by decide);refine go tt [.t (decide_eq_true (by omega)),.x (Hq h),.c [] (Qi1 (n:=((j+1:Nat):Int)) (by omega)),.c [] (Q5z (Ul hp (j+1)) hk),.s (sz:=4) (Qw6 _)] rfl (by simp [W6,hfl,-List.getD_eq_getElem?_getD] <;> omega) ?_;exact rd (j+1) (by omega) (by omega) (by rw [Q3h,Qrc]; rfl)
 ·have e:j=p.length-1:=by omega
  rw [e];exact en tt [.f (decide_eq_false (by omega)),.c [] cc] rfl rfl trivial
theorem Zjc (z:Int):fr (z:Rat)=[nd z.natAbs,sg z,.row [[.int .i64 1]],.bool false]:=by
 have e:Uu 1=[1]:=by rw [A0 (by decide),show 1 / 10000=0 from rfl,Fz]
 show [nd z.natAbs,sg z,nd 1,sg 1]=_;unfold nd dl;rw [e]; rfl
theorem Q6w {p:List Int} (hl:p.length<=1000000):W8 Tryz.prog 141 [.one (rp (zp p))] [.one (.bool true)]:=by
 have hpl:=fzl p;refine Fv Tryz.func141 rfl ?_;refine go tt [] rfl trivial ?_;refine lp (S:=Nat) 0 (λL1 i=>(6,.v (.one (.int .i64 (i:Int))))::L1) (λ_=>[]) (λi=>p.length-i) (λi=>i<=p.length) 0 (Qg _) rfl (λ_ _=>rfl) rfl λi hi=>?_
 by_cases h:i<p.length
 ·have hg:=Hq h;rw [Zjc] at hg;refine go tt [.t (decide_eq_true (by omega)),.x hg,.g 17 false rfl,.x hg,.x (l:=[[.int .i64 1]]) (i:=0) (xs:=[.int .i64 1]) rfl,.f rfl] rfl (by simp [W6]; omega) ?_;exact rd (i+1) (by omega) h rfl
 ·exact en tt [.f (decide_eq_false (by omega))] rfl rfl trivial
theorem Q1q:[LV.nils,LV.bool false].map Qhe=ri 0:=by
 show _=[nd 0,sg 0];unfold nd dl;rw [Fz]; rfl
theorem Qxh (p:List Int) (q:Rat):Int.sign (Sr p q.num q.den p.length).1=Ft p q:=by
 unfold Ft Zfm Me;generalize (Sr p q.num q.den p.length).1=z;rcases Jt z 0 with h | h | h
 ·rw [if_pos h,Xu h]
 ·subst h; rfl
 ·rw [if_neg (by omega),if_pos h,X4 h]
theorem Qzb {p:List Int} {q:Rat} (hp:Bd 30000000 p) (hl:p.length<=64) (hq:Qs 1000000 q):W8 Tryz.prog 80 [.one (rp (zp p)),.agg (fr q)] [.one (.int .i64 (Ft p q))]:=by
 have hpl:=fzl p;refine Fv Tryz.func80 rfl ?_;refine go tt [.c [] (Q6w (p:=p) (by omega)),.f rfl,.c [] (Bb (n:=1) (by decide)),.r 19 (eI (b:=(p.length:Int)-1-((0:Nat):Int)) (by simp; omega))] rfl (by simp [W6]; omega) ?_;refine nlb 1 rfl rfl rfl ?_;rw [Q1q];refine lp (S:=Nat) 3 (λL1 j=>(7,.v (.one (.int .i64 ((p.length:Int)-1-(j:Int)))))::L1) (λj=>[.blk 35 (fr q),.blk 33 (ri (Sr p q.num q.den j).1),.blk 33 (ri (Sr p q.num q.den j).2)]) (λj=>p.length-j) (λj=>j<=p.length) 0 (Qg _) rfl (λ_ _=>rfl) rfl λj hj=>?_
 have hv:=Qq5 (k:=j) hp hq.1 hq.2;have hjl:j*(1000000+1)<=p.length*(1000000+1):=Q0 _ (by omega);by_cases h:j<p.length
 ·have hc:=Ul hp (p.length-1-j);have hq1:=hq.1;have hq2:=hq.2;have hm1:Uh ((Sr p q.num q.den j).1*q.num)<=200000000:=Qd (Us _ _) (by omega);have hm2:Uh (p.getD (p.length-1-j) 0*(Sr p q.num q.den j).2)<=200000000:=Qd (Us _ _) (by omega);refine go tt [.t (decide_eq_true (by omega)),.c [] (Te (a:=(Sr p q.num q.den j).1) (b:=q.num) (by omega) (by omega)),.r 29 (eI (b:=((p.length-1-j:Nat):Int)) (by omega)),.x (Hq (p:=p) (i:=p.length-1-j) (by omega)),.c [] (Te (a:=p.getD (p.length-1-j) 0) (b:=(Sr p q.num q.den j).2) (by omega) (by omega)),.c [] (Qvv hm1 hm2),.c [] (Te (a:=(Sr p q.num q.den j).2) (b:=(q.den:Int)) (by omega) (by omega)),.r 23 (eI (b:=(p.length:Int)-1-((j+1:Nat):Int)) (by omega))] rfl (by simp [W6] <;> omega) ?_;exact rd (j+1) (by omega) h rfl
 ·obtain rfl:j=p.length:=by omega
  exact en tt [.f (decide_eq_false (by omega)),.c [] Qy6] rfl (by rw [Qxh]) trivial
end Orr
namespace Orr
def U5 (p:List Int):Int:=p.getD (p.length-1) 0
def O8 (a b:List Int):Int:=if U5 b<0 then -(U5 a) else U5 a
def Ed (a b:List Int) (i:Nat):Int:=a.getD i 0*((U5 b).natAbs:Int)-(if a.length-b.length<=i then O8 a b*b.getD (i-(a.length-b.length)) 0 else 0)
def Qn1 (a b:List Int):List Int:=Sv a.length (Ed a b)
inductive RRun (b:List Int):Nat->List Int->List Int->Prop
 | stop {a:List Int}:a.length<b.length->RRun b 0 a a
 | step {k:Nat} {a r:List Int}:b.length<=a.length->a.length<=1000->Bd 9000000 a->Bd 9000000 b->RRun b k (Qn1 a b) r->RRun b (k+1) a r
def Eo (p:List Int):Nat->Nat
 | 0=>0
 | i+1=>Int.gcd (Eo p i:Nat) (p.getD i 0)
def Qbe (p:List Int):Nat:=Eo p p.length
theorem Qe8 (p:List Int):∀ {i j:Nat},j<i->((Eo p i:Nat):Int)∣p.getD j 0
 | 0,_,h=>absurd h (Wz _)
 |
  i+1,j,h=>by
  simp only [Eo];rcases Q9 j i with h1 | h1
  ·exact Vq (Wl ..) (Qe8 p h1)
  ·rw [show j=i by omega]; exact Vh ..
theorem Qr0 (p:List Int) (j:Nat):((Qbe p:Nat):Int)∣p.getD j 0:=by
 rcases Q9 j p.length with h | h
 ·exact Qe8 p h
 ·rw [Qh,Qu h]; exact Int.dvd_zero _
theorem I1 {s:Nat} {p:List Int} (h:Bd s p):∀ i,Uh ((Eo p i:Nat):Int)<=s
 | 0=>by simp [Eo,S4]
 |
  i+1=>by
  simp only [Eo];by_cases h0:p.getD i 0=0
  ·rw [h0,Int.gcd_zero_right]; exact I1 h i
  ·have h1:=Vh (Eo p i:Nat) (p.getD i 0);have h2:(Int.gcd (Eo p i:Nat) (p.getD i 0))<=(p.getD i 0).natAbs:=Vv (by omega) (by simpa using Xp.2 h1);have h3:=Ul h i;rw [Rl] at h3 ⊢;simp only [Z7];omega
theorem Q27 {p:List Int} {j i:Nat} (hj:j<i) (h:p.getD j 0≠0):0<Eo p i:=by
 have:=Qe8 p hj;rcases Qy (Eo p i) with h0 | h0
 ·rw [h0] at this;exact absurd (Int.zero_dvd.1 this) h
 ·exact h0
theorem Qr1 {p:List Int} (ht:Ud p) (h:0<p.length):0<Qbe p:=Q27 (j:=p.length-1) (by omega) (Gp ht h)
def P5 (p:List Int):Int:=if U5 p<0 then -((Qbe p:Nat):Int) else ((Qbe p:Nat):Int)
def G7 (p:List Int):List Int:=Sv p.length λi=>p.getD i 0 / P5 p
def Sw (p:List Int):List Int:=if U5 p<0 then Tg (G7 p) else G7 p
theorem Q3j (p:List Int) (j:Nat):P5 p∣p.getD j 0:=by
 unfold P5
 split
 ·exact W0.2 (Qr0 p j)
 ·exact Qr0 p j
theorem Q73 {p:List Int} (ht:Ud p) (h:0<p.length):P5 p≠0:=by
 have:=Qr1 ht h;unfold P5
 split <;> omega
theorem Qmr {s:Nat} {p:List Int} (h:Bd s p):Uh (P5 p)<=s:=by
 unfold P5
 split
 ·rw [Gj]; exact I1 h _
 ·exact I1 h _
theorem Qxt {p:List Int} {c:Int} (hc:c≠0) (hd:∀ j,c∣p.getD j 0):Sx (zp p) (1 / (c:Rat))=zp (Sv p.length λi=>p.getD i 0 / c):=by
 unfold Sx Sv;rw [Qii (g:=λi=>p.getD i 0 / c) _ λi _=>?_,Mz,Tj];obtain ⟨k,hk⟩:=hd i;have hc':(c:Rat)≠0:=λe=>hc (by exact_mod_cast e)
 rw [Qeu,hk,Xl _ hc,Xq];grind
theorem Qis {s:Nat} {p:List Int} (h:Bd s p):Bd s (G7 p):=Qak λi _=>Qd (Od _ _) (Ul h i)
theorem Qfs (p:List Int):(G7 p).length<=p.length:=Es _ _
theorem Q2f {s:Nat} {p:List Int} (h:Bd s p):Bd s (Sw p):=by
 unfold Sw
 split
 ·exact Qal (Qis h)
 ·exact Qis h
theorem Qwt (p:List Int):(Sw p).length<=p.length:=by
 unfold Sw
 split
 ·exact Qd (Dm _) (Qfs p)
 ·exact Qfs p
inductive GRun:Nat->List Int->List Int->List Int->Prop
 | stop (a:List Int):GRun 0 a [] a
 | step {k m:Nat} {a b r g:List Int}:0<b.length->b.length<=1000->Bd 9000000 b->RRun b m a r->r.length<=1000->Bd 9000000 r->Ud r->GRun k b (G7 r) g->GRun (k+1) a b g
theorem GRun.inv {k:Nat} {a b g:List Int} (h:GRun k a b g):(k=0/\b.length=0/\a=g)\/∃ j m r,k=j+1/\0<b.length/\b.length<=1000/\Bd 9000000 b/\RRun b m a r/\r.length<=1000/\Bd 9000000 r/\Ud r/\GRun j b (G7 r) g:=by
 cases h with
 | stop=>exact .inl ⟨rfl,rfl,rfl⟩
 | step h1 h2 h3 h4 h5 h6 h7 h8=>exact .inr ⟨_,_,_,rfl,h1,h2,h3,h4,h5,h6,h7,h8⟩
def Dx (k:Nat) (p:List Int):List Int:=List.replicate k 0++p
theorem Qxz (k:Nat) (p:List Int):(Dx k p).length=k+p.length:=by simp [Dx]
theorem Q2g {s k:Nat} {p:List Int} (h:Bd s p):Bd s (Dx k p):=λz hz=>by
 rcases Qx.1 hz with h1 | h1
 ·rw [Zs h1,S4]; exact Qg _
 ·exact h z h1
inductive DRun (b:List Int):Nat->List Int->List Int->List Int->List Int->Prop
 | stop {a q:List Int}:a.length<b.length->DRun b 0 a q q a
 | step {k:Nat} {a q qf r:List Int}:b.length<=a.length->a.length<=1000->Bd 9000000 a->U5 b≠0->U5 b∣U5 a->a.length-b.length<q.length ->
  DRun b k (S9 a (Dx (a.length-b.length) (U3 b (U5 a / U5 b)))) (q.set (a.length-b.length) (U5 a / U5 b)) qf r->DRun b (k+1) a q qf r
theorem DRun.inv {b a q qf r:List Int} {k:Nat} (h:DRun b k a q qf r):(k=0/\q=qf/\a=r/\a.length<b.length)\/∃ j,k=j+1/\b.length<=a.length/\a.length<=1000/\Bd 9000000 a/\U5 b≠0/\U5 b∣U5 a/\a.length-b.length<q.length /\
 DRun b j (S9 a (Dx (a.length-b.length) (U3 b (U5 a / U5 b)))) (q.set (a.length-b.length) (U5 a / U5 b)) qf r:=by
 cases h with
 | stop h=>exact .inl ⟨rfl,rfl,rfl,h⟩
 | step h1 h2 h3 h4 h5 h6 h7=>exact .inr ⟨_,rfl,h1,h2,h3,h4,h5,h6,h7⟩
def Ss (l:List (List Int)):List Int:=l.getD (l.length-1) []
inductive LRun:Nat->List (List Int)->List (List Int)->Prop
 | stop {l:List (List Int)}:(Ss l).length<=1->LRun 0 l l
 | step {k m:Nat} {l f:List (List Int)} {g:List Int}:1<(Ss l).length->(Ss l).length<=1000->Ud (Ss l)->Bd 9000000 (Ss l)->Bd 9000000 (U8 (Ss l))->GRun m (G7 (Ss l)) (G7 (U8 (Ss l))) g->l.length<=1000->LRun k (l++[g]) f->LRun (k+1) l f
theorem LRun.inv {k:Nat} {l f:List (List Int)} (h:LRun k l f):(k=0/\l=f/\(Ss l).length<=1)\/∃ j m g,k=j+1/\1<(Ss l).length/\(Ss l).length<=1000/\Ud (Ss l)/\Bd 9000000 (Ss l)/\Bd 9000000 (U8 (Ss l))/\GRun m (G7 (Ss l)) (G7 (U8 (Ss l))) g/\l.length<=1000/\LRun j (l++[g]) f:=by
 cases h with
 | stop h=>exact .inl ⟨rfl,rfl,h⟩
 | step h1 h2 h3 h4 h5 h6 h7 h8=>exact .inr ⟨_,_,_,rfl,h1,h2,h3,h4,h5,h6,h7,h8⟩
def DOk (a b q:List Int):Prop:=0<b.length/\b.length<=1000/\a.length<=1000/\Bd 9000000 b/\∃ qf r n,Bd 9000000 qf/\qf.length<=1000/\DRun b n a (List.replicate (a.length+1-b.length) 0) qf r/\q=trim qf
theorem DOk.bd {a b q:List Int} (h:DOk a b q):Bd 9000000 q:=by
 obtain ⟨_,_,_,_,qf,r,n,h1,_,_,rfl⟩:=h;exact H4 h1
theorem DOk.len {a b q:List Int} (h:DOk a b q):q.length<=1000:=by
 obtain ⟨_,_,_,_,qf,r,n,_,h1,_,rfl⟩:=h;exact Qd (Gs _) h1
theorem DOk.trim {a b q:List Int} (h:DOk a b q):Ud q:=by
 obtain ⟨_,_,_,_,qf,r,n,_,_,_,rfl⟩:=h;exact G6 _
def Zle (a b c f:List Int):Prop:=∃ x y z,DOk a b x/\DOk b c y/\DOk (G7 x) (G7 y) z/\f=G7 z
structure FRun (a:List Int) (m:Nat) (f:Nat->List Int):Prop where
 run:∃ n l,LRun n [G7 a] l/\l.length=m+1/\∀ k,k<m->Zle ((l++[[1]]).getD k []) ((l++[[1]]).getD (k+1) []) ((l++[[1]]).getD (k+2) []) (f k)
 small:m<=1000
def Qlh (f:Nat->List Int) (n:Nat):List (List Int):=(List.range n).map f
theorem Qun (f:Nat->List Int) (n:Nat):(Qlh f n).length=n:=by simp [Qlh]
theorem Q4m (f:Nat->List Int) (n:Nat):Qlh f (n+1)=Qlh f n++[f n]:=by simp [Qlh,Ku]
theorem Zbo {f:Nat->List Int} {n i:Nat} (h:i<n):(Qlh f n)[i]? = some (f i):=by simp [Qlh,Xt h]
theorem Qwp {l:List (List Int)} {i:Nat} (h:i<l.length):l[i]? = some (l.getD i []):=by
 rw [Qh,Qe h]; rfl
def Aa (f:Nat->List Int):Nat->List Int
 | 0=>[1]
 | i+1=>Uo (Aa f i) (f i)
def Zld (m:Nat) (f:Nat->List Int):Prop:=∀ i,i<m->Bd 9000000 (Aa f i)/\(Aa f i).length<=1000/\Bd 9000000 (f i)/\(f i).length<=1000
inductive CRun:Nat->List (List Int)->List Int->List (List Int)->Prop
 | stop {l:List (List Int)} {g:List Int}:g.length=0->CRun 0 l g l
 | step {k m:Nat} {l f:List (List Int)} {g r:List Int}:0<g.length->g.length<=1000->Bd 9000000 g->RRun g m (Ss l) r->Ud r->Bd 9000000 r->r.length<=1000->0<l.length->l.length<=1000->CRun k (l++[g]) (Tg (Sw r)) f->CRun (k+1) l g f
theorem CRun.inv {k:Nat} {l f:List (List Int)} {g:List Int} (h:CRun k l g f):(k=0/\l=f/\g.length=0)\/∃ j m r,k=j+1/\0<g.length/\g.length<=1000/\Bd 9000000 g/\RRun g m (Ss l) r/\Ud r/\Bd 9000000 r/\r.length<=1000/\0<l.length/\l.length<=1000/\CRun j (l++[g]) (Tg (Sw r)) f:=by
 cases h with
 | stop h=>exact .inl ⟨rfl,rfl,h⟩
 | step h1 h2 h3 h4 h5 h6 h7 h8 h9 h10=>exact .inr ⟨_,_,_,rfl,h1,h2,h3,h4,h5,h6,h7,h8,h9,h10⟩
structure ChRun (a:List Int) (sq:List Int) (c:List (List Int)):Prop where
 fac:∃ m f,FRun a m f/\Zld m f/\sq=Aa f m
 C7:∃ n,CRun n [sq] (Sw (U8 sq)) c
 bd:Bd 8000000 sq
 len:sq.length<=1000
 small:c.length<=1000
def Qyi (q:Rat) (c:List (List Int)):Prop:=∃ sq,ChRun [-q.num,(q.den:Int)] sq c
end Orr
namespace Orr
open Go Go.Proofs
set_option maxRecDepth 10000
theorem RRun.inv {b a r:List Int} {k:Nat} (h:RRun b k a r):(k=0/\a=r/\a.length<b.length)\/(∃ j,k=j+1/\b.length<=a.length/\a.length<=1000/\Bd 9000000 a/\Bd 9000000 b/\RRun b j (Qn1 a b) r):=by
 cases h with
 | stop h=>exact .inl ⟨rfl,rfl,h⟩
 | step h1 h2 h3 h4 h5=>exact .inr ⟨_,rfl,h1,h2,h3,h4,h5⟩
theorem Zfx {a b:List Int} (ha:Bd 9000000 a):Uh (O8 a b)<=9000000:=by
 unfold O8; split
 ·rw [Gj]; exact Ul ha _
 ·exact Ul ha _
theorem Zfs (n:Nat):ri (n:Int)=[nd n,.bool false]:=by
 show [nd n,sg (n:Int)]=_;unfold sg;rw [decide_eq_false (by omega)]
def Qqo (a b:List Int) (n:Nat):List Int:=(List.range n).map (Ed a b)
theorem Zau (a b:List Int) (n:Nat):(Qqo a b n).length=n:=by simp [Qqo]
theorem Qn2 (a b:List Int) (n:Nat):Qqo a b (n+1)=Qqo a b n++[Ed a b n]:=by simp [Qqo,Ku]
theorem Qzd {a0 b res:List Int} {n:Nat} (hb0:0<b.length) (hb1:b.length<=1000) (hbb0:Bd 9000000 b) (hrun:RRun b n a0 res):W8 Tryz.prog 105 [.one (rp (zp a0)),.one (rp (zp b))] [.one (rp (zp res))]:=by
 have hbl:=fzl b;have hle:Uh (((U5 b).natAbs:Nat):Int)<=9000000:=Ul hbb0 _;refine Fv Tryz.func105 rfl ?_;refine go tt [.r 15 (eI (b:=((b.length-1:Nat):Int)) (by omega)),.x (Hq (p:=b) (i:=b.length-1) (by omega))] rfl (by simp [W6]; omega) ?_;refine sb [(0,.v (.one (rp (zp a0)))),(1,.v (.one (rp (zp b)))),(5,.v (.one (.ow 0 0))),(6,.v (.one (.ow 1 0)))] [.blk 33 (ri (U5 b)),.blk 33 [nd (U5 b).natAbs,.bool false]] rfl rfl ?_;refine lp (S:=Nat×List Int) 2 (λL1 s=>(0,.v (.one (rp (zp s.2))))::L1) (λ_=>[.blk 33 (ri (U5 b)),.blk 33 [nd (U5 b).natAbs,.bool false]]) (λs=>s.1) (λs=>RRun b s.1 s.2 res) (n,a0) hrun rfl (λ_ _=>rfl) rfl λ⟨k,a⟩ hs=>?_
 have hal:=fzl a;have hs:RRun b k a res:=hs;rcases RRun.inv hs with ⟨rfl,rfl,h1⟩ | ⟨j,rfl,h1,h2,ha,hb,hr⟩
 ·exact en tt [.f (decide_eq_false (by dsimp only; omega))] rfl rfl trivial
 obtain ⟨K,hK⟩:=nmE (a.length-b.length);have htb:=Zfx (b:=b) ha;have cc:=I0 (p:=zp (Qqo a b a.length));rw [Mz,show trim (Qqo a b a.length)=Qn1 a b from rfl] at cc;refine go tt [.t (decide_eq_true (by dsimp only; omega)),.r 30 (eI (b:=(K:Int)) (by dsimp only; omega)),.r 34 (eI (b:=((a.length-1:Nat):Int)) (by dsimp only; omega)),.x (Hq (p:=a) (i:=a.length-1) (by omega))] rfl (by simp [W6]; omega) ?_;refine ct 1 (S:=Unit) (λ_=>[(0,.v (.one (rp (zp a)))),(1,.v (.one (rp (zp b)))),(5,.v (.one (.ow 0 0))),(6,.v (.one (.ow 1 0))),(7,.v (.one (.int .i64 (K:Int)))),(8,.v (.one (.ow 2 0)))]) (λ_=>[.blk 33 (ri (U5 b)),.blk 33 [nd (U5 b).natAbs,.bool false],.blk 33 (ri (O8 a b))]) (λ_=>True) rfl ?_ (λ_ _=>?_)
 ·by_cases hn:U5 b<0
  ·have e:O8 a b=-(U5 a):=if_pos hn;rw [e];exact go tt [.t (decide_eq_true hn),.c [] (Au (z:=U5 a))] rfl trivial (rc () trivial rfl)
  ·have e:O8 a b=U5 a:=if_neg hn;rw [e];exact go tt [.f (decide_eq_false hn)] rfl trivial (rc () trivial rfl)
 refine go tt [.o 9 35 4] rfl trivial ?_;refine lp (S:=Nat) 4 (λL1 i=>(44,.v (.one (.int .i64 (i:Int))))::(9,.v (.one (.orow 3 4 none)))::L1) (λi=>[.blk 33 (ri (U5 b)),.blk 33 [nd (U5 b).natAbs,.bool false],.blk 33 (ri (O8 a b)),.row false 35 4 (frow (zp (Qqo a b i)))]) (λi=>a.length-i) (λi=>i<=a.length) 0 (Qg _) rfl (λ_ _=>rfl) rfl λi hi=>?_
 have hfl:=fzl (Qqo a b i);rw [Zau] at hfl;by_cases h:i<a.length
 ·have cm:=Te (a:=a.getD i 0) (b:=(((U5 b).natAbs:Nat):Int)) (Qd (Ul ha i) (by decide)) (by omega);have hm:=Us (a.getD i 0) (((U5 b).natAbs:Nat):Int);have hai:=Ul ha i;rw [Zfs (U5 b).natAbs] at cm;by_cases hk:K<=i
  ·have hbi:=Ul hb (i-K);have hm2:=Us (O8 a b) (b.getD (i-K) 0);have e:Ed a b i=a.getD i 0*(((U5 b).natAbs:Nat):Int)-O8 a b*b.getD (i-K) 0:=by unfold Ed; rw [if_pos (by omega),hK]
   refine go tt [.t (decide_eq_true (by omega)),.x (Hq h),.c [] cm,.t (decide_eq_true (by omega)),.r 62 (eI (b:=((i-K:Nat):Int)) (by omega)),.x (Hq (p:=b) (i:=i-K) (by omega)),.c [] (Te (a:=O8 a b) (b:=b.getD (i-K) 0) (by omega) (by omega)),.c [] (Q6l (by omega) (by omega)),.c [] (Bb (n:=1) (by decide)),.c [] (Sy (n:=a.getD i 0*(((U5 b).natAbs:Nat):Int)-O8 a b*b.getD (i-K) 0)),.s (sz:=4) (Qw6 _)] rfl (by simp [W6,hfl,-List.getD_eq_getElem?_getD] <;> omega) ?_;exact rd (i+1) (by omega) h (by rw [Qn2,Qrc,e]; rfl)
  ·have e:Ed a b i=a.getD i 0*(((U5 b).natAbs:Nat):Int):=by unfold Ed; rw [if_neg (by omega),Int.sub_zero]
   refine go tt [.t (decide_eq_true (by omega)),.x (Hq h),.c [] cm,.f (decide_eq_false (by omega)),.c [] (Bb (n:=1) (by decide)),.c [] (Sy (n:=a.getD i 0*(((U5 b).natAbs:Nat):Int))),.s (sz:=4) (Qw6 _)] rfl (by simp [W6,hfl,-List.getD_eq_getElem?_getD] <;> omega) ?_;exact rd (i+1) (by omega) h (by rw [Qn2,Qrc,e]; rfl)
 ·have e:i=a.length:=by omega
  rw [e];exact go tt [.f (decide_eq_false (by omega)),.c [] cc] rfl trivial (rd (j,Qn1 a b) (by omega) hr rfl)
theorem Ziu:W8 Tryz.prog 36 [.agg (ri 1),.agg (ri 1)] [.agg (ri 1)]:=Te (a:=1) (b:=1) (by decide) (by decide)
theorem Zdh:W8 Tryz.prog 100 [.agg (ri 1),.agg (ri 1)] [.agg (ri 1)]:=Qi4 (a:=1) (b:=1) (by decide) (by decide)
theorem Zc2 {z:Int} (hz:Uh z<=90000000):W8 Tryz.prog 36 [.agg (ri z),.agg (ri 1)] [.agg (ri z)]:=by
 have h:=Te (a:=z) (b:=1) (by omega) (by decide);rwa [K8] at h
theorem Qy0 {z:Int} (hz:Uh z<=90000000):W8 Tryz.prog 101 [.agg (ri z),.agg (ri 1)] [.agg (ri z)]:=by
 have h:=Qe5 (a:=z) (b:=1) hz (by decide) (by decide) (Int.emod_one z);rwa [Ko] at h
theorem Q50 {z:Int}:W8 Tryz.prog 47 [.agg (fr (z:Rat))] [.agg (fr ((-z:Int):Rat))]:=by
 have h:=Zio (a:=(z:Rat));rwa [<-Vd] at h
theorem Zj6 {c:Int} (hc:c≠0) (hs:Uh c<=9000000):Qs 40000000 (((1:Int):Rat) / (c:Rat)):=by
 have h0:(c:Rat)≠0:=λe=>hc (by exact_mod_cast e)
 rw [<-Qnv h0];unfold Fx;rw [if_neg (X9 (Nj _) (λe=>hc (by simpa using e)))];refine Qs.divInt (by show Uh (1*1)<=_; decide) ?_ (by decide);show Uh (1*c)<=_;rw [Yz]; omega
theorem Qvs {p:List Int} {c:Int} (hc:c≠0) (hs:Uh c<=9000000) (hd:∀ j,c∣p.getD j 0) (hp:Bd 9000000 p) (hl:p.length<=1000):W8 Tryz.prog 156 [.one (rp (zp p)),.agg (fr (((1:Int):Rat) / (c:Rat)))] [.one (rp (zp (Sv p.length λi=>p.getD i 0 / c)))]:=by
 have h:=En ((Qbr hp (by omega)).mono (by omega)) (Zj6 hc hs) (by rw [Tj]; omega);rwa [show ((1:Int):Rat)=1 from rfl,Qxt hc hd] at h
theorem Aw {p:List Int} (tp:Ud p) (hp:Bd 9000000 p) (hl:p.length<=1000):W8 Tryz.prog 127 [.one (rp (zp p))] [.agg (fr ((P5 p:Int):Rat)),.one (rp (zp (G7 p)))]:=by
 have hpl:=fzl p;rcases Qy p.length with h0 | h0
 ·have e:=Qk h0;subst e;exact w tt Tryz.func127 rfl [.t rfl,.c [] Q6k] rfl rfl trivial
 have hc:=Q73 tp h0;refine Fv Tryz.func127 rfl ?_;refine go tt [.f (decide_eq_false (by omega)),.c [] (Bb (n:=1) (by decide))] rfl trivial ?_;refine lp (S:=Nat) 2 (λL1 i=>(16,.v (.one (.int .i64 (i:Int))))::L1) (λi=>[.blk 35 [.nils,.bool false,.nils,.bool false],.blk 33 (ri 1)]) (λi=>p.length-i) (λi=>i<=p.length) 0 (Qg _) rfl (λ_ _=>rfl) rfl λi hi=>?_
 by_cases h:i<p.length
 ·refine go tt [.t (decide_eq_true (by omega)),.x (Hq h),.c [] Ziu,.x (Hq h),.c [] Zdh,.c [] (Qy0 (z:=1) (by decide))] rfl (by simp [W6]; omega) ?_;exact rd (i+1) (by omega) h rfl
 refine go tt [.f (decide_eq_false (by omega))] rfl trivial ?_;clear h hi;refine nlb 2 rfl rfl rfl ?_;rw [Q1q];refine lp (S:=Nat) 3 (λL1 i=>(37,.v (.one (.int .i64 (i:Int))))::L1) (λi=>[.blk 35 [.nils,.bool false,.nils,.bool false],.blk 33 (ri 1),.blk 33 (ri ((Eo p i:Nat):Int))]) (λi=>p.length-i) (λi=>i<=p.length) 0 (Qg _) rfl (λ_ _=>rfl) rfl λi hi=>?_
 by_cases h:i<p.length
 ·have hb:=Ul hp i;have hg:=I1 hp i;refine go tt [.t (decide_eq_true (by omega)),.x (Hq h),.c [] (Zc2 (z:=p.getD i 0) (by omega)),.x (Hq h),.c [] (Qy0 (z:=p.getD i 0) (by omega)),.c [] (Qi4 (a:=((Eo p i:Nat):Int)) (b:=p.getD i 0) (by omega) (by omega))] rfl (by simp [W6]; omega) ?_;exact rd (i+1) (by omega) h rfl
 have e:i=p.length:=by omega
 rw [e];have co:=Qi1 (n:=1) (by decide);have cs:=Qvs hc (Qmr hp) (Q3j p) hp hl;by_cases hn:U5 p<0
 ·have e2:P5 p=-((Qbe p:Nat):Int):=if_pos hn;rw [show (λi=>p.getD i 0 / P5 p)=λi=>p.getD i 0 / P5 p from rfl] at cs;have cn:=Q50 (z:=((Qbe p:Nat):Int));rw [<-e2] at cn;exact en tt [.f (decide_eq_false (by omega)),.c [] (Sy (n:=((Qbe p:Nat):Int))),.r 62 (eI (b:=((p.length-1:Nat):Int)) (by omega)),.x (Hq (p:=p) (i:=p.length-1) (by omega)),.t (decide_eq_true hn),.c [] cn,.c [] co,.c [] (Qvr (a:=((1:Int):Rat)) (b:=((P5 p:Int):Rat)) ⟨by decide,by decide⟩ (B6 (by have:=Qmr hp; omega) (by decide)) (λe=>hc (by exact_mod_cast e))),.c [] cs] rfl rfl (by simp [W6]; omega)
 ·have e2:P5 p=((Qbe p:Nat):Int):=if_neg hn;have cm:=Sy (n:=P5 p);rw [e2] at cm cs hc ⊢;exact en tt [.f (decide_eq_false (by omega)),.c [] cm,.r 62 (eI (b:=((p.length-1:Nat):Int)) (by omega)),.x (Hq (p:=p) (i:=p.length-1) (by omega)),.f (decide_eq_false hn),.c [] co,.c [] (Qvr (a:=((1:Int):Rat)) (b:=((((Qbe p:Nat):Int):Int):Rat)) ⟨by decide,by decide⟩ (B6 (by have:=I1 hp p.length; unfold Qbe; omega) (by decide)) (λe=>hc (by exact_mod_cast e))),.c [] cs] rfl (by unfold G7; rw [e2]; rfl) (by simp [W6]; omega)
theorem Av {p:List Int} (tp:Ud p) (hp:Bd 9000000 p) (hl:p.length<=1000):W8 Tryz.prog 67 [.one (rp (zp p))] [.one (rp (zp (G7 p)))] :=
 w tt Tryz.func67 rfl [.c [] (Aw tp hp hl)] rfl rfl trivial
theorem Qms {p:List Int} (tp:Ud p):P5 p<0↔U5 p<0:=by
 unfold P5;rcases Qy p.length with h0 | h0
 ·have:=Qk h0; subst this; decide
 ·have:=Qr1 tp h0
  split <;> omega
theorem Qvz {p:List Int} (hp:Bd 9000000 p) (hl:p.length<=1000000):W8 Tryz.prog 104 [.one (rp (zp p))] [.one (rp (zp (Tg p)))]:=by
 have h:=Qv3 ((Qbr hp (by decide)).mono (by decide)) (by rw [Tj]; exact hl);rwa [Q1r] at h
theorem Qrs {p:List Int} (tp:Ud p) (hp:Bd 9000000 p) (hl:p.length<=1000):W8 Tryz.prog 103 [.one (rp (zp p))] [.one (rp (zp (Sw p)))]:=by
 by_cases hn:U5 p<0
 ·have e:Sw p=Tg (G7 p):=if_pos hn;rw [e];exact w tt Tryz.func103 rfl [.c [] (Aw tp hp hl),.t (decide_eq_true ((Qms tp).2 hn)),.c [] (Qvz (Qis hp) (Qd (Qfs p) (by omega)))] rfl rfl trivial
 ·have e:Sw p=G7 p:=if_neg hn;rw [e];exact w tt Tryz.func103 rfl [.c [] (Aw tp hp hl),.f (decide_eq_false λh=>hn ((Qms tp).1 h))] rfl rfl trivial
end Orr
namespace Orr
theorem Et (f:Nat->Int):Sv 1 f=trim [f 0]:=rfl
theorem Qjn (f:Nat->Int):Sv 2 f=trim [f 0,f 1]:=rfl
theorem Qel (x:Int):trim [x]=if x=0 then [] else [x]:=rfl
theorem Qob (x y:Int):trim [x,y]=if y=0 then trim [x] else [x,y]:=by
 simp only [trim]; split <;> split <;> simp_all
theorem bd1 {s:Nat} {x:Int} (h:Uh x<=s):Bd s [x]:=λz hz=>by simp at hz; subst hz; exact h
theorem bd2 {s:Nat} {x y:Int} (h:Uh x<=s) (h':Uh y<=s):Bd s [x,y]:=λz hz=>by
 simp only [Qo,J3,or_false] at hz;rcases hz with rfl | rfl <;> assumption
section
variable {x d:Int} (hd:0<d) (hg:Int.gcd x d=1) (hx:Uh x<=1000000) (hs:Uh d<=1000000)
theorem b1 {s:Nat} (h:1<=s):Bd s [1]:=bd1 (Qd (show Uh 1<=1 by decide) h)
include hd in
theorem Qd3 (hg:Int.gcd x d=1):G7 [x,d]=[x,d]:=by
 have hc:P5 [x,d]=1:=by
  have h1:Qbe [x,d]=1:=by
   show Int.gcd (Int.gcd ((0:Nat):Int) x:Nat) d=1;rw [show Int.gcd ((0:Nat):Int) x=x.natAbs by simp,show Int.gcd ((x.natAbs:Nat):Int) d=Int.gcd x d by simp [Int.gcd],hg]
  unfold P5;rw [if_neg (show ¬U5 [x,d]<0 from by show ¬d<0; omega),h1]; rfl
 unfold G7;rw [hc];show Sv 2 _=_;rw [Qjn,Qob];show (if d / 1=0 then _ else [x / 1,d / 1])=_;rw [Ko,if_neg (by omega),Ko]
theorem Q9z:G7 [1]=[1]:=by decide
include hd in
theorem Qk0:G7 [d]=[1]:=by
 have hc:P5 [d]=d:=by
  have h1:((Qbe [d]:Nat):Int)=d:=by
   show ((Int.gcd ((0:Nat):Int) d:Nat):Int)=d;simp; omega
  unfold P5;rw [if_neg (show ¬U5 [d]<0 from by show ¬d<0; omega),h1]
 unfold G7;rw [hc];show Sv 1 _=_;rw [Et,Qel];show (if d / d=0 then _ else [d / d])=_;rw [Int.ediv_self (by omega)]; rfl
include hd in
theorem Qo6:U8 [x,d]=[d]:=by
 show Sv 1 _=_;rw [Et,Qel];show (if d*1=0 then _ else [d*1])=_;rw [K8,if_neg (by omega)]
include hd hx hs in
theorem Qub:∃ m,RRun [1] m [x,d] []:=by
 have h1:Qn1 [x,d] [1]=trim [x]:=by
  show Sv 2 _=_;rw [Qjn,Qob];have e1:Ed [x,d] [1] 1=0:=by
   show d*1-(if 1<=1 then O8 [x,d] [1]*1 else 0)=0;have:O8 [x,d] [1]=d:=by unfold O8; rw [if_neg (by decide)]; rfl
   rw [this]; simp
  have e0:Ed [x,d] [1] 0=x:=by
   show x*1-(if 1<=0 then _ else 0)=x;simp
  rw [e1,if_pos rfl,e0]
 have hb:Bd 9000000 [x,d]:=bd2 (by omega) (by omega);by_cases h0:x=0
 ·refine ⟨1,.step (by show 1<=2; decide) (by show 2<=1000; decide) hb (b1 (by decide)) ?_⟩;rw [h1,h0];exact .stop (by decide)
 ·refine ⟨2,.step (by show 1<=2; decide) (by show 2<=1000; decide) hb (b1 (by decide)) ?_⟩;rw [h1,Qel,if_neg h0];refine .step (Qn 1) (by show 1<=1000; decide) (bd1 (by omega)) (b1 (by decide)) ?_;have h2:Qn1 [x] [1]=[]:=by
   show Sv 1 _=_;rw [Et,Qel];have e0:Ed [x] [1] 0=0:=by
    show x*1-(if 0<=0 then O8 [x] [1]*1 else 0)=0;have:O8 [x] [1]=x:=by unfold O8; rw [if_neg (by decide)]; rfl
    rw [this]; simp
   rw [e0,if_pos rfl]
  rw [h2];exact .stop (by decide)
include hd hx hs in
theorem Q8n:∃ m,GRun m [x,d] [1] [1]:=by
 obtain ⟨m,h⟩:=Qub hd hx hs;exact ⟨1,.step (by decide) (by decide) (b1 (by decide)) h (by decide) Iw rfl (by rw [show G7 []=[] by decide]; exact .stop _)⟩
theorem Q38 (c:Int):S9 [c] [c]=[]:=by
 show Sv 1 _=_;rw [Et,Qel];show (if c-c=0 then _ else _)=_;rw [if_pos (by omega)]
include hd hx hs in
theorem Qzv:DOk [x,d] [1] [x,d]:=by
 refine ⟨by decide,by decide,by show 2<=1000; decide,b1 (by decide),[x,d],[],?_⟩;have hpl:U5 [x,d] / U5 [1]=d:=by show d / 1=d; rw [Ko]
 have hsc:U3 [1] d=[d]:=by
  show Sv 1 _=_;rw [Et,Qel];show (if 1*d=0 then _ else [1*d])=_;rw [Yz,if_neg (by omega)]
 have hsub:S9 [x,d] (Dx 1 [d])=trim [x]:=by
  show Sv 2 _=_;rw [Qjn,Qob];show (if d-d=0 then trim [x-0] else _)=_;rw [if_pos (by omega),Int.sub_zero]
 have hb:Bd 9000000 [x,d]:=bd2 (by omega) (by omega);have ht:trim [x,d]=[x,d]:=by rw [Qob,if_neg (by omega)]
 by_cases h0:x=0
 ·refine ⟨1,hb,by show 2<=1000; decide,?_,ht.symm⟩;refine .step (by show 1<=2; decide) (by show 2<=1000; decide) hb (by decide) (by show (1:Int)∣d; exact Int.one_dvd d) (by show 1<2; decide) ?_;rw [hpl,hsc,show [x,d].length-[(1:Int)].length=1 from rfl,hsub,Qel,if_pos h0];show DRun [1] 0 [] [0,d] [x,d] [];rw [h0]; exact .stop (by decide)
 ·refine ⟨2,hb,by show 2<=1000; decide,?_,ht.symm⟩;refine .step (by show 1<=2; decide) (by show 2<=1000; decide) hb (by decide) (by show (1:Int)∣d; exact Int.one_dvd d) (by show 1<2; decide) ?_;rw [hpl,hsc,show [x,d].length-[(1:Int)].length=1 from rfl,hsub,Qel,if_neg h0];refine .step (by show 1<=1; decide) (by show 1<=1000; decide) (bd1 (by omega)) (by decide) (by show (1:Int)∣x; exact Int.one_dvd x) (by show 0<2; decide) ?_;have hpl2:U5 [x] / U5 [1]=x:=by show x / 1=x; rw [Ko]
  have hsc2:U3 [1] x=[x]:=by
   show Sv 1 _=_;rw [Et,Qel];show (if 1*x=0 then _ else [1*x])=_;rw [Yz,if_neg h0]
  rw [hpl2,hsc2,show [x].length-[(1:Int)].length=0 from rfl,show Dx 0 [x]=[x] from rfl,Q38];exact .stop (by decide)
theorem div_one:DOk [1] [1] [1]:=by
 refine ⟨by decide,by decide,by decide,b1 (by decide),[1],[],1,b1 (by decide),by decide,?_,by decide⟩;refine .step (by decide) (by decide) (b1 (by decide)) (by decide) (by decide) (by decide) ?_;exact .stop (by decide)
include hd hg hx hs in
theorem Q77:FRun [x,d] 1 (λ_=>[x,d]):=by
 obtain ⟨m,hm⟩:=Q8n (x:=x) hd hx hs;refine ⟨⟨1,[[x,d],[1]],?_,rfl,?_⟩,by decide⟩
 ·rw [Qd3 hd hg];refine .step (by show 1<2; decide) (by show 2<=1000; decide) (by show trim [x,d]=[x,d]; rw [Qob,if_neg (by omega)]) (by show Bd 9000000 [x,d]; exact bd2 (by omega) (by omega)) ?_ ?_ (by show 1<=1000; decide) (m:=m) (g:=[1]) ?_
  ·show Bd 9000000 (U8 [x,d]);rw [Qo6 hd]; exact bd1 (by omega)
  ·show GRun m (G7 [x,d]) (G7 (U8 [x,d])) [1];rw [Qd3 hd hg,Qo6 hd,Qk0 hd]; exact hm
  ·exact .stop (by show 1<=1; decide)
 ·intro k hk;have:k=0:=by omega
  subst this;exact ⟨[x,d],[1],[x,d],Qzv hd hx hs,div_one,by rw [Qd3 hd hg,Q9z]; exact Qzv hd hx hs,(Qd3 hd hg).symm⟩
theorem Q3x {p:List Int} (hp:Ud p) (h0:0<p.length):Uo [1] p=p:=by
 refine Qgn (Gg _ _) hp λk=>?_
 unfold Uo;rw [if_neg (by
  rintro (h | h); · cases h
  ·omega),Al]
 show (By [1] p (List.replicate (1+p.length-1) 0) 1).getD k 0=_;simp only [By];rw [Qnj _ _ _ _ _ _ (by simp),Tr]
 split
 ·show 0+1*p.getD (k-0) 0=_;rw [Ky]; omega
 ·rename_i h;rw [Qh,Qu (by omega)]; rfl
include hd hg hx hs in
theorem Q25:ChRun [x,d] [x,d] [[x,d],[1]]:=by
 obtain ⟨m,hm⟩:=Qub (x:=x) hd hx hs;have ht:Ud [x,d]:=by show trim [x,d]=_; rw [Qob,if_neg (by omega)]
 refine ⟨⟨1,λ_=>[x,d],Q77 hd hg hx hs,?_,?_⟩,⟨1,?_⟩,bd2 (by omega) (by omega),by show 2<=1000; decide,by show 2<=1000; decide⟩
 ·intro i hi;have:i=0:=by omega
  subst this;exact ⟨b1 (by decide),by show 1<=1000; decide,bd2 (by omega) (by omega),by show 2<=1000; decide⟩
 ·show [x,d]=Uo [1] [x,d];rw [Q3x ht (by show 0<2; decide)]
 ·have hz:Sw (U8 [x,d])=[1]:=by
   rw [Qo6 hd];unfold Sw;rw [if_neg (show ¬U5 [d]<0 from by show ¬d<0; omega),Qk0 hd]
  rw [hz];refine .step (by decide) (by decide) (b1 (by decide)) (m:=m) (r:=[]) hm rfl Iw (by decide) (by show 0<1; decide) (by show 1<=1000; decide) ?_;exact .stop (by decide)
end
theorem Zmp {q:Rat} (h:Qs 1000000 q):Qyi q [[-q.num,(q.den:Int)],[1]]:=by
 refine ⟨[-q.num,(q.den:Int)],Q25 (den_pos q) ?_ (by rw [Gj]; exact h.1) h.2⟩;rw [Int.neg_gcd];have:=q.reduced;unfold Nat.Coprime at this;simpa [Int.gcd] using this
end Orr
namespace Orr
open Go Go.Proofs
set_option maxRecDepth 10000
theorem Ziv {a b g:List Int} {n:Nat} (ta:Ud a) (tb:Ud b) (ha:Bd 9000000 a) (hb:Bd 9000000 b) (la:a.length<=1000) (lb:b.length<=1000) (hrun:GRun n (G7 a) (G7 b) g):W8 Tryz.prog 133 [.one (rp (zp a)),.one (rp (zp b))] [.one (rp (zp g))]:=by
 refine Fv Tryz.func133 rfl ?_;refine go tt [.c [] (Av ta ha la),.c [] (Av tb hb lb)] rfl trivial ?_;refine sb [(0,.v (.one (rp (zp (G7 a))))),(1,.v (.one (rp (zp (G7 b)))))] [] rfl rfl ?_;refine lp (S:=Nat×List Int×List Int) 0 (λL1 s=>(0,.v (.one (rp (zp s.2.1))))::(1,.v (.one (rp (zp s.2.2))))::L1) (λ_=>[]) (λs=>s.1) (λs=>GRun s.1 s.2.1 s.2.2 g) (n,G7 a,G7 b) hrun rfl (λ_ _=>rfl) rfl λ⟨k,x,y⟩ hs=>?_
 have hs:GRun k x y g:=hs;have hyl:=fzl y;rcases hs.inv with ⟨hk,hy0,hxg⟩ | ⟨j,m2,r,hk,hy0,hy1,hyb,hrr,hrl,hrb,hrt,hgr⟩
 ·rw [<-hxg];exact en tt [.f (decide_eq_false (by dsimp only; omega))] rfl rfl trivial
 ·subst hk;refine go tt [.t (decide_eq_true (by dsimp only; omega)),.c [] (Qzd (a0:=x) (b:=y) (res:=r) hy0 hy1 hyb hrr),.c [] (Av (p:=r) hrt hrb hrl)] rfl trivial ?_;exact rd (j,y,G7 r) (by dsimp only; omega) hgr rfl
theorem Zc3 {x y:Int} (hx:Uh x<=9000000) (hy:Uh y<=9000000) (h0:y≠0) (hd:y∣x):W8 Tryz.prog 176 [.agg (fr (x:Rat)),.agg (fr (y:Rat))] [.agg (fr ((x / y:Int):Rat))]:=by
 have hy0:(y:Rat)≠0:=λe=>h0 (by exact_mod_cast e)
 have h:=Qvr (B6 (s:=40000000) (z:=x) (by omega) (by omega)) (B6 (s:=40000000) (z:=y) (by omega) (by omega)) hy0;obtain ⟨k,rfl⟩:=hd;rw [Xl _ h0];rwa [show (((y*k:Int):Rat)) / (y:Rat)=(k:Rat) by rw [Xq]; grind] at h
theorem Q2y {p:List Int} {c:Int} (hp:Bd 40000000 p) (hc:Uh c<=40000000) (hl:p.length<=1000000):W8 Tryz.prog 156 [.one (rp (zp p)),.agg (fr (c:Rat))] [.one (rp (zp (U3 p c)))]:=by
 have h:=En (Qbr hp (by omega)) (B6 hc (by omega)) (by rw [Tj]; exact hl);rwa [Qn0] at h
theorem Zf9 (k:Nat) (p:List Int):frow (zp (List.replicate k 0))++frow (zp p)=frow (zp (Dx k p)):=by simp [zp,Dx,frow]
theorem Q3m (l:List Int) (i:Nat) (z:Int):(frow (zp l)).set i [nd ((z:Rat)).num.natAbs,sg ((z:Rat)).num,nd (((z:Rat)).den:Int).natAbs,sg (((z:Rat)).den:Int)]=frow (zp (l.set i z)):=Qsm l i z
theorem Zdl {p q:List Int} (hp:Bd 18000000 p) (hq:Bd 18000000 q) (hlp:p.length<=1000000) (hlq:q.length<=1000000):Ge Tryz.prog 106 [.one (rp (zp p)),.one (.orow 0 4 none)] [.row false 35 4 (frow (zp q))] [.one (rp (zp (S9 p q)))] [.gone]:=by
 have hn:=Qv3 ((Qbr hq (by decide)).mono (by decide)) (by rw [Tj]; exact hlq);have ha:=Qv0 (p:=zp p) (q:=Qql (zp q)) ((Qbr hp (by decide)).mono (by decide)) ((Zah (Qbr hq (by decide))).mono (by decide)) (by rw [Tj]; exact hlp) (Qd (Quc _) (by rw [Tj]; exact hlq));have e:Q4d (zp p) (Qql (zp q))=zp (S9 p q):=Zfw p q;rw [e] at ha;refine Fv Tryz.func106 rfl ?_;exact ed tt [] [0] [.c [] hn,.c [] ha] rfl trivial
theorem Q2z {a0 b qf rem:List Int} {n:Nat} (hb0:0<b.length) (hb1:b.length<=1000) (hl0:a0.length<=1000) (hbb:Bd 9000000 b) (hqb:Bd 9000000 qf) (hrun:DRun b n a0 (List.replicate (a0.length+1-b.length) 0) qf rem):W8 Tryz.prog 196 [.one (rp (zp a0)),.one (rp (zp b))] [.one (rp (zp (trim qf))),.one (rp (zp rem))]:=by
 have h0l:=fzl a0;have hbl:=fzl b;obtain ⟨N,hN⟩:=nmE (a0.length+1-b.length);rw [<-hN] at hrun;have cc:=I0 (p:=zp qf);rw [Mz] at cc;refine Fv Tryz.func196 rfl ?_;refine go tt [.r 18 (eI (b:=(N:Int)) (by omega)),.i N,.i N,.r 21 (eI (b:=(N:Int)) (by simp))] rfl (by simp [W6]; omega) ?_;refine lp (S:=Nat) 1 (λL1 i=>(22,.v (.one (.int .i64 (i:Int))))::L1) (λi=>[.row false 35 4 (List.replicate i (fr 0)++List.replicate (N-i) zR)]) (λi=>N-i) (λi=>i<=N) 0 (Qg _) rfl (λ_ _=>rfl) rfl λi hi=>?_
 by_cases hlt:i<N
 ·refine go tt [.t (decide_eq_true (by omega)),.c [] Q6k,.i i] rfl (by simp [W6]; omega) ?_;rw [Qpf hlt];exact rd (i+1) (by omega) hlt rfl
 have hiN:i=N:=by omega
 rw [hiN,Qlp];clear hiN hlt hi;refine go tt [.f (decide_eq_false (by omega))] rfl trivial ?_;refine sb [(0,.v (.one (rp (zp a0)))),(1,.v (.one (rp (zp b)))),(6,.v (.one (.orow 0 4 none)))] [.row false 35 4 (frow (zp (List.replicate N 0)))] rfl rfl ?_;refine lp (S:=Nat×List Int×List Int) 1 (λL1 s=>(0,.v (.one (rp (zp s.2.1))))::L1) (λs=>[.row false 35 4 (frow (zp s.2.2))]) (λs=>s.1) (λs=>DRun b s.1 s.2.1 s.2.2 qf rem/\s.2.2.length=N) (n,a0,List.replicate N 0) ⟨hrun,X8⟩ rfl (λ_ _=>rfl) rfl λ⟨k,a,q⟩ ⟨hr0,hr1⟩=>?_
 have hr0:DRun b k a q qf rem:=hr0;have hr1:q.length=N:=hr1;have hal:=fzl a;have hql:=fzl q;rcases hr0.inv with ⟨hk,hqf,har,hlt⟩ | ⟨j,hk,hba,hal2,hab,hpb,hpd,hkq,hrj⟩
 ·subst hqf; subst har;exact en tt [.f (decide_eq_false (by dsimp only; omega)),.c [] cc] rfl rfl trivial
 subst hk;obtain ⟨K,hK⟩:=nmE (a.length-b.length);rw [<-hK] at hrj hkq;have hla:Uh (U5 a)<=9000000:=Ul hab _;have hlb:Uh (U5 b)<=9000000:=Ul hbb _;obtain ⟨c,hc⟩:=nmE (U5 a / U5 b);have cq:=Zc3 hla hlb hpb hpd;have hcs:Uh (U5 a / U5 b)<=9000000:=Qd (Od _ _) hla;rw [<-hc] at cq hcs hrj;have hsl:=Pn b c;have hqs:∀ x,(q.set K x).length=N:=λx=>by rw [Ja]; exact hr1
 dsimp only;refine go tt [.t (decide_eq_true (by omega)),.r 39 (eI (b:=(K:Int)) (by omega)),.r 43 (eI (b:=((a.length-1:Nat):Int)) (by omega)),.x (Hq (p:=a) (i:=a.length-1) (by omega)),.r 49 (eI (b:=((b.length-1:Nat):Int)) (by omega)),.x (Hq (p:=b) (i:=b.length-1) (by omega)),.c [] cq,.i K,.i K,.i K,.r 60 (eI (b:=(K:Int)) (by simp))] rfl (by simp [W6,hql] <;> omega) ?_;rw [Q3m];refine lp (S:=Nat) 3 (λL1 i=>(61,.v (.one (.int .i64 (i:Int))))::L1) (λi=>[.row false 35 4 (frow (zp (q.set K c))),.blk 35 (fr (c:Rat)),.row false 35 4 (List.replicate i (fr 0)++List.replicate (K-i) zR)]) (λi=>K-i) (λi=>i<=K) 0 (Qg _) rfl (λ_ _=>rfl) rfl λi hi=>?_
 by_cases hlt:i<K
 ·refine go tt [.t (decide_eq_true (by omega)),.c [] Q6k,.i i] rfl (by simp [W6]; omega) ?_;rw [Qpf hlt];exact rd (i+1) (by omega) hlt rfl
 have hiK:i=K:=by omega
 rw [hiK,Qlp];clear hiK hlt hi;have hzl:=fzl (List.replicate K 0);rw [X8] at hzl;have hpl:=fzl (U3 b c);refine go tt [.f (decide_eq_false (by omega))] rfl trivial ?_;refine sb [(10,.v (.one (.orow 2 4 none))),(9,.v (.one (.ow 1 0))),(0,.v (.one (rp (zp a)))),(1,.v (.one (rp (zp b)))),(6,.v (.one (.orow 0 4 none)))] [.row false 35 4 (frow (zp (q.set K c))),.blk 35 (fr (c:Rat)),.row false 35 4 (frow (zp (List.replicate K 0)))] rfl rfl ?_;have p2:=Zdl (p:=a) (q:=Dx K (U3 b c)) (W7 hab (by decide)) (W7 (Q2g (Ng hbb hcs)) (by decide)) (by omega) (by rw [Qxz]; omega);rw [<-Zf9] at p2;refine go tt [.c [] (Q2y (c:=c) (W7 hbb (by decide)) (by omega) (by omega)),.s (sz:=4) (Qfi (zp (U3 b c))),.c [2] p2] rfl (by simp [W6,hzl,hpl]; omega) ?_;exact rd (j,S9 a (Dx K (U3 b c)),q.set K c) (by dsimp only; omega) ⟨hrj,hqs c⟩ rfl
def zls (l:List (List Int)):List (List LV):=l.map λp=>[rp (zp p)]
theorem Qbd (l:List (List Int)):(zls l).length=l.length:=by simp [zls]
theorem Qet (l:List (List Int)) (g:List Int):zls l++[[rp (zp g)]]=zls (l++[g]):=by simp [zls]
theorem Qbc {l:List (List Int)} {i:Nat} (h:i<l.length):(zls l)[i]? = some [rp (zp (l.getD i []))]:=Ff (Qwp h)
theorem Zfb (x:LV):∀ c∈[[x]],c.length=1:=λc hc=>by rw [Qm.1 hc]; rfl
theorem Qi6 {a b q:List Int} (h:DOk a b q):∃ r,W8 Tryz.prog 196 [.one (rp (zp a)),.one (rp (zp b))] [.one (rp (zp q)),.one (rp (zp r))]:=by
 obtain ⟨h1,h2,h3,h4,qf,r,n,h5,h6,h7,rfl⟩:=h;exact ⟨r,Q2z h1 h2 h3 h4 h5 h7⟩
theorem Qv2 {a:List Int} {mf:Nat} {f:Nat->List Int} (ta:Ud a) (ha:Bd 9000000 a) (la:a.length<=1000) (h2:2<=a.length) (hF:FRun a mf f):W8 Tryz.prog 155 [.one (rp (zp a))] [.one (.row (zls (Qlh f mf)))]:=by
 obtain ⟨⟨n,ls,hrun,hlen,hq⟩,hms⟩:=hF;have hal:=fzl a;refine Fv Tryz.func155 rfl ?_;refine go tt [.f (decide_eq_false (by omega)),.c [] (Av ta ha la),.o 3 28 1,.lo] rfl trivial ?_;refine sb [(3,.v (.one (.orow 0 1 none))),(4,.v (.one (.orow 1 1 none)))] [.row false 28 1 [],.row false 28 1 (zls [G7 a])] rfl rfl ?_;refine lp (S:=Nat×List (List Int)) 2 (λL1 s=>(4,.v (.one (.orow 1 1 none)))::L1) (λs=>[.row false 28 1 [],.row false 28 1 (zls s.2)]) (λs=>s.1) (λs=>LRun s.1 s.2 ls/\0<s.2.length/\s.2.length<=1001) (n,[G7 a]) ⟨hrun,by show 0<1; decide,by show 1<=1001; decide⟩ rfl (λ_ _=>rfl) rfl λ⟨k,l⟩ ⟨hs1,hs2,hs3⟩=>?_
 have hs1:LRun k l ls:=hs1;have hs2:0<l.length:=hs2;have hs3:l.length<=1001:=hs3;have hll:=Qbd l;have hlast:(zls l)[l.length-1]? = some [rp (zp (Ss l))]:=Qbc (by omega);have hpl:=fzl (Ss l);dsimp only;rcases hs1.inv with ⟨hk,hlf,hl1⟩ | ⟨j,m2,g,hk,hg1,hg2,hg3,hg4,hg5,hg6,hg7,hlr⟩
 ·have hlm:l.length=mf+1:=by rw [hlf]; exact hlen
  rw [<-hlf] at hq;have hl2:=Qbd (l++[[1]]);have hl3:(l++[[1]]).length=mf+2:=by simp [hlm]
  refine go tt [.r 23 (eI (b:=((l.length-1:Nat):Int)) (by omega)),.i (l.length-1),.x hlast,.f (decide_eq_false (by omega)),.c [] Qv4,.s (sz:=1) (Zfb _)] rfl (by simp [W6,hll]; omega) ?_;rw [Qet];refine lp (S:=Nat) 2 (λL1 i=>(6,.v (.one (.int .i64 (i:Int))))::(3,.v (.one (.orow 0 1 none)))::L1) (λi=>[.row false 28 1 (zls (Qlh f i)),.row false 28 1 (zls (l++[[1]]))]) (λi=>mf-i) (λi=>i<=mf) 0 (Qg _) rfl (λ_ _=>rfl) rfl λi hi=>?_
  have htl:=Qbd (Qlh f i);rw [Qun] at htl;by_cases h:i<mf
  ·obtain ⟨x,y,z,hx,hy,hz,hf⟩:=hq i h;obtain ⟨rx,hdx⟩:=Qi6 hx;obtain ⟨ry,hdy⟩:=Qi6 hy;obtain ⟨rz,hdz⟩:=Qi6 hz;refine go tt [.t (decide_eq_true (by omega)),.i i,.x (Qbc (by omega)),.i (i+1),.x (Qbc (by omega)),.c [] hdx,.i (i+1),.x (Qbc (by omega)),.i (i+2),.x (Qbc (by omega)),.c [] hdy,.c [] (Av hx.trim hx.bd hx.len),.c [] (Av hy.trim hy.bd hy.len),.c [] hdz,.c [] (Av hz.trim hz.bd hz.len),.s (sz:=1) (Zfb _)] rfl (by simp [W6,hl2,htl]; omega) ?_;exact rd (i+1) (by omega) h (by rw [Qet,Q4m,hf]; rfl)
  ·have e:i=mf:=by omega
   rw [e];exact en tt [.f (decide_eq_false (by omega))] rfl rfl (by simp [W6]; omega)
 ·subst hk;refine go tt [.r 23 (eI (b:=((l.length-1:Nat):Int)) (by omega)),.i (l.length-1),.x hlast,.t (decide_eq_true (by omega)),.r 31 (eI (b:=((l.length-1:Nat):Int)) (by omega)),.i (l.length-1),.x hlast,.c [] (Qv1 (W7 hg4 (by decide)) (by omega)),.c [] (Ziv hg3 (Uw _ _) hg4 hg5 hg2 (Qd (Tt _) (by omega)) hg6),.s (sz:=1) (Zfb _)] rfl (by simp [W6,hll]; omega) ?_;exact rd (j,l++[g]) (by dsimp only; omega) ⟨hlr,by simp,by simp; omega⟩ (by rw [Qet]; rfl)
theorem Q20 {a:List Int} {mf:Nat} {f:Nat->List Int} (ta:Ud a) (ha:Bd 9000000 a) (la:a.length<=1000) (h2:2<=a.length) (hF:FRun a mf f) (hP:Zld mf f):W8 Tryz.prog 102 [.one (rp (zp a))] [.one (rp (zp (Aa f mf)))]:=by
 have hms:=hF.small;have hal:=fzl a;have htl:=Qbd (Qlh f mf);rw [Qun] at htl;refine Fv Tryz.func102 rfl ?_;refine go tt [.f (decide_eq_false (by omega)),.c [] Qv4,.c [] (Qv2 ta ha la h2 hF)] rfl trivial ?_;refine lp (S:=Nat) 0 (λL1 i=>(15,.v (.one (.int .i64 (i:Int))))::(3,.v (.one (rp (zp (Aa f i)))))::L1) (λ_=>[]) (λi=>mf-i) (λi=>i<=mf) 0 (Qg _) rfl (λ_ _=>rfl) rfl λi hi=>?_
 by_cases h:i<mf
 ·obtain ⟨g1,g2,g3,g4⟩:=hP i h;refine go tt [.t (decide_eq_true (by omega)),.x (Ff (f:=λp=>[rp (zp p)]) (Zbo h)),.c [] (Qb1 (p:=Aa f i) (q:=f i) (by omega) (by omega) g1 g3 (by decide))] rfl (by simp [W6]; omega) ?_;exact rd (i+1) (by omega) h rfl
 ·have e:i=mf:=by omega
  rw [e];exact en tt [.f (decide_eq_false (by omega))] rfl rfl trivial
theorem Q3s {l:List (List Int)} (g:List Int) (h:0<l.length):(zls l++[[rp (zp g)]])[l.length-1]? = some [rp (zp (Ss l))]:=by
 rw [Zk (by rw [Qbd]; omega)];exact Qbc (by omega)
theorem Q6u {a sq:List Int} {c:List (List Int)} (ta:Ud a) (ha:Bd 9000000 a) (la:a.length<=1000) (h2:2<=a.length) (hC:ChRun a sq c):W8 Tryz.prog 49 [.one (rp (zp a))] [.one (.row (zls c))]:=by
 obtain ⟨⟨mf,f,hF,hP,rfl⟩,⟨n,hcr⟩,hbd,hle,hsm⟩:=hC;refine Fv Tryz.func49 rfl ?_;refine go tt [.c [] (Q20 ta ha la h2 hF hP),.lo,.c [] (Qv1 (p:=Aa f mf) (W7 hbd (by decide)) (by omega)),.c [] (Qrs (p:=U8 (Aa f mf)) (Uw _ _) (W7 (Qhm (t:=10) hbd (by omega)) (by decide)) (Qd (Tt _) (by omega)))] rfl trivial ?_;refine sb [(5,.v (.one (rp (zp (Sw (U8 (Aa f mf))))))),(4,.v (.one (.orow 0 1 none)))] [.row false 28 1 (zls [Aa f mf])] rfl rfl ?_;refine lp (S:=Nat×List (List Int)×List Int) 1 (λL1 s=>(5,.v (.one (rp (zp s.2.2))))::(4,.v (.one (.orow 0 1 none)))::L1) (λs=>[.row false 28 1 (zls s.2.1)]) (λs=>s.1) (λs=>CRun s.1 s.2.1 s.2.2 c/\0<s.2.1.length/\s.2.1.length<=1001) (n,[Aa f mf],Sw (U8 (Aa f mf))) ⟨hcr,by show 0<1; decide,by show 1<=1001; decide⟩ rfl (λ_ _=>rfl) rfl λ⟨k,l,g⟩ ⟨hs1,hs2,hs3⟩=>?_
 have hs1:CRun k l g c:=hs1;have hs2:0<l.length:=hs2;have hs3:l.length<=1001:=hs3;have hll:=Qbd l;have hgl:=fzl g;dsimp only;rcases hs1.inv with ⟨hk,hlf,hg0⟩ | ⟨j,m2,r,hk,hg1,hg2,hg3,hrr,hrt,hrb,hrl,hl0,hl1,hcj⟩
 ·subst hlf;exact en tt [.f (decide_eq_false (by omega))] rfl rfl trivial
 ·subst hk;refine go tt [.t (decide_eq_true (by omega)),.s (sz:=1) (Zfb _),.r 23 (eI (b:=((l.length-1:Nat):Int)) (by simp; omega)),.i (l.length-1),.x (Q3s g hl0),.c [] (Qzd (a0:=Ss l) (b:=g) (res:=r) hg1 hg2 hg3 hrr),.c [] (Qrs (p:=r) hrt hrb hrl),.c [] (Qvz (p:=Sw r) (Q2f hrb) (Qd (Qwt r) (by omega)))] rfl (by simp [W6,hll]; omega) ?_;exact rd (j,l++[g],Tg (Sw r)) (by dsimp only; omega) ⟨hcj,by simp,by simp; omega⟩ (by rw [Qet]; rfl)
theorem Zlj {q:Rat} (h1:Uh q.num<=1000000) (h2:Uh (q.den:Int)<=1000000):Bd 9000000 [-q.num,(q.den:Int)]:=λz hz=>by
 simp only [Qo,J3,or_false] at hz;rcases hz with rfl | rfl
 ·rw [Gj]; omega
 ·omega
abbrev aq (q:Rat) (c:List (List Int)):List LV:=[rp (zp [-q.num,(q.den:Int)]),.row (zls c)]++fr q++fr q
theorem Qrr {q:Rat} {c:List (List Int)} (hq:Qs 1000000 q) (hC:Qyi q c):W8 Tryz.prog 8 [.agg (fr q)] [.agg (aq q c)]:=by
 obtain ⟨sq,hch⟩:=hC;have co:=Bb (n:=1) (by decide);exact w tt Tryz.func8 rfl [.c [] co,.c [] (Sy (n:=q.num)),.c [] (Q50 (z:=q.num)),.c [] co,.c [] (Sy (n:=(q.den:Int))),.c [] (Q6u (a:=[-q.num,(q.den:Int)]) (Q12 q) (Zlj hq.1 hq.2) (by show 2<=1000; decide) (Qn 2) hch)] rfl rfl trivial
theorem Qrt {q:Rat} {c:List (List Int)} (hq:Qs 1000000 q):W8 Tryz.prog 75 [.agg (aq q c)] [.one (.bool true)]:=by
 have cr:=Zdf (a:=q) (b:=q) (hq.mono (by decide)) (hq.mono (by decide));rw [Ni] at cr;exact w tt Tryz.func75 rfl [.c [] cr] rfl rfl trivial
theorem Q36 {p:List Int} (h:p.length=0) (q:Rat):Ft p q=0:=by rw [Qk h]; rfl
theorem Qzc {p:List Int} {q:Rat} {c:List (List Int)} (hp:Bd 30000000 p) (hl:p.length<=64) (hq:Qs 1000000 q):W8 Tryz.prog 76 [.one (rp (zp p)),.agg (aq q c)] [.one (.bool (decide (Ft p q=0)))]:=by
 have hpl:=fzl p;rcases Qy p.length with h0 | h0
 ·rw [decide_eq_true (Q36 h0 q)];exact w tt Tryz.func76 rfl [.t (decide_eq_true (by omega))] rfl rfl trivial
 ·exact w tt Tryz.func76 rfl [.f (decide_eq_false (by omega)),.c [] (Qrt hq),.t rfl,.c [] (Qzb hp hl hq)] rfl rfl trivial
theorem Qmc {p:List Int} {q:Rat} {c:List (List Int)} (hp:Bd 30000000 p) (hl:p.length<=64) (hq:Qs 1000000 q):W8 Tryz.prog 51 [.one (rp (zp p)),.agg (aq q c)] [.one (.int .i64 (Ft p q))]:=by
 by_cases h0:Ft p q=0
 ·have cz:=Qzc (c:=c) hp hl hq;rw [h0] at cz ⊢;exact w tt Tryz.func51 rfl [.c [] cz,.t rfl] rfl rfl trivial
 ·exact w tt Tryz.func51 rfl [.c [] (Qzc hp hl hq),.f (decide_eq_false h0),.c [] (Qrt hq),.g 11 true rfl,.t rfl,.c [] (Qzb hp hl hq)] rfl rfl trivial
theorem Qrq {p:List Int} {q:Rat} {c:List (List Int)} (hp:Bd 20000000 p) (hl:p.length<=64) (hq:Qs 1000000 q):W8 Tryz.prog 11 [.one (rp (zp p)),.agg (aq q c)] [.one (.int .i64 (Qj1 p q))]:=by
 refine Fv Tryz.func11 rfl ?_;refine go tt [] rfl trivial ?_;refine lp (S:=List Int) 1 (λL1 r=>(0,.v (.one (rp (zp r))))::L1) (λ_=>[.blk 37 (aq q c)]) (λr=>r.length) (λr=>r.length<=64/\Bd (25000000-30*r.length) r/\Hr (λp=>Ft p q) r.length r=Qj1 p q) p ⟨hl,W7 hp (by omega),rfl⟩ rfl (λ_ _=>rfl) rfl λr ⟨hr0,hr1,hr2⟩=>?_
 have hrl:=fzl r;rcases Qy r.length with h0 | h0
 ·rw [Qgs _ h0] at hr2;exact en tt [.f (decide_eq_false (by omega))] rfl (by rw [<-hr2]) trivial
 by_cases hs:Ft r q=0
 ·have hd:=Tt r;refine go tt [.t (decide_eq_true (by omega)),.c [] (Qmc (p:=r) (c:=c) (W7 hr1 (by omega)) hr0 hq),.f (decide_eq_false (λh=>h hs)),.c [] (Qv1 (p:=r) (W7 hr1 (by omega)) (by omega))] rfl trivial ?_;exact rd (U8 r) (by omega) ⟨by omega,W7 (Qhm (t:=6) hr1 (by omega)) (by omega),by rw [<-hr2,Qgr _ h0 hs]⟩ rfl
 ·exact en tt [.t (decide_eq_true (by omega)),.c [] (Qmc (p:=r) (c:=c) (W7 hr1 (by omega)) hr0 hq),.t (decide_eq_true hs)] rfl (by rw [<-hr2,Qgq _ h0 hs]) trivial
end Orr
namespace Orr
def Ei (p:List Int) (d:Int):List Rat:=p.map λ(z:Int)=>(z:Rat) / (d:Rat)
theorem Pi (p:List Int) (d:Int):(Ei p d).length=p.length:=Q6 _
theorem Zfz {p:List Int} {i:Nat} {z:Int} {d:Int} (h:p[i]? = some z):(Ei p d)[i]? = some ((z:Rat) / (d:Rat)):=by simp [Ei,h]
theorem Zaw (p:List Int) (d:Int) (i:Nat):(Ei p d).getD i 0=((p.getD i 0:Int):Rat) / (d:Rat):=by
 simp only [Qh,Ei,Q8];cases p[i]? with
 | none=>simp; grind
 | some z=>rfl
theorem A1 (z d:Int):(z:Rat) / (d:Rat)=Rat.divInt z d:=by
 by_cases h:d=0
 ·subst h; simp; grind
 ·rw [J7];have e1:(z:Rat)=Rat.divInt z 1:=by have:=Z1 (z:Rat); simpa using this.symm
  have e2:(d:Rat)⁻¹=Rat.divInt 1 d:=by
   have:(d:Rat)=Rat.divInt d 1:=by have:=Z1 (d:Rat); simpa using this.symm
   rw [this,Rat.inv_divInt]
  rw [e1,e2,Kl];simp
theorem Zd6 {z d:Int} (hd:0<d):(((z:Rat) / (d:Rat)).den:Int)*(Int.gcd z d:Nat)=d:=by
 rw [A1];have h:=(Qpv (n:=z) hd).2;rw [<-h,Mj,Int.gcd_comm];exact Kz (Vh ..)
theorem Q8y {d a b L:Nat} (hd:0<d) (ha:L*a=d) {D:Nat} (hb:D*b=d):L*D / Nat.gcd L D*Nat.gcd a b=d:=by
 have hL:0<L:=Wb λe=>by rw [e] at ha; omega
 have hD:0<D:=Wb λe=>by rw [e] at hb; omega
 have hg:0<Nat.gcd L D:=Nat.gcd_pos_of_pos_left _ hL;show Nat.lcm L D*Nat.gcd a b=d;rw [<-Nat.gcd_mul_left];refine Nat.dvd_antisymm ?_ ?_
 ·-- gcd (M a) (M b) | d
  obtain ⟨u,hu⟩:=Kf L D;obtain ⟨v,hv⟩:=Wh L D;have hM:Nat.lcm L D=Nat.gcd L D*(u*v):=by
   unfold Nat.lcm
   conv=>lhs; rw [show L*D=Nat.gcd L D*u*(Nat.gcd L D*v) by rw [<-hu,<-hv]]
   rw [show Nat.gcd L D*u*(Nat.gcd L D*v)=Nat.gcd L D*(Nat.gcd L D*(u*v)) by rw [Xh,V8 u,]];exact Nat.mul_div_cancel_left _ hg
  have h1:Nat.lcm L D*a=v*d:=by
   rw [hM,<-ha]
   conv=>rhs; rw [hu]
   simp [Zi,V8,Xh]
  have h2:Nat.lcm L D*b=u*d:=by
   rw [hM,<-hb]
   conv=>rhs; rw [hv]
   simp [Zi,V8,Xh]
  have huv:Nat.gcd u v=1:=by
   have:=Nat.gcd_mul_left (Nat.gcd L D) u v;rw [<-hu,<-hv] at this;exact Nat.eq_of_mul_eq_mul_left hg (by omega)
  rw [h1,h2,Wi,Kw,huv,W3];exact Nat.dvd_refl d
 ·refine Nat.dvd_gcd ?_ ?_
  ·rw [<-ha]; exact Nat.mul_dvd_mul_right (Nat.dvd_lcm_left L D) a
  ·rw [<-hb]; exact Nat.mul_dvd_mul_right (Nat.dvd_lcm_right L D) b
def lcd (z:List Int) (d:Int):Nat->Int
 | 0=>1
 | i+1=>lcd z d i*((((z.getD i 0:Int):Rat) / (d:Rat)).den:Int) / (Int.gcd (lcd z d i) ((((z.getD i 0:Int):Rat) / (d:Rat)).den:Int):Nat)
theorem Qws {z:List Int} {d:Int} (hd:0<d):∀ i,i<=z.length->lcd z d i*((Gh (d::z.take i):Nat):Int)=d
 |
  0,_=>by
  show 1*_=d;have:((Gh [d]:Nat):Int)=d:=by unfold Gh; simp; omega
  rw [Vj,this,Yz]
 |
  i+1,hi=>by
  have ih:=Qws (z:=z) hd i (by omega);have hz:z[i]? = some (z.getD i 0):=Qar (l:=z) (by omega);have hstep:Gh (d::z.take (i+1))=Nat.gcd (Gh (d::z.take i)) (z.getD i 0).natAbs:=by
   have:=Qm4 (l:=d::z) (i:=i+1) (z:=z.getD i 0) (by simpa using hz);simpa using this
  have hdn:=Zd6 (z:=z.getD i 0) hd;simp only [lcd];generalize hL:lcd z d i=L at *;generalize hD:(((z.getD i 0:Int):Rat) / (d:Rat)).den=D at *;have hLp:0<L:=by
   rcases Jt L 0 with h | h | h
   ·have:=Int.mul_nonneg (Int.neg_nonneg_of_nonpos (Int.le_of_lt h)) (Int.natCast_nonneg (Gh (d::z.take i)));rw [Vx] at this; omega
   ·rw [h,J9] at ih; omega
   ·exact h
  obtain ⟨l,rfl⟩:=Yi (Int.le_of_lt hLp);obtain ⟨e,rfl⟩:=Yi (Int.le_of_lt hd);have h1:l*Gh (((e:Nat):Int)::z.take i)=e:=by exact_mod_cast ih
  have h2:D*Int.gcd (z.getD i 0) ((e:Nat):Int)=e:=by exact_mod_cast hdn
  have h3:=Q8y (d:=e) (by omega) h1 h2;have h4:Nat.gcd (Gh (((e:Nat):Int)::z.take i)) (Int.gcd (z.getD i 0) ((e:Nat):Int))=Nat.gcd (Gh (((e:Nat):Int)::z.take i)) (z.getD i 0).natAbs:=by
   have hge:Gh (((e:Nat):Int)::z.take i)∣e:=⟨l,by rw [Zi]; exact h1.symm⟩;show Nat.gcd _ (Nat.gcd (z.getD i 0).natAbs e)=_;rw [Kw (z.getD i 0).natAbs e,<-Nat.gcd_assoc,Nat.gcd_eq_left hge]
  rw [hstep,<-h4];rw [show Int.gcd ((l:Nat):Int) ((D:Nat):Int)=Nat.gcd l D by simp [Int.gcd]]
  exact_mod_cast h3
theorem Zeq {x y:List Int} {d:Int} (hd:0<d) (hg:Gh (d::(x++y))=1):lcd (x++y) d (x++y).length=d:=by
 have:=Qws (z:=x++y) hd (x++y).length (Qn _);rw [Q4,hg] at this;simpa using this
theorem Zes {z:List Int} {d:Int} (hd:0<d) {i:Nat} (hi:i<=z.length):Uh (lcd z d i)<=Uh d:=by
 have h:=Qws (z:=z) hd i hi;refine Hf ?_;have h0:Gh (d::z.take i)≠0:=λe=>by rw [e] at h; simp at h; omega
 have:d.natAbs=(lcd z d i).natAbs*Gh (d::z.take i):=by
  conv=>lhs; rw [<-h]
  rw [Jm]; simp
 rw [this];exact Js _ (Wb h0)
end Orr
namespace Orr
open Go Go.Proofs
set_option maxRecDepth 10000
abbrev cl4 (k:Crv):List LV:=[pl k.x,pl k.y,sg k.d,mg k.d]
abbrev Bu (c:Crv):List LV:=[rp (Ei c.x c.d),rp (Ei c.y c.d)]++cl4 c
def M5 (p:Pt):List LV:=Bu p.c++[.int .i64 p.id]
def Ux (l:List Pt):List (List LV):=l.map M5
structure Rs (k:Crv):Prop where
 n:Nml k
 c:Cs 100000 16 k
theorem Rs.d0 {k:Crv} (h:Rs k):0<k.d:=h.n.2.2.1
theorem Qcm {x:List Int} {d:Int} {s:Nat} (hx:Bd s x) (hd:Uh d<=s) (h1:1<=s):Rb s (Ei x d):=λq hq=>by
 obtain ⟨z,hz,rfl⟩:=Zc.1 hq;rw [A1];exact Qs.divInt (hx z hz) hd h1
theorem Qk6 {x:List Int} {d:Int} (tx:Ud x) (hd:d≠0):Sx (Ei x d) (d:Rat)=zp x:=by
 have hd':(d:Rat)≠0:=λe=>hd (by exact_mod_cast e)
 unfold Sx;rw [Qii (g:=λi=>x.getD i 0) _ λi _=>?_,Pi,Qkj,Mz,tx];rw [Zaw]; grind
theorem Qru {p:List Rat} {c:Int} (hp:Rb 40000000 p) (hc:Uh c<=40000000) (hl:p.length<=1000000):W8 Tryz.prog 230 [.one (rp p),.agg (ri c)] [.one (rp (Sx p (c:Rat)))] :=
 w tt Tryz.func230 rfl [.c [] (Bb (n:=1) (by decide)),.c [] (Sy (n:=c)),.c [] (En (p:=p) (c:=(c:Rat)) hp (B6 hc (by omega)) hl)] rfl rfl trivial
theorem Zfy (x y:List Int) (d:Int):frow (Ei x d)++frow (Ei y d)=frow (Ei (x++y) d):=by simp [Ei,frow]
theorem Qeb {z:List Int} {d:Int} {i:Nat} (h:i<z.length):(Ei z d)[i]? = some (((z.getD i 0:Int):Rat) / (d:Rat)):=Zfz (Qar h)
theorem Qlt (a b:Int) (hb:b≠0) {s:Nat} (h:Uh b<=s):Uh ((Int.gcd a b:Nat):Int)<=s:=by
 refine Qd (Hf ?_) h;simp only [Z7];exact Vv (by omega) (by simpa using Xp.2 (Vh a b))
theorem Zer (a b:Int):(a*b) % ((Int.gcd a b:Nat):Int)=0:=Jp (Vq (Wl ..) (Int.dvd_mul_right a b))
theorem Qmd {k:Crv} (hs:Rs k):W8 Tryz.prog 190 [.one (rp (Ei k.x k.d)),.one (rp (Ei k.y k.d))] [.agg (Bu k)]:=by
 have hlx:=hs.c.lx;have hly:=hs.c.ly;have hds:=hs.c.d;have hxy:Bd 100000 (k.x++k.y):=λz hz=>by rcases Qx.1 hz with h | h; exact hs.c.x z h; exact hs.c.y z h
 have hfx:(frow (Ei k.x k.d)).length=k.x.length:=by rw [H9,Pi]
 have hfy:(frow (Ei k.y k.d)).length=k.y.length:=by rw [H9,Pi]
 have hfl:(frow (Ei (k.x++k.y) k.d)).length=k.x.length+k.y.length:=by rw [H9,Pi,Q5]
 have hd0:=hs.d0;refine Fv Tryz.func190 rfl ?_;refine go tt [.c [] (Bb (n:=1) (by decide)),.s (sz:=4) (Qfi _),.s (sz:=4) (Qfi _)] rfl (by simp [W6,hfx,hfy]; omega) ?_;rw [Zfy];refine lp (S:=Nat) 3 (λL1 i=>(15,.v (.one (.int .i64 (i:Int))))::L1) (λi=>[.blk 59 [.nils,.nils,.nils,.nils,.bool false,.nils],.blk 33 (ri (lcd (k.x++k.y) k.d i)),.row false 35 4 (frow (Ei (k.x++k.y) k.d))]) (λi=>k.x.length+k.y.length-i) (λi=>i<=k.x.length+k.y.length) 0 (Qg _) rfl (λ_ _=>rfl) rfl λi hi=>?_
 have hll:(k.x++k.y).length=k.x.length+k.y.length:=Q5;by_cases h:i<k.x.length+k.y.length
 ·have hlt:i<(k.x++k.y).length:=by omega
  have hqe:=Qcm (x:=(k.x++k.y)) (d:=k.d) (s:=100000) hxy hs.c.d (by decide);have hqi:=hqe.get (Qeb hlt);obtain ⟨D,hD⟩:=nmE (((((k.x++k.y).getD i 0:Int):Rat) / (k.d:Rat)));have hg:=Df (Qeb (d:=k.d) hlt);have es:lcd (k.x++k.y) k.d (i+1)=lcd (k.x++k.y) k.d i*(D.den:Int) / ((Int.gcd (lcd (k.x++k.y) k.d i) (D.den:Int):Nat):Int):=by rw [hD]; rfl
  rw [<-hD] at hqi hg;have hq2:=hqi.2;have hli:=Qd (Zes (z:=(k.x++k.y)) hs.d0 (i:=i) (by omega)) hs.c.d;have hg0:((Int.gcd (lcd (k.x++k.y) k.d i) (D.den:Int):Nat):Int)≠0:=by have:=Int.gcd_ne_zero_right (a:=(lcd (k.x++k.y) k.d i)) (Nj D); omega
  have hmu:=Us (lcd (k.x++k.y) k.d i) (D.den:Int);refine go tt [.t (decide_eq_true (by omega)),.i i,.x hg,.c [] (Te (a:=lcd (k.x++k.y) k.d i) (b:=(D.den:Int)) (by omega) (by omega)),.i i,.x hg,.c [] (Qi4 (a:=lcd (k.x++k.y) k.d i) (b:=(D.den:Int)) (by omega) (by omega)),.c [] (Qe5 (by omega) (Qd (Qlt _ _ (Nj D) hq2) (by decide)) hg0 (Zer _ _))] rfl (by simp [W6,hfl]; omega) ?_;exact rd (i+1) (by omega) h (by rw [es]; rfl)
 have e:lcd (k.x++k.y) k.d i=k.d:=by rw [show i=(k.x++k.y).length by omega]; exact Zeq hs.d0 hs.n.2.2.2
 rw [e];have hx:=Qru (p:=Ei k.x k.d) (c:=k.d) ((Qcm (s:=100000) hs.c.x hs.c.d (by decide)).mono (by omega)) (by omega) (by rw [Pi]; omega);have hy:=Qru (p:=Ei k.y k.d) (c:=k.d) ((Qcm (s:=100000) hs.c.y hs.c.d (by decide)).mono (by omega)) (by omega) (by rw [Pi]; omega);rw [Qk6 hs.n.1 (by omega)] at hx;rw [Qk6 hs.n.2.1 (by omega)] at hy;exact en tt [.f (decide_eq_false (by omega)),.c [] hx,.c [] (Zg7 (p:=k.x) (W7 hs.c.x (by omega)) (by omega)),.c [] hy,.c [] (Zg7 (p:=k.y) (W7 hs.c.y (by omega)) (by omega)),.c [] (Q2t (z:=k.d) (by omega))] rfl rfl trivial
theorem Qqh (k:Crv):Fx 1 k.d'=((1:Int):Rat) / (k.d':Rat):=by
 unfold Fx; rw [if_neg k.d'_ne,A1]
theorem Qg4 {x:List Int} {g d:Int} (hg:g≠0) (hd:d≠0) (hgd:g∣d) (tx:Ud x) (hx:∀ z∈x,g∣z):Sx (zp x) (((1:Int):Rat) / (d:Rat))=Ei (trim (x.map (· / g))) (d / g):=by
 have ht:Ud (x.map (· / g)):=Dz tx hg hx;rw [show trim (x.map (· / g))=x.map (· / g) from ht];obtain ⟨e,rfl⟩:=hgd;have he:e≠0:=λh=>hd (by rw [h,V3])
 rw [Xl _ hg];have hgq:(g:Rat)≠0:=λh=>hg (by exact_mod_cast h)
 have heq:(e:Rat)≠0:=λh=>he (by exact_mod_cast h)
 unfold Sx;rw [Tj];have hval:∀ i,i<x.length->(zp x).getD i 0*(((1:Int):Rat) / ((g*e:Int):Rat))=(((x.map (· / g)).getD i 0:Int):Rat) / (e:Rat):=λi hi=>by
  rw [Qeu];have hz:=Qar hi;have hm:(x.map (· / g)).getD i 0=x.getD i 0 / g:=by simp [Qh,Qe hi]
  obtain ⟨w,hw⟩:=hx _ (Qa hz);rw [hm,hw,Xl _ hg,Xq,Xq];have:((1:Int):Rat)=1:=rfl;rw [this];grind
 have htab:Ip (λi=>(zp x).getD i 0*(((1:Int):Rat) / ((g*e:Int):Rat))) x.length=Ei (x.map (· / g)) e:=by
  apply Xf;intro i;by_cases hi:i<x.length
  ·rw [Qeb (by simpa using hi)];simp only [Ip,Q8,Xt hi,Jw];rw [hval i hi]
  ·rw [Qu (by rw [Qei]; omega),Qu (by rw [Pi]; simp; omega)]
 rw [htab];rcases Qy x.length with h0 | h0
 ·have:=Qk h0; subst this; rfl
 ·have hl:(Ei (x.map (· / g)) e).length=x.length:=by rw [Pi,Q6]
  have:=Qf9 (l:=Ei (x.map (· / g)) e) (m:=x.length) (by omega) (λj y hj hy=>by rw [Qu (by omega)] at hy; cases hy) (λ_=>⟨_,Qeb (z:=x.map (· / g)) (d:=e) (i:=x.length-1) (by rw [Q6]; omega),λh=>by
   have h3:(((x.map (· / g)).getD (x.length-1) 0:Int):Rat)=0:=by grind
   have h4:(x.map (· / g)).getD (x.length-1) 0=0:=by exact_mod_cast h3
   have:=Gp ht (by rw [Q6]; omega);rw [Q6] at this;exact this h4⟩)
  rw [this,Qj (by omega)]
theorem Zag {k:Crv} (hk:Cs 100000 16 k):Qs 40000000 (Fx 1 k.d'):=by
 have h1:=Qpn hk.d (by decide);rw [Qqh,A1];exact Qs.divInt (by decide) (by omega) (by decide)
theorem Crv.g_dvd' (k:Crv) {z:Int} (h:z∈k.d'::(trim k.x++trim k.y)):k.g∣z:=Yh (k.g_dvd z h)
theorem Zas (k:Crv):Sx (zp (trim k.x)) (Fx 1 k.d')=Ei k.norm.x k.norm.d:=by
 rw [Qqh];exact Qg4 k.g_ne k.d'_ne (k.g_dvd' (by simp)) (G6 _) (λz hz=>k.g_dvd' (by simp [hz]))
theorem Zat (k:Crv):Sx (zp (trim k.y)) (Fx 1 k.d')=Ei k.norm.y k.norm.d:=by
 rw [Qqh];exact Qg4 k.g_ne k.d'_ne (k.g_dvd' (by simp)) (G6 _) (λz hz=>k.g_dvd' (by simp [hz]))
theorem Q1t {k:Crv} (h:Cs 100000 16 k):Rs k.norm:=⟨k.nml,h.norm (by decide)⟩
theorem Zdn {k:Crv} (hk:Cs 100000 16 k):W8 Tryz.prog 152 [.agg (cl4 k)] [.agg (Bu (Crv.norm k))]:=by
 have hlx:=hk.lx;have hly:=hk.ly;have hkd:=hk.d;have hrq:=Zag hk;have hdi:Uh k.d'<=100000:=Qpn hk.d (by decide);have hx:=En (p:=zp (trim k.x)) (c:=Fx 1 k.d') (Qbr (W7 (H4 hk.x) (by omega)) (by omega)) hrq (by rw [Tj]; have:=Gs k.x; omega);have hy:=En (p:=zp (trim k.y)) (c:=Fx 1 k.d') (Qbr (W7 (H4 hk.y) (by omega)) (by omega)) hrq (by rw [Tj]; have:=Gs k.y; omega);rw [Zas] at hx;rw [Zat] at hy;have c1:=Bb (n:=1) (by decide);have cm:=Qc1 (a:=1) (b:=k.d') (by decide) (by omega);by_cases h0:k.d=0
 ·have e:k.d'=1:=by unfold Crv.d'; rw [if_pos h0]
  rw [e] at hx hy cm;exact w tt Tryz.func152 rfl [.c [] (Qiy (z:=k.d) (by omega)),.c [] Pf,.t (decide_eq_true h0),.c [] c1,.c [] c1,.c [] cm,.c [] (Qam (p:=k.x) (W7 hk.x (by omega)) (by omega)),.c [] hx,.c [] (Qam (p:=k.y) (W7 hk.y (by omega)) (by omega)),.c [] hy,.c [] (Qmd (Q1t hk))] rfl rfl trivial
 ·have e:k.d'=k.d:=by unfold Crv.d'; rw [if_neg h0]
  rw [e] at hx hy cm;exact w tt Tryz.func152 rfl [.c [] (Qiy (z:=k.d) (by omega)),.c [] Pf,.f (decide_eq_false h0),.c [] c1,.c [] cm,.c [] (Qam (p:=k.x) (W7 hk.x (by omega)) (by omega)),.c [] hx,.c [] (Qam (p:=k.y) (W7 hk.y (by omega)) (by omega)),.c [] hy,.c [] (Qmd (Q1t hk))] rfl rfl trivial
theorem Q6y {k:Crv} {id:Int} (hk:Cs 100000 16 k):W8 Tryz.prog 93 [.agg (cl4 k++[.int .i64 id])] [.agg (M5 ⟨Crv.norm k,id⟩)] :=
 w tt Tryz.func93 rfl [.c [] (Zdn hk)] rfl rfl trivial
theorem Qb2 {k:Crv} (hk:Rs k):W8 Tryz.prog 53 [.agg (Bu k)] [.one (rp (zp k.x)),.one (rp (zp k.y)),.one (rp (zp [k.d]))]:=by
 have hlx:=hk.c.lx;have hly:=hk.c.ly;have hkd:=hk.c.d;have hx:=Qam (p:=k.x) (W7 hk.c.x (by omega)) (by omega);have hy:=Qam (p:=k.y) (W7 hk.c.y (by omega)) (by omega);rw [show trim k.x=k.x from hk.n.1] at hx;rw [show trim k.y=k.y from hk.n.2.1] at hy;exact w tt Tryz.func53 rfl [.c [] (Qiy (z:=k.d) (by omega)),.c [] (Bb (n:=1) (by decide)),.c [] (Sy (n:=k.d)),.c [] hx,.c [] hy] rfl rfl trivial
theorem Zh9 {s:Nat} {d:Int} (h:Uh d<=s):Bd s [d]:=λz hz=>by simp at hz; subst hz; exact h
theorem Rs.dn {k:Crv} (h:Rs k):k.d≠0:=by have:=h.d0; omega
end Orr
namespace Orr
open Go
structure RawInt where
 b:Bool
 l:List Nat
structure RawPt where
 x:List RawInt
 y:List RawInt
 d:RawInt
 id:Int
abbrev Qf7 (z:RawInt):List LV:=[.bool z.b,Zku z.l]
structure RawInt.Ok (z:RawInt):Prop where
 u:∀ u∈z.l,u<4294967296
structure RawPt.Ok (z:RawPt):Prop where
 x:∀ a∈z.x,a.Ok
 y:∀ a∈z.y,a.Ok
 d:z.d.Ok
 id:-9223372036854775808<=z.id/\z.id<=9223372036854775807
def RawInt.cut (z:RawInt):RawInt:=⟨z.b,z.l.take 1⟩
def Ht (most:Int) (z:RawInt):Int:=match z.l with
 | []=>0
 | u::_=>if z.b=true then -((u:Int) % (most+1)) else (u:Int) % (most+1)
theorem Qcb {most:Int} (h:0<=most) (z:RawInt):-most<=Ht most z/\Ht most z<=most:=by
 unfold Ht
 split
 ·omega
 ·rename_i u _ _;have h1:=Y6 (u:Int) (b:=most+1) (by omega);have h2:=Yo (u:Int) (b:=most+1) (by omega)
  split <;> omega
def Gf (most:Int) (l:List RawInt):List Int:=(l.take 3).map (Ht most)
def Qdl (most:Int) (x y:List RawInt) (d:RawInt):Crv:=⟨Gf most x,Gf most y,Ht 3 d⟩
def Qaw (most:Int) (z:RawPt):Pt:=⟨Qdl most z.x z.y z.d,z.id % 1000⟩
theorem Qgx (most:Int) (l:List RawInt):(Gf most l).length<=3:=by unfold Gf; rw [List.length_map,List.length_take]; omega
theorem Qpu {most:Int} {l:List RawInt} {i:Nat} {z:RawInt} (hi:i<3) (h:l[i]? = some z):Gf most (l.take (i+1))=Gf most (l.take i)++[Ht most z]:=by
 unfold Gf;rw [K6,K6,Vp (by omega),Vp (by omega),Zx,h];simp
theorem Qgw (most:Int) {l:List RawInt} {i:Nat} (h:l.length<=i\/3<=i):Gf most (l.take i)=Gf most l:=by
 unfold Gf;rw [K6];rcases Nat.le_total 3 i with h3 | h3
 ·rw [Zr h3]
 ·rcases h with h | h
  ·rw [Vp h3,Qj (l:=l) (i:=i) (by omega),Qj (l:=l) (i:=3) (by omega)]
  ·rw [Vp h3,show i=3 by omega]
theorem Qgy {most:Int} {l:List RawInt} {z:Int} (hm:0<=most) (h:z∈Gf most l):-most<=z/\z<=most:=by
 obtain ⟨a,_,rfl⟩:=Zc.1 h;exact Qcb hm a
theorem Qmj {most:Int} (hm:0<=most/\most<=999) (x y:List RawInt) (d:RawInt):Cs 10 3 (Qdl most x y d):=by
 have key:∀ z:Int,-999<=z/\z<=999->Uh z<=10:=λz h=>Rl.2 (by omega)
 refine ⟨λz hz=>?_,λz hz=>?_,?_,Qgx _ _,Qgx _ _⟩
 ·have:=Qgy hm.1 hz; exact key _ (by omega)
 ·have:=Qgy hm.1 hz; exact key _ (by omega)
 ·have:=Qcb (most:=3) (by decide) d;show Uh (Ht 3 d)<=10;exact key _ (by omega)
def To (n:Nat):List Pt->List Pt->List Pt
 | out,[]=>out
 | out,p::l=>if out.length<n then (if out.any (λx=>decide (x.id=p.id))=true then To n out l else To n (out++[p]) l) else out
theorem A6 {n:Nat}:∀ (l out:List Pt) (p:Pt),(To n out l).length<n->(To n out l).any (λx=>decide (x.id=p.id))=true->To n out (l++[p])=To n out l
 |
  [],out,p,h,ha=>by
  simp only [To] at h ha;show To n out [p]=out;simp only [To];rw [if_pos h,if_pos ha]
 |
  x::l,out,p,h,ha=>by
  show To n out (x::(l++[p]))=To n out (x::l);simp only [To] at h ha ⊢
  split
  ·rename_i h0;rw [if_pos h0] at h ha
   split
   ·rename_i h1;rw [if_pos h1] at h ha;exact A6 l out p h ha
   ·rename_i h1;rw [if_neg h1] at h ha;exact A6 l _ p h ha
  ·rfl
theorem L9 {n:Nat}:∀ (l out:List Pt) (p:Pt),(To n out l).length<n->(To n out l).any (λx=>decide (x.id=p.id))=false->To n out (l++[p])=To n out l++[p]
 |
  [],out,p,h,ha=>by
  simp only [To] at h ha;show To n out [p]=out++[p];simp only [To];rw [if_pos h,if_neg (by rw [ha]; simp)]
 |
  x::l,out,p,h,ha=>by
  show To n out (x::(l++[p]))=To n out (x::l)++[p];simp only [To] at h ha ⊢
  split
  ·rename_i h0;rw [if_pos h0] at h ha
   split
   ·rename_i h1;rw [if_pos h1] at h ha;exact L9 l out p h ha
   ·rename_i h1;rw [if_neg h1] at h ha;exact L9 l _ p h ha
  ·rename_i h0;rw [if_neg h0] at h;omega
theorem Qfk {n:Nat}:∀ (l m out:List Pt),n<=(To n out l).length->To n out (l++m)=To n out l
 |
  [],m,out,h=>by
  simp only [To] at h;show To n out m=out
  match m with
  | []=>rfl
  | p::m=>simp only [To]; rw [if_neg (by omega)]
 |
  x::l,m,out,h=>by
  show To n out (x::(l++m))=To n out (x::l);simp only [To] at h ⊢
  split
  ·rename_i h0;rw [if_pos h0] at h
   split
   ·rename_i h1;rw [if_pos h1] at h;exact Qfk l m out h
   ·rename_i h1;rw [if_neg h1] at h;exact Qfk l m _ h
  ·rfl
theorem I8 {n:Nat}:∀ (l out:List Pt),out.length<=n->(To n out l).length<=n
 | [],out,h=>h
 |
  x::l,out,h=>by
  simp only [To]
  split
  ·split
   ·exact I8 l out h
   ·exact I8 l _ (by rw [Q5]; show _+1<=_; omega)
  ·exact h
theorem Qdf {n:Nat}:∀ (l out:List Pt) {p:Pt},p∈To n out l->p∈out\/p∈l
 | [],out,p,h=>.inl h
 |
  x::l,out,p,h=>by
  simp only [To] at h
  split at h
  ·split at h
   ·rcases Qdf l out h with h | h
    ·exact .inl h
    ·exact .inr (Qi _ h)
   ·rcases Qdf l _ h with h | h
    ·rcases Qx.1 h with h | h
     ·exact .inl h
     ·exact .inr (by rw [Qm.1 h]; exact Qt ..)
    ·exact .inr (Qi _ h)
  ·exact .inl h
def Qf3 (n:Nat) (most:Int) (zs:List RawPt):List Pt:=To n [] (zs.map (Qaw most))
def Pt.nrm (p:Pt):Pt:=⟨p.c.norm,p.id⟩
end Orr
namespace Orr
def Hz (l:List Pt):Prop:=l.Pairwise λa b=>a.id<b.id
theorem Zeh (id:Int):has [] id=false:=rfl
theorem Qsr (p:Pt) (l:List Pt) (id:Int):has (p::l) id=if p.id<id then has l id else decide (p.id=id):=by
 by_cases h:p.id<id
 ·rw [if_pos h]; unfold has; simp only [Lq]; rw [if_pos h]; simp
 ·rw [if_neg h]; unfold has; simp only [Lq]; rw [if_neg h]; simp
theorem Q98 (p:Pt) (l:List Pt) (q:Pt):put (p::l) q=if p.id<q.id then p::put l q else q::p::l:=by
 unfold put;simp only [Lq]
 split <;> simp
theorem Qpl:∀ {l:List Pt} {id:Int},Hz l->(has l id=true↔∃ p∈l,p.id=id)
 | [],id,_=>by simp [Zeh]
 |
  p::l,id,h=>by
  have h1:=Z8.1 h;rw [Qsr]
  split
  ·rename_i hlt;rw [Qpl h1.2];constructor
   ·rintro ⟨x,hx,e⟩; exact ⟨x,Qi _ hx,e⟩
   ·rintro ⟨x,hx,e⟩
    rcases Qo.1 hx with rfl | hx
    ·omega
    ·exact ⟨x,hx,e⟩
  ·rename_i hge;rw [decide_eq_true_iff];constructor
   ·intro e; exact ⟨p,Qt ..,e⟩
   ·rintro ⟨x,hx,e⟩
    rcases Qo.1 hx with rfl | hx
    ·exact e
    ·have:=h1.1 x hx; omega
theorem Qk2:∀ {l:List Pt} {q:Pt},Hz l->has l q.id=false->Hz (put l q)
 | [],q,_,_=>by simp [put,Lq,Hz]
 |
  p::l,q,h,hn=>by
  have h1:=Z8.1 h;rw [Qsr] at hn;rw [Q98]
  split
  ·rename_i hlt;rw [if_pos hlt] at hn;refine Z8.2 ⟨λx hx=>?_,Qk2 h1.2 hn⟩;rcases Q1l hx with rfl | hx
   ·exact hlt
   ·exact h1.1 x hx
  ·rename_i hge;rw [if_neg hge,decide_eq_false_iff_not] at hn;refine Z8.2 ⟨λx hx=>?_,h⟩;rcases Qo.1 hx with rfl | hx
   ·omega
   ·have:=h1.1 x hx; omega
theorem Q0s {l:List Pt} {q p:Pt} (h:p=q\/p∈l):p∈put l q:=by
 unfold put;rcases h with rfl | h
 ·simp
 ·rw [<-Za (Lq l q.id) l] at h;simp only [Qx,Qo] at h ⊢;rcases h with h | h
  ·exact .inl h
  ·exact .inr (.inr h)
theorem Q96 {l:List Pt} {q:Pt} (h:l.length<6):Ds l q=if has l q.id=true then 6 else 0:=by
 unfold Ds
 split
 ·rfl
 ·rw [if_neg (by omega)]
theorem Qnl:∀ (qs acc:List Pt),Hz acc->acc.length+qs.length<=6 ->
 ((Rm acc qs).2=0/\Hz (Rm acc qs).1/\(Rm acc qs).1.length=acc.length+qs.length/\qs.Pairwise (λa b=>a.id≠b.id)/\∀ q∈qs,∀ p∈acc,p.id≠q.id) \/
 ((Rm acc qs).2=6/\¬(qs.Pairwise (λa b=>a.id≠b.id)/\∀ q∈qs,∀ p∈acc,p.id≠q.id))
 | [],acc,hs,_=>.inl ⟨rfl,hs,rfl,List.Pairwise.nil,λ_ h=>absurd h (by simp)⟩
 |
  q::qs,acc,hs,hl=>by
  simp only [Q7] at hl;have he:=Q96 (l:=acc) (q:=q) (by omega);simp only [Rm];cases hh:has acc q.id with
  |
   true =>
   rw [hh,if_pos rfl] at he;rw [he,if_neg (by decide)];obtain ⟨p,hp,e⟩:=(Qpl hs).1 hh;exact .inr ⟨rfl,λh=>h.2 q (Qt ..) p hp e⟩
  |
   false =>
   rw [hh,if_neg (by decide)] at he;rw [he,if_pos rfl];have hno:∀ p∈acc,p.id≠q.id:=λp hp e=>by
    have:=(Qpl hs).2 ⟨p,hp,e⟩;rw [hh] at this; cases this
   have hpl:=Q1k acc q;rcases Qnl qs (put acc q) (Qk2 hs hh) (by omega) with ⟨h1,h2,h3,h4,h5⟩ | ⟨h1,h2⟩
   ·refine .inl ⟨h1,h2,by simp only [Q7]; omega,Z8.2 ⟨λx hx=>h5 x hx q (Q0s (.inl rfl)),h4⟩,λx hx p hp=>?_⟩;rcases Qo.1 hx with rfl | hx
    ·exact hno p hp
    ·exact h5 x hx p (Q0s (.inr hp))
   ·refine .inr ⟨h1,λh=>h2 ⟨(Z8.1 h.1).2,λx hx p hp=>?_⟩⟩;rcases Q1l hp with rfl | hp
    ·exact (Z8.1 h.1).1 x hx
    ·exact h.2 x (Qi _ hx) p hp
theorem Q3z {qs:List Pt} (hl:qs.length<=6) :
 ((Rm [] qs).2=0/\Hz (Rm [] qs).1/\(Rm [] qs).1.length=qs.length/\qs.Pairwise (λa b=>a.id≠b.id))\/((Rm [] qs).2=6/\¬qs.Pairwise (λa b=>a.id≠b.id)):=by
 rcases Qnl qs [] List.Pairwise.nil (by simpa using hl) with ⟨h1,h2,h3,h4,_⟩ | ⟨h1,h2⟩
 ·exact .inl ⟨h1,h2,by simpa using h3,h4⟩
 ·exact .inr ⟨h1,λh=>h2 ⟨h,λ_ _ _ hp=>absurd hp (by simp)⟩⟩
end Orr
namespace Orq
open Orr Go
theorem Zmh {a b c:Tm} (hb:Cut (Uq b)) (hc:Cut (Uq c)) (h:Bv a b) (h':Bv b c):Bv a c:=by
 obtain ⟨q,q1,q2⟩:=h;obtain ⟨r,r1,r2⟩:=h';exact ⟨q,q1,hc.mono' (hb.lt q2 r1) (by omega)⟩
theorem Qwu {a b:Tm} (ha:Cut (Uq a)) (hb:Cut (Uq b)) (h:¬Bv b a):Leq a (Uq b):=λq hq=>by
 rcases ha.val q with e | e | e
 ·exact absurd ⟨q,hq,e⟩ h
 ·obtain ⟨r,r1,r2⟩:=hb.dn q hq;exact absurd ⟨r,r2,ha.mono' r1 (by omega)⟩ h
 ·exact e
theorem Q0j {a b c:Tm} (_:Cut (Uq a)) (hb:Cut (Uq b)) (hc:Cut (Uq c)) (h:Bv a b) (h':¬Bv c b):Bv a c:=by
 obtain ⟨q,q1,q2⟩:=h;refine ⟨q,q1,?_⟩;have hl:=Qwu hb hc h';rcases hc.val q with e | e | e
 ·exact e
 ·obtain ⟨r,r1,r2⟩:=hb.up q q2;have h1:=hc.mono q r r1 (by omega);have:=hl r h1;omega
 ·have:=hl q e; omega
theorem Zjs {a b:Tm} (ha:Cut (Uq a)) (hb:Cut (Uq b)) (h:Bv a b):¬Bv b a:=λh'=>Oj ha hb h h'
theorem Qth {p:List Int} {a b:Tm} {o:Option Tm} (ha:Cut (Uq a)) (hb:Cut (Uq b)) (hab:¬Bv b a) (h:B8 p a o) (ho:∀ t,o=some t->Bv b t):B8 p b o:=by
 have hl:=Qwu ha hb hab;cases o with
 |
  none =>
  rcases h with h | ⟨s,s0,h⟩
  ·exact .inl h
  ·exact .inr ⟨s,s0,λc hc hbc=>h c hc λq hq=>hl q (hbc q hq)⟩
 |
  some t =>
  obtain ⟨h1,h2,_,s,s0,h4,h5⟩:=h;exact ⟨h1,h2,ho t rfl,s,s0,λc hc hbc hm=>h4 c hc (λq hq=>hl q (hbc q hq)) hm,h5⟩
theorem Qm6 {p:List Int} {a b:Tm} {o:Option Tm} (hp:Dp p) (ha:Va a) (hb:Va b) (hab:¬Bv b a) (h:B8 p a o) (ho:∀ t,o=some t->Bv b t):Bj (Pv b) p=Bj (Pv a) p:=by
 by_cases h0:p.length=0
 ·obtain rfl:=Qk h0; rfl
 obtain ⟨ra,_⟩:=Qz7 ha hp h0;obtain ⟨rb,_⟩:=Qz7 hb hp h0;have hl:=Qwu ha.cut hb.cut hab;cases o with
 |
  none =>
  rcases h with h | ⟨s,s0,h⟩
  ·exact absurd (by rw [h]; rfl) h0
  ·exact (Q1u rb (h _ hb.cut hl)).trans (Q1u ra (h _ ha.cut λ_ h=>h)).symm
 |
  some t =>
  obtain ⟨h1,h2,h3,s,s0,h4,h5⟩:=h;exact (Q1u rb (h4 _ hb.cut hl (ho t rfl))).trans (Q1u ra (h4 _ ha.cut (λ_ h=>h) h3)).symm
theorem Quo (t q:Rat):Uq (tq t) q=Fy t q:=Ld (t:=tq t) rfl q
theorem Qja {a:Tm} {t:Rat} (ha:Cut (Uq a)):0<Uq a t↔Bv (tq t) a:=by
 constructor
 ·intro h;have h1:Uq a t=1:=by rcases ha.val t with e | e | e <;> omega
  obtain ⟨r,r1,r2⟩:=ha.up t h1;exact ⟨r,by rw [Quo]; rcases Bf t r with ⟨e,e'⟩ | ⟨e,e'⟩ | ⟨e,e'⟩ <;> first | exact e | (exfalso; grind),r2⟩
 ·rintro ⟨q,q1,q2⟩
  rw [Quo] at q1;have:t<q:=by rcases Bf t q with ⟨e,e'⟩ | ⟨e,e'⟩ | ⟨e,e'⟩ <;> first | exact e' | omega
  have:=ha.mono' this (by omega);omega
open Classical in
noncomputable def mu (T:List Tm) (a:Tm):Nat:=(T.filter λt=>decide (Bv a t)).length
theorem Qmu {α:Type} {p q:α->Bool} (h:∀ x,p x=true->q x=true):∀ l:List α,(l.filter p).length<=(l.filter q).length
 | []=>Qn _
 |
  x::l=>by
  have ih:=Qmu h l;by_cases hp:p x=true
  ·rw [Jc hp,Jc (h x hp)]; simp; exact ih
  ·rw [Yj hp];by_cases hq:q x=true
   ·rw [Jc hq]; simp; omega
   ·rw [Yj hq]; exact ih
theorem Qmv {α:Type} {p q:α->Bool} (h:∀ x,p x=true->q x=true) {y:α} (hp:p y=false) (hq:q y=true):∀ {l:List α},y∈l->(l.filter p).length<(l.filter q).length
 | [],hy=>by cases hy
 |
  x::l,hy=>by
  rcases Qo.1 hy with rfl | hy
  ·rw [Yj (by simp [hp]),Jc hq];have:=Qmu h l;simp; omega
  ·have ih:=Qmv h hp hq hy;by_cases hp:p x=true
   ·rw [Jc hp,Jc (h x hp)]; simp; exact ih
   ·rw [Yj hp];by_cases hq:q x=true
    ·rw [Jc hq]; simp; omega
    ·rw [Yj hq]; exact ih
open Classical in
theorem Zhr {T:List Tm} {a b:Tm} (ha:Cut (Uq a)) (hb:Cut (Uq b)) (hT:∀ t∈T,Cut (Uq t)) (h:Bv a b) (hm:b∈T):mu T b<mu T a:=by
 have key:∀ l:List Tm,(∀ t∈l,Cut (Uq t))->l.filter (λt=>decide (Bv b t))=l.filter (λt=>decide (Cut (Uq t)/\Bv b t)):=λl hl=>List.filter_congr λx hx=>by simp [hl x hx]
 have key2:∀ l:List Tm,(∀ t∈l,Cut (Uq t))->l.filter (λt=>decide (Bv a t))=l.filter (λt=>decide (Cut (Uq t)/\Bv a t)):=λl hl=>List.filter_congr λx hx=>by simp [hl x hx]
 unfold mu;rw [key T hT,key2 T hT];refine Qmv (λx hx=>?_) (y:=b) ?_ ?_ hm
 ·have hx:=of_decide_eq_true hx;exact decide_eq_true ⟨hx.1,Zmh hb hx.1 h hx.2⟩
 ·exact decide_eq_false λhx=>Oj hb hb hx.2 hx.2
 ·exact decide_eq_true ⟨hb,h⟩
def tms (p:List Int):List Tm:=(Qcr p).getD []
structure KInv (c:Cr):Prop where
 ok:CrOk c
 k:∀ w∈c.l,w.known=true->B8 w.c.p c.now w.fails/\∀ t,w.fails=some t->t∈tms w.c.p
theorem Qw3 {p:List Int} (h:Cp p) {a:Tm} (ha:Va a):∃ r,Qg0 p a=some r/\B8 p a r/\∀ t,r=some t->t∈tms p:=by
 obtain ⟨l,l1,_,_,l3⟩:=Qaf h;obtain ⟨r,r1,r2,r3⟩:=l3 a ha;refine ⟨r,?_,r2,λt ht=>by unfold tms; rw [l1]; exact r3 t ht⟩;unfold Qg0; rw [l1]; exact r1
theorem Zkt {p:List Int} (h:Cp p):∀ t∈tms p,Va t:=by
 obtain ⟨l,l1,_,l2,_⟩:=Qaf h;unfold tms; rw [l1]; exact l2
theorem Q0n {now:Tm} (hn:Va now):∀ {l:List Wt},(∀ w∈l,WtOk w)->(∀ w∈l,w.known=true->B8 w.c.p now w.fails/\∀ t,w.fails=some t->t∈tms w.c.p) ->
 ∃ ws,Oi now l=some ws/\ws.map (·.c)=l.map (·.c)/\∀ w∈ws,w.known=true/\B8 w.c.p now w.fails/\∀ t,w.fails=some t->t∈tms w.c.p
 | [],_,_=>⟨[],rfl,rfl,λw hw=>by cases hw⟩
 |
  w::l,h,h'=>by
  obtain ⟨ws,w1,w2,w3⟩:=Q0n hn (λv hv=>h v (Qi _ hv)) (λv hv=>h' v (Qi _ hv));by_cases hk:w.known=true
  ·refine ⟨w::ws,by simp only [Oi,hk,if_true,w1]; rfl,by simp [w2],λv hv=>?_⟩;rcases Qo.1 hv with rfl | hv
   ·exact ⟨hk,h' v (by simp) hk⟩
   ·exact w3 v hv
  ·obtain ⟨r,r1,r2,r3⟩:=Qw3 (h w (by simp)).p hn;refine ⟨⟨w.c,true,r⟩::ws,by simp only [Oi]; rw [if_neg hk,r1,w1]; rfl,by simp [w2],λv hv=>?_⟩;rcases Qo.1 hv with rfl | hv
   ·exact ⟨rfl,r2,r3⟩
   ·exact w3 v hv
theorem Q0f {at_:Tm} (ha:Va at_) {x:Ct}:∀ {l:List Wt},(∀ w∈l,WtOk w)->∃ w,Dk l x at_=some w/\w.c=x
 | [],_=>⟨fresh x,rfl,rfl⟩
 |
  v::l,h=>by
  obtain ⟨w,w1,w2⟩:=Q0f ha (x:=x) λv hv=>h v (Qi _ hv)
  simp only [Dk]
  split
  ·cases hf:v.fails with
   | none=>exact ⟨_,rfl,rfl⟩
   |
    some t =>
    obtain ⟨c,c1,_⟩:=Qc4 ((h v (by simp)).f t hf) ha;dsimp only;rw [c1];show ∃ w,(if 0<c then some ⟨x,true,some t⟩ else Dk l x at_)=some w/\w.c=x
    split
    ·exact ⟨_,rfl,rfl⟩
    ·exact ⟨w,w1,w2⟩
  ·exact ⟨w,w1,w2⟩
theorem Qke {at_:Tm} (ha:Va at_) {ol:List Wt} (ho:∀ w∈ol,WtOk w):∀ l:List Ct,∃ ws,Lm ol at_ l=some ws/\ws.map (·.c)=l
 | []=>⟨[],rfl,rfl⟩
 |
  x::l=>by
  obtain ⟨w,w1,w2⟩:=Q0f ha (x:=x) ho;obtain ⟨ws,s1,s2⟩:=Qke ha ho l;exact ⟨w::ws,by simp only [Lm,w1,s1]; rfl,by simp [w2,s2]⟩
theorem Q3o {out:List Ct} {c x:Ct}:x∈Qb8 out c↔x=c\/x∈out:=by
 have h:x∈out↔x∈out.take (O1 out c out.length)\/x∈out.drop (O1 out c out.length):=by
  rw [<-Qx,Za]
 simp only [Qb8,Qx,Qo,h];constructor
 ·rintro (h | h | h)
  ·exact .inr (.inl h)
  ·exact .inl h
  ·exact .inr (.inr h)
 ·rintro (h | h | h)
  ·exact .inr (.inl h)
  ·exact .inl h
  ·exact .inr (.inr h)
theorem Qmy:∀ (l acc:List Ct) {y:Ct},y∈l.foldl Qb8 acc↔y∈l\/y∈acc
 | [],acc,y=>by simp
 |
  c::l,acc,y=>by
  simp only [Z3];rw [Qmy l,Q3o,Qo];constructor
  ·rintro (h | h | h)
   ·exact .inl (.inr h)
   ·exact .inl (.inl h)
   ·exact .inr h
  ·rintro ((h | h) | h)
   ·exact .inr (.inl h)
   ·exact .inl h
   ·exact .inr (.inr h)
theorem Qn5 {l:List Ct} {x:Ct}:x∈Uz l↔x∈l:=by unfold Uz; rw [Qmy]; simp
theorem Zjx {ws:List Wt} (hw:∀ w∈ws,WtOk w):∃ o,Qtg ws=some o/\match o with
 | none=>∀ w∈ws,w.fails=none
 | some a=>Va a/\(∃ w∈ws,w.fails=some a)/\∀ w∈ws,∀ t,w.fails=some t->¬Bv t a:=by
 have hv:∀ t∈ws.filterMap (·.fails),Va t:=λt ht=>by
  obtain ⟨w,w1,w2⟩:=Jk.1 ht;exact (hw w w1).f t w2
 unfold Qtg;cases hf:ws.filterMap (·.fails) with
 |
  nil =>
  refine ⟨none,rfl,λw h=>?_⟩;cases e:w.fails with
  | none=>rfl
  |
   some t =>
   have:t∈ws.filterMap (·.fails):=Jk.2 ⟨w,h,e⟩;rw [hf] at this; cases this
 |
  cons b l =>
  rw [hf] at hv;obtain ⟨m,m1,m2,m3⟩:=Qfr l b hv;refine ⟨some m,by show (A9 b l).map some=_; rw [m1]; rfl,hv m m2,?_,λw h t e=>?_⟩
  ·rw [<-hf] at m2;exact Jk.1 m2
  ·exact m3 t (by rw [<-hf]; exact Jk.2 ⟨w,h,e⟩)
theorem Ziy {t a:Tm} (ht:Va t) (ha:Va a) {c:Int} (h:Qe7 t a=some c) (h0:0<c):Bv a t:=by
 obtain ⟨c',c1,c2⟩:=Qc4 ht ha;rw [h] at c1; injection c1 with c1; subst c1;rcases c2 with ⟨e,_⟩ | ⟨e,_⟩ | ⟨_,e⟩
 ·omega
 ·omega
 ·exact e
theorem Zep {ol ws:List Wt} {now a:Tm} {l:List Ct} (hn:Va now) (ha:Va a) (hna:¬Bv a now) (ho:∀ w∈ol,WtOk w) (hk:∀ w∈ol,w.known=true->B8 w.c.p now w.fails/\∀ t,w.fails=some t->t∈tms w.c.p) (h:Lm ol a l=some ws) :
 ∀ w∈ws,w.known=true->B8 w.c.p a w.fails/\∀ t,w.fails=some t->t∈tms w.c.p:=by
 obtain ⟨h1,h2⟩:=Qdk h;intro w hw hkn;obtain ⟨i,hi⟩:=Jn hw;have hil:i<l.length:=by rw [<-h1]; exact (Qc.1 hi).1
 obtain ⟨v,h3,h4⟩:=h2 i _ (Qe hil);rw [hi] at h4; injection h4 with h4; subst h4;rcases Qkd h3 with e | ⟨v,v1,v2,v3,e,v5⟩
 ·rw [e] at hkn; cases hkn
 ·obtain ⟨k1,k2⟩:=hk v v1 v2;rw [e];show B8 (l[i]).p a v.fails/\∀ t,v.fails=some t->t∈tms (l[i]).p;rw [<-v3];refine ⟨Qth hn.cut ha.cut hna k1 λt ht=>?_,k2⟩;obtain ⟨c,c1,c2⟩:=v5 t ht;exact Ziy ((ho v v1).f t ht) ha c1 c2
structure Stab {β:Type} (Bc:Tm->List Ct) (Br:Tm->β):Prop where
 ok:BuildOk Bc
 fin:∃ Ps:List (List Int),(∀ p∈Ps,Cp p)/\∀ a,Va a->∀ x∈Bc a,x.p∈Ps
 st:∀ a b,Va a->Va b->(∀ x∈Bc a,Bj (Pv b) x.p=Bj (Pv a) x.p)->Bc b=Bc a/\Br b=Br a
structure KSt {β:Type} (Bc:Tm->List Ct) (Br:Tm->β) (c:Cr) (r1:β):Prop where
 inv:KInv c
 cs:c.l.map (·.c)=Uz (Bc c.now)
 r:r1=Br c.now
inductive Evs (Bc:Tm->List Ct) (t:Rat):Tm->List Tm->Prop
 | nil {a:Tm} (h:∀ x∈Bc a,∃ o,B8 x.p a o/\∀ u,o=some u->Bv (tq t) u):Evs Bc t a []
 | cons {a e:Tm} {E:List Tm} (he:Va e) (h1:Bv a e) (h2:¬Bv (tq t) e) (h3:∀ x∈Bc a,∃ o,B8 x.p a o/\∀ u,o=some u->¬Bv u e) (h4:∃ x∈Bc a,B8 x.p a (some e)) (h5:Evs Bc t e E):Evs Bc t a (e::E)
theorem Zl6 {β:Type} {Bc:Tm->List Ct} {Br:Tm->β} (S:Stab Bc Br) {t:Rat} (ht:Qs 400000 t) {Ps:List (List Int)} (hP:∀ p∈Ps,Cp p) (hPs:∀ a,Va a->∀ x∈Bc a,x.p∈Ps) :
 ∀ (m:Nat) (c:Cr) (r1:β) (n:Int),mu (Ps.flatMap tms) c.now<=m->KSt Bc Br c r1->¬Bv (tq t) c.now ->
 ∃ c' r' E,goF Bc Br t (m+1) c r1 n=some (c',r',n+(E.length:Nat))/\c'.now=tq t/\KSt Bc Br c' r'/\c'.ev=c.ev+(E.length:Nat)/\E.length<=m/\Evs Bc t c.now E:=by
 have hT:∀ t∈Ps.flatMap tms,Cut (Uq t):=λu hu=>by
  obtain ⟨p,p1,p2⟩:=Jl.1 hu;exact (Zkt (hP p p1) u p2).cut
 have hq:=Zky ht;intro m
 induction m with
 | zero=>?_
 | succ m ih=>?_
 all_goals
  intro c r1 n hm hS hnow;obtain ⟨⟨ok,kk⟩,hcs,hr⟩:=hS;obtain ⟨ws,w1,w2,w3⟩:=Q0n ok.n ok.l kk;have ok':=Qh1 ok w1;rw [hcs] at w2;have hc_w:∀ x∈Bc c.now,∃ w∈ws,w.c=x:=λx hx=>by
   have:x∈ws.map (·.c):=by rw [w2]; exact Qn5.2 hx
   exact Zc.1 this
  have hw_c:∀ w∈ws,w.c∈Bc c.now:=λw hw=>Qn5.1 (by rw [<-w2]; exact List.mem_map_of_mem hw)
  obtain ⟨o,o1,o2⟩:=Zjx ok'.l;have fin:(∀ w∈ws,∀ u,w.fails=some u->Bv (tq t) u)->KSt Bc Br ⟨tq t,ws,c.ev⟩ r1/\Evs Bc t c.now []:=λhall=>by
   have hg:∀ x∈Bc c.now,Bj (Pv (tq t)) x.p=Bj (Pv c.now) x.p:=λx hx=>by
    obtain ⟨w,hw,rfl⟩:=hc_w x hx;exact Qm6 (S.ok.p _ ok.n _ hx).dp ok.n hq hnow (w3 w hw).2.1 (hall w hw)
   obtain ⟨s1,s2⟩:=S.st _ _ ok.n hq hg;refine ⟨⟨⟨⟨hq,ok'.l,ok'.k⟩,λw hw _=>⟨Qth ok.n.cut hq.cut hnow (w3 w hw).2.1 (hall w hw),(w3 w hw).2.2⟩⟩,?_,?_⟩,.nil λx hx=>?_⟩
   ·show ws.map (·.c)=Uz (Bc (tq t)); rw [w2,s1]
   ·show r1=Br (tq t); rw [s2,hr]
   ·obtain ⟨w,hw,rfl⟩:=hc_w x hx;exact ⟨_,(w3 w hw).2.1,hall w hw⟩
 ·cases o with
  |
   none =>
   obtain ⟨f1,f2⟩:=fin λw hw u hu=>by rw [o2 w hw] at hu; cases hu
   exact ⟨_,_,[],by simp only [goF]; rw [w1]; simp only [Je]; rw [o1]; simp,rfl,f1,by simp,by simp,f2⟩
  |
   some a =>
   obtain ⟨va,⟨w,hw,hwa⟩,hmin⟩:=o2;by_cases h0:0<Uq a t
   ·obtain ⟨f1,f2⟩:=fin λv hv u hu=>by
     have hu':=(ok'.l v hv).f u hu;exact Q0j hq.cut va.cut hu'.cut ((Qja va.cut).1 h0) (hmin v hv u hu)
    exact ⟨_,_,[],by simp only [goF]; rw [w1]; simp only [Je]; rw [o1]; simp [h0],rfl,f1,by simp,by simp,f2⟩
   ·exfalso;obtain ⟨k1,k2,k3⟩:=w3 w hw;rw [hwa] at k2;have:a∈Ps.flatMap tms:=Jl.2 ⟨_,hPs _ ok.n _ (hw_c w hw),k3 a hwa⟩;have:=Zhr ok.n.cut va.cut hT k2.2.2.1 this;omega
 ·cases o with
  |
   none =>
   obtain ⟨f1,f2⟩:=fin λw hw u hu=>by rw [o2 w hw] at hu; cases hu
   exact ⟨_,_,[],by simp only [goF]; rw [w1]; simp only [Je]; rw [o1]; simp,rfl,f1,by simp,by simp,f2⟩
  |
   some a =>
   obtain ⟨va,⟨w,hw,hwa⟩,hmin⟩:=o2;by_cases h0:0<Uq a t
   ·obtain ⟨f1,f2⟩:=fin λv hv u hu=>by
     have hu':=(ok'.l v hv).f u hu;exact Q0j hq.cut va.cut hu'.cut ((Qja va.cut).1 h0) (hmin v hv u hu)
    exact ⟨_,_,[],by simp only [goF]; rw [w1]; simp only [Je]; rw [o1]; simp [h0],rfl,f1,by simp,by simp,f2⟩
   ·obtain ⟨k1,k2,k3⟩:=w3 w hw;rw [hwa] at k2;have hna:=Zjs ok.n.cut va.cut k2.2.2.1;have hmem:a∈Ps.flatMap tms:=Jl.2 ⟨_,hPs _ ok.n _ (hw_c w hw),k3 a hwa⟩;have hlt:=Zhr ok.n.cut va.cut hT k2.2.2.1 hmem;obtain ⟨w2',l1,l2⟩:=Qke va ok'.l (Uz (Bc a));have hl:=Zep ok.n va hna ok'.l (λv hv _=>(w3 v hv).2) l1;have hS':KSt Bc Br ⟨a,w2',c.ev+1⟩ (Br a):=⟨⟨Orr.lay_ok _ ok' va (S.ok.p a va) (S.ok.n a va) l1,hl⟩,l2,rfl⟩;obtain ⟨c',r',E,g1,g2,g3,g4,g5,g6⟩:=ih ⟨a,w2',c.ev+1⟩ (Br a) (n+1) (by show mu _ a<=m; omega) hS' (λh=>h0 ((Qja va.cut).2 h));refine ⟨c',r',a::E,?_,g2,g3,by rw [g4]; simp; omega,by simp; omega,.cons va k2.2.2.1 (λh=>h0 ((Qja va.cut).2 h)) (λx hx=>?_) ⟨w.c,hw_c w hw,k2⟩ g6⟩
    ·conv=>lhs; unfold goF
     rw [w1]; simp only [Je]; rw [o1]; simp only [Je]; rw [if_neg h0,l1]; simp only [Je];rw [g1]; simp; omega
    ·obtain ⟨v,hv,rfl⟩:=hc_w x hx;exact ⟨_,(w3 v hv).2.1,hmin v hv⟩
end Orq
namespace Orq
open Orr Go
section Srt
variable {α:Type} {lt:α->α->Bool} {R:α->α->Prop}
theorem Qnq {out:List α} {x:α}:∀ k,k<=out.length->(∀ j y,Mn lt out x k<=j->j<k->out[j]? = some y->lt x y=true)/\(0<Mn lt out x k->∃ y,out[Mn lt out x k-1]? = some y/\lt x y=false)
 | 0,_=>⟨λj y _ h=>by omega,λh=>by simp [Mn] at h⟩
 |
  k+1,hk=>by
  obtain ⟨y,hy⟩:=gxE (l:=out) (i:=k) (by omega);by_cases h:lt x y=true
  ·rw [Qqa hy h];obtain ⟨h1,h2⟩:=Qnq (out:=out) (x:=x) k (by omega);refine ⟨λj z a1 a2 a3=>?_,h2⟩;by_cases e:j=k
   ·subst e; rw [hy] at a3; injection a3 with a3; subst a3; exact h
   ·exact h1 j z a1 (by omega) a3
  ·have h:lt x y=false:=by simpa using h
   rw [Qkx hy h];exact ⟨λj z a1 a2 _=>by omega,λ_=>⟨y,by simpa using hy,h⟩⟩
theorem Zel (tr:∀ x y z,R x y->R y z->R x z) {out:List α} {x:α} (ho:out.Pairwise R) (h1:∀ y∈out,lt x y=true->R x y) (h2:∀ y∈out,lt x y=false->R y x):(Cg lt out x).Pairwise R:=by
 obtain ⟨s1,s2⟩:=Qnq (lt:=lt) (out:=out) (x:=x) out.length (Qn _);have hle:=Qp9 lt out x out.length;unfold Cg;obtain ⟨k,hk⟩:=nmE (Mn lt out x out.length);rw [<-hk] at s1 s2 hle ⊢;have hd:(out.take k++out.drop k).Pairwise R:=by rw [Za]; exact ho
 obtain ⟨d1,d2,d3⟩:=Yy.1 hd;have hR:∀ y∈out.drop k,R x y:=λy hy=>by
  obtain ⟨i,hi⟩:=Jn hy;rw [Z2] at hi;have:k+i<out.length:=(Qc.1 hi).1;exact h1 y (Qz hy) (s1 (k+i) y (by omega) this hi)
 have hL:∀ y∈out.take k,R y x:=λy hy=>by
  obtain ⟨i,hi⟩:=Jn hy;have hik:i<k:=by have:=(Qc.1 hi).1; simp at this; omega
  rw [List.getElem?_take_of_lt hik] at hi;obtain ⟨z,z1,z2⟩:=s2 (by omega);have hz:=h2 z (Qa z1) z2;by_cases e:i=k-1
  ·subst e; rw [hi] at z1; injection z1 with z1; subst z1; exact hz
  ·have hp:=Vz.1 ho i (k-1) (by omega) (by omega) (by omega);obtain ⟨_,e1⟩:=Qc.1 hi;obtain ⟨_,e2⟩:=Qc.1 z1;rw [e1,e2] at hp;exact tr _ _ _ hp hz
 refine Yy.2 ⟨d1,Z8.2 ⟨hR,d2⟩,λy hy z hz=>?_⟩;rcases Qo.1 hz with rfl | hz
 ·exact hL y hy
 ·exact d3 y hy z hz
theorem foldG_pw (tr:∀ x y z,R x y->R y z->R x z) {S:α->Prop} (h1:∀ x y,S x->S y->lt x y=true->R x y) {D:α->α->Prop} (h2:∀ x y,S x->S y->D y x->lt x y=false->R y x) :
 ∀ (l acc:List α),acc.Pairwise R->(∀ x∈acc,S x)->(∀ x∈l,S x)->l.Pairwise D->(∀ x∈acc,∀ y∈l,D x y)->(l.foldl (Cg lt) acc).Pairwise R
 | [],acc,ha,_,_,_,_=>ha
 |
  x::l,acc,ha,hs,hl,hd,hx=>by
  rw [Z8] at hd;refine foldG_pw tr h1 h2 l (Cg lt acc x) ?_ ?_ (λy hy=>hl y (Qi _ hy)) hd.2 ?_
  ·exact Zel tr ha (λy hy=>h1 x y (hl x (by simp)) (hs y hy)) (λy hy=>h2 x y (hl x (by simp)) (hs y hy) (hx y hy x (by simp)))
  ·intro y hy;rcases Qj7.1 hy with rfl | hy
   ·exact hl _ (by simp)
   ·exact hs y hy
  ·intro y hy z hz;rcases Qj7.1 hy with rfl | hy
   ·exact hd.1 z hz
   ·exact hx y hy z (Qi _ hz)
end Srt
def px (p:Pt) (q:Rat):Rat:=Uf p.c.x q / (p.c.d:Rat)
def py (p:Pt) (q:Rat):Rat:=Uf p.c.y q / (p.c.d:Rat)
end Orq
namespace Orr
open Go
section
variable {α:Type} {lt:α->α->Bool}
theorem Q3p (out:List α) (c:α):(Cg lt out c).Perm (c::out):=by
 unfold Cg;exact (Wn).trans (by rw [Za])
theorem Qju:∀ (l acc:List α),(l.foldl (Cg lt) acc).Perm (l++acc)
 | [],acc=>List.Perm.refl _
 |
  c::l,acc=>by
  simp only [Z3];exact (Qju l _).trans (((Q3p acc c).append_left l).trans Wn)
theorem Qx4 (l:List α):(Hy lt l).Perm l:=by
 have:=Qju (lt:=lt) l [];rwa [Xe] at this
end
def D5 (a b:Pt):Bool:=decide (a.id<b.id)
def Pt.m5 (p:Pt):Pt:=⟨p.c,p.id % 5⟩
def mix (O:List Pt) (i:Nat):List Pt:=(O.take i).map Pt.m5++O.drop i
theorem Q89 (O:List Pt):mix O 0=O:=by simp [mix]
theorem Qh2 (O:List Pt) (i:Nat):(mix O i).length=O.length:=by
 unfold mix; rw [List.length_append,List.length_map,List.length_take,List.length_drop]; omega
theorem Q0u {O:List Pt} {i:Nat} {p:Pt} (h:O[i]? = some p):(mix O i).set i p.m5=mix O (i+1):=by
 have hi:=(Qc.1 h).1;have hl:((O.take i).map Pt.m5).length=i:=by rw [Q6,Qp]; omega
 unfold mix;rw [List.set_append,if_neg (by omega),hl,Ys,Zx,h,Vb,Xx,Ze];congr 1;rw [Zj hi];have:O[i]=p:=by
  have:=(Qc.1 h).2;exact this
 rfl
theorem Zey {O:List Pt} {i:Nat} {p:Pt} (h:O[i]? = some p):(mix O i)[i]? = some p:=by
 have hi:=(Qc.1 h).1;have hl:((O.take i).map Pt.m5).length=i:=by rw [Q6,Qp]; omega
 unfold mix;rw [Xc (by omega),hl,Ys,Z2];exact h
theorem Q0t {O:List Pt} {i k:Nat} {p:Pt} (hk:k<i) (h:O[k]? = some p):(mix O i)[k]? = some p.m5:=by
 have hi:=(Qc.1 h).1;unfold mix;rw [Zk (by rw [Q6,Qp]; omega),Q8,Xm,if_pos hk,h]; rfl
theorem Qs9 {O:List Pt} {e i:Nat} (h:e<=i) (hi:i<=O.length):(mix O i).take e=(O.take e).map Pt.m5:=by
 unfold mix;rw [Jj (by rw [Q6,Qp]; omega),<-Ye,K6,Zr h]
def Rw (O:List Pt) (e:Nat):List Pt:=(O.take e).map Pt.m5
def Qbf (O:List Pt) (e:Nat):List Pt:=(Rw O e).map Pt.nrm
def Lv (l:List Pt):Prop:=l.Pairwise λa b=>a.id≠b.id
theorem Q28 {O:List Pt} {i:Nat} {p:Pt} (h:O[i]? = some p):Rw O (i+1)=Rw O i++[p.m5]:=by
 unfold Rw; rw [List.take_succ,h,Option.toList_some,List.map_append]; rfl
theorem Q3e {O:List Pt} {i:Nat} {p:Pt} (h:O[i]? = some p) (hd:Lv (Rw O i)) (hn:∀ k x,k<i->O[k]? = some x->x.m5.id≠p.m5.id):Lv (Rw O (i+1)):=by
 rw [Q28 h];refine Yy.2 ⟨hd,List.pairwise_singleton _ _,λa ha b hb=>?_⟩;rw [Qm.1 hb];obtain ⟨x,hx,rfl⟩:=Zc.1 ha;obtain ⟨k,hk,rfl⟩:=List.mem_iff_getElem.1 hx;rw [Qp] at hk;rw [List.getElem_take];exact hn k _ (by omega) (Qe (by omega))
theorem Qfc {O:List Pt} {e:Nat} (h:Lv (Rw O e)):Lv (Qbf O e):=List.Pairwise.map Pt.nrm (λ_ _ h=>h) h
theorem Qgz (O:List Pt) (e:Nat):(Qbf O e).length=(Rw O e).length:=by unfold Qbf; rw [List.length_map]
theorem Qc7 {O:List Pt} {e:Nat} (h:e<=O.length):(Rw O e).length=e:=by unfold Rw; rw [List.length_map,List.length_take]; omega
def Q19 (p:Pt):Prop:=Cs 10 3 p.c
theorem Qnf {n:Nat} {most:Int} (hm:0≤most/\most≤999) {l:List RawPt}:∀ p∈Qf3 n most l,Q19 p:=λp hp=>by
 rcases Qdf _ _ hp with h | h
 ·cases h
 ·obtain ⟨z,_,rfl⟩:=Zc.1 h;exact Qmj hm _ _ _
theorem Qr5 {O:List Pt} (h:∀ p∈O,Q19 p) (e:Nat):∀ p∈Rw O e,Q19 p:=λp hp=>by
 obtain ⟨x,hx,rfl⟩:=Zc.1 hp;exact h x (Ql hx)
theorem Qzr {O:List Pt} (h:∀ p∈O,Q19 p) (e:Nat):∀ p∈Qbf O e,Nml p.c/\Cs 10 3 p.c:=λp hp=>by
 obtain ⟨x,hx,rfl⟩:=Zc.1 hp;exact ⟨x.c.nml,(Qr5 h e x hx).norm (by decide)⟩
theorem Qnc {s n:Nat}:∀ {l:List Pt},(∀ p∈l,Cs s n p.c)->IsPts s n (l.map Fw) (l.map Pt.nrm)
 | [],_=>trivial
 | p::l,h=>⟨⟨p.c.x.map Fi,p.c.y.map Fi,_,_,_,_,p.c.d,rfl,U7 _,U7 _,W9 _,h p (Qt ..),rfl⟩,Qnc λx hx=>h x (Qi _ hx)⟩
theorem Qn6:∀ {l m:List Pt},Hz l->Hz m->(∀ x,x∈l↔x∈m)->l=m
 | [],[],_,_,_=>rfl
 | [],b::m,_,_,h=>absurd ((h b).2 (Qt ..)) (by simp)
 | a::l,[],_,_,h=>absurd ((h a).1 (Qt ..)) (by simp)
 |
  a::l,b::m,h1,h2,h=>by
  have h1':=Z8.1 h1;have h2':=Z8.1 h2;have hab:a=b:=by
   rcases Qo.1 ((h a).1 (Qt ..)) with e | e
   ·exact e
   ·rcases Qo.1 ((h b).2 (Qt ..)) with e2 | e2
    ·exact e2.symm
    ·have:=h2'.1 a e; have:=h1'.1 b e2; omega
  subst hab;congr 1;refine Qn6 h1'.2 h2'.2 λx=>⟨λhx=>?_,λhx=>?_⟩
  ·rcases Qo.1 ((h x).1 (Qi _ hx)) with e | e
   ·have:=h1'.1 x hx; rw [e] at this; omega
   ·exact e
  ·rcases Qo.1 ((h x).2 (Qi _ hx)) with e | e
   ·have:=h2'.1 x hx; rw [e] at this; omega
   ·exact e
theorem Qef {l:List Pt} (h:Lv l):Hz (Hy D5 l) :=
 Orq.foldG_pw (R:=λa b:Pt=>a.id<b.id) (S:=λ_=>True) (D:=λa b:Pt=>a.id≠b.id) (λx y z h1 h2=>Int.lt_trans h1 h2) (λx y _ _ h=>of_decide_eq_true h) (λx y _ _ h1 h=>by have:=of_decide_eq_false h; omega) l [] .nil (λx hx=>by cases hx) (λ_ _=>trivial) h (λx hx=>by cases hx)
theorem Q99 (l:List Pt) (q:Pt):(put l q).Perm (q::l):=by
 unfold put;exact List.perm_middle.trans (by rw [Za])
theorem Qnm:∀ (qs acc:List Pt),(Rm acc qs).2=0->(Rm acc qs).1.Perm (qs++acc)
 | [],acc,_=>List.Perm.refl _
 |
  q::qs,acc,h=>by
  simp only [Rm] at h ⊢
  split
  ·rename_i h0;rw [if_pos h0] at h;refine (Qnm qs _ h).trans ?_;exact ((Q99 acc q).append_left qs).trans Wn
  ·rename_i h0;rw [if_neg h0] at h;exact absurd h h0
theorem Q30 {qs:List Pt} (hl:qs.length<=6) (hd:Lv qs):(Rm [] qs).2=0/\(Rm [] qs).1=Hy D5 qs:=by
 rcases Q3z hl with ⟨h1,h2,_,_⟩ | ⟨_,h2⟩
 ·refine ⟨h1,Qn6 h2 (Qef hd) λx=>?_⟩;have h3:=Qnm qs [] h1;rw [Xe] at h3;rw [h3.mem_iff,Aj]
 ·exact absurd hd h2
end Orr
namespace Orr
open Go Go.Proofs
set_option maxRecDepth 10000
theorem Zek {α:Type} {f:α->List LV} {lt:α->α->Bool} {O:List α} {c:α} {k:Nat} (hp:Mn lt O c O.length=k):(O.map f).take k++(f c::(O.map f).drop k)=(Cg lt O c).map f:=by
 simp [Cg,hp,Ye,Wd]
theorem Qsv {α:Type} {f:α->List LV} {lt:α->α->Bool} {O:List α} {c:α} {k:Nat} (hp:Mn lt O c O.length=k):(O.map f).take k++([f c]++((O.map f).drop k).take ((O.map f).length-k))=(Cg lt O c).map f:=by
 rw [Qj (l:=(O.map f).drop k) (by simp)];exact Zek hp
theorem Qsw {lt:Pt->Pt->Bool} {O:List Pt} {c:Pt} {k:Nat} (hp:Mn lt O c O.length=k):(Ux O).take k++([M5 c]++((Ux O).drop k).take ((Ux O).length-k))=Ux (Cg lt O c):=Qsv hp
theorem Rv (l:List Pt):(Ux l).length=l.length:=by simp [Ux]
theorem Qqm (l:List Pt):∀ c∈Ux l,c.length=7:=λc hc=>by obtain ⟨x,_,rfl⟩:=Zc.1 hc; rfl
theorem H5 {l:List Pt} {i:Nat} {c:Pt} (h:l[i]? = some c):(Ux l)[i]? = some (M5 c):=Ff h
theorem Qze {l:List Pt} (hn:l.length<=1000000):W8 Tryz.prog 44 [.one (.row (Ux l))] [.one (.row (Ux (Hy D5 l)))]:=by
 have hcl:=Rv l;refine Fv Tryz.func44 rfl ?_;refine go tt [.o 3 61 7] rfl trivial ?_;refine lp (S:=Nat) 1 (λL1 i=>(8,.v (.one (.int .i64 (i:Int))))::(3,.v (.one (.orow 0 7 none)))::L1) (λi=>[.row false 61 7 (Ux (Hy D5 (l.take i)))]) (λi=>l.length-i) (λi=>i<=l.length) 0 (Qg _) rfl (λ_ _=>rfl) rfl λi hi=>?_
 by_cases hlt:i<l.length
 ·obtain ⟨c,hc⟩:=gxE (l:=l) (i:=i) hlt;have hst:Hy D5 (l.take (i+1))=Cg D5 (Hy D5 (l.take i)) c:=Qlc hc;obtain ⟨O,hO⟩:=nmE (Hy D5 (l.take i));have hOl:O.length=i:=by rw [hO,Nn,Qp]; omega
  have hrl:=Rv O;rw [<-hO] at hst ⊢;refine go tt [.t (decide_eq_true (by omega))] rfl trivial ?_;refine lp (S:=Nat) 1 (λL1 k=>(5,.v (.one (.int .i64 (k:Int))))::L1) (λ_=>[.row false 61 7 (Ux O)]) id (λk=>k<=O.length/\Mn D5 O c k=Mn D5 O c O.length) (Ux O).length ⟨by omega,by rw [hrl]⟩ rfl (λ_ _=>rfl) rfl λk ⟨hk,hp⟩=>?_
  have h7:=Qqm O;have h7z:∀ y∈[M5 c],y.length=7:=λy hy=>by rw [Qm.1 hy]; rfl
  cases k with
  |
   zero =>
   have hp:Mn D5 O c O.length=0:=by rw [<-hp]; rfl
   refine go tt [.g 15 false (by simp),.f rfl,.i 0,.x (H5 hc),.lo,.i 0,.s (sz:=7) (λy hy=>h7 y (Ql hy)),.s (sz:=7) (λy hy=>(Qx.1 hy).elim (h7z y) λhy=>h7 y (Ql hy))] rfl (by simp [W6]; omega) ?_;exact rd (i+1) (by omega) hlt (by rw [hst,<-Qsw hp]; rfl)
  |
   succ k =>
   obtain ⟨x,hx⟩:=gxE (l:=O) (i:=k) (by omega);by_cases hlc:D5 c x=true
   ·refine go tt [.g 15 true (by simp),.x (H5 hc),.r 23 (eI (b:=(k:Int)) (by simp)),.i k,.x (H5 hx),.t hlc,.r 30 (eI (b:=(k:Int)) (by simp))] rfl (by simp [W6]; omega) ?_;exact rd k (by simp) ⟨by omega,by rw [<-hp,Qqa hx hlc]⟩ rfl
   ·have hlc:D5 c x=false:=by simpa using hlc
    have hp:Mn D5 O c O.length=k+1:=by rw [<-hp,Qkx hx hlc]
    refine go tt [.g 15 true (by simp),.x (H5 hc),.r 23 (eI (b:=(k:Int)) (by simp)),.i k,.x (H5 hx),.f hlc,.i (k+1),.x (H5 hc),.lo,.i (k+1),.s (sz:=7) (λy hy=>h7 y (Qz (Ql hy))),.s (sz:=7) (λy hy=>(Qx.1 hy).elim (h7z y) λhy=>h7 y (Qz (Ql hy)))] rfl (by simp [W6]; omega) ?_;exact rd (i+1) (by omega) hlt (by rw [hst,<-Qsw hp]; rfl)
 ·obtain rfl:i=l.length:=by omega
  rw [Q4];exact en tt [.f (decide_eq_false (by omega))] rfl rfl trivial
def rct (c:Ct):List LV:=[.int .i64 c.kind,.int .i64 c.i0,.int .i64 c.i1,.int .i64 c.i2,.int .i64 c.i3,rp (zp c.p),.int .i64 c.want,.row [],.bool false]
def Gd (l:List Ct):List (List LV):=l.map rct
theorem Du (l:List Ct):(Gd l).length=l.length:=by simp [Gd]
theorem Qt9 (l:List Ct):∀ c∈Gd l,c.length=9:=λc hc=>by obtain ⟨x,_,rfl⟩:=Zc.1 hc; rfl
theorem Qa1 {l:List Ct} {i:Nat} {c:Ct} (h:l[i]? = some c):(Gd l)[i]? = some (rct c):=Ff h
theorem Qsu {lt:Ct->Ct->Bool} {O:List Ct} {c:Ct} {k:Nat} (hp:Mn lt O c O.length=k):(Gd O).take k++([rct c]++((Gd O).drop k).take ((Gd O).length-k))=Gd (Cg lt O c):=Qsv hp
theorem Zdo {k i0 i1 i2 i3 l j0 j1 j2 j3:Int}:W8 Tryz.prog 266 [.agg [.int .i64 k,.int .i64 i0,.int .i64 i1,.int .i64 i2,.int .i64 i3],.agg [.int .i64 l,.int .i64 j0,.int .i64 j1,.int .i64 j2,.int .i64 j3]] [.one (.bool (Hb [k,i0,i1,i2,i3] [l,j0,j1,j2,j3]))]:=by
 by_cases hk:k=l
 ·subst hk;rw [show Hb [k,i0,i1,i2,i3] [k,j0,j1,j2,j3]=Hb [i0,i1,i2,i3] [j0,j1,j2,j3] from by simp [Hb]];refine Fv Tryz.func266 rfl ?_;refine go tt [.f (by simp)] rfl trivial ?_;refine lp (S:=Nat) 2 (λL1 i=>(5,.v (.one (.int .i64 (i:Int))))::L1) (λ_=>[.blk 97 [.int .i64 k,.int .i64 i0,.int .i64 i1,.int .i64 i2,.int .i64 i3],.blk 97 [.int .i64 k,.int .i64 j0,.int .i64 j1,.int .i64 j2,.int .i64 j3]]) (λi=>4-i) (λi=>i<=4/\Hb ([i0,i1,i2,i3].drop i) ([j0,j1,j2,j3].drop i)=Hb [i0,i1,i2,i3] [j0,j1,j2,j3]) 0 ⟨by omega,rfl⟩ rfl (λ_ _=>rfl) rfl λi ⟨hi,he⟩=>?_
  rw [<-he];rcases (show i=0\/i=1\/i=2\/i=3\/i=4 by omega) with rfl | rfl | rfl | rfl | rfl
  ·by_cases h:i0=j0
   ·exact go tt [.t rfl,.i 0,.i 0,.f (by simpa using h)] rfl (by simp [W6]) (rd 1 (by omega) ⟨by omega,by simp [Hb,h]⟩ rfl)
   ·exact en tt [.t rfl,.i 0,.i 0,.t (by simpa using h),.i 0,.i 0] rfl (by simp [Hb,h]) trivial
  ·by_cases h:i1=j1
   ·exact go tt [.t rfl,.i 1,.i 1,.f (by simpa using h)] rfl (by simp [W6]) (rd 2 (by omega) ⟨by omega,by simp [Hb,h]⟩ rfl)
   ·exact en tt [.t rfl,.i 1,.i 1,.t (by simpa using h),.i 1,.i 1] rfl (by simp [Hb,h]) trivial
  ·by_cases h:i2=j2
   ·exact go tt [.t rfl,.i 2,.i 2,.f (by simpa using h)] rfl (by simp [W6]) (rd 3 (by omega) ⟨by omega,by simp [Hb,h]⟩ rfl)
   ·exact en tt [.t rfl,.i 2,.i 2,.t (by simpa using h),.i 2,.i 2] rfl (by simp [Hb,h]) trivial
  ·by_cases h:i3=j3
   ·exact go tt [.t rfl,.i 3,.i 3,.f (by simpa using h)] rfl (by simp [W6]) (rd 4 (by omega) ⟨by omega,by simp [Hb,h]⟩ rfl)
   ·exact en tt [.t rfl,.i 3,.i 3,.t (by simpa using h),.i 3,.i 3] rfl (by simp [Hb,h]) trivial
  ·exact en tt [.f rfl] rfl (by simp [Hb]) trivial
 ·exact w tt Tryz.func266 rfl [.t (by simpa using hk)] rfl (by simp [Hb,hk]) trivial
theorem Zds {l:List Ct} (hn:l.length<=1000000):W8 Tryz.prog 233 [.one (.row (Gd l))] [.one (.row (Gd (Hy M8 l)))]:=by
 have hcl:=Du l;refine Fv Tryz.func233 rfl ?_;refine go tt [.o 3 227 9] rfl trivial ?_;refine lp (S:=Nat) 1 (λL1 i=>(8,.v (.one (.int .i64 (i:Int))))::(3,.v (.one (.orow 0 9 none)))::L1) (λi=>[.row false 227 9 (Gd (Hy M8 (l.take i)))]) (λi=>l.length-i) (λi=>i<=l.length) 0 (Qg _) rfl (λ_ _=>rfl) rfl λi hi=>?_
 by_cases hlt:i<l.length
 ·obtain ⟨c,hc⟩:=gxE (l:=l) (i:=i) hlt;have hst:Hy M8 (l.take (i+1))=Cg M8 (Hy M8 (l.take i)) c:=Qlc hc;obtain ⟨O,hO⟩:=nmE (Hy M8 (l.take i));have hOl:O.length=i:=by rw [hO,Nn,Qp]; omega
  have hrl:=Du O;rw [<-hO] at hst ⊢;refine go tt [.t (decide_eq_true (by omega))] rfl trivial ?_;refine lp (S:=Nat) 1 (λL1 k=>(5,.v (.one (.int .i64 (k:Int))))::L1) (λ_=>[.row false 227 9 (Gd O)]) id (λk=>k<=O.length/\Mn M8 O c k=Mn M8 O c O.length) (Gd O).length ⟨by omega,by rw [hrl]⟩ rfl (λ_ _=>rfl) rfl λk ⟨hk,hp⟩=>?_
  have h7:=Qt9 O;have h7z:∀ y∈[rct c],y.length=9:=λy hy=>by rw [Qm.1 hy]; rfl
  cases k with
  |
   zero =>
   have hp:Mn M8 O c O.length=0:=by rw [<-hp]; rfl
   refine go tt [.g 15 false (by simp),.f rfl,.i 0,.x (Qa1 hc),.lo,.i 0,.s (sz:=9) (λy hy=>h7 y (Ql hy)),.s (sz:=9) (λy hy=>(Qx.1 hy).elim (h7z y) λhy=>h7 y (Ql hy))] rfl (by simp [W6]; omega) ?_;exact rd (i+1) (by omega) hlt (by rw [hst,<-Qsu hp]; rfl)
  |
   succ k =>
   obtain ⟨x,hx⟩:=gxE (l:=O) (i:=k) (by omega);have cb:=Zdo (k:=c.kind) (i0:=c.i0) (i1:=c.i1) (i2:=c.i2) (i3:=c.i3) (l:=x.kind) (j0:=x.i0) (j1:=x.i1) (j2:=x.i2) (j3:=x.i3);by_cases hlc:M8 c x=true
   ·refine go tt [.g 15 true (by simp),.x (Qa1 hc),.r 23 (eI (b:=(k:Int)) (by simp)),.i k,.x (Qa1 hx),.c [] cb,.t hlc,.r 30 (eI (b:=(k:Int)) (by simp))] rfl (by simp [W6]; omega) ?_;exact rd k (by simp) ⟨by omega,by rw [<-hp,Qqa hx hlc]⟩ rfl
   ·have hlc:M8 c x=false:=by simpa using hlc
    have hp:Mn M8 O c O.length=k+1:=by rw [<-hp,Qkx hx hlc]
    refine go tt [.g 15 true (by simp),.x (Qa1 hc),.r 23 (eI (b:=(k:Int)) (by simp)),.i k,.x (Qa1 hx),.c [] cb,.f hlc,.i (k+1),.x (Qa1 hc),.lo,.i (k+1),.s (sz:=9) (λy hy=>h7 y (Qz (Ql hy))),.s (sz:=9) (λy hy=>(Qx.1 hy).elim (h7z y) λhy=>h7 y (Qz (Ql hy)))] rfl (by simp [W6]; omega) ?_;exact rd (i+1) (by omega) hlt (by rw [hst,<-Qsu hp]; rfl)
 ·obtain rfl:i=l.length:=by omega
  rw [Q4];exact en tt [.f (decide_eq_false (by omega))] rfl rfl trivial
abbrev Ap (q:Rat):List Int->Int:=λp=>Ft p q
abbrev rzc:List LV:=[.int .i64 0,.int .i64 0,.int .i64 0,.int .i64 0,.int .i64 0,.nils,.int .i64 0,.nils,.bool false]
theorem Q6z {l:List Ct} (hn:l.length<=1000000):W8 Tryz.prog 94 [.one (.row []),.one (.row (Gd l))] [.one (.row (Gd l))]:=by
 have hcl:=Du l;refine Fv Tryz.func94 rfl ?_;refine go tt [] rfl trivial ?_;refine lp (S:=Nat) 0 (λL1 i=>(9,.v (.one (.int .i64 (i:Int))))::L1) (λ_=>[]) (λi=>l.length-i) (λi=>i<=l.length) 0 (Qg _) rfl (λ_ _=>rfl) rfl λi hi=>?_
 by_cases hlt:i<l.length
 ·refine go tt [.t (decide_eq_true (by omega))] rfl trivial ?_;refine lp (S:=Nat) 0 (λL1 k=>(14,.v (.one (.int .i64 (k:Int))))::L1) (λ_=>[]) (λk=>0-k) (λk=>k=0) 0 rfl rfl (λ_ _=>rfl) rfl λk hk=>?_
  subst hk;exact go tt [.f rfl] rfl (by simp [W6]; omega) (rd (i+1) (by omega) hlt rfl)
 ·exact en tt [.f (decide_eq_false (by omega))] rfl rfl trivial
theorem Zev (l:List Nat) (n:Nat):(lm l).take (min l.length n)=lm (l.take n):=by
 rw [lm,lm,<-Ye];rcases Nat.le_total l.length n with h | h
 ·rw [Zr h,Q4,Qj h]
 ·rw [Vp h]
theorem Zit {l:List Nat} {n:Nat} (hn:n<=1000):W8 Tryz.prog 189 [.one (.row (lm l)),.one (.int .i64 (n:Int))] [.one (.row (lm (l.take n)))]:=by
 rw [<-Zev];have hll:(lm l).length=l.length:=by simp [lm]
 exact w tt Tryz.func189 rfl [.r 9 (eI (b:=((min l.length n:Nat):Int)) (by omega)),.i (min l.length n)] rfl rfl (by simp [W6,hll]; omega)
theorem Q6o {z:RawInt}:W8 Tryz.prog 150 [.agg (Qf7 z),.one (.int .i64 1)] [.agg (Qf7 z.cut)] :=
 w tt Tryz.func150 rfl [.c [] (Zit (l:=z.l) (n:=1) (by decide))] rfl rfl trivial
def Qbs (l:List RawInt):List (List LV):=l.map Qf7
theorem Qa2 (l:List RawInt):(Qbs l).length=l.length:=by simp [Qbs]
theorem Qy8 {l:List RawInt}:W8 Tryz.prog 149 [.one (.row (Qbs l)),.one (.int .i64 3),.one (.int .i64 1)] [.one (.row (Qbs ((l.take 3).map RawInt.cut)))]:=by
 have hll:=Qa2 l;refine Fv Tryz.func149 rfl (ln 0 rfl rfl λhzl=>?_);rw [hll] at hzl;refine go tt [.o 7 55 2] rfl trivial ?_;refine lp (S:=Nat) 1 (λL1 i=>(8,.v (.one (.int .i64 (i:Int))))::(7,.v (.one (.orow 0 2 none)))::L1) (λi=>[.row false 55 2 (Qbs ((l.take i).map RawInt.cut))]) (λi=>3-i) (λi=>i<=3/\i<=l.length) 0 ⟨by decide,Qg _⟩ rfl (λ_ _=>rfl) rfl λi ⟨hi,hi2⟩=>?_
 have hil:(Qbs ((l.take i).map RawInt.cut)).length=i:=by rw [Qa2,Q6,Qp]; omega
 by_cases h1:i<l.length
 ·by_cases h2:i<3
  ·obtain ⟨z,hz⟩:=gxE (l:=l) (i:=i) h1;have hm:∀ y∈[Qf7 z.cut],y.length=2:=λy hy=>by rw [Qm.1 hy]; rfl
   refine go tt [.g 13 true (decide_eq_true (by omega)),.t (decide_eq_true (by omega)),.x (Ff (f:=Qf7) hz),.c [] Q6o,.s (sz:=2) hm] rfl (by simp [W6,hil,-List.map_take]; omega) ?_;exact rd (i+1) (by omega) ⟨h2,h1⟩ (by rw [Zx,hz]; simp [Qbs]; rfl)
  ·have e:i=3:=by omega
   have e2:l.take 3=l.take i:=by rw [e]
   rw [e2];exact en tt [.g 13 true (decide_eq_true (by omega)),.f (decide_eq_false (by omega))] rfl rfl trivial
 ·have e:l.take i=l.take 3:=by rw [Qj (by omega),Qj (by omega)]
  rw [e];exact en tt [.g 13 false (decide_eq_false (by omega)),.f rfl] rfl rfl trivial
abbrev rcw (z:RawPt):List LV:=[.row (Qbs z.x),.row (Qbs z.y),.bool z.d.b,.row (lm z.d.l)]
def RawPt.cut (z:RawPt):RawPt:=⟨(z.x.take 3).map RawInt.cut,(z.y.take 3).map RawInt.cut,z.d.cut,z.id⟩
theorem Zll {z:RawPt}:W8 Tryz.prog 91 [.agg (rcw z),.one (.int .i64 3),.one (.int .i64 1)] [.agg (rcw z.cut)] :=
 w tt Tryz.func91 rfl [.c [] (Qy8 (l:=z.x)),.c [] (Qy8 (l:=z.y)),.c [] (Q6o (z:=z.d))] rfl rfl trivial
theorem Qc2 {z:RawInt} (hz:z.Ok) {most:Int} (hm:0<=most/\most<=999):W8 Tryz.prog 151 [.agg (Qf7 z),.one (.int .i64 most)] [.agg (Fi (Ht most z))]:=by
 obtain ⟨b,l⟩:=z;have hb:=Qcb hm.1 ⟨b,l⟩;have hs:Uh (Ht most ⟨b,l⟩)<=100000000:=Qd (Rl.2 (show (Ht most ⟨b,l⟩).natAbs<2^10 by omega)) (by decide);cases l with
 | nil=>exact w tt Tryz.func151 rfl [.t rfl] rfl (by simp [Ht,Dq]) trivial
 |
  cons u l =>
  have hu:=hz.u u (Qt ..);have co:=Bb (n:=Ht most ⟨b,u::l⟩) (by omega);have ct:=Q2t hs;have hr:Int.tmod (u:Int) (most+1)=(u:Int) % (most+1):=Yu (by omega);have h1:=Y6 (u:Int) (b:=most+1) (by omega);have h2:=Yo (u:Int) (b:=most+1) (by omega);cases b with
  |
   true =>
   rw [show Ht most ⟨true,u::l⟩=-((u:Int) % (most+1)) from rfl] at co ct ⊢;exact w tt Tryz.func151 rfl [.f (decide_eq_false (by simp [lm]; try omega)),.x (l:=lm (u::l)) (i:=0) (xs:=[.int .u32 (u:Int)]) rfl,.r 18 (eI hr),.t rfl,.c [] co,.c [] ct] rfl rfl (by simp [W6]; omega)
  |
   false =>
   rw [show Ht most ⟨false,u::l⟩=(u:Int) % (most+1) from rfl] at co ct ⊢;exact w tt Tryz.func151 rfl [.f (decide_eq_false (by simp [lm]; try omega)),.x (l:=lm (u::l)) (i:=0) (xs:=[.int .u32 (u:Int)]) rfl,.r 18 (eI hr),.f rfl,.c [] co,.c [] ct] rfl rfl (by simp [W6]; omega)
theorem oz2 {P:Program} [Mo P] {n:Nat} {Q:Exit->Sg->List OB->Prop} {L L':Sg} {B B':List OB} (d off T sz:Nat) {it:List It} (hs:Hn it=true) (h:Q37 (P:=P) d L B [.oc d off T sz]=some (L',B',[],[])) (k:AK P n Q it L' B'):AK P n Q it L B:=AK.sub (Qqb h EqOk.nil) hs k
theorem pz {P:Program} [Mo P] {n:Nat} {Q:Exit->Sg->List OB->Prop} {L L':Sg} {B B':List OB} (i:Nat) {it:List It} (hs:Hn it=true) (h:Q4a [i] L B=some (L',B')) (k:AK P n Q it L' B'):AK P n Q it L B:=AK.sub (Qd6 h) hs k
def S5 (l:List Int):List (List LV):=l.map Fi
theorem Qfw (l:List Int):(S5 l).length=l.length:=by simp [S5]
theorem Qfu {most:Int} {l:List RawInt} {i:Nat} {a:RawInt} (hi:i<3) (h:l[i]? = some a):S5 (Gf most (l.take (i+1)))=S5 (Gf most (l.take i))++[Fi (Ht most a)]:=by
 rw [Qpu hi h]; simp [S5]
theorem Qpt {most:Int} {l:List RawInt} {i:Nat} (hi:i<=3) (h:i<=l.length):(S5 (Gf most (l.take i))).length=i:=by
 rw [Qfw]; unfold Gf; rw [List.length_map,List.length_take,List.length_take]; omega
theorem Q5x {z:RawPt} (hz:z.Ok) {most:Int} (hm:0<=most/\most<=999):W8 Tryz.prog 92 [.agg (rcw z),.one (.int .i64 most)] [.agg (cl4 (Qdl most z.x z.y z.d))]:=by
 have hxl:=Qa2 z.x;have hyl:=Qa2 z.y;obtain ⟨D,hD⟩:=nmE (Ht 3 z.d);have cd:=Qc2 hz.d (most:=3) (by decide);have hx0:∀ {i:Nat},z.x.length<=i\/3<=i->Gf most (z.x.take i)=Gf most z.x:=Qgw most;have hy0:∀ {i:Nat},z.y.length<=i\/3<=i->Gf most (z.y.take i)=Gf most z.y:=Qgw most;unfold Qdl;rw [<-hD] at cd ⊢;refine Fv Tryz.func92 rfl ?_;refine go tt [.c [] cd] rfl trivial ?_;refine oz2 5 0 55 2 rfl rfl ?_;refine lp (S:=Nat) 4 (λL1 i=>(6,.v (.one (.int .i64 (i:Int))))::L1) (λi=>[.blk 57 (rcw z),.blk 57 [.nils,.nils,.bool false,.nils],.blk 57 [.orow 3 2 none,.nils,sg D,mg D],.row false 55 2 (S5 (Gf most (z.x.take i)))]) (λi=>3-i) (λi=>i<=3/\i<=z.x.length) 0 ⟨by decide,Qg _⟩ rfl (λ_ _=>rfl) rfl λi ⟨hi,hi2⟩=>?_
 have hll:=Qpt (most:=most) hi hi2;by_cases hr:i<z.x.length/\i<3
 ·obtain ⟨a,ha⟩:=gxE (l:=z.x) (i:=i) hr.1;have hs:∀ y∈[Fi (Ht most a)],y.length=2:=λy hy=>by rw [Qm.1 hy]; rfl
  refine go tt [.g 17 true (decide_eq_true (by omega)),.t (decide_eq_true (by omega)),.x (Ff (f:=Qf7) ha),.c [] (Qc2 (hz.x a (Qa ha)) hm),.s (sz:=2) hs] rfl (by simp [W6,hll]; omega) ?_;exact rd (i+1) (by omega) ⟨hr.2,hr.1⟩ (by rw [Qfu hr.2 ha]; rfl)
 have hg1:decide ((i:Int)<((Qbs z.x).length:Int))=true->i<z.x.length:=λh=>by have:=of_decide_eq_true h; omega
 rw [hx0 (by omega)];clear hll;have hfin:∀ {j:Nat},j<=3/\j<=z.y.length->¬(j<z.y.length/\j<3)->S5 (Gf most (z.y.take j))=S5 (Gf most z.y):=λh1 h2=>by rw [hy0 (by omega)]
 by_cases hxx:i<z.x.length
 ·refine go tt [.g 17 true (decide_eq_true (by omega)),.f (decide_eq_false (by omega))] rfl trivial ?_;refine pz 3 rfl rfl ?_;refine oz2 5 1 55 2 rfl rfl ?_;refine lp (S:=Nat) 5 (λL1 j=>(7,.v (.one (.int .i64 (j:Int))))::L1) (λj=>[.blk 57 (rcw z),.blk 57 [.nils,.nils,.bool false,.nils],.blk 57 [.row (S5 (Gf most z.x)),.orow 4 2 none,sg D,mg D],.gone,.row false 55 2 (S5 (Gf most (z.y.take j)))]) (λj=>3-j) (λj=>j<=3/\j<=z.y.length) 0 ⟨by decide,Qg _⟩ rfl (λ_ _=>rfl) rfl λj ⟨hj,hj2⟩=>?_
  have hll:=Qpt (most:=most) hj hj2;by_cases hr:j<z.y.length/\j<3
  ·obtain ⟨a,ha⟩:=gxE (l:=z.y) (i:=j) hr.1;have hs:∀ y∈[Fi (Ht most a)],y.length=2:=λy hy=>by rw [Qm.1 hy]; rfl
   refine go tt [.g 40 true (decide_eq_true (by omega)),.t (decide_eq_true (by omega)),.x (Ff (f:=Qf7) ha),.c [] (Qc2 (hz.y a (Qa ha)) hm),.s (sz:=2) hs] rfl (by simp [W6,hll]; omega) ?_;exact rd (j+1) (by omega) ⟨hr.2,hr.1⟩ (by rw [Qfu hr.2 ha]; rfl)
  rw [hfin ⟨hj,hj2⟩ hr];by_cases hyy:j<z.y.length
  ·exact ed tt [4] [] [.g 40 true (decide_eq_true (by omega)),.f (decide_eq_false (by omega))] rfl trivial
  ·exact ed tt [4] [] [.g 40 false (decide_eq_false (by omega)),.f rfl] rfl trivial
 ·refine go tt [.g 17 false (decide_eq_false (by omega)),.f rfl] rfl trivial ?_;refine pz 3 rfl rfl ?_;refine oz2 5 1 55 2 rfl rfl ?_;refine lp (S:=Nat) 5 (λL1 j=>(7,.v (.one (.int .i64 (j:Int))))::L1) (λj=>[.blk 57 (rcw z),.blk 57 [.nils,.nils,.bool false,.nils],.blk 57 [.row (S5 (Gf most z.x)),.orow 4 2 none,sg D,mg D],.gone,.row false 55 2 (S5 (Gf most (z.y.take j)))]) (λj=>3-j) (λj=>j<=3/\j<=z.y.length) 0 ⟨by decide,Qg _⟩ rfl (λ_ _=>rfl) rfl λj ⟨hj,hj2⟩=>?_
  have hll:=Qpt (most:=most) hj hj2;by_cases hr:j<z.y.length/\j<3
  ·obtain ⟨a,ha⟩:=gxE (l:=z.y) (i:=j) hr.1;have hs:∀ y∈[Fi (Ht most a)],y.length=2:=λy hy=>by rw [Qm.1 hy]; rfl
   refine go tt [.g 40 true (decide_eq_true (by omega)),.t (decide_eq_true (by omega)),.x (Ff (f:=Qf7) ha),.c [] (Qc2 (hz.y a (Qa ha)) hm),.s (sz:=2) hs] rfl (by simp [W6,hll]; omega) ?_;exact rd (j+1) (by omega) ⟨hr.2,hr.1⟩ (by rw [Qfu hr.2 ha]; rfl)
  rw [hfin ⟨hj,hj2⟩ hr];by_cases hyy:j<z.y.length
  ·exact ed tt [4] [] [.g 40 true (decide_eq_true (by omega)),.f (decide_eq_false (by omega))] rfl trivial
  ·exact ed tt [4] [] [.g 40 false (decide_eq_false (by omega)),.f rfl] rfl trivial
theorem Qy1 {n d:Int} (hn:-9223372036854775808<=n/\n<=9223372036854775807) (hd:-9223372036854775808<=d/\d<=9223372036854775807):W8 Tryz.prog 20 [.one (.int .i64 n),.one (.int .i64 d)] [.agg (fr (Fx (Eg n 61-30) (1+Eg d 6)))]:=by
 have h1:Eg n 61=n % 61:=rfl;have h2:Eg d 6=d % 6:=rfl;exact w tt Tryz.func20 rfl [.c [] (Iy (v:=n) (n:=61) hn (by decide)),.c [] (Iy (v:=d) (n:=6) hd (by decide)),.c [] (Zlq (n:=Eg n 61-30) (d:=1+Eg d 6) (by omega) (by omega))] rfl rfl (by simp [W6]; omega)
def rwq (z:RawPt):List LV:=rcw z++[.int .i64 z.id]
def Qea (l:List RawPt):List (List LV):=l.map rwq
theorem Q4h (l:List RawPt):(Qea l).length=l.length:=by simp [Qea]
theorem Qqr {l:List RawPt} {i:Nat} {z:RawPt} (h:l[i]? = some z):(Qea l)[i]? = some (rwq z):=Ff h
theorem Zi0 {most:Int} (hm:0<=most/\most<=999) (z:RawPt):Cs 100000 16 (Qaw most z).c:=(Qmj hm z.x z.y z.d).mono (by decide) (by decide)
def Ae (n:Nat) (most:Int) (zs:List RawPt) (i:Nat):List Pt:=Qf3 n most (zs.take i)
theorem Q94 (n:Nat) (most:Int) (zs:List RawPt) (i:Nat):(Ae n most zs i).length<=n:=I8 _ _ (Qg _)
theorem Zfi {n:Nat} {most:Int} {zs:List RawPt} {i:Nat} {z:RawPt} (h:zs[i]? = some z) (hl:(Ae n most zs i).length<n) (ha:(Ae n most zs i).any (λx=>decide (x.id=(Qaw most z).id))=true):Ae n most zs (i+1)=Ae n most zs i:=by
 unfold Ae Qf3 at *;rw [Zx,h,Vb,Xx];exact A6 _ _ _ hl ha
theorem Q95 {n:Nat} {most:Int} {zs:List RawPt} {i:Nat} {z:RawPt} (h:zs[i]? = some z) (hl:(Ae n most zs i).length<n) (ha:(Ae n most zs i).any (λx=>decide (x.id=(Qaw most z).id))=false):Ae n most zs (i+1)=Ae n most zs i++[Qaw most z]:=by
 unfold Ae Qf3 at *;rw [Zx,h,Vb,Xx];exact L9 _ _ _ hl ha
theorem Q93 {n:Nat} {most:Int} {zs:List RawPt} {i:Nat} (h:¬(i<zs.length/\(Ae n most zs i).length<n)):Ae n most zs i=Qf3 n most zs:=by
 by_cases h1:i<zs.length
 ·have hl:n<=(Ae n most zs i).length:=Y0 λh2=>h ⟨h1,h2⟩
  unfold Ae Qf3 at *
  conv=>rhs; rw [<-Za i zs,Xx]
  exact (Qfk _ _ _ hl).symm
 ·unfold Ae; rw [List.take_of_length_le (by omega)]
theorem Q5b {f:Pt->Bool} {l:List Pt} {k:Nat} {x:Pt} (h:l[k]? = some x):(l.take (k+1)).any f=((l.take k).any f || f x):=by
 rw [Zx,h]; simp
theorem Q2s {zs:List RawPt} (hz:∀ z∈zs,z.Ok):Ge Tryz.prog 43 [.one (.row (Qea zs)),.one (.int .i64 4)] [] [.one (.orow 0 5 none),.one (.orow 1 7 none)] [.row false 114 5 (Ub (Qf3 4 20 zs)),.row false 61 7 (Ux ((Qf3 4 20 zs).map Pt.nrm))]:=by
 have hzl:=Q4h zs;refine Fv Tryz.func43 rfl (ln 0 rfl rfl λhz63=>?_);rw [hzl] at hz63;refine go tt [.o 6 114 5,.o 7 61 7] rfl trivial ?_;refine lp (S:=Nat) 2 (λL1 i=>(8,.v (.one (.int .i64 (i:Int))))::(6,.v (.one (.orow 0 5 none)))::(7,.v (.one (.orow 1 7 none)))::L1) (λi=>[.row false 114 5 (Ub (Ae 4 20 zs i)),.row false 61 7 (Ux ((Ae 4 20 zs i).map Pt.nrm))]) (λi=>zs.length-i) (λi=>i<=zs.length) 0 (Qg _) rfl (λ_ _=>rfl) rfl λi hi=>?_
 have hOl:=Q94 4 20 zs i;have hend:=Q93 (n:=4) (most:=20) (zs:=zs) (i:=i);by_cases h1:i<zs.length
 ·by_cases h2:(Ae 4 20 zs i).length<4
  ·obtain ⟨z,hzi⟩:=gxE (l:=zs) (i:=i) h1;have hzok:=hz z (Qa hzi);have hin:=Zfi hzi h2;have hout:=Q95 hzi h2;obtain ⟨O,hO⟩:=nmE (Ae 4 20 zs i);rw [<-hO] at hOl h2 hin hout ⊢;have hpl:=Rj O;have hrl:(Ux (O.map Pt.nrm)).length=O.length:=by rw [Rv,Q6]
   obtain ⟨p,hp⟩:=nmE (Qaw 20 z);have hid:Eg z.id 1000=p.id:=by rw [hp]; rfl
   have cw:=Iy (v:=z.id) (n:=1000) hzok.id (by decide);have cl:=Q5x hzok (most:=20) (by decide);have ecl:cl4 (Qdl 20 z.x z.y z.d)=cl4 p.c:=by rw [hp]; rfl
   rw [hid] at cw;rw [ecl] at cl;rw [<-hp] at hin hout;refine go tt [.g 16 true (decide_eq_true (by omega)),.t (decide_eq_true (by omega)),.x (Qqr hzi),.c [] (Zll (z:=z)),.x (Qqr hzi),.c [] cw,.f rfl,.t rfl,.x (Qqr hzi),.c [] cl] rfl trivial ?_;refine lp (S:=Nat) 3 (λL1 k=>(57,.v (.one (.int .i64 (k:Int))))::(10,.v (.one (.bool ((O.take k).any (λx=>decide (x.id=p.id))))))::L1) (λ_=>[.row false 114 5 (Ub O),.row false 61 7 (Ux (O.map Pt.nrm)),.blk 114 [pl p.c.x,pl p.c.y,sg p.c.d,mg p.c.d,.int .i64 p.id]]) (λk=>O.length-k) (λk=>k<=O.length) 0 (Qg _) rfl (λ_ _=>rfl) rfl λk hk=>?_
   by_cases hk2:k<O.length
   ·obtain ⟨x,hx⟩:=gxE (l:=O) (i:=k) hk2;have ha:=Q5b (f:=λx=>decide (x.id=p.id)) hx;cases hb:(O.take k).any (λx=>decide (x.id=p.id)) with
    |
     true =>
     rw [hb,Bool.true_or] at ha;exact go tt [.t (decide_eq_true (by omega)),.g 61 true rfl] rfl (by simp [W6]; omega) (rd (k+1) (by omega) hk2 (by rw [ha]; rfl))
    |
     false =>
     rw [hb,Bool.false_or] at ha;exact go tt [.t (decide_eq_true (by omega)),.g 61 false rfl,.i k,.x (O7 hx)] rfl (by simp [W6,hpl]; omega) (rd (k+1) (by omega) hk2 (by rw [ha]; rfl))
   have hk3:O.take k=O:=Qj (by omega);rw [hk3];cases hb:O.any (λx=>decide (x.id=p.id)) with
   |
    true =>
    refine go tt [.f (decide_eq_false (by omega)),.f rfl] rfl (by simp [W6]; omega) ?_;exact rd (i+1) (by omega) h1 (by rw [hin hb]; rfl)
   |
    false =>
    have cf:=Q6y (k:=p.c) (id:=p.id) (by rw [hp]; exact Zi0 (by decide) z);have hm1:∀ y∈[Fw p],y.length=5:=λy hy=>by rw [Qm.1 hy]; rfl
    have hm2:∀ y∈[M5 p.nrm],y.length=7:=λy hy=>by rw [Qm.1 hy]; rfl
    have e1:Ub (O++[p])=Ub O++[Fw p]:=by simp [Ub]
    have e2:Ux ((O++[p]).map Pt.nrm)=Ux (O.map Pt.nrm)++[M5 p.nrm]:=by simp [Ux]
    refine go tt [.f (decide_eq_false (by omega)),.t rfl,.s (sz:=5) hm1,.c [] cf,.s (sz:=7) hm2] rfl (by simp [W6,hpl,hrl]; omega) ?_;exact rd (i+1) (by omega) h1 (by rw [hout hb,e1,e2]; rfl)
  ·rw [hend (λh=>h2 h.2)];rw [hend (λh=>h2 h.2)] at h2;have hpl:=Rj (Qf3 4 20 zs);exact ed tt [] [0,1] [.g 16 true (decide_eq_true (by omega)),.f (decide_eq_false (by omega))] rfl trivial
 ·rw [hend (λh=>h1 h.1)];exact ed tt [] [0,1] [.g 16 false (decide_eq_false (by omega)),.f rfl] rfl trivial
abbrev plZ (M:List Pt) (q:Rat):List LV:=.row (Ux M)::(fr q++[.nils,.nils,.nils,.bool false,.nils,.bool false,.nils,.bool false,.nils,.bool false,.nils,.int .i64 0,.nils])
abbrev plB (M:List Pt) (q:Rat) (c:List (List Int)) (w:List Ct):List LV:=.row (Ux M)::(fr q++(aq q c++[.row (Gd w),.int .i64 0,.nils]))
end Orr
namespace Orr
open Go Go.Proofs Orq
set_option maxRecDepth 10000
theorem Zd8 {O:List Pt} {e j:Nat} (h:Lv (Rw O e)) (hj:j<=e):Lv (Rw O j):=by
 have:Rw O j=(Rw O e).take j:=by unfold Rw; rw [<-List.map_take,List.take_take,Nat.min_eq_left hj]
 rw [this];exact List.Pairwise.sublist (Wg _ _) h
theorem Zi2 (O:List Pt):∃ e,e<=O.length/\Lv (Rw O e)/\(e<O.length->¬Lv (Rw O (e+1))):=by
 have key:∀ k,Lv (Rw O k)\/∃ e,e<k/\Lv (Rw O e)/\¬Lv (Rw O (e+1)):=by
  intro k
  induction k with
  | zero=>exact .inl List.Pairwise.nil
  |
   succ k ih =>
   rcases ih with h | ⟨e,h1,h2,h3⟩
   ·by_cases h4:Lv (Rw O (k+1))
    ·exact .inl h4
    ·exact .inr ⟨k,Wp k,h,h4⟩
   ·exact .inr ⟨e,by omega,h2,h3⟩
 rcases key O.length with h | ⟨e,h1,h2,h3⟩
 ·exact ⟨O.length,Qn _,h,λh=>absurd h (Vw _)⟩
 ·exact ⟨e,by omega,h2,λ_=>h3⟩
theorem Qqc {O:List Pt} {i:Nat} {p:Pt} (h:O[i]? = some p):(Ub (mix O i)).set i [pl p.c.x,pl p.c.y,sg p.c.d,mg p.c.d,.int .i64 p.m5.id]=Ub (mix O (i+1)):=by
 rw [<-Q0u h]; simp only [Ub,Yp]; rfl
theorem Ql3 {O:List Pt} {i:Nat} {p:Pt} (h:O[i]? = some p):(Ux ((mix O i).map Pt.nrm)).set i [rp (Ei p.nrm.c.x p.nrm.c.d),rp (Ei p.nrm.c.y p.nrm.c.d),pl p.nrm.c.x,pl p.nrm.c.y,sg p.nrm.c.d,mg p.nrm.c.d,.int .i64 p.m5.id]=Ux ((mix O (i+1)).map Pt.nrm):=by
 rw [<-Q0u h]; simp only [Ux,Yp]; rfl
theorem Q39 {O:List Pt} {e i:Nat} (h:e<=i) (hi:i<=O.length):(Ub (mix O i)).take e=Ub (Rw O e):=by
 unfold Ub; rw [<-List.map_take,Qs9 h hi]; rfl
theorem Qxs {O:List Pt} {e i:Nat} (h:e<=i) (hi:i<=O.length):(Ux ((mix O i).map Pt.nrm)).take e=Ux (Qbf O e):=by
 unfold Ux; rw [<-List.map_take,<-List.map_take,Qs9 h hi]; rfl
theorem Qs8 {O:List Pt}:mix O O.length=Rw O O.length:=by unfold mix Rw; simp
abbrev Ef (n d:Int):Rat:=Fx (Eg n 61-30) (1+Eg d 6)
theorem Qga (n d:Int):Qs 100 (Ef n d):=by
 have h1:Eg n 61=n % 61:=rfl;have h2:Eg d 6=d % 6:=rfl;unfold Ef Fx;rw [if_neg (by omega)];exact Qs.divInt (Qd (Rl.2 (show (Eg n 61-30).natAbs<2^10 by omega)) (by decide)) (Qd (Rl.2 (show (1+Eg d 6).natAbs<2^10 by omega)) (by decide)) (by decide)
theorem Zfj {n:Nat} {most:Int} {l:List RawPt}:∀ p∈Qf3 n most l,0≤p.id/\p.id<1000:=λp hp=>by
 rcases Qdf _ _ hp with h | h
 ·cases h
 ·obtain ⟨z,_,rfl⟩:=Zc.1 h;exact ⟨Y6 _ (by decide),Yo _ (by decide)⟩
end Orr
namespace Orr
def Tv:Nat->List Pt->List (Pt×Pt)
 | 0,_=>[]
 | _+1,[]=>[]
 | k+1,x::l=>l.map (λy=>(x,y))++Tv k l
def Cj (l:List Pt):List (Pt×Pt):=Tv l.length l
theorem Lp:∀ (l:List Pt) (i:Nat) (x:Pt),l[i]? = some x->Tv (i+1) l=Tv i l++(l.drop (i+1)).map (λy=>(x,y))
 | [],i,x,h=>by simp at h
 |
  y::l,0,x,h=>by
  simp at h; subst h;simp [Tv]
 |
  y::l,i+1,x,h=>by
  have h:l[i]? = some x:=by simpa using h
  have ih:=Lp l i x h;show l.map (λz=>(y,z))++Tv (i+1) l=(l.map (λz=>(y,z))++Tv i l)++_;rw [ih,Ze];rfl
theorem Qkp:∀ (k:Nat) (l:List Pt),∀ m∈Tv k l,m.1∈l/\m.2∈l
 | 0,l,m,h=>by simp [Tv] at h
 | k+1,[],m,h=>by simp [Tv] at h
 |
  k+1,x::l,m,h=>by
  rcases Qx.1 h with h | h
  ·obtain ⟨y,hy,rfl⟩:=Zc.1 h;exact ⟨Qt ..,Qi _ hy⟩
  ·obtain ⟨h1,h2⟩:=Qkp k l m h;exact ⟨Qi _ h1,Qi _ h2⟩
def Zqg (s m:Pt×Pt):Bool:=decide (m.1.id≠s.1.id) || decide (m.2.id≠s.2.id)
end Orr
namespace Orq
open Orr Go
structure Quiet {β:Type} (Bc:Tm->List Ct) (Br:Tm->β) (a b:Tm):Prop where
 va:Va a
 vb:Va b
 le:¬Bv b a
 n:∀ x∈Bc a,∃ o,B8 x.p a o/\∀ u,o=some u->Bv b u
section
variable {β:Type} {Bc:Tm->List Ct} {Br:Tm->β} (S:Stab Bc Br)
include S
theorem Quiet.same {a b:Tm} (h:Quiet Bc Br a b):Bc b=Bc a/\Br b=Br a:=by
 refine S.st a b h.va h.vb λx hx=>?_
 obtain ⟨o,o1,o2⟩:=h.n x hx;exact Qm6 (S.ok.p _ h.va _ hx).dp h.va h.vb h.le o1 o2
end
theorem Zgh {p:List Int} (h:Cp p):(tms p).length<=67:=by
 obtain ⟨l,l1,l2,_⟩:=Qaf h;unfold tms; rw [l1]; exact l2
theorem Q10:∀ {Ps:List (List Int)},(∀ p∈Ps,Cp p)->(Ps.flatMap tms).length≤67*Ps.length
 | [],_=>Qg _
 |
  p::Ps,h=>by
  have h1:=Zgh (h p (by simp));have h2:=Q10 (Ps:=Ps) λq hq=>h q (Qi _ hq)
  rw [List.flatMap_cons,Q5,Q7]; omega
theorem Zmi (T:List Tm) (a:Tm):mu T a<=T.length:=Vi _ _
theorem Zh6 {β:Type} {Bc:Tm->List Ct} {Br:Tm->β} (S:Stab Bc Br) {Ps:List (List Int)} (hP:∀ p∈Ps,Cp p) (hPs:∀ a,Va a->∀ x∈Bc a,x.p∈Ps) (hl:Ps.length≤1000000) {t:Rat} (ht:Qs 400000 t) {c:Cr} {r:β} (hS:KSt Bc Br c r) (h:Uq c.now t≤0) :
 ∃ (K:Nat) (c':Cr) (E:List Tm),K<=67000001/\goF Bc Br t K c r 0=some (c',Br (tq t),((E.length:Nat):Int))/\c'.now=tq t/\KSt Bc Br c' (Br (tq t))/\c'.ev=c.ev+((E.length:Nat):Int)/\E.length<=67000000/\Evs Bc t c.now E:=by
 have hm:=Q10 hP;have hmu:=Zmi (Ps.flatMap tms) c.now;have hv:=hS.inv.ok.n;obtain ⟨c',r',E,g1,g2,g3,g4,g5,g6⟩:=Zl6 S ht hP hPs (mu (Ps.flatMap tms) c.now) c r 0 (Qn _) hS λh'=>by
  have:=(Qja hv.cut).2 h'; omega
 have hr:r'=Br (tq t):=by rw [g3.r,g2]
 rw [hr] at g1 g3;rw [Int.zero_add] at g1;exact ⟨_,c',E,by omega,g1,g2,g3,g4,by omega,g6⟩
theorem Zie {β:Type} {Bc:Tm->List Ct} {Br:Tm->β} (S:Stab Bc Br) {a:Tm} (ha:Va a):KSt Bc Br ⟨a,(Uz (Bc a)).map fresh,0⟩ (Br a):=by
 refine ⟨⟨⟨ha,λw hw=>?_,?_⟩,λw hw hk=>?_⟩,?_,rfl⟩
 ·obtain ⟨x,hx,rfl⟩:=Zc.1 hw;exact ⟨S.ok.p _ ha x (Ai hx),λt ht=>by cases ht⟩
 ·show ((Uz (Bc a)).map fresh).length<=1000;rw [Q6,Cz]; exact S.ok.n _ ha
 ·obtain ⟨x,hx,rfl⟩:=Zc.1 hw;cases hk
 ·show ((Uz (Bc a)).map fresh).map (·.c)=Uz (Bc a);rw [List.map_map];show (Uz (Bc a)).map (λx=>x)=_;rw [List.map_id']
end Orq
namespace Orr
open Go Go.Proofs Orq
set_option maxRecDepth 10000
theorem Lk {l m:List (List LV)} (h:l=m):TV.one (LV.row l)=.one (.row m):=h ▸ rfl
end Orr
namespace Orr
open Go Go.Proofs
set_option maxRecDepth 10000
theorem Qo0 {p q:List Int} (hp:Bd 19000000 p) (hq:Bd 19000000 q) (hlp:p.length<=1000000) (hlq:q.length<=1000000):W8 Tryz.prog 55 [.one (rp (zp p)),.one (rp (zp q))] [.one (rp (zp (D6 p q)))]:=by
 have h:=Qv0 (Qbr (W7 hp (by decide)) (by decide)) (Qbr (W7 hq (by decide)) (by decide)) (by rw [Tj]; exact hlp) (by rw [Tj]; exact hlq);rwa [Q1p] at h
theorem Qj2 (p:List Int) (q:Rat):Bj (Ap q) p=Qj1 p q:=rfl
end Orr
namespace Orr
def Lr (l:List (List (List Int))):List (List LV):=l.map λr=>[.row (r.map λp=>[pl p])]
abbrev O5 (r:List (List Int)):List (List LV):=r.map λp=>[pl p]
theorem Qaz (l:List (List (List Int))):(Lr l).length=l.length:=by simp [Lr]
def Ol (i:Nat) (rows:List (List (List Int))):Nat->List (List (List Int))
 | 0=>[]
 | j+1=>if j=i then Ol i rows j else Ol i rows j++[(rows.getD j []).drop 1]
def Qfx (rows:List (List (List Int))) (i:Nat):List (List (List Int)):=Ol i rows rows.length
def Lz (f:Nat->List Int) (rows:List (List (List Int))):Nat->List Int
 | 0=>[]
 |
  i+1=>if ((rows.getD i []).getD 0 []).length=0 then Lz f rows i else
  if i % 2=0 then D6 (Lz f rows i) (Uo ((rows.getD i []).getD 0 []) (f i)) else S9 (Lz f rows i) (Uo ((rows.getD i []).getD 0 []) (f i))
def Qci:Nat->List (List (List Int))->List Int
 | 0,_=>[1]
 | k+1,rows=>Lz (λi=>Qci k (Qfx rows i)) rows (k+1)
structure Sq (s:Nat) (ds:List Nat) (k w:Nat) (rows:List (List (List Int))):Prop where
 l:rows.length=k
 w:∀ r∈rows,r.length=w
 t:∀ r∈rows,∀ p∈r,Ud p
 b:∀ r∈rows,∀ p∈r,Bd s p
 n:∀ r∈rows,∀ (j:Nat) (p:List Int),r[j]? = some p->p.length≤ds.getD j 0+1
theorem Qkl {i:Nat} {rows:List (List (List Int))}:∀ {j:Nat} {r:List (List Int)},j≤rows.length->r∈Ol i rows j->∃ q∈rows,r=q.drop 1
 | 0,r,_,h=>by simp [Ol] at h
 |
  j+1,r,hj,h=>by
  simp only [Ol] at h
  split at h
  ·exact Qkl (by omega) h
  ·rcases Qx.1 h with h | h
   ·exact Qkl (by omega) h
   ·rw [Qm.1 h];exact ⟨rows.getD j [],Qa (i:=j) (by rw [Qh,Qe (by omega)]; rfl),rfl⟩
theorem Qkk {i:Nat} {rows:List (List (List Int))}:∀ (j:Nat),(Ol i rows j).length=if i<j then j-1 else j
 | 0=>rfl
 |
  j+1=>by
  have ih:=Qkk (i:=i) (rows:=rows) j;simp only [Ol]
  split
  ·rename_i e; subst e; rw [ih,if_neg (by omega),if_pos (by omega)]; omega
  ·rw [Q5,ih,Ki]
   split <;> split <;> omega
theorem Sq.min {s d k w:Nat} {ds:List Nat} {rows:List (List (List Int))} (h:Sq s (d::ds) (k+1) (w+1) rows) {i:Nat} (hi:i<k+1):Sq s ds k w (Qfx rows i):=by
 have hl:=h.l;have hm:∀ {r:List (List Int)},r∈Qfx rows i->∃ q∈rows,r=q.drop 1:=λh=>Qkl (Qn _) h
 refine ⟨by unfold Qfx; rw [Qkk,hl,if_pos hi]; omega,λr hr=>?_,λr hr p hp=>?_,λr hr p hp=>?_,λr hr j p hp=>?_⟩
 ·obtain ⟨q,hq,rfl⟩:=hm hr;rw [Zq,h.w q hq]; omega
 all_goals obtain ⟨q,hq,rfl⟩:=hm hr
 ·exact h.t q hq p (Qz hp)
 ·exact h.b q hq p (Qz hp)
 ·rw [Z2] at hp;have:=h.n q hq (1+j) p hp;rw [Jz 1 j] at this;exact this
theorem Sq.at {s d k w:Nat} {ds:List Nat} {rows:List (List (List Int))} (h:Sq s (d::ds) k (w+1) rows) {i:Nat} (hi:i<k):∃ p r,rows[i]? = some (p::r)/\(rows.getD i []).getD 0 []=p/\Ud p/\Bd s p/\p.length<=d+1:=by
 obtain ⟨r,hr⟩:=gxE (l:=rows) (i:=i) (by rw [h.l]; exact hi);have hm:=Qa hr;cases r with
 | nil=>have:=h.w _ hm; simp at this
 |
  cons p r =>
  have e:rows.getD i []=p::r:=by rw [Qh,hr]; rfl
  refine ⟨p,r,hr,by rw [e]; rfl,h.t _ hm p (by simp),h.b _ hm p (by simp),h.n _ hm 0 p rfl⟩
theorem Qo9 {s d k w:Nat} {ds:List Nat} {f:Nat->List Int} {rows:List (List (List Int))} {B L:Nat} (h:Sq s (d::ds) k (w+1) rows) (hn:d<31) (hf:∀ i,i<k->Bd B (f i)/\(f i).length<=L+1):∀ i,i<=k->Ud (Lz f rows i)/\Bd (s+B+5+i) (Lz f rows i)/\(Lz f rows i).length<=d+L+1
 | 0,_=>⟨rfl,λz hz=>(by cases hz),Qg _⟩
 |
  i+1,hi=>by
  obtain ⟨h1,h2,h3⟩:=Qo9 h hn hf i (by omega);obtain ⟨p,r,_,e,t,b,l⟩:=h.at (i:=i) (by omega);obtain ⟨f1,f2⟩:=hf i (by omega);have hp1:Bd (s+B+5) (Uo p (f i)):=Rk b f1 (by omega);have hp2:=Hl p (f i);simp only [Lz];rw [e]
  split
  ·exact ⟨h1,W7 h2 (by omega),h3⟩
  ·split
   ·exact ⟨Uw _ _,W7 (Qcx h2 hp1) (by omega),Qd (Of _ _) (by omega)⟩
   ·exact ⟨Uw _ _,W7 (Qoo h2 hp1) (by omega),Qd (Qkh _ _) (by omega)⟩
theorem Qh7 {s:Nat}:∀ (k:Nat) (ds:List Nat) (rows:List (List (List Int))),k<=4->ds.length=k->ds.sum<31->Sq s ds k k rows->Ud (Qci k rows)/\Bd (k*(s+10)+1) (Qci k rows)/\(Qci k rows).length<=ds.sum+1
 | 0,ds,rows,_,_,_,_=>⟨rfl,λz hz=>(by simp [Qci] at hz; subst hz; rw [J1]; decide),by simp [Qci]⟩
 | k+1,[],rows,_,hl,_,_=>by simp at hl
 |
  k+1,d::ds,rows,hk,hl,hd,h=>by
  rw [Vu] at hd;have ih:=λi (hi:i<k+1)=>Qh7 k ds (Qfx rows i) (by omega) (by simpa using hl) (by omega) (h.min hi)
  obtain ⟨h1,h2,h3⟩:=Qo9 (f:=λi=>Qci k (Qfx rows i)) (B:=k*(s+10)+1) (L:=ds.sum) h (by omega) (λi hi=>⟨(ih i hi).2.1,(ih i hi).2.2⟩) (k+1) (Qn _);have e1:(k+1)*(s+10)=k*(s+10)+(s+10):=Z6 ..;rw [Vu];exact ⟨h1,W7 h2 (by omega),h3⟩
def Lo (a b c:Crv):List (List (List Int)):=[[a.x,a.y,[a.d]],[b.x,b.y,[b.d]],[c.x,c.y,[c.d]]]
def Ny (a b c:Crv):List Int:=Qci 3 (Lo a b c)
end Orr
