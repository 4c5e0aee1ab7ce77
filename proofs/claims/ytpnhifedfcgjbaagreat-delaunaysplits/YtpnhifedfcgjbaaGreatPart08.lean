/- K4 S1 S2 S3 R5 R6 RefGL R7 RatOkL R8 R9 RefCL R10 RawL NewsL KGoL SortQ BegL R11 R12 R13 R14 R15 R16 R17 R18 PairN PairQ SplitL PW1 R21 -/
import Derived.Test.YtpnhifedfcgjbaaGreatPart07
import Derived.Test.YtpnhifedfcgjbaaGreatPart00
import Derived.Test.YtpnhifedfcgjbaaGreatPart05
set_option linter.all false
namespace Orr
open Go Go.Proofs Orq
set_option maxRecDepth 10000
theorem Qj8 {at_:Tm} {x:Ct}:∀ {l:List Wt} {w:Wt},Dl l x at_=some w->w=fresh x\/∃ v∈l,v.known=true/\v.c.p=x.p/\w=⟨x,true,v.fails⟩/\∀ t,v.fails=some t->∃ c,Qi4 t at_=some c/\0<c
 | [],w,h=>by simp only [Dl] at h; injection h with h; exact .inl h.symm
 |
  v::l,w,h=>by
  simp only [Dl] at h;have tl:Dl l x at_=some w->w=fresh x\/∃ v'∈v::l,v'.known=true/\v'.c.p=x.p/\w=⟨x,true,v'.fails⟩/\∀ t,v'.fails=some t->∃ c,Qi4 t at_=some c/\0<c:=λh=>by
   rcases Qj8 h with h | ⟨v',h1,h2⟩
   ·exact .inl h
   ·exact .inr ⟨v',Qi _ h1,h2⟩
  split at h
  ·rename_i hk;cases hf:v.fails with
   |
    none =>
    rw [hf] at h;injection h with h;exact .inr ⟨v,Qr ..,hk.2.1,hk.2.2,by rw [hf]; exact h.symm,λt ht=>by rw [hf] at ht; cases ht⟩
   |
    some t =>
    rw [hf] at h;obtain ⟨c,c1,h⟩:=Qe.1 h
    split at h
    ·rename_i h0;injection h with h;exact .inr ⟨v,Qr ..,hk.2.1,hk.2.2,by rw [hf]; exact h.symm,λu hu=>by rw [hf] at hu; injection hu with hu; subst hu; exact ⟨c,c1,h0⟩⟩
    ·exact tl h
  ·exact tl h
theorem lay_ok {c:Cr} {at_:Tm} {l:List Ct} {ws:List Wt} (ev:Int) (hc:CrOk c) (ha:Va at_) (hl:∀ x∈l,Cp x.p) (hn:l.length≤1000) (h:Qdk c.l at_ (Ge l)=some ws):CrOk ⟨at_,ws,ev⟩:=by
 obtain ⟨h1,h2⟩:=Qdl h;refine ⟨ha,λw hw=>?_,by show ws.length<=1000; rw [h1,Cz]; exact hn⟩;obtain ⟨i,hi⟩:=Jm hw;have hil:i<(Ge l).length:=by rw [<-h1]; exact (Qd.1 hi).1
 obtain ⟨v,h3,h4⟩:=h2 i _ (Qf hil);rw [hi] at h4; injection h4 with h4; subst h4;have hx:=hl _ (Qa4 (Xu hil));rcases Qj8 h3 with e | ⟨v,v1,_,v3,e,_⟩
 ·rw [e]; exact ⟨hx,λt ht=>by cases ht⟩
 ·rw [e]; exact ⟨hx,λt ht=>(hc.l v v1).f t ht⟩
def goF {β:Type} (Bc:Tm->List Ct) (Br:Tm->β) (t:Rat):Nat->Cr->β->Int->Option (Cr×β×Int)
 | 0,_,_,_=>none
 |
  k+1,c,r,n=>(Of c.now c.l).bind λws=>(Qtb ws).bind λo=>match o with
  | none=>some (⟨tq t,ws,c.ev⟩,r,n)
  | some a=>if 0<Ul a t then some (⟨tq t,ws,c.ev⟩,r,n) else (Qdk ws a (Ge (Bc a))).bind λw2=>goF Bc Br t k ⟨a,w2,c.ev+1⟩ (Br a) (n+1)
theorem Q89 {ws:List Wt} {a:Tm} (h:Qtb ws=some (some a)) (hv:∀ t∈ws.filterMap (·.fails),Va t):a∈ws.filterMap (·.fails)/\∀ t∈ws.filterMap (·.fails),¬Tl t a:=by
 unfold Qtb at h;cases hf:ws.filterMap (·.fails) with
 | nil=>rw [hf] at h; injection h with h; cases h
 |
  cons b l =>
  rw [hf] at h hv;obtain ⟨m,m1,m2⟩:=Vb.1 h;injection m2 with m2; subst m2;obtain ⟨m',n1,n2,n3⟩:=Qfq l b hv;rw [m1] at n1; injection n1 with n1; subst n1;exact ⟨n2,n3⟩
theorem Zjj {c:Cr} {ws:List Wt} {a:Tm} (hc:CrOk c) (h:Of c.now c.l=some ws) (hr:Qtb ws=some (some a)):Va a:=by
 have hc':=Qh1 hc h;have hv:∀ t∈ws.filterMap (·.fails),Va t:=λt ht=>by
  obtain ⟨w,w1,w2⟩:=Jk.1 ht;exact (hc'.l w w1).f t w2
 exact hv a (Q89 hr hv).1
structure BuildOk (Bc:Tm->List Ct):Prop where
 p:∀ a,Va a->∀ x∈Bc a,Cp x.p
 n:∀ a,Va a->(Bc a).length<=1000
theorem Qal {T:Nat} {c:Cr} {r0 r1:List (List LV)}:G5 Tryz.prog 22 [.one (.ow 0 0)] [.blk T (Md c r0 r1)] [.one (.int .i64 c.ev)] [.blk T (Md c r0 r1)]:=by
 refine Fq Tryz.func22 rfl ?_;exact ed tt [] [0] [] rfl trivial


abbrev idl (l:List Int):List (List LV):=l.map λ(z:Int)=>[.int .i64 z]
theorem Qpe {l:List Int} {i:Nat} {z:Int} (h:l[i]? = some z):(idl l)[i]? = some [.int .i64 z]:=Fb h
def Bu (v n:Int):Int:=if n<1 then 0 else v.emod n
theorem Q4i {v n:Int} (h:0<n):(if v.tmod n<0 then v.tmod n+n else v.tmod n)=v % n:=by
 have h3:=Vv v (show n≠0 by omega);have h4:=Y3 v h;have h1:=Int.tmod_eq_emod (a:=v) (b:=n);have hn:((n.natAbs:Nat):Int)=n:=by omega
 split at h1
 ·rw [h1]; simp; omega
 ·rename_i hc;rw [h1,hn];have:v % n≠0:=λe=>hc (.inr (Yg e))
  rw [if_pos (by omega)]; omega
theorem Qc2 {v n:Int} (hv:-9223372036854775808<=v/\v<=9223372036854775807) (hn:n<=1000000000):W5 Tryz.prog 34 [.one (.int .i64 v),.one (.int .i64 n)] [.one (.int .i64 (Bu v n))]:=by
 unfold Bu;by_cases h:n<1
 ·rw [if_pos h];exact w tt Tryz.func34 rfl [.t (by simpa using h)] rfl rfl trivial
 ·rw [if_neg h];have e:=Q4i (v:=v) (n:=n) (by omega);have h3:=Vv v (show n≠0 by omega);have h4:=Y3 v (show 0<n by omega);show W5 Tryz.prog 34 [.one (.int .i64 v),.one (.int .i64 n)] [.one (.int .i64 (v % n))];by_cases h0:v.tmod n<0
  ·rw [if_pos h0] at e;have b:-n<=v.tmod n:=by omega
   exact w tt Tryz.func34 rfl [.f (by simpa using h),.t (by simpa using h0)] rfl (by rw [e]) (by simp [W3]; omega)
  ·rw [if_neg h0] at e;exact w tt Tryz.func34 rfl [.f (by simpa using h),.f (by simpa using h0)] rfl (by rw [e]) (by simp [W3]; omega)
end Orr
namespace Orr
open Go Go.Proofs
set_option maxRecDepth 10000
def frow (p:List Rat):List (List LV):=p.map fr
theorem H4 (p:List Rat):(frow p).length=p.length:=by simp [frow]
theorem Dh {p:List Rat} {i:Nat} {q:Rat} (h:p[i]? = some q):(frow p)[i]? = some (fr q):=Fb h
theorem Qmt (p:List Rat) (q:Rat):frow (p++[q])=frow p++[fr q]:=by simp [frow]
theorem Qfg (p:List Rat):∀ c∈frow p,c.length=4:=λc hc=>by obtain ⟨x,_,rfl⟩:=Zd.1 hc; rfl
abbrev rp (p:List Rat):LV:=.row (frow p)
theorem Qw1 (q:Rat):∀ c∈[fr q],c.length=4:=λc hc=>by rw [Qm.1 hc]; rfl
theorem Q6b:W5 Tryz.prog 112 [] [.agg (fr 0)]:=w tt Tryz.func112 rfl [.c [] (Qbz (n:=0) (by decide))] rfl rfl trivial
theorem Ix {p:List Rat}:W5 Tryz.prog 73 [.one (rp p)] [.one (rp (Nb p))]:=by
 refine Fq Tryz.func73 rfl (ln 0 rfl rfl λhl=>?_);rw [H4] at hl;have hpl:=H4 p;refine go tt [] rfl trivial ?_;refine lp (S:=Nat) 0 (λL1 n=>(3,.v (.one (.int .i64 (n:Int))))::L1) (λ_=>[]) id (λn=>n<=p.length/\∀ j x,n<=j->p[j]? = some x->x=0) (frow p).length ⟨by rw [hpl]; exact Qn _,λj x h1 h2=>by
  have:=(Qd.1 h2).1; rw [hpl] at h1; omega⟩ rfl (λ_ _=>rfl) rfl λn hs=>?_
 obtain ⟨h1,h2⟩:=hs;cases n with
 |
  zero =>
  have e:=Qf8 h1 (λj x h=>h2 j x h) (λh=>absurd h (by decide));exact en tt [.g 8 false (by simp),.f rfl,.i 0] rfl (by rw [e]; rfl) (by simp [W3])
 |
  succ n =>
  obtain ⟨x,hx⟩:=gxE (l:=p) (i:=n) (by omega);have hn:=Rat.num_eq_zero (q:=x);by_cases h0:x=0
  ·refine go tt [.g 8 true (by simp),.r 11 (eI (b:=(n:Int)) (by simp)),.x (Dh hx),.c [] (Pd (z:=x.num)),.t (decide_eq_true (hn.2 h0)),.r 18 (eI (b:=(n:Int)) (by simp))] rfl (by simp [W3]; omega) ?_;exact rd n (by simp) ⟨by omega,λj y h3 h4=>by
    rcases Y5 h3 with rfl | h3
    ·rw [hx] at h4; injection h4 with h4; rw [<-h4,h0]
    ·exact h2 j y h3 h4⟩ rfl
  ·have e:=Qf8 h1 (λj x h=>h2 j x h) (λ_=>⟨x,hx,h0⟩);exact en tt [.g 8 true (by simp),.r 11 (eI (b:=(n:Int)) (by simp)),.x (Dh hx),.c [] (Pd (z:=x.num)),.f (decide_eq_false λh=>h0 (hn.1 h)),.i (n+1)] rfl (by rw [e]; simp [rp,frow,Yd]) (by simp [W3,hpl] <;> omega)
theorem Zgv {p:List Rat} {i:Nat} (hi:i<1099511627776):W5 Tryz.prog 111 [.one (rp p),.one (.int .i64 (i:Int))] [.agg (fr (p.getD i 0))]:=by
 have hpl:=H4 p;by_cases h:i<p.length
 ·have e:p.getD i 0=p[i]:=by rw [Qh,Qf h]; rfl
  rw [e];exact w tt Tryz.func111 rfl [.g 7 false (decide_eq_false (by omega)),.f (decide_eq_false (by omega)),.x (Dh (Qf h))] rfl rfl trivial
 ·have e:p.getD i 0=0:=by rw [Qh,Qu (by omega)]; rfl
  rw [e];exact w tt Tryz.func111 rfl [.g 7 false (decide_eq_false (by omega)),.t (decide_eq_true (by omega)),.c [] Q6b] rfl rfl trivial
theorem Qv1:W5 Tryz.prog 108 [.one (ids [1])] [.one (rp (zp [1]))]:=by
 have cc:=Ix (p:=zp [1]);rw [Mz,show trim [1]=[1] from rfl] at cc;refine Fq Tryz.func108 rfl ?_;refine go tt [.o 3 35 4] rfl trivial ?_;refine lp (S:=Nat) 1 (λL1 i=>(7,.v (.one (.int .i64 (i:Int))))::(3,.v (.one (.orow 0 4 none)))::L1) (λi=>[.row false 35 4 (frow ((zp [1]).take i))]) (λi=>1-i) (λi=>i<=1) 0 (by decide) rfl (λ_ _=>rfl) rfl λi hi=>?_
 rcases (show i=0\/i=1 by omega) with rfl | rfl
 ·refine go tt [.t rfl,.x (l:=idl [1]) (i:=0) (xs:=[.int .i64 1]) rfl,.c [] (Qbz (n:=1) (by decide)),.s (sz:=4) (Qw1 _)] rfl (by simp [W3,frow]) ?_;exact rd 1 (by omega) (by omega) rfl
 ·exact en tt [.f rfl,.c [] cc] rfl rfl trivial
theorem Qam {p:List Int} (hb:Bd 90000000 p) (hl:p.length<=1000000):W5 Tryz.prog 28 [pr p] [.one (rp (zp (trim p)))]:=by
 have hpl:(p.map Fp).length=p.length:=by simp
 have cc:=Ix (p:=zp p);rw [Mz] at cc;show W5 Tryz.prog 28 [.one (.row (p.map Fp))] _;refine Fq Tryz.func28 rfl ?_;refine go tt [.o 3 35 4] rfl trivial ?_;refine lp (S:=Nat) 1 (λL1 i=>(7,.v (.one (.int .i64 (i:Int))))::(3,.v (.one (.orow 0 4 none)))::L1) (λi=>[.row false 35 4 (frow (zp (p.take i)))]) (λi=>p.length-i) (λi=>i<=p.length) 0 (Qg _) rfl (λ_ _=>rfl) rfl λi hi=>?_
 have hol:(frow (zp (p.take i))).length=i:=by rw [H4,Td,Qx]; omega
 by_cases h:i<p.length
 ·obtain ⟨z,hz⟩:=gxE (l:=p) (i:=i) h;have hzb:=hb z (Qa hz);have hg:frow (zp (p.take (i+1)))=frow (zp (p.take i))++[fr (z:Rat)]:=by
   rw [Z1,hz]; simp [frow,zp]
  refine go tt [.t (decide_eq_true (by omega)),.x (Fb (f:=Fp) hz),.c [] (Qoh (z:=z) (by omega)),.c [] (B8 (n:=1) (by decide)),.c [] (Sx (n:=z)),.s (sz:=4) (Qw1 _)] rfl (by simp [W3,hol,-List.getD_eq_getElem?_getD]; omega) ?_;exact rd (i+1) (by omega) h (by rw [hg]; rfl)
 ·have e:i=p.length:=by omega
  rw [e,Q4];exact en tt [.f (decide_eq_false (by omega)),.c [] cc] rfl rfl trivial
theorem Zgu {p:List Int} (hb:Bd 90000000 p) (hl:p.length<=1000000):W5 Tryz.prog 229 [.one (rp (zp p))] [pr p]:=by
 have hpl:(frow (zp p)).length=p.length:=by rw [H4,Td]
 show W5 Tryz.prog 229 [.one (rp (zp p))] [.one (.row (p.map Fp))];refine Fq Tryz.func229 rfl ?_;refine go tt [.o 3 55 2] rfl trivial ?_;refine lp (S:=Nat) 1 (λL1 i=>(7,.v (.one (.int .i64 (i:Int))))::(3,.v (.one (.orow 0 2 none)))::L1) (λi=>[.row false 55 2 ((p.take i).map Fp)]) (λi=>p.length-i) (λi=>i<=p.length) 0 (Qg _) rfl (λ_ _=>rfl) rfl λi hi=>?_
 have hol:((p.take i).map Fp).length=i:=by rw [Q7,Qx]; omega
 by_cases h:i<p.length
 ·obtain ⟨z,hz⟩:=gxE (l:=p) (i:=i) h;have hzb:=hb z (Qa hz);have hq:∀ c∈[Fp z],c.length=2:=λc hc=>by rw [Qm.1 hc]; rfl
  have hg:(p.take (i+1)).map Fp=(p.take i).map Fp++[Fp z]:=by
   rw [Z1,hz]; simp
  refine go tt [.t (decide_eq_true (by omega)),.x (Dh (Zby hz)),.c [] (Q54 (z:=z) (by omega)),.s (sz:=2) hq] rfl (by simp [W3]; omega) ?_;exact rd (i+1) (by omega) h (by rw [hg]; rfl)
 ·have e:i=p.length:=by omega
  rw [e,Q4];exact en tt [.f (decide_eq_false (by omega))] rfl rfl trivial
theorem Qvx {p q:List Rat} (hp:Rb 20000000 p) (hq:Rb 20000000 q) (hlp:p.length<=1000000) (hlq:q.length<=1000000):W5 Tryz.prog 55 [.one (rp p),.one (rp q)] [.one (rp (Q36 p q))]:=by
 have h1:=H4 p;have h2:=H4 q;obtain ⟨M,hM⟩:=nmE (max p.length q.length);have cc:=Ix (p:=Im (λi=>p.getD i 0+q.getD i 0) M);unfold Q36;rw [<-hM];refine Fq Tryz.func55 rfl ?_;refine go tt [.o 5 35 4] rfl trivial ?_;refine lp (S:=Nat) 1 (λL1 i=>(6,.v (.one (.int .i64 (i:Int))))::(5,.v (.one (.orow 0 4 none)))::L1) (λi=>[.row false 35 4 (frow (Im (λi=>p.getD i 0+q.getD i 0) i))]) (λi=>M-i) (λi=>i<=M) 0 (Qg _) rfl (λ_ _=>rfl) rfl λi hi=>?_
 have hol:(frow (Im (λi=>p.getD i 0+q.getD i 0) i)).length=i:=by rw [H4,Qej]
 by_cases h:i<M
 ·refine go tt [.r 12 (eI (b:=(M:Int)) (by omega)),.t (decide_eq_true (by omega)),.c [] (Zgv (p:=p) (i:=i) (by omega)),.c [] (Zgv (p:=q) (i:=i) (by omega)),.c [] (Q5c (hp.getD (by decide) i) (hq.getD (by decide) i)),.s (sz:=4) (Qw1 _)] rfl (by simp [W3,hol,-List.getD_eq_getElem?_getD]; omega) ?_;exact rd (i+1) (by omega) h (by rw [Qnz,Qmt]; rfl)
 ·have e:i=M:=by omega
  rw [e];exact en tt [.r 12 (eI (b:=(M:Int)) (by omega)),.f (decide_eq_false (by omega)),.c [] cc] rfl rfl trivial
theorem Ej {p:List Rat} {c:Rat} (hp:Rb 40000000 p) (hc:Qs 40000000 c) (hlp:p.length<=1000000):W5 Tryz.prog 156 [.one (rp p),.agg (fr c)] [.one (rp (Sw p c))]:=by
 have h1:=H4 p;have cc:=Ix (p:=Im (λi=>p.getD i 0*c) p.length);unfold Sw;refine Fq Tryz.func156 rfl ?_;refine go tt [.o 5 35 4] rfl trivial ?_;refine lp (S:=Nat) 2 (λL1 i=>(9,.v (.one (.int .i64 (i:Int))))::(5,.v (.one (.orow 1 4 none)))::L1) (λi=>[.blk 35 (fr c),.row false 35 4 (frow (Im (λi=>p.getD i 0*c) i))]) (λi=>p.length-i) (λi=>i<=p.length) 0 (Qg _) rfl (λ_ _=>rfl) rfl λi hi=>?_
 have hol:(frow (Im (λi=>p.getD i 0*c) i)).length=i:=by rw [H4,Qej]
 by_cases h:i<p.length
 ·have hg:p[i]? = some (p.getD i 0):=by rw [Qh,Qf h]; rfl
  refine go tt [.t (decide_eq_true (by omega)),.x (Dh hg),.c [] (Q5p (hp.getD (by decide) i) hc),.s (sz:=4) (Qw1 _)] rfl (by simp [W3,hol,-List.getD_eq_getElem?_getD]; omega) ?_;exact rd (i+1) (by omega) h (by rw [Qnz,Qmt]; rfl)
 ·have e:i=p.length:=by omega
  rw [e];exact en tt [.f (decide_eq_false (by omega)),.c [] cc] rfl rfl trivial
theorem Qv0 {p:List Rat} (hp:Rb 40000000 p) (hlp:p.length<=1000000):W5 Tryz.prog 104 [.one (rp p)] [.one (rp (Qqf p))]:=by
 have cs:=Ej (p:=p) (c:=-1) hp ⟨by decide,by decide⟩ hlp;have co:=Qbz (n:=-1) (by decide);rw [show ((-1:Int):Rat)=-1 from rfl] at co;exact w tt Tryz.func104 rfl [.c [] co,.c [] cs] rfl rfl trivial
theorem Zfc {s t:Nat} {a b:Rat} (ha:Qs s a) (hb:Qs t b):Qs (s+t+1) (a*b):=by
 rw [<-Qm8];unfold Fl;rw [if_neg (Jh (Ni a) (Ni b))];have h1:=Ur a.num b.num;have h2:=Ur (a.den:Int) (b.den:Int);have:=ha.1; have:=ha.2; have:=hb.1; have:=hb.2;exact Qs.divInt (by omega) (by omega) (by omega)
theorem Q96 {s:Nat} {p:List Rat} (hp:Rb s p):Rb (s+2) (Qqf p):=by
 unfold Qqf Sw;refine Rb.trim (Zf3 λi hi=>?_);have h1:Qs (s+0) (p.getD i 0):=by
  have hi:i<p.length:=hi;rw [Qh,Qf hi];exact hp _ (Xu hi)
 have:=Zfc h1 (show Qs 1 (-1:Rat) from ⟨by decide,by decide⟩);exact this.mono (by omega)
theorem Qt6 (p:List Rat):(Qqf p).length<=p.length:=by
 unfold Qqf Sw;exact Qc (Qnt _) (by rw [Qej]; exact Qn _)
theorem Q6m {p q:List Rat} (hp:Rb 19000000 p) (hq:Rb 19000000 q) (hlp:p.length<=1000000) (hlq:q.length<=1000000):W5 Tryz.prog 106 [.one (rp p),.one (rp q)] [.one (rp (Qk1 p q))] :=
 w tt Tryz.func106 rfl [.c [] (Qv0 (hq.mono (by decide)) hlq),.c [] (Qvx (hp.mono (by decide)) ((Q96 hq).mono (by decide)) hlp (Qc (Qt6 q) hlq))] rfl rfl trivial
theorem Q5q {a b:Int} (ha:Ug a<=40000000) (hb:Ug b<=40000000):W5 Tryz.prog 107 [.agg (fr (a:Rat)),.agg (fr (b:Rat))] [.agg (fr ((a*b:Int):Rat))]:=by
 have h:=Q5p (B6 ha (by decide)) (B6 hb (by decide));rw [<-Xj] at h; exact h
theorem Zh5 {a b:Int} (ha:Ug a<=20000000) (hb:Ug b<=20000000):W5 Tryz.prog 110 [.agg (fr (a:Rat)),.agg (fr (b:Rat))] [.agg (fr ((a+b:Int):Rat))]:=by
 have h:=Q5c (B6 ha (by decide)) (B6 hb (by decide));rw [<-Vz] at h; exact h
theorem Qsi (l:List Int) (i:Nat) (z:Int):(frow (zp l)).set i (fr (z:Rat))=frow (zp (l.set i z)):=by simp [frow,zp,Ym]
theorem Zbz {p:List Int} {i:Nat} (h:i<p.length):(zp p)[i]? = some ((p.getD i 0:Int):Rat):=Zby (Gt h)
theorem Hn {p:List Int} {i:Nat} (h:i<p.length):(frow (zp p))[i]? = some (fr ((p.getD i 0:Int):Rat)):=Dh (Zbz h)
theorem fzl (p:List Int):(frow (zp p)).length=p.length:=by rw [H4,Td]
abbrev zR:List LV:=[.nils,.bool false,.nils,.bool false]
theorem Qo7 {n i:Nat} (h:i<n):(List.replicate i (fr 0)++List.replicate (n-i) zR).set i (fr 0)=List.replicate (i+1) (fr 0)++List.replicate (n-(i+1)) zR:=by
 rw [List.set_append_right _ _ (by simp),X8,Yo,show n-i=n-(i+1)+1 by omega,Jv (n:=n-(i+1)),List.set_cons_zero,List.replicate_succ' (n:=i),Ze]; rfl
theorem Qlh (n:Nat):List.replicate n (fr 0)++List.replicate (n-n) zR=frow (zp (List.replicate n 0)):=by simp [zp,frow]
theorem Qb1 {p q:List Int} {s t:Nat} (hlp:p.length<=1000000) (hlq:q.length<=1000000) (hp:Bd s p) (hq:Bd t q) (hst:s+t<=19000000):W5 Tryz.prog 56 [.one (rp (zp p)),.one (rp (zp q))] [.one (rp (zp (Um p q)))]:=by
 have hpl:=fzl p;have hql:=fzl q;rcases Qy p.length with h0 | h0
 ·have e:Um p q=[]:=by unfold Um; rw [if_pos (.inl h0)]
  rw [e];exact w tt Tryz.func56 rfl [.g 12 true (decide_eq_true (by omega)),.t rfl] rfl rfl trivial
 rcases Qy q.length with h1 | h1
 ·have e:Um p q=[]:=by unfold Um; rw [if_pos (.inr h1)]
  rw [e];exact w tt Tryz.func56 rfl [.g 12 false (decide_eq_false (by omega)),.t (decide_eq_true (by omega))] rfl rfl trivial
 have e:Um p q=trim (By p q (List.replicate (p.length+q.length-1) 0) p.length):=by unfold Um; rw [if_neg (by omega)]
 rw [e];obtain ⟨N,hN⟩:=nmE (p.length+q.length-1);rw [<-hN];obtain ⟨o,ho⟩:=nmE (List.replicate N (0:Int));rw [<-ho];have hol:o.length=N:=by rw [ho]; simp
 have ho0:∀ m,o.getD m 0=0:=λm=>by rw [ho]; exact To N m
 have cc:=Ix (p:=zp (By p q o p.length));rw [Mz] at cc;refine Fq Tryz.func56 rfl ?_;refine go tt [.g 12 false (decide_eq_false (by omega)),.f (decide_eq_false (by omega)),.r 22 (eI (b:=(N:Int)) (by omega)),.i N,.i N,.r 25 (eI (b:=(N:Int)) (by simp))] rfl (by simp [W3]; omega) ?_;refine lp (S:=Nat) 1 (λL1 i=>(26,.v (.one (.int .i64 (i:Int))))::L1) (λi=>[.row false 35 4 (List.replicate i (fr 0)++List.replicate (N-i) zR)]) (λi=>N-i) (λi=>i<=N) 0 (Qg _) rfl (λ_ _=>rfl) rfl λi hi=>?_
 by_cases hlt:i<N
 ·refine go tt [.t (decide_eq_true (by omega)),.c [] Q6b,.i i] rfl (by simp [W3]; omega) ?_;rw [Qo7 hlt];exact rd (i+1) (by omega) hlt rfl
 have hiN:i=N:=by omega
 rw [hiN,Qlh,<-ho];clear hiN hlt hi;refine go tt [.f (decide_eq_false (by omega))] rfl trivial ?_;refine lp (S:=Nat) 1 (λL1 i=>(36,.v (.one (.int .i64 (i:Int))))::L1) (λi=>[.row false 35 4 (frow (zp (By p q o i)))]) (λi=>p.length-i) (λi=>i<=p.length) 0 (Qg _) rfl (λ_ _=>rfl) rfl λi hi=>?_
 by_cases hlt:i<p.length
 ·refine go tt [.t (decide_eq_true (by omega))] rfl trivial ?_;refine lp (S:=Nat) 1 (λL1 k=>(41,.v (.one (.int .i64 (k:Int))))::L1) (λk=>[.row false 35 4 (frow (zp (Ex (p.getD i 0) q i (By p q o i) k)))]) (λk=>q.length-k) (λk=>k<=q.length) 0 (Qg _) rfl (λ_ _=>rfl) rfl λk hk=>?_
  by_cases hk2:k<q.length
  ·have hm1:Ug ((Ex (p.getD i 0) q i (By p q o i) k).getD (i+k) 0)<=20000000:=Qc (L8 (t:=39) (Qpr (by rw [Bm]; omega) (Qpq (λj hj=>by omega) ho0 (λi j=>S4 (Ui hp i) (Ui hq j))) (λj=>S4 (Ui hp i) (Ui hq j)) (i+k)) (V3 (show i+1<549755813888 by omega) (by decide))) (by omega);have hm2:Ug (p.getD i 0*q.getD k 0)<=20000000:=Qc (Ur _ _) (by have:=Ui hp i; have:=Ui hq k; omega);have hml:(Ex (p.getD i 0) q i (By p q o i) k).length=N:=by rw [Ey,Bm,hol]
   have cm:=Q5q (a:=p.getD i 0) (b:=q.getD k 0) (Qc (Ui hp i) (by omega)) (Qc (Ui hq k) (by omega));have hfl:=fzl (Ex (p.getD i 0) q i (By p q o i) k);refine go tt [.t (decide_eq_true (by omega)),.i (i+k),.x (Hn (p:=Ex (p.getD i 0) q i (By p q o i) k) (i:=i+k) (by omega)),.x (Hn hlt),.x (Hn hk2),.c [] cm,.c [] (Zh5 hm1 hm2),.i (i+k)] rfl (by simp [W3,hfl,-List.getD_eq_getElem?_getD] <;> omega) ?_;rw [Qsi];exact rd (k+1) (by omega) hk2 rfl
  ·obtain rfl:k=q.length:=by omega
   exact go tt [.f (decide_eq_false (by omega))] rfl (by simp [W3]; omega) (rd (i+1) (by omega) hlt rfl)
 ·obtain rfl:i=p.length:=by omega
  exact en tt [.f (decide_eq_false (by omega)),.c [] cc] rfl rfl trivial
def Qsb (p:List Int) (n:Nat):List Int:=(List.range n).map λk=>p.getD (k+1) 0*((k+1:Nat):Int)
theorem Q7j (p:List Int) (n:Nat):(Qsb p n).length=n:=by simp [Qsb]
theorem Q28 (p:List Int) (n:Nat):Qsb p (n+1)=Qsb p n++[p.getD (n+1) 0*((n+1:Nat):Int)]:=by simp [Qsb,Kr]
theorem Qq7 (p:List Int) (z:Int):frow (zp (p++[z]))=frow (zp p)++[fr (z:Rat)]:=by simp [frow,zp]
theorem Qvy {p:List Int} (hp:Bd 40000000 p) (hl:p.length<=1000000):W5 Tryz.prog 52 [.one (rp (zp p))] [.one (rp (zp (U3 p)))]:=by
 have hpl:=fzl p;have cc:=Ix (p:=zp (Qsb p (p.length-1)));rw [Mz] at cc;refine Fq Tryz.func52 rfl ?_;refine go tt [.o 3 35 4] rfl trivial ?_;refine lp (S:=Nat) 1 (λL1 j=>(4,.v (.one (.int .i64 ((j+1:Nat):Int))))::(3,.v (.one (.orow 0 4 none)))::L1) (λj=>[.row false 35 4 (frow (zp (Qsb p j)))]) (λj=>p.length-j) (λj=>j<=p.length-1) 0 (Qg _) rfl (λ_ _=>rfl) rfl λj hj=>?_
 have hfl:=fzl (Qsb p j);rw [Q7j] at hfl;by_cases h:j+1<p.length
 ·have hk:Ug ((j+1:Nat):Int)<=40000000:=Qc (Qph (t:=38) (k:=j+1) (V3 (show j+1<274877906944 by omega) (by decide))) (by decide);refine go tt [.t (decide_eq_true (by omega)),.x (Hn h),.c [] (Qbz (n:=((j+1:Nat):Int)) (by omega)),.c [] (Q5q (Ui hp (j+1)) hk),.s (sz:=4) (Qw1 _)] rfl (by simp [W3,hfl,-List.getD_eq_getElem?_getD] <;> omega) ?_;exact rd (j+1) (by omega) (by omega) (by rw [Q28,Qq7]; rfl)
 ·have e:j=p.length-1:=by omega
  rw [e];exact en tt [.f (decide_eq_false (by omega)),.c [] cc] rfl rfl trivial
theorem Ziy (z:Int):fr (z:Rat)=[nd z.natAbs,sg z,.row [[.int .i64 1]],.bool false]:=by
 have e:Uq 1=[1]:=by rw [Ay (by decide),show 1 / 10000=0 from rfl,Ft]
 show [nd z.natAbs,sg z,nd 1,sg 1]=_;unfold nd dl;rw [e]; rfl
theorem Q6n {p:List Int} (hl:p.length<=1000000):W5 Tryz.prog 141 [.one (rp (zp p))] [.one (.bool true)]:=by
 have hpl:=fzl p;refine Fq Tryz.func141 rfl ?_;refine go tt [] rfl trivial ?_;refine lp (S:=Nat) 0 (λL1 i=>(6,.v (.one (.int .i64 (i:Int))))::L1) (λ_=>[]) (λi=>p.length-i) (λi=>i<=p.length) 0 (Qg _) rfl (λ_ _=>rfl) rfl λi hi=>?_
 by_cases h:i<p.length
 ·have hg:=Hn h;rw [Ziy] at hg;refine go tt [.t (decide_eq_true (by omega)),.x hg,.g 17 false rfl,.x hg,.x (l:=[[.int .i64 1]]) (i:=0) (xs:=[.int .i64 1]) rfl,.f rfl] rfl (by simp [W3]; omega) ?_;exact rd (i+1) (by omega) h rfl
 ·exact en tt [.f (decide_eq_false (by omega))] rfl rfl trivial
theorem Q1j:[LV.nils,LV.bool false].map Qhd=ri 0:=by
 show _=[nd 0,sg 0];unfold nd dl;rw [Ft]; rfl
theorem Qxc (p:List Int) (q:Rat):Int.sign (Sp p q.num q.den p.length).1=Fj p q:=by
 unfold Fj Zfa Mc;generalize (Sp p q.num q.den p.length).1=z;rcases Jr z 0 with h | h | h
 ·rw [if_pos h,Xt h]
 ·subst h; rfl
 ·rw [if_neg (by omega),if_pos h,X5 h]
theorem Qy4 {p:List Int} {q:Rat} (hp:Bd 30000000 p) (hl:p.length<=64) (hq:Qs 1000000 q):W5 Tryz.prog 80 [.one (rp (zp p)),.agg (fr q)] [.one (.int .i64 (Fj p q))]:=by
 have hpl:=fzl p;refine Fq Tryz.func80 rfl ?_;refine go tt [.c [] (Q6n (p:=p) (by omega)),.f rfl,.c [] (B8 (n:=1) (by decide)),.r 19 (eI (b:=(p.length:Int)-1-((0:Nat):Int)) (by simp; omega))] rfl (by simp [W3]; omega) ?_;refine nlb 1 rfl rfl rfl ?_;rw [Q1j];refine lp (S:=Nat) 3 (λL1 j=>(7,.v (.one (.int .i64 ((p.length:Int)-1-(j:Int)))))::L1) (λj=>[.blk 35 (fr q),.blk 33 (ri (Sp p q.num q.den j).1),.blk 33 (ri (Sp p q.num q.den j).2)]) (λj=>p.length-j) (λj=>j<=p.length) 0 (Qg _) rfl (λ_ _=>rfl) rfl λj hj=>?_
 have hv:=Qq0 (k:=j) hp hq.1 hq.2;have hjl:j*(1000000+1)<=p.length*(1000000+1):=Q0 _ (by omega);by_cases h:j<p.length
 ·have hc:=Ui hp (p.length-1-j);have hq1:=hq.1;have hq2:=hq.2;have hm1:Ug ((Sp p q.num q.den j).1*q.num)<=200000000:=Qc (Ur _ _) (by omega);have hm2:Ug (p.getD (p.length-1-j) 0*(Sp p q.num q.den j).2)<=200000000:=Qc (Ur _ _) (by omega);refine go tt [.t (decide_eq_true (by omega)),.c [] (Tn (a:=(Sp p q.num q.den j).1) (b:=q.num) (by omega) (by omega)),.r 29 (eI (b:=((p.length-1-j:Nat):Int)) (by omega)),.x (Hn (p:=p) (i:=p.length-1-j) (by omega)),.c [] (Tn (a:=p.getD (p.length-1-j) 0) (b:=(Sp p q.num q.den j).2) (by omega) (by omega)),.c [] (Qvs hm1 hm2),.c [] (Tn (a:=(Sp p q.num q.den j).2) (b:=(q.den:Int)) (by omega) (by omega)),.r 23 (eI (b:=(p.length:Int)-1-((j+1:Nat):Int)) (by omega))] rfl (by simp [W3] <;> omega) ?_;exact rd (j+1) (by omega) h rfl
 ·obtain rfl:j=p.length:=by omega
  exact en tt [.f (decide_eq_false (by omega)),.c [] Qy0] rfl (by rw [Qxc]) trivial
end Orr
namespace Orr
def Uz (p:List Int):Int:=p.getD (p.length-1) 0
def O6 (a b:List Int):Int:=if Uz b<0 then -(Uz a) else Uz a
def Eb (a b:List Int) (i:Nat):Int:=a.getD i 0*((Uz b).natAbs:Int)-(if a.length-b.length<=i then O6 a b*b.getD (i-(a.length-b.length)) 0 else 0)
def Qnr (a b:List Int):List Int:=Su a.length (Eb a b)
inductive RRun (b:List Int):Nat->List Int->List Int->Prop
 | stop {a:List Int}:a.length<b.length->RRun b 0 a a
 | step {k:Nat} {a r:List Int}:b.length<=a.length->a.length<=1000->Bd 9000000 a->Bd 9000000 b->RRun b k (Qnr a b) r->RRun b (k+1) a r
def Ek (p:List Int):Nat->Nat
 | 0=>0
 | i+1=>Int.gcd (Ek p i:Nat) (p.getD i 0)
def Qbe (p:List Int):Nat:=Ek p p.length
theorem Qe7 (p:List Int):∀ {i j:Nat},j<i->((Ek p i:Nat):Int)∣p.getD j 0
 | 0,_,h=>absurd h (Ww _)
 |
  i+1,j,h=>by
  simp only [Ek];rcases Za j i with h1 | h1
  ·exact Vo (Wi ..) (Qe7 p h1)
  ·rw [show j=i by omega]; exact Vf ..
theorem Qrw (p:List Int) (j:Nat):((Qbe p:Nat):Int)∣p.getD j 0:=by
 rcases Za j p.length with h | h
 ·exact Qe7 p h
 ·rw [Qh,Qu h]; exact Int.dvd_zero _
theorem Iy {s:Nat} {p:List Int} (h:Bd s p):∀ i,Ug ((Ek p i:Nat):Int)<=s
 | 0=>by simp [Ek,S0]
 |
  i+1=>by
  simp only [Ek];by_cases h0:p.getD i 0=0
  ·rw [h0,Int.gcd_zero_right]; exact Iy h i
  ·have h1:=Vf (Ek p i:Nat) (p.getD i 0);have h2:(Int.gcd (Ek p i:Nat) (p.getD i 0))<=(p.getD i 0).natAbs:=Vs (by omega) (by simpa using Xp.2 h1);have h3:=Ui h i;rw [Ri] at h3 ⊢;simp only [Z7];omega
theorem Q2y {p:List Int} {j i:Nat} (hj:j<i) (h:p.getD j 0≠0):0<Ek p i:=by
 have:=Qe7 p hj;rcases Qy (Ek p i) with h0 | h0
 ·rw [h0] at this;exact absurd (Int.zero_dvd.1 this) h
 ·exact h0
theorem Qrx {p:List Int} (ht:W9 p) (h:0<p.length):0<Qbe p:=Q2y (j:=p.length-1) (by omega) (Gn ht h)
def Pz (p:List Int):Int:=if Uz p<0 then -((Qbe p:Nat):Int) else ((Qbe p:Nat):Int)
def Gy (p:List Int):List Int:=Su p.length λi=>p.getD i 0 / Pz p
def Sv (p:List Int):List Int:=if Uz p<0 then Ta (Gy p) else Gy p
theorem Q3b (p:List Int) (j:Nat):Pz p∣p.getD j 0:=by
 unfold Pz
 split
 ·exact Wx.2 (Qrw p j)
 ·exact Qrw p j
theorem Q7u {p:List Int} (ht:W9 p) (h:0<p.length):Pz p≠0:=by
 have:=Qrx ht h;unfold Pz
 split <;> omega
theorem Qmh {s:Nat} {p:List Int} (h:Bd s p):Ug (Pz p)<=s:=by
 unfold Pz
 split
 ·rw [Gb]; exact Iy h _
 ·exact Iy h _
theorem Qxo {p:List Int} {c:Int} (hc:c≠0) (hd:∀ j,c∣p.getD j 0):Sw (zp p) (1 / (c:Rat))=zp (Su p.length λi=>p.getD i 0 / c):=by
 unfold Sw Su;rw [Qii (g:=λi=>p.getD i 0 / c) _ λi _=>?_,Mz,Td];obtain ⟨k,hk⟩:=hd i;have hc':(c:Rat)≠0:=λe=>hc (by exact_mod_cast e)
 rw [Qev,hk,Xm _ hc,Xj];grind
theorem Qir {s:Nat} {p:List Int} (h:Bd s p):Bd s (Gy p):=Qaj λi _=>Qc (Oa _ _) (Ui h i)
theorem Qfr (p:List Int):(Gy p).length<=p.length:=En _ _
theorem Q19 {s:Nat} {p:List Int} (h:Bd s p):Bd s (Sv p):=by
 unfold Sv
 split
 ·exact Qak (Qir h)
 ·exact Qir h
theorem Qwq (p:List Int):(Sv p).length<=p.length:=by
 unfold Sv
 split
 ·exact Qc (Dn _) (Qfr p)
 ·exact Qfr p
inductive GRun:Nat->List Int->List Int->List Int->Prop
 | stop (a:List Int):GRun 0 a [] a
 | step {k m:Nat} {a b r g:List Int}:0<b.length->b.length<=1000->Bd 9000000 b->RRun b m a r->r.length<=1000->Bd 9000000 r->W9 r->GRun k b (Gy r) g->GRun (k+1) a b g
theorem GRun.inv {k:Nat} {a b g:List Int} (h:GRun k a b g):(k=0/\b.length=0/\a=g)\/∃ j m r,k=j+1/\0<b.length/\b.length<=1000/\Bd 9000000 b/\RRun b m a r/\r.length<=1000/\Bd 9000000 r/\W9 r/\GRun j b (Gy r) g:=by
 cases h with
 | stop=>exact .inl ⟨rfl,rfl,rfl⟩
 | step h1 h2 h3 h4 h5 h6 h7 h8=>exact .inr ⟨_,_,_,rfl,h1,h2,h3,h4,h5,h6,h7,h8⟩
def Dx (k:Nat) (p:List Int):List Int:=List.replicate k 0++p
theorem Qxu (k:Nat) (p:List Int):(Dx k p).length=k+p.length:=by simp [Dx]
theorem Q2a {s k:Nat} {p:List Int} (h:Bd s p):Bd s (Dx k p):=λz hz=>by
 rcases Qw.1 hz with h1 | h1
 ·rw [Zr h1,S0]; exact Qg _
 ·exact h z h1
inductive DRun (b:List Int):Nat->List Int->List Int->List Int->List Int->Prop
 | stop {a q:List Int}:a.length<b.length->DRun b 0 a q q a
 | step {k:Nat} {a q qf r:List Int}:b.length<=a.length->a.length<=1000->Bd 9000000 a->Uz b≠0->Uz b∣Uz a->a.length-b.length<q.length ->
  DRun b k (S7 a (Dx (a.length-b.length) (Ux b (Uz a / Uz b)))) (q.set (a.length-b.length) (Uz a / Uz b)) qf r->DRun b (k+1) a q qf r
theorem DRun.inv {b a q qf r:List Int} {k:Nat} (h:DRun b k a q qf r):(k=0/\q=qf/\a=r/\a.length<b.length)\/∃ j,k=j+1/\b.length<=a.length/\a.length<=1000/\Bd 9000000 a/\Uz b≠0/\Uz b∣Uz a/\a.length-b.length<q.length /\
 DRun b j (S7 a (Dx (a.length-b.length) (Ux b (Uz a / Uz b)))) (q.set (a.length-b.length) (Uz a / Uz b)) qf r:=by
 cases h with
 | stop h=>exact .inl ⟨rfl,rfl,rfl,h⟩
 | step h1 h2 h3 h4 h5 h6 h7=>exact .inr ⟨_,rfl,h1,h2,h3,h4,h5,h6,h7⟩
def Sr (l:List (List Int)):List Int:=l.getD (l.length-1) []
inductive LRun:Nat->List (List Int)->List (List Int)->Prop
 | stop {l:List (List Int)}:(Sr l).length<=1->LRun 0 l l
 | step {k m:Nat} {l f:List (List Int)} {g:List Int}:1<(Sr l).length->(Sr l).length<=1000->W9 (Sr l)->Bd 9000000 (Sr l)->Bd 9000000 (U3 (Sr l))->GRun m (Gy (Sr l)) (Gy (U3 (Sr l))) g->l.length<=1000->LRun k (l++[g]) f->LRun (k+1) l f
theorem LRun.inv {k:Nat} {l f:List (List Int)} (h:LRun k l f):(k=0/\l=f/\(Sr l).length<=1)\/∃ j m g,k=j+1/\1<(Sr l).length/\(Sr l).length<=1000/\W9 (Sr l)/\Bd 9000000 (Sr l)/\Bd 9000000 (U3 (Sr l))/\GRun m (Gy (Sr l)) (Gy (U3 (Sr l))) g/\l.length<=1000/\LRun j (l++[g]) f:=by
 cases h with
 | stop h=>exact .inl ⟨rfl,rfl,h⟩
 | step h1 h2 h3 h4 h5 h6 h7 h8=>exact .inr ⟨_,_,_,rfl,h1,h2,h3,h4,h5,h6,h7,h8⟩
def DOk (a b q:List Int):Prop:=0<b.length/\b.length<=1000/\a.length<=1000/\Bd 9000000 b/\∃ qf r n,Bd 9000000 qf/\qf.length<=1000/\DRun b n a (List.replicate (a.length+1-b.length) 0) qf r/\q=trim qf
theorem DOk.bd {a b q:List Int} (h:DOk a b q):Bd 9000000 q:=by
 obtain ⟨_,_,_,_,qf,r,n,h1,_,_,rfl⟩:=h;exact Hw h1
theorem DOk.len {a b q:List Int} (h:DOk a b q):q.length<=1000:=by
 obtain ⟨_,_,_,_,qf,r,n,_,h1,_,rfl⟩:=h;exact Qc (Gl _) h1
theorem DOk.trim {a b q:List Int} (h:DOk a b q):W9 q:=by
 obtain ⟨_,_,_,_,qf,r,n,_,_,_,rfl⟩:=h;exact Gx _
def Zky (a b c f:List Int):Prop:=∃ x y z,DOk a b x/\DOk b c y/\DOk (Gy x) (Gy y) z/\f=Gy z
structure FRun (a:List Int) (m:Nat) (f:Nat->List Int):Prop where
 run:∃ n l,LRun n [Gy a] l/\l.length=m+1/\∀ k,k<m->Zky ((l++[[1]]).getD k []) ((l++[[1]]).getD (k+1) []) ((l++[[1]]).getD (k+2) []) (f k)
 small:m<=1000
def Qla (f:Nat->List Int) (n:Nat):List (List Int):=(List.range n).map f
theorem Quh (f:Nat->List Int) (n:Nat):(Qla f n).length=n:=by simp [Qla]
theorem Q4f (f:Nat->List Int) (n:Nat):Qla f (n+1)=Qla f n++[f n]:=by simp [Qla,Kr]
theorem Zbd {f:Nat->List Int} {n i:Nat} (h:i<n):(Qla f n)[i]? = some (f i):=by simp [Qla,Xs h]
theorem Qwm {l:List (List Int)} {i:Nat} (h:i<l.length):l[i]? = some (l.getD i []):=by
 rw [Qh,Qf h]; rfl
def E9 (f:Nat->List Int):Nat->List Int
 | 0=>[1]
 | i+1=>Um (E9 f i) (f i)
def Zkx (m:Nat) (f:Nat->List Int):Prop:=∀ i,i<m->Bd 9000000 (E9 f i)/\(E9 f i).length<=1000/\Bd 9000000 (f i)/\(f i).length<=1000
inductive CRun:Nat->List (List Int)->List Int->List (List Int)->Prop
 | stop {l:List (List Int)} {g:List Int}:g.length=0->CRun 0 l g l
 | step {k m:Nat} {l f:List (List Int)} {g r:List Int}:0<g.length->g.length<=1000->Bd 9000000 g->RRun g m (Sr l) r->W9 r->Bd 9000000 r->r.length<=1000->0<l.length->l.length<=1000->CRun k (l++[g]) (Ta (Sv r)) f->CRun (k+1) l g f
theorem CRun.inv {k:Nat} {l f:List (List Int)} {g:List Int} (h:CRun k l g f):(k=0/\l=f/\g.length=0)\/∃ j m r,k=j+1/\0<g.length/\g.length<=1000/\Bd 9000000 g/\RRun g m (Sr l) r/\W9 r/\Bd 9000000 r/\r.length<=1000/\0<l.length/\l.length<=1000/\CRun j (l++[g]) (Ta (Sv r)) f:=by
 cases h with
 | stop h=>exact .inl ⟨rfl,rfl,h⟩
 | step h1 h2 h3 h4 h5 h6 h7 h8 h9 h10=>exact .inr ⟨_,_,_,rfl,h1,h2,h3,h4,h5,h6,h7,h8,h9,h10⟩
structure ChRun (a:List Int) (sq:List Int) (c:List (List Int)):Prop where
 fac:∃ m f,FRun a m f/\Zkx m f/\sq=E9 f m
 C7:∃ n,CRun n [sq] (Sv (U3 sq)) c
 bd:Bd 8000000 sq
 len:sq.length<=1000
 small:c.length<=1000
def Qye (q:Rat) (c:List (List Int)):Prop:=∃ sq,ChRun [-q.num,(q.den:Int)] sq c
end Orr
namespace Orr
open Go Go.Proofs
set_option maxRecDepth 10000
theorem RRun.inv {b a r:List Int} {k:Nat} (h:RRun b k a r):(k=0/\a=r/\a.length<b.length)\/(∃ j,k=j+1/\b.length<=a.length/\a.length<=1000/\Bd 9000000 a/\Bd 9000000 b/\RRun b j (Qnr a b) r):=by
 cases h with
 | stop h=>exact .inl ⟨rfl,rfl,h⟩
 | step h1 h2 h3 h4 h5=>exact .inr ⟨_,rfl,h1,h2,h3,h4,h5⟩
theorem Zfl {a b:List Int} (ha:Bd 9000000 a):Ug (O6 a b)<=9000000:=by
 unfold O6; split
 ·rw [Gb]; exact Ui ha _
 ·exact Ui ha _
theorem Zfg (n:Nat):ri (n:Int)=[nd n,.bool false]:=by
 show [nd n,sg (n:Int)]=_;unfold sg;rw [decide_eq_false (by omega)]
def Qqi (a b:List Int) (n:Nat):List Int:=(List.range n).map (Eb a b)
theorem Zaj (a b:List Int) (n:Nat):(Qqi a b n).length=n:=by simp [Qqi]
theorem Qns (a b:List Int) (n:Nat):Qqi a b (n+1)=Qqi a b n++[Eb a b n]:=by simp [Qqi,Kr]
theorem Qy6 {a0 b res:List Int} {n:Nat} (hb0:0<b.length) (hb1:b.length<=1000) (hbb0:Bd 9000000 b) (hrun:RRun b n a0 res):W5 Tryz.prog 105 [.one (rp (zp a0)),.one (rp (zp b))] [.one (rp (zp res))]:=by
 have hbl:=fzl b;have hle:Ug (((Uz b).natAbs:Nat):Int)<=9000000:=Ui hbb0 _;refine Fq Tryz.func105 rfl ?_;refine go tt [.r 15 (eI (b:=((b.length-1:Nat):Int)) (by omega)),.x (Hn (p:=b) (i:=b.length-1) (by omega))] rfl (by simp [W3]; omega) ?_;refine sb [(0,.v (.one (rp (zp a0)))),(1,.v (.one (rp (zp b)))),(5,.v (.one (.ow 0 0))),(6,.v (.one (.ow 1 0)))] [.blk 33 (ri (Uz b)),.blk 33 [nd (Uz b).natAbs,.bool false]] rfl rfl ?_;refine lp (S:=Nat×List Int) 2 (λL1 s=>(0,.v (.one (rp (zp s.2))))::L1) (λ_=>[.blk 33 (ri (Uz b)),.blk 33 [nd (Uz b).natAbs,.bool false]]) (λs=>s.1) (λs=>RRun b s.1 s.2 res) (n,a0) hrun rfl (λ_ _=>rfl) rfl λ⟨k,a⟩ hs=>?_
 have hal:=fzl a;have hs:RRun b k a res:=hs;rcases RRun.inv hs with ⟨rfl,rfl,h1⟩ | ⟨j,rfl,h1,h2,ha,hb,hr⟩
 ·exact en tt [.f (decide_eq_false (by dsimp only; omega))] rfl rfl trivial
 obtain ⟨K,hK⟩:=nmE (a.length-b.length);have htb:=Zfl (b:=b) ha;have cc:=Ix (p:=zp (Qqi a b a.length));rw [Mz,show trim (Qqi a b a.length)=Qnr a b from rfl] at cc;refine go tt [.t (decide_eq_true (by dsimp only; omega)),.r 30 (eI (b:=(K:Int)) (by dsimp only; omega)),.r 34 (eI (b:=((a.length-1:Nat):Int)) (by dsimp only; omega)),.x (Hn (p:=a) (i:=a.length-1) (by omega))] rfl (by simp [W3]; omega) ?_;refine ct 1 (S:=Unit) (λ_=>[(0,.v (.one (rp (zp a)))),(1,.v (.one (rp (zp b)))),(5,.v (.one (.ow 0 0))),(6,.v (.one (.ow 1 0))),(7,.v (.one (.int .i64 (K:Int)))),(8,.v (.one (.ow 2 0)))]) (λ_=>[.blk 33 (ri (Uz b)),.blk 33 [nd (Uz b).natAbs,.bool false],.blk 33 (ri (O6 a b))]) (λ_=>True) rfl ?_ (λ_ _=>?_)
 ·by_cases hn:Uz b<0
  ·have e:O6 a b=-(Uz a):=if_pos hn;rw [e];exact go tt [.t (decide_eq_true hn),.c [] (Ar (z:=Uz a))] rfl trivial (rc () trivial rfl)
  ·have e:O6 a b=Uz a:=if_neg hn;rw [e];exact go tt [.f (decide_eq_false hn)] rfl trivial (rc () trivial rfl)
 refine go tt [.o 9 35 4] rfl trivial ?_;refine lp (S:=Nat) 4 (λL1 i=>(44,.v (.one (.int .i64 (i:Int))))::(9,.v (.one (.orow 3 4 none)))::L1) (λi=>[.blk 33 (ri (Uz b)),.blk 33 [nd (Uz b).natAbs,.bool false],.blk 33 (ri (O6 a b)),.row false 35 4 (frow (zp (Qqi a b i)))]) (λi=>a.length-i) (λi=>i<=a.length) 0 (Qg _) rfl (λ_ _=>rfl) rfl λi hi=>?_
 have hfl:=fzl (Qqi a b i);rw [Zaj] at hfl;by_cases h:i<a.length
 ·have cm:=Tn (a:=a.getD i 0) (b:=(((Uz b).natAbs:Nat):Int)) (Qc (Ui ha i) (by decide)) (by omega);have hm:=Ur (a.getD i 0) (((Uz b).natAbs:Nat):Int);have hai:=Ui ha i;rw [Zfg (Uz b).natAbs] at cm;by_cases hk:K<=i
  ·have hbi:=Ui hb (i-K);have hm2:=Ur (O6 a b) (b.getD (i-K) 0);have e:Eb a b i=a.getD i 0*(((Uz b).natAbs:Nat):Int)-O6 a b*b.getD (i-K) 0:=by unfold Eb; rw [if_pos (by omega),hK]
   refine go tt [.t (decide_eq_true (by omega)),.x (Hn h),.c [] cm,.t (decide_eq_true (by omega)),.r 62 (eI (b:=((i-K:Nat):Int)) (by omega)),.x (Hn (p:=b) (i:=i-K) (by omega)),.c [] (Tn (a:=O6 a b) (b:=b.getD (i-K) 0) (by omega) (by omega)),.c [] (Q6c (by omega) (by omega)),.c [] (B8 (n:=1) (by decide)),.c [] (Sx (n:=a.getD i 0*(((Uz b).natAbs:Nat):Int)-O6 a b*b.getD (i-K) 0)),.s (sz:=4) (Qw1 _)] rfl (by simp [W3,hfl,-List.getD_eq_getElem?_getD] <;> omega) ?_;exact rd (i+1) (by omega) h (by rw [Qns,Qq7,e]; rfl)
  ·have e:Eb a b i=a.getD i 0*(((Uz b).natAbs:Nat):Int):=by unfold Eb; rw [if_neg (by omega),Int.sub_zero]
   refine go tt [.t (decide_eq_true (by omega)),.x (Hn h),.c [] cm,.f (decide_eq_false (by omega)),.c [] (B8 (n:=1) (by decide)),.c [] (Sx (n:=a.getD i 0*(((Uz b).natAbs:Nat):Int))),.s (sz:=4) (Qw1 _)] rfl (by simp [W3,hfl,-List.getD_eq_getElem?_getD] <;> omega) ?_;exact rd (i+1) (by omega) h (by rw [Qns,Qq7,e]; rfl)
 ·have e:i=a.length:=by omega
  rw [e];exact go tt [.f (decide_eq_false (by omega)),.c [] cc] rfl trivial (rd (j,Qnr a b) (by omega) hr rfl)
theorem Zig:W5 Tryz.prog 36 [.agg (ri 1),.agg (ri 1)] [.agg (ri 1)]:=Tn (a:=1) (b:=1) (by decide) (by decide)
theorem Zc6:W5 Tryz.prog 100 [.agg (ri 1),.agg (ri 1)] [.agg (ri 1)]:=Qiy (a:=1) (b:=1) (by decide) (by decide)
theorem Zct {z:Int} (hz:Ug z<=90000000):W5 Tryz.prog 36 [.agg (ri z),.agg (ri 1)] [.agg (ri z)]:=by
 have h:=Tn (a:=z) (b:=1) (by omega) (by decide);rwa [K5] at h
theorem Qyv {z:Int} (hz:Ug z<=90000000):W5 Tryz.prog 101 [.agg (ri z),.agg (ri 1)] [.agg (ri z)]:=by
 have h:=Qe5 (a:=z) (b:=1) hz (by decide) (by decide) (Int.emod_one z);rwa [Kl] at h
theorem Q5r {z:Int}:W5 Tryz.prog 47 [.agg (fr (z:Rat))] [.agg (fr ((-z:Int):Rat))]:=by
 have h:=Zia (a:=(z:Rat));rwa [<-Y8] at h
theorem Zjr {c:Int} (hc:c≠0) (hs:Ug c<=9000000):Qs 40000000 (((1:Int):Rat) / (c:Rat)):=by
 have h0:(c:Rat)≠0:=λe=>hc (by exact_mod_cast e)
 rw [<-Qnl h0];unfold Fl;rw [if_neg (Jh (Ni _) (λe=>hc (by simpa using e)))];refine Qs.divInt (by show Ug (1*1)<=_; decide) ?_ (by decide);show Ug (1*c)<=_;rw [Yw]; omega
theorem Qvp {p:List Int} {c:Int} (hc:c≠0) (hs:Ug c<=9000000) (hd:∀ j,c∣p.getD j 0) (hp:Bd 9000000 p) (hl:p.length<=1000):W5 Tryz.prog 156 [.one (rp (zp p)),.agg (fr (((1:Int):Rat) / (c:Rat)))] [.one (rp (zp (Su p.length λi=>p.getD i 0 / c)))]:=by
 have h:=Ej ((Qbq hp (by omega)).mono (by omega)) (Zjr hc hs) (by rw [Td]; omega);rwa [show ((1:Int):Rat)=1 from rfl,Qxo hc hd] at h
theorem Au {p:List Int} (tp:W9 p) (hp:Bd 9000000 p) (hl:p.length<=1000):W5 Tryz.prog 127 [.one (rp (zp p))] [.agg (fr ((Pz p:Int):Rat)),.one (rp (zp (Gy p)))]:=by
 have hpl:=fzl p;rcases Qy p.length with h0 | h0
 ·have e:=Qk h0;subst e;exact w tt Tryz.func127 rfl [.t rfl,.c [] Q6b] rfl rfl trivial
 have hc:=Q7u tp h0;refine Fq Tryz.func127 rfl ?_;refine go tt [.f (decide_eq_false (by omega)),.c [] (B8 (n:=1) (by decide))] rfl trivial ?_;refine lp (S:=Nat) 2 (λL1 i=>(16,.v (.one (.int .i64 (i:Int))))::L1) (λi=>[.blk 35 [.nils,.bool false,.nils,.bool false],.blk 33 (ri 1)]) (λi=>p.length-i) (λi=>i<=p.length) 0 (Qg _) rfl (λ_ _=>rfl) rfl λi hi=>?_
 by_cases h:i<p.length
 ·refine go tt [.t (decide_eq_true (by omega)),.x (Hn h),.c [] Zig,.x (Hn h),.c [] Zc6,.c [] (Qyv (z:=1) (by decide))] rfl (by simp [W3]; omega) ?_;exact rd (i+1) (by omega) h rfl
 refine go tt [.f (decide_eq_false (by omega))] rfl trivial ?_;clear h hi;refine nlb 2 rfl rfl rfl ?_;rw [Q1j];refine lp (S:=Nat) 3 (λL1 i=>(37,.v (.one (.int .i64 (i:Int))))::L1) (λi=>[.blk 35 [.nils,.bool false,.nils,.bool false],.blk 33 (ri 1),.blk 33 (ri ((Ek p i:Nat):Int))]) (λi=>p.length-i) (λi=>i<=p.length) 0 (Qg _) rfl (λ_ _=>rfl) rfl λi hi=>?_
 by_cases h:i<p.length
 ·have hb:=Ui hp i;have hg:=Iy hp i;refine go tt [.t (decide_eq_true (by omega)),.x (Hn h),.c [] (Zct (z:=p.getD i 0) (by omega)),.x (Hn h),.c [] (Qyv (z:=p.getD i 0) (by omega)),.c [] (Qiy (a:=((Ek p i:Nat):Int)) (b:=p.getD i 0) (by omega) (by omega))] rfl (by simp [W3]; omega) ?_;exact rd (i+1) (by omega) h rfl
 have e:i=p.length:=by omega
 rw [e];have co:=Qbz (n:=1) (by decide);have cs:=Qvp hc (Qmh hp) (Q3b p) hp hl;by_cases hn:Uz p<0
 ·have e2:Pz p=-((Qbe p:Nat):Int):=if_pos hn;rw [show (λi=>p.getD i 0 / Pz p)=λi=>p.getD i 0 / Pz p from rfl] at cs;have cn:=Q5r (z:=((Qbe p:Nat):Int));rw [<-e2] at cn;exact en tt [.f (decide_eq_false (by omega)),.c [] (Sx (n:=((Qbe p:Nat):Int))),.r 62 (eI (b:=((p.length-1:Nat):Int)) (by omega)),.x (Hn (p:=p) (i:=p.length-1) (by omega)),.t (decide_eq_true hn),.c [] cn,.c [] co,.c [] (Qvo (a:=((1:Int):Rat)) (b:=((Pz p:Int):Rat)) ⟨by decide,by decide⟩ (B6 (by have:=Qmh hp; omega) (by decide)) (λe=>hc (by exact_mod_cast e))),.c [] cs] rfl rfl (by simp [W3]; omega)
 ·have e2:Pz p=((Qbe p:Nat):Int):=if_neg hn;have cm:=Sx (n:=Pz p);rw [e2] at cm cs hc ⊢;exact en tt [.f (decide_eq_false (by omega)),.c [] cm,.r 62 (eI (b:=((p.length-1:Nat):Int)) (by omega)),.x (Hn (p:=p) (i:=p.length-1) (by omega)),.f (decide_eq_false hn),.c [] co,.c [] (Qvo (a:=((1:Int):Rat)) (b:=((((Qbe p:Nat):Int):Int):Rat)) ⟨by decide,by decide⟩ (B6 (by have:=Iy hp p.length; unfold Qbe; omega) (by decide)) (λe=>hc (by exact_mod_cast e))),.c [] cs] rfl (by unfold Gy; rw [e2]; rfl) (by simp [W3]; omega)
theorem As {p:List Int} (tp:W9 p) (hp:Bd 9000000 p) (hl:p.length<=1000):W5 Tryz.prog 67 [.one (rp (zp p))] [.one (rp (zp (Gy p)))] :=
 w tt Tryz.func67 rfl [.c [] (Au tp hp hl)] rfl rfl trivial
theorem Qmi {p:List Int} (tp:W9 p):Pz p<0↔Uz p<0:=by
 unfold Pz;rcases Qy p.length with h0 | h0
 ·have:=Qk h0; subst this; decide
 ·have:=Qrx tp h0
  split <;> omega
theorem Qvw {p:List Int} (hp:Bd 9000000 p) (hl:p.length<=1000000):W5 Tryz.prog 104 [.one (rp (zp p))] [.one (rp (zp (Ta p)))]:=by
 have h:=Qv0 ((Qbq hp (by decide)).mono (by decide)) (by rw [Td]; exact hl);rwa [Q1k] at h
theorem Qro {p:List Int} (tp:W9 p) (hp:Bd 9000000 p) (hl:p.length<=1000):W5 Tryz.prog 103 [.one (rp (zp p))] [.one (rp (zp (Sv p)))]:=by
 by_cases hn:Uz p<0
 ·have e:Sv p=Ta (Gy p):=if_pos hn;rw [e];exact w tt Tryz.func103 rfl [.c [] (Au tp hp hl),.t (decide_eq_true ((Qmi tp).2 hn)),.c [] (Qvw (Qir hp) (Qc (Qfr p) (by omega)))] rfl rfl trivial
 ·have e:Sv p=Gy p:=if_neg hn;rw [e];exact w tt Tryz.func103 rfl [.c [] (Au tp hp hl),.f (decide_eq_false λh=>hn ((Qmi tp).1 h))] rfl rfl trivial
end Orr
namespace Orr
theorem Eo (f:Nat->Int):Su 1 f=trim [f 0]:=rfl
theorem Qjj (f:Nat->Int):Su 2 f=trim [f 0,f 1]:=rfl
theorem Qem (x:Int):trim [x]=if x=0 then [] else [x]:=rfl
theorem Qn2 (x y:Int):trim [x,y]=if y=0 then trim [x] else [x,y]:=by
 simp only [trim]; split <;> split <;> simp_all
theorem bd1 {s:Nat} {x:Int} (h:Ug x<=s):Bd s [x]:=λz hz=>by simp at hz; subst hz; exact h
theorem bd2 {s:Nat} {x y:Int} (h:Ug x<=s) (h':Ug y<=s):Bd s [x,y]:=λz hz=>by
 simp only [Qo,Jz,or_false] at hz;rcases hz with rfl | rfl <;> assumption
section
variable {x d:Int} (hd:0<d) (hg:Int.gcd x d=1) (hx:Ug x<=1000000) (hs:Ug d<=1000000)
theorem b1 {s:Nat} (h:1<=s):Bd s [1]:=bd1 (Qc (show Ug 1<=1 by decide) h)
include hd in
theorem Qd4 (hg:Int.gcd x d=1):Gy [x,d]=[x,d]:=by
 have hc:Pz [x,d]=1:=by
  have h1:Qbe [x,d]=1:=by
   show Int.gcd (Int.gcd ((0:Nat):Int) x:Nat) d=1;rw [show Int.gcd ((0:Nat):Int) x=x.natAbs by simp,show Int.gcd ((x.natAbs:Nat):Int) d=Int.gcd x d by simp [Int.gcd],hg]
  unfold Pz;rw [if_neg (show ¬Uz [x,d]<0 from by show ¬d<0; omega),h1]; rfl
 unfold Gy;rw [hc];show Su 2 _=_;rw [Qjj,Qn2];show (if d / 1=0 then _ else [x / 1,d / 1])=_;rw [Kl,if_neg (by omega),Kl]
theorem Q9p:Gy [1]=[1]:=by decide
include hd in
theorem Qkt:Gy [d]=[1]:=by
 have hc:Pz [d]=d:=by
  have h1:((Qbe [d]:Nat):Int)=d:=by
   show ((Int.gcd ((0:Nat):Int) d:Nat):Int)=d;simp; omega
  unfold Pz;rw [if_neg (show ¬Uz [d]<0 from by show ¬d<0; omega),h1]
 unfold Gy;rw [hc];show Su 1 _=_;rw [Eo,Qem];show (if d / d=0 then _ else [d / d])=_;rw [Int.ediv_self (by omega)]; rfl
include hd in
theorem Qoy:U3 [x,d]=[d]:=by
 show Su 1 _=_;rw [Eo,Qem];show (if d*1=0 then _ else [d*1])=_;rw [K5,if_neg (by omega)]
include hd hx hs in
theorem Qt5:∃ m,RRun [1] m [x,d] []:=by
 have h1:Qnr [x,d] [1]=trim [x]:=by
  show Su 2 _=_;rw [Qjj,Qn2];have e1:Eb [x,d] [1] 1=0:=by
   show d*1-(if 1<=1 then O6 [x,d] [1]*1 else 0)=0;have:O6 [x,d] [1]=d:=by unfold O6; rw [if_neg (by decide)]; rfl
   rw [this]; simp
  have e0:Eb [x,d] [1] 0=x:=by
   show x*1-(if 1<=0 then _ else 0)=x;simp
  rw [e1,if_pos rfl,e0]
 have hb:Bd 9000000 [x,d]:=bd2 (by omega) (by omega);by_cases h0:x=0
 ·refine ⟨1,.step (by show 1<=2; decide) (by show 2<=1000; decide) hb (b1 (by decide)) ?_⟩;rw [h1,h0];exact .stop (by decide)
 ·refine ⟨2,.step (by show 1<=2; decide) (by show 2<=1000; decide) hb (b1 (by decide)) ?_⟩;rw [h1,Qem,if_neg h0];refine .step (Qn 1) (by show 1<=1000; decide) (bd1 (by omega)) (b1 (by decide)) ?_;have h2:Qnr [x] [1]=[]:=by
   show Su 1 _=_;rw [Eo,Qem];have e0:Eb [x] [1] 0=0:=by
    show x*1-(if 0<=0 then O6 [x] [1]*1 else 0)=0;have:O6 [x] [1]=x:=by unfold O6; rw [if_neg (by decide)]; rfl
    rw [this]; simp
   rw [e0,if_pos rfl]
  rw [h2];exact .stop (by decide)
include hd hx hs in
theorem Q8d:∃ m,GRun m [x,d] [1] [1]:=by
 obtain ⟨m,h⟩:=Qt5 hd hx hs;exact ⟨1,.step (by decide) (by decide) (b1 (by decide)) h (by decide) Iu rfl (by rw [show Gy []=[] by decide]; exact .stop _)⟩
theorem Q31 (c:Int):S7 [c] [c]=[]:=by
 show Su 1 _=_;rw [Eo,Qem];show (if c-c=0 then _ else _)=_;rw [if_pos (by omega)]
include hd hx hs in
theorem Qzo:DOk [x,d] [1] [x,d]:=by
 refine ⟨by decide,by decide,by show 2<=1000; decide,b1 (by decide),[x,d],[],?_⟩;have hpl:Uz [x,d] / Uz [1]=d:=by show d / 1=d; rw [Kl]
 have hsc:Ux [1] d=[d]:=by
  show Su 1 _=_;rw [Eo,Qem];show (if 1*d=0 then _ else [1*d])=_;rw [Yw,if_neg (by omega)]
 have hsub:S7 [x,d] (Dx 1 [d])=trim [x]:=by
  show Su 2 _=_;rw [Qjj,Qn2];show (if d-d=0 then trim [x-0] else _)=_;rw [if_pos (by omega),Int.sub_zero]
 have hb:Bd 9000000 [x,d]:=bd2 (by omega) (by omega);have ht:trim [x,d]=[x,d]:=by rw [Qn2,if_neg (by omega)]
 by_cases h0:x=0
 ·refine ⟨1,hb,by show 2<=1000; decide,?_,ht.symm⟩;refine .step (by show 1<=2; decide) (by show 2<=1000; decide) hb (by decide) (by show (1:Int)∣d; exact Int.one_dvd d) (by show 1<2; decide) ?_;rw [hpl,hsc,show [x,d].length-[(1:Int)].length=1 from rfl,hsub,Qem,if_pos h0];show DRun [1] 0 [] [0,d] [x,d] [];rw [h0]; exact .stop (by decide)
 ·refine ⟨2,hb,by show 2<=1000; decide,?_,ht.symm⟩;refine .step (by show 1<=2; decide) (by show 2<=1000; decide) hb (by decide) (by show (1:Int)∣d; exact Int.one_dvd d) (by show 1<2; decide) ?_;rw [hpl,hsc,show [x,d].length-[(1:Int)].length=1 from rfl,hsub,Qem,if_neg h0];refine .step (by show 1<=1; decide) (by show 1<=1000; decide) (bd1 (by omega)) (by decide) (by show (1:Int)∣x; exact Int.one_dvd x) (by show 0<2; decide) ?_;have hpl2:Uz [x] / Uz [1]=x:=by show x / 1=x; rw [Kl]
  have hsc2:Ux [1] x=[x]:=by
   show Su 1 _=_;rw [Eo,Qem];show (if 1*x=0 then _ else [1*x])=_;rw [Yw,if_neg h0]
  rw [hpl2,hsc2,show [x].length-[(1:Int)].length=0 from rfl,show Dx 0 [x]=[x] from rfl,Q31];exact .stop (by decide)
theorem div_one:DOk [1] [1] [1]:=by
 refine ⟨by decide,by decide,by decide,b1 (by decide),[1],[],1,b1 (by decide),by decide,?_,by decide⟩;refine .step (by decide) (by decide) (b1 (by decide)) (by decide) (by decide) (by decide) ?_;exact .stop (by decide)
include hd hg hx hs in
theorem Q7y:FRun [x,d] 1 (λ_=>[x,d]):=by
 obtain ⟨m,hm⟩:=Q8d (x:=x) hd hx hs;refine ⟨⟨1,[[x,d],[1]],?_,rfl,?_⟩,by decide⟩
 ·rw [Qd4 hd hg];refine .step (by show 1<2; decide) (by show 2<=1000; decide) (by show trim [x,d]=[x,d]; rw [Qn2,if_neg (by omega)]) (by show Bd 9000000 [x,d]; exact bd2 (by omega) (by omega)) ?_ ?_ (by show 1<=1000; decide) (m:=m) (g:=[1]) ?_
  ·show Bd 9000000 (U3 [x,d]);rw [Qoy hd]; exact bd1 (by omega)
  ·show GRun m (Gy [x,d]) (Gy (U3 [x,d])) [1];rw [Qd4 hd hg,Qoy hd,Qkt hd]; exact hm
  ·exact .stop (by show 1<=1; decide)
 ·intro k hk;have:k=0:=by omega
  subst this;exact ⟨[x,d],[1],[x,d],Qzo hd hx hs,div_one,by rw [Qd4 hd hg,Q9p]; exact Qzo hd hx hs,(Qd4 hd hg).symm⟩
theorem Q3q {p:List Int} (hp:W9 p) (h0:0<p.length):Um [1] p=p:=by
 refine Qgm (Fy _ _) hp λk=>?_
 unfold Um;rw [if_neg (by
  rintro (h | h); · cases h
  ·omega),Aj]
 show (By [1] p (List.replicate (1+p.length-1) 0) 1).getD k 0=_;simp only [By];rw [Qm9 _ _ _ _ _ _ (by simp),To]
 split
 ·show 0+1*p.getD (k-0) 0=_;rw [Kv]; omega
 ·rename_i h;rw [Qh,Qu (by omega)]; rfl
include hd hg hx hs in
theorem Q2x:ChRun [x,d] [x,d] [[x,d],[1]]:=by
 obtain ⟨m,hm⟩:=Qt5 (x:=x) hd hx hs;have ht:W9 [x,d]:=by show trim [x,d]=_; rw [Qn2,if_neg (by omega)]
 refine ⟨⟨1,λ_=>[x,d],Q7y hd hg hx hs,?_,?_⟩,⟨1,?_⟩,bd2 (by omega) (by omega),by show 2<=1000; decide,by show 2<=1000; decide⟩
 ·intro i hi;have:i=0:=by omega
  subst this;exact ⟨b1 (by decide),by show 1<=1000; decide,bd2 (by omega) (by omega),by show 2<=1000; decide⟩
 ·show [x,d]=Um [1] [x,d];rw [Q3q ht (by show 0<2; decide)]
 ·have hz:Sv (U3 [x,d])=[1]:=by
   rw [Qoy hd];unfold Sv;rw [if_neg (show ¬Uz [d]<0 from by show ¬d<0; omega),Qkt hd]
  rw [hz];refine .step (by decide) (by decide) (b1 (by decide)) (m:=m) (r:=[]) hm rfl Iu (by decide) (by show 0<1; decide) (by show 1<=1000; decide) ?_;exact .stop (by decide)
end
theorem Zl9 {q:Rat} (h:Qs 1000000 q):Qye q [[-q.num,(q.den:Int)],[1]]:=by
 refine ⟨[-q.num,(q.den:Int)],Q2x (den_pos q) ?_ (by rw [Gb]; exact h.1) h.2⟩;rw [Int.neg_gcd];have:=q.reduced;unfold Nat.Coprime at this;simpa [Int.gcd] using this
end Orr
namespace Orr
open Go Go.Proofs
set_option maxRecDepth 10000
theorem Zih {a b g:List Int} {n:Nat} (ta:W9 a) (tb:W9 b) (ha:Bd 9000000 a) (hb:Bd 9000000 b) (la:a.length<=1000) (lb:b.length<=1000) (hrun:GRun n (Gy a) (Gy b) g):W5 Tryz.prog 133 [.one (rp (zp a)),.one (rp (zp b))] [.one (rp (zp g))]:=by
 refine Fq Tryz.func133 rfl ?_;refine go tt [.c [] (As ta ha la),.c [] (As tb hb lb)] rfl trivial ?_;refine sb [(0,.v (.one (rp (zp (Gy a))))),(1,.v (.one (rp (zp (Gy b)))))] [] rfl rfl ?_;refine lp (S:=Nat×List Int×List Int) 0 (λL1 s=>(0,.v (.one (rp (zp s.2.1))))::(1,.v (.one (rp (zp s.2.2))))::L1) (λ_=>[]) (λs=>s.1) (λs=>GRun s.1 s.2.1 s.2.2 g) (n,Gy a,Gy b) hrun rfl (λ_ _=>rfl) rfl λ⟨k,x,y⟩ hs=>?_
 have hs:GRun k x y g:=hs;have hyl:=fzl y;rcases hs.inv with ⟨hk,hy0,hxg⟩ | ⟨j,m2,r,hk,hy0,hy1,hyb,hrr,hrl,hrb,hrt,hgr⟩
 ·rw [<-hxg];exact en tt [.f (decide_eq_false (by dsimp only; omega))] rfl rfl trivial
 ·subst hk;refine go tt [.t (decide_eq_true (by dsimp only; omega)),.c [] (Qy6 (a0:=x) (b:=y) (res:=r) hy0 hy1 hyb hrr),.c [] (As (p:=r) hrt hrb hrl)] rfl trivial ?_;exact rd (j,y,Gy r) (by dsimp only; omega) hgr rfl
theorem Zcu {x y:Int} (hx:Ug x<=9000000) (hy:Ug y<=9000000) (h0:y≠0) (hd:y∣x):W5 Tryz.prog 176 [.agg (fr (x:Rat)),.agg (fr (y:Rat))] [.agg (fr ((x / y:Int):Rat))]:=by
 have hy0:(y:Rat)≠0:=λe=>h0 (by exact_mod_cast e)
 have h:=Qvo (B6 (s:=40000000) (z:=x) (by omega) (by omega)) (B6 (s:=40000000) (z:=y) (by omega) (by omega)) hy0;obtain ⟨k,rfl⟩:=hd;rw [Xm _ h0];rwa [show (((y*k:Int):Rat)) / (y:Rat)=(k:Rat) by rw [Xj]; grind] at h
theorem Q2q {p:List Int} {c:Int} (hp:Bd 40000000 p) (hc:Ug c<=40000000) (hl:p.length<=1000000):W5 Tryz.prog 156 [.one (rp (zp p)),.agg (fr (c:Rat))] [.one (rp (zp (Ux p c)))]:=by
 have h:=Ej (Qbq hp (by omega)) (B6 hc (by omega)) (by rw [Td]; exact hl);rwa [Qnq] at h
theorem Zfw (k:Nat) (p:List Int):frow (zp (List.replicate k 0))++frow (zp p)=frow (zp (Dx k p)):=by simp [zp,Dx,frow]
theorem Q3e (l:List Int) (i:Nat) (z:Int):(frow (zp l)).set i [nd ((z:Rat)).num.natAbs,sg ((z:Rat)).num,nd (((z:Rat)).den:Int).natAbs,sg (((z:Rat)).den:Int)]=frow (zp (l.set i z)):=Qsi l i z
theorem Zda {p q:List Int} (hp:Bd 18000000 p) (hq:Bd 18000000 q) (hlp:p.length<=1000000) (hlq:q.length<=1000000):G5 Tryz.prog 106 [.one (rp (zp p)),.one (.orow 0 4 none)] [.row false 35 4 (frow (zp q))] [.one (rp (zp (S7 p q)))] [.gone]:=by
 have hn:=Qv0 ((Qbq hq (by decide)).mono (by decide)) (by rw [Td]; exact hlq);have ha:=Qvx (p:=zp p) (q:=Qqf (zp q)) ((Qbq hp (by decide)).mono (by decide)) ((Q96 (Qbq hq (by decide))).mono (by decide)) (by rw [Td]; exact hlp) (Qc (Qt6 _) (by rw [Td]; exact hlq));have e:Q36 (zp p) (Qqf (zp q))=zp (S7 p q):=Zfk p q;rw [e] at ha;refine Fq Tryz.func106 rfl ?_;exact ed tt [] [0] [.c [] hn,.c [] ha] rfl trivial
theorem Q2r {a0 b qf rem:List Int} {n:Nat} (hb0:0<b.length) (hb1:b.length<=1000) (hl0:a0.length<=1000) (hbb:Bd 9000000 b) (hqb:Bd 9000000 qf) (hrun:DRun b n a0 (List.replicate (a0.length+1-b.length) 0) qf rem):W5 Tryz.prog 196 [.one (rp (zp a0)),.one (rp (zp b))] [.one (rp (zp (trim qf))),.one (rp (zp rem))]:=by
 have h0l:=fzl a0;have hbl:=fzl b;obtain ⟨N,hN⟩:=nmE (a0.length+1-b.length);rw [<-hN] at hrun;have cc:=Ix (p:=zp qf);rw [Mz] at cc;refine Fq Tryz.func196 rfl ?_;refine go tt [.r 18 (eI (b:=(N:Int)) (by omega)),.i N,.i N,.r 21 (eI (b:=(N:Int)) (by simp))] rfl (by simp [W3]; omega) ?_;refine lp (S:=Nat) 1 (λL1 i=>(22,.v (.one (.int .i64 (i:Int))))::L1) (λi=>[.row false 35 4 (List.replicate i (fr 0)++List.replicate (N-i) zR)]) (λi=>N-i) (λi=>i<=N) 0 (Qg _) rfl (λ_ _=>rfl) rfl λi hi=>?_
 by_cases hlt:i<N
 ·refine go tt [.t (decide_eq_true (by omega)),.c [] Q6b,.i i] rfl (by simp [W3]; omega) ?_;rw [Qo7 hlt];exact rd (i+1) (by omega) hlt rfl
 have hiN:i=N:=by omega
 rw [hiN,Qlh];clear hiN hlt hi;refine go tt [.f (decide_eq_false (by omega))] rfl trivial ?_;refine sb [(0,.v (.one (rp (zp a0)))),(1,.v (.one (rp (zp b)))),(6,.v (.one (.orow 0 4 none)))] [.row false 35 4 (frow (zp (List.replicate N 0)))] rfl rfl ?_;refine lp (S:=Nat×List Int×List Int) 1 (λL1 s=>(0,.v (.one (rp (zp s.2.1))))::L1) (λs=>[.row false 35 4 (frow (zp s.2.2))]) (λs=>s.1) (λs=>DRun b s.1 s.2.1 s.2.2 qf rem/\s.2.2.length=N) (n,a0,List.replicate N 0) ⟨hrun,X8⟩ rfl (λ_ _=>rfl) rfl λ⟨k,a,q⟩ ⟨hr0,hr1⟩=>?_
 have hr0:DRun b k a q qf rem:=hr0;have hr1:q.length=N:=hr1;have hal:=fzl a;have hql:=fzl q;rcases hr0.inv with ⟨hk,hqf,har,hlt⟩ | ⟨j,hk,hba,hal2,hab,hpb,hpd,hkq,hrj⟩
 ·subst hqf; subst har;exact en tt [.f (decide_eq_false (by dsimp only; omega)),.c [] cc] rfl rfl trivial
 subst hk;obtain ⟨K,hK⟩:=nmE (a.length-b.length);rw [<-hK] at hrj hkq;have hla:Ug (Uz a)<=9000000:=Ui hab _;have hlb:Ug (Uz b)<=9000000:=Ui hbb _;obtain ⟨c,hc⟩:=nmE (Uz a / Uz b);have cq:=Zcu hla hlb hpb hpd;have hcs:Ug (Uz a / Uz b)<=9000000:=Qc (Oa _ _) hla;rw [<-hc] at cq hcs hrj;have hsl:=Pk b c;have hqs:∀ x,(q.set K x).length=N:=λx=>by rw [Jj]; exact hr1
 dsimp only;refine go tt [.t (decide_eq_true (by omega)),.r 39 (eI (b:=(K:Int)) (by omega)),.r 43 (eI (b:=((a.length-1:Nat):Int)) (by omega)),.x (Hn (p:=a) (i:=a.length-1) (by omega)),.r 49 (eI (b:=((b.length-1:Nat):Int)) (by omega)),.x (Hn (p:=b) (i:=b.length-1) (by omega)),.c [] cq,.i K,.i K,.i K,.r 60 (eI (b:=(K:Int)) (by simp))] rfl (by simp [W3,hql] <;> omega) ?_;rw [Q3e];refine lp (S:=Nat) 3 (λL1 i=>(61,.v (.one (.int .i64 (i:Int))))::L1) (λi=>[.row false 35 4 (frow (zp (q.set K c))),.blk 35 (fr (c:Rat)),.row false 35 4 (List.replicate i (fr 0)++List.replicate (K-i) zR)]) (λi=>K-i) (λi=>i<=K) 0 (Qg _) rfl (λ_ _=>rfl) rfl λi hi=>?_
 by_cases hlt:i<K
 ·refine go tt [.t (decide_eq_true (by omega)),.c [] Q6b,.i i] rfl (by simp [W3]; omega) ?_;rw [Qo7 hlt];exact rd (i+1) (by omega) hlt rfl
 have hiK:i=K:=by omega
 rw [hiK,Qlh];clear hiK hlt hi;have hzl:=fzl (List.replicate K 0);rw [X8] at hzl;have hpl:=fzl (Ux b c);refine go tt [.f (decide_eq_false (by omega))] rfl trivial ?_;refine sb [(10,.v (.one (.orow 2 4 none))),(9,.v (.one (.ow 1 0))),(0,.v (.one (rp (zp a)))),(1,.v (.one (rp (zp b)))),(6,.v (.one (.orow 0 4 none)))] [.row false 35 4 (frow (zp (q.set K c))),.blk 35 (fr (c:Rat)),.row false 35 4 (frow (zp (List.replicate K 0)))] rfl rfl ?_;have p2:=Zda (p:=a) (q:=Dx K (Ux b c)) (W4 hab (by decide)) (W4 (Q2a (Nf hbb hcs)) (by decide)) (by omega) (by rw [Qxu]; omega);rw [<-Zfw] at p2;refine go tt [.c [] (Q2q (c:=c) (W4 hbb (by decide)) (by omega) (by omega)),.s (sz:=4) (Qfg (zp (Ux b c))),.c [2] p2] rfl (by simp [W3,hzl,hpl]; omega) ?_;exact rd (j,S7 a (Dx K (Ux b c)),q.set K c) (by dsimp only; omega) ⟨hrj,hqs c⟩ rfl
def zls (l:List (List Int)):List (List LV):=l.map λp=>[rp (zp p)]
theorem Qbd (l:List (List Int)):(zls l).length=l.length:=by simp [zls]
theorem Qeu (l:List (List Int)) (g:List Int):zls l++[[rp (zp g)]]=zls (l++[g]):=by simp [zls]
theorem Qbc {l:List (List Int)} {i:Nat} (h:i<l.length):(zls l)[i]? = some [rp (zp (l.getD i []))]:=Fb (Qwm h)
theorem Zez (x:LV):∀ c∈[[x]],c.length=1:=λc hc=>by rw [Qm.1 hc]; rfl
theorem Qi0 {a b q:List Int} (h:DOk a b q):∃ r,W5 Tryz.prog 196 [.one (rp (zp a)),.one (rp (zp b))] [.one (rp (zp q)),.one (rp (zp r))]:=by
 obtain ⟨h1,h2,h3,h4,qf,r,n,h5,h6,h7,rfl⟩:=h;exact ⟨r,Q2r h1 h2 h3 h4 h5 h7⟩
theorem Qvz {a:List Int} {mf:Nat} {f:Nat->List Int} (ta:W9 a) (ha:Bd 9000000 a) (la:a.length<=1000) (h2:2<=a.length) (hF:FRun a mf f):W5 Tryz.prog 155 [.one (rp (zp a))] [.one (.row (zls (Qla f mf)))]:=by
 obtain ⟨⟨n,ls,hrun,hlen,hq⟩,hms⟩:=hF;have hal:=fzl a;refine Fq Tryz.func155 rfl ?_;refine go tt [.f (decide_eq_false (by omega)),.c [] (As ta ha la),.o 3 28 1,.lo] rfl trivial ?_;refine sb [(3,.v (.one (.orow 0 1 none))),(4,.v (.one (.orow 1 1 none)))] [.row false 28 1 [],.row false 28 1 (zls [Gy a])] rfl rfl ?_;refine lp (S:=Nat×List (List Int)) 2 (λL1 s=>(4,.v (.one (.orow 1 1 none)))::L1) (λs=>[.row false 28 1 [],.row false 28 1 (zls s.2)]) (λs=>s.1) (λs=>LRun s.1 s.2 ls/\0<s.2.length/\s.2.length<=1001) (n,[Gy a]) ⟨hrun,by show 0<1; decide,by show 1<=1001; decide⟩ rfl (λ_ _=>rfl) rfl λ⟨k,l⟩ ⟨hs1,hs2,hs3⟩=>?_
 have hs1:LRun k l ls:=hs1;have hs2:0<l.length:=hs2;have hs3:l.length<=1001:=hs3;have hll:=Qbd l;have hlast:(zls l)[l.length-1]? = some [rp (zp (Sr l))]:=Qbc (by omega);have hpl:=fzl (Sr l);dsimp only;rcases hs1.inv with ⟨hk,hlf,hl1⟩ | ⟨j,m2,g,hk,hg1,hg2,hg3,hg4,hg5,hg6,hg7,hlr⟩
 ·have hlm:l.length=mf+1:=by rw [hlf]; exact hlen
  rw [<-hlf] at hq;have hl2:=Qbd (l++[[1]]);have hl3:(l++[[1]]).length=mf+2:=by simp [hlm]
  refine go tt [.r 23 (eI (b:=((l.length-1:Nat):Int)) (by omega)),.i (l.length-1),.x hlast,.f (decide_eq_false (by omega)),.c [] Qv1,.s (sz:=1) (Zez _)] rfl (by simp [W3,hll]; omega) ?_;rw [Qeu];refine lp (S:=Nat) 2 (λL1 i=>(6,.v (.one (.int .i64 (i:Int))))::(3,.v (.one (.orow 0 1 none)))::L1) (λi=>[.row false 28 1 (zls (Qla f i)),.row false 28 1 (zls (l++[[1]]))]) (λi=>mf-i) (λi=>i<=mf) 0 (Qg _) rfl (λ_ _=>rfl) rfl λi hi=>?_
  have htl:=Qbd (Qla f i);rw [Quh] at htl;by_cases h:i<mf
  ·obtain ⟨x,y,z,hx,hy,hz,hf⟩:=hq i h;obtain ⟨rx,hdx⟩:=Qi0 hx;obtain ⟨ry,hdy⟩:=Qi0 hy;obtain ⟨rz,hdz⟩:=Qi0 hz;refine go tt [.t (decide_eq_true (by omega)),.i i,.x (Qbc (by omega)),.i (i+1),.x (Qbc (by omega)),.c [] hdx,.i (i+1),.x (Qbc (by omega)),.i (i+2),.x (Qbc (by omega)),.c [] hdy,.c [] (As hx.trim hx.bd hx.len),.c [] (As hy.trim hy.bd hy.len),.c [] hdz,.c [] (As hz.trim hz.bd hz.len),.s (sz:=1) (Zez _)] rfl (by simp [W3,hl2,htl]; omega) ?_;exact rd (i+1) (by omega) h (by rw [Qeu,Q4f,hf]; rfl)
  ·have e:i=mf:=by omega
   rw [e];exact en tt [.f (decide_eq_false (by omega))] rfl rfl (by simp [W3]; omega)
 ·subst hk;refine go tt [.r 23 (eI (b:=((l.length-1:Nat):Int)) (by omega)),.i (l.length-1),.x hlast,.t (decide_eq_true (by omega)),.r 31 (eI (b:=((l.length-1:Nat):Int)) (by omega)),.i (l.length-1),.x hlast,.c [] (Qvy (W4 hg4 (by decide)) (by omega)),.c [] (Zih hg3 (Ut _ _) hg4 hg5 hg2 (Qc (Tq _) (by omega)) hg6),.s (sz:=1) (Zez _)] rfl (by simp [W3,hll]; omega) ?_;exact rd (j,l++[g]) (by dsimp only; omega) ⟨hlr,by simp,by simp; omega⟩ (by rw [Qeu]; rfl)
theorem Q2s {a:List Int} {mf:Nat} {f:Nat->List Int} (ta:W9 a) (ha:Bd 9000000 a) (la:a.length<=1000) (h2:2<=a.length) (hF:FRun a mf f) (hP:Zkx mf f):W5 Tryz.prog 102 [.one (rp (zp a))] [.one (rp (zp (E9 f mf)))]:=by
 have hms:=hF.small;have hal:=fzl a;have htl:=Qbd (Qla f mf);rw [Quh] at htl;refine Fq Tryz.func102 rfl ?_;refine go tt [.f (decide_eq_false (by omega)),.c [] Qv1,.c [] (Qvz ta ha la h2 hF)] rfl trivial ?_;refine lp (S:=Nat) 0 (λL1 i=>(15,.v (.one (.int .i64 (i:Int))))::(3,.v (.one (rp (zp (E9 f i)))))::L1) (λ_=>[]) (λi=>mf-i) (λi=>i<=mf) 0 (Qg _) rfl (λ_ _=>rfl) rfl λi hi=>?_
 by_cases h:i<mf
 ·obtain ⟨g1,g2,g3,g4⟩:=hP i h;refine go tt [.t (decide_eq_true (by omega)),.x (Fb (f:=λp=>[rp (zp p)]) (Zbd h)),.c [] (Qb1 (p:=E9 f i) (q:=f i) (by omega) (by omega) g1 g3 (by decide))] rfl (by simp [W3]; omega) ?_;exact rd (i+1) (by omega) h rfl
 ·have e:i=mf:=by omega
  rw [e];exact en tt [.f (decide_eq_false (by omega))] rfl rfl trivial
theorem Q3k {l:List (List Int)} (g:List Int) (h:0<l.length):(zls l++[[rp (zp g)]])[l.length-1]? = some [rp (zp (Sr l))]:=by
 rw [Zn (by rw [Qbd]; omega)];exact Qbc (by omega)
theorem Q6l {a sq:List Int} {c:List (List Int)} (ta:W9 a) (ha:Bd 9000000 a) (la:a.length<=1000) (h2:2<=a.length) (hC:ChRun a sq c):W5 Tryz.prog 49 [.one (rp (zp a))] [.one (.row (zls c))]:=by
 obtain ⟨⟨mf,f,hF,hP,rfl⟩,⟨n,hcr⟩,hbd,hle,hsm⟩:=hC;refine Fq Tryz.func49 rfl ?_;refine go tt [.c [] (Q2s ta ha la h2 hF hP),.lo,.c [] (Qvy (p:=E9 f mf) (W4 hbd (by decide)) (by omega)),.c [] (Qro (p:=U3 (E9 f mf)) (Ut _ _) (W4 (Qhl (t:=10) hbd (by omega)) (by decide)) (Qc (Tq _) (by omega)))] rfl trivial ?_;refine sb [(5,.v (.one (rp (zp (Sv (U3 (E9 f mf))))))),(4,.v (.one (.orow 0 1 none)))] [.row false 28 1 (zls [E9 f mf])] rfl rfl ?_;refine lp (S:=Nat×List (List Int)×List Int) 1 (λL1 s=>(5,.v (.one (rp (zp s.2.2))))::(4,.v (.one (.orow 0 1 none)))::L1) (λs=>[.row false 28 1 (zls s.2.1)]) (λs=>s.1) (λs=>CRun s.1 s.2.1 s.2.2 c/\0<s.2.1.length/\s.2.1.length<=1001) (n,[E9 f mf],Sv (U3 (E9 f mf))) ⟨hcr,by show 0<1; decide,by show 1<=1001; decide⟩ rfl (λ_ _=>rfl) rfl λ⟨k,l,g⟩ ⟨hs1,hs2,hs3⟩=>?_
 have hs1:CRun k l g c:=hs1;have hs2:0<l.length:=hs2;have hs3:l.length<=1001:=hs3;have hll:=Qbd l;have hgl:=fzl g;dsimp only;rcases hs1.inv with ⟨hk,hlf,hg0⟩ | ⟨j,m2,r,hk,hg1,hg2,hg3,hrr,hrt,hrb,hrl,hl0,hl1,hcj⟩
 ·subst hlf;exact en tt [.f (decide_eq_false (by omega))] rfl rfl trivial
 ·subst hk;refine go tt [.t (decide_eq_true (by omega)),.s (sz:=1) (Zez _),.r 23 (eI (b:=((l.length-1:Nat):Int)) (by simp; omega)),.i (l.length-1),.x (Q3k g hl0),.c [] (Qy6 (a0:=Sr l) (b:=g) (res:=r) hg1 hg2 hg3 hrr),.c [] (Qro (p:=r) hrt hrb hrl),.c [] (Qvw (p:=Sv r) (Q19 hrb) (Qc (Qwq r) (by omega)))] rfl (by simp [W3,hll]; omega) ?_;exact rd (j,l++[g],Ta (Sv r)) (by dsimp only; omega) ⟨hcj,by simp,by simp; omega⟩ (by rw [Qeu]; rfl)
theorem Zk3 {q:Rat} (h1:Ug q.num<=1000000) (h2:Ug (q.den:Int)<=1000000):Bd 9000000 [-q.num,(q.den:Int)]:=λz hz=>by
 simp only [Qo,Jz,or_false] at hz;rcases hz with rfl | rfl
 ·rw [Gb]; omega
 ·omega
abbrev aq (q:Rat) (c:List (List Int)):List LV:=[rp (zp [-q.num,(q.den:Int)]),.row (zls c)]++fr q++fr q
theorem Qrn {q:Rat} {c:List (List Int)} (hq:Qs 1000000 q) (hC:Qye q c):W5 Tryz.prog 8 [.agg (fr q)] [.agg (aq q c)]:=by
 obtain ⟨sq,hch⟩:=hC;have co:=B8 (n:=1) (by decide);exact w tt Tryz.func8 rfl [.c [] co,.c [] (Sx (n:=q.num)),.c [] (Q5r (z:=q.num)),.c [] co,.c [] (Sx (n:=(q.den:Int))),.c [] (Q6l (a:=[-q.num,(q.den:Int)]) (Q1w q) (Zk3 hq.1 hq.2) (by show 2<=1000; decide) (Qn 2) hch)] rfl rfl trivial
theorem Qrp {q:Rat} {c:List (List Int)} (hq:Qs 1000000 q):W5 Tryz.prog 75 [.agg (aq q c)] [.one (.bool true)]:=by
 have cr:=Qor (a:=q) (b:=q) (hq.mono (by decide)) (hq.mono (by decide));rw [Nh] at cr;exact w tt Tryz.func75 rfl [.c [] cr] rfl rfl trivial
theorem Q3z {p:List Int} (h:p.length=0) (q:Rat):Fj p q=0:=by rw [Qk h]; rfl
theorem Qy5 {p:List Int} {q:Rat} {c:List (List Int)} (hp:Bd 30000000 p) (hl:p.length<=64) (hq:Qs 1000000 q):W5 Tryz.prog 76 [.one (rp (zp p)),.agg (aq q c)] [.one (.bool (decide (Fj p q=0)))]:=by
 have hpl:=fzl p;rcases Qy p.length with h0 | h0
 ·rw [decide_eq_true (Q3z h0 q)];exact w tt Tryz.func76 rfl [.t (decide_eq_true (by omega))] rfl rfl trivial
 ·exact w tt Tryz.func76 rfl [.f (decide_eq_false (by omega)),.c [] (Qrp hq),.t rfl,.c [] (Qy4 hp hl hq)] rfl rfl trivial
theorem Ql1 {p:List Int} {q:Rat} {c:List (List Int)} (hp:Bd 30000000 p) (hl:p.length<=64) (hq:Qs 1000000 q):W5 Tryz.prog 51 [.one (rp (zp p)),.agg (aq q c)] [.one (.int .i64 (Fj p q))]:=by
 by_cases h0:Fj p q=0
 ·have cz:=Qy5 (c:=c) hp hl hq;rw [h0] at cz ⊢;exact w tt Tryz.func51 rfl [.c [] cz,.t rfl] rfl rfl trivial
 ·exact w tt Tryz.func51 rfl [.c [] (Qy5 hp hl hq),.f (decide_eq_false h0),.c [] (Qrp hq),.g 11 true rfl,.t rfl,.c [] (Qy4 hp hl hq)] rfl rfl trivial
theorem Qrm {p:List Int} {q:Rat} {c:List (List Int)} (hp:Bd 20000000 p) (hl:p.length<=64) (hq:Qs 1000000 q):W5 Tryz.prog 11 [.one (rp (zp p)),.agg (aq q c)] [.one (.int .i64 (Qjx p q))]:=by
 refine Fq Tryz.func11 rfl ?_;refine go tt [] rfl trivial ?_;refine lp (S:=List Int) 1 (λL1 r=>(0,.v (.one (rp (zp r))))::L1) (λ_=>[.blk 37 (aq q c)]) (λr=>r.length) (λr=>r.length<=64/\Bd (25000000-30*r.length) r/\Ho (λp=>Fj p q) r.length r=Qjx p q) p ⟨hl,W4 hp (by omega),rfl⟩ rfl (λ_ _=>rfl) rfl λr ⟨hr0,hr1,hr2⟩=>?_
 have hrl:=fzl r;rcases Qy r.length with h0 | h0
 ·rw [Qgr _ h0] at hr2;exact en tt [.f (decide_eq_false (by omega))] rfl (by rw [<-hr2]) trivial
 by_cases hs:Fj r q=0
 ·have hd:=Tq r;refine go tt [.t (decide_eq_true (by omega)),.c [] (Ql1 (p:=r) (c:=c) (W4 hr1 (by omega)) hr0 hq),.f (decide_eq_false (λh=>h hs)),.c [] (Qvy (p:=r) (W4 hr1 (by omega)) (by omega))] rfl trivial ?_;exact rd (U3 r) (by omega) ⟨by omega,W4 (Qhl (t:=6) hr1 (by omega)) (by omega),by rw [<-hr2,Qgq _ h0 hs]⟩ rfl
 ·exact en tt [.t (decide_eq_true (by omega)),.c [] (Ql1 (p:=r) (c:=c) (W4 hr1 (by omega)) hr0 hq),.t (decide_eq_true hs)] rfl (by rw [<-hr2,Qgp _ h0 hs]) trivial
end Orr
namespace Orr
def Ee (p:List Int) (d:Int):List Rat:=p.map λ(z:Int)=>(z:Rat) / (d:Rat)
theorem Pg (p:List Int) (d:Int):(Ee p d).length=p.length:=Q7 _
theorem Zfn {p:List Int} {i:Nat} {z:Int} {d:Int} (h:p[i]? = some z):(Ee p d)[i]? = some ((z:Rat) / (d:Rat)):=by simp [Ee,h]
theorem Zal (p:List Int) (d:Int) (i:Nat):(Ee p d).getD i 0=((p.getD i 0:Int):Rat) / (d:Rat):=by
 simp only [Qh,Ee,Q9];cases p[i]? with
 | none=>simp; grind
 | some z=>rfl
theorem Dd (z d:Int):(z:Rat) / (d:Rat)=Rat.divInt z d:=by
 by_cases h:d=0
 ·subst h; simp; grind
 ·rw [J5];have e1:(z:Rat)=Rat.divInt z 1:=by have:=Z0 (z:Rat); simpa using this.symm
  have e2:(d:Rat)⁻¹=Rat.divInt 1 d:=by
   have:(d:Rat)=Rat.divInt d 1:=by have:=Z0 (d:Rat); simpa using this.symm
   rw [this,Rat.inv_divInt]
  rw [e1,e2,Ki];simp
theorem Zdv {z d:Int} (hd:0<d):(((z:Rat) / (d:Rat)).den:Int)*(Int.gcd z d:Nat)=d:=by
 rw [Dd];have h:=(Qpn (n:=z) hd).2;rw [<-h,Mj,Int.gcd_comm];exact Kw (Vf ..)
theorem Q8p {d a b L:Nat} (hd:0<d) (ha:L*a=d) {D:Nat} (hb:D*b=d):L*D / Nat.gcd L D*Nat.gcd a b=d:=by
 have hL:0<L:=K8 λe=>by rw [e] at ha; omega
 have hD:0<D:=K8 λe=>by rw [e] at hb; omega
 have hg:0<Nat.gcd L D:=Nat.gcd_pos_of_pos_left _ hL;show Nat.lcm L D*Nat.gcd a b=d;rw [<-Nat.gcd_mul_left];refine Nat.dvd_antisymm ?_ ?_
 ·-- gcd (M a) (M b) | d
  obtain ⟨u,hu⟩:=Kc L D;obtain ⟨v,hv⟩:=Wg L D;have hM:Nat.lcm L D=Nat.gcd L D*(u*v):=by
   unfold Nat.lcm
   conv=>lhs; rw [show L*D=Nat.gcd L D*u*(Nat.gcd L D*v) by rw [<-hu,<-hv]]
   rw [show Nat.gcd L D*u*(Nat.gcd L D*v)=Nat.gcd L D*(Nat.gcd L D*(u*v)) by rw [Xh,V6 u,]];exact Nat.mul_div_cancel_left _ hg
  have h1:Nat.lcm L D*a=v*d:=by
   rw [hM,<-ha]
   conv=>rhs; rw [hu]
   simp [Zi,V6,Xh]
  have h2:Nat.lcm L D*b=u*d:=by
   rw [hM,<-hb]
   conv=>rhs; rw [hv]
   simp [Zi,V6,Xh]
  have huv:Nat.gcd u v=1:=by
   have:=Nat.gcd_mul_left (Nat.gcd L D) u v;rw [<-hu,<-hv] at this;exact Nat.eq_of_mul_eq_mul_left hg (by omega)
  rw [h1,h2,Nat.gcd_mul_right,Kt,huv,Wy];exact Nat.dvd_refl d
 ·refine Nat.dvd_gcd ?_ ?_
  ·rw [<-ha]; exact Nat.mul_dvd_mul_right (Nat.dvd_lcm_left L D) a
  ·rw [<-hb]; exact Nat.mul_dvd_mul_right (Nat.dvd_lcm_right L D) b
def lcd (z:List Int) (d:Int):Nat->Int
 | 0=>1
 | i+1=>lcd z d i*((((z.getD i 0:Int):Rat) / (d:Rat)).den:Int) / (Int.gcd (lcd z d i) ((((z.getD i 0:Int):Rat) / (d:Rat)).den:Int):Nat)
theorem Qwp {z:List Int} {d:Int} (hd:0<d):∀ i,i<=z.length->lcd z d i*((Gg (d::z.take i):Nat):Int)=d
 |
  0,_=>by
  show 1*_=d;have:((Gg [d]:Nat):Int)=d:=by unfold Gg; simp; omega
  rw [Vh,this,Yw]
 |
  i+1,hi=>by
  have ih:=Qwp (z:=z) hd i (by omega);have hz:z[i]? = some (z.getD i 0):=Qfj (l:=z) (by omega);have hstep:Gg (d::z.take (i+1))=Nat.gcd (Gg (d::z.take i)) (z.getD i 0).natAbs:=by
   have:=Qmu (l:=d::z) (i:=i+1) (z:=z.getD i 0) (by simpa using hz);simpa using this
  have hdn:=Zdv (z:=z.getD i 0) hd;simp only [lcd];generalize hL:lcd z d i=L at *;generalize hD:(((z.getD i 0:Int):Rat) / (d:Rat)).den=D at *;have hLp:0<L:=by
   rcases Jr L 0 with h | h | h
   ·have:=Int.mul_nonneg (Int.neg_nonneg_of_nonpos (Int.le_of_lt h)) (Int.natCast_nonneg (Gg (d::z.take i)));rw [Vu] at this; omega
   ·rw [h,J7] at ih; omega
   ·exact h
  obtain ⟨l,rfl⟩:=Yh (Int.le_of_lt hLp);obtain ⟨e,rfl⟩:=Yh (Int.le_of_lt hd);have h1:l*Gg (((e:Nat):Int)::z.take i)=e:=by exact_mod_cast ih
  have h2:D*Int.gcd (z.getD i 0) ((e:Nat):Int)=e:=by exact_mod_cast hdn
  have h3:=Q8p (d:=e) (by omega) h1 h2;have h4:Nat.gcd (Gg (((e:Nat):Int)::z.take i)) (Int.gcd (z.getD i 0) ((e:Nat):Int))=Nat.gcd (Gg (((e:Nat):Int)::z.take i)) (z.getD i 0).natAbs:=by
   have hge:Gg (((e:Nat):Int)::z.take i)∣e:=⟨l,by rw [Zi]; exact h1.symm⟩;show Nat.gcd _ (Nat.gcd (z.getD i 0).natAbs e)=_;rw [Kt (z.getD i 0).natAbs e,<-Nat.gcd_assoc,Nat.gcd_eq_left hge]
  rw [hstep,<-h4];rw [show Int.gcd ((l:Nat):Int) ((D:Nat):Int)=Nat.gcd l D by simp [Int.gcd]]
  exact_mod_cast h3
theorem Zee {x y:List Int} {d:Int} (hd:0<d) (hg:Gg (d::(x++y))=1):lcd (x++y) d (x++y).length=d:=by
 have:=Qwp (z:=x++y) hd (x++y).length (Qn _);rw [Q4,hg] at this;simpa using this
theorem Zeg {z:List Int} {d:Int} (hd:0<d) {i:Nat} (hi:i<=z.length):Ug (lcd z d i)<=Ug d:=by
 have h:=Qwp (z:=z) hd i hi;refine Hb ?_;have h0:Gg (d::z.take i)≠0:=λe=>by rw [e] at h; simp at h; omega
 have:d.natAbs=(lcd z d i).natAbs*Gg (d::z.take i):=by
  conv=>lhs; rw [<-h]
  rw [J0]; simp
 rw [this];exact Jq _ (K8 h0)
end Orr
namespace Orr
open Go Go.Proofs
set_option maxRecDepth 10000
abbrev cl4 (k:Crv):List LV:=[pl k.x,pl k.y,sg k.d,mg k.d]
abbrev Bv (c:Crv):List LV:=[rp (Ee c.x c.d),rp (Ee c.y c.d)]++cl4 c
def Bb (p:Pt):List LV:=Bv p.c++[.int .i64 p.id]
def Uu (l:List Pt):List (List LV):=l.map Bb
structure Rs (k:Crv):Prop where
 n:Nml k
 c:Cs 100000 16 k
theorem Rs.d0 {k:Crv} (h:Rs k):0<k.d:=h.n.2.2.1
theorem Qcn {x:List Int} {d:Int} {s:Nat} (hx:Bd s x) (hd:Ug d<=s) (h1:1<=s):Rb s (Ee x d):=λq hq=>by
 obtain ⟨z,hz,rfl⟩:=Zd.1 hq;rw [Dd];exact Qs.divInt (hx z hz) hd h1
theorem Qkz {x:List Int} {d:Int} (tx:W9 x) (hd:d≠0):Sw (Ee x d) (d:Rat)=zp x:=by
 have hd':(d:Rat)≠0:=λe=>hd (by exact_mod_cast e)
 unfold Sw;rw [Qii (g:=λi=>x.getD i 0) _ λi _=>?_,Pg,Qkc,Mz,tx];rw [Zal]; grind
theorem Qrq {p:List Rat} {c:Int} (hp:Rb 40000000 p) (hc:Ug c<=40000000) (hl:p.length<=1000000):W5 Tryz.prog 230 [.one (rp p),.agg (ri c)] [.one (rp (Sw p (c:Rat)))] :=
 w tt Tryz.func230 rfl [.c [] (B8 (n:=1) (by decide)),.c [] (Sx (n:=c)),.c [] (Ej (p:=p) (c:=(c:Rat)) hp (B6 hc (by omega)) hl)] rfl rfl trivial
theorem Zfm (x y:List Int) (d:Int):frow (Ee x d)++frow (Ee y d)=frow (Ee (x++y) d):=by simp [Ee,frow]
theorem Qed {z:List Int} {d:Int} {i:Nat} (h:i<z.length):(Ee z d)[i]? = some (((z.getD i 0:Int):Rat) / (d:Rat)):=Zfn (Qfj h)
theorem Qln (a b:Int) (hb:b≠0) {s:Nat} (h:Ug b<=s):Ug ((Int.gcd a b:Nat):Int)<=s:=by
 refine Qc (Hb ?_) h;simp only [Z7];exact Vs (by omega) (by simpa using Xp.2 (Vf a b))
theorem Zef (a b:Int):(a*b) % ((Int.gcd a b:Nat):Int)=0:=Jn (Vo (Wi ..) (Int.dvd_mul_right a b))
theorem Ql2 {k:Crv} (hs:Rs k):W5 Tryz.prog 190 [.one (rp (Ee k.x k.d)),.one (rp (Ee k.y k.d))] [.agg (Bv k)]:=by
 have hlx:=hs.c.lx;have hly:=hs.c.ly;have hds:=hs.c.d;have hxy:Bd 100000 (k.x++k.y):=λz hz=>by rcases Qw.1 hz with h | h; exact hs.c.x z h; exact hs.c.y z h
 have hfx:(frow (Ee k.x k.d)).length=k.x.length:=by rw [H4,Pg]
 have hfy:(frow (Ee k.y k.d)).length=k.y.length:=by rw [H4,Pg]
 have hfl:(frow (Ee (k.x++k.y) k.d)).length=k.x.length+k.y.length:=by rw [H4,Pg,Q5]
 have hd0:=hs.d0;refine Fq Tryz.func190 rfl ?_;refine go tt [.c [] (B8 (n:=1) (by decide)),.s (sz:=4) (Qfg _),.s (sz:=4) (Qfg _)] rfl (by simp [W3,hfx,hfy]; omega) ?_;rw [Zfm];refine lp (S:=Nat) 3 (λL1 i=>(15,.v (.one (.int .i64 (i:Int))))::L1) (λi=>[.blk 59 [.nils,.nils,.nils,.nils,.bool false,.nils],.blk 33 (ri (lcd (k.x++k.y) k.d i)),.row false 35 4 (frow (Ee (k.x++k.y) k.d))]) (λi=>k.x.length+k.y.length-i) (λi=>i<=k.x.length+k.y.length) 0 (Qg _) rfl (λ_ _=>rfl) rfl λi hi=>?_
 have hll:(k.x++k.y).length=k.x.length+k.y.length:=Q5;by_cases h:i<k.x.length+k.y.length
 ·have hlt:i<(k.x++k.y).length:=by omega
  have hqe:=Qcn (x:=(k.x++k.y)) (d:=k.d) (s:=100000) hxy hs.c.d (by decide);have hqi:=hqe.get (Qed hlt);obtain ⟨D,hD⟩:=nmE (((((k.x++k.y).getD i 0:Int):Rat) / (k.d:Rat)));have hg:=Dh (Qed (d:=k.d) hlt);have es:lcd (k.x++k.y) k.d (i+1)=lcd (k.x++k.y) k.d i*(D.den:Int) / ((Int.gcd (lcd (k.x++k.y) k.d i) (D.den:Int):Nat):Int):=by rw [hD]; rfl
  rw [<-hD] at hqi hg;have hq2:=hqi.2;have hli:=Qc (Zeg (z:=(k.x++k.y)) hs.d0 (i:=i) (by omega)) hs.c.d;have hg0:((Int.gcd (lcd (k.x++k.y) k.d i) (D.den:Int):Nat):Int)≠0:=by have:=Int.gcd_ne_zero_right (a:=(lcd (k.x++k.y) k.d i)) (Ni D); omega
  have hmu:=Ur (lcd (k.x++k.y) k.d i) (D.den:Int);refine go tt [.t (decide_eq_true (by omega)),.i i,.x hg,.c [] (Tn (a:=lcd (k.x++k.y) k.d i) (b:=(D.den:Int)) (by omega) (by omega)),.i i,.x hg,.c [] (Qiy (a:=lcd (k.x++k.y) k.d i) (b:=(D.den:Int)) (by omega) (by omega)),.c [] (Qe5 (by omega) (Qc (Qln _ _ (Ni D) hq2) (by decide)) hg0 (Zef _ _))] rfl (by simp [W3,hfl]; omega) ?_;exact rd (i+1) (by omega) h (by rw [es]; rfl)
 have e:lcd (k.x++k.y) k.d i=k.d:=by rw [show i=(k.x++k.y).length by omega]; exact Zee hs.d0 hs.n.2.2.2
 rw [e];have hx:=Qrq (p:=Ee k.x k.d) (c:=k.d) ((Qcn (s:=100000) hs.c.x hs.c.d (by decide)).mono (by omega)) (by omega) (by rw [Pg]; omega);have hy:=Qrq (p:=Ee k.y k.d) (c:=k.d) ((Qcn (s:=100000) hs.c.y hs.c.d (by decide)).mono (by omega)) (by omega) (by rw [Pg]; omega);rw [Qkz hs.n.1 (by omega)] at hx;rw [Qkz hs.n.2.1 (by omega)] at hy;exact en tt [.f (decide_eq_false (by omega)),.c [] hx,.c [] (Zgu (p:=k.x) (W4 hs.c.x (by omega)) (by omega)),.c [] hy,.c [] (Zgu (p:=k.y) (W4 hs.c.y (by omega)) (by omega)),.c [] (Q54 (z:=k.d) (by omega))] rfl rfl trivial
theorem Qqb (k:Crv):Fl 1 k.d'=((1:Int):Rat) / (k.d':Rat):=by
 unfold Fl; rw [if_neg k.d'_ne,Dd]
theorem Qg3 {x:List Int} {g d:Int} (hg:g≠0) (hd:d≠0) (hgd:g∣d) (tx:W9 x) (hx:∀ z∈x,g∣z):Sw (zp x) (((1:Int):Rat) / (d:Rat))=Ee (trim (x.map (· / g))) (d / g):=by
 have ht:W9 (x.map (· / g)):=Dz tx hg hx;rw [show trim (x.map (· / g))=x.map (· / g) from ht];obtain ⟨e,rfl⟩:=hgd;have he:e≠0:=λh=>hd (by rw [h,V1])
 rw [Xm _ hg];have hgq:(g:Rat)≠0:=λh=>hg (by exact_mod_cast h)
 have heq:(e:Rat)≠0:=λh=>he (by exact_mod_cast h)
 unfold Sw;rw [Td];have hval:∀ i,i<x.length->(zp x).getD i 0*(((1:Int):Rat) / ((g*e:Int):Rat))=(((x.map (· / g)).getD i 0:Int):Rat) / (e:Rat):=λi hi=>by
  rw [Qev];have hz:=Qfj hi;have hm:(x.map (· / g)).getD i 0=x.getD i 0 / g:=by simp [Qh,Qf hi]
  obtain ⟨w,hw⟩:=hx _ (Qa hz);rw [hm,hw,Xm _ hg,Xj,Xj];have:((1:Int):Rat)=1:=rfl;rw [this];grind
 have htab:Im (λi=>(zp x).getD i 0*(((1:Int):Rat) / ((g*e:Int):Rat))) x.length=Ee (x.map (· / g)) e:=by
  apply Xf;intro i;by_cases hi:i<x.length
  ·rw [Qed (by simpa using hi)];simp only [Im,Q9,Xs hi,Jt];rw [hval i hi]
  ·rw [Qu (by rw [Qej]; omega),Qu (by rw [Pg]; simp; omega)]
 rw [htab];rcases Qy x.length with h0 | h0
 ·have:=Qk h0; subst this; rfl
 ·have hl:(Ee (x.map (· / g)) e).length=x.length:=by rw [Pg,Q7]
  have:=Qf8 (l:=Ee (x.map (· / g)) e) (m:=x.length) (by omega) (λj y hj hy=>by rw [Qu (by omega)] at hy; cases hy) (λ_=>⟨_,Qed (z:=x.map (· / g)) (d:=e) (i:=x.length-1) (by rw [Q7]; omega),λh=>by
   have h3:(((x.map (· / g)).getD (x.length-1) 0:Int):Rat)=0:=by grind
   have h4:(x.map (· / g)).getD (x.length-1) 0=0:=by exact_mod_cast h3
   have:=Gn ht (by rw [Q7]; omega);rw [Q7] at this;exact this h4⟩)
  rw [this,Qj (by omega)]
theorem Q95 {k:Crv} (hk:Cs 100000 16 k):Qs 40000000 (Fl 1 k.d'):=by
 have h1:=Qpg hk.d (by decide);rw [Qqb,Dd];exact Qs.divInt (by decide) (by omega) (by decide)
theorem Crv.g_dvd' (k:Crv) {z:Int} (h:z∈k.d'::(trim k.x++trim k.y)):k.g∣z:=Yg (k.g_dvd z h)
theorem Zah (k:Crv):Sw (zp (trim k.x)) (Fl 1 k.d')=Ee k.norm.x k.norm.d:=by
 rw [Qqb];exact Qg3 k.g_ne k.d'_ne (k.g_dvd' (by simp)) (Gx _) (λz hz=>k.g_dvd' (by simp [hz]))
theorem Zai (k:Crv):Sw (zp (trim k.y)) (Fl 1 k.d')=Ee k.norm.y k.norm.d:=by
 rw [Qqb];exact Qg3 k.g_ne k.d'_ne (k.g_dvd' (by simp)) (Gx _) (λz hz=>k.g_dvd' (by simp [hz]))
theorem Q1m {k:Crv} (h:Cs 100000 16 k):Rs k.norm:=⟨k.nml,h.norm (by decide)⟩
theorem Zdc {k:Crv} (hk:Cs 100000 16 k):W5 Tryz.prog 152 [.agg (cl4 k)] [.agg (Bv (Crv.norm k))]:=by
 have hlx:=hk.lx;have hly:=hk.ly;have hkd:=hk.d;have hrq:=Q95 hk;have hdi:Ug k.d'<=100000:=Qpg hk.d (by decide);have hx:=Ej (p:=zp (trim k.x)) (c:=Fl 1 k.d') (Qbq (W4 (Hw hk.x) (by omega)) (by omega)) hrq (by rw [Td]; have:=Gl k.x; omega);have hy:=Ej (p:=zp (trim k.y)) (c:=Fl 1 k.d') (Qbq (W4 (Hw hk.y) (by omega)) (by omega)) hrq (by rw [Td]; have:=Gl k.y; omega);rw [Zah] at hx;rw [Zai] at hy;have c1:=B8 (n:=1) (by decide);have cm:=Qc3 (a:=1) (b:=k.d') (by decide) (by omega);by_cases h0:k.d=0
 ·have e:k.d'=1:=by unfold Crv.d'; rw [if_pos h0]
  rw [e] at hx hy cm;exact w tt Tryz.func152 rfl [.c [] (Qoh (z:=k.d) (by omega)),.c [] Pd,.t (decide_eq_true h0),.c [] c1,.c [] c1,.c [] cm,.c [] (Qam (p:=k.x) (W4 hk.x (by omega)) (by omega)),.c [] hx,.c [] (Qam (p:=k.y) (W4 hk.y (by omega)) (by omega)),.c [] hy,.c [] (Ql2 (Q1m hk))] rfl rfl trivial
 ·have e:k.d'=k.d:=by unfold Crv.d'; rw [if_neg h0]
  rw [e] at hx hy cm;exact w tt Tryz.func152 rfl [.c [] (Qoh (z:=k.d) (by omega)),.c [] Pd,.f (decide_eq_false h0),.c [] c1,.c [] cm,.c [] (Qam (p:=k.x) (W4 hk.x (by omega)) (by omega)),.c [] hx,.c [] (Qam (p:=k.y) (W4 hk.y (by omega)) (by omega)),.c [] hy,.c [] (Ql2 (Q1m hk))] rfl rfl trivial
theorem Q6p {k:Crv} {id:Int} (hk:Cs 100000 16 k):W5 Tryz.prog 93 [.agg (cl4 k++[.int .i64 id])] [.agg (Bb ⟨Crv.norm k,id⟩)] :=
 w tt Tryz.func93 rfl [.c [] (Zdc hk)] rfl rfl trivial
theorem Qb2 {k:Crv} (hk:Rs k):W5 Tryz.prog 53 [.agg (Bv k)] [.one (rp (zp k.x)),.one (rp (zp k.y)),.one (rp (zp [k.d]))]:=by
 have hlx:=hk.c.lx;have hly:=hk.c.ly;have hkd:=hk.c.d;have hx:=Qam (p:=k.x) (W4 hk.c.x (by omega)) (by omega);have hy:=Qam (p:=k.y) (W4 hk.c.y (by omega)) (by omega);rw [show trim k.x=k.x from hk.n.1] at hx;rw [show trim k.y=k.y from hk.n.2.1] at hy;exact w tt Tryz.func53 rfl [.c [] (Qoh (z:=k.d) (by omega)),.c [] (B8 (n:=1) (by decide)),.c [] (Sx (n:=k.d)),.c [] hx,.c [] hy] rfl rfl trivial
theorem Zhw {s:Nat} {d:Int} (h:Ug d<=s):Bd s [d]:=λz hz=>by simp at hz; subst hz; exact h
theorem Rs.dn {k:Crv} (h:Rs k):k.d≠0:=by have:=h.d0; omega
end Orr
namespace Orr
open Go
structure RawInt where
 b:Bool
 l:List Nat
structure RawPt where
 x:List RawInt
 y:List RawInt
 d:RawInt
 id:Int
abbrev Qf6 (z:RawInt):List LV:=[.bool z.b,Zkf z.l]
structure RawInt.Ok (z:RawInt):Prop where
 u:∀ u∈z.l,u<4294967296
structure RawPt.Ok (z:RawPt):Prop where
 x:∀ a∈z.x,a.Ok
 y:∀ a∈z.y,a.Ok
 d:z.d.Ok
 id:-9223372036854775808<=z.id/\z.id<=9223372036854775807
def RawInt.cut (z:RawInt):RawInt:=⟨z.b,z.l.take 1⟩
def Hp (most:Int) (z:RawInt):Int:=match z.l with
 | []=>0
 | u::_=>if z.b=true then -((u:Int) % (most+1)) else (u:Int) % (most+1)
theorem Qcb {most:Int} (h:0<=most) (z:RawInt):-most<=Hp most z/\Hp most z<=most:=by
 unfold Hp
 split
 ·omega
 ·rename_i u _ _;have h1:=Vv (u:Int) (b:=most+1) (by omega);have h2:=Y3 (u:Int) (b:=most+1) (by omega)
  split <;> omega
def Fx (most:Int) (l:List RawInt):List Int:=(l.take 3).map (Hp most)
def Qdm (most:Int) (x y:List RawInt) (d:RawInt):Crv:=⟨Fx most x,Fx most y,Hp 3 d⟩
def Qav (most:Int) (z:RawPt):Pt:=⟨Qdm most z.x z.y z.d,z.id % 1000⟩
theorem Qgw (most:Int) (l:List RawInt):(Fx most l).length<=3:=by unfold Fx; rw [List.length_map,List.length_take]; omega
theorem Qpm {most:Int} {l:List RawInt} {i:Nat} {z:RawInt} (hi:i<3) (h:l[i]? = some z):Fx most (l.take (i+1))=Fx most (l.take i)++[Hp most z]:=by
 unfold Fx;rw [Kz,Kz,Vn (by omega),Vn (by omega),Z1,h];simp
theorem Qgv (most:Int) {l:List RawInt} {i:Nat} (h:l.length<=i\/3<=i):Fx most (l.take i)=Fx most l:=by
 unfold Fx;rw [Kz];rcases Nat.le_total 3 i with h3 | h3
 ·rw [Zq h3]
 ·rcases h with h | h
  ·rw [Vn h3,Qj (l:=l) (i:=i) (by omega),Qj (l:=l) (i:=3) (by omega)]
  ·rw [Vn h3,show i=3 by omega]
theorem Qgx {most:Int} {l:List RawInt} {z:Int} (hm:0<=most) (h:z∈Fx most l):-most<=z/\z<=most:=by
 obtain ⟨a,_,rfl⟩:=Zd.1 h;exact Qcb hm a
theorem Ql8 {most:Int} (hm:0<=most/\most<=999) (x y:List RawInt) (d:RawInt):Cs 10 3 (Qdm most x y d):=by
 have key:∀ z:Int,-999<=z/\z<=999->Ug z<=10:=λz h=>Ri.2 (by omega)
 refine ⟨λz hz=>?_,λz hz=>?_,?_,Qgw _ _,Qgw _ _⟩
 ·have:=Qgx hm.1 hz; exact key _ (by omega)
 ·have:=Qgx hm.1 hz; exact key _ (by omega)
 ·have:=Qcb (most:=3) (by decide) d;show Ug (Hp 3 d)<=10;exact key _ (by omega)
def Ti (n:Nat):List Pt->List Pt->List Pt
 | out,[]=>out
 | out,p::l=>if out.length<n then (if out.any (λx=>decide (x.id=p.id))=true then Ti n out l else Ti n (out++[p]) l) else out
theorem A3 {n:Nat}:∀ (l out:List Pt) (p:Pt),(Ti n out l).length<n->(Ti n out l).any (λx=>decide (x.id=p.id))=true->Ti n out (l++[p])=Ti n out l
 |
  [],out,p,h,ha=>by
  simp only [Ti] at h ha;show Ti n out [p]=out;simp only [Ti];rw [if_pos h,if_pos ha]
 |
  x::l,out,p,h,ha=>by
  show Ti n out (x::(l++[p]))=Ti n out (x::l);simp only [Ti] at h ha ⊢
  split
  ·rename_i h0;rw [if_pos h0] at h ha
   split
   ·rename_i h1;rw [if_pos h1] at h ha;exact A3 l out p h ha
   ·rename_i h1;rw [if_neg h1] at h ha;exact A3 l _ p h ha
  ·rfl
theorem L6 {n:Nat}:∀ (l out:List Pt) (p:Pt),(Ti n out l).length<n->(Ti n out l).any (λx=>decide (x.id=p.id))=false->Ti n out (l++[p])=Ti n out l++[p]
 |
  [],out,p,h,ha=>by
  simp only [Ti] at h ha;show Ti n out [p]=out++[p];simp only [Ti];rw [if_pos h,if_neg (by rw [ha]; simp)]
 |
  x::l,out,p,h,ha=>by
  show Ti n out (x::(l++[p]))=Ti n out (x::l)++[p];simp only [Ti] at h ha ⊢
  split
  ·rename_i h0;rw [if_pos h0] at h ha
   split
   ·rename_i h1;rw [if_pos h1] at h ha;exact L6 l out p h ha
   ·rename_i h1;rw [if_neg h1] at h ha;exact L6 l _ p h ha
  ·rename_i h0;rw [if_neg h0] at h;omega
theorem Qfi {n:Nat}:∀ (l m out:List Pt),n<=(Ti n out l).length->Ti n out (l++m)=Ti n out l
 |
  [],m,out,h=>by
  simp only [Ti] at h;show Ti n out m=out
  match m with
  | []=>rfl
  | p::m=>simp only [Ti]; rw [if_neg (by omega)]
 |
  x::l,m,out,h=>by
  show Ti n out (x::(l++m))=Ti n out (x::l);simp only [Ti] at h ⊢
  split
  ·rename_i h0;rw [if_pos h0] at h
   split
   ·rename_i h1;rw [if_pos h1] at h;exact Qfi l m out h
   ·rename_i h1;rw [if_neg h1] at h;exact Qfi l m _ h
  ·rfl
theorem I5 {n:Nat}:∀ (l out:List Pt),out.length<=n->(Ti n out l).length<=n
 | [],out,h=>h
 |
  x::l,out,h=>by
  simp only [Ti]
  split
  ·split
   ·exact I5 l out h
   ·exact I5 l _ (by rw [Q5]; show _+1<=_; omega)
  ·exact h
theorem Qdf {n:Nat}:∀ (l out:List Pt) {p:Pt},p∈Ti n out l->p∈out\/p∈l
 | [],out,p,h=>.inl h
 |
  x::l,out,p,h=>by
  simp only [Ti] at h
  split at h
  ·split at h
   ·rcases Qdf l out h with h | h
    ·exact .inl h
    ·exact .inr (Qi _ h)
   ·rcases Qdf l _ h with h | h
    ·rcases Qw.1 h with h | h
     ·exact .inl h
     ·exact .inr (by rw [Qm.1 h]; exact Qr ..)
    ·exact .inr (Qi _ h)
  ·exact .inl h
def Qf2 (n:Nat) (most:Int) (zs:List RawPt):List Pt:=Ti n [] (zs.map (Qav most))
def Pt.nrm (p:Pt):Pt:=⟨p.c.norm,p.id⟩
end Orr
namespace Orr
def No (l:List Pt):Prop:=l.Pairwise λa b=>a.id<b.id
theorem Zd6 (id:Int):has [] id=false:=rfl
theorem Qsm (p:Pt) (l:List Pt) (id:Int):has (p::l) id=if p.id<id then has l id else decide (p.id=id):=by
 by_cases h:p.id<id
 ·rw [if_pos h]; unfold has; simp only [pos]; rw [if_pos h]; simp
 ·rw [if_neg h]; unfold has; simp only [pos]; rw [if_neg h]; simp
theorem Q9x (p:Pt) (l:List Pt) (q:Pt):put (p::l) q=if p.id<q.id then p::put l q else q::p::l:=by
 unfold put;simp only [pos]
 split <;> simp
theorem Qpd:∀ {l:List Pt} {id:Int},No l->(has l id=true↔∃ p∈l,p.id=id)
 | [],id,_=>by simp [Zd6]
 |
  p::l,id,h=>by
  have h1:=Z8.1 h;rw [Qsm]
  split
  ·rename_i hlt;rw [Qpd h1.2];constructor
   ·rintro ⟨x,hx,e⟩; exact ⟨x,Qi _ hx,e⟩
   ·rintro ⟨x,hx,e⟩
    rcases Qo.1 hx with rfl | hx
    ·omega
    ·exact ⟨x,hx,e⟩
  ·rename_i hge;rw [decide_eq_true_iff];constructor
   ·intro e; exact ⟨p,Qr ..,e⟩
   ·rintro ⟨x,hx,e⟩
    rcases Qo.1 hx with rfl | hx
    ·exact e
    ·have:=h1.1 x hx; omega
theorem Qkv:∀ {l:List Pt} {q:Pt},No l->has l q.id=false->No (put l q)
 | [],q,_,_=>by simp [put,pos,No]
 |
  p::l,q,h,hn=>by
  have h1:=Z8.1 h;rw [Qsm] at hn;rw [Q9x]
  split
  ·rename_i hlt;rw [if_pos hlt] at hn;refine Z8.2 ⟨λx hx=>?_,Qkv h1.2 hn⟩;rcases Q1e hx with rfl | hx
   ·exact hlt
   ·exact h1.1 x hx
  ·rename_i hge;rw [if_neg hge,decide_eq_false_iff_not] at hn;refine Z8.2 ⟨λx hx=>?_,h⟩;rcases Qo.1 hx with rfl | hx
   ·omega
   ·have:=h1.1 x hx; omega
theorem Q0m {l:List Pt} {q p:Pt} (h:p=q\/p∈l):p∈put l q:=by
 unfold put;rcases h with rfl | h
 ·simp
 ·rw [<-Zb (pos l q.id) l] at h;simp only [Qw,Qo] at h ⊢;rcases h with h | h
  ·exact .inl h
  ·exact .inr (.inr h)
theorem Q9w {l:List Pt} {q:Pt} (h:l.length<6):O1 l q=if has l q.id=true then 6 else 0:=by
 unfold O1
 split
 ·rfl
 ·rw [if_neg (by omega)]
theorem Qnb:∀ (qs acc:List Pt),No acc->acc.length+qs.length<=6 ->
 ((Rj acc qs).2=0/\No (Rj acc qs).1/\(Rj acc qs).1.length=acc.length+qs.length/\qs.Pairwise (λa b=>a.id≠b.id)/\∀ q∈qs,∀ p∈acc,p.id≠q.id) \/
 ((Rj acc qs).2=6/\¬(qs.Pairwise (λa b=>a.id≠b.id)/\∀ q∈qs,∀ p∈acc,p.id≠q.id))
 | [],acc,hs,_=>.inl ⟨rfl,hs,rfl,List.Pairwise.nil,λ_ h=>absurd h (by simp)⟩
 |
  q::qs,acc,hs,hl=>by
  simp only [Q6] at hl;have he:=Q9w (l:=acc) (q:=q) (by omega);simp only [Rj];cases hh:has acc q.id with
  |
   true =>
   rw [hh,if_pos rfl] at he;rw [he,if_neg (by decide)];obtain ⟨p,hp,e⟩:=(Qpd hs).1 hh;exact .inr ⟨rfl,λh=>h.2 q (Qr ..) p hp e⟩
  |
   false =>
   rw [hh,if_neg (by decide)] at he;rw [he,if_pos rfl];have hno:∀ p∈acc,p.id≠q.id:=λp hp e=>by
    have:=(Qpd hs).2 ⟨p,hp,e⟩;rw [hh] at this; cases this
   have hpl:=Q1d acc q;rcases Qnb qs (put acc q) (Qkv hs hh) (by omega) with ⟨h1,h2,h3,h4,h5⟩ | ⟨h1,h2⟩
   ·refine .inl ⟨h1,h2,by simp only [Q6]; omega,Z8.2 ⟨λx hx=>h5 x hx q (Q0m (.inl rfl)),h4⟩,λx hx p hp=>?_⟩;rcases Qo.1 hx with rfl | hx
    ·exact hno p hp
    ·exact h5 x hx p (Q0m (.inr hp))
   ·refine .inr ⟨h1,λh=>h2 ⟨(Z8.1 h.1).2,λx hx p hp=>?_⟩⟩;rcases Q1e hp with rfl | hp
    ·exact (Z8.1 h.1).1 x hx
    ·exact h.2 x (Qi _ hx) p hp
theorem Q3s {qs:List Pt} (hl:qs.length<=6) :
 ((Rj [] qs).2=0/\No (Rj [] qs).1/\(Rj [] qs).1.length=qs.length/\qs.Pairwise (λa b=>a.id≠b.id))\/((Rj [] qs).2=6/\¬qs.Pairwise (λa b=>a.id≠b.id)):=by
 rcases Qnb qs [] List.Pairwise.nil (by simpa using hl) with ⟨h1,h2,h3,h4,_⟩ | ⟨h1,h2⟩
 ·exact .inl ⟨h1,h2,by simpa using h3,h4⟩
 ·exact .inr ⟨h1,λh=>h2 ⟨h,λ_ _ _ hp=>absurd hp (by simp)⟩⟩
end Orr
namespace Orq
open Orr Go
theorem Zl2 {a b c:Tm} (hb:Cut (Ul b)) (hc:Cut (Ul c)) (h:Tl a b) (h':Tl b c):Tl a c:=by
 obtain ⟨q,q1,q2⟩:=h;obtain ⟨r,r1,r2⟩:=h';exact ⟨q,q1,hc.mono' (hb.lt q2 r1) (by omega)⟩
theorem Qfs {a b:Tm} (ha:Cut (Ul a)) (hb:Cut (Ul b)) (h:¬Tl b a):Leq a (Ul b):=λq hq=>by
 rcases ha.val q with e | e | e
 ·exact absurd ⟨q,hq,e⟩ h
 ·obtain ⟨r,r1,r2⟩:=hb.dn q hq;exact absurd ⟨r,r2,ha.mono' r1 (by omega)⟩ h
 ·exact e
theorem Q0d {a b c:Tm} (_:Cut (Ul a)) (hb:Cut (Ul b)) (hc:Cut (Ul c)) (h:Tl a b) (h':¬Tl c b):Tl a c:=by
 obtain ⟨q,q1,q2⟩:=h;refine ⟨q,q1,?_⟩;have hl:=Qfs hb hc h';rcases hc.val q with e | e | e
 ·exact e
 ·obtain ⟨r,r1,r2⟩:=hb.up q q2;have h1:=hc.mono q r r1 (by omega);have:=hl r h1;omega
 ·have:=hl q e; omega
theorem Qpo {a b:Tm} (ha:Cut (Ul a)) (hb:Cut (Ul b)) (h:Tl a b):¬Tl b a:=λh'=>Qcc ha hb h h'
theorem Ez {p:List Int} {a b:Tm} {o:Option Tm} (ha:Cut (Ul a)) (hb:Cut (Ul b)) (hab:¬Tl b a) (h:Rq p a o) (ho:∀ t,o=some t->Tl b t):Rq p b o:=by
 have hl:=Qfs ha hb hab;cases o with
 |
  none =>
  rcases h with h | ⟨s,s0,h⟩
  ·exact .inl h
  ·exact .inr ⟨s,s0,λc hc hbc=>h c hc λq hq=>hl q (hbc q hq)⟩
 |
  some t =>
  obtain ⟨h1,h2,_,s,s0,h4,h5⟩:=h;exact ⟨h1,h2,ho t rfl,s,s0,λc hc hbc hm=>h4 c hc (λq hq=>hl q (hbc q hq)) hm,h5⟩
theorem Qmw {p:List Int} {a b:Tm} {o:Option Tm} (hp:Dp p) (ha:Va a) (hb:Va b) (hab:¬Tl b a) (h:Rq p a o) (ho:∀ t,o=some t->Tl b t):Bj (Pq b) p=Bj (Pq a) p:=by
 by_cases h0:p.length=0
 ·obtain rfl:=Qk h0; rfl
 obtain ⟨ra,_⟩:=Qz1 ha hp h0;obtain ⟨rb,_⟩:=Qz1 hb hp h0;have hl:=Qfs ha.cut hb.cut hab;cases o with
 |
  none =>
  rcases h with h | ⟨s,s0,h⟩
  ·exact absurd (by rw [h]; rfl) h0
  ·exact (Qeb rb (h _ hb.cut hl)).trans (Qeb ra (h _ ha.cut λ_ h=>h)).symm
 |
  some t =>
  obtain ⟨h1,h2,h3,s,s0,h4,h5⟩:=h;exact (Qeb rb (h4 _ hb.cut hl (ho t rfl))).trans (Qeb ra (h4 _ ha.cut (λ_ h=>h) h3)).symm
theorem Ai (t q:Rat):Ul (tq t) q=Fh t q:=Ld (t:=tq t) rfl q
theorem Qi5 {a:Tm} {t:Rat} (ha:Cut (Ul a)):0<Ul a t↔Tl (tq t) a:=by
 constructor
 ·intro h;have h1:Ul a t=1:=by rcases ha.val t with e | e | e <;> omega
  obtain ⟨r,r1,r2⟩:=ha.up t h1;exact ⟨r,by rw [Ai]; rcases Rh t r with ⟨e,e'⟩ | ⟨e,e'⟩ | ⟨e,e'⟩ <;> first | exact e | (exfalso; grind),r2⟩
 ·rintro ⟨q,q1,q2⟩
  rw [Ai] at q1;have:t<q:=by rcases Rh t q with ⟨e,e'⟩ | ⟨e,e'⟩ | ⟨e,e'⟩ <;> first | exact e' | omega
  have:=ha.mono' this (by omega);omega
open Classical in
noncomputable def mu (T:List Tm) (a:Tm):Nat:=(T.filter λt=>decide (Tl a t)).length
theorem Qmk {α:Type} {p q:α->Bool} (h:∀ x,p x=true->q x=true):∀ l:List α,(l.filter p).length<=(l.filter q).length
 | []=>Qn _
 |
  x::l=>by
  have ih:=Qmk h l;by_cases hp:p x=true
  ·rw [Ja hp,Ja (h x hp)]; simp; exact ih
  ·rw [Yi hp];by_cases hq:q x=true
   ·rw [Ja hq]; simp; omega
   ·rw [Yi hq]; exact ih
theorem Qml {α:Type} {p q:α->Bool} (h:∀ x,p x=true->q x=true) {y:α} (hp:p y=false) (hq:q y=true):∀ {l:List α},y∈l->(l.filter p).length<(l.filter q).length
 | [],hy=>by cases hy
 |
  x::l,hy=>by
  rcases Qo.1 hy with rfl | hy
  ·rw [Yi (by simp [hp]),Ja hq];have:=Qmk h l;simp; omega
  ·have ih:=Qml h hp hq hy;by_cases hp:p x=true
   ·rw [Ja hp,Ja (h x hp)]; simp; exact ih
   ·rw [Yi hp];by_cases hq:q x=true
    ·rw [Ja hq]; simp; omega
    ·rw [Yi hq]; exact ih
open Classical in
theorem Zhe {T:List Tm} {a b:Tm} (ha:Cut (Ul a)) (hb:Cut (Ul b)) (hT:∀ t∈T,Cut (Ul t)) (h:Tl a b) (hm:b∈T):mu T b<mu T a:=by
 have key:∀ l:List Tm,(∀ t∈l,Cut (Ul t))->l.filter (λt=>decide (Tl b t))=l.filter (λt=>decide (Cut (Ul t)/\Tl b t)):=λl hl=>List.filter_congr λx hx=>by simp [hl x hx]
 have key2:∀ l:List Tm,(∀ t∈l,Cut (Ul t))->l.filter (λt=>decide (Tl a t))=l.filter (λt=>decide (Cut (Ul t)/\Tl a t)):=λl hl=>List.filter_congr λx hx=>by simp [hl x hx]
 unfold mu;rw [key T hT,key2 T hT];refine Qml (λx hx=>?_) (y:=b) ?_ ?_ hm
 ·have hx:=of_decide_eq_true hx;exact decide_eq_true ⟨hx.1,Zl2 hb hx.1 h hx.2⟩
 ·exact decide_eq_false λhx=>Qcc hb hb hx.2 hx.2
 ·exact decide_eq_true ⟨hb,h⟩
def tms (p:List Int):List Tm:=(Qcs p).getD []
structure KInv (c:Cr):Prop where
 ok:CrOk c
 k:∀ w∈c.l,w.known=true->Rq w.c.p c.now w.fails/\∀ t,w.fails=some t->t∈tms w.c.p
theorem Qkh {p:List Int} (h:Cp p) {a:Tm} (ha:Va a):∃ r,Qgz p a=some r/\Rq p a r/\∀ t,r=some t->t∈tms p:=by
 obtain ⟨l,l1,_,_,l3⟩:=Qae h;obtain ⟨r,r1,r2,r3⟩:=l3 a ha;refine ⟨r,?_,r2,λt ht=>by unfold tms; rw [l1]; exact r3 t ht⟩;unfold Qgz; rw [l1]; exact r1
theorem Zke {p:List Int} (h:Cp p):∀ t∈tms p,Va t:=by
 obtain ⟨l,l1,_,l2,_⟩:=Qae h;unfold tms; rw [l1]; exact l2
theorem Q0h {now:Tm} (hn:Va now):∀ {l:List Wt},(∀ w∈l,WtOk w)->(∀ w∈l,w.known=true->Rq w.c.p now w.fails/\∀ t,w.fails=some t->t∈tms w.c.p) ->
 ∃ ws,Of now l=some ws/\ws.map (·.c)=l.map (·.c)/\∀ w∈ws,w.known=true/\Rq w.c.p now w.fails/\∀ t,w.fails=some t->t∈tms w.c.p
 | [],_,_=>⟨[],rfl,rfl,λw hw=>by cases hw⟩
 |
  w::l,h,h'=>by
  obtain ⟨ws,w1,w2,w3⟩:=Q0h hn (λv hv=>h v (Qi _ hv)) (λv hv=>h' v (Qi _ hv));by_cases hk:w.known=true
  ·refine ⟨w::ws,by simp only [Of,hk,if_true,w1]; rfl,by simp [w2],λv hv=>?_⟩;rcases Qo.1 hv with rfl | hv
   ·exact ⟨hk,h' v (by simp) hk⟩
   ·exact w3 v hv
  ·obtain ⟨r,r1,r2,r3⟩:=Qkh (h w (by simp)).p hn;refine ⟨⟨w.c,true,r⟩::ws,by simp only [Of]; rw [if_neg hk,r1,w1]; rfl,by simp [w2],λv hv=>?_⟩;rcases Qo.1 hv with rfl | hv
   ·exact ⟨rfl,r2,r3⟩
   ·exact w3 v hv
theorem Qz9 {at_:Tm} (ha:Va at_) {x:Ct}:∀ {l:List Wt},(∀ w∈l,WtOk w)->∃ w,Dl l x at_=some w/\w.c=x
 | [],_=>⟨fresh x,rfl,rfl⟩
 |
  v::l,h=>by
  obtain ⟨w,w1,w2⟩:=Qz9 ha (x:=x) λv hv=>h v (Qi _ hv)
  simp only [Dl]
  split
  ·cases hf:v.fails with
   | none=>exact ⟨_,rfl,rfl⟩
   |
    some t =>
    obtain ⟨c,c1,_⟩:=Qhr ((h v (by simp)).f t hf) ha;dsimp only;rw [c1];show ∃ w,(if 0<c then some ⟨x,true,some t⟩ else Dl l x at_)=some w/\w.c=x
    split
    ·exact ⟨_,rfl,rfl⟩
    ·exact ⟨w,w1,w2⟩
  ·exact ⟨w,w1,w2⟩
theorem Q8o {at_:Tm} (ha:Va at_) {ol:List Wt} (ho:∀ w∈ol,WtOk w):∀ l:List Ct,∃ ws,Qdk ol at_ l=some ws/\ws.map (·.c)=l
 | []=>⟨[],rfl,rfl⟩
 |
  x::l=>by
  obtain ⟨w,w1,w2⟩:=Qz9 ha (x:=x) ho;obtain ⟨ws,s1,s2⟩:=Q8o ha ho l;exact ⟨w::ws,by simp only [Qdk,w1,s1]; rfl,by simp [w2,s2]⟩
theorem Q3g {out:List Ct} {c x:Ct}:x∈Qb8 out c↔x=c\/x∈out:=by
 have h:x∈out↔x∈out.take (Ow out c out.length)\/x∈out.drop (Ow out c out.length):=by
  rw [<-Qw,Zb]
 simp only [Qb8,Qw,Qo,h];constructor
 ·rintro (h | h | h)
  ·exact .inr (.inl h)
  ·exact .inl h
  ·exact .inr (.inr h)
 ·rintro (h | h | h)
  ·exact .inr (.inl h)
  ·exact .inl h
  ·exact .inr (.inr h)
theorem Qmo:∀ (l acc:List Ct) {y:Ct},y∈l.foldl Qb8 acc↔y∈l\/y∈acc
 | [],acc,y=>by simp
 |
  c::l,acc,y=>by
  simp only [Z4];rw [Qmo l,Q3g,Qo];constructor
  ·rintro (h | h | h)
   ·exact .inl (.inr h)
   ·exact .inl (.inl h)
   ·exact .inr h
  ·rintro ((h | h) | h)
   ·exact .inr (.inl h)
   ·exact .inl h
   ·exact .inr (.inr h)
theorem Qnv {l:List Ct} {x:Ct}:x∈Ge l↔x∈l:=by unfold Ge; rw [Qmo]; simp
theorem Zji {ws:List Wt} (hw:∀ w∈ws,WtOk w):∃ o,Qtb ws=some o/\match o with
 | none=>∀ w∈ws,w.fails=none
 | some a=>Va a/\(∃ w∈ws,w.fails=some a)/\∀ w∈ws,∀ t,w.fails=some t->¬Tl t a:=by
 have hv:∀ t∈ws.filterMap (·.fails),Va t:=λt ht=>by
  obtain ⟨w,w1,w2⟩:=Jk.1 ht;exact (hw w w1).f t w2
 unfold Qtb;cases hf:ws.filterMap (·.fails) with
 |
  nil =>
  refine ⟨none,rfl,λw h=>?_⟩;cases e:w.fails with
  | none=>rfl
  |
   some t =>
   have:t∈ws.filterMap (·.fails):=Jk.2 ⟨w,h,e⟩;rw [hf] at this; cases this
 |
  cons b l =>
  rw [hf] at hv;obtain ⟨m,m1,m2,m3⟩:=Qfq l b hv;refine ⟨some m,by show (A6 b l).map some=_; rw [m1]; rfl,hv m m2,?_,λw h t e=>?_⟩
  ·rw [<-hf] at m2;exact Jk.1 m2
  ·exact m3 t (by rw [<-hf]; exact Jk.2 ⟨w,h,e⟩)
theorem Zik {t a:Tm} (ht:Va t) (ha:Va a) {c:Int} (h:Qi4 t a=some c) (h0:0<c):Tl a t:=by
 obtain ⟨c',c1,c2⟩:=Qhr ht ha;rw [h] at c1; injection c1 with c1; subst c1;rcases c2 with ⟨e,_⟩ | ⟨e,_⟩ | ⟨_,e⟩
 ·omega
 ·omega
 ·exact e
theorem Zed {ol ws:List Wt} {now a:Tm} {l:List Ct} (hn:Va now) (ha:Va a) (hna:¬Tl a now) (ho:∀ w∈ol,WtOk w) (hk:∀ w∈ol,w.known=true->Rq w.c.p now w.fails/\∀ t,w.fails=some t->t∈tms w.c.p) (h:Qdk ol a l=some ws) :
 ∀ w∈ws,w.known=true->Rq w.c.p a w.fails/\∀ t,w.fails=some t->t∈tms w.c.p:=by
 obtain ⟨h1,h2⟩:=Qdl h;intro w hw hkn;obtain ⟨i,hi⟩:=Jm hw;have hil:i<l.length:=by rw [<-h1]; exact (Qd.1 hi).1
 obtain ⟨v,h3,h4⟩:=h2 i _ (Qf hil);rw [hi] at h4; injection h4 with h4; subst h4;rcases Qj8 h3 with e | ⟨v,v1,v2,v3,e,v5⟩
 ·rw [e] at hkn; cases hkn
 ·obtain ⟨k1,k2⟩:=hk v v1 v2;rw [e];show Rq (l[i]).p a v.fails/\∀ t,v.fails=some t->t∈tms (l[i]).p;rw [<-v3];refine ⟨Ez hn.cut ha.cut hna k1 λt ht=>?_,k2⟩;obtain ⟨c,c1,c2⟩:=v5 t ht;exact Zik ((ho v v1).f t ht) ha c1 c2
structure Stab {β:Type} (Bc:Tm->List Ct) (Br:Tm->β):Prop where
 ok:BuildOk Bc
 fin:∃ Ps:List (List Int),(∀ p∈Ps,Cp p)/\∀ a,Va a->∀ x∈Bc a,x.p∈Ps
 st:∀ a b,Va a->Va b->(∀ x∈Bc a,Bj (Pq b) x.p=Bj (Pq a) x.p)->Bc b=Bc a/\Br b=Br a
structure KSt {β:Type} (Bc:Tm->List Ct) (Br:Tm->β) (c:Cr) (r1:β):Prop where
 inv:KInv c
 cs:c.l.map (·.c)=Ge (Bc c.now)
 r:r1=Br c.now
inductive Evs (Bc:Tm->List Ct) (t:Rat):Tm->List Tm->Prop
 | nil {a:Tm} (h:∀ x∈Bc a,∃ o,Rq x.p a o/\∀ u,o=some u->Tl (tq t) u):Evs Bc t a []
 | cons {a e:Tm} {E:List Tm} (he:Va e) (h1:Tl a e) (h2:¬Tl (tq t) e) (h3:∀ x∈Bc a,∃ o,Rq x.p a o/\∀ u,o=some u->¬Tl u e) (h4:∃ x∈Bc a,Rq x.p a (some e)) (h5:Evs Bc t e E):Evs Bc t a (e::E)
theorem Zlr {β:Type} {Bc:Tm->List Ct} {Br:Tm->β} (S:Stab Bc Br) {t:Rat} (ht:Qs 400000 t) {Ps:List (List Int)} (hP:∀ p∈Ps,Cp p) (hPs:∀ a,Va a->∀ x∈Bc a,x.p∈Ps) :
 ∀ (m:Nat) (c:Cr) (r1:β) (n:Int),mu (Ps.flatMap tms) c.now<=m->KSt Bc Br c r1->¬Tl (tq t) c.now ->
 ∃ c' r' E,goF Bc Br t (m+1) c r1 n=some (c',r',n+(E.length:Nat))/\c'.now=tq t/\KSt Bc Br c' r'/\c'.ev=c.ev+(E.length:Nat)/\E.length<=m/\Evs Bc t c.now E:=by
 have hT:∀ t∈Ps.flatMap tms,Cut (Ul t):=λu hu=>by
  obtain ⟨p,p1,p2⟩:=Jl.1 hu;exact (Zke (hP p p1) u p2).cut
 have hq:=Zf8 ht;intro m
 induction m with
 | zero=>?_
 | succ m ih=>?_
 all_goals
  intro c r1 n hm hS hnow;obtain ⟨⟨ok,kk⟩,hcs,hr⟩:=hS;obtain ⟨ws,w1,w2,w3⟩:=Q0h ok.n ok.l kk;have ok':=Qh1 ok w1;rw [hcs] at w2;have hc_w:∀ x∈Bc c.now,∃ w∈ws,w.c=x:=λx hx=>by
   have:x∈ws.map (·.c):=by rw [w2]; exact Qnv.2 hx
   exact Zd.1 this
  have hw_c:∀ w∈ws,w.c∈Bc c.now:=λw hw=>Qnv.1 (by rw [<-w2]; exact List.mem_map_of_mem hw)
  obtain ⟨o,o1,o2⟩:=Zji ok'.l;have fin:(∀ w∈ws,∀ u,w.fails=some u->Tl (tq t) u)->KSt Bc Br ⟨tq t,ws,c.ev⟩ r1/\Evs Bc t c.now []:=λhall=>by
   have hg:∀ x∈Bc c.now,Bj (Pq (tq t)) x.p=Bj (Pq c.now) x.p:=λx hx=>by
    obtain ⟨w,hw,rfl⟩:=hc_w x hx;exact Qmw (S.ok.p _ ok.n _ hx).dp ok.n hq hnow (w3 w hw).2.1 (hall w hw)
   obtain ⟨s1,s2⟩:=S.st _ _ ok.n hq hg;refine ⟨⟨⟨⟨hq,ok'.l,ok'.k⟩,λw hw _=>⟨Ez ok.n.cut hq.cut hnow (w3 w hw).2.1 (hall w hw),(w3 w hw).2.2⟩⟩,?_,?_⟩,.nil λx hx=>?_⟩
   ·show ws.map (·.c)=Ge (Bc (tq t)); rw [w2,s1]
   ·show r1=Br (tq t); rw [s2,hr]
   ·obtain ⟨w,hw,rfl⟩:=hc_w x hx;exact ⟨_,(w3 w hw).2.1,hall w hw⟩
 ·cases o with
  |
   none =>
   obtain ⟨f1,f2⟩:=fin λw hw u hu=>by rw [o2 w hw] at hu; cases hu
   exact ⟨_,_,[],by simp only [goF]; rw [w1]; simp only [Jc]; rw [o1]; simp,rfl,f1,by simp,by simp,f2⟩
  |
   some a =>
   obtain ⟨va,⟨w,hw,hwa⟩,hmin⟩:=o2;by_cases h0:0<Ul a t
   ·obtain ⟨f1,f2⟩:=fin λv hv u hu=>by
     have hu':=(ok'.l v hv).f u hu;exact Q0d hq.cut va.cut hu'.cut ((Qi5 va.cut).1 h0) (hmin v hv u hu)
    exact ⟨_,_,[],by simp only [goF]; rw [w1]; simp only [Jc]; rw [o1]; simp [h0],rfl,f1,by simp,by simp,f2⟩
   ·exfalso;obtain ⟨k1,k2,k3⟩:=w3 w hw;rw [hwa] at k2;have:a∈Ps.flatMap tms:=Jl.2 ⟨_,hPs _ ok.n _ (hw_c w hw),k3 a hwa⟩;have:=Zhe ok.n.cut va.cut hT k2.2.2.1 this;omega
 ·cases o with
  |
   none =>
   obtain ⟨f1,f2⟩:=fin λw hw u hu=>by rw [o2 w hw] at hu; cases hu
   exact ⟨_,_,[],by simp only [goF]; rw [w1]; simp only [Jc]; rw [o1]; simp,rfl,f1,by simp,by simp,f2⟩
  |
   some a =>
   obtain ⟨va,⟨w,hw,hwa⟩,hmin⟩:=o2;by_cases h0:0<Ul a t
   ·obtain ⟨f1,f2⟩:=fin λv hv u hu=>by
     have hu':=(ok'.l v hv).f u hu;exact Q0d hq.cut va.cut hu'.cut ((Qi5 va.cut).1 h0) (hmin v hv u hu)
    exact ⟨_,_,[],by simp only [goF]; rw [w1]; simp only [Jc]; rw [o1]; simp [h0],rfl,f1,by simp,by simp,f2⟩
   ·obtain ⟨k1,k2,k3⟩:=w3 w hw;rw [hwa] at k2;have hna:=Qpo ok.n.cut va.cut k2.2.2.1;have hmem:a∈Ps.flatMap tms:=Jl.2 ⟨_,hPs _ ok.n _ (hw_c w hw),k3 a hwa⟩;have hlt:=Zhe ok.n.cut va.cut hT k2.2.2.1 hmem;obtain ⟨w2',l1,l2⟩:=Q8o va ok'.l (Ge (Bc a));have hl:=Zed ok.n va hna ok'.l (λv hv _=>(w3 v hv).2) l1;have hS':KSt Bc Br ⟨a,w2',c.ev+1⟩ (Br a):=⟨⟨Orr.lay_ok _ ok' va (S.ok.p a va) (S.ok.n a va) l1,hl⟩,l2,rfl⟩;obtain ⟨c',r',E,g1,g2,g3,g4,g5,g6⟩:=ih ⟨a,w2',c.ev+1⟩ (Br a) (n+1) (by show mu _ a<=m; omega) hS' (λh=>h0 ((Qi5 va.cut).2 h));refine ⟨c',r',a::E,?_,g2,g3,by rw [g4]; simp; omega,by simp; omega,.cons va k2.2.2.1 (λh=>h0 ((Qi5 va.cut).2 h)) (λx hx=>?_) ⟨w.c,hw_c w hw,k2⟩ g6⟩
    ·conv=>lhs; unfold goF
     rw [w1]; simp only [Jc]; rw [o1]; simp only [Jc]; rw [if_neg h0,l1]; simp only [Jc];rw [g1]; simp; omega
    ·obtain ⟨v,hv,rfl⟩:=hc_w x hx;exact ⟨_,(w3 v hv).2.1,hmin v hv⟩
end Orq
namespace Orq
open Orr Go
section Srt
variable {α:Type} {lt:α->α->Bool} {R:α->α->Prop}
theorem Qng {out:List α} {x:α}:∀ k,k<=out.length->(∀ j y,Mn lt out x k<=j->j<k->out[j]? = some y->lt x y=true)/\(0<Mn lt out x k->∃ y,out[Mn lt out x k-1]? = some y/\lt x y=false)
 | 0,_=>⟨λj y _ h=>by omega,λh=>by simp [Mn] at h⟩
 |
  k+1,hk=>by
  obtain ⟨y,hy⟩:=gxE (l:=out) (i:=k) (by omega);by_cases h:lt x y=true
  ·rw [Qp4 hy h];obtain ⟨h1,h2⟩:=Qng (out:=out) (x:=x) k (by omega);refine ⟨λj z a1 a2 a3=>?_,h2⟩;by_cases e:j=k
   ·subst e; rw [hy] at a3; injection a3 with a3; subst a3; exact h
   ·exact h1 j z a1 (by omega) a3
  ·have h:lt x y=false:=by simpa using h
   rw [Qkr hy h];exact ⟨λj z a1 a2 _=>by omega,λ_=>⟨y,by simpa using hy,h⟩⟩
theorem Zea (tr:∀ x y z,R x y->R y z->R x z) {out:List α} {x:α} (ho:out.Pairwise R) (h1:∀ y∈out,lt x y=true->R x y) (h2:∀ y∈out,lt x y=false->R y x):(Cg lt out x).Pairwise R:=by
 obtain ⟨s1,s2⟩:=Qng (lt:=lt) (out:=out) (x:=x) out.length (Qn _);have hle:=Qp3 lt out x out.length;unfold Cg;obtain ⟨k,hk⟩:=nmE (Mn lt out x out.length);rw [<-hk] at s1 s2 hle ⊢;have hd:(out.take k++out.drop k).Pairwise R:=by rw [Zb]; exact ho
 obtain ⟨d1,d2,d3⟩:=Yv.1 hd;have hR:∀ y∈out.drop k,R x y:=λy hy=>by
  obtain ⟨i,hi⟩:=Jm hy;rw [Z2] at hi;have:k+i<out.length:=(Qd.1 hi).1;exact h1 y (Qz hy) (s1 (k+i) y (by omega) this hi)
 have hL:∀ y∈out.take k,R y x:=λy hy=>by
  obtain ⟨i,hi⟩:=Jm hy;have hik:i<k:=by have:=(Qd.1 hi).1; simp at this; omega
  rw [List.getElem?_take_of_lt hik] at hi;obtain ⟨z,z1,z2⟩:=s2 (by omega);have hz:=h2 z (Qa z1) z2;by_cases e:i=k-1
  ·subst e; rw [hi] at z1; injection z1 with z1; subst z1; exact hz
  ·have hp:=List.pairwise_iff_getElem.1 ho i (k-1) (by omega) (by omega) (by omega);obtain ⟨_,e1⟩:=Qd.1 hi;obtain ⟨_,e2⟩:=Qd.1 z1;rw [e1,e2] at hp;exact tr _ _ _ hp hz
 refine Yv.2 ⟨d1,Z8.2 ⟨hR,d2⟩,λy hy z hz=>?_⟩;rcases Qo.1 hz with rfl | hz
 ·exact hL y hy
 ·exact d3 y hy z hz
theorem foldG_pw (tr:∀ x y z,R x y->R y z->R x z) {S:α->Prop} (h1:∀ x y,S x->S y->lt x y=true->R x y) {D:α->α->Prop} (h2:∀ x y,S x->S y->D y x->lt x y=false->R y x) :
 ∀ (l acc:List α),acc.Pairwise R->(∀ x∈acc,S x)->(∀ x∈l,S x)->l.Pairwise D->(∀ x∈acc,∀ y∈l,D x y)->(l.foldl (Cg lt) acc).Pairwise R
 | [],acc,ha,_,_,_,_=>ha
 |
  x::l,acc,ha,hs,hl,hd,hx=>by
  rw [Z8] at hd;refine foldG_pw tr h1 h2 l (Cg lt acc x) ?_ ?_ (λy hy=>hl y (Qi _ hy)) hd.2 ?_
  ·exact Zea tr ha (λy hy=>h1 x y (hl x (by simp)) (hs y hy)) (λy hy=>h2 x y (hl x (by simp)) (hs y hy) (hx y hy x (by simp)))
  ·intro y hy;rcases Qj2.1 hy with rfl | hy
   ·exact hl _ (by simp)
   ·exact hs y hy
  ·intro y hy z hz;rcases Qj2.1 hy with rfl | hy
   ·exact hd.1 z hz
   ·exact hx y hy z (Qi _ hz)
end Srt
def px (p:Pt) (q:Rat):Rat:=Ub p.c.x q / (p.c.d:Rat)
def py (p:Pt) (q:Rat):Rat:=Ub p.c.y q / (p.c.d:Rat)
end Orq
namespace Orr
open Go
section
variable {α:Type} {lt:α->α->Bool}
theorem Q3h (out:List α) (c:α):(Cg lt out c).Perm (c::out):=by
 unfold Cg;exact (Wl).trans (by rw [Zb])
theorem Qjq:∀ (l acc:List α),(l.foldl (Cg lt) acc).Perm (l++acc)
 | [],acc=>List.Perm.refl _
 |
  c::l,acc=>by
  simp only [Z4];exact (Qjq l _).trans (((Q3h acc c).append_left l).trans Wl)
theorem Qxz (l:List α):(Hu lt l).Perm l:=by
 have:=Qjq (lt:=lt) l [];rwa [Xd] at this
end
def D5 (a b:Pt):Bool:=decide (a.id<b.id)
def Pt.m5 (p:Pt):Pt:=⟨p.c,p.id % 5⟩
def mix (O:List Pt) (i:Nat):List Pt:=(O.take i).map Pt.m5++O.drop i
theorem Q80 (O:List Pt):mix O 0=O:=by simp [mix]
theorem Qh2 (O:List Pt) (i:Nat):(mix O i).length=O.length:=by
 unfold mix; rw [List.length_append,List.length_map,List.length_take,List.length_drop]; omega
theorem Q0o {O:List Pt} {i:Nat} {p:Pt} (h:O[i]? = some p):(mix O i).set i p.m5=mix O (i+1):=by
 have hi:=(Qd.1 h).1;have hl:((O.take i).map Pt.m5).length=i:=by rw [Q7,Qx]; omega
 unfold mix;rw [List.set_append,if_neg (by omega),hl,Yo,Z1,h,Y7,Xy,Ze];congr 1;rw [Zj hi];have:O[i]=p:=by
  have:=(Qd.1 h).2;exact this
 rfl
theorem Zem {O:List Pt} {i:Nat} {p:Pt} (h:O[i]? = some p):(mix O i)[i]? = some p:=by
 have hi:=(Qd.1 h).1;have hl:((O.take i).map Pt.m5).length=i:=by rw [Q7,Qx]; omega
 unfold mix;rw [Xg (by omega),hl,Yo,Z2];exact h
theorem Q0n {O:List Pt} {i k:Nat} {p:Pt} (hk:k<i) (h:O[k]? = some p):(mix O i)[k]? = some p.m5:=by
 have hi:=(Qd.1 h).1;unfold mix;rw [Zn (by rw [Q7,Qx]; omega),Q9,Xw,if_pos hk,h]; rfl
theorem Qs4 {O:List Pt} {e i:Nat} (h:e<=i) (hi:i<=O.length):(mix O i).take e=(O.take e).map Pt.m5:=by
 unfold mix;rw [Yf (by rw [Q7,Qx]; omega),<-Yd,Kz,Zq h]
def Rr (O:List Pt) (e:Nat):List Pt:=(O.take e).map Pt.m5
def Qbf (O:List Pt) (e:Nat):List Pt:=(Rr O e).map Pt.nrm
def Lt (l:List Pt):Prop:=l.Pairwise λa b=>a.id≠b.id
theorem Q2z {O:List Pt} {i:Nat} {p:Pt} (h:O[i]? = some p):Rr O (i+1)=Rr O i++[p.m5]:=by
 unfold Rr; rw [List.take_succ,h,Option.toList_some,List.map_append]; rfl
theorem Q25 {O:List Pt} {i:Nat} {p:Pt} (h:O[i]? = some p) (hd:Lt (Rr O i)) (hn:∀ k x,k<i->O[k]? = some x->x.m5.id≠p.m5.id):Lt (Rr O (i+1)):=by
 rw [Q2z h];refine Yv.2 ⟨hd,List.pairwise_singleton _ _,λa ha b hb=>?_⟩;rw [Qm.1 hb];obtain ⟨x,hx,rfl⟩:=Zd.1 ha;obtain ⟨k,hk,rfl⟩:=List.mem_iff_getElem.1 hx;rw [Qx] at hk;rw [List.getElem_take];exact hn k _ (by omega) (Qf (by omega))
theorem Qma {O:List Pt} {e:Nat} (h:Lt (Rr O e)):Lt (Qbf O e):=List.Pairwise.map Pt.nrm (λ_ _ h=>h) h
theorem Qgy (O:List Pt) (e:Nat):(Qbf O e).length=(Rr O e).length:=by unfold Qbf; rw [List.length_map]
theorem Qc7 {O:List Pt} {e:Nat} (h:e<=O.length):(Rr O e).length=e:=by unfold Rr; rw [List.length_map,List.length_take]; omega
def Q13 (p:Pt):Prop:=Cs 10 3 p.c
theorem Qm5 {n:Nat} {most:Int} (hm:0≤most/\most≤999) {l:List RawPt}:∀ p∈Qf2 n most l,Q13 p:=λp hp=>by
 rcases Qdf _ _ hp with h | h
 ·cases h
 ·obtain ⟨z,_,rfl⟩:=Zd.1 h;exact Ql8 hm _ _ _
theorem Qr1 {O:List Pt} (h:∀ p∈O,Q13 p) (e:Nat):∀ p∈Rr O e,Q13 p:=λp hp=>by
 obtain ⟨x,hx,rfl⟩:=Zd.1 hp;exact h x (Ql hx)
theorem Qzk {O:List Pt} (h:∀ p∈O,Q13 p) (e:Nat):∀ p∈Qbf O e,Nml p.c/\Cs 10 3 p.c:=λp hp=>by
 obtain ⟨x,hx,rfl⟩:=Zd.1 hp;exact ⟨x.c.nml,(Qr1 h e x hx).norm (by decide)⟩
theorem Qm2 {s n:Nat}:∀ {l:List Pt},(∀ p∈l,Cs s n p.c)->IsPts s n (l.map Gd) (l.map Pt.nrm)
 | [],_=>trivial
 | p::l,h=>⟨⟨p.c.x.map Fp,p.c.y.map Fp,_,_,_,_,p.c.d,rfl,Fz _,Fz _,W6 _,h p (Qr ..),rfl⟩,Qm2 λx hx=>h x (Qi _ hx)⟩
theorem Qnw:∀ {l m:List Pt},No l->No m->(∀ x,x∈l↔x∈m)->l=m
 | [],[],_,_,_=>rfl
 | [],b::m,_,_,h=>absurd ((h b).2 (Qr ..)) (by simp)
 | a::l,[],_,_,h=>absurd ((h a).1 (Qr ..)) (by simp)
 |
  a::l,b::m,h1,h2,h=>by
  have h1':=Z8.1 h1;have h2':=Z8.1 h2;have hab:a=b:=by
   rcases Qo.1 ((h a).1 (Qr ..)) with e | e
   ·exact e
   ·rcases Qo.1 ((h b).2 (Qr ..)) with e2 | e2
    ·exact e2.symm
    ·have:=h2'.1 a e; have:=h1'.1 b e2; omega
  subst hab;congr 1;refine Qnw h1'.2 h2'.2 λx=>⟨λhx=>?_,λhx=>?_⟩
  ·rcases Qo.1 ((h x).1 (Qi _ hx)) with e | e
   ·have:=h1'.1 x hx; rw [e] at this; omega
   ·exact e
  ·rcases Qo.1 ((h x).2 (Qi _ hx)) with e | e
   ·have:=h2'.1 x hx; rw [e] at this; omega
   ·exact e
theorem Qqo {l:List Pt} (h:Lt l):No (Hu D5 l) :=
 Orq.foldG_pw (R:=λa b:Pt=>a.id<b.id) (S:=λ_=>True) (D:=λa b:Pt=>a.id≠b.id) (λx y z h1 h2=>Int.lt_trans h1 h2) (λx y _ _ h=>of_decide_eq_true h) (λx y _ _ h1 h=>by have:=of_decide_eq_false h; omega) l [] .nil (λx hx=>by cases hx) (λ_ _=>trivial) h (λx hx=>by cases hx)
theorem Q9y (l:List Pt) (q:Pt):(put l q).Perm (q::l):=by
 unfold put;exact List.perm_middle.trans (by rw [Zb])
theorem Qnc:∀ (qs acc:List Pt),(Rj acc qs).2=0->(Rj acc qs).1.Perm (qs++acc)
 | [],acc,_=>List.Perm.refl _
 |
  q::qs,acc,h=>by
  simp only [Rj] at h ⊢
  split
  ·rename_i h0;rw [if_pos h0] at h;refine (Qnc qs _ h).trans ?_;exact ((Q9y acc q).append_left qs).trans Wl
  ·rename_i h0;rw [if_neg h0] at h;exact absurd h h0
theorem Q3t {qs:List Pt} (hl:qs.length<=6) (hd:Lt qs):(Rj [] qs).2=0/\(Rj [] qs).1=Hu D5 qs:=by
 rcases Q3s hl with ⟨h1,h2,_,_⟩ | ⟨_,h2⟩
 ·refine ⟨h1,Qnw h2 (Qqo hd) λx=>?_⟩;have h3:=Qnc qs [] h1;rw [Xd] at h3;rw [h3.mem_iff,Ag]
 ·exact absurd hd h2
end Orr
namespace Orr
open Go Go.Proofs
set_option maxRecDepth 10000
theorem Zd9 {α:Type} {f:α->List LV} {lt:α->α->Bool} {O:List α} {c:α} {k:Nat} (hp:Mn lt O c O.length=k):(O.map f).take k++(f c::(O.map f).drop k)=(Cg lt O c).map f:=by
 simp [Cg,hp,Yd,Wb]
theorem Qsq {α:Type} {f:α->List LV} {lt:α->α->Bool} {O:List α} {c:α} {k:Nat} (hp:Mn lt O c O.length=k):(O.map f).take k++([f c]++((O.map f).drop k).take ((O.map f).length-k))=(Cg lt O c).map f:=by
 rw [Qj (l:=(O.map f).drop k) (by simp)];exact Zd9 hp
theorem Qsr {lt:Pt->Pt->Bool} {O:List Pt} {c:Pt} {k:Nat} (hp:Mn lt O c O.length=k):(Uu O).take k++([Bb c]++((Uu O).drop k).take ((Uu O).length-k))=Uu (Cg lt O c):=Qsq hp
theorem Ty (l:List Pt):(Uu l).length=l.length:=by simp [Uu]
theorem Qqg (l:List Pt):∀ c∈Uu l,c.length=7:=λc hc=>by obtain ⟨x,_,rfl⟩:=Zd.1 hc; rfl
theorem H8 {l:List Pt} {i:Nat} {c:Pt} (h:l[i]? = some c):(Uu l)[i]? = some (Bb c):=Fb h
theorem Qy7 {l:List Pt} (hn:l.length<=1000000):W5 Tryz.prog 44 [.one (.row (Uu l))] [.one (.row (Uu (Hu D5 l)))]:=by
 have hcl:=Ty l;refine Fq Tryz.func44 rfl ?_;refine go tt [.o 3 61 7] rfl trivial ?_;refine lp (S:=Nat) 1 (λL1 i=>(8,.v (.one (.int .i64 (i:Int))))::(3,.v (.one (.orow 0 7 none)))::L1) (λi=>[.row false 61 7 (Uu (Hu D5 (l.take i)))]) (λi=>l.length-i) (λi=>i<=l.length) 0 (Qg _) rfl (λ_ _=>rfl) rfl λi hi=>?_
 by_cases hlt:i<l.length
 ·obtain ⟨c,hc⟩:=gxE (l:=l) (i:=i) hlt;have hst:Hu D5 (l.take (i+1))=Cg D5 (Hu D5 (l.take i)) c:=Qk5 hc;obtain ⟨O,hO⟩:=nmE (Hu D5 (l.take i));have hOl:O.length=i:=by rw [hO,Nn,Qx]; omega
  have hrl:=Ty O;rw [<-hO] at hst ⊢;refine go tt [.t (decide_eq_true (by omega))] rfl trivial ?_;refine lp (S:=Nat) 1 (λL1 k=>(5,.v (.one (.int .i64 (k:Int))))::L1) (λ_=>[.row false 61 7 (Uu O)]) id (λk=>k<=O.length/\Mn D5 O c k=Mn D5 O c O.length) (Uu O).length ⟨by omega,by rw [hrl]⟩ rfl (λ_ _=>rfl) rfl λk ⟨hk,hp⟩=>?_
  have h7:=Qqg O;have h7z:∀ y∈[Bb c],y.length=7:=λy hy=>by rw [Qm.1 hy]; rfl
  cases k with
  |
   zero =>
   have hp:Mn D5 O c O.length=0:=by rw [<-hp]; rfl
   refine go tt [.g 15 false (by simp),.f rfl,.i 0,.x (H8 hc),.lo,.i 0,.s (sz:=7) (λy hy=>h7 y (Ql hy)),.s (sz:=7) (λy hy=>(Qw.1 hy).elim (h7z y) λhy=>h7 y (Ql hy))] rfl (by simp [W3]; omega) ?_;exact rd (i+1) (by omega) hlt (by rw [hst,<-Qsr hp]; rfl)
  |
   succ k =>
   obtain ⟨x,hx⟩:=gxE (l:=O) (i:=k) (by omega);by_cases hlc:D5 c x=true
   ·refine go tt [.g 15 true (by simp),.x (H8 hc),.r 23 (eI (b:=(k:Int)) (by simp)),.i k,.x (H8 hx),.t hlc,.r 30 (eI (b:=(k:Int)) (by simp))] rfl (by simp [W3]; omega) ?_;exact rd k (by simp) ⟨by omega,by rw [<-hp,Qp4 hx hlc]⟩ rfl
   ·have hlc:D5 c x=false:=by simpa using hlc
    have hp:Mn D5 O c O.length=k+1:=by rw [<-hp,Qkr hx hlc]
    refine go tt [.g 15 true (by simp),.x (H8 hc),.r 23 (eI (b:=(k:Int)) (by simp)),.i k,.x (H8 hx),.f hlc,.i (k+1),.x (H8 hc),.lo,.i (k+1),.s (sz:=7) (λy hy=>h7 y (Qz (Ql hy))),.s (sz:=7) (λy hy=>(Qw.1 hy).elim (h7z y) λhy=>h7 y (Qz (Ql hy)))] rfl (by simp [W3]; omega) ?_;exact rd (i+1) (by omega) hlt (by rw [hst,<-Qsr hp]; rfl)
 ·obtain rfl:i=l.length:=by omega
  rw [Q4];exact en tt [.f (decide_eq_false (by omega))] rfl rfl trivial
def rct (c:Ct):List LV:=[.int .i64 c.kind,.int .i64 c.i0,.int .i64 c.i1,.int .i64 c.i2,.int .i64 c.i3,rp (zp c.p),.int .i64 c.want,.row [],.bool false]
def Fw (l:List Ct):List (List LV):=l.map rct
theorem Du (l:List Ct):(Fw l).length=l.length:=by simp [Fw]
theorem Qt3 (l:List Ct):∀ c∈Fw l,c.length=9:=λc hc=>by obtain ⟨x,_,rfl⟩:=Zd.1 hc; rfl
theorem Qa0 {l:List Ct} {i:Nat} {c:Ct} (h:l[i]? = some c):(Fw l)[i]? = some (rct c):=Fb h
theorem Qsp {lt:Ct->Ct->Bool} {O:List Ct} {c:Ct} {k:Nat} (hp:Mn lt O c O.length=k):(Fw O).take k++([rct c]++((Fw O).drop k).take ((Fw O).length-k))=Fw (Cg lt O c):=Qsq hp
theorem Zdd {k i0 i1 i2 i3 l j0 j1 j2 j3:Int}:W5 Tryz.prog 266 [.agg [.int .i64 k,.int .i64 i0,.int .i64 i1,.int .i64 i2,.int .i64 i3],.agg [.int .i64 l,.int .i64 j0,.int .i64 j1,.int .i64 j2,.int .i64 j3]] [.one (.bool (G8 [k,i0,i1,i2,i3] [l,j0,j1,j2,j3]))]:=by
 by_cases hk:k=l
 ·subst hk;rw [show G8 [k,i0,i1,i2,i3] [k,j0,j1,j2,j3]=G8 [i0,i1,i2,i3] [j0,j1,j2,j3] from by simp [G8]];refine Fq Tryz.func266 rfl ?_;refine go tt [.f (by simp)] rfl trivial ?_;refine lp (S:=Nat) 2 (λL1 i=>(5,.v (.one (.int .i64 (i:Int))))::L1) (λ_=>[.blk 97 [.int .i64 k,.int .i64 i0,.int .i64 i1,.int .i64 i2,.int .i64 i3],.blk 97 [.int .i64 k,.int .i64 j0,.int .i64 j1,.int .i64 j2,.int .i64 j3]]) (λi=>4-i) (λi=>i<=4/\G8 ([i0,i1,i2,i3].drop i) ([j0,j1,j2,j3].drop i)=G8 [i0,i1,i2,i3] [j0,j1,j2,j3]) 0 ⟨by omega,rfl⟩ rfl (λ_ _=>rfl) rfl λi ⟨hi,he⟩=>?_
  rw [<-he];rcases (show i=0\/i=1\/i=2\/i=3\/i=4 by omega) with rfl | rfl | rfl | rfl | rfl
  ·by_cases h:i0=j0
   ·exact go tt [.t rfl,.i 0,.i 0,.f (by simpa using h)] rfl (by simp [W3]) (rd 1 (by omega) ⟨by omega,by simp [G8,h]⟩ rfl)
   ·exact en tt [.t rfl,.i 0,.i 0,.t (by simpa using h),.i 0,.i 0] rfl (by simp [G8,h]) trivial
  ·by_cases h:i1=j1
   ·exact go tt [.t rfl,.i 1,.i 1,.f (by simpa using h)] rfl (by simp [W3]) (rd 2 (by omega) ⟨by omega,by simp [G8,h]⟩ rfl)
   ·exact en tt [.t rfl,.i 1,.i 1,.t (by simpa using h),.i 1,.i 1] rfl (by simp [G8,h]) trivial
  ·by_cases h:i2=j2
   ·exact go tt [.t rfl,.i 2,.i 2,.f (by simpa using h)] rfl (by simp [W3]) (rd 3 (by omega) ⟨by omega,by simp [G8,h]⟩ rfl)
   ·exact en tt [.t rfl,.i 2,.i 2,.t (by simpa using h),.i 2,.i 2] rfl (by simp [G8,h]) trivial
  ·by_cases h:i3=j3
   ·exact go tt [.t rfl,.i 3,.i 3,.f (by simpa using h)] rfl (by simp [W3]) (rd 4 (by omega) ⟨by omega,by simp [G8,h]⟩ rfl)
   ·exact en tt [.t rfl,.i 3,.i 3,.t (by simpa using h),.i 3,.i 3] rfl (by simp [G8,h]) trivial
  ·exact en tt [.f rfl] rfl (by simp [G8]) trivial
 ·exact w tt Tryz.func266 rfl [.t (by simpa using hk)] rfl (by simp [G8,hk]) trivial
theorem Zdh {l:List Ct} (hn:l.length<=1000000):W5 Tryz.prog 233 [.one (.row (Fw l))] [.one (.row (Fw (Hu M7 l)))]:=by
 have hcl:=Du l;refine Fq Tryz.func233 rfl ?_;refine go tt [.o 3 227 9] rfl trivial ?_;refine lp (S:=Nat) 1 (λL1 i=>(8,.v (.one (.int .i64 (i:Int))))::(3,.v (.one (.orow 0 9 none)))::L1) (λi=>[.row false 227 9 (Fw (Hu M7 (l.take i)))]) (λi=>l.length-i) (λi=>i<=l.length) 0 (Qg _) rfl (λ_ _=>rfl) rfl λi hi=>?_
 by_cases hlt:i<l.length
 ·obtain ⟨c,hc⟩:=gxE (l:=l) (i:=i) hlt;have hst:Hu M7 (l.take (i+1))=Cg M7 (Hu M7 (l.take i)) c:=Qk5 hc;obtain ⟨O,hO⟩:=nmE (Hu M7 (l.take i));have hOl:O.length=i:=by rw [hO,Nn,Qx]; omega
  have hrl:=Du O;rw [<-hO] at hst ⊢;refine go tt [.t (decide_eq_true (by omega))] rfl trivial ?_;refine lp (S:=Nat) 1 (λL1 k=>(5,.v (.one (.int .i64 (k:Int))))::L1) (λ_=>[.row false 227 9 (Fw O)]) id (λk=>k<=O.length/\Mn M7 O c k=Mn M7 O c O.length) (Fw O).length ⟨by omega,by rw [hrl]⟩ rfl (λ_ _=>rfl) rfl λk ⟨hk,hp⟩=>?_
  have h7:=Qt3 O;have h7z:∀ y∈[rct c],y.length=9:=λy hy=>by rw [Qm.1 hy]; rfl
  cases k with
  |
   zero =>
   have hp:Mn M7 O c O.length=0:=by rw [<-hp]; rfl
   refine go tt [.g 15 false (by simp),.f rfl,.i 0,.x (Qa0 hc),.lo,.i 0,.s (sz:=9) (λy hy=>h7 y (Ql hy)),.s (sz:=9) (λy hy=>(Qw.1 hy).elim (h7z y) λhy=>h7 y (Ql hy))] rfl (by simp [W3]; omega) ?_;exact rd (i+1) (by omega) hlt (by rw [hst,<-Qsp hp]; rfl)
  |
   succ k =>
   obtain ⟨x,hx⟩:=gxE (l:=O) (i:=k) (by omega);have cb:=Zdd (k:=c.kind) (i0:=c.i0) (i1:=c.i1) (i2:=c.i2) (i3:=c.i3) (l:=x.kind) (j0:=x.i0) (j1:=x.i1) (j2:=x.i2) (j3:=x.i3);by_cases hlc:M7 c x=true
   ·refine go tt [.g 15 true (by simp),.x (Qa0 hc),.r 23 (eI (b:=(k:Int)) (by simp)),.i k,.x (Qa0 hx),.c [] cb,.t hlc,.r 30 (eI (b:=(k:Int)) (by simp))] rfl (by simp [W3]; omega) ?_;exact rd k (by simp) ⟨by omega,by rw [<-hp,Qp4 hx hlc]⟩ rfl
   ·have hlc:M7 c x=false:=by simpa using hlc
    have hp:Mn M7 O c O.length=k+1:=by rw [<-hp,Qkr hx hlc]
    refine go tt [.g 15 true (by simp),.x (Qa0 hc),.r 23 (eI (b:=(k:Int)) (by simp)),.i k,.x (Qa0 hx),.c [] cb,.f hlc,.i (k+1),.x (Qa0 hc),.lo,.i (k+1),.s (sz:=9) (λy hy=>h7 y (Qz (Ql hy))),.s (sz:=9) (λy hy=>(Qw.1 hy).elim (h7z y) λhy=>h7 y (Qz (Ql hy)))] rfl (by simp [W3]; omega) ?_;exact rd (i+1) (by omega) hlt (by rw [hst,<-Qsp hp]; rfl)
 ·obtain rfl:i=l.length:=by omega
  rw [Q4];exact en tt [.f (decide_eq_false (by omega))] rfl rfl trivial
abbrev An (q:Rat):List Int->Int:=λp=>Fj p q
abbrev rzc:List LV:=[.int .i64 0,.int .i64 0,.int .i64 0,.int .i64 0,.int .i64 0,.nils,.int .i64 0,.nils,.bool false]
theorem Q6q {l:List Ct} (hn:l.length<=1000000):W5 Tryz.prog 94 [.one (.row []),.one (.row (Fw l))] [.one (.row (Fw l))]:=by
 have hcl:=Du l;refine Fq Tryz.func94 rfl ?_;refine go tt [] rfl trivial ?_;refine lp (S:=Nat) 0 (λL1 i=>(9,.v (.one (.int .i64 (i:Int))))::L1) (λ_=>[]) (λi=>l.length-i) (λi=>i<=l.length) 0 (Qg _) rfl (λ_ _=>rfl) rfl λi hi=>?_
 by_cases hlt:i<l.length
 ·refine go tt [.t (decide_eq_true (by omega))] rfl trivial ?_;refine lp (S:=Nat) 0 (λL1 k=>(14,.v (.one (.int .i64 (k:Int))))::L1) (λ_=>[]) (λk=>0-k) (λk=>k=0) 0 rfl rfl (λ_ _=>rfl) rfl λk hk=>?_
  subst hk;exact go tt [.f rfl] rfl (by simp [W3]; omega) (rd (i+1) (by omega) hlt rfl)
 ·exact en tt [.f (decide_eq_false (by omega))] rfl rfl trivial
theorem Zej (l:List Nat) (n:Nat):(lm l).take (min l.length n)=lm (l.take n):=by
 rw [lm,lm,<-Yd];rcases Nat.le_total l.length n with h | h
 ·rw [Zq h,Q4,Qj h]
 ·rw [Vn h]
theorem Zif {l:List Nat} {n:Nat} (hn:n<=1000):W5 Tryz.prog 189 [.one (.row (lm l)),.one (.int .i64 (n:Int))] [.one (.row (lm (l.take n)))]:=by
 rw [<-Zej];have hll:(lm l).length=l.length:=by simp [lm]
 exact w tt Tryz.func189 rfl [.r 9 (eI (b:=((min l.length n:Nat):Int)) (by omega)),.i (min l.length n)] rfl rfl (by simp [W3,hll]; omega)
theorem Q6f {z:RawInt}:W5 Tryz.prog 150 [.agg (Qf6 z),.one (.int .i64 1)] [.agg (Qf6 z.cut)] :=
 w tt Tryz.func150 rfl [.c [] (Zif (l:=z.l) (n:=1) (by decide))] rfl rfl trivial
def Qbr (l:List RawInt):List (List LV):=l.map Qf6
theorem Qa1 (l:List RawInt):(Qbr l).length=l.length:=by simp [Qbr]
theorem Qy1 {l:List RawInt}:W5 Tryz.prog 149 [.one (.row (Qbr l)),.one (.int .i64 3),.one (.int .i64 1)] [.one (.row (Qbr ((l.take 3).map RawInt.cut)))]:=by
 have hll:=Qa1 l;refine Fq Tryz.func149 rfl (ln 0 rfl rfl λhzl=>?_);rw [hll] at hzl;refine go tt [.o 7 55 2] rfl trivial ?_;refine lp (S:=Nat) 1 (λL1 i=>(8,.v (.one (.int .i64 (i:Int))))::(7,.v (.one (.orow 0 2 none)))::L1) (λi=>[.row false 55 2 (Qbr ((l.take i).map RawInt.cut))]) (λi=>3-i) (λi=>i<=3/\i<=l.length) 0 ⟨by decide,Qg _⟩ rfl (λ_ _=>rfl) rfl λi ⟨hi,hi2⟩=>?_
 have hil:(Qbr ((l.take i).map RawInt.cut)).length=i:=by rw [Qa1,Q7,Qx]; omega
 by_cases h1:i<l.length
 ·by_cases h2:i<3
  ·obtain ⟨z,hz⟩:=gxE (l:=l) (i:=i) h1;have hm:∀ y∈[Qf6 z.cut],y.length=2:=λy hy=>by rw [Qm.1 hy]; rfl
   refine go tt [.g 13 true (decide_eq_true (by omega)),.t (decide_eq_true (by omega)),.x (Fb (f:=Qf6) hz),.c [] Q6f,.s (sz:=2) hm] rfl (by simp [W3,hil,-List.map_take]; omega) ?_;exact rd (i+1) (by omega) ⟨h2,h1⟩ (by rw [Z1,hz]; simp [Qbr]; rfl)
  ·have e:i=3:=by omega
   have e2:l.take 3=l.take i:=by rw [e]
   rw [e2];exact en tt [.g 13 true (decide_eq_true (by omega)),.f (decide_eq_false (by omega))] rfl rfl trivial
 ·have e:l.take i=l.take 3:=by rw [Qj (by omega),Qj (by omega)]
  rw [e];exact en tt [.g 13 false (decide_eq_false (by omega)),.f rfl] rfl rfl trivial
abbrev rcw (z:RawPt):List LV:=[.row (Qbr z.x),.row (Qbr z.y),.bool z.d.b,.row (lm z.d.l)]
def RawPt.cut (z:RawPt):RawPt:=⟨(z.x.take 3).map RawInt.cut,(z.y.take 3).map RawInt.cut,z.d.cut,z.id⟩
theorem Zk5 {z:RawPt}:W5 Tryz.prog 91 [.agg (rcw z),.one (.int .i64 3),.one (.int .i64 1)] [.agg (rcw z.cut)] :=
 w tt Tryz.func91 rfl [.c [] (Qy1 (l:=z.x)),.c [] (Qy1 (l:=z.y)),.c [] (Q6f (z:=z.d))] rfl rfl trivial
theorem Qc4 {z:RawInt} (hz:z.Ok) {most:Int} (hm:0<=most/\most<=999):W5 Tryz.prog 151 [.agg (Qf6 z),.one (.int .i64 most)] [.agg (Fp (Hp most z))]:=by
 obtain ⟨b,l⟩:=z;have hb:=Qcb hm.1 ⟨b,l⟩;have hs:Ug (Hp most ⟨b,l⟩)<=100000000:=Qc (Ri.2 (show (Hp most ⟨b,l⟩).natAbs<2^10 by omega)) (by decide);cases l with
 | nil=>exact w tt Tryz.func151 rfl [.t rfl] rfl (by simp [Hp,Ds]) trivial
 |
  cons u l =>
  have hu:=hz.u u (Qr ..);have co:=B8 (n:=Hp most ⟨b,u::l⟩) (by omega);have ct:=Q54 hs;have hr:Int.tmod (u:Int) (most+1)=(u:Int) % (most+1):=Ys (by omega);have h1:=Vv (u:Int) (b:=most+1) (by omega);have h2:=Y3 (u:Int) (b:=most+1) (by omega);cases b with
  |
   true =>
   rw [show Hp most ⟨true,u::l⟩=-((u:Int) % (most+1)) from rfl] at co ct ⊢;exact w tt Tryz.func151 rfl [.f (decide_eq_false (by simp [lm]; try omega)),.x (l:=lm (u::l)) (i:=0) (xs:=[.int .u32 (u:Int)]) rfl,.r 18 (eI hr),.t rfl,.c [] co,.c [] ct] rfl rfl (by simp [W3]; omega)
  |
   false =>
   rw [show Hp most ⟨false,u::l⟩=(u:Int) % (most+1) from rfl] at co ct ⊢;exact w tt Tryz.func151 rfl [.f (decide_eq_false (by simp [lm]; try omega)),.x (l:=lm (u::l)) (i:=0) (xs:=[.int .u32 (u:Int)]) rfl,.r 18 (eI hr),.f rfl,.c [] co,.c [] ct] rfl rfl (by simp [W3]; omega)
theorem oz2 {P:Program} [Mo P] {n:Nat} {Q:Exit->Sg->List OB->Prop} {L L':Sg} {B B':List OB} (d off T sz:Nat) {it:List It} (hs:Hk it=true) (h:Q30 (P:=P) d L B [.oc d off T sz]=some (L',B',[],[])) (k:AK P n Q it L' B'):AK P n Q it L B:=AK.sub (Qp5 h EqOk.nil) hs k
theorem pz {P:Program} [Mo P] {n:Nat} {Q:Exit->Sg->List OB->Prop} {L L':Sg} {B B':List OB} (i:Nat) {it:List It} (hs:Hk it=true) (h:Q33 [i] L B=some (L',B')) (k:AK P n Q it L' B'):AK P n Q it L B:=AK.sub (Qd7 h) hs k
def Ev (l:List Int):List (List LV):=l.map Fp
theorem Q3m (l:List Int):(Ev l).length=l.length:=by simp [Ev]
theorem Qfu {most:Int} {l:List RawInt} {i:Nat} {a:RawInt} (hi:i<3) (h:l[i]? = some a):Ev (Fx most (l.take (i+1)))=Ev (Fx most (l.take i))++[Fp (Hp most a)]:=by
 rw [Qpm hi h]; simp [Ev]
theorem Qpl {most:Int} {l:List RawInt} {i:Nat} (hi:i<=3) (h:i<=l.length):(Ev (Fx most (l.take i))).length=i:=by
 rw [Q3m]; unfold Fx; rw [List.length_map,List.length_take,List.length_take]; omega
theorem Q5o {z:RawPt} (hz:z.Ok) {most:Int} (hm:0<=most/\most<=999):W5 Tryz.prog 92 [.agg (rcw z),.one (.int .i64 most)] [.agg (cl4 (Qdm most z.x z.y z.d))]:=by
 have hxl:=Qa1 z.x;have hyl:=Qa1 z.y;obtain ⟨D,hD⟩:=nmE (Hp 3 z.d);have cd:=Qc4 hz.d (most:=3) (by decide);have hx0:∀ {i:Nat},z.x.length<=i\/3<=i->Fx most (z.x.take i)=Fx most z.x:=Qgv most;have hy0:∀ {i:Nat},z.y.length<=i\/3<=i->Fx most (z.y.take i)=Fx most z.y:=Qgv most;unfold Qdm;rw [<-hD] at cd ⊢;refine Fq Tryz.func92 rfl ?_;refine go tt [.c [] cd] rfl trivial ?_;refine oz2 5 0 55 2 rfl rfl ?_;refine lp (S:=Nat) 4 (λL1 i=>(6,.v (.one (.int .i64 (i:Int))))::L1) (λi=>[.blk 57 (rcw z),.blk 57 [.nils,.nils,.bool false,.nils],.blk 57 [.orow 3 2 none,.nils,sg D,mg D],.row false 55 2 (Ev (Fx most (z.x.take i)))]) (λi=>3-i) (λi=>i<=3/\i<=z.x.length) 0 ⟨by decide,Qg _⟩ rfl (λ_ _=>rfl) rfl λi ⟨hi,hi2⟩=>?_
 have hll:=Qpl (most:=most) hi hi2;by_cases hr:i<z.x.length/\i<3
 ·obtain ⟨a,ha⟩:=gxE (l:=z.x) (i:=i) hr.1;have hs:∀ y∈[Fp (Hp most a)],y.length=2:=λy hy=>by rw [Qm.1 hy]; rfl
  refine go tt [.g 17 true (decide_eq_true (by omega)),.t (decide_eq_true (by omega)),.x (Fb (f:=Qf6) ha),.c [] (Qc4 (hz.x a (Qa ha)) hm),.s (sz:=2) hs] rfl (by simp [W3,hll]; omega) ?_;exact rd (i+1) (by omega) ⟨hr.2,hr.1⟩ (by rw [Qfu hr.2 ha]; rfl)
 have hg1:decide ((i:Int)<((Qbr z.x).length:Int))=true->i<z.x.length:=λh=>by have:=of_decide_eq_true h; omega
 rw [hx0 (by omega)];clear hll;have hfin:∀ {j:Nat},j<=3/\j<=z.y.length->¬(j<z.y.length/\j<3)->Ev (Fx most (z.y.take j))=Ev (Fx most z.y):=λh1 h2=>by rw [hy0 (by omega)]
 by_cases hxx:i<z.x.length
 ·refine go tt [.g 17 true (decide_eq_true (by omega)),.f (decide_eq_false (by omega))] rfl trivial ?_;refine pz 3 rfl rfl ?_;refine oz2 5 1 55 2 rfl rfl ?_;refine lp (S:=Nat) 5 (λL1 j=>(7,.v (.one (.int .i64 (j:Int))))::L1) (λj=>[.blk 57 (rcw z),.blk 57 [.nils,.nils,.bool false,.nils],.blk 57 [.row (Ev (Fx most z.x)),.orow 4 2 none,sg D,mg D],.gone,.row false 55 2 (Ev (Fx most (z.y.take j)))]) (λj=>3-j) (λj=>j<=3/\j<=z.y.length) 0 ⟨by decide,Qg _⟩ rfl (λ_ _=>rfl) rfl λj ⟨hj,hj2⟩=>?_
  have hll:=Qpl (most:=most) hj hj2;by_cases hr:j<z.y.length/\j<3
  ·obtain ⟨a,ha⟩:=gxE (l:=z.y) (i:=j) hr.1;have hs:∀ y∈[Fp (Hp most a)],y.length=2:=λy hy=>by rw [Qm.1 hy]; rfl
   refine go tt [.g 40 true (decide_eq_true (by omega)),.t (decide_eq_true (by omega)),.x (Fb (f:=Qf6) ha),.c [] (Qc4 (hz.y a (Qa ha)) hm),.s (sz:=2) hs] rfl (by simp [W3,hll]; omega) ?_;exact rd (j+1) (by omega) ⟨hr.2,hr.1⟩ (by rw [Qfu hr.2 ha]; rfl)
  rw [hfin ⟨hj,hj2⟩ hr];by_cases hyy:j<z.y.length
  ·exact ed tt [4] [] [.g 40 true (decide_eq_true (by omega)),.f (decide_eq_false (by omega))] rfl trivial
  ·exact ed tt [4] [] [.g 40 false (decide_eq_false (by omega)),.f rfl] rfl trivial
 ·refine go tt [.g 17 false (decide_eq_false (by omega)),.f rfl] rfl trivial ?_;refine pz 3 rfl rfl ?_;refine oz2 5 1 55 2 rfl rfl ?_;refine lp (S:=Nat) 5 (λL1 j=>(7,.v (.one (.int .i64 (j:Int))))::L1) (λj=>[.blk 57 (rcw z),.blk 57 [.nils,.nils,.bool false,.nils],.blk 57 [.row (Ev (Fx most z.x)),.orow 4 2 none,sg D,mg D],.gone,.row false 55 2 (Ev (Fx most (z.y.take j)))]) (λj=>3-j) (λj=>j<=3/\j<=z.y.length) 0 ⟨by decide,Qg _⟩ rfl (λ_ _=>rfl) rfl λj ⟨hj,hj2⟩=>?_
  have hll:=Qpl (most:=most) hj hj2;by_cases hr:j<z.y.length/\j<3
  ·obtain ⟨a,ha⟩:=gxE (l:=z.y) (i:=j) hr.1;have hs:∀ y∈[Fp (Hp most a)],y.length=2:=λy hy=>by rw [Qm.1 hy]; rfl
   refine go tt [.g 40 true (decide_eq_true (by omega)),.t (decide_eq_true (by omega)),.x (Fb (f:=Qf6) ha),.c [] (Qc4 (hz.y a (Qa ha)) hm),.s (sz:=2) hs] rfl (by simp [W3,hll]; omega) ?_;exact rd (j+1) (by omega) ⟨hr.2,hr.1⟩ (by rw [Qfu hr.2 ha]; rfl)
  rw [hfin ⟨hj,hj2⟩ hr];by_cases hyy:j<z.y.length
  ·exact ed tt [4] [] [.g 40 true (decide_eq_true (by omega)),.f (decide_eq_false (by omega))] rfl trivial
  ·exact ed tt [4] [] [.g 40 false (decide_eq_false (by omega)),.f rfl] rfl trivial
theorem Qyw {n d:Int} (hn:-9223372036854775808<=n/\n<=9223372036854775807) (hd:-9223372036854775808<=d/\d<=9223372036854775807):W5 Tryz.prog 20 [.one (.int .i64 n),.one (.int .i64 d)] [.agg (fr (Fl (Bu n 61-30) (1+Bu d 6)))]:=by
 have h1:Bu n 61=n % 61:=rfl;have h2:Bu d 6=d % 6:=rfl;exact w tt Tryz.func20 rfl [.c [] (Qc2 (v:=n) (n:=61) hn (by decide)),.c [] (Qc2 (v:=d) (n:=6) hd (by decide)),.c [] (Zla (n:=Bu n 61-30) (d:=1+Bu d 6) (by omega) (by omega))] rfl rfl (by simp [W3]; omega)
def rwq (z:RawPt):List LV:=rcw z++[.int .i64 z.id]
def Qec (l:List RawPt):List (List LV):=l.map rwq
theorem Q4a (l:List RawPt):(Qec l).length=l.length:=by simp [Qec]
theorem Qql {l:List RawPt} {i:Nat} {z:RawPt} (h:l[i]? = some z):(Qec l)[i]? = some (rwq z):=Fb h
theorem Zim {most:Int} (hm:0<=most/\most<=999) (z:RawPt):Cs 100000 16 (Qav most z).c:=(Ql8 hm z.x z.y z.d).mono (by decide) (by decide)
def Ad (n:Nat) (most:Int) (zs:List RawPt) (i:Nat):List Pt:=Qf2 n most (zs.take i)
theorem Q9u (n:Nat) (most:Int) (zs:List RawPt) (i:Nat):(Ad n most zs i).length<=n:=I5 _ _ (Qg _)
theorem Ze6 {n:Nat} {most:Int} {zs:List RawPt} {i:Nat} {z:RawPt} (h:zs[i]? = some z) (hl:(Ad n most zs i).length<n) (ha:(Ad n most zs i).any (λx=>decide (x.id=(Qav most z).id))=true):Ad n most zs (i+1)=Ad n most zs i:=by
 unfold Ad Qf2 at *;rw [Z1,h,Y7,Xy];exact A3 _ _ _ hl ha
theorem Q9v {n:Nat} {most:Int} {zs:List RawPt} {i:Nat} {z:RawPt} (h:zs[i]? = some z) (hl:(Ad n most zs i).length<n) (ha:(Ad n most zs i).any (λx=>decide (x.id=(Qav most z).id))=false):Ad n most zs (i+1)=Ad n most zs i++[Qav most z]:=by
 unfold Ad Qf2 at *;rw [Z1,h,Y7,Xy];exact L6 _ _ _ hl ha
theorem Q9t {n:Nat} {most:Int} {zs:List RawPt} {i:Nat} (h:¬(i<zs.length/\(Ad n most zs i).length<n)):Ad n most zs i=Qf2 n most zs:=by
 by_cases h1:i<zs.length
 ·have hl:n<=(Ad n most zs i).length:=Yx λh2=>h ⟨h1,h2⟩
  unfold Ad Qf2 at *
  conv=>rhs; rw [<-Zb i zs,Xy]
  exact (Qfi _ _ _ hl).symm
 ·unfold Ad; rw [List.take_of_length_le (by omega)]
theorem Q44 {f:Pt->Bool} {l:List Pt} {k:Nat} {x:Pt} (h:l[k]? = some x):(l.take (k+1)).any f=((l.take k).any f || f x):=by
 rw [Z1,h]; simp
theorem Q2l {zs:List RawPt} (hz:∀ z∈zs,z.Ok):G5 Tryz.prog 43 [.one (.row (Qec zs)),.one (.int .i64 4)] [] [.one (.orow 0 5 none),.one (.orow 1 7 none)] [.row false 114 5 (Ud (Qf2 4 20 zs)),.row false 61 7 (Uu ((Qf2 4 20 zs).map Pt.nrm))]:=by
 have hzl:=Q4a zs;refine Fq Tryz.func43 rfl (ln 0 rfl rfl λhz63=>?_);rw [hzl] at hz63;refine go tt [.o 6 114 5,.o 7 61 7] rfl trivial ?_;refine lp (S:=Nat) 2 (λL1 i=>(8,.v (.one (.int .i64 (i:Int))))::(6,.v (.one (.orow 0 5 none)))::(7,.v (.one (.orow 1 7 none)))::L1) (λi=>[.row false 114 5 (Ud (Ad 4 20 zs i)),.row false 61 7 (Uu ((Ad 4 20 zs i).map Pt.nrm))]) (λi=>zs.length-i) (λi=>i<=zs.length) 0 (Qg _) rfl (λ_ _=>rfl) rfl λi hi=>?_
 have hOl:=Q9u 4 20 zs i;have hend:=Q9t (n:=4) (most:=20) (zs:=zs) (i:=i);by_cases h1:i<zs.length
 ·by_cases h2:(Ad 4 20 zs i).length<4
  ·obtain ⟨z,hzi⟩:=gxE (l:=zs) (i:=i) h1;have hzok:=hz z (Qa hzi);have hin:=Ze6 hzi h2;have hout:=Q9v hzi h2;obtain ⟨O,hO⟩:=nmE (Ad 4 20 zs i);rw [<-hO] at hOl h2 hin hout ⊢;have hpl:=Re O;have hrl:(Uu (O.map Pt.nrm)).length=O.length:=by rw [Ty,Q7]
   obtain ⟨p,hp⟩:=nmE (Qav 20 z);have hid:Bu z.id 1000=p.id:=by rw [hp]; rfl
   have cw:=Qc2 (v:=z.id) (n:=1000) hzok.id (by decide);have cl:=Q5o hzok (most:=20) (by decide);have ecl:cl4 (Qdm 20 z.x z.y z.d)=cl4 p.c:=by rw [hp]; rfl
   rw [hid] at cw;rw [ecl] at cl;rw [<-hp] at hin hout;refine go tt [.g 16 true (decide_eq_true (by omega)),.t (decide_eq_true (by omega)),.x (Qql hzi),.c [] (Zk5 (z:=z)),.x (Qql hzi),.c [] cw,.f rfl,.t rfl,.x (Qql hzi),.c [] cl] rfl trivial ?_;refine lp (S:=Nat) 3 (λL1 k=>(57,.v (.one (.int .i64 (k:Int))))::(10,.v (.one (.bool ((O.take k).any (λx=>decide (x.id=p.id))))))::L1) (λ_=>[.row false 114 5 (Ud O),.row false 61 7 (Uu (O.map Pt.nrm)),.blk 114 [pl p.c.x,pl p.c.y,sg p.c.d,mg p.c.d,.int .i64 p.id]]) (λk=>O.length-k) (λk=>k<=O.length) 0 (Qg _) rfl (λ_ _=>rfl) rfl λk hk=>?_
   by_cases hk2:k<O.length
   ·obtain ⟨x,hx⟩:=gxE (l:=O) (i:=k) hk2;have ha:=Q44 (f:=λx=>decide (x.id=p.id)) hx;cases hb:(O.take k).any (λx=>decide (x.id=p.id)) with
    |
     true =>
     rw [hb,Bool.true_or] at ha;exact go tt [.t (decide_eq_true (by omega)),.g 61 true rfl] rfl (by simp [W3]; omega) (rd (k+1) (by omega) hk2 (by rw [ha]; rfl))
    |
     false =>
     rw [hb,Bool.false_or] at ha;exact go tt [.t (decide_eq_true (by omega)),.g 61 false rfl,.i k,.x (O5 hx)] rfl (by simp [W3,hpl]; omega) (rd (k+1) (by omega) hk2 (by rw [ha]; rfl))
   have hk3:O.take k=O:=Qj (by omega);rw [hk3];cases hb:O.any (λx=>decide (x.id=p.id)) with
   |
    true =>
    refine go tt [.f (decide_eq_false (by omega)),.f rfl] rfl (by simp [W3]; omega) ?_;exact rd (i+1) (by omega) h1 (by rw [hin hb]; rfl)
   |
    false =>
    have cf:=Q6p (k:=p.c) (id:=p.id) (by rw [hp]; exact Zim (by decide) z);have hm1:∀ y∈[Gd p],y.length=5:=λy hy=>by rw [Qm.1 hy]; rfl
    have hm2:∀ y∈[Bb p.nrm],y.length=7:=λy hy=>by rw [Qm.1 hy]; rfl
    have e1:Ud (O++[p])=Ud O++[Gd p]:=by simp [Ud]
    have e2:Uu ((O++[p]).map Pt.nrm)=Uu (O.map Pt.nrm)++[Bb p.nrm]:=by simp [Uu]
    refine go tt [.f (decide_eq_false (by omega)),.t rfl,.s (sz:=5) hm1,.c [] cf,.s (sz:=7) hm2] rfl (by simp [W3,hpl,hrl]; omega) ?_;exact rd (i+1) (by omega) h1 (by rw [hout hb,e1,e2]; rfl)
  ·rw [hend (λh=>h2 h.2)];rw [hend (λh=>h2 h.2)] at h2;have hpl:=Re (Qf2 4 20 zs);exact ed tt [] [0,1] [.g 16 true (decide_eq_true (by omega)),.f (decide_eq_false (by omega))] rfl trivial
 ·rw [hend (λh=>h1 h.1)];exact ed tt [] [0,1] [.g 16 false (decide_eq_false (by omega)),.f rfl] rfl trivial
abbrev plZ (M:List Pt) (q:Rat):List LV:=.row (Uu M)::(fr q++[.nils,.nils,.nils,.bool false,.nils,.bool false,.nils,.bool false,.nils,.bool false,.nils,.int .i64 0,.nils])
abbrev plB (M:List Pt) (q:Rat) (c:List (List Int)) (w:List Ct):List LV:=.row (Uu M)::(fr q++(aq q c++[.row (Fw w),.int .i64 0,.nils]))
end Orr
namespace Orr
open Go Go.Proofs Orq
set_option maxRecDepth 10000
theorem Zdx {O:List Pt} {e j:Nat} (h:Lt (Rr O e)) (hj:j<=e):Lt (Rr O j):=by
 have:Rr O j=(Rr O e).take j:=by unfold Rr; rw [<-List.map_take,List.take_take,Nat.min_eq_left hj]
 rw [this];exact List.Pairwise.sublist (We _ _) h
theorem Zio (O:List Pt):∃ e,e<=O.length/\Lt (Rr O e)/\(e<O.length->¬Lt (Rr O (e+1))):=by
 have key:∀ k,Lt (Rr O k)\/∃ e,e<k/\Lt (Rr O e)/\¬Lt (Rr O (e+1)):=by
  intro k
  induction k with
  | zero=>exact .inl List.Pairwise.nil
  |
   succ k ih =>
   rcases ih with h | ⟨e,h1,h2,h3⟩
   ·by_cases h4:Lt (Rr O (k+1))
    ·exact .inl h4
    ·exact .inr ⟨k,Nat.lt_succ_self k,h,h4⟩
   ·exact .inr ⟨e,by omega,h2,h3⟩
 rcases key O.length with h | ⟨e,h1,h2,h3⟩
 ·exact ⟨O.length,Qn _,h,λh=>absurd h (Wc _)⟩
 ·exact ⟨e,by omega,h2,λ_=>h3⟩
theorem Qp6 {O:List Pt} {i:Nat} {p:Pt} (h:O[i]? = some p):(Ud (mix O i)).set i [pl p.c.x,pl p.c.y,sg p.c.d,mg p.c.d,.int .i64 p.m5.id]=Ud (mix O (i+1)):=by
 rw [<-Q0o h]; simp only [Ud,Ym]; rfl
theorem Qlw {O:List Pt} {i:Nat} {p:Pt} (h:O[i]? = some p):(Uu ((mix O i).map Pt.nrm)).set i [rp (Ee p.nrm.c.x p.nrm.c.d),rp (Ee p.nrm.c.y p.nrm.c.d),pl p.nrm.c.x,pl p.nrm.c.y,sg p.nrm.c.d,mg p.nrm.c.d,.int .i64 p.m5.id]=Uu ((mix O (i+1)).map Pt.nrm):=by
 rw [<-Q0o h]; simp only [Uu,Ym]; rfl
theorem Q32 {O:List Pt} {e i:Nat} (h:e<=i) (hi:i<=O.length):(Ud (mix O i)).take e=Ud (Rr O e):=by
 unfold Ud; rw [<-List.map_take,Qs4 h hi]; rfl
theorem Qxn {O:List Pt} {e i:Nat} (h:e<=i) (hi:i<=O.length):(Uu ((mix O i).map Pt.nrm)).take e=Uu (Qbf O e):=by
 unfold Uu; rw [<-List.map_take,<-List.map_take,Qs4 h hi]; rfl
theorem Qs3 {O:List Pt}:mix O O.length=Rr O O.length:=by unfold mix Rr; simp
abbrev Nm (n d:Int):Rat:=Fl (Bu n 61-30) (1+Bu d 6)
theorem Qf9 (n d:Int):Qs 100 (Nm n d):=by
 have h1:Bu n 61=n % 61:=rfl;have h2:Bu d 6=d % 6:=rfl;unfold Nm Fl;rw [if_neg (by omega)];exact Qs.divInt (Qc (Ri.2 (show (Bu n 61-30).natAbs<2^10 by omega)) (by decide)) (Qc (Ri.2 (show (1+Bu d 6).natAbs<2^10 by omega)) (by decide)) (by decide)
theorem Ze7 {n:Nat} {most:Int} {l:List RawPt}:∀ p∈Qf2 n most l,0≤p.id/\p.id<1000:=λp hp=>by
 rcases Qdf _ _ hp with h | h
 ·cases h
 ·obtain ⟨z,_,rfl⟩:=Zd.1 h;exact ⟨Vv _ (by decide),Y3 _ (by decide)⟩
end Orr
namespace Orr
def Tt:Nat->List Pt->List (Pt×Pt)
 | 0,_=>[]
 | _+1,[]=>[]
 | k+1,x::l=>l.map (λy=>(x,y))++Tt k l
def Cj (l:List Pt):List (Pt×Pt):=Tt l.length l
theorem Lo:∀ (l:List Pt) (i:Nat) (x:Pt),l[i]? = some x->Tt (i+1) l=Tt i l++(l.drop (i+1)).map (λy=>(x,y))
 | [],i,x,h=>by simp at h
 |
  y::l,0,x,h=>by
  simp at h; subst h;simp [Tt]
 |
  y::l,i+1,x,h=>by
  have h:l[i]? = some x:=by simpa using h
  have ih:=Lo l i x h;show l.map (λz=>(y,z))++Tt (i+1) l=(l.map (λz=>(y,z))++Tt i l)++_;rw [ih,Ze];rfl
theorem Qkj:∀ (k:Nat) (l:List Pt),∀ m∈Tt k l,m.1∈l/\m.2∈l
 | 0,l,m,h=>by simp [Tt] at h
 | k+1,[],m,h=>by simp [Tt] at h
 |
  k+1,x::l,m,h=>by
  rcases Qw.1 h with h | h
  ·obtain ⟨y,hy,rfl⟩:=Zd.1 h;exact ⟨Qr ..,Qi _ hy⟩
  ·obtain ⟨h1,h2⟩:=Qkj k l m h;exact ⟨Qi _ h1,Qi _ h2⟩
def Zp2 (s m:Pt×Pt):Bool:=decide (m.1.id≠s.1.id) || decide (m.2.id≠s.2.id)
end Orr
namespace Orq
open Orr Go
theorem Qpu {p:List Int} {a a':Tm} (h:∀ q,Ul a q=Ul a' q) {o:Option Tm} (hn:Rq p a o):Rq p a' o:=by
 have e:Ul a=Ul a':=funext h;unfold Rq Leq Tl at *;rw [<-e]; exact hn
theorem Qx7 {a b:Tm} (ha:Cut (Ul a)) (hb:Cut (Ul b)) (h:¬Tl a b) (h':¬Tl b a):∀ q,Ul a q=Ul b q:=by
 rcases tri ha hb with h1 | h1 | h1
 ·exact absurd h1 h
 ·exact h1
 ·exact absurd h1 h'
theorem Q1r {a b b':Tm} (h:∀ q,Ul b q=Ul b' q):Tl a b↔Tl a b':=by
 unfold Tl; simp only [h]
theorem Qab {a b b':Tm} (h:∀ q,Ul b q=Ul b' q):Tl b a↔Tl b' a:=by
 unfold Tl; simp only [h]
theorem Ia {p:List Int} {a:Tm} (ha:Va a) {t t':Tm} (h:Rq p a (some t)) (h':Rq p a (some t')):∀ q,Ul t q=Ul t' q:=by
 obtain ⟨_,v,l,s,s0,h4,h5⟩:=h;obtain ⟨_,v',l',s',s0',h4',h5'⟩:=h';have es:s=s':=Qeb (h4 _ ha.cut (λ_ h=>h) l) (h4' _ ha.cut (λ_ h=>h) l');refine Qx7 v.cut v'.cut (λhlt=>?_) λhlt=>?_
 ·have:=Qeb (h4' _ v.cut (Qfs ha.cut v.cut (Qpo ha.cut v.cut l)) hlt) h5;omega
 ·have:=Qeb (h4 _ v'.cut (Qfs ha.cut v'.cut (Qpo ha.cut v'.cut l')) hlt) h5';omega
theorem Ts {p:List Int} {a:Tm} (ha:Va a) {t:Tm} (h:Rq p a (some t)) (h':Rq p a none):False:=by
 obtain ⟨h1,v,l,s,s0,h4,h5⟩:=h;rcases h' with h' | ⟨s',s0',h'⟩
 ·exact h1 h'
 ·have e1:=Qeb (h' _ ha.cut λ_ h=>h) (h4 _ ha.cut (λ_ h=>h) l);have e2:=Qeb (h' _ v.cut (Qfs ha.cut v.cut (Qpo ha.cut v.cut l))) h5;omega
structure Quiet {β:Type} (Bc:Tm->List Ct) (Br:Tm->β) (a b:Tm):Prop where
 va:Va a
 vb:Va b
 le:¬Tl b a
 n:∀ x∈Bc a,∃ o,Rq x.p a o/\∀ u,o=some u->Tl b u
section
variable {β:Type} {Bc:Tm->List Ct} {Br:Tm->β} (S:Stab Bc Br)
include S
theorem Quiet.same {a b:Tm} (h:Quiet Bc Br a b):Bc b=Bc a/\Br b=Br a:=by
 refine S.st a b h.va h.vb λx hx=>?_
 obtain ⟨o,o1,o2⟩:=h.n x hx;exact Qmw (S.ok.p _ h.va _ hx).dp h.va h.vb h.le o1 o2
theorem Qn0 {a b:Tm} (ha:Va a) (hb:Va b) (h:∀ q,Ul a q=Ul b q):Quiet Bc Br a b:=by
 refine ⟨ha,hb,λh'=>Qcc hb.cut hb.cut ((Q1r h).1 h') ((Q1r h).1 h'),λx hx=>?_⟩;obtain ⟨r,_,r2,_⟩:=Qkh (S.ok.p _ ha _ hx) ha;refine ⟨r,r2,λu hu=>?_⟩;subst hu;obtain ⟨q,q1,q2⟩:=r2.2.2.1;exact ⟨q,by rw [<-h]; exact q1,q2⟩
theorem Q3a {t:Rat} {a:Tm} {E:List Tm} (hE:Evs Bc t a E):∀ {b:Tm} {E':List Tm},Quiet Bc Br a b->Evs Bc t b E'->E.length=E'.length:=by
 induction hE with
 |
  @nil a h =>
  intro b E' hq hE';have hs:=(Quiet.same S hq).1;cases hE' with
  | nil _=>rfl
  |
   cons he h1 h2 h3 h4 h5 =>
   exfalso;obtain ⟨x,hx,hx2⟩:=h4;rw [hs] at hx;obtain ⟨o,o1,o2⟩:=h x hx;obtain ⟨o',o1',o2'⟩:=hq.n x hx;cases o with
   |
    none =>
    cases o' with
    | none=>exact Ts hq.vb hx2 (Ez hq.va.cut hq.vb.cut hq.le o1' o2')
    | some u=>exact Ts hq.va o1' o1
   |
    some u =>
    cases o' with
    | none=>exact Ts hq.va o1 o1'
    |
     some u' =>
     have e1:=Ia hq.va o1 o1';have e2:=Ia hq.vb (Ez hq.va.cut hq.vb.cut hq.le o1' o2') hx2;obtain ⟨q,q1,q2⟩:=o2 u rfl;exact h2 ⟨q,q1,by rw [<-e2,<-e1]; exact q2⟩
 |
  @cons a e E he h1 h2 h3 h4 h5 ih =>
  intro b E' hq hE';have hs:=(Quiet.same S hq).1;have nx:∀ x∈Bc a,∀ u,Rq x.p a (some u)->Tl b u/\Rq x.p b (some u):=λx hx u hu=>by
   obtain ⟨o',o1',o2'⟩:=hq.n x hx;cases o' with
   | none=>exact (Ts hq.va hu o1').elim
   |
    some u' =>
    have e1:=Ia hq.va o1' hu;have hb':=o2' u' rfl;have hb2:Tl b u:=by obtain ⟨q,q1,q2⟩:=hb'; exact ⟨q,q1,by rw [<-e1]; exact q2⟩
    exact ⟨hb2,Ez hq.va.cut hq.vb.cut hq.le hu λv hv=>by injection hv with hv; subst hv; exact hb2⟩
  obtain ⟨x0,hx0,hn0⟩:=h4;obtain ⟨hb0,hnb0⟩:=nx x0 hx0 e hn0;cases hE' with
  |
   nil h' =>
   exfalso;obtain ⟨o,o1,o2⟩:=h' x0 (by rw [hs]; exact hx0);cases o with
   | none=>exact Ts hq.vb hnb0 o1
   |
    some u =>
    have e1:=Ia hq.vb o1 hnb0;obtain ⟨q,q1,q2⟩:=o2 u rfl;exact h2 ⟨q,q1,by rw [<-e1]; exact q2⟩
  |
   @cons _ e' E'' he' h1' h2' h3' h4' h5' =>
   obtain ⟨x1,hx1,hn1⟩:=h4';rw [hs] at hx1;have a1:¬Tl e' e:=λhlt=>by
    obtain ⟨o,o1,o2⟩:=h3 x1 hx1;cases o with
    |
     none =>
     obtain ⟨o',o1',o2'⟩:=hq.n x1 hx1;cases o' with
     | none=>exact Ts hq.vb hn1 (Ez hq.va.cut hq.vb.cut hq.le o1' o2')
     | some u=>exact Ts hq.va o1' o1
    |
     some u =>
     have e2:=Ia hq.vb (nx x1 hx1 u o1).2 hn1;exact o2 u rfl ((Qab e2).2 hlt)
   have a2:¬Tl e e':=λhlt=>by
    obtain ⟨o,o1,o2⟩:=h3' x0 (by rw [hs]; exact hx0);cases o with
    | none=>exact Ts hq.vb hnb0 o1
    |
     some u =>
     have e2:=Ia hq.vb o1 hnb0;exact o2 u rfl ((Qab e2).2 hlt)
   have:=ih (Qn0 S he he' (Qx7 he.cut he'.cut a2 a1)) h5';simp [this]
theorem Qzw {t1 t2:Rat} (h12:t1<=t2) (ht:Va (tq t1)) {a:Tm} {E1:List Tm} (h:Evs Bc t1 a E1):∀ {E2 E:List Tm},Va a->¬Tl (tq t1) a->Evs Bc t2 (tq t1) E2->Evs Bc t2 a E->E.length=E1.length+E2.length:=by
 have lt12:∀ {u:Tm},Tl (tq t2) u->Tl (tq t1) u:=λ⟨q,q1,q2⟩=>⟨q,by
  rw [Ai] at q1 ⊢;rcases Rh t1 q with ⟨e,h⟩ | ⟨e,h⟩ | ⟨e,h⟩ <;> rcases Rh t2 q with ⟨e',h'⟩ | ⟨e',h'⟩ | ⟨e',h'⟩ <;> grind,q2⟩
 induction h with
 |
  @nil a h =>
  intro E2 E ha hle h2 h';have:=Q3a S h' ⟨ha,ht,hle,h⟩ h2;simp [this]
 |
  @cons a e E1 he b1 b2 b3 b4 b5 ih =>
  intro E2 E ha hle h2 h';obtain ⟨x0,hx0,hn0⟩:=b4;cases h' with
  |
   nil g =>
   exfalso;obtain ⟨o,o1,o2⟩:=g x0 hx0;cases o with
   | none=>exact Ts ha hn0 o1
   |
    some u =>
    have e1:=Ia ha o1 hn0;obtain ⟨q,q1,q2⟩:=lt12 (o2 u rfl);exact b2 ⟨q,q1,by rw [<-e1]; exact q2⟩
  |
   @cons _ e' E'' he' c1 c2 c3 c4 c5 =>
   obtain ⟨x1,hx1,hn1⟩:=c4;have a1:¬Tl e' e:=λhlt=>by
    obtain ⟨o,o1,o2⟩:=b3 x1 hx1;cases o with
    | none=>exact Ts ha hn1 o1
    | some u=>exact o2 u rfl ((Qab (Ia ha o1 hn1)).2 hlt)
   have a2:¬Tl e e':=λhlt=>by
    obtain ⟨o,o1,o2⟩:=c3 x0 hx0;cases o with
    | none=>exact Ts ha hn0 o1
    | some u=>exact o2 u rfl ((Qab (Ia ha o1 hn0)).2 hlt)
   have eq:=Qx7 he'.cut he.cut a1 a2;have hE:∃ E3,Evs Bc t2 e E3/\E3.length=E''.length:=by
    have hs:=(Quiet.same S (Qn0 S he' he eq)).1;cases c5 with
    | nil g=>exact ⟨[],.nil λx hx=>by
     rw [hs] at hx;obtain ⟨o,o1,o2⟩:=g x hx;exact ⟨o,Qpu eq o1,o2⟩,rfl⟩
    |
     @cons _ f F hf d1 d2 d3 d4 d5 =>
     refine ⟨f::F,.cons hf ((Qab eq).1 d1) d2 (λx hx=>?_) ?_ d5,rfl⟩
     ·rw [hs] at hx;obtain ⟨o,o1,o2⟩:=d3 x hx;exact ⟨o,Qpu eq o1,o2⟩
     ·obtain ⟨x,hx,hxn⟩:=d4;exact ⟨x,by rw [hs]; exact hx,Qpu eq hxn⟩
   obtain ⟨E3,h3,h4⟩:=hE;have:=ih he b2 h2 h3;simp only [Q6];omega
end
theorem Zf4 {p:List Int} (h:Cp p):(tms p).length<=67:=by
 obtain ⟨l,l1,l2,_⟩:=Qae h;unfold tms; rw [l1]; exact l2
theorem Q1u:∀ {Ps:List (List Int)},(∀ p∈Ps,Cp p)->(Ps.flatMap tms).length≤67*Ps.length
 | [],_=>Qg _
 |
  p::Ps,h=>by
  have h1:=Zf4 (h p (by simp));have h2:=Q1u (Ps:=Ps) λq hq=>h q (Qi _ hq)
  rw [List.flatMap_cons,Q5,Q6]; omega
theorem Zl3 (T:List Tm) (a:Tm):mu T a<=T.length:=Vg _ _
theorem Zht {β:Type} {Bc:Tm->List Ct} {Br:Tm->β} (S:Stab Bc Br) {Ps:List (List Int)} (hP:∀ p∈Ps,Cp p) (hPs:∀ a,Va a->∀ x∈Bc a,x.p∈Ps) (hl:Ps.length≤1000000) {t:Rat} (ht:Qs 400000 t) {c:Cr} {r:β} (hS:KSt Bc Br c r) (h:Ul c.now t≤0) :
 ∃ (K:Nat) (c':Cr) (E:List Tm),K<=67000001/\goF Bc Br t K c r 0=some (c',Br (tq t),((E.length:Nat):Int))/\c'.now=tq t/\KSt Bc Br c' (Br (tq t))/\c'.ev=c.ev+((E.length:Nat):Int)/\E.length<=67000000/\Evs Bc t c.now E:=by
 have hm:=Q1u hP;have hmu:=Zl3 (Ps.flatMap tms) c.now;have hv:=hS.inv.ok.n;obtain ⟨c',r',E,g1,g2,g3,g4,g5,g6⟩:=Zlr S ht hP hPs (mu (Ps.flatMap tms) c.now) c r 0 (Qn _) hS λh'=>by
  have:=(Qi5 hv.cut).2 h'; omega
 have hr:r'=Br (tq t):=by rw [g3.r,g2]
 rw [hr] at g1 g3;rw [Int.zero_add] at g1;exact ⟨_,c',E,by omega,g1,g2,g3,g4,by omega,g6⟩
theorem Zh1 {β:Type} {Bc:Tm->List Ct} {Br:Tm->β} (S:Stab Bc Br) {a:Tm} (ha:Va a):KSt Bc Br ⟨a,(Ge (Bc a)).map fresh,0⟩ (Br a):=by
 refine ⟨⟨⟨ha,λw hw=>?_,?_⟩,λw hw hk=>?_⟩,?_,rfl⟩
 ·obtain ⟨x,hx,rfl⟩:=Zd.1 hw;exact ⟨S.ok.p _ ha x (Qa4 hx),λt ht=>by cases ht⟩
 ·show ((Ge (Bc a)).map fresh).length<=1000;rw [Q7,Cz]; exact S.ok.n _ ha
 ·obtain ⟨x,hx,rfl⟩:=Zd.1 hw;cases hk
 ·show ((Ge (Bc a)).map fresh).map (·.c)=Ge (Bc a);rw [List.map_map];show (Ge (Bc a)).map (λx=>x)=_;rw [List.map_id']
end Orq
namespace Orr
open Go Go.Proofs Orq
set_option maxRecDepth 10000
theorem Lk {l m:List (List LV)} (h:l=m):TV.one (LV.row l)=.one (.row m):=h ▸ rfl
end Orr
namespace Orr
open Go Go.Proofs
set_option maxRecDepth 10000
theorem Qos {p q:List Int} (hp:Bd 19000000 p) (hq:Bd 19000000 q) (hlp:p.length<=1000000) (hlq:q.length<=1000000):W5 Tryz.prog 55 [.one (rp (zp p)),.one (rp (zp q))] [.one (rp (zp (D6 p q)))]:=by
 have h:=Qvx (Qbq (W4 hp (by decide)) (by decide)) (Qbq (W4 hq (by decide)) (by decide)) (by rw [Td]; exact hlp) (by rw [Td]; exact hlq);rwa [Q1i] at h
theorem Qjy (p:List Int) (q:Rat):Bj (An q) p=Qjx p q:=rfl
end Orr
