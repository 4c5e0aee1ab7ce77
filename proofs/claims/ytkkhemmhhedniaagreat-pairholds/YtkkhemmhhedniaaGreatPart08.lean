/- K3 K4 S1 S2 S3 R5 R6 RefGL R7 RatOkL R8 R9 RefCL R10 RawL NewsL KGoL SortQ BegL R11 R12 R13 R14 R15 R16 R17 R18 -/
import Derived.Test.YtkkhemmhhedniaaGreatPart07
import Derived.Test.YtkkhemmhhedniaaGreatPart00
import Derived.Test.YtkkhemmhhedniaaGreatPart05
set_option linter.all false
namespace Orr
open Go Go.Proofs Orq
set_option maxRecDepth 10000
def Nq (now:Tm):List Wt->Option (List Wt)
 | []=>some []
 | w::l=>(if w.known=true then some w else (Qfs w.c.p now).bind λr=>some ⟨w.c,true,r⟩).bind λw'=>(Nq now l).bind λr=>some (w'::r)
theorem Qab {now:Tm}:∀ {l ws:List Wt},Nq now l=some ws->ws.length=l.length/\∀ (i:Nat) (w:Wt),l[i]? = some w->∃ v,ws[i]? = some v/\(w.known=true/\v=w\/w.known=false/\∃ r,Qfs w.c.p now=some r/\v=⟨w.c,true,r⟩)
 | [],ws,h=>by injection h with h; subst h; exact ⟨rfl,λi x hx=>by simp at hx⟩
 |
  y::l,ws,h=>by
  simp only [Nq] at h;obtain ⟨v,hv,h⟩:=Qe.1 h;obtain ⟨r,hr,h⟩:=Qe.1 h;injection h with h; subst h;obtain ⟨a,b⟩:=Qab hr;refine ⟨by simp [a],λi x hx=>?_⟩;cases i with
  |
   zero =>
   injection hx with hx; subst hx;refine ⟨v,rfl,?_⟩
   split at hv
   ·rename_i hk; injection hv with hv; exact .inl ⟨hk,hv.symm⟩
   ·rename_i hk;obtain ⟨q,hq,hv⟩:=Qe.1 hv;injection hv with hv;exact .inr ⟨by simpa using hk,q,hq,hv.symm⟩
  | succ i=>exact b i x (by simpa using hx)
theorem Q3o {p:List Int} {a:Tm} {r:Option Tm} (hp:Cp p) (ha:Va a) (h:Qfs p a=some r):Ua Tryz.prog 154 [pr p,.agg (ta a)] [.agg (ota r),.one (.bool r.isSome)]:=by
 obtain ⟨l,l1,l2,l3,_⟩:=Ox hp;unfold Qfs at h;rw [l1] at h;exact Zav (Dp.pb hp.dp) ha.tb l1 (by omega) (λt ht=>(l3 t ht).tb) h
theorem Zay {T:Nat} {c:Cr} {r0 r1:List (List LV)} {ws:List Wt} (hc:CrOk c) (h:Nq c.now c.l=some ws):G6 Tryz.prog 88 [.one (.ow 0 0)] [.blk T (Ce c r0 r1)] [] [.blk T (Ce { c with l:=ws } r0 r1)]:=by
 have hk:=hc.k;have hw:=Nk c.l;obtain ⟨h1,h2⟩:=Qab h;refine Gu Tryz.func88 rfl ?_;refine go tt [.o 2 167 18,.c [0] (Qt6 hc.n)] rfl trivial ?_;refine lp (S:=Nat) 3 (λL1 i=>(13,.v (.one (.int .i64 (i:Int))))::(2,.v (.one (.orow 1 18 none)))::L1) (λi=>[.blk T (Ce c r0 r1),.row false 167 18 (Qau (ws.take i)),.blk 74 (ta c.now)]) (λi=>c.l.length-i) (λi=>i<=c.l.length) 0 (Qi _) rfl (λ_ _=>rfl) rfl λi hi=>?_
 by_cases hlt:i<c.l.length
 ·obtain ⟨w,hx⟩:=gxE (l:=c.l) (i:=i) hlt;obtain ⟨v,hv,h3⟩:=h2 i w hx;have hm:∀ y∈[wl v],y.length=18:=λy hy=>by rw [Qt.1 hy]; rfl
  have hg:=Qfb hv;have hl:decide ((i:Int)<((Qau c.l).length:Int))=true:=by simp [hw]; omega
  rcases h3 with ⟨k1,rfl⟩ | ⟨k1,r,k2,rfl⟩
  ·obtain ⟨vc,vk,vf⟩:=v;cases vf <;> (refine go tt [.t hl,.x (Te hx),.f (by rw [show vk=true from k1]; rfl),.s (sz:=18) hm] rfl (by simp [W9,Nk]; omega) ?_; exact rd (i+1) (by omega) hlt (by rw [hg]; rfl))
  ·have cg:=Q3o (hc.l w (Qc hx)).p hc.n k2;obtain ⟨wc,wk,wf⟩:=w;cases r <;> cases wf <;> (refine go tt [.t hl,.x (Te hx),.t (by rw [show wk=false from k1]; rfl),.c [] cg,.s (sz:=18) hm] rfl (by simp [W9,Nk]; omega) ?_; exact rd (i+1) (by omega) hlt (by rw [hg]; rfl))
 ·obtain rfl:i=c.l.length:=by omega
  rw [<-h1,Q8];exact ed tt [1] [0] [.f (by simp [hw,h1])] rfl trivial
def Qi6 (ws:List Wt):Option (Option Tm):=match ws.filterMap (·.fails) with
 | []=>some none
 | b::l=>(Au b l).map some
theorem Qac {c:Cr} {ws:List Wt} (hc:CrOk c) (h:Nq c.now c.l=some ws):CrOk { c with l:=ws }:=by
 obtain ⟨h1,h2⟩:=Qab h;refine ⟨hc.n,λv hv=>?_,by show ws.length<=1000; rw [h1]; exact hc.k⟩;obtain ⟨i,hi⟩:=Jp hv;have hil:i<c.l.length:=by rw [<-h1]; exact (Qf.1 hi).1
 obtain ⟨v',h3,h4⟩:=h2 i _ (Qd hil);rw [hi] at h3; injection h3 with h3; subst h3;have hw:=hc.l _ (Xw hil);rcases h4 with ⟨_,rfl⟩ | ⟨_,r,k2,rfl⟩
 ·exact hw
 ·obtain ⟨r',r1,r2⟩:=Q7a hw.p hc.n;rw [k2] at r1; injection r1 with r1; subst r1;refine ⟨hw.p,λt ht=>?_⟩;have ht:r=some t:=ht;subst ht;exact r2.2.1
theorem Qmz {T:Nat} {c:Cr} {r0 r1:List (List LV)} {ws:List Wt} {r:Option Tm} (hc:CrOk c) (h:Nq c.now c.l=some ws) (hr:Qi6 ws=some r):G6 Tryz.prog 24 [.one (.ow 0 0)] [.blk T (Ce c r0 r1)] [.agg (ota r),.one (.bool r.isSome)] [.blk T (Ce { c with l:=ws } r0 r1)]:=by
 have hcl:=Zay (T:=T) (r0:=r0) (r1:=r1) hc h;have hc':=Qac hc h;have hk:=hc'.k;have hw:=Nk ws;have hvb:∀ t∈ws.filterMap (·.fails),Tb t:=λt ht=>by
  obtain ⟨w,w1,w2⟩:=Jk.1 ht;exact ((hc'.l w w1).f t w2).tb
 refine Gu Tryz.func24 rfl ?_;refine go tt [.c [0] hcl,.o 4 74 9] rfl trivial ?_;refine lp (S:=Nat) 3 (λL1 i=>(14,.v (.one (.int .i64 (i:Int))))::(4,.v (.one (.orow 2 9 none)))::L1) (λi=>[.blk T (Ce { c with l:=ws } r0 r1),.blk 74 zTm,.row false 74 9 (tal ((ws.take i).filterMap (·.fails)))]) (λi=>ws.length-i) (λi=>i<=ws.length) 0 (Qi _) rfl (λ_ _=>rfl) rfl λi hi=>?_
 by_cases hlt:i<ws.length
 ·obtain ⟨w,hx⟩:=gxE (l:=ws) (i:=i) hlt;have hl:decide ((i:Int)<((Qau ws).length:Int))=true:=by simp [hw]; omega
  have hfl:((ws.take i).filterMap (·.fails)).length<=i:=Qa (V6 _ _) (by rw [Qy]; omega);have hg:(ws.take (i+1)).filterMap (·.fails)=(ws.take i).filterMap (·.fails)++(match w.fails with | none=>[] | some t=>[t]):=by
   rw [Xk,hx,List.filterMap_append];show _++List.filterMap (·.fails) [w]=_;cases hwf:w.fails <;> simp [hwf]
  obtain ⟨wc,wk,wf⟩:=w;have hk:ws.length<=1000:=hk;cases wf with
  |
   none =>
   refine go tt [.t hl,.x (Te hx),.f rfl] rfl (by simp [W9]; omega) ?_;exact rd (i+1) (by omega) hlt (by rw [hg]; simp; rfl)
  |
   some t =>
   refine go tt [.t hl,.x (Te hx),.t rfl,.s (l:=[ta t]) (sz:=9) (λc hc=>by rw [Qt.1 hc]; rfl)] rfl (by simp [W9]; omega) ?_;exact rd (i+1) (by omega) hlt (by rw [hg]; simp [tal]; rfl)
 ·obtain rfl:i=ws.length:=by omega
  rw [Q8];have hf:decide ((ws.length:Int)<((Qau ws).length:Int))=false:=by simp [hw]
  have hln:(ws.filterMap (·.fails)).length<=1000:=Qa (V6 _ _) hk;unfold Qi6 at hr;cases hfm:ws.filterMap (·.fails) with
  |
   nil =>
   rw [hfm] at hr;injection hr with hr; subst hr;exact ed tt [] [0] [.f hf,.p 2,.c [] Q3s] rfl trivial
  |
   cons b l =>
   rw [hfm] at hr hvb hln;obtain ⟨m,m1,rfl⟩:=Vd.1 hr;have cl:=Ee (hvb b (Qr ..)) (λt ht=>hvb t (Qj _ ht)) (by simp at hln; omega) m1;exact ed tt [] [0] [.f hf,.p 2,.c [] cl] rfl trivial
theorem Qi0 {at_:Tm} {x:Ct}:∀ {l:List Wt} {w:Wt},Do l x at_=some w->w=fresh x\/∃ v∈l,v.known=true/\v.c.p=x.p/\w=⟨x,true,v.fails⟩/\∀ t,v.fails=some t->∃ c,Qf7 t at_=some c/\0<c
 | [],w,h=>by simp only [Do] at h; injection h with h; exact .inl h.symm
 |
  v::l,w,h=>by
  simp only [Do] at h;have tl:Do l x at_=some w->w=fresh x\/∃ v'∈v::l,v'.known=true/\v'.c.p=x.p/\w=⟨x,true,v'.fails⟩/\∀ t,v'.fails=some t->∃ c,Qf7 t at_=some c/\0<c:=λh=>by
   rcases Qi0 h with h | ⟨v',h1,h2⟩
   ·exact .inl h
   ·exact .inr ⟨v',Qj _ h1,h2⟩
  split at h
  ·rename_i hk;cases hf:v.fails with
   |
    none =>
    rw [hf] at h;injection h with h;exact .inr ⟨v,Qr ..,hk.2.1,hk.2.2,by rw [hf]; exact h.symm,λt ht=>by rw [hf] at ht; cases ht⟩
   |
    some t =>
    rw [hf] at h;obtain ⟨c,c1,h⟩:=Qe.1 h
    split at h
    ·rename_i h0;injection h with h;exact .inr ⟨v,Qr ..,hk.2.1,hk.2.2,by rw [hf]; exact h.symm,λu hu=>by rw [hf] at hu; injection hu with hu; subst hu; exact ⟨c,c1,h0⟩⟩
    ·exact tl h
  ·exact tl h
theorem lay_ok {c:Cr} {at_:Tm} {l:List Ct} {ws:List Wt} (ev:Int) (hc:CrOk c) (ha:Va at_) (hl:∀ x∈l,Cp x.p) (hn:l.length≤1000) (h:Qci c.l at_ (Gv l)=some ws):CrOk ⟨at_,ws,ev⟩:=by
 obtain ⟨h1,h2⟩:=Qcj h;refine ⟨ha,λw hw=>?_,by show ws.length<=1000; rw [h1,Da]; exact hn⟩;obtain ⟨i,hi⟩:=Jp hw;have hil:i<(Gv l).length:=by rw [<-h1]; exact (Qf.1 hi).1
 obtain ⟨v,h3,h4⟩:=h2 i _ (Qd hil);rw [hi] at h4; injection h4 with h4; subst h4;have hx:=hl _ (Qe4 (Xw hil));rcases Qi0 h3 with e | ⟨v,v1,_,v3,e,_⟩
 ·rw [e]; exact ⟨hx,λt ht=>by cases ht⟩
 ·rw [e]; exact ⟨hx,λt ht=>(hc.l v v1).f t ht⟩
def goF {β:Type} (Bc:Tm->List Ct) (Br:Tm->β) (t:Rat):Nat->Cr->β->Int->Option (Cr×β×Int)
 | 0,_,_,_=>none
 |
  k+1,c,r,n=>(Nq c.now c.l).bind λws=>(Qi6 ws).bind λo=>match o with
  | none=>some (⟨tq t,ws,c.ev⟩,r,n)
  | some a=>if 0<Uq a t then some (⟨tq t,ws,c.ev⟩,r,n) else (Qci ws a (Gv (Bc a))).bind λw2=>goF Bc Br t k ⟨a,w2,c.ev+1⟩ (Br a) (n+1)
theorem Q7d {ws:List Wt} {a:Tm} (h:Qi6 ws=some (some a)) (hv:∀ t∈ws.filterMap (·.fails),Va t):a∈ws.filterMap (·.fails)/\∀ t∈ws.filterMap (·.fails),¬Pn t a:=by
 unfold Qi6 at h;cases hf:ws.filterMap (·.fails) with
 | nil=>rw [hf] at h; injection h with h; cases h
 |
  cons b l =>
  rw [hf] at h hv;obtain ⟨m,m1,m2⟩:=Vd.1 h;injection m2 with m2; subst m2;obtain ⟨m',n1,n2,n3⟩:=Qem l b hv;rw [m1] at n1; injection n1 with n1; subst n1;exact ⟨n2,n3⟩
theorem Zhx {c:Cr} {ws:List Wt} {a:Tm} (hc:CrOk c) (h:Nq c.now c.l=some ws) (hr:Qi6 ws=some (some a)):Va a:=by
 have hc':=Qac hc h;have hv:∀ t∈ws.filterMap (·.fails),Va t:=λt ht=>by
  obtain ⟨w,w1,w2⟩:=Jk.1 ht;exact (hc'.l w w1).f t w2
 exact hv a (Q7d hr hv).1
structure BuildOk (Bc:Tm->List Ct):Prop where
 p:∀ a,Va a->∀ x∈Bc a,Cp x.p
 n:∀ a,Va a->(Bc a).length<=1000
theorem Qkl {T:Nat} {c:Cr} {r0 r1:List (List LV)}:G6 Tryz.prog 34 [.one (.ow 0 0)] [.blk T (Ce c r0 r1)] [.one (.int .i64 c.ev)] [.blk T (Ce c r0 r1)]:=by
 refine Gu Tryz.func34 rfl ?_;exact ed tt [] [0] [] rfl trivial


abbrev idl (l:List Int):List (List LV):=l.map λ(z:Int)=>[.int .i64 z]
theorem Zcf {l:List Int} {i:Nat} {z:Int} (h:l[i]? = some z):(idl l)[i]? = some [.int .i64 z]:=G9 h
def Ik (v n:Int):Int:=if n<1 then 0 else v.emod n
theorem Q2s {v n:Int} (h:0<n):(if v.tmod n<0 then v.tmod n+n else v.tmod n)=v % n:=by
 have h3:=Vz v (show n≠0 by omega);have h4:=Yz v h;have h1:=Int.tmod_eq_emod (a:=v) (b:=n);have hn:((n.natAbs:Nat):Int)=n:=by omega
 split at h1
 ·rw [h1]; simp; omega
 ·rename_i hc;rw [h1,hn];have:v % n≠0:=λe=>hc (.inr (Yh e))
  rw [if_pos (by omega)]; omega
theorem Qb3 {v n:Int} (hv:-9223372036854775808<=v/\v<=9223372036854775807) (hn:n<=1000000000):Ua Tryz.prog 53 [.one (.int .i64 v),.one (.int .i64 n)] [.one (.int .i64 (Ik v n))]:=by
 unfold Ik;by_cases h:n<1
 ·rw [if_pos h];exact w tt Tryz.func53 rfl [.t (by simpa using h)] rfl rfl trivial
 ·rw [if_neg h];have e:=Q2s (v:=v) (n:=n) (by omega);have h3:=Vz v (show n≠0 by omega);have h4:=Yz v (show 0<n by omega);show Ua Tryz.prog 53 [.one (.int .i64 v),.one (.int .i64 n)] [.one (.int .i64 (v % n))];by_cases h0:v.tmod n<0
  ·rw [if_pos h0] at e;have b:-n<=v.tmod n:=by omega
   exact w tt Tryz.func53 rfl [.f (by simpa using h),.t (by simpa using h0)] rfl (by rw [e]) (by simp [W9]; omega)
  ·rw [if_neg h0] at e;exact w tt Tryz.func53 rfl [.f (by simpa using h),.f (by simpa using h0)] rfl (by rw [e]) (by simp [W9]; omega)
end Orr
namespace Orr
open Go Go.Proofs
set_option maxRecDepth 10000
def frow (p:List Rat):List (List LV):=p.map fr
theorem Rx (p:List Rat):(frow p).length=p.length:=by simp [frow]
theorem Dm {p:List Rat} {i:Nat} {q:Rat} (h:p[i]? = some q):(frow p)[i]? = some (fr q):=G9 h
theorem Qlf (p:List Rat) (q:Rat):frow (p++[q])=frow p++[fr q]:=by simp [frow]
theorem Qd9 (p:List Rat):∀ c∈frow p,c.length=4:=λc hc=>by obtain ⟨x,_,rfl⟩:=Zk.1 hc; rfl
abbrev rp (p:List Rat):LV:=.row (frow p)
theorem Qvo (q:Rat):∀ c∈[fr q],c.length=4:=λc hc=>by rw [Qt.1 hc]; rfl
theorem Q4f:Ua Tryz.prog 204 [] [.agg (fr 0)]:=w tt Tryz.func204 rfl [.c [] (Qhp (n:=0) (by decide))] rfl rfl trivial
theorem Iu {p:List Rat}:Ua Tryz.prog 87 [.one (rp p)] [.one (rp (Nt p))]:=by
 refine Gu Tryz.func87 rfl (ln 0 rfl rfl λhl=>?_);rw [Rx] at hl;have hpl:=Rx p;refine go tt [] rfl trivial ?_;refine lp (S:=Nat) 0 (λL1 n=>(3,.v (.one (.int .i64 (n:Int))))::L1) (λ_=>[]) id (λn=>n<=p.length/\∀ j x,n<=j->p[j]? = some x->x=0) (frow p).length ⟨by rw [hpl]; exact Qk _,λj x h1 h2=>by
  have:=(Qf.1 h2).1; rw [hpl] at h1; omega⟩ rfl (λ_ _=>rfl) rfl λn hs=>?_
 obtain ⟨h1,h2⟩:=hs;cases n with
 |
  zero =>
  have e:=Qe2 h1 (λj x h=>h2 j x h) (λh=>absurd h (by decide));exact en tt [.g 8 false (by simp),.f rfl,.i 0] rfl (by rw [e]; rfl) (by simp [W9])
 |
  succ n =>
  obtain ⟨x,hx⟩:=gxE (l:=p) (i:=n) (by omega);have hn:=Rat.num_eq_zero (q:=x);by_cases h0:x=0
  ·refine go tt [.g 8 true (by simp),.r 11 (eI (b:=(n:Int)) (by simp)),.x (Dm hx),.c [] (P8 (z:=x.num)),.t (decide_eq_true (hn.2 h0)),.r 18 (eI (b:=(n:Int)) (by simp))] rfl (by simp [W9]; omega) ?_;exact rd n (by simp) ⟨by omega,λj y h3 h4=>by
    rcases Y4 h3 with rfl | h3
    ·rw [hx] at h4; injection h4 with h4; rw [<-h4,h0]
    ·exact h2 j y h3 h4⟩ rfl
  ·have e:=Qe2 h1 (λj x h=>h2 j x h) (λ_=>⟨x,hx,h0⟩);exact en tt [.g 8 true (by simp),.r 11 (eI (b:=(n:Int)) (by simp)),.x (Dm hx),.c [] (P8 (z:=x.num)),.f (decide_eq_false λh=>h0 (hn.1 h)),.i (n+1)] rfl (by rw [e]; simp [rp,frow,Ys]) (by simp [W9,hpl] <;> omega)
theorem Ze6 {p:List Rat} {i:Nat} (hi:i<1099511627776):Ua Tryz.prog 205 [.one (rp p),.one (.int .i64 (i:Int))] [.agg (fr (p.getD i 0))]:=by
 have hpl:=Rx p;by_cases h:i<p.length
 ·have e:p.getD i 0=p[i]:=by rw [Qg,Qd h]; rfl
  rw [e];exact w tt Tryz.func205 rfl [.g 7 false (decide_eq_false (by omega)),.f (decide_eq_false (by omega)),.x (Dm (Qd h))] rfl rfl trivial
 ·have e:p.getD i 0=0:=by rw [Qg,Qp (by omega)]; rfl
  rw [e];exact w tt Tryz.func205 rfl [.g 7 false (decide_eq_false (by omega)),.t (decide_eq_true (by omega)),.c [] Q4f] rfl rfl trivial
theorem Q4p:Ua Tryz.prog 140 [.one (ids [1])] [.one (rp (zp [1]))]:=by
 have cc:=Iu (p:=zp [1]);rw [Nl,show trim [1]=[1] from rfl] at cc;refine Gu Tryz.func140 rfl ?_;refine go tt [.o 3 35 4] rfl trivial ?_;refine lp (S:=Nat) 1 (λL1 i=>(7,.v (.one (.int .i64 (i:Int))))::(3,.v (.one (.orow 0 4 none)))::L1) (λi=>[.row false 35 4 (frow ((zp [1]).take i))]) (λi=>1-i) (λi=>i<=1) 0 (by decide) rfl (λ_ _=>rfl) rfl λi hi=>?_
 rcases (show i=0\/i=1 by omega) with rfl | rfl
 ·refine go tt [.t rfl,.x (l:=idl [1]) (i:=0) (xs:=[.int .i64 1]) rfl,.c [] (Qhp (n:=1) (by decide)),.s (sz:=4) (Qvo _)] rfl (by simp [W9,frow]) ?_;exact rd 1 (by omega) (by omega) rfl
 ·exact en tt [.f rfl,.c [] cc] rfl rfl trivial
theorem Lb {p:List Int} (hb:Bd 90000000 p) (hl:p.length<=1000000):Ua Tryz.prog 23 [pr p] [.one (rp (zp (trim p)))]:=by
 have hpl:(p.map Gh).length=p.length:=by simp
 have cc:=Iu (p:=zp p);rw [Nl] at cc;show Ua Tryz.prog 23 [.one (.row (p.map Gh))] _;refine Gu Tryz.func23 rfl ?_;refine go tt [.o 3 35 4] rfl trivial ?_;refine lp (S:=Nat) 1 (λL1 i=>(7,.v (.one (.int .i64 (i:Int))))::(3,.v (.one (.orow 0 4 none)))::L1) (λi=>[.row false 35 4 (frow (zp (p.take i)))]) (λi=>p.length-i) (λi=>i<=p.length) 0 (Qi _) rfl (λ_ _=>rfl) rfl λi hi=>?_
 have hol:(frow (zp (p.take i))).length=i:=by rw [Rx,Tq,Qy]; omega
 by_cases h:i<p.length
 ·obtain ⟨z,hz⟩:=gxE (l:=p) (i:=i) h;have hzb:=hb z (Qc hz);have hg:frow (zp (p.take (i+1)))=frow (zp (p.take i))++[fr (z:Rat)]:=by
   rw [Xk,hz]; simp [frow,zp]
  refine go tt [.t (decide_eq_true (by omega)),.x (G9 (f:=Gh) hz),.c [] (Qdx (z:=z) (by omega)),.c [] (Cd (n:=1) (by decide)),.c [] (Pw (n:=z)),.s (sz:=4) (Qvo _)] rfl (by simp [W9,hol,-List.getD_eq_getElem?_getD]; omega) ?_;exact rd (i+1) (by omega) h (by rw [hg]; rfl)
 ·have e:i=p.length:=by omega
  rw [e,Q8];exact en tt [.f (decide_eq_false (by omega)),.c [] cc] rfl rfl trivial
theorem Ze5 {p:List Int} (hb:Bd 90000000 p) (hl:p.length<=1000000):Ua Tryz.prog 289 [.one (rp (zp p))] [pr p]:=by
 have hpl:(frow (zp p)).length=p.length:=by rw [Rx,Tq]
 show Ua Tryz.prog 289 [.one (rp (zp p))] [.one (.row (p.map Gh))];refine Gu Tryz.func289 rfl ?_;refine go tt [.o 3 51 2] rfl trivial ?_;refine lp (S:=Nat) 1 (λL1 i=>(7,.v (.one (.int .i64 (i:Int))))::(3,.v (.one (.orow 0 2 none)))::L1) (λi=>[.row false 51 2 ((p.take i).map Gh)]) (λi=>p.length-i) (λi=>i<=p.length) 0 (Qi _) rfl (λ_ _=>rfl) rfl λi hi=>?_
 have hol:((p.take i).map Gh).length=i:=by rw [Q4,Qy]; omega
 by_cases h:i<p.length
 ·obtain ⟨z,hz⟩:=gxE (l:=p) (i:=i) h;have hzb:=hb z (Qc hz);have hq:∀ c∈[Gh z],c.length=2:=λc hc=>by rw [Qt.1 hc]; rfl
  have hg:(p.take (i+1)).map Gh=(p.take i).map Gh++[Gh z]:=by
   rw [Xk,hz]; simp
  refine go tt [.t (decide_eq_true (by omega)),.x (Dm (Q95 hz)),.c [] (Q39 (z:=z) (by omega)),.s (sz:=2) hq] rfl (by simp [W9]; omega) ?_;exact rd (i+1) (by omega) h (by rw [hg]; rfl)
 ·have e:i=p.length:=by omega
  rw [e,Q8];exact en tt [.f (decide_eq_false (by omega))] rfl rfl trivial
theorem Quh {p q:List Rat} (hp:Rb 20000000 p) (hq:Rb 20000000 q) (hlp:p.length<=1000000) (hlq:q.length<=1000000):Ua Tryz.prog 143 [.one (rp p),.one (rp q)] [.one (rp (Q2e p q))]:=by
 have h1:=Rx p;have h2:=Rx q;obtain ⟨M,hM⟩:=nmE (max p.length q.length);have cc:=Iu (p:=Ij (λi=>p.getD i 0+q.getD i 0) M);unfold Q2e;rw [<-hM];refine Gu Tryz.func143 rfl ?_;refine go tt [.o 5 35 4] rfl trivial ?_;refine lp (S:=Nat) 1 (λL1 i=>(6,.v (.one (.int .i64 (i:Int))))::(5,.v (.one (.orow 0 4 none)))::L1) (λi=>[.row false 35 4 (frow (Ij (λi=>p.getD i 0+q.getD i 0) i))]) (λi=>M-i) (λi=>i<=M) 0 (Qi _) rfl (λ_ _=>rfl) rfl λi hi=>?_
 have hol:(frow (Ij (λi=>p.getD i 0+q.getD i 0) i)).length=i:=by rw [Rx,Qde]
 by_cases h:i<M
 ·refine go tt [.r 12 (eI (b:=(M:Int)) (by omega)),.t (decide_eq_true (by omega)),.c [] (Ze6 (p:=p) (i:=i) (by omega)),.c [] (Ze6 (p:=q) (i:=i) (by omega)),.c [] (Qt2 (hp.getD (by decide) i) (hq.getD (by decide) i)),.s (sz:=4) (Qvo _)] rfl (by simp [W9,hol,-List.getD_eq_getElem?_getD]; omega) ?_;exact rd (i+1) (by omega) h (by rw [Qmn,Qlf]; rfl)
 ·have e:i=M:=by omega
  rw [e];exact en tt [.r 12 (eI (b:=(M:Int)) (by omega)),.f (decide_eq_false (by omega)),.c [] cc] rfl rfl trivial
theorem Eg {p:List Rat} {c:Rat} (hp:Rb 40000000 p) (hc:Qs 40000000 c) (hlp:p.length<=1000000):Ua Tryz.prog 203 [.one (rp p),.agg (fr c)] [.one (rp (Pu p c))]:=by
 have h1:=Rx p;have cc:=Iu (p:=Ij (λi=>p.getD i 0*c) p.length);unfold Pu;refine Gu Tryz.func203 rfl ?_;refine go tt [.o 5 35 4] rfl trivial ?_;refine lp (S:=Nat) 2 (λL1 i=>(9,.v (.one (.int .i64 (i:Int))))::(5,.v (.one (.orow 1 4 none)))::L1) (λi=>[.blk 35 (fr c),.row false 35 4 (frow (Ij (λi=>p.getD i 0*c) i))]) (λi=>p.length-i) (λi=>i<=p.length) 0 (Qi _) rfl (λ_ _=>rfl) rfl λi hi=>?_
 have hol:(frow (Ij (λi=>p.getD i 0*c) i)).length=i:=by rw [Rx,Qde]
 by_cases h:i<p.length
 ·have hg:p[i]? = some (p.getD i 0):=by rw [Qg,Qd h]; rfl
  refine go tt [.t (decide_eq_true (by omega)),.x (Dm hg),.c [] (Qt7 (hp.getD (by decide) i) hc),.s (sz:=4) (Qvo _)] rfl (by simp [W9,hol,-List.getD_eq_getElem?_getD]; omega) ?_;exact rd (i+1) (by omega) h (by rw [Qmn,Qlf]; rfl)
 ·have e:i=p.length:=by omega
  rw [e];exact en tt [.f (decide_eq_false (by omega)),.c [] cc] rfl rfl trivial
theorem Qul {p:List Rat} (hp:Rb 40000000 p) (hlp:p.length<=1000000):Ua Tryz.prog 137 [.one (rp p)] [.one (rp (Qo2 p))]:=by
 have cs:=Eg (p:=p) (c:=-1) hp ⟨by decide,by decide⟩ hlp;have co:=Qhp (n:=-1) (by decide);rw [show ((-1:Int):Rat)=-1 from rfl] at co;exact w tt Tryz.func137 rfl [.c [] co,.c [] cs] rfl rfl trivial
theorem Zdn {s t:Nat} {a b:Rat} (ha:Qs s a) (hb:Qs t b):Qs (s+t+1) (a*b):=by
 rw [<-Qls];unfold Fx;rw [if_neg (Xp (Md a) (Md b))];have h1:=Uw a.num b.num;have h2:=Uw (a.den:Int) (b.den:Int);have:=ha.1; have:=ha.2; have:=hb.1; have:=hb.2;exact Qs.divInt (by omega) (by omega) (by omega)
theorem Q8c {s:Nat} {p:List Rat} (hp:Rb s p):Rb (s+2) (Qo2 p):=by
 unfold Qo2 Pu;refine Rb.trim (Zee λi hi=>?_);have h1:Qs (s+0) (p.getD i 0):=by
  have hi:i<p.length:=hi;rw [Qg,Qd hi];exact hp _ (Xw hi)
 have:=Zdn h1 (show Qs 1 (-1:Rat) from ⟨by decide,by decide⟩);exact this.mono (by omega)
theorem Qs0 (p:List Rat):(Qo2 p).length<=p.length:=by
 unfold Qo2 Pu;exact Qa (Qmi _) (by rw [Qde]; exact Qk _)
theorem Zgv {p q:List Rat} (hp:Rb 19000000 p) (hq:Rb 19000000 q) (hlp:p.length<=1000000) (hlq:q.length<=1000000):Ua Tryz.prog 144 [.one (rp p),.one (rp q)] [.one (rp (Q8r p q))] :=
 w tt Tryz.func144 rfl [.c [] (Qul (hq.mono (by decide)) hlq),.c [] (Quh (hp.mono (by decide)) ((Q8c hq).mono (by decide)) hlp (Qa (Qs0 q) hlq))] rfl rfl trivial
theorem Q3v {a b:Int} (ha:Uj a<=40000000) (hb:Uj b<=40000000):Ua Tryz.prog 139 [.agg (fr (a:Rat)),.agg (fr (b:Rat))] [.agg (fr ((a*b:Int):Rat))]:=by
 have h:=Qt7 (B8 ha (by decide)) (B8 hb (by decide));rw [<-Xv] at h; exact h
theorem Zgf {a b:Int} (ha:Uj a<=20000000) (hb:Uj b<=20000000):Ua Tryz.prog 169 [.agg (fr (a:Rat)),.agg (fr (b:Rat))] [.agg (fr ((a+b:Int):Rat))]:=by
 have h:=Qt2 (B8 ha (by decide)) (B8 hb (by decide));rw [<-V4] at h; exact h
theorem Qq8 (l:List Int) (i:Nat) (z:Int):(frow (zp l)).set i (fr (z:Rat))=frow (zp (l.set i z)):=by simp [frow,zp,Vm]
theorem Q96 {p:List Int} {i:Nat} (h:i<p.length):(zp p)[i]? = some ((p.getD i 0:Int):Rat):=Q95 (Hn h)
theorem H7 {p:List Int} {i:Nat} (h:i<p.length):(frow (zp p))[i]? = some (fr ((p.getD i 0:Int):Rat)):=Dm (Q96 h)
theorem fzl (p:List Int):(frow (zp p)).length=p.length:=by rw [Rx,Tq]
abbrev zR:List LV:=[.nils,.bool false,.nils,.bool false]
theorem Qnr {n i:Nat} (h:i<n):(List.replicate i (fr 0)++List.replicate (n-i) zR).set i (fr 0)=List.replicate (i+1) (fr 0)++List.replicate (n-(i+1)) zR:=by
 rw [List.set_append_right _ _ (by simp),X9,Ye,show n-i=n-(i+1)+1 by omega,J1 (n:=n-(i+1)),List.set_cons_zero,List.replicate_succ' (n:=i),Zu]; rfl
theorem Qjz (n:Nat):List.replicate n (fr 0)++List.replicate (n-n) zR=frow (zp (List.replicate n 0)):=by simp [zp,frow]
theorem Qm8 {p q:List Int} {s t:Nat} (hlp:p.length<=1000000) (hlq:q.length<=1000000) (hp:Bd s p) (hq:Bd t q) (hst:s+t<=19000000):Ua Tryz.prog 141 [.one (rp (zp p)),.one (rp (zp q))] [.one (rp (zp (Ff p q)))]:=by
 have hpl:=fzl p;have hql:=fzl q;rcases Qx p.length with h0 | h0
 ·have e:Ff p q=[]:=by unfold Ff; rw [if_pos (.inl h0)]
  rw [e];exact w tt Tryz.func141 rfl [.g 12 true (decide_eq_true (by omega)),.t rfl] rfl rfl trivial
 rcases Qx q.length with h1 | h1
 ·have e:Ff p q=[]:=by unfold Ff; rw [if_pos (.inr h1)]
  rw [e];exact w tt Tryz.func141 rfl [.g 12 false (decide_eq_false (by omega)),.t (decide_eq_true (by omega))] rfl rfl trivial
 have e:Ff p q=trim (M5 p q (List.replicate (p.length+q.length-1) 0) p.length):=by unfold Ff; rw [if_neg (by omega)]
 rw [e];obtain ⟨N,hN⟩:=nmE (p.length+q.length-1);rw [<-hN];obtain ⟨o,ho⟩:=nmE (List.replicate N (0:Int));rw [<-ho];have hol:o.length=N:=by rw [ho]; simp
 have ho0:∀ m,o.getD m 0=0:=λm=>by rw [ho]; exact Ho N m
 have cc:=Iu (p:=zp (M5 p q o p.length));rw [Nl] at cc;refine Gu Tryz.func141 rfl ?_;refine go tt [.g 12 false (decide_eq_false (by omega)),.f (decide_eq_false (by omega)),.r 22 (eI (b:=(N:Int)) (by omega)),.i N,.i N,.r 25 (eI (b:=(N:Int)) (by simp))] rfl (by simp [W9]; omega) ?_;refine lp (S:=Nat) 1 (λL1 i=>(26,.v (.one (.int .i64 (i:Int))))::L1) (λi=>[.row false 35 4 (List.replicate i (fr 0)++List.replicate (N-i) zR)]) (λi=>N-i) (λi=>i<=N) 0 (Qi _) rfl (λ_ _=>rfl) rfl λi hi=>?_
 by_cases hlt:i<N
 ·refine go tt [.t (decide_eq_true (by omega)),.c [] Q4f,.i i] rfl (by simp [W9]; omega) ?_;rw [Qnr hlt];exact rd (i+1) (by omega) hlt rfl
 have hiN:i=N:=by omega
 rw [hiN,Qjz,<-ho];clear hiN hlt hi;refine go tt [.f (decide_eq_false (by omega))] rfl trivial ?_;refine lp (S:=Nat) 1 (λL1 i=>(36,.v (.one (.int .i64 (i:Int))))::L1) (λi=>[.row false 35 4 (frow (zp (M5 p q o i)))]) (λi=>p.length-i) (λi=>i<=p.length) 0 (Qi _) rfl (λ_ _=>rfl) rfl λi hi=>?_
 by_cases hlt:i<p.length
 ·refine go tt [.t (decide_eq_true (by omega))] rfl trivial ?_;refine lp (S:=Nat) 1 (λL1 k=>(41,.v (.one (.int .i64 (k:Int))))::L1) (λk=>[.row false 35 4 (frow (zp (Eo (p.getD i 0) q i (M5 p q o i) k)))]) (λk=>q.length-k) (λk=>k<=q.length) 0 (Qi _) rfl (λ_ _=>rfl) rfl λk hk=>?_
  by_cases hk2:k<q.length
  ·have hm1:Uj ((Eo (p.getD i 0) q i (M5 p q o i) k).getD (i+k) 0)<=20000000:=Qa (Ly (t:=39) (Qoe (by rw [M6]; omega) (Qod (λj hj=>by omega) ho0 (λi j=>P0 (Um hp i) (Um hq j))) (λj=>P0 (Um hp i) (Um hq j)) (i+k)) (V7 (show i+1<549755813888 by omega) (by decide))) (by omega);have hm2:Uj (p.getD i 0*q.getD k 0)<=20000000:=Qa (Uw _ _) (by have:=Um hp i; have:=Um hq k; omega);have hml:(Eo (p.getD i 0) q i (M5 p q o i) k).length=N:=by rw [Ep,M6,hol]
   have cm:=Q3v (a:=p.getD i 0) (b:=q.getD k 0) (Qa (Um hp i) (by omega)) (Qa (Um hq k) (by omega));have hfl:=fzl (Eo (p.getD i 0) q i (M5 p q o i) k);refine go tt [.t (decide_eq_true (by omega)),.i (i+k),.x (H7 (p:=Eo (p.getD i 0) q i (M5 p q o i) k) (i:=i+k) (by omega)),.x (H7 hlt),.x (H7 hk2),.c [] cm,.c [] (Zgf hm1 hm2),.i (i+k)] rfl (by simp [W9,hfl,-List.getD_eq_getElem?_getD] <;> omega) ?_;rw [Qq8];exact rd (k+1) (by omega) hk2 rfl
  ·obtain rfl:k=q.length:=by omega
   exact go tt [.f (decide_eq_false (by omega))] rfl (by simp [W9]; omega) (rd (i+1) (by omega) hlt rfl)
 ·obtain rfl:i=p.length:=by omega
  exact en tt [.f (decide_eq_false (by omega)),.c [] cc] rfl rfl trivial
def Qq3 (p:List Int) (n:Nat):List Int:=(List.range n).map λk=>p.getD (k+1) 0*((k+1:Nat):Int)
theorem Q5n (p:List Int) (n:Nat):(Qq3 p n).length=n:=by simp [Qq3]
theorem Q1j (p:List Int) (n:Nat):Qq3 p (n+1)=Qq3 p n++[p.getD (n+1) 0*((n+1:Nat):Int)]:=by simp [Qq3,Kv]
theorem Qpu (p:List Int) (z:Int):frow (zp (p++[z]))=frow (zp p)++[fr (z:Rat)]:=by simp [frow,zp]
theorem Quj {p:List Int} (hp:Bd 40000000 p) (hl:p.length<=1000000):Ua Tryz.prog 71 [.one (rp (zp p))] [.one (rp (zp (U7 p)))]:=by
 have hpl:=fzl p;have cc:=Iu (p:=zp (Qq3 p (p.length-1)));rw [Nl] at cc;refine Gu Tryz.func71 rfl ?_;refine go tt [.o 3 35 4] rfl trivial ?_;refine lp (S:=Nat) 1 (λL1 j=>(4,.v (.one (.int .i64 ((j+1:Nat):Int))))::(3,.v (.one (.orow 0 4 none)))::L1) (λj=>[.row false 35 4 (frow (zp (Qq3 p j)))]) (λj=>p.length-j) (λj=>j<=p.length-1) 0 (Qi _) rfl (λ_ _=>rfl) rfl λj hj=>?_
 have hfl:=fzl (Qq3 p j);rw [Q5n] at hfl;by_cases h:j+1<p.length
 ·have hk:Uj ((j+1:Nat):Int)<=40000000:=Qa (Qn1 (t:=38) (k:=j+1) (V7 (show j+1<274877906944 by omega) (by decide))) (by decide);refine go tt [.t (decide_eq_true (by omega)),.x (H7 h),.c [] (Qhp (n:=((j+1:Nat):Int)) (by omega)),.c [] (Q3v (Um hp (j+1)) hk),.s (sz:=4) (Qvo _)] rfl (by simp [W9,hfl,-List.getD_eq_getElem?_getD] <;> omega) ?_;exact rd (j+1) (by omega) (by omega) (by rw [Q1j,Qpu]; rfl)
 ·have e:j=p.length-1:=by omega
  rw [e];exact en tt [.f (decide_eq_false (by omega)),.c [] cc] rfl rfl trivial
theorem Zhd (z:Int):fr (z:Rat)=[nd z.natAbs,sg z,.row [[.int .i64 1]],.bool false]:=by
 have e:U6 1=[1]:=by rw [Ah (by decide),show 1 / 10000=0 from rfl,Gk]
 show [nd z.natAbs,sg z,nd 1,sg 1]=_;unfold nd dl;rw [e]; rfl
theorem Q4q {p:List Int} (hl:p.length<=1000000):Ua Tryz.prog 165 [.one (rp (zp p))] [.one (.bool true)]:=by
 have hpl:=fzl p;refine Gu Tryz.func165 rfl ?_;refine go tt [] rfl trivial ?_;refine lp (S:=Nat) 0 (λL1 i=>(6,.v (.one (.int .i64 (i:Int))))::L1) (λ_=>[]) (λi=>p.length-i) (λi=>i<=p.length) 0 (Qi _) rfl (λ_ _=>rfl) rfl λi hi=>?_
 by_cases h:i<p.length
 ·have hg:=H7 h;rw [Zhd] at hg;refine go tt [.t (decide_eq_true (by omega)),.x hg,.g 17 false rfl,.x hg,.x (l:=[[.int .i64 1]]) (i:=0) (xs:=[.int .i64 1]) rfl,.f rfl] rfl (by simp [W9]; omega) ?_;exact rd (i+1) (by omega) h rfl
 ·exact en tt [.f (decide_eq_false (by omega))] rfl rfl trivial
theorem Qz3:[LV.nils,LV.bool false].map Qcq=ri 0:=by
 show _=[nd 0,sg 0];unfold nd dl;rw [Gk]; rfl
theorem Qv0 (p:List Int) (q:Rat):Int.sign (Pd p q.num q.den p.length).1=U8 p q:=by
 unfold U8 Zdl Mr;generalize (Pd p q.num q.den p.length).1=z;rcases Jy z 0 with h | h | h
 ·rw [if_pos h,X3 h]
 ·subst h; rfl
 ·rw [if_neg (by omega),if_pos h,Jd h]
theorem Qb6 {p:List Int} {q:Rat} (hp:Bd 30000000 p) (hl:p.length<=64) (hq:Qs 1000000 q):Ua Tryz.prog 94 [.one (rp (zp p)),.agg (fr q)] [.one (.int .i64 (U8 p q))]:=by
 have hpl:=fzl p;refine Gu Tryz.func94 rfl ?_;refine go tt [.c [] (Q4q (p:=p) (by omega)),.f rfl,.c [] (Cd (n:=1) (by decide)),.r 19 (eI (b:=(p.length:Int)-1-((0:Nat):Int)) (by simp; omega))] rfl (by simp [W9]; omega) ?_;refine nlb 1 rfl rfl rfl ?_;rw [Qz3];refine lp (S:=Nat) 3 (λL1 j=>(7,.v (.one (.int .i64 ((p.length:Int)-1-(j:Int)))))::L1) (λj=>[.blk 35 (fr q),.blk 33 (ri (Pd p q.num q.den j).1),.blk 33 (ri (Pd p q.num q.den j).2)]) (λj=>p.length-j) (λj=>j<=p.length) 0 (Qi _) rfl (λ_ _=>rfl) rfl λj hj=>?_
 have hv:=Qpn (k:=j) hp hq.1 hq.2;have hjl:j*(1000000+1)<=p.length*(1000000+1):=Qw _ (by omega);by_cases h:j<p.length
 ·have hc:=Um hp (p.length-1-j);have hq1:=hq.1;have hq2:=hq.2;have hm1:Uj ((Pd p q.num q.den j).1*q.num)<=200000000:=Qa (Uw _ _) (by omega);have hm2:Uj (p.getD (p.length-1-j) 0*(Pd p q.num q.den j).2)<=200000000:=Qa (Uw _ _) (by omega);refine go tt [.t (decide_eq_true (by omega)),.c [] (S0 (a:=(Pd p q.num q.den j).1) (b:=q.num) (by omega) (by omega)),.r 29 (eI (b:=((p.length-1-j:Nat):Int)) (by omega)),.x (H7 (p:=p) (i:=p.length-1-j) (by omega)),.c [] (S0 (a:=p.getD (p.length-1-j) 0) (b:=(Pd p q.num q.den j).2) (by omega) (by omega)),.c [] (Que hm1 hm2),.c [] (S0 (a:=(Pd p q.num q.den j).2) (b:=(q.den:Int)) (by omega) (by omega)),.r 23 (eI (b:=(p.length:Int)-1-((j+1:Nat):Int)) (by omega))] rfl (by simp [W9] <;> omega) ?_;exact rd (j+1) (by omega) h rfl
 ·obtain rfl:j=p.length:=by omega
  exact en tt [.f (decide_eq_false (by omega)),.c [] Qxr] rfl (by rw [Qv0]) trivial
end Orr
namespace Orr
def Uu (p:List Int):Int:=p.getD (p.length-1) 0
def B5 (a b:List Int):Int:=if Uu b<0 then -(Uu a) else Uu a
def Ca (a b:List Int) (i:Nat):Int:=a.getD i 0*((Uu b).natAbs:Int)-(if a.length-b.length<=i then B5 a b*b.getD (i-(a.length-b.length)) 0 else 0)
def Lo (a b:List Int):List Int:=Pj a.length (Ca a b)
inductive RRun (b:List Int):Nat->List Int->List Int->Prop
 | stop {a:List Int}:a.length<b.length->RRun b 0 a a
 | step {k:Nat} {a r:List Int}:b.length<=a.length->a.length<=1000->Bd 9000000 a->Bd 9000000 b->RRun b k (Lo a b) r->RRun b (k+1) a r
def Lf (p:List Int):Nat->Nat
 | 0=>0
 | i+1=>Int.gcd (Lf p i:Nat) (p.getD i 0)
def cont (p:List Int):Nat:=Lf p p.length
theorem Qd0 (p:List Int):∀ {i j:Nat},j<i->((Lf p i:Nat):Int)∣p.getD j 0
 | 0,_,h=>absurd h (W0 _)
 |
  i+1,j,h=>by
  simp only [Lf];rcases Q5 j i with h1 | h1
  ·exact Vu (Wn ..) (Qd0 p h1)
  ·rw [show j=i by omega]; exact Vf ..
theorem Qqp (p:List Int) (j:Nat):((cont p:Nat):Int)∣p.getD j 0:=by
 rcases Q5 j p.length with h | h
 ·exact Qd0 p h
 ·rw [Qg,Qp h]; exact Int.dvd_zero _
theorem Ix {s:Nat} {p:List Int} (h:Bd s p):∀ i,Uj ((Lf p i:Nat):Int)<=s
 | 0=>by simp [Lf,Py]
 |
  i+1=>by
  simp only [Lf];by_cases h0:p.getD i 0=0
  ·rw [h0,Int.gcd_zero_right]; exact Ix h i
  ·have h1:=Vf (Lf p i:Nat) (p.getD i 0);have h2:(Int.gcd (Lf p i:Nat) (p.getD i 0))<=(p.getD i 0).natAbs:=Vw (by omega) (by simpa using Xj.2 h1);have h3:=Um h i;rw [Rl] at h3 ⊢;simp only [Zx];omega
theorem Q09 {p:List Int} {j i:Nat} (hj:j<i) (h:p.getD j 0≠0):0<Lf p i:=by
 have:=Qd0 p hj;rcases Qx (Lf p i) with h0 | h0
 ·rw [h0] at this;exact absurd (Int.zero_dvd.1 this) h
 ·exact h0
theorem Qqq {p:List Int} (ht:Ue p) (h:0<p.length):0<cont p:=Q09 (j:=p.length-1) (by omega) (Gq ht h)
def Po (p:List Int):Int:=if Uu p<0 then -((cont p:Nat):Int) else ((cont p:Nat):Int)
def Gl (p:List Int):List Int:=Pj p.length λi=>p.getD i 0 / Po p
def Hj (p:List Int):List Int:=if Uu p<0 then S7 (Gl p) else Gl p
theorem Q1m (p:List Int) (j:Nat):Po p∣p.getD j 0:=by
 unfold Po
 split
 ·exact W4.2 (Qqp p j)
 ·exact Qqp p j
theorem Q52 {p:List Int} (ht:Ue p) (h:0<p.length):Po p≠0:=by
 have:=Qqq ht h;unfold Po
 split <;> omega
theorem Qk3 {s:Nat} {p:List Int} (h:Bd s p):Uj (Po p)<=s:=by
 unfold Po
 split
 ·rw [Ga]; exact Ix h _
 ·exact Ix h _
theorem Qwh {p:List Int} {c:Int} (hc:c≠0) (hd:∀ j,c∣p.getD j 0):Pu (zp p) (1 / (c:Rat))=zp (Pj p.length λi=>p.getD i 0 / c):=by
 unfold Pu Pj;rw [Qhb (g:=λi=>p.getD i 0 / c) _ λi _=>?_,Nl,Tq];obtain ⟨k,hk⟩:=hd i;have hc':(c:Rat)≠0:=λe=>hc (by exact_mod_cast e)
 rw [Qdp,hk,Xx _ hc,Xv];grind
theorem Qhj {s:Nat} {p:List Int} (h:Bd s p):Bd s (Gl p):=E8 λi _=>Qa (I7 _ _) (Um h i)
theorem Qen (p:List Int):(Gl p).length<=p.length:=Di _ _
theorem Qjw (p:List Int):Ue (Gl p):=Us _ _
theorem Qkj {s:Nat} {p:List Int} (h:Bd s p):Bd s (Hj p):=by
 unfold Hj
 split
 ·exact Qb1 (Qhj h)
 ·exact Qhj h
theorem Aw (p:List Int):(Hj p).length<=p.length:=by
 unfold Hj
 split
 ·exact Qa (Dq _) (Qen p)
 ·exact Qen p
inductive GRun:Nat->List Int->List Int->List Int->Prop
 | stop (a:List Int):GRun 0 a [] a
 | step {k m:Nat} {a b r g:List Int}:0<b.length->b.length<=1000->Bd 9000000 b->RRun b m a r->r.length<=1000->Bd 9000000 r->Ue r->GRun k b (Gl r) g->GRun (k+1) a b g
theorem GRun.inv {k:Nat} {a b g:List Int} (h:GRun k a b g):(k=0/\b.length=0/\a=g)\/∃ j m r,k=j+1/\0<b.length/\b.length<=1000/\Bd 9000000 b/\RRun b m a r/\r.length<=1000/\Bd 9000000 r/\Ue r/\GRun j b (Gl r) g:=by
 cases h with
 | stop=>exact .inl ⟨rfl,rfl,rfl⟩
 | step h1 h2 h3 h4 h5 h6 h7 h8=>exact .inr ⟨_,_,_,rfl,h1,h2,h3,h4,h5,h6,h7,h8⟩
def Ti (k:Nat) (p:List Int):List Int:=List.replicate k 0++p
theorem Qjo (k:Nat) (p:List Int):(Ti k p).length=k+p.length:=by simp [Ti]
theorem Q0r {s k:Nat} {p:List Int} (h:Bd s p):Bd s (Ti k p):=λz hz=>by
 rcases Qz.1 hz with h1 | h1
 ·rw [Zt h1,Py]; exact Qi _
 ·exact h z h1
inductive DRun (b:List Int):Nat->List Int->List Int->List Int->List Int->Prop
 | stop {a q:List Int}:a.length<b.length->DRun b 0 a q q a
 | step {k:Nat} {a q qf r:List Int}:b.length<=a.length->a.length<=1000->Bd 9000000 a->Uu b≠0->Uu b∣Uu a->a.length-b.length<q.length ->
  DRun b k (To a (Ti (a.length-b.length) (Ut b (Uu a / Uu b)))) (q.set (a.length-b.length) (Uu a / Uu b)) qf r->DRun b (k+1) a q qf r
theorem DRun.inv {b a q qf r:List Int} {k:Nat} (h:DRun b k a q qf r):(k=0/\q=qf/\a=r/\a.length<b.length)\/∃ j,k=j+1/\b.length<=a.length/\a.length<=1000/\Bd 9000000 a/\Uu b≠0/\Uu b∣Uu a/\a.length-b.length<q.length /\
 DRun b j (To a (Ti (a.length-b.length) (Ut b (Uu a / Uu b)))) (q.set (a.length-b.length) (Uu a / Uu b)) qf r:=by
 cases h with
 | stop h=>exact .inl ⟨rfl,rfl,rfl,h⟩
 | step h1 h2 h3 h4 h5 h6 h7=>exact .inr ⟨_,rfl,h1,h2,h3,h4,h5,h6,h7⟩
def So (l:List (List Int)):List Int:=l.getD (l.length-1) []
inductive LRun:Nat->List (List Int)->List (List Int)->Prop
 | stop {l:List (List Int)}:(So l).length<=1->LRun 0 l l
 | step {k m:Nat} {l f:List (List Int)} {g:List Int}:1<(So l).length->(So l).length<=1000->Ue (So l)->Bd 9000000 (So l)->Bd 9000000 (U7 (So l))->GRun m (Gl (So l)) (Gl (U7 (So l))) g->l.length<=1000->LRun k (l++[g]) f->LRun (k+1) l f
theorem LRun.inv {k:Nat} {l f:List (List Int)} (h:LRun k l f):(k=0/\l=f/\(So l).length<=1)\/∃ j m g,k=j+1/\1<(So l).length/\(So l).length<=1000/\Ue (So l)/\Bd 9000000 (So l)/\Bd 9000000 (U7 (So l))/\GRun m (Gl (So l)) (Gl (U7 (So l))) g/\l.length<=1000/\LRun j (l++[g]) f:=by
 cases h with
 | stop h=>exact .inl ⟨rfl,rfl,h⟩
 | step h1 h2 h3 h4 h5 h6 h7 h8=>exact .inr ⟨_,_,_,rfl,h1,h2,h3,h4,h5,h6,h7,h8⟩
def DOk (a b q:List Int):Prop:=0<b.length/\b.length<=1000/\a.length<=1000/\Bd 9000000 b/\∃ qf r n,Bd 9000000 qf/\qf.length<=1000/\DRun b n a (List.replicate (a.length+1-b.length) 0) qf r/\q=trim qf
theorem DOk.bd {a b q:List Int} (h:DOk a b q):Bd 9000000 q:=by
 obtain ⟨_,_,_,_,qf,r,n,h1,_,_,rfl⟩:=h;exact Rp h1
theorem DOk.len {a b q:List Int} (h:DOk a b q):q.length<=1000:=by
 obtain ⟨_,_,_,_,qf,r,n,_,h1,_,rfl⟩:=h;exact Qa (Ha _) h1
theorem DOk.trim {a b q:List Int} (h:DOk a b q):Ue q:=by
 obtain ⟨_,_,_,_,qf,r,n,_,_,_,rfl⟩:=h;exact G0 _
def Zjc (a b c f:List Int):Prop:=∃ x y z,DOk a b x/\DOk b c y/\DOk (Gl x) (Gl y) z/\f=Gl z
structure FRun (a:List Int) (m:Nat) (f:Nat->List Int):Prop where
 run:∃ n l,LRun n [Gl a] l/\l.length=m+1/\∀ k,k<m->Zjc ((l++[[1]]).getD k []) ((l++[[1]]).getD (k+1) []) ((l++[[1]]).getD (k+2) []) (f k)
 small:m<=1000
def Qjv (f:Nat->List Int) (n:Nat):List (List Int):=(List.range n).map f
theorem Qtd (f:Nat->List Int) (n:Nat):(Qjv f n).length=n:=by simp [Qjv]
theorem Q2p (f:Nat->List Int) (n:Nat):Qjv f (n+1)=Qjv f n++[f n]:=by simp [Qjv,Kv]
theorem Q9j {f:Nat->List Int} {n i:Nat} (h:i<n):(Qjv f n)[i]? = some (f i):=by simp [Qjv,X2 h]
theorem Qu5 {l:List (List Int)} {i:Nat} (h:i<l.length):l[i]? = some (l.getD i []):=by
 rw [Qg,Qd h]; rfl
def Ex (f:Nat->List Int):Nat->List Int
 | 0=>[1]
 | i+1=>Ff (Ex f i) (f i)
def Zjb (m:Nat) (f:Nat->List Int):Prop:=∀ i,i<m->Bd 9000000 (Ex f i)/\(Ex f i).length<=1000/\Bd 9000000 (f i)/\(f i).length<=1000
inductive CRun:Nat->List (List Int)->List Int->List (List Int)->Prop
 | stop {l:List (List Int)} {g:List Int}:g.length=0->CRun 0 l g l
 | step {k m:Nat} {l f:List (List Int)} {g r:List Int}:0<g.length->g.length<=1000->Bd 9000000 g->RRun g m (So l) r->Ue r->Bd 9000000 r->r.length<=1000->0<l.length->l.length<=1000->CRun k (l++[g]) (S7 (Hj r)) f->CRun (k+1) l g f
theorem CRun.inv {k:Nat} {l f:List (List Int)} {g:List Int} (h:CRun k l g f):(k=0/\l=f/\g.length=0)\/∃ j m r,k=j+1/\0<g.length/\g.length<=1000/\Bd 9000000 g/\RRun g m (So l) r/\Ue r/\Bd 9000000 r/\r.length<=1000/\0<l.length/\l.length<=1000/\CRun j (l++[g]) (S7 (Hj r)) f:=by
 cases h with
 | stop h=>exact .inl ⟨rfl,rfl,h⟩
 | step h1 h2 h3 h4 h5 h6 h7 h8 h9 h10=>exact .inr ⟨_,_,_,rfl,h1,h2,h3,h4,h5,h6,h7,h8,h9,h10⟩
structure ChRun (a:List Int) (sq:List Int) (c:List (List Int)):Prop where
 fac:∃ m f,FRun a m f/\Zjb m f/\sq=Ex f m
 chain:∃ n,CRun n [sq] (Hj (U7 sq)) c
 bd:Bd 8000000 sq
 len:sq.length<=1000
 small:c.length<=1000
def Qw2 (q:Rat) (c:List (List Int)):Prop:=∃ sq,ChRun [-q.num,(q.den:Int)] sq c
end Orr
namespace Orr
open Go Go.Proofs
set_option maxRecDepth 10000
theorem RRun.inv {b a r:List Int} {k:Nat} (h:RRun b k a r):(k=0/\a=r/\a.length<b.length)\/(∃ j,k=j+1/\b.length<=a.length/\a.length<=1000/\Bd 9000000 a/\Bd 9000000 b/\RRun b j (Lo a b) r):=by
 cases h with
 | stop h=>exact .inl ⟨rfl,rfl,h⟩
 | step h1 h2 h3 h4 h5=>exact .inr ⟨_,rfl,h1,h2,h3,h4,h5⟩
theorem Zdw {a b:List Int} (ha:Bd 9000000 a):Uj (B5 a b)<=9000000:=by
 unfold B5; split
 ·rw [Ga]; exact Um ha _
 ·exact Um ha _
theorem Zdr (n:Nat):ri (n:Int)=[nd n,.bool false]:=by
 show [nd n,sg (n:Int)]=_;unfold sg;rw [decide_eq_false (by omega)]
def Qo5 (a b:List Int) (n:Nat):List Int:=(List.range n).map (Ca a b)
theorem Q8s (a b:List Int) (n:Nat):(Qo5 a b n).length=n:=by simp [Qo5]
theorem Qmh (a b:List Int) (n:Nat):Qo5 a b (n+1)=Qo5 a b n++[Ca a b n]:=by simp [Qo5,Kv]
theorem Qxv {a0 b res:List Int} {n:Nat} (hb0:0<b.length) (hb1:b.length<=1000) (hbb0:Bd 9000000 b) (hrun:RRun b n a0 res):Ua Tryz.prog 138 [.one (rp (zp a0)),.one (rp (zp b))] [.one (rp (zp res))]:=by
 have hbl:=fzl b;have hle:Uj (((Uu b).natAbs:Nat):Int)<=9000000:=Um hbb0 _;refine Gu Tryz.func138 rfl ?_;refine go tt [.r 15 (eI (b:=((b.length-1:Nat):Int)) (by omega)),.x (H7 (p:=b) (i:=b.length-1) (by omega))] rfl (by simp [W9]; omega) ?_;refine sb [(0,.v (.one (rp (zp a0)))),(1,.v (.one (rp (zp b)))),(5,.v (.one (.ow 0 0))),(6,.v (.one (.ow 1 0)))] [.blk 33 (ri (Uu b)),.blk 33 [nd (Uu b).natAbs,.bool false]] rfl rfl ?_;refine lp (S:=Nat×List Int) 2 (λL1 s=>(0,.v (.one (rp (zp s.2))))::L1) (λ_=>[.blk 33 (ri (Uu b)),.blk 33 [nd (Uu b).natAbs,.bool false]]) (λs=>s.1) (λs=>RRun b s.1 s.2 res) (n,a0) hrun rfl (λ_ _=>rfl) rfl λ⟨k,a⟩ hs=>?_
 have hal:=fzl a;have hs:RRun b k a res:=hs;rcases RRun.inv hs with ⟨rfl,rfl,h1⟩ | ⟨j,rfl,h1,h2,ha,hb,hr⟩
 ·exact en tt [.f (decide_eq_false (by dsimp only; omega))] rfl rfl trivial
 obtain ⟨K,hK⟩:=nmE (a.length-b.length);have htb:=Zdw (b:=b) ha;have cc:=Iu (p:=zp (Qo5 a b a.length));rw [Nl,show trim (Qo5 a b a.length)=Lo a b from rfl] at cc;refine go tt [.t (decide_eq_true (by dsimp only; omega)),.r 30 (eI (b:=(K:Int)) (by dsimp only; omega)),.r 34 (eI (b:=((a.length-1:Nat):Int)) (by dsimp only; omega)),.x (H7 (p:=a) (i:=a.length-1) (by omega))] rfl (by simp [W9]; omega) ?_;refine ct 1 (S:=Unit) (λ_=>[(0,.v (.one (rp (zp a)))),(1,.v (.one (rp (zp b)))),(5,.v (.one (.ow 0 0))),(6,.v (.one (.ow 1 0))),(7,.v (.one (.int .i64 (K:Int)))),(8,.v (.one (.ow 2 0)))]) (λ_=>[.blk 33 (ri (Uu b)),.blk 33 [nd (Uu b).natAbs,.bool false],.blk 33 (ri (B5 a b))]) (λ_=>True) rfl ?_ (λ_ _=>?_)
 ·by_cases hn:Uu b<0
  ·have e:B5 a b=-(Uu a):=if_pos hn;rw [e];exact go tt [.t (decide_eq_true hn),.c [] (Ab (z:=Uu a))] rfl trivial (rc () trivial rfl)
  ·have e:B5 a b=Uu a:=if_neg hn;rw [e];exact go tt [.f (decide_eq_false hn)] rfl trivial (rc () trivial rfl)
 refine go tt [.o 9 35 4] rfl trivial ?_;refine lp (S:=Nat) 4 (λL1 i=>(44,.v (.one (.int .i64 (i:Int))))::(9,.v (.one (.orow 3 4 none)))::L1) (λi=>[.blk 33 (ri (Uu b)),.blk 33 [nd (Uu b).natAbs,.bool false],.blk 33 (ri (B5 a b)),.row false 35 4 (frow (zp (Qo5 a b i)))]) (λi=>a.length-i) (λi=>i<=a.length) 0 (Qi _) rfl (λ_ _=>rfl) rfl λi hi=>?_
 have hfl:=fzl (Qo5 a b i);rw [Q8s] at hfl;by_cases h:i<a.length
 ·have cm:=S0 (a:=a.getD i 0) (b:=(((Uu b).natAbs:Nat):Int)) (Qa (Um ha i) (by decide)) (by omega);have hm:=Uw (a.getD i 0) (((Uu b).natAbs:Nat):Int);have hai:=Um ha i;rw [Zdr (Uu b).natAbs] at cm;by_cases hk:K<=i
  ·have hbi:=Um hb (i-K);have hm2:=Uw (B5 a b) (b.getD (i-K) 0);have e:Ca a b i=a.getD i 0*(((Uu b).natAbs:Nat):Int)-B5 a b*b.getD (i-K) 0:=by unfold Ca; rw [if_pos (by omega),hK]
   refine go tt [.t (decide_eq_true (by omega)),.x (H7 h),.c [] cm,.t (decide_eq_true (by omega)),.r 62 (eI (b:=((i-K:Nat):Int)) (by omega)),.x (H7 (p:=b) (i:=i-K) (by omega)),.c [] (S0 (a:=B5 a b) (b:=b.getD (i-K) 0) (by omega) (by omega)),.c [] (Q4g (by omega) (by omega)),.c [] (Cd (n:=1) (by decide)),.c [] (Pw (n:=a.getD i 0*(((Uu b).natAbs:Nat):Int)-B5 a b*b.getD (i-K) 0)),.s (sz:=4) (Qvo _)] rfl (by simp [W9,hfl,-List.getD_eq_getElem?_getD] <;> omega) ?_;exact rd (i+1) (by omega) h (by rw [Qmh,Qpu,e]; rfl)
  ·have e:Ca a b i=a.getD i 0*(((Uu b).natAbs:Nat):Int):=by unfold Ca; rw [if_neg (by omega),Int.sub_zero]
   refine go tt [.t (decide_eq_true (by omega)),.x (H7 h),.c [] cm,.f (decide_eq_false (by omega)),.c [] (Cd (n:=1) (by decide)),.c [] (Pw (n:=a.getD i 0*(((Uu b).natAbs:Nat):Int))),.s (sz:=4) (Qvo _)] rfl (by simp [W9,hfl,-List.getD_eq_getElem?_getD] <;> omega) ?_;exact rd (i+1) (by omega) h (by rw [Qmh,Qpu,e]; rfl)
 ·have e:i=a.length:=by omega
  rw [e];exact go tt [.f (decide_eq_false (by omega)),.c [] cc] rfl trivial (rd (j,Lo a b) (by omega) hr rfl)
theorem Zgt:Ua Tryz.prog 55 [.agg (ri 1),.agg (ri 1)] [.agg (ri 1)]:=S0 (a:=1) (b:=1) (by decide) (by decide)
theorem Zbd:Ua Tryz.prog 133 [.agg (ri 1),.agg (ri 1)] [.agg (ri 1)]:=Qhu (a:=1) (b:=1) (by decide) (by decide)
theorem Za0 {z:Int} (hz:Uj z<=90000000):Ua Tryz.prog 55 [.agg (ri z),.agg (ri 1)] [.agg (ri z)]:=by
 have h:=S0 (a:=z) (b:=1) (by omega) (by decide);rwa [K9] at h
theorem Qxl {z:Int} (hz:Uj z<=90000000):Ua Tryz.prog 134 [.agg (ri z),.agg (ri 1)] [.agg (ri z)]:=by
 have h:=Qdy (a:=z) (b:=1) hz (by decide) (by decide) (Int.emod_one z);rwa [Vi] at h
theorem Q3w {z:Int}:Ua Tryz.prog 67 [.agg (fr (z:Rat))] [.agg (fr ((-z:Int):Rat))]:=by
 have h:=Zgl (a:=(z:Rat));rwa [<-Y7] at h
theorem Zh3 {c:Int} (hc:c≠0) (hs:Uj c<=9000000):Qs 40000000 (((1:Int):Rat) / (c:Rat)):=by
 have h0:(c:Rat)≠0:=λe=>hc (by exact_mod_cast e)
 rw [<-Qmc h0];unfold Fx;rw [if_neg (Xp (Md _) (λe=>hc (by simpa using e)))];refine Qs.divInt (by show Uj (1*1)<=_; decide) ?_ (by decide);show Uj (1*c)<=_;rw [Ym]; omega
theorem Qub {p:List Int} {c:Int} (hc:c≠0) (hs:Uj c<=9000000) (hd:∀ j,c∣p.getD j 0) (hp:Bd 9000000 p) (hl:p.length<=1000):Ua Tryz.prog 203 [.one (rp (zp p)),.agg (fr (((1:Int):Rat) / (c:Rat)))] [.one (rp (zp (Pj p.length λi=>p.getD i 0 / c)))]:=by
 have h:=Eg ((Ig hp (by omega)).mono (by omega)) (Zh3 hc hs) (by rw [Tq]; omega);rwa [show ((1:Int):Rat)=1 from rfl,Qwh hc hd] at h
theorem Ac {p:List Int} (tp:Ue p) (hp:Bd 9000000 p) (hl:p.length<=1000):Ua Tryz.prog 147 [.one (rp (zp p))] [.agg (fr ((Po p:Int):Rat)),.one (rp (zp (Gl p)))]:=by
 have hpl:=fzl p;rcases Qx p.length with h0 | h0
 ·have e:=Qh h0;subst e;exact w tt Tryz.func147 rfl [.t rfl,.c [] Q4f] rfl rfl trivial
 have hc:=Q52 tp h0;refine Gu Tryz.func147 rfl ?_;refine go tt [.f (decide_eq_false (by omega)),.c [] (Cd (n:=1) (by decide))] rfl trivial ?_;refine lp (S:=Nat) 2 (λL1 i=>(16,.v (.one (.int .i64 (i:Int))))::L1) (λi=>[.blk 35 [.nils,.bool false,.nils,.bool false],.blk 33 (ri 1)]) (λi=>p.length-i) (λi=>i<=p.length) 0 (Qi _) rfl (λ_ _=>rfl) rfl λi hi=>?_
 by_cases h:i<p.length
 ·refine go tt [.t (decide_eq_true (by omega)),.x (H7 h),.c [] Zgt,.x (H7 h),.c [] Zbd,.c [] (Qxl (z:=1) (by decide))] rfl (by simp [W9]; omega) ?_;exact rd (i+1) (by omega) h rfl
 refine go tt [.f (decide_eq_false (by omega))] rfl trivial ?_;clear h hi;refine nlb 2 rfl rfl rfl ?_;rw [Qz3];refine lp (S:=Nat) 3 (λL1 i=>(37,.v (.one (.int .i64 (i:Int))))::L1) (λi=>[.blk 35 [.nils,.bool false,.nils,.bool false],.blk 33 (ri 1),.blk 33 (ri ((Lf p i:Nat):Int))]) (λi=>p.length-i) (λi=>i<=p.length) 0 (Qi _) rfl (λ_ _=>rfl) rfl λi hi=>?_
 by_cases h:i<p.length
 ·have hb:=Um hp i;have hg:=Ix hp i;refine go tt [.t (decide_eq_true (by omega)),.x (H7 h),.c [] (Za0 (z:=p.getD i 0) (by omega)),.x (H7 h),.c [] (Qxl (z:=p.getD i 0) (by omega)),.c [] (Qhu (a:=((Lf p i:Nat):Int)) (b:=p.getD i 0) (by omega) (by omega))] rfl (by simp [W9]; omega) ?_;exact rd (i+1) (by omega) h rfl
 have e:i=p.length:=by omega
 rw [e];have co:=Qhp (n:=1) (by decide);have cs:=Qub hc (Qk3 hp) (Q1m p) hp hl;by_cases hn:Uu p<0
 ·have e2:Po p=-((cont p:Nat):Int):=if_pos hn;rw [show (λi=>p.getD i 0 / Po p)=λi=>p.getD i 0 / Po p from rfl] at cs;have cn:=Q3w (z:=((cont p:Nat):Int));rw [<-e2] at cn;exact en tt [.f (decide_eq_false (by omega)),.c [] (Pw (n:=((cont p:Nat):Int))),.r 62 (eI (b:=((p.length-1:Nat):Int)) (by omega)),.x (H7 (p:=p) (i:=p.length-1) (by omega)),.t (decide_eq_true hn),.c [] cn,.c [] co,.c [] (Qua (a:=((1:Int):Rat)) (b:=((Po p:Int):Rat)) ⟨by decide,by decide⟩ (B8 (by have:=Qk3 hp; omega) (by decide)) (λe=>hc (by exact_mod_cast e))),.c [] cs] rfl rfl (by simp [W9]; omega)
 ·have e2:Po p=((cont p:Nat):Int):=if_neg hn;have cm:=Pw (n:=Po p);rw [e2] at cm cs hc ⊢;exact en tt [.f (decide_eq_false (by omega)),.c [] cm,.r 62 (eI (b:=((p.length-1:Nat):Int)) (by omega)),.x (H7 (p:=p) (i:=p.length-1) (by omega)),.f (decide_eq_false hn),.c [] co,.c [] (Qua (a:=((1:Int):Rat)) (b:=((((cont p:Nat):Int):Int):Rat)) ⟨by decide,by decide⟩ (B8 (by have:=Ix hp p.length; unfold cont; omega) (by decide)) (λe=>hc (by exact_mod_cast e))),.c [] cs] rfl (by unfold Gl; rw [e2]; rfl) (by simp [W9]; omega)
theorem Lc {p:List Int} (tp:Ue p) (hp:Bd 9000000 p) (hl:p.length<=1000):Ua Tryz.prog 80 [.one (rp (zp p))] [.one (rp (zp (Gl p)))] :=
 w tt Tryz.func80 rfl [.c [] (Ac tp hp hl)] rfl rfl trivial
theorem Qk4 {p:List Int} (tp:Ue p):Po p<0↔Uu p<0:=by
 unfold Po;rcases Qx p.length with h0 | h0
 ·have:=Qh h0; subst this; decide
 ·have:=Qqq tp h0
  split <;> omega
theorem Q4n {p:List Int} (hp:Bd 9000000 p) (hl:p.length<=1000000):Ua Tryz.prog 137 [.one (rp (zp p))] [.one (rp (zp (S7 p)))]:=by
 have h:=Qul ((Ig hp (by decide)).mono (by decide)) (by rw [Tq]; exact hl);rwa [Qz4] at h
theorem Qqg {p:List Int} (tp:Ue p) (hp:Bd 9000000 p) (hl:p.length<=1000):Ua Tryz.prog 136 [.one (rp (zp p))] [.one (rp (zp (Hj p)))]:=by
 by_cases hn:Uu p<0
 ·have e:Hj p=S7 (Gl p):=if_pos hn;rw [e];exact w tt Tryz.func136 rfl [.c [] (Ac tp hp hl),.t (decide_eq_true ((Qk4 tp).2 hn)),.c [] (Q4n (Qhj hp) (Qa (Qen p) (by omega)))] rfl rfl trivial
 ·have e:Hj p=Gl p:=if_neg hn;rw [e];exact w tt Tryz.func136 rfl [.c [] (Ac tp hp hl),.f (decide_eq_false λh=>hn ((Qk4 tp).1 h))] rfl rfl trivial
end Orr
namespace Orr
theorem Dk (f:Nat->Int):Pj 1 f=trim [f 0]:=rfl
theorem Qig (f:Nat->Int):Pj 2 f=trim [f 0,f 1]:=rfl
theorem Qa2 (x:Int):trim [x]=if x=0 then [] else [x]:=rfl
theorem Qmq (x y:Int):trim [x,y]=if y=0 then trim [x] else [x,y]:=by
 simp only [trim]; split <;> split <;> simp_all
theorem bd1 {s:Nat} {x:Int} (h:Uj x<=s):Bd s [x]:=λz hz=>by simp at hz; subst hz; exact h
theorem bd2 {s:Nat} {x y:Int} (h:Uj x<=s) (h':Uj y<=s):Bd s [x,y]:=λz hz=>by
 simp only [Qo,Wp,or_false] at hz;rcases hz with rfl | rfl <;> assumption
section
variable {x d:Int} (hd:0<d) (hg:Int.gcd x d=1) (hx:Uj x<=1000000) (hs:Uj d<=1000000)
theorem b1 {s:Nat} (h:1<=s):Bd s [1]:=bd1 (Qa (show Uj 1<=1 by decide) h)
include hd in
theorem Oj (hg:Int.gcd x d=1):Gl [x,d]=[x,d]:=by
 have hc:Po [x,d]=1:=by
  have h1:cont [x,d]=1:=by
   show Int.gcd (Int.gcd ((0:Nat):Int) x:Nat) d=1;rw [show Int.gcd ((0:Nat):Int) x=x.natAbs by simp,show Int.gcd ((x.natAbs:Nat):Int) d=Int.gcd x d by simp [Int.gcd],hg]
  unfold Po;rw [if_neg (show ¬Uu [x,d]<0 from by show ¬d<0; omega),h1]; rfl
 unfold Gl;rw [hc];show Pj 2 _=_;rw [Qig,Qmq];show (if d / 1=0 then _ else [x / 1,d / 1])=_;rw [Vi,if_neg (by omega),Vi]
theorem Qso:Gl [1]=[1]:=by decide
include hd in
theorem Qjg:Gl [d]=[1]:=by
 have hc:Po [d]=d:=by
  have h1:((cont [d]:Nat):Int)=d:=by
   show ((Int.gcd ((0:Nat):Int) d:Nat):Int)=d;simp; omega
  unfold Po;rw [if_neg (show ¬Uu [d]<0 from by show ¬d<0; omega),h1]
 unfold Gl;rw [hc];show Pj 1 _=_;rw [Dk,Qa2];show (if d / d=0 then _ else [d / d])=_;rw [Int.ediv_self (by omega)]; rfl
include hd in
theorem Qnf:U7 [x,d]=[d]:=by
 show Pj 1 _=_;rw [Dk,Qa2];show (if d*1=0 then _ else [d*1])=_;rw [K9,if_neg (by omega)]
include hd hx hs in
theorem Qsz:∃ m,RRun [1] m [x,d] []:=by
 have h1:Lo [x,d] [1]=trim [x]:=by
  show Pj 2 _=_;rw [Qig,Qmq];have e1:Ca [x,d] [1] 1=0:=by
   show d*1-(if 1<=1 then B5 [x,d] [1]*1 else 0)=0;have:B5 [x,d] [1]=d:=by unfold B5; rw [if_neg (by decide)]; rfl
   rw [this]; simp
  have e0:Ca [x,d] [1] 0=x:=by
   show x*1-(if 1<=0 then _ else 0)=x;simp
  rw [e1,if_pos rfl,e0]
 have hb:Bd 9000000 [x,d]:=bd2 (by omega) (by omega);by_cases h0:x=0
 ·refine ⟨1,.step (by show 1<=2; decide) (by show 2<=1000; decide) hb (b1 (by decide)) ?_⟩;rw [h1,h0];exact .stop (by decide)
 ·refine ⟨2,.step (by show 1<=2; decide) (by show 2<=1000; decide) hb (b1 (by decide)) ?_⟩;rw [h1,Qa2,if_neg h0];refine .step (Qk 1) (by show 1<=1000; decide) (bd1 (by omega)) (b1 (by decide)) ?_;have h2:Lo [x] [1]=[]:=by
   show Pj 1 _=_;rw [Dk,Qa2];have e0:Ca [x] [1] 0=0:=by
    show x*1-(if 0<=0 then B5 [x] [1]*1 else 0)=0;have:B5 [x] [1]=x:=by unfold B5; rw [if_neg (by decide)]; rfl
    rw [this]; simp
   rw [e0,if_pos rfl]
  rw [h2];exact .stop (by decide)
include hd hx hs in
theorem Q6l:∃ m,GRun m [x,d] [1] [1]:=by
 obtain ⟨m,h⟩:=Qsz hd hx hs;exact ⟨1,.step (by decide) (by decide) (b1 (by decide)) h (by decide) Ir rfl (by rw [show Gl []=[] by decide]; exact .stop _)⟩
theorem Q19 (c:Int):To [c] [c]=[]:=by
 show Pj 1 _=_;rw [Dk,Qa2];show (if c-c=0 then _ else _)=_;rw [if_pos (by omega)]
include hd hx hs in
theorem Qyc:DOk [x,d] [1] [x,d]:=by
 refine ⟨by decide,by decide,by show 2<=1000; decide,b1 (by decide),[x,d],[],?_⟩;have hpl:Uu [x,d] / Uu [1]=d:=by show d / 1=d; rw [Vi]
 have hsc:Ut [1] d=[d]:=by
  show Pj 1 _=_;rw [Dk,Qa2];show (if 1*d=0 then _ else [1*d])=_;rw [Ym,if_neg (by omega)]
 have hsub:To [x,d] (Ti 1 [d])=trim [x]:=by
  show Pj 2 _=_;rw [Qig,Qmq];show (if d-d=0 then trim [x-0] else _)=_;rw [if_pos (by omega),Int.sub_zero]
 have hb:Bd 9000000 [x,d]:=bd2 (by omega) (by omega);have ht:trim [x,d]=[x,d]:=by rw [Qmq,if_neg (by omega)]
 by_cases h0:x=0
 ·refine ⟨1,hb,by show 2<=1000; decide,?_,ht.symm⟩;refine .step (by show 1<=2; decide) (by show 2<=1000; decide) hb (by decide) (by show (1:Int)∣d; exact W5 d) (by show 1<2; decide) ?_;rw [hpl,hsc,show [x,d].length-[(1:Int)].length=1 from rfl,hsub,Qa2,if_pos h0];show DRun [1] 0 [] [0,d] [x,d] [];rw [h0]; exact .stop (by decide)
 ·refine ⟨2,hb,by show 2<=1000; decide,?_,ht.symm⟩;refine .step (by show 1<=2; decide) (by show 2<=1000; decide) hb (by decide) (by show (1:Int)∣d; exact W5 d) (by show 1<2; decide) ?_;rw [hpl,hsc,show [x,d].length-[(1:Int)].length=1 from rfl,hsub,Qa2,if_neg h0];refine .step (by show 1<=1; decide) (by show 1<=1000; decide) (bd1 (by omega)) (by decide) (by show (1:Int)∣x; exact W5 x) (by show 0<2; decide) ?_;have hpl2:Uu [x] / Uu [1]=x:=by show x / 1=x; rw [Vi]
  have hsc2:Ut [1] x=[x]:=by
   show Pj 1 _=_;rw [Dk,Qa2];show (if 1*x=0 then _ else [1*x])=_;rw [Ym,if_neg h0]
  rw [hpl2,hsc2,show [x].length-[(1:Int)].length=0 from rfl,show Ti 0 [x]=[x] from rfl,Q19];exact .stop (by decide)
theorem div_one:DOk [1] [1] [1]:=by
 refine ⟨by decide,by decide,by decide,b1 (by decide),[1],[],1,b1 (by decide),by decide,?_,by decide⟩;refine .step (by decide) (by decide) (b1 (by decide)) (by decide) (by decide) (by decide) ?_;exact .stop (by decide)
include hd hg hx hs in
theorem Q55:FRun [x,d] 1 (λ_=>[x,d]):=by
 obtain ⟨m,hm⟩:=Q6l (x:=x) hd hx hs;refine ⟨⟨1,[[x,d],[1]],?_,rfl,?_⟩,by decide⟩
 ·rw [Oj hd hg];refine .step (by show 1<2; decide) (by show 2<=1000; decide) (by show trim [x,d]=[x,d]; rw [Qmq,if_neg (by omega)]) (by show Bd 9000000 [x,d]; exact bd2 (by omega) (by omega)) ?_ ?_ (by show 1<=1000; decide) (m:=m) (g:=[1]) ?_
  ·show Bd 9000000 (U7 [x,d]);rw [Qnf hd]; exact bd1 (by omega)
  ·show GRun m (Gl [x,d]) (Gl (U7 [x,d])) [1];rw [Oj hd hg,Qnf hd,Qjg hd]; exact hm
  ·exact .stop (by show 1<=1; decide)
 ·intro k hk;have:k=0:=by omega
  subst this;exact ⟨[x,d],[1],[x,d],Qyc hd hx hs,div_one,by rw [Oj hd hg,Qso]; exact Qyc hd hx hs,(Oj hd hg).symm⟩
theorem Qlr {p:List Int} (hp:Ue p) (h0:0<p.length):Ff [1] p=p:=by
 refine I2 (Gi _ _) hp λk=>?_
 unfold Ff;rw [if_neg (by
  rintro (h | h); · cases h
  ·omega),Db]
 show (M5 [1] p (List.replicate (1+p.length-1) 0) 1).getD k 0=_;simp only [M5];rw [Qeq _ _ _ _ _ _ (by simp),Ho]
 split
 ·show 0+1*p.getD (k-0) 0=_;rw [Ky]; omega
 ·rename_i h;rw [Qg,Qp (by omega)]; rfl
include hd hg hx hs in
theorem Qkr:ChRun [x,d] [x,d] [[x,d],[1]]:=by
 obtain ⟨m,hm⟩:=Qsz (x:=x) hd hx hs;have ht:Ue [x,d]:=by show trim [x,d]=_; rw [Qmq,if_neg (by omega)]
 refine ⟨⟨1,λ_=>[x,d],Q55 hd hg hx hs,?_,?_⟩,⟨1,?_⟩,bd2 (by omega) (by omega),by show 2<=1000; decide,by show 2<=1000; decide⟩
 ·intro i hi;have:i=0:=by omega
  subst this;exact ⟨b1 (by decide),by show 1<=1000; decide,bd2 (by omega) (by omega),by show 2<=1000; decide⟩
 ·show [x,d]=Ff [1] [x,d];rw [Qlr ht (by show 0<2; decide)]
 ·have hz:Hj (U7 [x,d])=[1]:=by
   rw [Qnf hd];unfold Hj;rw [if_neg (show ¬Uu [d]<0 from by show ¬d<0; omega),Qjg hd]
  rw [hz];refine .step (by decide) (by decide) (b1 (by decide)) (m:=m) (r:=[]) hm rfl Ir (by decide) (by show 0<1; decide) (by show 1<=1000; decide) ?_;exact .stop (by decide)
end
theorem Zkq {q:Rat} (h:Qs 1000000 q):Qw2 q [[-q.num,(q.den:Int)],[1]]:=by
 refine ⟨[-q.num,(q.den:Int)],Qkr (den_pos q) ?_ (by rw [Ga]; exact h.1) h.2⟩;rw [Int.neg_gcd];have:=q.reduced;unfold Nat.Coprime at this;simpa [Int.gcd] using this
end Orr
namespace Orr
open Go Go.Proofs
set_option maxRecDepth 10000
theorem Zgu {a b g:List Int} {n:Nat} (ta:Ue a) (tb:Ue b) (ha:Bd 9000000 a) (hb:Bd 9000000 b) (la:a.length<=1000) (lb:b.length<=1000) (hrun:GRun n (Gl a) (Gl b) g):Ua Tryz.prog 155 [.one (rp (zp a)),.one (rp (zp b))] [.one (rp (zp g))]:=by
 refine Gu Tryz.func155 rfl ?_;refine go tt [.c [] (Lc ta ha la),.c [] (Lc tb hb lb)] rfl trivial ?_;refine sb [(0,.v (.one (rp (zp (Gl a))))),(1,.v (.one (rp (zp (Gl b)))))] [] rfl rfl ?_;refine lp (S:=Nat×List Int×List Int) 0 (λL1 s=>(0,.v (.one (rp (zp s.2.1))))::(1,.v (.one (rp (zp s.2.2))))::L1) (λ_=>[]) (λs=>s.1) (λs=>GRun s.1 s.2.1 s.2.2 g) (n,Gl a,Gl b) hrun rfl (λ_ _=>rfl) rfl λ⟨k,x,y⟩ hs=>?_
 have hs:GRun k x y g:=hs;have hyl:=fzl y;rcases hs.inv with ⟨hk,hy0,hxg⟩ | ⟨j,m2,r,hk,hy0,hy1,hyb,hrr,hrl,hrb,hrt,hgr⟩
 ·rw [<-hxg];exact en tt [.f (decide_eq_false (by dsimp only; omega))] rfl rfl trivial
 ·subst hk;refine go tt [.t (decide_eq_true (by dsimp only; omega)),.c [] (Qxv (a0:=x) (b:=y) (res:=r) hy0 hy1 hyb hrr),.c [] (Lc (p:=r) hrt hrb hrl)] rfl trivial ?_;exact rd (j,y,Gl r) (by dsimp only; omega) hgr rfl
theorem Za2 {x y:Int} (hx:Uj x<=9000000) (hy:Uj y<=9000000) (h0:y≠0) (hd:y∣x):Ua Tryz.prog 207 [.agg (fr (x:Rat)),.agg (fr (y:Rat))] [.agg (fr ((x / y:Int):Rat))]:=by
 have hy0:(y:Rat)≠0:=λe=>h0 (by exact_mod_cast e)
 have h:=Qua (B8 (s:=40000000) (z:=x) (by omega) (by omega)) (B8 (s:=40000000) (z:=y) (by omega) (by omega)) hy0;obtain ⟨k,rfl⟩:=hd;rw [Xx _ h0];rwa [show (((y*k:Int):Rat)) / (y:Rat)=(k:Rat) by rw [Xv]; grind] at h
theorem Q04 {p:List Int} {c:Int} (hp:Bd 40000000 p) (hc:Uj c<=40000000) (hl:p.length<=1000000):Ua Tryz.prog 203 [.one (rp (zp p)),.agg (fr (c:Rat))] [.one (rp (zp (Ut p c)))]:=by
 have h:=Eg (Ig hp (by omega)) (B8 hc (by omega)) (by rw [Tq]; exact hl);rwa [Qmg] at h
theorem Zd7 (k:Nat) (p:List Int):frow (zp (List.replicate k 0))++frow (zp p)=frow (zp (Ti k p)):=by simp [zp,Ti,frow]
theorem Q1p (l:List Int) (i:Nat) (z:Int):(frow (zp l)).set i [nd ((z:Rat)).num.natAbs,sg ((z:Rat)).num,nd (((z:Rat)).den:Int).natAbs,sg (((z:Rat)).den:Int)]=frow (zp (l.set i z)):=Qq8 l i z
theorem Zbh {p q:List Int} (hp:Bd 18000000 p) (hq:Bd 18000000 q) (hlp:p.length<=1000000) (hlq:q.length<=1000000):G6 Tryz.prog 144 [.one (rp (zp p)),.one (.orow 0 4 none)] [.row false 35 4 (frow (zp q))] [.one (rp (zp (To p q)))] [.gone]:=by
 have hn:=Qul ((Ig hq (by decide)).mono (by decide)) (by rw [Tq]; exact hlq);have ha:=Quh (p:=zp p) (q:=Qo2 (zp q)) ((Ig hp (by decide)).mono (by decide)) ((Q8c (Ig hq (by decide))).mono (by decide)) (by rw [Tq]; exact hlp) (Qa (Qs0 _) (by rw [Tq]; exact hlq));have e:Q2e (zp p) (Qo2 (zp q))=zp (To p q):=Qz9 p q;rw [e] at ha;refine Gu Tryz.func144 rfl ?_;exact ed tt [] [0] [.c [] hn,.c [] ha] rfl trivial
theorem Q05 {a0 b qf rem:List Int} {n:Nat} (hb0:0<b.length) (hb1:b.length<=1000) (hl0:a0.length<=1000) (hbb:Bd 9000000 b) (hqb:Bd 9000000 qf) (hrun:DRun b n a0 (List.replicate (a0.length+1-b.length) 0) qf rem):Ua Tryz.prog 259 [.one (rp (zp a0)),.one (rp (zp b))] [.one (rp (zp (trim qf))),.one (rp (zp rem))]:=by
 have h0l:=fzl a0;have hbl:=fzl b;obtain ⟨N,hN⟩:=nmE (a0.length+1-b.length);rw [<-hN] at hrun;have cc:=Iu (p:=zp qf);rw [Nl] at cc;refine Gu Tryz.func259 rfl ?_;refine go tt [.r 18 (eI (b:=(N:Int)) (by omega)),.i N,.i N,.r 21 (eI (b:=(N:Int)) (by simp))] rfl (by simp [W9]; omega) ?_;refine lp (S:=Nat) 1 (λL1 i=>(22,.v (.one (.int .i64 (i:Int))))::L1) (λi=>[.row false 35 4 (List.replicate i (fr 0)++List.replicate (N-i) zR)]) (λi=>N-i) (λi=>i<=N) 0 (Qi _) rfl (λ_ _=>rfl) rfl λi hi=>?_
 by_cases hlt:i<N
 ·refine go tt [.t (decide_eq_true (by omega)),.c [] Q4f,.i i] rfl (by simp [W9]; omega) ?_;rw [Qnr hlt];exact rd (i+1) (by omega) hlt rfl
 have hiN:i=N:=by omega
 rw [hiN,Qjz];clear hiN hlt hi;refine go tt [.f (decide_eq_false (by omega))] rfl trivial ?_;refine sb [(0,.v (.one (rp (zp a0)))),(1,.v (.one (rp (zp b)))),(6,.v (.one (.orow 0 4 none)))] [.row false 35 4 (frow (zp (List.replicate N 0)))] rfl rfl ?_;refine lp (S:=Nat×List Int×List Int) 1 (λL1 s=>(0,.v (.one (rp (zp s.2.1))))::L1) (λs=>[.row false 35 4 (frow (zp s.2.2))]) (λs=>s.1) (λs=>DRun b s.1 s.2.1 s.2.2 qf rem/\s.2.2.length=N) (n,a0,List.replicate N 0) ⟨hrun,X9⟩ rfl (λ_ _=>rfl) rfl λ⟨k,a,q⟩ ⟨hr0,hr1⟩=>?_
 have hr0:DRun b k a q qf rem:=hr0;have hr1:q.length=N:=hr1;have hal:=fzl a;have hql:=fzl q;rcases hr0.inv with ⟨hk,hqf,har,hlt⟩ | ⟨j,hk,hba,hal2,hab,hpb,hpd,hkq,hrj⟩
 ·subst hqf; subst har;exact en tt [.f (decide_eq_false (by dsimp only; omega)),.c [] cc] rfl rfl trivial
 subst hk;obtain ⟨K,hK⟩:=nmE (a.length-b.length);rw [<-hK] at hrj hkq;have hla:Uj (Uu a)<=9000000:=Um hab _;have hlb:Uj (Uu b)<=9000000:=Um hbb _;obtain ⟨c,hc⟩:=nmE (Uu a / Uu b);have cq:=Za2 hla hlb hpb hpd;have hcs:Uj (Uu a / Uu b)<=9000000:=Qa (I7 _ _) hla;rw [<-hc] at cq hcs hrj;have hsl:=Ul b c;have hqs:∀ x,(q.set K x).length=N:=λx=>by rw [Ja]; exact hr1
 dsimp only;refine go tt [.t (decide_eq_true (by omega)),.r 39 (eI (b:=(K:Int)) (by omega)),.r 43 (eI (b:=((a.length-1:Nat):Int)) (by omega)),.x (H7 (p:=a) (i:=a.length-1) (by omega)),.r 49 (eI (b:=((b.length-1:Nat):Int)) (by omega)),.x (H7 (p:=b) (i:=b.length-1) (by omega)),.c [] cq,.i K,.i K,.i K,.r 60 (eI (b:=(K:Int)) (by simp))] rfl (by simp [W9,hql] <;> omega) ?_;rw [Q1p];refine lp (S:=Nat) 3 (λL1 i=>(61,.v (.one (.int .i64 (i:Int))))::L1) (λi=>[.row false 35 4 (frow (zp (q.set K c))),.blk 35 (fr (c:Rat)),.row false 35 4 (List.replicate i (fr 0)++List.replicate (K-i) zR)]) (λi=>K-i) (λi=>i<=K) 0 (Qi _) rfl (λ_ _=>rfl) rfl λi hi=>?_
 by_cases hlt:i<K
 ·refine go tt [.t (decide_eq_true (by omega)),.c [] Q4f,.i i] rfl (by simp [W9]; omega) ?_;rw [Qnr hlt];exact rd (i+1) (by omega) hlt rfl
 have hiK:i=K:=by omega
 rw [hiK,Qjz];clear hiK hlt hi;have hzl:=fzl (List.replicate K 0);rw [X9] at hzl;have hpl:=fzl (Ut b c);refine go tt [.f (decide_eq_false (by omega))] rfl trivial ?_;refine sb [(10,.v (.one (.orow 2 4 none))),(9,.v (.one (.ow 1 0))),(0,.v (.one (rp (zp a)))),(1,.v (.one (rp (zp b)))),(6,.v (.one (.orow 0 4 none)))] [.row false 35 4 (frow (zp (q.set K c))),.blk 35 (fr (c:Rat)),.row false 35 4 (frow (zp (List.replicate K 0)))] rfl rfl ?_;have p2:=Zbh (p:=a) (q:=Ti K (Ut b c)) (W8 hab (by decide)) (W8 (Q0r (Ur hbb hcs)) (by decide)) (by omega) (by rw [Qjo]; omega);rw [<-Zd7] at p2;refine go tt [.c [] (Q04 (c:=c) (W8 hbb (by decide)) (by omega) (by omega)),.s (sz:=4) (Qd9 (zp (Ut b c))),.c [2] p2] rfl (by simp [W9,hzl,hpl]; omega) ?_;exact rd (j,To a (Ti K (Ut b c)),q.set K c) (by dsimp only; omega) ⟨hrj,hqs c⟩ rfl
def zls (l:List (List Int)):List (List LV):=l.map λp=>[rp (zp p)]
theorem A8 (l:List (List Int)):(zls l).length=l.length:=by simp [zls]
theorem Qdo (l:List (List Int)) (g:List Int):zls l++[[rp (zp g)]]=zls (l++[g]):=by simp [zls]
theorem A7 {l:List (List Int)} {i:Nat} (h:i<l.length):(zls l)[i]? = some [rp (zp (l.getD i []))]:=G9 (Qu5 h)
theorem Zc8 (x:LV):∀ c∈[[x]],c.length=1:=λc hc=>by rw [Qt.1 hc]; rfl
theorem Qhw {a b q:List Int} (h:DOk a b q):∃ r,Ua Tryz.prog 259 [.one (rp (zp a)),.one (rp (zp b))] [.one (rp (zp q)),.one (rp (zp r))]:=by
 obtain ⟨h1,h2,h3,h4,qf,r,n,h5,h6,h7,rfl⟩:=h;exact ⟨r,Q05 h1 h2 h3 h4 h5 h7⟩
theorem Quk {a:List Int} {mf:Nat} {f:Nat->List Int} (ta:Ue a) (ha:Bd 9000000 a) (la:a.length<=1000) (h2:2<=a.length) (hF:FRun a mf f):Ua Tryz.prog 202 [.one (rp (zp a))] [.one (.row (zls (Qjv f mf)))]:=by
 obtain ⟨⟨n,ls,hrun,hlen,hq⟩,hms⟩:=hF;have hal:=fzl a;refine Gu Tryz.func202 rfl ?_;refine go tt [.f (decide_eq_false (by omega)),.c [] (Lc ta ha la),.o 3 28 1,.lo] rfl trivial ?_;refine sb [(3,.v (.one (.orow 0 1 none))),(4,.v (.one (.orow 1 1 none)))] [.row false 28 1 [],.row false 28 1 (zls [Gl a])] rfl rfl ?_;refine lp (S:=Nat×List (List Int)) 2 (λL1 s=>(4,.v (.one (.orow 1 1 none)))::L1) (λs=>[.row false 28 1 [],.row false 28 1 (zls s.2)]) (λs=>s.1) (λs=>LRun s.1 s.2 ls/\0<s.2.length/\s.2.length<=1001) (n,[Gl a]) ⟨hrun,by show 0<1; decide,by show 1<=1001; decide⟩ rfl (λ_ _=>rfl) rfl λ⟨k,l⟩ ⟨hs1,hs2,hs3⟩=>?_
 have hs1:LRun k l ls:=hs1;have hs2:0<l.length:=hs2;have hs3:l.length<=1001:=hs3;have hll:=A8 l;have hlast:(zls l)[l.length-1]? = some [rp (zp (So l))]:=A7 (by omega);have hpl:=fzl (So l);dsimp only;rcases hs1.inv with ⟨hk,hlf,hl1⟩ | ⟨j,m2,g,hk,hg1,hg2,hg3,hg4,hg5,hg6,hg7,hlr⟩
 ·have hlm:l.length=mf+1:=by rw [hlf]; exact hlen
  rw [<-hlf] at hq;have hl2:=A8 (l++[[1]]);have hl3:(l++[[1]]).length=mf+2:=by simp [hlm]
  refine go tt [.r 23 (eI (b:=((l.length-1:Nat):Int)) (by omega)),.i (l.length-1),.x hlast,.f (decide_eq_false (by omega)),.c [] Q4p,.s (sz:=1) (Zc8 _)] rfl (by simp [W9,hll]; omega) ?_;rw [Qdo];refine lp (S:=Nat) 2 (λL1 i=>(6,.v (.one (.int .i64 (i:Int))))::(3,.v (.one (.orow 0 1 none)))::L1) (λi=>[.row false 28 1 (zls (Qjv f i)),.row false 28 1 (zls (l++[[1]]))]) (λi=>mf-i) (λi=>i<=mf) 0 (Qi _) rfl (λ_ _=>rfl) rfl λi hi=>?_
  have htl:=A8 (Qjv f i);rw [Qtd] at htl;by_cases h:i<mf
  ·obtain ⟨x,y,z,hx,hy,hz,hf⟩:=hq i h;obtain ⟨rx,hdx⟩:=Qhw hx;obtain ⟨ry,hdy⟩:=Qhw hy;obtain ⟨rz,hdz⟩:=Qhw hz;refine go tt [.t (decide_eq_true (by omega)),.i i,.x (A7 (by omega)),.i (i+1),.x (A7 (by omega)),.c [] hdx,.i (i+1),.x (A7 (by omega)),.i (i+2),.x (A7 (by omega)),.c [] hdy,.c [] (Lc hx.trim hx.bd hx.len),.c [] (Lc hy.trim hy.bd hy.len),.c [] hdz,.c [] (Lc hz.trim hz.bd hz.len),.s (sz:=1) (Zc8 _)] rfl (by simp [W9,hl2,htl]; omega) ?_;exact rd (i+1) (by omega) h (by rw [Qdo,Q2p,hf]; rfl)
  ·have e:i=mf:=by omega
   rw [e];exact en tt [.f (decide_eq_false (by omega))] rfl rfl (by simp [W9]; omega)
 ·subst hk;refine go tt [.r 23 (eI (b:=((l.length-1:Nat):Int)) (by omega)),.i (l.length-1),.x hlast,.t (decide_eq_true (by omega)),.r 31 (eI (b:=((l.length-1:Nat):Int)) (by omega)),.i (l.length-1),.x hlast,.c [] (Quj (W8 hg4 (by decide)) (by omega)),.c [] (Zgu hg3 (Us _ _) hg4 hg5 hg2 (Qa (Tl _) (by omega)) hg6),.s (sz:=1) (Zc8 _)] rfl (by simp [W9,hll]; omega) ?_;exact rd (j,l++[g]) (by dsimp only; omega) ⟨hlr,by simp,by simp; omega⟩ (by rw [Qdo]; rfl)
theorem Q06 {a:List Int} {mf:Nat} {f:Nat->List Int} (ta:Ue a) (ha:Bd 9000000 a) (la:a.length<=1000) (h2:2<=a.length) (hF:FRun a mf f) (hP:Zjb mf f):Ua Tryz.prog 135 [.one (rp (zp a))] [.one (rp (zp (Ex f mf)))]:=by
 have hms:=hF.small;have hal:=fzl a;have htl:=A8 (Qjv f mf);rw [Qtd] at htl;refine Gu Tryz.func135 rfl ?_;refine go tt [.f (decide_eq_false (by omega)),.c [] Q4p,.c [] (Quk ta ha la h2 hF)] rfl trivial ?_;refine lp (S:=Nat) 0 (λL1 i=>(15,.v (.one (.int .i64 (i:Int))))::(3,.v (.one (rp (zp (Ex f i)))))::L1) (λ_=>[]) (λi=>mf-i) (λi=>i<=mf) 0 (Qi _) rfl (λ_ _=>rfl) rfl λi hi=>?_
 by_cases h:i<mf
 ·obtain ⟨g1,g2,g3,g4⟩:=hP i h;refine go tt [.t (decide_eq_true (by omega)),.x (G9 (f:=λp=>[rp (zp p)]) (Q9j h)),.c [] (Qm8 (p:=Ex f i) (q:=f i) (by omega) (by omega) g1 g3 (by decide))] rfl (by simp [W9]; omega) ?_;exact rd (i+1) (by omega) h rfl
 ·have e:i=mf:=by omega
  rw [e];exact en tt [.f (decide_eq_false (by omega))] rfl rfl trivial
theorem Q1v {l:List (List Int)} (g:List Int) (h:0<l.length):(zls l++[[rp (zp g)]])[l.length-1]? = some [rp (zp (So l))]:=by
 rw [Zj (by rw [A8]; omega)];exact A7 (by omega)
theorem Qqe {a sq:List Int} {c:List (List Int)} (ta:Ue a) (ha:Bd 9000000 a) (la:a.length<=1000) (h2:2<=a.length) (hC:ChRun a sq c):Ua Tryz.prog 69 [.one (rp (zp a))] [.one (.row (zls c))]:=by
 obtain ⟨⟨mf,f,hF,hP,rfl⟩,⟨n,hcr⟩,hbd,hle,hsm⟩:=hC;refine Gu Tryz.func69 rfl ?_;refine go tt [.c [] (Q06 ta ha la h2 hF hP),.lo,.c [] (Quj (p:=Ex f mf) (W8 hbd (by decide)) (by omega)),.c [] (Qqg (p:=U7 (Ex f mf)) (Us _ _) (W8 (Qgg (t:=10) hbd (by omega)) (by decide)) (Qa (Tl _) (by omega)))] rfl trivial ?_;refine sb [(5,.v (.one (rp (zp (Hj (U7 (Ex f mf))))))),(4,.v (.one (.orow 0 1 none)))] [.row false 28 1 (zls [Ex f mf])] rfl rfl ?_;refine lp (S:=Nat×List (List Int)×List Int) 1 (λL1 s=>(5,.v (.one (rp (zp s.2.2))))::(4,.v (.one (.orow 0 1 none)))::L1) (λs=>[.row false 28 1 (zls s.2.1)]) (λs=>s.1) (λs=>CRun s.1 s.2.1 s.2.2 c/\0<s.2.1.length/\s.2.1.length<=1001) (n,[Ex f mf],Hj (U7 (Ex f mf))) ⟨hcr,by show 0<1; decide,by show 1<=1001; decide⟩ rfl (λ_ _=>rfl) rfl λ⟨k,l,g⟩ ⟨hs1,hs2,hs3⟩=>?_
 have hs1:CRun k l g c:=hs1;have hs2:0<l.length:=hs2;have hs3:l.length<=1001:=hs3;have hll:=A8 l;have hgl:=fzl g;dsimp only;rcases hs1.inv with ⟨hk,hlf,hg0⟩ | ⟨j,m2,r,hk,hg1,hg2,hg3,hrr,hrt,hrb,hrl,hl0,hl1,hcj⟩
 ·subst hlf;exact en tt [.f (decide_eq_false (by omega))] rfl rfl trivial
 ·subst hk;refine go tt [.t (decide_eq_true (by omega)),.s (sz:=1) (Zc8 _),.r 23 (eI (b:=((l.length-1:Nat):Int)) (by simp; omega)),.i (l.length-1),.x (Q1v g hl0),.c [] (Qxv (a0:=So l) (b:=g) (res:=r) hg1 hg2 hg3 hrr),.c [] (Qqg (p:=r) hrt hrb hrl),.c [] (Q4n (p:=Hj r) (Qkj hrb) (Qa (Aw r) (by omega)))] rfl (by simp [W9,hll]; omega) ?_;exact rd (j,l++[g],S7 (Hj r)) (by dsimp only; omega) ⟨hcj,by simp,by simp; omega⟩ (by rw [Qdo]; rfl)
theorem Q3h {q:Rat} (h1:Uj q.num<=1000000) (h2:Uj (q.den:Int)<=1000000):Bd 9000000 [-q.num,(q.den:Int)]:=λz hz=>by
 simp only [Qo,Wp,or_false] at hz;rcases hz with rfl | rfl
 ·rw [Ga]; omega
 ·omega
abbrev aq (q:Rat) (c:List (List Int)):List LV:=[rp (zp [-q.num,(q.den:Int)]),.row (zls c)]++fr q++fr q
theorem Qqf {q:Rat} {c:List (List Int)} (hq:Qs 1000000 q) (hC:Qw2 q c):Ua Tryz.prog 10 [.agg (fr q)] [.agg (aq q c)]:=by
 obtain ⟨sq,hch⟩:=hC;have co:=Cd (n:=1) (by decide);exact w tt Tryz.func10 rfl [.c [] co,.c [] (Pw (n:=q.num)),.c [] (Q3w (z:=q.num)),.c [] co,.c [] (Pw (n:=(q.den:Int))),.c [] (Qqe (a:=[-q.num,(q.den:Int)]) (Qpe q) (Q3h hq.1 hq.2) (by show 2<=1000; decide) (Qk 2) hch)] rfl rfl trivial
theorem Qhy {q:Rat} {c:List (List Int)} (hq:Qs 1000000 q):Ua Tryz.prog 89 [.agg (aq q c)] [.one (.bool true)]:=by
 have cr:=Cm (a:=q) (b:=q) (hq.mono (by decide)) (hq.mono (by decide));rw [Nw] at cr;exact w tt Tryz.func89 rfl [.c [] cr] rfl rfl trivial
theorem Q18 {p:List Int} (h:p.length=0) (q:Rat):U8 p q=0:=by rw [Qh h]; rfl
theorem Qxu {p:List Int} {q:Rat} {c:List (List Int)} (hp:Bd 30000000 p) (hl:p.length<=64) (hq:Qs 1000000 q):Ua Tryz.prog 90 [.one (rp (zp p)),.agg (aq q c)] [.one (.bool (decide (U8 p q=0)))]:=by
 have hpl:=fzl p;rcases Qx p.length with h0 | h0
 ·rw [decide_eq_true (Q18 h0 q)];exact w tt Tryz.func90 rfl [.t (decide_eq_true (by omega))] rfl rfl trivial
 ·exact w tt Tryz.func90 rfl [.f (decide_eq_false (by omega)),.c [] (Qhy hq),.t rfl,.c [] (Qb6 hp hl hq)] rfl rfl trivial
theorem Qkn {p:List Int} {q:Rat} {c:List (List Int)} (hp:Bd 30000000 p) (hl:p.length<=64) (hq:Qs 1000000 q):Ua Tryz.prog 70 [.one (rp (zp p)),.agg (aq q c)] [.one (.int .i64 (U8 p q))]:=by
 by_cases h0:U8 p q=0
 ·have cz:=Qxu (c:=c) hp hl hq;rw [h0] at cz ⊢;exact w tt Tryz.func70 rfl [.c [] cz,.t rfl] rfl rfl trivial
 ·exact w tt Tryz.func70 rfl [.c [] (Qxu hp hl hq),.f (decide_eq_false h0),.c [] (Qhy hq),.g 11 true rfl,.t rfl,.c [] (Qb6 hp hl hq)] rfl rfl trivial
theorem Qqd {p:List Int} {q:Rat} {c:List (List Int)} (hp:Bd 20000000 p) (hl:p.length<=64) (hq:Qs 1000000 q):Ua Tryz.prog 15 [.one (rp (zp p)),.agg (aq q c)] [.one (.int .i64 (Lx p q))]:=by
 refine Gu Tryz.func15 rfl ?_;refine go tt [] rfl trivial ?_;refine lp (S:=List Int) 1 (λL1 r=>(0,.v (.one (rp (zp r))))::L1) (λ_=>[.blk 37 (aq q c)]) (λr=>r.length) (λr=>r.length<=64/\Bd (25000000-30*r.length) r/\Tv (λp=>U8 p q) r.length r=Lx p q) p ⟨hl,W8 hp (by omega),rfl⟩ rfl (λ_ _=>rfl) rfl λr ⟨hr0,hr1,hr2⟩=>?_
 have hrl:=fzl r;rcases Qx r.length with h0 | h0
 ·rw [Qfk _ h0] at hr2;exact en tt [.f (decide_eq_false (by omega))] rfl (by rw [<-hr2]) trivial
 by_cases hs:U8 r q=0
 ·have hd:=Tl r;refine go tt [.t (decide_eq_true (by omega)),.c [] (Qkn (p:=r) (c:=c) (W8 hr1 (by omega)) hr0 hq),.f (decide_eq_false (λh=>h hs)),.c [] (Quj (p:=r) (W8 hr1 (by omega)) (by omega))] rfl trivial ?_;exact rd (U7 r) (by omega) ⟨by omega,W8 (Qgg (t:=6) hr1 (by omega)) (by omega),by rw [<-hr2,Qfj _ h0 hs]⟩ rfl
 ·exact en tt [.t (decide_eq_true (by omega)),.c [] (Qkn (p:=r) (c:=c) (W8 hr1 (by omega)) hr0 hq),.t (decide_eq_true hs)] rfl (by rw [<-hr2,Qfi _ h0 hs]) trivial
end Orr
namespace Orr
def rxs (p:List Int) (d:Int):List Rat:=p.map λ(z:Int)=>(z:Rat) / (d:Rat)
theorem Lq (p:List Int) (d:Int):(rxs p d).length=p.length:=Q4 _
theorem Zdy {p:List Int} {i:Nat} {z:Int} {d:Int} (h:p[i]? = some z):(rxs p d)[i]? = some ((z:Rat) / (d:Rat)):=by simp [rxs,h]
theorem Q8u (p:List Int) (d:Int) (i:Nat):(rxs p d).getD i 0=((p.getD i 0:Int):Rat) / (d:Rat):=by
 simp only [Qg,rxs,Q7];cases p[i]? with
 | none=>simp; grind
 | some z=>rfl
theorem Ai (z d:Int):(z:Rat) / (d:Rat)=Rat.divInt z d:=by
 by_cases h:d=0
 ·subst h; simp; grind
 ·rw [J8];have e1:(z:Rat)=Rat.divInt z 1:=by have:=Zq (z:Rat); simpa using this.symm
  have e2:(d:Rat)⁻¹=Rat.divInt 1 d:=by
   have:(d:Rat)=Rat.divInt d 1:=by have:=Zq (d:Rat); simpa using this.symm
   rw [this,Rat.inv_divInt]
  rw [e1,e2,Ko];simp
theorem Zbz {z d:Int} (hd:0<d):(((z:Rat) / (d:Rat)).den:Int)*(Int.gcd z d:Nat)=d:=by
 rw [Ai];have h:=(Qn9 (n:=z) hd).2;rw [<-h,Mz,Int.gcd_comm];exact Kz (Vf ..)
theorem Q6w {d a b L:Nat} (hd:0<d) (ha:L*a=d) {D:Nat} (hb:D*b=d):L*D / Nat.gcd L D*Nat.gcd a b=d:=by
 have hL:0<L:=Wd λe=>by rw [e] at ha; omega
 have hD:0<D:=Wd λe=>by rw [e] at hb; omega
 have hg:0<Nat.gcd L D:=Nat.gcd_pos_of_pos_left _ hL;show Nat.lcm L D*Nat.gcd a b=d;rw [<-Nat.gcd_mul_left];refine Nat.dvd_antisymm ?_ ?_
 ·-- gcd (M a) (M b) | d
  obtain ⟨u,hu⟩:=Ki L D;obtain ⟨v,hv⟩:=Wl L D;have hM:Nat.lcm L D=Nat.gcd L D*(u*v):=by
   unfold Nat.lcm
   conv=>lhs; rw [show L*D=Nat.gcd L D*u*(Nat.gcd L D*v) by rw [<-hu,<-hv]]
   rw [show Nat.gcd L D*u*(Nat.gcd L D*v)=Nat.gcd L D*(Nat.gcd L D*(u*v)) by rw [Xn,Kd u,]];exact Nat.mul_div_cancel_left _ hg
  have h1:Nat.lcm L D*a=v*d:=by
   rw [hM,<-ha]
   conv=>rhs; rw [hu]
   simp [Ze,Kd,Xn]
  have h2:Nat.lcm L D*b=u*d:=by
   rw [hM,<-hb]
   conv=>rhs; rw [hv]
   simp [Ze,Kd,Xn]
  have huv:Nat.gcd u v=1:=by
   have:=Nat.gcd_mul_left (Nat.gcd L D) u v;rw [<-hu,<-hv] at this;exact Nat.eq_of_mul_eq_mul_left hg (by omega)
  rw [h1,h2,Nat.gcd_mul_right,Kx,huv,W6];exact Nat.dvd_refl d
 ·refine Nat.dvd_gcd ?_ ?_
  ·rw [<-ha]; exact Nat.mul_dvd_mul_right (Nat.dvd_lcm_left L D) a
  ·rw [<-hb]; exact Nat.mul_dvd_mul_right (Nat.dvd_lcm_right L D) b
def lcd (z:List Int) (d:Int):Nat->Int
 | 0=>1
 | i+1=>lcd z d i*((((z.getD i 0:Int):Rat) / (d:Rat)).den:Int) / (Int.gcd (lcd z d i) ((((z.getD i 0:Int):Rat) / (d:Rat)).den:Int):Nat)
theorem Qvb {z:List Int} {d:Int} (hd:0<d):∀ i,i<=z.length->lcd z d i*((Gt (d::z.take i):Nat):Int)=d
 |
  0,_=>by
  show 1*_=d;have:((Gt [d]:Nat):Int)=d:=by unfold Gt; simp; omega
  rw [Yv,this,Ym]
 |
  i+1,hi=>by
  have ih:=Qvb (z:=z) hd i (by omega);have hz:z[i]? = some (z.getD i 0):=Qee (l:=z) (by omega);have hstep:Gt (d::z.take (i+1))=Nat.gcd (Gt (d::z.take i)) (z.getD i 0).natAbs:=by
   have:=Qec (l:=d::z) (i:=i+1) (z:=z.getD i 0) (by simpa using hz);simpa using this
  have hdn:=Zbz (z:=z.getD i 0) hd;simp only [lcd];generalize hL:lcd z d i=L at *;generalize hD:(((z.getD i 0:Int):Rat) / (d:Rat)).den=D at *;have hLp:0<L:=by
   rcases Jy L 0 with h | h | h
   ·have:=Int.mul_nonneg (Int.neg_nonneg_of_nonpos (Int.le_of_lt h)) (Int.natCast_nonneg (Gt (d::z.take i)));rw [Y8] at this; omega
   ·rw [h,J3] at ih; omega
   ·exact h
  obtain ⟨l,rfl⟩:=Yi (Int.le_of_lt hLp);obtain ⟨e,rfl⟩:=Yi (Int.le_of_lt hd);have h1:l*Gt (((e:Nat):Int)::z.take i)=e:=by exact_mod_cast ih
  have h2:D*Int.gcd (z.getD i 0) ((e:Nat):Int)=e:=by exact_mod_cast hdn
  have h3:=Q6w (d:=e) (by omega) h1 h2;have h4:Nat.gcd (Gt (((e:Nat):Int)::z.take i)) (Int.gcd (z.getD i 0) ((e:Nat):Int))=Nat.gcd (Gt (((e:Nat):Int)::z.take i)) (z.getD i 0).natAbs:=by
   have hge:Gt (((e:Nat):Int)::z.take i)∣e:=⟨l,by rw [Ze]; exact h1.symm⟩;show Nat.gcd _ (Nat.gcd (z.getD i 0).natAbs e)=_;rw [Kx (z.getD i 0).natAbs e,<-Nat.gcd_assoc,Nat.gcd_eq_left hge]
  rw [hstep,<-h4];rw [show Int.gcd ((l:Nat):Int) ((D:Nat):Int)=Nat.gcd l D by simp [Int.gcd]]
  exact_mod_cast h3
theorem Zcn {x y:List Int} {d:Int} (hd:0<d) (hg:Gt (d::(x++y))=1):lcd (x++y) d (x++y).length=d:=by
 have:=Qvb (z:=x++y) hd (x++y).length (Qk _);rw [Q8,hg] at this;simpa using this
theorem Zcp {z:List Int} {d:Int} (hd:0<d) {i:Nat} (hi:i<=z.length):Uj (lcd z d i)<=Uj d:=by
 have h:=Qvb (z:=z) hd i hi;refine Hw ?_;have h0:Gt (d::z.take i)≠0:=λe=>by rw [e] at h; simp at h; omega
 have:d.natAbs=(lcd z d i).natAbs*Gt (d::z.take i):=by
  conv=>lhs; rw [<-h]
  rw [Jv]; simp
 rw [this];exact Jo _ (Wd h0)
end Orr
namespace Orr
open Go Go.Proofs
set_option maxRecDepth 10000
abbrev cl4 (k:Crv):List LV:=[pl k.x,pl k.y,sg k.d,mg k.d]
abbrev rcl (c:Crv):List LV:=[rp (rxs c.x c.d),rp (rxs c.y c.d)]++cl4 c
def D6 (p:Pt):List LV:=rcl p.c++[.int .i64 p.id]
def Fg (l:List Pt):List (List LV):=l.map D6
structure Rs (k:Crv):Prop where
 n:Nml k
 c:Cs 100000 16 k
theorem Rs.d0 {k:Crv} (h:Rs k):0<k.d:=h.n.2.2.1
theorem Qwa {x:List Int} {d:Int} {s:Nat} (hx:Bd s x) (hd:Uj d<=s) (h1:1<=s):Rb s (rxs x d):=λq hq=>by
 obtain ⟨z,hz,rfl⟩:=Zk.1 hq;rw [Ai];exact Qs.divInt (hx z hz) hd h1
theorem Qjl {x:List Int} {d:Int} (tx:Ue x) (hd:d≠0):Pu (rxs x d) (d:Rat)=zp x:=by
 have hd':(d:Rat)≠0:=λe=>hd (by exact_mod_cast e)
 unfold Pu;rw [Qhb (g:=λi=>x.getD i 0) _ λi _=>?_,Lq,Qi3,Nl,tx];rw [Q8u]; grind
theorem Qqj {p:List Rat} {c:Int} (hp:Rb 40000000 p) (hc:Uj c<=40000000) (hl:p.length<=1000000):Ua Tryz.prog 290 [.one (rp p),.agg (ri c)] [.one (rp (Pu p (c:Rat)))] :=
 w tt Tryz.func290 rfl [.c [] (Cd (n:=1) (by decide)),.c [] (Pw (n:=c)),.c [] (Eg (p:=p) (c:=(c:Rat)) hp (B8 hc (by omega)) hl)] rfl rfl trivial
theorem Zdx (x y:List Int) (d:Int):frow (rxs x d)++frow (rxs y d)=frow (rxs (x++y) d):=by simp [rxs,frow]
theorem Qda {z:List Int} {d:Int} {i:Nat} (h:i<z.length):(rxs z d)[i]? = some (((z.getD i 0:Int):Rat) / (d:Rat)):=Zdy (Qee h)
theorem Qj6 (a b:Int) (hb:b≠0) {s:Nat} (h:Uj b<=s):Uj ((Int.gcd a b:Nat):Int)<=s:=by
 refine Qa (Hw ?_) h;simp only [Zx];exact Vw (by omega) (by simpa using Xj.2 (Vf a b))
theorem Zco (a b:Int):(a*b) % ((Int.gcd a b:Nat):Int)=0:=Jw (Vu (Wn ..) (Kb a b))
theorem Qkp {k:Crv} (hs:Rs k):Ua Tryz.prog 253 [.one (rp (rxs k.x k.d)),.one (rp (rxs k.y k.d))] [.agg (rcl k)]:=by
 have hlx:=hs.c.lx;have hly:=hs.c.ly;have hds:=hs.c.d;have hxy:Bd 100000 (k.x++k.y):=λz hz=>by rcases Qz.1 hz with h | h; exact hs.c.x z h; exact hs.c.y z h
 have hfx:(frow (rxs k.x k.d)).length=k.x.length:=by rw [Rx,Lq]
 have hfy:(frow (rxs k.y k.d)).length=k.y.length:=by rw [Rx,Lq]
 have hfl:(frow (rxs (k.x++k.y) k.d)).length=k.x.length+k.y.length:=by rw [Rx,Lq,Zc]
 have hd0:=hs.d0;refine Gu Tryz.func253 rfl ?_;refine go tt [.c [] (Cd (n:=1) (by decide)),.s (sz:=4) (Qd9 _),.s (sz:=4) (Qd9 _)] rfl (by simp [W9,hfx,hfy]; omega) ?_;rw [Zdx];refine lp (S:=Nat) 3 (λL1 i=>(15,.v (.one (.int .i64 (i:Int))))::L1) (λi=>[.blk 55 [.nils,.nils,.nils,.nils,.bool false,.nils],.blk 33 (ri (lcd (k.x++k.y) k.d i)),.row false 35 4 (frow (rxs (k.x++k.y) k.d))]) (λi=>k.x.length+k.y.length-i) (λi=>i<=k.x.length+k.y.length) 0 (Qi _) rfl (λ_ _=>rfl) rfl λi hi=>?_
 have hll:(k.x++k.y).length=k.x.length+k.y.length:=Zc;by_cases h:i<k.x.length+k.y.length
 ·have hlt:i<(k.x++k.y).length:=by omega
  have hqe:=Qwa (x:=(k.x++k.y)) (d:=k.d) (s:=100000) hxy hs.c.d (by decide);have hqi:=hqe.get (Qda hlt);obtain ⟨D,hD⟩:=nmE (((((k.x++k.y).getD i 0:Int):Rat) / (k.d:Rat)));have hg:=Dm (Qda (d:=k.d) hlt);have es:lcd (k.x++k.y) k.d (i+1)=lcd (k.x++k.y) k.d i*(D.den:Int) / ((Int.gcd (lcd (k.x++k.y) k.d i) (D.den:Int):Nat):Int):=by rw [hD]; rfl
  rw [<-hD] at hqi hg;have hq2:=hqi.2;have hli:=Qa (Zcp (z:=(k.x++k.y)) hs.d0 (i:=i) (by omega)) hs.c.d;have hg0:((Int.gcd (lcd (k.x++k.y) k.d i) (D.den:Int):Nat):Int)≠0:=by have:=Int.gcd_ne_zero_right (a:=(lcd (k.x++k.y) k.d i)) (Md D); omega
  have hmu:=Uw (lcd (k.x++k.y) k.d i) (D.den:Int);refine go tt [.t (decide_eq_true (by omega)),.i i,.x hg,.c [] (S0 (a:=lcd (k.x++k.y) k.d i) (b:=(D.den:Int)) (by omega) (by omega)),.i i,.x hg,.c [] (Qhu (a:=lcd (k.x++k.y) k.d i) (b:=(D.den:Int)) (by omega) (by omega)),.c [] (Qdy (by omega) (Qa (Qj6 _ _ (Md D) hq2) (by decide)) hg0 (Zco _ _))] rfl (by simp [W9,hfl]; omega) ?_;exact rd (i+1) (by omega) h (by rw [es]; rfl)
 have e:lcd (k.x++k.y) k.d i=k.d:=by rw [show i=(k.x++k.y).length by omega]; exact Zcn hs.d0 hs.n.2.2.2
 rw [e];have hx:=Qqj (p:=rxs k.x k.d) (c:=k.d) ((Qwa (s:=100000) hs.c.x hs.c.d (by decide)).mono (by omega)) (by omega) (by rw [Lq]; omega);have hy:=Qqj (p:=rxs k.y k.d) (c:=k.d) ((Qwa (s:=100000) hs.c.y hs.c.d (by decide)).mono (by omega)) (by omega) (by rw [Lq]; omega);rw [Qjl hs.n.1 (by omega)] at hx;rw [Qjl hs.n.2.1 (by omega)] at hy;exact en tt [.f (decide_eq_false (by omega)),.c [] hx,.c [] (Ze5 (p:=k.x) (W8 hs.c.x (by omega)) (by omega)),.c [] hy,.c [] (Ze5 (p:=k.y) (W8 hs.c.y (by omega)) (by omega)),.c [] (Q39 (z:=k.d) (by omega))] rfl rfl trivial
theorem Qoy (k:Crv):Fx 1 k.d'=((1:Int):Rat) / (k.d':Rat):=by
 unfold Fx; rw [if_neg k.d'_ne,Ai]
theorem Qfy {x:List Int} {g d:Int} (hg:g≠0) (hd:d≠0) (hgd:g∣d) (tx:Ue x) (hx:∀ z∈x,g∣z):Pu (zp x) (((1:Int):Rat) / (d:Rat))=rxs (trim (x.map (· / g))) (d / g):=by
 have ht:Ue (x.map (· / g)):=D4 tx hg hx;rw [show trim (x.map (· / g))=x.map (· / g) from ht];obtain ⟨e,rfl⟩:=hgd;have he:e≠0:=λh=>hd (by rw [h,Vk])
 rw [Xx _ hg];have hgq:(g:Rat)≠0:=λh=>hg (by exact_mod_cast h)
 have heq:(e:Rat)≠0:=λh=>he (by exact_mod_cast h)
 unfold Pu;rw [Tq];have hval:∀ i,i<x.length->(zp x).getD i 0*(((1:Int):Rat) / ((g*e:Int):Rat))=(((x.map (· / g)).getD i 0:Int):Rat) / (e:Rat):=λi hi=>by
  rw [Qdp];have hz:=Qee hi;have hm:(x.map (· / g)).getD i 0=x.getD i 0 / g:=by simp [Qg,Qd hi]
  obtain ⟨w,hw⟩:=hx _ (Qc hz);rw [hm,hw,Xx _ hg,Xv,Xv];have:((1:Int):Rat)=1:=rfl;rw [this];grind
 have htab:Ij (λi=>(zp x).getD i 0*(((1:Int):Rat) / ((g*e:Int):Rat))) x.length=rxs (x.map (· / g)) e:=by
  apply Xt;intro i;by_cases hi:i<x.length
  ·rw [Qda (by simpa using hi)];simp only [Ij,Q7,X2 hi,Y6];rw [hval i hi]
  ·rw [Qp (by rw [Qde]; omega),Qp (by rw [Lq]; simp; omega)]
 rw [htab];rcases Qx x.length with h0 | h0
 ·have:=Qh h0; subst this; rfl
 ·have hl:(rxs (x.map (· / g)) e).length=x.length:=by rw [Lq,Q4]
  have:=Qe2 (l:=rxs (x.map (· / g)) e) (m:=x.length) (by omega) (λj y hj hy=>by rw [Qp (by omega)] at hy; cases hy) (λ_=>⟨_,Qda (z:=x.map (· / g)) (d:=e) (i:=x.length-1) (by rw [Q4]; omega),λh=>by
   have h3:(((x.map (· / g)).getD (x.length-1) 0:Int):Rat)=0:=by grind
   have h4:(x.map (· / g)).getD (x.length-1) 0=0:=by exact_mod_cast h3
   have:=Gq ht (by rw [Q4]; omega);rw [Q4] at this;exact this h4⟩)
  rw [this,Qn (by omega)]
theorem Q8b {k:Crv} (hk:Cs 100000 16 k):Qs 40000000 (Fx 1 k.d'):=by
 have h1:=Qn0 hk.d (by decide);rw [Qoy,Ai];exact Qs.divInt (by decide) (by omega) (by decide)
theorem Crv.g_dvd' (k:Crv) {z:Int} (h:z∈k.d'::(trim k.x++trim k.y)):k.g∣z:=Yh (k.g_dvd z h)
theorem Q8n (k:Crv):Pu (zp (trim k.x)) (Fx 1 k.d')=rxs k.norm.x k.norm.d:=by
 rw [Qoy];exact Qfy k.g_ne k.d'_ne (k.g_dvd' (by simp)) (G0 _) (λz hz=>k.g_dvd' (by simp [hz]))
theorem Q8o (k:Crv):Pu (zp (trim k.y)) (Fx 1 k.d')=rxs k.norm.y k.norm.d:=by
 rw [Qoy];exact Qfy k.g_ne k.d'_ne (k.g_dvd' (by simp)) (G0 _) (λz hz=>k.g_dvd' (by simp [hz]))
theorem Qz8 {k:Crv} (h:Cs 100000 16 k):Rs k.norm:=⟨k.nml,h.norm (by decide)⟩
theorem Zbi {k:Crv} (hk:Cs 100000 16 k):Ua Tryz.prog 199 [.agg (cl4 k)] [.agg (rcl (Crv.norm k))]:=by
 have hlx:=hk.lx;have hly:=hk.ly;have hkd:=hk.d;have hrq:=Q8b hk;have hdi:Uj k.d'<=100000:=Qn0 hk.d (by decide);have hx:=Eg (p:=zp (trim k.x)) (c:=Fx 1 k.d') (Ig (W8 (Rp hk.x) (by omega)) (by omega)) hrq (by rw [Tq]; have:=Ha k.x; omega);have hy:=Eg (p:=zp (trim k.y)) (c:=Fx 1 k.d') (Ig (W8 (Rp hk.y) (by omega)) (by omega)) hrq (by rw [Tq]; have:=Ha k.y; omega);rw [Q8n] at hx;rw [Q8o] at hy;have c1:=Cd (n:=1) (by decide);have cm:=O3 (a:=1) (b:=k.d') (by decide) (by omega);by_cases h0:k.d=0
 ·have e:k.d'=1:=by unfold Crv.d'; rw [if_pos h0]
  rw [e] at hx hy cm;exact w tt Tryz.func199 rfl [.c [] (Qdx (z:=k.d) (by omega)),.c [] P8,.t (decide_eq_true h0),.c [] c1,.c [] c1,.c [] cm,.c [] (Lb (p:=k.x) (W8 hk.x (by omega)) (by omega)),.c [] hx,.c [] (Lb (p:=k.y) (W8 hk.y (by omega)) (by omega)),.c [] hy,.c [] (Qkp (Qz8 hk))] rfl rfl trivial
 ·have e:k.d'=k.d:=by unfold Crv.d'; rw [if_neg h0]
  rw [e] at hx hy cm;exact w tt Tryz.func199 rfl [.c [] (Qdx (z:=k.d) (by omega)),.c [] P8,.f (decide_eq_false h0),.c [] c1,.c [] cm,.c [] (Lb (p:=k.x) (W8 hk.x (by omega)) (by omega)),.c [] hx,.c [] (Lb (p:=k.y) (W8 hk.y (by omega)) (by omega)),.c [] hy,.c [] (Qkp (Qz8 hk))] rfl rfl trivial
theorem Q4u {k:Crv} {id:Int} (hk:Cs 100000 16 k):Ua Tryz.prog 126 [.agg (cl4 k++[.int .i64 id])] [.agg (D6 ⟨Crv.norm k,id⟩)] :=
 w tt Tryz.func126 rfl [.c [] (Zbi hk)] rfl rfl trivial
theorem Iv {k:Crv} (hk:Rs k):Ua Tryz.prog 72 [.agg (rcl k)] [.one (rp (zp k.x)),.one (rp (zp k.y)),.one (rp (zp [k.d]))]:=by
 have hlx:=hk.c.lx;have hly:=hk.c.ly;have hkd:=hk.c.d;have hx:=Lb (p:=k.x) (W8 hk.c.x (by omega)) (by omega);have hy:=Lb (p:=k.y) (W8 hk.c.y (by omega)) (by omega);rw [show trim k.x=k.x from hk.n.1] at hx;rw [show trim k.y=k.y from hk.n.2.1] at hy;exact w tt Tryz.func72 rfl [.c [] (Qdx (z:=k.d) (by omega)),.c [] (Cd (n:=1) (by decide)),.c [] (Pw (n:=k.d)),.c [] hx,.c [] hy] rfl rfl trivial
theorem Qvt {p:List Int} {d:Int} (tp:Ue p) (hd:d≠0):Ff p [d]=Ut p d:=by
 refine I2 (Gi _ _) (Us _ _) λm=>?_
 unfold Ut;rw [Rh];unfold Ff;by_cases h0:p.length=0
 ·rw [if_pos (.inl h0),if_neg (by omega)]; rfl
 ·rw [if_neg (by simp; exact λh=>h0 (by rw [h]; rfl)),Db];show (M5 p [d] (List.replicate (p.length+1-1) 0) p.length).getD m 0=_;have key:∀ i,i<=p.length->(M5 p [d] (List.replicate (p.length+1-1) 0) i).getD m 0=if m<i then p.getD m 0*d else 0:=by
   intro i
   induction i with
   | zero=>intro _; simp only [M5]; rw [Ho,if_neg (by omega)]
   |
    succ i ih =>
    intro hi;simp only [M5];rw [Qeq _ _ _ _ _ _ (by rw [M6,X9]; show i+1<=_; omega),ih (by omega)];show (if i<=m/\m<i+1 then (if m<i then p.getD m 0*d else 0)+p.getD i 0*[d].getD (m-i) 0 else _)=_;by_cases e:m=i
    ·subst e;rw [if_pos ⟨Qk _,by omega⟩,if_neg (by omega),if_pos (by omega),Ye];show 0+p.getD m 0*d=_;omega
    ·rw [if_neg (by omega)];by_cases h1:m<i
     ·rw [if_pos h1,if_pos (by omega)]
     ·rw [if_neg h1,if_neg (by omega)]
  rw [key _ (Qk _)]
theorem Zjf {s:Nat} {d:Int} (h:Uj d<=s):Bd s [d]:=λz hz=>by simp at hz; subst hz; exact h
theorem Qa6 {p:List Int} {d:Int} (tp:Ue p) (hd:d≠0) (hp:Bd 9000000 p) (hs:Uj d<=9000000) (hl:p.length<=1000):Ua Tryz.prog 141 [.one (rp (zp p)),.one (rp (zp [d]))] [.one (rp (zp (Ut p d)))]:=by
 have h:=Qm8 (p:=p) (q:=[d]) (by omega) (by show 1<=1000000; decide) hp (Zjf hs) (by decide);rwa [Qvt tp hd] at h
theorem Rs.dn {k:Crv} (h:Rs k):k.d≠0:=by have:=h.d0; omega
theorem Qm7 {p q:List Int} (hp:Bd 19000000 p) (hq:Bd 19000000 q) (hlp:p.length<=1000000) (hlq:q.length<=1000000):Ua Tryz.prog 144 [.one (rp (zp p)),.one (rp (zp q))] [.one (rp (zp (To p q)))]:=by
 have h:=Zgv (Ig hp (by decide)) (Ig hq (by decide)) (by rw [Tq]; exact hlp) (by rw [Tq]; exact hlq);rwa [Qz9] at h
theorem Q4y {a b:Crv} (ha:Rs a) (hb:Rs b):Ua Tryz.prog 74 [.agg (rcl a),.agg (rcl b)] [.one (rp (zp (Gf a b)))] :=
 w tt Tryz.func74 rfl [.c [] (Iv ha),.c [] (Iv hb),.c [] (Qa6 (p:=b.x) (d:=a.d) hb.n.1 ha.dn (W8 hb.c.x (by decide)) (Qa ha.c.d (by decide)) (by have:=hb.c.lx; omega)),.c [] (Qa6 (p:=a.x) (d:=b.d) ha.n.1 hb.dn (W8 ha.c.x (by decide)) (Qa hb.c.d (by decide)) (by have:=ha.c.lx; omega)),.c [] (Qm7 (p:=Ut b.x a.d) (q:=Ut a.x b.d) (W8 (Ur hb.c.x ha.c.d) (by decide)) (W8 (Ur ha.c.x hb.c.d) (by decide)) (by have:=Ul b.x a.d; have:=hb.c.lx; omega) (by have:=Ul a.x b.d; have:=ha.c.lx; omega))] rfl rfl trivial
theorem Q4t {a b:Crv} (ha:Rs a) (hb:Rs b):Ua Tryz.prog 75 [.agg (rcl a),.agg (rcl b)] [.one (rp (zp (Ge a b)))] :=
 w tt Tryz.func75 rfl [.c [] (Iv ha),.c [] (Iv hb),.c [] (Qa6 (p:=b.y) (d:=a.d) hb.n.2.1 ha.dn (W8 hb.c.y (by decide)) (Qa ha.c.d (by decide)) (by have:=hb.c.ly; omega)),.c [] (Qa6 (p:=a.y) (d:=b.d) ha.n.2.1 hb.dn (W8 ha.c.y (by decide)) (Qa hb.c.d (by decide)) (by have:=ha.c.ly; omega)),.c [] (Qm7 (p:=Ut b.y a.d) (q:=Ut a.y b.d) (W8 (Ur hb.c.y ha.c.d) (by decide)) (W8 (Ur ha.c.y hb.c.d) (by decide)) (by have:=Ul b.y a.d; have:=hb.c.ly; omega) (by have:=Ul a.y b.d; have:=ha.c.ly; omega))] rfl rfl trivial
theorem Ql9 {a b:Crv} (ha:Rs a) (hb:Rs b):Bd 200001 (Gf a b)/\(Gf a b).length<=16:=by
 refine ⟨W8 (Pg (Ur hb.c.x ha.c.d) (Ur ha.c.x hb.c.d)) (by omega),Qa (Ry _ _) ?_⟩;have:=Ul b.x a.d; have:=Ul a.x b.d; have:=ha.c.lx; have:=hb.c.lx; omega
theorem Qlz {a b:Crv} (ha:Rs a) (hb:Rs b):Bd 200001 (Ge a b)/\(Ge a b).length<=16:=by
 refine ⟨W8 (Pg (Ur hb.c.y ha.c.d) (Ur ha.c.y hb.c.d)) (by omega),Qa (Ry _ _) ?_⟩;have:=Ul b.y a.d; have:=Ul a.y b.d; have:=ha.c.ly; have:=hb.c.ly; omega
theorem Qxd {s:Nat} {p:List Int} (h:Bd s p) (hl:p.length<=16):Bd (2*s+5) (Ff p p):=W8 (Bi (u:=5) h h (by omega)) (by omega)
theorem Qn4 {p:List Int} (hl:p.length<=16):(Ff p p).length<=31:=Qa (Pz p p) (by omega)
end Orr
namespace Orr
open Go
structure RawInt where
 b:Bool
 l:List Nat
structure RawPt where
 x:List RawInt
 y:List RawInt
 d:RawInt
 id:Int
abbrev Qe0 (z:RawInt):List LV:=[.bool z.b,Ziu z.l]
structure RawInt.Ok (z:RawInt):Prop where
 u:∀ u∈z.l,u<4294967296
structure RawPt.Ok (z:RawPt):Prop where
 x:∀ a∈z.x,a.Ok
 y:∀ a∈z.y,a.Ok
 d:z.d.Ok
 id:-9223372036854775808<=z.id/\z.id<=9223372036854775807
def RawInt.cut (z:RawInt):RawInt:=⟨z.b,z.l.take 1⟩
def H8 (most:Int) (z:RawInt):Int:=match z.l with
 | []=>0
 | u::_=>if z.b=true then -((u:Int) % (most+1)) else (u:Int) % (most+1)
theorem Qbg {most:Int} (h:0<=most) (z:RawInt):-most<=H8 most z/\H8 most z<=most:=by
 unfold H8
 split
 ·omega
 ·rename_i u _ _;have h1:=Vz (u:Int) (b:=most+1) (by omega);have h2:=Yz (u:Int) (b:=most+1) (by omega)
  split <;> omega
def Gn (most:Int) (l:List RawInt):List Int:=(l.take 3).map (H8 most)
def Qck (most:Int) (x y:List RawInt) (d:RawInt):Crv:=⟨Gn most x,Gn most y,H8 3 d⟩
def Qaa (most:Int) (z:RawPt):Pt:=⟨Qck most z.x z.y z.d,z.id % 1000⟩
theorem Qfp (most:Int) (l:List RawInt):(Gn most l).length<=3:=by unfold Gn; rw [List.length_map,List.length_take]; omega
theorem Qn7 {most:Int} {l:List RawInt} {i:Nat} {z:RawInt} (hi:i<3) (h:l[i]? = some z):Gn most (l.take (i+1))=Gn most (l.take i)++[H8 most z]:=by
 unfold Gn;rw [K7,K7,Vs (by omega),Vs (by omega),Xk,h];simp
theorem Qfo (most:Int) {l:List RawInt} {i:Nat} (h:l.length<=i\/3<=i):Gn most (l.take i)=Gn most l:=by
 unfold Gn;rw [K7];rcases Nat.le_total 3 i with h3 | h3
 ·rw [Zs h3]
 ·rcases h with h | h
  ·rw [Vs h3,Qn (l:=l) (i:=i) (by omega),Qn (l:=l) (i:=3) (by omega)]
  ·rw [Vs h3,show i=3 by omega]
theorem Qfq {most:Int} {l:List RawInt} {z:Int} (hm:0<=most) (h:z∈Gn most l):-most<=z/\z<=most:=by
 obtain ⟨a,_,rfl⟩:=Zk.1 h;exact Qbg hm a
theorem Qku {most:Int} (hm:0<=most/\most<=999) (x y:List RawInt) (d:RawInt):Cs 10 3 (Qck most x y d):=by
 have key:∀ z:Int,-999<=z/\z<=999->Uj z<=10:=λz h=>Rl.2 (by omega)
 refine ⟨λz hz=>?_,λz hz=>?_,?_,Qfp _ _,Qfp _ _⟩
 ·have:=Qfq hm.1 hz; exact key _ (by omega)
 ·have:=Qfq hm.1 hz; exact key _ (by omega)
 ·have:=Qbg (most:=3) (by decide) d;show Uj (H8 3 d)<=10;exact key _ (by omega)
def Sw (n:Nat):List Pt->List Pt->List Pt
 | out,[]=>out
 | out,p::l=>if out.length<n then (if out.any (λx=>decide (x.id=p.id))=true then Sw n out l else Sw n (out++[p]) l) else out
theorem Ap {n:Nat}:∀ (l out:List Pt) (p:Pt),(Sw n out l).length<n->(Sw n out l).any (λx=>decide (x.id=p.id))=true->Sw n out (l++[p])=Sw n out l
 |
  [],out,p,h,ha=>by
  simp only [Sw] at h ha;show Sw n out [p]=out;simp only [Sw];rw [if_pos h,if_pos ha]
 |
  x::l,out,p,h,ha=>by
  show Sw n out (x::(l++[p]))=Sw n out (x::l);simp only [Sw] at h ha ⊢
  split
  ·rename_i h0;rw [if_pos h0] at h ha
   split
   ·rename_i h1;rw [if_pos h1] at h ha;exact Ap l out p h ha
   ·rename_i h1;rw [if_neg h1] at h ha;exact Ap l _ p h ha
  ·rfl
theorem Lv {n:Nat}:∀ (l out:List Pt) (p:Pt),(Sw n out l).length<n->(Sw n out l).any (λx=>decide (x.id=p.id))=false->Sw n out (l++[p])=Sw n out l++[p]
 |
  [],out,p,h,ha=>by
  simp only [Sw] at h ha;show Sw n out [p]=out++[p];simp only [Sw];rw [if_pos h,if_neg (by rw [ha]; simp)]
 |
  x::l,out,p,h,ha=>by
  show Sw n out (x::(l++[p]))=Sw n out (x::l)++[p];simp only [Sw] at h ha ⊢
  split
  ·rename_i h0;rw [if_pos h0] at h ha
   split
   ·rename_i h1;rw [if_pos h1] at h ha;exact Lv l out p h ha
   ·rename_i h1;rw [if_neg h1] at h ha;exact Lv l _ p h ha
  ·rename_i h0;rw [if_neg h0] at h;omega
theorem Qeb {n:Nat}:∀ (l m out:List Pt),n<=(Sw n out l).length->Sw n out (l++m)=Sw n out l
 |
  [],m,out,h=>by
  simp only [Sw] at h;show Sw n out m=out
  match m with
  | []=>rfl
  | p::m=>simp only [Sw]; rw [if_neg (by omega)]
 |
  x::l,m,out,h=>by
  show Sw n out (x::(l++m))=Sw n out (x::l);simp only [Sw] at h ⊢
  split
  ·rename_i h0;rw [if_pos h0] at h
   split
   ·rename_i h1;rw [if_pos h1] at h;exact Qeb l m out h
   ·rename_i h1;rw [if_neg h1] at h;exact Qeb l m _ h
  ·rfl
theorem I3 {n:Nat}:∀ (l out:List Pt),out.length<=n->(Sw n out l).length<=n
 | [],out,h=>h
 |
  x::l,out,h=>by
  simp only [Sw]
  split
  ·split
   ·exact I3 l out h
   ·exact I3 l _ (by rw [Zc]; show _+1<=_; omega)
  ·exact h
theorem Qcd {n:Nat}:∀ (l out:List Pt) {p:Pt},p∈Sw n out l->p∈out\/p∈l
 | [],out,p,h=>.inl h
 |
  x::l,out,p,h=>by
  simp only [Sw] at h
  split at h
  ·split at h
   ·rcases Qcd l out h with h | h
    ·exact .inl h
    ·exact .inr (Qj _ h)
   ·rcases Qcd l _ h with h | h
    ·rcases Qz.1 h with h | h
     ·exact .inl h
     ·exact .inr (by rw [Qt.1 h]; exact Qr ..)
    ·exact .inr (Qj _ h)
  ·exact .inl h
def Qex (n:Nat) (most:Int) (zs:List RawPt):List Pt:=Sw n [] (zs.map (Qaa most))
def Pt.nrm (p:Pt):Pt:=⟨p.c.norm,p.id⟩
end Orr
namespace Orr
def Bh (l:List Pt):Prop:=l.Pairwise λa b=>a.id<b.id
theorem Zce (id:Int):has [] id=false:=rfl
theorem Qrc (p:Pt) (l:List Pt) (id:Int):has (p::l) id=if p.id<id then has l id else decide (p.id=id):=by
 by_cases h:p.id<id
 ·rw [if_pos h]; unfold has; simp only [pos]; rw [if_pos h]; simp
 ·rw [if_neg h]; unfold has; simp only [pos]; rw [if_neg h]; simp
theorem Q73 (p:Pt) (l:List Pt) (q:Pt):put (p::l) q=if p.id<q.id then p::put l q else q::p::l:=by
 unfold put;simp only [pos]
 split <;> simp
theorem Qny:∀ {l:List Pt} {id:Int},Bh l->(has l id=true↔∃ p∈l,p.id=id)
 | [],id,_=>by simp [Zce]
 |
  p::l,id,h=>by
  have h1:=Xa.1 h;rw [Qrc]
  split
  ·rename_i hlt;rw [Qny h1.2];constructor
   ·rintro ⟨x,hx,e⟩; exact ⟨x,Qj _ hx,e⟩
   ·rintro ⟨x,hx,e⟩
    rcases Qo.1 hx with rfl | hx
    ·omega
    ·exact ⟨x,hx,e⟩
  ·rename_i hge;rw [decide_eq_true_iff];constructor
   ·intro e; exact ⟨p,Qr ..,e⟩
   ·rintro ⟨x,hx,e⟩
    rcases Qo.1 hx with rfl | hx
    ·exact e
    ·have:=h1.1 x hx; omega
theorem Qji:∀ {l:List Pt} {q:Pt},Bh l->has l q.id=false->Bh (put l q)
 | [],q,_,_=>by simp [put,pos,Bh]
 |
  p::l,q,h,hn=>by
  have h1:=Xa.1 h;rw [Qrc] at hn;rw [Q73]
  split
  ·rename_i hlt;rw [if_pos hlt] at hn;refine Xa.2 ⟨λx hx=>?_,Qji h1.2 hn⟩;rcases Qzy hx with rfl | hx
   ·exact hlt
   ·exact h1.1 x hx
  ·rename_i hge;rw [if_neg hge,decide_eq_false_iff_not] at hn;refine Xa.2 ⟨λx hx=>?_,h⟩;rcases Qo.1 hx with rfl | hx
   ·omega
   ·have:=h1.1 x hx; omega
theorem Qy9 {l:List Pt} {q p:Pt} (h:p=q\/p∈l):p∈put l q:=by
 unfold put;rcases h with rfl | h
 ·simp
 ·rw [<-Zb (pos l q.id) l] at h;simp only [Qz,Qo] at h ⊢;rcases h with h | h
  ·exact .inl h
  ·exact .inr (.inr h)
theorem Q72 {l:List Pt} {q:Pt} (h:l.length<6):On l q=if has l q.id=true then 6 else 0:=by
 unfold On
 split
 ·rfl
 ·rw [if_neg (by omega)]
theorem Qlu:∀ (qs acc:List Pt),Bh acc->acc.length+qs.length<=6 ->
 ((Tn acc qs).2=0/\Bh (Tn acc qs).1/\(Tn acc qs).1.length=acc.length+qs.length/\qs.Pairwise (λa b=>a.id≠b.id)/\∀ q∈qs,∀ p∈acc,p.id≠q.id) \/
 ((Tn acc qs).2=6/\¬(qs.Pairwise (λa b=>a.id≠b.id)/\∀ q∈qs,∀ p∈acc,p.id≠q.id))
 | [],acc,hs,_=>.inl ⟨rfl,hs,rfl,List.Pairwise.nil,λ_ h=>absurd h (by simp)⟩
 |
  q::qs,acc,hs,hl=>by
  simp only [Q9] at hl;have he:=Q72 (l:=acc) (q:=q) (by omega);simp only [Tn];cases hh:has acc q.id with
  |
   true =>
   rw [hh,if_pos rfl] at he;rw [he,if_neg (by decide)];obtain ⟨p,hp,e⟩:=(Qny hs).1 hh;exact .inr ⟨rfl,λh=>h.2 q (Qr ..) p hp e⟩
  |
   false =>
   rw [hh,if_neg (by decide)] at he;rw [he,if_pos rfl];have hno:∀ p∈acc,p.id≠q.id:=λp hp e=>by
    have:=(Qny hs).2 ⟨p,hp,e⟩;rw [hh] at this; cases this
   have hpl:=Qzx acc q;rcases Qlu qs (put acc q) (Qji hs hh) (by omega) with ⟨h1,h2,h3,h4,h5⟩ | ⟨h1,h2⟩
   ·refine .inl ⟨h1,h2,by simp only [Q9]; omega,Xa.2 ⟨λx hx=>h5 x hx q (Qy9 (.inl rfl)),h4⟩,λx hx p hp=>?_⟩;rcases Qo.1 hx with rfl | hx
    ·exact hno p hp
    ·exact h5 x hx p (Qy9 (.inr hp))
   ·refine .inr ⟨h1,λh=>h2 ⟨(Xa.1 h.1).2,λx hx p hp=>?_⟩⟩;rcases Qzy hp with rfl | hp
    ·exact (Xa.1 h.1).1 x hx
    ·exact h.2 x (Qj _ hx) p hp
theorem Q11 {qs:List Pt} (hl:qs.length<=6) :
 ((Tn [] qs).2=0/\Bh (Tn [] qs).1/\(Tn [] qs).1.length=qs.length/\qs.Pairwise (λa b=>a.id≠b.id))\/((Tn [] qs).2=6/\¬qs.Pairwise (λa b=>a.id≠b.id)):=by
 rcases Qlu qs [] List.Pairwise.nil (by simpa using hl) with ⟨h1,h2,h3,h4,_⟩ | ⟨h1,h2⟩
 ·exact .inl ⟨h1,h2,by simpa using h3,h4⟩
 ·exact .inr ⟨h1,λh=>h2 ⟨h,λ_ _ _ hp=>absurd hp (by simp)⟩⟩
end Orr
namespace Orq
open Orr Go
theorem Zki {a b c:Tm} (hb:Cut (Uq b)) (hc:Cut (Uq c)) (h:Pn a b) (h':Pn b c):Pn a c:=by
 obtain ⟨q,q1,q2⟩:=h;obtain ⟨r,r1,r2⟩:=h';exact ⟨q,q1,hc.mono' (hb.lt q2 r1) (by omega)⟩
theorem Qbf {a b:Tm} (ha:Cut (Uq a)) (hb:Cut (Uq b)) (h:¬Pn b a):Leq a (Uq b):=λq hq=>by
 rcases ha.val q with e | e | e
 ·exact absurd ⟨q,hq,e⟩ h
 ·obtain ⟨r,r1,r2⟩:=hb.dn q hq;exact absurd ⟨r,r2,ha.mono' r1 (by omega)⟩ h
 ·exact e
theorem Zkf {a b c:Tm} (ha:Cut (Uq a)) (hb:Cut (Uq b)) (h:¬Pn b a) (h':Pn b c):Pn a c:=by
 obtain ⟨q,q1,q2⟩:=h';exact ⟨q,Qbf ha hb h q q1,q2⟩
theorem Qy2 {a b c:Tm} (_:Cut (Uq a)) (hb:Cut (Uq b)) (hc:Cut (Uq c)) (h:Pn a b) (h':¬Pn c b):Pn a c:=by
 obtain ⟨q,q1,q2⟩:=h;refine ⟨q,q1,?_⟩;have hl:=Qbf hb hc h';rcases hc.val q with e | e | e
 ·exact e
 ·obtain ⟨r,r1,r2⟩:=hb.up q q2;have h1:=hc.mono q r r1 (by omega);have:=hl r h1;omega
 ·have:=hl q e; omega
theorem Qoa {a b:Tm} (ha:Cut (Uq a)) (hb:Cut (Uq b)) (h:Pn a b):¬Pn b a:=λh'=>Oc ha hb h h'
theorem Qr4 {p:List Int} {a b:Tm} {o:Option Tm} (ha:Cut (Uq a)) (hb:Cut (Uq b)) (hab:¬Pn b a) (h:Tk p a o) (ho:∀ t,o=some t->Pn b t):Tk p b o:=by
 have hl:=Qbf ha hb hab;cases o with
 |
  none =>
  rcases h with h | ⟨s,s0,h⟩
  ·exact .inl h
  ·exact .inr ⟨s,s0,λc hc hbc=>h c hc λq hq=>hl q (hbc q hq)⟩
 |
  some t =>
  obtain ⟨h1,h2,_,s,s0,h4,h5⟩:=h;exact ⟨h1,h2,ho t rfl,s,s0,λc hc hbc hm=>h4 c hc (λq hq=>hl q (hbc q hq)) hm,h5⟩
theorem Qed {p:List Int} {a b:Tm} {o:Option Tm} (hp:Dp p) (ha:Va a) (hb:Va b) (hab:¬Pn b a) (h:Tk p a o) (ho:∀ t,o=some t->Pn b t):Ms (Hq b) p=Ms (Hq a) p:=by
 by_cases h0:p.length=0
 ·obtain rfl:=Qh h0; rfl
 obtain ⟨ra,_⟩:=Qnt ha hp h0;obtain ⟨rb,_⟩:=Qnt hb hp h0;have hl:=Qbf ha.cut hb.cut hab;cases o with
 |
  none =>
  rcases h with h | ⟨s,s0,h⟩
  ·exact absurd (by rw [h]; rfl) h0
  ·exact (Qc8 rb (h _ hb.cut hl)).trans (Qc8 ra (h _ ha.cut λ_ h=>h)).symm
 |
  some t =>
  obtain ⟨h1,h2,h3,s,s0,h4,h5⟩:=h;exact (Qc8 rb (h4 _ hb.cut hl (ho t rfl))).trans (Qc8 ra (h4 _ ha.cut (λ_ h=>h) h3)).symm
theorem Qmo (t q:Rat):Uq (tq t) q=Fb t q:=Ld (t:=tq t) rfl q
theorem Iw {a:Tm} {t:Rat} (ha:Cut (Uq a)):0<Uq a t↔Pn (tq t) a:=by
 constructor
 ·intro h;have h1:Uq a t=1:=by rcases ha.val t with e | e | e <;> omega
  obtain ⟨r,r1,r2⟩:=ha.up t h1;exact ⟨r,by rw [Qmo]; rcases Rw t r with ⟨e,e'⟩ | ⟨e,e'⟩ | ⟨e,e'⟩ <;> first | exact e | (exfalso; grind),r2⟩
 ·rintro ⟨q,q1,q2⟩
  rw [Qmo] at q1;have:t<q:=by rcases Rw t q with ⟨e,e'⟩ | ⟨e,e'⟩ | ⟨e,e'⟩ <;> first | exact e' | omega
  have:=ha.mono' this (by omega);omega
open Classical in
noncomputable def mu (T:List Tm) (a:Tm):Nat:=(T.filter λt=>decide (Pn a t)).length
theorem Qk5 {α:Type} {p q:α->Bool} (h:∀ x,p x=true->q x=true):∀ l:List α,(l.filter p).length<=(l.filter q).length
 | []=>Qk _
 |
  x::l=>by
  have ih:=Qk5 h l;by_cases hp:p x=true
  ·rw [Jl hp,Jl (h x hp)]; simp; exact ih
  ·rw [Yj hp];by_cases hq:q x=true
   ·rw [Jl hq]; simp; omega
   ·rw [Yj hq]; exact ih
theorem Qk6 {α:Type} {p q:α->Bool} (h:∀ x,p x=true->q x=true) {y:α} (hp:p y=false) (hq:q y=true):∀ {l:List α},y∈l->(l.filter p).length<(l.filter q).length
 | [],hy=>by cases hy
 |
  x::l,hy=>by
  rcases Qo.1 hy with rfl | hy
  ·rw [Yj (by simp [hp]),Jl hq];have:=Qk5 h l;simp; omega
  ·have ih:=Qk6 h hp hq hy;by_cases hp:p x=true
   ·rw [Jl hp,Jl (h x hp)]; simp; exact ih
   ·rw [Yj hp];by_cases hq:q x=true
    ·rw [Jl hq]; simp; omega
    ·rw [Yj hq]; exact ih
open Classical in
theorem Zfo {T:List Tm} {a b:Tm} (ha:Cut (Uq a)) (hb:Cut (Uq b)) (hT:∀ t∈T,Cut (Uq t)) (h:Pn a b) (hm:b∈T):mu T b<mu T a:=by
 have key:∀ l:List Tm,(∀ t∈l,Cut (Uq t))->l.filter (λt=>decide (Pn b t))=l.filter (λt=>decide (Cut (Uq t)/\Pn b t)):=λl hl=>List.filter_congr λx hx=>by simp [hl x hx]
 have key2:∀ l:List Tm,(∀ t∈l,Cut (Uq t))->l.filter (λt=>decide (Pn a t))=l.filter (λt=>decide (Cut (Uq t)/\Pn a t)):=λl hl=>List.filter_congr λx hx=>by simp [hl x hx]
 unfold mu;rw [key T hT,key2 T hT];refine Qk6 (λx hx=>?_) (y:=b) ?_ ?_ hm
 ·have hx:=of_decide_eq_true hx;exact decide_eq_true ⟨hx.1,Zki hb hx.1 h hx.2⟩
 ·exact decide_eq_false λhx=>Oc hb hb hx.2 hx.2
 ·exact decide_eq_true ⟨hb,h⟩
def tms (p:List Int):List Tm:=(Ea p).getD []
structure KInv (c:Cr):Prop where
 ok:CrOk c
 k:∀ w∈c.l,w.known=true->Tk w.c.p c.now w.fails/\∀ t,w.fails=some t->t∈tms w.c.p
theorem Qvi {p:List Int} (h:Cp p) {a:Tm} (ha:Va a):∃ r,Qfs p a=some r/\Tk p a r/\∀ t,r=some t->t∈tms p:=by
 obtain ⟨l,l1,_,_,l3⟩:=Ox h;obtain ⟨r,r1,r2,r3⟩:=l3 a ha;refine ⟨r,?_,r2,λt ht=>by unfold tms; rw [l1]; exact r3 t ht⟩;unfold Qfs; rw [l1]; exact r1
theorem Zit {p:List Int} (h:Cp p):∀ t∈tms p,Va t:=by
 obtain ⟨l,l1,_,l2,_⟩:=Ox h;unfold tms; rw [l1]; exact l2
theorem Qn8 {now:Tm} (hn:Va now):∀ {l:List Wt},(∀ w∈l,WtOk w)->(∀ w∈l,w.known=true->Tk w.c.p now w.fails/\∀ t,w.fails=some t->t∈tms w.c.p) ->
 ∃ ws,Nq now l=some ws/\ws.map (·.c)=l.map (·.c)/\∀ w∈ws,w.known=true/\Tk w.c.p now w.fails/\∀ t,w.fails=some t->t∈tms w.c.p
 | [],_,_=>⟨[],rfl,rfl,λw hw=>by cases hw⟩
 |
  w::l,h,h'=>by
  obtain ⟨ws,w1,w2,w3⟩:=Qn8 hn (λv hv=>h v (Qj _ hv)) (λv hv=>h' v (Qj _ hv));by_cases hk:w.known=true
  ·refine ⟨w::ws,by simp only [Nq,hk,if_true,w1]; rfl,by simp [w2],λv hv=>?_⟩;rcases Qo.1 hv with rfl | hv
   ·exact ⟨hk,h' v (by simp) hk⟩
   ·exact w3 v hv
  ·obtain ⟨r,r1,r2,r3⟩:=Qvi (h w (by simp)).p hn;refine ⟨⟨w.c,true,r⟩::ws,by simp only [Nq]; rw [if_neg hk,r1,w1]; rfl,by simp [w2],λv hv=>?_⟩;rcases Qo.1 hv with rfl | hv
   ·exact ⟨rfl,r2,r3⟩
   ·exact w3 v hv
theorem Qyy {at_:Tm} (ha:Va at_) {x:Ct}:∀ {l:List Wt},(∀ w∈l,WtOk w)->∃ w,Do l x at_=some w/\w.c=x
 | [],_=>⟨fresh x,rfl,rfl⟩
 |
  v::l,h=>by
  obtain ⟨w,w1,w2⟩:=Qyy ha (x:=x) λv hv=>h v (Qj _ hv)
  simp only [Do]
  split
  ·cases hf:v.fails with
   | none=>exact ⟨_,rfl,rfl⟩
   |
    some t =>
    obtain ⟨c,c1,_⟩:=O5 ((h v (by simp)).f t hf) ha;dsimp only;rw [c1];show ∃ w,(if 0<c then some ⟨x,true,some t⟩ else Do l x at_)=some w/\w.c=x
    split
    ·exact ⟨_,rfl,rfl⟩
    ·exact ⟨w,w1,w2⟩
  ·exact ⟨w,w1,w2⟩
theorem Q6v {at_:Tm} (ha:Va at_) {ol:List Wt} (ho:∀ w∈ol,WtOk w):∀ l:List Ct,∃ ws,Qci ol at_ l=some ws/\ws.map (·.c)=l
 | []=>⟨[],rfl,rfl⟩
 |
  x::l=>by
  obtain ⟨w,w1,w2⟩:=Qyy ha (x:=x) ho;obtain ⟨ws,s1,s2⟩:=Q6v ha ho l;exact ⟨w::ws,by simp only [Qci,w1,s1]; rfl,by simp [w2,s2]⟩
theorem Q1r {out:List Ct} {c x:Ct}:x∈Qbc out c↔x=c\/x∈out:=by
 have h:x∈out↔x∈out.take (Oh out c out.length)\/x∈out.drop (Oh out c out.length):=by
  rw [<-Qz,Zb]
 simp only [Qbc,Qz,Qo,h];constructor
 ·rintro (h | h | h)
  ·exact .inr (.inl h)
  ·exact .inl h
  ·exact .inr (.inr h)
 ·rintro (h | h | h)
  ·exact .inr (.inl h)
  ·exact .inl h
  ·exact .inr (.inr h)
theorem Qla:∀ (l acc:List Ct) {y:Ct},y∈l.foldl Qbc acc↔y∈l\/y∈acc
 | [],acc,y=>by simp
 |
  c::l,acc,y=>by
  simp only [Xi];rw [Qla l,Q1r,Qo];constructor
  ·rintro (h | h | h)
   ·exact .inl (.inr h)
   ·exact .inl (.inl h)
   ·exact .inr h
  ·rintro ((h | h) | h)
   ·exact .inr (.inl h)
   ·exact .inl h
   ·exact .inr (.inr h)
theorem C9 {l:List Ct} {x:Ct}:x∈Gv l↔x∈l:=by unfold Gv; rw [Qla]; simp
theorem Qvk {ws:List Wt} (hw:∀ w∈ws,WtOk w):∃ o,Qi6 ws=some o/\match o with
 | none=>∀ w∈ws,w.fails=none
 | some a=>Va a/\(∃ w∈ws,w.fails=some a)/\∀ w∈ws,∀ t,w.fails=some t->¬Pn t a:=by
 have hv:∀ t∈ws.filterMap (·.fails),Va t:=λt ht=>by
  obtain ⟨w,w1,w2⟩:=Jk.1 ht;exact (hw w w1).f t w2
 unfold Qi6;cases hf:ws.filterMap (·.fails) with
 |
  nil =>
  refine ⟨none,rfl,λw h=>?_⟩;cases e:w.fails with
  | none=>rfl
  |
   some t =>
   have:t∈ws.filterMap (·.fails):=Jk.2 ⟨w,h,e⟩;rw [hf] at this; cases this
 |
  cons b l =>
  rw [hf] at hv;obtain ⟨m,m1,m2,m3⟩:=Qem l b hv;refine ⟨some m,by show (Au b l).map some=_; rw [m1]; rfl,hv m m2,?_,λw h t e=>?_⟩
  ·rw [<-hf] at m2;exact Jk.1 m2
  ·exact m3 t (by rw [<-hf]; exact Jk.2 ⟨w,h,e⟩)
theorem Zgy {t a:Tm} (ht:Va t) (ha:Va a) {c:Int} (h:Qf7 t a=some c) (h0:0<c):Pn a t:=by
 obtain ⟨c',c1,c2⟩:=O5 ht ha;rw [h] at c1; injection c1 with c1; subst c1;rcases c2 with ⟨e,_⟩ | ⟨e,_⟩ | ⟨_,e⟩
 ·omega
 ·omega
 ·exact e
theorem Zcm {ol ws:List Wt} {now a:Tm} {l:List Ct} (hn:Va now) (ha:Va a) (hna:¬Pn a now) (ho:∀ w∈ol,WtOk w) (hk:∀ w∈ol,w.known=true->Tk w.c.p now w.fails/\∀ t,w.fails=some t->t∈tms w.c.p) (h:Qci ol a l=some ws) :
 ∀ w∈ws,w.known=true->Tk w.c.p a w.fails/\∀ t,w.fails=some t->t∈tms w.c.p:=by
 obtain ⟨h1,h2⟩:=Qcj h;intro w hw hkn;obtain ⟨i,hi⟩:=Jp hw;have hil:i<l.length:=by rw [<-h1]; exact (Qf.1 hi).1
 obtain ⟨v,h3,h4⟩:=h2 i _ (Qd hil);rw [hi] at h4; injection h4 with h4; subst h4;rcases Qi0 h3 with e | ⟨v,v1,v2,v3,e,v5⟩
 ·rw [e] at hkn; cases hkn
 ·obtain ⟨k1,k2⟩:=hk v v1 v2;rw [e];show Tk (l[i]).p a v.fails/\∀ t,v.fails=some t->t∈tms (l[i]).p;rw [<-v3];refine ⟨Qr4 hn.cut ha.cut hna k1 λt ht=>?_,k2⟩;obtain ⟨c,c1,c2⟩:=v5 t ht;exact Zgy ((ho v v1).f t ht) ha c1 c2
structure Stab {β:Type} (Bc:Tm->List Ct) (Br:Tm->β):Prop where
 ok:BuildOk Bc
 fin:∃ Ps:List (List Int),(∀ p∈Ps,Cp p)/\∀ a,Va a->∀ x∈Bc a,x.p∈Ps
 st:∀ a b,Va a->Va b->(∀ x∈Bc a,Ms (Hq b) x.p=Ms (Hq a) x.p)->Bc b=Bc a/\Br b=Br a
structure KSt {β:Type} (Bc:Tm->List Ct) (Br:Tm->β) (c:Cr) (r1:β):Prop where
 inv:KInv c
 cs:c.l.map (·.c)=Gv (Bc c.now)
 r:r1=Br c.now
inductive Evs (Bc:Tm->List Ct) (t:Rat):Tm->List Tm->Prop
 | nil {a:Tm} (h:∀ x∈Bc a,∃ o,Tk x.p a o/\∀ u,o=some u->Pn (tq t) u):Evs Bc t a []
 | cons {a e:Tm} {E:List Tm} (he:Va e) (h1:Pn a e) (h2:¬Pn (tq t) e) (h3:∀ x∈Bc a,∃ o,Tk x.p a o/\∀ u,o=some u->¬Pn u e) (h4:∃ x∈Bc a,Tk x.p a (some e)) (h5:Evs Bc t e E):Evs Bc t a (e::E)
theorem Zj4 {β:Type} {Bc:Tm->List Ct} {Br:Tm->β} (S:Stab Bc Br) {t:Rat} (ht:Qs 400000 t) {Ps:List (List Int)} (hP:∀ p∈Ps,Cp p) (hPs:∀ a,Va a->∀ x∈Bc a,x.p∈Ps) :
 ∀ (m:Nat) (c:Cr) (r1:β) (n:Int),mu (Ps.flatMap tms) c.now<=m->KSt Bc Br c r1->¬Pn (tq t) c.now ->
 ∃ c' r' E,goF Bc Br t (m+1) c r1 n=some (c',r',n+(E.length:Nat))/\c'.now=tq t/\KSt Bc Br c' r'/\c'.ev=c.ev+(E.length:Nat)/\E.length<=m/\Evs Bc t c.now E:=by
 have hT:∀ t∈Ps.flatMap tms,Cut (Uq t):=λu hu=>by
  obtain ⟨p,p1,p2⟩:=Xs.1 hu;exact (Zit (hP p p1) u p2).cut
 have hq:=Q2u ht;intro m
 induction m with
 | zero=>?_
 | succ m ih=>?_
 all_goals
  intro c r1 n hm hS hnow;obtain ⟨⟨ok,kk⟩,hcs,hr⟩:=hS;obtain ⟨ws,w1,w2,w3⟩:=Qn8 ok.n ok.l kk;have ok':=Qac ok w1;rw [hcs] at w2;have hc_w:∀ x∈Bc c.now,∃ w∈ws,w.c=x:=λx hx=>by
   have:x∈ws.map (·.c):=by rw [w2]; exact C9.2 hx
   exact Zk.1 this
  have hw_c:∀ w∈ws,w.c∈Bc c.now:=λw hw=>C9.1 (by rw [<-w2]; exact List.mem_map_of_mem hw)
  obtain ⟨o,o1,o2⟩:=Qvk ok'.l;have fin:(∀ w∈ws,∀ u,w.fails=some u->Pn (tq t) u)->KSt Bc Br ⟨tq t,ws,c.ev⟩ r1/\Evs Bc t c.now []:=λhall=>by
   have hg:∀ x∈Bc c.now,Ms (Hq (tq t)) x.p=Ms (Hq c.now) x.p:=λx hx=>by
    obtain ⟨w,hw,rfl⟩:=hc_w x hx;exact Qed (S.ok.p _ ok.n _ hx).dp ok.n hq hnow (w3 w hw).2.1 (hall w hw)
   obtain ⟨s1,s2⟩:=S.st _ _ ok.n hq hg;refine ⟨⟨⟨⟨hq,ok'.l,ok'.k⟩,λw hw _=>⟨Qr4 ok.n.cut hq.cut hnow (w3 w hw).2.1 (hall w hw),(w3 w hw).2.2⟩⟩,?_,?_⟩,.nil λx hx=>?_⟩
   ·show ws.map (·.c)=Gv (Bc (tq t)); rw [w2,s1]
   ·show r1=Br (tq t); rw [s2,hr]
   ·obtain ⟨w,hw,rfl⟩:=hc_w x hx;exact ⟨_,(w3 w hw).2.1,hall w hw⟩
 ·cases o with
  |
   none =>
   obtain ⟨f1,f2⟩:=fin λw hw u hu=>by rw [o2 w hw] at hu; cases hu
   exact ⟨_,_,[],by simp only [goF]; rw [w1]; simp only [Jh]; rw [o1]; simp,rfl,f1,by simp,by simp,f2⟩
  |
   some a =>
   obtain ⟨va,⟨w,hw,hwa⟩,hmin⟩:=o2;by_cases h0:0<Uq a t
   ·obtain ⟨f1,f2⟩:=fin λv hv u hu=>by
     have hu':=(ok'.l v hv).f u hu;exact Qy2 hq.cut va.cut hu'.cut ((Iw va.cut).1 h0) (hmin v hv u hu)
    exact ⟨_,_,[],by simp only [goF]; rw [w1]; simp only [Jh]; rw [o1]; simp [h0],rfl,f1,by simp,by simp,f2⟩
   ·exfalso;obtain ⟨k1,k2,k3⟩:=w3 w hw;rw [hwa] at k2;have:a∈Ps.flatMap tms:=Xs.2 ⟨_,hPs _ ok.n _ (hw_c w hw),k3 a hwa⟩;have:=Zfo ok.n.cut va.cut hT k2.2.2.1 this;omega
 ·cases o with
  |
   none =>
   obtain ⟨f1,f2⟩:=fin λw hw u hu=>by rw [o2 w hw] at hu; cases hu
   exact ⟨_,_,[],by simp only [goF]; rw [w1]; simp only [Jh]; rw [o1]; simp,rfl,f1,by simp,by simp,f2⟩
  |
   some a =>
   obtain ⟨va,⟨w,hw,hwa⟩,hmin⟩:=o2;by_cases h0:0<Uq a t
   ·obtain ⟨f1,f2⟩:=fin λv hv u hu=>by
     have hu':=(ok'.l v hv).f u hu;exact Qy2 hq.cut va.cut hu'.cut ((Iw va.cut).1 h0) (hmin v hv u hu)
    exact ⟨_,_,[],by simp only [goF]; rw [w1]; simp only [Jh]; rw [o1]; simp [h0],rfl,f1,by simp,by simp,f2⟩
   ·obtain ⟨k1,k2,k3⟩:=w3 w hw;rw [hwa] at k2;have hna:=Qoa ok.n.cut va.cut k2.2.2.1;have hmem:a∈Ps.flatMap tms:=Xs.2 ⟨_,hPs _ ok.n _ (hw_c w hw),k3 a hwa⟩;have hlt:=Zfo ok.n.cut va.cut hT k2.2.2.1 hmem;obtain ⟨w2',l1,l2⟩:=Q6v va ok'.l (Gv (Bc a));have hl:=Zcm ok.n va hna ok'.l (λv hv _=>(w3 v hv).2) l1;have hS':KSt Bc Br ⟨a,w2',c.ev+1⟩ (Br a):=⟨⟨Orr.lay_ok _ ok' va (S.ok.p a va) (S.ok.n a va) l1,hl⟩,l2,rfl⟩;obtain ⟨c',r',E,g1,g2,g3,g4,g5,g6⟩:=ih ⟨a,w2',c.ev+1⟩ (Br a) (n+1) (by show mu _ a<=m; omega) hS' (λh=>h0 ((Iw va.cut).2 h));refine ⟨c',r',a::E,?_,g2,g3,by rw [g4]; simp; omega,by simp; omega,.cons va k2.2.2.1 (λh=>h0 ((Iw va.cut).2 h)) (λx hx=>?_) ⟨w.c,hw_c w hw,k2⟩ g6⟩
    ·conv=>lhs; unfold goF
     rw [w1]; simp only [Jh]; rw [o1]; simp only [Jh]; rw [if_neg h0,l1]; simp only [Jh];rw [g1]; simp; omega
    ·obtain ⟨v,hv,rfl⟩:=hc_w x hx;exact ⟨_,(w3 v hv).2.1,hmin v hv⟩
end Orq
namespace Orq
open Orr Go
theorem Qra {a:Tm} (ha:Va a):∀ (L:List (List Int)),(∀ p∈L,Dp p)->∃ y,Uq a y=-1/\∀ q,Uq a q=-1->q≤y->∀ p∈L,Ms (Hq a) p=Uo (Uf p q)
 |
  [],_=>by
  obtain ⟨y,hy⟩:=ha.cut.hi;exact ⟨y,hy,λq _ _ p hp=>by cases hp⟩
 |
  p::L,h=>by
  obtain ⟨y,y1,y2⟩:=Qra ha L (λq hq=>h q (Qj _ hq));by_cases h0:p.length=0
  ·obtain rfl:=Qh h0;refine ⟨y,y1,λq q1 q2 r hr=>?_⟩;rcases Qo.1 hr with rfl | hr
   ·rw [Q6h]; exact (Fc.2 rfl).symm
   ·exact y2 q q1 q2 r hr
  ·obtain ⟨⟨z,z1,z2⟩,_⟩:=Qnt ha (h p (by simp)) h0;refine ⟨if y<=z then y else z,by split <;> assumption,λq q1 q2 r hr=>?_⟩;rcases Qo.1 hr with rfl | hr
   ·rw [<-Ud]; exact (z2 q q1 (by grind)).symm
   ·exact y2 q q1 (by grind) r hr
section Srt
variable {α:Type} {lt:α->α->Bool} {R:α->α->Prop}
theorem Ql6 {out:List α} {x:α}:∀ k,k<=out.length->(∀ j y,M9 lt out x k<=j->j<k->out[j]? = some y->lt x y=true)/\(0<M9 lt out x k->∃ y,out[M9 lt out x k-1]? = some y/\lt x y=false)
 | 0,_=>⟨λj y _ h=>by omega,λh=>by simp [M9] at h⟩
 |
  k+1,hk=>by
  obtain ⟨y,hy⟩:=gxE (l:=out) (i:=k) (by omega);by_cases h:lt x y=true
  ·rw [Qoq hy h];obtain ⟨h1,h2⟩:=Ql6 (out:=out) (x:=x) k (by omega);refine ⟨λj z a1 a2 a3=>?_,h2⟩;by_cases e:j=k
   ·subst e; rw [hy] at a3; injection a3 with a3; subst a3; exact h
   ·exact h1 j z a1 (by omega) a3
  ·have h:lt x y=false:=by simpa using h
   rw [Qje hy h];exact ⟨λj z a1 a2 _=>by omega,λ_=>⟨y,by simpa using hy,h⟩⟩
theorem Zcj (tr:∀ x y z,R x y->R y z->R x z) {out:List α} {x:α} (ho:out.Pairwise R) (h1:∀ y∈out,lt x y=true->R x y) (h2:∀ y∈out,lt x y=false->R y x):(Cq lt out x).Pairwise R:=by
 obtain ⟨s1,s2⟩:=Ql6 (lt:=lt) (out:=out) (x:=x) out.length (Qk _);have hle:=Qop lt out x out.length;unfold Cq;obtain ⟨k,hk⟩:=nmE (M9 lt out x out.length);rw [<-hk] at s1 s2 hle ⊢;have hd:(out.take k++out.drop k).Pairwise R:=by rw [Zb]; exact ho
 obtain ⟨d1,d2,d3⟩:=Yu.1 hd;have hR:∀ y∈out.drop k,R x y:=λy hy=>by
  obtain ⟨i,hi⟩:=Jp hy;rw [Z9] at hi;have:k+i<out.length:=(Qf.1 hi).1;exact h1 y (Zh hy) (s1 (k+i) y (by omega) this hi)
 have hL:∀ y∈out.take k,R y x:=λy hy=>by
  obtain ⟨i,hi⟩:=Jp hy;have hik:i<k:=by have:=(Qf.1 hi).1; simp at this; omega
  rw [List.getElem?_take_of_lt hik] at hi;obtain ⟨z,z1,z2⟩:=s2 (by omega);have hz:=h2 z (Qc z1) z2;by_cases e:i=k-1
  ·subst e; rw [hi] at z1; injection z1 with z1; subst z1; exact hz
  ·have hp:=List.pairwise_iff_getElem.1 ho i (k-1) (by omega) (by omega) (by omega);obtain ⟨_,e1⟩:=Qf.1 hi;obtain ⟨_,e2⟩:=Qf.1 z1;rw [e1,e2] at hp;exact tr _ _ _ hp hz
 refine Yu.2 ⟨d1,Xa.2 ⟨hR,d2⟩,λy hy z hz=>?_⟩;rcases Qo.1 hz with rfl | hz
 ·exact hL y hy
 ·exact d3 y hy z hz
theorem foldG_pw (tr:∀ x y z,R x y->R y z->R x z) {S:α->Prop} (h1:∀ x y,S x->S y->lt x y=true->R x y) {D:α->α->Prop} (h2:∀ x y,S x->S y->D y x->lt x y=false->R y x) :
 ∀ (l acc:List α),acc.Pairwise R->(∀ x∈acc,S x)->(∀ x∈l,S x)->l.Pairwise D->(∀ x∈acc,∀ y∈l,D x y)->(l.foldl (Cq lt) acc).Pairwise R
 | [],acc,ha,_,_,_,_=>ha
 |
  x::l,acc,ha,hs,hl,hd,hx=>by
  rw [Xa] at hd;refine foldG_pw tr h1 h2 l (Cq lt acc x) ?_ ?_ (λy hy=>hl y (Qj _ hy)) hd.2 ?_
  ·exact Zcj tr ha (λy hy=>h1 x y (hl x (by simp)) (hs y hy)) (λy hy=>h2 x y (hl x (by simp)) (hs y hy) (hx y hy x (by simp)))
  ·intro y hy;rcases Qiu.1 hy with rfl | hy
   ·exact hl _ (by simp)
   ·exact hs y hy
  ·intro y hy z hz;rcases Qiu.1 hy with rfl | hy
   ·exact hd.1 z hz
   ·exact hx y hy z (Qj _ hz)
theorem Zfq:∀ {l:List α},l.Pairwise R->∀ {u v:α},u∈l->v∈l->u≠v->R u v\/R v u
 | [],_,_,_,h,_,_=>by cases h
 |
  x::l,hp,u,v,hu,hv,hne=>by
  rw [Xa] at hp;rcases Qo.1 hu with e | hu
  ·rcases Qo.1 hv with e' | hv
   ·exact absurd (e.trans e'.symm) hne
   ·rw [e]; exact .inl (hp.1 v hv)
  ·rcases Qo.1 hv with e' | hv
   ·rw [e']; exact .inr (hp.1 u hu)
   ·exact Zfq hp.2 hu hv hne
end Srt
def px (p:Pt) (q:Rat):Rat:=Uf p.c.x q / (p.c.d:Rat)
def py (p:Pt) (q:Rat):Rat:=Uf p.c.y q / (p.c.d:Rat)
end Orq
namespace Orr
open Go
section
variable {α:Type} {lt:α->α->Bool}
theorem Q1s (out:List α) (c:α):(Cq lt out c).Perm (c::out):=by
 unfold Cq;exact (Wq).trans (by rw [Zb])
theorem Qin:∀ (l acc:List α),(l.foldl (Cq lt) acc).Perm (l++acc)
 | [],acc=>List.Perm.refl _
 |
  c::l,acc=>by
  simp only [Xi];exact (Qin l _).trans (((Q1s acc c).append_left l).trans Wq)
theorem Qwp (l:List α):(Gg lt l).Perm l:=by
 have:=Qin (lt:=lt) l [];rwa [Xh] at this
end
def Sx (a b:Pt):Bool:=decide (a.id<b.id)
def Pt.m5 (p:Pt):Pt:=⟨p.c,p.id % 5⟩
def mix (O:List Pt) (i:Nat):List Pt:=(O.take i).map Pt.m5++O.drop i
theorem Q64 (O:List Pt):mix O 0=O:=by simp [mix]
theorem Qgx (O:List Pt) (i:Nat):(mix O i).length=O.length:=by
 unfold mix; rw [List.length_append,List.length_map,List.length_take,List.length_drop]; omega
theorem Qzb {O:List Pt} {i:Nat} {p:Pt} (h:O[i]? = some p):(mix O i).set i p.m5=mix O (i+1):=by
 have hi:=(Qf.1 h).1;have hl:((O.take i).map Pt.m5).length=i:=by rw [Q4,Qy]; omega
 unfold mix;rw [List.set_append,if_neg (by omega),hl,Ye,Xk,h,V9,Jz,Zu];congr 1;rw [Zr hi];have:O[i]=p:=by
  have:=(Qf.1 h).2;exact this
 rfl
theorem Zcw {O:List Pt} {i:Nat} {p:Pt} (h:O[i]? = some p):(mix O i)[i]? = some p:=by
 have hi:=(Qf.1 h).1;have hl:((O.take i).map Pt.m5).length=i:=by rw [Q4,Qy]; omega
 unfold mix;rw [Xg (by omega),hl,Ye,Z9];exact h
theorem Qza {O:List Pt} {i k:Nat} {p:Pt} (hk:k<i) (h:O[k]? = some p):(mix O i)[k]? = some p.m5:=by
 have hi:=(Qf.1 h).1;unfold mix;rw [Zj (by rw [Q4,Qy]; omega),Q7,X5,if_pos hk,h]; rfl
theorem Qrx {O:List Pt} {e i:Nat} (h:e<=i) (hi:i<=O.length):(mix O i).take e=(O.take e).map Pt.m5:=by
 unfold mix;rw [Yg (by rw [Q4,Qy]; omega),<-Ys,K7,Zs h]
def Tw (O:List Pt) (e:Nat):List Pt:=(O.take e).map Pt.m5
def Qas (O:List Pt) (e:Nat):List Pt:=(Tw O e).map Pt.nrm
def Lr (l:List Pt):Prop:=l.Pairwise λa b=>a.id≠b.id
theorem Q1a {O:List Pt} {i:Nat} {p:Pt} (h:O[i]? = some p):Tw O (i+1)=Tw O i++[p.m5]:=by
 unfold Tw; rw [List.take_succ,h,Option.toList_some,List.map_append]; rfl
theorem Q1g {O:List Pt} {i:Nat} {p:Pt} (h:O[i]? = some p) (hd:Lr (Tw O i)) (hn:∀ k x,k<i->O[k]? = some x->x.m5.id≠p.m5.id):Lr (Tw O (i+1)):=by
 rw [Q1a h];refine Yu.2 ⟨hd,List.pairwise_singleton _ _,λa ha b hb=>?_⟩;rw [Qt.1 hb];obtain ⟨x,hx,rfl⟩:=Zk.1 ha;obtain ⟨k,hk,rfl⟩:=List.mem_iff_getElem.1 hx;rw [Qy] at hk;rw [List.getElem_take];exact hn k _ (by omega) (Qd (by omega))
theorem Qkw {O:List Pt} {e:Nat} (h:Lr (Tw O e)):Lr (Qas O e):=List.Pairwise.map Pt.nrm (λ_ _ h=>h) h
theorem Qfr (O:List Pt) (e:Nat):(Qas O e).length=(Tw O e).length:=by unfold Qas; rw [List.length_map]
theorem Qb7 {O:List Pt} {e:Nat} (h:e<=O.length):(Tw O e).length=e:=by unfold Tw; rw [List.length_map,List.length_take]; omega
def Q0n (p:Pt):Prop:=Cs 10 3 p.c
theorem Qlo {n:Nat} {most:Int} (hm:0≤most/\most≤999) {l:List RawPt}:∀ p∈Qex n most l,Q0n p:=λp hp=>by
 rcases Qcd _ _ hp with h | h
 ·cases h
 ·obtain ⟨z,_,rfl⟩:=Zk.1 h;exact Qku hm _ _ _
theorem Qqt {O:List Pt} (h:∀ p∈O,Q0n p) (e:Nat):∀ p∈Tw O e,Q0n p:=λp hp=>by
 obtain ⟨x,hx,rfl⟩:=Zk.1 hp;exact h x (Qq hx)
theorem Qx8 {O:List Pt} (h:∀ p∈O,Q0n p) (e:Nat):∀ p∈Qas O e,Nml p.c/\Cs 10 3 p.c:=λp hp=>by
 obtain ⟨x,hx,rfl⟩:=Zk.1 hp;exact ⟨x.c.nml,(Qqt h e x hx).norm (by decide)⟩
theorem Qll {s n:Nat}:∀ {l:List Pt},(∀ p∈l,Cs s n p.c)->IsPts s n (l.map Gp) (l.map Pt.nrm)
 | [],_=>trivial
 | p::l,h=>⟨⟨p.c.x.map Gh,p.c.y.map Gh,_,_,_,_,p.c.d,rfl,G8 _,G8 _,Ub _,h p (Qr ..),rfl⟩,Qll λx hx=>h x (Qj _ hx)⟩
theorem Qml:∀ {l m:List Pt},Bh l->Bh m->(∀ x,x∈l↔x∈m)->l=m
 | [],[],_,_,_=>rfl
 | [],b::m,_,_,h=>absurd ((h b).2 (Qr ..)) (by simp)
 | a::l,[],_,_,h=>absurd ((h a).1 (Qr ..)) (by simp)
 |
  a::l,b::m,h1,h2,h=>by
  have h1':=Xa.1 h1;have h2':=Xa.1 h2;have hab:a=b:=by
   rcases Qo.1 ((h a).1 (Qr ..)) with e | e
   ·exact e
   ·rcases Qo.1 ((h b).2 (Qr ..)) with e2 | e2
    ·exact e2.symm
    ·have:=h2'.1 a e; have:=h1'.1 b e2; omega
  subst hab;congr 1;refine Qml h1'.2 h2'.2 λx=>⟨λhx=>?_,λhx=>?_⟩
  ·rcases Qo.1 ((h x).1 (Qj _ hx)) with e | e
   ·have:=h1'.1 x hx; rw [e] at this; omega
   ·exact e
  ·rcases Qo.1 ((h x).2 (Qj _ hx)) with e | e
   ·have:=h2'.1 x hx; rw [e] at this; omega
   ·exact e
theorem Qpb {l:List Pt} (h:Lr l):Bh (Gg Sx l) :=
 Orq.foldG_pw (R:=λa b:Pt=>a.id<b.id) (S:=λ_=>True) (D:=λa b:Pt=>a.id≠b.id) (λx y z h1 h2=>Int.lt_trans h1 h2) (λx y _ _ h=>of_decide_eq_true h) (λx y _ _ h1 h=>by have:=of_decide_eq_false h; omega) l [] .nil (λx hx=>by cases hx) (λ_ _=>trivial) h (λx hx=>by cases hx)
theorem Q74 (l:List Pt) (q:Pt):(put l q).Perm (q::l):=by
 unfold put;exact List.perm_middle.trans (by rw [Zb])
theorem Qlv:∀ (qs acc:List Pt),(Tn acc qs).2=0->(Tn acc qs).1.Perm (qs++acc)
 | [],acc,_=>List.Perm.refl _
 |
  q::qs,acc,h=>by
  simp only [Tn] at h ⊢
  split
  ·rename_i h0;rw [if_pos h0] at h;refine (Qlv qs _ h).trans ?_;exact ((Q74 acc q).append_left qs).trans Wq
  ·rename_i h0;rw [if_neg h0] at h;exact absurd h h0
theorem Q12 {qs:List Pt} (hl:qs.length<=6) (hd:Lr qs):(Tn [] qs).2=0/\(Tn [] qs).1=Gg Sx qs:=by
 rcases Q11 hl with ⟨h1,h2,_,_⟩ | ⟨_,h2⟩
 ·refine ⟨h1,Qml h2 (Qpb hd) λx=>?_⟩;have h3:=Qlv qs [] h1;rw [Xh] at h3;rw [h3.mem_iff,E3]
 ·exact absurd hd h2
end Orr
namespace Orr
open Go Go.Proofs
set_option maxRecDepth 10000
theorem Zci {α:Type} {f:α->List LV} {lt:α->α->Bool} {O:List α} {c:α} {k:Nat} (hp:M9 lt O c O.length=k):(O.map f).take k++(f c::(O.map f).drop k)=(Cq lt O c).map f:=by
 simp [Cq,hp,Ys,Kg]
theorem Qrh {α:Type} {f:α->List LV} {lt:α->α->Bool} {O:List α} {c:α} {k:Nat} (hp:M9 lt O c O.length=k):(O.map f).take k++([f c]++((O.map f).drop k).take ((O.map f).length-k))=(Cq lt O c).map f:=by
 rw [Qn (l:=(O.map f).drop k) (by simp)];exact Zci hp
theorem Qri {lt:Pt->Pt->Bool} {O:List Pt} {c:Pt} {k:Nat} (hp:M9 lt O c O.length=k):(Fg O).take k++([D6 c]++((Fg O).drop k).take ((Fg O).length-k))=Fg (Cq lt O c):=Qrh hp
theorem S9 (l:List Pt):(Fg l).length=l.length:=by simp [Fg]
theorem Qo3 (l:List Pt):∀ c∈Fg l,c.length=7:=λc hc=>by obtain ⟨x,_,rfl⟩:=Zk.1 hc; rfl
theorem G5 {l:List Pt} {i:Nat} {c:Pt} (h:l[i]? = some c):(Fg l)[i]? = some (D6 c):=G9 h
theorem Qgi {l:List Pt} (hn:l.length<=1000000):Ua Tryz.prog 64 [.one (.row (Fg l))] [.one (.row (Fg (Gg Sx l)))]:=by
 have hcl:=S9 l;refine Gu Tryz.func64 rfl ?_;refine go tt [.o 3 57 7] rfl trivial ?_;refine lp (S:=Nat) 1 (λL1 i=>(8,.v (.one (.int .i64 (i:Int))))::(3,.v (.one (.orow 0 7 none)))::L1) (λi=>[.row false 57 7 (Fg (Gg Sx (l.take i)))]) (λi=>l.length-i) (λi=>i<=l.length) 0 (Qi _) rfl (λ_ _=>rfl) rfl λi hi=>?_
 by_cases hlt:i<l.length
 ·obtain ⟨c,hc⟩:=gxE (l:=l) (i:=i) hlt;have hst:Gg Sx (l.take (i+1))=Cq Sx (Gg Sx (l.take i)) c:=Qjr hc;obtain ⟨O,hO⟩:=nmE (Gg Sx (l.take i));have hOl:O.length=i:=by rw [hO,Pm,Qy]; omega
  have hrl:=S9 O;rw [<-hO] at hst ⊢;refine go tt [.t (decide_eq_true (by omega))] rfl trivial ?_;refine lp (S:=Nat) 1 (λL1 k=>(5,.v (.one (.int .i64 (k:Int))))::L1) (λ_=>[.row false 57 7 (Fg O)]) id (λk=>k<=O.length/\M9 Sx O c k=M9 Sx O c O.length) (Fg O).length ⟨by omega,by rw [hrl]⟩ rfl (λ_ _=>rfl) rfl λk ⟨hk,hp⟩=>?_
  have h7:=Qo3 O;have h7z:∀ y∈[D6 c],y.length=7:=λy hy=>by rw [Qt.1 hy]; rfl
  cases k with
  |
   zero =>
   have hp:M9 Sx O c O.length=0:=by rw [<-hp]; rfl
   refine go tt [.g 15 false (by simp),.f rfl,.i 0,.x (G5 hc),.lo,.i 0,.s (sz:=7) (λy hy=>h7 y (Qq hy)),.s (sz:=7) (λy hy=>(Qz.1 hy).elim (h7z y) λhy=>h7 y (Qq hy))] rfl (by simp [W9]; omega) ?_;exact rd (i+1) (by omega) hlt (by rw [hst,<-Qri hp]; rfl)
  |
   succ k =>
   obtain ⟨x,hx⟩:=gxE (l:=O) (i:=k) (by omega);by_cases hlc:Sx c x=true
   ·refine go tt [.g 15 true (by simp),.x (G5 hc),.r 23 (eI (b:=(k:Int)) (by simp)),.i k,.x (G5 hx),.t hlc,.r 30 (eI (b:=(k:Int)) (by simp))] rfl (by simp [W9]; omega) ?_;exact rd k (by simp) ⟨by omega,by rw [<-hp,Qoq hx hlc]⟩ rfl
   ·have hlc:Sx c x=false:=by simpa using hlc
    have hp:M9 Sx O c O.length=k+1:=by rw [<-hp,Qje hx hlc]
    refine go tt [.g 15 true (by simp),.x (G5 hc),.r 23 (eI (b:=(k:Int)) (by simp)),.i k,.x (G5 hx),.f hlc,.i (k+1),.x (G5 hc),.lo,.i (k+1),.s (sz:=7) (λy hy=>h7 y (Zh (Qq hy))),.s (sz:=7) (λy hy=>(Qz.1 hy).elim (h7z y) λhy=>h7 y (Zh (Qq hy)))] rfl (by simp [W9]; omega) ?_;exact rd (i+1) (by omega) hlt (by rw [hst,<-Qri hp]; rfl)
 ·obtain rfl:i=l.length:=by omega
  rw [Q8];exact en tt [.f (decide_eq_false (by omega))] rfl rfl trivial
def rct (c:Ct):List LV:=[.int .i64 c.kind,.int .i64 c.i0,.int .i64 c.i1,.int .i64 c.i2,.int .i64 c.i3,rp (zp c.p),.int .i64 c.want,.row [],.bool false]
def Ro (l:List Ct):List (List LV):=l.map rct
theorem A0 (l:List Ct):(Ro l).length=l.length:=by simp [Ro]
theorem Qsx (l:List Ct):∀ c∈Ro l,c.length=9:=λc hc=>by obtain ⟨x,_,rfl⟩:=Zk.1 hc; rfl
theorem Qaj {l:List Ct} {i:Nat} {c:Ct} (h:l[i]? = some c):(Ro l)[i]? = some (rct c):=G9 h
theorem Qrg {lt:Ct->Ct->Bool} {O:List Ct} {c:Ct} {k:Nat} (hp:M9 lt O c O.length=k):(Ro O).take k++([rct c]++((Ro O).drop k).take ((Ro O).length-k))=Ro (Cq lt O c):=Qrh hp
theorem Zbj {k i0 i1 i2 i3 l j0 j1 j2 j3:Int}:Ua Tryz.prog 322 [.agg [.int .i64 k,.int .i64 i0,.int .i64 i1,.int .i64 i2,.int .i64 i3],.agg [.int .i64 l,.int .i64 j0,.int .i64 j1,.int .i64 j2,.int .i64 j3]] [.one (.bool (Hu [k,i0,i1,i2,i3] [l,j0,j1,j2,j3]))]:=by
 by_cases hk:k=l
 ·subst hk;rw [show Hu [k,i0,i1,i2,i3] [k,j0,j1,j2,j3]=Hu [i0,i1,i2,i3] [j0,j1,j2,j3] from by simp [Hu]];refine Gu Tryz.func322 rfl ?_;refine go tt [.f (by simp)] rfl trivial ?_;refine lp (S:=Nat) 2 (λL1 i=>(5,.v (.one (.int .i64 (i:Int))))::L1) (λ_=>[.blk 88 [.int .i64 k,.int .i64 i0,.int .i64 i1,.int .i64 i2,.int .i64 i3],.blk 88 [.int .i64 k,.int .i64 j0,.int .i64 j1,.int .i64 j2,.int .i64 j3]]) (λi=>4-i) (λi=>i<=4/\Hu ([i0,i1,i2,i3].drop i) ([j0,j1,j2,j3].drop i)=Hu [i0,i1,i2,i3] [j0,j1,j2,j3]) 0 ⟨by omega,rfl⟩ rfl (λ_ _=>rfl) rfl λi ⟨hi,he⟩=>?_
  rw [<-he];rcases (show i=0\/i=1\/i=2\/i=3\/i=4 by omega) with rfl | rfl | rfl | rfl | rfl
  ·by_cases h:i0=j0
   ·exact go tt [.t rfl,.i 0,.i 0,.f (by simpa using h)] rfl (by simp [W9]) (rd 1 (by omega) ⟨by omega,by simp [Hu,h]⟩ rfl)
   ·exact en tt [.t rfl,.i 0,.i 0,.t (by simpa using h),.i 0,.i 0] rfl (by simp [Hu,h]) trivial
  ·by_cases h:i1=j1
   ·exact go tt [.t rfl,.i 1,.i 1,.f (by simpa using h)] rfl (by simp [W9]) (rd 2 (by omega) ⟨by omega,by simp [Hu,h]⟩ rfl)
   ·exact en tt [.t rfl,.i 1,.i 1,.t (by simpa using h),.i 1,.i 1] rfl (by simp [Hu,h]) trivial
  ·by_cases h:i2=j2
   ·exact go tt [.t rfl,.i 2,.i 2,.f (by simpa using h)] rfl (by simp [W9]) (rd 3 (by omega) ⟨by omega,by simp [Hu,h]⟩ rfl)
   ·exact en tt [.t rfl,.i 2,.i 2,.t (by simpa using h),.i 2,.i 2] rfl (by simp [Hu,h]) trivial
  ·by_cases h:i3=j3
   ·exact go tt [.t rfl,.i 3,.i 3,.f (by simpa using h)] rfl (by simp [W9]) (rd 4 (by omega) ⟨by omega,by simp [Hu,h]⟩ rfl)
   ·exact en tt [.t rfl,.i 3,.i 3,.t (by simpa using h),.i 3,.i 3] rfl (by simp [Hu,h]) trivial
  ·exact en tt [.f rfl] rfl (by simp [Hu]) trivial
 ·exact w tt Tryz.func322 rfl [.t (by simpa using hk)] rfl (by simp [Hu,hk]) trivial
theorem Zbm {l:List Ct} (hn:l.length<=1000000):Ua Tryz.prog 293 [.one (.row (Ro l))] [.one (.row (Ro (Gg Mm l)))]:=by
 have hcl:=A0 l;refine Gu Tryz.func293 rfl ?_;refine go tt [.o 3 272 9] rfl trivial ?_;refine lp (S:=Nat) 1 (λL1 i=>(8,.v (.one (.int .i64 (i:Int))))::(3,.v (.one (.orow 0 9 none)))::L1) (λi=>[.row false 272 9 (Ro (Gg Mm (l.take i)))]) (λi=>l.length-i) (λi=>i<=l.length) 0 (Qi _) rfl (λ_ _=>rfl) rfl λi hi=>?_
 by_cases hlt:i<l.length
 ·obtain ⟨c,hc⟩:=gxE (l:=l) (i:=i) hlt;have hst:Gg Mm (l.take (i+1))=Cq Mm (Gg Mm (l.take i)) c:=Qjr hc;obtain ⟨O,hO⟩:=nmE (Gg Mm (l.take i));have hOl:O.length=i:=by rw [hO,Pm,Qy]; omega
  have hrl:=A0 O;rw [<-hO] at hst ⊢;refine go tt [.t (decide_eq_true (by omega))] rfl trivial ?_;refine lp (S:=Nat) 1 (λL1 k=>(5,.v (.one (.int .i64 (k:Int))))::L1) (λ_=>[.row false 272 9 (Ro O)]) id (λk=>k<=O.length/\M9 Mm O c k=M9 Mm O c O.length) (Ro O).length ⟨by omega,by rw [hrl]⟩ rfl (λ_ _=>rfl) rfl λk ⟨hk,hp⟩=>?_
  have h7:=Qsx O;have h7z:∀ y∈[rct c],y.length=9:=λy hy=>by rw [Qt.1 hy]; rfl
  cases k with
  |
   zero =>
   have hp:M9 Mm O c O.length=0:=by rw [<-hp]; rfl
   refine go tt [.g 15 false (by simp),.f rfl,.i 0,.x (Qaj hc),.lo,.i 0,.s (sz:=9) (λy hy=>h7 y (Qq hy)),.s (sz:=9) (λy hy=>(Qz.1 hy).elim (h7z y) λhy=>h7 y (Qq hy))] rfl (by simp [W9]; omega) ?_;exact rd (i+1) (by omega) hlt (by rw [hst,<-Qrg hp]; rfl)
  |
   succ k =>
   obtain ⟨x,hx⟩:=gxE (l:=O) (i:=k) (by omega);have cb:=Zbj (k:=c.kind) (i0:=c.i0) (i1:=c.i1) (i2:=c.i2) (i3:=c.i3) (l:=x.kind) (j0:=x.i0) (j1:=x.i1) (j2:=x.i2) (j3:=x.i3);by_cases hlc:Mm c x=true
   ·refine go tt [.g 15 true (by simp),.x (Qaj hc),.r 23 (eI (b:=(k:Int)) (by simp)),.i k,.x (Qaj hx),.c [] cb,.t hlc,.r 30 (eI (b:=(k:Int)) (by simp))] rfl (by simp [W9]; omega) ?_;exact rd k (by simp) ⟨by omega,by rw [<-hp,Qoq hx hlc]⟩ rfl
   ·have hlc:Mm c x=false:=by simpa using hlc
    have hp:M9 Mm O c O.length=k+1:=by rw [<-hp,Qje hx hlc]
    refine go tt [.g 15 true (by simp),.x (Qaj hc),.r 23 (eI (b:=(k:Int)) (by simp)),.i k,.x (Qaj hx),.c [] cb,.f hlc,.i (k+1),.x (Qaj hc),.lo,.i (k+1),.s (sz:=9) (λy hy=>h7 y (Zh (Qq hy))),.s (sz:=9) (λy hy=>(Qz.1 hy).elim (h7z y) λhy=>h7 y (Zh (Qq hy)))] rfl (by simp [W9]; omega) ?_;exact rd (i+1) (by omega) hlt (by rw [hst,<-Qrg hp]; rfl)
 ·obtain rfl:i=l.length:=by omega
  rw [Q8];exact en tt [.f (decide_eq_false (by omega))] rfl rfl trivial
abbrev Im (q:Rat):List Int->Int:=λp=>U8 p q
abbrev rzc:List LV:=[.int .i64 0,.int .i64 0,.int .i64 0,.int .i64 0,.int .i64 0,.nils,.int .i64 0,.nils,.bool false]
theorem Q4v {l:List Ct} (hn:l.length<=1000000):Ua Tryz.prog 127 [.one (.row []),.one (.row (Ro l))] [.one (.row (Ro l))]:=by
 have hcl:=A0 l;refine Gu Tryz.func127 rfl ?_;refine go tt [] rfl trivial ?_;refine lp (S:=Nat) 0 (λL1 i=>(9,.v (.one (.int .i64 (i:Int))))::L1) (λ_=>[]) (λi=>l.length-i) (λi=>i<=l.length) 0 (Qi _) rfl (λ_ _=>rfl) rfl λi hi=>?_
 by_cases hlt:i<l.length
 ·refine go tt [.t (decide_eq_true (by omega))] rfl trivial ?_;refine lp (S:=Nat) 0 (λL1 k=>(14,.v (.one (.int .i64 (k:Int))))::L1) (λ_=>[]) (λk=>0-k) (λk=>k=0) 0 rfl rfl (λ_ _=>rfl) rfl λk hk=>?_
  subst hk;exact go tt [.f rfl] rfl (by simp [W9]; omega) (rd (i+1) (by omega) hlt rfl)
 ·exact en tt [.f (decide_eq_false (by omega))] rfl rfl trivial
theorem Zcs (l:List Nat) (n:Nat):(lm l).take (min l.length n)=lm (l.take n):=by
 rw [lm,lm,<-Ys];rcases Nat.le_total l.length n with h | h
 ·rw [Zs h,Q8,Qn h]
 ·rw [Vs h]
theorem Zgr {l:List Nat} {n:Nat} (hn:n<=1000):Ua Tryz.prog 252 [.one (.row (lm l)),.one (.int .i64 (n:Int))] [.one (.row (lm (l.take n)))]:=by
 rw [<-Zcs];have hll:(lm l).length=l.length:=by simp [lm]
 exact w tt Tryz.func252 rfl [.r 9 (eI (b:=((min l.length n:Nat):Int)) (by omega)),.i (min l.length n)] rfl rfl (by simp [W9,hll]; omega)
theorem Q4i {z:RawInt}:Ua Tryz.prog 197 [.agg (Qe0 z),.one (.int .i64 1)] [.agg (Qe0 z.cut)] :=
 w tt Tryz.func197 rfl [.c [] (Zgr (l:=z.l) (n:=1) (by decide))] rfl rfl trivial
def Qa0 (l:List RawInt):List (List LV):=l.map Qe0
theorem Qak (l:List RawInt):(Qa0 l).length=l.length:=by simp [Qa0]
theorem Qxs {l:List RawInt}:Ua Tryz.prog 196 [.one (.row (Qa0 l)),.one (.int .i64 3),.one (.int .i64 1)] [.one (.row (Qa0 ((l.take 3).map RawInt.cut)))]:=by
 have hll:=Qak l;refine Gu Tryz.func196 rfl (ln 0 rfl rfl λhzl=>?_);rw [hll] at hzl;refine go tt [.o 7 51 2] rfl trivial ?_;refine lp (S:=Nat) 1 (λL1 i=>(8,.v (.one (.int .i64 (i:Int))))::(7,.v (.one (.orow 0 2 none)))::L1) (λi=>[.row false 51 2 (Qa0 ((l.take i).map RawInt.cut))]) (λi=>3-i) (λi=>i<=3/\i<=l.length) 0 ⟨by decide,Qi _⟩ rfl (λ_ _=>rfl) rfl λi ⟨hi,hi2⟩=>?_
 have hil:(Qa0 ((l.take i).map RawInt.cut)).length=i:=by rw [Qak,Q4,Qy]; omega
 by_cases h1:i<l.length
 ·by_cases h2:i<3
  ·obtain ⟨z,hz⟩:=gxE (l:=l) (i:=i) h1;have hm:∀ y∈[Qe0 z.cut],y.length=2:=λy hy=>by rw [Qt.1 hy]; rfl
   refine go tt [.g 13 true (decide_eq_true (by omega)),.t (decide_eq_true (by omega)),.x (G9 (f:=Qe0) hz),.c [] Q4i,.s (sz:=2) hm] rfl (by simp [W9,hil,-List.map_take]; omega) ?_;exact rd (i+1) (by omega) ⟨h2,h1⟩ (by rw [Xk,hz]; simp [Qa0]; rfl)
  ·have e:i=3:=by omega
   have e2:l.take 3=l.take i:=by rw [e]
   rw [e2];exact en tt [.g 13 true (decide_eq_true (by omega)),.f (decide_eq_false (by omega))] rfl rfl trivial
 ·have e:l.take i=l.take 3:=by rw [Qn (by omega),Qn (by omega)]
  rw [e];exact en tt [.g 13 false (decide_eq_false (by omega)),.f rfl] rfl rfl trivial
abbrev rcw (z:RawPt):List LV:=[.row (Qa0 z.x),.row (Qa0 z.y),.bool z.d.b,.row (lm z.d.l)]
def RawPt.cut (z:RawPt):RawPt:=⟨(z.x.take 3).map RawInt.cut,(z.y.take 3).map RawInt.cut,z.d.cut,z.id⟩
theorem Zji {z:RawPt}:Ua Tryz.prog 124 [.agg (rcw z),.one (.int .i64 3),.one (.int .i64 1)] [.agg (rcw z.cut)] :=
 w tt Tryz.func124 rfl [.c [] (Qxs (l:=z.x)),.c [] (Qxs (l:=z.y)),.c [] (Q4i (z:=z.d))] rfl rfl trivial
theorem Qb4 {z:RawInt} (hz:z.Ok) {most:Int} (hm:0<=most/\most<=999):Ua Tryz.prog 198 [.agg (Qe0 z),.one (.int .i64 most)] [.agg (Gh (H8 most z))]:=by
 obtain ⟨b,l⟩:=z;have hb:=Qbg hm.1 ⟨b,l⟩;have hs:Uj (H8 most ⟨b,l⟩)<=100000000:=Qa (Rl.2 (show (H8 most ⟨b,l⟩).natAbs<2^10 by omega)) (by decide);cases l with
 | nil=>exact w tt Tryz.func198 rfl [.t rfl] rfl (by simp [H8,Du]) trivial
 |
  cons u l =>
  have hu:=hz.u u (Qr ..);have co:=Cd (n:=H8 most ⟨b,u::l⟩) (by omega);have ct:=Q39 hs;have hr:Int.tmod (u:Int) (most+1)=(u:Int) % (most+1):=Yq (by omega);have h1:=Vz (u:Int) (b:=most+1) (by omega);have h2:=Yz (u:Int) (b:=most+1) (by omega);cases b with
  |
   true =>
   rw [show H8 most ⟨true,u::l⟩=-((u:Int) % (most+1)) from rfl] at co ct ⊢;exact w tt Tryz.func198 rfl [.f (decide_eq_false (by simp [lm]; try omega)),.x (l:=lm (u::l)) (i:=0) (xs:=[.int .u32 (u:Int)]) rfl,.r 18 (eI hr),.t rfl,.c [] co,.c [] ct] rfl rfl (by simp [W9]; omega)
  |
   false =>
   rw [show H8 most ⟨false,u::l⟩=(u:Int) % (most+1) from rfl] at co ct ⊢;exact w tt Tryz.func198 rfl [.f (decide_eq_false (by simp [lm]; try omega)),.x (l:=lm (u::l)) (i:=0) (xs:=[.int .u32 (u:Int)]) rfl,.r 18 (eI hr),.f rfl,.c [] co,.c [] ct] rfl rfl (by simp [W9]; omega)
theorem oz2 {P:Program} [Mo P] {n:Nat} {Q:Exit->Sg->List OB->Prop} {L L':Sg} {B B':List OB} (d off T sz:Nat) {it:List It} (hs:H6 it=true) (h:Q7y (P:=P) d L B [.oc d off T sz]=some (L',B',[],[])) (k:AK P n Q it L' B'):AK P n Q it L B:=AK.sub (Qv1 h EqOk.nil) hs k
theorem pz {P:Program} [Mo P] {n:Nat} {Q:Exit->Sg->List OB->Prop} {L L':Sg} {B B':List OB} (i:Nat) {it:List It} (hs:H6 it=true) (h:Q2b [i] L B=some (L',B')) (k:AK P n Q it L' B'):AK P n Q it L B:=AK.sub (Qc3 h) hs k
def Em (l:List Int):List (List LV):=l.map Gh
theorem Q1z (l:List Int):(Em l).length=l.length:=by simp [Em]
theorem Qep {most:Int} {l:List RawInt} {i:Nat} {a:RawInt} (hi:i<3) (h:l[i]? = some a):Em (Gn most (l.take (i+1)))=Em (Gn most (l.take i))++[Gh (H8 most a)]:=by
 rw [Qn7 hi h]; simp [Em]
theorem Qn6 {most:Int} {l:List RawInt} {i:Nat} (hi:i<=3) (h:i<=l.length):(Em (Gn most (l.take i))).length=i:=by
 rw [Q1z]; unfold Gn; rw [List.length_map,List.length_take,List.length_take]; omega
theorem Q3u {z:RawPt} (hz:z.Ok) {most:Int} (hm:0<=most/\most<=999):Ua Tryz.prog 125 [.agg (rcw z),.one (.int .i64 most)] [.agg (cl4 (Qck most z.x z.y z.d))]:=by
 have hxl:=Qak z.x;have hyl:=Qak z.y;obtain ⟨D,hD⟩:=nmE (H8 3 z.d);have cd:=Qb4 hz.d (most:=3) (by decide);have hx0:∀ {i:Nat},z.x.length<=i\/3<=i->Gn most (z.x.take i)=Gn most z.x:=Qfo most;have hy0:∀ {i:Nat},z.y.length<=i\/3<=i->Gn most (z.y.take i)=Gn most z.y:=Qfo most;unfold Qck;rw [<-hD] at cd ⊢;refine Gu Tryz.func125 rfl ?_;refine go tt [.c [] cd] rfl trivial ?_;refine oz2 5 0 51 2 rfl rfl ?_;refine lp (S:=Nat) 4 (λL1 i=>(6,.v (.one (.int .i64 (i:Int))))::L1) (λi=>[.blk 53 (rcw z),.blk 53 [.nils,.nils,.bool false,.nils],.blk 53 [.orow 3 2 none,.nils,sg D,mg D],.row false 51 2 (Em (Gn most (z.x.take i)))]) (λi=>3-i) (λi=>i<=3/\i<=z.x.length) 0 ⟨by decide,Qi _⟩ rfl (λ_ _=>rfl) rfl λi ⟨hi,hi2⟩=>?_
 have hll:=Qn6 (most:=most) hi hi2;by_cases hr:i<z.x.length/\i<3
 ·obtain ⟨a,ha⟩:=gxE (l:=z.x) (i:=i) hr.1;have hs:∀ y∈[Gh (H8 most a)],y.length=2:=λy hy=>by rw [Qt.1 hy]; rfl
  refine go tt [.g 17 true (decide_eq_true (by omega)),.t (decide_eq_true (by omega)),.x (G9 (f:=Qe0) ha),.c [] (Qb4 (hz.x a (Qc ha)) hm),.s (sz:=2) hs] rfl (by simp [W9,hll]; omega) ?_;exact rd (i+1) (by omega) ⟨hr.2,hr.1⟩ (by rw [Qep hr.2 ha]; rfl)
 have hg1:decide ((i:Int)<((Qa0 z.x).length:Int))=true->i<z.x.length:=λh=>by have:=of_decide_eq_true h; omega
 rw [hx0 (by omega)];clear hll;have hfin:∀ {j:Nat},j<=3/\j<=z.y.length->¬(j<z.y.length/\j<3)->Em (Gn most (z.y.take j))=Em (Gn most z.y):=λh1 h2=>by rw [hy0 (by omega)]
 by_cases hxx:i<z.x.length
 ·refine go tt [.g 17 true (decide_eq_true (by omega)),.f (decide_eq_false (by omega))] rfl trivial ?_;refine pz 3 rfl rfl ?_;refine oz2 5 1 51 2 rfl rfl ?_;refine lp (S:=Nat) 5 (λL1 j=>(7,.v (.one (.int .i64 (j:Int))))::L1) (λj=>[.blk 53 (rcw z),.blk 53 [.nils,.nils,.bool false,.nils],.blk 53 [.row (Em (Gn most z.x)),.orow 4 2 none,sg D,mg D],.gone,.row false 51 2 (Em (Gn most (z.y.take j)))]) (λj=>3-j) (λj=>j<=3/\j<=z.y.length) 0 ⟨by decide,Qi _⟩ rfl (λ_ _=>rfl) rfl λj ⟨hj,hj2⟩=>?_
  have hll:=Qn6 (most:=most) hj hj2;by_cases hr:j<z.y.length/\j<3
  ·obtain ⟨a,ha⟩:=gxE (l:=z.y) (i:=j) hr.1;have hs:∀ y∈[Gh (H8 most a)],y.length=2:=λy hy=>by rw [Qt.1 hy]; rfl
   refine go tt [.g 40 true (decide_eq_true (by omega)),.t (decide_eq_true (by omega)),.x (G9 (f:=Qe0) ha),.c [] (Qb4 (hz.y a (Qc ha)) hm),.s (sz:=2) hs] rfl (by simp [W9,hll]; omega) ?_;exact rd (j+1) (by omega) ⟨hr.2,hr.1⟩ (by rw [Qep hr.2 ha]; rfl)
  rw [hfin ⟨hj,hj2⟩ hr];by_cases hyy:j<z.y.length
  ·exact ed tt [4] [] [.g 40 true (decide_eq_true (by omega)),.f (decide_eq_false (by omega))] rfl trivial
  ·exact ed tt [4] [] [.g 40 false (decide_eq_false (by omega)),.f rfl] rfl trivial
 ·refine go tt [.g 17 false (decide_eq_false (by omega)),.f rfl] rfl trivial ?_;refine pz 3 rfl rfl ?_;refine oz2 5 1 51 2 rfl rfl ?_;refine lp (S:=Nat) 5 (λL1 j=>(7,.v (.one (.int .i64 (j:Int))))::L1) (λj=>[.blk 53 (rcw z),.blk 53 [.nils,.nils,.bool false,.nils],.blk 53 [.row (Em (Gn most z.x)),.orow 4 2 none,sg D,mg D],.gone,.row false 51 2 (Em (Gn most (z.y.take j)))]) (λj=>3-j) (λj=>j<=3/\j<=z.y.length) 0 ⟨by decide,Qi _⟩ rfl (λ_ _=>rfl) rfl λj ⟨hj,hj2⟩=>?_
  have hll:=Qn6 (most:=most) hj hj2;by_cases hr:j<z.y.length/\j<3
  ·obtain ⟨a,ha⟩:=gxE (l:=z.y) (i:=j) hr.1;have hs:∀ y∈[Gh (H8 most a)],y.length=2:=λy hy=>by rw [Qt.1 hy]; rfl
   refine go tt [.g 40 true (decide_eq_true (by omega)),.t (decide_eq_true (by omega)),.x (G9 (f:=Qe0) ha),.c [] (Qb4 (hz.y a (Qc ha)) hm),.s (sz:=2) hs] rfl (by simp [W9,hll]; omega) ?_;exact rd (j+1) (by omega) ⟨hr.2,hr.1⟩ (by rw [Qep hr.2 ha]; rfl)
  rw [hfin ⟨hj,hj2⟩ hr];by_cases hyy:j<z.y.length
  ·exact ed tt [4] [] [.g 40 true (decide_eq_true (by omega)),.f (decide_eq_false (by omega))] rfl trivial
  ·exact ed tt [4] [] [.g 40 false (decide_eq_false (by omega)),.f rfl] rfl trivial
theorem Za6 {n d:Int} (hn:-9223372036854775808<=n/\n<=9223372036854775807) (hd:-9223372036854775808<=d/\d<=9223372036854775807):Ua Tryz.prog 52 [.one (.int .i64 n),.one (.int .i64 d)] [.agg (fr (Fx (Ik n 61-30) (1+Ik d 6)))]:=by
 have h1:Ik n 61=n % 61:=rfl;have h2:Ik d 6=d % 6:=rfl;exact w tt Tryz.func52 rfl [.c [] (Qb3 (v:=n) (n:=61) hn (by decide)),.c [] (Qb3 (v:=d) (n:=6) hd (by decide)),.c [] (Ze0 (n:=Ik n 61-30) (d:=1+Ik d 6) (by omega) (by omega))] rfl rfl (by simp [W9]; omega)
def rwq (z:RawPt):List LV:=rcw z++[.int .i64 z.id]
def Qc9 (l:List RawPt):List (List LV):=l.map rwq
theorem Q2k (l:List RawPt):(Qc9 l).length=l.length:=by simp [Qc9]
theorem Qo8 {l:List RawPt} {i:Nat} {z:RawPt} (h:l[i]? = some z):(Qc9 l)[i]? = some (rwq z):=G9 h
theorem Zg0 {most:Int} (hm:0<=most/\most<=999) (z:RawPt):Cs 100000 16 (Qaa most z).c:=(Qku hm z.x z.y z.d).mono (by decide) (by decide)
def Ez (n:Nat) (most:Int) (zs:List RawPt) (i:Nat):List Pt:=Qex n most (zs.take i)
theorem Q70 (n:Nat) (most:Int) (zs:List RawPt) (i:Nat):(Ez n most zs i).length<=n:=I3 _ _ (Qi _)
theorem Zdh {n:Nat} {most:Int} {zs:List RawPt} {i:Nat} {z:RawPt} (h:zs[i]? = some z) (hl:(Ez n most zs i).length<n) (ha:(Ez n most zs i).any (λx=>decide (x.id=(Qaa most z).id))=true):Ez n most zs (i+1)=Ez n most zs i:=by
 unfold Ez Qex at *;rw [Xk,h,V9,Jz];exact Ap _ _ _ hl ha
theorem Q71 {n:Nat} {most:Int} {zs:List RawPt} {i:Nat} {z:RawPt} (h:zs[i]? = some z) (hl:(Ez n most zs i).length<n) (ha:(Ez n most zs i).any (λx=>decide (x.id=(Qaa most z).id))=false):Ez n most zs (i+1)=Ez n most zs i++[Qaa most z]:=by
 unfold Ez Qex at *;rw [Xk,h,V9,Jz];exact Lv _ _ _ hl ha
theorem Q7z {n:Nat} {most:Int} {zs:List RawPt} {i:Nat} (h:¬(i<zs.length/\(Ez n most zs i).length<n)):Ez n most zs i=Qex n most zs:=by
 by_cases h1:i<zs.length
 ·have hl:n<=(Ez n most zs i).length:=Jg λh2=>h ⟨h1,h2⟩
  unfold Ez Qex at *
  conv=>rhs; rw [<-Zb i zs,Jz]
  exact (Qeb _ _ _ hl).symm
 ·unfold Ez; rw [List.take_of_length_le (by omega)]
theorem Q3a {f:Pt->Bool} {l:List Pt} {k:Nat} {x:Pt} (h:l[k]? = some x):(l.take (k+1)).any f=((l.take k).any f || f x):=by
 rw [Xk,h]; simp
theorem Q00 {zs:List RawPt} (hz:∀ z∈zs,z.Ok):G6 Tryz.prog 63 [.one (.row (Qc9 zs)),.one (.int .i64 4)] [] [.one (.orow 0 5 none),.one (.orow 1 7 none)] [.row false 135 5 (Uy (Qex 4 20 zs)),.row false 57 7 (Fg ((Qex 4 20 zs).map Pt.nrm))]:=by
 have hzl:=Q2k zs;refine Gu Tryz.func63 rfl (ln 0 rfl rfl λhz63=>?_);rw [hzl] at hz63;refine go tt [.o 6 135 5,.o 7 57 7] rfl trivial ?_;refine lp (S:=Nat) 2 (λL1 i=>(8,.v (.one (.int .i64 (i:Int))))::(6,.v (.one (.orow 0 5 none)))::(7,.v (.one (.orow 1 7 none)))::L1) (λi=>[.row false 135 5 (Uy (Ez 4 20 zs i)),.row false 57 7 (Fg ((Ez 4 20 zs i).map Pt.nrm))]) (λi=>zs.length-i) (λi=>i<=zs.length) 0 (Qi _) rfl (λ_ _=>rfl) rfl λi hi=>?_
 have hOl:=Q70 4 20 zs i;have hend:=Q7z (n:=4) (most:=20) (zs:=zs) (i:=i);by_cases h1:i<zs.length
 ·by_cases h2:(Ez 4 20 zs i).length<4
  ·obtain ⟨z,hzi⟩:=gxE (l:=zs) (i:=i) h1;have hzok:=hz z (Qc hzi);have hin:=Zdh hzi h2;have hout:=Q71 hzi h2;obtain ⟨O,hO⟩:=nmE (Ez 4 20 zs i);rw [<-hO] at hOl h2 hin hout ⊢;have hpl:=Bb O;have hrl:(Fg (O.map Pt.nrm)).length=O.length:=by rw [S9,Q4]
   obtain ⟨p,hp⟩:=nmE (Qaa 20 z);have hid:Ik z.id 1000=p.id:=by rw [hp]; rfl
   have cw:=Qb3 (v:=z.id) (n:=1000) hzok.id (by decide);have cl:=Q3u hzok (most:=20) (by decide);have ecl:cl4 (Qck 20 z.x z.y z.d)=cl4 p.c:=by rw [hp]; rfl
   rw [hid] at cw;rw [ecl] at cl;rw [<-hp] at hin hout;refine go tt [.g 16 true (decide_eq_true (by omega)),.t (decide_eq_true (by omega)),.x (Qo8 hzi),.c [] (Zji (z:=z)),.x (Qo8 hzi),.c [] cw,.f rfl,.t rfl,.x (Qo8 hzi),.c [] cl] rfl trivial ?_;refine lp (S:=Nat) 3 (λL1 k=>(57,.v (.one (.int .i64 (k:Int))))::(10,.v (.one (.bool ((O.take k).any (λx=>decide (x.id=p.id))))))::L1) (λ_=>[.row false 135 5 (Uy O),.row false 57 7 (Fg (O.map Pt.nrm)),.blk 135 [pl p.c.x,pl p.c.y,sg p.c.d,mg p.c.d,.int .i64 p.id]]) (λk=>O.length-k) (λk=>k<=O.length) 0 (Qi _) rfl (λ_ _=>rfl) rfl λk hk=>?_
   by_cases hk2:k<O.length
   ·obtain ⟨x,hx⟩:=gxE (l:=O) (i:=k) hk2;have ha:=Q3a (f:=λx=>decide (x.id=p.id)) hx;cases hb:(O.take k).any (λx=>decide (x.id=p.id)) with
    |
     true =>
     rw [hb,Bool.true_or] at ha;exact go tt [.t (decide_eq_true (by omega)),.g 61 true rfl] rfl (by simp [W9]; omega) (rd (k+1) (by omega) hk2 (by rw [ha]; rfl))
    |
     false =>
     rw [hb,Bool.false_or] at ha;exact go tt [.t (decide_eq_true (by omega)),.g 61 false rfl,.i k,.x (B9 hx)] rfl (by simp [W9,hpl]; omega) (rd (k+1) (by omega) hk2 (by rw [ha]; rfl))
   have hk3:O.take k=O:=Qn (by omega);rw [hk3];cases hb:O.any (λx=>decide (x.id=p.id)) with
   |
    true =>
    refine go tt [.f (decide_eq_false (by omega)),.f rfl] rfl (by simp [W9]; omega) ?_;exact rd (i+1) (by omega) h1 (by rw [hin hb]; rfl)
   |
    false =>
    have cf:=Q4u (k:=p.c) (id:=p.id) (by rw [hp]; exact Zg0 (by decide) z);have hm1:∀ y∈[Gp p],y.length=5:=λy hy=>by rw [Qt.1 hy]; rfl
    have hm2:∀ y∈[D6 p.nrm],y.length=7:=λy hy=>by rw [Qt.1 hy]; rfl
    have e1:Uy (O++[p])=Uy O++[Gp p]:=by simp [Uy]
    have e2:Fg ((O++[p]).map Pt.nrm)=Fg (O.map Pt.nrm)++[D6 p.nrm]:=by simp [Fg]
    refine go tt [.f (decide_eq_false (by omega)),.t rfl,.s (sz:=5) hm1,.c [] cf,.s (sz:=7) hm2] rfl (by simp [W9,hpl,hrl]; omega) ?_;exact rd (i+1) (by omega) h1 (by rw [hout hb,e1,e2]; rfl)
  ·rw [hend (λh=>h2 h.2)];rw [hend (λh=>h2 h.2)] at h2;have hpl:=Bb (Qex 4 20 zs);exact ed tt [] [0,1] [.g 16 true (decide_eq_true (by omega)),.f (decide_eq_false (by omega))] rfl trivial
 ·rw [hend (λh=>h1 h.1)];exact ed tt [] [0,1] [.g 16 false (decide_eq_false (by omega)),.f rfl] rfl trivial
abbrev plZ (M:List Pt) (q:Rat):List LV:=.row (Fg M)::(fr q++[.nils,.nils,.nils,.bool false,.nils,.bool false,.nils,.bool false,.nils,.bool false,.nils,.int .i64 0,.nils])
abbrev plB (M:List Pt) (q:Rat) (c:List (List Int)) (w:List Ct):List LV:=.row (Fg M)::(fr q++(aq q c++[.row (Ro w),.int .i64 0,.nils]))
end Orr
namespace Orr
open Go Go.Proofs Orq
set_option maxRecDepth 10000
theorem Zb1 {O:List Pt} {e j:Nat} (h:Lr (Tw O e)) (hj:j<=e):Lr (Tw O j):=by
 have:Tw O j=(Tw O e).take j:=by unfold Tw; rw [<-List.map_take,List.take_take,Nat.min_eq_left hj]
 rw [this];exact List.Pairwise.sublist (Wj _ _) h
theorem Zg2 (O:List Pt):∃ e,e<=O.length/\Lr (Tw O e)/\(e<O.length->¬Lr (Tw O (e+1))):=by
 have key:∀ k,Lr (Tw O k)\/∃ e,e<k/\Lr (Tw O e)/\¬Lr (Tw O (e+1)):=by
  intro k
  induction k with
  | zero=>exact .inl List.Pairwise.nil
  |
   succ k ih =>
   rcases ih with h | ⟨e,h1,h2,h3⟩
   ·by_cases h4:Lr (Tw O (k+1))
    ·exact .inl h4
    ·exact .inr ⟨k,Nat.lt_succ_self k,h,h4⟩
   ·exact .inr ⟨e,by omega,h2,h3⟩
 rcases key O.length with h | ⟨e,h1,h2,h3⟩
 ·exact ⟨O.length,Qk _,h,λh=>absurd h (Wg _)⟩
 ·exact ⟨e,by omega,h2,λ_=>h3⟩
theorem Qot {O:List Pt} {i:Nat} {p:Pt} (h:O[i]? = some p):(Uy (mix O i)).set i [pl p.c.x,pl p.c.y,sg p.c.d,mg p.c.d,.int .i64 p.m5.id]=Uy (mix O (i+1)):=by
 rw [<-Qzb h]; simp only [Uy,Vm]; rfl
theorem Qke {O:List Pt} {i:Nat} {p:Pt} (h:O[i]? = some p):(Fg ((mix O i).map Pt.nrm)).set i [rp (rxs p.nrm.c.x p.nrm.c.d),rp (rxs p.nrm.c.y p.nrm.c.d),pl p.nrm.c.x,pl p.nrm.c.y,sg p.nrm.c.d,mg p.nrm.c.d,.int .i64 p.m5.id]=Fg ((mix O (i+1)).map Pt.nrm):=by
 rw [<-Qzb h]; simp only [Fg,Vm]; rfl
theorem Q2a {O:List Pt} {e i:Nat} (h:e<=i) (hi:i<=O.length):(Uy (mix O i)).take e=Uy (Tw O e):=by
 unfold Uy; rw [<-List.map_take,Qrx h hi]; rfl
theorem Qwf {O:List Pt} {e i:Nat} (h:e<=i) (hi:i<=O.length):(Fg ((mix O i).map Pt.nrm)).take e=Fg (Qas O e):=by
 unfold Fg; rw [<-List.map_take,<-List.map_take,Qrx h hi]; rfl
theorem Qrw {O:List Pt}:mix O O.length=Tw O O.length:=by unfold mix Tw; simp
abbrev A2 (n d:Int):Rat:=Fx (Ik n 61-30) (1+Ik d 6)
theorem Qmk (n d:Int):Qs 100 (A2 n d):=by
 have h1:Ik n 61=n % 61:=rfl;have h2:Ik d 6=d % 6:=rfl;unfold A2 Fx;rw [if_neg (by omega)];exact Qs.divInt (Qa (Rl.2 (show (Ik n 61-30).natAbs<2^10 by omega)) (by decide)) (Qa (Rl.2 (show (1+Ik d 6).natAbs<2^10 by omega)) (by decide)) (by decide)
theorem Zdi {n:Nat} {most:Int} {l:List RawPt}:∀ p∈Qex n most l,0≤p.id/\p.id<1000:=λp hp=>by
 rcases Qcd _ _ hp with h | h
 ·cases h
 ·obtain ⟨z,_,rfl⟩:=Zk.1 h;exact ⟨Vz _ (by decide),Yz _ (by decide)⟩
end Orr
