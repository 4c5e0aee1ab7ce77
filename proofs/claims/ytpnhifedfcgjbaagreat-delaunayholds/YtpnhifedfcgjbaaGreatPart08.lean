/- K3 K4 S1 S2 S3 R5 R6 RefGL R7 RatOkL R8 R9 RefCL R10 RawL NewsL KGoL SortQ BegL R11 R12 R13 R14 R15 R16 R17 R18 PairN PairQ SplitL PW1 R21 -/
import Derived.Test.YtpnhifedfcgjbaaGreatPart07
import Derived.Test.YtpnhifedfcgjbaaGreatPart00
import Derived.Test.YtpnhifedfcgjbaaGreatPart05
set_option linter.all false
namespace Orr
open Go Go.Proofs Orq
set_option maxRecDepth 10000
def Bj (now:Tm):List Wt->Option (List Wt)
 | []=>some []
 | w::l=>(if w.known=true then some w else (Qh0 w.c.p now).bind λr=>some ⟨w.c,true,r⟩).bind λw'=>(Bj now l).bind λr=>some (w'::r)
theorem Qbq {now:Tm}:∀ {l ws:List Wt},Bj now l=some ws->ws.length=l.length/\∀ (i:Nat) (w:Wt),l[i]? = some w->∃ v,ws[i]? = some v/\(w.known=true/\v=w\/w.known=false/\∃ r,Qh0 w.c.p now=some r/\v=⟨w.c,true,r⟩)
 | [],ws,h=>by injection h with h; subst h; exact ⟨rfl,λi x hx=>by simp at hx⟩
 |
  y::l,ws,h=>by
  simp only [Bj] at h;obtain ⟨v,hv,h⟩:=Qf.1 h;obtain ⟨r,hr,h⟩:=Qf.1 h;injection h with h; subst h;obtain ⟨a,b⟩:=Qbq hr;refine ⟨by simp [a],λi x hx=>?_⟩;cases i with
  |
   zero =>
   injection hx with hx; subst hx;refine ⟨v,rfl,?_⟩
   split at hv
   ·rename_i hk; injection hv with hv; exact .inl ⟨hk,hv.symm⟩
   ·rename_i hk;obtain ⟨q,hq,hv⟩:=Qf.1 hv;injection hv with hv;exact .inr ⟨by simpa using hk,q,hq,hv.symm⟩
  | succ i=>exact b i x (by simpa using hx)
theorem Q7e {p:List Int} {a:Tm} {r:Option Tm} (hp:Cp p) (ha:Va a) (h:Qh0 p a=some r):Uk Tryz.prog 132 [pr p,.agg (ta a)] [.agg (ota r),.one (.bool r.isSome)]:=by
 obtain ⟨l,l1,l2,l3,_⟩:=Qba hp;unfold Qh0 at h;rw [l1] at h;exact Zev (Dp.pb hp.dp) ha.tb l1 (by omega) (λt ht=>(l3 t ht).tb) h
theorem Zey {T:Nat} {c:Cr} {r0 r1:List (List LV)} {ws:List Wt} (hc:CrOk c) (h:Bj c.now c.l=some ws):Ht Tryz.prog 74 [.one (.ow 0 0)] [.blk T (M3 c r0 r1)] [] [.blk T (M3 { c with l:=ws } r0 r1)]:=by
 have hk:=hc.k;have hw:=Nx c.l;obtain ⟨h1,h2⟩:=Qbq h;refine Gm Tryz.func74 rfl ?_;refine go tt [.o 2 146 18,.c [0] (Qxb hc.n)] rfl trivial ?_;refine lp (S:=Nat) 3 (λL1 i=>(13,.v (.one (.int .i64 (i:Int))))::(2,.v (.one (.orow 1 18 none)))::L1) (λi=>[.blk T (M3 c r0 r1),.row false 146 18 (Og (ws.take i)),.blk 79 (ta c.now)]) (λi=>c.l.length-i) (λi=>i<=c.l.length) 0 (Qh _) rfl (λ_ _=>rfl) rfl λi hi=>?_
 by_cases hlt:i<c.l.length
 ·obtain ⟨w,hx⟩:=gxE (l:=c.l) (i:=i) hlt;obtain ⟨v,hv,h3⟩:=h2 i w hx;have hm:∀ y∈[wl v],y.length=18:=λy hy=>by rw [Ql.1 hy]; rfl
  have hg:=Qhe hv;have hl:decide ((i:Int)<((Og c.l).length:Int))=true:=by simp [hw]; omega
  rcases h3 with ⟨k1,rfl⟩ | ⟨k1,r,k2,rfl⟩
  ·obtain ⟨vc,vk,vf⟩:=v;cases vf <;> (refine go tt [.t hl,.x (Ti hx),.f (by rw [show vk=true from k1]; rfl),.s (sz:=18) hm] rfl (by simp [Ui,Nx]; omega) ?_; exact rd (i+1) (by omega) hlt (by rw [hg]; rfl))
  ·have cg:=Q7e (hc.l w (Qa hx)).p hc.n k2;obtain ⟨wc,wk,wf⟩:=w;cases r <;> cases wf <;> (refine go tt [.t hl,.x (Ti hx),.t (by rw [show wk=false from k1]; rfl),.c [] cg,.s (sz:=18) hm] rfl (by simp [Ui,Nx]; omega) ?_; exact rd (i+1) (by omega) hlt (by rw [hg]; rfl))
 ·obtain rfl:i=c.l.length:=by omega
  rw [<-h1,Q4];exact ed tt [1] [0] [.f (by simp [hw,h1])] rfl trivial
def Qlj (ws:List Wt):Option (Option Tm):=match ws.filterMap (·.fails) with
 | []=>some none
 | b::l=>(I4 b l).map some
theorem Qbr {c:Cr} {ws:List Wt} (hc:CrOk c) (h:Bj c.now c.l=some ws):CrOk { c with l:=ws }:=by
 obtain ⟨h1,h2⟩:=Qbq h;refine ⟨hc.n,λv hv=>?_,by show ws.length<=1000; rw [h1]; exact hc.k⟩;obtain ⟨i,hi⟩:=Jb hv;have hil:i<c.l.length:=by rw [<-h1]; exact (Qd.1 hi).1
 obtain ⟨v',h3,h4⟩:=h2 i _ (Qe hil);rw [hi] at h3; injection h3 with h3; subst h3;have hw:=hc.l _ (Xw hil);rcases h4 with ⟨_,rfl⟩ | ⟨_,r,k2,rfl⟩
 ·exact hw
 ·obtain ⟨r',r1,r2⟩:=Za5 hw.p hc.n;rw [k2] at r1; injection r1 with r1; subst r1;refine ⟨hw.p,λt ht=>?_⟩;have ht:r=some t:=ht;subst ht;exact r2.2.1
theorem Qpw {T:Nat} {c:Cr} {r0 r1:List (List LV)} {ws:List Wt} {r:Option Tm} (hc:CrOk c) (h:Bj c.now c.l=some ws) (hr:Qlj ws=some r):Ht Tryz.prog 29 [.one (.ow 0 0)] [.blk T (M3 c r0 r1)] [.agg (ota r),.one (.bool r.isSome)] [.blk T (M3 { c with l:=ws } r0 r1)]:=by
 have hcl:=Zey (T:=T) (r0:=r0) (r1:=r1) hc h;have hc':=Qbr hc h;have hk:=hc'.k;have hw:=Nx ws;have hvb:∀ t∈ws.filterMap (·.fails),Tb t:=λt ht=>by
  obtain ⟨w,w1,w2⟩:=Jm.1 ht;exact ((hc'.l w w1).f t w2).tb
 refine Gm Tryz.func29 rfl ?_;refine go tt [.c [0] hcl,.o 4 79 9] rfl trivial ?_;refine lp (S:=Nat) 3 (λL1 i=>(14,.v (.one (.int .i64 (i:Int))))::(4,.v (.one (.orow 2 9 none)))::L1) (λi=>[.blk T (M3 { c with l:=ws } r0 r1),.blk 79 zTm,.row false 79 9 (tal ((ws.take i).filterMap (·.fails)))]) (λi=>ws.length-i) (λi=>i<=ws.length) 0 (Qh _) rfl (λ_ _=>rfl) rfl λi hi=>?_
 by_cases hlt:i<ws.length
 ·obtain ⟨w,hx⟩:=gxE (l:=ws) (i:=i) hlt;have hl:decide ((i:Int)<((Og ws).length:Int))=true:=by simp [hw]; omega
  have hfl:((ws.take i).filterMap (·.fails)).length<=i:=Qc (Kg _ _) (by rw [Qx]; omega);have hg:(ws.take (i+1)).filterMap (·.fails)=(ws.take i).filterMap (·.fails)++(match w.fails with | none=>[] | some t=>[t]):=by
   rw [Zw,hx,List.filterMap_append];show _++List.filterMap (·.fails) [w]=_;cases hwf:w.fails <;> simp [hwf]
  obtain ⟨wc,wk,wf⟩:=w;have hk:ws.length<=1000:=hk;cases wf with
  |
   none =>
   refine go tt [.t hl,.x (Ti hx),.f rfl] rfl (by simp [Ui]; omega) ?_;exact rd (i+1) (by omega) hlt (by rw [hg]; simp; rfl)
  |
   some t =>
   refine go tt [.t hl,.x (Ti hx),.t rfl,.s (l:=[ta t]) (sz:=9) (λc hc=>by rw [Ql.1 hc]; rfl)] rfl (by simp [Ui]; omega) ?_;exact rd (i+1) (by omega) hlt (by rw [hg]; simp [tal]; rfl)
 ·obtain rfl:i=ws.length:=by omega
  rw [Q4];have hf:decide ((ws.length:Int)<((Og ws).length:Int))=false:=by simp [hw]
  have hln:(ws.filterMap (·.fails)).length<=1000:=Qc (Kg _ _) hk;unfold Qlj at hr;cases hfm:ws.filterMap (·.fails) with
  |
   nil =>
   rw [hfm] at hr;injection hr with hr; subst hr;exact ed tt [] [0] [.f hf,.p 2,.c [] Q7k] rfl trivial
  |
   cons b l =>
   rw [hfm] at hr hvb hln;obtain ⟨m,m1,rfl⟩:=Vl.1 hr;have cl:=Af (hvb b (Qr ..)) (λt ht=>hvb t (Qj _ ht)) (by simp at hln; omega) m1;exact ed tt [] [0] [.f hf,.p 2,.c [] cl] rfl trivial
theorem Qlb {at_:Tm} {x:Ct}:∀ {l:List Wt} {w:Wt},Ll l x at_=some w->w=fresh x\/∃ v∈l,v.known=true/\v.c.p=x.p/\w=⟨x,true,v.fails⟩/\∀ t,v.fails=some t->∃ c,Qie t at_=some c/\0<c
 | [],w,h=>by simp only [Ll] at h; injection h with h; exact .inl h.symm
 |
  v::l,w,h=>by
  simp only [Ll] at h;have tl:Ll l x at_=some w->w=fresh x\/∃ v'∈v::l,v'.known=true/\v'.c.p=x.p/\w=⟨x,true,v'.fails⟩/\∀ t,v'.fails=some t->∃ c,Qie t at_=some c/\0<c:=λh=>by
   rcases Qlb h with h | ⟨v',h1,h2⟩
   ·exact .inl h
   ·exact .inr ⟨v',Qj _ h1,h2⟩
  split at h
  ·rename_i hk;cases hf:v.fails with
   |
    none =>
    rw [hf] at h;injection h with h;exact .inr ⟨v,Qr ..,hk.2.1,hk.2.2,by rw [hf]; exact h.symm,λt ht=>by rw [hf] at ht; cases ht⟩
   |
    some t =>
    rw [hf] at h;obtain ⟨c,c1,h⟩:=Qf.1 h
    split at h
    ·rename_i h0;injection h with h;exact .inr ⟨v,Qr ..,hk.2.1,hk.2.2,by rw [hf]; exact h.symm,λu hu=>by rw [hf] at hu; injection hu with hu; subst hu; exact ⟨c,c1,h0⟩⟩
    ·exact tl h
  ·exact tl h
theorem lay_ok {c:Cr} {at_:Tm} {l:List Ct} {ws:List Wt} (ev:Int) (hc:CrOk c) (ha:Va at_) (hl:∀ x∈l,Cp x.p) (hn:l.length≤1000) (h:Qee c.l at_ (G5 l)=some ws):CrOk ⟨at_,ws,ev⟩:=by
 obtain ⟨h1,h2⟩:=Qef h;refine ⟨ha,λw hw=>?_,by show ws.length<=1000; rw [h1,D4]; exact hn⟩;obtain ⟨i,hi⟩:=Jb hw;have hil:i<(G5 l).length:=by rw [<-h1]; exact (Qd.1 hi).1
 obtain ⟨v,h3,h4⟩:=h2 i _ (Qe hil);rw [hi] at h4; injection h4 with h4; subst h4;have hx:=hl _ (Qg8 (Xw hil));rcases Qlb h3 with e | ⟨v,v1,_,v3,e,_⟩
 ·rw [e]; exact ⟨hx,λt ht=>by cases ht⟩
 ·rw [e]; exact ⟨hx,λt ht=>(hc.l v v1).f t ht⟩
def goF {β:Type} (Bc:Tm->List Ct) (Br:Tm->β) (t:Rat):Nat->Cr->β->Int->Option (Cr×β×Int)
 | 0,_,_,_=>none
 |
  k+1,c,r,n=>(Bj c.now c.l).bind λws=>(Qlj ws).bind λo=>match o with
  | none=>some (⟨tq t,ws,c.ev⟩,r,n)
  | some a=>if 0<U0 a t then some (⟨tq t,ws,c.ev⟩,r,n) else (Qee ws a (G5 (Bc a))).bind λw2=>goF Bc Br t k ⟨a,w2,c.ev+1⟩ (Br a) (n+1)
theorem Za8 {ws:List Wt} {a:Tm} (h:Qlj ws=some (some a)) (hv:∀ t∈ws.filterMap (·.fails),Va t):a∈ws.filterMap (·.fails)/\∀ t∈ws.filterMap (·.fails),¬Pw t a:=by
 unfold Qlj at h;cases hf:ws.filterMap (·.fails) with
 | nil=>rw [hf] at h; injection h with h; cases h
 |
  cons b l =>
  rw [hf] at h hv;obtain ⟨m,m1,m2⟩:=Vl.1 h;injection m2 with m2; subst m2;obtain ⟨m',n1,n2,n3⟩:=Qgq l b hv;rw [m1] at n1; injection n1 with n1; subst n1;exact ⟨n2,n3⟩
theorem Zl3 {c:Cr} {ws:List Wt} {a:Tm} (hc:CrOk c) (h:Bj c.now c.l=some ws) (hr:Qlj ws=some (some a)):Va a:=by
 have hc':=Qbr hc h;have hv:∀ t∈ws.filterMap (·.fails),Va t:=λt ht=>by
  obtain ⟨w,w1,w2⟩:=Jm.1 ht;exact (hc'.l w w1).f t w2
 exact hv a (Za8 hr hv).1
structure BuildOk (Bc:Tm->List Ct):Prop where
 p:∀ a,Va a->∀ x∈Bc a,Cp x.p
 n:∀ a,Va a->(Bc a).length<=1000
theorem Qna {T:Nat} {c:Cr} {r0 r1:List (List LV)}:Ht Tryz.prog 22 [.one (.ow 0 0)] [.blk T (M3 c r0 r1)] [.one (.int .i64 c.ev)] [.blk T (M3 c r0 r1)]:=by
 refine Gm Tryz.func22 rfl ?_;exact ed tt [] [0] [] rfl trivial


abbrev idl (l:List Int):List (List LV):=l.map λ(z:Int)=>[.int .i64 z]
theorem Zgi {l:List Int} {i:Nat} {z:Int} (h:l[i]? = some z):(idl l)[i]? = some [.int .i64 z]:=Gh h
def Ox (v n:Int):Int:=if n<1 then 0 else v.emod n
theorem Q6a {v n:Int} (h:0<n):(if v.tmod n<0 then v.tmod n+n else v.tmod n)=v % n:=by
 have h3:=V9 v (show n≠0 by omega);have h4:=Vd v h;have h1:=Int.tmod_eq_emod (a:=v) (b:=n);have hn:((n.natAbs:Nat):Int)=n:=by omega
 split at h1
 ·rw [h1]; simp; omega
 ·rename_i hc;rw [h1,hn];have:v % n≠0:=λe=>hc (.inr (Yp e))
  rw [if_pos (by omega)]; omega
theorem Qdx {v n:Int} (hv:-9223372036854775808<=v/\v<=9223372036854775807) (hn:n<=1000000000):Uk Tryz.prog 34 [.one (.int .i64 v),.one (.int .i64 n)] [.one (.int .i64 (Ox v n))]:=by
 unfold Ox;by_cases h:n<1
 ·rw [if_pos h];exact w tt Tryz.func34 rfl [.t (by simpa using h)] rfl rfl trivial
 ·rw [if_neg h];have e:=Q6a (v:=v) (n:=n) (by omega);have h3:=V9 v (show n≠0 by omega);have h4:=Vd v (show 0<n by omega);show Uk Tryz.prog 34 [.one (.int .i64 v),.one (.int .i64 n)] [.one (.int .i64 (v % n))];by_cases h0:v.tmod n<0
  ·rw [if_pos h0] at e;have b:-n<=v.tmod n:=by omega
   exact w tt Tryz.func34 rfl [.f (by simpa using h),.t (by simpa using h0)] rfl (by rw [e]) (by simp [Ui]; omega)
  ·rw [if_neg h0] at e;exact w tt Tryz.func34 rfl [.f (by simpa using h),.f (by simpa using h0)] rfl (by rw [e]) (by simp [Ui]; omega)
end Orr
namespace Orr
open Go Go.Proofs
set_option maxRecDepth 10000
def frow (p:List Rat):List (List LV):=p.map fr
theorem Tc (p:List Rat):(frow p).length=p.length:=by simp [frow]
theorem Li {p:List Rat} {i:Nat} {q:Rat} (h:p[i]? = some q):(frow p)[i]? = some (fr q):=Gh h
theorem Qn6 (p:List Rat) (q:Rat):frow (p++[q])=frow p++[fr q]:=by simp [frow]
theorem Qgd (p:List Rat):∀ c∈frow p,c.length=4:=λc hc=>by obtain ⟨x,_,rfl⟩:=Za.1 hc; rfl
abbrev rp (p:List Rat):LV:=.row (frow p)
theorem Qy2 (q:Rat):∀ c∈[fr q],c.length=4:=λc hc=>by rw [Ql.1 hc]; rfl
theorem Q77:Uk Tryz.prog 112 [] [.agg (fr 0)]:=w tt Tryz.func112 rfl [.c [] (Qj0 (n:=0) (by decide))] rfl rfl trivial
theorem O4 {p:List Rat}:Uk Tryz.prog 73 [.one (rp p)] [.one (rp (Bn p))]:=by
 refine Gm Tryz.func73 rfl (ln 0 rfl rfl λhl=>?_);rw [Tc] at hl;have hpl:=Tc p;refine go tt [] rfl trivial ?_;refine lp (S:=Nat) 0 (λL1 n=>(3,.v (.one (.int .i64 (n:Int))))::L1) (λ_=>[]) id (λn=>n<=p.length/\∀ j x,n<=j->p[j]? = some x->x=0) (frow p).length ⟨by rw [hpl]; exact Qm _,λj x h1 h2=>by
  have:=(Qd.1 h2).1; rw [hpl] at h1; omega⟩ rfl (λ_ _=>rfl) rfl λn hs=>?_
 obtain ⟨h1,h2⟩:=hs;cases n with
 |
  zero =>
  have e:=Qg6 h1 (λj x h=>h2 j x h) (λh=>absurd h (by decide));exact en tt [.g 8 false (by simp),.f rfl,.i 0] rfl (by rw [e]; rfl) (by simp [Ui])
 |
  succ n =>
  obtain ⟨x,hx⟩:=gxE (l:=p) (i:=n) (by omega);have hn:=Rat.num_eq_zero (q:=x);by_cases h0:x=0
  ·refine go tt [.g 8 true (by simp),.r 11 (eI (b:=(n:Int)) (by simp)),.x (Li hx),.c [] (Mg (z:=x.num)),.t (decide_eq_true (hn.2 h0)),.r 18 (eI (b:=(n:Int)) (by simp))] rfl (by simp [Ui]; omega) ?_;exact rd n (by simp) ⟨by omega,λj y h3 h4=>by
    rcases Vf h3 with rfl | h3
    ·rw [hx] at h4; injection h4 with h4; rw [<-h4,h0]
    ·exact h2 j y h3 h4⟩ rfl
  ·have e:=Qg6 h1 (λj x h=>h2 j x h) (λ_=>⟨x,hx,h0⟩);exact en tt [.g 8 true (by simp),.r 11 (eI (b:=(n:Int)) (by simp)),.x (Li hx),.c [] (Mg (z:=x.num)),.f (decide_eq_false λh=>h0 (hn.1 h)),.i (n+1)] rfl (by rw [e]; simp [rp,frow,Yn]) (by simp [Ui,hpl] <;> omega)
theorem Zjd {p:List Rat} {i:Nat} (hi:i<1099511627776):Uk Tryz.prog 111 [.one (rp p),.one (.int .i64 (i:Int))] [.agg (fr (p.getD i 0))]:=by
 have hpl:=Tc p;by_cases h:i<p.length
 ·have e:p.getD i 0=p[i]:=by rw [Qg,Qe h]; rfl
  rw [e];exact w tt Tryz.func111 rfl [.g 7 false (decide_eq_false (by omega)),.f (decide_eq_false (by omega)),.x (Li (Qe h))] rfl rfl trivial
 ·have e:p.getD i 0=0:=by rw [Qg,Qt (by omega)]; rfl
  rw [e];exact w tt Tryz.func111 rfl [.g 7 false (decide_eq_false (by omega)),.t (decide_eq_true (by omega)),.c [] Q77] rfl rfl trivial
theorem Qxu:Uk Tryz.prog 108 [.one (ids [1])] [.one (rp (zp [1]))]:=by
 have cc:=O4 (p:=zp [1]);rw [Ny,show trim [1]=[1] from rfl] at cc;refine Gm Tryz.func108 rfl ?_;refine go tt [.o 3 35 4] rfl trivial ?_;refine lp (S:=Nat) 1 (λL1 i=>(7,.v (.one (.int .i64 (i:Int))))::(3,.v (.one (.orow 0 4 none)))::L1) (λi=>[.row false 35 4 (frow ((zp [1]).take i))]) (λi=>1-i) (λi=>i<=1) 0 (by decide) rfl (λ_ _=>rfl) rfl λi hi=>?_
 rcases (show i=0\/i=1 by omega) with rfl | rfl
 ·refine go tt [.t rfl,.x (l:=idl [1]) (i:=0) (xs:=[.int .i64 1]) rfl,.c [] (Qj0 (n:=1) (by decide)),.s (sz:=4) (Qy2 _)] rfl (by simp [Ui,frow]) ?_;exact rd 1 (by omega) (by omega) rfl
 ·exact en tt [.f rfl,.c [] cc] rfl rfl trivial
theorem Ef {p:List Int} (hb:Bd 90000000 p) (hl:p.length<=1000000):Uk Tryz.prog 28 [pr p] [.one (rp (zp (trim p)))]:=by
 have hpl:(p.map Gk).length=p.length:=by simp
 have cc:=O4 (p:=zp p);rw [Ny] at cc;show Uk Tryz.prog 28 [.one (.row (p.map Gk))] _;refine Gm Tryz.func28 rfl ?_;refine go tt [.o 3 35 4] rfl trivial ?_;refine lp (S:=Nat) 1 (λL1 i=>(7,.v (.one (.int .i64 (i:Int))))::(3,.v (.one (.orow 0 4 none)))::L1) (λi=>[.row false 35 4 (frow (zp (p.take i)))]) (λi=>p.length-i) (λi=>i<=p.length) 0 (Qh _) rfl (λ_ _=>rfl) rfl λi hi=>?_
 have hol:(frow (zp (p.take i))).length=i:=by rw [Tc,Su,Qx]; omega
 by_cases h:i<p.length
 ·obtain ⟨z,hz⟩:=gxE (l:=p) (i:=i) h;have hzb:=hb z (Qa hz);have hg:frow (zp (p.take (i+1)))=frow (zp (p.take i))++[fr (z:Rat)]:=by
   rw [Zw,hz]; simp [frow,zp]
  refine go tt [.t (decide_eq_true (by omega)),.x (Gh (f:=Gk) hz),.c [] (Qf1 (z:=z) (by omega)),.c [] (C7 (n:=1) (by decide)),.c [] (P6 (n:=z)),.s (sz:=4) (Qy2 _)] rfl (by simp [Ui,hol,-List.getD_eq_getElem?_getD]; omega) ?_;exact rd (i+1) (by omega) h (by rw [hg]; rfl)
 ·have e:i=p.length:=by omega
  rw [e,Q4];exact en tt [.f (decide_eq_false (by omega)),.c [] cc] rfl rfl trivial
theorem Zjc {p:List Int} (hb:Bd 90000000 p) (hl:p.length<=1000000):Uk Tryz.prog 229 [.one (rp (zp p))] [pr p]:=by
 have hpl:(frow (zp p)).length=p.length:=by rw [Tc,Su]
 show Uk Tryz.prog 229 [.one (rp (zp p))] [.one (.row (p.map Gk))];refine Gm Tryz.func229 rfl ?_;refine go tt [.o 3 55 2] rfl trivial ?_;refine lp (S:=Nat) 1 (λL1 i=>(7,.v (.one (.int .i64 (i:Int))))::(3,.v (.one (.orow 0 2 none)))::L1) (λi=>[.row false 55 2 ((p.take i).map Gk)]) (λi=>p.length-i) (λi=>i<=p.length) 0 (Qh _) rfl (λ_ _=>rfl) rfl λi hi=>?_
 have hol:((p.take i).map Gk).length=i:=by rw [Q8,Qx]; omega
 by_cases h:i<p.length
 ·obtain ⟨z,hz⟩:=gxE (l:=p) (i:=i) h;have hzb:=hb z (Qa hz);have hq:∀ c∈[Gk z],c.length=2:=λc hc=>by rw [Ql.1 hc]; rfl
  have hg:(p.take (i+1)).map Gk=(p.take i).map Gk++[Gk z]:=by
   rw [Zw,hz]; simp
  refine go tt [.t (decide_eq_true (by omega)),.x (Li (Zd2 hz)),.c [] (Q70 (z:=z) (by omega)),.s (sz:=2) hq] rfl (by simp [Ui]; omega) ?_;exact rd (i+1) (by omega) h (by rw [hg]; rfl)
 ·have e:i=p.length:=by omega
  rw [e,Q4];exact en tt [.f (decide_eq_false (by omega))] rfl rfl trivial
theorem Qxp {p q:List Rat} (hp:Rb 20000000 p) (hq:Rb 20000000 q) (hlp:p.length<=1000000) (hlq:q.length<=1000000):Uk Tryz.prog 55 [.one (rp p),.one (rp q)] [.one (rp (Q5w p q))]:=by
 have h1:=Tc p;have h2:=Tc q;obtain ⟨M,hM⟩:=nmE (max p.length q.length);have cc:=O4 (p:=Ow (λi=>p.getD i 0+q.getD i 0) M);unfold Q5w;rw [<-hM];refine Gm Tryz.func55 rfl ?_;refine go tt [.o 5 35 4] rfl trivial ?_;refine lp (S:=Nat) 1 (λL1 i=>(6,.v (.one (.int .i64 (i:Int))))::(5,.v (.one (.orow 0 4 none)))::L1) (λi=>[.row false 35 4 (frow (Ow (λi=>p.getD i 0+q.getD i 0) i))]) (λi=>M-i) (λi=>i<=M) 0 (Qh _) rfl (λ_ _=>rfl) rfl λi hi=>?_
 have hol:(frow (Ow (λi=>p.getD i 0+q.getD i 0) i)).length=i:=by rw [Tc,Qfe]
 by_cases h:i<M
 ·refine go tt [.r 12 (eI (b:=(M:Int)) (by omega)),.t (decide_eq_true (by omega)),.c [] (Zjd (p:=p) (i:=i) (by omega)),.c [] (Zjd (p:=q) (i:=i) (by omega)),.c [] (Qw7 (hp.getD (by decide) i) (hq.getD (by decide) i)),.s (sz:=4) (Qy2 _)] rfl (by simp [Ui,hol,-List.getD_eq_getElem?_getD]; omega) ?_;exact rd (i+1) (by omega) h (by rw [Qpd,Qn6]; rfl)
 ·have e:i=M:=by omega
  rw [e];exact en tt [.r 12 (eI (b:=(M:Int)) (by omega)),.f (decide_eq_false (by omega)),.c [] cc] rfl rfl trivial
theorem Ah {p:List Rat} {c:Rat} (hp:Rb 40000000 p) (hc:Qs 40000000 c) (hlp:p.length<=1000000):Uk Tryz.prog 156 [.one (rp p),.agg (fr c)] [.one (rp (P0 p c))]:=by
 have h1:=Tc p;have cc:=O4 (p:=Ow (λi=>p.getD i 0*c) p.length);unfold P0;refine Gm Tryz.func156 rfl ?_;refine go tt [.o 5 35 4] rfl trivial ?_;refine lp (S:=Nat) 2 (λL1 i=>(9,.v (.one (.int .i64 (i:Int))))::(5,.v (.one (.orow 1 4 none)))::L1) (λi=>[.blk 35 (fr c),.row false 35 4 (frow (Ow (λi=>p.getD i 0*c) i))]) (λi=>p.length-i) (λi=>i<=p.length) 0 (Qh _) rfl (λ_ _=>rfl) rfl λi hi=>?_
 have hol:(frow (Ow (λi=>p.getD i 0*c) i)).length=i:=by rw [Tc,Qfe]
 by_cases h:i<p.length
 ·have hg:p[i]? = some (p.getD i 0):=by rw [Qg,Qe h]; rfl
  refine go tt [.t (decide_eq_true (by omega)),.x (Li hg),.c [] (Qxc (hp.getD (by decide) i) hc),.s (sz:=4) (Qy2 _)] rfl (by simp [Ui,hol,-List.getD_eq_getElem?_getD]; omega) ?_;exact rd (i+1) (by omega) h (by rw [Qpd,Qn6]; rfl)
 ·have e:i=p.length:=by omega
  rw [e];exact en tt [.f (decide_eq_false (by omega)),.c [] cc] rfl rfl trivial
theorem Qxt {p:List Rat} (hp:Rb 40000000 p) (hlp:p.length<=1000000):Uk Tryz.prog 104 [.one (rp p)] [.one (rp (Qr2 p))]:=by
 have cs:=Ah (p:=p) (c:=-1) hp ⟨by decide,by decide⟩ hlp;have co:=Qj0 (n:=-1) (by decide);rw [show ((-1:Int):Rat)=-1 from rfl] at co;exact w tt Tryz.func104 rfl [.c [] co,.c [] cs] rfl rfl trivial
theorem Zhr {s t:Nat} {a b:Rat} (ha:Qs s a) (hb:Qs t b):Qs (s+t+1) (a*b):=by
 rw [<-Qoj];unfold Gb;rw [if_neg (Jk (Mm a) (Mm b))];have h1:=U6 a.num b.num;have h2:=U6 (a.den:Int) (b.den:Int);have:=ha.1; have:=ha.2; have:=hb.1; have:=hb.2;exact Qs.divInt (by omega) (by omega) (by omega)
theorem Zb5 {s:Nat} {p:List Rat} (hp:Rb s p):Rb (s+2) (Qr2 p):=by
 unfold Qr2 P0;refine Rb.trim (Zik λi hi=>?_);have h1:Qs (s+0) (p.getD i 0):=by
  have hi:i<p.length:=hi;rw [Qg,Qe hi];exact hp _ (Xw hi)
 have:=Zhr h1 (show Qs 1 (-1:Rat) from ⟨by decide,by decide⟩);exact this.mono (by omega)
theorem Qv1 (p:List Rat):(Qr2 p).length<=p.length:=by
 unfold Qr2 P0;exact Qc (Qo7 _) (by rw [Qfe]; exact Qm _)
theorem Q8h {p q:List Rat} (hp:Rb 19000000 p) (hq:Rb 19000000 q) (hlp:p.length<=1000000) (hlq:q.length<=1000000):Uk Tryz.prog 106 [.one (rp p),.one (rp q)] [.one (rp (Ql5 p q))] :=
 w tt Tryz.func106 rfl [.c [] (Qxt (hq.mono (by decide)) hlq),.c [] (Qxp (hp.mono (by decide)) ((Zb5 hq).mono (by decide)) hlp (Qc (Qv1 q) hlq))] rfl rfl trivial
theorem Q7n {a b:Int} (ha:Uv a<=40000000) (hb:Uv b<=40000000):Uk Tryz.prog 107 [.agg (fr (a:Rat)),.agg (fr (b:Rat))] [.agg (fr ((a*b:Int):Rat))]:=by
 have h:=Qxc (C0 ha (by decide)) (C0 hb (by decide));rw [<-X1] at h; exact h
theorem Zkn {a b:Int} (ha:Uv a<=20000000) (hb:Uv b<=20000000):Uk Tryz.prog 110 [.agg (fr (a:Rat)),.agg (fr (b:Rat))] [.agg (fr ((a+b:Int):Rat))]:=by
 have h:=Qw7 (C0 ha (by decide)) (C0 hb (by decide));rw [<-Ke] at h; exact h
theorem Qt6 (l:List Int) (i:Nat) (z:Int):(frow (zp l)).set i (fr (z:Rat))=frow (zp (l.set i z)):=by simp [frow,zp,Yz]
theorem Zd3 {p:List Int} {i:Nat} (h:i<p.length):(zp p)[i]? = some ((p.getD i 0:Int):Rat):=Zd2 (Hq h)
theorem Rf {p:List Int} {i:Nat} (h:i<p.length):(frow (zp p))[i]? = some (fr ((p.getD i 0:Int):Rat)):=Li (Zd3 h)
theorem fzl (p:List Int):(frow (zp p)).length=p.length:=by rw [Tc,Su]
abbrev zR:List LV:=[.nils,.bool false,.nils,.bool false]
theorem Qqp {n i:Nat} (h:i<n):(List.replicate i (fr 0)++List.replicate (n-i) zR).set i (fr 0)=List.replicate (i+1) (fr 0)++List.replicate (n-(i+1)) zR:=by
 rw [List.set_append_right _ _ (by simp),Jj,Yl,show n-i=n-(i+1)+1 by omega,Ya (n:=n-(i+1)),List.set_cons_zero,List.replicate_succ' (n:=i),Zg]; rfl
theorem Qmn (n:Nat):List.replicate n (fr 0)++List.replicate (n-n) zR=frow (zp (List.replicate n 0)):=by simp [zp,frow]
theorem Qcu {p q:List Int} {s t:Nat} (hlp:p.length<=1000000) (hlq:q.length<=1000000) (hp:Bd s p) (hq:Bd t q) (hst:s+t<=19000000):Uk Tryz.prog 56 [.one (rp (zp p)),.one (rp (zp q))] [.one (rp (zp (U5 p q)))]:=by
 have hpl:=fzl p;have hql:=fzl q;rcases Qz p.length with h0 | h0
 ·have e:U5 p q=[]:=by unfold U5; rw [if_pos (.inl h0)]
  rw [e];exact w tt Tryz.func56 rfl [.g 12 true (decide_eq_true (by omega)),.t rfl] rfl rfl trivial
 rcases Qz q.length with h1 | h1
 ·have e:U5 p q=[]:=by unfold U5; rw [if_pos (.inr h1)]
  rw [e];exact w tt Tryz.func56 rfl [.g 12 false (decide_eq_false (by omega)),.t (decide_eq_true (by omega))] rfl rfl trivial
 have e:U5 p q=trim (Cx p q (List.replicate (p.length+q.length-1) 0) p.length):=by unfold U5; rw [if_neg (by omega)]
 rw [e];obtain ⟨N,hN⟩:=nmE (p.length+q.length-1);rw [<-hN];obtain ⟨o,ho⟩:=nmE (List.replicate N (0:Int));rw [<-ho];have hol:o.length=N:=by rw [ho]; simp
 have ho0:∀ m,o.getD m 0=0:=λm=>by rw [ho]; exact Rq N m
 have cc:=O4 (p:=zp (Cx p q o p.length));rw [Ny] at cc;refine Gm Tryz.func56 rfl ?_;refine go tt [.g 12 false (decide_eq_false (by omega)),.f (decide_eq_false (by omega)),.r 22 (eI (b:=(N:Int)) (by omega)),.i N,.i N,.r 25 (eI (b:=(N:Int)) (by simp))] rfl (by simp [Ui]; omega) ?_;refine lp (S:=Nat) 1 (λL1 i=>(26,.v (.one (.int .i64 (i:Int))))::L1) (λi=>[.row false 35 4 (List.replicate i (fr 0)++List.replicate (N-i) zR)]) (λi=>N-i) (λi=>i<=N) 0 (Qh _) rfl (λ_ _=>rfl) rfl λi hi=>?_
 by_cases hlt:i<N
 ·refine go tt [.t (decide_eq_true (by omega)),.c [] Q77,.i i] rfl (by simp [Ui]; omega) ?_;rw [Qqp hlt];exact rd (i+1) (by omega) hlt rfl
 have hiN:i=N:=by omega
 rw [hiN,Qmn,<-ho];clear hiN hlt hi;refine go tt [.f (decide_eq_false (by omega))] rfl trivial ?_;refine lp (S:=Nat) 1 (λL1 i=>(36,.v (.one (.int .i64 (i:Int))))::L1) (λi=>[.row false 35 4 (frow (zp (Cx p q o i)))]) (λi=>p.length-i) (λi=>i<=p.length) 0 (Qh _) rfl (λ_ _=>rfl) rfl λi hi=>?_
 by_cases hlt:i<p.length
 ·refine go tt [.t (decide_eq_true (by omega))] rfl trivial ?_;refine lp (S:=Nat) 1 (λL1 k=>(41,.v (.one (.int .i64 (k:Int))))::L1) (λk=>[.row false 35 4 (frow (zp (Ar (p.getD i 0) q i (Cx p q o i) k)))]) (λk=>q.length-k) (λk=>k<=q.length) 0 (Qh _) rfl (λ_ _=>rfl) rfl λk hk=>?_
  by_cases hk2:k<q.length
  ·have hm1:Uv ((Ar (p.getD i 0) q i (Cx p q o i) k).getD (i+k) 0)<=20000000:=Qc (E5 (t:=39) (Qrc (by rw [Cn]; omega) (Qrb (λj hj=>by omega) ho0 (λi j=>P9 (Uw hp i) (Uw hq j))) (λj=>P9 (Uw hp i) (Uw hq j)) (i+k)) (Ki (show i+1<549755813888 by omega) (by decide))) (by omega);have hm2:Uv (p.getD i 0*q.getD k 0)<=20000000:=Qc (U6 _ _) (by have:=Uw hp i; have:=Uw hq k; omega);have hml:(Ar (p.getD i 0) q i (Cx p q o i) k).length=N:=by rw [As,Cn,hol]
   have cm:=Q7n (a:=p.getD i 0) (b:=q.getD k 0) (Qc (Uw hp i) (by omega)) (Qc (Uw hq k) (by omega));have hfl:=fzl (Ar (p.getD i 0) q i (Cx p q o i) k);refine go tt [.t (decide_eq_true (by omega)),.i (i+k),.x (Rf (p:=Ar (p.getD i 0) q i (Cx p q o i) k) (i:=i+k) (by omega)),.x (Rf hlt),.x (Rf hk2),.c [] cm,.c [] (Zkn hm1 hm2),.i (i+k)] rfl (by simp [Ui,hfl,-List.getD_eq_getElem?_getD] <;> omega) ?_;rw [Qt6];exact rd (k+1) (by omega) hk2 rfl
  ·obtain rfl:k=q.length:=by omega
   exact go tt [.f (decide_eq_false (by omega))] rfl (by simp [Ui]; omega) (rd (i+1) (by omega) hlt rfl)
 ·obtain rfl:i=p.length:=by omega
  exact en tt [.f (decide_eq_false (by omega)),.c [] cc] rfl rfl trivial
def Qtz (p:List Int) (n:Nat):List Int:=(List.range n).map λk=>p.getD (k+1) 0*((k+1:Nat):Int)
theorem Q9g (p:List Int) (n:Nat):(Qtz p n).length=n:=by simp [Qtz]
theorem Q40 (p:List Int) (n:Nat):Qtz p (n+1)=Qtz p n++[p.getD (n+1) 0*((n+1:Nat):Int)]:=by simp [Qtz,Wa]
theorem Qsu (p:List Int) (z:Int):frow (zp (p++[z]))=frow (zp p)++[fr (z:Rat)]:=by simp [frow,zp]
theorem Qxr {p:List Int} (hp:Bd 40000000 p) (hl:p.length<=1000000):Uk Tryz.prog 52 [.one (rp (zp p))] [.one (rp (zp (Fe p)))]:=by
 have hpl:=fzl p;have cc:=O4 (p:=zp (Qtz p (p.length-1)));rw [Ny] at cc;refine Gm Tryz.func52 rfl ?_;refine go tt [.o 3 35 4] rfl trivial ?_;refine lp (S:=Nat) 1 (λL1 j=>(4,.v (.one (.int .i64 ((j+1:Nat):Int))))::(3,.v (.one (.orow 0 4 none)))::L1) (λj=>[.row false 35 4 (frow (zp (Qtz p j)))]) (λj=>p.length-j) (λj=>j<=p.length-1) 0 (Qh _) rfl (λ_ _=>rfl) rfl λj hj=>?_
 have hfl:=fzl (Qtz p j);rw [Q9g] at hfl;by_cases h:j+1<p.length
 ·have hk:Uv ((j+1:Nat):Int)<=40000000:=Qc (Qqz (t:=38) (k:=j+1) (Ki (show j+1<274877906944 by omega) (by decide))) (by decide);refine go tt [.t (decide_eq_true (by omega)),.x (Rf h),.c [] (Qj0 (n:=((j+1:Nat):Int)) (by omega)),.c [] (Q7n (Uw hp (j+1)) hk),.s (sz:=4) (Qy2 _)] rfl (by simp [Ui,hfl,-List.getD_eq_getElem?_getD] <;> omega) ?_;exact rd (j+1) (by omega) (by omega) (by rw [Q40,Qsu]; rfl)
 ·have e:j=p.length-1:=by omega
  rw [e];exact en tt [.f (decide_eq_false (by omega)),.c [] cc] rfl rfl trivial
theorem Zlg (z:Int):fr (z:Rat)=[nd z.natAbs,sg z,.row [[.int .i64 1]],.bool false]:=by
 have e:Fb 1=[1]:=by rw [Iq (by decide),show 1 / 10000=0 from rfl,Gl]
 show [nd z.natAbs,sg z,nd 1,sg 1]=_;unfold nd dl;rw [e]; rfl
theorem Q8i {p:List Int} (hl:p.length<=1000000):Uk Tryz.prog 141 [.one (rp (zp p))] [.one (.bool true)]:=by
 have hpl:=fzl p;refine Gm Tryz.func141 rfl ?_;refine go tt [] rfl trivial ?_;refine lp (S:=Nat) 0 (λL1 i=>(6,.v (.one (.int .i64 (i:Int))))::L1) (λ_=>[]) (λi=>p.length-i) (λi=>i<=p.length) 0 (Qh _) rfl (λ_ _=>rfl) rfl λi hi=>?_
 by_cases h:i<p.length
 ·have hg:=Rf h;rw [Zlg] at hg;refine go tt [.t (decide_eq_true (by omega)),.x hg,.g 17 false rfl,.x hg,.x (l:=[[.int .i64 1]]) (i:=0) (xs:=[.int .i64 1]) rfl,.f rfl] rfl (by simp [Ui]; omega) ?_;exact rd (i+1) (by omega) h rfl
 ·exact en tt [.f (decide_eq_false (by omega))] rfl rfl trivial
theorem Q3j:[LV.nils,LV.bool false].map Qih=ri 0:=by
 show _=[nd 0,sg 0];unfold nd dl;rw [Gl]; rfl
theorem Qze (p:List Int) (q:Rat):Int.sign (Pj p q.num q.den p.length).1=Fc p q:=by
 unfold Fc Zhp Na;generalize (Pj p q.num q.den p.length).1=z;rcases J5 z 0 with h | h | h
 ·rw [if_pos h,X4 h]
 ·subst h; rfl
 ·rw [if_neg (by omega),if_pos h,Jf h]
theorem Qd0 {p:List Int} {q:Rat} (hp:Bd 30000000 p) (hl:p.length<=64) (hq:Qs 2000000 q):Uk Tryz.prog 80 [.one (rp (zp p)),.agg (fr q)] [.one (.int .i64 (Fc p q))]:=by
 have hpl:=fzl p;refine Gm Tryz.func80 rfl ?_;refine go tt [.c [] (Q8i (p:=p) (by omega)),.f rfl,.c [] (C7 (n:=1) (by decide)),.r 19 (eI (b:=(p.length:Int)-1-((0:Nat):Int)) (by simp; omega))] rfl (by simp [Ui]; omega) ?_;refine nlb 1 rfl rfl rfl ?_;rw [Q3j];refine lp (S:=Nat) 3 (λL1 j=>(7,.v (.one (.int .i64 ((p.length:Int)-1-(j:Int)))))::L1) (λj=>[.blk 35 (fr q),.blk 33 (ri (Pj p q.num q.den j).1),.blk 33 (ri (Pj p q.num q.den j).2)]) (λj=>p.length-j) (λj=>j<=p.length) 0 (Qh _) rfl (λ_ _=>rfl) rfl λj hj=>?_
 have hv:=Qsm (k:=j) hp hq.1 hq.2;have hjl:j*(2000000+1)<=p.length*(2000000+1):=Qy _ (by omega);by_cases h:j<p.length
 ·have hc:=Uw hp (p.length-1-j);have hq1:=hq.1;have hq2:=hq.2;have hm1:Uv ((Pj p q.num q.den j).1*q.num)<=200000000:=Qc (U6 _ _) (by omega);have hm2:Uv (p.getD (p.length-1-j) 0*(Pj p q.num q.den j).2)<=200000000:=Qc (U6 _ _) (by omega);refine go tt [.t (decide_eq_true (by omega)),.c [] (S7 (a:=(Pj p q.num q.den j).1) (b:=q.num) (by omega) (by omega)),.r 29 (eI (b:=((p.length-1-j:Nat):Int)) (by omega)),.x (Rf (p:=p) (i:=p.length-1-j) (by omega)),.c [] (S7 (a:=p.getD (p.length-1-j) 0) (b:=(Pj p q.num q.den j).2) (by omega) (by omega)),.c [] (Qxk hm1 hm2),.c [] (S7 (a:=(Pj p q.num q.den j).2) (b:=(q.den:Int)) (by omega) (by omega)),.r 23 (eI (b:=(p.length:Int)-1-((j+1:Nat):Int)) (by omega))] rfl (by simp [Ui] <;> omega) ?_;exact rd (j+1) (by omega) h rfl
 ·obtain rfl:j=p.length:=by omega
  exact en tt [.f (decide_eq_false (by omega)),.c [] Q04] rfl (by rw [Qze]) trivial
end Orr
namespace Orr
def U4 (p:List Int):Int:=p.getD (p.length-1) 0
def Co (a b:List Int):Int:=if U4 b<0 then -(U4 a) else U4 a
def C5 (a b:List Int) (i:Nat):Int:=a.getD i 0*((U4 b).natAbs:Int)-(if a.length-b.length<=i then Co a b*b.getD (i-(a.length-b.length)) 0 else 0)
def Et (a b:List Int):List Int:=Pp a.length (C5 a b)
inductive RRun (b:List Int):Nat->List Int->List Int->Prop
 | stop {a:List Int}:a.length<b.length->RRun b 0 a a
 | step {k:Nat} {a r:List Int}:b.length<=a.length->a.length<=1000->Bd 9000000 a->Bd 9000000 b->RRun b k (Et a b) r->RRun b (k+1) a r
def Ei (p:List Int):Nat->Nat
 | 0=>0
 | i+1=>Int.gcd (Ei p i:Nat) (p.getD i 0)
def cont (p:List Int):Nat:=Ei p p.length
theorem Qf5 (p:List Int):∀ {i j:Nat},j<i->((Ei p i:Nat):Int)∣p.getD j 0
 | 0,_,h=>absurd h (Uc _)
 |
  i+1,j,h=>by
  simp only [Ei];rcases Zb j i with h1 | h1
  ·exact V2 (Wz ..) (Qf5 p h1)
  ·rw [show j=i by omega]; exact Vo ..
theorem Qtk (p:List Int) (j:Nat):((cont p:Nat):Int)∣p.getD j 0:=by
 rcases Zb j p.length with h | h
 ·exact Qf5 p h
 ·rw [Qg,Qt h]; exact Int.dvd_zero _
theorem O6 {s:Nat} {p:List Int} (h:Bd s p):∀ i,Uv ((Ei p i:Nat):Int)<=s
 | 0=>by simp [Ei,P8]
 |
  i+1=>by
  simp only [Ei];by_cases h0:p.getD i 0=0
  ·rw [h0,Int.gcd_zero_right]; exact O6 h i
  ·have h1:=Vo (Ei p i:Nat) (p.getD i 0);have h2:(Int.gcd (Ei p i:Nat) (p.getD i 0))<=(p.getD i 0).natAbs:=V6 (by omega) (by simpa using Xn.2 h1);have h3:=Uw h i;rw [Rr] at h3 ⊢;simp only [Z9];omega
theorem Q4q {p:List Int} {j i:Nat} (hj:j<i) (h:p.getD j 0≠0):0<Ei p i:=by
 have:=Qf5 p hj;rcases Qz (Ei p i) with h0 | h0
 ·rw [h0] at this;exact absurd (Int.zero_dvd.1 this) h
 ·exact h0
theorem Qtl {p:List Int} (ht:Uo p) (h:0<p.length):0<cont p:=Q4q (j:=p.length-1) (by omega) (Gv ht h)
def Px (p:List Int):Int:=if U4 p<0 then -((cont p:Nat):Int) else ((cont p:Nat):Int)
def Gn (p:List Int):List Int:=Pp p.length λi=>p.getD i 0 / Px p
def Hn (p:List Int):List Int:=if U4 p<0 then Se (Gn p) else Gn p
theorem Q43 (p:List Int) (j:Nat):Px p∣p.getD j 0:=by
 unfold Px
 split
 ·exact Ue.2 (Qtk p j)
 ·exact Qtk p j
theorem Q9u {p:List Int} (ht:Uo p) (h:0<p.length):Px p≠0:=by
 have:=Qtl ht h;unfold Px
 split <;> omega
theorem Qnu {s:Nat} {p:List Int} (h:Bd s p):Uv (Px p)<=s:=by
 unfold Px
 split
 ·rw [Gg]; exact O6 h _
 ·exact O6 h _
theorem Qzs {p:List Int} {c:Int} (hc:c≠0) (hd:∀ j,c∣p.getD j 0):P0 (zp p) (1 / (c:Rat))=zp (Pp p.length λi=>p.getD i 0 / c):=by
 unfold P0 Pp;rw [Qjj (g:=λi=>p.getD i 0 / c) _ λi _=>?_,Ny,Su];obtain ⟨k,hk⟩:=hd i;have hc':(c:Rat)≠0:=λe=>hc (by exact_mod_cast e)
 rw [Qfs,hk,Xx _ hc,X1];grind
theorem Qjs {s:Nat} {p:List Int} (h:Bd s p):Bd s (Gn p):=Ie λi _=>Qc (Qaf _ _) (Uw h i)
theorem Qgr (p:List Int):(Gn p).length<=p.length:=Ld _ _
theorem Qmi (p:List Int):Uo (Gn p):=U3 _ _
theorem Qm8 {s:Nat} {p:List Int} (h:Bd s p):Bd s (Hn p):=by
 unfold Hn
 split
 ·exact If (Qjs h)
 ·exact Qjs h
theorem I6 (p:List Int):(Hn p).length<=p.length:=by
 unfold Hn
 split
 ·exact Qc (Nj _) (Qgr p)
 ·exact Qgr p
inductive GRun:Nat->List Int->List Int->List Int->Prop
 | stop (a:List Int):GRun 0 a [] a
 | step {k m:Nat} {a b r g:List Int}:0<b.length->b.length<=1000->Bd 9000000 b->RRun b m a r->r.length<=1000->Bd 9000000 r->Uo r->GRun k b (Gn r) g->GRun (k+1) a b g
theorem GRun.inv {k:Nat} {a b g:List Int} (h:GRun k a b g):(k=0/\b.length=0/\a=g)\/∃ j m r,k=j+1/\0<b.length/\b.length<=1000/\Bd 9000000 b/\RRun b m a r/\r.length<=1000/\Bd 9000000 r/\Uo r/\GRun j b (Gn r) g:=by
 cases h with
 | stop=>exact .inl ⟨rfl,rfl,rfl⟩
 | step h1 h2 h3 h4 h5 h6 h7 h8=>exact .inr ⟨_,_,_,rfl,h1,h2,h3,h4,h5,h6,h7,h8⟩
def Tn (k:Nat) (p:List Int):List Int:=List.replicate k 0++p
theorem Ql8 (k:Nat) (p:List Int):(Tn k p).length=k+p.length:=by simp [Tn]
theorem Q34 {s k:Nat} {p:List Int} (h:Bd s p):Bd s (Tn k p):=λz hz=>by
 rcases Qw.1 hz with h1 | h1
 ·rw [Zu h1,P8]; exact Qh _
 ·exact h z h1
inductive DRun (b:List Int):Nat->List Int->List Int->List Int->List Int->Prop
 | stop {a q:List Int}:a.length<b.length->DRun b 0 a q q a
 | step {k:Nat} {a q qf r:List Int}:b.length<=a.length->a.length<=1000->Bd 9000000 a->U4 b≠0->U4 b∣U4 a->a.length-b.length<q.length ->
  DRun b k (Tx a (Tn (a.length-b.length) (Ff b (U4 a / U4 b)))) (q.set (a.length-b.length) (U4 a / U4 b)) qf r->DRun b (k+1) a q qf r
theorem DRun.inv {b a q qf r:List Int} {k:Nat} (h:DRun b k a q qf r):(k=0/\q=qf/\a=r/\a.length<b.length)\/∃ j,k=j+1/\b.length<=a.length/\a.length<=1000/\Bd 9000000 a/\U4 b≠0/\U4 b∣U4 a/\a.length-b.length<q.length /\
 DRun b j (Tx a (Tn (a.length-b.length) (Ff b (U4 a / U4 b)))) (q.set (a.length-b.length) (U4 a / U4 b)) qf r:=by
 cases h with
 | stop h=>exact .inl ⟨rfl,rfl,rfl,h⟩
 | step h1 h2 h3 h4 h5 h6 h7=>exact .inr ⟨_,rfl,h1,h2,h3,h4,h5,h6,h7⟩
def Sv (l:List (List Int)):List Int:=l.getD (l.length-1) []
inductive LRun:Nat->List (List Int)->List (List Int)->Prop
 | stop {l:List (List Int)}:(Sv l).length<=1->LRun 0 l l
 | step {k m:Nat} {l f:List (List Int)} {g:List Int}:1<(Sv l).length->(Sv l).length<=1000->Uo (Sv l)->Bd 9000000 (Sv l)->Bd 9000000 (Fe (Sv l))->GRun m (Gn (Sv l)) (Gn (Fe (Sv l))) g->l.length<=1000->LRun k (l++[g]) f->LRun (k+1) l f
theorem LRun.inv {k:Nat} {l f:List (List Int)} (h:LRun k l f):(k=0/\l=f/\(Sv l).length<=1)\/∃ j m g,k=j+1/\1<(Sv l).length/\(Sv l).length<=1000/\Uo (Sv l)/\Bd 9000000 (Sv l)/\Bd 9000000 (Fe (Sv l))/\GRun m (Gn (Sv l)) (Gn (Fe (Sv l))) g/\l.length<=1000/\LRun j (l++[g]) f:=by
 cases h with
 | stop h=>exact .inl ⟨rfl,rfl,h⟩
 | step h1 h2 h3 h4 h5 h6 h7 h8=>exact .inr ⟨_,_,_,rfl,h1,h2,h3,h4,h5,h6,h7,h8⟩
def DOk (a b q:List Int):Prop:=0<b.length/\b.length<=1000/\a.length<=1000/\Bd 9000000 b/\∃ qf r n,Bd 9000000 qf/\qf.length<=1000/\DRun b n a (List.replicate (a.length+1-b.length) 0) qf r/\q=trim qf
theorem DOk.bd {a b q:List Int} (h:DOk a b q):Bd 9000000 q:=by
 obtain ⟨_,_,_,_,qf,r,n,h1,_,_,rfl⟩:=h;exact Ru h1
theorem DOk.len {a b q:List Int} (h:DOk a b q):q.length<=1000:=by
 obtain ⟨_,_,_,_,qf,r,n,_,h1,_,rfl⟩:=h;exact Qc (He _) h1
theorem DOk.trim {a b q:List Int} (h:DOk a b q):Uo q:=by
 obtain ⟨_,_,_,_,qf,r,n,_,_,_,rfl⟩:=h;exact Ha _
def Znl (a b c f:List Int):Prop:=∃ x y z,DOk a b x/\DOk b c y/\DOk (Gn x) (Gn y) z/\f=Gn z
structure FRun (a:List Int) (m:Nat) (f:Nat->List Int):Prop where
 run:∃ n l,LRun n [Gn a] l/\l.length=m+1/\∀ k,k<m->Znl ((l++[[1]]).getD k []) ((l++[[1]]).getD (k+1) []) ((l++[[1]]).getD (k+2) []) (f k)
 small:m<=1000
def Qmg (f:Nat->List Int) (n:Nat):List (List Int):=(List.range n).map f
theorem Qwd (f:Nat->List Int) (n:Nat):(Qmg f n).length=n:=by simp [Qmg]
theorem Q57 (f:Nat->List Int) (n:Nat):Qmg f (n+1)=Qmg f n++[f n]:=by simp [Qmg,Wa]
theorem Zde {f:Nat->List Int} {n i:Nat} (h:i<n):(Qmg f n)[i]? = some (f i):=by simp [Qmg,X3 h]
theorem Qyi {l:List (List Int)} {i:Nat} (h:i<l.length):l[i]? = some (l.getD i []):=by
 rw [Qg,Qe h]; rfl
def A1 (f:Nat->List Int):Nat->List Int
 | 0=>[1]
 | i+1=>U5 (A1 f i) (f i)
def Znk (m:Nat) (f:Nat->List Int):Prop:=∀ i,i<m->Bd 9000000 (A1 f i)/\(A1 f i).length<=1000/\Bd 9000000 (f i)/\(f i).length<=1000
inductive CRun:Nat->List (List Int)->List Int->List (List Int)->Prop
 | stop {l:List (List Int)} {g:List Int}:g.length=0->CRun 0 l g l
 | step {k m:Nat} {l f:List (List Int)} {g r:List Int}:0<g.length->g.length<=1000->Bd 9000000 g->RRun g m (Sv l) r->Uo r->Bd 9000000 r->r.length<=1000->0<l.length->l.length<=1000->CRun k (l++[g]) (Se (Hn r)) f->CRun (k+1) l g f
theorem CRun.inv {k:Nat} {l f:List (List Int)} {g:List Int} (h:CRun k l g f):(k=0/\l=f/\g.length=0)\/∃ j m r,k=j+1/\0<g.length/\g.length<=1000/\Bd 9000000 g/\RRun g m (Sv l) r/\Uo r/\Bd 9000000 r/\r.length<=1000/\0<l.length/\l.length<=1000/\CRun j (l++[g]) (Se (Hn r)) f:=by
 cases h with
 | stop h=>exact .inl ⟨rfl,rfl,h⟩
 | step h1 h2 h3 h4 h5 h6 h7 h8 h9 h10=>exact .inr ⟨_,_,_,rfl,h1,h2,h3,h4,h5,h6,h7,h8,h9,h10⟩
structure ChRun (a:List Int) (sq:List Int) (c:List (List Int)):Prop where
 fac:∃ m f,FRun a m f/\Znk m f/\sq=A1 f m
 chain:∃ n,CRun n [sq] (Hn (Fe sq)) c
 bd:Bd 8000000 sq
 len:sq.length<=1000
 small:c.length<=1000
def Q0h (q:Rat) (c:List (List Int)):Prop:=∃ sq,ChRun [-q.num,(q.den:Int)] sq c
end Orr
namespace Orr
open Go Go.Proofs
set_option maxRecDepth 10000
theorem RRun.inv {b a r:List Int} {k:Nat} (h:RRun b k a r):(k=0/\a=r/\a.length<b.length)\/(∃ j,k=j+1/\b.length<=a.length/\a.length<=1000/\Bd 9000000 a/\Bd 9000000 b/\RRun b j (Et a b) r):=by
 cases h with
 | stop h=>exact .inl ⟨rfl,rfl,h⟩
 | step h1 h2 h3 h4 h5=>exact .inr ⟨_,rfl,h1,h2,h3,h4,h5⟩
theorem Zh1 {a b:List Int} (ha:Bd 9000000 a):Uv (Co a b)<=9000000:=by
 unfold Co; split
 ·rw [Gg]; exact Uw ha _
 ·exact Uw ha _
theorem Zhv (n:Nat):ri (n:Int)=[nd n,.bool false]:=by
 show [nd n,sg (n:Int)]=_;unfold sg;rw [decide_eq_false (by omega)]
def Qr5 (a b:List Int) (n:Nat):List Int:=(List.range n).map (C5 a b)
theorem Zck (a b:List Int) (n:Nat):(Qr5 a b n).length=n:=by simp [Qr5]
theorem Qo6 (a b:List Int) (n:Nat):Qr5 a b (n+1)=Qr5 a b n++[C5 a b n]:=by simp [Qr5,Wa]
theorem Q09 {a0 b res:List Int} {n:Nat} (hb0:0<b.length) (hb1:b.length<=1000) (hbb0:Bd 9000000 b) (hrun:RRun b n a0 res):Uk Tryz.prog 105 [.one (rp (zp a0)),.one (rp (zp b))] [.one (rp (zp res))]:=by
 have hbl:=fzl b;have hle:Uv (((U4 b).natAbs:Nat):Int)<=9000000:=Uw hbb0 _;refine Gm Tryz.func105 rfl ?_;refine go tt [.r 15 (eI (b:=((b.length-1:Nat):Int)) (by omega)),.x (Rf (p:=b) (i:=b.length-1) (by omega))] rfl (by simp [Ui]; omega) ?_;refine sb [(0,.v (.one (rp (zp a0)))),(1,.v (.one (rp (zp b)))),(5,.v (.one (.ow 0 0))),(6,.v (.one (.ow 1 0)))] [.blk 33 (ri (U4 b)),.blk 33 [nd (U4 b).natAbs,.bool false]] rfl rfl ?_;refine lp (S:=Nat×List Int) 2 (λL1 s=>(0,.v (.one (rp (zp s.2))))::L1) (λ_=>[.blk 33 (ri (U4 b)),.blk 33 [nd (U4 b).natAbs,.bool false]]) (λs=>s.1) (λs=>RRun b s.1 s.2 res) (n,a0) hrun rfl (λ_ _=>rfl) rfl λ⟨k,a⟩ hs=>?_
 have hal:=fzl a;have hs:RRun b k a res:=hs;rcases RRun.inv hs with ⟨rfl,rfl,h1⟩ | ⟨j,rfl,h1,h2,ha,hb,hr⟩
 ·exact en tt [.f (decide_eq_false (by dsimp only; omega))] rfl rfl trivial
 obtain ⟨K,hK⟩:=nmE (a.length-b.length);have htb:=Zh1 (b:=b) ha;have cc:=O4 (p:=zp (Qr5 a b a.length));rw [Ny,show trim (Qr5 a b a.length)=Et a b from rfl] at cc;refine go tt [.t (decide_eq_true (by dsimp only; omega)),.r 30 (eI (b:=(K:Int)) (by dsimp only; omega)),.r 34 (eI (b:=((a.length-1:Nat):Int)) (by dsimp only; omega)),.x (Rf (p:=a) (i:=a.length-1) (by omega))] rfl (by simp [Ui]; omega) ?_;refine ct 1 (S:=Unit) (λ_=>[(0,.v (.one (rp (zp a)))),(1,.v (.one (rp (zp b)))),(5,.v (.one (.ow 0 0))),(6,.v (.one (.ow 1 0))),(7,.v (.one (.int .i64 (K:Int)))),(8,.v (.one (.ow 2 0)))]) (λ_=>[.blk 33 (ri (U4 b)),.blk 33 [nd (U4 b).natAbs,.bool false],.blk 33 (ri (Co a b))]) (λ_=>True) rfl ?_ (λ_ _=>?_)
 ·by_cases hn:U4 b<0
  ·have e:Co a b=-(U4 a):=if_pos hn;rw [e];exact go tt [.t (decide_eq_true hn),.c [] (Ii (z:=U4 a))] rfl trivial (rc () trivial rfl)
  ·have e:Co a b=U4 a:=if_neg hn;rw [e];exact go tt [.f (decide_eq_false hn)] rfl trivial (rc () trivial rfl)
 refine go tt [.o 9 35 4] rfl trivial ?_;refine lp (S:=Nat) 4 (λL1 i=>(44,.v (.one (.int .i64 (i:Int))))::(9,.v (.one (.orow 3 4 none)))::L1) (λi=>[.blk 33 (ri (U4 b)),.blk 33 [nd (U4 b).natAbs,.bool false],.blk 33 (ri (Co a b)),.row false 35 4 (frow (zp (Qr5 a b i)))]) (λi=>a.length-i) (λi=>i<=a.length) 0 (Qh _) rfl (λ_ _=>rfl) rfl λi hi=>?_
 have hfl:=fzl (Qr5 a b i);rw [Zck] at hfl;by_cases h:i<a.length
 ·have cm:=S7 (a:=a.getD i 0) (b:=(((U4 b).natAbs:Nat):Int)) (Qc (Uw ha i) (by decide)) (by omega);have hm:=U6 (a.getD i 0) (((U4 b).natAbs:Nat):Int);have hai:=Uw ha i;rw [Zhv (U4 b).natAbs] at cm;by_cases hk:K<=i
  ·have hbi:=Uw hb (i-K);have hm2:=U6 (Co a b) (b.getD (i-K) 0);have e:C5 a b i=a.getD i 0*(((U4 b).natAbs:Nat):Int)-Co a b*b.getD (i-K) 0:=by unfold C5; rw [if_pos (by omega),hK]
   refine go tt [.t (decide_eq_true (by omega)),.x (Rf h),.c [] cm,.t (decide_eq_true (by omega)),.r 62 (eI (b:=((i-K:Nat):Int)) (by omega)),.x (Rf (p:=b) (i:=i-K) (by omega)),.c [] (S7 (a:=Co a b) (b:=b.getD (i-K) 0) (by omega) (by omega)),.c [] (Q78 (by omega) (by omega)),.c [] (C7 (n:=1) (by decide)),.c [] (P6 (n:=a.getD i 0*(((U4 b).natAbs:Nat):Int)-Co a b*b.getD (i-K) 0)),.s (sz:=4) (Qy2 _)] rfl (by simp [Ui,hfl,-List.getD_eq_getElem?_getD] <;> omega) ?_;exact rd (i+1) (by omega) h (by rw [Qo6,Qsu,e]; rfl)
  ·have e:C5 a b i=a.getD i 0*(((U4 b).natAbs:Nat):Int):=by unfold C5; rw [if_neg (by omega),Int.sub_zero]
   refine go tt [.t (decide_eq_true (by omega)),.x (Rf h),.c [] cm,.f (decide_eq_false (by omega)),.c [] (C7 (n:=1) (by decide)),.c [] (P6 (n:=a.getD i 0*(((U4 b).natAbs:Nat):Int))),.s (sz:=4) (Qy2 _)] rfl (by simp [Ui,hfl,-List.getD_eq_getElem?_getD] <;> omega) ?_;exact rd (i+1) (by omega) h (by rw [Qo6,Qsu,e]; rfl)
 ·have e:i=a.length:=by omega
  rw [e];exact go tt [.f (decide_eq_false (by omega)),.c [] cc] rfl trivial (rd (j,Et a b) (by omega) hr rfl)
theorem Zky:Uk Tryz.prog 36 [.agg (ri 1),.agg (ri 1)] [.agg (ri 1)]:=S7 (a:=1) (b:=1) (by decide) (by decide)
theorem Zfd:Uk Tryz.prog 100 [.agg (ri 1),.agg (ri 1)] [.agg (ri 1)]:=Qj3 (a:=1) (b:=1) (by decide) (by decide)
theorem Zez {z:Int} (hz:Uv z<=90000000):Uk Tryz.prog 36 [.agg (ri z),.agg (ri 1)] [.agg (ri z)]:=by
 have h:=S7 (a:=z) (b:=1) (by omega) (by decide);rwa [Wl] at h
theorem Q00 {z:Int} (hz:Uv z<=90000000):Uk Tryz.prog 101 [.agg (ri z),.agg (ri 1)] [.agg (ri z)]:=by
 have h:=Qf3 (a:=z) (b:=1) hz (by decide) (by decide) (Int.emod_one z);rwa [Vq] at h
theorem Q7o {z:Int}:Uk Tryz.prog 47 [.agg (fr (z:Rat))] [.agg (fr ((-z:Int):Rat))]:=by
 have h:=Zks (a:=(z:Rat));rwa [<-Vi] at h
theorem Zmb {c:Int} (hc:c≠0) (hs:Uv c<=9000000):Qs 40000000 (((1:Int):Rat) / (c:Rat)):=by
 have h0:(c:Rat)≠0:=λe=>hc (by exact_mod_cast e)
 rw [<-Qo1 h0];unfold Gb;rw [if_neg (Jk (Mm _) (λe=>hc (by simpa using e)))];refine Qs.divInt (by show Uv (1*1)<=_; decide) ?_ (by decide);show Uv (1*c)<=_;rw [Yw]; omega
theorem Qxh {p:List Int} {c:Int} (hc:c≠0) (hs:Uv c<=9000000) (hd:∀ j,c∣p.getD j 0) (hp:Bd 9000000 p) (hl:p.length<=1000):Uk Tryz.prog 156 [.one (rp (zp p)),.agg (fr (((1:Int):Rat) / (c:Rat)))] [.one (rp (zp (Pp p.length λi=>p.getD i 0 / c)))]:=by
 have h:=Ah ((Qci hp (by omega)).mono (by omega)) (Zmb hc hs) (by rw [Su]; omega);rwa [show ((1:Int):Rat)=1 from rfl,Qzs hc hd] at h
theorem Ij {p:List Int} (tp:Uo p) (hp:Bd 9000000 p) (hl:p.length<=1000):Uk Tryz.prog 127 [.one (rp (zp p))] [.agg (fr ((Px p:Int):Rat)),.one (rp (zp (Gn p)))]:=by
 have hpl:=fzl p;rcases Qz p.length with h0 | h0
 ·have e:=Qi h0;subst e;exact w tt Tryz.func127 rfl [.t rfl,.c [] Q77] rfl rfl trivial
 have hc:=Q9u tp h0;refine Gm Tryz.func127 rfl ?_;refine go tt [.f (decide_eq_false (by omega)),.c [] (C7 (n:=1) (by decide))] rfl trivial ?_;refine lp (S:=Nat) 2 (λL1 i=>(16,.v (.one (.int .i64 (i:Int))))::L1) (λi=>[.blk 35 [.nils,.bool false,.nils,.bool false],.blk 33 (ri 1)]) (λi=>p.length-i) (λi=>i<=p.length) 0 (Qh _) rfl (λ_ _=>rfl) rfl λi hi=>?_
 by_cases h:i<p.length
 ·refine go tt [.t (decide_eq_true (by omega)),.x (Rf h),.c [] Zky,.x (Rf h),.c [] Zfd,.c [] (Q00 (z:=1) (by decide))] rfl (by simp [Ui]; omega) ?_;exact rd (i+1) (by omega) h rfl
 refine go tt [.f (decide_eq_false (by omega))] rfl trivial ?_;clear h hi;refine nlb 2 rfl rfl rfl ?_;rw [Q3j];refine lp (S:=Nat) 3 (λL1 i=>(37,.v (.one (.int .i64 (i:Int))))::L1) (λi=>[.blk 35 [.nils,.bool false,.nils,.bool false],.blk 33 (ri 1),.blk 33 (ri ((Ei p i:Nat):Int))]) (λi=>p.length-i) (λi=>i<=p.length) 0 (Qh _) rfl (λ_ _=>rfl) rfl λi hi=>?_
 by_cases h:i<p.length
 ·have hb:=Uw hp i;have hg:=O6 hp i;refine go tt [.t (decide_eq_true (by omega)),.x (Rf h),.c [] (Zez (z:=p.getD i 0) (by omega)),.x (Rf h),.c [] (Q00 (z:=p.getD i 0) (by omega)),.c [] (Qj3 (a:=((Ei p i:Nat):Int)) (b:=p.getD i 0) (by omega) (by omega))] rfl (by simp [Ui]; omega) ?_;exact rd (i+1) (by omega) h rfl
 have e:i=p.length:=by omega
 rw [e];have co:=Qj0 (n:=1) (by decide);have cs:=Qxh hc (Qnu hp) (Q43 p) hp hl;by_cases hn:U4 p<0
 ·have e2:Px p=-((cont p:Nat):Int):=if_pos hn;rw [show (λi=>p.getD i 0 / Px p)=λi=>p.getD i 0 / Px p from rfl] at cs;have cn:=Q7o (z:=((cont p:Nat):Int));rw [<-e2] at cn;exact en tt [.f (decide_eq_false (by omega)),.c [] (P6 (n:=((cont p:Nat):Int))),.r 62 (eI (b:=((p.length-1:Nat):Int)) (by omega)),.x (Rf (p:=p) (i:=p.length-1) (by omega)),.t (decide_eq_true hn),.c [] cn,.c [] co,.c [] (Qxg (a:=((1:Int):Rat)) (b:=((Px p:Int):Rat)) ⟨by decide,by decide⟩ (C0 (by have:=Qnu hp; omega) (by decide)) (λe=>hc (by exact_mod_cast e))),.c [] cs] rfl rfl (by simp [Ui]; omega)
 ·have e2:Px p=((cont p:Nat):Int):=if_neg hn;have cm:=P6 (n:=Px p);rw [e2] at cm cs hc ⊢;exact en tt [.f (decide_eq_false (by omega)),.c [] cm,.r 62 (eI (b:=((p.length-1:Nat):Int)) (by omega)),.x (Rf (p:=p) (i:=p.length-1) (by omega)),.f (decide_eq_false hn),.c [] co,.c [] (Qxg (a:=((1:Int):Rat)) (b:=((((cont p:Nat):Int):Int):Rat)) ⟨by decide,by decide⟩ (C0 (by have:=O6 hp p.length; unfold cont; omega) (by decide)) (λe=>hc (by exact_mod_cast e))),.c [] cs] rfl (by unfold Gn; rw [e2]; rfl) (by simp [Ui]; omega)
theorem Eg {p:List Int} (tp:Uo p) (hp:Bd 9000000 p) (hl:p.length<=1000):Uk Tryz.prog 67 [.one (rp (zp p))] [.one (rp (zp (Gn p)))] :=
 w tt Tryz.func67 rfl [.c [] (Ij tp hp hl)] rfl rfl trivial
theorem Qnv {p:List Int} (tp:Uo p):Px p<0↔U4 p<0:=by
 unfold Px;rcases Qz p.length with h0 | h0
 ·have:=Qi h0; subst this; decide
 ·have:=Qtl tp h0
  split <;> omega
theorem Qxo {p:List Int} (hp:Bd 9000000 p) (hl:p.length<=1000000):Uk Tryz.prog 104 [.one (rp (zp p))] [.one (rp (zp (Se p)))]:=by
 have h:=Qxt ((Qci hp (by decide)).mono (by decide)) (by rw [Su]; exact hl);rwa [Q3k] at h
theorem Qtc {p:List Int} (tp:Uo p) (hp:Bd 9000000 p) (hl:p.length<=1000):Uk Tryz.prog 103 [.one (rp (zp p))] [.one (rp (zp (Hn p)))]:=by
 by_cases hn:U4 p<0
 ·have e:Hn p=Se (Gn p):=if_pos hn;rw [e];exact w tt Tryz.func103 rfl [.c [] (Ij tp hp hl),.t (decide_eq_true ((Qnv tp).2 hn)),.c [] (Qxo (Qjs hp) (Qc (Qgr p) (by omega)))] rfl rfl trivial
 ·have e:Hn p=Gn p:=if_neg hn;rw [e];exact w tt Tryz.func103 rfl [.c [] (Ij tp hp hl),.f (decide_eq_false λh=>hn ((Qnv tp).1 h))] rfl rfl trivial
end Orr
namespace Orr
theorem Lf (f:Nat->Int):Pp 1 f=trim [f 0]:=rfl
theorem Qkq (f:Nat->Int):Pp 2 f=trim [f 0,f 1]:=rfl
theorem Qcm (x:Int):trim [x]=if x=0 then [] else [x]:=rfl
theorem Qpg (x y:Int):trim [x,y]=if y=0 then trim [x] else [x,y]:=by
 simp only [trim]; split <;> split <;> simp_all
theorem bd1 {s:Nat} {x:Int} (h:Uv x<=s):Bd s [x]:=λz hz=>by simp at hz; subst hz; exact h
theorem bd2 {s:Nat} {x y:Int} (h:Uv x<=s) (h':Uv y<=s):Bd s [x,y]:=λz hz=>by
 simp only [Qp,Jq,or_false] at hz;rcases hz with rfl | rfl <;> assumption
section
variable {x d:Int} (hd:0<d) (hg:Int.gcd x d=1) (hx:Uv x<=2000000) (hs:Uv d<=2000000)
theorem b1 {s:Nat} (h:1<=s):Bd s [1]:=bd1 (Qc (show Uv 1<=1 by decide) h)
include hd in
theorem Qaw (hg:Int.gcd x d=1):Gn [x,d]=[x,d]:=by
 have hc:Px [x,d]=1:=by
  have h1:cont [x,d]=1:=by
   show Int.gcd (Int.gcd ((0:Nat):Int) x:Nat) d=1;rw [show Int.gcd ((0:Nat):Int) x=x.natAbs by simp,show Int.gcd ((x.natAbs:Nat):Int) d=Int.gcd x d by simp [Int.gcd],hg]
  unfold Px;rw [if_neg (show ¬U4 [x,d]<0 from by show ¬d<0; omega),h1]; rfl
 unfold Gn;rw [hc];show Pp 2 _=_;rw [Qkq,Qpg];show (if d / 1=0 then _ else [x / 1,d / 1])=_;rw [Vq,if_neg (by omega),Vq]
theorem Qvn:Gn [1]=[1]:=by decide
include hd in
theorem Qlw:Gn [d]=[1]:=by
 have hc:Px [d]=d:=by
  have h1:((cont [d]:Nat):Int)=d:=by
   show ((Int.gcd ((0:Nat):Int) d:Nat):Int)=d;simp; omega
  unfold Px;rw [if_neg (show ¬U4 [d]<0 from by show ¬d<0; omega),h1]
 unfold Gn;rw [hc];show Pp 1 _=_;rw [Lf,Qcm];show (if d / d=0 then _ else [d / d])=_;rw [Int.ediv_self (by omega)]; rfl
include hd in
theorem Qqe:Fe [x,d]=[d]:=by
 show Pp 1 _=_;rw [Lf,Qcm];show (if d*1=0 then _ else [d*1])=_;rw [Wl,if_neg (by omega)]
include hd hx hs in
theorem Qv0:∃ m,RRun [1] m [x,d] []:=by
 have h1:Et [x,d] [1]=trim [x]:=by
  show Pp 2 _=_;rw [Qkq,Qpg];have e1:C5 [x,d] [1] 1=0:=by
   show d*1-(if 1<=1 then Co [x,d] [1]*1 else 0)=0;have:Co [x,d] [1]=d:=by unfold Co; rw [if_neg (by decide)]; rfl
   rw [this]; simp
  have e0:C5 [x,d] [1] 0=x:=by
   show x*1-(if 1<=0 then _ else 0)=x;simp
  rw [e1,if_pos rfl,e0]
 have hb:Bd 9000000 [x,d]:=bd2 (by omega) (by omega);by_cases h0:x=0
 ·refine ⟨1,.step (by show 1<=2; decide) (by show 2<=1000; decide) hb (b1 (by decide)) ?_⟩;rw [h1,h0];exact .stop (by decide)
 ·refine ⟨2,.step (by show 1<=2; decide) (by show 2<=1000; decide) hb (b1 (by decide)) ?_⟩;rw [h1,Qcm,if_neg h0];refine .step (Qm 1) (by show 1<=1000; decide) (bd1 (by omega)) (b1 (by decide)) ?_;have h2:Et [x] [1]=[]:=by
   show Pp 1 _=_;rw [Lf,Qcm];have e0:C5 [x] [1] 0=0:=by
    show x*1-(if 0<=0 then Co [x] [1]*1 else 0)=0;have:Co [x] [1]=x:=by unfold Co; rw [if_neg (by decide)]; rfl
    rw [this]; simp
   rw [e0,if_pos rfl]
  rw [h2];exact .stop (by decide)
include hd hx hs in
theorem Zad:∃ m,GRun m [x,d] [1] [1]:=by
 obtain ⟨m,h⟩:=Qv0 hd hx hs;exact ⟨1,.step (by decide) (by decide) (b1 (by decide)) h (by decide) O2 rfl (by rw [show Gn []=[] by decide]; exact .stop _)⟩
theorem Q5r (c:Int):Tx [c] [c]=[]:=by
 show Pp 1 _=_;rw [Lf,Qcm];show (if c-c=0 then _ else _)=_;rw [if_pos (by omega)]
include hd hx hs in
theorem Q1r:DOk [x,d] [1] [x,d]:=by
 refine ⟨by decide,by decide,by show 2<=1000; decide,b1 (by decide),[x,d],[],?_⟩;have hpl:U4 [x,d] / U4 [1]=d:=by show d / 1=d; rw [Vq]
 have hsc:Ff [1] d=[d]:=by
  show Pp 1 _=_;rw [Lf,Qcm];show (if 1*d=0 then _ else [1*d])=_;rw [Yw,if_neg (by omega)]
 have hsub:Tx [x,d] (Tn 1 [d])=trim [x]:=by
  show Pp 2 _=_;rw [Qkq,Qpg];show (if d-d=0 then trim [x-0] else _)=_;rw [if_pos (by omega),Int.sub_zero]
 have hb:Bd 9000000 [x,d]:=bd2 (by omega) (by omega);have ht:trim [x,d]=[x,d]:=by rw [Qpg,if_neg (by omega)]
 by_cases h0:x=0
 ·refine ⟨1,hb,by show 2<=1000; decide,?_,ht.symm⟩;refine .step (by show 1<=2; decide) (by show 2<=1000; decide) hb (by decide) (by show (1:Int)∣d; exact Uf d) (by show 1<2; decide) ?_;rw [hpl,hsc,show [x,d].length-[(1:Int)].length=1 from rfl,hsub,Qcm,if_pos h0];show DRun [1] 0 [] [0,d] [x,d] [];rw [h0]; exact .stop (by decide)
 ·refine ⟨2,hb,by show 2<=1000; decide,?_,ht.symm⟩;refine .step (by show 1<=2; decide) (by show 2<=1000; decide) hb (by decide) (by show (1:Int)∣d; exact Uf d) (by show 1<2; decide) ?_;rw [hpl,hsc,show [x,d].length-[(1:Int)].length=1 from rfl,hsub,Qcm,if_neg h0];refine .step (by show 1<=1; decide) (by show 1<=1000; decide) (bd1 (by omega)) (by decide) (by show (1:Int)∣x; exact Uf x) (by show 0<2; decide) ?_;have hpl2:U4 [x] / U4 [1]=x:=by show x / 1=x; rw [Vq]
  have hsc2:Ff [1] x=[x]:=by
   show Pp 1 _=_;rw [Lf,Qcm];show (if 1*x=0 then _ else [1*x])=_;rw [Yw,if_neg h0]
  rw [hpl2,hsc2,show [x].length-[(1:Int)].length=0 from rfl,show Tn 0 [x]=[x] from rfl,Q5r];exact .stop (by decide)
theorem div_one:DOk [1] [1] [1]:=by
 refine ⟨by decide,by decide,by decide,b1 (by decide),[1],[],1,b1 (by decide),by decide,?_,by decide⟩;refine .step (by decide) (by decide) (b1 (by decide)) (by decide) (by decide) (by decide) ?_;exact .stop (by decide)
include hd hg hx hs in
theorem Q9y:FRun [x,d] 1 (λ_=>[x,d]):=by
 obtain ⟨m,hm⟩:=Zad (x:=x) hd hx hs;refine ⟨⟨1,[[x,d],[1]],?_,rfl,?_⟩,by decide⟩
 ·rw [Qaw hd hg];refine .step (by show 1<2; decide) (by show 2<=1000; decide) (by show trim [x,d]=[x,d]; rw [Qpg,if_neg (by omega)]) (by show Bd 9000000 [x,d]; exact bd2 (by omega) (by omega)) ?_ ?_ (by show 1<=1000; decide) (m:=m) (g:=[1]) ?_
  ·show Bd 9000000 (Fe [x,d]);rw [Qqe hd]; exact bd1 (by omega)
  ·show GRun m (Gn [x,d]) (Gn (Fe [x,d])) [1];rw [Qaw hd hg,Qqe hd,Qlw hd]; exact hm
  ·exact .stop (by show 1<=1; decide)
 ·intro k hk;have:k=0:=by omega
  subst this;exact ⟨[x,d],[1],[x,d],Q1r hd hx hs,div_one,by rw [Qaw hd hg,Qvn]; exact Q1r hd hx hs,(Qaw hd hg).symm⟩
theorem Qoi {p:List Int} (hp:Uo p) (h0:0<p.length):U5 [1] p=p:=by
 refine Qhl (Gu _ _) hp λk=>?_
 unfold U5;rw [if_neg (by
  rintro (h | h); · cases h
  ·omega),A8]
 show (Cx [1] p (List.replicate (1+p.length-1) 0) 1).getD k 0=_;simp only [Cx];rw [Qok _ _ _ _ _ _ (by simp),Rq]
 split
 ·show 0+1*p.getD (k-0) 0=_;rw [Wd]; omega
 ·rename_i h;rw [Qg,Qt (by omega)]; rfl
include hd hg hx hs in
theorem Qnf:ChRun [x,d] [x,d] [[x,d],[1]]:=by
 obtain ⟨m,hm⟩:=Qv0 (x:=x) hd hx hs;have ht:Uo [x,d]:=by show trim [x,d]=_; rw [Qpg,if_neg (by omega)]
 refine ⟨⟨1,λ_=>[x,d],Q9y hd hg hx hs,?_,?_⟩,⟨1,?_⟩,bd2 (by omega) (by omega),by show 2<=1000; decide,by show 2<=1000; decide⟩
 ·intro i hi;have:i=0:=by omega
  subst this;exact ⟨b1 (by decide),by show 1<=1000; decide,bd2 (by omega) (by omega),by show 2<=1000; decide⟩
 ·show [x,d]=U5 [1] [x,d];rw [Qoi ht (by show 0<2; decide)]
 ·have hz:Hn (Fe [x,d])=[1]:=by
   rw [Qqe hd];unfold Hn;rw [if_neg (show ¬U4 [d]<0 from by show ¬d<0; omega),Qlw hd]
  rw [hz];refine .step (by decide) (by decide) (b1 (by decide)) (m:=m) (r:=[]) hm rfl O2 (by decide) (by show 0<1; decide) (by show 1<=1000; decide) ?_;exact .stop (by decide)
end
theorem Zoz {q:Rat} (h:Qs 2000000 q):Q0h q [[-q.num,(q.den:Int)],[1]]:=by
 refine ⟨[-q.num,(q.den:Int)],Qnf (den_pos q) ?_ (by rw [Gg]; exact h.1) h.2⟩;rw [Int.neg_gcd];have:=q.reduced;unfold Nat.Coprime at this;simpa [Int.gcd] using this
end Orr
namespace Orr
open Go Go.Proofs
set_option maxRecDepth 10000
theorem Zkz {a b g:List Int} {n:Nat} (ta:Uo a) (tb:Uo b) (ha:Bd 9000000 a) (hb:Bd 9000000 b) (la:a.length<=1000) (lb:b.length<=1000) (hrun:GRun n (Gn a) (Gn b) g):Uk Tryz.prog 133 [.one (rp (zp a)),.one (rp (zp b))] [.one (rp (zp g))]:=by
 refine Gm Tryz.func133 rfl ?_;refine go tt [.c [] (Eg ta ha la),.c [] (Eg tb hb lb)] rfl trivial ?_;refine sb [(0,.v (.one (rp (zp (Gn a))))),(1,.v (.one (rp (zp (Gn b)))))] [] rfl rfl ?_;refine lp (S:=Nat×List Int×List Int) 0 (λL1 s=>(0,.v (.one (rp (zp s.2.1))))::(1,.v (.one (rp (zp s.2.2))))::L1) (λ_=>[]) (λs=>s.1) (λs=>GRun s.1 s.2.1 s.2.2 g) (n,Gn a,Gn b) hrun rfl (λ_ _=>rfl) rfl λ⟨k,x,y⟩ hs=>?_
 have hs:GRun k x y g:=hs;have hyl:=fzl y;rcases hs.inv with ⟨hk,hy0,hxg⟩ | ⟨j,m2,r,hk,hy0,hy1,hyb,hrr,hrl,hrb,hrt,hgr⟩
 ·rw [<-hxg];exact en tt [.f (decide_eq_false (by dsimp only; omega))] rfl rfl trivial
 ·subst hk;refine go tt [.t (decide_eq_true (by dsimp only; omega)),.c [] (Q09 (a0:=x) (b:=y) (res:=r) hy0 hy1 hyb hrr),.c [] (Eg (p:=r) hrt hrb hrl)] rfl trivial ?_;exact rd (j,y,Gn r) (by dsimp only; omega) hgr rfl
theorem Ze0 {x y:Int} (hx:Uv x<=9000000) (hy:Uv y<=9000000) (h0:y≠0) (hd:y∣x):Uk Tryz.prog 176 [.agg (fr (x:Rat)),.agg (fr (y:Rat))] [.agg (fr ((x / y:Int):Rat))]:=by
 have hy0:(y:Rat)≠0:=λe=>h0 (by exact_mod_cast e)
 have h:=Qxg (C0 (s:=40000000) (z:=x) (by omega) (by omega)) (C0 (s:=40000000) (z:=y) (by omega) (by omega)) hy0;obtain ⟨k,rfl⟩:=hd;rw [Xx _ h0];rwa [show (((y*k:Int):Rat)) / (y:Rat)=(k:Rat) by rw [X1]; grind] at h
theorem Q4j {p:List Int} {c:Int} (hp:Bd 40000000 p) (hc:Uv c<=40000000) (hl:p.length<=1000000):Uk Tryz.prog 156 [.one (rp (zp p)),.agg (fr (c:Rat))] [.one (rp (zp (Ff p c)))]:=by
 have h:=Ah (Qci hp (by omega)) (C0 hc (by omega)) (by rw [Su]; exact hl);rwa [Qo5] at h
theorem Zid (k:Nat) (p:List Int):frow (zp (List.replicate k 0))++frow (zp p)=frow (zp (Tn k p)):=by simp [zp,Tn,frow]
theorem Q46 (l:List Int) (i:Nat) (z:Int):(frow (zp l)).set i [nd ((z:Rat)).num.natAbs,sg ((z:Rat)).num,nd (((z:Rat)).den:Int).natAbs,sg (((z:Rat)).den:Int)]=frow (zp (l.set i z)):=Qt6 l i z
theorem Zfh {p q:List Int} (hp:Bd 18000000 p) (hq:Bd 18000000 q) (hlp:p.length<=1000000) (hlq:q.length<=1000000):Ht Tryz.prog 106 [.one (rp (zp p)),.one (.orow 0 4 none)] [.row false 35 4 (frow (zp q))] [.one (rp (zp (Tx p q)))] [.gone]:=by
 have hn:=Qxt ((Qci hq (by decide)).mono (by decide)) (by rw [Su]; exact hlq);have ha:=Qxp (p:=zp p) (q:=Qr2 (zp q)) ((Qci hp (by decide)).mono (by decide)) ((Zb5 (Qci hq (by decide))).mono (by decide)) (by rw [Su]; exact hlp) (Qc (Qv1 _) (by rw [Su]; exact hlq));have e:Q5w (zp p) (Qr2 (zp q))=zp (Tx p q):=Zh0 p q;rw [e] at ha;refine Gm Tryz.func106 rfl ?_;exact ed tt [] [0] [.c [] hn,.c [] ha] rfl trivial
theorem Q4k {a0 b qf rem:List Int} {n:Nat} (hb0:0<b.length) (hb1:b.length<=1000) (hl0:a0.length<=1000) (hbb:Bd 9000000 b) (hqb:Bd 9000000 qf) (hrun:DRun b n a0 (List.replicate (a0.length+1-b.length) 0) qf rem):Uk Tryz.prog 196 [.one (rp (zp a0)),.one (rp (zp b))] [.one (rp (zp (trim qf))),.one (rp (zp rem))]:=by
 have h0l:=fzl a0;have hbl:=fzl b;obtain ⟨N,hN⟩:=nmE (a0.length+1-b.length);rw [<-hN] at hrun;have cc:=O4 (p:=zp qf);rw [Ny] at cc;refine Gm Tryz.func196 rfl ?_;refine go tt [.r 18 (eI (b:=(N:Int)) (by omega)),.i N,.i N,.r 21 (eI (b:=(N:Int)) (by simp))] rfl (by simp [Ui]; omega) ?_;refine lp (S:=Nat) 1 (λL1 i=>(22,.v (.one (.int .i64 (i:Int))))::L1) (λi=>[.row false 35 4 (List.replicate i (fr 0)++List.replicate (N-i) zR)]) (λi=>N-i) (λi=>i<=N) 0 (Qh _) rfl (λ_ _=>rfl) rfl λi hi=>?_
 by_cases hlt:i<N
 ·refine go tt [.t (decide_eq_true (by omega)),.c [] Q77,.i i] rfl (by simp [Ui]; omega) ?_;rw [Qqp hlt];exact rd (i+1) (by omega) hlt rfl
 have hiN:i=N:=by omega
 rw [hiN,Qmn];clear hiN hlt hi;refine go tt [.f (decide_eq_false (by omega))] rfl trivial ?_;refine sb [(0,.v (.one (rp (zp a0)))),(1,.v (.one (rp (zp b)))),(6,.v (.one (.orow 0 4 none)))] [.row false 35 4 (frow (zp (List.replicate N 0)))] rfl rfl ?_;refine lp (S:=Nat×List Int×List Int) 1 (λL1 s=>(0,.v (.one (rp (zp s.2.1))))::L1) (λs=>[.row false 35 4 (frow (zp s.2.2))]) (λs=>s.1) (λs=>DRun b s.1 s.2.1 s.2.2 qf rem/\s.2.2.length=N) (n,a0,List.replicate N 0) ⟨hrun,Jj⟩ rfl (λ_ _=>rfl) rfl λ⟨k,a,q⟩ ⟨hr0,hr1⟩=>?_
 have hr0:DRun b k a q qf rem:=hr0;have hr1:q.length=N:=hr1;have hal:=fzl a;have hql:=fzl q;rcases hr0.inv with ⟨hk,hqf,har,hlt⟩ | ⟨j,hk,hba,hal2,hab,hpb,hpd,hkq,hrj⟩
 ·subst hqf; subst har;exact en tt [.f (decide_eq_false (by dsimp only; omega)),.c [] cc] rfl rfl trivial
 subst hk;obtain ⟨K,hK⟩:=nmE (a.length-b.length);rw [<-hK] at hrj hkq;have hla:Uv (U4 a)<=9000000:=Uw hab _;have hlb:Uv (U4 b)<=9000000:=Uw hbb _;obtain ⟨c,hc⟩:=nmE (U4 a / U4 b);have cq:=Ze0 hla hlb hpb hpd;have hcs:Uv (U4 a / U4 b)<=9000000:=Qc (Qaf _ _) hla;rw [<-hc] at cq hcs hrj;have hsl:=Mq b c;have hqs:∀ x,(q.set K x).length=N:=λx=>by rw [Jd]; exact hr1
 dsimp only;refine go tt [.t (decide_eq_true (by omega)),.r 39 (eI (b:=(K:Int)) (by omega)),.r 43 (eI (b:=((a.length-1:Nat):Int)) (by omega)),.x (Rf (p:=a) (i:=a.length-1) (by omega)),.r 49 (eI (b:=((b.length-1:Nat):Int)) (by omega)),.x (Rf (p:=b) (i:=b.length-1) (by omega)),.c [] cq,.i K,.i K,.i K,.r 60 (eI (b:=(K:Int)) (by simp))] rfl (by simp [Ui,hql] <;> omega) ?_;rw [Q46];refine lp (S:=Nat) 3 (λL1 i=>(61,.v (.one (.int .i64 (i:Int))))::L1) (λi=>[.row false 35 4 (frow (zp (q.set K c))),.blk 35 (fr (c:Rat)),.row false 35 4 (List.replicate i (fr 0)++List.replicate (K-i) zR)]) (λi=>K-i) (λi=>i<=K) 0 (Qh _) rfl (λ_ _=>rfl) rfl λi hi=>?_
 by_cases hlt:i<K
 ·refine go tt [.t (decide_eq_true (by omega)),.c [] Q77,.i i] rfl (by simp [Ui]; omega) ?_;rw [Qqp hlt];exact rd (i+1) (by omega) hlt rfl
 have hiK:i=K:=by omega
 rw [hiK,Qmn];clear hiK hlt hi;have hzl:=fzl (List.replicate K 0);rw [Jj] at hzl;have hpl:=fzl (Ff b c);refine go tt [.f (decide_eq_false (by omega))] rfl trivial ?_;refine sb [(10,.v (.one (.orow 2 4 none))),(9,.v (.one (.ow 1 0))),(0,.v (.one (rp (zp a)))),(1,.v (.one (rp (zp b)))),(6,.v (.one (.orow 0 4 none)))] [.row false 35 4 (frow (zp (q.set K c))),.blk 35 (fr (c:Rat)),.row false 35 4 (frow (zp (List.replicate K 0)))] rfl rfl ?_;have p2:=Zfh (p:=a) (q:=Tn K (Ff b c)) (Uj hab (by decide)) (Uj (Q34 (Bq hbb hcs)) (by decide)) (by omega) (by rw [Ql8]; omega);rw [<-Zid] at p2;refine go tt [.c [] (Q4j (c:=c) (Uj hbb (by decide)) (by omega) (by omega)),.s (sz:=4) (Qgd (zp (Ff b c))),.c [2] p2] rfl (by simp [Ui,hzl,hpl]; omega) ?_;exact rd (j,Tx a (Tn K (Ff b c)),q.set K c) (by dsimp only; omega) ⟨hrj,hqs c⟩ rfl
def zls (l:List (List Int)):List (List LV):=l.map λp=>[rp (zp p)]
theorem Oi (l:List (List Int)):(zls l).length=l.length:=by simp [zls]
theorem Qfr (l:List (List Int)) (g:List Int):zls l++[[rp (zp g)]]=zls (l++[g]):=by simp [zls]
theorem Oh {l:List (List Int)} {i:Nat} (h:i<l.length):(zls l)[i]? = some [rp (zp (l.getD i []))]:=Gh (Qyi h)
theorem Zhc (x:LV):∀ c∈[[x]],c.length=1:=λc hc=>by rw [Ql.1 hc]; rfl
theorem Qj6 {a b q:List Int} (h:DOk a b q):∃ r,Uk Tryz.prog 196 [.one (rp (zp a)),.one (rp (zp b))] [.one (rp (zp q)),.one (rp (zp r))]:=by
 obtain ⟨h1,h2,h3,h4,qf,r,n,h5,h6,h7,rfl⟩:=h;exact ⟨r,Q4k h1 h2 h3 h4 h5 h7⟩
theorem Qxs {a:List Int} {mf:Nat} {f:Nat->List Int} (ta:Uo a) (ha:Bd 9000000 a) (la:a.length<=1000) (h2:2<=a.length) (hF:FRun a mf f):Uk Tryz.prog 155 [.one (rp (zp a))] [.one (.row (zls (Qmg f mf)))]:=by
 obtain ⟨⟨n,ls,hrun,hlen,hq⟩,hms⟩:=hF;have hal:=fzl a;refine Gm Tryz.func155 rfl ?_;refine go tt [.f (decide_eq_false (by omega)),.c [] (Eg ta ha la),.o 3 28 1,.lo] rfl trivial ?_;refine sb [(3,.v (.one (.orow 0 1 none))),(4,.v (.one (.orow 1 1 none)))] [.row false 28 1 [],.row false 28 1 (zls [Gn a])] rfl rfl ?_;refine lp (S:=Nat×List (List Int)) 2 (λL1 s=>(4,.v (.one (.orow 1 1 none)))::L1) (λs=>[.row false 28 1 [],.row false 28 1 (zls s.2)]) (λs=>s.1) (λs=>LRun s.1 s.2 ls/\0<s.2.length/\s.2.length<=1001) (n,[Gn a]) ⟨hrun,by show 0<1; decide,by show 1<=1001; decide⟩ rfl (λ_ _=>rfl) rfl λ⟨k,l⟩ ⟨hs1,hs2,hs3⟩=>?_
 have hs1:LRun k l ls:=hs1;have hs2:0<l.length:=hs2;have hs3:l.length<=1001:=hs3;have hll:=Oi l;have hlast:(zls l)[l.length-1]? = some [rp (zp (Sv l))]:=Oh (by omega);have hpl:=fzl (Sv l);dsimp only;rcases hs1.inv with ⟨hk,hlf,hl1⟩ | ⟨j,m2,g,hk,hg1,hg2,hg3,hg4,hg5,hg6,hg7,hlr⟩
 ·have hlm:l.length=mf+1:=by rw [hlf]; exact hlen
  rw [<-hlf] at hq;have hl2:=Oi (l++[[1]]);have hl3:(l++[[1]]).length=mf+2:=by simp [hlm]
  refine go tt [.r 23 (eI (b:=((l.length-1:Nat):Int)) (by omega)),.i (l.length-1),.x hlast,.f (decide_eq_false (by omega)),.c [] Qxu,.s (sz:=1) (Zhc _)] rfl (by simp [Ui,hll]; omega) ?_;rw [Qfr];refine lp (S:=Nat) 2 (λL1 i=>(6,.v (.one (.int .i64 (i:Int))))::(3,.v (.one (.orow 0 1 none)))::L1) (λi=>[.row false 28 1 (zls (Qmg f i)),.row false 28 1 (zls (l++[[1]]))]) (λi=>mf-i) (λi=>i<=mf) 0 (Qh _) rfl (λ_ _=>rfl) rfl λi hi=>?_
  have htl:=Oi (Qmg f i);rw [Qwd] at htl;by_cases h:i<mf
  ·obtain ⟨x,y,z,hx,hy,hz,hf⟩:=hq i h;obtain ⟨rx,hdx⟩:=Qj6 hx;obtain ⟨ry,hdy⟩:=Qj6 hy;obtain ⟨rz,hdz⟩:=Qj6 hz;refine go tt [.t (decide_eq_true (by omega)),.i i,.x (Oh (by omega)),.i (i+1),.x (Oh (by omega)),.c [] hdx,.i (i+1),.x (Oh (by omega)),.i (i+2),.x (Oh (by omega)),.c [] hdy,.c [] (Eg hx.trim hx.bd hx.len),.c [] (Eg hy.trim hy.bd hy.len),.c [] hdz,.c [] (Eg hz.trim hz.bd hz.len),.s (sz:=1) (Zhc _)] rfl (by simp [Ui,hl2,htl]; omega) ?_;exact rd (i+1) (by omega) h (by rw [Qfr,Q57,hf]; rfl)
  ·have e:i=mf:=by omega
   rw [e];exact en tt [.f (decide_eq_false (by omega))] rfl rfl (by simp [Ui]; omega)
 ·subst hk;refine go tt [.r 23 (eI (b:=((l.length-1:Nat):Int)) (by omega)),.i (l.length-1),.x hlast,.t (decide_eq_true (by omega)),.r 31 (eI (b:=((l.length-1:Nat):Int)) (by omega)),.i (l.length-1),.x hlast,.c [] (Qxr (Uj hg4 (by decide)) (by omega)),.c [] (Zkz hg3 (U3 _ _) hg4 hg5 hg2 (Qc (Tr _) (by omega)) hg6),.s (sz:=1) (Zhc _)] rfl (by simp [Ui,hll]; omega) ?_;exact rd (j,l++[g]) (by dsimp only; omega) ⟨hlr,by simp,by simp; omega⟩ (by rw [Qfr]; rfl)
theorem Q4l {a:List Int} {mf:Nat} {f:Nat->List Int} (ta:Uo a) (ha:Bd 9000000 a) (la:a.length<=1000) (h2:2<=a.length) (hF:FRun a mf f) (hP:Znk mf f):Uk Tryz.prog 102 [.one (rp (zp a))] [.one (rp (zp (A1 f mf)))]:=by
 have hms:=hF.small;have hal:=fzl a;have htl:=Oi (Qmg f mf);rw [Qwd] at htl;refine Gm Tryz.func102 rfl ?_;refine go tt [.f (decide_eq_false (by omega)),.c [] Qxu,.c [] (Qxs ta ha la h2 hF)] rfl trivial ?_;refine lp (S:=Nat) 0 (λL1 i=>(15,.v (.one (.int .i64 (i:Int))))::(3,.v (.one (rp (zp (A1 f i)))))::L1) (λ_=>[]) (λi=>mf-i) (λi=>i<=mf) 0 (Qh _) rfl (λ_ _=>rfl) rfl λi hi=>?_
 by_cases h:i<mf
 ·obtain ⟨g1,g2,g3,g4⟩:=hP i h;refine go tt [.t (decide_eq_true (by omega)),.x (Gh (f:=λp=>[rp (zp p)]) (Zde h)),.c [] (Qcu (p:=A1 f i) (q:=f i) (by omega) (by omega) g1 g3 (by decide))] rfl (by simp [Ui]; omega) ?_;exact rd (i+1) (by omega) h rfl
 ·have e:i=mf:=by omega
  rw [e];exact en tt [.f (decide_eq_false (by omega))] rfl rfl trivial
theorem Q5c {l:List (List Int)} (g:List Int) (h:0<l.length):(zls l++[[rp (zp g)]])[l.length-1]? = some [rp (zp (Sv l))]:=by
 rw [Zm (by rw [Oi]; omega)];exact Oh (by omega)
theorem Qta {a sq:List Int} {c:List (List Int)} (ta:Uo a) (ha:Bd 9000000 a) (la:a.length<=1000) (h2:2<=a.length) (hC:ChRun a sq c):Uk Tryz.prog 49 [.one (rp (zp a))] [.one (.row (zls c))]:=by
 obtain ⟨⟨mf,f,hF,hP,rfl⟩,⟨n,hcr⟩,hbd,hle,hsm⟩:=hC;refine Gm Tryz.func49 rfl ?_;refine go tt [.c [] (Q4l ta ha la h2 hF hP),.lo,.c [] (Qxr (p:=A1 f mf) (Uj hbd (by decide)) (by omega)),.c [] (Qtc (p:=Fe (A1 f mf)) (U3 _ _) (Uj (Qip (t:=10) hbd (by omega)) (by decide)) (Qc (Tr _) (by omega)))] rfl trivial ?_;refine sb [(5,.v (.one (rp (zp (Hn (Fe (A1 f mf))))))),(4,.v (.one (.orow 0 1 none)))] [.row false 28 1 (zls [A1 f mf])] rfl rfl ?_;refine lp (S:=Nat×List (List Int)×List Int) 1 (λL1 s=>(5,.v (.one (rp (zp s.2.2))))::(4,.v (.one (.orow 0 1 none)))::L1) (λs=>[.row false 28 1 (zls s.2.1)]) (λs=>s.1) (λs=>CRun s.1 s.2.1 s.2.2 c/\0<s.2.1.length/\s.2.1.length<=1001) (n,[A1 f mf],Hn (Fe (A1 f mf))) ⟨hcr,by show 0<1; decide,by show 1<=1001; decide⟩ rfl (λ_ _=>rfl) rfl λ⟨k,l,g⟩ ⟨hs1,hs2,hs3⟩=>?_
 have hs1:CRun k l g c:=hs1;have hs2:0<l.length:=hs2;have hs3:l.length<=1001:=hs3;have hll:=Oi l;have hgl:=fzl g;dsimp only;rcases hs1.inv with ⟨hk,hlf,hg0⟩ | ⟨j,m2,r,hk,hg1,hg2,hg3,hrr,hrt,hrb,hrl,hl0,hl1,hcj⟩
 ·subst hlf;exact en tt [.f (decide_eq_false (by omega))] rfl rfl trivial
 ·subst hk;refine go tt [.t (decide_eq_true (by omega)),.s (sz:=1) (Zhc _),.r 23 (eI (b:=((l.length-1:Nat):Int)) (by simp; omega)),.i (l.length-1),.x (Q5c g hl0),.c [] (Q09 (a0:=Sv l) (b:=g) (res:=r) hg1 hg2 hg3 hrr),.c [] (Qtc (p:=r) hrt hrb hrl),.c [] (Qxo (p:=Hn r) (Qm8 hrb) (Qc (I6 r) (by omega)))] rfl (by simp [Ui,hll]; omega) ?_;exact rd (j,l++[g],Se (Hn r)) (by dsimp only; omega) ⟨hcj,by simp,by simp; omega⟩ (by rw [Qfr]; rfl)
theorem Q64 {q:Rat} (h1:Uv q.num<=2000000) (h2:Uv (q.den:Int)<=2000000):Bd 9000000 [-q.num,(q.den:Int)]:=λz hz=>by
 simp only [Qp,Jq,or_false] at hz;rcases hz with rfl | rfl
 ·rw [Gg]; omega
 ·omega
abbrev aq (q:Rat) (c:List (List Int)):List LV:=[rp (zp [-q.num,(q.den:Int)]),.row (zls c)]++fr q++fr q
theorem Qtb {q:Rat} {c:List (List Int)} (hq:Qs 2000000 q) (hC:Q0h q c):Uk Tryz.prog 8 [.agg (fr q)] [.agg (aq q c)]:=by
 obtain ⟨sq,hch⟩:=hC;have co:=C7 (n:=1) (by decide);exact w tt Tryz.func8 rfl [.c [] co,.c [] (P6 (n:=q.num)),.c [] (Q7o (z:=q.num)),.c [] co,.c [] (P6 (n:=(q.den:Int))),.c [] (Qta (a:=[-q.num,(q.den:Int)]) (Qse q) (Q64 hq.1 hq.2) (by show 2<=1000; decide) (Qm 2) hch)] rfl rfl trivial
theorem Qj8 {q:Rat} {c:List (List Int)} (hq:Qs 2000000 q):Uk Tryz.prog 75 [.agg (aq q c)] [.one (.bool true)]:=by
 have cr:=De (a:=q) (b:=q) (hq.mono (by decide)) (hq.mono (by decide));rw [Bt] at cr;exact w tt Tryz.func75 rfl [.c [] cr] rfl rfl trivial
theorem Q5p {p:List Int} (h:p.length=0) (q:Rat):Fc p q=0:=by rw [Qi h]; rfl
theorem Q08 {p:List Int} {q:Rat} {c:List (List Int)} (hp:Bd 30000000 p) (hl:p.length<=64) (hq:Qs 2000000 q):Uk Tryz.prog 76 [.one (rp (zp p)),.agg (aq q c)] [.one (.bool (decide (Fc p q=0)))]:=by
 have hpl:=fzl p;rcases Qz p.length with h0 | h0
 ·rw [decide_eq_true (Q5p h0 q)];exact w tt Tryz.func76 rfl [.t (decide_eq_true (by omega))] rfl rfl trivial
 ·exact w tt Tryz.func76 rfl [.f (decide_eq_false (by omega)),.c [] (Qj8 hq),.t rfl,.c [] (Qd0 hp hl hq)] rfl rfl trivial
theorem Qnc {p:List Int} {q:Rat} {c:List (List Int)} (hp:Bd 30000000 p) (hl:p.length<=64) (hq:Qs 2000000 q):Uk Tryz.prog 51 [.one (rp (zp p)),.agg (aq q c)] [.one (.int .i64 (Fc p q))]:=by
 by_cases h0:Fc p q=0
 ·have cz:=Q08 (c:=c) hp hl hq;rw [h0] at cz ⊢;exact w tt Tryz.func51 rfl [.c [] cz,.t rfl] rfl rfl trivial
 ·exact w tt Tryz.func51 rfl [.c [] (Q08 hp hl hq),.f (decide_eq_false h0),.c [] (Qj8 hq),.g 11 true rfl,.t rfl,.c [] (Qd0 hp hl hq)] rfl rfl trivial
theorem Qj5 {p:List Int} {q:Rat} {c:List (List Int)} (hp:Bd 20000000 p) (hl:p.length<=64) (hq:Qs 2000000 q):Uk Tryz.prog 11 [.one (rp (zp p)),.agg (aq q c)] [.one (.int .i64 (Qc2 p q))]:=by
 refine Gm Tryz.func11 rfl ?_;refine go tt [] rfl trivial ?_;refine lp (S:=List Int) 1 (λL1 r=>(0,.v (.one (rp (zp r))))::L1) (λ_=>[.blk 37 (aq q c)]) (λr=>r.length) (λr=>r.length<=64/\Bd (25000000-30*r.length) r/\Rh (λp=>Fc p q) r.length r=Qc2 p q) p ⟨hl,Uj hp (by omega),rfl⟩ rfl (λ_ _=>rfl) rfl λr ⟨hr0,hr1,hr2⟩=>?_
 have hrl:=fzl r;rcases Qz r.length with h0 | h0
 ·rw [Qhq _ h0] at hr2;exact en tt [.f (decide_eq_false (by omega))] rfl (by rw [<-hr2]) trivial
 by_cases hs:Fc r q=0
 ·have hd:=Tr r;refine go tt [.t (decide_eq_true (by omega)),.c [] (Qnc (p:=r) (c:=c) (Uj hr1 (by omega)) hr0 hq),.f (decide_eq_false (λh=>h hs)),.c [] (Qxr (p:=r) (Uj hr1 (by omega)) (by omega))] rfl trivial ?_;exact rd (Fe r) (by omega) ⟨by omega,Uj (Qip (t:=6) hr1 (by omega)) (by omega),by rw [<-hr2,Qhp _ h0 hs]⟩ rfl
 ·exact en tt [.t (decide_eq_true (by omega)),.c [] (Qnc (p:=r) (c:=c) (Uj hr1 (by omega)) hr0 hq),.t (decide_eq_true hs)] rfl (by rw [<-hr2,Qho _ h0 hs]) trivial
end Orr
namespace Orr
def Ab (p:List Int) (d:Int):List Rat:=p.map λ(z:Int)=>(z:Rat) / (d:Rat)
theorem Mk (p:List Int) (d:Int):(Ab p d).length=p.length:=Q8 _
theorem Zh3 {p:List Int} {i:Nat} {z:Int} {d:Int} (h:p[i]? = some z):(Ab p d)[i]? = some ((z:Rat) / (d:Rat)):=by simp [Ab,h]
theorem Zcm (p:List Int) (d:Int) (i:Nat):(Ab p d).getD i 0=((p.getD i 0:Int):Rat) / (d:Rat):=by
 simp only [Qg,Ab,Q9];cases p[i]? with
 | none=>simp; grind
 | some z=>rfl
theorem Ir (z d:Int):(z:Rat) / (d:Rat)=Rat.divInt z d:=by
 by_cases h:d=0
 ·subst h; simp; grind
 ·rw [Yj];have e1:(z:Rat)=Rat.divInt z 1:=by have:=Zs (z:Rat); simpa using this.symm
  have e2:(d:Rat)⁻¹=Rat.divInt 1 d:=by
   have:(d:Rat)=Rat.divInt d 1:=by have:=Zs (d:Rat); simpa using this.symm
   rw [this,Rat.inv_divInt]
  rw [e1,e2,Kz];simp
theorem Zf3 {z d:Int} (hd:0<d):(((z:Rat) / (d:Rat)).den:Int)*(Int.gcd z d:Nat)=d:=by
 rw [Ir];have h:=(Qq7 (n:=z) hd).2;rw [<-h,Nh,Int.gcd_comm];exact We (Vo ..)
theorem Zap {d a b L:Nat} (hd:0<d) (ha:L*a=d) {D:Nat} (hb:D*b=d):L*D / Nat.gcd L D*Nat.gcd a b=d:=by
 have hL:0<L:=Wo λe=>by rw [e] at ha; omega
 have hD:0<D:=Wo λe=>by rw [e] at hb; omega
 have hg:0<Nat.gcd L D:=Nat.gcd_pos_of_pos_left _ hL;show Nat.lcm L D*Nat.gcd a b=d;rw [<-Nat.gcd_mul_left];refine Nat.dvd_antisymm ?_ ?_
 ·-- gcd (M a) (M b) | d
  obtain ⟨u,hu⟩:=Kt L D;obtain ⟨v,hv⟩:=Wx L D;have hM:Nat.lcm L D=Nat.gcd L D*(u*v):=by
   unfold Nat.lcm
   conv=>lhs; rw [show L*D=Nat.gcd L D*u*(Nat.gcd L D*v) by rw [<-hu,<-hv]]
   rw [show Nat.gcd L D*u*(Nat.gcd L D*v)=Nat.gcd L D*(Nat.gcd L D*(u*v)) by rw [Xq,Km u,]];exact Nat.mul_div_cancel_left _ hg
  have h1:Nat.lcm L D*a=v*d:=by
   rw [hM,<-ha]
   conv=>rhs; rw [hu]
   simp [Zi,Km,Xq]
  have h2:Nat.lcm L D*b=u*d:=by
   rw [hM,<-hb]
   conv=>rhs; rw [hv]
   simp [Zi,Km,Xq]
  have huv:Nat.gcd u v=1:=by
   have:=Nat.gcd_mul_left (Nat.gcd L D) u v;rw [<-hu,<-hv] at this;exact Nat.eq_of_mul_eq_mul_left hg (by omega)
  rw [h1,h2,Nat.gcd_mul_right,Wc,huv,Ug];exact Nat.dvd_refl d
 ·refine Nat.dvd_gcd ?_ ?_
  ·rw [<-ha]; exact Nat.mul_dvd_mul_right (Nat.dvd_lcm_left L D) a
  ·rw [<-hb]; exact Nat.mul_dvd_mul_right (Nat.dvd_lcm_right L D) b
def lcd (z:List Int) (d:Int):Nat->Int
 | 0=>1
 | i+1=>lcd z d i*((((z.getD i 0:Int):Rat) / (d:Rat)).den:Int) / (Int.gcd (lcd z d i) ((((z.getD i 0:Int):Rat) / (d:Rat)).den:Int):Nat)
theorem Qyn {z:List Int} {d:Int} (hd:0<d):∀ i,i<=z.length->lcd z d i*((Gz (d::z.take i):Nat):Int)=d
 |
  0,_=>by
  show 1*_=d;have:((Gz [d]:Nat):Int)=d:=by unfold Gz; simp; omega
  rw [Vv,this,Yw]
 |
  i+1,hi=>by
  have ih:=Qyn (z:=z) hd i (by omega);have hz:z[i]? = some (z.getD i 0):=Qgi (l:=z) (by omega);have hstep:Gz (d::z.take (i+1))=Nat.gcd (Gz (d::z.take i)) (z.getD i 0).natAbs:=by
   have:=Qgg (l:=d::z) (i:=i+1) (z:=z.getD i 0) (by simpa using hz);simpa using this
  have hdn:=Zf3 (z:=z.getD i 0) hd;simp only [lcd];generalize hL:lcd z d i=L at *;generalize hD:(((z.getD i 0:Int):Rat) / (d:Rat)).den=D at *;have hLp:0<L:=by
   rcases J5 L 0 with h | h | h
   ·have:=Int.mul_nonneg (Int.neg_nonneg_of_nonpos (Int.le_of_lt h)) (Int.natCast_nonneg (Gz (d::z.take i)));rw [Vj] at this; omega
   ·rw [h,Yb] at ih; omega
   ·exact h
  obtain ⟨l,rfl⟩:=Yq (Int.le_of_lt hLp);obtain ⟨e,rfl⟩:=Yq (Int.le_of_lt hd);have h1:l*Gz (((e:Nat):Int)::z.take i)=e:=by exact_mod_cast ih
  have h2:D*Int.gcd (z.getD i 0) ((e:Nat):Int)=e:=by exact_mod_cast hdn
  have h3:=Zap (d:=e) (by omega) h1 h2;have h4:Nat.gcd (Gz (((e:Nat):Int)::z.take i)) (Int.gcd (z.getD i 0) ((e:Nat):Int))=Nat.gcd (Gz (((e:Nat):Int)::z.take i)) (z.getD i 0).natAbs:=by
   have hge:Gz (((e:Nat):Int)::z.take i)∣e:=⟨l,by rw [Zi]; exact h1.symm⟩;show Nat.gcd _ (Nat.gcd (z.getD i 0).natAbs e)=_;rw [Wc (z.getD i 0).natAbs e,<-Nat.gcd_assoc,Nat.gcd_eq_left hge]
  rw [hstep,<-h4];rw [show Int.gcd ((l:Nat):Int) ((D:Nat):Int)=Nat.gcd l D by simp [Int.gcd]]
  exact_mod_cast h3
theorem Zgq {x y:List Int} {d:Int} (hd:0<d) (hg:Gz (d::(x++y))=1):lcd (x++y) d (x++y).length=d:=by
 have:=Qyn (z:=x++y) hd (x++y).length (Qm _);rw [Q4,hg] at this;simpa using this
theorem Zgs {z:List Int} {d:Int} (hd:0<d) {i:Nat} (hi:i<=z.length):Uv (lcd z d i)<=Uv d:=by
 have h:=Qyn (z:=z) hd i hi;refine Hy ?_;have h0:Gz (d::z.take i)≠0:=λe=>by rw [e] at h; simp at h; omega
 have:d.natAbs=(lcd z d i).natAbs*Gz (d::z.take i):=by
  conv=>lhs; rw [<-h]
  rw [J0]; simp
 rw [this];exact Jp _ (Wo h0)
end Orr
namespace Orr
open Go Go.Proofs
set_option maxRecDepth 10000
abbrev cl4 (k:Crv):List LV:=[pl k.x,pl k.y,sg k.d,mg k.d]
abbrev Cv (c:Crv):List LV:=[rp (Ab c.x c.d),rp (Ab c.y c.d)]++cl4 c
def Cg (p:Pt):List LV:=Cv p.c++[.int .i64 p.id]
def Fj (l:List Pt):List (List LV):=l.map Cg
structure Rs (k:Crv):Prop where
 n:Nml k
 c:Cs 100000 16 k
theorem Rs.d0 {k:Crv} (h:Rs k):0<k.d:=h.n.2.2.1
theorem Qdj {x:List Int} {d:Int} {s:Nat} (hx:Bd s x) (hd:Uv d<=s) (h1:1<=s):Rb s (Ab x d):=λq hq=>by
 obtain ⟨z,hz,rfl⟩:=Za.1 hq;rw [Ir];exact Qs.divInt (hx z hz) hd h1
theorem Ql3 {x:List Int} {d:Int} (tx:Uo x) (hd:d≠0):P0 (Ab x d) (d:Rat)=zp x:=by
 have hd':(d:Rat)≠0:=λe=>hd (by exact_mod_cast e)
 unfold P0;rw [Qjj (g:=λi=>x.getD i 0) _ λi _=>?_,Mk,Qle,Ny,tx];rw [Zcm]; grind
theorem Qtd {p:List Rat} {c:Int} (hp:Rb 40000000 p) (hc:Uv c<=40000000) (hl:p.length<=1000000):Uk Tryz.prog 230 [.one (rp p),.agg (ri c)] [.one (rp (P0 p (c:Rat)))] :=
 w tt Tryz.func230 rfl [.c [] (C7 (n:=1) (by decide)),.c [] (P6 (n:=c)),.c [] (Ah (p:=p) (c:=(c:Rat)) hp (C0 hc (by omega)) hl)] rfl rfl trivial
theorem Zh2 (x y:List Int) (d:Int):frow (Ab x d)++frow (Ab y d)=frow (Ab (x++y) d):=by simp [Ab,frow]
theorem Qe9 {z:List Int} {d:Int} {i:Nat} (h:i<z.length):(Ab z d)[i]? = some (((z.getD i 0:Int):Rat) / (d:Rat)):=Zh3 (Qgi h)
theorem Qmu (a b:Int) (hb:b≠0) {s:Nat} (h:Uv b<=s):Uv ((Int.gcd a b:Nat):Int)<=s:=by
 refine Qc (Hy ?_) h;simp only [Z9];exact V6 (by omega) (by simpa using Xn.2 (Vo a b))
theorem Zgr (a b:Int):(a*b) % ((Int.gcd a b:Nat):Int)=0:=J1 (V2 (Wz ..) (Kl a b))
theorem Qnd {k:Crv} (hs:Rs k):Uk Tryz.prog 190 [.one (rp (Ab k.x k.d)),.one (rp (Ab k.y k.d))] [.agg (Cv k)]:=by
 have hlx:=hs.c.lx;have hly:=hs.c.ly;have hds:=hs.c.d;have hxy:Bd 100000 (k.x++k.y):=λz hz=>by rcases Qw.1 hz with h | h; exact hs.c.x z h; exact hs.c.y z h
 have hfx:(frow (Ab k.x k.d)).length=k.x.length:=by rw [Tc,Mk]
 have hfy:(frow (Ab k.y k.d)).length=k.y.length:=by rw [Tc,Mk]
 have hfl:(frow (Ab (k.x++k.y) k.d)).length=k.x.length+k.y.length:=by rw [Tc,Mk,Q7]
 have hd0:=hs.d0;refine Gm Tryz.func190 rfl ?_;refine go tt [.c [] (C7 (n:=1) (by decide)),.s (sz:=4) (Qgd _),.s (sz:=4) (Qgd _)] rfl (by simp [Ui,hfx,hfy]; omega) ?_;rw [Zh2];refine lp (S:=Nat) 3 (λL1 i=>(15,.v (.one (.int .i64 (i:Int))))::L1) (λi=>[.blk 59 [.nils,.nils,.nils,.nils,.bool false,.nils],.blk 33 (ri (lcd (k.x++k.y) k.d i)),.row false 35 4 (frow (Ab (k.x++k.y) k.d))]) (λi=>k.x.length+k.y.length-i) (λi=>i<=k.x.length+k.y.length) 0 (Qh _) rfl (λ_ _=>rfl) rfl λi hi=>?_
 have hll:(k.x++k.y).length=k.x.length+k.y.length:=Q7;by_cases h:i<k.x.length+k.y.length
 ·have hlt:i<(k.x++k.y).length:=by omega
  have hqe:=Qdj (x:=(k.x++k.y)) (d:=k.d) (s:=100000) hxy hs.c.d (by decide);have hqi:=hqe.get (Qe9 hlt);obtain ⟨D,hD⟩:=nmE (((((k.x++k.y).getD i 0:Int):Rat) / (k.d:Rat)));have hg:=Li (Qe9 (d:=k.d) hlt);have es:lcd (k.x++k.y) k.d (i+1)=lcd (k.x++k.y) k.d i*(D.den:Int) / ((Int.gcd (lcd (k.x++k.y) k.d i) (D.den:Int):Nat):Int):=by rw [hD]; rfl
  rw [<-hD] at hqi hg;have hq2:=hqi.2;have hli:=Qc (Zgs (z:=(k.x++k.y)) hs.d0 (i:=i) (by omega)) hs.c.d;have hg0:((Int.gcd (lcd (k.x++k.y) k.d i) (D.den:Int):Nat):Int)≠0:=by have:=Int.gcd_ne_zero_right (a:=(lcd (k.x++k.y) k.d i)) (Mm D); omega
  have hmu:=U6 (lcd (k.x++k.y) k.d i) (D.den:Int);refine go tt [.t (decide_eq_true (by omega)),.i i,.x hg,.c [] (S7 (a:=lcd (k.x++k.y) k.d i) (b:=(D.den:Int)) (by omega) (by omega)),.i i,.x hg,.c [] (Qj3 (a:=lcd (k.x++k.y) k.d i) (b:=(D.den:Int)) (by omega) (by omega)),.c [] (Qf3 (by omega) (Qc (Qmu _ _ (Mm D) hq2) (by decide)) hg0 (Zgr _ _))] rfl (by simp [Ui,hfl]; omega) ?_;exact rd (i+1) (by omega) h (by rw [es]; rfl)
 have e:lcd (k.x++k.y) k.d i=k.d:=by rw [show i=(k.x++k.y).length by omega]; exact Zgq hs.d0 hs.n.2.2.2
 rw [e];have hx:=Qtd (p:=Ab k.x k.d) (c:=k.d) ((Qdj (s:=100000) hs.c.x hs.c.d (by decide)).mono (by omega)) (by omega) (by rw [Mk]; omega);have hy:=Qtd (p:=Ab k.y k.d) (c:=k.d) ((Qdj (s:=100000) hs.c.y hs.c.d (by decide)).mono (by omega)) (by omega) (by rw [Mk]; omega);rw [Ql3 hs.n.1 (by omega)] at hx;rw [Ql3 hs.n.2.1 (by omega)] at hy;exact en tt [.f (decide_eq_false (by omega)),.c [] hx,.c [] (Zjc (p:=k.x) (Uj hs.c.x (by omega)) (by omega)),.c [] hy,.c [] (Zjc (p:=k.y) (Uj hs.c.y (by omega)) (by omega)),.c [] (Q70 (z:=k.d) (by omega))] rfl rfl trivial
theorem Qry (k:Crv):Gb 1 k.d'=((1:Int):Rat) / (k.d':Rat):=by
 unfold Gb; rw [if_neg k.d'_ne,Ir]
theorem Qh5 {x:List Int} {g d:Int} (hg:g≠0) (hd:d≠0) (hgd:g∣d) (tx:Uo x) (hx:∀ z∈x,g∣z):P0 (zp x) (((1:Int):Rat) / (d:Rat))=Ab (trim (x.map (· / g))) (d / g):=by
 have ht:Uo (x.map (· / g)):=Ly tx hg hx;rw [show trim (x.map (· / g))=x.map (· / g) from ht];obtain ⟨e,rfl⟩:=hgd;have he:e≠0:=λh=>hd (by rw [h,Vs])
 rw [Xx _ hg];have hgq:(g:Rat)≠0:=λh=>hg (by exact_mod_cast h)
 have heq:(e:Rat)≠0:=λh=>he (by exact_mod_cast h)
 unfold P0;rw [Su];have hval:∀ i,i<x.length->(zp x).getD i 0*(((1:Int):Rat) / ((g*e:Int):Rat))=(((x.map (· / g)).getD i 0:Int):Rat) / (e:Rat):=λi hi=>by
  rw [Qfs];have hz:=Qgi hi;have hm:(x.map (· / g)).getD i 0=x.getD i 0 / g:=by simp [Qg,Qe hi]
  obtain ⟨w,hw⟩:=hx _ (Qa hz);rw [hm,hw,Xx _ hg,X1,X1];have:((1:Int):Rat)=1:=rfl;rw [this];grind
 have htab:Ow (λi=>(zp x).getD i 0*(((1:Int):Rat) / ((g*e:Int):Rat))) x.length=Ab (x.map (· / g)) e:=by
  apply Xt;intro i;by_cases hi:i<x.length
  ·rw [Qe9 (by simpa using hi)];simp only [Ow,Q9,X3 hi,J9];rw [hval i hi]
  ·rw [Qt (by rw [Qfe]; omega),Qt (by rw [Mk]; simp; omega)]
 rw [htab];rcases Qz x.length with h0 | h0
 ·have:=Qi h0; subst this; rfl
 ·have hl:(Ab (x.map (· / g)) e).length=x.length:=by rw [Mk,Q8]
  have:=Qg6 (l:=Ab (x.map (· / g)) e) (m:=x.length) (by omega) (λj y hj hy=>by rw [Qt (by omega)] at hy; cases hy) (λ_=>⟨_,Qe9 (z:=x.map (· / g)) (d:=e) (i:=x.length-1) (by rw [Q8]; omega),λh=>by
   have h3:(((x.map (· / g)).getD (x.length-1) 0:Int):Rat)=0:=by grind
   have h4:(x.map (· / g)).getD (x.length-1) 0=0:=by exact_mod_cast h3
   have:=Gv ht (by rw [Q8]; omega);rw [Q8] at this;exact this h4⟩)
  rw [this,Qk (by omega)]
theorem Zb4 {k:Crv} (hk:Cs 100000 16 k):Qs 40000000 (Gb 1 k.d'):=by
 have h1:=Qqy hk.d (by decide);rw [Qry,Ir];exact Qs.divInt (by decide) (by omega) (by decide)
theorem Crv.g_dvd' (k:Crv) {z:Int} (h:z∈k.d'::(trim k.x++trim k.y)):k.g∣z:=Yp (k.g_dvd z h)
theorem Zcg (k:Crv):P0 (zp (trim k.x)) (Gb 1 k.d')=Ab k.norm.x k.norm.d:=by
 rw [Qry];exact Qh5 k.g_ne k.d'_ne (k.g_dvd' (by simp)) (Ha _) (λz hz=>k.g_dvd' (by simp [hz]))
theorem Zch (k:Crv):P0 (zp (trim k.y)) (Gb 1 k.d')=Ab k.norm.y k.norm.d:=by
 rw [Qry];exact Qh5 k.g_ne k.d'_ne (k.g_dvd' (by simp)) (Ha _) (λz hz=>k.g_dvd' (by simp [hz]))
theorem Q3n {k:Crv} (h:Cs 100000 16 k):Rs k.norm:=⟨k.nml,h.norm (by decide)⟩
theorem Zfj {k:Crv} (hk:Cs 100000 16 k):Uk Tryz.prog 152 [.agg (cl4 k)] [.agg (Cv (Crv.norm k))]:=by
 have hlx:=hk.lx;have hly:=hk.ly;have hkd:=hk.d;have hrq:=Zb4 hk;have hdi:Uv k.d'<=100000:=Qqy hk.d (by decide);have hx:=Ah (p:=zp (trim k.x)) (c:=Gb 1 k.d') (Qci (Uj (Ru hk.x) (by omega)) (by omega)) hrq (by rw [Su]; have:=He k.x; omega);have hy:=Ah (p:=zp (trim k.y)) (c:=Gb 1 k.d') (Qci (Uj (Ru hk.y) (by omega)) (by omega)) hrq (by rw [Su]; have:=He k.y; omega);rw [Zcg] at hx;rw [Zch] at hy;have c1:=C7 (n:=1) (by decide);have cm:=Qbg (a:=1) (b:=k.d') (by decide) (by omega);by_cases h0:k.d=0
 ·have e:k.d'=1:=by unfold Crv.d'; rw [if_pos h0]
  rw [e] at hx hy cm;exact w tt Tryz.func152 rfl [.c [] (Qf1 (z:=k.d) (by omega)),.c [] Mg,.t (decide_eq_true h0),.c [] c1,.c [] c1,.c [] cm,.c [] (Ef (p:=k.x) (Uj hk.x (by omega)) (by omega)),.c [] hx,.c [] (Ef (p:=k.y) (Uj hk.y (by omega)) (by omega)),.c [] hy,.c [] (Qnd (Q3n hk))] rfl rfl trivial
 ·have e:k.d'=k.d:=by unfold Crv.d'; rw [if_neg h0]
  rw [e] at hx hy cm;exact w tt Tryz.func152 rfl [.c [] (Qf1 (z:=k.d) (by omega)),.c [] Mg,.f (decide_eq_false h0),.c [] c1,.c [] cm,.c [] (Ef (p:=k.x) (Uj hk.x (by omega)) (by omega)),.c [] hx,.c [] (Ef (p:=k.y) (Uj hk.y (by omega)) (by omega)),.c [] hy,.c [] (Qnd (Q3n hk))] rfl rfl trivial
theorem Q8l {k:Crv} {id:Int} (hk:Cs 100000 16 k):Uk Tryz.prog 93 [.agg (cl4 k++[.int .i64 id])] [.agg (Cg ⟨Crv.norm k,id⟩)] :=
 w tt Tryz.func93 rfl [.c [] (Zfj hk)] rfl rfl trivial
theorem Qcv {k:Crv} (hk:Rs k):Uk Tryz.prog 53 [.agg (Cv k)] [.one (rp (zp k.x)),.one (rp (zp k.y)),.one (rp (zp [k.d]))]:=by
 have hlx:=hk.c.lx;have hly:=hk.c.ly;have hkd:=hk.c.d;have hx:=Ef (p:=k.x) (Uj hk.c.x (by omega)) (by omega);have hy:=Ef (p:=k.y) (Uj hk.c.y (by omega)) (by omega);rw [show trim k.x=k.x from hk.n.1] at hx;rw [show trim k.y=k.y from hk.n.2.1] at hy;exact w tt Tryz.func53 rfl [.c [] (Qf1 (z:=k.d) (by omega)),.c [] (C7 (n:=1) (by decide)),.c [] (P6 (n:=k.d)),.c [] hx,.c [] hy] rfl rfl trivial
theorem Zke {s:Nat} {d:Int} (h:Uv d<=s):Bd s [d]:=λz hz=>by simp at hz; subst hz; exact h
theorem Rs.dn {k:Crv} (h:Rs k):k.d≠0:=by have:=h.d0; omega
end Orr
namespace Orr
open Go
structure RawInt where
 b:Bool
 l:List Nat
structure RawPt where
 x:List RawInt
 y:List RawInt
 d:RawInt
 id:Int
abbrev Qg4 (z:RawInt):List LV:=[.bool z.b,Zm1 z.l]
structure RawInt.Ok (z:RawInt):Prop where
 u:∀ u∈z.l,u<4294967296
structure RawPt.Ok (z:RawPt):Prop where
 x:∀ a∈z.x,a.Ok
 y:∀ a∈z.y,a.Ok
 d:z.d.Ok
 id:-9223372036854775808<=z.id/\z.id<=9223372036854775807
def RawInt.cut (z:RawInt):RawInt:=⟨z.b,z.l.take 1⟩
def Ri (most:Int) (z:RawInt):Int:=match z.l with
 | []=>0
 | u::_=>if z.b=true then -((u:Int) % (most+1)) else (u:Int) % (most+1)
theorem Qc8 {most:Int} (h:0<=most) (z:RawInt):-most<=Ri most z/\Ri most z<=most:=by
 unfold Ri
 split
 ·omega
 ·rename_i u _ _;have h1:=V9 (u:Int) (b:=most+1) (by omega);have h2:=Vd (u:Int) (b:=most+1) (by omega)
  split <;> omega
def Gt (most:Int) (l:List RawInt):List Int:=(l.take 3).map (Ri most)
def Qeh (most:Int) (x y:List RawInt) (d:RawInt):Crv:=⟨Gt most x,Gt most y,Ri 3 d⟩
def Qbp (most:Int) (z:RawPt):Pt:=⟨Qeh most z.x z.y z.d,z.id % 1000⟩
theorem Qhx (most:Int) (l:List RawInt):(Gt most l).length<=3:=by unfold Gt; rw [List.length_map,List.length_take]; omega
theorem Qq5 {most:Int} {l:List RawInt} {i:Nat} {z:RawInt} (hi:i<3) (h:l[i]? = some z):Gt most (l.take (i+1))=Gt most (l.take i)++[Ri most z]:=by
 unfold Gt;rw [Wi,Wi,V1 (by omega),V1 (by omega),Zw,h];simp
theorem Qhw (most:Int) {l:List RawInt} {i:Nat} (h:l.length<=i\/3<=i):Gt most (l.take i)=Gt most l:=by
 unfold Gt;rw [Wi];rcases Nat.le_total 3 i with h3 | h3
 ·rw [Zt h3]
 ·rcases h with h | h
  ·rw [V1 h3,Qk (l:=l) (i:=i) (by omega),Qk (l:=l) (i:=3) (by omega)]
  ·rw [V1 h3,show i=3 by omega]
theorem Qhy {most:Int} {l:List RawInt} {z:Int} (hm:0<=most) (h:z∈Gt most l):-most<=z/\z<=most:=by
 obtain ⟨a,_,rfl⟩:=Za.1 h;exact Qc8 hm a
theorem Qnl {most:Int} (hm:0<=most/\most<=999) (x y:List RawInt) (d:RawInt):Cs 10 3 (Qeh most x y d):=by
 have key:∀ z:Int,-999<=z/\z<=999->Uv z<=10:=λz h=>Rr.2 (by omega)
 refine ⟨λz hz=>?_,λz hz=>?_,?_,Qhx _ _,Qhx _ _⟩
 ·have:=Qhy hm.1 hz; exact key _ (by omega)
 ·have:=Qhy hm.1 hz; exact key _ (by omega)
 ·have:=Qc8 (most:=3) (by decide) d;show Uv (Ri 3 d)<=10;exact key _ (by omega)
def S5 (n:Nat):List Pt->List Pt->List Pt
 | out,[]=>out
 | out,p::l=>if out.length<n then (if out.any (λx=>decide (x.id=p.id))=true then S5 n out l else S5 n (out++[p]) l) else out
theorem Iz {n:Nat}:∀ (l out:List Pt) (p:Pt),(S5 n out l).length<n->(S5 n out l).any (λx=>decide (x.id=p.id))=true->S5 n out (l++[p])=S5 n out l
 |
  [],out,p,h,ha=>by
  simp only [S5] at h ha;show S5 n out [p]=out;simp only [S5];rw [if_pos h,if_pos ha]
 |
  x::l,out,p,h,ha=>by
  show S5 n out (x::(l++[p]))=S5 n out (x::l);simp only [S5] at h ha ⊢
  split
  ·rename_i h0;rw [if_pos h0] at h ha
   split
   ·rename_i h1;rw [if_pos h1] at h ha;exact Iz l out p h ha
   ·rename_i h1;rw [if_neg h1] at h ha;exact Iz l _ p h ha
  ·rfl
theorem E4 {n:Nat}:∀ (l out:List Pt) (p:Pt),(S5 n out l).length<n->(S5 n out l).any (λx=>decide (x.id=p.id))=false->S5 n out (l++[p])=S5 n out l++[p]
 |
  [],out,p,h,ha=>by
  simp only [S5] at h ha;show S5 n out [p]=out++[p];simp only [S5];rw [if_pos h,if_neg (by rw [ha]; simp)]
 |
  x::l,out,p,h,ha=>by
  show S5 n out (x::(l++[p]))=S5 n out (x::l)++[p];simp only [S5] at h ha ⊢
  split
  ·rename_i h0;rw [if_pos h0] at h ha
   split
   ·rename_i h1;rw [if_pos h1] at h ha;exact E4 l out p h ha
   ·rename_i h1;rw [if_neg h1] at h ha;exact E4 l _ p h ha
  ·rename_i h0;rw [if_neg h0] at h;omega
theorem Qgf {n:Nat}:∀ (l m out:List Pt),n<=(S5 n out l).length->S5 n out (l++m)=S5 n out l
 |
  [],m,out,h=>by
  simp only [S5] at h;show S5 n out m=out
  match m with
  | []=>rfl
  | p::m=>simp only [S5]; rw [if_neg (by omega)]
 |
  x::l,m,out,h=>by
  show S5 n out (x::(l++m))=S5 n out (x::l);simp only [S5] at h ⊢
  split
  ·rename_i h0;rw [if_pos h0] at h
   split
   ·rename_i h1;rw [if_pos h1] at h;exact Qgf l m out h
   ·rename_i h1;rw [if_neg h1] at h;exact Qgf l m _ h
  ·rfl
theorem Qab {n:Nat}:∀ (l out:List Pt),out.length<=n->(S5 n out l).length<=n
 | [],out,h=>h
 |
  x::l,out,h=>by
  simp only [S5]
  split
  ·split
   ·exact Qab l out h
   ·exact Qab l _ (by rw [Q7]; show _+1<=_; omega)
  ·exact h
theorem Qd9 {n:Nat}:∀ (l out:List Pt) {p:Pt},p∈S5 n out l->p∈out\/p∈l
 | [],out,p,h=>.inl h
 |
  x::l,out,p,h=>by
  simp only [S5] at h
  split at h
  ·split at h
   ·rcases Qd9 l out h with h | h
    ·exact .inl h
    ·exact .inr (Qj _ h)
   ·rcases Qd9 l _ h with h | h
    ·rcases Qw.1 h with h | h
     ·exact .inl h
     ·exact .inr (by rw [Ql.1 h]; exact Qr ..)
    ·exact .inr (Qj _ h)
  ·exact .inl h
def Qg0 (n:Nat) (most:Int) (zs:List RawPt):List Pt:=S5 n [] (zs.map (Qbp most))
def Pt.nrm (p:Pt):Pt:=⟨p.c.norm,p.id⟩
end Orr
namespace Orr
def B6 (l:List Pt):Prop:=l.Pairwise λa b=>a.id<b.id
theorem Zgh (id:Int):has [] id=false:=rfl
theorem Qua (p:Pt) (l:List Pt) (id:Int):has (p::l) id=if p.id<id then has l id else decide (p.id=id):=by
 by_cases h:p.id<id
 ·rw [if_pos h]; unfold has; simp only [pos]; rw [if_pos h]; simp
 ·rw [if_neg h]; unfold has; simp only [pos]; rw [if_neg h]; simp
theorem Zbw (p:Pt) (l:List Pt) (q:Pt):put (p::l) q=if p.id<q.id then p::put l q else q::p::l:=by
 unfold put;simp only [pos]
 split <;> simp
theorem Qqw:∀ {l:List Pt} {id:Int},B6 l->(has l id=true↔∃ p∈l,p.id=id)
 | [],id,_=>by simp [Zgh]
 |
  p::l,id,h=>by
  have h1:=Xj.1 h;rw [Qua]
  split
  ·rename_i hlt;rw [Qqw h1.2];constructor
   ·rintro ⟨x,hx,e⟩; exact ⟨x,Qj _ hx,e⟩
   ·rintro ⟨x,hx,e⟩
    rcases Qp.1 hx with rfl | hx
    ·omega
    ·exact ⟨x,hx,e⟩
  ·rename_i hge;rw [decide_eq_true_iff];constructor
   ·intro e; exact ⟨p,Qr ..,e⟩
   ·rintro ⟨x,hx,e⟩
    rcases Qp.1 hx with rfl | hx
    ·exact e
    ·have:=h1.1 x hx; omega
theorem Qly:∀ {l:List Pt} {q:Pt},B6 l->has l q.id=false->B6 (put l q)
 | [],q,_,_=>by simp [put,pos,B6]
 |
  p::l,q,h,hn=>by
  have h1:=Xj.1 h;rw [Qua] at hn;rw [Zbw]
  split
  ·rename_i hlt;rw [if_pos hlt] at hn;refine Xj.2 ⟨λx hx=>?_,Qly h1.2 hn⟩;rcases Q3e hx with rfl | hx
   ·exact hlt
   ·exact h1.1 x hx
  ·rename_i hge;rw [if_neg hge,decide_eq_false_iff_not] at hn;refine Xj.2 ⟨λx hx=>?_,h⟩;rcases Qp.1 hx with rfl | hx
   ·omega
   ·have:=h1.1 x hx; omega
theorem Q2o {l:List Pt} {q p:Pt} (h:p=q\/p∈l):p∈put l q:=by
 unfold put;rcases h with rfl | h
 ·simp
 ·rw [<-Ze (pos l q.id) l] at h;simp only [Qw,Qp] at h ⊢;rcases h with h | h
  ·exact .inl h
  ·exact .inr (.inr h)
theorem Zbv {l:List Pt} {q:Pt} (h:l.length<6):Qaz l q=if has l q.id=true then 6 else 0:=by
 unfold Qaz
 split
 ·rfl
 ·rw [if_neg (by omega)]
theorem Qom:∀ (qs acc:List Pt),B6 acc->acc.length+qs.length<=6 ->
 ((Ts acc qs).2=0/\B6 (Ts acc qs).1/\(Ts acc qs).1.length=acc.length+qs.length/\qs.Pairwise (λa b=>a.id≠b.id)/\∀ q∈qs,∀ p∈acc,p.id≠q.id) \/
 ((Ts acc qs).2=6/\¬(qs.Pairwise (λa b=>a.id≠b.id)/\∀ q∈qs,∀ p∈acc,p.id≠q.id))
 | [],acc,hs,_=>.inl ⟨rfl,hs,rfl,List.Pairwise.nil,λ_ h=>absurd h (by simp)⟩
 |
  q::qs,acc,hs,hl=>by
  simp only [Q6] at hl;have he:=Zbv (l:=acc) (q:=q) (by omega);simp only [Ts];cases hh:has acc q.id with
  |
   true =>
   rw [hh,if_pos rfl] at he;rw [he,if_neg (by decide)];obtain ⟨p,hp,e⟩:=(Qqw hs).1 hh;exact .inr ⟨rfl,λh=>h.2 q (Qr ..) p hp e⟩
  |
   false =>
   rw [hh,if_neg (by decide)] at he;rw [he,if_pos rfl];have hno:∀ p∈acc,p.id≠q.id:=λp hp e=>by
    have:=(Qqw hs).2 ⟨p,hp,e⟩;rw [hh] at this; cases this
   have hpl:=Q3d acc q;rcases Qom qs (put acc q) (Qly hs hh) (by omega) with ⟨h1,h2,h3,h4,h5⟩ | ⟨h1,h2⟩
   ·refine .inl ⟨h1,h2,by simp only [Q6]; omega,Xj.2 ⟨λx hx=>h5 x hx q (Q2o (.inl rfl)),h4⟩,λx hx p hp=>?_⟩;rcases Qp.1 hx with rfl | hx
    ·exact hno p hp
    ·exact h5 x hx p (Q2o (.inr hp))
   ·refine .inr ⟨h1,λh=>h2 ⟨(Xj.1 h.1).2,λx hx p hp=>?_⟩⟩;rcases Q3e hp with rfl | hp
    ·exact (Xj.1 h.1).1 x hx
    ·exact h.2 x (Qj _ hx) p hp
theorem Q5j {qs:List Pt} (hl:qs.length<=6) :
 ((Ts [] qs).2=0/\B6 (Ts [] qs).1/\(Ts [] qs).1.length=qs.length/\qs.Pairwise (λa b=>a.id≠b.id))\/((Ts [] qs).2=6/\¬qs.Pairwise (λa b=>a.id≠b.id)):=by
 rcases Qom qs [] List.Pairwise.nil (by simpa using hl) with ⟨h1,h2,h3,h4,_⟩ | ⟨h1,h2⟩
 ·exact .inl ⟨h1,h2,by simpa using h3,h4⟩
 ·exact .inr ⟨h1,λh=>h2 ⟨h,λ_ _ _ hp=>absurd hp (by simp)⟩⟩
end Orr
namespace Orq
open Orr Go
theorem Zor {a b c:Tm} (hb:Cut (U0 b)) (hc:Cut (U0 c)) (h:Pw a b) (h':Pw b c):Pw a c:=by
 obtain ⟨q,q1,q2⟩:=h;obtain ⟨r,r1,r2⟩:=h';exact ⟨q,q1,hc.mono' (hb.lt q2 r1) (by omega)⟩
theorem Qc7 {a b:Tm} (ha:Cut (U0 a)) (hb:Cut (U0 b)) (h:¬Pw b a):Leq a (U0 b):=λq hq=>by
 rcases ha.val q with e | e | e
 ·exact absurd ⟨q,hq,e⟩ h
 ·obtain ⟨r,r1,r2⟩:=hb.dn q hq;exact absurd ⟨r,r2,ha.mono' r1 (by omega)⟩ h
 ·exact e
theorem Zoo {a b c:Tm} (ha:Cut (U0 a)) (hb:Cut (U0 b)) (h:¬Pw b a) (h':Pw b c):Pw a c:=by
 obtain ⟨q,q1,q2⟩:=h';exact ⟨q,Qc7 ha hb h q q1,q2⟩
theorem Q2h {a b c:Tm} (_:Cut (U0 a)) (hb:Cut (U0 b)) (hc:Cut (U0 c)) (h:Pw a b) (h':¬Pw c b):Pw a c:=by
 obtain ⟨q,q1,q2⟩:=h;refine ⟨q,q1,?_⟩;have hl:=Qc7 hb hc h';rcases hc.val q with e | e | e
 ·exact e
 ·obtain ⟨r,r1,r2⟩:=hb.up q q2;have h1:=hc.mono q r r1 (by omega);have:=hl r h1;omega
 ·have:=hl q e; omega
theorem Qq8 {a b:Tm} (ha:Cut (U0 a)) (hb:Cut (U0 b)) (h:Pw a b):¬Pw b a:=λh'=>Qak ha hb h h'
theorem Qu2 {p:List Int} {a b:Tm} {o:Option Tm} (ha:Cut (U0 a)) (hb:Cut (U0 b)) (hab:¬Pw b a) (h:Tq p a o) (ho:∀ t,o=some t->Pw b t):Tq p b o:=by
 have hl:=Qc7 ha hb hab;cases o with
 |
  none =>
  rcases h with h | ⟨s,s0,h⟩
  ·exact .inl h
  ·exact .inr ⟨s,s0,λc hc hbc=>h c hc λq hq=>hl q (hbc q hq)⟩
 |
  some t =>
  obtain ⟨h1,h2,_,s,s0,h4,h5⟩:=h;exact ⟨h1,h2,ho t rfl,s,s0,λc hc hbc hm=>h4 c hc (λq hq=>hl q (hbc q hq)) hm,h5⟩
theorem Qgh {p:List Int} {a b:Tm} {o:Option Tm} (hp:Dp p) (ha:Va a) (hb:Va b) (hab:¬Pw b a) (h:Tq p a o) (ho:∀ t,o=some t->Pw b t):Mp (Pi b) p=Mp (Pi a) p:=by
 by_cases h0:p.length=0
 ·obtain rfl:=Qi h0; rfl
 obtain ⟨ra,_⟩:=Q15 ha hp h0;obtain ⟨rb,_⟩:=Q15 hb hp h0;have hl:=Qc7 ha.cut hb.cut hab;cases o with
 |
  none =>
  rcases h with h | ⟨s,s0,h⟩
  ·exact absurd (by rw [h]; rfl) h0
  ·exact (Qe7 rb (h _ hb.cut hl)).trans (Qe7 ra (h _ ha.cut λ_ h=>h)).symm
 |
  some t =>
  obtain ⟨h1,h2,h3,s,s0,h4,h5⟩:=h;exact (Qe7 rb (h4 _ hb.cut hl (ho t rfl))).trans (Qe7 ra (h4 _ ha.cut (λ_ h=>h) h3)).symm
theorem Qpe (t q:Rat):U0 (tq t) q=Fi t q:=Eh (t:=tq t) rfl q
theorem O5 {a:Tm} {t:Rat} (ha:Cut (U0 a)):0<U0 a t↔Pw (tq t) a:=by
 constructor
 ·intro h;have h1:U0 a t=1:=by rcases ha.val t with e | e | e <;> omega
  obtain ⟨r,r1,r2⟩:=ha.up t h1;exact ⟨r,by rw [Qpe]; rcases Ta t r with ⟨e,e'⟩ | ⟨e,e'⟩ | ⟨e,e'⟩ <;> first | exact e | (exfalso; grind),r2⟩
 ·rintro ⟨q,q1,q2⟩
  rw [Qpe] at q1;have:t<q:=by rcases Ta t q with ⟨e,e'⟩ | ⟨e,e'⟩ | ⟨e,e'⟩ <;> first | exact e' | omega
  have:=ha.mono' this (by omega);omega
open Classical in
noncomputable def mu (T:List Tm) (a:Tm):Nat:=(T.filter λt=>decide (Pw a t)).length
theorem Qnx {α:Type} {p q:α->Bool} (h:∀ x,p x=true->q x=true):∀ l:List α,(l.filter p).length<=(l.filter q).length
 | []=>Qm _
 |
  x::l=>by
  have ih:=Qnx h l;by_cases hp:p x=true
  ·rw [Jn hp,Jn (h x hp)]; simp; exact ih
  ·rw [Ys hp];by_cases hq:q x=true
   ·rw [Jn hq]; simp; omega
   ·rw [Ys hq]; exact ih
theorem Qny {α:Type} {p q:α->Bool} (h:∀ x,p x=true->q x=true) {y:α} (hp:p y=false) (hq:q y=true):∀ {l:List α},y∈l->(l.filter p).length<(l.filter q).length
 | [],hy=>by cases hy
 |
  x::l,hy=>by
  rcases Qp.1 hy with rfl | hy
  ·rw [Ys (by simp [hp]),Jn hq];have:=Qnx h l;simp; omega
  ·have ih:=Qny h hp hq hy;by_cases hp:p x=true
   ·rw [Jn hp,Jn (h x hp)]; simp; exact ih
   ·rw [Ys hp];by_cases hq:q x=true
    ·rw [Jn hq]; simp; omega
    ·rw [Ys hq]; exact ih
open Classical in
theorem Zjv {T:List Tm} {a b:Tm} (ha:Cut (U0 a)) (hb:Cut (U0 b)) (hT:∀ t∈T,Cut (U0 t)) (h:Pw a b) (hm:b∈T):mu T b<mu T a:=by
 have key:∀ l:List Tm,(∀ t∈l,Cut (U0 t))->l.filter (λt=>decide (Pw b t))=l.filter (λt=>decide (Cut (U0 t)/\Pw b t)):=λl hl=>List.filter_congr λx hx=>by simp [hl x hx]
 have key2:∀ l:List Tm,(∀ t∈l,Cut (U0 t))->l.filter (λt=>decide (Pw a t))=l.filter (λt=>decide (Cut (U0 t)/\Pw a t)):=λl hl=>List.filter_congr λx hx=>by simp [hl x hx]
 unfold mu;rw [key T hT,key2 T hT];refine Qny (λx hx=>?_) (y:=b) ?_ ?_ hm
 ·have hx:=of_decide_eq_true hx;exact decide_eq_true ⟨hx.1,Zor hb hx.1 h hx.2⟩
 ·exact decide_eq_false λhx=>Qak hb hb hx.2 hx.2
 ·exact decide_eq_true ⟨hb,h⟩
def tms (p:List Int):List Tm:=(E9 p).getD []
structure KInv (c:Cr):Prop where
 ok:CrOk c
 k:∀ w∈c.l,w.known=true->Tq w.c.p c.now w.fails/\∀ t,w.fails=some t->t∈tms w.c.p
theorem Qyw {p:List Int} (h:Cp p) {a:Tm} (ha:Va a):∃ r,Qh0 p a=some r/\Tq p a r/\∀ t,r=some t->t∈tms p:=by
 obtain ⟨l,l1,_,_,l3⟩:=Qba h;obtain ⟨r,r1,r2,r3⟩:=l3 a ha;refine ⟨r,?_,r2,λt ht=>by unfold tms; rw [l1]; exact r3 t ht⟩;unfold Qh0; rw [l1]; exact r1
theorem Zm0 {p:List Int} (h:Cp p):∀ t∈tms p,Va t:=by
 obtain ⟨l,l1,_,l2,_⟩:=Qba h;unfold tms; rw [l1]; exact l2
theorem Qq6 {now:Tm} (hn:Va now):∀ {l:List Wt},(∀ w∈l,WtOk w)->(∀ w∈l,w.known=true->Tq w.c.p now w.fails/\∀ t,w.fails=some t->t∈tms w.c.p) ->
 ∃ ws,Bj now l=some ws/\ws.map (·.c)=l.map (·.c)/\∀ w∈ws,w.known=true/\Tq w.c.p now w.fails/\∀ t,w.fails=some t->t∈tms w.c.p
 | [],_,_=>⟨[],rfl,rfl,λw hw=>by cases hw⟩
 |
  w::l,h,h'=>by
  obtain ⟨ws,w1,w2,w3⟩:=Qq6 hn (λv hv=>h v (Qj _ hv)) (λv hv=>h' v (Qj _ hv));by_cases hk:w.known=true
  ·refine ⟨w::ws,by simp only [Bj,hk,if_true,w1]; rfl,by simp [w2],λv hv=>?_⟩;rcases Qp.1 hv with rfl | hv
   ·exact ⟨hk,h' v (by simp) hk⟩
   ·exact w3 v hv
  ·obtain ⟨r,r1,r2,r3⟩:=Qyw (h w (by simp)).p hn;refine ⟨⟨w.c,true,r⟩::ws,by simp only [Bj]; rw [if_neg hk,r1,w1]; rfl,by simp [w2],λv hv=>?_⟩;rcases Qp.1 hv with rfl | hv
   ·exact ⟨rfl,r2,r3⟩
   ·exact w3 v hv
theorem Q2d {at_:Tm} (ha:Va at_) {x:Ct}:∀ {l:List Wt},(∀ w∈l,WtOk w)->∃ w,Ll l x at_=some w/\w.c=x
 | [],_=>⟨fresh x,rfl,rfl⟩
 |
  v::l,h=>by
  obtain ⟨w,w1,w2⟩:=Q2d ha (x:=x) λv hv=>h v (Qj _ hv)
  simp only [Ll]
  split
  ·cases hf:v.fails with
   | none=>exact ⟨_,rfl,rfl⟩
   |
    some t =>
    obtain ⟨c,c1,_⟩:=Qbi ((h v (by simp)).f t hf) ha;dsimp only;rw [c1];show ∃ w,(if 0<c then some ⟨x,true,some t⟩ else Ll l x at_)=some w/\w.c=x
    split
    ·exact ⟨_,rfl,rfl⟩
    ·exact ⟨w,w1,w2⟩
  ·exact ⟨w,w1,w2⟩
theorem Zao {at_:Tm} (ha:Va at_) {ol:List Wt} (ho:∀ w∈ol,WtOk w):∀ l:List Ct,∃ ws,Qee ol at_ l=some ws/\ws.map (·.c)=l
 | []=>⟨[],rfl,rfl⟩
 |
  x::l=>by
  obtain ⟨w,w1,w2⟩:=Q2d ha (x:=x) ho;obtain ⟨ws,s1,s2⟩:=Zao ha ho l;exact ⟨w::ws,by simp only [Qee,w1,s1]; rfl,by simp [w2,s2]⟩
theorem Q48 {out:List Ct} {c x:Ct}:x∈Qc3 out c↔x=c\/x∈out:=by
 have h:x∈out↔x∈out.take (Qau out c out.length)\/x∈out.drop (Qau out c out.length):=by
  rw [<-Qw,Ze]
 simp only [Qc3,Qw,Qp,h];constructor
 ·rintro (h | h | h)
  ·exact .inr (.inl h)
  ·exact .inl h
  ·exact .inr (.inr h)
 ·rintro (h | h | h)
  ·exact .inr (.inl h)
  ·exact .inl h
  ·exact .inr (.inr h)
theorem Qn1:∀ (l acc:List Ct) {y:Ct},y∈l.foldl Qc3 acc↔y∈l\/y∈acc
 | [],acc,y=>by simp
 |
  c::l,acc,y=>by
  simp only [Xe];rw [Qn1 l,Q48,Qp];constructor
  ·rintro (h | h | h)
   ·exact .inl (.inr h)
   ·exact .inl (.inl h)
   ·exact .inr h
  ·rintro ((h | h) | h)
   ·exact .inr (.inl h)
   ·exact .inl h
   ·exact .inr (.inr h)
theorem D3 {l:List Ct} {x:Ct}:x∈G5 l↔x∈l:=by unfold G5; rw [Qn1]; simp
theorem Qyy {ws:List Wt} (hw:∀ w∈ws,WtOk w):∃ o,Qlj ws=some o/\match o with
 | none=>∀ w∈ws,w.fails=none
 | some a=>Va a/\(∃ w∈ws,w.fails=some a)/\∀ w∈ws,∀ t,w.fails=some t->¬Pw t a:=by
 have hv:∀ t∈ws.filterMap (·.fails),Va t:=λt ht=>by
  obtain ⟨w,w1,w2⟩:=Jm.1 ht;exact (hw w w1).f t w2
 unfold Qlj;cases hf:ws.filterMap (·.fails) with
 |
  nil =>
  refine ⟨none,rfl,λw h=>?_⟩;cases e:w.fails with
  | none=>rfl
  |
   some t =>
   have:t∈ws.filterMap (·.fails):=Jm.2 ⟨w,h,e⟩;rw [hf] at this; cases this
 |
  cons b l =>
  rw [hf] at hv;obtain ⟨m,m1,m2,m3⟩:=Qgq l b hv;refine ⟨some m,by show (I4 b l).map some=_; rw [m1]; rfl,hv m m2,?_,λw h t e=>?_⟩
  ·rw [<-hf] at m2;exact Jm.1 m2
  ·exact m3 t (by rw [<-hf]; exact Jm.2 ⟨w,h,e⟩)
theorem Zk2 {t a:Tm} (ht:Va t) (ha:Va a) {c:Int} (h:Qie t a=some c) (h0:0<c):Pw a t:=by
 obtain ⟨c',c1,c2⟩:=Qbi ht ha;rw [h] at c1; injection c1 with c1; subst c1;rcases c2 with ⟨e,_⟩ | ⟨e,_⟩ | ⟨_,e⟩
 ·omega
 ·omega
 ·exact e
theorem Zgp {ol ws:List Wt} {now a:Tm} {l:List Ct} (hn:Va now) (ha:Va a) (hna:¬Pw a now) (ho:∀ w∈ol,WtOk w) (hk:∀ w∈ol,w.known=true->Tq w.c.p now w.fails/\∀ t,w.fails=some t->t∈tms w.c.p) (h:Qee ol a l=some ws) :
 ∀ w∈ws,w.known=true->Tq w.c.p a w.fails/\∀ t,w.fails=some t->t∈tms w.c.p:=by
 obtain ⟨h1,h2⟩:=Qef h;intro w hw hkn;obtain ⟨i,hi⟩:=Jb hw;have hil:i<l.length:=by rw [<-h1]; exact (Qd.1 hi).1
 obtain ⟨v,h3,h4⟩:=h2 i _ (Qe hil);rw [hi] at h4; injection h4 with h4; subst h4;rcases Qlb h3 with e | ⟨v,v1,v2,v3,e,v5⟩
 ·rw [e] at hkn; cases hkn
 ·obtain ⟨k1,k2⟩:=hk v v1 v2;rw [e];show Tq (l[i]).p a v.fails/\∀ t,v.fails=some t->t∈tms (l[i]).p;rw [<-v3];refine ⟨Qu2 hn.cut ha.cut hna k1 λt ht=>?_,k2⟩;obtain ⟨c,c1,c2⟩:=v5 t ht;exact Zk2 ((ho v v1).f t ht) ha c1 c2
structure Stab {β:Type} (Bc:Tm->List Ct) (Br:Tm->β):Prop where
 ok:BuildOk Bc
 fin:∃ Ps:List (List Int),(∀ p∈Ps,Cp p)/\∀ a,Va a->∀ x∈Bc a,x.p∈Ps
 st:∀ a b,Va a->Va b->(∀ x∈Bc a,Mp (Pi b) x.p=Mp (Pi a) x.p)->Bc b=Bc a/\Br b=Br a
structure KSt {β:Type} (Bc:Tm->List Ct) (Br:Tm->β) (c:Cr) (r1:β):Prop where
 inv:KInv c
 cs:c.l.map (·.c)=G5 (Bc c.now)
 r:r1=Br c.now
inductive Evs (Bc:Tm->List Ct) (t:Rat):Tm->List Tm->Prop
 | nil {a:Tm} (h:∀ x∈Bc a,∃ o,Tq x.p a o/\∀ u,o=some u->Pw (tq t) u):Evs Bc t a []
 | cons {a e:Tm} {E:List Tm} (he:Va e) (h1:Pw a e) (h2:¬Pw (tq t) e) (h3:∀ x∈Bc a,∃ o,Tq x.p a o/\∀ u,o=some u->¬Pw u e) (h4:∃ x∈Bc a,Tq x.p a (some e)) (h5:Evs Bc t e E):Evs Bc t a (e::E)
theorem Zoc {β:Type} {Bc:Tm->List Ct} {Br:Tm->β} (S:Stab Bc Br) {t:Rat} (ht:Qs 1640000 t) {Ps:List (List Int)} (hP:∀ p∈Ps,Cp p) (hPs:∀ a,Va a->∀ x∈Bc a,x.p∈Ps) :
 ∀ (m:Nat) (c:Cr) (r1:β) (n:Int),mu (Ps.flatMap tms) c.now<=m->KSt Bc Br c r1->¬Pw (tq t) c.now ->
 ∃ c' r' E,goF Bc Br t (m+1) c r1 n=some (c',r',n+(E.length:Nat))/\c'.now=tq t/\KSt Bc Br c' r'/\c'.ev=c.ev+(E.length:Nat)/\E.length<=m/\Evs Bc t c.now E:=by
 have hT:∀ t∈Ps.flatMap tms,Cut (U0 t):=λu hu=>by
  obtain ⟨p,p1,p2⟩:=Jy.1 hu;exact (Zm0 (hP p p1) u p2).cut
 have hq:=Zdr ht;intro m
 induction m with
 | zero=>?_
 | succ m ih=>?_
 all_goals
  intro c r1 n hm hS hnow;obtain ⟨⟨ok,kk⟩,hcs,hr⟩:=hS;obtain ⟨ws,w1,w2,w3⟩:=Qq6 ok.n ok.l kk;have ok':=Qbr ok w1;rw [hcs] at w2;have hc_w:∀ x∈Bc c.now,∃ w∈ws,w.c=x:=λx hx=>by
   have:x∈ws.map (·.c):=by rw [w2]; exact D3.2 hx
   exact Za.1 this
  have hw_c:∀ w∈ws,w.c∈Bc c.now:=λw hw=>D3.1 (by rw [<-w2]; exact List.mem_map_of_mem hw)
  obtain ⟨o,o1,o2⟩:=Qyy ok'.l;have fin:(∀ w∈ws,∀ u,w.fails=some u->Pw (tq t) u)->KSt Bc Br ⟨tq t,ws,c.ev⟩ r1/\Evs Bc t c.now []:=λhall=>by
   have hg:∀ x∈Bc c.now,Mp (Pi (tq t)) x.p=Mp (Pi c.now) x.p:=λx hx=>by
    obtain ⟨w,hw,rfl⟩:=hc_w x hx;exact Qgh (S.ok.p _ ok.n _ hx).dp ok.n hq hnow (w3 w hw).2.1 (hall w hw)
   obtain ⟨s1,s2⟩:=S.st _ _ ok.n hq hg;refine ⟨⟨⟨⟨hq,ok'.l,ok'.k⟩,λw hw _=>⟨Qu2 ok.n.cut hq.cut hnow (w3 w hw).2.1 (hall w hw),(w3 w hw).2.2⟩⟩,?_,?_⟩,.nil λx hx=>?_⟩
   ·show ws.map (·.c)=G5 (Bc (tq t)); rw [w2,s1]
   ·show r1=Br (tq t); rw [s2,hr]
   ·obtain ⟨w,hw,rfl⟩:=hc_w x hx;exact ⟨_,(w3 w hw).2.1,hall w hw⟩
 ·cases o with
  |
   none =>
   obtain ⟨f1,f2⟩:=fin λw hw u hu=>by rw [o2 w hw] at hu; cases hu
   exact ⟨_,_,[],by simp only [goF]; rw [w1]; simp only [Jh]; rw [o1]; simp,rfl,f1,by simp,by simp,f2⟩
  |
   some a =>
   obtain ⟨va,⟨w,hw,hwa⟩,hmin⟩:=o2;by_cases h0:0<U0 a t
   ·obtain ⟨f1,f2⟩:=fin λv hv u hu=>by
     have hu':=(ok'.l v hv).f u hu;exact Q2h hq.cut va.cut hu'.cut ((O5 va.cut).1 h0) (hmin v hv u hu)
    exact ⟨_,_,[],by simp only [goF]; rw [w1]; simp only [Jh]; rw [o1]; simp [h0],rfl,f1,by simp,by simp,f2⟩
   ·exfalso;obtain ⟨k1,k2,k3⟩:=w3 w hw;rw [hwa] at k2;have:a∈Ps.flatMap tms:=Jy.2 ⟨_,hPs _ ok.n _ (hw_c w hw),k3 a hwa⟩;have:=Zjv ok.n.cut va.cut hT k2.2.2.1 this;omega
 ·cases o with
  |
   none =>
   obtain ⟨f1,f2⟩:=fin λw hw u hu=>by rw [o2 w hw] at hu; cases hu
   exact ⟨_,_,[],by simp only [goF]; rw [w1]; simp only [Jh]; rw [o1]; simp,rfl,f1,by simp,by simp,f2⟩
  |
   some a =>
   obtain ⟨va,⟨w,hw,hwa⟩,hmin⟩:=o2;by_cases h0:0<U0 a t
   ·obtain ⟨f1,f2⟩:=fin λv hv u hu=>by
     have hu':=(ok'.l v hv).f u hu;exact Q2h hq.cut va.cut hu'.cut ((O5 va.cut).1 h0) (hmin v hv u hu)
    exact ⟨_,_,[],by simp only [goF]; rw [w1]; simp only [Jh]; rw [o1]; simp [h0],rfl,f1,by simp,by simp,f2⟩
   ·obtain ⟨k1,k2,k3⟩:=w3 w hw;rw [hwa] at k2;have hna:=Qq8 ok.n.cut va.cut k2.2.2.1;have hmem:a∈Ps.flatMap tms:=Jy.2 ⟨_,hPs _ ok.n _ (hw_c w hw),k3 a hwa⟩;have hlt:=Zjv ok.n.cut va.cut hT k2.2.2.1 hmem;obtain ⟨w2',l1,l2⟩:=Zao va ok'.l (G5 (Bc a));have hl:=Zgp ok.n va hna ok'.l (λv hv _=>(w3 v hv).2) l1;have hS':KSt Bc Br ⟨a,w2',c.ev+1⟩ (Br a):=⟨⟨Orr.lay_ok _ ok' va (S.ok.p a va) (S.ok.n a va) l1,hl⟩,l2,rfl⟩;obtain ⟨c',r',E,g1,g2,g3,g4,g5,g6⟩:=ih ⟨a,w2',c.ev+1⟩ (Br a) (n+1) (by show mu _ a<=m; omega) hS' (λh=>h0 ((O5 va.cut).2 h));refine ⟨c',r',a::E,?_,g2,g3,by rw [g4]; simp; omega,by simp; omega,.cons va k2.2.2.1 (λh=>h0 ((O5 va.cut).2 h)) (λx hx=>?_) ⟨w.c,hw_c w hw,k2⟩ g6⟩
    ·conv=>lhs; unfold goF
     rw [w1]; simp only [Jh]; rw [o1]; simp only [Jh]; rw [if_neg h0,l1]; simp only [Jh];rw [g1]; simp; omega
    ·obtain ⟨v,hv,rfl⟩:=hc_w x hx;exact ⟨_,(w3 v hv).2.1,hmin v hv⟩
end Orq
namespace Orq
open Orr Go
section Srt
variable {α:Type} {lt:α->α->Bool} {R:α->α->Prop}
theorem Qou {out:List α} {x:α}:∀ k,k<=out.length->(∀ j y,No lt out x k<=j->j<k->out[j]? = some y->lt x y=true)/\(0<No lt out x k->∃ y,out[No lt out x k-1]? = some y/\lt x y=false)
 | 0,_=>⟨λj y _ h=>by omega,λh=>by simp [No] at h⟩
 |
  k+1,hk=>by
  obtain ⟨y,hy⟩:=gxE (l:=out) (i:=k) (by omega);by_cases h:lt x y=true
  ·rw [Qrp hy h];obtain ⟨h1,h2⟩:=Qou (out:=out) (x:=x) k (by omega);refine ⟨λj z a1 a2 a3=>?_,h2⟩;by_cases e:j=k
   ·subst e; rw [hy] at a3; injection a3 with a3; subst a3; exact h
   ·exact h1 j z a1 (by omega) a3
  ·have h:lt x y=false:=by simpa using h
   rw [Qlu hy h];exact ⟨λj z a1 a2 _=>by omega,λ_=>⟨y,by simpa using hy,h⟩⟩
theorem Zgm (tr:∀ x y z,R x y->R y z->R x z) {out:List α} {x:α} (ho:out.Pairwise R) (h1:∀ y∈out,lt x y=true->R x y) (h2:∀ y∈out,lt x y=false->R y x):(Di lt out x).Pairwise R:=by
 obtain ⟨s1,s2⟩:=Qou (lt:=lt) (out:=out) (x:=x) out.length (Qm _);have hle:=Qro lt out x out.length;unfold Di;obtain ⟨k,hk⟩:=nmE (No lt out x out.length);rw [<-hk] at s1 s2 hle ⊢;have hd:(out.take k++out.drop k).Pairwise R:=by rw [Ze]; exact ho
 obtain ⟨d1,d2,d3⟩:=Y7.1 hd;have hR:∀ y∈out.drop k,R x y:=λy hy=>by
  obtain ⟨i,hi⟩:=Jb hy;rw [Xd] at hi;have:k+i<out.length:=(Qd.1 hi).1;exact h1 y (Q0 hy) (s1 (k+i) y (by omega) this hi)
 have hL:∀ y∈out.take k,R y x:=λy hy=>by
  obtain ⟨i,hi⟩:=Jb hy;have hik:i<k:=by have:=(Qd.1 hi).1; simp at this; omega
  rw [List.getElem?_take_of_lt hik] at hi;obtain ⟨z,z1,z2⟩:=s2 (by omega);have hz:=h2 z (Qa z1) z2;by_cases e:i=k-1
  ·subst e; rw [hi] at z1; injection z1 with z1; subst z1; exact hz
  ·have hp:=List.pairwise_iff_getElem.1 ho i (k-1) (by omega) (by omega) (by omega);obtain ⟨_,e1⟩:=Qd.1 hi;obtain ⟨_,e2⟩:=Qd.1 z1;rw [e1,e2] at hp;exact tr _ _ _ hp hz
 refine Y7.2 ⟨d1,Xj.2 ⟨hR,d2⟩,λy hy z hz=>?_⟩;rcases Qp.1 hz with rfl | hz
 ·exact hL y hy
 ·exact d3 y hy z hz
theorem foldG_pw (tr:∀ x y z,R x y->R y z->R x z) {S:α->Prop} (h1:∀ x y,S x->S y->lt x y=true->R x y) {D:α->α->Prop} (h2:∀ x y,S x->S y->D y x->lt x y=false->R y x) :
 ∀ (l acc:List α),acc.Pairwise R->(∀ x∈acc,S x)->(∀ x∈l,S x)->l.Pairwise D->(∀ x∈acc,∀ y∈l,D x y)->(l.foldl (Di lt) acc).Pairwise R
 | [],acc,ha,_,_,_,_=>ha
 |
  x::l,acc,ha,hs,hl,hd,hx=>by
  rw [Xj] at hd;refine foldG_pw tr h1 h2 l (Di lt acc x) ?_ ?_ (λy hy=>hl y (Qj _ hy)) hd.2 ?_
  ·exact Zgm tr ha (λy hy=>h1 x y (hl x (by simp)) (hs y hy)) (λy hy=>h2 x y (hl x (by simp)) (hs y hy) (hx y hy x (by simp)))
  ·intro y hy;rcases Qk6.1 hy with rfl | hy
   ·exact hl _ (by simp)
   ·exact hs y hy
  ·intro y hy z hz;rcases Qk6.1 hy with rfl | hy
   ·exact hd.1 z hz
   ·exact hx y hy z (Qj _ hz)
end Srt
def px (p:Pt) (q:Rat):Rat:=Up p.c.x q / (p.c.d:Rat)
def py (p:Pt) (q:Rat):Rat:=Up p.c.y q / (p.c.d:Rat)
end Orq
namespace Orr
open Go
section
variable {α:Type} {lt:α->α->Bool}
theorem Q49 (out:List α) (c:α):(Di lt out c).Perm (c::out):=by
 unfold Di;exact (W3).trans (by rw [Ze])
theorem Qkx:∀ (l acc:List α),(l.foldl (Di lt) acc).Perm (l++acc)
 | [],acc=>List.Perm.refl _
 |
  c::l,acc=>by
  simp only [Xe];exact (Qkx l _).trans (((Q49 acc c).append_left l).trans W3)
theorem Qz3 (l:List α):(Rt lt l).Perm l:=by
 have:=Qkx (lt:=lt) l [];rwa [Xi] at this
end
def L8 (a b:Pt):Bool:=decide (a.id<b.id)
def Pt.m5 (p:Pt):Pt:=⟨p.c,p.id % 5⟩
def mix (O:List Pt) (i:Nat):List Pt:=(O.take i).map Pt.m5++O.drop i
theorem Zaz (O:List Pt):mix O 0=O:=by simp [mix]
theorem Qi5 (O:List Pt) (i:Nat):(mix O i).length=O.length:=by
 unfold mix; rw [List.length_append,List.length_map,List.length_take,List.length_drop]; omega
theorem Q2q {O:List Pt} {i:Nat} {p:Pt} (h:O[i]? = some p):(mix O i).set i p.m5=mix O (i+1):=by
 have hi:=(Qd.1 h).1;have hl:((O.take i).map Pt.m5).length=i:=by rw [Q8,Qx]; omega
 unfold mix;rw [List.set_append,if_neg (by omega),hl,Yl,Zw,h,Vh,Xv,Zg];congr 1;rw [Zl hi];have:O[i]=p:=by
  have:=(Qd.1 h).2;exact this
 rfl
theorem Zgz {O:List Pt} {i:Nat} {p:Pt} (h:O[i]? = some p):(mix O i)[i]? = some p:=by
 have hi:=(Qd.1 h).1;have hl:((O.take i).map Pt.m5).length=i:=by rw [Q8,Qx]; omega
 unfold mix;rw [Xl (by omega),hl,Yl,Xd];exact h
theorem Q2p {O:List Pt} {i k:Nat} {p:Pt} (hk:k<i) (h:O[k]? = some p):(mix O i)[k]? = some p.m5:=by
 have hi:=(Qd.1 h).1;unfold mix;rw [Zm (by rw [Q8,Qx]; omega),Q9,X6,if_pos hk,h]; rfl
theorem Quu {O:List Pt} {e i:Nat} (h:e<=i) (hi:i<=O.length):(mix O i).take e=(O.take e).map Pt.m5:=by
 unfold mix;rw [Yo (by rw [Q8,Qx]; omega),<-Yn,Wi,Zt h]
def Sb (O:List Pt) (e:Nat):List Pt:=(O.take e).map Pt.m5
def Qb9 (O:List Pt) (e:Nat):List Pt:=(Sb O e).map Pt.nrm
def Ew (l:List Pt):Prop:=l.Pairwise λa b=>a.id≠b.id
theorem Q4r {O:List Pt} {i:Nat} {p:Pt} (h:O[i]? = some p):Sb O (i+1)=Sb O i++[p.m5]:=by
 unfold Sb; rw [List.take_succ,h,Option.toList_some,List.map_append]; rfl
theorem Q4x {O:List Pt} {i:Nat} {p:Pt} (h:O[i]? = some p) (hd:Ew (Sb O i)) (hn:∀ k x,k<i->O[k]? = some x->x.m5.id≠p.m5.id):Ew (Sb O (i+1)):=by
 rw [Q4r h];refine Y7.2 ⟨hd,List.pairwise_singleton _ _,λa ha b hb=>?_⟩;rw [Ql.1 hb];obtain ⟨x,hx,rfl⟩:=Za.1 ha;obtain ⟨k,hk,rfl⟩:=List.mem_iff_getElem.1 hx;rw [Qx] at hk;rw [List.getElem_take];exact hn k _ (by omega) (Qe (by omega))
theorem Qnn {O:List Pt} {e:Nat} (h:Ew (Sb O e)):Ew (Qb9 O e):=List.Pairwise.map Pt.nrm (λ_ _ h=>h) h
theorem Qhz (O:List Pt) (e:Nat):(Qb9 O e).length=(Sb O e).length:=by unfold Qb9; rw [List.length_map]
theorem Qd1 {O:List Pt} {e:Nat} (h:e<=O.length):(Sb O e).length=e:=by unfold Sb; rw [List.length_map,List.length_take]; omega
def Q3z (p:Pt):Prop:=Cs 10 3 p.c
theorem Qof {n:Nat} {most:Int} (hm:0≤most/\most≤999) {l:List RawPt}:∀ p∈Qg0 n most l,Q3z p:=λp hp=>by
 rcases Qd9 _ _ hp with h | h
 ·cases h
 ·obtain ⟨z,_,rfl⟩:=Za.1 h;exact Qnl hm _ _ _
theorem Qtp {O:List Pt} (h:∀ p∈O,Q3z p) (e:Nat):∀ p∈Sb O e,Q3z p:=λp hp=>by
 obtain ⟨x,hx,rfl⟩:=Za.1 hp;exact h x (Qn hx)
theorem Q1n {O:List Pt} (h:∀ p∈O,Q3z p) (e:Nat):∀ p∈Qb9 O e,Nml p.c/\Cs 10 3 p.c:=λp hp=>by
 obtain ⟨x,hx,rfl⟩:=Za.1 hp;exact ⟨x.c.nml,(Qtp h e x hx).norm (by decide)⟩
theorem Qoc {s n:Nat}:∀ {l:List Pt},(∀ p∈l,Cs s n p.c)->IsPts s n (l.map G0) (l.map Pt.nrm)
 | [],_=>trivial
 | p::l,h=>⟨⟨p.c.x.map Gk,p.c.y.map Gk,_,_,_,_,p.c.d,rfl,Gw _,Gw _,Ul _,h p (Qr ..),rfl⟩,Qoc λx hx=>h x (Qj _ hx)⟩
theorem Qpa:∀ {l m:List Pt},B6 l->B6 m->(∀ x,x∈l↔x∈m)->l=m
 | [],[],_,_,_=>rfl
 | [],b::m,_,_,h=>absurd ((h b).2 (Qr ..)) (by simp)
 | a::l,[],_,_,h=>absurd ((h a).1 (Qr ..)) (by simp)
 |
  a::l,b::m,h1,h2,h=>by
  have h1':=Xj.1 h1;have h2':=Xj.1 h2;have hab:a=b:=by
   rcases Qp.1 ((h a).1 (Qr ..)) with e | e
   ·exact e
   ·rcases Qp.1 ((h b).2 (Qr ..)) with e2 | e2
    ·exact e2.symm
    ·have:=h2'.1 a e; have:=h1'.1 b e2; omega
  subst hab;congr 1;refine Qpa h1'.2 h2'.2 λx=>⟨λhx=>?_,λhx=>?_⟩
  ·rcases Qp.1 ((h x).1 (Qj _ hx)) with e | e
   ·have:=h1'.1 x hx; rw [e] at this; omega
   ·exact e
  ·rcases Qp.1 ((h x).2 (Qj _ hx)) with e | e
   ·have:=h2'.1 x hx; rw [e] at this; omega
   ·exact e
theorem Qsb {l:List Pt} (h:Ew l):B6 (Rt L8 l) :=
 Orq.foldG_pw (R:=λa b:Pt=>a.id<b.id) (S:=λ_=>True) (D:=λa b:Pt=>a.id≠b.id) (λx y z h1 h2=>Int.lt_trans h1 h2) (λx y _ _ h=>of_decide_eq_true h) (λx y _ _ h1 h=>by have:=of_decide_eq_false h; omega) l [] .nil (λx hx=>by cases hx) (λ_ _=>trivial) h (λx hx=>by cases hx)
theorem Zbx (l:List Pt) (q:Pt):(put l q).Perm (q::l):=by
 unfold put;exact List.perm_middle.trans (by rw [Ze])
theorem Qon:∀ (qs acc:List Pt),(Ts acc qs).2=0->(Ts acc qs).1.Perm (qs++acc)
 | [],acc,_=>List.Perm.refl _
 |
  q::qs,acc,h=>by
  simp only [Ts] at h ⊢
  split
  ·rename_i h0;rw [if_pos h0] at h;refine (Qon qs _ h).trans ?_;exact ((Zbx acc q).append_left qs).trans W3
  ·rename_i h0;rw [if_neg h0] at h;exact absurd h h0
theorem Q5k {qs:List Pt} (hl:qs.length<=6) (hd:Ew qs):(Ts [] qs).2=0/\(Ts [] qs).1=Rt L8 qs:=by
 rcases Q5j hl with ⟨h1,h2,_,_⟩ | ⟨_,h2⟩
 ·refine ⟨h1,Qpa h2 (Qsb hd) λx=>?_⟩;have h3:=Qon qs [] h1;rw [Xi] at h3;rw [h3.mem_iff,A6]
 ·exact absurd hd h2
end Orr
namespace Orr
open Go Go.Proofs
set_option maxRecDepth 10000
theorem Zgl {α:Type} {f:α->List LV} {lt:α->α->Bool} {O:List α} {c:α} {k:Nat} (hp:No lt O c O.length=k):(O.map f).take k++(f c::(O.map f).drop k)=(Di lt O c).map f:=by
 simp [Di,hp,Yn,Ws]
theorem Quf {α:Type} {f:α->List LV} {lt:α->α->Bool} {O:List α} {c:α} {k:Nat} (hp:No lt O c O.length=k):(O.map f).take k++([f c]++((O.map f).drop k).take ((O.map f).length-k))=(Di lt O c).map f:=by
 rw [Qk (l:=(O.map f).drop k) (by simp)];exact Zgl hp
theorem Qug {lt:Pt->Pt->Bool} {O:List Pt} {c:Pt} {k:Nat} (hp:No lt O c O.length=k):(Fj O).take k++([Cg c]++((Fj O).drop k).take ((Fj O).length-k))=Fj (Di lt O c):=Quf hp
theorem Pg (l:List Pt):(Fj l).length=l.length:=by simp [Fj]
theorem Qr3 (l:List Pt):∀ c∈Fj l,c.length=7:=λc hc=>by obtain ⟨x,_,rfl⟩:=Za.1 hc; rfl
theorem Tf {l:List Pt} {i:Nat} {c:Pt} (h:l[i]? = some c):(Fj l)[i]? = some (Cg c):=Gh h
theorem Q1a {l:List Pt} (hn:l.length<=1000000):Uk Tryz.prog 44 [.one (.row (Fj l))] [.one (.row (Fj (Rt L8 l)))]:=by
 have hcl:=Pg l;refine Gm Tryz.func44 rfl ?_;refine go tt [.o 3 61 7] rfl trivial ?_;refine lp (S:=Nat) 1 (λL1 i=>(8,.v (.one (.int .i64 (i:Int))))::(3,.v (.one (.orow 0 7 none)))::L1) (λi=>[.row false 61 7 (Fj (Rt L8 (l.take i)))]) (λi=>l.length-i) (λi=>i<=l.length) 0 (Qh _) rfl (λ_ _=>rfl) rfl λi hi=>?_
 by_cases hlt:i<l.length
 ·obtain ⟨c,hc⟩:=gxE (l:=l) (i:=i) hlt;have hst:Rt L8 (l.take (i+1))=Di L8 (Rt L8 (l.take i)) c:=Qma hc;obtain ⟨O,hO⟩:=nmE (Rt L8 (l.take i));have hOl:O.length=i:=by rw [hO,B5,Qx]; omega
  have hrl:=Pg O;rw [<-hO] at hst ⊢;refine go tt [.t (decide_eq_true (by omega))] rfl trivial ?_;refine lp (S:=Nat) 1 (λL1 k=>(5,.v (.one (.int .i64 (k:Int))))::L1) (λ_=>[.row false 61 7 (Fj O)]) id (λk=>k<=O.length/\No L8 O c k=No L8 O c O.length) (Fj O).length ⟨by omega,by rw [hrl]⟩ rfl (λ_ _=>rfl) rfl λk ⟨hk,hp⟩=>?_
  have h7:=Qr3 O;have h7z:∀ y∈[Cg c],y.length=7:=λy hy=>by rw [Ql.1 hy]; rfl
  cases k with
  |
   zero =>
   have hp:No L8 O c O.length=0:=by rw [<-hp]; rfl
   refine go tt [.g 15 false (by simp),.f rfl,.i 0,.x (Tf hc),.lo,.i 0,.s (sz:=7) (λy hy=>h7 y (Qn hy)),.s (sz:=7) (λy hy=>(Qw.1 hy).elim (h7z y) λhy=>h7 y (Qn hy))] rfl (by simp [Ui]; omega) ?_;exact rd (i+1) (by omega) hlt (by rw [hst,<-Qug hp]; rfl)
  |
   succ k =>
   obtain ⟨x,hx⟩:=gxE (l:=O) (i:=k) (by omega);by_cases hlc:L8 c x=true
   ·refine go tt [.g 15 true (by simp),.x (Tf hc),.r 23 (eI (b:=(k:Int)) (by simp)),.i k,.x (Tf hx),.t hlc,.r 30 (eI (b:=(k:Int)) (by simp))] rfl (by simp [Ui]; omega) ?_;exact rd k (by simp) ⟨by omega,by rw [<-hp,Qrp hx hlc]⟩ rfl
   ·have hlc:L8 c x=false:=by simpa using hlc
    have hp:No L8 O c O.length=k+1:=by rw [<-hp,Qlu hx hlc]
    refine go tt [.g 15 true (by simp),.x (Tf hc),.r 23 (eI (b:=(k:Int)) (by simp)),.i k,.x (Tf hx),.f hlc,.i (k+1),.x (Tf hc),.lo,.i (k+1),.s (sz:=7) (λy hy=>h7 y (Q0 (Qn hy))),.s (sz:=7) (λy hy=>(Qw.1 hy).elim (h7z y) λhy=>h7 y (Q0 (Qn hy)))] rfl (by simp [Ui]; omega) ?_;exact rd (i+1) (by omega) hlt (by rw [hst,<-Qug hp]; rfl)
 ·obtain rfl:i=l.length:=by omega
  rw [Q4];exact en tt [.f (decide_eq_false (by omega))] rfl rfl trivial
def rct (c:Ct):List LV:=[.int .i64 c.kind,.int .i64 c.i0,.int .i64 c.i1,.int .i64 c.i2,.int .i64 c.i3,rp (zp c.p),.int .i64 c.want,.row [],.bool false]
def Gq (l:List Ct):List (List LV):=l.map rct
theorem Lt (l:List Ct):(Gq l).length=l.length:=by simp [Gq]
theorem Qvy (l:List Ct):∀ c∈Gq l,c.length=9:=λc hc=>by obtain ⟨x,_,rfl⟩:=Za.1 hc; rfl
theorem Qby {l:List Ct} {i:Nat} {c:Ct} (h:l[i]? = some c):(Gq l)[i]? = some (rct c):=Gh h
theorem Que {lt:Ct->Ct->Bool} {O:List Ct} {c:Ct} {k:Nat} (hp:No lt O c O.length=k):(Gq O).take k++([rct c]++((Gq O).drop k).take ((Gq O).length-k))=Gq (Di lt O c):=Quf hp
theorem Zfk {k i0 i1 i2 i3 l j0 j1 j2 j3:Int}:Uk Tryz.prog 266 [.agg [.int .i64 k,.int .i64 i0,.int .i64 i1,.int .i64 i2,.int .i64 i3],.agg [.int .i64 l,.int .i64 j0,.int .i64 j1,.int .i64 j2,.int .i64 j3]] [.one (.bool (Hx [k,i0,i1,i2,i3] [l,j0,j1,j2,j3]))]:=by
 by_cases hk:k=l
 ·subst hk;rw [show Hx [k,i0,i1,i2,i3] [k,j0,j1,j2,j3]=Hx [i0,i1,i2,i3] [j0,j1,j2,j3] from by simp [Hx]];refine Gm Tryz.func266 rfl ?_;refine go tt [.f (by simp)] rfl trivial ?_;refine lp (S:=Nat) 2 (λL1 i=>(5,.v (.one (.int .i64 (i:Int))))::L1) (λ_=>[.blk 97 [.int .i64 k,.int .i64 i0,.int .i64 i1,.int .i64 i2,.int .i64 i3],.blk 97 [.int .i64 k,.int .i64 j0,.int .i64 j1,.int .i64 j2,.int .i64 j3]]) (λi=>4-i) (λi=>i<=4/\Hx ([i0,i1,i2,i3].drop i) ([j0,j1,j2,j3].drop i)=Hx [i0,i1,i2,i3] [j0,j1,j2,j3]) 0 ⟨by omega,rfl⟩ rfl (λ_ _=>rfl) rfl λi ⟨hi,he⟩=>?_
  rw [<-he];rcases (show i=0\/i=1\/i=2\/i=3\/i=4 by omega) with rfl | rfl | rfl | rfl | rfl
  ·by_cases h:i0=j0
   ·exact go tt [.t rfl,.i 0,.i 0,.f (by simpa using h)] rfl (by simp [Ui]) (rd 1 (by omega) ⟨by omega,by simp [Hx,h]⟩ rfl)
   ·exact en tt [.t rfl,.i 0,.i 0,.t (by simpa using h),.i 0,.i 0] rfl (by simp [Hx,h]) trivial
  ·by_cases h:i1=j1
   ·exact go tt [.t rfl,.i 1,.i 1,.f (by simpa using h)] rfl (by simp [Ui]) (rd 2 (by omega) ⟨by omega,by simp [Hx,h]⟩ rfl)
   ·exact en tt [.t rfl,.i 1,.i 1,.t (by simpa using h),.i 1,.i 1] rfl (by simp [Hx,h]) trivial
  ·by_cases h:i2=j2
   ·exact go tt [.t rfl,.i 2,.i 2,.f (by simpa using h)] rfl (by simp [Ui]) (rd 3 (by omega) ⟨by omega,by simp [Hx,h]⟩ rfl)
   ·exact en tt [.t rfl,.i 2,.i 2,.t (by simpa using h),.i 2,.i 2] rfl (by simp [Hx,h]) trivial
  ·by_cases h:i3=j3
   ·exact go tt [.t rfl,.i 3,.i 3,.f (by simpa using h)] rfl (by simp [Ui]) (rd 4 (by omega) ⟨by omega,by simp [Hx,h]⟩ rfl)
   ·exact en tt [.t rfl,.i 3,.i 3,.t (by simpa using h),.i 3,.i 3] rfl (by simp [Hx,h]) trivial
  ·exact en tt [.f rfl] rfl (by simp [Hx]) trivial
 ·exact w tt Tryz.func266 rfl [.t (by simpa using hk)] rfl (by simp [Hx,hk]) trivial
theorem Zfo {l:List Ct} (hn:l.length<=1000000):Uk Tryz.prog 233 [.one (.row (Gq l))] [.one (.row (Gq (Rt Bh l)))]:=by
 have hcl:=Lt l;refine Gm Tryz.func233 rfl ?_;refine go tt [.o 3 227 9] rfl trivial ?_;refine lp (S:=Nat) 1 (λL1 i=>(8,.v (.one (.int .i64 (i:Int))))::(3,.v (.one (.orow 0 9 none)))::L1) (λi=>[.row false 227 9 (Gq (Rt Bh (l.take i)))]) (λi=>l.length-i) (λi=>i<=l.length) 0 (Qh _) rfl (λ_ _=>rfl) rfl λi hi=>?_
 by_cases hlt:i<l.length
 ·obtain ⟨c,hc⟩:=gxE (l:=l) (i:=i) hlt;have hst:Rt Bh (l.take (i+1))=Di Bh (Rt Bh (l.take i)) c:=Qma hc;obtain ⟨O,hO⟩:=nmE (Rt Bh (l.take i));have hOl:O.length=i:=by rw [hO,B5,Qx]; omega
  have hrl:=Lt O;rw [<-hO] at hst ⊢;refine go tt [.t (decide_eq_true (by omega))] rfl trivial ?_;refine lp (S:=Nat) 1 (λL1 k=>(5,.v (.one (.int .i64 (k:Int))))::L1) (λ_=>[.row false 227 9 (Gq O)]) id (λk=>k<=O.length/\No Bh O c k=No Bh O c O.length) (Gq O).length ⟨by omega,by rw [hrl]⟩ rfl (λ_ _=>rfl) rfl λk ⟨hk,hp⟩=>?_
  have h7:=Qvy O;have h7z:∀ y∈[rct c],y.length=9:=λy hy=>by rw [Ql.1 hy]; rfl
  cases k with
  |
   zero =>
   have hp:No Bh O c O.length=0:=by rw [<-hp]; rfl
   refine go tt [.g 15 false (by simp),.f rfl,.i 0,.x (Qby hc),.lo,.i 0,.s (sz:=9) (λy hy=>h7 y (Qn hy)),.s (sz:=9) (λy hy=>(Qw.1 hy).elim (h7z y) λhy=>h7 y (Qn hy))] rfl (by simp [Ui]; omega) ?_;exact rd (i+1) (by omega) hlt (by rw [hst,<-Que hp]; rfl)
  |
   succ k =>
   obtain ⟨x,hx⟩:=gxE (l:=O) (i:=k) (by omega);have cb:=Zfk (k:=c.kind) (i0:=c.i0) (i1:=c.i1) (i2:=c.i2) (i3:=c.i3) (l:=x.kind) (j0:=x.i0) (j1:=x.i1) (j2:=x.i2) (j3:=x.i3);by_cases hlc:Bh c x=true
   ·refine go tt [.g 15 true (by simp),.x (Qby hc),.r 23 (eI (b:=(k:Int)) (by simp)),.i k,.x (Qby hx),.c [] cb,.t hlc,.r 30 (eI (b:=(k:Int)) (by simp))] rfl (by simp [Ui]; omega) ?_;exact rd k (by simp) ⟨by omega,by rw [<-hp,Qrp hx hlc]⟩ rfl
   ·have hlc:Bh c x=false:=by simpa using hlc
    have hp:No Bh O c O.length=k+1:=by rw [<-hp,Qlu hx hlc]
    refine go tt [.g 15 true (by simp),.x (Qby hc),.r 23 (eI (b:=(k:Int)) (by simp)),.i k,.x (Qby hx),.c [] cb,.f hlc,.i (k+1),.x (Qby hc),.lo,.i (k+1),.s (sz:=9) (λy hy=>h7 y (Q0 (Qn hy))),.s (sz:=9) (λy hy=>(Qw.1 hy).elim (h7z y) λhy=>h7 y (Q0 (Qn hy)))] rfl (by simp [Ui]; omega) ?_;exact rd (i+1) (by omega) hlt (by rw [hst,<-Que hp]; rfl)
 ·obtain rfl:i=l.length:=by omega
  rw [Q4];exact en tt [.f (decide_eq_false (by omega))] rfl rfl trivial
abbrev Ic (q:Rat):List Int->Int:=λp=>Fc p q
abbrev rzc:List LV:=[.int .i64 0,.int .i64 0,.int .i64 0,.int .i64 0,.int .i64 0,.nils,.int .i64 0,.nils,.bool false]
theorem Q8m {l:List Ct} (hn:l.length<=1000000):Uk Tryz.prog 94 [.one (.row []),.one (.row (Gq l))] [.one (.row (Gq l))]:=by
 have hcl:=Lt l;refine Gm Tryz.func94 rfl ?_;refine go tt [] rfl trivial ?_;refine lp (S:=Nat) 0 (λL1 i=>(9,.v (.one (.int .i64 (i:Int))))::L1) (λ_=>[]) (λi=>l.length-i) (λi=>i<=l.length) 0 (Qh _) rfl (λ_ _=>rfl) rfl λi hi=>?_
 by_cases hlt:i<l.length
 ·refine go tt [.t (decide_eq_true (by omega))] rfl trivial ?_;refine lp (S:=Nat) 0 (λL1 k=>(14,.v (.one (.int .i64 (k:Int))))::L1) (λ_=>[]) (λk=>0-k) (λk=>k=0) 0 rfl rfl (λ_ _=>rfl) rfl λk hk=>?_
  subst hk;exact go tt [.f rfl] rfl (by simp [Ui]; omega) (rd (i+1) (by omega) hlt rfl)
 ·exact en tt [.f (decide_eq_false (by omega))] rfl rfl trivial
theorem Zgv (l:List Nat) (n:Nat):(lm l).take (min l.length n)=lm (l.take n):=by
 rw [lm,lm,<-Yn];rcases Nat.le_total l.length n with h | h
 ·rw [Zt h,Q4,Qk h]
 ·rw [V1 h]
theorem Zkx {l:List Nat} {n:Nat} (hn:n<=1000):Uk Tryz.prog 189 [.one (.row (lm l)),.one (.int .i64 (n:Int))] [.one (.row (lm (l.take n)))]:=by
 rw [<-Zgv];have hll:(lm l).length=l.length:=by simp [lm]
 exact w tt Tryz.func189 rfl [.r 9 (eI (b:=((min l.length n:Nat):Int)) (by omega)),.i (min l.length n)] rfl rfl (by simp [Ui,hll]; omega)
theorem Q8b {z:RawInt}:Uk Tryz.prog 150 [.agg (Qg4 z),.one (.int .i64 1)] [.agg (Qg4 z.cut)] :=
 w tt Tryz.func150 rfl [.c [] (Zkx (l:=z.l) (n:=1) (by decide))] rfl rfl trivial
def Qcj (l:List RawInt):List (List LV):=l.map Qg4
theorem Qbz (l:List RawInt):(Qcj l).length=l.length:=by simp [Qcj]
theorem Q05 {l:List RawInt}:Uk Tryz.prog 149 [.one (.row (Qcj l)),.one (.int .i64 3),.one (.int .i64 1)] [.one (.row (Qcj ((l.take 3).map RawInt.cut)))]:=by
 have hll:=Qbz l;refine Gm Tryz.func149 rfl (ln 0 rfl rfl λhzl=>?_);rw [hll] at hzl;refine go tt [.o 7 55 2] rfl trivial ?_;refine lp (S:=Nat) 1 (λL1 i=>(8,.v (.one (.int .i64 (i:Int))))::(7,.v (.one (.orow 0 2 none)))::L1) (λi=>[.row false 55 2 (Qcj ((l.take i).map RawInt.cut))]) (λi=>3-i) (λi=>i<=3/\i<=l.length) 0 ⟨by decide,Qh _⟩ rfl (λ_ _=>rfl) rfl λi ⟨hi,hi2⟩=>?_
 have hil:(Qcj ((l.take i).map RawInt.cut)).length=i:=by rw [Qbz,Q8,Qx]; omega
 by_cases h1:i<l.length
 ·by_cases h2:i<3
  ·obtain ⟨z,hz⟩:=gxE (l:=l) (i:=i) h1;have hm:∀ y∈[Qg4 z.cut],y.length=2:=λy hy=>by rw [Ql.1 hy]; rfl
   refine go tt [.g 13 true (decide_eq_true (by omega)),.t (decide_eq_true (by omega)),.x (Gh (f:=Qg4) hz),.c [] Q8b,.s (sz:=2) hm] rfl (by simp [Ui,hil,-List.map_take]; omega) ?_;exact rd (i+1) (by omega) ⟨h2,h1⟩ (by rw [Zw,hz]; simp [Qcj]; rfl)
  ·have e:i=3:=by omega
   have e2:l.take 3=l.take i:=by rw [e]
   rw [e2];exact en tt [.g 13 true (decide_eq_true (by omega)),.f (decide_eq_false (by omega))] rfl rfl trivial
 ·have e:l.take i=l.take 3:=by rw [Qk (by omega),Qk (by omega)]
  rw [e];exact en tt [.g 13 false (decide_eq_false (by omega)),.f rfl] rfl rfl trivial
abbrev rcw (z:RawPt):List LV:=[.row (Qcj z.x),.row (Qcj z.y),.bool z.d.b,.row (lm z.d.l)]
def RawPt.cut (z:RawPt):RawPt:=⟨(z.x.take 3).map RawInt.cut,(z.y.take 3).map RawInt.cut,z.d.cut,z.id⟩
theorem Znq {z:RawPt}:Uk Tryz.prog 91 [.agg (rcw z),.one (.int .i64 3),.one (.int .i64 1)] [.agg (rcw z.cut)] :=
 w tt Tryz.func91 rfl [.c [] (Q05 (l:=z.x)),.c [] (Q05 (l:=z.y)),.c [] (Q8b (z:=z.d))] rfl rfl trivial
theorem Qdy {z:RawInt} (hz:z.Ok) {most:Int} (hm:0<=most/\most<=999):Uk Tryz.prog 151 [.agg (Qg4 z),.one (.int .i64 most)] [.agg (Gk (Ri most z))]:=by
 obtain ⟨b,l⟩:=z;have hb:=Qc8 hm.1 ⟨b,l⟩;have hs:Uv (Ri most ⟨b,l⟩)<=100000000:=Qc (Rr.2 (show (Ri most ⟨b,l⟩).natAbs<2^10 by omega)) (by decide);cases l with
 | nil=>exact w tt Tryz.func151 rfl [.t rfl] rfl (by simp [Ri,Lp]) trivial
 |
  cons u l =>
  have hu:=hz.u u (Qr ..);have co:=C7 (n:=Ri most ⟨b,u::l⟩) (by omega);have ct:=Q70 hs;have hr:Int.tmod (u:Int) (most+1)=(u:Int) % (most+1):=Y4 (by omega);have h1:=V9 (u:Int) (b:=most+1) (by omega);have h2:=Vd (u:Int) (b:=most+1) (by omega);cases b with
  |
   true =>
   rw [show Ri most ⟨true,u::l⟩=-((u:Int) % (most+1)) from rfl] at co ct ⊢;exact w tt Tryz.func151 rfl [.f (decide_eq_false (by simp [lm]; try omega)),.x (l:=lm (u::l)) (i:=0) (xs:=[.int .u32 (u:Int)]) rfl,.r 18 (eI hr),.t rfl,.c [] co,.c [] ct] rfl rfl (by simp [Ui]; omega)
  |
   false =>
   rw [show Ri most ⟨false,u::l⟩=(u:Int) % (most+1) from rfl] at co ct ⊢;exact w tt Tryz.func151 rfl [.f (decide_eq_false (by simp [lm]; try omega)),.x (l:=lm (u::l)) (i:=0) (xs:=[.int .u32 (u:Int)]) rfl,.r 18 (eI hr),.f rfl,.c [] co,.c [] ct] rfl rfl (by simp [Ui]; omega)
theorem oz2 {P:Program} [Mo P] {n:Nat} {Q:Exit->Sg->List OB->Prop} {L L':Sg} {B B':List OB} (d off T sz:Nat) {it:List It} (hs:Re it=true) (h:Q5q (P:=P) d L B [.oc d off T sz]=some (L',B',[],[])) (k:AK P n Q it L' B'):AK P n Q it L B:=AK.sub (Qrs h EqOk.nil) hs k
theorem pz {P:Program} [Mo P] {n:Nat} {Q:Exit->Sg->List OB->Prop} {L L':Sg} {B B':List OB} (i:Nat) {it:List It} (hs:Re it=true) (h:Q5t [i] L B=some (L',B')) (k:AK P n Q it L' B'):AK P n Q it L B:=AK.sub (Qe2 h) hs k
def Ap (l:List Int):List (List LV):=l.map Gk
theorem Q5e (l:List Int):(Ap l).length=l.length:=by simp [Ap]
theorem Qgt {most:Int} {l:List RawInt} {i:Nat} {a:RawInt} (hi:i<3) (h:l[i]? = some a):Ap (Gt most (l.take (i+1)))=Ap (Gt most (l.take i))++[Gk (Ri most a)]:=by
 rw [Qq5 hi h]; simp [Ap]
theorem Qq4 {most:Int} {l:List RawInt} {i:Nat} (hi:i<=3) (h:i<=l.length):(Ap (Gt most (l.take i))).length=i:=by
 rw [Q5e]; unfold Gt; rw [List.length_map,List.length_take,List.length_take]; omega
theorem Q7m {z:RawPt} (hz:z.Ok) {most:Int} (hm:0<=most/\most<=999):Uk Tryz.prog 92 [.agg (rcw z),.one (.int .i64 most)] [.agg (cl4 (Qeh most z.x z.y z.d))]:=by
 have hxl:=Qbz z.x;have hyl:=Qbz z.y;obtain ⟨D,hD⟩:=nmE (Ri 3 z.d);have cd:=Qdy hz.d (most:=3) (by decide);have hx0:∀ {i:Nat},z.x.length<=i\/3<=i->Gt most (z.x.take i)=Gt most z.x:=Qhw most;have hy0:∀ {i:Nat},z.y.length<=i\/3<=i->Gt most (z.y.take i)=Gt most z.y:=Qhw most;unfold Qeh;rw [<-hD] at cd ⊢;refine Gm Tryz.func92 rfl ?_;refine go tt [.c [] cd] rfl trivial ?_;refine oz2 5 0 55 2 rfl rfl ?_;refine lp (S:=Nat) 4 (λL1 i=>(6,.v (.one (.int .i64 (i:Int))))::L1) (λi=>[.blk 57 (rcw z),.blk 57 [.nils,.nils,.bool false,.nils],.blk 57 [.orow 3 2 none,.nils,sg D,mg D],.row false 55 2 (Ap (Gt most (z.x.take i)))]) (λi=>3-i) (λi=>i<=3/\i<=z.x.length) 0 ⟨by decide,Qh _⟩ rfl (λ_ _=>rfl) rfl λi ⟨hi,hi2⟩=>?_
 have hll:=Qq4 (most:=most) hi hi2;by_cases hr:i<z.x.length/\i<3
 ·obtain ⟨a,ha⟩:=gxE (l:=z.x) (i:=i) hr.1;have hs:∀ y∈[Gk (Ri most a)],y.length=2:=λy hy=>by rw [Ql.1 hy]; rfl
  refine go tt [.g 17 true (decide_eq_true (by omega)),.t (decide_eq_true (by omega)),.x (Gh (f:=Qg4) ha),.c [] (Qdy (hz.x a (Qa ha)) hm),.s (sz:=2) hs] rfl (by simp [Ui,hll]; omega) ?_;exact rd (i+1) (by omega) ⟨hr.2,hr.1⟩ (by rw [Qgt hr.2 ha]; rfl)
 have hg1:decide ((i:Int)<((Qcj z.x).length:Int))=true->i<z.x.length:=λh=>by have:=of_decide_eq_true h; omega
 rw [hx0 (by omega)];clear hll;have hfin:∀ {j:Nat},j<=3/\j<=z.y.length->¬(j<z.y.length/\j<3)->Ap (Gt most (z.y.take j))=Ap (Gt most z.y):=λh1 h2=>by rw [hy0 (by omega)]
 by_cases hxx:i<z.x.length
 ·refine go tt [.g 17 true (decide_eq_true (by omega)),.f (decide_eq_false (by omega))] rfl trivial ?_;refine pz 3 rfl rfl ?_;refine oz2 5 1 55 2 rfl rfl ?_;refine lp (S:=Nat) 5 (λL1 j=>(7,.v (.one (.int .i64 (j:Int))))::L1) (λj=>[.blk 57 (rcw z),.blk 57 [.nils,.nils,.bool false,.nils],.blk 57 [.row (Ap (Gt most z.x)),.orow 4 2 none,sg D,mg D],.gone,.row false 55 2 (Ap (Gt most (z.y.take j)))]) (λj=>3-j) (λj=>j<=3/\j<=z.y.length) 0 ⟨by decide,Qh _⟩ rfl (λ_ _=>rfl) rfl λj ⟨hj,hj2⟩=>?_
  have hll:=Qq4 (most:=most) hj hj2;by_cases hr:j<z.y.length/\j<3
  ·obtain ⟨a,ha⟩:=gxE (l:=z.y) (i:=j) hr.1;have hs:∀ y∈[Gk (Ri most a)],y.length=2:=λy hy=>by rw [Ql.1 hy]; rfl
   refine go tt [.g 40 true (decide_eq_true (by omega)),.t (decide_eq_true (by omega)),.x (Gh (f:=Qg4) ha),.c [] (Qdy (hz.y a (Qa ha)) hm),.s (sz:=2) hs] rfl (by simp [Ui,hll]; omega) ?_;exact rd (j+1) (by omega) ⟨hr.2,hr.1⟩ (by rw [Qgt hr.2 ha]; rfl)
  rw [hfin ⟨hj,hj2⟩ hr];by_cases hyy:j<z.y.length
  ·exact ed tt [4] [] [.g 40 true (decide_eq_true (by omega)),.f (decide_eq_false (by omega))] rfl trivial
  ·exact ed tt [4] [] [.g 40 false (decide_eq_false (by omega)),.f rfl] rfl trivial
 ·refine go tt [.g 17 false (decide_eq_false (by omega)),.f rfl] rfl trivial ?_;refine pz 3 rfl rfl ?_;refine oz2 5 1 55 2 rfl rfl ?_;refine lp (S:=Nat) 5 (λL1 j=>(7,.v (.one (.int .i64 (j:Int))))::L1) (λj=>[.blk 57 (rcw z),.blk 57 [.nils,.nils,.bool false,.nils],.blk 57 [.row (Ap (Gt most z.x)),.orow 4 2 none,sg D,mg D],.gone,.row false 55 2 (Ap (Gt most (z.y.take j)))]) (λj=>3-j) (λj=>j<=3/\j<=z.y.length) 0 ⟨by decide,Qh _⟩ rfl (λ_ _=>rfl) rfl λj ⟨hj,hj2⟩=>?_
  have hll:=Qq4 (most:=most) hj hj2;by_cases hr:j<z.y.length/\j<3
  ·obtain ⟨a,ha⟩:=gxE (l:=z.y) (i:=j) hr.1;have hs:∀ y∈[Gk (Ri most a)],y.length=2:=λy hy=>by rw [Ql.1 hy]; rfl
   refine go tt [.g 40 true (decide_eq_true (by omega)),.t (decide_eq_true (by omega)),.x (Gh (f:=Qg4) ha),.c [] (Qdy (hz.y a (Qa ha)) hm),.s (sz:=2) hs] rfl (by simp [Ui,hll]; omega) ?_;exact rd (j+1) (by omega) ⟨hr.2,hr.1⟩ (by rw [Qgt hr.2 ha]; rfl)
  rw [hfin ⟨hj,hj2⟩ hr];by_cases hyy:j<z.y.length
  ·exact ed tt [4] [] [.g 40 true (decide_eq_true (by omega)),.f (decide_eq_false (by omega))] rfl trivial
  ·exact ed tt [4] [] [.g 40 false (decide_eq_false (by omega)),.f rfl] rfl trivial
theorem Ze5 {n d:Int} (hn:-9223372036854775808<=n/\n<=9223372036854775807) (hd:-9223372036854775808<=d/\d<=9223372036854775807):Uk Tryz.prog 20 [.one (.int .i64 n),.one (.int .i64 d)] [.agg (fr (Gb (Ox n 61-30) (1+Ox d 6)))]:=by
 have h1:Ox n 61=n % 61:=rfl;have h2:Ox d 6=d % 6:=rfl;exact w tt Tryz.func20 rfl [.c [] (Qdx (v:=n) (n:=61) hn (by decide)),.c [] (Qdx (v:=d) (n:=6) hd (by decide)),.c [] (Zi7 (n:=Ox n 61-30) (d:=1+Ox d 6) (by omega) (by omega))] rfl rfl (by simp [Ui]; omega)
def rwq (z:RawPt):List LV:=rcw z++[.int .i64 z.id]
def Qe8 (l:List RawPt):List (List LV):=l.map rwq
theorem Q52 (l:List RawPt):(Qe8 l).length=l.length:=by simp [Qe8]
theorem Qr8 {l:List RawPt} {i:Nat} {z:RawPt} (h:l[i]? = some z):(Qe8 l)[i]? = some (rwq z):=Gh h
theorem Zk4 {most:Int} (hm:0<=most/\most<=999) (z:RawPt):Cs 100000 16 (Qbp most z).c:=(Qnl hm z.x z.y z.d).mono (by decide) (by decide)
def A3 (n:Nat) (most:Int) (zs:List RawPt) (i:Nat):List Pt:=Qg0 n most (zs.take i)
theorem Zbt (n:Nat) (most:Int) (zs:List RawPt) (i:Nat):(A3 n most zs i).length<=n:=Qab _ _ (Qh _)
theorem Zhl {n:Nat} {most:Int} {zs:List RawPt} {i:Nat} {z:RawPt} (h:zs[i]? = some z) (hl:(A3 n most zs i).length<n) (ha:(A3 n most zs i).any (λx=>decide (x.id=(Qbp most z).id))=true):A3 n most zs (i+1)=A3 n most zs i:=by
 unfold A3 Qg0 at *;rw [Zw,h,Vh,Xv];exact Iz _ _ _ hl ha
theorem Zbu {n:Nat} {most:Int} {zs:List RawPt} {i:Nat} {z:RawPt} (h:zs[i]? = some z) (hl:(A3 n most zs i).length<n) (ha:(A3 n most zs i).any (λx=>decide (x.id=(Qbp most z).id))=false):A3 n most zs (i+1)=A3 n most zs i++[Qbp most z]:=by
 unfold A3 Qg0 at *;rw [Zw,h,Vh,Xv];exact E4 _ _ _ hl ha
theorem Zbs {n:Nat} {most:Int} {zs:List RawPt} {i:Nat} (h:¬(i<zs.length/\(A3 n most zs i).length<n)):A3 n most zs i=Qg0 n most zs:=by
 by_cases h1:i<zs.length
 ·have hl:n<=(A3 n most zs i).length:=Yv λh2=>h ⟨h1,h2⟩
  unfold A3 Qg0 at *
  conv=>rhs; rw [<-Ze i zs,Xv]
  exact (Qgf _ _ _ hl).symm
 ·unfold A3; rw [List.take_of_length_le (by omega)]
theorem Q6y {f:Pt->Bool} {l:List Pt} {k:Nat} {x:Pt} (h:l[k]? = some x):(l.take (k+1)).any f=((l.take k).any f || f x):=by
 rw [Zw,h]; simp
theorem Q4e {zs:List RawPt} (hz:∀ z∈zs,z.Ok):Ht Tryz.prog 43 [.one (.row (Qe8 zs)),.one (.int .i64 4)] [] [.one (.orow 0 5 none),.one (.orow 1 7 none)] [.row false 114 5 (Ut (Qg0 4 20 zs)),.row false 61 7 (Fj ((Qg0 4 20 zs).map Pt.nrm))]:=by
 have hzl:=Q52 zs;refine Gm Tryz.func43 rfl (ln 0 rfl rfl λhz63=>?_);rw [hzl] at hz63;refine go tt [.o 6 114 5,.o 7 61 7] rfl trivial ?_;refine lp (S:=Nat) 2 (λL1 i=>(8,.v (.one (.int .i64 (i:Int))))::(6,.v (.one (.orow 0 5 none)))::(7,.v (.one (.orow 1 7 none)))::L1) (λi=>[.row false 114 5 (Ut (A3 4 20 zs i)),.row false 61 7 (Fj ((A3 4 20 zs i).map Pt.nrm))]) (λi=>zs.length-i) (λi=>i<=zs.length) 0 (Qh _) rfl (λ_ _=>rfl) rfl λi hi=>?_
 have hOl:=Zbt 4 20 zs i;have hend:=Zbs (n:=4) (most:=20) (zs:=zs) (i:=i);by_cases h1:i<zs.length
 ·by_cases h2:(A3 4 20 zs i).length<4
  ·obtain ⟨z,hzi⟩:=gxE (l:=zs) (i:=i) h1;have hzok:=hz z (Qa hzi);have hin:=Zhl hzi h2;have hout:=Zbu hzi h2;obtain ⟨O,hO⟩:=nmE (A3 4 20 zs i);rw [<-hO] at hOl h2 hin hout ⊢;have hpl:=Tl O;have hrl:(Fj (O.map Pt.nrm)).length=O.length:=by rw [Pg,Q8]
   obtain ⟨p,hp⟩:=nmE (Qbp 20 z);have hid:Ox z.id 1000=p.id:=by rw [hp]; rfl
   have cw:=Qdx (v:=z.id) (n:=1000) hzok.id (by decide);have cl:=Q7m hzok (most:=20) (by decide);have ecl:cl4 (Qeh 20 z.x z.y z.d)=cl4 p.c:=by rw [hp]; rfl
   rw [hid] at cw;rw [ecl] at cl;rw [<-hp] at hin hout;refine go tt [.g 16 true (decide_eq_true (by omega)),.t (decide_eq_true (by omega)),.x (Qr8 hzi),.c [] (Znq (z:=z)),.x (Qr8 hzi),.c [] cw,.f rfl,.t rfl,.x (Qr8 hzi),.c [] cl] rfl trivial ?_;refine lp (S:=Nat) 3 (λL1 k=>(57,.v (.one (.int .i64 (k:Int))))::(10,.v (.one (.bool ((O.take k).any (λx=>decide (x.id=p.id))))))::L1) (λ_=>[.row false 114 5 (Ut O),.row false 61 7 (Fj (O.map Pt.nrm)),.blk 114 [pl p.c.x,pl p.c.y,sg p.c.d,mg p.c.d,.int .i64 p.id]]) (λk=>O.length-k) (λk=>k<=O.length) 0 (Qh _) rfl (λ_ _=>rfl) rfl λk hk=>?_
   by_cases hk2:k<O.length
   ·obtain ⟨x,hx⟩:=gxE (l:=O) (i:=k) hk2;have ha:=Q6y (f:=λx=>decide (x.id=p.id)) hx;cases hb:(O.take k).any (λx=>decide (x.id=p.id)) with
    |
     true =>
     rw [hb,Bool.true_or] at ha;exact go tt [.t (decide_eq_true (by omega)),.g 61 true rfl] rfl (by simp [Ui]; omega) (rd (k+1) (by omega) hk2 (by rw [ha]; rfl))
    |
     false =>
     rw [hb,Bool.false_or] at ha;exact go tt [.t (decide_eq_true (by omega)),.g 61 false rfl,.i k,.x (Qa3 hx)] rfl (by simp [Ui,hpl]; omega) (rd (k+1) (by omega) hk2 (by rw [ha]; rfl))
   have hk3:O.take k=O:=Qk (by omega);rw [hk3];cases hb:O.any (λx=>decide (x.id=p.id)) with
   |
    true =>
    refine go tt [.f (decide_eq_false (by omega)),.f rfl] rfl (by simp [Ui]; omega) ?_;exact rd (i+1) (by omega) h1 (by rw [hin hb]; rfl)
   |
    false =>
    have cf:=Q8l (k:=p.c) (id:=p.id) (by rw [hp]; exact Zk4 (by decide) z);have hm1:∀ y∈[G0 p],y.length=5:=λy hy=>by rw [Ql.1 hy]; rfl
    have hm2:∀ y∈[Cg p.nrm],y.length=7:=λy hy=>by rw [Ql.1 hy]; rfl
    have e1:Ut (O++[p])=Ut O++[G0 p]:=by simp [Ut]
    have e2:Fj ((O++[p]).map Pt.nrm)=Fj (O.map Pt.nrm)++[Cg p.nrm]:=by simp [Fj]
    refine go tt [.f (decide_eq_false (by omega)),.t rfl,.s (sz:=5) hm1,.c [] cf,.s (sz:=7) hm2] rfl (by simp [Ui,hpl,hrl]; omega) ?_;exact rd (i+1) (by omega) h1 (by rw [hout hb,e1,e2]; rfl)
  ·rw [hend (λh=>h2 h.2)];rw [hend (λh=>h2 h.2)] at h2;have hpl:=Tl (Qg0 4 20 zs);exact ed tt [] [0,1] [.g 16 true (decide_eq_true (by omega)),.f (decide_eq_false (by omega))] rfl trivial
 ·rw [hend (λh=>h1 h.1)];exact ed tt [] [0,1] [.g 16 false (decide_eq_false (by omega)),.f rfl] rfl trivial
abbrev plZ (M:List Pt) (q:Rat):List LV:=.row (Fj M)::(fr q++[.nils,.nils,.nils,.bool false,.nils,.bool false,.nils,.bool false,.nils,.bool false,.nils,.int .i64 0,.nils])
abbrev plB (M:List Pt) (q:Rat) (c:List (List Int)) (w:List Ct):List LV:=.row (Fj M)::(fr q++(aq q c++[.row (Gq w),.int .i64 0,.nils]))
end Orr
namespace Orr
open Go Go.Proofs Orq
set_option maxRecDepth 10000
theorem Zf5 {O:List Pt} {e j:Nat} (h:Ew (Sb O e)) (hj:j<=e):Ew (Sb O j):=by
 have:Sb O j=(Sb O e).take j:=by unfold Sb; rw [<-List.map_take,List.take_take,Nat.min_eq_left hj]
 rw [this];exact List.Pairwise.sublist (Ww _ _) h
theorem Zk6 (O:List Pt):∃ e,e<=O.length/\Ew (Sb O e)/\(e<O.length->¬Ew (Sb O (e+1))):=by
 have key:∀ k,Ew (Sb O k)\/∃ e,e<k/\Ew (Sb O e)/\¬Ew (Sb O (e+1)):=by
  intro k
  induction k with
  | zero=>exact .inl List.Pairwise.nil
  |
   succ k ih =>
   rcases ih with h | ⟨e,h1,h2,h3⟩
   ·by_cases h4:Ew (Sb O (k+1))
    ·exact .inl h4
    ·exact .inr ⟨k,Nat.lt_succ_self k,h,h4⟩
   ·exact .inr ⟨e,by omega,h2,h3⟩
 rcases key O.length with h | ⟨e,h1,h2,h3⟩
 ·exact ⟨O.length,Qm _,h,λh=>absurd h (Wu _)⟩
 ·exact ⟨e,by omega,h2,λ_=>h3⟩
theorem Qrt {O:List Pt} {i:Nat} {p:Pt} (h:O[i]? = some p):(Ut (mix O i)).set i [pl p.c.x,pl p.c.y,sg p.c.d,mg p.c.d,.int .i64 p.m5.id]=Ut (mix O (i+1)):=by
 rw [<-Q2q h]; simp only [Ut,Yz]; rfl
theorem Qm3 {O:List Pt} {i:Nat} {p:Pt} (h:O[i]? = some p):(Fj ((mix O i).map Pt.nrm)).set i [rp (Ab p.nrm.c.x p.nrm.c.d),rp (Ab p.nrm.c.y p.nrm.c.d),pl p.nrm.c.x,pl p.nrm.c.y,sg p.nrm.c.d,mg p.nrm.c.d,.int .i64 p.m5.id]=Fj ((mix O (i+1)).map Pt.nrm):=by
 rw [<-Q2q h]; simp only [Fj,Yz]; rfl
theorem Q5s {O:List Pt} {e i:Nat} (h:e<=i) (hi:i<=O.length):(Ut (mix O i)).take e=Ut (Sb O e):=by
 unfold Ut; rw [<-List.map_take,Quu h hi]; rfl
theorem Qzq {O:List Pt} {e i:Nat} (h:e<=i) (hi:i<=O.length):(Fj ((mix O i).map Pt.nrm)).take e=Fj (Qb9 O e):=by
 unfold Fj; rw [<-List.map_take,<-List.map_take,Quu h hi]; rfl
theorem Qut {O:List Pt}:mix O O.length=Sb O O.length:=by unfold mix Sb; simp
abbrev Ob (n d:Int):Rat:=Gb (Ox n 61-30) (1+Ox d 6)
theorem Qo9 (n d:Int):Qs 100 (Ob n d):=by
 have h1:Ox n 61=n % 61:=rfl;have h2:Ox d 6=d % 6:=rfl;unfold Ob Gb;rw [if_neg (by omega)];exact Qs.divInt (Qc (Rr.2 (show (Ox n 61-30).natAbs<2^10 by omega)) (by decide)) (Qc (Rr.2 (show (1+Ox d 6).natAbs<2^10 by omega)) (by decide)) (by decide)
theorem Zhm {n:Nat} {most:Int} {l:List RawPt}:∀ p∈Qg0 n most l,0≤p.id/\p.id<1000:=λp hp=>by
 rcases Qd9 _ _ hp with h | h
 ·cases h
 ·obtain ⟨z,_,rfl⟩:=Za.1 h;exact ⟨V9 _ (by decide),Vd _ (by decide)⟩
end Orr
namespace Orr
def Pe:Nat->List Pt->List (Pt×Pt)
 | 0,_=>[]
 | _+1,[]=>[]
 | k+1,x::l=>l.map (λy=>(x,y))++Pe k l
def Dm (l:List Pt):List (Pt×Pt):=Pe l.length l
theorem Er:∀ (l:List Pt) (i:Nat) (x:Pt),l[i]? = some x->Pe (i+1) l=Pe i l++(l.drop (i+1)).map (λy=>(x,y))
 | [],i,x,h=>by simp at h
 |
  y::l,0,x,h=>by
  simp at h; subst h;simp [Pe]
 |
  y::l,i+1,x,h=>by
  have h:l[i]? = some x:=by simpa using h
  have ih:=Er l i x h;show l.map (λz=>(y,z))++Pe (i+1) l=(l.map (λz=>(y,z))++Pe i l)++_;rw [ih,Zg];rfl
theorem Qlm:∀ (k:Nat) (l:List Pt),∀ m∈Pe k l,m.1∈l/\m.2∈l
 | 0,l,m,h=>by simp [Pe] at h
 | k+1,[],m,h=>by simp [Pe] at h
 |
  k+1,x::l,m,h=>by
  rcases Qw.1 h with h | h
  ·obtain ⟨y,hy,rfl⟩:=Za.1 h;exact ⟨Qr ..,Qj _ hy⟩
  ·obtain ⟨h1,h2⟩:=Qlm k l m h;exact ⟨Qj _ h1,Qj _ h2⟩
def Zsr (s m:Pt×Pt):Bool:=decide (m.1.id≠s.1.id) || decide (m.2.id≠s.2.id)
end Orr
namespace Orq
open Orr Go
theorem Zmz {a b:Tm} (ha:Cut (U0 a)) (hb:Cut (U0 b)) (h:¬Pw a b) (h':¬Pw b a):∀ q,U0 a q=U0 b q:=by
 rcases tri ha hb with h1 | h1 | h1
 ·exact absurd h1 h
 ·exact h1
 ·exact absurd h1 h'
theorem Zil {a b b':Tm} (h:∀ q,U0 b q=U0 b' q):Pw a b↔Pw a b':=by
 unfold Pw; simp only [h]
theorem Zdi {a b b':Tm} (h:∀ q,U0 b q=U0 b' q):Pw b a↔Pw b' a:=by
 unfold Pw; simp only [h]
theorem Za9 {p:List Int} {a:Tm} (ha:Va a) {t t':Tm} (h:Tq p a (some t)) (h':Tq p a (some t')):∀ q,U0 t q=U0 t' q:=by
 obtain ⟨_,v,l,s,s0,h4,h5⟩:=h;obtain ⟨_,v',l',s',s0',h4',h5'⟩:=h';have es:s=s':=Qe7 (h4 _ ha.cut (λ_ h=>h) l) (h4' _ ha.cut (λ_ h=>h) l');refine Zmz v.cut v'.cut (λhlt=>?_) λhlt=>?_
 ·have:=Qe7 (h4' _ v.cut (Qc7 ha.cut v.cut (Qq8 ha.cut v.cut l)) hlt) h5;omega
 ·have:=Qe7 (h4 _ v'.cut (Qc7 ha.cut v'.cut (Qq8 ha.cut v'.cut l')) hlt) h5';omega
theorem Qu3 {p:List Int} {a:Tm} (ha:Va a) {t:Tm} (h:Tq p a (some t)) (h':Tq p a none):False:=by
 obtain ⟨h1,v,l,s,s0,h4,h5⟩:=h;rcases h' with h' | ⟨s',s0',h'⟩
 ·exact h1 h'
 ·have e1:=Qe7 (h' _ ha.cut λ_ h=>h) (h4 _ ha.cut (λ_ h=>h) l);have e2:=Qe7 (h' _ v.cut (Qc7 ha.cut v.cut (Qq8 ha.cut v.cut l))) h5;omega
structure Quiet {β:Type} (Bc:Tm->List Ct) (Br:Tm->β) (a b:Tm):Prop where
 va:Va a
 vb:Va b
 le:¬Pw b a
 n:∀ x∈Bc a,∃ o,Tq x.p a o/\∀ u,o=some u->Pw b u
section
variable {β:Type} {Bc:Tm->List Ct} {Br:Tm->β} (S:Stab Bc Br)
include S
theorem Quiet.same {a b:Tm} (h:Quiet Bc Br a b):Bc b=Bc a/\Br b=Br a:=by
 refine S.st a b h.va h.vb λx hx=>?_
 obtain ⟨o,o1,o2⟩:=h.n x hx;exact Qgh (S.ok.p _ h.va _ hx).dp h.va h.vb h.le o1 o2
end
theorem Zin {p:List Int} (h:Cp p):(tms p).length<=67:=by
 obtain ⟨l,l1,l2,_⟩:=Qba h;unfold tms; rw [l1]; exact l2
theorem Q3s:∀ {Ps:List (List Int)},(∀ p∈Ps,Cp p)->(Ps.flatMap tms).length≤67*Ps.length
 | [],_=>Qh _
 |
  p::Ps,h=>by
  have h1:=Zin (h p (by simp));have h2:=Q3s (Ps:=Ps) λq hq=>h q (Qj _ hq)
  rw [List.flatMap_cons,Q7,Q6]; omega
theorem Zos (T:List Tm) (a:Tm):mu T a<=T.length:=Vu _ _
theorem Zka {β:Type} {Bc:Tm->List Ct} {Br:Tm->β} (S:Stab Bc Br) {Ps:List (List Int)} (hP:∀ p∈Ps,Cp p) (hPs:∀ a,Va a->∀ x∈Bc a,x.p∈Ps) (hl:Ps.length≤1000000) {t:Rat} (ht:Qs 1640000 t) {c:Cr} {r:β} (hS:KSt Bc Br c r) (h:U0 c.now t≤0) :
 ∃ (K:Nat) (c':Cr) (E:List Tm),K<=67000001/\goF Bc Br t K c r 0=some (c',Br (tq t),((E.length:Nat):Int))/\c'.now=tq t/\KSt Bc Br c' (Br (tq t))/\c'.ev=c.ev+((E.length:Nat):Int)/\E.length<=67000000/\Evs Bc t c.now E:=by
 have hm:=Q3s hP;have hmu:=Zos (Ps.flatMap tms) c.now;have hv:=hS.inv.ok.n;obtain ⟨c',r',E,g1,g2,g3,g4,g5,g6⟩:=Zoc S ht hP hPs (mu (Ps.flatMap tms) c.now) c r 0 (Qm _) hS λh'=>by
  have:=(O5 hv.cut).2 h'; omega
 have hr:r'=Br (tq t):=by rw [g3.r,g2]
 rw [hr] at g1 g3;rw [Int.zero_add] at g1;exact ⟨_,c',E,by omega,g1,g2,g3,g4,by omega,g6⟩
theorem Zkj {β:Type} {Bc:Tm->List Ct} {Br:Tm->β} (S:Stab Bc Br) {a:Tm} (ha:Va a):KSt Bc Br ⟨a,(G5 (Bc a)).map fresh,0⟩ (Br a):=by
 refine ⟨⟨⟨ha,λw hw=>?_,?_⟩,λw hw hk=>?_⟩,?_,rfl⟩
 ·obtain ⟨x,hx,rfl⟩:=Za.1 hw;exact ⟨S.ok.p _ ha x (Qg8 hx),λt ht=>by cases ht⟩
 ·show ((G5 (Bc a)).map fresh).length<=1000;rw [Q8,D4]; exact S.ok.n _ ha
 ·obtain ⟨x,hx,rfl⟩:=Za.1 hw;cases hk
 ·show ((G5 (Bc a)).map fresh).map (·.c)=G5 (Bc a);rw [List.map_map];show (G5 (Bc a)).map (λx=>x)=_;rw [List.map_id']
end Orq
namespace Orr
open Go Go.Proofs Orq
set_option maxRecDepth 10000
theorem En {l m:List (List LV)} (h:l=m):TV.one (LV.row l)=.one (.row m):=h ▸ rfl
end Orr
namespace Orr
open Go Go.Proofs
set_option maxRecDepth 10000
theorem Qp6 {p q:List Int} (hp:Bd 19000000 p) (hq:Bd 19000000 q) (hlp:p.length<=1000000) (hlq:q.length<=1000000):Uk Tryz.prog 55 [.one (rp (zp p)),.one (rp (zp q))] [.one (rp (zp (L9 p q)))]:=by
 have h:=Qxp (Qci (Uj hp (by decide)) (by decide)) (Qci (Uj hq (by decide)) (by decide)) (by rw [Su]; exact hlp) (by rw [Su]; exact hlq);rwa [Q3i] at h
theorem Qk4 (p:List Int) (q:Rat):Mp (Ic q) p=Qc2 p q:=rfl
end Orr
