/- KT TouL TouQ TW1 SplitL TW2 SD1 SC1 NewsN W1 W2 WR18 WS18 X19 B19 W19 A19 WS19 Z1 Z2 Z3 Z4 Z5 HullG TurnL PairN DetL H1 HullQ Z6 Z7 HoT K5 KT5 Z8 R27 R28 Hal19 WH19 ReadN LastN LastR -/
import Derived.Test.YtkkhemmhhedniaaGreatPart07
import Derived.Test.YtkkhemmhhedniaaGreatPart00
import Derived.Test.YtkkhemmhhedniaaGreatPart05
import Derived.Test.YtkkhemmhhedniaaGreatPart08
import Derived.Test.YtkkhemmhhedniaaGreatPart04
import Derived.Test.YtkkhemmhhedniaaGreatPart06
import Derived.Deep.Slices
import Derived.ProofKit
import Derived.OpenShut
import Derived.WideKeyArgs
import Derived.SizedLaws
set_option linter.all false
namespace Orr
open Go Go.Proofs Orq
set_option maxRecDepth 10000
abbrev Hh (c:Cr) (r0:List (List LV)) (r1:List (List LV)×List (List LV)):List LV:=.bool true::pl c.now.p::sg c.now.lo.num::mg c.now.lo.num::sg (c.now.lo.den:Int)::mg (c.now.lo.den:Int)::sg c.now.hi.num::mg c.now.hi.num::sg (c.now.hi.den:Int)::mg (c.now.hi.den:Int)::.row (A3 c.l)::.int .i64 c.ev::[.row r0,.row r1.1,.row r1.2]
abbrev Q4n (r0:LV) (r1:LV×LV):List LV:=[.bool false,.nils,.bool false,.nils,.bool false,.nils,.bool false,.nils,.bool false,.nils,.nils,.int .i64 0,r0,r1.1,r1.2]
theorem Qtq {T:Nat} {c:Cr} {r0:List (List LV)} {r1:List (List LV)×List (List LV)} (hc:Va c.now):G6 Tryz.prog 21 [.one (.ow 0 0)] [.blk T (Hh c r0 r1)] [.agg (ta c.now)] [.blk T (Hh c r0 r1)]:=by
 have cl:=L9 (b:=c.now) (l:=[]) hc.tb (λt ht=>by cases ht) (by decide) rfl;refine Gk Tryz.func21 rfl ?_;exact ed tt [] [0] [.f rfl,.c [] cl] rfl trivial
theorem Qpv {T:Nat} {c:Cr} {r0:List (List LV)} {r1:List (List LV)×List (List LV)} (hc:CrOk c):G6 Tryz.prog 22 [.one (.ow 0 0)] [.blk T (Hh c r0 r1)] [.one (.row (Gs (Gm (c.l.map (·.c)))))] [.blk T (Hh c r0 r1)]:=by
 have hk:=hc.k;have hw:=Nc c.l;refine Gk Tryz.func22 rfl ?_;refine go tt [.o 3 90 7] rfl trivial ?_;refine lp (S:=Nat) 2 (λL1 i=>(11,.v (.one (.int .i64 (i:Int))))::(3,.v (.one (.orow 1 7 none)))::L1) (λi=>[.blk T (Hh c r0 r1),.row false 90 7 (Gs ((c.l.map (·.c)).take i))]) (λi=>c.l.length-i) (λi=>i<=c.l.length) 0 (Qi _) rfl (λ_ _=>rfl) rfl λi hi=>?_
 by_cases hlt:i<c.l.length
 ·obtain ⟨x,hx⟩:=gxE (l:=c.l) (i:=i) hlt;have hm:∀ y∈[Qi2 x.c],y.length=7:=λy hy=>by rw [Qp.1 hy]; rfl
  have hg:(c.l.map (·.c)).take (i+1)=(c.l.map (·.c)).take i++[x.c]:=by
   rw [Xa,Q5,hx]; rfl
  have hl:decide ((i:Int)<((A3 c.l).length:Int))=true:=by simp [hw]; omega
  obtain ⟨xc,xk,xf⟩:=x;cases xf <;> (refine go tt [.t hl,.x (Rx hx),.s (sz:=7) hm] rfl (by simp [Ua,B5]; omega) ?_; exact rd (i+1) (by omega) hlt (by rw [hg]; simp [Gs]; rfl))
 ·obtain rfl:i=c.l.length:=by omega
  have e:(c.l.map (·.c)).take c.l.length=c.l.map (·.c):=Qm (by simp);rw [e];have cs:=Qto (l:=c.l.map (·.c)) (λx hx=>by
   obtain ⟨w,hw,rfl⟩:=Zg.1 hx;exact Dp.pb (hc.l w hw).p.dp) (by simp; omega)
  exact ed tt [] [0] [.f (by simp [hw]),.c [] cs] rfl trivial
theorem Zad {T:Nat} {c:Cr} {r0:List (List LV)} {r1:List (List LV)×List (List LV)} {x:Ct} {at_:Tm} {w:Wt} (hc:CrOk c) (hx:Cp x.p) (ha:Va at_) (h:Dh c.l x at_=some w):G6 Tryz.prog 223 [.one (.ow 0 0),.agg (Qi2 x),.agg (ta at_)] [.blk T (Hh c r0 r1)] [.agg (wl w)] [.blk T (Hh c r0 r1)]:=by
 have hk:=hc.k;have hw:=Nc c.l;refine Gk Tryz.func223 rfl ?_;refine go tt [] rfl trivial ?_;refine lp (S:=Nat) 4 (λL1 i=>(14,.v (.one (.int .i64 (i:Int))))::L1) (λ_=>[.blk T (Hh c r0 r1),.blk 90 (Qi2 x),.blk 74 (ta at_),.blk 167 [.int .i64 0,.int .i64 0,.int .i64 0,.int .i64 0,.int .i64 0,.nils,.int .i64 0,.bool false,.bool false,.nils,.bool false,.nils,.bool false,.nils,.bool false,.nils,.bool false,.nils]]) (λi=>c.l.length-i) (λi=>i<=c.l.length/\Dh (c.l.drop i) x at_=some w) 0 ⟨Qi _,h⟩ rfl (λ_ _=>rfl) rfl λi ⟨hi,hf⟩=>?_
 by_cases hlt:i<c.l.length
 ·obtain ⟨v,hv⟩:=gxE (l:=c.l) (i:=i) hlt;have hdr:c.l.drop i=v::c.l.drop (i+1):=by
   rw [Zn hlt]; congr 1;have:=Qd hlt; rw [hv] at this; injection this with this; exact this.symm
  have hvo:=hc.l v (Qc hv);rw [hdr] at hf;simp only [Dh] at hf;have hl:decide ((i:Int)<((A3 c.l).length:Int))=true:=by simp [hw]; omega
  by_cases A:Q75 v.c x=true
  ·have A':(!decide ([v.c.kind,v.c.i0,v.c.i1,v.c.i2,v.c.i3]=[x.kind,x.i0,x.i1,x.i2,x.i3]))=false:=by
    unfold Q75 at A; rw [A]; rfl
   by_cases B:v.known=true
   ·have B':(!v.known)=false:=by rw [B]; rfl
    have cs:=Q96 (p:=v.c.p) (q:=x.p) (Dp.pb hvo.p.dp).ln (Dp.pb hx.dp).ln (Dp.pb hvo.p.dp).bd (Dp.pb hx.dp).bd;rw [hvo.p.t,hx.t] at cs;by_cases C:v.c.p=x.p
    ·have C':(!decide (v.c.p=x.p))=false:=by simp [C]
     rw [if_pos ⟨A,B,C⟩] at hf;obtain ⟨vc,vk,vf⟩:=v;cases vf with
     |
      none =>
      injection hf with hf; subst hf;exact ed tt [] [0] [.t hl,.x (Rx hv),.g 24 false A',.g 29 false B',.c [] cs,.f C',.g 41 true rfl,.t rfl] rfl trivial
     |
      some t =>
      obtain ⟨r,r1',hf⟩:=Qe.1 hf;have cc:=Qhf (hvo.f t rfl).tb ha.tb r1';by_cases D:0<r
      ·rw [if_pos D] at hf;injection hf with hf; subst hf;exact ed tt [] [0] [.t hl,.x (Rx hv),.g 24 false A',.g 29 false B',.c [] cs,.f C',.g 41 false rfl,.c [] cc,.t (by simpa using D)] rfl trivial
      ·rw [if_neg D] at hf;refine go tt [.t hl,.x (Rx hv),.g 24 false A',.g 29 false B',.c [] cs,.f C',.g 41 false rfl,.c [] cc,.f (by simpa using D)] rfl (by simp [Ua]; omega) ?_;exact rd (i+1) (by omega) ⟨hlt,hf⟩ rfl
    ·rw [if_neg λh=>C h.2.2] at hf;refine go tt [.t hl,.x (Rx hv),.g 24 false A',.g 29 false B',.c [] cs,.t (by simp [C])] rfl (by simp [Ua]; omega) ?_;exact rd (i+1) (by omega) ⟨hlt,hf⟩ rfl
   ·rw [if_neg λh=>B h.2.1] at hf;refine go tt [.t hl,.x (Rx hv),.g 24 false A',.g 29 true (by simpa using B),.t rfl] rfl (by simp [Ua]; omega) ?_;exact rd (i+1) (by omega) ⟨hlt,hf⟩ rfl
  ·rw [if_neg λh=>A h.1] at hf;refine go tt [.t hl,.x (Rx hv),.g 24 true (by rw [show decide ([v.c.kind,v.c.i0,v.c.i1,v.c.i2,v.c.i3]=[x.kind,x.i0,x.i1,x.i2,x.i3])=false from Bool.eq_false_iff.2 A]; rfl),.g 29 true rfl,.t rfl] rfl (by simp [Ua]; omega) ?_;exact rd (i+1) (by omega) ⟨hlt,hf⟩ rfl
 ·obtain rfl:i=c.l.length:=by omega
  rw [Vr] at hf;simp only [Dh] at hf;injection hf with hf; subst hf;exact ed tt [] [0] [.f (by simp [hw])] rfl trivial
theorem Zaf {T:Nat} {c:Cr} {r0:List (List LV)} {r1:List (List LV)×List (List LV)} {at_:Tm} {l:List Ct} {ws:List Wt} (hc:CrOk c) (ha:Va at_) (hl:∀ x∈l,Cp x.p) (hn:l.length≤1000) (h:Qcf c.l at_ (Gm l)=some ws):G6 Tryz.prog 171 [.one (.ow 0 0),.agg (ta at_),.one (.bool true),.one (.row (Gs l))] [.blk T (Hh c r0 r1)] [] [.blk T (Hh ⟨at_,ws,c.ev⟩ r0 r1)]:=by
 have cs:=Qto (l:=l) (λx hx=>Dp.pb (hl x hx).dp) (by omega);have cl:=L9 (b:=at_) (l:=[]) ha.tb (λt ht=>by cases ht) (by decide) rfl;obtain ⟨h1,h2⟩:=Qcg h;have hs:(Gm l).length=l.length:=C4 l;refine Gk Tryz.func171 rfl ?_;refine go tt [.o 8 167 18,.c [] cs] rfl trivial ?_;refine lp (S:=Nat) 3 (λL1 i=>(15,.v (.one (.int .i64 (i:Int))))::(8,.v (.one (.orow 2 18 none)))::L1) (λi=>[.blk T (Hh c r0 r1),.blk 74 (ta at_),.row false 167 18 (A3 (ws.take i))]) (λi=>ws.length-i) (λi=>i<=ws.length) 0 (Qi _) rfl (λ_ _=>rfl) rfl λi hi=>?_
 by_cases hlt:i<ws.length
 ·obtain ⟨x,hx⟩:=gxE (l:=(Gm l)) (i:=i) (by omega);obtain ⟨w,hw,hw'⟩:=h2 i x hx;have hm:∀ y∈[wl w],y.length=18:=λy hy=>by rw [Qp.1 hy]; rfl
  have hlt':decide ((i:Int)<((Gs (Gm l)).length:Int))=true:=by simp [Gs]; omega
  have ck:=Zad (T:=T) (r0:=r0) (r1:=r1) hc (hl x (Qe1 (Qc hx))) ha hw;have hg:=Qe8 hw';obtain ⟨wc,wk,wf⟩:=w;cases wf <;> (refine go tt [.t hlt',.x (Qa8 hx),.t rfl,.c [0] ck,.s (sz:=18) hm] rfl (by simp [Ua,Nc]; omega) ?_; exact rd (i+1) (by omega) hlt (by rw [hg]; rfl))
 ·obtain rfl:i=ws.length:=by omega
  rw [Za];have hge:decide ((ws.length:Int)<((Gs (Gm l)).length:Int))=false:=by simp [Gs]; omega
  exact ed tt [] [0] [.f hge,.p 2,.c [] cl] rfl trivial
theorem Zae {T:Nat} {r0:List (List LV)} {r1:List (List LV)×List (List LV)} {at_:Tm} {l:List Ct} (ha:Va at_) (hl:∀ x∈l,Cp x.p) (hn:l.length≤1000):G6 Tryz.prog 171 [.one (.ow 0 0),.agg (ta at_),.one (.bool false),.one (.row (Gs l))] [.blk T (Q4n (.row r0) (.row r1.1,.row r1.2))] [] [.blk T (Hh ⟨at_,(Gm l).map fresh,0⟩ r0 r1)]:=by
 have cs:=Qto (l:=l) (λx hx=>Dp.pb (hl x hx).dp) (by omega);have cl:=L9 (b:=at_) (l:=[]) ha.tb (λt ht=>by cases ht) (by decide) rfl;have hs:(Gm l).length=l.length:=C4 l;refine Gk Tryz.func171 rfl ?_;refine go tt [.o 8 167 18,.c [] cs] rfl trivial ?_;refine lp (S:=Nat) 3 (λL1 i=>(15,.v (.one (.int .i64 (i:Int))))::(8,.v (.one (.orow 2 18 none)))::L1) (λi=>[.blk T (Q4n (.row r0) (.row r1.1,.row r1.2)),.blk 74 (ta at_),.row false 167 18 (A3 (((Gm l).map fresh).take i))]) (λi=>l.length-i) (λi=>i<=l.length) 0 (Qi _) rfl (λ_ _=>rfl) rfl λi hi=>?_
 by_cases hlt:i<l.length
 ·obtain ⟨x,hx⟩:=gxE (l:=(Gm l)) (i:=i) (by omega);have hm:∀ y∈[wl (fresh x)],y.length=18:=λy hy=>by rw [Qp.1 hy]; rfl
  have hlt':decide ((i:Int)<((Gs (Gm l)).length:Int))=true:=by simp [Gs]; omega
  have hg:=Qe8 (l:=(Gm l).map fresh) (i:=i) (w:=fresh x) (by rw [Q5,hx]; rfl);refine go tt [.t hlt',.x (Qa8 hx),.z 20,.f rfl,.s (sz:=18) hm] rfl (by simp [Ua,Nc]; omega) ?_;exact rd (i+1) (by omega) hlt (by rw [hg]; rfl)
 ·obtain rfl:i=l.length:=by omega
  rw [Qm (by simp; omega)];have hge:decide ((l.length:Int)<((Gs (Gm l)).length:Int))=false:=by simp [Gs]; omega
  exact ed tt [] [0] [.f hge,.p 2,.c [] cl] rfl trivial
theorem Qz0 {T:Nat} {r0:List (List LV)} {r1:List (List LV)×List (List LV)} {at_:Tm} {l:List Ct} (ha:Va at_) (hl:∀ x∈l,Cp x.p) (hn:l.length≤1000):G6 Tryz.prog 130 [.one (.ow 0 0),.agg (ta at_),.one (.row (Gs l))] [.blk T (Q4n (.row r0) (.row r1.1,.row r1.2))] [] [.blk T (Hh ⟨at_,(Gm l).map fresh,0⟩ r0 r1)]:=by
 have cl:=Zae (T:=T) (r0:=r0) (r1:=r1) ha hl hn;refine Gk Tryz.func130 rfl ?_;exact ed tt [] [0] [.g 12 false rfl,.c [0] cl] rfl trivial
theorem Zag {T:Nat} {c:Cr} {r0:List (List LV)} {r1:List (List LV)×List (List LV)} {ws:List Wt} (hc:CrOk c) (h:Nk c.now c.l=some ws):G6 Tryz.prog 88 [.one (.ow 0 0)] [.blk T (Hh c r0 r1)] [] [.blk T (Hh { c with l:=ws } r0 r1)]:=by
 have hk:=hc.k;have hw:=Nc c.l;obtain ⟨h1,h2⟩:=Qab h;refine Gk Tryz.func88 rfl ?_;refine go tt [.o 2 167 18,.c [0] (Qtq hc.n)] rfl trivial ?_;refine lp (S:=Nat) 3 (λL1 i=>(13,.v (.one (.int .i64 (i:Int))))::(2,.v (.one (.orow 1 18 none)))::L1) (λi=>[.blk T (Hh c r0 r1),.row false 167 18 (A3 (ws.take i)),.blk 74 (ta c.now)]) (λi=>c.l.length-i) (λi=>i<=c.l.length) 0 (Qi _) rfl (λ_ _=>rfl) rfl λi hi=>?_
 by_cases hlt:i<c.l.length
 ·obtain ⟨w,hx⟩:=gxE (l:=c.l) (i:=i) hlt;obtain ⟨v,hv,h3⟩:=h2 i w hx;have hm:∀ y∈[wl v],y.length=18:=λy hy=>by rw [Qp.1 hy]; rfl
  have hg:=Qe8 hv;have hl:decide ((i:Int)<((A3 c.l).length:Int))=true:=by simp [hw]; omega
  rcases h3 with ⟨k1,rfl⟩ | ⟨k1,r,k2,rfl⟩
  ·obtain ⟨vc,vk,vf⟩:=v;cases vf <;> (refine go tt [.t hl,.x (Rx hx),.f (by rw [show vk=true from k1]; rfl),.s (sz:=18) hm] rfl (by simp [Ua,Nc]; omega) ?_; exact rd (i+1) (by omega) hlt (by rw [hg]; rfl))
  ·have cg:=Q2u (hc.l w (Qc hx)).p hc.n k2;obtain ⟨wc,wk,wf⟩:=w;cases r <;> cases wf <;> (refine go tt [.t hl,.x (Rx hx),.t (by rw [show wk=false from k1]; rfl),.c [] cg,.s (sz:=18) hm] rfl (by simp [Ua,Nc]; omega) ?_; exact rd (i+1) (by omega) hlt (by rw [hg]; rfl))
 ·obtain rfl:i=c.l.length:=by omega
  rw [<-h1,Za];exact ed tt [1] [0] [.f (by simp [hw,h1])] rfl trivial
theorem Qmt {T:Nat} {c:Cr} {r0:List (List LV)} {r1:List (List LV)×List (List LV)} {ws:List Wt} {r:Option Tm} (hc:CrOk c) (h:Nk c.now c.l=some ws) (hr:Qi1 ws=some r):G6 Tryz.prog 24 [.one (.ow 0 0)] [.blk T (Hh c r0 r1)] [.agg (ota r),.one (.bool r.isSome)] [.blk T (Hh { c with l:=ws } r0 r1)]:=by
 have hcl:=Zag (T:=T) (r0:=r0) (r1:=r1) hc h;have hc':=Qac hc h;have hk:=hc'.k;have hw:=Nc ws;have hvb:∀ t∈ws.filterMap (·.fails),Tb t:=λt ht=>by
  obtain ⟨w,w1,w2⟩:=Jj.1 ht;exact ((hc'.l w w1).f t w2).tb
 refine Gk Tryz.func24 rfl ?_;refine go tt [.c [0] hcl,.o 4 74 9] rfl trivial ?_;refine lp (S:=Nat) 3 (λL1 i=>(14,.v (.one (.int .i64 (i:Int))))::(4,.v (.one (.orow 2 9 none)))::L1) (λi=>[.blk T (Hh { c with l:=ws } r0 r1),.blk 74 zTm,.row false 74 9 (tal ((ws.take i).filterMap (·.fails)))]) (λi=>ws.length-i) (λi=>i<=ws.length) 0 (Qi _) rfl (λ_ _=>rfl) rfl λi hi=>?_
 by_cases hlt:i<ws.length
 ·obtain ⟨w,hx⟩:=gxE (l:=ws) (i:=i) hlt;have hl:decide ((i:Int)<((A3 ws).length:Int))=true:=by simp [hw]; omega
  have hfl:((ws.take i).filterMap (·.fails)).length<=i:=Qa (V8 _ _) (by rw [Qq]; omega);have hg:(ws.take (i+1)).filterMap (·.fails)=(ws.take i).filterMap (·.fails)++(match w.fails with | none=>[] | some t=>[t]):=by
   rw [Xa,hx,List.filterMap_append];show _++List.filterMap (·.fails) [w]=_;cases hwf:w.fails <;> simp [hwf]
  obtain ⟨wc,wk,wf⟩:=w;have hk:ws.length<=1000:=hk;cases wf with
  |
   none =>
   refine go tt [.t hl,.x (Rx hx),.f rfl] rfl (by simp [Ua]; omega) ?_;exact rd (i+1) (by omega) hlt (by rw [hg]; simp; rfl)
  |
   some t =>
   refine go tt [.t hl,.x (Rx hx),.t rfl,.s (l:=[ta t]) (sz:=9) (λc hc=>by rw [Qp.1 hc]; rfl)] rfl (by simp [Ua]; omega) ?_;exact rd (i+1) (by omega) hlt (by rw [hg]; simp [tal]; rfl)
 ·obtain rfl:i=ws.length:=by omega
  rw [Za];have hf:decide ((ws.length:Int)<((A3 ws).length:Int))=false:=by simp [hw]
  have hln:(ws.filterMap (·.fails)).length<=1000:=Qa (V8 _ _) hk;unfold Qi1 at hr;cases hfm:ws.filterMap (·.fails) with
  |
   nil =>
   rw [hfm] at hr;injection hr with hr; subst hr;exact ed tt [] [0] [.f hf,.p 2,.c [] Q2x] rfl trivial
  |
   cons b l =>
   rw [hfm] at hr hvb hln;obtain ⟨m,m1,rfl⟩:=Vd.1 hr;have cl:=L9 (hvb b (Qt ..)) (λt ht=>hvb t (Ql _ ht)) (by simp at hln; omega) m1;exact ed tt [] [0] [.f hf,.p 2,.c [] cl] rfl trivial
theorem Zi0 {T:Nat} {t:Rat} {Bc:Tm->List Ct} {Br:Tm->List (List LV)×List (List LV)} {r0:List (List LV)} (ht:Qs 400000 t) (hB:BuildOk Bc)
 (hb:∀ a c r1,Va a->CrOk c->G6 Tryz.prog 103 [.one (.ow 0 0),.agg (ta a)] [.blk T (Hh c r0 r1)] [.one (.row (Gs (Bc a)))] [.blk T (Hh c r0 (Br a))])
 {K:Nat} {c c':Cr} {r1 r1':List (List LV)×List (List LV)} {n:Int} (hc:CrOk c) (hev:0<=c.ev/\c.ev+K<=1000000000000000000) (h:Up c.now t<=0) (hg:goF Bc Br t K c r1 0=some (c',r1',n)) :
 G6 Tryz.prog 97 [.one (.ow 0 0),.agg (rl t),.one (.ofn 103 [.ow 0 0] [])] [.blk T (Hh c r0 r1)] [.one (.int .i64 n),.one (.int .i64 0)] [.blk T (Hh c' r0 r1')]:=by
 have qt:Qb t:=ht.mono (by decide);have c1:=Qhg hc.n.tb qt;refine Gk Tryz.func97 rfl ?_;refine go tt [.c [0] (Qtq hc.n),.c [] c1,.f (by simpa using h)] rfl trivial ?_;refine lp (S:=Nat×Cr×(List (List LV)×List (List LV))×Int) 2 (λL1 s=>(8,.v (.one (.int .i64 s.2.2.2)))::L1) (λs=>[.blk T (Hh s.2.1 r0 s.2.2.1),.blk 72 (rl t)]) (λs=>s.1) (λs=>CrOk s.2.1/\(0<=s.2.1.ev/\s.2.1.ev+s.1<=1000000000000000000)/\(0<=s.2.2.2/\s.2.2.2+s.1<=1000000000000000000)/\goF Bc Br t s.1 s.2.1 s.2.2.1 s.2.2.2=some (c',r1',n)) (K,c,r1,0) ⟨hc,hev,⟨Int.le_refl 0,by dsimp only; omega⟩,hg⟩ rfl (λ_ _=>rfl) rfl λ⟨k,x,r,m⟩ ⟨j1,j2,j3,j4⟩=>?_
 dsimp only at j1 j2 j3 j4 ⊢;cases k with
 | zero=>cases j4
 |
  succ k =>
  simp only [goF] at j4;obtain ⟨ws,w1,j4⟩:=Qe.1 j4;obtain ⟨o,o1,j4⟩:=Qe.1 j4;have cn:=Qmt (T:=T) (r0:=r0) (r1:=r) j1 w1 o1;have ca:=Zed (Ud t.num) (Ud (t.den:Int)) (Qa ht.1 (by decide)) (Qa ht.2 (by decide)) (by rw [Au]; exact ht.mono (by decide));rw [Au] at ca;cases o with
  |
   none =>
   injection j4 with j4; injection j4 with e1 j4; injection j4 with e2 e3;subst e1; subst e2; subst e3;exact ed tt [] [0] [.c [0] cn,.g 25 true rfl,.t rfl,.c [] ca] rfl trivial
  |
   some a =>
   have ha:=Zg6 j1 w1 o1;dsimp only at j4;have cc:=Qhg ha.tb qt;by_cases h0:0<Up a t
   ·rw [if_pos h0] at j4;injection j4 with j4; injection j4 with e1 j4; injection j4 with e2 e3;subst e1; subst e2; subst e3;exact ed tt [] [0] [.c [0] cn,.g 25 false rfl,.c [] cc,.t (by simpa using h0),.c [] ca] rfl trivial
   ·rw [if_neg h0] at j4;obtain ⟨w2,l1,j4⟩:=Qe.1 j4;have j1':=Qac j1 w1;have cl:=L9 (b:=a) (l:=[]) ha.tb (λt ht=>by cases ht) (by decide) rfl;have cb:=hb a { x with l:=ws } r ha j1';have cy:=Zaf (T:=T) (r0:=r0) (r1:=Br a) j1' ha (hB.p a ha) (hB.n a ha) l1;have hf:decide (0<Up a t)=false:=by simpa using h0
    refine go tt [.c [0] cn,.g 25 false rfl,.c [] cc,.f hf,.c [] cl,.c [0] cb,.c [0] cy] rfl (by simp [Ua]; omega) ?_;exact rd (k,⟨a,w2,x.ev+1⟩,Br a,m+1) (by dsimp only; omega) ⟨lay_ok _ j1' ha (hB.p a ha) (hB.n a ha) l1,by dsimp only; omega,by dsimp only; omega,j4⟩ rfl
theorem Qkh {T:Nat} {c:Cr} {r0:List (List LV)} {r1:List (List LV)×List (List LV)}:G6 Tryz.prog 34 [.one (.ow 0 0)] [.blk T (Hh c r0 r1)] [.one (.int .i64 c.ev)] [.blk T (Hh c r0 r1)]:=by
 refine Gk Tryz.func34 rfl ?_;exact ed tt [] [0] [] rfl trivial
end Orr
namespace Orr
open Go
def Qd1 (q:List Int->Int) (a b:Pt):Pt×Pt:=if Pu q a b=true then (a,b) else (b,a)
def Er (q:List Int->Int):Nat->List Pt->List Pt×List (Pt×Pt)
 | 0,l=>(l,[])
 |
  k+1,l=>if l.length<2 then (l,[]) else
  match (Er q k (l.take ((l.length+1) / 2))).1,(Er q k (l.drop ((l.length+1) / 2))).1 with
  | a::_,b::_=>([(Qd1 q a b).1],(Er q k (l.take ((l.length+1) / 2))).2++(Er q k (l.drop ((l.length+1) / 2))).2++[Qd1 q a b])
  | _,_=>([],[])
theorem Nv (q:List Int->Int):∀ (k:Nat) (l:List Pt),l.length<=k->Er q k l=Er q l.length l
 | 0,l,h=>by rw [show l.length=0 by omega]
 |
  k+1,l,h=>by
  cases hl:l.length with
  | zero=>simp [Er,hl]
  |
   succ m =>
   simp only [Er];by_cases h2:l.length<2
   ·rw [if_pos h2,if_pos h2]
   ·rw [if_neg h2,if_neg h2];have h3:(l.take ((l.length+1) / 2)).length<=m:=by rw [Qq]; omega
    have h4:(l.drop ((l.length+1) / 2)).length<=m:=by rw [Z9]; omega
    rw [Nv q k (l.take ((l.length+1) / 2)) (by omega),Nv q k (l.drop ((l.length+1) / 2)) (by omega),Nv q m (l.take ((l.length+1) / 2)) h3,Nv q m (l.drop ((l.length+1) / 2)) h4]
termination_by k=>k
def Su (q:List Int->Int) (l:List Pt):List Pt×List (Pt×Pt):=Er q l.length l
theorem S4 (q:List Int->Int) {l:List Pt} (h:l.length<2):Su q l=(l,[]):=by
 unfold Su;cases hl:l.length with
 | zero=>rfl
 | succ m=>simp only [Er]; rw [if_pos h]
theorem Cy (q:List Int->Int) {l:List Pt} (h:¬l.length<2) {a b:Pt} (ha:(Su q (l.take ((l.length+1) / 2))).1=[a]) (hb:(Su q (l.drop ((l.length+1) / 2))).1=[b]) :
 Su q l=([(Qd1 q a b).1],(Su q (l.take ((l.length+1) / 2))).2++(Su q (l.drop ((l.length+1) / 2))).2++[Qd1 q a b]):=by
 unfold Su at ha hb ⊢;obtain ⟨m,hm⟩:∃ m,l.length=m+1:=⟨l.length-1,by omega⟩;have h3:(l.take ((l.length+1) / 2)).length<=m:=by rw [Qq]; omega
 have h4:(l.drop ((l.length+1) / 2)).length<=m:=by rw [Z9]; omega
 rw [<-Nv q m _ h3] at ha ⊢;rw [<-Nv q m _ h4] at hb ⊢;rw [show Er q l.length l=Er q (m+1) l by rw [hm]];simp only [Er];rw [if_neg h,ha,hb]
theorem Tt (q:List Int->Int):∀ (k:Nat) (l:List Pt),l.length≤k->0<l.length->∃ a,(Su q l).1=[a]/\a∈l/\∀ m∈(Su q l).2,m.1∈l/\m.2∈l
 | 0,l,h,h0=>by omega
 |
  k+1,l,h,h0=>by
  by_cases h2:l.length<2
  ·rw [S4 q h2]
   match l,h0,h2 with
   | [a],_,_=>exact ⟨a,rfl,by simp,by simp⟩
  ·obtain ⟨a,ha,hal,ham⟩:=Tt q k (l.take ((l.length+1) / 2)) (by rw [Qq]; omega) (by rw [Qq]; omega);obtain ⟨b,hb,hbl,hbm⟩:=Tt q k (l.drop ((l.length+1) / 2)) (by rw [Z9]; omega) (by rw [Z9]; omega);rw [Cy q h2 ha hb];have hd:(Qd1 q a b).1∈l/\(Qd1 q a b).2∈l:=by
    unfold Qd1; split
    ·exact ⟨Qk hal,Qz hbl⟩
    ·exact ⟨Qz hbl,Qk hal⟩
   refine ⟨_,rfl,hd.1,λm hm=>?_⟩;rcases Q0.1 hm with hm | hm
   ·rcases Q0.1 hm with hm | hm
    ·exact ⟨Qk (ham m hm).1,Qk (ham m hm).2⟩
    ·exact ⟨Qz (hbm m hm).1,Qz (hbm m hm).2⟩
   ·rw [Qp.1 hm]; exact hd
theorem Rz (q:List Int->Int):∀ (k:Nat) (l:List Pt),l.length<=k->(Su q l).2.length<=l.length-1
 | 0,l,h=>by rw [S4 q (by omega)]; simp
 |
  k+1,l,h=>by
  by_cases h2:l.length<2
  ·rw [S4 q h2]; simp
  ·obtain ⟨a,ha,_⟩:=Tt q l.length (l.take ((l.length+1) / 2)) (by rw [Qq]; omega) (by rw [Qq]; omega);obtain ⟨b,hb,_⟩:=Tt q l.length (l.drop ((l.length+1) / 2)) (by rw [Z9]; omega) (by rw [Z9]; omega);rw [Cy q h2 ha hb];have h3:=Rz q k (l.take ((l.length+1) / 2)) (by rw [Qq]; omega);have h4:=Rz q k (l.drop ((l.length+1) / 2)) (by rw [Z9]; omega);rw [Qq] at h3;rw [Z9] at h4;simp only [Q8,Yu];omega
abbrev Qf9 (m:Pt×Pt):List LV:=[pl m.1.c.x,pl m.1.c.y,sg m.1.c.d,mg m.1.c.d,.int .i64 m.1.id,pl m.2.c.x,pl m.2.c.y,sg m.2.c.d,mg m.2.c.d,.int .i64 m.2.id]
end Orr
namespace Orq
open Orr Go
def Qch (q:Rat) (x y:Pt):Prop:=py y q<py x q\/py y q=py x q/\(px y q<px x q\/px y q=px x q/\x.id<y.id)
theorem Q59 (q:Rat) (x:Pt):¬Qch q x x:=by unfold Qch; grind
theorem Zby (q:Rat) (x y z:Pt) (h:Qch q x y) (h':Qch q y z):Qch q x z:=by unfold Qch at *; grind
theorem Q6a {q:Rat} {x y:Pt} (h:x.id≠y.id) (h':¬Qch q x y):Qch q y x:=by unfold Qch at *; grind
theorem Qzu {a:Tm} (ha:Va a) {x y:Pt} (hx:Sc x.c) (hy:Sc y.c) {q:Rat} (h1:B6 (Re a) (Gw y.c x.c)=Uo (Ug (Gw y.c x.c) q)) (h2:B6 (Re a) (He y.c x.c)=Uo (Ug (He y.c x.c) q)):Pu (Re a) x y=true↔Qch q x y:=by
 rw [Q1p hy hx] at h1;rw [Q1q hy hx] at h2;have d1:=(Iv hy hx).dp;have d2:=(Iw hy hx).dp;unfold Pu;simp only [Lt];have t1:=Ff (py x q-py y q);have t2:=Ff (px x q-px y q);by_cases e1:(Gw y.c x.c).length=0
 ·rw [if_neg (by omega)];rw [Qh e1,Qim] at h1;have:py x q=py y q:=by grind
  by_cases e2:(He y.c x.c).length=0
  ·rw [if_neg (by omega)];rw [Qh e2,Qim] at h2;unfold Qch;simp only [decide_eq_true_eq];grind
  ·rw [if_pos (by omega)];have:=(Qca ha d2 e2).2;unfold Qch;simp only [decide_eq_true_eq];grind
 ·rw [if_pos (by omega)];have:=(Qca ha d1 e1).2;unfold Qch;simp only [decide_eq_true_eq];grind
theorem Qps {l:List Pt} (hl:∀ p∈l,Sc p.c) {a:Tm} (ha:Va a):∃ y,Up a y=-1/\∀ q,Up a q=-1->q≤y->∀ u∈l,∀ v∈l,(Pu (Re a) u v=true↔Qch q u v):=by
 obtain ⟨y,y1,y2⟩:=Qqt ha (Qjz l) λp hp=>(Qmo hl p hp).dp
 refine ⟨y,y1,λq q1 q2 u hu v hv=>?_⟩;have h:=y2 q q1 q2;exact Qzu ha (hl u hu) (hl v hv) (h _ (L8 hv hu).2) (h _ (L8 hv hu).1)
theorem Qus {a b:Tm} {x y:Pt} (h:B6 (Re b) (Pn x y)=B6 (Re a) (Pn x y)):Pu (Re b) x y=Pu (Re a) x y:=by
 unfold Pn Lm at h;unfold Pu;simp only [Lt];by_cases e1:0<(Gw y.c x.c).length
 ·rw [if_pos e1,if_pos e1]; rw [if_pos e1] at h; rw [h]
 ·rw [if_neg e1,if_neg e1]; rw [if_neg e1] at h; rw [h]
theorem Quh {l:List Pt} {k:Nat} (h2:¬l.length<2) (hk:l.length<=k+1):(l.take ((l.length+1) / 2)).length<=k/\(l.drop ((l.length+1) / 2)).length<=k/\0<(l.take ((l.length+1) / 2)).length/\0<(l.drop ((l.length+1) / 2)).length:=by
 rw [Qq,Z9]; omega
theorem Qet {sa sb:List Int->Int}:∀ (k:Nat) (l:List Pt),l.length≤k->l.Pairwise (λx y=>x.id≠y.id)->(∀ u∈l,∀ v∈l,u.id≠v.id->Pu sa u v=false->Pu sa v u=true)->(∀ u∈l,∀ v∈l,Pu sb v u=true->Pu sb u v=false)->(∀ m∈(Su sa l).2,Pu sb m.1 m.2=Pu sa m.1 m.2)->Su sb l=Su sa l
 | 0,l,hk,_,_,_,_=>by rw [S4 _ (by omega),S4 _ (by omega)]
 |
  k+1,l,hk,hd,h1,h2,hm=>by
  by_cases hs:l.length<2
  ·rw [S4 _ hs,S4 _ hs]
  ·obtain ⟨k1,k2,k3,k4⟩:=Quh hs hk;obtain ⟨a,ha,hal,_⟩:=Tt sa k (l.take ((l.length+1) / 2)) k1 k3;obtain ⟨b,hb,hbl,_⟩:=Tt sa k (l.drop ((l.length+1) / 2)) k2 k4;have hpl:=Cy sa hs ha hb;rw [hpl] at hm;have hd':=hd;rw [<-Q9 ((l.length+1) / 2) l] at hd';obtain ⟨d1,d2,d3⟩:=Yd.1 hd';have i1:=Qet k _ k1 d1 (λu hu v hv=>h1 u (Qk hu) v (Qk hv)) (λu hu v hv=>h2 u (Qk hu) v (Qk hv)) λm hm'=>hm m (by simp [hm'])
   have i2:=Qet k _ k2 d2 (λu hu v hv=>h1 u (Qz hu) v (Qz hv)) (λu hu v hv=>h2 u (Qz hu) v (Qz hv)) λm hm'=>hm m (by simp [hm'])
   have hal':=Qk hal;have hbl':=Qz hbl;have e:Qd1 sb a b=Qd1 sa a b:=by
    have hmem:=hm (Qd1 sa a b) (by simp);unfold Qd1 at hmem ⊢;by_cases h:Pu sa a b=true
    ·rw [if_pos h] at hmem ⊢;rw [if_pos (hmem.trans h)]
    ·rw [if_neg h] at hmem ⊢;have h:Pu sa a b=false:=by simpa using h
     have:=h2 a hal' b hbl' (hmem.trans (h1 a hal' b hbl' (d3 a hal b hbl) h));rw [if_neg (by simp [this])]
   rw [hpl,Cy sb hs (by rw [i1]; exact ha) (by rw [i2]; exact hb),i1,i2,e]
end Orq
namespace Orr
open Orq Go
def bcT (l:List Pt) (a:Tm):List Ct:=(Su (Re a) l).2.map λm=>Gv (Re a) m.1 m.2
def brT (l:List Pt) (a:Tm):List (List LV)×List (List LV):=((Su (Re a) l).1.map Hw,(Su (Re a) l).2.map Qf9)
theorem Bu {sg:List Int->Int} {l:List Pt}:∀ m∈(Su sg l).2,m.1∈l/\m.2∈l:=λm hm=>by
 by_cases h:0<l.length
 ·obtain ⟨_,_,_,h3⟩:=Tt sg l.length l (Qj _) h;exact h3 m hm
 ·rw [S4 _ (by omega)] at hm; cases hm
theorem Zff {l:List Pt} (hl:∀ p∈l,Sc p.c) {a:Tm}:∀ x∈bcT l a,Cp x.p:=λx hx=>by
 obtain ⟨m,hm,rfl⟩:=Zg.1 hx;obtain ⟨h1,h2⟩:=Bu m hm;exact Qkt (Iv (hl _ h2) (hl _ h1)) (Iw (hl _ h2) (hl _ h1))
theorem Qs9 {l:List Pt} (hl:∀ p∈l,Sc p.c) (hn:l.length≤1000):BuildOk (bcT l) :=
 ⟨λa _=>Zff hl,λa _=>by
  unfold bcT; rw [List.length_map];have:=Rz (Re a) l.length l (Qj _); omega⟩
theorem Q9u {l:List Pt} {a:Tm}:∀ x∈bcT l a,x.p∈Qjz l:=λx hx=>by
 obtain ⟨m,hm,rfl⟩:=Zg.1 hx;obtain ⟨h1,h2⟩:=Bu m hm;show Pn m.1 m.2∈Qjz l;unfold Pn Lm; split
 ·exact (L8 h2 h1).2
 ·exact (L8 h2 h1).1
theorem Zka {l:List Pt} (hl:∀ p∈l,Sc p.c) (hn:l.length≤1000) (hd:l.Pairwise λx y=>x.id≠y.id):Stab (bcT l) (brT l):=by
 refine ⟨Qs9 hl hn,⟨Qjz l,Qmo hl,λa _ x hx=>?_⟩,λa b ha hb h=>?_⟩
 ·obtain ⟨m,hm,rfl⟩:=Zg.1 hx;obtain ⟨h1,h2⟩:=Bu m hm;show Pn m.1 m.2∈Qjz l;unfold Pn Lm; split
  ·exact (L8 h2 h1).2
  ·exact (L8 h2 h1).1
 ·obtain ⟨y,y1,y2⟩:=Qps hl ha;obtain ⟨z,z1,z2⟩:=Qps hl hb;have ga:=y2 y y1 Qn;have gb:=z2 z z1 Qn;have e:Su (Re b) l=Su (Re a) l:=Qet l.length l (Qj _) hd (λu hu v hv hne hf=>(ga v hv u hu).2 (Q6a hne λh=>by
   rw [(ga u hu v hv).2 h] at hf; cases hf)) (λu hu v hv ht=>by
   cases hb':Pu (Re b) u v
   ·rfl
   ·exact absurd (Zby z u v u ((gb u hu v hv).1 hb') ((gb v hv u hu).1 ht)) (Q59 z u)) λm hm=>Qus (h (Gv (Re a) m.1 m.2) (Zg.2 ⟨m,hm,rfl⟩))
  refine ⟨?_,by unfold brT; rw [e]⟩;unfold bcT;rw [e];refine Yy λm hm=>?_
  have:=h (Gv (Re a) m.1 m.2) (Zg.2 ⟨m,hm,rfl⟩);unfold Gv;rw [show B6 (Re b) (Pn m.1 m.2)=B6 (Re a) (Pn m.1 m.2) from this]
end Orr
namespace Orr
open Go Go.Proofs Orq
set_option maxRecDepth 10000
def Hg (l:List (Pt×Pt)):List (List LV):=l.map Qf9
theorem Qqm {l m:List (List LV)} (h:l=m):TV.one (LV.row l)=.one (.row m):=h ▸ rfl
theorem oz {P:Program} [Mo P] {n:Nat} {Q:Exit->Sg->List OB->Prop} {L L':Sg} {B B':List OB} (d off T sz:Nat) {it:List It} (hs:H4 it=true) (h:Q1c (P:=P) d L B [.oc d off T sz]=some (L',B',[],[])) (k:AK P n Q it L' B'):AK P n Q it L B:=AK.sub (Qoh h EqOk.nil) hs k
theorem Qws {a b:Pt} {t:Tm} (ha:Sc a.c) (hb:Sc b.c) (ht:Va t):Ub Tryz.prog 179 [.one (.int .i64 2),.agg (ta t),.one (.row [Hw a,Hw b])] [.agg (Qi2 (Gv (Re t) a b)),.one (.int .i64 0)]:=by
 have h1:=Iv hb ha;have h2:=Iw hb ha;refine Gk Tryz.func179 rfl ?_;refine go tt [.c [] Qz6,.f rfl] rfl trivial ?_;refine lp (S:=Nat) 3 (λL1 i=>(22,.v (.one (.int .i64 (i:Int))))::L1) (λi=>[.blk 74 (ta t),.blk 90 zCt,.blk 90 [.int .i64 2,.int .i64 (if 1<=i then a.id else 0),.int .i64 (if 2<=i then b.id else 0),.int .i64 0,.int .i64 0,.nils,.int .i64 0]]) (λi=>2-i) (λi=>i<=2) 0 (Qi _) rfl (λ_ _=>rfl) rfl λi hi=>?_
 rcases (show i=0\/i=1\/i=2 by omega) with rfl | rfl | rfl
 ·refine go tt [.t rfl,.x (i:=0) (xs:=Hw a) rfl,.i 0] rfl (by simp [Ua]) ?_;exact rd 1 (by omega) (by omega) rfl
 ·refine go tt [.t rfl,.x (i:=1) (xs:=Hw b) rfl,.i 1] rfl (by simp [Ua]) ?_;exact rd 2 (by omega) (by omega) rfl
 ·exact en tt [.f rfl,.f rfl,.t rfl,.x (i:=1) (xs:=Hw b) rfl,.x (i:=0) (xs:=Hw a) rfl,.c [] (Qwm hb.n ha.n hb.cb ha.cb),.x (i:=1) (xs:=Hw b) rfl,.x (i:=0) (xs:=Hw a) rfl,.c [] (Qwv hb.n ha.n hb.cb ha.cb),.c [] Q3n,.c [] (Zee (Qkt h1 h2).dp ht)] rfl rfl trivial
theorem Q3g {a:Tm} (ha:Va a) {c:Cr} {r0 r1:List (List LV)}:∀ (k:Nat) (l:List Pt) (ms:List (Pt×Pt)),l.length≤k->l.length≤1000->ms.length+l.length≤1000000->(∀ p∈l,Sc p.c)->G6 Tryz.prog 180 [.one (.ow 0 0),.agg (ta a),.one (pts l)] [.blk 112 [.bool true,pl c.now.p,sg c.now.lo.num,mg c.now.lo.num,sg (c.now.lo.den:Int),mg (c.now.lo.den:Int),sg c.now.hi.num,mg c.now.hi.num,sg (c.now.hi.den:Int),mg (c.now.hi.den:Int),.row (A3 c.l),.int .i64 c.ev,.row r0,.row r1,.orow 1 10 none],.row false 254 10 (Hg ms)] [.one (.row (Uq (Su (Re a) l).1))] [.blk 112 [.bool true,pl c.now.p,sg c.now.lo.num,mg c.now.lo.num,sg (c.now.lo.den:Int),mg (c.now.lo.den:Int),sg c.now.hi.num,mg c.now.hi.num,sg (c.now.hi.den:Int),mg (c.now.hi.den:Int),.row (A3 c.l),.int .i64 c.ev,.row r0,.row r1,.orow 1 10 none],.row false 254 10 (Hg (ms++(Su (Re a) l).2))]
 := by
  intro k
  induction k with
  | zero=>?_
  | succ k ih=>?_
  all_goals
   intro l ms hk hn hms hl;have hcl:=Du l;show G6 Tryz.prog 180 [.one (.ow 0 0),.agg (ta a),.one (.row (Uq l))] _ _ _;by_cases hs:l.length<2
   ·rw [S4 _ hs,Xj];refine Gk Tryz.func180 rfl ?_;exact ed tt [] [0,1] [.t (by simp [hcl]; omega)] rfl trivial
   first
    | (exfalso; omega)
    |
     skip
     obtain ⟨k1,k2,k3,k4⟩:=Quh hs hk;obtain ⟨h,hh⟩:=nmE ((l.length+1) / 2);obtain ⟨u,hu,hul,_⟩:=Tt (Re a) k (l.take ((l.length+1) / 2)) k1 k3;obtain ⟨v,hv,hvl,_⟩:=Tt (Re a) k (l.drop ((l.length+1) / 2)) k2 k4;have g1:=Rz (Re a) _ (l.take ((l.length+1) / 2)) (Qj _);have g2:=Rz (Re a) _ (l.drop ((l.length+1) / 2)) (Qj _);have hlt:(l.take ((l.length+1) / 2)).length+(l.drop ((l.length+1) / 2)).length=l.length:=by rw [Qq,Z9]; omega
     have c1:=ih (l.take ((l.length+1) / 2)) ms k1 (by omega) (by omega) λp hp=>hl p (Qk hp)
     have c2:=ih (l.drop ((l.length+1) / 2)) (ms++(Su (Re a) (l.take ((l.length+1) / 2))).2) k2 (by omega) (by rw [Q8]; omega) λp hp=>hl p (Qz hp)
     have hpl:=Cy (Re a) hs hu hv;rw [hpl];rw [hu] at c1;rw [hv] at c2;generalize (Su (Re a) (l.take ((l.length+1) / 2))).2=G1 at *;generalize (Su (Re a) (l.drop ((l.length+1) / 2))).2=G2 at *;have hsu:=hl u (Qk hul);have hsv:=hl v (Qz hvl);have cb:=Qwn (t:=a) hsu hsv ha;have htd:((l.length:Int)+1).tdiv 2=(((l.length+1) / 2:Nat):Int):=rfl;have hg:∀ m,Hg (ms++(G1++G2++[m]))=Hg ((ms++G1)++G2)++[Qf9 m]:=λm=>by simp [Hg]
     have hml:(Hg ((ms++G1)++G2)).length=ms.length+G1.length+G2.length:=by simp [Hg]; omega
     have hml2:(Hg (ms++(G1++G2))).length=ms.length+G1.length+G2.length:=by simp [Hg]; omega
     have h5:=eq_true (p:=∀ z,z∈Uq l->z.length=ti135.sz) (Qzb l);have e1:(Uq l).take ((l.length+1) / 2)=Uq (l.take ((l.length+1) / 2)):=by simp [Uq,Jo]
     have e2:(Uq l).drop ((l.length+1) / 2)=Uq (l.drop ((l.length+1) / 2)):=by simp [Uq,Y0]
     unfold Qd1;refine Gk Tryz.func180 rfl ?_;by_cases hb:Pu (Re a) u v=true
     ·rw [if_pos hb,hg];exact ed tt [] [0,1] [.f (by simp [hcl]; omega),.r 17 (eI (b:=(((l.length+1) / 2:Nat):Int)) (by rw [hcl]; rfl)),.i ((l.length+1) / 2),.r 22 (Qqm e1),.c [0,1] c1,.i ((l.length+1) / 2),.r 28 (Qqm e2),.c [0,1] c2,.x (i:=0) (l:=Uq [u]) (xs:=Hw u) rfl,.x (i:=0) (l:=Uq [v]) (xs:=Hw v) rfl,.c [] cb,.f (by rw [hb]; rfl),.x (i:=0) (l:=Uq [u]) (xs:=Hw u) rfl,.x (i:=0) (l:=Uq [v]) (xs:=Hw v) rfl,.s (sz:=10) (l:=[Qf9 (u,v)]) (λc hc=>by rw [Qp.1 hc]; rfl),.i 1] rfl (by simp [Ua,Du,hml2,h5]; omega)
     ·have hb:Pu (Re a) u v=false:=by simpa using hb
      rw [if_neg (by simp [hb]),hg];exact ed tt [] [0,1] [.f (by simp [hcl]; omega),.r 17 (eI (b:=(((l.length+1) / 2:Nat):Int)) (by rw [hcl]; rfl)),.i ((l.length+1) / 2),.r 22 (Qqm e1),.c [0,1] c1,.i ((l.length+1) / 2),.r 28 (Qqm e2),.c [0,1] c2,.x (i:=0) (l:=Uq [u]) (xs:=Hw u) rfl,.x (i:=0) (l:=Uq [v]) (xs:=Hw v) rfl,.c [] cb,.t (by rw [hb]; rfl),.x (i:=0) (l:=Uq [v]) (xs:=Hw v) rfl,.x (i:=0) (l:=Uq [u]) (xs:=Hw u) rfl,.s (sz:=10) (l:=[Qf9 (v,u)]) (λc hc=>by rw [Qp.1 hc]; rfl),.i 1] rfl (by simp [Ua,Du,hml2,h5]; omega)
theorem Q3f {a:Tm} (ha:Va a) {r0:List (List LV)}:∀ (k:Nat) (l:List Pt) (ms:List (Pt×Pt)),l.length≤k->l.length≤1000->ms.length+l.length≤1000000->(∀ p∈l,Sc p.c)->G6 Tryz.prog 180 [.one (.ow 0 0),.agg (ta a),.one (pts l)] [.blk 112 [.bool false,.nils,.bool false,.nils,.bool false,.nils,.bool false,.nils,.bool false,.nils,.nils,.int .i64 0,.row r0,.nils,.orow 1 10 none],.row false 254 10 (Hg ms)] [.one (.row (Uq (Su (Re a) l).1))] [.blk 112 [.bool false,.nils,.bool false,.nils,.bool false,.nils,.bool false,.nils,.bool false,.nils,.nils,.int .i64 0,.row r0,.nils,.orow 1 10 none],.row false 254 10 (Hg (ms++(Su (Re a) l).2))]
 := by
  intro k
  induction k with
  | zero=>?_
  | succ k ih=>?_
  all_goals
   intro l ms hk hn hms hl;have hcl:=Du l;show G6 Tryz.prog 180 [.one (.ow 0 0),.agg (ta a),.one (.row (Uq l))] _ _ _;by_cases hs:l.length<2
   ·rw [S4 _ hs,Xj];refine Gk Tryz.func180 rfl ?_;exact ed tt [] [0,1] [.t (by simp [hcl]; omega)] rfl trivial
   first
    | (exfalso; omega)
    |
     skip
     obtain ⟨k1,k2,k3,k4⟩:=Quh hs hk;obtain ⟨h,hh⟩:=nmE ((l.length+1) / 2);obtain ⟨u,hu,hul,_⟩:=Tt (Re a) k (l.take ((l.length+1) / 2)) k1 k3;obtain ⟨v,hv,hvl,_⟩:=Tt (Re a) k (l.drop ((l.length+1) / 2)) k2 k4;have g1:=Rz (Re a) _ (l.take ((l.length+1) / 2)) (Qj _);have g2:=Rz (Re a) _ (l.drop ((l.length+1) / 2)) (Qj _);have hlt:(l.take ((l.length+1) / 2)).length+(l.drop ((l.length+1) / 2)).length=l.length:=by rw [Qq,Z9]; omega
     have c1:=ih (l.take ((l.length+1) / 2)) ms k1 (by omega) (by omega) λp hp=>hl p (Qk hp)
     have c2:=ih (l.drop ((l.length+1) / 2)) (ms++(Su (Re a) (l.take ((l.length+1) / 2))).2) k2 (by omega) (by rw [Q8]; omega) λp hp=>hl p (Qz hp)
     have hpl:=Cy (Re a) hs hu hv;rw [hpl];rw [hu] at c1;rw [hv] at c2;generalize (Su (Re a) (l.take ((l.length+1) / 2))).2=G1 at *;generalize (Su (Re a) (l.drop ((l.length+1) / 2))).2=G2 at *;have hsu:=hl u (Qk hul);have hsv:=hl v (Qz hvl);have cb:=Qwn (t:=a) hsu hsv ha;have htd:((l.length:Int)+1).tdiv 2=(((l.length+1) / 2:Nat):Int):=rfl;have hg:∀ m,Hg (ms++(G1++G2++[m]))=Hg ((ms++G1)++G2)++[Qf9 m]:=λm=>by simp [Hg]
     have hml:(Hg ((ms++G1)++G2)).length=ms.length+G1.length+G2.length:=by simp [Hg]; omega
     have hml2:(Hg (ms++(G1++G2))).length=ms.length+G1.length+G2.length:=by simp [Hg]; omega
     have h5:=eq_true (p:=∀ z,z∈Uq l->z.length=ti135.sz) (Qzb l);have e1:(Uq l).take ((l.length+1) / 2)=Uq (l.take ((l.length+1) / 2)):=by simp [Uq,Jo]
     have e2:(Uq l).drop ((l.length+1) / 2)=Uq (l.drop ((l.length+1) / 2)):=by simp [Uq,Y0]
     unfold Qd1;refine Gk Tryz.func180 rfl ?_;by_cases hb:Pu (Re a) u v=true
     ·rw [if_pos hb,hg];exact ed tt [] [0,1] [.f (by simp [hcl]; omega),.r 17 (eI (b:=(((l.length+1) / 2:Nat):Int)) (by rw [hcl]; rfl)),.i ((l.length+1) / 2),.r 22 (Qqm e1),.c [0,1] c1,.i ((l.length+1) / 2),.r 28 (Qqm e2),.c [0,1] c2,.x (i:=0) (l:=Uq [u]) (xs:=Hw u) rfl,.x (i:=0) (l:=Uq [v]) (xs:=Hw v) rfl,.c [] cb,.f (by rw [hb]; rfl),.x (i:=0) (l:=Uq [u]) (xs:=Hw u) rfl,.x (i:=0) (l:=Uq [v]) (xs:=Hw v) rfl,.s (sz:=10) (l:=[Qf9 (u,v)]) (λc hc=>by rw [Qp.1 hc]; rfl),.i 1] rfl (by simp [Ua,Du,hml2,h5]; omega)
     ·have hb:Pu (Re a) u v=false:=by simpa using hb
      rw [if_neg (by simp [hb]),hg];exact ed tt [] [0,1] [.f (by simp [hcl]; omega),.r 17 (eI (b:=(((l.length+1) / 2:Nat):Int)) (by rw [hcl]; rfl)),.i ((l.length+1) / 2),.r 22 (Qqm e1),.c [0,1] c1,.i ((l.length+1) / 2),.r 28 (Qqm e2),.c [0,1] c2,.x (i:=0) (l:=Uq [u]) (xs:=Hw u) rfl,.x (i:=0) (l:=Uq [v]) (xs:=Hw v) rfl,.c [] cb,.t (by rw [hb]; rfl),.x (i:=0) (l:=Uq [v]) (xs:=Hw v) rfl,.x (i:=0) (l:=Uq [u]) (xs:=Hw u) rfl,.s (sz:=10) (l:=[Qf9 (v,u)]) (λc hc=>by rw [Qp.1 hc]; rfl),.i 1] rfl (by simp [Ua,Du,hml2,h5]; omega)
theorem Qz2 {l:List Pt} {a:Tm} {c:Cr} {r1:List (List LV)×List (List LV)} (hl:∀ p∈l,Sc p.c) (hn:l.length≤1000) (ha:Va a):G6 Tryz.prog 103 [.one (.ow 0 0),.agg (ta a)] [.blk 112 (Hh c (Uq l) r1)] [.one (.row (Gs (bcT l a)))] [.blk 112 (Hh c (Uq l) (brT l a))]:=by
 have cp:=Q3g (r0:=Uq l) (c:=c) (r1:=r1.1) ha l.length l [] (Qj _) hn (by show 0+l.length≤1000000; omega) hl;have hms:=Rz (Re a) l.length l (Qj _);unfold bcT brT;obtain ⟨M,hM⟩:=nmE ((Su (Re a) l).2);have hmm:∀ m∈M,Sc m.1.c/\Sc m.2.c:=λm hm=>by
  rw [hM] at hm;exact ⟨hl _ (Bu m hm).1,hl _ (Bu m hm).2⟩
 rw [<-hM] at cp hms ⊢;rw [J0] at cp;have hgl:(Hg M).length=M.length:=by simp [Hg]
 refine Gk Tryz.func103 rfl ?_;refine go tt [] rfl trivial ?_;refine oz 0 14 254 10 rfl rfl ?_;refine go tt [.c [] Q2z,.c [0,2] cp,.o 5 90 7] rfl trivial ?_;refine lp (S:=Nat) 4 (λL1 i=>(29,.v (.one (.int .i64 (i:Int))))::(5,.v (.one (.orow 3 7 none)))::L1) (λi=>[.blk 112 [.bool true,pl c.now.p,sg c.now.lo.num,mg c.now.lo.num,sg (c.now.lo.den:Int),mg (c.now.lo.den:Int),sg c.now.hi.num,mg c.now.hi.num,sg (c.now.hi.den:Int),mg (c.now.hi.den:Int),.row (A3 c.l),.int .i64 c.ev,.row (Uq l),.row (Uq (Su (Re a) l).1),.orow 2 10 none],.blk 74 (ta a),.row false 254 10 (Hg M),.row false 90 7 (Gs ((M.map λm=>Gv (Re a) m.1 m.2).take i))]) (λi=>M.length-i) (λi=>i<=M.length) 0 (Qi _) rfl (λ_ _=>rfl) rfl λi hi=>?_
 by_cases hlt:i<M.length
 ·obtain ⟨m,hm⟩:=gxE (l:=M) (i:=i) hlt;obtain ⟨s1,s2⟩:=hmm m (Qc hm);have hg:(Hg M)[i]? = some (Qf9 m):=Ga hm;have hq:∀ y∈[Qi2 (Gv (Re a) m.1 m.2)],y.length=7:=λy hy=>by rw [Qp.1 hy]; rfl
  have ht:(M.map λm=>Gv (Re a) m.1 m.2).take (i+1)=(M.map λm=>Gv (Re a) m.1 m.2).take i++[Gv (Re a) m.1 m.2]:=by
   rw [Xa,Q5,hm]; rfl
  refine go tt [.t (decide_eq_true (by omega)),.i i,.x hg,.i 0,.i 1,.c [] (Qws s1 s2 ha),.s (sz:=7) hq] rfl (by simp [Ua,hgl,B5]; omega) ?_;exact rd (i+1) (by omega) hlt (by rw [ht]; simp [Gs]; rfl)
 ·obtain rfl:i=M.length:=by omega
  rw [Qm (by simp)];exact ed tt [2,3] [0] [.f (decide_eq_false (by omega))] rfl trivial
theorem Qz1 {l:List Pt} {a:Tm} (hl:∀ p∈l,Sc p.c) (hn:l.length≤1000) (ha:Va a):G6 Tryz.prog 103 [.one (.ow 0 0),.agg (ta a)] [.blk 112 (Q4n (.row (Uq l)) (.nils,.nils))] [.one (.row (Gs (bcT l a)))] [.blk 112 (Q4n (.row (Uq l)) (.row (brT l a).1,.row (brT l a).2))]:=by
 have cp:=Q3f (r0:=Uq l)  ha l.length l [] (Qj _) hn (by show 0+l.length≤1000000; omega) hl;have hms:=Rz (Re a) l.length l (Qj _);unfold bcT brT;obtain ⟨M,hM⟩:=nmE ((Su (Re a) l).2);have hmm:∀ m∈M,Sc m.1.c/\Sc m.2.c:=λm hm=>by
  rw [hM] at hm;exact ⟨hl _ (Bu m hm).1,hl _ (Bu m hm).2⟩
 rw [<-hM] at cp hms ⊢;rw [J0] at cp;have hgl:(Hg M).length=M.length:=by simp [Hg]
 refine Gk Tryz.func103 rfl ?_;refine go tt [] rfl trivial ?_;refine oz 0 14 254 10 rfl rfl ?_;refine go tt [.c [] Q2z,.c [0,2] cp,.o 5 90 7] rfl trivial ?_;refine lp (S:=Nat) 4 (λL1 i=>(29,.v (.one (.int .i64 (i:Int))))::(5,.v (.one (.orow 3 7 none)))::L1) (λi=>[.blk 112 [.bool false,.nils,.bool false,.nils,.bool false,.nils,.bool false,.nils,.bool false,.nils,.nils,.int .i64 0,.row (Uq l),.row (Uq (Su (Re a) l).1),.orow 2 10 none],.blk 74 (ta a),.row false 254 10 (Hg M),.row false 90 7 (Gs ((M.map λm=>Gv (Re a) m.1 m.2).take i))]) (λi=>M.length-i) (λi=>i<=M.length) 0 (Qi _) rfl (λ_ _=>rfl) rfl λi hi=>?_
 by_cases hlt:i<M.length
 ·obtain ⟨m,hm⟩:=gxE (l:=M) (i:=i) hlt;obtain ⟨s1,s2⟩:=hmm m (Qc hm);have hg:(Hg M)[i]? = some (Qf9 m):=Ga hm;have hq:∀ y∈[Qi2 (Gv (Re a) m.1 m.2)],y.length=7:=λy hy=>by rw [Qp.1 hy]; rfl
  have ht:(M.map λm=>Gv (Re a) m.1 m.2).take (i+1)=(M.map λm=>Gv (Re a) m.1 m.2).take i++[Gv (Re a) m.1 m.2]:=by
   rw [Xa,Q5,hm]; rfl
  refine go tt [.t (decide_eq_true (by omega)),.i i,.x hg,.i 0,.i 1,.c [] (Qws s1 s2 ha),.s (sz:=7) hq] rfl (by simp [Ua,hgl,B5]; omega) ?_;exact rd (i+1) (by omega) hlt (by rw [ht]; simp [Gs]; rfl)
 ·obtain rfl:i=M.length:=by omega
  rw [Qm (by simp)];exact ed tt [2,3] [0] [.f (decide_eq_false (by omega))] rfl trivial
end Orr
namespace Orq
open Orr Go
theorem Zh2 {a b:Tm} (ha:Cut (Up a)) (hb:Cut (Up b)) (h:¬Pj a b) (h':¬Pj b a):∀ q,Up a q=Up b q:=by
 rcases tri ha hb with h1 | h1 | h1
 ·exact absurd h1 h
 ·exact h1
 ·exact absurd h1 h'
theorem Zdq {a b b':Tm} (h:∀ q,Up b q=Up b' q):Pj a b↔Pj a b':=by
 unfold Pj; simp only [h]
theorem Q8w {a b b':Tm} (h:∀ q,Up b q=Up b' q):Pj b a↔Pj b' a:=by
 unfold Pj; simp only [h]
theorem Q6r {p:List Int} {a:Tm} (ha:Va a) {t t':Tm} (h:Td p a (some t)) (h':Td p a (some t')):∀ q,Up t q=Up t' q:=by
 obtain ⟨_,v,l,s,s0,h4,h5⟩:=h;obtain ⟨_,v',l',s',s0',h4',h5'⟩:=h';have es:s=s':=Qc5 (h4 _ ha.cut (λ_ h=>h) l) (h4' _ ha.cut (λ_ h=>h) l');refine Zh2 v.cut v'.cut (λhlt=>?_) λhlt=>?_
 ·have:=Qc5 (h4' _ v.cut (Qbe ha.cut v.cut (Qnz ha.cut v.cut l)) hlt) h5;omega
 ·have:=Qc5 (h4 _ v'.cut (Qbe ha.cut v'.cut (Qnz ha.cut v'.cut l')) hlt) h5';omega
theorem Qro {p:List Int} {a:Tm} (ha:Va a) {t:Tm} (h:Td p a (some t)) (h':Td p a none):False:=by
 obtain ⟨h1,v,l,s,s0,h4,h5⟩:=h;rcases h' with h' | ⟨s',s0',h'⟩
 ·exact h1 h'
 ·have e1:=Qc5 (h' _ ha.cut λ_ h=>h) (h4 _ ha.cut (λ_ h=>h) l);have e2:=Qc5 (h' _ v.cut (Qbe ha.cut v.cut (Qnz ha.cut v.cut l))) h5;omega
structure Quiet {β:Type} (Bc:Tm->List Ct) (Br:Tm->β) (a b:Tm):Prop where
 va:Va a
 vb:Va b
 le:¬Pj b a
 n:∀ x∈Bc a,∃ o,Td x.p a o/\∀ u,o=some u->Pj b u
section
variable {β:Type} {Bc:Tm->List Ct} {Br:Tm->β} (S:Stab Bc Br)
include S
theorem Quiet.same {a b:Tm} (h:Quiet Bc Br a b):Bc b=Bc a/\Br b=Br a:=by
 refine S.st a b h.va h.vb λx hx=>?_
 obtain ⟨o,o1,o2⟩:=h.n x hx;exact Qeb (S.ok.p _ h.va _ hx).dp h.va h.vb h.le o1 o2
end
theorem Zds {p:List Int} (h:Cp p):(tms p).length<=67:=by
 obtain ⟨l,l1,l2,_⟩:=Ox h;unfold tms; rw [l1]; exact l2
theorem Qzj:∀ {Ps:List (List Int)},(∀ p∈Ps,Cp p)->(Ps.flatMap tms).length≤67*Ps.length
 | [],_=>Qi _
 |
  p::Ps,h=>by
  have h1:=Zds (h p (by simp));have h2:=Qzj (Ps:=Ps) λq hq=>h q (Ql _ hq)
  rw [Kd,Q8,Zc]; omega
theorem Zjs (T:List Tm) (a:Tm):mu T a<=T.length:=List.length_filter_le _ _
theorem Zfc {β:Type} {Bc:Tm->List Ct} {Br:Tm->β} (S:Stab Bc Br) {Ps:List (List Int)} (hP:∀ p∈Ps,Cp p) (hPs:∀ a,Va a->∀ x∈Bc a,x.p∈Ps) (hl:Ps.length≤1000000) {t:Rat} (ht:Qs 400000 t) {c:Cr} {r:β} (hS:KSt Bc Br c r) (h:Up c.now t≤0) :
 ∃ (K:Nat) (c':Cr) (E:List Tm),K<=67000001/\goF Bc Br t K c r 0=some (c',Br (tq t),((E.length:Nat):Int))/\c'.now=tq t/\KSt Bc Br c' (Br (tq t))/\c'.ev=c.ev+((E.length:Nat):Int)/\E.length<=67000000/\Evs Bc t c.now E:=by
 have hm:=Qzj hP;have hmu:=Zjs (Ps.flatMap tms) c.now;have hv:=hS.inv.ok.n;obtain ⟨c',r',E,g1,g2,g3,g4,g5,g6⟩:=Zjd S ht hP hPs (mu (Ps.flatMap tms) c.now) c r 0 (Qj _) hS λh'=>by
  have:=(Is hv.cut).2 h'; omega
 have hr:r'=Br (tq t):=by rw [g3.r,g2]
 rw [hr] at g1 g3;rw [Int.zero_add] at g1;exact ⟨_,c',E,by omega,g1,g2,g3,g4,by omega,g6⟩
theorem Zfl {β:Type} {Bc:Tm->List Ct} {Br:Tm->β} (S:Stab Bc Br) {a:Tm} (ha:Va a):KSt Bc Br ⟨a,(Gm (Bc a)).map fresh,0⟩ (Br a):=by
 refine ⟨⟨⟨ha,λw hw=>?_,?_⟩,λw hw hk=>?_⟩,?_,rfl⟩
 ·obtain ⟨x,hx,rfl⟩:=Zg.1 hw;exact ⟨S.ok.p _ ha x (Qe1 hx),λt ht=>by cases ht⟩
 ·show ((Gm (Bc a)).map fresh).length<=1000;rw [Zd,C4]; exact S.ok.n _ ha
 ·obtain ⟨x,hx,rfl⟩:=Zg.1 hw;cases hk
 ·show ((Gm (Bc a)).map fresh).map (·.c)=Gm (Bc a);rw [List.map_map];show (Gm (Bc a)).map (λx=>x)=_;rw [List.map_id']
end Orq
namespace Orr
open Go Go.Proofs Orq
set_option maxRecDepth 10000
def Q2n (l:List Pt) (a:Tm):Cr:=⟨a,(Gm (bcT l a)).map fresh,0⟩
theorem Qwx {zs:List (List LV)} {qs l:List Pt} {x y x' y':LV} {n d:Int} (hz:IsPts 4294967294 1073741824 zs qs) (hq:qs.length≤6) (hnl:Tf [] qs=(l,0)) (hl:∀ p∈l,Sc p.c) (hn:l.length≤1000) (h1:Ho x y n) (h2:Ho x' y' d) (bn:Ul n≤4294967295) (bd:Ul d≤4294967295) (ht:Qs 400000 (Ft n d)) :
 G6 Tryz.prog 102 [.agg [x,y,x',y'],.one (.row zs)] [] [.one (.ow 0 0),.one (.int .i64 0)] [.blk 112 (Hh (Q2n l (tq (Ft n d))) (Uq l) (brT l (tq (Ft n d))))]:=by
 have cn:=Zit hz hq;rw [hnl] at cn;have co:=Zed h1 h2 bn bd (ht.mono (by decide));have hv:=Q10 ht;have hB:=Qs9 hl hn;have cb:=Qz1 hl hn hv;have cg:=Qz0 (T:=112) (r0:=Uq l) (r1:=brT l (tq (Ft n d))) hv (hB.p _ hv) (hB.n _ hv);obtain ⟨b,l1,rfl,rfl,_⟩:=h1;obtain ⟨b',l2,rfl,rfl,_⟩:=h2;refine Gk Tryz.func102 rfl ?_;exact ed tt [] [2] [.c [] cn,.f rfl,.c [] co,.c [2] cb,.c [2] cg] rfl trivial
theorem Qww {t:Rat} {l:List Pt} {K:Nat} {c c':Cr} {r1 r1':List (List LV)×List (List LV)} {n:Int} (ht:Qs 400000 t) (hl:∀ p∈l,Sc p.c) (hn:l.length≤1000) (hc:CrOk c) (hev:0≤c.ev/\c.ev+K≤1000000000000000000) (h:Up c.now t≤0) (hg:goF (bcT l) (brT l) t K c r1 0=some (c',r1',n)) :
 G6 Tryz.prog 39 [.one (.ow 0 0),.agg (rl t)] [.blk 112 (Hh c (Uq l) r1)] [.one (.int .i64 n),.one (.int .i64 0)] [.blk 112 (Hh c' (Uq l) r1')]:=by
 have cg:=Zi0 (T:=112) (r0:=Uq l) ht (Qs9 hl hn) (λa c r1 ha _=>Qz2 (c:=c) (r1:=r1) hl hn ha) hc hev h hg;refine Gk Tryz.func39 rfl ?_;exact ed tt [] [0] [.c [] (E8 (ht.mono (by decide))),.c [0] cg] rfl trivial
theorem Qmu {c:Cr} {r0 r2:List (List LV)} {w:Pt}:G6 Tryz.prog 104 [.one (.ow 0 0)] [.blk 112 (Hh c r0 ([Hw w],r2))] [.one (.int .i64 w.id),.one (.bool true)] [.blk 112 (Hh c r0 ([Hw w],r2))]:=by
 refine Gk Tryz.func104 rfl ?_;exact ed tt [] [0] [.f rfl,.x (i:=0) (xs:=Hw w) rfl] rfl trivial
theorem Qpw {c:Cr} {r0 r2:List (List LV)}:G6 Tryz.prog 104 [.one (.ow 0 0)] [.blk 112 (Hh c r0 ([],r2))] [.one (.int .i64 0),.one (.bool false)] [.blk 112 (Hh c r0 ([],r2))]:=by
 refine Gk Tryz.func104 rfl ?_;exact ed tt [] [0] [.t rfl] rfl trivial

end Orr
namespace Orr
open Go Go.Proofs Orq
theorem Q76 {x y:Int} (hx:-9223372036854775808<=x/\x<=9223372036854775807) (hy:-9223372036854775808<=y/\y<=9223372036854775807):Sc (Bz x y):=⟨Crv.nml _,((Qqa hx hy).norm (by decide)).mono (by decide) (by decide)⟩
theorem Sc.pt {p:Pt} (h:Sc p.c):Q2b 4294967294 1073741824 p:=⟨h.n,h.c.mono (by decide) (by decide)⟩
end Orr
namespace Orr
open Go Go.Proofs
set_option maxRecDepth 10000
theorem Cs.up {s n s' n':Nat} {k:Crv} (h:Cs s n k) (hs:s<=s') (hn:n<=n'):Cs s' n' k:=⟨W9 h.x hs,W9 h.y hs,Qa h.d hs,Qa h.lx hn,Qa h.ly hn⟩
end Orr
namespace Orr
open Go Go.Proofs Orq
set_option maxRecDepth 10000
theorem Q0i {l m:List Pt} (h:l.Perm m) (hd:Lj l):Lj m:=(h.pairwise_iff (λh=>λe=>h e.symm)).1 hd
theorem Q8y {t q:Rat}:Up (tq t) q=1↔q<t:=by
 rw [Qmf]; rcases Rq t q with ⟨e,h⟩ | ⟨e,h⟩ | ⟨e,h⟩ <;> grind
theorem Q8x {t q:Rat}:Up (tq t) q=-1↔t<q:=by
 rw [Qmf]; rcases Rq t q with ⟨e,h⟩ | ⟨e,h⟩ | ⟨e,h⟩ <;> grind
theorem Zdr {s t:Rat}:Pj (tq s) (tq t)↔s<t:=by
 constructor
 ·rintro ⟨q,h1,h2⟩
  have:=Q8x.1 h1; have:=Q8y.1 h2; grind
 ·intro h;exact ⟨(s+t) / 2,Q8x.2 (by grind),Q8y.2 (by grind)⟩
theorem Qz3 {c:Cr} {r0:List (List LV)} {r1:List (List LV)×List (List LV)}:G6 Tryz.prog 37 [.one (.ow 0 0)] [.blk 112 (Hh c r0 r1)] [.one (.ow 1 0)] [.blk 112 (Hh c r0 r1),.blk 112 (Hh c r0 r1)]:=by
 refine Gk Tryz.func37 rfl ?_;exact ed tt [] [0,1] [] rfl trivial
theorem Qz5 {zs:List RawPt} {n d:Int} {O M:List Pt} {e:Nat} {c:List (List Int)} (hz:∀ z∈zs,z.Ok) (hO:Qeu 4 20 zs=O) (he:e≤O.length) (hd:Lj (Ts O e)) (hm:e<O.length->¬Lj (Ts O (e+1))) (hn:-9223372036854775808≤n/\n≤9223372036854775807) (hdd:-9223372036854775808≤d/\d≤9223372036854775807) (hC:Qwd (Ay n d) c) (hM:M=Gn Bq (Qat O e)) :
 G6 Tryz.prog 36 [.one (.row (Qc6 zs)),.one (.int .i64 n),.one (.int .i64 d)] [] [.one (.ow 0 0),.one (.ow 1 0),.one (.bool true)] [.blk 112 (Hh (Q2n M (tq (Ay n d))) (Uq M) (brT M (tq (Ay n d)))),.blk 185 (plB M (Ay n d) c (Ic (Ay n d) M))]:=by
 have hO4:O.length<=4:=by rw [<-hO]; exact I2 _ _ (Qi _)
 have hid:∀ p∈O,-9223372036854775808≤p.id/\p.id≤9223372036854775807:=λp hp=>by
  rw [<-hO] at hp; have:=Zcr p hp; omega
 have hlit:∀ p∈O,Qzp p:=λp hp=>by rw [<-hO] at hp; exact Qlj (by decide) p hp
 have hcl:(Ts O e).length=e:=Qb3 he;have hcn:(Qat O e).length=e:=by rw [Qfq,hcl]
 have hMl:M.length=e:=by rw [hM,Pi,hcn]
 have hok:∀ p∈M,Nml p.c/\Cs 10 3 p.c:=λp hp=>by rw [hM,Qan] at hp; exact Qxl hlit e p hp
 have hq:=Qmb n d;obtain ⟨q,hqq⟩:=nmE (Ay n d);have cb:=Qw8 (l:=Qat O e) (by omega);rw [<-hM] at cb;rw [<-hqq] at hq hC ⊢;have csm:=Zab hn hdd;have c2:=Qtt (M:=M) (q:=q) (c:=c) (λp hp=>⟨(hok p hp).1,(hok p hp).2.mono (by decide) (by decide)⟩) (by omega) (hq.mono (by decide)) hC;have ctr:=Q3i (q:=q) (hq.mono (by decide));have hnl:=Q06 (qs:=Qat O e) (by omega) (Qkr hd);have hnl2:Tf [] (Qat O e)=(M,0):=by rw [hM,<-hnl.2,<-hnl.1]
 have cs:=Qwx (zs:=Uq (Ts O e)) (qs:=Qat O e) (l:=M) (n:=q.num) (d:=(q.den:Int)) (Qlg λp hp=>(Qqb hlit e p hp).mono (by decide) (by decide)) (by omega) hnl2 (λp hp=>⟨(hok p hp).1,(hok p hp).2.mono (by decide) (by decide)⟩) (by omega) (Ud q.num) (Ud (q.den:Int)) (Qa hq.1 (by decide)) (Qa hq.2 (by decide)) (by rw [Au]; exact hq.mono (by decide));rw [Au] at cs;rw [show Ft (Ih n 61-30) (1+Ih d 6)=q from hqq.symm] at csm;have cp:=Qzz hz;rw [hO] at cp;refine Gk Tryz.func36 rfl ?_;refine go tt [.c [0,1] cp] rfl trivial ?_;have h0l:=Du O;refine ct 2 (S:=Unit) (λ_=>[(1,.v (.one (.int .i64 n))),(2,.v (.one (.int .i64 d))),(9,.v (.one (.row (Uq (Ts O e))))),(10,.v (.one (.row (U4 (Qat O e)))))]) (λ_=>[.gone,.gone]) (λ_=>True) rfl ?_ (λ_ _=>?_)
 ·refine lp (S:=Nat) 2 (λL1 i=>(23,.v (.one (.int .i64 (i:Int))))::(9,.v (.one (.orow 0 5 none)))::(10,.v (.one (.orow 1 7 none)))::L1) (λi=>[.row false 135 5 (Uq (mix O i)),.row false 57 7 (U4 ((mix O i).map Pt.nrm))]) (λi=>O.length-i) (λi=>i<=O.length/\i<=e/\Lj (Ts O i)) 0 ⟨Qi _,Qi _,List.Pairwise.nil⟩ rfl (λ_ _=>rfl) (by rw [Q6h]; rfl) λi ⟨hi,hie,hdi⟩=>?_
  have hl1:(Uq (mix O (i+1))).length=O.length:=by rw [Du,Qgt]
  have hl0:(Uq (mix O i)).length=O.length:=by rw [Du,Qgt]
  have hr0:(U4 ((mix O i).map Pt.nrm)).length=O.length:=by rw [Tq,Zd,Qgt]
  have hr1:(U4 ((mix O (i+1)).map Pt.nrm)).length=O.length:=by rw [Tq,Zd,Qgt]
  by_cases h:i<O.length
  ·obtain ⟨p,hp⟩:=gxE (l:=O) (i:=i) h;have hx:=Zb4 hp;have hxn:((mix O i).map Pt.nrm)[i]? = some p.nrm:=by rw [Q5,hx]; rfl
   have cw:=Qbz (v:=p.id) (n:=5) (hid p (Qc hp)) (by decide);rw [show Ih p.id 5=p.m5.id from rfl] at cw;refine go tt [.t (decide_eq_true (by omega)),.i i,.x (Oo hx),.c [] cw,.i i,.x (Oo hx),.c [] cw,.i i,.x (Oo hx),.i i,.x (Ld hxn)] rfl (by simp [Ua,hl0,hr0]; omega) ?_;rw [Qoi hp,Qka hp];refine lp (S:=Nat) 2 (λL1 j=>(12,.v (.one (.int .i64 (j:Int))))::(9,.v (.one (.orow 0 5 none)))::(10,.v (.one (.orow 1 7 none)))::L1) (λ_=>[.row false 135 5 (Uq (mix O (i+1))),.row false 57 7 (U4 ((mix O (i+1)).map Pt.nrm))]) (λj=>i-j) (λj=>j<=i/\∀ k x,k<j->O[k]? = some x->x.m5.id≠p.m5.id) 0 ⟨Qi _,λk x h=>absurd h (W4 _)⟩ rfl (λ_ _=>rfl) rfl λj ⟨hj,hjn⟩=>?_
   by_cases hji:j<i
   ·obtain ⟨x,hxj⟩:=gxE (l:=O) (i:=j) (by omega);have g1:=Qyk (i:=i+1) (show j<i+1 by omega) hxj;have g2:=Qyk (i:=i+1) (show i<i+1 by omega) hp;by_cases hq:x.m5.id=p.m5.id
    ·have hnd:¬Lj (Ts O (i+1)):=λhD=>by
      have:=List.pairwise_iff_getElem.1 hD j i (by rw [Qb3 (by omega)]; omega) (by rw [Qb3 (by omega)]; omega) hji;refine this ?_;have e1:(Ts O (i+1))[j]? = some x.m5:=by unfold Ts; rw [List.getElem?_map,List.getElem?_take,if_pos (by omega),hxj]; rfl
      have e2:(Ts O (i+1))[i]? = some p.m5:=by unfold Ts; rw [List.getElem?_map,List.getElem?_take,if_pos (by omega),hp]; rfl
      rw [(Qf.1 e1).2,(Qf.1 e2).2]; exact hq
     have hie2:i=e:=by
      rcases Q6 i e with h3 | h3
      ·exact absurd (Zba hd h3) hnd
      ·omega
     have c1:(Uq (mix O (i+1))).take i=Uq (Ts O e):=by rw [Q1e (by omega) (by omega),hie2]
     have c2:(U4 ((mix O (i+1)).map Pt.nrm)).take i=U4 (Qat O e):=by rw [Qvo (by omega) (by omega),hie2]
     refine go tt [.t (decide_eq_true (by omega)),.i j,.x (Oo g1),.i i,.x (Oo g2),.t (decide_eq_true hq),.i i,.i i] rfl (by simp [Ua,hl1,hr1]; omega) ?_;refine pz 0 rfl rfl ?_;refine pz 1 rfl rfl ?_;exact go tt [.t (decide_eq_true (by omega))] rfl trivial (rc () trivial (by rw [c1,c2]; rfl))
    ·refine go tt [.t (decide_eq_true (by omega)),.i j,.x (Oo g1),.i i,.x (Oo g2),.f (decide_eq_false hq)] rfl (by simp [Ua,hl1]; omega) ?_;exact rd (j+1) (by omega) ⟨hji,λk y hk hy=>by
      rcases Q6 k j with h3 | h3
      ·exact hjn k y h3 hy
      ·have:k=j:=by omega
       subst this; rw [hxj] at hy; injection hy with hy; rw [<-hy]; exact hq⟩ rfl
   ·have hji2:j=i:=by omega
    rw [hji2] at hjn;have hD:=Q0j hp hdi hjn;have hle:i+1<=e:=by
     rcases Q6 i e with h3 | h3
     ·exact h3
     ·have:i=e:=by omega
      rw [this] at hD h;exact absurd hD (hm h)
    refine go tt [.f (decide_eq_false (by omega)),.f (decide_eq_false (by omega))] rfl (by simp [Ua]; omega) ?_;exact rd (i+1) (by omega) ⟨h,hle,hD⟩ rfl
  ·have hiO:i=O.length:=by omega
   have hie2:i=e:=by omega
   have c1:Uq (mix O i)=Uq (Ts O e):=by rw [<-hie2,hiO,Qrf]
   have c2:U4 ((mix O i).map Pt.nrm)=U4 (Qat O e):=by rw [<-hie2,hiO,Qrf]; rfl
   refine go tt [] rfl trivial ?_;rw [c1,c2];refine pz 0 rfl rfl ?_;refine pz 1 rfl rfl ?_;exact go tt [.f (decide_eq_false (by omega))] rfl trivial (rc () trivial rfl)
 ·exact ed tt [] [3,2] [.c [] cb,.c [] csm,.c [2] c2,.c [] ctr,.c [3] cs,.g 96 true rfl] rfl trivial
theorem Qkq:Ub Tryz.prog 41 [] [.one (.bool true)]:=by
 have hq:Qs 400000 (Ft 0 0):=⟨by decide,by decide⟩;have ez:Ft 0 0=0:=by decide
 have hsc:∀ p∈[(⟨Bz 3 4,7⟩:Pt)],Sc p.c:=λp hp=>by
  rw [Qp.1 hp]; exact Q76 (by decide) (by decide)
 have zp:IsPts 4294967294 1073741824 (Uq [⟨Bz 3 4,7⟩]) [⟨Bz 3 4,7⟩]:=Qx6 λp hp=>(hsc p hp).pt
 have hnl:Tf [] [(⟨Bz 3 4,7⟩:Pt)]=([⟨Bz 3 4,7⟩],0):=rfl;have cn:=Qwx (qs:=[⟨Bz 3 4,7⟩]) zp (by decide) hnl hsc (by decide) Nt Nt (by decide) (by decide) hq;rw [ez] at cn;have hv:Va (tq 0):=Q10 (by rw [<-ez]; exact hq);have hpl:Su (Re (tq 0)) [(⟨Bz 3 4,7⟩:Pt)]=([⟨Bz 3 4,7⟩],[]):=S4 _ (by decide);have hbr:brT [(⟨Bz 3 4,7⟩:Pt)] (tq 0)=([Hw ⟨Bz 3 4,7⟩],[]):=by unfold brT; rw [hpl]; rfl
 have hbc:Q2n [(⟨Bz 3 4,7⟩:Pt)] (tq 0)=⟨tq 0,[],0⟩:=by unfold Q2n bcT; rw [hpl]; rfl
 rw [hbr,hbc] at cn;have hok:CrOk ⟨tq 0,[],0⟩:=⟨hv,λw hw=>(by cases hw),by decide⟩;have cw:=Qmu (c:=⟨tq 0,[],0⟩) (r0:=Uq [⟨Bz 3 4,7⟩]) (r2:=[]) (w:=⟨Bz 3 4,7⟩);have cc:=Qpv (T:=112) (r0:=Uq [⟨Bz 3 4,7⟩]) (r1:=([Hw ⟨Bz 3 4,7⟩],[])) hok;refine Gk Tryz.func41 rfl ?_;exact en tt [.c [] (Zac (by decide) (by decide)),.c [0] cn,.g 15 false rfl,.f rfl,.c [0] cw,.g 25 true rfl,.g 29 true rfl,.c [0] cc] rfl rfl trivial
abbrev tw2 (p:Int×Int):List LV:=[.int .i64 p.1,.int .i64 p.2]
def Ri (l:List (Int×Int)):List (List LV):=l.map tw2
theorem Tr (l:List (Int×Int)):(Ri l).length=l.length:=by simp [Ri]
theorem Qv6 (l:List (Int×Int)):∀ c∈Ri l,c.length=2:=λc hc=>by obtain ⟨x,_,rfl⟩:=Zg.1 hc; rfl
theorem Qo8 {l:List (Int×Int)} {i:Nat} {c:Int×Int} (h:l[i]? = some c):(Ri l)[i]? = some (tw2 c):=Ga h
def ltI (x y:Int×Int):Bool:=decide (x.1<y.1) || (decide (y.1=x.1) && decide (x.2<y.2))
def gid (m:Pt×Pt):Int×Int:=(m.1.id,m.2.id)
theorem Qno {lt:Int×Int->Int×Int->Bool} {O:List (Int×Int)} {c:Int×Int} {k m:Nat} {l2:List (List LV)} (hk:k<=O.length) (hp:S6 lt O c O.length=k) (hm:m=O.length-k) (h2:l2.take m=((Ri O++[tw2 c]).drop k).take m) :
 ((Ri O++[tw2 c]).take (k+1)++(l2.take m++(Ri O++[tw2 c]).drop (k+1+m))).set k (tw2 c)=Ri (Ns lt O c):=by
 rw [h2,<-Zy,Qq2 (Ri O) (tw2 c) (tw2 c) (by rw [Tr]; omega) (by rw [Tr]; omega)];simp [Ns,hp,Ri,Jo,Y0]
theorem Qzy {c:Cr} {r0 r1:List (List LV)} {G:List (Pt×Pt)} (hG:G.length<=1000000):G6 Tryz.prog 106 [.one (.ow 0 0)] [.blk 112 (Hh c r0 (r1,Hg G))] [.one (.row (Ri (Gn ltI (G.map gid))))] [.blk 112 (Hh c r0 (r1,Hg G))]:=by
 have hgl:(Hg G).length=G.length:=by simp [Hg]
 have hgl2:(r1,Hg G).snd.length=G.length:=hgl;refine Gk Tryz.func106 rfl ?_;refine go tt [.o 3 191 2] rfl trivial ?_;refine lp (S:=Nat) 2 (λL1 i=>(13,.v (.one (.int .i64 (i:Int))))::(3,.v (.one (.orow 1 2 none)))::L1) (λi=>[.blk 112 (Hh c r0 (r1,Hg G)),.row false 191 2 (Ri (Gn ltI ((G.map gid).take i)))]) (λi=>G.length-i) (λi=>i<=G.length) 0 (Qi _) rfl (λ_ _=>rfl) rfl λi hi=>?_
 by_cases hlt:i<G.length
 ·obtain ⟨g,hg⟩:=gxE (l:=G) (i:=i) hlt;have hgg:(Hg G)[i]? = some (Qf9 g):=Ga hg;obtain ⟨x,hx⟩:=nmE (gid g);have hst:Gn ltI ((G.map gid).take (i+1))=Ns ltI (Gn ltI ((G.map gid).take i)) x:=Qbo (by rw [Q5,hg,hx]; rfl);obtain ⟨O,hO⟩:=nmE (Gn ltI ((G.map gid).take i));have hOl:O.length=i:=by rw [hO,Pi,Qq,Zd]; omega
  have hrl:=Tr O;rw [<-hO] at hst ⊢;have hz:∀ y∈[tw2 x],y.length=2:=λy hy=>by rw [Qp.1 hy]; rfl
  have h77:∀ y∈Ri O++[tw2 x],y.length=2:=λy hy=>by
   rcases Q0.1 hy with hy | hy
   ·exact Qv6 O y hy
   ·exact hz y hy
  refine go tt [.t (decide_eq_true (by omega)),.x hgg,.i 0,.i 1] rfl (by simp [Ua]) ?_;refine lp (S:=Nat) 4 (λL1 k=>(7,.v (.one (.int .i64 (k:Int))))::L1) (λk=>[.blk 112 (Hh c r0 (r1,Hg G)),.row false 191 2 (Ri O),.blk 254 (Qf9 g),.blk 191 (tw2 x)]) id (λk=>k<=O.length/\S6 ltI O x k=S6 ltI O x O.length) (Ri O).length ⟨by omega,by rw [hrl]⟩ rfl (λ_ _=>rfl) (by rw [hx]; rfl) λk ⟨hk,hp⟩=>?_
  cases k with
  |
   zero =>
   have hp:S6 ltI O x O.length=0:=by rw [<-hp]; rfl
   refine go tt [.g 28 false (by simp),.f rfl,.s (sz:=2) hz,.r 69 (eI (b:=((0+1:Nat):Int)) (by simp)),.i (0+1),.i (0),.s (sz:=2) (λy hy=>h77 y (Qk hy)),.i (O.length),.i (0)] rfl (by simp [Ua,Tr]; omega) ?_;exact rd (i+1) (by omega) hlt (by rw [hst,<-Qno (l2:=(Ri O++[tw2 x]).take ((Ri O++[tw2 x]).length-0)) (k:=0) (m:=O.length) (by omega) hp (by omega) (by congr 1; exact Qm (by simp))]; rfl)
  |
   succ k =>
   obtain ⟨y,hy⟩:=gxE (l:=O) (i:=k) (by omega);have hgy:=Qo8 hy;by_cases h1:x.1<y.1
   ·have hlc:ltI x y=true:=by simp [ltI,h1]
    refine go tt [.g 28 true (by simp),.r 31 (eI (b:=(k:Int)) (by simp)),.i k,.i 0,.x hgy,.i 0,.g 38 true (decide_eq_true h1),.t rfl,.r 62 (eI (b:=(k:Int)) (by simp))] rfl (by simp [Ua,Tr]; omega) ?_;exact rd k (by simp) ⟨by omega,by rw [<-hp,Qcv hy hlc]⟩ rfl
   by_cases h2:y.1=x.1
   ·by_cases h3:x.2<y.2
    ·have hlc:ltI x y=true:=by simp [ltI,h2,h3]
     refine go tt [.g 28 true (by simp),.r 31 (eI (b:=(k:Int)) (by simp)),.i k,.i 0,.x hgy,.i 0,.g 38 false (decide_eq_false h1),.r 41 (eI (b:=(k:Int)) (by simp)),.i k,.i 0,.x hgy,.i 0,.g 48 true (decide_eq_true h2),.r 51 (eI (b:=(k:Int)) (by simp)),.i k,.i 1,.x hgy,.i 1,.t (decide_eq_true h3),.r 62 (eI (b:=(k:Int)) (by simp))] rfl (by simp [Ua,Tr]; omega) ?_;exact rd k (by simp) ⟨by omega,by rw [<-hp,Qcv hy hlc]⟩ rfl
    ·have hlc:ltI x y=false:=by simp [ltI,h2]; omega
     have hp:S6 ltI O x O.length=k+1:=by rw [<-hp,Of hy hlc]
     refine go tt [.g 28 true (by simp),.r 31 (eI (b:=(k:Int)) (by simp)),.i k,.i 0,.x hgy,.i 0,.g 38 false (decide_eq_false h1),.r 41 (eI (b:=(k:Int)) (by simp)),.i k,.i 0,.x hgy,.i 0,.g 48 true (decide_eq_true h2),.r 51 (eI (b:=(k:Int)) (by simp)),.i k,.i 1,.x hgy,.i 1,.f (decide_eq_false h3),.s (sz:=2) hz,.r 69 (eI (b:=((k+1+1:Nat):Int)) (by simp)),.i (k+1+1),.i (k+1),.s (sz:=2) (λy hy=>h77 y (Qz (Qk hy))),.i (O.length-(k+1)),.i (k+1)] rfl (by simp [Ua,Tr]; omega) ?_;exact rd (i+1) (by omega) hlt (by rw [hst,<-Qno (l2:=((Ri O++[tw2 x]).drop (k+1)).take ((Ri O++[tw2 x]).length-(k+1))) (k:=k+1) (m:=O.length-(k+1)) (by omega) hp (by omega) (by congr 1; exact Qm (by simp))]; rfl)
   ·have hlc:ltI x y=false:=by simp [ltI,h1,h2]
    have hp:S6 ltI O x O.length=k+1:=by rw [<-hp,Of hy hlc]
    refine go tt [.g 28 true (by simp),.r 31 (eI (b:=(k:Int)) (by simp)),.i k,.i 0,.x hgy,.i 0,.g 38 false (decide_eq_false h1),.r 41 (eI (b:=(k:Int)) (by simp)),.i k,.i 0,.x hgy,.i 0,.g 48 false (decide_eq_false h2),.f rfl,.s (sz:=2) hz,.r 69 (eI (b:=((k+1+1:Nat):Int)) (by simp)),.i (k+1+1),.i (k+1),.s (sz:=2) (λy hy=>h77 y (Qz (Qk hy))),.i (O.length-(k+1)),.i (k+1)] rfl (by simp [Ua,Tr]; omega) ?_;exact rd (i+1) (by omega) hlt (by rw [hst,<-Qno (l2:=((Ri O++[tw2 x]).drop (k+1)).take ((Ri O++[tw2 x]).length-(k+1))) (k:=k+1) (m:=O.length-(k+1)) (by omega) hp (by omega) (by congr 1; exact Qm (by simp))]; rfl)
 ·obtain rfl:i=G.length:=by omega
  rw [Qm (by simp)];exact ed tt [1] [0] [.f (decide_eq_false (by omega))] rfl trivial
theorem Zaa {l:List (Int×Int)} (hl:l.length<=1000000):Ub Tryz.prog 105 [.one (.row (Ri l)),.one (.row (Ri l))] [.one (.bool true)]:=by
 have hll:=Tr l;refine Gk Tryz.func105 rfl ?_;refine go tt [.f (decide_eq_false (λh=>h rfl))] rfl trivial ?_;refine lp (S:=Nat) 0 (λL1 i=>(5,.v (.one (.int .i64 (i:Int))))::L1) (λ_=>[]) (λi=>l.length-i) (λi=>i<=l.length) 0 (Qi _) rfl (λ_ _=>rfl) rfl λi hi=>?_
 by_cases h:i<l.length
 ·obtain ⟨x,hx⟩:=gxE (l:=l) (i:=i) h;refine go tt [.t (decide_eq_true (by omega)),.x (Qo8 hx),.x (Qo8 hx),.f (by simp)] rfl (by simp [Ua] <;> omega) ?_;exact rd (i+1) (by omega) h rfl
 ·exact en tt [.f (decide_eq_false (by omega))] rfl rfl trivial
theorem Q2p {c c':Cr} {l l' m:List Pt} {a:Tm} {r:List (List LV)×List (List LV)} (hm:m.length<=1000000) (hr:r=brT m a):G6 Tryz.prog 40 [.one (.ow 0 0),.one (.ow 1 0)] [.blk 112 (Hh c (Uq l) r),.blk 112 (Hh c' (Uq l') r)] [.one (.bool true)] [.blk 112 (Hh c (Uq l) r),.blk 112 (Hh c' (Uq l') r)]:=by
 have hg:=Rz (Re a) m.length m (Qj _);obtain ⟨G,hG⟩:=nmE ((Su (Re a) m).2);rw [<-hG] at hg;have hGl:G.length<=1000000:=by omega
 have cM:=λ(c:Cr) (r0 r1:List (List LV))=>Qzy (c:=c) (r0:=r0) (r1:=r1) hGl
 have cS:=Zaa (l:=Gn ltI (G.map gid)) (by rw [Pi,Zd]; omega);by_cases h0:m.length=0
 ·have e:r=([],Hg G):=by
   rw [hr,hG];obtain rfl:=Qh h0;rfl
  rw [e];refine Gk Tryz.func40 rfl ?_;exact ed tt [] [0,1] [.c [0] Qpw,.c [1] Qpw,.g 22 true rfl,.g 27 true rfl,.c [0] (cM c _ _),.c [1] (cM c' _ _),.c [] cS] rfl trivial
 ·obtain ⟨w,hw,_⟩:=Tt (Re a) m.length m (Qj _) (by omega);have e:r=([Hw w],Hg G):=by rw [hr,hG]; unfold brT; rw [hw]; rfl
  rw [e];refine Gk Tryz.func40 rfl ?_;exact ed tt [] [0,1] [.c [0] Qmu,.c [1] Qmu,.g 22 true (decide_eq_true rfl),.g 27 true rfl,.c [0] (cM c _ _),.c [1] (cM c' _ _),.c [] cS] rfl trivial
end Orr
namespace Orq
open Orr Go
theorem Qri {c x y:Rat} (hc:0<c) (h:c*x=c*y):x=y:=by
 have h1:1 / c*c=1:=Fb hc;have e:∀ z:Rat,z=1 / c*(c*z):=λz=>by grind
 rw [e x,h,<-e y]
theorem Qko (p:List Int):∀ i,i<=p.length->D7 p i=Gl (p.take i)
 | 0,_=>rfl
 |
  i+1,h=>by
  have hx:p[i]? = some (p.getD i 0):=by rw [Qg,Qd (by omega)]; rfl
  rw [Qea hx,<-Qko p i (by omega)];rfl
theorem Za2 (p:List Int):((Orr.cont p:Nat):Int)=H7 p:=by
 unfold Orr.cont H7; rw [Qko p _ (Nat.le_refl _),List.take_length]
theorem Q63 (p:List Int):Ur p=Un p:=rfl
theorem Q5d (p:List Int):Pk p=Fo p:=by unfold Pk Fo; rw [Za2,Q63]
theorem Qbk (p:List Int) (k:Nat):(Gf p).getD k 0=p.getD k 0 / Fo p:=by
 unfold Gf;rw [H9,Q5d]
 split
 ·rfl
 ·rename_i h; rw [Gq (by omega),Int.zero_ediv]
theorem Tk (p:List Int):Gf p=Uh p:=by
 unfold Uh
 split
 ·rename_i h; rw [List.eq_nil_of_length_eq_zero h]; rfl
 ·exact Qde (Qjr p) (Gu _) λk=>by rw [Qbk,Mc]
theorem Qr8 (p:List Int) (k:Nat):(Hf p).getD k 0=p.getD k 0 / H7 p:=by
 unfold Hf
 split
 ·rename_i h;rw [Qlv,Qbk];have:Fo p=-H7 p:=if_pos h;rw [this,Int.ediv_neg,Int.neg_neg]
 ·rename_i h;rw [Qbk];have:Fo p=H7 p:=if_neg h;rw [this]
theorem Qf1 (p:List Int):Uf (Hf p):=by
 unfold Hf; split
 ·exact Ut _ _
 ·exact Qjr p
theorem Qfu (p:List Int):Hf p=Do p:=by
 unfold Do
 split
 ·rename_i h; rw [List.eq_nil_of_length_eq_zero h]; rfl
 ·exact Qde (Qf1 p) (Gu _) λk=>by rw [Qr8,Mc]
theorem Qlw {p:List Int} (tp:Uf p) (h:p.length≠0):Prm (Do p):=λd hd=>by
 refine (Ru tp h).2.2.1 d λk=>?_
 have h1:=hd k;unfold Do at h1;rw [if_neg h,Mc] at h1;unfold Uh;rw [if_neg h,Mc];unfold Fo
 split
 ·rw [Int.ediv_neg]; exact Int.dvd_neg.2 h1
 ·exact h1
theorem Qp9 {a b c:Int} (h:Nat.Coprime a.natAbs b.natAbs) (h2:a∣b*c):a∣c:=Xl.1 (h.dvd_of_dvd_mul_left (by rw [<-Jv]; exact Xl.2 h2))
theorem Ql1 {p q:List Int} (tp:Uf p) (tq:Uf q) (hp:Prm p) (hq:Prm q) {c:Rat} (hc:0<c) (h:∀ t,Ug p t=c*Ug q t):p=q:=by
 have hd:=c.den_nz;have hd0:((c.den:Int):Rat)≠0:=Al (by omega);have e:c*((c.den:Int):Rat)=(c.num:Rat):=by
  have h1:(c.num:Rat) / ((c.den:Int):Rat)=c:=by rw [Gg,Zq]
  have h2:(c.num:Rat) / ((c.den:Int):Rat)*((c.den:Int):Rat)=(c.num:Rat):=Zi hd0;rw [h1] at h2; exact h2
 have hk:∀ k,(c.den:Int)*p.getD k 0=c.num*q.getD k 0:=λk=>by
  have:=M3 (p:=Uu p (c.den:Int)) (q:=Uu q c.num) (λt=>by
   rw [Gz,Gz,h,<-e]; grind) k
  rw [H8,H8] at this;rw [Vj,this,Vj]
 have d1:(c.den:Int)∣1:=hq _ λk=>Qp9 (a:=(c.den:Int)) (b:=c.num) (by simpa using c.reduced.symm) (by rw [<-hk k]; exact Kc _ _)
 have d2:c.num∣1:=hp _ λk=>Qp9 (a:=c.num) (b:=(c.den:Int)) (by simpa using c.reduced) (by rw [hk k]; exact Kc _ _)
 have p1:0<c.num:=by
  have h0:=Rat.num_nonneg.2 (Qo hc);rcases Int.lt_or_eq_of_le h0 with h1 | h1
  ·exact h1
  ·exfalso;rw [<-h1] at e;have e0:((0:Int):Rat)=0:=rfl;rw [e0] at e;rcases Jq.1 e with h2 | h2
   ·grind
   ·exact hd0 h2
 have e1:=Int.le_of_dvd (by decide) d1;have e2:=Int.le_of_dvd (by decide) d2;have n1:c.num=1:=by omega
 have n2:(c.den:Int)=1:=by omega
 refine Qde tp tq λk=>?_
 have:=hk k;rw [n1,n2] at this; omega
theorem Q1n {a b:List Int} (hb:b.length<=a.length):Lf a b=str b ((Un b).natAbs:Int) (a.length-b.length) (Bv a b) a:=by
 refine Qde (Ut _ _) (Ut _ _) λk=>?_
 unfold Lf str;rw [H9,Nw,H8,Qn1]
 split
 ·rfl
 ·rename_i h;rw [Gq (p:=a) (by omega),J4,if_pos (by omega),Gq (p:=b) (by omega),Vk]; rfl
theorem Q70 {a b:List Int} (hb:b.length<=a.length) (t:Rat):(((Un b).natAbs:Int):Rat)*Ug a t=((Bv a b:Int):Rat)*t^(a.length-b.length)*Ug b t+Ug (Lf a b) t:=by
 rw [Q1n hb]; exact Q8o _ _ _ _ _ _
theorem Q1m {a b:List Int} (hb0:b.length≠0) (hb:b.length<=a.length):(Lf a b).length<a.length:=by
 have h:=Qns (p:=Lf a b) (n:=a.length-1) (Ut _ _) (Qa (Db _ _) (by omega)) (by
  unfold Lf B8;rw [H9,if_pos (by omega),if_pos (by omega),show a.length-1-(a.length-b.length)=b.length-1 by omega];show Ur a*((Ur b).natAbs:Int)-Bv a b*Ur b=0;unfold Bv
  split
  ·rw [show ((Ur b).natAbs:Int)=-Ur b by omega,Vy,Y9]; omega
  ·rw [show ((Ur b).natAbs:Int)=Ur b by omega]; omega)
 omega
theorem Q7z {a b:List Int} {s t:Nat} (ha:Bd s a) (hb:Bd t b):Bd (s+t+1) (Lf a b):=E3 λi _=>by
 have h1:=Um ha i;have h2:Ul ((Ur b).natAbs:Int)<=t:=by
  have h:Ul (Ur b)<=t:=Um hb (b.length-1);rw [Rh] at h ⊢;rw [Zw]; exact h
 have h3:Ul (Bv a b)<=s:=by
  have:=Um ha (a.length-1);unfold Bv
  split
  ·rw [Fx]; exact this
  ·exact this
 have h4:=Uv (a.getD i 0) ((Ur b).natAbs:Int);unfold B8
 split
 ·have h5:=Uv (Bv a b) (b.getD (i-(a.length-b.length)) 0);have h6:=Um hb (i-(a.length-b.length));have:=Qgq (a.getD i 0*((Ur b).natAbs:Int)) (Bv a b*b.getD (i-(a.length-b.length)) 0);omega
 ·rw [Int.sub_zero]; omega
theorem Qzc {b:List Int} (tb:Uf b) (hb:b.length≠0) {t:Nat} (bb:Bd t b):∀ (k:Nat) (a:List Int) (s:Nat),a.length<b.length+k->Uf a->a.length<=60->Bd s a->s+k*(t+1)<=9000000->t<=9000000 ->
 ∃ n r,RRun b n a r/\Uf r/\r.length<b.length/\Bd (s+k*(t+1)) r/\∃ (u:Rat) (X:List Rat),0<u/\∀ x,u*Ug a x=ev X x*Ug b x+Ug r x
 | 0,a,s,hl,ta,_,ba,_,_=>⟨0,a,.stop (by omega),ta,by omega,by rw [Yt]; exact ba,1,[],by decide,λx=>by simp only [ev]; grind⟩
 |
  k+1,a,s,hl,ta,h6,ba,hs,ht=>by
  rcases Q6 a.length b.length with h | h
  ·exact ⟨0,a,.stop h,ta,h,W9 ba (by omega),1,[],by decide,λx=>by simp only [ev]; grind⟩
  ·have h1:=Q1m hb h;have e:s+t+1+k*(t+1)=s+(k+1)*(t+1):=by rw [Xc]; omega
   obtain ⟨n,r,r1,r2,r3,r4,u,X,hu,hX⟩:=Qzc tb hb bb k (Lf a b) (s+t+1) (by omega) (Ut _ _) (by omega) (Q7z ba bb) (by omega) ht;have hlp:((0:Int):Rat)<(((Un b).natAbs:Int):Rat):=X6.2 (by have:=Bf tb hb; omega);have hlp:(0:Rat)<(((Un b).natAbs:Int):Rat):=by simpa using hlp
   refine ⟨n+1,r,.step h (by omega) (W9 ba (by omega)) (W9 bb ht) r1,r2,r3,by rw [<-e]; exact r4,u*(((Un b).natAbs:Int):Rat),H3 (Pq (u*((Bv a b:Int):Rat)) (cz (mono (a.length-b.length) 1))) X,Vz hu hlp,λx=>?_⟩;have g1:=Q70 h x;have g2:=hX x;rw [U6,Uw,Ue,En];have e1:((1:Int):Rat)=1:=rfl;rw [e1];have:u*(((Un b).natAbs:Int):Rat)*Ug a x=u*((((Un b).natAbs:Int):Rat)*Ug a x):=by grind
   rw [this,g1]; grind
theorem Zc6 {a b r:List Int} (ta:Uf a) (tb:Uf b) (hb:b.length≠0) (hl:a.length<=60) (tr:Uf r) (hr:r.length<b.length) {u:Rat} {X:List Rat} (hu:0<u) (hX:∀ x,u*Ug a x=ev X x*Ug b x+Ug r x):Hf r=Fy a b:=by
 obtain ⟨h1,h2,_,u',v',up,vp,X',hX'⟩:=Qc1 ta tb hb hl;have key:∀ x,ev (H3 (Pq (u*v') (cz (Fy a b))) (Pq (-u') (cz r))) x=ev (Fl (H3 (Pq u' X) (Pq (-u) X')) (cz b)) x:=λx=>by
  have g1:=hX x;have g2:=hX' x;rw [U6,Uw,Uw,Ui,U6,Uw,Uw,Ue,Ue,Ue];have k1:u'*(u*Ug a x)=u'*(ev X x*Ug b x+Ug r x):=by rw [g1]
  have k2:u*(u'*Ug a x)=u*(ev X' x*Ug b x+v'*Ug (Fy a b) x):=by rw [g2]
  grind
 have hz:∀ x,ev (H3 (Pq u' X) (Pq (-u) X')) x=0:=by
  rcases Qfl (H3 (Pq u' X) (Pq (-u) X')) with h | ⟨m,_,h⟩
  ·exact h
  ·exfalso;have hm:=Qee h (Qaw tb (by omega));have h3:=(Q5x (λt=>(key t).symm) hm).1;rw [G5,Hz,Hz,Tn,Tn,Gq (p:=Fy a b) (by omega),Gq (p:=r) (by omega)] at h3;have e0:((0:Int):Rat)=0:=rfl;rw [e0] at h3;exact h3 (by grind)
 have hpr:∀ x,Ug r x=u*v' / u'*Ug (Fy a b) x:=λx=>by
  have g:=key x;rw [Ui,hz x,U6,Uw,Uw,Ue,Ue] at g;have hd:u*v' / u'*u'=u*v':=Fb up;have hne:u'≠0:=by grind
  have:u'*Ug r x=u'*(u*v' / u'*Ug (Fy a b) x):=by
   have e:u'*(u*v' / u'*Ug (Fy a b) x)=(u*v' / u'*u')*Ug (Fy a b) x:=by grind
   rw [e,hd]; grind
  exact Qri up this
 have hcp:0<u*v' / u':=Nq (Vz hu vp) up;rw [Qfu];have hlen:=Ck tr h1 (by grind:u*v' / u'≠0) hpr;by_cases h0:r.length=0
 ·rw [Qh h0,Qh (l:=Fy a b) (by omega)]; rfl
 ·obtain ⟨c,cp,hc⟩:=Qry tr;have hcn:c≠0:=by grind
  have hp2:Prm (Fy a b):=by
   unfold Fy at hlen ⊢;have ht:Uf (Pm a b (Se a b)):=by
    unfold Pm; split
    ·exact Ut _ _
    ·exact (Qog hb _ _ _ ta (by omega)).1
   refine Qlw ht λe=>?_
   rw [Qh e] at hlen;exact h0 hlen
  have tn:Uf (Do r):=by rw [<-Qfu]; exact Qf1 r
  refine Ql1 tn h1 (Qlw tr h0) hp2 (c:=u*v' / u' / c) (Nq hcp cp) λt=>?_
  have g1:=hc t;have g2:=hpr t;have hd:u*v' / u' / c*c=u*v' / u':=Fb cp;refine Qri cp ?_;have e:c*(u*v' / u' / c*Ug (Fy a b) t)=(u*v' / u' / c*c)*Ug (Fy a b) t:=by grind
  rw [e,hd,<-g1,g2]
theorem Qr4 {p:List Int} (h:Pr1 p):Uh p=p:=by
 obtain ⟨h1,h2,h3,h4,_,h6,h7⟩:=Ru h.t h.n;have hl:=h.l;have hc:0<Fo p:=by
  have:=Em h.t h.n;unfold Fo;rw [if_neg (by omega)];unfold H7 at this ⊢; omega
 have hq:((0:Int):Rat)<(Fo p:Rat):=X6.2 hc;exact (Ql1 h.t h1 h.m h3 (c:=(Fo p:Rat)) (by simpa using hq) h7).symm
theorem Qr5 {r:List Int} (tr:Uf r):(Uh r).length=r.length/\((Uh r).length=0\/Pr1 (Uh r)):=by
 by_cases h:r.length=0
 ·rw [Qh h]; exact ⟨rfl,.inl rfl⟩
 ·exact ⟨(Ru tr h).2.1,.inr (Q1a tr h)⟩
theorem Qe0 {s m lb la:Nat} (e:la-1=m+(lb-1)) (hm:1<=m) (hs:(s+8)*3^(la-1)<=9000000):(s+(m+1)*(s+8)+8)*3^(lb-1)<=9000000/\s+(m+1)*(s+8)<=9000000:=by
 have e2:s+(m+1)*(s+8)+8=(m+2)*(s+8):=by
  rw [show m+2=(m+1)+1 by omega,Xc (m+1)]; omega
 have e3:(m+2)*(s+8)*3^(lb-1)<=(s+8)*3^(la-1):=by
  rw [e,Xe,<-Xo,Zf (s+8)];exact Qw _ (Qw _ (Zcm m hm))
 have:(m+2)*(s+8)<=(m+2)*(s+8)*3^(lb-1):=Jm _ (Zu (by decide));exact ⟨by rw [e2]; omega,by omega⟩
theorem Qsj {a b:List Int} {s:Nat} (ta:Uf a) (tb:Uf b) (hb:b.length≠0) (hab:b.length<a.length) (hl:a.length<=60) (ba:Bd s a) (bb:Bd s b) (hs:(s+8)*3^(a.length-1)<=9000000) :
 ∃ n r,RRun b n a r/\Uf r/\r.length<b.length/\Bd (s+(a.length-b.length+1)*(s+8)) r/\Hf r=Fy a b/\∃ (u:Rat) (X:List Rat),0<u/\∀ x,u*Ug a x=ev X x*Ug b x+Ug r x:=by
 obtain ⟨k1,k2⟩:=Qe0 (s:=s) (m:=a.length-b.length) (lb:=b.length) (la:=a.length) (by omega) (by omega) hs;have h1:(a.length-b.length+1)*(s+1)<=(a.length-b.length+1)*(s+8):=Zh _ (by omega);obtain ⟨n,r,r1,r2,r3,r4,u,X,hu,hX⟩:=Qzc tb hb bb (a.length-b.length+1) a s (by omega) ta hl ba (by omega) (by omega);exact ⟨n,r,r1,r2,r3,W9 r4 (by omega),Zc6 ta tb hb hl r2 r3 hu hX,u,X,hu,hX⟩
theorem Qx2:∀ (k:Nat) (a b:List Int) (s:Nat),b.length<k->Pr1 a->(b.length=0\/Pr1 b)->Uf b->b.length<a.length->a.length<=60->Bd s a->Bd s b->(s+8)*3^(a.length-1)<=9000000 ->
 ∃ n g,GRun n a b g/\Pr1 g/\A6 (cz g) (cz a)/\A6 (cz g) (cz b)
 | 0,_,_,_,h,_,_,_,_,_,_,_,_=>by omega
 |
  k+1,a,b,s,hk,pa,pb,tb,hab,hl,ba,bb,hs=>by
  rcases pb with h0 | pb
  ·rw [Qh h0];exact ⟨0,a,.stop a,pa,dvd_refl _,⟨[],λt=>by simp only [cz,Jg,ev]; grind⟩⟩
  ·have hb:=pb.n;obtain ⟨n,r,r1,r2,r3,r4,_,u,X,hu,hX⟩:=Qsj pa.t tb hb hab hl ba bb hs;obtain ⟨k1,k2⟩:=Qe0 (s:=s) (m:=a.length-b.length) (lb:=b.length) (la:=a.length) (by omega) (by omega) hs;obtain ⟨p1,p2⟩:=Qr5 r2;obtain ⟨_,p3,p4,c,c1,c2⟩:=Es r2;have tp:Uf (Uh r):=by
    rcases p2 with h | h
    ·rw [Qh h]; rfl
    ·exact h.t
   obtain ⟨j,g,g1,g2,g3,g4⟩:=Qx2 k b (Uh r) (s+(a.length-b.length+1)*(s+8)) (by omega) pb p2 tp (by omega) (by omega) (W9 bb (by omega)) (p4 _ r4) k1;refine ⟨j+1,g,.step (by omega) (by omega) (W9 bb (by omega)) r1 (by omega) (W9 r4 k2) r2 (by rw [Tk]; exact g1),g2,?_,g3⟩;obtain ⟨y,hy⟩:=g3;obtain ⟨z,hz⟩:=g4;have hu1:1 / u*u=1:=Fb hu;refine ⟨Pq (1 / u) (H3 (Fl X y) (Pq c z)),λt=>?_⟩;have a1:=hX t;have a2:=hy t;have a3:=hz t;have a4:=c2 t;rw [Ue] at a2 a3 ⊢;rw [Uw,U6,Ui,Uw];have:Ug a t=1 / u*(u*Ug a t):=by grind
   rw [this,a1,a2,a4,a3]; grind
theorem Qu9 {c:Int} (h:c≠0):Uu [1] c=[c]:=by
 show Pg 1 _=_;rw [Dc,Qa2];show (if 1*c=0 then _ else [1*c])=_;rw [Yn,if_neg h]
theorem Qvt (k:Nat) (c:Int) (i:Nat):(Ta k [c]).getD i 0=if i=k then c else 0:=by
 unfold Ta;rw [Qg];rcases Ke i k with h | h | h
 ·rw [Zj (by simpa using h),if_neg (by omega)];simp [h]
 ·subst h;rw [Xi (by simp)]; simp
 ·rw [Qr (by simp; omega),if_neg (by omega)]; rfl
theorem Qh5:∀ (k:Nat) (a q p:List Int),a.length<=k->Uf a->a.length<=60->Bd 9000000 a->a.length<=q.length->q.length=p.length->(∀ i,i<a.length->a.getD i 0=p.getD i 0)->(∀ i,i<a.length->q.getD i 0=0)->(∀ i,a.length<=i->q.getD i 0=p.getD i 0)->∃ n,DRun [1] n a q p []
 |
  0,a,q,p,h,_,_,_,_,hq,_,_,h3=>by
  have e:=Qh (l:=a) (by omega);subst e;have e2:q=p:=by
   refine List.ext_getElem hq λi h1 h2=>?_
   have:=h3 i (by simp);rw [Qg,Qg,Qd h1,Qd h2] at this;exact this
  rw [e2]; exact ⟨0,.stop (by decide)⟩
 |
  k+1,a,q,p,h,ta,h6,ba,haq,hq,h1,h2,h3=>by
  by_cases h0:a.length=0
  ·exact Qh5 k a q p (by omega) ta h6 ba haq hq h1 h2 h3
  ·have hlead:Ur a≠0:=Gi ta (by omega);have hp1:Ur [1]=1:=rfl;have e1:Tp a (Ta (a.length-1) (Uu [1] (Ur a / Ur [1])))=Tp a (Ta (a.length-1) [Ur a]):=by
    rw [hp1,Vi,Qu9 hlead]
   have g:∀ i,(Tp a (Ta (a.length-1) [Ur a])).getD i 0=if i=a.length-1 then 0 else a.getD i 0:=λi=>by
    rw [Nw,Qvt]
    split
    ·rename_i e; subst e; exact Int.sub_self _
    ·rw [Int.sub_zero]
   have ll:(Tp a (Ta (a.length-1) [Ur a])).length<=a.length-1:=by
    refine Qns (Ut _ _) (Qa (Mv _ _) ?_) (by rw [g,if_pos rfl]);rw [Qjk]; simp; omega
   have gz:∀ i,(Tp a (Ta (a.length-1) [Ur a])).length<=i->i<a.length-1->a.getD i 0=0:=λi k1 k2=>by
    have:=g i;rw [Gq k1,if_neg (by omega)] at this;exact this.symm
   have gs:∀ i,(q.set (a.length-1) (Ur a)).getD i 0=if i=a.length-1 then Ur a else q.getD i 0:=λi=>by
    rw [Qg,Yf];by_cases e:a.length-1=i
    ·rw [if_pos e,if_pos (by omega),if_pos e.symm]; rfl
    ·rw [if_neg e,if_neg (λh=>e h.symm),Qg]
   have hpa:Ur a=p.getD (a.length-1) 0:=h1 _ (by omega);obtain ⟨n,hn⟩:=Qh5 k (Tp a (Ta (a.length-1) [Ur a])) (q.set (a.length-1) (Ur a)) p (by omega) (Ut _ _) (by omega) (λz hz=>by
    obtain ⟨i,hi⟩:=Jn hz;have e:z=(Tp a (Ta (a.length-1) [Ur a])).getD i 0:=by rw [Qg,hi]; rfl
    rw [e,g]
    split
    ·exact Qi _
    ·exact Um ba i) (by rw [Ja]; omega) (by rw [Ja]; exact hq) (λi hi=>by rw [g,if_neg (by omega)]; exact h1 i (by omega)) (λi hi=>by rw [gs,if_neg (by omega)]; exact h2 i (by omega)) (λi hi=>by
    rw [gs]
    split
    ·rename_i e; rw [e]; exact hpa
    ·rename_i e;by_cases k1:a.length<=i
     ·exact h3 i k1
     ·rw [h2 i (by omega),<-h1 i (by omega),gz i hi (by omega)])
   refine ⟨n+1,.step (by show 1<=a.length; omega) (by omega) ba (by decide) (by rw [hp1]; exact W7 _) (by show a.length-1<q.length; omega) ?_⟩;show DRun [1] n (Tp a (Ta (a.length-1) (Uu [1] (Ur a / Ur [1])))) (q.set (a.length-1) (Ur a / Ur [1])) p [];rw [e1,hp1,Vi]; exact hn
theorem Zbd {p:List Int} (tp:Uf p) (hl:p.length<=60) (bp:Bd 9000000 p):DOk p [1] p:=by
 obtain ⟨n,hn⟩:=Qh5 p.length p (List.replicate (p.length+1-1) 0) p (Qj _) tp hl bp (by simp) (by simp) (λ_ _=>rfl) (λi _=>Hm _ i) (λi hi=>by rw [Hm,Gq hi]);exact ⟨by decide,by decide,by omega,b1 (by decide),p,[],n,bp,by omega,hn,tp.symm⟩
theorem Qxk:∀ (k:Nat) (pre:List (List Int)) (a b:List Int) (s:Nat) (L:List (List Int)),chF k a b=some L->Uf a->Uf b->b.length<a.length->a.length<=60->Bd s a->Bd s b->(s+8)*3^(a.length-1)<=9000000->pre.length+a.length<=500 ->
 ∃ n,CRun n (pre++[a]) b (pre++[a]++L)/\L.length<=b.length
 | 0,_,_,_,_,_,h,_,_,_,_,_,_,_,_=>by cases h
 |
  k+1,pre,a,b,s,L,h,ta,tb,hab,hl,ba,bb,hs,hp=>by
  simp only [chF] at h
  split at h
  ·rename_i h0;injection h with h; subst h;rw [Xj];exact ⟨0,.stop h0,by simp⟩
  ·rename_i h0;obtain ⟨r0,hr0,h⟩:=Qe.1 h;obtain ⟨l,hl1,h⟩:=Qe.1 h;injection h with h; subst h;have er:r0=Fy a b:=by
    unfold chk at hr0
    split at hr0
    ·injection hr0 with hr0; exact hr0.symm
    ·cases hr0
   rw [er] at hl1;obtain ⟨n,r,r1,r2,r3,r4,r5,_⟩:=Qsj ta tb h0 hab hl ba bb hs;obtain ⟨k1,k2⟩:=Qe0 (s:=s) (m:=a.length-b.length) (lb:=b.length) (la:=a.length) (by omega) (by omega) hs;have hlp:=Aq r;have hln:=Di (Hf r);rw [<-r5] at hl1;obtain ⟨j,c1,c2⟩:=Qxk k (pre++[a]) b (S5 (Hf r)) (s+(a.length-b.length+1)*(s+8)) l hl1 tb (Ut _ _) (by omega) (by omega) (W9 bb (by omega)) (Qbx (Qkf r4)) k1 (by simp; omega);have hlast:Sj (pre++[a])=a:=by unfold Sj; simp
   refine ⟨j+1,.step (by omega) (by omega) (W9 bb (by omega)) (by rw [hlast]; exact r1) r2 (W9 r4 k2) (by omega) (by simp) (by simp; omega) ?_,by simp; omega⟩;have e:pre++[a]++b::l=pre++[a]++[b]++l:=by simp
   rw [e]; exact c1
theorem Q4j {P g q:List Int} {s:Nat} (sq:Sqp P g q) (l2:2<=q.length) (lq:q.length<=9) (bq:Bd s q) (hs:(s+4+8)*3^8<=9000000) {L:List (List Int)} (hL:chF 66 q (Uh (U3 q))=some L):ChRun q q (q::L):=by
 have pq:=sq.pq;have hpow:(s+4+8)*3^(q.length-1)<=9000000:=Qa (Zh _ (Zo (by decide) (by omega))) hs;have hs9:s+4<=8000000:=by
  have:(s+4+8)*3^8=(s+4+8)*6561:=rfl;omega
 have ld:=Te q;have bd:Bd (s+4) (U3 q):=Qmq bq (by omega);obtain ⟨p1,p2⟩:=Qr5 (r:=U3 q) (Ut _ _);obtain ⟨_,p3,p4,c,c1,c2⟩:=Es (a:=U3 q) (Ut _ _);have tp:Uf (Uh (U3 q)):=by
  rcases p2 with h | h
  ·rw [Qh h]; rfl
  ·exact h.t
 obtain ⟨m,h,g1,g2,g3,g4⟩:=Qx2 66 q (Uh (U3 q)) (s+4) (by omega) pq p2 tp (by omega) (by omega) (W9 bq (by omega)) (p4 _ bd) hpow;have hone:h=[1]:=by
  obtain ⟨c',_,hc'⟩:=sq.num g3 (by
   obtain ⟨z,hz⟩:=g4;exact ⟨Pq c z,λt=>by
    have:=hz t;rw [Ue] at this;rw [Hp,<-Dn,c2,this,Uw]; grind⟩)
  refine g2.one (Nat.lt_of_not_le λh2=>?_);have hd:=Qaw g2.t (by omega);have:=Mt (p:=cz h) (q:=[c']) (λt=>by rw [hc' t]; simp only [ev]; grind) (h.length-1);rw [Qg (l:=[c']),Qr (by simp; omega)] at this;exact hd.1 this
 subst hone;have hpq:=Qr4 pq;have t1:Uf [1]:=rfl;have dq:=Zbd pq.t (by omega) (W9 bq (by omega:s<=9000000));have fr:FRun q 1 (λ_=>q):=by
  refine ⟨⟨1,[q,[1]],?_,rfl,?_⟩,by decide⟩
  ·rw [Tk,hpq];refine .step (m:=m) (g:=[1]) (by show 1<q.length; omega) (by show q.length<=1000; omega) (by show Uf q; exact pq.t) (by show Bd 9000000 q; exact W9 bq (by omega)) (by show Bd 9000000 (U3 q); exact W9 bd (by omega)) ?_ (by show 1<=1000; decide) ?_
   ·show GRun m (Gf q) (Gf (U3 q)) [1];rw [Tk,Tk,hpq]; exact g1
   ·exact .stop (by show 1<=1; decide)
  ·intro k hk;have:k=0:=by omega
   subst this;exact ⟨q,[1],q,dq,div_one,by rw [Tk,hpq,Qr2]; exact dq,by rw [Tk,hpq]⟩
 obtain ⟨n,c3,c4⟩:=Qxk 66 [] q (Uh (U3 q)) (s+4) L hL pq.t tp (by omega) (by omega) (W9 bq (by omega)) (p4 _ bd) hpow (by simp; omega);have hsz:Hf (U3 q)=Uh (U3 q):=by
  have hlp:¬Ur (U3 q)<0:=by
   have h1:Ur (U3 q)=Un q*((q.length-1:Nat):Int):=by
    have hld:(U3 q).length=q.length-1:=by
     refine V5 ld (Ym λh=>?_);have h1:=Ty q (q.length-2);rw [Gq (by omega),show q.length-2+1=q.length-1 by omega] at h1;have h3:q.getD (q.length-1) 0≠0:=Gi pq.t (by omega);rcases Ya.1 h1.symm with h4 | h4
     ·exact h3 h4
     ·omega
    unfold Ur Un;rw [hld,Ty,show q.length-1-1+1=q.length-1 by omega]
   have:=W5 pq.l (show (0:Int)<((q.length-1:Nat):Int) by omega);omega
  unfold Hf;rw [if_neg hlp,Tk]
 refine ⟨⟨1,λ_=>q,fr,λi hi=>?_,?_⟩,⟨n,?_⟩,W9 bq (by omega),by omega,by simp; omega⟩
 ·have:i=0:=by omega
  subst this;exact ⟨b1 (by decide),by show 1<=1000; decide,W9 bq (by omega),show q.length<=1000 by omega⟩
 ·show q=Fv [1] q;rw [Qlm pq.t (by omega)]
 ·rw [hsz]; exact c3
def crR (C:List (List Int)) (p:List Int) (lo hi t:Rat):Int :=
 if U8 lo hi=0 then U8 lo t else if U8 t lo<=0 then 1 else if 0<U8 t hi then -1 else if Gx C lo t=0 then 1 else if U5 p t=0 then 0 else -1
theorem Qt1 {p:List Int} {C:List (List Int)} {lo hi:Rat} (V:Vt (cz p) (C.map cz) lo hi) (q:Rat):crR C p lo hi q=cq (cz p) lo hi q:=by
 have hl:=V.l;unfold crR;rw [if_neg (λh=>by have:=Ci.1 h; grind)];rcases Classical.em (q<=lo) with h1 | h1
 ·rw [if_pos (Ab.2 h1),Ni h1]
 rw [if_neg (λh=>h1 (Ab.1 h))];rcases Classical.em (hi<q) with h2 | h2
 ·rw [if_pos (Pe.2 h2),A8 hl h2]
 rw [if_neg (λh=>h2 (Pe.1 h))];have h1':lo<q:=Jr.1 h1;have h2':q<=hi:=Rat.not_lt.1 h2;rw [C7 (Qo h1'),Tu];rcases V.two h1' h2' with ⟨a,b,_⟩ | ⟨a,b,_⟩
 ·rw [if_pos (by rw [a]; omega),b]
 ·rw [if_neg (by have:=V.v; omega)];rw [Mq h1' h2',Ue] at *
  split
  ·rfl
  ·rename_i h0;rw [if_neg h0] at b
   split at b
   ·exact absurd rfl b
   ·rename_i hne; rw [if_neg hne]
theorem Qm6 {p:List Int} {C:List (List Int)} (x q:Rat):crR C p x x q=U8 x q:=by
 unfold crR;rw [if_pos (Ci.2 rfl)]
theorem Zb2 {t:Tm} {L:List (List Rat)} {D M k:Nat} {lo hi:Rat} (hu:Hv t D M k ⟨t.p,lo,hi⟩) (V:Vt (cz t.p) L lo hi) :
 (cq (cz t.p) lo hi (A9 lo hi)<=0->Hv t D M (k+1) ⟨t.p,lo,A9 lo hi⟩/\Vt (cz t.p) L lo (A9 lo hi))/\(¬cq (cz t.p) lo hi (A9 lo hi)<=0->Hv t D M (k+1) ⟨t.p,A9 lo hi,hi⟩/\Vt (cz t.p) L (A9 lo hi) hi):=by
 have hl:=V.l;have h2:(lo+hi) / 2*2=lo+hi:=Fb (by decide);have gm:Gr D M (k+1) (A9 lo hi):=by rw [Qbg]; exact Qug hu.l hu.h
 rw [Qbg] at *;generalize (lo+hi) / 2=m at *;have m1:lo<m:=by grind
 have m2:m<hi:=by grind
 have cut:∀ q,Up ⟨t.p,lo,hi⟩ q=cq (cz t.p) lo hi q:=λq=>Tc (t:=⟨t.p,lo,hi⟩) hl q
 refine ⟨λh=>?_,λh=>?_⟩
 ·have hm:cq (cz t.p) lo hi m≠1:=λe=>by omega
  have V':Vt (cz t.p) L lo m:=⟨V.s,m1,by rw [V.eq_hi m1 (Qo m2) hm]; exact V.v⟩;refine ⟨⟨rfl,.inr ⟨L,V'⟩,λq=>?_,Qfk hu.l,gm⟩,V'⟩;rw [<-hu.c q,cut q];show Up ⟨t.p,lo,m⟩ q=_;rw [Tc (t:=⟨t.p,lo,m⟩) m1 q];exact (V'.uniq V.cut (Ni Qn) hm V.van q).symm
 ·have hm:cq (cz t.p) lo hi m=1:=by
   rcases V.cut.val m with e | e | e <;> omega
  have V':Vt (cz t.p) L m hi:=⟨V.s,m2,by rw [V.eq_lo m1 (Qo m2) hm]; exact V.v⟩;refine ⟨⟨rfl,.inr ⟨L,V'⟩,λq=>?_,gm,Qfk hu.h⟩,V'⟩;rw [<-hu.c q,cut q];show Up ⟨t.p,m,hi⟩ q=_;rw [Tc (t:=⟨t.p,m,hi⟩) m2 q];exact (V'.uniq V.cut hm V.hi1 V.van q).symm
def p2 (k:Nat):Rat:=((2^k:Nat):Rat)
theorem Qi4 (a b:Nat):p2 (a+b)=p2 a*p2 b:=by unfold p2; rw [Nat.pow_add,Rat.natCast_mul]
theorem Qcq {a b:Nat} (h:a<=b):p2 a<=p2 b:=Zb.2 (Zo (by decide) h)
theorem Qlr (k:Nat):0<=p2 k:=Xn
theorem Qcr (k:Nat):p2 (k+1)=p2 k+p2 k:=by have:=Qly k; unfold p2; rw [this]; grind
theorem Q6v (k:Nat):1<=p2 k:=Qcq (Qi k)
theorem Qxw {S m:Nat} {R:Rat} (h0:0≤R) (hR:R≤p2 m):∀ {p:List Rat},(∀ a∈p,Uk a≤p2 S)->evB R p≤p2 (S+(m+1)*p.length)
 | [],_=>Qlr _
 |
  a::p,h=>by
  have ih:=Qxw h0 hR (p:=p) (λx hx=>h x (Ql _ hx));have h1:=h a (Qt ..);have h2:=S0 h0 hR (Ag h0 p) ih;rw [<-Qi4] at h2;have e:S+(m+1)*(a::p).length=(m+(S+(m+1)*p.length))+1:=by rw [Zc,Ka]; omega
  rw [e,Qcr];have h3:=Qcq (show S<=m+(S+(m+1)*p.length) by omega);simp only [evB]; grind
theorem Qxq {S m:Nat} {R:Rat} (h0:0≤R) (hR:R≤p2 m):∀ {p:List Rat},(∀ a∈p,Uk a≤p2 S)->dqB R p≤p2 (S+(m+1)*p.length)
 | [],_=>Qlr _
 |
  a::p,h=>by
  have hp:=λx hx=>h x (Ql a hx)
  have ih:=Qxq h0 hR (p:=p) hp;have h1:=Qxw h0 hR (p:=p) hp;have h2:=S0 h0 hR (Sx h0 p) ih;rw [<-Qi4] at h2;have e:S+(m+1)*(a::p).length=(m+(S+(m+1)*p.length))+1:=by rw [Zc,Ka]; omega
  rw [e,Qcr];have h3:=Qcq (show S+(m+1)*p.length<=m+(S+(m+1)*p.length) by omega);simp only [dqB]; grind
theorem Zgc {S:Nat} {p:List Int} (h:Bd S p):∀ a∈cz p,Uk a≤p2 S:=λa ha=>by
 obtain ⟨z,hz,rfl⟩:=Zg.1 ha;have h1:=Qbc (q:=(z:Rat));rw [Rat.num_intCast] at h1;exact Q7 h1 (Qcq (h z hz))
theorem Qyz {D:Rat} {b:Nat} (h0:0<=D) (h:D<=p2 b):∀ n:Nat,D^n<=p2 (b*n)/\0<=D^n
 | 0=>by rw [Xd]; exact ⟨Q6v _,by decide⟩
 |
  n+1=>by
  obtain ⟨h1,h2⟩:=Qyz h0 h n;rw [Z0,Ka,Qi4];exact ⟨S0 h2 h1 h0 h,Po h2 h0⟩
theorem Zcj {p:List Int} {n b:Nat} (hl:p.length=n+1) {q:Rat} (hb:Ul (q.den:Int)<=b) (h:Ug p q≠0):1<=Uk (Ug p q)*p2 (b*n):=by
 have hd0:(0:Rat)<((q.den:Int):Rat):=by
  have := @Rat.intCast_lt_intCast 0 (q.den:Int);rw [show ((0:Int):Rat)=0 from rfl] at this;exact this.2 (den_pos q)
 have hd:((q.den:Int):Rat)≠0:=by intro h; rw [h] at hd0; exact absurd hd0 (by decide)
 obtain ⟨_,hv⟩:=Qpc p q.num q.den hd p.length (Qj _);rw [Ye,X7,Gg,Zq] at hv;have hD:((q.den:Int):Rat)<=p2 b:=by
  have h1:=Rh.1 hb;rw [Zw] at h1;exact Zb.2 (Jt h1)
 generalize (S9 p q.num (q.den:Int) p.length).1=Z at hv;generalize ((q.den:Int):Rat)=D at *;rw [hl,Z0] at hv;have hZ:(Z:Rat)=D^n*Ug p q:=by
  have:((Z:Rat)-D^n*Ug p q)*D=0:=by grind
  rcases Jq.1 this with h' | h'
  ·grind
  ·exact absurd h' hd
 obtain ⟨k1,k2⟩:=Qyz (Qo hd0) hD n;have hp0:=Qof hd0 n;have hz0:Z≠0:=λe=>by
  rw [e] at hZ;rcases Jq.1 hZ.symm with h' | h'
  ·rw [h'] at hp0; exact absurd hp0 (by decide)
  ·exact h h'
 have h1:=As hz0;rw [hZ,Cn] at h1;have h2:Uk (D^n)=D^n:=by unfold Uk; rw [if_neg (by grind)]
 rw [h2] at h1;have:=Q4 k1 (Gj (Ug p q));grind
theorem Zbj {p:List Int} {L:List (List Rat)} {lo hi r:Rat} (V:Vt (cz p) L lo hi) {n b m S:Nat} (hl:p.length=n+1) (hS:Bd S p) (h1:Uk r<=p2 m) (h2:Uk hi<=p2 m) (hr:lo<r) (hc:cq (cz p) lo hi r=1) (hb:Ul (r.den:Int)<=b):1<=(hi-r)*p2 (S+(m+1)*(n+1)+b*n):=by
 have hrh:r<hi:=by
  rcases V0.1 (show r<=hi from by
   rcases Uy r hi with e | e
   ·exact e
   ·rw [A8 V.l e] at hc; exact absurd hc (by decide)) with e | e
  ·exact e
  ·rw [e] at hc; exact absurd hc V.hi1
 have s1:Uo (ev (cz p) r)=Tj (cz p) lo:=by
  rcases V.two hr (Qo hrh) with ⟨_,_,c⟩ | ⟨_,c,_⟩
  ·exact c
  ·exact absurd hc c
 have s0:=V.lowlo;have s2:Uo (ev (cz p) hi)≠Tj (cz p) lo:=λe=>by
  refine V.hi1 ?_;rw [Mq V.l Qn,if_neg (by rw [e]; exact s0),if_pos e]
 have hne:ev (cz p) r≠0:=λe=>s0 (by rw [<-s1]; exact Fa.2 e)
 have hd:Uk (ev (cz p) r)<=Uk (ev (cz p) hi-ev (cz p) r):=by
  rw [<-s1] at s2;unfold Uo at s2;unfold Uk;generalize ev (cz p) r=x at *;generalize ev (cz p) hi=y at *
  repeat' split
  all_goals (repeat' split at s2)
  all_goals grind
 have h3:=Q49 (R:=p2 m) h2 h1 (cz p);have h4:=Qxq (S:=S) (Qlr m) (Qn (a:=p2 m)) (Zgc hS);have hcl:(cz p).length=n+1:=by unfold cz; rw [List.length_map,hl]
 rw [hcl] at h4;have h5:=Zcj hl hb (by rw [<-Ue]; exact hne);rw [<-Ue] at h5;have hq:Uk (hi-r)=hi-r:=by unfold Uk; rw [if_neg (by grind)]
 rw [hq] at h3;have h6:Uk (ev (cz p) r)<=(hi-r)*p2 (S+(m+1)*(n+1)):=Q7 (Q7 hd h3) (by
  have:=Zl h4 (show 0<=hi-r by grind);exact this)
 have h7:=Q4 h6 (Qlr (b*n));rw [Qi4];grind
theorem Zg0 {β:Type} {Bc:Tm->List Ct} {Br:Tm->β} {c:Cr} {r:β} (hS:KSt Bc Br c r):∃ ws o,Nk c.now c.l=some ws/\Qi1 ws=some o/\KSt Bc Br { c with l:=ws } r/\match o with
 | none=>∀ x∈Bc c.now,Td x.p c.now none
 | some a=>Va a/\Pj c.now a/\(∃ x∈Bc c.now,Td x.p c.now (some a)/\a∈tms x.p)/\∀ x∈Bc c.now,∃ o',Td x.p c.now o'/\∀ u,o'=some u->¬Pj u a:=by
 obtain ⟨⟨ok,kk⟩,hcs,hr⟩:=hS;obtain ⟨ws,w1,w2,w3⟩:=Qnx ok.n ok.l kk;have ok':=Qac ok w1;rw [hcs] at w2;have hc_w:∀ x∈Bc c.now,∃ w∈ws,w.c=x:=λx hx=>by
  have:x∈ws.map (·.c):=by rw [w2]; exact C3.2 hx
  exact Zg.1 this
 have hw_c:∀ w∈ws,w.c∈Bc c.now:=λw hw=>C3.1 (by rw [<-w2]; exact List.mem_map_of_mem hw)
 obtain ⟨o,o1,o2⟩:=Quv ok'.l;refine ⟨ws,o,w1,o1,⟨⟨ok',λw hw _=>(w3 w hw).2⟩,w2,hr⟩,?_⟩;cases o with
 | none =>
  intro x hx;obtain ⟨w,hw,rfl⟩:=hc_w x hx;have:=(w3 w hw).2.1;rw [o2 w hw] at this;exact this
 |
  some a =>
  obtain ⟨va,⟨w,hw,hwa⟩,hmin⟩:=o2;have k:=(w3 w hw).2.1;rw [hwa] at k;exact ⟨va,k.2.2.1,⟨w.c,hw_c w hw,k,(w3 w hw).2.2 a hwa⟩,λx hx=>by
   obtain ⟨v,hv,rfl⟩:=hc_w x hx;exact ⟨v.fails,(w3 v hv).2.1,λu hu=>hmin v hv u hu⟩⟩
theorem Qua {Bc:Tm->List Ct} {now a:Tm} (hn:Va now) (ha:Va a) (hmin:∀ x∈Bc now,∃ o',Td x.p now o'/\∀ u,o'=some u->¬Pj u a) {t:Rat} (ht:Va (tq t)) (hta:Up a t=1) {E:List Tm} (h:Evs Bc t now E):E=[]:=by
 cases h with
 | nil=>rfl
 |
  cons he h1 h2 h3 h4 h5 =>
  exfalso;obtain ⟨x,hx,hxe⟩:=h4;obtain ⟨o',ho,hu⟩:=hmin x hx;cases o' with
  | none=>exact Qro hn hxe ho
  |
   some u =>
   have e:=Q6r hn hxe ho;exact hu u rfl ((Q8w e).1 (Zjo he.cut ht.cut h2 ((Is ha.cut).1 (by omega))))
theorem Q5b {Bc:Tm->List Ct} {now a:Tm} (hn:Va now) (ha:Va a) (hx:∃ x∈Bc now,Td x.p now (some a)) {t:Rat} (hta:Up a t≠1) {E:List Tm} (h:Evs Bc t now E):E≠[]:=by
 rintro rfl
 cases h with
 |
  nil h =>
  obtain ⟨x,hx,hxa⟩:=hx;obtain ⟨o',ho,hu⟩:=h x hx;cases o' with
  | none=>exact Qro hn hxa ho
  |
   some u =>
   have e:=Q6r hn hxa ho;have h1:=(Is ha.cut).2 ((Zdq e).2 (hu u rfl));rcases ha.cut.val t with h2 | h2 | h2 <;> omega
theorem Qnf {β:Type} {Bc:Tm->List Ct} {Br:Tm->β} (S:Stab Bc Br) {now:Tm} (hn:Va now) {t:Rat} (ht:Va (tq t)) (hnow:¬Pj (tq t) now) (h:Evs Bc t now []):Bc (tq t)=Bc now/\Br (tq t)=Br now:=by
 cases h with
 |
  nil h =>
  refine S.st _ _ hn ht λx hx=>?_
  obtain ⟨o,ho,hu⟩:=h x hx;exact Qeb (S.ok.p _ hn _ hx).dp hn ht hnow ho hu
structure LwS (t:Tm) (L:List (List Rat)) (D M k0 w0 j:Nat) (lo hi:Rat):Prop where
 hv:Hv t D M (k0+j) ⟨t.p,lo,hi⟩
 v:Vt (cz t.p) L lo hi
 w:(hi-lo)*p2 j<=p2 w0
theorem LwS.next {t:Tm} {L:List (List Rat)} {D M k0 w0 j:Nat} {lo hi:Rat} (h:LwS t L D M k0 w0 j lo hi) :
 (cq (cz t.p) lo hi (A9 lo hi)<=0->LwS t L D M k0 w0 (j+1) lo (A9 lo hi))/\(¬cq (cz t.p) lo hi (A9 lo hi)<=0->LwS t L D M k0 w0 (j+1) (A9 lo hi) hi):=by
 obtain ⟨s1,s2⟩:=Zb2 h.hv h.v;have h2:(lo+hi) / 2*2=lo+hi:=Fb (by decide);have e:=Qbg lo hi;have hw:=h.w;have hj:=Qcr j;refine ⟨λhc=>?_,λhc=>?_⟩
 ·obtain ⟨a,b⟩:=s1 hc;refine ⟨a,b,?_⟩;rw [e,hj];generalize (lo+hi) / 2=m at *;have:(m-lo)*(p2 j+p2 j)=(hi-lo)*p2 j:=by
   have:m+m=lo+hi:=by grind
   have:(m-lo)*(p2 j+p2 j)=(m+m-lo-lo)*p2 j:=by grind
   rw [this,‹m+m=lo+hi›]; grind
  rw [this]; exact hw
 ·obtain ⟨a,b⟩:=s2 hc;refine ⟨a,b,?_⟩;rw [e,hj];generalize (lo+hi) / 2=m at *;have:(hi-m)*(p2 j+p2 j)=(hi-lo)*p2 j:=by
   have:m+m=lo+hi:=by grind
   have:(hi-m)*(p2 j+p2 j)=(hi+hi-(m+m))*p2 j:=by grind
   rw [this,‹m+m=lo+hi›]; grind
  rw [this]; exact hw
theorem Qnk {D M k s:Nat} {x:Rat} (h:Gr D M k x) (hs:Ul (M:Int)<=s):Uk x<=p2 s:=by
 refine Q7 h.b ?_;have h1:=Rh.1 hs;rw [Zw] at h1;exact Zb.2 (Jt h1)
theorem LwS.few {t:Tm} {L:List (List Rat)} {D M k0 w0 j:Nat} {lo hi:Rat} (h:LwS t L D M k0 w0 j lo hi) {n S m b:Nat} (hl:t.p.length=n+1) (hS:Bd S t.p) (hM:Ul (M:Int)<=m) {r:Rat} (hb:Ul (r.den:Int)<=b) (hr:lo<r) (hc:Up t r=1):j<=w0+(S+(m+1)*(n+1)+b*n):=by
 have hcq:cq (cz t.p) lo hi r=1:=by
  rw [<-Tc (t:=⟨t.p,lo,hi⟩) h.v.l r,h.hv.c]; exact hc
 have q1:=Qnk h.hv.l hM;have q2:=Qnk h.hv.h hM;have hrh:r<=hi:=by
  rcases Uy r hi with e | e
  ·exact e
  ·rw [A8 h.v.l e] at hcq; exact absurd hcq (by decide)
 have q3:Uk r<=p2 m:=by
  have a1:=Rm.1 q1;have a2:=Rm.1 q2;rw [Rm];constructor
  ·exact Q7 a1.1 (Qo hr)
  ·exact Q7 hrh a2.2
 have hg:=Zbj h.v hl hS q3 q2 hr hcq hb;obtain ⟨G,hG⟩:=nmE (S+(m+1)*(n+1)+b*n);rw [<-hG] at hg ⊢;rcases Q6 (w0+G) j with hj | hj
 ·exfalso;have h1:=Qcq (show w0+G+1<=j from hj);rw [Qcr,Qi4] at h1;have hw:=h.w;have hlo:0<hi-lo:=by have:=h.v.l; grind
  have h2:(hi-r)*p2 G<=(hi-lo)*p2 G:=Q4 (by grind) (Qlr G);have h3:=Zl h1 (Qo hlo);have h4:1<=(hi-lo)*p2 G:=Q7 hg h2;have h5:=Q4 h4 (Qlr w0);have h6:=Q6v w0;have e1:(hi-lo)*(p2 w0*p2 G+p2 w0*p2 G)=(hi-lo)*p2 G*p2 w0+(hi-lo)*p2 G*p2 w0:=by grind
  rw [e1] at h3;grind
 ·exact hj
end Orq
namespace Orq
section
variable {α:Type} (X Y:α->Rat)
def lx (a b:α):Prop:=X a<X b\/X a=X b/\Y a<Y b
def ori (a b c:α):Rat:=(X b-X a)*(Y c-Y a)-(X c-X a)*(Y b-Y a)
variable {X Y}
def Edg (Q:α->α->Prop):List α->Prop
 | a::b::r=>Q a b/\Edg Q (b::r)
 | _=>True
def Cnv (R:α->α->α->Prop):List α->Prop
 | a::b::c::r=>R a b c/\Cnv R (b::c::r)
 | _=>True
theorem Edg.tail {Q:α->α->Prop} {a:α} {l:List α} (h:Edg Q (a::l)):Edg Q l:=by
 cases l with
 | nil=>trivial
 | cons b l=>exact h.2
theorem Cnv.tail {R:α->α->α->Prop} {a:α} {l:List α} (h:Cnv R (a::l)):Cnv R l:=by
 match l,h with
 | [],_=>trivial
 | [_],_=>trivial
 | b::c::l,h=>exact h.2
theorem Edg.imp {Q Q':α->α->Prop}:∀ {l:List α},(∀ a∈l,∀ b∈l,Q a b->Q' a b)->Edg Q l->Edg Q' l
 | [],_,_=>trivial
 | [_],_,_=>trivial
 | a::b::l,hq,h=>⟨hq a (by simp) b (by simp) h.1,Edg.imp (l:=b::l) (λx hx y hy=>hq x (Ql _ hx) y (Ql _ hy)) h.2⟩
theorem Cnv.imp {R R':α->α->α->Prop}:∀ {l:List α},(∀ a∈l,∀ b∈l,∀ c∈l,R a b c->R' a b c)->Cnv R l->Cnv R' l
 | [],_,_=>trivial
 | [_],_,_=>trivial
 | [_,_],_,_=>trivial
 | a::b::c::l,hq,h=>⟨hq a (by simp) b (by simp) c (by simp) h.1,Cnv.imp (l:=b::c::l) (λx hx y hy z hz=>hq x (Ql _ hx) y (Ql _ hy) z (Ql _ hz)) h.2⟩
structure Stk (X Y:α->Rat) (P:List α) (st:List α):Prop where
 srt:st.Pairwise λb a=>lx X Y a b
 mem:∀ p∈st,p∈P
 edg:Edg (λb a=>∀ p∈P,0≤ori X Y a b p) st
 cnv:Cnv (λc b a=>0<ori X Y a b c) st
theorem Stk.tail {P:List α} {a:α} {st:List α} (h:Stk X Y P (a::st)):Stk X Y P st:=⟨(Xg.1 h.srt).2,λp hp=>h.mem p (Ql _ hp),h.edg.tail,h.cnv.tail⟩
end
end Orq
namespace Orr
open Go
end Orr
namespace Orr
def Zn2 (s m:Pt×Pt):Bool:=decide (m.1.id≠s.1.id) || decide (m.2.id≠s.2.id)
def Qrd (i:Nat) (rows:List (List (List Int))):Nat->List (List (List Int))
 | 0=>[]
 | j+1=>if j=i then Qrd i rows j else Qrd i rows j++[(rows.getD j []).drop 1]
def Zg3 (rows:List (List (List Int))) (i:Nat):List (List (List Int)):=Qrd i rows rows.length
structure Sq (s:Nat) (ds:List Nat) (k w:Nat) (rows:List (List (List Int))):Prop where
 l:rows.length=k
 w:∀ r∈rows,r.length=w
 t:∀ r∈rows,∀ p∈r,Uf p
 b:∀ r∈rows,∀ p∈r,Bd s p
 n:∀ r∈rows,∀ (j:Nat) (p:List Int),r[j]? = some p->p.length≤ds.getD j 0+1
theorem Qiy {i:Nat} {rows:List (List (List Int))}:∀ {j:Nat} {r:List (List Int)},j≤rows.length->r∈Qrd i rows j->∃ q∈rows,r=q.drop 1
 | 0,r,_,h=>by simp [Qrd] at h
 |
  j+1,r,hj,h=>by
  simp only [Qrd] at h
  split at h
  ·exact Qiy (by omega) h
  ·rcases Q0.1 h with h | h
   ·exact Qiy (by omega) h
   ·rw [Qp.1 h];exact ⟨rows.getD j [],Qc (i:=j) (by rw [Qg,Qd (by omega)]; rfl),rfl⟩
theorem Qre {i:Nat} {rows:List (List (List Int))}:∀ (j:Nat),(Qrd i rows j).length=if i<j then j-1 else j
 | 0=>rfl
 |
  j+1=>by
  have ih:=Qre (i:=i) (rows:=rows) j;simp only [Qrd]
  split
  ·rename_i e; subst e; rw [ih,if_neg (by omega),if_pos (by omega)]; omega
  ·rw [Q8,ih,Yu]
   split <;> split <;> omega
theorem Sq.min {s d k w:Nat} {ds:List Nat} {rows:List (List (List Int))} (h:Sq s (d::ds) (k+1) (w+1) rows) {i:Nat} (hi:i<k+1):Sq s ds k w (Zg3 rows i):=by
 have hl:=h.l;have hm:∀ {r:List (List Int)},r∈Zg3 rows i->∃ q∈rows,r=q.drop 1:=λh=>Qiy (Qj _) h
 refine ⟨by unfold Zg3; rw [Qre,hl,if_pos hi]; omega,λr hr=>?_,λr hr p hp=>?_,λr hr p hp=>?_,λr hr j p hp=>?_⟩
 ·obtain ⟨q,hq,rfl⟩:=hm hr;rw [Z9,h.w q hq]; omega
 all_goals obtain ⟨q,hq,rfl⟩:=hm hr
 ·exact h.t q hq p (Qz hp)
 ·exact h.b q hq p (Qz hp)
 ·rw [Xf] at hp;have:=h.n q hq (1+j) p hp;rw [J5 1 j] at this;exact this
theorem Sq.at {s d k w:Nat} {ds:List Nat} {rows:List (List (List Int))} (h:Sq s (d::ds) k (w+1) rows) {i:Nat} (hi:i<k):∃ p r,rows[i]? = some (p::r)/\(rows.getD i []).getD 0 []=p/\Uf p/\Bd s p/\p.length<=d+1:=by
 obtain ⟨r,hr⟩:=gxE (l:=rows) (i:=i) (by rw [h.l]; exact hi);have hm:=Qc hr;cases r with
 | nil=>have:=h.w _ hm; simp at this
 |
  cons p r =>
  have e:rows.getD i []=p::r:=by rw [Qg,hr]; rfl
  refine ⟨p,r,hr,by rw [e]; rfl,h.t _ hm p (by simp),h.b _ hm p (by simp),h.n _ hm 0 p rfl⟩
end Orr
namespace Orr
open Go Go.Proofs Orq
set_option maxRecDepth 10000
theorem gz {P:Program} [Mo P] {n:Nat} {Q:Exit->Sg->List OB->Prop} {L L':Sg} {B B':List OB} (i:Nat) {it:List It} (hs:H4 it=true) (h:Q1f [i] L B=some (L',B')) (k:AK P n Q it L' B'):AK P n Q it L B:=AK.sub (Qcy h) hs k
end Orr
namespace Orq
open Orr Go
theorem Q02 {a b:Crv} (ha:Cs 10 3 a) (hb:Cs 10 3 b):Bd 21 (He a b)/\(He a b).length<=3:=by
 have l1:=Uz b.x a.d;have l2:=Uz a.x b.d;have:=ha.lx;have:=hb.lx;exact ⟨W9 (Dy (U9 hb.x ha.d) (U9 ha.x hb.d)) (by omega),Qa (Mv _ _) (by omega)⟩
theorem Q00 {a b:Crv} (ha:Cs 10 3 a) (hb:Cs 10 3 b):Bd 21 (Gw a b)/\(Gw a b).length<=3:=by
 have l1:=Uz b.y a.d;have l2:=Uz a.y b.d;have:=ha.ly;have:=hb.ly;exact ⟨W9 (Dy (U9 hb.y ha.d) (U9 ha.y hb.d)) (by omega),Qa (Mv _ _) (by omega)⟩
theorem Q01 {a b:Pt} (ha:Cs 10 3 a.c) (hb:Cs 10 3 b.c):Bd 86 (Pn a b)/\(Pn a b).length<=3:=by
 obtain ⟨b1,l1⟩:=Q00 hb ha;obtain ⟨b2,l2⟩:=Q02 hb ha;unfold Pn Lm
 split
 ·exact ⟨W9 b1 (by decide),by omega⟩
 ·exact ⟨W9 b2 (by decide),by omega⟩
theorem Zhk (q:Rat) (p:List Int):Re (tq q) p=U5 p q:=by
 unfold Re Qjl
 split
 ·rename_i h; rw [List.eq_nil_of_length_eq_zero h]; rfl
 ·rw [if_pos (Tz.2 (Qn (a:=q)))]; rfl
theorem Q5t (q:Rat) (p:List Int):B6 (Re (tq q)) p=Lq p q:=by
 have:Re (tq q)=λp=>U5 p q:=funext (Zhk q)
 rw [this]; rfl
theorem Qvp {b a r:List Int} {k:Nat} (h:RRun b k a r):r.length<b.length:=by
 induction h with
 | stop h=>exact h
 | step _ _ _ _ _ ih=>exact ih
theorem Qt2 {k:Nat} {l f:List (List Int)} {g:List Int} (h:CRun k l g f):(∀ p∈l,Bd 9000000 p/\p.length≤64)->g.length≤64->∀ p∈f,Bd 9000000 p/\p.length≤64:=by
 induction h with
 | stop _=>exact λh _=>h
 |
  step h1 h2 h3 h4 h5 h6 h7 h8 h9 _ ih =>
  intro hl hg;refine ih (λp hp=>?_) ?_
  ·rcases Q0.1 hp with hp | hp
   ·exact hl p hp
   ·rw [Qp.1 hp]; exact ⟨h3,hg⟩
  ·have:=Qvp h4;exact Qa (Di _) (Qa (Aq _) (by omega))
theorem Qp4 {p:List Int} {C:List (List Int)} (h:ChRun p p C) (hl:p.length≤60):∀ x∈C,Bd 9000000 x/\x.length≤64:=by
 obtain ⟨n,hn⟩:=h.chain;refine Qt2 hn (λx hx=>?_) ?_
 ·rw [Qp.1 hx]; exact ⟨W9 h.bd (by decide),by omega⟩
 ·refine Qa (Aq _) ?_;have:=Te p; omega
def bq (n:Nat):Nat->Nat
 | 0=>100
 | i+1=>17000+n*bq n i
structure HI (a:Tm) (L:List (List Rat)) (j:Nat) (lo hi:Rat):Prop where
 w:∃ D M k0,LwS a L D M k0 226 j lo hi/\0<M/\Ul (D:Int)<=224/\Ul (M:Int)<=225/\k0<=14925
structure HX (a:Tm) (C:List (List Int)) (q:Rat) (b j:Nat) (lo hi:Rat):Prop where
 ql:Qs b lo
 qh:Qs b hi
 c:lo=hi/\q<lo/\Up a hi=0\/HI a (C.map cz) j lo hi
theorem HI.qs {a:Tm} {L:List (List Rat)} {j:Nat} {lo hi:Rat} (h:HI a L j lo hi) {b:Nat} (hb:15374+j<=b):Qs b lo/\Qs b hi:=by
 obtain ⟨D,M,k0,hw,hM,h1,h2,h3⟩:=h.w;exact ⟨Qld hw.hv.l hM (by omega),Qld hw.hv.h hM (by omega)⟩
theorem HI.cq {a:Tm} {L:List (List Rat)} {j:Nat} {lo hi:Rat} (h:HI a L j lo hi) (q:Rat):Orq.cq (cz a.p) lo hi q=Up a q:=by
 obtain ⟨D,M,k0,hw,_⟩:=h.w;rw [<-Tc (t:=⟨a.p,lo,hi⟩) hw.v.l q]; exact hw.hv.c q
theorem HI.lt {a:Tm} {L:List (List Rat)} {j:Nat} {lo hi:Rat} (h:HI a L j lo hi):lo<hi:=by
 obtain ⟨D,M,k0,hw,_⟩:=h.w;exact hw.v.l
theorem HI.few {a:Tm} {L:List (List Rat)} {j:Nat} {lo hi:Rat} (h:HI a L j lo hi) {n b:Nat} (hn:a.p.length<=n+1) (h2:2<=a.p.length) (n4:n<=4) (hS:Bd 224 a.p) {r:Rat} (hb:Qs b r) (hr:lo<r) (hc:Up a r=1):j<=1580+n*b:=by
 obtain ⟨D,M,k0,hw,hM,h1,hM2,h3⟩:=h.w;have h5:=hw.few (n:=a.p.length-1) (by omega) hS hM2 (b:=b) hb.2 hr hc;have h6:b*(a.p.length-1)<=n*b:=by rw [Zf]; exact Qw _ (by omega)
 have h7:(225+1)*(a.p.length-1+1)<=(225+1)*5:=Zh _ (by omega);omega
structure HA (a:Tm) (n:Nat) (C:List (List Int)):Prop where
 va:Va a
 pt:a.point=false
 n:a.p.length<=n+1
 b:Bd 224 a.p
 ch:ChRun a.p a.p C
 pr:Gf a.p=a.p
 i:HI a (C.map cz) 0 a.lo a.hi
theorem Zje {a:Tm} (va:Va a) (hp:a.point=false) {n:Nat} (hz:Sz 86 (n+1) a) (n4:n<=4):∃ C,HA a n C:=by
 obtain ⟨l,P,g,h1,sq,V⟩:=va.sc hp;have hb:Bd 224 a.p:=hz.b;have hch:=Q4j sq va.n2 va.n hb (by decide) h1;obtain ⟨D,M,k,g1,g2,g3,g4,g5,g6⟩:=hz.g;refine ⟨a.p::l,va,hp,hz.n,hb,hch,by rw [Tk]; exact Qr4 sq.pq,⟨D,M,k,⟨⟨rfl,.inr ⟨_,V⟩,λ_=>rfl,g1,g2⟩,V,?_⟩,g3,g4,g5,by omega⟩⟩;have q1:=Rm.1 (Qnk g1 g5);have q2:=Rm.1 (Qnk g2 g5);have e:p2 226=p2 225+p2 225:=Qcr 225;have e0:p2 0=1:=rfl;rw [e,e0];grind
def xlo (a:Tm):Rat:=if U5 a.p a.hi=0 then a.hi else a.lo
theorem HA.start {a:Tm} {n:Nat} {C:List (List Int)} (h:HA a n C) {q:Rat} {b:Nat} (hq:Up a q=1) (hb:15374<=b):HX a C q b 0 (xlo a) a.hi:=by
 obtain ⟨q1,q2⟩:=h.i.qs (b:=b) (by omega);unfold xlo
 split
 ·rename_i h0;refine ⟨q2,q2,.inl ⟨rfl,?_,?_⟩⟩
  ·refine Jr.1 λhle=>?_
   have hc:=h.va.cut;have h1:Up a a.hi=0:=?_
   ·rcases V0.1 hle with h2 | h2
    ·have:=hc.mono' h2 (by omega); omega
    ·rw [h2] at h1; omega
   rw [<-h.i.cq,Mq h.i.lt Qn,if_pos (by rw [Ue,<-Tu]; exact h0)]
  ·rw [<-h.i.cq,Mq h.i.lt Qn,if_pos (by rw [Ue,<-Tu]; exact h0)]
 ·exact ⟨q1,q2,.inr h.i⟩
theorem HX.cmp {a:Tm} {C:List (List Int)} {q:Rat} {b j:Nat} {lo hi:Rat} (h:HX a C q b j lo hi) (hp:HI a (C.map cz) 0 a.lo a.hi) (hq:Up a q=1):crR C a.p lo hi q=1:=by
 rcases h.c with ⟨rfl,h1,_⟩ | h1
 ·rw [Qm6];rcases Rq lo q with ⟨e,e'⟩ | ⟨e,e'⟩ | ⟨e,e'⟩ <;> grind
 ·obtain ⟨D,M,k0,hw,_⟩:=h1.w;rw [Qt1 hw.v,h1.cq,hq]
theorem HX.next {a:Tm} {n:Nat} {C:List (List Int)} (ha:HA a n C) (n4:n<=4) {q:Rat} {b0 j:Nat} {lo hi:Rat} (h:HX a C q (17000+n*b0) j lo hi) (hb:Qs b0 q) (hq:Up a q=1) (hlo:lo<q) :
 lo<hi/\j<=1580+n*b0/\(crR C a.p lo hi (A9 lo hi)<=0->HX a C q (17000+n*b0) (j+1) lo (A9 lo hi))/\(¬crR C a.p lo hi (A9 lo hi)<=0->HX a C q (17000+n*b0) (j+1) (A9 lo hi) hi):=by
 rcases h.c with ⟨_,h1,_⟩ | h1
 ·grind
 ·have hj:=h1.few ha.n ha.va.n2 n4 ha.b hb hlo hq;obtain ⟨D,M,k0,hw,g1,g2,g3,g4⟩:=h1.w;obtain ⟨s1,s2⟩:=hw.next;refine ⟨h1.lt,hj,λhc=>?_,λhc=>?_⟩
  ·rw [Qt1 hw.v] at hc;have hi':HI a (C.map cz) (j+1) lo (A9 lo hi):=⟨D,M,k0,s1 hc,g1,g2,g3,g4⟩;obtain ⟨q1,q2⟩:=hi'.qs (b:=17000+n*b0) (by omega);exact ⟨q1,q2,.inr hi'⟩
  ·rw [Qt1 hw.v] at hc;have hi':HI a (C.map cz) (j+1) (A9 lo hi) hi:=⟨D,M,k0,s2 hc,g1,g2,g3,g4⟩;obtain ⟨q1,q2⟩:=hi'.qs (b:=17000+n*b0) (by omega);exact ⟨q1,q2,.inr hi'⟩
theorem HX.fin {a:Tm} {C:List (List Int)} {q:Rat} {b j:Nat} {lo hi:Rat} (ha:Va a) (h:HX a C q b j lo hi):(lo≠hi->Up a lo=1)/\Up a hi≠1/\lo<=hi:=by
 rcases h.c with ⟨h1,h2,h3⟩ | h1
 ·exact ⟨λh=>absurd h1 h,by omega,by rw [h1]; exact Qn⟩
 ·obtain ⟨D,M,k0,hw,_⟩:=h1.w;refine ⟨λ_=>by rw [<-h1.cq]; exact Ni Qn,by rw [<-h1.cq]; exact hw.v.hi1,Qo h1.lt⟩
theorem Zjf {p:List Int} (h:Cp p) {n:Nat} (n4:n<=4) (hb:Bd 86 p) (hn:p.length<=n+1) {a:Tm} (ha:Va a) (ht:a∈tms p):∃ C,HA a n C:=by
 unfold tms at ht;cases hl:Lx p with
 | none=>rw [hl] at ht; cases ht
 |
  some l =>
  rw [hl] at ht;obtain ⟨h1,h2⟩:=Q81 h (s:=86) (by decide) hb hl a ht;exact Zje ha h1 (n:=n) ⟨Qa h2.n hn,h2.b,h2.g⟩ n4
theorem Q2o {n:Nat} (h:n<=2):∀ i,i<=4->bq n i<=400000:=by
 have key:∀ i,bq n i<=bq 2 i:=λi=>by
  induction i with
  | zero=>exact Qj _
  | succ i ih=>exact Nat.add_le_add_left (Zt h ih) _
 have k1:=key 1; have k2:=key 2; have k3:=key 3; have k4:=key 4;have e1:bq 2 1=17200:=rfl;have e2:bq 2 2=51400:=rfl;have e3:bq 2 3=119800:=rfl;have e4:bq 2 4=256600:=rfl;intro i hi
 match i,hi with
 | 0,_=>show 100<=_; decide
 | 1,_=>omega
 | 2,_=>omega
 | 3,_=>omega
 | 4,_=>omega
end Orq
namespace Orr
open Go Orq
theorem Q9v {l:List Pt} (hl:∀ p∈l,Nml p.c/\Cs 10 3 p.c) {a:Tm}:∀ x∈bcT l a,Bd 86 x.p/\x.p.length≤3/\x.want=B6 (Re a) x.p:=λx hx=>by
 obtain ⟨m,hm,rfl⟩:=Zg.1 hx;obtain ⟨h1,h2⟩:=Bu m hm;have:=Q01 (hl _ h1).2 (hl _ h2).2;exact ⟨this.1,this.2,rfl⟩
end Orr
namespace Orr
open Go Go.Proofs Orq
set_option maxRecDepth 10000
def evF (a:Tm) (w:Wt):Option (List LV):=match w.fails with
 | none=>none
 | some t=>if Qf4 t a=some 0 then some ([.int .i64 w.c.kind,.int .i64 w.c.i0,.int .i64 w.c.i1,.int .i64 w.c.i2,.int .i64 w.c.i3]++ta t) else none
theorem Q48 {a:Tm} {ws:List Wt} {i:Nat} {w:Wt} (h:ws[i]? = some w):(ws.take (i+1)).filterMap (evF a)=(ws.take i).filterMap (evF a)++(evF a w).toList:=by
 rw [Xa,h,List.filterMap_append];show _++List.filterMap (evF a) [w]=_;cases hw:evF a w <;> simp [hw]
theorem Zbi {ws:List Wt} {a:Tm} (va:Va a) {w:Wt} (hw:w∈ws) (hf:w.fails=some a):0<(ws.filterMap (evF a)).length:=by
 obtain ⟨r,h1,h2⟩:=O5 va va;have h0:r=0:=by
  rcases h2 with ⟨_,h⟩ | ⟨e,_⟩ | ⟨_,h⟩
  ·exact absurd h λh=>Oa va.cut va.cut h h
  ·exact e
  ·exact absurd h λh=>Oa va.cut va.cut h h
 have he:evF a w=some ([.int .i64 w.c.kind,.int .i64 w.c.i0,.int .i64 w.c.i1,.int .i64 w.c.i2,.int .i64 w.c.i3]++ta a):=by
  unfold evF; rw [hf]; exact if_pos (by rw [h1,h0])
 obtain ⟨x,hx⟩:∃ x,x∈ws.filterMap (evF a):=⟨_,Jj.2 ⟨w,hw,he⟩⟩;exact List.length_pos_of_mem hx
theorem Qq8 {now:Tm}:∀ {ws:List Wt},(∀ w∈ws,w.known=true)->Nk now ws=some ws
 | [],_=>rfl
 |
  w::l,h=>by
  simp only [Nk];rw [if_pos (h w (Qt ..)),Qq8 λx hx=>h x (Ql _ hx)];rfl
theorem Qq9 {now:Tm} {l ws:List Wt} (h:Nk now l=some ws):∀ w∈ws,w.known=true:=λv hv=>by
 obtain ⟨h1,h2⟩:=Qab h;obtain ⟨i,hi⟩:=Jn hv;have hil:i<l.length:=by rw [<-h1]; exact (Qf.1 hi).1
 obtain ⟨v',h3,h4⟩:=h2 i _ (Qd hil);rw [hi] at h3; injection h3 with h3; subst h3;rcases h4 with ⟨h5,rfl⟩ | ⟨_,r,_,rfl⟩
 ·exact h5
 ·rfl
theorem Q3e {T:Nat} {c:Cr} {r0:List (List LV)} {r1:List (List LV)×List (List LV)} {ws:List Wt} {a:Tm} (hc:CrOk c) (h:Nk c.now c.l=some ws) (hr:Qi1 ws=some (some a)) (va:Va a):G6 Tryz.prog 26 [.one (.ow 0 0)] [.blk T (Hh c r0 r1)] [.one (.row (ws.filterMap (evF a)))] [.blk T (Hh { c with l:=ws } r0 r1)]:=by
 have cn:=Qmt (T:=T) (r0:=r0) (r1:=r1) hc h hr;have hc':=Qac hc h;have hk:=hc'.k;have hw:=Nc ws;refine Gk Tryz.func26 rfl ?_;refine go tt [.c [0] cn,.f rfl,.o 5 174 14] rfl trivial ?_;refine lp (S:=Nat) 3 (λL1 i=>(22,.v (.one (.int .i64 (i:Int))))::(5,.v (.one (.orow 2 14 none)))::L1) (λi=>[.blk T (Hh { c with l:=ws } r0 r1),.blk 74 (ta a),.row false 174 14 ((ws.take i).filterMap (evF a))]) (λi=>ws.length-i) (λi=>i<=ws.length) 0 (Qi _) rfl (λ_ _=>rfl) rfl λi hi=>?_
 by_cases hlt:i<ws.length
 ·obtain ⟨w,hx⟩:=gxE (l:=ws) (i:=i) hlt;have hl:decide ((i:Int)<((A3 ws).length:Int))=true:=by simp [hw]; omega
  have hfl:((ws.take i).filterMap (evF a)).length<=i:=Qa (V8 _ _) (by rw [Qq]; omega);have hg:=Q48 (a:=a) hx;have hvb:=(hc'.l w (Qc hx)).f;obtain ⟨wc,wk,wf⟩:=w;have hk:ws.length<=1000:=hk;cases wf with
  |
   none =>
   refine go tt [.t hl,.x (Rx hx),.g 28 false rfl,.f rfl] rfl (by simp [Ua]; omega) ?_;exact rd (i+1) (by omega) hlt (by rw [hg]; simp [evF]; rfl)
  |
   some t =>
   have vt:=hvb t rfl;obtain ⟨r,r1',_⟩:=O5 vt va;have cc:=Qhf vt.tb va.tb r1';by_cases D:r=0
   ·have he:evF a ⟨wc,wk,some t⟩=some ([.int .i64 wc.kind,.int .i64 wc.i0,.int .i64 wc.i1,.int .i64 wc.i2,.int .i64 wc.i3]++ta t):=if_pos (by rw [r1',D]);have cl:=L9 (b:=t) (l:=[]) vt.tb (λt ht=>by cases ht) (by decide) rfl;refine go tt [.t hl,.x (Rx hx),.g 28 true rfl,.c [] cc,.t (decide_eq_true D),.c [] cl,.s (l:=[[.int .i64 wc.kind,.int .i64 wc.i0,.int .i64 wc.i1,.int .i64 wc.i2,.int .i64 wc.i3]++ta t]) (sz:=14) (λc hc=>by rw [Qp.1 hc]; rfl)] rfl (by simp [Ua]; omega) ?_;exact rd (i+1) (by omega) hlt (by rw [hg,he]; rfl)
   ·have he:evF a ⟨wc,wk,some t⟩=none:=if_neg (by rw [r1']; intro h; injection h with h; exact D h);refine go tt [.t hl,.x (Rx hx),.g 28 true rfl,.c [] cc,.f (decide_eq_false D)] rfl (by simp [Ua]; omega) ?_;exact rd (i+1) (by omega) hlt (by rw [hg,he]; simp; rfl)
 ·obtain rfl:i=ws.length:=by omega
  rw [Za];exact ed tt [2] [0] [.f (by simp [hw])] rfl trivial
end Orr
namespace Orq
open Orr Go
theorem Q7t {β:Type} {Bc:Tm->List Ct} {Br:Tm->β} {n:Nat} (n4:n≤4) (hsz:∀ a,∀ x∈Bc a,Bd 86 x.p/\x.p.length≤n+1/\x.want=B6 (Re a) x.p) (S:Stab Bc Br) {c:Cr} {r:β} {q:Rat} (hS:KSt Bc Br c r) (hq:c.now=tq q) :
 ∃ ws o,Nk c.now c.l=some ws/\Qi1 ws=some o/\Nk c.now ws=some ws/\KSt Bc Br { c with l:=ws } r/\∀ a,o=some a->Va a/\0<(ws.filterMap (evF a)).length/\Up a q=1/\(∃ C,HA a n C)/\(∃ x∈Bc c.now,Td x.p c.now (some a))/\∀ x∈Bc c.now,∃ o',Td x.p c.now o'/\∀ u,o'=some u->¬Pj u a:=by
 obtain ⟨ws,o,h1,h2,h3,h4⟩:=Zg0 hS;refine ⟨ws,o,h1,h2,Qq8 (Qq9 h1),h3,λa ha=>?_⟩;subst ha;obtain ⟨va,hlt,⟨x,hx,hxn,hxt⟩,hmin⟩:=h4;obtain ⟨o',o1,o2⟩:=Quv h3.inv.ok.l;rw [h2] at o1;injection o1 with o1; subst o1;obtain ⟨_,⟨w,hw,hwf⟩,_⟩:=o2;obtain ⟨k1,k2,_⟩:=hsz c.now x hx;have hcp:=S.ok.p _ hS.inv.ok.n _ hx;refine ⟨va,Zbi va hw hwf,?_,Zjf hcp n4 k1 k2 va hxt,⟨x,hx,hxn⟩,hmin⟩;rw [hq] at hlt;have h5:=(Is va.cut (t:=q)).2 hlt;rcases va.cut.val q with e | e | e <;> omega
theorem Zjg {β:Type} {Bc:Tm->List Ct} {Br:Tm->β} {n:Nat} (hsz:∀ a,∀ x∈Bc a,Bd 86 x.p/\x.p.length≤n+1/\x.want=B6 (Re a) x.p) {c:Cr} {r:β} {q:Rat} (hS:KSt Bc Br c r) (hq:c.now=tq q):∀ x∈Gm (c.l.map (·.c)),Bd 86 x.p/\x.p.length≤n+1/\Uf x.p/\Lq x.p q=x.want:=λx hx=>by
 have h1:=C3.1 hx;obtain ⟨w,hw,rfl⟩:=Zg.1 h1;have h2:w.c∈Gm (Bc c.now):=by rw [<-hS.cs]; exact h1
 obtain ⟨k1,k2,k3⟩:=hsz _ _ (C3.1 h2);refine ⟨k1,k2,(hS.inv.ok.l w hw).p.t,?_⟩;rw [k3,hq,Q5t]
end Orq
namespace Orr
open Go Go.Proofs Orq
set_option maxRecDepth 10000
abbrev ax (p:List Int) (C:List (List Int)) (lo hi:Rat):List LV:=[rp (zp p),.row (zls C)]++fr lo++fr hi
theorem Qqx {sg:List Int->Int} {l:List (List Int)} {i:Nat} {p:List Int} (h:l[i]? = some p):(idl (l.map sg))[i]? = some [.int .i64 (sg p)]:=Zbm (by rw [Q5,h]; rfl)
theorem Q33 {l:List (List Int)} {sg:List Int->Int} (hl:l.length<=1000) (hs:∀ p,-1<=sg p/\sg p<=1):Ub Tryz.prog 219 [.one (.row (idl (l.map sg)))] [.one (.int .i64 (P3 sg l:Nat))]:=by
 have hpl:(idl (l.map sg)).length=l.length:=by simp
 refine Gk Tryz.func219 rfl ?_;refine go tt [] rfl trivial ?_;refine lp (S:=Nat) 0 (λL1 i=>(8,.v (.one (.int .i64 (i:Int))))::(3,.v (.one (.int .i64 ((C6 sg l i).1:Int))))::(4,.v (.one (.int .i64 (C6 sg l i).2)))::L1) (λ_=>[]) (λi=>l.length-i) (λi=>i<=l.length) 0 (Qi _) rfl (λ_ _=>rfl) rfl λi hi=>?_
 by_cases hlt:i<l.length
 ·obtain ⟨p,hp⟩:=gxE (l:=l) (i:=i) hlt;have hst:C6 sg l (i+1)=Ht sg (C6 sg l i) p:=P6 _ _ _ hp;obtain ⟨b1,b2,b3⟩:=Qjs hs l i;have b4:=hs p;have hx:=Qqx (sg:=sg) hp;have ht:decide ((i:Int)<((idl (l.map sg)).length:Int))=true:=decide_eq_true (by omega);by_cases h0:sg p=0
  ·refine go tt [.t ht,.x hx,.f (by simpa using h0)] rfl (by simp [Ua]; omega) ?_;exact rd (i+1) (by omega) hlt (by rw [hst,show Ht sg (C6 sg l i) p=C6 sg l i from by unfold Ht; rw [if_pos h0]]; rfl)
  ·by_cases h2:(C6 sg l i).2=0
   ·refine go tt [.t ht,.x hx,.t (by simpa using h0),.g 18 false (by simp [h2]),.f rfl,.x hx] rfl (by simp [Ua]; omega) ?_;exact rd (i+1) (by omega) hlt (by rw [hst,show Ht sg (C6 sg l i) p=((C6 sg l i).1,sg p) from by unfold Ht; rw [if_neg h0,if_neg (by omega)]]; rfl)
   ·by_cases h1:(C6 sg l i).2=-(sg p)
    ·refine go tt [.t ht,.x hx,.t (by simpa using h0),.g 18 true (by simpa using h2),.x hx,.t (by simp; omega),.x hx] rfl (by simp [Ua]; omega) ?_;exact rd (i+1) (by omega) hlt (by rw [hst,show Ht sg (C6 sg l i) p=((C6 sg l i).1+1,sg p) from by unfold Ht; rw [if_neg h0,if_pos h1]]; rfl)
    ·refine go tt [.t ht,.x hx,.t (by simpa using h0),.g 18 true (by simpa using h2),.x hx,.f (by simp; omega),.x hx] rfl (by simp [Ua]; omega) ?_;exact rd (i+1) (by omega) hlt (by rw [hst,show Ht sg (C6 sg l i) p=((C6 sg l i).1,sg p) from by unfold Ht; rw [if_neg h0,if_neg h1]]; rfl)
 ·obtain rfl:i=l.length:=by omega
  refine en tt [.f (decide_eq_false (by omega))] rfl ?_ trivial;unfold C6 P3; rw [List.take_length]
def Cok (C:List (List Int)):Prop:=C.length≤1000/\∀ p∈C,Bd 9000000 p/\p.length≤64
theorem Qhp {C:List (List Int)} {q:Rat} (hC:Cok C) (hq:Qs 1000000 q):Ub Tryz.prog 164 [.one (.row (zls C)),.agg (fr q)] [.one (.int .i64 (So C q:Nat))]:=by
 obtain ⟨hl,hp⟩:=hC;have hzl:=A5 C;refine Gk Tryz.func164 rfl ?_;refine go tt [.o 5 3 1] rfl trivial ?_;refine lp (S:=Nat) 2 (λL1 i=>(9,.v (.one (.int .i64 (i:Int))))::(5,.v (.one (.orow 1 1 none)))::L1) (λi=>[.blk 35 (fr q),.row false 3 1 (idl ((C.take i).map λp=>U5 p q))]) (λi=>C.length-i) (λi=>i<=C.length) 0 (Qi _) rfl (λ_ _=>rfl) rfl λi hi=>?_
 have hol:(idl ((C.take i).map λp=>U5 p q)).length=i:=by simp; omega
 by_cases h:i<C.length
 ·have hx:=A4 h;have hm:=Xv h;have he:C.getD i []=C[i]:=by rw [Qg,Qd h]; rfl
  rw [he] at hx;have cs:=Qb2 (W9 (hp _ hm).1 (by decide)) (hp _ hm).2 hq;have hg:idl ((C.take (i+1)).map λp=>U5 p q)=idl ((C.take i).map λp=>U5 p q)++[[.int .i64 (U5 C[i] q)]]:=by
   have e:(C.take (i+1)).map (λp=>U5 p q)=(C.take i).map (λp=>U5 p q)++[U5 C[i] q]:=by rw [Xa,Qd h,Yc]; rfl
   rw [e]; exact Yc
  refine go tt [.t (decide_eq_true (by omega)),.x hx,.c [] cs,.s (sz:=1) (Quy _)] rfl (by simp [Ua,hol,-List.map_take]; omega) ?_;exact rd (i+1) (by omega) h (by rw [hg]; rfl)
 ·have e:i=C.length:=by omega
  rw [e,Za];exact en tt [.f (decide_eq_false (by omega)),.p 1,.c [] (Q33 (sg:=λp=>U5 p q) hl λp=>M5 p q)] rfl rfl trivial
theorem Qtu {C:List (List Int)} {lo hi:Rat} (hC:Cok C) (ql:Qs 1000000 lo) (qh:Qs 1000000 hi):Ub Tryz.prog 93 [.one (.row (zls C)),.agg (fr lo),.agg (fr hi)] [.one (.int .i64 (Gx C lo hi))]:=by
 have b1:So C lo<=C.length:=P4 (λp=>M5 p lo) C;have b2:So C hi<=C.length:=P4 (λp=>M5 p hi) C;have hl:=hC.1;have c1:=Ch (qh.mono (by decide)) (ql.mono (by decide));unfold Gx;by_cases h:U8 hi lo<0
 ·rw [if_pos h];exact w tt Tryz.func93 rfl [.c [] c1,.t (by simpa using h)] rfl rfl trivial
 ·rw [if_neg h];exact w tt Tryz.func93 rfl [.c [] c1,.f (by simpa using h),.c [] (Qhp hC ql),.c [] (Qhp hC qh)] rfl rfl (by simp [Ua]; omega)
theorem Qpx {p:List Int} {C:List (List Int)} {lo hi:Rat} (ql:Qs 1000000 lo) (qh:Qs 1000000 hi):Ub Tryz.prog 89 [.agg (ax p C lo hi)] [.one (.bool (decide (U8 lo hi=0)))] :=
 w tt Tryz.func89 rfl [.c [] (Ch (ql.mono (by decide)) (qh.mono (by decide)))] rfl rfl trivial
theorem O2 {p:List Int} {C:List (List Int)} {lo hi t:Rat} (hp:Bd 30000000 p) (hpl:p.length<=64) (hC:Cok C) (ql:Qs 1000000 lo) (qh:Qs 1000000 hi) (qt:Qs 1000000 t):Ub Tryz.prog 28 [.agg (ax p C lo hi),.agg (fr t)] [.one (.int .i64 (crR C p lo hi t))]:=by
 have c0:=Qpx (p:=p) (C:=C) ql qh;have c1:=Ch (ql.mono (t:=40000000) (by decide)) (qt.mono (by decide));have c2:=Ch (qt.mono (t:=40000000) (by decide)) (ql.mono (by decide));have c3:=Ch (qt.mono (t:=40000000) (by decide)) (qh.mono (by decide));have c4:=Qtu hC ql qt;have c5:=Qb2 hp hpl qt;unfold crR;by_cases h0:U8 lo hi=0
 ·rw [if_pos h0];exact w tt Tryz.func28 rfl [.c [] c0,.t (decide_eq_true h0),.c [] c1] rfl rfl trivial
 rw [if_neg h0];by_cases h1:U8 t lo<=0
 ·rw [if_pos h1];exact w tt Tryz.func28 rfl [.c [] c0,.f (decide_eq_false h0),.c [] c2,.t (decide_eq_true h1)] rfl rfl trivial
 rw [if_neg h1];by_cases h2:0<U8 t hi
 ·rw [if_pos h2];exact w tt Tryz.func28 rfl [.c [] c0,.f (decide_eq_false h0),.c [] c2,.f (decide_eq_false h1),.c [] c3,.t (decide_eq_true h2)] rfl rfl trivial
 rw [if_neg h2];by_cases h3:Gx C lo t=0
 ·rw [if_pos h3];exact w tt Tryz.func28 rfl [.c [] c0,.f (decide_eq_false h0),.c [] c2,.f (decide_eq_false h1),.c [] c3,.f (decide_eq_false h2),.c [] c4,.t (decide_eq_true h3)] rfl rfl trivial
 rw [if_neg h3];by_cases h4:U5 p t=0
 ·rw [if_pos h4];exact w tt Tryz.func28 rfl [.c [] c0,.f (decide_eq_false h0),.c [] c2,.f (decide_eq_false h1),.c [] c3,.f (decide_eq_false h2),.c [] c4,.f (decide_eq_false h3),.c [] c5,.t (decide_eq_true h4)] rfl rfl trivial
 rw [if_neg h4];exact w tt Tryz.func28 rfl [.c [] c0,.f (decide_eq_false h0),.c [] c2,.f (decide_eq_false h1),.c [] c3,.f (decide_eq_false h2),.c [] c4,.f (decide_eq_false h3),.c [] c5,.f (decide_eq_false h4)] rfl rfl trivial
theorem Zah {p:List Int} {C c:List (List Int)} {lo hi t:Rat} (hp:Bd 30000000 p) (hpl:p.length<=64) (hC:Cok C) (ql:Qs 1000000 lo) (qh:Qs 1000000 hi) (qt:Qs 1000000 t) (hc:Cok c):Ub Tryz.prog 25 [.agg (ax p C lo hi),.agg (aq t c)] [.one (.int .i64 (crR C p lo hi t))]:=by
 have c0:=Qpx (p:=p) (C:=C) ql qh;have ct:Ub Tryz.prog 89 [.agg (aq t c)] [.one (.bool true)]:=Qhq qt;have c1:=O2 hp hpl hC ql qh qt;by_cases h0:U8 lo hi=0
 ·have e:crR C p lo hi t=-(crR c [-t.num,(t.den:Int)] t t lo):=by
   rw [Qm6]; unfold crR; rw [if_pos h0];rcases Rq lo t with ⟨e,h⟩ | ⟨e,h⟩ | ⟨e,h⟩ <;> rcases Rq t lo with ⟨e',h'⟩ | ⟨e',h'⟩ | ⟨e',h'⟩ <;> grind
  have hbt:Bd 30000000 [-t.num,(t.den:Int)]:=W9 (Q2m qt.1 qt.2) (by decide);have c2:=O2 (p:=[-t.num,(t.den:Int)]) (C:=c) (lo:=t) (hi:=t) hbt (by show 2<=64; decide) hc qt qt ql;have hb:-1<=crR c [-t.num,(t.den:Int)] t t lo/\crR c [-t.num,(t.den:Int)] t t lo<=1:=by
   rw [Qm6]; rcases Rq t lo with ⟨e',h'⟩ | ⟨e',h'⟩ | ⟨e',h'⟩ <;> omega
  rw [e];exact w tt Tryz.func25 rfl [.c [] c0,.t (decide_eq_true h0),.c [] c2] rfl rfl (by simp [Ua]; omega)
 ·exact w tt Tryz.func25 rfl [.c [] c0,.f (decide_eq_false h0),.c [] ct,.t rfl,.c [] c1] rfl rfl trivial
theorem Qwq {q:Rat} (hq:Qs 1000000 q):Ub Tryz.prog 82 [.agg (rl q)] [.agg (fr q)]:=by
 have h1:Ul q.num<=1000000:=hq.1;have h2:Ul (q.den:Int)<=1000000:=hq.2;have cm:=O3 (a:=q.num) (b:=(q.den:Int)) (by omega) (by omega);have e:Ft q.num (q.den:Int)=q:=by rw [Qai (by have:=den_pos q; omega),Zq]
 rw [e] at cm;exact w tt Tryz.func82 rfl [.c [] (Qdv (z:=q.num) (by omega)),.c [] (Qdv (z:=(q.den:Int)) (by omega)),.c [] cm] rfl rfl trivial
def Q0o (p:List Int) (lo hi:Rat):Rat:=if U8 lo hi≠0/\U5 p hi=0 then hi else lo
theorem Zak {p:List Int} {C:List (List Int)} {lo hi:Rat} (hp:Bd 30000000 p) (hpl:p.length<=64) (ql:Qs 1000000 lo) (qh:Qs 1000000 hi):Ub Tryz.prog 81 [.agg (ax p C lo hi)] [.agg (ax p C (Q0o p lo hi) hi)]:=by
 have c1:=Ch (ql.mono (t:=40000000) (by decide)) (qh.mono (by decide));have c2:=Qb2 hp hpl qh;unfold Q0o;by_cases h0:U8 lo hi=0
 ·rw [if_neg (λh=>h.1 h0)];exact w tt Tryz.func81 rfl [.c [] c1,.g 9 false (by simp [h0]),.f rfl] rfl rfl trivial
 by_cases h1:U5 p hi=0
 ·rw [if_pos ⟨h0,h1⟩];exact w tt Tryz.func81 rfl [.c [] c1,.g 9 true (by simp [h0]),.c [] c2,.t (decide_eq_true h1)] rfl rfl trivial
 ·rw [if_neg (λh=>h1 h.2)];exact w tt Tryz.func81 rfl [.c [] c1,.g 9 true (by simp [h0]),.c [] c2,.f (decide_eq_false h1)] rfl rfl trivial
theorem Qwp {p:List Int} {C:List (List Int)} {lo hi:Rat} (tp:Uf p) (hp:Bd 8000000 p) (h2:2<=p.length) (hpl:p.length<=64) (hpr:Gf p=p) (hC:ChRun p p C) (ql:Qs 1000000 lo) (qh:Qs 1000000 hi):Ub Tryz.prog 20 [.agg (ta ⟨p,lo,hi⟩)] [.agg (ax p C (Q0o p lo hi) hi)]:=by
 have cf:=D4 (p:=p) (W9 hp (by decide)) (by omega);rw [tp] at cf;have cp:=D5 tp (W9 hp (by decide)) (by omega);rw [hpr] at cp;have cc:=Qpy tp (W9 hp (by decide)) (by omega) h2 hC;have ce:=Zak (p:=p) (C:=C) (lo:=lo) (hi:=hi) (W9 hp (by decide)) hpl ql qh;exact w tt Tryz.func20 rfl [.c [] cf,.c [] cp,.c [] cc,.c [] (Qwq ql),.c [] (Qwq qh),.c [] ce] rfl rfl trivial
theorem Qvi {q:Rat} (h:Qs 1000000 q):ChRun [-q.num,(q.den:Int)] [-q.num,(q.den:Int)] [[-q.num,(q.den:Int)],[1]]/\Gf [-q.num,(q.den:Int)]=[-q.num,(q.den:Int)]:=by
 have hg:Int.gcd (-q.num) (q.den:Int)=1:=by
  rw [Int.neg_gcd];have:=q.reduced;unfold Nat.Coprime at this;simpa [Int.gcd] using this
 exact ⟨Qkm (den_pos q) hg (by rw [Fx]; exact h.1) h.2,Oh (den_pos q) hg⟩
theorem Q2t {q:Rat} (h:Qs 1000000 q):Ub Tryz.prog 20 [.agg (ta (tq q))] [.agg (aq q [[-q.num,(q.den:Int)],[1]])]:=by
 obtain ⟨h1,h2⟩:=Qvi h;have c:=Qwp (p:=[-q.num,(q.den:Int)]) (lo:=q) (hi:=q) (Qo2 q) (W9 (bd2 (s:=1000000) (by rw [Fx]; exact h.1) h.2) (by decide)) (by show 2<=2; decide) (by show 2<=64; decide) h2 h1 h h;have e:Q0o [-q.num,(q.den:Int)] q q=q:=if_neg λh=>h.1 (Ci.2 rfl)
 rw [e] at c;exact c
theorem Zi5 {q:Rat} (h:Qs 1000000 q):Cok [[-q.num,(q.den:Int)],[1]]:=⟨by show 2<=1000; decide,λp hp=>by
 simp only [Qx,Wq,or_false] at hp;rcases hp with rfl | rfl
 ·exact ⟨W9 (bd2 (s:=1000000) (by rw [Fx]; exact h.1) h.2) (by decide),by show 2<=64; decide⟩
 ·exact ⟨b1 (by decide),by show 1<=64; decide⟩⟩
theorem Zai {lo hi:Rat} (ql:Qs 1000000 lo) (qh:Qs 1000000 hi):Ub Tryz.prog 95 [.agg (fr lo),.agg (fr hi)] [.agg (fr (A9 lo hi))]:=by
 have c1:=Qtg (ql.mono (t:=20000000) (by decide)) (qh.mono (by decide));have c2:=Zea (n:=1) (d:=2) (by decide) (by decide);have e:Ft 1 2=(1:Rat) / 2:=by rw [Qai (by decide)]; decide +kernel
 rw [e] at c2;have q1:Qs 40000000 (lo+hi):=(Zhb ql qh).mono (by decide);have q2:Qs 40000000 ((1:Rat) / 2):=by rw [<-e]; exact ⟨by decide,by decide⟩
 have c3:=Qtk q1 q2;have em:(lo+hi)*((1:Rat) / 2)=A9 lo hi:=by rw [Qbg]; grind
 rw [em] at c3;exact w tt Tryz.func95 rfl [.c [] c1,.c [] c2,.c [] c3] rfl rfl trivial
theorem Qki {p:List Int} {C:List (List Int)} {lo hi:Rat} (hp:Bd 30000000 p) (hpl:p.length<=64) (hC:Cok C) (ql:Qs 1000000 lo) (qh:Qs 1000000 hi) (qm:Qs 1000000 (A9 lo hi)) (hne:lo≠hi):Ub Tryz.prog 38 [.agg (ax p C lo hi)] [.agg (if crR C p lo hi (A9 lo hi)<=0 then ax p C lo (A9 lo hi) else ax p C (A9 lo hi) hi)]:=by
 have c1:=Ch (ql.mono (t:=40000000) (by decide)) (qh.mono (by decide));have c2:=Zai ql qh;have c3:=O2 hp hpl hC ql qh qm;have h0:¬U8 lo hi=0:=λh=>hne (Ci.1 h)
 by_cases h:crR C p lo hi (A9 lo hi)<=0
 ·rw [if_pos h];exact w tt Tryz.func38 rfl [.c [] c1,.f (decide_eq_false h0),.c [] c2,.c [] c3,.t (decide_eq_true h)] rfl rfl trivial
 ·rw [if_neg h];exact w tt Tryz.func38 rfl [.c [] c1,.f (decide_eq_false h0),.c [] c2,.c [] c3,.f (decide_eq_false h)] rfl rfl trivial
set_option maxHeartbeats 8000000 in
theorem Qj3 {zs:List RawPt} {n d:Int} (hz:∀ z∈zs,z.Ok) (hn:-9223372036854775808≤n/\n≤9223372036854775807) (hdd:-9223372036854775808≤d/\d≤9223372036854775807):Ub Tryz.prog 5 [.one (.row (Qc6 zs)),.one (.int .i64 n),.one (.int .i64 d)] [.one (.bool true)]:=by
 obtain ⟨e,he,hd,hm⟩:=Zga (Qeu 4 20 zs);have hq0:=Qmb n d;have cb:=Qz5 hz rfl he hd hm hn hdd (Zj0 (hq0.mono (by decide))) rfl;obtain ⟨O,hO⟩:=nmE (Qeu 4 20 zs);have hO4:O.length<=4:=by rw [hO]; exact I2 _ _ (Qi _)
 have hlit:∀ p∈O,Qzp p:=λp hp=>by rw [hO] at hp; exact Qlj (by decide) p hp
 rw [<-hO] at cb he hd;obtain ⟨M,hM⟩:=nmE (Gn Bq (Qat O e));rw [<-hM] at cb;obtain ⟨q,hq⟩:=nmE (Ay n d);rw [<-hq] at cb hq0;have hcn:(Qat O e).length=e:=by rw [Qfq,Qb3 he]
 have hMl:M.length=e:=by rw [hM,Pi,hcn]
 have hMd:Lj M:=by rw [hM]; exact Q0i (Qvy _).symm (Qkr hd)
 have hok:∀ p∈M,Nml p.c/\Cs 10 3 p.c:=λp hp=>by
  rw [hM,Qan] at hp;exact Qxl hlit e p hp
 have hsc:∀ p∈M,Sc p.c:=λp hp=>⟨(hok p hp).1,(hok p hp).2.mono (by decide) (by decide)⟩
 have hln:M.length<=1000:=by omega
 have hv:Va (tq q):=Q10 (hq0.mono (by decide));have S:Stab (bcT M) (brT M):=Zka hsc hln hMd;obtain ⟨c0,hc0⟩:=nmE (Q2n M (tq q));have hst:KSt (bcT M) (brT M) c0 (brT M (tq q)):=by rw [hc0]; exact Zfl S hv
 have hn0:c0.now=tq q:=by rw [hc0]; rfl
 have hev0:c0.ev=0:=by rw [hc0]; rfl
 rw [<-hc0] at cb;have hal:(Qjz M).length<=1000000:=by
  rw [Q2e];have:M.length*(M.length*2)<=4*(4*2):=Zt (by omega) (Zt (by omega) (Qj 2));omega
 have hsz:∀ a,∀ x∈bcT M a,Bd 86 x.p/\x.p.length≤2+1/\x.want=B6 (Re a) x.p:=λa=>Q9v hok
 have adv:=λ{t:Rat} (ht:Qs 400000 t) {c:Cr} {r:List (List LV)×List (List LV)} (hS:KSt (bcT M) (brT M) c r) (h:Up c.now t<=0)=>Zfc S (Qmo hsc) (λa _=>Q9u) hal ht hS h
 refine Gk Tryz.func5 rfl ?_;refine go tt [.c [0,1] cb,.f rfl] rfl trivial ?_;refine lp (S:=Nat×Cr×(List (List LV)×List (List LV))×Rat) 2 (λL1 s=>(10,.v (.one (.int .i64 (s.1:Int))))::L1) (λs=>[.blk 112 (Hh s.2.1 (Uq M) s.2.2.1),.blk 185 (plB M q [[-q.num,(q.den:Int)],[1]] (Ic q M))]) (λs=>4-s.1) (λs=>s.1<=4/\KSt (bcT M) (brT M) s.2.1 s.2.2.1/\s.2.1.now=tq s.2.2.2/\Qs (bq 2 s.1) s.2.2.2/\0<=s.2.1.ev/\s.2.1.ev<=((s.1*67000000:Nat):Int)) (0,c0,brT M (tq q),q) ⟨Qi _,hst,hn0,hq0.mono (by show 100<=100; decide),by show 0<=c0.ev; omega,by show c0.ev<=_; omega⟩ rfl (λ_ _=>rfl) rfl λ⟨i,c,r,cur⟩ ⟨hi,hS,hcur,hcq,hev1,hev2⟩=>?_
 dsimp only at hi hS hcur hcq hev1 hev2 ⊢;by_cases hr:i<4
 ·have hb1:bq 2 i<=400000:=Q2o (by decide) i (by omega);have hb2:bq 2 (i+1)<=400000:=Q2o (by decide) (i+1) (by omega);have h4:=hcq.mono hb1;have h6:Qs 1000000 cur:=h4.mono (by decide);obtain ⟨ws,o,w1,w2,w3,hS2,hnx⟩:=Q7t (n:=2) (by decide) hsz S hS hcur;have hld:=Zjg hsz hS hcur;have cNow:=Qtq (T:=112) (c:=c) (r0:=Uq M) (r1:=r) hS.inv.ok.n;rw [hcur] at cNow;have cFA:=Q2t h6;have cC:=Qpv (T:=112) (c:=c) (r0:=Uq M) (r1:=r) hS.inv.ok;have cNx:=Qmt (T:=112) (r0:=Uq M) (r1:=r) hS.inv.ok w1 w2;obtain ⟨L,hL⟩:=nmE (Gm (c.l.map (·.c)));rw [<-hL] at cC hld;have hLl:L.length<=1000:=by rw [hL,C4,Zd]; exact hS.inv.ok.k
  have hcl:=B5 L;obtain ⟨cc,hcc⟩:=nmE ([[-cur.num,(cur.den:Int)],[1]]);have hck:Cok cc:=by rw [hcc]; exact Zi5 h6
  rw [<-hcc] at cFA;refine go tt [.t (decide_eq_true (by omega)),.c [0] cNow,.c [] cFA,.c [0] cC] rfl (by simp [Ua]) ?_;refine lp (S:=Nat) 3 (λL1 k=>(47,.v (.one (.int .i64 (k:Int))))::L1) (λ_=>[.blk 112 (Hh c (Uq M) r),.blk 185 (plB M q [[-q.num,(q.den:Int)],[1]] (Ic q M)),.blk 37 (aq cur cc)]) (λk=>L.length-k) (λk=>k<=L.length) 0 (Qi _) rfl (λ_ _=>rfl) rfl λk hk=>?_
  by_cases hkl:k<L.length
  ·obtain ⟨x,hx⟩:=gxE (l:=L) (i:=k) hkl;obtain ⟨x1,x2,x3,x4⟩:=hld x (Qc hx);have cf:=D4 (p:=x.p) (W9 x1 (by decide)) (by omega);rw [x3] at cf;have ca:=Ip (c:=cc) (W9 x1 (by decide)) (by omega) h6;rw [x4] at ca;refine go tt [.t (decide_eq_true (by omega)),.x (Qa8 hx),.c [] cf,.c [] ca,.x (Qa8 hx),.f (by simp)] rfl (by simp [Ua] <;> omega) ?_;exact rd (k+1) (by omega) hkl rfl
  ·cases o with
   | none=>exact en tt [.f (decide_eq_false (by omega)),.c [0] cNx,.t rfl,.c [] Qkq] rfl rfl (by simp [Ua])
   |
    some a =>
    obtain ⟨va,hpos,hlt,⟨C,hA⟩,hex,hmin⟩:=hnx a rfl;have hokC:Cok C:=⟨hA.ch.small,Qp4 hA.ch (by have:=hA.n; omega)⟩;have hX0:=hA.start hlt (b:=bq 2 (i+1)) (by show 15374<=17000+_; omega);have hAb:Bd 8000000 a.p:=W9 hA.b (by decide);have hAl:a.p.length<=64:=by have:=hA.n; omega
    have hAq:=hA.i.qs (b:=1000000) (by decide);have cFa:=Qwp (p:=a.p) (C:=C) (lo:=a.lo) (hi:=a.hi) va.tr hAb va.n2 hAl hA.pr hA.ch hAq.1 hAq.2;have hxl:Q0o a.p a.lo a.hi=xlo a:=by
     have:U8 a.lo a.hi≠0:=λh=>by
      have h1:=Ci.1 h;have h2:=hA.i.lt;rw [h1] at h2; exact Rat.lt_irrefl h2
     unfold Q0o xlo;by_cases h:U5 a.p a.hi=0
     ·rw [if_pos ⟨this,h⟩,if_pos h]
     ·rw [if_neg (λh'=>h h'.2),if_neg h]
    rw [hxl] at cFa;have hx4:Qs 1000000 (xlo a):=hX0.ql.mono (by omega);have hh4:Qs 1000000 a.hi:=hX0.qh.mono (by omega);have cCm:=Zah (p:=a.p) (C:=C) (c:=cc) (lo:=xlo a) (hi:=a.hi) (t:=cur) (W9 hAb (by decide)) hAl hokC hx4 hh4 h6 hck;rw [hX0.cmp hA.i hlt] at cCm;have cBt:=Q3e (T:=112) (c:={ c with l:=ws }) (r0:=Uq M) (r1:=r) hS2.inv.ok w3 w2 va;have hbl:¬((ws.filterMap (evF a)).length:Int)=0:=by omega
    refine go tt [.f (decide_eq_false (by omega)),.c [0] cNx,.f rfl,.c [] cFa,.c [] cCm,.g 80 false (decide_eq_false (by decide)),.c [0] cBt,.f (decide_eq_false hbl),.c [0,5] Qz3] rfl (by simp [Ua] <;> omega) ?_;refine lp (S:=Nat×Rat×Rat) 6 (λL1 _=>L1) (λs=>[.blk 112 (Hh { c with l:=ws } (Uq M) r),.blk 185 (plB M q [[-q.num,(q.den:Int)],[1]] (Ic q M)),.blk 37 (aq cur cc),.blk 74 (ta a),.blk 37 (ax a.p C s.2.1 s.2.2),.blk 112 (Hh { c with l:=ws } (Uq M) r)]) (λs=>1581+2*bq 2 i-s.1) (λs=>HX a C cur (bq 2 (i+1)) s.1 s.2.1 s.2.2) (0,xlo a,a.hi) hX0 rfl (λ_ _=>rfl) rfl λ⟨j,lo,hi⟩ hX=>?_
    dsimp only at hX ⊢;have ql6:Qs 1000000 lo:=hX.ql.mono (by omega);have qh6:Qs 1000000 hi:=hX.qh.mono (by omega);have cW:=O2 (p:=[-cur.num,(cur.den:Int)]) (C:=cc) (lo:=cur) (hi:=cur) (t:=lo) (W9 (Q2m h6.1 h6.2) (by decide)) (by show 2<=64; decide) hck h6 h6 ql6;rw [Qm6] at cW;by_cases hlo:lo<cur
    ·obtain ⟨n1,n2,n3,n4⟩:=HX.next hA (by decide) hX hcq hlt hlo;have hne:lo≠hi:=λh=>by rw [h] at n1; exact Rat.lt_irrefl n1
     have hW:0<U8 cur lo:=Pe.2 hlo;by_cases hc:crR C a.p lo hi (A9 lo hi)<=0
     ·have h5:=n3 hc;have cH:=Qki (p:=a.p) (C:=C) (W9 hAb (by decide)) hAl hokC ql6 qh6 (h5.qh.mono (by show 17000+_<=_; exact Qa hb2 (by decide))) hne;rw [if_pos hc] at cH;refine go tt [.c [] cW,.t (decide_eq_true hW),.c [] cH] rfl (by simp [Ua]) ?_;exact rd (j+1,lo,A9 lo hi) (by dsimp only; omega) h5 rfl
     ·have h5:=n4 hc;have cH:=Qki (p:=a.p) (C:=C) (W9 hAb (by decide)) hAl hokC ql6 qh6 (h5.ql.mono (by show 17000+_<=_; exact Qa hb2 (by decide))) hne;rw [if_neg hc] at cH;refine go tt [.c [] cW,.t (decide_eq_true hW),.c [] cH] rfl (by simp [Ua]) ?_;exact rd (j+1,A9 lo hi,hi) (by dsimp only; omega) h5 rfl
    ·have hcl':cur<=lo:=Rat.not_lt.1 hlo;have hW:¬0<U8 cur lo:=λh=>hlo (Pe.1 h)
     obtain ⟨f1,f2,f3⟩:=HX.fin va hX;have qh4:Qs 400000 hi:=hX.qh.mono hb2;have ql4:Qs 400000 lo:=hX.ql.mono hb2;have hci:cur<=hi:=Q7 hcl' f3;have cE:=Ch (ql6.mono (t:=40000000) (by decide)) (qh6.mono (by decide));have cTh:=Q3i (q:=hi) (qh6.mono (by decide));have hcm:Up c.now hi<=0:=by rw [hcur,Qmf]; exact Ab.2 hci
     obtain ⟨K1,c1,E1,k1,k2,k3,k4,k5,k6,k7⟩:=adv qh4 hS2 hcm;have hE1:E1≠[]:=Q5b (t:=hi) hS.inv.ok.n va hex f2 k7;have hE1l:0<E1.length:=Jp.2 hE1;have cA1:=Qww (l:=M) (K:=K1) qh4 hsc hln hS2.inv.ok ⟨hev1,by show c.ev+_<=_; omega⟩ hcm k2;have hnl:¬(0:Int)+((E1.length:Nat):Int)<1:=by omega
     have hinv:i+1<=4/\KSt (bcT M) (brT M) c1 (brT M (tq hi))/\c1.now=tq hi/\Qs (bq 2 (i+1)) hi/\0<=c1.ev/\c1.ev<=(((i+1)*67000000:Nat):Int):=⟨hr,k4,k3,hX.qh,by rw [k5]; show 0<=c.ev+_; omega,by rw [k5]; show c.ev+_<=_; omega⟩;by_cases hne:lo=hi
     ·have h0:U8 lo hi=0:=Ci.2 hne;rw [h0] at cE;refine go tt [.c [] cW,.f (decide_eq_false hW),.c [] cE,.f rfl,.c [] cTh,.c [0] cA1,.g 144 false rfl,.f (decide_eq_false (by omega))] rfl (by simp [Ua] <;> omega) ?_;exact rd (i+1,c1,brT M (tq hi),hi) (by dsimp only; omega) hinv rfl
     ·have h0:¬U8 lo hi=0:=λh=>hne (Ci.1 h)
      have cTl:=Q3i (q:=lo) (ql6.mono (by decide));have hcm2:Up c.now lo<=0:=by rw [hcur,Qmf]; exact Ab.2 hcl'
      obtain ⟨K2,c2,E2,m1,m2,m3,m4,m5,m6,m7⟩:=adv ql4 hS2 hcm2;have hE2:E2=[]:=Qua hS.inv.ok.n va hmin (Q10 ql4) (f1 hne) m7;subst hE2;have hsame:=(Qnf S hS.inv.ok.n (Q10 ql4) (by rw [hcur]; exact λh=>absurd (Zdr.1 h) (Rat.not_lt.2 hcl')) m7).2;have cA2:=Qww (l:=M) (K:=K2) ql4 hsc hln hS2.inv.ok ⟨hev1,by show c.ev+_<=_; omega⟩ hcm2 m2;have hrr:r=brT M (tq lo):=by rw [hsame]; exact hS.r
      rw [<-hrr] at cA2;have cAl:=Q2p (c:={ c with l:=ws }) (c':=c2) (l:=M) (l':=M) (m:=M) (a:=tq lo) (r:=r) (by omega) hrr;have hev3:¬¬c2.ev=c.ev:=λh=>h (by rw [m5]; show c.ev+((0:Nat):Int)=_; omega)
      refine go tt [.c [] cW,.f (decide_eq_false hW),.c [] cE,.t (by simpa using h0),.c [] cTl,.c [5] cA2,.g 113 true rfl,.g 116 false (decide_eq_false (by simp)),.lo,.c [0,5] cAl,.g 122 false rfl,.lo,.c [5] Qkh,.lo,.c [0] Qkh,.f (by simpa using hev3),.c [] cTh,.c [0] cA1,.g 144 false rfl,.f (decide_eq_false (by omega))] rfl (by simp [Ua] <;> omega) ?_;exact rd (i+1,c1,brT M (tq hi),hi) (by dsimp only; omega) hinv rfl
 ·exact en tt [.f (decide_eq_false (by omega)),.c [] Qkq] rfl rfl (by simp [Ua])
end Orr
namespace Orr
open Go Go.Proofs
variable {H:Type} {enc:TypeId×Value->H} {w:World} {base:Nat} {spare:Nat->Bool} {Zjg:Bool}
theorem Df {α:Type} {l:List α} {n i:Nat} (h:l.length=n) (hi:i<n):∃ x,l[i]? = some x:=⟨l[i]'(by omega),Qd (by omega)⟩
end Orr
namespace Orr
open Go Go.Proofs Go.ChangeShapes Go.WideShapes Go.ChangeAt Go.RowKit Go.WideElems
theorem Zaz {w:World} {a:Addr} {v:Value} (h:w.cell? a=some v):a.spot=none/\a.block<w.heap.size:=by
 simp only [World.cell?] at h
 split at h
 ·rename_i c t fr hc
  split at h
  ·cases h
  ·rename_i hs;refine ⟨by cases e:a.spot with | none=>rfl | some _=>simp [e] at hs,?_⟩;exact (Array.getElem?_eq_some_iff.1 hc).1
 ·cases h
theorem Q9r {a:Addr} (h:a.spot=none) (n m:Nat):(a.add n).add m=⟨a.block,a.off+n+m,none⟩:=by
 obtain ⟨b,o,s⟩:=a;simp only at h;subst h;simp only [Addr.add]
 split
 ·rename_i h; subst h
  split
  ·rename_i h; subst h; simp
  ·simp
 ·split
  ·rename_i h; subst h; simp
  ·simp
def fr0 (w:World):Fr:=⟨λb=>b<w.heap.size,λ_=>False,w,λ_=>False,λ_=>none⟩
theorem hs0 (w:World):HS (fr0 w) (ob []) (nw []) (λ_=>none) (λ_=>False) w where
 size:=Qj _
 kept:=λb hb=>⟨hb,rfl,Iff.rfl⟩
 ids:=λi h=>h.elim
 nj:=λi h=>by rw [Qn7] at h; cases h
 io:=⟨rfl,rfl⟩
 blk:=λi=>by rw [Qn7]; trivial
 nk:=λi g c m h _=>by rw [Qn7] at h; cases h
 inj:=λi j g c m c' m' h _ _ _=>by rw [Qn7] at h; cases h
 mlt:=λb h=>h.elim
 m0:=λb _ h=>h.elim
 un:=λi _=>⟨rfl,rfl⟩
 uj:=λi _ h=>h.elim
theorem Zda {w w':World} {bl:Nat->OB} {U:Nat->Prop} {E:Mn} {M:Nat->Prop} (h:HS (fr0 w) bl U E M w') {p:MemPlace} (hp:p.block<w.heap.size):w.sameAt w' p:=by
 cases p with
 | cell b off=>simp only [World.sameAt,World.cell?]; rw [(h.kept b hp).2.1]; rfl
 | map b=>exact (h.kept b hp).2.1
theorem Zbs {w w':World} {bl:Nat->OB} {U:Nat->Prop} {E:Mn} {M:Nat->Prop} (h:HS (fr0 w) bl U E M w') (may:MemPlace->Prop):w.keptBut w' may:=by
 refine ⟨h.io.1,h.io.2,λi hi=>?_⟩;have e:w'.heap[i]? = w.heap[i]? := (h.kept i hi).2.1;rw [e];cases w.heap[i]? with
 | none=>rfl
 | some o=>cases o <;> simp
theorem Oz {H:Type} {P:Program} {e:TypeId}:∀ {l:List (DataW H)} {i:Nat} {d:DataW H},l[i]? = some d->∀ n∈d.weights P e,n∈DataW.weightsAll P e l
 | [],i,d,h,_,_=>by simp at h
 |
  x::l,0,d,h,n,hn=>by
  simp at h; subst h;simp only [DataW.weightsAll,Q0]; exact .inl hn
 |
  x::l,i+1,d,h,n,hn=>by
  simp only [DataW.weightsAll,Q0];exact .inr (Oz (i:=i) (by simpa using h) n hn)
theorem L6 {H:Type} {P:Program} {t:TypeId} {fs:Array Field} {parts:List (DataW H)} (hu:P.underlying t=some (.struct fs)) (hz:((DataW.agg parts).weights P t).all (· <= reachBytes)=true) {i:Nat} {f:Field} {d:DataW H} (hf:fs[i]? = some f) (hd:parts[i]? = some d) :
 (d.weights P f.type).all (· <= reachBytes)=true:=by
 rw [Yl] at hz ⊢;intro n hn;refine hz n ?_;simp only [DataW.weights,hu];exact DataW.weights_mem_each (j:=i) (by rw [Q5]; simp [hf]) hd n hn
variable {H:Type} {enc:TypeId×Value->H} {w:World}
abbrev O0:Nat->Prop:=λ_=>False
def Els (w:World) (cs:List Value) (ls:List LV):Prop:=cs.length=ls.length/\∀ (j:Nat) (u:LV),ls[j]? = some u->∃ v,cs[j]? = some v/\LRep w O0 v u
theorem Qc3 {α:Type} {rw_:α->List LV} {Ok:α->Prop} {t e sz:Nat} (hu:Tryz.prog.underlying t=some (.slice e)) (hc:Tryz.prog.cellsOf e=sz) (hsz:0<sz) (hb:1<=Tryz.prog.bytesOf e) (hw:∀ z,(rw_ z).length=sz)
 (elem:∀ fuel cs x,DataW.trod enc Tryz.prog w 0 (λ_=>true) true fuel e cs=some x->(x.1.weights Tryz.prog e).all (· <= reachBytes)=true->∃ z,Ok z/\Els w cs (rw_ z))
 {fuel:Nat} {cs:List Value} {x:DataW H×List MemPlace} (h:DataW.trod enc Tryz.prog w 0 (λ_=>true) true fuel t cs=some x) (hz:(x.1.weights Tryz.prog t).all (· <= reachBytes)=true) :
 ∃ (v:Value) (l:List α),cs=[v]/\(∀ z∈l,Ok z)/\l.length<2^47/\LRep w O0 v (.row (l.map rw_)):=by
 rcases Go.Deep.open_slice hu h with ⟨rfl,_⟩ | ⟨a',len,cap,m,n,D,Pl,rfl,_,hlc,hcap,hm,rfl,hr⟩
 ·refine ⟨_,[],rfl,by simp,Nat.two_pow_pos 47,?_⟩;exact LRep.row none 0 0 0 0 [] (λ_ _=>.bool true) (Qj _) (by decide) (by simp) (by simp) (by simp) (by simp)
 ·simp only [if_true] at hm;subst hm;rw [Yl] at hz;have hlen:len<2^47:=by
   have h0:=hz ((len+(m-len))*Tryz.prog.bytesOf e) (by simp [DataW.weights,hu]);have h1:len<=(len+(m-len))*Tryz.prog.bytesOf e:=by
    have:=Zt (Kj len (m-len)) hb;omega
   have h2:(len+(m-len))*Tryz.prog.bytesOf e<=reachBytes:=by simpa using h0
   exact Zx (Qa h1 h2) reachBytes_lt
  have hel:∀ i,i<len->((D i).weights Tryz.prog e).all (· <= reachBytes)=true:=λi hi=>by
   rw [Yl];intro k hk;refine hz k ?_;simp only [DataW.weights,hu];refine Ql _ (Q0.2 (.inl (Oz (i:=i) ?_ k hk)));rw [Q5,X2 hi]; rfl
  have hone:∀ i,i<len->∃ z cs',Ok z/\Els w cs' (rw_ z)/\∀ j,j<sz->w.cell? ((a'.add (i*sz)).add j)=cs'[j]? := λi hi=>by
   obtain ⟨cs',hcs,htr⟩:=hr i (by omega);rw [hc] at hcs;obtain ⟨_,hl,hcell⟩:=World.cells?_some hcs;obtain ⟨z,hz1,hz2⟩:=elem _ _ _ htr (hel i hi);refine ⟨z,cs',hz1,hz2,λj hj=>?_⟩;rw [hcell j (by omega)]
  have hspot:0<len->a'.spot=none/\a'.block<w.heap.size:=λh0=>by
   obtain ⟨z,cs',_,⟨hl,_⟩,h3⟩:=hone 0 h0;have h4:=h3 0 hsz;have:(a'.add (0*sz)).add 0=a':=by simp [Addr.add]
   rw [this,Qd (by rw [hl,hw]; exact hsz)] at h4;exact Zaz h4
  obtain ⟨l,hll,hl⟩:∃ l:List α,l.length=len/\∀ i z,l[i]? = some z->Ok z/\∃ cs',Els w cs' (rw_ z)/\∀ j,j<sz->w.cell? ((a'.add (i*sz)).add j)=cs'[j]? := by
   have:∀ k,k<=len->∃ l:List α,l.length=k/\∀ i z,l[i]? = some z->Ok z/\∃ cs',Els w cs' (rw_ z)/\∀ j,j<sz->w.cell? ((a'.add (i*sz)).add j)=cs'[j]? := by
    intro k
    induction k with
    | zero=>intro _; exact ⟨[],rfl,λi z h=>by simp at h⟩
    |
     succ k ih =>
     intro hk;obtain ⟨l,h1,h2⟩:=ih (by omega);obtain ⟨z,cs',h3,h4,h5⟩:=hone k (by omega);refine ⟨l++[z],by simp [h1],λi y hy=>?_⟩;rcases Q6 i l.length with hi | hi
     ·rw [Zj hi] at hy; exact h2 i y hy
     ·rw [Xi hi] at hy;have:i-l.length=0:=by
       rcases Qy (i-l.length) with h | h
       ·exact h
       ·rw [Qr (by rw [Yu]; exact h)] at hy; cases hy
      rw [this] at hy;simp at hy;subst hy;have:i=k:=by omega
      subst this;exact ⟨h3,cs',h4,h5⟩
   exact this len (Qj _)
  refine ⟨_,l,rfl,λz hz=>?_,by rw [hll]; exact hlen,?_⟩
  ·obtain ⟨i,hi⟩:=Ze.1 hz;exact (hl i z hi).1
  ·have key:LRep w O0 (.slice (some a') (l.map rw_).length m) (.row (l.map rw_)):=by
    have hgl:∀ i c,(l.map rw_)[i]? = some c->∃ z,l[i]? = some z/\c=rw_ z/\i<len:=λi c h=>by
     rw [Q5] at h;cases e:l[i]? with
     | none=>rw [e] at h; cases h
     | some z=>rw [e] at h; simp at h; exact ⟨z,rfl,h.symm,by have:=(Qf.1 e).1; omega⟩
    have hcl:∀ i c,(l.map rw_)[i]? = some c->∃ cs':List Value,Els w cs' c/\∀ j,j<sz->w.cell? ⟨a'.block,a'.off+i*sz+j,none⟩=cs'[j]? := λi c h=>by
     obtain ⟨z,hz,rfl,hi⟩:=hgl i c h;obtain ⟨_,cs',h1,h2⟩:=hl i z hz;refine ⟨cs',h1,λj hj=>?_⟩;rw [<-h2 j hj,Q9r (hspot (by omega)).1]
    refine LRep.row (some a') m sz a'.block a'.off (l.map rw_) (λi j=>(w.cell? ⟨a'.block,a'.off+i*sz+j,none⟩).getD (.bool true)) (by rw [Zd]; omega) ?_ ?_ ?_ ?_ ?_
    ·have:maxLen=2^63-1:=by rfl
     omega
    ·intro c hc2;obtain ⟨z,_,rfl⟩:=Zg.1 hc2;exact hw z
    ·intro h0;rw [Zd,hll] at h0;obtain ⟨hs,hb⟩:=hspot h0;refine ⟨?_,hb,by simp [O0]⟩;obtain ⟨b,o,s⟩:=a';simp only at hs;rw [hs]
    ·intro i c hi j hj;obtain ⟨z,_,rfl,_⟩:=hgl i c hi;obtain ⟨cs',⟨h1,_⟩,h2⟩:=hcl i _ hi;have hjs:j<sz:=by rw [<-hw z]; exact hj
     rw [h2 j hjs,Qd (by rw [h1]; exact hj)]; rfl
    ·intro i c hi j u hu2;obtain ⟨z,_,rfl,_⟩:=hgl i c hi;obtain ⟨cs',⟨h1,h3⟩,h2⟩:=hcl i _ hi;obtain ⟨v,hv,hr2⟩:=h3 j u hu2;have hjs:j<sz:=by rw [<-hw z]; exact (Qf.1 hu2).1
     show LRep w O0 ((w.cell? ⟨a'.block,a'.off+i*sz+j,none⟩).getD (.bool true)) u;rw [h2 j hjs,hv]; exact hr2
   rw [Zd,hll] at key;exact key
abbrev Zk8 (x:Nat):List LV:=[.int .u32 (x:Int)]
theorem Q83:∀ fuel cs x,DataW.trod enc Tryz.prog w 0 (λ_=>true) true fuel 199 cs=some x->(x.1.weights Tryz.prog 199).all (· <= reachBytes)=true->∃ z:Nat,z<4294967296/\Els w cs (Zk8 z):=by
 intro fuel cs x h _;obtain ⟨n,rfl,_,hwf⟩:=DataW.trod_int Tryz.underlying199 h;have hn:0<=n/\n<4294967296:=by
  have:0<=n/\n<=4294967295:=by simpa [Lit.wf,IntKind.min,IntKind.max,IntKind.signed,IntKind.bits] using hwf
  omega
 refine ⟨n.toNat,by omega,rfl,λj u hu=>?_⟩
 match j,hu with
 |
  0,hu =>
  simp at hu; subst hu;refine ⟨_,rfl,?_⟩;rw [show max n 0=n by omega];exact .int _ _
 | j+1,hu=>simp at hu
set_option maxRecDepth 20000 in
theorem Qip:∀ fuel cs x,DataW.trod enc Tryz.prog w 0 (λ_=>true) true fuel 51 cs=some x->(x.1.weights Tryz.prog 51).all (· <= reachBytes)=true->∃ z:RawInt,z.Ok/\Els w cs (Qex z):=by
 intro fuel cs x h hz;obtain ⟨xs,n,_,rfl,hl,hxs,hf⟩:=DataW.trod_struct Tryz.underlying51 h;have hl:cs.length=2:=hl
 match cs,hl with
 |
  [v0,v1],_ =>
  obtain ⟨z0,hz0⟩:=Df (i:=0) hxs (by decide);obtain ⟨z1,hz1⟩:=Df (i:=1) hxs (by decide);have h0:=hf 0 _ rfl;have h1:=hf 1 _ rfl;rw [hz0] at h0; rw [hz1] at h1;obtain ⟨b,e0,_⟩:=DataW.trod_bool Tryz.underlying4 h0;have f0:v0=.bool b:=(List.cons.inj (show [v0]=[Value.bool b] from e0)).1;have hw1:=L6 Tryz.underlying51 hz (i:=1) rfl (d:=z1.1) (by rw [Q5,hz1]; rfl);obtain ⟨v,l,e1,hlo,_,hrep⟩:=Qc3 (sz:=1) (Ok:=λu:Nat=>u<4294967296) (rw_:=Zk8) Tryz.underlying49 (by kernel_rfl) (by decide) (of_decide_eq_true (by kernel_rfl)) (λ_=>rfl) Q83 h1 hw1;have f1:v1=v:=(List.cons.inj (show [v1]=[v] from e1)).1;subst f0 f1;refine ⟨⟨b,l⟩,⟨hlo⟩,rfl,λj u hu=>?_⟩
  match j,hu with
  | 0,hu=>simp at hu; subst hu; exact ⟨_,rfl,.bool _⟩
  | 1,hu=>simp at hu; subst hu; exact ⟨_,rfl,hrep⟩
  | j+2,hu=>simp at hu
set_option maxRecDepth 20000 in
theorem Qu5:∀ fuel cs x,DataW.trod enc Tryz.prog w 0 (λ_=>true) true fuel 135 cs=some x->(x.1.weights Tryz.prog 135).all (· <= reachBytes)=true->∃ z:RawPt,z.Ok/\Els w cs (rwq z):=by
 intro fuel cs x h hz;obtain ⟨xs,n,_,rfl,hl,hxs,hf⟩:=DataW.trod_struct Tryz.underlying135 h;have hl:cs.length=5:=hl
 match cs,hl with
 |
  [v0,v1,v2,v3,v4],_ =>
  obtain ⟨z0,hz0⟩:=Df (i:=0) hxs (by decide);obtain ⟨z1,hz1⟩:=Df (i:=1) hxs (by decide);have h0:=hf 0 _ rfl;have h1:=hf 1 _ rfl;rw [hz0] at h0; rw [hz1] at h1;obtain ⟨id,e4,_,hwf⟩:=DataW.trod_int Tryz.underlying3 h1;have f4:v4=.int .i64 id:=(List.cons.inj (show [v4]=[Value.int .i64 id] from e4)).1;have hw0:=L6 Tryz.underlying135 hz (i:=0) rfl (d:=z0.1) (by rw [Q5,hz0]; rfl);obtain ⟨ys,n2,_,e5,_,hys,hg⟩:=DataW.trod_struct Tryz.underlying53 h0;rw [e5] at hw0;obtain ⟨y0,hy0⟩:=Df (i:=0) hys (by decide);obtain ⟨y1,hy1⟩:=Df (i:=1) hys (by decide);obtain ⟨y2,hy2⟩:=Df (i:=2) hys (by decide);have g0:=hg 0 _ rfl;have g1:=hg 1 _ rfl;have g2:=hg 2 _ rfl;rw [hy0] at g0; rw [hy1] at g1; rw [hy2] at g2;have w0:=L6 Tryz.underlying53 hw0 (i:=0) rfl (d:=y0.1) (by rw [Q5,hy0]; rfl);have w1:=L6 Tryz.underlying53 hw0 (i:=1) rfl (d:=y1.1) (by rw [Q5,hy1]; rfl);have w2:=L6 Tryz.underlying53 hw0 (i:=2) rfl (d:=y2.1) (by rw [Q5,hy2]; rfl);obtain ⟨u0,lx,e0,hx,_,rx⟩:=Qc3 (sz:=2) (Ok:=RawInt.Ok) (rw_:=Qex) Tryz.underlying48 (by kernel_rfl) (by decide) (of_decide_eq_true (by kernel_rfl)) (λ_=>rfl) Qip g0 w0;obtain ⟨u1,ly,e1,hy,_,ry⟩:=Qc3 (sz:=2) (Ok:=RawInt.Ok) (rw_:=Qex) Tryz.underlying48 (by kernel_rfl) (by decide) (of_decide_eq_true (by kernel_rfl)) (λ_=>rfl) Qip g1 w1;obtain ⟨d,hd,hde⟩:=Qip _ _ _ g2 w2;have f0:v0=u0:=(List.cons.inj (show [v0]=[u0] from e0)).1;have f1:v1=u1:=(List.cons.inj (show [v1]=[u1] from e1)).1;have hde2:Els w [v2,v3] (Qex d):=hde;subst f0 f1 f4;obtain ⟨q2,hq2,r2⟩:=hde2.2 0 _ rfl;obtain ⟨q3,hq3,r3⟩:=hde2.2 1 _ rfl;simp at hq2 hq3;subst hq2 hq3;refine ⟨⟨lx,ly,d,id⟩,⟨hx,hy,hd,by simpa [Lit.wf,IntKind.min,IntKind.max,IntKind.signed,IntKind.bits] using hwf⟩,rfl,λj u hu=>?_⟩
  match j,hu with
  | 0,hu=>simp [rwq] at hu; subst hu; exact ⟨_,rfl,rx⟩
  | 1,hu=>simp [rwq] at hu; subst hu; exact ⟨_,rfl,ry⟩
  | 2,hu=>simp [rwq] at hu; subst hu; exact ⟨_,rfl,r2⟩
  | 3,hu=>simp [rwq] at hu; subst hu; exact ⟨_,rfl,r3⟩
  | 4,hu=>simp [rwq] at hu; subst hu; exact ⟨_,rfl,.int _ _⟩
  | j+5,hu=>simp [rwq] at hu
set_option maxRecDepth 20000 in
theorem Quk {f:FuncId} {fn:Func} {s:ChangeSpec} (hp:fn.params = #[22,3,3]) (hr:fn.resultTypes = #[4]) (hv:s.vars=[])
 (hs:∀ (H:Type) (d1 d2 d3:DataW H),s.fn H [d1,d2,d3]={ results:=[.lit (.bool true)],args:=[d1,d2,d3] })
 (hlaid:laidOutB Tryz.prog=true) (hr22:Tryz.prog.readableRec 22=true) (hr3:Tryz.prog.readableRec 3=true) (hs22:22<Tryz.prog.types.size) (hs3:3<Tryz.prog.types.size)
 (law:∀ (zs:List RawPt) (n d:Int),(∀ z∈zs,z.Ok)->(-2^63≤n/\n≤2^63-1)->(-2^63≤d/\d≤2^63-1)->Ub Tryz.prog f [.one (.row (Qc6 zs)),.one (.int .i64 n),.one (.int .i64 d)] [.one (.bool true)])
 {H:Type} {enc:TypeId×Value->H} {W:World} {base:Nat} {args:Array Value} {ds gs:List (DataW H)} {Qtb:List MemPlace} {fresh handsOn:Bool}
 (hval:∀ (j:Nat) t v,fn.params[j]? = some t->args[j]? = some v->Value.okWide Tryz.prog W .any base t v)
 (hW:DataW.Whole enc Tryz.prog fn.params.toList s.vars false W args.toList ds gs Qtb)
 (hz:(DataW.weightsEach Tryz.prog (fn.params.toList++s.plain.varTypes Tryz.prog) (ds++gs)).all (· <= reachBytes)=true) :
 Calls Tryz.prog f args W λe W'=>∃ v,e=.returned v/\s.post enc Tryz.prog fn false fresh handsOn false W args v W':=by
 have hW':=hW;obtain ⟨p,q,hA0,hV,rfl,hfz,hnd⟩:=hW;have hA:DataW.TrodAll enc Tryz.prog W 0 (λ_=>true) true fn.params.toList args.toList ds p:=hA0;rw [hv] at hV;obtain ⟨rfl,rfl⟩:=trodVars_none hV;have hlt:=hW'.lt;rw [hp] at hA hval hz;obtain ⟨v0,vs0,d0,ds0,p0,q0,hargs0,rfl,rfl,h0,r0⟩:=trodAll_cons hA;obtain ⟨v1,vs1,d1,ds1,p1,q1,rfl,rfl,rfl,h1,r1⟩:=trodAll_cons r0;obtain ⟨v2,vs2,d2,ds2,p2,q2,rfl,rfl,rfl,h2,r2⟩:=trodAll_cons r1;obtain ⟨rfl,rfl,rfl⟩:=trodAll_nil r2;obtain rfl:args = #[v0,v1,v2]:=by cases args; simp_all
 obtain ⟨n,rfl,rfl,rfl,w1⟩:=open_int Tryz.underlying3 (hval 1 3 v1 rfl rfl) h1;obtain ⟨d,rfl,rfl,rfl,w2⟩:=open_int Tryz.underlying3 (hval 2 3 v2 rfl rfl) h2;have hv0:=hval 0 22 v0 rfl rfl;obtain ⟨a,len,cap,rfl⟩:=okWide_slice Tryz.underlying22 hv0;have hz0:(d0.weights Tryz.prog 22).all (· <= reachBytes)=true:=by
  rw [Yl] at hz ⊢;intro k hk;exact hz k (DataW.weights_mem_each (j:=0) rfl rfl k hk)
 have h0':=h0;obtain ⟨fu,h0'⟩:=h0';obtain ⟨v,zs,e0,hok,hlen,hrep⟩:=Qc3 (sz:=5) (Ok:=RawPt.Ok) (rw_:=rwq) Tryz.underlying22 (by kernel_rfl) (by decide) (of_decide_eq_true (by kernel_rfl)) (λ_=>rfl) Qu5 h0' hz0;have f0:Value.slice a len cap=v:=(List.cons.inj (show [Value.slice a len cap]=[v] from e0)).1;subst f0;have hd1:-2^63<=d/\d<=2^63-1:=by simpa [Lit.wf,IntKind.min,IntKind.max,IntKind.signed,IntKind.bits] using w2
 have hrep:LRep W (λ_=>False) (.slice a len cap) (.row (Qc6 zs)):=hrep;have hn1:-2^63<=n/\n<=2^63-1:=by simpa [Lit.wf,IntKind.min,IntKind.max,IntKind.signed,IntKind.bits] using w1
 have hcall:=(law zs n d hok hn1 hd1).2 (fr0 W) (λ_=>none) (λ_=>False) W [.slice a len cap,.int .i64 n,.int .i64 d] (hs0 W) (.cons (show XRep W (λ_=>False) (λ_=>none) (.slice a len cap) (.row (Qc6 zs)) from hrep.x) (.cons (show XRep W (λ_=>False) (λ_=>none) (.int .i64 n) (.int .i64 n) from (LRep.int .i64 n).x) (.cons (show XRep W (λ_=>False) (λ_=>none) (.int .i64 d) (.int .i64 d) from (LRep.int .i64 d).x) .nil)));refine hcall.mono λe W' ⟨v,u,Bo,E',M',he,⟨hu,hBo⟩,_,hm,har⟩=>?_
 subst hu;obtain rfl:v=.bool true:=by
  have h:LRep _ _ v (.bool true):=har;cases h;rfl
 refine ⟨_,he,?_⟩;refine ⟨[d0,.lit (.int .i64 n),.lit (.int .i64 d)],[],_,[],p0++([]++([]++[])),[],hW',?_,?_,?_,Zbs hm _,λh=>by cases h⟩
 ·rw [hr,Xj,hs];exact trodAll_cons_mk (shut_bool Tryz.underlying4 true) trodAll_mk0
 ·rw [hp,Xj,hs];have hb:∀ p∈p0,p.block<W.heap.size:=λp hp=>hlt p (by simp [hp])
  exact trodAll_cons_mk (Trod_stays hlaid hr22 hs22 h0 (λp hp=>Zda hm (hb p hp)) (λp hp=>by simpa using hb p hp)) (trodAll_cons_mk (shut_int Tryz.underlying3 w1) (trodAll_cons_mk (shut_int Tryz.underlying3 w2) trodAll_mk0))
 ·rw [hv,Xj,hs];rfl
end Orr
