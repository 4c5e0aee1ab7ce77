/- KT EnS SD1 En1 TW1 TW2 R3 R4 RefPL R5 R6 RefGL R7 RatOkL R8 R9 RefCL R10 R11 R12 R13 R14 R15 R16 R17 R18 SC1 W1 W2 WR18 WS18 X19 MeshK H2 H3 MD1 MD2 MD3 MD4 MD5 MD6 X22 SD2 H4 En2 X20 X21 En3 EnZ En4 -/
import Derived.Test.YthgaepodbpcjdaaGreatPart07
import Derived.Test.YthgaepodbpcjdaaGreatPart00
import Derived.Test.YthgaepodbpcjdaaGreatPart08
import Derived.Test.YthgaepodbpcjdaaGreatPart04
import Derived.Test.YthgaepodbpcjdaaGreatPart05
set_option linter.all false
namespace Orr
open Go Go.Proofs Orq
set_option maxRecDepth 10000
abbrev Ht (c:Cr) (r0:List (List LV)) (r1:List (List LV)×List (List LV)):List LV:=.bool true::pl c.now.p::sg c.now.lo.num::mg c.now.lo.num::sg (c.now.lo.den:Int)::mg (c.now.lo.den:Int)::sg c.now.hi.num::mg c.now.hi.num::sg (c.now.hi.den:Int)::mg (c.now.hi.den:Int)::.row (P9 c.l)::.int .i64 c.ev::[.row r0,.row r1.1,.row r1.2]
abbrev Zge (r0:LV) (r1:LV×LV):List LV:=[.bool false,.nils,.bool false,.nils,.bool false,.nils,.bool false,.nils,.bool false,.nils,.nils,.int .i64 0,r0,r1.1,r1.2]
theorem Qtv {T:Nat} {c:Cr} {r0:List (List LV)} {r1:List (List LV)×List (List LV)} (hc:Va c.now):W6 Tryz.prog 345 [.one (.ow 0 0)] [.blk T (Ht c r0 r1)] [.agg (ta c.now)] [.blk T (Ht c r0 r1)]:=by
 have cl:=Rf (b:=c.now) (l:=[]) hc.tb (λt ht=>by cases ht) (by decide) rfl;refine U4 Tryz.func345 rfl ?_;exact ed tt [] [0] [.f rfl,.c [] cl] rfl trivial
theorem Q3a {T:Nat} {c:Cr} {r0:List (List LV)} {r1:List (List LV)×List (List LV)} (hc:CrOk c):W6 Tryz.prog 334 [.one (.ow 0 0)] [.blk T (Ht c r0 r1)] [.one (.row (W3 (Ui (c.l.map (·.c)))))] [.blk T (Ht c r0 r1)]:=by
 have hk:=hc.k;have hw:=Hf c.l;refine U4 Tryz.func334 rfl ?_;refine go tt [.o 3 144 7] rfl trivial ?_;refine lp (S:=Nat) 2 (λL1 i=>(11,.v (.one (.int .i64 (i:Int))))::(3,.v (.one (.orow 1 7 none)))::L1) (λi=>[.blk T (Ht c r0 r1),.row false 144 7 (W3 ((c.l.map (·.c)).take i))]) (λi=>c.l.length-i) (λi=>i<=c.l.length) 0 (Qi _) rfl (λ_ _=>rfl) rfl λi hi=>?_
 by_cases hlt:i<c.l.length
 ·obtain ⟨x,hx⟩:=gxE (l:=c.l) (i:=i) hlt;have hm:∀ y∈[Nj x.c],y.length=7:=λy hy=>by rw [Qk.1 hy]; rfl
  have hg:(c.l.map (·.c)).take (i+1)=(c.l.map (·.c)).take i++[x.c]:=by
   rw [Z0,Zq,hx]; rfl
  have hl:decide ((i:Int)<((P9 c.l).length:Int))=true:=by simp [hw]; omega
  obtain ⟨xc,xk,xf⟩:=x;cases xf <;> (refine go tt [.t hl,.x (Fy hx),.s (sz:=7) hm] rfl (by simp [Wv,Ry]; omega) ?_; exact rd (i+1) (by omega) hlt (by rw [hg]; simp [W3]; rfl))
 ·obtain rfl:i=c.l.length:=by omega
  have e:(c.l.map (·.c)).take c.l.length=c.l.map (·.c):=Qr (by simp);rw [e];have cs:=Qd8 (l:=c.l.map (·.c)) (λx hx=>by
   obtain ⟨w,hw,rfl⟩:=Ze.1 hx;exact Dp.pb (hc.l w hw).p.dp) (by simp; omega)
  exact ed tt [] [0] [.f (by simp [hw]),.c [] cs] rfl trivial
theorem Zaa {T:Nat} {c:Cr} {r0:List (List LV)} {r1:List (List LV)×List (List LV)} {x:Ct} {at_:Tm} {w:Wt} (hc:CrOk c) (hx:Cp x.p) (ha:Va at_) (h:Mh c.l x at_=some w):W6 Tryz.prog 168 [.one (.ow 0 0),.agg (Nj x),.agg (ta at_)] [.blk T (Ht c r0 r1)] [.agg (wl w)] [.blk T (Ht c r0 r1)]:=by
 have hk:=hc.k;have hw:=Hf c.l;refine U4 Tryz.func168 rfl ?_;refine go tt [] rfl trivial ?_;refine lp (S:=Nat) 4 (λL1 i=>(14,.v (.one (.int .i64 (i:Int))))::L1) (λ_=>[.blk T (Ht c r0 r1),.blk 144 (Nj x),.blk 40 (ta at_),.blk 266 [.int .i64 0,.int .i64 0,.int .i64 0,.int .i64 0,.int .i64 0,.nils,.int .i64 0,.bool false,.bool false,.nils,.bool false,.nils,.bool false,.nils,.bool false,.nils,.bool false,.nils]]) (λi=>c.l.length-i) (λi=>i<=c.l.length/\Mh (c.l.drop i) x at_=some w) 0 ⟨Qi _,h⟩ rfl (λ_ _=>rfl) rfl λi ⟨hi,hf⟩=>?_
 by_cases hlt:i<c.l.length
 ·obtain ⟨v,hv⟩:=gxE (l:=c.l) (i:=i) hlt;have hdr:c.l.drop i=v::c.l.drop (i+1):=by
   rw [Zz hlt]; congr 1;have:=Qf hlt; rw [hv] at this; injection this with this; exact this.symm
  have hvo:=hc.l v (Qa hv);rw [hdr] at hf;simp only [Mh] at hf;have hl:decide ((i:Int)<((P9 c.l).length:Int))=true:=by simp [hw]; omega
  by_cases A:Qse v.c x=true
  ·have A':(!decide ([v.c.kind,v.c.i0,v.c.i1,v.c.i2,v.c.i3]=[x.kind,x.i0,x.i1,x.i2,x.i3]))=false:=by
    unfold Qse at A; rw [A]; rfl
   by_cases B:v.known=true
   ·have B':(!v.known)=false:=by rw [B]; rfl
    have cs:=Qgl (p:=v.c.p) (q:=x.p) (Dp.pb hvo.p.dp).ln (Dp.pb hx.dp).ln (Dp.pb hvo.p.dp).bd (Dp.pb hx.dp).bd;rw [hvo.p.t,hx.t] at cs;by_cases C:v.c.p=x.p
    ·have C':(!decide (v.c.p=x.p))=false:=by simp [C]
     rw [if_pos ⟨A,B,C⟩] at hf;obtain ⟨vc,vk,vf⟩:=v;cases vf with
     |
      none =>
      injection hf with hf; subst hf;exact ed tt [] [0] [.t hl,.x (Fy hv),.g 24 false A',.g 29 false B',.c [] cs,.f C',.g 41 true rfl,.t rfl] rfl trivial
     |
      some t =>
      obtain ⟨r,r1',hf⟩:=Qc.1 hf;have cc:=Qa9 (hvo.f t rfl).tb ha.tb r1';by_cases D:0<r
      ·rw [if_pos D] at hf;injection hf with hf; subst hf;exact ed tt [] [0] [.t hl,.x (Fy hv),.g 24 false A',.g 29 false B',.c [] cs,.f C',.g 41 false rfl,.c [] cc,.t (by simpa using D)] rfl trivial
      ·rw [if_neg D] at hf;refine go tt [.t hl,.x (Fy hv),.g 24 false A',.g 29 false B',.c [] cs,.f C',.g 41 false rfl,.c [] cc,.f (by simpa using D)] rfl (by simp [Wv]; omega) ?_;exact rd (i+1) (by omega) ⟨hlt,hf⟩ rfl
    ·rw [if_neg λh=>C h.2.2] at hf;refine go tt [.t hl,.x (Fy hv),.g 24 false A',.g 29 false B',.c [] cs,.t (by simp [C])] rfl (by simp [Wv]; omega) ?_;exact rd (i+1) (by omega) ⟨hlt,hf⟩ rfl
   ·rw [if_neg λh=>B h.2.1] at hf;refine go tt [.t hl,.x (Fy hv),.g 24 false A',.g 29 true (by simpa using B),.t rfl] rfl (by simp [Wv]; omega) ?_;exact rd (i+1) (by omega) ⟨hlt,hf⟩ rfl
  ·rw [if_neg λh=>A h.1] at hf;refine go tt [.t hl,.x (Fy hv),.g 24 true (by rw [show decide ([v.c.kind,v.c.i0,v.c.i1,v.c.i2,v.c.i3]=[x.kind,x.i0,x.i1,x.i2,x.i3])=false from K9.2 A]; rfl),.g 29 true rfl,.t rfl] rfl (by simp [Wv]; omega) ?_;exact rd (i+1) (by omega) ⟨hlt,hf⟩ rfl
 ·obtain rfl:i=c.l.length:=by omega
  rw [Yz] at hf;simp only [Mh] at hf;injection hf with hf; subst hf;exact ed tt [] [0] [.f (by simp [hw])] rfl trivial
theorem Qwt {T:Nat} {c:Cr} {r0:List (List LV)} {r1:List (List LV)×List (List LV)} {at_:Tm} {l:List Ct} {ws:List Wt} (hc:CrOk c) (ha:Va at_) (hl:∀ x∈l,Cp x.p) (hn:l.length≤1000) (h:Tl c.l at_ (Ui l)=some ws):W6 Tryz.prog 106 [.one (.ow 0 0),.agg (ta at_),.one (.bool true),.one (.row (W3 l))] [.blk T (Ht c r0 r1)] [] [.blk T (Ht ⟨at_,ws,c.ev⟩ r0 r1)]:=by
 have cs:=Qd8 (l:=l) (λx hx=>Dp.pb (hl x hx).dp) (by omega);have cl:=Rf (b:=at_) (l:=[]) ha.tb (λt ht=>by cases ht) (by decide) rfl;obtain ⟨h1,h2⟩:=Iv h;have hs:(Ui l).length=l.length:=Pz l;refine U4 Tryz.func106 rfl ?_;refine go tt [.o 8 266 18,.c [] cs] rfl trivial ?_;refine lp (S:=Nat) 3 (λL1 i=>(15,.v (.one (.int .i64 (i:Int))))::(8,.v (.one (.orow 2 18 none)))::L1) (λi=>[.blk T (Ht c r0 r1),.blk 40 (ta at_),.row false 266 18 (P9 (ws.take i))]) (λi=>ws.length-i) (λi=>i<=ws.length) 0 (Qi _) rfl (λ_ _=>rfl) rfl λi hi=>?_
 by_cases hlt:i<ws.length
 ·obtain ⟨x,hx⟩:=gxE (l:=(Ui l)) (i:=i) (by omega);obtain ⟨w,hw,hw'⟩:=h2 i x hx;have hm:∀ y∈[wl w],y.length=18:=λy hy=>by rw [Qk.1 hy]; rfl
  have hlt':decide ((i:Int)<((W3 (Ui l)).length:Int))=true:=by simp [W3]; omega
  have ck:=Zaa (T:=T) (r0:=r0) (r1:=r1) hc (hl x (Qaf (Qa hx))) ha hw;have hg:=De hw';obtain ⟨wc,wk,wf⟩:=w;cases wf <;> (refine go tt [.t hlt',.x (Qbg hx),.t rfl,.c [0] ck,.s (sz:=18) hm] rfl (by simp [Wv,Hf]; omega) ?_; exact rd (i+1) (by omega) hlt (by rw [hg]; rfl))
 ·obtain rfl:i=ws.length:=by omega
  rw [Q4];have hge:decide ((ws.length:Int)<((W3 (Ui l)).length:Int))=false:=by simp [W3]; omega
  exact ed tt [] [0] [.f hge,.p 2,.c [] cl] rfl trivial
theorem Zab {T:Nat} {r0:List (List LV)} {r1:List (List LV)×List (List LV)} {at_:Tm} {l:List Ct} (ha:Va at_) (hl:∀ x∈l,Cp x.p) (hn:l.length≤1000):W6 Tryz.prog 106 [.one (.ow 0 0),.agg (ta at_),.one (.bool false),.one (.row (W3 l))] [.blk T (Zge (.row r0) (.row r1.1,.row r1.2))] [] [.blk T (Ht ⟨at_,(Ui l).map fresh,0⟩ r0 r1)]:=by
 have cs:=Qd8 (l:=l) (λx hx=>Dp.pb (hl x hx).dp) (by omega);have cl:=Rf (b:=at_) (l:=[]) ha.tb (λt ht=>by cases ht) (by decide) rfl;have hs:(Ui l).length=l.length:=Pz l;refine U4 Tryz.func106 rfl ?_;refine go tt [.o 8 266 18,.c [] cs] rfl trivial ?_;refine lp (S:=Nat) 3 (λL1 i=>(15,.v (.one (.int .i64 (i:Int))))::(8,.v (.one (.orow 2 18 none)))::L1) (λi=>[.blk T (Zge (.row r0) (.row r1.1,.row r1.2)),.blk 40 (ta at_),.row false 266 18 (P9 (((Ui l).map fresh).take i))]) (λi=>l.length-i) (λi=>i<=l.length) 0 (Qi _) rfl (λ_ _=>rfl) rfl λi hi=>?_
 by_cases hlt:i<l.length
 ·obtain ⟨x,hx⟩:=gxE (l:=(Ui l)) (i:=i) (by omega);have hm:∀ y∈[wl (fresh x)],y.length=18:=λy hy=>by rw [Qk.1 hy]; rfl
  have hlt':decide ((i:Int)<((W3 (Ui l)).length:Int))=true:=by simp [W3]; omega
  have hg:=De (l:=(Ui l).map fresh) (i:=i) (w:=fresh x) (by rw [Zq,hx]; rfl);refine go tt [.t hlt',.x (Qbg hx),.z 20,.f rfl,.s (sz:=18) hm] rfl (by simp [Wv,Hf]; omega) ?_;exact rd (i+1) (by omega) hlt (by rw [hg]; rfl)
 ·obtain rfl:i=l.length:=by omega
  rw [Qr (by simp; omega)];have hge:decide ((l.length:Int)<((W3 (Ui l)).length:Int))=false:=by simp [W3]; omega
  exact ed tt [] [0] [.f hge,.p 2,.c [] cl] rfl trivial
theorem Q0a {T:Nat} {r0:List (List LV)} {r1:List (List LV)×List (List LV)} {at_:Tm} {l:List Ct} (ha:Va at_) (hl:∀ x∈l,Cp x.p) (hn:l.length≤1000):W6 Tryz.prog 70 [.one (.ow 0 0),.agg (ta at_),.one (.row (W3 l))] [.blk T (Zge (.row r0) (.row r1.1,.row r1.2))] [] [.blk T (Ht ⟨at_,(Ui l).map fresh,0⟩ r0 r1)]:=by
 have cl:=Zab (T:=T) (r0:=r0) (r1:=r1) ha hl hn;refine U4 Tryz.func70 rfl ?_;exact ed tt [] [0] [.g 12 false rfl,.c [0] cl] rfl trivial
theorem Q0b {T:Nat} {c:Cr} {r0:List (List LV)} {r1:List (List LV)×List (List LV)} {at_:Tm} {l:List Ct} {ws:List Wt} {k:Int} (hc:CrOk c) (ha:Va at_) (hk:Qck at_ c.now=some k) (h0:0≤k) (hl:∀ x∈l,Cp x.p) (hn:l.length≤1000) (h:Tl c.l at_ (Ui l)=some ws):W6 Tryz.prog 70 [.one (.ow 0 0),.agg (ta at_),.one (.row (W3 l))] [.blk T (Ht c r0 r1)] [] [.blk T (Ht ⟨at_,ws,c.ev⟩ r0 r1)]:=by
 have cl:=Qwt (T:=T) (r0:=r0) (r1:=r1) hc ha hl hn h;have cc:=Qa9 ha.tb hc.n.tb hk;refine U4 Tryz.func70 rfl ?_;exact ed tt [] [0] [.g 12 true rfl,.c [] cc,.r 20 (eB (show decide (0<=k)=true by simpa using h0)),.c [0] cl] rfl trivial
theorem Zac {T:Nat} {c:Cr} {r0:List (List LV)} {r1:List (List LV)×List (List LV)} {ws:List Wt} (hc:CrOk c) (h:Ei c.now c.l=some ws):W6 Tryz.prog 340 [.one (.ow 0 0)] [.blk T (Ht c r0 r1)] [] [.blk T (Ht { c with l:=ws } r0 r1)]:=by
 have hk:=hc.k;have hw:=Hf c.l;obtain ⟨h1,h2⟩:=O7 h;refine U4 Tryz.func340 rfl ?_;refine go tt [.o 2 266 18,.c [0] (Qtv hc.n)] rfl trivial ?_;refine lp (S:=Nat) 3 (λL1 i=>(13,.v (.one (.int .i64 (i:Int))))::(2,.v (.one (.orow 1 18 none)))::L1) (λi=>[.blk T (Ht c r0 r1),.row false 266 18 (P9 (ws.take i)),.blk 40 (ta c.now)]) (λi=>c.l.length-i) (λi=>i<=c.l.length) 0 (Qi _) rfl (λ_ _=>rfl) rfl λi hi=>?_
 by_cases hlt:i<c.l.length
 ·obtain ⟨w,hx⟩:=gxE (l:=c.l) (i:=i) hlt;obtain ⟨v,hv,h3⟩:=h2 i w hx;have hm:∀ y∈[wl v],y.length=18:=λy hy=>by rw [Qk.1 hy]; rfl
  have hg:=De hv;have hl:decide ((i:Int)<((P9 c.l).length:Int))=true:=by simp [hw]; omega
  rcases h3 with ⟨k1,rfl⟩ | ⟨k1,r,k2,rfl⟩
  ·obtain ⟨vc,vk,vf⟩:=v;cases vf <;> (refine go tt [.t hl,.x (Fy hx),.f (by rw [show vk=true from k1]; rfl),.s (sz:=18) hm] rfl (by simp [Wv,Hf]; omega) ?_; exact rd (i+1) (by omega) hlt (by rw [hg]; rfl))
  ·have cg:=Qpl (hc.l w (Qa hx)).p hc.n k2;obtain ⟨wc,wk,wf⟩:=w;cases r <;> cases wf <;> (refine go tt [.t hl,.x (Fy hx),.t (by rw [show wk=false from k1]; rfl),.c [] cg,.s (sz:=18) hm] rfl (by simp [Wv,Hf]; omega) ?_; exact rd (i+1) (by omega) hlt (by rw [hg]; rfl))
 ·obtain rfl:i=c.l.length:=by omega
  rw [<-h1,Q4];exact ed tt [1] [0] [.f (by simp [hw,h1])] rfl trivial
theorem Qwu {T:Nat} {c:Cr} {r0:List (List LV)} {r1:List (List LV)×List (List LV)} {ws:List Wt} {r:Option Tm} (hc:CrOk c) (h:Ei c.now c.l=some ws) (hr:Qkc ws=some r):W6 Tryz.prog 337 [.one (.ow 0 0)] [.blk T (Ht c r0 r1)] [.agg (ota r),.one (.bool r.isSome)] [.blk T (Ht { c with l:=ws } r0 r1)]:=by
 have hcl:=Zac (T:=T) (r0:=r0) (r1:=r1) hc h;have hc':=Cu hc h;have hk:=hc'.k;have hw:=Hf ws;have hvb:∀ t∈ws.filterMap (·.fails),Tb t:=λt ht=>by
  obtain ⟨w,w1,w2⟩:=Ja.1 ht;exact ((hc'.l w w1).f t w2).tb
 refine U4 Tryz.func337 rfl ?_;refine go tt [.c [0] hcl,.o 4 40 9] rfl trivial ?_;refine lp (S:=Nat) 3 (λL1 i=>(14,.v (.one (.int .i64 (i:Int))))::(4,.v (.one (.orow 2 9 none)))::L1) (λi=>[.blk T (Ht { c with l:=ws } r0 r1),.blk 40 zTm,.row false 40 9 (tal ((ws.take i).filterMap (·.fails)))]) (λi=>ws.length-i) (λi=>i<=ws.length) 0 (Qi _) rfl (λ_ _=>rfl) rfl λi hi=>?_
 by_cases hlt:i<ws.length
 ·obtain ⟨w,hx⟩:=gxE (l:=ws) (i:=i) hlt;have hl:decide ((i:Int)<((P9 ws).length:Int))=true:=by simp [hw]; omega
  have hfl:((ws.take i).filterMap (·.fails)).length<=i:=Qd (Y0 _ _) (by rw [Qu]; omega);have hg:(ws.take (i+1)).filterMap (·.fails)=(ws.take i).filterMap (·.fails)++(match w.fails with | none=>[] | some t=>[t]):=by
   rw [Z0,hx,List.filterMap_append];show _++List.filterMap (·.fails) [w]=_;cases hwf:w.fails <;> simp [hwf]
  obtain ⟨wc,wk,wf⟩:=w;have hk:ws.length<=1000:=hk;cases wf with
  |
   none =>
   refine go tt [.t hl,.x (Fy hx),.f rfl] rfl (by simp [Wv]; omega) ?_;exact rd (i+1) (by omega) hlt (by rw [hg]; simp; rfl)
  |
   some t =>
   refine go tt [.t hl,.x (Fy hx),.t rfl,.s (l:=[ta t]) (sz:=9) (λc hc=>by rw [Qk.1 hc]; rfl)] rfl (by simp [Wv]; omega) ?_;exact rd (i+1) (by omega) hlt (by rw [hg]; simp [tal]; rfl)
 ·obtain rfl:i=ws.length:=by omega
  rw [Q4];have hf:decide ((ws.length:Int)<((P9 ws).length:Int))=false:=by simp [hw]
  have hln:(ws.filterMap (·.fails)).length<=1000:=Qd (Y0 _ _) hk;unfold Qkc at hr;cases hfm:ws.filterMap (·.fails) with
  |
   nil =>
   rw [hfm] at hr;injection hr with hr; subst hr;exact ed tt [] [0] [.f hf,.p 2,.c [] Qhp] rfl trivial
  |
   cons b l =>
   rw [hfm] at hr hvb hln;obtain ⟨m,m1,rfl⟩:=Yl.1 hr;have cl:=Rf (hvb b (Qx ..)) (λt ht=>hvb t (Qe _ ht)) (by simp at hln; omega) m1;exact ed tt [] [0] [.f hf,.p 2,.c [] cl] rfl trivial
theorem Zjf {T:Nat} {t:Rat} {Bc:Tm->List Ct} {Br:Tm->List (List LV)×List (List LV)} {r0:List (List LV)} (ht:Qs 1640000 t) (hB:BuildOk Bc)
 (hb:∀ a c r1,Va a->CrOk c->W6 Tryz.prog 72 [.one (.ow 0 0),.agg (ta a)] [.blk T (Ht c r0 r1)] [.one (.row (W3 (Bc a)))] [.blk T (Ht c r0 (Br a))])
 {K:Nat} {c c':Cr} {r1 r1':List (List LV)×List (List LV)} {n:Int} (hc:CrOk c) (hev:0<=c.ev/\c.ev+K<=1000000000000000000) (h:Ue c.now t<=0) (hg:goF Bc Br t K c r1 0=some (c',r1',n)) :
 W6 Tryz.prog 341 [.one (.ow 0 0),.agg (rl t),.one (.ofn 72 [.ow 0 0] [])] [.blk T (Ht c r0 r1)] [.one (.int .i64 n),.one (.int .i64 0)] [.blk T (Ht c' r0 r1')]:=by
 have qt:Qb t:=ht.mono (by decide);have c1:=Nb hc.n.tb qt;refine U4 Tryz.func341 rfl ?_;refine go tt [.c [0] (Qtv hc.n),.c [] c1,.f (by simpa using h)] rfl trivial ?_;refine lp (S:=Nat×Cr×(List (List LV)×List (List LV))×Int) 2 (λL1 s=>(8,.v (.one (.int .i64 s.2.2.2)))::L1) (λs=>[.blk T (Ht s.2.1 r0 s.2.2.1),.blk 38 (rl t)]) (λs=>s.1) (λs=>CrOk s.2.1/\(0<=s.2.1.ev/\s.2.1.ev+s.1<=1000000000000000000)/\(0<=s.2.2.2/\s.2.2.2+s.1<=1000000000000000000)/\goF Bc Br t s.1 s.2.1 s.2.2.1 s.2.2.2=some (c',r1',n)) (K,c,r1,0) ⟨hc,hev,⟨Int.le_refl 0,by dsimp only; omega⟩,hg⟩ rfl (λ_ _=>rfl) rfl λ⟨k,x,r,m⟩ ⟨j1,j2,j3,j4⟩=>?_
 dsimp only at j1 j2 j3 j4 ⊢;cases k with
 | zero=>cases j4
 |
  succ k =>
  simp only [goF] at j4;obtain ⟨ws,w1,j4⟩:=Qc.1 j4;obtain ⟨o,o1,j4⟩:=Qc.1 j4;have cn:=Qwu (T:=T) (r0:=r0) (r1:=r) j1 w1 o1;have ca:=Qaw (Wy t.num) (Wy (t.den:Int)) (Qd ht.1 (by decide)) (Qd ht.2 (by decide)) (by rw [Tf]; exact ht.mono (by decide));rw [Tf] at ca;cases o with
  |
   none =>
   injection j4 with j4; injection j4 with e1 j4; injection j4 with e2 e3;subst e1; subst e2; subst e3;exact ed tt [] [0] [.c [0] cn,.g 25 true rfl,.t rfl,.c [] ca] rfl trivial
  |
   some a =>
   have ha:=Qi4 j1 w1 o1;dsimp only at j4;have cc:=Nb ha.tb qt;by_cases h0:0<Ue a t
   ·rw [if_pos h0] at j4;injection j4 with j4; injection j4 with e1 j4; injection j4 with e2 e3;subst e1; subst e2; subst e3;exact ed tt [] [0] [.c [0] cn,.g 25 false rfl,.c [] cc,.t (by simpa using h0),.c [] ca] rfl trivial
   ·rw [if_neg h0] at j4;obtain ⟨w2,l1,j4⟩:=Qc.1 j4;have j1':=Cu j1 w1;have cl:=Rf (b:=a) (l:=[]) ha.tb (λt ht=>by cases ht) (by decide) rfl;have cb:=hb a { x with l:=ws } r ha j1';have cy:=Qwt (T:=T) (r0:=r0) (r1:=Br a) j1' ha (hB.p a ha) (hB.n a ha) l1;have hf:decide (0<Ue a t)=false:=by simpa using h0
    refine go tt [.c [0] cn,.g 25 false rfl,.c [] cc,.f hf,.c [] cl,.c [0] cb,.c [0] cy] rfl (by simp [Wv]; omega) ?_;exact rd (k,⟨a,w2,x.ev+1⟩,Br a,m+1) (by dsimp only; omega) ⟨lay_ok _ j1' ha (hB.p a ha) (hB.n a ha) l1,by dsimp only; omega,by dsimp only; omega,j4⟩ rfl
theorem Q0c {T:Nat} {c:Cr} {r0:List (List LV)} {r1:List (List LV)×List (List LV)}:W6 Tryz.prog 336 [.one (.ow 0 0)] [.blk T (Ht c r0 r1)] [.one (.int .i64 c.ev)] [.blk T (Ht c r0 r1)]:=by
 refine U4 Tryz.func336 rfl ?_;exact ed tt [] [0] [] rfl trivial
end Orr
namespace Orr
open Go Go.Proofs Orq
def Qef (k:Crv):Int:=max (max 0 ((k.x.length:Int)-1)) ((k.y.length:Int)-1)
structure Es where
 np:Int
 nd:Int
 M:List Pt
 q:Rat
 s:Cr
 t:Cr
 h:Cr
 p:Cr
 d:Cr
structure Em where
 np:Int
 nd:Int
 M:List Pt
 q:Rat
 s:Int
 t:Int
 h:Int
 p:Int
 d:Int
def Es.m (E:Es):Em:=⟨E.np,E.nd,E.M,E.q,E.s.ev,E.t.ev,E.h.ev,E.p.ev,E.d.ev⟩
structure MEn (np nd:Int) (M:List Pt):Prop where
 m:MOk M
 len:(M.length:Int)<=np
 deg:∀ p∈M,Qef p.c≤nd
 id:∀ p∈M,0≤p.id/\p.id≤1048576
structure EOk (b:Int) (E:Es):Prop where
 np:1<=E.np/\E.np<=6
 nd:0<=E.nd/\E.nd<=2
 m:MEn E.np E.nd E.M
 q:Qs 128 E.q
 s:At kS E.M E.q E.s
 t:At kT E.M E.q E.t
 h:At kH E.M E.q E.h
 p:At kP E.M E.q E.p
 d:At kD E.M E.q E.d
 es:0<=E.s.ev/\E.s.ev<=b
 et:0<=E.t.ev/\E.t.ev<=b
 eh:0<=E.h.ev/\E.h.ev<=b
 ep:0<=E.p.ev/\E.p.ev<=b
 ed:0<=E.d.ev/\E.d.ev<=b
theorem EOk.mono {b c:Int} {E:Es} (h:EOk b E) (hb:b<=c):EOk c E:={ h with es:=⟨h.es.1,by have:=h.es.2; omega⟩,et:=⟨h.et.1,by have:=h.et.2; omega⟩,eh:=⟨h.eh.1,by have:=h.eh.2; omega⟩,ep:=⟨h.ep.1,by have:=h.ep.2; omega⟩,ed:=⟨h.ed.1,by have:=h.ed.2; omega⟩ }
abbrev enR (k:Nat) (q:Rat):List LV:=[.ow (k+1) 0,sg q.num,mg q.num,sg (q.den:Int),mg (q.den:Int),.ow (k+2) 0,.ow (k+3) 0,.ow (k+4) 0,.ow (k+5) 0,.ow (k+6) 0]
abbrev taR (np nd:Int) (M:List Pt):List LV:=[.int .i64 np,.int .i64 nd,pts M]
abbrev bS (c:Cr) (M:List Pt) (q:Rat):OB:=.blk 156 (Gl c (Ww M) (brS M (tq q)))
abbrev bT (c:Cr) (M:List Pt) (q:Rat):OB:=.blk 162 (Ht c (Ww M) (brT M (tq q)))
abbrev bH (c:Cr) (M:List Pt) (q:Rat):OB:=.blk 164 (Gl c (Ww M) (brH M (tq q)))
abbrev bP (c:Cr) (M:List Pt) (q:Rat):OB:=.blk 166 (Gl c (Ww M) (brP M (tq q)))
abbrev bD (c:Cr) (M:List Pt) (q:Rat):OB:=.blk 168 (Gl c (Ww M) (brD M (tq q)))
abbrev enB (k:Nat) (E:Es):List OB:=[.blk 51 (enR k E.q),.blk 116 (taR E.np E.nd E.M),bS E.s E.M E.q,bT E.t E.M E.q,bH E.h E.M E.q,bP E.p E.M E.q,bD E.d E.M E.q]
end Orr
namespace Orr
open Go Go.Proofs Orq
set_option maxRecDepth 10000
theorem lml (l:List Nat):(lm l).length=l.length:=by simp [lm]
theorem Qeu {z:Int}:(Uo z.natAbs).length<=4↔Ug z<=128:=by
 constructor
 ·intro h;have h1:=Nm (Uo z.natAbs) (Ni z.natAbs).1;rw [Fb] at h1;refine Mg.2 (Xb h1 (Qd (Zs (by decide) h) (by decide)))
 ·intro h;have:=Hi (x:=z.natAbs) (k:=128) h;omega
def Ax (k:Crv):Bool:=(k.x++k.y++[k.d]).all λz=>decide (Ug z<=128)
theorem Qjs {k:Crv}:Ax k=true↔(∀ z∈k.x,Ug z≤128)/\(∀ z∈k.y,Ug z≤128)/\Ug k.d≤128:=by
 unfold Ax;simp only [List.all_append,Zi,Yy,decide_eq_true_iff,Qk,forall_eq];constructor
 ·rintro ⟨⟨h1,h2⟩,h3⟩; exact ⟨h1,h2,h3⟩
 ·rintro ⟨h1,h2,h3⟩; exact ⟨⟨h1,h2⟩,h3⟩
theorem Qb0 {k:Crv} {z:Int} (hz:z∈k.x++k.y++[k.d]) (h:¬Ug z<=128):Ax k=false:=by
 unfold Ax;rw [<-Bool.not_eq_true,Yy];intro h';exact h (of_decide_eq_true (h' z hz))
abbrev tB (np nd:Int) (l:List Pt):OB:=.blk 116 (taR np nd l)
theorem Zjn {np nd:Int} {l:List Pt} (id:Int) (hl:l.length<1073741824):W6 Tryz.prog 120 [.one (.ow 0 0),.one (.int .i64 id)] [tB np nd l] [.one (.int .i64 (Lu l id:Int)),.one (.bool (has l id))] [tB np nd l]:=by
 refine U4 Tryz.func120 rfl ?_;refine go tt [] rfl trivial ?_;refine ct 2 (S:=Unit) (λ_=>[(1,.v (.one (.int .i64 id))),(0,.v (.one (.ow 0 0))),(6,.v (.one (.int .i64 (Lu l id:Int))))]) (λ_=>[tB np nd l]) (λ_=>True) rfl ?_ ?_
 ·refine lp (S:=Nat) 1 (λL1 k=>(6,.v (.one (.int .i64 (k:Int))))::L1) (λ_=>[tB np nd l]) (λk=>l.length-k) (λk=>k<=l.length/\∀ j p,j<k->l[j]? = some p->p.id<id) 0 ⟨Qi _,λj p h=>by omega⟩ rfl (λ_ _=>rfl) rfl λk ⟨hk,hlt⟩=>?_
  by_cases h:k<l.length
  ·obtain ⟨p,hp⟩:=gxE (l:=l) (i:=k) h;by_cases hid:p.id<id
   ·refine go tt [.t (by simp; omega),.x (Ho hp),.t (by simpa using hid)] rfl (by simp [Wv]; omega) ?_;exact rd (k+1) (by omega) ⟨h,λj q hj hq=>by
     rcases Zb j k with h2 | h2
     ·exact hlt j q h2 hq
     ·have:j=k:=by omega
      subst this; rw [hp] at hq; injection hq with hq; rw [<-hq]; exact hid⟩ rfl
   ·have e:=Qji hlt (.inr ⟨p,hp,hid⟩);refine go tt [.t (by simp; omega),.x (Ho hp),.f (by simpa using hid)] rfl trivial ?_;rw [e];exact rc () trivial rfl
  ·obtain rfl:k=l.length:=by omega
   have e:=Qji hlt (.inl rfl);refine go tt [.f (by simp),.f rfl] rfl trivial ?_;rw [e];exact rc () trivial rfl
 ·intro _ _;by_cases h:Lu l id<l.length
  ·obtain ⟨p,hp⟩:=gxE (l:=l) (i:=Lu l id) h;have e:has l id=decide (p.id=id):=by simp [has,hp]
   rw [e];exact ed tt [] [0] [.g 36 true (by simp; omega),.x (Ho hp)] rfl trivial
  ·have e:has l id=false:=by simp [has,Q0 (Js h)]
   rw [e];exact ed tt [] [0] [.g 36 false (by simp; omega)] rfl trivial
theorem Q0j {lx ly:List (List LV)} {px py:List Int} {x y:LV} {d:Int} (hx:IsInts lx px) (hy:IsInts ly py) (hd:Fc x y d) (hk:Cs 4294967294 1073741824 (Crv.mk px py d)) (id:Int):W0 Tryz.prog 97 [.agg [.row lx,.row ly,x,y,.int .i64 id]] [.agg (W8 ⟨Crv.norm (Crv.mk px py d),id⟩)]:=by
 have cd:=Md hd (Qd hk.d (by omega));by_cases h0:d=0
 ·subst h0;have ck:Cs 4294967294 1073741824 (Crv.mk px py 1):=⟨hk.x,hk.y,show Ug 1<=4294967294 by decide,hk.lx,hk.ly⟩;have cm:=Qcj hx hy (Wy 1) ck (by decide);have e:Crv.norm (Crv.mk px py 1)=Crv.norm (Crv.mk px py 0):=by simp only [Crv.norm,Crv.g,Crv.d']; rfl
  rw [e] at cm;obtain ⟨b,l,rfl,rfl,_⟩:=hd;exact w tt Tryz.func97 rfl [.c [] cd,.c [] Nc,.t (by simp),.c [] (Qmq (z:=1) (by decide)),.c [] cm] rfl rfl trivial
 ·have cm:=Qcj hx hy hd hk h0;obtain ⟨b,l,rfl,rfl,_⟩:=hd;exact w tt Tryz.func97 rfl [.c [] cd,.c [] Nc,.f (by simpa using h0),.c [] cm] rfl rfl trivial
theorem Q3u {k:Crv} (hk:Cs 4294967294 1073741824 k):W0 Tryz.prog 184 [.agg (cl k)] [.one (.bool (Ax k))]:=by
 have hlx:=hk.lx;have hly:=hk.ly;refine U4 Tryz.func184 rfl ?_;refine go tt [] rfl trivial ?_;refine lp (S:=Nat) 1 (λL1 i=>(15,.v (.one (.int .i64 (i:Int))))::L1) (λ_=>[.blk 60 (cl k)]) (λi=>3-i) (λi=>i≤3/\(0<i->∀ z∈k.x,Ug z≤128)/\(1<i->∀ z∈k.y,Ug z≤128)/\(2<i->Ug k.d≤128)) 0 ⟨by decide,by omega,by omega,by omega⟩ rfl (λ_ _=>rfl) rfl λi ⟨hi,g0,g1,g2⟩=>?_
 rcases (show i=0\/i=1\/i=2\/i=3 by omega) with rfl | rfl | rfl | rfl
 ·have hl:((k.x).map Gb).length=(k.x).length:=by simp
  refine go tt [.t rfl,.i 0] rfl (by simp [Wv]) ?_;refine lp (S:=Nat) 1 (λL1 j=>(20,.v (.one (.int .i64 (j:Int))))::L1) (λ_=>[.blk 60 (cl k)]) (λj=>(k.x).length-j) (λj=>j<=(k.x).length/\∀ n z,n<j->(k.x)[n]? = some z->Ug z<=128) 0 ⟨Qi _,λn z h=>by omega⟩ rfl (λ_ _=>rfl) rfl λj ⟨hj,hs⟩=>?_
  by_cases h:j<(k.x).length
  ·obtain ⟨z,hz⟩:=gxE (l:=(k.x)) (i:=j) h;by_cases hb:Ug z<=128
   ·have hb4:=Qeu.2 hb;refine go tt [.t (by simp; omega),.x (Gu (f:=Gb) hz),.f (by simp [lml]; omega)] rfl (by simp [Wv]; omega) ?_;exact rd (j+1) (by omega) ⟨h,λn y hn hy=>by
     rcases Zb n j with h2 | h2
     ·exact hs n y h2 hy
     ·have:n=j:=by omega
      subst this; rw [hz] at hy; injection hy with hy; rw [<-hy]; exact hb⟩ rfl
   ·have hb4:=mt Qeu.1 hb;rw [Qb0 (Qq.2 (.inl (Qq.2 (.inl (Qa hz))))) hb];exact en tt [.t (by simp; omega),.x (Gu (f:=Gb) hz),.t (by simp [lml]; omega)] rfl rfl trivial
  ·have hall:∀ z∈k.x,Ug z≤128:=λz hz=>by
    obtain ⟨n,hn⟩:=Xp hz;exact hs n z (by have:=(Qg.1 hn).1; omega) hn
   refine go tt [.f (by simp; omega)] rfl (by simp [Wv]) ?_;exact rd 1 (by omega) ⟨by omega,λ_=>hall,by omega,by omega⟩ rfl
 ·have hl:((k.y).map Gb).length=(k.y).length:=by simp
  refine go tt [.t rfl,.i 1] rfl (by simp [Wv]) ?_;refine lp (S:=Nat) 1 (λL1 j=>(20,.v (.one (.int .i64 (j:Int))))::L1) (λ_=>[.blk 60 (cl k)]) (λj=>(k.y).length-j) (λj=>j<=(k.y).length/\∀ n z,n<j->(k.y)[n]? = some z->Ug z<=128) 0 ⟨Qi _,λn z h=>by omega⟩ rfl (λ_ _=>rfl) rfl λj ⟨hj,hs⟩=>?_
  by_cases h:j<(k.y).length
  ·obtain ⟨z,hz⟩:=gxE (l:=(k.y)) (i:=j) h;by_cases hb:Ug z<=128
   ·have hb4:=Qeu.2 hb;refine go tt [.t (by simp; omega),.x (Gu (f:=Gb) hz),.f (by simp [lml]; omega)] rfl (by simp [Wv]; omega) ?_;exact rd (j+1) (by omega) ⟨h,λn y hn hy=>by
     rcases Zb n j with h2 | h2
     ·exact hs n y h2 hy
     ·have:n=j:=by omega
      subst this; rw [hz] at hy; injection hy with hy; rw [<-hy]; exact hb⟩ rfl
   ·have hb4:=mt Qeu.1 hb;rw [Qb0 (Qq.2 (.inl (Qq.2 (.inr (Qa hz))))) hb];exact en tt [.t (by simp; omega),.x (Gu (f:=Gb) hz),.t (by simp [lml]; omega)] rfl rfl trivial
  ·have hall:∀ z∈k.y,Ug z≤128:=λz hz=>by
    obtain ⟨n,hn⟩:=Xp hz;exact hs n z (by have:=(Qg.1 hn).1; omega) hn
   refine go tt [.f (by simp; omega)] rfl (by simp [Wv]) ?_;exact rd 2 (by omega) ⟨by omega,λ_=>g0 (by omega),λ_=>hall,by omega⟩ rfl
 ·have hl:(([k.d]).map Gb).length=([k.d]).length:=by simp
  have h1:([k.d]).length=1:=rfl;refine go tt [.t rfl,.i 2] rfl (by simp [Wv]) ?_;refine lp (S:=Nat) 1 (λL1 j=>(20,.v (.one (.int .i64 (j:Int))))::L1) (λ_=>[.blk 60 (cl k)]) (λj=>([k.d]).length-j) (λj=>j<=([k.d]).length/\∀ n z,n<j->([k.d])[n]? = some z->Ug z<=128) 0 ⟨Qi _,λn z h=>by omega⟩ rfl (λ_ _=>rfl) rfl λj ⟨hj,hs⟩=>?_
  by_cases h:j<([k.d]).length
  ·obtain ⟨z,hz⟩:=gxE (l:=([k.d])) (i:=j) h;by_cases hb:Ug z<=128
   ·have hb4:=Qeu.2 hb;refine go tt [.t (by simp; omega),.x (Gu (f:=Gb) hz),.f (by simp [lml]; omega)] rfl (by simp [Wv]; omega) ?_;exact rd (j+1) (by omega) ⟨h,λn y hn hy=>by
     rcases Zb n j with h2 | h2
     ·exact hs n y h2 hy
     ·have:n=j:=by omega
      subst this; rw [hz] at hy; injection hy with hy; rw [<-hy]; exact hb⟩ rfl
   ·have hb4:=mt Qeu.1 hb;rw [Qb0 (Qq.2 (.inr (Qa hz))) hb];exact en tt [.t (by simp; omega),.x (Gu (f:=Gb) hz),.t (by simp [lml]; omega)] rfl rfl trivial
  ·have hall:∀ z∈[k.d],Ug z≤128:=λz hz=>by
    obtain ⟨n,hn⟩:=Xp hz;exact hs n z (by have:=(Qg.1 hn).1; omega) hn
   refine go tt [.f (by simp; omega)] rfl (by simp [Wv]) ?_;exact rd 3 (by omega) ⟨by omega,λ_=>g0 (by omega),λ_=>g1 (by omega),λ_=>hall k.d (by simp)⟩ rfl
 ·rw [Qjs.2 ⟨g0 (by omega),g1 (by omega),g2 (by omega)⟩];exact en tt [.f rfl] rfl rfl trivial
def Qew (p:Pt):Bool:=decide (0<=p.id) && (decide (p.id<=1048576) && Ax p.c)
theorem Zga {p:Pt} (hk:Cs 4294967294 1073741824 p.c):W0 Tryz.prog 121 [.agg (W8 p)] [.one (.bool (Qew p))]:=by
 have cs:=Q3u hk;by_cases h0:0<=p.id
 ·by_cases h1:p.id<=1048576
  ·have e:Qew p=Ax p.c:=by simp [Qew,h0,h1]
   rw [e];exact w tt Tryz.func121 rfl [.t (by simpa using h0),.t (by simpa using h1),.c [] cs] rfl rfl trivial
  ·have e:Qew p=false:=by simp [Qew,h1]
   rw [e];exact w tt Tryz.func121 rfl [.t (by simpa using h0),.f (by simpa using h1)] rfl rfl trivial
 ·have e:Qew p=false:=by simp [Qew,h0]
  rw [e];exact w tt Tryz.func121 rfl [.f (by simpa using h0),.f rfl] rfl rfl trivial
theorem Q3h {k:Crv} (hn:Nml k) (hk:Cs 4294967294 1073741824 k):W0 Tryz.prog 85 [.agg (cl k)] [.one (.int .i64 (Qef k))] :=
 w tt Tryz.func85 rfl [.c [] (Qhu hn hk),.c [] (Sf k.x),.c [] (Sf k.y)] rfl rfl trivial
def S5 (np nd:Int) (M:List Pt) (p:Pt):Int:=if Qew p=false then 1 else if has M p.id=true then 6 else if nd<Qef p.c then 7 else if np<=(M.length:Int) then 9 else 0
theorem Zf9 {lx ly:List (List LV)} {px py:List Int} {x y:LV} {d id np nd:Int} {l:List Pt} (hx:IsInts lx px) (hy:IsInts ly py) (hd:Fc x y d) (hk:Cs 4294967294 1073741824 (Crv.mk px py d)) (hl:l.length<=1000000) :
 W6 Tryz.prog 76 [.one (.ow 0 0),.agg [.row lx,.row ly,x,y,.int .i64 id]] [tB np nd l] [.one (.int .i64 (S5 np nd l (Pt.mk (Crv.norm (Crv.mk px py d)) id)))] [tB np nd (if S5 np nd l (Pt.mk (Crv.norm (Crv.mk px py d)) id)=0 then put l (Pt.mk (Crv.norm (Crv.mk px py d)) id) else l)]:=by
 have cf:=Q0j hx hy hd hk id;have hkn:=hk.norm (by omega);have hnm:=Crv.nml (Crv.mk px py d);obtain ⟨b,r,rfl,rfl,_⟩:=hd;obtain ⟨q,hq⟩:=nmE (Pt.mk (Crv.norm (Crv.mk px py d)) id);have hqi:q.id=id:=by rw [hq]
 have hqc:q.c=Crv.norm (Crv.mk px py d):=by rw [hq]
 rw [<-hq] at cf ⊢;rw [<-hqc] at hkn hnm;have ca:W6 Tryz.prog 120 [.one (.ow 0 0),.one (.int .i64 q.id)] [tB np nd l] [.one (.int .i64 (Lu l id:Int)),.one (.bool (has l id))] [tB np nd l]:=by rw [hqi]; exact Zjn id (by omega)
 have cm:=Zga (p:=q) hkn;have cd:=Q3h hnm hkn;have hpl:=Qu7 l id;have hll:(l.map W8).length=l.length:=by simp
 by_cases h0:Qew q=false
 ·have e:S5 np nd l q=1:=by simp [S5,h0]
  rw [e,if_neg (by decide)];refine U4 Tryz.func76 rfl ?_;exact ed tt [] [0] [.c [] cf,.c [0] ca,.c [] cm,.t (by simp [h0])] rfl trivial
 by_cases h1:has l id=true
 ·have e:S5 np nd l q=6:=by simp [S5,h0,hqi,h1]
  rw [e,if_neg (by decide)];refine U4 Tryz.func76 rfl ?_;exact ed tt [] [0] [.c [] cf,.c [0] ca,.c [] cm,.f (by simpa using h0),.t h1] rfl trivial
 by_cases h2:nd<Qef q.c
 ·have e:S5 np nd l q=7:=by simp [S5,h0,hqi,h1,h2]
  rw [e,if_neg (by decide)];refine U4 Tryz.func76 rfl ?_;exact ed tt [] [0] [.c [] cf,.c [0] ca,.c [] cm,.f (by simpa using h0),.f (by simpa using h1),.c [] cd,.t (by simpa using h2)] rfl trivial
 by_cases h3:np<=(l.length:Int)
 ·have e:S5 np nd l q=9:=by simp [S5,h0,hqi,h1,h2,h3]
  rw [e,if_neg (by decide)];refine U4 Tryz.func76 rfl ?_;exact ed tt [] [0] [.c [] cf,.c [0] ca,.c [] cm,.f (by simpa using h0),.f (by simpa using h1),.c [] cd,.f (by simpa using h2),.t (by simp; omega)] rfl trivial
 have e:S5 np nd l q=0:=by simp [S5,h0,hqi,h1,h2,h3]
 rw [e,if_pos rfl];have s1:∀ c∈(l.map W8).take (Lu l id),c.length=5:=λc hc=>Of l c (Qn hc)
 have s3:∀ c∈(l.map W8).drop (Lu l id),c.length=5:=λc hc=>Of l c (Qz hc)
 have ep:pts (put l q)=.row ((l.map W8).take (Lu l id)++[W8 q]++(l.map W8).drop (Lu l id)):=by
  simp [put,hqi,pts,J8,Y6]
 have eB:tB np nd (put l q)=.blk 116 [.int .i64 np,.int .i64 nd,.row ((l.map W8).take (Lu l id)++[W8 q]++(l.map W8).drop (Lu l id))]:=by
  show OB.blk 116 [.int .i64 np,.int .i64 nd,pts (put l q)]=_;rw [ep]
 rw [eB];refine U4 Tryz.func76 rfl ?_;exact ed tt [2] [0] [.c [] cf,.c [0] ca,.c [] cm,.f (by simpa using h0),.f (by simpa using h1),.c [] cd,.f (by simpa using h2),.f (by simp; omega),.i (Lu l id),.s s1,.i (Lu l id),.s s3] rfl (by
  simp only [Wv,Qw,Q6,Xy,Qu,Zd,hll]
  and_intros <;> first | exact Of l | omega)
theorem Q3w {np nd:Int} {l:List Pt}:W6 Tryz.prog 9 [.one (.ow 0 0)] [tB np nd l] [.one (.int .i64 (l.length:Int))] [tB np nd l]:=by
 have hll:((l.map W8).length:Int)=l.length:=by simp
 refine U4 Tryz.func9 rfl ?_;exact ed tt [] [0] [.r 7 (eI hll)] rfl trivial
def Eh (l:List (Pt×Pt)):List (List LV):=l.map Q1a
theorem Zba {l m:List (List LV)} (h:l=m):TV.one (LV.row l)=.one (.row m):=h ▸ rfl
theorem oz {P:Program} [Mo P] {n:Nat} {Q:Exit->Sg->List OB->Prop} {L L':Sg} {B B':List OB} (d off T sz:Nat) {it:List It} (hs:Gz it=true) (h:Q1g (P:=P) d L B [.oc d off T sz]=some (L',B',[],[])) (k:AK P n Q it L' B'):AK P n Q it L B:=AK.sub (Qob h EqOk.nil) hs k
theorem Q93 {a b:Pt} {t:Tm} (ha:Sc a.c) (hb:Sc b.c) (ht:Va t):W0 Tryz.prog 111 [.one (.int .i64 2),.agg (ta t),.one (.row [W8 a,W8 b])] [.agg (Nj (Nu (Uj t) a b)),.one (.int .i64 0)]:=by
 have h1:=So hb ha;have h2:=Sp hb ha;refine U4 Tryz.func111 rfl ?_;refine go tt [.c [] Q0f,.f rfl] rfl trivial ?_;refine lp (S:=Nat) 3 (λL1 i=>(22,.v (.one (.int .i64 (i:Int))))::L1) (λi=>[.blk 40 (ta t),.blk 144 zCt,.blk 144 [.int .i64 2,.int .i64 (if 1<=i then a.id else 0),.int .i64 (if 2<=i then b.id else 0),.int .i64 0,.int .i64 0,.nils,.int .i64 0]]) (λi=>2-i) (λi=>i<=2) 0 (Qi _) rfl (λ_ _=>rfl) rfl λi hi=>?_
 rcases (show i=0\/i=1\/i=2 by omega) with rfl | rfl | rfl
 ·refine go tt [.t rfl,.x (i:=0) (xs:=W8 a) rfl,.i 0] rfl (by simp [Wv]) ?_;exact rd 1 (by omega) (by omega) rfl
 ·refine go tt [.t rfl,.x (i:=1) (xs:=W8 b) rfl,.i 1] rfl (by simp [Wv]) ?_;exact rd 2 (by omega) (by omega) rfl
 ·exact en tt [.f rfl,.f rfl,.t rfl,.x (i:=1) (xs:=W8 b) rfl,.x (i:=0) (xs:=W8 a) rfl,.c [] (Qcf hb.n ha.n hb.cb ha.cb),.x (i:=1) (xs:=W8 b) rfl,.x (i:=0) (xs:=W8 a) rfl,.c [] (Qci hb.n ha.n hb.cb ha.cb),.c [] Qpr,.c [] (Qfo (O2 h1 h2).dp ht)] rfl rfl trivial
theorem Q3b {a:Tm} (ha:Va a) {c:Cr} {r0 r1:List (List LV)}:∀ (k:Nat) (l:List Pt) (ms:List (Pt×Pt)),l.length≤k->l.length≤1000->ms.length+l.length≤1000000->(∀ p∈l,Sc p.c)->W6 Tryz.prog 110 [.one (.ow 0 0),.agg (ta a),.one (pts l)] [.blk 162 [.bool true,pl c.now.p,sg c.now.lo.num,mg c.now.lo.num,sg (c.now.lo.den:Int),mg (c.now.lo.den:Int),sg c.now.hi.num,mg c.now.hi.num,sg (c.now.hi.den:Int),mg (c.now.hi.den:Int),.row (P9 c.l),.int .i64 c.ev,.row r0,.row r1,.orow 1 10 none],.row false 217 10 (Eh ms)] [.one (.row (Ww (P8 (Uj a) l).1))] [.blk 162 [.bool true,pl c.now.p,sg c.now.lo.num,mg c.now.lo.num,sg (c.now.lo.den:Int),mg (c.now.lo.den:Int),sg c.now.hi.num,mg c.now.hi.num,sg (c.now.hi.den:Int),mg (c.now.hi.den:Int),.row (P9 c.l),.int .i64 c.ev,.row r0,.row r1,.orow 1 10 none],.row false 217 10 (Eh (ms++(P8 (Uj a) l).2))]
 := by
  intro k
  induction k with
  | zero=>?_
  | succ k ih=>?_
  all_goals
   intro l ms hk hn hms hl;have hcl:=U8 l;show W6 Tryz.prog 110 [.one (.ow 0 0),.agg (ta a),.one (.row (Ww l))] _ _ _;by_cases hs:l.length<2
   ·rw [Ml _ hs,Zw];refine U4 Tryz.func110 rfl ?_;exact ed tt [] [0,1] [.t (by simp [hcl]; omega)] rfl trivial
   first
    | (exfalso; omega)
    |
     skip
     obtain ⟨k1,k2,k3,k4⟩:=Q5j hs hk;obtain ⟨h,hh⟩:=nmE ((l.length+1) / 2);obtain ⟨u,hu,hul,_⟩:=Sx (Uj a) k (l.take ((l.length+1) / 2)) k1 k3;obtain ⟨v,hv,hvl,_⟩:=Sx (Uj a) k (l.drop ((l.length+1) / 2)) k2 k4;have g1:=Nl (Uj a) _ (l.take ((l.length+1) / 2)) (Qm _);have g2:=Nl (Uj a) _ (l.drop ((l.length+1) / 2)) (Qm _);have hlt:(l.take ((l.length+1) / 2)).length+(l.drop ((l.length+1) / 2)).length=l.length:=by rw [Qu,Zd]; omega
     have c1:=ih (l.take ((l.length+1) / 2)) ms k1 (by omega) (by omega) λp hp=>hl p (Qn hp)
     have c2:=ih (l.drop ((l.length+1) / 2)) (ms++(P8 (Uj a) (l.take ((l.length+1) / 2))).2) k2 (by omega) (by rw [Qw]; omega) λp hp=>hl p (Qz hp)
     have hpl:=Ew (Uj a) hs hu hv;rw [hpl];rw [hu] at c1;rw [hv] at c2;generalize (P8 (Uj a) (l.take ((l.length+1) / 2))).2=G1 at *;generalize (P8 (Uj a) (l.drop ((l.length+1) / 2))).2=G2 at *;have hsu:=hl u (Qn hul);have hsv:=hl v (Qz hvl);have cb:=Q9q (t:=a) hsu hsv ha;have htd:((l.length:Int)+1).tdiv 2=(((l.length+1) / 2:Nat):Int):=rfl;have hg:∀ m,Eh (ms++(G1++G2++[m]))=Eh ((ms++G1)++G2)++[Q1a m]:=λm=>by simp [Eh]
     have hml:(Eh ((ms++G1)++G2)).length=ms.length+G1.length+G2.length:=by simp [Eh]; omega
     have hml2:(Eh (ms++(G1++G2))).length=ms.length+G1.length+G2.length:=by simp [Eh]; omega
     have h5:=eq_true (p:=∀ z,z∈Ww l->z.length=ti62.sz) (Qac l);have e1:(Ww l).take ((l.length+1) / 2)=Ww (l.take ((l.length+1) / 2)):=by simp [Ww,J8]
     have e2:(Ww l).drop ((l.length+1) / 2)=Ww (l.drop ((l.length+1) / 2)):=by simp [Ww,Y6]
     unfold Qgb;refine U4 Tryz.func110 rfl ?_;by_cases hb:Mc (Uj a) u v=true
     ·rw [if_pos hb,hg];exact ed tt [] [0,1] [.f (by simp [hcl]; omega),.r 17 (eI (b:=(((l.length+1) / 2:Nat):Int)) (by rw [hcl]; rfl)),.i ((l.length+1) / 2),.r 22 (Zba e1),.c [0,1] c1,.i ((l.length+1) / 2),.r 28 (Zba e2),.c [0,1] c2,.x (i:=0) (l:=Ww [u]) (xs:=W8 u) rfl,.x (i:=0) (l:=Ww [v]) (xs:=W8 v) rfl,.c [] cb,.f (by rw [hb]; rfl),.x (i:=0) (l:=Ww [u]) (xs:=W8 u) rfl,.x (i:=0) (l:=Ww [v]) (xs:=W8 v) rfl,.s (sz:=10) (l:=[Q1a (u,v)]) (λc hc=>by rw [Qk.1 hc]; rfl),.i 1] rfl (by simp [Wv,U8,hml2,h5]; omega)
     ·have hb:Mc (Uj a) u v=false:=by simpa using hb
      rw [if_neg (by simp [hb]),hg];exact ed tt [] [0,1] [.f (by simp [hcl]; omega),.r 17 (eI (b:=(((l.length+1) / 2:Nat):Int)) (by rw [hcl]; rfl)),.i ((l.length+1) / 2),.r 22 (Zba e1),.c [0,1] c1,.i ((l.length+1) / 2),.r 28 (Zba e2),.c [0,1] c2,.x (i:=0) (l:=Ww [u]) (xs:=W8 u) rfl,.x (i:=0) (l:=Ww [v]) (xs:=W8 v) rfl,.c [] cb,.t (by rw [hb]; rfl),.x (i:=0) (l:=Ww [v]) (xs:=W8 v) rfl,.x (i:=0) (l:=Ww [u]) (xs:=W8 u) rfl,.s (sz:=10) (l:=[Q1a (v,u)]) (λc hc=>by rw [Qk.1 hc]; rfl),.i 1] rfl (by simp [Wv,U8,hml2,h5]; omega)
theorem Qkn {l:List Pt} {a:Tm} {c:Cr} {r1:List (List LV)×List (List LV)} (hl:∀ p∈l,Sc p.c) (hn:l.length≤1000) (ha:Va a):W6 Tryz.prog 72 [.one (.ow 0 0),.agg (ta a)] [.blk 162 (Ht c (Ww l) r1)] [.one (.row (W3 (bcT l a)))] [.blk 162 (Ht c (Ww l) (brT l a))]:=by
 have cp:=Q3b (r0:=Ww l) (c:=c) (r1:=r1.1) ha l.length l [] (Qm _) hn (by show 0+l.length≤1000000; omega) hl;have hms:=Nl (Uj a) l.length l (Qm _);unfold bcT brT;obtain ⟨M,hM⟩:=nmE ((P8 (Uj a) l).2);have hmm:∀ m∈M,Sc m.1.c/\Sc m.2.c:=λm hm=>by
  rw [hM] at hm;exact ⟨hl _ (Ob m hm).1,hl _ (Ob m hm).2⟩
 rw [<-hM] at cp hms ⊢;rw [J3] at cp;have hgl:(Eh M).length=M.length:=by simp [Eh]
 refine U4 Tryz.func72 rfl ?_;refine go tt [] rfl trivial ?_;refine oz 0 14 217 10 rfl rfl ?_;refine go tt [.c [] Ln,.c [0,2] cp,.o 5 144 7] rfl trivial ?_;refine lp (S:=Nat) 4 (λL1 i=>(29,.v (.one (.int .i64 (i:Int))))::(5,.v (.one (.orow 3 7 none)))::L1) (λi=>[.blk 162 [.bool true,pl c.now.p,sg c.now.lo.num,mg c.now.lo.num,sg (c.now.lo.den:Int),mg (c.now.lo.den:Int),sg c.now.hi.num,mg c.now.hi.num,sg (c.now.hi.den:Int),mg (c.now.hi.den:Int),.row (P9 c.l),.int .i64 c.ev,.row (Ww l),.row (Ww (P8 (Uj a) l).1),.orow 2 10 none],.blk 40 (ta a),.row false 217 10 (Eh M),.row false 144 7 (W3 ((M.map λm=>Nu (Uj a) m.1 m.2).take i))]) (λi=>M.length-i) (λi=>i<=M.length) 0 (Qi _) rfl (λ_ _=>rfl) rfl λi hi=>?_
 by_cases hlt:i<M.length
 ·obtain ⟨m,hm⟩:=gxE (l:=M) (i:=i) hlt;obtain ⟨s1,s2⟩:=hmm m (Qa hm);have hg:(Eh M)[i]? = some (Q1a m):=Gu hm;have hq:∀ y∈[Nj (Nu (Uj a) m.1 m.2)],y.length=7:=λy hy=>by rw [Qk.1 hy]; rfl
  have ht:(M.map λm=>Nu (Uj a) m.1 m.2).take (i+1)=(M.map λm=>Nu (Uj a) m.1 m.2).take i++[Nu (Uj a) m.1 m.2]:=by
   rw [Z0,Zq,hm]; rfl
  refine go tt [.t (decide_eq_true (by omega)),.i i,.x hg,.i 0,.i 1,.c [] (Q93 s1 s2 ha),.s (sz:=7) hq] rfl (by simp [Wv,hgl,Ry]; omega) ?_;exact rd (i+1) (by omega) hlt (by rw [ht]; simp [W3]; rfl)
 ·obtain rfl:i=M.length:=by omega
  rw [Qr (by simp)];exact ed tt [2,3] [0] [.f (decide_eq_false (by omega))] rfl trivial
def Zi4 (l:List Pt) (a:Tm):Cr:=⟨a,(Ui (bcT l a)).map fresh,0⟩
theorem Zae {t:Rat} {l:List Pt} {K:Nat} {c c':Cr} {r1 r1':List (List LV)×List (List LV)} {n:Int} (ht:Qs 1640000 t) (hl:∀ p∈l,Sc p.c) (hn:l.length≤1000) (hc:CrOk c) (hev:0≤c.ev/\c.ev+K≤1000000000000000000) (h:Ue c.now t≤0) (hg:goF (bcT l) (brT l) t K c r1 0=some (c',r1',n)) :
 W6 Tryz.prog 362 [.one (.ow 0 0),.agg (rl t)] [.blk 162 (Ht c (Ww l) r1)] [.one (.int .i64 n),.one (.int .i64 0)] [.blk 162 (Ht c' (Ww l) r1')]:=by
 have cg:=Zjf (T:=162) (r0:=Ww l) ht (Qtk hl hn) (λa c r1 ha _=>Qkn (c:=c) (r1:=r1) hl hn ha) hc hev h hg;refine U4 Tryz.func362 rfl ?_;exact ed tt [] [0] [.c [] (S8 (ht.mono (by decide))),.c [0] cg] rfl trivial
theorem Zag {c:Cr} {r0 r2:List (List LV)} {w:Pt}:W6 Tryz.prog 38 [.one (.ow 0 0)] [.blk 162 (Ht c r0 ([W8 w],r2))] [.one (.int .i64 w.id),.one (.bool true)] [.blk 162 (Ht c r0 ([W8 w],r2))]:=by
 refine U4 Tryz.func38 rfl ?_;exact ed tt [] [0] [.f rfl,.x (i:=0) (xs:=W8 w) rfl] rfl trivial
theorem Q3c {c:Cr} {r0 r2:List (List LV)}:W6 Tryz.prog 38 [.one (.ow 0 0)] [.blk 162 (Ht c r0 ([],r2))] [.one (.int .i64 0),.one (.bool false)] [.blk 162 (Ht c r0 ([],r2))]:=by
 refine U4 Tryz.func38 rfl ?_;exact ed tt [] [0] [.t rfl] rfl trivial
end Orr
namespace Orr
open Go Go.Proofs
set_option maxRecDepth 10000
structure AddI (x y:Nat) (s:Nat×Nat×List Nat):Prop where
 d:Dg s.2.2
 l:s.2.2.length=s.1
 v:Ab s.2.2+s.2.1*10000^s.1=Ab ((Cf x).take s.1)+Ab ((Cf y).take s.1)
 c:s.2.1<=1
 b:s.1<=max (Cf x).length (Cf y).length\/s.1=max (Cf x).length (Cf y).length+1/\10000^(max (Cf x).length (Cf y).length)<=x+y/\s.2.1=0
structure MulI (x y i d:Nat) (s:Nat×Nat×List Nat):Prop where
 l:s.2.2.length=(Cf x).length+(Cf y).length
 dg:Dg s.2.2
 v:Ab s.2.2+s.2.1*10000^(i+s.1)=Ab ((Cf x).take i)*y+10000^i*d*Ab ((Cf y).take s.1)
 c:s.2.1<10000
 b:s.1<=(Cf y).length/\(∀ j v,i+(Cf y).length<=j->s.2.2[j]? = some v->v=0)\/s.1=(Cf y).length+1/\s.2.1=0/\∀ j v,i+(Cf y).length+1<=j->s.2.2[j]? = some v->v=0
end Orr
namespace Orr
def Qzg:List Rat->List Rat
 | []=>[]
 |
  x::l=>match Qzg l with
  | []=>if x=0 then [] else [x]
  | y::k=>x::y::k
theorem Ql6:∀ (l:List Rat),∀ z∈Qzg l,z∈l
 | [],z,h=>h
 |
  x::l,z,h=>by
  simp only [Qzg] at h;have ih:=Ql6 l
  split at h
  ·split at h
   ·cases h
   ·simp at h; simp [h]
  ·rename_i y k e;rw [e] at ih;rcases Ql.1 h with h | h
   ·simp [h]
   ·exact Qe _ (ih z h)
def zp (p:List Int):List Rat:=p.map λ(z:Int)=>(z:Rat)
def Rb (s:Nat) (p:List Rat):Prop:=∀ q∈p,Qs s q
theorem Rb.mono {s t:Nat} {p:List Rat} (h:Rb s p) (ht:s<=t):Rb t p:=λq hq=>(h q hq).mono ht
theorem Rb.get {s:Nat} {p:List Rat} (h:Rb s p) {i:Nat} {q:Rat} (hq:p[i]? = some q):Qs s q:=h q (Qa hq)
theorem Zhs {s:Nat} {z:Int} (h:Ug z<=s) (h1:1<=s):Qs s (z:Rat):=⟨by simpa using h,Qd (show Ug ((1:Nat):Int)<=1 by decide) h1⟩
theorem Zcp {s:Nat} (h1:1<=s):Qs s 0:=Zhs (z:=0) (by simp [Bf]) h1
theorem Rb.getD {s:Nat} {p:List Rat} (h:Rb s p) (h1:1<=s) (i:Nat):Qs s (p.getD i 0):=by
 rw [Qj];cases e:p[i]? with
 | none=>exact Zcp h1
 | some q=>exact h.get e
theorem Rb.trim {s:Nat} {p:List Rat} (h:Rb s p):Rb s (Qzg p):=λq hq=>h q (Ql6 p q hq)
end Orr
namespace Orr
open Go Go.Proofs
set_option maxRecDepth 10000
def frow (p:List Rat):List (List LV):=p.map fr
abbrev rp (p:List Rat):LV:=.row (frow p)
end Orr
namespace Orr
def Pw (p:List Int):Int:=p.getD (p.length-1) 0
def Zmg (a b:List Int):Int:=if Pw b<0 then -(Pw a) else Pw a
def Zhw (a b:List Int) (i:Nat):Int:=a.getD i 0*((Pw b).natAbs:Int)-(if a.length-b.length<=i then Zmg a b*b.getD (i-(a.length-b.length)) 0 else 0)
def Zez (a b:List Int):List Int:=Qcp a.length (Zhw a b)
inductive RRun (b:List Int):Nat->List Int->List Int->Prop
 | stop {a:List Int}:a.length<b.length->RRun b 0 a a
 | step {k:Nat} {a r:List Int}:b.length<=a.length->a.length<=1000->Bd 9000000 a->Bd 9000000 b->RRun b k (Zez a b) r->RRun b (k+1) a r
def Zea (p:List Int):Nat->Nat
 | 0=>0
 | i+1=>Int.gcd (Zea p i:Nat) (p.getD i 0)
def Q0m (p:List Int):Nat:=Zea p p.length
def Zjs (p:List Int):Int:=if Pw p<0 then -((Q0m p:Nat):Int) else ((Q0m p:Nat):Int)
def A7 (p:List Int):List Int:=Qcp p.length λi=>p.getD i 0 / Zjs p
def Qu9 (p:List Int):List Int:=if Pw p<0 then B9 (A7 p) else A7 p
inductive GRun:Nat->List Int->List Int->List Int->Prop
 | stop (a:List Int):GRun 0 a [] a
 | step {k m:Nat} {a b r g:List Int}:0<b.length->b.length<=1000->Bd 9000000 b->RRun b m a r->r.length<=1000->Bd 9000000 r->Ua r->GRun k b (A7 r) g->GRun (k+1) a b g
theorem GRun.inv {k:Nat} {a b g:List Int} (h:GRun k a b g):(k=0/\b.length=0/\a=g)\/∃ j m r,k=j+1/\0<b.length/\b.length<=1000/\Bd 9000000 b/\RRun b m a r/\r.length<=1000/\Bd 9000000 r/\Ua r/\GRun j b (A7 r) g:=by
 cases h with
 | stop=>exact .inl ⟨rfl,rfl,rfl⟩
 | step h1 h2 h3 h4 h5 h6 h7 h8=>exact .inr ⟨_,_,_,rfl,h1,h2,h3,h4,h5,h6,h7,h8⟩
def Q7v (k:Nat) (p:List Int):List Int:=List.replicate k 0++p
inductive DRun (b:List Int):Nat->List Int->List Int->List Int->List Int->Prop
 | stop {a q:List Int}:a.length<b.length->DRun b 0 a q q a
 | step {k:Nat} {a q qf r:List Int}:b.length<=a.length->a.length<=1000->Bd 9000000 a->Pw b≠0->Pw b∣Pw a->a.length-b.length<q.length ->
  DRun b k (M3 a (Q7v (a.length-b.length) (Uv b (Pw a / Pw b)))) (q.set (a.length-b.length) (Pw a / Pw b)) qf r->DRun b (k+1) a q qf r
theorem DRun.inv {b a q qf r:List Int} {k:Nat} (h:DRun b k a q qf r):(k=0/\q=qf/\a=r/\a.length<b.length)\/∃ j,k=j+1/\b.length<=a.length/\a.length<=1000/\Bd 9000000 a/\Pw b≠0/\Pw b∣Pw a/\a.length-b.length<q.length /\
 DRun b j (M3 a (Q7v (a.length-b.length) (Uv b (Pw a / Pw b)))) (q.set (a.length-b.length) (Pw a / Pw b)) qf r:=by
 cases h with
 | stop h=>exact .inl ⟨rfl,rfl,rfl,h⟩
 | step h1 h2 h3 h4 h5 h6 h7=>exact .inr ⟨_,rfl,h1,h2,h3,h4,h5,h6,h7⟩
def M5 (l:List (List Int)):List Int:=l.getD (l.length-1) []
inductive LRun:Nat->List (List Int)->List (List Int)->Prop
 | stop {l:List (List Int)}:(M5 l).length<=1->LRun 0 l l
 | step {k m:Nat} {l f:List (List Int)} {g:List Int}:1<(M5 l).length->(M5 l).length<=1000->Ua (M5 l)->Bd 9000000 (M5 l)->Bd 9000000 (Fj (M5 l))->GRun m (A7 (M5 l)) (A7 (Fj (M5 l))) g->l.length<=1000->LRun k (l++[g]) f->LRun (k+1) l f
theorem LRun.inv {k:Nat} {l f:List (List Int)} (h:LRun k l f):(k=0/\l=f/\(M5 l).length<=1)\/∃ j m g,k=j+1/\1<(M5 l).length/\(M5 l).length<=1000/\Ua (M5 l)/\Bd 9000000 (M5 l)/\Bd 9000000 (Fj (M5 l))/\GRun m (A7 (M5 l)) (A7 (Fj (M5 l))) g/\l.length<=1000/\LRun j (l++[g]) f:=by
 cases h with
 | stop h=>exact .inl ⟨rfl,rfl,h⟩
 | step h1 h2 h3 h4 h5 h6 h7 h8=>exact .inr ⟨_,_,_,rfl,h1,h2,h3,h4,h5,h6,h7,h8⟩
def DOk (a b q:List Int):Prop:=0<b.length/\b.length<=1000/\a.length<=1000/\Bd 9000000 b/\∃ qf r n,Bd 9000000 qf/\qf.length<=1000/\DRun b n a (List.replicate (a.length+1-b.length) 0) qf r/\q=trim qf
theorem DOk.bd {a b q:List Int} (h:DOk a b q):Bd 9000000 q:=by
 obtain ⟨_,_,_,_,qf,r,n,h1,_,_,rfl⟩:=h;exact Ra h1
theorem DOk.len {a b q:List Int} (h:DOk a b q):q.length<=1000:=by
 obtain ⟨_,_,_,_,qf,r,n,_,h1,_,rfl⟩:=h;exact Qd (G0 _) h1
theorem DOk.trim {a b q:List Int} (h:DOk a b q):Ua q:=by
 obtain ⟨_,_,_,_,qf,r,n,_,_,_,rfl⟩:=h;exact Hj _
def Zix (a b c f:List Int):Prop:=∃ x y z,DOk a b x/\DOk b c y/\DOk (A7 x) (A7 y) z/\f=A7 z
structure FRun (a:List Int) (m:Nat) (f:Nat->List Int):Prop where
 run:∃ n l,LRun n [A7 a] l/\l.length=m+1/\∀ k,k<m->Zix ((l++[[1]]).getD k []) ((l++[[1]]).getD (k+1) []) ((l++[[1]]).getD (k+2) []) (f k)
 small:m<=1000
def Qy4 (f:Nat->List Int):Nat->List Int
 | 0=>[1]
 | i+1=>U5 (Qy4 f i) (f i)
def Zlr (m:Nat) (f:Nat->List Int):Prop:=∀ i,i<m->Bd 9000000 (Qy4 f i)/\(Qy4 f i).length<=1000/\Bd 9000000 (f i)/\(f i).length<=1000
inductive CRun:Nat->List (List Int)->List Int->List (List Int)->Prop
 | stop {l:List (List Int)} {g:List Int}:g.length=0->CRun 0 l g l
 | step {k m:Nat} {l f:List (List Int)} {g r:List Int}:0<g.length->g.length<=1000->Bd 9000000 g->RRun g m (M5 l) r->Ua r->Bd 9000000 r->r.length<=1000->0<l.length->l.length<=1000->CRun k (l++[g]) (B9 (Qu9 r)) f->CRun (k+1) l g f
theorem CRun.inv {k:Nat} {l f:List (List Int)} {g:List Int} (h:CRun k l g f):(k=0/\l=f/\g.length=0)\/∃ j m r,k=j+1/\0<g.length/\g.length<=1000/\Bd 9000000 g/\RRun g m (M5 l) r/\Ua r/\Bd 9000000 r/\r.length<=1000/\0<l.length/\l.length<=1000/\CRun j (l++[g]) (B9 (Qu9 r)) f:=by
 cases h with
 | stop h=>exact .inl ⟨rfl,rfl,h⟩
 | step h1 h2 h3 h4 h5 h6 h7 h8 h9 h10=>exact .inr ⟨_,_,_,rfl,h1,h2,h3,h4,h5,h6,h7,h8,h9,h10⟩
structure ChRun (a:List Int) (sq:List Int) (c:List (List Int)):Prop where
 fac:∃ m f,FRun a m f/\Zlr m f/\sq=Qy4 f m
 Df:∃ n,CRun n [sq] (Qu9 (Fj sq)) c
 bd:Bd 8000000 sq
 len:sq.length<=1000
 small:c.length<=1000
end Orr
namespace Orr
open Go Go.Proofs
set_option maxRecDepth 10000
theorem RRun.inv {b a r:List Int} {k:Nat} (h:RRun b k a r):(k=0/\a=r/\a.length<b.length)\/(∃ j,k=j+1/\b.length<=a.length/\a.length<=1000/\Bd 9000000 a/\Bd 9000000 b/\RRun b j (Zez a b) r):=by
 cases h with
 | stop h=>exact .inl ⟨rfl,rfl,h⟩
 | step h1 h2 h3 h4 h5=>exact .inr ⟨_,rfl,h1,h2,h3,h4,h5⟩
end Orr
namespace Orr
theorem bd1 {s:Nat} {x:Int} (h:Ug x<=s):Bd s [x]:=λz hz=>by simp at hz; subst hz; exact h
section
variable {x d:Int} (hd:0<d) (hg:Int.gcd x d=1) (hx:Ug x<=2000000) (hs:Ug d<=2000000)
theorem b1 {s:Nat} (h:1<=s):Bd s [1]:=bd1 (Qd (show Ug 1<=1 by decide) h)
include hd in
include hd in
include hd in
include hd hx hs in
include hd hx hs in
include hd hx hs in
theorem div_one:DOk [1] [1] [1]:=by
 refine ⟨by decide,by decide,by decide,b1 (by decide),[1],[],1,b1 (by decide),by decide,?_,by decide⟩;refine .step (by decide) (by decide) (b1 (by decide)) (by decide) (by decide) (by decide) ?_;exact .stop (by decide)
include hd hg hx hs in
include hd hg hx hs in
end
end Orr
namespace Orr
open Go Go.Proofs
set_option maxRecDepth 10000
def zls (l:List (List Int)):List (List LV):=l.map λp=>[rp (zp p)]
abbrev aq (q:Rat) (c:List (List Int)):List LV:=[rp (zp [-q.num,(q.den:Int)]),.row (zls c)]++fr q++fr q
end Orr
namespace Orr
end Orr
namespace Orr
open Go Go.Proofs
set_option maxRecDepth 10000
structure Rs (k:Crv):Prop where
 n:Nml k
 c:Cs 100000 16 k
theorem Rs.d0 {k:Crv} (h:Rs k):0<k.d:=h.n.2.2.1
theorem Rs.dn {k:Crv} (h:Rs k):k.d≠0:=by have:=h.d0; omega



def RawPt.cut (z:RawPt):RawPt:=⟨(z.x.take 3).map RawInt.cut,(z.y.take 3).map RawInt.cut,z.d.cut,z.id⟩
theorem pz {P:Program} [Mo P] {n:Nat} {Q:Exit->Sg->List OB->Prop} {L L':Sg} {B B':List OB} (i:Nat) {it:List It} (hs:Gz it=true) (h:Q1h [i] L B=some (L',B')) (k:AK P n Q it L' B'):AK P n Q it L B:=AK.sub (Qdh h) hs k

end Orr
namespace Orr
open Go Go.Proofs Orq
set_option maxRecDepth 10000
end Orr
namespace Orr
open Go Go.Proofs
set_option maxRecDepth 10000
abbrev run1:Crv:=⟨[0,1],[],1⟩
theorem Qi3:Nml run1:=⟨rfl,rfl,by decide,by decide⟩
theorem cs_run1:Cs 3 3 run1:=by
 refine ⟨λz hz=>?_,λz hz=>(by cases hz),by decide,by decide,by decide⟩;rcases Ql.1 hz with rfl | hz
 ·decide
 ·rw [Qk.1 hz]; decide
theorem Cs.up {s n s' n':Nat} {k:Crv} (h:Cs s n k) (hs:s<=s') (hn:n<=n'):Cs s' n' k:=⟨Wx h.x hs,Wx h.y hs,Qd h.d hs,Qd h.lx hn,Qd h.ly hn⟩
end Orr
namespace Orr
open Go Go.Proofs Orq
set_option maxRecDepth 10000
abbrev wkP:List Pt:=[⟨run1,1⟩,⟨E7 1 0,2⟩]
theorem Zim:(Hy (tq 0) wkP).map (·.id)=[1,2]:=by decide +kernel
theorem Zcw:Sc run1:=⟨Qi3,cs_run1.up (by decide) (by decide)⟩
theorem Zkw:∀ p∈wkP,Sc p.c:=λp hp=>by
 rcases Ql.1 hp with rfl | hp
 ·exact Zcw
 ·rw [Qk.1 hp]; exact Qsf (by decide) (by decide)


theorem Q3d {c:Cr} {l l':List Pt} {r1:List (List LV)×List (List LV)} {ws:List Wt} (hc:CrOk c) (hl:∀ p∈l',Sc p.c) (hn:l'.length≤1000) (h:Tl c.l c.now (Ui (bcT l' c.now))=some ws) :
 W6 Tryz.prog 366 [.one (.ow 0 0),.agg [pts l'],.one (.int .i64 0)] [.blk 162 (Ht c (Ww l) r1)] [.one (.int .i64 0)] [.blk 162 (Ht ⟨c.now,ws,c.ev⟩ (Ww l') (brT l' c.now))]:=by
 have hB:=Qtk hl hn;have cn:=Qtv (T:=162) (c:=c) (r0:=Ww l') (r1:=r1) hc.n;have cb:=Qkn (c:=c) (r1:=r1) hl hn hc.n;have cg:=Q0b (T:=162) (r0:=Ww l') (r1:=brT l' c.now) hc hc.n (L8 hc.n) (Jw 0) (hB.p _ hc.n) (hB.n _ hc.n) h;refine U4 Tryz.func366 rfl ?_;exact ed tt [] [0] [.f rfl,.c [0] cn,.c [0] cb,.c [0] cg] rfl trivial
theorem Zaf {lx ly:List (List LV)} {px py:List Int} {x y:LV} {d id:Int} {c:Cr} {l:List Pt} {r1:List (List LV)×List (List LV)} {ws:List Wt} (hx:IsInts lx px) (hy:IsInts ly py) (hd:Fc x y d) (hk:Cs 4294967294 1073741824 (Crv.mk px py d)) (hll:l.length<=900)
 (he:Qbw l ⟨Crv.norm (Crv.mk px py d),id⟩=0) (hc:CrOk c) (hl:∀ p∈put l ⟨Crv.norm (Crv.mk px py d),id⟩,Sc p.c) (hn:(put l ⟨Crv.norm (Crv.mk px py d),id⟩).length≤1000) (h:Tl c.l c.now (Ui (bcT (put l ⟨Crv.norm (Crv.mk px py d),id⟩) c.now))=some ws) :
 W6 Tryz.prog 364 [.one (.ow 0 0),.agg [.row lx,.row ly,x,y,.int .i64 id]] [.blk 162 (Ht c (Ww l) r1)] [.one (.int .i64 0)] [.blk 162 (Ht ⟨c.now,ws,c.ev⟩ (Ww (put l ⟨Crv.norm (Crv.mk px py d),id⟩)) (brT (put l ⟨Crv.norm (Crv.mk px py d),id⟩) c.now))]:=by
 have cp:=Qpo (l:=l) (id:=id) hx hy hd hk (by omega);rw [if_pos he,he] at cp;have cw:=Q3d (l:=l) (r1:=r1) hc hl hn h;refine U4 Tryz.func364 rfl ?_;obtain ⟨b,l',rfl,rfl,_⟩:=hd;exact ed tt [] [0] [.c [] cp,.c [0] cw] rfl trivial
end Orr
namespace Orq
open Orr Go
def p3j (W:List Pt) (x:Pt) (i j:Nat):List P3:=Bw i W++(Gi j (W.drop (i+1))).map (λm=>(x,m))
def p3k (W:List Pt) (x y:Pt) (i j k:Nat):List P3:=Bw i W++(Gi j (W.drop (i+1))++(((W.drop (i+1)).drop (j+1)).take k).map (λz=>(y,z))).map (λm=>(x,m))
theorem Qi6 (W:List Pt) (x:Pt) (i:Nat):p3j W x i 0=Bw i W:=by simp [p3j,Gi]
theorem Qi8 (W:List Pt) (x y:Pt) (i j:Nat):p3k W x y i j 0=p3j W x i j:=by simp [p3k,p3j]
theorem Qi7 {W:List Pt} {x y z:Pt} {i j k:Nat} (h:((W.drop (i+1)).drop (j+1))[k]? = some z):p3k W x y i j (k+1)=p3k W x y i j k++[(x,y,z)]:=by
 unfold p3k;rw [Z0,h]; simp
theorem Qn4 {W:List Pt} {x y:Pt} {i j k:Nat} (hy:(W.drop (i+1))[j]? = some y) (hk:((W.drop (i+1)).drop (j+1)).length<=k):p3k W x y i j k=p3j W x i (j+1):=by
 unfold p3k p3j;rw [Qr hk,Bp _ j y hy]
theorem Qn3 {W:List Pt} {x:Pt} {i j:Nat} (hx:W[i]? = some x) (hj:j=(W.drop (i+1)).length):p3j W x i j=Bw (i+1) W:=by
 unfold p3j;rw [hj,Qai W i x hx]; rfl
theorem Qzq {W:List Pt} {i:Nat} (h:i=W.length):Bw i W=Gw W:=by rw [h]; rfl
def p4j (W:List Pt) (x:Pt) (i j:Nat):List P4:=Cy i W++(Bw j (W.drop (i+1))).map (λm=>(x,m))
def p4k (W:List Pt) (x y:Pt) (i j k:Nat):List P4:=Cy i W++(p3j (W.drop (i+1)) y j k).map (λm=>(x,m))
def p4m (W:List Pt) (x y z:Pt) (i j k m:Nat):List P4:=Cy i W++(p3k (W.drop (i+1)) y z j k m).map (λm=>(x,m))
theorem Q6p (W:List Pt) (x:Pt) (i:Nat):p4j W x i 0=Cy i W:=by simp [p4j,Bw]
theorem Q6q (W:List Pt) (x y:Pt) (i j:Nat):p4k W x y i j 0=p4j W x i j:=by unfold p4k p4j; rw [Qi6]
theorem Q6s (W:List Pt) (x y z:Pt) (i j k:Nat):p4m W x y z i j k 0=p4k W x y i j k:=by unfold p4m p4k; rw [Qi8]
theorem Q6r {W:List Pt} {x y z u:Pt} {i j k m:Nat} (h:(((W.drop (i+1)).drop (j+1)).drop (k+1))[m]? = some u):p4m W x y z i j k (m+1)=p4m W x y z i j k m++[(x,y,z,u)]:=by
 unfold p4m;rw [Qi7 h]; simp
theorem Zca {W:List Pt} {x y z:Pt} {i j k m:Nat} (hz:((W.drop (i+1)).drop (j+1))[k]? = some z) (hm:(((W.drop (i+1)).drop (j+1)).drop (k+1)).length<=m):p4m W x y z i j k m=p4k W x y i j (k+1):=by
 unfold p4m p4k;rw [Qn4 hz hm]
theorem Zb9 {W:List Pt} {x y:Pt} {i j k:Nat} (hy:(W.drop (i+1))[j]? = some y) (hk:k=((W.drop (i+1)).drop (j+1)).length):p4k W x y i j k=p4j W x i (j+1):=by
 unfold p4k p4j;rw [Qn3 hy hk]
theorem Zb8 {W:List Pt} {x:Pt} {i j:Nat} (hx:W[i]? = some x) (hj:j=(W.drop (i+1)).length):p4j W x i j=Cy (i+1) W:=by
 unfold p4j;rw [hj,Qe5 W i x hx]; rfl
theorem Zcq {W:List Pt} {i:Nat} (h:i=W.length):Cy i W=E5 W:=by rw [h]; rfl
theorem Qbt:∀ (k:Nat) (l:List Pt),∃ r,Uy l=Gi k l++r
 | 0,l=>⟨Uy l,rfl⟩
 | k+1,[]=>⟨[],rfl⟩
 |
  k+1,x::l=>by
  obtain ⟨r,h⟩:=Qbt k l;exact ⟨r,by show l.map _++Gi l.length l=l.map _++Gi k l++r; rw [show Gi l.length l=Uy l from rfl,h,Q8]⟩
theorem Qjz:∀ (k:Nat) (l:List Pt),∃ r,Gw l=Bw k l++r
 | 0,l=>⟨Gw l,rfl⟩
 | k+1,[]=>⟨[],rfl⟩
 |
  k+1,x::l=>by
  obtain ⟨r,h⟩:=Qjz k l;exact ⟨r,by show (Uy l).map _++Bw l.length l=(Uy l).map _++Bw k l++r; rw [show Bw l.length l=Gw l from rfl,h,Q8]⟩
theorem Qr5:∀ (k:Nat) (l:List Pt),∃ r,E5 l=Cy k l++r
 | 0,l=>⟨E5 l,rfl⟩
 | k+1,[]=>⟨[],rfl⟩
 |
  k+1,x::l=>by
  obtain ⟨r,h⟩:=Qr5 k l;exact ⟨r,by show (Gw l).map _++Cy l.length l=(Gw l).map _++Cy k l++r; rw [show Cy l.length l=E5 l from rfl,h,Q8]⟩
theorem Qyu {W:List Pt} (h6:W.length<=6) {x y:Pt} {i j k:Nat} (hx:W[i]? = some x) (hy:(W.drop (i+1))[j]? = some y):(p3k W x y i j k).length<=20:=by
 have h0:=(Qad h6).1;obtain ⟨r,hr⟩:=Qjz (i+1) W;rw [Qai W i x hx] at hr;obtain ⟨r2,hr2⟩:=Qbt (j+1) (W.drop (i+1));rw [Bp _ j y hy] at hr2;have e1:=congrArg List.length hr;have e2:=congrArg List.length hr2;have e3:(((W.drop (i+1)).drop (j+1)).take k).length<=((W.drop (i+1)).drop (j+1)).length:=by rw [Qu]; exact Nat.min_le_right _ _
 unfold p3k;simp only [Qw,Zm] at e1 e2 ⊢;omega
theorem Zcb {W:List Pt} (h6:W.length<=6) {x y z:Pt} {i j k m:Nat} (hx:W[i]? = some x) (hy:(W.drop (i+1))[j]? = some y) (hz:((W.drop (i+1)).drop (j+1))[k]? = some z):(p4m W x y z i j k m).length<=15:=by
 have h0:=(Qad h6).2;obtain ⟨r,hr⟩:=Qr5 (i+1) W;rw [Qe5 W i x hx] at hr;obtain ⟨r1,hr1⟩:=Qjz (j+1) (W.drop (i+1));rw [Qai _ j y hy] at hr1;obtain ⟨r2,hr2⟩:=Qbt (k+1) ((W.drop (i+1)).drop (j+1));rw [Bp _ k z hz] at hr2;have e1:=congrArg List.length hr;have e2:=congrArg List.length hr1;have e4:=congrArg List.length hr2;have e3:((((W.drop (i+1)).drop (j+1)).drop (k+1)).take m).length<=(((W.drop (i+1)).drop (j+1)).drop (k+1)).length:=by rw [Qu]; exact Nat.min_le_right _ _
 unfold p4m p3k;simp only [Qw,Zm] at e1 e2 e4 ⊢;omega
theorem Q0z {sg:List Int->Int} (hg:∀ p,-1<=Fq sg p/\Fq sg p<=1) (ps:List P3):Qo5 (D5 (Ic sg ps)):=by
 have key:∀ (ps:List P3) (M:Pe),Qo5 M->Qo5 ((Ic sg ps).foldl (λM e=>Cc M e.1 (.int .i64 e.2)) M):=by
  intro ps
  induction ps with
  | nil=>intro M h; exact h
  | cons m ps ih=>intro M h; exact ih _ (Q5r h (hg _))
 exact key ps [] Q5q
theorem Qtq (sg:List Int->Int) (T:Pe) (ps:List P4):Qat (Ef T (Qar sg ps)):=by
 have key:∀ (ps:List P4) (F:Pe),Qat F->Qat ((Qar sg ps).foldl (λF e=>Qk2 T e.2 e.1 F) F):=by
  intro ps
  induction ps with
  | nil=>intro M h; exact h
  | cons m ps ih=>intro M h; exact ih _ (Qtp h)
 exact key ps [] Qz1
theorem Ql0 (p:List Int) (q:Rat):-1<=Gk p q/\Gk p q<=1:=by
 rw [Sy]; unfold W7
 split
 ·exact ⟨by decide,by decide⟩
 ·split <;> exact ⟨by decide,by decide⟩
theorem Q7y {p:List Int} {a:Tm} {s:Int} (h:Qdn p a=some s):-1<=s/\s<=1:=by
 unfold Qdn at h
 split at h
 ·injection h with h; subst h; exact ⟨by decide,by decide⟩
 ·split at h
  ·injection h with h; subst h; exact Ql0 _ _
  ·obtain ⟨g,_,h⟩:=Qc.1 h
   split at h
   ·injection h with h; subst h; exact ⟨by decide,by decide⟩
   ·obtain ⟨c,_,h⟩:=Qc.1 h;obtain ⟨x,_,h⟩:=Qc.1 h;injection h with h; subst h; exact Ql0 _ _
theorem Q5f (a:Tm) (p:List Int):-1<=Fq (Uj a) p/\Fq (Uj a) p<=1:=by
 have hs:∀ p,-1<=Uj a p/\Uj a p<=1:=λp=>by
  unfold Uj;cases h:Qdn p a with
  | none=>exact ⟨by decide,by decide⟩
  | some s=>exact Q7y h
 have key:∀ (k:Nat) (p:List Int),-1<=Hl (Uj a) k p/\Hl (Uj a) k p<=1:=by
  intro k
  induction k with
  | zero=>intro p; exact ⟨by simp [Hl],by simp [Hl]⟩
  |
   succ k ih =>
   intro p;simp only [Hl]
   split
   ·exact ⟨by decide,by decide⟩
   ·split
    ·exact ih _
    ·exact hs p
 exact key _ p
end Orq
namespace Orr
open Go Go.Proofs Orq
set_option maxRecDepth 10000
theorem Qwp {a b c:Pt} {t:Tm} (ha:Sc a.c) (hb:Sc b.c) (hc:Sc c.c) (ht:Va t):W0 Tryz.prog 111 [.one (.int .i64 3),.agg (ta t),.one (.row [W8 a,W8 b,W8 c])] [.agg (Nj (Bj (Uj t) a b c)),.one (.int .i64 0)]:=by
 have hp:=(O0 ha hb hc).dp;have e:Nj (Bj (Uj t) a b c)=[.int .i64 3,.int .i64 a.id,.int .i64 b.id,.int .i64 c.id,.int .i64 0,pl (Fl a.c b.c c.c),.int .i64 (Fq (Uj t) (Fl a.c b.c c.c))]:=by rw [Bj]
 rw [e];have cg:=Qfo hp ht;have cf:=Qpm ha hb hc;generalize Fl a.c b.c c.c=F at *;refine U4 Tryz.func111 rfl ?_;refine go tt [.c [] Q0g,.f rfl] rfl trivial ?_;refine lp (S:=Nat) 3 (λL1 i=>(22,.v (.one (.int .i64 (i:Int))))::L1) (λi=>[.blk 40 (ta t),.blk 144 zCt,.blk 144 [.int .i64 3,.int .i64 (if 1<=i then a.id else 0),.int .i64 (if 2<=i then b.id else 0),.int .i64 (if 3<=i then c.id else 0),.int .i64 0,.nils,.int .i64 0]]) (λi=>3-i) (λi=>i<=3) 0 (Qi _) rfl (λ_ _=>rfl) rfl λi hi=>?_
 rcases (show i=0\/i=1\/i=2\/i=3 by omega) with rfl | rfl | rfl | rfl
 ·refine go tt [.t rfl,.x (i:=0) (xs:=W8 a) rfl,.i 0] rfl (by simp [Wv]) ?_;exact rd 1 (by omega) (by omega) rfl
 ·refine go tt [.t rfl,.x (i:=1) (xs:=W8 b) rfl,.i 1] rfl (by simp [Wv]) ?_;exact rd 2 (by omega) (by omega) rfl
 ·refine go tt [.t rfl,.x (i:=2) (xs:=W8 c) rfl,.i 2] rfl (by simp [Wv]) ?_;exact rd 3 (by omega) (by omega) rfl
 ·exact en tt [.f rfl,.f rfl,.f rfl,.t rfl,.x (i:=0) (xs:=W8 a) rfl,.x (i:=1) (xs:=W8 b) rfl,.x (i:=2) (xs:=W8 c) rfl,.c [] cf,.c [] cg] rfl rfl trivial
theorem Lc {α:Type} (s:α->α->α->Bool):∀ (l acc:List α) (c:α),Rx s acc (l++[c])=c::Bt s c (Rx s acc l)
 | [],_,_=>rfl
 | _::l,_,c=>Lc s l _ c
theorem Qww {R:List Pt} {t:Tm} (hR:∀ p∈R,Sc p.c) (hn:R.length≤1000000) (ht:Va t):W0 Tryz.prog 177 [.agg (ta t),.one (pts R)] [.one (pts (Rm (Uj t) R))]:=by
 have hcl:=U8 R;show W0 Tryz.prog 177 [.agg (ta t),.one (.row (Ww R))] [.one (.row (Ww (Rx (Qc1 (Uj t)) [] R).reverse))];obtain ⟨s,hs⟩:=nmE (Qc1 (Uj t));have hs':∀ a b c,s a b c=decide (0<Fq (Uj t) (Fl a.c b.c c.c)):=λa b c=>by rw [hs]; rfl
 rw [<-hs];refine U4 Tryz.func177 rfl ?_;refine go tt [.o 5 62 5] rfl trivial ?_;refine lp (S:=Nat) 2 (λL1 i=>(10,.v (.one (.int .i64 (i:Int))))::(5,.v (.one (.orow 1 5 none)))::L1) (λi=>[.blk 40 (ta t),.row false 62 5 (Ww (Rx s [] (R.take i)).reverse)]) (λi=>R.length-i) (λi=>i<=R.length) 0 (Qi _) rfl (λ_ _=>rfl) rfl λi hi=>?_
 by_cases hlt:i<R.length
 ·obtain ⟨c,hc⟩:=gxE (l:=R) (i:=i) hlt;have hcp:=hR c (Qa hc);have hst:Rx s [] (R.take (i+1))=c::Bt s c (Rx s [] (R.take i)):=by rw [Z0,hc]; exact Lc s _ _ c
  obtain ⟨O,hO⟩:=nmE (Rx s [] (R.take i));have hOl:O.length<=1000000:=by
   have:=Qbc s (R.take i) [];rw [<-hO,Qu] at this; simp at this; omega
  have hOm:∀ x∈O,Sc x.c:=λx hx=>by
   rw [hO] at hx;rcases Qbd hx with h | h
   ·cases h
   ·exact hR x (Qn h)
  rw [<-hO] at hst ⊢;have hrl:(Ww O.reverse).length=O.length:=by rw [U8,Xk]
  have hm:∀ y∈[W8 c],y.length=5:=λy hy=>by rw [Qk.1 hy]; rfl
  have hget:∀ {pre r:List Pt} {x:Pt},O=pre++x::r->∀ j,j=r.length->(Ww O.reverse)[j]? = some (W8 x):=λ{pre r x} e j hj=>by
   refine H8 ?_;rw [e,hj]; simp
  have hfin:∀ {pre st:List Pt},O=pre++st->Ww (c::st).reverse=(Ww O.reverse).take st.length++[W8 c]:=λ{pre st} e=>by
   rw [e]; simp [Ww,J8,List.take_append]
  have hfull:Ww (c::O).reverse=Ww O.reverse++[W8 c]:=by simp [Ww]
  refine go tt [.t (by simp [hcl]; omega),.x (H8 hc)] rfl trivial ?_;refine lp (S:=Bool×List Pt) 3 (λL1 s=>(5,.v (.one (.orow 1 5 (cond s.1 (some (0,s.2.length)) none))))::L1) (λ_=>[.blk 40 (ta t),.row false 62 5 (Ww O.reverse),.blk 62 (W8 c)]) (λs=>s.2.length) (λst=>(∃ pre,O=pre++st.2/\(st.1=false->pre=[]))/\Bt s c st.2=Bt s c O) (false,O) ⟨⟨[],rfl,λ_=>rfl⟩,rfl⟩ rfl (λ_ _=>rfl) rfl λ⟨b,st⟩ ⟨⟨pre,h1,h2⟩,h3⟩=>?_
  have h1:O=pre++st:=h1;have h3:Bt s c st=Bt s c O:=h3;have hl1:O.length=pre.length+st.length:=by rw [h1,Qw]
  have fin:∀ {st:List Pt},O=pre++st->Bt s c st=Bt s c O->Bt s c st=st->Ww (Rx s [] (R.take (i+1))).reverse=(Ww O.reverse).take st.length++[W8 c]/\(pre=[]->Ww (Rx s [] (R.take (i+1))).reverse=Ww O.reverse++[W8 c]):=λ{st} e1 e2 e3=>by
   rw [hst,<-e2,e3];refine ⟨hfin e1,λhp=>?_⟩;rw [hp] at e1;rw [<-hfull,e1]; rfl
  rcases st with _ | ⟨z,_ | ⟨y,r⟩⟩
  ·obtain ⟨f1,f2⟩:=fin h1 h3 rfl;cases b with
   |
    false =>
    have hp:=h2 rfl;have f2:=f2 hp;rw [hp] at hl1;have hl2:(Ww O.reverse).length<=1:=by rw [hrl,hl1]; simp
    refine go tt [.g 17 false (decide_eq_false (by omega)),.f rfl,.s (sz:=5) hm] rfl (by simp [Wv]; omega) ?_;exact rd (i+1) (by omega) hlt (by rw [f2]; rfl)
   |
    true =>
    refine go tt [.g 17 false (decide_eq_false (by simp)),.f rfl,.s (sz:=5) hm] rfl (by simp [Wv]; omega) ?_;exact rd (i+1) (by omega) hlt (by rw [f1]; rfl)
  ·obtain ⟨f1,f2⟩:=fin h1 h3 rfl;cases b with
   |
    false =>
    have hp:=h2 rfl;have f2:=f2 hp;rw [hp] at hl1;have hl2:(Ww O.reverse).length<=1:=by rw [hrl,hl1]; simp
    refine go tt [.g 17 false (decide_eq_false (by omega)),.f rfl,.s (sz:=5) hm] rfl (by simp [Wv]; omega) ?_;exact rd (i+1) (by omega) hlt (by rw [f2]; rfl)
   |
    true =>
    refine go tt [.g 17 false (decide_eq_false (by simp)),.f rfl,.s (sz:=5) hm] rfl (by simp [Wv]; omega) ?_;exact rd (i+1) (by omega) hlt (by rw [f1]; rfl)
  ·have sz:=hOm z (by rw [h1]; simp);have sy:=hOm y (by rw [h1]; simp);have co:=Qpm sy sz hcp;have cg:=Qfo (O0 sy sz hcp).dp ht;have gz:=hget h1 (r.length+1) rfl;have gy:=hget (pre:=pre++[z]) (r:=r) (x:=y) (by rw [h1]; simp) r.length rfl;have hl1:O.length=pre.length+(r.length+2):=hl1;have hls:=hs' y z c;by_cases hq:s y z c=true
   ·have hg:¬Fq (Uj t) (Fl y.c z.c c.c)<=0:=by rw [hls] at hq; have:=of_decide_eq_true hq; omega
    obtain ⟨f1,f2⟩:=fin h1 h3 (by simp only [Bt]; rw [if_pos hq]);cases b with
    |
     false =>
     have hp:=h2 rfl;have f2:=f2 hp;rw [hp] at hl1;have hl2:(Ww O.reverse).length=r.length+2:=by rw [hrl,hl1]; simp
     refine go tt [.g 17 true (decide_eq_true (by omega)),.r 21 (eI (b:=(r.length:Int)) (by omega)),.i r.length,.x gy,.r 28 (eI (b:=((r.length+1:Nat):Int)) (by omega)),.i (r.length+1),.x gz,.c [] co,.c [] cg,.f (decide_eq_false hg),.s (sz:=5) hm] rfl (by simp [Wv]; omega) ?_;exact rd (i+1) (by omega) hlt (by rw [f2]; rfl)
    |
     true =>
     refine go tt [.g 17 true (decide_eq_true (by simp; omega)),.r 21 (eI (b:=(r.length:Int)) (by simp; omega)),.i r.length,.x (l:=Ww O.reverse) (i:=0+r.length) (xs:=W8 y) (by rw [Zu]; exact gy),.r 28 (eI (b:=((r.length+1:Nat):Int)) (by simp)),.i (r.length+1),.x (l:=Ww O.reverse) (i:=0+(r.length+1)) (xs:=W8 z) (by rw [Zu]; exact gz),.c [] co,.c [] cg,.f (decide_eq_false hg),.s (sz:=5) hm] rfl (by simp [Wv]; omega) ?_;exact rd (i+1) (by omega) hlt (by rw [f1]; rfl)
   ·have hg:Fq (Uj t) (Fl y.c z.c c.c)<=0:=by
     rw [hls] at hq; have:=of_decide_eq_false (K9.2 hq); omega
    have hpop:Bt s c (y::r)=Bt s c O:=by rw [<-h3]; simp only [Bt]; rw [if_neg hq]
    have hin:(∃ pre',O=pre'++(y::r)/\((true:Bool)=false->pre'=[]))/\Bt s c (y::r)=Bt s c O:=⟨⟨pre++[z],by rw [h1]; simp,λh=>by cases h⟩,hpop⟩;cases b with
    |
     false =>
     have hp:=h2 rfl;rw [hp] at hl1;have hl2:(Ww O.reverse).length=r.length+2:=by rw [hrl,hl1]; simp
     refine go tt [.g 17 true (decide_eq_true (by omega)),.r 21 (eI (b:=(r.length:Int)) (by omega)),.i r.length,.x gy,.r 28 (eI (b:=((r.length+1:Nat):Int)) (by omega)),.i (r.length+1),.x gz,.c [] co,.c [] cg,.t (decide_eq_true hg),.r 42 (eI (b:=((r.length+1:Nat):Int)) (by omega)),.i (r.length+1)] rfl (by simp [Wv]; omega) ?_;exact rd (true,y::r) (by simp) hin rfl
    |
     true =>
     refine go tt [.g 17 true (decide_eq_true (by simp; omega)),.r 21 (eI (b:=(r.length:Int)) (by simp; omega)),.i r.length,.x (l:=Ww O.reverse) (i:=0+r.length) (xs:=W8 y) (by rw [Zu]; exact gy),.r 28 (eI (b:=((r.length+1:Nat):Int)) (by simp)),.i (r.length+1),.x (l:=Ww O.reverse) (i:=0+(r.length+1)) (xs:=W8 z) (by rw [Zu]; exact gz),.c [] co,.c [] cg,.t (decide_eq_true hg),.r 42 (eI (b:=((r.length+1:Nat):Int)) (by simp)),.i (r.length+1)] rfl (by simp [Wv]; omega) ?_;exact rd (true,y::r) (by simp) hin rfl
 ·obtain rfl:i=R.length:=by omega
  rw [Q4];exact en tt [.f (by simp [hcl])] rfl rfl trivial
theorem Qt3 {sg:List Int->Int} {R:List Pt} (h:R≠[]):0<(Rm sg R).length:=by
 unfold Rm;rw [Xk];obtain ⟨x,hx⟩:∃ x,R.getLast? = some x:=⟨_,Ya h⟩;obtain ⟨l,hl⟩:=Yu.1 hx;rw [hl,Lc]; simp
theorem Qrs {α:Type} (s:α->α->α->Bool) (c:α):∀ {st:List α},st≠[]->0<(Bt s c st).length
 | [],h=>absurd rfl h
 | [_],_=>by simp [Bt]
 |
  b::a::r,_=>by
  simp only [Bt]
  split
  ·simp
  ·exact Qrs s c (by simp)
theorem Qhz {sg:List Int->Int} {R:List Pt} (h:2<=R.length):2<=(Rm sg R).length:=by
 unfold Rm;rw [Xk];obtain ⟨x,hx⟩:∃ x,R.getLast? = some x:=⟨_,Ya (by intro e; rw [e] at h; simp at h)⟩;obtain ⟨l,hl⟩:=Yu.1 hx;have hl0:l≠[]:=by intro e; rw [hl,e] at h; simp at h
 have:=Qt3 (sg:=sg) hl0;unfold Rm at this;rw [Xk] at this;have:=Qrs (Qc1 sg) x (st:=Rx (Qc1 sg) [] l) (by intro e; rw [e] at this; simp at this);rw [hl,Lc,Q6]; omega
theorem Qw0 {R:List Pt} {t:Tm} (hR:∀ p∈R,Sc p.c) (hn:R.length≤1000000) (ht:Va t):W0 Tryz.prog 112 [.agg (ta t),.one (pts R)] [.one (pts (Cd (Uj t) R))]:=by
 have hcl:=U8 R;have hrl:=U8 R.reverse;rw [Xk] at hrl;show W0 Tryz.prog 112 [.agg (ta t),.one (.row (Ww R))] [.one (.row (Ww (Cd (Uj t) R)))];refine U4 Tryz.func112 rfl ?_;by_cases h3:R.length<3
 ·have e:Cd (Uj t) R=R:=if_pos h3;rw [e];exact en tt [.t (decide_eq_true (by omega))] rfl rfl trivial
 have c1:=Qww hR hn ht;have c2:=Qww (R:=R.reverse) (λp hp=>hR p (Jd.1 hp)) (by rw [Xk]; exact hn) ht;have p1:=Qhz (sg:=Uj t) (R:=R) (by omega);have p2:=Qhz (sg:=Uj t) (R:=R.reverse) (by rw [Xk]; omega);have k1:=Ai (Uj t) R;have k2:=Ai (Uj t) R.reverse;rw [Xk] at k2;refine go tt [.f (decide_eq_false (by omega)),.o 5 62 5,.r 15 (eI (b:=(R.length:Int)-1-((0:Nat):Int)) (by omega))] rfl (by simp [Wv,hcl]; omega) ?_;refine lp (S:=Nat) 2 (λL1 j=>(6,.v (.one (.int .i64 ((R.length:Int)-1-(j:Int)))))::(5,.v (.one (.orow 1 5 none)))::L1) (λj=>[.blk 40 (ta t),.row false 62 5 (Ww (R.reverse.take j))]) (λj=>R.length-j) (λj=>j<=R.length) 0 (Qi _) rfl (λ_ _=>rfl) rfl λj hj=>?_
 by_cases hlt:j<R.length
 ·obtain ⟨x,hx⟩:=gxE (l:=R) (i:=R.length-1-j) (by omega);have hx':R.reverse[j]? = some x:=by rw [List.getElem?_reverse (by omega)]; exact hx
  have hm:∀ y∈[W8 x],y.length=5:=λy hy=>by rw [Qk.1 hy]; rfl
  have e:Ww (R.reverse.take (j+1))=Ww (R.reverse.take j)++[W8 x]:=by rw [Z0,hx']; simp [Ww]
  have htl:(Ww (R.reverse.take j)).length=j:=by rw [U8,Qu,Xk]; omega
  refine go tt [.t (decide_eq_true (by omega)),.r 22 (eI (b:=((R.length-1-j:Nat):Int)) (by omega)),.x (H8 hx),.s (sz:=5) hm,.r 19 (eI (b:=(R.length:Int)-1-((j+1:Nat):Int)) (by omega))] rfl (by simp [Wv,htl]; omega) ?_;exact rd (j+1) (by omega) hlt (by rw [e]; rfl)
 ·obtain rfl:j=R.length:=by omega
  rw [Qr (by rw [Xk]; exact Qm _)];obtain ⟨A,hA⟩:=nmE (Rm (Uj t) R);obtain ⟨C,hC⟩:=nmE (Rm (Uj t) R.reverse);have e:Cd (Uj t) R=A.dropLast++C.dropLast:=by rw [hA,hC]; exact if_neg h3
  rw [<-hA] at c1 p1 k1;rw [<-hC] at c2 p2 k2;rw [e];have hs:∀ y∈(C.map W8).take (C.length-1),y.length=5:=λy hy=>Qac C y (Qn hy)
  have hs2:∀ y∈(A.map W8).take (A.length-1),y.length=5:=λy hy=>Qac A y (Qn hy)
  refine en tt [.f (decide_eq_false (by omega)),.p 1,.c [] c1,.c [] c2,.r 36 (eI (b:=((A.length-1:Nat):Int)) (by simp; omega)),.r 39 (eI (b:=((A.length-1:Nat):Int)) (by simp; omega)),.i (A.length-1),.r 44 (eI (b:=((C.length-1:Nat):Int)) (by simp; omega)),.i (C.length-1),.s (sz:=5) hs] rfl (by simp [Ww,J8,List.dropLast_eq_take]) ?_;simp only [Wv,Qu,Zm]
  and_intros <;> first | exact hs2 | omega
theorem Qfn {l:List Pt} {t:Tm} (hl:∀ p∈l,Sc p.c) (hn:l.length≤1000000) (ht:Va t):W6 Tryz.prog 109 [.agg (ta t),.one (pts l)] [] [.one (.orow 0 7 none)] [.row false 144 7 (W3 (H9 (Uj t) l))]:=by
 have hcl:=U8 l;show W6 Tryz.prog 109 [.agg (ta t),.one (.row (Ww l))] [] [.one (.orow 0 7 none)] [.row false 144 7 (W3 (H9 (Uj t) l))];refine U4 Tryz.func109 rfl ?_;refine go tt [.o 5 144 7] rfl trivial ?_;refine lp (S:=Nat) 2 (λL1 i=>(6,.v (.one (.int .i64 ((i+1:Nat):Int))))::(5,.v (.one (.orow 1 7 none)))::L1) (λi=>[.blk 40 (ta t),.row false 144 7 (W3 ((H9 (Uj t) l).take i))]) (λi=>l.length-i) (λi=>i<=l.length-1) 0 (Qi _) rfl (λ_ _=>rfl) rfl λi hi=>?_
 by_cases hlt:i+1<l.length
 ·obtain ⟨a,ha⟩:=gxE (l:=l) (i:=i) (by omega);obtain ⟨b,hb⟩:=gxE (l:=l) (i:=i+1) hlt;have hg:=Qe8 (Uj t) ha hb;have hm:∀ y∈[Nj (Av (Uj t) a b)],y.length=7:=λy hy=>by rw [Qk.1 hy]; rfl
  refine go tt [.t (by simp [hcl]; omega),.r 19 (eI (b:=(i:Int)) (by simp)),.x (H8 ha),.x (H8 hb),.c [] (Qwo (hl a (Qa ha)) (hl b (Qa hb)) ht),.s (sz:=7) hm,.r 14 (eI (b:=((i+1+1:Nat):Int)) (by simp))] rfl (by simp [Wv,U8,Ry,Py]; omega) ?_;exact rd (i+1) (by omega) (by omega) (by rw [hg]; simp [W3]; rfl)
 ·have e:(H9 (Uj t) l).take i=H9 (Uj t) l:=Qr (by rw [Py]; omega);rw [e];exact ed tt [] [1] [.f (by simp [hcl]; omega)] rfl trivial
theorem Qqb {C:List Pt} {i:Nat} {a b:Pt} (ha:C[i]? = some a) (hb:C[(i+1) % C.length]? = some b):(Gt C)[i]? = some (a,b):=by
 have hi:=(Qg.1 ha).1;unfold Gt;rw [List.getElem?_zip_eq_some];refine ⟨ha,?_⟩;by_cases h:i+1<C.length
 ·rw [Xn h] at hb;rw [Zn (by rw [Zd]; omega),Z7,Jj]; exact hb
 ·have e:i+1=C.length:=by omega
  rw [e,Nat.mod_self] at hb;rw [Xm (by rw [Zd]; omega),Zd,show i-(C.length-1)=0 by omega,V2 (by omega)]; exact hb
theorem Qqc (C:List Pt):(Gt C).length=C.length:=by
 unfold Gt;rw [List.length_zip,Qw,Zd,Qu]; omega
theorem Qjx {α β:Type} {f:α->List β} {l:List α} {i:Nat} {x:α} (h:l[i]? = some x):(l.take (i+1)).flatMap f=(l.take i).flatMap f++f x:=by
 rw [Z0,h]; simp
theorem Qfd {α β:Type} {f:α->β} {p:α->Bool} {l:List α} {i:Nat} {x:α} (h:l[i]? = some x):((l.take (i+1)).filter p).map f=((l.take i).filter p).map f++if p x=true then [f x] else []:=by
 rw [Z0,h,Y7,J0];congr 1;simp only [Option.toList];by_cases hp:p x=true
 ·rw [if_pos hp,Xw hp]; rfl
 ·rw [if_neg hp,Jk hp]; rfl
theorem Qqh {α β:Type} {f:α->List β} {n:Nat} (hf:∀ x,(f x).length<=n) (l:List α):(l.flatMap f).length<=l.length*n:=Qbh f n l λx _=>hf x
theorem Qzw {l:List Pt} (hl:∀ p∈l,Sc p.c):∀ p∈l,Q16 4294967294 1073741824 p:=λp hp=>⟨(hl p hp).n,(hl p hp).c.mono (by decide) (by decide)⟩
set_option maxHeartbeats 4000000 in
theorem Qkk {l:List Pt} {a:Tm} {c:Cr} {r1:List (List LV)} (hl:∀ p∈l,Sc p.c) (hn:l.length≤10) (ha:Va a):W6 Tryz.prog 73 [.one (.ow 0 0),.agg (ta a)] [.blk 164 (Gl c (Ww l) r1)] [.one (.row (W3 (bcH l a)))] [.blk 164 (Gl c (Ww l) (brH l a))]:=by
 have hwl:=Aa l;have cw:=Qtx (l:=l) (Qzw hl) (by omega);have cr:=Qpp (l:=He l) (λp hp=>hl p (S6 hp)) (by omega) ha;have cn:=Qw0 (R:=Hy a (He l)) (λp hp=>hl p (S6 (Fx.1 hp))) (by rw [Mq]; omega) ha;have cr2:=Qpp hl (by omega) ha;have cc:=Qfn (l:=Hy a l) (t:=a) (λp hp=>hl p (Fx.1 hp)) (by rw [Mq]; omega) ha;have hCm:∀ p∈Ro l a,p∈l:=λp hp=>L9 hp
 have hCl:=Qed l a;have e0:bcH l a=bcS l a++Pi (Uj a) l (Ro l a):=rfl;rw [e0];show W6 Tryz.prog 73 _ _ _ [.blk 164 (Gl c (Ww l) (Ww (Ro l a)))];have cn:W0 Tryz.prog 112 [.agg (ta a),.one (pts (Hy a (He l)))] [.one (pts (Ro l a))]:=cn;have cc:W6 Tryz.prog 109 [.agg (ta a),.one (pts (Hy a l))] [] [.one (.orow 0 7 none)] [.row false 144 7 (W3 (bcS l a))]:=cc;have hbl:(bcS l a).length<=10:=by unfold bcS; rw [Py,Mq]; omega
 obtain ⟨C,hC⟩:=nmE (Ro l a);obtain ⟨cs0,hc0⟩:=nmE (bcS l a);rw [<-hC] at cn hCm hCl ⊢;rw [<-hc0] at cc hbl ⊢;have hcp:=U8 C;have hlp:=U8 l;have eel:∀ x,(Dm (Uj a) l x).length<=l.length:=λx=>by unfold Dm; rw [List.length_map]; exact List.length_filter_le _ _
 refine U4 Tryz.func73 rfl ?_;refine go tt [.c [] cw,.c [] cr,.c [] cn,.c [] Ln,.c [] cr2,.c [2] cc] rfl trivial ?_;by_cases h2:C.length<2
 ·have e:Pi (Uj a) l C=[]:=if_pos h2;rw [e,Zw];exact ed tt [2] [0] [.t (decide_eq_true (by simp; omega))] rfl trivial
 have e:Pi (Uj a) l C=(Gt C).flatMap (Dm (Uj a) l):=if_neg h2;rw [e];refine go tt [.f (decide_eq_false (by simp; omega))] rfl trivial ?_;refine sb [(48,.v (.one (.int .i64 0))),(47,.v (.one (.int .i64 ((C.map W8).length:Int)))),(46,.v (.one (pts C))),(6,.v (.one (.orow 2 7 none))),(3,.v (.one (.ow 1 0))),(0,.v (.one (.ow 0 0)))] [.blk 164 (Gl c (Ww l) (Ww C)),.blk 40 (ta a),.row false 144 7 (W3 cs0)] rfl rfl ?_;rw [show W3 cs0=W3 (cs0++((Gt C).take 0).flatMap (Dm (Uj a) l)) by simp];refine lp (S:=Nat) 3 (λL1 i=>(48,.v (.one (.int .i64 (i:Int))))::(6,.v (.one (.orow 2 7 none)))::L1) (λi=>[.blk 164 (Gl c (Ww l) (Ww C)),.blk 40 (ta a),.row false 144 7 (W3 (cs0++((Gt C).take i).flatMap (Dm (Uj a) l)))]) (λi=>C.length-i) (λi=>i<=C.length) 0 (Qi _) rfl (λ_ _=>rfl) rfl λi hi=>?_
 by_cases hlt:i<C.length
 ·obtain ⟨x,hx⟩:=gxE (l:=C) (i:=i) hlt;obtain ⟨y,hy⟩:=gxE (l:=C) (i:=(i+1) % C.length) (Z9 _ (by omega));have he:=Qqb hx hy;have sx:=hl x (hCm x (Qa hx));have sy:=hl y (hCm y (Qa hy));have hflat:=Qjx (f:=Dm (Uj a) l) he;obtain ⟨F,hF⟩:=nmE (cs0++((Gt C).take i).flatMap (Dm (Uj a) l));have hFl:F.length<=10+20*10:=by
   have h1:=Qqh eel ((Gt C).take i);have h2:((Gt C).take i).length*l.length<=20*10:=Zk (by rw [Qu]; omega) hn;rw [hF,Qw]; omega
  have hmod:(((i+1:Nat):Int)).tmod ((C.map W8).length:Int)=(((i+1) % C.length:Nat):Int):=by rw [Zm]; exact (Int.ofNat_tmod _ _).symm
  have hm0:=Int.emod_nonneg ((i+1:Nat):Int) (show (C.length:Int)≠0 by omega);have hm1:=Int.emod_lt_of_pos ((i+1:Nat):Int) (show (0:Int)<C.length by omega);have hnext:cs0++((Gt C).take (i+1)).flatMap (Dm (Uj a) l)=F++(l.filter (Qaq (x,y))).map λc=>Bj (Uj a) x y c:=by rw [hflat,<-Q8,<-hF]; rfl
  rw [<-hF];refine go tt [.t (decide_eq_true (by simp; omega)),.x (H8 hx),.r 58 (eI (b:=((i+1:Nat):Int)) (by simp)),.r 64 (eI (b:=(((i+1) % C.length:Nat):Int)) hmod),.x (H8 hy),.c [] Ln] rfl (by simp only [Wv]; omega) ?_;rw [show W3 F=W3 (F++((l.take 0).filter (Qaq (x,y))).map λc=>Bj (Uj a) x y c) by simp];refine lp (S:=Nat) 5 (λL1 k=>(73,.v (.one (.int .i64 (k:Int))))::(6,.v (.one (.orow 2 7 none)))::L1) (λk=>[.blk 164 (Gl c (Ww l) (Ww C)),.blk 40 (ta a),.row false 144 7 (W3 (F++((l.take k).filter (Qaq (x,y))).map λc=>Bj (Uj a) x y c)),.blk 62 (W8 x),.blk 62 (W8 y)]) (λk=>l.length-k) (λk=>k<=l.length) 0 (Qi _) rfl (λ_ _=>rfl) rfl λk hk=>?_
  by_cases hlk:k<l.length
  ·obtain ⟨z,hz⟩:=gxE (l:=l) (i:=k) hlk;have sz:=hl z (Qa hz);have hflt:=Qfd (f:=λc=>Bj (Uj a) x y c) (p:=Qaq (x,y)) hz;obtain ⟨G,hG⟩:=nmE (((l.take k).filter (Qaq (x,y))).map λc=>Bj (Uj a) x y c);have hGl:G.length<=10:=by
    have h1:=Yo (Qaq (x,y)) (l.take k);rw [Qu] at h1;rw [hG,Zm]; omega
   rw [<-hG] at hflt ⊢;by_cases h1:z.id=x.id
   ·rw [if_neg (show ¬Qaq (x,y) z=true by simp [Qaq,h1]),Zw] at hflt;refine go tt [.t (decide_eq_true (by simp; omega)),.x (H8 hz),.g 82 false (decide_eq_false (by simp [h1])),.f rfl] rfl (by simp [Wv]; omega) ?_;exact rd (k+1) (by omega) hlk (by rw [hflt]; rfl)
   ·by_cases h2:z.id=y.id
    ·rw [if_neg (show ¬Qaq (x,y) z=true by simp [Qaq,h2]),Zw] at hflt;refine go tt [.t (decide_eq_true (by simp; omega)),.x (H8 hz),.g 82 true (decide_eq_true h1),.f (decide_eq_false (by simp [h2]))] rfl (by simp [Wv]; omega) ?_;exact rd (k+1) (by omega) hlk (by rw [hflt]; rfl)
    ·rw [if_pos (show Qaq (x,y) z=true by simp [Qaq,h1,h2])] at hflt;have hm:∀ q∈[Nj (Bj (Uj a) x y z)],q.length=7:=λq hq=>by rw [Qk.1 hq]; rfl
     refine go tt [.t (decide_eq_true (by simp; omega)),.x (H8 hz),.g 82 true (decide_eq_true h1),.t (decide_eq_true h2),.c [] (Qwp sx sy sz ha),.s (sz:=7) hm] rfl (by simp [Wv,Ry]; omega) ?_;have e3:W3 (F++(G++[Bj (Uj a) x y z]))=W3 (F++G)++[Nj (Bj (Uj a) x y z)]:=by simp [W3]
     exact rd (k+1) (by omega) hlk (by rw [hflt,e3]; rfl)
  ·obtain rfl:k=l.length:=by omega
   rw [Q4,<-hnext];refine go tt [.f (decide_eq_false (by simp))] rfl (by simp [Wv]; omega) ?_;exact rd (i+1) (by omega) hlt rfl
 ·obtain rfl:i=C.length:=by omega
  rw [Qr (by rw [Qqc]; exact Qm _)];exact ed tt [2] [0] [.f (decide_eq_false (by simp))] rfl trivial
theorem ozM {P:Program} [Mo P] {n:Nat} {Q:Exit->Sg->List OB->Prop} {L L':Sg} {B B':List OB} (d off T sz:Nat) {it:List It} (hs:Gz it=true) (h:Q1g (P:=P) d L B [.oc d off T sz]=some (L',B',[],[])) (k:AK P n Q it L' B'):AK P n Q it L B:=AK.sub (Qob h EqOk.nil) hs k
theorem Qmw {k:Crv} (hk:Sc k):W0 Tryz.prog 212 [.agg (cl k)] [.one (.row (Oh (A5 k)))]:=by
 have ok:=Qda hk.n hk.c;have l1:=Rh k.x k.x;have l2:=Rh k.y k.y;have:=hk.c.lx;have:=hk.c.ly;have bx:Bd 258 (U5 k.x k.x):=Tt (u:=2) hk.c.x hk.c.x (by omega);have by_:Bd 258 (U5 k.y k.y):=Tt (u:=2) hk.c.y hk.c.y (by omega);have c1:=Sl (p:=k.x) (c:=k.d) (by omega) (Wx hk.c.x (by decide)) (Qd hk.c.d (by decide));have c2:=Sl (p:=k.y) (c:=k.d) (by omega) (Wx hk.c.y (by decide)) (Qd hk.c.d (by decide));have c3:=Qd6 (p:=k.x) (q:=k.x) hk.n.1 hk.n.1 (by omega) (by omega) hk.c.x hk.c.x (by decide);have c4:=Qd6 (p:=k.y) (q:=k.y) hk.n.2.1 hk.n.2.1 (by omega) (by omega) hk.c.y hk.c.y (by decide);have c5:=Qmr (p:=U5 k.x k.x) (q:=U5 k.y k.y) (by omega) (by omega) (Wx bx (by decide)) (Wx by_ (by decide));have c6:=Pf (Wy k.d) (Wy k.d) (Qd hk.c.d (by decide)) (Qd hk.c.d (by decide));have hl:∀ p∈A5 k,p.length≤1000000:=λp hp=>by
  obtain ⟨j,hj⟩:=Xp hp;have h1:=ok.2 j p hj;have:[2,2,4,0].getD j 0<=4:=by
   match j with
   | 0=>decide
   | 1=>decide
   | 2=>decide
   | 3=>decide
   | j+4=>simp
  omega
 have cd:=Q2n (r:=A5 k) (λp hp=>(ok.1 p hp).1) (λp hp=>Wx (ok.1 p hp).2 (by decide)) hl (by show 4<=1000; decide);exact w tt Tryz.func212 rfl [.c [] (Np hk.n (hk.c.mono (by decide) (by decide))),.c [] c1,.c [] c2,.c [] c3,.c [] c4,.c [] c5,.c [] c6,.c [] cd] rfl rfl trivial
theorem Q2u {a b c d:Crv} (ha:Sc a) (hb:Sc b) (hc:Sc c) (hd:Sc d):W0 Tryz.prog 176 [.agg (cl a),.agg (cl b),.agg (cl c),.agg (cl d)] [pr (Qa1 a b c d)]:=by
 have cd:=Zd0 (by decide) (k:=4) (ds:=[2,2,4,0]) (by decide) rfl (by decide) (Qsl ha.n hb.n hc.n hd.n ha.c hb.c hc.c hd.c);exact w tt Tryz.func176 rfl [.c [] (Qmw ha),.c [] (Qmw hb),.c [] (Qmw hc),.c [] (Qmw hd),.c [] cd] rfl rfl trivial
set_option maxHeartbeats 1000000 in
theorem Q91 {a b c d:Pt} {t:Tm} (ha:Sc a.c) (hb:Sc b.c) (hc:Sc c.c) (hd:Sc d.c) (ht:Va t):W0 Tryz.prog 111 [.one (.int .i64 4),.agg (ta t),.one (.row [W8 a,W8 b,W8 c,W8 d])] [.agg (Nj (Qlm (Uj t) a b c d)),.one (.int .i64 0)]:=by
 have hp:=(Qxc ha hb hc hd).dp;have e:Nj (Qlm (Uj t) a b c d)=[.int .i64 4,.int .i64 a.id,.int .i64 b.id,.int .i64 c.id,.int .i64 d.id,pl (Qa1 a.c b.c c.c d.c),.int .i64 (Fq (Uj t) (Qa1 a.c b.c c.c d.c))]:=by rw [Qlm]
 rw [e];have cg:=Qfo hp ht;have cf:=Q2u ha hb hc hd;generalize Qa1 a.c b.c c.c d.c=F at *;refine U4 Tryz.func111 rfl ?_;refine go tt [.c [] Q0h,.f rfl] rfl trivial ?_;refine lp (S:=Nat) 3 (λL1 i=>(22,.v (.one (.int .i64 (i:Int))))::L1) (λi=>[.blk 40 (ta t),.blk 144 zCt,.blk 144 [.int .i64 4,.int .i64 (if 1<=i then a.id else 0),.int .i64 (if 2<=i then b.id else 0),.int .i64 (if 3<=i then c.id else 0),.int .i64 (if 4<=i then d.id else 0),.nils,.int .i64 0]]) (λi=>4-i) (λi=>i<=4) 0 (Qi _) rfl (λ_ _=>rfl) rfl λi hi=>?_
 rcases (show i=0\/i=1\/i=2\/i=3\/i=4 by omega) with rfl | rfl | rfl | rfl | rfl
 ·refine go tt [.t rfl,.x (i:=0) (xs:=W8 a) rfl,.i 0] rfl (by simp [Wv]) ?_;exact rd 1 (by omega) (by omega) rfl
 ·refine go tt [.t rfl,.x (i:=1) (xs:=W8 b) rfl,.i 1] rfl (by simp [Wv]) ?_;exact rd 2 (by omega) (by omega) rfl
 ·refine go tt [.t rfl,.x (i:=2) (xs:=W8 c) rfl,.i 2] rfl (by simp [Wv]) ?_;exact rd 3 (by omega) (by omega) rfl
 ·refine go tt [.t rfl,.x (i:=3) (xs:=W8 d) rfl,.i 3] rfl (by simp [Wv]) ?_;exact rd 4 (by omega) (by omega) rfl
 ·exact en tt [.f rfl,.f rfl,.f rfl,.f rfl,.t rfl,.x (i:=0) (xs:=W8 a) rfl,.x (i:=1) (xs:=W8 b) rfl,.x (i:=2) (xs:=W8 c) rfl,.x (i:=3) (xs:=W8 d) rfl,.c [] cf,.c [] cg] rfl rfl trivial
def Qqg (T:Pe) (s:Int) (n:List Int) (F:Pe) (k:Nat):Pe:=(List.range k).foldl (Ec T s n) F
theorem Qud (T:Pe) (s:Int) (n:List Int) (F:Pe) (k:Nat):Qqg T s n F (k+1)=Ec T s n (Qqg T s n F k) k:=by unfold Qqg; rw [List.range_succ,List.foldl_append]; rfl
theorem Quc (T:Pe) (s:Int) (n:List Int) (F:Pe):Qqg T s n F 4=Qk2 T s n F:=rfl
set_option maxHeartbeats 4000000 in
theorem Zf3 {F T:Pe} {s n0 n1 n2 n3:Int} (hT:Qo5 T) (hs:-1<=s/\s<=1):W6 Tryz.prog 119 [.one (.omap 0),.one (.omap 1),.one (.int .i64 s),.agg [.int .i64 n0,.int .i64 n1,.int .i64 n2,.int .i64 n3]] [.mpb F,.mpb T] [] [.mpb (Qk2 T s [n0,n1,n2,n3] F),.mpb T]:=by
 have hm:Q89 T:=λk=>(hT k).1
 have hb:=λ(k:List Int) (x:Int) (hx:-1<=x/\x<=1)=>Q07 (hT k).2 hx
 rw [<-Quc];obtain ⟨f,hf⟩:=nmE (Qqg T s [n0,n1,n2,n3] F);have f0:F=f 0:=by rw [hf]; rfl
 have fs:∀ k,f (k+1)=Ec T s [n0,n1,n2,n3] (f k) k:=λk=>by rw [hf]; exact Qud ..
 rw [<-hf];rw [f0];clear hf f0;refine U4 Tryz.func119 rfl ?_;refine go tt [] rfl trivial ?_;refine lp (S:=Nat) 3 (λL1 k=>(14,.v (.one (.int .i64 (k:Int))))::L1) (λk=>[.mpb (f k),.mpb T,.blk 140 [.int .i64 n0,.int .i64 n1,.int .i64 n2,.int .i64 n3]]) (λk=>4-k) (λk=>k<=4) 0 (by decide) rfl (λ_ _=>rfl) rfl λk hk=>?_
 rcases (show k=0\/k=1\/k=2\/k=3\/k=4 by omega) with rfl | rfl | rfl | rfl | rfl
 ·have e1:=fs 0;have e2:Ec T s [n0,n1,n2,n3] (f 0) 0=if Ia T [n1,n2,n3]*(-s)>0 then Cc (f 0) [n1,n2,n3] (.bool true) else f 0:=rfl
  rw [e2] at e1;refine go tt [.t rfl] rfl trivial ?_;refine lp (S:=Nat) 4 (λL1 i=>(18,.v (.one (.int .i64 (i:Int))))::(10,.v (.one (.int .i64 (if i<=0 then (i:Int) else (i:Int)-1))))::L1) (λi=>[.mpb (f 0),.mpb T,.blk 140 [.int .i64 n0,.int .i64 n1,.int .i64 n2,.int .i64 n3],.blk 139 [.int .i64 (if 2<=i then n1 else 0),.int .i64 (if 3<=i then n2 else 0),.int .i64 (if 4<=i then n3 else 0)]]) (λi=>4-i) (λi=>i<=4) 0 (by decide) rfl (λ_ _=>rfl) rfl λi hi=>?_
  rcases (show i=0\/i=1\/i=2\/i=3\/i=4 by omega) with rfl | rfl | rfl | rfl | rfl
  ·refine go tt [.t rfl,.i 0,.f rfl] rfl (by simp [Wv]) ?_;exact rd 1 (by omega) (by omega) rfl
  ·refine go tt [.t rfl,.i 1,.t rfl,.i 0] rfl (by simp [Wv]) ?_;exact rd 2 (by omega) (by omega) rfl
  ·refine go tt [.t rfl,.i 2,.t rfl,.i 1] rfl (by simp [Wv]) ?_;exact rd 3 (by omega) (by omega) rfl
  ·refine go tt [.t rfl,.i 3,.t rfl,.i 2] rfl (by simp [Wv]) ?_;exact rd 4 (by omega) (by omega) rfl
  ·have hbb:=hb [n1,n2,n3] (-s) (by omega);by_cases hc:Ia T [n1,n2,n3]*(-s)>0
   ·rw [if_pos hc] at e1;refine go tt [.f rfl,.t rfl,.t (decide_eq_true hc)] rfl (by simp only [Wv]; first | exact ⟨⟨by omega,by omega⟩,hbb,hm,⟨by omega,by omega⟩,by decide,by omega,by omega⟩ | exact ⟨⟨by omega,by omega⟩,hbb,hm,by decide,by omega,by omega⟩) ?_;exact rd 1 (by omega) (by omega) (by rw [e1]; rfl)
   ·rw [if_neg hc] at e1;refine go tt [.f rfl,.t rfl,.f (decide_eq_false hc)] rfl (by simp only [Wv]; first | exact ⟨⟨by omega,by omega⟩,hbb,hm,⟨by omega,by omega⟩,by decide,by omega,by omega⟩ | exact ⟨⟨by omega,by omega⟩,hbb,hm,by decide,by omega,by omega⟩) ?_;exact rd 1 (by omega) (by omega) (by rw [e1]; rfl)
 ·have e1:=fs 1;have e2:Ec T s [n0,n1,n2,n3] (f 1) 1=if Ia T [n0,n2,n3]*s>0 then Cc (f 1) [n0,n2,n3] (.bool true) else f 1:=rfl
  rw [e2] at e1;refine go tt [.t rfl] rfl trivial ?_;refine lp (S:=Nat) 4 (λL1 i=>(18,.v (.one (.int .i64 (i:Int))))::(10,.v (.one (.int .i64 (if i<=1 then (i:Int) else (i:Int)-1))))::L1) (λi=>[.mpb (f 1),.mpb T,.blk 140 [.int .i64 n0,.int .i64 n1,.int .i64 n2,.int .i64 n3],.blk 139 [.int .i64 (if 1<=i then n0 else 0),.int .i64 (if 3<=i then n2 else 0),.int .i64 (if 4<=i then n3 else 0)]]) (λi=>4-i) (λi=>i<=4) 0 (by decide) rfl (λ_ _=>rfl) rfl λi hi=>?_
  rcases (show i=0\/i=1\/i=2\/i=3\/i=4 by omega) with rfl | rfl | rfl | rfl | rfl
  ·refine go tt [.t rfl,.i 0,.t rfl,.i 0] rfl (by simp [Wv]) ?_;exact rd 1 (by omega) (by omega) rfl
  ·refine go tt [.t rfl,.i 1,.f rfl] rfl (by simp [Wv]) ?_;exact rd 2 (by omega) (by omega) rfl
  ·refine go tt [.t rfl,.i 2,.t rfl,.i 1] rfl (by simp [Wv]) ?_;exact rd 3 (by omega) (by omega) rfl
  ·refine go tt [.t rfl,.i 3,.t rfl,.i 2] rfl (by simp [Wv]) ?_;exact rd 4 (by omega) (by omega) rfl
  ·have hbb:=hb [n0,n2,n3] s (by omega);by_cases hc:Ia T [n0,n2,n3]*s>0
   ·rw [if_pos hc] at e1;refine go tt [.f rfl,.f rfl,.t (decide_eq_true hc)] rfl (by simp only [Wv]; first | exact ⟨⟨by omega,by omega⟩,hbb,hm,⟨by omega,by omega⟩,by decide,by omega,by omega⟩ | exact ⟨⟨by omega,by omega⟩,hbb,hm,by decide,by omega,by omega⟩) ?_;exact rd 2 (by omega) (by omega) (by rw [e1]; rfl)
   ·rw [if_neg hc] at e1;refine go tt [.f rfl,.f rfl,.f (decide_eq_false hc)] rfl (by simp only [Wv]; first | exact ⟨⟨by omega,by omega⟩,hbb,hm,⟨by omega,by omega⟩,by decide,by omega,by omega⟩ | exact ⟨⟨by omega,by omega⟩,hbb,hm,by decide,by omega,by omega⟩) ?_;exact rd 2 (by omega) (by omega) (by rw [e1]; rfl)
 ·have e1:=fs 2;have e2:Ec T s [n0,n1,n2,n3] (f 2) 2=if Ia T [n0,n1,n3]*(-s)>0 then Cc (f 2) [n0,n1,n3] (.bool true) else f 2:=rfl
  rw [e2] at e1;refine go tt [.t rfl] rfl trivial ?_;refine lp (S:=Nat) 4 (λL1 i=>(18,.v (.one (.int .i64 (i:Int))))::(10,.v (.one (.int .i64 (if i<=2 then (i:Int) else (i:Int)-1))))::L1) (λi=>[.mpb (f 2),.mpb T,.blk 140 [.int .i64 n0,.int .i64 n1,.int .i64 n2,.int .i64 n3],.blk 139 [.int .i64 (if 1<=i then n0 else 0),.int .i64 (if 2<=i then n1 else 0),.int .i64 (if 4<=i then n3 else 0)]]) (λi=>4-i) (λi=>i<=4) 0 (by decide) rfl (λ_ _=>rfl) rfl λi hi=>?_
  rcases (show i=0\/i=1\/i=2\/i=3\/i=4 by omega) with rfl | rfl | rfl | rfl | rfl
  ·refine go tt [.t rfl,.i 0,.t rfl,.i 0] rfl (by simp [Wv]) ?_;exact rd 1 (by omega) (by omega) rfl
  ·refine go tt [.t rfl,.i 1,.t rfl,.i 1] rfl (by simp [Wv]) ?_;exact rd 2 (by omega) (by omega) rfl
  ·refine go tt [.t rfl,.i 2,.f rfl] rfl (by simp [Wv]) ?_;exact rd 3 (by omega) (by omega) rfl
  ·refine go tt [.t rfl,.i 3,.t rfl,.i 2] rfl (by simp [Wv]) ?_;exact rd 4 (by omega) (by omega) rfl
  ·have hbb:=hb [n0,n1,n3] (-s) (by omega);by_cases hc:Ia T [n0,n1,n3]*(-s)>0
   ·rw [if_pos hc] at e1;refine go tt [.f rfl,.t rfl,.t (decide_eq_true hc)] rfl (by simp only [Wv]; first | exact ⟨⟨by omega,by omega⟩,hbb,hm,⟨by omega,by omega⟩,by decide,by omega,by omega⟩ | exact ⟨⟨by omega,by omega⟩,hbb,hm,by decide,by omega,by omega⟩) ?_;exact rd 3 (by omega) (by omega) (by rw [e1]; rfl)
   ·rw [if_neg hc] at e1;refine go tt [.f rfl,.t rfl,.f (decide_eq_false hc)] rfl (by simp only [Wv]; first | exact ⟨⟨by omega,by omega⟩,hbb,hm,⟨by omega,by omega⟩,by decide,by omega,by omega⟩ | exact ⟨⟨by omega,by omega⟩,hbb,hm,by decide,by omega,by omega⟩) ?_;exact rd 3 (by omega) (by omega) (by rw [e1]; rfl)
 ·have e1:=fs 3;have e2:Ec T s [n0,n1,n2,n3] (f 3) 3=if Ia T [n0,n1,n2]*s>0 then Cc (f 3) [n0,n1,n2] (.bool true) else f 3:=rfl
  rw [e2] at e1;refine go tt [.t rfl] rfl trivial ?_;refine lp (S:=Nat) 4 (λL1 i=>(18,.v (.one (.int .i64 (i:Int))))::(10,.v (.one (.int .i64 (if i<=3 then (i:Int) else (i:Int)-1))))::L1) (λi=>[.mpb (f 3),.mpb T,.blk 140 [.int .i64 n0,.int .i64 n1,.int .i64 n2,.int .i64 n3],.blk 139 [.int .i64 (if 1<=i then n0 else 0),.int .i64 (if 2<=i then n1 else 0),.int .i64 (if 3<=i then n2 else 0)]]) (λi=>4-i) (λi=>i<=4) 0 (by decide) rfl (λ_ _=>rfl) rfl λi hi=>?_
  rcases (show i=0\/i=1\/i=2\/i=3\/i=4 by omega) with rfl | rfl | rfl | rfl | rfl
  ·refine go tt [.t rfl,.i 0,.t rfl,.i 0] rfl (by simp [Wv]) ?_;exact rd 1 (by omega) (by omega) rfl
  ·refine go tt [.t rfl,.i 1,.t rfl,.i 1] rfl (by simp [Wv]) ?_;exact rd 2 (by omega) (by omega) rfl
  ·refine go tt [.t rfl,.i 2,.t rfl,.i 2] rfl (by simp [Wv]) ?_;exact rd 3 (by omega) (by omega) rfl
  ·refine go tt [.t rfl,.i 3,.f rfl] rfl (by simp [Wv]) ?_;exact rd 4 (by omega) (by omega) rfl
  ·have hbb:=hb [n0,n1,n2] s (by omega);by_cases hc:Ia T [n0,n1,n2]*s>0
   ·rw [if_pos hc] at e1;refine go tt [.f rfl,.f rfl,.t (decide_eq_true hc)] rfl (by simp only [Wv]; first | exact ⟨⟨by omega,by omega⟩,hbb,hm,⟨by omega,by omega⟩,by decide,by omega,by omega⟩ | exact ⟨⟨by omega,by omega⟩,hbb,hm,by decide,by omega,by omega⟩) ?_;exact rd 4 (by omega) (by omega) (by rw [e1]; rfl)
   ·rw [if_neg hc] at e1;refine go tt [.f rfl,.f rfl,.f (decide_eq_false hc)] rfl (by simp only [Wv]; first | exact ⟨⟨by omega,by omega⟩,hbb,hm,⟨by omega,by omega⟩,by decide,by omega,by omega⟩ | exact ⟨⟨by omega,by omega⟩,hbb,hm,by decide,by omega,by omega⟩) ?_;exact rd 4 (by omega) (by omega) (by rw [e1]; rfl)
 ·exact ed tt [] [0,1] [.f rfl] rfl trivial
set_option maxHeartbeats 8000000 in
theorem Qkj {l:List Pt} {a:Tm} {c:Cr} {r1:List (List LV)} (hl:∀ p∈l,Sc p.c) (hn:l.length≤6) (ha:Va a):W6 Tryz.prog 75 [.one (.ow 0 0),.agg (ta a)] [.blk 168 (Gl c (Ww l) r1)] [.one (.row (W3 (bcD l a)))] [.blk 168 (Gl c (Ww l) (brD l a))]:=by
 have hwl:=Aa l;have cw:=Qtx (l:=l) (Qzw hl) (by omega);have hgb:=Q5f a;unfold brD bcD Qq6 Qq7;obtain ⟨sg',hsg⟩:∃ s,s=Uj a:=⟨_,rfl⟩;obtain ⟨W,hW⟩:=nmE (He l);have hWs:∀ p∈W,Sc p.c:=λp hp=>hl p (S6 (by rw [<-hW]; exact hp))
 have mR:=λ{x y z:Pt} (hx:x∈W) (hy:y∈W) (hz:z∈W)=>Qwp (t:=a) (hWs x hx) (hWs y hy) (hWs z hz) ha
 have mC:=λ{x y z u:Pt} (hx:x∈W) (hy:y∈W) (hz:z∈W) (hu:u∈W)=>Q91 (t:=a) (hWs x hx) (hWs y hy) (hWs z hz) (hWs u hu) ha
 rw [<-hW] at cw hwl ⊢;rw [<-hsg] at hgb mR mC ⊢;have hW6:W.length<=6:=by omega
 have hTi:=λps=>Q0z hgb ps
 have hcp:(W.map W8).length=W.length:=by simp
 have hcp2:=U8 W;have hdr:∀ i,(Ww W).drop i=Ww (W.drop i):=λi=>by unfold Ww; rw [List.map_drop]
 have hel:∀ z∈Ww W,z.length=5:=λz hz=>by obtain ⟨p,_,rfl⟩:=Ze.1 hz; rfl
 have s7:∀ x:Ct,∀ y∈[Nj x],y.length=7:=λx y hy=>by rw [Qk.1 hy]; rfl
 have s3:∀ x:P3,∀ y∈[trL x],y.length=3:=λx y hy=>by rw [Qk.1 hy]; rfl
 obtain ⟨T,hT⟩:=nmE (D5 (Ic sg' (Gw W)));obtain ⟨G,hG⟩:=nmE (Ef T (Qar sg' (E5 W)));have hTI:Qo5 T:=by rw [hT]; exact hTi _
 have hTm:Q89 T:=λk=>(hTI k).1
 have hGB:Q14 G:=λk=>by rw [hG]; exact Qtq _ _ _ k
 rw [<-hT,<-hG];have e0:(W3 (((Bw 0 W).map (Qge sg'))))=[]:=rfl;refine U4 Tryz.func75 rfl ?_;refine go tt [.c [] cw,.o 6 144 7] rfl trivial ?_;refine lp (S:=Nat) 4 (λL1 i=>(42,.v (.one (.int .i64 (i:Int))))::(6,.v (.one (.orow 2 7 none)))::L1) (λi=>[.blk 168 (Gl c (Ww l) r1),.blk 40 (ta a),.row false 144 7 (W3 ((Bw i W).map (Qge sg'))),.mpb (D5 (Ic sg' (Bw i W)))]) (λi=>W.length-i) (λi=>i<=W.length) 0 (Qi _) rfl (λ_ _=>rfl) rfl λi hi=>?_
 by_cases hlt:i<W.length
 ·obtain ⟨x,hx⟩:=gxE (l:=W) (i:=i) hlt;have xm:=Qa hx;obtain ⟨V,hV⟩:=nmE (W.drop (i+1));have hVl:V.length=W.length-(i+1):=by rw [hV,Zd]
  have hVm:∀ p∈V,p∈W:=λp hp=>by rw [hV] at hp; exact Qz hp
  have eV:(Ww W).drop (i+1)=Ww V:=by rw [hdr,<-hV]
  rw [<-Qi6 W x i];refine go tt [.t (decide_eq_true (by omega)),.x (Ho hx),.r 49 (eI (b:=((i+1:Nat):Int)) (by omega)),.i (i+1),.r 50 (Qco eV)] rfl (by simp only [Wv]; (repeat' apply And.intro) <;> first | omega | exact hel) ?_;have hVr:=U8 V;refine lp (S:=Nat) 5 (λL1 j=>(52,.v (.one (.int .i64 (j:Int))))::(6,.v (.one (.orow 2 7 none)))::L1) (λj=>[.blk 168 (Gl c (Ww l) r1),.blk 40 (ta a),.row false 144 7 (W3 ((p3j W x i j).map (Qge sg'))),.mpb (D5 (Ic sg' (p3j W x i j))),.blk 62 (W8 x)]) (λj=>V.length-j) (λj=>j<=V.length) 0 (Qi _) rfl (λ_ _=>rfl) rfl λj hj=>?_
  by_cases hltj:j<V.length
  ·obtain ⟨y,hy⟩:=gxE (l:=V) (i:=j) hltj;have ym:=hVm y (Qa hy);have hy':(W.drop (i+1))[j]? = some y:=by rw [<-hV]; exact hy
   obtain ⟨U,hU⟩:=nmE (V.drop (j+1));have hUl:U.length=V.length-(j+1):=by rw [hU,Zd]
   have hUm:∀ p∈U,p∈W:=λp hp=>by rw [hU] at hp; exact hVm p (Qz hp)
   have hUW:U=(W.drop (i+1)).drop (j+1):=by rw [hU,hV]
   have eU:(Ww W).drop (i+j+2)=Ww U:=by rw [hdr,hU,hV,Yf]; congr 2; omega
   have hUr:=U8 U;rw [<-Qi8 W x y i j];refine go tt [.t (decide_eq_true (by omega)),.x (Ho hy),.r 61 (eI (b:=((i+j+2:Nat):Int)) (by omega)),.i (i+j+2),.r 62 (Qco eU)] rfl (by simp only [Wv]; (repeat' apply And.intro) <;> first | omega | exact hel) ?_;refine lp (S:=Nat) 6 (λL1 k=>(64,.v (.one (.int .i64 (k:Int))))::(6,.v (.one (.orow 2 7 none)))::L1) (λk=>[.blk 168 (Gl c (Ww l) r1),.blk 40 (ta a),.row false 144 7 (W3 ((p3k W x y i j k).map (Qge sg'))),.mpb (D5 (Ic sg' (p3k W x y i j k))),.blk 62 (W8 x),.blk 62 (W8 y)]) (λk=>U.length-k) (λk=>k<=U.length) 0 (Qi _) rfl (λ_ _=>rfl) rfl λk hk=>?_
   by_cases hltk:k<U.length
   ·obtain ⟨z,hz⟩:=gxE (l:=U) (i:=k) hltk;have zm:=hUm z (Qa hz);have hlen:=Qyu hW6 (k:=k) hx hy';have en:=Qi7 (x:=x) (y:=y) (by rw [<-hUW]; exact hz);have et:=Qv5 sg' (p3k W x y i j k) (x,y,z);rw [<-en] at et;refine go tt [.t (decide_eq_true (by omega)),.x (Ho hz),.c [] (mR xm ym zm),.s (sz:=7) (s7 _)] rfl (by simp [Wv,Ry] <;> omega) ?_;exact rd (k+1) (by omega) hltk (by rw [et,en,J0]; simp [W3]; rfl)
   ·have e:=Qn4 (x:=x) (k:=k) hy' (by rw [<-hUW]; omega);rw [e];refine go tt [.f (decide_eq_false (by omega))] rfl (by simp [Wv] <;> omega) ?_;exact rd (j+1) (by omega) hltj rfl
  ·have e:=Qn3 (x:=x) (j:=j) hx (by rw [<-hV]; omega);rw [e];refine go tt [.f (decide_eq_false (by omega))] rfl (by simp [Wv] <;> omega) ?_;exact rd (i+1) (by omega) hlt rfl
 rw [Qzq (show i=W.length by omega),<-hT];have hiW:¬i<W.length:=hlt;clear hlt;obtain ⟨C3,hC3⟩:=nmE ((Gw W).map (Qge sg'));have hC3l:C3.length<=20:=by rw [hC3,Zm]; exact (Qad hW6).1
 rw [<-hC3];refine go tt [.f (decide_eq_false (by omega))] rfl trivial ?_;have eC:W3 C3=W3 (C3++(Cy 0 W).map (Qea sg')):=by rw [show Cy 0 W=[] from rfl,X7,Zw]
 rw [eC];refine lp (S:=Nat) 5 (λL1 i=>(97,.v (.one (.int .i64 (i:Int))))::(6,.v (.one (.orow 2 7 none)))::L1) (λi=>[.blk 168 (Gl c (Ww l) r1),.blk 40 (ta a),.row false 144 7 (W3 (C3++(Cy i W).map (Qea sg'))),.mpb T,.mpb (Ef T (Qar sg' (Cy i W)))]) (λi=>W.length-i) (λi=>i<=W.length) 0 (Qi _) rfl (λ_ _=>rfl) rfl λi hi=>?_
 by_cases hlt:i<W.length
 ·obtain ⟨x,hx⟩:=gxE (l:=W) (i:=i) hlt;have xm:=Qa hx;obtain ⟨V,hV⟩:=nmE (W.drop (i+1));have hVl:V.length=W.length-(i+1):=by rw [hV,Zd]
  have hVm:∀ p∈V,p∈W:=λp hp=>by rw [hV] at hp; exact Qz hp
  have eV:(Ww W).drop (i+1)=Ww V:=by rw [hdr,<-hV]
  have hVr:=U8 V;rw [<-Q6p W x i];refine go tt [.t (decide_eq_true (by omega)),.x (Ho hx),.r 104 (eI (b:=((i+1:Nat):Int)) (by omega)),.i (i+1),.r 105 (Qco eV)] rfl (by simp only [Wv]; (repeat' apply And.intro) <;> first | omega | exact hel) ?_;refine lp (S:=Nat) 6 (λL1 j=>(107,.v (.one (.int .i64 (j:Int))))::(6,.v (.one (.orow 2 7 none)))::L1) (λj=>[.blk 168 (Gl c (Ww l) r1),.blk 40 (ta a),.row false 144 7 (W3 (C3++(p4j W x i j).map (Qea sg'))),.mpb T,.mpb (Ef T (Qar sg' (p4j W x i j))),.blk 62 (W8 x)]) (λj=>V.length-j) (λj=>j<=V.length) 0 (Qi _) rfl (λ_ _=>rfl) rfl λj hj=>?_
  by_cases hltj:j<V.length
  ·obtain ⟨y,hy⟩:=gxE (l:=V) (i:=j) hltj;have ym:=hVm y (Qa hy);have hy':(W.drop (i+1))[j]? = some y:=by rw [<-hV]; exact hy
   obtain ⟨U,hU⟩:=nmE (V.drop (j+1));have hUl:U.length=V.length-(j+1):=by rw [hU,Zd]
   have hUm:∀ p∈U,p∈W:=λp hp=>by rw [hU] at hp; exact hVm p (Qz hp)
   have hUW:U=(W.drop (i+1)).drop (j+1):=by rw [hU,hV]
   have eU:(Ww W).drop (i+j+2)=Ww U:=by rw [hdr,hU,hV,Yf]; congr 2; omega
   have hUr:=U8 U;rw [<-Q6q W x y i j];refine go tt [.t (decide_eq_true (by omega)),.x (Ho hy),.r 116 (eI (b:=((i+j+2:Nat):Int)) (by omega)),.i (i+j+2),.r 117 (Qco eU)] rfl (by simp only [Wv]; (repeat' apply And.intro) <;> first | omega | exact hel) ?_;refine lp (S:=Nat) 7 (λL1 k=>(119,.v (.one (.int .i64 (k:Int))))::(6,.v (.one (.orow 2 7 none)))::L1) (λk=>[.blk 168 (Gl c (Ww l) r1),.blk 40 (ta a),.row false 144 7 (W3 (C3++(p4k W x y i j k).map (Qea sg'))),.mpb T,.mpb (Ef T (Qar sg' (p4k W x y i j k))),.blk 62 (W8 x),.blk 62 (W8 y)]) (λk=>U.length-k) (λk=>k<=U.length) 0 (Qi _) rfl (λ_ _=>rfl) rfl λk hk=>?_
   by_cases hltk:k<U.length
   ·obtain ⟨z,hz⟩:=gxE (l:=U) (i:=k) hltk;have zm:=hUm z (Qa hz);have hz':((W.drop (i+1)).drop (j+1))[k]? = some z:=by rw [<-hUW]; exact hz
    obtain ⟨R,hR⟩:=nmE (U.drop (k+1));have hRl:R.length=U.length-(k+1):=by rw [hR,Zd]
    have hRm:∀ p∈R,p∈W:=λp hp=>by rw [hR] at hp; exact hUm p (Qz hp)
    have hRW:R=((W.drop (i+1)).drop (j+1)).drop (k+1):=by rw [hR,hUW]
    have eR:(Ww W).drop (i+j+k+3)=Ww R:=by rw [hdr,hRW,Yf,Yf]; congr 2; omega
    have hRr:=U8 R;rw [<-Q6s W x y z i j k];refine go tt [.t (decide_eq_true (by omega)),.x (Ho hz),.r 130 (eI (b:=((i+j+k+3:Nat):Int)) (by omega)),.i (i+j+k+3),.r 131 (Qco eR)] rfl (by simp only [Wv]; (repeat' apply And.intro) <;> first | omega | exact hel) ?_;refine lp (S:=Nat) 8 (λL1 m=>(133,.v (.one (.int .i64 (m:Int))))::(6,.v (.one (.orow 2 7 none)))::L1) (λm=>[.blk 168 (Gl c (Ww l) r1),.blk 40 (ta a),.row false 144 7 (W3 (C3++(p4m W x y z i j k m).map (Qea sg'))),.mpb T,.mpb (Ef T (Qar sg' (p4m W x y z i j k m))),.blk 62 (W8 x),.blk 62 (W8 y),.blk 62 (W8 z)]) (λm=>R.length-m) (λm=>m<=R.length) 0 (Qi _) rfl (λ_ _=>rfl) rfl λm hm=>?_
    by_cases hltm:m<R.length
    ·obtain ⟨u,hu⟩:=gxE (l:=R) (i:=m) hltm;have um:=hRm u (Qa hu);have hlen:=Zcb hW6 (m:=m) hx hy' hz';have en:=Q6r (x:=x) (y:=y) (z:=z) (by rw [<-hRW]; exact hu);have et:=Quf sg' T (p4m W x y z i j k m) (x,y,z,u);rw [<-en] at et;have cf:=Zf3 (F:=Ef T (Qar sg' (p4m W x y z i j k m))) (s:=(Qlm sg' x y z u).want) (n0:=x.id) (n1:=y.id) (n2:=z.id) (n3:=u.id) hTI (hgb _);refine go tt [.t (decide_eq_true (by omega)),.x (Ho hu),.c [] (mC xm ym zm um),.s (sz:=7) (s7 _),.c [4,3] cf] rfl (by simp [Wv,Ry] <;> omega) ?_;exact rd (m+1) (by omega) hltm (by rw [et,en,J0,<-Q8]; simp [W3]; rfl)
    ·have e:=Zca (x:=x) (y:=y) (m:=m) hz' (by rw [<-hRW]; omega);rw [e];refine go tt [.f (decide_eq_false (by omega))] rfl (by simp [Wv] <;> omega) ?_;exact rd (k+1) (by omega) hltk rfl
   ·have e:=Zb9 (x:=x) (k:=k) hy' (by rw [<-hUW]; omega);rw [e];refine go tt [.f (decide_eq_false (by omega))] rfl (by simp [Wv] <;> omega) ?_;exact rd (j+1) (by omega) hltj rfl
  ·have e:=Zb8 (x:=x) (j:=j) hx (by rw [<-hV]; omega);rw [e];refine go tt [.f (decide_eq_false (by omega))] rfl (by simp [Wv] <;> omega) ?_;exact rd (i+1) (by omega) hlt rfl
 rw [Zcq (show i=W.length by omega),<-hG];obtain ⟨C4,hC4⟩:=nmE (C3++(E5 W).map (Qea sg'));rw [<-hC4];refine go tt [.f (decide_eq_false (by omega))] rfl trivial ?_;refine ozM 0 13 139 3 rfl rfl ?_;have eT:([]:List (List LV))=Qb2 ((Bw 0 W).filter (isT T G)):=rfl;rw [eT];refine lp (S:=Nat) 6 (λL1 i=>(174,.v (.one (.int .i64 (i:Int))))::L1) (λi=>[.blk 168 [.bool true,pl c.now.p,sg c.now.lo.num,mg c.now.lo.num,sg (c.now.lo.den:Int),mg (c.now.lo.den:Int),sg c.now.hi.num,mg c.now.hi.num,sg (c.now.hi.den:Int),mg (c.now.hi.den:Int),.row (P9 c.l),.int .i64 c.ev,.row (Ww l),.orow 5 3 none],.blk 40 (ta a),.row false 144 7 (W3 C4),.mpb T,.mpb G,.row false 139 3 (Qb2 ((Bw i W).filter (isT T G)))]) (λi=>W.length-i) (λi=>i<=W.length) 0 (Qi _) rfl (λ_ _=>rfl) rfl λi hi=>?_
 by_cases hlt:i<W.length
 ·obtain ⟨x,hx⟩:=gxE (l:=W) (i:=i) hlt;obtain ⟨V,hV⟩:=nmE (W.drop (i+1));have hVl:V.length=W.length-(i+1):=by rw [hV,Zd]
  have eV:(Ww W).drop (i+1)=Ww V:=by rw [hdr,<-hV]
  have hVr:=U8 V;rw [<-Qi6 W x i];refine go tt [.t (decide_eq_true (by omega)),.x (Ho hx),.r 181 (eI (b:=((i+1:Nat):Int)) (by omega)),.i (i+1),.r 182 (Qco eV)] rfl (by simp only [Wv]; (repeat' apply And.intro) <;> first | omega | exact hel) ?_;refine lp (S:=Nat) 7 (λL1 j=>(184,.v (.one (.int .i64 (j:Int))))::L1) (λj=>[.blk 168 [.bool true,pl c.now.p,sg c.now.lo.num,mg c.now.lo.num,sg (c.now.lo.den:Int),mg (c.now.lo.den:Int),sg c.now.hi.num,mg c.now.hi.num,sg (c.now.hi.den:Int),mg (c.now.hi.den:Int),.row (P9 c.l),.int .i64 c.ev,.row (Ww l),.orow 5 3 none],.blk 40 (ta a),.row false 144 7 (W3 C4),.mpb T,.mpb G,.row false 139 3 (Qb2 ((p3j W x i j).filter (isT T G))),.blk 62 (W8 x)]) (λj=>V.length-j) (λj=>j<=V.length) 0 (Qi _) rfl (λ_ _=>rfl) rfl λj hj=>?_
  by_cases hltj:j<V.length
  ·obtain ⟨y,hy⟩:=gxE (l:=V) (i:=j) hltj;have hy':(W.drop (i+1))[j]? = some y:=by rw [<-hV]; exact hy
   obtain ⟨U,hU⟩:=nmE (V.drop (j+1));have hUl:U.length=V.length-(j+1):=by rw [hU,Zd]
   have hUW:U=(W.drop (i+1)).drop (j+1):=by rw [hU,hV]
   have eU:(Ww W).drop (i+j+2)=Ww U:=by rw [hdr,hU,hV,Yf]; congr 2; omega
   have hUr:=U8 U;rw [<-Qi8 W x y i j];refine go tt [.t (decide_eq_true (by omega)),.x (Ho hy),.r 193 (eI (b:=((i+j+2:Nat):Int)) (by omega)),.i (i+j+2),.r 194 (Qco eU)] rfl (by simp only [Wv]; (repeat' apply And.intro) <;> first | omega | exact hel) ?_;refine lp (S:=Nat) 8 (λL1 k=>(196,.v (.one (.int .i64 (k:Int))))::L1) (λk=>[.blk 168 [.bool true,pl c.now.p,sg c.now.lo.num,mg c.now.lo.num,sg (c.now.lo.den:Int),mg (c.now.lo.den:Int),sg c.now.hi.num,mg c.now.hi.num,sg (c.now.hi.den:Int),mg (c.now.hi.den:Int),.row (P9 c.l),.int .i64 c.ev,.row (Ww l),.orow 5 3 none],.blk 40 (ta a),.row false 144 7 (W3 C4),.mpb T,.mpb G,.row false 139 3 (Qb2 ((p3k W x y i j k).filter (isT T G))),.blk 62 (W8 x),.blk 62 (W8 y)]) (λk=>U.length-k) (λk=>k<=U.length) 0 (Qi _) rfl (λ_ _=>rfl) rfl λk hk=>?_
   by_cases hltk:k<U.length
   ·obtain ⟨z,hz⟩:=gxE (l:=U) (i:=k) hltk;have hlen:=Qyu hW6 (k:=k) hx hy';have en:=Qi7 (x:=x) (y:=y) (by rw [<-hUW]; exact hz);have hfl:=Yo (isT T G) (p3k W x y i j k);have htl:=Qsv ((p3k W x y i j k).filter (isT T G));by_cases h1:Ia T [x.id,y.id,z.id]≠0
    ·by_cases h2:Qhm G [x.id,y.id,z.id]=true
     ·have ef:isT T G (x,y,z)=false:=by unfold isT Quo; simp [h2]
      have eF:=Q4z (ps:=p3k W x y i j k) ef;rw [<-en] at eF;refine go tt [.t (decide_eq_true (by omega)),.x (Ho hz),.g 211 true (decide_eq_true h1),.f (by rw [h2]; rfl)] rfl (by simp only [Wv]; (repeat' apply And.intro) <;> first | exact hTm | exact hGB | omega | (simp only [Q6,Xy]; omega)) ?_;exact rd (k+1) (by omega) hltk (by rw [eF]; rfl)
     ·have h2:Qhm G [x.id,y.id,z.id]=false:=by simpa using h2
      have ef:isT T G (x,y,z)=true:=by unfold isT Quo; simp [h2,h1]
      have eF:=Zgq (ps:=p3k W x y i j k) ef;rw [<-en] at eF;refine go tt [.t (decide_eq_true (by omega)),.x (Ho hz),.g 211 true (decide_eq_true h1),.t (by rw [h2]; rfl),.s (sz:=3) (s3 (x,y,z))] rfl (by simp only [Wv]; (repeat' apply And.intro) <;> first | exact hTm | exact hGB | omega | (simp only [Q6,Xy]; omega)) ?_;exact rd (k+1) (by omega) hltk (by rw [eF]; simp [Qb2]; rfl)
    ·have ef:isT T G (x,y,z)=false:=by unfold isT Quo; simp [h1]
     have eF:=Q4z (ps:=p3k W x y i j k) ef;rw [<-en] at eF;refine go tt [.t (decide_eq_true (by omega)),.x (Ho hz),.g 211 false (decide_eq_false h1),.f rfl] rfl (by simp only [Wv]; (repeat' apply And.intro) <;> first | exact hTm | exact hGB | omega | (simp only [Q6,Xy]; omega)) ?_;exact rd (k+1) (by omega) hltk (by rw [eF]; rfl)
   ·have e:=Qn4 (x:=x) (k:=k) hy' (by rw [<-hUW]; omega);rw [e];refine go tt [.f (decide_eq_false (by omega))] rfl (by simp [Wv] <;> omega) ?_;exact rd (j+1) (by omega) hltj rfl
  ·have e:=Qn3 (x:=x) (j:=j) hx (by rw [<-hV]; omega);rw [e];refine go tt [.f (decide_eq_false (by omega))] rfl (by simp [Wv] <;> omega) ?_;exact rd (i+1) (by omega) hlt rfl
 rw [Qzq (show i=W.length by omega)];rw [hC4,hC3];exact ed tt [2,5] [0] [.f (decide_eq_false (by omega))] rfl trivial
theorem Zi6 {T:Nat} {t:Rat} {Bc:Tm->List Ct} {Br:Tm->List (List LV)} {r0:List (List LV)} (ht:Qs 1640000 t) (hB:BuildOk Bc)
 (hb:∀ a c r1,Va a->CrOk c->W6 Tryz.prog 75 [.one (.ow 0 0),.agg (ta a)] [.blk T (Gl c r0 r1)] [.one (.row (W3 (Bc a)))] [.blk T (Gl c r0 (Br a))])
 {K:Nat} {c c':Cr} {r1 r1':List (List LV)} {n:Int} (hc:CrOk c) (hev:0<=c.ev/\c.ev+K<=1000000000000000000) (h:Ue c.now t<=0) (hg:goF Bc Br t K c r1 0=some (c',r1',n)) :
 W6 Tryz.prog 341 [.one (.ow 0 0),.agg (rl t),.one (.ofn 75 [.ow 0 0] [])] [.blk T (Gl c r0 r1)] [.one (.int .i64 n),.one (.int .i64 0)] [.blk T (Gl c' r0 r1')]:=by
 have qt:Qb t:=ht.mono (by decide);have c1:=Nb hc.n.tb qt;refine U4 Tryz.func341 rfl ?_;refine go tt [.c [0] (Ah hc.n),.c [] c1,.f (by simpa using h)] rfl trivial ?_;refine lp (S:=Nat×Cr×List (List LV)×Int) 2 (λL1 s=>(8,.v (.one (.int .i64 s.2.2.2)))::L1) (λs=>[.blk T (Gl s.2.1 r0 s.2.2.1),.blk 38 (rl t)]) (λs=>s.1) (λs=>CrOk s.2.1/\(0<=s.2.1.ev/\s.2.1.ev+s.1<=1000000000000000000)/\(0<=s.2.2.2/\s.2.2.2+s.1<=1000000000000000000)/\goF Bc Br t s.1 s.2.1 s.2.2.1 s.2.2.2=some (c',r1',n)) (K,c,r1,0) ⟨hc,hev,⟨Int.le_refl 0,by dsimp only; omega⟩,hg⟩ rfl (λ_ _=>rfl) rfl λ⟨k,x,r,m⟩ ⟨j1,j2,j3,j4⟩=>?_
 dsimp only at j1 j2 j3 j4 ⊢;cases k with
 | zero=>cases j4
 |
  succ k =>
  simp only [goF] at j4;obtain ⟨ws,w1,j4⟩:=Qc.1 j4;obtain ⟨o,o1,j4⟩:=Qc.1 j4;have cn:=La (T:=T) (r0:=r0) (r1:=r) j1 w1 o1;have ca:=Qaw (Wy t.num) (Wy (t.den:Int)) (Qd ht.1 (by decide)) (Qd ht.2 (by decide)) (by rw [Tf]; exact ht.mono (by decide));rw [Tf] at ca;cases o with
  |
   none =>
   injection j4 with j4; injection j4 with e1 j4; injection j4 with e2 e3;subst e1; subst e2; subst e3;exact ed tt [] [0] [.c [0] cn,.g 25 true rfl,.t rfl,.c [] ca] rfl trivial
  |
   some a =>
   have ha:=Qi4 j1 w1 o1;dsimp only at j4;have cc:=Nb ha.tb qt;by_cases h0:0<Ue a t
   ·rw [if_pos h0] at j4;injection j4 with j4; injection j4 with e1 j4; injection j4 with e2 e3;subst e1; subst e2; subst e3;exact ed tt [] [0] [.c [0] cn,.g 25 false rfl,.c [] cc,.t (by simpa using h0),.c [] ca] rfl trivial
   ·rw [if_neg h0] at j4;obtain ⟨w2,l1,j4⟩:=Qc.1 j4;have j1':=Cu j1 w1;have cl:=Rf (b:=a) (l:=[]) ha.tb (λt ht=>by cases ht) (by decide) rfl;have cb:=hb a { x with l:=ws } r ha j1';have cy:=Qch (T:=T) (r0:=r0) (r1:=Br a) j1' ha (hB.p a ha) (hB.n a ha) l1;have hf:decide (0<Ue a t)=false:=by simpa using h0
    refine go tt [.c [0] cn,.g 25 false rfl,.c [] cc,.f hf,.c [] cl,.c [0] cb,.c [0] cy] rfl (by simp [Wv]; omega) ?_;exact rd (k,⟨a,w2,x.ev+1⟩,Br a,m+1) (by dsimp only; omega) ⟨lay_ok _ j1' ha (hB.p a ha) (hB.n a ha) l1,by dsimp only; omega,by dsimp only; omega,j4⟩ rfl
theorem Zfm {t:Rat} {l:List Pt} {K:Nat} {c c':Cr} {r1 r1':List (List LV)} {n:Int} (ht:Qs 1640000 t) (hl:∀ p∈l,Sc p.c) (hn:l.length≤6) (hc:CrOk c) (hev:0≤c.ev/\c.ev+K≤1000000000000000000) (h:Ue c.now t≤0) (hg:goF (bcD l) (brD l) t K c r1 0=some (c',r1',n)) :
 W6 Tryz.prog 377 [.one (.ow 0 0),.agg (rl t)] [.blk 168 (Gl c (Ww l) r1)] [.one (.int .i64 n),.one (.int .i64 0)] [.blk 168 (Gl c' (Ww l) r1')]:=by
 have cg:=Zi6 (T:=168) (r0:=Ww l) ht (Qth hl hn) (λa c r1 ha _=>Qkj (c:=c) (r1:=r1) hl hn ha) hc hev h hg;refine U4 Tryz.func377 rfl ?_;exact ed tt [] [0] [.c [] (S8 (ht.mono (by decide))),.c [0] cg] rfl trivial
theorem Qtt {c:Cr} {r0:List (List LV)} {ts:List P3} (ht:ts.length<=1000):W6 Tryz.prog 37 [.one (.ow 0 0)] [.blk 168 (Gl c r0 (Qb2 ts))] [.one (.row (Qb2 ts))] [.blk 168 (Gl c r0 (Qb2 ts))]:=by
 have hl:=Qsv ts;have h3:∀ y∈Qb2 ts,y.length=3:=λy hy=>by obtain ⟨m,_,rfl⟩:=Ze.1 hy; rfl
 refine U4 Tryz.func37 rfl ?_;exact ed tt [1] [0] [.s (sz:=3) h3] rfl (by simp [Wv] <;> omega)

theorem Q2o {c:Cr} {l l':List Pt} {r1:List (List LV)} {ws:List Wt} (hc:CrOk c) (hl:∀ p∈l',Sc p.c) (hn:l'.length≤6) (h:Tl c.l c.now (Ui (bcD l' c.now))=some ws) :
 W6 Tryz.prog 381 [.one (.ow 0 0),.agg [pts l'],.one (.int .i64 0)] [.blk 168 (Gl c (Ww l) r1)] [.one (.int .i64 0)] [.blk 168 (Gl ⟨c.now,ws,c.ev⟩ (Ww l') (brD l' c.now))]:=by
 have hB:=Qth hl hn;have cn:=Ah (T:=168) (c:=c) (r0:=Ww l') (r1:=r1) hc.n;have cb:=Qkj (c:=c) (r1:=r1) hl hn hc.n;have cg:=Ox (T:=168) (r0:=Ww l') (r1:=brD l' c.now) hc hc.n (L8 hc.n) (Jw 0) (hB.p _ hc.n) (hB.n _ hc.n) h;refine U4 Tryz.func381 rfl ?_;exact ed tt [] [0] [.f rfl,.c [0] cn,.c [0] cb,.c [0] cg] rfl trivial
theorem Q9v {lx ly:List (List LV)} {px py:List Int} {x y:LV} {d id:Int} {c:Cr} {l:List Pt} {r1:List (List LV)} {ws:List Wt} (hx:IsInts lx px) (hy:IsInts ly py) (hd:Fc x y d) (hk:Cs 4294967294 1073741824 (Crv.mk px py d)) (hll:l.length<=900)
 (he:Qbw l ⟨Crv.norm (Crv.mk px py d),id⟩=0) (hc:CrOk c) (hl:∀ p∈put l ⟨Crv.norm (Crv.mk px py d),id⟩,Sc p.c) (hn:(put l ⟨Crv.norm (Crv.mk px py d),id⟩).length≤6) (h:Tl c.l c.now (Ui (bcD (put l ⟨Crv.norm (Crv.mk px py d),id⟩) c.now))=some ws) :
 W6 Tryz.prog 379 [.one (.ow 0 0),.agg [.row lx,.row ly,x,y,.int .i64 id]] [.blk 168 (Gl c (Ww l) r1)] [.one (.int .i64 0)] [.blk 168 (Gl ⟨c.now,ws,c.ev⟩ (Ww (put l ⟨Crv.norm (Crv.mk px py d),id⟩)) (brD (put l ⟨Crv.norm (Crv.mk px py d),id⟩) c.now))]:=by
 have cp:=Qpo (l:=l) (id:=id) hx hy hd hk (by omega);rw [if_pos he,he] at cp;have cw:=Q2o (l:=l) (r1:=r1) hc hl hn h;refine U4 Tryz.func379 rfl ?_;obtain ⟨b,l',rfl,rfl,_⟩:=hd;exact ed tt [] [0] [.c [] cp,.c [0] cw] rfl trivial

theorem Zi7 {T:Nat} {t:Rat} {Bc:Tm->List Ct} {Br:Tm->List (List LV)} {r0:List (List LV)} (ht:Qs 1640000 t) (hB:BuildOk Bc)
 (hb:∀ a c r1,Va a->CrOk c->W6 Tryz.prog 73 [.one (.ow 0 0),.agg (ta a)] [.blk T (Gl c r0 r1)] [.one (.row (W3 (Bc a)))] [.blk T (Gl c r0 (Br a))])
 {K:Nat} {c c':Cr} {r1 r1':List (List LV)} {n:Int} (hc:CrOk c) (hev:0<=c.ev/\c.ev+K<=1000000000000000000) (h:Ue c.now t<=0) (hg:goF Bc Br t K c r1 0=some (c',r1',n)) :
 W6 Tryz.prog 341 [.one (.ow 0 0),.agg (rl t),.one (.ofn 73 [.ow 0 0] [])] [.blk T (Gl c r0 r1)] [.one (.int .i64 n),.one (.int .i64 0)] [.blk T (Gl c' r0 r1')]:=by
 have qt:Qb t:=ht.mono (by decide);have c1:=Nb hc.n.tb qt;refine U4 Tryz.func341 rfl ?_;refine go tt [.c [0] (Ah hc.n),.c [] c1,.f (by simpa using h)] rfl trivial ?_;refine lp (S:=Nat×Cr×List (List LV)×Int) 2 (λL1 s=>(8,.v (.one (.int .i64 s.2.2.2)))::L1) (λs=>[.blk T (Gl s.2.1 r0 s.2.2.1),.blk 38 (rl t)]) (λs=>s.1) (λs=>CrOk s.2.1/\(0<=s.2.1.ev/\s.2.1.ev+s.1<=1000000000000000000)/\(0<=s.2.2.2/\s.2.2.2+s.1<=1000000000000000000)/\goF Bc Br t s.1 s.2.1 s.2.2.1 s.2.2.2=some (c',r1',n)) (K,c,r1,0) ⟨hc,hev,⟨Int.le_refl 0,by dsimp only; omega⟩,hg⟩ rfl (λ_ _=>rfl) rfl λ⟨k,x,r,m⟩ ⟨j1,j2,j3,j4⟩=>?_
 dsimp only at j1 j2 j3 j4 ⊢;cases k with
 | zero=>cases j4
 |
  succ k =>
  simp only [goF] at j4;obtain ⟨ws,w1,j4⟩:=Qc.1 j4;obtain ⟨o,o1,j4⟩:=Qc.1 j4;have cn:=La (T:=T) (r0:=r0) (r1:=r) j1 w1 o1;have ca:=Qaw (Wy t.num) (Wy (t.den:Int)) (Qd ht.1 (by decide)) (Qd ht.2 (by decide)) (by rw [Tf]; exact ht.mono (by decide));rw [Tf] at ca;cases o with
  |
   none =>
   injection j4 with j4; injection j4 with e1 j4; injection j4 with e2 e3;subst e1; subst e2; subst e3;exact ed tt [] [0] [.c [0] cn,.g 25 true rfl,.t rfl,.c [] ca] rfl trivial
  |
   some a =>
   have ha:=Qi4 j1 w1 o1;dsimp only at j4;have cc:=Nb ha.tb qt;by_cases h0:0<Ue a t
   ·rw [if_pos h0] at j4;injection j4 with j4; injection j4 with e1 j4; injection j4 with e2 e3;subst e1; subst e2; subst e3;exact ed tt [] [0] [.c [0] cn,.g 25 false rfl,.c [] cc,.t (by simpa using h0),.c [] ca] rfl trivial
   ·rw [if_neg h0] at j4;obtain ⟨w2,l1,j4⟩:=Qc.1 j4;have j1':=Cu j1 w1;have cl:=Rf (b:=a) (l:=[]) ha.tb (λt ht=>by cases ht) (by decide) rfl;have cb:=hb a { x with l:=ws } r ha j1';have cy:=Qch (T:=T) (r0:=r0) (r1:=Br a) j1' ha (hB.p a ha) (hB.n a ha) l1;have hf:decide (0<Ue a t)=false:=by simpa using h0
    refine go tt [.c [0] cn,.g 25 false rfl,.c [] cc,.f hf,.c [] cl,.c [0] cb,.c [0] cy] rfl (by simp [Wv]; omega) ?_;exact rd (k,⟨a,w2,x.ev+1⟩,Br a,m+1) (by dsimp only; omega) ⟨lay_ok _ j1' ha (hB.p a ha) (hB.n a ha) l1,by dsimp only; omega,by dsimp only; omega,j4⟩ rfl
def Zi2 (l:List Pt) (a:Tm):Cr:=⟨a,(Ui (bcH l a)).map fresh,0⟩
theorem Zfo {t:Rat} {l:List Pt} {K:Nat} {c c':Cr} {r1 r1':List (List LV)} {n:Int} (ht:Qs 1640000 t) (hl:∀ p∈l,Sc p.c) (hn:l.length≤10) (hc:CrOk c) (hev:0≤c.ev/\c.ev+K≤1000000000000000000) (h:Ue c.now t≤0) (hg:goF (bcH l) (brH l) t K c r1 0=some (c',r1',n)) :
 W6 Tryz.prog 367 [.one (.ow 0 0),.agg (rl t)] [.blk 164 (Gl c (Ww l) r1)] [.one (.int .i64 n),.one (.int .i64 0)] [.blk 164 (Gl c' (Ww l) r1')]:=by
 have cg:=Zi7 (T:=164) (r0:=Ww l) ht (Qti hl hn) (λa c r1 ha _=>Qkk (c:=c) (r1:=r1) hl hn ha) hc hev h hg;refine U4 Tryz.func367 rfl ?_;exact ed tt [] [0] [.c [] (S8 (ht.mono (by decide))),.c [0] cg] rfl trivial
theorem Zfp {c:Cr} {l s:List Pt} (hs:s.length<=1000000):W6 Tryz.prog 36 [.one (.ow 0 0)] [.blk 164 (Gl c (Ww l) (Ww s))] [.one (ids (s.map (·.id)))] [.blk 164 (Gl c (Ww l) (Ww s))]:=by
 have hcl:=U8 s;refine U4 Tryz.func36 rfl ?_;refine go tt [.o 3 3 1] rfl trivial ?_;refine lp (S:=Nat) 2 (λL1 i=>(11,.v (.one (.int .i64 (i:Int))))::(3,.v (.one (.orow 1 1 none)))::L1) (λi=>[.blk 164 (Gl c (Ww l) (Ww s)),.row false 3 1 (((s.take i).map (·.id)).map λ(z:Int)=>[LV.int .i64 z])]) (λi=>s.length-i) (λi=>i<=s.length) 0 (Qi _) rfl (λ_ _=>rfl) rfl λi hi=>?_
 by_cases hlt:i<s.length
 ·obtain ⟨p,hp⟩:=gxE (l:=s) (i:=i) hlt;have hg:(((s.take (i+1)).map (·.id)).map λ(z:Int)=>[LV.int .i64 z])=(((s.take i).map (·.id)).map λ(z:Int)=>[LV.int .i64 z])++[[.int .i64 p.id]]:=by
   rw [Z0,hp]; simp
  refine go tt [.t (by simp [hcl]; omega),.x (H8 hp),.s (sz:=1) (l:=[[.int .i64 p.id]]) (λc hc=>by rw [Qk.1 hc]; rfl)] rfl (by simp [Wv]; omega) ?_;exact rd (i+1) (by omega) hlt (by rw [hg]; rfl)
 ·obtain rfl:i=s.length:=by omega
  rw [Q4];exact ed tt [1] [0] [.f (by simp [hcl])] rfl trivial
abbrev enC (k:Nat) (np nd:Int) (M:List Pt) (q:Rat) (s t h p d:Cr):List OB:=[.blk 51 (enR k q),tB np nd M,bS s M q,bT t M q,bH h M q,bP p M q,bD d M q]
abbrev Zls (k:Nat):List LV:=[.oif 45 (k+2) 0,.oif 46 (k+3) 0,.oif 47 (k+4) 0,.oif 48 (k+5) 0,.oif 49 (k+6) 0]
theorem Qpq {np nd:Int} {Mt M:List Pt} {q:Rat} {s t h p d:Cr}:W6 Tryz.prog 40 [.one (.ow 0 0)] [.blk 51 (enR 0 q),tB np nd Mt,bS s M q,bT t M q,bH h M q,bP p M q,bD d M q] [.agg (Zls 0)] [.blk 51 (enR 0 q),tB np nd Mt,bS s M q,bT t M q,bH h M q,bP p M q,bD d M q]:=by
 refine U4 Tryz.func40 rfl ?_;exact ed tt [] [0,1,2,3,4,5,6] [] rfl trivial
abbrev sel (k i:Nat) (a b:OB):OB:=match Nat.blt k i with
 | true=>b
 | false=>a
theorem Q2v {np nd id:Int} {M M':List Pt} {q:Rat} {s t h p d s' t' h' p' d':Cr} {lx ly l3:List (List LV)} {bn:Bool} {e1 e2 e3 e4 e5:Int}
 (ht:W6 Tryz.prog 76 [.one (.ow 0 0),.agg [.row lx,.row ly,.bool bn,.row l3,.int .i64 id]] [tB np nd M] [.one (.int .i64 0)] [tB np nd M'])
 (h1:W6 Tryz.prog 338 [.one (.ow 0 0),.agg [.row lx,.row ly,.bool bn,.row l3,.int .i64 id]] [bS s M q] [.one (.int .i64 e1)] [bS s' M' q])
 (h2:W6 Tryz.prog 364 [.one (.ow 0 0),.agg [.row lx,.row ly,.bool bn,.row l3,.int .i64 id]] [bT t M q] [.one (.int .i64 e2)] [bT t' M' q])
 (h3:W6 Tryz.prog 369 [.one (.ow 0 0),.agg [.row lx,.row ly,.bool bn,.row l3,.int .i64 id]] [bH h M q] [.one (.int .i64 e3)] [bH h' M' q])
 (h4:W6 Tryz.prog 374 [.one (.ow 0 0),.agg [.row lx,.row ly,.bool bn,.row l3,.int .i64 id]] [bP p M q] [.one (.int .i64 e4)] [bP p' M' q])
 (h5:W6 Tryz.prog 379 [.one (.ow 0 0),.agg [.row lx,.row ly,.bool bn,.row l3,.int .i64 id]] [bD d M q] [.one (.int .i64 e5)] [bD d' M' q]) :
 W6 Tryz.prog 28 [.one (.ow 0 0),.one (.int .i64 id),.agg [.row lx,.row ly,.bool bn,.row l3]] (enC 0 np nd M q s t h p d) [.one (.int .i64 0)] (enC 0 np nd M' q s' t' h' p' d'):=by
 refine U4 Tryz.func28 rfl ?_;refine go tt [.c [1] ht,.f rfl,.c [0,1,2,3,4,5,6] Qpq] rfl trivial ?_;refine lp (S:=Nat) 9 (λL1 i=>(25,.v (.one (.int .i64 (i:Int))))::L1) (λi=>[.blk 51 (enR 0 q),tB np nd M',sel 0 i (bS s M q) (bS s' M' q),sel 1 i (bT t M q) (bT t' M' q),sel 2 i (bH h M q) (bH h' M' q),sel 3 i (bP p M q) (bP p' M' q),sel 4 i (bD d M q) (bD d' M' q),.blk 60 [.row lx,.row ly,.bool bn,.row l3],.blk 62 [.row lx,.row ly,.bool bn,.row l3,.int .i64 id]]) (λi=>5-i) (λi=>i<=5) 0 (by decide) rfl (λ_ _=>rfl) rfl λi hi=>?_
 rcases (show i=0\/i=1\/i=2\/i=3\/i=4\/i=5 by omega) with rfl | rfl | rfl | rfl | rfl | rfl
 ·exact go tt [.t rfl,.i 0,.c [2] h1] rfl (by simp [Wv]) (rd 1 (by omega) (by omega) rfl)
 ·exact go tt [.t rfl,.i 1,.c [3] h2] rfl (by simp [Wv]) (rd 2 (by omega) (by omega) rfl)
 ·exact go tt [.t rfl,.i 2,.c [4] h3] rfl (by simp [Wv]) (rd 3 (by omega) (by omega) rfl)
 ·exact go tt [.t rfl,.i 3,.c [5] h4] rfl (by simp [Wv]) (rd 4 (by omega) (by omega) rfl)
 ·exact go tt [.t rfl,.i 4,.c [6] h5] rfl (by simp [Wv]) (rd 5 (by omega) (by omega) rfl)
 ·exact ed tt [] [0,1,2,3,4,5,6] [.f rfl] rfl trivial
theorem Qz8 {np nd id:Int} {M:List Pt} {q:Rat} {s t h p d:Cr} {lx ly l3:List (List LV)} {bn:Bool} {e:Int} (he:e≠0)
 (ht:W6 Tryz.prog 76 [.one (.ow 0 0),.agg [.row lx,.row ly,.bool bn,.row l3,.int .i64 id]] [tB np nd M] [.one (.int .i64 e)] [tB np nd M]) :
 W6 Tryz.prog 28 [.one (.ow 0 0),.one (.int .i64 id),.agg [.row lx,.row ly,.bool bn,.row l3]] (enC 0 np nd M q s t h p d) [.one (.int .i64 e)] (enC 0 np nd M q s t h p d):=by
 refine U4 Tryz.func28 rfl ?_;exact ed tt [] [0,1,2,3,4,5,6] [.c [1] ht,.t (by simpa using he)] rfl trivial
theorem Qz4 {np nd:Int} {M:List Pt} {q r:Rat} {s t h p d s' t' h' p' d':Cr} {x0 x1 x2 x3:LV} {a b n1 n2 n3 n4 n5:Int} (ha:Fc x0 x1 a) (hb:Fc x2 x3 b) (sa:Ug a<=4294967295) (sb:Ug b<=4294967295) (hr:Rj a b=r) (hs:Qs 128 r) (hq:Qs 128 q) (hqr:q<=r)
 (h1:W6 Tryz.prog 333 [.one (.ow 0 0),.agg (rl r)] [bS s M q] [.one (.int .i64 n1),.one (.int .i64 0)] [bS s' M r])
 (h2:W6 Tryz.prog 362 [.one (.ow 0 0),.agg (rl r)] [bT t M q] [.one (.int .i64 n2),.one (.int .i64 0)] [bT t' M r])
 (h3:W6 Tryz.prog 367 [.one (.ow 0 0),.agg (rl r)] [bH h M q] [.one (.int .i64 n3),.one (.int .i64 0)] [bH h' M r])
 (h4:W6 Tryz.prog 372 [.one (.ow 0 0),.agg (rl r)] [bP p M q] [.one (.int .i64 n4),.one (.int .i64 0)] [bP p' M r])
 (h5:W6 Tryz.prog 377 [.one (.ow 0 0),.agg (rl r)] [bD d M q] [.one (.int .i64 n5),.one (.int .i64 0)] [bD d' M r]) :
 W6 Tryz.prog 31 [.one (.ow 0 0),.agg [x0,x1,x2,x3]] (enC 0 np nd M q s t h p d) [.one (.int .i64 0)] (enC 0 np nd M r s' t' h' p' d'):=by
 have cm:=Qhw ha hb sa sb;rw [hr] at cm;obtain ⟨b1,r1,rfl,rfl,_⟩:=ha;obtain ⟨b2,r2,rfl,rfl,_⟩:=hb;have cc:=Nf (a:=r) (b:=q) (hs.mono (by decide)) (hq.mono (by decide));have l1:=Qeu.2 hs.1;have l2:(Uo r.den).length<=4:=by simpa using Qeu.2 hs.2
 have hc:¬Fp r q<0:=λh=>absurd (S9.1 h) (Rat.not_lt.2 hqr)
 refine U4 Tryz.func31 rfl ?_;refine go tt [.c [] cm,.f (by simp [lml]; omega),.f (by simp [lml]; omega),.c [] cc,.f (by simpa using hc),.c [0,1,2,3,4,5,6] Qpq] rfl trivial ?_;refine lp (S:=Nat) 8 (λL1 i=>(32,.v (.one (.int .i64 (i:Int))))::L1) (λi=>[.blk 51 (enR 0 q),tB np nd M,sel 0 i (bS s M q) (bS s' M r),sel 1 i (bT t M q) (bT t' M r),sel 2 i (bH h M q) (bH h' M r),sel 3 i (bP p M q) (bP p' M r),sel 4 i (bD d M q) (bD d' M r),.blk 38 (rl r)]) (λi=>5-i) (λi=>i<=5) 0 (by decide) rfl (λ_ _=>rfl) rfl λi hi=>?_
 rcases (show i=0\/i=1\/i=2\/i=3\/i=4\/i=5 by omega) with rfl | rfl | rfl | rfl | rfl | rfl
 ·exact go tt [.t rfl,.i 0,.c [2] h1] rfl (by simp [Wv]) (rd 1 (by omega) (by omega) rfl)
 ·exact go tt [.t rfl,.i 1,.c [3] h2] rfl (by simp [Wv]) (rd 2 (by omega) (by omega) rfl)
 ·exact go tt [.t rfl,.i 2,.c [4] h3] rfl (by simp [Wv]) (rd 3 (by omega) (by omega) rfl)
 ·exact go tt [.t rfl,.i 3,.c [5] h4] rfl (by simp [Wv]) (rd 4 (by omega) (by omega) rfl)
 ·exact go tt [.t rfl,.i 4,.c [6] h5] rfl (by simp [Wv]) (rd 5 (by omega) (by omega) rfl)
 ·exact ed tt [] [0,1,2,3,4,5,6] [.f rfl] rfl trivial
theorem Qmp {np nd:Int} {M:List Pt} {q r:Rat} {s t h p d:Cr} {x0 x1 x2 x3:LV} {a b:Int} (ha:Fc x0 x1 a) (hb:Fc x2 x3 b) (sa:Ug a<=4294967295) (sb:Ug b<=4294967295) (hr:Rj a b=r) (hs:¬Qs 128 r) :
 W6 Tryz.prog 31 [.one (.ow 0 0),.agg [x0,x1,x2,x3]] (enC 0 np nd M q s t h p d) [.one (.int .i64 1)] (enC 0 np nd M q s t h p d):=by
 have cm:=Qhw ha hb sa sb;rw [hr] at cm;obtain ⟨b1,r1,rfl,rfl,_⟩:=ha;obtain ⟨b2,r2,rfl,rfl,_⟩:=hb;refine U4 Tryz.func31 rfl ?_;by_cases h1:Ug r.num<=128
 ·have h2:¬Ug (r.den:Int)<=128:=λh=>hs ⟨h1,h⟩
  have l1:=Qeu.2 h1;have l2:=mt Qeu.1 h2;exact ed tt [] [0,1,2,3,4,5,6] [.c [] cm,.f (by simp [lml]; omega),.t (by simp [lml] at l2 ⊢; omega)] rfl trivial
 ·have l1:=mt Qeu.1 h1;exact ed tt [] [0,1,2,3,4,5,6] [.c [] cm,.t (by simp [lml]; omega),.t rfl] rfl trivial
theorem Qj5 {np nd:Int} {M:List Pt} {q r:Rat} {s t h p d:Cr} {x0 x1 x2 x3:LV} {a b:Int} (ha:Fc x0 x1 a) (hb:Fc x2 x3 b) (sa:Ug a<=4294967295) (sb:Ug b<=4294967295) (hr:Rj a b=r) (hs:Qs 128 r) (hq:Qs 128 q) (hqr:r<q) :
 W6 Tryz.prog 31 [.one (.ow 0 0),.agg [x0,x1,x2,x3]] (enC 0 np nd M q s t h p d) [.one (.int .i64 8)] (enC 0 np nd M q s t h p d):=by
 have cm:=Qhw ha hb sa sb;rw [hr] at cm;obtain ⟨b1,r1,rfl,rfl,_⟩:=ha;obtain ⟨b2,r2,rfl,rfl,_⟩:=hb;have cc:=Nf (a:=r) (b:=q) (hs.mono (by decide)) (hq.mono (by decide));have l1:=Qeu.2 hs.1;have l2:(Uo r.den).length<=4:=by simpa using Qeu.2 hs.2
 have hc:Fp r q<0:=S9.2 hqr;refine U4 Tryz.func31 rfl ?_;exact ed tt [] [0,1,2,3,4,5,6] [.c [] cm,.f (by simp [lml]; omega),.f (by simp [lml]; omega),.c [] cc,.t (by simpa using hc)] rfl trivial
theorem Q2t {c:Cr} {l l':List Pt} {r1:List (List LV)} {ws:List Wt} (hc:CrOk c) (hl:∀ p∈l',Sc p.c) (hn:l'.length≤10) (h:Tl c.l c.now (Ui (bcH l' c.now))=some ws) :
 W6 Tryz.prog 371 [.one (.ow 0 0),.agg [pts l'],.one (.int .i64 0)] [.blk 164 (Gl c (Ww l) r1)] [.one (.int .i64 0)] [.blk 164 (Gl ⟨c.now,ws,c.ev⟩ (Ww l') (brH l' c.now))]:=by
 have hB:=Qti hl hn;have cn:=Ah (T:=164) (c:=c) (r0:=Ww l') (r1:=r1) hc.n;have cb:=Qkk (c:=c) (r1:=r1) hl hn hc.n;have cg:=Ox (T:=164) (r0:=Ww l') (r1:=brH l' c.now) hc hc.n (L8 hc.n) (Jw 0) (hB.p _ hc.n) (hB.n _ hc.n) h;refine U4 Tryz.func371 rfl ?_;exact ed tt [] [0] [.f rfl,.c [0] cn,.c [0] cb,.c [0] cg] rfl trivial
theorem Q9y {lx ly:List (List LV)} {px py:List Int} {x y:LV} {d id:Int} {c:Cr} {l:List Pt} {r1:List (List LV)} {ws:List Wt} (hx:IsInts lx px) (hy:IsInts ly py) (hd:Fc x y d) (hk:Cs 4294967294 1073741824 (Crv.mk px py d)) (hll:l.length<=900)
 (he:Qbw l ⟨Crv.norm (Crv.mk px py d),id⟩=0) (hc:CrOk c) (hl:∀ p∈put l ⟨Crv.norm (Crv.mk px py d),id⟩,Sc p.c) (hn:(put l ⟨Crv.norm (Crv.mk px py d),id⟩).length≤10) (h:Tl c.l c.now (Ui (bcH (put l ⟨Crv.norm (Crv.mk px py d),id⟩) c.now))=some ws) :
 W6 Tryz.prog 369 [.one (.ow 0 0),.agg [.row lx,.row ly,x,y,.int .i64 id]] [.blk 164 (Gl c (Ww l) r1)] [.one (.int .i64 0)] [.blk 164 (Gl ⟨c.now,ws,c.ev⟩ (Ww (put l ⟨Crv.norm (Crv.mk px py d),id⟩)) (brH (put l ⟨Crv.norm (Crv.mk px py d),id⟩) c.now))]:=by
 have cp:=Qpo (l:=l) (id:=id) hx hy hd hk (by omega);rw [if_pos he,he] at cp;have cw:=Q2t (l:=l) (r1:=r1) hc hl hn h;refine U4 Tryz.func369 rfl ?_;obtain ⟨b,l',rfl,rfl,_⟩:=hd;exact ed tt [] [0] [.c [] cp,.c [0] cw] rfl trivial
theorem Q21 {c:Cr} {l l':List Pt} {r1:List (List LV)} {ws:List Wt} (hc:CrOk c) (hl:∀ p∈l',Sc p.c) (hn:l'.length≤10) (h:Tl c.l c.now (Ui (bcP l' c.now))=some ws) :
 W6 Tryz.prog 376 [.one (.ow 0 0),.agg [pts l'],.one (.int .i64 0)] [.blk 166 (Gl c (Ww l) r1)] [.one (.int .i64 0)] [.blk 166 (Gl ⟨c.now,ws,c.ev⟩ (Ww l') (brP l' c.now))]:=by
 have hB:=Q2g hl hn;have cn:=Ah (T:=166) (c:=c) (r0:=Ww l') (r1:=r1) hc.n;have cb:=Qkl (c:=c) (r1:=r1) hl hn hc.n;have cg:=Ox (T:=166) (r0:=Ww l') (r1:=brP l' c.now) hc hc.n (L8 hc.n) (Jw 0) (hB.p _ hc.n) (hB.n _ hc.n) h;refine U4 Tryz.func376 rfl ?_;exact ed tt [] [0] [.f rfl,.c [0] cn,.c [0] cb,.c [0] cg] rfl trivial
theorem Q95 {lx ly:List (List LV)} {px py:List Int} {x y:LV} {d id:Int} {c:Cr} {l:List Pt} {r1:List (List LV)} {ws:List Wt} (hx:IsInts lx px) (hy:IsInts ly py) (hd:Fc x y d) (hk:Cs 4294967294 1073741824 (Crv.mk px py d)) (hll:l.length<=900)
 (he:Qbw l ⟨Crv.norm (Crv.mk px py d),id⟩=0) (hc:CrOk c) (hl:∀ p∈put l ⟨Crv.norm (Crv.mk px py d),id⟩,Sc p.c) (hn:(put l ⟨Crv.norm (Crv.mk px py d),id⟩).length≤10) (h:Tl c.l c.now (Ui (bcP (put l ⟨Crv.norm (Crv.mk px py d),id⟩) c.now))=some ws) :
 W6 Tryz.prog 374 [.one (.ow 0 0),.agg [.row lx,.row ly,x,y,.int .i64 id]] [.blk 166 (Gl c (Ww l) r1)] [.one (.int .i64 0)] [.blk 166 (Gl ⟨c.now,ws,c.ev⟩ (Ww (put l ⟨Crv.norm (Crv.mk px py d),id⟩)) (brP (put l ⟨Crv.norm (Crv.mk px py d),id⟩) c.now))]:=by
 have cp:=Qpo (l:=l) (id:=id) hx hy hd hk (by omega);rw [if_pos he,he] at cp;have cw:=Q21 (l:=l) (r1:=r1) hc hl hn h;refine U4 Tryz.func374 rfl ?_;obtain ⟨b,l',rfl,rfl,_⟩:=hd;exact ed tt [] [0] [.c [] cp,.c [0] cw] rfl trivial
theorem Q9t {np nd:Int} {M:List Pt} {q:Rat} {s t h p d:Cr} (hq:Qs 128 q):W6 Tryz.prog 10 [.one (.ow 0 0)] (enC 0 np nd M q s t h p d) [.agg (rl q)] (enC 0 np nd M q s t h p d):=by
 refine U4 Tryz.func10 rfl ?_;exact ed tt [] [0,1,2,3,4,5,6] [.c [] (S8 (hq.mono (by decide)))] rfl trivial
abbrev anw (S W H P:List Pt) (T:List P3):List LV:=[ids (S.map (·.id)),ids (W.map (·.id)),ids (H.map (·.id)),ids (P.map (·.id)),.row (Qb2 T)]
theorem Zad {np nd:Int} {M S W H P:List Pt} {T:List P3} {r2:List (List LV)} {q:Rat} {s t h p d:Cr} (hS:S.length<=1000000) (hH:H.length<=1000000) (hT:T.length<=1000) (hW:W=[]\/∃ w,W=[w]) (hP:P=[]\/∃ a b,P=[a,b]) :
 W6 Tryz.prog 7 [.one (.ow 0 0)] [.blk 51 (enR 0 q),tB np nd M,.blk 156 (Gl s (Ww M) (Ww S)),.blk 162 (Ht t (Ww M) (W.map W8,r2)),.blk 164 (Gl h (Ww M) (Ww H)),.blk 166 (Gl p (Ww M) (Ww P)),.blk 168 (Gl d (Ww M) (Qb2 T))]
  [.agg (anw S W H P T)] [.blk 51 (enR 0 q),tB np nd M,.blk 156 (Gl s (Ww M) (Ww S)),.blk 162 (Ht t (Ww M) (W.map W8,r2)),.blk 164 (Gl h (Ww M) (Ww H)),.blk 166 (Gl p (Ww M) (Ww P)),.blk 168 (Gl d (Ww M) (Qb2 T))]:=by
 have c1:=Zfx (c:=s) (l:=M) hS;have c2:=Zfp (c:=h) (l:=M) hH;have c3:=Qtt (c:=d) (r0:=Ww M) hT;rcases hW with rfl | ⟨w,rfl⟩
 ·have c4:=Q3c (c:=t) (r0:=Ww M) (r2:=r2);rcases hP with rfl | ⟨a,b,rfl⟩
  ·have c5:=Qpn (c:=p) (r0:=Ww M);refine U4 Tryz.func7 rfl ?_;exact ed tt [] [0,1,2,3,4,5,6] [.c [2] c1,.c [4] c2,.c [6] c3,.c [3] c4,.f rfl,.c [5] c5,.f rfl] rfl trivial
  ·have c5:=Qws (c:=p) (r0:=Ww M) (a:=a) (b:=b);refine U4 Tryz.func7 rfl ?_;exact ed tt [] [0,1,2,3,4,5,6] [.c [2] c1,.c [4] c2,.c [6] c3,.c [3] c4,.f rfl,.c [5] c5,.t rfl] rfl trivial
 ·have c4:=Zag (c:=t) (r0:=Ww M) (r2:=r2) (w:=w);rcases hP with rfl | ⟨a,b,rfl⟩
  ·have c5:=Qpn (c:=p) (r0:=Ww M);refine U4 Tryz.func7 rfl ?_;exact ed tt [] [0,1,2,3,4,5,6] [.c [2] c1,.c [4] c2,.c [6] c3,.c [3] c4,.t rfl,.c [5] c5,.f rfl] rfl trivial
  ·have c5:=Qws (c:=p) (r0:=Ww M) (a:=a) (b:=b);refine U4 Tryz.func7 rfl ?_;exact ed tt [] [0,1,2,3,4,5,6] [.c [2] c1,.c [4] c2,.c [6] c3,.c [3] c4,.t rfl,.c [5] c5,.t rfl] rfl trivial
abbrev Q2c (M:List Pt) (q:Rat):List LV:=anw (Hy (tq q) M) (P8 (Uj (tq q)) M).1 (Ro M (tq q)) (I8 (Uj (tq q)) M) (Qq7 (Uj (tq q)) M)
theorem Zde (sg:List Int->Int) (M:List Pt):(P8 sg M).1=[]\/∃ w,(P8 sg M).1=[w]:=by
 by_cases h:0<M.length
 ·obtain ⟨a,ha,_⟩:=Sx sg M.length M (Qm _) h;exact .inr ⟨a,ha⟩
 ·obtain rfl:=Qh (by omega:M.length=0);exact .inl rfl
theorem Q6f (sg:List Int->Int) (M:List Pt):I8 sg M=[]\/∃ a b,I8 sg M=[a,b]:=by
 match M with
 | []=>exact .inl rfl
 | [_]=>exact .inl rfl
 | _::_::_=>exact .inr ⟨_,_,rfl⟩
theorem Qtw {np nd:Int} {M:List Pt} {q:Rat} {s t h p d:Cr} (hM:M.length<=6):W6 Tryz.prog 7 [.one (.ow 0 0)] (enC 0 np nd M q s t h p d) [.agg (Q2c M q)] (enC 0 np nd M q s t h p d) :=
 Zad (by rw [Mq]; omega) (by have:=Qed M (tq q); omega) (by have:=Q05 (Uj (tq q)) hM; omega) (Zde _ _) (Q6f _ _)
abbrev Zlt:List LV:=[.row [],.row [],.row [],.row [],.row []]
abbrev Q7p (k i:Nat) (e:Int):LV:=match Nat.blt k i with
 | true=>.int .i64 e
 | false=>.int .i64 0
theorem Qpj {np nd:Int} {M:List Pt} {q:Rat} {s t h p d:Cr}:W6 Tryz.prog 12 [.one (.ow 0 0)] (enC 0 np nd M q s t h p d) [.agg [.int .i64 s.ev,.int .i64 t.ev,.int .i64 h.ev,.int .i64 p.ev,.int .i64 d.ev]] (enC 0 np nd M q s t h p d):=by
 refine U4 Tryz.func12 rfl ?_;refine go tt [.c [0,1,2,3,4,5,6] Qpq] rfl trivial ?_;refine lp (S:=Nat) 9 (λL1 i=>(8,.v (.one (.int .i64 (i:Int))))::L1) (λi=>[.blk 51 (enR 0 q),tB np nd M,bS s M q,bT t M q,bH h M q,bP p M q,bD d M q,.blk 53 [.int .i64 0,.int .i64 0,.int .i64 0,.int .i64 0,.int .i64 0],.blk 53 [Q7p 0 i s.ev,Q7p 1 i t.ev,Q7p 2 i h.ev,Q7p 3 i p.ev,Q7p 4 i d.ev]]) (λi=>5-i) (λi=>i<=5) 0 (by decide) rfl (λ_ _=>rfl) rfl λi hi=>?_
 rcases (show i=0\/i=1\/i=2\/i=3\/i=4\/i=5 by omega) with rfl | rfl | rfl | rfl | rfl | rfl
 ·exact go tt [.t rfl,.i 0,.c [2] Oy,.i 0] rfl (by simp [Wv]) (rd 1 (by omega) (by omega) rfl)
 ·exact go tt [.t rfl,.i 1,.c [3] Q0c,.i 1] rfl (by simp [Wv]) (rd 2 (by omega) (by omega) rfl)
 ·exact go tt [.t rfl,.i 2,.c [4] Oy,.i 2] rfl (by simp [Wv]) (rd 3 (by omega) (by omega) rfl)
 ·exact go tt [.t rfl,.i 3,.c [5] Oy,.i 3] rfl (by simp [Wv]) (rd 4 (by omega) (by omega) rfl)
 ·exact go tt [.t rfl,.i 4,.c [6] Oy,.i 4] rfl (by simp [Wv]) (rd 5 (by omega) (by omega) rfl)
 ·exact ed tt [] [0,1,2,3,4,5,6] [.f rfl] rfl trivial
abbrev Lp (l:List Wt):List Ct:=Ui (l.map (·.c))
def Qfp (s t h p d:Cr):Nat->List (List LV)
 | 0=>[]
 | 1=>[]++W3 (Lp s.l)
 | 2=>[]++W3 (Lp s.l)++W3 (Lp t.l)
 | 3=>[]++W3 (Lp s.l)++W3 (Lp t.l)++W3 (Lp h.l)
 | 4=>[]++W3 (Lp s.l)++W3 (Lp t.l)++W3 (Lp h.l)++W3 (Lp p.l)
 | _=>[]++W3 (Lp s.l)++W3 (Lp t.l)++W3 (Lp h.l)++W3 (Lp p.l)++W3 (Lp d.l)
theorem Q9s {np nd:Int} {M:List Pt} {q:Rat} {s t h p d:Cr} (hs:CrOk s) (ht:CrOk t) (hh:CrOk h) (hp:CrOk p) (hd:CrOk d):W6 Tryz.prog 14 [.one (.ow 0 0)] (enC 0 np nd M q s t h p d) [.one (.row (W3 (Lp s.l++Lp t.l++Lp h.l++Lp p.l++Lp d.l)))] (enC 0 np nd M q s t h p d):=by
 have e:W3 (Lp s.l++Lp t.l++Lp h.l++Lp p.l++Lp d.l)=Qfp s t h p d 5:=by simp [W3,Qfp]
 rw [e];have ln:∀ {c:Cr},CrOk c->(W3 (Lp c.l)).length<=1000:=λ{c} hc=>by rw [Ry,Pz,Zm]; exact hc.k
 have l1:=ln hs;have l2:=ln ht;have l3:=ln hh;have l4:=ln hp;have l5:=ln hd;have k1:(W3 (Ui (s.l.map (·.c)))).length<=1000:=ln hs;have k2:(W3 (Ui (t.l.map (·.c)))).length<=1000:=ln ht;have k3:(W3 (Ui (h.l.map (·.c)))).length<=1000:=ln hh;have k4:(W3 (Ui (p.l.map (·.c)))).length<=1000:=ln hp;have k5:(W3 (Ui (d.l.map (·.c)))).length<=1000:=ln hd;have m1:(Qfp s t h p d 1).length<=1000:=by show ([]++W3 (Lp s.l)).length<=_; simp only [Qw,Xy]; omega
 have m2:(Qfp s t h p d 2).length<=2000:=by show ([]++W3 (Lp s.l)++W3 (Lp t.l)).length<=_; simp only [Qw,Xy]; omega
 have m3:(Qfp s t h p d 3).length<=3000:=by show ([]++W3 (Lp s.l)++W3 (Lp t.l)++W3 (Lp h.l)).length<=_; simp only [Qw,Xy]; omega
 have m4:(Qfp s t h p d 4).length<=4000:=by show ([]++W3 (Lp s.l)++W3 (Lp t.l)++W3 (Lp h.l)++W3 (Lp p.l)).length<=_; simp only [Qw,Xy]; omega
 have m0:(Qfp s t h p d 0).length=0:=rfl;refine U4 Tryz.func14 rfl ?_;refine go tt [.o 3 144 7,.c [0,1,2,3,4,5,6] Qpq] rfl trivial ?_;refine lp (S:=Nat) 8 (λL1 i=>(8,.v (.one (.int .i64 (i:Int))))::(3,.v (.one (.orow 7 7 none)))::L1) (λi=>[.blk 51 (enR 0 q),tB np nd M,bS s M q,bT t M q,bH h M q,bP p M q,bD d M q,.row false 144 7 (Qfp s t h p d i)]) (λi=>5-i) (λi=>i<=5) 0 (by decide) rfl (λ_ _=>rfl) rfl λi hi=>?_
 rcases (show i=0\/i=1\/i=2\/i=3\/i=4\/i=5 by omega) with rfl | rfl | rfl | rfl | rfl | rfl
 ·exact go tt [.t rfl,.i 0,.c [2] (Qcg hs),.s (Ea _)] rfl (by simp only [Wv]; omega) (rd 1 (by omega) (by omega) rfl)
 ·exact go tt [.t rfl,.i 1,.c [3] (Q3a ht),.s (Ea _)] rfl (by simp only [Wv]; omega) (rd 2 (by omega) (by omega) rfl)
 ·exact go tt [.t rfl,.i 2,.c [4] (Qcg hh),.s (Ea _)] rfl (by simp only [Wv]; omega) (rd 3 (by omega) (by omega) rfl)
 ·exact go tt [.t rfl,.i 3,.c [5] (Qcg hp),.s (Ea _)] rfl (by simp only [Wv]; omega) (rd 4 (by omega) (by omega) rfl)
 ·exact go tt [.t rfl,.i 4,.c [6] (Qcg hd),.s (Ea _)] rfl (by simp only [Wv]; omega) (rd 5 (by omega) (by omega) rfl)
 ·exact ed tt [7] [0,1,2,3,4,5,6] [.f rfl] rfl trivial
theorem Zdr:∀ p∈([]:List Pt),Sc p.c:=λ_ h=>by cases h
theorem Q8x:∀ x∈([]:List Ct),Cp x.p:=λ_ h=>by cases h
theorem Qs6:W0 Tryz.prog 68 [.one (.row [])] [.agg [.row []],.one (.int .i64 0)]:=by
 refine U4 Tryz.func68 rfl ?_;refine go tt [.f rfl] rfl trivial ?_;refine nlb 1 rfl rfl rfl ?_;refine lp (S:=Unit) 2 (λL1 _=>(14,.v (.one (.int .i64 0)))::L1) (λ_=>[.blk 149 [.nils],.blk 149 [.row []]]) (λ_=>0) (λ_=>True) () trivial rfl (λ_ _=>rfl) rfl λ_ _=>?_
 exact en tt [.f rfl] rfl rfl trivial
abbrev zT (r0 r1 r2:LV):OB:=.blk 162 [.bool false,.nils,.bool false,.nils,.bool false,.nils,.bool false,.nils,.bool false,.nils,.nils,.int .i64 0,r0,r1,r2]
theorem Zdp {a:Tm}:W6 Tryz.prog 110 [.one (.ow 0 0),.agg (ta a),.one (.row [])] [zT (.row []) .nils (.orow 1 10 none),.row false 217 10 []] [.one (.row [])] [zT (.row []) .nils (.orow 1 10 none),.row false 217 10 []]:=by
 refine U4 Tryz.func110 rfl ?_;exact ed tt [] [0,1] [.t rfl] rfl trivial
theorem Q8v {a:Tm}:W6 Tryz.prog 72 [.one (.ow 0 0),.agg (ta a)] [zT (.row []) .nils .nils] [.one (.row [])] [zT (.row []) (.row []) (.row [])]:=by
 refine U4 Tryz.func72 rfl ?_;refine go tt [] rfl trivial ?_;refine oz 0 14 217 10 rfl rfl ?_;refine go tt [.c [] (Ln (l:=[])),.c [0,2] (Zdp (a:=a)),.o 5 144 7] rfl trivial ?_;refine lp (S:=Unit) 4 (λL1 _=>(29,.v (.one (.int .i64 0)))::(5,.v (.one (.orow 3 7 none)))::L1) (λ_=>[zT (.row []) (.row []) (.orow 2 10 none),.blk 40 (ta a),.row false 217 10 [],.row false 144 7 []]) (λ_=>0) (λ_=>True) () trivial rfl (λ_ _=>rfl) rfl λ_ _=>?_
 exact ed tt [2,3] [0] [.f rfl] rfl trivial
theorem Q8w:W0 Tryz.prog 113 [.agg [.row []]] [.one (.row [])]:=Qtx (l:=[]) (λ_ h=>by cases h) (by decide)
theorem Ze8 {a:Tm} (ha:Va a):W0 Tryz.prog 107 [.agg (ta a),.one (.row [])] [.one (.row [])]:=Qpp (l:=[]) Zdr (by decide) ha
theorem Q8t {a:Tm} (ha:Va a):W6 Tryz.prog 73 [.one (.ow 0 0),.agg (ta a)] [.blk 164 (crz (.row []) .nils)] [.one (.row [])] [.blk 164 (crz (.row []) (.row []))]:=by
 have cn:W0 Tryz.prog 112 [.agg (ta a),.one (.row [])] [.one (.row [])]:=Qw0 (R:=[]) Zdr (by decide) ha;have cc:W6 Tryz.prog 109 [.agg (ta a),.one (.row [])] [] [.one (.orow 0 7 none)] [.row false 144 7 []]:=Qfn (l:=[]) Zdr (by decide) ha;refine U4 Tryz.func73 rfl ?_;exact ed tt [2] [0] [.c [] Q8w,.c [] (Ze8 ha),.c [] cn,.c [] (Ln (l:=[])),.c [] (Ze8 ha),.c [2] cc,.t rfl] rfl trivial
theorem Q8u {a:Tm}:W6 Tryz.prog 74 [.one (.ow 0 0),.agg (ta a)] [.blk 166 (crz (.row []) .nils)] [.one (.row [])] [.blk 166 (crz (.row []) (.row []))]:=by
 refine U4 Tryz.func74 rfl ?_;refine go tt [.c [] (Ln (l:=[]))] rfl trivial ?_;refine nlc 0 13 rfl rfl rfl ?_;exact ed tt [] [0] [.t rfl] rfl trivial
theorem Q8s {a:Tm}:W6 Tryz.prog 75 [.one (.ow 0 0),.agg (ta a)] [.blk 168 (crz (.row []) .nils)] [.one (.row [])] [.blk 168 (crz (.row []) (.row []))]:=by
 refine U4 Tryz.func75 rfl ?_;refine go tt [.c [] Q8w,.o 6 144 7] rfl trivial ?_;refine lp (S:=Unit) 4 (λL1 _=>(42,.v (.one (.int .i64 0)))::(6,.v (.one (.orow 2 7 none)))::L1) (λ_=>[.blk 168 (crz (.row []) .nils),.blk 40 (ta a),.row false 144 7 [],.mpb (D5 (Ic (Uj a) []))]) (λ_=>0) (λ_=>True) () trivial rfl (λ_ _=>rfl) rfl λ_ _=>?_
 refine go tt [.f rfl] rfl trivial ?_;refine lp (S:=Unit) 5 (λL1 _=>(97,.v (.one (.int .i64 0)))::(6,.v (.one (.orow 2 7 none)))::L1) (λ_=>[.blk 168 (crz (.row []) .nils),.blk 40 (ta a),.row false 144 7 [],.mpb (D5 (Ic (Uj a) [])),.mpb (Ef (D5 (Ic (Uj a) [])) (Qar (Uj a) []))]) (λ_=>0) (λ_=>True) () trivial rfl (λ_ _=>rfl) rfl λ_ _=>?_
 refine go tt [.f rfl] rfl trivial ?_;refine ozM 0 13 139 3 rfl rfl ?_;refine lp (S:=Unit) 6 (λL1 _=>(174,.v (.one (.int .i64 0)))::L1) (λ_=>[.blk 168 [.bool false,.nils,.bool false,.nils,.bool false,.nils,.bool false,.nils,.bool false,.nils,.nils,.int .i64 0,.row [],.orow 5 3 none],.blk 40 (ta a),.row false 144 7 [],.mpb (D5 (Ic (Uj a) [])),.mpb (Ef (D5 (Ic (Uj a) [])) (Qar (Uj a) [])),.row false 139 3 []]) (λ_=>0) (λ_=>True) () trivial rfl (λ_ _=>rfl) rfl λ_ _=>?_
 exact ed tt [2,5] [0] [.f rfl] rfl trivial
section
variable {x y x' y':LV} {n d:Int} (h1:Fc x y n) (h2:Fc x' y' d) (bn:Ug n<=4294967295) (bd:Ug d<=4294967295) (ht:Qs 1640000 (Rj n d))
include h1 h2 bn bd ht
theorem Zdo:W6 Tryz.prog 23 [.agg [x,y,x',y'],.one (.row [])] [] [.one (.ow 0 0),.one (.int .i64 0)] [.blk 156 (Gl ⟨tq (Rj n d),[],0⟩ [] [])]:=by
 have co:=Qaw h1 h2 bn bd (ht.mono (by decide));have cb:W6 Tryz.prog 71 [.one (.ow 0 0),.agg (ta (tq (Rj n d)))] [.blk 156 (crz (.row []) .nils)] [.one (.row [])] [.blk 156 (crz (.row []) (.row []))]:=Qz9 (l:=[]) Zdr (by decide) (Qkg ht);have cg:=Ow (T:=156) (r0:=[]) (r1:=[]) (Qkg ht) Q8x (by decide);obtain ⟨b,l1,rfl,rfl,_⟩:=h1;obtain ⟨b',l2,rfl,rfl,_⟩:=h2;refine U4 Tryz.func23 rfl ?_;exact ed tt [] [2] [.c [] Qs6,.f rfl,.c [] co,.c [2] cb,.c [2] cg] rfl trivial
theorem Zdq:W6 Tryz.prog 24 [.agg [x,y,x',y'],.one (.row [])] [] [.one (.ow 0 0),.one (.int .i64 0)] [.blk 162 (Ht ⟨tq (Rj n d),[],0⟩ [] ([],[]))]:=by
 have co:=Qaw h1 h2 bn bd (ht.mono (by decide));have cg:=Q0a (T:=162) (r0:=[]) (r1:=([],[])) (Qkg ht) Q8x (by decide);obtain ⟨b,l1,rfl,rfl,_⟩:=h1;obtain ⟨b',l2,rfl,rfl,_⟩:=h2;refine U4 Tryz.func24 rfl ?_;exact ed tt [] [2] [.c [] Qs6,.f rfl,.c [] co,.c [2] (Q8v (a:=tq (Rj n d))),.c [2] cg] rfl trivial
theorem Zdm:W6 Tryz.prog 25 [.agg [x,y,x',y'],.one (.row [])] [] [.one (.ow 0 0),.one (.int .i64 0)] [.blk 164 (Gl ⟨tq (Rj n d),[],0⟩ [] [])]:=by
 have co:=Qaw h1 h2 bn bd (ht.mono (by decide));have cg:=Ow (T:=164) (r0:=[]) (r1:=[]) (Qkg ht) Q8x (by decide);obtain ⟨b,l1,rfl,rfl,_⟩:=h1;obtain ⟨b',l2,rfl,rfl,_⟩:=h2;refine U4 Tryz.func25 rfl ?_;exact ed tt [] [2] [.c [] Qs6,.f rfl,.c [] co,.c [2] (Q8t (Qkg ht)),.c [2] cg] rfl trivial
theorem Zdn:W6 Tryz.prog 26 [.agg [x,y,x',y'],.one (.row [])] [] [.one (.ow 0 0),.one (.int .i64 0)] [.blk 166 (Gl ⟨tq (Rj n d),[],0⟩ [] [])]:=by
 have co:=Qaw h1 h2 bn bd (ht.mono (by decide));have cg:=Ow (T:=166) (r0:=[]) (r1:=[]) (Qkg ht) Q8x (by decide);obtain ⟨b,l1,rfl,rfl,_⟩:=h1;obtain ⟨b',l2,rfl,rfl,_⟩:=h2;refine U4 Tryz.func26 rfl ?_;exact ed tt [] [2] [.c [] Qs6,.f rfl,.c [] co,.c [2] (Q8u (a:=tq (Rj n d))),.c [2] cg] rfl trivial
theorem Zdl:W6 Tryz.prog 27 [.agg [x,y,x',y'],.one (.row [])] [] [.one (.ow 0 0),.one (.int .i64 0)] [.blk 168 (Gl ⟨tq (Rj n d),[],0⟩ [] [])]:=by
 have co:=Qaw h1 h2 bn bd (ht.mono (by decide));have cg:=Ow (T:=168) (r0:=[]) (r1:=[]) (Qkg ht) Q8x (by decide);obtain ⟨b,l1,rfl,rfl,_⟩:=h1;obtain ⟨b',l2,rfl,rfl,_⟩:=h2;refine U4 Tryz.func27 rfl ?_;exact ed tt [] [2] [.c [] Qs6,.f rfl,.c [] co,.c [2] (Q8s (a:=tq (Rj n d))),.c [2] cg] rfl trivial
end
end Orr
namespace Orr
open Go Go.Proofs Orq
set_option maxRecDepth 10000
theorem Zf8 {np nd:Int} (h1:1<=np/\np<=6) (h2:0<=nd/\nd<=2):W6 Tryz.prog 21 [.one (.int .i64 np),.one (.int .i64 nd)] [] [.one (.ow 0 0),.one (.int .i64 0)] [.blk 116 [.int .i64 np,.int .i64 nd,.nils]]:=by
 refine U4 Tryz.func21 rfl ?_;exact ed tt [] [0] [.f (decide_eq_false (by omega)),.f (by simp; omega),.f (by simp; omega),.f (by simp; omega)] rfl trivial
theorem Zat {np nd:Int} (h:np<1\/6<np\/nd<0\/2<nd):W0 Tryz.prog 21 [.one (.int .i64 np),.one (.int .i64 nd)] [.one .nilp,.one (.int .i64 1)]:=by
 by_cases h1:np<1
 ·exact w tt Tryz.func21 rfl [.t (by simpa using h1),.t rfl,.t rfl,.t rfl] rfl rfl trivial
 by_cases h2:6<np
 ·exact w tt Tryz.func21 rfl [.f (by simpa using h1),.t (by simpa using h2),.t rfl,.t rfl] rfl rfl trivial
 by_cases h3:nd<0
 ·exact w tt Tryz.func21 rfl [.f (by simpa using h1),.f (by simpa using h2),.t (by simpa using h3),.t rfl] rfl rfl trivial
 ·exact w tt Tryz.func21 rfl [.f (by simpa using h1),.f (by simpa using h2),.f (by simpa using h3),.t (by simp; omega)] rfl rfl trivial
theorem Q9w {np nd:Int} (h:np<1\/6<np\/nd<0\/2<nd):W0 Tryz.prog 5 [.one (.int .i64 np),.one (.int .i64 nd)] [.one .nilp,.one (.int .i64 1)] :=
 w tt Tryz.func5 rfl [.c [] (Zat h),.t rfl] rfl rfl trivial
theorem Zfn {np nd:Int} (h1:1<=np/\np<=6) (h2:0<=nd/\nd<=2):W6 Tryz.prog 5 [.one (.int .i64 np),.one (.int .i64 nd)] [] [.one (.ow 0 0),.one (.int .i64 0)] (enC 0 np nd [] 0 (Q9o [] (tq 0)) (Zi4 [] (tq 0)) (Zi2 [] (tq 0)) (Zi3 [] (tq 0)) (Zi1 [] (tq 0))):=by
 have ez:Rj (0:Rat).num ((0:Rat).den:Int)=0:=by decide
 have hq:Qs 1640000 (Rj (0:Rat).num ((0:Rat).den:Int)):=by rw [ez]; exact ⟨by decide,by decide⟩
 have i1:=Wy (0:Rat).num;have i2:=Wy ((0:Rat).den:Int);have c1:=Zdo i1 i2 (by decide) (by decide) hq;have c2:=Zdq i1 i2 (by decide) (by decide) hq;have c3:=Zdm i1 i2 (by decide) (by decide) hq;have c4:=Zdn i1 i2 (by decide) (by decide) hq;have c5:=Zdl i1 i2 (by decide) (by decide) hq;rw [ez] at c1 c2 c3 c4 c5;have ci:=Zf5 (n:=0) (by decide);rw [show ((0:Int):Rat)=0 from rfl,Dx] at ci;refine U4 Tryz.func5 rfl ?_;refine go tt [.c [0] (Zf8 h1 h2),.f rfl] rfl trivial ?_;refine nlc 0 2 rfl rfl rfl ?_;exact ed tt [] [1,0,2,3,4,5,6] [.c [] ci,.c [2] c1,.c [3] c2,.c [4] c3,.c [5] c4,.c [6] c5] rfl trivial
end Orr
