import Derived.Test.YtenbfolapbibpaaGreatPart07
import Derived.Test.YtenbfolapbibpaaGreatPart00
import Derived.Test.YtenbfolapbibpaaGreatPart08
import Derived.Test.YtenbfolapbibpaaGreatPart09
set_option linter.all false
namespace Orr
open Go Go.Proofs Tryz Orq
set_option maxRecDepth 10000
abbrev Ph(c:Cr)(r0:Fc)(r1:Fc×Fc):Fb:=.bool true::pl c.now.p::sg c.now.lo.num::mg c.now.lo.num::sg (c.now.lo.den:Int)::mg (c.now.lo.den:Int)::sg c.now.hi.num::mg c.now.hi.num::sg (c.now.hi.den:Int)::mg (c.now.hi.den:Int)::.row (Dx c.l)::.int .i64 c.ev::[.row r0,.row r1.1,.row r1.2]
abbrev Qxu(r0:LV)(r1:LV×LV):Fb:=[.bool false,.nils,.bool false,.nils,.bool false,.nils,.bool false,.nils,.bool false,.nils,.nils,.int .i64 0,r0,r1.1,r1.2]
variable{T:Nat}{c:Cr}{r0:Fc}{r1:Fc×Fc}
theorem dK(hc:Va c.now):Ga prog 369 [.one (.ow 0 0)] [.blk T (Ph c r0 r1)] [.agg (ta c.now)] [.blk T (Ph c r0 r1)]:=by
 have cl:=Mi (b:=c.now) (l:=[]) hc.tb (λt ht=>by cases ht) Fl rfl;refine G5 func369 rfl ?_;exact Uz [] [0] [.f rfl,.k cl] rfl
theorem Qh7(hc:CrOk c):Ga prog 360 [.one (.ow 0 0)] [.blk T (Ph c r0 r1)] [.one (.row (Gg (Gu (c.l.map (·.c)))))] [.blk T (Ph c r0 r1)]:=by
 have hk:=hc.k;have hw:=Pf c.l;refine G5 func360 rfl ?_;refine Uv [.o 3 168 7] rfl ?_;refine U0 (S:=Nat) 2 (λL1 i=>(11,.v (.oi i))::(3,.v (.one (.orow 1 7 none)))::L1) (λi=>[.blk T (Ph c r0 r1),.row false 168 7 (Gg ((c.l.map (·.c)).take i))]) (λi=>c.l.length-i) (λi=>i<=c.l.length) 0 (Qg _) rfl rfl λi hi=>?_
 by_cases hlt:i<c.l.length
 ·obtain⟨x,hx⟩:=gxE (l:=c.l) (i:=i) hlt;have hm:∀y∈[Lt x.c],y.length=7:=λy hy=>by rw[Ql.1 hy];rfl
  have hg:(c.l.map (·.c)).take (i+1)=(c.l.map (·.c)).take i++[x.c]:=by
   rw[Xb,Zb,hx];rfl
  have hl:decide ((i:Int)<((Dx c.l).length:Int))=true:=by simp[hw];omega
  obtain⟨xc,xk,xf⟩:=x;cases xf <;> (refine go tt [.t hl,.x (Tg hx),.s (sz:=7) hm] rfl (by simp[Gd,Mx];omega) ?_;exact rd (i+1) Fj hlt (by rw[hg];simp[Gg];rfl))
 ·obtain rfl:i=c.l.length:=Fj;have e:(c.l.map (·.c)).take c.l.length=c.l.map (·.c):=Qo Fp;rw[e];have cs:=SL (l:=c.l.map (·.c)) (λx hx=>by
   obtain⟨w,hw,rfl⟩:=Q8.1 hx;exact Dp.pb (hc.l w hw).p.dp) Fo
  exact Uz [] [0] [.f (by simp[hw]),.k cs] rfl
variable{at_:Tm}
theorem Qqk{x:Ct}{w:Wt}(hc:CrOk c)(hx:Cp x.p)(ha:Va at_)(h:Lb c.l x at_=some w):Ga prog 225 [.one (.ow 0 0),.agg (Lt x),.agg (ta at_)] [.blk T (Ph c r0 r1)] [.agg (wl w)] [.blk T (Ph c r0 r1)]:=by
 have hk:=hc.k;have hw:=Pf c.l;refine G5 func225 rfl ?_;refine Uv [] rfl ?_;refine U0 (S:=Nat) 4 (λL1 i=>(14,.v (.oi i))::L1) (λ_=>[.blk T (Ph c r0 r1),.blk 168 (Lt x),.blk 75 (ta at_),.blk 302 [.int .i64 0,.int .i64 0,.int .i64 0,.int .i64 0,.int .i64 0,.nils,.int .i64 0,.bool false,.bool false,.nils,.bool false,.nils,.bool false,.nils,.bool false,.nils,.bool false,.nils]]) (λi=>c.l.length-i) (λi=>i<=c.l.length/\Lb (c.l.drop i) x at_=some w) 0 ⟨Qg _,h⟩ rfl rfl λi ⟨hi,hf⟩=>?_
 by_cases hlt:i<c.l.length
 ·obtain⟨v,hv⟩:=gxE (l:=c.l) (i:=i) hlt;have hdr:c.l.drop i=v::c.l.drop (i+1):=by
   rw[Zq hlt];congr 1;have:=Qf hlt;rw[hv]at this;injection this with this;exact this.symm
  have hvo:=hc.l v (Qa hv);rw[hdr]at hf;simp only[Lb]at hf;have hl:decide ((i:Int)<((Dx c.l).length:Int))=true:=by simp[hw];omega
  by_cases A:nX v.c x=true
  ·have A':(!decide ([v.c.kind,v.c.i0,v.c.i1,v.c.i2,v.c.i3]=[x.kind,x.i0,x.i1,x.i2,x.i3]))=false:=by
    unfold nX at A;rw[A];rfl
   by_cases B:v.known=true
   ·have B':(!v.known)=false:=by rw[B];rfl
    have cs:=CV (p:=v.c.p) (q:=x.p) (Dp.pb hvo.p.dp).ln (Dp.pb hx.dp).ln (Dp.pb hvo.p.dp).bd (Dp.pb hx.dp).bd;rw[hvo.p.t,hx.t]at cs;by_cases C:v.c.p=x.p
    ·have C':(!decide (v.c.p=x.p))=false:=by simp[C]
     rw[if_pos ⟨A,B,C⟩]at hf;obtain⟨vc,vk,vf⟩:=v;cases vf with
     |
      none =>
      injection hf with hf;subst hf;exact Uz [] [0] [.t hl,.x (Tg hv),.g 24 false A',.g 29 false B',.k cs,.f C',.g 41 true rfl,.t rfl] rfl
     |
      some t =>
      obtain⟨r,r1',hf⟩:=Qe.1 hf;have cc:=UH (hvo.f t rfl).tb ha.tb r1';by_cases D:0<r
      ·rw[if_pos D]at hf;injection hf with hf;subst hf;exact Uz [] [0] [.t hl,.x (Tg hv),.g 24 false A',.g 29 false B',.k cs,.f C',.g 41 false rfl,.k cc,.t (by simpa using D)] rfl
      ·rw[if_neg D]at hf;refine Uw [.t hl,.x (Tg hv),.g 24 false A',.g 29 false B',.k cs,.f C',.g 41 false rfl,.k cc,.f (by simpa using D)] rfl ?_;exact rd (i+1) Fj ⟨hlt,hf⟩ rfl
    ·rw[if_neg λh=>C h.2.2]at hf;refine Uw [.t hl,.x (Tg hv),.g 24 false A',.g 29 false B',.k cs,.t (by simp[C])] rfl ?_;exact rd (i+1) Fj ⟨hlt,hf⟩ rfl
   ·rw[if_neg λh=>B h.2.1]at hf;refine Uw [.t hl,.x (Tg hv),.g 24 false A',.g 29 true (by simpa using B),.t rfl] rfl ?_;exact rd (i+1) Fj ⟨hlt,hf⟩ rfl
  ·rw[if_neg λh=>A h.1]at hf;refine Uw [.t hl,.x (Tg hv),.g 24 true (by rw[show decide ([v.c.kind,v.c.i0,v.c.i1,v.c.i2,v.c.i3]=[x.kind,x.i0,x.i1,x.i2,x.i3])=false from Uc.2 A];rfl),.g 29 true rfl,.t rfl] rfl ?_;exact rd (i+1) Fj ⟨hlt,hf⟩ rfl
 ·obtain rfl:i=c.l.length:=Fj;rw[Vh]at hf;simp only[Lb]at hf;injection hf with hf;subst hf;exact Uz [] [0] [.f (by simp[hw])] rfl
variable{l:List Ct}{ws:List Wt}
theorem oD(hc:CrOk c)(ha:Va at_)(hl:∀x∈l,Cp x.p)(hn:l.length≤1000)(h:Pd c.l at_ (Gu l)=some ws):Ga prog 159 [.one (.ow 0 0),.agg (ta at_),.one (.bool true),.one (.row (Gg l))] [.blk T (Ph c r0 r1)] [] [.blk T (Ph ⟨at_,ws,c.ev⟩ r0 r1)]:=by
 have cs:=SL (l:=l) (λx hx=>Dp.pb (hl x hx).dp) Fj;have cl:=Mi (b:=at_) (l:=[]) ha.tb (λt ht=>by cases ht) Fl rfl;obtain⟨h1,h2⟩:=YC h;have hs:(Gu l).length=l.length:=Bt l;refine G5 func159 rfl ?_;refine Uv [.o 8 302 18,.k cs] rfl ?_;refine U0 (S:=Nat) 3 (λL1 i=>(15,.v (.oi i))::(8,.v (.one (.orow 2 18 none)))::L1) (λi=>[.blk T (Ph c r0 r1),.blk 75 (ta at_),.row false 302 18 (Dx (ws.take i))]) (λi=>ws.length-i) (λi=>i<=ws.length) 0 (Qg _) rfl rfl λi hi=>?_
 by_cases hlt:i<ws.length
 ·obtain⟨x,hx⟩:=gxE (l:=(Gu l)) (i:=i) Fj;obtain⟨w,hw,hw'⟩:=h2 i x hx;have hm:∀y∈[wl w],y.length=18:=λy hy=>by rw[Ql.1 hy];rfl
  have hlt':decide ((i:Int)<((Gg (Gu l)).length:Int))=true:=by simp[Gg];omega
  have ck:=Qqk (T:=T) (r0:=r0) (r1:=r1) hc (hl x (Ts (Qa hx))) ha hw;have hg:=Ir hw';obtain⟨wc,wk,wf⟩:=w;cases wf <;> (refine go tt [.t hlt',.x (YJ hx),.t rfl,.c [0] ck,.s (sz:=18) hm] rfl (by simp[Gd,Pf];omega) ?_;exact rd (i+1) Fj hlt (by rw[hg];rfl))
 ·obtain rfl:i=ws.length:=Fj;rw[Q6];have hge:decide ((ws.length:Int)<((Gg (Gu l)).length:Int))=false:=by simp[Gg];omega
  exact Uz [] [0] [.f hge,.p 2,.k cl] rfl
theorem Qql(ha:Va at_)(hl:∀x∈l,Cp x.p)(hn:l.length≤1000):Ga prog 159 [.one (.ow 0 0),.agg (ta at_),.one (.bool false),.one (.row (Gg l))] [.blk T (Qxu (.row r0) (.row r1.1,.row r1.2))] [] [.blk T (Ph ⟨at_,(Gu l).map fresh,0⟩ r0 r1)]:=by
 have cs:=SL (l:=l) (λx hx=>Dp.pb (hl x hx).dp) Fj;have cl:=Mi (b:=at_) (l:=[]) ha.tb (λt ht=>by cases ht) Fl rfl;have hs:(Gu l).length=l.length:=Bt l;refine G5 func159 rfl ?_;refine Uv [.o 8 302 18,.k cs] rfl ?_;refine U0 (S:=Nat) 3 (λL1 i=>(15,.v (.oi i))::(8,.v (.one (.orow 2 18 none)))::L1) (λi=>[.blk T (Qxu (.row r0) (.row r1.1,.row r1.2)),.blk 75 (ta at_),.row false 302 18 (Dx (((Gu l).map fresh).take i))]) (λi=>l.length-i) (λi=>i<=l.length) 0 (Qg _) rfl rfl λi hi=>?_
 by_cases hlt:i<l.length
 ·obtain⟨x,hx⟩:=gxE (l:=(Gu l)) (i:=i) Fj;have hm:∀y∈[wl (fresh x)],y.length=18:=λy hy=>by rw[Ql.1 hy];rfl
  have hlt':decide ((i:Int)<((Gg (Gu l)).length:Int))=true:=by simp[Gg];omega
  have hg:=Ir (l:=(Gu l).map fresh) (i:=i) (w:=fresh x) (by rw[Zb,hx];rfl);refine go tt [.t hlt',.x (YJ hx),.z 20,.f rfl,.s (sz:=18) hm] rfl (by simp[Gd,Pf];omega) ?_;exact rd (i+1) Fj hlt (by rw[hg];rfl)
 ·obtain rfl:i=l.length:=Fj;rw[Qo Fo];have hge:decide ((l.length:Int)<((Gg (Gu l)).length:Int))=false:=by simp[Gg];omega
  exact Uz [] [0] [.f hge,.p 2,.k cl] rfl
theorem Qd5(ha:Va at_)(hl:∀x∈l,Cp x.p)(hn:l.length≤1000):Ga prog 89 [.one (.ow 0 0),.agg (ta at_),.one (.row (Gg l))] [.blk T (Qxu (.row r0) (.row r1.1,.row r1.2))] [] [.blk T (Ph ⟨at_,(Gu l).map fresh,0⟩ r0 r1)]:=by
 have cl:=Qql (T:=T) (r0:=r0) (r1:=r1) ha hl hn;refine G5 func89 rfl ?_;exact Uz [] [0] [.g 12 false rfl,.c [0] cl] rfl
theorem Qd6{k:Int}(hc:CrOk c)(ha:Va at_)(hk:GE at_ c.now=some k)(h0:0≤k)(hl:∀x∈l,Cp x.p)(hn:l.length≤1000)(h:Pd c.l at_ (Gu l)=some ws):Ga prog 89 [.one (.ow 0 0),.agg (ta at_),.one (.row (Gg l))] [.blk T (Ph c r0 r1)] [] [.blk T (Ph ⟨at_,ws,c.ev⟩ r0 r1)]:=by
 have cl:=oD (T:=T) (r0:=r0) (r1:=r1) hc ha hl hn h;have cc:=UH ha.tb hc.n.tb hk;refine G5 func89 rfl ?_;exact Uz [] [0] [.g 12 true rfl,.k cc,.r 20 (eB (show decide (0<=k)=true by simpa using h0)),.c [0] cl] rfl
theorem Qqm(hc:CrOk c)(h:ZX c.now c.l=some ws):Ga prog 364 [.one (.ow 0 0)] [.blk T (Ph c r0 r1)] [] [.blk T (Ph { c with l:=ws } r0 r1)]:=by
 have hk:=hc.k;have hw:=Pf c.l;obtain⟨h1,h2⟩:=KO h;refine G5 func364 rfl ?_;refine Uv [.o 2 302 18,.c [0] (dK hc.n)] rfl ?_;refine U0 (S:=Nat) 3 (λL1 i=>(13,.v (.oi i))::(2,.v (.one (.orow 1 18 none)))::L1) (λi=>[.blk T (Ph c r0 r1),.row false 302 18 (Dx (ws.take i)),.blk 75 (ta c.now)]) (λi=>c.l.length-i) (λi=>i<=c.l.length) 0 (Qg _) rfl rfl λi hi=>?_
 by_cases hlt:i<c.l.length
 ·obtain⟨w,hx⟩:=gxE (l:=c.l) (i:=i) hlt;obtain⟨v,hv,h3⟩:=h2 i w hx;have hm:∀y∈[wl v],y.length=18:=λy hy=>by rw[Ql.1 hy];rfl
  have hg:=Ir hv;have hl:decide ((i:Int)<((Dx c.l).length:Int))=true:=by simp[hw];omega
  rcases h3 with⟨k1,rfl⟩|⟨k1,r,k2,rfl⟩
  ·obtain⟨vc,vk,vf⟩:=v;cases vf <;> (refine go tt [.t hl,.x (Tg hx),.f (by rw[show vk=true from k1];rfl),.s (sz:=18) hm] rfl (by simp[Gd,Pf];omega) ?_;exact rd (i+1) Fj hlt (by rw[hg];rfl))
  ·have cg:=rU (hc.l w (Qa hx)).p hc.n k2;obtain⟨wc,wk,wf⟩:=w;cases r <;> cases wf <;> (refine go tt [.t hl,.x (Tg hx),.t (by rw[show wk=false from k1];rfl),.k cg,.s (sz:=18) hm] rfl (by simp[Gd,Pf];omega) ?_;exact rd (i+1) Fj hlt (by rw[hg];rfl))
 ·obtain rfl:i=c.l.length:=Fj;rw[<-h1,Q6];exact Uz [1] [0] [.f (by simp[hw,h1])] rfl
theorem Qqn{r:Option Tm}(hc:CrOk c)(h:ZX c.now c.l=some ws)(hr:zY ws=some r):Ga prog 370 [.one (.ow 0 0)] [.blk T (Ph c r0 r1)] [.agg (ota r),.one (.bool r.isSome)] [.blk T (Ph { c with l:=ws } r0 r1)]:=by
 have hcl:=Qqm (T:=T) (r0:=r0) (r1:=r1) hc h;have hc':=A5 hc h;have hk:=hc'.k;have hw:=Pf ws;have hvb:∀t∈ws.filterMap (·.fails),Tb t:=λt ht=>by
  obtain⟨w,w1,w2⟩:=J0.1 ht;exact((hc'.l w w1).f t w2).tb
 refine G5 func370 rfl ?_;refine Uv [.c [0] hcl,.o 4 75 9] rfl ?_;refine U0 (S:=Nat) 3 (λL1 i=>(14,.v (.oi i))::(4,.v (.one (.orow 2 9 none)))::L1) (λi=>[.blk T (Ph { c with l:=ws } r0 r1),.blk 75 zTm,.row false 75 9 (tal ((ws.take i).filterMap (·.fails)))]) (λi=>ws.length-i) (λi=>i<=ws.length) 0 (Qg _) rfl rfl λi hi=>?_
 by_cases hlt:i<ws.length
 ·obtain⟨w,hx⟩:=gxE (l:=ws) (i:=i) hlt;have hl:decide ((i:Int)<((Dx ws).length:Int))=true:=by simp[hw];omega
  have hfl:((ws.take i).filterMap (·.fails)).length<=i:=Qc (Vw _ _) (by rw[Qq];omega);have hg:(ws.take (i+1)).filterMap (·.fails)=(ws.take i).filterMap (·.fails)++(match w.fails with|none=>[]|some t=>[t]):=by
   rw[Xb,hx,List.filterMap_append];show _++List.filterMap (·.fails) [w]=_;cases hwf:w.fails <;> simp[hwf]
  obtain⟨wc,wk,wf⟩:=w;have hk:ws.length<=1000:=hk;cases wf with
  |
   none =>
   refine Uw [.t hl,.x (Tg hx),.f rfl] rfl ?_;exact rd (i+1) Fj hlt (by rw[hg];simp;rfl)
  |
   some t =>
   refine Uw [.t hl,.x (Tg hx),.t rfl,.s (l:=[ta t]) (sz:=9) (λc hc=>by rw[Ql.1 hc];rfl)] rfl ?_;exact rd (i+1) Fj hlt (by rw[hg];simp[tal];rfl)
 ·obtain rfl:i=ws.length:=Fj;rw[Q6];have hf:decide ((ws.length:Int)<((Dx ws).length:Int))=false:=by simp[hw]
  have hln:(ws.filterMap (·.fails)).length<=1000:=Qc (Vw _ _) hk;unfold zY at hr;cases hfm:ws.filterMap (·.fails)with
  |
   nil =>
   rw[hfm]at hr;injection hr with hr;subst hr;exact Uz [] [0] [.f hf,.p 2,.k rG] rfl
  |
   cons b l =>
   rw[hfm]at hr hvb hln;obtain⟨m,m1,rfl⟩:=Vl.1 hr;have cl:=Mi (hvb b (Qw ..)) (λt ht=>hvb t (Qh _ ht)) (by simp at hln;omega) m1;exact Uz [] [0] [.f hf,.p 2,.k cl] rfl
theorem Q1b{t:Rat}{Bc:Tm->List Ct}{Br:Tm->Fc×Fc}(ht:Qs 1640000 t)(hB:BuildOk Bc)
 (hb:∀a c r1,Va a->CrOk c->Ga prog 91 [.one (.ow 0 0),.agg (ta a)] [.blk T (Ph c r0 r1)] [.one (.row (Gg (Bc a)))] [.blk T (Ph c r0 (Br a))])
 {K:Nat} {c c':Cr} {r1 r1':Fc×Fc} {n:Int} (hc:CrOk c) (hev:0<=c.ev/\c.ev+K<=1000000000000000000) (h:Gx c.now t<=0) (hg:SV Bc Br t K c r1 0=some (c',r1',n)) :
 Ga prog 365 [.one (.ow 0 0),.agg (rl t),.one (.ofn 91 [.ow 0 0] [])] [.blk T (Ph c r0 r1)] [.oi n,.oi 0] [.blk T (Ph c' r0 r1')]:=by
 have qt:Qb t:=ht.mono Fl;have c1:=Ec hc.n.tb qt;refine G5 func365 rfl ?_;refine Uv [.c [0] (dK hc.n),.k c1,.f (by simpa using h)] rfl ?_;refine U0 (S:=Nat×Cr×(Fc×Fc)×Int) 2 (λL1 s=>(8,.v (.oi s.2.2.2))::L1) (λs=>[.blk T (Ph s.2.1 r0 s.2.2.1),.blk 41 (rl t)]) (λs=>s.1) (λs=>CrOk s.2.1/\(0<=s.2.1.ev/\s.2.1.ev+s.1<=1000000000000000000)/\(0<=s.2.2.2/\s.2.2.2+s.1<=1000000000000000000)/\SV Bc Br t s.1 s.2.1 s.2.2.1 s.2.2.2=some (c',r1',n)) (K,c,r1,0) ⟨hc,hev,⟨Int.le_refl 0,Ft⟩,hg⟩ rfl rfl λ⟨k,x,r,m⟩ ⟨j1,j2,j3,j4⟩=>?_
 dsimp only at j1 j2 j3 j4 ⊢;cases k with
 |zero=>cases j4
 |
  succ k =>
  simp only[SV]at j4;obtain⟨ws,w1,j4⟩:=Qe.1 j4;obtain⟨o,o1,j4⟩:=Qe.1 j4;have cn:=Qqn (T:=T) (r0:=r0) (r1:=r) j1 w1 o1;have ca:=JI (Fy t.num) (Fy (t.den:Int)) (Qc ht.1 Fl) (Qc ht.2 Fl) (by rw[Po];exact ht.mono Fl);rw[Po]at ca;cases o with
  |
   none =>
   injection j4 with j4;injection j4 with e1 j4;injection j4 with e2 e3;subst e1;subst e2;subst e3;exact Uz [] [0] [.c [0] cn,.g 25 true rfl,.t rfl,.k ca] rfl
  |
   some a =>
   have ha:=OZ j1 w1 o1;dsimp only at j4;have cc:=Ec ha.tb qt;by_cases h0:0<Gx a t
   ·rw[if_pos h0]at j4;injection j4 with j4;injection j4 with e1 j4;injection j4 with e2 e3;subst e1;subst e2;subst e3;exact Uz [] [0] [.c [0] cn,.g 25 false rfl,.k cc,.t (by simpa using h0),.k ca] rfl
   ·rw[if_neg h0]at j4;obtain⟨w2,l1,j4⟩:=Qe.1 j4;have j1':=A5 j1 w1;have cl:=Mi (b:=a) (l:=[]) ha.tb (λt ht=>by cases ht) Fl rfl;have cb:=hb a { x with l:=ws } r ha j1';have cy:=oD (T:=T) (r0:=r0) (r1:=Br a) j1' ha (hB.p a ha) (hB.n a ha) l1;have hf:decide (0<Gx a t)=false:=by simpa using h0
    refine Uw [.c [0] cn,.g 25 false rfl,.k cc,.f hf,.k cl,.c [0] cb,.c [0] cy] rfl ?_;exact rd (k,⟨a,w2,x.ev+1⟩,Br a,m+1) Ft ⟨lay_ok _ j1' ha (hB.p a ha) (hB.n a ha) l1,Ft,Ft,j4⟩ rfl
end Orr
namespace Orr
open Go Go.Proofs Tryz Orq
def BN(k:Crv):Int:=max (max 0 ((k.x.length:Int)-1)) ((k.y.length:Int)-1)
structure Es where
 np:Int
 nd:Int
 M:List Pt
 q:Rat
 s:Cr
 t:Cr
 h:Cr
 p:Cr
 d:Cr
structure Em where
 np:Int
 nd:Int
 M:List Pt
 q:Rat
 s:Int
 t:Int
 h:Int
 p:Int
 d:Int
def Es.m(E:Es):Em:=⟨E.np,E.nd,E.M,E.q,E.s.ev,E.t.ev,E.h.ev,E.p.ev,E.d.ev⟩
structure MEn(np nd:Int)(M:List Pt):Prop where
 m:MOk M
 len:(M.length:Int)<=np
 deg:∀p∈M,BN p.c≤nd
 id:∀p∈M,0≤p.id/\p.id≤1048576
structure EOk(b:Int)(E:Es):Prop where
 np:1<=E.np/\E.np<=6
 nd:0<=E.nd/\E.nd<=2
 m:MEn E.np E.nd E.M
 q:Qs 128 E.q
 s:At kS E.M E.q E.s
 t:At kT E.M E.q E.t
 h:At kH E.M E.q E.h
 p:At kP E.M E.q E.p
 d:At kD E.M E.q E.d
 es:0<=E.s.ev/\E.s.ev<=b
 et:0<=E.t.ev/\E.t.ev<=b
 eh:0<=E.h.ev/\E.h.ev<=b
 ep:0<=E.p.ev/\E.p.ev<=b
 ed:0<=E.d.ev/\E.d.ev<=b
theorem EOk.mono{b c:Int}{E:Es}(h:EOk b E)(hb:b<=c):EOk c E:={ h with es:=⟨h.es.1,by have:=h.es.2;omega⟩,et:=⟨h.et.1,by have:=h.et.2;omega⟩,eh:=⟨h.eh.1,by have:=h.eh.2;omega⟩,ep:=⟨h.ep.1,by have:=h.ep.2;omega⟩,ed:=⟨h.ed.1,by have:=h.ed.2;omega⟩ }
abbrev lJ(k:Nat)(q:Rat):Fb:=[.ow (k+1) 0,sg q.num,mg q.num,sg (q.den:Int),mg (q.den:Int),.ow (k+2) 0,.ow (k+3) 0,.ow (k+4) 0,.ow (k+5) 0,.ow (k+6) 0]
abbrev taR(np nd:Int)(M:List Pt):Fb:=[.int .i64 np,.int .i64 nd,pts M]
abbrev bS(c:Cr)(M:List Pt)(q:Rat):OB:=.blk 185 (Tc c (Fx M) (cN M (tq q)))
abbrev bT(c:Cr)(M:List Pt)(q:Rat):OB:=.blk 190 (Ph c (Fx M) (cB M (tq q)))
abbrev bH(c:Cr)(M:List Pt)(q:Rat):OB:=.blk 192 (Tc c (Fx M) (brH M (tq q)))
abbrev bP(c:Cr)(M:List Pt)(q:Rat):OB:=.blk 194 (Tc c (Fx M) (brP M (tq q)))
abbrev bD(c:Cr)(M:List Pt)(q:Rat):OB:=.blk 196 (Tc c (Fx M) (cR M (tq q)))
abbrev enB(k:Nat)(E:Es):Fe:=[.blk 87 (lJ k E.q),.blk 153 (taR E.np E.nd E.M),bS E.s E.M E.q,bT E.t E.M E.q,bH E.h E.M E.q,bP E.p E.M E.q,bD E.d E.M E.q]
end Orr
namespace Orr
open Go Go.Proofs Tryz Orq
set_option maxRecDepth 10000
variable{l:List Pt}{id:Int}
theorem WY(h:has l id=true):Sp l id<l.length:=by
 rcases Zc (Sp l id) l.length with h1|h1
 ·exact h1
 ·simp[has,Qy h1]at h
theorem GN{lx ly:Fc}{px py:U6}{x y:LV}{d:Int}(hx:IsInts lx px)(hy:IsInts ly py)(hd:Hh x y d)(hk:Cs 4294967294 1073741824 (Crv.mk px py d))(hl:l.length<=1000000)(h:has l id=true):
 U3 368 [.agg [pts l],.agg [.row lx,.row ly,x,y,.int .i64 id]] [.agg [pts (l.set (Sp l id) (Pt.mk (Crv.norm (Crv.mk px py d)) id))],.oi 0]:=by
 have ca:=Qil (l:=l) id Fj;have cf:=Qag hx hy hd hk id;obtain⟨b,r,rfl,rfl,_⟩:=hd;obtain⟨q,hq⟩:=nmE (Pt.mk (Crv.norm (Crv.mk px py d)) id);rw[<-hq]at cf ⊢;have Dz:=WY h;rw[h]at ca;have e:pts (l.set (Sp l id) q)=.row ((l.map Ge).set (Sp l id) (Ge q)):=by unfold pts;rw[List.map_set]
 rw[e];exact Uy func368 rfl [.k ca,.f rfl,.s (P8 l),.k cf,.i (Sp l id)] rfl rfl Fu
theorem GP(hl:l.length<=1000000)(h:has l id=true):
 U3 367 [.agg [pts l],.oi id] [.agg [pts (l.take (Sp l id)++l.drop (Sp l id+1))],.oi 0]:=by
 have ca:=Qil (l:=l) id Fj;have Dz:=WY h;rw[h]at ca;have s1:∀c∈(l.map Ge).take (Sp l id),c.length=5:=λc hc=>P8 l c (Qn hc)
 have s3:∀c∈(l.map Ge).drop (Sp l id+1),c.length=5:=λc hc=>P8 l c (Qx hc)
 have e:pts (l.take (Sp l id)++l.drop (Sp l id+1))=.row ((l.map Ge).take (Sp l id)++(l.map Ge).drop (Sp l id+1)):=by unfold pts;rw[List.map_append,List.map_take,List.map_drop]
 rw[e];refine Uy func367 rfl [.k ca,.f rfl,.i (Sp l id),.s s1,.i (Sp l id+1),.s s3] rfl ?_ ?_
 ·simp
 ·have h1:(List.map Ge l).length=l.length:=Fp;have h2:∀z∈List.map Ge l,z.length=ti39.sz:=P8 l;simp only[Gd,Qq,Q9,h1]
  and_intros <;> first|exact h2|omega
theorem gV(l:U8):(lm l).length=l.length:=by simp[lm]
variable{z:Int}
theorem JD:(He z.natAbs).length<=4↔Gl z<=128:=by
 constructor
 ·intro h;have h1:=Dl (He z.natAbs) (Eg z.natAbs).1;rw[Ro]at h1;refine Mm.2 (Xn h1 (Qc (Zt Fl h) Fl))
 ·intro h;have:=Sy (x:=z.natAbs) (k:=128) h;omega
def JV(k:Crv):Bool:=(k.x++k.y++[k.d]).all λz=>decide (Gl z<=128)
variable{k:Crv}
theorem qZ:JV k=true↔(∀z∈k.x,Gl z≤128)/\(∀z∈k.y,Gl z≤128)/\Gl k.d≤128:=by
 unfold JV;simp only[Uq,Zn,Jc,decide_eq_true_iff,Ql,forall_eq];constructor
 ·rintro⟨⟨h1,h2⟩,h3⟩;exact⟨h1,h2,h3⟩
 ·rintro⟨h1,h2,h3⟩;exact⟨⟨h1,h2⟩,h3⟩
theorem FA(hz:z∈k.x++k.y++[k.d])(h:¬Gl z<=128):JV k=false:=by
 unfold JV;rw[<-Bool.not_eq_true,Jc];intro h';exact h (of_decide_eq_true (h' z hz))
abbrev tB(np nd:Int)(l:List Pt):OB:=.blk 153 (taR np nd l)
variable{np:Int}
theorem Qal{nd:Int}(id:Int)(hl:l.length<1073741824):Ga prog 113 [.one (.ow 0 0),.oi id] [tB np nd l] [.oi (Sp l id:Int),.one (.bool (has l id))] [tB np nd l]:=by
 refine G5 func113 rfl ?_;refine Uv [] rfl ?_;refine ct 2 (S:=Unit) (λ_=>[(1,.v (.oi id)),(0,.v (.one (.ow 0 0))),(6,.v (.oi (Sp l id:Int)))]) (λ_=>[tB np nd l]) (λ_=>True) rfl ?_ ?_
 ·refine U0 (S:=Nat) 1 (λL1 k=>(6,.v (.oi k))::L1) (λ_=>[tB np nd l]) (λk=>l.length-k) (λk=>k<=l.length/\∀j p,j<k->l[j]? = some p->p.id<id) 0 ⟨Qg _,λj p h=>Fj⟩ rfl rfl λk ⟨hk,hlt⟩=>?_
  by_cases h:k<l.length
  ·obtain⟨p,hp⟩:=gxE (l:=l) (i:=k) h;by_cases hid:p.id<id
   ·refine Uw [.t Fo,.x (Pw hp),.t (by simpa using hid)] rfl ?_;exact rd (k+1) Fj ⟨h,λj q hj hq=>by
     rcases Zc j k with h2|h2
     ·exact hlt j q h2 hq
     ·have:j=k:=Fj;subst this;rw[hp]at hq;injection hq with hq;rw[<-hq];exact hid⟩ rfl
   ·have e:=OT hlt (.inr ⟨p,hp,hid⟩);refine Uv [.t Fo,.x (Pw hp),.f (by simpa using hid)] rfl ?_;rw[e];exact rc () trivial rfl
  ·obtain rfl:k=l.length:=Fj;have e:=OT hlt (.inl rfl);refine Uv [.f Fp,.f rfl] rfl ?_;rw[e];exact rc () trivial rfl
 ·intro _ _;by_cases h:Sp l id<l.length
  ·obtain⟨p,hp⟩:=gxE (l:=l) (i:=Sp l id) h;have e:has l id=decide (p.id=id):=by simp[has,hp]
   rw[e];exact Uz [] [0] [.g 36 true Fo,.x (Pw hp)] rfl
  ·have e:has l id=false:=by simp[has,Qy (Yq h)]
   rw[e];exact Uz [] [0] [.g 36 false Fo] rfl
theorem SO{lx ly:Fc}{px py:U6}{x y:LV}{d:Int}(hx:IsInts lx px)(hy:IsInts ly py)(hd:Hh x y d)(hk:Cs 4294967294 1073741824 (Crv.mk px py d))(id:Int):U3 69 [.agg [.row lx,.row ly,x,y,.int .i64 id]] [.agg (Ge ⟨Crv.norm (Crv.mk px py d),id⟩)]:=by
 have cd:=Bl hd (Qc hk.d Fj);by_cases h0:d=0
 ·subst h0;have ck:Cs 4294967294 1073741824 (Crv.mk px py 1):=⟨hk.x,hk.y,show Gl 1<=4294967294 by decide,hk.lx,hk.ly⟩;have cm:=GM hx hy (Fy 1) ck Fl;have e:Crv.norm (Crv.mk px py 1)=Crv.norm (Crv.mk px py 0):=by simp only[Crv.norm,Crv.g,Crv.d'];rfl
  rw[e]at cm;obtain⟨b,l,rfl,rfl,_⟩:=hd;exact Uy func69 rfl [.k cd,.k Ed,.t Fp,.k (EZ (z:=1) Fl),.k cm] rfl
 ·have cm:=GM hx hy hd hk h0;obtain⟨b,l,rfl,rfl,_⟩:=hd;exact Uy func69 rfl [.k cd,.k Ed,.f (by simpa using h0),.k cm] rfl
theorem dT{p:Pt}(hn:KX p.c)(hk:Cs 4294967294 1073741824 p.c):U3 69 [.agg (Ge p)] [.agg (Ge p)]:=by
 have h:=SO (Rk p.c.x) (Rk p.c.y) (Fy p.c.d) hk p.id;rw[show Crv.mk p.c.x p.c.y p.c.d=p.c from rfl,Crv.norm_of hn]at h;exact h
theorem Qi6(hk:Cs 4294967294 1073741824 k):U3 179 [.agg (cl k)] [.one (.bool (JV k))]:=by
 have hlx:=hk.lx;have hly:=hk.ly;refine G5 func179 rfl ?_;refine Uv [] rfl ?_;refine U0 (S:=Nat) 1 (λL1 i=>(15,.v (.oi i))::L1) (λ_=>[.blk 37 (cl k)]) (λi=>3-i) (λi=>i≤3/\(0<i->∀z∈k.x,Gl z≤128)/\(1<i->∀z∈k.y,Gl z≤128)/\(2<i->Gl k.d≤128)) 0 ⟨Fl,Fj,Fj,Fj⟩ rfl rfl λi ⟨hi,g0,g1,g2⟩=>?_
 rcases(show i=0\/i=1\/i=2\/i=3 by omega)with rfl|rfl|rfl|rfl
 ·have hl:((k.x).map Rj).length=(k.x).length:=Fp;refine Uv [.t rfl,.i 0] rfl ?_ Fw;refine U0 (S:=Nat) 1 (λL1 j=>(20,.v (.oi j))::L1) (λ_=>[.blk 37 (cl k)]) (λj=>(k.x).length-j) (λj=>j<=(k.x).length/\∀n z,n<j->(k.x)[n]? = some z->Gl z<=128) 0 ⟨Qg _,λn z h=>Fj⟩ rfl rfl λj ⟨hj,hs⟩=>?_
  by_cases h:j<(k.x).length
  ·obtain⟨z,hz⟩:=gxE (l:=(k.x)) (i:=j) h;by_cases hb:Gl z<=128
   ·have hb4:=JD.2 hb;refine Uw [.t Fo,.x (Rm (f:=Rj) hz),.f (by simp[gV];omega)] rfl ?_;exact rd (j+1) Fj ⟨h,λn y hn hy=>by
     rcases Zc n j with h2|h2
     ·exact hs n y h2 hy
     ·have:n=j:=Fj;subst this;rw[hz]at hy;injection hy with hy;rw[<-hy];exact hb⟩ rfl
   ·have hb4:=mt JD.1 hb;rw[FA (Qp.2 (.inl (Qp.2 (.inl (Qa hz))))) hb];exact Ux [.t Fo,.x (Rm (f:=Rj) hz),.t (by simp[gV];omega)] rfl
  ·have hall:∀z∈k.x,Gl z≤128:=λz hz=>by
    obtain⟨n,hn⟩:=Zx hz;exact hs n z (by have:=(Qd.1 hn).1;omega) hn
   refine Uv [.f Fo] rfl ?_ Fw;exact rd 1 Fj ⟨Fj,λ_=>hall,Fj,Fj⟩ rfl
 ·have hl:((k.y).map Rj).length=(k.y).length:=Fp;refine Uv [.t rfl,.i 1] rfl ?_ Fw;refine U0 (S:=Nat) 1 (λL1 j=>(20,.v (.oi j))::L1) (λ_=>[.blk 37 (cl k)]) (λj=>(k.y).length-j) (λj=>j<=(k.y).length/\∀n z,n<j->(k.y)[n]? = some z->Gl z<=128) 0 ⟨Qg _,λn z h=>Fj⟩ rfl rfl λj ⟨hj,hs⟩=>?_
  by_cases h:j<(k.y).length
  ·obtain⟨z,hz⟩:=gxE (l:=(k.y)) (i:=j) h;by_cases hb:Gl z<=128
   ·have hb4:=JD.2 hb;refine Uw [.t Fo,.x (Rm (f:=Rj) hz),.f (by simp[gV];omega)] rfl ?_;exact rd (j+1) Fj ⟨h,λn y hn hy=>by
     rcases Zc n j with h2|h2
     ·exact hs n y h2 hy
     ·have:n=j:=Fj;subst this;rw[hz]at hy;injection hy with hy;rw[<-hy];exact hb⟩ rfl
   ·have hb4:=mt JD.1 hb;rw[FA (Qp.2 (.inl (Qp.2 (.inr (Qa hz))))) hb];exact Ux [.t Fo,.x (Rm (f:=Rj) hz),.t (by simp[gV];omega)] rfl
  ·have hall:∀z∈k.y,Gl z≤128:=λz hz=>by
    obtain⟨n,hn⟩:=Zx hz;exact hs n z (by have:=(Qd.1 hn).1;omega) hn
   refine Uv [.f Fo] rfl ?_ Fw;exact rd 2 Fj ⟨Fj,λ_=>g0 Fj,λ_=>hall,Fj⟩ rfl
 ·have hl:(([k.d]).map Rj).length=([k.d]).length:=Fp;have h1:([k.d]).length=1:=rfl;refine Uv [.t rfl,.i 2] rfl ?_ Fw;refine U0 (S:=Nat) 1 (λL1 j=>(20,.v (.oi j))::L1) (λ_=>[.blk 37 (cl k)]) (λj=>([k.d]).length-j) (λj=>j<=([k.d]).length/\∀n z,n<j->([k.d])[n]? = some z->Gl z<=128) 0 ⟨Qg _,λn z h=>Fj⟩ rfl rfl λj ⟨hj,hs⟩=>?_
  by_cases h:j<([k.d]).length
  ·obtain⟨z,hz⟩:=gxE (l:=([k.d])) (i:=j) h;by_cases hb:Gl z<=128
   ·have hb4:=JD.2 hb;refine Uw [.t Fo,.x (Rm (f:=Rj) hz),.f (by simp[gV];omega)] rfl ?_;exact rd (j+1) Fj ⟨h,λn y hn hy=>by
     rcases Zc n j with h2|h2
     ·exact hs n y h2 hy
     ·have:n=j:=Fj;subst this;rw[hz]at hy;injection hy with hy;rw[<-hy];exact hb⟩ rfl
   ·have hb4:=mt JD.1 hb;rw[FA (Qp.2 (.inr (Qa hz))) hb];exact Ux [.t Fo,.x (Rm (f:=Rj) hz),.t (by simp[gV];omega)] rfl
  ·have hall:∀z∈[k.d],Gl z≤128:=λz hz=>by
    obtain⟨n,hn⟩:=Zx hz;exact hs n z (by have:=(Qd.1 hn).1;omega) hn
   refine Uv [.f Fo] rfl ?_ Fw;exact rd 3 Fj ⟨Fj,λ_=>g0 Fj,λ_=>g1 Fj,λ_=>hall k.d Fp⟩ rfl
 ·rw[qZ.2 ⟨g0 Fj,g1 Fj,g2 Fj⟩];exact Ux [.f rfl] rfl
def YO(p:Pt):Bool:=decide (0<=p.id) && (decide (p.id<=1048576) && JV p.c)
theorem Qjb{p:Pt}(hk:Cs 4294967294 1073741824 p.c):U3 114 [.agg (Ge p)] [.one (.bool (YO p))]:=by
 have cs:=Qi6 hk;by_cases h0:0<=p.id
 ·by_cases h1:p.id<=1048576
  ·have e:YO p=JV p.c:=by simp[YO,h0,h1]
   rw[e];exact Uy func114 rfl [.t (by simpa using h0),.t (by simpa using h1),.k cs] rfl
  ·have e:YO p=false:=by simp[YO,h1]
   rw[e];exact Uy func114 rfl [.t (by simpa using h0),.f (by simpa using h1)] rfl
 ·have e:YO p=false:=by simp[YO,h0]
  rw[e];exact Uy func114 rfl [.f (by simpa using h0),.f rfl] rfl
theorem Qik(hn:KX k)(hk:Cs 4294967294 1073741824 k):U3 115 [.agg (cl k)] [.oi (BN k)] :=
 Uy func115 rfl [.k (EF hn hk),.k (Np k.x),.k (Np k.y)] rfl
def L9(np nd:Int)(M:List Pt)(p:Pt):Int:=if YO p=false then 1 else if has M p.id=true then 6 else if nd<BN p.c then 7 else if np<=(M.length:Int)then 9 else 0
theorem Qxk{lx ly:Fc}{px py:U6}{x y:LV}{d nd:Int}(hx:IsInts lx px)(hy:IsInts ly py)(hd:Hh x y d)(hk:Cs 4294967294 1073741824 (Crv.mk px py d))(hl:l.length<=1000000):
 Ga prog 55 [.one (.ow 0 0),.agg [.row lx,.row ly,x,y,.int .i64 id]] [tB np nd l] [.oi (L9 np nd l (Pt.mk (Crv.norm (Crv.mk px py d)) id))] [tB np nd (if L9 np nd l (Pt.mk (Crv.norm (Crv.mk px py d)) id)=0 then put l (Pt.mk (Crv.norm (Crv.mk px py d)) id)else l)]:=by
 have cf:=SO hx hy hd hk id;have hkn:=hk.norm Fj;have hnm:=Crv.nml (Crv.mk px py d);obtain⟨b,r,rfl,rfl,_⟩:=hd;obtain⟨q,hq⟩:=nmE (Pt.mk (Crv.norm (Crv.mk px py d)) id);have hqi:q.id=id:=by rw[hq]
 have hqc:q.c=Crv.norm (Crv.mk px py d):=by rw[hq]
 rw[<-hq]at cf ⊢;rw[<-hqc]at hkn hnm;have ca:Ga prog 113 [.one (.ow 0 0),.oi q.id] [tB np nd l] [.oi (Sp l id:Int),.one (.bool (has l id))] [tB np nd l]:=by rw[hqi];exact Qal id Fj
 have cm:=Qjb (p:=q) hkn;have cd:=Qik hnm hkn;have Dz:=uT l id;have hll:(l.map Ge).length=l.length:=Fp;by_cases h0:YO q=false
 ·have e:L9 np nd l q=1:=by simp[L9,h0]
  rw[e,if_neg Fl];refine G5 func55 rfl ?_;exact Uz [] [0] [.k cf,.c [0] ca,.k cm,.t (by simp[h0])] rfl
 by_cases h1:has l id=true
 ·have e:L9 np nd l q=6:=by simp[L9,h0,hqi,h1]
  rw[e,if_neg Fl];refine G5 func55 rfl ?_;exact Uz [] [0] [.k cf,.c [0] ca,.k cm,.f (by simpa using h0),.t h1] rfl
 by_cases h2:nd<BN q.c
 ·have e:L9 np nd l q=7:=by simp[L9,h0,hqi,h1,h2]
  rw[e,if_neg Fl];refine G5 func55 rfl ?_;exact Uz [] [0] [.k cf,.c [0] ca,.k cm,.f (by simpa using h0),.f (by simpa using h1),.k cd,.t (by simpa using h2)] rfl
 by_cases h3:np<=(l.length:Int)
 ·have e:L9 np nd l q=9:=by simp[L9,h0,hqi,h1,h2,h3]
  rw[e,if_neg Fl];refine G5 func55 rfl ?_;exact Uz [] [0] [.k cf,.c [0] ca,.k cm,.f (by simpa using h0),.f (by simpa using h1),.k cd,.f (by simpa using h2),.t Fo] rfl
 have e:L9 np nd l q=0:=by simp[L9,h0,hqi,h1,h2,h3]
 rw[e,if_pos rfl];have s1:∀c∈(l.map Ge).take (Sp l id),c.length=5:=λc hc=>P8 l c (Qn hc)
 have s3:∀c∈(l.map Ge).drop (Sp l id),c.length=5:=λc hc=>P8 l c (Qx hc)
 have ep:pts (put l q)=.row ((l.map Ge).take (Sp l id)++[Ge q]++(l.map Ge).drop (Sp l id)):=by
  simp[put,hqi,pts,Yf,Vd]
 have eB:tB np nd (put l q)=.blk 153 [.int .i64 np,.int .i64 nd,.row ((l.map Ge).take (Sp l id)++[Ge q]++(l.map Ge).drop (Sp l id))]:=by
  show OB.blk 153 [.int .i64 np,.int .i64 nd,pts (put l q)]=_;rw[ep]
 rw[eB];refine G5 func55 rfl ?_;exact Uz [2] [0] [.k cf,.c [0] ca,.k cm,.f (by simpa using h0),.f (by simpa using h1),.k cd,.f (by simpa using h2),.f Fo,.i (Sp l id),.s s1,.i (Sp l id),.s s3] rfl (by
  simp only[Gd,Qu,Q5,Xy,Qq,Q9,hll]
  and_intros <;> first|exact P8 l|omega)
def B8(nd:Int)(M:List Pt)(p:Pt):Int:=if YO p=false then 1 else if has M p.id=false then 5 else if nd<BN p.c then 7 else 0
theorem Qrc{lx ly:Fc}{px py:U6}{x y:LV}{d nd:Int}(hx:IsInts lx px)(hy:IsInts ly py)(hd:Hh x y d)(hk:Cs 4294967294 1073741824 (Crv.mk px py d))(hl:l.length<=1000000):
 Ga prog 58 [.one (.ow 0 0),.agg [.row lx,.row ly,x,y,.int .i64 id]] [tB np nd l] [.oi (B8 nd l (Pt.mk (Crv.norm (Crv.mk px py d)) id))] [tB np nd (if B8 nd l (Pt.mk (Crv.norm (Crv.mk px py d)) id)=0 then l.set (Sp l id) (Pt.mk (Crv.norm (Crv.mk px py d)) id)else l)]:=by
 have cf:=SO hx hy hd hk id;have hkn:=hk.norm Fj;have hnm:=Crv.nml (Crv.mk px py d);obtain⟨b,r,rfl,rfl,_⟩:=hd;obtain⟨q,hq⟩:=nmE (Pt.mk (Crv.norm (Crv.mk px py d)) id);have hqi:q.id=id:=by rw[hq]
 have hqc:q.c=Crv.norm (Crv.mk px py d):=by rw[hq]
 rw[<-hq]at cf ⊢;rw[<-hqc]at hkn hnm;have ca:Ga prog 113 [.one (.ow 0 0),.oi q.id] [tB np nd l] [.oi (Sp l id:Int),.one (.bool (has l id))] [tB np nd l]:=by rw[hqi];exact Qal id Fj
 have cm:=Qjb (p:=q) hkn;have cd:=Qik hnm hkn;have Dz:=uT l id;have hll:(l.map Ge).length=l.length:=Fp;by_cases h0:YO q=false
 ·have e:B8 nd l q=1:=by simp[B8,h0]
  rw[e,if_neg Fl];refine G5 func58 rfl ?_;exact Uz [] [0] [.k cf,.c [0] ca,.k cm,.t (by simp[h0])] rfl
 by_cases h1:has l id=false
 ·have e:B8 nd l q=5:=by simp[B8,h0,hqi,h1]
  rw[e,if_neg Fl];refine G5 func58 rfl ?_;exact Uz [] [0] [.k cf,.c [0] ca,.k cm,.f (by simpa using h0),.t (by simp[h1])] rfl
 by_cases h2:nd<BN q.c
 ·have e:B8 nd l q=7:=by simp[B8,h0,hqi,h1,h2]
  rw[e,if_neg Fl];refine G5 func58 rfl ?_;exact Uz [] [0] [.k cf,.c [0] ca,.k cm,.f (by simpa using h0),.f (by simpa using h1),.k cd,.t (by simpa using h2)] rfl
 have e:B8 nd l q=0:=by simp[B8,h0,hqi,h1,h2]
 rw[e,if_pos rfl];have hh:has l id=true:=by simpa using h1
 have hps:=WY hh;have eB:tB np nd (l.set (Sp l id) q)=.blk 153 [.int .i64 np,.int .i64 nd,.row ((l.map Ge).set (Sp l id) (Ge q))]:=by
  show OB.blk 153 [.int .i64 np,.int .i64 nd,pts (l.set (Sp l id) q)]=_;unfold pts;rw[List.map_set]
 rw[eB];refine G5 func58 rfl ?_;exact Uz [2] [0] [.k cf,.c [0] ca,.k cm,.f (by simpa using h0),.f (by simpa using h1),.k cd,.f (by simpa using h2),.s (P8 l),.i (Sp l id)] rfl (by
  simp only[Gd,hll]
  and_intros <;> first|exact P8 l|omega)
theorem Qrb{nd:Int}(hl:l.length<=1000000)(h:has l id=true):
 Ga prog 57 [.one (.ow 0 0),.oi id] [tB np nd l] [.oi 0] [tB np nd (l.take (Sp l id)++l.drop (Sp l id+1))]:=by
 have ca:=Qal (np:=np) (nd:=nd) (l:=l) id Fj;have Dz:=WY h;rw[h]at ca;have hll:(l.map Ge).length=l.length:=Fp;have s1:∀c∈(l.map Ge).take (Sp l id),c.length=5:=λc hc=>P8 l c (Qn hc)
 have s3:∀c∈(l.map Ge).drop (Sp l id+1),c.length=5:=λc hc=>P8 l c (Qx hc)
 have eB:tB np nd (l.take (Sp l id)++l.drop (Sp l id+1))=.blk 153 [.int .i64 np,.int .i64 nd,.row ((l.map Ge).take (Sp l id)++(l.map Ge).drop (Sp l id+1))]:=by
  show OB.blk 153 [.int .i64 np,.int .i64 nd,pts (l.take (Sp l id)++l.drop (Sp l id+1))]=_;unfold pts;rw[List.map_append,List.map_take,List.map_drop]
 rw[eB];refine G5 func57 rfl ?_;exact Uz [1] [0] [.c [0] ca,.f rfl,.i (Sp l id),.s s1,.i (Sp l id+1),.s s3] rfl (by
  simp only[Gd,Qu,Q5,Xy,Qq,Q9,hll]
  and_intros <;> first|exact P8 l|omega)
theorem Qi9{nd:Int}(hl:l.length<=1000000)(h:has l id=false):
 Ga prog 57 [.one (.ow 0 0),.oi id] [tB np nd l] [.oi 5] [tB np nd l]:=by
 have ca:=Qal (np:=np) (nd:=nd) (l:=l) id Fj;rw[h]at ca;refine G5 func57 rfl ?_;exact Uz [] [0] [.c [0] ca,.t rfl] rfl
theorem Qxi{nd:Int}(hok:∀p∈l,Qpc 4294967294 1073741824 p)(hl:l.length≤1000000):Ga prog 27 [.one (.ow 0 0)] [tB np nd l] [.one (pts l)] [tB np nd l]:=by
 have hll:(l.map Ge).length=l.length:=Fp;refine G5 func27 rfl ?_;refine Uv [.o 3 39 5] rfl ?_;refine U0 (S:=Nat) 2 (λL1 i=>(11,.v (.oi i))::(3,.v (.one (.orow 1 5 none)))::L1) (λi=>[tB np nd l,.row false 39 5 ((l.take i).map Ge)]) (λi=>l.length-i) (λi=>i<=l.length) 0 (Qg _) rfl rfl λi hi=>?_
 by_cases h:i<l.length
 ·obtain⟨p,hp⟩:=gxE (l:=l) (i:=i) h;have hpo:=hok p (Qa hp);have cf:=dT hpo.1 hpo.2;have s2:∀c∈[Ge p],c.length=5:=λc hc=>by rw[Ql.1 hc];rfl
  have hg:(l.take (i+1)).map Ge=(l.take i).map Ge++[Ge p]:=by rw[Xb,hp];simp
  refine Uw [.t Fo,.x (Pw hp),.k cf,.s s2] rfl ?_;exact rd (i+1) Fj h (by rw[hg];rfl)
 ·obtain rfl:i=l.length:=Fj;rw[Q6];exact Uz [1] [0] [.f Fp] rfl
theorem Qi8{nd:Int}:Ga prog 125 [.one (.ow 0 0)] [tB np nd l] [.one (.ow 1 0)] [tB np nd l,tB np nd l]:=by
 refine G5 func125 rfl ?_;exact Uz [] [0,1] [] rfl
def QI(l:List (Pt×Pt)):Fc:=l.map Qfn
theorem Qrw{l m:Fc}(h:l=m):TV.one (LV.row l)=.one (.row m):=h ▸ rfl
theorem oz{P:Program}[Mo P]{n:Nat}{Q:Exit->Sg->Fe->Prop}{L L':Sg}{B B':Fe}(d off T sz:Nat){it:List It}(hs:Tz it=true)(h:aK (P:=P) d L B [.oc d off T sz]=some (L',B',[],[]))(k:AK P n Q it L' B'):AK P n Q it L B:=AK.sub (OM h EqOk.nil) hs k
theorem Qp9{a b:Pt}{t:Tm}(ha:Sc a.c)(hb:Sc b.c)(ht:Va t):U3 165 [.oi 2,.agg (ta t),.one (.row [Ge a,Ge b])] [.agg (Lt (Ev (Gm t) a b)),.oi 0]:=by
 have h1:=B9 hb ha;have h2:=Ca hb ha;refine G5 func165 rfl ?_;refine Uv [.k Qee,.f rfl] rfl ?_;refine U0 (S:=Nat) 3 (λL1 i=>(22,.v (.oi i))::L1) (λi=>[.blk 75 (ta t),.blk 168 zCt,.blk 168 [.int .i64 2,.int .i64 (if 1<=i then a.id else 0),.int .i64 (if 2<=i then b.id else 0),.int .i64 0,.int .i64 0,.nils,.int .i64 0]]) (λi=>2-i) (λi=>i<=2) 0 (Qg _) rfl rfl λi hi=>?_
 rcases(show i=0\/i=1\/i=2 by omega)with rfl|rfl|rfl
 ·refine Uv [.t rfl,.x (i:=0) (xs:=Ge a) rfl,.i 0] rfl ?_ Fw;exact rd 1 Fj Fj rfl
 ·refine Uv [.t rfl,.x (i:=1) (xs:=Ge b) rfl,.i 1] rfl ?_ Fw;exact rd 2 Fj Fj rfl
 ·exact Ux [.f rfl,.f rfl,.t rfl,.x (i:=1) (xs:=Ge b) rfl,.x (i:=0) (xs:=Ge a) rfl,.k (GF hb.n ha.n hb.cb ha.cb),.x (i:=1) (xs:=Ge b) rfl,.x (i:=0) (xs:=Ge a) rfl,.k (GR hb.n ha.n hb.cb ha.cb),.k rM,.k (JH (KP h1 h2).dp ht)] rfl
variable{c:Cr}
theorem Qh8{a:Tm}(ha:Va a){r0 r1:Fc}:∀(k:Nat) (l:List Pt) (ms:List (Pt×Pt)),l.length≤k->l.length≤1000->ms.length+l.length≤1000000->(∀p∈l,Sc p.c)->Ga prog 164 [.one (.ow 0 0),.agg (ta a),.one (pts l)] [.blk 190 [.bool true,pl c.now.p,sg c.now.lo.num,mg c.now.lo.num,sg (c.now.lo.den:Int),mg (c.now.lo.den:Int),sg c.now.hi.num,mg c.now.hi.num,sg (c.now.hi.den:Int),mg (c.now.hi.den:Int),.row (Dx c.l),.int .i64 c.ev,.row r0,.row r1,.orow 1 10 none],.row false 258 10 (QI ms)] [.one (.row (Fx (Ny (Gm a) l).1))] [.blk 190 [.bool true,pl c.now.p,sg c.now.lo.num,mg c.now.lo.num,sg (c.now.lo.den:Int),mg (c.now.lo.den:Int),sg c.now.hi.num,mg c.now.hi.num,sg (c.now.hi.den:Int),mg (c.now.hi.den:Int),.row (Dx c.l),.int .i64 c.ev,.row r0,.row r1,.orow 1 10 none],.row false 258 10 (QI (ms++(Ny (Gm a) l).2))]
 := by
  intro k
  induction k with
  |zero=>?_
  |succ k ih=>?_
  all_goals
   intro l ms hk hn hms hl;have hcl:=Ha l;show Ga prog 164 [.one (.ow 0 0),.agg (ta a),.one (.row (Fx l))] _ _ _;by_cases hs:l.length<2
   ·rw[Cn _ hs,Zw];refine G5 func164 rfl ?_;exact Uz [] [0,1] [.t (by simp[hcl];omega)] rfl
   first
    |(exfalso;omega)
    |
     skip
     obtain⟨k1,k2,k3,k4⟩:=lT hs hk;obtain⟨h,hh⟩:=nmE ((l.length+1) / 2);obtain⟨u,hu,hul,_⟩:=Nz (Gm a) k (l.take ((l.length+1) / 2)) k1 k3;obtain⟨v,hv,hvl,_⟩:=Nz (Gm a) k (l.drop ((l.length+1) / 2)) k2 k4;have g1:=Ej (Gm a) _ (l.take ((l.length+1) / 2)) (Qm _);have g2:=Ej (Gm a) _ (l.drop ((l.length+1) / 2)) (Qm _);have hlt:(l.take ((l.length+1) / 2)).length+(l.drop ((l.length+1) / 2)).length=l.length:=by rw[Qq,Q9];omega
     have c1:=ih (l.take ((l.length+1) / 2)) ms k1 Fj Fj λp hp=>hl p (Qn hp)
     have c2:=ih (l.drop ((l.length+1) / 2)) (ms++(Ny (Gm a) (l.take ((l.length+1) / 2))).2) k2 Fj (by rw[Qu];omega) λp hp=>hl p (Qx hp)
     have Dz:=Im (Gm a) hs hu hv;rw[Dz];rw[hu]at c1;rw[hv]at c2;generalize (Ny (Gm a) (l.take ((l.length+1) / 2))).2=G1 at *;generalize (Ny (Gm a) (l.drop ((l.length+1) / 2))).2=G2 at *;have hsu:=hl u (Qn hul);have hsv:=hl v (Qx hvl);have cb:=oW (t:=a) hsu hsv ha;have htd:((l.length:Int)+1).tdiv 2=(((l.length+1) / 2:Nat):Int):=rfl;have hg:∀m,QI (ms++(G1++G2++[m]))=QI ((ms++G1)++G2)++[Qfn m]:=λm=>by simp[QI]
     have hml:(QI ((ms++G1)++G2)).length=ms.length+G1.length+G2.length:=by simp[QI];omega
     have hml2:(QI (ms++(G1++G2))).length=ms.length+G1.length+G2.length:=by simp[QI];omega
     have h5:=eq_true (p:=∀z,z∈Fx l->z.length=ti39.sz) (JZ l);have e1:(Fx l).take ((l.length+1) / 2)=Fx (l.take ((l.length+1) / 2)):=by simp[Fx,Yf]
     have e2:(Fx l).drop ((l.length+1) / 2)=Fx (l.drop ((l.length+1) / 2)):=by simp[Fx,Vd]
     unfold HY;refine G5 func164 rfl ?_;by_cases hb:M5 (Gm a) u v=true
     ·rw[if_pos hb,hg];exact Uz [] [0,1] [.f (by simp[hcl];omega),.r 17 (eI (b:=(((l.length+1) / 2:Nat):Int)) (by rw[hcl];rfl)),.i ((l.length+1) / 2),.r 22 (Qrw e1),.c [0,1] c1,.i ((l.length+1) / 2),.r 28 (Qrw e2),.c [0,1] c2,.x (i:=0) (l:=Fx [u]) (xs:=Ge u) rfl,.x (i:=0) (l:=Fx [v]) (xs:=Ge v) rfl,.k cb,.f (by rw[hb];rfl),.x (i:=0) (l:=Fx [u]) (xs:=Ge u) rfl,.x (i:=0) (l:=Fx [v]) (xs:=Ge v) rfl,.s (sz:=10) (l:=[Qfn (u,v)]) (λc hc=>by rw[Ql.1 hc];rfl),.i 1] rfl (by simp[Gd,Ha,hml2,h5];omega)
     ·have hb:M5 (Gm a) u v=false:=by simpa using hb
      rw[if_neg (by simp[hb]),hg];exact Uz [] [0,1] [.f (by simp[hcl];omega),.r 17 (eI (b:=(((l.length+1) / 2:Nat):Int)) (by rw[hcl];rfl)),.i ((l.length+1) / 2),.r 22 (Qrw e1),.c [0,1] c1,.i ((l.length+1) / 2),.r 28 (Qrw e2),.c [0,1] c2,.x (i:=0) (l:=Fx [u]) (xs:=Ge u) rfl,.x (i:=0) (l:=Fx [v]) (xs:=Ge v) rfl,.k cb,.t (by rw[hb];rfl),.x (i:=0) (l:=Fx [v]) (xs:=Ge v) rfl,.x (i:=0) (l:=Fx [u]) (xs:=Ge u) rfl,.s (sz:=10) (l:=[Qfn (v,u)]) (λc hc=>by rw[Ql.1 hc];rfl),.i 1] rfl (by simp[Gd,Ha,hml2,h5];omega)
theorem zC{a:Tm}{r1:Fc×Fc}(hl:∀p∈l,Sc p.c)(hn:l.length≤1000)(ha:Va a):Ga prog 91 [.one (.ow 0 0),.agg (ta a)] [.blk 190 (Ph c (Fx l) r1)] [.one (.row (Gg (zG l a)))] [.blk 190 (Ph c (Fx l) (cB l a))]:=by
 have cp:=Qh8 (r0:=Fx l) (c:=c) (r1:=r1.1) ha l.length l [] (Qm _) hn (by show 0+l.length≤1000000;omega) hl;have hms:=Ej (Gm a) l.length l (Qm _);unfold zG cB;obtain⟨M,hM⟩:=nmE ((Ny (Gm a) l).2);have hmm:∀m∈M,Sc m.1.c/\Sc m.2.c:=λm hm=>by
  rw[hM]at hm;exact⟨hl _ (VR m hm).1,hl _ (VR m hm).2⟩
 rw[<-hM]at cp hms ⊢;rw[Y3]at cp;have hgl:(QI M).length=M.length:=by simp[QI]
 refine G5 func91 rfl ?_;refine Uv [] rfl ?_;refine oz 0 14 258 10 rfl rfl ?_;refine Uv [.k QX,.c [0,2] cp,.o 5 168 7] rfl ?_;refine U0 (S:=Nat) 4 (λL1 i=>(29,.v (.oi i))::(5,.v (.one (.orow 3 7 none)))::L1) (λi=>[.blk 190 [.bool true,pl c.now.p,sg c.now.lo.num,mg c.now.lo.num,sg (c.now.lo.den:Int),mg (c.now.lo.den:Int),sg c.now.hi.num,mg c.now.hi.num,sg (c.now.hi.den:Int),mg (c.now.hi.den:Int),.row (Dx c.l),.int .i64 c.ev,.row (Fx l),.row (Fx (Ny (Gm a) l).1),.orow 2 10 none],.blk 75 (ta a),.row false 258 10 (QI M),.row false 168 7 (Gg ((M.map λm=>Ev (Gm a) m.1 m.2).take i))]) (λi=>M.length-i) (λi=>i<=M.length) 0 (Qg _) rfl rfl λi hi=>?_
 by_cases hlt:i<M.length
 ·obtain⟨m,hm⟩:=gxE (l:=M) (i:=i) hlt;obtain⟨s1,s2⟩:=hmm m (Qa hm);have hg:(QI M)[i]? = some (Qfn m):=Rm hm;have hq:∀y∈[Lt (Ev (Gm a) m.1 m.2)],y.length=7:=λy hy=>by rw[Ql.1 hy];rfl
  have ht:(M.map λm=>Ev (Gm a) m.1 m.2).take (i+1)=(M.map λm=>Ev (Gm a) m.1 m.2).take i++[Ev (Gm a) m.1 m.2]:=by
   rw[Xb,Zb,hm];rfl
  refine go tt [.T,.i i,.x hg,.i 0,.i 1,.k (Qp9 s1 s2 ha),.s (sz:=7) hq] rfl (by simp[Gd,hgl,Mx];omega) ?_;exact rd (i+1) Fj hlt (by rw[ht];simp[Gg];rfl)
 ·obtain rfl:i=M.length:=Fj;rw[Qo Fp];exact Uz [2,3] [0] [.F] rfl
def Q0z(l:List Pt)(a:Tm):Cr:=⟨a,(Gu (zG l a)).map fresh,0⟩
theorem Qqq{t:Rat}{K:Nat}{c':Cr}{r1 r1':Fc×Fc}{n:Int}(ht:Qs 1640000 t)(hl:∀p∈l,Sc p.c)(hn:l.length≤1000)(hc:CrOk c)(hev:0≤c.ev/\c.ev+K≤1000000000000000000)(h:Gx c.now t≤0)(hg:SV (zG l) (cB l) t K c r1 0=some (c',r1',n)):
 Ga prog 387 [.one (.ow 0 0),.agg (rl t)] [.blk 190 (Ph c (Fx l) r1)] [.oi n,.oi 0] [.blk 190 (Ph c' (Fx l) r1')]:=by
 have cg:=Q1b (T:=190) (r0:=Fx l) ht (cZ hl hn) (λa c r1 ha _=>zC (c:=c) (r1:=r1) hl hn ha) hc hev h hg;refine G5 func387 rfl ?_;exact Uz [] [0] [.k (Cx (ht.mono Fl)),.c [0] cg] rfl
theorem Qqs{r0 r2:Fc}{w:Pt}:Ga prog 67 [.one (.ow 0 0)] [.blk 190 (Ph c r0 ([Ge w],r2))] [.oi w.id,.one (.bool true)] [.blk 190 (Ph c r0 ([Ge w],r2))]:=by
 refine G5 func67 rfl ?_;exact Uz [] [0] [.f rfl,.x (i:=0) (xs:=Ge w) rfl] rfl
theorem Qic{r0 r2:Fc}:Ga prog 67 [.one (.ow 0 0)] [.blk 190 (Ph c r0 ([],r2))] [.oi 0,.one (.bool false)] [.blk 190 (Ph c r0 ([],r2))]:=by
 refine G5 func67 rfl ?_;exact Uz [] [0] [.t rfl] rfl

end Orr
namespace Orr
open Go Go.Proofs Tryz
set_option maxRecDepth 10000
end Orr
namespace Orr
open Go Go.Proofs Tryz Orq
set_option maxRecDepth 10000


variable{c:Cr}{l l':List Pt}{r1:Fc×Fc}{ws:List Wt}
theorem EU(hc:CrOk c)(hl:∀p∈l',Sc p.c)(hn:l'.length≤1000)(h:Pd c.l c.now (Gu (zG l' c.now))=some ws):
 Ga prog 391 [.one (.ow 0 0),.agg [pts l'],.oi 0] [.blk 190 (Ph c (Fx l) r1)] [.oi 0] [.blk 190 (Ph ⟨c.now,ws,c.ev⟩ (Fx l') (cB l' c.now))]:=by
 have hB:=cZ hl hn;have cn:=dK (T:=190) (c:=c) (r0:=Fx l') (r1:=r1) hc.n;have cb:=zC (c:=c) (r1:=r1) hl hn hc.n;have cg:=Qd6 (T:=190) (r0:=Fx l') (r1:=cB l' c.now) hc hc.n (QP hc.n) (Yv 0) (hB.p _ hc.n) (hB.n _ hc.n) h;refine G5 func391 rfl ?_;exact Uz [] [0] [.f rfl,.c [0] cn,.c [0] cb,.c [0] cg] rfl
variable{ly:Fc}{id:Int}
theorem Qqr{lx:Fc}{px py:U6}{x y:LV}{d:Int}(hx:IsInts lx px)(hy:IsInts ly py)(hd:Hh x y d)(hk:Cs 4294967294 1073741824 (Crv.mk px py d))(hll:l.length<=900)
 (he:FT l ⟨Crv.norm (Crv.mk px py d),id⟩=0) (hc:CrOk c) (hl:∀p∈put l ⟨Crv.norm (Crv.mk px py d),id⟩,Sc p.c) (hn:(put l ⟨Crv.norm (Crv.mk px py d),id⟩).length≤1000) (h:Pd c.l c.now (Gu (zG (put l ⟨Crv.norm (Crv.mk px py d),id⟩) c.now))=some ws) :
 Ga prog 389 [.one (.ow 0 0),.agg [.row lx,.row ly,x,y,.int .i64 id]] [.blk 190 (Ph c (Fx l) r1)] [.oi 0] [.blk 190 (Ph ⟨c.now,ws,c.ev⟩ (Fx (put l ⟨Crv.norm (Crv.mk px py d),id⟩)) (cB (put l ⟨Crv.norm (Crv.mk px py d),id⟩) c.now))]:=by
 have cp:=rR (l:=l) (id:=id) hx hy hd hk Fj;rw[if_pos he,he]at cp;have cw:=EU (l:=l) (r1:=r1) hc hl hn h;refine G5 func389 rfl ?_;obtain⟨b,l',rfl,rfl,_⟩:=hd;exact Uz [] [0] [.k cp,.c [0] cw] rfl
theorem Qib{lx:Fc}{px py:U6}{x y:LV}{d:Int}(hx:IsInts lx px)(hy:IsInts ly py)(hd:Hh x y d)(hk:Cs 4294967294 1073741824 (Crv.mk px py d))(hll:l.length<=1000)(h:has l id=true)(hc:CrOk c)
 (hl':l'=l.set (Sp l id) (Pt.mk (Crv.norm (Crv.mk px py d)) id)) (hs:∀p∈l',Sc p.c) (hw:Pd c.l c.now (Gu (zG l' c.now))=some ws) :
 Ga prog 390 [.one (.ow 0 0),.agg [.row lx,.row ly,x,y,.int .i64 id]] [.blk 190 (Ph c (Fx l) r1)] [.oi 0] [.blk 190 (Ph ⟨c.now,ws,c.ev⟩ (Fx l') (cB l' c.now))]:=by
 have ct1:=GN (l:=l) hx hy hd hk Fj h;rw[<-hl']at ct1;have cw:=EU (c:=c) (l:=l) (l':=l') (r1:=r1) hc hs (by rw[hl',Xs];omega) hw;obtain⟨b,r,rfl,rfl,_⟩:=hd;refine G5 func390 rfl ?_;exact Uz [] [0] [.k ct1,.c [0] cw] rfl
theorem Qia(hll:l.length<=1000)(h:has l id=true)(hc:CrOk c)
 (hl':l'=l.take (Sp l id)++l.drop (Sp l id+1)) (hs:∀p∈l',Sc p.c) (hw:Pd c.l c.now (Gu (zG l' c.now))=some ws) :
 Ga prog 388 [.one (.ow 0 0),.oi id] [.blk 190 (Ph c (Fx l) r1)] [.oi 0] [.blk 190 (Ph ⟨c.now,ws,c.ev⟩ (Fx l') (cB l' c.now))]:=by
 have ct1:=GP (l:=l) (id:=id) Fj h;rw[<-hl']at ct1;have cw:=EU (c:=c) (l:=l) (l':=l') (r1:=r1) hc hs (by rw[hl',Qu,Qq,Q9];omega) hw;refine G5 func388 rfl ?_;exact Uz [] [0] [.k ct1,.c [0] cw] rfl
variable{r0:Fc}
theorem Qd7:Ga prog 127 [.one (.ow 0 0)] [.blk 190 (Ph c r0 r1)] [.one (.ow 1 0)] [.blk 190 (Ph c r0 r1),.blk 190 (Ph c r0 r1)]:=by
 refine G5 func127 rfl ?_;exact Uz [] [0,1] [] rfl
def sZ(T:Ni)(s:Int)(n:U6)(F:Ni)(k:Nat):Ni:=(List.range k).foldl (I2 T s n) F
theorem lK(T:Ni)(s:Int)(n:U6)(F:Ni)(k:Nat):sZ T s n F (k+1)=I2 T s n (sZ T s n F k) k:=by unfold sZ;rw[List.range_succ,List.foldl_append];rfl
theorem lV(T:Ni)(s:Int)(n:U6)(F:Ni):sZ T s n F 4=NT T s n F:=rfl
set_option maxHeartbeats 4000000 in
theorem Qw9{F T:Ni}{s n0 n1 n2 n3:Int}(hT:gR T)(hs:-1<=s/\s<=1):Ga prog 171 [.one (.omap 0),.one (.omap 1),.oi s,.agg [.int .i64 n0,.int .i64 n1,.int .i64 n2,.int .i64 n3]] [.mpb F,.mpb T] [] [.mpb (NT T s [n0,n1,n2,n3] F),.mpb T]:=by
 have hm:Qpb T:=λk=>(hT k).1
 have hb:=λ(k:U6) (x:Int) (hx:-1<=x/\x<=1)=>ZV (hT k).2 hx
 rw[<-lV];obtain⟨f,hf⟩:=nmE (sZ T s [n0,n1,n2,n3] F);have f0:F=f 0:=by rw[hf];rfl
 have fs:∀k,f (k+1)=I2 T s [n0,n1,n2,n3] (f k) k:=λk=>by rw[hf];exact lK ..
 rw[<-hf];rw[f0];clear hf f0;refine G5 func171 rfl ?_;refine Uv [] rfl ?_;refine U0 (S:=Nat) 3 (λL1 k=>(14,.v (.oi k))::L1) (λk=>[.mpb (f k),.mpb T,.blk 164 [.int .i64 n0,.int .i64 n1,.int .i64 n2,.int .i64 n3]]) (λk=>4-k) (λk=>k<=4) 0 Fl rfl rfl λk hk=>?_
 rcases(show k=0\/k=1\/k=2\/k=3\/k=4 by omega)with rfl|rfl|rfl|rfl|rfl
 ·have e1:=fs 0;have e2:I2 T s [n0,n1,n2,n3] (f 0) 0=if Db T [n1,n2,n3]*(-s)>0 then Cq (f 0) [n1,n2,n3] (.bool true)else f 0:=rfl
  rw[e2]at e1;refine Uv [.t rfl] rfl ?_;refine U0 (S:=Nat) 4 (λL1 i=>(18,.v (.oi i))::(10,.v (.oi (if i<=0 then(i:Int)else(i:Int)-1)))::L1) (λi=>[.mpb (f 0),.mpb T,.blk 164 [.int .i64 n0,.int .i64 n1,.int .i64 n2,.int .i64 n3],.blk 163 [.int .i64 (if 2<=i then n1 else 0),.int .i64 (if 3<=i then n2 else 0),.int .i64 (if 4<=i then n3 else 0)]]) (λi=>4-i) (λi=>i<=4) 0 Fl rfl rfl λi hi=>?_
  rcases(show i=0\/i=1\/i=2\/i=3\/i=4 by omega)with rfl|rfl|rfl|rfl|rfl
  ·refine Uv [.t rfl,.i 0,.f rfl] rfl ?_ Fw;exact rd 1 Fj Fj rfl
  ·refine Uv [.t rfl,.i 1,.t rfl,.i 0] rfl ?_ Fw;exact rd 2 Fj Fj rfl
  ·refine Uv [.t rfl,.i 2,.t rfl,.i 1] rfl ?_ Fw;exact rd 3 Fj Fj rfl
  ·refine Uv [.t rfl,.i 3,.t rfl,.i 2] rfl ?_ Fw;exact rd 4 Fj Fj rfl
  ·have hbb:=hb [n1,n2,n3] (-s) Fj;by_cases hc:Db T [n1,n2,n3]*(-s)>0
   ·rw[if_pos hc]at e1;refine go tt [.f rfl,.t rfl,.t (decide_eq_true hc)] rfl (by simp only[Gd];first|exact⟨⟨Fj,Fj⟩,hbb,hm,⟨Fj,Fj⟩,Fl,Fj,Fj⟩|exact⟨⟨Fj,Fj⟩,hbb,hm,Fl,Fj,Fj⟩) ?_;exact rd 1 Fj Fj (by rw[e1];rfl)
   ·rw[if_neg hc]at e1;refine go tt [.f rfl,.t rfl,.f (decide_eq_false hc)] rfl (by simp only[Gd];first|exact⟨⟨Fj,Fj⟩,hbb,hm,⟨Fj,Fj⟩,Fl,Fj,Fj⟩|exact⟨⟨Fj,Fj⟩,hbb,hm,Fl,Fj,Fj⟩) ?_;exact rd 1 Fj Fj (by rw[e1];rfl)
 ·have e1:=fs 1;have e2:I2 T s [n0,n1,n2,n3] (f 1) 1=if Db T [n0,n2,n3]*s>0 then Cq (f 1) [n0,n2,n3] (.bool true)else f 1:=rfl
  rw[e2]at e1;refine Uv [.t rfl] rfl ?_;refine U0 (S:=Nat) 4 (λL1 i=>(18,.v (.oi i))::(10,.v (.oi (if i<=1 then(i:Int)else(i:Int)-1)))::L1) (λi=>[.mpb (f 1),.mpb T,.blk 164 [.int .i64 n0,.int .i64 n1,.int .i64 n2,.int .i64 n3],.blk 163 [.int .i64 (if 1<=i then n0 else 0),.int .i64 (if 3<=i then n2 else 0),.int .i64 (if 4<=i then n3 else 0)]]) (λi=>4-i) (λi=>i<=4) 0 Fl rfl rfl λi hi=>?_
  rcases(show i=0\/i=1\/i=2\/i=3\/i=4 by omega)with rfl|rfl|rfl|rfl|rfl
  ·refine Uv [.t rfl,.i 0,.t rfl,.i 0] rfl ?_ Fw;exact rd 1 Fj Fj rfl
  ·refine Uv [.t rfl,.i 1,.f rfl] rfl ?_ Fw;exact rd 2 Fj Fj rfl
  ·refine Uv [.t rfl,.i 2,.t rfl,.i 1] rfl ?_ Fw;exact rd 3 Fj Fj rfl
  ·refine Uv [.t rfl,.i 3,.t rfl,.i 2] rfl ?_ Fw;exact rd 4 Fj Fj rfl
  ·have hbb:=hb [n0,n2,n3] s Fj;by_cases hc:Db T [n0,n2,n3]*s>0
   ·rw[if_pos hc]at e1;refine go tt [.f rfl,.f rfl,.t (decide_eq_true hc)] rfl (by simp only[Gd];first|exact⟨⟨Fj,Fj⟩,hbb,hm,⟨Fj,Fj⟩,Fl,Fj,Fj⟩|exact⟨⟨Fj,Fj⟩,hbb,hm,Fl,Fj,Fj⟩) ?_;exact rd 2 Fj Fj (by rw[e1];rfl)
   ·rw[if_neg hc]at e1;refine go tt [.f rfl,.f rfl,.f (decide_eq_false hc)] rfl (by simp only[Gd];first|exact⟨⟨Fj,Fj⟩,hbb,hm,⟨Fj,Fj⟩,Fl,Fj,Fj⟩|exact⟨⟨Fj,Fj⟩,hbb,hm,Fl,Fj,Fj⟩) ?_;exact rd 2 Fj Fj (by rw[e1];rfl)
 ·have e1:=fs 2;have e2:I2 T s [n0,n1,n2,n3] (f 2) 2=if Db T [n0,n1,n3]*(-s)>0 then Cq (f 2) [n0,n1,n3] (.bool true)else f 2:=rfl
  rw[e2]at e1;refine Uv [.t rfl] rfl ?_;refine U0 (S:=Nat) 4 (λL1 i=>(18,.v (.oi i))::(10,.v (.oi (if i<=2 then(i:Int)else(i:Int)-1)))::L1) (λi=>[.mpb (f 2),.mpb T,.blk 164 [.int .i64 n0,.int .i64 n1,.int .i64 n2,.int .i64 n3],.blk 163 [.int .i64 (if 1<=i then n0 else 0),.int .i64 (if 2<=i then n1 else 0),.int .i64 (if 4<=i then n3 else 0)]]) (λi=>4-i) (λi=>i<=4) 0 Fl rfl rfl λi hi=>?_
  rcases(show i=0\/i=1\/i=2\/i=3\/i=4 by omega)with rfl|rfl|rfl|rfl|rfl
  ·refine Uv [.t rfl,.i 0,.t rfl,.i 0] rfl ?_ Fw;exact rd 1 Fj Fj rfl
  ·refine Uv [.t rfl,.i 1,.t rfl,.i 1] rfl ?_ Fw;exact rd 2 Fj Fj rfl
  ·refine Uv [.t rfl,.i 2,.f rfl] rfl ?_ Fw;exact rd 3 Fj Fj rfl
  ·refine Uv [.t rfl,.i 3,.t rfl,.i 2] rfl ?_ Fw;exact rd 4 Fj Fj rfl
  ·have hbb:=hb [n0,n1,n3] (-s) Fj;by_cases hc:Db T [n0,n1,n3]*(-s)>0
   ·rw[if_pos hc]at e1;refine go tt [.f rfl,.t rfl,.t (decide_eq_true hc)] rfl (by simp only[Gd];first|exact⟨⟨Fj,Fj⟩,hbb,hm,⟨Fj,Fj⟩,Fl,Fj,Fj⟩|exact⟨⟨Fj,Fj⟩,hbb,hm,Fl,Fj,Fj⟩) ?_;exact rd 3 Fj Fj (by rw[e1];rfl)
   ·rw[if_neg hc]at e1;refine go tt [.f rfl,.t rfl,.f (decide_eq_false hc)] rfl (by simp only[Gd];first|exact⟨⟨Fj,Fj⟩,hbb,hm,⟨Fj,Fj⟩,Fl,Fj,Fj⟩|exact⟨⟨Fj,Fj⟩,hbb,hm,Fl,Fj,Fj⟩) ?_;exact rd 3 Fj Fj (by rw[e1];rfl)
 ·have e1:=fs 3;have e2:I2 T s [n0,n1,n2,n3] (f 3) 3=if Db T [n0,n1,n2]*s>0 then Cq (f 3) [n0,n1,n2] (.bool true)else f 3:=rfl
  rw[e2]at e1;refine Uv [.t rfl] rfl ?_;refine U0 (S:=Nat) 4 (λL1 i=>(18,.v (.oi i))::(10,.v (.oi (if i<=3 then(i:Int)else(i:Int)-1)))::L1) (λi=>[.mpb (f 3),.mpb T,.blk 164 [.int .i64 n0,.int .i64 n1,.int .i64 n2,.int .i64 n3],.blk 163 [.int .i64 (if 1<=i then n0 else 0),.int .i64 (if 2<=i then n1 else 0),.int .i64 (if 3<=i then n2 else 0)]]) (λi=>4-i) (λi=>i<=4) 0 Fl rfl rfl λi hi=>?_
  rcases(show i=0\/i=1\/i=2\/i=3\/i=4 by omega)with rfl|rfl|rfl|rfl|rfl
  ·refine Uv [.t rfl,.i 0,.t rfl,.i 0] rfl ?_ Fw;exact rd 1 Fj Fj rfl
  ·refine Uv [.t rfl,.i 1,.t rfl,.i 1] rfl ?_ Fw;exact rd 2 Fj Fj rfl
  ·refine Uv [.t rfl,.i 2,.t rfl,.i 2] rfl ?_ Fw;exact rd 3 Fj Fj rfl
  ·refine Uv [.t rfl,.i 3,.f rfl] rfl ?_ Fw;exact rd 4 Fj Fj rfl
  ·have hbb:=hb [n0,n1,n2] s Fj;by_cases hc:Db T [n0,n1,n2]*s>0
   ·rw[if_pos hc]at e1;refine go tt [.f rfl,.f rfl,.t (decide_eq_true hc)] rfl (by simp only[Gd];first|exact⟨⟨Fj,Fj⟩,hbb,hm,⟨Fj,Fj⟩,Fl,Fj,Fj⟩|exact⟨⟨Fj,Fj⟩,hbb,hm,Fl,Fj,Fj⟩) ?_;exact rd 4 Fj Fj (by rw[e1];rfl)
   ·rw[if_neg hc]at e1;refine go tt [.f rfl,.f rfl,.f (decide_eq_false hc)] rfl (by simp only[Gd];first|exact⟨⟨Fj,Fj⟩,hbb,hm,⟨Fj,Fj⟩,Fl,Fj,Fj⟩|exact⟨⟨Fj,Fj⟩,hbb,hm,Fl,Fj,Fj⟩) ?_;exact rd 4 Fj Fj (by rw[e1];rfl)
 ·exact Uz [] [0,1] [.f rfl] rfl
variable{r1:Fc}{a:Tm}
set_option maxHeartbeats 8000000 in
theorem zS(hl:∀p∈l,Sc p.c)(hn:l.length≤6)(ha:Va a):Ga prog 94 [.one (.ow 0 0),.agg (ta a)] [.blk 196 (Tc c (Fx l) r1)] [.one (.row (Gg (gJ l a)))] [.blk 196 (Tc c (Fx l) (cR l a))]:=by
 have hwl:=Bh l;have cw:=dW (l:=l) (Qdg hl) Fj;have hgb:=I4 a;unfold cR gJ pK NA;obtain⟨sg',hsg⟩:∃s,s=Gm a:=⟨_,rfl⟩;obtain⟨W,hW⟩:=nmE (Gv l);have hWs:∀p∈W,Sc p.c:=λp hp=>hl p (Hu (by rw[<-hW];exact hp))
 have mR:=λ{x y z:Pt} (hx:x∈W) (hy:y∈W) (hz:z∈W)=>oS (t:=a) (hWs x hx) (hWs y hy) (hWs z hz) ha
 have mC:=λ{x y z u:Pt} (hx:x∈W) (hy:y∈W) (hz:z∈W) (hu:u∈W)=>Qp7 (t:=a) (hWs x hx) (hWs y hy) (hWs z hz) (hWs u hu) ha
 rw[<-hW]at cw hwl ⊢;rw[<-hsg]at hgb mR mC ⊢;have hW6:W.length<=6:=Fj;have hTi:=λps=>Qfb hgb ps
 have hcp:(W.map Ge).length=W.length:=Fp;have hcp2:=Ha W;have hdr:∀i,(Fx W).drop i=Fx (W.drop i):=λi=>by unfold Fx;rw[List.map_drop]
 have hel:∀z∈Fx W,z.length=5:=λz hz=>by obtain⟨p,_,rfl⟩:=Q8.1 hz;rfl
 have s7:∀x:Ct,∀y∈[Lt x],y.length=7:=λx y hy=>by rw[Ql.1 hy];rfl
 have s3:∀x:P3,∀y∈[trL x],y.length=3:=λx y hy=>by rw[Ql.1 hy];rfl
 obtain⟨T,hT⟩:=nmE (Al (Om sg' (H7 W)));obtain⟨G,hG⟩:=nmE (O3 T (JQ sg' (Av W)));have hTI:gR T:=by rw[hT];exact hTi _
 have hTm:Qpb T:=λk=>(hTI k).1
 have hGB:Qgq G:=λk=>by rw[hG];exact cF _ _ _ k
 rw[<-hT,<-hG];have e0:(Gg (((Ek 0 W).map (BL sg'))))=[]:=rfl;refine G5 func94 rfl ?_;refine Uv [.k cw,.o 6 168 7] rfl ?_;refine U0 (S:=Nat) 4 (λL1 i=>(42,.v (.oi i))::(6,.v (.one (.orow 2 7 none)))::L1) (λi=>[.blk 196 (Tc c (Fx l) r1),.blk 75 (ta a),.row false 168 7 (Gg ((Ek i W).map (BL sg'))),.mpb (Al (Om sg' (Ek i W)))]) (λi=>W.length-i) (λi=>i<=W.length) 0 (Qg _) rfl rfl λi hi=>?_
 by_cases hlt:i<W.length
 ·obtain⟨x,hx⟩:=gxE (l:=W) (i:=i) hlt;have xm:=Qa hx;obtain⟨V,hV⟩:=nmE (W.drop (i+1));have hVl:V.length=W.length-(i+1):=by rw[hV,Q9]
  have hVm:∀p∈V,p∈W:=λp hp=>by rw[hV]at hp;exact Qx hp
  have eV:(Fx W).drop (i+1)=Fx V:=by rw[hdr,<-hV]
  rw[<-RD W x i];refine go tt [.T,.x (Pw hx),.r 49 (eI (b:=((i+1:Nat):Int)) Fj),.i (i+1),.r 50 (HV eV)] rfl (by simp only[Gd];(repeat' apply And.intro) <;> first|omega|exact hel) ?_;have hVr:=Ha V;refine U0 (S:=Nat) 5 (λL1 j=>(52,.v (.oi j))::(6,.v (.one (.orow 2 7 none)))::L1) (λj=>[.blk 196 (Tc c (Fx l) r1),.blk 75 (ta a),.row false 168 7 (Gg ((p3j W x i j).map (BL sg'))),.mpb (Al (Om sg' (p3j W x i j))),.blk 39 (Ge x)]) (λj=>V.length-j) (λj=>j<=V.length) 0 (Qg _) rfl rfl λj hj=>?_
  by_cases hltj:j<V.length
  ·obtain⟨y,hy⟩:=gxE (l:=V) (i:=j) hltj;have ym:=hVm y (Qa hy);have hy':(W.drop (i+1))[j]? = some y:=by rw[<-hV];exact hy
   obtain⟨U,hU⟩:=nmE (V.drop (j+1));have hUl:U.length=V.length-(j+1):=by rw[hU,Q9]
   have hUm:∀p∈U,p∈W:=λp hp=>by rw[hU]at hp;exact hVm p (Qx hp)
   have hUW:U=(W.drop (i+1)).drop (j+1):=by rw[hU,hV]
   have eU:(Fx W).drop (i+j+2)=Fx U:=by rw[hdr,hU,hV,J4];congr 2;omega
   have hUr:=Ha U;rw[<-RA W x y i j];refine go tt [.T,.x (Pw hy),.r 61 (eI (b:=((i+j+2:Nat):Int)) Fj),.i (i+j+2),.r 62 (HV eU)] rfl (by simp only[Gd];(repeat' apply And.intro) <;> first|omega|exact hel) ?_;refine U0 (S:=Nat) 6 (λL1 k=>(64,.v (.oi k))::(6,.v (.one (.orow 2 7 none)))::L1) (λk=>[.blk 196 (Tc c (Fx l) r1),.blk 75 (ta a),.row false 168 7 (Gg ((RL W x y i j k).map (BL sg'))),.mpb (Al (Om sg' (RL W x y i j k))),.blk 39 (Ge x),.blk 39 (Ge y)]) (λk=>U.length-k) (λk=>k<=U.length) 0 (Qg _) rfl rfl λk hk=>?_
   by_cases hltk:k<U.length
   ·obtain⟨z,hz⟩:=gxE (l:=U) (i:=k) hltk;have zm:=hUm z (Qa hz);have hlen:=uV hW6 (k:=k) hx hy';have en:=RE (x:=x) (y:=y) (by rw[<-hUW];exact hz);have et:=iP sg' (RL W x y i j k) (x,y,z);rw[<-en]at et;refine go tt [.T,.x (Pw hz),.k (mR xm ym zm),.s (sz:=7) (s7 _)] rfl (by simp[Gd,Mx] <;> omega) ?_;exact rd (k+1) Fj hltk (by rw[et,en,J7];simp[Gg];rfl)
   ·have e:=DU (x:=x) (k:=k) hy' (by rw[<-hUW];omega);rw[e];refine go tt [.F] rfl Fv ?_;exact rd (j+1) Fj hltj rfl
  ·have e:=DW (x:=x) (j:=j) hx (by rw[<-hV];omega);rw[e];refine go tt [.F] rfl Fv ?_;exact rd (i+1) Fj hlt rfl
 rw[fK (show i=W.length by omega),<-hT];have hiW:¬i<W.length:=hlt;clear hlt;obtain⟨C3,hC3⟩:=nmE ((H7 W).map (BL sg'));have hC3l:C3.length<=20:=by rw[hC3,Ze];exact(JY hW6).1
 rw[<-hC3];refine Uv [.F] rfl ?_;have eC:Gg C3=Gg (C3++(Ia 0 W).map (PQ sg')):=by rw[show Ia 0 W=[] from rfl,Jq,Zw]
 rw[eC];refine U0 (S:=Nat) 5 (λL1 i=>(97,.v (.oi i))::(6,.v (.one (.orow 2 7 none)))::L1) (λi=>[.blk 196 (Tc c (Fx l) r1),.blk 75 (ta a),.row false 168 7 (Gg (C3++(Ia i W).map (PQ sg'))),.mpb T,.mpb (O3 T (JQ sg' (Ia i W)))]) (λi=>W.length-i) (λi=>i<=W.length) 0 (Qg _) rfl rfl λi hi=>?_
 by_cases hlt:i<W.length
 ·obtain⟨x,hx⟩:=gxE (l:=W) (i:=i) hlt;have xm:=Qa hx;obtain⟨V,hV⟩:=nmE (W.drop (i+1));have hVl:V.length=W.length-(i+1):=by rw[hV,Q9]
  have hVm:∀p∈V,p∈W:=λp hp=>by rw[hV]at hp;exact Qx hp
  have eV:(Fx W).drop (i+1)=Fx V:=by rw[hdr,<-hV]
  have hVr:=Ha V;rw[<-Qmd W x i];refine go tt [.T,.x (Pw hx),.r 104 (eI (b:=((i+1:Nat):Int)) Fj),.i (i+1),.r 105 (HV eV)] rfl (by simp only[Gd];(repeat' apply And.intro) <;> first|omega|exact hel) ?_;refine U0 (S:=Nat) 6 (λL1 j=>(107,.v (.oi j))::(6,.v (.one (.orow 2 7 none)))::L1) (λj=>[.blk 196 (Tc c (Fx l) r1),.blk 75 (ta a),.row false 168 7 (Gg (C3++(p4j W x i j).map (PQ sg'))),.mpb T,.mpb (O3 T (JQ sg' (p4j W x i j))),.blk 39 (Ge x)]) (λj=>V.length-j) (λj=>j<=V.length) 0 (Qg _) rfl rfl λj hj=>?_
  by_cases hltj:j<V.length
  ·obtain⟨y,hy⟩:=gxE (l:=V) (i:=j) hltj;have ym:=hVm y (Qa hy);have hy':(W.drop (i+1))[j]? = some y:=by rw[<-hV];exact hy
   obtain⟨U,hU⟩:=nmE (V.drop (j+1));have hUl:U.length=V.length-(j+1):=by rw[hU,Q9]
   have hUm:∀p∈U,p∈W:=λp hp=>by rw[hU]at hp;exact hVm p (Qx hp)
   have hUW:U=(W.drop (i+1)).drop (j+1):=by rw[hU,hV]
   have eU:(Fx W).drop (i+j+2)=Fx U:=by rw[hdr,hU,hV,J4];congr 2;omega
   have hUr:=Ha U;rw[<-Qme W x y i j];refine go tt [.T,.x (Pw hy),.r 116 (eI (b:=((i+j+2:Nat):Int)) Fj),.i (i+j+2),.r 117 (HV eU)] rfl (by simp only[Gd];(repeat' apply And.intro) <;> first|omega|exact hel) ?_;refine U0 (S:=Nat) 7 (λL1 k=>(119,.v (.oi k))::(6,.v (.one (.orow 2 7 none)))::L1) (λk=>[.blk 196 (Tc c (Fx l) r1),.blk 75 (ta a),.row false 168 7 (Gg (C3++(p4k W x y i j k).map (PQ sg'))),.mpb T,.mpb (O3 T (JQ sg' (p4k W x y i j k))),.blk 39 (Ge x),.blk 39 (Ge y)]) (λk=>U.length-k) (λk=>k<=U.length) 0 (Qg _) rfl rfl λk hk=>?_
   by_cases hltk:k<U.length
   ·obtain⟨z,hz⟩:=gxE (l:=U) (i:=k) hltk;have zm:=hUm z (Qa hz);have hz':((W.drop (i+1)).drop (j+1))[k]? = some z:=by rw[<-hUW];exact hz
    obtain⟨R,hR⟩:=nmE (U.drop (k+1));have hRl:R.length=U.length-(k+1):=by rw[hR,Q9]
    have hRm:∀p∈R,p∈W:=λp hp=>by rw[hR]at hp;exact hUm p (Qx hp)
    have hRW:R=((W.drop (i+1)).drop (j+1)).drop (k+1):=by rw[hR,hUW]
    have eR:(Fx W).drop (i+j+k+3)=Fx R:=by rw[hdr,hRW,J4,J4];congr 2;omega
    have hRr:=Ha R;rw[<-Qmg W x y z i j k];refine go tt [.T,.x (Pw hz),.r 130 (eI (b:=((i+j+k+3:Nat):Int)) Fj),.i (i+j+k+3),.r 131 (HV eR)] rfl (by simp only[Gd];(repeat' apply And.intro) <;> first|omega|exact hel) ?_;refine U0 (S:=Nat) 8 (λL1 m=>(133,.v (.oi m))::(6,.v (.one (.orow 2 7 none)))::L1) (λm=>[.blk 196 (Tc c (Fx l) r1),.blk 75 (ta a),.row false 168 7 (Gg (C3++(p4m W x y z i j k m).map (PQ sg'))),.mpb T,.mpb (O3 T (JQ sg' (p4m W x y z i j k m))),.blk 39 (Ge x),.blk 39 (Ge y),.blk 39 (Ge z)]) (λm=>R.length-m) (λm=>m<=R.length) 0 (Qg _) rfl rfl λm hm=>?_
    by_cases hltm:m<R.length
    ·obtain⟨u,hu⟩:=gxE (l:=R) (i:=m) hltm;have um:=hRm u (Qa hu);have hlen:=Qs2 hW6 (m:=m) hx hy' hz';have en:=Qmf (x:=x) (y:=y) (z:=z) (by rw[<-hRW];exact hu);have et:=lG sg' T (p4m W x y z i j k m) (x,y,z,u);rw[<-en]at et;have cf:=Qw9 (F:=O3 T (JQ sg' (p4m W x y z i j k m))) (s:=(jP sg' x y z u).want) (n0:=x.id) (n1:=y.id) (n2:=z.id) (n3:=u.id) hTI (hgb _);refine go tt [.T,.x (Pw hu),.k (mC xm ym zm um),.s (sz:=7) (s7 _),.c [4,3] cf] rfl (by simp[Gd,Mx] <;> omega) ?_;exact rd (m+1) Fj hltm (by rw[et,en,J7,<-Za];simp[Gg];rfl)
    ·have e:=Qs1 (x:=x) (y:=y) (m:=m) hz' (by rw[<-hRW];omega);rw[e];refine go tt [.F] rfl Fv ?_;exact rd (k+1) Fj hltk rfl
   ·have e:=Qs0 (x:=x) (k:=k) hy' (by rw[<-hUW];omega);rw[e];refine go tt [.F] rfl Fv ?_;exact rd (j+1) Fj hltj rfl
  ·have e:=Qsz (x:=x) (j:=j) hx (by rw[<-hV];omega);rw[e];refine go tt [.F] rfl Fv ?_;exact rd (i+1) Fj hlt rfl
 rw[Qth (show i=W.length by omega),<-hG];obtain⟨C4,hC4⟩:=nmE (C3++(Av W).map (PQ sg'));rw[<-hC4];refine Uv [.F] rfl ?_;refine ozM 0 13 163 3 rfl rfl ?_;have eT:([]:Fc)=VA ((Ek 0 W).filter (IH T G)):=rfl;rw[eT];refine U0 (S:=Nat) 6 (λL1 i=>(174,.v (.oi i))::L1) (λi=>[.blk 196 [.bool true,pl c.now.p,sg c.now.lo.num,mg c.now.lo.num,sg (c.now.lo.den:Int),mg (c.now.lo.den:Int),sg c.now.hi.num,mg c.now.hi.num,sg (c.now.hi.den:Int),mg (c.now.hi.den:Int),.row (Dx c.l),.int .i64 c.ev,.row (Fx l),.orow 5 3 none],.blk 75 (ta a),.row false 168 7 (Gg C4),.mpb T,.mpb G,.row false 163 3 (VA ((Ek i W).filter (IH T G)))]) (λi=>W.length-i) (λi=>i<=W.length) 0 (Qg _) rfl rfl λi hi=>?_
 by_cases hlt:i<W.length
 ·obtain⟨x,hx⟩:=gxE (l:=W) (i:=i) hlt;obtain⟨V,hV⟩:=nmE (W.drop (i+1));have hVl:V.length=W.length-(i+1):=by rw[hV,Q9]
  have eV:(Fx W).drop (i+1)=Fx V:=by rw[hdr,<-hV]
  have hVr:=Ha V;rw[<-RD W x i];refine go tt [.T,.x (Pw hx),.r 181 (eI (b:=((i+1:Nat):Int)) Fj),.i (i+1),.r 182 (HV eV)] rfl (by simp only[Gd];(repeat' apply And.intro) <;> first|omega|exact hel) ?_;refine U0 (S:=Nat) 7 (λL1 j=>(184,.v (.oi j))::L1) (λj=>[.blk 196 [.bool true,pl c.now.p,sg c.now.lo.num,mg c.now.lo.num,sg (c.now.lo.den:Int),mg (c.now.lo.den:Int),sg c.now.hi.num,mg c.now.hi.num,sg (c.now.hi.den:Int),mg (c.now.hi.den:Int),.row (Dx c.l),.int .i64 c.ev,.row (Fx l),.orow 5 3 none],.blk 75 (ta a),.row false 168 7 (Gg C4),.mpb T,.mpb G,.row false 163 3 (VA ((p3j W x i j).filter (IH T G))),.blk 39 (Ge x)]) (λj=>V.length-j) (λj=>j<=V.length) 0 (Qg _) rfl rfl λj hj=>?_
  by_cases hltj:j<V.length
  ·obtain⟨y,hy⟩:=gxE (l:=V) (i:=j) hltj;have hy':(W.drop (i+1))[j]? = some y:=by rw[<-hV];exact hy
   obtain⟨U,hU⟩:=nmE (V.drop (j+1));have hUl:U.length=V.length-(j+1):=by rw[hU,Q9]
   have hUW:U=(W.drop (i+1)).drop (j+1):=by rw[hU,hV]
   have eU:(Fx W).drop (i+j+2)=Fx U:=by rw[hdr,hU,hV,J4];congr 2;omega
   have hUr:=Ha U;rw[<-RA W x y i j];refine go tt [.T,.x (Pw hy),.r 193 (eI (b:=((i+j+2:Nat):Int)) Fj),.i (i+j+2),.r 194 (HV eU)] rfl (by simp only[Gd];(repeat' apply And.intro) <;> first|omega|exact hel) ?_;refine U0 (S:=Nat) 8 (λL1 k=>(196,.v (.oi k))::L1) (λk=>[.blk 196 [.bool true,pl c.now.p,sg c.now.lo.num,mg c.now.lo.num,sg (c.now.lo.den:Int),mg (c.now.lo.den:Int),sg c.now.hi.num,mg c.now.hi.num,sg (c.now.hi.den:Int),mg (c.now.hi.den:Int),.row (Dx c.l),.int .i64 c.ev,.row (Fx l),.orow 5 3 none],.blk 75 (ta a),.row false 168 7 (Gg C4),.mpb T,.mpb G,.row false 163 3 (VA ((RL W x y i j k).filter (IH T G))),.blk 39 (Ge x),.blk 39 (Ge y)]) (λk=>U.length-k) (λk=>k<=U.length) 0 (Qg _) rfl rfl λk hk=>?_
   by_cases hltk:k<U.length
   ·obtain⟨z,hz⟩:=gxE (l:=U) (i:=k) hltk;have hlen:=uV hW6 (k:=k) hx hy';have en:=RE (x:=x) (y:=y) (by rw[<-hUW];exact hz);have hfl:=X8 (IH T G) (RL W x y i j k);have htl:=TE ((RL W x y i j k).filter (IH T G));by_cases h1:Db T [x.id,y.id,z.id]≠0
    ·by_cases h2:Oo G [x.id,y.id,z.id]=true
     ·have ef:IH T G (x,y,z)=false:=by unfold IH Ls;simp[h2]
      have eF:=Qkl (ps:=RL W x y i j k) ef;rw[<-en]at eF;refine go tt [.T,.x (Pw hz),.g 211 true (decide_eq_true h1),.f (by rw[h2];rfl)] rfl (by simp only[Gd];(repeat' apply And.intro) <;> first|exact hTm|exact hGB|omega|(simp only[Q5,Xy];omega)) ?_;exact rd (k+1) Fj hltk (by rw[eF];rfl)
     ·have h2:Oo G [x.id,y.id,z.id]=false:=by simpa using h2
      have ef:IH T G (x,y,z)=true:=by unfold IH Ls;simp[h2,h1]
      have eF:=Qyb (ps:=RL W x y i j k) ef;rw[<-en]at eF;refine go tt [.T,.x (Pw hz),.g 211 true (decide_eq_true h1),.t (by rw[h2];rfl),.s (sz:=3) (s3 (x,y,z))] rfl (by simp only[Gd];(repeat' apply And.intro) <;> first|exact hTm|exact hGB|omega|(simp only[Q5,Xy];omega)) ?_;exact rd (k+1) Fj hltk (by rw[eF];simp[VA];rfl)
    ·have ef:IH T G (x,y,z)=false:=by unfold IH Ls;simp[h1]
     have eF:=Qkl (ps:=RL W x y i j k) ef;rw[<-en]at eF;refine go tt [.T,.x (Pw hz),.g 211 false (decide_eq_false h1),.f rfl] rfl (by simp only[Gd];(repeat' apply And.intro) <;> first|exact hTm|exact hGB|omega|(simp only[Q5,Xy];omega)) ?_;exact rd (k+1) Fj hltk (by rw[eF];rfl)
   ·have e:=DU (x:=x) (k:=k) hy' (by rw[<-hUW];omega);rw[e];refine go tt [.F] rfl Fv ?_;exact rd (j+1) Fj hltj rfl
  ·have e:=DW (x:=x) (j:=j) hx (by rw[<-hV];omega);rw[e];refine go tt [.F] rfl Fv ?_;exact rd (i+1) Fj hlt rfl
 rw[fK (show i=W.length by omega)];rw[hC4,hC3];exact Uz [2,5] [0] [.F] rfl
variable{T:Nat}{t:Rat}{Bc:Tm->List Ct}{Br:Tm->Fc}
theorem Q02(ht:Qs 1640000 t)(hB:BuildOk Bc)
 (hb:∀a c r1,Va a->CrOk c->Ga prog 94 [.one (.ow 0 0),.agg (ta a)] [.blk T (Tc c r0 r1)] [.one (.row (Gg (Bc a)))] [.blk T (Tc c r0 (Br a))])
 {K:Nat} {c c':Cr} {r1 r1':Fc} {n:Int} (hc:CrOk c) (hev:0<=c.ev/\c.ev+K<=1000000000000000000) (h:Gx c.now t<=0) (hg:SV Bc Br t K c r1 0=some (c',r1',n)) :
 Ga prog 365 [.one (.ow 0 0),.agg (rl t),.one (.ofn 94 [.ow 0 0] [])] [.blk T (Tc c r0 r1)] [.oi n,.oi 0] [.blk T (Tc c' r0 r1')]:=by
 have qt:Qb t:=ht.mono Fl;have c1:=Ec hc.n.tb qt;refine G5 func365 rfl ?_;refine Uv [.c [0] (XY hc.n),.k c1,.f (by simpa using h)] rfl ?_;refine U0 (S:=Nat×Cr×Fc×Int) 2 (λL1 s=>(8,.v (.oi s.2.2.2))::L1) (λs=>[.blk T (Tc s.2.1 r0 s.2.2.1),.blk 41 (rl t)]) (λs=>s.1) (λs=>CrOk s.2.1/\(0<=s.2.1.ev/\s.2.1.ev+s.1<=1000000000000000000)/\(0<=s.2.2.2/\s.2.2.2+s.1<=1000000000000000000)/\SV Bc Br t s.1 s.2.1 s.2.2.1 s.2.2.2=some (c',r1',n)) (K,c,r1,0) ⟨hc,hev,⟨Int.le_refl 0,Ft⟩,hg⟩ rfl rfl λ⟨k,x,r,m⟩ ⟨j1,j2,j3,j4⟩=>?_
 dsimp only at j1 j2 j3 j4 ⊢;cases k with
 |zero=>cases j4
 |
  succ k =>
  simp only[SV]at j4;obtain⟨ws,w1,j4⟩:=Qe.1 j4;obtain⟨o,o1,j4⟩:=Qe.1 j4;have cn:=CY (T:=T) (r0:=r0) (r1:=r) j1 w1 o1;have ca:=JI (Fy t.num) (Fy (t.den:Int)) (Qc ht.1 Fl) (Qc ht.2 Fl) (by rw[Po];exact ht.mono Fl);rw[Po]at ca;cases o with
  |
   none =>
   injection j4 with j4;injection j4 with e1 j4;injection j4 with e2 e3;subst e1;subst e2;subst e3;exact Uz [] [0] [.c [0] cn,.g 25 true rfl,.t rfl,.k ca] rfl
  |
   some a =>
   have ha:=OZ j1 w1 o1;dsimp only at j4;have cc:=Ec ha.tb qt;by_cases h0:0<Gx a t
   ·rw[if_pos h0]at j4;injection j4 with j4;injection j4 with e1 j4;injection j4 with e2 e3;subst e1;subst e2;subst e3;exact Uz [] [0] [.c [0] cn,.g 25 false rfl,.k cc,.t (by simpa using h0),.k ca] rfl
   ·rw[if_neg h0]at j4;obtain⟨w2,l1,j4⟩:=Qe.1 j4;have j1':=A5 j1 w1;have cl:=Mi (b:=a) (l:=[]) ha.tb (λt ht=>by cases ht) Fl rfl;have cb:=hb a { x with l:=ws } r ha j1';have cy:=GH (T:=T) (r0:=r0) (r1:=Br a) j1' ha (hB.p a ha) (hB.n a ha) l1;have hf:decide (0<Gx a t)=false:=by simpa using h0
    refine Uw [.c [0] cn,.g 25 false rfl,.k cc,.f hf,.k cl,.c [0] cb,.c [0] cy] rfl ?_;exact rd (k,⟨a,w2,x.ev+1⟩,Br a,m+1) Ft ⟨lay_ok _ j1' ha (hB.p a ha) (hB.n a ha) l1,Ft,Ft,j4⟩ rfl
variable{K:Nat}
theorem Qwo{c':Cr}{r1':Fc}{n:Int}(ht:Qs 1640000 t)(hl:∀p∈l,Sc p.c)(hn:l.length≤6)(hc:CrOk c)(hev:0≤c.ev/\c.ev+K≤1000000000000000000)(h:Gx c.now t≤0)(hg:SV (gJ l) (cR l) t K c r1 0=some (c',r1',n)):
 Ga prog 402 [.one (.ow 0 0),.agg (rl t)] [.blk 196 (Tc c (Fx l) r1)] [.oi n,.oi 0] [.blk 196 (Tc c' (Fx l) r1')]:=by
 have cg:=Q02 (T:=196) (r0:=Fx l) ht (bI hl hn) (λa c r1 ha _=>zS (c:=c) (r1:=r1) hl hn ha) hc hev h hg;refine G5 func402 rfl ?_;exact Uz [] [0] [.k (Cx (ht.mono Fl)),.c [0] cg] rfl
theorem dQ{ts:List P3}(ht:ts.length<=1000):Ga prog 66 [.one (.ow 0 0)] [.blk 196 (Tc c r0 (VA ts))] [.one (.row (VA ts))] [.blk 196 (Tc c r0 (VA ts))]:=by
 have hl:=TE ts;have h3:∀y∈VA ts,y.length=3:=λy hy=>by obtain⟨m,_,rfl⟩:=Q8.1 hy;rfl
 refine G5 func66 rfl ?_;exact Uz [1] [0] [.s (sz:=3) h3] rfl Fv

theorem LI(hc:CrOk c)(hl:∀p∈l',Sc p.c)(hn:l'.length≤6)(h:Pd c.l c.now (Gu (gJ l' c.now))=some ws):
 Ga prog 406 [.one (.ow 0 0),.agg [pts l'],.oi 0] [.blk 196 (Tc c (Fx l) r1)] [.oi 0] [.blk 196 (Tc ⟨c.now,ws,c.ev⟩ (Fx l') (cR l' c.now))]:=by
 have hB:=bI hl hn;have cn:=XY (T:=196) (c:=c) (r0:=Fx l') (r1:=r1) hc.n;have cb:=zS (c:=c) (r1:=r1) hl hn hc.n;have cg:=KU (T:=196) (r0:=Fx l') (r1:=cR l' c.now) hc hc.n (QP hc.n) (Yv 0) (hB.p _ hc.n) (hB.n _ hc.n) h;refine G5 func406 rfl ?_;exact Uz [] [0] [.f rfl,.c [0] cn,.c [0] cb,.c [0] cg] rfl
theorem Qp1{lx:Fc}{px py:U6}{x y:LV}{d:Int}(hx:IsInts lx px)(hy:IsInts ly py)(hd:Hh x y d)(hk:Cs 4294967294 1073741824 (Crv.mk px py d))(hll:l.length<=900)
 (he:FT l ⟨Crv.norm (Crv.mk px py d),id⟩=0) (hc:CrOk c) (hl:∀p∈put l ⟨Crv.norm (Crv.mk px py d),id⟩,Sc p.c) (hn:(put l ⟨Crv.norm (Crv.mk px py d),id⟩).length≤6) (h:Pd c.l c.now (Gu (gJ (put l ⟨Crv.norm (Crv.mk px py d),id⟩) c.now))=some ws) :
 Ga prog 404 [.one (.ow 0 0),.agg [.row lx,.row ly,x,y,.int .i64 id]] [.blk 196 (Tc c (Fx l) r1)] [.oi 0] [.blk 196 (Tc ⟨c.now,ws,c.ev⟩ (Fx (put l ⟨Crv.norm (Crv.mk px py d),id⟩)) (cR (put l ⟨Crv.norm (Crv.mk px py d),id⟩) c.now))]:=by
 have cp:=rR (l:=l) (id:=id) hx hy hd hk Fj;rw[if_pos he,he]at cp;have cw:=LI (l:=l) (r1:=r1) hc hl hn h;refine G5 func404 rfl ?_;obtain⟨b,l',rfl,rfl,_⟩:=hd;exact Uz [] [0] [.k cp,.c [0] cw] rfl
theorem Qhb{lx:Fc}{px py:U6}{x y:LV}{d:Int}(hx:IsInts lx px)(hy:IsInts ly py)(hd:Hh x y d)(hk:Cs 4294967294 1073741824 (Crv.mk px py d))(hll:l.length<=6)(h:has l id=true)(hc:CrOk c)
 (hl':l'=l.set (Sp l id) (Pt.mk (Crv.norm (Crv.mk px py d)) id)) (hs:∀p∈l',Sc p.c) (hw:Pd c.l c.now (Gu (gJ l' c.now))=some ws) :
 Ga prog 405 [.one (.ow 0 0),.agg [.row lx,.row ly,x,y,.int .i64 id]] [.blk 196 (Tc c (Fx l) r1)] [.oi 0] [.blk 196 (Tc ⟨c.now,ws,c.ev⟩ (Fx l') (cR l' c.now))]:=by
 have ct1:=GN (l:=l) hx hy hd hk Fj h;rw[<-hl']at ct1;have cw:=LI (c:=c) (l:=l) (l':=l') (r1:=r1) hc hs (by rw[hl',Xs];omega) hw;obtain⟨b,r,rfl,rfl,_⟩:=hd;refine G5 func405 rfl ?_;exact Uz [] [0] [.k ct1,.c [0] cw] rfl
theorem Qha(hll:l.length<=6)(h:has l id=true)(hc:CrOk c)
 (hl':l'=l.take (Sp l id)++l.drop (Sp l id+1)) (hs:∀p∈l',Sc p.c) (hw:Pd c.l c.now (Gu (gJ l' c.now))=some ws) :
 Ga prog 403 [.one (.ow 0 0),.oi id] [.blk 196 (Tc c (Fx l) r1)] [.oi 0] [.blk 196 (Tc ⟨c.now,ws,c.ev⟩ (Fx l') (cR l' c.now))]:=by
 have ct1:=GP (l:=l) (id:=id) Fj h;rw[<-hl']at ct1;have cw:=LI (c:=c) (l:=l) (l':=l') (r1:=r1) hc hs (by rw[hl',Qu,Qq,Q9];omega) hw;refine G5 func403 rfl ?_;exact Uz [] [0] [.k ct1,.c [0] cw] rfl
theorem Qdt:Ga prog 130 [.one (.ow 0 0)] [.blk 196 (Tc c r0 r1)] [.one (.ow 1 0)] [.blk 196 (Tc c r0 r1),.blk 196 (Tc c r0 r1)]:=by
 refine G5 func130 rfl ?_;exact Uz [] [0,1] [] rfl
theorem Qqi{lx:Fc}{px py:U6}{x y:LV}{d:Int}(hx:IsInts lx px)(hy:IsInts ly py)(hd:Hh x y d)(hk:Cs 4294967294 1073741824 (Crv.mk px py d))(hll:l.length<=900)(h:has l id=true)(hc:CrOk c)
 (hl':l'=l.set (Sp l id) (Pt.mk (Crv.norm (Crv.mk px py d)) id)) (hs:∀p∈l',Sc p.c) (hw:Pd c.l c.now (Gu (UF l' c.now))=some ws) :
 Ga prog 363 [.one (.ow 0 0),.agg [.row lx,.row ly,x,y,.int .i64 id]] [.blk 185 (Tc c (Fx l) r1)] [.oi 0] [.blk 185 (Tc ⟨c.now,ws,c.ev⟩ (Fx l') (cN l' c.now))]:=by
 have ct1:=GN (l:=l) hx hy hd hk Fj h;rw[<-hl']at ct1;have cw:=vE (c:=c) (l:=l) (l':=l') (r1:=r1) hc hs (by rw[hl',Xs];omega) hw;obtain⟨b,r,rfl,rfl,_⟩:=hd;refine G5 func363 rfl ?_;exact Uz [] [0] [.k ct1,.c [0] cw] rfl
theorem Qqg(hll:l.length<=900)(h:has l id=true)(hc:CrOk c)
 (hl':l'=l.take (Sp l id)++l.drop (Sp l id+1)) (hs:∀p∈l',Sc p.c) (hw:Pd c.l c.now (Gu (UF l' c.now))=some ws) :
 Ga prog 361 [.one (.ow 0 0),.oi id] [.blk 185 (Tc c (Fx l) r1)] [.oi 0] [.blk 185 (Tc ⟨c.now,ws,c.ev⟩ (Fx l') (cN l' c.now))]:=by
 have ct1:=GP (l:=l) (id:=id) Fj h;rw[<-hl']at ct1;have cw:=vE (c:=c) (l:=l) (l':=l') (r1:=r1) hc hs (by rw[hl',Qu,Qq,Q9];omega) hw;refine G5 func361 rfl ?_;exact Uz [] [0] [.k ct1,.c [0] cw] rfl
theorem Q03(ht:Qs 1640000 t)(hB:BuildOk Bc)
 (hb:∀a c r1,Va a->CrOk c->Ga prog 92 [.one (.ow 0 0),.agg (ta a)] [.blk T (Tc c r0 r1)] [.one (.row (Gg (Bc a)))] [.blk T (Tc c r0 (Br a))])
 {K:Nat} {c c':Cr} {r1 r1':Fc} {n:Int} (hc:CrOk c) (hev:0<=c.ev/\c.ev+K<=1000000000000000000) (h:Gx c.now t<=0) (hg:SV Bc Br t K c r1 0=some (c',r1',n)) :
 Ga prog 365 [.one (.ow 0 0),.agg (rl t),.one (.ofn 92 [.ow 0 0] [])] [.blk T (Tc c r0 r1)] [.oi n,.oi 0] [.blk T (Tc c' r0 r1')]:=by
 have qt:Qb t:=ht.mono Fl;have c1:=Ec hc.n.tb qt;refine G5 func365 rfl ?_;refine Uv [.c [0] (XY hc.n),.k c1,.f (by simpa using h)] rfl ?_;refine U0 (S:=Nat×Cr×Fc×Int) 2 (λL1 s=>(8,.v (.oi s.2.2.2))::L1) (λs=>[.blk T (Tc s.2.1 r0 s.2.2.1),.blk 41 (rl t)]) (λs=>s.1) (λs=>CrOk s.2.1/\(0<=s.2.1.ev/\s.2.1.ev+s.1<=1000000000000000000)/\(0<=s.2.2.2/\s.2.2.2+s.1<=1000000000000000000)/\SV Bc Br t s.1 s.2.1 s.2.2.1 s.2.2.2=some (c',r1',n)) (K,c,r1,0) ⟨hc,hev,⟨Int.le_refl 0,Ft⟩,hg⟩ rfl rfl λ⟨k,x,r,m⟩ ⟨j1,j2,j3,j4⟩=>?_
 dsimp only at j1 j2 j3 j4 ⊢;cases k with
 |zero=>cases j4
 |
  succ k =>
  simp only[SV]at j4;obtain⟨ws,w1,j4⟩:=Qe.1 j4;obtain⟨o,o1,j4⟩:=Qe.1 j4;have cn:=CY (T:=T) (r0:=r0) (r1:=r) j1 w1 o1;have ca:=JI (Fy t.num) (Fy (t.den:Int)) (Qc ht.1 Fl) (Qc ht.2 Fl) (by rw[Po];exact ht.mono Fl);rw[Po]at ca;cases o with
  |
   none =>
   injection j4 with j4;injection j4 with e1 j4;injection j4 with e2 e3;subst e1;subst e2;subst e3;exact Uz [] [0] [.c [0] cn,.g 25 true rfl,.t rfl,.k ca] rfl
  |
   some a =>
   have ha:=OZ j1 w1 o1;dsimp only at j4;have cc:=Ec ha.tb qt;by_cases h0:0<Gx a t
   ·rw[if_pos h0]at j4;injection j4 with j4;injection j4 with e1 j4;injection j4 with e2 e3;subst e1;subst e2;subst e3;exact Uz [] [0] [.c [0] cn,.g 25 false rfl,.k cc,.t (by simpa using h0),.k ca] rfl
   ·rw[if_neg h0]at j4;obtain⟨w2,l1,j4⟩:=Qe.1 j4;have j1':=A5 j1 w1;have cl:=Mi (b:=a) (l:=[]) ha.tb (λt ht=>by cases ht) Fl rfl;have cb:=hb a { x with l:=ws } r ha j1';have cy:=GH (T:=T) (r0:=r0) (r1:=Br a) j1' ha (hB.p a ha) (hB.n a ha) l1;have hf:decide (0<Gx a t)=false:=by simpa using h0
    refine Uw [.c [0] cn,.g 25 false rfl,.k cc,.f hf,.k cl,.c [0] cb,.c [0] cy] rfl ?_;exact rd (k,⟨a,w2,x.ev+1⟩,Br a,m+1) Ft ⟨lay_ok _ j1' ha (hB.p a ha) (hB.n a ha) l1,Ft,Ft,j4⟩ rfl
def Q0w(l:List Pt)(a:Tm):Cr:=⟨a,(Gu (qT l a)).map fresh,0⟩
theorem Qwq{c':Cr}{r1':Fc}{n:Int}(ht:Qs 1640000 t)(hl:∀p∈l,Sc p.c)(hn:l.length≤10)(hc:CrOk c)(hev:0≤c.ev/\c.ev+K≤1000000000000000000)(h:Gx c.now t≤0)(hg:SV (qT l) (brH l) t K c r1 0=some (c',r1',n)):
 Ga prog 392 [.one (.ow 0 0),.agg (rl t)] [.blk 192 (Tc c (Fx l) r1)] [.oi n,.oi 0] [.blk 192 (Tc c' (Fx l) r1')]:=by
 have cg:=Q03 (T:=192) (r0:=Fx l) ht (bO hl hn) (λa c r1 ha _=>zM (c:=c) (r1:=r1) hl hn ha) hc hev h hg;refine G5 func392 rfl ?_;exact Uz [] [0] [.k (Cx (ht.mono Fl)),.c [0] cg] rfl
theorem Qwr{s:List Pt}(hs:s.length<=1000000):Ga prog 65 [.one (.ow 0 0)] [.blk 192 (Tc c (Fx l) (Fx s))] [.one (ids (s.map (·.id)))] [.blk 192 (Tc c (Fx l) (Fx s))]:=by
 have hcl:=Ha s;refine G5 func65 rfl ?_;refine Uv [.o 3 3 1] rfl ?_;refine U0 (S:=Nat) 2 (λL1 i=>(11,.v (.oi i))::(3,.v (.one (.orow 1 1 none)))::L1) (λi=>[.blk 192 (Tc c (Fx l) (Fx s)),.row false 3 1 (((s.take i).map (·.id)).map λ(z:Int)=>[LV.int .i64 z])]) (λi=>s.length-i) (λi=>i<=s.length) 0 (Qg _) rfl rfl λi hi=>?_
 by_cases hlt:i<s.length
 ·obtain⟨p,hp⟩:=gxE (l:=s) (i:=i) hlt;have hg:(((s.take (i+1)).map (·.id)).map λ(z:Int)=>[LV.int .i64 z])=(((s.take i).map (·.id)).map λ(z:Int)=>[LV.int .i64 z])++[[.int .i64 p.id]]:=by
   rw[Xb,hp];simp
  refine Uw [.t (by simp[hcl];omega),.x (Hf hp),.s (sz:=1) (l:=[[.int .i64 p.id]]) (λc hc=>by rw[Ql.1 hc];rfl)] rfl ?_;exact rd (i+1) Fj hlt (by rw[hg];rfl)
 ·obtain rfl:i=s.length:=Fj;rw[Q6];exact Uz [1] [0] [.f (by simp[hcl])] rfl
abbrev KB(k:Nat)(np nd:Int)(M:List Pt)(q:Rat)(s t h p d:Cr):Fe:=[.blk 87 (lJ k q),tB np nd M,bS s M q,bT t M q,bH h M q,bP p M q,bD d M q]
abbrev Q3s(k:Nat):Fb:=[.oif 81 (k+2) 0,.oif 82 (k+3) 0,.oif 83 (k+4) 0,.oif 84 (k+5) 0,.oif 85 (k+6) 0]
variable{s t h p:Cr}{np:Int}{M:List Pt}{q:Rat}
theorem rP{nd:Int}{Mt:List Pt}{d:Cr}:Ga prog 56 [.one (.ow 0 0)] [.blk 87 (lJ 0 q),tB np nd Mt,bS s M q,bT t M q,bH h M q,bP p M q,bD d M q] [.agg (Q3s 0)] [.blk 87 (lJ 0 q),tB np nd Mt,bS s M q,bT t M q,bH h M q,bP p M q,bD d M q]:=by
 refine G5 func56 rfl ?_;exact Uz [] [0,1,2,3,4,5,6] [] rfl
abbrev yL(k i:Nat)(a b:OB):OB:=match Nat.blt k i with
 |true=>b
 |false=>a
variable{s' t' h' p' d':Cr}
theorem Qhj{nd:Int}{M':List Pt}{d:Cr}{lx l3:Fc}{bn:Bool}{e1 e2 e3 e4 e5:Int}
 (ht:Ga prog 55 [.one (.ow 0 0),.agg [.row lx,.row ly,.bool bn,.row l3,.int .i64 id]] [tB np nd M] [.oi 0] [tB np nd M'])
 (h1:Ga prog 362 [.one (.ow 0 0),.agg [.row lx,.row ly,.bool bn,.row l3,.int .i64 id]] [bS s M q] [.oi e1] [bS s' M' q])
 (h2:Ga prog 389 [.one (.ow 0 0),.agg [.row lx,.row ly,.bool bn,.row l3,.int .i64 id]] [bT t M q] [.oi e2] [bT t' M' q])
 (h3:Ga prog 394 [.one (.ow 0 0),.agg [.row lx,.row ly,.bool bn,.row l3,.int .i64 id]] [bH h M q] [.oi e3] [bH h' M' q])
 (h4:Ga prog 399 [.one (.ow 0 0),.agg [.row lx,.row ly,.bool bn,.row l3,.int .i64 id]] [bP p M q] [.oi e4] [bP p' M' q])
 (h5:Ga prog 404 [.one (.ow 0 0),.agg [.row lx,.row ly,.bool bn,.row l3,.int .i64 id]] [bD d M q] [.oi e5] [bD d' M' q]) :
 Ga prog 18 [.one (.ow 0 0),.oi id,.agg [.row lx,.row ly,.bool bn,.row l3]] (KB 0 np nd M q s t h p d) [.oi 0] (KB 0 np nd M' q s' t' h' p' d'):=by
 refine G5 func18 rfl ?_;refine Uv [.c [1] ht,.f rfl,.c Fg rP] rfl ?_;refine U0 (S:=Nat) 9 (λL1 i=>(25,.v (.oi i))::L1) (λi=>[.blk 87 (lJ 0 q),tB np nd M',yL 0 i (bS s M q) (bS s' M' q),yL 1 i (bT t M q) (bT t' M' q),yL 2 i (bH h M q) (bH h' M' q),yL 3 i (bP p M q) (bP p' M' q),yL 4 i (bD d M q) (bD d' M' q),.blk 37 [.row lx,.row ly,.bool bn,.row l3],.blk 39 [.row lx,.row ly,.bool bn,.row l3,.int .i64 id]]) (λi=>5-i) (λi=>i<=5) 0 Fl rfl rfl λi hi=>?_
 rcases(show i=0\/i=1\/i=2\/i=3\/i=4\/i=5 by omega)with rfl|rfl|rfl|rfl|rfl|rfl
 ·exact go tt [.t rfl,.i 0,.c [2] h1] rfl Fw (rd 1 Fj Fj rfl)
 ·exact go tt [.t rfl,.i 1,.c [3] h2] rfl Fw (rd 2 Fj Fj rfl)
 ·exact go tt [.t rfl,.i 2,.c [4] h3] rfl Fw (rd 3 Fj Fj rfl)
 ·exact go tt [.t rfl,.i 3,.c [5] h4] rfl Fw (rd 4 Fj Fj rfl)
 ·exact go tt [.t rfl,.i 4,.c [6] h5] rfl Fw (rd 5 Fj Fj rfl)
 ·exact Uz [] [0,1,2,3,4,5,6] [.f rfl] rfl
variable{e:Int}
theorem Qdz{nd:Int}{d:Cr}{lx l3:Fc}{bn:Bool}(he:e≠0)
 (ht:Ga prog 55 [.one (.ow 0 0),.agg [.row lx,.row ly,.bool bn,.row l3,.int .i64 id]] [tB np nd M] [.oi e] [tB np nd M]) :
 Ga prog 18 [.one (.ow 0 0),.oi id,.agg [.row lx,.row ly,.bool bn,.row l3]] (KB 0 np nd M q s t h p d) [.oi e] (KB 0 np nd M q s t h p d):=by
 refine G5 func18 rfl ?_;exact Uz [] [0,1,2,3,4,5,6] [.c [1] ht,.t (by simpa using he)] rfl
theorem Qh0{nd:Int}{M':List Pt}{d:Cr}{lx l3:Fc}{bn:Bool}{e1 e2 e3 e4 e5:Int}
 (ht:Ga prog 58 [.one (.ow 0 0),.agg [.row lx,.row ly,.bool bn,.row l3,.int .i64 id]] [tB np nd M] [.oi 0] [tB np nd M'])
 (h1:Ga prog 363 [.one (.ow 0 0),.agg [.row lx,.row ly,.bool bn,.row l3,.int .i64 id]] [bS s M q] [.oi e1] [bS s' M' q])
 (h2:Ga prog 390 [.one (.ow 0 0),.agg [.row lx,.row ly,.bool bn,.row l3,.int .i64 id]] [bT t M q] [.oi e2] [bT t' M' q])
 (h3:Ga prog 395 [.one (.ow 0 0),.agg [.row lx,.row ly,.bool bn,.row l3,.int .i64 id]] [bH h M q] [.oi e3] [bH h' M' q])
 (h4:Ga prog 400 [.one (.ow 0 0),.agg [.row lx,.row ly,.bool bn,.row l3,.int .i64 id]] [bP p M q] [.oi e4] [bP p' M' q])
 (h5:Ga prog 405 [.one (.ow 0 0),.agg [.row lx,.row ly,.bool bn,.row l3,.int .i64 id]] [bD d M q] [.oi e5] [bD d' M' q]) :
 Ga prog 20 [.one (.ow 0 0),.oi id,.agg [.row lx,.row ly,.bool bn,.row l3]] (KB 0 np nd M q s t h p d) [.oi 0] (KB 0 np nd M' q s' t' h' p' d'):=by
 refine G5 func20 rfl ?_;refine Uv [.c [1] ht,.f rfl,.c Fg rP] rfl ?_;refine U0 (S:=Nat) 9 (λL1 i=>(25,.v (.oi i))::L1) (λi=>[.blk 87 (lJ 0 q),tB np nd M',yL 0 i (bS s M q) (bS s' M' q),yL 1 i (bT t M q) (bT t' M' q),yL 2 i (bH h M q) (bH h' M' q),yL 3 i (bP p M q) (bP p' M' q),yL 4 i (bD d M q) (bD d' M' q),.blk 37 [.row lx,.row ly,.bool bn,.row l3],.blk 39 [.row lx,.row ly,.bool bn,.row l3,.int .i64 id]]) (λi=>5-i) (λi=>i<=5) 0 Fl rfl rfl λi hi=>?_
 rcases(show i=0\/i=1\/i=2\/i=3\/i=4\/i=5 by omega)with rfl|rfl|rfl|rfl|rfl|rfl
 ·exact go tt [.t rfl,.i 0,.c [2] h1] rfl Fw (rd 1 Fj Fj rfl)
 ·exact go tt [.t rfl,.i 1,.c [3] h2] rfl Fw (rd 2 Fj Fj rfl)
 ·exact go tt [.t rfl,.i 2,.c [4] h3] rfl Fw (rd 3 Fj Fj rfl)
 ·exact go tt [.t rfl,.i 3,.c [5] h4] rfl Fw (rd 4 Fj Fj rfl)
 ·exact go tt [.t rfl,.i 4,.c [6] h5] rfl Fw (rd 5 Fj Fj rfl)
 ·exact Uz [] [0,1,2,3,4,5,6] [.f rfl] rfl
theorem Qd3{nd:Int}{d:Cr}{lx l3:Fc}{bn:Bool}(he:e≠0)
 (ht:Ga prog 58 [.one (.ow 0 0),.agg [.row lx,.row ly,.bool bn,.row l3,.int .i64 id]] [tB np nd M] [.oi e] [tB np nd M]) :
 Ga prog 20 [.one (.ow 0 0),.oi id,.agg [.row lx,.row ly,.bool bn,.row l3]] (KB 0 np nd M q s t h p d) [.oi e] (KB 0 np nd M q s t h p d):=by
 refine G5 func20 rfl ?_;exact Uz [] [0,1,2,3,4,5,6] [.c [1] ht,.t (by simpa using he)] rfl
theorem Qhc{nd:Int}{M':List Pt}{d:Cr}{e1 e2 e3 e4 e5:Int}
 (ht:Ga prog 57 [.one (.ow 0 0),.oi id] [tB np nd M] [.oi 0] [tB np nd M'])
 (h1:Ga prog 361 [.one (.ow 0 0),.oi id] [bS s M q] [.oi e1] [bS s' M' q])
 (h2:Ga prog 388 [.one (.ow 0 0),.oi id] [bT t M q] [.oi e2] [bT t' M' q])
 (h3:Ga prog 393 [.one (.ow 0 0),.oi id] [bH h M q] [.oi e3] [bH h' M' q])
 (h4:Ga prog 398 [.one (.ow 0 0),.oi id] [bP p M q] [.oi e4] [bP p' M' q])
 (h5:Ga prog 403 [.one (.ow 0 0),.oi id] [bD d M q] [.oi e5] [bD d' M' q]) :
 Ga prog 19 [.one (.ow 0 0),.oi id] (KB 0 np nd M q s t h p d) [.oi 0] (KB 0 np nd M' q s' t' h' p' d'):=by
 refine G5 func19 rfl ?_;refine Uv [.c [1] ht,.f rfl,.c Fg rP] rfl ?_;refine U0 (S:=Nat) 7 (λL1 i=>(19,.v (.oi i))::L1) (λi=>[.blk 87 (lJ 0 q),tB np nd M',yL 0 i (bS s M q) (bS s' M' q),yL 1 i (bT t M q) (bT t' M' q),yL 2 i (bH h M q) (bH h' M' q),yL 3 i (bP p M q) (bP p' M' q),yL 4 i (bD d M q) (bD d' M' q)]) (λi=>5-i) (λi=>i<=5) 0 Fl rfl rfl λi hi=>?_
 rcases(show i=0\/i=1\/i=2\/i=3\/i=4\/i=5 by omega)with rfl|rfl|rfl|rfl|rfl|rfl
 ·exact go tt [.t rfl,.i 0,.c [2] h1] rfl Fw (rd 1 Fj Fj rfl)
 ·exact go tt [.t rfl,.i 1,.c [3] h2] rfl Fw (rd 2 Fj Fj rfl)
 ·exact go tt [.t rfl,.i 2,.c [4] h3] rfl Fw (rd 3 Fj Fj rfl)
 ·exact go tt [.t rfl,.i 3,.c [5] h4] rfl Fw (rd 4 Fj Fj rfl)
 ·exact go tt [.t rfl,.i 4,.c [6] h5] rfl Fw (rd 5 Fj Fj rfl)
 ·exact Uz [] [0,1,2,3,4,5,6] [.f rfl] rfl
theorem Qdu{nd:Int}{d:Cr}(he:e≠0)
 (ht:Ga prog 57 [.one (.ow 0 0),.oi id] [tB np nd M] [.oi e] [tB np nd M]) :
 Ga prog 19 [.one (.ow 0 0),.oi id] (KB 0 np nd M q s t h p d) [.oi e] (KB 0 np nd M q s t h p d):=by
 refine G5 func19 rfl ?_;exact Uz [] [0,1,2,3,4,5,6] [.c [1] ht,.t (by simpa using he)] rfl
theorem Qds{nd:Int}{r:Rat}{d:Cr}{x0 x1 x2 x3:LV}{a b n1 n2 n3 n4 n5:Int}(ha:Hh x0 x1 a)(hb:Hh x2 x3 b)(sa:Gl a<=4294967295)(sb:Gl b<=4294967295)(hr:Hm a b=r)(hs:Qs 128 r)(hq:Qs 128 q)(hqr:q<=r)
 (h1:Ga prog 359 [.one (.ow 0 0),.agg (rl r)] [bS s M q] [.oi n1,.oi 0] [bS s' M r])
 (h2:Ga prog 387 [.one (.ow 0 0),.agg (rl r)] [bT t M q] [.oi n2,.oi 0] [bT t' M r])
 (h3:Ga prog 392 [.one (.ow 0 0),.agg (rl r)] [bH h M q] [.oi n3,.oi 0] [bH h' M r])
 (h4:Ga prog 397 [.one (.ow 0 0),.agg (rl r)] [bP p M q] [.oi n4,.oi 0] [bP p' M r])
 (h5:Ga prog 402 [.one (.ow 0 0),.agg (rl r)] [bD d M q] [.oi n5,.oi 0] [bD d' M r]) :
 Ga prog 22 [.one (.ow 0 0),.agg [x0,x1,x2,x3]] (KB 0 np nd M q s t h p d) [.oi 0] (KB 0 np nd M r s' t' h' p' d'):=by
 have cm:=EP ha hb sa sb;rw[hr]at cm;obtain⟨b1,r1,rfl,rfl,_⟩:=ha;obtain⟨b2,r2,rfl,rfl,_⟩:=hb;have cc:=Ee (a:=r) (b:=q) (hs.mono Fl) (hq.mono Fl);have l1:=JD.2 hs.1;have l2:(He r.den).length<=4:=by simpa using JD.2 hs.2
 have hc:¬Rx r q<0:=λh=>absurd (Cy.1 h) (Rat.not_lt.2 hqr)
 refine G5 func22 rfl ?_;refine Uv [.k cm,.f (by simp[gV];omega),.f (by simp[gV];omega),.k cc,.f (by simpa using hc),.c Fg rP] rfl ?_;refine U0 (S:=Nat) 8 (λL1 i=>(32,.v (.oi i))::L1) (λi=>[.blk 87 (lJ 0 q),tB np nd M,yL 0 i (bS s M q) (bS s' M r),yL 1 i (bT t M q) (bT t' M r),yL 2 i (bH h M q) (bH h' M r),yL 3 i (bP p M q) (bP p' M r),yL 4 i (bD d M q) (bD d' M r),.blk 41 (rl r)]) (λi=>5-i) (λi=>i<=5) 0 Fl rfl rfl λi hi=>?_
 rcases(show i=0\/i=1\/i=2\/i=3\/i=4\/i=5 by omega)with rfl|rfl|rfl|rfl|rfl|rfl
 ·exact go tt [.t rfl,.i 0,.c [2] h1] rfl Fw (rd 1 Fj Fj rfl)
 ·exact go tt [.t rfl,.i 1,.c [3] h2] rfl Fw (rd 2 Fj Fj rfl)
 ·exact go tt [.t rfl,.i 2,.c [4] h3] rfl Fw (rd 3 Fj Fj rfl)
 ·exact go tt [.t rfl,.i 3,.c [5] h4] rfl Fw (rd 4 Fj Fj rfl)
 ·exact go tt [.t rfl,.i 4,.c [6] h5] rfl Fw (rd 5 Fj Fj rfl)
 ·exact Uz [] [0,1,2,3,4,5,6] [.f rfl] rfl
theorem vB{nd:Int}{r:Rat}{d:Cr}{x0 x1 x2 x3:LV}{a b:Int}(ha:Hh x0 x1 a)(hb:Hh x2 x3 b)(sa:Gl a<=4294967295)(sb:Gl b<=4294967295)(hr:Hm a b=r)(hs:¬Qs 128 r):
 Ga prog 22 [.one (.ow 0 0),.agg [x0,x1,x2,x3]] (KB 0 np nd M q s t h p d) [.oi 1] (KB 0 np nd M q s t h p d):=by
 have cm:=EP ha hb sa sb;rw[hr]at cm;obtain⟨b1,r1,rfl,rfl,_⟩:=ha;obtain⟨b2,r2,rfl,rfl,_⟩:=hb;refine G5 func22 rfl ?_;by_cases h1:Gl r.num<=128
 ·have h2:¬Gl (r.den:Int)<=128:=λh=>hs ⟨h1,h⟩
  have l1:=JD.2 h1;have l2:=mt JD.1 h2;exact Uz [] [0,1,2,3,4,5,6] [.k cm,.f (by simp[gV];omega),.t (by simp[gV]at l2 ⊢;omega)] rfl
 ·have l1:=mt JD.1 h1;exact Uz [] [0,1,2,3,4,5,6] [.k cm,.t (by simp[gV];omega),.t rfl] rfl
theorem qC{nd:Int}{r:Rat}{d:Cr}{x0 x1 x2 x3:LV}{a b:Int}(ha:Hh x0 x1 a)(hb:Hh x2 x3 b)(sa:Gl a<=4294967295)(sb:Gl b<=4294967295)(hr:Hm a b=r)(hs:Qs 128 r)(hq:Qs 128 q)(hqr:r<q):
 Ga prog 22 [.one (.ow 0 0),.agg [x0,x1,x2,x3]] (KB 0 np nd M q s t h p d) [.oi 8] (KB 0 np nd M q s t h p d):=by
 have cm:=EP ha hb sa sb;rw[hr]at cm;obtain⟨b1,r1,rfl,rfl,_⟩:=ha;obtain⟨b2,r2,rfl,rfl,_⟩:=hb;have cc:=Ee (a:=r) (b:=q) (hs.mono Fl) (hq.mono Fl);have l1:=JD.2 hs.1;have l2:(He r.den).length<=4:=by simpa using JD.2 hs.2
 have hc:Rx r q<0:=Cy.2 hqr;refine G5 func22 rfl ?_;exact Uz [] [0,1,2,3,4,5,6] [.k cm,.f (by simp[gV];omega),.f (by simp[gV];omega),.k cc,.t (by simpa using hc)] rfl
theorem LO(hc:CrOk c)(hl:∀p∈l',Sc p.c)(hn:l'.length≤10)(h:Pd c.l c.now (Gu (qT l' c.now))=some ws):
 Ga prog 396 [.one (.ow 0 0),.agg [pts l'],.oi 0] [.blk 192 (Tc c (Fx l) r1)] [.oi 0] [.blk 192 (Tc ⟨c.now,ws,c.ev⟩ (Fx l') (brH l' c.now))]:=by
 have hB:=bO hl hn;have cn:=XY (T:=192) (c:=c) (r0:=Fx l') (r1:=r1) hc.n;have cb:=zM (c:=c) (r1:=r1) hl hn hc.n;have cg:=KU (T:=192) (r0:=Fx l') (r1:=brH l' c.now) hc hc.n (QP hc.n) (Yv 0) (hB.p _ hc.n) (hB.n _ hc.n) h;refine G5 func396 rfl ?_;exact Uz [] [0] [.f rfl,.c [0] cn,.c [0] cb,.c [0] cg] rfl
theorem Qp4{lx:Fc}{px py:U6}{x y:LV}{d:Int}(hx:IsInts lx px)(hy:IsInts ly py)(hd:Hh x y d)(hk:Cs 4294967294 1073741824 (Crv.mk px py d))(hll:l.length<=900)
 (he:FT l ⟨Crv.norm (Crv.mk px py d),id⟩=0) (hc:CrOk c) (hl:∀p∈put l ⟨Crv.norm (Crv.mk px py d),id⟩,Sc p.c) (hn:(put l ⟨Crv.norm (Crv.mk px py d),id⟩).length≤10) (h:Pd c.l c.now (Gu (qT (put l ⟨Crv.norm (Crv.mk px py d),id⟩) c.now))=some ws) :
 Ga prog 394 [.one (.ow 0 0),.agg [.row lx,.row ly,x,y,.int .i64 id]] [.blk 192 (Tc c (Fx l) r1)] [.oi 0] [.blk 192 (Tc ⟨c.now,ws,c.ev⟩ (Fx (put l ⟨Crv.norm (Crv.mk px py d),id⟩)) (brH (put l ⟨Crv.norm (Crv.mk px py d),id⟩) c.now))]:=by
 have cp:=rR (l:=l) (id:=id) hx hy hd hk Fj;rw[if_pos he,he]at cp;have cw:=LO (l:=l) (r1:=r1) hc hl hn h;refine G5 func394 rfl ?_;obtain⟨b,l',rfl,rfl,_⟩:=hd;exact Uz [] [0] [.k cp,.c [0] cw] rfl
theorem Qhi{lx:Fc}{px py:U6}{x y:LV}{d:Int}(hx:IsInts lx px)(hy:IsInts ly py)(hd:Hh x y d)(hk:Cs 4294967294 1073741824 (Crv.mk px py d))(hll:l.length<=10)(h:has l id=true)(hc:CrOk c)
 (hl':l'=l.set (Sp l id) (Pt.mk (Crv.norm (Crv.mk px py d)) id)) (hs:∀p∈l',Sc p.c) (hw:Pd c.l c.now (Gu (qT l' c.now))=some ws) :
 Ga prog 395 [.one (.ow 0 0),.agg [.row lx,.row ly,x,y,.int .i64 id]] [.blk 192 (Tc c (Fx l) r1)] [.oi 0] [.blk 192 (Tc ⟨c.now,ws,c.ev⟩ (Fx l') (brH l' c.now))]:=by
 have ct1:=GN (l:=l) hx hy hd hk Fj h;rw[<-hl']at ct1;have cw:=LO (c:=c) (l:=l) (l':=l') (r1:=r1) hc hs (by rw[hl',Xs];omega) hw;obtain⟨b,r,rfl,rfl,_⟩:=hd;refine G5 func395 rfl ?_;exact Uz [] [0] [.k ct1,.c [0] cw] rfl
theorem Qhh(hll:l.length<=10)(h:has l id=true)(hc:CrOk c)
 (hl':l'=l.take (Sp l id)++l.drop (Sp l id+1)) (hs:∀p∈l',Sc p.c) (hw:Pd c.l c.now (Gu (qT l' c.now))=some ws) :
 Ga prog 393 [.one (.ow 0 0),.oi id] [.blk 192 (Tc c (Fx l) r1)] [.oi 0] [.blk 192 (Tc ⟨c.now,ws,c.ev⟩ (Fx l') (brH l' c.now))]:=by
 have ct1:=GP (l:=l) (id:=id) Fj h;rw[<-hl']at ct1;have cw:=LO (c:=c) (l:=l) (l':=l') (r1:=r1) hc hs (by rw[hl',Qu,Qq,Q9];omega) hw;refine G5 func393 rfl ?_;exact Uz [] [0] [.k ct1,.c [0] cw] rfl
theorem Qdy:Ga prog 128 [.one (.ow 0 0)] [.blk 192 (Tc c r0 r1)] [.one (.ow 1 0)] [.blk 192 (Tc c r0 r1),.blk 192 (Tc c r0 r1)]:=by
 refine G5 func128 rfl ?_;exact Uz [] [0,1] [] rfl
theorem EY(hc:CrOk c)(hl:∀p∈l',Sc p.c)(hn:l'.length≤10)(h:Pd c.l c.now (Gu (bU l' c.now))=some ws):
 Ga prog 401 [.one (.ow 0 0),.agg [pts l'],.oi 0] [.blk 194 (Tc c (Fx l) r1)] [.oi 0] [.blk 194 (Tc ⟨c.now,ws,c.ev⟩ (Fx l') (brP l' c.now))]:=by
 have hB:=Qg4 hl hn;have cn:=XY (T:=194) (c:=c) (r0:=Fx l') (r1:=r1) hc.n;have cb:=zN (c:=c) (r1:=r1) hl hn hc.n;have cg:=KU (T:=194) (r0:=Fx l') (r1:=brP l' c.now) hc hc.n (QP hc.n) (Yv 0) (hB.p _ hc.n) (hB.n _ hc.n) h;refine G5 func401 rfl ?_;exact Uz [] [0] [.f rfl,.c [0] cn,.c [0] cb,.c [0] cg] rfl
theorem Qqc{lx:Fc}{px py:U6}{x y:LV}{d:Int}(hx:IsInts lx px)(hy:IsInts ly py)(hd:Hh x y d)(hk:Cs 4294967294 1073741824 (Crv.mk px py d))(hll:l.length<=900)
 (he:FT l ⟨Crv.norm (Crv.mk px py d),id⟩=0) (hc:CrOk c) (hl:∀p∈put l ⟨Crv.norm (Crv.mk px py d),id⟩,Sc p.c) (hn:(put l ⟨Crv.norm (Crv.mk px py d),id⟩).length≤10) (h:Pd c.l c.now (Gu (bU (put l ⟨Crv.norm (Crv.mk px py d),id⟩) c.now))=some ws) :
 Ga prog 399 [.one (.ow 0 0),.agg [.row lx,.row ly,x,y,.int .i64 id]] [.blk 194 (Tc c (Fx l) r1)] [.oi 0] [.blk 194 (Tc ⟨c.now,ws,c.ev⟩ (Fx (put l ⟨Crv.norm (Crv.mk px py d),id⟩)) (brP (put l ⟨Crv.norm (Crv.mk px py d),id⟩) c.now))]:=by
 have cp:=rR (l:=l) (id:=id) hx hy hd hk Fj;rw[if_pos he,he]at cp;have cw:=EY (l:=l) (r1:=r1) hc hl hn h;refine G5 func399 rfl ?_;obtain⟨b,l',rfl,rfl,_⟩:=hd;exact Uz [] [0] [.k cp,.c [0] cw] rfl
theorem Qhu{lx:Fc}{px py:U6}{x y:LV}{d:Int}(hx:IsInts lx px)(hy:IsInts ly py)(hd:Hh x y d)(hk:Cs 4294967294 1073741824 (Crv.mk px py d))(hll:l.length<=10)(h:has l id=true)(hc:CrOk c)
 (hl':l'=l.set (Sp l id) (Pt.mk (Crv.norm (Crv.mk px py d)) id)) (hs:∀p∈l',Sc p.c) (hw:Pd c.l c.now (Gu (bU l' c.now))=some ws) :
 Ga prog 400 [.one (.ow 0 0),.agg [.row lx,.row ly,x,y,.int .i64 id]] [.blk 194 (Tc c (Fx l) r1)] [.oi 0] [.blk 194 (Tc ⟨c.now,ws,c.ev⟩ (Fx l') (brP l' c.now))]:=by
 have ct1:=GN (l:=l) hx hy hd hk Fj h;rw[<-hl']at ct1;have cw:=EY (c:=c) (l:=l) (l':=l') (r1:=r1) hc hs (by rw[hl',Xs];omega) hw;obtain⟨b,r,rfl,rfl,_⟩:=hd;refine G5 func400 rfl ?_;exact Uz [] [0] [.k ct1,.c [0] cw] rfl
theorem Qht(hll:l.length<=10)(h:has l id=true)(hc:CrOk c)
 (hl':l'=l.take (Sp l id)++l.drop (Sp l id+1)) (hs:∀p∈l',Sc p.c) (hw:Pd c.l c.now (Gu (bU l' c.now))=some ws) :
 Ga prog 398 [.one (.ow 0 0),.oi id] [.blk 194 (Tc c (Fx l) r1)] [.oi 0] [.blk 194 (Tc ⟨c.now,ws,c.ev⟩ (Fx l') (brP l' c.now))]:=by
 have ct1:=GP (l:=l) (id:=id) Fj h;rw[<-hl']at ct1;have cw:=EY (c:=c) (l:=l) (l':=l') (r1:=r1) hc hs (by rw[hl',Qu,Qq,Q9];omega) hw;refine G5 func398 rfl ?_;exact Uz [] [0] [.k ct1,.c [0] cw] rfl
theorem Qd1:Ga prog 129 [.one (.ow 0 0)] [.blk 194 (Tc c r0 r1)] [.one (.ow 1 0)] [.blk 194 (Tc c r0 r1),.blk 194 (Tc c r0 r1)]:=by
 refine G5 func129 rfl ?_;exact Uz [] [0,1] [] rfl
theorem vC{nd:Int}{d:Cr}(hq:Qs 128 q):Ga prog 16 [.one (.ow 0 0)] (KB 0 np nd M q s t h p d) [.agg (rl q)] (KB 0 np nd M q s t h p d):=by
 refine G5 func16 rfl ?_;exact Uz [] [0,1,2,3,4,5,6] [.k (Cx (hq.mono Fl))] rfl
abbrev en2(np nd:Int)(M:List Pt)(q:Rat)(s t h p d:Cr)(np' nd':Int)(M':List Pt)(q':Rat)(s' t' h' p' d':Cr):Fe:=[.blk 87 (lJ 0 q),tB np nd M,bS s M q,bT t M q,bH h M q,bP p M q,bD d M q,.blk 87 (lJ 7 q'),tB np' nd' M',bS s' M' q',bT t' M' q',bH h' M' q',bP p' M' q',bD d' M' q']
theorem oG{nd:Int}{d:Cr}(hq:Qs 128 q):Ga prog 61 [.one (.ow 0 0)] (KB 0 np nd M q s t h p d) [.one (.ow 7 0)] (en2 np nd M q s t h p d np nd M q s t h p d):=by
 refine G5 func61 rfl ?_;exact Uz [] [0,1,2,3,4,5,6,13,7,8,9,10,11,12] [.lo,.c [1,7] Qi8,.lo,.c Fg (vC hq),.lo,.c [2,8] Qh3,.lo,.c [3,9] Qd7,.lo,.c [4,10] Qdy,.lo,.c [5,11] Qd1,.lo,.c [6,12] Qdt] rfl
abbrev anw(S W H P:List Pt)(T:List P3):Fb:=[ids (S.map (·.id)),ids (W.map (·.id)),ids (H.map (·.id)),ids (P.map (·.id)),.row (VA T)]
theorem Qqo{nd:Int}{S W H P:List Pt}{T:List P3}{r2:Fc}{d:Cr}(hS:S.length<=1000000)(hH:H.length<=1000000)(hT:T.length<=1000)(hW:W=[]\/∃w,W=[w])(hP:P=[]\/∃a b,P=[a,b]):
 Ga prog 26 [.one (.ow 0 0)] [.blk 87 (lJ 0 q),tB np nd M,.blk 185 (Tc s (Fx M) (Fx S)),.blk 190 (Ph t (Fx M) (W.map Ge,r2)),.blk 192 (Tc h (Fx M) (Fx H)),.blk 194 (Tc p (Fx M) (Fx P)),.blk 196 (Tc d (Fx M) (VA T))]
  [.agg (anw S W H P T)] [.blk 87 (lJ 0 q),tB np nd M,.blk 185 (Tc s (Fx M) (Fx S)),.blk 190 (Ph t (Fx M) (W.map Ge,r2)),.blk 192 (Tc h (Fx M) (Fx H)),.blk 194 (Tc p (Fx M) (Fx P)),.blk 196 (Tc d (Fx M) (VA T))]:=by
 have c1:=Qw3 (c:=s) (l:=M) hS;have c2:=Qwr (c:=h) (l:=M) hH;have c3:=dQ (c:=d) (r0:=Fx M) hT;rcases hW with rfl|⟨w,rfl⟩
 ·have c4:=Qic (c:=t) (r0:=Fx M) (r2:=r2);rcases hP with rfl|⟨a,b,rfl⟩
  ·have c5:=rH (c:=p) (r0:=Fx M);refine G5 func26 rfl ?_;exact Uz [] [0,1,2,3,4,5,6] [.c [2] c1,.c [4] c2,.c [6] c3,.c [3] c4,.f rfl,.c [5] c5,.f rfl] rfl
  ·have c5:=oN (c:=p) (r0:=Fx M) (a:=a) (b:=b);refine G5 func26 rfl ?_;exact Uz [] [0,1,2,3,4,5,6] [.c [2] c1,.c [4] c2,.c [6] c3,.c [3] c4,.f rfl,.c [5] c5,.t rfl] rfl
 ·have c4:=Qqs (c:=t) (r0:=Fx M) (r2:=r2) (w:=w);rcases hP with rfl|⟨a,b,rfl⟩
  ·have c5:=rH (c:=p) (r0:=Fx M);refine G5 func26 rfl ?_;exact Uz [] [0,1,2,3,4,5,6] [.c [2] c1,.c [4] c2,.c [6] c3,.c [3] c4,.t rfl,.c [5] c5,.f rfl] rfl
  ·have c5:=oN (c:=p) (r0:=Fx M) (a:=a) (b:=b);refine G5 func26 rfl ?_;exact Uz [] [0,1,2,3,4,5,6] [.c [2] c1,.c [4] c2,.c [6] c3,.c [3] c4,.t rfl,.c [5] c5,.t rfl] rfl
abbrev Qpn(M:List Pt)(q:Rat):Fb:=anw (Ra (tq q) M) (Ny (Gm (tq q)) M).1 (Hn M (tq q)) (Oe (Gm (tq q)) M) (NA (Gm (tq q)) M)
theorem Quf(sg:U6->Int)(M:List Pt):(Ny sg M).1=[]\/∃w,(Ny sg M).1=[w]:=by
 by_cases h:0<M.length
 ·obtain⟨a,ha,_⟩:=Nz sg M.length M (Qm _) h;exact .inr ⟨a,ha⟩
 ·obtain rfl:=Qi (by omega:M.length=0);exact .inl rfl
theorem Ql2(sg:U6->Int)(M:List Pt):Oe sg M=[]\/∃a b,Oe sg M=[a,b]:=by
 match M with
 | []=>exact .inl rfl
 | [_]=>exact .inl rfl
 |_::_::_=>exact .inr ⟨_,_,rfl⟩
theorem Qh9{nd:Int}{d:Cr}(hM:M.length<=6):Ga prog 26 [.one (.ow 0 0)] (KB 0 np nd M q s t h p d) [.agg (Qpn M q)] (KB 0 np nd M q s t h p d) :=
 Qqo (by rw[Mq];omega) (by have:=PX M (tq q);omega) (by have:=Qfj (Gm (tq q)) hM;omega) (Quf _ _) (Ql2 _ _)
theorem Qd2{nd:Int}{r:Rat}{d:Cr}{b1 b2:Bool}{r2:Fc}(hq:Qs 128 q)(hM:M.length<=6)
 (ha:Ga prog 22 [.one (.ow 0 0),.agg [.bool b1,.row r1,.bool b2,.row r2]] (KB 0 np nd M q s t h p d) [.oi 0] (KB 0 np nd M r s' t' h' p' d')) :
 Ga prog 23 [.one (.ow 0 0),.agg [.bool b1,.row r1,.bool b2,.row r2]] (KB 0 np nd M q s t h p d) [.agg (Qpn M r),.oi 0] (KB 0 np nd M q s t h p d):=by
 refine G5 func23 rfl ?_;exact Uz [] [0,1,2,3,4,5,6] [.c Fi (oG hq),.c Fh ha,.f rfl,.c Fh (Qh9 hM)] rfl
abbrev Q0r:Fb:=[.row [],.row [],.row [],.row [],.row []]
theorem Qhy{nd:Int}{d:Cr}{b1 b2:Bool}{r2:Fc}(he:e≠0)(hq:Qs 128 q)
 (ha:Ga prog 22 [.one (.ow 0 0),.agg [.bool b1,.row r1,.bool b2,.row r2]] (KB 0 np nd M q s t h p d) [.oi e] (KB 0 np nd M q s t h p d)) :
 Ga prog 23 [.one (.ow 0 0),.agg [.bool b1,.row r1,.bool b2,.row r2]] (KB 0 np nd M q s t h p d) [.agg Q0r,.oi e] (KB 0 np nd M q s t h p d):=by
 refine G5 func23 rfl ?_;exact Uz [] [0,1,2,3,4,5,6] [.c Fi (oG hq),.c Fh ha,.t (by simpa using he)] rfl
abbrev QY(l:List Wt):List Ct:=Gu (l.map (·.c))
def NF(s t h p d:Cr):Nat->Fc
 | 0=>[]
 | 1=>[]++Gg (QY s.l)
 | 2=>[]++Gg (QY s.l)++Gg (QY t.l)
 | 3=>[]++Gg (QY s.l)++Gg (QY t.l)++Gg (QY h.l)
 | 4=>[]++Gg (QY s.l)++Gg (QY t.l)++Gg (QY h.l)++Gg (QY p.l)
 |_=>[]++Gg (QY s.l)++Gg (QY t.l)++Gg (QY h.l)++Gg (QY p.l)++Gg (QY d.l)
theorem Qpz{nd:Int}{d:Cr}(hs:CrOk s)(ht:CrOk t)(hh:CrOk h)(hp:CrOk p)(hd:CrOk d):Ga prog 32 [.one (.ow 0 0)] (KB 0 np nd M q s t h p d) [.one (.row (Gg (QY s.l++QY t.l++QY h.l++QY p.l++QY d.l)))] (KB 0 np nd M q s t h p d):=by
 have e:Gg (QY s.l++QY t.l++QY h.l++QY p.l++QY d.l)=NF s t h p d 5:=by simp[Gg,NF]
 rw[e];have ln:∀{c:Cr},CrOk c->(Gg (QY c.l)).length<=1000:=λ{c} hc=>by rw[Mx,Bt,Ze];exact hc.k
 have l1:=ln hs;have l2:=ln ht;have l3:=ln hh;have l4:=ln hp;have l5:=ln hd;have k1:(Gg (Gu (s.l.map (·.c)))).length<=1000:=ln hs;have k2:(Gg (Gu (t.l.map (·.c)))).length<=1000:=ln ht;have k3:(Gg (Gu (h.l.map (·.c)))).length<=1000:=ln hh;have k4:(Gg (Gu (p.l.map (·.c)))).length<=1000:=ln hp;have k5:(Gg (Gu (d.l.map (·.c)))).length<=1000:=ln hd;have m1:(NF s t h p d 1).length<=1000:=by show([]++Gg (QY s.l)).length<=_;simp only[Qu,Xy];omega
 have m2:(NF s t h p d 2).length<=2000:=by show([]++Gg (QY s.l)++Gg (QY t.l)).length<=_;simp only[Qu,Xy];omega
 have m3:(NF s t h p d 3).length<=3000:=by show([]++Gg (QY s.l)++Gg (QY t.l)++Gg (QY h.l)).length<=_;simp only[Qu,Xy];omega
 have m4:(NF s t h p d 4).length<=4000:=by show([]++Gg (QY s.l)++Gg (QY t.l)++Gg (QY h.l)++Gg (QY p.l)).length<=_;simp only[Qu,Xy];omega
 have m0:(NF s t h p d 0).length=0:=rfl;refine G5 func32 rfl ?_;refine Uv [.o 3 168 7,.c Fg rP] rfl ?_;refine U0 (S:=Nat) 8 (λL1 i=>(8,.v (.oi i))::(3,.v (.one (.orow 7 7 none)))::L1) (λi=>[.blk 87 (lJ 0 q),tB np nd M,bS s M q,bT t M q,bH h M q,bP p M q,bD d M q,.row false 168 7 (NF s t h p d i)]) (λi=>5-i) (λi=>i<=5) 0 Fl rfl rfl λi hi=>?_
 rcases(show i=0\/i=1\/i=2\/i=3\/i=4\/i=5 by omega)with rfl|rfl|rfl|rfl|rfl|rfl
 ·exact go tt [.t rfl,.i 0,.c [2] (GG hs),.s (QB _)] rfl (by simp only[Gd];omega) (rd 1 Fj Fj rfl)
 ·exact go tt [.t rfl,.i 1,.c [3] (Qh7 ht),.s (QB _)] rfl (by simp only[Gd];omega) (rd 2 Fj Fj rfl)
 ·exact go tt [.t rfl,.i 2,.c [4] (GG hh),.s (QB _)] rfl (by simp only[Gd];omega) (rd 3 Fj Fj rfl)
 ·exact go tt [.t rfl,.i 3,.c [5] (GG hp),.s (QB _)] rfl (by simp only[Gd];omega) (rd 4 Fj Fj rfl)
 ·exact go tt [.t rfl,.i 4,.c [6] (GG hd),.s (QB _)] rfl (by simp only[Gd];omega) (rd 5 Fj Fj rfl)
 ·exact Uz [7] [0,1,2,3,4,5,6] [.f rfl] rfl
theorem Qur:∀p∈([]:List Pt),Sc p.c:=λ_ h=>by cases h
theorem Qoz:∀x∈([]:List Ct),Cp x.p:=λ_ h=>by cases h
theorem bK:U3 88 [.one (.row [])] [.agg [.row []],.oi 0]:=by
 refine G5 func88 rfl ?_;refine Uv [.f rfl] rfl ?_;refine nlb 1 rfl rfl rfl ?_;refine U0 (S:=Unit) 2 (λL1 _=>(14,.v (.oi 0))::L1) (λ_=>[.blk 178 [.nils],.blk 178 [.row []]]) (λ_=>0) (λ_=>True) () trivial rfl rfl λ_ _=>?_
 exact Ux [.f rfl] rfl
abbrev zT(r0 r1 r2:LV):OB:=.blk 190 [.bool false,.nils,.bool false,.nils,.bool false,.nils,.bool false,.nils,.bool false,.nils,.nils,.int .i64 0,r0,r1,r2]
theorem Qup:Ga prog 164 [.one (.ow 0 0),.agg (ta a),.one (.row [])] [zT (.row []) .nils (.orow 1 10 none),.row false 258 10 []] [.one (.row [])] [zT (.row []) .nils (.orow 1 10 none),.row false 258 10 []]:=by
 refine G5 func164 rfl ?_;exact Uz [] [0,1] [.t rfl] rfl
theorem Qox:Ga prog 91 [.one (.ow 0 0),.agg (ta a)] [zT (.row []) .nils .nils] [.one (.row [])] [zT (.row []) (.row []) (.row [])]:=by
 refine G5 func91 rfl ?_;refine Uv [] rfl ?_;refine oz 0 14 258 10 rfl rfl ?_;refine Uv [.k (QX (l:=[])),.c [0,2] (Qup (a:=a)),.o 5 168 7] rfl ?_;refine U0 (S:=Unit) 4 (λL1 _=>(29,.v (.oi 0))::(5,.v (.one (.orow 3 7 none)))::L1) (λ_=>[zT (.row []) (.row []) (.orow 2 10 none),.blk 75 (ta a),.row false 258 10 [],.row false 168 7 []]) (λ_=>0) (λ_=>True) () trivial rfl rfl λ_ _=>?_
 exact Uz [2,3] [0] [.f rfl] rfl
theorem Qoy:U3 167 [.agg [.row []]] [.one (.row [])]:=dW (l:=[]) (λ_ h=>by cases h) Fl
theorem Qv6(ha:Va a):U3 161 [.agg (ta a),.one (.row [])] [.one (.row [])]:=rT (l:=[]) Qur Fl ha
theorem Qov(ha:Va a):Ga prog 92 [.one (.ow 0 0),.agg (ta a)] [.blk 192 (dC (.row []) .nils)] [.one (.row [])] [.blk 192 (dC (.row []) (.row []))]:=by
 have cn:U3 166 [.agg (ta a),.one (.row [])] [.one (.row [])]:=Qaj (R:=[]) Qur Fl ha;have cc:Ga prog 163 [.agg (ta a),.one (.row [])] [] [.one (.orow 0 7 none)] [.row false 168 7 []]:=NK (l:=[]) Qur Fl ha;refine G5 func92 rfl ?_;exact Uz [2] [0] [.k Qoy,.k (Qv6 ha),.k cn,.k (QX (l:=[])),.k (Qv6 ha),.c [2] cc,.t rfl] rfl
theorem Qow:Ga prog 93 [.one (.ow 0 0),.agg (ta a)] [.blk 194 (dC (.row []) .nils)] [.one (.row [])] [.blk 194 (dC (.row []) (.row []))]:=by
 refine G5 func93 rfl ?_;refine Uv [.k (QX (l:=[]))] rfl ?_;refine nlc 0 13 rfl rfl rfl ?_;exact Uz [] [0] [.t rfl] rfl
theorem Qou:Ga prog 94 [.one (.ow 0 0),.agg (ta a)] [.blk 196 (dC (.row []) .nils)] [.one (.row [])] [.blk 196 (dC (.row []) (.row []))]:=by
 refine G5 func94 rfl ?_;refine Uv [.k Qoy,.o 6 168 7] rfl ?_;refine U0 (S:=Unit) 4 (λL1 _=>(42,.v (.oi 0))::(6,.v (.one (.orow 2 7 none)))::L1) (λ_=>[.blk 196 (dC (.row []) .nils),.blk 75 (ta a),.row false 168 7 [],.mpb (Al (Om (Gm a) []))]) (λ_=>0) (λ_=>True) () trivial rfl rfl λ_ _=>?_
 refine Uv [.f rfl] rfl ?_;refine U0 (S:=Unit) 5 (λL1 _=>(97,.v (.oi 0))::(6,.v (.one (.orow 2 7 none)))::L1) (λ_=>[.blk 196 (dC (.row []) .nils),.blk 75 (ta a),.row false 168 7 [],.mpb (Al (Om (Gm a) [])),.mpb (O3 (Al (Om (Gm a) [])) (JQ (Gm a) []))]) (λ_=>0) (λ_=>True) () trivial rfl rfl λ_ _=>?_
 refine Uv [.f rfl] rfl ?_;refine ozM 0 13 163 3 rfl rfl ?_;refine U0 (S:=Unit) 6 (λL1 _=>(174,.v (.oi 0))::L1) (λ_=>[.blk 196 [.bool false,.nils,.bool false,.nils,.bool false,.nils,.bool false,.nils,.bool false,.nils,.nils,.int .i64 0,.row [],.orow 5 3 none],.blk 75 (ta a),.row false 168 7 [],.mpb (Al (Om (Gm a) [])),.mpb (O3 (Al (Om (Gm a) [])) (JQ (Gm a) [])),.row false 163 3 []]) (λ_=>0) (λ_=>True) () trivial rfl rfl λ_ _=>?_
 exact Uz [2,5] [0] [.f rfl] rfl
section
variable{x y x' y':LV}{n d:Int}(h1:Hh x y n)(h2:Hh x' y' d)(bn:Gl n<=4294967295)(bd:Gl d<=4294967295)(ht:Qs 1640000 (Hm n d))
include h1 h2 bn bd ht
theorem Quo:Ga prog 39 [.agg [x,y,x',y'],.one (.row [])] [] [.one (.ow 0 0),.oi 0] [.blk 185 (Tc ⟨tq (Hm n d),[],0⟩ [] [])]:=by
 have co:=JI h1 h2 bn bd (ht.mono Fl);have cb:Ga prog 90 [.one (.ow 0 0),.agg (ta (tq (Hm n d)))] [.blk 185 (dC (.row []) .nils)] [.one (.row [])] [.blk 185 (dC (.row []) (.row []))]:=Qd4 (l:=[]) Qur Fl (BI ht);have cg:=KW (T:=185) (r0:=[]) (r1:=[]) (BI ht) Qoz Fl;obtain⟨b,l1,rfl,rfl,_⟩:=h1;obtain⟨b',l2,rfl,rfl,_⟩:=h2;refine G5 func39 rfl ?_;exact Uz [] [2] [.k bK,.f rfl,.k co,.c [2] cb,.c [2] cg] rfl
theorem Quq:Ga prog 40 [.agg [x,y,x',y'],.one (.row [])] [] [.one (.ow 0 0),.oi 0] [.blk 190 (Ph ⟨tq (Hm n d),[],0⟩ [] ([],[]))]:=by
 have co:=JI h1 h2 bn bd (ht.mono Fl);have cg:=Qd5 (T:=190) (r0:=[]) (r1:=([],[])) (BI ht) Qoz Fl;obtain⟨b,l1,rfl,rfl,_⟩:=h1;obtain⟨b',l2,rfl,rfl,_⟩:=h2;refine G5 func40 rfl ?_;exact Uz [] [2] [.k bK,.f rfl,.k co,.c [2] (Qox (a:=tq (Hm n d))),.c [2] cg] rfl
theorem Qum:Ga prog 41 [.agg [x,y,x',y'],.one (.row [])] [] [.one (.ow 0 0),.oi 0] [.blk 192 (Tc ⟨tq (Hm n d),[],0⟩ [] [])]:=by
 have co:=JI h1 h2 bn bd (ht.mono Fl);have cg:=KW (T:=192) (r0:=[]) (r1:=[]) (BI ht) Qoz Fl;obtain⟨b,l1,rfl,rfl,_⟩:=h1;obtain⟨b',l2,rfl,rfl,_⟩:=h2;refine G5 func41 rfl ?_;exact Uz [] [2] [.k bK,.f rfl,.k co,.c [2] (Qov (BI ht)),.c [2] cg] rfl
theorem Qun:Ga prog 42 [.agg [x,y,x',y'],.one (.row [])] [] [.one (.ow 0 0),.oi 0] [.blk 194 (Tc ⟨tq (Hm n d),[],0⟩ [] [])]:=by
 have co:=JI h1 h2 bn bd (ht.mono Fl);have cg:=KW (T:=194) (r0:=[]) (r1:=[]) (BI ht) Qoz Fl;obtain⟨b,l1,rfl,rfl,_⟩:=h1;obtain⟨b',l2,rfl,rfl,_⟩:=h2;refine G5 func42 rfl ?_;exact Uz [] [2] [.k bK,.f rfl,.k co,.c [2] (Qow (a:=tq (Hm n d))),.c [2] cg] rfl
theorem Qul:Ga prog 43 [.agg [x,y,x',y'],.one (.row [])] [] [.one (.ow 0 0),.oi 0] [.blk 196 (Tc ⟨tq (Hm n d),[],0⟩ [] [])]:=by
 have co:=JI h1 h2 bn bd (ht.mono Fl);have cg:=KW (T:=196) (r0:=[]) (r1:=[]) (BI ht) Qoz Fl;obtain⟨b,l1,rfl,rfl,_⟩:=h1;obtain⟨b',l2,rfl,rfl,_⟩:=h2;refine G5 func43 rfl ?_;exact Uz [] [2] [.k bK,.f rfl,.k co,.c [2] (Qou (a:=tq (Hm n d))),.c [2] cg] rfl
end
end Orr
namespace Orr
open Go Go.Proofs Tryz Orq
set_option maxRecDepth 10000
theorem Qxj{np nd:Int}(h1:1<=np/\np<=6)(h2:0<=nd/\nd<=2):Ga prog 37 [.oi np,.oi nd] [] [.one (.ow 0 0),.oi 0] [.blk 153 [.int .i64 np,.int .i64 nd,.nils]]:=by
 refine G5 func37 rfl ?_;exact Uz [] [0] [.F,.f Fo,.f Fo,.f Fo] rfl
theorem Qwp{np nd:Int}(h1:1<=np/\np<=6)(h2:0<=nd/\nd<=2):Ga prog 9 [.oi np,.oi nd] [] [.one (.ow 0 0),.oi 0] (KB 0 np nd [] 0 (Q0y [] (tq 0)) (Q0z [] (tq 0)) (Q0w [] (tq 0)) (Q0x [] (tq 0)) (Q0v [] (tq 0))):=by
 have ez:Hm (0:Rat).num ((0:Rat).den:Int)=0:=Fl;have hq:Qs 1640000 (Hm (0:Rat).num ((0:Rat).den:Int)):=by rw[ez];exact⟨Fl,Fl⟩
 have i1:=Fy (0:Rat).num;have i2:=Fy ((0:Rat).den:Int);have c1:=Quo i1 i2 Fl Fl hq;have c2:=Quq i1 i2 Fl Fl hq;have c3:=Qum i1 i2 Fl Fl hq;have c4:=Qun i1 i2 Fl Fl hq;have c5:=Qul i1 i2 Fl Fl hq;rw[ez]at c1 c2 c3 c4 c5;have ci:=Qxh (n:=0) Fl;rw[show((0:Int):Rat)=0 from rfl,Af]at ci;refine G5 func9 rfl ?_;refine Uv [.c [0] (Qxj h1 h2),.f rfl] rfl ?_;refine nlc 0 2 rfl rfl rfl ?_;exact Uz [] [1,0,2,3,4,5,6] [.k ci,.c [2] c1,.c [3] c2,.c [4] c3,.c [5] c4,.c [6] c5] rfl
def Em.ins(A:Em)(p:Pt):Em×Int:=(if L9 A.np A.nd A.M p=0 then { A with M:=put A.M p }else A,L9 A.np A.nd A.M p)
def Em.rep(A:Em)(p:Pt):Em×Int:=(if B8 A.nd A.M p=0 then { A with M:=A.M.set (Sp A.M p.id) p }else A,B8 A.nd A.M p)
def Em.del(A:Em)(id:Int):Em×Int:=if has A.M id=true then({ A with M:=A.M.take (Sp A.M id)++A.M.drop (Sp A.M id+1) },0)else(A,5)
open Classical in
noncomputable def Em.adv(A:Em)(t:Rat):Em×Int:=if Qs 128 t then(if t<A.q then(A,8)else({ A with q:=t,s:=A.s+(cnt (UF A.M) A.q t:Nat),t:=A.t+(cnt (zG A.M) A.q t:Nat),h:=A.h+(cnt (qT A.M) A.q t:Nat),p:=A.p+(cnt (bU A.M) A.q t:Nat),d:=A.d+(cnt (gJ A.M) A.q t:Nat) },0))else(A,1)
theorem Qvz{np nd:Int}{k:Crv}(hn:KX k)(hnd:nd<=2)(h1:JV k=true)(h2:¬nd<BN k):Sc k:=by
 obtain⟨s1,s2,s3⟩:=qZ.1 h1;unfold BN at h2;exact⟨hn,s1,s2,s3,Fj,Fj⟩
variable{p:Pt}
theorem Qlv(h:YO p=true):(0<=p.id/\p.id<=1048576)/\JV p.c=true:=by
 simp only[YO,Zn,decide_eq_true_iff]at h;exact⟨⟨h.1,h.2.1⟩,h.2.2⟩
variable{M:List Pt}
theorem iK(hs:Ry M)(h:has M p.id=true):Ry (M.set (Sp M p.id) p):=by
 have hl:=WY h;have hid:∀(x:Pt),M[Sp M p.id]? = some x->x.id=p.id:=λx hx=>by
  simp only[has,hx]at h;exact of_decide_eq_true h
 unfold Ry;rw[X2];intro i j hi hj hij;rw[Xs]at hi hj;have hx:=Qf hi;have hy:=Qf hj;have hlt:=Q2i hs hij hx hy;rw[List.getElem_set,List.getElem_set]
 split
 ·rename_i e;subst e;rw[if_neg Fj];have:=hid _ hx;omega
 ·split
  ·rename_i e;subst e;have:=hid _ hy;omega
  ·exact hlt
variable{i:Nat}
theorem VQ{x:Pt}(h:x∈M.set i p):x=p\/x∈M:=by
 rcases J9 h with h|h
 ·exact .inr h
 ·exact .inl h
theorem IN{x:Pt}(h:x∈M.take i++M.drop (i+1)):x∈M:=by
 rcases Qp.1 h with h|h
 ·exact Qn h
 ·exact Qx h
theorem nW(hs:Ry M)(i:Nat):Ry (M.take i++M.drop (i+1)):=by
 have h:=hs;unfold Ry at h ⊢;rw[<-Zf i M,Zp]at h;refine Zp.2 ⟨h.1,?_,λx hx y hy=>h.2.2 x hx y ?_⟩
 ·have:M.drop (i+1)=(M.drop i).drop 1:=by rw[J4]
  rw[this];exact h.2.1.sublist (List.drop_sublist _ _)
 ·have:M.drop (i+1)=(M.drop i).drop 1:=by rw[J4]
  rw[this]at hy;exact Qx hy
abbrev EnD(f:Nat)(args:Ff)(E:Es)(res:Ff)(E':Es):Prop:=Ga prog f args (enB 0 E) res (enB 0 E')
variable{E:Es}{b:Int}
theorem Qj8(h:EOk b E){lx ly:Fc}{px py:U6}{x y:LV}{d id:Int}(hx:IsInts lx px)(hy:IsInts ly py)(hd:Hh x y d)(hk:Cs 4294967294 1073741824 (Crv.mk px py d)):
 ∃E',EOk b E'/\E'.m=(E.m.ins ⟨Crv.norm (Crv.mk px py d),id⟩).1/\EnD 18 [.one (.ow 0 0),.oi id,.agg [.row lx,.row ly,x,y]] E [.one (.int .i64 (E.m.ins ⟨Crv.norm (Crv.mk px py d),id⟩).2)] E':=by
 have hM:=h.m.m;have hl6:=hM.ln;have ct:=Qxk (np:=E.np) (nd:=E.nd) (l:=E.M) (id:=id) hx hy hd hk Fj;obtain⟨p,hp⟩:=nmE (Pt.mk (Crv.norm (Crv.mk px py d)) id);have hpn:KX p.c:=by rw[hp];exact Crv.nml _
 by_cases e:L9 E.np E.nd E.M p=0
 ·have e0:YO p=true/\has E.M p.id=false/\¬E.nd<BN p.c/\¬E.np<=(E.M.length:Int):=by
   unfold L9 at e;by_cases a1:YO p=false
   ·rw[if_pos a1]at e;cases e
   rw[if_neg a1]at e;by_cases a2:has E.M p.id=true
   ·rw[if_pos a2]at e;cases e
   rw[if_neg a2]at e;by_cases a3:E.nd<BN p.c
   ·rw[if_pos a3]at e;cases e
   rw[if_neg a3]at e;by_cases a4:E.np<=(E.M.length:Int)
   ·rw[if_pos a4]at e;cases e
   exact⟨by simpa using a1,by simpa using a2,a3,a4⟩
  obtain⟨f1,f2,f3,f4⟩:=e0;obtain⟨g1,g2⟩:=Qlv f1;have hsc:=Qvz (np:=E.np) hpn h.nd.2 g2 f3;have Dz:(put E.M p).length<=6:=by rw[Qcr];have:=h.np.2;omega
  have hM':MOk (put E.M p):=⟨λz hz=>by rcases DT hz with rfl|hz;exact hsc;exact hM.sc z hz,Dz,OC hM.so f2⟩;have hME:MEn E.np E.nd (put E.M p):=⟨hM',by rw[Qcr];have:=h.np.2;omega,λz hz=>by rcases DT hz with rfl|hz;omega;exact h.m.deg z hz,λz hz=>by rcases DT hz with rfl|hz;exact g1;exact h.m.id z hz⟩;have hpe:FT E.M p=0:=by unfold FT;rw[if_neg (by rw[f2];decide),if_neg (by have:=h.np.2;omega)]
  rw[hp]at e hpe hM' hME Dz;rw[e,if_pos rfl]at ct;obtain⟨w1,l1,a1⟩:=h.s.again okS hM';obtain⟨w2,l2,a2⟩:=h.t.again okT hM';obtain⟨w3,l3,a3⟩:=h.h.again okH hM';obtain⟨w4,l4,a4⟩:=h.p.again okP hM';obtain⟨w5,l5,a5⟩:=h.d.again okD hM';have c1:=Qw4 (c:=E.s) (l:=E.M) (r1:=cN E.M (tq E.q)) hx hy hd hk Fj hpe h.s.st.inv.ok hM'.sc Fj l1;have c2:=Qqr (c:=E.t) (l:=E.M) (r1:=cB E.M (tq E.q)) hx hy hd hk Fj hpe h.t.st.inv.ok hM'.sc Fj l2;have c3:=Qp4 (c:=E.h) (l:=E.M) (r1:=brH E.M (tq E.q)) hx hy hd hk Fj hpe h.h.st.inv.ok hM'.sc Fj l3;have c4:=Qqc (c:=E.p) (l:=E.M) (r1:=brP E.M (tq E.q)) hx hy hd hk Fj hpe h.p.st.inv.ok hM'.sc Fj l4;have c5:=Qp1 (c:=E.d) (l:=E.M) (r1:=cR E.M (tq E.q)) hx hy hd hk Fj hpe h.d.st.inv.ok hM'.sc Fj l5;rw[h.s.now]at c1;rw[h.t.now]at c2;rw[h.h.now]at c3;rw[h.p.now]at c4;rw[h.d.now]at c5;obtain⟨b1,r,rfl,rfl,_⟩:=hd;refine⟨⟨E.np,E.nd,put E.M ⟨Crv.norm (Crv.mk px py d),id⟩,E.q,⟨tq E.q,w1,E.s.ev⟩,⟨tq E.q,w2,E.t.ev⟩,⟨tq E.q,w3,E.h.ev⟩,⟨tq E.q,w4,E.p.ev⟩,⟨tq E.q,w5,E.d.ev⟩⟩,⟨h.np,h.nd,hME,h.q,a1,a2,a3,a4,a5,h.es,h.et,h.eh,h.ep,h.ed⟩,?_,?_⟩
  ·unfold Em.ins;show _=if L9 E.np E.nd E.M _=0 then _ else _
   rw[if_pos e];rfl
  ·have e2:(E.m.ins ⟨Crv.norm (Crv.mk px py d),id⟩).2=0:=e;rw[e2];exact Qhj ct c1 c2 c3 c4 c5
 ·rw[hp]at e;rw[if_neg e]at ct;obtain⟨b1,r,rfl,rfl,_⟩:=hd;refine⟨E,h,?_,Qdz e ct⟩;unfold Em.ins;show _=if L9 E.np E.nd E.M _=0 then _ else _
  rw[if_neg e]
theorem tN(h:EOk b E){lx ly:Fc}{px py:U6}{x y:LV}{d id:Int}(hx:IsInts lx px)(hy:IsInts ly py)(hd:Hh x y d)(hk:Cs 4294967294 1073741824 (Crv.mk px py d)):
 ∃E',EOk b E'/\E'.m=(E.m.rep ⟨Crv.norm (Crv.mk px py d),id⟩).1/\EnD 20 [.one (.ow 0 0),.oi id,.agg [.row lx,.row ly,x,y]] E [.one (.int .i64 (E.m.rep ⟨Crv.norm (Crv.mk px py d),id⟩).2)] E':=by
 have hM:=h.m.m;have hl6:=hM.ln;have ct:=Qrc (np:=E.np) (nd:=E.nd) (l:=E.M) (id:=id) hx hy hd hk Fj;obtain⟨p,hp⟩:=nmE (Pt.mk (Crv.norm (Crv.mk px py d)) id);have hpn:KX p.c:=by rw[hp];exact Crv.nml _
 have hpi:p.id=id:=by rw[hp]
 by_cases e:B8 E.nd E.M p=0
 ·have e0:YO p=true/\has E.M p.id=true/\¬E.nd<BN p.c:=by
   unfold B8 at e;by_cases a1:YO p=false
   ·rw[if_pos a1]at e;cases e
   rw[if_neg a1]at e;by_cases a2:has E.M p.id=false
   ·rw[if_pos a2]at e;cases e
   rw[if_neg a2]at e;by_cases a3:E.nd<BN p.c
   ·rw[if_pos a3]at e;cases e
   exact⟨by simpa using a1,by simpa using a2,a3⟩
  obtain⟨f1,f2,f3⟩:=e0;obtain⟨g1,g2⟩:=Qlv f1;have hsc:=Qvz (np:=E.np) hpn h.nd.2 g2 f3;have hM':MOk (E.M.set (Sp E.M p.id) p):=⟨λz hz=>by rcases VQ hz with rfl|hz;exact hsc;exact hM.sc z hz,by rw[Xs];exact hl6,iK hM.so f2⟩;have hME:MEn E.np E.nd (E.M.set (Sp E.M p.id) p):=⟨hM',by rw[Xs];exact h.m.len,λz hz=>by rcases VQ hz with rfl|hz;omega;exact h.m.deg z hz,λz hz=>by rcases VQ hz with rfl|hz;exact g1;exact h.m.id z hz⟩;rw[hpi]at f2 hM' hME;rw[hp]at e hM' hME;rw[e,if_pos rfl]at ct;obtain⟨w1,l1,a1⟩:=h.s.again okS hM';obtain⟨w2,l2,a2⟩:=h.t.again okT hM';obtain⟨w3,l3,a3⟩:=h.h.again okH hM';obtain⟨w4,l4,a4⟩:=h.p.again okP hM';obtain⟨w5,l5,a5⟩:=h.d.again okD hM';have c1:=Qqi (c:=E.s) (l:=E.M) (r1:=cN E.M (tq E.q)) hx hy hd hk Fj f2 h.s.st.inv.ok rfl hM'.sc l1;have c2:=Qib (c:=E.t) (l:=E.M) (r1:=cB E.M (tq E.q)) hx hy hd hk Fj f2 h.t.st.inv.ok rfl hM'.sc l2;have c3:=Qhi (c:=E.h) (l:=E.M) (r1:=brH E.M (tq E.q)) hx hy hd hk Fj f2 h.h.st.inv.ok rfl hM'.sc l3;have c4:=Qhu (c:=E.p) (l:=E.M) (r1:=brP E.M (tq E.q)) hx hy hd hk Fj f2 h.p.st.inv.ok rfl hM'.sc l4;have c5:=Qhb (c:=E.d) (l:=E.M) (r1:=cR E.M (tq E.q)) hx hy hd hk Fj f2 h.d.st.inv.ok rfl hM'.sc l5;rw[h.s.now]at c1;rw[h.t.now]at c2;rw[h.h.now]at c3;rw[h.p.now]at c4;rw[h.d.now]at c5;obtain⟨b1,r,rfl,rfl,_⟩:=hd;refine⟨⟨E.np,E.nd,E.M.set (Sp E.M id) ⟨Crv.norm (Crv.mk px py d),id⟩,E.q,⟨tq E.q,w1,E.s.ev⟩,⟨tq E.q,w2,E.t.ev⟩,⟨tq E.q,w3,E.h.ev⟩,⟨tq E.q,w4,E.p.ev⟩,⟨tq E.q,w5,E.d.ev⟩⟩,⟨h.np,h.nd,hME,h.q,a1,a2,a3,a4,a5,h.es,h.et,h.eh,h.ep,h.ed⟩,?_,?_⟩
  ·unfold Em.rep;show _=if B8 E.nd E.M _=0 then _ else _
   rw[if_pos e];rfl
  ·have e2:(E.m.rep ⟨Crv.norm (Crv.mk px py d),id⟩).2=0:=e;rw[e2];exact Qh0 ct c1 c2 c3 c4 c5
 ·rw[hp]at e;rw[if_neg e]at ct;obtain⟨b1,r,rfl,rfl,_⟩:=hd;refine⟨E,h,?_,Qd3 e ct⟩;unfold Em.rep;show _=if B8 E.nd E.M _=0 then _ else _
  rw[if_neg e]
theorem Qj7{id:Int}(h:EOk b E):
 ∃E',EOk b E'/\E'.m=(E.m.del id).1/\EnD 19 [.one (.ow 0 0),.oi id] E [.one (.int .i64 (E.m.del id).2)] E':=by
 have hM:=h.m.m;have hl6:=hM.ln;by_cases f2:has E.M id=true
 ·have ct:=Qrb (np:=E.np) (nd:=E.nd) (l:=E.M) Fj f2;have Dz:=WY f2;have hgl:=Qk2 Dz;have hM':MOk (E.M.take (Sp E.M id)++E.M.drop (Sp E.M id+1)):=⟨λz hz=>hM.sc z (IN hz),Fj,nW hM.so _⟩;have hME:MEn E.np E.nd (E.M.take (Sp E.M id)++E.M.drop (Sp E.M id+1)):=⟨hM',by have:=h.m.len;omega,λz hz=>h.m.deg z (IN hz),λz hz=>h.m.id z (IN hz)⟩;obtain⟨w1,l1,a1⟩:=h.s.again okS hM';obtain⟨w2,l2,a2⟩:=h.t.again okT hM';obtain⟨w3,l3,a3⟩:=h.h.again okH hM';obtain⟨w4,l4,a4⟩:=h.p.again okP hM';obtain⟨w5,l5,a5⟩:=h.d.again okD hM';have c1:=Qqg (c:=E.s) (l:=E.M) (r1:=cN E.M (tq E.q)) Fj f2 h.s.st.inv.ok rfl hM'.sc l1;have c2:=Qia (c:=E.t) (l:=E.M) (r1:=cB E.M (tq E.q)) Fj f2 h.t.st.inv.ok rfl hM'.sc l2;have c3:=Qhh (c:=E.h) (l:=E.M) (r1:=brH E.M (tq E.q)) Fj f2 h.h.st.inv.ok rfl hM'.sc l3;have c4:=Qht (c:=E.p) (l:=E.M) (r1:=brP E.M (tq E.q)) Fj f2 h.p.st.inv.ok rfl hM'.sc l4;have c5:=Qha (c:=E.d) (l:=E.M) (r1:=cR E.M (tq E.q)) Fj f2 h.d.st.inv.ok rfl hM'.sc l5;rw[h.s.now]at c1;rw[h.t.now]at c2;rw[h.h.now]at c3;rw[h.p.now]at c4;rw[h.d.now]at c5;have e2:E.m.del id=({ E.m with M:=E.M.take (Sp E.M id)++E.M.drop (Sp E.M id+1) },0):=if_pos f2;rw[e2];exact⟨⟨E.np,E.nd,E.M.take (Sp E.M id)++E.M.drop (Sp E.M id+1),E.q,⟨tq E.q,w1,E.s.ev⟩,⟨tq E.q,w2,E.t.ev⟩,⟨tq E.q,w3,E.h.ev⟩,⟨tq E.q,w4,E.p.ev⟩,⟨tq E.q,w5,E.d.ev⟩⟩,⟨h.np,h.nd,hME,h.q,a1,a2,a3,a4,a5,h.es,h.et,h.eh,h.ep,h.ed⟩,rfl,Qhc ct c1 c2 c3 c4 c5⟩
 ·have e2:E.m.del id=(E.m,5):=if_neg f2;rw[e2];exact⟨E,h,rfl,Qdu (show(5:Int)≠0 by decide) (Qi9 Fj (by simpa using f2))⟩
variable{t:Rat}
theorem PG(h:EOk b E)(hb:b<=900000000000000000){x0 x1 x2 x3:LV}{n m:Int}(ha:Hh x0 x1 n)(hc:Hh x2 x3 m)(sa:Gl n<=4294967295)(sb:Gl m<=4294967295)(ht:Hm n m=t):
 ∃E',EOk (b+67000000) E'/\E'.m=(E.m.adv t).1/\((E.m.adv t).2≠0->E'=E)/\EnD 22 [.one (.ow 0 0),.agg [x0,x1,x2,x3]] E [.one (.int .i64 (E.m.adv t).2)] E':=by
 have hM:=h.m.m;have hl6:=hM.ln;by_cases hs:Qs 128 t
 ·by_cases hp:t<E.q
  ·have e2:E.m.adv t=(E.m,8):=by unfold Em.adv;rw[if_pos hs];exact if_pos hp
   rw[e2];exact⟨E,h.mono Fj,rfl,λ_=>rfl,qC ha hc sa sb ht hs h.q hp⟩
  ·have hqt:E.q<=t:=Rat.not_lt.1 hp;have e2:E.m.adv t=(({ E.m with q:=t,s:=E.s.ev+(cnt (UF E.M) E.q t:Nat),t:=E.t.ev+(cnt (zG E.M) E.q t:Nat),h:=E.h.ev+(cnt (qT E.M) E.q t:Nat),p:=E.p.ev+(cnt (bU E.M) E.q t:Nat),d:=E.d.ev+(cnt (gJ E.M) E.q t:Nat) }:Em),0):=by unfold Em.adv;rw[if_pos hs];exact if_neg hp
   rw[e2];have hq:Qs 1640000 t:=hs.mono Fl;obtain⟨K1,d1,k1,g1,a1,v1,u1,_⟩:=h.s.adv okS hM hq hqt;obtain⟨K2,d2,k2,g2,a2,v2,u2,_⟩:=h.t.adv okT hM hq hqt;obtain⟨K3,d3,k3,g3,a3,v3,u3,_⟩:=h.h.adv okH hM hq hqt;obtain⟨K4,d4,k4,g4,a4,v4,u4,_⟩:=h.p.adv okP hM hq hqt;obtain⟨K5,d5,k5,g5,a5,v5,u5,_⟩:=h.d.adv okD hM hq hqt;have hcm:∀{c:Cr},c.now=tq E.q->Gx c.now t<=0:=λ{c} hn=>by
    rw[hn,Qc9];exact CM.2 hqt
   have c1:=Qw2 hq hM.sc Fj h.s.st.inv.ok (by have:=h.es;omega) (hcm h.s.now) g1;have c2:=Qqq hq hM.sc Fj h.t.st.inv.ok (by have:=h.et;omega) (hcm h.t.now) g2;have c3:=Qwq hq hM.sc Fj h.h.st.inv.ok (by have:=h.eh;omega) (hcm h.h.now) g3;have c4:=Qqb hq hM.sc Fj h.p.st.inv.ok (by have:=h.ep;omega) (hcm h.p.now) g4;have c5:=Qwo hq hM.sc Fj h.d.st.inv.ok (by have:=h.ed;omega) (hcm h.d.now) g5;refine⟨⟨E.np,E.nd,E.M,t,d1,d2,d3,d4,d5⟩,⟨h.np,h.nd,h.m,hs,a1,a2,a3,a4,a5,?_,?_,?_,?_,?_⟩,?_,λh=>absurd rfl h,Qds ha hc sa sb ht hs h.q hqt c1 c2 c3 c4 c5⟩
   ·have:=h.es;show 0<=d1.ev/\d1.ev<=_;omega
   ·have:=h.et;show 0<=d2.ev/\d2.ev<=_;omega
   ·have:=h.eh;show 0<=d3.ev/\d3.ev<=_;omega
   ·have:=h.ep;show 0<=d4.ev/\d4.ev<=_;omega
   ·have:=h.ed;show 0<=d5.ev/\d5.ev<=_;omega
   ·unfold Es.m;simp only[v1,v2,v3,v4,v5]
 ·have e2:E.m.adv t=(E.m,1):=by unfold Em.adv;exact if_neg hs
  rw[e2];exact⟨E,h.mono Fj,rfl,λ_=>rfl,vB ha hc sa sb ht hs⟩
noncomputable def Em.ans(A:Em)(t:Rat):Fb:=if (A.adv t).2=0 then Qpn A.M t else Q0r
theorem Qa6(h:EOk b E)(hb:b<=900000000000000000){x0 x1 x2 x3:LV}{n m:Int}(ha:Hh x0 x1 n)(hc:Hh x2 x3 m)(sa:Gl n<=4294967295)(sb:Gl m<=4294967295)(ht:Hm n m=t):
 EnD 23 [.one (.ow 0 0),.agg [x0,x1,x2,x3]] E [.agg (E.m.ans t),.one (.int .i64 (E.m.adv t).2)] E:=by
 obtain⟨E',h1,h2,h3,h4⟩:=PG h hb ha hc sa sb ht;obtain⟨b1,r1,rfl,rfl,_⟩:=ha;obtain⟨b2,r2,rfl,rfl,_⟩:=hc;unfold Em.ans;by_cases e:(E.m.adv t).2=0
 ·rw[if_pos e];rw[e]at h4 ⊢;have hs:Qs 128 t/\¬t<E.q:=by
   unfold Em.adv at e;by_cases a:Qs 128 t
   ·rw[if_pos a]at e;by_cases a':t<E.m.q
    ·rw[if_pos a']at e;cases e
    ·exact⟨a,a'⟩
   ·rw[if_neg a]at e;cases e
  have e2:E.m.adv t=(({ E.m with q:=t,s:=E.s.ev+(cnt (UF E.M) E.q t:Nat),t:=E.t.ev+(cnt (zG E.M) E.q t:Nat),h:=E.h.ev+(cnt (qT E.M) E.q t:Nat),p:=E.p.ev+(cnt (bU E.M) E.q t:Nat),d:=E.d.ev+(cnt (gJ E.M) E.q t:Nat) }:Em),0):=by unfold Em.adv;rw[if_pos hs.1];exact if_neg hs.2
  rw[e2]at h2;obtain⟨np,nd,M,q,s,u,v,p,d⟩:=E';unfold Es.m at h2;injection h2 with i1 i2 i3 i4;dsimp only at i1 i2 i3 i4;subst i1 i2 i3 i4;exact Qd2 h.q h.m.m.ln h4
 ·rw[if_neg e];rw[h3 e]at h4;exact Qhy e h.q h4
end Orr
namespace Orr
open Go Go.Proofs Tryz Orq
set_option maxRecDepth 10000
variable{M:List Pt}{q:Rat}
theorem rZ{β:Type}{k:Knd β}{c:Cr}(h:At k M q c):QY c.l=Gu (Gu (k.bc M (tq q))):=by
 unfold QY;rw[h.st.cs,h.now]
def NU(M:List Pt)(q:Rat):List Ct:=Gu (Gu (UF M (tq q)))++Gu (Gu (zG M (tq q)))++Gu (Gu (qT M (tq q)))++Gu (Gu (bU M (tq q)))++Gu (Gu (gJ M (tq q)))
variable{E:Es}{b:Int}
theorem Qj6(h:EOk b E):EnD 32 [.one (.ow 0 0)] E [.one (.row (Gg (NU E.M E.q)))] E:=by
 have hc:=Qpz (np:=E.np) (nd:=E.nd) (M:=E.M) (q:=E.q) h.s.st.inv.ok h.t.st.inv.ok h.h.st.inv.ok h.p.st.inv.ok h.d.st.inv.ok;have e:QY E.s.l++QY E.t.l++QY E.h.l++QY E.p.l++QY E.d.l=NU E.M E.q:=by
  rw[rZ h.s,rZ h.t,rZ h.h,rZ h.p,rZ h.d];rfl
 rw[e]at hc;exact hc
theorem Qjf(h:EOk b E):(∀c∈NU E.M E.q,Cp c.p)/\(NU E.M E.q).length≤1000000:=by
 have hv:Va (tq E.q):=BI (h.q.mono Fl);have S1:=okS.st _ h.m.m;have S2:=okT.st _ h.m.m;have S3:=okH.st _ h.m.m;have S4:=okP.st _ h.m.m;have S5:=okD.st _ h.m.m;constructor
 ·intro c hc;unfold NU at hc;simp only[Qp]at hc;rcases hc with (((hc|hc)|hc)|hc)|hc
  ·exact S1.ok.p _ hv c (Ts (Ts hc))
  ·exact S2.ok.p _ hv c (Ts (Ts hc))
  ·exact S3.ok.p _ hv c (Ts (Ts hc))
  ·exact S4.ok.p _ hv c (Ts (Ts hc))
  ·exact S5.ok.p _ hv c (Ts (Ts hc))
 ·unfold NU;simp only[Qu,Bt];have:=S1.ok.n _ hv;have:=S2.ok.n _ hv;have:=S3.ok.n _ hv;have:=S4.ok.n _ hv;have:=S5.ok.n _ hv;have e1:(kS.bc E.M (tq E.q)).length=(UF E.M (tq E.q)).length:=rfl;have e2:(kT.bc E.M (tq E.q)).length=(zG E.M (tq E.q)).length:=rfl;have e3:(kH.bc E.M (tq E.q)).length=(qT E.M (tq E.q)).length:=rfl;have e4:(kP.bc E.M (tq E.q)).length=(bU E.M (tq E.q)).length:=rfl;have e5:(kD.bc E.M (tq E.q)).length=(gJ E.M (tq E.q)).length:=rfl;omega
theorem Qzb(h:EOk b E):∀x∈E.M,Qpc 4294967294 1073741824 x:=λx hx=>by
 have:=h.m.m.sc x hx;exact⟨this.n,this.c.mono Fl Fl⟩
theorem Qx4(h:EOk b E):EnD 26 [.one (.ow 0 0)] E [.agg (Qpn E.M E.q)] E:=Qh9 h.m.m.ln
theorem FC{sg:U6->Int}:∀{l:List Pt},∀x∈Mb sg l,G7 sg x.p=x.want
 | [],x,hx=>by cases hx
 | [_],x,hx=>by cases hx
 |
  a::b::l,x,hx=>by
  rcases Qk.1 hx with rfl|hx
  ·rfl
  ·exact FC x hx
theorem dP:∀c∈NU M q,G7 (Gm (tq q)) c.p=c.want:=λc hc=>by
 unfold NU at hc;simp only[Qp]at hc;rcases hc with (((hc|hc)|hc)|hc)|hc <;> have hc:=Ts (Ts hc)
 ·exact FC c hc
 ·obtain⟨m,_,rfl⟩:=Q8.1 hc;rfl
 ·rcases Qp.1 hc with hx|hx
  ·exact FC c hx
  ·obtain⟨e,_,x,_,_,rfl⟩:=IG hx;rfl
 ·match M,hc with
  |
   u::v::l',hx =>
   unfold bU at hx;simp only[Lz]at hx;obtain⟨m,_,rfl⟩:=PW hx;rw[B6]
 ·rcases Qp.1 hc with hx|hx
  ·obtain⟨m,_,rfl⟩:=Q8.1 hx;rfl
  ·obtain⟨m,_,rfl⟩:=Q8.1 hx;rfl
theorem Qfi(hM:MOk M)(h4:M.length<=4)(q:Rat):NA (Gm (tq q)) M=(H7 (Gv M)).filter (qA (Gm (tq q)) (Gv M)):=by
 have hw4:(Gv M).length<=4:=Qc (Bh M) h4;have hws:Ry (Gv M):=List.Pairwise.sublist (An M) hM.so;have e1:∀ps,Om (Gm (tq q)) ps=Om (λp=>Rp p q) ps:=λps=>Xx λm _=>by
  show(Ls m,G7 (Gm (tq q)) _)=(Ls m,Td _ q);rw[IV]
 have e2:∀ps,JQ (Gm (tq q)) ps=JQ (λp=>Rp p q) ps:=λps=>Xx λm _=>by
  show(Qlh m,G7 (Gm (tq q)) _)=(Qlh m,Td _ q);rw[IV]
 have e3:∀m,qA (Gm (tq q)) (Gv M) m=qA (λp=>Rp p q) (Gv M) m:=λm=>by
  unfold qA;simp only[IV];rfl
 unfold NA;rw[e1,e2];refine Wb λm hm=>?_
 rw[e3];exact Qrz hw4 hws hm
theorem Qry(h:EOk b E)(h4:E.M.length<=4):EnD 6 [.one (.ow 0 0)] E [.one (.bool true)] E:=by
 have hM:=h.m.m;have hv:Va (tq E.q):=BI (h.q.mono Fl);have ck:=vC (np:=E.np) (nd:=E.nd) (M:=E.M) (s:=E.s) (t:=E.t) (h:=E.h) (p:=E.p) (d:=E.d) h.q;have co:=JI (Fy E.q.num) (Fy (E.q.den:Int)) (Qc h.q.1 Fl) (Qc h.q.2 Fl) (by rw[Po];exact h.q.mono Fl);rw[Po]at co;have cal:=Qxi (np:=E.np) (nd:=E.nd) (Qzb h) (by have:=hM.ln;omega);have tl:=Qx4 h;have Dz:(List.map Ge E.M).length=E.M.length:=Fp;have cL:=oO hM.df hM.sc Fj hv (R:=Ra (tq E.q) E.M) (λx hx=>Hk.1 hx) (Mq _ _) λi x y hx hy=>Qpp hM hv (show i<i+1 by omega) hx hy
 have cH:=oI hM.so hM.sc Fj hv (Qg1 hM hv h4);have cT:=Qaa hM.so hM.sc hM.ln hv;rw[<-Qfi hM h4 E.q]at cT;obtain⟨hcp,hcn⟩:=Qjf h;have cC:=Qig (t:=tq E.q) (λc hc=>⟨hcp c hc,dP c hc⟩) hcn hv;have cE:=Qj6 h;have hw:=Q0b (Gm (tq E.q)) E.M;have hp:=Qs3 (Gm (tq E.q)) hM.so;obtain⟨W,hW⟩:=nmE ((Ny (Gm (tq E.q)) E.M).1);obtain⟨P,hP⟩:=nmE (Oe (Gm (tq E.q)) E.M);have tl:EnD 26 [.one (.ow 0 0)] E [.agg (anw (Ra (tq E.q) E.M) W (Hn E.M (tq E.q)) P (NA (Gm (tq E.q)) E.M))] E:=by rw[hW,hP];exact tl
 rw[<-hW]at hw;rw[<-hP]at hp;refine G5 func6 rfl ?_;refine Uv [.lo,.c Fg ck,.k co,.lo,.c Fg tl,.lo,.c [1] cal,.k cL,.g 22 false rfl,.k cH,.g 30 false rfl,.k cT,.g 38 false rfl,.lo,.c Fg cE,.k cC,.f rfl] rfl ?_;rcases hw with⟨m0,rfl⟩|⟨m1,w,rfl,hwm⟩
 ·have hP0:P=[]:=by rw[hP,m0];rfl
  subst hP0;exact Uz [] [0,1,2,3,4,5,6] [.t (decide_eq_true (by rw[Dz,m0];rfl))] rfl Fw
 ·have cW:=Qw6 hM.df hM.sc Fj hv hwm λx hx hne=>Qpq hM hv hW.symm hx hne
  have gW:(idl [w.id])[0]? = some [.int .i64 w.id]:=rfl;rcases hp with⟨m2,rfl⟩|⟨m2,x,y,rfl,hx,hy,hxy⟩
  ·exact Uz [] [0,1,2,3,4,5,6] [.F,.g 62 false rfl,.x gW,.k cW,.f rfl,.T] rfl
  ·have cP:=Qqt hM.df hM.sc Fj hv hx hy hxy λu hu v hv' huv hne=>Qg2 hM hv hP.symm hu hv' huv hne
   have gX:(idl [x.id,y.id])[0]? = some [.int .i64 x.id]:=rfl;have gY:(idl [x.id,y.id])[1]? = some [.int .i64 y.id]:=rfl;exact Uz [] [0,1,2,3,4,5,6] [.F,.g 62 false rfl,.x gW,.k cW,.f rfl,.F,.g 84 true rfl,.x gX,.x gY,.k cP] rfl
end Orr
namespace Orr
theorem bz1:Bd 9000000 [1]:=λz hz=>by obtain rfl:=Ql.1 hz;decide
theorem bz2:Bd 9000000 [0,1]:=λz hz=>by
 simp only[Qk,Jk,or_false]at hz;rcases hz with rfl|rfl <;> decide
theorem Q3x:∀z∈([0,1]:U6),Gl z≤1:=by
 intro z hz;simp only[Qk,Jk,or_false]at hz;rcases hz with rfl|rfl <;> decide
theorem rz:RRun [1] 1 [0,1] []:=by
 refine .step Fl Fl bz2 bz1 ?_;rw[show nZ [0,1] [1]=[] by decide];exact .stop Fl
theorem dz2:DOk [0,1] [1] [0,1]:=by
 refine⟨Fl,Fl,Fl,bz1,[0,1],[],1,bz2,Fl,?_,Fl⟩;refine .step Fl Fl bz2 Fl Fl Fl ?_;exact .stop Fl
theorem dz1:DOk [1] [1] [1]:=by
 refine⟨Fl,Fl,Fl,bz1,[1],[],1,bz1,Fl,?_,Fl⟩;refine .step Fl Fl bz1 Fl Fl Fl ?_;exact .stop Fl
theorem Qm3:Qgs 0 [[-(0:Rat).num,((0:Rat).den:Int)],[1]]:=by
 show Qgs 0 [[0,1],[1]];refine⟨[0,1],?_⟩;show ChRun [0,1] [0,1] [[0,1],[1]];have e1:S0 [0,1]=[0,1]:=Fl;have e2:H5 [0,1]=[1]:=Fl;have e3:S0 [1]=[1]:=Fl;have e4:Dd [1]=[1]:=Fl;refine⟨⟨1,λ_=>[0,1],⟨⟨1,[[0,1],[1]],?_,rfl,λk hk=>?_⟩,Fl⟩,λi hi=>?_,Fl⟩,⟨1,?_⟩,λz hz=>Qc (Q3x z hz) Fl,Fl,Fl⟩
 ·rw[e1];refine .step Fl Fl (by show trim _=_;decide) bz2 (by show Bd _ (H5 [0,1]);rw[e2];exact bz1) (m:=1) (g:=[1]) ?_ Fl (.stop Fl);show GRun 1 (S0 [0,1]) (S0 (H5 [0,1])) [1];rw[e1,e2,e3];refine .step Fl Fl bz1 rz Fl (λz hz=>by cases hz) rfl ?_;rw[show S0 []=[] by decide];exact .stop _
 ·obtain rfl:k=0:=Fj;exact⟨[0,1],[1],[0,1],dz2,dz1,by rw[e1,e3];exact dz2,e1.symm⟩
 ·obtain rfl:i=0:=Fj;exact⟨bz1,Fl,bz2,Fl⟩
 ·rw[e2,e4];refine .step Fl Fl bz1 (m:=1) (r:=[]) rz rfl (λz hz=>by cases hz) Fl Fl Fl ?_;exact .stop Fl
end Orr
namespace Orr
open Go Go.Proofs Tryz Orq
set_option maxRecDepth 10000
theorem Qka{q:Rat}{c:U7}:U3 271 [.one (.row []),.agg (aq q c)] [.one (.row [])]:=by
 refine G5 func271 rfl ?_;refine Uv [.z 5] rfl ?_;refine U0 (S:=Unit) 1 (λL1 _=>(10,.v (.oi 0))::(5,.v (.one (.row [])))::L1) (λ_=>[.blk 100 (aq q c)]) (λ_=>0) (λ_=>True) () trivial rfl rfl λ_ _=>?_
 exact Ux [.f rfl] rfl
theorem dO:U3 273 [.one (.row [])] [.one (.row [])]:=by
 refine G5 func273 rfl ?_;refine Uv [.z 3] rfl ?_;refine U0 (S:=Unit) 0 (λL1 _=>(8,.v (.oi 0))::(3,.v (.one (.row [])))::L1) (λ_=>[]) (λ_=>0) (λ_=>True) () trivial rfl rfl λ_ _=>?_
 exact Ux [.f rfl] rfl
theorem Qj5:U3 275 [.one (.row [])] [.one (.row [])]:=by
 refine G5 func275 rfl ?_;refine Uv [.z 3] rfl ?_;refine U0 (S:=Unit) 0 (λL1 _=>(8,.v (.oi 0))::(3,.v (.one (.row [])))::L1) (λ_=>[]) (λ_=>0) (λ_=>True) () trivial rfl rfl λ_ _=>?_
 exact Ux [.f rfl] rfl
theorem Qkb:U3 278 [.one (.row [])] [.one (.row [])]:=by
 refine G5 func278 rfl ?_;refine Uv [.z 3,.k Qj5] rfl ?_;refine U0 (S:=Unit) 0 (λL1 _=>(11,.v (.oi 0))::(3,.v (.one (.row [])))::L1) (λ_=>[]) (λ_=>0) (λ_=>True) () trivial rfl rfl λ_ _=>?_
 exact Ux [.f rfl] rfl
section
variable{q:Rat}{c:U7}
theorem Qj9:U3 233 [.one (.row []),.agg (aq q c)] [.one (.row [])]:=by
 refine G5 func233 rfl ?_;refine Uv [.k Qka,.z 6] rfl ?_;refine U0 (S:=Unit) 1 (λL1 _=>(7,.v (.oi 0))::(6,.v (.one (.row [])))::L1) (λ_=>[.blk 100 (aq q c)]) (λ_=>0) (λ_=>True) () trivial rfl rfl λ_ _=>?_
 exact Ux [.f rfl,.k dO] rfl rfl Fw
theorem Qx5:U3 234 [.one (.row []),.agg (aq q c)] [.one (.row [])]:=Uy func234 rfl [.t rfl,.z 4] rfl
theorem Qey:U3 276 [.one (.row []),.agg (aq q c)] [.one (.row [])]:=Uy func276 rfl [.k Qkb,.t rfl] rfl
theorem Qx1:U3 235 [.one (.row []),.agg (aq q c)] [.one (.row [])]:=by
 refine G5 func235 rfl ?_;refine Uv [.k Qj9,.k Qey] rfl ?_;refine U0 (S:=Unit) 1 (λL1 _=>(7,.v (.oi 0))::(5,.v (.one (.row [])))::L1) (λ_=>[.blk 100 (aq q c)]) (λ_=>0) (λ_=>True) () trivial rfl rfl λ_ _=>?_
 exact Ux [.f rfl,.f rfl,.k dO] rfl
abbrev zPq:Fb:=[.row [],.row [],.row [],.row [],.bool false,.row [],.int .i64 0]
theorem Qex:U3 277 [.one (.row []),.agg (aq q c)] [.agg zPq,.agg zPq,.one (.bool false)]:=Uy func277 rfl [.k Qj5,.t rfl] rfl
theorem Qx3:U3 236 [.one (.row []),.agg (aq q c)] [.one (.row [])]:=Uy func236 rfl [.k Qex,.t rfl,.z 4] rfl
theorem Qx2:U3 237 [.one (.row []),.agg (aq q c)] [.one (.row [])]:=by
 refine G5 func237 rfl ?_;refine Uv [.k Qkb,.z 6] rfl ?_;refine U0 (S:=Unit) 1 (λL1 _=>(15,.v (.oi 0))::(6,.v (.one (.row [])))::L1) (λ_=>[.blk 100 (aq q c)]) (λ_=>0) (λ_=>True) () trivial rfl rfl λ_ _=>?_
 exact Ux [.f rfl,.k dO] rfl
theorem HK(k:Nat)(hk:k<5):U3 96 [.oi k,.one (.row []),.agg (aq q c)] [.one (.row [])]:=by
 refine(?_:U3 173 [.oi k,.one (.row []),.agg (aq q c)] [.one (.row [])]->_) ?_
 ·intro h;exact Uy func96 rfl [.k h] rfl
 ·rcases(show k=0\/k=1\/k=2\/k=3\/k=4 by omega)with rfl|rfl|rfl|rfl|rfl
  ·exact Uy func173 rfl [.t rfl,.k Qj9] rfl
  ·exact Uy func173 rfl [.f rfl,.t rfl,.k Qx5] rfl
  ·exact Uy func173 rfl [.f rfl,.f rfl,.t rfl,.k Qx1] rfl
  ·exact Uy func173 rfl [.f rfl,.f rfl,.f rfl,.t rfl,.k Qx3] rfl
  ·exact Uy func173 rfl [.f rfl,.f rfl,.f rfl,.f rfl,.k Qx2] rfl
end
theorem AN:U3 95 [.one (.row []),.one (.row [])] [.one (.row [])]:=by
 refine G5 func95 rfl ?_;refine Uv [] rfl ?_;refine U0 (S:=Unit) 0 (λL1 _=>(9,.v (.oi 0))::L1) (λ_=>[]) (λ_=>0) (λ_=>True) () trivial rfl rfl λ_ _=>?_
 exact Ux [.f rfl] rfl
end Orr
namespace Orr
open Go Go.Proofs Tryz Orq
set_option maxRecDepth 10000
theorem rX{b:Int}(h:0<=b):0<=(0:Int)/\(0:Int)<=b:=⟨Yv _,h⟩
def Ql4(np nd:Int):Es:=⟨np,nd,[],0,Q0y [] (tq 0),Q0z [] (tq 0),Q0w [] (tq 0),Q0x [] (tq 0),Q0v [] (tq 0)⟩
theorem WQ:MOk []:=⟨λp h=>(by cases h),Fl,List.Pairwise.nil⟩
theorem Qy4{np nd:Int}(h1:1<=np/\np<=6)(h2:0<=nd/\nd<=2):EOk 0 (Ql4 np nd):=by
 have hq:Qs 1640000 (0:Rat):=⟨Fl,Fl⟩;exact⟨h1,h2,⟨WQ,by show((0:Nat):Int)<=np;omega,λp h=>(by cases h),λp h=>(by cases h)⟩,(show Qs 128 (0:Rat) from⟨Fl,Fl⟩),At.begin okS WQ hq,At.begin okT WQ hq,At.begin okH WQ hq,At.begin okP WQ hq,At.begin okD WQ hq,rX (Yv _),rX (Yv _),rX (Yv _),rX (Yv _),rX (Yv _)⟩
theorem Qwz{np nd:Int}(h1:1<=np/\np<=6)(h2:0<=nd/\nd<=2):Ga prog 9 [.oi np,.oi nd] [] [.one (.ow 0 0),.oi 0] (enB 0 (Ql4 np nd)):=Qwp h1 h2
def vI(z:RawInt):Int:=Gi z.b (val z.l)
def RawInt.cutN(z:RawInt)(n:Nat):RawInt:=⟨z.b,z.l.take n⟩
variable{z:RawInt}
theorem RawInt.Ok.cutN_ok(h:z.Ok)(n:Nat):(z.cutN n).Ok:=⟨λu hu=>h.u u (Qn hu)⟩
theorem KE(h:z.Ok):Hh (.bool z.b) (.row (lm z.l)) (vI z):=⟨z.b,z.l,rfl,rfl,h.u,rfl⟩
variable{n:Nat}
theorem DZ(h:z.Ok)(hl:z.l.length<=n):Gl (vI z)<=32*n:=by
 have h1:=Dl z.l h.u;have e:(vI z).natAbs=val z.l:=by unfold vI Gi;split <;> simp
 refine Mm.2 ?_;rw[e,We];exact Xn h1 (Zt Fl hl)
theorem YY(z:RawInt)(n:Nat):(z.cutN n).l.length<=n:=by show(z.l.take n).length<=n;rw[Qq];omega
theorem CW(hn:n<=1000):U3 98 [.agg (Aq z),.oi n] [.agg (Aq (z.cutN n))] :=
 Uy func98 rfl [.k (Qxa (l:=z.l) hn)] rfl
theorem Qqy{t u:RawInt}:U3 47 [.agg (Aq t++Aq u),.oi 6] [.agg (Aq (t.cutN 6)++Aq (u.cutN 6))] :=
 Uy func47 rfl [.k (CW (z:=t) (n:=6) Fl),.k (CW (z:=u) (n:=6) Fl)] rfl
theorem rN{l:List RawInt}:U3 97 [.one (.row (O9 l)),.oi 4,.oi 1] [.one (.row (O9 ((l.take 4).map (·.cutN 1))))]:=by
 have hll:=ZD l;refine G5 func97 rfl (ln 0 rfl rfl λhzl=>?_);rw[hll]at hzl;refine Uv [.o 7 35 2] rfl ?_;refine U0 (S:=Nat) 1 (λL1 i=>(8,.v (.oi i))::(7,.v (.one (.orow 0 2 none)))::L1) (λi=>[.row false 35 2 (O9 ((l.take i).map (·.cutN 1)))]) (λi=>4-i) (λi=>i<=4/\i<=l.length) 0 ⟨Fl,Qg _⟩ rfl rfl λi ⟨hi,hi2⟩=>?_
 have hil:(O9 ((l.take i).map (·.cutN 1))).length=i:=by rw[ZD,Ze,Qq];omega
 by_cases h1:i<l.length
 ·by_cases h2:i<4
  ·obtain⟨z,hz⟩:=gxE (l:=l) (i:=i) h1;have hm:∀y∈[Aq (z.cutN 1)],y.length=2:=λy hy=>by rw[Ql.1 hy];rfl
   refine go tt [.g 13 true U5,.T,.x (Rm (f:=Aq) hz),.k (CW (n:=1) Fl),.s (sz:=2) hm] rfl (by simp[Gd,hil,-List.map_take];omega) ?_;exact rd (i+1) Fj ⟨h2,h1⟩ (by rw[Xb,hz];simp[O9];rfl)
  ·have e:i=4:=Fj;have e2:l.take 4=l.take i:=by rw[e]
   rw[e2];exact Ux [.g 13 true U5,.F] rfl
 ·have e:l.take i=l.take 4:=by rw[Qo Fj,Qo Fj]
  rw[e];exact Ux [.g 13 false U4,.f rfl] rfl
theorem Qwn{z:RawPt}:U3 45 [.agg (rcw z),.oi 4,.oi 1] [.agg [.row (O9 ((z.x.take 4).map (·.cutN 1))),.row (O9 ((z.y.take 4).map (·.cutN 1))),.bool z.d.b,.row (lm (z.d.l.take 1))]] :=
 Uy func45 rfl [.k (rN (l:=z.x)),.k (rN (l:=z.y)),.k (CW (z:=z.d) (n:=1) Fl)] rfl
theorem FZ:∀{l:List RawInt},(∀z∈l,z.Ok)->IsInts (O9 l) (l.map vI)
 | [],_=>trivial
 |z::l,h=>⟨⟨_,_,rfl,KE (h z (Qw ..))⟩,FZ λy hy=>h y (Qh _ hy)⟩
theorem zP{x y:LV}{z:Int}(h:Hh x y z)(hl:∀l,y=.row (lm l)->l.length<=1000):U3 52 [.agg [x,y]] [.agg (ri z)]:=by
 obtain⟨b,l,rfl,rfl,hs,rfl⟩:=h;have hl:=hl l rfl;have hv:=Dl l hs;have hsz:sz (val l)<=100000000:=by
  refine Qc ((Cu (k:=32*l.length)).2 ?_) Fj;rw[We];exact hv
 exact Uy func52 rfl [.k (Qp2 hs Fj hsz),.k (Cw b (val l))] rfl
theorem vD{x y x' y':LV}{a b:Int}(h:Hh x y a)(h':Hh x' y' b)(hl:∀l,y=.row (lm l)->l.length<=1000)(hl':∀l,y'=.row (lm l)->l.length<=1000)(sa:Gl a<=90000000)(sb:Gl b<=90000000):U3 15 [.agg [x,y,x',y']] [.agg (fr (Hm a b))]:=by
 have c1:=zP h hl;have c2:=zP h' hl';have c3:=KF sa sb;obtain⟨b1,l1,rfl,rfl,_⟩:=h;obtain⟨b2,l2,rfl,rfl,_⟩:=h';exact Uy func15 rfl [.k c1,.k c2,.k c3] rfl
theorem Qln{a b:U8}(h:LV.row (lm a)=.row (lm b)):a.length=b.length:=by
 injection h with h;have:=congrArg List.length h;simpa[lm]using this
theorem Qhe{q:Rat}(hq:Qs 30000 q):U3 15 [.agg (rl q)] [.agg (fr q)]:=by
 have e:Hm q.num (q.den:Int)=q:=by
  unfold Hm;rw[if_neg (by have:=q.den_pos;omega)];exact Xj q
 have ln:∀{z:Int},Gl z<=30000->∀l,mg z=.row (lm l)->l.length<=1000:=λ{z} hz l h=>by
  have h1:=Sy (x:=z.natAbs) (k:=30000) hz;have:=Qln h;omega
 have h:=vD (Fy q.num) (Fy (q.den:Int)) (ln hq.1) (ln hq.2) (Qc hq.1 Fl) (Qc hq.2 Fl);rw[e]at h;exact h
theorem Ql3{m b:Nat}(hb:0<b)(h:0<m % b):(-(m:Int)) % (b:Int)=-((m % b:Nat):Int)+(b:Int):=by
 have h1:=Xi m hb;have h2:=Wy m b;have e:-(m:Int)=(-((m % b:Nat):Int)+(b:Int))+(b:Int)*(-((m / b:Nat):Int)-1):=by
  have:(m:Int)=((m % b:Nat):Int)+(b:Int)*((m / b:Nat):Int):=by
   have:=congrArg (λ(n:Nat)=>(n:Int)) h2
   push_cast at this ⊢
   omega
  rw[Int.mul_sub,Kn];omega
 rw[e,Int.add_mul_emod_self_left];exact Int.emod_eq_of_lt Fj Fj
theorem Qec{a:Int}{b:Nat}(ha:Gl a<=90000000)(hb:Gl (b:Int)<=90000000)(h0:0<b):∃x,U3 62 [.agg (ri a),.agg (ri (b:Int))] [.agg (ri x),.agg (ri (a % (b:Int)))]:=by
 have cd:=dX (x:=a.natAbs) (y:=(b:Int).natAbs) ha hb Fj;have eb:(b:Int).natAbs=b:=rfl;have sb:sg (b:Int)=.bool false:=by unfold sg;rw[decide_eq_false Fj]
 rw[eb]at cd;have hml:=Xi a.natAbs h0;rcases Kv a 0 with hn|hn
 ·have sa:sg a=.bool true:=by unfold sg;rw[decide_eq_true hn]
  have m1:=Cw true (a.natAbs / b);have m2:=Cw true (a.natAbs % b);have ea:a=-(a.natAbs:Int):=Fj;by_cases hr:a.natAbs % b=0
  ·have e:a % (b:Int)=0:=by
    rw[ea];exact Yg ((Int.dvd_neg).2 (Int.ofNat_dvd.2 (Nat.dvd_of_mod_eq_zero hr)))
   rw[e];refine⟨Gi true (a.natAbs / b),?_⟩;rw[hr]at m2 cd;rw[show Gi true 0=0 from rfl]at m2;show U3 62 [.agg [nd a.natAbs,sg a],.agg [nd (b:Int).natAbs,sg (b:Int)]] _;rw[sa,sb,eb];exact Uy func62 rfl [.k cd,.k m1,.k m2,.t rfl] rfl
  ·have e:=Ql3 h0 (by omega:0<a.natAbs % b);rw[<-ea]at e;have os:Gi true (a.natAbs % b)=-((a.natAbs % b:Nat):Int):=rfl;have ng:decide (Gi true (a.natAbs % b)<0)=true:=by rw[os];exact decide_eq_true Fj
   have hsm:Gl (Gi true (a.natAbs % b))<=200000000:=by
    rw[os,Te];exact Qc (Tx (Nat.mod_le _ _)) (Qc ha Fl)
   have hsd:Gl (Gi true (a.natAbs / b))<=200000000:=by
    show Gl (-((a.natAbs / b:Nat):Int))<=_;rw[Te];exact Qc (Tx (Ya _ _)) (Qc ha Fl)
   have c1:=JO (n:=1) Fl;have c2:=Qio (a:=Gi true (a.natAbs / b)) (b:=1) hsd Fl;have c3:=dU (a:=Gi true (a.natAbs % b)) (b:=(b:Int)) hsm (Qc hb Fl);rw[os,<-e]at c3;rw[os]at m2 ng;refine⟨Gi true (a.natAbs / b)-1,?_⟩;show U3 62 [.agg [nd a.natAbs,sg a],.agg [nd (b:Int).natAbs,sg (b:Int)]] _;have c3':U3 50 [.agg (ri (-((a.natAbs % b:Nat):Int))),.agg [nd b,.bool false]] [.agg (ri (a % (b:Int)))]:=by rw[<-sb];exact c3
   rw[sa,sb,eb];exact Uy func62 rfl [.k cd,.k m1,.k m2,.f (show(!decide (-((a.natAbs % b:Nat):Int)<0))=false by rw[ng];rfl),.f rfl,.k c1,.k c2,.k c3'] rfl
 ·have sa:sg a=.bool false:=by unfold sg;rw[decide_eq_false Fj]
  have m1:=Cw false (a.natAbs / b);have m2:=Cw false (a.natAbs % b);have ea:a=(a.natAbs:Int):=Fj;have e:a % (b:Int)=((a.natAbs % b:Nat):Int):=by rw[ea];rfl
  have os:Gi false (a.natAbs % b)=((a.natAbs % b:Nat):Int):=rfl;have ng:decide (((a.natAbs % b:Nat):Int)<0)=false:=decide_eq_false Fj;rw[e];rw[os]at m2;refine⟨Gi false (a.natAbs / b),?_⟩;show U3 62 [.agg [nd a.natAbs,sg a],.agg [nd (b:Int).natAbs,sg (b:Int)]] _;rw[sa,sb,eb];exact Uy func62 rfl [.k cd,.k m1,.k m2,.t (show(!decide (((a.natAbs % b:Nat):Int)<0))=true by rw[ng];rfl)] rfl
def BQ(x:Rat):Rat:=Hm (x.num % (x.den:Int)) (x.den:Int)
theorem Qcu{x:Rat}(h:Qs 128 x):Qs 128 (BQ x):=by
 have h0:=x.den_pos;have h1:=Yx x.num (b:=(x.den:Int)) Fj;have h2:=Yd x.num (b:=(x.den:Int)) Fj;unfold BQ Hm;rw[if_neg Fj];refine⟨Ml (Qc (Tx Fj) h.2),Mk h.2 Fl⟩
theorem Qq3{x y x' y':LV}{a b:Int}(h:Hh x y a)(h':Hh x' y' b)(hl:∀l,y=.row (lm l)->l.length<=1000)(hl':∀l,y'=.row (lm l)->l.length<=1000)(sa:Gl a<=90000000)(sb:Gl b<=90000000)(hq:Qs 128 (Hm a b)):U3 24 [.agg [x,y,x',y']] [.agg (rl (BQ (Hm a b)))]:=by
 have c1:=vD h h' hl hl' sa sb;obtain⟨q,hqe⟩:=nmE (Hm a b);rw[<-hqe]at c1 hq ⊢;have c2:=rS (q:=q) (hq.mono Fl);obtain⟨z,c3⟩:=Qec (a:=q.num) (b:=q.den) (Qc hq.1 Fl) (Qc hq.2 Fl) q.den_pos;have h2:=Yd q.num (b:=(q.den:Int)) (by have:=q.den_pos;omega);have h1:=Yx q.num (b:=(q.den:Int)) (by have:=q.den_pos;omega);have c4:=KF (a:=q.num % (q.den:Int)) (b:=(q.den:Int)) (Qc (Tx Fj) (Qc hq.2 Fl)) (Qc hq.2 Fl);have c5:=rS (q:=BQ q) ((Qcu hq).mono Fl);have l1:=JD.2 hq.1;have l2:(He q.den).length<=4:=by simpa using JD.2 hq.2
 obtain⟨b1,r1,rfl,rfl,_⟩:=h;obtain⟨b2,r2,rfl,rfl,_⟩:=h';exact Uy func24 rfl [.k c1,.k c2,.f (by simp[gV];omega),.f (by simp[gV];omega),.k c3,.k c4,.k c5] rfl
theorem Qq2{x y x' y':LV}{a b:Int}(h:Hh x y a)(h':Hh x' y' b)(hl:∀l,y=.row (lm l)->l.length<=1000)(hl':∀l,y'=.row (lm l)->l.length<=1000)(sa:Gl a<=32000)(sb:Gl b<=32000)(hq:¬Qs 128 (Hm a b)):U3 24 [.agg [x,y,x',y']] [.agg [x,y,x',y']]:=by
 have c1:=vD h h' hl hl' (Qc sa Fl) (Qc sb Fl);have hs:Qs 32000 (Hm a b):=by
  unfold Hm
  split
  ·exact⟨Ml sa,Mk Fl Fl⟩
  ·exact⟨Ml sa,Mk sb Fl⟩
 obtain⟨q,hqe⟩:=nmE (Hm a b);rw[<-hqe]at c1 hq hs;have c2:=rS (q:=q) (hs.mono Fl);obtain⟨b1,r1,rfl,rfl,_⟩:=h;obtain⟨b2,r2,rfl,rfl,_⟩:=h';by_cases h1:Gl q.num<=128
 ·have h2:¬Gl (q.den:Int)<=128:=λh=>hq ⟨h1,h⟩
  have l1:=JD.2 h1;have l2:¬(He q.den).length<=4:=by simpa using mt JD.1 h2
  exact Uy func24 rfl [.k c1,.k c2,.f (by simp[gV];omega),.t (by simp[gV];omega)] rfl
 ·have l1:=mt JD.1 h1;exact Uy func24 rfl [.k c1,.k c2,.t (by simp[gV];omega),.t rfl] rfl
end Orr
