/- G3 G4 K3 K4 S1 S2 S3 R5 R6 RefGL R7 RatOkL R8 R9 RefCL R10 RawL NewsL KGoL SortQ BegL R11 -/
import Derived.Test.YtkkhemmhhedniaaGreatPart07
import Derived.Test.YtkkhemmhhedniaaGreatPart00
import Derived.Test.YtkkhemmhhedniaaGreatPart05
set_option linter.all false
namespace Orr
open Go Go.Proofs Orq
set_option maxRecDepth 10000
def Ut (l:List Pt):List (List LV):=l.map P9
theorem M6 {l:List Pt} {i:Nat} {c:Pt} (h:l[i]? = some c):(Ut l)[i]? = some (P9 c):=Gx h
theorem Pj (l:List Pt):(Ut l).length=l.length:=by simp [Ut]
theorem Zc0 (l:List Pt):∀ c∈Ut l,c.length=5:=λc hc=>by
 obtain ⟨x,_,rfl⟩:=Zr.1 hc; rfl
abbrev zPt:List LV:=[.nils,.nils,.bool false,.nils,.int .i64 0]
theorem Qxt {lt:Pt->Pt->Bool} {O:List Pt} {z:List LV} {c:Pt} {k m:Nat} {l2:List (List LV)} (hk:k<=O.length) (hp:Tn lt O c O.length=k) (hm:m=O.length-k) (h2:l2.take m=((Ut O++[z]).drop k).take m) :
 ((Ut O++[z]).take (k+1)++(l2.take m++(Ut O++[z]).drop (k+1+m))).set k (P9 c)=Ut (Ng lt O c):=by
 rw [h2,<-Zz,Qqp (Ut O) z (P9 c) (by rw [Pj]; omega) (by rw [Pj]; omega)];simp [Ng,hp,Ut,Yd,Wh]
def Em (t:Tm) (l:List Pt):List Pt:=Gv (P6 (P4 t)) l
theorem Zd7 {l:List Pt} {t:Tm} (hl:∀ p∈l,Sc p.c) (hn:l.length≤1000000) (ht:Va t):Ub Tryz.prog 181 [.agg (ta t),.one (pts l)] [.one (pts (Em t l))]:=by
 have hcl:=Pj l;show Ub Tryz.prog 181 [.agg (ta t),.one (.row (Ut l))] [.one (.row (Ut (Em t l)))];obtain ⟨lt,hlt0⟩:=nmE (P6 (P4 t));unfold Em;rw [<-hlt0];refine Gl Tryz.func181 rfl ?_;refine go tt [.o 5 135 5] rfl trivial ?_;refine lp (S:=Nat) 2 (λL1 i=>(11,.v (.one (.int .i64 (i:Int))))::(5,.v (.one (.orow 1 5 none)))::L1) (λi=>[.blk 74 (ta t),.row false 135 5 (Ut (Gv lt (l.take i)))]) (λi=>l.length-i) (λi=>i<=l.length) 0 (Qi _) rfl (λ_ _=>rfl) rfl λi hi=>?_
 by_cases hlt:i<l.length
 ·obtain ⟨c,hc⟩:=gxE (l:=l) (i:=i) hlt;have hst:Gv lt (l.take (i+1))=Ng lt (Gv lt (l.take i)) c:=Ar hc;have hcp:=hl c (Qc hc);obtain ⟨O,hO⟩:=nmE (Gv lt (l.take i));have hOl:O.length=i:=by rw [hO,Tv,Qy]; omega
  have hOm:∀ x∈O,Sc x.c:=λx hx=>by rw [hO,C3] at hx; exact hl x (Qn hx)
  rw [<-hO] at hst ⊢;refine go tt [.t (by simp [hcl]; omega),.x (M6 hc)] rfl trivial ?_;refine lp (S:=Nat) 3 (λL1 k=>(8,.v (.one (.int .i64 (k:Int))))::L1) (λk=>[.blk 74 (ta t),.row false 135 5 (Ut O),.blk 135 (P9 c)]) id (λk=>k<=O.length/\Tn lt O c k=Tn lt O c O.length) (Ut O).length ⟨by rw [Pj]; exact Qk _,by rw [Pj]⟩ rfl (λ_ _=>rfl) rfl λk ⟨hk,hp⟩=>?_
  have hz:∀ y∈[zPt],y.length=5:=λy hy=>by rw [Qp.1 hy]; rfl
  have h77:∀ y∈Ut O++[zPt],y.length=5:=λy hy=>by
   rcases Qz.1 hy with hy | hy
   ·exact Zc0 O y hy
   ·exact hz y hy
  cases k with
  |
   zero =>
   have hp:Tn lt O c O.length=0:=by rw [<-hp]; rfl
   refine go tt [.g 19 false (by simp),.f rfl,.s (sz:=5) hz,.r 37 (eI (b:=((0+1:Nat):Int)) (by simp)),.i (0+1),.i (0),.s (sz:=5) (λy hy=>h77 y (Qn hy)),.i (O.length),.i (0)] rfl (by simp [Ua,Pj]; omega) ?_;exact rd (i+1) (by omega) hlt (by rw [hst,<-Qxt (z:=zPt) (l2:=(Ut O++[zPt]).take ((Ut O++[zPt]).length-0)) (k:=0) (m:=O.length) (by omega) hp (by omega) (by congr 1; exact Qo (by simp))]; rfl)
  |
   succ k =>
   obtain ⟨x,hx⟩:=gxE (l:=O) (i:=k) (by omega);have cb:=Q2c hcp (hOm x (Qc hx)) ht;rw [<-hlt0] at cb;by_cases hlc:lt c x=true
   ·refine go tt [.g 19 true (by simp),.r 23 (eI (b:=(k:Int)) (by simp)),.i k,.x (M6 hx),.c [] cb,.t hlc,.r 30 (eI (b:=(k:Int)) (by simp))] rfl (by simp [Ua,Pj]; omega) ?_;exact rd k (by simp) ⟨by omega,by rw [<-hp,Qcp hx hlc]⟩ rfl
   ·have hlc:lt c x=false:=by simpa using hlc
    have hp:Tn lt O c O.length=k+1:=by rw [<-hp,I6 hx hlc]
    refine go tt [.g 19 true (by simp),.r 23 (eI (b:=(k:Int)) (by simp)),.i k,.x (M6 hx),.c [] cb,.f hlc,.s (sz:=5) hz,.r 37 (eI (b:=((k+1+1:Nat):Int)) (by simp)),.i (k+1+1),.i (k+1),.s (sz:=5) (λy hy=>h77 y (Zg (Qn hy))),.i (O.length-(k+1)),.i (k+1)] rfl (by simp [Ua,Pj]; omega) ?_;exact rd (i+1) (by omega) hlt (by rw [hst,<-Qxt (z:=zPt) (l2:=((Ut O++[zPt]).drop (k+1)).take ((Ut O++[zPt]).length-(k+1))) (k:=k+1) (m:=O.length-(k+1)) (by omega) hp (by omega) (by congr 1; exact Qo (by simp))]; rfl)
 ·obtain rfl:i=l.length:=by omega
  rw [Q4];exact en tt [.f (by simp [hcl])] rfl rfl trivial
def Ra (sg:List Int->Int):List Pt->List Ct
 | a::b::l=>Mv sg a b::Ra sg (b::l)
 | _=>[]
theorem Cy (sg:List Int->Int):∀ l:List Pt,(Ra sg l).length=l.length-1
 | []=>rfl
 | [_]=>rfl
 | a::b::l=>by simp only [Ra,Q8,Cy sg (b::l)]; omega
theorem Qep (sg:List Int->Int):∀ {l:List Pt} {i:Nat} {a b:Pt},l[i]? = some a->l[i+1]? = some b->(Ra sg l).take (i+1)=(Ra sg l).take i++[Mv sg a b]
 | [],i,a,b,h,_=>by simp at h
 | [x],i,a,b,_,h=>by cases i <;> simp at h
 | x::y::l,0,a,b,h1,h2=>by simp at h1 h2; subst h1; subst h2; simp [Ra]
 |
  x::y::l,i+1,a,b,h1,h2=>by
  have ih:=Qep sg (l:=y::l) (i:=i) (a:=a) (b:=b) (by simpa using h1) (by simpa using h2);simp only [Ra,J0] at ih ⊢;rw [ih]; rfl
theorem Qg6 {l:List Pt} {t:Tm} (hl:∀ p∈l,Sc p.c) (hn:l.length≤1000000) (ht:Va t):Ub Tryz.prog 182 [.agg (ta t),.one (pts l)] [.one (.row (Gs (Ra (P4 t) l)))]:=by
 have hcl:=Pj l;show Ub Tryz.prog 182 [.agg (ta t),.one (.row (Ut l))] [.one (.row (Gs (Ra (P4 t) l)))];refine Gl Tryz.func182 rfl ?_;refine go tt [.o 5 90 7] rfl trivial ?_;refine lp (S:=Nat) 2 (λL1 i=>(6,.v (.one (.int .i64 ((i+1:Nat):Int))))::(5,.v (.one (.orow 1 7 none)))::L1) (λi=>[.blk 74 (ta t),.row false 90 7 (Gs ((Ra (P4 t) l).take i))]) (λi=>l.length-i) (λi=>i<=l.length-1) 0 (Qi _) rfl (λ_ _=>rfl) rfl λi hi=>?_
 by_cases hlt:i+1<l.length
 ·obtain ⟨a,ha⟩:=gxE (l:=l) (i:=i) (by omega);obtain ⟨b,hb⟩:=gxE (l:=l) (i:=i+1) hlt;have hg:=Qep (P4 t) ha hb;have hm:∀ y∈[Qjw (Mv (P4 t) a b)],y.length=7:=λy hy=>by rw [Qp.1 hy]; rfl
  refine go tt [.t (by simp [hcl]; omega),.r 19 (eI (b:=(i:Int)) (by simp)),.x (M6 ha),.x (M6 hb),.c [] (Q92 (hl a (Qc ha)) (hl b (Qc hb)) ht),.s (sz:=7) hm,.r 14 (eI (b:=((i+1+1:Nat):Int)) (by simp))] rfl (by simp [Ua,Pj,Da,Cy]; omega) ?_;exact rd (i+1) (by omega) (by omega) (by rw [hg]; simp [Gs]; rfl)
 ·have e:(Ra (P4 t) l).take i=Ra (P4 t) l:=Qo (by rw [Cy]; omega);rw [e];exact en tt [.f (by simp [hcl]; omega)] rfl rfl trivial
theorem Q99:Ub Tryz.prog 275 [pr []] [.one .nilp,.one (.int .i64 2)]:=by
 have h:Se []=some []:=rfl;exact w tt Tryz.func275 rfl [.c [] (Qg7 Qei h),.t rfl] rfl rfl trivial
theorem Q20:Ub Tryz.prog 261 [pr []] [.one (.row []),.one (.int .i64 2)] :=
 w tt Tryz.func261 rfl [.c [] Q99,.t rfl] rfl rfl trivial
theorem Zg4 {a o:List Int} (ha:Pb a) (h:Quw a=some o):Pb o:=by
 unfold Quw at h
 split at h
 ·injection h with h; subst h; exact Qei
 ·obtain ⟨l,hl,h⟩:=Qe.1 h;obtain ⟨fs,hf,h⟩:=Qe.1 h;exact O4 Q6n (Qna (Qgg (Hk ha) hl).2 hf) h
theorem Q2i {p:List Int} {l:List Tm} (hp:Pb p) (h:Lq p=some l) (hl:l.length<=1000000):Ub Tryz.prog 210 [pr p] [.one (tas l)]:=by
 unfold Lq at h;obtain ⟨q,hq,h⟩:=Qe.1 h;have qp:=Zg4 hp hq;have co:=Zis hp hq
 split at h
 ·rename_i h0;injection h with h; subst h;obtain rfl:=Qh h0;exact w tt Tryz.func210 rfl [.c [] co,.c [] Q20,.t rfl] rfl rfl trivial
 ·exact w tt Tryz.func210 rfl [.c [] co,.c [] (Q98 qp h hl),.f rfl] rfl rfl trivial
def ota:Option Tm->List LV
 | none=>zTr
 | some t=>ta t
theorem Q9y {p:List Int} {a:Tm} {l:List Tm} {r:Option Tm} (hp:Pb p) (ha:Tb a) (h:Lq p=some l) (hl:l.length≤1000000) (ht:∀ t∈l,Tb t) (hr:Qaq a l=some r):Ub Tryz.prog 154 [pr p,.agg (ta a)] [.agg (ota r),.one (.bool r.isSome)]:=by
 have hll:(l.map λt=>ta t).length=l.length:=by simp
 refine Gl Tryz.func154 rfl ?_;refine go tt [.c [] (Q2i hp h hl)] rfl trivial ?_;refine lp (S:=Nat) 2 (λL1 i=>(11,.v (.one (.int .i64 (i:Int))))::L1) (λ_=>[.blk 74 (ta a),.blk 74 zTm]) (λi=>l.length-i) (λi=>i<=l.length/\Qaq a (l.drop i)=some r) 0 ⟨Qi _,hr⟩ rfl (λ_ _=>rfl) rfl λi ⟨hi,hf⟩=>?_
 by_cases hlt:i<l.length
 ·obtain ⟨t,hx⟩:=gxE (l:=l) (i:=i) hlt;have hdr:l.drop i=t::l.drop (i+1):=by
   rw [Zm hlt]; congr 1;have:=Qd hlt; rw [hx] at this; injection this with this; exact this.symm
  rw [hdr] at hf;simp only [Qaq] at hf;obtain ⟨c,c1,hf⟩:=Qe.1 hf;have cc:=Qg4 (ht t (Qc hx)) ha c1;by_cases hc:0<c
  ·rw [if_pos hc] at hf;injection hf with hf; subst hf;exact en tt [.t (by simp; omega),.x (Qgw hx),.c [] cc,.t (by simpa using hc)] rfl rfl trivial
  ·rw [if_neg hc] at hf;refine go tt [.t (by simp; omega),.x (Qgw hx),.c [] cc,.f (by simpa using hc)] rfl (by simp [Ua]; omega) ?_;exact rd (i+1) (by omega) ⟨hlt,hf⟩ rfl
 ·obtain rfl:i=l.length:=by omega
  rw [Vn] at hf;simp only [Qaq] at hf;injection hf with hf; subst hf;exact en tt [.f (by simp)] rfl rfl trivial
def Nl (now:Tm):List Wt->Option (List Wt)
 | []=>some []
 | w::l=>(if w.known=true then some w else (Qfi w.c.p now).bind λr=>some ⟨w.c,true,r⟩).bind λw'=>(Nl now l).bind λr=>some (w'::r)
theorem O1 {now:Tm}:∀ {l ws:List Wt},Nl now l=some ws->ws.length=l.length/\∀ (i:Nat) (w:Wt),l[i]? = some w->∃ v,ws[i]? = some v/\(w.known=true/\v=w\/w.known=false/\∃ r,Qfi w.c.p now=some r/\v=⟨w.c,true,r⟩)
 | [],ws,h=>by injection h with h; subst h; exact ⟨rfl,λi x hx=>by simp at hx⟩
 |
  y::l,ws,h=>by
  simp only [Nl] at h;obtain ⟨v,hv,h⟩:=Qe.1 h;obtain ⟨r,hr,h⟩:=Qe.1 h;injection h with h; subst h;obtain ⟨a,b⟩:=O1 hr;refine ⟨by simp [a],λi x hx=>?_⟩;cases i with
  |
   zero =>
   injection hx with hx; subst hx;refine ⟨v,rfl,?_⟩
   split at hv
   ·rename_i hk; injection hv with hv; exact .inl ⟨hk,hv.symm⟩
   ·rename_i hk;obtain ⟨q,hq,hv⟩:=Qe.1 hv;injection hv with hv;exact .inr ⟨by simpa using hk,q,hq,hv.symm⟩
  | succ i=>exact b i x (by simpa using hx)
theorem Q2h {p:List Int} {a:Tm} {r:Option Tm} (hp:Cp p) (ha:Va a) (h:Qfi p a=some r):Ub Tryz.prog 154 [pr p,.agg (ta a)] [.agg (ota r),.one (.bool r.isSome)]:=by
 obtain ⟨l,l1,l2,l3,_⟩:=Oi hp;unfold Qfi at h;rw [l1] at h;exact Q9y (Dp.pb hp.dp) ha.tb l1 (by omega) (λt ht=>(l3 t ht).tb) h
theorem Q91 {T:Nat} {c:Cr} {r0 r1:List (List LV)} {ws:List Wt} (hc:CrOk c) (h:Nl c.now c.l=some ws):Hq Tryz.prog 88 [.one (.ow 0 0)] [.blk T (Bt c r0 r1)] [] [.blk T (Bt { c with l:=ws } r0 r1)]:=by
 have hk:=hc.k;have hw:=Nb c.l;obtain ⟨h1,h2⟩:=O1 h;refine Gl Tryz.func88 rfl ?_;refine go tt [.o 2 167 18,.c [0] (Qs9 hc.n)] rfl trivial ?_;refine lp (S:=Nat) 3 (λL1 i=>(13,.v (.one (.int .i64 (i:Int))))::(2,.v (.one (.orow 1 18 none)))::L1) (λi=>[.blk T (Bt c r0 r1),.row false 167 18 (Qam (ws.take i)),.blk 74 (ta c.now)]) (λi=>c.l.length-i) (λi=>i<=c.l.length) 0 (Qi _) rfl (λ_ _=>rfl) rfl λi hi=>?_
 by_cases hlt:i<c.l.length
 ·obtain ⟨w,hx⟩:=gxE (l:=c.l) (i:=i) hlt;obtain ⟨v,hv,h3⟩:=h2 i w hx;have hm:∀ y∈[wl v],y.length=18:=λy hy=>by rw [Qp.1 hy]; rfl
  have hg:=Qe0 hv;have hl:decide ((i:Int)<((Qam c.l).length:Int))=true:=by simp [hw]; omega
  rcases h3 with ⟨k1,rfl⟩ | ⟨k1,r,k2,rfl⟩
  ·obtain ⟨vc,vk,vf⟩:=v;cases vf <;> (refine go tt [.t hl,.x (Rt hx),.f (by rw [show vk=true from k1]; rfl),.s (sz:=18) hm] rfl (by simp [Ua,Nb]; omega) ?_; exact rd (i+1) (by omega) hlt (by rw [hg]; rfl))
  ·have cg:=Q2h (hc.l w (Qc hx)).p hc.n k2;obtain ⟨wc,wk,wf⟩:=w;cases r <;> cases wf <;> (refine go tt [.t hl,.x (Rt hx),.t (by rw [show wk=false from k1]; rfl),.c [] cg,.s (sz:=18) hm] rfl (by simp [Ua,Nb]; omega) ?_; exact rd (i+1) (by omega) hlt (by rw [hg]; rfl))
 ·obtain rfl:i=c.l.length:=by omega
  rw [<-h1,Q4];exact ed tt [1] [0] [.f (by simp [hw,h1])] rfl trivial
def Qio (ws:List Wt):Option (Option Tm):=match ws.filterMap (·.fails) with
 | []=>some none
 | b::l=>(Ah b l).map some
theorem O2 {c:Cr} {ws:List Wt} (hc:CrOk c) (h:Nl c.now c.l=some ws):CrOk { c with l:=ws }:=by
 obtain ⟨h1,h2⟩:=O1 h;refine ⟨hc.n,λv hv=>?_,by show ws.length<=1000; rw [h1]; exact hc.k⟩;obtain ⟨i,hi⟩:=Jm hv;have hil:i<c.l.length:=by rw [<-h1]; exact (Qf.1 hi).1
 obtain ⟨v',h3,h4⟩:=h2 i _ (Qd hil);rw [hi] at h3; injection h3 with h3; subst h3;have hw:=hc.l _ (Xu hil);rcases h4 with ⟨_,rfl⟩ | ⟨_,r,k2,rfl⟩
 ·exact hw
 ·obtain ⟨r',r1,r2⟩:=Q6c hw.p hc.n;rw [k2] at r1; injection r1 with r1; subst r1;refine ⟨hw.p,λt ht=>?_⟩;have ht:r=some t:=ht;subst ht;exact r2.2.1
theorem Qmk {T:Nat} {c:Cr} {r0 r1:List (List LV)} {ws:List Wt} {r:Option Tm} (hc:CrOk c) (h:Nl c.now c.l=some ws) (hr:Qio ws=some r):Hq Tryz.prog 24 [.one (.ow 0 0)] [.blk T (Bt c r0 r1)] [.agg (ota r),.one (.bool r.isSome)] [.blk T (Bt { c with l:=ws } r0 r1)]:=by
 have hcl:=Q91 (T:=T) (r0:=r0) (r1:=r1) hc h;have hc':=O2 hc h;have hk:=hc'.k;have hw:=Nb ws;have hvb:∀ t∈ws.filterMap (·.fails),Tb t:=λt ht=>by
  obtain ⟨w,w1,w2⟩:=Ji.1 ht;exact ((hc'.l w w1).f t w2).tb
 refine Gl Tryz.func24 rfl ?_;refine go tt [.c [0] hcl,.o 4 74 9] rfl trivial ?_;refine lp (S:=Nat) 3 (λL1 i=>(14,.v (.one (.int .i64 (i:Int))))::(4,.v (.one (.orow 2 9 none)))::L1) (λi=>[.blk T (Bt { c with l:=ws } r0 r1),.blk 74 zTm,.row false 74 9 (tal ((ws.take i).filterMap (·.fails)))]) (λi=>ws.length-i) (λi=>i<=ws.length) 0 (Qi _) rfl (λ_ _=>rfl) rfl λi hi=>?_
 by_cases hlt:i<ws.length
 ·obtain ⟨w,hx⟩:=gxE (l:=ws) (i:=i) hlt;have hl:decide ((i:Int)<((Qam ws).length:Int))=true:=by simp [hw]; omega
  have hfl:((ws.take i).filterMap (·.fails)).length<=i:=Qa (V5 _ _) (by rw [Qy]; omega);have hg:(ws.take (i+1)).filterMap (·.fails)=(ws.take i).filterMap (·.fails)++(match w.fails with | none=>[] | some t=>[t]):=by
   rw [Xa,hx,List.filterMap_append];show _++List.filterMap (·.fails) [w]=_;cases hwf:w.fails <;> simp [hwf]
  obtain ⟨wc,wk,wf⟩:=w;have hk:ws.length<=1000:=hk;cases wf with
  |
   none =>
   refine go tt [.t hl,.x (Rt hx),.f rfl] rfl (by simp [Ua]; omega) ?_;exact rd (i+1) (by omega) hlt (by rw [hg]; simp; rfl)
  |
   some t =>
   refine go tt [.t hl,.x (Rt hx),.t rfl,.s (l:=[ta t]) (sz:=9) (λc hc=>by rw [Qp.1 hc]; rfl)] rfl (by simp [Ua]; omega) ?_;exact rd (i+1) (by omega) hlt (by rw [hg]; simp [tal]; rfl)
 ·obtain rfl:i=ws.length:=by omega
  rw [Q4];have hf:decide ((ws.length:Int)<((Qam ws).length:Int))=false:=by simp [hw]
  have hln:(ws.filterMap (·.fails)).length<=1000:=Qa (V5 _ _) hk;unfold Qio at hr;cases hfm:ws.filterMap (·.fails) with
  |
   nil =>
   rw [hfm] at hr;injection hr with hr; subst hr;exact ed tt [] [0] [.f hf,.p 2,.c [] Q2m] rfl trivial
  |
   cons b l =>
   rw [hfm] at hr hvb hln;obtain ⟨m,m1,rfl⟩:=Yn.1 hr;have cl:=Lu (hvb b (Qt ..)) (λt ht=>hvb t (Qj _ ht)) (by simp at hln; omega) m1;exact ed tt [] [0] [.f hf,.p 2,.c [] cl] rfl trivial
theorem Qih {at_:Tm} {x:Ct}:∀ {l:List Wt} {w:Wt},Dh l x at_=some w->w=fresh x\/∃ v∈l,v.known=true/\v.c.p=x.p/\w=⟨x,true,v.fails⟩/\∀ t,v.fails=some t->∃ c,Qfv t at_=some c/\0<c
 | [],w,h=>by simp only [Dh] at h; injection h with h; exact .inl h.symm
 |
  v::l,w,h=>by
  simp only [Dh] at h;have tl:Dh l x at_=some w->w=fresh x\/∃ v'∈v::l,v'.known=true/\v'.c.p=x.p/\w=⟨x,true,v'.fails⟩/\∀ t,v'.fails=some t->∃ c,Qfv t at_=some c/\0<c:=λh=>by
   rcases Qih h with h | ⟨v',h1,h2⟩
   ·exact .inl h
   ·exact .inr ⟨v',Qj _ h1,h2⟩
  split at h
  ·rename_i hk;cases hf:v.fails with
   |
    none =>
    rw [hf] at h;injection h with h;exact .inr ⟨v,Qt ..,hk.2.1,hk.2.2,by rw [hf]; exact h.symm,λt ht=>by rw [hf] at ht; cases ht⟩
   |
    some t =>
    rw [hf] at h;obtain ⟨c,c1,h⟩:=Qe.1 h
    split at h
    ·rename_i h0;injection h with h;exact .inr ⟨v,Qt ..,hk.2.1,hk.2.2,by rw [hf]; exact h.symm,λu hu=>by rw [hf] at hu; injection hu with hu; subst hu; exact ⟨c,c1,h0⟩⟩
    ·exact tl h
  ·exact tl h
theorem lay_ok {c:Cr} {at_:Tm} {l:List Ct} {ws:List Wt} (ev:Int) (hc:CrOk c) (ha:Va at_) (hl:∀ x∈l,Cp x.p) (hn:l.length≤1000) (h:Qcb c.l at_ (Gk l)=some ws):CrOk ⟨at_,ws,ev⟩:=by
 obtain ⟨h1,h2⟩:=Qcc h;refine ⟨ha,λw hw=>?_,by show ws.length<=1000; rw [h1,Nz]; exact hn⟩;obtain ⟨i,hi⟩:=Jm hw;have hil:i<(Gk l).length:=by rw [<-h1]; exact (Qf.1 hi).1
 obtain ⟨v,h3,h4⟩:=h2 i _ (Qd hil);rw [hi] at h4; injection h4 with h4; subst h4;have hx:=hl _ (Qad (Xu hil));rcases Qih h3 with e | ⟨v,v1,_,v3,e,_⟩
 ·rw [e]; exact ⟨hx,λt ht=>by cases ht⟩
 ·rw [e]; exact ⟨hx,λt ht=>(hc.l v v1).f t ht⟩
def goF {β:Type} (Bc:Tm->List Ct) (Br:Tm->β) (t:Rat):Nat->Cr->β->Int->Option (Cr×β×Int)
 | 0,_,_,_=>none
 |
  k+1,c,r,n=>(Nl c.now c.l).bind λws=>(Qio ws).bind λo=>match o with
  | none=>some (⟨tq t,ws,c.ev⟩,r,n)
  | some a=>if 0<Up a t then some (⟨tq t,ws,c.ev⟩,r,n) else (Qcb ws a (Gk (Bc a))).bind λw2=>goF Bc Br t k ⟨a,w2,c.ev+1⟩ (Br a) (n+1)
theorem Q6f {ws:List Wt} {a:Tm} (h:Qio ws=some (some a)) (hv:∀ t∈ws.filterMap (·.fails),Va t):a∈ws.filterMap (·.fails)/\∀ t∈ws.filterMap (·.fails),¬Pd t a:=by
 unfold Qio at h;cases hf:ws.filterMap (·.fails) with
 | nil=>rw [hf] at h; injection h with h; cases h
 |
  cons b l =>
  rw [hf] at h hv;obtain ⟨m,m1,m2⟩:=Yn.1 h;injection m2 with m2; subst m2;obtain ⟨m',n1,n2,n3⟩:=Qec l b hv;rw [m1] at n1; injection n1 with n1; subst n1;exact ⟨n2,n3⟩
theorem Zg3 {c:Cr} {ws:List Wt} {a:Tm} (hc:CrOk c) (h:Nl c.now c.l=some ws) (hr:Qio ws=some (some a)):Va a:=by
 have hc':=O2 hc h;have hv:∀ t∈ws.filterMap (·.fails),Va t:=λt ht=>by
  obtain ⟨w,w1,w2⟩:=Ji.1 ht;exact (hc'.l w w1).f t w2
 exact hv a (Q6f hr hv).1
structure BuildOk (Bc:Tm->List Ct):Prop where
 p:∀ a,Va a->∀ x∈Bc a,Cp x.p
 n:∀ a,Va a->(Bc a).length<=1000
theorem Zip {T:Nat} {t:Rat} {Bc:Tm->List Ct} {Br:Tm->List (List LV)} {r0:List (List LV)} (ht:Qs 400000 t) (hB:BuildOk Bc)
 (hb:∀ a c r1,Va a->CrOk c->Hq Tryz.prog 109 [.one (.ow 0 0),.agg (ta a)] [.blk T (Bt c r0 r1)] [.one (.row (Gs (Bc a)))] [.blk T (Bt c r0 (Br a))])
 {K:Nat} {c c':Cr} {r1 r1':List (List LV)} {n:Int} (hc:CrOk c) (hev:0<=c.ev/\c.ev+K<=1000000000000000000) (h:Up c.now t<=0) (hg:goF Bc Br t K c r1 0=some (c',r1',n)) :
 Hq Tryz.prog 97 [.one (.ow 0 0),.agg (rl t),.one (.ofn 109 [.ow 0 0] [])] [.blk T (Bt c r0 r1)] [.one (.int .i64 n),.one (.int .i64 0)] [.blk T (Bt c' r0 r1')]:=by
 have qt:Qb t:=ht.mono (by decide);have c1:=Qg5 hc.n.tb qt;refine Gl Tryz.func97 rfl ?_;refine go tt [.c [0] (Qs9 hc.n),.c [] c1,.f (by simpa using h)] rfl trivial ?_;refine lp (S:=Nat×Cr×List (List LV)×Int) 2 (λL1 s=>(8,.v (.one (.int .i64 s.2.2.2)))::L1) (λs=>[.blk T (Bt s.2.1 r0 s.2.2.1),.blk 72 (rl t)]) (λs=>s.1) (λs=>CrOk s.2.1/\(0<=s.2.1.ev/\s.2.1.ev+s.1<=1000000000000000000)/\(0<=s.2.2.2/\s.2.2.2+s.1<=1000000000000000000)/\goF Bc Br t s.1 s.2.1 s.2.2.1 s.2.2.2=some (c',r1',n)) (K,c,r1,0) ⟨hc,hev,⟨Int.le_refl 0,by dsimp only; omega⟩,hg⟩ rfl (λ_ _=>rfl) rfl λ⟨k,x,r,m⟩ ⟨j1,j2,j3,j4⟩=>?_
 dsimp only at j1 j2 j3 j4 ⊢;cases k with
 | zero=>cases j4
 |
  succ k =>
  simp only [goF] at j4;obtain ⟨ws,w1,j4⟩:=Qe.1 j4;obtain ⟨o,o1,j4⟩:=Qe.1 j4;have cn:=Qmk (T:=T) (r0:=r0) (r1:=r) j1 w1 o1;have ca:=Zea (Uc t.num) (Uc (t.den:Int)) (Qa ht.1 (by decide)) (Qa ht.2 (by decide)) (by rw [An]; exact ht.mono (by decide));rw [An] at ca;cases o with
  |
   none =>
   injection j4 with j4; injection j4 with e1 j4; injection j4 with e2 e3;subst e1; subst e2; subst e3;exact ed tt [] [0] [.c [0] cn,.g 25 true rfl,.t rfl,.c [] ca] rfl trivial
  |
   some a =>
   have ha:=Zg3 j1 w1 o1;dsimp only at j4;have cc:=Qg5 ha.tb qt;by_cases h0:0<Up a t
   ·rw [if_pos h0] at j4;injection j4 with j4; injection j4 with e1 j4; injection j4 with e2 e3;subst e1; subst e2; subst e3;exact ed tt [] [0] [.c [0] cn,.g 25 false rfl,.c [] cc,.t (by simpa using h0),.c [] ca] rfl trivial
   ·rw [if_neg h0] at j4;obtain ⟨w2,l1,j4⟩:=Qe.1 j4;have j1':=O2 j1 w1;have cl:=Lu (b:=a) (l:=[]) ha.tb (λt ht=>by cases ht) (by decide) rfl;have cb:=hb a { x with l:=ws } r ha j1';have cy:=Q90 (T:=T) (r0:=r0) (r1:=Br a) j1' ha (hB.p a ha) (hB.n a ha) l1;have hf:decide (0<Up a t)=false:=by simpa using h0
    refine go tt [.c [0] cn,.g 25 false rfl,.c [] cc,.f hf,.c [] cl,.c [0] cb,.c [0] cy] rfl (by simp [Ua]; omega) ?_;exact rd (k,⟨a,w2,x.ev+1⟩,Br a,m+1) (by dsimp only; omega) ⟨lay_ok _ j1' ha (hB.p a ha) (hB.n a ha) l1,by dsimp only; omega,by dsimp only; omega,j4⟩ rfl
theorem Qj5 {T:Nat} {c:Cr} {r0 r1:List (List LV)}:Hq Tryz.prog 34 [.one (.ow 0 0)] [.blk T (Bt c r0 r1)] [.one (.int .i64 c.ev)] [.blk T (Bt c r0 r1)]:=by
 refine Gl Tryz.func34 rfl ?_;exact ed tt [] [0] [] rfl trivial
theorem Q4a {a b:Pt} (ha:Sc a.c) (hb:Sc b.c):Cp (Pi a b):=Qkh (Il ha hb) (Ik ha hb)
def bcS (l:List Pt) (a:Tm):List Ct:=Ra (P4 a) (Em a l)
abbrev brS (l:List Pt) (a:Tm):List (List LV):=Ut (Em a l)
theorem Qr4 {sg:List Int->Int}:∀ {l:List Pt},(∀ p∈l,Sc p.c)->∀ x∈Ra sg l,Cp x.p
 | [],_,x,hx=>by cases hx
 | [_],_,x,hx=>by cases hx
 |
  a::b::l,h,x,hx=>by
  simp only [Ra] at hx;rcases Qq.1 hx with rfl | hx
  ·exact Q4a (h a (by simp)) (h b (by simp))
  ·exact Qr4 (λp hp=>h p (Qj _ hp)) x hx
theorem Rq {t:Tm} {l:List Pt} {p:Pt}:p∈Em t l↔p∈l:=by
 unfold Em Gv; rw [Qa2]; simp
theorem By (t:Tm) (l:List Pt):(Em t l).length=l.length:=Tv _ _
theorem Qmi {l:List Pt} (hl:∀ p∈l,Sc p.c) (hn:l.length≤1000):BuildOk (bcS l) :=
 ⟨λa _ x hx=>Qr4 (λp hp=>hl p (Rq.1 hp)) x hx,λa _=>by unfold bcS; rw [Cy,By]; omega⟩
theorem Qzr {l:List Pt} {a:Tm} {c:Cr} {r1:List (List LV)} (hl:∀ p∈l,Sc p.c) (hn:l.length≤1000) (ha:Va a):Hq Tryz.prog 109 [.one (.ow 0 0),.agg (ta a)] [.blk 120 (Bt c (Ut l) r1)] [.one (.row (Gs (bcS l a)))] [.blk 120 (Bt c (Ut l) (brS l a))]:=by
 have cr:=Zd7 hl (by omega) ha;have cc:=Qg6 (l:=Em a l) (t:=a) (λp hp=>hl p (Rq.1 hp)) (by rw [By]; omega) ha;refine Gl Tryz.func109 rfl ?_;exact ed tt [] [0] [.c [] Q2o,.c [] cr,.c [] cc] rfl trivial
theorem Qzq {l:List Pt} {a:Tm} (hl:∀ p∈l,Sc p.c) (hn:l.length≤1000) (ha:Va a):Hq Tryz.prog 109 [.one (.ow 0 0),.agg (ta a)] [.blk 120 (crz (.row (Ut l)) .nils)] [.one (.row (Gs (bcS l a)))] [.blk 120 (crz (.row (Ut l)) (.row (brS l a)))]:=by
 have cr:=Zd7 hl (by omega) ha;have cc:=Qg6 (l:=Em a l) (t:=a) (λp hp=>hl p (Rq.1 hp)) (by rw [By]; omega) ha;refine Gl Tryz.func109 rfl ?_;exact ed tt [] [0] [.c [] Q2o,.c [] cr,.c [] cc] rfl trivial
def Qzk (l:List Pt) (a:Tm):Cr:=⟨a,(Gk (bcS l a)).map fresh,0⟩
theorem Qwl {zs:List (List LV)} {qs l:List Pt} {x y x' y':LV} {n d:Int} (hz:IsPts 4294967294 1073741824 zs qs) (hq:qs.length≤6) (hnl:Rz [] qs=(l,0)) (hl:∀ p∈l,Sc p.c) (hn:l.length≤1000) (h1:He x y n) (h2:He x' y' d) (bn:Ul n≤4294967295) (bd:Ul d≤4294967295) (ht:Qs 400000 (Fg n d)) :
 Hq Tryz.prog 108 [.agg [x,y,x',y'],.one (.row zs)] [] [.one (.ow 0 0),.one (.int .i64 0)] [.blk 120 (Bt (Qzk l (tq (Fg n d))) (Ut l) (brS l (tq (Fg n d))))]:=by
 have cn:=Zir hz hq;rw [hnl] at cn;have co:=Zea h1 h2 bn bd (ht.mono (by decide));have hv:=Q1o ht;have hB:=Qmi hl hn;have cb:=Qzq hl hn hv;have cg:=Qzo (T:=120) (r0:=Ut l) (r1:=brS l (tq (Fg n d))) hv (hB.p _ hv) (hB.n _ hv);obtain ⟨b,l1,rfl,rfl,_⟩:=h1;obtain ⟨b',l2,rfl,rfl,_⟩:=h2;refine Gl Tryz.func108 rfl ?_;exact ed tt [] [2] [.c [] cn,.f rfl,.c [] co,.c [2] cb,.c [2] cg] rfl trivial
theorem Qmn {c:Cr} {l s:List Pt} (hs:s.length<=1000000):Hq Tryz.prog 110 [.one (.ow 0 0)] [.blk 120 (Bt c (Ut l) (Ut s))] [.one (ids (s.map (·.id)))] [.blk 120 (Bt c (Ut l) (Ut s))]:=by
 have hcl:=Pj s;refine Gl Tryz.func110 rfl ?_;refine go tt [.o 3 3 1] rfl trivial ?_;refine lp (S:=Nat) 2 (λL1 i=>(11,.v (.one (.int .i64 (i:Int))))::(3,.v (.one (.orow 1 1 none)))::L1) (λi=>[.blk 120 (Bt c (Ut l) (Ut s)),.row false 3 1 (((s.take i).map (·.id)).map λ(z:Int)=>[LV.int .i64 z])]) (λi=>s.length-i) (λi=>i<=s.length) 0 (Qi _) rfl (λ_ _=>rfl) rfl λi hi=>?_
 by_cases hlt:i<s.length
 ·obtain ⟨p,hp⟩:=gxE (l:=s) (i:=i) hlt;have hg:(((s.take (i+1)).map (·.id)).map λ(z:Int)=>[LV.int .i64 z])=(((s.take i).map (·.id)).map λ(z:Int)=>[LV.int .i64 z])++[[.int .i64 p.id]]:=by
   rw [Xa,hp]; simp
  refine go tt [.t (by simp [hcl]; omega),.x (M6 hp),.s (sz:=1) (l:=[[.int .i64 p.id]]) (λc hc=>by rw [Qp.1 hc]; rfl)] rfl (by simp [Ua]; omega) ?_;exact rd (i+1) (by omega) hlt (by rw [hg]; rfl)
 ·obtain rfl:i=s.length:=by omega
  rw [Q4];exact ed tt [1] [0] [.f (by simp [hcl])] rfl trivial
theorem Qte {t:Rat} {l:List Pt} {K:Nat} {c c':Cr} {r1 r1':List (List LV)} {n:Int} (ht:Qs 400000 t) (hl:∀ p∈l,Sc p.c) (hn:l.length≤1000) (hc:CrOk c) (hev:0≤c.ev/\c.ev+K≤1000000000000000000) (h:Up c.now t≤0) (hg:goF (bcS l) (brS l) t K c r1 0=some (c',r1',n)) :
 Hq Tryz.prog 45 [.one (.ow 0 0),.agg (rl t)] [.blk 120 (Bt c (Ut l) r1)] [.one (.int .i64 n),.one (.int .i64 0)] [.blk 120 (Bt c' (Ut l) r1')]:=by
 have cg:=Zip (T:=120) (r0:=Ut l) ht (Qmi hl hn) (λa c r1 ha _=>Qzr (c:=c) (r1:=r1) hl hn ha) hc hev h hg;refine Gl Tryz.func45 rfl ?_;exact ed tt [] [0] [.c [] (Ex (ht.mono (by decide))),.c [0] cg] rfl trivial
theorem Q21 {c:Cr} {r0 r1:List (List LV)}:Hq Tryz.prog 43 [.one (.ow 0 0)] [.blk 120 (Bt c r0 r1)] [.one (.ow 1 0)] [.blk 120 (Bt c r0 r1),.blk 120 (Bt c r0 r1)]:=by
 refine Gl Tryz.func43 rfl ?_;exact ed tt [] [0,1] [] rfl trivial
abbrev idl (l:List Int):List (List LV):=l.map λ(z:Int)=>[.int .i64 z]
theorem Qb8 {l:List Int} {i:Nat} {z:Int} (h:l[i]? = some z):(idl l)[i]? = some [.int .i64 z]:=Gx h
theorem Qtf {a b:List Int} (ha:a.length<=1000000) (hb:b.length<=1000000):Ub Tryz.prog 77 [.one (ids a),.one (ids b)] [.one (.bool (decide (a=b)))]:=by
 show Ub Tryz.prog 77 [.one (.row (idl a)),.one (.row (idl b))] _;have la:(idl a).length=a.length:=by simp
 have lb:(idl b).length=b.length:=by simp
 refine Gl Tryz.func77 rfl ?_;by_cases hl:a.length=b.length
 ·refine go tt [.f (by simp; omega)] rfl trivial ?_;refine lp (S:=Nat) 0 (λL1 i=>(5,.v (.one (.int .i64 (i:Int))))::L1) (λ_=>[]) (λi=>a.length-i) (λi=>i<=a.length/\a.take i=b.take i) 0 ⟨Qi _,rfl⟩ rfl (λ_ _=>rfl) rfl λi ⟨hi,he⟩=>?_
  by_cases hlt:i<a.length
  ·obtain ⟨x,hx⟩:=gxE (l:=a) (i:=i) hlt;obtain ⟨y,hy⟩:=gxE (l:=b) (i:=i) (by omega);by_cases e:x=y
   ·refine go tt [.t (by simp; omega),.x (Qb8 hx),.x (Qb8 hy),.f (by simpa using e)] rfl (by simp [Ua]; omega) ?_;exact rd (i+1) (by omega) ⟨hlt,by rw [Xa,Xa,hx,hy,he,e]⟩ rfl
   ·have hne:a≠b:=λh=>by rw [h,hy] at hx; injection hx with hx; exact e hx.symm
    exact en tt [.t (by simp; omega),.x (Qb8 hx),.x (Qb8 hy),.t (by simpa using e)] rfl (by simp [hne]) trivial
  ·obtain rfl:i=a.length:=by omega
   have hab:a=b:=by rw [Q4] at he; rw [he,hl,Q4]
   exact en tt [.f (by simp)] rfl (by simp [hab]) trivial
 ·have hne:a≠b:=λh=>hl (by rw [h])
  exact en tt [.t (by simp; omega)] rfl (by simp [hne]) trivial
def A8 (v n:Int):Int:=if n<1 then 0 else v.emod n
theorem Q1m {v n:Int} (h:0<n):(if v.tmod n<0 then v.tmod n+n else v.tmod n)=v % n:=by
 have h3:=Vy v (show n≠0 by omega);have h4:=Yy v h;have h1:=Int.tmod_eq_emod (a:=v) (b:=n);have hn:((n.natAbs:Nat):Int)=n:=by omega
 split at h1
 ·rw [h1]; simp; omega
 ·rename_i hc;rw [h1,hn];have:v % n≠0:=λe=>hc (.inr (Yf e))
  rw [if_pos (by omega)]; omega
theorem Qbs {v n:Int} (hv:-9223372036854775808<=v/\v<=9223372036854775807) (hn:n<=1000000000):Ub Tryz.prog 53 [.one (.int .i64 v),.one (.int .i64 n)] [.one (.int .i64 (A8 v n))]:=by
 unfold A8;by_cases h:n<1
 ·rw [if_pos h];exact w tt Tryz.func53 rfl [.t (by simpa using h)] rfl rfl trivial
 ·rw [if_neg h];have e:=Q1m (v:=v) (n:=n) (by omega);have h3:=Vy v (show n≠0 by omega);have h4:=Yy v (show 0<n by omega);show Ub Tryz.prog 53 [.one (.int .i64 v),.one (.int .i64 n)] [.one (.int .i64 (v % n))];by_cases h0:v.tmod n<0
  ·rw [if_pos h0] at e;have b:-n<=v.tmod n:=by omega
   exact w tt Tryz.func53 rfl [.f (by simpa using h),.t (by simpa using h0)] rfl (by rw [e]) (by simp [Ua]; omega)
  ·rw [if_neg h0] at e;exact w tt Tryz.func53 rfl [.f (by simpa using h),.f (by simpa using h0)] rfl (by rw [e]) (by simp [Ua]; omega)
end Orr
namespace Orr
open Go Go.Proofs
set_option maxRecDepth 10000
def frow (p:List Rat):List (List LV):=p.map fr
theorem Rl (p:List Rat):(frow p).length=p.length:=by simp [frow]
theorem De {p:List Rat} {i:Nat} {q:Rat} (h:p[i]? = some q):(frow p)[i]? = some (fr q):=Gx h
theorem Qky (p:List Rat) (q:Rat):frow (p++[q])=frow p++[fr q]:=by simp [frow]
theorem Qdz (p:List Rat):∀ c∈frow p,c.length=4:=λc hc=>by obtain ⟨x,_,rfl⟩:=Zr.1 hc; rfl
abbrev rp (p:List Rat):LV:=.row (frow p)
theorem Quq (q:Rat):∀ c∈[fr q],c.length=4:=λc hc=>by rw [Qp.1 hc]; rfl
theorem Q3c:Ub Tryz.prog 204 [] [.agg (fr 0)]:=w tt Tryz.func204 rfl [.c [] (Qdo (n:=0) (by decide))] rfl rfl trivial
theorem Ig {p:List Rat}:Ub Tryz.prog 87 [.one (rp p)] [.one (rp (Nn p))]:=by
 refine Gl Tryz.func87 rfl (ln 0 rfl rfl λhl=>?_);rw [Rl] at hl;have hpl:=Rl p;refine go tt [] rfl trivial ?_;refine lp (S:=Nat) 0 (λL1 n=>(3,.v (.one (.int .i64 (n:Int))))::L1) (λ_=>[]) id (λn=>n<=p.length/\∀ j x,n<=j->p[j]? = some x->x=0) (frow p).length ⟨by rw [hpl]; exact Qk _,λj x h1 h2=>by
  have:=(Qf.1 h2).1; rw [hpl] at h1; omega⟩ rfl (λ_ _=>rfl) rfl λn hs=>?_
 obtain ⟨h1,h2⟩:=hs;cases n with
 |
  zero =>
  have e:=Qes h1 (λj x h=>h2 j x h) (λh=>absurd h (by decide));exact en tt [.g 8 false (by simp),.f rfl,.i 0] rfl (by rw [e]; rfl) (by simp [Ua])
 |
  succ n =>
  obtain ⟨x,hx⟩:=gxE (l:=p) (i:=n) (by omega);have hn:=Rat.num_eq_zero (q:=x);by_cases h0:x=0
  ·refine go tt [.g 8 true (by simp),.r 11 (eI (b:=(n:Int)) (by simp)),.x (De hx),.c [] (Py (z:=x.num)),.t (decide_eq_true (hn.2 h0)),.r 18 (eI (b:=(n:Int)) (by simp))] rfl (by simp [Ua]; omega) ?_;exact rd n (by simp) ⟨by omega,λj y h3 h4=>by
    rcases Y0 h3 with rfl | h3
    ·rw [hx] at h4; injection h4 with h4; rw [<-h4,h0]
    ·exact h2 j y h3 h4⟩ rfl
  ·have e:=Qes h1 (λj x h=>h2 j x h) (λ_=>⟨x,hx,h0⟩);exact en tt [.g 8 true (by simp),.r 11 (eI (b:=(n:Int)) (by simp)),.x (De hx),.c [] (Py (z:=x.num)),.f (decide_eq_false λh=>h0 (hn.1 h)),.i (n+1)] rfl (by rw [e]; simp [rp,frow,Yd]) (by simp [Ua,hpl] <;> omega)
theorem Zed {p:List Rat} {i:Nat} (hi:i<1099511627776):Ub Tryz.prog 205 [.one (rp p),.one (.int .i64 (i:Int))] [.agg (fr (p.getD i 0))]:=by
 have hpl:=Rl p;by_cases h:i<p.length
 ·have e:p.getD i 0=p[i]:=by rw [Qg,Qd h]; rfl
  rw [e];exact w tt Tryz.func205 rfl [.g 7 false (decide_eq_false (by omega)),.f (decide_eq_false (by omega)),.x (De (Qd h))] rfl rfl trivial
 ·have e:p.getD i 0=0:=by rw [Qg,Qr (by omega)]; rfl
  rw [e];exact w tt Tryz.func205 rfl [.g 7 false (decide_eq_false (by omega)),.t (decide_eq_true (by omega)),.c [] Q3c] rfl rfl trivial
theorem Q3p:Ub Tryz.prog 140 [.one (ids [1])] [.one (rp (zp [1]))]:=by
 have cc:=Ig (p:=zp [1]);rw [Nc,show trim [1]=[1] from rfl] at cc;refine Gl Tryz.func140 rfl ?_;refine go tt [.o 3 35 4] rfl trivial ?_;refine lp (S:=Nat) 1 (λL1 i=>(7,.v (.one (.int .i64 (i:Int))))::(3,.v (.one (.orow 0 4 none)))::L1) (λi=>[.row false 35 4 (frow ((zp [1]).take i))]) (λi=>1-i) (λi=>i<=1) 0 (by decide) rfl (λ_ _=>rfl) rfl λi hi=>?_
 rcases (show i=0\/i=1 by omega) with rfl | rfl
 ·refine go tt [.t rfl,.x (l:=idl [1]) (i:=0) (xs:=[.int .i64 1]) rfl,.c [] (Qdo (n:=1) (by decide)),.s (sz:=4) (Quq _)] rfl (by simp [Ua,frow]) ?_;exact rd 1 (by omega) (by omega) rfl
 ·exact en tt [.f rfl,.c [] cc] rfl rfl trivial
theorem D2 {p:List Int} (hb:Bd 90000000 p) (hl:p.length<=1000000):Ub Tryz.prog 23 [pr p] [.one (rp (zp (trim p)))]:=by
 have hpl:(p.map Ft).length=p.length:=by simp
 have cc:=Ig (p:=zp p);rw [Nc] at cc;show Ub Tryz.prog 23 [.one (.row (p.map Ft))] _;refine Gl Tryz.func23 rfl ?_;refine go tt [.o 3 35 4] rfl trivial ?_;refine lp (S:=Nat) 1 (λL1 i=>(7,.v (.one (.int .i64 (i:Int))))::(3,.v (.one (.orow 0 4 none)))::L1) (λi=>[.row false 35 4 (frow (zp (p.take i)))]) (λi=>p.length-i) (λi=>i<=p.length) 0 (Qi _) rfl (λ_ _=>rfl) rfl λi hi=>?_
 have hol:(frow (zp (p.take i))).length=i:=by rw [Rl,T0,Qy]; omega
 by_cases h:i<p.length
 ·obtain ⟨z,hz⟩:=gxE (l:=p) (i:=i) h;have hzb:=hb z (Qc hz);have hg:frow (zp (p.take (i+1)))=frow (zp (p.take i))++[fr (z:Rat)]:=by
   rw [Xa,hz]; simp [frow,zp]
  refine go tt [.t (decide_eq_true (by omega)),.x (Gx (f:=Ft) hz),.c [] (Qdn (z:=z) (by omega)),.c [] (Cc (n:=1) (by decide)),.c [] (Pn (n:=z)),.s (sz:=4) (Quq _)] rfl (by simp [Ua,hol,-List.getD_eq_getElem?_getD]; omega) ?_;exact rd (i+1) (by omega) h (by rw [hg]; rfl)
 ·have e:i=p.length:=by omega
  rw [e,Q4];exact en tt [.f (decide_eq_false (by omega)),.c [] cc] rfl rfl trivial
theorem Zec {p:List Int} (hb:Bd 90000000 p) (hl:p.length<=1000000):Ub Tryz.prog 289 [.one (rp (zp p))] [pr p]:=by
 have hpl:(frow (zp p)).length=p.length:=by rw [Rl,T0]
 show Ub Tryz.prog 289 [.one (rp (zp p))] [.one (.row (p.map Ft))];refine Gl Tryz.func289 rfl ?_;refine go tt [.o 3 51 2] rfl trivial ?_;refine lp (S:=Nat) 1 (λL1 i=>(7,.v (.one (.int .i64 (i:Int))))::(3,.v (.one (.orow 0 2 none)))::L1) (λi=>[.row false 51 2 ((p.take i).map Ft)]) (λi=>p.length-i) (λi=>i<=p.length) 0 (Qi _) rfl (λ_ _=>rfl) rfl λi hi=>?_
 have hol:((p.take i).map Ft).length=i:=by rw [Ze,Qy]; omega
 by_cases h:i<p.length
 ·obtain ⟨z,hz⟩:=gxE (l:=p) (i:=i) h;have hzb:=hb z (Qc hz);have hq:∀ c∈[Ft z],c.length=2:=λc hc=>by rw [Qp.1 hc]; rfl
  have hg:(p.take (i+1)).map Ft=(p.take i).map Ft++[Ft z]:=by
   rw [Xa,hz]; simp
  refine go tt [.t (decide_eq_true (by omega)),.x (De (Q88 hz)),.c [] (Q25 (z:=z) (by omega)),.s (sz:=2) hq] rfl (by simp [Ua]; omega) ?_;exact rd (i+1) (by omega) h (by rw [hg]; rfl)
 ·have e:i=p.length:=by omega
  rw [e,Q4];exact en tt [.f (decide_eq_false (by omega))] rfl rfl trivial
theorem Q3n {p q:List Rat} (hp:Rb 20000000 p) (hq:Rb 20000000 q) (hlp:p.length<=1000000) (hlq:q.length<=1000000):Ub Tryz.prog 143 [.one (rp p),.one (rp q)] [.one (rp (Q06 p q))]:=by
 have h1:=Rl p;have h2:=Rl q;obtain ⟨M,hM⟩:=nmE (max p.length q.length);have cc:=Ig (p:=A7 (λi=>p.getD i 0+q.getD i 0) M);unfold Q06;rw [<-hM];refine Gl Tryz.func143 rfl ?_;refine go tt [.o 5 35 4] rfl trivial ?_;refine lp (S:=Nat) 1 (λL1 i=>(6,.v (.one (.int .i64 (i:Int))))::(5,.v (.one (.orow 0 4 none)))::L1) (λi=>[.row false 35 4 (frow (A7 (λi=>p.getD i 0+q.getD i 0) i))]) (λi=>M-i) (λi=>i<=M) 0 (Qi _) rfl (λ_ _=>rfl) rfl λi hi=>?_
 have hol:(frow (A7 (λi=>p.getD i 0+q.getD i 0) i)).length=i:=by rw [Rl,Qc4]
 by_cases h:i<M
 ·refine go tt [.r 12 (eI (b:=(M:Int)) (by omega)),.t (decide_eq_true (by omega)),.c [] (Zed (p:=p) (i:=i) (by omega)),.c [] (Zed (p:=q) (i:=i) (by omega)),.c [] (Qs5 (hp.getD (by decide) i) (hq.getD (by decide) i)),.s (sz:=4) (Quq _)] rfl (by simp [Ua,hol,-List.getD_eq_getElem?_getD]; omega) ?_;exact rd (i+1) (by omega) h (by rw [Ql5,Qky]; rfl)
 ·have e:i=M:=by omega
  rw [e];exact en tt [.r 12 (eI (b:=(M:Int)) (by omega)),.f (decide_eq_false (by omega)),.c [] cc] rfl rfl trivial
theorem Lx {p:List Rat} {c:Rat} (hp:Rb 40000000 p) (hc:Qs 40000000 c) (hlp:p.length<=1000000):Ub Tryz.prog 203 [.one (rp p),.agg (fr c)] [.one (rp (Pk p c))]:=by
 have h1:=Rl p;have cc:=Ig (p:=A7 (λi=>p.getD i 0*c) p.length);unfold Pk;refine Gl Tryz.func203 rfl ?_;refine go tt [.o 5 35 4] rfl trivial ?_;refine lp (S:=Nat) 2 (λL1 i=>(9,.v (.one (.int .i64 (i:Int))))::(5,.v (.one (.orow 1 4 none)))::L1) (λi=>[.blk 35 (fr c),.row false 35 4 (frow (A7 (λi=>p.getD i 0*c) i))]) (λi=>p.length-i) (λi=>i<=p.length) 0 (Qi _) rfl (λ_ _=>rfl) rfl λi hi=>?_
 have hol:(frow (A7 (λi=>p.getD i 0*c) i)).length=i:=by rw [Rl,Qc4]
 by_cases h:i<p.length
 ·have hg:p[i]? = some (p.getD i 0):=by rw [Qg,Qd h]; rfl
  refine go tt [.t (decide_eq_true (by omega)),.x (De hg),.c [] (Qta (hp.getD (by decide) i) hc),.s (sz:=4) (Quq _)] rfl (by simp [Ua,hol,-List.getD_eq_getElem?_getD]; omega) ?_;exact rd (i+1) (by omega) h (by rw [Ql5,Qky]; rfl)
 ·have e:i=p.length:=by omega
  rw [e];exact en tt [.f (decide_eq_false (by omega)),.c [] cc] rfl rfl trivial
theorem Qtp {p:List Rat} (hp:Rb 40000000 p) (hlp:p.length<=1000000):Ub Tryz.prog 137 [.one (rp p)] [.one (rp (Qok p))]:=by
 have cs:=Lx (p:=p) (c:=-1) hp ⟨by decide,by decide⟩ hlp;have co:=Qdo (n:=-1) (by decide);rw [show ((-1:Int):Rat)=-1 from rfl] at co;exact w tt Tryz.func137 rfl [.c [] co,.c [] cs] rfl rfl trivial
theorem Zcr {s t:Nat} {a b:Rat} (ha:Qs s a) (hb:Qs t b):Qs (s+t+1) (a*b):=by
 rw [<-Qla];unfold Fg;rw [if_neg (Jg (P7 a) (P7 b))];have h1:=Uv a.num b.num;have h2:=Uv (a.den:Int) (b.den:Int);have:=ha.1; have:=ha.2; have:=hb.1; have:=hb.2;exact Qs.divInt (by omega) (by omega) (by omega)
theorem Q7c {s:Nat} {p:List Rat} (hp:Rb s p):Rb (s+2) (Qok p):=by
 unfold Qok Pk;refine Rb.trim (Zdl λi hi=>?_);have h1:Qs (s+0) (p.getD i 0):=by
  have hi:i<p.length:=hi;rw [Qg,Qd hi];exact hp _ (Xu hi)
 have:=Zcr h1 (show Qs 1 (-1:Rat) from ⟨by decide,by decide⟩);exact this.mono (by omega)
theorem Qr2 (p:List Rat):(Qok p).length<=p.length:=by
 unfold Qok Pk;exact Qa (Qlz _) (by rw [Qc4]; exact Qk _)
theorem Zf1 {p q:List Rat} (hp:Rb 19000000 p) (hq:Rb 19000000 q) (hlp:p.length<=1000000) (hlq:q.length<=1000000):Ub Tryz.prog 144 [.one (rp p),.one (rp q)] [.one (rp (Q7s p q))] :=
 w tt Tryz.func144 rfl [.c [] (Qtp (hq.mono (by decide)) hlq),.c [] (Q3n (hp.mono (by decide)) ((Q7c hq).mono (by decide)) hlp (Qa (Qr2 q) hlq))] rfl rfl trivial
theorem Q2q {a b:Int} (ha:Ul a<=40000000) (hb:Ul b<=40000000):Ub Tryz.prog 139 [.agg (fr (a:Rat)),.agg (fr (b:Rat))] [.agg (fr ((a*b:Int):Rat))]:=by
 have h:=Qta (B8 ha (by decide)) (B8 hb (by decide));rw [<-Xy] at h; exact h
theorem Zfn {a b:Int} (ha:Ul a<=20000000) (hb:Ul b<=20000000):Ub Tryz.prog 169 [.agg (fr (a:Rat)),.agg (fr (b:Rat))] [.agg (fr ((a+b:Int):Rat))]:=by
 have h:=Qs5 (B8 ha (by decide)) (B8 hb (by decide));rw [<-V3] at h; exact h
theorem Qqf (l:List Int) (i:Nat) (z:Int):(frow (zp l)).set i (fr (z:Rat))=frow (zp (l.set i z)):=by simp [frow,zp,Vi]
theorem Q89 {p:List Int} {i:Nat} (h:i<p.length):(zp p)[i]? = some ((p.getD i 0:Int):Rat):=Q88 (Hh h)
theorem Hy {p:List Int} {i:Nat} (h:i<p.length):(frow (zp p))[i]? = some (fr ((p.getD i 0:Int):Rat)):=De (Q89 h)
theorem fzl (p:List Int):(frow (zp p)).length=p.length:=by rw [Rl,T0]
abbrev zR:List LV:=[.nils,.bool false,.nils,.bool false]
theorem Qnb {n i:Nat} (h:i<n):(List.replicate i (fr 0)++List.replicate (n-i) zR).set i (fr 0)=List.replicate (i+1) (fr 0)++List.replicate (n-(i+1)) zR:=by
 rw [List.set_append_right _ _ (by simp),X8,Yb,show n-i=n-(i+1)+1 by omega,Jz (n:=n-(i+1)),List.set_cons_zero,List.replicate_succ' (n:=i),Zz]; rfl
theorem Qjf (n:Nat):List.replicate n (fr 0)++List.replicate (n-n) zR=frow (zp (List.replicate n 0)):=by simp [zp,frow]
theorem Q3o {p q:List Int} {s t:Nat} (hlp:p.length<=1000000) (hlq:q.length<=1000000) (hp:Bd s p) (hq:Bd t q) (hst:s+t<=19000000):Ub Tryz.prog 141 [.one (rp (zp p)),.one (rp (zp q))] [.one (rp (zp (Fu p q)))]:=by
 have hpl:=fzl p;have hql:=fzl q;rcases Qx p.length with h0 | h0
 ·have e:Fu p q=[]:=by unfold Fu; rw [if_pos (.inl h0)]
  rw [e];exact w tt Tryz.func141 rfl [.g 12 true (decide_eq_true (by omega)),.t rfl] rfl rfl trivial
 rcases Qx q.length with h1 | h1
 ·have e:Fu p q=[]:=by unfold Fu; rw [if_pos (.inr h1)]
  rw [e];exact w tt Tryz.func141 rfl [.g 12 false (decide_eq_false (by omega)),.t (decide_eq_true (by omega))] rfl rfl trivial
 have e:Fu p q=trim (Mw p q (List.replicate (p.length+q.length-1) 0) p.length):=by unfold Fu; rw [if_neg (by omega)]
 rw [e];obtain ⟨N,hN⟩:=nmE (p.length+q.length-1);rw [<-hN];obtain ⟨o,ho⟩:=nmE (List.replicate N (0:Int));rw [<-ho];have hol:o.length=N:=by rw [ho]; simp
 have ho0:∀ m,o.getD m 0=0:=λm=>by rw [ho]; exact Hi N m
 have cc:=Ig (p:=zp (Mw p q o p.length));rw [Nc] at cc;refine Gl Tryz.func141 rfl ?_;refine go tt [.g 12 false (decide_eq_false (by omega)),.f (decide_eq_false (by omega)),.r 22 (eI (b:=(N:Int)) (by omega)),.i N,.i N,.r 25 (eI (b:=(N:Int)) (by simp))] rfl (by simp [Ua]; omega) ?_;refine lp (S:=Nat) 1 (λL1 i=>(26,.v (.one (.int .i64 (i:Int))))::L1) (λi=>[.row false 35 4 (List.replicate i (fr 0)++List.replicate (N-i) zR)]) (λi=>N-i) (λi=>i<=N) 0 (Qi _) rfl (λ_ _=>rfl) rfl λi hi=>?_
 by_cases hlt:i<N
 ·refine go tt [.t (decide_eq_true (by omega)),.c [] Q3c,.i i] rfl (by simp [Ua]; omega) ?_;rw [Qnb hlt];exact rd (i+1) (by omega) hlt rfl
 have hiN:i=N:=by omega
 rw [hiN,Qjf,<-ho];clear hiN hlt hi;refine go tt [.f (decide_eq_false (by omega))] rfl trivial ?_;refine lp (S:=Nat) 1 (λL1 i=>(36,.v (.one (.int .i64 (i:Int))))::L1) (λi=>[.row false 35 4 (frow (zp (Mw p q o i)))]) (λi=>p.length-i) (λi=>i<=p.length) 0 (Qi _) rfl (λ_ _=>rfl) rfl λi hi=>?_
 by_cases hlt:i<p.length
 ·refine go tt [.t (decide_eq_true (by omega))] rfl trivial ?_;refine lp (S:=Nat) 1 (λL1 k=>(41,.v (.one (.int .i64 (k:Int))))::L1) (λk=>[.row false 35 4 (frow (zp (Eb (p.getD i 0) q i (Mw p q o i) k)))]) (λk=>q.length-k) (λk=>k<=q.length) 0 (Qi _) rfl (λ_ _=>rfl) rfl λk hk=>?_
  by_cases hk2:k<q.length
  ·have hm1:Ul ((Eb (p.getD i 0) q i (Mw p q o i) k).getD (i+k) 0)<=20000000:=Qa (Ll (t:=39) (Qnx (by rw [Mx]; omega) (Qnw (λj hj=>by omega) ho0 (λi j=>Pq (Um hp i) (Um hq j))) (λj=>Pq (Um hp i) (Um hq j)) (i+k)) (V6 (show i+1<549755813888 by omega) (by decide))) (by omega);have hm2:Ul (p.getD i 0*q.getD k 0)<=20000000:=Qa (Uv _ _) (by have:=Um hp i; have:=Um hq k; omega);have hml:(Eb (p.getD i 0) q i (Mw p q o i) k).length=N:=by rw [Ec,Mx,hol]
   have cm:=Q2q (a:=p.getD i 0) (b:=q.getD k 0) (Qa (Um hp i) (by omega)) (Qa (Um hq k) (by omega));have hfl:=fzl (Eb (p.getD i 0) q i (Mw p q o i) k);refine go tt [.t (decide_eq_true (by omega)),.i (i+k),.x (Hy (p:=Eb (p.getD i 0) q i (Mw p q o i) k) (i:=i+k) (by omega)),.x (Hy hlt),.x (Hy hk2),.c [] cm,.c [] (Zfn hm1 hm2),.i (i+k)] rfl (by simp [Ua,hfl,-List.getD_eq_getElem?_getD] <;> omega) ?_;rw [Qqf];exact rd (k+1) (by omega) hk2 rfl
  ·obtain rfl:k=q.length:=by omega
   exact go tt [.f (decide_eq_false (by omega))] rfl (by simp [Ua]; omega) (rd (i+1) (by omega) hlt rfl)
 ·obtain rfl:i=p.length:=by omega
  exact en tt [.f (decide_eq_false (by omega)),.c [] cc] rfl rfl trivial
def Qqa (p:List Int) (n:Nat):List Int:=(List.range n).map λk=>p.getD (k+1) 0*((k+1:Nat):Int)
theorem Q4m (p:List Int) (n:Nat):(Qqa p n).length=n:=by simp [Qqa]
theorem Q0c (p:List Int) (n:Nat):Qqa p (n+1)=Qqa p n++[p.getD (n+1) 0*((n+1:Nat):Int)]:=by simp [Qqa,Kt]
theorem Qpa (p:List Int) (z:Int):frow (zp (p++[z]))=frow (zp p)++[fr (z:Rat)]:=by simp [frow,zp]
theorem Qtn {p:List Int} (hp:Bd 40000000 p) (hl:p.length<=1000000):Ub Tryz.prog 71 [.one (rp (zp p))] [.one (rp (zp (U3 p)))]:=by
 have hpl:=fzl p;have cc:=Ig (p:=zp (Qqa p (p.length-1)));rw [Nc] at cc;refine Gl Tryz.func71 rfl ?_;refine go tt [.o 3 35 4] rfl trivial ?_;refine lp (S:=Nat) 1 (λL1 j=>(4,.v (.one (.int .i64 ((j+1:Nat):Int))))::(3,.v (.one (.orow 0 4 none)))::L1) (λj=>[.row false 35 4 (frow (zp (Qqa p j)))]) (λj=>p.length-j) (λj=>j<=p.length-1) 0 (Qi _) rfl (λ_ _=>rfl) rfl λj hj=>?_
 have hfl:=fzl (Qqa p j);rw [Q4m] at hfl;by_cases h:j+1<p.length
 ·have hk:Ul ((j+1:Nat):Int)<=40000000:=Qa (Qnk (t:=38) (k:=j+1) (V6 (show j+1<274877906944 by omega) (by decide))) (by decide);refine go tt [.t (decide_eq_true (by omega)),.x (Hy h),.c [] (Qdo (n:=((j+1:Nat):Int)) (by omega)),.c [] (Q2q (Um hp (j+1)) hk),.s (sz:=4) (Quq _)] rfl (by simp [Ua,hfl,-List.getD_eq_getElem?_getD] <;> omega) ?_;exact rd (j+1) (by omega) (by omega) (by rw [Q0c,Qpa]; rfl)
 ·have e:j=p.length-1:=by omega
  rw [e];exact en tt [.f (decide_eq_false (by omega)),.c [] cc] rfl rfl trivial
theorem Zgj (z:Int):fr (z:Rat)=[nd z.natAbs,sg z,.row [[.int .i64 1]],.bool false]:=by
 have e:U0 1=[1]:=by rw [E4 (by decide),show 1 / 10000=0 from rfl,Gd]
 show [nd z.natAbs,sg z,nd 1,sg 1]=_;unfold nd dl;rw [e]; rfl
theorem Q3q {p:List Int} (hl:p.length<=1000000):Ub Tryz.prog 165 [.one (rp (zp p))] [.one (.bool true)]:=by
 have hpl:=fzl p;refine Gl Tryz.func165 rfl ?_;refine go tt [] rfl trivial ?_;refine lp (S:=Nat) 0 (λL1 i=>(6,.v (.one (.int .i64 (i:Int))))::L1) (λ_=>[]) (λi=>p.length-i) (λi=>i<=p.length) 0 (Qi _) rfl (λ_ _=>rfl) rfl λi hi=>?_
 by_cases h:i<p.length
 ·have hg:=Hy h;rw [Zgj] at hg;refine go tt [.t (decide_eq_true (by omega)),.x hg,.g 17 false rfl,.x hg,.x (l:=[[.int .i64 1]]) (i:=0) (xs:=[.int .i64 1]) rfl,.f rfl] rfl (by simp [Ua]; omega) ?_;exact rd (i+1) (by omega) h rfl
 ·exact en tt [.f (decide_eq_false (by omega))] rfl rfl trivial
theorem Qyx:[LV.nils,LV.bool false].map Qfy=ri 0:=by
 show _=[nd 0,sg 0];unfold nd dl;rw [Gd]; rfl
theorem Qu2 (p:List Int) (q:Rat):Int.sign (S0 p q.num q.den p.length).1=U4 p q:=by
 unfold U4 Zcp Mj;generalize (S0 p q.num q.den p.length).1=z;rcases Jx z 0 with h | h | h
 ·rw [if_pos h,X2 h]
 ·subst h; rfl
 ·rw [if_neg (by omega),if_pos h,Jb h]
theorem Qbv {p:List Int} {q:Rat} (hp:Bd 30000000 p) (hl:p.length<=64) (hq:Qs 1000000 q):Ub Tryz.prog 94 [.one (rp (zp p)),.agg (fr q)] [.one (.int .i64 (U4 p q))]:=by
 have hpl:=fzl p;refine Gl Tryz.func94 rfl ?_;refine go tt [.c [] (Q3q (p:=p) (by omega)),.f rfl,.c [] (Cc (n:=1) (by decide)),.r 19 (eI (b:=(p.length:Int)-1-((0:Nat):Int)) (by simp; omega))] rfl (by simp [Ua]; omega) ?_;refine nlb 1 rfl rfl rfl ?_;rw [Qyx];refine lp (S:=Nat) 3 (λL1 j=>(7,.v (.one (.int .i64 ((p.length:Int)-1-(j:Int)))))::L1) (λj=>[.blk 35 (fr q),.blk 33 (ri (S0 p q.num q.den j).1),.blk 33 (ri (S0 p q.num q.den j).2)]) (λj=>p.length-j) (λj=>j<=p.length) 0 (Qi _) rfl (λ_ _=>rfl) rfl λj hj=>?_
 have hv:=Qo3 (k:=j) hp hq.1 hq.2;have hjl:j*(1000000+1)<=p.length*(1000000+1):=Qw _ (by omega);by_cases h:j<p.length
 ·have hc:=Um hp (p.length-1-j);have hq1:=hq.1;have hq2:=hq.2;have hm1:Ul ((S0 p q.num q.den j).1*q.num)<=200000000:=Qa (Uv _ _) (by omega);have hm2:Ul (p.getD (p.length-1-j) 0*(S0 p q.num q.den j).2)<=200000000:=Qa (Uv _ _) (by omega);refine go tt [.t (decide_eq_true (by omega)),.c [] (So (a:=(S0 p q.num q.den j).1) (b:=q.num) (by omega) (by omega)),.r 29 (eI (b:=((p.length-1-j:Nat):Int)) (by omega)),.x (Hy (p:=p) (i:=p.length-1-j) (by omega)),.c [] (So (a:=p.getD (p.length-1-j) 0) (b:=(S0 p q.num q.den j).2) (by omega) (by omega)),.c [] (Qtj hm1 hm2),.c [] (So (a:=(S0 p q.num q.den j).2) (b:=(q.den:Int)) (by omega) (by omega)),.r 23 (eI (b:=(p.length:Int)-1-((j+1:Nat):Int)) (by omega))] rfl (by simp [Ua] <;> omega) ?_;exact rd (j+1) (by omega) h rfl
 ·obtain rfl:j=p.length:=by omega
  exact en tt [.f (decide_eq_false (by omega)),.c [] Qwq] rfl (by rw [Qu2]) trivial
end Orr
namespace Orr
def Uq (p:List Int):Int:=p.getD (p.length-1) 0
def Bz (a b:List Int):Int:=if Uq b<0 then -(Uq a) else Uq a
def B9 (a b:List Int) (i:Nat):Int:=a.getD i 0*((Uq b).natAbs:Int)-(if a.length-b.length<=i then Bz a b*b.getD (i-(a.length-b.length)) 0 else 0)
def Lb (a b:List Int):List Int:=S9 a.length (B9 a b)
inductive RRun (b:List Int):Nat->List Int->List Int->Prop
 | stop {a:List Int}:a.length<b.length->RRun b 0 a a
 | step {k:Nat} {a r:List Int}:b.length<=a.length->a.length<=1000->Bd 9000000 a->Bd 9000000 b->RRun b k (Lb a b) r->RRun b (k+1) a r
def D5 (p:List Int):Nat->Nat
 | 0=>0
 | i+1=>Int.gcd (D5 p i:Nat) (p.getD i 0)
def cont (p:List Int):Nat:=D5 p p.length
theorem Qdr (p:List Int):∀ {i j:Nat},j<i->((D5 p i:Nat):Int)∣p.getD j 0
 | 0,_,h=>absurd h (W4 _)
 |
  i+1,j,h=>by
  simp only [D5];rcases Q5 j i with h1 | h1
  ·exact Vq (Wo ..) (Qdr p h1)
  ·rw [show j=i by omega]; exact Y9 ..
theorem Qpw (p:List Int) (j:Nat):((cont p:Nat):Int)∣p.getD j 0:=by
 rcases Q5 j p.length with h | h
 ·exact Qdr p h
 ·rw [Qg,Qr h]; exact Int.dvd_zero _
theorem Ij {s:Nat} {p:List Int} (h:Bd s p):∀ i,Ul ((D5 p i:Nat):Int)<=s
 | 0=>by simp [D5,Pp]
 |
  i+1=>by
  simp only [D5];by_cases h0:p.getD i 0=0
  ·rw [h0,Int.gcd_zero_right]; exact Ij h i
  ·have h1:=Y9 (D5 p i:Nat) (p.getD i 0);have h2:(Int.gcd (D5 p i:Nat) (p.getD i 0))<=(p.getD i 0).natAbs:=Vs (by omega) (by simpa using Xj.2 h1);have h3:=Um h i;rw [H7] at h3 ⊢;simp only [Zx];omega
theorem Qz2 {p:List Int} {j i:Nat} (hj:j<i) (h:p.getD j 0≠0):0<D5 p i:=by
 have:=Qdr p hj;rcases Qx (D5 p i) with h0 | h0
 ·rw [h0] at this;exact absurd (Int.zero_dvd.1 this) h
 ·exact h0
theorem Qpx {p:List Int} (ht:Uf p) (h:0<p.length):0<cont p:=Qz2 (j:=p.length-1) (by omega) (Gh ht h)
def Pf (p:List Int):Int:=if Uq p<0 then -((cont p:Nat):Int) else ((cont p:Nat):Int)
def Ge (p:List Int):List Int:=S9 p.length λi=>p.getD i 0 / Pf p
def Hd (p:List Int):List Int:=if Uq p<0 then Sv (Ge p) else Ge p
theorem Q0f (p:List Int) (j:Nat):Pf p∣p.getD j 0:=by
 unfold Pf
 split
 ·exact W6.2 (Qpw p j)
 ·exact Qpw p j
theorem Q41 {p:List Int} (ht:Uf p) (h:0<p.length):Pf p≠0:=by
 have:=Qpx ht h;unfold Pf
 split <;> omega
theorem Qkn {s:Nat} {p:List Int} (h:Bd s p):Ul (Pf p)<=s:=by
 unfold Pf
 split
 ·rw [Fy]; exact Ij h _
 ·exact Ij h _
theorem Qvj {p:List Int} {c:Int} (hc:c≠0) (hd:∀ j,c∣p.getD j 0):Pk (zp p) (1 / (c:Rat))=zp (S9 p.length λi=>p.getD i 0 / c):=by
 unfold Pk S9;rw [Qgv (g:=λi=>p.getD i 0 / c) _ λi _=>?_,Nc,T0];obtain ⟨k,hk⟩:=hd i;have hc':(c:Rat)≠0:=λe=>hc (by exact_mod_cast e)
 rw [Qdf,hk,Xv _ hc,Xy];grind
theorem Qg2 {s:Nat} {p:List Int} (h:Bd s p):Bd s (Ge p):=Es λi _=>Qa (Ix _ _) (Um h i)
theorem Qed (p:List Int):(Ge p).length<=p.length:=Db _ _
theorem Qjc (p:List Int):Uf (Ge p):=Us _ _
theorem Qj3 {s:Nat} {p:List Int} (h:Bd s p):Bd s (Hd p):=by
 unfold Hd
 split
 ·exact Qbq (Qg2 h)
 ·exact Qg2 h
theorem Aj (p:List Int):(Hd p).length<=p.length:=by
 unfold Hd
 split
 ·exact Qa (Di _) (Qed p)
 ·exact Qed p
inductive GRun:Nat->List Int->List Int->List Int->Prop
 | stop (a:List Int):GRun 0 a [] a
 | step {k m:Nat} {a b r g:List Int}:0<b.length->b.length<=1000->Bd 9000000 b->RRun b m a r->r.length<=1000->Bd 9000000 r->Uf r->GRun k b (Ge r) g->GRun (k+1) a b g
theorem GRun.inv {k:Nat} {a b g:List Int} (h:GRun k a b g):(k=0/\b.length=0/\a=g)\/∃ j m r,k=j+1/\0<b.length/\b.length<=1000/\Bd 9000000 b/\RRun b m a r/\r.length<=1000/\Bd 9000000 r/\Uf r/\GRun j b (Ge r) g:=by
 cases h with
 | stop=>exact .inl ⟨rfl,rfl,rfl⟩
 | step h1 h2 h3 h4 h5 h6 h7 h8=>exact .inr ⟨_,_,_,rfl,h1,h2,h3,h4,h5,h6,h7,h8⟩
def Rv (k:Nat) (p:List Int):List Int:=List.replicate k 0++p
theorem Qi5 (k:Nat) (p:List Int):(Rv k p).length=k+p.length:=by simp [Rv]
theorem Qzj {s k:Nat} {p:List Int} (h:Bd s p):Bd s (Rv k p):=λz hz=>by
 rcases Qz.1 hz with h1 | h1
 ·rw [Zs h1,Pp]; exact Qi _
 ·exact h z h1
inductive DRun (b:List Int):Nat->List Int->List Int->List Int->List Int->Prop
 | stop {a q:List Int}:a.length<b.length->DRun b 0 a q q a
 | step {k:Nat} {a q qf r:List Int}:b.length<=a.length->a.length<=1000->Bd 9000000 a->Uq b≠0->Uq b∣Uq a->a.length-b.length<q.length ->
  DRun b k (Tj a (Rv (a.length-b.length) (Uu b (Uq a / Uq b)))) (q.set (a.length-b.length) (Uq a / Uq b)) qf r->DRun b (k+1) a q qf r
theorem DRun.inv {b a q qf r:List Int} {k:Nat} (h:DRun b k a q qf r):(k=0/\q=qf/\a=r/\a.length<b.length)\/∃ j,k=j+1/\b.length<=a.length/\a.length<=1000/\Bd 9000000 a/\Uq b≠0/\Uq b∣Uq a/\a.length-b.length<q.length /\
 DRun b j (Tj a (Rv (a.length-b.length) (Uu b (Uq a / Uq b)))) (q.set (a.length-b.length) (Uq a / Uq b)) qf r:=by
 cases h with
 | stop h=>exact .inl ⟨rfl,rfl,rfl,h⟩
 | step h1 h2 h3 h4 h5 h6 h7=>exact .inr ⟨_,rfl,h1,h2,h3,h4,h5,h6,h7⟩
def Sa (l:List (List Int)):List Int:=l.getD (l.length-1) []
inductive LRun:Nat->List (List Int)->List (List Int)->Prop
 | stop {l:List (List Int)}:(Sa l).length<=1->LRun 0 l l
 | step {k m:Nat} {l f:List (List Int)} {g:List Int}:1<(Sa l).length->(Sa l).length<=1000->Uf (Sa l)->Bd 9000000 (Sa l)->Bd 9000000 (U3 (Sa l))->GRun m (Ge (Sa l)) (Ge (U3 (Sa l))) g->l.length<=1000->LRun k (l++[g]) f->LRun (k+1) l f
theorem LRun.inv {k:Nat} {l f:List (List Int)} (h:LRun k l f):(k=0/\l=f/\(Sa l).length<=1)\/∃ j m g,k=j+1/\1<(Sa l).length/\(Sa l).length<=1000/\Uf (Sa l)/\Bd 9000000 (Sa l)/\Bd 9000000 (U3 (Sa l))/\GRun m (Ge (Sa l)) (Ge (U3 (Sa l))) g/\l.length<=1000/\LRun j (l++[g]) f:=by
 cases h with
 | stop h=>exact .inl ⟨rfl,rfl,h⟩
 | step h1 h2 h3 h4 h5 h6 h7 h8=>exact .inr ⟨_,_,_,rfl,h1,h2,h3,h4,h5,h6,h7,h8⟩
def DOk (a b q:List Int):Prop:=0<b.length/\b.length<=1000/\a.length<=1000/\Bd 9000000 b/\∃ qf r n,Bd 9000000 qf/\qf.length<=1000/\DRun b n a (List.replicate (a.length+1-b.length) 0) qf r/\q=trim qf
theorem DOk.bd {a b q:List Int} (h:DOk a b q):Bd 9000000 q:=by
 obtain ⟨_,_,_,_,qf,r,n,h1,_,_,rfl⟩:=h;exact H9 h1
theorem DOk.len {a b q:List Int} (h:DOk a b q):q.length<=1000:=by
 obtain ⟨_,_,_,_,qf,r,n,_,h1,_,rfl⟩:=h;exact Qa (G0 _) h1
theorem DOk.trim {a b q:List Int} (h:DOk a b q):Uf q:=by
 obtain ⟨_,_,_,_,qf,r,n,_,_,_,rfl⟩:=h;exact Gu _
def Zij (a b c f:List Int):Prop:=∃ x y z,DOk a b x/\DOk b c y/\DOk (Ge x) (Ge y) z/\f=Ge z
structure FRun (a:List Int) (m:Nat) (f:Nat->List Int):Prop where
 run:∃ n l,LRun n [Ge a] l/\l.length=m+1/\∀ k,k<m->Zij ((l++[[1]]).getD k []) ((l++[[1]]).getD (k+1) []) ((l++[[1]]).getD (k+2) []) (f k)
 small:m<=1000
def Qjb (f:Nat->List Int) (n:Nat):List (List Int):=(List.range n).map f
theorem Qsf (f:Nat->List Int) (n:Nat):(Qjb f n).length=n:=by simp [Qjb]
theorem Q1j (f:Nat->List Int) (n:Nat):Qjb f (n+1)=Qjb f n++[f n]:=by simp [Qjb,Kt]
theorem Q8n {f:Nat->List Int} {n i:Nat} (h:i<n):(Qjb f n)[i]? = some (f i):=by simp [Qjb,X1 h]
theorem Qt7 {l:List (List Int)} {i:Nat} (h:i<l.length):l[i]? = some (l.getD i []):=by
 rw [Qg,Qd h]; rfl
def Ej (f:Nat->List Int):Nat->List Int
 | 0=>[1]
 | i+1=>Fu (Ej f i) (f i)
def Zii (m:Nat) (f:Nat->List Int):Prop:=∀ i,i<m->Bd 9000000 (Ej f i)/\(Ej f i).length<=1000/\Bd 9000000 (f i)/\(f i).length<=1000
inductive CRun:Nat->List (List Int)->List Int->List (List Int)->Prop
 | stop {l:List (List Int)} {g:List Int}:g.length=0->CRun 0 l g l
 | step {k m:Nat} {l f:List (List Int)} {g r:List Int}:0<g.length->g.length<=1000->Bd 9000000 g->RRun g m (Sa l) r->Uf r->Bd 9000000 r->r.length<=1000->0<l.length->l.length<=1000->CRun k (l++[g]) (Sv (Hd r)) f->CRun (k+1) l g f
theorem CRun.inv {k:Nat} {l f:List (List Int)} {g:List Int} (h:CRun k l g f):(k=0/\l=f/\g.length=0)\/∃ j m r,k=j+1/\0<g.length/\g.length<=1000/\Bd 9000000 g/\RRun g m (Sa l) r/\Uf r/\Bd 9000000 r/\r.length<=1000/\0<l.length/\l.length<=1000/\CRun j (l++[g]) (Sv (Hd r)) f:=by
 cases h with
 | stop h=>exact .inl ⟨rfl,rfl,h⟩
 | step h1 h2 h3 h4 h5 h6 h7 h8 h9 h10=>exact .inr ⟨_,_,_,rfl,h1,h2,h3,h4,h5,h6,h7,h8,h9,h10⟩
structure ChRun (a:List Int) (sq:List Int) (c:List (List Int)):Prop where
 fac:∃ m f,FRun a m f/\Zii m f/\sq=Ej f m
 chain:∃ n,CRun n [sq] (Hd (U3 sq)) c
 bd:Bd 8000000 sq
 len:sq.length<=1000
 small:c.length<=1000
def Qv4 (q:Rat) (c:List (List Int)):Prop:=∃ sq,ChRun [-q.num,(q.den:Int)] sq c
end Orr
namespace Orr
open Go Go.Proofs
set_option maxRecDepth 10000
theorem RRun.inv {b a r:List Int} {k:Nat} (h:RRun b k a r):(k=0/\a=r/\a.length<b.length)\/(∃ j,k=j+1/\b.length<=a.length/\a.length<=1000/\Bd 9000000 a/\Bd 9000000 b/\RRun b j (Lb a b) r):=by
 cases h with
 | stop h=>exact .inl ⟨rfl,rfl,h⟩
 | step h1 h2 h3 h4 h5=>exact .inr ⟨_,rfl,h1,h2,h3,h4,h5⟩
theorem Zc2 {a b:List Int} (ha:Bd 9000000 a):Ul (Bz a b)<=9000000:=by
 unfold Bz; split
 ·rw [Fy]; exact Um ha _
 ·exact Um ha _
theorem Zcw (n:Nat):ri (n:Int)=[nd n,.bool false]:=by
 show [nd n,sg (n:Int)]=_;unfold sg;rw [decide_eq_false (by omega)]
def Qom (a b:List Int) (n:Nat):List Int:=(List.range n).map (B9 a b)
theorem Q7t (a b:List Int) (n:Nat):(Qom a b n).length=n:=by simp [Qom]
theorem Qly (a b:List Int) (n:Nat):Qom a b (n+1)=Qom a b n++[B9 a b n]:=by simp [Qom,Kt]
theorem Qwv {a0 b res:List Int} {n:Nat} (hb0:0<b.length) (hb1:b.length<=1000) (hbb0:Bd 9000000 b) (hrun:RRun b n a0 res):Ub Tryz.prog 138 [.one (rp (zp a0)),.one (rp (zp b))] [.one (rp (zp res))]:=by
 have hbl:=fzl b;have hle:Ul (((Uq b).natAbs:Nat):Int)<=9000000:=Um hbb0 _;refine Gl Tryz.func138 rfl ?_;refine go tt [.r 15 (eI (b:=((b.length-1:Nat):Int)) (by omega)),.x (Hy (p:=b) (i:=b.length-1) (by omega))] rfl (by simp [Ua]; omega) ?_;refine sb [(0,.v (.one (rp (zp a0)))),(1,.v (.one (rp (zp b)))),(5,.v (.one (.ow 0 0))),(6,.v (.one (.ow 1 0)))] [.blk 33 (ri (Uq b)),.blk 33 [nd (Uq b).natAbs,.bool false]] rfl rfl ?_;refine lp (S:=Nat×List Int) 2 (λL1 s=>(0,.v (.one (rp (zp s.2))))::L1) (λ_=>[.blk 33 (ri (Uq b)),.blk 33 [nd (Uq b).natAbs,.bool false]]) (λs=>s.1) (λs=>RRun b s.1 s.2 res) (n,a0) hrun rfl (λ_ _=>rfl) rfl λ⟨k,a⟩ hs=>?_
 have hal:=fzl a;have hs:RRun b k a res:=hs;rcases RRun.inv hs with ⟨rfl,rfl,h1⟩ | ⟨j,rfl,h1,h2,ha,hb,hr⟩
 ·exact en tt [.f (decide_eq_false (by dsimp only; omega))] rfl rfl trivial
 obtain ⟨K,hK⟩:=nmE (a.length-b.length);have htb:=Zc2 (b:=b) ha;have cc:=Ig (p:=zp (Qom a b a.length));rw [Nc,show trim (Qom a b a.length)=Lb a b from rfl] at cc;refine go tt [.t (decide_eq_true (by dsimp only; omega)),.r 30 (eI (b:=(K:Int)) (by dsimp only; omega)),.r 34 (eI (b:=((a.length-1:Nat):Int)) (by dsimp only; omega)),.x (Hy (p:=a) (i:=a.length-1) (by omega))] rfl (by simp [Ua]; omega) ?_;refine ct 1 (S:=Unit) (λ_=>[(0,.v (.one (rp (zp a)))),(1,.v (.one (rp (zp b)))),(5,.v (.one (.ow 0 0))),(6,.v (.one (.ow 1 0))),(7,.v (.one (.int .i64 (K:Int)))),(8,.v (.one (.ow 2 0)))]) (λ_=>[.blk 33 (ri (Uq b)),.blk 33 [nd (Uq b).natAbs,.bool false],.blk 33 (ri (Bz a b))]) (λ_=>True) rfl ?_ (λ_ _=>?_)
 ·by_cases hn:Uq b<0
  ·have e:Bz a b=-(Uq a):=if_pos hn;rw [e];exact go tt [.t (decide_eq_true hn),.c [] (Ev (z:=Uq a))] rfl trivial (rc () trivial rfl)
  ·have e:Bz a b=Uq a:=if_neg hn;rw [e];exact go tt [.f (decide_eq_false hn)] rfl trivial (rc () trivial rfl)
 refine go tt [.o 9 35 4] rfl trivial ?_;refine lp (S:=Nat) 4 (λL1 i=>(44,.v (.one (.int .i64 (i:Int))))::(9,.v (.one (.orow 3 4 none)))::L1) (λi=>[.blk 33 (ri (Uq b)),.blk 33 [nd (Uq b).natAbs,.bool false],.blk 33 (ri (Bz a b)),.row false 35 4 (frow (zp (Qom a b i)))]) (λi=>a.length-i) (λi=>i<=a.length) 0 (Qi _) rfl (λ_ _=>rfl) rfl λi hi=>?_
 have hfl:=fzl (Qom a b i);rw [Q7t] at hfl;by_cases h:i<a.length
 ·have cm:=So (a:=a.getD i 0) (b:=(((Uq b).natAbs:Nat):Int)) (Qa (Um ha i) (by decide)) (by omega);have hm:=Uv (a.getD i 0) (((Uq b).natAbs:Nat):Int);have hai:=Um ha i;rw [Zcw (Uq b).natAbs] at cm;by_cases hk:K<=i
  ·have hbi:=Um hb (i-K);have hm2:=Uv (Bz a b) (b.getD (i-K) 0);have e:B9 a b i=a.getD i 0*(((Uq b).natAbs:Nat):Int)-Bz a b*b.getD (i-K) 0:=by unfold B9; rw [if_pos (by omega),hK]
   refine go tt [.t (decide_eq_true (by omega)),.x (Hy h),.c [] cm,.t (decide_eq_true (by omega)),.r 62 (eI (b:=((i-K:Nat):Int)) (by omega)),.x (Hy (p:=b) (i:=i-K) (by omega)),.c [] (So (a:=Bz a b) (b:=b.getD (i-K) 0) (by omega) (by omega)),.c [] (Q3d (by omega) (by omega)),.c [] (Cc (n:=1) (by decide)),.c [] (Pn (n:=a.getD i 0*(((Uq b).natAbs:Nat):Int)-Bz a b*b.getD (i-K) 0)),.s (sz:=4) (Quq _)] rfl (by simp [Ua,hfl,-List.getD_eq_getElem?_getD] <;> omega) ?_;exact rd (i+1) (by omega) h (by rw [Qly,Qpa,e]; rfl)
  ·have e:B9 a b i=a.getD i 0*(((Uq b).natAbs:Nat):Int):=by unfold B9; rw [if_neg (by omega),Int.sub_zero]
   refine go tt [.t (decide_eq_true (by omega)),.x (Hy h),.c [] cm,.f (decide_eq_false (by omega)),.c [] (Cc (n:=1) (by decide)),.c [] (Pn (n:=a.getD i 0*(((Uq b).natAbs:Nat):Int))),.s (sz:=4) (Quq _)] rfl (by simp [Ua,hfl,-List.getD_eq_getElem?_getD] <;> omega) ?_;exact rd (i+1) (by omega) h (by rw [Qly,Qpa,e]; rfl)
 ·have e:i=a.length:=by omega
  rw [e];exact go tt [.f (decide_eq_false (by omega)),.c [] cc] rfl trivial (rd (j,Lb a b) (by omega) hr rfl)
theorem Zfz:Ub Tryz.prog 55 [.agg (ri 1),.agg (ri 1)] [.agg (ri 1)]:=So (a:=1) (b:=1) (by decide) (by decide)
theorem Zai:Ub Tryz.prog 133 [.agg (ri 1),.agg (ri 1)] [.agg (ri 1)]:=Qha (a:=1) (b:=1) (by decide) (by decide)
theorem Q95 {z:Int} (hz:Ul z<=90000000):Ub Tryz.prog 55 [.agg (ri z),.agg (ri 1)] [.agg (ri z)]:=by
 have h:=So (a:=z) (b:=1) (by omega) (by decide);rwa [K7] at h
theorem Qwj {z:Int} (hz:Ul z<=90000000):Ub Tryz.prog 134 [.agg (ri z),.agg (ri 1)] [.agg (ri z)]:=by
 have h:=Qdp (a:=z) (b:=1) hz (by decide) (by decide) (Int.emod_one z);rwa [Ve] at h
theorem Q2r {z:Int}:Ub Tryz.prog 67 [.agg (fr (z:Rat))] [.agg (fr ((-z:Int):Rat))]:=by
 have h:=Zfs (a:=(z:Rat));rwa [<-Y5] at h
theorem Zg9 {c:Int} (hc:c≠0) (hs:Ul c<=9000000):Qs 40000000 (((1:Int):Rat) / (c:Rat)):=by
 have h0:(c:Rat)≠0:=λe=>hc (by exact_mod_cast e)
 rw [<-Qlr h0];unfold Fg;rw [if_neg (Jg (P7 _) (λe=>hc (by simpa using e)))];refine Qs.divInt (by show Ul (1*1)<=_; decide) ?_ (by decide);show Ul (1*c)<=_;rw [Yk]; omega
theorem Qtg {p:List Int} {c:Int} (hc:c≠0) (hs:Ul c<=9000000) (hd:∀ j,c∣p.getD j 0) (hp:Bd 9000000 p) (hl:p.length<=1000):Ub Tryz.prog 203 [.one (rp (zp p)),.agg (fr (((1:Int):Rat) / (c:Rat)))] [.one (rp (zp (S9 p.length λi=>p.getD i 0 / c)))]:=by
 have h:=Lx ((Qas hp (by omega)).mono (by omega)) (Zg9 hc hs) (by rw [T0]; omega);rwa [show ((1:Int):Rat)=1 from rfl,Qvj hc hd] at h
theorem Ew {p:List Int} (tp:Uf p) (hp:Bd 9000000 p) (hl:p.length<=1000):Ub Tryz.prog 147 [.one (rp (zp p))] [.agg (fr ((Pf p:Int):Rat)),.one (rp (zp (Ge p)))]:=by
 have hpl:=fzl p;rcases Qx p.length with h0 | h0
 ·have e:=Qh h0;subst e;exact w tt Tryz.func147 rfl [.t rfl,.c [] Q3c] rfl rfl trivial
 have hc:=Q41 tp h0;refine Gl Tryz.func147 rfl ?_;refine go tt [.f (decide_eq_false (by omega)),.c [] (Cc (n:=1) (by decide))] rfl trivial ?_;refine lp (S:=Nat) 2 (λL1 i=>(16,.v (.one (.int .i64 (i:Int))))::L1) (λi=>[.blk 35 [.nils,.bool false,.nils,.bool false],.blk 33 (ri 1)]) (λi=>p.length-i) (λi=>i<=p.length) 0 (Qi _) rfl (λ_ _=>rfl) rfl λi hi=>?_
 by_cases h:i<p.length
 ·refine go tt [.t (decide_eq_true (by omega)),.x (Hy h),.c [] Zfz,.x (Hy h),.c [] Zai,.c [] (Qwj (z:=1) (by decide))] rfl (by simp [Ua]; omega) ?_;exact rd (i+1) (by omega) h rfl
 refine go tt [.f (decide_eq_false (by omega))] rfl trivial ?_;clear h hi;refine nlb 2 rfl rfl rfl ?_;rw [Qyx];refine lp (S:=Nat) 3 (λL1 i=>(37,.v (.one (.int .i64 (i:Int))))::L1) (λi=>[.blk 35 [.nils,.bool false,.nils,.bool false],.blk 33 (ri 1),.blk 33 (ri ((D5 p i:Nat):Int))]) (λi=>p.length-i) (λi=>i<=p.length) 0 (Qi _) rfl (λ_ _=>rfl) rfl λi hi=>?_
 by_cases h:i<p.length
 ·have hb:=Um hp i;have hg:=Ij hp i;refine go tt [.t (decide_eq_true (by omega)),.x (Hy h),.c [] (Q95 (z:=p.getD i 0) (by omega)),.x (Hy h),.c [] (Qwj (z:=p.getD i 0) (by omega)),.c [] (Qha (a:=((D5 p i:Nat):Int)) (b:=p.getD i 0) (by omega) (by omega))] rfl (by simp [Ua]; omega) ?_;exact rd (i+1) (by omega) h rfl
 have e:i=p.length:=by omega
 rw [e];have co:=Qdo (n:=1) (by decide);have cs:=Qtg hc (Qkn hp) (Q0f p) hp hl;by_cases hn:Uq p<0
 ·have e2:Pf p=-((cont p:Nat):Int):=if_pos hn;rw [show (λi=>p.getD i 0 / Pf p)=λi=>p.getD i 0 / Pf p from rfl] at cs;have cn:=Q2r (z:=((cont p:Nat):Int));rw [<-e2] at cn;exact en tt [.f (decide_eq_false (by omega)),.c [] (Pn (n:=((cont p:Nat):Int))),.r 62 (eI (b:=((p.length-1:Nat):Int)) (by omega)),.x (Hy (p:=p) (i:=p.length-1) (by omega)),.t (decide_eq_true hn),.c [] cn,.c [] co,.c [] (Qtd (a:=((1:Int):Rat)) (b:=((Pf p:Int):Rat)) ⟨by decide,by decide⟩ (B8 (by have:=Qkn hp; omega) (by decide)) (λe=>hc (by exact_mod_cast e))),.c [] cs] rfl rfl (by simp [Ua]; omega)
 ·have e2:Pf p=((cont p:Nat):Int):=if_neg hn;have cm:=Pn (n:=Pf p);rw [e2] at cm cs hc ⊢;exact en tt [.f (decide_eq_false (by omega)),.c [] cm,.r 62 (eI (b:=((p.length-1:Nat):Int)) (by omega)),.x (Hy (p:=p) (i:=p.length-1) (by omega)),.f (decide_eq_false hn),.c [] co,.c [] (Qtd (a:=((1:Int):Rat)) (b:=((((cont p:Nat):Int):Int):Rat)) ⟨by decide,by decide⟩ (B8 (by have:=Ij hp p.length; unfold cont; omega) (by decide)) (λe=>hc (by exact_mod_cast e))),.c [] cs] rfl (by unfold Ge; rw [e2]; rfl) (by simp [Ua]; omega)
theorem D3 {p:List Int} (tp:Uf p) (hp:Bd 9000000 p) (hl:p.length<=1000):Ub Tryz.prog 80 [.one (rp (zp p))] [.one (rp (zp (Ge p)))] :=
 w tt Tryz.func80 rfl [.c [] (Ew tp hp hl)] rfl rfl trivial
theorem Qko {p:List Int} (tp:Uf p):Pf p<0↔Uq p<0:=by
 unfold Pf;rcases Qx p.length with h0 | h0
 ·have:=Qh h0; subst this; decide
 ·have:=Qpx tp h0
  split <;> omega
theorem Q3l {p:List Int} (hp:Bd 9000000 p) (hl:p.length<=1000000):Ub Tryz.prog 137 [.one (rp (zp p))] [.one (rp (zp (Sv p)))]:=by
 have h:=Qtp ((Qas hp (by decide)).mono (by decide)) (by rw [T0]; exact hl);rwa [Qyy] at h
theorem Qpp {p:List Int} (tp:Uf p) (hp:Bd 9000000 p) (hl:p.length<=1000):Ub Tryz.prog 136 [.one (rp (zp p))] [.one (rp (zp (Hd p)))]:=by
 by_cases hn:Uq p<0
 ·have e:Hd p=Sv (Ge p):=if_pos hn;rw [e];exact w tt Tryz.func136 rfl [.c [] (Ew tp hp hl),.t (decide_eq_true ((Qko tp).2 hn)),.c [] (Q3l (Qg2 hp) (Qa (Qed p) (by omega)))] rfl rfl trivial
 ·have e:Hd p=Ge p:=if_neg hn;rw [e];exact w tt Tryz.func136 rfl [.c [] (Ew tp hp hl),.f (decide_eq_false λh=>hn ((Qko tp).1 h))] rfl rfl trivial
end Orr
namespace Orr
theorem Dc (f:Nat->Int):S9 1 f=trim [f 0]:=rfl
theorem Qhx (f:Nat->Int):S9 2 f=trim [f 0,f 1]:=rfl
theorem Qav (x:Int):trim [x]=if x=0 then [] else [x]:=rfl
theorem Ql8 (x y:Int):trim [x,y]=if y=0 then trim [x] else [x,y]:=by
 simp only [trim]; split <;> split <;> simp_all
theorem bd1 {s:Nat} {x:Int} (h:Ul x<=s):Bd s [x]:=λz hz=>by simp at hz; subst hz; exact h
theorem bd2 {s:Nat} {x y:Int} (h:Ul x<=s) (h':Ul y<=s):Bd s [x,y]:=λz hz=>by
 simp only [Qq,Wq,or_false] at hz;rcases hz with rfl | rfl <;> assumption
section
variable {x d:Int} (hd:0<d) (hg:Int.gcd x d=1) (hx:Ul x<=1000000) (hs:Ul d<=1000000)
theorem b1 {s:Nat} (h:1<=s):Bd s [1]:=bd1 (Qa (show Ul 1<=1 by decide) h)
include hd in
theorem I8 (hg:Int.gcd x d=1):Ge [x,d]=[x,d]:=by
 have hc:Pf [x,d]=1:=by
  have h1:cont [x,d]=1:=by
   show Int.gcd (Int.gcd ((0:Nat):Int) x:Nat) d=1;rw [show Int.gcd ((0:Nat):Int) x=x.natAbs by simp,show Int.gcd ((x.natAbs:Nat):Int) d=Int.gcd x d by simp [Int.gcd],hg]
  unfold Pf;rw [if_neg (show ¬Uq [x,d]<0 from by show ¬d<0; omega),h1]; rfl
 unfold Ge;rw [hc];show S9 2 _=_;rw [Qhx,Ql8];show (if d / 1=0 then _ else [x / 1,d / 1])=_;rw [Ve,if_neg (by omega),Ve]
theorem Qrq:Ge [1]=[1]:=by decide
include hd in
theorem Qix:Ge [d]=[1]:=by
 have hc:Pf [d]=d:=by
  have h1:((cont [d]:Nat):Int)=d:=by
   show ((Int.gcd ((0:Nat):Int) d:Nat):Int)=d;simp; omega
  unfold Pf;rw [if_neg (show ¬Uq [d]<0 from by show ¬d<0; omega),h1]
 unfold Ge;rw [hc];show S9 1 _=_;rw [Dc,Qav];show (if d / d=0 then _ else [d / d])=_;rw [Int.ediv_self (by omega)]; rfl
include hd in
theorem Qm1:U3 [x,d]=[d]:=by
 show S9 1 _=_;rw [Dc,Qav];show (if d*1=0 then _ else [d*1])=_;rw [K7,if_neg (by omega)]
include hd hx hs in
theorem Qr1:∃ m,RRun [1] m [x,d] []:=by
 have h1:Lb [x,d] [1]=trim [x]:=by
  show S9 2 _=_;rw [Qhx,Ql8];have e1:B9 [x,d] [1] 1=0:=by
   show d*1-(if 1<=1 then Bz [x,d] [1]*1 else 0)=0;have:Bz [x,d] [1]=d:=by unfold Bz; rw [if_neg (by decide)]; rfl
   rw [this]; simp
  have e0:B9 [x,d] [1] 0=x:=by
   show x*1-(if 1<=0 then _ else 0)=x;simp
  rw [e1,if_pos rfl,e0]
 have hb:Bd 9000000 [x,d]:=bd2 (by omega) (by omega);by_cases h0:x=0
 ·refine ⟨1,.step (by show 1<=2; decide) (by show 2<=1000; decide) hb (b1 (by decide)) ?_⟩;rw [h1,h0];exact .stop (by decide)
 ·refine ⟨2,.step (by show 1<=2; decide) (by show 2<=1000; decide) hb (b1 (by decide)) ?_⟩;rw [h1,Qav,if_neg h0];refine .step (Qk 1) (by show 1<=1000; decide) (bd1 (by omega)) (b1 (by decide)) ?_;have h2:Lb [x] [1]=[]:=by
   show S9 1 _=_;rw [Dc,Qav];have e0:B9 [x] [1] 0=0:=by
    show x*1-(if 0<=0 then Bz [x] [1]*1 else 0)=0;have:Bz [x] [1]=x:=by unfold Bz; rw [if_neg (by decide)]; rfl
    rw [this]; simp
   rw [e0,if_pos rfl]
  rw [h2];exact .stop (by decide)
include hd hx hs in
theorem Q5k:∃ m,GRun m [x,d] [1] [1]:=by
 obtain ⟨m,h⟩:=Qr1 hd hx hs;exact ⟨1,.step (by decide) (by decide) (b1 (by decide)) h (by decide) Np rfl (by rw [show Ge []=[] by decide]; exact .stop _)⟩
theorem Q02 (c:Int):Tj [c] [c]=[]:=by
 show S9 1 _=_;rw [Dc,Qav];show (if c-c=0 then _ else _)=_;rw [if_pos (by omega)]
include hd hx hs in
theorem Qxc:DOk [x,d] [1] [x,d]:=by
 refine ⟨by decide,by decide,by show 2<=1000; decide,b1 (by decide),[x,d],[],?_⟩;have hpl:Uq [x,d] / Uq [1]=d:=by show d / 1=d; rw [Ve]
 have hsc:Uu [1] d=[d]:=by
  show S9 1 _=_;rw [Dc,Qav];show (if 1*d=0 then _ else [1*d])=_;rw [Yk,if_neg (by omega)]
 have hsub:Tj [x,d] (Rv 1 [d])=trim [x]:=by
  show S9 2 _=_;rw [Qhx,Ql8];show (if d-d=0 then trim [x-0] else _)=_;rw [if_pos (by omega),Int.sub_zero]
 have hb:Bd 9000000 [x,d]:=bd2 (by omega) (by omega);have ht:trim [x,d]=[x,d]:=by rw [Ql8,if_neg (by omega)]
 by_cases h0:x=0
 ·refine ⟨1,hb,by show 2<=1000; decide,?_,ht.symm⟩;refine .step (by show 1<=2; decide) (by show 2<=1000; decide) hb (by decide) (by show (1:Int)∣d; exact W7 d) (by show 1<2; decide) ?_;rw [hpl,hsc,show [x,d].length-[(1:Int)].length=1 from rfl,hsub,Qav,if_pos h0];show DRun [1] 0 [] [0,d] [x,d] [];rw [h0]; exact .stop (by decide)
 ·refine ⟨2,hb,by show 2<=1000; decide,?_,ht.symm⟩;refine .step (by show 1<=2; decide) (by show 2<=1000; decide) hb (by decide) (by show (1:Int)∣d; exact W7 d) (by show 1<2; decide) ?_;rw [hpl,hsc,show [x,d].length-[(1:Int)].length=1 from rfl,hsub,Qav,if_neg h0];refine .step (by show 1<=1; decide) (by show 1<=1000; decide) (bd1 (by omega)) (by decide) (by show (1:Int)∣x; exact W7 x) (by show 0<2; decide) ?_;have hpl2:Uq [x] / Uq [1]=x:=by show x / 1=x; rw [Ve]
  have hsc2:Uu [1] x=[x]:=by
   show S9 1 _=_;rw [Dc,Qav];show (if 1*x=0 then _ else [1*x])=_;rw [Yk,if_neg h0]
  rw [hpl2,hsc2,show [x].length-[(1:Int)].length=0 from rfl,show Rv 0 [x]=[x] from rfl,Q02];exact .stop (by decide)
theorem div_one:DOk [1] [1] [1]:=by
 refine ⟨by decide,by decide,by decide,b1 (by decide),[1],[],1,b1 (by decide),by decide,?_,by decide⟩;refine .step (by decide) (by decide) (b1 (by decide)) (by decide) (by decide) (by decide) ?_;exact .stop (by decide)
include hd hg hx hs in
theorem Q44:FRun [x,d] 1 (λ_=>[x,d]):=by
 obtain ⟨m,hm⟩:=Q5k (x:=x) hd hx hs;refine ⟨⟨1,[[x,d],[1]],?_,rfl,?_⟩,by decide⟩
 ·rw [I8 hd hg];refine .step (by show 1<2; decide) (by show 2<=1000; decide) (by show trim [x,d]=[x,d]; rw [Ql8,if_neg (by omega)]) (by show Bd 9000000 [x,d]; exact bd2 (by omega) (by omega)) ?_ ?_ (by show 1<=1000; decide) (m:=m) (g:=[1]) ?_
  ·show Bd 9000000 (U3 [x,d]);rw [Qm1 hd]; exact bd1 (by omega)
  ·show GRun m (Ge [x,d]) (Ge (U3 [x,d])) [1];rw [I8 hd hg,Qm1 hd,Qix hd]; exact hm
  ·exact .stop (by show 1<=1; decide)
 ·intro k hk;have:k=0:=by omega
  subst this;exact ⟨[x,d],[1],[x,d],Qxc hd hx hs,div_one,by rw [I8 hd hg,Qrq]; exact Qxc hd hx hs,(I8 hd hg).symm⟩
theorem Qk9 {p:List Int} (hp:Uf p) (h0:0<p.length):Fu [1] p=p:=by
 refine Ir (Gb _ _) hp λk=>?_
 unfold Fu;rw [if_neg (by
  rintro (h | h); · cases h
  ·omega),C4]
 show (Mw [1] p (List.replicate (1+p.length-1) 0) 1).getD k 0=_;simp only [Mw];rw [Qeg _ _ _ _ _ _ (by simp),Hi]
 split
 ·show 0+1*p.getD (k-0) 0=_;rw [Kw]; omega
 ·rename_i h;rw [Qg,Qr (by omega)]; rfl
include hd hg hx hs in
theorem Qka:ChRun [x,d] [x,d] [[x,d],[1]]:=by
 obtain ⟨m,hm⟩:=Qr1 (x:=x) hd hx hs;have ht:Uf [x,d]:=by show trim [x,d]=_; rw [Ql8,if_neg (by omega)]
 refine ⟨⟨1,λ_=>[x,d],Q44 hd hg hx hs,?_,?_⟩,⟨1,?_⟩,bd2 (by omega) (by omega),by show 2<=1000; decide,by show 2<=1000; decide⟩
 ·intro i hi;have:i=0:=by omega
  subst this;exact ⟨b1 (by decide),by show 1<=1000; decide,bd2 (by omega) (by omega),by show 2<=1000; decide⟩
 ·show [x,d]=Fu [1] [x,d];rw [Qk9 ht (by show 0<2; decide)]
 ·have hz:Hd (U3 [x,d])=[1]:=by
   rw [Qm1 hd];unfold Hd;rw [if_neg (show ¬Uq [d]<0 from by show ¬d<0; omega),Qix hd]
  rw [hz];refine .step (by decide) (by decide) (b1 (by decide)) (m:=m) (r:=[]) hm rfl Np (by decide) (by show 0<1; decide) (by show 1<=1000; decide) ?_;exact .stop (by decide)
end
theorem Zjx {q:Rat} (h:Qs 1000000 q):Qv4 q [[-q.num,(q.den:Int)],[1]]:=by
 refine ⟨[-q.num,(q.den:Int)],Qka (den_pos q) ?_ (by rw [Fy]; exact h.1) h.2⟩;rw [Int.neg_gcd];have:=q.reduced;unfold Nat.Coprime at this;simpa [Int.gcd] using this
end Orr
namespace Orr
open Go Go.Proofs
set_option maxRecDepth 10000
theorem Zf0 {a b g:List Int} {n:Nat} (ta:Uf a) (tb:Uf b) (ha:Bd 9000000 a) (hb:Bd 9000000 b) (la:a.length<=1000) (lb:b.length<=1000) (hrun:GRun n (Ge a) (Ge b) g):Ub Tryz.prog 155 [.one (rp (zp a)),.one (rp (zp b))] [.one (rp (zp g))]:=by
 refine Gl Tryz.func155 rfl ?_;refine go tt [.c [] (D3 ta ha la),.c [] (D3 tb hb lb)] rfl trivial ?_;refine sb [(0,.v (.one (rp (zp (Ge a))))),(1,.v (.one (rp (zp (Ge b)))))] [] rfl rfl ?_;refine lp (S:=Nat×List Int×List Int) 0 (λL1 s=>(0,.v (.one (rp (zp s.2.1))))::(1,.v (.one (rp (zp s.2.2))))::L1) (λ_=>[]) (λs=>s.1) (λs=>GRun s.1 s.2.1 s.2.2 g) (n,Ge a,Ge b) hrun rfl (λ_ _=>rfl) rfl λ⟨k,x,y⟩ hs=>?_
 have hs:GRun k x y g:=hs;have hyl:=fzl y;rcases hs.inv with ⟨hk,hy0,hxg⟩ | ⟨j,m2,r,hk,hy0,hy1,hyb,hrr,hrl,hrb,hrt,hgr⟩
 ·rw [<-hxg];exact en tt [.f (decide_eq_false (by dsimp only; omega))] rfl rfl trivial
 ·subst hk;refine go tt [.t (decide_eq_true (by dsimp only; omega)),.c [] (Qwv (a0:=x) (b:=y) (res:=r) hy0 hy1 hyb hrr),.c [] (D3 (p:=r) hrt hrb hrl)] rfl trivial ?_;exact rd (j,y,Ge r) (by dsimp only; omega) hgr rfl
theorem Q97 {x y:Int} (hx:Ul x<=9000000) (hy:Ul y<=9000000) (h0:y≠0) (hd:y∣x):Ub Tryz.prog 207 [.agg (fr (x:Rat)),.agg (fr (y:Rat))] [.agg (fr ((x / y:Int):Rat))]:=by
 have hy0:(y:Rat)≠0:=λe=>h0 (by exact_mod_cast e)
 have h:=Qtd (B8 (s:=40000000) (z:=x) (by omega) (by omega)) (B8 (s:=40000000) (z:=y) (by omega) (by omega)) hy0;obtain ⟨k,rfl⟩:=hd;rw [Xv _ h0];rwa [show (((y*k:Int):Rat)) / (y:Rat)=(k:Rat) by rw [Xy]; grind] at h
theorem Qzv {p:List Int} {c:Int} (hp:Bd 40000000 p) (hc:Ul c<=40000000) (hl:p.length<=1000000):Ub Tryz.prog 203 [.one (rp (zp p)),.agg (fr (c:Rat))] [.one (rp (zp (Uu p c)))]:=by
 have h:=Lx (Qas hp (by omega)) (B8 hc (by omega)) (by rw [T0]; exact hl);rwa [Qlx] at h
theorem Zde (k:Nat) (p:List Int):frow (zp (List.replicate k 0))++frow (zp p)=frow (zp (Rv k p)):=by simp [zp,Rv,frow]
theorem Q0i (l:List Int) (i:Nat) (z:Int):(frow (zp l)).set i [nd ((z:Rat)).num.natAbs,sg ((z:Rat)).num,nd (((z:Rat)).den:Int).natAbs,sg (((z:Rat)).den:Int)]=frow (zp (l.set i z)):=Qqf l i z
theorem Zal {p q:List Int} (hp:Bd 18000000 p) (hq:Bd 18000000 q) (hlp:p.length<=1000000) (hlq:q.length<=1000000):Hq Tryz.prog 144 [.one (rp (zp p)),.one (.orow 0 4 none)] [.row false 35 4 (frow (zp q))] [.one (rp (zp (Tj p q)))] [.gone]:=by
 have hn:=Qtp ((Qas hq (by decide)).mono (by decide)) (by rw [T0]; exact hlq);have ha:=Q3n (p:=zp p) (q:=Qok (zp q)) ((Qas hp (by decide)).mono (by decide)) ((Q7c (Qas hq (by decide))).mono (by decide)) (by rw [T0]; exact hlp) (Qa (Qr2 _) (by rw [T0]; exact hlq));have e:Q06 (zp p) (Qok (zp q))=zp (Tj p q):=Qy3 p q;rw [e] at ha;refine Gl Tryz.func144 rfl ?_;exact ed tt [] [0] [.c [] hn,.c [] ha] rfl trivial
theorem Qzw {a0 b qf rem:List Int} {n:Nat} (hb0:0<b.length) (hb1:b.length<=1000) (hl0:a0.length<=1000) (hbb:Bd 9000000 b) (hqb:Bd 9000000 qf) (hrun:DRun b n a0 (List.replicate (a0.length+1-b.length) 0) qf rem):Ub Tryz.prog 259 [.one (rp (zp a0)),.one (rp (zp b))] [.one (rp (zp (trim qf))),.one (rp (zp rem))]:=by
 have h0l:=fzl a0;have hbl:=fzl b;obtain ⟨N,hN⟩:=nmE (a0.length+1-b.length);rw [<-hN] at hrun;have cc:=Ig (p:=zp qf);rw [Nc] at cc;refine Gl Tryz.func259 rfl ?_;refine go tt [.r 18 (eI (b:=(N:Int)) (by omega)),.i N,.i N,.r 21 (eI (b:=(N:Int)) (by simp))] rfl (by simp [Ua]; omega) ?_;refine lp (S:=Nat) 1 (λL1 i=>(22,.v (.one (.int .i64 (i:Int))))::L1) (λi=>[.row false 35 4 (List.replicate i (fr 0)++List.replicate (N-i) zR)]) (λi=>N-i) (λi=>i<=N) 0 (Qi _) rfl (λ_ _=>rfl) rfl λi hi=>?_
 by_cases hlt:i<N
 ·refine go tt [.t (decide_eq_true (by omega)),.c [] Q3c,.i i] rfl (by simp [Ua]; omega) ?_;rw [Qnb hlt];exact rd (i+1) (by omega) hlt rfl
 have hiN:i=N:=by omega
 rw [hiN,Qjf];clear hiN hlt hi;refine go tt [.f (decide_eq_false (by omega))] rfl trivial ?_;refine sb [(0,.v (.one (rp (zp a0)))),(1,.v (.one (rp (zp b)))),(6,.v (.one (.orow 0 4 none)))] [.row false 35 4 (frow (zp (List.replicate N 0)))] rfl rfl ?_;refine lp (S:=Nat×List Int×List Int) 1 (λL1 s=>(0,.v (.one (rp (zp s.2.1))))::L1) (λs=>[.row false 35 4 (frow (zp s.2.2))]) (λs=>s.1) (λs=>DRun b s.1 s.2.1 s.2.2 qf rem/\s.2.2.length=N) (n,a0,List.replicate N 0) ⟨hrun,X8⟩ rfl (λ_ _=>rfl) rfl λ⟨k,a,q⟩ ⟨hr0,hr1⟩=>?_
 have hr0:DRun b k a q qf rem:=hr0;have hr1:q.length=N:=hr1;have hal:=fzl a;have hql:=fzl q;rcases hr0.inv with ⟨hk,hqf,har,hlt⟩ | ⟨j,hk,hba,hal2,hab,hpb,hpd,hkq,hrj⟩
 ·subst hqf; subst har;exact en tt [.f (decide_eq_false (by dsimp only; omega)),.c [] cc] rfl rfl trivial
 subst hk;obtain ⟨K,hK⟩:=nmE (a.length-b.length);rw [<-hK] at hrj hkq;have hla:Ul (Uq a)<=9000000:=Um hab _;have hlb:Ul (Uq b)<=9000000:=Um hbb _;obtain ⟨c,hc⟩:=nmE (Uq a / Uq b);have cq:=Q97 hla hlb hpb hpd;have hcs:Ul (Uq a / Uq b)<=9000000:=Qa (Ix _ _) hla;rw [<-hc] at cq hcs hrj;have hsl:=Uz b c;have hqs:∀ x,(q.set K x).length=N:=λx=>by rw [X9]; exact hr1
 dsimp only;refine go tt [.t (decide_eq_true (by omega)),.r 39 (eI (b:=(K:Int)) (by omega)),.r 43 (eI (b:=((a.length-1:Nat):Int)) (by omega)),.x (Hy (p:=a) (i:=a.length-1) (by omega)),.r 49 (eI (b:=((b.length-1:Nat):Int)) (by omega)),.x (Hy (p:=b) (i:=b.length-1) (by omega)),.c [] cq,.i K,.i K,.i K,.r 60 (eI (b:=(K:Int)) (by simp))] rfl (by simp [Ua,hql] <;> omega) ?_;rw [Q0i];refine lp (S:=Nat) 3 (λL1 i=>(61,.v (.one (.int .i64 (i:Int))))::L1) (λi=>[.row false 35 4 (frow (zp (q.set K c))),.blk 35 (fr (c:Rat)),.row false 35 4 (List.replicate i (fr 0)++List.replicate (K-i) zR)]) (λi=>K-i) (λi=>i<=K) 0 (Qi _) rfl (λ_ _=>rfl) rfl λi hi=>?_
 by_cases hlt:i<K
 ·refine go tt [.t (decide_eq_true (by omega)),.c [] Q3c,.i i] rfl (by simp [Ua]; omega) ?_;rw [Qnb hlt];exact rd (i+1) (by omega) hlt rfl
 have hiK:i=K:=by omega
 rw [hiK,Qjf];clear hiK hlt hi;have hzl:=fzl (List.replicate K 0);rw [X8] at hzl;have hpl:=fzl (Uu b c);refine go tt [.f (decide_eq_false (by omega))] rfl trivial ?_;refine sb [(10,.v (.one (.orow 2 4 none))),(9,.v (.one (.ow 1 0))),(0,.v (.one (rp (zp a)))),(1,.v (.one (rp (zp b)))),(6,.v (.one (.orow 0 4 none)))] [.row false 35 4 (frow (zp (q.set K c))),.blk 35 (fr (c:Rat)),.row false 35 4 (frow (zp (List.replicate K 0)))] rfl rfl ?_;have p2:=Zal (p:=a) (q:=Rv K (Uu b c)) (W9 hab (by decide)) (W9 (Qzj (U9 hbb hcs)) (by decide)) (by omega) (by rw [Qi5]; omega);rw [<-Zde] at p2;refine go tt [.c [] (Qzv (c:=c) (W9 hbb (by decide)) (by omega) (by omega)),.s (sz:=4) (Qdz (zp (Uu b c))),.c [2] p2] rfl (by simp [Ua,hzl,hpl]; omega) ?_;exact rd (j,Tj a (Rv K (Uu b c)),q.set K c) (by dsimp only; omega) ⟨hrj,hqs c⟩ rfl
def zls (l:List (List Int)):List (List LV):=l.map λp=>[rp (zp p)]
theorem Ay (l:List (List Int)):(zls l).length=l.length:=by simp [zls]
theorem Qde (l:List (List Int)) (g:List Int):zls l++[[rp (zp g)]]=zls (l++[g]):=by simp [zls]
theorem Ax {l:List (List Int)} {i:Nat} (h:i<l.length):(zls l)[i]? = some [rp (zp (l.getD i []))]:=Gx (Qt7 h)
theorem Zcc (x:LV):∀ c∈[[x]],c.length=1:=λc hc=>by rw [Qp.1 hc]; rfl
theorem Qhc {a b q:List Int} (h:DOk a b q):∃ r,Ub Tryz.prog 259 [.one (rp (zp a)),.one (rp (zp b))] [.one (rp (zp q)),.one (rp (zp r))]:=by
 obtain ⟨h1,h2,h3,h4,qf,r,n,h5,h6,h7,rfl⟩:=h;exact ⟨r,Qzw h1 h2 h3 h4 h5 h7⟩
theorem Qto {a:List Int} {mf:Nat} {f:Nat->List Int} (ta:Uf a) (ha:Bd 9000000 a) (la:a.length<=1000) (h2:2<=a.length) (hF:FRun a mf f):Ub Tryz.prog 202 [.one (rp (zp a))] [.one (.row (zls (Qjb f mf)))]:=by
 obtain ⟨⟨n,ls,hrun,hlen,hq⟩,hms⟩:=hF;have hal:=fzl a;refine Gl Tryz.func202 rfl ?_;refine go tt [.f (decide_eq_false (by omega)),.c [] (D3 ta ha la),.o 3 28 1,.lo] rfl trivial ?_;refine sb [(3,.v (.one (.orow 0 1 none))),(4,.v (.one (.orow 1 1 none)))] [.row false 28 1 [],.row false 28 1 (zls [Ge a])] rfl rfl ?_;refine lp (S:=Nat×List (List Int)) 2 (λL1 s=>(4,.v (.one (.orow 1 1 none)))::L1) (λs=>[.row false 28 1 [],.row false 28 1 (zls s.2)]) (λs=>s.1) (λs=>LRun s.1 s.2 ls/\0<s.2.length/\s.2.length<=1001) (n,[Ge a]) ⟨hrun,by show 0<1; decide,by show 1<=1001; decide⟩ rfl (λ_ _=>rfl) rfl λ⟨k,l⟩ ⟨hs1,hs2,hs3⟩=>?_
 have hs1:LRun k l ls:=hs1;have hs2:0<l.length:=hs2;have hs3:l.length<=1001:=hs3;have hll:=Ay l;have hlast:(zls l)[l.length-1]? = some [rp (zp (Sa l))]:=Ax (by omega);have hpl:=fzl (Sa l);dsimp only;rcases hs1.inv with ⟨hk,hlf,hl1⟩ | ⟨j,m2,g,hk,hg1,hg2,hg3,hg4,hg5,hg6,hg7,hlr⟩
 ·have hlm:l.length=mf+1:=by rw [hlf]; exact hlen
  rw [<-hlf] at hq;have hl2:=Ay (l++[[1]]);have hl3:(l++[[1]]).length=mf+2:=by simp [hlm]
  refine go tt [.r 23 (eI (b:=((l.length-1:Nat):Int)) (by omega)),.i (l.length-1),.x hlast,.f (decide_eq_false (by omega)),.c [] Q3p,.s (sz:=1) (Zcc _)] rfl (by simp [Ua,hll]; omega) ?_;rw [Qde];refine lp (S:=Nat) 2 (λL1 i=>(6,.v (.one (.int .i64 (i:Int))))::(3,.v (.one (.orow 0 1 none)))::L1) (λi=>[.row false 28 1 (zls (Qjb f i)),.row false 28 1 (zls (l++[[1]]))]) (λi=>mf-i) (λi=>i<=mf) 0 (Qi _) rfl (λ_ _=>rfl) rfl λi hi=>?_
  have htl:=Ay (Qjb f i);rw [Qsf] at htl;by_cases h:i<mf
  ·obtain ⟨x,y,z,hx,hy,hz,hf⟩:=hq i h;obtain ⟨rx,hdx⟩:=Qhc hx;obtain ⟨ry,hdy⟩:=Qhc hy;obtain ⟨rz,hdz⟩:=Qhc hz;refine go tt [.t (decide_eq_true (by omega)),.i i,.x (Ax (by omega)),.i (i+1),.x (Ax (by omega)),.c [] hdx,.i (i+1),.x (Ax (by omega)),.i (i+2),.x (Ax (by omega)),.c [] hdy,.c [] (D3 hx.trim hx.bd hx.len),.c [] (D3 hy.trim hy.bd hy.len),.c [] hdz,.c [] (D3 hz.trim hz.bd hz.len),.s (sz:=1) (Zcc _)] rfl (by simp [Ua,hl2,htl]; omega) ?_;exact rd (i+1) (by omega) h (by rw [Qde,Q1j,hf]; rfl)
  ·have e:i=mf:=by omega
   rw [e];exact en tt [.f (decide_eq_false (by omega))] rfl rfl (by simp [Ua]; omega)
 ·subst hk;refine go tt [.r 23 (eI (b:=((l.length-1:Nat):Int)) (by omega)),.i (l.length-1),.x hlast,.t (decide_eq_true (by omega)),.r 31 (eI (b:=((l.length-1:Nat):Int)) (by omega)),.i (l.length-1),.x hlast,.c [] (Qtn (W9 hg4 (by decide)) (by omega)),.c [] (Zf0 hg3 (Us _ _) hg4 hg5 hg2 (Qa (Ry _) (by omega)) hg6),.s (sz:=1) (Zcc _)] rfl (by simp [Ua,hll]; omega) ?_;exact rd (j,l++[g]) (by dsimp only; omega) ⟨hlr,by simp,by simp; omega⟩ (by rw [Qde]; rfl)
theorem Qzx {a:List Int} {mf:Nat} {f:Nat->List Int} (ta:Uf a) (ha:Bd 9000000 a) (la:a.length<=1000) (h2:2<=a.length) (hF:FRun a mf f) (hP:Zii mf f):Ub Tryz.prog 135 [.one (rp (zp a))] [.one (rp (zp (Ej f mf)))]:=by
 have hms:=hF.small;have hal:=fzl a;have htl:=Ay (Qjb f mf);rw [Qsf] at htl;refine Gl Tryz.func135 rfl ?_;refine go tt [.f (decide_eq_false (by omega)),.c [] Q3p,.c [] (Qto ta ha la h2 hF)] rfl trivial ?_;refine lp (S:=Nat) 0 (λL1 i=>(15,.v (.one (.int .i64 (i:Int))))::(3,.v (.one (rp (zp (Ej f i)))))::L1) (λ_=>[]) (λi=>mf-i) (λi=>i<=mf) 0 (Qi _) rfl (λ_ _=>rfl) rfl λi hi=>?_
 by_cases h:i<mf
 ·obtain ⟨g1,g2,g3,g4⟩:=hP i h;refine go tt [.t (decide_eq_true (by omega)),.x (Gx (f:=λp=>[rp (zp p)]) (Q8n h)),.c [] (Q3o (p:=Ej f i) (q:=f i) (by omega) (by omega) g1 g3 (by decide))] rfl (by simp [Ua]; omega) ?_;exact rd (i+1) (by omega) h rfl
 ·have e:i=mf:=by omega
  rw [e];exact en tt [.f (decide_eq_false (by omega))] rfl rfl trivial
theorem Q0o {l:List (List Int)} (g:List Int) (h:0<l.length):(zls l++[[rp (zp g)]])[l.length-1]? = some [rp (zp (Sa l))]:=by
 rw [Zi (by rw [Ay]; omega)];exact Ax (by omega)
theorem Qpn {a sq:List Int} {c:List (List Int)} (ta:Uf a) (ha:Bd 9000000 a) (la:a.length<=1000) (h2:2<=a.length) (hC:ChRun a sq c):Ub Tryz.prog 69 [.one (rp (zp a))] [.one (.row (zls c))]:=by
 obtain ⟨⟨mf,f,hF,hP,rfl⟩,⟨n,hcr⟩,hbd,hle,hsm⟩:=hC;refine Gl Tryz.func69 rfl ?_;refine go tt [.c [] (Qzx ta ha la h2 hF hP),.lo,.c [] (Qtn (p:=Ej f mf) (W9 hbd (by decide)) (by omega)),.c [] (Qpp (p:=U3 (Ej f mf)) (Us _ _) (W9 (Qf5 (t:=10) hbd (by omega)) (by decide)) (Qa (Ry _) (by omega)))] rfl trivial ?_;refine sb [(5,.v (.one (rp (zp (Hd (U3 (Ej f mf))))))),(4,.v (.one (.orow 0 1 none)))] [.row false 28 1 (zls [Ej f mf])] rfl rfl ?_;refine lp (S:=Nat×List (List Int)×List Int) 1 (λL1 s=>(5,.v (.one (rp (zp s.2.2))))::(4,.v (.one (.orow 0 1 none)))::L1) (λs=>[.row false 28 1 (zls s.2.1)]) (λs=>s.1) (λs=>CRun s.1 s.2.1 s.2.2 c/\0<s.2.1.length/\s.2.1.length<=1001) (n,[Ej f mf],Hd (U3 (Ej f mf))) ⟨hcr,by show 0<1; decide,by show 1<=1001; decide⟩ rfl (λ_ _=>rfl) rfl λ⟨k,l,g⟩ ⟨hs1,hs2,hs3⟩=>?_
 have hs1:CRun k l g c:=hs1;have hs2:0<l.length:=hs2;have hs3:l.length<=1001:=hs3;have hll:=Ay l;have hgl:=fzl g;dsimp only;rcases hs1.inv with ⟨hk,hlf,hg0⟩ | ⟨j,m2,r,hk,hg1,hg2,hg3,hrr,hrt,hrb,hrl,hl0,hl1,hcj⟩
 ·subst hlf;exact en tt [.f (decide_eq_false (by omega))] rfl rfl trivial
 ·subst hk;refine go tt [.t (decide_eq_true (by omega)),.s (sz:=1) (Zcc _),.r 23 (eI (b:=((l.length-1:Nat):Int)) (by simp; omega)),.i (l.length-1),.x (Q0o g hl0),.c [] (Qwv (a0:=Sa l) (b:=g) (res:=r) hg1 hg2 hg3 hrr),.c [] (Qpp (p:=r) hrt hrb hrl),.c [] (Q3l (p:=Hd r) (Qj3 hrb) (Qa (Aj r) (by omega)))] rfl (by simp [Ua,hll]; omega) ?_;exact rd (j,l++[g],Sv (Hd r)) (by dsimp only; omega) ⟨hcj,by simp,by simp; omega⟩ (by rw [Qde]; rfl)
theorem Q19 {q:Rat} (h1:Ul q.num<=1000000) (h2:Ul (q.den:Int)<=1000000):Bd 9000000 [-q.num,(q.den:Int)]:=λz hz=>by
 simp only [Qq,Wq,or_false] at hz;rcases hz with rfl | rfl
 ·rw [Fy]; omega
 ·omega
abbrev aq (q:Rat) (c:List (List Int)):List LV:=[rp (zp [-q.num,(q.den:Int)]),.row (zls c)]++fr q++fr q
theorem Qpo {q:Rat} {c:List (List Int)} (hq:Qs 1000000 q) (hC:Qv4 q c):Ub Tryz.prog 10 [.agg (fr q)] [.agg (aq q c)]:=by
 obtain ⟨sq,hch⟩:=hC;have co:=Cc (n:=1) (by decide);exact w tt Tryz.func10 rfl [.c [] co,.c [] (Pn (n:=q.num)),.c [] (Q2r (z:=q.num)),.c [] co,.c [] (Pn (n:=(q.den:Int))),.c [] (Qpn (a:=[-q.num,(q.den:Int)]) (Qov q) (Q19 hq.1 hq.2) (by show 2<=1000; decide) (Qk 2) hch)] rfl rfl trivial
theorem Qhe {q:Rat} {c:List (List Int)} (hq:Qs 1000000 q):Ub Tryz.prog 89 [.agg (aq q c)] [.one (.bool true)]:=by
 have cr:=Cg (a:=q) (b:=q) (hq.mono (by decide)) (hq.mono (by decide));rw [Nt] at cr;exact w tt Tryz.func89 rfl [.c [] cr] rfl rfl trivial
theorem Q01 {p:List Int} (h:p.length=0) (q:Rat):U4 p q=0:=by rw [Qh h]; rfl
theorem Qwu {p:List Int} {q:Rat} {c:List (List Int)} (hp:Bd 30000000 p) (hl:p.length<=64) (hq:Qs 1000000 q):Ub Tryz.prog 90 [.one (rp (zp p)),.agg (aq q c)] [.one (.bool (decide (U4 p q=0)))]:=by
 have hpl:=fzl p;rcases Qx p.length with h0 | h0
 ·rw [decide_eq_true (Q01 h0 q)];exact w tt Tryz.func90 rfl [.t (decide_eq_true (by omega))] rfl rfl trivial
 ·exact w tt Tryz.func90 rfl [.f (decide_eq_false (by omega)),.c [] (Qhe hq),.t rfl,.c [] (Qbv hp hl hq)] rfl rfl trivial
theorem Qj7 {p:List Int} {q:Rat} {c:List (List Int)} (hp:Bd 30000000 p) (hl:p.length<=64) (hq:Qs 1000000 q):Ub Tryz.prog 70 [.one (rp (zp p)),.agg (aq q c)] [.one (.int .i64 (U4 p q))]:=by
 by_cases h0:U4 p q=0
 ·have cz:=Qwu (c:=c) hp hl hq;rw [h0] at cz ⊢;exact w tt Tryz.func70 rfl [.c [] cz,.t rfl] rfl rfl trivial
 ·exact w tt Tryz.func70 rfl [.c [] (Qwu hp hl hq),.f (decide_eq_false h0),.c [] (Qhe hq),.g 11 true rfl,.t rfl,.c [] (Qbv hp hl hq)] rfl rfl trivial
theorem If {p:List Int} {q:Rat} {c:List (List Int)} (hp:Bd 20000000 p) (hl:p.length<=64) (hq:Qs 1000000 q):Ub Tryz.prog 15 [.one (rp (zp p)),.agg (aq q c)] [.one (.int .i64 (Lk p q))]:=by
 refine Gl Tryz.func15 rfl ?_;refine go tt [] rfl trivial ?_;refine lp (S:=List Int) 1 (λL1 r=>(0,.v (.one (rp (zp r))))::L1) (λ_=>[.blk 37 (aq q c)]) (λr=>r.length) (λr=>r.length<=64/\Bd (25000000-30*r.length) r/\Ti (λp=>U4 p q) r.length r=Lk p q) p ⟨hl,W9 hp (by omega),rfl⟩ rfl (λ_ _=>rfl) rfl λr ⟨hr0,hr1,hr2⟩=>?_
 have hrl:=fzl r;rcases Qx r.length with h0 | h0
 ·rw [Qfa _ h0] at hr2;exact en tt [.f (decide_eq_false (by omega))] rfl (by rw [<-hr2]) trivial
 by_cases hs:U4 r q=0
 ·have hd:=Ry r;refine go tt [.t (decide_eq_true (by omega)),.c [] (Qj7 (p:=r) (c:=c) (W9 hr1 (by omega)) hr0 hq),.f (decide_eq_false (λh=>h hs)),.c [] (Qtn (p:=r) (W9 hr1 (by omega)) (by omega))] rfl trivial ?_;exact rd (U3 r) (by omega) ⟨by omega,W9 (Qf5 (t:=6) hr1 (by omega)) (by omega),by rw [<-hr2,Qe9 _ h0 hs]⟩ rfl
 ·exact en tt [.t (decide_eq_true (by omega)),.c [] (Qj7 (p:=r) (c:=c) (W9 hr1 (by omega)) hr0 hq),.t (decide_eq_true hs)] rfl (by rw [<-hr2,Qe8 _ h0 hs]) trivial
end Orr
namespace Orr
def rxs (p:List Int) (d:Int):List Rat:=p.map λ(z:Int)=>(z:Rat) / (d:Rat)
theorem Ld (p:List Int) (d:Int):(rxs p d).length=p.length:=Ze _
theorem Zc4 {p:List Int} {i:Nat} {z:Int} {d:Int} (h:p[i]? = some z):(rxs p d)[i]? = some ((z:Rat) / (d:Rat)):=by simp [rxs,h]
theorem Q7w (p:List Int) (d:Int) (i:Nat):(rxs p d).getD i 0=((p.getD i 0:Int):Rat) / (d:Rat):=by
 simp only [Qg,rxs,Q7];cases p[i]? with
 | none=>simp; grind
 | some z=>rfl
theorem E5 (z d:Int):(z:Rat) / (d:Rat)=Rat.divInt z d:=by
 by_cases h:d=0
 ·subst h; simp; grind
 ·rw [Js];have e1:(z:Rat)=Rat.divInt z 1:=by have:=Zp (z:Rat); simpa using this.symm
  have e2:(d:Rat)⁻¹=Rat.divInt 1 d:=by
   have:(d:Rat)=Rat.divInt d 1:=by have:=Zp (d:Rat); simpa using this.symm
   rw [this,Rat.inv_divInt]
  rw [e1,e2,Km];simp
theorem Za5 {z d:Int} (hd:0<d):(((z:Rat) / (d:Rat)).den:Int)*(Int.gcd z d:Nat)=d:=by
 rw [E5];have h:=(Qns (n:=z) hd).2;rw [<-h,Mq,Int.gcd_comm];exact Kx (Y9 ..)
theorem Q5v {d a b L:Nat} (hd:0<d) (ha:L*a=d) {D:Nat} (hb:D*b=d):L*D / Nat.gcd L D*Nat.gcd a b=d:=by
 have hL:0<L:=Wc λe=>by rw [e] at ha; omega
 have hD:0<D:=Wc λe=>by rw [e] at hb; omega
 have hg:0<Nat.gcd L D:=Nat.gcd_pos_of_pos_left _ hL;show Nat.lcm L D*Nat.gcd a b=d;rw [<-Nat.gcd_mul_left];refine Nat.dvd_antisymm ?_ ?_
 ·-- gcd (M a) (M b) | d
  obtain ⟨u,hu⟩:=Kg L D;obtain ⟨v,hv⟩:=Wm L D;have hM:Nat.lcm L D=Nat.gcd L D*(u*v):=by
   unfold Nat.lcm
   conv=>lhs; rw [show L*D=Nat.gcd L D*u*(Nat.gcd L D*v) by rw [<-hu,<-hv]]
   rw [show Nat.gcd L D*u*(Nat.gcd L D*v)=Nat.gcd L D*(Nat.gcd L D*(u*v)) by rw [Xm,Kc u,]];exact Nat.mul_div_cancel_left _ hg
  have h1:Nat.lcm L D*a=v*d:=by
   rw [hM,<-ha]
   conv=>rhs; rw [hu]
   simp [Zd,Kc,Xm]
  have h2:Nat.lcm L D*b=u*d:=by
   rw [hM,<-hb]
   conv=>rhs; rw [hv]
   simp [Zd,Kc,Xm]
  have huv:Nat.gcd u v=1:=by
   have:=Nat.gcd_mul_left (Nat.gcd L D) u v;rw [<-hu,<-hv] at this;exact Nat.eq_of_mul_eq_mul_left hg (by omega)
  rw [h1,h2,Nat.gcd_mul_right,Kv,huv,K8];exact Nat.dvd_refl d
 ·refine Nat.dvd_gcd ?_ ?_
  ·rw [<-ha]; exact Nat.mul_dvd_mul_right (Nat.dvd_lcm_left L D) a
  ·rw [<-hb]; exact Nat.mul_dvd_mul_right (Nat.dvd_lcm_right L D) b
def lcd (z:List Int) (d:Int):Nat->Int
 | 0=>1
 | i+1=>lcd z d i*((((z.getD i 0:Int):Rat) / (d:Rat)).den:Int) / (Int.gcd (lcd z d i) ((((z.getD i 0:Int):Rat) / (d:Rat)).den:Int):Nat)
theorem Qud {z:List Int} {d:Int} (hd:0<d):∀ i,i<=z.length->lcd z d i*((Gm (d::z.take i):Nat):Int)=d
 |
  0,_=>by
  show 1*_=d;have:((Gm [d]:Nat):Int)=d:=by unfold Gm; simp; omega
  rw [Vj,this,Yk]
 |
  i+1,hi=>by
  have ih:=Qud (z:=z) hd i (by omega);have hz:z[i]? = some (z.getD i 0):=Qd4 (l:=z) (by omega);have hstep:Gm (d::z.take (i+1))=Nat.gcd (Gm (d::z.take i)) (z.getD i 0).natAbs:=by
   have:=Qd2 (l:=d::z) (i:=i+1) (z:=z.getD i 0) (by simpa using hz);simpa using this
  have hdn:=Za5 (z:=z.getD i 0) hd;simp only [lcd];generalize hL:lcd z d i=L at *;generalize hD:(((z.getD i 0:Int):Rat) / (d:Rat)).den=D at *;have hLp:0<L:=by
   rcases Jx L 0 with h | h | h
   ·have:=Int.mul_nonneg (Int.neg_nonneg_of_nonpos (Int.le_of_lt h)) (Int.natCast_nonneg (Gm (d::z.take i)));rw [Y6] at this; omega
   ·rw [h,J1] at ih; omega
   ·exact h
  obtain ⟨l,rfl⟩:=Yg (Int.le_of_lt hLp);obtain ⟨e,rfl⟩:=Yg (Int.le_of_lt hd);have h1:l*Gm (((e:Nat):Int)::z.take i)=e:=by exact_mod_cast ih
  have h2:D*Int.gcd (z.getD i 0) ((e:Nat):Int)=e:=by exact_mod_cast hdn
  have h3:=Q5v (d:=e) (by omega) h1 h2;have h4:Nat.gcd (Gm (((e:Nat):Int)::z.take i)) (Int.gcd (z.getD i 0) ((e:Nat):Int))=Nat.gcd (Gm (((e:Nat):Int)::z.take i)) (z.getD i 0).natAbs:=by
   have hge:Gm (((e:Nat):Int)::z.take i)∣e:=⟨l,by rw [Zd]; exact h1.symm⟩;show Nat.gcd _ (Nat.gcd (z.getD i 0).natAbs e)=_;rw [Kv (z.getD i 0).natAbs e,<-Nat.gcd_assoc,Nat.gcd_eq_left hge]
  rw [hstep,<-h4];rw [show Int.gcd ((l:Nat):Int) ((D:Nat):Int)=Nat.gcd l D by simp [Int.gcd]]
  exact_mod_cast h3
theorem Zbq {x y:List Int} {d:Int} (hd:0<d) (hg:Gm (d::(x++y))=1):lcd (x++y) d (x++y).length=d:=by
 have:=Qud (z:=x++y) hd (x++y).length (Qk _);rw [Q4,hg] at this;simpa using this
theorem Zbs {z:List Int} {d:Int} (hd:0<d) {i:Nat} (hi:i<=z.length):Ul (lcd z d i)<=Ul d:=by
 have h:=Qud (z:=z) hd i hi;refine Hn ?_;have h0:Gm (d::z.take i)≠0:=λe=>by rw [e] at h; simp at h; omega
 have:d.natAbs=(lcd z d i).natAbs*Gm (d::z.take i):=by
  conv=>lhs; rw [<-h]
  rw [Jt]; simp
 rw [this];exact Jl _ (Wc h0)
end Orr
namespace Orr
open Go Go.Proofs
set_option maxRecDepth 10000
abbrev cl4 (k:Crv):List LV:=[pl k.x,pl k.y,sg k.d,mg k.d]
abbrev rcl (c:Crv):List LV:=[rp (rxs c.x c.d),rp (rxs c.y c.d)]++cl4 c
def rpt (p:Pt):List LV:=rcl p.c++[.int .i64 p.id]
def U8 (l:List Pt):List (List LV):=l.map rpt
structure Rs (k:Crv):Prop where
 n:Nml k
 c:Cs 100000 16 k
theorem Rs.d0 {k:Crv} (h:Rs k):0<k.d:=h.n.2.2.1
theorem Qvc {x:List Int} {d:Int} {s:Nat} (hx:Bd s x) (hd:Ul d<=s) (h1:1<=s):Rb s (rxs x d):=λq hq=>by
 obtain ⟨z,hz,rfl⟩:=Zr.1 hq;rw [E5];exact Qs.divInt (hx z hz) hd h1
theorem Qi2 {x:List Int} {d:Int} (tx:Uf x) (hd:d≠0):Pk (rxs x d) (d:Rat)=zp x:=by
 have hd':(d:Rat)≠0:=λe=>hd (by exact_mod_cast e)
 unfold Pk;rw [Qgv (g:=λi=>x.getD i 0) _ λi _=>?_,Ld,Qik,Nc,tx];rw [Q7w]; grind
theorem Qpq {p:List Rat} {c:Int} (hp:Rb 40000000 p) (hc:Ul c<=40000000) (hl:p.length<=1000000):Ub Tryz.prog 290 [.one (rp p),.agg (ri c)] [.one (rp (Pk p (c:Rat)))] :=
 w tt Tryz.func290 rfl [.c [] (Cc (n:=1) (by decide)),.c [] (Pn (n:=c)),.c [] (Lx (p:=p) (c:=(c:Rat)) hp (B8 hc (by omega)) hl)] rfl rfl trivial
theorem Zc3 (x y:List Int) (d:Int):frow (rxs x d)++frow (rxs y d)=frow (rxs (x++y) d):=by simp [rxs,frow]
theorem Qc0 {z:List Int} {d:Int} {i:Nat} (h:i<z.length):(rxs z d)[i]? = some (((z.getD i 0:Int):Rat) / (d:Rat)):=Zc4 (Qd4 h)
theorem Qjp (a b:Int) (hb:b≠0) {s:Nat} (h:Ul b<=s):Ul ((Int.gcd a b:Nat):Int)<=s:=by
 refine Qa (Hn ?_) h;simp only [Zx];exact Vs (by omega) (by simpa using Xj.2 (Y9 a b))
theorem Zbr (a b:Int):(a*b) % ((Int.gcd a b:Nat):Int)=0:=Ju (Vq (Wo ..) (V9 a b))
theorem Qj8 {k:Crv} (hs:Rs k):Ub Tryz.prog 253 [.one (rp (rxs k.x k.d)),.one (rp (rxs k.y k.d))] [.agg (rcl k)]:=by
 have hlx:=hs.c.lx;have hly:=hs.c.ly;have hds:=hs.c.d;have hxy:Bd 100000 (k.x++k.y):=λz hz=>by rcases Qz.1 hz with h | h; exact hs.c.x z h; exact hs.c.y z h
 have hfx:(frow (rxs k.x k.d)).length=k.x.length:=by rw [Rl,Ld]
 have hfy:(frow (rxs k.y k.d)).length=k.y.length:=by rw [Rl,Ld]
 have hfl:(frow (rxs (k.x++k.y) k.d)).length=k.x.length+k.y.length:=by rw [Rl,Ld,Zb]
 have hd0:=hs.d0;refine Gl Tryz.func253 rfl ?_;refine go tt [.c [] (Cc (n:=1) (by decide)),.s (sz:=4) (Qdz _),.s (sz:=4) (Qdz _)] rfl (by simp [Ua,hfx,hfy]; omega) ?_;rw [Zc3];refine lp (S:=Nat) 3 (λL1 i=>(15,.v (.one (.int .i64 (i:Int))))::L1) (λi=>[.blk 55 [.nils,.nils,.nils,.nils,.bool false,.nils],.blk 33 (ri (lcd (k.x++k.y) k.d i)),.row false 35 4 (frow (rxs (k.x++k.y) k.d))]) (λi=>k.x.length+k.y.length-i) (λi=>i<=k.x.length+k.y.length) 0 (Qi _) rfl (λ_ _=>rfl) rfl λi hi=>?_
 have hll:(k.x++k.y).length=k.x.length+k.y.length:=Zb;by_cases h:i<k.x.length+k.y.length
 ·have hlt:i<(k.x++k.y).length:=by omega
  have hqe:=Qvc (x:=(k.x++k.y)) (d:=k.d) (s:=100000) hxy hs.c.d (by decide);have hqi:=hqe.get (Qc0 hlt);obtain ⟨D,hD⟩:=nmE (((((k.x++k.y).getD i 0:Int):Rat) / (k.d:Rat)));have hg:=De (Qc0 (d:=k.d) hlt);have es:lcd (k.x++k.y) k.d (i+1)=lcd (k.x++k.y) k.d i*(D.den:Int) / ((Int.gcd (lcd (k.x++k.y) k.d i) (D.den:Int):Nat):Int):=by rw [hD]; rfl
  rw [<-hD] at hqi hg;have hq2:=hqi.2;have hli:=Qa (Zbs (z:=(k.x++k.y)) hs.d0 (i:=i) (by omega)) hs.c.d;have hg0:((Int.gcd (lcd (k.x++k.y) k.d i) (D.den:Int):Nat):Int)≠0:=by have:=Int.gcd_ne_zero_right (a:=(lcd (k.x++k.y) k.d i)) (P7 D); omega
  have hmu:=Uv (lcd (k.x++k.y) k.d i) (D.den:Int);refine go tt [.t (decide_eq_true (by omega)),.i i,.x hg,.c [] (So (a:=lcd (k.x++k.y) k.d i) (b:=(D.den:Int)) (by omega) (by omega)),.i i,.x hg,.c [] (Qha (a:=lcd (k.x++k.y) k.d i) (b:=(D.den:Int)) (by omega) (by omega)),.c [] (Qdp (by omega) (Qa (Qjp _ _ (P7 D) hq2) (by decide)) hg0 (Zbr _ _))] rfl (by simp [Ua,hfl]; omega) ?_;exact rd (i+1) (by omega) h (by rw [es]; rfl)
 have e:lcd (k.x++k.y) k.d i=k.d:=by rw [show i=(k.x++k.y).length by omega]; exact Zbq hs.d0 hs.n.2.2.2
 rw [e];have hx:=Qpq (p:=rxs k.x k.d) (c:=k.d) ((Qvc (s:=100000) hs.c.x hs.c.d (by decide)).mono (by omega)) (by omega) (by rw [Ld]; omega);have hy:=Qpq (p:=rxs k.y k.d) (c:=k.d) ((Qvc (s:=100000) hs.c.y hs.c.d (by decide)).mono (by omega)) (by omega) (by rw [Ld]; omega);rw [Qi2 hs.n.1 (by omega)] at hx;rw [Qi2 hs.n.2.1 (by omega)] at hy;exact en tt [.f (decide_eq_false (by omega)),.c [] hx,.c [] (Zec (p:=k.x) (W9 hs.c.x (by omega)) (by omega)),.c [] hy,.c [] (Zec (p:=k.y) (W9 hs.c.y (by omega)) (by omega)),.c [] (Q25 (z:=k.d) (by omega))] rfl rfl trivial
theorem Qog (k:Crv):Fg 1 k.d'=((1:Int):Rat) / (k.d':Rat):=by
 unfold Fg; rw [if_neg k.d'_ne,E5]
theorem Qfn {x:List Int} {g d:Int} (hg:g≠0) (hd:d≠0) (hgd:g∣d) (tx:Uf x) (hx:∀ z∈x,g∣z):Pk (zp x) (((1:Int):Rat) / (d:Rat))=rxs (trim (x.map (· / g))) (d / g):=by
 have ht:Uf (x.map (· / g)):=Du tx hg hx;rw [show trim (x.map (· / g))=x.map (· / g) from ht];obtain ⟨e,rfl⟩:=hgd;have he:e≠0:=λh=>hd (by rw [h,Vg])
 rw [Xv _ hg];have hgq:(g:Rat)≠0:=λh=>hg (by exact_mod_cast h)
 have heq:(e:Rat)≠0:=λh=>he (by exact_mod_cast h)
 unfold Pk;rw [T0];have hval:∀ i,i<x.length->(zp x).getD i 0*(((1:Int):Rat) / ((g*e:Int):Rat))=(((x.map (· / g)).getD i 0:Int):Rat) / (e:Rat):=λi hi=>by
  rw [Qdf];have hz:=Qd4 hi;have hm:(x.map (· / g)).getD i 0=x.getD i 0 / g:=by simp [Qg,Qd hi]
  obtain ⟨w,hw⟩:=hx _ (Qc hz);rw [hm,hw,Xv _ hg,Xy,Xy];have:((1:Int):Rat)=1:=rfl;rw [this];grind
 have htab:A7 (λi=>(zp x).getD i 0*(((1:Int):Rat) / ((g*e:Int):Rat))) x.length=rxs (x.map (· / g)) e:=by
  apply Xp;intro i;by_cases hi:i<x.length
  ·rw [Qc0 (by simpa using hi)];simp only [A7,Q7,X1 hi,Y4];rw [hval i hi]
  ·rw [Qr (by rw [Qc4]; omega),Qr (by rw [Ld]; simp; omega)]
 rw [htab];rcases Qx x.length with h0 | h0
 ·have:=Qh h0; subst this; rfl
 ·have hl:(rxs (x.map (· / g)) e).length=x.length:=by rw [Ld,Ze]
  have:=Qes (l:=rxs (x.map (· / g)) e) (m:=x.length) (by omega) (λj y hj hy=>by rw [Qr (by omega)] at hy; cases hy) (λ_=>⟨_,Qc0 (z:=x.map (· / g)) (d:=e) (i:=x.length-1) (by rw [Ze]; omega),λh=>by
   have h3:(((x.map (· / g)).getD (x.length-1) 0:Int):Rat)=0:=by grind
   have h4:(x.map (· / g)).getD (x.length-1) 0=0:=by exact_mod_cast h3
   have:=Gh ht (by rw [Ze]; omega);rw [Ze] at this;exact this h4⟩)
  rw [this,Qo (by omega)]
theorem Q7b {k:Crv} (hk:Cs 100000 16 k):Qs 40000000 (Fg 1 k.d'):=by
 have h1:=Qnj hk.d (by decide);rw [Qog,E5];exact Qs.divInt (by decide) (by omega) (by decide)
theorem Crv.g_dvd' (k:Crv) {z:Int} (h:z∈k.d'::(trim k.x++trim k.y)):k.g∣z:=Yf (k.g_dvd z h)
theorem Q7o (k:Crv):Pk (zp (trim k.x)) (Fg 1 k.d')=rxs k.norm.x k.norm.d:=by
 rw [Qog];exact Qfn k.g_ne k.d'_ne (k.g_dvd' (by simp)) (Gu _) (λz hz=>k.g_dvd' (by simp [hz]))
theorem Q7p (k:Crv):Pk (zp (trim k.y)) (Fg 1 k.d')=rxs k.norm.y k.norm.d:=by
 rw [Qog];exact Qfn k.g_ne k.d'_ne (k.g_dvd' (by simp)) (Gu _) (λz hz=>k.g_dvd' (by simp [hz]))
theorem Qy2 {k:Crv} (h:Cs 100000 16 k):Rs k.norm:=⟨k.nml,h.norm (by decide)⟩
theorem Zan {k:Crv} (hk:Cs 100000 16 k):Ub Tryz.prog 199 [.agg (cl4 k)] [.agg (rcl (Crv.norm k))]:=by
 have hlx:=hk.lx;have hly:=hk.ly;have hkd:=hk.d;have hrq:=Q7b hk;have hdi:Ul k.d'<=100000:=Qnj hk.d (by decide);have hx:=Lx (p:=zp (trim k.x)) (c:=Fg 1 k.d') (Qas (W9 (H9 hk.x) (by omega)) (by omega)) hrq (by rw [T0]; have:=G0 k.x; omega);have hy:=Lx (p:=zp (trim k.y)) (c:=Fg 1 k.d') (Qas (W9 (H9 hk.y) (by omega)) (by omega)) hrq (by rw [T0]; have:=G0 k.y; omega);rw [Q7o] at hx;rw [Q7p] at hy;have c1:=Cc (n:=1) (by decide);have cm:=Oo (a:=1) (b:=k.d') (by decide) (by omega);by_cases h0:k.d=0
 ·have e:k.d'=1:=by unfold Crv.d'; rw [if_pos h0]
  rw [e] at hx hy cm;exact w tt Tryz.func199 rfl [.c [] (Qdn (z:=k.d) (by omega)),.c [] Py,.t (decide_eq_true h0),.c [] c1,.c [] c1,.c [] cm,.c [] (D2 (p:=k.x) (W9 hk.x (by omega)) (by omega)),.c [] hx,.c [] (D2 (p:=k.y) (W9 hk.y (by omega)) (by omega)),.c [] hy,.c [] (Qj8 (Qy2 hk))] rfl rfl trivial
 ·have e:k.d'=k.d:=by unfold Crv.d'; rw [if_neg h0]
  rw [e] at hx hy cm;exact w tt Tryz.func199 rfl [.c [] (Qdn (z:=k.d) (by omega)),.c [] Py,.f (decide_eq_false h0),.c [] c1,.c [] cm,.c [] (D2 (p:=k.x) (W9 hk.x (by omega)) (by omega)),.c [] hx,.c [] (D2 (p:=k.y) (W9 hk.y (by omega)) (by omega)),.c [] hy,.c [] (Qj8 (Qy2 hk))] rfl rfl trivial
theorem Q3t {k:Crv} {id:Int} (hk:Cs 100000 16 k):Ub Tryz.prog 126 [.agg (cl4 k++[.int .i64 id])] [.agg (rpt ⟨Crv.norm k,id⟩)] :=
 w tt Tryz.func126 rfl [.c [] (Zan hk)] rfl rfl trivial
theorem Qmw {k:Crv} (hk:Rs k):Ub Tryz.prog 72 [.agg (rcl k)] [.one (rp (zp k.x)),.one (rp (zp k.y)),.one (rp (zp [k.d]))]:=by
 have hlx:=hk.c.lx;have hly:=hk.c.ly;have hkd:=hk.c.d;have hx:=D2 (p:=k.x) (W9 hk.c.x (by omega)) (by omega);have hy:=D2 (p:=k.y) (W9 hk.c.y (by omega)) (by omega);rw [show trim k.x=k.x from hk.n.1] at hx;rw [show trim k.y=k.y from hk.n.2.1] at hy;exact w tt Tryz.func72 rfl [.c [] (Qdn (z:=k.d) (by omega)),.c [] (Cc (n:=1) (by decide)),.c [] (Pn (n:=k.d)),.c [] hx,.c [] hy] rfl rfl trivial
theorem Quv {p:List Int} {d:Int} (tp:Uf p) (hd:d≠0):Fu p [d]=Uu p d:=by
 refine Ir (Gb _ _) (Us _ _) λm=>?_
 unfold Uu;rw [H4];unfold Fu;by_cases h0:p.length=0
 ·rw [if_pos (.inl h0),if_neg (by omega)]; rfl
 ·rw [if_neg (by simp; exact λh=>h0 (by rw [h]; rfl)),C4];show (Mw p [d] (List.replicate (p.length+1-1) 0) p.length).getD m 0=_;have key:∀ i,i<=p.length->(Mw p [d] (List.replicate (p.length+1-1) 0) i).getD m 0=if m<i then p.getD m 0*d else 0:=by
   intro i
   induction i with
   | zero=>intro _; simp only [Mw]; rw [Hi,if_neg (by omega)]
   |
    succ i ih =>
    intro hi;simp only [Mw];rw [Qeg _ _ _ _ _ _ (by rw [Mx,X8]; show i+1<=_; omega),ih (by omega)];show (if i<=m/\m<i+1 then (if m<i then p.getD m 0*d else 0)+p.getD i 0*[d].getD (m-i) 0 else _)=_;by_cases e:m=i
    ·subst e;rw [if_pos ⟨Qk _,by omega⟩,if_neg (by omega),if_pos (by omega),Yb];show 0+p.getD m 0*d=_;omega
    ·rw [if_neg (by omega)];by_cases h1:m<i
     ·rw [if_pos h1,if_pos (by omega)]
     ·rw [if_neg h1,if_neg (by omega)]
  rw [key _ (Qk _)]
theorem Zl6 {s:Nat} {d:Int} (h:Ul d<=s):Bd s [d]:=λz hz=>by simp at hz; subst hz; exact h
theorem Qmt {p:List Int} {d:Int} (tp:Uf p) (hd:d≠0) (hp:Bd 9000000 p) (hs:Ul d<=9000000) (hl:p.length<=1000):Ub Tryz.prog 141 [.one (rp (zp p)),.one (rp (zp [d]))] [.one (rp (zp (Uu p d)))]:=by
 have h:=Q3o (p:=p) (q:=[d]) (by omega) (by show 1<=1000000; decide) hp (Zl6 hs) (by decide);rwa [Quv tp hd] at h
theorem Rs.dn {k:Crv} (h:Rs k):k.d≠0:=by have:=h.d0; omega
theorem Qwt {p q:List Int} (hp:Bd 19000000 p) (hq:Bd 19000000 q) (hlp:p.length<=1000000) (hlq:q.length<=1000000):Ub Tryz.prog 144 [.one (rp (zp p)),.one (rp (zp q))] [.one (rp (zp (Tj p q)))]:=by
 have h:=Zf1 (Qas hp (by decide)) (Qas hq (by decide)) (by rw [T0]; exact hlp) (by rw [T0]; exact hlq);rwa [Qy3] at h
theorem Ih {a b:Crv} (ha:Rs a) (hb:Rs b):Ub Tryz.prog 74 [.agg (rcl a),.agg (rcl b)] [.one (rp (zp (Gz a b)))] :=
 w tt Tryz.func74 rfl [.c [] (Qmw ha),.c [] (Qmw hb),.c [] (Qmt (p:=b.x) (d:=a.d) hb.n.1 ha.dn (W9 hb.c.x (by decide)) (Qa ha.c.d (by decide)) (by have:=hb.c.lx; omega)),.c [] (Qmt (p:=a.x) (d:=b.d) ha.n.1 hb.dn (W9 ha.c.x (by decide)) (Qa hb.c.d (by decide)) (by have:=ha.c.lx; omega)),.c [] (Qwt (p:=Uu b.x a.d) (q:=Uu a.x b.d) (W9 (U9 hb.c.x ha.c.d) (by decide)) (W9 (U9 ha.c.x hb.c.d) (by decide)) (by have:=Uz b.x a.d; have:=hb.c.lx; omega) (by have:=Uz a.x b.d; have:=ha.c.lx; omega))] rfl rfl trivial
theorem Qhf {a b:Crv} (ha:Rs a) (hb:Rs b):Ub Tryz.prog 75 [.agg (rcl a),.agg (rcl b)] [.one (rp (zp (Hj a b)))] :=
 w tt Tryz.func75 rfl [.c [] (Qmw ha),.c [] (Qmw hb),.c [] (Qmt (p:=b.y) (d:=a.d) hb.n.2.1 ha.dn (W9 hb.c.y (by decide)) (Qa ha.c.d (by decide)) (by have:=hb.c.ly; omega)),.c [] (Qmt (p:=a.y) (d:=b.d) ha.n.2.1 hb.dn (W9 ha.c.y (by decide)) (Qa hb.c.d (by decide)) (by have:=ha.c.ly; omega)),.c [] (Qwt (p:=Uu b.y a.d) (q:=Uu a.y b.d) (W9 (U9 hb.c.y ha.c.d) (by decide)) (W9 (U9 ha.c.y hb.c.d) (by decide)) (by have:=Uz b.y a.d; have:=hb.c.ly; omega) (by have:=Uz a.y b.d; have:=ha.c.ly; omega))] rfl rfl trivial
theorem O6 {a b:Crv} (ha:Rs a) (hb:Rs b):Bd 200001 (Gz a b)/\(Gz a b).length<=16:=by
 refine ⟨W9 (Dw (U9 hb.c.x ha.c.d) (U9 ha.c.x hb.c.d)) (by omega),Qa (Ms _ _) ?_⟩;have:=Uz b.x a.d; have:=Uz a.x b.d; have:=ha.c.lx; have:=hb.c.lx; omega
theorem O5 {a b:Crv} (ha:Rs a) (hb:Rs b):Bd 200001 (Hj a b)/\(Hj a b).length<=16:=by
 refine ⟨W9 (Dw (U9 hb.c.y ha.c.d) (U9 ha.c.y hb.c.d)) (by omega),Qa (Ms _ _) ?_⟩;have:=Uz b.y a.d; have:=Uz a.y b.d; have:=ha.c.ly; have:=hb.c.ly; omega
end Orr
namespace Orr
open Go
structure RawInt where
 b:Bool
 l:List Nat
structure RawPt where
 x:List RawInt
 y:List RawInt
 d:RawInt
 id:Int
abbrev Qeo (z:RawInt):List LV:=[.bool z.b,Zh0 z.l]
structure RawInt.Ok (z:RawInt):Prop where
 u:∀ u∈z.l,u<4294967296
structure RawPt.Ok (z:RawPt):Prop where
 x:∀ a∈z.x,a.Ok
 y:∀ a∈z.y,a.Ok
 d:z.d.Ok
 id:-9223372036854775808<=z.id/\z.id<=9223372036854775807
def RawInt.cut (z:RawInt):RawInt:=⟨z.b,z.l.take 1⟩
def Hz (most:Int) (z:RawInt):Int:=match z.l with
 | []=>0
 | u::_=>if z.b=true then -((u:Int) % (most+1)) else (u:Int) % (most+1)
theorem Qa8 {most:Int} (h:0<=most) (z:RawInt):-most<=Hz most z/\Hz most z<=most:=by
 unfold Hz
 split
 ·omega
 ·rename_i u _ _;have h1:=Vy (u:Int) (b:=most+1) (by omega);have h2:=Yy (u:Int) (b:=most+1) (by omega)
  split <;> omega
def Gg (most:Int) (l:List RawInt):List Int:=(l.take 3).map (Hz most)
def Qcd (most:Int) (x y:List RawInt) (d:RawInt):Crv:=⟨Gg most x,Gg most y,Hz 3 d⟩
def Oz (most:Int) (z:RawPt):Pt:=⟨Qcd most z.x z.y z.d,z.id % 1000⟩
theorem Qff (most:Int) (l:List RawInt):(Gg most l).length<=3:=by unfold Gg; rw [List.length_map,List.length_take]; omega
theorem Qnq {most:Int} {l:List RawInt} {i:Nat} {z:RawInt} (hi:i<3) (h:l[i]? = some z):Gg most (l.take (i+1))=Gg most (l.take i)++[Hz most z]:=by
 unfold Gg;rw [K0,K0,Vp (by omega),Vp (by omega),Xa,h];simp
theorem Qfe (most:Int) {l:List RawInt} {i:Nat} (h:l.length<=i\/3<=i):Gg most (l.take i)=Gg most l:=by
 unfold Gg;rw [K0];rcases Nat.le_total 3 i with h3 | h3
 ·rw [Zq h3]
 ·rcases h with h | h
  ·rw [Vp h3,Qo (l:=l) (i:=i) (by omega),Qo (l:=l) (i:=3) (by omega)]
  ·rw [Vp h3,show i=3 by omega]
theorem Qfg {most:Int} {l:List RawInt} {z:Int} (hm:0<=most) (h:z∈Gg most l):-most<=z/\z<=most:=by
 obtain ⟨a,_,rfl⟩:=Zr.1 h;exact Qa8 hm a
theorem Qkd {most:Int} (hm:0<=most/\most<=999) (x y:List RawInt) (d:RawInt):Cs 10 3 (Qcd most x y d):=by
 have key:∀ z:Int,-999<=z/\z<=999->Ul z<=10:=λz h=>H7.2 (by omega)
 refine ⟨λz hz=>?_,λz hz=>?_,?_,Qff _ _,Qff _ _⟩
 ·have:=Qfg hm.1 hz; exact key _ (by omega)
 ·have:=Qfg hm.1 hz; exact key _ (by omega)
 ·have:=Qa8 (most:=3) (by decide) d;show Ul (Hz 3 d)<=10;exact key _ (by omega)
def Sj (n:Nat):List Pt->List Pt->List Pt
 | out,[]=>out
 | out,p::l=>if out.length<n then (if out.any (λx=>decide (x.id=p.id))=true then Sj n out l else Sj n (out++[p]) l) else out
theorem Ad {n:Nat}:∀ (l out:List Pt) (p:Pt),(Sj n out l).length<n->(Sj n out l).any (λx=>decide (x.id=p.id))=true->Sj n out (l++[p])=Sj n out l
 |
  [],out,p,h,ha=>by
  simp only [Sj] at h ha;show Sj n out [p]=out;simp only [Sj];rw [if_pos h,if_pos ha]
 |
  x::l,out,p,h,ha=>by
  show Sj n out (x::(l++[p]))=Sj n out (x::l);simp only [Sj] at h ha ⊢
  split
  ·rename_i h0;rw [if_pos h0] at h ha
   split
   ·rename_i h1;rw [if_pos h1] at h ha;exact Ad l out p h ha
   ·rename_i h1;rw [if_neg h1] at h ha;exact Ad l _ p h ha
  ·rfl
theorem Lj {n:Nat}:∀ (l out:List Pt) (p:Pt),(Sj n out l).length<n->(Sj n out l).any (λx=>decide (x.id=p.id))=false->Sj n out (l++[p])=Sj n out l++[p]
 |
  [],out,p,h,ha=>by
  simp only [Sj] at h ha;show Sj n out [p]=out++[p];simp only [Sj];rw [if_pos h,if_neg (by rw [ha]; simp)]
 |
  x::l,out,p,h,ha=>by
  show Sj n out (x::(l++[p]))=Sj n out (x::l)++[p];simp only [Sj] at h ha ⊢
  split
  ·rename_i h0;rw [if_pos h0] at h ha
   split
   ·rename_i h1;rw [if_pos h1] at h ha;exact Lj l out p h ha
   ·rename_i h1;rw [if_neg h1] at h ha;exact Lj l _ p h ha
  ·rename_i h0;rw [if_neg h0] at h;omega
theorem Qd1 {n:Nat}:∀ (l m out:List Pt),n<=(Sj n out l).length->Sj n out (l++m)=Sj n out l
 |
  [],m,out,h=>by
  simp only [Sj] at h;show Sj n out m=out
  match m with
  | []=>rfl
  | p::m=>simp only [Sj]; rw [if_neg (by omega)]
 |
  x::l,m,out,h=>by
  show Sj n out (x::(l++m))=Sj n out (x::l);simp only [Sj] at h ⊢
  split
  ·rename_i h0;rw [if_pos h0] at h
   split
   ·rename_i h1;rw [if_pos h1] at h;exact Qd1 l m out h
   ·rename_i h1;rw [if_neg h1] at h;exact Qd1 l m _ h
  ·rfl
theorem Is {n:Nat}:∀ (l out:List Pt),out.length<=n->(Sj n out l).length<=n
 | [],out,h=>h
 |
  x::l,out,h=>by
  simp only [Sj]
  split
  ·split
   ·exact Is l out h
   ·exact Is l _ (by rw [Zb]; show _+1<=_; omega)
  ·exact h
theorem Qb3 {n:Nat}:∀ (l out:List Pt) {p:Pt},p∈Sj n out l->p∈out\/p∈l
 | [],out,p,h=>.inl h
 |
  x::l,out,p,h=>by
  simp only [Sj] at h
  split at h
  ·split at h
   ·rcases Qb3 l out h with h | h
    ·exact .inl h
    ·exact .inr (Qj _ h)
   ·rcases Qb3 l _ h with h | h
    ·rcases Qz.1 h with h | h
     ·exact .inl h
     ·exact .inr (by rw [Qp.1 h]; exact Qt ..)
    ·exact .inr (Qj _ h)
  ·exact .inl h
def Qel (n:Nat) (most:Int) (zs:List RawPt):List Pt:=Sj n [] (zs.map (Oz most))
def Pt.nrm (p:Pt):Pt:=⟨p.c.norm,p.id⟩
end Orr
namespace Orr
def Ba (l:List Pt):Prop:=l.Pairwise λa b=>a.id<b.id
theorem Zbi (id:Int):has [] id=false:=rfl
theorem Qqj (p:Pt) (l:List Pt) (id:Int):has (p::l) id=if p.id<id then has l id else decide (p.id=id):=by
 by_cases h:p.id<id
 ·rw [if_pos h]; unfold has; simp only [pos]; rw [if_pos h]; simp
 ·rw [if_neg h]; unfold has; simp only [pos]; rw [if_neg h]; simp
theorem Q63 (p:Pt) (l:List Pt) (q:Pt):put (p::l) q=if p.id<q.id then p::put l q else q::p::l:=by
 unfold put;simp only [pos]
 split <;> simp
theorem Qnh:∀ {l:List Pt} {id:Int},Ba l->(has l id=true↔∃ p∈l,p.id=id)
 | [],id,_=>by simp [Zbi]
 |
  p::l,id,h=>by
  have h1:=Zu.1 h;rw [Qqj]
  split
  ·rename_i hlt;rw [Qnh h1.2];constructor
   ·rintro ⟨x,hx,e⟩; exact ⟨x,Qj _ hx,e⟩
   ·rintro ⟨x,hx,e⟩
    rcases Qq.1 hx with rfl | hx
    ·omega
    ·exact ⟨x,hx,e⟩
  ·rename_i hge;rw [decide_eq_true_iff];constructor
   ·intro e; exact ⟨p,Qt ..,e⟩
   ·rintro ⟨x,hx,e⟩
    rcases Qq.1 hx with rfl | hx
    ·exact e
    ·have:=h1.1 x hx; omega
theorem Qiz:∀ {l:List Pt} {q:Pt},Ba l->has l q.id=false->Ba (put l q)
 | [],q,_,_=>by simp [put,pos,Ba]
 |
  p::l,q,h,hn=>by
  have h1:=Zu.1 h;rw [Qqj] at hn;rw [Q63]
  split
  ·rename_i hlt;rw [if_pos hlt] at hn;refine Zu.2 ⟨λx hx=>?_,Qiz h1.2 hn⟩;rcases Qyu hx with rfl | hx
   ·exact hlt
   ·exact h1.1 x hx
  ·rename_i hge;rw [if_neg hge,decide_eq_false_iff_not] at hn;refine Zu.2 ⟨λx hx=>?_,h⟩;rcases Qq.1 hx with rfl | hx
   ·omega
   ·have:=h1.1 x hx; omega
theorem Qx8 {l:List Pt} {q p:Pt} (h:p=q\/p∈l):p∈put l q:=by
 unfold put;rcases h with rfl | h
 ·simp
 ·rw [<-Za (pos l q.id) l] at h;simp only [Qz,Qq] at h ⊢;rcases h with h | h
  ·exact .inl h
  ·exact .inr (.inr h)
theorem Q62 {l:List Pt} {q:Pt} (h:l.length<6):Ob l q=if has l q.id=true then 6 else 0:=by
 unfold Ob
 split
 ·rfl
 ·rw [if_neg (by omega)]
theorem Qlc:∀ (qs acc:List Pt),Ba acc->acc.length+qs.length<=6 ->
 ((Rz acc qs).2=0/\Ba (Rz acc qs).1/\(Rz acc qs).1.length=acc.length+qs.length/\qs.Pairwise (λa b=>a.id≠b.id)/\∀ q∈qs,∀ p∈acc,p.id≠q.id) \/
 ((Rz acc qs).2=6/\¬(qs.Pairwise (λa b=>a.id≠b.id)/\∀ q∈qs,∀ p∈acc,p.id≠q.id))
 | [],acc,hs,_=>.inl ⟨rfl,hs,rfl,List.Pairwise.nil,λ_ h=>absurd h (by simp)⟩
 |
  q::qs,acc,hs,hl=>by
  simp only [Q8] at hl;have he:=Q62 (l:=acc) (q:=q) (by omega);simp only [Rz];cases hh:has acc q.id with
  |
   true =>
   rw [hh,if_pos rfl] at he;rw [he,if_neg (by decide)];obtain ⟨p,hp,e⟩:=(Qnh hs).1 hh;exact .inr ⟨rfl,λh=>h.2 q (Qt ..) p hp e⟩
  |
   false =>
   rw [hh,if_neg (by decide)] at he;rw [he,if_pos rfl];have hno:∀ p∈acc,p.id≠q.id:=λp hp e=>by
    have:=(Qnh hs).2 ⟨p,hp,e⟩;rw [hh] at this; cases this
   have hpl:=Qyt acc q;rcases Qlc qs (put acc q) (Qiz hs hh) (by omega) with ⟨h1,h2,h3,h4,h5⟩ | ⟨h1,h2⟩
   ·refine .inl ⟨h1,h2,by simp only [Q8]; omega,Zu.2 ⟨λx hx=>h5 x hx q (Qx8 (.inl rfl)),h4⟩,λx hx p hp=>?_⟩;rcases Qq.1 hx with rfl | hx
    ·exact hno p hp
    ·exact h5 x hx p (Qx8 (.inr hp))
   ·refine .inr ⟨h1,λh=>h2 ⟨(Zu.1 h.1).2,λx hx p hp=>?_⟩⟩;rcases Qyu hp with rfl | hp
    ·exact (Zu.1 h.1).1 x hx
    ·exact h.2 x (Qj _ hx) p hp
theorem Q0v {qs:List Pt} (hl:qs.length<=6) :
 ((Rz [] qs).2=0/\Ba (Rz [] qs).1/\(Rz [] qs).1.length=qs.length/\qs.Pairwise (λa b=>a.id≠b.id))\/((Rz [] qs).2=6/\¬qs.Pairwise (λa b=>a.id≠b.id)):=by
 rcases Qlc qs [] List.Pairwise.nil (by simpa using hl) with ⟨h1,h2,h3,h4,_⟩ | ⟨h1,h2⟩
 ·exact .inl ⟨h1,h2,by simpa using h3,h4⟩
 ·exact .inr ⟨h1,λh=>h2 ⟨h,λ_ _ _ hp=>absurd hp (by simp)⟩⟩
end Orr
namespace Orq
open Orr Go
theorem Zjp {a b c:Tm} (hb:Cut (Up b)) (hc:Cut (Up c)) (h:Pd a b) (h':Pd b c):Pd a c:=by
 obtain ⟨q,q1,q2⟩:=h;obtain ⟨r,r1,r2⟩:=h';exact ⟨q,q1,hc.mono' (hb.lt q2 r1) (by omega)⟩
theorem Qa7 {a b:Tm} (ha:Cut (Up a)) (hb:Cut (Up b)) (h:¬Pd b a):Leq a (Up b):=λq hq=>by
 rcases ha.val q with e | e | e
 ·exact absurd ⟨q,hq,e⟩ h
 ·obtain ⟨r,r1,r2⟩:=hb.dn q hq;exact absurd ⟨r,r2,ha.mono' r1 (by omega)⟩ h
 ·exact e
theorem Zjm {a b c:Tm} (ha:Cut (Up a)) (hb:Cut (Up b)) (h:¬Pd b a) (h':Pd b c):Pd a c:=by
 obtain ⟨q,q1,q2⟩:=h';exact ⟨q,Qa7 ha hb h q q1,q2⟩
theorem Qx1 {a b c:Tm} (_:Cut (Up a)) (hb:Cut (Up b)) (hc:Cut (Up c)) (h:Pd a b) (h':¬Pd c b):Pd a c:=by
 obtain ⟨q,q1,q2⟩:=h;refine ⟨q,q1,?_⟩;have hl:=Qa7 hb hc h';rcases hc.val q with e | e | e
 ·exact e
 ·obtain ⟨r,r1,r2⟩:=hb.up q q2;have h1:=hc.mono q r r1 (by omega);have:=hl r h1;omega
 ·have:=hl q e; omega
theorem Qnt {a b:Tm} (ha:Cut (Up a)) (hb:Cut (Up b)) (h:Pd a b):¬Pd b a:=λh'=>I1 ha hb h h'
theorem Qrb {p:List Int} {a b:Tm} {o:Option Tm} (ha:Cut (Up a)) (hb:Cut (Up b)) (hab:¬Pd b a) (h:Rx p a o) (ho:∀ t,o=some t->Pd b t):Rx p b o:=by
 have hl:=Qa7 ha hb hab;cases o with
 |
  none =>
  rcases h with h | ⟨s,s0,h⟩
  ·exact .inl h
  ·exact .inr ⟨s,s0,λc hc hbc=>h c hc λq hq=>hl q (hbc q hq)⟩
 |
  some t =>
  obtain ⟨h1,h2,_,s,s0,h4,h5⟩:=h;exact ⟨h1,h2,ho t rfl,s,s0,λc hc hbc hm=>h4 c hc (λq hq=>hl q (hbc q hq)) hm,h5⟩
theorem Qd3 {p:List Int} {a b:Tm} {o:Option Tm} (hp:Dp p) (ha:Va a) (hb:Va b) (hab:¬Pd b a) (h:Rx p a o) (ho:∀ t,o=some t->Pd b t):Mk (P4 b) p=Mk (P4 a) p:=by
 by_cases h0:p.length=0
 ·obtain rfl:=Qh h0; rfl
 obtain ⟨ra,_⟩:=Qb4 ha hp h0;obtain ⟨rb,_⟩:=Qb4 hb hp h0;have hl:=Qa7 ha.cut hb.cut hab;cases o with
 |
  none =>
  rcases h with h | ⟨s,s0,h⟩
  ·exact absurd (by rw [h]; rfl) h0
  ·exact (Qcy rb (h _ hb.cut hl)).trans (Qcy ra (h _ ha.cut λ_ h=>h)).symm
 |
  some t =>
  obtain ⟨h1,h2,h3,s,s0,h4,h5⟩:=h;exact (Qcy rb (h4 _ hb.cut hl (ho t rfl))).trans (Qcy ra (h4 _ ha.cut (λ_ h=>h) h3)).symm
theorem Ql6 (t q:Rat):Up (tq t) q=U7 t q:=D4 (t:=tq t) rfl q
theorem Ii {a:Tm} {t:Rat} (ha:Cut (Up a)):0<Up a t↔Pd (tq t) a:=by
 constructor
 ·intro h;have h1:Up a t=1:=by rcases ha.val t with e | e | e <;> omega
  obtain ⟨r,r1,r2⟩:=ha.up t h1;exact ⟨r,by rw [Ql6]; rcases Rk t r with ⟨e,e'⟩ | ⟨e,e'⟩ | ⟨e,e'⟩ <;> first | exact e | (exfalso; grind),r2⟩
 ·rintro ⟨q,q1,q2⟩
  rw [Ql6] at q1;have:t<q:=by rcases Rk t q with ⟨e,e'⟩ | ⟨e,e'⟩ | ⟨e,e'⟩ <;> first | exact e' | omega
  have:=ha.mono' this (by omega);omega
open Classical in
noncomputable def mu (T:List Tm) (a:Tm):Nat:=(T.filter λt=>decide (Pd a t)).length
theorem Qkp {α:Type} {p q:α->Bool} (h:∀ x,p x=true->q x=true):∀ l:List α,(l.filter p).length<=(l.filter q).length
 | []=>Qk _
 |
  x::l=>by
  have ih:=Qkp h l;by_cases hp:p x=true
  ·rw [Jj hp,Jj (h x hp)]; simp; exact ih
  ·rw [Yh hp];by_cases hq:q x=true
   ·rw [Jj hq]; simp; omega
   ·rw [Yh hq]; exact ih
theorem Qkq {α:Type} {p q:α->Bool} (h:∀ x,p x=true->q x=true) {y:α} (hp:p y=false) (hq:q y=true):∀ {l:List α},y∈l->(l.filter p).length<(l.filter q).length
 | [],hy=>by cases hy
 |
  x::l,hy=>by
  rcases Qq.1 hy with rfl | hy
  ·rw [Yh (by simp [hp]),Jj hq];have:=Qkp h l;simp; omega
  ·have ih:=Qkq h hp hq hy;by_cases hp:p x=true
   ·rw [Jj hp,Jj (h x hp)]; simp; exact ih
   ·rw [Yh hp];by_cases hq:q x=true
    ·rw [Jj hq]; simp; omega
    ·rw [Yh hq]; exact ih
open Classical in
theorem Zev {T:List Tm} {a b:Tm} (ha:Cut (Up a)) (hb:Cut (Up b)) (hT:∀ t∈T,Cut (Up t)) (h:Pd a b) (hm:b∈T):mu T b<mu T a:=by
 have key:∀ l:List Tm,(∀ t∈l,Cut (Up t))->l.filter (λt=>decide (Pd b t))=l.filter (λt=>decide (Cut (Up t)/\Pd b t)):=λl hl=>List.filter_congr λx hx=>by simp [hl x hx]
 have key2:∀ l:List Tm,(∀ t∈l,Cut (Up t))->l.filter (λt=>decide (Pd a t))=l.filter (λt=>decide (Cut (Up t)/\Pd a t)):=λl hl=>List.filter_congr λx hx=>by simp [hl x hx]
 unfold mu;rw [key T hT,key2 T hT];refine Qkq (λx hx=>?_) (y:=b) ?_ ?_ hm
 ·have hx:=of_decide_eq_true hx;exact decide_eq_true ⟨hx.1,Zjp hb hx.1 h hx.2⟩
 ·exact decide_eq_false λhx=>I1 hb hb hx.2 hx.2
 ·exact decide_eq_true ⟨hb,h⟩
def tms (p:List Int):List Tm:=(Lq p).getD []
structure KInv (c:Cr):Prop where
 ok:CrOk c
 k:∀ w∈c.l,w.known=true->Rx w.c.p c.now w.fails/\∀ t,w.fails=some t->t∈tms w.c.p
theorem Quk {p:List Int} (h:Cp p) {a:Tm} (ha:Va a):∃ r,Qfi p a=some r/\Rx p a r/\∀ t,r=some t->t∈tms p:=by
 obtain ⟨l,l1,_,_,l3⟩:=Oi h;obtain ⟨r,r1,r2,r3⟩:=l3 a ha;refine ⟨r,?_,r2,λt ht=>by unfold tms; rw [l1]; exact r3 t ht⟩;unfold Qfi; rw [l1]; exact r1
theorem Zhz {p:List Int} (h:Cp p):∀ t∈tms p,Va t:=by
 obtain ⟨l,l1,_,l2,_⟩:=Oi h;unfold tms; rw [l1]; exact l2
theorem Qnr {now:Tm} (hn:Va now):∀ {l:List Wt},(∀ w∈l,WtOk w)->(∀ w∈l,w.known=true->Rx w.c.p now w.fails/\∀ t,w.fails=some t->t∈tms w.c.p) ->
 ∃ ws,Nl now l=some ws/\ws.map (·.c)=l.map (·.c)/\∀ w∈ws,w.known=true/\Rx w.c.p now w.fails/\∀ t,w.fails=some t->t∈tms w.c.p
 | [],_,_=>⟨[],rfl,rfl,λw hw=>by cases hw⟩
 |
  w::l,h,h'=>by
  obtain ⟨ws,w1,w2,w3⟩:=Qnr hn (λv hv=>h v (Qj _ hv)) (λv hv=>h' v (Qj _ hv));by_cases hk:w.known=true
  ·refine ⟨w::ws,by simp only [Nl,hk,if_true,w1]; rfl,by simp [w2],λv hv=>?_⟩;rcases Qq.1 hv with rfl | hv
   ·exact ⟨hk,h' v (by simp) hk⟩
   ·exact w3 v hv
  ·obtain ⟨r,r1,r2,r3⟩:=Quk (h w (by simp)).p hn;refine ⟨⟨w.c,true,r⟩::ws,by simp only [Nl]; rw [if_neg hk,r1,w1]; rfl,by simp [w2],λv hv=>?_⟩;rcases Qq.1 hv with rfl | hv
   ·exact ⟨rfl,r2,r3⟩
   ·exact w3 v hv
theorem Qxx {at_:Tm} (ha:Va at_) {x:Ct}:∀ {l:List Wt},(∀ w∈l,WtOk w)->∃ w,Dh l x at_=some w/\w.c=x
 | [],_=>⟨fresh x,rfl,rfl⟩
 |
  v::l,h=>by
  obtain ⟨w,w1,w2⟩:=Qxx ha (x:=x) λv hv=>h v (Qj _ hv)
  simp only [Dh]
  split
  ·cases hf:v.fails with
   | none=>exact ⟨_,rfl,rfl⟩
   |
    some t =>
    obtain ⟨c,c1,_⟩:=Ot ((h v (by simp)).f t hf) ha;dsimp only;rw [c1];show ∃ w,(if 0<c then some ⟨x,true,some t⟩ else Dh l x at_)=some w/\w.c=x
    split
    ·exact ⟨_,rfl,rfl⟩
    ·exact ⟨w,w1,w2⟩
  ·exact ⟨w,w1,w2⟩
theorem Q5u {at_:Tm} (ha:Va at_) {ol:List Wt} (ho:∀ w∈ol,WtOk w):∀ l:List Ct,∃ ws,Qcb ol at_ l=some ws/\ws.map (·.c)=l
 | []=>⟨[],rfl,rfl⟩
 |
  x::l=>by
  obtain ⟨w,w1,w2⟩:=Qxx ha (x:=x) ho;obtain ⟨ws,s1,s2⟩:=Q5u ha ho l;exact ⟨w::ws,by simp only [Qcb,w1,s1]; rfl,by simp [w2,s2]⟩
theorem Q0k {out:List Ct} {c x:Ct}:x∈Qa4 out c↔x=c\/x∈out:=by
 have h:x∈out↔x∈out.take (I5 out c out.length)\/x∈out.drop (I5 out c out.length):=by
  rw [<-Qz,Za]
 simp only [Qa4,Qz,Qq,h];constructor
 ·rintro (h | h | h)
  ·exact .inr (.inl h)
  ·exact .inl h
  ·exact .inr (.inr h)
 ·rintro (h | h | h)
  ·exact .inr (.inl h)
  ·exact .inl h
  ·exact .inr (.inr h)
theorem Qkt:∀ (l acc:List Ct) {y:Ct},y∈l.foldl Qa4 acc↔y∈l\/y∈acc
 | [],acc,y=>by simp
 |
  c::l,acc,y=>by
  simp only [Xi];rw [Qkt l,Q0k,Qq];constructor
  ·rintro (h | h | h)
   ·exact .inl (.inr h)
   ·exact .inl (.inl h)
   ·exact .inr h
  ·rintro ((h | h) | h)
   ·exact .inr (.inl h)
   ·exact .inl h
   ·exact .inr (.inr h)
theorem C0 {l:List Ct} {x:Ct}:x∈Gk l↔x∈l:=by unfold Gk; rw [Qkt]; simp
theorem Qum {ws:List Wt} (hw:∀ w∈ws,WtOk w):∃ o,Qio ws=some o/\match o with
 | none=>∀ w∈ws,w.fails=none
 | some a=>Va a/\(∃ w∈ws,w.fails=some a)/\∀ w∈ws,∀ t,w.fails=some t->¬Pd t a:=by
 have hv:∀ t∈ws.filterMap (·.fails),Va t:=λt ht=>by
  obtain ⟨w,w1,w2⟩:=Ji.1 ht;exact (hw w w1).f t w2
 unfold Qio;cases hf:ws.filterMap (·.fails) with
 |
  nil =>
  refine ⟨none,rfl,λw h=>?_⟩;cases e:w.fails with
  | none=>rfl
  |
   some t =>
   have:t∈ws.filterMap (·.fails):=Ji.2 ⟨w,h,e⟩;rw [hf] at this; cases this
 |
  cons b l =>
  rw [hf] at hv;obtain ⟨m,m1,m2,m3⟩:=Qec l b hv;refine ⟨some m,by show (Ah b l).map some=_; rw [m1]; rfl,hv m m2,?_,λw h t e=>?_⟩
  ·rw [<-hf] at m2;exact Ji.1 m2
  ·exact m3 t (by rw [<-hf]; exact Ji.2 ⟨w,h,e⟩)
theorem Zf4 {t a:Tm} (ht:Va t) (ha:Va a) {c:Int} (h:Qfv t a=some c) (h0:0<c):Pd a t:=by
 obtain ⟨c',c1,c2⟩:=Ot ht ha;rw [h] at c1; injection c1 with c1; subst c1;rcases c2 with ⟨e,_⟩ | ⟨e,_⟩ | ⟨_,e⟩
 ·omega
 ·omega
 ·exact e
theorem Zbp {ol ws:List Wt} {now a:Tm} {l:List Ct} (hn:Va now) (ha:Va a) (hna:¬Pd a now) (ho:∀ w∈ol,WtOk w) (hk:∀ w∈ol,w.known=true->Rx w.c.p now w.fails/\∀ t,w.fails=some t->t∈tms w.c.p) (h:Qcb ol a l=some ws) :
 ∀ w∈ws,w.known=true->Rx w.c.p a w.fails/\∀ t,w.fails=some t->t∈tms w.c.p:=by
 obtain ⟨h1,h2⟩:=Qcc h;intro w hw hkn;obtain ⟨i,hi⟩:=Jm hw;have hil:i<l.length:=by rw [<-h1]; exact (Qf.1 hi).1
 obtain ⟨v,h3,h4⟩:=h2 i _ (Qd hil);rw [hi] at h4; injection h4 with h4; subst h4;rcases Qih h3 with e | ⟨v,v1,v2,v3,e,v5⟩
 ·rw [e] at hkn; cases hkn
 ·obtain ⟨k1,k2⟩:=hk v v1 v2;rw [e];show Rx (l[i]).p a v.fails/\∀ t,v.fails=some t->t∈tms (l[i]).p;rw [<-v3];refine ⟨Qrb hn.cut ha.cut hna k1 λt ht=>?_,k2⟩;obtain ⟨c,c1,c2⟩:=v5 t ht;exact Zf4 ((ho v v1).f t ht) ha c1 c2
structure Stab {β:Type} (Bc:Tm->List Ct) (Br:Tm->β):Prop where
 ok:BuildOk Bc
 fin:∃ Ps:List (List Int),(∀ p∈Ps,Cp p)/\∀ a,Va a->∀ x∈Bc a,x.p∈Ps
 st:∀ a b,Va a->Va b->(∀ x∈Bc a,Mk (P4 b) x.p=Mk (P4 a) x.p)->Bc b=Bc a/\Br b=Br a
structure KSt {β:Type} (Bc:Tm->List Ct) (Br:Tm->β) (c:Cr) (r1:β):Prop where
 inv:KInv c
 cs:c.l.map (·.c)=Gk (Bc c.now)
 r:r1=Br c.now
inductive Evs (Bc:Tm->List Ct) (t:Rat):Tm->List Tm->Prop
 | nil {a:Tm} (h:∀ x∈Bc a,∃ o,Rx x.p a o/\∀ u,o=some u->Pd (tq t) u):Evs Bc t a []
 | cons {a e:Tm} {E:List Tm} (he:Va e) (h1:Pd a e) (h2:¬Pd (tq t) e) (h3:∀ x∈Bc a,∃ o,Rx x.p a o/\∀ u,o=some u->¬Pd u e) (h4:∃ x∈Bc a,Rx x.p a (some e)) (h5:Evs Bc t e E):Evs Bc t a (e::E)
theorem Zjb {β:Type} {Bc:Tm->List Ct} {Br:Tm->β} (S:Stab Bc Br) {t:Rat} (ht:Qs 400000 t) {Ps:List (List Int)} (hP:∀ p∈Ps,Cp p) (hPs:∀ a,Va a->∀ x∈Bc a,x.p∈Ps) :
 ∀ (m:Nat) (c:Cr) (r1:β) (n:Int),mu (Ps.flatMap tms) c.now<=m->KSt Bc Br c r1->¬Pd (tq t) c.now ->
 ∃ c' r' E,goF Bc Br t (m+1) c r1 n=some (c',r',n+(E.length:Nat))/\c'.now=tq t/\KSt Bc Br c' r'/\c'.ev=c.ev+(E.length:Nat)/\E.length<=m/\Evs Bc t c.now E:=by
 have hT:∀ t∈Ps.flatMap tms,Cut (Up t):=λu hu=>by
  obtain ⟨p,p1,p2⟩:=Xo.1 hu;exact (Zhz (hP p p1) u p2).cut
 have hq:=Q1o ht;intro m
 induction m with
 | zero=>?_
 | succ m ih=>?_
 all_goals
  intro c r1 n hm hS hnow;obtain ⟨⟨ok,kk⟩,hcs,hr⟩:=hS;obtain ⟨ws,w1,w2,w3⟩:=Qnr ok.n ok.l kk;have ok':=O2 ok w1;rw [hcs] at w2;have hc_w:∀ x∈Bc c.now,∃ w∈ws,w.c=x:=λx hx=>by
   have:x∈ws.map (·.c):=by rw [w2]; exact C0.2 hx
   exact Zr.1 this
  have hw_c:∀ w∈ws,w.c∈Bc c.now:=λw hw=>C0.1 (by rw [<-w2]; exact List.mem_map_of_mem hw)
  obtain ⟨o,o1,o2⟩:=Qum ok'.l;have fin:(∀ w∈ws,∀ u,w.fails=some u->Pd (tq t) u)->KSt Bc Br ⟨tq t,ws,c.ev⟩ r1/\Evs Bc t c.now []:=λhall=>by
   have hg:∀ x∈Bc c.now,Mk (P4 (tq t)) x.p=Mk (P4 c.now) x.p:=λx hx=>by
    obtain ⟨w,hw,rfl⟩:=hc_w x hx;exact Qd3 (S.ok.p _ ok.n _ hx).dp ok.n hq hnow (w3 w hw).2.1 (hall w hw)
   obtain ⟨s1,s2⟩:=S.st _ _ ok.n hq hg;refine ⟨⟨⟨⟨hq,ok'.l,ok'.k⟩,λw hw _=>⟨Qrb ok.n.cut hq.cut hnow (w3 w hw).2.1 (hall w hw),(w3 w hw).2.2⟩⟩,?_,?_⟩,.nil λx hx=>?_⟩
   ·show ws.map (·.c)=Gk (Bc (tq t)); rw [w2,s1]
   ·show r1=Br (tq t); rw [s2,hr]
   ·obtain ⟨w,hw,rfl⟩:=hc_w x hx;exact ⟨_,(w3 w hw).2.1,hall w hw⟩
 ·cases o with
  |
   none =>
   obtain ⟨f1,f2⟩:=fin λw hw u hu=>by rw [o2 w hw] at hu; cases hu
   exact ⟨_,_,[],by simp only [goF]; rw [w1]; simp only [Jd]; rw [o1]; simp,rfl,f1,by simp,by simp,f2⟩
  |
   some a =>
   obtain ⟨va,⟨w,hw,hwa⟩,hmin⟩:=o2;by_cases h0:0<Up a t
   ·obtain ⟨f1,f2⟩:=fin λv hv u hu=>by
     have hu':=(ok'.l v hv).f u hu;exact Qx1 hq.cut va.cut hu'.cut ((Ii va.cut).1 h0) (hmin v hv u hu)
    exact ⟨_,_,[],by simp only [goF]; rw [w1]; simp only [Jd]; rw [o1]; simp [h0],rfl,f1,by simp,by simp,f2⟩
   ·exfalso;obtain ⟨k1,k2,k3⟩:=w3 w hw;rw [hwa] at k2;have:a∈Ps.flatMap tms:=Xo.2 ⟨_,hPs _ ok.n _ (hw_c w hw),k3 a hwa⟩;have:=Zev ok.n.cut va.cut hT k2.2.2.1 this;omega
 ·cases o with
  |
   none =>
   obtain ⟨f1,f2⟩:=fin λw hw u hu=>by rw [o2 w hw] at hu; cases hu
   exact ⟨_,_,[],by simp only [goF]; rw [w1]; simp only [Jd]; rw [o1]; simp,rfl,f1,by simp,by simp,f2⟩
  |
   some a =>
   obtain ⟨va,⟨w,hw,hwa⟩,hmin⟩:=o2;by_cases h0:0<Up a t
   ·obtain ⟨f1,f2⟩:=fin λv hv u hu=>by
     have hu':=(ok'.l v hv).f u hu;exact Qx1 hq.cut va.cut hu'.cut ((Ii va.cut).1 h0) (hmin v hv u hu)
    exact ⟨_,_,[],by simp only [goF]; rw [w1]; simp only [Jd]; rw [o1]; simp [h0],rfl,f1,by simp,by simp,f2⟩
   ·obtain ⟨k1,k2,k3⟩:=w3 w hw;rw [hwa] at k2;have hna:=Qnt ok.n.cut va.cut k2.2.2.1;have hmem:a∈Ps.flatMap tms:=Xo.2 ⟨_,hPs _ ok.n _ (hw_c w hw),k3 a hwa⟩;have hlt:=Zev ok.n.cut va.cut hT k2.2.2.1 hmem;obtain ⟨w2',l1,l2⟩:=Q5u va ok'.l (Gk (Bc a));have hl:=Zbp ok.n va hna ok'.l (λv hv _=>(w3 v hv).2) l1;have hS':KSt Bc Br ⟨a,w2',c.ev+1⟩ (Br a):=⟨⟨Orr.lay_ok _ ok' va (S.ok.p a va) (S.ok.n a va) l1,hl⟩,l2,rfl⟩;obtain ⟨c',r',E,g1,g2,g3,g4,g5,g6⟩:=ih ⟨a,w2',c.ev+1⟩ (Br a) (n+1) (by show mu _ a<=m; omega) hS' (λh=>h0 ((Ii va.cut).2 h));refine ⟨c',r',a::E,?_,g2,g3,by rw [g4]; simp; omega,by simp; omega,.cons va k2.2.2.1 (λh=>h0 ((Ii va.cut).2 h)) (λx hx=>?_) ⟨w.c,hw_c w hw,k2⟩ g6⟩
    ·conv=>lhs; unfold goF
     rw [w1]; simp only [Jd]; rw [o1]; simp only [Jd]; rw [if_neg h0,l1]; simp only [Jd];rw [g1]; simp; omega
    ·obtain ⟨v,hv,rfl⟩:=hc_w x hx;exact ⟨_,(w3 v hv).2.1,hmin v hv⟩
end Orq
namespace Orq
open Orr Go
theorem Qqh {a:Tm} (ha:Va a):∀ (L:List (List Int)),(∀ p∈L,Dp p)->∃ y,Up a y=-1/\∀ q,Up a q=-1->q≤y->∀ p∈L,Mk (P4 a) p=Uo (Ug p q)
 |
  [],_=>by
  obtain ⟨y,hy⟩:=ha.cut.hi;exact ⟨y,hy,λq _ _ p hp=>by cases hp⟩
 |
  p::L,h=>by
  obtain ⟨y,y1,y2⟩:=Qqh ha L (λq hq=>h q (Qj _ hq));by_cases h0:p.length=0
  ·obtain rfl:=Qh h0;refine ⟨y,y1,λq q1 q2 r hr=>?_⟩;rcases Qq.1 hr with rfl | hr
   ·rw [Qh9]; exact (Fa.2 rfl).symm
   ·exact y2 q q1 q2 r hr
  ·obtain ⟨⟨z,z1,z2⟩,_⟩:=Qb4 ha (h p (by simp)) h0;refine ⟨if y<=z then y else z,by split <;> assumption,λq q1 q2 r hr=>?_⟩;rcases Qq.1 hr with rfl | hr
   ·rw [<-Ue]; exact (z2 q q1 (by grind)).symm
   ·exact y2 q q1 (by grind) r hr
section Srt
variable {α:Type} {lt:α->α->Bool} {R:α->α->Prop}
theorem Qlq (irr:∀ x,¬R x x) (tr:∀ x y z,R x y->R y z->R x z):∀ {l m:List α},l.Pairwise R->m.Pairwise R->(∀ x,x∈l↔x∈m)->l=m
 | [],[],_,_,_=>rfl
 | [],y::m,_,_,h=>by have:=(h y).2 (by simp); cases this
 | x::l,[],_,_,h=>by have:=(h x).1 (by simp); cases this
 |
  x::l,y::m,hl,hm,h=>by
  rw [Zu] at hl hm;have e:x=y:=by
   rcases Qq.1 ((h x).1 (by simp)) with e | h1
   ·exact e
   ·rcases Qq.1 ((h y).2 (by simp)) with e | h2
    ·exact e.symm
    ·exact absurd (tr _ _ _ (hl.1 y h2) (hm.1 x h1)) (irr x)
  subst e;rw [Qlq irr tr hl.2 hm.2 λz=>?_];constructor
  ·intro hz;rcases Qq.1 ((h z).1 (Qj _ hz)) with e | h1
   ·subst e; exact absurd (hl.1 z hz) (irr z)
   ·exact h1
  ·intro hz;rcases Qq.1 ((h z).2 (Qj _ hz)) with e | h1
   ·subst e; exact absurd (hm.1 z hz) (irr z)
   ·exact h1
theorem Qll {out:List α} {x:α}:∀ k,k<=out.length->(∀ j y,Tn lt out x k<=j->j<k->out[j]? = some y->lt x y=true)/\(0<Tn lt out x k->∃ y,out[Tn lt out x k-1]? = some y/\lt x y=false)
 | 0,_=>⟨λj y _ h=>by omega,λh=>by simp [Tn] at h⟩
 |
  k+1,hk=>by
  obtain ⟨y,hy⟩:=gxE (l:=out) (i:=k) (by omega);by_cases h:lt x y=true
  ·rw [Qcp hy h];obtain ⟨h1,h2⟩:=Qll (out:=out) (x:=x) k (by omega);refine ⟨λj z a1 a2 a3=>?_,h2⟩;by_cases e:j=k
   ·subst e; rw [hy] at a3; injection a3 with a3; subst a3; exact h
   ·exact h1 j z a1 (by omega) a3
  ·have h:lt x y=false:=by simpa using h
   rw [I6 hy h];exact ⟨λj z a1 a2 _=>by omega,λ_=>⟨y,by simpa using hy,h⟩⟩
theorem Zbm (tr:∀ x y z,R x y->R y z->R x z) {out:List α} {x:α} (ho:out.Pairwise R) (h1:∀ y∈out,lt x y=true->R x y) (h2:∀ y∈out,lt x y=false->R y x):(Ng lt out x).Pairwise R:=by
 obtain ⟨s1,s2⟩:=Qll (lt:=lt) (out:=out) (x:=x) out.length (Qk _);have hle:=Qn8 lt out x out.length;unfold Ng;obtain ⟨k,hk⟩:=nmE (Tn lt out x out.length);rw [<-hk] at s1 s2 hle ⊢;have hd:(out.take k++out.drop k).Pairwise R:=by rw [Za]; exact ho
 obtain ⟨d1,d2,d3⟩:=Yu.1 hd;have hR:∀ y∈out.drop k,R x y:=λy hy=>by
  obtain ⟨i,hi⟩:=Jm hy;rw [Xf] at hi;have:k+i<out.length:=(Qf.1 hi).1;exact h1 y (Zg hy) (s1 (k+i) y (by omega) this hi)
 have hL:∀ y∈out.take k,R y x:=λy hy=>by
  obtain ⟨i,hi⟩:=Jm hy;have hik:i<k:=by have:=(Qf.1 hi).1; simp at this; omega
  rw [List.getElem?_take_of_lt hik] at hi;obtain ⟨z,z1,z2⟩:=s2 (by omega);have hz:=h2 z (Qc z1) z2;by_cases e:i=k-1
  ·subst e; rw [hi] at z1; injection z1 with z1; subst z1; exact hz
  ·have hp:=List.pairwise_iff_getElem.1 ho i (k-1) (by omega) (by omega) (by omega);obtain ⟨_,e1⟩:=Qf.1 hi;obtain ⟨_,e2⟩:=Qf.1 z1;rw [e1,e2] at hp;exact tr _ _ _ hp hz
 refine Yu.2 ⟨d1,Zu.2 ⟨hR,d2⟩,λy hy z hz=>?_⟩;rcases Qq.1 hz with rfl | hz
 ·exact hL y hy
 ·exact d3 y hy z hz
theorem foldG_pw (tr:∀ x y z,R x y->R y z->R x z) {S:α->Prop} (h1:∀ x y,S x->S y->lt x y=true->R x y) {D:α->α->Prop} (h2:∀ x y,S x->S y->D y x->lt x y=false->R y x) :
 ∀ (l acc:List α),acc.Pairwise R->(∀ x∈acc,S x)->(∀ x∈l,S x)->l.Pairwise D->(∀ x∈acc,∀ y∈l,D x y)->(l.foldl (Ng lt) acc).Pairwise R
 | [],acc,ha,_,_,_,_=>ha
 |
  x::l,acc,ha,hs,hl,hd,hx=>by
  rw [Zu] at hd;refine foldG_pw tr h1 h2 l (Ng lt acc x) ?_ ?_ (λy hy=>hl y (Qj _ hy)) hd.2 ?_
  ·exact Zbm tr ha (λy hy=>h1 x y (hl x (by simp)) (hs y hy)) (λy hy=>h2 x y (hl x (by simp)) (hs y hy) (hx y hy x (by simp)))
  ·intro y hy;rcases Qib.1 hy with rfl | hy
   ·exact hl _ (by simp)
   ·exact hs y hy
  ·intro y hy z hz;rcases Qib.1 hy with rfl | hy
   ·exact hd.1 z hz
   ·exact hx y hy z (Qj _ hz)
end Srt
def px (p:Pt) (q:Rat):Rat:=Ug p.c.x q / (p.c.d:Rat)
def py (p:Pt) (q:Rat):Rat:=Ug p.c.y q / (p.c.d:Rat)
def Lm (q:Rat) (x y:Pt):Prop:=px x q<px y q\/px x q=px y q/\(py x q<py y q\/py x q=py y q/\x.id<y.id)
theorem Q5y (q:Rat) (x:Pt):¬Lm q x x:=by unfold Lm; grind
theorem Qno (q:Rat) (x y z:Pt) (h:Lm q x y) (h':Lm q y z):Lm q x z:=by unfold Lm at *; grind
theorem Q5z {q:Rat} {x y:Pt} (h:x.id≠y.id) (h':¬Lm q x y):Lm q y x:=by unfold Lm at *; grind
theorem Ql1 {u v:Rat} {c d:Int} (hc:0<c) (hd:0<d):Uo (v*(c:Rat)-u*(d:Rat))=Uo (v / (d:Rat)-u / (c:Rat)):=by
 have hc':(0:Rat)<(c:Rat):=by exact_mod_cast hc
 have hd':(0:Rat)<(d:Rat):=by exact_mod_cast hd
 have e:v*(c:Rat)-u*(d:Rat)=((c:Rat)*(d:Rat))*(v / (d:Rat)-u / (c:Rat)):=by
  rw [Js,Js];have h1:=Wg (c:Rat) (by grind);have h2:=Wg (d:Rat) (by grind);grind
 rw [e,Ap (Vv hc' hd')]
theorem Q1e {x y:Pt} (hx:Sc x.c) (hy:Sc y.c) (q:Rat):Uo (Ug (Gz x.c y.c) q)=Uo (px y q-px x q):=by
 unfold Gz px; rw [Bw,Gy,Gy]; exact Ql1 hx.n.2.2.1 hy.n.2.2.1
theorem Q1d {x y:Pt} (hx:Sc x.c) (hy:Sc y.c) (q:Rat):Uo (Ug (Hj x.c y.c) q)=Uo (py y q-py x q):=by
 unfold Hj py; rw [Bw,Gy,Gy]; exact Ql1 hx.n.2.2.1 hy.n.2.2.1
theorem Qs0 {a:Tm} (ha:Va a) {x y:Pt} (hx:Sc x.c) (hy:Sc y.c) {q:Rat} (h1:Mk (P4 a) (Gz x.c y.c)=Uo (Ug (Gz x.c y.c) q)) (h2:Mk (P4 a) (Hj x.c y.c)=Uo (Ug (Hj x.c y.c) q)):P6 (P4 a) x y=true↔Lm q x y:=by
 rw [Q1e hx hy] at h1;rw [Q1d hx hy] at h2;have d1:=(Il hx hy).dp;have d2:=(Ik hx hy).dp;unfold P6;simp only [Am];have t1:=Ff (px y q-px x q);have t2:=Ff (py y q-py x q);by_cases e1:(Gz x.c y.c).length=0
 ·rw [if_neg (by omega)];rw [Qh e1,Qh9] at h1;have:px x q=px y q:=by grind
  by_cases e2:(Hj x.c y.c).length=0
  ·rw [if_neg (by omega)];rw [Qh e2,Qh9] at h2;unfold Lm;simp only [decide_eq_true_eq];grind
  ·rw [if_pos (by omega)];have:=(Qb4 ha d2 e2).2;unfold Lm;simp only [decide_eq_true_eq];grind
 ·rw [if_pos (by omega)];have:=(Qb4 ha d1 e1).2;unfold Lm;simp only [decide_eq_true_eq];grind
def Qmf (l:List Pt):List (List Int):=l.flatMap λx=>l.flatMap λy=>[Gz x.c y.c,Hj x.c y.c]
theorem Qbo {l:List Pt} {x y:Pt} (hx:x∈l) (hy:y∈l):Gz x.c y.c∈Qmf l/\Hj x.c y.c∈Qmf l :=
 ⟨Xo.2 ⟨x,hx,Xo.2 ⟨y,hy,by simp⟩⟩,Xo.2 ⟨x,hx,Xo.2 ⟨y,hy,by simp⟩⟩⟩
theorem Qmg {l:List Pt} (hl:∀ p∈l,Sc p.c):∀ p∈Qmf l,Cp p:=λp hp=>by
 obtain ⟨x,hx,hp⟩:=Xo.1 hp;obtain ⟨y,hy,hp⟩:=Xo.1 hp;simp at hp;rcases hp with rfl | rfl
 ·exact Il (hl x hx) (hl y hy)
 ·exact Ik (hl x hx) (hl y hy)
theorem Qyz {l:List Pt} (hl:∀ p∈l,Sc p.c) (hd:l.Pairwise λx y=>x.id≠y.id) {a:Tm} (ha:Va a):∃ y,Up a y=-1/\∀ q,Up a q=-1->q≤y->(∀ u∈l,∀ v∈l,(P6 (P4 a) u v=true↔Lm q u v))/\(Em a l).Pairwise (Lm q):=by
 obtain ⟨y,y1,y2⟩:=Qqh ha (Qmf l) λp hp=>(Qmg hl p hp).dp
 refine ⟨y,y1,λq q1 q2=>?_⟩;have h:=y2 q q1 q2;have hb:∀ u∈l,∀ v∈l,(P6 (P4 a) u v=true↔Lm q u v):=λu hu v hv=>Qs0 ha (hl u hu) (hl v hv) (h _ (Qbo hu hv).1) (h _ (Qbo hu hv).2)
 refine ⟨hb,?_⟩;exact foldG_pw (S:=λx=>x∈l) (D:=λx y=>x.id≠y.id) (Qno q) (λu v hu hv h=>(hb u hu v hv).1 h) (λu v hu hv hne h=>Q5z (λe=>hne e.symm) λh'=>by
  rw [(hb u hu v hv).2 h'] at h; cases h) l [] .nil (λx hx=>by cases hx) (λx hx=>hx) hd (λx hx=>by cases hx)
theorem Qur {a b:Tm} {x y:Pt} (h:Mk (P4 b) (Pi x y)=Mk (P4 a) (Pi x y)):P6 (P4 b) x y=P6 (P4 a) x y:=by
 unfold Pi E8 at h;unfold P6;simp only [Am];by_cases e1:0<(Gz x.c y.c).length
 ·rw [if_pos e1,if_pos e1]; rw [if_pos e1] at h; rw [h]
 ·rw [if_neg e1,if_neg e1]; rw [if_neg e1] at h; rw [h]
theorem Qhh {a b:Tm} {q r:Rat}:∀ (l:List Pt),(∀ u∈l,∀ v∈l,(P6 (P4 a) u v=true↔Lm q u v))->(∀ u∈l,∀ v∈l,(P6 (P4 b) u v=true↔Lm r u v))->l.Pairwise (Lm q)->(∀ x∈Ra (P4 a) l,Mk (P4 b) x.p=Mk (P4 a) x.p)->l.Pairwise (Lm r)/\Ra (P4 b) l=Ra (P4 a) l
 | [],_,_,_,_=>⟨.nil,rfl⟩
 | [x],_,_,_,_=>⟨List.pairwise_singleton _ _,rfl⟩
 |
  x::y::l,ha,hb,hp,hc=>by
  rw [Zu] at hp;obtain ⟨i1,i2⟩:=Qhh (a:=a) (b:=b) (q:=q) (r:=r) (y::l) (λu hu v hv=>ha u (Qj _ hu) v (Qj _ hv)) (λu hu v hv=>hb u (Qj _ hu) v (Qj _ hv)) hp.2 (λz hz=>hc z (by simp only [Ra]; exact Qj _ hz));have h0:Mk (P4 b) (Pi x y)=Mk (P4 a) (Pi x y):=hc (Mv (P4 a) x y) (by simp [Ra]);have h1:Lm r x y:=(hb x (by simp) y (by simp)).1 (by rw [Qur h0]; exact (ha x (by simp) y (by simp)).2 (hp.1 y (by simp)));refine ⟨Zu.2 ⟨λz hz=>?_,i1⟩,?_⟩
  ·rcases Qq.1 hz with rfl | hz
   ·exact h1
   ·exact Qno r x y z h1 ((Zu.1 i1).1 z hz)
  ·simp only [Ra];rw [i2]; congr 1;unfold Mv; rw [h0]
theorem Qeq {sg:List Int->Int}:∀ {l:List Pt},∀ x∈Ra sg l,∃ u∈l,∃ v∈l,x.p=Pi u v
 | [],x,hx=>by cases hx
 | [_],x,hx=>by cases hx
 |
  a::b::l,x,hx=>by
  simp only [Ra] at hx;rcases Qq.1 hx with rfl | hx
  ·exact ⟨a,by simp,b,by simp,rfl⟩
  ·obtain ⟨u,hu,v,hv,e⟩:=Qeq (l:=b::l) x hx;exact ⟨u,Qj _ hu,v,Qj _ hv,e⟩
theorem Qle {l:List Pt} {u v:Pt} (hu:u∈l) (hv:v∈l):Pi u v∈Qmf l:=by
 unfold Pi E8; split
 ·exact (Qbo hu hv).1
 ·exact (Qbo hu hv).2
theorem Q9n {l:List Pt} {a:Tm}:∀ x∈bcS l a,x.p∈Qmf l:=λx hx=>by
 obtain ⟨u,hu,v,hv,e⟩:=Qeq x hx;rw [e]; exact Qle (Rq.1 hu) (Rq.1 hv)
theorem Q11 (l:List Pt):(Qmf l).length=l.length*(l.length*2):=by
 have h1:∀ (x:Pt) (m:List Pt),(m.flatMap λy=>[Gz x.c y.c,Hj x.c y.c]).length=m.length*2:=λx m=>by
  induction m with
  | nil=>rfl
  | cons y m ih=>rw [Ka,Zb,ih,Q8]; simp; omega
 have h2:∀ m:List Pt,(m.flatMap λx=>l.flatMap λy=>[Gz x.c y.c,Hj x.c y.c]).length=m.length*(l.length*2):=λm=>by
  induction m with
  | nil=>simp
  | cons y m ih=>rw [Ka,Zb,ih,Q8,h1,Jh,K8,J3]
 exact h2 l
theorem Q7l {l:List Pt} (hl:∀ p∈l,Sc p.c) (hd:l.Pairwise λx y=>x.id≠y.id) {a b:Tm} (ha:Va a) (hb:Va b) (h:∀ x∈bcS l a,Mk (P4 b) x.p=Mk (P4 a) x.p):Em b l=Em a l/\bcS l b=bcS l a:=by
 obtain ⟨q,q1,q2⟩:=Qyz hl hd ha;obtain ⟨r,r1,r2⟩:=Qyz hl hd hb;obtain ⟨a1,a2⟩:=q2 q q1 Ql;obtain ⟨b1,b2⟩:=r2 r r1 Ql;obtain ⟨c1,c2⟩:=Qhh (a:=a) (b:=b) (Em a l) (λu hu v hv=>a1 u (Rq.1 hu) v (Rq.1 hv)) (λu hu v hv=>b1 u (Rq.1 hu) v (Rq.1 hv)) a2 h;have e:Em b l=Em a l:=Qlq (Q5y r) (Qno r) b2 c1 λx=>by rw [Rq,Rq]
 exact ⟨e,by unfold bcS; rw [e,c2]⟩
theorem Zj6 {l:List Pt} (hl:∀ p∈l,Sc p.c) (hn:l.length≤1000) (hd:l.Pairwise λx y=>x.id≠y.id):Stab (bcS l) (brS l):=by
 refine ⟨Qmi hl hn,⟨Qmf l,Qmg hl,λa _ x hx=>?_⟩,λa b ha hb h=>?_⟩
 ·obtain ⟨u,hu,v,hv,e⟩:=Qeq x hx;rw [e]; exact Qle (Rq.1 hu) (Rq.1 hv)
 ·obtain ⟨e1,e2⟩:=Q7l hl hd ha hb h;exact ⟨e2,by unfold brS; rw [e1]⟩
end Orq
namespace Orr
open Go
section
variable {α:Type} {lt:α->α->Bool}
theorem Q0l (out:List α) (c:α):(Ng lt out c).Perm (c::out):=by
 unfold Ng;exact (Ws).trans (by rw [Za])
theorem Qh4:∀ (l acc:List α),(l.foldl (Ng lt) acc).Perm (l++acc)
 | [],acc=>List.Perm.refl _
 |
  c::l,acc=>by
  simp only [Xi];exact (Qh4 l _).trans (((Q0l acc c).append_left l).trans Ws)
theorem Qvr (l:List α):(Gv lt l).Perm l:=by
 have:=Qh4 (lt:=lt) l [];rwa [Xt] at this
end
def Qak (a b:Pt):Bool:=decide (a.id<b.id)
def Pt.m5 (p:Pt):Pt:=⟨p.c,p.id % 5⟩
def O3 (O:List Pt) (i:Nat):List Pt:=(O.take i).map Pt.m5++O.drop i
theorem Q56 (O:List Pt):O3 O 0=O:=by simp [O3]
theorem Qgi (O:List Pt) (i:Nat):(O3 O i).length=O.length:=by
 unfold O3; rw [List.length_append,List.length_map,List.length_take,List.length_drop]; omega
theorem Qya {O:List Pt} {i:Nat} {p:Pt} (h:O[i]? = some p):(O3 O i).set i p.m5=O3 O (i+1):=by
 have hi:=(Qf.1 h).1;have hl:((O.take i).map Pt.m5).length=i:=by rw [Ze,Qy]; omega
 unfold O3;rw [List.set_append,if_neg (by omega),hl,Yb,Xa,h,We,Ya,Zz];congr 1;rw [Zm hi];have:O[i]=p:=by
  have:=(Qf.1 h).2;exact this
 rfl
theorem Zbz {O:List Pt} {i:Nat} {p:Pt} (h:O[i]? = some p):(O3 O i)[i]? = some p:=by
 have hi:=(Qf.1 h).1;have hl:((O.take i).map Pt.m5).length=i:=by rw [Ze,Qy]; omega
 unfold O3;rw [Xh (by omega),hl,Yb,Xf];exact h
theorem Qx9 {O:List Pt} {i k:Nat} {p:Pt} (hk:k<i) (h:O[k]? = some p):(O3 O i)[k]? = some p.m5:=by
 have hi:=(Qf.1 h).1;unfold O3;rw [Zi (by rw [Ze,Qy]; omega),Q7,X4,if_pos hk,h]; rfl
theorem Qq3 {O:List Pt} {e i:Nat} (h:e<=i) (hi:i<=O.length):(O3 O i).take e=(O.take e).map Pt.m5:=by
 unfold O3;rw [Ye (by rw [Ze,Qy]; omega),<-Yd,K0,Zq h]
def Tl (O:List Pt) (e:Nat):List Pt:=(O.take e).map Pt.m5
def Qaj (O:List Pt) (e:Nat):List Pt:=(Tl O e).map Pt.nrm
def Lf (l:List Pt):Prop:=l.Pairwise λa b=>a.id≠b.id
theorem Qz3 {O:List Pt} {i:Nat} {p:Pt} (h:O[i]? = some p):Tl O (i+1)=Tl O i++[p.m5]:=by
 unfold Tl; rw [List.take_succ,h,Option.toList_some,List.map_append]; rfl
theorem Qz9 {O:List Pt} {i:Nat} {p:Pt} (h:O[i]? = some p) (hd:Lf (Tl O i)) (hn:∀ k x,k<i->O[k]? = some x->x.m5.id≠p.m5.id):Lf (Tl O (i+1)):=by
 rw [Qz3 h];refine Yu.2 ⟨hd,List.pairwise_singleton _ _,λa ha b hb=>?_⟩;rw [Qp.1 hb];obtain ⟨x,hx,rfl⟩:=Zr.1 ha;obtain ⟨k,hk,rfl⟩:=List.mem_iff_getElem.1 hx;rw [Qy] at hk;rw [List.getElem_take];exact hn k _ (by omega) (Qd (by omega))
theorem Qkf {O:List Pt} {e:Nat} (h:Lf (Tl O e)):Lf (Qaj O e):=List.Pairwise.map Pt.nrm (λ_ _ h=>h) h
theorem Qfh (O:List Pt) (e:Nat):(Qaj O e).length=(Tl O e).length:=by unfold Qaj; rw [List.length_map]
theorem Qbx {O:List Pt} {e:Nat} (h:e<=O.length):(Tl O e).length=e:=by unfold Tl; rw [List.length_map,List.length_take]; omega
def Qzf (p:Pt):Prop:=Cs 10 3 p.c
theorem Qk7 {n:Nat} {most:Int} (hm:0≤most/\most≤999) {l:List RawPt}:∀ p∈Qel n most l,Qzf p:=λp hp=>by
 rcases Qb3 _ _ hp with h | h
 ·cases h
 ·obtain ⟨z,_,rfl⟩:=Zr.1 h;exact Qkd hm _ _ _
theorem Qp0 {O:List Pt} (h:∀ p∈O,Qzf p) (e:Nat):∀ p∈Tl O e,Qzf p:=λp hp=>by
 obtain ⟨x,hx,rfl⟩:=Zr.1 hp;exact h x (Qn hx)
theorem Qw8 {O:List Pt} (h:∀ p∈O,Qzf p) (e:Nat):∀ p∈Qaj O e,Nml p.c/\Cs 10 3 p.c:=λp hp=>by
 obtain ⟨x,hx,rfl⟩:=Zr.1 hp;exact ⟨x.c.nml,(Qp0 h e x hx).norm (by decide)⟩
theorem Qk4 {s n:Nat}:∀ {l:List Pt},(∀ p∈l,Cs s n p.c)->IsPts s n (l.map P9) (l.map Pt.nrm)
 | [],_=>trivial
 | p::l,h=>⟨⟨p.c.x.map Ft,p.c.y.map Ft,_,_,_,_,p.c.d,rfl,Gi _,Gi _,Uc _,h p (Qt ..),rfl⟩,Qk4 λx hx=>h x (Qj _ hx)⟩
theorem Ql3:∀ {l m:List Pt},Ba l->Ba m->(∀ x,x∈l↔x∈m)->l=m
 | [],[],_,_,_=>rfl
 | [],b::m,_,_,h=>absurd ((h b).2 (Qt ..)) (by simp)
 | a::l,[],_,_,h=>absurd ((h a).1 (Qt ..)) (by simp)
 |
  a::l,b::m,h1,h2,h=>by
  have h1':=Zu.1 h1;have h2':=Zu.1 h2;have hab:a=b:=by
   rcases Qq.1 ((h a).1 (Qt ..)) with e | e
   ·exact e
   ·rcases Qq.1 ((h b).2 (Qt ..)) with e2 | e2
    ·exact e2.symm
    ·have:=h2'.1 a e; have:=h1'.1 b e2; omega
  subst hab;congr 1;refine Ql3 h1'.2 h2'.2 λx=>⟨λhx=>?_,λhx=>?_⟩
  ·rcases Qq.1 ((h x).1 (Qj _ hx)) with e | e
   ·have:=h1'.1 x hx; rw [e] at this; omega
   ·exact e
  ·rcases Qq.1 ((h x).2 (Qj _ hx)) with e | e
   ·have:=h2'.1 x hx; rw [e] at this; omega
   ·exact e
theorem Qos {l:List Pt} (h:Lf l):Ba (Gv Qak l) :=
 Orq.foldG_pw (R:=λa b:Pt=>a.id<b.id) (S:=λ_=>True) (D:=λa b:Pt=>a.id≠b.id) (λx y z h1 h2=>Int.lt_trans h1 h2) (λx y _ _ h=>of_decide_eq_true h) (λx y _ _ h1 h=>by have:=of_decide_eq_false h; omega) l [] .nil (λx hx=>by cases hx) (λ_ _=>trivial) h (λx hx=>by cases hx)
theorem Q64 (l:List Pt) (q:Pt):(put l q).Perm (q::l):=by
 unfold put;exact List.perm_middle.trans (by rw [Za])
theorem Qld:∀ (qs acc:List Pt),(Rz acc qs).2=0->(Rz acc qs).1.Perm (qs++acc)
 | [],acc,_=>List.Perm.refl _
 |
  q::qs,acc,h=>by
  simp only [Rz] at h ⊢
  split
  ·rename_i h0;rw [if_pos h0] at h;refine (Qld qs _ h).trans ?_;exact ((Q64 acc q).append_left qs).trans Ws
  ·rename_i h0;rw [if_neg h0] at h;exact absurd h h0
theorem Q0w {qs:List Pt} (hl:qs.length<=6) (hd:Lf qs):(Rz [] qs).2=0/\(Rz [] qs).1=Gv Qak qs:=by
 rcases Q0v hl with ⟨h1,h2,_,_⟩ | ⟨_,h2⟩
 ·refine ⟨h1,Ql3 h2 (Qos hd) λx=>?_⟩;have h3:=Qld qs [] h1;rw [Xt] at h3;rw [h3.mem_iff,C3]
 ·exact absurd hd h2
end Orr
namespace Orr
open Go Go.Proofs
set_option maxRecDepth 10000
theorem Zbl {α:Type} {f:α->List LV} {lt:α->α->Bool} {O:List α} {c:α} {k:Nat} (hp:Tn lt O c O.length=k):(O.map f).take k++(f c::(O.map f).drop k)=(Ng lt O c).map f:=by
 simp [Ng,hp,Yd,Wh]
theorem Qqo {α:Type} {f:α->List LV} {lt:α->α->Bool} {O:List α} {c:α} {k:Nat} (hp:Tn lt O c O.length=k):(O.map f).take k++([f c]++((O.map f).drop k).take ((O.map f).length-k))=(Ng lt O c).map f:=by
 rw [Qo (l:=(O.map f).drop k) (by simp)];exact Zbl hp
theorem Qca {lt:Pt->Pt->Bool} {O:List Pt} {c:Pt} {k:Nat} (hp:Tn lt O c O.length=k):(U8 O).take k++([rpt c]++((U8 O).drop k).take ((U8 O).length-k))=U8 (Ng lt O c):=Qqo hp
theorem Sx (l:List Pt):(U8 l).length=l.length:=by simp [U8]
theorem Qcx (l:List Pt):∀ c∈U8 l,c.length=7:=λc hc=>by obtain ⟨x,_,rfl⟩:=Zr.1 hc; rfl
theorem Tk {l:List Pt} {i:Nat} {c:Pt} (h:l[i]? = some c):(U8 l)[i]? = some (rpt c):=Gx h
theorem Zam {l:List Pt} (hn:l.length<=1000000):Ub Tryz.prog 64 [.one (.row (U8 l))] [.one (.row (U8 (Gv Qak l)))]:=by
 have hcl:=Sx l;refine Gl Tryz.func64 rfl ?_;refine go tt [.o 3 57 7] rfl trivial ?_;refine lp (S:=Nat) 1 (λL1 i=>(8,.v (.one (.int .i64 (i:Int))))::(3,.v (.one (.orow 0 7 none)))::L1) (λi=>[.row false 57 7 (U8 (Gv Qak (l.take i)))]) (λi=>l.length-i) (λi=>i<=l.length) 0 (Qi _) rfl (λ_ _=>rfl) rfl λi hi=>?_
 by_cases hlt:i<l.length
 ·obtain ⟨c,hc⟩:=gxE (l:=l) (i:=i) hlt;have hst:Gv Qak (l.take (i+1))=Ng Qak (Gv Qak (l.take i)) c:=Ar hc;obtain ⟨O,hO⟩:=nmE (Gv Qak (l.take i));have hOl:O.length=i:=by rw [hO,Tv,Qy]; omega
  have hrl:=Sx O;rw [<-hO] at hst ⊢;refine go tt [.t (decide_eq_true (by omega))] rfl trivial ?_;refine lp (S:=Nat) 1 (λL1 k=>(5,.v (.one (.int .i64 (k:Int))))::L1) (λ_=>[.row false 57 7 (U8 O)]) id (λk=>k<=O.length/\Tn Qak O c k=Tn Qak O c O.length) (U8 O).length ⟨by omega,by rw [hrl]⟩ rfl (λ_ _=>rfl) rfl λk ⟨hk,hp⟩=>?_
  have h7:=Qcx O;have h7z:∀ y∈[rpt c],y.length=7:=λy hy=>by rw [Qp.1 hy]; rfl
  cases k with
  |
   zero =>
   have hp:Tn Qak O c O.length=0:=by rw [<-hp]; rfl
   refine go tt [.g 15 false (by simp),.f rfl,.i 0,.x (Tk hc),.lo,.i 0,.s (sz:=7) (λy hy=>h7 y (Qn hy)),.s (sz:=7) (λy hy=>(Qz.1 hy).elim (h7z y) λhy=>h7 y (Qn hy))] rfl (by simp [Ua]; omega) ?_;exact rd (i+1) (by omega) hlt (by rw [hst,<-Qca hp]; rfl)
  |
   succ k =>
   obtain ⟨x,hx⟩:=gxE (l:=O) (i:=k) (by omega);by_cases hlc:Qak c x=true
   ·refine go tt [.g 15 true (by simp),.x (Tk hc),.r 23 (eI (b:=(k:Int)) (by simp)),.i k,.x (Tk hx),.t hlc,.r 30 (eI (b:=(k:Int)) (by simp))] rfl (by simp [Ua]; omega) ?_;exact rd k (by simp) ⟨by omega,by rw [<-hp,Qcp hx hlc]⟩ rfl
   ·have hlc:Qak c x=false:=by simpa using hlc
    have hp:Tn Qak O c O.length=k+1:=by rw [<-hp,I6 hx hlc]
    refine go tt [.g 15 true (by simp),.x (Tk hc),.r 23 (eI (b:=(k:Int)) (by simp)),.i k,.x (Tk hx),.f hlc,.i (k+1),.x (Tk hc),.lo,.i (k+1),.s (sz:=7) (λy hy=>h7 y (Zg (Qn hy))),.s (sz:=7) (λy hy=>(Qz.1 hy).elim (h7z y) λhy=>h7 y (Zg (Qn hy)))] rfl (by simp [Ua]; omega) ?_;exact rd (i+1) (by omega) hlt (by rw [hst,<-Qca hp]; rfl)
 ·obtain rfl:i=l.length:=by omega
  rw [Q4];exact en tt [.f (decide_eq_false (by omega))] rfl rfl trivial
end Orr
