/- F9 G3 G4 K3 K4 S1 S2 S3 R5 R6 RefGL R7 RatOkL R8 R9 RefCL R10 RawL NewsL KGoL SortQ BegL R11 -/
import Derived.Test.YtledghfgedoofaaGreatPart07
import Derived.Test.YtledghfgedoofaaGreatPart00
import Derived.Test.YtledghfgedoofaaGreatPart05
set_option linter.all false
namespace Orr
open Go Go.Proofs Orq
set_option maxRecDepth 10000
abbrev tal (l:List Tm):List (List LV):=l.map λt=>ta t
theorem Qi6 {p:List Int} {c:List (List Int)} (hp:Pb p):∀ {k:Nat} {lo hi:Rat} {n:Int} {r:List Tm},Qb lo->Qb hi->Ed p c k lo hi n=some r->∀ t∈r,Tb t
 | 0,_,_,_,_,_,_,h=>by cases h
 |
  k+1,lo,hi,n,r,hl,hh,h=>by
  simp only [Ed] at h
  split at h
  ·injection h with h; subst h; exact λt ht=>by cases ht
  ·split at h
   ·injection h with h; subst h;intro t ht; rw [Qk.1 ht]; exact ⟨hp,hl,hh⟩
   ·obtain ⟨m,hm,h⟩:=Qf.1 h;obtain ⟨rfl,qm⟩:=Qj3 hm;obtain ⟨x,hx,h⟩:=Qf.1 h;obtain ⟨y,hy,h⟩:=Qf.1 h;injection h with h; subst h;intro t ht;rcases Qu.1 ht with ht | ht
    ·exact Qi6 hp hl qm hx t ht
    ·exact Qi6 hp qm hh hy t ht
theorem Zk6 (l:List Tm):∀ c∈tal l,c.length=9:=λc hc=>by obtain ⟨t,_,rfl⟩:=Zr.1 hc; rfl
theorem Qw2 {p:List Int} {c:List (List Int)} (hp:Pb p) (hcl:c.length≤1000) (hc:∀ q∈c,Pb q):∀ {k:Nat} {lo hi:Rat} {n:Int} {r:List Tm},Qb lo->Qb hi->k≤100000->-(1000*(100001-k:Nat))≤n/\n≤1000*(100001-k:Nat)->Ed p c k lo hi n=some r->r.length≤1000000->Hh Tryz.prog 261 [pr p,.one (.sh [.row (Sf c)]),.agg (rl lo),.agg (rl hi),.one (.int .i64 n)] [] [.one (.orow 0 9 none)] [.row false 64 9 (tal r)]
 | 0,_,_,_,_,_,_,_,_,h,_=>by cases h
 |
  k+1,lo,hi,n,r,hl,hh,hk,hn,h,hr=>by
  simp only [Ed] at h
  split at h
  ·rename_i h0;injection h with h; subst h;refine Gv Tryz.func261 rfl ?_;exact ed tt [] [2] [.t (by simpa using h0),.o 10 64 9] rfl trivial
  ·rename_i h0
   split at h
   ·rename_i h1;injection h with h; subst h;refine Gv Tryz.func261 rfl ?_;exact ed tt [] [2] [.f (by simpa using h0),.t (by simpa using h1),.c [] (Hm hp.t hp.ln hp.bd),.c [] (Ep hl.s32),.c [] (Ep hh.s32),.lo] rfl trivial
   ·rename_i h1;obtain ⟨m,hm,h⟩:=Qf.1 h;obtain ⟨rfl,qm⟩:=Qj3 hm;obtain ⟨x,hx,h⟩:=Qf.1 h;obtain ⟨y,hy,h⟩:=Qf.1 h;injection h with h; subst h;have hb:=Qv9 (l:=c) (lo:=lo) (hi:=mid lo hi) hcl;rw [Q4] at hr;have c1:=Qw2 hp hcl hc hl qm (by omega) (by omega) hx (by omega);have c2:=Qw2 hp hcl hc qm hh (by omega) (by omega) hy (by omega);rw [show tal (x++y)=tal x++tal y from J1];refine Gv Tryz.func261 rfl ?_;exact ed tt [] [3] [.f (by simpa using h0),.f (by simpa using h1),.c [] (Zhk hl hh),.c [] (Qmy hcl hc hl qm),.c [3] c1,.c [4] c2,.s (Zk6 y)] rfl (by simp [Ur]; omega)
theorem Zdu {p:List Int} {r:List Tm} (hp:Pb p) (h:Qon p=some r) (hr:r.length<=1000000):Ut Tryz.prog 241 [pr p] [.one (tas r),.one (.int .i64 0)]:=by
 unfold Qon at h;obtain ⟨c,h1,h⟩:=Qf.1 h;obtain ⟨q,h2,h⟩:=Qf.1 h;obtain ⟨b,h3,h⟩:=Qf.1 h;obtain ⟨rfl,hb⟩:=Qj3 h3;obtain ⟨k1,k2⟩:=chain_ok hp h1;have hq:=Qgw hp h2;have q0:q.length≠0:=by
  unfold Ay at h1;obtain ⟨a,a1,h1⟩:=Qf.1 h1;rw [h2] at a1; injection a1 with a1; subst a1
  split at h1
  ·cases h1
  ·assumption
 have qn:Qb (-Gy q):=⟨by rw [Rat.neg_num,Hg]; exact hb.1,by rw [Rat.neg_den]; exact hb.2⟩;have bb1:Bn Oz c<=c.length:=Df (λp=>(Qf8 p).1) c;have bb2:Bn Qd7 c<=c.length:=Df (λp=>(Qf8 p).2) c;have hn:-(1000*(100001-100000:Nat):Int)<=Qba c/\Qba c<=1000*(100001-100000:Nat):=by unfold Qba; omega
 have cr:=Qw2 hq (by omega) k2 qn hb (Ql _) hn h hr;refine Gv Tryz.func241 rfl ?_;exact ed tt [1] [] [.c [] (Q6x hp h1),.f rfl,.c [] (Qjt hp h2),.c [] (Zdj hq q0),.c [] (Zjf hb.s32),.c [] (Zdk (by omega) k2),.c [1] cr] rfl trivial
def Uy (l:List Pt):List (List LV):=l.map Hb
theorem Hr {l:List Pt} {i:Nat} {c:Pt} (h:l[i]? = some c):(Uy l)[i]? = some (Hb c):=Gx h
theorem Rj (l:List Pt):(Uy l).length=l.length:=by simp [Uy]
theorem Qrk (l:List Pt):∀ c∈Uy l,c.length=5:=λc hc=>by
 obtain ⟨x,_,rfl⟩:=Zr.1 hc; rfl
abbrev zPt:List LV:=[.nils,.nils,.bool false,.nils,.int .i64 0]
theorem Q1a {lt:Pt->Pt->Bool} {O:List Pt} {z:List LV} {c:Pt} {k m:Nat} {l2:List (List LV)} (hk:k<=O.length) (hp:Tn lt O c O.length=k) (hm:m=O.length-k) (h2:l2.take m=((Uy O++[z]).drop k).take m) :
 ((Uy O++[z]).take (k+1)++(l2.take m++(Uy O++[z]).drop (k+1+m))).set k (Hb c)=Uy (P6 lt O c):=by
 rw [h2,<-Zl,Qtx (Uy O) z (Hb c) (by rw [Rj]; omega) (by rw [Rj]; omega)];simp [P6,hp,Uy,Jp,W5]
def Sl (t:Tm) (l:List Pt):List Pt:=Fx (Td (G0 t)) l
theorem Qzy {l:List Pt} {t:Tm} (hl:∀ p∈l,Sc p.c) (hn:l.length≤1000000) (ht:Va t):Ut Tryz.prog 72 [.agg (ta t),.one (pts l)] [.one (pts (Sl t l))]:=by
 have hcl:=Rj l;show Ut Tryz.prog 72 [.agg (ta t),.one (.row (Uy l))] [.one (.row (Uy (Sl t l)))];obtain ⟨lt,hlt0⟩:=nmE (Td (G0 t));unfold Sl;rw [<-hlt0];refine Gv Tryz.func72 rfl ?_;refine go tt [.o 5 33 5] rfl trivial ?_;refine lp (S:=Nat) 2 (λL1 i=>(11,.v (.one (.int .i64 (i:Int))))::(5,.v (.one (.orow 1 5 none)))::L1) (λi=>[.blk 64 (ta t),.row false 33 5 (Uy (Fx lt (l.take i)))]) (λi=>l.length-i) (λi=>i<=l.length) 0 (Qh _) rfl (λ_ _=>rfl) rfl λi hi=>?_
 by_cases hlt:i<l.length
 ·obtain ⟨c,hc⟩:=gxE (l:=l) (i:=i) hlt;have hst:Fx lt (l.take (i+1))=P6 lt (Fx lt (l.take i)) c:=Eh hc;have hcp:=hl c (Qa hc);obtain ⟨O,hO⟩:=nmE (Fx lt (l.take i));have hOl:O.length=i:=by rw [hO,H9,Qr]; omega
  have hOm:∀ x∈O,Sc x.c:=λx hx=>by rw [hO,S7] at hx; exact hl x (Qm hx)
  rw [<-hO] at hst ⊢;refine go tt [.t (by simp [hcl]; omega),.x (Hr hc)] rfl trivial ?_;refine lp (S:=Nat) 3 (λL1 k=>(8,.v (.one (.int .i64 (k:Int))))::L1) (λk=>[.blk 64 (ta t),.row false 33 5 (Uy O),.blk 33 (Hb c)]) id (λk=>k<=O.length/\Tn lt O c k=Tn lt O c O.length) (Uy O).length ⟨by rw [Rj]; exact Ql _,by rw [Rj]⟩ rfl (λ_ _=>rfl) rfl λk ⟨hk,hp⟩=>?_
  have hz:∀ y∈[zPt],y.length=5:=λy hy=>by rw [Qk.1 hy]; rfl
  have h77:∀ y∈Uy O++[zPt],y.length=5:=λy hy=>by
   rcases Qu.1 hy with hy | hy
   ·exact Qrk O y hy
   ·exact hz y hy
  cases k with
  |
   zero =>
   have hp:Tn lt O c O.length=0:=by rw [<-hp]; rfl
   refine go tt [.g 19 false (by simp),.f rfl,.s (sz:=5) hz,.r 37 (eI (b:=((0+1:Nat):Int)) (by simp)),.i (0+1),.i (0),.s (sz:=5) (λy hy=>h77 y (Qm hy)),.i (O.length),.i (0)] rfl (by simp [Ur,Rj]; omega) ?_;exact rd (i+1) (by omega) hlt (by rw [hst,<-Q1a (z:=zPt) (l2:=(Uy O++[zPt]).take ((Uy O++[zPt]).length-0)) (k:=0) (m:=O.length) (by omega) hp (by omega) (by congr 1; exact Qn (by simp))]; rfl)
  |
   succ k =>
   obtain ⟨x,hx⟩:=gxE (l:=O) (i:=k) (by omega);have cb:=Q6b hcp (hOm x (Qa hx)) ht;rw [<-hlt0] at cb;by_cases hlc:lt c x=true
   ·refine go tt [.g 19 true (by simp),.r 23 (eI (b:=(k:Int)) (by simp)),.i k,.x (Hr hx),.c [] cb,.t hlc,.r 30 (eI (b:=(k:Int)) (by simp))] rfl (by simp [Ur,Rj]; omega) ?_;exact rd k (by simp) ⟨by omega,by rw [<-hp,Qb1 hx hlc]⟩ rfl
   ·have hlc:lt c x=false:=by simpa using hlc
    have hp:Tn lt O c O.length=k+1:=by rw [<-hp,Ii hx hlc]
    refine go tt [.g 19 true (by simp),.r 23 (eI (b:=(k:Int)) (by simp)),.i k,.x (Hr hx),.c [] cb,.f hlc,.s (sz:=5) hz,.r 37 (eI (b:=((k+1+1:Nat):Int)) (by simp)),.i (k+1+1),.i (k+1),.s (sz:=5) (λy hy=>h77 y (Zc (Qm hy))),.i (O.length-(k+1)),.i (k+1)] rfl (by simp [Ur,Rj]; omega) ?_;exact rd (i+1) (by omega) hlt (by rw [hst,<-Q1a (z:=zPt) (l2:=((Uy O++[zPt]).drop (k+1)).take ((Uy O++[zPt]).length-(k+1))) (k:=k+1) (m:=O.length-(k+1)) (by omega) hp (by omega) (by congr 1; exact Qn (by simp))]; rfl)
 ·obtain rfl:i=l.length:=by omega
  rw [Qy];exact en tt [.f (by simp [hcl])] rfl rfl trivial
def Si (sg:List Int->Int):List Pt->List Ct
 | a::b::l=>Nw sg a b::Si sg (b::l)
 | _=>[]
theorem Ni (sg:List Int->Int):∀ l:List Pt,(Si sg l).length=l.length-1
 | []=>rfl
 | [_]=>rfl
 | a::b::l=>by simp only [Si,Q7,Ni sg (b::l)]; omega
theorem Qg3 (sg:List Int->Int):∀ {l:List Pt} {i:Nat} {a b:Pt},l[i]? = some a->l[i+1]? = some b->(Si sg l).take (i+1)=(Si sg l).take i++[Nw sg a b]
 | [],i,a,b,h,_=>by simp at h
 | [x],i,a,b,_,h=>by cases i <;> simp at h
 | x::y::l,0,a,b,h1,h2=>by simp at h1 h2; subst h1; subst h2; simp [Si]
 |
  x::y::l,i+1,a,b,h1,h2=>by
  have ih:=Qg3 sg (l:=y::l) (i:=i) (a:=a) (b:=b) (by simpa using h1) (by simpa using h2);simp only [Si,J6] at ih ⊢;rw [ih]; rfl
theorem Zdv:Ut Tryz.prog 211 [pr []] [.one .nilp,.one (.int .i64 2)]:=by
 have h:P9 []=some []:=rfl;exact w tt Tryz.func211 rfl [.c [] (Qjt Qgv h),.t rfl] rfl rfl trivial
theorem Q6w:Ut Tryz.prog 241 [pr []] [.one (.row []),.one (.int .i64 2)] :=
 w tt Tryz.func241 rfl [.c [] Zdv,.t rfl] rfl rfl trivial
theorem Zkf {a o:List Int} (ha:Pb a) (h:Qx6 a=some o):Pb o:=by
 unfold Qx6 at h
 split at h
 ·injection h with h; subst h; exact Qgv
 ·obtain ⟨l,hl,h⟩:=Qf.1 h;obtain ⟨fs,hf,h⟩:=Qf.1 h;exact Qbz Zag (Qqb (Qiy (Ri ha) hl).2 hf) h
theorem Q6g {p:List Int} {l:List Tm} (hp:Pb p) (h:Qdm p=some l) (hl:l.length<=1000000):Ut Tryz.prog 214 [pr p] [.one (tas l)]:=by
 unfold Qdm at h;obtain ⟨q,hq,h⟩:=Qf.1 h;have qp:=Zkf hp hq;have co:=Zl5 hp hq
 split at h
 ·rename_i h0;injection h with h; subst h;obtain rfl:=Qi h0;exact w tt Tryz.func214 rfl [.c [] co,.c [] Q6w,.t rfl] rfl rfl trivial
 ·exact w tt Tryz.func214 rfl [.c [] co,.c [] (Zdu qp h hl),.f rfl] rfl rfl trivial
def ota:Option Tm->List LV
 | none=>zTr
 | some t=>ta t
theorem Zdm {p:List Int} {a:Tm} {l:List Tm} {r:Option Tm} (hp:Pb p) (ha:Tb a) (h:Qdm p=some l) (hl:l.length≤1000000) (ht:∀ t∈l,Tb t) (hr:Qco a l=some r):Ut Tryz.prog 173 [pr p,.agg (ta a)] [.agg (ota r),.one (.bool r.isSome)]:=by
 have hll:(l.map λt=>ta t).length=l.length:=by simp
 refine Gv Tryz.func173 rfl ?_;refine go tt [.c [] (Q6g hp h hl)] rfl trivial ?_;refine lp (S:=Nat) 2 (λL1 i=>(11,.v (.one (.int .i64 (i:Int))))::L1) (λ_=>[.blk 64 (ta a),.blk 64 zTm]) (λi=>l.length-i) (λi=>i<=l.length/\Qco a (l.drop i)=some r) 0 ⟨Qh _,hr⟩ rfl (λ_ _=>rfl) rfl λi ⟨hi,hf⟩=>?_
 by_cases hlt:i<l.length
 ·obtain ⟨t,hx⟩:=gxE (l:=l) (i:=i) hlt;have hdr:l.drop i=t::l.drop (i+1):=by
   rw [Zi hlt]; congr 1;have:=Qe hlt; rw [hx] at this; injection this with this; exact this.symm
  rw [hdr] at hf;simp only [Qco] at hf;obtain ⟨c,c1,hf⟩:=Qf.1 hf;have cc:=Qpi (ht t (Qa hx)) ha c1;by_cases hc:0<c
  ·rw [if_pos hc] at hf;injection hf with hf; subst hf;exact en tt [.t (by simp; omega),.x (Qjg hx),.c [] cc,.t (by simpa using hc)] rfl rfl trivial
  ·rw [if_neg hc] at hf;refine go tt [.t (by simp; omega),.x (Qjg hx),.c [] cc,.f (by simpa using hc)] rfl (by simp [Ur]; omega) ?_;exact rd (i+1) (by omega) ⟨hlt,hf⟩ rfl
 ·obtain rfl:i=l.length:=by omega
  rw [Yo] at hf;simp only [Qco] at hf;injection hf with hf; subst hf;exact en tt [.f (by simp)] rfl rfl trivial
def Qay (now:Tm):List Wt->Option (List Wt)
 | []=>some []
 | w::l=>(if w.known=true then some w else (Qhw w.c.p now).bind λr=>some ⟨w.c,true,r⟩).bind λw'=>(Qay now l).bind λr=>some (w'::r)
theorem Qgs {now:Tm}:∀ {l ws:List Wt},Qay now l=some ws->ws.length=l.length/\∀ (i:Nat) (w:Wt),l[i]? = some w->∃ v,ws[i]? = some v/\(w.known=true/\v=w\/w.known=false/\∃ r,Qhw w.c.p now=some r/\v=⟨w.c,true,r⟩)
 | [],ws,h=>by injection h with h; subst h; exact ⟨rfl,λi x hx=>by simp at hx⟩
 |
  y::l,ws,h=>by
  simp only [Qay] at h;obtain ⟨v,hv,h⟩:=Qf.1 h;obtain ⟨r,hr,h⟩:=Qf.1 h;injection h with h; subst h;obtain ⟨a,b⟩:=Qgs hr;refine ⟨by simp [a],λi x hx=>?_⟩;cases i with
  |
   zero =>
   injection hx with hx; subst hx;refine ⟨v,rfl,?_⟩
   split at hv
   ·rename_i hk; injection hv with hv; exact .inl ⟨hk,hv.symm⟩
   ·rename_i hk;obtain ⟨q,hq,hv⟩:=Qf.1 hv;injection hv with hv;exact .inr ⟨by simpa using hk,q,hq,hv.symm⟩
  | succ i=>exact b i x (by simpa using hx)
theorem Q6f {p:List Int} {a:Tm} {r:Option Tm} (hp:Cp p) (ha:Va a) (h:Qhw p a=some r):Ut Tryz.prog 173 [pr p,.agg (ta a)] [.agg (ota r),.one (.bool r.isSome)]:=by
 obtain ⟨l,l1,l2,l3,_⟩:=Qbi hp;unfold Qhw at h;rw [l1] at h;exact Zdm (Dp.pb hp.dp) ha.tb l1 (by omega) (λt ht=>(l3 t ht).tb) h
theorem Zdp {T:Nat} {c:Cr} {r0 r1:List (List LV)} {ws:List Wt} (hc:CrOk c) (h:Qay c.now c.l=some ws):Hh Tryz.prog 126 [.one (.ow 0 0)] [.blk T (B9 c r0 r1)] [] [.blk T (B9 { c with l:=ws } r0 r1)]:=by
 have hk:=hc.k;have hw:=Dh c.l;obtain ⟨h1,h2⟩:=Qgs h;refine Gv Tryz.func126 rfl ?_;refine go tt [.o 2 125 18,.c [0] (Qwj hc.n)] rfl trivial ?_;refine lp (S:=Nat) 3 (λL1 i=>(13,.v (.one (.int .i64 (i:Int))))::(2,.v (.one (.orow 1 18 none)))::L1) (λi=>[.blk T (B9 c r0 r1),.row false 125 18 (Qdp (ws.take i)),.blk 64 (ta c.now)]) (λi=>c.l.length-i) (λi=>i<=c.l.length) 0 (Qh _) rfl (λ_ _=>rfl) rfl λi hi=>?_
 by_cases hlt:i<c.l.length
 ·obtain ⟨w,hx⟩:=gxE (l:=c.l) (i:=i) hlt;obtain ⟨v,hv,h3⟩:=h2 i w hx;have hm:∀ y∈[wl v],y.length=18:=λy hy=>by rw [Qk.1 hy]; rfl
  have hg:=Qhd hv;have hl:decide ((i:Int)<((Qdp c.l).length:Int))=true:=by simp [hw]; omega
  rcases h3 with ⟨k1,rfl⟩ | ⟨k1,r,k2,rfl⟩
  ·obtain ⟨vc,vk,vf⟩:=v;cases vf <;> (refine go tt [.t hl,.x (Pz hx),.f (by rw [show vk=true from k1]; rfl),.s (sz:=18) hm] rfl (by simp [Ur,Dh]; omega) ?_; exact rd (i+1) (by omega) hlt (by rw [hg]; rfl))
  ·have cg:=Q6f (hc.l w (Qa hx)).p hc.n k2;obtain ⟨wc,wk,wf⟩:=w;cases r <;> cases wf <;> (refine go tt [.t hl,.x (Pz hx),.t (by rw [show wk=false from k1]; rfl),.c [] cg,.s (sz:=18) hm] rfl (by simp [Ur,Dh]; omega) ?_; exact rd (i+1) (by omega) hlt (by rw [hg]; rfl))
 ·obtain rfl:i=c.l.length:=by omega
  rw [<-h1,Qy];exact ed tt [1] [0] [.f (by simp [hw,h1])] rfl trivial
def Qui (ws:List Wt):Option (Option Tm):=match ws.filterMap (·.fails) with
 | []=>some none
 | b::l=>(Oe b l).map some
theorem Qi0 {c:Cr} {ws:List Wt} (hc:CrOk c) (h:Qay c.now c.l=some ws):CrOk { c with l:=ws }:=by
 obtain ⟨h1,h2⟩:=Qgs h;refine ⟨hc.n,λv hv=>?_,by show ws.length<=1000; rw [h1]; exact hc.k⟩;obtain ⟨i,hi⟩:=Yf hv;have hil:i<c.l.length:=by rw [<-h1]; exact (Qd.1 hi).1
 obtain ⟨v',h3,h4⟩:=h2 i _ (Qe hil);rw [hi] at h3; injection h3 with h3; subst h3;have hw:=hc.l _ (Xv hil);rcases h4 with ⟨_,rfl⟩ | ⟨_,r,k2,rfl⟩
 ·exact hw
 ·obtain ⟨r',r1,r2⟩:=Q94 hw.p hc.n;rw [k2] at r1; injection r1 with r1; subst r1;refine ⟨hw.p,λt ht=>?_⟩;have ht:r=some t:=ht;subst ht;exact r2.2.1
theorem Zdq {T:Nat} {c:Cr} {r0 r1:List (List LV)} {ws:List Wt} {r:Option Tm} (hc:CrOk c) (h:Qay c.now c.l=some ws) (hr:Qui ws=some r):Hh Tryz.prog 79 [.one (.ow 0 0)] [.blk T (B9 c r0 r1)] [.agg (ota r),.one (.bool r.isSome)] [.blk T (B9 { c with l:=ws } r0 r1)]:=by
 have hcl:=Zdp (T:=T) (r0:=r0) (r1:=r1) hc h;have hc':=Qi0 hc h;have hk:=hc'.k;have hw:=Dh ws;have hvb:∀ t∈ws.filterMap (·.fails),Tb t:=λt ht=>by
  obtain ⟨w,w1,w2⟩:=Jm.1 ht;exact ((hc'.l w w1).f t w2).tb
 refine Gv Tryz.func79 rfl ?_;refine go tt [.c [0] hcl,.o 4 64 9] rfl trivial ?_;refine lp (S:=Nat) 3 (λL1 i=>(14,.v (.one (.int .i64 (i:Int))))::(4,.v (.one (.orow 2 9 none)))::L1) (λi=>[.blk T (B9 { c with l:=ws } r0 r1),.blk 64 zTm,.row false 64 9 (tal ((ws.take i).filterMap (·.fails)))]) (λi=>ws.length-i) (λi=>i<=ws.length) 0 (Qh _) rfl (λ_ _=>rfl) rfl λi hi=>?_
 by_cases hlt:i<ws.length
 ·obtain ⟨w,hx⟩:=gxE (l:=ws) (i:=i) hlt;have hl:decide ((i:Int)<((Qdp ws).length:Int))=true:=by simp [hw]; omega
  have hfl:((ws.take i).filterMap (·.fails)).length<=i:=Qc (List.length_filterMap_le _ _) (by rw [Qr]; omega);have hg:(ws.take (i+1)).filterMap (·.fails)=(ws.take i).filterMap (·.fails)++(match w.fails with | none=>[] | some t=>[t]):=by
   rw [Zs,hx,List.filterMap_append];show _++List.filterMap (·.fails) [w]=_;cases hwf:w.fails <;> simp [hwf]
  obtain ⟨wc,wk,wf⟩:=w;have hk:ws.length<=1000:=hk;cases wf with
  |
   none =>
   refine go tt [.t hl,.x (Pz hx),.f rfl] rfl (by simp [Ur]; omega) ?_;exact rd (i+1) (by omega) hlt (by rw [hg]; simp; rfl)
  |
   some t =>
   refine go tt [.t hl,.x (Pz hx),.t rfl,.s (l:=[ta t]) (sz:=9) (λc hc=>by rw [Qk.1 hc]; rfl)] rfl (by simp [Ur]; omega) ?_;exact rd (i+1) (by omega) hlt (by rw [hg]; simp [tal]; rfl)
 ·obtain rfl:i=ws.length:=by omega
  rw [Qy];have hf:decide ((ws.length:Int)<((Qdp ws).length:Int))=false:=by simp [hw]
  have hln:(ws.filterMap (·.fails)).length<=1000:=Qc (List.length_filterMap_le _ _) hk;unfold Qui at hr;cases hfm:ws.filterMap (·.fails) with
  |
   nil =>
   rw [hfm] at hr;injection hr with hr; subst hr;exact ed tt [] [0] [.f hf,.p 2,.c [] Q6i] rfl trivial
  |
   cons b l =>
   rw [hfm] at hr hvb hln;obtain ⟨m,m1,rfl⟩:=Vr.1 hr;have cl:=O7 (hvb b (Qx ..)) (λt ht=>hvb t (Qj _ ht)) (by simp at hln; omega) m1;exact ed tt [] [0] [.f hf,.p 2,.c [] cl] rfl trivial
theorem Qlc {at_:Tm} {x:Ct}:∀ {l:List Wt} {w:Wt},Lz l x at_=some w->w=fresh x\/∃ v∈l,v.known=true/\v.c.p=x.p/\w=⟨x,true,v.fails⟩/\∀ t,v.fails=some t->∃ c,Qj5 t at_=some c/\0<c
 | [],w,h=>by simp only [Lz] at h; injection h with h; exact .inl h.symm
 |
  v::l,w,h=>by
  simp only [Lz] at h;have tl:Lz l x at_=some w->w=fresh x\/∃ v'∈v::l,v'.known=true/\v'.c.p=x.p/\w=⟨x,true,v'.fails⟩/\∀ t,v'.fails=some t->∃ c,Qj5 t at_=some c/\0<c:=λh=>by
   rcases Qlc h with h | ⟨v',h1,h2⟩
   ·exact .inl h
   ·exact .inr ⟨v',Qj _ h1,h2⟩
  split at h
  ·rename_i hk;cases hf:v.fails with
   |
    none =>
    rw [hf] at h;injection h with h;exact .inr ⟨v,Qx ..,hk.2.1,hk.2.2,by rw [hf]; exact h.symm,λt ht=>by rw [hf] at ht; cases ht⟩
   |
    some t =>
    rw [hf] at h;obtain ⟨c,c1,h⟩:=Qf.1 h
    split at h
    ·rename_i h0;injection h with h;exact .inr ⟨v,Qx ..,hk.2.1,hk.2.2,by rw [hf]; exact h.symm,λu hu=>by rw [hf] at hu; injection hu with hu; subst hu; exact ⟨c,c1,h0⟩⟩
    ·exact tl h
  ·exact tl h
theorem lay_ok {c:Cr} {at_:Tm} {l:List Ct} {ws:List Wt} (ev:Int) (hc:CrOk c) (ha:Va at_) (hl:∀ x∈l,Cp x.p) (hn:l.length≤1000) (h:Qei c.l at_ (Hi l)=some ws):CrOk ⟨at_,ws,ev⟩:=by
 obtain ⟨h1,h2⟩:=Qej h;refine ⟨ha,λw hw=>?_,by show ws.length<=1000; rw [h1,Ll]; exact hn⟩;obtain ⟨i,hi⟩:=Yf hw;have hil:i<(Hi l).length:=by rw [<-h1]; exact (Qd.1 hi).1
 obtain ⟨v,h3,h4⟩:=h2 i _ (Qe hil);rw [hi] at h4; injection h4 with h4; subst h4;have hx:=hl _ (Qb8 (Xv hil));rcases Qlc h3 with e | ⟨v,v1,_,v3,e,_⟩
 ·rw [e]; exact ⟨hx,λt ht=>by cases ht⟩
 ·rw [e]; exact ⟨hx,λt ht=>(hc.l v v1).f t ht⟩
def goF {β:Type} (Bc:Tm->List Ct) (Br:Tm->β) (t:Rat):Nat->Cr->β->Int->Option (Cr×β×Int)
 | 0,_,_,_=>none
 |
  k+1,c,r,n=>(Qay c.now c.l).bind λws=>(Qui ws).bind λo=>match o with
  | none=>some (⟨tq t,ws,c.ev⟩,r,n)
  | some a=>if 0<Fe a t then some (⟨tq t,ws,c.ev⟩,r,n) else (Qei ws a (Hi (Bc a))).bind λw2=>goF Bc Br t k ⟨a,w2,c.ev+1⟩ (Br a) (n+1)
theorem Q99 {ws:List Wt} {a:Tm} (h:Qui ws=some (some a)) (hv:∀ t∈ws.filterMap (·.fails),Va t):a∈ws.filterMap (·.fails)/\∀ t∈ws.filterMap (·.fails),¬Pj t a:=by
 unfold Qui at h;cases hf:ws.filterMap (·.fails) with
 | nil=>rw [hf] at h; injection h with h; cases h
 |
  cons b l =>
  rw [hf] at h hv;obtain ⟨m,m1,m2⟩:=Vr.1 h;injection m2 with m2; subst m2;obtain ⟨m',n1,n2,n3⟩:=Qgn l b hv;rw [m1] at n1; injection n1 with n1; subst n1;exact ⟨n2,n3⟩
theorem Zke {c:Cr} {ws:List Wt} {a:Tm} (hc:CrOk c) (h:Qay c.now c.l=some ws) (hr:Qui ws=some (some a)):Va a:=by
 have hc':=Qi0 hc h;have hv:∀ t∈ws.filterMap (·.fails),Va t:=λt ht=>by
  obtain ⟨w,w1,w2⟩:=Jm.1 ht;exact (hc'.l w w1).f t w2
 exact hv a (Q99 hr hv).1
structure BuildOk (Bc:Tm->List Ct):Prop where
 p:∀ a,Va a->∀ x∈Bc a,Cp x.p
 n:∀ a,Va a->(Bc a).length<=1000
theorem Qbo {T:Nat} {c:Cr} {r0 r1:List (List LV)}:Hh Tryz.prog 22 [.one (.ow 0 0)] [.blk T (B9 c r0 r1)] [.one (.int .i64 c.ev)] [.blk T (B9 c r0 r1)]:=by
 refine Gv Tryz.func22 rfl ?_;exact ed tt [] [0] [] rfl trivial
def bcS (l:List Pt) (a:Tm):List Ct:=Si (G0 a) (Sl a l)
theorem Hq {t:Tm} {l:List Pt} {p:Pt}:p∈Sl t l↔p∈l:=by
 unfold Sl Fx; rw [Qc5]; simp
theorem Dc (t:Tm) (l:List Pt):(Sl t l).length=l.length:=H9 _ _

abbrev idl (l:List Int):List (List LV):=l.map λ(z:Int)=>[.int .i64 z]
theorem Oc {l:List Int} {i:Nat} {z:Int} (h:l[i]? = some z):(idl l)[i]? = some [.int .i64 z]:=Gx h
theorem Q6y {a b:List Int} (ha:a.length<=1000000) (hb:b.length<=1000000):Ut Tryz.prog 10 [.one (ids a),.one (ids b)] [.one (.bool (decide (a=b)))]:=by
 show Ut Tryz.prog 10 [.one (.row (idl a)),.one (.row (idl b))] _;have la:(idl a).length=a.length:=by simp
 have lb:(idl b).length=b.length:=by simp
 refine Gv Tryz.func10 rfl ?_;by_cases hl:a.length=b.length
 ·refine go tt [.f (by simp; omega)] rfl trivial ?_;refine lp (S:=Nat) 0 (λL1 i=>(5,.v (.one (.int .i64 (i:Int))))::L1) (λ_=>[]) (λi=>a.length-i) (λi=>i<=a.length/\a.take i=b.take i) 0 ⟨Qh _,rfl⟩ rfl (λ_ _=>rfl) rfl λi ⟨hi,he⟩=>?_
  by_cases hlt:i<a.length
  ·obtain ⟨x,hx⟩:=gxE (l:=a) (i:=i) hlt;obtain ⟨y,hy⟩:=gxE (l:=b) (i:=i) (by omega);by_cases e:x=y
   ·refine go tt [.t (by simp; omega),.x (Oc hx),.x (Oc hy),.f (by simpa using e)] rfl (by simp [Ur]; omega) ?_;exact rd (i+1) (by omega) ⟨hlt,by rw [Zs,Zs,hx,hy,he,e]⟩ rfl
   ·have hne:a≠b:=λh=>by rw [h,hy] at hx; injection hx with hx; exact e hx.symm
    exact en tt [.t (by simp; omega),.x (Oc hx),.x (Oc hy),.t (by simpa using e)] rfl (by simp [hne]) trivial
  ·obtain rfl:i=a.length:=by omega
   have hab:a=b:=by rw [Qy] at he; rw [he,hl,Qy]
   exact en tt [.f (by simp)] rfl (by simp [hab]) trivial
 ·have hne:a≠b:=λh=>hl (by rw [h])
  exact en tt [.t (by simp; omega)] rfl (by simp [hne]) trivial
def Di (v n:Int):Int:=if n<1 then 0 else v.emod n
theorem Q5k {v n:Int} (h:0<n):(if v.tmod n<0 then v.tmod n+n else v.tmod n)=v % n:=by
 have h3:=Yd v (show n≠0 by omega);have h4:=Jl v h;have h1:=Int.tmod_eq_emod (a:=v) (b:=n);have hn:((n.natAbs:Nat):Int)=n:=by omega
 split at h1
 ·rw [h1]; simp; omega
 ·rename_i hc;rw [h1,hn];have:v % n≠0:=λe=>hc (.inr (Ym e))
  rw [if_pos (by omega)]; omega
theorem Qdw {v n:Int} (hv:-9223372036854775808<=v/\v<=9223372036854775807) (hn:n<=1000000000):Ut Tryz.prog 6 [.one (.int .i64 v),.one (.int .i64 n)] [.one (.int .i64 (Di v n))]:=by
 unfold Di;by_cases h:n<1
 ·rw [if_pos h];exact w tt Tryz.func6 rfl [.t (by simpa using h)] rfl rfl trivial
 ·rw [if_neg h];have e:=Q5k (v:=v) (n:=n) (by omega);have h3:=Yd v (show n≠0 by omega);have h4:=Jl v (show 0<n by omega);show Ut Tryz.prog 6 [.one (.int .i64 v),.one (.int .i64 n)] [.one (.int .i64 (v % n))];by_cases h0:v.tmod n<0
  ·rw [if_pos h0] at e;have b:-n<=v.tmod n:=by omega
   exact w tt Tryz.func6 rfl [.f (by simpa using h),.t (by simpa using h0)] rfl (by rw [e]) (by simp [Ur]; omega)
  ·rw [if_neg h0] at e;exact w tt Tryz.func6 rfl [.f (by simpa using h),.f (by simpa using h0)] rfl (by rw [e]) (by simp [Ur]; omega)
end Orr
namespace Orr
open Go Go.Proofs
set_option maxRecDepth 10000
def frow (p:List Rat):List (List LV):=p.map fr
theorem Tq (p:List Rat):(frow p).length=p.length:=by simp [frow]
theorem Lx {p:List Rat} {i:Nat} {q:Rat} (h:p[i]? = some q):(frow p)[i]? = some (fr q):=Gx h
theorem Qns (p:List Rat) (q:Rat):frow (p++[q])=frow p++[fr q]:=by simp [frow]
theorem Qgc (p:List Rat):∀ c∈frow p,c.length=4:=λc hc=>by obtain ⟨x,_,rfl⟩:=Zr.1 hc; rfl
abbrev rp (p:List Rat):LV:=.row (frow p)
theorem Qx0 (q:Rat):∀ c∈[fr q],c.length=4:=λc hc=>by rw [Qk.1 hc]; rfl
theorem Q7a:Ut Tryz.prog 246 [] [.agg (fr 0)]:=w tt Tryz.func246 rfl [.c [] (Qcx (n:=0) (by decide))] rfl rfl trivial
theorem O9 {p:List Rat}:Ut Tryz.prog 218 [.one (rp p)] [.one (rp (B5 p))]:=by
 refine Gv Tryz.func218 rfl (ln 0 rfl rfl λhl=>?_);rw [Tq] at hl;have By:=Tq p;refine go tt [] rfl trivial ?_;refine lp (S:=Nat) 0 (λL1 n=>(3,.v (.one (.int .i64 (n:Int))))::L1) (λ_=>[]) id (λn=>n<=p.length/\∀ j x,n<=j->p[j]? = some x->x=0) (frow p).length ⟨by rw [By]; exact Ql _,λj x h1 h2=>by
  have:=(Qd.1 h2).1; rw [By] at h1; omega⟩ rfl (λ_ _=>rfl) rfl λn hs=>?_
 obtain ⟨h1,h2⟩:=hs;cases n with
 |
  zero =>
  have e:=Qg5 h1 (λj x h=>h2 j x h) (λh=>absurd h (by decide));exact en tt [.g 8 false (by simp),.f rfl,.i 0] rfl (by rw [e]; rfl) (by simp [Ur])
 |
  succ n =>
  obtain ⟨x,hx⟩:=gxE (l:=p) (i:=n) (by omega);have hn:=Rat.num_eq_zero (q:=x);by_cases h0:x=0
  ·refine go tt [.g 8 true (by simp),.r 11 (eI (b:=(n:Int)) (by simp)),.x (Lx hx),.c [] (Mq (z:=x.num)),.t (decide_eq_true (hn.2 h0)),.r 18 (eI (b:=(n:Int)) (by simp))] rfl (by simp [Ur]; omega) ?_;exact rd n (by simp) ⟨by omega,λj y h3 h4=>by
    rcases Vl h3 with rfl | h3
    ·rw [hx] at h4; injection h4 with h4; rw [<-h4,h0]
    ·exact h2 j y h3 h4⟩ rfl
  ·have e:=Qg5 h1 (λj x h=>h2 j x h) (λ_=>⟨x,hx,h0⟩);exact en tt [.g 8 true (by simp),.r 11 (eI (b:=(n:Int)) (by simp)),.x (Lx hx),.c [] (Mq (z:=x.num)),.f (decide_eq_false λh=>h0 (hn.1 h)),.i (n+1)] rfl (by rw [e]; simp [rp,frow,Jp]) (by simp [Ur,By] <;> omega)
theorem Zhp {p:List Rat} {i:Nat} (hi:i<1099511627776):Ut Tryz.prog 224 [.one (rp p),.one (.int .i64 (i:Int))] [.agg (fr (p.getD i 0))]:=by
 have By:=Tq p;by_cases h:i<p.length
 ·have e:p.getD i 0=p[i]:=by rw [Qg,Qe h]; rfl
  rw [e];exact w tt Tryz.func224 rfl [.g 7 false (decide_eq_false (by omega)),.f (decide_eq_false (by omega)),.x (Lx (Qe h))] rfl rfl trivial
 ·have e:p.getD i 0=0:=by rw [Qg,Qt (by omega)]; rfl
  rw [e];exact w tt Tryz.func224 rfl [.g 7 false (decide_eq_false (by omega)),.t (decide_eq_true (by omega)),.c [] Q7a] rfl rfl trivial
theorem Qwz:Ut Tryz.prog 219 [.one (ids [1])] [.one (rp (zp [1]))]:=by
 have cc:=O9 (p:=zp [1]);rw [Bs,show trim [1]=[1] from rfl] at cc;refine Gv Tryz.func219 rfl ?_;refine go tt [.o 3 52 4] rfl trivial ?_;refine lp (S:=Nat) 1 (λL1 i=>(7,.v (.one (.int .i64 (i:Int))))::(3,.v (.one (.orow 0 4 none)))::L1) (λi=>[.row false 52 4 (frow ((zp [1]).take i))]) (λi=>1-i) (λi=>i<=1) 0 (by decide) rfl (λ_ _=>rfl) rfl λi hi=>?_
 rcases (show i=0\/i=1 by omega) with rfl | rfl
 ·refine go tt [.t rfl,.x (l:=idl [1]) (i:=0) (xs:=[.int .i64 1]) rfl,.c [] (Qcx (n:=1) (by decide)),.s (sz:=4) (Qx0 _)] rfl (by simp [Ur,frow]) ?_;exact rd 1 (by omega) (by omega) rfl
 ·exact en tt [.f rfl,.c [] cc] rfl rfl trivial
theorem Qbp {p:List Int} (hb:Bd 90000000 p) (hl:p.length<=1000000):Ut Tryz.prog 181 [pr p] [.one (rp (zp (trim p)))]:=by
 have By:(p.map Gw).length=p.length:=by simp
 have cc:=O9 (p:=zp p);rw [Bs] at cc;show Ut Tryz.prog 181 [.one (.row (p.map Gw))] _;refine Gv Tryz.func181 rfl ?_;refine go tt [.o 3 52 4] rfl trivial ?_;refine lp (S:=Nat) 1 (λL1 i=>(7,.v (.one (.int .i64 (i:Int))))::(3,.v (.one (.orow 0 4 none)))::L1) (λi=>[.row false 52 4 (frow (zp (p.take i)))]) (λi=>p.length-i) (λi=>i<=p.length) 0 (Qh _) rfl (λ_ _=>rfl) rfl λi hi=>?_
 have hol:(frow (zp (p.take i))).length=i:=by rw [Tq,Sk,Qr]; omega
 by_cases h:i<p.length
 ·obtain ⟨z,hz⟩:=gxE (l:=p) (i:=i) h;have hzb:=hb z (Qa hz);have hg:frow (zp (p.take (i+1)))=frow (zp (p.take i))++[fr (z:Rat)]:=by
   rw [Zs,hz]; simp [frow,zp]
  refine go tt [.t (decide_eq_true (by omega)),.x (Gx (f:=Gw) hz),.c [] (Qpj (z:=z) (by omega)),.c [] (Dt (n:=1) (by decide)),.c [] (Mi (n:=z)),.s (sz:=4) (Qx0 _)] rfl (by simp [Ur,hol,-List.getD_eq_getElem?_getD]; omega) ?_;exact rd (i+1) (by omega) h (by rw [hg]; rfl)
 ·have e:i=p.length:=by omega
  rw [e,Qy];exact en tt [.f (decide_eq_false (by omega)),.c [] cc] rfl rfl trivial
theorem Zho {p:List Int} (hb:Bd 90000000 p) (hl:p.length<=1000000):Ut Tryz.prog 215 [.one (rp (zp p))] [pr p]:=by
 have By:(frow (zp p)).length=p.length:=by rw [Tq,Sk]
 show Ut Tryz.prog 215 [.one (rp (zp p))] [.one (.row (p.map Gw))];refine Gv Tryz.func215 rfl ?_;refine go tt [.o 3 27 2] rfl trivial ?_;refine lp (S:=Nat) 1 (λL1 i=>(7,.v (.one (.int .i64 (i:Int))))::(3,.v (.one (.orow 0 2 none)))::L1) (λi=>[.row false 27 2 ((p.take i).map Gw)]) (λi=>p.length-i) (λi=>i<=p.length) 0 (Qh _) rfl (λ_ _=>rfl) rfl λi hi=>?_
 have hol:((p.take i).map Gw).length=i:=by rw [Q6,Qr]; omega
 by_cases h:i<p.length
 ·obtain ⟨z,hz⟩:=gxE (l:=p) (i:=i) h;have hzb:=hb z (Qa hz);have hq:∀ c∈[Gw z],c.length=2:=λc hc=>by rw [Qk.1 hc]; rfl
  have hg:(p.take (i+1)).map Gw=(p.take i).map Gw++[Gw z]:=by
   rw [Zs,hz]; simp
  refine go tt [.t (decide_eq_true (by omega)),.x (Lx (Zcy hz)),.c [] (Q62 (z:=z) (by omega)),.s (sz:=2) hq] rfl (by simp [Ur]; omega) ?_;exact rd (i+1) (by omega) h (by rw [hg]; rfl)
 ·have e:i=p.length:=by omega
  rw [e,Qy];exact en tt [.f (decide_eq_false (by omega))] rfl rfl trivial
theorem Qwu {p q:List Rat} (hp:Rb 20000000 p) (hq:Rb 20000000 q) (hlp:p.length<=1000000) (hlq:q.length<=1000000):Ut Tryz.prog 187 [.one (rp p),.one (rp q)] [.one (rp (Q48 p q))]:=by
 have h1:=Tq p;have h2:=Tq q;obtain ⟨M,hM⟩:=nmE (max p.length q.length);have cc:=O9 (p:=O1 (λi=>p.getD i 0+q.getD i 0) M);unfold Q48;rw [<-hM];refine Gv Tryz.func187 rfl ?_;refine go tt [.o 5 52 4] rfl trivial ?_;refine lp (S:=Nat) 1 (λL1 i=>(6,.v (.one (.int .i64 (i:Int))))::(5,.v (.one (.orow 0 4 none)))::L1) (λi=>[.row false 52 4 (frow (O1 (λi=>p.getD i 0+q.getD i 0) i))]) (λi=>M-i) (λi=>i<=M) 0 (Qh _) rfl (λ_ _=>rfl) rfl λi hi=>?_
 have hol:(frow (O1 (λi=>p.getD i 0+q.getD i 0) i)).length=i:=by rw [Tq,Qfb]
 by_cases h:i<M
 ·refine go tt [.r 12 (eI (b:=(M:Int)) (by omega)),.t (decide_eq_true (by omega)),.c [] (Zhp (p:=p) (i:=i) (by omega)),.c [] (Zhp (p:=q) (i:=i) (by omega)),.c [] (Q59 (hp.getD (by decide) i) (hq.getD (by decide) i)),.s (sz:=4) (Qx0 _)] rfl (by simp [Ur,hol,-List.getD_eq_getElem?_getD]; omega) ?_;exact rd (i+1) (by omega) h (by rw [Qo2,Qns]; rfl)
 ·have e:i=M:=by omega
  rw [e];exact en tt [.r 12 (eI (b:=(M:Int)) (by omega)),.f (decide_eq_false (by omega)),.c [] cc] rfl rfl trivial
theorem Aw {p:List Rat} {c:Rat} (hp:Rb 40000000 p) (hc:Qs 40000000 c) (hlp:p.length<=1000000):Ut Tryz.prog 180 [.one (rp p),.agg (fr c)] [.one (rp (Mh p c))]:=by
 have h1:=Tq p;have cc:=O9 (p:=O1 (λi=>p.getD i 0*c) p.length);unfold Mh;refine Gv Tryz.func180 rfl ?_;refine go tt [.o 5 52 4] rfl trivial ?_;refine lp (S:=Nat) 2 (λL1 i=>(9,.v (.one (.int .i64 (i:Int))))::(5,.v (.one (.orow 1 4 none)))::L1) (λi=>[.blk 52 (fr c),.row false 52 4 (frow (O1 (λi=>p.getD i 0*c) i))]) (λi=>p.length-i) (λi=>i<=p.length) 0 (Qh _) rfl (λ_ _=>rfl) rfl λi hi=>?_
 have hol:(frow (O1 (λi=>p.getD i 0*c) i)).length=i:=by rw [Tq,Qfb]
 by_cases h:i<p.length
 ·have hg:p[i]? = some (p.getD i 0):=by rw [Qg,Qe h]; rfl
  refine go tt [.t (decide_eq_true (by omega)),.x (Lx hg),.c [] (Q6l (hp.getD (by decide) i) hc),.s (sz:=4) (Qx0 _)] rfl (by simp [Ur,hol,-List.getD_eq_getElem?_getD]; omega) ?_;exact rd (i+1) (by omega) h (by rw [Qo2,Qns]; rfl)
 ·have e:i=p.length:=by omega
  rw [e];exact en tt [.f (decide_eq_false (by omega)),.c [] cc] rfl rfl trivial
theorem Qwy {p:List Rat} (hp:Rb 40000000 p) (hlp:p.length<=1000000):Ut Tryz.prog 185 [.one (rp p)] [.one (rp (Qrj p))]:=by
 have cs:=Aw (p:=p) (c:=-1) hp ⟨by decide,by decide⟩ hlp;have co:=Qcx (n:=-1) (by decide);rw [show ((-1:Int):Rat)=-1 from rfl] at co;exact w tt Tryz.func185 rfl [.c [] co,.c [] cs] rfl rfl trivial
theorem Zf7 {s t:Nat} {a b:Rat} (ha:Qs s a) (hb:Qs t b):Qs (s+t+1) (a*b):=by
 rw [<-Qn5];unfold Gt;rw [if_neg (Jh (Cc a) (Cc b))];have h1:=Fl a.num b.num;have h2:=Fl (a.den:Int) (b.den:Int);have:=ha.1; have:=ha.2; have:=hb.1; have:=hb.2;exact Qs.divInt (by omega) (by omega) (by omega)
theorem Za7 {s:Nat} {p:List Rat} (hp:Rb s p):Rb (s+2) (Qrj p):=by
 unfold Qrj Mh;refine Rb.trim (Zgx λi hi=>?_);have h1:Qs (s+0) (p.getD i 0):=by
  have hi:i<p.length:=hi;rw [Qg,Qe hi];exact hp _ (Xv hi)
 have:=Zf7 h1 (show Qs 1 (-1:Rat) from ⟨by decide,by decide⟩);exact this.mono (by omega)
theorem Qu9 (p:List Rat):(Qrj p).length<=p.length:=by
 unfold Qrj Mh;exact Qc (Qot _) (by rw [Qfb]; exact Ql _)
theorem Qw0 {p q:List Rat} (hp:Rb 19000000 p) (hq:Rb 19000000 q) (hlp:p.length<=1000000) (hlq:q.length<=1000000):Ut Tryz.prog 138 [.one (rp p),.one (rp q)] [.one (rp (Ql5 p q))] :=
 w tt Tryz.func138 rfl [.c [] (Qwy (hq.mono (by decide)) hlq),.c [] (Qwu (hp.mono (by decide)) ((Za7 hq).mono (by decide)) hlp (Qc (Qu9 q) hlq))] rfl rfl trivial
theorem Q6m {a b:Int} (ha:U6 a<=40000000) (hb:U6 b<=40000000):Ut Tryz.prog 217 [.agg (fr (a:Rat)),.agg (fr (b:Rat))] [.agg (fr ((a*b:Int):Rat))]:=by
 have h:=Q6l (Do ha (by decide)) (Do hb (by decide));rw [<-Xj] at h; exact h
theorem Zi1 {a b:Int} (ha:U6 a<=20000000) (hb:U6 b<=20000000):Ut Tryz.prog 223 [.agg (fr (a:Rat)),.agg (fr (b:Rat))] [.agg (fr ((a+b:Int):Rat))]:=by
 have h:=Q59 (Do ha (by decide)) (Do hb (by decide));rw [<-Ko] at h; exact h
theorem Qto (l:List Int) (i:Nat) (z:Int):(frow (zp l)).set i (fr (z:Rat))=frow (zp (l.set i z)):=by simp [frow,zp,V1]
theorem Zcz {p:List Int} {i:Nat} (h:i<p.length):(zp p)[i]? = some ((p.getD i 0:Int):Rat):=Zcy (Hz h)
theorem Ta {p:List Int} {i:Nat} (h:i<p.length):(frow (zp p))[i]? = some (fr ((p.getD i 0:Int):Rat)):=Lx (Zcz h)
theorem fzl (p:List Int):(frow (zp p)).length=p.length:=by rw [Tq,Sk]
abbrev zR:List LV:=[.nils,.bool false,.nils,.bool false]
theorem Qqc {n i:Nat} (h:i<n):(List.replicate i (fr 0)++List.replicate (n-i) zR).set i (fr 0)=List.replicate (i+1) (fr 0)++List.replicate (n-(i+1)) zR:=by
 rw [List.set_append_right _ _ (by simp),X1,Jo,show n-i=n-(i+1)+1 by omega,J5 (n:=n-(i+1)),List.set_cons_zero,List.replicate_succ' (n:=i),Zl]; rfl
theorem Qmh (n:Nat):List.replicate n (fr 0)++List.replicate (n-n) zR=frow (zp (List.replicate n 0)):=by simp [zp,frow]
theorem Qwx {p q:List Int} {s t:Nat} (hlp:p.length<=1000000) (hlq:q.length<=1000000) (hp:Bd s p) (hq:Bd t q) (hst:s+t<=19000000):Ut Tryz.prog 221 [.one (rp (zp p)),.one (rp (zp q))] [.one (rp (zp (Fw p q)))]:=by
 have By:=fzl p;have hql:=fzl q;rcases Qz p.length with h0 | h0
 ·have e:Fw p q=[]:=by unfold Fw; rw [if_pos (.inl h0)]
  rw [e];exact w tt Tryz.func221 rfl [.g 12 true (decide_eq_true (by omega)),.t rfl] rfl rfl trivial
 rcases Qz q.length with h1 | h1
 ·have e:Fw p q=[]:=by unfold Fw; rw [if_pos (.inr h1)]
  rw [e];exact w tt Tryz.func221 rfl [.g 12 false (decide_eq_false (by omega)),.t (decide_eq_true (by omega))] rfl rfl trivial
 have e:Fw p q=trim (Ny p q (List.replicate (p.length+q.length-1) 0) p.length):=by unfold Fw; rw [if_neg (by omega)]
 rw [e];obtain ⟨N,hN⟩:=nmE (p.length+q.length-1);rw [<-hN];obtain ⟨o,ho⟩:=nmE (List.replicate N (0:Int));rw [<-ho];have hol:o.length=N:=by rw [ho]; simp
 have ho0:∀ m,o.getD m 0=0:=λm=>by rw [ho]; exact Ty N m
 have cc:=O9 (p:=zp (Ny p q o p.length));rw [Bs] at cc;refine Gv Tryz.func221 rfl ?_;refine go tt [.g 12 false (decide_eq_false (by omega)),.f (decide_eq_false (by omega)),.r 22 (eI (b:=(N:Int)) (by omega)),.i N,.i N,.r 25 (eI (b:=(N:Int)) (by simp))] rfl (by simp [Ur]; omega) ?_;refine lp (S:=Nat) 1 (λL1 i=>(26,.v (.one (.int .i64 (i:Int))))::L1) (λi=>[.row false 52 4 (List.replicate i (fr 0)++List.replicate (N-i) zR)]) (λi=>N-i) (λi=>i<=N) 0 (Qh _) rfl (λ_ _=>rfl) rfl λi hi=>?_
 by_cases hlt:i<N
 ·refine go tt [.t (decide_eq_true (by omega)),.c [] Q7a,.i i] rfl (by simp [Ur]; omega) ?_;rw [Qqc hlt];exact rd (i+1) (by omega) hlt rfl
 have hiN:i=N:=by omega
 rw [hiN,Qmh,<-ho];clear hiN hlt hi;refine go tt [.f (decide_eq_false (by omega))] rfl trivial ?_;refine lp (S:=Nat) 1 (λL1 i=>(36,.v (.one (.int .i64 (i:Int))))::L1) (λi=>[.row false 52 4 (frow (zp (Ny p q o i)))]) (λi=>p.length-i) (λi=>i<=p.length) 0 (Qh _) rfl (λ_ _=>rfl) rfl λi hi=>?_
 by_cases hlt:i<p.length
 ·refine go tt [.t (decide_eq_true (by omega))] rfl trivial ?_;refine lp (S:=Nat) 1 (λL1 k=>(41,.v (.one (.int .i64 (k:Int))))::L1) (λk=>[.row false 52 4 (frow (zp (A9 (p.getD i 0) q i (Ny p q o i) k)))]) (λk=>q.length-k) (λk=>k<=q.length) 0 (Qh _) rfl (λ_ _=>rfl) rfl λk hk=>?_
  by_cases hk2:k<q.length
  ·have hm1:U6 ((A9 (p.getD i 0) q i (Ny p q o i) k).getD (i+k) 0)<=20000000:=Qc (Ai (t:=39) (Qqv (by rw [Nz]; omega) (Qqu (λj hj=>by omega) ho0 (λi j=>Ml (U8 hp i) (U8 hq j))) (λj=>Ml (U8 hp i) (U8 hq j)) (i+k)) (Kt (show i+1<549755813888 by omega) (by decide))) (by omega);have hm2:U6 (p.getD i 0*q.getD k 0)<=20000000:=Qc (Fl _ _) (by have:=U8 hp i; have:=U8 hq k; omega);have hml:(A9 (p.getD i 0) q i (Ny p q o i) k).length=N:=by rw [Ia,Nz,hol]
   have cm:=Q6m (a:=p.getD i 0) (b:=q.getD k 0) (Qc (U8 hp i) (by omega)) (Qc (U8 hq k) (by omega));have hfl:=fzl (A9 (p.getD i 0) q i (Ny p q o i) k);refine go tt [.t (decide_eq_true (by omega)),.i (i+k),.x (Ta (p:=A9 (p.getD i 0) q i (Ny p q o i) k) (i:=i+k) (by omega)),.x (Ta hlt),.x (Ta hk2),.c [] cm,.c [] (Zi1 hm1 hm2),.i (i+k)] rfl (by simp [Ur,hfl,-List.getD_eq_getElem?_getD] <;> omega) ?_;rw [Qto];exact rd (k+1) (by omega) hk2 rfl
  ·obtain rfl:k=q.length:=by omega
   exact go tt [.f (decide_eq_false (by omega))] rfl (by simp [Ur]; omega) (rd (i+1) (by omega) hlt rfl)
 ·obtain rfl:i=p.length:=by omega
  exact en tt [.f (decide_eq_false (by omega)),.c [] cc] rfl rfl trivial
def Qth (p:List Int) (n:Nat):List Int:=(List.range n).map λk=>p.getD (k+1) 0*((k+1:Nat):Int)
theorem Q8j (p:List Int) (n:Nat):(Qth p n).length=n:=by simp [Qth]
theorem Q4c (p:List Int) (n:Nat):Qth p (n+1)=Qth p n++[p.getD (n+1) 0*((n+1:Nat):Int)]:=by simp [Qth,Wi]
theorem Qsb (p:List Int) (z:Int):frow (zp (p++[z]))=frow (zp p)++[fr (z:Rat)]:=by simp [frow,zp]
theorem Qwv {p:List Int} (hp:Bd 40000000 p) (hl:p.length<=1000000):Ut Tryz.prog 184 [.one (rp (zp p))] [.one (rp (zp (Gj p)))]:=by
 have By:=fzl p;have cc:=O9 (p:=zp (Qth p (p.length-1)));rw [Bs] at cc;refine Gv Tryz.func184 rfl ?_;refine go tt [.o 3 52 4] rfl trivial ?_;refine lp (S:=Nat) 1 (λL1 j=>(4,.v (.one (.int .i64 ((j+1:Nat):Int))))::(3,.v (.one (.orow 0 4 none)))::L1) (λj=>[.row false 52 4 (frow (zp (Qth p j)))]) (λj=>p.length-j) (λj=>j<=p.length-1) 0 (Qh _) rfl (λ_ _=>rfl) rfl λj hj=>?_
 have hfl:=fzl (Qth p j);rw [Q8j] at hfl;by_cases h:j+1<p.length
 ·have hk:U6 ((j+1:Nat):Int)<=40000000:=Qc (Qqk (t:=38) (k:=j+1) (Kt (show j+1<274877906944 by omega) (by decide))) (by decide);refine go tt [.t (decide_eq_true (by omega)),.x (Ta h),.c [] (Qcx (n:=((j+1:Nat):Int)) (by omega)),.c [] (Q6m (U8 hp (j+1)) hk),.s (sz:=4) (Qx0 _)] rfl (by simp [Ur,hfl,-List.getD_eq_getElem?_getD] <;> omega) ?_;exact rd (j+1) (by omega) (by omega) (by rw [Q4c,Qsb]; rfl)
 ·have e:j=p.length-1:=by omega
  rw [e];exact en tt [.f (decide_eq_false (by omega)),.c [] cc] rfl rfl trivial
theorem Zju (z:Int):fr (z:Rat)=[nd z.natAbs,sg z,.row [[.int .i64 1]],.bool false]:=by
 have e:Fi 1=[1]:=by rw [I5 (by decide),show 1 / 10000=0 from rfl,G6]
 show [nd z.natAbs,sg z,nd 1,sg 1]=_;unfold nd dl;rw [e]; rfl
theorem Q7l {p:List Int} (hl:p.length<=1000000):Ut Tryz.prog 288 [.one (rp (zp p))] [.one (.bool true)]:=by
 have By:=fzl p;refine Gv Tryz.func288 rfl ?_;refine go tt [] rfl trivial ?_;refine lp (S:=Nat) 0 (λL1 i=>(6,.v (.one (.int .i64 (i:Int))))::L1) (λ_=>[]) (λi=>p.length-i) (λi=>i<=p.length) 0 (Qh _) rfl (λ_ _=>rfl) rfl λi hi=>?_
 by_cases h:i<p.length
 ·have hg:=Ta h;rw [Zju] at hg;refine go tt [.t (decide_eq_true (by omega)),.x hg,.g 17 false rfl,.x hg,.x (l:=[[.int .i64 1]]) (i:=0) (xs:=[.int .i64 1]) rfl,.f rfl] rfl (by simp [Ur]; omega) ?_;exact rd (i+1) (by omega) h rfl
 ·exact en tt [.f (decide_eq_false (by omega))] rfl rfl trivial
theorem Q2l:[LV.nils,LV.bool false].map Qid=ri 0:=by
 show _=[nd 0,sg 0];unfold nd dl;rw [G6]; rfl
theorem Qyb (p:List Int) (q:Rat):Int.sign (Mb p q.num q.den p.length).1=Gz p q:=by
 unfold Gz Zf5 Nn;generalize (Mb p q.num q.den p.length).1=z;rcases Jz z 0 with h | h | h
 ·rw [if_pos h,Xu h]
 ·subst h; rfl
 ·rw [if_neg (by omega),if_pos h,X5 h]
theorem Q0a {p:List Int} {q:Rat} (hp:Bd 30000000 p) (hl:p.length<=64) (hq:Qs 1000000 q):Ut Tryz.prog 281 [.one (rp (zp p)),.agg (fr q)] [.one (.int .i64 (Gz p q))]:=by
 have By:=fzl p;refine Gv Tryz.func281 rfl ?_;refine go tt [.c [] (Q7l (p:=p) (by omega)),.f rfl,.c [] (Dt (n:=1) (by decide)),.r 19 (eI (b:=(p.length:Int)-1-((0:Nat):Int)) (by simp; omega))] rfl (by simp [Ur]; omega) ?_;refine nlb 1 rfl rfl rfl ?_;rw [Q2l];refine lp (S:=Nat) 3 (λL1 j=>(7,.v (.one (.int .i64 ((p.length:Int)-1-(j:Int)))))::L1) (λj=>[.blk 52 (fr q),.blk 50 (ri (Mb p q.num q.den j).1),.blk 50 (ri (Mb p q.num q.den j).2)]) (λj=>p.length-j) (λj=>j<=p.length) 0 (Qh _) rfl (λ_ _=>rfl) rfl λj hj=>?_
 have hv:=Qr4 (k:=j) hp hq.1 hq.2;have hjl:j*(1000000+1)<=p.length*(1000000+1):=Q0 _ (by omega);by_cases h:j<p.length
 ·have hc:=U8 hp (p.length-1-j);have hq1:=hq.1;have hq2:=hq.2;have hm1:U6 ((Mb p q.num q.den j).1*q.num)<=200000000:=Qc (Fl _ _) (by omega);have hm2:U6 (p.getD (p.length-1-j) 0*(Mb p q.num q.den j).2)<=200000000:=Qc (Fl _ _) (by omega);refine go tt [.t (decide_eq_true (by omega)),.c [] (Pm (a:=(Mb p q.num q.den j).1) (b:=q.num) (by omega) (by omega)),.r 29 (eI (b:=((p.length-1-j:Nat):Int)) (by omega)),.x (Ta (p:=p) (i:=p.length-1-j) (by omega)),.c [] (Pm (a:=p.getD (p.length-1-j) 0) (b:=(Mb p q.num q.den j).2) (by omega) (by omega)),.c [] (Qwp hm1 hm2),.c [] (Pm (a:=(Mb p q.num q.den j).2) (b:=(q.den:Int)) (by omega) (by omega)),.r 23 (eI (b:=(p.length:Int)-1-((j+1:Nat):Int)) (by omega))] rfl (by simp [Ur] <;> omega) ?_;exact rd (j+1) (by omega) h rfl
 ·obtain rfl:j=p.length:=by omega
  exact en tt [.f (decide_eq_false (by omega)),.c [] Qz4] rfl (by rw [Qyb]) trivial
end Orr
namespace Orr
def Gb (p:List Int):Int:=p.getD (p.length-1) 0
def Qbc (a b:List Int):Int:=if Gb b<0 then -(Gb a) else Gb a
def Am (a b:List Int) (i:Nat):Int:=a.getD i 0*((Gb b).natAbs:Int)-(if a.length-b.length<=i then Qbc a b*b.getD (i-(a.length-b.length)) 0 else 0)
def Qor (a b:List Int):List Int:=Mf a.length (Am a b)
inductive RRun (b:List Int):Nat->List Int->List Int->Prop
 | stop {a:List Int}:a.length<b.length->RRun b 0 a a
 | step {k:Nat} {a r:List Int}:b.length<=a.length->a.length<=1000->Bd 9000000 a->Bd 9000000 b->RRun b k (Qor a b) r->RRun b (k+1) a r
def Az (p:List Int):Nat->Nat
 | 0=>0
 | i+1=>Int.gcd (Az p i:Nat) (p.getD i 0)
def Qcg (p:List Int):Nat:=Az p p.length
theorem Qf1 (p:List Int):∀ {i j:Nat},j<i->((Az p i:Nat):Int)∣p.getD j 0
 | 0,_,h=>absurd h (Uo _)
 |
  i+1,j,h=>by
  simp only [Az];rcases Za j i with h1 | h1
  ·exact Vi (Ue ..) (Qf1 p h1)
  ·rw [show j=i by omega]; exact Vv ..
theorem Qs2 (p:List Int) (j:Nat):((Qcg p:Nat):Int)∣p.getD j 0:=by
 rcases Za j p.length with h | h
 ·exact Qf1 p h
 ·rw [Qg,Qt h]; exact Int.dvd_zero _
theorem Qab {s:Nat} {p:List Int} (h:Bd s p):∀ i,U6 ((Az p i:Nat):Int)<=s
 | 0=>by simp [Az,Mk]
 |
  i+1=>by
  simp only [Az];by_cases h0:p.getD i 0=0
  ·rw [h0,Int.gcd_zero_right]; exact Qab h i
  ·have h1:=Vv (Az p i:Nat) (p.getD i 0);have h2:(Int.gcd (Az p i:Nat) (p.getD i 0))<=(p.getD i 0).natAbs:=Kg (by omega) (by simpa using Xo.2 h1);have h3:=U8 h i;rw [Tz] at h3 ⊢;simp only [Z9];omega
theorem Q31 {p:List Int} {j i:Nat} (hj:j<i) (h:p.getD j 0≠0):0<Az p i:=by
 have:=Qf1 p hj;rcases Qz (Az p i) with h0 | h0
 ·rw [h0] at this;exact absurd (Int.zero_dvd.1 this) h
 ·exact h0
theorem Qs3 {p:List Int} (ht:Uz p) (h:0<p.length):0<Qcg p:=Q31 (j:=p.length-1) (by omega) (Ho ht h)
def Nb (p:List Int):Int:=if Gb p<0 then -((Qcg p:Nat):Int) else ((Qcg p:Nat):Int)
def Re (p:List Int):List Int:=Mf p.length λi=>p.getD i 0 / Nb p
def Mg (p:List Int):List Int:=if Gb p<0 then Pd (Re p) else Re p
theorem Q4f (p:List Int) (j:Nat):Nb p∣p.getD j 0:=by
 unfold Nb
 split
 ·exact Up.2 (Qs2 p j)
 ·exact Qs2 p j
theorem Q8u {p:List Int} (ht:Uz p) (h:0<p.length):Nb p≠0:=by
 have:=Qs3 ht h;unfold Nb
 split <;> omega
theorem Qnh {s:Nat} {p:List Int} (h:Bd s p):U6 (Nb p)<=s:=by
 unfold Nb
 split
 ·rw [Hg]; exact Qab h _
 ·exact Qab h _
theorem Qyr {p:List Int} {c:Int} (hc:c≠0) (hd:∀ j,c∣p.getD j 0):Mh (zp p) (1 / (c:Rat))=zp (Mf p.length λi=>p.getD i 0 / c):=by
 unfold Mh Mf;rw [Qjf (g:=λi=>p.getD i 0 / c) _ λi _=>?_,Bs,Sk];obtain ⟨k,hk⟩:=hd i;have hc':(c:Rat)≠0:=λe=>hc (by exact_mod_cast e)
 rw [Qfo,hk,Xl _ hc,Xj];grind
theorem Qjo {s:Nat} {p:List Int} (h:Bd s p):Bd s (Re p):=Qbm λi _=>Qc (Qas _ _) (U8 h i)
theorem Qgo (p:List Int):(Re p).length<=p.length:=A2 _ _
theorem Q3e {s:Nat} {p:List Int} (h:Bd s p):Bd s (Mg p):=by
 unfold Mg
 split
 ·exact Qbn (Qjo h)
 ·exact Qjo h
theorem Qxp (p:List Int):(Mg p).length<=p.length:=by
 unfold Mg
 split
 ·exact Qc (L6 _) (Qgo p)
 ·exact Qgo p
inductive GRun:Nat->List Int->List Int->List Int->Prop
 | stop (a:List Int):GRun 0 a [] a
 | step {k m:Nat} {a b r g:List Int}:0<b.length->b.length<=1000->Bd 9000000 b->RRun b m a r->r.length<=1000->Bd 9000000 r->Uz r->GRun k b (Re r) g->GRun (k+1) a b g
theorem GRun.inv {k:Nat} {a b g:List Int} (h:GRun k a b g):(k=0/\b.length=0/\a=g)\/∃ j m r,k=j+1/\0<b.length/\b.length<=1000/\Bd 9000000 b/\RRun b m a r/\r.length<=1000/\Bd 9000000 r/\Uz r/\GRun j b (Re r) g:=by
 cases h with
 | stop=>exact .inl ⟨rfl,rfl,rfl⟩
 | step h1 h2 h3 h4 h5 h6 h7 h8=>exact .inr ⟨_,_,_,rfl,h1,h2,h3,h4,h5,h6,h7,h8⟩
def Ef (k:Nat) (p:List Int):List Int:=List.replicate k 0++p
theorem Qyw (k:Nat) (p:List Int):(Ef k p).length=k+p.length:=by simp [Ef]
theorem Q3f {s k:Nat} {p:List Int} (h:Bd s p):Bd s (Ef k p):=λz hz=>by
 rcases Qu.1 hz with h1 | h1
 ·rw [Zu h1,Mk]; exact Qh _
 ·exact h z h1
inductive DRun (b:List Int):Nat->List Int->List Int->List Int->List Int->Prop
 | stop {a q:List Int}:a.length<b.length->DRun b 0 a q q a
 | step {k:Nat} {a q qf r:List Int}:b.length<=a.length->a.length<=1000->Bd 9000000 a->Gb b≠0->Gb b∣Gb a->a.length-b.length<q.length ->
  DRun b k (Pw a (Ef (a.length-b.length) (Ff b (Gb a / Gb b)))) (q.set (a.length-b.length) (Gb a / Gb b)) qf r->DRun b (k+1) a q qf r
theorem DRun.inv {b a q qf r:List Int} {k:Nat} (h:DRun b k a q qf r):(k=0/\q=qf/\a=r/\a.length<b.length)\/∃ j,k=j+1/\b.length<=a.length/\a.length<=1000/\Bd 9000000 a/\Gb b≠0/\Gb b∣Gb a/\a.length-b.length<q.length /\
 DRun b j (Pw a (Ef (a.length-b.length) (Ff b (Gb a / Gb b)))) (q.set (a.length-b.length) (Gb a / Gb b)) qf r:=by
 cases h with
 | stop h=>exact .inl ⟨rfl,rfl,rfl,h⟩
 | step h1 h2 h3 h4 h5 h6 h7=>exact .inr ⟨_,rfl,h1,h2,h3,h4,h5,h6,h7⟩
def Md (l:List (List Int)):List Int:=l.getD (l.length-1) []
inductive LRun:Nat->List (List Int)->List (List Int)->Prop
 | stop {l:List (List Int)}:(Md l).length<=1->LRun 0 l l
 | step {k m:Nat} {l f:List (List Int)} {g:List Int}:1<(Md l).length->(Md l).length<=1000->Uz (Md l)->Bd 9000000 (Md l)->Bd 9000000 (Gj (Md l))->GRun m (Re (Md l)) (Re (Gj (Md l))) g->l.length<=1000->LRun k (l++[g]) f->LRun (k+1) l f
theorem LRun.inv {k:Nat} {l f:List (List Int)} (h:LRun k l f):(k=0/\l=f/\(Md l).length<=1)\/∃ j m g,k=j+1/\1<(Md l).length/\(Md l).length<=1000/\Uz (Md l)/\Bd 9000000 (Md l)/\Bd 9000000 (Gj (Md l))/\GRun m (Re (Md l)) (Re (Gj (Md l))) g/\l.length<=1000/\LRun j (l++[g]) f:=by
 cases h with
 | stop h=>exact .inl ⟨rfl,rfl,h⟩
 | step h1 h2 h3 h4 h5 h6 h7 h8=>exact .inr ⟨_,_,_,rfl,h1,h2,h3,h4,h5,h6,h7,h8⟩
def DOk (a b q:List Int):Prop:=0<b.length/\b.length<=1000/\a.length<=1000/\Bd 9000000 b/\∃ qf r n,Bd 9000000 qf/\qf.length<=1000/\DRun b n a (List.replicate (a.length+1-b.length) 0) qf r/\q=trim qf
theorem DOk.bd {a b q:List Int} (h:DOk a b q):Bd 9000000 q:=by
 obtain ⟨_,_,_,_,qf,r,n,h1,_,_,rfl⟩:=h;exact Tj h1
theorem DOk.len {a b q:List Int} (h:DOk a b q):q.length<=1000:=by
 obtain ⟨_,_,_,_,qf,r,n,_,h1,_,rfl⟩:=h;exact Qc (Ht _) h1
theorem DOk.trim {a b q:List Int} (h:DOk a b q):Uz q:=by
 obtain ⟨_,_,_,_,qf,r,n,_,_,_,rfl⟩:=h;exact Ra _
def Zls (a b c f:List Int):Prop:=∃ x y z,DOk a b x/\DOk b c y/\DOk (Re x) (Re y) z/\f=Re z
structure FRun (a:List Int) (m:Nat) (f:Nat->List Int):Prop where
 run:∃ n l,LRun n [Re a] l/\l.length=m+1/\∀ k,k<m->Zls ((l++[[1]]).getD k []) ((l++[[1]]).getD (k+1) []) ((l++[[1]]).getD (k+2) []) (f k)
 small:m<=1000
def Qme (f:Nat->List Int) (n:Nat):List (List Int):=(List.range n).map f
theorem Qvl (f:Nat->List Int) (n:Nat):(Qme f n).length=n:=by simp [Qme]
theorem Q5h (f:Nat->List Int) (n:Nat):Qme f (n+1)=Qme f n++[f n]:=by simp [Qme,Wi]
theorem Zcc {f:Nat->List Int} {n i:Nat} (h:i<n):(Qme f n)[i]? = some (f i):=by simp [Qme,Xs h]
theorem Qxj {l:List (List Int)} {i:Nat} (h:i<l.length):l[i]? = some (l.getD i []):=by
 rw [Qg,Qe h]; rfl
def Ij (f:Nat->List Int):Nat->List Int
 | 0=>[1]
 | i+1=>Fw (Ij f i) (f i)
def Zlr (m:Nat) (f:Nat->List Int):Prop:=∀ i,i<m->Bd 9000000 (Ij f i)/\(Ij f i).length<=1000/\Bd 9000000 (f i)/\(f i).length<=1000
inductive CRun:Nat->List (List Int)->List Int->List (List Int)->Prop
 | stop {l:List (List Int)} {g:List Int}:g.length=0->CRun 0 l g l
 | step {k m:Nat} {l f:List (List Int)} {g r:List Int}:0<g.length->g.length<=1000->Bd 9000000 g->RRun g m (Md l) r->Uz r->Bd 9000000 r->r.length<=1000->0<l.length->l.length<=1000->CRun k (l++[g]) (Pd (Mg r)) f->CRun (k+1) l g f
theorem CRun.inv {k:Nat} {l f:List (List Int)} {g:List Int} (h:CRun k l g f):(k=0/\l=f/\g.length=0)\/∃ j m r,k=j+1/\0<g.length/\g.length<=1000/\Bd 9000000 g/\RRun g m (Md l) r/\Uz r/\Bd 9000000 r/\r.length<=1000/\0<l.length/\l.length<=1000/\CRun j (l++[g]) (Pd (Mg r)) f:=by
 cases h with
 | stop h=>exact .inl ⟨rfl,rfl,h⟩
 | step h1 h2 h3 h4 h5 h6 h7 h8 h9 h10=>exact .inr ⟨_,_,_,rfl,h1,h2,h3,h4,h5,h6,h7,h8,h9,h10⟩
structure ChRun (a:List Int) (sq:List Int) (c:List (List Int)):Prop where
 fac:∃ m f,FRun a m f/\Zlr m f/\sq=Ij f m
 Ay:∃ n,CRun n [sq] (Mg (Gj sq)) c
 bd:Bd 8000000 sq
 len:sq.length<=1000
 small:c.length<=1000
def Qzf (q:Rat) (c:List (List Int)):Prop:=∃ sq,ChRun [-q.num,(q.den:Int)] sq c
end Orr
namespace Orr
open Go Go.Proofs
set_option maxRecDepth 10000
theorem RRun.inv {b a r:List Int} {k:Nat} (h:RRun b k a r):(k=0/\a=r/\a.length<b.length)\/(∃ j,k=j+1/\b.length<=a.length/\a.length<=1000/\Bd 9000000 a/\Bd 9000000 b/\RRun b j (Qor a b) r):=by
 cases h with
 | stop h=>exact .inl ⟨rfl,rfl,h⟩
 | step h1 h2 h3 h4 h5=>exact .inr ⟨_,rfl,h1,h2,h3,h4,h5⟩
theorem Zgf {a b:List Int} (ha:Bd 9000000 a):U6 (Qbc a b)<=9000000:=by
 unfold Qbc; split
 ·rw [Hg]; exact U8 ha _
 ·exact U8 ha _
theorem Zgb (n:Nat):ri (n:Int)=[nd n,.bool false]:=by
 show [nd n,sg (n:Int)]=_;unfold sg;rw [decide_eq_false (by omega)]
def Qrm (a b:List Int) (n:Nat):List Int:=(List.range n).map (Am a b)
theorem Zbk (a b:List Int) (n:Nat):(Qrm a b n).length=n:=by simp [Qrm]
theorem Qos (a b:List Int) (n:Nat):Qrm a b (n+1)=Qrm a b n++[Am a b n]:=by simp [Qrm,Wi]
theorem Q0c {a0 b res:List Int} {n:Nat} (hb0:0<b.length) (hb1:b.length<=1000) (hbb0:Bd 9000000 b) (hrun:RRun b n a0 res):Ut Tryz.prog 186 [.one (rp (zp a0)),.one (rp (zp b))] [.one (rp (zp res))]:=by
 have hbl:=fzl b;have hle:U6 (((Gb b).natAbs:Nat):Int)<=9000000:=U8 hbb0 _;refine Gv Tryz.func186 rfl ?_;refine go tt [.r 15 (eI (b:=((b.length-1:Nat):Int)) (by omega)),.x (Ta (p:=b) (i:=b.length-1) (by omega))] rfl (by simp [Ur]; omega) ?_;refine sb [(0,.v (.one (rp (zp a0)))),(1,.v (.one (rp (zp b)))),(5,.v (.one (.ow 0 0))),(6,.v (.one (.ow 1 0)))] [.blk 50 (ri (Gb b)),.blk 50 [nd (Gb b).natAbs,.bool false]] rfl rfl ?_;refine lp (S:=Nat×List Int) 2 (λL1 s=>(0,.v (.one (rp (zp s.2))))::L1) (λ_=>[.blk 50 (ri (Gb b)),.blk 50 [nd (Gb b).natAbs,.bool false]]) (λs=>s.1) (λs=>RRun b s.1 s.2 res) (n,a0) hrun rfl (λ_ _=>rfl) rfl λ⟨k,a⟩ hs=>?_
 have hal:=fzl a;have hs:RRun b k a res:=hs;rcases RRun.inv hs with ⟨rfl,rfl,h1⟩ | ⟨j,rfl,h1,h2,ha,hb,hr⟩
 ·exact en tt [.f (decide_eq_false (by dsimp only; omega))] rfl rfl trivial
 obtain ⟨K,hK⟩:=nmE (a.length-b.length);have htb:=Zgf (b:=b) ha;have cc:=O9 (p:=zp (Qrm a b a.length));rw [Bs,show trim (Qrm a b a.length)=Qor a b from rfl] at cc;refine go tt [.t (decide_eq_true (by dsimp only; omega)),.r 30 (eI (b:=(K:Int)) (by dsimp only; omega)),.r 34 (eI (b:=((a.length-1:Nat):Int)) (by dsimp only; omega)),.x (Ta (p:=a) (i:=a.length-1) (by omega))] rfl (by simp [Ur]; omega) ?_;refine ct 1 (S:=Unit) (λ_=>[(0,.v (.one (rp (zp a)))),(1,.v (.one (rp (zp b)))),(5,.v (.one (.ow 0 0))),(6,.v (.one (.ow 1 0))),(7,.v (.one (.int .i64 (K:Int)))),(8,.v (.one (.ow 2 0)))]) (λ_=>[.blk 50 (ri (Gb b)),.blk 50 [nd (Gb b).natAbs,.bool false],.blk 50 (ri (Qbc a b))]) (λ_=>True) rfl ?_ (λ_ _=>?_)
 ·by_cases hn:Gb b<0
  ·have e:Qbc a b=-(Gb a):=if_pos hn;rw [e];exact go tt [.t (decide_eq_true hn),.c [] (Iz (z:=Gb a))] rfl trivial (rc () trivial rfl)
  ·have e:Qbc a b=Gb a:=if_neg hn;rw [e];exact go tt [.f (decide_eq_false hn)] rfl trivial (rc () trivial rfl)
 refine go tt [.o 9 52 4] rfl trivial ?_;refine lp (S:=Nat) 4 (λL1 i=>(44,.v (.one (.int .i64 (i:Int))))::(9,.v (.one (.orow 3 4 none)))::L1) (λi=>[.blk 50 (ri (Gb b)),.blk 50 [nd (Gb b).natAbs,.bool false],.blk 50 (ri (Qbc a b)),.row false 52 4 (frow (zp (Qrm a b i)))]) (λi=>a.length-i) (λi=>i<=a.length) 0 (Qh _) rfl (λ_ _=>rfl) rfl λi hi=>?_
 have hfl:=fzl (Qrm a b i);rw [Zbk] at hfl;by_cases h:i<a.length
 ·have cm:=Pm (a:=a.getD i 0) (b:=(((Gb b).natAbs:Nat):Int)) (Qc (U8 ha i) (by decide)) (by omega);have hm:=Fl (a.getD i 0) (((Gb b).natAbs:Nat):Int);have hai:=U8 ha i;rw [Zgb (Gb b).natAbs] at cm;by_cases hk:K<=i
  ·have hbi:=U8 hb (i-K);have hm2:=Fl (Qbc a b) (b.getD (i-K) 0);have e:Am a b i=a.getD i 0*(((Gb b).natAbs:Nat):Int)-Qbc a b*b.getD (i-K) 0:=by unfold Am; rw [if_pos (by omega),hK]
   refine go tt [.t (decide_eq_true (by omega)),.x (Ta h),.c [] cm,.t (decide_eq_true (by omega)),.r 62 (eI (b:=((i-K:Nat):Int)) (by omega)),.x (Ta (p:=b) (i:=i-K) (by omega)),.c [] (Pm (a:=Qbc a b) (b:=b.getD (i-K) 0) (by omega) (by omega)),.c [] (Q7b (by omega) (by omega)),.c [] (Dt (n:=1) (by decide)),.c [] (Mi (n:=a.getD i 0*(((Gb b).natAbs:Nat):Int)-Qbc a b*b.getD (i-K) 0)),.s (sz:=4) (Qx0 _)] rfl (by simp [Ur,hfl,-List.getD_eq_getElem?_getD] <;> omega) ?_;exact rd (i+1) (by omega) h (by rw [Qos,Qsb,e]; rfl)
  ·have e:Am a b i=a.getD i 0*(((Gb b).natAbs:Nat):Int):=by unfold Am; rw [if_neg (by omega),Int.sub_zero]
   refine go tt [.t (decide_eq_true (by omega)),.x (Ta h),.c [] cm,.f (decide_eq_false (by omega)),.c [] (Dt (n:=1) (by decide)),.c [] (Mi (n:=a.getD i 0*(((Gb b).natAbs:Nat):Int))),.s (sz:=4) (Qx0 _)] rfl (by simp [Ur,hfl,-List.getD_eq_getElem?_getD] <;> omega) ?_;exact rd (i+1) (by omega) h (by rw [Qos,Qsb,e]; rfl)
 ·have e:i=a.length:=by omega
  rw [e];exact go tt [.f (decide_eq_false (by omega)),.c [] cc] rfl trivial (rd (j,Qor a b) (by omega) hr rfl)
theorem Zjd:Ut Tryz.prog 27 [.agg (ri 1),.agg (ri 1)] [.agg (ri 1)]:=Pm (a:=1) (b:=1) (by decide) (by decide)
theorem Zd3:Ut Tryz.prog 85 [.agg (ri 1),.agg (ri 1)] [.agg (ri 1)]:=Qjv (a:=1) (b:=1) (by decide) (by decide)
theorem Zds {z:Int} (hz:U6 z<=90000000):Ut Tryz.prog 27 [.agg (ri z),.agg (ri 1)] [.agg (ri z)]:=by
 have h:=Pm (a:=z) (b:=1) (by omega) (by decide);rwa [Ww] at h
theorem Qzw {z:Int} (hz:U6 z<=90000000):Ut Tryz.prog 86 [.agg (ri z),.agg (ri 1)] [.agg (ri z)]:=by
 have h:=Qfz (a:=z) (b:=1) hz (by decide) (by decide) (Int.emod_one z);rwa [Wc] at h
theorem Q6n {z:Int}:Ut Tryz.prog 136 [.agg (fr (z:Rat))] [.agg (fr ((-z:Int):Rat))]:=by
 have h:=Zi7 (a:=(z:Rat));rwa [<-Vp] at h
theorem Zkl {c:Int} (hc:c≠0) (hs:U6 c<=9000000):Qs 40000000 (((1:Int):Rat) / (c:Rat)):=by
 have h0:(c:Rat)≠0:=λe=>hc (by exact_mod_cast e)
 rw [<-Qoh h0];unfold Gt;rw [if_neg (Jh (Cc _) (λe=>hc (by simpa using e)))];refine Qs.divInt (by show U6 (1*1)<=_; decide) ?_ (by decide);show U6 (1*c)<=_;rw [Y7]; omega
theorem Qwm {p:List Int} {c:Int} (hc:c≠0) (hs:U6 c<=9000000) (hd:∀ j,c∣p.getD j 0) (hp:Bd 9000000 p) (hl:p.length<=1000):Ut Tryz.prog 180 [.one (rp (zp p)),.agg (fr (((1:Int):Rat) / (c:Rat)))] [.one (rp (zp (Mf p.length λi=>p.getD i 0 / c)))]:=by
 have h:=Aw ((Ox hp (by omega)).mono (by omega)) (Zkl hc hs) (by rw [Sk]; omega);rwa [show ((1:Int):Rat)=1 from rfl,Qyr hc hd] at h
theorem I1 {p:List Int} (tp:Uz p) (hp:Bd 9000000 p) (hl:p.length<=1000):Ut Tryz.prog 222 [.one (rp (zp p))] [.agg (fr ((Nb p:Int):Rat)),.one (rp (zp (Re p)))]:=by
 have By:=fzl p;rcases Qz p.length with h0 | h0
 ·have e:=Qi h0;subst e;exact w tt Tryz.func222 rfl [.t rfl,.c [] Q7a] rfl rfl trivial
 have hc:=Q8u tp h0;refine Gv Tryz.func222 rfl ?_;refine go tt [.f (decide_eq_false (by omega)),.c [] (Dt (n:=1) (by decide))] rfl trivial ?_;refine lp (S:=Nat) 2 (λL1 i=>(16,.v (.one (.int .i64 (i:Int))))::L1) (λi=>[.blk 52 [.nils,.bool false,.nils,.bool false],.blk 50 (ri 1)]) (λi=>p.length-i) (λi=>i<=p.length) 0 (Qh _) rfl (λ_ _=>rfl) rfl λi hi=>?_
 by_cases h:i<p.length
 ·refine go tt [.t (decide_eq_true (by omega)),.x (Ta h),.c [] Zjd,.x (Ta h),.c [] Zd3,.c [] (Qzw (z:=1) (by decide))] rfl (by simp [Ur]; omega) ?_;exact rd (i+1) (by omega) h rfl
 refine go tt [.f (decide_eq_false (by omega))] rfl trivial ?_;clear h hi;refine nlb 2 rfl rfl rfl ?_;rw [Q2l];refine lp (S:=Nat) 3 (λL1 i=>(37,.v (.one (.int .i64 (i:Int))))::L1) (λi=>[.blk 52 [.nils,.bool false,.nils,.bool false],.blk 50 (ri 1),.blk 50 (ri ((Az p i:Nat):Int))]) (λi=>p.length-i) (λi=>i<=p.length) 0 (Qh _) rfl (λ_ _=>rfl) rfl λi hi=>?_
 by_cases h:i<p.length
 ·have hb:=U8 hp i;have hg:=Qab hp i;refine go tt [.t (decide_eq_true (by omega)),.x (Ta h),.c [] (Zds (z:=p.getD i 0) (by omega)),.x (Ta h),.c [] (Qzw (z:=p.getD i 0) (by omega)),.c [] (Qjv (a:=((Az p i:Nat):Int)) (b:=p.getD i 0) (by omega) (by omega))] rfl (by simp [Ur]; omega) ?_;exact rd (i+1) (by omega) h rfl
 have e:i=p.length:=by omega
 rw [e];have co:=Qcx (n:=1) (by decide);have cs:=Qwm hc (Qnh hp) (Q4f p) hp hl;by_cases hn:Gb p<0
 ·have e2:Nb p=-((Qcg p:Nat):Int):=if_pos hn;rw [show (λi=>p.getD i 0 / Nb p)=λi=>p.getD i 0 / Nb p from rfl] at cs;have cn:=Q6n (z:=((Qcg p:Nat):Int));rw [<-e2] at cn;exact en tt [.f (decide_eq_false (by omega)),.c [] (Mi (n:=((Qcg p:Nat):Int))),.r 62 (eI (b:=((p.length-1:Nat):Int)) (by omega)),.x (Ta (p:=p) (i:=p.length-1) (by omega)),.t (decide_eq_true hn),.c [] cn,.c [] co,.c [] (Qwl (a:=((1:Int):Rat)) (b:=((Nb p:Int):Rat)) ⟨by decide,by decide⟩ (Do (by have:=Qnh hp; omega) (by decide)) (λe=>hc (by exact_mod_cast e))),.c [] cs] rfl rfl (by simp [Ur]; omega)
 ·have e2:Nb p=((Qcg p:Nat):Int):=if_neg hn;have cm:=Mi (n:=Nb p);rw [e2] at cm cs hc ⊢;exact en tt [.f (decide_eq_false (by omega)),.c [] cm,.r 62 (eI (b:=((p.length-1:Nat):Int)) (by omega)),.x (Ta (p:=p) (i:=p.length-1) (by omega)),.f (decide_eq_false hn),.c [] co,.c [] (Qwl (a:=((1:Int):Rat)) (b:=((((Qcg p:Nat):Int):Int):Rat)) ⟨by decide,by decide⟩ (Do (by have:=Qab hp p.length; unfold Qcg; omega) (by decide)) (λe=>hc (by exact_mod_cast e))),.c [] cs] rfl (by unfold Re; rw [e2]; rfl) (by simp [Ur]; omega)
theorem I0 {p:List Int} (tp:Uz p) (hp:Bd 9000000 p) (hl:p.length<=1000):Ut Tryz.prog 243 [.one (rp (zp p))] [.one (rp (zp (Re p)))] :=
 w tt Tryz.func243 rfl [.c [] (I1 tp hp hl)] rfl rfl trivial
theorem Qni {p:List Int} (tp:Uz p):Nb p<0↔Gb p<0:=by
 unfold Nb;rcases Qz p.length with h0 | h0
 ·have:=Qi h0; subst this; decide
 ·have:=Qs3 tp h0
  split <;> omega
theorem Qwt {p:List Int} (hp:Bd 9000000 p) (hl:p.length<=1000000):Ut Tryz.prog 185 [.one (rp (zp p))] [.one (rp (zp (Pd p)))]:=by
 have h:=Qwy ((Ox hp (by decide)).mono (by decide)) (by rw [Sk]; exact hl);rwa [Q2m] at h
theorem Qst {p:List Int} (tp:Uz p) (hp:Bd 9000000 p) (hl:p.length<=1000):Ut Tryz.prog 183 [.one (rp (zp p))] [.one (rp (zp (Mg p)))]:=by
 by_cases hn:Gb p<0
 ·have e:Mg p=Pd (Re p):=if_pos hn;rw [e];exact w tt Tryz.func183 rfl [.c [] (I1 tp hp hl),.t (decide_eq_true ((Qni tp).2 hn)),.c [] (Qwt (Qjo hp) (Qc (Qgo p) (by omega)))] rfl rfl trivial
 ·have e:Mg p=Re p:=if_neg hn;rw [e];exact w tt Tryz.func183 rfl [.c [] (I1 tp hp hl),.f (decide_eq_false λh=>hn ((Qni tp).1 h))] rfl rfl trivial
end Orr
namespace Orr
theorem A3 (f:Nat->Int):Mf 1 f=trim [f 0]:=rfl
theorem Qkm (f:Nat->Int):Mf 2 f=trim [f 0,f 1]:=rfl
theorem Qff (x:Int):trim [x]=if x=0 then [] else [x]:=rfl
theorem Qo6 (x y:Int):trim [x,y]=if y=0 then trim [x] else [x,y]:=by
 simp only [trim]; split <;> split <;> simp_all
theorem bd1 {s:Nat} {x:Int} (h:U6 x<=s):Bd s [x]:=λz hz=>by simp at hz; subst hz; exact h
theorem bd2 {s:Nat} {x y:Int} (h:U6 x<=s) (h':U6 y<=s):Bd s [x,y]:=λz hz=>by
 simp only [Qo,Ug,or_false] at hz;rcases hz with rfl | rfl <;> assumption
section
variable {x d:Int} (hd:0<d) (hg:Int.gcd x d=1) (hx:U6 x<=1000000) (hs:U6 d<=1000000)
theorem b1 {s:Nat} (h:1<=s):Bd s [1]:=bd1 (Qc (show U6 1<=1 by decide) h)
include hd in
theorem Qex (hg:Int.gcd x d=1):Re [x,d]=[x,d]:=by
 have hc:Nb [x,d]=1:=by
  have h1:Qcg [x,d]=1:=by
   show Int.gcd (Int.gcd ((0:Nat):Int) x:Nat) d=1;rw [show Int.gcd ((0:Nat):Int) x=x.natAbs by simp,show Int.gcd ((x.natAbs:Nat):Int) d=Int.gcd x d by simp [Int.gcd],hg]
  unfold Nb;rw [if_neg (show ¬Gb [x,d]<0 from by show ¬d<0; omega),h1]; rfl
 unfold Re;rw [hc];show Mf 2 _=_;rw [Qkm,Qo6];show (if d / 1=0 then _ else [x / 1,d / 1])=_;rw [Wc,if_neg (by omega),Wc]
theorem Zap:Re [1]=[1]:=by decide
include hd in
theorem Qlx:Re [d]=[1]:=by
 have hc:Nb [d]=d:=by
  have h1:((Qcg [d]:Nat):Int)=d:=by
   show ((Int.gcd ((0:Nat):Int) d:Nat):Int)=d;simp; omega
  unfold Nb;rw [if_neg (show ¬Gb [d]<0 from by show ¬d<0; omega),h1]
 unfold Re;rw [hc];show Mf 1 _=_;rw [A3,Qff];show (if d / d=0 then _ else [d / d])=_;rw [Int.ediv_self (by omega)]; rfl
include hd in
theorem Qp1:Gj [x,d]=[d]:=by
 show Mf 1 _=_;rw [A3,Qff];show (if d*1=0 then _ else [d*1])=_;rw [Ww,if_neg (by omega)]
include hd hx hs in
theorem Qu8:∃ m,RRun [1] m [x,d] []:=by
 have h1:Qor [x,d] [1]=trim [x]:=by
  show Mf 2 _=_;rw [Qkm,Qo6];have e1:Am [x,d] [1] 1=0:=by
   show d*1-(if 1<=1 then Qbc [x,d] [1]*1 else 0)=0;have:Qbc [x,d] [1]=d:=by unfold Qbc; rw [if_neg (by decide)]; rfl
   rw [this]; simp
  have e0:Am [x,d] [1] 0=x:=by
   show x*1-(if 1<=0 then _ else 0)=x;simp
  rw [e1,if_pos rfl,e0]
 have hb:Bd 9000000 [x,d]:=bd2 (by omega) (by omega);by_cases h0:x=0
 ·refine ⟨1,.step (by show 1<=2; decide) (by show 2<=1000; decide) hb (b1 (by decide)) ?_⟩;rw [h1,h0];exact .stop (by decide)
 ·refine ⟨2,.step (by show 1<=2; decide) (by show 2<=1000; decide) hb (b1 (by decide)) ?_⟩;rw [h1,Qff,if_neg h0];refine .step (Ql 1) (by show 1<=1000; decide) (bd1 (by omega)) (b1 (by decide)) ?_;have h2:Qor [x] [1]=[]:=by
   show Mf 1 _=_;rw [A3,Qff];have e0:Am [x] [1] 0=0:=by
    show x*1-(if 0<=0 then Qbc [x] [1]*1 else 0)=0;have:Qbc [x] [1]=x:=by unfold Qbc; rw [if_neg (by decide)]; rfl
    rw [this]; simp
   rw [e0,if_pos rfl]
  rw [h2];exact .stop (by decide)
include hd hx hs in
theorem Q9d:∃ m,GRun m [x,d] [1] [1]:=by
 obtain ⟨m,h⟩:=Qu8 hd hx hs;exact ⟨1,.step (by decide) (by decide) (b1 (by decide)) h (by decide) O6 rfl (by rw [show Re []=[] by decide]; exact .stop _)⟩
theorem Q43 (c:Int):Pw [c] [c]=[]:=by
 show Mf 1 _=_;rw [A3,Qff];show (if c-c=0 then _ else _)=_;rw [if_pos (by omega)]
include hd hx hs in
theorem Q0v:DOk [x,d] [1] [x,d]:=by
 refine ⟨by decide,by decide,by show 2<=1000; decide,b1 (by decide),[x,d],[],?_⟩;have By:Gb [x,d] / Gb [1]=d:=by show d / 1=d; rw [Wc]
 have hsc:Ff [1] d=[d]:=by
  show Mf 1 _=_;rw [A3,Qff];show (if 1*d=0 then _ else [1*d])=_;rw [Y7,if_neg (by omega)]
 have hsub:Pw [x,d] (Ef 1 [d])=trim [x]:=by
  show Mf 2 _=_;rw [Qkm,Qo6];show (if d-d=0 then trim [x-0] else _)=_;rw [if_pos (by omega),Int.sub_zero]
 have hb:Bd 9000000 [x,d]:=bd2 (by omega) (by omega);have ht:trim [x,d]=[x,d]:=by rw [Qo6,if_neg (by omega)]
 by_cases h0:x=0
 ·refine ⟨1,hb,by show 2<=1000; decide,?_,ht.symm⟩;refine .step (by show 1<=2; decide) (by show 2<=1000; decide) hb (by decide) (by show (1:Int)∣d; exact Int.one_dvd d) (by show 1<2; decide) ?_;rw [By,hsc,show [x,d].length-[(1:Int)].length=1 from rfl,hsub,Qff,if_pos h0];show DRun [1] 0 [] [0,d] [x,d] [];rw [h0]; exact .stop (by decide)
 ·refine ⟨2,hb,by show 2<=1000; decide,?_,ht.symm⟩;refine .step (by show 1<=2; decide) (by show 2<=1000; decide) hb (by decide) (by show (1:Int)∣d; exact Int.one_dvd d) (by show 1<2; decide) ?_;rw [By,hsc,show [x,d].length-[(1:Int)].length=1 from rfl,hsub,Qff,if_neg h0];refine .step (by show 1<=1; decide) (by show 1<=1000; decide) (bd1 (by omega)) (by decide) (by show (1:Int)∣x; exact Int.one_dvd x) (by show 0<2; decide) ?_;have hpl2:Gb [x] / Gb [1]=x:=by show x / 1=x; rw [Wc]
  have hsc2:Ff [1] x=[x]:=by
   show Mf 1 _=_;rw [A3,Qff];show (if 1*x=0 then _ else [1*x])=_;rw [Y7,if_neg h0]
  rw [hpl2,hsc2,show [x].length-[(1:Int)].length=0 from rfl,show Ef 0 [x]=[x] from rfl,Q43];exact .stop (by decide)
theorem div_one:DOk [1] [1] [1]:=by
 refine ⟨by decide,by decide,by decide,b1 (by decide),[1],[],1,b1 (by decide),by decide,?_,by decide⟩;refine .step (by decide) (by decide) (b1 (by decide)) (by decide) (by decide) (by decide) ?_;exact .stop (by decide)
include hd hg hx hs in
theorem Q8x:FRun [x,d] 1 (λ_=>[x,d]):=by
 obtain ⟨m,hm⟩:=Q9d (x:=x) hd hx hs;refine ⟨⟨1,[[x,d],[1]],?_,rfl,?_⟩,by decide⟩
 ·rw [Qex hd hg];refine .step (by show 1<2; decide) (by show 2<=1000; decide) (by show trim [x,d]=[x,d]; rw [Qo6,if_neg (by omega)]) (by show Bd 9000000 [x,d]; exact bd2 (by omega) (by omega)) ?_ ?_ (by show 1<=1000; decide) (m:=m) (g:=[1]) ?_
  ·show Bd 9000000 (Gj [x,d]);rw [Qp1 hd]; exact bd1 (by omega)
  ·show GRun m (Re [x,d]) (Re (Gj [x,d])) [1];rw [Qex hd hg,Qp1 hd,Qlx hd]; exact hm
  ·exact .stop (by show 1<=1; decide)
 ·intro k hk;have:k=0:=by omega
  subst this;exact ⟨[x,d],[1],[x,d],Q0v hd hx hs,div_one,by rw [Qex hd hg,Zap]; exact Q0v hd hx hs,(Qex hd hg).symm⟩
theorem Q4t {p:List Int} (hp:Uz p) (h0:0<p.length):Fw [1] p=p:=by
 refine Qak (G5 _ _) hp λk=>?_
 unfold Fw;rw [if_neg (by
  rintro (h | h); · cases h
  ·omega),Ln]
 show (Ny [1] p (List.replicate (1+p.length-1) 0) 1).getD k 0=_;simp only [Ny];rw [Qgt _ _ _ _ _ _ (by simp),Ty]
 split
 ·show 0+1*p.getD (k-0) 0=_;rw [Wm]; omega
 ·rename_i h;rw [Qg,Qt (by omega)]; rfl
include hd hg hx hs in
theorem Q30:ChRun [x,d] [x,d] [[x,d],[1]]:=by
 obtain ⟨m,hm⟩:=Qu8 (x:=x) hd hx hs;have ht:Uz [x,d]:=by show trim [x,d]=_; rw [Qo6,if_neg (by omega)]
 refine ⟨⟨1,λ_=>[x,d],Q8x hd hg hx hs,?_,?_⟩,⟨1,?_⟩,bd2 (by omega) (by omega),by show 2<=1000; decide,by show 2<=1000; decide⟩
 ·intro i hi;have:i=0:=by omega
  subst this;exact ⟨b1 (by decide),by show 1<=1000; decide,bd2 (by omega) (by omega),by show 2<=1000; decide⟩
 ·show [x,d]=Fw [1] [x,d];rw [Q4t ht (by show 0<2; decide)]
 ·have hz:Mg (Gj [x,d])=[1]:=by
   rw [Qp1 hd];unfold Mg;rw [if_neg (show ¬Gb [d]<0 from by show ¬d<0; omega),Qlx hd]
  rw [hz];refine .step (by decide) (by decide) (b1 (by decide)) (m:=m) (r:=[]) hm rfl O6 (by decide) (by show 0<1; decide) (by show 1<=1000; decide) ?_;exact .stop (by decide)
end
theorem Zm4 {q:Rat} (h:Qs 1000000 q):Qzf q [[-q.num,(q.den:Int)],[1]]:=by
 refine ⟨[-q.num,(q.den:Int)],Q30 (den_pos q) ?_ (by rw [Hg]; exact h.1) h.2⟩;rw [Int.neg_gcd];have:=q.reduced;unfold Nat.Coprime at this;simpa [Int.gcd] using this
end Orr
namespace Orr
open Go Go.Proofs
set_option maxRecDepth 10000
theorem Zje {a b g:List Int} {n:Nat} (ta:Uz a) (tb:Uz b) (ha:Bd 9000000 a) (hb:Bd 9000000 b) (la:a.length<=1000) (lb:b.length<=1000) (hrun:GRun n (Re a) (Re b) g):Ut Tryz.prog 244 [.one (rp (zp a)),.one (rp (zp b))] [.one (rp (zp g))]:=by
 refine Gv Tryz.func244 rfl ?_;refine go tt [.c [] (I0 ta ha la),.c [] (I0 tb hb lb)] rfl trivial ?_;refine sb [(0,.v (.one (rp (zp (Re a))))),(1,.v (.one (rp (zp (Re b)))))] [] rfl rfl ?_;refine lp (S:=Nat×List Int×List Int) 0 (λL1 s=>(0,.v (.one (rp (zp s.2.1))))::(1,.v (.one (rp (zp s.2.2))))::L1) (λ_=>[]) (λs=>s.1) (λs=>GRun s.1 s.2.1 s.2.2 g) (n,Re a,Re b) hrun rfl (λ_ _=>rfl) rfl λ⟨k,x,y⟩ hs=>?_
 have hs:GRun k x y g:=hs;have hyl:=fzl y;rcases hs.inv with ⟨hk,hy0,hxg⟩ | ⟨j,m2,r,hk,hy0,hy1,hyb,hrr,hrl,hrb,hrt,hgr⟩
 ·rw [<-hxg];exact en tt [.f (decide_eq_false (by dsimp only; omega))] rfl rfl trivial
 ·subst hk;refine go tt [.t (decide_eq_true (by dsimp only; omega)),.c [] (Q0c (a0:=x) (b:=y) (res:=r) hy0 hy1 hyb hrr),.c [] (I0 (p:=r) hrt hrb hrl)] rfl trivial ?_;exact rd (j,y,Re r) (by dsimp only; omega) hgr rfl
theorem Zdt {x y:Int} (hx:U6 x<=9000000) (hy:U6 y<=9000000) (h0:y≠0) (hd:y∣x):Ut Tryz.prog 247 [.agg (fr (x:Rat)),.agg (fr (y:Rat))] [.agg (fr ((x / y:Int):Rat))]:=by
 have hy0:(y:Rat)≠0:=λe=>h0 (by exact_mod_cast e)
 have h:=Qwl (Do (s:=40000000) (z:=x) (by omega) (by omega)) (Do (s:=40000000) (z:=y) (by omega) (by omega)) hy0;obtain ⟨k,rfl⟩:=hd;rw [Xl _ h0];rwa [show (((y*k:Int):Rat)) / (y:Rat)=(k:Rat) by rw [Xj]; grind] at h
theorem Q3u {p:List Int} {c:Int} (hp:Bd 40000000 p) (hc:U6 c<=40000000) (hl:p.length<=1000000):Ut Tryz.prog 180 [.one (rp (zp p)),.agg (fr (c:Rat))] [.one (rp (zp (Ff p c)))]:=by
 have h:=Aw (Ox hp (by omega)) (Do hc (by omega)) (by rw [Sk]; exact hl);rwa [Qoq] at h
theorem Zgq (k:Nat) (p:List Int):frow (zp (List.replicate k 0))++frow (zp p)=frow (zp (Ef k p)):=by simp [zp,Ef,frow]
theorem Q4i (l:List Int) (i:Nat) (z:Int):(frow (zp l)).set i [nd ((z:Rat)).num.natAbs,sg ((z:Rat)).num,nd (((z:Rat)).den:Int).natAbs,sg (((z:Rat)).den:Int)]=frow (zp (l.set i z)):=Qto l i z
theorem Zd7 {p q:List Int} (hp:Bd 18000000 p) (hq:Bd 18000000 q) (hlp:p.length<=1000000) (hlq:q.length<=1000000):Hh Tryz.prog 138 [.one (rp (zp p)),.one (.orow 0 4 none)] [.row false 52 4 (frow (zp q))] [.one (rp (zp (Pw p q)))] [.gone]:=by
 have hn:=Qwy ((Ox hq (by decide)).mono (by decide)) (by rw [Sk]; exact hlq);have ha:=Qwu (p:=zp p) (q:=Qrj (zp q)) ((Ox hp (by decide)).mono (by decide)) ((Za7 (Ox hq (by decide))).mono (by decide)) (by rw [Sk]; exact hlp) (Qc (Qu9 _) (by rw [Sk]; exact hlq));have e:Q48 (zp p) (Qrj (zp q))=zp (Pw p q):=Q2q p q;rw [e] at ha;refine Gv Tryz.func138 rfl ?_;exact ed tt [] [0] [.c [] hn,.c [] ha] rfl trivial
theorem Q3v {a0 b qf rem:List Int} {n:Nat} (hb0:0<b.length) (hb1:b.length<=1000) (hl0:a0.length<=1000) (hbb:Bd 9000000 b) (hqb:Bd 9000000 qf) (hrun:DRun b n a0 (List.replicate (a0.length+1-b.length) 0) qf rem):Ut Tryz.prog 245 [.one (rp (zp a0)),.one (rp (zp b))] [.one (rp (zp (trim qf))),.one (rp (zp rem))]:=by
 have h0l:=fzl a0;have hbl:=fzl b;obtain ⟨N,hN⟩:=nmE (a0.length+1-b.length);rw [<-hN] at hrun;have cc:=O9 (p:=zp qf);rw [Bs] at cc;refine Gv Tryz.func245 rfl ?_;refine go tt [.r 18 (eI (b:=(N:Int)) (by omega)),.i N,.i N,.r 21 (eI (b:=(N:Int)) (by simp))] rfl (by simp [Ur]; omega) ?_;refine lp (S:=Nat) 1 (λL1 i=>(22,.v (.one (.int .i64 (i:Int))))::L1) (λi=>[.row false 52 4 (List.replicate i (fr 0)++List.replicate (N-i) zR)]) (λi=>N-i) (λi=>i<=N) 0 (Qh _) rfl (λ_ _=>rfl) rfl λi hi=>?_
 by_cases hlt:i<N
 ·refine go tt [.t (decide_eq_true (by omega)),.c [] Q7a,.i i] rfl (by simp [Ur]; omega) ?_;rw [Qqc hlt];exact rd (i+1) (by omega) hlt rfl
 have hiN:i=N:=by omega
 rw [hiN,Qmh];clear hiN hlt hi;refine go tt [.f (decide_eq_false (by omega))] rfl trivial ?_;refine sb [(0,.v (.one (rp (zp a0)))),(1,.v (.one (rp (zp b)))),(6,.v (.one (.orow 0 4 none)))] [.row false 52 4 (frow (zp (List.replicate N 0)))] rfl rfl ?_;refine lp (S:=Nat×List Int×List Int) 1 (λL1 s=>(0,.v (.one (rp (zp s.2.1))))::L1) (λs=>[.row false 52 4 (frow (zp s.2.2))]) (λs=>s.1) (λs=>DRun b s.1 s.2.1 s.2.2 qf rem/\s.2.2.length=N) (n,a0,List.replicate N 0) ⟨hrun,X1⟩ rfl (λ_ _=>rfl) rfl λ⟨k,a,q⟩ ⟨hr0,hr1⟩=>?_
 have hr0:DRun b k a q qf rem:=hr0;have hr1:q.length=N:=hr1;have hal:=fzl a;have hql:=fzl q;rcases hr0.inv with ⟨hk,hqf,har,hlt⟩ | ⟨j,hk,hba,hal2,hab,hpb,hpd,hkq,hrj⟩
 ·subst hqf; subst har;exact en tt [.f (decide_eq_false (by dsimp only; omega)),.c [] cc] rfl rfl trivial
 subst hk;obtain ⟨K,hK⟩:=nmE (a.length-b.length);rw [<-hK] at hrj hkq;have hla:U6 (Gb a)<=9000000:=U8 hab _;have hlb:U6 (Gb b)<=9000000:=U8 hbb _;obtain ⟨c,hc⟩:=nmE (Gb a / Gb b);have cq:=Zdt hla hlb hpb hpd;have hcs:U6 (Gb a / Gb b)<=9000000:=Qc (Qas _ _) hla;rw [<-hc] at cq hcs hrj;have hsl:=Fz b c;have hqs:∀ x,(q.set K x).length=N:=λx=>by rw [Jj]; exact hr1
 dsimp only;refine go tt [.t (decide_eq_true (by omega)),.r 39 (eI (b:=(K:Int)) (by omega)),.r 43 (eI (b:=((a.length-1:Nat):Int)) (by omega)),.x (Ta (p:=a) (i:=a.length-1) (by omega)),.r 49 (eI (b:=((b.length-1:Nat):Int)) (by omega)),.x (Ta (p:=b) (i:=b.length-1) (by omega)),.c [] cq,.i K,.i K,.i K,.r 60 (eI (b:=(K:Int)) (by simp))] rfl (by simp [Ur,hql] <;> omega) ?_;rw [Q4i];refine lp (S:=Nat) 3 (λL1 i=>(61,.v (.one (.int .i64 (i:Int))))::L1) (λi=>[.row false 52 4 (frow (zp (q.set K c))),.blk 52 (fr (c:Rat)),.row false 52 4 (List.replicate i (fr 0)++List.replicate (K-i) zR)]) (λi=>K-i) (λi=>i<=K) 0 (Qh _) rfl (λ_ _=>rfl) rfl λi hi=>?_
 by_cases hlt:i<K
 ·refine go tt [.t (decide_eq_true (by omega)),.c [] Q7a,.i i] rfl (by simp [Ur]; omega) ?_;rw [Qqc hlt];exact rd (i+1) (by omega) hlt rfl
 have hiK:i=K:=by omega
 rw [hiK,Qmh];clear hiK hlt hi;have hzl:=fzl (List.replicate K 0);rw [X1] at hzl;have By:=fzl (Ff b c);refine go tt [.f (decide_eq_false (by omega))] rfl trivial ?_;refine sb [(10,.v (.one (.orow 2 4 none))),(9,.v (.one (.ow 1 0))),(0,.v (.one (rp (zp a)))),(1,.v (.one (rp (zp b)))),(6,.v (.one (.orow 0 4 none)))] [.row false 52 4 (frow (zp (q.set K c))),.blk 52 (fr (c:Rat)),.row false 52 4 (frow (zp (List.replicate K 0)))] rfl rfl ?_;have p2:=Zd7 (p:=a) (q:=Ef K (Ff b c)) (Us hab (by decide)) (Us (Q3f (Gl hbb hcs)) (by decide)) (by omega) (by rw [Qyw]; omega);rw [<-Zgq] at p2;refine go tt [.c [] (Q3u (c:=c) (Us hbb (by decide)) (by omega) (by omega)),.s (sz:=4) (Qgc (zp (Ff b c))),.c [2] p2] rfl (by simp [Ur,hzl,By]; omega) ?_;exact rd (j,Pw a (Ef K (Ff b c)),q.set K c) (by dsimp only; omega) ⟨hrj,hqs c⟩ rfl
def zls (l:List (List Int)):List (List LV):=l.map λp=>[rp (zp p)]
theorem Qcf (l:List (List Int)):(zls l).length=l.length:=by simp [zls]
theorem Qfn (l:List (List Int)) (g:List Int):zls l++[[rp (zp g)]]=zls (l++[g]):=by simp [zls]
theorem Qce {l:List (List Int)} {i:Nat} (h:i<l.length):(zls l)[i]? = some [rp (zp (l.getD i []))]:=Gx (Qxj h)
theorem Zft (x:LV):∀ c∈[[x]],c.length=1:=λc hc=>by rw [Qk.1 hc]; rfl
theorem Qjx {a b q:List Int} (h:DOk a b q):∃ r,Ut Tryz.prog 245 [.one (rp (zp a)),.one (rp (zp b))] [.one (rp (zp q)),.one (rp (zp r))]:=by
 obtain ⟨h1,h2,h3,h4,qf,r,n,h5,h6,h7,rfl⟩:=h;exact ⟨r,Q3v h1 h2 h3 h4 h5 h7⟩
theorem Qww {a:List Int} {mf:Nat} {f:Nat->List Int} (ta:Uz a) (ha:Bd 9000000 a) (la:a.length<=1000) (h2:2<=a.length) (hF:FRun a mf f):Ut Tryz.prog 220 [.one (rp (zp a))] [.one (.row (zls (Qme f mf)))]:=by
 obtain ⟨⟨n,ls,hrun,hlen,hq⟩,hms⟩:=hF;have hal:=fzl a;refine Gv Tryz.func220 rfl ?_;refine go tt [.f (decide_eq_false (by omega)),.c [] (I0 ta ha la),.o 3 79 1,.lo] rfl trivial ?_;refine sb [(3,.v (.one (.orow 0 1 none))),(4,.v (.one (.orow 1 1 none)))] [.row false 79 1 [],.row false 79 1 (zls [Re a])] rfl rfl ?_;refine lp (S:=Nat×List (List Int)) 2 (λL1 s=>(4,.v (.one (.orow 1 1 none)))::L1) (λs=>[.row false 79 1 [],.row false 79 1 (zls s.2)]) (λs=>s.1) (λs=>LRun s.1 s.2 ls/\0<s.2.length/\s.2.length<=1001) (n,[Re a]) ⟨hrun,by show 0<1; decide,by show 1<=1001; decide⟩ rfl (λ_ _=>rfl) rfl λ⟨k,l⟩ ⟨hs1,hs2,hs3⟩=>?_
 have hs1:LRun k l ls:=hs1;have hs2:0<l.length:=hs2;have hs3:l.length<=1001:=hs3;have hll:=Qcf l;have hlast:(zls l)[l.length-1]? = some [rp (zp (Md l))]:=Qce (by omega);have By:=fzl (Md l);dsimp only;rcases hs1.inv with ⟨hk,hlf,hl1⟩ | ⟨j,m2,g,hk,hg1,hg2,hg3,hg4,hg5,hg6,hg7,hlr⟩
 ·have hlm:l.length=mf+1:=by rw [hlf]; exact hlen
  rw [<-hlf] at hq;have hl2:=Qcf (l++[[1]]);have hl3:(l++[[1]]).length=mf+2:=by simp [hlm]
  refine go tt [.r 23 (eI (b:=((l.length-1:Nat):Int)) (by omega)),.i (l.length-1),.x hlast,.f (decide_eq_false (by omega)),.c [] Qwz,.s (sz:=1) (Zft _)] rfl (by simp [Ur,hll]; omega) ?_;rw [Qfn];refine lp (S:=Nat) 2 (λL1 i=>(6,.v (.one (.int .i64 (i:Int))))::(3,.v (.one (.orow 0 1 none)))::L1) (λi=>[.row false 79 1 (zls (Qme f i)),.row false 79 1 (zls (l++[[1]]))]) (λi=>mf-i) (λi=>i<=mf) 0 (Qh _) rfl (λ_ _=>rfl) rfl λi hi=>?_
  have htl:=Qcf (Qme f i);rw [Qvl] at htl;by_cases h:i<mf
  ·obtain ⟨x,y,z,hx,hy,hz,hf⟩:=hq i h;obtain ⟨rx,hdx⟩:=Qjx hx;obtain ⟨ry,hdy⟩:=Qjx hy;obtain ⟨rz,hdz⟩:=Qjx hz;refine go tt [.t (decide_eq_true (by omega)),.i i,.x (Qce (by omega)),.i (i+1),.x (Qce (by omega)),.c [] hdx,.i (i+1),.x (Qce (by omega)),.i (i+2),.x (Qce (by omega)),.c [] hdy,.c [] (I0 hx.trim hx.bd hx.len),.c [] (I0 hy.trim hy.bd hy.len),.c [] hdz,.c [] (I0 hz.trim hz.bd hz.len),.s (sz:=1) (Zft _)] rfl (by simp [Ur,hl2,htl]; omega) ?_;exact rd (i+1) (by omega) h (by rw [Qfn,Q5h,hf]; rfl)
  ·have e:i=mf:=by omega
   rw [e];exact en tt [.f (decide_eq_false (by omega))] rfl rfl (by simp [Ur]; omega)
 ·subst hk;refine go tt [.r 23 (eI (b:=((l.length-1:Nat):Int)) (by omega)),.i (l.length-1),.x hlast,.t (decide_eq_true (by omega)),.r 31 (eI (b:=((l.length-1:Nat):Int)) (by omega)),.i (l.length-1),.x hlast,.c [] (Qwv (Us hg4 (by decide)) (by omega)),.c [] (Zje hg3 (Ft _ _) hg4 hg5 hg2 (Qc (Pn _) (by omega)) hg6),.s (sz:=1) (Zft _)] rfl (by simp [Ur,hll]; omega) ?_;exact rd (j,l++[g]) (by dsimp only; omega) ⟨hlr,by simp,by simp; omega⟩ (by rw [Qfn]; rfl)
theorem Q3w {a:List Int} {mf:Nat} {f:Nat->List Int} (ta:Uz a) (ha:Bd 9000000 a) (la:a.length<=1000) (h2:2<=a.length) (hF:FRun a mf f) (hP:Zlr mf f):Ut Tryz.prog 182 [.one (rp (zp a))] [.one (rp (zp (Ij f mf)))]:=by
 have hms:=hF.small;have hal:=fzl a;have htl:=Qcf (Qme f mf);rw [Qvl] at htl;refine Gv Tryz.func182 rfl ?_;refine go tt [.f (decide_eq_false (by omega)),.c [] Qwz,.c [] (Qww ta ha la h2 hF)] rfl trivial ?_;refine lp (S:=Nat) 0 (λL1 i=>(15,.v (.one (.int .i64 (i:Int))))::(3,.v (.one (rp (zp (Ij f i)))))::L1) (λ_=>[]) (λi=>mf-i) (λi=>i<=mf) 0 (Qh _) rfl (λ_ _=>rfl) rfl λi hi=>?_
 by_cases h:i<mf
 ·obtain ⟨g1,g2,g3,g4⟩:=hP i h;refine go tt [.t (decide_eq_true (by omega)),.x (Gx (f:=λp=>[rp (zp p)]) (Zcc h)),.c [] (Qwx (p:=Ij f i) (q:=f i) (by omega) (by omega) g1 g3 (by decide))] rfl (by simp [Ur]; omega) ?_;exact rd (i+1) (by omega) h rfl
 ·have e:i=mf:=by omega
  rw [e];exact en tt [.f (decide_eq_false (by omega))] rfl rfl trivial
theorem Q4p {l:List (List Int)} (g:List Int) (h:0<l.length):(zls l++[[rp (zp g)]])[l.length-1]? = some [rp (zp (Md l))]:=by
 rw [Zj (by rw [Qcf]; omega)];exact Qce (by omega)
theorem Q7k {a sq:List Int} {c:List (List Int)} (ta:Uz a) (ha:Bd 9000000 a) (la:a.length<=1000) (h2:2<=a.length) (hC:ChRun a sq c):Ut Tryz.prog 137 [.one (rp (zp a))] [.one (.row (zls c))]:=by
 obtain ⟨⟨mf,f,hF,hP,rfl⟩,⟨n,hcr⟩,hbd,hle,hsm⟩:=hC;refine Gv Tryz.func137 rfl ?_;refine go tt [.c [] (Q3w ta ha la h2 hF hP),.lo,.c [] (Qwv (p:=Ij f mf) (Us hbd (by decide)) (by omega)),.c [] (Qst (p:=Gj (Ij f mf)) (Ft _ _) (Us (Qin (t:=10) hbd (by omega)) (by decide)) (Qc (Pn _) (by omega)))] rfl trivial ?_;refine sb [(5,.v (.one (rp (zp (Mg (Gj (Ij f mf))))))),(4,.v (.one (.orow 0 1 none)))] [.row false 79 1 (zls [Ij f mf])] rfl rfl ?_;refine lp (S:=Nat×List (List Int)×List Int) 1 (λL1 s=>(5,.v (.one (rp (zp s.2.2))))::(4,.v (.one (.orow 0 1 none)))::L1) (λs=>[.row false 79 1 (zls s.2.1)]) (λs=>s.1) (λs=>CRun s.1 s.2.1 s.2.2 c/\0<s.2.1.length/\s.2.1.length<=1001) (n,[Ij f mf],Mg (Gj (Ij f mf))) ⟨hcr,by show 0<1; decide,by show 1<=1001; decide⟩ rfl (λ_ _=>rfl) rfl λ⟨k,l,g⟩ ⟨hs1,hs2,hs3⟩=>?_
 have hs1:CRun k l g c:=hs1;have hs2:0<l.length:=hs2;have hs3:l.length<=1001:=hs3;have hll:=Qcf l;have hgl:=fzl g;dsimp only;rcases hs1.inv with ⟨hk,hlf,hg0⟩ | ⟨j,m2,r,hk,hg1,hg2,hg3,hrr,hrt,hrb,hrl,hl0,hl1,hcj⟩
 ·subst hlf;exact en tt [.f (decide_eq_false (by omega))] rfl rfl trivial
 ·subst hk;refine go tt [.t (decide_eq_true (by omega)),.s (sz:=1) (Zft _),.r 23 (eI (b:=((l.length-1:Nat):Int)) (by simp; omega)),.i (l.length-1),.x (Q4p g hl0),.c [] (Q0c (a0:=Md l) (b:=g) (res:=r) hg1 hg2 hg3 hrr),.c [] (Qst (p:=r) hrt hrb hrl),.c [] (Qwt (p:=Mg r) (Q3e hrb) (Qc (Qxp r) (by omega)))] rfl (by simp [Ur,hll]; omega) ?_;exact rd (j,l++[g],Pd (Mg r)) (by dsimp only; omega) ⟨hcj,by simp,by simp; omega⟩ (by rw [Qfn]; rfl)
theorem Zly {q:Rat} (h1:U6 q.num<=1000000) (h2:U6 (q.den:Int)<=1000000):Bd 9000000 [-q.num,(q.den:Int)]:=λz hz=>by
 simp only [Qo,Ug,or_false] at hz;rcases hz with rfl | rfl
 ·rw [Hg]; omega
 ·omega
abbrev aq (q:Rat) (c:List (List Int)):List LV:=[rp (zp [-q.num,(q.den:Int)]),.row (zls c)]++fr q++fr q
theorem Qss {q:Rat} {c:List (List Int)} (hq:Qs 1000000 q) (hC:Qzf q c):Ut Tryz.prog 90 [.agg (fr q)] [.agg (aq q c)]:=by
 obtain ⟨sq,hch⟩:=hC;have co:=Dt (n:=1) (by decide);exact w tt Tryz.func90 rfl [.c [] co,.c [] (Mi (n:=q.num)),.c [] (Q6n (z:=q.num)),.c [] co,.c [] (Mi (n:=(q.den:Int))),.c [] (Q7k (a:=[-q.num,(q.den:Int)]) (Q22 q) (Zly hq.1 hq.2) (by show 2<=1000; decide) (Ql 2) hch)] rfl rfl trivial
theorem Qsu {q:Rat} {c:List (List Int)} (hq:Qs 1000000 q):Ut Tryz.prog 280 [.agg (aq q c)] [.one (.bool true)]:=by
 have cr:=Qpt (a:=q) (b:=q) (hq.mono (by decide)) (hq.mono (by decide));rw [B8] at cr;exact w tt Tryz.func280 rfl [.c [] cr] rfl rfl trivial
theorem Q42 {p:List Int} (h:p.length=0) (q:Rat):Gz p q=0:=by rw [Qi h]; rfl
theorem Q0b {p:List Int} {q:Rat} {c:List (List Int)} (hp:Bd 30000000 p) (hl:p.length<=64) (hq:Qs 1000000 q):Ut Tryz.prog 279 [.one (rp (zp p)),.agg (aq q c)] [.one (.bool (decide (Gz p q=0)))]:=by
 have By:=fzl p;rcases Qz p.length with h0 | h0
 ·rw [decide_eq_true (Q42 h0 q)];exact w tt Tryz.func279 rfl [.t (decide_eq_true (by omega))] rfl rfl trivial
 ·exact w tt Tryz.func279 rfl [.f (decide_eq_false (by omega)),.c [] (Qsu hq),.t rfl,.c [] (Q0a hp hl hq)] rfl rfl trivial
theorem Qmz {p:List Int} {q:Rat} {c:List (List Int)} (hp:Bd 30000000 p) (hl:p.length<=64) (hq:Qs 1000000 q):Ut Tryz.prog 269 [.one (rp (zp p)),.agg (aq q c)] [.one (.int .i64 (Gz p q))]:=by
 by_cases h0:Gz p q=0
 ·have cz:=Q0b (c:=c) hp hl hq;rw [h0] at cz ⊢;exact w tt Tryz.func269 rfl [.c [] cz,.t rfl] rfl rfl trivial
 ·exact w tt Tryz.func269 rfl [.c [] (Q0b hp hl hq),.f (decide_eq_false h0),.c [] (Qsu hq),.g 11 true rfl,.t rfl,.c [] (Q0a hp hl hq)] rfl rfl trivial
theorem Av {p:List Int} {q:Rat} {c:List (List Int)} (hp:Bd 20000000 p) (hl:p.length<=64) (hq:Qs 1000000 q):Ut Tryz.prog 253 [.one (rp (zp p)),.agg (aq q c)] [.one (.int .i64 (Mx p q))]:=by
 refine Gv Tryz.func253 rfl ?_;refine go tt [] rfl trivial ?_;refine lp (S:=List Int) 1 (λL1 r=>(0,.v (.one (rp (zp r))))::L1) (λ_=>[.blk 82 (aq q c)]) (λr=>r.length) (λr=>r.length<=64/\Bd (25000000-30*r.length) r/\Su (λp=>Gz p q) r.length r=Mx p q) p ⟨hl,Us hp (by omega),rfl⟩ rfl (λ_ _=>rfl) rfl λr ⟨hr0,hr1,hr2⟩=>?_
 have hrl:=fzl r;rcases Qz r.length with h0 | h0
 ·rw [Qhp _ h0] at hr2;exact en tt [.f (decide_eq_false (by omega))] rfl (by rw [<-hr2]) trivial
 by_cases hs:Gz r q=0
 ·have hd:=Pn r;refine go tt [.t (decide_eq_true (by omega)),.c [] (Qmz (p:=r) (c:=c) (Us hr1 (by omega)) hr0 hq),.f (decide_eq_false (λh=>h hs)),.c [] (Qwv (p:=r) (Us hr1 (by omega)) (by omega))] rfl trivial ?_;exact rd (Gj r) (by omega) ⟨by omega,Us (Qin (t:=6) hr1 (by omega)) (by omega),by rw [<-hr2,Qho _ h0 hs]⟩ rfl
 ·exact en tt [.t (decide_eq_true (by omega)),.c [] (Qmz (p:=r) (c:=c) (Us hr1 (by omega)) hr0 hq),.t (decide_eq_true hs)] rfl (by rw [<-hr2,Qhn _ h0 hs]) trivial
end Orr
namespace Orr
def Ao (p:List Int) (d:Int):List Rat:=p.map λ(z:Int)=>(z:Rat) / (d:Rat)
theorem Mv (p:List Int) (d:Int):(Ao p d).length=p.length:=Q6 _
theorem Zgh {p:List Int} {i:Nat} {z:Int} {d:Int} (h:p[i]? = some z):(Ao p d)[i]? = some ((z:Rat) / (d:Rat)):=by simp [Ao,h]
theorem Zbm (p:List Int) (d:Int) (i:Nat):(Ao p d).getD i 0=((p.getD i 0:Int):Rat) / (d:Rat):=by
 simp only [Qg,Ao,Q9];cases p[i]? with
 | none=>simp; grind
 | some z=>rfl
theorem Ls (z d:Int):(z:Rat) / (d:Rat)=Rat.divInt z d:=by
 by_cases h:d=0
 ·subst h; simp; grind
 ·rw [Jq];have e1:(z:Rat)=Rat.divInt z 1:=by have:=Z2 (z:Rat); simpa using this.symm
  have e2:(d:Rat)⁻¹=Rat.divInt 1 d:=by
   have:(d:Rat)=Rat.divInt d 1:=by have:=Z2 (d:Rat); simpa using this.symm
   rw [this,Rat.inv_divInt]
  rw [e1,e2,K8];simp
theorem Zer {z d:Int} (hd:0<d):(((z:Rat) / (d:Rat)).den:Int)*(Int.gcd z d:Nat)=d:=by
 rw [Ls];have h:=(Qqq (n:=z) hd).2;rw [<-h,Nu,Int.gcd_comm];exact Wn (Vv ..)
theorem Q9o {d a b L:Nat} (hd:0<d) (ha:L*a=d) {D:Nat} (hb:D*b=d):L*D / Nat.gcd L D*Nat.gcd a b=d:=by
 have hL:0<L:=W0 λe=>by rw [e] at ha; omega
 have hD:0<D:=W0 λe=>by rw [e] at hb; omega
 have hg:0<Nat.gcd L D:=Nat.gcd_pos_of_pos_left _ hL;show Nat.lcm L D*Nat.gcd a b=d;rw [<-Nat.gcd_mul_left];refine Nat.dvd_antisymm ?_ ?_
 ·-- gcd (M a) (M b) | d
  obtain ⟨u,hu⟩:=K0 L D;obtain ⟨v,hv⟩:=Ua L D;have hM:Nat.lcm L D=Nat.gcd L D*(u*v):=by
   unfold Nat.lcm
   conv=>lhs; rw [show L*D=Nat.gcd L D*u*(Nat.gcd L D*v) by rw [<-hu,<-hv]]
   rw [show Nat.gcd L D*u*(Nat.gcd L D*v)=Nat.gcd L D*(Nat.gcd L D*(u*v)) by rw [Xg,Kv u,]];exact Nat.mul_div_cancel_left _ hg
  have h1:Nat.lcm L D*a=v*d:=by
   rw [hM,<-ha]
   conv=>rhs; rw [hu]
   simp [Zh,Kv,Xg]
  have h2:Nat.lcm L D*b=u*d:=by
   rw [hM,<-hb]
   conv=>rhs; rw [hv]
   simp [Zh,Kv,Xg]
  have huv:Nat.gcd u v=1:=by
   have:=Nat.gcd_mul_left (Nat.gcd L D) u v;rw [<-hu,<-hv] at this;exact Nat.eq_of_mul_eq_mul_left hg (by omega)
  rw [h1,h2,Ub,Wl,huv,Ki];exact Nat.dvd_refl d
 ·refine Nat.dvd_gcd ?_ ?_
  ·rw [<-ha]; exact Nat.mul_dvd_mul_right (Nat.dvd_lcm_left L D) a
  ·rw [<-hb]; exact Nat.mul_dvd_mul_right (Nat.dvd_lcm_right L D) b
def lcd (z:List Int) (d:Int):Nat->Int
 | 0=>1
 | i+1=>lcd z d i*((((z.getD i 0:Int):Rat) / (d:Rat)).den:Int) / (Int.gcd (lcd z d i) ((((z.getD i 0:Int):Rat) / (d:Rat)).den:Int):Nat)
theorem Qxo {z:List Int} {d:Int} (hd:0<d):∀ i,i<=z.length->lcd z d i*((Hd (d::z.take i):Nat):Int)=d
 |
  0,_=>by
  show 1*_=d;have:((Hd [d]:Nat):Int)=d:=by unfold Hd; simp; omega
  rw [V2,this,Y7]
 |
  i+1,hi=>by
  have ih:=Qxo (z:=z) hd i (by omega);have hz:z[i]? = some (z.getD i 0):=Qgf (l:=z) (by omega);have hstep:Hd (d::z.take (i+1))=Nat.gcd (Hd (d::z.take i)) (z.getD i 0).natAbs:=by
   have:=Qnt (l:=d::z) (i:=i+1) (z:=z.getD i 0) (by simpa using hz);simpa using this
  have hdn:=Zer (z:=z.getD i 0) hd;simp only [lcd];generalize hL:lcd z d i=L at *;generalize hD:(((z.getD i 0:Int):Rat) / (d:Rat)).den=D at *;have hLp:0<L:=by
   rcases Jz L 0 with h | h | h
   ·have:=Int.mul_nonneg (Int.neg_nonneg_of_nonpos (Wd h)) (Int.natCast_nonneg (Hd (d::z.take i)));rw [Kh] at this; omega
   ·rw [h,Ye] at ih; omega
   ·exact h
  obtain ⟨l,rfl⟩:=Yn (Wd hLp);obtain ⟨e,rfl⟩:=Yn (Wd hd);have h1:l*Hd (((e:Nat):Int)::z.take i)=e:=by exact_mod_cast ih
  have h2:D*Int.gcd (z.getD i 0) ((e:Nat):Int)=e:=by exact_mod_cast hdn
  have h3:=Q9o (d:=e) (by omega) h1 h2;have h4:Nat.gcd (Hd (((e:Nat):Int)::z.take i)) (Int.gcd (z.getD i 0) ((e:Nat):Int))=Nat.gcd (Hd (((e:Nat):Int)::z.take i)) (z.getD i 0).natAbs:=by
   have hge:Hd (((e:Nat):Int)::z.take i)∣e:=⟨l,by rw [Zh]; exact h1.symm⟩;show Nat.gcd _ (Nat.gcd (z.getD i 0).natAbs e)=_;rw [Wl (z.getD i 0).natAbs e,<-Nat.gcd_assoc,Nat.gcd_eq_left hge]
  rw [hstep,<-h4];rw [show Int.gcd ((l:Nat):Int) ((D:Nat):Int)=Nat.gcd l D by simp [Int.gcd]]
  exact_mod_cast h3
theorem Ze7 {x y:List Int} {d:Int} (hd:0<d) (hg:Hd (d::(x++y))=1):lcd (x++y) d (x++y).length=d:=by
 have:=Qxo (z:=x++y) hd (x++y).length (Ql _);rw [Qy,hg] at this;simpa using this
theorem Ze9 {z:List Int} {d:Int} (hd:0<d) {i:Nat} (hi:i<=z.length):U6 (lcd z d i)<=U6 d:=by
 have h:=Qxo (z:=z) hd i hi;refine Rp ?_;have h0:Hd (d::z.take i)≠0:=λe=>by rw [e] at h; simp at h; omega
 have:d.natAbs=(lcd z d i).natAbs*Hd (d::z.take i):=by
  conv=>lhs; rw [<-h]
  rw [Jr]; simp
 rw [this];exact Jy _ (W0 h0)
end Orr
namespace Orr
open Go Go.Proofs
set_option maxRecDepth 10000
abbrev cl4 (k:Crv):List LV:=[pl k.x,pl k.y,sg k.d,mg k.d]
abbrev rcl (c:Crv):List LV:=[rp (Ao c.x c.d),rp (Ao c.y c.d)]++cl4 c
def Dx (p:Pt):List LV:=rcl p.c++[.int .i64 p.id]
def Fa (l:List Pt):List (List LV):=l.map Dx
structure Rs (k:Crv):Prop where
 n:Nml k
 c:Cs 100000 16 k
theorem Rs.d0 {k:Crv} (h:Rs k):0<k.d:=h.n.2.2.1
theorem Qdh {x:List Int} {d:Int} {s:Nat} (hx:Bd s x) (hd:U6 d<=s) (h1:1<=s):Rb s (Ao x d):=λq hq=>by
 obtain ⟨z,hz,rfl⟩:=Zr.1 hq;rw [Ls];exact Qs.divInt (hx z hz) hd h1
theorem Ql3 {x:List Int} {d:Int} (tx:Uz x) (hd:d≠0):Mh (Ao x d) (d:Rat)=zp x:=by
 have hd':(d:Rat)≠0:=λe=>hd (by exact_mod_cast e)
 unfold Mh;rw [Qjf (g:=λi=>x.getD i 0) _ λi _=>?_,Mv,Qlg,Bs,tx];rw [Zbm]; grind
theorem Qsv {p:List Rat} {c:Int} (hp:Rb 40000000 p) (hc:U6 c<=40000000) (hl:p.length<=1000000):Ut Tryz.prog 216 [.one (rp p),.agg (ri c)] [.one (rp (Mh p (c:Rat)))] :=
 w tt Tryz.func216 rfl [.c [] (Dt (n:=1) (by decide)),.c [] (Mi (n:=c)),.c [] (Aw (p:=p) (c:=(c:Rat)) hp (Do hc (by omega)) hl)] rfl rfl trivial
theorem Zgg (x y:List Int) (d:Int):frow (Ao x d)++frow (Ao y d)=frow (Ao (x++y) d):=by simp [Ao,frow]
theorem Qe7 {z:List Int} {d:Int} {i:Nat} (h:i<z.length):(Ao z d)[i]? = some (((z.getD i 0:Int):Rat) / (d:Rat)):=Zgh (Qgf h)
theorem Qmm (a b:Int) (hb:b≠0) {s:Nat} (h:U6 b<=s):U6 ((Int.gcd a b:Nat):Int)<=s:=by
 refine Qc (Rp ?_) h;simp only [Z9];exact Kg (by omega) (by simpa using Xo.2 (Vv a b))
theorem Ze8 (a b:Int):(a*b) % ((Int.gcd a b:Nat):Int)=0:=Jt (Vi (Ue ..) (W7 a b))
theorem Qm2 {k:Crv} (hs:Rs k):Ut Tryz.prog 179 [.one (rp (Ao k.x k.d)),.one (rp (Ao k.y k.d))] [.agg (rcl k)]:=by
 have hlx:=hs.c.lx;have hly:=hs.c.ly;have hds:=hs.c.d;have hxy:Bd 100000 (k.x++k.y):=λz hz=>by rcases Qu.1 hz with h | h; exact hs.c.x z h; exact hs.c.y z h
 have hfx:(frow (Ao k.x k.d)).length=k.x.length:=by rw [Tq,Mv]
 have hfy:(frow (Ao k.y k.d)).length=k.y.length:=by rw [Tq,Mv]
 have hfl:(frow (Ao (k.x++k.y) k.d)).length=k.x.length+k.y.length:=by rw [Tq,Mv,Q4]
 have hd0:=hs.d0;refine Gv Tryz.func179 rfl ?_;refine go tt [.c [] (Dt (n:=1) (by decide)),.s (sz:=4) (Qgc _),.s (sz:=4) (Qgc _)] rfl (by simp [Ur,hfx,hfy]; omega) ?_;rw [Zgg];refine lp (S:=Nat) 3 (λL1 i=>(15,.v (.one (.int .i64 (i:Int))))::L1) (λi=>[.blk 90 [.nils,.nils,.nils,.nils,.bool false,.nils],.blk 50 (ri (lcd (k.x++k.y) k.d i)),.row false 52 4 (frow (Ao (k.x++k.y) k.d))]) (λi=>k.x.length+k.y.length-i) (λi=>i<=k.x.length+k.y.length) 0 (Qh _) rfl (λ_ _=>rfl) rfl λi hi=>?_
 have hll:(k.x++k.y).length=k.x.length+k.y.length:=Q4;by_cases h:i<k.x.length+k.y.length
 ·have hlt:i<(k.x++k.y).length:=by omega
  have hqe:=Qdh (x:=(k.x++k.y)) (d:=k.d) (s:=100000) hxy hs.c.d (by decide);have hqi:=hqe.get (Qe7 hlt);obtain ⟨D,hD⟩:=nmE (((((k.x++k.y).getD i 0:Int):Rat) / (k.d:Rat)));have hg:=Lx (Qe7 (d:=k.d) hlt);have es:lcd (k.x++k.y) k.d (i+1)=lcd (k.x++k.y) k.d i*(D.den:Int) / ((Int.gcd (lcd (k.x++k.y) k.d i) (D.den:Int):Nat):Int):=by rw [hD]; rfl
  rw [<-hD] at hqi hg;have hq2:=hqi.2;have hli:=Qc (Ze9 (z:=(k.x++k.y)) hs.d0 (i:=i) (by omega)) hs.c.d;have hg0:((Int.gcd (lcd (k.x++k.y) k.d i) (D.den:Int):Nat):Int)≠0:=by have:=Int.gcd_ne_zero_right (a:=(lcd (k.x++k.y) k.d i)) (Cc D); omega
  have hmu:=Fl (lcd (k.x++k.y) k.d i) (D.den:Int);refine go tt [.t (decide_eq_true (by omega)),.i i,.x hg,.c [] (Pm (a:=lcd (k.x++k.y) k.d i) (b:=(D.den:Int)) (by omega) (by omega)),.i i,.x hg,.c [] (Qjv (a:=lcd (k.x++k.y) k.d i) (b:=(D.den:Int)) (by omega) (by omega)),.c [] (Qfz (by omega) (Qc (Qmm _ _ (Cc D) hq2) (by decide)) hg0 (Ze8 _ _))] rfl (by simp [Ur,hfl]; omega) ?_;exact rd (i+1) (by omega) h (by rw [es]; rfl)
 have e:lcd (k.x++k.y) k.d i=k.d:=by rw [show i=(k.x++k.y).length by omega]; exact Ze7 hs.d0 hs.n.2.2.2
 rw [e];have hx:=Qsv (p:=Ao k.x k.d) (c:=k.d) ((Qdh (s:=100000) hs.c.x hs.c.d (by decide)).mono (by omega)) (by omega) (by rw [Mv]; omega);have hy:=Qsv (p:=Ao k.y k.d) (c:=k.d) ((Qdh (s:=100000) hs.c.y hs.c.d (by decide)).mono (by omega)) (by omega) (by rw [Mv]; omega);rw [Ql3 hs.n.1 (by omega)] at hx;rw [Ql3 hs.n.2.1 (by omega)] at hy;exact en tt [.f (decide_eq_false (by omega)),.c [] hx,.c [] (Zho (p:=k.x) (Us hs.c.x (by omega)) (by omega)),.c [] hy,.c [] (Zho (p:=k.y) (Us hs.c.y (by omega)) (by omega)),.c [] (Q62 (z:=k.d) (by omega))] rfl rfl trivial
theorem Qrf (k:Crv):Gt 1 k.d'=((1:Int):Rat) / (k.d':Rat):=by
 unfold Gt; rw [if_neg k.d'_ne,Ls]
theorem Qh3 {x:List Int} {g d:Int} (hg:g≠0) (hd:d≠0) (hgd:g∣d) (tx:Uz x) (hx:∀ z∈x,g∣z):Mh (zp x) (((1:Int):Rat) / (d:Rat))=Ao (trim (x.map (· / g))) (d / g):=by
 have ht:Uz (x.map (· / g)):=Ej tx hg hx;rw [show trim (x.map (· / g))=x.map (· / g) from ht];obtain ⟨e,rfl⟩:=hgd;have he:e≠0:=λh=>hd (by rw [h,Kr])
 rw [Xl _ hg];have hgq:(g:Rat)≠0:=λh=>hg (by exact_mod_cast h)
 have heq:(e:Rat)≠0:=λh=>he (by exact_mod_cast h)
 unfold Mh;rw [Sk];have hval:∀ i,i<x.length->(zp x).getD i 0*(((1:Int):Rat) / ((g*e:Int):Rat))=(((x.map (· / g)).getD i 0:Int):Rat) / (e:Rat):=λi hi=>by
  rw [Qfo];have hz:=Qgf hi;have hm:(x.map (· / g)).getD i 0=x.getD i 0 / g:=by simp [Qg,Qe hi]
  obtain ⟨w,hw⟩:=hx _ (Qa hz);rw [hm,hw,Xl _ hg,Xj,Xj];have:((1:Int):Rat)=1:=rfl;rw [this];grind
 have htab:O1 (λi=>(zp x).getD i 0*(((1:Int):Rat) / ((g*e:Int):Rat))) x.length=Ao (x.map (· / g)) e:=by
  apply Xf;intro i;by_cases hi:i<x.length
  ·rw [Qe7 (by simpa using hi)];simp only [O1,Q9,Xs hi,Vn];rw [hval i hi]
  ·rw [Qt (by rw [Qfb]; omega),Qt (by rw [Mv]; simp; omega)]
 rw [htab];rcases Qz x.length with h0 | h0
 ·have:=Qi h0; subst this; rfl
 ·have hl:(Ao (x.map (· / g)) e).length=x.length:=by rw [Mv,Q6]
  have:=Qg5 (l:=Ao (x.map (· / g)) e) (m:=x.length) (by omega) (λj y hj hy=>by rw [Qt (by omega)] at hy; cases hy) (λ_=>⟨_,Qe7 (z:=x.map (· / g)) (d:=e) (i:=x.length-1) (by rw [Q6]; omega),λh=>by
   have h3:(((x.map (· / g)).getD (x.length-1) 0:Int):Rat)=0:=by grind
   have h4:(x.map (· / g)).getD (x.length-1) 0=0:=by exact_mod_cast h3
   have:=Ho ht (by rw [Q6]; omega);rw [Q6] at this;exact this h4⟩)
  rw [this,Qn (by omega)]
theorem Za6 {k:Crv} (hk:Cs 100000 16 k):Qs 40000000 (Gt 1 k.d'):=by
 have h1:=Qqj hk.d (by decide);rw [Qrf,Ls];exact Qs.divInt (by decide) (by omega) (by decide)
theorem Crv.g_dvd' (k:Crv) {z:Int} (h:z∈k.d'::(trim k.x++trim k.y)):k.g∣z:=Ym (k.g_dvd z h)
theorem Zbi (k:Crv):Mh (zp (trim k.x)) (Gt 1 k.d')=Ao k.norm.x k.norm.d:=by
 rw [Qrf];exact Qh3 k.g_ne k.d'_ne (k.g_dvd' (by simp)) (Ra _) (λz hz=>k.g_dvd' (by simp [hz]))
theorem Zbj (k:Crv):Mh (zp (trim k.y)) (Gt 1 k.d')=Ao k.norm.y k.norm.d:=by
 rw [Qrf];exact Qh3 k.g_ne k.d'_ne (k.g_dvd' (by simp)) (Ra _) (λz hz=>k.g_dvd' (by simp [hz]))
theorem Q2p {k:Crv} (h:Cs 100000 16 k):Rs k.norm:=⟨k.nml,h.norm (by decide)⟩
theorem Zd8 {k:Crv} (hk:Cs 100000 16 k):Ut Tryz.prog 135 [.agg (cl4 k)] [.agg (rcl (Crv.norm k))]:=by
 have hlx:=hk.lx;have hly:=hk.ly;have hkd:=hk.d;have hrq:=Za6 hk;have hdi:U6 k.d'<=100000:=Qqj hk.d (by decide);have hx:=Aw (p:=zp (trim k.x)) (c:=Gt 1 k.d') (Ox (Us (Tj hk.x) (by omega)) (by omega)) hrq (by rw [Sk]; have:=Ht k.x; omega);have hy:=Aw (p:=zp (trim k.y)) (c:=Gt 1 k.d') (Ox (Us (Tj hk.y) (by omega)) (by omega)) hrq (by rw [Sk]; have:=Ht k.y; omega);rw [Zbi] at hx;rw [Zbj] at hy;have c1:=Dt (n:=1) (by decide);have cm:=Qdx (a:=1) (b:=k.d') (by decide) (by omega);by_cases h0:k.d=0
 ·have e:k.d'=1:=by unfold Crv.d'; rw [if_pos h0]
  rw [e] at hx hy cm;exact w tt Tryz.func135 rfl [.c [] (Qpj (z:=k.d) (by omega)),.c [] Mq,.t (decide_eq_true h0),.c [] c1,.c [] c1,.c [] cm,.c [] (Qbp (p:=k.x) (Us hk.x (by omega)) (by omega)),.c [] hx,.c [] (Qbp (p:=k.y) (Us hk.y (by omega)) (by omega)),.c [] hy,.c [] (Qm2 (Q2p hk))] rfl rfl trivial
 ·have e:k.d'=k.d:=by unfold Crv.d'; rw [if_neg h0]
  rw [e] at hx hy cm;exact w tt Tryz.func135 rfl [.c [] (Qpj (z:=k.d) (by omega)),.c [] Mq,.f (decide_eq_false h0),.c [] c1,.c [] cm,.c [] (Qbp (p:=k.x) (Us hk.x (by omega)) (by omega)),.c [] hx,.c [] (Qbp (p:=k.y) (Us hk.y (by omega)) (by omega)),.c [] hy,.c [] (Qm2 (Q2p hk))] rfl rfl trivial
theorem Q7o {k:Crv} {id:Int} (hk:Cs 100000 16 k):Ut Tryz.prog 89 [.agg (cl4 k++[.int .i64 id])] [.agg (Dx ⟨Crv.norm k,id⟩)] :=
 w tt Tryz.func89 rfl [.c [] (Zd8 hk)] rfl rfl trivial
theorem Qcz {k:Crv} (hk:Rs k):Ut Tryz.prog 270 [.agg (rcl k)] [.one (rp (zp k.x)),.one (rp (zp k.y)),.one (rp (zp [k.d]))]:=by
 have hlx:=hk.c.lx;have hly:=hk.c.ly;have hkd:=hk.c.d;have hx:=Qbp (p:=k.x) (Us hk.c.x (by omega)) (by omega);have hy:=Qbp (p:=k.y) (Us hk.c.y (by omega)) (by omega);rw [show trim k.x=k.x from hk.n.1] at hx;rw [show trim k.y=k.y from hk.n.2.1] at hy;exact w tt Tryz.func270 rfl [.c [] (Qpj (z:=k.d) (by omega)),.c [] (Dt (n:=1) (by decide)),.c [] (Mi (n:=k.d)),.c [] hx,.c [] hy] rfl rfl trivial
theorem Qx5 {p:List Int} {d:Int} (tp:Uz p) (hd:d≠0):Fw p [d]=Ff p d:=by
 refine Qak (G5 _ _) (Ft _ _) λm=>?_
 unfold Ff;rw [To];unfold Fw;by_cases h0:p.length=0
 ·rw [if_pos (.inl h0),if_neg (by omega)]; rfl
 ·rw [if_neg (by simp; exact λh=>h0 (by rw [h]; rfl)),Ln];show (Ny p [d] (List.replicate (p.length+1-1) 0) p.length).getD m 0=_;have key:∀ i,i<=p.length->(Ny p [d] (List.replicate (p.length+1-1) 0) i).getD m 0=if m<i then p.getD m 0*d else 0:=by
   intro i
   induction i with
   | zero=>intro _; simp only [Ny]; rw [Ty,if_neg (by omega)]
   |
    succ i ih =>
    intro hi;simp only [Ny];rw [Qgt _ _ _ _ _ _ (by rw [Nz,X1]; show i+1<=_; omega),ih (by omega)];show (if i<=m/\m<i+1 then (if m<i then p.getD m 0*d else 0)+p.getD i 0*[d].getD (m-i) 0 else _)=_;by_cases e:m=i
    ·subst e;rw [if_pos ⟨Ql _,by omega⟩,if_neg (by omega),if_pos (by omega),Jo];show 0+p.getD m 0*d=_;omega
    ·rw [if_neg (by omega)];by_cases h1:m<i
     ·rw [if_pos h1,if_pos (by omega)]
     ·rw [if_neg h1,if_neg (by omega)]
  rw [key _ (Ql _)]
theorem Zlw {s:Nat} {d:Int} (h:U6 d<=s):Bd s [d]:=λz hz=>by simp at hz; subst hz; exact h
theorem Qpu {p:List Int} {d:Int} (tp:Uz p) (hd:d≠0) (hp:Bd 9000000 p) (hs:U6 d<=9000000) (hl:p.length<=1000):Ut Tryz.prog 221 [.one (rp (zp p)),.one (rp (zp [d]))] [.one (rp (zp (Ff p d)))]:=by
 have h:=Qwx (p:=p) (q:=[d]) (by omega) (by show 1<=1000000; decide) hp (Zlw hs) (by decide);rwa [Qx5 tp hd] at h
theorem Rs.dn {k:Crv} (h:Rs k):k.d≠0:=by have:=h.d0; omega
theorem Qz9 {p q:List Int} (hp:Bd 19000000 p) (hq:Bd 19000000 q) (hlp:p.length<=1000000) (hlq:q.length<=1000000):Ut Tryz.prog 138 [.one (rp (zp p)),.one (rp (zp q))] [.one (rp (zp (Pw p q)))]:=by
 have h:=Qw0 (Ox hp (by decide)) (Ox hq (by decide)) (by rw [Sk]; exact hlp) (by rw [Sk]; exact hlq);rwa [Q2q] at h
theorem Qaa {a b:Crv} (ha:Rs a) (hb:Rs b):Ut Tryz.prog 265 [.agg (rcl a),.agg (rcl b)] [.one (rp (zp (Hf a b)))] :=
 w tt Tryz.func265 rfl [.c [] (Qcz ha),.c [] (Qcz hb),.c [] (Qpu (p:=b.x) (d:=a.d) hb.n.1 ha.dn (Us hb.c.x (by decide)) (Qc ha.c.d (by decide)) (by have:=hb.c.lx; omega)),.c [] (Qpu (p:=a.x) (d:=b.d) ha.n.1 hb.dn (Us ha.c.x (by decide)) (Qc hb.c.d (by decide)) (by have:=ha.c.lx; omega)),.c [] (Qz9 (p:=Ff b.x a.d) (q:=Ff a.x b.d) (Us (Gl hb.c.x ha.c.d) (by decide)) (Us (Gl ha.c.x hb.c.d) (by decide)) (by have:=Fz b.x a.d; have:=hb.c.lx; omega) (by have:=Fz a.x b.d; have:=ha.c.lx; omega))] rfl rfl trivial
theorem Qjy {a b:Crv} (ha:Rs a) (hb:Rs b):Ut Tryz.prog 266 [.agg (rcl a),.agg (rcl b)] [.one (rp (zp (Hp a b)))] :=
 w tt Tryz.func266 rfl [.c [] (Qcz ha),.c [] (Qcz hb),.c [] (Qpu (p:=b.y) (d:=a.d) hb.n.2.1 ha.dn (Us hb.c.y (by decide)) (Qc ha.c.d (by decide)) (by have:=hb.c.ly; omega)),.c [] (Qpu (p:=a.y) (d:=b.d) ha.n.2.1 hb.dn (Us ha.c.y (by decide)) (Qc hb.c.d (by decide)) (by have:=ha.c.ly; omega)),.c [] (Qz9 (p:=Ff b.y a.d) (q:=Ff a.y b.d) (Us (Gl hb.c.y ha.c.d) (by decide)) (Us (Gl ha.c.y hb.c.d) (by decide)) (by have:=Fz b.y a.d; have:=hb.c.ly; omega) (by have:=Fz a.y b.d; have:=ha.c.ly; omega))] rfl rfl trivial
theorem Qb3 {a b:Crv} (ha:Rs a) (hb:Rs b):Bd 200001 (Hf a b)/\(Hf a b).length<=16:=by
 refine ⟨Us (Iv (Gl hb.c.x ha.c.d) (Gl ha.c.x hb.c.d)) (by omega),Qc (L8 _ _) ?_⟩;have:=Fz b.x a.d; have:=Fz a.x b.d; have:=ha.c.lx; have:=hb.c.lx; omega
theorem Qb0 {a b:Crv} (ha:Rs a) (hb:Rs b):Bd 200001 (Hp a b)/\(Hp a b).length<=16:=by
 refine ⟨Us (Iv (Gl hb.c.y ha.c.d) (Gl ha.c.y hb.c.d)) (by omega),Qc (L8 _ _) ?_⟩;have:=Fz b.y a.d; have:=Fz a.y b.d; have:=ha.c.ly; have:=hb.c.ly; omega
end Orr
namespace Orr
open Go
structure RawInt where
 b:Bool
 l:List Nat
structure RawPt where
 x:List RawInt
 y:List RawInt
 d:RawInt
 id:Int
abbrev Qg2 (z:RawInt):List LV:=[.bool z.b,Zk9 z.l]
structure RawInt.Ok (z:RawInt):Prop where
 u:∀ u∈z.l,u<4294967296
structure RawPt.Ok (z:RawPt):Prop where
 x:∀ a∈z.x,a.Ok
 y:∀ a∈z.y,a.Ok
 d:z.d.Ok
 id:-9223372036854775808<=z.id/\z.id<=9223372036854775807
def RawInt.cut (z:RawInt):RawInt:=⟨z.b,z.l.take 1⟩
def Tc (most:Int) (z:RawInt):Int:=match z.l with
 | []=>0
 | u::_=>if z.b=true then -((u:Int) % (most+1)) else (u:Int) % (most+1)
theorem Qc9 {most:Int} (h:0<=most) (z:RawInt):-most<=Tc most z/\Tc most z<=most:=by
 unfold Tc
 split
 ·omega
 ·rename_i u _ _;have h1:=Yd (u:Int) (b:=most+1) (by omega);have h2:=Jl (u:Int) (b:=most+1) (by omega)
  split <;> omega
def G9 (most:Int) (l:List RawInt):List Int:=(l.take 3).map (Tc most)
def Qel (most:Int) (x y:List RawInt) (d:RawInt):Crv:=⟨G9 most x,G9 most y,Tc 3 d⟩
def Qbx (most:Int) (z:RawPt):Pt:=⟨Qel most z.x z.y z.d,z.id % 1000⟩
theorem Qht (most:Int) (l:List RawInt):(G9 most l).length<=3:=by unfold G9; rw [List.length_map,List.length_take]; omega
theorem Qqp {most:Int} {l:List RawInt} {i:Nat} {z:RawInt} (hi:i<3) (h:l[i]? = some z):G9 most (l.take (i+1))=G9 most (l.take i)++[Tc most z]:=by
 unfold G9;rw [Wu,Wu,Ka (by omega),Ka (by omega),Zs,h];simp
theorem Qhs (most:Int) {l:List RawInt} {i:Nat} (h:l.length<=i\/3<=i):G9 most (l.take i)=G9 most l:=by
 unfold G9;rw [Wu];rcases Nat.le_total 3 i with h3 | h3
 ·rw [Zt h3]
 ·rcases h with h | h
  ·rw [Ka h3,Qn (l:=l) (i:=i) (by omega),Qn (l:=l) (i:=3) (by omega)]
  ·rw [Ka h3,show i=3 by omega]
theorem Qhu {most:Int} {l:List RawInt} {z:Int} (hm:0<=most) (h:z∈G9 most l):-most<=z/\z<=most:=by
 obtain ⟨a,_,rfl⟩:=Zr.1 h;exact Qc9 hm a
theorem Qm7 {most:Int} (hm:0<=most/\most<=999) (x y:List RawInt) (d:RawInt):Cs 10 3 (Qel most x y d):=by
 have key:∀ z:Int,-999<=z/\z<=999->U6 z<=10:=λz h=>Tz.2 (by omega)
 refine ⟨λz hz=>?_,λz hz=>?_,?_,Qht _ _,Qht _ _⟩
 ·have:=Qhu hm.1 hz; exact key _ (by omega)
 ·have:=Qhu hm.1 hz; exact key _ (by omega)
 ·have:=Qc9 (most:=3) (by decide) d;show U6 (Tc 3 d)<=10;exact key _ (by omega)
def Pg (n:Nat):List Pt->List Pt->List Pt
 | out,[]=>out
 | out,p::l=>if out.length<n then (if out.any (λx=>decide (x.id=p.id))=true then Pg n out l else Pg n (out++[p]) l) else out
theorem Oa {n:Nat}:∀ (l out:List Pt) (p:Pt),(Pg n out l).length<n->(Pg n out l).any (λx=>decide (x.id=p.id))=true->Pg n out (l++[p])=Pg n out l
 |
  [],out,p,h,ha=>by
  simp only [Pg] at h ha;show Pg n out [p]=out;simp only [Pg];rw [if_pos h,if_pos ha]
 |
  x::l,out,p,h,ha=>by
  show Pg n out (x::(l++[p]))=Pg n out (x::l);simp only [Pg] at h ha ⊢
  split
  ·rename_i h0;rw [if_pos h0] at h ha
   split
   ·rename_i h1;rw [if_pos h1] at h ha;exact Oa l out p h ha
   ·rename_i h1;rw [if_neg h1] at h ha;exact Oa l _ p h ha
  ·rfl
theorem Ah {n:Nat}:∀ (l out:List Pt) (p:Pt),(Pg n out l).length<n->(Pg n out l).any (λx=>decide (x.id=p.id))=false->Pg n out (l++[p])=Pg n out l++[p]
 |
  [],out,p,h,ha=>by
  simp only [Pg] at h ha;show Pg n out [p]=out++[p];simp only [Pg];rw [if_pos h,if_neg (by rw [ha]; simp)]
 |
  x::l,out,p,h,ha=>by
  show Pg n out (x::(l++[p]))=Pg n out (x::l)++[p];simp only [Pg] at h ha ⊢
  split
  ·rename_i h0;rw [if_pos h0] at h ha
   split
   ·rename_i h1;rw [if_pos h1] at h ha;exact Ah l out p h ha
   ·rename_i h1;rw [if_neg h1] at h ha;exact Ah l _ p h ha
  ·rename_i h0;rw [if_neg h0] at h;omega
theorem Qge {n:Nat}:∀ (l m out:List Pt),n<=(Pg n out l).length->Pg n out (l++m)=Pg n out l
 |
  [],m,out,h=>by
  simp only [Pg] at h;show Pg n out m=out
  match m with
  | []=>rfl
  | p::m=>simp only [Pg]; rw [if_neg (by omega)]
 |
  x::l,m,out,h=>by
  show Pg n out (x::(l++m))=Pg n out (x::l);simp only [Pg] at h ⊢
  split
  ·rename_i h0;rw [if_pos h0] at h
   split
   ·rename_i h1;rw [if_pos h1] at h;exact Qge l m out h
   ·rename_i h1;rw [if_neg h1] at h;exact Qge l m _ h
  ·rfl
theorem Qan {n:Nat}:∀ (l out:List Pt),out.length<=n->(Pg n out l).length<=n
 | [],out,h=>h
 |
  x::l,out,h=>by
  simp only [Pg]
  split
  ·split
   ·exact Qan l out h
   ·exact Qan l _ (by rw [Q4]; show _+1<=_; omega)
  ·exact h
theorem Qea {n:Nat}:∀ (l out:List Pt) {p:Pt},p∈Pg n out l->p∈out\/p∈l
 | [],out,p,h=>.inl h
 |
  x::l,out,p,h=>by
  simp only [Pg] at h
  split at h
  ·split at h
   ·rcases Qea l out h with h | h
    ·exact .inl h
    ·exact .inr (Qj _ h)
   ·rcases Qea l _ h with h | h
    ·rcases Qu.1 h with h | h
     ·exact .inl h
     ·exact .inr (by rw [Qk.1 h]; exact Qx ..)
    ·exact .inr (Qj _ h)
  ·exact .inl h
def Qgz (n:Nat) (most:Int) (zs:List RawPt):List Pt:=Pg n [] (zs.map (Qbx most))
def Pt.nrm (p:Pt):Pt:=⟨p.c.norm,p.id⟩
end Orr
namespace Orr
def Cn (l:List Pt):Prop:=l.Pairwise λa b=>a.id<b.id
theorem Zez (id:Int):has [] id=false:=rfl
theorem Qts (p:Pt) (l:List Pt) (id:Int):has (p::l) id=if p.id<id then has l id else decide (p.id=id):=by
 by_cases h:p.id<id
 ·rw [if_pos h]; unfold has; simp only [pos]; rw [if_pos h]; simp
 ·rw [if_neg h]; unfold has; simp only [pos]; rw [if_neg h]; simp
theorem Zay (p:Pt) (l:List Pt) (q:Pt):put (p::l) q=if p.id<q.id then p::put l q else q::p::l:=by
 unfold put;simp only [pos]
 split <;> simp
theorem Qqh:∀ {l:List Pt} {id:Int},Cn l->(has l id=true↔∃ p∈l,p.id=id)
 | [],id,_=>by simp [Zez]
 |
  p::l,id,h=>by
  have h1:=Q5.1 h;rw [Qts]
  split
  ·rename_i hlt;rw [Qqh h1.2];constructor
   ·rintro ⟨x,hx,e⟩; exact ⟨x,Qj _ hx,e⟩
   ·rintro ⟨x,hx,e⟩
    rcases Qo.1 hx with rfl | hx
    ·omega
    ·exact ⟨x,hx,e⟩
  ·rename_i hge;rw [decide_eq_true_iff];constructor
   ·intro e; exact ⟨p,Qx ..,e⟩
   ·rintro ⟨x,hx,e⟩
    rcases Qo.1 hx with rfl | hx
    ·exact e
    ·have:=h1.1 x hx; omega
theorem Ql0:∀ {l:List Pt} {q:Pt},Cn l->has l q.id=false->Cn (put l q)
 | [],q,_,_=>by simp [put,pos,Cn]
 |
  p::l,q,h,hn=>by
  have h1:=Q5.1 h;rw [Qts] at hn;rw [Zay]
  split
  ·rename_i hlt;rw [if_pos hlt] at hn;refine Q5.2 ⟨λx hx=>?_,Ql0 h1.2 hn⟩;rcases Q2g hx with rfl | hx
   ·exact hlt
   ·exact h1.1 x hx
  ·rename_i hge;rw [if_neg hge,decide_eq_false_iff_not] at hn;refine Q5.2 ⟨λx hx=>?_,h⟩;rcases Qo.1 hx with rfl | hx
   ·omega
   ·have:=h1.1 x hx; omega
theorem Q1r {l:List Pt} {q p:Pt} (h:p=q\/p∈l):p∈put l q:=by
 unfold put;rcases h with rfl | h
 ·simp
 ·rw [<-Zb (pos l q.id) l] at h;simp only [Qu,Qo] at h ⊢;rcases h with h | h
  ·exact .inl h
  ·exact .inr (.inr h)
theorem Zax {l:List Pt} {q:Pt} (h:l.length<6):Qa9 l q=if has l q.id=true then 6 else 0:=by
 unfold Qa9
 split
 ·rfl
 ·rw [if_neg (by omega)]
theorem Qn7:∀ (qs acc:List Pt),Cn acc->acc.length+qs.length<=6 ->
 ((T0 acc qs).2=0/\Cn (T0 acc qs).1/\(T0 acc qs).1.length=acc.length+qs.length/\qs.Pairwise (λa b=>a.id≠b.id)/\∀ q∈qs,∀ p∈acc,p.id≠q.id) \/
 ((T0 acc qs).2=6/\¬(qs.Pairwise (λa b=>a.id≠b.id)/\∀ q∈qs,∀ p∈acc,p.id≠q.id))
 | [],acc,hs,_=>.inl ⟨rfl,hs,rfl,List.Pairwise.nil,λ_ h=>absurd h (by simp)⟩
 |
  q::qs,acc,hs,hl=>by
  simp only [Q7] at hl;have he:=Zax (l:=acc) (q:=q) (by omega);simp only [T0];cases hh:has acc q.id with
  |
   true =>
   rw [hh,if_pos rfl] at he;rw [he,if_neg (by decide)];obtain ⟨p,hp,e⟩:=(Qqh hs).1 hh;exact .inr ⟨rfl,λh=>h.2 q (Qx ..) p hp e⟩
  |
   false =>
   rw [hh,if_neg (by decide)] at he;rw [he,if_pos rfl];have hno:∀ p∈acc,p.id≠q.id:=λp hp e=>by
    have:=(Qqh hs).2 ⟨p,hp,e⟩;rw [hh] at this; cases this
   have By:=Q2f acc q;rcases Qn7 qs (put acc q) (Ql0 hs hh) (by omega) with ⟨h1,h2,h3,h4,h5⟩ | ⟨h1,h2⟩
   ·refine .inl ⟨h1,h2,by simp only [Q7]; omega,Q5.2 ⟨λx hx=>h5 x hx q (Q1r (.inl rfl)),h4⟩,λx hx p hp=>?_⟩;rcases Qo.1 hx with rfl | hx
    ·exact hno p hp
    ·exact h5 x hx p (Q1r (.inr hp))
   ·refine .inr ⟨h1,λh=>h2 ⟨(Q5.1 h.1).2,λx hx p hp=>?_⟩⟩;rcases Q2g hp with rfl | hp
    ·exact (Q5.1 h.1).1 x hx
    ·exact h.2 x (Qj _ hx) p hp
theorem Q4u {qs:List Pt} (hl:qs.length<=6) :
 ((T0 [] qs).2=0/\Cn (T0 [] qs).1/\(T0 [] qs).1.length=qs.length/\qs.Pairwise (λa b=>a.id≠b.id))\/((T0 [] qs).2=6/\¬qs.Pairwise (λa b=>a.id≠b.id)):=by
 rcases Qn7 qs [] List.Pairwise.nil (by simpa using hl) with ⟨h1,h2,h3,h4,_⟩ | ⟨h1,h2⟩
 ·exact .inl ⟨h1,h2,by simpa using h3,h4⟩
 ·exact .inr ⟨h1,λh=>h2 ⟨h,λ_ _ _ hp=>absurd hp (by simp)⟩⟩
end Orr
namespace Orq
open Orr Go
theorem Zmx {a b c:Tm} (hb:Cut (Fe b)) (hc:Cut (Fe c)) (h:Pj a b) (h':Pj b c):Pj a c:=by
 obtain ⟨q,q1,q2⟩:=h;obtain ⟨r,r1,r2⟩:=h';exact ⟨q,q1,hc.mono' (hb.lt q2 r1) (by omega)⟩
theorem Qgp {a b:Tm} (ha:Cut (Fe a)) (hb:Cut (Fe b)) (h:¬Pj b a):Leq a (Fe b):=λq hq=>by
 rcases ha.val q with e | e | e
 ·exact absurd ⟨q,hq,e⟩ h
 ·obtain ⟨r,r1,r2⟩:=hb.dn q hq;exact absurd ⟨r,r2,ha.mono' r1 (by omega)⟩ h
 ·exact e
theorem Q1i {a b c:Tm} (_:Cut (Fe a)) (hb:Cut (Fe b)) (hc:Cut (Fe c)) (h:Pj a b) (h':¬Pj c b):Pj a c:=by
 obtain ⟨q,q1,q2⟩:=h;refine ⟨q,q1,?_⟩;have hl:=Qgp hb hc h';rcases hc.val q with e | e | e
 ·exact e
 ·obtain ⟨r,r1,r2⟩:=hb.up q q2;have h1:=hc.mono q r r1 (by omega);have:=hl r h1;omega
 ·have:=hl q e; omega
theorem Qqr {a b:Tm} (ha:Cut (Fe a)) (hb:Cut (Fe b)) (h:Pj a b):¬Pj b a:=λh'=>Qda ha hb h h'
theorem Ib {p:List Int} {a b:Tm} {o:Option Tm} (ha:Cut (Fe a)) (hb:Cut (Fe b)) (hab:¬Pj b a) (h:Sw p a o) (ho:∀ t,o=some t->Pj b t):Sw p b o:=by
 have hl:=Qgp ha hb hab;cases o with
 |
  none =>
  rcases h with h | ⟨s,s0,h⟩
  ·exact .inl h
  ·exact .inr ⟨s,s0,λc hc hbc=>h c hc λq hq=>hl q (hbc q hq)⟩
 |
  some t =>
  obtain ⟨h1,h2,_,s,s0,h4,h5⟩:=h;exact ⟨h1,h2,ho t rfl,s,s0,λc hc hbc hm=>h4 c hc (λq hq=>hl q (hbc q hq)) hm,h5⟩
theorem Qnv {p:List Int} {a b:Tm} {o:Option Tm} (hp:Dp p) (ha:Va a) (hb:Va b) (hab:¬Pj b a) (h:Sw p a o) (ho:∀ t,o=some t->Pj b t):Tf (G0 b) p=Tf (G0 a) p:=by
 by_cases h0:p.length=0
 ·obtain rfl:=Qi h0; rfl
 obtain ⟨ra,_⟩:=Ob ha hp h0;obtain ⟨rb,_⟩:=Ob hb hp h0;have hl:=Qgp ha.cut hb.cut hab;cases o with
 |
  none =>
  rcases h with h | ⟨s,s0,h⟩
  ·exact absurd (by rw [h]; rfl) h0
  ·exact (Qe5 rb (h _ hb.cut hl)).trans (Qe5 ra (h _ ha.cut λ_ h=>h)).symm
 |
  some t =>
  obtain ⟨h1,h2,h3,s,s0,h4,h5⟩:=h;exact (Qe5 rb (h4 _ hb.cut hl (ho t rfl))).trans (Qe5 ra (h4 _ ha.cut (λ_ h=>h) h3)).symm
theorem Ir (t q:Rat):Fe (tq t) q=Gq t q:=Es (t:=tq t) rfl q
theorem Qj6 {a:Tm} {t:Rat} (ha:Cut (Fe a)):0<Fe a t↔Pj (tq t) a:=by
 constructor
 ·intro h;have h1:Fe a t=1:=by rcases ha.val t with e | e | e <;> omega
  obtain ⟨r,r1,r2⟩:=ha.up t h1;exact ⟨r,by rw [Ir]; rcases Tx t r with ⟨e,e'⟩ | ⟨e,e'⟩ | ⟨e,e'⟩ <;> first | exact e | (exfalso; grind),r2⟩
 ·rintro ⟨q,q1,q2⟩
  rw [Ir] at q1;have:t<q:=by rcases Tx t q with ⟨e,e'⟩ | ⟨e,e'⟩ | ⟨e,e'⟩ <;> first | exact e' | omega
  have:=ha.mono' this (by omega);omega
open Classical in
noncomputable def mu (T:List Tm) (a:Tm):Nat:=(T.filter λt=>decide (Pj a t)).length
theorem Qnj {α:Type} {p q:α->Bool} (h:∀ x,p x=true->q x=true):∀ l:List α,(l.filter p).length<=(l.filter q).length
 | []=>Ql _
 |
  x::l=>by
  have ih:=Qnj h l;by_cases hp:p x=true
  ·rw [X2 hp,X2 (h x hp)]; simp; exact ih
  ·rw [Ju hp];by_cases hq:q x=true
   ·rw [X2 hq]; simp; omega
   ·rw [Ju hq]; exact ih
theorem Qnk {α:Type} {p q:α->Bool} (h:∀ x,p x=true->q x=true) {y:α} (hp:p y=false) (hq:q y=true):∀ {l:List α},y∈l->(l.filter p).length<(l.filter q).length
 | [],hy=>by cases hy
 |
  x::l,hy=>by
  rcases Qo.1 hy with rfl | hy
  ·rw [Ju (by simp [hp]),X2 hq];have:=Qnj h l;simp; omega
  ·have ih:=Qnk h hp hq hy;by_cases hp:p x=true
   ·rw [X2 hp,X2 (h x hp)]; simp; exact ih
   ·rw [Ju hp];by_cases hq:q x=true
    ·rw [X2 hq]; simp; omega
    ·rw [Ju hq]; exact ih
open Classical in
theorem Zh9 {T:List Tm} {a b:Tm} (ha:Cut (Fe a)) (hb:Cut (Fe b)) (hT:∀ t∈T,Cut (Fe t)) (h:Pj a b) (hm:b∈T):mu T b<mu T a:=by
 have key:∀ l:List Tm,(∀ t∈l,Cut (Fe t))->l.filter (λt=>decide (Pj b t))=l.filter (λt=>decide (Cut (Fe t)/\Pj b t)):=λl hl=>List.filter_congr λx hx=>by simp [hl x hx]
 have key2:∀ l:List Tm,(∀ t∈l,Cut (Fe t))->l.filter (λt=>decide (Pj a t))=l.filter (λt=>decide (Cut (Fe t)/\Pj a t)):=λl hl=>List.filter_congr λx hx=>by simp [hl x hx]
 unfold mu;rw [key T hT,key2 T hT];refine Qnk (λx hx=>?_) (y:=b) ?_ ?_ hm
 ·have hx:=of_decide_eq_true hx;exact decide_eq_true ⟨hx.1,Zmx hb hx.1 h hx.2⟩
 ·exact decide_eq_false λhx=>Qda hb hb hx.2 hx.2
 ·exact decide_eq_true ⟨hb,h⟩
def tms (p:List Int):List Tm:=(Qdm p).getD []
structure KInv (c:Cr):Prop where
 ok:CrOk c
 k:∀ w∈c.l,w.known=true->Sw w.c.p c.now w.fails/\∀ t,w.fails=some t->t∈tms w.c.p
theorem Qlk {p:List Int} (h:Cp p) {a:Tm} (ha:Va a):∃ r,Qhw p a=some r/\Sw p a r/\∀ t,r=some t->t∈tms p:=by
 obtain ⟨l,l1,_,_,l3⟩:=Qbi h;obtain ⟨r,r1,r2,r3⟩:=l3 a ha;refine ⟨r,?_,r2,λt ht=>by unfold tms; rw [l1]; exact r3 t ht⟩;unfold Qhw; rw [l1]; exact r1
theorem Zk8 {p:List Int} (h:Cp p):∀ t∈tms p,Va t:=by
 obtain ⟨l,l1,_,l2,_⟩:=Qbi h;unfold tms; rw [l1]; exact l2
theorem Q1m {now:Tm} (hn:Va now):∀ {l:List Wt},(∀ w∈l,WtOk w)->(∀ w∈l,w.known=true->Sw w.c.p now w.fails/\∀ t,w.fails=some t->t∈tms w.c.p) ->
 ∃ ws,Qay now l=some ws/\ws.map (·.c)=l.map (·.c)/\∀ w∈ws,w.known=true/\Sw w.c.p now w.fails/\∀ t,w.fails=some t->t∈tms w.c.p
 | [],_,_=>⟨[],rfl,rfl,λw hw=>by cases hw⟩
 |
  w::l,h,h'=>by
  obtain ⟨ws,w1,w2,w3⟩:=Q1m hn (λv hv=>h v (Qj _ hv)) (λv hv=>h' v (Qj _ hv));by_cases hk:w.known=true
  ·refine ⟨w::ws,by simp only [Qay,hk,if_true,w1]; rfl,by simp [w2],λv hv=>?_⟩;rcases Qo.1 hv with rfl | hv
   ·exact ⟨hk,h' v (by simp) hk⟩
   ·exact w3 v hv
  ·obtain ⟨r,r1,r2,r3⟩:=Qlk (h w (by simp)).p hn;refine ⟨⟨w.c,true,r⟩::ws,by simp only [Qay]; rw [if_neg hk,r1,w1]; rfl,by simp [w2],λv hv=>?_⟩;rcases Qo.1 hv with rfl | hv
   ·exact ⟨rfl,r2,r3⟩
   ·exact w3 v hv
theorem Q1e {at_:Tm} (ha:Va at_) {x:Ct}:∀ {l:List Wt},(∀ w∈l,WtOk w)->∃ w,Lz l x at_=some w/\w.c=x
 | [],_=>⟨fresh x,rfl,rfl⟩
 |
  v::l,h=>by
  obtain ⟨w,w1,w2⟩:=Q1e ha (x:=x) λv hv=>h v (Qj _ hv)
  simp only [Lz]
  split
  ·cases hf:v.fails with
   | none=>exact ⟨_,rfl,rfl⟩
   |
    some t =>
    obtain ⟨c,c1,_⟩:=Qis ((h v (by simp)).f t hf) ha;dsimp only;rw [c1];show ∃ w,(if 0<c then some ⟨x,true,some t⟩ else Lz l x at_)=some w/\w.c=x
    split
    ·exact ⟨_,rfl,rfl⟩
    ·exact ⟨w,w1,w2⟩
  ·exact ⟨w,w1,w2⟩
theorem Q9n {at_:Tm} (ha:Va at_) {ol:List Wt} (ho:∀ w∈ol,WtOk w):∀ l:List Ct,∃ ws,Qei ol at_ l=some ws/\ws.map (·.c)=l
 | []=>⟨[],rfl,rfl⟩
 |
  x::l=>by
  obtain ⟨w,w1,w2⟩:=Q1e ha (x:=x) ho;obtain ⟨ws,s1,s2⟩:=Q9n ha ho l;exact ⟨w::ws,by simp only [Qei,w1,s1]; rfl,by simp [w2,s2]⟩
theorem Q4l {out:List Ct} {c x:Ct}:x∈Qc7 out c↔x=c\/x∈out:=by
 have h:x∈out↔x∈out.take (Qa5 out c out.length)\/x∈out.drop (Qa5 out c out.length):=by
  rw [<-Qu,Zb]
 simp only [Qc7,Qu,Qo,h];constructor
 ·rintro (h | h | h)
  ·exact .inr (.inl h)
  ·exact .inl h
  ·exact .inr (.inr h)
 ·rintro (h | h | h)
  ·exact .inr (.inl h)
  ·exact .inl h
  ·exact .inr (.inr h)
theorem Qnn:∀ (l acc:List Ct) {y:Ct},y∈l.foldl Qc7 acc↔y∈l\/y∈acc
 | [],acc,y=>by simp
 |
  c::l,acc,y=>by
  simp only [Z5];rw [Qnn l,Q4l,Qo];constructor
  ·rintro (h | h | h)
   ·exact .inl (.inr h)
   ·exact .inl (.inl h)
   ·exact .inr h
  ·rintro ((h | h) | h)
   ·exact .inr (.inl h)
   ·exact .inl h
   ·exact .inr (.inr h)
theorem Qoz {l:List Ct} {x:Ct}:x∈Hi l↔x∈l:=by unfold Hi; rw [Qnn]; simp
theorem Zkd {ws:List Wt} (hw:∀ w∈ws,WtOk w):∃ o,Qui ws=some o/\match o with
 | none=>∀ w∈ws,w.fails=none
 | some a=>Va a/\(∃ w∈ws,w.fails=some a)/\∀ w∈ws,∀ t,w.fails=some t->¬Pj t a:=by
 have hv:∀ t∈ws.filterMap (·.fails),Va t:=λt ht=>by
  obtain ⟨w,w1,w2⟩:=Jm.1 ht;exact (hw w w1).f t w2
 unfold Qui;cases hf:ws.filterMap (·.fails) with
 |
  nil =>
  refine ⟨none,rfl,λw h=>?_⟩;cases e:w.fails with
  | none=>rfl
  |
   some t =>
   have:t∈ws.filterMap (·.fails):=Jm.2 ⟨w,h,e⟩;rw [hf] at this; cases this
 |
  cons b l =>
  rw [hf] at hv;obtain ⟨m,m1,m2,m3⟩:=Qgn l b hv;refine ⟨some m,by show (Oe b l).map some=_; rw [m1]; rfl,hv m m2,?_,λw h t e=>?_⟩
  ·rw [<-hf] at m2;exact Jm.1 m2
  ·exact m3 t (by rw [<-hf]; exact Jm.2 ⟨w,h,e⟩)
theorem Zjg {t a:Tm} (ht:Va t) (ha:Va a) {c:Int} (h:Qj5 t a=some c) (h0:0<c):Pj a t:=by
 obtain ⟨c',c1,c2⟩:=Qis ht ha;rw [h] at c1; injection c1 with c1; subst c1;rcases c2 with ⟨e,_⟩ | ⟨e,_⟩ | ⟨_,e⟩
 ·omega
 ·omega
 ·exact e
theorem Ze6 {ol ws:List Wt} {now a:Tm} {l:List Ct} (hn:Va now) (ha:Va a) (hna:¬Pj a now) (ho:∀ w∈ol,WtOk w) (hk:∀ w∈ol,w.known=true->Sw w.c.p now w.fails/\∀ t,w.fails=some t->t∈tms w.c.p) (h:Qei ol a l=some ws) :
 ∀ w∈ws,w.known=true->Sw w.c.p a w.fails/\∀ t,w.fails=some t->t∈tms w.c.p:=by
 obtain ⟨h1,h2⟩:=Qej h;intro w hw hkn;obtain ⟨i,hi⟩:=Yf hw;have hil:i<l.length:=by rw [<-h1]; exact (Qd.1 hi).1
 obtain ⟨v,h3,h4⟩:=h2 i _ (Qe hil);rw [hi] at h4; injection h4 with h4; subst h4;rcases Qlc h3 with e | ⟨v,v1,v2,v3,e,v5⟩
 ·rw [e] at hkn; cases hkn
 ·obtain ⟨k1,k2⟩:=hk v v1 v2;rw [e];show Sw (l[i]).p a v.fails/\∀ t,v.fails=some t->t∈tms (l[i]).p;rw [<-v3];refine ⟨Ib hn.cut ha.cut hna k1 λt ht=>?_,k2⟩;obtain ⟨c,c1,c2⟩:=v5 t ht;exact Zjg ((ho v v1).f t ht) ha c1 c2
structure Stab {β:Type} (Bc:Tm->List Ct) (Br:Tm->β):Prop where
 ok:BuildOk Bc
 fin:∃ Ps:List (List Int),(∀ p∈Ps,Cp p)/\∀ a,Va a->∀ x∈Bc a,x.p∈Ps
 st:∀ a b,Va a->Va b->(∀ x∈Bc a,Tf (G0 b) x.p=Tf (G0 a) x.p)->Bc b=Bc a/\Br b=Br a
structure KSt {β:Type} (Bc:Tm->List Ct) (Br:Tm->β) (c:Cr) (r1:β):Prop where
 inv:KInv c
 cs:c.l.map (·.c)=Hi (Bc c.now)
 r:r1=Br c.now
inductive Evs (Bc:Tm->List Ct) (t:Rat):Tm->List Tm->Prop
 | nil {a:Tm} (h:∀ x∈Bc a,∃ o,Sw x.p a o/\∀ u,o=some u->Pj (tq t) u):Evs Bc t a []
 | cons {a e:Tm} {E:List Tm} (he:Va e) (h1:Pj a e) (h2:¬Pj (tq t) e) (h3:∀ x∈Bc a,∃ o,Sw x.p a o/\∀ u,o=some u->¬Pj u e) (h4:∃ x∈Bc a,Sw x.p a (some e)) (h5:Evs Bc t e E):Evs Bc t a (e::E)
theorem Zmn {β:Type} {Bc:Tm->List Ct} {Br:Tm->β} (S:Stab Bc Br) {t:Rat} (ht:Qs 400000 t) {Ps:List (List Int)} (hP:∀ p∈Ps,Cp p) (hPs:∀ a,Va a->∀ x∈Bc a,x.p∈Ps) :
 ∀ (m:Nat) (c:Cr) (r1:β) (n:Int),mu (Ps.flatMap tms) c.now<=m->KSt Bc Br c r1->¬Pj (tq t) c.now ->
 ∃ c' r' E,goF Bc Br t (m+1) c r1 n=some (c',r',n+(E.length:Nat))/\c'.now=tq t/\KSt Bc Br c' r'/\c'.ev=c.ev+(E.length:Nat)/\E.length<=m/\Evs Bc t c.now E:=by
 have hT:∀ t∈Ps.flatMap tms,Cut (Fe t):=λu hu=>by
  obtain ⟨p,p1,p2⟩:=Zy.1 hu;exact (Zk8 (hP p p1) u p2).cut
 have hq:=Zg2 ht;intro m
 induction m with
 | zero=>?_
 | succ m ih=>?_
 all_goals
  intro c r1 n hm hS hnow;obtain ⟨⟨ok,kk⟩,hcs,hr⟩:=hS;obtain ⟨ws,w1,w2,w3⟩:=Q1m ok.n ok.l kk;have ok':=Qi0 ok w1;rw [hcs] at w2;have hc_w:∀ x∈Bc c.now,∃ w∈ws,w.c=x:=λx hx=>by
   have:x∈ws.map (·.c):=by rw [w2]; exact Qoz.2 hx
   exact Zr.1 this
  have hw_c:∀ w∈ws,w.c∈Bc c.now:=λw hw=>Qoz.1 (by rw [<-w2]; exact Wp hw)
  obtain ⟨o,o1,o2⟩:=Zkd ok'.l;have fin:(∀ w∈ws,∀ u,w.fails=some u->Pj (tq t) u)->KSt Bc Br ⟨tq t,ws,c.ev⟩ r1/\Evs Bc t c.now []:=λhall=>by
   have hg:∀ x∈Bc c.now,Tf (G0 (tq t)) x.p=Tf (G0 c.now) x.p:=λx hx=>by
    obtain ⟨w,hw,rfl⟩:=hc_w x hx;exact Qnv (S.ok.p _ ok.n _ hx).dp ok.n hq hnow (w3 w hw).2.1 (hall w hw)
   obtain ⟨s1,s2⟩:=S.st _ _ ok.n hq hg;refine ⟨⟨⟨⟨hq,ok'.l,ok'.k⟩,λw hw _=>⟨Ib ok.n.cut hq.cut hnow (w3 w hw).2.1 (hall w hw),(w3 w hw).2.2⟩⟩,?_,?_⟩,.nil λx hx=>?_⟩
   ·show ws.map (·.c)=Hi (Bc (tq t)); rw [w2,s1]
   ·show r1=Br (tq t); rw [s2,hr]
   ·obtain ⟨w,hw,rfl⟩:=hc_w x hx;exact ⟨_,(w3 w hw).2.1,hall w hw⟩
 ·cases o with
  |
   none =>
   obtain ⟨f1,f2⟩:=fin λw hw u hu=>by rw [o2 w hw] at hu; cases hu
   exact ⟨_,_,[],by simp only [goF]; rw [w1]; simp only [Ya]; rw [o1]; simp,rfl,f1,by simp,by simp,f2⟩
  |
   some a =>
   obtain ⟨va,⟨w,hw,hwa⟩,hmin⟩:=o2;by_cases h0:0<Fe a t
   ·obtain ⟨f1,f2⟩:=fin λv hv u hu=>by
     have hu':=(ok'.l v hv).f u hu;exact Q1i hq.cut va.cut hu'.cut ((Qj6 va.cut).1 h0) (hmin v hv u hu)
    exact ⟨_,_,[],by simp only [goF]; rw [w1]; simp only [Ya]; rw [o1]; simp [h0],rfl,f1,by simp,by simp,f2⟩
   ·exfalso;obtain ⟨k1,k2,k3⟩:=w3 w hw;rw [hwa] at k2;have:a∈Ps.flatMap tms:=Zy.2 ⟨_,hPs _ ok.n _ (hw_c w hw),k3 a hwa⟩;have:=Zh9 ok.n.cut va.cut hT k2.2.2.1 this;omega
 ·cases o with
  |
   none =>
   obtain ⟨f1,f2⟩:=fin λw hw u hu=>by rw [o2 w hw] at hu; cases hu
   exact ⟨_,_,[],by simp only [goF]; rw [w1]; simp only [Ya]; rw [o1]; simp,rfl,f1,by simp,by simp,f2⟩
  |
   some a =>
   obtain ⟨va,⟨w,hw,hwa⟩,hmin⟩:=o2;by_cases h0:0<Fe a t
   ·obtain ⟨f1,f2⟩:=fin λv hv u hu=>by
     have hu':=(ok'.l v hv).f u hu;exact Q1i hq.cut va.cut hu'.cut ((Qj6 va.cut).1 h0) (hmin v hv u hu)
    exact ⟨_,_,[],by simp only [goF]; rw [w1]; simp only [Ya]; rw [o1]; simp [h0],rfl,f1,by simp,by simp,f2⟩
   ·obtain ⟨k1,k2,k3⟩:=w3 w hw;rw [hwa] at k2;have hna:=Qqr ok.n.cut va.cut k2.2.2.1;have hmem:a∈Ps.flatMap tms:=Zy.2 ⟨_,hPs _ ok.n _ (hw_c w hw),k3 a hwa⟩;have hlt:=Zh9 ok.n.cut va.cut hT k2.2.2.1 hmem;obtain ⟨w2',l1,l2⟩:=Q9n va ok'.l (Hi (Bc a));have hl:=Ze6 ok.n va hna ok'.l (λv hv _=>(w3 v hv).2) l1;have hS':KSt Bc Br ⟨a,w2',c.ev+1⟩ (Br a):=⟨⟨Orr.lay_ok _ ok' va (S.ok.p a va) (S.ok.n a va) l1,hl⟩,l2,rfl⟩;obtain ⟨c',r',E,g1,g2,g3,g4,g5,g6⟩:=ih ⟨a,w2',c.ev+1⟩ (Br a) (n+1) (by show mu _ a<=m; omega) hS' (λh=>h0 ((Qj6 va.cut).2 h));refine ⟨c',r',a::E,?_,g2,g3,by rw [g4]; simp; omega,by simp; omega,.cons va k2.2.2.1 (λh=>h0 ((Qj6 va.cut).2 h)) (λx hx=>?_) ⟨w.c,hw_c w hw,k2⟩ g6⟩
    ·conv=>lhs; unfold goF
     rw [w1]; simp only [Ya]; rw [o1]; simp only [Ya]; rw [if_neg h0,l1]; simp only [Ya];rw [g1]; simp; omega
    ·obtain ⟨v,hv,rfl⟩:=hc_w x hx;exact ⟨_,(w3 v hv).2.1,hmin v hv⟩
end Orq
namespace Orq
open Orr Go
theorem Qk1 {a:Tm} (ha:Va a):∀ (L:List (List Int)),(∀ p∈L,Dp p)->∃ y,Fe a y=-1/\∀ q,Fe a q=-1->q≤y->∀ p∈L,Tf (G0 a) p=U4 (Uw p q)
 |
  [],_=>by
  obtain ⟨y,hy⟩:=ha.cut.hi;exact ⟨y,hy,λq _ _ p hp=>by cases hp⟩
 |
  p::L,h=>by
  obtain ⟨y,y1,y2⟩:=Qk1 ha L (λq hq=>h q (Qj _ hq));by_cases h0:p.length=0
  ·obtain rfl:=Qi h0;refine ⟨y,y1,λq q1 q2 r hr=>?_⟩;rcases Qo.1 hr with rfl | hr
   ·rw [Qk0]; exact (Fu.2 rfl).symm
   ·exact y2 q q1 q2 r hr
  ·obtain ⟨⟨z,z1,z2⟩,_⟩:=Ob ha (h p (by simp)) h0;refine ⟨if y<=z then y else z,by split <;> assumption,λq q1 q2 r hr=>?_⟩;rcases Qo.1 hr with rfl | hr
   ·rw [<-Ux]; exact (z2 q q1 (by grind)).symm
   ·exact y2 q q1 (by grind) r hr
section Srt
variable {α:Type} {lt:α->α->Bool} {R:α->α->Prop}
theorem Qog (irr:∀ x,¬R x x) (tr:∀ x y z,R x y->R y z->R x z):∀ {l m:List α},l.Pairwise R->m.Pairwise R->(∀ x,x∈l↔x∈m)->l=m
 | [],[],_,_,_=>rfl
 | [],y::m,_,_,h=>by have:=(h y).2 (by simp); cases this
 | x::l,[],_,_,h=>by have:=(h x).1 (by simp); cases this
 |
  x::l,y::m,hl,hm,h=>by
  rw [Q5] at hl hm;have e:x=y:=by
   rcases Qo.1 ((h x).1 (by simp)) with e | h1
   ·exact e
   ·rcases Qo.1 ((h y).2 (by simp)) with e | h2
    ·exact e.symm
    ·exact absurd (tr _ _ _ (hl.1 y h2) (hm.1 x h1)) (irr x)
  subst e;rw [Qog irr tr hl.2 hm.2 λz=>?_];constructor
  ·intro hz;rcases Qo.1 ((h z).1 (Qj _ hz)) with e | h1
   ·subst e; exact absurd (hl.1 z hz) (irr z)
   ·exact h1
  ·intro hz;rcases Qo.1 ((h z).2 (Qj _ hz)) with e | h1
   ·subst e; exact absurd (hm.1 z hz) (irr z)
   ·exact h1
theorem Qod {out:List α} {x:α}:∀ k,k<=out.length->(∀ j y,Tn lt out x k<=j->j<k->out[j]? = some y->lt x y=true)/\(0<Tn lt out x k->∃ y,out[Tn lt out x k-1]? = some y/\lt x y=false)
 | 0,_=>⟨λj y _ h=>by omega,λh=>by simp [Tn] at h⟩
 |
  k+1,hk=>by
  obtain ⟨y,hy⟩:=gxE (l:=out) (i:=k) (by omega);by_cases h:lt x y=true
  ·rw [Qb1 hy h];obtain ⟨h1,h2⟩:=Qod (out:=out) (x:=x) k (by omega);refine ⟨λj z a1 a2 a3=>?_,h2⟩;by_cases e:j=k
   ·subst e; rw [hy] at a3; injection a3 with a3; subst a3; exact h
   ·exact h1 j z a1 (by omega) a3
  ·have h:lt x y=false:=by simpa using h
   rw [Ii hy h];exact ⟨λj z a1 a2 _=>by omega,λ_=>⟨y,by simpa using hy,h⟩⟩
theorem Ze3 (tr:∀ x y z,R x y->R y z->R x z) {out:List α} {x:α} (ho:out.Pairwise R) (h1:∀ y∈out,lt x y=true->R x y) (h2:∀ y∈out,lt x y=false->R y x):(P6 lt out x).Pairwise R:=by
 obtain ⟨s1,s2⟩:=Qod (lt:=lt) (out:=out) (x:=x) out.length (Ql _);have hle:=Qq9 lt out x out.length;unfold P6;obtain ⟨k,hk⟩:=nmE (Tn lt out x out.length);rw [<-hk] at s1 s2 hle ⊢;have hd:(out.take k++out.drop k).Pairwise R:=by rw [Zb]; exact ho
 obtain ⟨d1,d2,d3⟩:=Jd.1 hd;have hR:∀ y∈out.drop k,R x y:=λy hy=>by
  obtain ⟨i,hi⟩:=Yf hy;rw [Z6] at hi;have:k+i<out.length:=(Qd.1 hi).1;exact h1 y (Zc hy) (s1 (k+i) y (by omega) this hi)
 have hL:∀ y∈out.take k,R y x:=λy hy=>by
  obtain ⟨i,hi⟩:=Yf hy;have hik:i<k:=by have:=(Qd.1 hi).1; simp at this; omega
  rw [Ks hik] at hi;obtain ⟨z,z1,z2⟩:=s2 (by omega);have hz:=h2 z (Qa z1) z2;by_cases e:i=k-1
  ·subst e; rw [hi] at z1; injection z1 with z1; subst z1; exact hz
  ·have hp:=Y6.1 ho i (k-1) (by omega) (by omega) (by omega);obtain ⟨_,e1⟩:=Qd.1 hi;obtain ⟨_,e2⟩:=Qd.1 z1;rw [e1,e2] at hp;exact tr _ _ _ hp hz
 refine Jd.2 ⟨d1,Q5.2 ⟨hR,d2⟩,λy hy z hz=>?_⟩;rcases Qo.1 hz with rfl | hz
 ·exact hL y hy
 ·exact d3 y hy z hz
theorem foldG_pw (tr:∀ x y z,R x y->R y z->R x z) {S:α->Prop} (h1:∀ x y,S x->S y->lt x y=true->R x y) {D:α->α->Prop} (h2:∀ x y,S x->S y->D y x->lt x y=false->R y x) :
 ∀ (l acc:List α),acc.Pairwise R->(∀ x∈acc,S x)->(∀ x∈l,S x)->l.Pairwise D->(∀ x∈acc,∀ y∈l,D x y)->(l.foldl (P6 lt) acc).Pairwise R
 | [],acc,ha,_,_,_,_=>ha
 |
  x::l,acc,ha,hs,hl,hd,hx=>by
  rw [Q5] at hd;refine foldG_pw tr h1 h2 l (P6 lt acc x) ?_ ?_ (λy hy=>hl y (Qj _ hy)) hd.2 ?_
  ·exact Ze3 tr ha (λy hy=>h1 x y (hl x (by simp)) (hs y hy)) (λy hy=>h2 x y (hl x (by simp)) (hs y hy) (hx y hy x (by simp)))
  ·intro y hy;rcases Qeg.1 hy with rfl | hy
   ·exact hl _ (by simp)
   ·exact hs y hy
  ·intro y hy z hz;rcases Qeg.1 hy with rfl | hy
   ·exact hd.1 z hz
   ·exact hx y hy z (Qj _ hz)
theorem Qu5:∀ {l:List α},l.Pairwise R->∀ {u v:α},u∈l->v∈l->u≠v->R u v\/R v u
 | [],_,_,_,h,_,_=>by cases h
 |
  x::l,hp,u,v,hu,hv,hne=>by
  rw [Q5] at hp;rcases Qo.1 hu with e | hu
  ·rcases Qo.1 hv with e' | hv
   ·exact absurd (e.trans e'.symm) hne
   ·rw [e]; exact .inl (hp.1 v hv)
  ·rcases Qo.1 hv with e' | hv
   ·rw [e']; exact .inr (hp.1 u hu)
   ·exact Qu5 hp.2 hu hv hne
end Srt
def px (p:Pt) (q:Rat):Rat:=Uw p.c.x q / (p.c.d:Rat)
def py (p:Pt) (q:Rat):Rat:=Uw p.c.y q / (p.c.d:Rat)
def Bu (q:Rat) (x y:Pt):Prop:=px x q<px y q\/px x q=px y q/\(py x q<py y q\/py x q=py y q/\x.id<y.id)
theorem Qaw (q:Rat) (x:Pt):¬Bu q x x:=by unfold Bu; grind
theorem Qbw (q:Rat) (x y z:Pt) (h:Bu q x y) (h':Bu q y z):Bu q x z:=by unfold Bu at *; grind
theorem Qt4 {q:Rat} {x y:Pt} (h:x.id≠y.id) (h':¬Bu q x y):Bu q y x:=by unfold Bu at *; grind
theorem Qow {u v:Rat} {c d:Int} (hc:0<c) (hd:0<d):U4 (v*(c:Rat)-u*(d:Rat))=U4 (v / (d:Rat)-u / (c:Rat)):=by
 have hc':(0:Rat)<(c:Rat):=by exact_mod_cast hc
 have hd':(0:Rat)<(d:Rat):=by exact_mod_cast hd
 have e:v*(c:Rat)-u*(d:Rat)=((c:Rat)*(d:Rat))*(v / (d:Rat)-u / (c:Rat)):=by
  rw [Jq,Jq];have h1:=W4 (c:Rat) (by grind);have h2:=W4 (d:Rat) (by grind);grind
 rw [e,D9 (Jg hc' hd')]
theorem Qox {x y:Pt} (hx:Sc x.c) (hy:Sc y.c) (q:Rat):U4 (Uw (Hf x.c y.c) q)=U4 (px y q-px x q):=by
 unfold Hf px; rw [Bb,Rt,Rt]; exact Qow hx.n.2.2.1 hy.n.2.2.1
theorem Qov {x y:Pt} (hx:Sc x.c) (hy:Sc y.c) (q:Rat):U4 (Uw (Hp x.c y.c) q)=U4 (py y q-py x q):=by
 unfold Hp py; rw [Bb,Rt,Rt]; exact Qow hx.n.2.2.1 hy.n.2.2.1
theorem Qjp {a:Tm} (ha:Va a) {x y:Pt} (hx:Sc x.c) (hy:Sc y.c) {q:Rat} (h1:Tf (G0 a) (Hf x.c y.c)=U4 (Uw (Hf x.c y.c) q)) (h2:Tf (G0 a) (Hp x.c y.c)=U4 (Uw (Hp x.c y.c) q)):Td (G0 a) x y=true↔Bu q x y:=by
 rw [Qox hx hy] at h1;rw [Qov hx hy] at h2;have d1:=(Qad hx hy).dp;have d2:=(Qac hx hy).dp;unfold Td;simp only [Oj];have t1:=Fp (px y q-px x q);have t2:=Fp (py y q-py x q);by_cases e1:(Hf x.c y.c).length=0
 ·rw [if_neg (by omega)];rw [Qi e1,Qk0] at h1;have:px x q=px y q:=by grind
  by_cases e2:(Hp x.c y.c).length=0
  ·rw [if_neg (by omega)];rw [Qi e2,Qk0] at h2;unfold Bu;simp only [decide_eq_true_eq];grind
  ·rw [if_pos (by omega)];have:=(Ob ha d2 e2).2;unfold Bu;simp only [decide_eq_true_eq];grind
 ·rw [if_pos (by omega)];have:=(Ob ha d1 e1).2;unfold Bu;simp only [decide_eq_true_eq];grind
def Qds (l:List Pt):List (List Int):=l.flatMap λx=>l.flatMap λy=>[Hf x.c y.c,Hp x.c y.c]
theorem C4 {l:List Pt} {x y:Pt} (hx:x∈l) (hy:y∈l):Hf x.c y.c∈Qds l/\Hp x.c y.c∈Qds l :=
 ⟨Zy.2 ⟨x,hx,Zy.2 ⟨y,hy,by simp⟩⟩,Zy.2 ⟨x,hx,Zy.2 ⟨y,hy,by simp⟩⟩⟩
theorem Qzi {l:List Pt} (hl:∀ p∈l,Sc p.c):∀ p∈Qds l,Cp p:=λp hp=>by
 obtain ⟨x,hx,hp⟩:=Zy.1 hp;obtain ⟨y,hy,hp⟩:=Zy.1 hp;simp at hp;rcases hp with rfl | rfl
 ·exact Qad (hl x hx) (hl y hy)
 ·exact Qac (hl x hx) (hl y hy)
theorem Q2n {l:List Pt} (hl:∀ p∈l,Sc p.c) (hd:l.Pairwise λx y=>x.id≠y.id) {a:Tm} (ha:Va a):∃ y,Fe a y=-1/\∀ q,Fe a q=-1->q≤y->(∀ u∈l,∀ v∈l,(Td (G0 a) u v=true↔Bu q u v))/\(Sl a l).Pairwise (Bu q):=by
 obtain ⟨y,y1,y2⟩:=Qk1 ha (Qds l) λp hp=>(Qzi hl p hp).dp
 refine ⟨y,y1,λq q1 q2=>?_⟩;have h:=y2 q q1 q2;have hb:∀ u∈l,∀ v∈l,(Td (G0 a) u v=true↔Bu q u v):=λu hu v hv=>Qjp ha (hl u hu) (hl v hv) (h _ (C4 hu hv).1) (h _ (C4 hu hv).2)
 refine ⟨hb,?_⟩;exact foldG_pw (S:=λx=>x∈l) (D:=λx y=>x.id≠y.id) (Qbw q) (λu v hu hv h=>(hb u hu v hv).1 h) (λu v hu hv hne h=>Qt4 (λe=>hne e.symm) λh'=>by
  rw [(hb u hu v hv).2 h'] at h; cases h) l [] .nil (λx hx=>by cases hx) (λx hx=>hx) hd (λx hx=>by cases hx)
theorem Qx1 {a b:Tm} {x y:Pt} (h:Tf (G0 b) (Dm x y)=Tf (G0 a) (Dm x y)):Td (G0 b) x y=Td (G0 a) x y:=by
 unfold Dm Qaj at h;unfold Td;simp only [Oj];by_cases e1:0<(Hf x.c y.c).length
 ·rw [if_pos e1,if_pos e1]; rw [if_pos e1] at h; rw [h]
 ·rw [if_neg e1,if_neg e1]; rw [if_neg e1] at h; rw [h]
theorem Qj2 {a b:Tm} {q r:Rat}:∀ (l:List Pt),(∀ u∈l,∀ v∈l,(Td (G0 a) u v=true↔Bu q u v))->(∀ u∈l,∀ v∈l,(Td (G0 b) u v=true↔Bu r u v))->l.Pairwise (Bu q)->(∀ x∈Si (G0 a) l,Tf (G0 b) x.p=Tf (G0 a) x.p)->l.Pairwise (Bu r)/\Si (G0 b) l=Si (G0 a) l
 | [],_,_,_,_=>⟨.nil,rfl⟩
 | [x],_,_,_,_=>⟨Vg _ _,rfl⟩
 |
  x::y::l,ha,hb,hp,hc=>by
  rw [Q5] at hp;obtain ⟨i1,i2⟩:=Qj2 (a:=a) (b:=b) (q:=q) (r:=r) (y::l) (λu hu v hv=>ha u (Qj _ hu) v (Qj _ hv)) (λu hu v hv=>hb u (Qj _ hu) v (Qj _ hv)) hp.2 (λz hz=>hc z (by simp only [Si]; exact Qj _ hz));have h0:Tf (G0 b) (Dm x y)=Tf (G0 a) (Dm x y):=hc (Nw (G0 a) x y) (by simp [Si]);have h1:Bu r x y:=(hb x (by simp) y (by simp)).1 (by rw [Qx1 h0]; exact (ha x (by simp) y (by simp)).2 (hp.1 y (by simp)));refine ⟨Q5.2 ⟨λz hz=>?_,i1⟩,?_⟩
  ·rcases Qo.1 hz with rfl | hz
   ·exact h1
   ·exact Qbw r x y z h1 ((Q5.1 i1).1 z hz)
  ·simp only [Si];rw [i2]; congr 1;unfold Nw; rw [h0]
theorem Qoo {sg:List Int->Int}:∀ {l:List Pt},∀ x∈Si sg l,∃ u∈l,∃ v∈l,x.p=Dm u v
 | [],x,hx=>by cases hx
 | [_],x,hx=>by cases hx
 |
  a::b::l,x,hx=>by
  simp only [Si] at hx;rcases Qo.1 hx with rfl | hx
  ·exact ⟨a,by simp,b,by simp,rfl⟩
  ·obtain ⟨u,hu,v,hv,e⟩:=Qoo (l:=b::l) x hx;exact ⟨u,Qj _ hu,v,Qj _ hv,e⟩
theorem Q4z {l:List Pt} {u v:Pt} (hu:u∈l) (hv:v∈l):Dm u v∈Qds l:=by
 unfold Dm Qaj; split
 ·exact (C4 hu hv).1
 ·exact (C4 hu hv).2
theorem Zdf {l:List Pt} {a:Tm}:∀ x∈bcS l a,x.p∈Qds l:=λx hx=>by
 obtain ⟨u,hu,v,hv,e⟩:=Qoo x hx;rw [e]; exact Q4z (Hq.1 hu) (Hq.1 hv)
theorem Q51 (l:List Pt):(Qds l).length=l.length*(l.length*2):=by
 have h1:∀ (x:Pt) (m:List Pt),(m.flatMap λy=>[Hf x.c y.c,Hp x.c y.c]).length=m.length*2:=λx m=>by
  induction m with
  | nil=>rfl
  | cons y m ih=>rw [J0,Q4,ih,Q7]; simp; omega
 have h2:∀ m:List Pt,(m.flatMap λx=>l.flatMap λy=>[Hf x.c y.c,Hp x.c y.c]).length=m.length*(l.length*2):=λm=>by
  induction m with
  | nil=>simp
  | cons y m ih=>rw [J0,Q4,ih,Q7,h1,X8,Ki,Ja]
 exact h2 l
theorem Zbf {l:List Pt} (hl:∀ p∈l,Sc p.c) (hd:l.Pairwise λx y=>x.id≠y.id) {a b:Tm} (ha:Va a) (hb:Va b) (h:∀ x∈bcS l a,Tf (G0 b) x.p=Tf (G0 a) x.p):Sl b l=Sl a l/\bcS l b=bcS l a:=by
 obtain ⟨q,q1,q2⟩:=Q2n hl hd ha;obtain ⟨r,r1,r2⟩:=Q2n hl hd hb;obtain ⟨a1,a2⟩:=q2 q q1 Qp;obtain ⟨b1,b2⟩:=r2 r r1 Qp;obtain ⟨c1,c2⟩:=Qj2 (a:=a) (b:=b) (Sl a l) (λu hu v hv=>a1 u (Hq.1 hu) v (Hq.1 hv)) (λu hu v hv=>b1 u (Hq.1 hu) v (Hq.1 hv)) a2 h;have e:Sl b l=Sl a l:=Qog (Qaw r) (Qbw r) b2 c1 λx=>by rw [Hq,Hq]
 exact ⟨e,by unfold bcS; rw [e,c2]⟩
end Orq
namespace Orr
open Go
section
variable {α:Type} {lt:α->α->Bool}
theorem Q4m (out:List α) (c:α):(P6 lt out c).Perm (c::out):=by
 unfold P6;exact (Uh).trans (by rw [Zb])
theorem Qkv:∀ (l acc:List α),(l.foldl (P6 lt) acc).Perm (l++acc)
 | [],acc=>List.Perm.refl _
 |
  c::l,acc=>by
  simp only [Z5];exact (Qkv l _).trans (((Q4m acc c).append_left l).trans Uh)
theorem Qma (l:List α):(Fx lt l).Perm l:=by
 have:=Qkv (lt:=lt) l [];rwa [Zo] at this
end
def El (a b:Pt):Bool:=decide (a.id<b.id)
def Pt.m5 (p:Pt):Pt:=⟨p.c,p.id % 5⟩
def mix (O:List Pt) (i:Nat):List Pt:=(O.take i).map Pt.m5++O.drop i
theorem Q9y (O:List Pt):mix O 0=O:=by simp [mix]
theorem Qi1 (O:List Pt) (i:Nat):(mix O i).length=O.length:=by
 unfold mix; rw [List.length_append,List.length_map,List.length_take,List.length_drop]; omega
theorem Q1t {O:List Pt} {i:Nat} {p:Pt} (h:O[i]? = some p):(mix O i).set i p.m5=mix O (i+1):=by
 have hi:=(Qd.1 h).1;have hl:((O.take i).map Pt.m5).length=i:=by rw [Q6,Qr]; omega
 unfold mix;rw [List.set_append,if_neg (by omega),hl,Jo,Zs,h,Vo,J1,Zl];congr 1;rw [Zi hi];have:O[i]=p:=by
  have:=(Qd.1 h).2;exact this
 rfl
theorem Zff {O:List Pt} {i:Nat} {p:Pt} (h:O[i]? = some p):(mix O i)[i]? = some p:=by
 have hi:=(Qd.1 h).1;have hl:((O.take i).map Pt.m5).length=i:=by rw [Q6,Qr]; omega
 unfold mix;rw [Z3 (by omega),hl,Jo,Z6];exact h
theorem Q1s {O:List Pt} {i k:Nat} {p:Pt} (hk:k<i) (h:O[k]? = some p):(mix O i)[k]? = some p.m5:=by
 have hi:=(Qd.1 h).1;unfold mix;rw [Zj (by rw [Q6,Qr]; omega),Q9,Xy,if_pos hk,h]; rfl
theorem Quc {O:List Pt} {e i:Nat} (h:e<=i) (hi:i<=O.length):(mix O i).take e=(O.take e).map Pt.m5:=by
 unfold mix;rw [Yl (by rw [Q6,Qr]; omega),<-Jp,Wu,Zt h]
def Sx (O:List Pt) (e:Nat):List Pt:=(O.take e).map Pt.m5
def Qch (O:List Pt) (e:Nat):List Pt:=(Sx O e).map Pt.nrm
def Ab (l:List Pt):Prop:=l.Pairwise λa b=>a.id≠b.id
theorem Q32 {O:List Pt} {i:Nat} {p:Pt} (h:O[i]? = some p):Sx O (i+1)=Sx O i++[p.m5]:=by
 unfold Sx; rw [List.take_succ,h,Option.toList_some,List.map_append]; rfl
theorem Q38 {O:List Pt} {i:Nat} {p:Pt} (h:O[i]? = some p) (hd:Ab (Sx O i)) (hn:∀ k x,k<i->O[k]? = some x->x.m5.id≠p.m5.id):Ab (Sx O (i+1)):=by
 rw [Q32 h];refine Jd.2 ⟨hd,Vg _ _,λa ha b hb=>?_⟩;rw [Qk.1 hb];obtain ⟨x,hx,rfl⟩:=Zr.1 ha;obtain ⟨k,hk,rfl⟩:=Y5.1 hx;rw [Qr] at hk;rw [List.getElem_take];exact hn k _ (by omega) (Qe (by omega))
theorem Qm9 {O:List Pt} {e:Nat} (h:Ab (Sx O e)):Ab (Qch O e):=List.Pairwise.map Pt.nrm (λ_ _ h=>h) h
theorem Qhv (O:List Pt) (e:Nat):(Qch O e).length=(Sx O e).length:=by unfold Qch; rw [List.length_map]
theorem Qd3 {O:List Pt} {e:Nat} (h:e<=O.length):(Sx O e).length=e:=by unfold Sx; rw [List.length_map,List.length_take]; omega
def Q29 (p:Pt):Prop:=Cs 10 3 p.c
theorem Qn3 {n:Nat} {most:Int} (hm:0≤most/\most≤999) {l:List RawPt}:∀ p∈Qgz n most l,Q29 p:=λp hp=>by
 rcases Qea _ _ hp with h | h
 ·cases h
 ·obtain ⟨z,_,rfl⟩:=Zr.1 h;exact Qm7 hm _ _ _
theorem Qs7 {O:List Pt} (h:∀ p∈O,Q29 p) (e:Nat):∀ p∈Sx O e,Q29 p:=λp hp=>by
 obtain ⟨x,hx,rfl⟩:=Zr.1 hp;exact h x (Qm hx)
theorem Q0r {O:List Pt} (h:∀ p∈O,Q29 p) (e:Nat):∀ p∈Qch O e,Nml p.c/\Cs 10 3 p.c:=λp hp=>by
 obtain ⟨x,hx,rfl⟩:=Zr.1 hp;exact ⟨x.c.nml,(Qs7 h e x hx).norm (by decide)⟩
theorem Qn0 {s n:Nat}:∀ {l:List Pt},(∀ p∈l,Cs s n p.c)->IsPts s n (l.map Hb) (l.map Pt.nrm)
 | [],_=>trivial
 | p::l,h=>⟨⟨p.c.x.map Gw,p.c.y.map Gw,_,_,_,_,p.c.d,rfl,He _,He _,Uu _,h p (Qx ..),rfl⟩,Qn0 λx hx=>h x (Qj _ hx)⟩
theorem Qo0:∀ {l m:List Pt},Cn l->Cn m->(∀ x,x∈l↔x∈m)->l=m
 | [],[],_,_,_=>rfl
 | [],b::m,_,_,h=>absurd ((h b).2 (Qx ..)) (by simp)
 | a::l,[],_,_,h=>absurd ((h a).1 (Qx ..)) (by simp)
 |
  a::l,b::m,h1,h2,h=>by
  have h1':=Q5.1 h1;have h2':=Q5.1 h2;have hab:a=b:=by
   rcases Qo.1 ((h a).1 (Qx ..)) with e | e
   ·exact e
   ·rcases Qo.1 ((h b).2 (Qx ..)) with e2 | e2
    ·exact e2.symm
    ·have:=h2'.1 a e; have:=h1'.1 b e2; omega
  subst hab;congr 1;refine Qo0 h1'.2 h2'.2 λx=>⟨λhx=>?_,λhx=>?_⟩
  ·rcases Qo.1 ((h x).1 (Qj _ hx)) with e | e
   ·have:=h1'.1 x hx; rw [e] at this; omega
   ·exact e
  ·rcases Qo.1 ((h x).2 (Qj _ hx)) with e | e
   ·have:=h2'.1 x hx; rw [e] at this; omega
   ·exact e
theorem Qrs {l:List Pt} (h:Ab l):Cn (Fx El l) :=
 Orq.foldG_pw (R:=λa b:Pt=>a.id<b.id) (S:=λ_=>True) (D:=λa b:Pt=>a.id≠b.id) (λx y z h1 h2=>Int.lt_trans h1 h2) (λx y _ _ h=>of_decide_eq_true h) (λx y _ _ h1 h=>by have:=of_decide_eq_false h; omega) l [] .nil (λx hx=>by cases hx) (λ_ _=>trivial) h (λx hx=>by cases hx)
theorem Zaz (l:List Pt) (q:Pt):(put l q).Perm (q::l):=by
 unfold put;exact List.perm_middle.trans (by rw [Zb])
theorem Qn8:∀ (qs acc:List Pt),(T0 acc qs).2=0->(T0 acc qs).1.Perm (qs++acc)
 | [],acc,_=>List.Perm.refl _
 |
  q::qs,acc,h=>by
  simp only [T0] at h ⊢
  split
  ·rename_i h0;rw [if_pos h0] at h;refine (Qn8 qs _ h).trans ?_;exact ((Zaz acc q).append_left qs).trans Uh
  ·rename_i h0;rw [if_neg h0] at h;exact absurd h h0
theorem Q4v {qs:List Pt} (hl:qs.length<=6) (hd:Ab qs):(T0 [] qs).2=0/\(T0 [] qs).1=Fx El qs:=by
 rcases Q4u hl with ⟨h1,h2,_,_⟩ | ⟨_,h2⟩
 ·refine ⟨h1,Qo0 h2 (Qrs hd) λx=>?_⟩;have h3:=Qn8 qs [] h1;rw [Zo] at h3;rw [h3.mem_iff,S7]
 ·exact absurd hd h2
end Orr
namespace Orr
open Go Go.Proofs
set_option maxRecDepth 10000
theorem Ze2 {α:Type} {f:α->List LV} {lt:α->α->Bool} {O:List α} {c:α} {k:Nat} (hp:Tn lt O c O.length=k):(O.map f).take k++(f c::(O.map f).drop k)=(P6 lt O c).map f:=by
 simp [P6,hp,Jp,W5]
theorem Qtw {α:Type} {f:α->List LV} {lt:α->α->Bool} {O:List α} {c:α} {k:Nat} (hp:Tn lt O c O.length=k):(O.map f).take k++([f c]++((O.map f).drop k).take ((O.map f).length-k))=(P6 lt O c).map f:=by
 rw [Qn (l:=(O.map f).drop k) (by simp)];exact Ze2 hp
theorem Qeh {lt:Pt->Pt->Bool} {O:List Pt} {c:Pt} {k:Nat} (hp:Tn lt O c O.length=k):(Fa O).take k++([Dx c]++((Fa O).drop k).take ((Fa O).length-k))=Fa (P6 lt O c):=Qtw hp
theorem Hl (l:List Pt):(Fa l).length=l.length:=by simp [Fa]
theorem Qe4 (l:List Pt):∀ c∈Fa l,c.length=7:=λc hc=>by obtain ⟨x,_,rfl⟩:=Zr.1 hc; rfl
theorem Fc {l:List Pt} {i:Nat} {c:Pt} (h:l[i]? = some c):(Fa l)[i]? = some (Dx c):=Gx h
theorem Q0d {l:List Pt} (hn:l.length<=1000000):Ut Tryz.prog 46 [.one (.row (Fa l))] [.one (.row (Fa (Fx El l)))]:=by
 have hcl:=Hl l;refine Gv Tryz.func46 rfl ?_;refine go tt [.o 3 92 7] rfl trivial ?_;refine lp (S:=Nat) 1 (λL1 i=>(8,.v (.one (.int .i64 (i:Int))))::(3,.v (.one (.orow 0 7 none)))::L1) (λi=>[.row false 92 7 (Fa (Fx El (l.take i)))]) (λi=>l.length-i) (λi=>i<=l.length) 0 (Qh _) rfl (λ_ _=>rfl) rfl λi hi=>?_
 by_cases hlt:i<l.length
 ·obtain ⟨c,hc⟩:=gxE (l:=l) (i:=i) hlt;have hst:Fx El (l.take (i+1))=P6 El (Fx El (l.take i)) c:=Eh hc;obtain ⟨O,hO⟩:=nmE (Fx El (l.take i));have hOl:O.length=i:=by rw [hO,H9,Qr]; omega
  have hrl:=Hl O;rw [<-hO] at hst ⊢;refine go tt [.t (decide_eq_true (by omega))] rfl trivial ?_;refine lp (S:=Nat) 1 (λL1 k=>(5,.v (.one (.int .i64 (k:Int))))::L1) (λ_=>[.row false 92 7 (Fa O)]) id (λk=>k<=O.length/\Tn El O c k=Tn El O c O.length) (Fa O).length ⟨by omega,by rw [hrl]⟩ rfl (λ_ _=>rfl) rfl λk ⟨hk,hp⟩=>?_
  have h7:=Qe4 O;have h7z:∀ y∈[Dx c],y.length=7:=λy hy=>by rw [Qk.1 hy]; rfl
  cases k with
  |
   zero =>
   have hp:Tn El O c O.length=0:=by rw [<-hp]; rfl
   refine go tt [.g 15 false (by simp),.f rfl,.i 0,.x (Fc hc),.lo,.i 0,.s (sz:=7) (λy hy=>h7 y (Qm hy)),.s (sz:=7) (λy hy=>(Qu.1 hy).elim (h7z y) λhy=>h7 y (Qm hy))] rfl (by simp [Ur]; omega) ?_;exact rd (i+1) (by omega) hlt (by rw [hst,<-Qeh hp]; rfl)
  |
   succ k =>
   obtain ⟨x,hx⟩:=gxE (l:=O) (i:=k) (by omega);by_cases hlc:El c x=true
   ·refine go tt [.g 15 true (by simp),.x (Fc hc),.r 23 (eI (b:=(k:Int)) (by simp)),.i k,.x (Fc hx),.t hlc,.r 30 (eI (b:=(k:Int)) (by simp))] rfl (by simp [Ur]; omega) ?_;exact rd k (by simp) ⟨by omega,by rw [<-hp,Qb1 hx hlc]⟩ rfl
   ·have hlc:El c x=false:=by simpa using hlc
    have hp:Tn El O c O.length=k+1:=by rw [<-hp,Ii hx hlc]
    refine go tt [.g 15 true (by simp),.x (Fc hc),.r 23 (eI (b:=(k:Int)) (by simp)),.i k,.x (Fc hx),.f hlc,.i (k+1),.x (Fc hc),.lo,.i (k+1),.s (sz:=7) (λy hy=>h7 y (Zc (Qm hy))),.s (sz:=7) (λy hy=>(Qu.1 hy).elim (h7z y) λhy=>h7 y (Zc (Qm hy)))] rfl (by simp [Ur]; omega) ?_;exact rd (i+1) (by omega) hlt (by rw [hst,<-Qeh hp]; rfl)
 ·obtain rfl:i=l.length:=by omega
  rw [Qy];exact en tt [.f (decide_eq_false (by omega))] rfl rfl trivial
end Orr
