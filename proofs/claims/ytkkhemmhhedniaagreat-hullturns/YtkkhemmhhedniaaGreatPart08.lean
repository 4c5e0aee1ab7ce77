/- F8 F9 G3 G4 K3 K4 S1 S2 S3 R5 R6 RefGL R7 RatOkL R8 R9 RefCL R10 RawL NewsL KGoL SortQ BegL R11 -/
import Derived.Test.YtkkhemmhhedniaaGreatPart07
import Derived.Test.YtkkhemmhhedniaaGreatPart00
import Derived.Test.YtkkhemmhhedniaaGreatPart05
set_option linter.all false
namespace Orr
open Go Go.Proofs Orq
set_option maxRecDepth 10000
theorem Zhy {z:Int}:Uu Tryz.prog 344 [.agg (Gv z)] [.one (.int .i64 (Int.sign z))]:=by
 by_cases h0:z=0
 ·subst h0;exact w tt Tryz.func344 rfl [.t (by simp [Uw,Gx])] rfl rfl trivial
 ·have hl:(Fh z.natAbs).length≠0:=λh=>h0 (Q4z.1 h)
  have hl':decide (((lm (Fh z.natAbs)).length:Int)=0)=false:=by simpa [Uw] using hl
  by_cases h1:z<0
  ·rw [Xw h1];exact w tt Tryz.func344 rfl [.f hl',.t (by simpa using h1)] rfl rfl trivial
  ·rw [X4 (by omega)];exact w tt Tryz.func344 rfl [.f hl',.f (by simpa using h1)] rfl rfl trivial
theorem Q6l {p:List Int} (hp:Pb p):Uu Tryz.prog 342 [pr p] [.one (.int .i64 (Oz p)),.one (.int .i64 (Qd6 p))]:=by
 have hb:-1<=(Fa p).sign/\(Fa p).sign<=1:=by rcases Eh (Fa p) with h | h | h <;> omega
 by_cases h:p.length % 2=0
 ·have e:Oz p=-(Fa p).sign:=by unfold Oz; rw [if_pos h]
  rw [e];exact w tt Tryz.func342 rfl [.c [] (Ho hp.t hp.ln hp.bd),.c [] (Ck hp.t hp.ln hp.bd),.c [] Zhy,.t (by rw [Q27]; simp [h])] rfl rfl (by simp [Us,Fa] at hb ⊢; omega)
 ·have e:Oz p=(Fa p).sign:=by unfold Oz; rw [if_neg h]
  rw [e];exact w tt Tryz.func342 rfl [.c [] (Ho hp.t hp.ln hp.bd),.c [] (Ck hp.t hp.ln hp.bd),.c [] Zhy,.f (by rw [Q27]; simp; omega)] rfl rfl (by simp [Us])
theorem Q7q {p:List Int} (hp:Pb p):Uu Tryz.prog 341 [pr p] [.one (.int .i64 (Oz p))]:=w tt Tryz.func341 rfl [.c [] (Q6l hp)] rfl rfl trivial
theorem Zeg {p:List Int} (hp:Pb p):Uu Tryz.prog 343 [pr p] [.one (.int .i64 (Qd6 p))]:=w tt Tryz.func343 rfl [.c [] (Q6l hp)] rfl rfl trivial
theorem Zju {q:Rat} (hq:Qs 4294967295 q):Uu Tryz.prog 183 [.agg (rl q)] [.agg (rl (-q))]:=by
 exact w tt Tryz.func183 rfl [.c [] (Qj5 hq),.c [] (Qjw (Uv _) hq.1)] rfl rfl trivial
theorem Qs0 {l:List (List Int)} {fid:Nat} {sg:List Int->Int} (hl:l.length≤1000) (hs:∀ p,-1≤sg p/\sg p≤1) (h:∀ p∈l,Uu Tryz.prog fid [pr p] [.one (.int .i64 (sg p))]):Uu Tryz.prog 334 [.one (.sh [.row (Si l)]),.one (.fn fid [] [])] [.one (.int .i64 (Bn sg l:Nat))]:=by
 have By:=Lh l;refine Gs Tryz.func334 rfl ?_;refine go tt [] rfl trivial ?_;refine lp (S:=Nat) 0 (λL1 i=>(15,.v (.one (.int .i64 (i:Int))))::(5,.v (.one (.int .i64 ((tst sg l i).1:Int))))::(6,.v (.one (.int .i64 (tst sg l i).2)))::L1) (λ_=>[]) (λi=>l.length-i) (λi=>i<=l.length) 0 (Qh _) rfl (λ_ _=>rfl) rfl λi hi=>?_
 by_cases hlt:i<l.length
 ·obtain ⟨p,hp⟩:=gxE (l:=l) (i:=i) hlt;have hst:tst sg l (i+1)=S4 sg (tst sg l i) p:=Rt _ _ _ hp;obtain ⟨b1,b2,b3⟩:=Qr3 hs l i;have b4:=hs p;by_cases h0:sg p=0
  ·refine go tt [.t (by simp [By]; omega),.x (Ra hp),.c [] (h p (Qa hp)),.t (by simpa using h0)] rfl (by simp [Us]; omega) ?_;exact rd (i+1) (by omega) hlt (by rw [hst,show S4 sg (tst sg l i) p=tst sg l i from by unfold S4; rw [if_pos h0]]; rfl)
  ·by_cases h1:(tst sg l i).2=-(sg p)
   ·refine go tt [.t (by simp [By]; omega),.x (Ra hp),.c [] (h p (Qa hp)),.f (by simpa using h0),.t (by simpa using h1)] rfl (by simp [Us]; omega) ?_;exact rd (i+1) (by omega) hlt (by rw [hst,show S4 sg (tst sg l i) p=((tst sg l i).1+1,sg p) from by unfold S4; rw [if_neg h0,if_pos h1]]; rfl)
   ·refine go tt [.t (by simp [By]; omega),.x (Ra hp),.c [] (h p (Qa hp)),.f (by simpa using h0),.f (by simpa using h1)] rfl (by simp [Us]; omega) ?_;exact rd (i+1) (by omega) hlt (by rw [hst,show S4 sg (tst sg l i) p=((tst sg l i).1,sg p) from by unfold S4; rw [if_neg h0,if_neg h1]]; rfl)
 ·obtain rfl:i=l.length:=by omega
  refine en tt [.f (by simp [By])] rfl ?_ trivial;unfold tst Bn; rw [List.take_length]
theorem Qf7 (p:List Int):(-1<=Oz p/\Oz p<=1)/\-1<=Qd6 p/\Qd6 p<=1:=by
 have hb:-1<=(Fa p).sign/\(Fa p).sign<=1:=by rcases Eh (Fa p) with h | h | h <;> omega
 unfold Oz Qd6
 split <;> omega
theorem Zds {l:List (List Int)} (hl:l.length≤1000) (hp:∀ p∈l,Pb p):Uu Tryz.prog 301 [.one (.sh [.row (Si l)])] [.one (.int .i64 (Qbc l))]:=by
 have c1:Uu Tryz.prog 330 [.one (.sh [.row (Si l)])] [.one (.int .i64 (Bn Oz l:Nat))] :=
  w tt Tryz.func330 rfl [.c [] (Qs0 hl (λp=>(Qf7 p).1) λp h=>Q7q (hp p h))] rfl rfl trivial
 have c2:Uu Tryz.prog 331 [.one (.sh [.row (Si l)])] [.one (.int .i64 (Bn Qd6 l:Nat))] :=
  w tt Tryz.func331 rfl [.c [] (Qs0 hl (λp=>(Qf7 p).2) λp h=>Zeg (hp p h))] rfl rfl trivial
 have b1:Bn Oz l<=l.length:=Df (λp=>(Qf7 p).1) l;have b2:Bn Qd6 l<=l.length:=Df (λp=>(Qf7 p).2) l;exact w tt Tryz.func301 rfl [.c [] c1,.c [] c2] rfl rfl (by simp [Us]; omega)
theorem Qwg {l:List (List Int)} {lo hi:Rat} (hl:l.length<=1000):-1000<=Rz l lo hi/\Rz l lo hi<=1000:=by
 have b1:Bp l lo<=l.length:=Df (λp=>Ik p lo) l;have b2:Bp l hi<=l.length:=Df (λp=>Ik p hi) l;unfold Rz; split <;> omega
abbrev tal (l:List Tm):List (List LV):=l.map λt=>ta t
theorem Qi5 {p:List Int} {c:List (List Int)} (hp:Pb p):∀ {k:Nat} {lo hi:Rat} {n:Int} {r:List Tm},Qb lo->Qb hi->Ee p c k lo hi n=some r->∀ t∈r,Tb t
 | 0,_,_,_,_,_,_,h=>by cases h
 |
  k+1,lo,hi,n,r,hl,hh,h=>by
  simp only [Ee] at h
  split at h
  ·injection h with h; subst h; exact λt ht=>by cases ht
  ·split at h
   ·injection h with h; subst h;intro t ht; rw [Qk.1 ht]; exact ⟨hp,hl,hh⟩
   ·obtain ⟨m,hm,h⟩:=Qf.1 h;obtain ⟨rfl,qm⟩:=Qj9 hm;obtain ⟨x,hx,h⟩:=Qf.1 h;obtain ⟨y,hy,h⟩:=Qf.1 h;injection h with h; subst h;intro t ht;rcases Qu.1 ht with ht | ht
    ·exact Qi5 hp hl qm hx t ht
    ·exact Qi5 hp qm hh hy t ht
theorem Zlp (l:List Tm):∀ c∈tal l,c.length=9:=λc hc=>by obtain ⟨t,_,rfl⟩:=Zn.1 hc; rfl
theorem Qw7 {p:List Int} {c:List (List Int)} (hp:Pb p) (hcl:c.length≤1000) (hc:∀ q∈c,Pb q):∀ {k:Nat} {lo hi:Rat} {n:Int} {r:List Tm},Qb lo->Qb hi->k≤100000->-(1000*(100001-k:Nat))≤n/\n≤1000*(100001-k:Nat)->Ee p c k lo hi n=some r->r.length≤1000000->Gn Tryz.prog 300 [pr p,.one (.sh [.row (Si c)]),.agg (rl lo),.agg (rl hi),.one (.int .i64 n)] [] [.one (.orow 0 9 none)] [.row false 74 9 (tal r)]
 | 0,_,_,_,_,_,_,_,_,h,_=>by cases h
 |
  k+1,lo,hi,n,r,hl,hh,hk,hn,h,hr=>by
  simp only [Ee] at h
  split at h
  ·rename_i h0;injection h with h; subst h;refine Gs Tryz.func300 rfl ?_;exact ed tt [] [2] [.t (by simpa using h0),.o 10 74 9] rfl trivial
  ·rename_i h0
   split at h
   ·rename_i h1;injection h with h; subst h;refine Gs Tryz.func300 rfl ?_;exact ed tt [] [2] [.f (by simpa using h0),.t (by simpa using h1),.c [] (Ho hp.t hp.ln hp.bd),.c [] (Er hl.s32),.c [] (Er hh.s32),.lo] rfl trivial
   ·rename_i h1;obtain ⟨m,hm,h⟩:=Qf.1 h;obtain ⟨rfl,qm⟩:=Qj9 hm;obtain ⟨x,hx,h⟩:=Qf.1 h;obtain ⟨y,hy,h⟩:=Qf.1 h;injection h with h; subst h;have hb:=Qwg (l:=c) (lo:=lo) (hi:=mid lo hi) hcl;rw [Q3] at hr;have c1:=Qw7 hp hcl hc hl qm (by omega) (by omega) hx (by omega);have c2:=Qw7 hp hcl hc qm hh (by omega) (by omega) hy (by omega);rw [show tal (x++y)=tal x++tal y from J5];refine Gs Tryz.func300 rfl ?_;exact ed tt [] [3] [.f (by simpa using h0),.f (by simpa using h1),.c [] (Zhx hl hh),.c [] (Qm8 hcl hc hl qm),.c [3] c1,.c [4] c2,.s (Zlp y)] rfl (by simp [Us]; omega)
theorem Zd2 {p:List Int} {r:List Tm} (hp:Pb p) (h:Qma p=some r) (hr:r.length<=1000000):Uu Tryz.prog 261 [pr p] [.one (tas r),.one (.int .i64 0)]:=by
 unfold Qma at h;obtain ⟨c,h1,h⟩:=Qf.1 h;obtain ⟨q,h2,h⟩:=Qf.1 h;obtain ⟨b,h3,h⟩:=Qf.1 h;obtain ⟨rfl,hb⟩:=Qj9 h3;obtain ⟨k1,k2⟩:=chain_ok hp h1;have hq:=Qgu hp h2;have q0:q.length≠0:=by
  unfold Lp at h1;obtain ⟨a,a1,h1⟩:=Qf.1 h1;rw [h2] at a1; injection a1 with a1; subst a1
  split at h1
  ·cases h1
  ·assumption
 have qn:Qb (-Gp q):=⟨by rw [Rat.neg_num,Hl]; exact hb.1,by rw [Rat.neg_den]; exact hb.2⟩;have bb1:Bn Oz c<=c.length:=Df (λp=>(Qf7 p).1) c;have bb2:Bn Qd6 c<=c.length:=Df (λp=>(Qf7 p).2) c;have hn:-(1000*(100001-100000:Nat):Int)<=Qbc c/\Qbc c<=1000*(100001-100000:Nat):=by unfold Qbc; omega
 have cr:=Qw7 hq (by omega) k2 qn hb (Qm _) hn h hr;refine Gs Tryz.func261 rfl ?_;exact ed tt [1] [] [.c [] (Q68 hp h1),.f rfl,.c [] (Qjz hp h2),.c [] (Zdr hq q0),.c [] (Zju hb.s32),.c [] (Zds (by omega) k2),.c [1] cr] rfl trivial
def Ux (l:List Pt):List (List LV):=l.map Gy
theorem Ht {l:List Pt} {i:Nat} {c:Pt} (h:l[i]? = some c):(Ux l)[i]? = some (Gy c):=Gt h
theorem Rl (l:List Pt):(Ux l).length=l.length:=by simp [Ux]
theorem Qrq (l:List Pt):∀ c∈Ux l,c.length=5:=λc hc=>by
 obtain ⟨x,_,rfl⟩:=Zn.1 hc; rfl
abbrev zPt:List LV:=[.nils,.nils,.bool false,.nils,.int .i64 0]
theorem Q1i {lt:Pt->Pt->Bool} {O:List Pt} {z:List LV} {c:Pt} {k m:Nat} {l2:List (List LV)} (hk:k<=O.length) (hp:Tp lt O c O.length=k) (hm:m=O.length-k) (h2:l2.take m=((Ux O++[z]).drop k).take m) :
 ((Ux O++[z]).take (k+1)++(l2.take m++(Ux O++[z]).drop (k+1+m))).set k (Gy c)=Ux (P7 lt O c):=by
 rw [h2,<-Zl,Qt2 (Ux O) z (Gy c) (by rw [Rl]; omega) (by rw [Rl]; omega)];simp [P7,hp,Ux,Jr,W6]
def So (t:Tm) (l:List Pt):List Pt:=Fy (Te (G9 t)) l
theorem Qz5 {l:List Pt} {t:Tm} (hl:∀ p∈l,Sc p.c) (hn:l.length≤1000000) (ht:Va t):Uu Tryz.prog 181 [.agg (ta t),.one (pts l)] [.one (pts (So t l))]:=by
 have hcl:=Rl l;show Uu Tryz.prog 181 [.agg (ta t),.one (.row (Ux l))] [.one (.row (Ux (So t l)))];obtain ⟨lt,hlt0⟩:=nmE (Te (G9 t));unfold So;rw [<-hlt0];refine Gs Tryz.func181 rfl ?_;refine go tt [.o 5 135 5] rfl trivial ?_;refine lp (S:=Nat) 2 (λL1 i=>(11,.v (.one (.int .i64 (i:Int))))::(5,.v (.one (.orow 1 5 none)))::L1) (λi=>[.blk 74 (ta t),.row false 135 5 (Ux (Fy lt (l.take i)))]) (λi=>l.length-i) (λi=>i<=l.length) 0 (Qh _) rfl (λ_ _=>rfl) rfl λi hi=>?_
 by_cases hlt:i<l.length
 ·obtain ⟨c,hc⟩:=gxE (l:=l) (i:=i) hlt;have hst:Fy lt (l.take (i+1))=P7 lt (Fy lt (l.take i)) c:=Ei hc;have hcp:=hl c (Qa hc);obtain ⟨O,hO⟩:=nmE (Fy lt (l.take i));have hOl:O.length=i:=by rw [hO,Re,Qp]; omega
  have hOm:∀ x∈O,Sc x.c:=λx hx=>by rw [hO,S8] at hx; exact hl x (Qn hx)
  rw [<-hO] at hst ⊢;refine go tt [.t (by simp [hcl]; omega),.x (Ht hc)] rfl trivial ?_;refine lp (S:=Nat) 3 (λL1 k=>(8,.v (.one (.int .i64 (k:Int))))::L1) (λk=>[.blk 74 (ta t),.row false 135 5 (Ux O),.blk 135 (Gy c)]) id (λk=>k<=O.length/\Tp lt O c k=Tp lt O c O.length) (Ux O).length ⟨by rw [Rl]; exact Qm _,by rw [Rl]⟩ rfl (λ_ _=>rfl) rfl λk ⟨hk,hp⟩=>?_
  have hz:∀ y∈[zPt],y.length=5:=λy hy=>by rw [Qk.1 hy]; rfl
  have h77:∀ y∈Ux O++[zPt],y.length=5:=λy hy=>by
   rcases Qu.1 hy with hy | hy
   ·exact Qrq O y hy
   ·exact hz y hy
  cases k with
  |
   zero =>
   have hp:Tp lt O c O.length=0:=by rw [<-hp]; rfl
   refine go tt [.g 19 false (by simp),.f rfl,.s (sz:=5) hz,.r 37 (eI (b:=((0+1:Nat):Int)) (by simp)),.i (0+1),.i (0),.s (sz:=5) (λy hy=>h77 y (Qn hy)),.i (O.length),.i (0)] rfl (by simp [Us,Rl]; omega) ?_;exact rd (i+1) (by omega) hlt (by rw [hst,<-Q1i (z:=zPt) (l2:=(Ux O++[zPt]).take ((Ux O++[zPt]).length-0)) (k:=0) (m:=O.length) (by omega) hp (by omega) (by congr 1; exact Ql (by simp))]; rfl)
  |
   succ k =>
   obtain ⟨x,hx⟩:=gxE (l:=O) (i:=k) (by omega);have cb:=Q6i hcp (hOm x (Qa hx)) ht;rw [<-hlt0] at cb;by_cases hlc:lt c x=true
   ·refine go tt [.g 19 true (by simp),.r 23 (eI (b:=(k:Int)) (by simp)),.i k,.x (Ht hx),.c [] cb,.t hlc,.r 30 (eI (b:=(k:Int)) (by simp))] rfl (by simp [Us,Rl]; omega) ?_;exact rd k (by simp) ⟨by omega,by rw [<-hp,Qb1 hx hlc]⟩ rfl
   ·have hlc:lt c x=false:=by simpa using hlc
    have hp:Tp lt O c O.length=k+1:=by rw [<-hp,Ii hx hlc]
    refine go tt [.g 19 true (by simp),.r 23 (eI (b:=(k:Int)) (by simp)),.i k,.x (Ht hx),.c [] cb,.f hlc,.s (sz:=5) hz,.r 37 (eI (b:=((k+1+1:Nat):Int)) (by simp)),.i (k+1+1),.i (k+1),.s (sz:=5) (λy hy=>h77 y (Q9 (Qn hy))),.i (O.length-(k+1)),.i (k+1)] rfl (by simp [Us,Rl]; omega) ?_;exact rd (i+1) (by omega) hlt (by rw [hst,<-Q1i (z:=zPt) (l2:=((Ux O++[zPt]).drop (k+1)).take ((Ux O++[zPt]).length-(k+1))) (k:=k+1) (m:=O.length-(k+1)) (by omega) hp (by omega) (by congr 1; exact Ql (by simp))]; rfl)
 ·obtain rfl:i=l.length:=by omega
  rw [Qy];exact en tt [.f (by simp [hcl])] rfl rfl trivial
def Sj (sg:List Int->Int):List Pt->List Ct
 | a::b::l=>Nw sg a b::Sj sg (b::l)
 | _=>[]
theorem Nj (sg:List Int->Int):∀ l:List Pt,(Sj sg l).length=l.length-1
 | []=>rfl
 | [_]=>rfl
 | a::b::l=>by simp only [Sj,Q8,Nj sg (b::l)]; omega
theorem Qg1 (sg:List Int->Int):∀ {l:List Pt} {i:Nat} {a b:Pt},l[i]? = some a->l[i+1]? = some b->(Sj sg l).take (i+1)=(Sj sg l).take i++[Nw sg a b]
 | [],i,a,b,h,_=>by simp at h
 | [x],i,a,b,_,h=>by cases i <;> simp at h
 | x::y::l,0,a,b,h1,h2=>by simp at h1 h2; subst h1; subst h2; simp [Sj]
 |
  x::y::l,i+1,a,b,h1,h2=>by
  have ih:=Qg1 sg (l:=y::l) (i:=i) (a:=a) (b:=b) (by simpa using h1) (by simpa using h2);simp only [Sj,J9] at ih ⊢;rw [ih]; rfl
theorem Zd3:Uu Tryz.prog 275 [pr []] [.one .nilp,.one (.int .i64 2)]:=by
 have h:Pi []=some []:=rfl;exact w tt Tryz.func275 rfl [.c [] (Qjz Qgt h),.t rfl] rfl rfl trivial
theorem Q67:Uu Tryz.prog 261 [pr []] [.one (.row []),.one (.int .i64 2)] :=
 w tt Tryz.func261 rfl [.c [] Zd3,.t rfl] rfl rfl trivial
theorem Zky {a o:List Int} (ha:Pb a) (h:Qyd a=some o):Pb o:=by
 unfold Qyd at h
 split at h
 ·injection h with h; subst h; exact Qgt
 ·obtain ⟨l,hl,h⟩:=Qf.1 h;obtain ⟨fs,hf,h⟩:=Qf.1 h;exact Qbz Zao (Qqi (Qix (Rk ha) hl).2 hf) h
theorem Q6n {p:List Int} {l:List Tm} (hp:Pb p) (h:Qdk p=some l) (hl:l.length<=1000000):Uu Tryz.prog 210 [pr p] [.one (tas l)]:=by
 unfold Qdk at h;obtain ⟨q,hq,h⟩:=Qf.1 h;have qp:=Zky hp hq;have co:=Zmq hp hq
 split at h
 ·rename_i h0;injection h with h; subst h;obtain rfl:=Qi h0;exact w tt Tryz.func210 rfl [.c [] co,.c [] Q67,.t rfl] rfl rfl trivial
 ·exact w tt Tryz.func210 rfl [.c [] co,.c [] (Zd2 qp h hl),.f rfl] rfl rfl trivial
def ota:Option Tm->List LV
 | none=>zTr
 | some t=>ta t
theorem Zdu {p:List Int} {a:Tm} {l:List Tm} {r:Option Tm} (hp:Pb p) (ha:Tb a) (h:Qdk p=some l) (hl:l.length≤1000000) (ht:∀ t∈l,Tb t) (hr:Qcn a l=some r):Uu Tryz.prog 154 [pr p,.agg (ta a)] [.agg (ota r),.one (.bool r.isSome)]:=by
 have hll:(l.map λt=>ta t).length=l.length:=by simp
 refine Gs Tryz.func154 rfl ?_;refine go tt [.c [] (Q6n hp h hl)] rfl trivial ?_;refine lp (S:=Nat) 2 (λL1 i=>(11,.v (.one (.int .i64 (i:Int))))::L1) (λ_=>[.blk 74 (ta a),.blk 74 zTm]) (λi=>l.length-i) (λi=>i<=l.length/\Qcn a (l.drop i)=some r) 0 ⟨Qh _,hr⟩ rfl (λ_ _=>rfl) rfl λi ⟨hi,hf⟩=>?_
 by_cases hlt:i<l.length
 ·obtain ⟨t,hx⟩:=gxE (l:=l) (i:=i) hlt;have hdr:l.drop i=t::l.drop (i+1):=by
   rw [Ze hlt]; congr 1;have:=Qe hlt; rw [hx] at this; injection this with this; exact this.symm
  rw [hdr] at hf;simp only [Qcn] at hf;obtain ⟨c,c1,hf⟩:=Qf.1 hf;have cc:=Qjs (ht t (Qa hx)) ha c1;by_cases hc:0<c
  ·rw [if_pos hc] at hf;injection hf with hf; subst hf;exact en tt [.t (by simp; omega),.x (Qjf hx),.c [] cc,.t (by simpa using hc)] rfl rfl trivial
  ·rw [if_neg hc] at hf;refine go tt [.t (by simp; omega),.x (Qjf hx),.c [] cc,.f (by simpa using hc)] rfl (by simp [Us]; omega) ?_;exact rd (i+1) (by omega) ⟨hlt,hf⟩ rfl
 ·obtain rfl:i=l.length:=by omega
  rw [Yu] at hf;simp only [Qcn] at hf;injection hf with hf; subst hf;exact en tt [.f (by simp)] rfl rfl trivial
def Qa0 (now:Tm):List Wt->Option (List Wt)
 | []=>some []
 | w::l=>(if w.known=true then some w else (Qhw w.c.p now).bind λr=>some ⟨w.c,true,r⟩).bind λw'=>(Qa0 now l).bind λr=>some (w'::r)
theorem Qgp {now:Tm}:∀ {l ws:List Wt},Qa0 now l=some ws->ws.length=l.length/\∀ (i:Nat) (w:Wt),l[i]? = some w->∃ v,ws[i]? = some v/\(w.known=true/\v=w\/w.known=false/\∃ r,Qhw w.c.p now=some r/\v=⟨w.c,true,r⟩)
 | [],ws,h=>by injection h with h; subst h; exact ⟨rfl,λi x hx=>by simp at hx⟩
 |
  y::l,ws,h=>by
  simp only [Qa0] at h;obtain ⟨v,hv,h⟩:=Qf.1 h;obtain ⟨r,hr,h⟩:=Qf.1 h;injection h with h; subst h;obtain ⟨a,b⟩:=Qgp hr;refine ⟨by simp [a],λi x hx=>?_⟩;cases i with
  |
   zero =>
   injection hx with hx; subst hx;refine ⟨v,rfl,?_⟩
   split at hv
   ·rename_i hk; injection hv with hv; exact .inl ⟨hk,hv.symm⟩
   ·rename_i hk;obtain ⟨q,hq,hv⟩:=Qf.1 hv;injection hv with hv;exact .inr ⟨by simpa using hk,q,hq,hv.symm⟩
  | succ i=>exact b i x (by simpa using hx)
theorem Q6m {p:List Int} {a:Tm} {r:Option Tm} (hp:Cp p) (ha:Va a) (h:Qhw p a=some r):Uu Tryz.prog 154 [pr p,.agg (ta a)] [.agg (ota r),.one (.bool r.isSome)]:=by
 obtain ⟨l,l1,l2,l3,_⟩:=Qbi hp;unfold Qhw at h;rw [l1] at h;exact Zdu (Dp.pb hp.dp) ha.tb l1 (by omega) (λt ht=>(l3 t ht).tb) h
theorem Zdx {T:Nat} {c:Cr} {r0 r1:List (List LV)} {ws:List Wt} (hc:CrOk c) (h:Qa0 c.now c.l=some ws):Gn Tryz.prog 88 [.one (.ow 0 0)] [.blk T (Pe c r0 r1)] [] [.blk T (Pe { c with l:=ws } r0 r1)]:=by
 have hk:=hc.k;have hw:=Dh c.l;obtain ⟨h1,h2⟩:=Qgp h;refine Gs Tryz.func88 rfl ?_;refine go tt [.o 2 167 18,.c [0] (Qpr hc.n)] rfl trivial ?_;refine lp (S:=Nat) 3 (λL1 i=>(13,.v (.one (.int .i64 (i:Int))))::(2,.v (.one (.orow 1 18 none)))::L1) (λi=>[.blk T (Pe c r0 r1),.row false 167 18 (Qdn (ws.take i)),.blk 74 (ta c.now)]) (λi=>c.l.length-i) (λi=>i<=c.l.length) 0 (Qh _) rfl (λ_ _=>rfl) rfl λi hi=>?_
 by_cases hlt:i<c.l.length
 ·obtain ⟨w,hx⟩:=gxE (l:=c.l) (i:=i) hlt;obtain ⟨v,hv,h3⟩:=h2 i w hx;have hm:∀ y∈[wl v],y.length=18:=λy hy=>by rw [Qk.1 hy]; rfl
  have hg:=Qhc hv;have hl:decide ((i:Int)<((Qdn c.l).length:Int))=true:=by simp [hw]; omega
  rcases h3 with ⟨k1,rfl⟩ | ⟨k1,r,k2,rfl⟩
  ·obtain ⟨vc,vk,vf⟩:=v;cases vf <;> (refine go tt [.t hl,.x (P0 hx),.f (by rw [show vk=true from k1]; rfl),.s (sz:=18) hm] rfl (by simp [Us,Dh]; omega) ?_; exact rd (i+1) (by omega) hlt (by rw [hg]; rfl))
  ·have cg:=Q6m (hc.l w (Qa hx)).p hc.n k2;obtain ⟨wc,wk,wf⟩:=w;cases r <;> cases wf <;> (refine go tt [.t hl,.x (P0 hx),.t (by rw [show wk=false from k1]; rfl),.c [] cg,.s (sz:=18) hm] rfl (by simp [Us,Dh]; omega) ?_; exact rd (i+1) (by omega) hlt (by rw [hg]; rfl))
 ·obtain rfl:i=c.l.length:=by omega
  rw [<-h1,Qy];exact ed tt [1] [0] [.f (by simp [hw,h1])] rfl trivial
def Qun (ws:List Wt):Option (Option Tm):=match ws.filterMap (·.fails) with
 | []=>some none
 | b::l=>(Of b l).map some
theorem Qiz {c:Cr} {ws:List Wt} (hc:CrOk c) (h:Qa0 c.now c.l=some ws):CrOk { c with l:=ws }:=by
 obtain ⟨h1,h2⟩:=Qgp h;refine ⟨hc.n,λv hv=>?_,by show ws.length<=1000; rw [h1]; exact hc.k⟩;obtain ⟨i,hi⟩:=Yg hv;have hil:i<c.l.length:=by rw [<-h1]; exact (Qd.1 hi).1
 obtain ⟨v',h3,h4⟩:=h2 i _ (Qe hil);rw [hi] at h3; injection h3 with h3; subst h3;have hw:=hc.l _ (Xx hil);rcases h4 with ⟨_,rfl⟩ | ⟨_,r,k2,rfl⟩
 ·exact hw
 ·obtain ⟨r',r1,r2⟩:=Zab hw.p hc.n;rw [k2] at r1; injection r1 with r1; subst r1;refine ⟨hw.p,λt ht=>?_⟩;have ht:r=some t:=ht;subst ht;exact r2.2.1
theorem Zdy {T:Nat} {c:Cr} {r0 r1:List (List LV)} {ws:List Wt} {r:Option Tm} (hc:CrOk c) (h:Qa0 c.now c.l=some ws) (hr:Qun ws=some r):Gn Tryz.prog 24 [.one (.ow 0 0)] [.blk T (Pe c r0 r1)] [.agg (ota r),.one (.bool r.isSome)] [.blk T (Pe { c with l:=ws } r0 r1)]:=by
 have hcl:=Zdx (T:=T) (r0:=r0) (r1:=r1) hc h;have hc':=Qiz hc h;have hk:=hc'.k;have hw:=Dh ws;have hvb:∀ t∈ws.filterMap (·.fails),Tb t:=λt ht=>by
  obtain ⟨w,w1,w2⟩:=Jo.1 ht;exact ((hc'.l w w1).f t w2).tb
 refine Gs Tryz.func24 rfl ?_;refine go tt [.c [0] hcl,.o 4 74 9] rfl trivial ?_;refine lp (S:=Nat) 3 (λL1 i=>(14,.v (.one (.int .i64 (i:Int))))::(4,.v (.one (.orow 2 9 none)))::L1) (λi=>[.blk T (Pe { c with l:=ws } r0 r1),.blk 74 zTm,.row false 74 9 (tal ((ws.take i).filterMap (·.fails)))]) (λi=>ws.length-i) (λi=>i<=ws.length) 0 (Qh _) rfl (λ_ _=>rfl) rfl λi hi=>?_
 by_cases hlt:i<ws.length
 ·obtain ⟨w,hx⟩:=gxE (l:=ws) (i:=i) hlt;have hl:decide ((i:Int)<((Qdn ws).length:Int))=true:=by simp [hw]; omega
  have hfl:((ws.take i).filterMap (·.fails)).length<=i:=Qc (List.length_filterMap_le _ _) (by rw [Qp]; omega);have hg:(ws.take (i+1)).filterMap (·.fails)=(ws.take i).filterMap (·.fails)++(match w.fails with | none=>[] | some t=>[t]):=by
   rw [Zp,hx,List.filterMap_append];show _++List.filterMap (·.fails) [w]=_;cases hwf:w.fails <;> simp [hwf]
  obtain ⟨wc,wk,wf⟩:=w;have hk:ws.length<=1000:=hk;cases wf with
  |
   none =>
   refine go tt [.t hl,.x (P0 hx),.f rfl] rfl (by simp [Us]; omega) ?_;exact rd (i+1) (by omega) hlt (by rw [hg]; simp; rfl)
  |
   some t =>
   refine go tt [.t hl,.x (P0 hx),.t rfl,.s (l:=[ta t]) (sz:=9) (λc hc=>by rw [Qk.1 hc]; rfl)] rfl (by simp [Us]; omega) ?_;exact rd (i+1) (by omega) hlt (by rw [hg]; simp [tal]; rfl)
 ·obtain rfl:i=ws.length:=by omega
  rw [Qy];have hf:decide ((ws.length:Int)<((Qdn ws).length:Int))=false:=by simp [hw]
  have hln:(ws.filterMap (·.fails)).length<=1000:=Qc (List.length_filterMap_le _ _) hk;unfold Qun at hr;cases hfm:ws.filterMap (·.fails) with
  |
   nil =>
   rw [hfm] at hr;injection hr with hr; subst hr;exact ed tt [] [0] [.f hf,.p 2,.c [] Q6s] rfl trivial
  |
   cons b l =>
   rw [hfm] at hr hvb hln;obtain ⟨m,m1,rfl⟩:=Vu.1 hr;have cl:=O8 (hvb b (Qx ..)) (λt ht=>hvb t (Qj _ ht)) (by simp at hln; omega) m1;exact ed tt [] [0] [.f hf,.p 2,.c [] cl] rfl trivial
theorem Qlh {at_:Tm} {x:Ct}:∀ {l:List Wt} {w:Wt},Lz l x at_=some w->w=fresh x\/∃ v∈l,v.known=true/\v.c.p=x.p/\w=⟨x,true,v.fails⟩/\∀ t,v.fails=some t->∃ c,Qfy t at_=some c/\0<c
 | [],w,h=>by simp only [Lz] at h; injection h with h; exact .inl h.symm
 |
  v::l,w,h=>by
  simp only [Lz] at h;have tl:Lz l x at_=some w->w=fresh x\/∃ v'∈v::l,v'.known=true/\v'.c.p=x.p/\w=⟨x,true,v'.fails⟩/\∀ t,v'.fails=some t->∃ c,Qfy t at_=some c/\0<c:=λh=>by
   rcases Qlh h with h | ⟨v',h1,h2⟩
   ·exact .inl h
   ·exact .inr ⟨v',Qj _ h1,h2⟩
  split at h
  ·rename_i hk;cases hf:v.fails with
   |
    none =>
    rw [hf] at h;injection h with h;exact .inr ⟨v,Qx ..,hk.2.1,hk.2.2,by rw [hf]; exact h.symm,λt ht=>by rw [hf] at ht; cases ht⟩
   |
    some t =>
    rw [hf] at h;obtain ⟨c,c1,h⟩:=Qf.1 h
    split at h
    ·rename_i h0;injection h with h;exact .inr ⟨v,Qx ..,hk.2.1,hk.2.2,by rw [hf]; exact h.symm,λu hu=>by rw [hf] at hu; injection hu with hu; subst hu; exact ⟨c,c1,h0⟩⟩
    ·exact tl h
  ·exact tl h
theorem lay_ok {c:Cr} {at_:Tm} {l:List Ct} {ws:List Wt} (ev:Int) (hc:CrOk c) (ha:Va at_) (hl:∀ x∈l,Cp x.p) (hn:l.length≤1000) (h:E6 c.l at_ (Fz l)=some ws):CrOk ⟨at_,ws,ev⟩:=by
 obtain ⟨h1,h2⟩:=Qeh h;refine ⟨ha,λw hw=>?_,by show ws.length<=1000; rw [h1,Ll]; exact hn⟩;obtain ⟨i,hi⟩:=Yg hw;have hil:i<(Fz l).length:=by rw [<-h1]; exact (Qd.1 hi).1
 obtain ⟨v,h3,h4⟩:=h2 i _ (Qe hil);rw [hi] at h4; injection h4 with h4; subst h4;have hx:=hl _ (Ir (Xx hil));rcases Qlh h3 with e | ⟨v,v1,_,v3,e,_⟩
 ·rw [e]; exact ⟨hx,λt ht=>by cases ht⟩
 ·rw [e]; exact ⟨hx,λt ht=>(hc.l v v1).f t ht⟩
def goF {β:Type} (Bc:Tm->List Ct) (Br:Tm->β) (t:Rat):Nat->Cr->β->Int->Option (Cr×β×Int)
 | 0,_,_,_=>none
 |
  k+1,c,r,n=>(Qa0 c.now c.l).bind λws=>(Qun ws).bind λo=>match o with
  | none=>some (⟨tq t,ws,c.ev⟩,r,n)
  | some a=>if 0<Ff a t then some (⟨tq t,ws,c.ev⟩,r,n) else (E6 ws a (Fz (Bc a))).bind λw2=>goF Bc Br t k ⟨a,w2,c.ev+1⟩ (Br a) (n+1)
theorem Zah {ws:List Wt} {a:Tm} (h:Qun ws=some (some a)) (hv:∀ t∈ws.filterMap (·.fails),Va t):a∈ws.filterMap (·.fails)/\∀ t∈ws.filterMap (·.fails),¬Di t a:=by
 unfold Qun at h;cases hf:ws.filterMap (·.fails) with
 | nil=>rw [hf] at h; injection h with h; cases h
 |
  cons b l =>
  rw [hf] at h hv;obtain ⟨m,m1,m2⟩:=Vu.1 h;injection m2 with m2; subst m2;obtain ⟨m',n1,n2,n3⟩:=Qgl l b hv;rw [m1] at n1; injection n1 with n1; subst n1;exact ⟨n2,n3⟩
theorem Zkx {c:Cr} {ws:List Wt} {a:Tm} (hc:CrOk c) (h:Qa0 c.now c.l=some ws) (hr:Qun ws=some (some a)):Va a:=by
 have hc':=Qiz hc h;have hv:∀ t∈ws.filterMap (·.fails),Va t:=λt ht=>by
  obtain ⟨w,w1,w2⟩:=Jo.1 ht;exact (hc'.l w w1).f t w2
 exact hv a (Zah hr hv).1
structure BuildOk (Bc:Tm->List Ct):Prop where
 p:∀ a,Va a->∀ x∈Bc a,Cp x.p
 n:∀ a,Va a->(Bc a).length<=1000
theorem Qnb {T:Nat} {c:Cr} {r0 r1:List (List LV)}:Gn Tryz.prog 34 [.one (.ow 0 0)] [.blk T (Pe c r0 r1)] [.one (.int .i64 c.ev)] [.blk T (Pe c r0 r1)]:=by
 refine Gs Tryz.func34 rfl ?_;exact ed tt [] [0] [] rfl trivial
def bcS (l:List Pt) (a:Tm):List Ct:=Sj (G9 a) (So a l)
theorem Hr {t:Tm} {l:List Pt} {p:Pt}:p∈So t l↔p∈l:=by
 unfold So Fy; rw [Qc4]; simp
theorem Db (t:Tm) (l:List Pt):(So t l).length=l.length:=Re _ _
theorem Q4a {a:Tm} (ha:Va a):Qfy a a=some 0:=by
 obtain ⟨c,c1,c2⟩:=Qdy ha ha;rcases c2 with ⟨_,h⟩ | ⟨e,_⟩ | ⟨_,h⟩
 ·exact absurd h λh=>Qa1 ha.cut ha.cut h h
 ·rw [c1,e]
 ·exact absurd h λh=>Qa1 ha.cut ha.cut h h
abbrev idl (l:List Int):List (List LV):=l.map λ(z:Int)=>[.int .i64 z]
theorem Qiw {l:List Int} {i:Nat} {z:Int} (h:l[i]? = some z):(idl l)[i]? = some [.int .i64 z]:=Gt h
theorem Q69 {a b:List Int} (ha:a.length<=1000000) (hb:b.length<=1000000):Uu Tryz.prog 77 [.one (ids a),.one (ids b)] [.one (.bool (decide (a=b)))]:=by
 show Uu Tryz.prog 77 [.one (.row (idl a)),.one (.row (idl b))] _;have la:(idl a).length=a.length:=by simp
 have lb:(idl b).length=b.length:=by simp
 refine Gs Tryz.func77 rfl ?_;by_cases hl:a.length=b.length
 ·refine go tt [.f (by simp; omega)] rfl trivial ?_;refine lp (S:=Nat) 0 (λL1 i=>(5,.v (.one (.int .i64 (i:Int))))::L1) (λ_=>[]) (λi=>a.length-i) (λi=>i<=a.length/\a.take i=b.take i) 0 ⟨Qh _,rfl⟩ rfl (λ_ _=>rfl) rfl λi ⟨hi,he⟩=>?_
  by_cases hlt:i<a.length
  ·obtain ⟨x,hx⟩:=gxE (l:=a) (i:=i) hlt;obtain ⟨y,hy⟩:=gxE (l:=b) (i:=i) (by omega);by_cases e:x=y
   ·refine go tt [.t (by simp; omega),.x (Qiw hx),.x (Qiw hy),.f (by simpa using e)] rfl (by simp [Us]; omega) ?_;exact rd (i+1) (by omega) ⟨hlt,by rw [Zp,Zp,hx,hy,he,e]⟩ rfl
   ·have hne:a≠b:=λh=>by rw [h,hy] at hx; injection hx with hx; exact e hx.symm
    exact en tt [.t (by simp; omega),.x (Qiw hx),.x (Qiw hy),.t (by simpa using e)] rfl (by simp [hne]) trivial
  ·obtain rfl:i=a.length:=by omega
   have hab:a=b:=by rw [Qy] at he; rw [he,hl,Qy]
   exact en tt [.f (by simp)] rfl (by simp [hab]) trivial
 ·have hne:a≠b:=λh=>hl (by rw [h])
  exact en tt [.t (by simp; omega)] rfl (by simp [hne]) trivial
def Aq (v n:Int):Int:=if n<1 then 0 else v.emod n
theorem Q5s {v n:Int} (h:0<n):(if v.tmod n<0 then v.tmod n+n else v.tmod n)=v % n:=by
 have h3:=J4 v (show n≠0 by omega);have h4:=Jb v h;have h1:=Int.tmod_eq_emod (a:=v) (b:=n);have hn:((n.natAbs:Nat):Int)=n:=by omega
 split at h1
 ·rw [h1]; simp; omega
 ·rename_i hc;rw [h1,hn];have:v % n≠0:=λe=>hc (.inr (Yp e))
  rw [if_pos (by omega)]; omega
theorem O9 {v n:Int} (hv:-9223372036854775808<=v/\v<=9223372036854775807) (hn:n<=1000000000):Uu Tryz.prog 53 [.one (.int .i64 v),.one (.int .i64 n)] [.one (.int .i64 (Aq v n))]:=by
 unfold Aq;by_cases h:n<1
 ·rw [if_pos h];exact w tt Tryz.func53 rfl [.t (by simpa using h)] rfl rfl trivial
 ·rw [if_neg h];have e:=Q5s (v:=v) (n:=n) (by omega);have h3:=J4 v (show n≠0 by omega);have h4:=Jb v (show 0<n by omega);show Uu Tryz.prog 53 [.one (.int .i64 v),.one (.int .i64 n)] [.one (.int .i64 (v % n))];by_cases h0:v.tmod n<0
  ·rw [if_pos h0] at e;have b:-n<=v.tmod n:=by omega
   exact w tt Tryz.func53 rfl [.f (by simpa using h),.t (by simpa using h0)] rfl (by rw [e]) (by simp [Us]; omega)
  ·rw [if_neg h0] at e;exact w tt Tryz.func53 rfl [.f (by simpa using h),.f (by simpa using h0)] rfl (by rw [e]) (by simp [Us]; omega)
end Orr
namespace Orr
open Go Go.Proofs
set_option maxRecDepth 10000
def frow (p:List Rat):List (List LV):=p.map fr
theorem Ts (p:List Rat):(frow p).length=p.length:=by simp [frow]
theorem Lx {p:List Rat} {i:Nat} {q:Rat} (h:p[i]? = some q):(frow p)[i]? = some (fr q):=Gt h
theorem Qn5 (p:List Rat) (q:Rat):frow (p++[q])=frow p++[fr q]:=by simp [frow]
theorem Qgb (p:List Rat):∀ c∈frow p,c.length=4:=λc hc=>by obtain ⟨x,_,rfl⟩:=Zn.1 hc; rfl
abbrev rp (p:List Rat):LV:=.row (frow p)
theorem Qx7 (q:Rat):∀ c∈[fr q],c.length=4:=λc hc=>by rw [Qk.1 hc]; rfl
theorem Q7k:Uu Tryz.prog 204 [] [.agg (fr 0)]:=w tt Tryz.func204 rfl [.c [] (Qjx (n:=0) (by decide))] rfl rfl trivial
theorem Qab {p:List Rat}:Uu Tryz.prog 87 [.one (rp p)] [.one (rp (B5 p))]:=by
 refine Gs Tryz.func87 rfl (ln 0 rfl rfl λhl=>?_);rw [Ts] at hl;have By:=Ts p;refine go tt [] rfl trivial ?_;refine lp (S:=Nat) 0 (λL1 n=>(3,.v (.one (.int .i64 (n:Int))))::L1) (λ_=>[]) id (λn=>n<=p.length/\∀ j x,n<=j->p[j]? = some x->x=0) (frow p).length ⟨by rw [By]; exact Qm _,λj x h1 h2=>by
  have:=(Qd.1 h2).1; rw [By] at h1; omega⟩ rfl (λ_ _=>rfl) rfl λn hs=>?_
 obtain ⟨h1,h2⟩:=hs;cases n with
 |
  zero =>
  have e:=Qg3 h1 (λj x h=>h2 j x h) (λh=>absurd h (by decide));exact en tt [.g 8 false (by simp),.f rfl,.i 0] rfl (by rw [e]; rfl) (by simp [Us])
 |
  succ n =>
  obtain ⟨x,hx⟩:=gxE (l:=p) (i:=n) (by omega);have hn:=Rat.num_eq_zero (q:=x);by_cases h0:x=0
  ·refine go tt [.g 8 true (by simp),.r 11 (eI (b:=(n:Int)) (by simp)),.x (Lx hx),.c [] (Mr (z:=x.num)),.t (decide_eq_true (hn.2 h0)),.r 18 (eI (b:=(n:Int)) (by simp))] rfl (by simp [Us]; omega) ?_;exact rd n (by simp) ⟨by omega,λj y h3 h4=>by
    rcases Vn h3 with rfl | h3
    ·rw [hx] at h4; injection h4 with h4; rw [<-h4,h0]
    ·exact h2 j y h3 h4⟩ rfl
  ·have e:=Qg3 h1 (λj x h=>h2 j x h) (λ_=>⟨x,hx,h0⟩);exact en tt [.g 8 true (by simp),.r 11 (eI (b:=(n:Int)) (by simp)),.x (Lx hx),.c [] (Mr (z:=x.num)),.f (decide_eq_false λh=>h0 (hn.1 h)),.i (n+1)] rfl (by rw [e]; simp [rp,frow,Jr]) (by simp [Us,By] <;> omega)
theorem Zh3 {p:List Rat} {i:Nat} (hi:i<1099511627776):Uu Tryz.prog 205 [.one (rp p),.one (.int .i64 (i:Int))] [.agg (fr (p.getD i 0))]:=by
 have By:=Ts p;by_cases h:i<p.length
 ·have e:p.getD i 0=p[i]:=by rw [Qg,Qe h]; rfl
  rw [e];exact w tt Tryz.func205 rfl [.g 7 false (decide_eq_false (by omega)),.f (decide_eq_false (by omega)),.x (Lx (Qe h))] rfl rfl trivial
 ·have e:p.getD i 0=0:=by rw [Qg,Qt (by omega)]; rfl
  rw [e];exact w tt Tryz.func205 rfl [.g 7 false (decide_eq_false (by omega)),.t (decide_eq_true (by omega)),.c [] Q7k] rfl rfl trivial
theorem Qw4:Uu Tryz.prog 140 [.one (ids [1])] [.one (rp (zp [1]))]:=by
 have cc:=Qab (p:=zp [1]);rw [Bs,show trim [1]=[1] from rfl] at cc;refine Gs Tryz.func140 rfl ?_;refine go tt [.o 3 35 4] rfl trivial ?_;refine lp (S:=Nat) 1 (λL1 i=>(7,.v (.one (.int .i64 (i:Int))))::(3,.v (.one (.orow 0 4 none)))::L1) (λi=>[.row false 35 4 (frow ((zp [1]).take i))]) (λi=>1-i) (λi=>i<=1) 0 (by decide) rfl (λ_ _=>rfl) rfl λi hi=>?_
 rcases (show i=0\/i=1 by omega) with rfl | rfl
 ·refine go tt [.t rfl,.x (l:=idl [1]) (i:=0) (xs:=[.int .i64 1]) rfl,.c [] (Qjx (n:=1) (by decide)),.s (sz:=4) (Qx7 _)] rfl (by simp [Us,frow]) ?_;exact rd 1 (by omega) (by omega) rfl
 ·exact en tt [.f rfl,.c [] cc] rfl rfl trivial
theorem Qbo {p:List Int} (hb:Bd 90000000 p) (hl:p.length<=1000000):Uu Tryz.prog 23 [pr p] [.one (rp (zp (trim p)))]:=by
 have By:(p.map Gv).length=p.length:=by simp
 have cc:=Qab (p:=zp p);rw [Bs] at cc;show Uu Tryz.prog 23 [.one (.row (p.map Gv))] _;refine Gs Tryz.func23 rfl ?_;refine go tt [.o 3 35 4] rfl trivial ?_;refine lp (S:=Nat) 1 (λL1 i=>(7,.v (.one (.int .i64 (i:Int))))::(3,.v (.one (.orow 0 4 none)))::L1) (λi=>[.row false 35 4 (frow (zp (p.take i)))]) (λi=>p.length-i) (λi=>i<=p.length) 0 (Qh _) rfl (λ_ _=>rfl) rfl λi hi=>?_
 have hol:(frow (zp (p.take i))).length=i:=by rw [Ts,Sl,Qp]; omega
 by_cases h:i<p.length
 ·obtain ⟨z,hz⟩:=gxE (l:=p) (i:=i) h;have hzb:=hb z (Qa hz);have hg:frow (zp (p.take (i+1)))=frow (zp (p.take i))++[fr (z:Rat)]:=by
   rw [Zp,hz]; simp [frow,zp]
  refine go tt [.t (decide_eq_true (by omega)),.x (Gt (f:=Gv) hz),.c [] (Qjt (z:=z) (by omega)),.c [] (C3 (n:=1) (by decide)),.c [] (Mi (n:=z)),.s (sz:=4) (Qx7 _)] rfl (by simp [Us,hol,-List.getD_eq_getElem?_getD]; omega) ?_;exact rd (i+1) (by omega) h (by rw [hg]; rfl)
 ·have e:i=p.length:=by omega
  rw [e,Qy];exact en tt [.f (decide_eq_false (by omega)),.c [] cc] rfl rfl trivial
theorem Zh2 {p:List Int} (hb:Bd 90000000 p) (hl:p.length<=1000000):Uu Tryz.prog 289 [.one (rp (zp p))] [pr p]:=by
 have By:(frow (zp p)).length=p.length:=by rw [Ts,Sl]
 show Uu Tryz.prog 289 [.one (rp (zp p))] [.one (.row (p.map Gv))];refine Gs Tryz.func289 rfl ?_;refine go tt [.o 3 51 2] rfl trivial ?_;refine lp (S:=Nat) 1 (λL1 i=>(7,.v (.one (.int .i64 (i:Int))))::(3,.v (.one (.orow 0 2 none)))::L1) (λi=>[.row false 51 2 ((p.take i).map Gv)]) (λi=>p.length-i) (λi=>i<=p.length) 0 (Qh _) rfl (λ_ _=>rfl) rfl λi hi=>?_
 have hol:((p.take i).map Gv).length=i:=by rw [Q5,Qp]; omega
 by_cases h:i<p.length
 ·obtain ⟨z,hz⟩:=gxE (l:=p) (i:=i) h;have hzb:=hb z (Qa hz);have hq:∀ c∈[Gv z],c.length=2:=λc hc=>by rw [Qk.1 hc]; rfl
  have hg:(p.take (i+1)).map Gv=(p.take i).map Gv++[Gv z]:=by
   rw [Zp,hz]; simp
  refine go tt [.t (decide_eq_true (by omega)),.x (Lx (Zc6 hz)),.c [] (Q3z (z:=z) (by omega)),.s (sz:=2) hq] rfl (by simp [Us]; omega) ?_;exact rd (i+1) (by omega) h (by rw [hg]; rfl)
 ·have e:i=p.length:=by omega
  rw [e,Qy];exact en tt [.f (decide_eq_false (by omega))] rfl rfl trivial
theorem Qwz {p q:List Rat} (hp:Rb 20000000 p) (hq:Rb 20000000 q) (hlp:p.length<=1000000) (hlq:q.length<=1000000):Uu Tryz.prog 143 [.one (rp p),.one (rp q)] [.one (rp (Q5g p q))]:=by
 have h1:=Ts p;have h2:=Ts q;obtain ⟨M,hM⟩:=nmE (max p.length q.length);have cc:=Qab (p:=O1 (λi=>p.getD i 0+q.getD i 0) M);unfold Q5g;rw [<-hM];refine Gs Tryz.func143 rfl ?_;refine go tt [.o 5 35 4] rfl trivial ?_;refine lp (S:=Nat) 1 (λL1 i=>(6,.v (.one (.int .i64 (i:Int))))::(5,.v (.one (.orow 0 4 none)))::L1) (λi=>[.row false 35 4 (frow (O1 (λi=>p.getD i 0+q.getD i 0) i))]) (λi=>M-i) (λi=>i<=M) 0 (Qh _) rfl (λ_ _=>rfl) rfl λi hi=>?_
 have hol:(frow (O1 (λi=>p.getD i 0+q.getD i 0) i)).length=i:=by rw [Ts,Qe9]
 by_cases h:i<M
 ·refine go tt [.r 12 (eI (b:=(M:Int)) (by omega)),.t (decide_eq_true (by omega)),.c [] (Zh3 (p:=p) (i:=i) (by omega)),.c [] (Zh3 (p:=q) (i:=i) (by omega)),.c [] (Q6h (hp.getD (by decide) i) (hq.getD (by decide) i)),.s (sz:=4) (Qx7 _)] rfl (by simp [Us,hol,-List.getD_eq_getElem?_getD]; omega) ?_;exact rd (i+1) (by omega) h (by rw [Qpe,Qn5]; rfl)
 ·have e:i=M:=by omega
  rw [e];exact en tt [.r 12 (eI (b:=(M:Int)) (by omega)),.f (decide_eq_false (by omega)),.c [] cc] rfl rfl trivial
theorem Az {p:List Rat} {c:Rat} (hp:Rb 40000000 p) (hc:Qs 40000000 c) (hlp:p.length<=1000000):Uu Tryz.prog 203 [.one (rp p),.agg (fr c)] [.one (rp (Mh p c))]:=by
 have h1:=Ts p;have cc:=Qab (p:=O1 (λi=>p.getD i 0*c) p.length);unfold Mh;refine Gs Tryz.func203 rfl ?_;refine go tt [.o 5 35 4] rfl trivial ?_;refine lp (S:=Nat) 2 (λL1 i=>(9,.v (.one (.int .i64 (i:Int))))::(5,.v (.one (.orow 1 4 none)))::L1) (λi=>[.blk 35 (fr c),.row false 35 4 (frow (O1 (λi=>p.getD i 0*c) i))]) (λi=>p.length-i) (λi=>i<=p.length) 0 (Qh _) rfl (λ_ _=>rfl) rfl λi hi=>?_
 have hol:(frow (O1 (λi=>p.getD i 0*c) i)).length=i:=by rw [Ts,Qe9]
 by_cases h:i<p.length
 ·have hg:p[i]? = some (p.getD i 0):=by rw [Qg,Qe h]; rfl
  refine go tt [.t (decide_eq_true (by omega)),.x (Lx hg),.c [] (Q6v (hp.getD (by decide) i) hc),.s (sz:=4) (Qx7 _)] rfl (by simp [Us,hol,-List.getD_eq_getElem?_getD]; omega) ?_;exact rd (i+1) (by omega) h (by rw [Qpe,Qn5]; rfl)
 ·have e:i=p.length:=by omega
  rw [e];exact en tt [.f (decide_eq_false (by omega)),.c [] cc] rfl rfl trivial
theorem Qw3 {p:List Rat} (hp:Rb 40000000 p) (hlp:p.length<=1000000):Uu Tryz.prog 137 [.one (rp p)] [.one (rp (Qrp p))]:=by
 have cs:=Az (p:=p) (c:=-1) hp ⟨by decide,by decide⟩ hlp;have co:=Qjx (n:=-1) (by decide);rw [show ((-1:Int):Rat)=-1 from rfl] at co;exact w tt Tryz.func137 rfl [.c [] co,.c [] cs] rfl rfl trivial
theorem Zgk {s t:Nat} {a b:Rat} (ha:Qs s a) (hb:Qs t b):Qs (s+t+1) (a*b):=by
 rw [<-Qoi];unfold G6;rw [if_neg (X9 (Ca a) (Ca b))];have h1:=Fo a.num b.num;have h2:=Fo (a.den:Int) (b.den:Int);have:=ha.1; have:=ha.2; have:=hb.1; have:=hb.2;exact Qs.divInt (by omega) (by omega) (by omega)
theorem Zbg {s:Nat} {p:List Rat} (hp:Rb s p):Rb (s+2) (Qrp p):=by
 unfold Qrp Mh;refine Rb.trim (Zhb λi hi=>?_);have h1:Qs (s+0) (p.getD i 0):=by
  have hi:i<p.length:=hi;rw [Qg,Qe hi];exact hp _ (Xx hi)
 have:=Zgk h1 (show Qs 1 (-1:Rat) from ⟨by decide,by decide⟩);exact this.mono (by omega)
theorem Qvf (p:List Rat):(Qrp p).length<=p.length:=by
 unfold Qrp Mh;exact Qc (Qo5 _) (by rw [Qe9]; exact Qm _)
theorem Qw5 {p q:List Rat} (hp:Rb 19000000 p) (hq:Rb 19000000 q) (hlp:p.length<=1000000) (hlq:q.length<=1000000):Uu Tryz.prog 144 [.one (rp p),.one (rp q)] [.one (rp (Qmd p q))] :=
 w tt Tryz.func144 rfl [.c [] (Qw3 (hq.mono (by decide)) hlq),.c [] (Qwz (hp.mono (by decide)) ((Zbg hq).mono (by decide)) hlp (Qc (Qvf q) hlq))] rfl rfl trivial
theorem Q6w {a b:Int} (ha:U6 a<=40000000) (hb:U6 b<=40000000):Uu Tryz.prog 139 [.agg (fr (a:Rat)),.agg (fr (b:Rat))] [.agg (fr ((a*b:Int):Rat))]:=by
 have h:=Q6v (Do ha (by decide)) (Do hb (by decide));rw [<-Xs] at h; exact h
theorem Zjf {a b:Int} (ha:U6 a<=20000000) (hb:U6 b<=20000000):Uu Tryz.prog 169 [.agg (fr (a:Rat)),.agg (fr (b:Rat))] [.agg (fr ((a+b:Int):Rat))]:=by
 have h:=Q6h (Do ha (by decide)) (Do hb (by decide));rw [<-Kq] at h; exact h
theorem Qtr (l:List Int) (i:Nat) (z:Int):(frow (zp l)).set i (fr (z:Rat))=frow (zp (l.set i z)):=by simp [frow,zp,V2]
theorem Zc7 {p:List Int} {i:Nat} (h:i<p.length):(zp p)[i]? = some ((p.getD i 0:Int):Rat):=Zc6 (H6 h)
theorem Tc {p:List Int} {i:Nat} (h:i<p.length):(frow (zp p))[i]? = some (fr ((p.getD i 0:Int):Rat)):=Lx (Zc7 h)
theorem fzl (p:List Int):(frow (zp p)).length=p.length:=by rw [Ts,Sl]
abbrev zR:List LV:=[.nils,.bool false,.nils,.bool false]
theorem Qqj {n i:Nat} (h:i<n):(List.replicate i (fr 0)++List.replicate (n-i) zR).set i (fr 0)=List.replicate (i+1) (fr 0)++List.replicate (n-(i+1)) zR:=by
 rw [List.set_append_right _ _ (by simp),X1,Jq,show n-i=n-(i+1)+1 by omega,J8 (n:=n-(i+1)),List.set_cons_zero,List.replicate_succ' (n:=i),Zl]; rfl
theorem Qmq (n:Nat):List.replicate n (fr 0)++List.replicate (n-n) zR=frow (zp (List.replicate n 0)):=by simp [zp,frow]
theorem Qw2 {p q:List Int} {s t:Nat} (hlp:p.length<=1000000) (hlq:q.length<=1000000) (hp:Bd s p) (hq:Bd t q) (hst:s+t<=19000000):Uu Tryz.prog 141 [.one (rp (zp p)),.one (rp (zp q))] [.one (rp (zp (Fx p q)))]:=by
 have By:=fzl p;have hql:=fzl q;rcases Qz p.length with h0 | h0
 ·have e:Fx p q=[]:=by unfold Fx; rw [if_pos (.inl h0)]
  rw [e];exact w tt Tryz.func141 rfl [.g 12 true (decide_eq_true (by omega)),.t rfl] rfl rfl trivial
 rcases Qz q.length with h1 | h1
 ·have e:Fx p q=[]:=by unfold Fx; rw [if_pos (.inr h1)]
  rw [e];exact w tt Tryz.func141 rfl [.g 12 false (decide_eq_false (by omega)),.t (decide_eq_true (by omega))] rfl rfl trivial
 have e:Fx p q=trim (Ny p q (List.replicate (p.length+q.length-1) 0) p.length):=by unfold Fx; rw [if_neg (by omega)]
 rw [e];obtain ⟨N,hN⟩:=nmE (p.length+q.length-1);rw [<-hN];obtain ⟨o,ho⟩:=nmE (List.replicate N (0:Int));rw [<-ho];have hol:o.length=N:=by rw [ho]; simp
 have ho0:∀ m,o.getD m 0=0:=λm=>by rw [ho]; exact Tz N m
 have cc:=Qab (p:=zp (Ny p q o p.length));rw [Bs] at cc;refine Gs Tryz.func141 rfl ?_;refine go tt [.g 12 false (decide_eq_false (by omega)),.f (decide_eq_false (by omega)),.r 22 (eI (b:=(N:Int)) (by omega)),.i N,.i N,.r 25 (eI (b:=(N:Int)) (by simp))] rfl (by simp [Us]; omega) ?_;refine lp (S:=Nat) 1 (λL1 i=>(26,.v (.one (.int .i64 (i:Int))))::L1) (λi=>[.row false 35 4 (List.replicate i (fr 0)++List.replicate (N-i) zR)]) (λi=>N-i) (λi=>i<=N) 0 (Qh _) rfl (λ_ _=>rfl) rfl λi hi=>?_
 by_cases hlt:i<N
 ·refine go tt [.t (decide_eq_true (by omega)),.c [] Q7k,.i i] rfl (by simp [Us]; omega) ?_;rw [Qqj hlt];exact rd (i+1) (by omega) hlt rfl
 have hiN:i=N:=by omega
 rw [hiN,Qmq,<-ho];clear hiN hlt hi;refine go tt [.f (decide_eq_false (by omega))] rfl trivial ?_;refine lp (S:=Nat) 1 (λL1 i=>(36,.v (.one (.int .i64 (i:Int))))::L1) (λi=>[.row false 35 4 (frow (zp (Ny p q o i)))]) (λi=>p.length-i) (λi=>i<=p.length) 0 (Qh _) rfl (λ_ _=>rfl) rfl λi hi=>?_
 by_cases hlt:i<p.length
 ·refine go tt [.t (decide_eq_true (by omega))] rfl trivial ?_;refine lp (S:=Nat) 1 (λL1 k=>(41,.v (.one (.int .i64 (k:Int))))::L1) (λk=>[.row false 35 4 (frow (zp (Ia (p.getD i 0) q i (Ny p q o i) k)))]) (λk=>q.length-k) (λk=>k<=q.length) 0 (Qh _) rfl (λ_ _=>rfl) rfl λk hk=>?_
  by_cases hk2:k<q.length
  ·have hm1:U6 ((Ia (p.getD i 0) q i (Ny p q o i) k).getD (i+k) 0)<=20000000:=Qc (Aj (t:=39) (Qq2 (by rw [Nz]; omega) (Qq1 (λj hj=>by omega) ho0 (λi j=>Mm (U9 hp i) (U9 hq j))) (λj=>Mm (U9 hp i) (U9 hq j)) (i+k)) (Ku (show i+1<549755813888 by omega) (by decide))) (by omega);have hm2:U6 (p.getD i 0*q.getD k 0)<=20000000:=Qc (Fo _ _) (by have:=U9 hp i; have:=U9 hq k; omega);have hml:(Ia (p.getD i 0) q i (Ny p q o i) k).length=N:=by rw [Ib,Nz,hol]
   have cm:=Q6w (a:=p.getD i 0) (b:=q.getD k 0) (Qc (U9 hp i) (by omega)) (Qc (U9 hq k) (by omega));have hfl:=fzl (Ia (p.getD i 0) q i (Ny p q o i) k);refine go tt [.t (decide_eq_true (by omega)),.i (i+k),.x (Tc (p:=Ia (p.getD i 0) q i (Ny p q o i) k) (i:=i+k) (by omega)),.x (Tc hlt),.x (Tc hk2),.c [] cm,.c [] (Zjf hm1 hm2),.i (i+k)] rfl (by simp [Us,hfl,-List.getD_eq_getElem?_getD] <;> omega) ?_;rw [Qtr];exact rd (k+1) (by omega) hk2 rfl
  ·obtain rfl:k=q.length:=by omega
   exact go tt [.f (decide_eq_false (by omega))] rfl (by simp [Us]; omega) (rd (i+1) (by omega) hlt rfl)
 ·obtain rfl:i=p.length:=by omega
  exact en tt [.f (decide_eq_false (by omega)),.c [] cc] rfl rfl trivial
def Qtk (p:List Int) (n:Nat):List Int:=(List.range n).map λk=>p.getD (k+1) 0*((k+1:Nat):Int)
theorem Q8u (p:List Int) (n:Nat):(Qtk p n).length=n:=by simp [Qtk]
theorem Q4m (p:List Int) (n:Nat):Qtk p (n+1)=Qtk p n++[p.getD (n+1) 0*((n+1:Nat):Int)]:=by simp [Qtk,Wj]
theorem Qsg (p:List Int) (z:Int):frow (zp (p++[z]))=frow (zp p)++[fr (z:Rat)]:=by simp [frow,zp]
theorem Qw0 {p:List Int} (hp:Bd 40000000 p) (hl:p.length<=1000000):Uu Tryz.prog 71 [.one (rp (zp p))] [.one (rp (zp (Gg p)))]:=by
 have By:=fzl p;have cc:=Qab (p:=zp (Qtk p (p.length-1)));rw [Bs] at cc;refine Gs Tryz.func71 rfl ?_;refine go tt [.o 3 35 4] rfl trivial ?_;refine lp (S:=Nat) 1 (λL1 j=>(4,.v (.one (.int .i64 ((j+1:Nat):Int))))::(3,.v (.one (.orow 0 4 none)))::L1) (λj=>[.row false 35 4 (frow (zp (Qtk p j)))]) (λj=>p.length-j) (λj=>j<=p.length-1) 0 (Qh _) rfl (λ_ _=>rfl) rfl λj hj=>?_
 have hfl:=fzl (Qtk p j);rw [Q8u] at hfl;by_cases h:j+1<p.length
 ·have hk:U6 ((j+1:Nat):Int)<=40000000:=Qc (Qqs (t:=38) (k:=j+1) (Ku (show j+1<274877906944 by omega) (by decide))) (by decide);refine go tt [.t (decide_eq_true (by omega)),.x (Tc h),.c [] (Qjx (n:=((j+1:Nat):Int)) (by omega)),.c [] (Q6w (U9 hp (j+1)) hk),.s (sz:=4) (Qx7 _)] rfl (by simp [Us,hfl,-List.getD_eq_getElem?_getD] <;> omega) ?_;exact rd (j+1) (by omega) (by omega) (by rw [Q4m,Qsg]; rfl)
 ·have e:j=p.length-1:=by omega
  rw [e];exact en tt [.f (decide_eq_false (by omega)),.c [] cc] rfl rfl trivial
theorem Zkb (z:Int):fr (z:Rat)=[nd z.natAbs,sg z,.row [[.int .i64 1]],.bool false]:=by
 have e:Fl 1=[1]:=by rw [I6 (by decide),show 1 / 10000=0 from rfl,Hb]
 show [nd z.natAbs,sg z,nd 1,sg 1]=_;unfold nd dl;rw [e]; rfl
theorem Q7v {p:List Int} (hl:p.length<=1000000):Uu Tryz.prog 165 [.one (rp (zp p))] [.one (.bool true)]:=by
 have By:=fzl p;refine Gs Tryz.func165 rfl ?_;refine go tt [] rfl trivial ?_;refine lp (S:=Nat) 0 (λL1 i=>(6,.v (.one (.int .i64 (i:Int))))::L1) (λ_=>[]) (λi=>p.length-i) (λi=>i<=p.length) 0 (Qh _) rfl (λ_ _=>rfl) rfl λi hi=>?_
 by_cases h:i<p.length
 ·have hg:=Tc h;rw [Zkb] at hg;refine go tt [.t (decide_eq_true (by omega)),.x hg,.g 17 false rfl,.x hg,.x (l:=[[.int .i64 1]]) (i:=0) (xs:=[.int .i64 1]) rfl,.f rfl] rfl (by simp [Us]; omega) ?_;exact rd (i+1) (by omega) h rfl
 ·exact en tt [.f (decide_eq_false (by omega))] rfl rfl trivial
theorem Q2u:[LV.nils,LV.bool false].map Qib=ri 0:=by
 show _=[nd 0,sg 0];unfold nd dl;rw [Hb]; rfl
theorem Qyi (p:List Int) (q:Rat):Int.sign (Mb p q.num q.den p.length).1=G8 p q:=by
 unfold G8 Zgi No;generalize (Mb p q.num q.den p.length).1=z;rcases J1 z 0 with h | h | h
 ·rw [if_pos h,Xw h]
 ·subst h; rfl
 ·rw [if_neg (by omega),if_pos h,X4 h]
theorem Q0j {p:List Int} {q:Rat} (hp:Bd 30000000 p) (hl:p.length<=64) (hq:Qs 1000000 q):Uu Tryz.prog 94 [.one (rp (zp p)),.agg (fr q)] [.one (.int .i64 (G8 p q))]:=by
 have By:=fzl p;refine Gs Tryz.func94 rfl ?_;refine go tt [.c [] (Q7v (p:=p) (by omega)),.f rfl,.c [] (C3 (n:=1) (by decide)),.r 19 (eI (b:=(p.length:Int)-1-((0:Nat):Int)) (by simp; omega))] rfl (by simp [Us]; omega) ?_;refine nlb 1 rfl rfl rfl ?_;rw [Q2u];refine lp (S:=Nat) 3 (λL1 j=>(7,.v (.one (.int .i64 ((p.length:Int)-1-(j:Int)))))::L1) (λj=>[.blk 35 (fr q),.blk 33 (ri (Mb p q.num q.den j).1),.blk 33 (ri (Mb p q.num q.den j).2)]) (λj=>p.length-j) (λj=>j<=p.length) 0 (Qh _) rfl (λ_ _=>rfl) rfl λj hj=>?_
 have hv:=Qr9 (k:=j) hp hq.1 hq.2;have hjl:j*(1000000+1)<=p.length*(1000000+1):=Q0 _ (by omega);by_cases h:j<p.length
 ·have hc:=U9 hp (p.length-1-j);have hq1:=hq.1;have hq2:=hq.2;have hm1:U6 ((Mb p q.num q.den j).1*q.num)<=200000000:=Qc (Fo _ _) (by omega);have hm2:U6 (p.getD (p.length-1-j) 0*(Mb p q.num q.den j).2)<=200000000:=Qc (Fo _ _) (by omega);refine go tt [.t (decide_eq_true (by omega)),.c [] (S9 (a:=(Mb p q.num q.den j).1) (b:=q.num) (by omega) (by omega)),.r 29 (eI (b:=((p.length-1-j:Nat):Int)) (by omega)),.x (Tc (p:=p) (i:=p.length-1-j) (by omega)),.c [] (S9 (a:=p.getD (p.length-1-j) 0) (b:=(Mb p q.num q.den j).2) (by omega) (by omega)),.c [] (Qwu hm1 hm2),.c [] (S9 (a:=(Mb p q.num q.den j).2) (b:=(q.den:Int)) (by omega) (by omega)),.r 23 (eI (b:=(p.length:Int)-1-((j+1:Nat):Int)) (by omega))] rfl (by simp [Us] <;> omega) ?_;exact rd (j+1) (by omega) h rfl
 ·obtain rfl:j=p.length:=by omega
  exact en tt [.f (decide_eq_false (by omega)),.c [] Q0c] rfl (by rw [Qyi]) trivial
end Orr
namespace Orr
def Ge (p:List Int):Int:=p.getD (p.length-1) 0
def Qbd (a b:List Int):Int:=if Ge b<0 then -(Ge a) else Ge a
def An (a b:List Int) (i:Nat):Int:=a.getD i 0*((Ge b).natAbs:Int)-(if a.length-b.length<=i then Qbd a b*b.getD (i-(a.length-b.length)) 0 else 0)
def Qo3 (a b:List Int):List Int:=Mf a.length (An a b)
inductive RRun (b:List Int):Nat->List Int->List Int->Prop
 | stop {a:List Int}:a.length<b.length->RRun b 0 a a
 | step {k:Nat} {a r:List Int}:b.length<=a.length->a.length<=1000->Bd 9000000 a->Bd 9000000 b->RRun b k (Qo3 a b) r->RRun b (k+1) a r
def A1 (p:List Int):Nat->Nat
 | 0=>0
 | i+1=>Int.gcd (A1 p i:Nat) (p.getD i 0)
def Qcf (p:List Int):Nat:=A1 p p.length
theorem Qfz (p:List Int):∀ {i j:Nat},j<i->((A1 p i:Nat):Int)∣p.getD j 0
 | 0,_,h=>absurd h (Up _)
 |
  i+1,j,h=>by
  simp only [A1];rcases Za j i with h1 | h1
  ·exact Vk (Ud ..) (Qfz p h1)
  ·rw [show j=i by omega]; exact Vw ..
theorem Qs5 (p:List Int) (j:Nat):((Qcf p:Nat):Int)∣p.getD j 0:=by
 rcases Za j p.length with h | h
 ·exact Qfz p h
 ·rw [Qg,Qt h]; exact Int.dvd_zero _
theorem Qad {s:Nat} {p:List Int} (h:Bd s p):∀ i,U6 ((A1 p i:Nat):Int)<=s
 | 0=>by simp [A1,Mk]
 |
  i+1=>by
  simp only [A1];by_cases h0:p.getD i 0=0
  ·rw [h0,Int.gcd_zero_right]; exact Qad h i
  ·have h1:=Vw (A1 p i:Nat) (p.getD i 0);have h2:(Int.gcd (A1 p i:Nat) (p.getD i 0))<=(p.getD i 0).natAbs:=Kh (by omega) (by simpa using Xp.2 h1);have h3:=U9 h i;rw [T0] at h3 ⊢;simp only [Z9];omega
theorem Q4b {p:List Int} {j i:Nat} (hj:j<i) (h:p.getD j 0≠0):0<A1 p i:=by
 have:=Qfz p hj;rcases Qz (A1 p i) with h0 | h0
 ·rw [h0] at this;exact absurd (Int.zero_dvd.1 this) h
 ·exact h0
theorem Qs6 {p:List Int} (ht:U0 p) (h:0<p.length):0<Qcf p:=Q4b (j:=p.length-1) (by omega) (Hi ht h)
def Nc (p:List Int):Int:=if Ge p<0 then -((Qcf p:Nat):Int) else ((Qcf p:Nat):Int)
def Rh (p:List Int):List Int:=Mf p.length λi=>p.getD i 0 / Nc p
def Mg (p:List Int):List Int:=if Ge p<0 then Pg (Rh p) else Rh p
theorem Q4o (p:List Int) (j:Nat):Nc p∣p.getD j 0:=by
 unfold Nc
 split
 ·exact Uq.2 (Qs5 p j)
 ·exact Qs5 p j
theorem Q84 {p:List Int} (ht:U0 p) (h:0<p.length):Nc p≠0:=by
 have:=Qs6 ht h;unfold Nc
 split <;> omega
theorem Qnu {s:Nat} {p:List Int} (h:Bd s p):U6 (Nc p)<=s:=by
 unfold Nc
 split
 ·rw [Hl]; exact Qad h _
 ·exact Qad h _
theorem Qyy {p:List Int} {c:Int} (hc:c≠0) (hd:∀ j,c∣p.getD j 0):Mh (zp p) (1 / (c:Rat))=zp (Mf p.length λi=>p.getD i 0 / c):=by
 unfold Mh Mf;rw [Qje (g:=λi=>p.getD i 0 / c) _ λi _=>?_,Bs,Sl];obtain ⟨k,hk⟩:=hd i;have hc':(c:Rat)≠0:=λe=>hc (by exact_mod_cast e)
 rw [Qfl,hk,Xl _ hc,Xs];grind
theorem Qjo {s:Nat} {p:List Int} (h:Bd s p):Bd s (Rh p):=Qbm λi _=>Qc (Qau _ _) (U9 h i)
theorem Qgm (p:List Int):(Rh p).length<=p.length:=A4 _ _
theorem Q3m {s:Nat} {p:List Int} (h:Bd s p):Bd s (Mg p):=by
 unfold Mg
 split
 ·exact Qbn (Qjo h)
 ·exact Qjo h
theorem Qxu (p:List Int):(Mg p).length<=p.length:=by
 unfold Mg
 split
 ·exact Qc (L6 _) (Qgm p)
 ·exact Qgm p
inductive GRun:Nat->List Int->List Int->List Int->Prop
 | stop (a:List Int):GRun 0 a [] a
 | step {k m:Nat} {a b r g:List Int}:0<b.length->b.length<=1000->Bd 9000000 b->RRun b m a r->r.length<=1000->Bd 9000000 r->U0 r->GRun k b (Rh r) g->GRun (k+1) a b g
theorem GRun.inv {k:Nat} {a b g:List Int} (h:GRun k a b g):(k=0/\b.length=0/\a=g)\/∃ j m r,k=j+1/\0<b.length/\b.length<=1000/\Bd 9000000 b/\RRun b m a r/\r.length<=1000/\Bd 9000000 r/\U0 r/\GRun j b (Rh r) g:=by
 cases h with
 | stop=>exact .inl ⟨rfl,rfl,rfl⟩
 | step h1 h2 h3 h4 h5 h6 h7 h8=>exact .inr ⟨_,_,_,rfl,h1,h2,h3,h4,h5,h6,h7,h8⟩
def Eg (k:Nat) (p:List Int):List Int:=List.replicate k 0++p
theorem Qy3 (k:Nat) (p:List Int):(Eg k p).length=k+p.length:=by simp [Eg]
theorem Q3n {s k:Nat} {p:List Int} (h:Bd s p):Bd s (Eg k p):=λz hz=>by
 rcases Qu.1 hz with h1 | h1
 ·rw [Zv h1,Mk]; exact Qh _
 ·exact h z h1
inductive DRun (b:List Int):Nat->List Int->List Int->List Int->List Int->Prop
 | stop {a q:List Int}:a.length<b.length->DRun b 0 a q q a
 | step {k:Nat} {a q qf r:List Int}:b.length<=a.length->a.length<=1000->Bd 9000000 a->Ge b≠0->Ge b∣Ge a->a.length-b.length<q.length ->
  DRun b k (Px a (Eg (a.length-b.length) (Fg b (Ge a / Ge b)))) (q.set (a.length-b.length) (Ge a / Ge b)) qf r->DRun b (k+1) a q qf r
theorem DRun.inv {b a q qf r:List Int} {k:Nat} (h:DRun b k a q qf r):(k=0/\q=qf/\a=r/\a.length<b.length)\/∃ j,k=j+1/\b.length<=a.length/\a.length<=1000/\Bd 9000000 a/\Ge b≠0/\Ge b∣Ge a/\a.length-b.length<q.length /\
 DRun b j (Px a (Eg (a.length-b.length) (Fg b (Ge a / Ge b)))) (q.set (a.length-b.length) (Ge a / Ge b)) qf r:=by
 cases h with
 | stop h=>exact .inl ⟨rfl,rfl,rfl,h⟩
 | step h1 h2 h3 h4 h5 h6 h7=>exact .inr ⟨_,rfl,h1,h2,h3,h4,h5,h6,h7⟩
def Md (l:List (List Int)):List Int:=l.getD (l.length-1) []
inductive LRun:Nat->List (List Int)->List (List Int)->Prop
 | stop {l:List (List Int)}:(Md l).length<=1->LRun 0 l l
 | step {k m:Nat} {l f:List (List Int)} {g:List Int}:1<(Md l).length->(Md l).length<=1000->U0 (Md l)->Bd 9000000 (Md l)->Bd 9000000 (Gg (Md l))->GRun m (Rh (Md l)) (Rh (Gg (Md l))) g->l.length<=1000->LRun k (l++[g]) f->LRun (k+1) l f
theorem LRun.inv {k:Nat} {l f:List (List Int)} (h:LRun k l f):(k=0/\l=f/\(Md l).length<=1)\/∃ j m g,k=j+1/\1<(Md l).length/\(Md l).length<=1000/\U0 (Md l)/\Bd 9000000 (Md l)/\Bd 9000000 (Gg (Md l))/\GRun m (Rh (Md l)) (Rh (Gg (Md l))) g/\l.length<=1000/\LRun j (l++[g]) f:=by
 cases h with
 | stop h=>exact .inl ⟨rfl,rfl,h⟩
 | step h1 h2 h3 h4 h5 h6 h7 h8=>exact .inr ⟨_,_,_,rfl,h1,h2,h3,h4,h5,h6,h7,h8⟩
def DOk (a b q:List Int):Prop:=0<b.length/\b.length<=1000/\a.length<=1000/\Bd 9000000 b/\∃ qf r n,Bd 9000000 qf/\qf.length<=1000/\DRun b n a (List.replicate (a.length+1-b.length) 0) qf r/\q=trim qf
theorem DOk.bd {a b q:List Int} (h:DOk a b q):Bd 9000000 q:=by
 obtain ⟨_,_,_,_,qf,r,n,h1,_,_,rfl⟩:=h;exact Tl h1
theorem DOk.len {a b q:List Int} (h:DOk a b q):q.length<=1000:=by
 obtain ⟨_,_,_,_,qf,r,n,_,h1,_,rfl⟩:=h;exact Qc (Hu _) h1
theorem DOk.trim {a b q:List Int} (h:DOk a b q):U0 q:=by
 obtain ⟨_,_,_,_,qf,r,n,_,_,_,rfl⟩:=h;exact Rf _
def Zmd (a b c f:List Int):Prop:=∃ x y z,DOk a b x/\DOk b c y/\DOk (Rh x) (Rh y) z/\f=Rh z
structure FRun (a:List Int) (m:Nat) (f:Nat->List Int):Prop where
 run:∃ n l,LRun n [Rh a] l/\l.length=m+1/\∀ k,k<m->Zmd ((l++[[1]]).getD k []) ((l++[[1]]).getD (k+1) []) ((l++[[1]]).getD (k+2) []) (f k)
 small:m<=1000
def Qmm (f:Nat->List Int) (n:Nat):List (List Int):=(List.range n).map f
theorem Qvr (f:Nat->List Int) (n:Nat):(Qmm f n).length=n:=by simp [Qmm]
theorem Q5p (f:Nat->List Int) (n:Nat):Qmm f (n+1)=Qmm f n++[f n]:=by simp [Qmm,Wj]
theorem Zcm {f:Nat->List Int} {n i:Nat} (h:i<n):(Qmm f n)[i]? = some (f i):=by simp [Qmm,Xu h]
theorem Qxo {l:List (List Int)} {i:Nat} (h:i<l.length):l[i]? = some (l.getD i []):=by
 rw [Qg,Qe h]; rfl
def Ij (f:Nat->List Int):Nat->List Int
 | 0=>[1]
 | i+1=>Fx (Ij f i) (f i)
def Zmc (m:Nat) (f:Nat->List Int):Prop:=∀ i,i<m->Bd 9000000 (Ij f i)/\(Ij f i).length<=1000/\Bd 9000000 (f i)/\(f i).length<=1000
inductive CRun:Nat->List (List Int)->List Int->List (List Int)->Prop
 | stop {l:List (List Int)} {g:List Int}:g.length=0->CRun 0 l g l
 | step {k m:Nat} {l f:List (List Int)} {g r:List Int}:0<g.length->g.length<=1000->Bd 9000000 g->RRun g m (Md l) r->U0 r->Bd 9000000 r->r.length<=1000->0<l.length->l.length<=1000->CRun k (l++[g]) (Pg (Mg r)) f->CRun (k+1) l g f
theorem CRun.inv {k:Nat} {l f:List (List Int)} {g:List Int} (h:CRun k l g f):(k=0/\l=f/\g.length=0)\/∃ j m r,k=j+1/\0<g.length/\g.length<=1000/\Bd 9000000 g/\RRun g m (Md l) r/\U0 r/\Bd 9000000 r/\r.length<=1000/\0<l.length/\l.length<=1000/\CRun j (l++[g]) (Pg (Mg r)) f:=by
 cases h with
 | stop h=>exact .inl ⟨rfl,rfl,h⟩
 | step h1 h2 h3 h4 h5 h6 h7 h8 h9 h10=>exact .inr ⟨_,_,_,rfl,h1,h2,h3,h4,h5,h6,h7,h8,h9,h10⟩
structure ChRun (a:List Int) (sq:List Int) (c:List (List Int)):Prop where
 fac:∃ m f,FRun a m f/\Zmc m f/\sq=Ij f m
 Lp:∃ n,CRun n [sq] (Mg (Gg sq)) c
 bd:Bd 8000000 sq
 len:sq.length<=1000
 small:c.length<=1000
def Qzl (q:Rat) (c:List (List Int)):Prop:=∃ sq,ChRun [-q.num,(q.den:Int)] sq c
end Orr
namespace Orr
open Go Go.Proofs
set_option maxRecDepth 10000
theorem RRun.inv {b a r:List Int} {k:Nat} (h:RRun b k a r):(k=0/\a=r/\a.length<b.length)\/(∃ j,k=j+1/\b.length<=a.length/\a.length<=1000/\Bd 9000000 a/\Bd 9000000 b/\RRun b j (Qo3 a b) r):=by
 cases h with
 | stop h=>exact .inl ⟨rfl,rfl,h⟩
 | step h1 h2 h3 h4 h5=>exact .inr ⟨_,rfl,h1,h2,h3,h4,h5⟩
theorem Zgs {a b:List Int} (ha:Bd 9000000 a):U6 (Qbd a b)<=9000000:=by
 unfold Qbd; split
 ·rw [Hl]; exact U9 ha _
 ·exact U9 ha _
theorem Zgo (n:Nat):ri (n:Int)=[nd n,.bool false]:=by
 show [nd n,sg (n:Int)]=_;unfold sg;rw [decide_eq_false (by omega)]
def Qrs (a b:List Int) (n:Nat):List Int:=(List.range n).map (An a b)
theorem Zbu (a b:List Int) (n:Nat):(Qrs a b n).length=n:=by simp [Qrs]
theorem Qo4 (a b:List Int) (n:Nat):Qrs a b (n+1)=Qrs a b n++[An a b n]:=by simp [Qrs,Wj]
theorem Q0l {a0 b res:List Int} {n:Nat} (hb0:0<b.length) (hb1:b.length<=1000) (hbb0:Bd 9000000 b) (hrun:RRun b n a0 res):Uu Tryz.prog 138 [.one (rp (zp a0)),.one (rp (zp b))] [.one (rp (zp res))]:=by
 have hbl:=fzl b;have hle:U6 (((Ge b).natAbs:Nat):Int)<=9000000:=U9 hbb0 _;refine Gs Tryz.func138 rfl ?_;refine go tt [.r 15 (eI (b:=((b.length-1:Nat):Int)) (by omega)),.x (Tc (p:=b) (i:=b.length-1) (by omega))] rfl (by simp [Us]; omega) ?_;refine sb [(0,.v (.one (rp (zp a0)))),(1,.v (.one (rp (zp b)))),(5,.v (.one (.ow 0 0))),(6,.v (.one (.ow 1 0)))] [.blk 33 (ri (Ge b)),.blk 33 [nd (Ge b).natAbs,.bool false]] rfl rfl ?_;refine lp (S:=Nat×List Int) 2 (λL1 s=>(0,.v (.one (rp (zp s.2))))::L1) (λ_=>[.blk 33 (ri (Ge b)),.blk 33 [nd (Ge b).natAbs,.bool false]]) (λs=>s.1) (λs=>RRun b s.1 s.2 res) (n,a0) hrun rfl (λ_ _=>rfl) rfl λ⟨k,a⟩ hs=>?_
 have hal:=fzl a;have hs:RRun b k a res:=hs;rcases RRun.inv hs with ⟨rfl,rfl,h1⟩ | ⟨j,rfl,h1,h2,ha,hb,hr⟩
 ·exact en tt [.f (decide_eq_false (by dsimp only; omega))] rfl rfl trivial
 obtain ⟨K,hK⟩:=nmE (a.length-b.length);have htb:=Zgs (b:=b) ha;have cc:=Qab (p:=zp (Qrs a b a.length));rw [Bs,show trim (Qrs a b a.length)=Qo3 a b from rfl] at cc;refine go tt [.t (decide_eq_true (by dsimp only; omega)),.r 30 (eI (b:=(K:Int)) (by dsimp only; omega)),.r 34 (eI (b:=((a.length-1:Nat):Int)) (by dsimp only; omega)),.x (Tc (p:=a) (i:=a.length-1) (by omega))] rfl (by simp [Us]; omega) ?_;refine ct 1 (S:=Unit) (λ_=>[(0,.v (.one (rp (zp a)))),(1,.v (.one (rp (zp b)))),(5,.v (.one (.ow 0 0))),(6,.v (.one (.ow 1 0))),(7,.v (.one (.int .i64 (K:Int)))),(8,.v (.one (.ow 2 0)))]) (λ_=>[.blk 33 (ri (Ge b)),.blk 33 [nd (Ge b).natAbs,.bool false],.blk 33 (ri (Qbd a b))]) (λ_=>True) rfl ?_ (λ_ _=>?_)
 ·by_cases hn:Ge b<0
  ·have e:Qbd a b=-(Ge a):=if_pos hn;rw [e];exact go tt [.t (decide_eq_true hn),.c [] (I0 (z:=Ge a))] rfl trivial (rc () trivial rfl)
  ·have e:Qbd a b=Ge a:=if_neg hn;rw [e];exact go tt [.f (decide_eq_false hn)] rfl trivial (rc () trivial rfl)
 refine go tt [.o 9 35 4] rfl trivial ?_;refine lp (S:=Nat) 4 (λL1 i=>(44,.v (.one (.int .i64 (i:Int))))::(9,.v (.one (.orow 3 4 none)))::L1) (λi=>[.blk 33 (ri (Ge b)),.blk 33 [nd (Ge b).natAbs,.bool false],.blk 33 (ri (Qbd a b)),.row false 35 4 (frow (zp (Qrs a b i)))]) (λi=>a.length-i) (λi=>i<=a.length) 0 (Qh _) rfl (λ_ _=>rfl) rfl λi hi=>?_
 have hfl:=fzl (Qrs a b i);rw [Zbu] at hfl;by_cases h:i<a.length
 ·have cm:=S9 (a:=a.getD i 0) (b:=(((Ge b).natAbs:Nat):Int)) (Qc (U9 ha i) (by decide)) (by omega);have hm:=Fo (a.getD i 0) (((Ge b).natAbs:Nat):Int);have hai:=U9 ha i;rw [Zgo (Ge b).natAbs] at cm;by_cases hk:K<=i
  ·have hbi:=U9 hb (i-K);have hm2:=Fo (Qbd a b) (b.getD (i-K) 0);have e:An a b i=a.getD i 0*(((Ge b).natAbs:Nat):Int)-Qbd a b*b.getD (i-K) 0:=by unfold An; rw [if_pos (by omega),hK]
   refine go tt [.t (decide_eq_true (by omega)),.x (Tc h),.c [] cm,.t (decide_eq_true (by omega)),.r 62 (eI (b:=((i-K:Nat):Int)) (by omega)),.x (Tc (p:=b) (i:=i-K) (by omega)),.c [] (S9 (a:=Qbd a b) (b:=b.getD (i-K) 0) (by omega) (by omega)),.c [] (Q7l (by omega) (by omega)),.c [] (C3 (n:=1) (by decide)),.c [] (Mi (n:=a.getD i 0*(((Ge b).natAbs:Nat):Int)-Qbd a b*b.getD (i-K) 0)),.s (sz:=4) (Qx7 _)] rfl (by simp [Us,hfl,-List.getD_eq_getElem?_getD] <;> omega) ?_;exact rd (i+1) (by omega) h (by rw [Qo4,Qsg,e]; rfl)
  ·have e:An a b i=a.getD i 0*(((Ge b).natAbs:Nat):Int):=by unfold An; rw [if_neg (by omega),Int.sub_zero]
   refine go tt [.t (decide_eq_true (by omega)),.x (Tc h),.c [] cm,.f (decide_eq_false (by omega)),.c [] (C3 (n:=1) (by decide)),.c [] (Mi (n:=a.getD i 0*(((Ge b).natAbs:Nat):Int))),.s (sz:=4) (Qx7 _)] rfl (by simp [Us,hfl,-List.getD_eq_getElem?_getD] <;> omega) ?_;exact rd (i+1) (by omega) h (by rw [Qo4,Qsg,e]; rfl)
 ·have e:i=a.length:=by omega
  rw [e];exact go tt [.f (decide_eq_false (by omega)),.c [] cc] rfl trivial (rd (j,Qo3 a b) (by omega) hr rfl)
theorem Zjs:Uu Tryz.prog 55 [.agg (ri 1),.agg (ri 1)] [.agg (ri 1)]:=S9 (a:=1) (b:=1) (by decide) (by decide)
theorem Zed:Uu Tryz.prog 133 [.agg (ri 1),.agg (ri 1)] [.agg (ri 1)]:=Qj1 (a:=1) (b:=1) (by decide) (by decide)
theorem Zd0 {z:Int} (hz:U6 z<=90000000):Uu Tryz.prog 55 [.agg (ri z),.agg (ri 1)] [.agg (ri z)]:=by
 have h:=S9 (a:=z) (b:=1) (by omega) (by decide);rwa [Wx] at h
theorem Qz3 {z:Int} (hz:U6 z<=90000000):Uu Tryz.prog 134 [.agg (ri z),.agg (ri 1)] [.agg (ri z)]:=by
 have h:=Qfw (a:=z) (b:=1) hz (by decide) (by decide) (Int.emod_one z);rwa [Wd] at h
theorem Q6x {z:Int}:Uu Tryz.prog 67 [.agg (fr (z:Rat))] [.agg (fr ((-z:Int):Rat))]:=by
 have h:=Zjm (a:=(z:Rat));rwa [<-Vr] at h
theorem Zk4 {c:Int} (hc:c≠0) (hs:U6 c<=9000000):Qs 40000000 (((1:Int):Rat) / (c:Rat)):=by
 have h0:(c:Rat)≠0:=λe=>hc (by exact_mod_cast e)
 rw [<-Qou h0];unfold G6;rw [if_neg (X9 (Ca _) (λe=>hc (by simpa using e)))];refine Qs.divInt (by show U6 (1*1)<=_; decide) ?_ (by decide);show U6 (1*c)<=_;rw [Vb]; omega
theorem Qwr {p:List Int} {c:Int} (hc:c≠0) (hs:U6 c<=9000000) (hd:∀ j,c∣p.getD j 0) (hp:Bd 9000000 p) (hl:p.length<=1000):Uu Tryz.prog 203 [.one (rp (zp p)),.agg (fr (((1:Int):Rat) / (c:Rat)))] [.one (rp (zp (Mf p.length λi=>p.getD i 0 / c)))]:=by
 have h:=Az ((Ox hp (by omega)).mono (by omega)) (Zk4 hc hs) (by rw [Sl]; omega);rwa [show ((1:Int):Rat)=1 from rfl,Qyy hc hd] at h
theorem I2 {p:List Int} (tp:U0 p) (hp:Bd 9000000 p) (hl:p.length<=1000):Uu Tryz.prog 147 [.one (rp (zp p))] [.agg (fr ((Nc p:Int):Rat)),.one (rp (zp (Rh p)))]:=by
 have By:=fzl p;rcases Qz p.length with h0 | h0
 ·have e:=Qi h0;subst e;exact w tt Tryz.func147 rfl [.t rfl,.c [] Q7k] rfl rfl trivial
 have hc:=Q84 tp h0;refine Gs Tryz.func147 rfl ?_;refine go tt [.f (decide_eq_false (by omega)),.c [] (C3 (n:=1) (by decide))] rfl trivial ?_;refine lp (S:=Nat) 2 (λL1 i=>(16,.v (.one (.int .i64 (i:Int))))::L1) (λi=>[.blk 35 [.nils,.bool false,.nils,.bool false],.blk 33 (ri 1)]) (λi=>p.length-i) (λi=>i<=p.length) 0 (Qh _) rfl (λ_ _=>rfl) rfl λi hi=>?_
 by_cases h:i<p.length
 ·refine go tt [.t (decide_eq_true (by omega)),.x (Tc h),.c [] Zjs,.x (Tc h),.c [] Zed,.c [] (Qz3 (z:=1) (by decide))] rfl (by simp [Us]; omega) ?_;exact rd (i+1) (by omega) h rfl
 refine go tt [.f (decide_eq_false (by omega))] rfl trivial ?_;clear h hi;refine nlb 2 rfl rfl rfl ?_;rw [Q2u];refine lp (S:=Nat) 3 (λL1 i=>(37,.v (.one (.int .i64 (i:Int))))::L1) (λi=>[.blk 35 [.nils,.bool false,.nils,.bool false],.blk 33 (ri 1),.blk 33 (ri ((A1 p i:Nat):Int))]) (λi=>p.length-i) (λi=>i<=p.length) 0 (Qh _) rfl (λ_ _=>rfl) rfl λi hi=>?_
 by_cases h:i<p.length
 ·have hb:=U9 hp i;have hg:=Qad hp i;refine go tt [.t (decide_eq_true (by omega)),.x (Tc h),.c [] (Zd0 (z:=p.getD i 0) (by omega)),.x (Tc h),.c [] (Qz3 (z:=p.getD i 0) (by omega)),.c [] (Qj1 (a:=((A1 p i:Nat):Int)) (b:=p.getD i 0) (by omega) (by omega))] rfl (by simp [Us]; omega) ?_;exact rd (i+1) (by omega) h rfl
 have e:i=p.length:=by omega
 rw [e];have co:=Qjx (n:=1) (by decide);have cs:=Qwr hc (Qnu hp) (Q4o p) hp hl;by_cases hn:Ge p<0
 ·have e2:Nc p=-((Qcf p:Nat):Int):=if_pos hn;rw [show (λi=>p.getD i 0 / Nc p)=λi=>p.getD i 0 / Nc p from rfl] at cs;have cn:=Q6x (z:=((Qcf p:Nat):Int));rw [<-e2] at cn;exact en tt [.f (decide_eq_false (by omega)),.c [] (Mi (n:=((Qcf p:Nat):Int))),.r 62 (eI (b:=((p.length-1:Nat):Int)) (by omega)),.x (Tc (p:=p) (i:=p.length-1) (by omega)),.t (decide_eq_true hn),.c [] cn,.c [] co,.c [] (Qwq (a:=((1:Int):Rat)) (b:=((Nc p:Int):Rat)) ⟨by decide,by decide⟩ (Do (by have:=Qnu hp; omega) (by decide)) (λe=>hc (by exact_mod_cast e))),.c [] cs] rfl rfl (by simp [Us]; omega)
 ·have e2:Nc p=((Qcf p:Nat):Int):=if_neg hn;have cm:=Mi (n:=Nc p);rw [e2] at cm cs hc ⊢;exact en tt [.f (decide_eq_false (by omega)),.c [] cm,.r 62 (eI (b:=((p.length-1:Nat):Int)) (by omega)),.x (Tc (p:=p) (i:=p.length-1) (by omega)),.f (decide_eq_false hn),.c [] co,.c [] (Qwq (a:=((1:Int):Rat)) (b:=((((Qcf p:Nat):Int):Int):Rat)) ⟨by decide,by decide⟩ (Do (by have:=Qad hp p.length; unfold Qcf; omega) (by decide)) (λe=>hc (by exact_mod_cast e))),.c [] cs] rfl (by unfold Rh; rw [e2]; rfl) (by simp [Us]; omega)
theorem I1 {p:List Int} (tp:U0 p) (hp:Bd 9000000 p) (hl:p.length<=1000):Uu Tryz.prog 80 [.one (rp (zp p))] [.one (rp (zp (Rh p)))] :=
 w tt Tryz.func80 rfl [.c [] (I2 tp hp hl)] rfl rfl trivial
theorem Qnv {p:List Int} (tp:U0 p):Nc p<0↔Ge p<0:=by
 unfold Nc;rcases Qz p.length with h0 | h0
 ·have:=Qi h0; subst this; decide
 ·have:=Qs6 tp h0
  split <;> omega
theorem Qwy {p:List Int} (hp:Bd 9000000 p) (hl:p.length<=1000000):Uu Tryz.prog 137 [.one (rp (zp p))] [.one (rp (zp (Pg p)))]:=by
 have h:=Qw3 ((Ox hp (by decide)).mono (by decide)) (by rw [Sl]; exact hl);rwa [Q2v] at h
theorem Qsx {p:List Int} (tp:U0 p) (hp:Bd 9000000 p) (hl:p.length<=1000):Uu Tryz.prog 136 [.one (rp (zp p))] [.one (rp (zp (Mg p)))]:=by
 by_cases hn:Ge p<0
 ·have e:Mg p=Pg (Rh p):=if_pos hn;rw [e];exact w tt Tryz.func136 rfl [.c [] (I2 tp hp hl),.t (decide_eq_true ((Qnv tp).2 hn)),.c [] (Qwy (Qjo hp) (Qc (Qgm p) (by omega)))] rfl rfl trivial
 ·have e:Mg p=Rh p:=if_neg hn;rw [e];exact w tt Tryz.func136 rfl [.c [] (I2 tp hp hl),.f (decide_eq_false λh=>hn ((Qnv tp).1 h))] rfl rfl trivial
end Orr
namespace Orr
theorem A5 (f:Nat->Int):Mf 1 f=trim [f 0]:=rfl
theorem Qkq (f:Nat->Int):Mf 2 f=trim [f 0,f 1]:=rfl
theorem Qfc (x:Int):trim [x]=if x=0 then [] else [x]:=rfl
theorem Qpg (x y:Int):trim [x,y]=if y=0 then trim [x] else [x,y]:=by
 simp only [trim]; split <;> split <;> simp_all
theorem bd1 {s:Nat} {x:Int} (h:U6 x<=s):Bd s [x]:=λz hz=>by simp at hz; subst hz; exact h
theorem bd2 {s:Nat} {x y:Int} (h:U6 x<=s) (h':U6 y<=s):Bd s [x,y]:=λz hz=>by
 simp only [Qo,Uf,or_false] at hz;rcases hz with rfl | rfl <;> assumption
section
variable {x d:Int} (hd:0<d) (hg:Int.gcd x d=1) (hx:U6 x<=1000000) (hs:U6 d<=1000000)
theorem b1 {s:Nat} (h:1<=s):Bd s [1]:=bd1 (Qc (show U6 1<=1 by decide) h)
include hd in
theorem Qev (hg:Int.gcd x d=1):Rh [x,d]=[x,d]:=by
 have hc:Nc [x,d]=1:=by
  have h1:Qcf [x,d]=1:=by
   show Int.gcd (Int.gcd ((0:Nat):Int) x:Nat) d=1;rw [show Int.gcd ((0:Nat):Int) x=x.natAbs by simp,show Int.gcd ((x.natAbs:Nat):Int) d=Int.gcd x d by simp [Int.gcd],hg]
  unfold Nc;rw [if_neg (show ¬Ge [x,d]<0 from by show ¬d<0; omega),h1]; rfl
 unfold Rh;rw [hc];show Mf 2 _=_;rw [Qkq,Qpg];show (if d / 1=0 then _ else [x / 1,d / 1])=_;rw [Wd,if_neg (by omega),Wd]
theorem Zax:Rh [1]=[1]:=by decide
include hd in
theorem Ql4:Rh [d]=[1]:=by
 have hc:Nc [d]=d:=by
  have h1:((Qcf [d]:Nat):Int)=d:=by
   show ((Int.gcd ((0:Nat):Int) d:Nat):Int)=d;simp; omega
  unfold Nc;rw [if_neg (show ¬Ge [d]<0 from by show ¬d<0; omega),h1]
 unfold Rh;rw [hc];show Mf 1 _=_;rw [A5,Qfc];show (if d / d=0 then _ else [d / d])=_;rw [Int.ediv_self (by omega)]; rfl
include hd in
theorem Qp8:Gg [x,d]=[d]:=by
 show Mf 1 _=_;rw [A5,Qfc];show (if d*1=0 then _ else [d*1])=_;rw [Wx,if_neg (by omega)]
include hd hx hs in
theorem Qve:∃ m,RRun [1] m [x,d] []:=by
 have h1:Qo3 [x,d] [1]=trim [x]:=by
  show Mf 2 _=_;rw [Qkq,Qpg];have e1:An [x,d] [1] 1=0:=by
   show d*1-(if 1<=1 then Qbd [x,d] [1]*1 else 0)=0;have:Qbd [x,d] [1]=d:=by unfold Qbd; rw [if_neg (by decide)]; rfl
   rw [this]; simp
  have e0:An [x,d] [1] 0=x:=by
   show x*1-(if 1<=0 then _ else 0)=x;simp
  rw [e1,if_pos rfl,e0]
 have hb:Bd 9000000 [x,d]:=bd2 (by omega) (by omega);by_cases h0:x=0
 ·refine ⟨1,.step (by show 1<=2; decide) (by show 2<=1000; decide) hb (b1 (by decide)) ?_⟩;rw [h1,h0];exact .stop (by decide)
 ·refine ⟨2,.step (by show 1<=2; decide) (by show 2<=1000; decide) hb (b1 (by decide)) ?_⟩;rw [h1,Qfc,if_neg h0];refine .step (Qm 1) (by show 1<=1000; decide) (bd1 (by omega)) (b1 (by decide)) ?_;have h2:Qo3 [x] [1]=[]:=by
   show Mf 1 _=_;rw [A5,Qfc];have e0:An [x] [1] 0=0:=by
    show x*1-(if 0<=0 then Qbd [x] [1]*1 else 0)=0;have:Qbd [x] [1]=x:=by unfold Qbd; rw [if_neg (by decide)]; rfl
    rw [this]; simp
   rw [e0,if_pos rfl]
  rw [h2];exact .stop (by decide)
include hd hx hs in
theorem Q9m:∃ m,GRun m [x,d] [1] [1]:=by
 obtain ⟨m,h⟩:=Qve hd hx hs;exact ⟨1,.step (by decide) (by decide) (b1 (by decide)) h (by decide) O7 rfl (by rw [show Rh []=[] by decide]; exact .stop _)⟩
theorem Q5b (c:Int):Px [c] [c]=[]:=by
 show Mf 1 _=_;rw [A5,Qfc];show (if c-c=0 then _ else _)=_;rw [if_pos (by omega)]
include hd hx hs in
theorem Q04:DOk [x,d] [1] [x,d]:=by
 refine ⟨by decide,by decide,by show 2<=1000; decide,b1 (by decide),[x,d],[],?_⟩;have By:Ge [x,d] / Ge [1]=d:=by show d / 1=d; rw [Wd]
 have hsc:Fg [1] d=[d]:=by
  show Mf 1 _=_;rw [A5,Qfc];show (if 1*d=0 then _ else [1*d])=_;rw [Vb,if_neg (by omega)]
 have hsub:Px [x,d] (Eg 1 [d])=trim [x]:=by
  show Mf 2 _=_;rw [Qkq,Qpg];show (if d-d=0 then trim [x-0] else _)=_;rw [if_pos (by omega),Int.sub_zero]
 have hb:Bd 9000000 [x,d]:=bd2 (by omega) (by omega);have ht:trim [x,d]=[x,d]:=by rw [Qpg,if_neg (by omega)]
 by_cases h0:x=0
 ·refine ⟨1,hb,by show 2<=1000; decide,?_,ht.symm⟩;refine .step (by show 1<=2; decide) (by show 2<=1000; decide) hb (by decide) (by show (1:Int)∣d; exact Int.one_dvd d) (by show 1<2; decide) ?_;rw [By,hsc,show [x,d].length-[(1:Int)].length=1 from rfl,hsub,Qfc,if_pos h0];show DRun [1] 0 [] [0,d] [x,d] [];rw [h0]; exact .stop (by decide)
 ·refine ⟨2,hb,by show 2<=1000; decide,?_,ht.symm⟩;refine .step (by show 1<=2; decide) (by show 2<=1000; decide) hb (by decide) (by show (1:Int)∣d; exact Int.one_dvd d) (by show 1<2; decide) ?_;rw [By,hsc,show [x,d].length-[(1:Int)].length=1 from rfl,hsub,Qfc,if_neg h0];refine .step (by show 1<=1; decide) (by show 1<=1000; decide) (bd1 (by omega)) (by decide) (by show (1:Int)∣x; exact Int.one_dvd x) (by show 0<2; decide) ?_;have hpl2:Ge [x] / Ge [1]=x:=by show x / 1=x; rw [Wd]
  have hsc2:Fg [1] x=[x]:=by
   show Mf 1 _=_;rw [A5,Qfc];show (if 1*x=0 then _ else [1*x])=_;rw [Vb,if_neg h0]
  rw [hpl2,hsc2,show [x].length-[(1:Int)].length=0 from rfl,show Eg 0 [x]=[x] from rfl,Q5b];exact .stop (by decide)
theorem div_one:DOk [1] [1] [1]:=by
 refine ⟨by decide,by decide,by decide,b1 (by decide),[1],[],1,b1 (by decide),by decide,?_,by decide⟩;refine .step (by decide) (by decide) (b1 (by decide)) (by decide) (by decide) (by decide) ?_;exact .stop (by decide)
include hd hg hx hs in
theorem Q87:FRun [x,d] 1 (λ_=>[x,d]):=by
 obtain ⟨m,hm⟩:=Q9m (x:=x) hd hx hs;refine ⟨⟨1,[[x,d],[1]],?_,rfl,?_⟩,by decide⟩
 ·rw [Qev hd hg];refine .step (by show 1<2; decide) (by show 2<=1000; decide) (by show trim [x,d]=[x,d]; rw [Qpg,if_neg (by omega)]) (by show Bd 9000000 [x,d]; exact bd2 (by omega) (by omega)) ?_ ?_ (by show 1<=1000; decide) (m:=m) (g:=[1]) ?_
  ·show Bd 9000000 (Gg [x,d]);rw [Qp8 hd]; exact bd1 (by omega)
  ·show GRun m (Rh [x,d]) (Rh (Gg [x,d])) [1];rw [Qev hd hg,Qp8 hd,Ql4 hd]; exact hm
  ·exact .stop (by show 1<=1; decide)
 ·intro k hk;have:k=0:=by omega
  subst this;exact ⟨[x,d],[1],[x,d],Q04 hd hx hs,div_one,by rw [Qev hd hg,Zax]; exact Q04 hd hx hs,(Qev hd hg).symm⟩
theorem Q41 {p:List Int} (hp:U0 p) (h0:0<p.length):Fx [1] p=p:=by
 refine Qam (Ha _ _) hp λk=>?_
 unfold Fx;rw [if_neg (by
  rintro (h | h); · cases h
  ·omega),Ln]
 show (Ny [1] p (List.replicate (1+p.length-1) 0) 1).getD k 0=_;simp only [Ny];rw [Qgr _ _ _ _ _ _ (by simp),Tz]
 split
 ·show 0+1*p.getD (k-0) 0=_;rw [Wn]; omega
 ·rename_i h;rw [Qg,Qt (by omega)]; rfl
include hd hg hx hs in
theorem Q39:ChRun [x,d] [x,d] [[x,d],[1]]:=by
 obtain ⟨m,hm⟩:=Qve (x:=x) hd hx hs;have ht:U0 [x,d]:=by show trim [x,d]=_; rw [Qpg,if_neg (by omega)]
 refine ⟨⟨1,λ_=>[x,d],Q87 hd hg hx hs,?_,?_⟩,⟨1,?_⟩,bd2 (by omega) (by omega),by show 2<=1000; decide,by show 2<=1000; decide⟩
 ·intro i hi;have:i=0:=by omega
  subst this;exact ⟨b1 (by decide),by show 1<=1000; decide,bd2 (by omega) (by omega),by show 2<=1000; decide⟩
 ·show [x,d]=Fx [1] [x,d];rw [Q41 ht (by show 0<2; decide)]
 ·have hz:Mg (Gg [x,d])=[1]:=by
   rw [Qp8 hd];unfold Mg;rw [if_neg (show ¬Ge [d]<0 from by show ¬d<0; omega),Ql4 hd]
  rw [hz];refine .step (by decide) (by decide) (b1 (by decide)) (m:=m) (r:=[]) hm rfl O7 (by decide) (by show 0<1; decide) (by show 1<=1000; decide) ?_;exact .stop (by decide)
end
theorem Znp {q:Rat} (h:Qs 1000000 q):Qzl q [[-q.num,(q.den:Int)],[1]]:=by
 refine ⟨[-q.num,(q.den:Int)],Q39 (den_pos q) ?_ (by rw [Hl]; exact h.1) h.2⟩;rw [Int.neg_gcd];have:=q.reduced;unfold Nat.Coprime at this;simpa [Int.gcd] using this
end Orr
namespace Orr
open Go Go.Proofs
set_option maxRecDepth 10000
theorem Zjt {a b g:List Int} {n:Nat} (ta:U0 a) (tb:U0 b) (ha:Bd 9000000 a) (hb:Bd 9000000 b) (la:a.length<=1000) (lb:b.length<=1000) (hrun:GRun n (Rh a) (Rh b) g):Uu Tryz.prog 155 [.one (rp (zp a)),.one (rp (zp b))] [.one (rp (zp g))]:=by
 refine Gs Tryz.func155 rfl ?_;refine go tt [.c [] (I1 ta ha la),.c [] (I1 tb hb lb)] rfl trivial ?_;refine sb [(0,.v (.one (rp (zp (Rh a))))),(1,.v (.one (rp (zp (Rh b)))))] [] rfl rfl ?_;refine lp (S:=Nat×List Int×List Int) 0 (λL1 s=>(0,.v (.one (rp (zp s.2.1))))::(1,.v (.one (rp (zp s.2.2))))::L1) (λ_=>[]) (λs=>s.1) (λs=>GRun s.1 s.2.1 s.2.2 g) (n,Rh a,Rh b) hrun rfl (λ_ _=>rfl) rfl λ⟨k,x,y⟩ hs=>?_
 have hs:GRun k x y g:=hs;have hyl:=fzl y;rcases hs.inv with ⟨hk,hy0,hxg⟩ | ⟨j,m2,r,hk,hy0,hy1,hyb,hrr,hrl,hrb,hrt,hgr⟩
 ·rw [<-hxg];exact en tt [.f (decide_eq_false (by dsimp only; omega))] rfl rfl trivial
 ·subst hk;refine go tt [.t (decide_eq_true (by dsimp only; omega)),.c [] (Q0l (a0:=x) (b:=y) (res:=r) hy0 hy1 hyb hrr),.c [] (I1 (p:=r) hrt hrb hrl)] rfl trivial ?_;exact rd (j,y,Rh r) (by dsimp only; omega) hgr rfl
theorem Zd1 {x y:Int} (hx:U6 x<=9000000) (hy:U6 y<=9000000) (h0:y≠0) (hd:y∣x):Uu Tryz.prog 207 [.agg (fr (x:Rat)),.agg (fr (y:Rat))] [.agg (fr ((x / y:Int):Rat))]:=by
 have hy0:(y:Rat)≠0:=λe=>h0 (by exact_mod_cast e)
 have h:=Qwq (Do (s:=40000000) (z:=x) (by omega) (by omega)) (Do (s:=40000000) (z:=y) (by omega) (by omega)) hy0;obtain ⟨k,rfl⟩:=hd;rw [Xl _ h0];rwa [show (((y*k:Int):Rat)) / (y:Rat)=(k:Rat) by rw [Xs]; grind] at h
theorem Q34 {p:List Int} {c:Int} (hp:Bd 40000000 p) (hc:U6 c<=40000000) (hl:p.length<=1000000):Uu Tryz.prog 203 [.one (rp (zp p)),.agg (fr (c:Rat))] [.one (rp (zp (Fg p c)))]:=by
 have h:=Az (Ox hp (by omega)) (Do hc (by omega)) (by rw [Sl]; exact hl);rwa [Qo2] at h
theorem Zg4 (k:Nat) (p:List Int):frow (zp (List.replicate k 0))++frow (zp p)=frow (zp (Eg k p)):=by simp [zp,Eg,frow]
theorem Q4r (l:List Int) (i:Nat) (z:Int):(frow (zp l)).set i [nd ((z:Rat)).num.natAbs,sg ((z:Rat)).num,nd (((z:Rat)).den:Int).natAbs,sg (((z:Rat)).den:Int)]=frow (zp (l.set i z)):=Qtr l i z
theorem Zeh {p q:List Int} (hp:Bd 18000000 p) (hq:Bd 18000000 q) (hlp:p.length<=1000000) (hlq:q.length<=1000000):Gn Tryz.prog 144 [.one (rp (zp p)),.one (.orow 0 4 none)] [.row false 35 4 (frow (zp q))] [.one (rp (zp (Px p q)))] [.gone]:=by
 have hn:=Qw3 ((Ox hq (by decide)).mono (by decide)) (by rw [Sl]; exact hlq);have ha:=Qwz (p:=zp p) (q:=Qrp (zp q)) ((Ox hp (by decide)).mono (by decide)) ((Zbg (Ox hq (by decide))).mono (by decide)) (by rw [Sl]; exact hlp) (Qc (Qvf _) (by rw [Sl]; exact hlq));have e:Q5g (zp p) (Qrp (zp q))=zp (Px p q):=Q20 p q;rw [e] at ha;refine Gs Tryz.func144 rfl ?_;exact ed tt [] [0] [.c [] hn,.c [] ha] rfl trivial
theorem Q35 {a0 b qf rem:List Int} {n:Nat} (hb0:0<b.length) (hb1:b.length<=1000) (hl0:a0.length<=1000) (hbb:Bd 9000000 b) (hqb:Bd 9000000 qf) (hrun:DRun b n a0 (List.replicate (a0.length+1-b.length) 0) qf rem):Uu Tryz.prog 259 [.one (rp (zp a0)),.one (rp (zp b))] [.one (rp (zp (trim qf))),.one (rp (zp rem))]:=by
 have h0l:=fzl a0;have hbl:=fzl b;obtain ⟨N,hN⟩:=nmE (a0.length+1-b.length);rw [<-hN] at hrun;have cc:=Qab (p:=zp qf);rw [Bs] at cc;refine Gs Tryz.func259 rfl ?_;refine go tt [.r 18 (eI (b:=(N:Int)) (by omega)),.i N,.i N,.r 21 (eI (b:=(N:Int)) (by simp))] rfl (by simp [Us]; omega) ?_;refine lp (S:=Nat) 1 (λL1 i=>(22,.v (.one (.int .i64 (i:Int))))::L1) (λi=>[.row false 35 4 (List.replicate i (fr 0)++List.replicate (N-i) zR)]) (λi=>N-i) (λi=>i<=N) 0 (Qh _) rfl (λ_ _=>rfl) rfl λi hi=>?_
 by_cases hlt:i<N
 ·refine go tt [.t (decide_eq_true (by omega)),.c [] Q7k,.i i] rfl (by simp [Us]; omega) ?_;rw [Qqj hlt];exact rd (i+1) (by omega) hlt rfl
 have hiN:i=N:=by omega
 rw [hiN,Qmq];clear hiN hlt hi;refine go tt [.f (decide_eq_false (by omega))] rfl trivial ?_;refine sb [(0,.v (.one (rp (zp a0)))),(1,.v (.one (rp (zp b)))),(6,.v (.one (.orow 0 4 none)))] [.row false 35 4 (frow (zp (List.replicate N 0)))] rfl rfl ?_;refine lp (S:=Nat×List Int×List Int) 1 (λL1 s=>(0,.v (.one (rp (zp s.2.1))))::L1) (λs=>[.row false 35 4 (frow (zp s.2.2))]) (λs=>s.1) (λs=>DRun b s.1 s.2.1 s.2.2 qf rem/\s.2.2.length=N) (n,a0,List.replicate N 0) ⟨hrun,X1⟩ rfl (λ_ _=>rfl) rfl λ⟨k,a,q⟩ ⟨hr0,hr1⟩=>?_
 have hr0:DRun b k a q qf rem:=hr0;have hr1:q.length=N:=hr1;have hal:=fzl a;have hql:=fzl q;rcases hr0.inv with ⟨hk,hqf,har,hlt⟩ | ⟨j,hk,hba,hal2,hab,hpb,hpd,hkq,hrj⟩
 ·subst hqf; subst har;exact en tt [.f (decide_eq_false (by dsimp only; omega)),.c [] cc] rfl rfl trivial
 subst hk;obtain ⟨K,hK⟩:=nmE (a.length-b.length);rw [<-hK] at hrj hkq;have hla:U6 (Ge a)<=9000000:=U9 hab _;have hlb:U6 (Ge b)<=9000000:=U9 hbb _;obtain ⟨c,hc⟩:=nmE (Ge a / Ge b);have cq:=Zd1 hla hlb hpb hpd;have hcs:U6 (Ge a / Ge b)<=9000000:=Qc (Qau _ _) hla;rw [<-hc] at cq hcs hrj;have hsl:=Gb b c;have hqs:∀ x,(q.set K x).length=N:=λx=>by rw [Ja]; exact hr1
 dsimp only;refine go tt [.t (decide_eq_true (by omega)),.r 39 (eI (b:=(K:Int)) (by omega)),.r 43 (eI (b:=((a.length-1:Nat):Int)) (by omega)),.x (Tc (p:=a) (i:=a.length-1) (by omega)),.r 49 (eI (b:=((b.length-1:Nat):Int)) (by omega)),.x (Tc (p:=b) (i:=b.length-1) (by omega)),.c [] cq,.i K,.i K,.i K,.r 60 (eI (b:=(K:Int)) (by simp))] rfl (by simp [Us,hql] <;> omega) ?_;rw [Q4r];refine lp (S:=Nat) 3 (λL1 i=>(61,.v (.one (.int .i64 (i:Int))))::L1) (λi=>[.row false 35 4 (frow (zp (q.set K c))),.blk 35 (fr (c:Rat)),.row false 35 4 (List.replicate i (fr 0)++List.replicate (K-i) zR)]) (λi=>K-i) (λi=>i<=K) 0 (Qh _) rfl (λ_ _=>rfl) rfl λi hi=>?_
 by_cases hlt:i<K
 ·refine go tt [.t (decide_eq_true (by omega)),.c [] Q7k,.i i] rfl (by simp [Us]; omega) ?_;rw [Qqj hlt];exact rd (i+1) (by omega) hlt rfl
 have hiK:i=K:=by omega
 rw [hiK,Qmq];clear hiK hlt hi;have hzl:=fzl (List.replicate K 0);rw [X1] at hzl;have By:=fzl (Fg b c);refine go tt [.f (decide_eq_false (by omega))] rfl trivial ?_;refine sb [(10,.v (.one (.orow 2 4 none))),(9,.v (.one (.ow 1 0))),(0,.v (.one (rp (zp a)))),(1,.v (.one (rp (zp b)))),(6,.v (.one (.orow 0 4 none)))] [.row false 35 4 (frow (zp (q.set K c))),.blk 35 (fr (c:Rat)),.row false 35 4 (frow (zp (List.replicate K 0)))] rfl rfl ?_;have p2:=Zeh (p:=a) (q:=Eg K (Fg b c)) (Ut hab (by decide)) (Ut (Q3n (Gu hbb hcs)) (by decide)) (by omega) (by rw [Qy3]; omega);rw [<-Zg4] at p2;refine go tt [.c [] (Q34 (c:=c) (Ut hbb (by decide)) (by omega) (by omega)),.s (sz:=4) (Qgb (zp (Fg b c))),.c [2] p2] rfl (by simp [Us,hzl,By]; omega) ?_;exact rd (j,Px a (Eg K (Fg b c)),q.set K c) (by dsimp only; omega) ⟨hrj,hqs c⟩ rfl
def zls (l:List (List Int)):List (List LV):=l.map λp=>[rp (zp p)]
theorem Qce (l:List (List Int)):(zls l).length=l.length:=by simp [zls]
theorem Qfk (l:List (List Int)) (g:List Int):zls l++[[rp (zp g)]]=zls (l++[g]):=by simp [zls]
theorem Qcd {l:List (List Int)} {i:Nat} (h:i<l.length):(zls l)[i]? = some [rp (zp (l.getD i []))]:=Gt (Qxo h)
theorem Zf6 (x:LV):∀ c∈[[x]],c.length=1:=λc hc=>by rw [Qk.1 hc]; rfl
theorem Qj3 {a b q:List Int} (h:DOk a b q):∃ r,Uu Tryz.prog 259 [.one (rp (zp a)),.one (rp (zp b))] [.one (rp (zp q)),.one (rp (zp r))]:=by
 obtain ⟨h1,h2,h3,h4,qf,r,n,h5,h6,h7,rfl⟩:=h;exact ⟨r,Q35 h1 h2 h3 h4 h5 h7⟩
theorem Qw1 {a:List Int} {mf:Nat} {f:Nat->List Int} (ta:U0 a) (ha:Bd 9000000 a) (la:a.length<=1000) (h2:2<=a.length) (hF:FRun a mf f):Uu Tryz.prog 202 [.one (rp (zp a))] [.one (.row (zls (Qmm f mf)))]:=by
 obtain ⟨⟨n,ls,hrun,hlen,hq⟩,hms⟩:=hF;have hal:=fzl a;refine Gs Tryz.func202 rfl ?_;refine go tt [.f (decide_eq_false (by omega)),.c [] (I1 ta ha la),.o 3 28 1,.lo] rfl trivial ?_;refine sb [(3,.v (.one (.orow 0 1 none))),(4,.v (.one (.orow 1 1 none)))] [.row false 28 1 [],.row false 28 1 (zls [Rh a])] rfl rfl ?_;refine lp (S:=Nat×List (List Int)) 2 (λL1 s=>(4,.v (.one (.orow 1 1 none)))::L1) (λs=>[.row false 28 1 [],.row false 28 1 (zls s.2)]) (λs=>s.1) (λs=>LRun s.1 s.2 ls/\0<s.2.length/\s.2.length<=1001) (n,[Rh a]) ⟨hrun,by show 0<1; decide,by show 1<=1001; decide⟩ rfl (λ_ _=>rfl) rfl λ⟨k,l⟩ ⟨hs1,hs2,hs3⟩=>?_
 have hs1:LRun k l ls:=hs1;have hs2:0<l.length:=hs2;have hs3:l.length<=1001:=hs3;have hll:=Qce l;have hlast:(zls l)[l.length-1]? = some [rp (zp (Md l))]:=Qcd (by omega);have By:=fzl (Md l);dsimp only;rcases hs1.inv with ⟨hk,hlf,hl1⟩ | ⟨j,m2,g,hk,hg1,hg2,hg3,hg4,hg5,hg6,hg7,hlr⟩
 ·have hlm:l.length=mf+1:=by rw [hlf]; exact hlen
  rw [<-hlf] at hq;have hl2:=Qce (l++[[1]]);have hl3:(l++[[1]]).length=mf+2:=by simp [hlm]
  refine go tt [.r 23 (eI (b:=((l.length-1:Nat):Int)) (by omega)),.i (l.length-1),.x hlast,.f (decide_eq_false (by omega)),.c [] Qw4,.s (sz:=1) (Zf6 _)] rfl (by simp [Us,hll]; omega) ?_;rw [Qfk];refine lp (S:=Nat) 2 (λL1 i=>(6,.v (.one (.int .i64 (i:Int))))::(3,.v (.one (.orow 0 1 none)))::L1) (λi=>[.row false 28 1 (zls (Qmm f i)),.row false 28 1 (zls (l++[[1]]))]) (λi=>mf-i) (λi=>i<=mf) 0 (Qh _) rfl (λ_ _=>rfl) rfl λi hi=>?_
  have htl:=Qce (Qmm f i);rw [Qvr] at htl;by_cases h:i<mf
  ·obtain ⟨x,y,z,hx,hy,hz,hf⟩:=hq i h;obtain ⟨rx,hdx⟩:=Qj3 hx;obtain ⟨ry,hdy⟩:=Qj3 hy;obtain ⟨rz,hdz⟩:=Qj3 hz;refine go tt [.t (decide_eq_true (by omega)),.i i,.x (Qcd (by omega)),.i (i+1),.x (Qcd (by omega)),.c [] hdx,.i (i+1),.x (Qcd (by omega)),.i (i+2),.x (Qcd (by omega)),.c [] hdy,.c [] (I1 hx.trim hx.bd hx.len),.c [] (I1 hy.trim hy.bd hy.len),.c [] hdz,.c [] (I1 hz.trim hz.bd hz.len),.s (sz:=1) (Zf6 _)] rfl (by simp [Us,hl2,htl]; omega) ?_;exact rd (i+1) (by omega) h (by rw [Qfk,Q5p,hf]; rfl)
  ·have e:i=mf:=by omega
   rw [e];exact en tt [.f (decide_eq_false (by omega))] rfl rfl (by simp [Us]; omega)
 ·subst hk;refine go tt [.r 23 (eI (b:=((l.length-1:Nat):Int)) (by omega)),.i (l.length-1),.x hlast,.t (decide_eq_true (by omega)),.r 31 (eI (b:=((l.length-1:Nat):Int)) (by omega)),.i (l.length-1),.x hlast,.c [] (Qw0 (Ut hg4 (by decide)) (by omega)),.c [] (Zjt hg3 (Fu _ _) hg4 hg5 hg2 (Qc (Pp _) (by omega)) hg6),.s (sz:=1) (Zf6 _)] rfl (by simp [Us,hll]; omega) ?_;exact rd (j,l++[g]) (by dsimp only; omega) ⟨hlr,by simp,by simp; omega⟩ (by rw [Qfk]; rfl)
theorem Q36 {a:List Int} {mf:Nat} {f:Nat->List Int} (ta:U0 a) (ha:Bd 9000000 a) (la:a.length<=1000) (h2:2<=a.length) (hF:FRun a mf f) (hP:Zmc mf f):Uu Tryz.prog 135 [.one (rp (zp a))] [.one (rp (zp (Ij f mf)))]:=by
 have hms:=hF.small;have hal:=fzl a;have htl:=Qce (Qmm f mf);rw [Qvr] at htl;refine Gs Tryz.func135 rfl ?_;refine go tt [.f (decide_eq_false (by omega)),.c [] Qw4,.c [] (Qw1 ta ha la h2 hF)] rfl trivial ?_;refine lp (S:=Nat) 0 (λL1 i=>(15,.v (.one (.int .i64 (i:Int))))::(3,.v (.one (rp (zp (Ij f i)))))::L1) (λ_=>[]) (λi=>mf-i) (λi=>i<=mf) 0 (Qh _) rfl (λ_ _=>rfl) rfl λi hi=>?_
 by_cases h:i<mf
 ·obtain ⟨g1,g2,g3,g4⟩:=hP i h;refine go tt [.t (decide_eq_true (by omega)),.x (Gt (f:=λp=>[rp (zp p)]) (Zcm h)),.c [] (Qw2 (p:=Ij f i) (q:=f i) (by omega) (by omega) g1 g3 (by decide))] rfl (by simp [Us]; omega) ?_;exact rd (i+1) (by omega) h rfl
 ·have e:i=mf:=by omega
  rw [e];exact en tt [.f (decide_eq_false (by omega))] rfl rfl trivial
theorem Q4y {l:List (List Int)} (g:List Int) (h:0<l.length):(zls l++[[rp (zp g)]])[l.length-1]? = some [rp (zp (Md l))]:=by
 rw [Zf (by rw [Qce]; omega)];exact Qcd (by omega)
theorem Q7u {a sq:List Int} {c:List (List Int)} (ta:U0 a) (ha:Bd 9000000 a) (la:a.length<=1000) (h2:2<=a.length) (hC:ChRun a sq c):Uu Tryz.prog 69 [.one (rp (zp a))] [.one (.row (zls c))]:=by
 obtain ⟨⟨mf,f,hF,hP,rfl⟩,⟨n,hcr⟩,hbd,hle,hsm⟩:=hC;refine Gs Tryz.func69 rfl ?_;refine go tt [.c [] (Q36 ta ha la h2 hF hP),.lo,.c [] (Qw0 (p:=Ij f mf) (Ut hbd (by decide)) (by omega)),.c [] (Qsx (p:=Gg (Ij f mf)) (Fu _ _) (Ut (Qim (t:=10) hbd (by omega)) (by decide)) (Qc (Pp _) (by omega)))] rfl trivial ?_;refine sb [(5,.v (.one (rp (zp (Mg (Gg (Ij f mf))))))),(4,.v (.one (.orow 0 1 none)))] [.row false 28 1 (zls [Ij f mf])] rfl rfl ?_;refine lp (S:=Nat×List (List Int)×List Int) 1 (λL1 s=>(5,.v (.one (rp (zp s.2.2))))::(4,.v (.one (.orow 0 1 none)))::L1) (λs=>[.row false 28 1 (zls s.2.1)]) (λs=>s.1) (λs=>CRun s.1 s.2.1 s.2.2 c/\0<s.2.1.length/\s.2.1.length<=1001) (n,[Ij f mf],Mg (Gg (Ij f mf))) ⟨hcr,by show 0<1; decide,by show 1<=1001; decide⟩ rfl (λ_ _=>rfl) rfl λ⟨k,l,g⟩ ⟨hs1,hs2,hs3⟩=>?_
 have hs1:CRun k l g c:=hs1;have hs2:0<l.length:=hs2;have hs3:l.length<=1001:=hs3;have hll:=Qce l;have hgl:=fzl g;dsimp only;rcases hs1.inv with ⟨hk,hlf,hg0⟩ | ⟨j,m2,r,hk,hg1,hg2,hg3,hrr,hrt,hrb,hrl,hl0,hl1,hcj⟩
 ·subst hlf;exact en tt [.f (decide_eq_false (by omega))] rfl rfl trivial
 ·subst hk;refine go tt [.t (decide_eq_true (by omega)),.s (sz:=1) (Zf6 _),.r 23 (eI (b:=((l.length-1:Nat):Int)) (by simp; omega)),.i (l.length-1),.x (Q4y g hl0),.c [] (Q0l (a0:=Md l) (b:=g) (res:=r) hg1 hg2 hg3 hrr),.c [] (Qsx (p:=r) hrt hrb hrl),.c [] (Qwy (p:=Mg r) (Q3m hrb) (Qc (Qxu r) (by omega)))] rfl (by simp [Us,hll]; omega) ?_;exact rd (j,l++[g],Pg (Mg r)) (by dsimp only; omega) ⟨hcj,by simp,by simp; omega⟩ (by rw [Qfk]; rfl)
theorem Zmj {q:Rat} (h1:U6 q.num<=1000000) (h2:U6 (q.den:Int)<=1000000):Bd 9000000 [-q.num,(q.den:Int)]:=λz hz=>by
 simp only [Qo,Uf,or_false] at hz;rcases hz with rfl | rfl
 ·rw [Hl]; omega
 ·omega
abbrev aq (q:Rat) (c:List (List Int)):List LV:=[rp (zp [-q.num,(q.den:Int)]),.row (zls c)]++fr q++fr q
theorem Qsw {q:Rat} {c:List (List Int)} (hq:Qs 1000000 q) (hC:Qzl q c):Uu Tryz.prog 10 [.agg (fr q)] [.agg (aq q c)]:=by
 obtain ⟨sq,hch⟩:=hC;have co:=C3 (n:=1) (by decide);exact w tt Tryz.func10 rfl [.c [] co,.c [] (Mi (n:=q.num)),.c [] (Q6x (z:=q.num)),.c [] co,.c [] (Mi (n:=(q.den:Int))),.c [] (Q7u (a:=[-q.num,(q.den:Int)]) (Q3a q) (Zmj hq.1 hq.2) (by show 2<=1000; decide) (Qm 2) hch)] rfl rfl trivial
theorem Qsy {q:Rat} {c:List (List Int)} (hq:Qs 1000000 q):Uu Tryz.prog 89 [.agg (aq q c)] [.one (.bool true)]:=by
 have cr:=Zeb (a:=q) (b:=q) (hq.mono (by decide)) (hq.mono (by decide));rw [B8] at cr;exact w tt Tryz.func89 rfl [.c [] cr] rfl rfl trivial
theorem Q5a {p:List Int} (h:p.length=0) (q:Rat):G8 p q=0:=by rw [Qi h]; rfl
theorem Q0k {p:List Int} {q:Rat} {c:List (List Int)} (hp:Bd 30000000 p) (hl:p.length<=64) (hq:Qs 1000000 q):Uu Tryz.prog 90 [.one (rp (zp p)),.agg (aq q c)] [.one (.bool (decide (G8 p q=0)))]:=by
 have By:=fzl p;rcases Qz p.length with h0 | h0
 ·rw [decide_eq_true (Q5a h0 q)];exact w tt Tryz.func90 rfl [.t (decide_eq_true (by omega))] rfl rfl trivial
 ·exact w tt Tryz.func90 rfl [.f (decide_eq_false (by omega)),.c [] (Qsy hq),.t rfl,.c [] (Q0j hp hl hq)] rfl rfl trivial
theorem Qnc {p:List Int} {q:Rat} {c:List (List Int)} (hp:Bd 30000000 p) (hl:p.length<=64) (hq:Qs 1000000 q):Uu Tryz.prog 70 [.one (rp (zp p)),.agg (aq q c)] [.one (.int .i64 (G8 p q))]:=by
 by_cases h0:G8 p q=0
 ·have cz:=Q0k (c:=c) hp hl hq;rw [h0] at cz ⊢;exact w tt Tryz.func70 rfl [.c [] cz,.t rfl] rfl rfl trivial
 ·exact w tt Tryz.func70 rfl [.c [] (Q0k hp hl hq),.f (decide_eq_false h0),.c [] (Qsy hq),.g 11 true rfl,.t rfl,.c [] (Q0j hp hl hq)] rfl rfl trivial
theorem Ay {p:List Int} {q:Rat} {c:List (List Int)} (hp:Bd 20000000 p) (hl:p.length<=64) (hq:Qs 1000000 q):Uu Tryz.prog 15 [.one (rp (zp p)),.agg (aq q c)] [.one (.int .i64 (My p q))]:=by
 refine Gs Tryz.func15 rfl ?_;refine go tt [] rfl trivial ?_;refine lp (S:=List Int) 1 (λL1 r=>(0,.v (.one (rp (zp r))))::L1) (λ_=>[.blk 37 (aq q c)]) (λr=>r.length) (λr=>r.length<=64/\Bd (25000000-30*r.length) r/\Sv (λp=>G8 p q) r.length r=My p q) p ⟨hl,Ut hp (by omega),rfl⟩ rfl (λ_ _=>rfl) rfl λr ⟨hr0,hr1,hr2⟩=>?_
 have hrl:=fzl r;rcases Qz r.length with h0 | h0
 ·rw [Qhp _ h0] at hr2;exact en tt [.f (decide_eq_false (by omega))] rfl (by rw [<-hr2]) trivial
 by_cases hs:G8 r q=0
 ·have hd:=Pp r;refine go tt [.t (decide_eq_true (by omega)),.c [] (Qnc (p:=r) (c:=c) (Ut hr1 (by omega)) hr0 hq),.f (decide_eq_false (λh=>h hs)),.c [] (Qw0 (p:=r) (Ut hr1 (by omega)) (by omega))] rfl trivial ?_;exact rd (Gg r) (by omega) ⟨by omega,Ut (Qim (t:=6) hr1 (by omega)) (by omega),by rw [<-hr2,Qho _ h0 hs]⟩ rfl
 ·exact en tt [.t (decide_eq_true (by omega)),.c [] (Qnc (p:=r) (c:=c) (Ut hr1 (by omega)) hr0 hq),.t (decide_eq_true hs)] rfl (by rw [<-hr2,Qhn _ h0 hs]) trivial
end Orr
namespace Orr
def Ar (p:List Int) (d:Int):List Rat:=p.map λ(z:Int)=>(z:Rat) / (d:Rat)
theorem Mw (p:List Int) (d:Int):(Ar p d).length=p.length:=Q5 _
theorem Zgu {p:List Int} {i:Nat} {z:Int} {d:Int} (h:p[i]? = some z):(Ar p d)[i]? = some ((z:Rat) / (d:Rat)):=by simp [Ar,h]
theorem Zbw (p:List Int) (d:Int) (i:Nat):(Ar p d).getD i 0=((p.getD i 0:Int):Rat) / (d:Rat):=by
 simp only [Qg,Ar,Q7];cases p[i]? with
 | none=>simp; grind
 | some z=>rfl
theorem I7 (z d:Int):(z:Rat) / (d:Rat)=Rat.divInt z d:=by
 by_cases h:d=0
 ·subst h; simp; grind
 ·rw [Js];have e1:(z:Rat)=Rat.divInt z 1:=by have:=Z3 (z:Rat); simpa using this.symm
  have e2:(d:Rat)⁻¹=Rat.divInt 1 d:=by
   have:(d:Rat)=Rat.divInt d 1:=by have:=Z3 (d:Rat); simpa using this.symm
   rw [this,Rat.inv_divInt]
  rw [e1,e2,K9];simp
theorem Ze1 {z d:Int} (hd:0<d):(((z:Rat) / (d:Rat)).den:Int)*(Int.gcd z d:Nat)=d:=by
 rw [I7];have h:=(Qqy (n:=z) hd).2;rw [<-h,Nu,Int.gcd_comm];exact Wo (Vw ..)
theorem Q9v {d a b L:Nat} (hd:0<d) (ha:L*a=d) {D:Nat} (hb:D*b=d):L*D / Nat.gcd L D*Nat.gcd a b=d:=by
 have hL:0<L:=W3 λe=>by rw [e] at ha; omega
 have hD:0<D:=W3 λe=>by rw [e] at hb; omega
 have hg:0<Nat.gcd L D:=Nat.gcd_pos_of_pos_left _ hL;show Nat.lcm L D*Nat.gcd a b=d;rw [<-Nat.gcd_mul_left];refine Nat.dvd_antisymm ?_ ?_
 ·-- gcd (M a) (M b) | d
  obtain ⟨u,hu⟩:=K5 L D;obtain ⟨v,hv⟩:=Ua L D;have hM:Nat.lcm L D=Nat.gcd L D*(u*v):=by
   unfold Nat.lcm
   conv=>lhs; rw [show L*D=Nat.gcd L D*u*(Nat.gcd L D*v) by rw [<-hu,<-hv]]
   rw [show Nat.gcd L D*u*(Nat.gcd L D*v)=Nat.gcd L D*(Nat.gcd L D*(u*v)) by rw [Xg,Kw u,]];exact Nat.mul_div_cancel_left _ hg
  have h1:Nat.lcm L D*a=v*d:=by
   rw [hM,<-ha]
   conv=>rhs; rw [hu]
   simp [Zj,Kw,Xg]
  have h2:Nat.lcm L D*b=u*d:=by
   rw [hM,<-hb]
   conv=>rhs; rw [hv]
   simp [Zj,Kw,Xg]
  have huv:Nat.gcd u v=1:=by
   have:=Nat.gcd_mul_left (Nat.gcd L D) u v;rw [<-hu,<-hv] at this;exact Nat.eq_of_mul_eq_mul_left hg (by omega)
  rw [h1,h2,Ub,Wm,huv,Kk];exact Nat.dvd_refl d
 ·refine Nat.dvd_gcd ?_ ?_
  ·rw [<-ha]; exact Nat.mul_dvd_mul_right (Nat.dvd_lcm_left L D) a
  ·rw [<-hb]; exact Nat.mul_dvd_mul_right (Nat.dvd_lcm_right L D) b
def lcd (z:List Int) (d:Int):Nat->Int
 | 0=>1
 | i+1=>lcd z d i*((((z.getD i 0:Int):Rat) / (d:Rat)).den:Int) / (Int.gcd (lcd z d i) ((((z.getD i 0:Int):Rat) / (d:Rat)).den:Int):Nat)
theorem Qxt {z:List Int} {d:Int} (hd:0<d):∀ i,i<=z.length->lcd z d i*((Hj (d::z.take i):Nat):Int)=d
 |
  0,_=>by
  show 1*_=d;have:((Hj [d]:Nat):Int)=d:=by unfold Hj; simp; omega
  rw [V3,this,Vb]
 |
  i+1,hi=>by
  have ih:=Qxt (z:=z) hd i (by omega);have hz:z[i]? = some (z.getD i 0):=Qbs (l:=z) (by omega);have hstep:Hj (d::z.take (i+1))=Nat.gcd (Hj (d::z.take i)) (z.getD i 0).natAbs:=by
   have:=Qn6 (l:=d::z) (i:=i+1) (z:=z.getD i 0) (by simpa using hz);simpa using this
  have hdn:=Ze1 (z:=z.getD i 0) hd;simp only [lcd];generalize hL:lcd z d i=L at *;generalize hD:(((z.getD i 0:Int):Rat) / (d:Rat)).den=D at *;have hLp:0<L:=by
   rcases J1 L 0 with h | h | h
   ·have:=Int.mul_nonneg (Int.neg_nonneg_of_nonpos (We h)) (Int.natCast_nonneg (Hj (d::z.take i)));rw [Kj] at this; omega
   ·rw [h,Yf] at ih; omega
   ·exact h
  obtain ⟨l,rfl⟩:=Yq (We hLp);obtain ⟨e,rfl⟩:=Yq (We hd);have h1:l*Hj (((e:Nat):Int)::z.take i)=e:=by exact_mod_cast ih
  have h2:D*Int.gcd (z.getD i 0) ((e:Nat):Int)=e:=by exact_mod_cast hdn
  have h3:=Q9v (d:=e) (by omega) h1 h2;have h4:Nat.gcd (Hj (((e:Nat):Int)::z.take i)) (Int.gcd (z.getD i 0) ((e:Nat):Int))=Nat.gcd (Hj (((e:Nat):Int)::z.take i)) (z.getD i 0).natAbs:=by
   have hge:Hj (((e:Nat):Int)::z.take i)∣e:=⟨l,by rw [Zj]; exact h1.symm⟩;show Nat.gcd _ (Nat.gcd (z.getD i 0).natAbs e)=_;rw [Wm (z.getD i 0).natAbs e,<-Nat.gcd_assoc,Nat.gcd_eq_left hge]
  rw [hstep,<-h4];rw [show Int.gcd ((l:Nat):Int) ((D:Nat):Int)=Nat.gcd l D by simp [Int.gcd]]
  exact_mod_cast h3
theorem Zfk {x y:List Int} {d:Int} (hd:0<d) (hg:Hj (d::(x++y))=1):lcd (x++y) d (x++y).length=d:=by
 have:=Qxt (z:=x++y) hd (x++y).length (Qm _);rw [Qy,hg] at this;simpa using this
theorem Zfm {z:List Int} {d:Int} (hd:0<d) {i:Nat} (hi:i<=z.length):U6 (lcd z d i)<=U6 d:=by
 have h:=Qxt (z:=z) hd i hi;refine Rq ?_;have h0:Hj (d::z.take i)≠0:=λe=>by rw [e] at h; simp at h; omega
 have:d.natAbs=(lcd z d i).natAbs*Hj (d::z.take i):=by
  conv=>lhs; rw [<-h]
  rw [Jt]; simp
 rw [this];exact J0 _ (W3 h0)
end Orr
namespace Orr
open Go Go.Proofs
set_option maxRecDepth 10000
abbrev cl4 (k:Crv):List LV:=[pl k.x,pl k.y,sg k.d,mg k.d]
abbrev rcl (c:Crv):List LV:=[rp (Ar c.x c.d),rp (Ar c.y c.d)]++cl4 c
def Dc (p:Pt):List LV:=rcl p.c++[.int .i64 p.id]
def Fc (l:List Pt):List (List LV):=l.map Dc
structure Rs (k:Crv):Prop where
 n:Nml k
 c:Cs 100000 16 k
theorem Rs.d0 {k:Crv} (h:Rs k):0<k.d:=h.n.2.2.1
theorem Qdf {x:List Int} {d:Int} {s:Nat} (hx:Bd s x) (hd:U6 d<=s) (h1:1<=s):Rb s (Ar x d):=λq hq=>by
 obtain ⟨z,hz,rfl⟩:=Zn.1 hq;rw [I7];exact Qs.divInt (hx z hz) hd h1
theorem Qmb {x:List Int} {d:Int} (tx:U0 x) (hd:d≠0):Mh (Ar x d) (d:Rat)=zp x:=by
 have hd':(d:Rat)≠0:=λe=>hd (by exact_mod_cast e)
 unfold Mh;rw [Qje (g:=λi=>x.getD i 0) _ λi _=>?_,Mw,Qln,Bs,tx];rw [Zbw]; grind
theorem Qsz {p:List Rat} {c:Int} (hp:Rb 40000000 p) (hc:U6 c<=40000000) (hl:p.length<=1000000):Uu Tryz.prog 290 [.one (rp p),.agg (ri c)] [.one (rp (Mh p (c:Rat)))] :=
 w tt Tryz.func290 rfl [.c [] (C3 (n:=1) (by decide)),.c [] (Mi (n:=c)),.c [] (Az (p:=p) (c:=(c:Rat)) hp (Do hc (by omega)) hl)] rfl rfl trivial
theorem Zgt (x y:List Int) (d:Int):frow (Ar x d)++frow (Ar y d)=frow (Ar (x++y) d):=by simp [Ar,frow]
theorem Qe4 {z:List Int} {d:Int} {i:Nat} (h:i<z.length):(Ar z d)[i]? = some (((z.getD i 0:Int):Rat) / (d:Rat)):=Zgu (Qbs h)
theorem Qmw (a b:Int) (hb:b≠0) {s:Nat} (h:U6 b<=s):U6 ((Int.gcd a b:Nat):Int)<=s:=by
 refine Qc (Rq ?_) h;simp only [Z9];exact Kh (by omega) (by simpa using Xp.2 (Vw a b))
theorem Zfl (a b:Int):(a*b) % ((Int.gcd a b:Nat):Int)=0:=Jv (Vk (Ud ..) (W7 a b))
theorem Qnf {k:Crv} (hs:Rs k):Uu Tryz.prog 253 [.one (rp (Ar k.x k.d)),.one (rp (Ar k.y k.d))] [.agg (rcl k)]:=by
 have hlx:=hs.c.lx;have hly:=hs.c.ly;have hds:=hs.c.d;have hxy:Bd 100000 (k.x++k.y):=λz hz=>by rcases Qu.1 hz with h | h; exact hs.c.x z h; exact hs.c.y z h
 have hfx:(frow (Ar k.x k.d)).length=k.x.length:=by rw [Ts,Mw]
 have hfy:(frow (Ar k.y k.d)).length=k.y.length:=by rw [Ts,Mw]
 have hfl:(frow (Ar (k.x++k.y) k.d)).length=k.x.length+k.y.length:=by rw [Ts,Mw,Q3]
 have hd0:=hs.d0;refine Gs Tryz.func253 rfl ?_;refine go tt [.c [] (C3 (n:=1) (by decide)),.s (sz:=4) (Qgb _),.s (sz:=4) (Qgb _)] rfl (by simp [Us,hfx,hfy]; omega) ?_;rw [Zgt];refine lp (S:=Nat) 3 (λL1 i=>(15,.v (.one (.int .i64 (i:Int))))::L1) (λi=>[.blk 55 [.nils,.nils,.nils,.nils,.bool false,.nils],.blk 33 (ri (lcd (k.x++k.y) k.d i)),.row false 35 4 (frow (Ar (k.x++k.y) k.d))]) (λi=>k.x.length+k.y.length-i) (λi=>i<=k.x.length+k.y.length) 0 (Qh _) rfl (λ_ _=>rfl) rfl λi hi=>?_
 have hll:(k.x++k.y).length=k.x.length+k.y.length:=Q3;by_cases h:i<k.x.length+k.y.length
 ·have hlt:i<(k.x++k.y).length:=by omega
  have hqe:=Qdf (x:=(k.x++k.y)) (d:=k.d) (s:=100000) hxy hs.c.d (by decide);have hqi:=hqe.get (Qe4 hlt);obtain ⟨D,hD⟩:=nmE (((((k.x++k.y).getD i 0:Int):Rat) / (k.d:Rat)));have hg:=Lx (Qe4 (d:=k.d) hlt);have es:lcd (k.x++k.y) k.d (i+1)=lcd (k.x++k.y) k.d i*(D.den:Int) / ((Int.gcd (lcd (k.x++k.y) k.d i) (D.den:Int):Nat):Int):=by rw [hD]; rfl
  rw [<-hD] at hqi hg;have hq2:=hqi.2;have hli:=Qc (Zfm (z:=(k.x++k.y)) hs.d0 (i:=i) (by omega)) hs.c.d;have hg0:((Int.gcd (lcd (k.x++k.y) k.d i) (D.den:Int):Nat):Int)≠0:=by have:=Int.gcd_ne_zero_right (a:=(lcd (k.x++k.y) k.d i)) (Ca D); omega
  have hmu:=Fo (lcd (k.x++k.y) k.d i) (D.den:Int);refine go tt [.t (decide_eq_true (by omega)),.i i,.x hg,.c [] (S9 (a:=lcd (k.x++k.y) k.d i) (b:=(D.den:Int)) (by omega) (by omega)),.i i,.x hg,.c [] (Qj1 (a:=lcd (k.x++k.y) k.d i) (b:=(D.den:Int)) (by omega) (by omega)),.c [] (Qfw (by omega) (Qc (Qmw _ _ (Ca D) hq2) (by decide)) hg0 (Zfl _ _))] rfl (by simp [Us,hfl]; omega) ?_;exact rd (i+1) (by omega) h (by rw [es]; rfl)
 have e:lcd (k.x++k.y) k.d i=k.d:=by rw [show i=(k.x++k.y).length by omega]; exact Zfk hs.d0 hs.n.2.2.2
 rw [e];have hx:=Qsz (p:=Ar k.x k.d) (c:=k.d) ((Qdf (s:=100000) hs.c.x hs.c.d (by decide)).mono (by omega)) (by omega) (by rw [Mw]; omega);have hy:=Qsz (p:=Ar k.y k.d) (c:=k.d) ((Qdf (s:=100000) hs.c.y hs.c.d (by decide)).mono (by omega)) (by omega) (by rw [Mw]; omega);rw [Qmb hs.n.1 (by omega)] at hx;rw [Qmb hs.n.2.1 (by omega)] at hy;exact en tt [.f (decide_eq_false (by omega)),.c [] hx,.c [] (Zh2 (p:=k.x) (Ut hs.c.x (by omega)) (by omega)),.c [] hy,.c [] (Zh2 (p:=k.y) (Ut hs.c.y (by omega)) (by omega)),.c [] (Q3z (z:=k.d) (by omega))] rfl rfl trivial
theorem Qrl (k:Crv):G6 1 k.d'=((1:Int):Rat) / (k.d':Rat):=by
 unfold G6; rw [if_neg k.d'_ne,I7]
theorem Qh2 {x:List Int} {g d:Int} (hg:g≠0) (hd:d≠0) (hgd:g∣d) (tx:U0 x) (hx:∀ z∈x,g∣z):Mh (zp x) (((1:Int):Rat) / (d:Rat))=Ar (trim (x.map (· / g))) (d / g):=by
 have ht:U0 (x.map (· / g)):=Ek tx hg hx;rw [show trim (x.map (· / g))=x.map (· / g) from ht];obtain ⟨e,rfl⟩:=hgd;have he:e≠0:=λh=>hd (by rw [h,Ks])
 rw [Xl _ hg];have hgq:(g:Rat)≠0:=λh=>hg (by exact_mod_cast h)
 have heq:(e:Rat)≠0:=λh=>he (by exact_mod_cast h)
 unfold Mh;rw [Sl];have hval:∀ i,i<x.length->(zp x).getD i 0*(((1:Int):Rat) / ((g*e:Int):Rat))=(((x.map (· / g)).getD i 0:Int):Rat) / (e:Rat):=λi hi=>by
  rw [Qfl];have hz:=Qbs hi;have hm:(x.map (· / g)).getD i 0=x.getD i 0 / g:=by simp [Qg,Qe hi]
  obtain ⟨w,hw⟩:=hx _ (Qa hz);rw [hm,hw,Xl _ hg,Xs,Xs];have:((1:Int):Rat)=1:=rfl;rw [this];grind
 have htab:O1 (λi=>(zp x).getD i 0*(((1:Int):Rat) / ((g*e:Int):Rat))) x.length=Ar (x.map (· / g)) e:=by
  apply Xe;intro i;by_cases hi:i<x.length
  ·rw [Qe4 (by simpa using hi)];simp only [O1,Q7,Xu hi,Vp];rw [hval i hi]
  ·rw [Qt (by rw [Qe9]; omega),Qt (by rw [Mw]; simp; omega)]
 rw [htab];rcases Qz x.length with h0 | h0
 ·have:=Qi h0; subst this; rfl
 ·have hl:(Ar (x.map (· / g)) e).length=x.length:=by rw [Mw,Q5]
  have:=Qg3 (l:=Ar (x.map (· / g)) e) (m:=x.length) (by omega) (λj y hj hy=>by rw [Qt (by omega)] at hy; cases hy) (λ_=>⟨_,Qe4 (z:=x.map (· / g)) (d:=e) (i:=x.length-1) (by rw [Q5]; omega),λh=>by
   have h3:(((x.map (· / g)).getD (x.length-1) 0:Int):Rat)=0:=by grind
   have h4:(x.map (· / g)).getD (x.length-1) 0=0:=by exact_mod_cast h3
   have:=Hi ht (by rw [Q5]; omega);rw [Q5] at this;exact this h4⟩)
  rw [this,Ql (by omega)]
theorem Zbf {k:Crv} (hk:Cs 100000 16 k):Qs 40000000 (G6 1 k.d'):=by
 have h1:=Qqq hk.d (by decide);rw [Qrl,I7];exact Qs.divInt (by decide) (by omega) (by decide)
theorem Crv.g_dvd' (k:Crv) {z:Int} (h:z∈k.d'::(trim k.x++trim k.y)):k.g∣z:=Yp (k.g_dvd z h)
theorem Zbs (k:Crv):Mh (zp (trim k.x)) (G6 1 k.d')=Ar k.norm.x k.norm.d:=by
 rw [Qrl];exact Qh2 k.g_ne k.d'_ne (k.g_dvd' (by simp)) (Rf _) (λz hz=>k.g_dvd' (by simp [hz]))
theorem Zbt (k:Crv):Mh (zp (trim k.y)) (G6 1 k.d')=Ar k.norm.y k.norm.d:=by
 rw [Qrl];exact Qh2 k.g_ne k.d'_ne (k.g_dvd' (by simp)) (Rf _) (λz hz=>k.g_dvd' (by simp [hz]))
theorem Q2y {k:Crv} (h:Cs 100000 16 k):Rs k.norm:=⟨k.nml,h.norm (by decide)⟩
theorem Zei {k:Crv} (hk:Cs 100000 16 k):Uu Tryz.prog 199 [.agg (cl4 k)] [.agg (rcl (Crv.norm k))]:=by
 have hlx:=hk.lx;have hly:=hk.ly;have hkd:=hk.d;have hrq:=Zbf hk;have hdi:U6 k.d'<=100000:=Qqq hk.d (by decide);have hx:=Az (p:=zp (trim k.x)) (c:=G6 1 k.d') (Ox (Ut (Tl hk.x) (by omega)) (by omega)) hrq (by rw [Sl]; have:=Hu k.x; omega);have hy:=Az (p:=zp (trim k.y)) (c:=G6 1 k.d') (Ox (Ut (Tl hk.y) (by omega)) (by omega)) hrq (by rw [Sl]; have:=Hu k.y; omega);rw [Zbs] at hx;rw [Zbt] at hy;have c1:=C3 (n:=1) (by decide);have cm:=Qdu (a:=1) (b:=k.d') (by decide) (by omega);by_cases h0:k.d=0
 ·have e:k.d'=1:=by unfold Crv.d'; rw [if_pos h0]
  rw [e] at hx hy cm;exact w tt Tryz.func199 rfl [.c [] (Qjt (z:=k.d) (by omega)),.c [] Mr,.t (decide_eq_true h0),.c [] c1,.c [] c1,.c [] cm,.c [] (Qbo (p:=k.x) (Ut hk.x (by omega)) (by omega)),.c [] hx,.c [] (Qbo (p:=k.y) (Ut hk.y (by omega)) (by omega)),.c [] hy,.c [] (Qnf (Q2y hk))] rfl rfl trivial
 ·have e:k.d'=k.d:=by unfold Crv.d'; rw [if_neg h0]
  rw [e] at hx hy cm;exact w tt Tryz.func199 rfl [.c [] (Qjt (z:=k.d) (by omega)),.c [] Mr,.f (decide_eq_false h0),.c [] c1,.c [] cm,.c [] (Qbo (p:=k.x) (Ut hk.x (by omega)) (by omega)),.c [] hx,.c [] (Qbo (p:=k.y) (Ut hk.y (by omega)) (by omega)),.c [] hy,.c [] (Qnf (Q2y hk))] rfl rfl trivial
theorem Q7y {k:Crv} {id:Int} (hk:Cs 100000 16 k):Uu Tryz.prog 126 [.agg (cl4 k++[.int .i64 id])] [.agg (Dc ⟨Crv.norm k,id⟩)] :=
 w tt Tryz.func126 rfl [.c [] (Zei hk)] rfl rfl trivial
theorem Qcy {k:Crv} (hk:Rs k):Uu Tryz.prog 72 [.agg (rcl k)] [.one (rp (zp k.x)),.one (rp (zp k.y)),.one (rp (zp [k.d]))]:=by
 have hlx:=hk.c.lx;have hly:=hk.c.ly;have hkd:=hk.c.d;have hx:=Qbo (p:=k.x) (Ut hk.c.x (by omega)) (by omega);have hy:=Qbo (p:=k.y) (Ut hk.c.y (by omega)) (by omega);rw [show trim k.x=k.x from hk.n.1] at hx;rw [show trim k.y=k.y from hk.n.2.1] at hy;exact w tt Tryz.func72 rfl [.c [] (Qjt (z:=k.d) (by omega)),.c [] (C3 (n:=1) (by decide)),.c [] (Mi (n:=k.d)),.c [] hx,.c [] hy] rfl rfl trivial
theorem Qyc {p:List Int} {d:Int} (tp:U0 p) (hd:d≠0):Fx p [d]=Fg p d:=by
 refine Qam (Ha _ _) (Fu _ _) λm=>?_
 unfold Fg;rw [Tq];unfold Fx;by_cases h0:p.length=0
 ·rw [if_pos (.inl h0),if_neg (by omega)]; rfl
 ·rw [if_neg (by simp; exact λh=>h0 (by rw [h]; rfl)),Ln];show (Ny p [d] (List.replicate (p.length+1-1) 0) p.length).getD m 0=_;have key:∀ i,i<=p.length->(Ny p [d] (List.replicate (p.length+1-1) 0) i).getD m 0=if m<i then p.getD m 0*d else 0:=by
   intro i
   induction i with
   | zero=>intro _; simp only [Ny]; rw [Tz,if_neg (by omega)]
   |
    succ i ih =>
    intro hi;simp only [Ny];rw [Qgr _ _ _ _ _ _ (by rw [Nz,X1]; show i+1<=_; omega),ih (by omega)];show (if i<=m/\m<i+1 then (if m<i then p.getD m 0*d else 0)+p.getD i 0*[d].getD (m-i) 0 else _)=_;by_cases e:m=i
    ·subst e;rw [if_pos ⟨Qm _,by omega⟩,if_neg (by omega),if_pos (by omega),Jq];show 0+p.getD m 0*d=_;omega
    ·rw [if_neg (by omega)];by_cases h1:m<i
     ·rw [if_pos h1,if_pos (by omega)]
     ·rw [if_neg h1,if_neg (by omega)]
  rw [key _ (Qm _)]
theorem Zmh {s:Nat} {d:Int} (h:U6 d<=s):Bd s [d]:=λz hz=>by simp at hz; subst hz; exact h
theorem Qp1 {p:List Int} {d:Int} (tp:U0 p) (hd:d≠0) (hp:Bd 9000000 p) (hs:U6 d<=9000000) (hl:p.length<=1000):Uu Tryz.prog 141 [.one (rp (zp p)),.one (rp (zp [d]))] [.one (rp (zp (Fg p d)))]:=by
 have h:=Qw2 (p:=p) (q:=[d]) (by omega) (by show 1<=1000000; decide) hp (Zmh hs) (by decide);rwa [Qyc tp hd] at h
theorem Rs.dn {k:Crv} (h:Rs k):k.d≠0:=by have:=h.d0; omega
theorem Q0i {p q:List Int} (hp:Bd 19000000 p) (hq:Bd 19000000 q) (hlp:p.length<=1000000) (hlq:q.length<=1000000):Uu Tryz.prog 144 [.one (rp (zp p)),.one (rp (zp q))] [.one (rp (zp (Px p q)))]:=by
 have h:=Qw5 (Ox hp (by decide)) (Ox hq (by decide)) (by rw [Sl]; exact hlp) (by rw [Sl]; exact hlq);rwa [Q20] at h
theorem Qac {a b:Crv} (ha:Rs a) (hb:Rs b):Uu Tryz.prog 74 [.agg (rcl a),.agg (rcl b)] [.one (rp (zp (Hk a b)))] :=
 w tt Tryz.func74 rfl [.c [] (Qcy ha),.c [] (Qcy hb),.c [] (Qp1 (p:=b.x) (d:=a.d) hb.n.1 ha.dn (Ut hb.c.x (by decide)) (Qc ha.c.d (by decide)) (by have:=hb.c.lx; omega)),.c [] (Qp1 (p:=a.x) (d:=b.d) ha.n.1 hb.dn (Ut ha.c.x (by decide)) (Qc hb.c.d (by decide)) (by have:=ha.c.lx; omega)),.c [] (Q0i (p:=Fg b.x a.d) (q:=Fg a.x b.d) (Ut (Gu hb.c.x ha.c.d) (by decide)) (Ut (Gu ha.c.x hb.c.d) (by decide)) (by have:=Gb b.x a.d; have:=hb.c.lx; omega) (by have:=Gb a.x b.d; have:=ha.c.lx; omega))] rfl rfl trivial
theorem Qj4 {a b:Crv} (ha:Rs a) (hb:Rs b):Uu Tryz.prog 75 [.agg (rcl a),.agg (rcl b)] [.one (rp (zp (Hq a b)))] :=
 w tt Tryz.func75 rfl [.c [] (Qcy ha),.c [] (Qcy hb),.c [] (Qp1 (p:=b.y) (d:=a.d) hb.n.2.1 ha.dn (Ut hb.c.y (by decide)) (Qc ha.c.d (by decide)) (by have:=hb.c.ly; omega)),.c [] (Qp1 (p:=a.y) (d:=b.d) ha.n.2.1 hb.dn (Ut ha.c.y (by decide)) (Qc hb.c.d (by decide)) (by have:=ha.c.ly; omega)),.c [] (Q0i (p:=Fg b.y a.d) (q:=Fg a.y b.d) (Ut (Gu hb.c.y ha.c.d) (by decide)) (Ut (Gu ha.c.y hb.c.d) (by decide)) (by have:=Gb b.y a.d; have:=hb.c.ly; omega) (by have:=Gb a.y b.d; have:=ha.c.ly; omega))] rfl rfl trivial
theorem Qb3 {a b:Crv} (ha:Rs a) (hb:Rs b):Bd 200001 (Hk a b)/\(Hk a b).length<=16:=by
 refine ⟨Ut (Iw (Gu hb.c.x ha.c.d) (Gu ha.c.x hb.c.d)) (by omega),Qc (L8 _ _) ?_⟩;have:=Gb b.x a.d; have:=Gb a.x b.d; have:=ha.c.lx; have:=hb.c.lx; omega
theorem Qb0 {a b:Crv} (ha:Rs a) (hb:Rs b):Bd 200001 (Hq a b)/\(Hq a b).length<=16:=by
 refine ⟨Ut (Iw (Gu hb.c.y ha.c.d) (Gu ha.c.y hb.c.d)) (by omega),Qc (L8 _ _) ?_⟩;have:=Gb b.y a.d; have:=Gb a.y b.d; have:=ha.c.ly; have:=hb.c.ly; omega
end Orr
namespace Orr
open Go
structure RawInt where
 b:Bool
 l:List Nat
structure RawPt where
 x:List RawInt
 y:List RawInt
 d:RawInt
 id:Int
abbrev Qg0 (z:RawInt):List LV:=[.bool z.b,Zls z.l]
structure RawInt.Ok (z:RawInt):Prop where
 u:∀ u∈z.l,u<4294967296
structure RawPt.Ok (z:RawPt):Prop where
 x:∀ a∈z.x,a.Ok
 y:∀ a∈z.y,a.Ok
 d:z.d.Ok
 id:-9223372036854775808<=z.id/\z.id<=9223372036854775807
def RawInt.cut (z:RawInt):RawInt:=⟨z.b,z.l.take 1⟩
def Td (most:Int) (z:RawInt):Int:=match z.l with
 | []=>0
 | u::_=>if z.b=true then -((u:Int) % (most+1)) else (u:Int) % (most+1)
theorem Qc8 {most:Int} (h:0<=most) (z:RawInt):-most<=Td most z/\Td most z<=most:=by
 unfold Td
 split
 ·omega
 ·rename_i u _ _;have h1:=J4 (u:Int) (b:=most+1) (by omega);have h2:=Jb (u:Int) (b:=most+1) (by omega)
  split <;> omega
def Hg (most:Int) (l:List RawInt):List Int:=(l.take 3).map (Td most)
def Qej (most:Int) (x y:List RawInt) (d:RawInt):Crv:=⟨Hg most x,Hg most y,Td 3 d⟩
def Qbx (most:Int) (z:RawPt):Pt:=⟨Qej most z.x z.y z.d,z.id % 1000⟩
theorem Qht (most:Int) (l:List RawInt):(Hg most l).length<=3:=by unfold Hg; rw [List.length_map,List.length_take]; omega
theorem Qqx {most:Int} {l:List RawInt} {i:Nat} {z:RawInt} (hi:i<3) (h:l[i]? = some z):Hg most (l.take (i+1))=Hg most (l.take i)++[Td most z]:=by
 unfold Hg;rw [Wv,Wv,Kb (by omega),Kb (by omega),Zp,h];simp
theorem Qhs (most:Int) {l:List RawInt} {i:Nat} (h:l.length<=i\/3<=i):Hg most (l.take i)=Hg most l:=by
 unfold Hg;rw [Wv];rcases Nat.le_total 3 i with h3 | h3
 ·rw [Zt h3]
 ·rcases h with h | h
  ·rw [Kb h3,Ql (l:=l) (i:=i) (by omega),Ql (l:=l) (i:=3) (by omega)]
  ·rw [Kb h3,show i=3 by omega]
theorem Qhu {most:Int} {l:List RawInt} {z:Int} (hm:0<=most) (h:z∈Hg most l):-most<=z/\z<=most:=by
 obtain ⟨a,_,rfl⟩:=Zn.1 h;exact Qc8 hm a
theorem Qnl {most:Int} (hm:0<=most/\most<=999) (x y:List RawInt) (d:RawInt):Cs 10 3 (Qej most x y d):=by
 have key:∀ z:Int,-999<=z/\z<=999->U6 z<=10:=λz h=>T0.2 (by omega)
 refine ⟨λz hz=>?_,λz hz=>?_,?_,Qht _ _,Qht _ _⟩
 ·have:=Qhu hm.1 hz; exact key _ (by omega)
 ·have:=Qhu hm.1 hz; exact key _ (by omega)
 ·have:=Qc8 (most:=3) (by decide) d;show U6 (Td 3 d)<=10;exact key _ (by omega)
def Pk (n:Nat):List Pt->List Pt->List Pt
 | out,[]=>out
 | out,p::l=>if out.length<n then (if out.any (λx=>decide (x.id=p.id))=true then Pk n out l else Pk n (out++[p]) l) else out
theorem Oc {n:Nat}:∀ (l out:List Pt) (p:Pt),(Pk n out l).length<n->(Pk n out l).any (λx=>decide (x.id=p.id))=true->Pk n out (l++[p])=Pk n out l
 |
  [],out,p,h,ha=>by
  simp only [Pk] at h ha;show Pk n out [p]=out;simp only [Pk];rw [if_pos h,if_pos ha]
 |
  x::l,out,p,h,ha=>by
  show Pk n out (x::(l++[p]))=Pk n out (x::l);simp only [Pk] at h ha ⊢
  split
  ·rename_i h0;rw [if_pos h0] at h ha
   split
   ·rename_i h1;rw [if_pos h1] at h ha;exact Oc l out p h ha
   ·rename_i h1;rw [if_neg h1] at h ha;exact Oc l _ p h ha
  ·rfl
theorem Ai {n:Nat}:∀ (l out:List Pt) (p:Pt),(Pk n out l).length<n->(Pk n out l).any (λx=>decide (x.id=p.id))=false->Pk n out (l++[p])=Pk n out l++[p]
 |
  [],out,p,h,ha=>by
  simp only [Pk] at h ha;show Pk n out [p]=out++[p];simp only [Pk];rw [if_pos h,if_neg (by rw [ha]; simp)]
 |
  x::l,out,p,h,ha=>by
  show Pk n out (x::(l++[p]))=Pk n out (x::l)++[p];simp only [Pk] at h ha ⊢
  split
  ·rename_i h0;rw [if_pos h0] at h ha
   split
   ·rename_i h1;rw [if_pos h1] at h ha;exact Ai l out p h ha
   ·rename_i h1;rw [if_neg h1] at h ha;exact Ai l _ p h ha
  ·rename_i h0;rw [if_neg h0] at h;omega
theorem Qgd {n:Nat}:∀ (l m out:List Pt),n<=(Pk n out l).length->Pk n out (l++m)=Pk n out l
 |
  [],m,out,h=>by
  simp only [Pk] at h;show Pk n out m=out
  match m with
  | []=>rfl
  | p::m=>simp only [Pk]; rw [if_neg (by omega)]
 |
  x::l,m,out,h=>by
  show Pk n out (x::(l++m))=Pk n out (x::l);simp only [Pk] at h ⊢
  split
  ·rename_i h0;rw [if_pos h0] at h
   split
   ·rename_i h1;rw [if_pos h1] at h;exact Qgd l m out h
   ·rename_i h1;rw [if_neg h1] at h;exact Qgd l m _ h
  ·rfl
theorem Qap {n:Nat}:∀ (l out:List Pt),out.length<=n->(Pk n out l).length<=n
 | [],out,h=>h
 |
  x::l,out,h=>by
  simp only [Pk]
  split
  ·split
   ·exact Qap l out h
   ·exact Qap l _ (by rw [Q3]; show _+1<=_; omega)
  ·exact h
theorem Qd9 {n:Nat}:∀ (l out:List Pt) {p:Pt},p∈Pk n out l->p∈out\/p∈l
 | [],out,p,h=>.inl h
 |
  x::l,out,p,h=>by
  simp only [Pk] at h
  split at h
  ·split at h
   ·rcases Qd9 l out h with h | h
    ·exact .inl h
    ·exact .inr (Qj _ h)
   ·rcases Qd9 l _ h with h | h
    ·rcases Qu.1 h with h | h
     ·exact .inl h
     ·exact .inr (by rw [Qk.1 h]; exact Qx ..)
    ·exact .inr (Qj _ h)
  ·exact .inl h
def Qgx (n:Nat) (most:Int) (zs:List RawPt):List Pt:=Pk n [] (zs.map (Qbx most))
def Pt.nrm (p:Pt):Pt:=⟨p.c.norm,p.id⟩
end Orr
namespace Orr
def Tk (l:List Pt):Prop:=l.Pairwise λa b=>a.id<b.id
theorem Zfb (id:Int):has [] id=false:=rfl
theorem Qtx (p:Pt) (l:List Pt) (id:Int):has (p::l) id=if p.id<id then has l id else decide (p.id=id):=by
 by_cases h:p.id<id
 ·rw [if_pos h]; unfold has; simp only [Li]; rw [if_pos h]; simp
 ·rw [if_neg h]; unfold has; simp only [Li]; rw [if_neg h]; simp
theorem Za7 (p:Pt) (l:List Pt) (q:Pt):put (p::l) q=if p.id<q.id then p::put l q else q::p::l:=by
 unfold put;simp only [Li]
 split <;> simp
theorem Qqo:∀ {l:List Pt} {id:Int},Tk l->(has l id=true↔∃ p∈l,p.id=id)
 | [],id,_=>by simp [Zfb]
 |
  p::l,id,h=>by
  have h1:=Q6.1 h;rw [Qtx]
  split
  ·rename_i hlt;rw [Qqo h1.2];constructor
   ·rintro ⟨x,hx,e⟩; exact ⟨x,Qj _ hx,e⟩
   ·rintro ⟨x,hx,e⟩
    rcases Qo.1 hx with rfl | hx
    ·omega
    ·exact ⟨x,hx,e⟩
  ·rename_i hge;rw [decide_eq_true_iff];constructor
   ·intro e; exact ⟨p,Qx ..,e⟩
   ·rintro ⟨x,hx,e⟩
    rcases Qo.1 hx with rfl | hx
    ·exact e
    ·have:=h1.1 x hx; omega
theorem Ql7:∀ {l:List Pt} {q:Pt},Tk l->has l q.id=false->Tk (put l q)
 | [],q,_,_=>by simp [put,Li,Tk]
 |
  p::l,q,h,hn=>by
  have h1:=Q6.1 h;rw [Qtx] at hn;rw [Za7]
  split
  ·rename_i hlt;rw [if_pos hlt] at hn;refine Q6.2 ⟨λx hx=>?_,Ql7 h1.2 hn⟩;rcases Q2p hx with rfl | hx
   ·exact hlt
   ·exact h1.1 x hx
  ·rename_i hge;rw [if_neg hge,decide_eq_false_iff_not] at hn;refine Q6.2 ⟨λx hx=>?_,h⟩;rcases Qo.1 hx with rfl | hx
   ·omega
   ·have:=h1.1 x hx; omega
theorem Q1z {l:List Pt} {q p:Pt} (h:p=q\/p∈l):p∈put l q:=by
 unfold put;rcases h with rfl | h
 ·simp
 ·rw [<-Zb (Li l q.id) l] at h;simp only [Qu,Qo] at h ⊢;rcases h with h | h
  ·exact .inl h
  ·exact .inr (.inr h)
theorem Za5 {l:List Pt} {q:Pt} (h:l.length<6):Ed l q=if has l q.id=true then 6 else 0:=by
 unfold Ed
 split
 ·rfl
 ·rw [if_neg (by omega)]
theorem Qok:∀ (qs acc:List Pt),Tk acc->acc.length+qs.length<=6 ->
 ((Se acc qs).2=0/\Tk (Se acc qs).1/\(Se acc qs).1.length=acc.length+qs.length/\qs.Pairwise (λa b=>a.id≠b.id)/\∀ q∈qs,∀ p∈acc,p.id≠q.id) \/
 ((Se acc qs).2=6/\¬(qs.Pairwise (λa b=>a.id≠b.id)/\∀ q∈qs,∀ p∈acc,p.id≠q.id))
 | [],acc,hs,_=>.inl ⟨rfl,hs,rfl,List.Pairwise.nil,λ_ h=>absurd h (by simp)⟩
 |
  q::qs,acc,hs,hl=>by
  simp only [Q8] at hl;have he:=Za5 (l:=acc) (q:=q) (by omega);simp only [Se];cases hh:has acc q.id with
  |
   true =>
   rw [hh,if_pos rfl] at he;rw [he,if_neg (by decide)];obtain ⟨p,hp,e⟩:=(Qqo hs).1 hh;exact .inr ⟨rfl,λh=>h.2 q (Qx ..) p hp e⟩
  |
   false =>
   rw [hh,if_neg (by decide)] at he;rw [he,if_pos rfl];have hno:∀ p∈acc,p.id≠q.id:=λp hp e=>by
    have:=(Qqo hs).2 ⟨p,hp,e⟩;rw [hh] at this; cases this
   have By:=Q2o acc q;rcases Qok qs (put acc q) (Ql7 hs hh) (by omega) with ⟨h1,h2,h3,h4,h5⟩ | ⟨h1,h2⟩
   ·refine .inl ⟨h1,h2,by simp only [Q8]; omega,Q6.2 ⟨λx hx=>h5 x hx q (Q1z (.inl rfl)),h4⟩,λx hx p hp=>?_⟩;rcases Qo.1 hx with rfl | hx
    ·exact hno p hp
    ·exact h5 x hx p (Q1z (.inr hp))
   ·refine .inr ⟨h1,λh=>h2 ⟨(Q6.1 h.1).2,λx hx p hp=>?_⟩⟩;rcases Q2p hp with rfl | hp
    ·exact (Q6.1 h.1).1 x hx
    ·exact h.2 x (Qj _ hx) p hp
theorem Q42 {qs:List Pt} (hl:qs.length<=6) :
 ((Se [] qs).2=0/\Tk (Se [] qs).1/\(Se [] qs).1.length=qs.length/\qs.Pairwise (λa b=>a.id≠b.id))\/((Se [] qs).2=6/\¬qs.Pairwise (λa b=>a.id≠b.id)):=by
 rcases Qok qs [] List.Pairwise.nil (by simpa using hl) with ⟨h1,h2,h3,h4,_⟩ | ⟨h1,h2⟩
 ·exact .inl ⟨h1,h2,by simpa using h3,h4⟩
 ·exact .inr ⟨h1,λh=>h2 ⟨h,λ_ _ _ hp=>absurd hp (by simp)⟩⟩
end Orr
namespace Orq
open Orr Go
theorem Znh {a b c:Tm} (hb:Cut (Ff b)) (hc:Cut (Ff c)) (h:Di a b) (h':Di b c):Di a c:=by
 obtain ⟨q,q1,q2⟩:=h;obtain ⟨r,r1,r2⟩:=h';exact ⟨q,q1,hc.mono' (hb.lt q2 r1) (by omega)⟩
theorem Qxv {a b:Tm} (ha:Cut (Ff a)) (hb:Cut (Ff b)) (h:¬Di b a):Leq a (Ff b):=λq hq=>by
 rcases ha.val q with e | e | e
 ·exact absurd ⟨q,hq,e⟩ h
 ·obtain ⟨r,r1,r2⟩:=hb.dn q hq;exact absurd ⟨r,r2,ha.mono' r1 (by omega)⟩ h
 ·exact e
theorem Q1q {a b c:Tm} (_:Cut (Ff a)) (hb:Cut (Ff b)) (hc:Cut (Ff c)) (h:Di a b) (h':¬Di c b):Di a c:=by
 obtain ⟨q,q1,q2⟩:=h;refine ⟨q,q1,?_⟩;have hl:=Qxv hb hc h';rcases hc.val q with e | e | e
 ·exact e
 ·obtain ⟨r,r1,r2⟩:=hb.up q q2;have h1:=hc.mono q r r1 (by omega);have:=hl r h1;omega
 ·have:=hl q e; omega
theorem Zkr {a b:Tm} (ha:Cut (Ff a)) (hb:Cut (Ff b)) (h:Di a b):¬Di b a:=λh'=>Qa1 ha hb h h'
theorem Quo {p:List Int} {a b:Tm} {o:Option Tm} (ha:Cut (Ff a)) (hb:Cut (Ff b)) (hab:¬Di b a) (h:Dt p a o) (ho:∀ t,o=some t->Di b t):Dt p b o:=by
 have hl:=Qxv ha hb hab;cases o with
 |
  none =>
  rcases h with h | ⟨s,s0,h⟩
  ·exact .inl h
  ·exact .inr ⟨s,s0,λc hc hbc=>h c hc λq hq=>hl q (hbc q hq)⟩
 |
  some t =>
  obtain ⟨h1,h2,_,s,s0,h4,h5⟩:=h;exact ⟨h1,h2,ho t rfl,s,s0,λc hc hbc hm=>h4 c hc (λq hq=>hl q (hbc q hq)) hm,h5⟩
theorem Qn8 {p:List Int} {a b:Tm} {o:Option Tm} (hp:Dp p) (ha:Va a) (hb:Va b) (hab:¬Di b a) (h:Dt p a o) (ho:∀ t,o=some t->Di b t):Tg (G9 b) p=Tg (G9 a) p:=by
 by_cases h0:p.length=0
 ·obtain rfl:=Qi h0; rfl
 obtain ⟨ra,_⟩:=Od ha hp h0;obtain ⟨rb,_⟩:=Od hb hp h0;have hl:=Qxv ha.cut hb.cut hab;cases o with
 |
  none =>
  rcases h with h | ⟨s,s0,h⟩
  ·exact absurd (by rw [h]; rfl) h0
  ·exact (Q2z rb (h _ hb.cut hl)).trans (Q2z ra (h _ ha.cut λ_ h=>h)).symm
 |
  some t =>
  obtain ⟨h1,h2,h3,s,s0,h4,h5⟩:=h;exact (Q2z rb (h4 _ hb.cut hl (ho t rfl))).trans (Q2z ra (h4 _ ha.cut (λ_ h=>h) h3)).symm
theorem Qvs (t q:Rat):Ff (tq t) q=G7 t q:=Et (t:=tq t) rfl q
theorem Qkb {a:Tm} {t:Rat} (ha:Cut (Ff a)):0<Ff a t↔Di (tq t) a:=by
 constructor
 ·intro h;have h1:Ff a t=1:=by rcases ha.val t with e | e | e <;> omega
  obtain ⟨r,r1,r2⟩:=ha.up t h1;exact ⟨r,by rw [Qvs]; rcases C5 t r with ⟨e,e'⟩ | ⟨e,e'⟩ | ⟨e,e'⟩ <;> first | exact e | (exfalso; grind),r2⟩
 ·rintro ⟨q,q1,q2⟩
  rw [Qvs] at q1;have:t<q:=by rcases C5 t q with ⟨e,e'⟩ | ⟨e,e'⟩ | ⟨e,e'⟩ <;> first | exact e' | omega
  have:=ha.mono' this (by omega);omega
open Classical in
noncomputable def mu (T:List Tm) (a:Tm):Nat:=(T.filter λt=>decide (Di a t)).length
theorem Qnw {α:Type} {p q:α->Bool} (h:∀ x,p x=true->q x=true):∀ l:List α,(l.filter p).length<=(l.filter q).length
 | []=>Qm _
 |
  x::l=>by
  have ih:=Qnw h l;by_cases hp:p x=true
  ·rw [X2 hp,X2 (h x hp)]; simp; exact ih
  ·rw [Jw hp];by_cases hq:q x=true
   ·rw [X2 hq]; simp; omega
   ·rw [Jw hq]; exact ih
theorem Qnx {α:Type} {p q:α->Bool} (h:∀ x,p x=true->q x=true) {y:α} (hp:p y=false) (hq:q y=true):∀ {l:List α},y∈l->(l.filter p).length<(l.filter q).length
 | [],hy=>by cases hy
 |
  x::l,hy=>by
  rcases Qo.1 hy with rfl | hy
  ·rw [Jw (by simp [hp]),X2 hq];have:=Qnw h l;simp; omega
  ·have ih:=Qnx h hp hq hy;by_cases hp:p x=true
   ·rw [X2 hp,X2 (h x hp)]; simp; exact ih
   ·rw [Jw hp];by_cases hq:q x=true
    ·rw [X2 hq]; simp; omega
    ·rw [Jw hq]; exact ih
open Classical in
theorem Zim {T:List Tm} {a b:Tm} (ha:Cut (Ff a)) (hb:Cut (Ff b)) (hT:∀ t∈T,Cut (Ff t)) (h:Di a b) (hm:b∈T):mu T b<mu T a:=by
 have key:∀ l:List Tm,(∀ t∈l,Cut (Ff t))->l.filter (λt=>decide (Di b t))=l.filter (λt=>decide (Cut (Ff t)/\Di b t)):=λl hl=>List.filter_congr λx hx=>by simp [hl x hx]
 have key2:∀ l:List Tm,(∀ t∈l,Cut (Ff t))->l.filter (λt=>decide (Di a t))=l.filter (λt=>decide (Cut (Ff t)/\Di a t)):=λl hl=>List.filter_congr λx hx=>by simp [hl x hx]
 unfold mu;rw [key T hT,key2 T hT];refine Qnx (λx hx=>?_) (y:=b) ?_ ?_ hm
 ·have hx:=of_decide_eq_true hx;exact decide_eq_true ⟨hx.1,Znh hb hx.1 h hx.2⟩
 ·exact decide_eq_false λhx=>Qa1 hb hb hx.2 hx.2
 ·exact decide_eq_true ⟨hb,h⟩
def tms (p:List Int):List Tm:=(Qdk p).getD []
structure KInv (c:Cr):Prop where
 ok:CrOk c
 k:∀ w∈c.l,w.known=true->Dt w.c.p c.now w.fails/\∀ t,w.fails=some t->t∈tms w.c.p
theorem Qx4 {p:List Int} (h:Cp p) {a:Tm} (ha:Va a):∃ r,Qhw p a=some r/\Dt p a r/\∀ t,r=some t->t∈tms p:=by
 obtain ⟨l,l1,_,_,l3⟩:=Qbi h;obtain ⟨r,r1,r2,r3⟩:=l3 a ha;refine ⟨r,?_,r2,λt ht=>by unfold tms; rw [l1]; exact r3 t ht⟩;unfold Qhw; rw [l1]; exact r1
theorem Zlr {p:List Int} (h:Cp p):∀ t∈tms p,Va t:=by
 obtain ⟨l,l1,_,l2,_⟩:=Qbi h;unfold tms; rw [l1]; exact l2
theorem Q1u {now:Tm} (hn:Va now):∀ {l:List Wt},(∀ w∈l,WtOk w)->(∀ w∈l,w.known=true->Dt w.c.p now w.fails/\∀ t,w.fails=some t->t∈tms w.c.p) ->
 ∃ ws,Qa0 now l=some ws/\ws.map (·.c)=l.map (·.c)/\∀ w∈ws,w.known=true/\Dt w.c.p now w.fails/\∀ t,w.fails=some t->t∈tms w.c.p
 | [],_,_=>⟨[],rfl,rfl,λw hw=>by cases hw⟩
 |
  w::l,h,h'=>by
  obtain ⟨ws,w1,w2,w3⟩:=Q1u hn (λv hv=>h v (Qj _ hv)) (λv hv=>h' v (Qj _ hv));by_cases hk:w.known=true
  ·refine ⟨w::ws,by simp only [Qa0,hk,if_true,w1]; rfl,by simp [w2],λv hv=>?_⟩;rcases Qo.1 hv with rfl | hv
   ·exact ⟨hk,h' v (by simp) hk⟩
   ·exact w3 v hv
  ·obtain ⟨r,r1,r2,r3⟩:=Qx4 (h w (by simp)).p hn;refine ⟨⟨w.c,true,r⟩::ws,by simp only [Qa0]; rw [if_neg hk,r1,w1]; rfl,by simp [w2],λv hv=>?_⟩;rcases Qo.1 hv with rfl | hv
   ·exact ⟨rfl,r2,r3⟩
   ·exact w3 v hv
theorem Q1m {at_:Tm} (ha:Va at_) {x:Ct}:∀ {l:List Wt},(∀ w∈l,WtOk w)->∃ w,Lz l x at_=some w/\w.c=x
 | [],_=>⟨fresh x,rfl,rfl⟩
 |
  v::l,h=>by
  obtain ⟨w,w1,w2⟩:=Q1m ha (x:=x) λv hv=>h v (Qj _ hv)
  simp only [Lz]
  split
  ·cases hf:v.fails with
   | none=>exact ⟨_,rfl,rfl⟩
   |
    some t =>
    obtain ⟨c,c1,_⟩:=Qdy ((h v (by simp)).f t hf) ha;dsimp only;rw [c1];show ∃ w,(if 0<c then some ⟨x,true,some t⟩ else Lz l x at_)=some w/\w.c=x
    split
    ·exact ⟨_,rfl,rfl⟩
    ·exact ⟨w,w1,w2⟩
  ·exact ⟨w,w1,w2⟩
theorem Qli {at_:Tm} (ha:Va at_) {ol:List Wt} (ho:∀ w∈ol,WtOk w):∀ l:List Ct,∃ ws,E6 ol at_ l=some ws/\ws.map (·.c)=l
 | []=>⟨[],rfl,rfl⟩
 |
  x::l=>by
  obtain ⟨w,w1,w2⟩:=Q1m ha (x:=x) ho;obtain ⟨ws,s1,s2⟩:=Qli ha ho l;exact ⟨w::ws,by simp only [E6,w1,s1]; rfl,by simp [w2,s2]⟩
theorem Q4u {out:List Ct} {c x:Ct}:x∈Qc6 out c↔x=c\/x∈out:=by
 have h:x∈out↔x∈out.take (Qa8 out c out.length)\/x∈out.drop (Qa8 out c out.length):=by
  rw [<-Qu,Zb]
 simp only [Qc6,Qu,Qo,h];constructor
 ·rintro (h | h | h)
  ·exact .inr (.inl h)
  ·exact .inl h
  ·exact .inr (.inr h)
 ·rintro (h | h | h)
  ·exact .inr (.inl h)
  ·exact .inl h
  ·exact .inr (.inr h)
theorem Qn0:∀ (l acc:List Ct) {y:Ct},y∈l.foldl Qc6 acc↔y∈l\/y∈acc
 | [],acc,y=>by simp
 |
  c::l,acc,y=>by
  simp only [Z6];rw [Qn0 l,Q4u,Qo];constructor
  ·rintro (h | h | h)
   ·exact .inl (.inr h)
   ·exact .inl (.inl h)
   ·exact .inr h
  ·rintro ((h | h) | h)
   ·exact .inr (.inl h)
   ·exact .inl h
   ·exact .inr (.inr h)
theorem Qpb {l:List Ct} {x:Ct}:x∈Fz l↔x∈l:=by unfold Fz; rw [Qn0]; simp
theorem Zkw {ws:List Wt} (hw:∀ w∈ws,WtOk w):∃ o,Qun ws=some o/\match o with
 | none=>∀ w∈ws,w.fails=none
 | some a=>Va a/\(∃ w∈ws,w.fails=some a)/\∀ w∈ws,∀ t,w.fails=some t->¬Di t a:=by
 have hv:∀ t∈ws.filterMap (·.fails),Va t:=λt ht=>by
  obtain ⟨w,w1,w2⟩:=Jo.1 ht;exact (hw w w1).f t w2
 unfold Qun;cases hf:ws.filterMap (·.fails) with
 |
  nil =>
  refine ⟨none,rfl,λw h=>?_⟩;cases e:w.fails with
  | none=>rfl
  |
   some t =>
   have:t∈ws.filterMap (·.fails):=Jo.2 ⟨w,h,e⟩;rw [hf] at this; cases this
 |
  cons b l =>
  rw [hf] at hv;obtain ⟨m,m1,m2,m3⟩:=Qgl l b hv;refine ⟨some m,by show (Of b l).map some=_; rw [m1]; rfl,hv m m2,?_,λw h t e=>?_⟩
  ·rw [<-hf] at m2;exact Jo.1 m2
  ·exact m3 t (by rw [<-hf]; exact Jo.2 ⟨w,h,e⟩)
theorem Zjw {t a:Tm} (ht:Va t) (ha:Va a) {c:Int} (h:Qfy t a=some c) (h0:0<c):Di a t:=by
 obtain ⟨c',c1,c2⟩:=Qdy ht ha;rw [h] at c1; injection c1 with c1; subst c1;rcases c2 with ⟨e,_⟩ | ⟨e,_⟩ | ⟨_,e⟩
 ·omega
 ·omega
 ·exact e
theorem Zfj {ol ws:List Wt} {now a:Tm} {l:List Ct} (hn:Va now) (ha:Va a) (hna:¬Di a now) (ho:∀ w∈ol,WtOk w) (hk:∀ w∈ol,w.known=true->Dt w.c.p now w.fails/\∀ t,w.fails=some t->t∈tms w.c.p) (h:E6 ol a l=some ws) :
 ∀ w∈ws,w.known=true->Dt w.c.p a w.fails/\∀ t,w.fails=some t->t∈tms w.c.p:=by
 obtain ⟨h1,h2⟩:=Qeh h;intro w hw hkn;obtain ⟨i,hi⟩:=Yg hw;have hil:i<l.length:=by rw [<-h1]; exact (Qd.1 hi).1
 obtain ⟨v,h3,h4⟩:=h2 i _ (Qe hil);rw [hi] at h4; injection h4 with h4; subst h4;rcases Qlh h3 with e | ⟨v,v1,v2,v3,e,v5⟩
 ·rw [e] at hkn; cases hkn
 ·obtain ⟨k1,k2⟩:=hk v v1 v2;rw [e];show Dt (l[i]).p a v.fails/\∀ t,v.fails=some t->t∈tms (l[i]).p;rw [<-v3];refine ⟨Quo hn.cut ha.cut hna k1 λt ht=>?_,k2⟩;obtain ⟨c,c1,c2⟩:=v5 t ht;exact Zjw ((ho v v1).f t ht) ha c1 c2
structure Stab {β:Type} (Bc:Tm->List Ct) (Br:Tm->β):Prop where
 ok:BuildOk Bc
 fin:∃ Ps:List (List Int),(∀ p∈Ps,Cp p)/\∀ a,Va a->∀ x∈Bc a,x.p∈Ps
 st:∀ a b,Va a->Va b->(∀ x∈Bc a,Tg (G9 b) x.p=Tg (G9 a) x.p)->Bc b=Bc a/\Br b=Br a
structure KSt {β:Type} (Bc:Tm->List Ct) (Br:Tm->β) (c:Cr) (r1:β):Prop where
 inv:KInv c
 cs:c.l.map (·.c)=Fz (Bc c.now)
 r:r1=Br c.now
inductive Evs (Bc:Tm->List Ct) (t:Rat):Tm->List Tm->Prop
 | nil {a:Tm} (h:∀ x∈Bc a,∃ o,Dt x.p a o/\∀ u,o=some u->Di (tq t) u):Evs Bc t a []
 | cons {a e:Tm} {E:List Tm} (he:Va e) (h1:Di a e) (h2:¬Di (tq t) e) (h3:∀ x∈Bc a,∃ o,Dt x.p a o/\∀ u,o=some u->¬Di u e) (h4:∃ x∈Bc a,Dt x.p a (some e)) (h5:Evs Bc t e E):Evs Bc t a (e::E)
theorem Zm7 {β:Type} {Bc:Tm->List Ct} {Br:Tm->β} (S:Stab Bc Br) {t:Rat} (ht:Qs 400000 t) {Ps:List (List Int)} (hP:∀ p∈Ps,Cp p) (hPs:∀ a,Va a->∀ x∈Bc a,x.p∈Ps) :
 ∀ (m:Nat) (c:Cr) (r1:β) (n:Int),mu (Ps.flatMap tms) c.now<=m->KSt Bc Br c r1->¬Di (tq t) c.now ->
 ∃ c' r' E,goF Bc Br t (m+1) c r1 n=some (c',r',n+(E.length:Nat))/\c'.now=tq t/\KSt Bc Br c' r'/\c'.ev=c.ev+(E.length:Nat)/\E.length<=m/\Evs Bc t c.now E:=by
 have hT:∀ t∈Ps.flatMap tms,Cut (Ff t):=λu hu=>by
  obtain ⟨p,p1,p2⟩:=Zy.1 hu;exact (Zlr (hP p p1) u p2).cut
 have hq:=Zlw ht;intro m
 induction m with
 | zero=>?_
 | succ m ih=>?_
 all_goals
  intro c r1 n hm hS hnow;obtain ⟨⟨ok,kk⟩,hcs,hr⟩:=hS;obtain ⟨ws,w1,w2,w3⟩:=Q1u ok.n ok.l kk;have ok':=Qiz ok w1;rw [hcs] at w2;have hc_w:∀ x∈Bc c.now,∃ w∈ws,w.c=x:=λx hx=>by
   have:x∈ws.map (·.c):=by rw [w2]; exact Qpb.2 hx
   exact Zn.1 this
  have hw_c:∀ w∈ws,w.c∈Bc c.now:=λw hw=>Qpb.1 (by rw [<-w2]; exact Wq hw)
  obtain ⟨o,o1,o2⟩:=Zkw ok'.l;have fin:(∀ w∈ws,∀ u,w.fails=some u->Di (tq t) u)->KSt Bc Br ⟨tq t,ws,c.ev⟩ r1/\Evs Bc t c.now []:=λhall=>by
   have hg:∀ x∈Bc c.now,Tg (G9 (tq t)) x.p=Tg (G9 c.now) x.p:=λx hx=>by
    obtain ⟨w,hw,rfl⟩:=hc_w x hx;exact Qn8 (S.ok.p _ ok.n _ hx).dp ok.n hq hnow (w3 w hw).2.1 (hall w hw)
   obtain ⟨s1,s2⟩:=S.st _ _ ok.n hq hg;refine ⟨⟨⟨⟨hq,ok'.l,ok'.k⟩,λw hw _=>⟨Quo ok.n.cut hq.cut hnow (w3 w hw).2.1 (hall w hw),(w3 w hw).2.2⟩⟩,?_,?_⟩,.nil λx hx=>?_⟩
   ·show ws.map (·.c)=Fz (Bc (tq t)); rw [w2,s1]
   ·show r1=Br (tq t); rw [s2,hr]
   ·obtain ⟨w,hw,rfl⟩:=hc_w x hx;exact ⟨_,(w3 w hw).2.1,hall w hw⟩
 ·cases o with
  |
   none =>
   obtain ⟨f1,f2⟩:=fin λw hw u hu=>by rw [o2 w hw] at hu; cases hu
   exact ⟨_,_,[],by simp only [goF]; rw [w1]; simp only [Jf]; rw [o1]; simp,rfl,f1,by simp,by simp,f2⟩
  |
   some a =>
   obtain ⟨va,⟨w,hw,hwa⟩,hmin⟩:=o2;by_cases h0:0<Ff a t
   ·obtain ⟨f1,f2⟩:=fin λv hv u hu=>by
     have hu':=(ok'.l v hv).f u hu;exact Q1q hq.cut va.cut hu'.cut ((Qkb va.cut).1 h0) (hmin v hv u hu)
    exact ⟨_,_,[],by simp only [goF]; rw [w1]; simp only [Jf]; rw [o1]; simp [h0],rfl,f1,by simp,by simp,f2⟩
   ·exfalso;obtain ⟨k1,k2,k3⟩:=w3 w hw;rw [hwa] at k2;have:a∈Ps.flatMap tms:=Zy.2 ⟨_,hPs _ ok.n _ (hw_c w hw),k3 a hwa⟩;have:=Zim ok.n.cut va.cut hT k2.2.2.1 this;omega
 ·cases o with
  |
   none =>
   obtain ⟨f1,f2⟩:=fin λw hw u hu=>by rw [o2 w hw] at hu; cases hu
   exact ⟨_,_,[],by simp only [goF]; rw [w1]; simp only [Jf]; rw [o1]; simp,rfl,f1,by simp,by simp,f2⟩
  |
   some a =>
   obtain ⟨va,⟨w,hw,hwa⟩,hmin⟩:=o2;by_cases h0:0<Ff a t
   ·obtain ⟨f1,f2⟩:=fin λv hv u hu=>by
     have hu':=(ok'.l v hv).f u hu;exact Q1q hq.cut va.cut hu'.cut ((Qkb va.cut).1 h0) (hmin v hv u hu)
    exact ⟨_,_,[],by simp only [goF]; rw [w1]; simp only [Jf]; rw [o1]; simp [h0],rfl,f1,by simp,by simp,f2⟩
   ·obtain ⟨k1,k2,k3⟩:=w3 w hw;rw [hwa] at k2;have hna:=Zkr ok.n.cut va.cut k2.2.2.1;have hmem:a∈Ps.flatMap tms:=Zy.2 ⟨_,hPs _ ok.n _ (hw_c w hw),k3 a hwa⟩;have hlt:=Zim ok.n.cut va.cut hT k2.2.2.1 hmem;obtain ⟨w2',l1,l2⟩:=Qli va ok'.l (Fz (Bc a));have hl:=Zfj ok.n va hna ok'.l (λv hv _=>(w3 v hv).2) l1;have hS':KSt Bc Br ⟨a,w2',c.ev+1⟩ (Br a):=⟨⟨Orr.lay_ok _ ok' va (S.ok.p a va) (S.ok.n a va) l1,hl⟩,l2,rfl⟩;obtain ⟨c',r',E,g1,g2,g3,g4,g5,g6⟩:=ih ⟨a,w2',c.ev+1⟩ (Br a) (n+1) (by show mu _ a<=m; omega) hS' (λh=>h0 ((Qkb va.cut).2 h));refine ⟨c',r',a::E,?_,g2,g3,by rw [g4]; simp; omega,by simp; omega,.cons va k2.2.2.1 (λh=>h0 ((Qkb va.cut).2 h)) (λx hx=>?_) ⟨w.c,hw_c w hw,k2⟩ g6⟩
    ·conv=>lhs; unfold goF
     rw [w1]; simp only [Jf]; rw [o1]; simp only [Jf]; rw [if_neg h0,l1]; simp only [Jf];rw [g1]; simp; omega
    ·obtain ⟨v,hv,rfl⟩:=hc_w x hx;exact ⟨_,(w3 v hv).2.1,hmin v hv⟩
end Orq
namespace Orq
open Orr Go
theorem Qk5 {a:Tm} (ha:Va a):∀ (L:List (List Int)),(∀ p∈L,Dp p)->∃ y,Ff a y=-1/\∀ q,Ff a q=-1->q≤y->∀ p∈L,Tg (G9 a) p=U5 (Uy p q)
 |
  [],_=>by
  obtain ⟨y,hy⟩:=ha.cut.hi;exact ⟨y,hy,λq _ _ p hp=>by cases hp⟩
 |
  p::L,h=>by
  obtain ⟨y,y1,y2⟩:=Qk5 ha L (λq hq=>h q (Qj _ hq));by_cases h0:p.length=0
  ·obtain rfl:=Qi h0;refine ⟨y,y1,λq q1 q2 r hr=>?_⟩;rcases Qo.1 hr with rfl | hr
   ·rw [Qk4]; exact (Fv.2 rfl).symm
   ·exact y2 q q1 q2 r hr
  ·obtain ⟨⟨z,z1,z2⟩,_⟩:=Od ha (h p (by simp)) h0;refine ⟨if y<=z then y else z,by split <;> assumption,λq q1 q2 r hr=>?_⟩;rcases Qo.1 hr with rfl | hr
   ·rw [<-Uz]; exact (z2 q q1 (by grind)).symm
   ·exact y2 q q1 (by grind) r hr
section Srt
variable {α:Type} {lt:α->α->Bool} {R:α->α->Prop}
theorem Qot (irr:∀ x,¬R x x) (tr:∀ x y z,R x y->R y z->R x z):∀ {l m:List α},l.Pairwise R->m.Pairwise R->(∀ x,x∈l↔x∈m)->l=m
 | [],[],_,_,_=>rfl
 | [],y::m,_,_,h=>by have:=(h y).2 (by simp); cases this
 | x::l,[],_,_,h=>by have:=(h x).1 (by simp); cases this
 |
  x::l,y::m,hl,hm,h=>by
  rw [Q6] at hl hm;have e:x=y:=by
   rcases Qo.1 ((h x).1 (by simp)) with e | h1
   ·exact e
   ·rcases Qo.1 ((h y).2 (by simp)) with e | h2
    ·exact e.symm
    ·exact absurd (tr _ _ _ (hl.1 y h2) (hm.1 x h1)) (irr x)
  subst e;rw [Qot irr tr hl.2 hm.2 λz=>?_];constructor
  ·intro hz;rcases Qo.1 ((h z).1 (Qj _ hz)) with e | h1
   ·subst e; exact absurd (hl.1 z hz) (irr z)
   ·exact h1
  ·intro hz;rcases Qo.1 ((h z).2 (Qj _ hz)) with e | h1
   ·subst e; exact absurd (hm.1 z hz) (irr z)
   ·exact h1
theorem Qoq {out:List α} {x:α}:∀ k,k<=out.length->(∀ j y,Tp lt out x k<=j->j<k->out[j]? = some y->lt x y=true)/\(0<Tp lt out x k->∃ y,out[Tp lt out x k-1]? = some y/\lt x y=false)
 | 0,_=>⟨λj y _ h=>by omega,λh=>by simp [Tp] at h⟩
 |
  k+1,hk=>by
  obtain ⟨y,hy⟩:=gxE (l:=out) (i:=k) (by omega);by_cases h:lt x y=true
  ·rw [Qb1 hy h];obtain ⟨h1,h2⟩:=Qoq (out:=out) (x:=x) k (by omega);refine ⟨λj z a1 a2 a3=>?_,h2⟩;by_cases e:j=k
   ·subst e; rw [hy] at a3; injection a3 with a3; subst a3; exact h
   ·exact h1 j z a1 (by omega) a3
  ·have h:lt x y=false:=by simpa using h
   rw [Ii hy h];exact ⟨λj z a1 a2 _=>by omega,λ_=>⟨y,by simpa using hy,h⟩⟩
theorem Zff (tr:∀ x y z,R x y->R y z->R x z) {out:List α} {x:α} (ho:out.Pairwise R) (h1:∀ y∈out,lt x y=true->R x y) (h2:∀ y∈out,lt x y=false->R y x):(P7 lt out x).Pairwise R:=by
 obtain ⟨s1,s2⟩:=Qoq (lt:=lt) (out:=out) (x:=x) out.length (Qm _);have hle:=Qrf lt out x out.length;unfold P7;obtain ⟨k,hk⟩:=nmE (Tp lt out x out.length);rw [<-hk] at s1 s2 hle ⊢;have hd:(out.take k++out.drop k).Pairwise R:=by rw [Zb]; exact ho
 obtain ⟨d1,d2,d3⟩:=Je.1 hd;have hR:∀ y∈out.drop k,R x y:=λy hy=>by
  obtain ⟨i,hi⟩:=Yg hy;rw [Z5] at hi;have:k+i<out.length:=(Qd.1 hi).1;exact h1 y (Q9 hy) (s1 (k+i) y (by omega) this hi)
 have hL:∀ y∈out.take k,R y x:=λy hy=>by
  obtain ⟨i,hi⟩:=Yg hy;have hik:i<k:=by have:=(Qd.1 hi).1; simp at this; omega
  rw [Kt hik] at hi;obtain ⟨z,z1,z2⟩:=s2 (by omega);have hz:=h2 z (Qa z1) z2;by_cases e:i=k-1
  ·subst e; rw [hi] at z1; injection z1 with z1; subst z1; exact hz
  ·have hp:=Ye.1 ho i (k-1) (by omega) (by omega) (by omega);obtain ⟨_,e1⟩:=Qd.1 hi;obtain ⟨_,e2⟩:=Qd.1 z1;rw [e1,e2] at hp;exact tr _ _ _ hp hz
 refine Je.2 ⟨d1,Q6.2 ⟨hR,d2⟩,λy hy z hz=>?_⟩;rcases Qo.1 hz with rfl | hz
 ·exact hL y hy
 ·exact d3 y hy z hz
theorem foldG_pw (tr:∀ x y z,R x y->R y z->R x z) {S:α->Prop} (h1:∀ x y,S x->S y->lt x y=true->R x y) {D:α->α->Prop} (h2:∀ x y,S x->S y->D y x->lt x y=false->R y x) :
 ∀ (l acc:List α),acc.Pairwise R->(∀ x∈acc,S x)->(∀ x∈l,S x)->l.Pairwise D->(∀ x∈acc,∀ y∈l,D x y)->(l.foldl (P7 lt) acc).Pairwise R
 | [],acc,ha,_,_,_,_=>ha
 |
  x::l,acc,ha,hs,hl,hd,hx=>by
  rw [Q6] at hd;refine foldG_pw tr h1 h2 l (P7 lt acc x) ?_ ?_ (λy hy=>hl y (Qj _ hy)) hd.2 ?_
  ·exact Zff tr ha (λy hy=>h1 x y (hl x (by simp)) (hs y hy)) (λy hy=>h2 x y (hl x (by simp)) (hs y hy) (hx y hy x (by simp)))
  ·intro y hy;rcases Qef.1 hy with rfl | hy
   ·exact hl _ (by simp)
   ·exact hs y hy
  ·intro y hy z hz;rcases Qef.1 hy with rfl | hy
   ·exact hd.1 z hz
   ·exact hx y hy z (Qj _ hz)
theorem Qvb:∀ {l:List α},l.Pairwise R->∀ {u v:α},u∈l->v∈l->u≠v->R u v\/R v u
 | [],_,_,_,h,_,_=>by cases h
 |
  x::l,hp,u,v,hu,hv,hne=>by
  rw [Q6] at hp;rcases Qo.1 hu with e | hu
  ·rcases Qo.1 hv with e' | hv
   ·exact absurd (e.trans e'.symm) hne
   ·rw [e]; exact .inl (hp.1 v hv)
  ·rcases Qo.1 hv with e' | hv
   ·rw [e']; exact .inr (hp.1 u hu)
   ·exact Qvb hp.2 hu hv hne
end Srt
def px (p:Pt) (q:Rat):Rat:=Uy p.c.x q / (p.c.d:Rat)
def py (p:Pt) (q:Rat):Rat:=Uy p.c.y q / (p.c.d:Rat)
def Bu (q:Rat) (x y:Pt):Prop:=px x q<px y q\/px x q=px y q/\(py x q<py y q\/py x q=py y q/\x.id<y.id)
theorem Qay (q:Rat) (x:Pt):¬Bu q x x:=by unfold Bu; grind
theorem Qbw (q:Rat) (x y z:Pt) (h:Bu q x y) (h':Bu q y z):Bu q x z:=by unfold Bu at *; grind
theorem Qt9 {q:Rat} {x y:Pt} (h:x.id≠y.id) (h':¬Bu q x y):Bu q y x:=by unfold Bu at *; grind
theorem Qo8 {u v:Rat} {c d:Int} (hc:0<c) (hd:0<d):U5 (v*(c:Rat)-u*(d:Rat))=U5 (v / (d:Rat)-u / (c:Rat)):=by
 have hc':(0:Rat)<(c:Rat):=by exact_mod_cast hc
 have hd':(0:Rat)<(d:Rat):=by exact_mod_cast hd
 have e:v*(c:Rat)-u*(d:Rat)=((c:Rat)*(d:Rat))*(v / (d:Rat)-u / (c:Rat)):=by
  rw [Js,Js];have h1:=W5 (c:Rat) (by grind);have h2:=W5 (d:Rat) (by grind);grind
 rw [e,D8 (Jk hc' hd')]
theorem Qo9 {x y:Pt} (hx:Sc x.c) (hy:Sc y.c) (q:Rat):U5 (Uy (Hk x.c y.c) q)=U5 (px y q-px x q):=by
 unfold Hk px; rw [Bb,Ru,Ru]; exact Qo8 hx.n.2.2.1 hy.n.2.2.1
theorem Qo7 {x y:Pt} (hx:Sc x.c) (hy:Sc y.c) (q:Rat):U5 (Uy (Hq x.c y.c) q)=U5 (py y q-py x q):=by
 unfold Hq py; rw [Bb,Ru,Ru]; exact Qo8 hx.n.2.2.1 hy.n.2.2.1
theorem Qjp {a:Tm} (ha:Va a) {x y:Pt} (hx:Sc x.c) (hy:Sc y.c) {q:Rat} (h1:Tg (G9 a) (Hk x.c y.c)=U5 (Uy (Hk x.c y.c) q)) (h2:Tg (G9 a) (Hq x.c y.c)=U5 (Uy (Hq x.c y.c) q)):Te (G9 a) x y=true↔Bu q x y:=by
 rw [Qo9 hx hy] at h1;rw [Qo7 hx hy] at h2;have d1:=(Qaf hx hy).dp;have d2:=(Qae hx hy).dp;unfold Te;simp only [Oj];have t1:=Fq (px y q-px x q);have t2:=Fq (py y q-py x q);by_cases e1:(Hk x.c y.c).length=0
 ·rw [if_neg (by omega)];rw [Qi e1,Qk4] at h1;have:px x q=px y q:=by grind
  by_cases e2:(Hq x.c y.c).length=0
  ·rw [if_neg (by omega)];rw [Qi e2,Qk4] at h2;unfold Bu;simp only [decide_eq_true_eq];grind
  ·rw [if_pos (by omega)];have:=(Od ha d2 e2).2;unfold Bu;simp only [decide_eq_true_eq];grind
 ·rw [if_pos (by omega)];have:=(Od ha d1 e1).2;unfold Bu;simp only [decide_eq_true_eq];grind
def Qdq (l:List Pt):List (List Int):=l.flatMap λx=>l.flatMap λy=>[Hk x.c y.c,Hq x.c y.c]
theorem Cz {l:List Pt} {x y:Pt} (hx:x∈l) (hy:y∈l):Hk x.c y.c∈Qdq l/\Hq x.c y.c∈Qdq l :=
 ⟨Zy.2 ⟨x,hx,Zy.2 ⟨y,hy,by simp⟩⟩,Zy.2 ⟨x,hx,Zy.2 ⟨y,hy,by simp⟩⟩⟩
theorem Qzo {l:List Pt} (hl:∀ p∈l,Sc p.c):∀ p∈Qdq l,Cp p:=λp hp=>by
 obtain ⟨x,hx,hp⟩:=Zy.1 hp;obtain ⟨y,hy,hp⟩:=Zy.1 hp;simp at hp;rcases hp with rfl | rfl
 ·exact Qaf (hl x hx) (hl y hy)
 ·exact Qae (hl x hx) (hl y hy)
theorem Q2w {l:List Pt} (hl:∀ p∈l,Sc p.c) (hd:l.Pairwise λx y=>x.id≠y.id) {a:Tm} (ha:Va a):∃ y,Ff a y=-1/\∀ q,Ff a q=-1->q≤y->(∀ u∈l,∀ v∈l,(Te (G9 a) u v=true↔Bu q u v))/\(So a l).Pairwise (Bu q):=by
 obtain ⟨y,y1,y2⟩:=Qk5 ha (Qdq l) λp hp=>(Qzo hl p hp).dp
 refine ⟨y,y1,λq q1 q2=>?_⟩;have h:=y2 q q1 q2;have hb:∀ u∈l,∀ v∈l,(Te (G9 a) u v=true↔Bu q u v):=λu hu v hv=>Qjp ha (hl u hu) (hl v hv) (h _ (Cz hu hv).1) (h _ (Cz hu hv).2)
 refine ⟨hb,?_⟩;exact foldG_pw (S:=λx=>x∈l) (D:=λx y=>x.id≠y.id) (Qbw q) (λu v hu hv h=>(hb u hu v hv).1 h) (λu v hu hv hne h=>Qt9 (λe=>hne e.symm) λh'=>by
  rw [(hb u hu v hv).2 h'] at h; cases h) l [] .nil (λx hx=>by cases hx) (λx hx=>hx) hd (λx hx=>by cases hx)
theorem Qx8 {a b:Tm} {x y:Pt} (h:Tg (G9 b) (Dm x y)=Tg (G9 a) (Dm x y)):Te (G9 b) x y=Te (G9 a) x y:=by
 unfold Dm Qal at h;unfold Te;simp only [Oj];by_cases e1:0<(Hk x.c y.c).length
 ·rw [if_pos e1,if_pos e1]; rw [if_pos e1] at h; rw [h]
 ·rw [if_neg e1,if_neg e1]; rw [if_neg e1] at h; rw [h]
theorem Qj8 {a b:Tm} {q r:Rat}:∀ (l:List Pt),(∀ u∈l,∀ v∈l,(Te (G9 a) u v=true↔Bu q u v))->(∀ u∈l,∀ v∈l,(Te (G9 b) u v=true↔Bu r u v))->l.Pairwise (Bu q)->(∀ x∈Sj (G9 a) l,Tg (G9 b) x.p=Tg (G9 a) x.p)->l.Pairwise (Bu r)/\Sj (G9 b) l=Sj (G9 a) l
 | [],_,_,_,_=>⟨.nil,rfl⟩
 | [x],_,_,_,_=>⟨Vi _ _,rfl⟩
 |
  x::y::l,ha,hb,hp,hc=>by
  rw [Q6] at hp;obtain ⟨i1,i2⟩:=Qj8 (a:=a) (b:=b) (q:=q) (r:=r) (y::l) (λu hu v hv=>ha u (Qj _ hu) v (Qj _ hv)) (λu hu v hv=>hb u (Qj _ hu) v (Qj _ hv)) hp.2 (λz hz=>hc z (by simp only [Sj]; exact Qj _ hz));have h0:Tg (G9 b) (Dm x y)=Tg (G9 a) (Dm x y):=hc (Nw (G9 a) x y) (by simp [Sj]);have h1:Bu r x y:=(hb x (by simp) y (by simp)).1 (by rw [Qx8 h0]; exact (ha x (by simp) y (by simp)).2 (hp.1 y (by simp)));refine ⟨Q6.2 ⟨λz hz=>?_,i1⟩,?_⟩
  ·rcases Qo.1 hz with rfl | hz
   ·exact h1
   ·exact Qbw r x y z h1 ((Q6.1 i1).1 z hz)
  ·simp only [Sj];rw [i2]; congr 1;unfold Nw; rw [h0]
theorem Qo0 {sg:List Int->Int}:∀ {l:List Pt},∀ x∈Sj sg l,∃ u∈l,∃ v∈l,x.p=Dm u v
 | [],x,hx=>by cases hx
 | [_],x,hx=>by cases hx
 |
  a::b::l,x,hx=>by
  simp only [Sj] at hx;rcases Qo.1 hx with rfl | hx
  ·exact ⟨a,by simp,b,by simp,rfl⟩
  ·obtain ⟨u,hu,v,hv,e⟩:=Qo0 (l:=b::l) x hx;exact ⟨u,Qj _ hu,v,Qj _ hv,e⟩
theorem Q47 {l:List Pt} {u v:Pt} (hu:u∈l) (hv:v∈l):Dm u v∈Qdq l:=by
 unfold Dm Qal; split
 ·exact (Cz hu hv).1
 ·exact (Cz hu hv).2
theorem Zdn {l:List Pt} {a:Tm}:∀ x∈bcS l a,x.p∈Qdq l:=λx hx=>by
 obtain ⟨u,hu,v,hv,e⟩:=Qo0 x hx;rw [e]; exact Q47 (Hr.1 hu) (Hr.1 hv)
theorem Q59 (l:List Pt):(Qdq l).length=l.length*(l.length*2):=by
 have h1:∀ (x:Pt) (m:List Pt),(m.flatMap λy=>[Hk x.c y.c,Hq x.c y.c]).length=m.length*2:=λx m=>by
  induction m with
  | nil=>rfl
  | cons y m ih=>rw [J3,Q3,ih,Q8]; simp; omega
 have h2:∀ m:List Pt,(m.flatMap λx=>l.flatMap λy=>[Hk x.c y.c,Hq x.c y.c]).length=m.length*(l.length*2):=λm=>by
  induction m with
  | nil=>simp
  | cons y m ih=>rw [J3,Q3,ih,Q8,h1,X6,Kk,X8]
 exact h2 l
theorem Zbp {l:List Pt} (hl:∀ p∈l,Sc p.c) (hd:l.Pairwise λx y=>x.id≠y.id) {a b:Tm} (ha:Va a) (hb:Va b) (h:∀ x∈bcS l a,Tg (G9 b) x.p=Tg (G9 a) x.p):So b l=So a l/\bcS l b=bcS l a:=by
 obtain ⟨q,q1,q2⟩:=Q2w hl hd ha;obtain ⟨r,r1,r2⟩:=Q2w hl hd hb;obtain ⟨a1,a2⟩:=q2 q q1 Qq;obtain ⟨b1,b2⟩:=r2 r r1 Qq;obtain ⟨c1,c2⟩:=Qj8 (a:=a) (b:=b) (So a l) (λu hu v hv=>a1 u (Hr.1 hu) v (Hr.1 hv)) (λu hu v hv=>b1 u (Hr.1 hu) v (Hr.1 hv)) a2 h;have e:So b l=So a l:=Qot (Qay r) (Qbw r) b2 c1 λx=>by rw [Hr,Hr]
 exact ⟨e,by unfold bcS; rw [e,c2]⟩
end Orq
namespace Orr
open Go
section
variable {α:Type} {lt:α->α->Bool}
theorem Q4v (out:List α) (c:α):(P7 lt out c).Perm (c::out):=by
 unfold P7;exact (Ug).trans (by rw [Zb])
theorem Qkz:∀ (l acc:List α),(l.foldl (P7 lt) acc).Perm (l++acc)
 | [],acc=>List.Perm.refl _
 |
  c::l,acc=>by
  simp only [Z6];exact (Qkz l _).trans (((Q4v acc c).append_left l).trans Ug)
theorem Qmi (l:List α):(Fy lt l).Perm l:=by
 have:=Qkz (lt:=lt) l [];rwa [Zq] at this
end
def Em (a b:Pt):Bool:=decide (a.id<b.id)
def Pt.m5 (p:Pt):Pt:=⟨p.c,p.id % 5⟩
def mix (O:List Pt) (i:Nat):List Pt:=(O.take i).map Pt.m5++O.drop i
theorem Q95 (O:List Pt):mix O 0=O:=by simp [mix]
theorem Qi0 (O:List Pt) (i:Nat):(mix O i).length=O.length:=by
 unfold mix; rw [List.length_append,List.length_map,List.length_take,List.length_drop]; omega
theorem Q11 {O:List Pt} {i:Nat} {p:Pt} (h:O[i]? = some p):(mix O i).set i p.m5=mix O (i+1):=by
 have hi:=(Qd.1 h).1;have hl:((O.take i).map Pt.m5).length=i:=by rw [Q5,Qp]; omega
 unfold mix;rw [List.set_append,if_neg (by omega),hl,Jq,Zp,h,Vq,J5,Zl];congr 1;rw [Ze hi];have:O[i]=p:=by
  have:=(Qd.1 h).2;exact this
 rfl
theorem Zfs {O:List Pt} {i:Nat} {p:Pt} (h:O[i]? = some p):(mix O i)[i]? = some p:=by
 have hi:=(Qd.1 h).1;have hl:((O.take i).map Pt.m5).length=i:=by rw [Q5,Qp]; omega
 unfold mix;rw [Z0 (by omega),hl,Jq,Z5];exact h
theorem Q10 {O:List Pt} {i k:Nat} {p:Pt} (hk:k<i) (h:O[k]? = some p):(mix O i)[k]? = some p.m5:=by
 have hi:=(Qd.1 h).1;unfold mix;rw [Zf (by rw [Q5,Qp]; omega),Q7,Xm,if_pos hk,h]; rfl
theorem Quh {O:List Pt} {e i:Nat} (h:e<=i) (hi:i<=O.length):(mix O i).take e=(O.take e).map Pt.m5:=by
 unfold mix;rw [Jm (by rw [Q5,Qp]; omega),<-Jr,Wv,Zt h]
def Sx (O:List Pt) (e:Nat):List Pt:=(O.take e).map Pt.m5
def Qcg (O:List Pt) (e:Nat):List Pt:=(Sx O e).map Pt.nrm
def Ac (l:List Pt):Prop:=l.Pairwise λa b=>a.id≠b.id
theorem Q4c {O:List Pt} {i:Nat} {p:Pt} (h:O[i]? = some p):Sx O (i+1)=Sx O i++[p.m5]:=by
 unfold Sx; rw [List.take_succ,h,Option.toList_some,List.map_append]; rfl
theorem Q4i {O:List Pt} {i:Nat} {p:Pt} (h:O[i]? = some p) (hd:Ac (Sx O i)) (hn:∀ k x,k<i->O[k]? = some x->x.m5.id≠p.m5.id):Ac (Sx O (i+1)):=by
 rw [Q4c h];refine Je.2 ⟨hd,Vi _ _,λa ha b hb=>?_⟩;rw [Qk.1 hb];obtain ⟨x,hx,rfl⟩:=Zn.1 ha;obtain ⟨k,hk,rfl⟩:=Y9.1 hx;rw [Qp] at hk;rw [List.getElem_take];exact hn k _ (by omega) (Qe (by omega))
theorem Qf5 {O:List Pt} {e:Nat} (h:Ac (Sx O e)):Ac (Qcg O e):=List.Pairwise.map Pt.nrm (λ_ _ h=>h) h
theorem Qhv (O:List Pt) (e:Nat):(Qcg O e).length=(Sx O e).length:=by unfold Qcg; rw [List.length_map]
theorem Qd2 {O:List Pt} {e:Nat} (h:e<=O.length):(Sx O e).length=e:=by unfold Sx; rw [List.length_map,List.length_take]; omega
def Q3h (p:Pt):Prop:=Cs 10 3 p.c
theorem Qog {n:Nat} {most:Int} (hm:0≤most/\most≤999) {l:List RawPt}:∀ p∈Qgx n most l,Q3h p:=λp hp=>by
 rcases Qd9 _ _ hp with h | h
 ·cases h
 ·obtain ⟨z,_,rfl⟩:=Zn.1 h;exact Qnl hm _ _ _
theorem Qta {O:List Pt} (h:∀ p∈O,Q3h p) (e:Nat):∀ p∈Sx O e,Q3h p:=λp hp=>by
 obtain ⟨x,hx,rfl⟩:=Zn.1 hp;exact h x (Qn hx)
theorem Q00 {O:List Pt} (h:∀ p∈O,Q3h p) (e:Nat):∀ p∈Qcg O e,Nml p.c/\Cs 10 3 p.c:=λp hp=>by
 obtain ⟨x,hx,rfl⟩:=Zn.1 hp;exact ⟨x.c.nml,(Qta h e x hx).norm (by decide)⟩
theorem Qod {s n:Nat}:∀ {l:List Pt},(∀ p∈l,Cs s n p.c)->IsPts s n (l.map Gy) (l.map Pt.nrm)
 | [],_=>trivial
 | p::l,h=>⟨⟨p.c.x.map Gv,p.c.y.map Gv,_,_,_,_,p.c.d,rfl,Gf _,Gf _,Uv _,h p (Qx ..),rfl⟩,Qod λx hx=>h x (Qj _ hx)⟩
theorem Qpc:∀ {l m:List Pt},Tk l->Tk m->(∀ x,x∈l↔x∈m)->l=m
 | [],[],_,_,_=>rfl
 | [],b::m,_,_,h=>absurd ((h b).2 (Qx ..)) (by simp)
 | a::l,[],_,_,h=>absurd ((h a).1 (Qx ..)) (by simp)
 |
  a::l,b::m,h1,h2,h=>by
  have h1':=Q6.1 h1;have h2':=Q6.1 h2;have hab:a=b:=by
   rcases Qo.1 ((h a).1 (Qx ..)) with e | e
   ·exact e
   ·rcases Qo.1 ((h b).2 (Qx ..)) with e2 | e2
    ·exact e2.symm
    ·have:=h2'.1 a e; have:=h1'.1 b e2; omega
  subst hab;congr 1;refine Qpc h1'.2 h2'.2 λx=>⟨λhx=>?_,λhx=>?_⟩
  ·rcases Qo.1 ((h x).1 (Qj _ hx)) with e | e
   ·have:=h1'.1 x hx; rw [e] at this; omega
   ·exact e
  ·rcases Qo.1 ((h x).2 (Qj _ hx)) with e | e
   ·have:=h2'.1 x hx; rw [e] at this; omega
   ·exact e
theorem Qe6 {l:List Pt} (h:Ac l):Tk (Fy Em l) :=
 Orq.foldG_pw (R:=λa b:Pt=>a.id<b.id) (S:=λ_=>True) (D:=λa b:Pt=>a.id≠b.id) (λx y z h1 h2=>Int.lt_trans h1 h2) (λx y _ _ h=>of_decide_eq_true h) (λx y _ _ h1 h=>by have:=of_decide_eq_false h; omega) l [] .nil (λx hx=>by cases hx) (λ_ _=>trivial) h (λx hx=>by cases hx)
theorem Za8 (l:List Pt) (q:Pt):(put l q).Perm (q::l):=by
 unfold put;exact List.perm_middle.trans (by rw [Zb])
theorem Qol:∀ (qs acc:List Pt),(Se acc qs).2=0->(Se acc qs).1.Perm (qs++acc)
 | [],acc,_=>List.Perm.refl _
 |
  q::qs,acc,h=>by
  simp only [Se] at h ⊢
  split
  ·rename_i h0;rw [if_pos h0] at h;refine (Qol qs _ h).trans ?_;exact ((Za8 acc q).append_left qs).trans Ug
  ·rename_i h0;rw [if_neg h0] at h;exact absurd h h0
theorem Q43 {qs:List Pt} (hl:qs.length<=6) (hd:Ac qs):(Se [] qs).2=0/\(Se [] qs).1=Fy Em qs:=by
 rcases Q42 hl with ⟨h1,h2,_,_⟩ | ⟨_,h2⟩
 ·refine ⟨h1,Qpc h2 (Qe6 hd) λx=>?_⟩;have h3:=Qol qs [] h1;rw [Zq] at h3;rw [h3.mem_iff,S8]
 ·exact absurd hd h2
end Orr
namespace Orr
open Go Go.Proofs
set_option maxRecDepth 10000
theorem Zfe {α:Type} {f:α->List LV} {lt:α->α->Bool} {O:List α} {c:α} {k:Nat} (hp:Tp lt O c O.length=k):(O.map f).take k++(f c::(O.map f).drop k)=(P7 lt O c).map f:=by
 simp [P7,hp,Jr,W6]
theorem Qt1 {α:Type} {f:α->List LV} {lt:α->α->Bool} {O:List α} {c:α} {k:Nat} (hp:Tp lt O c O.length=k):(O.map f).take k++([f c]++((O.map f).drop k).take ((O.map f).length-k))=(P7 lt O c).map f:=by
 rw [Ql (l:=(O.map f).drop k) (by simp)];exact Zfe hp
theorem Qeg {lt:Pt->Pt->Bool} {O:List Pt} {c:Pt} {k:Nat} (hp:Tp lt O c O.length=k):(Fc O).take k++([Dc c]++((Fc O).drop k).take ((Fc O).length-k))=Fc (P7 lt O c):=Qt1 hp
theorem Hf (l:List Pt):(Fc l).length=l.length:=by simp [Fc]
theorem Qe2 (l:List Pt):∀ c∈Fc l,c.length=7:=λc hc=>by obtain ⟨x,_,rfl⟩:=Zn.1 hc; rfl
theorem Fb {l:List Pt} {i:Nat} {c:Pt} (h:l[i]? = some c):(Fc l)[i]? = some (Dc c):=Gt h
theorem Q0m {l:List Pt} (hn:l.length<=1000000):Uu Tryz.prog 64 [.one (.row (Fc l))] [.one (.row (Fc (Fy Em l)))]:=by
 have hcl:=Hf l;refine Gs Tryz.func64 rfl ?_;refine go tt [.o 3 57 7] rfl trivial ?_;refine lp (S:=Nat) 1 (λL1 i=>(8,.v (.one (.int .i64 (i:Int))))::(3,.v (.one (.orow 0 7 none)))::L1) (λi=>[.row false 57 7 (Fc (Fy Em (l.take i)))]) (λi=>l.length-i) (λi=>i<=l.length) 0 (Qh _) rfl (λ_ _=>rfl) rfl λi hi=>?_
 by_cases hlt:i<l.length
 ·obtain ⟨c,hc⟩:=gxE (l:=l) (i:=i) hlt;have hst:Fy Em (l.take (i+1))=P7 Em (Fy Em (l.take i)) c:=Ei hc;obtain ⟨O,hO⟩:=nmE (Fy Em (l.take i));have hOl:O.length=i:=by rw [hO,Re,Qp]; omega
  have hrl:=Hf O;rw [<-hO] at hst ⊢;refine go tt [.t (decide_eq_true (by omega))] rfl trivial ?_;refine lp (S:=Nat) 1 (λL1 k=>(5,.v (.one (.int .i64 (k:Int))))::L1) (λ_=>[.row false 57 7 (Fc O)]) id (λk=>k<=O.length/\Tp Em O c k=Tp Em O c O.length) (Fc O).length ⟨by omega,by rw [hrl]⟩ rfl (λ_ _=>rfl) rfl λk ⟨hk,hp⟩=>?_
  have h7:=Qe2 O;have h7z:∀ y∈[Dc c],y.length=7:=λy hy=>by rw [Qk.1 hy]; rfl
  cases k with
  |
   zero =>
   have hp:Tp Em O c O.length=0:=by rw [<-hp]; rfl
   refine go tt [.g 15 false (by simp),.f rfl,.i 0,.x (Fb hc),.lo,.i 0,.s (sz:=7) (λy hy=>h7 y (Qn hy)),.s (sz:=7) (λy hy=>(Qu.1 hy).elim (h7z y) λhy=>h7 y (Qn hy))] rfl (by simp [Us]; omega) ?_;exact rd (i+1) (by omega) hlt (by rw [hst,<-Qeg hp]; rfl)
  |
   succ k =>
   obtain ⟨x,hx⟩:=gxE (l:=O) (i:=k) (by omega);by_cases hlc:Em c x=true
   ·refine go tt [.g 15 true (by simp),.x (Fb hc),.r 23 (eI (b:=(k:Int)) (by simp)),.i k,.x (Fb hx),.t hlc,.r 30 (eI (b:=(k:Int)) (by simp))] rfl (by simp [Us]; omega) ?_;exact rd k (by simp) ⟨by omega,by rw [<-hp,Qb1 hx hlc]⟩ rfl
   ·have hlc:Em c x=false:=by simpa using hlc
    have hp:Tp Em O c O.length=k+1:=by rw [<-hp,Ii hx hlc]
    refine go tt [.g 15 true (by simp),.x (Fb hc),.r 23 (eI (b:=(k:Int)) (by simp)),.i k,.x (Fb hx),.f hlc,.i (k+1),.x (Fb hc),.lo,.i (k+1),.s (sz:=7) (λy hy=>h7 y (Q9 (Qn hy))),.s (sz:=7) (λy hy=>(Qu.1 hy).elim (h7z y) λhy=>h7 y (Q9 (Qn hy)))] rfl (by simp [Us]; omega) ?_;exact rd (i+1) (by omega) hlt (by rw [hst,<-Qeg hp]; rfl)
 ·obtain rfl:i=l.length:=by omega
  rw [Qy];exact en tt [.f (decide_eq_false (by omega))] rfl rfl trivial
end Orr
