/- F8 F9 G3 G4 K3 K4 S1 S2 S3 R5 R6 RefGL R7 RatOkL R8 R9 RefCL R10 RawL NewsL KGoL SortQ BegL R11 -/
import Derived.Test.YtkkhemmhhedniaaGreatPart07
import Derived.Test.YtkkhemmhhedniaaGreatPart00
import Derived.Test.YtkkhemmhhedniaaGreatPart05
set_option linter.all false
namespace Orr
open Go Go.Proofs Orq
set_option maxRecDepth 10000
theorem Zj8 {z:Int}:Fa Tryz.prog 344 [.agg (Hn z)] [.one (.int .i64 (Int.sign z))]:=by
 by_cases h0:z=0
 ·subst h0;exact w tt Tryz.func344 rfl [.t (by simp [Fc,Hf])] rfl rfl trivial
 ·have hl:(Gf z.natAbs).length≠0:=λh=>h0 (Q6l.1 h)
  have hl':decide (((lm (Gf z.natAbs)).length:Int)=0)=false:=by simpa [Fc] using hl
  by_cases h1:z<0
  ·rw [X4 h1];exact w tt Tryz.func344 rfl [.f hl',.t (by simpa using h1)] rfl rfl trivial
  ·rw [Jd (by omega)];exact w tt Tryz.func344 rfl [.f hl',.f (by simpa using h1)] rfl rfl trivial
theorem Q8e {p:List Int} (hp:Pb p):Fa Tryz.prog 342 [pr p] [.one (.int .i64 (Qa2 p)),.one (.int .i64 (Qe0 p))]:=by
 have hb:-1<=(Fu p).sign/\(Fu p).sign<=1:=by rcases Ag (Fu p) with h | h | h <;> omega
 by_cases h:p.length % 2=0
 ·have e:Qa2 p=-(Fu p).sign:=by unfold Qa2; rw [if_pos h]
  rw [e];exact w tt Tryz.func342 rfl [.c [] (Ri hp.t hp.ln hp.bd),.c [] (Dw hp.t hp.ln hp.bd),.c [] Zj8,.t (by rw [Q41]; simp [h])] rfl rfl (by simp [U9,Fu] at hb ⊢; omega)
 ·have e:Qa2 p=(Fu p).sign:=by unfold Qa2; rw [if_neg h]
  rw [e];exact w tt Tryz.func342 rfl [.c [] (Ri hp.t hp.ln hp.bd),.c [] (Dw hp.t hp.ln hp.bd),.c [] Zj8,.f (by rw [Q41]; simp; omega)] rfl rfl (by simp [U9])
theorem Q9i {p:List Int} (hp:Pb p):Fa Tryz.prog 341 [pr p] [.one (.int .i64 (Qa2 p))]:=w tt Tryz.func341 rfl [.c [] (Q8e hp)] rfl rfl trivial
theorem Zgh {p:List Int} (hp:Pb p):Fa Tryz.prog 343 [pr p] [.one (.int .i64 (Qe0 p))]:=w tt Tryz.func343 rfl [.c [] (Q8e hp)] rfl rfl trivial
theorem Zl2 {q:Rat} (hq:Qs 4294967295 q):Fa Tryz.prog 183 [.agg (rl q)] [.agg (rl (-q))]:=by
 exact w tt Tryz.func183 rfl [.c [] (Qk3 hq),.c [] (Qks (Fb _) hq.1)] rfl rfl trivial
theorem Quj {l:List (List Int)} {fid:Nat} {sg:List Int->Int} (hl:l.length≤1000) (hs:∀ p,-1≤sg p/\sg p≤1) (h:∀ p∈l,Fa Tryz.prog fid [pr p] [.one (.int .i64 (sg p))]):Fa Tryz.prog 334 [.one (.sh [.row (Pk l)]),.one (.fn fid [] [])] [.one (.int .i64 (Nt sg l:Nat))]:=by
 have Nl:=El l;refine Hl Tryz.func334 rfl ?_;refine go tt [] rfl trivial ?_;refine lp (S:=Nat) 0 (λL1 i=>(15,.v (.one (.int .i64 (i:Int))))::(5,.v (.one (.int .i64 ((Et sg l i).1:Int))))::(6,.v (.one (.int .i64 (Et sg l i).2)))::L1) (λ_=>[]) (λi=>l.length-i) (λi=>i<=l.length) 0 (Qi _) rfl (λ_ _=>rfl) rfl λi hi=>?_
 by_cases hlt:i<l.length
 ·obtain ⟨p,hp⟩:=gxE (l:=l) (i:=i) hlt;have hst:Et sg l (i+1)=Ts sg (Et sg l i) p:=Ru _ _ _ hp;obtain ⟨b1,b2,b3⟩:=Qnl hs l i;have b4:=hs p;by_cases h0:sg p=0
  ·refine go tt [.t (by simp [Nl]; omega),.x (Ta hp),.c [] (h p (Qa hp)),.t (by simpa using h0)] rfl (by simp [U9]; omega) ?_;exact rd (i+1) (by omega) hlt (by rw [hst,show Ts sg (Et sg l i) p=Et sg l i from by unfold Ts; rw [if_pos h0]]; rfl)
  ·by_cases h1:(Et sg l i).2=-(sg p)
   ·refine go tt [.t (by simp [Nl]; omega),.x (Ta hp),.c [] (h p (Qa hp)),.f (by simpa using h0),.t (by simpa using h1)] rfl (by simp [U9]; omega) ?_;exact rd (i+1) (by omega) hlt (by rw [hst,show Ts sg (Et sg l i) p=((Et sg l i).1+1,sg p) from by unfold Ts; rw [if_neg h0,if_pos h1]]; rfl)
   ·refine go tt [.t (by simp [Nl]; omega),.x (Ta hp),.c [] (h p (Qa hp)),.f (by simpa using h0),.f (by simpa using h1)] rfl (by simp [U9]; omega) ?_;exact rd (i+1) (by omega) hlt (by rw [hst,show Ts sg (Et sg l i) p=((Et sg l i).1,sg p) from by unfold Ts; rw [if_neg h0,if_neg h1]]; rfl)
 ·obtain rfl:i=l.length:=by omega
  refine en tt [.f (by simp [Nl])] rfl ?_ trivial;unfold Et Nt; rw [List.take_length]
theorem Qg1 (p:List Int):(-1<=Qa2 p/\Qa2 p<=1)/\-1<=Qe0 p/\Qe0 p<=1:=by
 have hb:-1<=(Fu p).sign/\(Fu p).sign<=1:=by rcases Ag (Fu p) with h | h | h <;> omega
 unfold Qa2 Qe0
 split <;> omega
theorem Zfv {l:List (List Int)} (hl:l.length≤1000) (hp:∀ p∈l,Pb p):Fa Tryz.prog 301 [.one (.sh [.row (Pk l)])] [.one (.int .i64 (Qca l))]:=by
 have c1:Fa Tryz.prog 330 [.one (.sh [.row (Pk l)])] [.one (.int .i64 (Nt Qa2 l:Nat))] :=
  w tt Tryz.func330 rfl [.c [] (Quj hl (λp=>(Qg1 p).1) λp h=>Q9i (hp p h))] rfl rfl trivial
 have c2:Fa Tryz.prog 331 [.one (.sh [.row (Pk l)])] [.one (.int .i64 (Nt Qe0 l:Nat))] :=
  w tt Tryz.func331 rfl [.c [] (Quj hl (λp=>(Qg1 p).2) λp h=>Zgh (hp p h))] rfl rfl trivial
 have b1:Nt Qa2 l<=l.length:=Nu (λp=>(Qg1 p).1) l;have b2:Nt Qe0 l<=l.length:=Nu (λp=>(Qg1 p).2) l;exact w tt Tryz.func301 rfl [.c [] c1,.c [] c2] rfl rfl (by simp [U9]; omega)
theorem Qx5 {l:List (List Int)} {lo hi:Rat} (hl:l.length<=1000):-1000<=Rm l lo hi/\Rm l lo hi<=1000:=by
 have b1:Mk l lo<=l.length:=Nu (λp=>Co p lo) l;have b2:Mk l hi<=l.length:=Nu (λp=>Co p hi) l;unfold Rm; split <;> omega
abbrev tal (l:List Tm):List (List LV):=l.map λt=>ta t
theorem Qj6 {p:List Int} {c:List (List Int)} (hp:Pb p):∀ {k:Nat} {lo hi:Rat} {n:Int} {r:List Tm},Qb lo->Qb hi->Ae p c k lo hi n=some r->∀ t∈r,Tb t
 | 0,_,_,_,_,_,_,h=>by cases h
 |
  k+1,lo,hi,n,r,hl,hh,h=>by
  simp only [Ae] at h
  split at h
  ·injection h with h; subst h; exact λt ht=>by cases ht
  ·split at h
   ·injection h with h; subst h;intro t ht; rw [Qk.1 ht]; exact ⟨hp,hl,hh⟩
   ·obtain ⟨m,hm,h⟩:=Qg.1 h;obtain ⟨rfl,qm⟩:=Qk7 hm;obtain ⟨x,hx,h⟩:=Qg.1 h;obtain ⟨y,hy,h⟩:=Qg.1 h;injection h with h; subst h;intro t ht;rcases Qu.1 ht with ht | ht
    ·exact Qj6 hp hl qm hx t ht
    ·exact Qj6 hp qm hh hy t ht
theorem Znw (l:List Tm):∀ c∈tal l,c.length=9:=λc hc=>by obtain ⟨t,_,rfl⟩:=Zp.1 hc; rfl
theorem Qyz {p:List Int} {c:List (List Int)} (hp:Pb p) (hcl:c.length≤1000) (hc:∀ q∈c,Pb q):∀ {k:Nat} {lo hi:Rat} {n:Int} {r:List Tm},Qb lo->Qb hi->k≤100000->-(1000*(100001-k:Nat))≤n/\n≤1000*(100001-k:Nat)->Ae p c k lo hi n=some r->r.length≤1000000->Rh Tryz.prog 300 [pr p,.one (.sh [.row (Pk c)]),.agg (rl lo),.agg (rl hi),.one (.int .i64 n)] [] [.one (.orow 0 9 none)] [.row false 74 9 (tal r)]
 | 0,_,_,_,_,_,_,_,_,h,_=>by cases h
 |
  k+1,lo,hi,n,r,hl,hh,hk,hn,h,hr=>by
  simp only [Ae] at h
  split at h
  ·rename_i h0;injection h with h; subst h;refine Hl Tryz.func300 rfl ?_;exact ed tt [] [2] [.t (by simpa using h0),.o 10 74 9] rfl trivial
  ·rename_i h0
   split at h
   ·rename_i h1;injection h with h; subst h;refine Hl Tryz.func300 rfl ?_;exact ed tt [] [2] [.f (by simpa using h0),.t (by simpa using h1),.c [] (Ri hp.t hp.ln hp.bd),.c [] (Ow hl.s32),.c [] (Ow hh.s32),.lo] rfl trivial
   ·rename_i h1;obtain ⟨m,hm,h⟩:=Qg.1 h;obtain ⟨rfl,qm⟩:=Qk7 hm;obtain ⟨x,hx,h⟩:=Qg.1 h;obtain ⟨y,hy,h⟩:=Qg.1 h;injection h with h; subst h;have hb:=Qx5 (l:=c) (lo:=lo) (hi:=mid lo hi) hcl;rw [Q4] at hr;have c1:=Qyz hp hcl hc hl qm (by omega) (by omega) hx (by omega);have c2:=Qyz hp hcl hc qm hh (by omega) (by omega) hy (by omega);rw [show tal (x++y)=tal x++tal y from Jo];refine Hl Tryz.func300 rfl ?_;exact ed tt [] [3] [.f (by simpa using h0),.f (by simpa using h1),.c [] (Zj6 hl hh),.c [] (Qoa hcl hc hl qm),.c [3] c1,.c [4] c2,.s (Znw y)] rfl (by simp [U9]; omega)
theorem Zf4 {p:List Int} {r:List Tm} (hp:Pb p) (h:Qm5 p=some r) (hr:r.length<=1000000):Fa Tryz.prog 261 [pr p] [.one (tas r),.one (.int .i64 0)]:=by
 unfold Qm5 at h;obtain ⟨c,h1,h⟩:=Qg.1 h;obtain ⟨q,h2,h⟩:=Qg.1 h;obtain ⟨b,h3,h⟩:=Qg.1 h;obtain ⟨rfl,hb⟩:=Qk7 h3;obtain ⟨k1,k2⟩:=chain_ok hp h1;have hq:=Qhq hp h2;have q0:q.length≠0:=by
  unfold chain at h1;obtain ⟨a,a1,h1⟩:=Qg.1 h1;rw [h2] at a1; injection a1 with a1; subst a1
  split at h1
  ·cases h1
  ·assumption
 have qn:Qb (-Hb q):=⟨by rw [Rat.neg_num,Hh]; exact hb.1,by rw [Rat.neg_den]; exact hb.2⟩;have bb1:Nt Qa2 c<=c.length:=Nu (λp=>(Qg1 p).1) c;have bb2:Nt Qe0 c<=c.length:=Nu (λp=>(Qg1 p).2) c;have hn:-(1000*(100001-100000:Nat):Int)<=Qca c/\Qca c<=1000*(100001-100000:Nat):=by unfold Qca; omega
 have cr:=Qyz hq (by omega) k2 qn hb (Ql _) hn h hr;refine Hl Tryz.func261 rfl ?_;exact ed tt [1] [] [.c [] (Q80 hp h1),.f rfl,.c [] (Qkv hp h2),.c [] (Zfu hq q0),.c [] (Zl2 hb.s32),.c [] (Zfv (by omega) k2),.c [1] cr] rfl trivial
def Fh (l:List Pt):List (List LV):=l.map H5
theorem Rp {l:List Pt} {i:Nat} {c:Pt} (h:l[i]? = some c):(Fh l)[i]? = some (H5 c):=Ho h
theorem Tn (l:List Pt):(Fh l).length=l.length:=by simp [Fh]
theorem Qs7 (l:List Pt):∀ c∈Fh l,c.length=5:=λc hc=>by
 obtain ⟨x,_,rfl⟩:=Zp.1 hc; rfl
abbrev zPt:List LV:=[.nils,.nils,.bool false,.nils,.int .i64 0]
theorem Q3i {lt:Pt->Pt->Bool} {O:List Pt} {z:List LV} {c:Pt} {k m:Nat} {l2:List (List LV)} (hk:k<=O.length) (hp:Sv lt O c O.length=k) (hm:m=O.length-k) (h2:l2.take m=((Fh O++[z]).drop k).take m) :
 ((Fh O++[z]).take (k+1)++(l2.take m++(Fh O++[z]).drop (k+1+m))).set k (H5 c)=Fh (M8 lt O c):=by
 rw [h2,<-Zm,Qvm (Fh O) z (H5 c) (by rw [Tn]; omega) (by rw [Tn]; omega)];simp [M8,hp,Fh,J7,Uj]
def Pp (t:Tm) (l:List Pt):List Pt:=Gy (Sj (Hk t)) l
theorem Q16 {l:List Pt} {t:Tm} (hl:∀ p∈l,Sc p.c) (hn:l.length≤1000000) (ht:Va t):Fa Tryz.prog 181 [.agg (ta t),.one (pts l)] [.one (pts (Pp t l))]:=by
 have hcl:=Tn l;show Fa Tryz.prog 181 [.agg (ta t),.one (.row (Fh l))] [.one (.row (Fh (Pp t l)))];obtain ⟨lt,hlt0⟩:=nmE (Sj (Hk t));unfold Pp;rw [<-hlt0];refine Hl Tryz.func181 rfl ?_;refine go tt [.o 5 135 5] rfl trivial ?_;refine lp (S:=Nat) 2 (λL1 i=>(11,.v (.one (.int .i64 (i:Int))))::(5,.v (.one (.orow 1 5 none)))::L1) (λi=>[.blk 74 (ta t),.row false 135 5 (Fh (Gy lt (l.take i)))]) (λi=>l.length-i) (λi=>i<=l.length) 0 (Qi _) rfl (λ_ _=>rfl) rfl λi hi=>?_
 by_cases hlt:i<l.length
 ·obtain ⟨c,hc⟩:=gxE (l:=l) (i:=i) hlt;have hst:Gy lt (l.take (i+1))=M8 lt (Gy lt (l.take i)) c:=Ah hc;have hcp:=hl c (Qa hc);obtain ⟨O,hO⟩:=nmE (Gy lt (l.take i));have hOl:O.length=i:=by rw [hO,Te,Qr]; omega
  have hOm:∀ x∈O,Sc x.c:=λx hx=>by rw [hO,Ma] at hx; exact hl x (Qn hx)
  rw [<-hO] at hst ⊢;refine go tt [.t (by simp [hcl]; omega),.x (Rp hc)] rfl trivial ?_;refine lp (S:=Nat) 3 (λL1 k=>(8,.v (.one (.int .i64 (k:Int))))::L1) (λk=>[.blk 74 (ta t),.row false 135 5 (Fh O),.blk 135 (H5 c)]) id (λk=>k<=O.length/\Sv lt O c k=Sv lt O c O.length) (Fh O).length ⟨by rw [Tn]; exact Ql _,by rw [Tn]⟩ rfl (λ_ _=>rfl) rfl λk ⟨hk,hp⟩=>?_
  have hz:∀ y∈[zPt],y.length=5:=λy hy=>by rw [Qk.1 hy]; rfl
  have h77:∀ y∈Fh O++[zPt],y.length=5:=λy hy=>by
   rcases Qu.1 hy with hy | hy
   ·exact Qs7 O y hy
   ·exact hz y hy
  cases k with
  |
   zero =>
   have hp:Sv lt O c O.length=0:=by rw [<-hp]; rfl
   refine go tt [.g 19 false (by simp),.f rfl,.s (sz:=5) hz,.r 37 (eI (b:=((0+1:Nat):Int)) (by simp)),.i (0+1),.i (0),.s (sz:=5) (λy hy=>h77 y (Qn hy)),.i (O.length),.i (0)] rfl (by simp [U9,Tn]; omega) ?_;exact rd (i+1) (by omega) hlt (by rw [hst,<-Q3i (z:=zPt) (l2:=(Fh O++[zPt]).take ((Fh O++[zPt]).length-0)) (k:=0) (m:=O.length) (by omega) hp (by omega) (by congr 1; exact Qo (by simp))]; rfl)
  |
   succ k =>
   obtain ⟨x,hx⟩:=gxE (l:=O) (i:=k) (by omega);have cb:=Q8b hcp (hOm x (Qa hx)) ht;rw [<-hlt0] at cb;by_cases hlc:lt c x=true
   ·refine go tt [.g 19 true (by simp),.r 23 (eI (b:=(k:Int)) (by simp)),.i k,.x (Rp hx),.c [] cb,.t hlc,.r 30 (eI (b:=(k:Int)) (by simp))] rfl (by simp [U9,Tn]; omega) ?_;exact rd k (by simp) ⟨by omega,by rw [<-hp,Qcy hx hlc]⟩ rfl
   ·have hlc:lt c x=false:=by simpa using hlc
    have hp:Sv lt O c O.length=k+1:=by rw [<-hp,Oc hx hlc]
    refine go tt [.g 19 true (by simp),.r 23 (eI (b:=(k:Int)) (by simp)),.i k,.x (Rp hx),.c [] cb,.f hlc,.s (sz:=5) hz,.r 37 (eI (b:=((k+1+1:Nat):Int)) (by simp)),.i (k+1+1),.i (k+1),.s (sz:=5) (λy hy=>h77 y (Ze (Qn hy))),.i (O.length-(k+1)),.i (k+1)] rfl (by simp [U9,Tn]; omega) ?_;exact rd (i+1) (by omega) hlt (by rw [hst,<-Q3i (z:=zPt) (l2:=((Fh O++[zPt]).drop (k+1)).take ((Fh O++[zPt]).length-(k+1))) (k:=k+1) (m:=O.length-(k+1)) (by omega) hp (by omega) (by congr 1; exact Qo (by simp))]; rfl)
 ·obtain rfl:i=l.length:=by omega
  rw [Qy];exact en tt [.f (by simp [hcl])] rfl rfl trivial
def Pe (sg:List Int->Int):List Pt->List Ct
 | a::b::l=>Ch sg a b::Pe sg (b::l)
 | _=>[]
theorem Bw (sg:List Int->Int):∀ l:List Pt,(Pe sg l).length=l.length-1
 | []=>rfl
 | [_]=>rfl
 | a::b::l=>by simp only [Pe,Q7,Bw sg (b::l)]; omega
theorem Qhx (sg:List Int->Int):∀ {l:List Pt} {i:Nat} {a b:Pt},l[i]? = some a->l[i+1]? = some b->(Pe sg l).take (i+1)=(Pe sg l).take i++[Ch sg a b]
 | [],i,a,b,h,_=>by simp at h
 | [x],i,a,b,_,h=>by cases i <;> simp at h
 | x::y::l,0,a,b,h1,h2=>by simp at h1 h2; subst h1; subst h2; simp [Pe]
 |
  x::y::l,i+1,a,b,h1,h2=>by
  have ih:=Qhx sg (l:=y::l) (i:=i) (a:=a) (b:=b) (by simpa using h1) (by simpa using h2);simp only [Pe,Yj] at ih ⊢;rw [ih]; rfl
theorem Zf5:Fa Tryz.prog 275 [pr []] [.one .nilp,.one (.int .i64 2)]:=by
 have h:Mj []=some []:=rfl;exact w tt Tryz.func275 rfl [.c [] (Qkv Qhp h),.t rfl] rfl rfl trivial
theorem Q8z:Fa Tryz.prog 261 [pr []] [.one (.row []),.one (.int .i64 2)] :=
 w tt Tryz.func261 rfl [.c [] Zf5,.t rfl] rfl rfl trivial
theorem Zm4 {a o:List Int} (ha:Pb a) (h:Q0a a=some o):Pb o:=by
 unfold Q0a at h
 split at h
 ·injection h with h; subst h; exact Qhp
 ·obtain ⟨l,hl,h⟩:=Qg.1 h;obtain ⟨fs,hf,h⟩:=Qg.1 h;exact Qcw Zck (Qru (Qjy (Tl ha) hl).2 hf) h
theorem Q8h {p:List Int} {l:List Tm} (hp:Pb p) (h:Il p=some l) (hl:l.length<=1000000):Fa Tryz.prog 210 [pr p] [.one (tas l)]:=by
 unfold Il at h;obtain ⟨q,hq,h⟩:=Qg.1 h;have qp:=Zm4 hp hq;have co:=Zov hp hq
 split at h
 ·rename_i h0;injection h with h; subst h;obtain rfl:=Qh h0;exact w tt Tryz.func210 rfl [.c [] co,.c [] Q8z,.t rfl] rfl rfl trivial
 ·exact w tt Tryz.func210 rfl [.c [] co,.c [] (Zf4 qp h hl),.f rfl] rfl rfl trivial
def ota:Option Tm->List LV
 | none=>zTr
 | some t=>ta t
theorem Zfx {p:List Int} {a:Tm} {l:List Tm} {r:Option Tm} (hp:Pb p) (ha:Tb a) (h:Il p=some l) (hl:l.length≤1000000) (ht:∀ t∈l,Tb t) (hr:Qdj a l=some r):Fa Tryz.prog 154 [pr p,.agg (ta a)] [.agg (ota r),.one (.bool r.isSome)]:=by
 have hll:(l.map λt=>ta t).length=l.length:=by simp
 refine Hl Tryz.func154 rfl ?_;refine go tt [.c [] (Q8h hp h hl)] rfl trivial ?_;refine lp (S:=Nat) 2 (λL1 i=>(11,.v (.one (.int .i64 (i:Int))))::L1) (λ_=>[.blk 74 (ta a),.blk 74 zTm]) (λi=>l.length-i) (λi=>i<=l.length/\Qdj a (l.drop i)=some r) 0 ⟨Qi _,hr⟩ rfl (λ_ _=>rfl) rfl λi ⟨hi,hf⟩=>?_
 by_cases hlt:i<l.length
 ·obtain ⟨t,hx⟩:=gxE (l:=l) (i:=i) hlt;have hdr:l.drop i=t::l.drop (i+1):=by
   rw [Zl hlt]; congr 1;have:=Qd hlt; rw [hx] at this; injection this with this; exact this.symm
  rw [hdr] at hf;simp only [Qdj] at hf;obtain ⟨c,c1,hf⟩:=Qg.1 hf;have cc:=Qkq (ht t (Qa hx)) ha c1;by_cases hc:0<c
  ·rw [if_pos hc] at hf;injection hf with hf; subst hf;exact en tt [.t (by simp; omega),.x (Qkf hx),.c [] cc,.t (by simpa using hc)] rfl rfl trivial
  ·rw [if_neg hc] at hf;refine go tt [.t (by simp; omega),.x (Qkf hx),.c [] cc,.f (by simpa using hc)] rfl (by simp [U9]; omega) ?_;exact rd (i+1) (by omega) ⟨hlt,hf⟩ rfl
 ·obtain rfl:i=l.length:=by omega
  rw [Y0] at hf;simp only [Qdj] at hf;injection hf with hf; subst hf;exact en tt [.f (by simp)] rfl rfl trivial
def Da (now:Tm):List Wt->Option (List Wt)
 | []=>some []
 | w::l=>(if w.known=true then some w else (Qiu w.c.p now).bind λr=>some ⟨w.c,true,r⟩).bind λw'=>(Da now l).bind λr=>some (w'::r)
theorem Qct {now:Tm}:∀ {l ws:List Wt},Da now l=some ws->ws.length=l.length/\∀ (i:Nat) (w:Wt),l[i]? = some w->∃ v,ws[i]? = some v/\(w.known=true/\v=w\/w.known=false/\∃ r,Qiu w.c.p now=some r/\v=⟨w.c,true,r⟩)
 | [],ws,h=>by injection h with h; subst h; exact ⟨rfl,λi x hx=>by simp at hx⟩
 |
  y::l,ws,h=>by
  simp only [Da] at h;obtain ⟨v,hv,h⟩:=Qg.1 h;obtain ⟨r,hr,h⟩:=Qg.1 h;injection h with h; subst h;obtain ⟨a,b⟩:=Qct hr;refine ⟨by simp [a],λi x hx=>?_⟩;cases i with
  |
   zero =>
   injection hx with hx; subst hx;refine ⟨v,rfl,?_⟩
   split at hv
   ·rename_i hk; injection hv with hv; exact .inl ⟨hk,hv.symm⟩
   ·rename_i hk;obtain ⟨q,hq,hv⟩:=Qg.1 hv;injection hv with hv;exact .inr ⟨by simpa using hk,q,hq,hv.symm⟩
  | succ i=>exact b i x (by simpa using hx)
theorem Q8g {p:List Int} {a:Tm} {r:Option Tm} (hp:Cp p) (ha:Va a) (h:Qiu p a=some r):Fa Tryz.prog 154 [pr p,.agg (ta a)] [.agg (ota r),.one (.bool r.isSome)]:=by
 obtain ⟨l,l1,l2,l3,_⟩:=Qcf hp;unfold Qiu at h;rw [l1] at h;exact Zfx (Dp.pb hp.dp) ha.tb l1 (by omega) (λt ht=>(l3 t ht).tb) h
theorem Zf0 {T:Nat} {c:Cr} {r0 r1:List (List LV)} {ws:List Wt} (hc:CrOk c) (h:Da c.now c.l=some ws):Rh Tryz.prog 88 [.one (.ow 0 0)] [.blk T (C7 c r0 r1)] [] [.blk T (C7 { c with l:=ws } r0 r1)]:=by
 have hk:=hc.k;have hw:=Cz c.l;obtain ⟨h1,h2⟩:=Qct h;refine Hl Tryz.func88 rfl ?_;refine go tt [.o 2 167 18,.c [0] (Qye hc.n)] rfl trivial ?_;refine lp (S:=Nat) 3 (λL1 i=>(13,.v (.one (.int .i64 (i:Int))))::(2,.v (.one (.orow 1 18 none)))::L1) (λi=>[.blk T (C7 c r0 r1),.row false 167 18 (Qdf (ws.take i)),.blk 74 (ta c.now)]) (λi=>c.l.length-i) (λi=>i<=c.l.length) 0 (Qi _) rfl (λ_ _=>rfl) rfl λi hi=>?_
 by_cases hlt:i<c.l.length
 ·obtain ⟨w,hx⟩:=gxE (l:=c.l) (i:=i) hlt;obtain ⟨v,hv,h3⟩:=h2 i w hx;have hm:∀ y∈[wl v],y.length=18:=λy hy=>by rw [Qk.1 hy]; rfl
  have hg:=Qh9 hv;have hl:decide ((i:Int)<((Qdf c.l).length:Int))=true:=by simp [hw]; omega
  rcases h3 with ⟨k1,rfl⟩ | ⟨k1,r,k2,rfl⟩
  ·obtain ⟨vc,vk,vf⟩:=v;cases vf <;> (refine go tt [.t hl,.x (S8 hx),.f (by rw [show vk=true from k1]; rfl),.s (sz:=18) hm] rfl (by simp [U9,Cz]; omega) ?_; exact rd (i+1) (by omega) hlt (by rw [hg]; rfl))
  ·have cg:=Q8g (hc.l w (Qa hx)).p hc.n k2;obtain ⟨wc,wk,wf⟩:=w;cases r <;> cases wf <;> (refine go tt [.t hl,.x (S8 hx),.t (by rw [show wk=false from k1]; rfl),.c [] cg,.s (sz:=18) hm] rfl (by simp [U9,Cz]; omega) ?_; exact rd (i+1) (by omega) hlt (by rw [hg]; rfl))
 ·obtain rfl:i=c.l.length:=by omega
  rw [<-h1,Qy];exact ed tt [1] [0] [.f (by simp [hw,h1])] rfl trivial
def Qmm (ws:List Wt):Option (Option Tm):=match ws.filterMap (·.fails) with
 | []=>some none
 | b::l=>(Qag b l).map some
theorem Qcu {c:Cr} {ws:List Wt} (hc:CrOk c) (h:Da c.now c.l=some ws):CrOk { c with l:=ws }:=by
 obtain ⟨h1,h2⟩:=Qct h;refine ⟨hc.n,λv hv=>?_,by show ws.length<=1000; rw [h1]; exact hc.k⟩;obtain ⟨i,hi⟩:=Js hv;have hil:i<c.l.length:=by rw [<-h1]; exact (Qf.1 hi).1
 obtain ⟨v',h3,h4⟩:=h2 i _ (Qd hil);rw [hi] at h3; injection h3 with h3; subst h3;have hw:=hc.l _ (Xv hil);rcases h4 with ⟨_,rfl⟩ | ⟨_,r,k2,rfl⟩
 ·exact hw
 ·obtain ⟨r',r1,r2⟩:=Zb7 hw.p hc.n;rw [k2] at r1; injection r1 with r1; subst r1;refine ⟨hw.p,λt ht=>?_⟩;have ht:r=some t:=ht;subst ht;exact r2.2.1
theorem Qqz {T:Nat} {c:Cr} {r0 r1:List (List LV)} {ws:List Wt} {r:Option Tm} (hc:CrOk c) (h:Da c.now c.l=some ws) (hr:Qmm ws=some r):Rh Tryz.prog 24 [.one (.ow 0 0)] [.blk T (C7 c r0 r1)] [.agg (ota r),.one (.bool r.isSome)] [.blk T (C7 { c with l:=ws } r0 r1)]:=by
 have hcl:=Zf0 (T:=T) (r0:=r0) (r1:=r1) hc h;have hc':=Qcu hc h;have hk:=hc'.k;have hw:=Cz ws;have hvb:∀ t∈ws.filterMap (·.fails),Tb t:=λt ht=>by
  obtain ⟨w,w1,w2⟩:=Jp.1 ht;exact ((hc'.l w w1).f t w2).tb
 refine Hl Tryz.func24 rfl ?_;refine go tt [.c [0] hcl,.o 4 74 9] rfl trivial ?_;refine lp (S:=Nat) 3 (λL1 i=>(14,.v (.one (.int .i64 (i:Int))))::(4,.v (.one (.orow 2 9 none)))::L1) (λi=>[.blk T (C7 { c with l:=ws } r0 r1),.blk 74 zTm,.row false 74 9 (tal ((ws.take i).filterMap (·.fails)))]) (λi=>ws.length-i) (λi=>i<=ws.length) 0 (Qi _) rfl (λ_ _=>rfl) rfl λi hi=>?_
 by_cases hlt:i<ws.length
 ·obtain ⟨w,hx⟩:=gxE (l:=ws) (i:=i) hlt;have hl:decide ((i:Int)<((Qdf ws).length:Int))=true:=by simp [hw]; omega
  have hfl:((ws.take i).filterMap (·.fails)).length<=i:=Qc (Wd _ _) (by rw [Qr]; omega);have hg:(ws.take (i+1)).filterMap (·.fails)=(ws.take i).filterMap (·.fails)++(match w.fails with | none=>[] | some t=>[t]):=by
   rw [Zq,hx,List.filterMap_append];show _++List.filterMap (·.fails) [w]=_;cases hwf:w.fails <;> simp [hwf]
  obtain ⟨wc,wk,wf⟩:=w;have hk:ws.length<=1000:=hk;cases wf with
  |
   none =>
   refine go tt [.t hl,.x (S8 hx),.f rfl] rfl (by simp [U9]; omega) ?_;exact rd (i+1) (by omega) hlt (by rw [hg]; simp; rfl)
  |
   some t =>
   refine go tt [.t hl,.x (S8 hx),.t rfl,.s (l:=[ta t]) (sz:=9) (λc hc=>by rw [Qk.1 hc]; rfl)] rfl (by simp [U9]; omega) ?_;exact rd (i+1) (by omega) hlt (by rw [hg]; simp [tal]; rfl)
 ·obtain rfl:i=ws.length:=by omega
  rw [Qy];have hf:decide ((ws.length:Int)<((Qdf ws).length:Int))=false:=by simp [hw]
  have hln:(ws.filterMap (·.fails)).length<=1000:=Qc (Wd _ _) hk;unfold Qmm at hr;cases hfm:ws.filterMap (·.fails) with
  |
   nil =>
   rw [hfm] at hr;injection hr with hr; subst hr;exact ed tt [] [0] [.f hf,.p 2,.c [] Q8m] rfl trivial
  |
   cons b l =>
   rw [hfm] at hr hvb hln;obtain ⟨m,m1,rfl⟩:=V3.1 hr;have cl:=Ir (hvb b (Qw ..)) (λt ht=>hvb t (Qj _ ht)) (by simp at hln; omega) m1;exact ed tt [] [0] [.f hf,.p 2,.c [] cl] rfl trivial
theorem Qmd {at_:Tm} {x:Ct}:∀ {l:List Wt} {w:Wt},E8 l x at_=some w->w=fresh x\/∃ v∈l,v.known=true/\v.c.p=x.p/\w=⟨x,true,v.fails⟩/\∀ t,v.fails=some t->∃ c,Qja t at_=some c/\0<c
 | [],w,h=>by simp only [E8] at h; injection h with h; exact .inl h.symm
 |
  v::l,w,h=>by
  simp only [E8] at h;have tl:E8 l x at_=some w->w=fresh x\/∃ v'∈v::l,v'.known=true/\v'.c.p=x.p/\w=⟨x,true,v'.fails⟩/\∀ t,v'.fails=some t->∃ c,Qja t at_=some c/\0<c:=λh=>by
   rcases Qmd h with h | ⟨v',h1,h2⟩
   ·exact .inl h
   ·exact .inr ⟨v',Qj _ h1,h2⟩
  split at h
  ·rename_i hk;cases hf:v.fails with
   |
    none =>
    rw [hf] at h;injection h with h;exact .inr ⟨v,Qw ..,hk.2.1,hk.2.2,by rw [hf]; exact h.symm,λt ht=>by rw [hf] at ht; cases ht⟩
   |
    some t =>
    rw [hf] at h;obtain ⟨c,c1,h⟩:=Qg.1 h
    split at h
    ·rename_i h0;injection h with h;exact .inr ⟨v,Qw ..,hk.2.1,hk.2.2,by rw [hf]; exact h.symm,λu hu=>by rw [hf] at hu; injection hu with hu; subst hu; exact ⟨c,c1,h0⟩⟩
    ·exact tl h
  ·exact tl h
theorem lay_ok {c:Cr} {at_:Tm} {l:List Ct} {ws:List Wt} (ev:Int) (hc:CrOk c) (ha:Va at_) (hl:∀ x∈l,Cp x.p) (hn:l.length≤1000) (h:Qfc c.l at_ (H8 l)=some ws):CrOk ⟨at_,ws,ev⟩:=by
 obtain ⟨h1,h2⟩:=Qfd h;refine ⟨ha,λw hw=>?_,by show ws.length<=1000; rw [h1,Ep]; exact hn⟩;obtain ⟨i,hi⟩:=Js hw;have hil:i<(H8 l).length:=by rw [<-h1]; exact (Qf.1 hi).1
 obtain ⟨v,h3,h4⟩:=h2 i _ (Qd hil);rw [hi] at h4; injection h4 with h4; subst h4;have hx:=hl _ (Qh1 (Xv hil));rcases Qmd h3 with e | ⟨v,v1,_,v3,e,_⟩
 ·rw [e]; exact ⟨hx,λt ht=>by cases ht⟩
 ·rw [e]; exact ⟨hx,λt ht=>(hc.l v v1).f t ht⟩
def goF {β:Type} (Bc:Tm->List Ct) (Br:Tm->β) (t:Rat):Nat->Cr->β->Int->Option (Cr×β×Int)
 | 0,_,_,_=>none
 |
  k+1,c,r,n=>(Da c.now c.l).bind λws=>(Qmm ws).bind λo=>match o with
  | none=>some (⟨tq t,ws,c.ev⟩,r,n)
  | some a=>if 0<Fv a t then some (⟨tq t,ws,c.ev⟩,r,n) else (Qfc ws a (H8 (Bc a))).bind λw2=>goF Bc Br t k ⟨a,w2,c.ev+1⟩ (Br a) (n+1)
theorem Zcc {ws:List Wt} {a:Tm} (h:Qmm ws=some (some a)) (hv:∀ t∈ws.filterMap (·.fails),Va t):a∈ws.filterMap (·.fails)/\∀ t∈ws.filterMap (·.fails),¬Nc t a:=by
 unfold Qmm at h;cases hf:ws.filterMap (·.fails) with
 | nil=>rw [hf] at h; injection h with h; cases h
 |
  cons b l =>
  rw [hf] at h hv;obtain ⟨m,m1,m2⟩:=V3.1 h;injection m2 with m2; subst m2;obtain ⟨m',n1,n2,n3⟩:=Qhj l b hv;rw [m1] at n1; injection n1 with n1; subst n1;exact ⟨n2,n3⟩
theorem Zm3 {c:Cr} {ws:List Wt} {a:Tm} (hc:CrOk c) (h:Da c.now c.l=some ws) (hr:Qmm ws=some (some a)):Va a:=by
 have hc':=Qcu hc h;have hv:∀ t∈ws.filterMap (·.fails),Va t:=λt ht=>by
  obtain ⟨w,w1,w2⟩:=Jp.1 ht;exact (hc'.l w w1).f t w2
 exact hv a (Zcc hr hv).1
structure BuildOk (Bc:Tm->List Ct):Prop where
 p:∀ a,Va a->∀ x∈Bc a,Cp x.p
 n:∀ a,Va a->(Bc a).length<=1000
theorem Qob {T:Nat} {c:Cr} {r0 r1:List (List LV)}:Rh Tryz.prog 34 [.one (.ow 0 0)] [.blk T (C7 c r0 r1)] [.one (.int .i64 c.ev)] [.blk T (C7 c r0 r1)]:=by
 refine Hl Tryz.func34 rfl ?_;exact ed tt [] [0] [] rfl trivial
def bcS (l:List Pt) (a:Tm):List Ct:=Pe (Hk a) (Pp a l)
theorem Rj {t:Tm} {l:List Pt} {p:Pt}:p∈Pp t l↔p∈l:=by
 unfold Pp Gy; rw [Qd0]; simp
theorem Lc (t:Tm) (l:List Pt):(Pp t l).length=l.length:=Te _ _

abbrev idl (l:List Int):List (List LV):=l.map λ(z:Int)=>[.int .i64 z]
theorem Qe7 {l:List Int} {i:Nat} {z:Int} (h:l[i]? = some z):(idl l)[i]? = some [.int .i64 z]:=Ho h
theorem Q81 {a b:List Int} (ha:a.length<=1000000) (hb:b.length<=1000000):Fa Tryz.prog 77 [.one (ids a),.one (ids b)] [.one (.bool (decide (a=b)))]:=by
 show Fa Tryz.prog 77 [.one (.row (idl a)),.one (.row (idl b))] _;have la:(idl a).length=a.length:=by simp
 have lb:(idl b).length=b.length:=by simp
 refine Hl Tryz.func77 rfl ?_;by_cases hl:a.length=b.length
 ·refine go tt [.f (by simp; omega)] rfl trivial ?_;refine lp (S:=Nat) 0 (λL1 i=>(5,.v (.one (.int .i64 (i:Int))))::L1) (λ_=>[]) (λi=>a.length-i) (λi=>i<=a.length/\a.take i=b.take i) 0 ⟨Qi _,rfl⟩ rfl (λ_ _=>rfl) rfl λi ⟨hi,he⟩=>?_
  by_cases hlt:i<a.length
  ·obtain ⟨x,hx⟩:=gxE (l:=a) (i:=i) hlt;obtain ⟨y,hy⟩:=gxE (l:=b) (i:=i) (by omega);by_cases e:x=y
   ·refine go tt [.t (by simp; omega),.x (Qe7 hx),.x (Qe7 hy),.f (by simpa using e)] rfl (by simp [U9]; omega) ?_;exact rd (i+1) (by omega) ⟨hlt,by rw [Zq,Zq,hx,hy,he,e]⟩ rfl
   ·have hne:a≠b:=λh=>by rw [h,hy] at hx; injection hx with hx; exact e hx.symm
    exact en tt [.t (by simp; omega),.x (Qe7 hx),.x (Qe7 hy),.t (by simpa using e)] rfl (by simp [hne]) trivial
  ·obtain rfl:i=a.length:=by omega
   have hab:a=b:=by rw [Qy] at he; rw [he,hl,Qy]
   exact en tt [.f (by simp)] rfl (by simp [hab]) trivial
 ·have hne:a≠b:=λh=>hl (by rw [h])
  exact en tt [.t (by simp; omega)] rfl (by simp [hne]) trivial
def Qa4 (v n:Int):Int:=if n<1 then 0 else v.emod n
theorem Q7i {v n:Int} (h:0<n):(if v.tmod n<0 then v.tmod n+n else v.tmod n)=v % n:=by
 have h3:=Yp v (show n≠0 by omega);have h4:=J3 v h;have h1:=Int.tmod_eq_emod (a:=v) (b:=n);have hn:((n.natAbs:Nat):Int)=n:=by omega
 split at h1
 ·rw [h1]; simp; omega
 ·rename_i hc;rw [h1,hn];have:v % n≠0:=λe=>hc (.inr (Yx e))
  rw [if_pos (by omega)]; omega
theorem Qeq {v n:Int} (hv:-9223372036854775808<=v/\v<=9223372036854775807) (hn:n<=1000000000):Fa Tryz.prog 53 [.one (.int .i64 v),.one (.int .i64 n)] [.one (.int .i64 (Qa4 v n))]:=by
 unfold Qa4;by_cases h:n<1
 ·rw [if_pos h];exact w tt Tryz.func53 rfl [.t (by simpa using h)] rfl rfl trivial
 ·rw [if_neg h];have e:=Q7i (v:=v) (n:=n) (by omega);have h3:=Yp v (show n≠0 by omega);have h4:=J3 v (show 0<n by omega);show Fa Tryz.prog 53 [.one (.int .i64 v),.one (.int .i64 n)] [.one (.int .i64 (v % n))];by_cases h0:v.tmod n<0
  ·rw [if_pos h0] at e;have b:-n<=v.tmod n:=by omega
   exact w tt Tryz.func53 rfl [.f (by simpa using h),.t (by simpa using h0)] rfl (by rw [e]) (by simp [U9]; omega)
  ·rw [if_neg h0] at e;exact w tt Tryz.func53 rfl [.f (by simpa using h),.f (by simpa using h0)] rfl (by rw [e]) (by simp [U9]; omega)
end Orr
namespace Orr
open Go Go.Proofs
set_option maxRecDepth 10000
def frow (p:List Rat):List (List LV):=p.map fr
theorem S0 (p:List Rat):(frow p).length=p.length:=by simp [frow]
theorem E6 {p:List Rat} {i:Nat} {q:Rat} (h:p[i]? = some q):(frow p)[i]? = some (fr q):=Ho h
theorem Qo8 (p:List Rat) (q:Rat):frow (p++[q])=frow p++[fr q]:=by simp [frow]
theorem Qg5 (p:List Rat):∀ c∈frow p,c.length=4:=λc hc=>by obtain ⟨x,_,rfl⟩:=Zp.1 hc; rfl
abbrev rp (p:List Rat):LV:=.row (frow p)
theorem Qz4 (q:Rat):∀ c∈[fr q],c.length=4:=λc hc=>by rw [Qk.1 hc]; rfl
theorem Q9c:Fa Tryz.prog 204 [] [.agg (fr 0)]:=w tt Tryz.func204 rfl [.c [] (Qkt (n:=0) (by decide))] rfl rfl trivial
theorem Qbb {p:List Rat}:Fa Tryz.prog 87 [.one (rp p)] [.one (rp (Dc p))]:=by
 refine Hl Tryz.func87 rfl (ln 0 rfl rfl λhl=>?_);rw [S0] at hl;have Nl:=S0 p;refine go tt [] rfl trivial ?_;refine lp (S:=Nat) 0 (λL1 n=>(3,.v (.one (.int .i64 (n:Int))))::L1) (λ_=>[]) id (λn=>n<=p.length/\∀ j x,n<=j->p[j]? = some x->x=0) (frow p).length ⟨by rw [Nl]; exact Ql _,λj x h1 h2=>by
  have:=(Qf.1 h2).1; rw [Nl] at h1; omega⟩ rfl (λ_ _=>rfl) rfl λn hs=>?_
 obtain ⟨h1,h2⟩:=hs;cases n with
 |
  zero =>
  have e:=Qhz h1 (λj x h=>h2 j x h) (λh=>absurd h (by decide));exact en tt [.g 8 false (by simp),.f rfl,.i 0] rfl (by rw [e]; rfl) (by simp [U9])
 |
  succ n =>
  obtain ⟨x,hx⟩:=gxE (l:=p) (i:=n) (by omega);have hn:=Rat.num_eq_zero (q:=x);by_cases h0:x=0
  ·refine go tt [.g 8 true (by simp),.r 11 (eI (b:=(n:Int)) (by simp)),.x (E6 hx),.c [] (Nw (z:=x.num)),.t (decide_eq_true (hn.2 h0)),.r 18 (eI (b:=(n:Int)) (by simp))] rfl (by simp [U9]; omega) ?_;exact rd n (by simp) ⟨by omega,λj y h3 h4=>by
    rcases Vv h3 with rfl | h3
    ·rw [hx] at h4; injection h4 with h4; rw [<-h4,h0]
    ·exact h2 j y h3 h4⟩ rfl
  ·have e:=Qhz h1 (λj x h=>h2 j x h) (λ_=>⟨x,hx,h0⟩);exact en tt [.g 8 true (by simp),.r 11 (eI (b:=(n:Int)) (by simp)),.x (E6 hx),.c [] (Nw (z:=x.num)),.f (decide_eq_false λh=>h0 (hn.1 h)),.i (n+1)] rfl (by rw [e]; simp [rp,frow,J7]) (by simp [U9,Nl] <;> omega)
theorem Zkc {p:List Rat} {i:Nat} (hi:i<1099511627776):Fa Tryz.prog 205 [.one (rp p),.one (.int .i64 (i:Int))] [.agg (fr (p.getD i 0))]:=by
 have Nl:=S0 p;by_cases h:i<p.length
 ·have e:p.getD i 0=p[i]:=by rw [Qe,Qd h]; rfl
  rw [e];exact w tt Tryz.func205 rfl [.g 7 false (decide_eq_false (by omega)),.f (decide_eq_false (by omega)),.x (E6 (Qd h))] rfl rfl trivial
 ·have e:p.getD i 0=0:=by rw [Qe,Qt (by omega)]; rfl
  rw [e];exact w tt Tryz.func205 rfl [.g 7 false (decide_eq_false (by omega)),.t (decide_eq_true (by omega)),.c [] Q9c] rfl rfl trivial
theorem Qyw:Fa Tryz.prog 140 [.one (ids [1])] [.one (rp (zp [1]))]:=by
 have cc:=Qbb (p:=zp [1]);rw [C0,show trim [1]=[1] from rfl] at cc;refine Hl Tryz.func140 rfl ?_;refine go tt [.o 3 35 4] rfl trivial ?_;refine lp (S:=Nat) 1 (λL1 i=>(7,.v (.one (.int .i64 (i:Int))))::(3,.v (.one (.orow 0 4 none)))::L1) (λi=>[.row false 35 4 (frow ((zp [1]).take i))]) (λi=>1-i) (λi=>i<=1) 0 (by decide) rfl (λ_ _=>rfl) rfl λi hi=>?_
 rcases (show i=0\/i=1 by omega) with rfl | rfl
 ·refine go tt [.t rfl,.x (l:=idl [1]) (i:=0) (xs:=[.int .i64 1]) rfl,.c [] (Qkt (n:=1) (by decide)),.s (sz:=4) (Qz4 _)] rfl (by simp [U9,frow]) ?_;exact rd 1 (by omega) (by omega) rfl
 ·exact en tt [.f rfl,.c [] cc] rfl rfl trivial
theorem Ap {p:List Int} (hb:Bd 90000000 p) (hl:p.length<=1000000):Fa Tryz.prog 23 [pr p] [.one (rp (zp (trim p)))]:=by
 have Nl:(p.map Hn).length=p.length:=by simp
 have cc:=Qbb (p:=zp p);rw [C0] at cc;show Fa Tryz.prog 23 [.one (.row (p.map Hn))] _;refine Hl Tryz.func23 rfl ?_;refine go tt [.o 3 35 4] rfl trivial ?_;refine lp (S:=Nat) 1 (λL1 i=>(7,.v (.one (.int .i64 (i:Int))))::(3,.v (.one (.orow 0 4 none)))::L1) (λi=>[.row false 35 4 (frow (zp (p.take i)))]) (λi=>p.length-i) (λi=>i<=p.length) 0 (Qi _) rfl (λ_ _=>rfl) rfl λi hi=>?_
 have hol:(frow (zp (p.take i))).length=i:=by rw [S0,Pn,Qr]; omega
 by_cases h:i<p.length
 ·obtain ⟨z,hz⟩:=gxE (l:=p) (i:=i) h;have hzb:=hb z (Qa hz);have hg:frow (zp (p.take (i+1)))=frow (zp (p.take i))++[fr (z:Rat)]:=by
   rw [Zq,hz]; simp [frow,zp]
  refine go tt [.t (decide_eq_true (by omega)),.x (Ho (f:=Hn) hz),.c [] (Qgr (z:=z) (by omega)),.c [] (Lp (n:=1) (by decide)),.c [] (Nk (n:=z)),.s (sz:=4) (Qz4 _)] rfl (by simp [U9,hol,-List.getD_eq_getElem?_getD]; omega) ?_;exact rd (i+1) (by omega) h (by rw [hg]; rfl)
 ·have e:i=p.length:=by omega
  rw [e,Qy];exact en tt [.f (decide_eq_false (by omega)),.c [] cc] rfl rfl trivial
theorem Zkb {p:List Int} (hb:Bd 90000000 p) (hl:p.length<=1000000):Fa Tryz.prog 289 [.one (rp (zp p))] [pr p]:=by
 have Nl:(frow (zp p)).length=p.length:=by rw [S0,Pn]
 show Fa Tryz.prog 289 [.one (rp (zp p))] [.one (.row (p.map Hn))];refine Hl Tryz.func289 rfl ?_;refine go tt [.o 3 51 2] rfl trivial ?_;refine lp (S:=Nat) 1 (λL1 i=>(7,.v (.one (.int .i64 (i:Int))))::(3,.v (.one (.orow 0 2 none)))::L1) (λi=>[.row false 51 2 ((p.take i).map Hn)]) (λi=>p.length-i) (λi=>i<=p.length) 0 (Qi _) rfl (λ_ _=>rfl) rfl λi hi=>?_
 have hol:((p.take i).map Hn).length=i:=by rw [Q8,Qr]; omega
 by_cases h:i<p.length
 ·obtain ⟨z,hz⟩:=gxE (l:=p) (i:=i) h;have hzb:=hb z (Qa hz);have hq:∀ c∈[Hn z],c.length=2:=λc hc=>by rw [Qk.1 hc]; rfl
  have hg:(p.take (i+1)).map Hn=(p.take i).map Hn++[Hn z]:=by
   rw [Zq,hz]; simp
  refine go tt [.t (decide_eq_true (by omega)),.x (E6 (Ze7 hz)),.c [] (Q84 (z:=z) (by omega)),.s (sz:=2) hq] rfl (by simp [U9]; omega) ?_;exact rd (i+1) (by omega) h (by rw [hg]; rfl)
 ·have e:i=p.length:=by omega
  rw [e,Qy];exact en tt [.f (decide_eq_false (by omega))] rfl rfl trivial
theorem Qyq {p q:List Rat} (hp:Rb 20000000 p) (hq:Rb 20000000 q) (hlp:p.length<=1000000) (hlq:q.length<=1000000):Fa Tryz.prog 143 [.one (rp p),.one (rp q)] [.one (rp (Q64 p q))]:=by
 have h1:=S0 p;have h2:=S0 q;obtain ⟨M,hM⟩:=nmE (max p.length q.length);have cc:=Qbb (p:=Qa3 (λi=>p.getD i 0+q.getD i 0) M);unfold Q64;rw [<-hM];refine Hl Tryz.func143 rfl ?_;refine go tt [.o 5 35 4] rfl trivial ?_;refine lp (S:=Nat) 1 (λL1 i=>(6,.v (.one (.int .i64 (i:Int))))::(5,.v (.one (.orow 0 4 none)))::L1) (λi=>[.row false 35 4 (frow (Qa3 (λi=>p.getD i 0+q.getD i 0) i))]) (λi=>M-i) (λi=>i<=M) 0 (Qi _) rfl (λ_ _=>rfl) rfl λi hi=>?_
 have hol:(frow (Qa3 (λi=>p.getD i 0+q.getD i 0) i)).length=i:=by rw [S0,Qf6]
 by_cases h:i<M
 ·refine go tt [.r 12 (eI (b:=(M:Int)) (by omega)),.t (decide_eq_true (by omega)),.c [] (Zkc (p:=p) (i:=i) (by omega)),.c [] (Zkc (p:=q) (i:=i) (by omega)),.c [] (Qx9 (hp.getD (by decide) i) (hq.getD (by decide) i)),.s (sz:=4) (Qz4 _)] rfl (by simp [U9,hol,-List.getD_eq_getElem?_getD]; omega) ?_;exact rd (i+1) (by omega) h (by rw [Qqj,Qo8]; rfl)
 ·have e:i=M:=by omega
  rw [e];exact en tt [.r 12 (eI (b:=(M:Int)) (by omega)),.f (decide_eq_false (by omega)),.c [] cc] rfl rfl trivial
theorem Iv {p:List Rat} {c:Rat} (hp:Rb 40000000 p) (hc:Qs 40000000 c) (hlp:p.length<=1000000):Fa Tryz.prog 203 [.one (rp p),.agg (fr c)] [.one (rp (Ni p c))]:=by
 have h1:=S0 p;have cc:=Qbb (p:=Qa3 (λi=>p.getD i 0*c) p.length);unfold Ni;refine Hl Tryz.func203 rfl ?_;refine go tt [.o 5 35 4] rfl trivial ?_;refine lp (S:=Nat) 2 (λL1 i=>(9,.v (.one (.int .i64 (i:Int))))::(5,.v (.one (.orow 1 4 none)))::L1) (λi=>[.blk 35 (fr c),.row false 35 4 (frow (Qa3 (λi=>p.getD i 0*c) i))]) (λi=>p.length-i) (λi=>i<=p.length) 0 (Qi _) rfl (λ_ _=>rfl) rfl λi hi=>?_
 have hol:(frow (Qa3 (λi=>p.getD i 0*c) i)).length=i:=by rw [S0,Qf6]
 by_cases h:i<p.length
 ·have hg:p[i]? = some (p.getD i 0):=by rw [Qe,Qd h]; rfl
  refine go tt [.t (decide_eq_true (by omega)),.x (E6 hg),.c [] (Qyf (hp.getD (by decide) i) hc),.s (sz:=4) (Qz4 _)] rfl (by simp [U9,hol,-List.getD_eq_getElem?_getD]; omega) ?_;exact rd (i+1) (by omega) h (by rw [Qqj,Qo8]; rfl)
 ·have e:i=p.length:=by omega
  rw [e];exact en tt [.f (decide_eq_false (by omega)),.c [] cc] rfl rfl trivial
theorem Qyv {p:List Rat} (hp:Rb 40000000 p) (hlp:p.length<=1000000):Fa Tryz.prog 137 [.one (rp p)] [.one (rp (Qs6 p))]:=by
 have cs:=Iv (p:=p) (c:=-1) hp ⟨by decide,by decide⟩ hlp;have co:=Qkt (n:=-1) (by decide);rw [show ((-1:Int):Rat)=-1 from rfl] at co;exact w tt Tryz.func137 rfl [.c [] co,.c [] cs] rfl rfl trivial
theorem Zir {s t:Nat} {a b:Rat} (ha:Qs s a) (hb:Qs t b):Qs (s+t+1) (a*b):=by
 rw [<-Qpk];unfold He;rw [if_neg (Jn (Be a) (Be b))];have h1:=Gd a.num b.num;have h2:=Gd (a.den:Int) (b.den:Int);have:=ha.1; have:=ha.2; have:=hb.1; have:=hb.2;exact Qs.divInt (by omega) (by omega) (by omega)
theorem Zda {s:Nat} {p:List Rat} (hp:Rb s p):Rb (s+2) (Qs6 p):=by
 unfold Qs6 Ni;refine Rb.trim (Zjj λi hi=>?_);have h1:Qs (s+0) (p.getD i 0):=by
  have hi:i<p.length:=hi;rw [Qe,Qd hi];exact hp _ (Xv hi)
 have:=Zir h1 (show Qs 1 (-1:Rat) from ⟨by decide,by decide⟩);exact this.mono (by omega)
theorem Qw5 (p:List Rat):(Qs6 p).length<=p.length:=by
 unfold Qs6 Ni;exact Qc (Qqb _) (by rw [Qf6]; exact Ql _)
theorem Qyx {p q:List Rat} (hp:Rb 19000000 p) (hq:Rb 19000000 q) (hlp:p.length<=1000000) (hlq:q.length<=1000000):Fa Tryz.prog 144 [.one (rp p),.one (rp q)] [.one (rp (Qm8 p q))] :=
 w tt Tryz.func144 rfl [.c [] (Qyv (hq.mono (by decide)) hlq),.c [] (Qyq (hp.mono (by decide)) ((Zda hq).mono (by decide)) hlp (Qc (Qw5 q) hlq))] rfl rfl trivial
theorem Q8p {a b:Int} (ha:Fq a<=40000000) (hb:Fq b<=40000000):Fa Tryz.prog 139 [.agg (fr (a:Rat)),.agg (fr (b:Rat))] [.agg (fr ((a*b:Int):Rat))]:=by
 have h:=Qyf (Ll ha (by decide)) (Ll hb (by decide));rw [<-Xz] at h; exact h
theorem Zlo {a b:Int} (ha:Fq a<=20000000) (hb:Fq b<=20000000):Fa Tryz.prog 169 [.agg (fr (a:Rat)),.agg (fr (b:Rat))] [.agg (fr ((a+b:Int):Rat))]:=by
 have h:=Qx9 (Ll ha (by decide)) (Ll hb (by decide));rw [<-Wa] at h; exact h
theorem Qvc (l:List Int) (i:Nat) (z:Int):(frow (zp l)).set i (fr (z:Rat))=frow (zp (l.set i z)):=by simp [frow,zp,Kf]
theorem Ze8 {p:List Int} {i:Nat} (h:i<p.length):(zp p)[i]? = some ((p.getD i 0:Int):Rat):=Ze7 (Tj h)
theorem Tz {p:List Int} {i:Nat} (h:i<p.length):(frow (zp p))[i]? = some (fr ((p.getD i 0:Int):Rat)):=E6 (Ze8 h)
theorem fzl (p:List Int):(frow (zp p)).length=p.length:=by rw [S0,Pn]
abbrev zR:List LV:=[.nils,.bool false,.nils,.bool false]
theorem Qrv {n i:Nat} (h:i<n):(List.replicate i (fr 0)++List.replicate (n-i) zR).set i (fr 0)=List.replicate (i+1) (fr 0)++List.replicate (n-(i+1)) zR:=by
 rw [List.set_append_right _ _ (by simp),X9,Jw,show n-i=n-(i+1)+1 by omega,Yi (n:=n-(i+1)),List.set_cons_zero,List.replicate_succ' (n:=i),Zm]; rfl
theorem Qno (n:Nat):List.replicate n (fr 0)++List.replicate (n-n) zR=frow (zp (List.replicate n 0)):=by simp [zp,frow]
theorem Qyu {p q:List Int} {s t:Nat} (hlp:p.length<=1000000) (hlq:q.length<=1000000) (hp:Bd s p) (hq:Bd t q) (hst:s+t<=19000000):Fa Tryz.prog 141 [.one (rp (zp p)),.one (rp (zp q))] [.one (rp (zp (Gs p q)))]:=by
 have Nl:=fzl p;have hql:=fzl q;rcases Q0 p.length with h0 | h0
 ·have e:Gs p q=[]:=by unfold Gs; rw [if_pos (.inl h0)]
  rw [e];exact w tt Tryz.func141 rfl [.g 12 true (decide_eq_true (by omega)),.t rfl] rfl rfl trivial
 rcases Q0 q.length with h1 | h1
 ·have e:Gs p q=[]:=by unfold Gs; rw [if_pos (.inr h1)]
  rw [e];exact w tt Tryz.func141 rfl [.g 12 false (decide_eq_false (by omega)),.t (decide_eq_true (by omega))] rfl rfl trivial
 have e:Gs p q=trim (Ci p q (List.replicate (p.length+q.length-1) 0) p.length):=by unfold Gs; rw [if_neg (by omega)]
 rw [e];obtain ⟨N,hN⟩:=nmE (p.length+q.length-1);rw [<-hN];obtain ⟨o,ho⟩:=nmE (List.replicate N (0:Int));rw [<-ho];have hol:o.length=N:=by rw [ho]; simp
 have ho0:∀ m,o.getD m 0=0:=λm=>by rw [ho]; exact Tk N m
 have cc:=Qbb (p:=zp (Ci p q o p.length));rw [C0] at cc;refine Hl Tryz.func141 rfl ?_;refine go tt [.g 12 false (decide_eq_false (by omega)),.f (decide_eq_false (by omega)),.r 22 (eI (b:=(N:Int)) (by omega)),.i N,.i N,.r 25 (eI (b:=(N:Int)) (by simp))] rfl (by simp [U9]; omega) ?_;refine lp (S:=Nat) 1 (λL1 i=>(26,.v (.one (.int .i64 (i:Int))))::L1) (λi=>[.row false 35 4 (List.replicate i (fr 0)++List.replicate (N-i) zR)]) (λi=>N-i) (λi=>i<=N) 0 (Qi _) rfl (λ_ _=>rfl) rfl λi hi=>?_
 by_cases hlt:i<N
 ·refine go tt [.t (decide_eq_true (by omega)),.c [] Q9c,.i i] rfl (by simp [U9]; omega) ?_;rw [Qrv hlt];exact rd (i+1) (by omega) hlt rfl
 have hiN:i=N:=by omega
 rw [hiN,Qno,<-ho];clear hiN hlt hi;refine go tt [.f (decide_eq_false (by omega))] rfl trivial ?_;refine lp (S:=Nat) 1 (λL1 i=>(36,.v (.one (.int .i64 (i:Int))))::L1) (λi=>[.row false 35 4 (frow (zp (Ci p q o i)))]) (λi=>p.length-i) (λi=>i<=p.length) 0 (Qi _) rfl (λ_ _=>rfl) rfl λi hi=>?_
 by_cases hlt:i<p.length
 ·refine go tt [.t (decide_eq_true (by omega))] rfl trivial ?_;refine lp (S:=Nat) 1 (λL1 k=>(41,.v (.one (.int .i64 (k:Int))))::L1) (λk=>[.row false 35 4 (frow (zp (I4 (p.getD i 0) q i (Ci p q o i) k)))]) (λk=>q.length-k) (λk=>k<=q.length) 0 (Qi _) rfl (λ_ _=>rfl) rfl λk hk=>?_
  by_cases hk2:k<q.length
  ·have hm1:Fq ((I4 (p.getD i 0) q i (Ci p q o i) k).getD (i+k) 0)<=20000000:=Qc (Ig (t:=39) (Qsh (by rw [Cj]; omega) (Qsg (λj hj=>by omega) ho0 (λi j=>Np (Ft hp i) (Ft hq j))) (λj=>Np (Ft hp i) (Ft hq j)) (i+k)) (We (show i+1<549755813888 by omega) (by decide))) (by omega);have hm2:Fq (p.getD i 0*q.getD k 0)<=20000000:=Qc (Gd _ _) (by have:=Ft hp i; have:=Ft hq k; omega);have hml:(I4 (p.getD i 0) q i (Ci p q o i) k).length=N:=by rw [I5,Cj,hol]
   have cm:=Q8p (a:=p.getD i 0) (b:=q.getD k 0) (Qc (Ft hp i) (by omega)) (Qc (Ft hq k) (by omega));have hfl:=fzl (I4 (p.getD i 0) q i (Ci p q o i) k);refine go tt [.t (decide_eq_true (by omega)),.i (i+k),.x (Tz (p:=I4 (p.getD i 0) q i (Ci p q o i) k) (i:=i+k) (by omega)),.x (Tz hlt),.x (Tz hk2),.c [] cm,.c [] (Zlo hm1 hm2),.i (i+k)] rfl (by simp [U9,hfl,-List.getD_eq_getElem?_getD] <;> omega) ?_;rw [Qvc];exact rd (k+1) (by omega) hk2 rfl
  ·obtain rfl:k=q.length:=by omega
   exact go tt [.f (decide_eq_false (by omega))] rfl (by simp [U9]; omega) (rd (i+1) (by omega) hlt rfl)
 ·obtain rfl:i=p.length:=by omega
  exact en tt [.f (decide_eq_false (by omega)),.c [] cc] rfl rfl trivial
def Qu5 (p:List Int) (n:Nat):List Int:=(List.range n).map λk=>p.getD (k+1) 0*((k+1:Nat):Int)
theorem Zam (p:List Int) (n:Nat):(Qu5 p n).length=n:=by simp [Qu5]
theorem Q57 (p:List Int) (n:Nat):Qu5 p (n+1)=Qu5 p n++[p.getD (n+1) 0*((n+1:Nat):Int)]:=by simp [Qu5,W0]
theorem Qty (p:List Int) (z:Int):frow (zp (p++[z]))=frow (zp p)++[fr (z:Rat)]:=by simp [frow,zp]
theorem Qys {p:List Int} (hp:Bd 40000000 p) (hl:p.length<=1000000):Fa Tryz.prog 71 [.one (rp (zp p))] [.one (rp (zp (Gj p)))]:=by
 have Nl:=fzl p;have cc:=Qbb (p:=zp (Qu5 p (p.length-1)));rw [C0] at cc;refine Hl Tryz.func71 rfl ?_;refine go tt [.o 3 35 4] rfl trivial ?_;refine lp (S:=Nat) 1 (λL1 j=>(4,.v (.one (.int .i64 ((j+1:Nat):Int))))::(3,.v (.one (.orow 0 4 none)))::L1) (λj=>[.row false 35 4 (frow (zp (Qu5 p j)))]) (λj=>p.length-j) (λj=>j<=p.length-1) 0 (Qi _) rfl (λ_ _=>rfl) rfl λj hj=>?_
 have hfl:=fzl (Qu5 p j);rw [Zam] at hfl;by_cases h:j+1<p.length
 ·have hk:Fq ((j+1:Nat):Int)<=40000000:=Qc (Qr4 (t:=38) (k:=j+1) (We (show j+1<274877906944 by omega) (by decide))) (by decide);refine go tt [.t (decide_eq_true (by omega)),.x (Tz h),.c [] (Qkt (n:=((j+1:Nat):Int)) (by omega)),.c [] (Q8p (Ft hp (j+1)) hk),.s (sz:=4) (Qz4 _)] rfl (by simp [U9,hfl,-List.getD_eq_getElem?_getD] <;> omega) ?_;exact rd (j+1) (by omega) (by omega) (by rw [Q57,Qty]; rfl)
 ·have e:j=p.length-1:=by omega
  rw [e];exact en tt [.f (decide_eq_false (by omega)),.c [] cc] rfl rfl trivial
theorem Zmj (z:Int):fr (z:Rat)=[nd z.natAbs,sg z,.row [[.int .i64 1]],.bool false]:=by
 have e:Gi 1=[1]:=by rw [O2 (by decide),show 1 / 10000=0 from rfl,Ht]
 show [nd z.natAbs,sg z,nd 1,sg 1]=_;unfold nd dl;rw [e]; rfl
theorem Q9m {p:List Int} (hl:p.length<=1000000):Fa Tryz.prog 165 [.one (rp (zp p))] [.one (.bool true)]:=by
 have Nl:=fzl p;refine Hl Tryz.func165 rfl ?_;refine go tt [] rfl trivial ?_;refine lp (S:=Nat) 0 (λL1 i=>(6,.v (.one (.int .i64 (i:Int))))::L1) (λ_=>[]) (λi=>p.length-i) (λi=>i<=p.length) 0 (Qi _) rfl (λ_ _=>rfl) rfl λi hi=>?_
 by_cases h:i<p.length
 ·have hg:=Tz h;rw [Zmj] at hg;refine go tt [.t (decide_eq_true (by omega)),.x hg,.g 17 false rfl,.x hg,.x (l:=[[.int .i64 1]]) (i:=0) (xs:=[.int .i64 1]) rfl,.f rfl] rfl (by simp [U9]; omega) ?_;exact rd (i+1) (by omega) h rfl
 ·exact en tt [.f (decide_eq_false (by omega))] rfl rfl trivial
theorem Q4p:[LV.nils,LV.bool false].map Qjd=ri 0:=by
 show _=[nd 0,sg 0];unfold nd dl;rw [Ht]; rfl
theorem Q0g (p:List Int) (q:Rat):Int.sign (Mz p q.num q.den p.length).1=Gl p q:=by
 unfold Gl Zip B7;generalize (Mz p q.num q.den p.length).1=z;rcases Yf z 0 with h | h | h
 ·rw [if_pos h,X4 h]
 ·subst h; rfl
 ·rw [if_neg (by omega),if_pos h,Jd h]
theorem Qeu {p:List Int} {q:Rat} (hp:Bd 30000000 p) (hl:p.length<=64) (hq:Qs 1000000 q):Fa Tryz.prog 94 [.one (rp (zp p)),.agg (fr q)] [.one (.int .i64 (Gl p q))]:=by
 have Nl:=fzl p;refine Hl Tryz.func94 rfl ?_;refine go tt [.c [] (Q9m (p:=p) (by omega)),.f rfl,.c [] (Lp (n:=1) (by decide)),.r 19 (eI (b:=(p.length:Int)-1-((0:Nat):Int)) (by simp; omega))] rfl (by simp [U9]; omega) ?_;refine nlb 1 rfl rfl rfl ?_;rw [Q4p];refine lp (S:=Nat) 3 (λL1 j=>(7,.v (.one (.int .i64 ((p.length:Int)-1-(j:Int)))))::L1) (λj=>[.blk 35 (fr q),.blk 33 (ri (Mz p q.num q.den j).1),.blk 33 (ri (Mz p q.num q.den j).2)]) (λj=>p.length-j) (λj=>j<=p.length) 0 (Qi _) rfl (λ_ _=>rfl) rfl λj hj=>?_
 have hv:=Qtq (k:=j) hp hq.1 hq.2;have hjl:j*(1000000+1)<=p.length*(1000000+1):=Qx _ (by omega);by_cases h:j<p.length
 ·have hc:=Ft hp (p.length-1-j);have hq1:=hq.1;have hq2:=hq.2;have hm1:Fq ((Mz p q.num q.den j).1*q.num)<=200000000:=Qc (Gd _ _) (by omega);have hm2:Fq (p.getD (p.length-1-j) 0*(Mz p q.num q.den j).2)<=200000000:=Qc (Gd _ _) (by omega);refine go tt [.t (decide_eq_true (by omega)),.c [] (Mq (a:=(Mz p q.num q.den j).1) (b:=q.num) (by omega) (by omega)),.r 29 (eI (b:=((p.length-1-j:Nat):Int)) (by omega)),.x (Tz (p:=p) (i:=p.length-1-j) (by omega)),.c [] (Mq (a:=p.getD (p.length-1-j) 0) (b:=(Mz p q.num q.den j).2) (by omega) (by omega)),.c [] (Qyl hm1 hm2),.c [] (Mq (a:=(Mz p q.num q.den j).2) (b:=(q.den:Int)) (by omega) (by omega)),.r 23 (eI (b:=(p.length:Int)-1-((j+1:Nat):Int)) (by omega))] rfl (by simp [U9] <;> omega) ?_;exact rd (j+1) (by omega) h rfl
 ·obtain rfl:j=p.length:=by omega
  exact en tt [.f (decide_eq_false (by omega)),.c [] Q2b] rfl (by rw [Q0g]) trivial
end Orr
namespace Orr
def Fx (p:List Int):Int:=p.getD (p.length-1) 0
def Ld (a b:List Int):Int:=if Fx b<0 then -(Fx a) else Fx a
def Ln (a b:List Int) (i:Nat):Int:=a.getD i 0*((Fx b).natAbs:Int)-(if a.length-b.length<=i then Ld a b*b.getD (i-(a.length-b.length)) 0 else 0)
def A5 (a b:List Int):List Int:=M7 a.length (Ln a b)
inductive RRun (b:List Int):Nat->List Int->List Int->Prop
 | stop {a:List Int}:a.length<b.length->RRun b 0 a a
 | step {k:Nat} {a r:List Int}:b.length<=a.length->a.length<=1000->Bd 9000000 a->Bd 9000000 b->RRun b k (A5 a b) r->RRun b (k+1) a r
def Av (p:List Int):Nat->Nat
 | 0=>0
 | i+1=>Int.gcd (Av p i:Nat) (p.getD i 0)
def cont (p:List Int):Nat:=Av p p.length
theorem Qgv (p:List Int):∀ {i j:Nat},j<i->((Av p i:Nat):Int)∣p.getD j 0
 | 0,_,h=>absurd h (U3 _)
 |
  i+1,j,h=>by
  simp only [Av];rcases Q9 j i with h1 | h1
  ·exact Vr (Ur ..) (Qgv p h1)
  ·rw [show j=i by omega]; exact V7 ..
theorem Qup (p:List Int) (j:Nat):((cont p:Nat):Int)∣p.getD j 0:=by
 rcases Q9 j p.length with h | h
 ·exact Qgv p h
 ·rw [Qe,Qt h]; exact Int.dvd_zero _
theorem Qbe {s:Nat} {p:List Int} (h:Bd s p):∀ i,Fq ((Av p i:Nat):Int)<=s
 | 0=>by simp [Av,Nn]
 |
  i+1=>by
  simp only [Av];by_cases h0:p.getD i 0=0
  ·rw [h0,Int.gcd_zero_right]; exact Qbe h i
  ·have h1:=V7 (Av p i:Nat) (p.getD i 0);have h2:(Int.gcd (Av p i:Nat) (p.getD i 0))<=(p.getD i 0).natAbs:=Kw (by omega) (by simpa using Xm.2 h1);have h3:=Ft h i;rw [Sl] at h3 ⊢;simp only [Xc];omega
theorem Q5w {p:List Int} {j i:Nat} (hj:j<i) (h:p.getD j 0≠0):0<Av p i:=by
 have:=Qgv p hj;rcases Q0 (Av p i) with h0 | h0
 ·rw [h0] at this;exact absurd (Int.zero_dvd.1 this) h
 ·exact h0
theorem Quq {p:List Int} (ht:Fg p) (h:0<p.length):0<cont p:=Q5w (j:=p.length-1) (by omega) (Hr ht h)
def Nf (p:List Int):Int:=if Fx p<0 then -((cont p:Nat):Int) else ((cont p:Nat):Int)
def Hu (p:List Int):List Int:=M7 p.length λi=>p.getD i 0 / Nf p
def Td (p:List Int):List Int:=if Fx p<0 then P0 (Hu p) else Hu p
theorem Q6a (p:List Int) (j:Nat):Nf p∣p.getD j 0:=by
 unfold Nf
 split
 ·exact U5.2 (Qup p j)
 ·exact Qup p j
theorem Za0 {p:List Int} (ht:Fg p) (h:0<p.length):Nf p≠0:=by
 have:=Quq ht h;unfold Nf
 split <;> omega
theorem Qox {s:Nat} {p:List Int} (h:Bd s p):Fq (Nf p)<=s:=by
 unfold Nf
 split
 ·rw [Hh]; exact Qbe h _
 ·exact Qbe h _
theorem Q0y {p:List Int} {c:Int} (hc:c≠0) (hd:∀ j,c∣p.getD j 0):Ni (zp p) (1 / (c:Rat))=zp (M7 p.length λi=>p.getD i 0 / c):=by
 unfold Ni M7;rw [Qke (g:=λi=>p.getD i 0 / c) _ λi _=>?_,C0,Pn];obtain ⟨k,hk⟩:=hd i;have hc':(c:Rat)≠0:=λe=>hc (by exact_mod_cast e)
 rw [Qgi,hk,Xw _ hc,Xz];grind
theorem Qkn {s:Nat} {p:List Int} (h:Bd s p):Bd s (Hu p):=Om λi _=>Qc (Qbs _ _) (Ft h i)
theorem Qhk (p:List Int):(Hu p).length<=p.length:=Ez _ _
theorem Qnk (p:List Int):Fg (Hu p):=Fw _ _
theorem Qn9 {s:Nat} {p:List Int} (h:Bd s p):Bd s (Td p):=by
 unfold Td
 split
 ·exact On (Qkn h)
 ·exact Qkn h
theorem Qai (p:List Int):(Td p).length<=p.length:=by
 unfold Td
 split
 ·exact Qc (Cf _) (Qhk p)
 ·exact Qhk p
inductive GRun:Nat->List Int->List Int->List Int->Prop
 | stop (a:List Int):GRun 0 a [] a
 | step {k m:Nat} {a b r g:List Int}:0<b.length->b.length<=1000->Bd 9000000 b->RRun b m a r->r.length<=1000->Bd 9000000 r->Fg r->GRun k b (Hu r) g->GRun (k+1) a b g
theorem GRun.inv {k:Nat} {a b g:List Int} (h:GRun k a b g):(k=0/\b.length=0/\a=g)\/∃ j m r,k=j+1/\0<b.length/\b.length<=1000/\Bd 9000000 b/\RRun b m a r/\r.length<=1000/\Bd 9000000 r/\Fg r/\GRun j b (Hu r) g:=by
 cases h with
 | stop=>exact .inl ⟨rfl,rfl,rfl⟩
 | step h1 h2 h3 h4 h5 h6 h7 h8=>exact .inr ⟨_,_,_,rfl,h1,h2,h3,h4,h5,h6,h7,h8⟩
def Pd (k:Nat) (p:List Int):List Int:=List.replicate k 0++p
theorem Qnc (k:Nat) (p:List Int):(Pd k p).length=k+p.length:=by simp [Pd]
theorem Q5d {s k:Nat} {p:List Int} (h:Bd s p):Bd s (Pd k p):=λz hz=>by
 rcases Qu.1 hz with h1 | h1
 ·rw [Zy h1,Nn]; exact Qi _
 ·exact h z h1
inductive DRun (b:List Int):Nat->List Int->List Int->List Int->List Int->Prop
 | stop {a q:List Int}:a.length<b.length->DRun b 0 a q q a
 | step {k:Nat} {a q qf r:List Int}:b.length<=a.length->a.length<=1000->Bd 9000000 a->Fx b≠0->Fx b∣Fx a->a.length-b.length<q.length ->
  DRun b k (Pa a (Pd (a.length-b.length) (Gb b (Fx a / Fx b)))) (q.set (a.length-b.length) (Fx a / Fx b)) qf r->DRun b (k+1) a q qf r
theorem DRun.inv {b a q qf r:List Int} {k:Nat} (h:DRun b k a q qf r):(k=0/\q=qf/\a=r/\a.length<b.length)\/∃ j,k=j+1/\b.length<=a.length/\a.length<=1000/\Bd 9000000 a/\Fx b≠0/\Fx b∣Fx a/\a.length-b.length<q.length /\
 DRun b j (Pa a (Pd (a.length-b.length) (Gb b (Fx a / Fx b)))) (q.set (a.length-b.length) (Fx a / Fx b)) qf r:=by
 cases h with
 | stop h=>exact .inl ⟨rfl,rfl,rfl,h⟩
 | step h1 h2 h3 h4 h5 h6 h7=>exact .inr ⟨_,rfl,h1,h2,h3,h4,h5,h6,h7⟩
def Mh (l:List (List Int)):List Int:=l.getD (l.length-1) []
inductive LRun:Nat->List (List Int)->List (List Int)->Prop
 | stop {l:List (List Int)}:(Mh l).length<=1->LRun 0 l l
 | step {k m:Nat} {l f:List (List Int)} {g:List Int}:1<(Mh l).length->(Mh l).length<=1000->Fg (Mh l)->Bd 9000000 (Mh l)->Bd 9000000 (Gj (Mh l))->GRun m (Hu (Mh l)) (Hu (Gj (Mh l))) g->l.length<=1000->LRun k (l++[g]) f->LRun (k+1) l f
theorem LRun.inv {k:Nat} {l f:List (List Int)} (h:LRun k l f):(k=0/\l=f/\(Mh l).length<=1)\/∃ j m g,k=j+1/\1<(Mh l).length/\(Mh l).length<=1000/\Fg (Mh l)/\Bd 9000000 (Mh l)/\Bd 9000000 (Gj (Mh l))/\GRun m (Hu (Mh l)) (Hu (Gj (Mh l))) g/\l.length<=1000/\LRun j (l++[g]) f:=by
 cases h with
 | stop h=>exact .inl ⟨rfl,rfl,h⟩
 | step h1 h2 h3 h4 h5 h6 h7 h8=>exact .inr ⟨_,_,_,rfl,h1,h2,h3,h4,h5,h6,h7,h8⟩
def DOk (a b q:List Int):Prop:=0<b.length/\b.length<=1000/\a.length<=1000/\Bd 9000000 b/\∃ qf r n,Bd 9000000 qf/\qf.length<=1000/\DRun b n a (List.replicate (a.length+1-b.length) 0) qf r/\q=trim qf
theorem DOk.bd {a b q:List Int} (h:DOk a b q):Bd 9000000 q:=by
 obtain ⟨_,_,_,_,qf,r,n,h1,_,_,rfl⟩:=h;exact Sr h1
theorem DOk.len {a b q:List Int} (h:DOk a b q):q.length<=1000:=by
 obtain ⟨_,_,_,_,qf,r,n,_,h1,_,rfl⟩:=h;exact Qc (Rq _) h1
theorem DOk.trim {a b q:List Int} (h:DOk a b q):Fg q:=by
 obtain ⟨_,_,_,_,qf,r,n,_,_,_,rfl⟩:=h;exact Rl _
def Zok (a b c f:List Int):Prop:=∃ x y z,DOk a b x/\DOk b c y/\DOk (Hu x) (Hu y) z/\f=Hu z
structure FRun (a:List Int) (m:Nat) (f:Nat->List Int):Prop where
 run:∃ n l,LRun n [Hu a] l/\l.length=m+1/\∀ k,k<m->Zok ((l++[[1]]).getD k []) ((l++[[1]]).getD (k+1) []) ((l++[[1]]).getD (k+2) []) (f k)
 small:m<=1000
def Qnj (f:Nat->List Int) (n:Nat):List (List Int):=(List.range n).map f
theorem Qxj (f:Nat->List Int) (n:Nat):(Qnj f n).length=n:=by simp [Qnj]
theorem Q7f (f:Nat->List Int) (n:Nat):Qnj f (n+1)=Qnj f n++[f n]:=by simp [Qnj,W0]
theorem Zei {f:Nat->List Int} {n i:Nat} (h:i<n):(Qnj f n)[i]? = some (f i):=by simp [Qnj,X2 h]
theorem Qzj {l:List (List Int)} {i:Nat} (h:i<l.length):l[i]? = some (l.getD i []):=by
 rw [Qe,Qd h]; rfl
def Oe (f:Nat->List Int):Nat->List Int
 | 0=>[1]
 | i+1=>Gs (Oe f i) (f i)
def Zoj (m:Nat) (f:Nat->List Int):Prop:=∀ i,i<m->Bd 9000000 (Oe f i)/\(Oe f i).length<=1000/\Bd 9000000 (f i)/\(f i).length<=1000
inductive CRun:Nat->List (List Int)->List Int->List (List Int)->Prop
 | stop {l:List (List Int)} {g:List Int}:g.length=0->CRun 0 l g l
 | step {k m:Nat} {l f:List (List Int)} {g r:List Int}:0<g.length->g.length<=1000->Bd 9000000 g->RRun g m (Mh l) r->Fg r->Bd 9000000 r->r.length<=1000->0<l.length->l.length<=1000->CRun k (l++[g]) (P0 (Td r)) f->CRun (k+1) l g f
theorem CRun.inv {k:Nat} {l f:List (List Int)} {g:List Int} (h:CRun k l g f):(k=0/\l=f/\g.length=0)\/∃ j m r,k=j+1/\0<g.length/\g.length<=1000/\Bd 9000000 g/\RRun g m (Mh l) r/\Fg r/\Bd 9000000 r/\r.length<=1000/\0<l.length/\l.length<=1000/\CRun j (l++[g]) (P0 (Td r)) f:=by
 cases h with
 | stop h=>exact .inl ⟨rfl,rfl,h⟩
 | step h1 h2 h3 h4 h5 h6 h7 h8 h9 h10=>exact .inr ⟨_,_,_,rfl,h1,h2,h3,h4,h5,h6,h7,h8,h9,h10⟩
structure ChRun (a:List Int) (sq:List Int) (c:List (List Int)):Prop where
 fac:∃ m f,FRun a m f/\Zoj m f/\sq=Oe f m
 chain:∃ n,CRun n [sq] (Td (Gj sq)) c
 bd:Bd 8000000 sq
 len:sq.length<=1000
 small:c.length<=1000
def Q1l (q:Rat) (c:List (List Int)):Prop:=∃ sq,ChRun [-q.num,(q.den:Int)] sq c
end Orr
namespace Orr
open Go Go.Proofs
set_option maxRecDepth 10000
theorem RRun.inv {b a r:List Int} {k:Nat} (h:RRun b k a r):(k=0/\a=r/\a.length<b.length)\/(∃ j,k=j+1/\b.length<=a.length/\a.length<=1000/\Bd 9000000 a/\Bd 9000000 b/\RRun b j (A5 a b) r):=by
 cases h with
 | stop h=>exact .inl ⟨rfl,rfl,h⟩
 | step h1 h2 h3 h4 h5=>exact .inr ⟨_,rfl,h1,h2,h3,h4,h5⟩
theorem Zi0 {a b:List Int} (ha:Bd 9000000 a):Fq (Ld a b)<=9000000:=by
 unfold Ld; split
 ·rw [Hh]; exact Ft ha _
 ·exact Ft ha _
theorem Ziv (n:Nat):ri (n:Int)=[nd n,.bool false]:=by
 show [nd n,sg (n:Int)]=_;unfold sg;rw [decide_eq_false (by omega)]
def Qs9 (a b:List Int) (n:Nat):List Int:=(List.range n).map (Ln a b)
theorem Zdq (a b:List Int) (n:Nat):(Qs9 a b n).length=n:=by simp [Qs9]
theorem Qqa (a b:List Int) (n:Nat):Qs9 a b (n+1)=Qs9 a b n++[Ln a b n]:=by simp [Qs9,W0]
theorem Q2i {a0 b res:List Int} {n:Nat} (hb0:0<b.length) (hb1:b.length<=1000) (hbb0:Bd 9000000 b) (hrun:RRun b n a0 res):Fa Tryz.prog 138 [.one (rp (zp a0)),.one (rp (zp b))] [.one (rp (zp res))]:=by
 have hbl:=fzl b;have hle:Fq (((Fx b).natAbs:Nat):Int)<=9000000:=Ft hbb0 _;refine Hl Tryz.func138 rfl ?_;refine go tt [.r 15 (eI (b:=((b.length-1:Nat):Int)) (by omega)),.x (Tz (p:=b) (i:=b.length-1) (by omega))] rfl (by simp [U9]; omega) ?_;refine sb [(0,.v (.one (rp (zp a0)))),(1,.v (.one (rp (zp b)))),(5,.v (.one (.ow 0 0))),(6,.v (.one (.ow 1 0)))] [.blk 33 (ri (Fx b)),.blk 33 [nd (Fx b).natAbs,.bool false]] rfl rfl ?_;refine lp (S:=Nat×List Int) 2 (λL1 s=>(0,.v (.one (rp (zp s.2))))::L1) (λ_=>[.blk 33 (ri (Fx b)),.blk 33 [nd (Fx b).natAbs,.bool false]]) (λs=>s.1) (λs=>RRun b s.1 s.2 res) (n,a0) hrun rfl (λ_ _=>rfl) rfl λ⟨k,a⟩ hs=>?_
 have hal:=fzl a;have hs:RRun b k a res:=hs;rcases RRun.inv hs with ⟨rfl,rfl,h1⟩ | ⟨j,rfl,h1,h2,ha,hb,hr⟩
 ·exact en tt [.f (decide_eq_false (by dsimp only; omega))] rfl rfl trivial
 obtain ⟨K,hK⟩:=nmE (a.length-b.length);have htb:=Zi0 (b:=b) ha;have cc:=Qbb (p:=zp (Qs9 a b a.length));rw [C0,show trim (Qs9 a b a.length)=A5 a b from rfl] at cc;refine go tt [.t (decide_eq_true (by dsimp only; omega)),.r 30 (eI (b:=(K:Int)) (by dsimp only; omega)),.r 34 (eI (b:=((a.length-1:Nat):Int)) (by dsimp only; omega)),.x (Tz (p:=a) (i:=a.length-1) (by omega))] rfl (by simp [U9]; omega) ?_;refine ct 1 (S:=Unit) (λ_=>[(0,.v (.one (rp (zp a)))),(1,.v (.one (rp (zp b)))),(5,.v (.one (.ow 0 0))),(6,.v (.one (.ow 1 0))),(7,.v (.one (.int .i64 (K:Int)))),(8,.v (.one (.ow 2 0)))]) (λ_=>[.blk 33 (ri (Fx b)),.blk 33 [nd (Fx b).natAbs,.bool false],.blk 33 (ri (Ld a b))]) (λ_=>True) rfl ?_ (λ_ _=>?_)
 ·by_cases hn:Fx b<0
  ·have e:Ld a b=-(Fx a):=if_pos hn;rw [e];exact go tt [.t (decide_eq_true hn),.c [] (Ot (z:=Fx a))] rfl trivial (rc () trivial rfl)
  ·have e:Ld a b=Fx a:=if_neg hn;rw [e];exact go tt [.f (decide_eq_false hn)] rfl trivial (rc () trivial rfl)
 refine go tt [.o 9 35 4] rfl trivial ?_;refine lp (S:=Nat) 4 (λL1 i=>(44,.v (.one (.int .i64 (i:Int))))::(9,.v (.one (.orow 3 4 none)))::L1) (λi=>[.blk 33 (ri (Fx b)),.blk 33 [nd (Fx b).natAbs,.bool false],.blk 33 (ri (Ld a b)),.row false 35 4 (frow (zp (Qs9 a b i)))]) (λi=>a.length-i) (λi=>i<=a.length) 0 (Qi _) rfl (λ_ _=>rfl) rfl λi hi=>?_
 have hfl:=fzl (Qs9 a b i);rw [Zdq] at hfl;by_cases h:i<a.length
 ·have cm:=Mq (a:=a.getD i 0) (b:=(((Fx b).natAbs:Nat):Int)) (Qc (Ft ha i) (by decide)) (by omega);have hm:=Gd (a.getD i 0) (((Fx b).natAbs:Nat):Int);have hai:=Ft ha i;rw [Ziv (Fx b).natAbs] at cm;by_cases hk:K<=i
  ·have hbi:=Ft hb (i-K);have hm2:=Gd (Ld a b) (b.getD (i-K) 0);have e:Ln a b i=a.getD i 0*(((Fx b).natAbs:Nat):Int)-Ld a b*b.getD (i-K) 0:=by unfold Ln; rw [if_pos (by omega),hK]
   refine go tt [.t (decide_eq_true (by omega)),.x (Tz h),.c [] cm,.t (decide_eq_true (by omega)),.r 62 (eI (b:=((i-K:Nat):Int)) (by omega)),.x (Tz (p:=b) (i:=i-K) (by omega)),.c [] (Mq (a:=Ld a b) (b:=b.getD (i-K) 0) (by omega) (by omega)),.c [] (Q9d (by omega) (by omega)),.c [] (Lp (n:=1) (by decide)),.c [] (Nk (n:=a.getD i 0*(((Fx b).natAbs:Nat):Int)-Ld a b*b.getD (i-K) 0)),.s (sz:=4) (Qz4 _)] rfl (by simp [U9,hfl,-List.getD_eq_getElem?_getD] <;> omega) ?_;exact rd (i+1) (by omega) h (by rw [Qqa,Qty,e]; rfl)
  ·have e:Ln a b i=a.getD i 0*(((Fx b).natAbs:Nat):Int):=by unfold Ln; rw [if_neg (by omega),Int.sub_zero]
   refine go tt [.t (decide_eq_true (by omega)),.x (Tz h),.c [] cm,.f (decide_eq_false (by omega)),.c [] (Lp (n:=1) (by decide)),.c [] (Nk (n:=a.getD i 0*(((Fx b).natAbs:Nat):Int))),.s (sz:=4) (Qz4 _)] rfl (by simp [U9,hfl,-List.getD_eq_getElem?_getD] <;> omega) ?_;exact rd (i+1) (by omega) h (by rw [Qqa,Qty,e]; rfl)
 ·have e:i=a.length:=by omega
  rw [e];exact go tt [.f (decide_eq_false (by omega)),.c [] cc] rfl trivial (rd (j,A5 a b) (by omega) hr rfl)
theorem Zl0:Fa Tryz.prog 55 [.agg (ri 1),.agg (ri 1)] [.agg (ri 1)]:=Mq (a:=1) (b:=1) (by decide) (by decide)
theorem Zge:Fa Tryz.prog 133 [.agg (ri 1),.agg (ri 1)] [.agg (ri 1)]:=Qkx (a:=1) (b:=1) (by decide) (by decide)
theorem Zf2 {z:Int} (hz:Fq z<=90000000):Fa Tryz.prog 55 [.agg (ri z),.agg (ri 1)] [.agg (ri z)]:=by
 have h:=Mq (a:=z) (b:=1) (by omega) (by decide);rwa [Uc] at h
theorem Q14 {z:Int} (hz:Fq z<=90000000):Fa Tryz.prog 134 [.agg (ri z),.agg (ri 1)] [.agg (ri z)]:=by
 have h:=Qgt (a:=z) (b:=1) hz (by decide) (by decide) (Int.emod_one z);rwa [Ka] at h
theorem Q8q {z:Int}:Fa Tryz.prog 67 [.agg (fr (z:Rat))] [.agg (fr ((-z:Int):Rat))]:=by
 have h:=Zlu (a:=(z:Rat));rwa [<-V0] at h
theorem Zna {c:Int} (hc:c≠0) (hs:Fq c<=9000000):Qs 40000000 (((1:Int):Rat) / (c:Rat)):=by
 have h0:(c:Rat)≠0:=λe=>hc (by exact_mod_cast e)
 rw [<-Qp1 h0];unfold He;rw [if_neg (Jn (Be _) (λe=>hc (by simpa using e)))];refine Qs.divInt (by show Fq (1*1)<=_; decide) ?_ (by decide);show Fq (1*c)<=_;rw [Y4]; omega
theorem Qyi {p:List Int} {c:Int} (hc:c≠0) (hs:Fq c<=9000000) (hd:∀ j,c∣p.getD j 0) (hp:Bd 9000000 p) (hl:p.length<=1000):Fa Tryz.prog 203 [.one (rp (zp p)),.agg (fr (((1:Int):Rat) / (c:Rat)))] [.one (rp (zp (M7 p.length λi=>p.getD i 0 / c)))]:=by
 have h:=Iv ((Qa0 hp (by omega)).mono (by omega)) (Zna hc hs) (by rw [Pn]; omega);rwa [show ((1:Int):Rat)=1 from rfl,Q0y hc hd] at h
theorem Ou {p:List Int} (tp:Fg p) (hp:Bd 9000000 p) (hl:p.length<=1000):Fa Tryz.prog 147 [.one (rp (zp p))] [.agg (fr ((Nf p:Int):Rat)),.one (rp (zp (Hu p)))]:=by
 have Nl:=fzl p;rcases Q0 p.length with h0 | h0
 ·have e:=Qh h0;subst e;exact w tt Tryz.func147 rfl [.t rfl,.c [] Q9c] rfl rfl trivial
 have hc:=Za0 tp h0;refine Hl Tryz.func147 rfl ?_;refine go tt [.f (decide_eq_false (by omega)),.c [] (Lp (n:=1) (by decide))] rfl trivial ?_;refine lp (S:=Nat) 2 (λL1 i=>(16,.v (.one (.int .i64 (i:Int))))::L1) (λi=>[.blk 35 [.nils,.bool false,.nils,.bool false],.blk 33 (ri 1)]) (λi=>p.length-i) (λi=>i<=p.length) 0 (Qi _) rfl (λ_ _=>rfl) rfl λi hi=>?_
 by_cases h:i<p.length
 ·refine go tt [.t (decide_eq_true (by omega)),.x (Tz h),.c [] Zl0,.x (Tz h),.c [] Zge,.c [] (Q14 (z:=1) (by decide))] rfl (by simp [U9]; omega) ?_;exact rd (i+1) (by omega) h rfl
 refine go tt [.f (decide_eq_false (by omega))] rfl trivial ?_;clear h hi;refine nlb 2 rfl rfl rfl ?_;rw [Q4p];refine lp (S:=Nat) 3 (λL1 i=>(37,.v (.one (.int .i64 (i:Int))))::L1) (λi=>[.blk 35 [.nils,.bool false,.nils,.bool false],.blk 33 (ri 1),.blk 33 (ri ((Av p i:Nat):Int))]) (λi=>p.length-i) (λi=>i<=p.length) 0 (Qi _) rfl (λ_ _=>rfl) rfl λi hi=>?_
 by_cases h:i<p.length
 ·have hb:=Ft hp i;have hg:=Qbe hp i;refine go tt [.t (decide_eq_true (by omega)),.x (Tz h),.c [] (Zf2 (z:=p.getD i 0) (by omega)),.x (Tz h),.c [] (Q14 (z:=p.getD i 0) (by omega)),.c [] (Qkx (a:=((Av p i:Nat):Int)) (b:=p.getD i 0) (by omega) (by omega))] rfl (by simp [U9]; omega) ?_;exact rd (i+1) (by omega) h rfl
 have e:i=p.length:=by omega
 rw [e];have co:=Qkt (n:=1) (by decide);have cs:=Qyi hc (Qox hp) (Q6a p) hp hl;by_cases hn:Fx p<0
 ·have e2:Nf p=-((cont p:Nat):Int):=if_pos hn;rw [show (λi=>p.getD i 0 / Nf p)=λi=>p.getD i 0 / Nf p from rfl] at cs;have cn:=Q8q (z:=((cont p:Nat):Int));rw [<-e2] at cn;exact en tt [.f (decide_eq_false (by omega)),.c [] (Nk (n:=((cont p:Nat):Int))),.r 62 (eI (b:=((p.length-1:Nat):Int)) (by omega)),.x (Tz (p:=p) (i:=p.length-1) (by omega)),.t (decide_eq_true hn),.c [] cn,.c [] co,.c [] (Qyh (a:=((1:Int):Rat)) (b:=((Nf p:Int):Rat)) ⟨by decide,by decide⟩ (Ll (by have:=Qox hp; omega) (by decide)) (λe=>hc (by exact_mod_cast e))),.c [] cs] rfl rfl (by simp [U9]; omega)
 ·have e2:Nf p=((cont p:Nat):Int):=if_neg hn;have cm:=Nk (n:=Nf p);rw [e2] at cm cs hc ⊢;exact en tt [.f (decide_eq_false (by omega)),.c [] cm,.r 62 (eI (b:=((p.length-1:Nat):Int)) (by omega)),.x (Tz (p:=p) (i:=p.length-1) (by omega)),.f (decide_eq_false hn),.c [] co,.c [] (Qyh (a:=((1:Int):Rat)) (b:=((((cont p:Nat):Int):Int):Rat)) ⟨by decide,by decide⟩ (Ll (by have:=Qbe hp p.length; unfold cont; omega) (by decide)) (λe=>hc (by exact_mod_cast e))),.c [] cs] rfl (by unfold Hu; rw [e2]; rfl) (by simp [U9]; omega)
theorem Aq {p:List Int} (tp:Fg p) (hp:Bd 9000000 p) (hl:p.length<=1000):Fa Tryz.prog 80 [.one (rp (zp p))] [.one (rp (zp (Hu p)))] :=
 w tt Tryz.func80 rfl [.c [] (Ou tp hp hl)] rfl rfl trivial
theorem Qoy {p:List Int} (tp:Fg p):Nf p<0↔Fx p<0:=by
 unfold Nf;rcases Q0 p.length with h0 | h0
 ·have:=Qh h0; subst this; decide
 ·have:=Quq tp h0
  split <;> omega
theorem Qyp {p:List Int} (hp:Bd 9000000 p) (hl:p.length<=1000000):Fa Tryz.prog 137 [.one (rp (zp p))] [.one (rp (zp (P0 p)))]:=by
 have h:=Qyv ((Qa0 hp (by decide)).mono (by decide)) (by rw [Pn]; exact hl);rwa [Q4q] at h
theorem Quh {p:List Int} (tp:Fg p) (hp:Bd 9000000 p) (hl:p.length<=1000):Fa Tryz.prog 136 [.one (rp (zp p))] [.one (rp (zp (Td p)))]:=by
 by_cases hn:Fx p<0
 ·have e:Td p=P0 (Hu p):=if_pos hn;rw [e];exact w tt Tryz.func136 rfl [.c [] (Ou tp hp hl),.t (decide_eq_true ((Qoy tp).2 hn)),.c [] (Qyp (Qkn hp) (Qc (Qhk p) (by omega)))] rfl rfl trivial
 ·have e:Td p=Hu p:=if_neg hn;rw [e];exact w tt Tryz.func136 rfl [.c [] (Ou tp hp hl),.f (decide_eq_false λh=>hn ((Qoy tp).1 h))] rfl rfl trivial
end Orr
namespace Orr
theorem E3 (f:Nat->Int):M7 1 f=trim [f 0]:=rfl
theorem Qlp (f:Nat->Int):M7 2 f=trim [f 0,f 1]:=rfl
theorem Qdn (x:Int):trim [x]=if x=0 then [] else [x]:=rfl
theorem Qqm (x y:Int):trim [x,y]=if y=0 then trim [x] else [x,y]:=by
 simp only [trim]; split <;> split <;> simp_all
theorem bd1 {s:Nat} {x:Int} (h:Fq x<=s):Bd s [x]:=λz hz=>by simp at hz; subst hz; exact h
theorem bd2 {s:Nat} {x y:Int} (h:Fq x<=s) (h':Fq y<=s):Bd s [x,y]:=λz hz=>by
 simp only [Qm,Kn,or_false] at hz;rcases hz with rfl | rfl <;> assumption
section
variable {x d:Int} (hd:0<d) (hg:Int.gcd x d=1) (hx:Fq x<=1000000) (hs:Fq d<=1000000)
theorem b1 {s:Nat} (h:1<=s):Bd s [1]:=bd1 (Qc (show Fq 1<=1 by decide) h)
include hd in
theorem Qb5 (hg:Int.gcd x d=1):Hu [x,d]=[x,d]:=by
 have hc:Nf [x,d]=1:=by
  have h1:cont [x,d]=1:=by
   show Int.gcd (Int.gcd ((0:Nat):Int) x:Nat) d=1;rw [show Int.gcd ((0:Nat):Int) x=x.natAbs by simp,show Int.gcd ((x.natAbs:Nat):Int) d=Int.gcd x d by simp [Int.gcd],hg]
  unfold Nf;rw [if_neg (show ¬Fx [x,d]<0 from by show ¬d<0; omega),h1]; rfl
 unfold Hu;rw [hc];show M7 2 _=_;rw [Qlp,Qqm];show (if d / 1=0 then _ else [x / 1,d / 1])=_;rw [Ka,if_neg (by omega),Ka]
theorem Qwt:Hu [1]=[1]:=by decide
include hd in
theorem Qmz:Hu [d]=[1]:=by
 have hc:Nf [d]=d:=by
  have h1:((cont [d]:Nat):Int)=d:=by
   show ((Int.gcd ((0:Nat):Int) d:Nat):Int)=d;simp; omega
  unfold Nf;rw [if_neg (show ¬Fx [d]<0 from by show ¬d<0; omega),h1]
 unfold Hu;rw [hc];show M7 1 _=_;rw [E3,Qdn];show (if d / d=0 then _ else [d / d])=_;rw [Int.ediv_self (by omega)]; rfl
include hd in
theorem Qri:Gj [x,d]=[d]:=by
 show M7 1 _=_;rw [E3,Qdn];show (if d*1=0 then _ else [d*1])=_;rw [Uc,if_neg (by omega)]
include hd hx hs in
theorem Qw4:∃ m,RRun [1] m [x,d] []:=by
 have h1:A5 [x,d] [1]=trim [x]:=by
  show M7 2 _=_;rw [Qlp,Qqm];have e1:Ln [x,d] [1] 1=0:=by
   show d*1-(if 1<=1 then Ld [x,d] [1]*1 else 0)=0;have:Ld [x,d] [1]=d:=by unfold Ld; rw [if_neg (by decide)]; rfl
   rw [this]; simp
  have e0:Ln [x,d] [1] 0=x:=by
   show x*1-(if 1<=0 then _ else 0)=x;simp
  rw [e1,if_pos rfl,e0]
 have hb:Bd 9000000 [x,d]:=bd2 (by omega) (by omega);by_cases h0:x=0
 ·refine ⟨1,.step (by show 1<=2; decide) (by show 2<=1000; decide) hb (b1 (by decide)) ?_⟩;rw [h1,h0];exact .stop (by decide)
 ·refine ⟨2,.step (by show 1<=2; decide) (by show 2<=1000; decide) hb (b1 (by decide)) ?_⟩;rw [h1,Qdn,if_neg h0];refine .step (Ql 1) (by show 1<=1000; decide) (bd1 (by omega)) (b1 (by decide)) ?_;have h2:A5 [x] [1]=[]:=by
   show M7 1 _=_;rw [E3,Qdn];have e0:Ln [x] [1] 0=0:=by
    show x*1-(if 0<=0 then Ld [x] [1]*1 else 0)=0;have:Ld [x] [1]=x:=by unfold Ld; rw [if_neg (by decide)]; rfl
    rw [this]; simp
   rw [e0,if_pos rfl]
  rw [h2];exact .stop (by decide)
include hd hx hs in
theorem Zbj:∃ m,GRun m [x,d] [1] [1]:=by
 obtain ⟨m,h⟩:=Qw4 hd hx hs;exact ⟨1,.step (by decide) (by decide) (b1 (by decide)) h (by decide) Qa9 rfl (by rw [show Hu []=[] by decide]; exact .stop _)⟩
theorem Q6z (c:Int):Pa [c] [c]=[]:=by
 show M7 1 _=_;rw [E3,Qdn];show (if c-c=0 then _ else _)=_;rw [if_pos (by omega)]
include hd hx hs in
theorem Q21:DOk [x,d] [1] [x,d]:=by
 refine ⟨by decide,by decide,by show 2<=1000; decide,b1 (by decide),[x,d],[],?_⟩;have Nl:Fx [x,d] / Fx [1]=d:=by show d / 1=d; rw [Ka]
 have hsc:Gb [1] d=[d]:=by
  show M7 1 _=_;rw [E3,Qdn];show (if 1*d=0 then _ else [1*d])=_;rw [Y4,if_neg (by omega)]
 have hsub:Pa [x,d] (Pd 1 [d])=trim [x]:=by
  show M7 2 _=_;rw [Qlp,Qqm];show (if d-d=0 then trim [x-0] else _)=_;rw [if_pos (by omega),Int.sub_zero]
 have hb:Bd 9000000 [x,d]:=bd2 (by omega) (by omega);have ht:trim [x,d]=[x,d]:=by rw [Qqm,if_neg (by omega)]
 by_cases h0:x=0
 ·refine ⟨1,hb,by show 2<=1000; decide,?_,ht.symm⟩;refine .step (by show 1<=2; decide) (by show 2<=1000; decide) hb (by decide) (by show (1:Int)∣d; exact U6 d) (by show 1<2; decide) ?_;rw [Nl,hsc,show [x,d].length-[(1:Int)].length=1 from rfl,hsub,Qdn,if_pos h0];show DRun [1] 0 [] [0,d] [x,d] [];rw [h0]; exact .stop (by decide)
 ·refine ⟨2,hb,by show 2<=1000; decide,?_,ht.symm⟩;refine .step (by show 1<=2; decide) (by show 2<=1000; decide) hb (by decide) (by show (1:Int)∣d; exact U6 d) (by show 1<2; decide) ?_;rw [Nl,hsc,show [x,d].length-[(1:Int)].length=1 from rfl,hsub,Qdn,if_neg h0];refine .step (by show 1<=1; decide) (by show 1<=1000; decide) (bd1 (by omega)) (by decide) (by show (1:Int)∣x; exact U6 x) (by show 0<2; decide) ?_;have hpl2:Fx [x] / Fx [1]=x:=by show x / 1=x; rw [Ka]
  have hsc2:Gb [1] x=[x]:=by
   show M7 1 _=_;rw [E3,Qdn];show (if 1*x=0 then _ else [1*x])=_;rw [Y4,if_neg h0]
  rw [hpl2,hsc2,show [x].length-[(1:Int)].length=0 from rfl,show Pd 0 [x]=[x] from rfl,Q6z];exact .stop (by decide)
theorem div_one:DOk [1] [1] [1]:=by
 refine ⟨by decide,by decide,by decide,b1 (by decide),[1],[],1,b1 (by decide),by decide,?_,by decide⟩;refine .step (by decide) (by decide) (b1 (by decide)) (by decide) (by decide) (by decide) ?_;exact .stop (by decide)
include hd hg hx hs in
theorem Za3:FRun [x,d] 1 (λ_=>[x,d]):=by
 obtain ⟨m,hm⟩:=Zbj (x:=x) hd hx hs;refine ⟨⟨1,[[x,d],[1]],?_,rfl,?_⟩,by decide⟩
 ·rw [Qb5 hd hg];refine .step (by show 1<2; decide) (by show 2<=1000; decide) (by show trim [x,d]=[x,d]; rw [Qqm,if_neg (by omega)]) (by show Bd 9000000 [x,d]; exact bd2 (by omega) (by omega)) ?_ ?_ (by show 1<=1000; decide) (m:=m) (g:=[1]) ?_
  ·show Bd 9000000 (Gj [x,d]);rw [Qri hd]; exact bd1 (by omega)
  ·show GRun m (Hu [x,d]) (Hu (Gj [x,d])) [1];rw [Qb5 hd hg,Qri hd,Qmz hd]; exact hm
  ·exact .stop (by show 1<=1; decide)
 ·intro k hk;have:k=0:=by omega
  subst this;exact ⟨[x,d],[1],[x,d],Q21 hd hx hs,div_one,by rw [Qb5 hd hg,Qwt]; exact Q21 hd hx hs,(Qb5 hd hg).symm⟩
theorem Qpj {p:List Int} (hp:Fg p) (h0:0<p.length):Gs [1] p=p:=by
 refine Qbn (Hq _ _) hp λk=>?_
 unfold Gs;rw [if_neg (by
  rintro (h | h); · cases h
  ·omega),Es]
 show (Ci [1] p (List.replicate (1+p.length-1) 0) 1).getD k 0=_;simp only [Ci];rw [Qhn _ _ _ _ _ _ (by simp),Tk]
 split
 ·show 0+1*p.getD (k-0) 0=_;rw [W5]; omega
 ·rename_i h;rw [Qe,Qt (by omega)]; rfl
include hd hg hx hs in
theorem Qok:ChRun [x,d] [x,d] [[x,d],[1]]:=by
 obtain ⟨m,hm⟩:=Qw4 (x:=x) hd hx hs;have ht:Fg [x,d]:=by show trim [x,d]=_; rw [Qqm,if_neg (by omega)]
 refine ⟨⟨1,λ_=>[x,d],Za3 hd hg hx hs,?_,?_⟩,⟨1,?_⟩,bd2 (by omega) (by omega),by show 2<=1000; decide,by show 2<=1000; decide⟩
 ·intro i hi;have:i=0:=by omega
  subst this;exact ⟨b1 (by decide),by show 1<=1000; decide,bd2 (by omega) (by omega),by show 2<=1000; decide⟩
 ·show [x,d]=Gs [1] [x,d];rw [Qpj ht (by show 0<2; decide)]
 ·have hz:Td (Gj [x,d])=[1]:=by
   rw [Qri hd];unfold Td;rw [if_neg (show ¬Fx [d]<0 from by show ¬d<0; omega),Qmz hd]
  rw [hz];refine .step (by decide) (by decide) (b1 (by decide)) (m:=m) (r:=[]) hm rfl Qa9 (by decide) (by show 0<1; decide) (by show 1<=1000; decide) ?_;exact .stop (by decide)
end
theorem Zpz {q:Rat} (h:Qs 1000000 q):Q1l q [[-q.num,(q.den:Int)],[1]]:=by
 refine ⟨[-q.num,(q.den:Int)],Qok (den_pos q) ?_ (by rw [Hh]; exact h.1) h.2⟩;rw [Int.neg_gcd];have:=q.reduced;unfold Nat.Coprime at this;simpa [Int.gcd] using this
end Orr
namespace Orr
open Go Go.Proofs
set_option maxRecDepth 10000
theorem Zl1 {a b g:List Int} {n:Nat} (ta:Fg a) (tb:Fg b) (ha:Bd 9000000 a) (hb:Bd 9000000 b) (la:a.length<=1000) (lb:b.length<=1000) (hrun:GRun n (Hu a) (Hu b) g):Fa Tryz.prog 155 [.one (rp (zp a)),.one (rp (zp b))] [.one (rp (zp g))]:=by
 refine Hl Tryz.func155 rfl ?_;refine go tt [.c [] (Aq ta ha la),.c [] (Aq tb hb lb)] rfl trivial ?_;refine sb [(0,.v (.one (rp (zp (Hu a))))),(1,.v (.one (rp (zp (Hu b)))))] [] rfl rfl ?_;refine lp (S:=Nat×List Int×List Int) 0 (λL1 s=>(0,.v (.one (rp (zp s.2.1))))::(1,.v (.one (rp (zp s.2.2))))::L1) (λ_=>[]) (λs=>s.1) (λs=>GRun s.1 s.2.1 s.2.2 g) (n,Hu a,Hu b) hrun rfl (λ_ _=>rfl) rfl λ⟨k,x,y⟩ hs=>?_
 have hs:GRun k x y g:=hs;have hyl:=fzl y;rcases hs.inv with ⟨hk,hy0,hxg⟩ | ⟨j,m2,r,hk,hy0,hy1,hyb,hrr,hrl,hrb,hrt,hgr⟩
 ·rw [<-hxg];exact en tt [.f (decide_eq_false (by dsimp only; omega))] rfl rfl trivial
 ·subst hk;refine go tt [.t (decide_eq_true (by dsimp only; omega)),.c [] (Q2i (a0:=x) (b:=y) (res:=r) hy0 hy1 hyb hrr),.c [] (Aq (p:=r) hrt hrb hrl)] rfl trivial ?_;exact rd (j,y,Hu r) (by dsimp only; omega) hgr rfl
theorem Zf3 {x y:Int} (hx:Fq x<=9000000) (hy:Fq y<=9000000) (h0:y≠0) (hd:y∣x):Fa Tryz.prog 207 [.agg (fr (x:Rat)),.agg (fr (y:Rat))] [.agg (fr ((x / y:Int):Rat))]:=by
 have hy0:(y:Rat)≠0:=λe=>h0 (by exact_mod_cast e)
 have h:=Qyh (Ll (s:=40000000) (z:=x) (by omega) (by omega)) (Ll (s:=40000000) (z:=y) (by omega) (by omega)) hy0;obtain ⟨k,rfl⟩:=hd;rw [Xw _ h0];rwa [show (((y*k:Int):Rat)) / (y:Rat)=(k:Rat) by rw [Xz]; grind] at h
theorem Q5r {p:List Int} {c:Int} (hp:Bd 40000000 p) (hc:Fq c<=40000000) (hl:p.length<=1000000):Fa Tryz.prog 203 [.one (rp (zp p)),.agg (fr (c:Rat))] [.one (rp (zp (Gb p c)))]:=by
 have h:=Iv (Qa0 hp (by omega)) (Ll hc (by omega)) (by rw [Pn]; exact hl);rwa [Qp9] at h
theorem Zjc (k:Nat) (p:List Int):frow (zp (List.replicate k 0))++frow (zp p)=frow (zp (Pd k p)):=by simp [zp,Pd,frow]
theorem Q6d (l:List Int) (i:Nat) (z:Int):(frow (zp l)).set i [nd ((z:Rat)).num.natAbs,sg ((z:Rat)).num,nd (((z:Rat)).den:Int).natAbs,sg (((z:Rat)).den:Int)]=frow (zp (l.set i z)):=Qvc l i z
theorem Zgi {p q:List Int} (hp:Bd 18000000 p) (hq:Bd 18000000 q) (hlp:p.length<=1000000) (hlq:q.length<=1000000):Rh Tryz.prog 144 [.one (rp (zp p)),.one (.orow 0 4 none)] [.row false 35 4 (frow (zp q))] [.one (rp (zp (Pa p q)))] [.gone]:=by
 have hn:=Qyv ((Qa0 hq (by decide)).mono (by decide)) (by rw [Pn]; exact hlq);have ha:=Qyq (p:=zp p) (q:=Qs6 (zp q)) ((Qa0 hp (by decide)).mono (by decide)) ((Zda (Qa0 hq (by decide))).mono (by decide)) (by rw [Pn]; exact hlp) (Qc (Qw5 _) (by rw [Pn]; exact hlq));have e:Q64 (zp p) (Qs6 (zp q))=zp (Pa p q):=Q4v p q;rw [e] at ha;refine Hl Tryz.func144 rfl ?_;exact ed tt [] [0] [.c [] hn,.c [] ha] rfl trivial
theorem Q5s {a0 b qf rem:List Int} {n:Nat} (hb0:0<b.length) (hb1:b.length<=1000) (hl0:a0.length<=1000) (hbb:Bd 9000000 b) (hqb:Bd 9000000 qf) (hrun:DRun b n a0 (List.replicate (a0.length+1-b.length) 0) qf rem):Fa Tryz.prog 259 [.one (rp (zp a0)),.one (rp (zp b))] [.one (rp (zp (trim qf))),.one (rp (zp rem))]:=by
 have h0l:=fzl a0;have hbl:=fzl b;obtain ⟨N,hN⟩:=nmE (a0.length+1-b.length);rw [<-hN] at hrun;have cc:=Qbb (p:=zp qf);rw [C0] at cc;refine Hl Tryz.func259 rfl ?_;refine go tt [.r 18 (eI (b:=(N:Int)) (by omega)),.i N,.i N,.r 21 (eI (b:=(N:Int)) (by simp))] rfl (by simp [U9]; omega) ?_;refine lp (S:=Nat) 1 (λL1 i=>(22,.v (.one (.int .i64 (i:Int))))::L1) (λi=>[.row false 35 4 (List.replicate i (fr 0)++List.replicate (N-i) zR)]) (λi=>N-i) (λi=>i<=N) 0 (Qi _) rfl (λ_ _=>rfl) rfl λi hi=>?_
 by_cases hlt:i<N
 ·refine go tt [.t (decide_eq_true (by omega)),.c [] Q9c,.i i] rfl (by simp [U9]; omega) ?_;rw [Qrv hlt];exact rd (i+1) (by omega) hlt rfl
 have hiN:i=N:=by omega
 rw [hiN,Qno];clear hiN hlt hi;refine go tt [.f (decide_eq_false (by omega))] rfl trivial ?_;refine sb [(0,.v (.one (rp (zp a0)))),(1,.v (.one (rp (zp b)))),(6,.v (.one (.orow 0 4 none)))] [.row false 35 4 (frow (zp (List.replicate N 0)))] rfl rfl ?_;refine lp (S:=Nat×List Int×List Int) 1 (λL1 s=>(0,.v (.one (rp (zp s.2.1))))::L1) (λs=>[.row false 35 4 (frow (zp s.2.2))]) (λs=>s.1) (λs=>DRun b s.1 s.2.1 s.2.2 qf rem/\s.2.2.length=N) (n,a0,List.replicate N 0) ⟨hrun,X9⟩ rfl (λ_ _=>rfl) rfl λ⟨k,a,q⟩ ⟨hr0,hr1⟩=>?_
 have hr0:DRun b k a q qf rem:=hr0;have hr1:q.length=N:=hr1;have hal:=fzl a;have hql:=fzl q;rcases hr0.inv with ⟨hk,hqf,har,hlt⟩ | ⟨j,hk,hba,hal2,hab,hpb,hpd,hkq,hrj⟩
 ·subst hqf; subst har;exact en tt [.f (decide_eq_false (by dsimp only; omega)),.c [] cc] rfl rfl trivial
 subst hk;obtain ⟨K,hK⟩:=nmE (a.length-b.length);rw [<-hK] at hrj hkq;have hla:Fq (Fx a)<=9000000:=Ft hab _;have hlb:Fq (Fx b)<=9000000:=Ft hbb _;obtain ⟨c,hc⟩:=nmE (Fx a / Fx b);have cq:=Zf3 hla hlb hpb hpd;have hcs:Fq (Fx a / Fx b)<=9000000:=Qc (Qbs _ _) hla;rw [<-hc] at cq hcs hrj;have hsl:=Gh b c;have hqs:∀ x,(q.set K x).length=N:=λx=>by rw [Jb]; exact hr1
 dsimp only;refine go tt [.t (decide_eq_true (by omega)),.r 39 (eI (b:=(K:Int)) (by omega)),.r 43 (eI (b:=((a.length-1:Nat):Int)) (by omega)),.x (Tz (p:=a) (i:=a.length-1) (by omega)),.r 49 (eI (b:=((b.length-1:Nat):Int)) (by omega)),.x (Tz (p:=b) (i:=b.length-1) (by omega)),.c [] cq,.i K,.i K,.i K,.r 60 (eI (b:=(K:Int)) (by simp))] rfl (by simp [U9,hql] <;> omega) ?_;rw [Q6d];refine lp (S:=Nat) 3 (λL1 i=>(61,.v (.one (.int .i64 (i:Int))))::L1) (λi=>[.row false 35 4 (frow (zp (q.set K c))),.blk 35 (fr (c:Rat)),.row false 35 4 (List.replicate i (fr 0)++List.replicate (K-i) zR)]) (λi=>K-i) (λi=>i<=K) 0 (Qi _) rfl (λ_ _=>rfl) rfl λi hi=>?_
 by_cases hlt:i<K
 ·refine go tt [.t (decide_eq_true (by omega)),.c [] Q9c,.i i] rfl (by simp [U9]; omega) ?_;rw [Qrv hlt];exact rd (i+1) (by omega) hlt rfl
 have hiK:i=K:=by omega
 rw [hiK,Qno];clear hiK hlt hi;have hzl:=fzl (List.replicate K 0);rw [X9] at hzl;have Nl:=fzl (Gb b c);refine go tt [.f (decide_eq_false (by omega))] rfl trivial ?_;refine sb [(10,.v (.one (.orow 2 4 none))),(9,.v (.one (.ow 1 0))),(0,.v (.one (rp (zp a)))),(1,.v (.one (rp (zp b)))),(6,.v (.one (.orow 0 4 none)))] [.row false 35 4 (frow (zp (q.set K c))),.blk 35 (fr (c:Rat)),.row false 35 4 (frow (zp (List.replicate K 0)))] rfl rfl ?_;have p2:=Zgi (p:=a) (q:=Pd K (Gb b c)) (U8 hab (by decide)) (U8 (Q5d (Gw hbb hcs)) (by decide)) (by omega) (by rw [Qnc]; omega);rw [<-Zjc] at p2;refine go tt [.c [] (Q5r (c:=c) (U8 hbb (by decide)) (by omega) (by omega)),.s (sz:=4) (Qg5 (zp (Gb b c))),.c [2] p2] rfl (by simp [U9,hzl,Nl]; omega) ?_;exact rd (j,Pa a (Pd K (Gb b c)),q.set K c) (by dsimp only; omega) ⟨hrj,hqs c⟩ rfl
def zls (l:List (List Int)):List (List LV):=l.map λp=>[rp (zp p)]
theorem Qat (l:List (List Int)):(zls l).length=l.length:=by simp [zls]
theorem Qgh (l:List (List Int)) (g:List Int):zls l++[[rp (zp g)]]=zls (l++[g]):=by simp [zls]
theorem Qas {l:List (List Int)} {i:Nat} (h:i<l.length):(zls l)[i]? = some [rp (zp (l.getD i []))]:=Ho (Qzj h)
theorem Zib (x:LV):∀ c∈[[x]],c.length=1:=λc hc=>by rw [Qk.1 hc]; rfl
theorem Qkz {a b q:List Int} (h:DOk a b q):∃ r,Fa Tryz.prog 259 [.one (rp (zp a)),.one (rp (zp b))] [.one (rp (zp q)),.one (rp (zp r))]:=by
 obtain ⟨h1,h2,h3,h4,qf,r,n,h5,h6,h7,rfl⟩:=h;exact ⟨r,Q5s h1 h2 h3 h4 h5 h7⟩
theorem Qyt {a:List Int} {mf:Nat} {f:Nat->List Int} (ta:Fg a) (ha:Bd 9000000 a) (la:a.length<=1000) (h2:2<=a.length) (hF:FRun a mf f):Fa Tryz.prog 202 [.one (rp (zp a))] [.one (.row (zls (Qnj f mf)))]:=by
 obtain ⟨⟨n,ls,hrun,hlen,hq⟩,hms⟩:=hF;have hal:=fzl a;refine Hl Tryz.func202 rfl ?_;refine go tt [.f (decide_eq_false (by omega)),.c [] (Aq ta ha la),.o 3 28 1,.lo] rfl trivial ?_;refine sb [(3,.v (.one (.orow 0 1 none))),(4,.v (.one (.orow 1 1 none)))] [.row false 28 1 [],.row false 28 1 (zls [Hu a])] rfl rfl ?_;refine lp (S:=Nat×List (List Int)) 2 (λL1 s=>(4,.v (.one (.orow 1 1 none)))::L1) (λs=>[.row false 28 1 [],.row false 28 1 (zls s.2)]) (λs=>s.1) (λs=>LRun s.1 s.2 ls/\0<s.2.length/\s.2.length<=1001) (n,[Hu a]) ⟨hrun,by show 0<1; decide,by show 1<=1001; decide⟩ rfl (λ_ _=>rfl) rfl λ⟨k,l⟩ ⟨hs1,hs2,hs3⟩=>?_
 have hs1:LRun k l ls:=hs1;have hs2:0<l.length:=hs2;have hs3:l.length<=1001:=hs3;have hll:=Qat l;have hlast:(zls l)[l.length-1]? = some [rp (zp (Mh l))]:=Qas (by omega);have Nl:=fzl (Mh l);dsimp only;rcases hs1.inv with ⟨hk,hlf,hl1⟩ | ⟨j,m2,g,hk,hg1,hg2,hg3,hg4,hg5,hg6,hg7,hlr⟩
 ·have hlm:l.length=mf+1:=by rw [hlf]; exact hlen
  rw [<-hlf] at hq;have hl2:=Qat (l++[[1]]);have hl3:(l++[[1]]).length=mf+2:=by simp [hlm]
  refine go tt [.r 23 (eI (b:=((l.length-1:Nat):Int)) (by omega)),.i (l.length-1),.x hlast,.f (decide_eq_false (by omega)),.c [] Qyw,.s (sz:=1) (Zib _)] rfl (by simp [U9,hll]; omega) ?_;rw [Qgh];refine lp (S:=Nat) 2 (λL1 i=>(6,.v (.one (.int .i64 (i:Int))))::(3,.v (.one (.orow 0 1 none)))::L1) (λi=>[.row false 28 1 (zls (Qnj f i)),.row false 28 1 (zls (l++[[1]]))]) (λi=>mf-i) (λi=>i<=mf) 0 (Qi _) rfl (λ_ _=>rfl) rfl λi hi=>?_
  have htl:=Qat (Qnj f i);rw [Qxj] at htl;by_cases h:i<mf
  ·obtain ⟨x,y,z,hx,hy,hz,hf⟩:=hq i h;obtain ⟨rx,hdx⟩:=Qkz hx;obtain ⟨ry,hdy⟩:=Qkz hy;obtain ⟨rz,hdz⟩:=Qkz hz;refine go tt [.t (decide_eq_true (by omega)),.i i,.x (Qas (by omega)),.i (i+1),.x (Qas (by omega)),.c [] hdx,.i (i+1),.x (Qas (by omega)),.i (i+2),.x (Qas (by omega)),.c [] hdy,.c [] (Aq hx.trim hx.bd hx.len),.c [] (Aq hy.trim hy.bd hy.len),.c [] hdz,.c [] (Aq hz.trim hz.bd hz.len),.s (sz:=1) (Zib _)] rfl (by simp [U9,hl2,htl]; omega) ?_;exact rd (i+1) (by omega) h (by rw [Qgh,Q7f,hf]; rfl)
  ·have e:i=mf:=by omega
   rw [e];exact en tt [.f (decide_eq_false (by omega))] rfl rfl (by simp [U9]; omega)
 ·subst hk;refine go tt [.r 23 (eI (b:=((l.length-1:Nat):Int)) (by omega)),.i (l.length-1),.x hlast,.t (decide_eq_true (by omega)),.r 31 (eI (b:=((l.length-1:Nat):Int)) (by omega)),.i (l.length-1),.x hlast,.c [] (Qys (U8 hg4 (by decide)) (by omega)),.c [] (Zl1 hg3 (Fw _ _) hg4 hg5 hg2 (Qc (Ph _) (by omega)) hg6),.s (sz:=1) (Zib _)] rfl (by simp [U9,hll]; omega) ?_;exact rd (j,l++[g]) (by dsimp only; omega) ⟨hlr,by simp,by simp; omega⟩ (by rw [Qgh]; rfl)
theorem Q5t {a:List Int} {mf:Nat} {f:Nat->List Int} (ta:Fg a) (ha:Bd 9000000 a) (la:a.length<=1000) (h2:2<=a.length) (hF:FRun a mf f) (hP:Zoj mf f):Fa Tryz.prog 135 [.one (rp (zp a))] [.one (rp (zp (Oe f mf)))]:=by
 have hms:=hF.small;have hal:=fzl a;have htl:=Qat (Qnj f mf);rw [Qxj] at htl;refine Hl Tryz.func135 rfl ?_;refine go tt [.f (decide_eq_false (by omega)),.c [] Qyw,.c [] (Qyt ta ha la h2 hF)] rfl trivial ?_;refine lp (S:=Nat) 0 (λL1 i=>(15,.v (.one (.int .i64 (i:Int))))::(3,.v (.one (rp (zp (Oe f i)))))::L1) (λ_=>[]) (λi=>mf-i) (λi=>i<=mf) 0 (Qi _) rfl (λ_ _=>rfl) rfl λi hi=>?_
 by_cases h:i<mf
 ·obtain ⟨g1,g2,g3,g4⟩:=hP i h;refine go tt [.t (decide_eq_true (by omega)),.x (Ho (f:=λp=>[rp (zp p)]) (Zei h)),.c [] (Qyu (p:=Oe f i) (q:=f i) (by omega) (by omega) g1 g3 (by decide))] rfl (by simp [U9]; omega) ?_;exact rd (i+1) (by omega) h rfl
 ·have e:i=mf:=by omega
  rw [e];exact en tt [.f (decide_eq_false (by omega))] rfl rfl trivial
theorem Q6k {l:List (List Int)} (g:List Int) (h:0<l.length):(zls l++[[rp (zp g)]])[l.length-1]? = some [rp (zp (Mh l))]:=by
 rw [Zi (by rw [Qat]; omega)];exact Qas (by omega)
theorem Quf {a sq:List Int} {c:List (List Int)} (ta:Fg a) (ha:Bd 9000000 a) (la:a.length<=1000) (h2:2<=a.length) (hC:ChRun a sq c):Fa Tryz.prog 69 [.one (rp (zp a))] [.one (.row (zls c))]:=by
 obtain ⟨⟨mf,f,hF,hP,rfl⟩,⟨n,hcr⟩,hbd,hle,hsm⟩:=hC;refine Hl Tryz.func69 rfl ?_;refine go tt [.c [] (Q5t ta ha la h2 hF hP),.lo,.c [] (Qys (p:=Oe f mf) (U8 hbd (by decide)) (by omega)),.c [] (Quh (p:=Gj (Oe f mf)) (Fw _ _) (U8 (Qjn (t:=10) hbd (by omega)) (by decide)) (Qc (Ph _) (by omega)))] rfl trivial ?_;refine sb [(5,.v (.one (rp (zp (Td (Gj (Oe f mf))))))),(4,.v (.one (.orow 0 1 none)))] [.row false 28 1 (zls [Oe f mf])] rfl rfl ?_;refine lp (S:=Nat×List (List Int)×List Int) 1 (λL1 s=>(5,.v (.one (rp (zp s.2.2))))::(4,.v (.one (.orow 0 1 none)))::L1) (λs=>[.row false 28 1 (zls s.2.1)]) (λs=>s.1) (λs=>CRun s.1 s.2.1 s.2.2 c/\0<s.2.1.length/\s.2.1.length<=1001) (n,[Oe f mf],Td (Gj (Oe f mf))) ⟨hcr,by show 0<1; decide,by show 1<=1001; decide⟩ rfl (λ_ _=>rfl) rfl λ⟨k,l,g⟩ ⟨hs1,hs2,hs3⟩=>?_
 have hs1:CRun k l g c:=hs1;have hs2:0<l.length:=hs2;have hs3:l.length<=1001:=hs3;have hll:=Qat l;have hgl:=fzl g;dsimp only;rcases hs1.inv with ⟨hk,hlf,hg0⟩ | ⟨j,m2,r,hk,hg1,hg2,hg3,hrr,hrt,hrb,hrl,hl0,hl1,hcj⟩
 ·subst hlf;exact en tt [.f (decide_eq_false (by omega))] rfl rfl trivial
 ·subst hk;refine go tt [.t (decide_eq_true (by omega)),.s (sz:=1) (Zib _),.r 23 (eI (b:=((l.length-1:Nat):Int)) (by simp; omega)),.i (l.length-1),.x (Q6k g hl0),.c [] (Q2i (a0:=Mh l) (b:=g) (res:=r) hg1 hg2 hg3 hrr),.c [] (Quh (p:=r) hrt hrb hrl),.c [] (Qyp (p:=Td r) (Qn9 hrb) (Qc (Qai r) (by omega)))] rfl (by simp [U9,hll]; omega) ?_;exact rd (j,l++[g],P0 (Td r)) (by dsimp only; omega) ⟨hcj,by simp,by simp; omega⟩ (by rw [Qgh]; rfl)
theorem Q79 {q:Rat} (h1:Fq q.num<=1000000) (h2:Fq (q.den:Int)<=1000000):Bd 9000000 [-q.num,(q.den:Int)]:=λz hz=>by
 simp only [Qm,Kn,or_false] at hz;rcases hz with rfl | rfl
 ·rw [Hh]; omega
 ·omega
abbrev aq (q:Rat) (c:List (List Int)):List LV:=[rp (zp [-q.num,(q.den:Int)]),.row (zls c)]++fr q++fr q
theorem Qug {q:Rat} {c:List (List Int)} (hq:Qs 1000000 q) (hC:Q1l q c):Fa Tryz.prog 10 [.agg (fr q)] [.agg (aq q c)]:=by
 obtain ⟨sq,hch⟩:=hC;have co:=Lp (n:=1) (by decide);exact w tt Tryz.func10 rfl [.c [] co,.c [] (Nk (n:=q.num)),.c [] (Q8q (z:=q.num)),.c [] co,.c [] (Nk (n:=(q.den:Int))),.c [] (Quf (a:=[-q.num,(q.den:Int)]) (Qti q) (Q79 hq.1 hq.2) (by show 2<=1000; decide) (Ql 2) hch)] rfl rfl trivial
theorem Qk1 {q:Rat} {c:List (List Int)} (hq:Qs 1000000 q):Fa Tryz.prog 89 [.agg (aq q c)] [.one (.bool true)]:=by
 have cr:=L6 (a:=q) (b:=q) (hq.mono (by decide)) (hq.mono (by decide));rw [Df] at cr;exact w tt Tryz.func89 rfl [.c [] cr] rfl rfl trivial
theorem Q6y {p:List Int} (h:p.length=0) (q:Rat):Gl p q=0:=by rw [Qh h]; rfl
theorem Q2h {p:List Int} {q:Rat} {c:List (List Int)} (hp:Bd 30000000 p) (hl:p.length<=64) (hq:Qs 1000000 q):Fa Tryz.prog 90 [.one (rp (zp p)),.agg (aq q c)] [.one (.bool (decide (Gl p q=0)))]:=by
 have Nl:=fzl p;rcases Q0 p.length with h0 | h0
 ·rw [decide_eq_true (Q6y h0 q)];exact w tt Tryz.func90 rfl [.t (decide_eq_true (by omega))] rfl rfl trivial
 ·exact w tt Tryz.func90 rfl [.f (decide_eq_false (by omega)),.c [] (Qk1 hq),.t rfl,.c [] (Qeu hp hl hq)] rfl rfl trivial
theorem Qod {p:List Int} {q:Rat} {c:List (List Int)} (hp:Bd 30000000 p) (hl:p.length<=64) (hq:Qs 1000000 q):Fa Tryz.prog 70 [.one (rp (zp p)),.agg (aq q c)] [.one (.int .i64 (Gl p q))]:=by
 by_cases h0:Gl p q=0
 ·have cz:=Q2h (c:=c) hp hl hq;rw [h0] at cz ⊢;exact w tt Tryz.func70 rfl [.c [] cz,.t rfl] rfl rfl trivial
 ·exact w tt Tryz.func70 rfl [.c [] (Q2h hp hl hq),.f (decide_eq_false h0),.c [] (Qk1 hq),.g 11 true rfl,.t rfl,.c [] (Qeu hp hl hq)] rfl rfl trivial
theorem Ev {p:List Int} {q:Rat} {c:List (List Int)} (hp:Bd 20000000 p) (hl:p.length<=64) (hq:Qs 1000000 q):Fa Tryz.prog 15 [.one (rp (zp p)),.agg (aq q c)] [.one (.int .i64 (Ms p q))]:=by
 refine Hl Tryz.func15 rfl ?_;refine go tt [] rfl trivial ?_;refine lp (S:=List Int) 1 (λL1 r=>(0,.v (.one (rp (zp r))))::L1) (λ_=>[.blk 37 (aq q c)]) (λr=>r.length) (λr=>r.length<=64/\Bd (25000000-30*r.length) r/\Py (λp=>Gl p q) r.length r=Ms p q) p ⟨hl,U8 hp (by omega),rfl⟩ rfl (λ_ _=>rfl) rfl λr ⟨hr0,hr1,hr2⟩=>?_
 have hrl:=fzl r;rcases Q0 r.length with h0 | h0
 ·rw [Qim _ h0] at hr2;exact en tt [.f (decide_eq_false (by omega))] rfl (by rw [<-hr2]) trivial
 by_cases hs:Gl r q=0
 ·have hd:=Ph r;refine go tt [.t (decide_eq_true (by omega)),.c [] (Qod (p:=r) (c:=c) (U8 hr1 (by omega)) hr0 hq),.f (decide_eq_false (λh=>h hs)),.c [] (Qys (p:=r) (U8 hr1 (by omega)) (by omega))] rfl trivial ?_;exact rd (Gj r) (by omega) ⟨by omega,U8 (Qjn (t:=6) hr1 (by omega)) (by omega),by rw [<-hr2,Qil _ h0 hs]⟩ rfl
 ·exact en tt [.t (decide_eq_true (by omega)),.c [] (Qod (p:=r) (c:=c) (U8 hr1 (by omega)) hr0 hq),.t (decide_eq_true hs)] rfl (by rw [<-hr2,Qik _ h0 hs]) trivial
end Orr
namespace Orr
def Im (p:List Int) (d:Int):List Rat:=p.map λ(z:Int)=>(z:Rat) / (d:Rat)
theorem Ba (p:List Int) (d:Int):(Im p d).length=p.length:=Q8 _
theorem Zi2 {p:List Int} {i:Nat} {z:Int} {d:Int} (h:p[i]? = some z):(Im p d)[i]? = some ((z:Rat) / (d:Rat)):=by simp [Im,h]
theorem Zds (p:List Int) (d:Int) (i:Nat):(Im p d).getD i 0=((p.getD i 0:Int):Rat) / (d:Rat):=by
 simp only [Qe,Im,Zb];cases p[i]? with
 | none=>simp; grind
 | some z=>rfl
theorem O3 (z d:Int):(z:Rat) / (d:Rat)=Rat.divInt z d:=by
 by_cases h:d=0
 ·subst h; simp; grind
 ·rw [J8];have e1:(z:Rat)=Rat.divInt z 1:=by have:=Zv (z:Rat); simpa using this.symm
  have e2:(d:Rat)⁻¹=Rat.divInt 1 d:=by
   have:(d:Rat)=Rat.divInt d 1:=by have:=Zv (d:Rat); simpa using this.symm
   rw [this,Rat.inv_divInt]
  rw [e1,e2,Ws];simp
theorem Zg3 {z d:Int} (hd:0<d):(((z:Rat) / (d:Rat)).den:Int)*(Int.gcd z d:Nat)=d:=by
 rw [O3];have h:=(Qsb (n:=z) hd).2;rw [<-h,Cd,Int.gcd_comm];exact W6 (V7 ..)
theorem Zbt {d a b L:Nat} (hd:0<d) (ha:L*a=d) {D:Nat} (hb:D*b=d):L*D / Nat.gcd L D*Nat.gcd a b=d:=by
 have hL:0<L:=Ug λe=>by rw [e] at ha; omega
 have hD:0<D:=Ug λe=>by rw [e] at hb; omega
 have hg:0<Nat.gcd L D:=Nat.gcd_pos_of_pos_left _ hL;show Nat.lcm L D*Nat.gcd a b=d;rw [<-Nat.gcd_mul_left];refine Nat.dvd_antisymm ?_ ?_
 ·-- gcd (M a) (M b) | d
  obtain ⟨u,hu⟩:=Wn L D;obtain ⟨v,hv⟩:=Un L D;have hM:Nat.lcm L D=Nat.gcd L D*(u*v):=by
   unfold Nat.lcm
   conv=>lhs; rw [show L*D=Nat.gcd L D*u*(Nat.gcd L D*v) by rw [<-hu,<-hv]]
   rw [show Nat.gcd L D*u*(Nat.gcd L D*v)=Nat.gcd L D*(Nat.gcd L D*(u*v)) by rw [Xp,Wi u,]];exact Nat.mul_div_cancel_left _ hg
  have h1:Nat.lcm L D*a=v*d:=by
   rw [hM,<-ha]
   conv=>rhs; rw [hu]
   simp [Zg,Wi,Xp]
  have h2:Nat.lcm L D*b=u*d:=by
   rw [hM,<-hb]
   conv=>rhs; rw [hv]
   simp [Zg,Wi,Xp]
  have huv:Nat.gcd u v=1:=by
   have:=Nat.gcd_mul_left (Nat.gcd L D) u v;rw [<-hu,<-hv] at this;exact Nat.eq_of_mul_eq_mul_left hg (by omega)
  rw [h1,h2,Uo,W4,huv,Ky];exact Nat.dvd_refl d
 ·refine Nat.dvd_gcd ?_ ?_
  ·rw [<-ha]; exact Nat.mul_dvd_mul_right (Nat.dvd_lcm_left L D) a
  ·rw [<-hb]; exact Nat.mul_dvd_mul_right (Nat.dvd_lcm_right L D) b
def lcd (z:List Int) (d:Int):Nat->Int
 | 0=>1
 | i+1=>lcd z d i*((((z.getD i 0:Int):Rat) / (d:Rat)).den:Int) / (Int.gcd (lcd z d i) ((((z.getD i 0:Int):Rat) / (d:Rat)).den:Int):Nat)
theorem Qzp {z:List Int} {d:Int} (hd:0<d):∀ i,i<=z.length->lcd z d i*((Hz (d::z.take i):Nat):Int)=d
 |
  0,_=>by
  show 1*_=d;have:((Hz [d]:Nat):Int)=d:=by unfold Hz; simp; omega
  rw [Kg,this,Y4]
 |
  i+1,hi=>by
  have ih:=Qzp (z:=z) hd i (by omega);have hz:z[i]? = some (z.getD i 0):=Qha (l:=z) (by omega);have hstep:Hz (d::z.take (i+1))=Nat.gcd (Hz (d::z.take i)) (z.getD i 0).natAbs:=by
   have:=Qg8 (l:=d::z) (i:=i+1) (z:=z.getD i 0) (by simpa using hz);simpa using this
  have hdn:=Zg3 (z:=z.getD i 0) hd;simp only [lcd];generalize hL:lcd z d i=L at *;generalize hD:(((z.getD i 0:Int):Rat) / (d:Rat)).den=D at *;have hLp:0<L:=by
   rcases Yf L 0 with h | h | h
   ·have:=Int.mul_nonneg (Int.neg_nonneg_of_nonpos (Wx h)) (Int.natCast_nonneg (Hz (d::z.take i)));rw [V1] at this; omega
   ·rw [h,Yk] at ih; omega
   ·exact h
  obtain ⟨l,rfl⟩:=Yy (Wx hLp);obtain ⟨e,rfl⟩:=Yy (Wx hd);have h1:l*Hz (((e:Nat):Int)::z.take i)=e:=by exact_mod_cast ih
  have h2:D*Int.gcd (z.getD i 0) ((e:Nat):Int)=e:=by exact_mod_cast hdn
  have h3:=Zbt (d:=e) (by omega) h1 h2;have h4:Nat.gcd (Hz (((e:Nat):Int)::z.take i)) (Int.gcd (z.getD i 0) ((e:Nat):Int))=Nat.gcd (Hz (((e:Nat):Int)::z.take i)) (z.getD i 0).natAbs:=by
   have hge:Hz (((e:Nat):Int)::z.take i)∣e:=⟨l,by rw [Zg]; exact h1.symm⟩;show Nat.gcd _ (Nat.gcd (z.getD i 0).natAbs e)=_;rw [W4 (z.getD i 0).natAbs e,<-Nat.gcd_assoc,Nat.gcd_eq_left hge]
  rw [hstep,<-h4];rw [show Int.gcd ((l:Nat):Int) ((D:Nat):Int)=Nat.gcd l D by simp [Int.gcd]]
  exact_mod_cast h3
theorem Zho {x y:List Int} {d:Int} (hd:0<d) (hg:Hz (d::(x++y))=1):lcd (x++y) d (x++y).length=d:=by
 have:=Qzp (z:=x++y) hd (x++y).length (Ql _);rw [Qy,hg] at this;simpa using this
theorem Zhq {z:List Int} {d:Int} (hd:0<d) {i:Nat} (hi:i<=z.length):Fq (lcd z d i)<=Fq d:=by
 have h:=Qzp (z:=z) hd i hi;refine Tr ?_;have h0:Hz (d::z.take i)≠0:=λe=>by rw [e] at h; simp at h; omega
 have:d.natAbs=(lcd z d i).natAbs*Hz (d::z.take i):=by
  conv=>lhs; rw [<-h]
  rw [Jx]; simp
 rw [this];exact Jr _ (Ug h0)
end Orr
namespace Orr
open Go Go.Proofs
set_option maxRecDepth 10000
abbrev cl4 (k:Crv):List LV:=[pl k.x,pl k.y,sg k.d,mg k.d]
abbrev rcl (c:Crv):List LV:=[rp (Im c.x c.d),rp (Im c.y c.d)]++cl4 c
def Lt (p:Pt):List LV:=rcl p.c++[.int .i64 p.id]
def Fy (l:List Pt):List (List LV):=l.map Lt
structure Rs (k:Crv):Prop where
 n:Nml k
 c:Cs 100000 16 k
theorem Rs.d0 {k:Crv} (h:Rs k):0<k.d:=h.n.2.2.1
theorem Qed {x:List Int} {d:Int} {s:Nat} (hx:Bd s x) (hd:Fq d<=s) (h1:1<=s):Rb s (Im x d):=λq hq=>by
 obtain ⟨z,hz,rfl⟩:=Zp.1 hq;rw [O3];exact Qs.divInt (hx z hz) hd h1
theorem Qm6 {x:List Int} {d:Int} (tx:Fg x) (hd:d≠0):Ni (Im x d) (d:Rat)=zp x:=by
 have hd':(d:Rat)≠0:=λe=>hd (by exact_mod_cast e)
 unfold Ni;rw [Qke (g:=λi=>x.getD i 0) _ λi _=>?_,Ba,Qmh,C0,tx];rw [Zds]; grind
theorem Qui {p:List Rat} {c:Int} (hp:Rb 40000000 p) (hc:Fq c<=40000000) (hl:p.length<=1000000):Fa Tryz.prog 290 [.one (rp p),.agg (ri c)] [.one (rp (Ni p (c:Rat)))] :=
 w tt Tryz.func290 rfl [.c [] (Lp (n:=1) (by decide)),.c [] (Nk (n:=c)),.c [] (Iv (p:=p) (c:=(c:Rat)) hp (Ll hc (by omega)) hl)] rfl rfl trivial
theorem Zi1 (x y:List Int) (d:Int):frow (Im x d)++frow (Im y d)=frow (Im (x++y) d):=by simp [Im,frow]
theorem Qf2 {z:List Int} {d:Int} {i:Nat} (h:i<z.length):(Im z d)[i]? = some (((z.getD i 0:Int):Rat) / (d:Rat)):=Zi2 (Qha h)
theorem Qnw (a b:Int) (hb:b≠0) {s:Nat} (h:Fq b<=s):Fq ((Int.gcd a b:Nat):Int)<=s:=by
 refine Qc (Tr ?_) h;simp only [Xc];exact Kw (by omega) (by simpa using Xm.2 (V7 a b))
theorem Zhp (a b:Int):(a*b) % ((Int.gcd a b:Nat):Int)=0:=Ya (Vr (Ur ..) (V6 a b))
theorem Qog {k:Crv} (hs:Rs k):Fa Tryz.prog 253 [.one (rp (Im k.x k.d)),.one (rp (Im k.y k.d))] [.agg (rcl k)]:=by
 have hlx:=hs.c.lx;have hly:=hs.c.ly;have hds:=hs.c.d;have hxy:Bd 100000 (k.x++k.y):=λz hz=>by rcases Qu.1 hz with h | h; exact hs.c.x z h; exact hs.c.y z h
 have hfx:(frow (Im k.x k.d)).length=k.x.length:=by rw [S0,Ba]
 have hfy:(frow (Im k.y k.d)).length=k.y.length:=by rw [S0,Ba]
 have hfl:(frow (Im (k.x++k.y) k.d)).length=k.x.length+k.y.length:=by rw [S0,Ba,Q4]
 have hd0:=hs.d0;refine Hl Tryz.func253 rfl ?_;refine go tt [.c [] (Lp (n:=1) (by decide)),.s (sz:=4) (Qg5 _),.s (sz:=4) (Qg5 _)] rfl (by simp [U9,hfx,hfy]; omega) ?_;rw [Zi1];refine lp (S:=Nat) 3 (λL1 i=>(15,.v (.one (.int .i64 (i:Int))))::L1) (λi=>[.blk 55 [.nils,.nils,.nils,.nils,.bool false,.nils],.blk 33 (ri (lcd (k.x++k.y) k.d i)),.row false 35 4 (frow (Im (k.x++k.y) k.d))]) (λi=>k.x.length+k.y.length-i) (λi=>i<=k.x.length+k.y.length) 0 (Qi _) rfl (λ_ _=>rfl) rfl λi hi=>?_
 have hll:(k.x++k.y).length=k.x.length+k.y.length:=Q4;by_cases h:i<k.x.length+k.y.length
 ·have hlt:i<(k.x++k.y).length:=by omega
  have hqe:=Qed (x:=(k.x++k.y)) (d:=k.d) (s:=100000) hxy hs.c.d (by decide);have hqi:=hqe.get (Qf2 hlt);obtain ⟨D,hD⟩:=nmE (((((k.x++k.y).getD i 0:Int):Rat) / (k.d:Rat)));have hg:=E6 (Qf2 (d:=k.d) hlt);have es:lcd (k.x++k.y) k.d (i+1)=lcd (k.x++k.y) k.d i*(D.den:Int) / ((Int.gcd (lcd (k.x++k.y) k.d i) (D.den:Int):Nat):Int):=by rw [hD]; rfl
  rw [<-hD] at hqi hg;have hq2:=hqi.2;have hli:=Qc (Zhq (z:=(k.x++k.y)) hs.d0 (i:=i) (by omega)) hs.c.d;have hg0:((Int.gcd (lcd (k.x++k.y) k.d i) (D.den:Int):Nat):Int)≠0:=by have:=Int.gcd_ne_zero_right (a:=(lcd (k.x++k.y) k.d i)) (Be D); omega
  have hmu:=Gd (lcd (k.x++k.y) k.d i) (D.den:Int);refine go tt [.t (decide_eq_true (by omega)),.i i,.x hg,.c [] (Mq (a:=lcd (k.x++k.y) k.d i) (b:=(D.den:Int)) (by omega) (by omega)),.i i,.x hg,.c [] (Qkx (a:=lcd (k.x++k.y) k.d i) (b:=(D.den:Int)) (by omega) (by omega)),.c [] (Qgt (by omega) (Qc (Qnw _ _ (Be D) hq2) (by decide)) hg0 (Zhp _ _))] rfl (by simp [U9,hfl]; omega) ?_;exact rd (i+1) (by omega) h (by rw [es]; rfl)
 have e:lcd (k.x++k.y) k.d i=k.d:=by rw [show i=(k.x++k.y).length by omega]; exact Zho hs.d0 hs.n.2.2.2
 rw [e];have hx:=Qui (p:=Im k.x k.d) (c:=k.d) ((Qed (s:=100000) hs.c.x hs.c.d (by decide)).mono (by omega)) (by omega) (by rw [Ba]; omega);have hy:=Qui (p:=Im k.y k.d) (c:=k.d) ((Qed (s:=100000) hs.c.y hs.c.d (by decide)).mono (by omega)) (by omega) (by rw [Ba]; omega);rw [Qm6 hs.n.1 (by omega)] at hx;rw [Qm6 hs.n.2.1 (by omega)] at hy;exact en tt [.f (decide_eq_false (by omega)),.c [] hx,.c [] (Zkb (p:=k.x) (U8 hs.c.x (by omega)) (by omega)),.c [] hy,.c [] (Zkb (p:=k.y) (U8 hs.c.y (by omega)) (by omega)),.c [] (Q84 (z:=k.d) (by omega))] rfl rfl trivial
theorem Qs2 (k:Crv):He 1 k.d'=((1:Int):Rat) / (k.d':Rat):=by
 unfold He; rw [if_neg k.d'_ne,O3]
theorem Qi2 {x:List Int} {g d:Int} (hg:g≠0) (hd:d≠0) (hgd:g∣d) (tx:Fg x) (hx:∀ z∈x,g∣z):Ni (zp x) (((1:Int):Rat) / (d:Rat))=Im (trim (x.map (· / g))) (d / g):=by
 have ht:Fg (x.map (· / g)):=Aj tx hg hx;rw [show trim (x.map (· / g))=x.map (· / g) from ht];obtain ⟨e,rfl⟩:=hgd;have he:e≠0:=λh=>hd (by rw [h,Kc])
 rw [Xw _ hg];have hgq:(g:Rat)≠0:=λh=>hg (by exact_mod_cast h)
 have heq:(e:Rat)≠0:=λh=>he (by exact_mod_cast h)
 unfold Ni;rw [Pn];have hval:∀ i,i<x.length->(zp x).getD i 0*(((1:Int):Rat) / ((g*e:Int):Rat))=(((x.map (· / g)).getD i 0:Int):Rat) / (e:Rat):=λi hi=>by
  rw [Qgi];have hz:=Qha hi;have hm:(x.map (· / g)).getD i 0=x.getD i 0 / g:=by simp [Qe,Qd hi]
  obtain ⟨w,hw⟩:=hx _ (Qa hz);rw [hm,hw,Xw _ hg,Xz,Xz];have:((1:Int):Rat)=1:=rfl;rw [this];grind
 have htab:Qa3 (λi=>(zp x).getD i 0*(((1:Int):Rat) / ((g*e:Int):Rat))) x.length=Im (x.map (· / g)) e:=by
  apply Xq;intro i;by_cases hi:i<x.length
  ·rw [Qf2 (by simpa using hi)];simp only [Qa3,Zb,X2 hi,Vy];rw [hval i hi]
  ·rw [Qt (by rw [Qf6]; omega),Qt (by rw [Ba]; simp; omega)]
 rw [htab];rcases Q0 x.length with h0 | h0
 ·have:=Qh h0; subst this; rfl
 ·have hl:(Im (x.map (· / g)) e).length=x.length:=by rw [Ba,Q8]
  have:=Qhz (l:=Im (x.map (· / g)) e) (m:=x.length) (by omega) (λj y hj hy=>by rw [Qt (by omega)] at hy; cases hy) (λ_=>⟨_,Qf2 (z:=x.map (· / g)) (d:=e) (i:=x.length-1) (by rw [Q8]; omega),λh=>by
   have h3:(((x.map (· / g)).getD (x.length-1) 0:Int):Rat)=0:=by grind
   have h4:(x.map (· / g)).getD (x.length-1) 0=0:=by exact_mod_cast h3
   have:=Hr ht (by rw [Q8]; omega);rw [Q8] at this;exact this h4⟩)
  rw [this,Qo (by omega)]
theorem Zc9 {k:Crv} (hk:Cs 100000 16 k):Qs 40000000 (He 1 k.d'):=by
 have h1:=Qr3 hk.d (by decide);rw [Qs2,O3];exact Qs.divInt (by decide) (by omega) (by decide)
theorem Crv.g_dvd' (k:Crv) {z:Int} (h:z∈k.d'::(trim k.x++trim k.y)):k.g∣z:=Yx (k.g_dvd z h)
theorem Zdm (k:Crv):Ni (zp (trim k.x)) (He 1 k.d')=Im k.norm.x k.norm.d:=by
 rw [Qs2];exact Qi2 k.g_ne k.d'_ne (k.g_dvd' (by simp)) (Rl _) (λz hz=>k.g_dvd' (by simp [hz]))
theorem Zdn (k:Crv):Ni (zp (trim k.y)) (He 1 k.d')=Im k.norm.y k.norm.d:=by
 rw [Qs2];exact Qi2 k.g_ne k.d'_ne (k.g_dvd' (by simp)) (Rl _) (λz hz=>k.g_dvd' (by simp [hz]))
theorem Q4u {k:Crv} (h:Cs 100000 16 k):Rs k.norm:=⟨k.nml,h.norm (by decide)⟩
theorem Zgj {k:Crv} (hk:Cs 100000 16 k):Fa Tryz.prog 199 [.agg (cl4 k)] [.agg (rcl (Crv.norm k))]:=by
 have hlx:=hk.lx;have hly:=hk.ly;have hkd:=hk.d;have hrq:=Zc9 hk;have hdi:Fq k.d'<=100000:=Qr3 hk.d (by decide);have hx:=Iv (p:=zp (trim k.x)) (c:=He 1 k.d') (Qa0 (U8 (Sr hk.x) (by omega)) (by omega)) hrq (by rw [Pn]; have:=Rq k.x; omega);have hy:=Iv (p:=zp (trim k.y)) (c:=He 1 k.d') (Qa0 (U8 (Sr hk.y) (by omega)) (by omega)) hrq (by rw [Pn]; have:=Rq k.y; omega);rw [Zdm] at hx;rw [Zdn] at hy;have c1:=Lp (n:=1) (by decide);have cm:=Qck (a:=1) (b:=k.d') (by decide) (by omega);by_cases h0:k.d=0
 ·have e:k.d'=1:=by unfold Crv.d'; rw [if_pos h0]
  rw [e] at hx hy cm;exact w tt Tryz.func199 rfl [.c [] (Qgr (z:=k.d) (by omega)),.c [] Nw,.t (decide_eq_true h0),.c [] c1,.c [] c1,.c [] cm,.c [] (Ap (p:=k.x) (U8 hk.x (by omega)) (by omega)),.c [] hx,.c [] (Ap (p:=k.y) (U8 hk.y (by omega)) (by omega)),.c [] hy,.c [] (Qog (Q4u hk))] rfl rfl trivial
 ·have e:k.d'=k.d:=by unfold Crv.d'; rw [if_neg h0]
  rw [e] at hx hy cm;exact w tt Tryz.func199 rfl [.c [] (Qgr (z:=k.d) (by omega)),.c [] Nw,.f (decide_eq_false h0),.c [] c1,.c [] cm,.c [] (Ap (p:=k.x) (U8 hk.x (by omega)) (by omega)),.c [] hx,.c [] (Ap (p:=k.y) (U8 hk.y (by omega)) (by omega)),.c [] hy,.c [] (Qog (Q4u hk))] rfl rfl trivial
theorem Q9q {k:Crv} {id:Int} (hk:Cs 100000 16 k):Fa Tryz.prog 126 [.agg (cl4 k++[.int .i64 id])] [.agg (Lt ⟨Crv.norm k,id⟩)] :=
 w tt Tryz.func126 rfl [.c [] (Zgj hk)] rfl rfl trivial
theorem Qdt {k:Crv} (hk:Rs k):Fa Tryz.prog 72 [.agg (rcl k)] [.one (rp (zp k.x)),.one (rp (zp k.y)),.one (rp (zp [k.d]))]:=by
 have hlx:=hk.c.lx;have hly:=hk.c.ly;have hkd:=hk.c.d;have hx:=Ap (p:=k.x) (U8 hk.c.x (by omega)) (by omega);have hy:=Ap (p:=k.y) (U8 hk.c.y (by omega)) (by omega);rw [show trim k.x=k.x from hk.n.1] at hx;rw [show trim k.y=k.y from hk.n.2.1] at hy;exact w tt Tryz.func72 rfl [.c [] (Qgr (z:=k.d) (by omega)),.c [] (Lp (n:=1) (by decide)),.c [] (Nk (n:=k.d)),.c [] hx,.c [] hy] rfl rfl trivial
theorem Qz9 {p:List Int} {d:Int} (tp:Fg p) (hd:d≠0):Gs p [d]=Gb p d:=by
 refine Qbn (Hq _ _) (Fw _ _) λm=>?_
 unfold Gb;rw [Rz];unfold Gs;by_cases h0:p.length=0
 ·rw [if_pos (.inl h0),if_neg (by omega)]; rfl
 ·rw [if_neg (by simp; exact λh=>h0 (by rw [h]; rfl)),Es];show (Ci p [d] (List.replicate (p.length+1-1) 0) p.length).getD m 0=_;have key:∀ i,i<=p.length->(Ci p [d] (List.replicate (p.length+1-1) 0) i).getD m 0=if m<i then p.getD m 0*d else 0:=by
   intro i
   induction i with
   | zero=>intro _; simp only [Ci]; rw [Tk,if_neg (by omega)]
   |
    succ i ih =>
    intro hi;simp only [Ci];rw [Qhn _ _ _ _ _ _ (by rw [Cj,X9]; show i+1<=_; omega),ih (by omega)];show (if i<=m/\m<i+1 then (if m<i then p.getD m 0*d else 0)+p.getD i 0*[d].getD (m-i) 0 else _)=_;by_cases e:m=i
    ·subst e;rw [if_pos ⟨Ql _,by omega⟩,if_neg (by omega),if_pos (by omega),Jw];show 0+p.getD m 0*d=_;omega
    ·rw [if_neg (by omega)];by_cases h1:m<i
     ·rw [if_pos h1,if_pos (by omega)]
     ·rw [if_neg h1,if_neg (by omega)]
  rw [key _ (Ql _)]
theorem Zon {s:Nat} {d:Int} (h:Fq d<=s):Bd s [d]:=λz hz=>by simp at hz; subst hz; exact h
theorem Qq9 {p:List Int} {d:Int} (tp:Fg p) (hd:d≠0) (hp:Bd 9000000 p) (hs:Fq d<=9000000) (hl:p.length<=1000):Fa Tryz.prog 141 [.one (rp (zp p)),.one (rp (zp [d]))] [.one (rp (zp (Gb p d)))]:=by
 have h:=Qyu (p:=p) (q:=[d]) (by omega) (by show 1<=1000000; decide) hp (Zon hs) (by decide);rwa [Qz9 tp hd] at h
theorem Rs.dn {k:Crv} (h:Rs k):k.d≠0:=by have:=h.d0; omega
theorem Q2g {p q:List Int} (hp:Bd 19000000 p) (hq:Bd 19000000 q) (hlp:p.length<=1000000) (hlq:q.length<=1000000):Fa Tryz.prog 144 [.one (rp (zp p)),.one (rp (zp q))] [.one (rp (zp (Pa p q)))]:=by
 have h:=Qyx (Qa0 hp (by decide)) (Qa0 hq (by decide)) (by rw [Pn]; exact hlp) (by rw [Pn]; exact hlq);rwa [Q4v] at h
theorem Qbc {a b:Crv} (ha:Rs a) (hb:Rs b):Fa Tryz.prog 74 [.agg (rcl a),.agg (rcl b)] [.one (rp (zp (Hp a b)))] :=
 w tt Tryz.func74 rfl [.c [] (Qdt ha),.c [] (Qdt hb),.c [] (Qq9 (p:=b.x) (d:=a.d) hb.n.1 ha.dn (U8 hb.c.x (by decide)) (Qc ha.c.d (by decide)) (by have:=hb.c.lx; omega)),.c [] (Qq9 (p:=a.x) (d:=b.d) ha.n.1 hb.dn (U8 ha.c.x (by decide)) (Qc hb.c.d (by decide)) (by have:=ha.c.lx; omega)),.c [] (Q2g (p:=Gb b.x a.d) (q:=Gb a.x b.d) (U8 (Gw hb.c.x ha.c.d) (by decide)) (U8 (Gw ha.c.x hb.c.d) (by decide)) (by have:=Gh b.x a.d; have:=hb.c.lx; omega) (by have:=Gh a.x b.d; have:=ha.c.lx; omega))] rfl rfl trivial
theorem Qk2 {a b:Crv} (ha:Rs a) (hb:Rs b):Fa Tryz.prog 75 [.agg (rcl a),.agg (rcl b)] [.one (rp (zp (Re a b)))] :=
 w tt Tryz.func75 rfl [.c [] (Qdt ha),.c [] (Qdt hb),.c [] (Qq9 (p:=b.y) (d:=a.d) hb.n.2.1 ha.dn (U8 hb.c.y (by decide)) (Qc ha.c.d (by decide)) (by have:=hb.c.ly; omega)),.c [] (Qq9 (p:=a.y) (d:=b.d) ha.n.2.1 hb.dn (U8 ha.c.y (by decide)) (Qc hb.c.d (by decide)) (by have:=ha.c.ly; omega)),.c [] (Q2g (p:=Gb b.y a.d) (q:=Gb a.y b.d) (U8 (Gw hb.c.y ha.c.d) (by decide)) (U8 (Gw ha.c.y hb.c.d) (by decide)) (by have:=Gh b.y a.d; have:=hb.c.ly; omega) (by have:=Gh a.y b.d; have:=ha.c.ly; omega))] rfl rfl trivial
theorem Qc0 {a b:Crv} (ha:Rs a) (hb:Rs b):Bd 200001 (Hp a b)/\(Hp a b).length<=16:=by
 refine ⟨U8 (Lv (Gw hb.c.x ha.c.d) (Gw ha.c.x hb.c.d)) (by omega),Qc (No _ _) ?_⟩;have:=Gh b.x a.d; have:=Gh a.x b.d; have:=ha.c.lx; have:=hb.c.lx; omega
theorem Qcx {a b:Crv} (ha:Rs a) (hb:Rs b):Bd 200001 (Re a b)/\(Re a b).length<=16:=by
 refine ⟨U8 (Lv (Gw hb.c.y ha.c.d) (Gw ha.c.y hb.c.d)) (by omega),Qc (No _ _) ?_⟩;have:=Gh b.y a.d; have:=Gh a.y b.d; have:=ha.c.ly; have:=hb.c.ly; omega
end Orr
namespace Orr
open Go
structure RawInt where
 b:Bool
 l:List Nat
structure RawPt where
 x:List RawInt
 y:List RawInt
 d:RawInt
 id:Int
abbrev Qhw (z:RawInt):List LV:=[.bool z.b,Zn0 z.l]
structure RawInt.Ok (z:RawInt):Prop where
 u:∀ u∈z.l,u<4294967296
structure RawPt.Ok (z:RawPt):Prop where
 x:∀ a∈z.x,a.Ok
 y:∀ a∈z.y,a.Ok
 d:z.d.Ok
 id:-9223372036854775808<=z.id/\z.id<=9223372036854775807
def RawInt.cut (z:RawInt):RawInt:=⟨z.b,z.l.take 1⟩
def T0 (most:Int) (z:RawInt):Int:=match z.l with
 | []=>0
 | u::_=>if z.b=true then -((u:Int) % (most+1)) else (u:Int) % (most+1)
theorem Qd6 {most:Int} (h:0<=most) (z:RawInt):-most<=T0 most z/\T0 most z<=most:=by
 unfold T0
 split
 ·omega
 ·rename_i u _ _;have h1:=Yp (u:Int) (b:=most+1) (by omega);have h2:=J3 (u:Int) (b:=most+1) (by omega)
  split <;> omega
def Hy (most:Int) (l:List RawInt):List Int:=(l.take 3).map (T0 most)
def Qff (most:Int) (x y:List RawInt) (d:RawInt):Crv:=⟨Hy most x,Hy most y,T0 3 d⟩
def Qcs (most:Int) (z:RawPt):Pt:=⟨Qff most z.x z.y z.d,z.id % 1000⟩
theorem Qir (most:Int) (l:List RawInt):(Hy most l).length<=3:=by unfold Hy; rw [List.length_map,List.length_take]; omega
theorem Qr9 {most:Int} {l:List RawInt} {i:Nat} {z:RawInt} (hi:i<3) (h:l[i]? = some z):Hy most (l.take (i+1))=Hy most (l.take i)++[T0 most z]:=by
 unfold Hy;rw [Ua,Ua,Kq (by omega),Kq (by omega),Zq,h];simp
theorem Qiq (most:Int) {l:List RawInt} {i:Nat} (h:l.length<=i\/3<=i):Hy most (l.take i)=Hy most l:=by
 unfold Hy;rw [Ua];rcases Nat.le_total 3 i with h3 | h3
 ·rw [Zw h3]
 ·rcases h with h | h
  ·rw [Kq h3,Qo (l:=l) (i:=i) (by omega),Qo (l:=l) (i:=3) (by omega)]
  ·rw [Kq h3,show i=3 by omega]
theorem Qis {most:Int} {l:List RawInt} {z:Int} (hm:0<=most) (h:z∈Hy most l):-most<=z/\z<=most:=by
 obtain ⟨a,_,rfl⟩:=Zp.1 h;exact Qd6 hm a
theorem Qon {most:Int} (hm:0<=most/\most<=999) (x y:List RawInt) (d:RawInt):Cs 10 3 (Qff most x y d):=by
 have key:∀ z:Int,-999<=z/\z<=999->Fq z<=10:=λz h=>Sl.2 (by omega)
 refine ⟨λz hz=>?_,λz hz=>?_,?_,Qir _ _,Qir _ _⟩
 ·have:=Qis hm.1 hz; exact key _ (by omega)
 ·have:=Qis hm.1 hz; exact key _ (by omega)
 ·have:=Qd6 (most:=3) (by decide) d;show Fq (T0 3 d)<=10;exact key _ (by omega)
def Mm (n:Nat):List Pt->List Pt->List Pt
 | out,[]=>out
 | out,p::l=>if out.length<n then (if out.any (λx=>decide (x.id=p.id))=true then Mm n out l else Mm n (out++[p]) l) else out
theorem Qab {n:Nat}:∀ (l out:List Pt) (p:Pt),(Mm n out l).length<n->(Mm n out l).any (λx=>decide (x.id=p.id))=true->Mm n out (l++[p])=Mm n out l
 |
  [],out,p,h,ha=>by
  simp only [Mm] at h ha;show Mm n out [p]=out;simp only [Mm];rw [if_pos h,if_pos ha]
 |
  x::l,out,p,h,ha=>by
  show Mm n out (x::(l++[p]))=Mm n out (x::l);simp only [Mm] at h ha ⊢
  split
  ·rename_i h0;rw [if_pos h0] at h ha
   split
   ·rename_i h1;rw [if_pos h1] at h ha;exact Qab l out p h ha
   ·rename_i h1;rw [if_neg h1] at h ha;exact Qab l _ p h ha
  ·rfl
theorem If {n:Nat}:∀ (l out:List Pt) (p:Pt),(Mm n out l).length<n->(Mm n out l).any (λx=>decide (x.id=p.id))=false->Mm n out (l++[p])=Mm n out l++[p]
 |
  [],out,p,h,ha=>by
  simp only [Mm] at h ha;show Mm n out [p]=out++[p];simp only [Mm];rw [if_pos h,if_neg (by rw [ha]; simp)]
 |
  x::l,out,p,h,ha=>by
  show Mm n out (x::(l++[p]))=Mm n out (x::l)++[p];simp only [Mm] at h ha ⊢
  split
  ·rename_i h0;rw [if_pos h0] at h ha
   split
   ·rename_i h1;rw [if_pos h1] at h ha;exact If l out p h ha
   ·rename_i h1;rw [if_neg h1] at h ha;exact If l _ p h ha
  ·rename_i h0;rw [if_neg h0] at h;omega
theorem Qg7 {n:Nat}:∀ (l m out:List Pt),n<=(Mm n out l).length->Mm n out (l++m)=Mm n out l
 |
  [],m,out,h=>by
  simp only [Mm] at h;show Mm n out m=out
  match m with
  | []=>rfl
  | p::m=>simp only [Mm]; rw [if_neg (by omega)]
 |
  x::l,m,out,h=>by
  show Mm n out (x::(l++m))=Mm n out (x::l);simp only [Mm] at h ⊢
  split
  ·rename_i h0;rw [if_pos h0] at h
   split
   ·rename_i h1;rw [if_pos h1] at h;exact Qg7 l m out h
   ·rename_i h1;rw [if_neg h1] at h;exact Qg7 l m _ h
  ·rfl
theorem Qbo {n:Nat}:∀ (l out:List Pt),out.length<=n->(Mm n out l).length<=n
 | [],out,h=>h
 |
  x::l,out,h=>by
  simp only [Mm]
  split
  ·split
   ·exact Qbo l out h
   ·exact Qbo l _ (by rw [Q4]; show _+1<=_; omega)
  ·exact h
theorem Qe3 {n:Nat}:∀ (l out:List Pt) {p:Pt},p∈Mm n out l->p∈out\/p∈l
 | [],out,p,h=>.inl h
 |
  x::l,out,p,h=>by
  simp only [Mm] at h
  split at h
  ·split at h
   ·rcases Qe3 l out h with h | h
    ·exact .inl h
    ·exact .inr (Qj _ h)
   ·rcases Qe3 l _ h with h | h
    ·rcases Qu.1 h with h | h
     ·exact .inl h
     ·exact .inr (by rw [Qk.1 h]; exact Qw ..)
    ·exact .inr (Qj _ h)
  ·exact .inl h
def Qht (n:Nat) (most:Int) (zs:List RawPt):List Pt:=Mm n [] (zs.map (Qcs most))
def Pt.nrm (p:Pt):Pt:=⟨p.c.norm,p.id⟩
end Orr
namespace Orr
def Dv (l:List Pt):Prop:=l.Pairwise λa b=>a.id<b.id
theorem Zhg (id:Int):has [] id=false:=rfl
theorem Qvg (p:Pt) (l:List Pt) (id:Int):has (p::l) id=if p.id<id then has l id else decide (p.id=id):=by
 by_cases h:p.id<id
 ·rw [if_pos h]; unfold has; simp only [pos]; rw [if_pos h]; simp
 ·rw [if_neg h]; unfold has; simp only [pos]; rw [if_neg h]; simp
theorem Zc1 (p:Pt) (l:List Pt) (q:Pt):put (p::l) q=if p.id<q.id then p::put l q else q::p::l:=by
 unfold put;simp only [pos]
 split <;> simp
theorem Qr1:∀ {l:List Pt} {id:Int},Dv l->(has l id=true↔∃ p∈l,p.id=id)
 | [],id,_=>by simp [Zhg]
 |
  p::l,id,h=>by
  have h1:=Q6.1 h;rw [Qvg]
  split
  ·rename_i hlt;rw [Qr1 h1.2];constructor
   ·rintro ⟨x,hx,e⟩; exact ⟨x,Qj _ hx,e⟩
   ·rintro ⟨x,hx,e⟩
    rcases Qm.1 hx with rfl | hx
    ·omega
    ·exact ⟨x,hx,e⟩
  ·rename_i hge;rw [decide_eq_true_iff];constructor
   ·intro e; exact ⟨p,Qw ..,e⟩
   ·rintro ⟨x,hx,e⟩
    rcases Qm.1 hx with rfl | hx
    ·exact e
    ·have:=h1.1 x hx; omega
theorem Qm2:∀ {l:List Pt} {q:Pt},Dv l->has l q.id=false->Dv (put l q)
 | [],q,_,_=>by simp [put,pos,Dv]
 |
  p::l,q,h,hn=>by
  have h1:=Q6.1 h;rw [Qvg] at hn;rw [Zc1]
  split
  ·rename_i hlt;rw [if_pos hlt] at hn;refine Q6.2 ⟨λx hx=>?_,Qm2 h1.2 hn⟩;rcases Q4k hx with rfl | hx
   ·exact hlt
   ·exact h1.1 x hx
  ·rename_i hge;rw [if_neg hge,decide_eq_false_iff_not] at hn;refine Q6.2 ⟨λx hx=>?_,h⟩;rcases Qm.1 hx with rfl | hx
   ·omega
   ·have:=h1.1 x hx; omega
theorem Q3x {l:List Pt} {q p:Pt} (h:p=q\/p∈l):p∈put l q:=by
 unfold put;rcases h with rfl | h
 ·simp
 ·rw [<-Zd (pos l q.id) l] at h;simp only [Qu,Qm] at h ⊢;rcases h with h | h
  ·exact .inl h
  ·exact .inr (.inr h)
theorem Zc0 {l:List Pt} {q:Pt} (h:l.length<6):Qb8 l q=if has l q.id=true then 6 else 0:=by
 unfold Qb8
 split
 ·rfl
 ·rw [if_neg (by omega)]
theorem Qpm:∀ (qs acc:List Pt),Dv acc->acc.length+qs.length<=6 ->
 ((Pi acc qs).2=0/\Dv (Pi acc qs).1/\(Pi acc qs).1.length=acc.length+qs.length/\qs.Pairwise (λa b=>a.id≠b.id)/\∀ q∈qs,∀ p∈acc,p.id≠q.id) \/
 ((Pi acc qs).2=6/\¬(qs.Pairwise (λa b=>a.id≠b.id)/\∀ q∈qs,∀ p∈acc,p.id≠q.id))
 | [],acc,hs,_=>.inl ⟨rfl,hs,rfl,List.Pairwise.nil,λ_ h=>absurd h (by simp)⟩
 |
  q::qs,acc,hs,hl=>by
  simp only [Q7] at hl;have he:=Zc0 (l:=acc) (q:=q) (by omega);simp only [Pi];cases hh:has acc q.id with
  |
   true =>
   rw [hh,if_pos rfl] at he;rw [he,if_neg (by decide)];obtain ⟨p,hp,e⟩:=(Qr1 hs).1 hh;exact .inr ⟨rfl,λh=>h.2 q (Qw ..) p hp e⟩
  |
   false =>
   rw [hh,if_neg (by decide)] at he;rw [he,if_pos rfl];have hno:∀ p∈acc,p.id≠q.id:=λp hp e=>by
    have:=(Qr1 hs).2 ⟨p,hp,e⟩;rw [hh] at this; cases this
   have Nl:=Q4j acc q;rcases Qpm qs (put acc q) (Qm2 hs hh) (by omega) with ⟨h1,h2,h3,h4,h5⟩ | ⟨h1,h2⟩
   ·refine .inl ⟨h1,h2,by simp only [Q7]; omega,Q6.2 ⟨λx hx=>h5 x hx q (Q3x (.inl rfl)),h4⟩,λx hx p hp=>?_⟩;rcases Qm.1 hx with rfl | hx
    ·exact hno p hp
    ·exact h5 x hx p (Q3x (.inr hp))
   ·refine .inr ⟨h1,λh=>h2 ⟨(Q6.1 h.1).2,λx hx p hp=>?_⟩⟩;rcases Q4k hp with rfl | hp
    ·exact (Q6.1 h.1).1 x hx
    ·exact h.2 x (Qj _ hx) p hp
theorem Q6r {qs:List Pt} (hl:qs.length<=6) :
 ((Pi [] qs).2=0/\Dv (Pi [] qs).1/\(Pi [] qs).1.length=qs.length/\qs.Pairwise (λa b=>a.id≠b.id))\/((Pi [] qs).2=6/\¬qs.Pairwise (λa b=>a.id≠b.id)):=by
 rcases Qpm qs [] List.Pairwise.nil (by simpa using hl) with ⟨h1,h2,h3,h4,_⟩ | ⟨h1,h2⟩
 ·exact .inl ⟨h1,h2,by simpa using h3,h4⟩
 ·exact .inr ⟨h1,λh=>h2 ⟨h,λ_ _ _ hp=>absurd hp (by simp)⟩⟩
end Orr
namespace Orq
open Orr Go
theorem Zpr {a b c:Tm} (hb:Cut (Fv b)) (hc:Cut (Fv c)) (h:Nc a b) (h':Nc b c):Nc a c:=by
 obtain ⟨q,q1,q2⟩:=h;obtain ⟨r,r1,r2⟩:=h';exact ⟨q,q1,hc.mono' (hb.lt q2 r1) (by omega)⟩
theorem Qd5 {a b:Tm} (ha:Cut (Fv a)) (hb:Cut (Fv b)) (h:¬Nc b a):Leq a (Fv b):=λq hq=>by
 rcases ha.val q with e | e | e
 ·exact absurd ⟨q,hq,e⟩ h
 ·obtain ⟨r,r1,r2⟩:=hb.dn q hq;exact absurd ⟨r,r2,ha.mono' r1 (by omega)⟩ h
 ·exact e
theorem Zpo {a b c:Tm} (ha:Cut (Fv a)) (hb:Cut (Fv b)) (h:¬Nc b a) (h':Nc b c):Nc a c:=by
 obtain ⟨q,q1,q2⟩:=h';exact ⟨q,Qd5 ha hb h q q1,q2⟩
theorem Q3q {a b c:Tm} (_:Cut (Fv a)) (hb:Cut (Fv b)) (hc:Cut (Fv c)) (h:Nc a b) (h':¬Nc c b):Nc a c:=by
 obtain ⟨q,q1,q2⟩:=h;refine ⟨q,q1,?_⟩;have hl:=Qd5 hb hc h';rcases hc.val q with e | e | e
 ·exact e
 ·obtain ⟨r,r1,r2⟩:=hb.up q q2;have h1:=hc.mono q r r1 (by omega);have:=hl r h1;omega
 ·have:=hl q e; omega
theorem Qsc {a b:Tm} (ha:Cut (Fv a)) (hb:Cut (Fv b)) (h:Nc a b):¬Nc b a:=λh'=>Qby ha hb h h'
theorem Qv9 {p:List Int} {a b:Tm} {o:Option Tm} (ha:Cut (Fv a)) (hb:Cut (Fv b)) (hab:¬Nc b a) (h:Pg p a o) (ho:∀ t,o=some t->Nc b t):Pg p b o:=by
 have hl:=Qd5 ha hb hab;cases o with
 |
  none =>
  rcases h with h | ⟨s,s0,h⟩
  ·exact .inl h
  ·exact .inr ⟨s,s0,λc hc hbc=>h c hc λq hq=>hl q (hbc q hq)⟩
 |
  some t =>
  obtain ⟨h1,h2,_,s,s0,h4,h5⟩:=h;exact ⟨h1,h2,ho t rfl,s,s0,λc hc hbc hm=>h4 c hc (λq hq=>hl q (hbc q hq)) hm,h5⟩
theorem Qg9 {p:List Int} {a b:Tm} {o:Option Tm} (hp:Dp p) (ha:Va a) (hb:Va b) (hab:¬Nc b a) (h:Pg p a o) (ho:∀ t,o=some t->Nc b t):Tg (Hk b) p=Tg (Hk a) p:=by
 by_cases h0:p.length=0
 ·obtain rfl:=Qh h0; rfl
 obtain ⟨ra,_⟩:=Qac ha hp h0;obtain ⟨rb,_⟩:=Qac hb hp h0;have hl:=Qd5 ha.cut hb.cut hab;cases o with
 |
  none =>
  rcases h with h | ⟨s,s0,h⟩
  ·exact absurd (by rw [h]; rfl) h0
  ·exact (Qf0 rb (h _ hb.cut hl)).trans (Qf0 ra (h _ ha.cut λ_ h=>h)).symm
 |
  some t =>
  obtain ⟨h1,h2,h3,s,s0,h4,h5⟩:=h;exact (Qf0 rb (h4 _ hb.cut hl (ho t rfl))).trans (Qf0 ra (h4 _ ha.cut (λ_ h=>h) h3)).symm
theorem Qqk (t q:Rat):Fv (tq t) q=Gv t q:=As (t:=tq t) rfl q
theorem Qbd {a:Tm} {t:Rat} (ha:Cut (Fv a)):0<Fv a t↔Nc (tq t) a:=by
 constructor
 ·intro h;have h1:Fv a t=1:=by rcases ha.val t with e | e | e <;> omega
  obtain ⟨r,r1,r2⟩:=ha.up t h1;exact ⟨r,by rw [Qqk]; rcases Sy t r with ⟨e,e'⟩ | ⟨e,e'⟩ | ⟨e,e'⟩ <;> first | exact e | (exfalso; grind),r2⟩
 ·rintro ⟨q,q1,q2⟩
  rw [Qqk] at q1;have:t<q:=by rcases Sy t q with ⟨e,e'⟩ | ⟨e,e'⟩ | ⟨e,e'⟩ <;> first | exact e' | omega
  have:=ha.mono' this (by omega);omega
open Classical in
noncomputable def mu (T:List Tm) (a:Tm):Nat:=(T.filter λt=>decide (Nc a t)).length
theorem Qoz {α:Type} {p q:α->Bool} (h:∀ x,p x=true->q x=true):∀ l:List α,(l.filter p).length<=(l.filter q).length
 | []=>Ql _
 |
  x::l=>by
  have ih:=Qoz h l;by_cases hp:p x=true
  ·rw [Ja hp,Ja (h x hp)]; simp; exact ih
  ·rw [Yb hp];by_cases hq:q x=true
   ·rw [Ja hq]; simp; omega
   ·rw [Yb hq]; exact ih
theorem Qo0 {α:Type} {p q:α->Bool} (h:∀ x,p x=true->q x=true) {y:α} (hp:p y=false) (hq:q y=true):∀ {l:List α},y∈l->(l.filter p).length<(l.filter q).length
 | [],hy=>by cases hy
 |
  x::l,hy=>by
  rcases Qm.1 hy with rfl | hy
  ·rw [Yb (by simp [hp]),Ja hq];have:=Qoz h l;simp; omega
  ·have ih:=Qo0 h hp hq hy;by_cases hp:p x=true
   ·rw [Ja hp,Ja (h x hp)]; simp; exact ih
   ·rw [Yb hp];by_cases hq:q x=true
    ·rw [Ja hq]; simp; omega
    ·rw [Yb hq]; exact ih
open Classical in
theorem Zku {T:List Tm} {a b:Tm} (ha:Cut (Fv a)) (hb:Cut (Fv b)) (hT:∀ t∈T,Cut (Fv t)) (h:Nc a b) (hm:b∈T):mu T b<mu T a:=by
 have key:∀ l:List Tm,(∀ t∈l,Cut (Fv t))->l.filter (λt=>decide (Nc b t))=l.filter (λt=>decide (Cut (Fv t)/\Nc b t)):=λl hl=>List.filter_congr λx hx=>by simp [hl x hx]
 have key2:∀ l:List Tm,(∀ t∈l,Cut (Fv t))->l.filter (λt=>decide (Nc a t))=l.filter (λt=>decide (Cut (Fv t)/\Nc a t)):=λl hl=>List.filter_congr λx hx=>by simp [hl x hx]
 unfold mu;rw [key T hT,key2 T hT];refine Qo0 (λx hx=>?_) (y:=b) ?_ ?_ hm
 ·have hx:=of_decide_eq_true hx;exact decide_eq_true ⟨hx.1,Zpr hb hx.1 h hx.2⟩
 ·exact decide_eq_false λhx=>Qby hb hb hx.2 hx.2
 ·exact decide_eq_true ⟨hb,h⟩
def tms (p:List Int):List Tm:=(Il p).getD []
structure KInv (c:Cr):Prop where
 ok:CrOk c
 k:∀ w∈c.l,w.known=true->Pg w.c.p c.now w.fails/\∀ t,w.fails=some t->t∈tms w.c.p
theorem Qzy {p:List Int} (h:Cp p) {a:Tm} (ha:Va a):∃ r,Qiu p a=some r/\Pg p a r/\∀ t,r=some t->t∈tms p:=by
 obtain ⟨l,l1,_,_,l3⟩:=Qcf h;obtain ⟨r,r1,r2,r3⟩:=l3 a ha;refine ⟨r,?_,r2,λt ht=>by unfold tms; rw [l1]; exact r3 t ht⟩;unfold Qiu; rw [l1]; exact r1
theorem Znz {p:List Int} (h:Cp p):∀ t∈tms p,Va t:=by
 obtain ⟨l,l1,_,l2,_⟩:=Qcf h;unfold tms; rw [l1]; exact l2
theorem Qsa {now:Tm} (hn:Va now):∀ {l:List Wt},(∀ w∈l,WtOk w)->(∀ w∈l,w.known=true->Pg w.c.p now w.fails/\∀ t,w.fails=some t->t∈tms w.c.p) ->
 ∃ ws,Da now l=some ws/\ws.map (·.c)=l.map (·.c)/\∀ w∈ws,w.known=true/\Pg w.c.p now w.fails/\∀ t,w.fails=some t->t∈tms w.c.p
 | [],_,_=>⟨[],rfl,rfl,λw hw=>by cases hw⟩
 |
  w::l,h,h'=>by
  obtain ⟨ws,w1,w2,w3⟩:=Qsa hn (λv hv=>h v (Qj _ hv)) (λv hv=>h' v (Qj _ hv));by_cases hk:w.known=true
  ·refine ⟨w::ws,by simp only [Da,hk,if_true,w1]; rfl,by simp [w2],λv hv=>?_⟩;rcases Qm.1 hv with rfl | hv
   ·exact ⟨hk,h' v (by simp) hk⟩
   ·exact w3 v hv
  ·obtain ⟨r,r1,r2,r3⟩:=Qzy (h w (by simp)).p hn;refine ⟨⟨w.c,true,r⟩::ws,by simp only [Da]; rw [if_neg hk,r1,w1]; rfl,by simp [w2],λv hv=>?_⟩;rcases Qm.1 hv with rfl | hv
   ·exact ⟨rfl,r2,r3⟩
   ·exact w3 v hv
theorem Q3m {at_:Tm} (ha:Va at_) {x:Ct}:∀ {l:List Wt},(∀ w∈l,WtOk w)->∃ w,E8 l x at_=some w/\w.c=x
 | [],_=>⟨fresh x,rfl,rfl⟩
 |
  v::l,h=>by
  obtain ⟨w,w1,w2⟩:=Q3m ha (x:=x) λv hv=>h v (Qj _ hv)
  simp only [E8]
  split
  ·cases hf:v.fails with
   | none=>exact ⟨_,rfl,rfl⟩
   |
    some t =>
    obtain ⟨c,c1,_⟩:=Qcm ((h v (by simp)).f t hf) ha;dsimp only;rw [c1];show ∃ w,(if 0<c then some ⟨x,true,some t⟩ else E8 l x at_)=some w/\w.c=x
    split
    ·exact ⟨_,rfl,rfl⟩
    ·exact ⟨w,w1,w2⟩
  ·exact ⟨w,w1,w2⟩
theorem Zbs {at_:Tm} (ha:Va at_) {ol:List Wt} (ho:∀ w∈ol,WtOk w):∀ l:List Ct,∃ ws,Qfc ol at_ l=some ws/\ws.map (·.c)=l
 | []=>⟨[],rfl,rfl⟩
 |
  x::l=>by
  obtain ⟨w,w1,w2⟩:=Q3m ha (x:=x) ho;obtain ⟨ws,s1,s2⟩:=Zbs ha ho l;exact ⟨w::ws,by simp only [Qfc,w1,s1]; rfl,by simp [w2,s2]⟩
theorem Q6g {out:List Ct} {c x:Ct}:x∈Qd2 out c↔x=c\/x∈out:=by
 have h:x∈out↔x∈out.take (Qb3 out c out.length)\/x∈out.drop (Qb3 out c out.length):=by
  rw [<-Qu,Zd]
 simp only [Qd2,Qu,Qm,h];constructor
 ·rintro (h | h | h)
  ·exact .inr (.inl h)
  ·exact .inl h
  ·exact .inr (.inr h)
 ·rintro (h | h | h)
  ·exact .inr (.inl h)
  ·exact .inl h
  ·exact .inr (.inr h)
theorem Qo3:∀ (l acc:List Ct) {y:Ct},y∈l.foldl Qd2 acc↔y∈l\/y∈acc
 | [],acc,y=>by simp
 |
  c::l,acc,y=>by
  simp only [Xg];rw [Qo3 l,Q6g,Qm];constructor
  ·rintro (h | h | h)
   ·exact .inl (.inr h)
   ·exact .inl (.inl h)
   ·exact .inr h
  ·rintro ((h | h) | h)
   ·exact .inr (.inl h)
   ·exact .inl h
   ·exact .inr (.inr h)
theorem Eo {l:List Ct} {x:Ct}:x∈H8 l↔x∈l:=by unfold H8; rw [Qo3]; simp
theorem Qz0 {ws:List Wt} (hw:∀ w∈ws,WtOk w):∃ o,Qmm ws=some o/\match o with
 | none=>∀ w∈ws,w.fails=none
 | some a=>Va a/\(∃ w∈ws,w.fails=some a)/\∀ w∈ws,∀ t,w.fails=some t->¬Nc t a:=by
 have hv:∀ t∈ws.filterMap (·.fails),Va t:=λt ht=>by
  obtain ⟨w,w1,w2⟩:=Jp.1 ht;exact (hw w w1).f t w2
 unfold Qmm;cases hf:ws.filterMap (·.fails) with
 |
  nil =>
  refine ⟨none,rfl,λw h=>?_⟩;cases e:w.fails with
  | none=>rfl
  |
   some t =>
   have:t∈ws.filterMap (·.fails):=Jp.2 ⟨w,h,e⟩;rw [hf] at this; cases this
 |
  cons b l =>
  rw [hf] at hv;obtain ⟨m,m1,m2,m3⟩:=Qhj l b hv;refine ⟨some m,by show (Qag b l).map some=_; rw [m1]; rfl,hv m m2,?_,λw h t e=>?_⟩
  ·rw [<-hf] at m2;exact Jp.1 m2
  ·exact m3 t (by rw [<-hf]; exact Jp.2 ⟨w,h,e⟩)
theorem Zl4 {t a:Tm} (ht:Va t) (ha:Va a) {c:Int} (h:Qja t a=some c) (h0:0<c):Nc a t:=by
 obtain ⟨c',c1,c2⟩:=Qcm ht ha;rw [h] at c1; injection c1 with c1; subst c1;rcases c2 with ⟨e,_⟩ | ⟨e,_⟩ | ⟨_,e⟩
 ·omega
 ·omega
 ·exact e
theorem Zhn {ol ws:List Wt} {now a:Tm} {l:List Ct} (hn:Va now) (ha:Va a) (hna:¬Nc a now) (ho:∀ w∈ol,WtOk w) (hk:∀ w∈ol,w.known=true->Pg w.c.p now w.fails/\∀ t,w.fails=some t->t∈tms w.c.p) (h:Qfc ol a l=some ws) :
 ∀ w∈ws,w.known=true->Pg w.c.p a w.fails/\∀ t,w.fails=some t->t∈tms w.c.p:=by
 obtain ⟨h1,h2⟩:=Qfd h;intro w hw hkn;obtain ⟨i,hi⟩:=Js hw;have hil:i<l.length:=by rw [<-h1]; exact (Qf.1 hi).1
 obtain ⟨v,h3,h4⟩:=h2 i _ (Qd hil);rw [hi] at h4; injection h4 with h4; subst h4;rcases Qmd h3 with e | ⟨v,v1,v2,v3,e,v5⟩
 ·rw [e] at hkn; cases hkn
 ·obtain ⟨k1,k2⟩:=hk v v1 v2;rw [e];show Pg (l[i]).p a v.fails/\∀ t,v.fails=some t->t∈tms (l[i]).p;rw [<-v3];refine ⟨Qv9 hn.cut ha.cut hna k1 λt ht=>?_,k2⟩;obtain ⟨c,c1,c2⟩:=v5 t ht;exact Zl4 ((ho v v1).f t ht) ha c1 c2
structure Stab {β:Type} (Bc:Tm->List Ct) (Br:Tm->β):Prop where
 ok:BuildOk Bc
 fin:∃ Ps:List (List Int),(∀ p∈Ps,Cp p)/\∀ a,Va a->∀ x∈Bc a,x.p∈Ps
 st:∀ a b,Va a->Va b->(∀ x∈Bc a,Tg (Hk b) x.p=Tg (Hk a) x.p)->Bc b=Bc a/\Br b=Br a
structure KSt {β:Type} (Bc:Tm->List Ct) (Br:Tm->β) (c:Cr) (r1:β):Prop where
 inv:KInv c
 cs:c.l.map (·.c)=H8 (Bc c.now)
 r:r1=Br c.now
inductive Evs (Bc:Tm->List Ct) (t:Rat):Tm->List Tm->Prop
 | nil {a:Tm} (h:∀ x∈Bc a,∃ o,Pg x.p a o/\∀ u,o=some u->Nc (tq t) u):Evs Bc t a []
 | cons {a e:Tm} {E:List Tm} (he:Va e) (h1:Nc a e) (h2:¬Nc (tq t) e) (h3:∀ x∈Bc a,∃ o,Pg x.p a o/\∀ u,o=some u->¬Nc u e) (h4:∃ x∈Bc a,Pg x.p a (some e)) (h5:Evs Bc t e E):Evs Bc t a (e::E)
theorem Zpd {β:Type} {Bc:Tm->List Ct} {Br:Tm->β} (S:Stab Bc Br) {t:Rat} (ht:Qs 400000 t) {Ps:List (List Int)} (hP:∀ p∈Ps,Cp p) (hPs:∀ a,Va a->∀ x∈Bc a,x.p∈Ps) :
 ∀ (m:Nat) (c:Cr) (r1:β) (n:Int),mu (Ps.flatMap tms) c.now<=m->KSt Bc Br c r1->¬Nc (tq t) c.now ->
 ∃ c' r' E,goF Bc Br t (m+1) c r1 n=some (c',r',n+(E.length:Nat))/\c'.now=tq t/\KSt Bc Br c' r'/\c'.ev=c.ev+(E.length:Nat)/\E.length<=m/\Evs Bc t c.now E:=by
 have hT:∀ t∈Ps.flatMap tms,Cut (Fv t):=λu hu=>by
  obtain ⟨p,p1,p2⟩:=Z0.1 hu;exact (Znz (hP p p1) u p2).cut
 have hq:=Zev ht;intro m
 induction m with
 | zero=>?_
 | succ m ih=>?_
 all_goals
  intro c r1 n hm hS hnow;obtain ⟨⟨ok,kk⟩,hcs,hr⟩:=hS;obtain ⟨ws,w1,w2,w3⟩:=Qsa ok.n ok.l kk;have ok':=Qcu ok w1;rw [hcs] at w2;have hc_w:∀ x∈Bc c.now,∃ w∈ws,w.c=x:=λx hx=>by
   have:x∈ws.map (·.c):=by rw [w2]; exact Eo.2 hx
   exact Zp.1 this
  have hw_c:∀ w∈ws,w.c∈Bc c.now:=λw hw=>Eo.1 (by rw [<-w2]; exact Kz hw)
  obtain ⟨o,o1,o2⟩:=Qz0 ok'.l;have fin:(∀ w∈ws,∀ u,w.fails=some u->Nc (tq t) u)->KSt Bc Br ⟨tq t,ws,c.ev⟩ r1/\Evs Bc t c.now []:=λhall=>by
   have hg:∀ x∈Bc c.now,Tg (Hk (tq t)) x.p=Tg (Hk c.now) x.p:=λx hx=>by
    obtain ⟨w,hw,rfl⟩:=hc_w x hx;exact Qg9 (S.ok.p _ ok.n _ hx).dp ok.n hq hnow (w3 w hw).2.1 (hall w hw)
   obtain ⟨s1,s2⟩:=S.st _ _ ok.n hq hg;refine ⟨⟨⟨⟨hq,ok'.l,ok'.k⟩,λw hw _=>⟨Qv9 ok.n.cut hq.cut hnow (w3 w hw).2.1 (hall w hw),(w3 w hw).2.2⟩⟩,?_,?_⟩,.nil λx hx=>?_⟩
   ·show ws.map (·.c)=H8 (Bc (tq t)); rw [w2,s1]
   ·show r1=Br (tq t); rw [s2,hr]
   ·obtain ⟨w,hw,rfl⟩:=hc_w x hx;exact ⟨_,(w3 w hw).2.1,hall w hw⟩
 ·cases o with
  |
   none =>
   obtain ⟨f1,f2⟩:=fin λw hw u hu=>by rw [o2 w hw] at hu; cases hu
   exact ⟨_,_,[],by simp only [goF]; rw [w1]; simp only [Jh]; rw [o1]; simp,rfl,f1,by simp,by simp,f2⟩
  |
   some a =>
   obtain ⟨va,⟨w,hw,hwa⟩,hmin⟩:=o2;by_cases h0:0<Fv a t
   ·obtain ⟨f1,f2⟩:=fin λv hv u hu=>by
     have hu':=(ok'.l v hv).f u hu;exact Q3q hq.cut va.cut hu'.cut ((Qbd va.cut).1 h0) (hmin v hv u hu)
    exact ⟨_,_,[],by simp only [goF]; rw [w1]; simp only [Jh]; rw [o1]; simp [h0],rfl,f1,by simp,by simp,f2⟩
   ·exfalso;obtain ⟨k1,k2,k3⟩:=w3 w hw;rw [hwa] at k2;have:a∈Ps.flatMap tms:=Z0.2 ⟨_,hPs _ ok.n _ (hw_c w hw),k3 a hwa⟩;have:=Zku ok.n.cut va.cut hT k2.2.2.1 this;omega
 ·cases o with
  |
   none =>
   obtain ⟨f1,f2⟩:=fin λw hw u hu=>by rw [o2 w hw] at hu; cases hu
   exact ⟨_,_,[],by simp only [goF]; rw [w1]; simp only [Jh]; rw [o1]; simp,rfl,f1,by simp,by simp,f2⟩
  |
   some a =>
   obtain ⟨va,⟨w,hw,hwa⟩,hmin⟩:=o2;by_cases h0:0<Fv a t
   ·obtain ⟨f1,f2⟩:=fin λv hv u hu=>by
     have hu':=(ok'.l v hv).f u hu;exact Q3q hq.cut va.cut hu'.cut ((Qbd va.cut).1 h0) (hmin v hv u hu)
    exact ⟨_,_,[],by simp only [goF]; rw [w1]; simp only [Jh]; rw [o1]; simp [h0],rfl,f1,by simp,by simp,f2⟩
   ·obtain ⟨k1,k2,k3⟩:=w3 w hw;rw [hwa] at k2;have hna:=Qsc ok.n.cut va.cut k2.2.2.1;have hmem:a∈Ps.flatMap tms:=Z0.2 ⟨_,hPs _ ok.n _ (hw_c w hw),k3 a hwa⟩;have hlt:=Zku ok.n.cut va.cut hT k2.2.2.1 hmem;obtain ⟨w2',l1,l2⟩:=Zbs va ok'.l (H8 (Bc a));have hl:=Zhn ok.n va hna ok'.l (λv hv _=>(w3 v hv).2) l1;have hS':KSt Bc Br ⟨a,w2',c.ev+1⟩ (Br a):=⟨⟨Orr.lay_ok _ ok' va (S.ok.p a va) (S.ok.n a va) l1,hl⟩,l2,rfl⟩;obtain ⟨c',r',E,g1,g2,g3,g4,g5,g6⟩:=ih ⟨a,w2',c.ev+1⟩ (Br a) (n+1) (by show mu _ a<=m; omega) hS' (λh=>h0 ((Qbd va.cut).2 h));refine ⟨c',r',a::E,?_,g2,g3,by rw [g4]; simp; omega,by simp; omega,.cons va k2.2.2.1 (λh=>h0 ((Qbd va.cut).2 h)) (λx hx=>?_) ⟨w.c,hw_c w hw,k2⟩ g6⟩
    ·conv=>lhs; unfold goF
     rw [w1]; simp only [Jh]; rw [o1]; simp only [Jh]; rw [if_neg h0,l1]; simp only [Jh];rw [g1]; simp; omega
    ·obtain ⟨v,hv,rfl⟩:=hc_w x hx;exact ⟨_,(w3 v hv).2.1,hmin v hv⟩
end Orq
namespace Orq
open Orr Go
theorem Ql4 {a:Tm} (ha:Va a):∀ (L:List (List Int)),(∀ p∈L,Dp p)->∃ y,Fv a y=-1/\∀ q,Fv a q=-1->q≤y->∀ p∈L,Tg (Hk a) p=Fo (Fe p q)
 |
  [],_=>by
  obtain ⟨y,hy⟩:=ha.cut.hi;exact ⟨y,hy,λq _ _ p hp=>by cases hp⟩
 |
  p::L,h=>by
  obtain ⟨y,y1,y2⟩:=Ql4 ha L (λq hq=>h q (Qj _ hq));by_cases h0:p.length=0
  ·obtain rfl:=Qh h0;refine ⟨y,y1,λq q1 q2 r hr=>?_⟩;rcases Qm.1 hr with rfl | hr
   ·rw [Ql3]; exact (Gk.2 rfl).symm
   ·exact y2 q q1 q2 r hr
  ·obtain ⟨⟨z,z1,z2⟩,_⟩:=Qac ha (h p (by simp)) h0;refine ⟨if y<=z then y else z,by split <;> assumption,λq q1 q2 r hr=>?_⟩;rcases Qm.1 hr with rfl | hr
   ·rw [<-Ff]; exact (z2 q q1 (by grind)).symm
   ·exact y2 q q1 (by grind) r hr
section Srt
variable {α:Type} {lt:α->α->Bool} {R:α->α->Prop}
theorem Qp0 (irr:∀ x,¬R x x) (tr:∀ x y z,R x y->R y z->R x z):∀ {l m:List α},l.Pairwise R->m.Pairwise R->(∀ x,x∈l↔x∈m)->l=m
 | [],[],_,_,_=>rfl
 | [],y::m,_,_,h=>by have:=(h y).2 (by simp); cases this
 | x::l,[],_,_,h=>by have:=(h x).1 (by simp); cases this
 |
  x::l,y::m,hl,hm,h=>by
  rw [Q6] at hl hm;have e:x=y:=by
   rcases Qm.1 ((h x).1 (by simp)) with e | h1
   ·exact e
   ·rcases Qm.1 ((h y).2 (by simp)) with e | h2
    ·exact e.symm
    ·exact absurd (tr _ _ _ (hl.1 y h2) (hm.1 x h1)) (irr x)
  subst e;rw [Qp0 irr tr hl.2 hm.2 λz=>?_];constructor
  ·intro hz;rcases Qm.1 ((h z).1 (Qj _ hz)) with e | h1
   ·subst e; exact absurd (hl.1 z hz) (irr z)
   ·exact h1
  ·intro hz;rcases Qm.1 ((h z).2 (Qj _ hz)) with e | h1
   ·subst e; exact absurd (hm.1 z hz) (irr z)
   ·exact h1
theorem Qpv {out:List α} {x:α}:∀ k,k<=out.length->(∀ j y,Sv lt out x k<=j->j<k->out[j]? = some y->lt x y=true)/\(0<Sv lt out x k->∃ y,out[Sv lt out x k-1]? = some y/\lt x y=false)
 | 0,_=>⟨λj y _ h=>by omega,λh=>by simp [Sv] at h⟩
 |
  k+1,hk=>by
  obtain ⟨y,hy⟩:=gxE (l:=out) (i:=k) (by omega);by_cases h:lt x y=true
  ·rw [Qcy hy h];obtain ⟨h1,h2⟩:=Qpv (out:=out) (x:=x) k (by omega);refine ⟨λj z a1 a2 a3=>?_,h2⟩;by_cases e:j=k
   ·subst e; rw [hy] at a3; injection a3 with a3; subst a3; exact h
   ·exact h1 j z a1 (by omega) a3
  ·have h:lt x y=false:=by simpa using h
   rw [Oc hy h];exact ⟨λj z a1 a2 _=>by omega,λ_=>⟨y,by simpa using hy,h⟩⟩
theorem Zhk (tr:∀ x y z,R x y->R y z->R x z) {out:List α} {x:α} (ho:out.Pairwise R) (h1:∀ y∈out,lt x y=true->R x y) (h2:∀ y∈out,lt x y=false->R y x):(M8 lt out x).Pairwise R:=by
 obtain ⟨s1,s2⟩:=Qpv (lt:=lt) (out:=out) (x:=x) out.length (Ql _);have hle:=Qsu lt out x out.length;unfold M8;obtain ⟨k,hk⟩:=nmE (Sv lt out x out.length);rw [<-hk] at s1 s2 hle ⊢;have hd:(out.take k++out.drop k).Pairwise R:=by rw [Zd]; exact ho
 obtain ⟨d1,d2,d3⟩:=Ju.1 hd;have hR:∀ y∈out.drop k,R x y:=λy hy=>by
  obtain ⟨i,hi⟩:=Js hy;rw [Xh] at hi;have:k+i<out.length:=(Qf.1 hi).1;exact h1 y (Ze hy) (s1 (k+i) y (by omega) this hi)
 have hL:∀ y∈out.take k,R y x:=λy hy=>by
  obtain ⟨i,hi⟩:=Js hy;have hik:i<k:=by have:=(Qf.1 hi).1; simp at this; omega
  rw [Wc hik] at hi;obtain ⟨z,z1,z2⟩:=s2 (by omega);have hz:=h2 z (Qa z1) z2;by_cases e:i=k-1
  ·subst e; rw [hi] at z1; injection z1 with z1; subst z1; exact hz
  ·have hp:=Vj.1 ho i (k-1) (by omega) (by omega) (by omega);obtain ⟨_,e1⟩:=Qf.1 hi;obtain ⟨_,e2⟩:=Qf.1 z1;rw [e1,e2] at hp;exact tr _ _ _ hp hz
 refine Ju.2 ⟨d1,Q6.2 ⟨hR,d2⟩,λy hy z hz=>?_⟩;rcases Qm.1 hz with rfl | hz
 ·exact hL y hy
 ·exact d3 y hy z hz
theorem foldG_pw (tr:∀ x y z,R x y->R y z->R x z) {S:α->Prop} (h1:∀ x y,S x->S y->lt x y=true->R x y) {D:α->α->Prop} (h2:∀ x y,S x->S y->D y x->lt x y=false->R y x) :
 ∀ (l acc:List α),acc.Pairwise R->(∀ x∈acc,S x)->(∀ x∈l,S x)->l.Pairwise D->(∀ x∈acc,∀ y∈l,D x y)->(l.foldl (M8 lt) acc).Pairwise R
 | [],acc,ha,_,_,_,_=>ha
 |
  x::l,acc,ha,hs,hl,hd,hx=>by
  rw [Q6] at hd;refine foldG_pw tr h1 h2 l (M8 lt acc x) ?_ ?_ (λy hy=>hl y (Qj _ hy)) hd.2 ?_
  ·exact Zhk tr ha (λy hy=>h1 x y (hl x (by simp)) (hs y hy)) (λy hy=>h2 x y (hl x (by simp)) (hs y hy) (hx y hy x (by simp)))
  ·intro y hy;rcases Qfa.1 hy with rfl | hy
   ·exact hl _ (by simp)
   ·exact hs y hy
  ·intro y hy z hz;rcases Qfa.1 hy with rfl | hy
   ·exact hd.1 z hz
   ·exact hx y hy z (Qj _ hz)
theorem Qw1:∀ {l:List α},l.Pairwise R->∀ {u v:α},u∈l->v∈l->u≠v->R u v\/R v u
 | [],_,_,_,h,_,_=>by cases h
 |
  x::l,hp,u,v,hu,hv,hne=>by
  rw [Q6] at hp;rcases Qm.1 hu with e | hu
  ·rcases Qm.1 hv with e' | hv
   ·exact absurd (e.trans e'.symm) hne
   ·rw [e]; exact .inl (hp.1 v hv)
  ·rcases Qm.1 hv with e' | hv
   ·rw [e']; exact .inr (hp.1 u hu)
   ·exact Qw1 hp.2 hu hv hne
end Srt
def px (p:Pt) (q:Rat):Rat:=Fe p.c.x q / (p.c.d:Rat)
def py (p:Pt) (q:Rat):Rat:=Fe p.c.y q / (p.c.d:Rat)
def C4 (q:Rat) (x y:Pt):Prop:=px x q<px y q\/px x q=px y q/\(py x q<py y q\/py x q=py y q/\x.id<y.id)
theorem Qbw (q:Rat) (x:Pt):¬C4 q x x:=by unfold C4; grind
theorem Qcr (q:Rat) (x y z:Pt) (h:C4 q x y) (h':C4 q y z):C4 q x z:=by unfold C4 at *; grind
theorem Qvs {q:Rat} {x y:Pt} (h:x.id≠y.id) (h':¬C4 q x y):C4 q y x:=by unfold C4 at *; grind
theorem Qqe {u v:Rat} {c d:Int} (hc:0<c) (hd:0<d):Fo (v*(c:Rat)-u*(d:Rat))=Fo (v / (d:Rat)-u / (c:Rat)):=by
 have hc':(0:Rat)<(c:Rat):=by exact_mod_cast hc
 have hd':(0:Rat)<(d:Rat):=by exact_mod_cast hd
 have e:v*(c:Rat)-u*(d:Rat)=((c:Rat)*(d:Rat))*(v / (d:Rat)-u / (c:Rat)):=by
  rw [J8,J8];have h1:=Ui (c:Rat) (by grind);have h2:=Ui (d:Rat) (by grind);grind
 rw [e,Ef (Jj hc' hd')]
theorem Qqf {x y:Pt} (hx:Sc x.c) (hy:Sc y.c) (q:Rat):Fo (Fe (Hp x.c y.c) q)=Fo (px y q-px x q):=by
 unfold Hp px; rw [Cn,Ro,Ro]; exact Qqe hx.n.2.2.1 hy.n.2.2.1
theorem Qqd {x y:Pt} (hx:Sc x.c) (hy:Sc y.c) (q:Rat):Fo (Fe (Re x.c y.c) q)=Fo (py y q-py x q):=by
 unfold Re py; rw [Cn,Ro,Ro]; exact Qqe hx.n.2.2.1 hy.n.2.2.1
theorem Qko {a:Tm} (ha:Va a) {x y:Pt} (hx:Sc x.c) (hy:Sc y.c) {q:Rat} (h1:Tg (Hk a) (Hp x.c y.c)=Fo (Fe (Hp x.c y.c) q)) (h2:Tg (Hk a) (Re x.c y.c)=Fo (Fe (Re x.c y.c) q)):Sj (Hk a) x y=true↔C4 q x y:=by
 rw [Qqf hx hy] at h1;rw [Qqd hx hy] at h2;have d1:=(Qbg hx hy).dp;have d2:=(Qbf hx hy).dp;unfold Sj;simp only [Qal];have t1:=Gp (px y q-px x q);have t2:=Gp (py y q-py x q);by_cases e1:(Hp x.c y.c).length=0
 ·rw [if_neg (by omega)];rw [Qh e1,Ql3] at h1;have:px x q=px y q:=by grind
  by_cases e2:(Re x.c y.c).length=0
  ·rw [if_neg (by omega)];rw [Qh e2,Ql3] at h2;unfold C4;simp only [decide_eq_true_eq];grind
  ·rw [if_pos (by omega)];have:=(Qac ha d2 e2).2;unfold C4;simp only [decide_eq_true_eq];grind
 ·rw [if_pos (by omega)];have:=(Qac ha d1 e1).2;unfold C4;simp only [decide_eq_true_eq];grind
def Qem (l:List Pt):List (List Int):=l.flatMap λx=>l.flatMap λy=>[Hp x.c y.c,Re x.c y.c]
theorem D6 {l:List Pt} {x y:Pt} (hx:x∈l) (hy:y∈l):Hp x.c y.c∈Qem l/\Re x.c y.c∈Qem l :=
 ⟨Z0.2 ⟨x,hx,Z0.2 ⟨y,hy,by simp⟩⟩,Z0.2 ⟨x,hx,Z0.2 ⟨y,hy,by simp⟩⟩⟩
theorem Q1o {l:List Pt} (hl:∀ p∈l,Sc p.c):∀ p∈Qem l,Cp p:=λp hp=>by
 obtain ⟨x,hx,hp⟩:=Z0.1 hp;obtain ⟨y,hy,hp⟩:=Z0.1 hp;simp at hp;rcases hp with rfl | rfl
 ·exact Qbg (hl x hx) (hl y hy)
 ·exact Qbf (hl x hx) (hl y hy)
theorem Q4r {l:List Pt} (hl:∀ p∈l,Sc p.c) (hd:l.Pairwise λx y=>x.id≠y.id) {a:Tm} (ha:Va a):∃ y,Fv a y=-1/\∀ q,Fv a q=-1->q≤y->(∀ u∈l,∀ v∈l,(Sj (Hk a) u v=true↔C4 q u v))/\(Pp a l).Pairwise (C4 q):=by
 obtain ⟨y,y1,y2⟩:=Ql4 ha (Qem l) λp hp=>(Q1o hl p hp).dp
 refine ⟨y,y1,λq q1 q2=>?_⟩;have h:=y2 q q1 q2;have hb:∀ u∈l,∀ v∈l,(Sj (Hk a) u v=true↔C4 q u v):=λu hu v hv=>Qko ha (hl u hu) (hl v hv) (h _ (D6 hu hv).1) (h _ (D6 hu hv).2)
 refine ⟨hb,?_⟩;exact foldG_pw (S:=λx=>x∈l) (D:=λx y=>x.id≠y.id) (Qcr q) (λu v hu hv h=>(hb u hu v hv).1 h) (λu v hu hv hne h=>Qvs (λe=>hne e.symm) λh'=>by
  rw [(hb u hu v hv).2 h'] at h; cases h) l [] .nil (λx hx=>by cases hx) (λx hx=>hx) hd (λx hx=>by cases hx)
theorem Qz5 {a b:Tm} {x y:Pt} (h:Tg (Hk b) (Bh x y)=Tg (Hk a) (Bh x y)):Sj (Hk b) x y=Sj (Hk a) x y:=by
 unfold Bh O6 at h;unfold Sj;simp only [Qal];by_cases e1:0<(Hp x.c y.c).length
 ·rw [if_pos e1,if_pos e1]; rw [if_pos e1] at h; rw [h]
 ·rw [if_neg e1,if_neg e1]; rw [if_neg e1] at h; rw [h]
theorem Qk6 {a b:Tm} {q r:Rat}:∀ (l:List Pt),(∀ u∈l,∀ v∈l,(Sj (Hk a) u v=true↔C4 q u v))->(∀ u∈l,∀ v∈l,(Sj (Hk b) u v=true↔C4 r u v))->l.Pairwise (C4 q)->(∀ x∈Pe (Hk a) l,Tg (Hk b) x.p=Tg (Hk a) x.p)->l.Pairwise (C4 r)/\Pe (Hk b) l=Pe (Hk a) l
 | [],_,_,_,_=>⟨.nil,rfl⟩
 | [x],_,_,_,_=>⟨Vp _ _,rfl⟩
 |
  x::y::l,ha,hb,hp,hc=>by
  rw [Q6] at hp;obtain ⟨i1,i2⟩:=Qk6 (a:=a) (b:=b) (q:=q) (r:=r) (y::l) (λu hu v hv=>ha u (Qj _ hu) v (Qj _ hv)) (λu hu v hv=>hb u (Qj _ hu) v (Qj _ hv)) hp.2 (λz hz=>hc z (by simp only [Pe]; exact Qj _ hz));have h0:Tg (Hk b) (Bh x y)=Tg (Hk a) (Bh x y):=hc (Ch (Hk a) x y) (by simp [Pe]);have h1:C4 r x y:=(hb x (by simp) y (by simp)).1 (by rw [Qz5 h0]; exact (ha x (by simp) y (by simp)).2 (hp.1 y (by simp)));refine ⟨Q6.2 ⟨λz hz=>?_,i1⟩,?_⟩
  ·rcases Qm.1 hz with rfl | hz
   ·exact h1
   ·exact Qcr r x y z h1 ((Q6.1 i1).1 z hz)
  ·simp only [Pe];rw [i2]; congr 1;unfold Ch; rw [h0]
theorem Qp7 {sg:List Int->Int}:∀ {l:List Pt},∀ x∈Pe sg l,∃ u∈l,∃ v∈l,x.p=Bh u v
 | [],x,hx=>by cases hx
 | [_],x,hx=>by cases hx
 |
  a::b::l,x,hx=>by
  simp only [Pe] at hx;rcases Qm.1 hx with rfl | hx
  ·exact ⟨a,by simp,b,by simp,rfl⟩
  ·obtain ⟨u,hu,v,hv,e⟩:=Qp7 (l:=b::l) x hx;exact ⟨u,Qj _ hu,v,Qj _ hv,e⟩
theorem Q6v {l:List Pt} {u v:Pt} (hu:u∈l) (hv:v∈l):Bh u v∈Qem l:=by
 unfold Bh O6; split
 ·exact (D6 hu hv).1
 ·exact (D6 hu hv).2
theorem Zfp {l:List Pt} {a:Tm}:∀ x∈bcS l a,x.p∈Qem l:=λx hx=>by
 obtain ⟨u,hu,v,hv,e⟩:=Qp7 x hx;rw [e]; exact Q6v (Rj.1 hu) (Rj.1 hv)
theorem Q71 (l:List Pt):(Qem l).length=l.length*(l.length*2):=by
 have h1:∀ (x:Pt) (m:List Pt),(m.flatMap λy=>[Hp x.c y.c,Re x.c y.c]).length=m.length*2:=λx m=>by
  induction m with
  | nil=>rfl
  | cons y m ih=>rw [Yg,Q4,ih,Q7]; simp; omega
 have h2:∀ m:List Pt,(m.flatMap λx=>l.flatMap λy=>[Hp x.c y.c,Re x.c y.c]).length=m.length*(l.length*2):=λm=>by
  induction m with
  | nil=>simp
  | cons y m ih=>rw [Yg,Q4,ih,Q7,h1,Jg,Ky,Jm]
 exact h2 l
theorem Zdj {l:List Pt} (hl:∀ p∈l,Sc p.c) (hd:l.Pairwise λx y=>x.id≠y.id) {a b:Tm} (ha:Va a) (hb:Va b) (h:∀ x∈bcS l a,Tg (Hk b) x.p=Tg (Hk a) x.p):Pp b l=Pp a l/\bcS l b=bcS l a:=by
 obtain ⟨q,q1,q2⟩:=Q4r hl hd ha;obtain ⟨r,r1,r2⟩:=Q4r hl hd hb;obtain ⟨a1,a2⟩:=q2 q q1 Qq;obtain ⟨b1,b2⟩:=r2 r r1 Qq;obtain ⟨c1,c2⟩:=Qk6 (a:=a) (b:=b) (Pp a l) (λu hu v hv=>a1 u (Rj.1 hu) v (Rj.1 hv)) (λu hu v hv=>b1 u (Rj.1 hu) v (Rj.1 hv)) a2 h;have e:Pp b l=Pp a l:=Qp0 (Qbw r) (Qcr r) b2 c1 λx=>by rw [Rj,Rj]
 exact ⟨e,by unfold bcS; rw [e,c2]⟩
end Orq
namespace Orr
open Go
section
variable {α:Type} {lt:α->α->Bool}
theorem Q6h (out:List α) (c:α):(M8 lt out c).Perm (c::out):=by
 unfold M8;exact (Ut).trans (by rw [Zd])
theorem Qly:∀ (l acc:List α),(l.foldl (M8 lt) acc).Perm (l++acc)
 | [],acc=>List.Perm.refl _
 |
  c::l,acc=>by
  simp only [Xg];exact (Qly l _).trans (((Q6h acc c).append_left l).trans Ut)
theorem Qnf (l:List α):(Gy lt l).Perm l:=by
 have:=Qly (lt:=lt) l [];rwa [Zo] at this
end
def Al (a b:Pt):Bool:=decide (a.id<b.id)
def Pt.m5 (p:Pt):Pt:=⟨p.c,p.id % 5⟩
def mix (O:List Pt) (i:Nat):List Pt:=(O.take i).map Pt.m5++O.drop i
theorem Zb1 (O:List Pt):mix O 0=O:=by simp [mix]
theorem Qj0 (O:List Pt) (i:Nat):(mix O i).length=O.length:=by
 unfold mix; rw [List.length_append,List.length_map,List.length_take,List.length_drop]; omega
theorem Q3z {O:List Pt} {i:Nat} {p:Pt} (h:O[i]? = some p):(mix O i).set i p.m5=mix O (i+1):=by
 have hi:=(Qf.1 h).1;have hl:((O.take i).map Pt.m5).length=i:=by rw [Q8,Qr]; omega
 unfold mix;rw [List.set_append,if_neg (by omega),hl,Jw,Zq,h,Vz,Jo,Zm];congr 1;rw [Zl hi];have:O[i]=p:=by
  have:=(Qf.1 h).2;exact this
 rfl
theorem Zhx {O:List Pt} {i:Nat} {p:Pt} (h:O[i]? = some p):(mix O i)[i]? = some p:=by
 have hi:=(Qf.1 h).1;have hl:((O.take i).map Pt.m5).length=i:=by rw [Q8,Qr]; omega
 unfold mix;rw [Xa (by omega),hl,Jw,Xh];exact h
theorem Q3y {O:List Pt} {i k:Nat} {p:Pt} (hk:k<i) (h:O[k]? = some p):(mix O i)[k]? = some p.m5:=by
 have hi:=(Qf.1 h).1;unfold mix;rw [Zi (by rw [Q8,Qr]; omega),Zb,X7,if_pos hk,h]; rfl
theorem Qv2 {O:List Pt} {e i:Nat} (h:e<=i) (hi:i<=O.length):(mix O i).take e=(O.take e).map Pt.m5:=by
 unfold mix;rw [Yw (by rw [Q8,Qr]; omega),<-J7,Ua,Zw h]
def Pz (O:List Pt) (e:Nat):List Pt:=(O.take e).map Pt.m5
def Qdb (O:List Pt) (e:Nat):List Pt:=(Pz O e).map Pt.nrm
def A9 (l:List Pt):Prop:=l.Pairwise λa b=>a.id≠b.id
theorem Q5x {O:List Pt} {i:Nat} {p:Pt} (h:O[i]? = some p):Pz O (i+1)=Pz O i++[p.m5]:=by
 unfold Pz; rw [List.take_succ,h,Option.toList_some,List.map_append]; rfl
theorem Q53 {O:List Pt} {i:Nat} {p:Pt} (h:O[i]? = some p) (hd:A9 (Pz O i)) (hn:∀ k x,k<i->O[k]? = some x->x.m5.id≠p.m5.id):A9 (Pz O (i+1)):=by
 rw [Q5x h];refine Ju.2 ⟨hd,Vp _ _,λa ha b hb=>?_⟩;rw [Qk.1 hb];obtain ⟨x,hx,rfl⟩:=Zp.1 ha;obtain ⟨k,hk,rfl⟩:=Vi.1 hx;rw [Qr] at hk;rw [List.getElem_take];exact hn k _ (by omega) (Qd (by omega))
theorem Qop {O:List Pt} {e:Nat} (h:A9 (Pz O e)):A9 (Qdb O e):=List.Pairwise.map Pt.nrm (λ_ _ h=>h) h
theorem Qit (O:List Pt) (e:Nat):(Qdb O e).length=(Pz O e).length:=by unfold Qdb; rw [List.length_map]
theorem Qew {O:List Pt} {e:Nat} (h:e<=O.length):(Pz O e).length=e:=by unfold Pz; rw [List.length_map,List.length_take]; omega
def Q49 (p:Pt):Prop:=Cs 10 3 p.c
theorem Qph {n:Nat} {most:Int} (hm:0≤most/\most≤999) {l:List RawPt}:∀ p∈Qht n most l,Q49 p:=λp hp=>by
 rcases Qe3 _ _ hp with h | h
 ·cases h
 ·obtain ⟨z,_,rfl⟩:=Zp.1 h;exact Qon hm _ _ _
theorem Quv {O:List Pt} (h:∀ p∈O,Q49 p) (e:Nat):∀ p∈Pz O e,Q49 p:=λp hp=>by
 obtain ⟨x,hx,rfl⟩:=Zp.1 hp;exact h x (Qn hx)
theorem Q2x {O:List Pt} (h:∀ p∈O,Q49 p) (e:Nat):∀ p∈Qdb O e,Nml p.c/\Cs 10 3 p.c:=λp hp=>by
 obtain ⟨x,hx,rfl⟩:=Zp.1 hp;exact ⟨x.c.nml,(Quv h e x hx).norm (by decide)⟩
theorem Qpe {s n:Nat}:∀ {l:List Pt},(∀ p∈l,Cs s n p.c)->IsPts s n (l.map H5) (l.map Pt.nrm)
 | [],_=>trivial
 | p::l,h=>⟨⟨p.c.x.map Hn,p.c.y.map Hn,_,_,_,_,p.c.d,rfl,H6 _,H6 _,Fb _,h p (Qw ..),rfl⟩,Qpe λx hx=>h x (Qj _ hx)⟩
theorem Qqh:∀ {l m:List Pt},Dv l->Dv m->(∀ x,x∈l↔x∈m)->l=m
 | [],[],_,_,_=>rfl
 | [],b::m,_,_,h=>absurd ((h b).2 (Qw ..)) (by simp)
 | a::l,[],_,_,h=>absurd ((h a).1 (Qw ..)) (by simp)
 |
  a::l,b::m,h1,h2,h=>by
  have h1':=Q6.1 h1;have h2':=Q6.1 h2;have hab:a=b:=by
   rcases Qm.1 ((h a).1 (Qw ..)) with e | e
   ·exact e
   ·rcases Qm.1 ((h b).2 (Qw ..)) with e2 | e2
    ·exact e2.symm
    ·have:=h2'.1 a e; have:=h1'.1 b e2; omega
  subst hab;congr 1;refine Qqh h1'.2 h2'.2 λx=>⟨λhx=>?_,λhx=>?_⟩
  ·rcases Qm.1 ((h x).1 (Qj _ hx)) with e | e
   ·have:=h1'.1 x hx; rw [e] at this; omega
   ·exact e
  ·rcases Qm.1 ((h x).2 (Qj _ hx)) with e | e
   ·have:=h2'.1 x hx; rw [e] at this; omega
   ·exact e
theorem Qtf {l:List Pt} (h:A9 l):Dv (Gy Al l) :=
 Orq.foldG_pw (R:=λa b:Pt=>a.id<b.id) (S:=λ_=>True) (D:=λa b:Pt=>a.id≠b.id) (λx y z h1 h2=>Int.lt_trans h1 h2) (λx y _ _ h=>of_decide_eq_true h) (λx y _ _ h1 h=>by have:=of_decide_eq_false h; omega) l [] .nil (λx hx=>by cases hx) (λ_ _=>trivial) h (λx hx=>by cases hx)
theorem Zc2 (l:List Pt) (q:Pt):(put l q).Perm (q::l):=by
 unfold put;exact List.perm_middle.trans (by rw [Zd])
theorem Qpn:∀ (qs acc:List Pt),(Pi acc qs).2=0->(Pi acc qs).1.Perm (qs++acc)
 | [],acc,_=>List.Perm.refl _
 |
  q::qs,acc,h=>by
  simp only [Pi] at h ⊢
  split
  ·rename_i h0;rw [if_pos h0] at h;refine (Qpn qs _ h).trans ?_;exact ((Zc2 acc q).append_left qs).trans Ut
  ·rename_i h0;rw [if_neg h0] at h;exact absurd h h0
theorem Q6s {qs:List Pt} (hl:qs.length<=6) (hd:A9 qs):(Pi [] qs).2=0/\(Pi [] qs).1=Gy Al qs:=by
 rcases Q6r hl with ⟨h1,h2,_,_⟩ | ⟨_,h2⟩
 ·refine ⟨h1,Qqh h2 (Qtf hd) λx=>?_⟩;have h3:=Qpn qs [] h1;rw [Zo] at h3;rw [h3.mem_iff,Ma]
 ·exact absurd hd h2
end Orr
namespace Orr
open Go Go.Proofs
set_option maxRecDepth 10000
theorem Zhj {α:Type} {f:α->List LV} {lt:α->α->Bool} {O:List α} {c:α} {k:Nat} (hp:Sv lt O c O.length=k):(O.map f).take k++(f c::(O.map f).drop k)=(M8 lt O c).map f:=by
 simp [M8,hp,J7,Uj]
theorem Qvl {α:Type} {f:α->List LV} {lt:α->α->Bool} {O:List α} {c:α} {k:Nat} (hp:Sv lt O c O.length=k):(O.map f).take k++([f c]++((O.map f).drop k).take ((O.map f).length-k))=(M8 lt O c).map f:=by
 rw [Qo (l:=(O.map f).drop k) (by simp)];exact Zhj hp
theorem Qfb {lt:Pt->Pt->Bool} {O:List Pt} {c:Pt} {k:Nat} (hp:Sv lt O c O.length=k):(Fy O).take k++([Lt c]++((Fy O).drop k).take ((Fy O).length-k))=Fy (M8 lt O c):=Qvl hp
theorem Rf (l:List Pt):(Fy l).length=l.length:=by simp [Fy]
theorem Qfz (l:List Pt):∀ c∈Fy l,c.length=7:=λc hc=>by obtain ⟨x,_,rfl⟩:=Zp.1 hc; rfl
theorem Ga {l:List Pt} {i:Nat} {c:Pt} (h:l[i]? = some c):(Fy l)[i]? = some (Lt c):=Ho h
theorem Q2j {l:List Pt} (hn:l.length<=1000000):Fa Tryz.prog 64 [.one (.row (Fy l))] [.one (.row (Fy (Gy Al l)))]:=by
 have hcl:=Rf l;refine Hl Tryz.func64 rfl ?_;refine go tt [.o 3 57 7] rfl trivial ?_;refine lp (S:=Nat) 1 (λL1 i=>(8,.v (.one (.int .i64 (i:Int))))::(3,.v (.one (.orow 0 7 none)))::L1) (λi=>[.row false 57 7 (Fy (Gy Al (l.take i)))]) (λi=>l.length-i) (λi=>i<=l.length) 0 (Qi _) rfl (λ_ _=>rfl) rfl λi hi=>?_
 by_cases hlt:i<l.length
 ·obtain ⟨c,hc⟩:=gxE (l:=l) (i:=i) hlt;have hst:Gy Al (l.take (i+1))=M8 Al (Gy Al (l.take i)) c:=Ah hc;obtain ⟨O,hO⟩:=nmE (Gy Al (l.take i));have hOl:O.length=i:=by rw [hO,Te,Qr]; omega
  have hrl:=Rf O;rw [<-hO] at hst ⊢;refine go tt [.t (decide_eq_true (by omega))] rfl trivial ?_;refine lp (S:=Nat) 1 (λL1 k=>(5,.v (.one (.int .i64 (k:Int))))::L1) (λ_=>[.row false 57 7 (Fy O)]) id (λk=>k<=O.length/\Sv Al O c k=Sv Al O c O.length) (Fy O).length ⟨by omega,by rw [hrl]⟩ rfl (λ_ _=>rfl) rfl λk ⟨hk,hp⟩=>?_
  have h7:=Qfz O;have h7z:∀ y∈[Lt c],y.length=7:=λy hy=>by rw [Qk.1 hy]; rfl
  cases k with
  |
   zero =>
   have hp:Sv Al O c O.length=0:=by rw [<-hp]; rfl
   refine go tt [.g 15 false (by simp),.f rfl,.i 0,.x (Ga hc),.lo,.i 0,.s (sz:=7) (λy hy=>h7 y (Qn hy)),.s (sz:=7) (λy hy=>(Qu.1 hy).elim (h7z y) λhy=>h7 y (Qn hy))] rfl (by simp [U9]; omega) ?_;exact rd (i+1) (by omega) hlt (by rw [hst,<-Qfb hp]; rfl)
  |
   succ k =>
   obtain ⟨x,hx⟩:=gxE (l:=O) (i:=k) (by omega);by_cases hlc:Al c x=true
   ·refine go tt [.g 15 true (by simp),.x (Ga hc),.r 23 (eI (b:=(k:Int)) (by simp)),.i k,.x (Ga hx),.t hlc,.r 30 (eI (b:=(k:Int)) (by simp))] rfl (by simp [U9]; omega) ?_;exact rd k (by simp) ⟨by omega,by rw [<-hp,Qcy hx hlc]⟩ rfl
   ·have hlc:Al c x=false:=by simpa using hlc
    have hp:Sv Al O c O.length=k+1:=by rw [<-hp,Oc hx hlc]
    refine go tt [.g 15 true (by simp),.x (Ga hc),.r 23 (eI (b:=(k:Int)) (by simp)),.i k,.x (Ga hx),.f hlc,.i (k+1),.x (Ga hc),.lo,.i (k+1),.s (sz:=7) (λy hy=>h7 y (Ze (Qn hy))),.s (sz:=7) (λy hy=>(Qu.1 hy).elim (h7z y) λhy=>h7 y (Ze (Qn hy)))] rfl (by simp [U9]; omega) ?_;exact rd (i+1) (by omega) hlt (by rw [hst,<-Qfb hp]; rfl)
 ·obtain rfl:i=l.length:=by omega
  rw [Qy];exact en tt [.f (decide_eq_false (by omega))] rfl rfl trivial
end Orr
