/- DetL H1 R22 HullG TurnL HullQ HullS H2 H3 R23 R24 R25 R29 R30 MeshN MeshK MD1 MD2 MD3 NewsN MD4 MD5 -/
import Derived.Test.YtpnhifedfcgjbaaGreatPart08
import Derived.Test.YtpnhifedfcgjbaaGreatPart00
import Derived.Test.YtpnhifedfcgjbaaGreatPart05
import Derived.Test.YtpnhifedfcgjbaaGreatPart07
import Derived.Test.YtpnhifedfcgjbaaGreatPart06
set_option linter.all false
namespace Orr
def Lp (l:List (List (List Int))):List (List LV):=l.map λr=>[.row (r.map λp=>[pl p])]
abbrev O2 (r:List (List Int)):List (List LV):=r.map λp=>[pl p]
theorem Qay (l:List (List (List Int))):(Lp l).length=l.length:=by simp [Lp]
def Og (i:Nat) (rows:List (List (List Int))):Nat->List (List (List Int))
 | 0=>[]
 | j+1=>if j=i then Og i rows j else Og i rows j++[(rows.getD j []).drop 1]
def Qfw (rows:List (List (List Int))) (i:Nat):List (List (List Int)):=Og i rows rows.length
def Lx (f:Nat->List Int) (rows:List (List (List Int))):Nat->List Int
 | 0=>[]
 |
  i+1=>if ((rows.getD i []).getD 0 []).length=0 then Lx f rows i else
  if i % 2=0 then D6 (Lx f rows i) (Um ((rows.getD i []).getD 0 []) (f i)) else S7 (Lx f rows i) (Um ((rows.getD i []).getD 0 []) (f i))
def Qcj:Nat->List (List (List Int))->List Int
 | 0,_=>[1]
 | k+1,rows=>Lx (λi=>Qcj k (Qfw rows i)) rows (k+1)
structure Sq (s:Nat) (ds:List Nat) (k w:Nat) (rows:List (List (List Int))):Prop where
 l:rows.length=k
 w:∀ r∈rows,r.length=w
 t:∀ r∈rows,∀ p∈r,W9 p
 b:∀ r∈rows,∀ p∈r,Bd s p
 n:∀ r∈rows,∀ (j:Nat) (p:List Int),r[j]? = some p->p.length≤ds.getD j 0+1
theorem Qke {i:Nat} {rows:List (List (List Int))}:∀ {j:Nat} {r:List (List Int)},j≤rows.length->r∈Og i rows j->∃ q∈rows,r=q.drop 1
 | 0,r,_,h=>by simp [Og] at h
 |
  j+1,r,hj,h=>by
  simp only [Og] at h
  split at h
  ·exact Qke (by omega) h
  ·rcases Qw.1 h with h | h
   ·exact Qke (by omega) h
   ·rw [Qm.1 h];exact ⟨rows.getD j [],Qa (i:=j) (by rw [Qh,Qf (by omega)]; rfl),rfl⟩
theorem Qkd {i:Nat} {rows:List (List (List Int))}:∀ (j:Nat),(Og i rows j).length=if i<j then j-1 else j
 | 0=>rfl
 |
  j+1=>by
  have ih:=Qkd (i:=i) (rows:=rows) j;simp only [Og]
  split
  ·rename_i e; subst e; rw [ih,if_neg (by omega),if_pos (by omega)]; omega
  ·rw [Q5,ih,Kf]
   split <;> split <;> omega
theorem Sq.min {s d k w:Nat} {ds:List Nat} {rows:List (List (List Int))} (h:Sq s (d::ds) (k+1) (w+1) rows) {i:Nat} (hi:i<k+1):Sq s ds k w (Qfw rows i):=by
 have hl:=h.l;have hm:∀ {r:List (List Int)},r∈Qfw rows i->∃ q∈rows,r=q.drop 1:=λh=>Qke (Qn _) h
 refine ⟨by unfold Qfw; rw [Qkd,hl,if_pos hi]; omega,λr hr=>?_,λr hr p hp=>?_,λr hr p hp=>?_,λr hr j p hp=>?_⟩
 ·obtain ⟨q,hq,rfl⟩:=hm hr;rw [Zw,h.w q hq]; omega
 all_goals obtain ⟨q,hq,rfl⟩:=hm hr
 ·exact h.t q hq p (Qz hp)
 ·exact h.b q hq p (Qz hp)
 ·rw [Z2] at hp;have:=h.n q hq (1+j) p hp;rw [Jw 1 j] at this;exact this
theorem Sq.at {s d k w:Nat} {ds:List Nat} {rows:List (List (List Int))} (h:Sq s (d::ds) k (w+1) rows) {i:Nat} (hi:i<k):∃ p r,rows[i]? = some (p::r)/\(rows.getD i []).getD 0 []=p/\W9 p/\Bd s p/\p.length<=d+1:=by
 obtain ⟨r,hr⟩:=gxE (l:=rows) (i:=i) (by rw [h.l]; exact hi);have hm:=Qa hr;cases r with
 | nil=>have:=h.w _ hm; simp at this
 |
  cons p r =>
  have e:rows.getD i []=p::r:=by rw [Qh,hr]; rfl
  refine ⟨p,r,hr,by rw [e]; rfl,h.t _ hm p (by simp),h.b _ hm p (by simp),h.n _ hm 0 p rfl⟩
theorem Qo1 {s d k w:Nat} {ds:List Nat} {f:Nat->List Int} {rows:List (List (List Int))} {B L:Nat} (h:Sq s (d::ds) k (w+1) rows) (hn:d<31) (hf:∀ i,i<k->Bd B (f i)/\(f i).length<=L+1):∀ i,i<=k->W9 (Lx f rows i)/\Bd (s+B+5+i) (Lx f rows i)/\(Lx f rows i).length<=d+L+1
 | 0,_=>⟨rfl,λz hz=>(by cases hz),Qg _⟩
 |
  i+1,hi=>by
  obtain ⟨h1,h2,h3⟩:=Qo1 h hn hf i (by omega);obtain ⟨p,r,_,e,t,b,l⟩:=h.at (i:=i) (by omega);obtain ⟨f1,f2⟩:=hf i (by omega);have hp1:Bd (s+B+5) (Um p (f i)):=Rf b f1 (by omega);have hp2:=Hi p (f i);simp only [Lx];rw [e]
  split
  ·exact ⟨h1,W4 h2 (by omega),h3⟩
  ·split
   ·exact ⟨Ut _ _,W4 (Qcy h2 hp1) (by omega),Qc (Oc _ _) (by omega)⟩
   ·exact ⟨Ut _ _,W4 (Qoe h2 hp1) (by omega),Qc (Qkb _ _) (by omega)⟩
theorem Qh7 {s:Nat}:∀ (k:Nat) (ds:List Nat) (rows:List (List (List Int))),k<=4->ds.length=k->ds.sum<31->Sq s ds k k rows->W9 (Qcj k rows)/\Bd (k*(s+10)+1) (Qcj k rows)/\(Qcj k rows).length<=ds.sum+1
 | 0,ds,rows,_,_,_,_=>⟨rfl,λz hz=>(by simp [Qcj] at hz; subst hz; rw [Ya]; decide),by simp [Qcj]⟩
 | k+1,[],rows,_,hl,_,_=>by simp at hl
 |
  k+1,d::ds,rows,hk,hl,hd,h=>by
  rw [Vr] at hd;have ih:=λi (hi:i<k+1)=>Qh7 k ds (Qfw rows i) (by omega) (by simpa using hl) (by omega) (h.min hi)
  obtain ⟨h1,h2,h3⟩:=Qo1 (f:=λi=>Qcj k (Qfw rows i)) (B:=k*(s+10)+1) (L:=ds.sum) h (by omega) (λi hi=>⟨(ih i hi).2.1,(ih i hi).2.2⟩) (k+1) (Qn _);have e1:(k+1)*(s+10)=k*(s+10)+(s+10):=Z6 ..;rw [Vr];exact ⟨h1,W4 h2 (by omega),h3⟩
def Ln (a b c:Crv):List (List (List Int)):=[[a.x,a.y,[a.d]],[b.x,b.y,[b.d]],[c.x,c.y,[c.d]]]
def Nz (a b c:Crv):List Int:=Qcj 3 (Ln a b c)
end Orr
namespace Orr
open Go Go.Proofs Orq
set_option maxRecDepth 10000
theorem gz {P:Program} [Mo P] {n:Nat} {Q:Exit->Sg->List OB->Prop} {L L':Sg} {B B':List OB} (i:Nat) {it:List It} (hs:Hk it=true) (h:Q33 [i] L B=some (L',B')) (k:AK P n Q it L' B'):AK P n Q it L B:=AK.sub (Qd7 h) hs k
theorem Qkx {r:List (List Int)} {i:Nat} {p:List Int} (h:r[i]? = some p):(O2 r)[i]? = some [pl p]:=Fb h
theorem Cx {l:List (List (List Int))} {i:Nat} {r:List (List Int)} (h:l[i]? = some r):(Lp l)[i]? = some [.row (O2 r)]:=Fb h
theorem Q5f {r:List (List Int)} (ht:∀ p∈r,W9 p) (hb:∀ p∈r,Bd 1000000 p) (hl:∀ p∈r,p.length≤1000000) (hn:r.length≤1000):W5 Tryz.prog 211 [.one (.row (O2 r))] [.one (.row (O2 r))]:=by
 have hrl:(O2 r).length=r.length:=by simp
 refine Fq Tryz.func211 rfl ?_;refine go tt [.o 3 52 1] rfl trivial ?_;refine lp (S:=Nat) 1 (λL1 i=>(8,.v (.one (.int .i64 (i:Int))))::(3,.v (.one (.orow 0 1 none)))::L1) (λi=>[.row false 52 1 (O2 (r.take i))]) (λi=>r.length-i) (λi=>i<=r.length) 0 (Qg _) rfl (λ_ _=>rfl) rfl λi hi=>?_
 by_cases h:i<r.length
 ·obtain ⟨p,hp⟩:=gxE (l:=r) (i:=i) h;have hm:=Qa hp;have hs:∀ y∈[[pl p]],y.length=1:=λy hy=>by rw [Qm.1 hy]; rfl
  have e:O2 (r.take (i+1))=O2 (r.take i)++[[pl p]]:=by rw [Z1,hp]; simp
  refine go tt [.t (decide_eq_true (by omega)),.x (Qkx hp),.c [] (Gi (ht p hm) (by have:=hl p hm; omega) (W4 (hb p hm) (by decide))),.s (sz:=1) hs] rfl (by simp [W3] <;> omega) ?_;exact rd (i+1) (by omega) h (by rw [e]; rfl)
 ·obtain rfl:i=r.length:=by omega
  rw [Q4];exact en tt [.f (decide_eq_false (by omega))] rfl rfl trivial
theorem Zlj {s k w:Nat} {ds:List Nat} {rows:List (List (List Int))} (h:Sq s ds k k rows) (_hw:w=k) (hk:k<=4):W5 Tryz.prog 246 [.one (.row (Lp rows))] [.one (.bool true)]:=by
 have hrl:=Qay rows;have hl:=h.l;refine Fq Tryz.func246 rfl ?_;refine go tt [] rfl trivial ?_;refine lp (S:=Nat) 0 (λL1 i=>(7,.v (.one (.int .i64 (i:Int))))::L1) (λ_=>[]) (λi=>rows.length-i) (λi=>i<=rows.length) 0 (Qg _) rfl (λ_ _=>rfl) rfl λi hi=>?_
 by_cases hlt:i<rows.length
 ·obtain ⟨r,hr⟩:=gxE (l:=rows) (i:=i) hlt;have hw:=h.w r (Qa hr);have hql:(O2 r).length=r.length:=by simp
  refine go tt [.t (decide_eq_true (by omega)),.x (Cx hr),.f (decide_eq_false (λh=>h (by omega)))] rfl (by simp [W3] <;> omega) ?_;exact rd (i+1) (by omega) hlt rfl
 ·exact en tt [.f (decide_eq_false (by omega))] rfl (by rw [decide_eq_true (by omega:((Lp rows).length:Int)<=4)]) trivial
theorem Zc7 {s k w:Nat} {ds:List Nat} {rows:List (List (List Int))} (h:Sq s ds k w rows) (hs:s<=1000000) (hk:k<=4) (hw:w<=4) (hd:∀ j,ds.getD j 0<=1000) (i:Nat):W5 Tryz.prog 277 [.one (.int .i64 (i:Int)),.one (.int .i64 0),.one (.row (Lp rows))] [.one (.row (Lp (Qfw rows i)))]:=by
 have hrl:=Qay rows;have hl:=h.l;have hml:∀ j,j<=rows.length->(Lp (Og i rows j)).length<=4:=λj hj=>by
  rw [Qay,Qkd]; split <;> omega
 refine Fq Tryz.func277 rfl ?_;refine go tt [.o 7 251 1] rfl trivial ?_;refine lp (S:=Nat) 1 (λL1 j=>(15,.v (.one (.int .i64 (j:Int))))::(7,.v (.one (.orow 0 1 none)))::L1) (λj=>[.row false 251 1 (Lp (Og i rows j))]) (λj=>rows.length-j) (λj=>j<=rows.length) 0 (Qg _) rfl (λ_ _=>rfl) rfl λj hj=>?_
 have hmlj:=hml j hj;by_cases hlt:j<rows.length
 ·obtain ⟨r,hr⟩:=gxE (l:=rows) (i:=j) hlt;have hm:=Qa hr;have hw:=h.w r hm;have hql:(O2 r).length=r.length:=by simp
  by_cases hij:j=i
  ·have e:Og i rows (j+1)=Og i rows j:=by simp only [Og]; rw [if_pos hij]
   refine go tt [.t (decide_eq_true (by omega)),.x (Cx hr),.t (decide_eq_true (by omega))] rfl (by simp [W3] <;> omega) ?_;exact rd (j+1) (by omega) hlt (by rw [e]; rfl)
  ·have e:Og i rows (j+1)=Og i rows j++[r.drop 1]:=by
    simp only [Og]; rw [if_neg hij,Qh,hr]; rfl
   refine go tt [.t (decide_eq_true (by omega)),.x (Cx hr),.f (decide_eq_false (by omega)),.o 10 52 1] rfl (by simp [W3]) ?_;refine lp (S:=Nat) 2 (λL1 c=>(25,.v (.one (.int .i64 (c:Int))))::(10,.v (.one (.orow 1 1 none)))::L1) (λc=>[.row false 251 1 (Lp (Og i rows j)),.row false 52 1 (O2 ((r.take c).drop 1))]) (λc=>r.length-c) (λc=>c<=r.length) 0 (Qg _) rfl (λ_ _=>rfl) rfl λc hc=>?_
   by_cases hcl:c<r.length
   ·obtain ⟨p,hp⟩:=gxE (l:=r) (i:=c) hcl;have hpm:=Qa hp;by_cases h0:c=0
    ·subst h0;refine go tt [.t (decide_eq_true (by omega)),.x (Qkx hp),.f (decide_eq_false (by simp))] rfl (by simp [W3]) ?_;exact rd 1 (by omega) hcl (by rw [Z1,hp]; rfl)
    ·have hs1:∀ y∈[[pl p]],y.length=1:=λy hy=>by rw [Qm.1 hy]; rfl
     have e2:O2 ((r.take (c+1)).drop 1)=O2 ((r.take c).drop 1)++[[pl p]]:=by
      rw [Z1,hp,Ve (by rw [Qx]; omega)]; simp
     refine go tt [.t (decide_eq_true (by omega)),.x (Qkx hp),.t (decide_eq_true (by omega)),.c [] (Gi (h.t r hm p hpm) (by have:=h.n r hm c p hp; have:=hd c; omega) (W4 (h.b r hm p hpm) (by omega))),.s (sz:=1) hs1] rfl (by simp [W3] <;> omega) ?_;exact rd (c+1) (by omega) hcl (by rw [e2]; rfl)
   ·obtain rfl:c=r.length:=by omega
    rw [Q4];have hs1:∀ y∈[[LV.row (O2 (r.drop 1))]],y.length=1:=λy hy=>by rw [Qm.1 hy]; rfl
    refine go tt [.f (decide_eq_false (by omega))] rfl trivial ?_;refine gz 1 rfl rfl ?_;refine go tt [.s (sz:=1) hs1] rfl (by simp [W3] <;> omega) ?_;exact rd (j+1) (by omega) hlt (by rw [e]; simp [Lp]; rfl)
 ·obtain rfl:j=rows.length:=by omega
  exact en tt [.f (decide_eq_false (by omega))] rfl rfl trivial
theorem Qgo:∀ (ds:List Nat) (j:Nat),ds.getD j 0<=ds.sum
 | [],j=>by simp
 | d::ds,0=>by simp
 |
  d::ds,j+1=>by
  have:=Qgo ds j;rw [Vr];show ds.getD j 0<=_;omega
theorem Zgw {s:Nat} (hs:s<=100000):∀ (k:Nat) (ds:List Nat) (rows:List (List (List Int))),k<=4->ds.length=k->ds.sum<31->Sq s ds k k rows->W5 Tryz.prog 247 [.one (.row (Lp rows))] [pr (Qcj k rows)]
 |
  0,ds,rows,_,_,_,h=>by
  have e:=Qk h.l;subst e;have co:=Qyt (p:=[1]) (by decide) (by decide);exact w tt Tryz.func247 rfl [.t rfl,.c [] co] rfl rfl trivial
 | k+1,[],_,_,hl,_,_=>by simp at hl
 |
  k+1,d::ds,rows,hk,hl,hd,h=>by
  rw [Vr] at hd;have hl':ds.length=k:=by simpa using hl
  have hrl:=Qay rows;have hrn:=h.l;have hmin:=λi (hi:i<k+1)=>h.min hi
  have ih:=λi (hi:i<k+1)=>Zgw hs k ds (Qfw rows i) (by omega) hl' (by omega) (hmin i hi)
  have hok:=λi (hi:i<k+1)=>Qh7 k ds (Qfw rows i) (by omega) hl' (by omega) (hmin i hi)
  have hb:k*(s+10)+1<=500000:=by
   have:k*(s+10)<=4*(100010):=Zx (by omega) (by omega);omega
  have hds:=Qo1 (f:=λi=>Qcj k (Qfw rows i)) (B:=k*(s+10)+1) (L:=ds.sum) h (by omega) (λi hi=>⟨(hok i hi).2.1,(hok i hi).2.2⟩);have cm:=Zc7 h (by omega) hk hk (λj=>by have:=Qgo (d::ds) j; rw [Vr] at this; omega);show W5 Tryz.prog 247 [.one (.row (Lp rows))] [pr (Lx (λi=>Qcj k (Qfw rows i)) rows (k+1))];obtain ⟨f,hf⟩:=nmE (λi=>Qcj k (Qfw rows i));rw [<-hf] at hds ⊢;have hfi:∀ i,f i=Qcj k (Qfw rows i):=λi=>by rw [hf]
  refine Fq Tryz.func247 rfl ?_;refine go tt [.f (decide_eq_false (by omega)),.z 3] rfl trivial ?_;refine lp (S:=Nat) 0 (λL1 i=>(14,.v (.one (.int .i64 (i:Int))))::(3,.v (pr (Lx f rows i)))::L1) (λ_=>[]) (λi=>k+1-i) (λi=>i<=k+1) 0 (Qg _) rfl (λ_ _=>rfl) rfl λi hi=>?_
  obtain ⟨d1,d2,d3⟩:=hds i hi;by_cases hlt:i<k+1
  ·obtain ⟨p,r,hr,e,t,b,l⟩:=h.at hlt;have hx0:(O2 (p::r))[0]? = some [pl p]:=rfl;have hpl:(p.map Fp).length=p.length:=by simp
   have cn:=Gi t (by omega) (W4 b (by omega));by_cases h0:p.length=0
   ·have es:Lx f rows (i+1)=Lx f rows i:=by simp only [Lx]; rw [e,if_pos h0]
    refine go tt [.t (decide_eq_true (by omega)),.x (Cx hr),.x hx0,.c [] cn,.t (decide_eq_true (by omega))] rfl (by simp [W3] <;> omega) ?_;exact rd (i+1) (by omega) hlt (by rw [es]; rfl)
   ·obtain ⟨k1,k2,k3⟩:=hok i hlt;have ci:=ih i hlt;have cp:=Qoi (p:=p) (q:=f i) t (by rw [hfi]; exact k1) (by omega) (by rw [hfi]; omega) b (by rw [hfi]; exact k2) (by omega);have hmb:Bd (s+(k*(s+10)+1)+5) (Um p (f i)):=Rf b (by rw [hfi]; exact k2) (by omega);have hml:=Hi p (f i);have hfl:(f i).length<=ds.sum+1:=by rw [hfi]; exact k3
    rw [<-hfi] at ci;by_cases h2:i % 2=0
    ·have es:Lx f rows (i+1)=D6 (Lx f rows i) (Um p (f i)):=by simp only [Lx]; rw [e,if_neg h0,if_pos h2]
     refine go tt [.t (decide_eq_true (by omega)),.x (Cx hr),.x hx0,.c [] cn,.f (decide_eq_false (by omega)),.x hx0,.c [] (cm i),.c [] ci,.c [] cp,.r 34 (eI (b:=((i % 2:Nat):Int)) rfl),.t (decide_eq_true (by omega)),.c [] (Qvm (p:=Lx f rows i) (q:=Um p (f i)) (by omega) (by omega) (W4 d2 (by omega)) (W4 hmb (by omega)))] rfl (by simp [W3] <;> omega) ?_;exact rd (i+1) (by omega) hlt (by rw [es]; rfl)
    ·have es:Lx f rows (i+1)=S7 (Lx f rows i) (Um p (f i)):=by simp only [Lx]; rw [e,if_neg h0,if_neg h2]
     refine go tt [.t (decide_eq_true (by omega)),.x (Cx hr),.x hx0,.c [] cn,.f (decide_eq_false (by omega)),.x hx0,.c [] (cm i),.c [] ci,.c [] cp,.r 34 (eI (b:=((i % 2:Nat):Int)) rfl),.f (decide_eq_false (by omega)),.c [] (Qvn (p:=Lx f rows i) (q:=Um p (f i)) (by omega) (by omega) (W4 d2 (by omega)) (W4 hmb (by omega)))] rfl (by simp [W3] <;> omega) ?_;exact rd (i+1) (by omega) hlt (by rw [es]; rfl)
  ·obtain rfl:i=k+1:=by omega
   exact en tt [.f (decide_eq_false (by omega))] rfl rfl trivial
theorem Zgo {s:Nat} (hs:s<=100000) {k:Nat} {ds:List Nat} {rows:List (List (List Int))} (hk:k<=4) (hl:ds.length=k) (hd:ds.sum<31) (h:Sq s ds k k rows):W5 Tryz.prog 212 [.one (.row (Lp rows))] [pr (Qcj k rows),.one (.int .i64 0)] :=
 w tt Tryz.func212 rfl [.c [] (Zlj h rfl hk),.f rfl,.c [] (Zgw hs k ds rows hk hl hd h)] rfl rfl trivial
theorem Qvu {k:Crv} (hk:Sc k):W5 Tryz.prog 210 [.agg (cl k)] [.one (.row (O2 [k.x,k.y,[k.d]]))]:=by
 have h0:k.d≠0:=by have:=hk.n.2.2.1; omega
 have td:W9 [k.d]:=by unfold W9; simp [trim,h0]
 have cd:=Q5f (r:=[k.x,k.y,[k.d]]) (λp hp=>by
  rcases Qo.1 hp with rfl | hp
  ·exact hk.n.1
  rcases Qo.1 hp with rfl | hp
  ·exact hk.n.2.1
  ·rw [Qm.1 hp]; exact td) (λp hp=>by
  rcases Qo.1 hp with rfl | hp
  ·exact W4 hk.c.x (by decide)
  rcases Qo.1 hp with rfl | hp
  ·exact W4 hk.c.y (by decide)
  ·rw [Qm.1 hp];intro z hz; rw [Qm.1 hz]; exact Qc hk.c.d (by decide)) (λp hp=>by
  rcases Qo.1 hp with rfl | hp
  ·have:=hk.c.lx; omega
  rcases Qo.1 hp with rfl | hp
  ·have:=hk.c.ly; omega
  ·rw [Qm.1 hp]; show 1<=1000000; decide) (by show 3<=1000; decide)
 exact w tt Tryz.func210 rfl [.c [] (Qy3 hk.n (hk.c.mono (by decide) (by decide))),.c [] cd] rfl rfl trivial
theorem Que {a b c:Crv} (ha:Sc a) (hb:Sc b) (hc:Sc c):Sq 128 [2,2,0] 3 3 (Ln a b c):=by
 have key:∀ k:Crv,Sc k->(∀ p∈[k.x,k.y,[k.d]],W9 p/\Bd 128 p)/\∀ (j:Nat) (p:List Int),[k.x,k.y,[k.d]][j]? = some p->p.length≤[2,2,0].getD j 0+1:=λk hk=>by
  have h0:k.d≠0:=by have:=hk.n.2.2.1; omega
  have td:W9 [k.d]:=by unfold W9; simp [trim,h0]
  refine ⟨λp hp=>?_,λj p hp=>?_⟩
  ·rcases Qo.1 hp with rfl | hp
   ·exact ⟨hk.n.1,hk.c.x⟩
   rcases Qo.1 hp with rfl | hp
   ·exact ⟨hk.n.2.1,hk.c.y⟩
   ·rw [Qm.1 hp];exact ⟨td,λz hz=>by rw [Qm.1 hz]; exact hk.c.d⟩
  ·match j,hp with
   | 0,hp=>injection hp with hp; subst hp; exact hk.c.lx
   | 1,hp=>injection hp with hp; subst hp; exact hk.c.ly
   | 2,hp=>injection hp with hp; subst hp; exact Qn _
   | j+3,hp=>simp at hp
 have hr:∀ r∈Ln a b c,∃ k:Crv,Sc k/\r=[k.x,k.y,[k.d]]:=λr hr=>by
  rcases Qo.1 hr with rfl | hr
  ·exact ⟨a,ha,rfl⟩
  rcases Qo.1 hr with rfl | hr
  ·exact ⟨b,hb,rfl⟩
  ·rw [Qm.1 hr]; exact ⟨c,hc,rfl⟩
 refine ⟨rfl,λr h=>?_,λr h p hp=>?_,λr h p hp=>?_,λr h j p hp=>?_⟩
 all_goals obtain ⟨k,hk,rfl⟩:=hr r h
 ·rfl
 ·exact ((key k hk).1 p hp).1
 ·exact ((key k hk).1 p hp).2
 ·exact (key k hk).2 j p hp
theorem Ql6 {a b c:Crv} (ha:Sc a) (hb:Sc b) (hc:Sc c):Cp (Nz a b c):=by
 obtain ⟨h1,h2,h3⟩:=Qh7 3 [2,2,0] (Ln a b c) (by decide) rfl (by decide) (Que ha hb hc);exact ⟨h1,Qc h3 (by decide),W4 h2 (by decide)⟩
theorem Q5s {a b c:Crv} (ha:Sc a) (hb:Sc b) (hc:Sc c):W5 Tryz.prog 171 [.agg (cl a),.agg (cl b),.agg (cl c)] [pr (Nz a b c)]:=by
 have cd:=Zgo (by decide) (k:=3) (ds:=[2,2,0]) (by decide) rfl (by decide) (Que ha hb hc);exact w tt Tryz.func171 rfl [.c [] (Qvu ha),.c [] (Qvu hb),.c [] (Qvu hc),.c [] cd] rfl rfl trivial
abbrev zrw (r:List (List Int)):List (List LV):=r.map λp=>[rp (zp p)]
def zmt (M:List (List (List Int))):List (List LV):=M.map λr=>[.row (zrw r)]
theorem Qq6 (M:List (List (List Int))):(zmt M).length=M.length:=by simp [zmt]
theorem Qq9 {r:List (List Int)} {i:Nat} {p:List Int} (h:r[i]? = some p):(zrw r)[i]? = some [rp (zp p)]:=Fb h
theorem Qim {l:List (List (List Int))} {i:Nat} {r:List (List Int)} (h:l[i]? = some r):(zmt l)[i]? = some [.row (zrw r)]:=Fb h
theorem Qwf {α:Type} {R:List α} {j k:Nat} {x:α} (h:R[j]? = some x):(R.take (j+1)).eraseIdx k=if j=k then (R.take j).eraseIdx k else (R.take j).eraseIdx k++[x]:=by
 have hj:=(Qd.1 h).1;have hl:(R.take j).length=j:=by rw [Qx]; omega
 rw [Z1,h,Y7];rcases V5 k j with hk | hk | hk
 ·rw [if_neg (by omega),List.eraseIdx_append_of_lt_length (by omega)]
 ·subst hk;rw [if_pos rfl,V8 (by omega),hl,Yo,Vq (l:=R.take k) (by omega)];show R.take k++[]=_;rw [Xd]
 ·rw [if_neg (by omega),V8 (by omega),hl,Vq (l:=[x]) (by simp; omega),Vq (by omega)]
def Fv (M:List (List (List Int))) (k:Nat):List (List (List Int)):=(M.drop 1).map (·.eraseIdx k)
theorem Qs2 {M:List (List (List Int))} {i k:Nat} {R:List (List Int)} (h:M[i]? = some R) (h0:0<i):Fv (M.take (i+1)) k=Fv (M.take i) k++[R.eraseIdx k]:=by
 have hi:=(Qd.1 h).1;unfold Fv;rw [Z1,h,Y7,Ve (by rw [Qx]; omega),Xy]; rfl
theorem Qwy {M:List (List (List Int))} {i k:Nat} (hi:i<=M.length):(Fv (M.take i) k).length=i-1:=by
 unfold Fv; rw [List.length_map,List.length_drop,List.length_take]; omega
theorem Q6u {M:List (List (List Int))} {k:Nat} (hn:M.length≤100) (hM:∀ R∈M,R.length≤100):W5 Tryz.prog 109 [.one (.row (zmt M)),.one (.int .i64 0),.one (.int .i64 (k:Int))] [.one (.row (zmt (Fv M k)))]:=by
 have hrl:=Qq6 M;refine Fq Tryz.func109 rfl ?_;refine go tt [.o 7 29 1] rfl trivial ?_;refine lp (S:=Nat) 1 (λL1 i=>(13,.v (.one (.int .i64 (i:Int))))::(7,.v (.one (.orow 0 1 none)))::L1) (λi=>[.row false 29 1 (zmt (Fv (M.take i) k))]) (λi=>M.length-i) (λi=>i<=M.length) 0 (Qg _) rfl (λ_ _=>rfl) rfl λi hi=>?_
 have hml:(zmt (Fv (M.take i) k)).length=i-1:=by rw [Qq6,Qwy hi]
 by_cases hlt:i<M.length
 ·obtain ⟨r,hr⟩:=gxE (l:=M) (i:=i) hlt;have hm:=hM r (Qa hr);have hql:(zrw r).length=r.length:=by simp
  by_cases h0:i=0
  ·subst h0;have e:Fv (M.take 1) k=Fv (M.take 0) k:=by unfold Fv; simp
   refine go tt [.t (decide_eq_true (by omega)),.t rfl] rfl (by simp [W3]) ?_;exact rd 1 (by omega) hlt (by rw [e]; rfl)
  ·have e:=Qs2 (k:=k) hr (by omega);refine go tt [.t (decide_eq_true (by omega)),.f (decide_eq_false (by omega)),.o 9 28 1,.x (Qim hr)] rfl (by simp [W3] <;> omega) ?_;refine lp (S:=Nat) 2 (λL1 c=>(24,.v (.one (.int .i64 (c:Int))))::(9,.v (.one (.orow 1 1 none)))::L1) (λc=>[.row false 29 1 (zmt (Fv (M.take i) k)),.row false 28 1 (zrw ((r.take c).eraseIdx k))]) (λc=>r.length-c) (λc=>c<=r.length) 0 (Qg _) rfl (λ_ _=>rfl) rfl λc hc=>?_
   have hzl:((r.take c).eraseIdx k).length<=c:=by
    exact Qc (List.eraseIdx_sublist ..).length_le (by rw [Qx]; omega)
   by_cases hcl:c<r.length
   ·obtain ⟨p,hp⟩:=gxE (l:=r) (i:=c) hcl;have e2:=Qwf (k:=k) hp;by_cases hck:c=k
    ·rw [if_pos hck] at e2;refine go tt [.t (decide_eq_true (by omega)),.f (decide_eq_false (by omega))] rfl (by simp [W3] <;> omega) ?_;exact rd (c+1) (by omega) hcl (by rw [e2]; rfl)
    ·rw [if_neg hck] at e2;have hs1:∀ y∈[[rp (zp p)]],y.length=1:=λy hy=>by rw [Qm.1 hy]; rfl
     refine go tt [.t (decide_eq_true (by omega)),.t (decide_eq_true (by omega)),.x (Qim hr),.x (Qq9 hp),.s (sz:=1) hs1] rfl (by simp [W3] <;> omega) ?_;exact rd (c+1) (by omega) hcl (by rw [e2]; simp [zrw]; rfl)
   ·obtain rfl:c=r.length:=by omega
    rw [Q4];have hs1:∀ y∈[[LV.row (zrw (r.eraseIdx k))]],y.length=1:=λy hy=>by rw [Qm.1 hy]; rfl
    refine go tt [.f (decide_eq_false (by omega))] rfl trivial ?_;refine gz 1 rfl rfl ?_;refine go tt [.s (sz:=1) hs1] rfl (by simp [W3] <;> omega) ?_;exact rd (i+1) (by omega) hlt (by rw [e]; simp [zmt]; rfl)
 ·obtain rfl:i=M.length:=by omega
  rw [Q4];exact en tt [.f (decide_eq_false (by omega))] rfl rfl trivial
def Qxt (k:Nat) (p:List Int):List Int:=if k % 2=1 then Ta p else p
def Dc (f:List (List (List Int))->List Int) (M:List (List (List Int))):Nat->List Int
 | 0=>[]
 | k+1=>D6 (Dc f M k) (Qxt k (Um ((M.getD 0 []).getD k []) (f (Fv M k))))
def Qc9:Nat->List (List (List Int))->List Int
 | 0,_=>[1]
 | n+1,M=>Dc (Qc9 n) M (n+1)
structure SqR (s:Nat) (ds:List Nat) (M:List (List (List Int))):Prop where
 l:M.length=ds.length
 w:∀ r∈M,r.length=ds.length
 b:∀ r∈M,∀ p∈r,Bd s p
 n:∀ r∈M,∀ (j:Nat) (p:List Int),r[j]? = some p->p.length≤ds.getD j 0+1
theorem C0:∀ {ds:List Nat} {k:Nat},k<ds.length->(ds.eraseIdx k).sum+ds.getD k 0=ds.sum
 | [],_,h=>by simp at h
 | d::ds,0,_=>by simp [Jw]
 |
  d::ds,k+1,h=>by
  have:=C0 (ds:=ds) (k:=k) (by simpa using h);simp only [List.eraseIdx_cons_succ,Vr,Q3];omega
theorem SqR.minor {s:Nat} {ds:List Nat} {M:List (List (List Int))} (h:SqR s ds M) {k:Nat} (hk:k<ds.length):SqR s (ds.eraseIdx k) (Fv M k):=by
 have hl:=h.l;unfold Fv;refine ⟨by rw [Q7,Zw,Je hk]; omega,λr hr=>?_,λr hr p hp=>?_,λr hr j p hp=>?_⟩
 all_goals obtain ⟨q,hq,rfl⟩:=Zd.1 hr
 all_goals have hq:=Qz hq
 ·rw [Je (by rw [h.w q hq]; exact hk),Je hk,h.w q hq]
 ·exact h.b q hq p (List.mem_of_mem_eraseIdx hp)
 ·rw [List.getElem?_eraseIdx] at hp;rw [Qh,List.getElem?_eraseIdx]
  split at hp <;> rename_i hj
  ·rw [if_pos hj,<-Qh]; exact h.n q hq j p hp
  ·rw [if_neg hj,<-Qh]; exact h.n q hq (j+1) p hp
theorem SqR.at {s:Nat} {ds:List Nat} {M:List (List (List Int))} (h:SqR s ds M) {k:Nat} (hk:k<ds.length):∃ r p,M[0]? = some r/\r[k]? = some p/\(M.getD 0 []).getD k []=p/\Bd s p/\p.length<=ds.getD k 0+1:=by
 obtain ⟨r,hr⟩:=gxE (l:=M) (i:=0) (by rw [h.l]; omega);have hm:=Qa hr;obtain ⟨p,hp⟩:=gxE (l:=r) (i:=k) (by rw [h.w r hm]; exact hk);refine ⟨r,p,hr,hp,?_,h.b r hm p (Qa hp),h.n r hm k p hp⟩;rw [Qh (l:=M),hr,Yz,Qh,hp]; rfl
theorem Zfr {k s:Nat} {p:List Int} (h:Bd s p):Bd s (Qxt k p):=by
 unfold Qxt; split
 ·exact Qak h
 ·exact h
theorem Zas (k:Nat) (p:List Int):(Qxt k p).length<=p.length:=by
 unfold Qxt; split
 ·exact Dn _
 ·exact Qn _
theorem Qja {s B:Nat} {ds:List Nat} {f:List (List (List Int))->List Int} {M:List (List (List Int))} (h:SqR s ds M) (hs:ds.sum<64) (hf:∀ k,k<ds.length->Bd B (f (Fv M k))/\(f (Fv M k)).length<=(ds.eraseIdx k).sum+1):∀ i,i<=ds.length->Bd (s+B+7+i) (Dc f M i)/\(Dc f M i).length<=ds.sum+1
 | 0,_=>⟨λz hz=>(by cases hz),Qg _⟩
 |
  i+1,hi=>by
  obtain ⟨h2,h3⟩:=Qja h hs hf i (by omega);obtain ⟨r,p,_,_,e,b,l⟩:=h.at (k:=i) (by omega);obtain ⟨f1,f2⟩:=hf i (by omega);have hd:=C0 (ds:=ds) (k:=i) (by omega);have hp1:Bd (s+B+7) (Um p (f (Fv M i))):=Rf b f1 (Zs l (by omega));have hp2:=Hi p (f (Fv M i));have hp3:=Zas i (Um p (f (Fv M i)));simp only [Dc];rw [e];exact ⟨W4 (Qcy h2 (Zfr hp1)) (by omega),Qc (Oc _ _) (by omega)⟩
theorem Qht {s:Nat}:∀ (n:Nat) (ds:List Nat) (M:List (List (List Int))),ds.length=n->ds.sum<64->SqR s ds M->Bd (n*(s+20)+1) (Qc9 n M)/\(Qc9 n M).length<=ds.sum+1/\n<=9\/9<n
 | 0,ds,M,_,_,_=>.inl ⟨λz hz=>(by simp [Qc9] at hz; subst hz; rw [Ya]; decide),by simp [Qc9],by omega⟩
 |
  n+1,ds,M,hl,hs,h=>by
  by_cases h9:9<n+1
  ·exact .inr h9
  have hsum:=λk (hk:k<ds.length)=>C0 (ds:=ds) (k:=k) hk
  have:=Qja (f:=Qc9 n) (B:=n*(s+20)+1) h hs (λk hk=>by
   have hd:=hsum k hk;rcases Qht n (ds.eraseIdx k) (Fv M k) (by rw [Je hk]; omega) (by omega) (h.minor hk) with h' | h'
   ·exact ⟨h'.1,h'.2.1⟩
   ·omega) (n+1) (by omega)
  have e1:(n+1)*(s+20)=n*(s+20)+(s+20):=Z6 ..;exact .inl ⟨W4 this.1 (by omega),this.2,by omega⟩
theorem Qv2 {s:Nat} (hs:s<=1000000):∀ (n:Nat) (ds:List Nat) (M:List (List (List Int))),n<=4->ds.length=n->ds.sum<64->SqR s ds M->W5 Tryz.prog 54 [.one (.row (zmt M))] [.one (rp (zp (Qc9 n M)))]
 |
  0,ds,M,_,hl,_,h=>by
  have e:=Qk (h.l.trans hl);subst e;exact w tt Tryz.func54 rfl [.t rfl,.c [] Qv1] rfl rfl trivial
 |
  n+1,ds,M,hn,hl,hd,h=>by
  have hrl:=Qq6 M;have hMl:=h.l;have ih:=λk (hk:k<ds.length)=>Qv2 hs n (ds.eraseIdx k) (Fv M k) (by omega) (by rw [Je hk]; omega) (by have:=C0 (ds:=ds) (k:=k) hk; omega) (h.minor hk)
  have hb:n*(s+20)+1<=3*1000020+1:=Nat.add_le_add_right (Zx (by omega) (by omega)) 1;have hok:∀ k,k<ds.length->Bd (n*(s+20)+1) (Qc9 n (Fv M k))/\(Qc9 n (Fv M k)).length<=(ds.eraseIdx k).sum+1:=λk hk=>by
   have hd':=C0 (ds:=ds) (k:=k) hk;rcases Qht n (ds.eraseIdx k) (Fv M k) (by rw [Je hk]; omega) (by omega) (h.minor hk) with h' | h'
   ·exact ⟨h'.1,h'.2.1⟩
   ·omega
  have hds:=Qja (f:=Qc9 n) (B:=n*(s+20)+1) h hd hok;have cm:=λk=>Q6u (M:=M) (k:=k) (by omega) (λr hr=>by rw [h.w r hr]; omega)
  show W5 Tryz.prog 54 [.one (.row (zmt M))] [.one (rp (zp (Dc (Qc9 n) M (n+1))))];obtain ⟨f,hf⟩:=nmE (Qc9 n);rw [<-hf] at hds hok ih ⊢;refine Fq Tryz.func54 rfl ?_;refine go tt [.f (decide_eq_false (by omega)),.z 3] rfl trivial ?_;refine lp (S:=Nat) 0 (λL1 i=>(13,.v (.one (.int .i64 (i:Int))))::(3,.v (.one (rp (zp (Dc f M i)))))::L1) (λ_=>[]) (λi=>M.length-i) (λi=>i<=M.length) 0 (Qg _) rfl (λ_ _=>rfl) rfl λi hi=>?_
  obtain ⟨d2,d3⟩:=hds i (by omega);by_cases hlt:i<M.length
  ·obtain ⟨r,p,hr,hp,e,b,l⟩:=h.at (k:=i) (by omega);obtain ⟨k2,k3⟩:=hok i (by omega);have hse:=C0 (ds:=ds) (k:=i) (by omega);have ci:=ih i (by omega);have cp:=Qb1 (p:=p) (q:=f (Fv M i)) (by omega) (by omega) b k2 (by omega);have hmb:Bd (s+(n*(s+20)+1)+7) (Um p (f (Fv M i))):=Rf b k2 (Zs l (by omega));have hml:=Hi p (f (Fv M i));by_cases h2:i % 2=1
   ·have es:Dc f M (i+1)=D6 (Dc f M i) (Ta (Um p (f (Fv M i)))):=by simp only [Dc,Qxt]; rw [e,if_pos h2]
    have hnl:=Dn (Um p (f (Fv M i)));refine go tt [.t (decide_eq_true (by omega)),.x (Qim hr),.x (Qq9 hp),.c [] (cm i),.c [] ci,.c [] cp,.r 28 (eI (b:=((i % 2:Nat):Int)) rfl),.t (decide_eq_true (by omega)),.c [] (Qvw (W4 hmb (by omega)) (by omega)),.c [] (Qos (p:=Dc f M i) (q:=Ta (Um p (f (Fv M i)))) (W4 d2 (by omega)) (W4 (Qak hmb) (by omega)) (by omega) (by omega))] rfl (by simp [W3] <;> omega) ?_;exact rd (i+1) (by omega) hlt (by rw [es]; rfl)
   ·have es:Dc f M (i+1)=D6 (Dc f M i) (Um p (f (Fv M i))):=by simp only [Dc,Qxt]; rw [e,if_neg h2]
    refine go tt [.t (decide_eq_true (by omega)),.x (Qim hr),.x (Qq9 hp),.c [] (cm i),.c [] ci,.c [] cp,.r 28 (eI (b:=((i % 2:Nat):Int)) rfl),.f (decide_eq_false (by omega)),.c [] (Qos (p:=Dc f M i) (q:=Um p (f (Fv M i))) (W4 d2 (by omega)) (W4 hmb (by omega)) (by omega) (by omega))] rfl (by simp [W3] <;> omega) ?_;exact rd (i+1) (by omega) hlt (by rw [es]; rfl)
  ·obtain rfl:i=n+1:=by omega
   exact en tt [.f (decide_eq_false (by omega))] rfl rfl trivial
theorem Qtg {a b c:Crv} (ha:Rs a) (hb:Rs b) (hc:Rs c):SqR 100000 [15,15,0] (Ln a b c):=by
 have key:∀ k:Crv,Rs k->(∀ p∈[k.x,k.y,[k.d]],Bd 100000 p)/\∀ (j:Nat) (p:List Int),[k.x,k.y,[k.d]][j]? = some p->p.length≤[15,15,0].getD j 0+1:=λk hk=>by
  refine ⟨λp hp=>?_,λj p hp=>?_⟩
  ·simp only [Qo,Jz,or_false] at hp;rcases hp with rfl | rfl | rfl
   ·exact hk.c.x
   ·exact hk.c.y
   ·exact Zhw hk.c.d
  ·match j,hp with
   | 0,hp=>injection hp with hp; subst hp; exact hk.c.lx
   | 1,hp=>injection hp with hp; subst hp; exact hk.c.ly
   | 2,hp=>injection hp with hp; subst hp; exact Qn _
   | j+3,hp=>simp at hp
 have h3:∀ r∈Ln a b c,r=[a.x,a.y,[a.d]]\/r=[b.x,b.y,[b.d]]\/r=[c.x,c.y,[c.d]]:=λr hr=>by
  simpa [Ln] using hr
 refine ⟨rfl,λr hr=>?_,λr hr=>?_,λr hr=>?_⟩
 ·rcases h3 r hr with rfl | rfl | rfl <;> rfl
 ·rcases h3 r hr with rfl | rfl | rfl
  ·exact (key a ha).1
  ·exact (key b hb).1
  ·exact (key c hc).1
 ·rcases h3 r hr with rfl | rfl | rfl
  ·exact (key a ha).2
  ·exact (key b hb).2
  ·exact (key c hc).2
def Lm (a b c:Crv):List Int:=Qc9 3 (Ln a b c)
theorem Qw2 {a b c:Crv} (ha:Rs a) (hb:Rs b) (hc:Rs c):Bd 400000 (Lm a b c)/\(Lm a b c).length<=31:=by
 rcases Qht 3 [15,15,0] (Ln a b c) rfl (by decide) (Qtg ha hb hc) with h | h
 ·exact ⟨W4 h.1 (by decide),h.2.1⟩
 ·omega
theorem Q2u {a b c:Crv} (ha:Rs a) (hb:Rs b) (hc:Rs c):W5 Tryz.prog 12 [.agg (Bv a),.agg (Bv b),.agg (Bv c)] [.one (rp (zp (Lm a b c)))]:=by
 have cd:=Qv2 (by decide) 3 [15,15,0] (Ln a b c) (by decide) rfl (by decide) (Qtg ha hb hc);have x0:[Bv a,Bv b,Bv c][0]? = some (Bv a):=rfl;have x1:[Bv a,Bv b,Bv c][1]? = some (Bv b):=rfl;have x2:[Bv a,Bv b,Bv c][2]? = some (Bv c):=rfl;have hs1:∀ k:Crv,∀ y∈[[LV.row (zrw [k.x,k.y,[k.d]])]],y.length=1:=λk y hy=>by rw [Qm.1 hy]; rfl
 refine Fq Tryz.func12 rfl ?_;refine go tt [.o 7 29 1] rfl trivial ?_;refine lp (S:=Nat) 4 (λL1 i=>(18,.v (.one (.int .i64 (i:Int))))::(7,.v (.one (.orow 3 1 none)))::L1) (λi=>[.blk 59 (Bv a),.blk 59 (Bv b),.blk 59 (Bv c),.row false 29 1 (zmt ((Ln a b c).take i))]) (λi=>3-i) (λi=>i<=3) 0 (by decide) rfl (λ_ _=>rfl) rfl λi hi=>?_
 rcases (show i=0\/i=1\/i=2\/i=3 by omega) with rfl | rfl | rfl | rfl
 ·exact go tt [.t rfl,.x x0,.c [] (Qb2 ha),.s (sz:=1) (hs1 a)] rfl (by simp [W3,zmt,Ln]) (rd 1 (by omega) (by omega) rfl)
 ·exact go tt [.t rfl,.x x1,.c [] (Qb2 hb),.s (sz:=1) (hs1 b)] rfl (by simp [W3,zmt,Ln]) (rd 2 (by omega) (by omega) rfl)
 ·exact go tt [.t rfl,.x x2,.c [] (Qb2 hc),.s (sz:=1) (hs1 c)] rfl (by simp [W3,zmt,Ln]) (rd 3 (by omega) (by omega) rfl)
 ·exact en tt [.f rfl,.c [] cd] rfl rfl trivial
end Orr
namespace Orq
section
variable {α:Type} (X Y:α->Rat)
def lx (a b:α):Prop:=X a<X b\/X a=X b/\Y a<Y b
def ori (a b c:α):Rat:=(X b-X a)*(Y c-Y a)-(X c-X a)*(Y b-Y a)
variable {X Y}
def Edg (Q:α->α->Prop):List α->Prop
 | a::b::r=>Q a b/\Edg Q (b::r)
 | _=>True
def Cnv (R:α->α->α->Prop):List α->Prop
 | a::b::c::r=>R a b c/\Cnv R (b::c::r)
 | _=>True
theorem Edg.tail {Q:α->α->Prop} {a:α} {l:List α} (h:Edg Q (a::l)):Edg Q l:=by
 cases l with
 | nil=>trivial
 | cons b l=>exact h.2
theorem Cnv.tail {R:α->α->α->Prop} {a:α} {l:List α} (h:Cnv R (a::l)):Cnv R l:=by
 match l,h with
 | [],_=>trivial
 | [_],_=>trivial
 | b::c::l,h=>exact h.2
theorem Edg.imp {Q Q':α->α->Prop}:∀ {l:List α},(∀ a∈l,∀ b∈l,Q a b->Q' a b)->Edg Q l->Edg Q' l
 | [],_,_=>trivial
 | [_],_,_=>trivial
 | a::b::l,hq,h=>⟨hq a (by simp) b (by simp) h.1,Edg.imp (l:=b::l) (λx hx y hy=>hq x (Qi _ hx) y (Qi _ hy)) h.2⟩
theorem Cnv.imp {R R':α->α->α->Prop}:∀ {l:List α},(∀ a∈l,∀ b∈l,∀ c∈l,R a b c->R' a b c)->Cnv R l->Cnv R' l
 | [],_,_=>trivial
 | [_],_,_=>trivial
 | [_,_],_,_=>trivial
 | a::b::c::l,hq,h=>⟨hq a (by simp) b (by simp) c (by simp) h.1,Cnv.imp (l:=b::c::l) (λx hx y hy z hz=>hq x (Qi _ hx) y (Qi _ hy) z (Qi _ hz)) h.2⟩
structure Stk (X Y:α->Rat) (P:List α) (st:List α):Prop where
 srt:st.Pairwise λb a=>lx X Y a b
 mem:∀ p∈st,p∈P
 edg:Edg (λb a=>∀ p∈P,0≤ori X Y a b p) st
 cnv:Cnv (λc b a=>0<ori X Y a b c) st
theorem Stk.tail {P:List α} {a:α} {st:List α} (h:Stk X Y P (a::st)):Stk X Y P st:=⟨(Z8.1 h.srt).2,λp hp=>h.mem p (Qi _ hp),h.edg.tail,h.cnv.tail⟩
end
end Orq
namespace Orr
open Go
end Orr
namespace Orq
open Orr Go
def Qs5 (sg:List Int->Int) (a b c:Pt):Ct:=⟨3,a.id,b.id,c.id,0,Nz a.c b.c c.c,Bj sg (Nz a.c b.c c.c)⟩
end Orq
namespace Orr
open Go Go.Proofs Orq
set_option maxRecDepth 10000
theorem Qys {a b c:Pt} {t:Tm} (ha:Sc a.c) (hb:Sc b.c) (hc:Sc c.c) (ht:Va t):W5 Tryz.prog 120 [.one (.int .i64 3),.agg (ta t),.one (.row [Gd a,Gd b,Gd c])] [.agg (Qdu (Qs5 (Pq t) a b c)),.one (.int .i64 0)]:=by
 have hp:=(Ql6 ha hb hc).dp;have e:Qdu (Qs5 (Pq t) a b c)=[.int .i64 3,.int .i64 a.id,.int .i64 b.id,.int .i64 c.id,.int .i64 0,pl (Nz a.c b.c c.c),.int .i64 (Bj (Pq t) (Nz a.c b.c c.c))]:=by rw [Qs5]
 rw [e];have cg:=Zgt hp ht;have cf:=Q5s ha hb hc;generalize Nz a.c b.c c.c=F at *;refine Fq Tryz.func120 rfl ?_;refine go tt [.c [] Q2o,.f rfl] rfl trivial ?_;refine lp (S:=Nat) 3 (λL1 i=>(22,.v (.one (.int .i64 (i:Int))))::L1) (λi=>[.blk 79 (ta t),.blk 99 zCt,.blk 99 [.int .i64 3,.int .i64 (if 1<=i then a.id else 0),.int .i64 (if 2<=i then b.id else 0),.int .i64 (if 3<=i then c.id else 0),.int .i64 0,.nils,.int .i64 0]]) (λi=>3-i) (λi=>i<=3) 0 (Qg _) rfl (λ_ _=>rfl) rfl λi hi=>?_
 rcases (show i=0\/i=1\/i=2\/i=3 by omega) with rfl | rfl | rfl | rfl
 ·refine go tt [.t rfl,.x (i:=0) (xs:=Gd a) rfl,.i 0] rfl (by simp [W3]) ?_;exact rd 1 (by omega) (by omega) rfl
 ·refine go tt [.t rfl,.x (i:=1) (xs:=Gd b) rfl,.i 1] rfl (by simp [W3]) ?_;exact rd 2 (by omega) (by omega) rfl
 ·refine go tt [.t rfl,.x (i:=2) (xs:=Gd c) rfl,.i 2] rfl (by simp [W3]) ?_;exact rd 3 (by omega) (by omega) rfl
 ·exact en tt [.f rfl,.f rfl,.f rfl,.t rfl,.x (i:=0) (xs:=Gd a) rfl,.x (i:=1) (xs:=Gd b) rfl,.x (i:=2) (xs:=Gd c) rfl,.c [] cf,.c [] cg] rfl rfl trivial
theorem Q11 {l:List Pt} (hl:∀ p∈l,Sc p.c):∀ p∈l,Quz 4294967294 1073741824 p:=λp hp=>⟨(hl p hp).n,(hl p hp).c.mono (by decide) (by decide)⟩
def Qk3 (a b:Crv):Bool:=decide ((Qk1 (Ee a.x a.d) (Ee b.x b.d)).length=0) && decide ((Qk1 (Ee a.y a.d) (Ee b.y b.d)).length=0)
theorem Zdg {a b:Crv} (ha:Rs a) (hb:Rs b):W5 Tryz.prog 50 [.agg (Bv a),.agg (Bv b)] [.one (.bool (Qk3 a b))]:=by
 have lx1:=ha.c.lx;have ly1:=ha.c.ly;have lx2:=hb.c.lx;have ly2:=hb.c.ly;have cx:=Q6m (p:=Ee a.x a.d) (q:=Ee b.x b.d) (Qcn (W4 ha.c.x (by decide)) (Qc ha.c.d (by decide)) (by decide)) (Qcn (W4 hb.c.x (by decide)) (Qc hb.c.d (by decide)) (by decide)) (by rw [Pg]; omega) (by rw [Pg]; omega);have cy:=Q6m (p:=Ee a.y a.d) (q:=Ee b.y b.d) (Qcn (W4 ha.c.y (by decide)) (Qc ha.c.d (by decide)) (by decide)) (Qcn (W4 hb.c.y (by decide)) (Qc hb.c.d (by decide)) (by decide)) (by rw [Pg]; omega) (by rw [Pg]; omega);unfold Qk3;generalize Qk1 (Ee a.x a.d) (Ee b.x b.d)=X at *;generalize Qk1 (Ee a.y a.d) (Ee b.y b.d)=Y at *;have hX:(frow X).length=X.length:=by simp [frow]
 have hY:(frow Y).length=Y.length:=by simp [frow]
 by_cases h:X.length=0
 ·by_cases h':Y.length=0
  ·rw [decide_eq_true h,decide_eq_true h'];exact w tt Tryz.func50 rfl [.c [] cx,.g 12 true (decide_eq_true (by omega)),.c [] cy,.g 19 true (decide_eq_true (by omega))] rfl rfl trivial
  ·rw [decide_eq_true h,decide_eq_false h'];exact w tt Tryz.func50 rfl [.c [] cx,.g 12 true (decide_eq_true (by omega)),.c [] cy,.g 19 false (decide_eq_false (by omega))] rfl rfl trivial
 ·rw [decide_eq_false h];exact w tt Tryz.func50 rfl [.c [] cx,.g 12 false (decide_eq_false (by omega))] rfl rfl trivial
def Qhh (out:List Pt) (p:Pt):List Pt:=if (out.any λo=>Qk3 o.c p.c)=true then out else out++[p]
def Qbu (l:List Pt):List Pt:=(Hu D5 l).foldl Qhh []
theorem Qeq:∀ (M O:List Pt),(∀ p∈M.foldl Qhh O,p∈O\/p∈M)/\(M.foldl Qhh O).length≤O.length+M.length
 | [],O=>⟨λp hp=>.inl hp,by simp⟩
 |
  x::M,O=>by
  obtain ⟨h1,h2⟩:=Qeq M (Qhh O x);have e1:(Qhh O x).length<=O.length+1:=by unfold Qhh; split <;> simp
  refine ⟨λp hp=>?_,by rw [Z4,Q6]; omega⟩;rcases h1 p hp with h | h
  ·unfold Qhh at h
   split at h
   ·exact .inl h
   ·rcases Qw.1 h with h | h
    ·exact .inl h
    ·exact .inr (by rw [Qm.1 h]; simp)
  ·exact .inr (Qi _ h)
theorem Q4o {l:List Pt} {p:Pt} (h:p∈Qbu l):p∈l:=by
 rcases (Qeq (Hu D5 l) []).1 p h with h | h
 ·cases h
 ·exact Ag.1 h
theorem Qn7 (l:List Pt):(Qbu l).length<=l.length:=by
 have:=(Qeq (Hu D5 l) []).2;rw [Nn,X2,Zz] at this;exact this
theorem Zbe {α:Type} {f:α->Bool} {l:List α} {i:Nat} {x:α} (h:l[i]? = some x):(l.take (i+1)).any f=((l.take i).any f || f x):=by
 rw [Z1,h,List.any_append]; simp
theorem Zdi {l:List Pt} (hl:∀ p∈l,Rs p.c) (hn:l.length≤1000):W5 Tryz.prog 9 [.one (.row (Uu l))] [.one (.row (Uu (Qbu l)))]:=by
 have c1:=Qy7 (l:=l) (by omega);have hML:(Hu D5 l).length=l.length:=Nn _ _;have hMl:∀ p∈Hu D5 l,Rs p.c:=λp hp=>hl p (Ag.1 hp)
 unfold Qbu;obtain ⟨M,hM⟩:=nmE (Hu D5 l);rw [<-hM] at c1 hML hMl ⊢;have hcl:=Ty M;refine Fq Tryz.func9 rfl ?_;refine go tt [.o 3 61 7,.c [] c1] rfl trivial ?_;refine lp (S:=Nat) 1 (λL1 i=>(11,.v (.one (.int .i64 (i:Int))))::(3,.v (.one (.orow 0 7 none)))::L1) (λi=>[.row false 61 7 (Uu ((M.take i).foldl Qhh []))]) (λi=>M.length-i) (λi=>i<=M.length) 0 (Qg _) rfl (λ_ _=>rfl) rfl λi hi=>?_
 by_cases hlt:i<M.length
 ·obtain ⟨p,hp⟩:=gxE (l:=M) (i:=i) hlt;have hpr:=hMl p (Qa hp);have hst:=He Qhh [] M hp;have hsub:=Qeq (M.take i) [];obtain ⟨O,hO⟩:=nmE ((M.take i).foldl Qhh []);rw [<-hO] at hst hsub ⊢;have hOl:O.length<=1000:=by have:=hsub.2; rw [X2,Qx] at this; omega
  have hOm:∀ o∈O,Rs o.c:=λo ho=>by
   rcases hsub.1 o ho with h | h
   ·cases h
   ·exact hMl o (Ql h)
  have hrl:=Ty O;refine go tt [.t (decide_eq_true (by omega))] rfl trivial ?_;refine lp (S:=Nat) 1 (λL1 k=>(16,.v (.one (.int .i64 (k:Int))))::(5,.v (.one (.bool ((O.take k).any λo=>Qk3 o.c p.c))))::L1) (λ_=>[.row false 61 7 (Uu O)]) (λk=>O.length-k) (λk=>k<=O.length) 0 (Qg _) rfl (λ_ _=>rfl) rfl λk hk=>?_
  by_cases hkl:k<O.length
  ·obtain ⟨o,ho⟩:=gxE (l:=O) (i:=k) hkl;have ha:=Zbe (f:=λo=>Qk3 o.c p.c) ho;cases hb:(O.take k).any λo=>Qk3 o.c p.c with
   |
    true =>
    rw [hb,Bool.true_or] at ha;refine go tt [.t (decide_eq_true (by omega)),.g 20 true rfl] rfl (by simp [W3] <;> omega) ?_;exact rd (k+1) (by omega) hkl (by rw [ha]; rfl)
   |
    false =>
    rw [hb,Bool.false_or] at ha;refine go tt [.t (decide_eq_true (by omega)),.g 20 false rfl,.i k,.x (H8 ho),.x (H8 hp),.c [] (Zdg (hOm o (Qa ho)) hpr)] rfl (by simp [W3] <;> omega) ?_;exact rd (k+1) (by omega) hkl (by rw [ha]; rfl)
  ·obtain rfl:k=O.length:=by omega
   rw [Q4];have h7z:∀ y∈[Bb p],y.length=7:=λy hy=>by rw [Qm.1 hy]; rfl
   cases hb:O.any λo=>Qk3 o.c p.c with
   |
    true =>
    have e:Qhh O p=O:=if_pos hb;refine go tt [.f (decide_eq_false (by omega)),.f rfl] rfl (by simp [W3] <;> omega) ?_;exact rd (i+1) (by omega) hlt (by rw [hst,e]; rfl)
   |
    false =>
    have e:Qhh O p=O++[p]:=if_neg (by rw [hb]; decide);refine go tt [.f (decide_eq_false (by omega)),.t rfl,.x (H8 hp),.s (sz:=7) h7z] rfl (by simp [W3] <;> omega) ?_;exact rd (i+1) (by omega) hlt (by rw [hst,e]; simp [Uu]; rfl)
 ·obtain rfl:i=M.length:=by omega
  rw [Q4];exact en tt [.f (decide_eq_false (by omega))] rfl rfl trivial

def Qcd (sg:List Int->Int) (a b c:Pt):Ct:=⟨3,a.id,b.id,c.id,0,Lm a.c b.c c.c,Bj sg (Lm a.c b.c c.c)⟩
theorem Q6r {a b u:Pt} {q:Rat} {c:List (List Int)} (ha:Rs a.c) (hb:Rs b.c) (hu:Rs u.c) (hq:Qs 1000000 q):W5 Tryz.prog 265 [.one (.int .i64 3),.agg (aq q c),.one (.row [Bb a,Bb b,Bb u])] [.agg (rct (Qcd (An q) a b u)),.one (.bool true)]:=by
 have x0:[Bb a,Bb b,Bb u][0]? = some (Bb a):=rfl;have x1:[Bb a,Bb b,Bb u][1]? = some (Bb b):=rfl;have x2:[Bb a,Bb b,Bb u][2]? = some (Bb u):=rfl;have cf:=Q2u ha hb hu;have hsz:=Qw2 ha hb hu;have cg:=Qrm (c:=c) (W4 hsz.1 (by decide)) (Qc hsz.2 (by decide)) hq;have e:rct (Qcd (An q) a b u)=[.int .i64 3,.int .i64 a.id,.int .i64 b.id,.int .i64 u.id,.int .i64 0,rp (zp (Lm a.c b.c u.c)),.int .i64 (Qjx (Lm a.c b.c u.c) q),.row [],.bool false]:=by simp only [Qcd,rct,Qjy]
 rw [e];generalize Lm a.c b.c u.c=F at *;refine Fq Tryz.func265 rfl ?_;refine go tt [.g 14 false rfl,.g 18 false rfl,.x (l:=[[.int .i64 0],[.int .i64 2],[.int .i64 2],[.int .i64 3],[.int .i64 4],[.int .i64 4]]) (i:=3) (xs:=[.int .i64 3]) rfl,.f rfl] rfl trivial ?_;refine lp (S:=Nat) 3 (λL1 i=>(33,.v (.one (.int .i64 (i:Int))))::L1) (λi=>[.blk 37 (aq q c),.blk 227 rzc,.blk 227 [.int .i64 3,.int .i64 (if 0<i then a.id else 0),.int .i64 (if 1<i then b.id else 0),.int .i64 (if 2<i then u.id else 0),.int .i64 0,.nils,.int .i64 0,.nils,.bool false]]) (λi=>3-i) (λi=>i<=3) 0 (by decide) rfl (λ_ _=>rfl) rfl λi hi=>?_
 rcases (show i=0\/i=1\/i=2\/i=3 by omega) with rfl | rfl | rfl | rfl
 ·exact go tt [.t rfl,.x x0,.i 0] rfl (by simp [W3]) (rd 1 (by omega) (by omega) rfl)
 ·exact go tt [.t rfl,.x x1,.i 1] rfl (by simp [W3]) (rd 2 (by omega) (by omega) rfl)
 ·exact go tt [.t rfl,.x x2,.i 2] rfl (by simp [W3]) (rd 3 (by omega) (by omega) rfl)
 exact en tt [.f rfl,.f rfl,.f rfl,.t rfl,.x x0,.x x1,.x x2,.c [] cf,.c [] cg] rfl rfl trivial
theorem Zdj {a b u:Pt} {q:Rat} {c:List (List Int)} (ha:Rs a.c) (hb:Rs b.c) (hu:Rs u.c) (hq:Qs 1000000 q):W5 Tryz.prog 232 [.one (.int .i64 3),.agg (aq q c),.one (.row [Bb a,Bb b,Bb u])] [.agg (rct (Qcd (An q) a b u))] :=
 w tt Tryz.func232 rfl [.c [] (Q6r ha hb hu hq)] rfl rfl trivial
def Qbk (k:Crv):List (List Int):=[Um k.x [k.d],Um k.y [k.d],D6 (Um k.x k.x) (Um k.y k.y),Um [k.d] [k.d]]
def Db (a b c d:Crv):List (List (List Int)):=[Qbk a,Qbk b,Qbk c,Qbk d]
def Qgk (a b c d:Crv):List Int:=Qc9 4 (Db a b c d)
theorem Qry {k:Crv} (hk:Rs k):(∀ p∈Qbk k,Bd 300000 p)/\∀ (j:Nat) (p:List Int),(Qbk k)[j]? = some p->p.length≤[15,15,30,0].getD j 0+1:=by
 have bd1:Bd 100000 [k.d]:=Zhw hk.c.d;have l1:=Hi k.x [k.d];have l2:=Hi k.y [k.d];have l3:=Hi k.x k.x;have l4:=Hi k.y k.y;have l5:=Hi [k.d] [k.d];have l6:=Oc (Um k.x k.x) (Um k.y k.y);have hx:=hk.c.lx;have hy:=hk.c.ly;have e1:[k.d].length=1:=rfl;have m1:Bd 200005 (Um k.x [k.d]):=Rf (u:=5) hk.c.x bd1 (by omega);have m2:Bd 200005 (Um k.y [k.d]):=Rf (u:=5) hk.c.y bd1 (by omega);have m3:Bd 200005 (Um k.x k.x):=Rf (u:=5) hk.c.x hk.c.x (by omega);have m4:Bd 200005 (Um k.y k.y):=Rf (u:=5) hk.c.y hk.c.y (by omega);have m5:Bd 200005 (Um [k.d] [k.d]):=Rf (u:=5) bd1 bd1 (by omega);refine ⟨λp hp=>?_,λj p hp=>?_⟩
 ·simp only [Qbk,Qo,Jz,or_false] at hp;rcases hp with rfl | rfl | rfl | rfl
  ·exact W4 m1 (by decide)
  ·exact W4 m2 (by decide)
  ·exact W4 (Qcy m3 m4) (by decide)
  ·exact W4 m5 (by decide)
 ·match j,hp with
  | 0,hp=>injection hp with hp; subst hp; show _<=16; omega
  | 1,hp=>injection hp with hp; subst hp; show _<=16; omega
  | 2,hp=>injection hp with hp; subst hp; show _<=31; omega
  | 3,hp=>injection hp with hp; subst hp; show _<=1; omega
  | j+4,hp=>simp [Qbk] at hp
theorem Ql7 {a b c d:Crv} (ha:Rs a) (hb:Rs b) (hc:Rs c) (hd:Rs d):SqR 300000 [15,15,30,0] (Db a b c d):=by
 have hr:∀ r∈Db a b c d,∃ k:Crv,Rs k/\r=Qbk k:=λr hr=>by
  simp only [Db,Qo,Jz,or_false] at hr;rcases hr with rfl | rfl | rfl | rfl
  ·exact ⟨a,ha,rfl⟩
  ·exact ⟨b,hb,rfl⟩
  ·exact ⟨c,hc,rfl⟩
  ·exact ⟨d,hd,rfl⟩
 refine ⟨rfl,λr h=>?_,λr h=>?_,λr h=>?_⟩
 all_goals obtain ⟨k,hk,rfl⟩:=hr r h
 ·rfl
 ·exact (Qry hk).1
 ·exact (Qry hk).2
theorem Q64 {a b c d:Crv} (ha:Rs a) (hb:Rs b) (hc:Rs c) (hd:Rs d):Bd 1300000 (Qgk a b c d)/\(Qgk a b c d).length<=61:=by
 rcases Qht 4 [15,15,30,0] (Db a b c d) rfl (by decide) (Ql7 ha hb hc hd) with h | h
 ·exact ⟨W4 h.1 (by decide),h.2.1⟩
 ·omega
theorem Zdb {a b c d:Crv} (ha:Rs a) (hb:Rs b) (hc:Rs c) (hd:Rs d):W5 Tryz.prog 13 [.agg (Bv a),.agg (Bv b),.agg (Bv c),.agg (Bv d)] [.one (rp (zp (Qgk a b c d)))]:=by
 have cd:=Qv2 (by decide) 4 [15,15,30,0] (Db a b c d) (by decide) rfl (by decide) (Ql7 ha hb hc hd);have x0:[Bv a,Bv b,Bv c,Bv d][0]? = some (Bv a):=rfl;have x1:[Bv a,Bv b,Bv c,Bv d][1]? = some (Bv b):=rfl;have x2:[Bv a,Bv b,Bv c,Bv d][2]? = some (Bv c):=rfl;have x3:[Bv a,Bv b,Bv c,Bv d][3]? = some (Bv d):=rfl;have hs1:∀ k:Crv,∀ y∈[[LV.row (zrw (Qbk k))]],y.length=1:=λk y hy=>by rw [Qm.1 hy]; rfl
 have bd1:∀ {k:Crv},Rs k->Bd 100000 [k.d]:=λhk=>Zhw hk.c.d
 have q1:=λ{k:Crv} (hk:Rs k)=>Qb1 (p:=k.x) (q:=k.x) (by have:=hk.c.lx; omega) (by have:=hk.c.lx; omega) hk.c.x hk.c.x (by decide)
 have q2:=λ{k:Crv} (hk:Rs k)=>Qb1 (p:=k.y) (q:=k.y) (by have:=hk.c.ly; omega) (by have:=hk.c.ly; omega) hk.c.y hk.c.y (by decide)
 have q3:=λ{k:Crv} (hk:Rs k)=>Qb1 (p:=k.x) (q:=[k.d]) (by have:=hk.c.lx; omega) (by show 1<=1000000; decide) hk.c.x (bd1 hk) (by decide)
 have q4:=λ{k:Crv} (hk:Rs k)=>Qb1 (p:=k.y) (q:=[k.d]) (by have:=hk.c.ly; omega) (by show 1<=1000000; decide) hk.c.y (bd1 hk) (by decide)
 have q5:=λ{k:Crv} (hk:Rs k)=>Qb1 (p:=[k.d]) (q:=[k.d]) (by show 1<=1000000; decide) (by show 1<=1000000; decide) (bd1 hk) (bd1 hk) (by decide)
 have q6:=λ{k:Crv} (hk:Rs k)=>Qos (p:=Um k.x k.x) (q:=Um k.y k.y) (W4 (Rf (u:=5) hk.c.x hk.c.x (by have:=hk.c.lx; omega)) (by decide)) (W4 (Rf (u:=5) hk.c.y hk.c.y (by have:=hk.c.ly; omega)) (by decide)) (by have:=Hi k.x k.x; have:=hk.c.lx; omega) (by have:=Hi k.y k.y; have:=hk.c.ly; omega)
 refine Fq Tryz.func13 rfl ?_;refine go tt [.o 9 29 1] rfl trivial ?_;refine lp (S:=Nat) 5 (λL1 i=>(22,.v (.one (.int .i64 (i:Int))))::(9,.v (.one (.orow 4 1 none)))::L1) (λi=>[.blk 59 (Bv a),.blk 59 (Bv b),.blk 59 (Bv c),.blk 59 (Bv d),.row false 29 1 (zmt ((Db a b c d).take i))]) (λi=>4-i) (λi=>i<=4) 0 (by decide) rfl (λ_ _=>rfl) rfl λi hi=>?_
 rcases (show i=0\/i=1\/i=2\/i=3\/i=4 by omega) with rfl | rfl | rfl | rfl | rfl
 ·exact go tt [.t rfl,.x x0,.c [] (Qb2 ha),.c [] (q1 ha),.c [] (q2 ha),.c [] (q6 ha),.c [] (q3 ha),.c [] (q4 ha),.c [] (q5 ha),.s (sz:=1) (hs1 a)] rfl (by simp [W3,zmt,Db]) (rd 1 (by omega) (by omega) rfl)
 ·exact go tt [.t rfl,.x x1,.c [] (Qb2 hb),.c [] (q1 hb),.c [] (q2 hb),.c [] (q6 hb),.c [] (q3 hb),.c [] (q4 hb),.c [] (q5 hb),.s (sz:=1) (hs1 b)] rfl (by simp [W3,zmt,Db]) (rd 2 (by omega) (by omega) rfl)
 ·exact go tt [.t rfl,.x x2,.c [] (Qb2 hc),.c [] (q1 hc),.c [] (q2 hc),.c [] (q6 hc),.c [] (q3 hc),.c [] (q4 hc),.c [] (q5 hc),.s (sz:=1) (hs1 c)] rfl (by simp [W3,zmt,Db]) (rd 3 (by omega) (by omega) rfl)
 ·exact go tt [.t rfl,.x x3,.c [] (Qb2 hd),.c [] (q1 hd),.c [] (q2 hd),.c [] (q6 hd),.c [] (q3 hd),.c [] (q4 hd),.c [] (q5 hd),.s (sz:=1) (hs1 d)] rfl (by simp [W3,zmt,Db]) (rd 4 (by omega) (by omega) rfl)
 ·exact en tt [.f rfl,.c [] cd] rfl rfl trivial
def Oh (sg:List Int->Int) (a b c d:Pt):Ct:=⟨4,a.id,b.id,c.id,d.id,Qgk a.c b.c c.c d.c,Bj sg (Qgk a.c b.c c.c d.c)⟩
theorem Q6s {a b u v:Pt} {q:Rat} {c:List (List Int)} (ha:Rs a.c) (hb:Rs b.c) (hu:Rs u.c) (hv:Rs v.c) (hq:Qs 1000000 q):W5 Tryz.prog 265 [.one (.int .i64 4),.agg (aq q c),.one (.row [Bb a,Bb b,Bb u,Bb v])] [.agg (rct (Oh (An q) a b u v)),.one (.bool true)]:=by
 have x0:[Bb a,Bb b,Bb u,Bb v][0]? = some (Bb a):=rfl;have x1:[Bb a,Bb b,Bb u,Bb v][1]? = some (Bb b):=rfl;have x2:[Bb a,Bb b,Bb u,Bb v][2]? = some (Bb u):=rfl;have x3:[Bb a,Bb b,Bb u,Bb v][3]? = some (Bb v):=rfl;have cf:=Zdb ha hb hu hv;have hsz:=Q64 ha hb hu hv;have cg:=Qrm (c:=c) (W4 hsz.1 (by decide)) (Qc hsz.2 (by decide)) hq;have e:rct (Oh (An q) a b u v)=[.int .i64 4,.int .i64 a.id,.int .i64 b.id,.int .i64 u.id,.int .i64 v.id,rp (zp (Qgk a.c b.c u.c v.c)),.int .i64 (Qjx (Qgk a.c b.c u.c v.c) q),.row [],.bool false]:=by simp only [Oh,rct,Qjy]
 rw [e];generalize Qgk a.c b.c u.c v.c=F at *;refine Fq Tryz.func265 rfl ?_;refine go tt [.g 14 false rfl,.g 18 false rfl,.x (l:=[[.int .i64 0],[.int .i64 2],[.int .i64 2],[.int .i64 3],[.int .i64 4],[.int .i64 4]]) (i:=4) (xs:=[.int .i64 4]) rfl,.f rfl] rfl trivial ?_;refine lp (S:=Nat) 3 (λL1 i=>(33,.v (.one (.int .i64 (i:Int))))::L1) (λi=>[.blk 37 (aq q c),.blk 227 rzc,.blk 227 [.int .i64 4,.int .i64 (if 0<i then a.id else 0),.int .i64 (if 1<i then b.id else 0),.int .i64 (if 2<i then u.id else 0),.int .i64 (if 3<i then v.id else 0),.nils,.int .i64 0,.nils,.bool false]]) (λi=>4-i) (λi=>i<=4) 0 (by decide) rfl (λ_ _=>rfl) rfl λi hi=>?_
 rcases (show i=0\/i=1\/i=2\/i=3\/i=4 by omega) with rfl | rfl | rfl | rfl | rfl
 ·exact go tt [.t rfl,.x x0,.i 0] rfl (by simp [W3]) (rd 1 (by omega) (by omega) rfl)
 ·exact go tt [.t rfl,.x x1,.i 1] rfl (by simp [W3]) (rd 2 (by omega) (by omega) rfl)
 ·exact go tt [.t rfl,.x x2,.i 2] rfl (by simp [W3]) (rd 3 (by omega) (by omega) rfl)
 ·exact go tt [.t rfl,.x x3,.i 3] rfl (by simp [W3]) (rd 4 (by omega) (by omega) rfl)
 exact en tt [.f rfl,.f rfl,.f rfl,.f rfl,.t rfl,.x x0,.x x1,.x x2,.x x3,.c [] cf,.c [] cg] rfl rfl trivial
theorem Zdk {a b u v:Pt} {q:Rat} {c:List (List Int)} (ha:Rs a.c) (hb:Rs b.c) (hu:Rs u.c) (hv:Rs v.c) (hq:Qs 1000000 q):W5 Tryz.prog 232 [.one (.int .i64 4),.agg (aq q c),.one (.row [Bb a,Bb b,Bb u,Bb v])] [.agg (rct (Oh (An q) a b u v))] :=
 w tt Tryz.func232 rfl [.c [] (Q6s ha hb hu hv hq)] rfl rfl trivial
variable (sg:List Int->Int)
def cK (W:List Pt) (x y z:Pt) (k n:Nat):List Ct:=Qcd sg x y z::((W.drop (k+1)).take n).map (Oh sg x y z)
def cJ (W:List Pt) (x y:Pt) (j:Nat):Nat->List Ct
 | 0=>[]
 | n+1=>cJ W x y j n++match W[j+1+n]? with | none=>[] | some z=>cK sg W x y z (j+1+n) (W.length-(j+1+n)-1)
def cI (W:List Pt) (x:Pt) (i:Nat):Nat->List Ct
 | 0=>[]
 | n+1=>cI W x i n++match W[i+1+n]? with | none=>[] | some y=>cJ sg W x y (i+1+n) (W.length-(i+1+n)-1)
def cW (W:List Pt):Nat->List Ct
 | 0=>[]
 | n+1=>cW W n++match W[n]? with | none=>[] | some x=>cI sg W x n (W.length-n-1)
variable {sg:List Int->Int}
theorem Q5b {W:List Pt} {x y z:Pt} {k n:Nat} (h:n<=5):(cK sg W x y z k n).length<=6:=by
 unfold cK;rw [Q6,Q7,Qx]; omega
theorem Zci {W:List Pt} {x y z v:Pt} {k n:Nat} (h:W[k+1+n]? = some v):cK sg W x y z k (n+1)=cK sg W x y z k n++[Oh sg x y z v]:=by
 unfold cK;rw [Yc,Z2,h];simp
theorem Zch {W:List Pt} {x y z:Pt} {j n:Nat} (h:W[j+1+n]? = some z):cJ sg W x y j (n+1)=cJ sg W x y j n++cK sg W x y z (j+1+n) (W.length-(j+1+n)-1):=by
 show cJ sg W x y j n++(match W[j+1+n]? with | none=>[] | some z=>cK sg W x y z (j+1+n) (W.length-(j+1+n)-1))=_;rw [h]
theorem Zcg {W:List Pt} {x y:Pt} {i n:Nat} (h:W[i+1+n]? = some y):cI sg W x i (n+1)=cI sg W x i n++cJ sg W x y (i+1+n) (W.length-(i+1+n)-1):=by
 show cI sg W x i n++(match W[i+1+n]? with | none=>[] | some y=>cJ sg W x y (i+1+n) (W.length-(i+1+n)-1))=_;rw [h]
theorem Zcj {W:List Pt} {x:Pt} {n:Nat} (h:W[n]? = some x):cW sg W (n+1)=cW sg W n++cI sg W x n (W.length-n-1):=by
 show cW sg W n++(match W[n]? with | none=>[] | some x=>cI sg W x n (W.length-n-1))=_;rw [h]
theorem Qvd {W:List Pt} {x y:Pt} {j:Nat} (hW:W.length<=6):∀ n,(cJ sg W x y j n).length<=n*6
 | 0=>Qn _
 |
  n+1=>by
  have ih:=Qvd (x:=x) (y:=y) (j:=j) hW n;unfold cJ;rw [Q5];cases h:W[j+1+n]? with
  | none=>show _+0<=_; omega
  |
   some z =>
   have hk:=Q5b (sg:=sg) (W:=W) (x:=x) (y:=y) (z:=z) (k:=j+1+n) (n:=W.length-(j+1+n)-1) (by omega);dsimp only; omega
theorem Qvc {W:List Pt} {x:Pt} {i:Nat} (hW:W.length<=6):∀ n,(cI sg W x i n).length<=n*36
 | 0=>Qn _
 |
  n+1=>by
  have ih:=Qvc (x:=x) (i:=i) hW n;unfold cI;rw [Q5];cases h:W[i+1+n]? with
  | none=>show _+0<=_; omega
  |
   some y =>
   have hk:=Qvd (sg:=sg) (x:=x) (y:=y) (j:=i+1+n) hW (W.length-(i+1+n)-1);dsimp only; omega
theorem Qof {W:List Pt} (hW:W.length<=6):∀ n,(cW sg W n).length<=n*216
 | 0=>Qn _
 |
  n+1=>by
  have ih:=Qof hW n;unfold cW;rw [Q5];cases h:W[n]? with
  | none=>show _+0<=_; omega
  |
   some x =>
   have hk:=Qvc (sg:=sg) (x:=x) (i:=n) hW (W.length-n-1);dsimp only; omega
def Qea (q:Rat) (l:List Pt):List Ct:=Hu M7 (cW (An q) (Qbu l) (Qbu l).length)
theorem Q35 (q:Rat) {l:List Pt} (hn:l.length<=6):(Qea q l).length<=1000000:=by
 have hw:=Qn7 l;have h:=Qof (sg:=An q) (W:=Qbu l) (by omega) (Qbu l).length;unfold Qea;rw [Nn]; omega
set_option maxHeartbeats 8000000 in
theorem Qot {l:List Pt} {q:Rat} {cs:List (List Int)} (hl:∀ p∈l,Rs p.c) (hn:l.length≤6) (hq:Qs 1000000 q):W5 Tryz.prog 195 [.one (.row (Uu l)),.agg (aq q cs)] [.one (.row (Fw (Qea q l)))]:=by
 have c1:=Zdi hl (by omega);have hw:=Qn7 l;have hW:∀ p∈Qbu l,Rs p.c:=λp hp=>hl p (Q4o hp)
 unfold Qea;obtain ⟨W,hWe⟩:=nmE (Qbu l);rw [<-hWe] at c1 hw hW ⊢;have hW6:W.length<=6:=by omega
 have hwl:=Qof (sg:=An q) hW6 W.length;have c9:=Zdh (l:=cW (An q) W W.length) (by omega);have hrl:=Ty W;refine Fq Tryz.func195 rfl ?_;refine go tt [.c [] c1,.o 6 227 9] rfl trivial ?_;refine lp (S:=Nat) 2 (λL1 i=>(15,.v (.one (.int .i64 (i:Int))))::(6,.v (.one (.orow 1 9 none)))::L1) (λi=>[.blk 37 (aq q cs),.row false 227 9 (Fw (cW (An q) W i))]) (λi=>W.length-i) (λi=>i<=W.length) 0 (Qg _) rfl (λ_ _=>rfl) rfl λi hi=>?_
 by_cases hlt:i<W.length
 ·obtain ⟨x,hx⟩:=gxE (l:=W) (i:=i) hlt;have sx:=hW x (Qa hx);have hnx:=Zcj (sg:=An q) hx;have hl1:=Qof (sg:=An q) hW6 i;obtain ⟨F,hF⟩:=nmE (cW (An q) W i);rw [<-hF] at hnx hl1 ⊢;refine go tt [.t (decide_eq_true (by omega)),.r 19 (eI (b:=((i+1+0:Nat):Int)) (by simp))] rfl (by simp [W3] <;> omega) ?_;rw [show Fw F=Fw (F++cI (An q) W x i 0) by simp [cI]];refine lp (S:=Nat) 2 (λL1 n=>(8,.v (.one (.int .i64 ((i+1+n:Nat):Int))))::(6,.v (.one (.orow 1 9 none)))::L1) (λn=>[.blk 37 (aq q cs),.row false 227 9 (Fw (F++cI (An q) W x i n))]) (λn=>W.length-i-n) (λn=>n<=W.length-i-1) 0 (Qg _) rfl (λ_ _=>rfl) rfl λn hnn=>?_
  by_cases hlj:i+1+n<W.length
  ·obtain ⟨y,hy⟩:=gxE (l:=W) (i:=i+1+n) hlj;have sy:=hW y (Qa hy);have hnx2:=Zcg (sg:=An q) (x:=x) hy;have hl2:=Qvc (sg:=An q) (x:=x) (i:=i) hW6 n;obtain ⟨G,hG⟩:=nmE (F++cI (An q) W x i n);have hGl:G.length<=1296+216:=by rw [hG,Q5]; omega
   have hnx3:F++cI (An q) W x i (n+1)=G++cJ (An q) W x y (i+1+n) (W.length-(i+1+n)-1):=by rw [hnx2,hG,Ze]
   rw [<-hG];obtain ⟨j,hj⟩:=nmE (i+1+n);rw [<-hj] at hlj hy hnx3 ⊢;refine go tt [.t (decide_eq_true (by omega)),.r 27 (eI (b:=((j+1+0:Nat):Int)) (by simp))] rfl (by simp [W3] <;> omega) ?_;rw [show Fw G=Fw (G++cJ (An q) W x y j 0) by simp [cJ]];refine lp (S:=Nat) 2 (λL1 m=>(9,.v (.one (.int .i64 ((j+1+m:Nat):Int))))::(6,.v (.one (.orow 1 9 none)))::L1) (λm=>[.blk 37 (aq q cs),.row false 227 9 (Fw (G++cJ (An q) W x y j m))]) (λm=>W.length-j-m) (λm=>m<=W.length-j-1) 0 (Qg _) rfl (λ_ _=>rfl) rfl λm hm=>?_
   by_cases hlk:j+1+m<W.length
   ·obtain ⟨z,hz⟩:=gxE (l:=W) (i:=j+1+m) hlk;have sz:=hW z (Qa hz);have hnx4:=Zch (sg:=An q) (x:=x) (y:=y) hz;have hl3:=Qvd (sg:=An q) (x:=x) (y:=y) (j:=j) hW6 m;obtain ⟨H,hH⟩:=nmE (G++cJ (An q) W x y j m);have hHl:H.length<=1296+216+36:=by rw [hH,Q5]; omega
    have hnx5:G++cJ (An q) W x y j (m+1)=H++cK (An q) W x y z (j+1+m) (W.length-(j+1+m)-1):=by rw [hnx4,hH,Ze]
    rw [<-hH];obtain ⟨k,hk⟩:=nmE (j+1+m);rw [<-hk] at hlk hz hnx5 ⊢;have hrH:=Du H;have h9:∀ v∈[rct (Qcd (An q) x y z)],v.length=9:=λv hv=>by rw [Qm.1 hv]; rfl
    refine go tt [.t (decide_eq_true (by omega)),.x (H8 hx),.x (H8 hy),.x (H8 hz),.c [] (Zdj sx sy sz hq),.s (sz:=9) h9,.r 53 (eI (b:=((k+1+0:Nat):Int)) (by simp))] rfl (by simp [W3,hrH] <;> omega) ?_;have h0:Fw (H++cK (An q) W x y z k 0)=Fw H++[rct (Qcd (An q) x y z)]:=by simp [cK,Fw]
    refine lp (S:=Nat) 2 (λL1 p=>(10,.v (.one (.int .i64 ((k+1+p:Nat):Int))))::(6,.v (.one (.orow 1 9 none)))::L1.filter λe => !Nat.beq e.1 51) (λp=>[.blk 37 (aq q cs),.row false 227 9 (Fw (H++cK (An q) W x y z k p))]) (λp=>W.length-k-p) (λp=>p<=W.length-k-1) 0 (Qg _) rfl (λ_ _=>rfl) (by rw [h0]; rfl) λp hp=>?_
    by_cases hlm:k+1+p<W.length
    ·obtain ⟨v,hv⟩:=gxE (l:=W) (i:=k+1+p) hlm;have sv:=hW v (Qa hv);have hnx6:=Zci (sg:=An q) (x:=x) (y:=y) (z:=z) hv;have hl4:=Q5b (sg:=An q) (W:=W) (x:=x) (y:=y) (z:=z) (k:=k) (n:=p) (by omega);have hrK:=Du (H++cK (An q) W x y z k p);rw [Q5] at hrK;have h9v:∀ w∈[rct (Oh (An q) x y z v)],w.length=9:=λw hw=>by rw [Qm.1 hw]; rfl
     have e3:Fw (H++cK (An q) W x y z k (p+1))=Fw (H++cK (An q) W x y z k p)++[rct (Oh (An q) x y z v)]:=by rw [hnx6]; simp [Fw]
     refine go tt [.t (decide_eq_true (by omega)),.x (H8 hx),.x (H8 hy),.x (H8 hz),.x (H8 hv),.c [] (Zdk sx sy sz sv hq),.s (sz:=9) h9v,.r 59 (eI (b:=((k+1+(p+1):Nat):Int)) (by simp <;> omega))] rfl (by simp [W3,hrK] <;> omega) ?_;exact rd (p+1) (by omega) (by omega) (by rw [e3]; rfl)
    ·obtain rfl:p=W.length-k-1:=by omega
     rw [<-hnx5];refine go tt [.f (decide_eq_false (by omega)),.r 33 (eI (b:=((j+1+(m+1):Nat):Int)) (by simp <;> omega))] rfl (by simp [W3] <;> omega) ?_;exact rd (m+1) (by omega) (by omega) rfl
   ·obtain rfl:m=W.length-j-1:=by omega
    rw [<-hnx3];refine go tt [.f (decide_eq_false (by omega)),.r 25 (eI (b:=((i+1+(n+1):Nat):Int)) (by simp <;> omega))] rfl (by simp [W3] <;> omega) ?_;exact rd (n+1) (by omega) (by omega) rfl
  ·obtain rfl:n=W.length-i-1:=by omega
   rw [<-hnx];refine go tt [.f (decide_eq_false (by omega))] rfl (by simp [W3] <;> omega) ?_;exact rd (i+1) (by omega) hlt rfl
 ·obtain rfl:i=W.length:=by omega
  exact en tt [.f (decide_eq_false (by omega)),.c [] c9] rfl rfl (by simp [W3] <;> omega)
theorem Q2t {l:List Pt} {q:Rat} {cs:List (List Int)} (hl:∀ p∈l,Rs p.c) (hn:l.length≤6) (hq:Qs 1000000 q):W5 Tryz.prog 153 [.one (.int .i64 4),.one (.row (Uu l)),.agg (aq q cs)] [.one (.row (Fw (Qea q l)))] :=
 w tt Tryz.func153 rfl [.f rfl,.f rfl,.f rfl,.f rfl,.c [] (Qot hl hn hq)] rfl rfl trivial
theorem Qve {l:List Pt} {q:Rat} {cs:List (List Int)} (hl:∀ p∈l,Rs p.c) (hn:l.length≤6) (hq:Qs 1000000 q):W5 Tryz.prog 95 [.one (.int .i64 4),.one (.row (Uu l)),.agg (aq q cs)] [.one (.row (Fw (Qea q l)))] :=
 w tt Tryz.func95 rfl [.c [] (Q2t hl hn hq)] rfl rfl trivial
end Orr
namespace Orq
open Orr Go
def Ij (a:Crv):List (List Int):=[Ux a.x a.d,Ux a.y a.d,D6 (Um a.x a.x) (Um a.y a.y),[a.d*a.d]]
def Qrz (a b c d:Crv):List (List (List Int)):=[Ij a,Ij b,Ij c,Ij d]
def Qbn (a b c d:Crv):List Int:=Qcj 4 (Qrz a b c d)
theorem Qdv {s:Nat} {k:Crv} (hn:Nml k) (hc:Cs s 3 k):(∀ p∈Ij k,W9 p/\Bd (s+s+3) p)/\∀ (j:Nat) (p:List Int),(Ij k)[j]? = some p->p.length≤[2,2,4,0].getD j 0+1:=by
 have l1:=Pk k.x k.d;have l2:=Pk k.y k.d;have l3:=Hi k.x k.x;have l4:=Hi k.y k.y;have l5:=Oc (Um k.x k.x) (Um k.y k.y);have kx:=hc.lx;have ky:=hc.ly;have bx:Bd (s+s+2) (Um k.x k.x):=Rf hc.x hc.x (by omega);have by_:Bd (s+s+2) (Um k.y k.y):=Rf hc.y hc.y (by omega);have hd:=hn.2.2.1;have hd0:k.d*k.d≠0:=λe=>by rcases J6.1 e with e | e <;> omega
 have td:W9 [k.d*k.d]:=by unfold W9; simp [trim,hd0]
 refine ⟨λp hp=>?_,λj p hp=>?_⟩
 ·simp only [Ij,Qo,Jz,or_false] at hp;rcases hp with rfl | rfl | rfl | rfl
  ·exact ⟨Ut _ _,W4 (Nf hc.x hc.d) (by omega)⟩
  ·exact ⟨Ut _ _,W4 (Nf hc.y hc.d) (by omega)⟩
  ·exact ⟨Ut _ _,W4 (Qcy bx by_) (by omega)⟩
  ·refine ⟨td,λz hz=>?_⟩;rw [Qm.1 hz];have:=Ur k.d k.d; have:=hc.d; omega
 ·match j,hp with
  | 0,hp=>injection hp with hp; subst hp; show _<=3; omega
  | 1,hp=>injection hp with hp; subst hp; show _<=3; omega
  | 2,hp=>injection hp with hp; subst hp; show _<=5; omega
  | 3,hp=>injection hp with hp; subst hp; exact Qn _
  | j+4,hp=>simp [Ij] at hp
theorem Qud {s:Nat} {a b c d:Crv} (na:Nml a) (nb:Nml b) (nc:Nml c) (nd:Nml d) (ca:Cs s 3 a) (cb:Cs s 3 b) (cc:Cs s 3 c) (cd:Cs s 3 d):Sq (s+s+3) [2,2,4,0] 4 4 (Qrz a b c d):=by
 have hr:∀ r∈Qrz a b c d,∃ k:Crv,Nml k/\Cs s 3 k/\r=Ij k:=λr hr=>by
  simp only [Qrz,Qo,Jz,or_false] at hr;rcases hr with rfl | rfl | rfl | rfl
  ·exact ⟨a,na,ca,rfl⟩
  ·exact ⟨b,nb,cb,rfl⟩
  ·exact ⟨c,nc,cc,rfl⟩
  ·exact ⟨d,nd,cd,rfl⟩
 refine ⟨rfl,λr h=>?_,λr h p hp=>?_,λr h p hp=>?_,λr h j p hp=>?_⟩
 all_goals obtain ⟨k,kn,kc,rfl⟩:=hr r h
 ·rfl
 ·exact ((Qdv kn kc).1 p hp).1
 ·exact ((Qdv kn kc).1 p hp).2
 ·exact (Qdv kn kc).2 j p hp
theorem Qzj {a b c d:Crv} (ha:Sc a) (hb:Sc b) (hc:Sc c) (hd:Sc d):Cp (Qbn a b c d):=by
 obtain ⟨h1,h2,h3⟩:=Qh7 4 [2,2,4,0] (Qrz a b c d) (by decide) rfl (by decide) (Qud ha.n hb.n hc.n hd.n ha.c hb.c hc.c hd.c);exact ⟨h1,Qc h3 (by decide),W4 h2 (by decide)⟩
def Qkf (sg:List Int->Int) (a b c d:Pt):Ct:=⟨4,a.id,b.id,c.id,d.id,Qbn a.c b.c c.c d.c,Bj sg (Qbn a.c b.c c.c d.c)⟩
abbrev P3:=Pt×(Pt×Pt)
abbrev P4:=Pt×P3
def Pv:Nat->List Pt->List P3
 | 0,_=>[]
 | _+1,[]=>[]
 | k+1,x::l=>(Cj l).map (λm=>(x,m))++Pv k l
def Gm (l:List Pt):List P3:=Pv l.length l
def M4:Nat->List Pt->List P4
 | 0,_=>[]
 | _+1,[]=>[]
 | k+1,x::l=>(Gm l).map (λm=>(x,m))++M4 k l
def Dt (l:List Pt):List P4:=M4 l.length l
theorem Qa8:∀ (l:List Pt) (i:Nat) (x:Pt),l[i]? = some x->Pv (i+1) l=Pv i l++(Cj (l.drop (i+1))).map (λm=>(x,m))
 | [],i,x,h=>by simp at h
 | y::l,0,x,h=>by simp at h; subst h; simp [Pv]
 |
  y::l,i+1,x,h=>by
  have ih:=Qa8 l i x (by simpa using h);show (Cj l).map _++Pv (i+1) l=((Cj l).map _++Pv i l)++_;rw [ih,Ze]; rfl
theorem Qf3:∀ (l:List Pt) (i:Nat) (x:Pt),l[i]? = some x->M4 (i+1) l=M4 i l++(Gm (l.drop (i+1))).map (λm=>(x,m))
 | [],i,x,h=>by simp at h
 | y::l,0,x,h=>by simp at h; subst h; simp [M4]
 |
  y::l,i+1,x,h=>by
  have ih:=Qf3 l i x (by simpa using h);show (Gm l).map _++M4 (i+1) l=((Gm l).map _++M4 i l)++_;rw [ih,Ze]; rfl
theorem Qlb:∀ (k:Nat) (l:List Pt),∀ m∈Pv k l,m.1∈l/\m.2.1∈l/\m.2.2∈l
 | 0,l,m,h=>by simp [Pv] at h
 | k+1,[],m,h=>by simp [Pv] at h
 |
  k+1,x::l,m,h=>by
  rcases Qw.1 h with h | h
  ·obtain ⟨y,hy,rfl⟩:=Zd.1 h;obtain ⟨h1,h2⟩:=Qkj _ _ y hy;exact ⟨Qr ..,Qi _ h1,Qi _ h2⟩
  ·obtain ⟨h1,h2,h3⟩:=Qlb k l m h;exact ⟨Qi _ h1,Qi _ h2,Qi _ h3⟩
theorem Qt0:∀ (k:Nat) (l:List Pt),∀ m∈M4 k l,m.1∈l/\m.2.1∈l/\m.2.2.1∈l/\m.2.2.2∈l
 | 0,l,m,h=>by simp [M4] at h
 | k+1,[],m,h=>by simp [M4] at h
 |
  k+1,x::l,m,h=>by
  rcases Qw.1 h with h | h
  ·obtain ⟨y,hy,rfl⟩:=Zd.1 h;obtain ⟨h1,h2,h3⟩:=Qlb _ _ y hy;exact ⟨Qr ..,Qi _ h1,Qi _ h2,Qi _ h3⟩
  ·obtain ⟨h1,h2,h3,h4⟩:=Qt0 k l m h;exact ⟨Qi _ h1,Qi _ h2,Qi _ h3,Qi _ h4⟩
theorem Ic {l:List Pt} (h:l.length<=6):(Gm l).length<=20/\(Dt l).length<=15:=by
 match l,h with
 | [],_=>exact ⟨Zc rfl,Zc rfl⟩
 | [_],_=>exact ⟨Zc rfl,Zc rfl⟩
 | [_,_],_=>exact ⟨Zc rfl,Zc rfl⟩
 | [_,_,_],_=>exact ⟨Zc rfl,Zc rfl⟩
 | [_,_,_,_],_=>exact ⟨Zc rfl,Zc rfl⟩
 | [_,_,_,_,_],_=>exact ⟨Zc rfl,Zc rfl⟩
 | [_,_,_,_,_,_],_=>exact ⟨Zc rfl,Zc rfl⟩
 | _::_::_::_::_::_::_::_,h=>simp at h
abbrev Ph:=List (List Int×LV)
def Om (sg:List Int->Int) (m:P3):Ct:=Qs5 sg m.1 m.2.1 m.2.2
def Aw (sg:List Int->Int) (m:P4):Ct:=Qkf sg m.1 m.2.1 m.2.2.1 m.2.2.2
def Qls (m:P3):List Int:=[m.1.id,m.2.1.id,m.2.2.id]
def Zlx (m:P4):List Int:=[m.1.id,m.2.1.id,m.2.2.1.id,m.2.2.2.id]
def Ls (V:List (List Int×Int)):Ph:=V.foldl (λM e=>B5 M e.1 (.int .i64 e.2)) []
def Qac (sg:List Int->Int) (ps:List P3):List (List Int×Int):=ps.map λm=>(Qls m,(Om sg m).want)
def Af (sg:List Int->Int) (ps:List P4):List (List Int×Int):=ps.map λm=>(Zlx m,(Aw sg m).want)
theorem Qle (sg:List Int->Int) (ps:List P3) (m:P3):Ls (Qac sg (ps++[m]))=B5 (Ls (Qac sg ps)) (Qls m) (.int .i64 (Om sg m).want):=by simp [Ls,Qac]
def Ep (T:Ph) (s:Int) (n:List Int) (F:Ph) (skip:Nat):Ph:=if A4 T (n.eraseIdx skip)*(if (3-skip) % 2=1 then -s else s)>0 then B5 F (n.eraseIdx skip) (.bool true) else F
def Qmj (T:Ph) (s:Int) (n:List Int) (F:Ph):Ph:=Ep T s n (Ep T s n (Ep T s n (Ep T s n F 0) 1) 2) 3
def Bi (T:Ph) (V:List (List Int×Int)):Ph:=V.foldl (λF e=>Qmj T e.2 e.1 F) []
theorem Qju (sg:List Int->Int) (T:Ph) (ps:List P4) (m:P4):Bi T (Af sg (ps++[m]))=Qmj T (Aw sg m).want (Zlx m) (Bi T (Af sg ps)):=by simp [Bi,Af]
def isT (T F:Ph) (m:P3):Bool:=decide (A4 T (Qls m)≠0) && !(Qcz F (Qls m))
theorem Q7v {T F:Ph} {ps:List P3} {m:P3} (h:isT T F m=true):(ps++[m]).filter (isT T F)=ps.filter (isT T F)++[m]:=by simp [List.filter_append,h]
theorem Qo8 {T F:Ph} {ps:List P3} {m:P3} (h:isT T F m=false):(ps++[m]).filter (isT T F)=ps.filter (isT T F):=by simp [List.filter_append,h]
def Qm7 (sg:List Int->Int) (l:List Pt):List Ct:=(Gm (D3 l)).map (Om sg)++(Dt (D3 l)).map (Aw sg)
def M9 (sg:List Int->Int) (l:List Pt):List P3:=(Gm (D3 l)).filter (isT (Ls (Qac sg (Gm (D3 l)))) (Bi (Ls (Qac sg (Gm (D3 l)))) (Af sg (Dt (D3 l)))))
abbrev trL (m:P3):List LV:=[.int .i64 m.1.id,.int .i64 m.2.1.id,.int .i64 m.2.2.id]
def M5 (l:List P3):List (List LV):=l.map trL
theorem Ak (l:List P3):(M5 l).length=l.length:=by simp [M5]
theorem Qld {l:List P3} {i:Nat} {m:P3} (h:l[i]? = some m):(M5 l)[i]? = some (trL m):=Fb h
theorem Q3o (sg:List Int->Int) {l:List Pt} (h:l.length<=6):(M9 sg l).length<=20:=by
 have hw:=Qag l;exact Qc (Vg _ _) (Ic (l:=D3 l) (by omega)).1
theorem Q3n (sg:List Int->Int) {l:List Pt} (h:l.length<=6):(Qm7 sg l).length<=35:=by
 have hw:=Qag l;obtain ⟨h1,h2⟩:=Ic (l:=D3 l) (by omega);unfold Qm7;rw [Q5,Q7,Q7]; omega
def bcD (l:List Pt) (a:Tm):List Ct:=Qm7 (Pq a) l
abbrev brD (l:List Pt) (a:Tm):List (List LV):=M5 (M9 (Pq a) l)
def Q17 (l:List Pt):List (List Int):=(Gm (D3 l)).map (λm=>Nz m.1.c m.2.1.c m.2.2.c)++(Dt (D3 l)).map λm=>Qbn m.1.c m.2.1.c m.2.2.1.c m.2.2.2.c
theorem Qob {l:List Pt} (hl:∀ p∈l,Sc p.c):∀ p∈Q17 l,Cp p:=λp hp=>by
 have hw:=λ(x:Pt) (h:x∈D3 l)=>hl x (Qlg h)
 rcases Qw.1 hp with hp | hp
 ·obtain ⟨m,hm,rfl⟩:=Zd.1 hp;obtain ⟨h1,h2,h3⟩:=Qlb _ _ m hm;exact Ql6 (hw _ h1) (hw _ h2) (hw _ h3)
 ·obtain ⟨m,hm,rfl⟩:=Zd.1 hp;obtain ⟨h1,h2,h3,h4⟩:=Qt0 _ _ m hm;exact Qzj (hw _ h1) (hw _ h2) (hw _ h3) (hw _ h4)
theorem Qod {l:List Pt} {a:Tm}:∀ x∈bcD l a,x.p∈Q17 l:=λx hx=>by
 rcases Qw.1 hx with hx | hx
 ·obtain ⟨m,hm,rfl⟩:=Zd.1 hx;exact Kq _ (Zd.2 ⟨m,hm,rfl⟩)
 ·obtain ⟨m,hm,rfl⟩:=Zd.1 hx;exact Kg _ (Zd.2 ⟨m,hm,rfl⟩)
theorem Q42 {l:List Pt} (h:l.length<=6):(Q17 l).length<=1000000:=by
 have hw:=Qag l;obtain ⟨h1,h2⟩:=Ic (l:=D3 l) (by omega);unfold Q17;rw [Q5,Q7,Q7]; omega
theorem Qu4 {l:List Pt} (hl:∀ p∈l,Sc p.c) (hn:l.length≤6):BuildOk (bcD l) :=
 ⟨λ_ _ x hx=>Qob hl _ (Qod x hx),λa _=>Qc (Q3n _ hn) (by decide)⟩
theorem Zmi {l:List Pt} (hl:∀ p∈l,Sc p.c) (hn:l.length≤6):Stab (bcD l) (brD l):=by
 refine ⟨Qu4 hl hn,⟨Q17 l,Qob hl,λa _=>Qod⟩,λa b _ _ h=>?_⟩;have e1:∀ m∈Gm (D3 l),Om (Pq b) m=Om (Pq a) m:=λm hm=>by
  have:=h (Om (Pq a) m) (Kq _ (Zd.2 ⟨m,hm,rfl⟩));have e:Bj (Pq b) (Nz m.1.c m.2.1.c m.2.2.c)=Bj (Pq a) (Nz m.1.c m.2.1.c m.2.2.c):=this;unfold Om Qs5; rw [e]
 have e2:∀ m∈Dt (D3 l),Aw (Pq b) m=Aw (Pq a) m:=λm hm=>by
  have:=h (Aw (Pq a) m) (Kg _ (Zd.2 ⟨m,hm,rfl⟩));have e:Bj (Pq b) (Qbn m.1.c m.2.1.c m.2.2.1.c m.2.2.2.c)=Bj (Pq a) (Qbn m.1.c m.2.1.c m.2.2.1.c m.2.2.2.c):=this;unfold Aw Qkf; rw [e]
 have t1:Qac (Pq b) (Gm (D3 l))=Qac (Pq a) (Gm (D3 l)):=Jg λm hm=>by rw [e1 m hm]
 have t2:Af (Pq b) (Dt (D3 l))=Af (Pq a) (Dt (D3 l)):=Jg λm hm=>by rw [e2 m hm]
 constructor
 ·unfold bcD Qm7;rw [Jg e1,Jg e2]
 ·unfold brD M9;rw [t1,t2]
def Q5a (l:List Pt) (a:Tm):Cr:=⟨a,(Ge (bcD l a)).map fresh,0⟩
def Qn9 (M:Ph):Prop:=∀ k,(Di M k).getD (.int .i64 0)=.int .i64 (A4 M k)/\-1<=A4 M k/\A4 M k<=1
def Qbh (M:Ph):Prop:=∀ k,(Di M k).getD (.bool false)=.bool (Qcz M k)
theorem Qmx (M:Ph) (k:List Int) (x:LV) (k':List Int):Di (B5 M k x) k'=if k'=k then some x else Di M k':=by
 induction M with
 | nil=>simp [B5,Di]
 |
  cons e M ih =>
  simp only [B5];by_cases h:k=e.1
  ·rw [if_pos h];simp only [Di];by_cases h2:k'=k
   ·rw [if_pos h2,if_pos h2]
   ·rw [if_neg h2,if_neg h2,if_neg (λe2=>h2 (e2.trans h.symm))]
  ·rw [if_neg h];simp only [Di];by_cases h2:k'=e.1
   ·rw [if_pos h2,if_pos h2,if_neg (λe2=>h (e2.symm.trans h2))]
   ·rw [if_neg h2,if_neg h2,ih]
theorem Q8j:Qn9 []:=λ_=>⟨rfl,show (-1:Int)<=0 by decide,show (0:Int)<=1 by decide⟩
theorem Q2b:Qbh []:=λ_=>rfl
theorem Q8k {M:Ph} (h:Qn9 M) {k:List Int} {n:Int} (hn:-1<=n/\n<=1):Qn9 (B5 M k (.int .i64 n)):=by
 intro k';have h1:=h k';unfold A4 at h1 ⊢;rw [Qmx];by_cases e:k'=k
 ·rw [if_pos e]; exact ⟨rfl,hn.1,hn.2⟩
 ·rw [if_neg e]; exact h1
theorem Q2c {M:Ph} (h:Qbh M) {k:List Int} {b:Bool}:Qbh (B5 M k (.bool b)):=by
 intro k';have h1:=h k';unfold Qcz at h1 ⊢;rw [Qmx];by_cases e:k'=k
 ·rw [if_pos e]; rfl
 ·rw [if_neg e]; exact h1
theorem D8 {T F:Ph} {s:Int} {n:List Int} {k:Nat} (h:Qbh F):Qbh (Ep T s n F k):=by
 unfold Ep;generalize (if (3-k) % 2=1 then -s else s)=s'
 split
 ·exact Q2c h
 ·exact h
theorem Qva {T F:Ph} {s:Int} {n:List Int} (h:Qbh F):Qbh (Qmj T s n F):=D8 (D8 (D8 (D8 h)))
theorem Q3r {x s:Int} (hx:-1<=x/\x<=1) (hs:-1<=s/\s<=1):-9223372036854775808<=x*s/\x*s<=9223372036854775807:=by
 have h:x=-1\/x=0\/x=1:=by omega
 rcases h with rfl | rfl | rfl <;> omega
def p3j (W:List Pt) (x:Pt) (i j:Nat):List P3:=Pv i W++(Tt j (W.drop (i+1))).map (λm=>(x,m))
def p3k (W:List Pt) (x y:Pt) (i j k:Nat):List P3:=Pv i W++(Tt j (W.drop (i+1))++(((W.drop (i+1)).drop (j+1)).take k).map (λz=>(y,z))).map (λm=>(x,m))
theorem On (W:List Pt) (x:Pt) (i:Nat):p3j W x i 0=Pv i W:=by simp [p3j,Tt]
theorem Oq (W:List Pt) (x y:Pt) (i j:Nat):p3k W x y i j 0=p3j W x i j:=by simp [p3k,p3j]
theorem Oo {W:List Pt} {x y z:Pt} {i j k:Nat} (h:((W.drop (i+1)).drop (j+1))[k]? = some z):p3k W x y i j (k+1)=p3k W x y i j k++[(x,y,z)]:=by
 unfold p3k;rw [Z1,h]; simp
theorem Qdy {W:List Pt} {x y:Pt} {i j k:Nat} (hy:(W.drop (i+1))[j]? = some y) (hk:((W.drop (i+1)).drop (j+1)).length<=k):p3k W x y i j k=p3j W x i (j+1):=by
 unfold p3k p3j;rw [Qj hk,Lo _ j y hy]
theorem Qdw {W:List Pt} {x:Pt} {i j:Nat} (hx:W[i]? = some x) (hj:j=(W.drop (i+1)).length):p3j W x i j=Pv (i+1) W:=by
 unfold p3j;rw [hj,Qa8 W i x hx]; rfl
theorem Qik {W:List Pt} {i:Nat} (h:i=W.length):Pv i W=Gm W:=by rw [h]; rfl
def p4j (W:List Pt) (x:Pt) (i j:Nat):List P4:=M4 i W++(Pv j (W.drop (i+1))).map (λm=>(x,m))
def p4k (W:List Pt) (x y:Pt) (i j k:Nat):List P4:=M4 i W++(p3j (W.drop (i+1)) y j k).map (λm=>(x,m))
def p4m (W:List Pt) (x y z:Pt) (i j k m:Nat):List P4:=M4 i W++(p3k (W.drop (i+1)) y z j k m).map (λm=>(x,m))
theorem Qth (W:List Pt) (x:Pt) (i:Nat):p4j W x i 0=M4 i W:=by simp [p4j,Pv]
theorem Qti (W:List Pt) (x y:Pt) (i j:Nat):p4k W x y i j 0=p4j W x i j:=by unfold p4k p4j; rw [On]
theorem Qtl (W:List Pt) (x y z:Pt) (i j k:Nat):p4m W x y z i j k 0=p4k W x y i j k:=by unfold p4m p4k; rw [Oq]
theorem Qtk {W:List Pt} {x y z u:Pt} {i j k m:Nat} (h:(((W.drop (i+1)).drop (j+1)).drop (k+1))[m]? = some u):p4m W x y z i j k (m+1)=p4m W x y z i j k m++[(x,y,z,u)]:=by
 unfold p4m;rw [Oo h]; simp
theorem Q00 {W:List Pt} {x y z:Pt} {i j k m:Nat} (hz:((W.drop (i+1)).drop (j+1))[k]? = some z) (hm:(((W.drop (i+1)).drop (j+1)).drop (k+1)).length<=m):p4m W x y z i j k m=p4k W x y i j (k+1):=by
 unfold p4m p4k;rw [Qdy hz hm]
theorem Q0z {W:List Pt} {x y:Pt} {i j k:Nat} (hy:(W.drop (i+1))[j]? = some y) (hk:k=((W.drop (i+1)).drop (j+1)).length):p4k W x y i j k=p4j W x i (j+1):=by
 unfold p4k p4j;rw [Qdw hy hk]
theorem Q0y {W:List Pt} {x:Pt} {i j:Nat} (hx:W[i]? = some x) (hj:j=(W.drop (i+1)).length):p4j W x i j=M4 (i+1) W:=by
 unfold p4j;rw [hj,Qf3 W i x hx]; rfl
theorem Q1h {W:List Pt} {i:Nat} (h:i=W.length):M4 i W=Dt W:=by rw [h]; rfl
theorem Qci:∀ (k:Nat) (l:List Pt),∃ r,Cj l=Tt k l++r
 | 0,l=>⟨Cj l,rfl⟩
 | k+1,[]=>⟨[],rfl⟩
 |
  k+1,x::l=>by
  obtain ⟨r,h⟩:=Qci k l;exact ⟨r,by show l.map _++Tt l.length l=l.map _++Tt k l++r; rw [show Tt l.length l=Cj l from rfl,h,Ze]⟩
theorem Qlc:∀ (k:Nat) (l:List Pt),∃ r,Gm l=Pv k l++r
 | 0,l=>⟨Gm l,rfl⟩
 | k+1,[]=>⟨[],rfl⟩
 |
  k+1,x::l=>by
  obtain ⟨r,h⟩:=Qlc k l;exact ⟨r,by show (Cj l).map _++Pv l.length l=(Cj l).map _++Pv k l++r; rw [show Pv l.length l=Gm l from rfl,h,Ze]⟩
theorem Qt1:∀ (k:Nat) (l:List Pt),∃ r,Dt l=M4 k l++r
 | 0,l=>⟨Dt l,rfl⟩
 | k+1,[]=>⟨[],rfl⟩
 |
  k+1,x::l=>by
  obtain ⟨r,h⟩:=Qt1 k l;exact ⟨r,by show (Gm l).map _++M4 l.length l=(Gm l).map _++M4 k l++r; rw [show M4 l.length l=Dt l from rfl,h,Ze]⟩
theorem Qh6 {W:List Pt} (h6:W.length<=6) {x y:Pt} {i j k:Nat} (hx:W[i]? = some x) (hy:(W.drop (i+1))[j]? = some y):(p3k W x y i j k).length<=20:=by
 have h0:=(Ic h6).1;obtain ⟨r,hr⟩:=Qlc (i+1) W;rw [Qa8 W i x hx] at hr;obtain ⟨r2,hr2⟩:=Qci (j+1) (W.drop (i+1));rw [Lo _ j y hy] at hr2;have e1:=congrArg List.length hr;have e2:=congrArg List.length hr2;have e3:(((W.drop (i+1)).drop (j+1)).take k).length<=((W.drop (i+1)).drop (j+1)).length:=by rw [Qx]; exact Nat.min_le_right _ _
 unfold p3k;simp only [Q5,Q7] at e1 e2 ⊢;omega
theorem Q01 {W:List Pt} (h6:W.length<=6) {x y z:Pt} {i j k m:Nat} (hx:W[i]? = some x) (hy:(W.drop (i+1))[j]? = some y) (hz:((W.drop (i+1)).drop (j+1))[k]? = some z):(p4m W x y z i j k m).length<=15:=by
 have h0:=(Ic h6).2;obtain ⟨r,hr⟩:=Qt1 (i+1) W;rw [Qf3 W i x hx] at hr;obtain ⟨r1,hr1⟩:=Qlc (j+1) (W.drop (i+1));rw [Qa8 _ j y hy] at hr1;obtain ⟨r2,hr2⟩:=Qci (k+1) ((W.drop (i+1)).drop (j+1));rw [Lo _ k z hz] at hr2;have e1:=congrArg List.length hr;have e2:=congrArg List.length hr1;have e4:=congrArg List.length hr2;have e3:((((W.drop (i+1)).drop (j+1)).drop (k+1)).take m).length<=(((W.drop (i+1)).drop (j+1)).drop (k+1)).length:=by rw [Qx]; exact Nat.min_le_right _ _
 unfold p4m p3k;simp only [Q5,Q7] at e1 e2 e4 ⊢;omega
theorem Qm0 {sg:List Int->Int} (hg:∀ p,-1<=Bj sg p/\Bj sg p<=1) (ps:List P3):Qn9 (Ls (Qac sg ps)):=by
 have key:∀ (ps:List P3) (M:Ph),Qn9 M->Qn9 ((Qac sg ps).foldl (λM e=>B5 M e.1 (.int .i64 e.2)) M):=by
  intro ps
  induction ps with
  | nil=>intro M h; exact h
  | cons m ps ih=>intro M h; exact ih _ (Q8k h (hg _))
 exact key ps [] Q8j
theorem Qis (sg:List Int->Int) (T:Ph) (ps:List P4):Qbh (Bi T (Af sg ps)):=by
 have key:∀ (ps:List P4) (F:Ph),Qbh F->Qbh ((Af sg ps).foldl (λF e=>Qmj T e.2 e.1 F) F):=by
  intro ps
  induction ps with
  | nil=>intro M h; exact h
  | cons m ps ih=>intro M h; exact ih _ (Qva h)
 exact key ps [] Q2b
theorem Qnk (p:List Int) (q:Rat):-1<=Fj p q/\Fj p q<=1:=by
 rw [S6]; unfold Uk
 split
 ·exact ⟨by decide,by decide⟩
 ·split <;> exact ⟨by decide,by decide⟩
theorem Zay {p:List Int} {a:Tm} {s:Int} (h:Qeg p a=some s):-1<=s/\s<=1:=by
 unfold Qeg at h
 split at h
 ·injection h with h; subst h; exact ⟨by decide,by decide⟩
 ·split at h
  ·injection h with h; subst h; exact Qnk _ _
  ·obtain ⟨g,_,h⟩:=Qe.1 h
   split at h
   ·injection h with h; subst h; exact ⟨by decide,by decide⟩
   ·obtain ⟨c,_,h⟩:=Qe.1 h;obtain ⟨x,_,h⟩:=Qe.1 h;injection h with h; subst h; exact Qnk _ _
theorem Qsk (a:Tm) (p:List Int):-1<=Bj (Pq a) p/\Bj (Pq a) p<=1:=by
 have hs:∀ p,-1<=Pq a p/\Pq a p<=1:=λp=>by
  unfold Pq;cases h:Qeg p a with
  | none=>exact ⟨by decide,by decide⟩
  | some s=>exact Zay h
 have key:∀ (k:Nat) (p:List Int),-1<=Ho (Pq a) k p/\Ho (Pq a) k p<=1:=by
  intro k
  induction k with
  | zero=>intro p; exact ⟨by simp [Ho],by simp [Ho]⟩
  |
   succ k ih =>
   intro p;simp only [Ho]
   split
   ·exact ⟨by decide,by decide⟩
   ·split
    ·exact ih _
    ·exact hs p
 exact key _ p
end Orq
namespace Orr
open Go Go.Proofs Orq
set_option maxRecDepth 10000
theorem ozM {P:Program} [Mo P] {n:Nat} {Q:Exit->Sg->List OB->Prop} {L L':Sg} {B B':List OB} (d off T sz:Nat) {it:List It} (hs:Hk it=true) (h:Q30 (P:=P) d L B [.oc d off T sz]=some (L',B',[],[])) (k:AK P n Q it L' B'):AK P n Q it L B:=AK.sub (Qp5 h EqOk.nil) hs k
theorem Qop {k:Crv} (hk:Sc k):W5 Tryz.prog 213 [.agg (cl k)] [.one (.row (O2 (Ij k)))]:=by
 have ok:=Qdv hk.n hk.c;have l1:=Hi k.x k.x;have l2:=Hi k.y k.y;have:=hk.c.lx;have:=hk.c.ly;have bx:Bd 258 (Um k.x k.x):=Rf (u:=2) hk.c.x hk.c.x (by omega);have by_:Bd 258 (Um k.y k.y):=Rf (u:=2) hk.c.y hk.c.y (by omega);have c1:=Qc1 (p:=k.x) (c:=k.d) (by omega) (W4 hk.c.x (by decide)) (Qc hk.c.d (by decide));have c2:=Qc1 (p:=k.y) (c:=k.d) (by omega) (W4 hk.c.y (by decide)) (Qc hk.c.d (by decide));have c3:=Qoi (p:=k.x) (q:=k.x) hk.n.1 hk.n.1 (by omega) (by omega) hk.c.x hk.c.x (by decide);have c4:=Qoi (p:=k.y) (q:=k.y) hk.n.2.1 hk.n.2.1 (by omega) (by omega) hk.c.y hk.c.y (by decide);have c5:=Qvm (p:=Um k.x k.x) (q:=Um k.y k.y) (by omega) (by omega) (W4 bx (by decide)) (W4 by_ (by decide));have c6:=C5 (W6 k.d) (W6 k.d) (Qc hk.c.d (by decide)) (Qc hk.c.d (by decide));have hl:∀ p∈Ij k,p.length≤1000000:=λp hp=>by
  obtain ⟨j,hj⟩:=Jm hp;have h1:=ok.2 j p hj;have:[2,2,4,0].getD j 0<=4:=by
   match j with
   | 0=>decide
   | 1=>decide
   | 2=>decide
   | 3=>decide
   | j+4=>simp
  omega
 have cd:=Q5f (r:=Ij k) (λp hp=>(ok.1 p hp).1) (λp hp=>W4 (ok.1 p hp).2 (by decide)) hl (by show 4<=1000; decide);exact w tt Tryz.func213 rfl [.c [] (Qy3 hk.n (hk.c.mono (by decide) (by decide))),.c [] c1,.c [] c2,.c [] c3,.c [] c4,.c [] c5,.c [] c6,.c [] cd] rfl rfl trivial
theorem Q5l {a b c d:Crv} (ha:Sc a) (hb:Sc b) (hc:Sc c) (hd:Sc d):W5 Tryz.prog 172 [.agg (cl a),.agg (cl b),.agg (cl c),.agg (cl d)] [pr (Qbn a b c d)]:=by
 have cd:=Zgo (by decide) (k:=4) (ds:=[2,2,4,0]) (by decide) rfl (by decide) (Qud ha.n hb.n hc.n hd.n ha.c hb.c hc.c hd.c);exact w tt Tryz.func172 rfl [.c [] (Qop ha),.c [] (Qop hb),.c [] (Qop hc),.c [] (Qop hd),.c [] cd] rfl rfl trivial
set_option maxHeartbeats 1000000 in
theorem Qyr {a b c d:Pt} {t:Tm} (ha:Sc a.c) (hb:Sc b.c) (hc:Sc c.c) (hd:Sc d.c) (ht:Va t):W5 Tryz.prog 120 [.one (.int .i64 4),.agg (ta t),.one (.row [Gd a,Gd b,Gd c,Gd d])] [.agg (Qdu (Qkf (Pq t) a b c d)),.one (.int .i64 0)]:=by
 have hp:=(Qzj ha hb hc hd).dp;have e:Qdu (Qkf (Pq t) a b c d)=[.int .i64 4,.int .i64 a.id,.int .i64 b.id,.int .i64 c.id,.int .i64 d.id,pl (Qbn a.c b.c c.c d.c),.int .i64 (Bj (Pq t) (Qbn a.c b.c c.c d.c))]:=by rw [Qkf]
 rw [e];have cg:=Zgt hp ht;have cf:=Q5l ha hb hc hd;generalize Qbn a.c b.c c.c d.c=F at *;refine Fq Tryz.func120 rfl ?_;refine go tt [.c [] Q2p,.f rfl] rfl trivial ?_;refine lp (S:=Nat) 3 (λL1 i=>(22,.v (.one (.int .i64 (i:Int))))::L1) (λi=>[.blk 79 (ta t),.blk 99 zCt,.blk 99 [.int .i64 4,.int .i64 (if 1<=i then a.id else 0),.int .i64 (if 2<=i then b.id else 0),.int .i64 (if 3<=i then c.id else 0),.int .i64 (if 4<=i then d.id else 0),.nils,.int .i64 0]]) (λi=>4-i) (λi=>i<=4) 0 (Qg _) rfl (λ_ _=>rfl) rfl λi hi=>?_
 rcases (show i=0\/i=1\/i=2\/i=3\/i=4 by omega) with rfl | rfl | rfl | rfl | rfl
 ·refine go tt [.t rfl,.x (i:=0) (xs:=Gd a) rfl,.i 0] rfl (by simp [W3]) ?_;exact rd 1 (by omega) (by omega) rfl
 ·refine go tt [.t rfl,.x (i:=1) (xs:=Gd b) rfl,.i 1] rfl (by simp [W3]) ?_;exact rd 2 (by omega) (by omega) rfl
 ·refine go tt [.t rfl,.x (i:=2) (xs:=Gd c) rfl,.i 2] rfl (by simp [W3]) ?_;exact rd 3 (by omega) (by omega) rfl
 ·refine go tt [.t rfl,.x (i:=3) (xs:=Gd d) rfl,.i 3] rfl (by simp [W3]) ?_;exact rd 4 (by omega) (by omega) rfl
 ·exact en tt [.f rfl,.f rfl,.f rfl,.f rfl,.t rfl,.x (i:=0) (xs:=Gd a) rfl,.x (i:=1) (xs:=Gd b) rfl,.x (i:=2) (xs:=Gd c) rfl,.x (i:=3) (xs:=Gd d) rfl,.c [] cf,.c [] cg] rfl rfl trivial
def Qsf (T:Ph) (s:Int) (n:List Int) (F:Ph) (k:Nat):Ph:=(List.range k).foldl (Ep T s n) F
theorem Qwh (T:Ph) (s:Int) (n:List Int) (F:Ph) (k:Nat):Qsf T s n F (k+1)=Ep T s n (Qsf T s n F k) k:=by unfold Qsf; rw [List.range_succ,List.foldl_append]; rfl
theorem Qwg (T:Ph) (s:Int) (n:List Int) (F:Ph):Qsf T s n F 4=Qmj T s n F:=rfl
set_option maxHeartbeats 4000000 in
theorem Q6d {F T:Ph} {s n0 n1 n2 n3:Int} (hT:Qn9 T) (hs:-1<=s/\s<=1):G5 Tryz.prog 121 [.one (.omap 0),.one (.omap 1),.one (.int .i64 s),.agg [.int .i64 n0,.int .i64 n1,.int .i64 n2,.int .i64 n3]] [.mpb F,.mpb T] [] [.mpb (Qmj T s [n0,n1,n2,n3] F),.mpb T]:=by
 have hm:Q4y T:=λk=>(hT k).1
 have hb:=λ(k:List Int) (x:Int) (hx:-1<=x/\x<=1)=>Q3r (hT k).2 hx
 rw [<-Qwg];obtain ⟨f,hf⟩:=nmE (Qsf T s [n0,n1,n2,n3] F);have f0:F=f 0:=by rw [hf]; rfl
 have fs:∀ k,f (k+1)=Ep T s [n0,n1,n2,n3] (f k) k:=λk=>by rw [hf]; exact Qwh ..
 rw [<-hf];rw [f0];clear hf f0;refine Fq Tryz.func121 rfl ?_;refine go tt [] rfl trivial ?_;refine lp (S:=Nat) 3 (λL1 k=>(14,.v (.one (.int .i64 (k:Int))))::L1) (λk=>[.mpb (f k),.mpb T,.blk 95 [.int .i64 n0,.int .i64 n1,.int .i64 n2,.int .i64 n3]]) (λk=>4-k) (λk=>k<=4) 0 (by decide) rfl (λ_ _=>rfl) rfl λk hk=>?_
 rcases (show k=0\/k=1\/k=2\/k=3\/k=4 by omega) with rfl | rfl | rfl | rfl | rfl
 ·have e1:=fs 0;have e2:Ep T s [n0,n1,n2,n3] (f 0) 0=if A4 T [n1,n2,n3]*(-s)>0 then B5 (f 0) [n1,n2,n3] (.bool true) else f 0:=rfl
  rw [e2] at e1;refine go tt [.t rfl] rfl trivial ?_;refine lp (S:=Nat) 4 (λL1 i=>(18,.v (.one (.int .i64 (i:Int))))::(10,.v (.one (.int .i64 (if i<=0 then (i:Int) else (i:Int)-1))))::L1) (λi=>[.mpb (f 0),.mpb T,.blk 95 [.int .i64 n0,.int .i64 n1,.int .i64 n2,.int .i64 n3],.blk 50 [.int .i64 (if 2<=i then n1 else 0),.int .i64 (if 3<=i then n2 else 0),.int .i64 (if 4<=i then n3 else 0)]]) (λi=>4-i) (λi=>i<=4) 0 (by decide) rfl (λ_ _=>rfl) rfl λi hi=>?_
  rcases (show i=0\/i=1\/i=2\/i=3\/i=4 by omega) with rfl | rfl | rfl | rfl | rfl
  ·refine go tt [.t rfl,.i 0,.f rfl] rfl (by simp [W3]) ?_;exact rd 1 (by omega) (by omega) rfl
  ·refine go tt [.t rfl,.i 1,.t rfl,.i 0] rfl (by simp [W3]) ?_;exact rd 2 (by omega) (by omega) rfl
  ·refine go tt [.t rfl,.i 2,.t rfl,.i 1] rfl (by simp [W3]) ?_;exact rd 3 (by omega) (by omega) rfl
  ·refine go tt [.t rfl,.i 3,.t rfl,.i 2] rfl (by simp [W3]) ?_;exact rd 4 (by omega) (by omega) rfl
  ·have hbb:=hb [n1,n2,n3] (-s) (by omega);by_cases hc:A4 T [n1,n2,n3]*(-s)>0
   ·rw [if_pos hc] at e1;refine go tt [.f rfl,.t rfl,.t (decide_eq_true hc)] rfl (by simp only [W3]; first | exact ⟨⟨by omega,by omega⟩,hbb,hm,⟨by omega,by omega⟩,by decide,by omega,by omega⟩ | exact ⟨⟨by omega,by omega⟩,hbb,hm,by decide,by omega,by omega⟩) ?_;exact rd 1 (by omega) (by omega) (by rw [e1]; rfl)
   ·rw [if_neg hc] at e1;refine go tt [.f rfl,.t rfl,.f (decide_eq_false hc)] rfl (by simp only [W3]; first | exact ⟨⟨by omega,by omega⟩,hbb,hm,⟨by omega,by omega⟩,by decide,by omega,by omega⟩ | exact ⟨⟨by omega,by omega⟩,hbb,hm,by decide,by omega,by omega⟩) ?_;exact rd 1 (by omega) (by omega) (by rw [e1]; rfl)
 ·have e1:=fs 1;have e2:Ep T s [n0,n1,n2,n3] (f 1) 1=if A4 T [n0,n2,n3]*s>0 then B5 (f 1) [n0,n2,n3] (.bool true) else f 1:=rfl
  rw [e2] at e1;refine go tt [.t rfl] rfl trivial ?_;refine lp (S:=Nat) 4 (λL1 i=>(18,.v (.one (.int .i64 (i:Int))))::(10,.v (.one (.int .i64 (if i<=1 then (i:Int) else (i:Int)-1))))::L1) (λi=>[.mpb (f 1),.mpb T,.blk 95 [.int .i64 n0,.int .i64 n1,.int .i64 n2,.int .i64 n3],.blk 50 [.int .i64 (if 1<=i then n0 else 0),.int .i64 (if 3<=i then n2 else 0),.int .i64 (if 4<=i then n3 else 0)]]) (λi=>4-i) (λi=>i<=4) 0 (by decide) rfl (λ_ _=>rfl) rfl λi hi=>?_
  rcases (show i=0\/i=1\/i=2\/i=3\/i=4 by omega) with rfl | rfl | rfl | rfl | rfl
  ·refine go tt [.t rfl,.i 0,.t rfl,.i 0] rfl (by simp [W3]) ?_;exact rd 1 (by omega) (by omega) rfl
  ·refine go tt [.t rfl,.i 1,.f rfl] rfl (by simp [W3]) ?_;exact rd 2 (by omega) (by omega) rfl
  ·refine go tt [.t rfl,.i 2,.t rfl,.i 1] rfl (by simp [W3]) ?_;exact rd 3 (by omega) (by omega) rfl
  ·refine go tt [.t rfl,.i 3,.t rfl,.i 2] rfl (by simp [W3]) ?_;exact rd 4 (by omega) (by omega) rfl
  ·have hbb:=hb [n0,n2,n3] s (by omega);by_cases hc:A4 T [n0,n2,n3]*s>0
   ·rw [if_pos hc] at e1;refine go tt [.f rfl,.f rfl,.t (decide_eq_true hc)] rfl (by simp only [W3]; first | exact ⟨⟨by omega,by omega⟩,hbb,hm,⟨by omega,by omega⟩,by decide,by omega,by omega⟩ | exact ⟨⟨by omega,by omega⟩,hbb,hm,by decide,by omega,by omega⟩) ?_;exact rd 2 (by omega) (by omega) (by rw [e1]; rfl)
   ·rw [if_neg hc] at e1;refine go tt [.f rfl,.f rfl,.f (decide_eq_false hc)] rfl (by simp only [W3]; first | exact ⟨⟨by omega,by omega⟩,hbb,hm,⟨by omega,by omega⟩,by decide,by omega,by omega⟩ | exact ⟨⟨by omega,by omega⟩,hbb,hm,by decide,by omega,by omega⟩) ?_;exact rd 2 (by omega) (by omega) (by rw [e1]; rfl)
 ·have e1:=fs 2;have e2:Ep T s [n0,n1,n2,n3] (f 2) 2=if A4 T [n0,n1,n3]*(-s)>0 then B5 (f 2) [n0,n1,n3] (.bool true) else f 2:=rfl
  rw [e2] at e1;refine go tt [.t rfl] rfl trivial ?_;refine lp (S:=Nat) 4 (λL1 i=>(18,.v (.one (.int .i64 (i:Int))))::(10,.v (.one (.int .i64 (if i<=2 then (i:Int) else (i:Int)-1))))::L1) (λi=>[.mpb (f 2),.mpb T,.blk 95 [.int .i64 n0,.int .i64 n1,.int .i64 n2,.int .i64 n3],.blk 50 [.int .i64 (if 1<=i then n0 else 0),.int .i64 (if 2<=i then n1 else 0),.int .i64 (if 4<=i then n3 else 0)]]) (λi=>4-i) (λi=>i<=4) 0 (by decide) rfl (λ_ _=>rfl) rfl λi hi=>?_
  rcases (show i=0\/i=1\/i=2\/i=3\/i=4 by omega) with rfl | rfl | rfl | rfl | rfl
  ·refine go tt [.t rfl,.i 0,.t rfl,.i 0] rfl (by simp [W3]) ?_;exact rd 1 (by omega) (by omega) rfl
  ·refine go tt [.t rfl,.i 1,.t rfl,.i 1] rfl (by simp [W3]) ?_;exact rd 2 (by omega) (by omega) rfl
  ·refine go tt [.t rfl,.i 2,.f rfl] rfl (by simp [W3]) ?_;exact rd 3 (by omega) (by omega) rfl
  ·refine go tt [.t rfl,.i 3,.t rfl,.i 2] rfl (by simp [W3]) ?_;exact rd 4 (by omega) (by omega) rfl
  ·have hbb:=hb [n0,n1,n3] (-s) (by omega);by_cases hc:A4 T [n0,n1,n3]*(-s)>0
   ·rw [if_pos hc] at e1;refine go tt [.f rfl,.t rfl,.t (decide_eq_true hc)] rfl (by simp only [W3]; first | exact ⟨⟨by omega,by omega⟩,hbb,hm,⟨by omega,by omega⟩,by decide,by omega,by omega⟩ | exact ⟨⟨by omega,by omega⟩,hbb,hm,by decide,by omega,by omega⟩) ?_;exact rd 3 (by omega) (by omega) (by rw [e1]; rfl)
   ·rw [if_neg hc] at e1;refine go tt [.f rfl,.t rfl,.f (decide_eq_false hc)] rfl (by simp only [W3]; first | exact ⟨⟨by omega,by omega⟩,hbb,hm,⟨by omega,by omega⟩,by decide,by omega,by omega⟩ | exact ⟨⟨by omega,by omega⟩,hbb,hm,by decide,by omega,by omega⟩) ?_;exact rd 3 (by omega) (by omega) (by rw [e1]; rfl)
 ·have e1:=fs 3;have e2:Ep T s [n0,n1,n2,n3] (f 3) 3=if A4 T [n0,n1,n2]*s>0 then B5 (f 3) [n0,n1,n2] (.bool true) else f 3:=rfl
  rw [e2] at e1;refine go tt [.t rfl] rfl trivial ?_;refine lp (S:=Nat) 4 (λL1 i=>(18,.v (.one (.int .i64 (i:Int))))::(10,.v (.one (.int .i64 (if i<=3 then (i:Int) else (i:Int)-1))))::L1) (λi=>[.mpb (f 3),.mpb T,.blk 95 [.int .i64 n0,.int .i64 n1,.int .i64 n2,.int .i64 n3],.blk 50 [.int .i64 (if 1<=i then n0 else 0),.int .i64 (if 2<=i then n1 else 0),.int .i64 (if 3<=i then n2 else 0)]]) (λi=>4-i) (λi=>i<=4) 0 (by decide) rfl (λ_ _=>rfl) rfl λi hi=>?_
  rcases (show i=0\/i=1\/i=2\/i=3\/i=4 by omega) with rfl | rfl | rfl | rfl | rfl
  ·refine go tt [.t rfl,.i 0,.t rfl,.i 0] rfl (by simp [W3]) ?_;exact rd 1 (by omega) (by omega) rfl
  ·refine go tt [.t rfl,.i 1,.t rfl,.i 1] rfl (by simp [W3]) ?_;exact rd 2 (by omega) (by omega) rfl
  ·refine go tt [.t rfl,.i 2,.t rfl,.i 2] rfl (by simp [W3]) ?_;exact rd 3 (by omega) (by omega) rfl
  ·refine go tt [.t rfl,.i 3,.f rfl] rfl (by simp [W3]) ?_;exact rd 4 (by omega) (by omega) rfl
  ·have hbb:=hb [n0,n1,n2] s (by omega);by_cases hc:A4 T [n0,n1,n2]*s>0
   ·rw [if_pos hc] at e1;refine go tt [.f rfl,.f rfl,.t (decide_eq_true hc)] rfl (by simp only [W3]; first | exact ⟨⟨by omega,by omega⟩,hbb,hm,⟨by omega,by omega⟩,by decide,by omega,by omega⟩ | exact ⟨⟨by omega,by omega⟩,hbb,hm,by decide,by omega,by omega⟩) ?_;exact rd 4 (by omega) (by omega) (by rw [e1]; rfl)
   ·rw [if_neg hc] at e1;refine go tt [.f rfl,.f rfl,.f (decide_eq_false hc)] rfl (by simp only [W3]; first | exact ⟨⟨by omega,by omega⟩,hbb,hm,⟨by omega,by omega⟩,by decide,by omega,by omega⟩ | exact ⟨⟨by omega,by omega⟩,hbb,hm,by decide,by omega,by omega⟩) ?_;exact rd 4 (by omega) (by omega) (by rw [e1]; rfl)
 ·exact ed tt [] [0,1] [.f rfl] rfl trivial
set_option maxHeartbeats 8000000 in
theorem Q2f {l:List Pt} {a:Tm} {c:Cr} {r1:List (List LV)} (hl:∀ p∈l,Sc p.c) (hn:l.length≤6) (ha:Va a):G5 Tryz.prog 61 [.one (.ow 0 0),.agg (ta a)] [.blk 86 (Md c (Ud l) r1)] [.one (.row (Uo (bcD l a)))] [.blk 86 (Md c (Ud l) (brD l a))]:=by
 have hwl:=Qag l;have cw:=Q59 (l:=l) (Q11 hl) (by omega);have hgb:=Qsk a;unfold brD bcD Qm7 M9;obtain ⟨sg',hsg⟩:∃ s,s=Pq a:=⟨_,rfl⟩;obtain ⟨W,hW⟩:=nmE (D3 l);have hWs:∀ p∈W,Sc p.c:=λp hp=>hl p (Qlg (by rw [<-hW]; exact hp))
 have mR:=λ{x y z:Pt} (hx:x∈W) (hy:y∈W) (hz:z∈W)=>Qys (t:=a) (hWs x hx) (hWs y hy) (hWs z hz) ha
 have mC:=λ{x y z u:Pt} (hx:x∈W) (hy:y∈W) (hz:z∈W) (hu:u∈W)=>Qyr (t:=a) (hWs x hx) (hWs y hy) (hWs z hz) (hWs u hu) ha
 rw [<-hW] at cw hwl ⊢;rw [<-hsg] at hgb mR mC ⊢;have hW6:W.length<=6:=by omega
 have hTi:=λps=>Qm0 hgb ps
 have hcp:(W.map Gd).length=W.length:=by simp
 have hcp2:=Re W;have hdr:∀ i,(Ud W).drop i=Ud (W.drop i):=λi=>by unfold Ud; rw [List.map_drop]
 have hel:∀ z∈Ud W,z.length=5:=λz hz=>by obtain ⟨p,_,rfl⟩:=Zd.1 hz; rfl
 have s7:∀ x:Ct,∀ y∈[Qdu x],y.length=7:=λx y hy=>by rw [Qm.1 hy]; rfl
 have s3:∀ x:P3,∀ y∈[trL x],y.length=3:=λx y hy=>by rw [Qm.1 hy]; rfl
 obtain ⟨T,hT⟩:=nmE (Ls (Qac sg' (Gm W)));obtain ⟨G,hG⟩:=nmE (Bi T (Af sg' (Dt W)));have hTI:Qn9 T:=by rw [hT]; exact hTi _
 have hTm:Q4y T:=λk=>(hTI k).1
 have hGB:Qyd G:=λk=>by rw [hG]; exact Qis _ _ _ k
 rw [<-hT,<-hG];have e0:(Uo (((Pv 0 W).map (Om sg'))))=[]:=rfl;refine Fq Tryz.func61 rfl ?_;refine go tt [.c [] cw,.o 6 99 7] rfl trivial ?_;refine lp (S:=Nat) 4 (λL1 i=>(42,.v (.one (.int .i64 (i:Int))))::(6,.v (.one (.orow 2 7 none)))::L1) (λi=>[.blk 86 (Md c (Ud l) r1),.blk 79 (ta a),.row false 99 7 (Uo ((Pv i W).map (Om sg'))),.mpb (Ls (Qac sg' (Pv i W)))]) (λi=>W.length-i) (λi=>i<=W.length) 0 (Qg _) rfl (λ_ _=>rfl) rfl λi hi=>?_
 by_cases hlt:i<W.length
 ·obtain ⟨x,hx⟩:=gxE (l:=W) (i:=i) hlt;have xm:=Qa hx;obtain ⟨V,hV⟩:=nmE (W.drop (i+1));have hVl:V.length=W.length-(i+1):=by rw [hV,Zw]
  have hVm:∀ p∈V,p∈W:=λp hp=>by rw [hV] at hp; exact Qz hp
  have eV:(Ud W).drop (i+1)=Ud V:=by rw [hdr,<-hV]
  rw [<-On W x i];refine go tt [.t (decide_eq_true (by omega)),.x (Gk hx),.r 49 (eI (b:=((i+1:Nat):Int)) (by omega)),.i (i+1),.r 50 (Lk eV)] rfl (by simp only [W3]; (repeat' apply And.intro) <;> first | omega | exact hel) ?_;have hVr:=Re V;refine lp (S:=Nat) 5 (λL1 j=>(52,.v (.one (.int .i64 (j:Int))))::(6,.v (.one (.orow 2 7 none)))::L1) (λj=>[.blk 86 (Md c (Ud l) r1),.blk 79 (ta a),.row false 99 7 (Uo ((p3j W x i j).map (Om sg'))),.mpb (Ls (Qac sg' (p3j W x i j))),.blk 114 (Gd x)]) (λj=>V.length-j) (λj=>j<=V.length) 0 (Qg _) rfl (λ_ _=>rfl) rfl λj hj=>?_
  by_cases hltj:j<V.length
  ·obtain ⟨y,hy⟩:=gxE (l:=V) (i:=j) hltj;have ym:=hVm y (Qa hy);have hy':(W.drop (i+1))[j]? = some y:=by rw [<-hV]; exact hy
   obtain ⟨U,hU⟩:=nmE (V.drop (j+1));have hUl:U.length=V.length-(j+1):=by rw [hU,Zw]
   have hUm:∀ p∈U,p∈W:=λp hp=>by rw [hU] at hp; exact hVm p (Qz hp)
   have hUW:U=(W.drop (i+1)).drop (j+1):=by rw [hU,hV]
   have eU:(Ud W).drop (i+j+2)=Ud U:=by rw [hdr,hU,hV,X1]; congr 2; omega
   have hUr:=Re U;rw [<-Oq W x y i j];refine go tt [.t (decide_eq_true (by omega)),.x (Gk hy),.r 61 (eI (b:=((i+j+2:Nat):Int)) (by omega)),.i (i+j+2),.r 62 (Lk eU)] rfl (by simp only [W3]; (repeat' apply And.intro) <;> first | omega | exact hel) ?_;refine lp (S:=Nat) 6 (λL1 k=>(64,.v (.one (.int .i64 (k:Int))))::(6,.v (.one (.orow 2 7 none)))::L1) (λk=>[.blk 86 (Md c (Ud l) r1),.blk 79 (ta a),.row false 99 7 (Uo ((p3k W x y i j k).map (Om sg'))),.mpb (Ls (Qac sg' (p3k W x y i j k))),.blk 114 (Gd x),.blk 114 (Gd y)]) (λk=>U.length-k) (λk=>k<=U.length) 0 (Qg _) rfl (λ_ _=>rfl) rfl λk hk=>?_
   by_cases hltk:k<U.length
   ·obtain ⟨z,hz⟩:=gxE (l:=U) (i:=k) hltk;have zm:=hUm z (Qa hz);have hlen:=Qh6 hW6 (k:=k) hx hy';have en:=Oo (x:=x) (y:=y) (by rw [<-hUW]; exact hz);have et:=Qle sg' (p3k W x y i j k) (x,y,z);rw [<-en] at et;refine go tt [.t (decide_eq_true (by omega)),.x (Gk hz),.c [] (mR xm ym zm),.s (sz:=7) (s7 _)] rfl (by simp [W3,Mh] <;> omega) ?_;exact rd (k+1) (by omega) hltk (by rw [et,en,Xy]; simp [Uo]; rfl)
   ·have e:=Qdy (x:=x) (k:=k) hy' (by rw [<-hUW]; omega);rw [e];refine go tt [.f (decide_eq_false (by omega))] rfl (by simp [W3] <;> omega) ?_;exact rd (j+1) (by omega) hltj rfl
  ·have e:=Qdw (x:=x) (j:=j) hx (by rw [<-hV]; omega);rw [e];refine go tt [.f (decide_eq_false (by omega))] rfl (by simp [W3] <;> omega) ?_;exact rd (i+1) (by omega) hlt rfl
 rw [Qik (show i=W.length by omega),<-hT];have hiW:¬i<W.length:=hlt;clear hlt;obtain ⟨C3,hC3⟩:=nmE ((Gm W).map (Om sg'));have hC3l:C3.length<=20:=by rw [hC3,Q7]; exact (Ic hW6).1
 rw [<-hC3];refine go tt [.f (decide_eq_false (by omega))] rfl trivial ?_;have eC:Uo C3=Uo (C3++(M4 0 W).map (Aw sg')):=by rw [show M4 0 W=[] from rfl,X3,Xd]
 rw [eC];refine lp (S:=Nat) 5 (λL1 i=>(97,.v (.one (.int .i64 (i:Int))))::(6,.v (.one (.orow 2 7 none)))::L1) (λi=>[.blk 86 (Md c (Ud l) r1),.blk 79 (ta a),.row false 99 7 (Uo (C3++(M4 i W).map (Aw sg'))),.mpb T,.mpb (Bi T (Af sg' (M4 i W)))]) (λi=>W.length-i) (λi=>i<=W.length) 0 (Qg _) rfl (λ_ _=>rfl) rfl λi hi=>?_
 by_cases hlt:i<W.length
 ·obtain ⟨x,hx⟩:=gxE (l:=W) (i:=i) hlt;have xm:=Qa hx;obtain ⟨V,hV⟩:=nmE (W.drop (i+1));have hVl:V.length=W.length-(i+1):=by rw [hV,Zw]
  have hVm:∀ p∈V,p∈W:=λp hp=>by rw [hV] at hp; exact Qz hp
  have eV:(Ud W).drop (i+1)=Ud V:=by rw [hdr,<-hV]
  have hVr:=Re V;rw [<-Qth W x i];refine go tt [.t (decide_eq_true (by omega)),.x (Gk hx),.r 104 (eI (b:=((i+1:Nat):Int)) (by omega)),.i (i+1),.r 105 (Lk eV)] rfl (by simp only [W3]; (repeat' apply And.intro) <;> first | omega | exact hel) ?_;refine lp (S:=Nat) 6 (λL1 j=>(107,.v (.one (.int .i64 (j:Int))))::(6,.v (.one (.orow 2 7 none)))::L1) (λj=>[.blk 86 (Md c (Ud l) r1),.blk 79 (ta a),.row false 99 7 (Uo (C3++(p4j W x i j).map (Aw sg'))),.mpb T,.mpb (Bi T (Af sg' (p4j W x i j))),.blk 114 (Gd x)]) (λj=>V.length-j) (λj=>j<=V.length) 0 (Qg _) rfl (λ_ _=>rfl) rfl λj hj=>?_
  by_cases hltj:j<V.length
  ·obtain ⟨y,hy⟩:=gxE (l:=V) (i:=j) hltj;have ym:=hVm y (Qa hy);have hy':(W.drop (i+1))[j]? = some y:=by rw [<-hV]; exact hy
   obtain ⟨U,hU⟩:=nmE (V.drop (j+1));have hUl:U.length=V.length-(j+1):=by rw [hU,Zw]
   have hUm:∀ p∈U,p∈W:=λp hp=>by rw [hU] at hp; exact hVm p (Qz hp)
   have hUW:U=(W.drop (i+1)).drop (j+1):=by rw [hU,hV]
   have eU:(Ud W).drop (i+j+2)=Ud U:=by rw [hdr,hU,hV,X1]; congr 2; omega
   have hUr:=Re U;rw [<-Qti W x y i j];refine go tt [.t (decide_eq_true (by omega)),.x (Gk hy),.r 116 (eI (b:=((i+j+2:Nat):Int)) (by omega)),.i (i+j+2),.r 117 (Lk eU)] rfl (by simp only [W3]; (repeat' apply And.intro) <;> first | omega | exact hel) ?_;refine lp (S:=Nat) 7 (λL1 k=>(119,.v (.one (.int .i64 (k:Int))))::(6,.v (.one (.orow 2 7 none)))::L1) (λk=>[.blk 86 (Md c (Ud l) r1),.blk 79 (ta a),.row false 99 7 (Uo (C3++(p4k W x y i j k).map (Aw sg'))),.mpb T,.mpb (Bi T (Af sg' (p4k W x y i j k))),.blk 114 (Gd x),.blk 114 (Gd y)]) (λk=>U.length-k) (λk=>k<=U.length) 0 (Qg _) rfl (λ_ _=>rfl) rfl λk hk=>?_
   by_cases hltk:k<U.length
   ·obtain ⟨z,hz⟩:=gxE (l:=U) (i:=k) hltk;have zm:=hUm z (Qa hz);have hz':((W.drop (i+1)).drop (j+1))[k]? = some z:=by rw [<-hUW]; exact hz
    obtain ⟨R,hR⟩:=nmE (U.drop (k+1));have hRl:R.length=U.length-(k+1):=by rw [hR,Zw]
    have hRm:∀ p∈R,p∈W:=λp hp=>by rw [hR] at hp; exact hUm p (Qz hp)
    have hRW:R=((W.drop (i+1)).drop (j+1)).drop (k+1):=by rw [hR,hUW]
    have eR:(Ud W).drop (i+j+k+3)=Ud R:=by rw [hdr,hRW,X1,X1]; congr 2; omega
    have hRr:=Re R;rw [<-Qtl W x y z i j k];refine go tt [.t (decide_eq_true (by omega)),.x (Gk hz),.r 130 (eI (b:=((i+j+k+3:Nat):Int)) (by omega)),.i (i+j+k+3),.r 131 (Lk eR)] rfl (by simp only [W3]; (repeat' apply And.intro) <;> first | omega | exact hel) ?_;refine lp (S:=Nat) 8 (λL1 m=>(133,.v (.one (.int .i64 (m:Int))))::(6,.v (.one (.orow 2 7 none)))::L1) (λm=>[.blk 86 (Md c (Ud l) r1),.blk 79 (ta a),.row false 99 7 (Uo (C3++(p4m W x y z i j k m).map (Aw sg'))),.mpb T,.mpb (Bi T (Af sg' (p4m W x y z i j k m))),.blk 114 (Gd x),.blk 114 (Gd y),.blk 114 (Gd z)]) (λm=>R.length-m) (λm=>m<=R.length) 0 (Qg _) rfl (λ_ _=>rfl) rfl λm hm=>?_
    by_cases hltm:m<R.length
    ·obtain ⟨u,hu⟩:=gxE (l:=R) (i:=m) hltm;have um:=hRm u (Qa hu);have hlen:=Q01 hW6 (m:=m) hx hy' hz';have en:=Qtk (x:=x) (y:=y) (z:=z) (by rw [<-hRW]; exact hu);have et:=Qju sg' T (p4m W x y z i j k m) (x,y,z,u);rw [<-en] at et;have cf:=Q6d (F:=Bi T (Af sg' (p4m W x y z i j k m))) (s:=(Qkf sg' x y z u).want) (n0:=x.id) (n1:=y.id) (n2:=z.id) (n3:=u.id) hTI (hgb _);refine go tt [.t (decide_eq_true (by omega)),.x (Gk hu),.c [] (mC xm ym zm um),.s (sz:=7) (s7 _),.c [4,3] cf] rfl (by simp [W3,Mh] <;> omega) ?_;exact rd (m+1) (by omega) hltm (by rw [et,en,Xy,<-Ze]; simp [Uo]; rfl)
    ·have e:=Q00 (x:=x) (y:=y) (m:=m) hz' (by rw [<-hRW]; omega);rw [e];refine go tt [.f (decide_eq_false (by omega))] rfl (by simp [W3] <;> omega) ?_;exact rd (k+1) (by omega) hltk rfl
   ·have e:=Q0z (x:=x) (k:=k) hy' (by rw [<-hUW]; omega);rw [e];refine go tt [.f (decide_eq_false (by omega))] rfl (by simp [W3] <;> omega) ?_;exact rd (j+1) (by omega) hltj rfl
  ·have e:=Q0y (x:=x) (j:=j) hx (by rw [<-hV]; omega);rw [e];refine go tt [.f (decide_eq_false (by omega))] rfl (by simp [W3] <;> omega) ?_;exact rd (i+1) (by omega) hlt rfl
 rw [Q1h (show i=W.length by omega),<-hG];obtain ⟨C4,hC4⟩:=nmE (C3++(Dt W).map (Aw sg'));rw [<-hC4];refine go tt [.f (decide_eq_false (by omega))] rfl trivial ?_;refine ozM 0 13 50 3 rfl rfl ?_;have eT:([]:List (List LV))=M5 ((Pv 0 W).filter (isT T G)):=rfl;rw [eT];refine lp (S:=Nat) 6 (λL1 i=>(174,.v (.one (.int .i64 (i:Int))))::L1) (λi=>[.blk 86 [.bool true,pl c.now.p,sg c.now.lo.num,mg c.now.lo.num,sg (c.now.lo.den:Int),mg (c.now.lo.den:Int),sg c.now.hi.num,mg c.now.hi.num,sg (c.now.hi.den:Int),mg (c.now.hi.den:Int),.row (Io c.l),.int .i64 c.ev,.row (Ud l),.orow 5 3 none],.blk 79 (ta a),.row false 99 7 (Uo C4),.mpb T,.mpb G,.row false 50 3 (M5 ((Pv i W).filter (isT T G)))]) (λi=>W.length-i) (λi=>i<=W.length) 0 (Qg _) rfl (λ_ _=>rfl) rfl λi hi=>?_
 by_cases hlt:i<W.length
 ·obtain ⟨x,hx⟩:=gxE (l:=W) (i:=i) hlt;obtain ⟨V,hV⟩:=nmE (W.drop (i+1));have hVl:V.length=W.length-(i+1):=by rw [hV,Zw]
  have eV:(Ud W).drop (i+1)=Ud V:=by rw [hdr,<-hV]
  have hVr:=Re V;rw [<-On W x i];refine go tt [.t (decide_eq_true (by omega)),.x (Gk hx),.r 181 (eI (b:=((i+1:Nat):Int)) (by omega)),.i (i+1),.r 182 (Lk eV)] rfl (by simp only [W3]; (repeat' apply And.intro) <;> first | omega | exact hel) ?_;refine lp (S:=Nat) 7 (λL1 j=>(184,.v (.one (.int .i64 (j:Int))))::L1) (λj=>[.blk 86 [.bool true,pl c.now.p,sg c.now.lo.num,mg c.now.lo.num,sg (c.now.lo.den:Int),mg (c.now.lo.den:Int),sg c.now.hi.num,mg c.now.hi.num,sg (c.now.hi.den:Int),mg (c.now.hi.den:Int),.row (Io c.l),.int .i64 c.ev,.row (Ud l),.orow 5 3 none],.blk 79 (ta a),.row false 99 7 (Uo C4),.mpb T,.mpb G,.row false 50 3 (M5 ((p3j W x i j).filter (isT T G))),.blk 114 (Gd x)]) (λj=>V.length-j) (λj=>j<=V.length) 0 (Qg _) rfl (λ_ _=>rfl) rfl λj hj=>?_
  by_cases hltj:j<V.length
  ·obtain ⟨y,hy⟩:=gxE (l:=V) (i:=j) hltj;have hy':(W.drop (i+1))[j]? = some y:=by rw [<-hV]; exact hy
   obtain ⟨U,hU⟩:=nmE (V.drop (j+1));have hUl:U.length=V.length-(j+1):=by rw [hU,Zw]
   have hUW:U=(W.drop (i+1)).drop (j+1):=by rw [hU,hV]
   have eU:(Ud W).drop (i+j+2)=Ud U:=by rw [hdr,hU,hV,X1]; congr 2; omega
   have hUr:=Re U;rw [<-Oq W x y i j];refine go tt [.t (decide_eq_true (by omega)),.x (Gk hy),.r 193 (eI (b:=((i+j+2:Nat):Int)) (by omega)),.i (i+j+2),.r 194 (Lk eU)] rfl (by simp only [W3]; (repeat' apply And.intro) <;> first | omega | exact hel) ?_;refine lp (S:=Nat) 8 (λL1 k=>(196,.v (.one (.int .i64 (k:Int))))::L1) (λk=>[.blk 86 [.bool true,pl c.now.p,sg c.now.lo.num,mg c.now.lo.num,sg (c.now.lo.den:Int),mg (c.now.lo.den:Int),sg c.now.hi.num,mg c.now.hi.num,sg (c.now.hi.den:Int),mg (c.now.hi.den:Int),.row (Io c.l),.int .i64 c.ev,.row (Ud l),.orow 5 3 none],.blk 79 (ta a),.row false 99 7 (Uo C4),.mpb T,.mpb G,.row false 50 3 (M5 ((p3k W x y i j k).filter (isT T G))),.blk 114 (Gd x),.blk 114 (Gd y)]) (λk=>U.length-k) (λk=>k<=U.length) 0 (Qg _) rfl (λ_ _=>rfl) rfl λk hk=>?_
   by_cases hltk:k<U.length
   ·obtain ⟨z,hz⟩:=gxE (l:=U) (i:=k) hltk;have hlen:=Qh6 hW6 (k:=k) hx hy';have en:=Oo (x:=x) (y:=y) (by rw [<-hUW]; exact hz);have hfl:=Vg (isT T G) (p3k W x y i j k);have htl:=Ak ((p3k W x y i j k).filter (isT T G));by_cases h1:A4 T [x.id,y.id,z.id]≠0
    ·by_cases h2:Qcz G [x.id,y.id,z.id]=true
     ·have ef:isT T G (x,y,z)=false:=by unfold isT Qls; simp [h2]
      have eF:=Qo8 (ps:=p3k W x y i j k) ef;rw [<-en] at eF;refine go tt [.t (decide_eq_true (by omega)),.x (Gk hz),.g 211 true (decide_eq_true h1),.f (by rw [h2]; rfl)] rfl (by simp only [W3]; (repeat' apply And.intro) <;> first | exact hTm | exact hGB | omega | (simp only [Q6,X2]; omega)) ?_;exact rd (k+1) (by omega) hltk (by rw [eF]; rfl)
     ·have h2:Qcz G [x.id,y.id,z.id]=false:=by simpa using h2
      have ef:isT T G (x,y,z)=true:=by unfold isT Qls; simp [h2,h1]
      have eF:=Q7v (ps:=p3k W x y i j k) ef;rw [<-en] at eF;refine go tt [.t (decide_eq_true (by omega)),.x (Gk hz),.g 211 true (decide_eq_true h1),.t (by rw [h2]; rfl),.s (sz:=3) (s3 (x,y,z))] rfl (by simp only [W3]; (repeat' apply And.intro) <;> first | exact hTm | exact hGB | omega | (simp only [Q6,X2]; omega)) ?_;exact rd (k+1) (by omega) hltk (by rw [eF]; simp [M5]; rfl)
    ·have ef:isT T G (x,y,z)=false:=by unfold isT Qls; simp [h1]
     have eF:=Qo8 (ps:=p3k W x y i j k) ef;rw [<-en] at eF;refine go tt [.t (decide_eq_true (by omega)),.x (Gk hz),.g 211 false (decide_eq_false h1),.f rfl] rfl (by simp only [W3]; (repeat' apply And.intro) <;> first | exact hTm | exact hGB | omega | (simp only [Q6,X2]; omega)) ?_;exact rd (k+1) (by omega) hltk (by rw [eF]; rfl)
   ·have e:=Qdy (x:=x) (k:=k) hy' (by rw [<-hUW]; omega);rw [e];refine go tt [.f (decide_eq_false (by omega))] rfl (by simp [W3] <;> omega) ?_;exact rd (j+1) (by omega) hltj rfl
  ·have e:=Qdw (x:=x) (j:=j) hx (by rw [<-hV]; omega);rw [e];refine go tt [.f (decide_eq_false (by omega))] rfl (by simp [W3] <;> omega) ?_;exact rd (i+1) (by omega) hlt rfl
 rw [Qik (show i=W.length by omega)];rw [hC4,hC3];exact ed tt [2,5] [0] [.f (decide_eq_false (by omega))] rfl trivial
set_option maxHeartbeats 8000000 in
theorem Q2e {l:List Pt} {a:Tm} (hl:∀ p∈l,Sc p.c) (hn:l.length≤6) (ha:Va a):G5 Tryz.prog 61 [.one (.ow 0 0),.agg (ta a)] [.blk 86 (crz (.row (Ud l)) .nils)] [.one (.row (Uo (bcD l a)))] [.blk 86 (crz (.row (Ud l)) (.row (brD l a)))]:=by
 have hwl:=Qag l;have cw:=Q59 (l:=l) (Q11 hl) (by omega);have hgb:=Qsk a;unfold brD bcD Qm7 M9;obtain ⟨sg',hsg⟩:∃ s,s=Pq a:=⟨_,rfl⟩;obtain ⟨W,hW⟩:=nmE (D3 l);have hWs:∀ p∈W,Sc p.c:=λp hp=>hl p (Qlg (by rw [<-hW]; exact hp))
 have mR:=λ{x y z:Pt} (hx:x∈W) (hy:y∈W) (hz:z∈W)=>Qys (t:=a) (hWs x hx) (hWs y hy) (hWs z hz) ha
 have mC:=λ{x y z u:Pt} (hx:x∈W) (hy:y∈W) (hz:z∈W) (hu:u∈W)=>Qyr (t:=a) (hWs x hx) (hWs y hy) (hWs z hz) (hWs u hu) ha
 rw [<-hW] at cw hwl ⊢;rw [<-hsg] at hgb mR mC ⊢;have hW6:W.length<=6:=by omega
 have hTi:=λps=>Qm0 hgb ps
 have hcp:(W.map Gd).length=W.length:=by simp
 have hcp2:=Re W;have hdr:∀ i,(Ud W).drop i=Ud (W.drop i):=λi=>by unfold Ud; rw [List.map_drop]
 have hel:∀ z∈Ud W,z.length=5:=λz hz=>by obtain ⟨p,_,rfl⟩:=Zd.1 hz; rfl
 have s7:∀ x:Ct,∀ y∈[Qdu x],y.length=7:=λx y hy=>by rw [Qm.1 hy]; rfl
 have s3:∀ x:P3,∀ y∈[trL x],y.length=3:=λx y hy=>by rw [Qm.1 hy]; rfl
 obtain ⟨T,hT⟩:=nmE (Ls (Qac sg' (Gm W)));obtain ⟨G,hG⟩:=nmE (Bi T (Af sg' (Dt W)));have hTI:Qn9 T:=by rw [hT]; exact hTi _
 have hTm:Q4y T:=λk=>(hTI k).1
 have hGB:Qyd G:=λk=>by rw [hG]; exact Qis _ _ _ k
 rw [<-hT,<-hG];have e0:(Uo (((Pv 0 W).map (Om sg'))))=[]:=rfl;refine Fq Tryz.func61 rfl ?_;refine go tt [.c [] cw,.o 6 99 7] rfl trivial ?_;refine lp (S:=Nat) 4 (λL1 i=>(42,.v (.one (.int .i64 (i:Int))))::(6,.v (.one (.orow 2 7 none)))::L1) (λi=>[.blk 86 (crz (.row (Ud l)) .nils),.blk 79 (ta a),.row false 99 7 (Uo ((Pv i W).map (Om sg'))),.mpb (Ls (Qac sg' (Pv i W)))]) (λi=>W.length-i) (λi=>i<=W.length) 0 (Qg _) rfl (λ_ _=>rfl) rfl λi hi=>?_
 by_cases hlt:i<W.length
 ·obtain ⟨x,hx⟩:=gxE (l:=W) (i:=i) hlt;have xm:=Qa hx;obtain ⟨V,hV⟩:=nmE (W.drop (i+1));have hVl:V.length=W.length-(i+1):=by rw [hV,Zw]
  have hVm:∀ p∈V,p∈W:=λp hp=>by rw [hV] at hp; exact Qz hp
  have eV:(Ud W).drop (i+1)=Ud V:=by rw [hdr,<-hV]
  rw [<-On W x i];refine go tt [.t (decide_eq_true (by omega)),.x (Gk hx),.r 49 (eI (b:=((i+1:Nat):Int)) (by omega)),.i (i+1),.r 50 (Lk eV)] rfl (by simp only [W3]; (repeat' apply And.intro) <;> first | omega | exact hel) ?_;have hVr:=Re V;refine lp (S:=Nat) 5 (λL1 j=>(52,.v (.one (.int .i64 (j:Int))))::(6,.v (.one (.orow 2 7 none)))::L1) (λj=>[.blk 86 (crz (.row (Ud l)) .nils),.blk 79 (ta a),.row false 99 7 (Uo ((p3j W x i j).map (Om sg'))),.mpb (Ls (Qac sg' (p3j W x i j))),.blk 114 (Gd x)]) (λj=>V.length-j) (λj=>j<=V.length) 0 (Qg _) rfl (λ_ _=>rfl) rfl λj hj=>?_
  by_cases hltj:j<V.length
  ·obtain ⟨y,hy⟩:=gxE (l:=V) (i:=j) hltj;have ym:=hVm y (Qa hy);have hy':(W.drop (i+1))[j]? = some y:=by rw [<-hV]; exact hy
   obtain ⟨U,hU⟩:=nmE (V.drop (j+1));have hUl:U.length=V.length-(j+1):=by rw [hU,Zw]
   have hUm:∀ p∈U,p∈W:=λp hp=>by rw [hU] at hp; exact hVm p (Qz hp)
   have hUW:U=(W.drop (i+1)).drop (j+1):=by rw [hU,hV]
   have eU:(Ud W).drop (i+j+2)=Ud U:=by rw [hdr,hU,hV,X1]; congr 2; omega
   have hUr:=Re U;rw [<-Oq W x y i j];refine go tt [.t (decide_eq_true (by omega)),.x (Gk hy),.r 61 (eI (b:=((i+j+2:Nat):Int)) (by omega)),.i (i+j+2),.r 62 (Lk eU)] rfl (by simp only [W3]; (repeat' apply And.intro) <;> first | omega | exact hel) ?_;refine lp (S:=Nat) 6 (λL1 k=>(64,.v (.one (.int .i64 (k:Int))))::(6,.v (.one (.orow 2 7 none)))::L1) (λk=>[.blk 86 (crz (.row (Ud l)) .nils),.blk 79 (ta a),.row false 99 7 (Uo ((p3k W x y i j k).map (Om sg'))),.mpb (Ls (Qac sg' (p3k W x y i j k))),.blk 114 (Gd x),.blk 114 (Gd y)]) (λk=>U.length-k) (λk=>k<=U.length) 0 (Qg _) rfl (λ_ _=>rfl) rfl λk hk=>?_
   by_cases hltk:k<U.length
   ·obtain ⟨z,hz⟩:=gxE (l:=U) (i:=k) hltk;have zm:=hUm z (Qa hz);have hlen:=Qh6 hW6 (k:=k) hx hy';have en:=Oo (x:=x) (y:=y) (by rw [<-hUW]; exact hz);have et:=Qle sg' (p3k W x y i j k) (x,y,z);rw [<-en] at et;refine go tt [.t (decide_eq_true (by omega)),.x (Gk hz),.c [] (mR xm ym zm),.s (sz:=7) (s7 _)] rfl (by simp [W3,Mh] <;> omega) ?_;exact rd (k+1) (by omega) hltk (by rw [et,en,Xy]; simp [Uo]; rfl)
   ·have e:=Qdy (x:=x) (k:=k) hy' (by rw [<-hUW]; omega);rw [e];refine go tt [.f (decide_eq_false (by omega))] rfl (by simp [W3] <;> omega) ?_;exact rd (j+1) (by omega) hltj rfl
  ·have e:=Qdw (x:=x) (j:=j) hx (by rw [<-hV]; omega);rw [e];refine go tt [.f (decide_eq_false (by omega))] rfl (by simp [W3] <;> omega) ?_;exact rd (i+1) (by omega) hlt rfl
 rw [Qik (show i=W.length by omega),<-hT];have hiW:¬i<W.length:=hlt;clear hlt;obtain ⟨C3,hC3⟩:=nmE ((Gm W).map (Om sg'));have hC3l:C3.length<=20:=by rw [hC3,Q7]; exact (Ic hW6).1
 rw [<-hC3];refine go tt [.f (decide_eq_false (by omega))] rfl trivial ?_;have eC:Uo C3=Uo (C3++(M4 0 W).map (Aw sg')):=by rw [show M4 0 W=[] from rfl,X3,Xd]
 rw [eC];refine lp (S:=Nat) 5 (λL1 i=>(97,.v (.one (.int .i64 (i:Int))))::(6,.v (.one (.orow 2 7 none)))::L1) (λi=>[.blk 86 (crz (.row (Ud l)) .nils),.blk 79 (ta a),.row false 99 7 (Uo (C3++(M4 i W).map (Aw sg'))),.mpb T,.mpb (Bi T (Af sg' (M4 i W)))]) (λi=>W.length-i) (λi=>i<=W.length) 0 (Qg _) rfl (λ_ _=>rfl) rfl λi hi=>?_
 by_cases hlt:i<W.length
 ·obtain ⟨x,hx⟩:=gxE (l:=W) (i:=i) hlt;have xm:=Qa hx;obtain ⟨V,hV⟩:=nmE (W.drop (i+1));have hVl:V.length=W.length-(i+1):=by rw [hV,Zw]
  have hVm:∀ p∈V,p∈W:=λp hp=>by rw [hV] at hp; exact Qz hp
  have eV:(Ud W).drop (i+1)=Ud V:=by rw [hdr,<-hV]
  have hVr:=Re V;rw [<-Qth W x i];refine go tt [.t (decide_eq_true (by omega)),.x (Gk hx),.r 104 (eI (b:=((i+1:Nat):Int)) (by omega)),.i (i+1),.r 105 (Lk eV)] rfl (by simp only [W3]; (repeat' apply And.intro) <;> first | omega | exact hel) ?_;refine lp (S:=Nat) 6 (λL1 j=>(107,.v (.one (.int .i64 (j:Int))))::(6,.v (.one (.orow 2 7 none)))::L1) (λj=>[.blk 86 (crz (.row (Ud l)) .nils),.blk 79 (ta a),.row false 99 7 (Uo (C3++(p4j W x i j).map (Aw sg'))),.mpb T,.mpb (Bi T (Af sg' (p4j W x i j))),.blk 114 (Gd x)]) (λj=>V.length-j) (λj=>j<=V.length) 0 (Qg _) rfl (λ_ _=>rfl) rfl λj hj=>?_
  by_cases hltj:j<V.length
  ·obtain ⟨y,hy⟩:=gxE (l:=V) (i:=j) hltj;have ym:=hVm y (Qa hy);have hy':(W.drop (i+1))[j]? = some y:=by rw [<-hV]; exact hy
   obtain ⟨U,hU⟩:=nmE (V.drop (j+1));have hUl:U.length=V.length-(j+1):=by rw [hU,Zw]
   have hUm:∀ p∈U,p∈W:=λp hp=>by rw [hU] at hp; exact hVm p (Qz hp)
   have hUW:U=(W.drop (i+1)).drop (j+1):=by rw [hU,hV]
   have eU:(Ud W).drop (i+j+2)=Ud U:=by rw [hdr,hU,hV,X1]; congr 2; omega
   have hUr:=Re U;rw [<-Qti W x y i j];refine go tt [.t (decide_eq_true (by omega)),.x (Gk hy),.r 116 (eI (b:=((i+j+2:Nat):Int)) (by omega)),.i (i+j+2),.r 117 (Lk eU)] rfl (by simp only [W3]; (repeat' apply And.intro) <;> first | omega | exact hel) ?_;refine lp (S:=Nat) 7 (λL1 k=>(119,.v (.one (.int .i64 (k:Int))))::(6,.v (.one (.orow 2 7 none)))::L1) (λk=>[.blk 86 (crz (.row (Ud l)) .nils),.blk 79 (ta a),.row false 99 7 (Uo (C3++(p4k W x y i j k).map (Aw sg'))),.mpb T,.mpb (Bi T (Af sg' (p4k W x y i j k))),.blk 114 (Gd x),.blk 114 (Gd y)]) (λk=>U.length-k) (λk=>k<=U.length) 0 (Qg _) rfl (λ_ _=>rfl) rfl λk hk=>?_
   by_cases hltk:k<U.length
   ·obtain ⟨z,hz⟩:=gxE (l:=U) (i:=k) hltk;have zm:=hUm z (Qa hz);have hz':((W.drop (i+1)).drop (j+1))[k]? = some z:=by rw [<-hUW]; exact hz
    obtain ⟨R,hR⟩:=nmE (U.drop (k+1));have hRl:R.length=U.length-(k+1):=by rw [hR,Zw]
    have hRm:∀ p∈R,p∈W:=λp hp=>by rw [hR] at hp; exact hUm p (Qz hp)
    have hRW:R=((W.drop (i+1)).drop (j+1)).drop (k+1):=by rw [hR,hUW]
    have eR:(Ud W).drop (i+j+k+3)=Ud R:=by rw [hdr,hRW,X1,X1]; congr 2; omega
    have hRr:=Re R;rw [<-Qtl W x y z i j k];refine go tt [.t (decide_eq_true (by omega)),.x (Gk hz),.r 130 (eI (b:=((i+j+k+3:Nat):Int)) (by omega)),.i (i+j+k+3),.r 131 (Lk eR)] rfl (by simp only [W3]; (repeat' apply And.intro) <;> first | omega | exact hel) ?_;refine lp (S:=Nat) 8 (λL1 m=>(133,.v (.one (.int .i64 (m:Int))))::(6,.v (.one (.orow 2 7 none)))::L1) (λm=>[.blk 86 (crz (.row (Ud l)) .nils),.blk 79 (ta a),.row false 99 7 (Uo (C3++(p4m W x y z i j k m).map (Aw sg'))),.mpb T,.mpb (Bi T (Af sg' (p4m W x y z i j k m))),.blk 114 (Gd x),.blk 114 (Gd y),.blk 114 (Gd z)]) (λm=>R.length-m) (λm=>m<=R.length) 0 (Qg _) rfl (λ_ _=>rfl) rfl λm hm=>?_
    by_cases hltm:m<R.length
    ·obtain ⟨u,hu⟩:=gxE (l:=R) (i:=m) hltm;have um:=hRm u (Qa hu);have hlen:=Q01 hW6 (m:=m) hx hy' hz';have en:=Qtk (x:=x) (y:=y) (z:=z) (by rw [<-hRW]; exact hu);have et:=Qju sg' T (p4m W x y z i j k m) (x,y,z,u);rw [<-en] at et;have cf:=Q6d (F:=Bi T (Af sg' (p4m W x y z i j k m))) (s:=(Qkf sg' x y z u).want) (n0:=x.id) (n1:=y.id) (n2:=z.id) (n3:=u.id) hTI (hgb _);refine go tt [.t (decide_eq_true (by omega)),.x (Gk hu),.c [] (mC xm ym zm um),.s (sz:=7) (s7 _),.c [4,3] cf] rfl (by simp [W3,Mh] <;> omega) ?_;exact rd (m+1) (by omega) hltm (by rw [et,en,Xy,<-Ze]; simp [Uo]; rfl)
    ·have e:=Q00 (x:=x) (y:=y) (m:=m) hz' (by rw [<-hRW]; omega);rw [e];refine go tt [.f (decide_eq_false (by omega))] rfl (by simp [W3] <;> omega) ?_;exact rd (k+1) (by omega) hltk rfl
   ·have e:=Q0z (x:=x) (k:=k) hy' (by rw [<-hUW]; omega);rw [e];refine go tt [.f (decide_eq_false (by omega))] rfl (by simp [W3] <;> omega) ?_;exact rd (j+1) (by omega) hltj rfl
  ·have e:=Q0y (x:=x) (j:=j) hx (by rw [<-hV]; omega);rw [e];refine go tt [.f (decide_eq_false (by omega))] rfl (by simp [W3] <;> omega) ?_;exact rd (i+1) (by omega) hlt rfl
 rw [Q1h (show i=W.length by omega),<-hG];obtain ⟨C4,hC4⟩:=nmE (C3++(Dt W).map (Aw sg'));rw [<-hC4];refine go tt [.f (decide_eq_false (by omega))] rfl trivial ?_;refine ozM 0 13 50 3 rfl rfl ?_;have eT:([]:List (List LV))=M5 ((Pv 0 W).filter (isT T G)):=rfl;rw [eT];refine lp (S:=Nat) 6 (λL1 i=>(174,.v (.one (.int .i64 (i:Int))))::L1) (λi=>[.blk 86 [.bool false,.nils,.bool false,.nils,.bool false,.nils,.bool false,.nils,.bool false,.nils,.nils,.int .i64 0,.row (Ud l),.orow 5 3 none],.blk 79 (ta a),.row false 99 7 (Uo C4),.mpb T,.mpb G,.row false 50 3 (M5 ((Pv i W).filter (isT T G)))]) (λi=>W.length-i) (λi=>i<=W.length) 0 (Qg _) rfl (λ_ _=>rfl) rfl λi hi=>?_
 by_cases hlt:i<W.length
 ·obtain ⟨x,hx⟩:=gxE (l:=W) (i:=i) hlt;obtain ⟨V,hV⟩:=nmE (W.drop (i+1));have hVl:V.length=W.length-(i+1):=by rw [hV,Zw]
  have eV:(Ud W).drop (i+1)=Ud V:=by rw [hdr,<-hV]
  have hVr:=Re V;rw [<-On W x i];refine go tt [.t (decide_eq_true (by omega)),.x (Gk hx),.r 181 (eI (b:=((i+1:Nat):Int)) (by omega)),.i (i+1),.r 182 (Lk eV)] rfl (by simp only [W3]; (repeat' apply And.intro) <;> first | omega | exact hel) ?_;refine lp (S:=Nat) 7 (λL1 j=>(184,.v (.one (.int .i64 (j:Int))))::L1) (λj=>[.blk 86 [.bool false,.nils,.bool false,.nils,.bool false,.nils,.bool false,.nils,.bool false,.nils,.nils,.int .i64 0,.row (Ud l),.orow 5 3 none],.blk 79 (ta a),.row false 99 7 (Uo C4),.mpb T,.mpb G,.row false 50 3 (M5 ((p3j W x i j).filter (isT T G))),.blk 114 (Gd x)]) (λj=>V.length-j) (λj=>j<=V.length) 0 (Qg _) rfl (λ_ _=>rfl) rfl λj hj=>?_
  by_cases hltj:j<V.length
  ·obtain ⟨y,hy⟩:=gxE (l:=V) (i:=j) hltj;have hy':(W.drop (i+1))[j]? = some y:=by rw [<-hV]; exact hy
   obtain ⟨U,hU⟩:=nmE (V.drop (j+1));have hUl:U.length=V.length-(j+1):=by rw [hU,Zw]
   have hUW:U=(W.drop (i+1)).drop (j+1):=by rw [hU,hV]
   have eU:(Ud W).drop (i+j+2)=Ud U:=by rw [hdr,hU,hV,X1]; congr 2; omega
   have hUr:=Re U;rw [<-Oq W x y i j];refine go tt [.t (decide_eq_true (by omega)),.x (Gk hy),.r 193 (eI (b:=((i+j+2:Nat):Int)) (by omega)),.i (i+j+2),.r 194 (Lk eU)] rfl (by simp only [W3]; (repeat' apply And.intro) <;> first | omega | exact hel) ?_;refine lp (S:=Nat) 8 (λL1 k=>(196,.v (.one (.int .i64 (k:Int))))::L1) (λk=>[.blk 86 [.bool false,.nils,.bool false,.nils,.bool false,.nils,.bool false,.nils,.bool false,.nils,.nils,.int .i64 0,.row (Ud l),.orow 5 3 none],.blk 79 (ta a),.row false 99 7 (Uo C4),.mpb T,.mpb G,.row false 50 3 (M5 ((p3k W x y i j k).filter (isT T G))),.blk 114 (Gd x),.blk 114 (Gd y)]) (λk=>U.length-k) (λk=>k<=U.length) 0 (Qg _) rfl (λ_ _=>rfl) rfl λk hk=>?_
   by_cases hltk:k<U.length
   ·obtain ⟨z,hz⟩:=gxE (l:=U) (i:=k) hltk;have hlen:=Qh6 hW6 (k:=k) hx hy';have en:=Oo (x:=x) (y:=y) (by rw [<-hUW]; exact hz);have hfl:=Vg (isT T G) (p3k W x y i j k);have htl:=Ak ((p3k W x y i j k).filter (isT T G));by_cases h1:A4 T [x.id,y.id,z.id]≠0
    ·by_cases h2:Qcz G [x.id,y.id,z.id]=true
     ·have ef:isT T G (x,y,z)=false:=by unfold isT Qls; simp [h2]
      have eF:=Qo8 (ps:=p3k W x y i j k) ef;rw [<-en] at eF;refine go tt [.t (decide_eq_true (by omega)),.x (Gk hz),.g 211 true (decide_eq_true h1),.f (by rw [h2]; rfl)] rfl (by simp only [W3]; (repeat' apply And.intro) <;> first | exact hTm | exact hGB | omega | (simp only [Q6,X2]; omega)) ?_;exact rd (k+1) (by omega) hltk (by rw [eF]; rfl)
     ·have h2:Qcz G [x.id,y.id,z.id]=false:=by simpa using h2
      have ef:isT T G (x,y,z)=true:=by unfold isT Qls; simp [h2,h1]
      have eF:=Q7v (ps:=p3k W x y i j k) ef;rw [<-en] at eF;refine go tt [.t (decide_eq_true (by omega)),.x (Gk hz),.g 211 true (decide_eq_true h1),.t (by rw [h2]; rfl),.s (sz:=3) (s3 (x,y,z))] rfl (by simp only [W3]; (repeat' apply And.intro) <;> first | exact hTm | exact hGB | omega | (simp only [Q6,X2]; omega)) ?_;exact rd (k+1) (by omega) hltk (by rw [eF]; simp [M5]; rfl)
    ·have ef:isT T G (x,y,z)=false:=by unfold isT Qls; simp [h1]
     have eF:=Qo8 (ps:=p3k W x y i j k) ef;rw [<-en] at eF;refine go tt [.t (decide_eq_true (by omega)),.x (Gk hz),.g 211 false (decide_eq_false h1),.f rfl] rfl (by simp only [W3]; (repeat' apply And.intro) <;> first | exact hTm | exact hGB | omega | (simp only [Q6,X2]; omega)) ?_;exact rd (k+1) (by omega) hltk (by rw [eF]; rfl)
   ·have e:=Qdy (x:=x) (k:=k) hy' (by rw [<-hUW]; omega);rw [e];refine go tt [.f (decide_eq_false (by omega))] rfl (by simp [W3] <;> omega) ?_;exact rd (j+1) (by omega) hltj rfl
  ·have e:=Qdw (x:=x) (j:=j) hx (by rw [<-hV]; omega);rw [e];refine go tt [.f (decide_eq_false (by omega))] rfl (by simp [W3] <;> omega) ?_;exact rd (i+1) (by omega) hlt rfl
 rw [Qik (show i=W.length by omega)];rw [hC4,hC3];exact ed tt [2,5] [0] [.f (decide_eq_false (by omega))] rfl trivial
end Orr
namespace Orr
open Go Go.Proofs Orq
theorem Zao {x y:Int} (hx:-9223372036854775808<=x/\x<=9223372036854775807) (hy:-9223372036854775808<=y/\y<=9223372036854775807):Sc (Qny x y):=⟨Crv.nml _,((Qr0 hx hy).norm (by decide)).mono (by decide) (by decide)⟩
theorem Sc.pt {p:Pt} (h:Sc p.c):Quz 4294967294 1073741824 p:=⟨h.n,h.c.mono (by decide) (by decide)⟩
end Orr
namespace Orr
open Go Go.Proofs Orq
set_option maxRecDepth 10000
theorem Zk6 {T:Nat} {t:Rat} {Bc:Tm->List Ct} {Br:Tm->List (List LV)} {r0:List (List LV)} (ht:Qs 400000 t) (hB:BuildOk Bc)
 (hb:∀ a c r1,Va a->CrOk c->G5 Tryz.prog 61 [.one (.ow 0 0),.agg (ta a)] [.blk T (Md c r0 r1)] [.one (.row (Uo (Bc a)))] [.blk T (Md c r0 (Br a))])
 {K:Nat} {c c':Cr} {r1 r1':List (List LV)} {n:Int} (hc:CrOk c) (hev:0<=c.ev/\c.ev+K<=1000000000000000000) (h:Ul c.now t<=0) (hg:goF Bc Br t K c r1 0=some (c',r1',n)) :
 G5 Tryz.prog 59 [.one (.ow 0 0),.agg (rl t),.one (.ofn 61 [.ow 0 0] [])] [.blk T (Md c r0 r1)] [.one (.int .i64 n),.one (.int .i64 0)] [.blk T (Md c' r0 r1')]:=by
 have qt:Qb t:=ht.mono (by decide);have c1:=Qe2 hc.n.tb qt;refine Fq Tryz.func59 rfl ?_;refine go tt [.c [0] (Qvk hc.n),.c [] c1,.f (by simpa using h)] rfl trivial ?_;refine lp (S:=Nat×Cr×List (List LV)×Int) 2 (λL1 s=>(8,.v (.one (.int .i64 s.2.2.2)))::L1) (λs=>[.blk T (Md s.2.1 r0 s.2.2.1),.blk 74 (rl t)]) (λs=>s.1) (λs=>CrOk s.2.1/\(0<=s.2.1.ev/\s.2.1.ev+s.1<=1000000000000000000)/\(0<=s.2.2.2/\s.2.2.2+s.1<=1000000000000000000)/\goF Bc Br t s.1 s.2.1 s.2.2.1 s.2.2.2=some (c',r1',n)) (K,c,r1,0) ⟨hc,hev,⟨Int.le_refl 0,by dsimp only; omega⟩,hg⟩ rfl (λ_ _=>rfl) rfl λ⟨k,x,r,m⟩ ⟨j1,j2,j3,j4⟩=>?_
 dsimp only at j1 j2 j3 j4 ⊢;cases k with
 | zero=>cases j4
 |
  succ k =>
  simp only [goF] at j4;obtain ⟨ws,w1,j4⟩:=Qe.1 j4;obtain ⟨o,o1,j4⟩:=Qe.1 j4;have cn:=Zcs (T:=T) (r0:=r0) (r1:=r) j1 w1 o1;have ca:=Zgs (W6 t.num) (W6 (t.den:Int)) (Qc ht.1 (by decide)) (Qc ht.2 (by decide)) (by rw [Ib]; exact ht.mono (by decide));rw [Ib] at ca;cases o with
  |
   none =>
   injection j4 with j4; injection j4 with e1 j4; injection j4 with e2 e3;subst e1; subst e2; subst e3;exact ed tt [] [0] [.c [0] cn,.g 25 true rfl,.t rfl,.c [] ca] rfl trivial
  |
   some a =>
   have ha:=Zjj j1 w1 o1;dsimp only at j4;have cc:=Qe2 ha.tb qt;by_cases h0:0<Ul a t
   ·rw [if_pos h0] at j4;injection j4 with j4; injection j4 with e1 j4; injection j4 with e2 e3;subst e1; subst e2; subst e3;exact ed tt [] [0] [.c [0] cn,.g 25 false rfl,.c [] cc,.t (by simpa using h0),.c [] ca] rfl trivial
   ·rw [if_neg h0] at j4;obtain ⟨w2,l1,j4⟩:=Qe.1 j4;have j1':=Qh1 j1 w1;have cl:=Iv (b:=a) (l:=[]) ha.tb (λt ht=>by cases ht) (by decide) rfl;have cb:=hb a { x with l:=ws } r ha j1';have cy:=Zcq (T:=T) (r0:=r0) (r1:=Br a) j1' ha (hB.p a ha) (hB.n a ha) l1;have hf:decide (0<Ul a t)=false:=by simpa using h0
    refine go tt [.c [0] cn,.g 25 false rfl,.c [] cc,.f hf,.c [] cl,.c [0] cb,.c [0] cy] rfl (by simp [W3]; omega) ?_;exact rd (k,⟨a,w2,x.ev+1⟩,Br a,m+1) (by dsimp only; omega) ⟨lay_ok _ j1' ha (hB.p a ha) (hB.n a ha) l1,by dsimp only; omega,by dsimp only; omega,j4⟩ rfl
theorem Q2g {T:Nat} {t:Rat} {c:Cr} {r0 r1:List (List LV)} (ht:Qb t) (hc:Va c.now) (h:0<Ul c.now t) :
 G5 Tryz.prog 59 [.one (.ow 0 0),.agg (rl t),.one (.ofn 61 [.ow 0 0] [])] [.blk T (Md c r0 r1)] [.one (.int .i64 0),.one (.int .i64 8)] [.blk T (Md c r0 r1)]:=by
 refine Fq Tryz.func59 rfl ?_;exact ed tt [] [0] [.c [0] (Qvk hc),.c [] (Qe2 hc.tb ht),.t (by simpa using h)] rfl trivial
theorem Qyp {zs:List (List LV)} {qs l:List Pt} {x y x' y':LV} {n d:Int} (hz:IsPts 4294967294 1073741824 zs qs) (hq:qs.length≤6) (hnl:Rj [] qs=(l,0)) (hl:∀ p∈l,Sc p.c) (hn:l.length≤6) (h1:G7 x y n) (h2:G7 x' y' d) (bn:Ug n≤4294967295) (bd:Ug d≤4294967295) (ht:Qs 400000 (Fl n d)) :
 G5 Tryz.prog 46 [.agg [x,y,x',y'],.one (.row zs)] [] [.one (.ow 0 0),.one (.int .i64 0)] [.blk 86 (Md (Q5a l (tq (Fl n d))) (Ud l) (brD l (tq (Fl n d))))]:=by
 have cn:=Zk8 hz hq;rw [hnl] at cn;have co:=Zgs h1 h2 bn bd (ht.mono (by decide));have hv:=Zf8 ht;have hB:=Qu4 hl hn;have cb:=Q2e hl hn hv;have cg:=Q2k (T:=86) (r0:=Ud l) (r1:=brD l (tq (Fl n d))) hv (hB.p _ hv) (hB.n _ hv);obtain ⟨b,l1,rfl,rfl,_⟩:=h1;obtain ⟨b',l2,rfl,rfl,_⟩:=h2;refine Fq Tryz.func46 rfl ?_;exact ed tt [] [2] [.c [] cn,.f rfl,.c [] co,.c [2] cb,.c [2] cg] rfl trivial
theorem Qvh {t:Rat} {l:List Pt} {K:Nat} {c c':Cr} {r1 r1':List (List LV)} {n:Int} (ht:Qs 400000 t) (hl:∀ p∈l,Sc p.c) (hn:l.length≤6) (hc:CrOk c) (hev:0≤c.ev/\c.ev+K≤1000000000000000000) (h:Ul c.now t≤0) (hg:goF (bcD l) (brD l) t K c r1 0=some (c',r1',n)) :
 G5 Tryz.prog 18 [.one (.ow 0 0),.agg (rl t)] [.blk 86 (Md c (Ud l) r1)] [.one (.int .i64 n),.one (.int .i64 0)] [.blk 86 (Md c' (Ud l) r1')]:=by
 have cg:=Zk6 (T:=86) (r0:=Ud l) ht (Qu4 hl hn) (λa c r1 ha _=>Q2f (c:=c) (r1:=r1) hl hn ha) hc hev h hg;refine Fq Tryz.func18 rfl ?_;exact ed tt [] [0] [.c [] (Lc (ht.mono (by decide))),.c [0] cg] rfl trivial
theorem Qvi {t:Rat} {l:List Pt} {c:Cr} {r1:List (List LV)} (ht:Qs 400000 t) (hc:Va c.now) (h:0<Ul c.now t) :
 G5 Tryz.prog 18 [.one (.ow 0 0),.agg (rl t)] [.blk 86 (Md c (Ud l) r1)] [.one (.int .i64 0),.one (.int .i64 8)] [.blk 86 (Md c (Ud l) r1)]:=by
 have cg:=Q2g (T:=86) (r0:=Ud l) (r1:=r1) (ht.mono (by decide)) hc h;refine Fq Tryz.func18 rfl ?_;exact ed tt [] [0] [.c [] (Lc (ht.mono (by decide))),.c [0] cg] rfl trivial
abbrev Nj (e:Int×Int):List LV:=[.int .i64 e.1,.int .i64 e.2]
def Nu (l:List (Int×Int)):List (List LV):=l.map Nj
theorem Ga (l:List (Int×Int)):(Nu l).length=l.length:=by simp [Nu]
theorem Qdb {l:List (Int×Int)} {i:Nat} {e:Int×Int} (h:l[i]? = some e):(Nu l)[i]? = some (Nj e):=Fb h
theorem Qaq (l:List (Int×Int)):∀ c∈Nu l,c.length=2:=λc hc=>by
 obtain ⟨x,_,rfl⟩:=Zd.1 hc; rfl
def M8 (a b:Int×Int):Bool:=decide (a.1<b.1) || (decide (a.1=b.1) && decide (a.2<b.2))
def Bz (e:Int×Int):List (Int×Int)->Nat
 | []=>0
 | x::l=>if M8 x e=true then Bz e l+1 else 0
theorem Qd1 (e:Int×Int):∀ l,Bz e l<=l.length
 | []=>Qn _
 |
  x::l=>by
  have:=Qd1 e l;simp only [Bz,Q6]
  split <;> omega
theorem Qp2 {e x:Int×Int} {l:List (Int×Int)} {k:Nat} (hx:l[k]? = some x) (h:M8 x e=true):Bz e (l.drop k)=Bz e (l.drop (k+1))+1:=by
 obtain ⟨hk,hx⟩:=Qd.1 hx;rw [Zj hk,hx];simp only [Bz,h,if_true]
theorem Qkq {e x:Int×Int} {l:List (Int×Int)} {k:Nat} (hx:l[k]? = some x) (h:M8 x e=false):Bz e (l.drop k)=0:=by
 obtain ⟨hk,hx⟩:=Qd.1 hx;rw [Zj hk,hx];simp [Bz,h]
theorem Qkp {e:Int×Int} {l:List (Int×Int)} {k:Nat} (h:¬k<l.length):Bz e (l.drop k)=0:=by
 rw [Yk (by omega)]; rfl
def Et (out:List (Int×Int)) (e:Int×Int):List (Int×Int):=if out[Bz e out]? = some e then out else out.take (Bz e out)++e::out.drop (Bz e out)
theorem Eu (out:List (Int×Int)) (e:Int×Int):(Et out e).length<=out.length+1:=by
 have:=Qd1 e out;unfold Et
 split
 ·omega
 ·simp; omega
def Qb6 (out:List (Int×Int)) (m:P3):List (Int×Int):=Et (Et (Et out (m.1.id,m.2.1.id)) (m.1.id,m.2.2.id)) (m.2.1.id,m.2.2.id)
def Bw (ts:List P3):List (Int×Int):=ts.foldl Qb6 []
theorem Qsc {ts:List P3} {i:Nat} {m:P3} (h:ts[i]? = some m):Bw (ts.take (i+1))=Qb6 (Bw (ts.take i)) m:=by
 rw [Z1,h]; simp [Bw,Yu]
theorem Qwc (out:List (Int×Int)) (m:P3):(Qb6 out m).length<=out.length+3:=by
 have h1:=Eu out (m.1.id,m.2.1.id);have h2:=Eu (Et out (m.1.id,m.2.1.id)) (m.1.id,m.2.2.id);have h3:=Eu (Et (Et out (m.1.id,m.2.1.id)) (m.1.id,m.2.2.id)) (m.2.1.id,m.2.2.id);unfold Qb6; omega
theorem Qb5:∀ (ts:List P3) (out:List (Int×Int)),(ts.foldl Qb6 out).length<=out.length+3*ts.length
 | [],out=>by simp
 |
  m::ts,out=>by
  have h1:=Qb5 ts (Qb6 out m);have h2:=Qwc out m;simp only [Z4,Q6]; omega
theorem Pe {O:List (Int×Int)} {z:List LV} {e:Int×Int} {k m:Nat} {l2:List (List LV)} (hk:k<=O.length) (hp:Bz e O=k) (hne:O[k]? ≠ some e) (hm:m=O.length-k) (h2:l2.take m=((Nu O++[z]).drop k).take m) :
 ((Nu O++[z]).take (k+1)++(l2.take m++(Nu O++[z]).drop (k+1+m))).set k (Nj e)=Nu (Et O e):=by
 rw [h2,<-Ze,Qss (Nu O) z (Nj e) (by rw [Ga]; omega) (by rw [Ga]; omega)];simp [Et,hp,hne,Nu,Yd,Wb]
theorem Qbx {c:Cr} {r0:List (List LV)} {ts:List P3} (ht:ts.length<=1000):G5 Tryz.prog 10 [.one (.ow 0 0)] [.blk 86 (Md c r0 (M5 ts))] [.one (.row (M5 ts))] [.blk 86 (Md c r0 (M5 ts))]:=by
 have hl:=Ak ts;have h3:∀ y∈M5 ts,y.length=3:=λy hy=>by obtain ⟨m,_,rfl⟩:=Zd.1 hy; rfl
 refine Fq Tryz.func10 rfl ?_;exact ed tt [1] [0] [.s (sz:=3) h3] rfl (by simp [W3] <;> omega)
set_option maxHeartbeats 8000000 in
theorem Qiu {c:Cr} {r0:List (List LV)} {ts:List P3} (ht:ts.length<=1000):G5 Tryz.prog 58 [.one (.ow 0 0)] [.blk 86 (Md c r0 (M5 ts))] [.one (.row (Nu (Bw ts)))] [.blk 86 (Md c r0 (M5 ts))]:=by
 have hl:=Ak ts;refine Fq Tryz.func58 rfl ?_;refine go tt [.o 3 143 2] rfl trivial ?_;refine lp (S:=Nat) 2 (λL1 i=>(14,.v (.one (.int .i64 (i:Int))))::(3,.v (.one (.orow 1 2 none)))::L1) (λi=>[.blk 86 (Md c r0 (M5 ts)),.row false 143 2 (Nu (Bw (ts.take i)))]) (λi=>ts.length-i) (λi=>i<=ts.length) 0 (Qg _) rfl (λ_ _=>rfl) rfl λi hi=>?_
 by_cases hlt:i<ts.length
 ·obtain ⟨m,hm⟩:=gxE (l:=ts) (i:=i) hlt;have hst:=Qsc hm;have hEl:=Qb5 (ts.take i) [];have htk:(ts.take i).length<=1000:=by rw [Qx]; omega
  obtain ⟨G,hG⟩:=nmE (Bw (ts.take i));have hGl:G.length<=3000:=by rw [hG]; unfold Bw; simp only [List.length_nil] at hEl; omega
  rw [<-hG] at hst ⊢;obtain ⟨g,hg⟩:∃ g:Nat->List (Int×Int),g=λk=>([(m.1.id,m.2.1.id),(m.1.id,m.2.2.id),(m.2.1.id,m.2.2.id)].take k).foldl Et G:=⟨_,rfl⟩
  have g0:g 0=G:=by rw [hg]; rfl
  have g1:g 1=Et (g 0) (m.1.id,m.2.1.id):=by rw [hg]; rfl
  have g2:g 2=Et (g 1) (m.1.id,m.2.2.id):=by rw [hg]; rfl
  have g3:g 3=Et (g 2) (m.2.1.id,m.2.2.id):=by rw [hg]; rfl
  have g4:g 3=Qb6 G m:=by rw [hg]; rfl
  clear hg;have l1:=Eu (g 0) (m.1.id,m.2.1.id);have l2:=Eu (g 1) (m.1.id,m.2.2.id);have l3:=Eu (g 2) (m.2.1.id,m.2.2.id);rw [<-g1] at l1;rw [<-g2] at l2;rw [<-g3] at l3;rw [<-g4] at hst;rw [<-g0] at hGl ⊢;refine go tt [.t (decide_eq_true (by omega)),.x (Qld hm),.i 0,.i 1,.i 0,.i 2,.i 1,.i 2] rfl (by simp [W3]) ?_;refine lp (S:=Nat) 3 (λL1 k=>(34,.v (.one (.int .i64 (k:Int))))::(3,.v (.one (.orow 1 2 none)))::L1) (λk=>[.blk 86 (Md c r0 (M5 ts)),.row false 143 2 (Nu (g k)),.blk 50 (trL m)]) (λk=>3-k) (λk=>k<=3) 0 (by decide) rfl (λ_ _=>rfl) rfl λk hk=>?_
  rcases (show k=0\/k=1\/k=2\/k=3 by omega) with rfl | rfl | rfl | rfl
  ·obtain ⟨e,he⟩:∃ e:Int×Int,e=(m.1.id,m.2.1.id):=⟨_,rfl⟩;have gs:g 1=Et (g 0) e:=by rw [he]; exact g1
   have hOl:(g 0).length<=4000:=by omega
   obtain ⟨O,hO⟩:=nmE (g 0);rw [<-hO] at gs hOl ⊢;have e1:m.1.id=e.1:=by rw [he]
   have e2:m.2.1.id=e.2:=by rw [he]
   rw [show Nu O=Nu O from rfl];refine go tt [.t rfl,.i 0] rfl (by simp [W3]) ?_;rw [e1,e2];have hpl:=Qd1 e O;have hol:=Ga O;refine lp (S:=Nat) 4 (λL1 j=>(8,.v (.one (.int .i64 (j:Int))))::L1) (λ_=>[.blk 86 (Md c r0 (M5 ts)),.row false 143 2 (Nu O),.blk 50 (trL m),.blk 143 (Nj e)]) (λj=>O.length-j) (λj=>j<=O.length/\Bz e (O.drop j)+j=Bz e O) 0 ⟨Qg _,by rw [Xk]; rfl⟩ rfl (λ_ _=>rfl) rfl λj ⟨hj,hp⟩=>?_
   by_cases hjl:j<O.length
   ·obtain ⟨x,hx⟩:=gxE (l:=O) (i:=j) hjl;have hxe:=Qdb hx;by_cases hle:M8 x e=true
    ·have hp':=Qp2 hx hle;by_cases c1:x.1<e.1
     ·refine go tt [.g 41 true (decide_eq_true (by omega)),.i j,.i 0,.x hxe,.i 0,.g 50 true (decide_eq_true c1),.t rfl] rfl (by simp [W3] <;> omega) ?_;exact rd (j+1) (by omega) ⟨hjl,by omega⟩ rfl
     ·have hc:x.1=e.1/\x.2<e.2:=by unfold M8 at hle; simpa [c1] using hle
      refine go tt [.g 41 true (decide_eq_true (by omega)),.i j,.i 0,.x hxe,.i 0,.g 50 false (decide_eq_false c1),.i j,.i 0,.x hxe,.i 0,.g 59 true (decide_eq_true hc.1),.i j,.i 1,.x hxe,.i 1,.t (decide_eq_true hc.2)] rfl (by simp [W3] <;> omega) ?_;exact rd (j+1) (by omega) ⟨hjl,by omega⟩ rfl
    ·have hle:M8 x e=false:=by simpa using hle
     have hp':=Qkq hx hle;have hpj:Bz e O=j:=by omega
     have c1:¬x.1<e.1:=λh=>by unfold M8 at hle; simp [h] at hle
     have out:∀ {Q:Prop},(x.1=e.1->¬x.2<e.2->Q)->(x.1≠e.1->Q)->Q:=λh1 h2=>by
      by_cases h:x.1=e.1
      ·exact h1 h λh'=>by unfold M8 at hle; simp [h,h'] at hle
      ·exact h2 h
     by_cases heq:x=e
     ·have gs':g 1=O:=by rw [gs]; unfold Et; rw [hpj,hx,heq,if_pos rfl]
      have c2:x.1=e.1:=by rw [heq]
      have c3:¬x.2<e.2:=by rw [heq]; exact Wa _
      refine go tt [.g 41 true (decide_eq_true (by omega)),.i j,.i 0,.x hxe,.i 0,.g 50 false (decide_eq_false c1),.i j,.i 0,.x hxe,.i 0,.g 59 true (decide_eq_true c2),.i j,.i 1,.x hxe,.i 1,.f (decide_eq_false c3),.g 77 true (decide_eq_true (by omega)),.i j,.x hxe,.t (decide_eq_true (by rw [heq]))] rfl (by simp [W3] <;> omega) ?_;exact rd 1 (by omega) (by omega) (by rw [gs']; rfl)
     ·have hne:O[j]? ≠ some e:=λh=>by rw [hx] at h; injection h with h; exact heq h
      have hneL:¬[x.1,x.2]=[e.1,e.2]:=λh=>by simp at h; exact heq (Prod.ext h.1 h.2)
      have hz:∀ y∈[Nj e],y.length=2:=λy hy=>by rw [Qm.1 hy]; rfl
      have h22:∀ y∈Nu O++[Nj e],y.length=2:=λy hy=>by
       rcases Qw.1 hy with hy | hy
       ·exact Qaq O y hy
       ·exact hz y hy
      cases j with
      |
       zero =>
       have fz:=Pe (z:=Nj e) (l2:=(Nu O++[Nj e]).take ((Nu O++[Nj e]).length-0)) (k:=0) (m:=O.length) (by omega) hpj hne (by omega) (by congr 1; exact Qj (by simp));refine out (λc2 c3=>?_) λc2=>?_
       ·refine go tt [.g 41 true (decide_eq_true (by omega)),.i 0,.i 0,.x hxe,.i 0,.g 50 false (decide_eq_false c1),.i 0,.i 0,.x hxe,.i 0,.g 59 true (decide_eq_true c2),.i 0,.i 1,.x hxe,.i 1,.f (decide_eq_false c3),.g 77 true (decide_eq_true (by omega)),.i 0,.x hxe,.f (decide_eq_false hneL),.s (sz:=2) hz,.r 91 (eI (b:=((0+1:Nat):Int)) (by simp)),.i (0+1),.i 0,.s (sz:=2) (λy hy=>h22 y (Ql hy)),.i (O.length),.i 0] rfl (by simp [W3,Ga] <;> omega) ?_;exact rd 1 (by omega) (by omega) (by rw [gs,<-fz]; rfl)
       ·refine go tt [.g 41 true (decide_eq_true (by omega)),.i 0,.i 0,.x hxe,.i 0,.g 50 false (decide_eq_false c1),.i 0,.i 0,.x hxe,.i 0,.g 59 false (decide_eq_false c2),.f rfl,.g 77 true (decide_eq_true (by omega)),.i 0,.x hxe,.f (decide_eq_false hneL),.s (sz:=2) hz,.r 91 (eI (b:=((0+1:Nat):Int)) (by simp)),.i (0+1),.i 0,.s (sz:=2) (λy hy=>h22 y (Ql hy)),.i (O.length),.i 0] rfl (by simp [W3,Ga] <;> omega) ?_;exact rd 1 (by omega) (by omega) (by rw [gs,<-fz]; rfl)
      |
       succ j =>
       have fz:=Pe (z:=Nj e) (l2:=((Nu O++[Nj e]).drop (j+1)).take ((Nu O++[Nj e]).length-(j+1))) (k:=j+1) (m:=O.length-(j+1)) (by omega) hpj hne (by omega) (by congr 1; exact Qj (by simp));refine out (λc2 c3=>?_) λc2=>?_
       ·refine go tt [.g 41 true (decide_eq_true (by omega)),.i (j+1),.i 0,.x hxe,.i 0,.g 50 false (decide_eq_false c1),.i (j+1),.i 0,.x hxe,.i 0,.g 59 true (decide_eq_true c2),.i (j+1),.i 1,.x hxe,.i 1,.f (decide_eq_false c3),.g 77 true (decide_eq_true (by omega)),.i (j+1),.x hxe,.f (decide_eq_false hneL),.s (sz:=2) hz,.r 91 (eI (b:=((j+1+1:Nat):Int)) (by simp)),.i (j+1+1),.i (j+1),.s (sz:=2) (λy hy=>h22 y (Qz (Ql hy))),.i (O.length-(j+1)),.i (j+1)] rfl (by simp [W3,Ga] <;> omega) ?_;exact rd 1 (by omega) (by omega) (by rw [gs,<-fz]; rfl)
       ·refine go tt [.g 41 true (decide_eq_true (by omega)),.i (j+1),.i 0,.x hxe,.i 0,.g 50 false (decide_eq_false c1),.i (j+1),.i 0,.x hxe,.i 0,.g 59 false (decide_eq_false c2),.f rfl,.g 77 true (decide_eq_true (by omega)),.i (j+1),.x hxe,.f (decide_eq_false hneL),.s (sz:=2) hz,.r 91 (eI (b:=((j+1+1:Nat):Int)) (by simp)),.i (j+1+1),.i (j+1),.s (sz:=2) (λy hy=>h22 y (Qz (Ql hy))),.i (O.length-(j+1)),.i (j+1)] rfl (by simp [W3,Ga] <;> omega) ?_;exact rd 1 (by omega) (by omega) (by rw [gs,<-fz]; rfl)
   ·have hpj:Bz e O=j:=by have:=Qkp (e:=e) hjl; omega
    have hne:O[j]? ≠ some e:=λh=>hjl (Qd.1 h).1
    have hz:∀ y∈[Nj e],y.length=2:=λy hy=>by rw [Qm.1 hy]; rfl
    have h22:∀ y∈Nu O++[Nj e],y.length=2:=λy hy=>by
     rcases Qw.1 hy with hy | hy
     ·exact Qaq O y hy
     ·exact hz y hy
    cases j with
    |
     zero =>
     have fz:=Pe (z:=Nj e) (l2:=(Nu O++[Nj e]).take ((Nu O++[Nj e]).length-0)) (k:=0) (m:=O.length) (by omega) hpj hne (by omega) (by congr 1; exact Qj (by simp));refine go tt [.g 41 false (decide_eq_false (by omega)),.f rfl,.g 77 false (decide_eq_false (by omega)),.f rfl,.s (sz:=2) hz,.r 91 (eI (b:=((0+1:Nat):Int)) (by simp)),.i (0+1),.i 0,.s (sz:=2) (λy hy=>h22 y (Ql hy)),.i (O.length),.i 0] rfl (by simp [W3,Ga] <;> omega) ?_;exact rd 1 (by omega) (by omega) (by rw [gs,<-fz]; rfl)
    |
     succ j =>
     have fz:=Pe (z:=Nj e) (l2:=((Nu O++[Nj e]).drop (j+1)).take ((Nu O++[Nj e]).length-(j+1))) (k:=j+1) (m:=O.length-(j+1)) (by omega) hpj hne (by omega) (by congr 1; exact Qj (by simp));refine go tt [.g 41 false (decide_eq_false (by omega)),.f rfl,.g 77 false (decide_eq_false (by omega)),.f rfl,.s (sz:=2) hz,.r 91 (eI (b:=((j+1+1:Nat):Int)) (by simp)),.i (j+1+1),.i (j+1),.s (sz:=2) (λy hy=>h22 y (Qz (Ql hy))),.i (O.length-(j+1)),.i (j+1)] rfl (by simp [W3,Ga] <;> omega) ?_;exact rd 1 (by omega) (by omega) (by rw [gs,<-fz]; rfl)
  ·obtain ⟨e,he⟩:∃ e:Int×Int,e=(m.1.id,m.2.2.id):=⟨_,rfl⟩;have gs:g 2=Et (g 1) e:=by rw [he]; exact g2
   have hOl:(g 1).length<=4000:=by omega
   obtain ⟨O,hO⟩:=nmE (g 1);rw [<-hO] at gs hOl ⊢;have e1:m.1.id=e.1:=by rw [he]
   have e2:m.2.2.id=e.2:=by rw [he]
   rw [show Nu O=Nu O from rfl];refine go tt [.t rfl,.i 1] rfl (by simp [W3]) ?_;rw [e1,e2];have hpl:=Qd1 e O;have hol:=Ga O;refine lp (S:=Nat) 4 (λL1 j=>(8,.v (.one (.int .i64 (j:Int))))::L1) (λ_=>[.blk 86 (Md c r0 (M5 ts)),.row false 143 2 (Nu O),.blk 50 (trL m),.blk 143 (Nj e)]) (λj=>O.length-j) (λj=>j<=O.length/\Bz e (O.drop j)+j=Bz e O) 0 ⟨Qg _,by rw [Xk]; rfl⟩ rfl (λ_ _=>rfl) rfl λj ⟨hj,hp⟩=>?_
   by_cases hjl:j<O.length
   ·obtain ⟨x,hx⟩:=gxE (l:=O) (i:=j) hjl;have hxe:=Qdb hx;by_cases hle:M8 x e=true
    ·have hp':=Qp2 hx hle;by_cases c1:x.1<e.1
     ·refine go tt [.g 41 true (decide_eq_true (by omega)),.i j,.i 0,.x hxe,.i 0,.g 50 true (decide_eq_true c1),.t rfl] rfl (by simp [W3] <;> omega) ?_;exact rd (j+1) (by omega) ⟨hjl,by omega⟩ rfl
     ·have hc:x.1=e.1/\x.2<e.2:=by unfold M8 at hle; simpa [c1] using hle
      refine go tt [.g 41 true (decide_eq_true (by omega)),.i j,.i 0,.x hxe,.i 0,.g 50 false (decide_eq_false c1),.i j,.i 0,.x hxe,.i 0,.g 59 true (decide_eq_true hc.1),.i j,.i 1,.x hxe,.i 1,.t (decide_eq_true hc.2)] rfl (by simp [W3] <;> omega) ?_;exact rd (j+1) (by omega) ⟨hjl,by omega⟩ rfl
    ·have hle:M8 x e=false:=by simpa using hle
     have hp':=Qkq hx hle;have hpj:Bz e O=j:=by omega
     have c1:¬x.1<e.1:=λh=>by unfold M8 at hle; simp [h] at hle
     have out:∀ {Q:Prop},(x.1=e.1->¬x.2<e.2->Q)->(x.1≠e.1->Q)->Q:=λh1 h2=>by
      by_cases h:x.1=e.1
      ·exact h1 h λh'=>by unfold M8 at hle; simp [h,h'] at hle
      ·exact h2 h
     by_cases heq:x=e
     ·have gs':g 2=O:=by rw [gs]; unfold Et; rw [hpj,hx,heq,if_pos rfl]
      have c2:x.1=e.1:=by rw [heq]
      have c3:¬x.2<e.2:=by rw [heq]; exact Wa _
      refine go tt [.g 41 true (decide_eq_true (by omega)),.i j,.i 0,.x hxe,.i 0,.g 50 false (decide_eq_false c1),.i j,.i 0,.x hxe,.i 0,.g 59 true (decide_eq_true c2),.i j,.i 1,.x hxe,.i 1,.f (decide_eq_false c3),.g 77 true (decide_eq_true (by omega)),.i j,.x hxe,.t (decide_eq_true (by rw [heq]))] rfl (by simp [W3] <;> omega) ?_;exact rd 2 (by omega) (by omega) (by rw [gs']; rfl)
     ·have hne:O[j]? ≠ some e:=λh=>by rw [hx] at h; injection h with h; exact heq h
      have hneL:¬[x.1,x.2]=[e.1,e.2]:=λh=>by simp at h; exact heq (Prod.ext h.1 h.2)
      have hz:∀ y∈[Nj e],y.length=2:=λy hy=>by rw [Qm.1 hy]; rfl
      have h22:∀ y∈Nu O++[Nj e],y.length=2:=λy hy=>by
       rcases Qw.1 hy with hy | hy
       ·exact Qaq O y hy
       ·exact hz y hy
      cases j with
      |
       zero =>
       have fz:=Pe (z:=Nj e) (l2:=(Nu O++[Nj e]).take ((Nu O++[Nj e]).length-0)) (k:=0) (m:=O.length) (by omega) hpj hne (by omega) (by congr 1; exact Qj (by simp));refine out (λc2 c3=>?_) λc2=>?_
       ·refine go tt [.g 41 true (decide_eq_true (by omega)),.i 0,.i 0,.x hxe,.i 0,.g 50 false (decide_eq_false c1),.i 0,.i 0,.x hxe,.i 0,.g 59 true (decide_eq_true c2),.i 0,.i 1,.x hxe,.i 1,.f (decide_eq_false c3),.g 77 true (decide_eq_true (by omega)),.i 0,.x hxe,.f (decide_eq_false hneL),.s (sz:=2) hz,.r 91 (eI (b:=((0+1:Nat):Int)) (by simp)),.i (0+1),.i 0,.s (sz:=2) (λy hy=>h22 y (Ql hy)),.i (O.length),.i 0] rfl (by simp [W3,Ga] <;> omega) ?_;exact rd 2 (by omega) (by omega) (by rw [gs,<-fz]; rfl)
       ·refine go tt [.g 41 true (decide_eq_true (by omega)),.i 0,.i 0,.x hxe,.i 0,.g 50 false (decide_eq_false c1),.i 0,.i 0,.x hxe,.i 0,.g 59 false (decide_eq_false c2),.f rfl,.g 77 true (decide_eq_true (by omega)),.i 0,.x hxe,.f (decide_eq_false hneL),.s (sz:=2) hz,.r 91 (eI (b:=((0+1:Nat):Int)) (by simp)),.i (0+1),.i 0,.s (sz:=2) (λy hy=>h22 y (Ql hy)),.i (O.length),.i 0] rfl (by simp [W3,Ga] <;> omega) ?_;exact rd 2 (by omega) (by omega) (by rw [gs,<-fz]; rfl)
      |
       succ j =>
       have fz:=Pe (z:=Nj e) (l2:=((Nu O++[Nj e]).drop (j+1)).take ((Nu O++[Nj e]).length-(j+1))) (k:=j+1) (m:=O.length-(j+1)) (by omega) hpj hne (by omega) (by congr 1; exact Qj (by simp));refine out (λc2 c3=>?_) λc2=>?_
       ·refine go tt [.g 41 true (decide_eq_true (by omega)),.i (j+1),.i 0,.x hxe,.i 0,.g 50 false (decide_eq_false c1),.i (j+1),.i 0,.x hxe,.i 0,.g 59 true (decide_eq_true c2),.i (j+1),.i 1,.x hxe,.i 1,.f (decide_eq_false c3),.g 77 true (decide_eq_true (by omega)),.i (j+1),.x hxe,.f (decide_eq_false hneL),.s (sz:=2) hz,.r 91 (eI (b:=((j+1+1:Nat):Int)) (by simp)),.i (j+1+1),.i (j+1),.s (sz:=2) (λy hy=>h22 y (Qz (Ql hy))),.i (O.length-(j+1)),.i (j+1)] rfl (by simp [W3,Ga] <;> omega) ?_;exact rd 2 (by omega) (by omega) (by rw [gs,<-fz]; rfl)
       ·refine go tt [.g 41 true (decide_eq_true (by omega)),.i (j+1),.i 0,.x hxe,.i 0,.g 50 false (decide_eq_false c1),.i (j+1),.i 0,.x hxe,.i 0,.g 59 false (decide_eq_false c2),.f rfl,.g 77 true (decide_eq_true (by omega)),.i (j+1),.x hxe,.f (decide_eq_false hneL),.s (sz:=2) hz,.r 91 (eI (b:=((j+1+1:Nat):Int)) (by simp)),.i (j+1+1),.i (j+1),.s (sz:=2) (λy hy=>h22 y (Qz (Ql hy))),.i (O.length-(j+1)),.i (j+1)] rfl (by simp [W3,Ga] <;> omega) ?_;exact rd 2 (by omega) (by omega) (by rw [gs,<-fz]; rfl)
   ·have hpj:Bz e O=j:=by have:=Qkp (e:=e) hjl; omega
    have hne:O[j]? ≠ some e:=λh=>hjl (Qd.1 h).1
    have hz:∀ y∈[Nj e],y.length=2:=λy hy=>by rw [Qm.1 hy]; rfl
    have h22:∀ y∈Nu O++[Nj e],y.length=2:=λy hy=>by
     rcases Qw.1 hy with hy | hy
     ·exact Qaq O y hy
     ·exact hz y hy
    cases j with
    |
     zero =>
     have fz:=Pe (z:=Nj e) (l2:=(Nu O++[Nj e]).take ((Nu O++[Nj e]).length-0)) (k:=0) (m:=O.length) (by omega) hpj hne (by omega) (by congr 1; exact Qj (by simp));refine go tt [.g 41 false (decide_eq_false (by omega)),.f rfl,.g 77 false (decide_eq_false (by omega)),.f rfl,.s (sz:=2) hz,.r 91 (eI (b:=((0+1:Nat):Int)) (by simp)),.i (0+1),.i 0,.s (sz:=2) (λy hy=>h22 y (Ql hy)),.i (O.length),.i 0] rfl (by simp [W3,Ga] <;> omega) ?_;exact rd 2 (by omega) (by omega) (by rw [gs,<-fz]; rfl)
    |
     succ j =>
     have fz:=Pe (z:=Nj e) (l2:=((Nu O++[Nj e]).drop (j+1)).take ((Nu O++[Nj e]).length-(j+1))) (k:=j+1) (m:=O.length-(j+1)) (by omega) hpj hne (by omega) (by congr 1; exact Qj (by simp));refine go tt [.g 41 false (decide_eq_false (by omega)),.f rfl,.g 77 false (decide_eq_false (by omega)),.f rfl,.s (sz:=2) hz,.r 91 (eI (b:=((j+1+1:Nat):Int)) (by simp)),.i (j+1+1),.i (j+1),.s (sz:=2) (λy hy=>h22 y (Qz (Ql hy))),.i (O.length-(j+1)),.i (j+1)] rfl (by simp [W3,Ga] <;> omega) ?_;exact rd 2 (by omega) (by omega) (by rw [gs,<-fz]; rfl)
  ·obtain ⟨e,he⟩:∃ e:Int×Int,e=(m.2.1.id,m.2.2.id):=⟨_,rfl⟩;have gs:g 3=Et (g 2) e:=by rw [he]; exact g3
   have hOl:(g 2).length<=4000:=by omega
   obtain ⟨O,hO⟩:=nmE (g 2);rw [<-hO] at gs hOl ⊢;have e1:m.2.1.id=e.1:=by rw [he]
   have e2:m.2.2.id=e.2:=by rw [he]
   rw [show Nu O=Nu O from rfl];refine go tt [.t rfl,.i 2] rfl (by simp [W3]) ?_;rw [e1,e2];have hpl:=Qd1 e O;have hol:=Ga O;refine lp (S:=Nat) 4 (λL1 j=>(8,.v (.one (.int .i64 (j:Int))))::L1) (λ_=>[.blk 86 (Md c r0 (M5 ts)),.row false 143 2 (Nu O),.blk 50 (trL m),.blk 143 (Nj e)]) (λj=>O.length-j) (λj=>j<=O.length/\Bz e (O.drop j)+j=Bz e O) 0 ⟨Qg _,by rw [Xk]; rfl⟩ rfl (λ_ _=>rfl) rfl λj ⟨hj,hp⟩=>?_
   by_cases hjl:j<O.length
   ·obtain ⟨x,hx⟩:=gxE (l:=O) (i:=j) hjl;have hxe:=Qdb hx;by_cases hle:M8 x e=true
    ·have hp':=Qp2 hx hle;by_cases c1:x.1<e.1
     ·refine go tt [.g 41 true (decide_eq_true (by omega)),.i j,.i 0,.x hxe,.i 0,.g 50 true (decide_eq_true c1),.t rfl] rfl (by simp [W3] <;> omega) ?_;exact rd (j+1) (by omega) ⟨hjl,by omega⟩ rfl
     ·have hc:x.1=e.1/\x.2<e.2:=by unfold M8 at hle; simpa [c1] using hle
      refine go tt [.g 41 true (decide_eq_true (by omega)),.i j,.i 0,.x hxe,.i 0,.g 50 false (decide_eq_false c1),.i j,.i 0,.x hxe,.i 0,.g 59 true (decide_eq_true hc.1),.i j,.i 1,.x hxe,.i 1,.t (decide_eq_true hc.2)] rfl (by simp [W3] <;> omega) ?_;exact rd (j+1) (by omega) ⟨hjl,by omega⟩ rfl
    ·have hle:M8 x e=false:=by simpa using hle
     have hp':=Qkq hx hle;have hpj:Bz e O=j:=by omega
     have c1:¬x.1<e.1:=λh=>by unfold M8 at hle; simp [h] at hle
     have out:∀ {Q:Prop},(x.1=e.1->¬x.2<e.2->Q)->(x.1≠e.1->Q)->Q:=λh1 h2=>by
      by_cases h:x.1=e.1
      ·exact h1 h λh'=>by unfold M8 at hle; simp [h,h'] at hle
      ·exact h2 h
     by_cases heq:x=e
     ·have gs':g 3=O:=by rw [gs]; unfold Et; rw [hpj,hx,heq,if_pos rfl]
      have c2:x.1=e.1:=by rw [heq]
      have c3:¬x.2<e.2:=by rw [heq]; exact Wa _
      refine go tt [.g 41 true (decide_eq_true (by omega)),.i j,.i 0,.x hxe,.i 0,.g 50 false (decide_eq_false c1),.i j,.i 0,.x hxe,.i 0,.g 59 true (decide_eq_true c2),.i j,.i 1,.x hxe,.i 1,.f (decide_eq_false c3),.g 77 true (decide_eq_true (by omega)),.i j,.x hxe,.t (decide_eq_true (by rw [heq]))] rfl (by simp [W3] <;> omega) ?_;exact rd 3 (by omega) (by omega) (by rw [gs']; rfl)
     ·have hne:O[j]? ≠ some e:=λh=>by rw [hx] at h; injection h with h; exact heq h
      have hneL:¬[x.1,x.2]=[e.1,e.2]:=λh=>by simp at h; exact heq (Prod.ext h.1 h.2)
      have hz:∀ y∈[Nj e],y.length=2:=λy hy=>by rw [Qm.1 hy]; rfl
      have h22:∀ y∈Nu O++[Nj e],y.length=2:=λy hy=>by
       rcases Qw.1 hy with hy | hy
       ·exact Qaq O y hy
       ·exact hz y hy
      cases j with
      |
       zero =>
       have fz:=Pe (z:=Nj e) (l2:=(Nu O++[Nj e]).take ((Nu O++[Nj e]).length-0)) (k:=0) (m:=O.length) (by omega) hpj hne (by omega) (by congr 1; exact Qj (by simp));refine out (λc2 c3=>?_) λc2=>?_
       ·refine go tt [.g 41 true (decide_eq_true (by omega)),.i 0,.i 0,.x hxe,.i 0,.g 50 false (decide_eq_false c1),.i 0,.i 0,.x hxe,.i 0,.g 59 true (decide_eq_true c2),.i 0,.i 1,.x hxe,.i 1,.f (decide_eq_false c3),.g 77 true (decide_eq_true (by omega)),.i 0,.x hxe,.f (decide_eq_false hneL),.s (sz:=2) hz,.r 91 (eI (b:=((0+1:Nat):Int)) (by simp)),.i (0+1),.i 0,.s (sz:=2) (λy hy=>h22 y (Ql hy)),.i (O.length),.i 0] rfl (by simp [W3,Ga] <;> omega) ?_;exact rd 3 (by omega) (by omega) (by rw [gs,<-fz]; rfl)
       ·refine go tt [.g 41 true (decide_eq_true (by omega)),.i 0,.i 0,.x hxe,.i 0,.g 50 false (decide_eq_false c1),.i 0,.i 0,.x hxe,.i 0,.g 59 false (decide_eq_false c2),.f rfl,.g 77 true (decide_eq_true (by omega)),.i 0,.x hxe,.f (decide_eq_false hneL),.s (sz:=2) hz,.r 91 (eI (b:=((0+1:Nat):Int)) (by simp)),.i (0+1),.i 0,.s (sz:=2) (λy hy=>h22 y (Ql hy)),.i (O.length),.i 0] rfl (by simp [W3,Ga] <;> omega) ?_;exact rd 3 (by omega) (by omega) (by rw [gs,<-fz]; rfl)
      |
       succ j =>
       have fz:=Pe (z:=Nj e) (l2:=((Nu O++[Nj e]).drop (j+1)).take ((Nu O++[Nj e]).length-(j+1))) (k:=j+1) (m:=O.length-(j+1)) (by omega) hpj hne (by omega) (by congr 1; exact Qj (by simp));refine out (λc2 c3=>?_) λc2=>?_
       ·refine go tt [.g 41 true (decide_eq_true (by omega)),.i (j+1),.i 0,.x hxe,.i 0,.g 50 false (decide_eq_false c1),.i (j+1),.i 0,.x hxe,.i 0,.g 59 true (decide_eq_true c2),.i (j+1),.i 1,.x hxe,.i 1,.f (decide_eq_false c3),.g 77 true (decide_eq_true (by omega)),.i (j+1),.x hxe,.f (decide_eq_false hneL),.s (sz:=2) hz,.r 91 (eI (b:=((j+1+1:Nat):Int)) (by simp)),.i (j+1+1),.i (j+1),.s (sz:=2) (λy hy=>h22 y (Qz (Ql hy))),.i (O.length-(j+1)),.i (j+1)] rfl (by simp [W3,Ga] <;> omega) ?_;exact rd 3 (by omega) (by omega) (by rw [gs,<-fz]; rfl)
       ·refine go tt [.g 41 true (decide_eq_true (by omega)),.i (j+1),.i 0,.x hxe,.i 0,.g 50 false (decide_eq_false c1),.i (j+1),.i 0,.x hxe,.i 0,.g 59 false (decide_eq_false c2),.f rfl,.g 77 true (decide_eq_true (by omega)),.i (j+1),.x hxe,.f (decide_eq_false hneL),.s (sz:=2) hz,.r 91 (eI (b:=((j+1+1:Nat):Int)) (by simp)),.i (j+1+1),.i (j+1),.s (sz:=2) (λy hy=>h22 y (Qz (Ql hy))),.i (O.length-(j+1)),.i (j+1)] rfl (by simp [W3,Ga] <;> omega) ?_;exact rd 3 (by omega) (by omega) (by rw [gs,<-fz]; rfl)
   ·have hpj:Bz e O=j:=by have:=Qkp (e:=e) hjl; omega
    have hne:O[j]? ≠ some e:=λh=>hjl (Qd.1 h).1
    have hz:∀ y∈[Nj e],y.length=2:=λy hy=>by rw [Qm.1 hy]; rfl
    have h22:∀ y∈Nu O++[Nj e],y.length=2:=λy hy=>by
     rcases Qw.1 hy with hy | hy
     ·exact Qaq O y hy
     ·exact hz y hy
    cases j with
    |
     zero =>
     have fz:=Pe (z:=Nj e) (l2:=(Nu O++[Nj e]).take ((Nu O++[Nj e]).length-0)) (k:=0) (m:=O.length) (by omega) hpj hne (by omega) (by congr 1; exact Qj (by simp));refine go tt [.g 41 false (decide_eq_false (by omega)),.f rfl,.g 77 false (decide_eq_false (by omega)),.f rfl,.s (sz:=2) hz,.r 91 (eI (b:=((0+1:Nat):Int)) (by simp)),.i (0+1),.i 0,.s (sz:=2) (λy hy=>h22 y (Ql hy)),.i (O.length),.i 0] rfl (by simp [W3,Ga] <;> omega) ?_;exact rd 3 (by omega) (by omega) (by rw [gs,<-fz]; rfl)
    |
     succ j =>
     have fz:=Pe (z:=Nj e) (l2:=((Nu O++[Nj e]).drop (j+1)).take ((Nu O++[Nj e]).length-(j+1))) (k:=j+1) (m:=O.length-(j+1)) (by omega) hpj hne (by omega) (by congr 1; exact Qj (by simp));refine go tt [.g 41 false (decide_eq_false (by omega)),.f rfl,.g 77 false (decide_eq_false (by omega)),.f rfl,.s (sz:=2) hz,.r 91 (eI (b:=((j+1+1:Nat):Int)) (by simp)),.i (j+1+1),.i (j+1),.s (sz:=2) (λy hy=>h22 y (Qz (Ql hy))),.i (O.length-(j+1)),.i (j+1)] rfl (by simp [W3,Ga] <;> omega) ?_;exact rd 3 (by omega) (by omega) (by rw [gs,<-fz]; rfl)
  ·refine go tt [.f rfl] rfl (by simp [W3] <;> omega) ?_;exact rd (i+1) (by omega) hlt (by rw [hst]; rfl)
 ·obtain rfl:i=ts.length:=by omega
  rw [Q4];exact ed tt [1] [0] [.f (decide_eq_false (by omega))] rfl trivial
end Orr
