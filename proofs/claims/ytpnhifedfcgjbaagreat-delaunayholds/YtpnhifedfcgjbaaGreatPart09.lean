/- DetL H1 R22 HullG TurnL HullQ HullS H2 H3 R23 R24 R25 R29 R30 MeshN MeshK MD1 MD2 MD3 NewsN MD4 MD5 SC1 MD6 SD1 W1 W2 WR18 -/
import Derived.Test.YtpnhifedfcgjbaaGreatPart08
import Derived.Test.YtpnhifedfcgjbaaGreatPart00
import Derived.Test.YtpnhifedfcgjbaaGreatPart05
import Derived.Test.YtpnhifedfcgjbaaGreatPart07
import Derived.Test.YtpnhifedfcgjbaaGreatPart06
import Derived.Test.YtpnhifedfcgjbaaGreatPart04
set_option linter.all false
namespace Orr
def Es (l:List (List (List Int))):List (List LV):=l.map λr=>[.row (r.map λp=>[pl p])]
abbrev Qa0 (r:List (List Int)):List (List LV):=r.map λp=>[pl p]
theorem Qbv (l:List (List (List Int))):(Es l).length=l.length:=by simp [Es]
def Qal (i:Nat) (rows:List (List (List Int))):Nat->List (List (List Int))
 | 0=>[]
 | j+1=>if j=i then Qal i rows j else Qal i rows j++[(rows.getD j []).drop 1]
def Qgu (rows:List (List (List Int))) (i:Nat):List (List (List Int)):=Qal i rows rows.length
def Ey (f:Nat->List Int) (rows:List (List (List Int))):Nat->List Int
 | 0=>[]
 |
  i+1=>if ((rows.getD i []).getD 0 []).length=0 then Ey f rows i else
  if i % 2=0 then L9 (Ey f rows i) (U5 ((rows.getD i []).getD 0 []) (f i)) else Tx (Ey f rows i) (U5 ((rows.getD i []).getD 0 []) (f i))
def Qdf:Nat->List (List (List Int))->List Int
 | 0,_=>[1]
 | k+1,rows=>Ey (λi=>Qdf k (Qgu rows i)) rows (k+1)
structure Sq (s:Nat) (ds:List Nat) (k w:Nat) (rows:List (List (List Int))):Prop where
 l:rows.length=k
 w:∀ r∈rows,r.length=w
 t:∀ r∈rows,∀ p∈r,Uo p
 b:∀ r∈rows,∀ p∈r,Bd s p
 n:∀ r∈rows,∀ (j:Nat) (p:List Int),r[j]? = some p->p.length≤ds.getD j 0+1
theorem Qlg {i:Nat} {rows:List (List (List Int))}:∀ {j:Nat} {r:List (List Int)},j≤rows.length->r∈Qal i rows j->∃ q∈rows,r=q.drop 1
 | 0,r,_,h=>by simp [Qal] at h
 |
  j+1,r,hj,h=>by
  simp only [Qal] at h
  split at h
  ·exact Qlg (by omega) h
  ·rcases Qw.1 h with h | h
   ·exact Qlg (by omega) h
   ·rw [Ql.1 h];exact ⟨rows.getD j [],Qa (i:=j) (by rw [Qg,Qe (by omega)]; rfl),rfl⟩
theorem Qlf {i:Nat} {rows:List (List (List Int))}:∀ (j:Nat),(Qal i rows j).length=if i<j then j-1 else j
 | 0=>rfl
 |
  j+1=>by
  have ih:=Qlf (i:=i) (rows:=rows) j;simp only [Qal]
  split
  ·rename_i e; subst e; rw [ih,if_neg (by omega),if_pos (by omega)]; omega
  ·rw [Q7,ih,Kw]
   split <;> split <;> omega
theorem Sq.min {s d k w:Nat} {ds:List Nat} {rows:List (List (List Int))} (h:Sq s (d::ds) (k+1) (w+1) rows) {i:Nat} (hi:i<k+1):Sq s ds k w (Qgu rows i):=by
 have hl:=h.l;have hm:∀ {r:List (List Int)},r∈Qgu rows i->∃ q∈rows,r=q.drop 1:=λh=>Qlg (Qm _) h
 refine ⟨by unfold Qgu; rw [Qlf,hl,if_pos hi]; omega,λr hr=>?_,λr hr p hp=>?_,λr hr p hp=>?_,λr hr j p hp=>?_⟩
 ·obtain ⟨q,hq,rfl⟩:=hm hr;rw [Z0,h.w q hq]; omega
 all_goals obtain ⟨q,hq,rfl⟩:=hm hr
 ·exact h.t q hq p (Q0 hp)
 ·exact h.b q hq p (Q0 hp)
 ·rw [Xd] at hp;have:=h.n q hq (1+j) p hp;rw [Yc 1 j] at this;exact this
theorem Sq.at {s d k w:Nat} {ds:List Nat} {rows:List (List (List Int))} (h:Sq s (d::ds) k (w+1) rows) {i:Nat} (hi:i<k):∃ p r,rows[i]? = some (p::r)/\(rows.getD i []).getD 0 []=p/\Uo p/\Bd s p/\p.length<=d+1:=by
 obtain ⟨r,hr⟩:=gxE (l:=rows) (i:=i) (by rw [h.l]; exact hi);have hm:=Qa hr;cases r with
 | nil=>have:=h.w _ hm; simp at this
 |
  cons p r =>
  have e:rows.getD i []=p::r:=by rw [Qg,hr]; rfl
  refine ⟨p,r,hr,by rw [e]; rfl,h.t _ hm p (by simp),h.b _ hm p (by simp),h.n _ hm 0 p rfl⟩
theorem Qqh {s d k w:Nat} {ds:List Nat} {f:Nat->List Int} {rows:List (List (List Int))} {B L:Nat} (h:Sq s (d::ds) k (w+1) rows) (hn:d<31) (hf:∀ i,i<k->Bd B (f i)/\(f i).length<=L+1):∀ i,i<=k->Uo (Ey f rows i)/\Bd (s+B+5+i) (Ey f rows i)/\(Ey f rows i).length<=d+L+1
 | 0,_=>⟨rfl,λz hz=>(by cases hz),Qh _⟩
 |
  i+1,hi=>by
  obtain ⟨h1,h2,h3⟩:=Qqh h hn hf i (by omega);obtain ⟨p,r,_,e,t,b,l⟩:=h.at (i:=i) (by omega);obtain ⟨f1,f2⟩:=hf i (by omega);have hp1:Bd (s+B+5) (U5 p (f i)):=To b f1 (by omega);have hp2:=H8 p (f i);simp only [Ey];rw [e]
  split
  ·exact ⟨h1,Uj h2 (by omega),h3⟩
  ·split
   ·exact ⟨U3 _ _,Uj (Qdt h2 hp1) (by omega),Qc (Qah _ _) (by omega)⟩
   ·exact ⟨U3 _ _,Uj (Qpu h2 hp1) (by omega),Qc (Qeg _ _) (by omega)⟩
theorem Qbu {s:Nat}:∀ (k:Nat) (ds:List Nat) (rows:List (List (List Int))),k<=4->ds.length=k->ds.sum<31->Sq s ds k k rows->Uo (Qdf k rows)/\Bd (k*(s+10)+1) (Qdf k rows)/\(Qdf k rows).length<=ds.sum+1
 | 0,ds,rows,_,_,_,_=>⟨rfl,λz hz=>(by simp [Qdf] at hz; subst hz; rw [Ye]; decide),by simp [Qdf]⟩
 | k+1,[],rows,_,hl,_,_=>by simp at hl
 |
  k+1,d::ds,rows,hk,hl,hd,h=>by
  rw [V5] at hd;have ih:=λi (hi:i<k+1)=>Qbu k ds (Qgu rows i) (by omega) (by simpa using hl) (by omega) (h.min hi)
  obtain ⟨h1,h2,h3⟩:=Qqh (f:=λi=>Qdf k (Qgu rows i)) (B:=k*(s+10)+1) (L:=ds.sum) h (by omega) (λi hi=>⟨(ih i hi).2.1,(ih i hi).2.2⟩) (k+1) (Qm _);have e1:(k+1)*(s+10)=k*(s+10)+(s+10):=Xc ..;rw [V5];exact ⟨h1,Uj h2 (by omega),h3⟩
def Nl (a b c:Crv):List (List (List Int)):=[[a.x,a.y,[a.d]],[b.x,b.y,[b.d]],[c.x,c.y,[c.d]]]
def Mj (a b c:Crv):List Int:=Qdf 3 (Nl a b c)
end Orr
namespace Orr
open Go Go.Proofs Orq
set_option maxRecDepth 10000
theorem gz {P:Program} [Mo P] {n:Nat} {Q:Exit->Sg->List OB->Prop} {L L':Sg} {B B':List OB} (i:Nat) {it:List It} (hs:Re it=true) (h:Q5t [i] L B=some (L',B')) (k:AK P n Q it L' B'):AK P n Q it L B:=AK.sub (Qe2 h) hs k
theorem Ql0 {r:List (List Int)} {i:Nat} {p:List Int} (h:r[i]? = some p):(Qa0 r)[i]? = some [pl p]:=Gh h
theorem Dz {l:List (List (List Int))} {i:Nat} {r:List (List Int)} (h:l[i]? = some r):(Es l)[i]? = some [.row (Qa0 r)]:=Gh h
theorem Q7a {r:List (List Int)} (ht:∀ p∈r,Uo p) (hb:∀ p∈r,Bd 1000000 p) (hl:∀ p∈r,p.length≤1000000) (hn:r.length≤1000):Uk Tryz.prog 211 [.one (.row (Qa0 r))] [.one (.row (Qa0 r))]:=by
 have hrl:(Qa0 r).length=r.length:=by simp
 refine Gm Tryz.func211 rfl ?_;refine go tt [.o 3 52 1] rfl trivial ?_;refine lp (S:=Nat) 1 (λL1 i=>(8,.v (.one (.int .i64 (i:Int))))::(3,.v (.one (.orow 0 1 none)))::L1) (λi=>[.row false 52 1 (Qa0 (r.take i))]) (λi=>r.length-i) (λi=>i<=r.length) 0 (Qh _) rfl (λ_ _=>rfl) rfl λi hi=>?_
 by_cases h:i<r.length
 ·obtain ⟨p,hp⟩:=gxE (l:=r) (i:=i) h;have hm:=Qa hp;have hs:∀ y∈[[pl p]],y.length=1:=λy hy=>by rw [Ql.1 hy]; rfl
  have e:Qa0 (r.take (i+1))=Qa0 (r.take i)++[[pl p]]:=by rw [Zw,hp]; simp
  refine go tt [.t (decide_eq_true (by omega)),.x (Ql0 hp),.c [] (G8 (ht p hm) (by have:=hl p hm; omega) (Uj (hb p hm) (by decide))),.s (sz:=1) hs] rfl (by simp [Ui] <;> omega) ?_;exact rd (i+1) (by omega) h (by rw [e]; rfl)
 ·obtain rfl:i=r.length:=by omega
  rw [Q4];exact en tt [.f (decide_eq_false (by omega))] rfl rfl trivial
theorem Zn3 {s k w:Nat} {ds:List Nat} {rows:List (List (List Int))} (h:Sq s ds k k rows) (_hw:w=k) (hk:k<=4):Uk Tryz.prog 246 [.one (.row (Es rows))] [.one (.bool true)]:=by
 have hrl:=Qbv rows;have hl:=h.l;refine Gm Tryz.func246 rfl ?_;refine go tt [] rfl trivial ?_;refine lp (S:=Nat) 0 (λL1 i=>(7,.v (.one (.int .i64 (i:Int))))::L1) (λ_=>[]) (λi=>rows.length-i) (λi=>i<=rows.length) 0 (Qh _) rfl (λ_ _=>rfl) rfl λi hi=>?_
 by_cases hlt:i<rows.length
 ·obtain ⟨r,hr⟩:=gxE (l:=rows) (i:=i) hlt;have hw:=h.w r (Qa hr);have hql:(Qa0 r).length=r.length:=by simp
  refine go tt [.t (decide_eq_true (by omega)),.x (Dz hr),.f (decide_eq_false (λh=>h (by omega)))] rfl (by simp [Ui] <;> omega) ?_;exact rd (i+1) (by omega) hlt rfl
 ·exact en tt [.f (decide_eq_false (by omega))] rfl (by rw [decide_eq_true (by omega:((Es rows).length:Int)<=4)]) trivial
theorem Zfe {s k w:Nat} {ds:List Nat} {rows:List (List (List Int))} (h:Sq s ds k w rows) (hs:s<=1000000) (hk:k<=4) (hw:w<=4) (hd:∀ j,ds.getD j 0<=1000) (i:Nat):Uk Tryz.prog 277 [.one (.int .i64 (i:Int)),.one (.int .i64 0),.one (.row (Es rows))] [.one (.row (Es (Qgu rows i)))]:=by
 have hrl:=Qbv rows;have hl:=h.l;have hml:∀ j,j<=rows.length->(Es (Qal i rows j)).length<=4:=λj hj=>by
  rw [Qbv,Qlf]; split <;> omega
 refine Gm Tryz.func277 rfl ?_;refine go tt [.o 7 251 1] rfl trivial ?_;refine lp (S:=Nat) 1 (λL1 j=>(15,.v (.one (.int .i64 (j:Int))))::(7,.v (.one (.orow 0 1 none)))::L1) (λj=>[.row false 251 1 (Es (Qal i rows j))]) (λj=>rows.length-j) (λj=>j<=rows.length) 0 (Qh _) rfl (λ_ _=>rfl) rfl λj hj=>?_
 have hmlj:=hml j hj;by_cases hlt:j<rows.length
 ·obtain ⟨r,hr⟩:=gxE (l:=rows) (i:=j) hlt;have hm:=Qa hr;have hw:=h.w r hm;have hql:(Qa0 r).length=r.length:=by simp
  by_cases hij:j=i
  ·have e:Qal i rows (j+1)=Qal i rows j:=by simp only [Qal]; rw [if_pos hij]
   refine go tt [.t (decide_eq_true (by omega)),.x (Dz hr),.t (decide_eq_true (by omega))] rfl (by simp [Ui] <;> omega) ?_;exact rd (j+1) (by omega) hlt (by rw [e]; rfl)
  ·have e:Qal i rows (j+1)=Qal i rows j++[r.drop 1]:=by
    simp only [Qal]; rw [if_neg hij,Qg,hr]; rfl
   refine go tt [.t (decide_eq_true (by omega)),.x (Dz hr),.f (decide_eq_false (by omega)),.o 10 52 1] rfl (by simp [Ui]) ?_;refine lp (S:=Nat) 2 (λL1 c=>(25,.v (.one (.int .i64 (c:Int))))::(10,.v (.one (.orow 1 1 none)))::L1) (λc=>[.row false 251 1 (Es (Qal i rows j)),.row false 52 1 (Qa0 ((r.take c).drop 1))]) (λc=>r.length-c) (λc=>c<=r.length) 0 (Qh _) rfl (λ_ _=>rfl) rfl λc hc=>?_
   by_cases hcl:c<r.length
   ·obtain ⟨p,hp⟩:=gxE (l:=r) (i:=c) hcl;have hpm:=Qa hp;by_cases h0:c=0
    ·subst h0;refine go tt [.t (decide_eq_true (by omega)),.x (Ql0 hp),.f (decide_eq_false (by simp))] rfl (by simp [Ui]) ?_;exact rd 1 (by omega) hcl (by rw [Zw,hp]; rfl)
    ·have hs1:∀ y∈[[pl p]],y.length=1:=λy hy=>by rw [Ql.1 hy]; rfl
     have e2:Qa0 ((r.take (c+1)).drop 1)=Qa0 ((r.take c).drop 1)++[[pl p]]:=by
      rw [Zw,hp,Vn (by rw [Qx]; omega)]; simp
     refine go tt [.t (decide_eq_true (by omega)),.x (Ql0 hp),.t (decide_eq_true (by omega)),.c [] (G8 (h.t r hm p hpm) (by have:=h.n r hm c p hp; have:=hd c; omega) (Uj (h.b r hm p hpm) (by omega))),.s (sz:=1) hs1] rfl (by simp [Ui] <;> omega) ?_;exact rd (c+1) (by omega) hcl (by rw [e2]; rfl)
   ·obtain rfl:c=r.length:=by omega
    rw [Q4];have hs1:∀ y∈[[LV.row (Qa0 (r.drop 1))]],y.length=1:=λy hy=>by rw [Ql.1 hy]; rfl
    refine go tt [.f (decide_eq_false (by omega))] rfl trivial ?_;refine gz 1 rfl rfl ?_;refine go tt [.s (sz:=1) hs1] rfl (by simp [Ui] <;> omega) ?_;exact rd (j+1) (by omega) hlt (by rw [e]; simp [Es]; rfl)
 ·obtain rfl:j=rows.length:=by omega
  exact en tt [.f (decide_eq_false (by omega))] rfl rfl trivial
theorem Qhn:∀ (ds:List Nat) (j:Nat),ds.getD j 0<=ds.sum
 | [],j=>by simp
 | d::ds,0=>by simp
 |
  d::ds,j+1=>by
  have:=Qhn ds j;rw [V5];show ds.getD j 0<=_;omega
theorem Zje {s:Nat} (hs:s<=100000):∀ (k:Nat) (ds:List Nat) (rows:List (List (List Int))),k<=4->ds.length=k->ds.sum<31->Sq s ds k k rows->Uk Tryz.prog 247 [.one (.row (Es rows))] [pr (Qdf k rows)]
 |
  0,ds,rows,_,_,_,h=>by
  have e:=Qi h.l;subst e;have co:=Q0y (p:=[1]) (by decide) (by decide);exact w tt Tryz.func247 rfl [.t rfl,.c [] co] rfl rfl trivial
 | k+1,[],_,_,hl,_,_=>by simp at hl
 |
  k+1,d::ds,rows,hk,hl,hd,h=>by
  rw [V5] at hd;have hl':ds.length=k:=by simpa using hl
  have hrl:=Qbv rows;have hrn:=h.l;have hmin:=λi (hi:i<k+1)=>h.min hi
  have ih:=λi (hi:i<k+1)=>Zje hs k ds (Qgu rows i) (by omega) hl' (by omega) (hmin i hi)
  have hok:=λi (hi:i<k+1)=>Qbu k ds (Qgu rows i) (by omega) hl' (by omega) (hmin i hi)
  have hb:k*(s+10)+1<=500000:=by
   have:k*(s+10)<=4*(100010):=Zx (by omega) (by omega);omega
  have hds:=Qqh (f:=λi=>Qdf k (Qgu rows i)) (B:=k*(s+10)+1) (L:=ds.sum) h (by omega) (λi hi=>⟨(hok i hi).2.1,(hok i hi).2.2⟩);have cm:=Zfe h (by omega) hk hk (λj=>by have:=Qhn (d::ds) j; rw [V5] at this; omega);show Uk Tryz.prog 247 [.one (.row (Es rows))] [pr (Ey (λi=>Qdf k (Qgu rows i)) rows (k+1))];obtain ⟨f,hf⟩:=nmE (λi=>Qdf k (Qgu rows i));rw [<-hf] at hds ⊢;have hfi:∀ i,f i=Qdf k (Qgu rows i):=λi=>by rw [hf]
  refine Gm Tryz.func247 rfl ?_;refine go tt [.f (decide_eq_false (by omega)),.z 3] rfl trivial ?_;refine lp (S:=Nat) 0 (λL1 i=>(14,.v (.one (.int .i64 (i:Int))))::(3,.v (pr (Ey f rows i)))::L1) (λ_=>[]) (λi=>k+1-i) (λi=>i<=k+1) 0 (Qh _) rfl (λ_ _=>rfl) rfl λi hi=>?_
  obtain ⟨d1,d2,d3⟩:=hds i hi;by_cases hlt:i<k+1
  ·obtain ⟨p,r,hr,e,t,b,l⟩:=h.at hlt;have hx0:(Qa0 (p::r))[0]? = some [pl p]:=rfl;have hpl:(p.map Gk).length=p.length:=by simp
   have cn:=G8 t (by omega) (Uj b (by omega));by_cases h0:p.length=0
   ·have es:Ey f rows (i+1)=Ey f rows i:=by simp only [Ey]; rw [e,if_pos h0]
    refine go tt [.t (decide_eq_true (by omega)),.x (Dz hr),.x hx0,.c [] cn,.t (decide_eq_true (by omega))] rfl (by simp [Ui] <;> omega) ?_;exact rd (i+1) (by omega) hlt (by rw [es]; rfl)
   ·obtain ⟨k1,k2,k3⟩:=hok i hlt;have ci:=ih i hlt;have cp:=Qpx (p:=p) (q:=f i) t (by rw [hfi]; exact k1) (by omega) (by rw [hfi]; omega) b (by rw [hfi]; exact k2) (by omega);have hmb:Bd (s+(k*(s+10)+1)+5) (U5 p (f i)):=To b (by rw [hfi]; exact k2) (by omega);have hml:=H8 p (f i);have hfl:(f i).length<=ds.sum+1:=by rw [hfi]; exact k3
    rw [<-hfi] at ci;by_cases h2:i % 2=0
    ·have es:Ey f rows (i+1)=L9 (Ey f rows i) (U5 p (f i)):=by simp only [Ey]; rw [e,if_neg h0,if_pos h2]
     refine go tt [.t (decide_eq_true (by omega)),.x (Dz hr),.x hx0,.c [] cn,.f (decide_eq_false (by omega)),.x hx0,.c [] (cm i),.c [] ci,.c [] cp,.r 34 (eI (b:=((i % 2:Nat):Int)) rfl),.t (decide_eq_true (by omega)),.c [] (Qxe (p:=Ey f rows i) (q:=U5 p (f i)) (by omega) (by omega) (Uj d2 (by omega)) (Uj hmb (by omega)))] rfl (by simp [Ui] <;> omega) ?_;exact rd (i+1) (by omega) hlt (by rw [es]; rfl)
    ·have es:Ey f rows (i+1)=Tx (Ey f rows i) (U5 p (f i)):=by simp only [Ey]; rw [e,if_neg h0,if_neg h2]
     refine go tt [.t (decide_eq_true (by omega)),.x (Dz hr),.x hx0,.c [] cn,.f (decide_eq_false (by omega)),.x hx0,.c [] (cm i),.c [] ci,.c [] cp,.r 34 (eI (b:=((i % 2:Nat):Int)) rfl),.f (decide_eq_false (by omega)),.c [] (Qxf (p:=Ey f rows i) (q:=U5 p (f i)) (by omega) (by omega) (Uj d2 (by omega)) (Uj hmb (by omega)))] rfl (by simp [Ui] <;> omega) ?_;exact rd (i+1) (by omega) hlt (by rw [es]; rfl)
  ·obtain rfl:i=k+1:=by omega
   exact en tt [.f (decide_eq_false (by omega))] rfl rfl trivial
theorem Zi5 {s:Nat} (hs:s<=100000) {k:Nat} {ds:List Nat} {rows:List (List (List Int))} (hk:k<=4) (hl:ds.length=k) (hd:ds.sum<31) (h:Sq s ds k k rows):Uk Tryz.prog 212 [.one (.row (Es rows))] [pr (Qdf k rows),.one (.int .i64 0)] :=
 w tt Tryz.func212 rfl [.c [] (Zn3 h rfl hk),.f rfl,.c [] (Zje hs k ds rows hk hl hd h)] rfl rfl trivial
theorem Qxm {k:Crv} (hk:Sc k):Uk Tryz.prog 210 [.agg (cl k)] [.one (.row (Qa0 [k.x,k.y,[k.d]]))]:=by
 have h0:k.d≠0:=by have:=hk.n.2.2.1; omega
 have td:Uo [k.d]:=by unfold Uo; simp [trim,h0]
 have cd:=Q7a (r:=[k.x,k.y,[k.d]]) (λp hp=>by
  rcases Qp.1 hp with rfl | hp
  ·exact hk.n.1
  rcases Qp.1 hp with rfl | hp
  ·exact hk.n.2.1
  ·rw [Ql.1 hp]; exact td) (λp hp=>by
  rcases Qp.1 hp with rfl | hp
  ·exact Uj hk.c.x (by decide)
  rcases Qp.1 hp with rfl | hp
  ·exact Uj hk.c.y (by decide)
  ·rw [Ql.1 hp];intro z hz; rw [Ql.1 hz]; exact Qc hk.c.d (by decide)) (λp hp=>by
  rcases Qp.1 hp with rfl | hp
  ·have:=hk.c.lx; omega
  rcases Qp.1 hp with rfl | hp
  ·have:=hk.c.ly; omega
  ·rw [Ql.1 hp]; show 1<=1000000; decide) (by show 3<=1000; decide)
 exact w tt Tryz.func210 rfl [.c [] (Q07 hk.n (hk.c.mono (by decide) (by decide))),.c [] cd] rfl rfl trivial
theorem Qwa {a b c:Crv} (ha:Sc a) (hb:Sc b) (hc:Sc c):Sq 128 [2,2,0] 3 3 (Nl a b c):=by
 have key:∀ k:Crv,Sc k->(∀ p∈[k.x,k.y,[k.d]],Uo p/\Bd 128 p)/\∀ (j:Nat) (p:List Int),[k.x,k.y,[k.d]][j]? = some p->p.length≤[2,2,0].getD j 0+1:=λk hk=>by
  have h0:k.d≠0:=by have:=hk.n.2.2.1; omega
  have td:Uo [k.d]:=by unfold Uo; simp [trim,h0]
  refine ⟨λp hp=>?_,λj p hp=>?_⟩
  ·rcases Qp.1 hp with rfl | hp
   ·exact ⟨hk.n.1,hk.c.x⟩
   rcases Qp.1 hp with rfl | hp
   ·exact ⟨hk.n.2.1,hk.c.y⟩
   ·rw [Ql.1 hp];exact ⟨td,λz hz=>by rw [Ql.1 hz]; exact hk.c.d⟩
  ·match j,hp with
   | 0,hp=>injection hp with hp; subst hp; exact hk.c.lx
   | 1,hp=>injection hp with hp; subst hp; exact hk.c.ly
   | 2,hp=>injection hp with hp; subst hp; exact Qm _
   | j+3,hp=>simp at hp
 have hr:∀ r∈Nl a b c,∃ k:Crv,Sc k/\r=[k.x,k.y,[k.d]]:=λr hr=>by
  rcases Qp.1 hr with rfl | hr
  ·exact ⟨a,ha,rfl⟩
  rcases Qp.1 hr with rfl | hr
  ·exact ⟨b,hb,rfl⟩
  ·rw [Ql.1 hr]; exact ⟨c,hc,rfl⟩
 refine ⟨rfl,λr h=>?_,λr h p hp=>?_,λr h p hp=>?_,λr h j p hp=>?_⟩
 all_goals obtain ⟨k,hk,rfl⟩:=hr r h
 ·rfl
 ·exact ((key k hk).1 p hp).1
 ·exact ((key k hk).1 p hp).2
 ·exact (key k hk).2 j p hp
theorem Qni {a b c:Crv} (ha:Sc a) (hb:Sc b) (hc:Sc c):Cp (Mj a b c):=by
 obtain ⟨h1,h2,h3⟩:=Qbu 3 [2,2,0] (Nl a b c) (by decide) rfl (by decide) (Qwa ha hb hc);exact ⟨h1,Qc h3 (by decide),Uj h2 (by decide)⟩
theorem Q7p {a b c:Crv} (ha:Sc a) (hb:Sc b) (hc:Sc c):Uk Tryz.prog 171 [.agg (cl a),.agg (cl b),.agg (cl c)] [pr (Mj a b c)]:=by
 have cd:=Zi5 (by decide) (k:=3) (ds:=[2,2,0]) (by decide) rfl (by decide) (Qwa ha hb hc);exact w tt Tryz.func171 rfl [.c [] (Qxm ha),.c [] (Qxm hb),.c [] (Qxm hc),.c [] cd] rfl rfl trivial
abbrev zrw (r:List (List Int)):List (List LV):=r.map λp=>[rp (zp p)]
def zmt (M:List (List (List Int))):List (List LV):=M.map λr=>[.row (zrw r)]
theorem Qst (M:List (List (List Int))):(zmt M).length=M.length:=by simp [zmt]
theorem Qsw {r:List (List Int)} {i:Nat} {p:List Int} (h:r[i]? = some p):(zrw r)[i]? = some [rp (zp p)]:=Gh h
theorem Qjn {l:List (List (List Int))} {i:Nat} {r:List (List Int)} (h:l[i]? = some r):(zmt l)[i]? = some [.row (zrw r)]:=Gh h
theorem Qya {α:Type} {R:List α} {j k:Nat} {x:α} (h:R[j]? = some x):(R.take (j+1)).eraseIdx k=if j=k then (R.take j).eraseIdx k else (R.take j).eraseIdx k++[x]:=by
 have hj:=(Qd.1 h).1;have hl:(R.take j).length=j:=by rw [Qx]; omega
 rw [Zw,h,Vh];rcases Vp k j with hk | hk | hk
 ·rw [if_neg (by omega),List.eraseIdx_append_of_lt_length (by omega)]
 ·subst hk;rw [if_pos rfl,Kn (by omega),hl,Yl,V4 (l:=R.take k) (by omega)];show R.take k++[]=_;rw [Xi]
 ·rw [if_neg (by omega),Kn (by omega),hl,V4 (l:=[x]) (by simp; omega),V4 (by omega)]
def Gp (M:List (List (List Int))) (k:Nat):List (List (List Int)):=(M.drop 1).map (·.eraseIdx k)
theorem Qus {M:List (List (List Int))} {i k:Nat} {R:List (List Int)} (h:M[i]? = some R) (h0:0<i):Gp (M.take (i+1)) k=Gp (M.take i) k++[R.eraseIdx k]:=by
 have hi:=(Qd.1 h).1;unfold Gp;rw [Zw,h,Vh,Vn (by rw [Qx]; omega),Xv]; rfl
theorem Qyv {M:List (List (List Int))} {i k:Nat} (hi:i<=M.length):(Gp (M.take i) k).length=i-1:=by
 unfold Gp; rw [List.length_map,List.length_drop,List.length_take]; omega
theorem Q8q {M:List (List (List Int))} {k:Nat} (hn:M.length≤100) (hM:∀ R∈M,R.length≤100):Uk Tryz.prog 109 [.one (.row (zmt M)),.one (.int .i64 0),.one (.int .i64 (k:Int))] [.one (.row (zmt (Gp M k)))]:=by
 have hrl:=Qst M;refine Gm Tryz.func109 rfl ?_;refine go tt [.o 7 29 1] rfl trivial ?_;refine lp (S:=Nat) 1 (λL1 i=>(13,.v (.one (.int .i64 (i:Int))))::(7,.v (.one (.orow 0 1 none)))::L1) (λi=>[.row false 29 1 (zmt (Gp (M.take i) k))]) (λi=>M.length-i) (λi=>i<=M.length) 0 (Qh _) rfl (λ_ _=>rfl) rfl λi hi=>?_
 have hml:(zmt (Gp (M.take i) k)).length=i-1:=by rw [Qst,Qyv hi]
 by_cases hlt:i<M.length
 ·obtain ⟨r,hr⟩:=gxE (l:=M) (i:=i) hlt;have hm:=hM r (Qa hr);have hql:(zrw r).length=r.length:=by simp
  by_cases h0:i=0
  ·subst h0;have e:Gp (M.take 1) k=Gp (M.take 0) k:=by unfold Gp; simp
   refine go tt [.t (decide_eq_true (by omega)),.t rfl] rfl (by simp [Ui]) ?_;exact rd 1 (by omega) hlt (by rw [e]; rfl)
  ·have e:=Qus (k:=k) hr (by omega);refine go tt [.t (decide_eq_true (by omega)),.f (decide_eq_false (by omega)),.o 9 28 1,.x (Qjn hr)] rfl (by simp [Ui] <;> omega) ?_;refine lp (S:=Nat) 2 (λL1 c=>(24,.v (.one (.int .i64 (c:Int))))::(9,.v (.one (.orow 1 1 none)))::L1) (λc=>[.row false 29 1 (zmt (Gp (M.take i) k)),.row false 28 1 (zrw ((r.take c).eraseIdx k))]) (λc=>r.length-c) (λc=>c<=r.length) 0 (Qh _) rfl (λ_ _=>rfl) rfl λc hc=>?_
   have hzl:((r.take c).eraseIdx k).length<=c:=by
    exact Qc (List.eraseIdx_sublist ..).length_le (by rw [Qx]; omega)
   by_cases hcl:c<r.length
   ·obtain ⟨p,hp⟩:=gxE (l:=r) (i:=c) hcl;have e2:=Qya (k:=k) hp;by_cases hck:c=k
    ·rw [if_pos hck] at e2;refine go tt [.t (decide_eq_true (by omega)),.f (decide_eq_false (by omega))] rfl (by simp [Ui] <;> omega) ?_;exact rd (c+1) (by omega) hcl (by rw [e2]; rfl)
    ·rw [if_neg hck] at e2;have hs1:∀ y∈[[rp (zp p)]],y.length=1:=λy hy=>by rw [Ql.1 hy]; rfl
     refine go tt [.t (decide_eq_true (by omega)),.t (decide_eq_true (by omega)),.x (Qjn hr),.x (Qsw hp),.s (sz:=1) hs1] rfl (by simp [Ui] <;> omega) ?_;exact rd (c+1) (by omega) hcl (by rw [e2]; simp [zrw]; rfl)
   ·obtain rfl:c=r.length:=by omega
    rw [Q4];have hs1:∀ y∈[[LV.row (zrw (r.eraseIdx k))]],y.length=1:=λy hy=>by rw [Ql.1 hy]; rfl
    refine go tt [.f (decide_eq_false (by omega))] rfl trivial ?_;refine gz 1 rfl rfl ?_;refine go tt [.s (sz:=1) hs1] rfl (by simp [Ui] <;> omega) ?_;exact rd (i+1) (by omega) hlt (by rw [e]; simp [zmt]; rfl)
 ·obtain rfl:i=M.length:=by omega
  rw [Q4];exact en tt [.f (decide_eq_false (by omega))] rfl rfl trivial
def Qzx (k:Nat) (p:List Int):List Int:=if k % 2=1 then Se p else p
def Lc (f:List (List (List Int))->List Int) (M:List (List (List Int))):Nat->List Int
 | 0=>[]
 | k+1=>L9 (Lc f M k) (Qzx k (U5 ((M.getD 0 []).getD k []) (f (Gp M k))))
def Qd3:Nat->List (List (List Int))->List Int
 | 0,_=>[1]
 | n+1,M=>Lc (Qd3 n) M (n+1)
structure SqR (s:Nat) (ds:List Nat) (M:List (List (List Int))):Prop where
 l:M.length=ds.length
 w:∀ r∈M,r.length=ds.length
 b:∀ r∈M,∀ p∈r,Bd s p
 n:∀ r∈M,∀ (j:Nat) (p:List Int),r[j]? = some p->p.length≤ds.getD j 0+1
theorem D5:∀ {ds:List Nat} {k:Nat},k<ds.length->(ds.eraseIdx k).sum+ds.getD k 0=ds.sum
 | [],_,h=>by simp at h
 | d::ds,0,_=>by simp [Yc]
 |
  d::ds,k+1,h=>by
  have:=D5 (ds:=ds) (k:=k) (by simpa using h);simp only [List.eraseIdx_cons_succ,V5,Q3];omega
theorem SqR.minor {s:Nat} {ds:List Nat} {M:List (List (List Int))} (h:SqR s ds M) {k:Nat} (hk:k<ds.length):SqR s (ds.eraseIdx k) (Gp M k):=by
 have hl:=h.l;unfold Gp;refine ⟨by rw [Q8,Z0,Jr hk]; omega,λr hr=>?_,λr hr p hp=>?_,λr hr j p hp=>?_⟩
 all_goals obtain ⟨q,hq,rfl⟩:=Za.1 hr
 all_goals have hq:=Q0 hq
 ·rw [Jr (by rw [h.w q hq]; exact hk),Jr hk,h.w q hq]
 ·exact h.b q hq p (List.mem_of_mem_eraseIdx hp)
 ·rw [List.getElem?_eraseIdx] at hp;rw [Qg,List.getElem?_eraseIdx]
  split at hp <;> rename_i hj
  ·rw [if_pos hj,<-Qg]; exact h.n q hq j p hp
  ·rw [if_neg hj,<-Qg]; exact h.n q hq (j+1) p hp
theorem SqR.at {s:Nat} {ds:List Nat} {M:List (List (List Int))} (h:SqR s ds M) {k:Nat} (hk:k<ds.length):∃ r p,M[0]? = some r/\r[k]? = some p/\(M.getD 0 []).getD k []=p/\Bd s p/\p.length<=ds.getD k 0+1:=by
 obtain ⟨r,hr⟩:=gxE (l:=M) (i:=0) (by rw [h.l]; omega);have hm:=Qa hr;obtain ⟨p,hp⟩:=gxE (l:=r) (i:=k) (by rw [h.w r hm]; exact hk);refine ⟨r,p,hr,hp,?_,h.b r hm p (Qa hp),h.n r hm k p hp⟩;rw [Qg (l:=M),hr,Y9,Qg,hp]; rfl
theorem Zh8 {k s:Nat} {p:List Int} (h:Bd s p):Bd s (Qzx k p):=by
 unfold Qzx; split
 ·exact If h
 ·exact h
theorem Zct (k:Nat) (p:List Int):(Qzx k p).length<=p.length:=by
 unfold Qzx; split
 ·exact Nj _
 ·exact Qm _
theorem Qkf {s B:Nat} {ds:List Nat} {f:List (List (List Int))->List Int} {M:List (List (List Int))} (h:SqR s ds M) (hs:ds.sum<64) (hf:∀ k,k<ds.length->Bd B (f (Gp M k))/\(f (Gp M k)).length<=(ds.eraseIdx k).sum+1):∀ i,i<=ds.length->Bd (s+B+7+i) (Lc f M i)/\(Lc f M i).length<=ds.sum+1
 | 0,_=>⟨λz hz=>(by cases hz),Qh _⟩
 |
  i+1,hi=>by
  obtain ⟨h2,h3⟩:=Qkf h hs hf i (by omega);obtain ⟨r,p,_,_,e,b,l⟩:=h.at (k:=i) (by omega);obtain ⟨f1,f2⟩:=hf i (by omega);have hd:=D5 (ds:=ds) (k:=i) (by omega);have hp1:Bd (s+B+7) (U5 p (f (Gp M i))):=To b f1 (Zv l (by omega));have hp2:=H8 p (f (Gp M i));have hp3:=Zct i (U5 p (f (Gp M i)));simp only [Lc];rw [e];exact ⟨Uj (Qdt h2 (Zh8 hp1)) (by omega),Qc (Qah _ _) (by omega)⟩
theorem Qiw {s:Nat}:∀ (n:Nat) (ds:List Nat) (M:List (List (List Int))),ds.length=n->ds.sum<64->SqR s ds M->Bd (n*(s+20)+1) (Qd3 n M)/\(Qd3 n M).length<=ds.sum+1/\n<=9\/9<n
 | 0,ds,M,_,_,_=>.inl ⟨λz hz=>(by simp [Qd3] at hz; subst hz; rw [Ye]; decide),by simp [Qd3],by omega⟩
 |
  n+1,ds,M,hl,hs,h=>by
  by_cases h9:9<n+1
  ·exact .inr h9
  have hsum:=λk (hk:k<ds.length)=>D5 (ds:=ds) (k:=k) hk
  have:=Qkf (f:=Qd3 n) (B:=n*(s+20)+1) h hs (λk hk=>by
   have hd:=hsum k hk;rcases Qiw n (ds.eraseIdx k) (Gp M k) (by rw [Jr hk]; omega) (by omega) (h.minor hk) with h' | h'
   ·exact ⟨h'.1,h'.2.1⟩
   ·omega) (n+1) (by omega)
  have e1:(n+1)*(s+20)=n*(s+20)+(s+20):=Xc ..;exact .inl ⟨Uj this.1 (by omega),this.2,by omega⟩
theorem Qxv {s:Nat} (hs:s<=1000000):∀ (n:Nat) (ds:List Nat) (M:List (List (List Int))),n<=4->ds.length=n->ds.sum<64->SqR s ds M->Uk Tryz.prog 54 [.one (.row (zmt M))] [.one (rp (zp (Qd3 n M)))]
 |
  0,ds,M,_,hl,_,h=>by
  have e:=Qi (h.l.trans hl);subst e;exact w tt Tryz.func54 rfl [.t rfl,.c [] Qxu] rfl rfl trivial
 |
  n+1,ds,M,hn,hl,hd,h=>by
  have hrl:=Qst M;have hMl:=h.l;have ih:=λk (hk:k<ds.length)=>Qxv hs n (ds.eraseIdx k) (Gp M k) (by omega) (by rw [Jr hk]; omega) (by have:=D5 (ds:=ds) (k:=k) hk; omega) (h.minor hk)
  have hb:n*(s+20)+1<=3*1000020+1:=Nat.add_le_add_right (Zx (by omega) (by omega)) 1;have hok:∀ k,k<ds.length->Bd (n*(s+20)+1) (Qd3 n (Gp M k))/\(Qd3 n (Gp M k)).length<=(ds.eraseIdx k).sum+1:=λk hk=>by
   have hd':=D5 (ds:=ds) (k:=k) hk;rcases Qiw n (ds.eraseIdx k) (Gp M k) (by rw [Jr hk]; omega) (by omega) (h.minor hk) with h' | h'
   ·exact ⟨h'.1,h'.2.1⟩
   ·omega
  have hds:=Qkf (f:=Qd3 n) (B:=n*(s+20)+1) h hd hok;have cm:=λk=>Q8q (M:=M) (k:=k) (by omega) (λr hr=>by rw [h.w r hr]; omega)
  show Uk Tryz.prog 54 [.one (.row (zmt M))] [.one (rp (zp (Lc (Qd3 n) M (n+1))))];obtain ⟨f,hf⟩:=nmE (Qd3 n);rw [<-hf] at hds hok ih ⊢;refine Gm Tryz.func54 rfl ?_;refine go tt [.f (decide_eq_false (by omega)),.z 3] rfl trivial ?_;refine lp (S:=Nat) 0 (λL1 i=>(13,.v (.one (.int .i64 (i:Int))))::(3,.v (.one (rp (zp (Lc f M i)))))::L1) (λ_=>[]) (λi=>M.length-i) (λi=>i<=M.length) 0 (Qh _) rfl (λ_ _=>rfl) rfl λi hi=>?_
  obtain ⟨d2,d3⟩:=hds i (by omega);by_cases hlt:i<M.length
  ·obtain ⟨r,p,hr,hp,e,b,l⟩:=h.at (k:=i) (by omega);obtain ⟨k2,k3⟩:=hok i (by omega);have hse:=D5 (ds:=ds) (k:=i) (by omega);have ci:=ih i (by omega);have cp:=Qcu (p:=p) (q:=f (Gp M i)) (by omega) (by omega) b k2 (by omega);have hmb:Bd (s+(n*(s+20)+1)+7) (U5 p (f (Gp M i))):=To b k2 (Zv l (by omega));have hml:=H8 p (f (Gp M i));by_cases h2:i % 2=1
   ·have es:Lc f M (i+1)=L9 (Lc f M i) (Se (U5 p (f (Gp M i)))):=by simp only [Lc,Qzx]; rw [e,if_pos h2]
    have hnl:=Nj (U5 p (f (Gp M i)));refine go tt [.t (decide_eq_true (by omega)),.x (Qjn hr),.x (Qsw hp),.c [] (cm i),.c [] ci,.c [] cp,.r 28 (eI (b:=((i % 2:Nat):Int)) rfl),.t (decide_eq_true (by omega)),.c [] (Qxo (Uj hmb (by omega)) (by omega)),.c [] (Qp6 (p:=Lc f M i) (q:=Se (U5 p (f (Gp M i)))) (Uj d2 (by omega)) (Uj (If hmb) (by omega)) (by omega) (by omega))] rfl (by simp [Ui] <;> omega) ?_;exact rd (i+1) (by omega) hlt (by rw [es]; rfl)
   ·have es:Lc f M (i+1)=L9 (Lc f M i) (U5 p (f (Gp M i))):=by simp only [Lc,Qzx]; rw [e,if_neg h2]
    refine go tt [.t (decide_eq_true (by omega)),.x (Qjn hr),.x (Qsw hp),.c [] (cm i),.c [] ci,.c [] cp,.r 28 (eI (b:=((i % 2:Nat):Int)) rfl),.f (decide_eq_false (by omega)),.c [] (Qp6 (p:=Lc f M i) (q:=U5 p (f (Gp M i))) (Uj d2 (by omega)) (Uj hmb (by omega)) (by omega) (by omega))] rfl (by simp [Ui] <;> omega) ?_;exact rd (i+1) (by omega) hlt (by rw [es]; rfl)
  ·obtain rfl:i=n+1:=by omega
   exact en tt [.f (decide_eq_false (by omega))] rfl rfl trivial
theorem Qu8 {a b c:Crv} (ha:Rs a) (hb:Rs b) (hc:Rs c):SqR 100000 [15,15,0] (Nl a b c):=by
 have key:∀ k:Crv,Rs k->(∀ p∈[k.x,k.y,[k.d]],Bd 100000 p)/\∀ (j:Nat) (p:List Int),[k.x,k.y,[k.d]][j]? = some p->p.length≤[15,15,0].getD j 0+1:=λk hk=>by
  refine ⟨λp hp=>?_,λj p hp=>?_⟩
  ·simp only [Qp,Jq,or_false] at hp;rcases hp with rfl | rfl | rfl
   ·exact hk.c.x
   ·exact hk.c.y
   ·exact Zke hk.c.d
  ·match j,hp with
   | 0,hp=>injection hp with hp; subst hp; exact hk.c.lx
   | 1,hp=>injection hp with hp; subst hp; exact hk.c.ly
   | 2,hp=>injection hp with hp; subst hp; exact Qm _
   | j+3,hp=>simp at hp
 have h3:∀ r∈Nl a b c,r=[a.x,a.y,[a.d]]\/r=[b.x,b.y,[b.d]]\/r=[c.x,c.y,[c.d]]:=λr hr=>by
  simpa [Nl] using hr
 refine ⟨rfl,λr hr=>?_,λr hr=>?_,λr hr=>?_⟩
 ·rcases h3 r hr with rfl | rfl | rfl <;> rfl
 ·rcases h3 r hr with rfl | rfl | rfl
  ·exact (key a ha).1
  ·exact (key b hb).1
  ·exact (key c hc).1
 ·rcases h3 r hr with rfl | rfl | rfl
  ·exact (key a ha).2
  ·exact (key b hb).2
  ·exact (key c hc).2
def Ep (a b c:Crv):List Int:=Qd3 3 (Nl a b c)
theorem Qy3 {a b c:Crv} (ha:Rs a) (hb:Rs b) (hc:Rs c):Bd 400000 (Ep a b c)/\(Ep a b c).length<=31:=by
 rcases Qiw 3 [15,15,0] (Nl a b c) rfl (by decide) (Qu8 ha hb hc) with h | h
 ·exact ⟨Uj h.1 (by decide),h.2.1⟩
 ·omega
theorem Q4n {a b c:Crv} (ha:Rs a) (hb:Rs b) (hc:Rs c):Uk Tryz.prog 12 [.agg (Cv a),.agg (Cv b),.agg (Cv c)] [.one (rp (zp (Ep a b c)))]:=by
 have cd:=Qxv (by decide) 3 [15,15,0] (Nl a b c) (by decide) rfl (by decide) (Qu8 ha hb hc);have x0:[Cv a,Cv b,Cv c][0]? = some (Cv a):=rfl;have x1:[Cv a,Cv b,Cv c][1]? = some (Cv b):=rfl;have x2:[Cv a,Cv b,Cv c][2]? = some (Cv c):=rfl;have hs1:∀ k:Crv,∀ y∈[[LV.row (zrw [k.x,k.y,[k.d]])]],y.length=1:=λk y hy=>by rw [Ql.1 hy]; rfl
 refine Gm Tryz.func12 rfl ?_;refine go tt [.o 7 29 1] rfl trivial ?_;refine lp (S:=Nat) 4 (λL1 i=>(18,.v (.one (.int .i64 (i:Int))))::(7,.v (.one (.orow 3 1 none)))::L1) (λi=>[.blk 59 (Cv a),.blk 59 (Cv b),.blk 59 (Cv c),.row false 29 1 (zmt ((Nl a b c).take i))]) (λi=>3-i) (λi=>i<=3) 0 (by decide) rfl (λ_ _=>rfl) rfl λi hi=>?_
 rcases (show i=0\/i=1\/i=2\/i=3 by omega) with rfl | rfl | rfl | rfl
 ·exact go tt [.t rfl,.x x0,.c [] (Qcv ha),.s (sz:=1) (hs1 a)] rfl (by simp [Ui,zmt,Nl]) (rd 1 (by omega) (by omega) rfl)
 ·exact go tt [.t rfl,.x x1,.c [] (Qcv hb),.s (sz:=1) (hs1 b)] rfl (by simp [Ui,zmt,Nl]) (rd 2 (by omega) (by omega) rfl)
 ·exact go tt [.t rfl,.x x2,.c [] (Qcv hc),.s (sz:=1) (hs1 c)] rfl (by simp [Ui,zmt,Nl]) (rd 3 (by omega) (by omega) rfl)
 ·exact en tt [.f rfl,.c [] cd] rfl rfl trivial
end Orr
namespace Orq
section
variable {α:Type} (X Y:α->Rat)
def lx (a b:α):Prop:=X a<X b\/X a=X b/\Y a<Y b
def ori (a b c:α):Rat:=(X b-X a)*(Y c-Y a)-(X c-X a)*(Y b-Y a)
variable {X Y}
def Edg (Q:α->α->Prop):List α->Prop
 | a::b::r=>Q a b/\Edg Q (b::r)
 | _=>True
def Cnv (R:α->α->α->Prop):List α->Prop
 | a::b::c::r=>R a b c/\Cnv R (b::c::r)
 | _=>True
theorem Edg.tail {Q:α->α->Prop} {a:α} {l:List α} (h:Edg Q (a::l)):Edg Q l:=by
 cases l with
 | nil=>trivial
 | cons b l=>exact h.2
theorem Cnv.tail {R:α->α->α->Prop} {a:α} {l:List α} (h:Cnv R (a::l)):Cnv R l:=by
 match l,h with
 | [],_=>trivial
 | [_],_=>trivial
 | b::c::l,h=>exact h.2
theorem Edg.imp {Q Q':α->α->Prop}:∀ {l:List α},(∀ a∈l,∀ b∈l,Q a b->Q' a b)->Edg Q l->Edg Q' l
 | [],_,_=>trivial
 | [_],_,_=>trivial
 | a::b::l,hq,h=>⟨hq a (by simp) b (by simp) h.1,Edg.imp (l:=b::l) (λx hx y hy=>hq x (Qj _ hx) y (Qj _ hy)) h.2⟩
theorem Cnv.imp {R R':α->α->α->Prop}:∀ {l:List α},(∀ a∈l,∀ b∈l,∀ c∈l,R a b c->R' a b c)->Cnv R l->Cnv R' l
 | [],_,_=>trivial
 | [_],_,_=>trivial
 | [_,_],_,_=>trivial
 | a::b::c::l,hq,h=>⟨hq a (by simp) b (by simp) c (by simp) h.1,Cnv.imp (l:=b::c::l) (λx hx y hy z hz=>hq x (Qj _ hx) y (Qj _ hy) z (Qj _ hz)) h.2⟩
structure Stk (X Y:α->Rat) (P:List α) (st:List α):Prop where
 srt:st.Pairwise λb a=>lx X Y a b
 mem:∀ p∈st,p∈P
 edg:Edg (λb a=>∀ p∈P,0≤ori X Y a b p) st
 cnv:Cnv (λc b a=>0<ori X Y a b c) st
theorem Stk.tail {P:List α} {a:α} {st:List α} (h:Stk X Y P (a::st)):Stk X Y P st:=⟨(Xj.1 h.srt).2,λp hp=>h.mem p (Qj _ hp),h.edg.tail,h.cnv.tail⟩
end
end Orq
namespace Orr
open Go
end Orr
namespace Orq
open Orr Go
def Quv (sg:List Int->Int) (a b c:Pt):Ct:=⟨3,a.id,b.id,c.id,0,Mj a.c b.c c.c,Mp sg (Mj a.c b.c c.c)⟩
end Orq
namespace Orr
open Go Go.Proofs Orq
set_option maxRecDepth 10000
theorem Q0x {a b c:Pt} {t:Tm} (ha:Sc a.c) (hb:Sc b.c) (hc:Sc c.c) (ht:Va t):Uk Tryz.prog 120 [.one (.int .i64 3),.agg (ta t),.one (.row [G0 a,G0 b,G0 c])] [.agg (Qep (Quv (Pi t) a b c)),.one (.int .i64 0)]:=by
 have hp:=(Qni ha hb hc).dp;have e:Qep (Quv (Pi t) a b c)=[.int .i64 3,.int .i64 a.id,.int .i64 b.id,.int .i64 c.id,.int .i64 0,pl (Mj a.c b.c c.c),.int .i64 (Mp (Pi t) (Mj a.c b.c c.c))]:=by rw [Quv]
 rw [e];have cg:=Zjb hp ht;have cf:=Q7p ha hb hc;generalize Mj a.c b.c c.c=F at *;refine Gm Tryz.func120 rfl ?_;refine go tt [.c [] Q4h,.f rfl] rfl trivial ?_;refine lp (S:=Nat) 3 (λL1 i=>(22,.v (.one (.int .i64 (i:Int))))::L1) (λi=>[.blk 79 (ta t),.blk 99 zCt,.blk 99 [.int .i64 3,.int .i64 (if 1<=i then a.id else 0),.int .i64 (if 2<=i then b.id else 0),.int .i64 (if 3<=i then c.id else 0),.int .i64 0,.nils,.int .i64 0]]) (λi=>3-i) (λi=>i<=3) 0 (Qh _) rfl (λ_ _=>rfl) rfl λi hi=>?_
 rcases (show i=0\/i=1\/i=2\/i=3 by omega) with rfl | rfl | rfl | rfl
 ·refine go tt [.t rfl,.x (i:=0) (xs:=G0 a) rfl,.i 0] rfl (by simp [Ui]) ?_;exact rd 1 (by omega) (by omega) rfl
 ·refine go tt [.t rfl,.x (i:=1) (xs:=G0 b) rfl,.i 1] rfl (by simp [Ui]) ?_;exact rd 2 (by omega) (by omega) rfl
 ·refine go tt [.t rfl,.x (i:=2) (xs:=G0 c) rfl,.i 2] rfl (by simp [Ui]) ?_;exact rd 3 (by omega) (by omega) rfl
 ·exact en tt [.f rfl,.f rfl,.f rfl,.t rfl,.x (i:=0) (xs:=G0 a) rfl,.x (i:=1) (xs:=G0 b) rfl,.x (i:=2) (xs:=G0 c) rfl,.c [] cf,.c [] cg] rfl rfl trivial
theorem Q3x {l:List Pt} (hl:∀ p∈l,Sc p.c):∀ p∈l,Qws 4294967294 1073741824 p:=λp hp=>⟨(hl p hp).n,(hl p hp).c.mono (by decide) (by decide)⟩
def Ql7 (a b:Crv):Bool:=decide ((Ql5 (Ab a.x a.d) (Ab b.x b.d)).length=0) && decide ((Ql5 (Ab a.y a.d) (Ab b.y b.d)).length=0)
theorem Zfn {a b:Crv} (ha:Rs a) (hb:Rs b):Uk Tryz.prog 50 [.agg (Cv a),.agg (Cv b)] [.one (.bool (Ql7 a b))]:=by
 have lx1:=ha.c.lx;have ly1:=ha.c.ly;have lx2:=hb.c.lx;have ly2:=hb.c.ly;have cx:=Q8h (p:=Ab a.x a.d) (q:=Ab b.x b.d) (Qdj (Uj ha.c.x (by decide)) (Qc ha.c.d (by decide)) (by decide)) (Qdj (Uj hb.c.x (by decide)) (Qc hb.c.d (by decide)) (by decide)) (by rw [Mk]; omega) (by rw [Mk]; omega);have cy:=Q8h (p:=Ab a.y a.d) (q:=Ab b.y b.d) (Qdj (Uj ha.c.y (by decide)) (Qc ha.c.d (by decide)) (by decide)) (Qdj (Uj hb.c.y (by decide)) (Qc hb.c.d (by decide)) (by decide)) (by rw [Mk]; omega) (by rw [Mk]; omega);unfold Ql7;generalize Ql5 (Ab a.x a.d) (Ab b.x b.d)=X at *;generalize Ql5 (Ab a.y a.d) (Ab b.y b.d)=Y at *;have hX:(frow X).length=X.length:=by simp [frow]
 have hY:(frow Y).length=Y.length:=by simp [frow]
 by_cases h:X.length=0
 ·by_cases h':Y.length=0
  ·rw [decide_eq_true h,decide_eq_true h'];exact w tt Tryz.func50 rfl [.c [] cx,.g 12 true (decide_eq_true (by omega)),.c [] cy,.g 19 true (decide_eq_true (by omega))] rfl rfl trivial
  ·rw [decide_eq_true h,decide_eq_false h'];exact w tt Tryz.func50 rfl [.c [] cx,.g 12 true (decide_eq_true (by omega)),.c [] cy,.g 19 false (decide_eq_false (by omega))] rfl rfl trivial
 ·rw [decide_eq_false h];exact w tt Tryz.func50 rfl [.c [] cx,.g 12 false (decide_eq_false (by omega))] rfl rfl trivial
def Qil (out:List Pt) (p:Pt):List Pt:=if (out.any λo=>Ql7 o.c p.c)=true then out else out++[p]
def Qco (l:List Pt):List Pt:=(Rt L8 l).foldl Qil []
theorem Qfm:∀ (M O:List Pt),(∀ p∈M.foldl Qil O,p∈O\/p∈M)/\(M.foldl Qil O).length≤O.length+M.length
 | [],O=>⟨λp hp=>.inl hp,by simp⟩
 |
  x::M,O=>by
  obtain ⟨h1,h2⟩:=Qfm M (Qil O x);have e1:(Qil O x).length<=O.length+1:=by unfold Qil; split <;> simp
  refine ⟨λp hp=>?_,by rw [Xe,Q6]; omega⟩;rcases h1 p hp with h | h
  ·unfold Qil at h
   split at h
   ·exact .inl h
   ·rcases Qw.1 h with h | h
    ·exact .inl h
    ·exact .inr (by rw [Ql.1 h]; simp)
  ·exact .inr (Qj _ h)
theorem Q6g {l:List Pt} {p:Pt} (h:p∈Qco l):p∈l:=by
 rcases (Qfm (Rt L8 l) []).1 p h with h | h
 ·cases h
 ·exact A6.1 h
theorem Qpl (l:List Pt):(Qco l).length<=l.length:=by
 have:=(Qfm (Rt L8 l) []).2;rw [B5,Jc,Xa] at this;exact this
theorem Zdf {α:Type} {f:α->Bool} {l:List α} {i:Nat} {x:α} (h:l[i]? = some x):(l.take (i+1)).any f=((l.take i).any f || f x):=by
 rw [Zw,h,List.any_append]; simp
theorem Zfp {l:List Pt} (hl:∀ p∈l,Rs p.c) (hn:l.length≤1000):Uk Tryz.prog 9 [.one (.row (Fj l))] [.one (.row (Fj (Qco l)))]:=by
 have c1:=Q1a (l:=l) (by omega);have hML:(Rt L8 l).length=l.length:=B5 _ _;have hMl:∀ p∈Rt L8 l,Rs p.c:=λp hp=>hl p (A6.1 hp)
 unfold Qco;obtain ⟨M,hM⟩:=nmE (Rt L8 l);rw [<-hM] at c1 hML hMl ⊢;have hcl:=Pg M;refine Gm Tryz.func9 rfl ?_;refine go tt [.o 3 61 7,.c [] c1] rfl trivial ?_;refine lp (S:=Nat) 1 (λL1 i=>(11,.v (.one (.int .i64 (i:Int))))::(3,.v (.one (.orow 0 7 none)))::L1) (λi=>[.row false 61 7 (Fj ((M.take i).foldl Qil []))]) (λi=>M.length-i) (λi=>i<=M.length) 0 (Qh _) rfl (λ_ _=>rfl) rfl λi hi=>?_
 by_cases hlt:i<M.length
 ·obtain ⟨p,hp⟩:=gxE (l:=M) (i:=i) hlt;have hpr:=hMl p (Qa hp);have hst:=Hh Qil [] M hp;have hsub:=Qfm (M.take i) [];obtain ⟨O,hO⟩:=nmE ((M.take i).foldl Qil []);rw [<-hO] at hst hsub ⊢;have hOl:O.length<=1000:=by have:=hsub.2; rw [Jc,Qx] at this; omega
  have hOm:∀ o∈O,Rs o.c:=λo ho=>by
   rcases hsub.1 o ho with h | h
   ·cases h
   ·exact hMl o (Qn h)
  have hrl:=Pg O;refine go tt [.t (decide_eq_true (by omega))] rfl trivial ?_;refine lp (S:=Nat) 1 (λL1 k=>(16,.v (.one (.int .i64 (k:Int))))::(5,.v (.one (.bool ((O.take k).any λo=>Ql7 o.c p.c))))::L1) (λ_=>[.row false 61 7 (Fj O)]) (λk=>O.length-k) (λk=>k<=O.length) 0 (Qh _) rfl (λ_ _=>rfl) rfl λk hk=>?_
  by_cases hkl:k<O.length
  ·obtain ⟨o,ho⟩:=gxE (l:=O) (i:=k) hkl;have ha:=Zdf (f:=λo=>Ql7 o.c p.c) ho;cases hb:(O.take k).any λo=>Ql7 o.c p.c with
   |
    true =>
    rw [hb,Bool.true_or] at ha;refine go tt [.t (decide_eq_true (by omega)),.g 20 true rfl] rfl (by simp [Ui] <;> omega) ?_;exact rd (k+1) (by omega) hkl (by rw [ha]; rfl)
   |
    false =>
    rw [hb,Bool.false_or] at ha;refine go tt [.t (decide_eq_true (by omega)),.g 20 false rfl,.i k,.x (Tf ho),.x (Tf hp),.c [] (Zfn (hOm o (Qa ho)) hpr)] rfl (by simp [Ui] <;> omega) ?_;exact rd (k+1) (by omega) hkl (by rw [ha]; rfl)
  ·obtain rfl:k=O.length:=by omega
   rw [Q4];have h7z:∀ y∈[Cg p],y.length=7:=λy hy=>by rw [Ql.1 hy]; rfl
   cases hb:O.any λo=>Ql7 o.c p.c with
   |
    true =>
    have e:Qil O p=O:=if_pos hb;refine go tt [.f (decide_eq_false (by omega)),.f rfl] rfl (by simp [Ui] <;> omega) ?_;exact rd (i+1) (by omega) hlt (by rw [hst,e]; rfl)
   |
    false =>
    have e:Qil O p=O++[p]:=if_neg (by rw [hb]; decide);refine go tt [.f (decide_eq_false (by omega)),.t rfl,.x (Tf hp),.s (sz:=7) h7z] rfl (by simp [Ui] <;> omega) ?_;exact rd (i+1) (by omega) hlt (by rw [hst,e]; simp [Fj]; rfl)
 ·obtain rfl:i=M.length:=by omega
  rw [Q4];exact en tt [.f (decide_eq_false (by omega))] rfl rfl trivial

def Qda (sg:List Int->Int) (a b c:Pt):Ct:=⟨3,a.id,b.id,c.id,0,Ep a.c b.c c.c,Mp sg (Ep a.c b.c c.c)⟩
theorem Q8n {a b u:Pt} {q:Rat} {c:List (List Int)} (ha:Rs a.c) (hb:Rs b.c) (hu:Rs u.c) (hq:Qs 2000000 q):Uk Tryz.prog 265 [.one (.int .i64 3),.agg (aq q c),.one (.row [Cg a,Cg b,Cg u])] [.agg (rct (Qda (Ic q) a b u)),.one (.bool true)]:=by
 have x0:[Cg a,Cg b,Cg u][0]? = some (Cg a):=rfl;have x1:[Cg a,Cg b,Cg u][1]? = some (Cg b):=rfl;have x2:[Cg a,Cg b,Cg u][2]? = some (Cg u):=rfl;have cf:=Q4n ha hb hu;have hsz:=Qy3 ha hb hu;have cg:=Qj5 (c:=c) (Uj hsz.1 (by decide)) (Qc hsz.2 (by decide)) hq;have e:rct (Qda (Ic q) a b u)=[.int .i64 3,.int .i64 a.id,.int .i64 b.id,.int .i64 u.id,.int .i64 0,rp (zp (Ep a.c b.c u.c)),.int .i64 (Qc2 (Ep a.c b.c u.c) q),.row [],.bool false]:=by simp only [Qda,rct,Qk4]
 rw [e];generalize Ep a.c b.c u.c=F at *;refine Gm Tryz.func265 rfl ?_;refine go tt [.g 14 false rfl,.g 18 false rfl,.x (l:=[[.int .i64 0],[.int .i64 2],[.int .i64 2],[.int .i64 3],[.int .i64 4],[.int .i64 4]]) (i:=3) (xs:=[.int .i64 3]) rfl,.f rfl] rfl trivial ?_;refine lp (S:=Nat) 3 (λL1 i=>(33,.v (.one (.int .i64 (i:Int))))::L1) (λi=>[.blk 37 (aq q c),.blk 227 rzc,.blk 227 [.int .i64 3,.int .i64 (if 0<i then a.id else 0),.int .i64 (if 1<i then b.id else 0),.int .i64 (if 2<i then u.id else 0),.int .i64 0,.nils,.int .i64 0,.nils,.bool false]]) (λi=>3-i) (λi=>i<=3) 0 (by decide) rfl (λ_ _=>rfl) rfl λi hi=>?_
 rcases (show i=0\/i=1\/i=2\/i=3 by omega) with rfl | rfl | rfl | rfl
 ·exact go tt [.t rfl,.x x0,.i 0] rfl (by simp [Ui]) (rd 1 (by omega) (by omega) rfl)
 ·exact go tt [.t rfl,.x x1,.i 1] rfl (by simp [Ui]) (rd 2 (by omega) (by omega) rfl)
 ·exact go tt [.t rfl,.x x2,.i 2] rfl (by simp [Ui]) (rd 3 (by omega) (by omega) rfl)
 exact en tt [.f rfl,.f rfl,.f rfl,.t rfl,.x x0,.x x1,.x x2,.c [] cf,.c [] cg] rfl rfl trivial
theorem Zfq {a b u:Pt} {q:Rat} {c:List (List Int)} (ha:Rs a.c) (hb:Rs b.c) (hu:Rs u.c) (hq:Qs 2000000 q):Uk Tryz.prog 232 [.one (.int .i64 3),.agg (aq q c),.one (.row [Cg a,Cg b,Cg u])] [.agg (rct (Qda (Ic q) a b u))] :=
 w tt Tryz.func232 rfl [.c [] (Q8n ha hb hu hq)] rfl rfl trivial
def Qcd (k:Crv):List (List Int):=[U5 k.x [k.d],U5 k.y [k.d],L9 (U5 k.x k.x) (U5 k.y k.y),U5 [k.d] [k.d]]
def Lb (a b c d:Crv):List (List (List Int)):=[Qcd a,Qcd b,Qcd c,Qcd d]
def Qhj (a b c d:Crv):List Int:=Qd3 4 (Lb a b c d)
theorem Qtn {k:Crv} (hk:Rs k):(∀ p∈Qcd k,Bd 300000 p)/\∀ (j:Nat) (p:List Int),(Qcd k)[j]? = some p->p.length≤[15,15,30,0].getD j 0+1:=by
 have bd1:Bd 100000 [k.d]:=Zke hk.c.d;have l1:=H8 k.x [k.d];have l2:=H8 k.y [k.d];have l3:=H8 k.x k.x;have l4:=H8 k.y k.y;have l5:=H8 [k.d] [k.d];have l6:=Qah (U5 k.x k.x) (U5 k.y k.y);have hx:=hk.c.lx;have hy:=hk.c.ly;have e1:[k.d].length=1:=rfl;have m1:Bd 200005 (U5 k.x [k.d]):=To (u:=5) hk.c.x bd1 (by omega);have m2:Bd 200005 (U5 k.y [k.d]):=To (u:=5) hk.c.y bd1 (by omega);have m3:Bd 200005 (U5 k.x k.x):=To (u:=5) hk.c.x hk.c.x (by omega);have m4:Bd 200005 (U5 k.y k.y):=To (u:=5) hk.c.y hk.c.y (by omega);have m5:Bd 200005 (U5 [k.d] [k.d]):=To (u:=5) bd1 bd1 (by omega);refine ⟨λp hp=>?_,λj p hp=>?_⟩
 ·simp only [Qcd,Qp,Jq,or_false] at hp;rcases hp with rfl | rfl | rfl | rfl
  ·exact Uj m1 (by decide)
  ·exact Uj m2 (by decide)
  ·exact Uj (Qdt m3 m4) (by decide)
  ·exact Uj m5 (by decide)
 ·match j,hp with
  | 0,hp=>injection hp with hp; subst hp; show _<=16; omega
  | 1,hp=>injection hp with hp; subst hp; show _<=16; omega
  | 2,hp=>injection hp with hp; subst hp; show _<=31; omega
  | 3,hp=>injection hp with hp; subst hp; show _<=1; omega
  | j+4,hp=>simp [Qcd] at hp
theorem Qnk {a b c d:Crv} (ha:Rs a) (hb:Rs b) (hc:Rs c) (hd:Rs d):SqR 300000 [15,15,30,0] (Lb a b c d):=by
 have hr:∀ r∈Lb a b c d,∃ k:Crv,Rs k/\r=Qcd k:=λr hr=>by
  simp only [Lb,Qp,Jq,or_false] at hr;rcases hr with rfl | rfl | rfl | rfl
  ·exact ⟨a,ha,rfl⟩
  ·exact ⟨b,hb,rfl⟩
  ·exact ⟨c,hc,rfl⟩
  ·exact ⟨d,hd,rfl⟩
 refine ⟨rfl,λr h=>?_,λr h=>?_,λr h=>?_⟩
 all_goals obtain ⟨k,hk,rfl⟩:=hr r h
 ·rfl
 ·exact (Qtn hk).1
 ·exact (Qtn hk).2
theorem Q81 {a b c d:Crv} (ha:Rs a) (hb:Rs b) (hc:Rs c) (hd:Rs d):Bd 1300000 (Qhj a b c d)/\(Qhj a b c d).length<=61:=by
 rcases Qiw 4 [15,15,30,0] (Lb a b c d) rfl (by decide) (Qnk ha hb hc hd) with h | h
 ·exact ⟨Uj h.1 (by decide),h.2.1⟩
 ·omega
theorem Zfi {a b c d:Crv} (ha:Rs a) (hb:Rs b) (hc:Rs c) (hd:Rs d):Uk Tryz.prog 13 [.agg (Cv a),.agg (Cv b),.agg (Cv c),.agg (Cv d)] [.one (rp (zp (Qhj a b c d)))]:=by
 have cd:=Qxv (by decide) 4 [15,15,30,0] (Lb a b c d) (by decide) rfl (by decide) (Qnk ha hb hc hd);have x0:[Cv a,Cv b,Cv c,Cv d][0]? = some (Cv a):=rfl;have x1:[Cv a,Cv b,Cv c,Cv d][1]? = some (Cv b):=rfl;have x2:[Cv a,Cv b,Cv c,Cv d][2]? = some (Cv c):=rfl;have x3:[Cv a,Cv b,Cv c,Cv d][3]? = some (Cv d):=rfl;have hs1:∀ k:Crv,∀ y∈[[LV.row (zrw (Qcd k))]],y.length=1:=λk y hy=>by rw [Ql.1 hy]; rfl
 have bd1:∀ {k:Crv},Rs k->Bd 100000 [k.d]:=λhk=>Zke hk.c.d
 have q1:=λ{k:Crv} (hk:Rs k)=>Qcu (p:=k.x) (q:=k.x) (by have:=hk.c.lx; omega) (by have:=hk.c.lx; omega) hk.c.x hk.c.x (by decide)
 have q2:=λ{k:Crv} (hk:Rs k)=>Qcu (p:=k.y) (q:=k.y) (by have:=hk.c.ly; omega) (by have:=hk.c.ly; omega) hk.c.y hk.c.y (by decide)
 have q3:=λ{k:Crv} (hk:Rs k)=>Qcu (p:=k.x) (q:=[k.d]) (by have:=hk.c.lx; omega) (by show 1<=1000000; decide) hk.c.x (bd1 hk) (by decide)
 have q4:=λ{k:Crv} (hk:Rs k)=>Qcu (p:=k.y) (q:=[k.d]) (by have:=hk.c.ly; omega) (by show 1<=1000000; decide) hk.c.y (bd1 hk) (by decide)
 have q5:=λ{k:Crv} (hk:Rs k)=>Qcu (p:=[k.d]) (q:=[k.d]) (by show 1<=1000000; decide) (by show 1<=1000000; decide) (bd1 hk) (bd1 hk) (by decide)
 have q6:=λ{k:Crv} (hk:Rs k)=>Qp6 (p:=U5 k.x k.x) (q:=U5 k.y k.y) (Uj (To (u:=5) hk.c.x hk.c.x (by have:=hk.c.lx; omega)) (by decide)) (Uj (To (u:=5) hk.c.y hk.c.y (by have:=hk.c.ly; omega)) (by decide)) (by have:=H8 k.x k.x; have:=hk.c.lx; omega) (by have:=H8 k.y k.y; have:=hk.c.ly; omega)
 refine Gm Tryz.func13 rfl ?_;refine go tt [.o 9 29 1] rfl trivial ?_;refine lp (S:=Nat) 5 (λL1 i=>(22,.v (.one (.int .i64 (i:Int))))::(9,.v (.one (.orow 4 1 none)))::L1) (λi=>[.blk 59 (Cv a),.blk 59 (Cv b),.blk 59 (Cv c),.blk 59 (Cv d),.row false 29 1 (zmt ((Lb a b c d).take i))]) (λi=>4-i) (λi=>i<=4) 0 (by decide) rfl (λ_ _=>rfl) rfl λi hi=>?_
 rcases (show i=0\/i=1\/i=2\/i=3\/i=4 by omega) with rfl | rfl | rfl | rfl | rfl
 ·exact go tt [.t rfl,.x x0,.c [] (Qcv ha),.c [] (q1 ha),.c [] (q2 ha),.c [] (q6 ha),.c [] (q3 ha),.c [] (q4 ha),.c [] (q5 ha),.s (sz:=1) (hs1 a)] rfl (by simp [Ui,zmt,Lb]) (rd 1 (by omega) (by omega) rfl)
 ·exact go tt [.t rfl,.x x1,.c [] (Qcv hb),.c [] (q1 hb),.c [] (q2 hb),.c [] (q6 hb),.c [] (q3 hb),.c [] (q4 hb),.c [] (q5 hb),.s (sz:=1) (hs1 b)] rfl (by simp [Ui,zmt,Lb]) (rd 2 (by omega) (by omega) rfl)
 ·exact go tt [.t rfl,.x x2,.c [] (Qcv hc),.c [] (q1 hc),.c [] (q2 hc),.c [] (q6 hc),.c [] (q3 hc),.c [] (q4 hc),.c [] (q5 hc),.s (sz:=1) (hs1 c)] rfl (by simp [Ui,zmt,Lb]) (rd 3 (by omega) (by omega) rfl)
 ·exact go tt [.t rfl,.x x3,.c [] (Qcv hd),.c [] (q1 hd),.c [] (q2 hd),.c [] (q6 hd),.c [] (q3 hd),.c [] (q4 hd),.c [] (q5 hd),.s (sz:=1) (hs1 d)] rfl (by simp [Ui,zmt,Lb]) (rd 4 (by omega) (by omega) rfl)
 ·exact en tt [.f rfl,.c [] cd] rfl rfl trivial
def Qam (sg:List Int->Int) (a b c d:Pt):Ct:=⟨4,a.id,b.id,c.id,d.id,Qhj a.c b.c c.c d.c,Mp sg (Qhj a.c b.c c.c d.c)⟩
theorem Q8o {a b u v:Pt} {q:Rat} {c:List (List Int)} (ha:Rs a.c) (hb:Rs b.c) (hu:Rs u.c) (hv:Rs v.c) (hq:Qs 2000000 q):Uk Tryz.prog 265 [.one (.int .i64 4),.agg (aq q c),.one (.row [Cg a,Cg b,Cg u,Cg v])] [.agg (rct (Qam (Ic q) a b u v)),.one (.bool true)]:=by
 have x0:[Cg a,Cg b,Cg u,Cg v][0]? = some (Cg a):=rfl;have x1:[Cg a,Cg b,Cg u,Cg v][1]? = some (Cg b):=rfl;have x2:[Cg a,Cg b,Cg u,Cg v][2]? = some (Cg u):=rfl;have x3:[Cg a,Cg b,Cg u,Cg v][3]? = some (Cg v):=rfl;have cf:=Zfi ha hb hu hv;have hsz:=Q81 ha hb hu hv;have cg:=Qj5 (c:=c) (Uj hsz.1 (by decide)) (Qc hsz.2 (by decide)) hq;have e:rct (Qam (Ic q) a b u v)=[.int .i64 4,.int .i64 a.id,.int .i64 b.id,.int .i64 u.id,.int .i64 v.id,rp (zp (Qhj a.c b.c u.c v.c)),.int .i64 (Qc2 (Qhj a.c b.c u.c v.c) q),.row [],.bool false]:=by simp only [Qam,rct,Qk4]
 rw [e];generalize Qhj a.c b.c u.c v.c=F at *;refine Gm Tryz.func265 rfl ?_;refine go tt [.g 14 false rfl,.g 18 false rfl,.x (l:=[[.int .i64 0],[.int .i64 2],[.int .i64 2],[.int .i64 3],[.int .i64 4],[.int .i64 4]]) (i:=4) (xs:=[.int .i64 4]) rfl,.f rfl] rfl trivial ?_;refine lp (S:=Nat) 3 (λL1 i=>(33,.v (.one (.int .i64 (i:Int))))::L1) (λi=>[.blk 37 (aq q c),.blk 227 rzc,.blk 227 [.int .i64 4,.int .i64 (if 0<i then a.id else 0),.int .i64 (if 1<i then b.id else 0),.int .i64 (if 2<i then u.id else 0),.int .i64 (if 3<i then v.id else 0),.nils,.int .i64 0,.nils,.bool false]]) (λi=>4-i) (λi=>i<=4) 0 (by decide) rfl (λ_ _=>rfl) rfl λi hi=>?_
 rcases (show i=0\/i=1\/i=2\/i=3\/i=4 by omega) with rfl | rfl | rfl | rfl | rfl
 ·exact go tt [.t rfl,.x x0,.i 0] rfl (by simp [Ui]) (rd 1 (by omega) (by omega) rfl)
 ·exact go tt [.t rfl,.x x1,.i 1] rfl (by simp [Ui]) (rd 2 (by omega) (by omega) rfl)
 ·exact go tt [.t rfl,.x x2,.i 2] rfl (by simp [Ui]) (rd 3 (by omega) (by omega) rfl)
 ·exact go tt [.t rfl,.x x3,.i 3] rfl (by simp [Ui]) (rd 4 (by omega) (by omega) rfl)
 exact en tt [.f rfl,.f rfl,.f rfl,.f rfl,.t rfl,.x x0,.x x1,.x x2,.x x3,.c [] cf,.c [] cg] rfl rfl trivial
theorem Zfr {a b u v:Pt} {q:Rat} {c:List (List Int)} (ha:Rs a.c) (hb:Rs b.c) (hu:Rs u.c) (hv:Rs v.c) (hq:Qs 2000000 q):Uk Tryz.prog 232 [.one (.int .i64 4),.agg (aq q c),.one (.row [Cg a,Cg b,Cg u,Cg v])] [.agg (rct (Qam (Ic q) a b u v))] :=
 w tt Tryz.func232 rfl [.c [] (Q8o ha hb hu hv hq)] rfl rfl trivial
variable (sg:List Int->Int)
def cK (W:List Pt) (x y z:Pt) (k n:Nat):List Ct:=Qda sg x y z::((W.drop (k+1)).take n).map (Qam sg x y z)
def cJ (W:List Pt) (x y:Pt) (j:Nat):Nat->List Ct
 | 0=>[]
 | n+1=>cJ W x y j n++match W[j+1+n]? with | none=>[] | some z=>cK sg W x y z (j+1+n) (W.length-(j+1+n)-1)
def cI (W:List Pt) (x:Pt) (i:Nat):Nat->List Ct
 | 0=>[]
 | n+1=>cI W x i n++match W[i+1+n]? with | none=>[] | some y=>cJ sg W x y (i+1+n) (W.length-(i+1+n)-1)
def cW (W:List Pt):Nat->List Ct
 | 0=>[]
 | n+1=>cW W n++match W[n]? with | none=>[] | some x=>cI sg W x n (W.length-n-1)
variable {sg:List Int->Int}
theorem Q66 {W:List Pt} {x y z:Pt} {k n:Nat} (h:n<=5):(cK sg W x y z k n).length<=6:=by
 unfold cK;rw [Q6,Q8,Qx]; omega
theorem Zep {W:List Pt} {x y z v:Pt} {k n:Nat} (h:W[k+1+n]? = some v):cK sg W x y z k (n+1)=cK sg W x y z k n++[Qam sg x y z v]:=by
 unfold cK;rw [Ym,Xd,h];simp
theorem Zeo {W:List Pt} {x y z:Pt} {j n:Nat} (h:W[j+1+n]? = some z):cJ sg W x y j (n+1)=cJ sg W x y j n++cK sg W x y z (j+1+n) (W.length-(j+1+n)-1):=by
 show cJ sg W x y j n++(match W[j+1+n]? with | none=>[] | some z=>cK sg W x y z (j+1+n) (W.length-(j+1+n)-1))=_;rw [h]
theorem Zen {W:List Pt} {x y:Pt} {i n:Nat} (h:W[i+1+n]? = some y):cI sg W x i (n+1)=cI sg W x i n++cJ sg W x y (i+1+n) (W.length-(i+1+n)-1):=by
 show cI sg W x i n++(match W[i+1+n]? with | none=>[] | some y=>cJ sg W x y (i+1+n) (W.length-(i+1+n)-1))=_;rw [h]
theorem Zeq {W:List Pt} {x:Pt} {n:Nat} (h:W[n]? = some x):cW sg W (n+1)=cW sg W n++cI sg W x n (W.length-n-1):=by
 show cW sg W n++(match W[n]? with | none=>[] | some x=>cI sg W x n (W.length-n-1))=_;rw [h]
theorem Qw5 {W:List Pt} {x y:Pt} {j:Nat} (hW:W.length<=6):∀ n,(cJ sg W x y j n).length<=n*6
 | 0=>Qm _
 |
  n+1=>by
  have ih:=Qw5 (x:=x) (y:=y) (j:=j) hW n;unfold cJ;rw [Q7];cases h:W[j+1+n]? with
  | none=>show _+0<=_; omega
  |
   some z =>
   have hk:=Q66 (sg:=sg) (W:=W) (x:=x) (y:=y) (z:=z) (k:=j+1+n) (n:=W.length-(j+1+n)-1) (by omega);dsimp only; omega
theorem Qw4 {W:List Pt} {x:Pt} {i:Nat} (hW:W.length<=6):∀ n,(cI sg W x i n).length<=n*36
 | 0=>Qm _
 |
  n+1=>by
  have ih:=Qw4 (x:=x) (i:=i) hW n;unfold cI;rw [Q7];cases h:W[i+1+n]? with
  | none=>show _+0<=_; omega
  |
   some y =>
   have hk:=Qw5 (sg:=sg) (x:=x) (y:=y) (j:=i+1+n) hW (W.length-(i+1+n)-1);dsimp only; omega
theorem Qpv {W:List Pt} (hW:W.length<=6):∀ n,(cW sg W n).length<=n*216
 | 0=>Qm _
 |
  n+1=>by
  have ih:=Qpv hW n;unfold cW;rw [Q7];cases h:W[n]? with
  | none=>show _+0<=_; omega
  |
   some x =>
   have hk:=Qw4 (sg:=sg) (x:=x) (i:=n) hW (W.length-n-1);dsimp only; omega
def Qa1 (q:Rat) (l:List Pt):List Ct:=Rt Bh (cW (Ic q) (Qco l) (Qco l).length)
theorem Q5v (q:Rat) {l:List Pt} (hn:l.length<=6):(Qa1 q l).length<=1000000:=by
 have hw:=Qpl l;have h:=Qpv (sg:=Ic q) (W:=Qco l) (by omega) (Qco l).length;unfold Qa1;rw [B5]; omega
set_option maxHeartbeats 8000000 in
theorem Qp7 {l:List Pt} {q:Rat} {cs:List (List Int)} (hl:∀ p∈l,Rs p.c) (hn:l.length≤6) (hq:Qs 2000000 q):Uk Tryz.prog 195 [.one (.row (Fj l)),.agg (aq q cs)] [.one (.row (Gq (Qa1 q l)))]:=by
 have c1:=Zfp hl (by omega);have hw:=Qpl l;have hW:∀ p∈Qco l,Rs p.c:=λp hp=>hl p (Q6g hp)
 unfold Qa1;obtain ⟨W,hWe⟩:=nmE (Qco l);rw [<-hWe] at c1 hw hW ⊢;have hW6:W.length<=6:=by omega
 have hwl:=Qpv (sg:=Ic q) hW6 W.length;have c9:=Zfo (l:=cW (Ic q) W W.length) (by omega);have hrl:=Pg W;refine Gm Tryz.func195 rfl ?_;refine go tt [.c [] c1,.o 6 227 9] rfl trivial ?_;refine lp (S:=Nat) 2 (λL1 i=>(15,.v (.one (.int .i64 (i:Int))))::(6,.v (.one (.orow 1 9 none)))::L1) (λi=>[.blk 37 (aq q cs),.row false 227 9 (Gq (cW (Ic q) W i))]) (λi=>W.length-i) (λi=>i<=W.length) 0 (Qh _) rfl (λ_ _=>rfl) rfl λi hi=>?_
 by_cases hlt:i<W.length
 ·obtain ⟨x,hx⟩:=gxE (l:=W) (i:=i) hlt;have sx:=hW x (Qa hx);have hnx:=Zeq (sg:=Ic q) hx;have hl1:=Qpv (sg:=Ic q) hW6 i;obtain ⟨F,hF⟩:=nmE (cW (Ic q) W i);rw [<-hF] at hnx hl1 ⊢;refine go tt [.t (decide_eq_true (by omega)),.r 19 (eI (b:=((i+1+0:Nat):Int)) (by simp))] rfl (by simp [Ui] <;> omega) ?_;rw [show Gq F=Gq (F++cI (Ic q) W x i 0) by simp [cI]];refine lp (S:=Nat) 2 (λL1 n=>(8,.v (.one (.int .i64 ((i+1+n:Nat):Int))))::(6,.v (.one (.orow 1 9 none)))::L1) (λn=>[.blk 37 (aq q cs),.row false 227 9 (Gq (F++cI (Ic q) W x i n))]) (λn=>W.length-i-n) (λn=>n<=W.length-i-1) 0 (Qh _) rfl (λ_ _=>rfl) rfl λn hnn=>?_
  by_cases hlj:i+1+n<W.length
  ·obtain ⟨y,hy⟩:=gxE (l:=W) (i:=i+1+n) hlj;have sy:=hW y (Qa hy);have hnx2:=Zen (sg:=Ic q) (x:=x) hy;have hl2:=Qw4 (sg:=Ic q) (x:=x) (i:=i) hW6 n;obtain ⟨G,hG⟩:=nmE (F++cI (Ic q) W x i n);have hGl:G.length<=1296+216:=by rw [hG,Q7]; omega
   have hnx3:F++cI (Ic q) W x i (n+1)=G++cJ (Ic q) W x y (i+1+n) (W.length-(i+1+n)-1):=by rw [hnx2,hG,Zg]
   rw [<-hG];obtain ⟨j,hj⟩:=nmE (i+1+n);rw [<-hj] at hlj hy hnx3 ⊢;refine go tt [.t (decide_eq_true (by omega)),.r 27 (eI (b:=((j+1+0:Nat):Int)) (by simp))] rfl (by simp [Ui] <;> omega) ?_;rw [show Gq G=Gq (G++cJ (Ic q) W x y j 0) by simp [cJ]];refine lp (S:=Nat) 2 (λL1 m=>(9,.v (.one (.int .i64 ((j+1+m:Nat):Int))))::(6,.v (.one (.orow 1 9 none)))::L1) (λm=>[.blk 37 (aq q cs),.row false 227 9 (Gq (G++cJ (Ic q) W x y j m))]) (λm=>W.length-j-m) (λm=>m<=W.length-j-1) 0 (Qh _) rfl (λ_ _=>rfl) rfl λm hm=>?_
   by_cases hlk:j+1+m<W.length
   ·obtain ⟨z,hz⟩:=gxE (l:=W) (i:=j+1+m) hlk;have sz:=hW z (Qa hz);have hnx4:=Zeo (sg:=Ic q) (x:=x) (y:=y) hz;have hl3:=Qw5 (sg:=Ic q) (x:=x) (y:=y) (j:=j) hW6 m;obtain ⟨H,hH⟩:=nmE (G++cJ (Ic q) W x y j m);have hHl:H.length<=1296+216+36:=by rw [hH,Q7]; omega
    have hnx5:G++cJ (Ic q) W x y j (m+1)=H++cK (Ic q) W x y z (j+1+m) (W.length-(j+1+m)-1):=by rw [hnx4,hH,Zg]
    rw [<-hH];obtain ⟨k,hk⟩:=nmE (j+1+m);rw [<-hk] at hlk hz hnx5 ⊢;have hrH:=Lt H;have h9:∀ v∈[rct (Qda (Ic q) x y z)],v.length=9:=λv hv=>by rw [Ql.1 hv]; rfl
    refine go tt [.t (decide_eq_true (by omega)),.x (Tf hx),.x (Tf hy),.x (Tf hz),.c [] (Zfq sx sy sz hq),.s (sz:=9) h9,.r 53 (eI (b:=((k+1+0:Nat):Int)) (by simp))] rfl (by simp [Ui,hrH] <;> omega) ?_;have h0:Gq (H++cK (Ic q) W x y z k 0)=Gq H++[rct (Qda (Ic q) x y z)]:=by simp [cK,Gq]
    refine lp (S:=Nat) 2 (λL1 p=>(10,.v (.one (.int .i64 ((k+1+p:Nat):Int))))::(6,.v (.one (.orow 1 9 none)))::L1.filter λe => !Nat.beq e.1 51) (λp=>[.blk 37 (aq q cs),.row false 227 9 (Gq (H++cK (Ic q) W x y z k p))]) (λp=>W.length-k-p) (λp=>p<=W.length-k-1) 0 (Qh _) rfl (λ_ _=>rfl) (by rw [h0]; rfl) λp hp=>?_
    by_cases hlm:k+1+p<W.length
    ·obtain ⟨v,hv⟩:=gxE (l:=W) (i:=k+1+p) hlm;have sv:=hW v (Qa hv);have hnx6:=Zep (sg:=Ic q) (x:=x) (y:=y) (z:=z) hv;have hl4:=Q66 (sg:=Ic q) (W:=W) (x:=x) (y:=y) (z:=z) (k:=k) (n:=p) (by omega);have hrK:=Lt (H++cK (Ic q) W x y z k p);rw [Q7] at hrK;have h9v:∀ w∈[rct (Qam (Ic q) x y z v)],w.length=9:=λw hw=>by rw [Ql.1 hw]; rfl
     have e3:Gq (H++cK (Ic q) W x y z k (p+1))=Gq (H++cK (Ic q) W x y z k p)++[rct (Qam (Ic q) x y z v)]:=by rw [hnx6]; simp [Gq]
     refine go tt [.t (decide_eq_true (by omega)),.x (Tf hx),.x (Tf hy),.x (Tf hz),.x (Tf hv),.c [] (Zfr sx sy sz sv hq),.s (sz:=9) h9v,.r 59 (eI (b:=((k+1+(p+1):Nat):Int)) (by simp <;> omega))] rfl (by simp [Ui,hrK] <;> omega) ?_;exact rd (p+1) (by omega) (by omega) (by rw [e3]; rfl)
    ·obtain rfl:p=W.length-k-1:=by omega
     rw [<-hnx5];refine go tt [.f (decide_eq_false (by omega)),.r 33 (eI (b:=((j+1+(m+1):Nat):Int)) (by simp <;> omega))] rfl (by simp [Ui] <;> omega) ?_;exact rd (m+1) (by omega) (by omega) rfl
   ·obtain rfl:m=W.length-j-1:=by omega
    rw [<-hnx3];refine go tt [.f (decide_eq_false (by omega)),.r 25 (eI (b:=((i+1+(n+1):Nat):Int)) (by simp <;> omega))] rfl (by simp [Ui] <;> omega) ?_;exact rd (n+1) (by omega) (by omega) rfl
  ·obtain rfl:n=W.length-i-1:=by omega
   rw [<-hnx];refine go tt [.f (decide_eq_false (by omega))] rfl (by simp [Ui] <;> omega) ?_;exact rd (i+1) (by omega) hlt rfl
 ·obtain rfl:i=W.length:=by omega
  exact en tt [.f (decide_eq_false (by omega)),.c [] c9] rfl rfl (by simp [Ui] <;> omega)
theorem Q4m {l:List Pt} {q:Rat} {cs:List (List Int)} (hl:∀ p∈l,Rs p.c) (hn:l.length≤6) (hq:Qs 2000000 q):Uk Tryz.prog 153 [.one (.int .i64 4),.one (.row (Fj l)),.agg (aq q cs)] [.one (.row (Gq (Qa1 q l)))] :=
 w tt Tryz.func153 rfl [.f rfl,.f rfl,.f rfl,.f rfl,.c [] (Qp7 hl hn hq)] rfl rfl trivial
theorem Qw6 {l:List Pt} {q:Rat} {cs:List (List Int)} (hl:∀ p∈l,Rs p.c) (hn:l.length≤6) (hq:Qs 2000000 q):Uk Tryz.prog 95 [.one (.int .i64 4),.one (.row (Fj l)),.agg (aq q cs)] [.one (.row (Gq (Qa1 q l)))] :=
 w tt Tryz.func95 rfl [.c [] (Q4m hl hn hq)] rfl rfl trivial
end Orr
namespace Orq
open Orr Go
def Oo (a:Crv):List (List Int):=[Ff a.x a.d,Ff a.y a.d,L9 (U5 a.x a.x) (U5 a.y a.y),[a.d*a.d]]
def Qnj (a b c d:Crv):List (List (List Int)):=[Oo a,Oo b,Oo c,Oo d]
def Oq (a b c d:Crv):List Int:=Qdf 4 (Qnj a b c d)
theorem Qeq {s:Nat} {k:Crv} (hn:Nml k) (hc:Cs s 3 k):(∀ p∈Oo k,Uo p/\Bd (s+s+3) p)/\∀ (j:Nat) (p:List Int),(Oo k)[j]? = some p->p.length≤[2,2,4,0].getD j 0+1:=by
 have l1:=Mq k.x k.d;have l2:=Mq k.y k.d;have l3:=H8 k.x k.x;have l4:=H8 k.y k.y;have l5:=Qah (U5 k.x k.x) (U5 k.y k.y);have kx:=hc.lx;have ky:=hc.ly;have bx:Bd (s+s+2) (U5 k.x k.x):=To hc.x hc.x (by omega);have by_:Bd (s+s+2) (U5 k.y k.y):=To hc.y hc.y (by omega);have hd:=hn.2.2.1;have hd0:k.d*k.d≠0:=λe=>by rcases J7.1 e with e | e <;> omega
 have td:Uo [k.d*k.d]:=by unfold Uo; simp [trim,hd0]
 refine ⟨λp hp=>?_,λj p hp=>?_⟩
 ·simp only [Oo,Qp,Jq,or_false] at hp;rcases hp with rfl | rfl | rfl | rfl
  ·exact ⟨U3 _ _,Uj (Bq hc.x hc.d) (by omega)⟩
  ·exact ⟨U3 _ _,Uj (Bq hc.y hc.d) (by omega)⟩
  ·exact ⟨U3 _ _,Uj (Qdt bx by_) (by omega)⟩
  ·refine ⟨td,λz hz=>?_⟩;rw [Ql.1 hz];have:=U6 k.d k.d; have:=hc.d; omega
 ·match j,hp with
  | 0,hp=>injection hp with hp; subst hp; show _<=3; omega
  | 1,hp=>injection hp with hp; subst hp; show _<=3; omega
  | 2,hp=>injection hp with hp; subst hp; show _<=5; omega
  | 3,hp=>injection hp with hp; subst hp; exact Qm _
  | j+4,hp=>simp [Oo] at hp
theorem Qmb {s:Nat} {a b c d:Crv} (na:Nml a) (nb:Nml b) (nc:Nml c) (nd:Nml d) (ca:Cs s 3 a) (cb:Cs s 3 b) (cc:Cs s 3 c) (cd:Cs s 3 d):Sq (s+s+3) [2,2,4,0] 4 4 (Qnj a b c d):=by
 have hr:∀ r∈Qnj a b c d,∃ k:Crv,Nml k/\Cs s 3 k/\r=Oo k:=λr hr=>by
  simp only [Qnj,Qp,Jq,or_false] at hr;rcases hr with rfl | rfl | rfl | rfl
  ·exact ⟨a,na,ca,rfl⟩
  ·exact ⟨b,nb,cb,rfl⟩
  ·exact ⟨c,nc,cc,rfl⟩
  ·exact ⟨d,nd,cd,rfl⟩
 refine ⟨rfl,λr h=>?_,λr h p hp=>?_,λr h p hp=>?_,λr h j p hp=>?_⟩
 all_goals obtain ⟨k,kn,kc,rfl⟩:=hr r h
 ·rfl
 ·exact ((Qeq kn kc).1 p hp).1
 ·exact ((Qeq kn kc).1 p hp).2
 ·exact (Qeq kn kc).2 j p hp
theorem Q1l {a b c d:Crv} (ha:Sc a) (hb:Sc b) (hc:Sc c) (hd:Sc d):Cp (Oq a b c d):=by
 obtain ⟨h1,h2,h3⟩:=Qbu 4 [2,2,4,0] (Qnj a b c d) (by decide) rfl (by decide) (Qmb ha.n hb.n hc.n hd.n ha.c hb.c hc.c hd.c);exact ⟨h1,Qc h3 (by decide),Uj h2 (by decide)⟩
def Qlh (sg:List Int->Int) (a b c d:Pt):Ct:=⟨4,a.id,b.id,c.id,d.id,Oq a.c b.c c.c d.c,Mp sg (Oq a.c b.c c.c d.c)⟩
abbrev P3:=Pt×(Pt×Pt)
abbrev P4:=Pt×P3
def Mx:Nat->List Pt->List P3
 | 0,_=>[]
 | _+1,[]=>[]
 | k+1,x::l=>(Dm l).map (λm=>(x,m))++Mx k l
def Hf (l:List Pt):List P3:=Mx l.length l
def Ba:Nat->List Pt->List P4
 | 0,_=>[]
 | _+1,[]=>[]
 | k+1,x::l=>(Hf l).map (λm=>(x,m))++Ba k l
def Ls (l:List Pt):List P4:=Ba l.length l
theorem Qb5:∀ (l:List Pt) (i:Nat) (x:Pt),l[i]? = some x->Mx (i+1) l=Mx i l++(Dm (l.drop (i+1))).map (λm=>(x,m))
 | [],i,x,h=>by simp at h
 | y::l,0,x,h=>by simp at h; subst h; simp [Mx]
 |
  y::l,i+1,x,h=>by
  have ih:=Qb5 l i x (by simpa using h);show (Dm l).map _++Mx (i+1) l=((Dm l).map _++Mx i l)++_;rw [ih,Zg]; rfl
theorem Qg1:∀ (l:List Pt) (i:Nat) (x:Pt),l[i]? = some x->Ba (i+1) l=Ba i l++(Hf (l.drop (i+1))).map (λm=>(x,m))
 | [],i,x,h=>by simp at h
 | y::l,0,x,h=>by simp at h; subst h; simp [Ba]
 |
  y::l,i+1,x,h=>by
  have ih:=Qg1 l i x (by simpa using h);show (Hf l).map _++Ba (i+1) l=((Hf l).map _++Ba i l)++_;rw [ih,Zg]; rfl
theorem Qfh:∀ (k:Nat) (l:List Pt),∀ m∈Mx k l,m.1∈l/\m.2.1∈l/\m.2.2∈l
 | 0,l,m,h=>by simp [Mx] at h
 | k+1,[],m,h=>by simp [Mx] at h
 |
  k+1,x::l,m,h=>by
  rcases Qw.1 h with h | h
  ·obtain ⟨y,hy,rfl⟩:=Za.1 h;obtain ⟨h1,h2⟩:=Qlm _ _ y hy;exact ⟨Qr ..,Qj _ h1,Qj _ h2⟩
  ·obtain ⟨h1,h2,h3⟩:=Qfh k l m h;exact ⟨Qj _ h1,Qj _ h2,Qj _ h3⟩
theorem Ql1:∀ (k:Nat) (l:List Pt),∀ m∈Ba k l,m.1∈l/\m.2.1∈l/\m.2.2.1∈l/\m.2.2.2∈l
 | 0,l,m,h=>by simp [Ba] at h
 | k+1,[],m,h=>by simp [Ba] at h
 |
  k+1,x::l,m,h=>by
  rcases Qw.1 h with h | h
  ·obtain ⟨y,hy,rfl⟩:=Za.1 h;obtain ⟨h1,h2,h3⟩:=Qfh _ _ y hy;exact ⟨Qr ..,Qj _ h1,Qj _ h2,Qj _ h3⟩
  ·obtain ⟨h1,h2,h3,h4⟩:=Ql1 k l m h;exact ⟨Qj _ h1,Qj _ h2,Qj _ h3,Qj _ h4⟩
theorem Oa {l:List Pt} (h:l.length<=6):(Hf l).length<=20/\(Ls l).length<=15:=by
 match l,h with
 | [],_=>exact ⟨Zf rfl,Zf rfl⟩
 | [_],_=>exact ⟨Zf rfl,Zf rfl⟩
 | [_,_],_=>exact ⟨Zf rfl,Zf rfl⟩
 | [_,_,_],_=>exact ⟨Zf rfl,Zf rfl⟩
 | [_,_,_,_],_=>exact ⟨Zf rfl,Zf rfl⟩
 | [_,_,_,_,_],_=>exact ⟨Zf rfl,Zf rfl⟩
 | [_,_,_,_,_,_],_=>exact ⟨Zf rfl,Zf rfl⟩
 | _::_::_::_::_::_::_::_,h=>simp at h
abbrev Ml:=List (List Int×LV)
def Qaq (sg:List Int->Int) (m:P3):Ct:=Quv sg m.1 m.2.1 m.2.2
def Im (sg:List Int->Int) (m:P4):Ct:=Qlh sg m.1 m.2.1 m.2.2.1 m.2.2.2
def Qmz (m:P3):List Int:=[m.1.id,m.2.1.id,m.2.2.id]
def Zol (m:P4):List Int:=[m.1.id,m.2.1.id,m.2.2.1.id,m.2.2.2.id]
def Ev (V:List (List Int×Int)):Ml:=V.foldl (λM e=>Cz M e.1 (.int .i64 e.2)) []
def Qa8 (sg:List Int->Int) (ps:List P3):List (List Int×Int):=ps.map λm=>(Qmz m,(Qaq sg m).want)
def A5 (sg:List Int->Int) (ps:List P4):List (List Int×Int):=ps.map λm=>(Zol m,(Im sg m).want)
theorem Qml (sg:List Int->Int) (ps:List P3) (m:P3):Ev (Qa8 sg (ps++[m]))=Cz (Ev (Qa8 sg ps)) (Qmz m) (.int .i64 (Qaq sg m).want):=by simp [Ev,Qa8]
def Ak (T:Ml) (s:Int) (n:List Int) (F:Ml) (skip:Nat):Ml:=if I0 T (n.eraseIdx skip)*(if (3-skip) % 2=1 then -s else s)>0 then Cz F (n.eraseIdx skip) (.bool true) else F
def Qnw (T:Ml) (s:Int) (n:List Int) (F:Ml):Ml:=Ak T s n (Ak T s n (Ak T s n (Ak T s n F 0) 1) 2) 3
def Ck (T:Ml) (V:List (List Int×Int)):Ml:=V.foldl (λF e=>Qnw T e.2 e.1 F) []
theorem Qk1 (sg:List Int->Int) (T:Ml) (ps:List P4) (m:P4):Ck T (A5 sg (ps++[m]))=Qnw T (Im sg m).want (Zol m) (Ck T (A5 sg ps)):=by simp [Ck,A5]
def isT (T F:Ml) (m:P3):Bool:=decide (I0 T (Qmz m)≠0) && !(Qdu F (Qmz m))
theorem Q9v {T F:Ml} {ps:List P3} {m:P3} (h:isT T F m=true):(ps++[m]).filter (isT T F)=ps.filter (isT T F)++[m]:=by simp [List.filter_append,h]
theorem Qqq {T F:Ml} {ps:List P3} {m:P3} (h:isT T F m=false):(ps++[m]).filter (isT T F)=ps.filter (isT T F):=by simp [List.filter_append,h]
def Qoh (sg:List Int->Int) (l:List Pt):List Ct:=(Hf (Ds l)).map (Qaq sg)++(Ls (Ds l)).map (Im sg)
def Bl (sg:List Int->Int) (l:List Pt):List P3:=(Hf (Ds l)).filter (isT (Ev (Qa8 sg (Hf (Ds l)))) (Ck (Ev (Qa8 sg (Hf (Ds l)))) (A5 sg (Ls (Ds l)))))
abbrev trL (m:P3):List LV:=[.int .i64 m.1.id,.int .i64 m.2.1.id,.int .i64 m.2.2.id]
def Bb (l:List P3):List (List LV):=l.map trL
theorem A9 (l:List P3):(Bb l).length=l.length:=by simp [Bb]
theorem Qmj {l:List P3} {i:Nat} {m:P3} (h:l[i]? = some m):(Bb l)[i]? = some (trL m):=Gh h
theorem Q5g (sg:List Int->Int) {l:List Pt} (h:l.length<=6):(Bl sg l).length<=20:=by
 have hw:=Qbc l;exact Qc (Vu _ _) (Oa (l:=Ds l) (by omega)).1
theorem Q5f (sg:List Int->Int) {l:List Pt} (h:l.length<=6):(Qoh sg l).length<=35:=by
 have hw:=Qbc l;obtain ⟨h1,h2⟩:=Oa (l:=Ds l) (by omega);unfold Qoh;rw [Q7,Q8,Q8]; omega
def bcD (l:List Pt) (a:Tm):List Ct:=Qoh (Pi a) l
abbrev brD (l:List Pt) (a:Tm):List (List LV):=Bb (Bl (Pi a) l)
def Q32 (l:List Pt):List (List Int):=(Hf (Ds l)).map (λm=>Mj m.1.c m.2.1.c m.2.2.c)++(Ls (Ds l)).map λm=>Oq m.1.c m.2.1.c m.2.2.1.c m.2.2.2.c
theorem Qpq {l:List Pt} (hl:∀ p∈l,Sc p.c):∀ p∈Q32 l,Cp p:=λp hp=>by
 have hw:=λ(x:Pt) (h:x∈Ds l)=>hl x (Qfn h)
 rcases Qw.1 hp with hp | hp
 ·obtain ⟨m,hm,rfl⟩:=Za.1 hp;obtain ⟨h1,h2,h3⟩:=Qfh _ _ m hm;exact Qni (hw _ h1) (hw _ h2) (hw _ h3)
 ·obtain ⟨m,hm,rfl⟩:=Za.1 hp;obtain ⟨h1,h2,h3,h4⟩:=Ql1 _ _ m hm;exact Q1l (hw _ h1) (hw _ h2) (hw _ h3) (hw _ h4)
theorem Qps {l:List Pt} {a:Tm}:∀ x∈bcD l a,x.p∈Q32 l:=λx hx=>by
 rcases Qw.1 hx with hx | hx
 ·obtain ⟨m,hm,rfl⟩:=Za.1 hx;exact K9 _ (Za.2 ⟨m,hm,rfl⟩)
 ·obtain ⟨m,hm,rfl⟩:=Za.1 hx;exact Kx _ (Za.2 ⟨m,hm,rfl⟩)
theorem Q6w {l:List Pt} (h:l.length<=6):(Q32 l).length<=1000000:=by
 have hw:=Qbc l;obtain ⟨h1,h2⟩:=Oa (l:=Ds l) (by omega);unfold Q32;rw [Q7,Q8,Q8]; omega
theorem Qwx {l:List Pt} (hl:∀ p∈l,Sc p.c) (hn:l.length≤6):BuildOk (bcD l) :=
 ⟨λ_ _ x hx=>Qpq hl _ (Qps x hx),λa _=>Qc (Q5f _ hn) (by decide)⟩
theorem Zo8 {l:List Pt} (hl:∀ p∈l,Sc p.c) (hn:l.length≤6):Stab (bcD l) (brD l):=by
 refine ⟨Qwx hl hn,⟨Q32 l,Qpq hl,λa _=>Qps⟩,λa b _ _ h=>?_⟩;have e1:∀ m∈Hf (Ds l),Qaq (Pi b) m=Qaq (Pi a) m:=λm hm=>by
  have:=h (Qaq (Pi a) m) (K9 _ (Za.2 ⟨m,hm,rfl⟩));have e:Mp (Pi b) (Mj m.1.c m.2.1.c m.2.2.c)=Mp (Pi a) (Mj m.1.c m.2.1.c m.2.2.c):=this;unfold Qaq Quv; rw [e]
 have e2:∀ m∈Ls (Ds l),Im (Pi b) m=Im (Pi a) m:=λm hm=>by
  have:=h (Im (Pi a) m) (Kx _ (Za.2 ⟨m,hm,rfl⟩));have e:Mp (Pi b) (Oq m.1.c m.2.1.c m.2.2.1.c m.2.2.2.c)=Mp (Pi a) (Oq m.1.c m.2.1.c m.2.2.1.c m.2.2.2.c):=this;unfold Im Qlh; rw [e]
 have t1:Qa8 (Pi b) (Hf (Ds l))=Qa8 (Pi a) (Hf (Ds l)):=Ju λm hm=>by rw [e1 m hm]
 have t2:A5 (Pi b) (Ls (Ds l))=A5 (Pi a) (Ls (Ds l)):=Ju λm hm=>by rw [e2 m hm]
 constructor
 ·unfold bcD Qoh;rw [Ju e1,Ju e2]
 ·unfold brD Bl;rw [t1,t2]
def Q65 (l:List Pt) (a:Tm):Cr:=⟨a,(G5 (bcD l a)).map fresh,0⟩
def Qpo (M:Ml):Prop:=∀ k,(Lj M k).getD (.int .i64 0)=.int .i64 (I0 M k)/\-1<=I0 M k/\I0 M k<=1
def Qca (M:Ml):Prop:=∀ k,(Lj M k).getD (.bool false)=.bool (Qdu M k)
theorem Qn8 (M:Ml) (k:List Int) (x:LV) (k':List Int):Lj (Cz M k x) k'=if k'=k then some x else Lj M k':=by
 induction M with
 | nil=>simp [Cz,Lj]
 |
  cons e M ih =>
  simp only [Cz];by_cases h:k=e.1
  ·rw [if_pos h];simp only [Lj];by_cases h2:k'=k
   ·rw [if_pos h2,if_pos h2]
   ·rw [if_neg h2,if_neg h2,if_neg (λe2=>h2 (e2.trans h.symm))]
  ·rw [if_neg h];simp only [Lj];by_cases h2:k'=e.1
   ·rw [if_pos h2,if_pos h2,if_neg (λe2=>h (e2.symm.trans h2))]
   ·rw [if_neg h2,if_neg h2,ih]
theorem Zaj:Qpo []:=λ_=>⟨rfl,show (-1:Int)<=0 by decide,show (0:Int)<=1 by decide⟩
theorem Q35:Qca []:=λ_=>rfl
theorem Zak {M:Ml} (h:Qpo M) {k:List Int} {n:Int} (hn:-1<=n/\n<=1):Qpo (Cz M k (.int .i64 n)):=by
 intro k';have h1:=h k';unfold I0 at h1 ⊢;rw [Qn8];by_cases e:k'=k
 ·rw [if_pos e]; exact ⟨rfl,hn.1,hn.2⟩
 ·rw [if_neg e]; exact h1
theorem Q36 {M:Ml} (h:Qca M) {k:List Int} {b:Bool}:Qca (Cz M k (.bool b)):=by
 intro k';have h1:=h k';unfold Qdu at h1 ⊢;rw [Qn8];by_cases e:k'=k
 ·rw [if_pos e]; rfl
 ·rw [if_neg e]; exact h1
theorem Eb {T F:Ml} {s:Int} {n:List Int} {k:Nat} (h:Qca F):Qca (Ak T s n F k):=by
 unfold Ak;generalize (if (3-k) % 2=1 then -s else s)=s'
 split
 ·exact Q36 h
 ·exact h
theorem Qw2 {T F:Ml} {s:Int} {n:List Int} (h:Qca F):Qca (Qnw T s n F):=Eb (Eb (Eb (Eb h)))
theorem Q5i {x s:Int} (hx:-1<=x/\x<=1) (hs:-1<=s/\s<=1):-9223372036854775808<=x*s/\x*s<=9223372036854775807:=by
 have h:x=-1\/x=0\/x=1:=by omega
 rcases h with rfl | rfl | rfl <;> omega
def p3j (W:List Pt) (x:Pt) (i j:Nat):List P3:=Mx i W++(Pe j (W.drop (i+1))).map (λm=>(x,m))
def p3k (W:List Pt) (x y:Pt) (i j k:Nat):List P3:=Mx i W++(Pe j (W.drop (i+1))++(((W.drop (i+1)).drop (j+1)).take k).map (λz=>(y,z))).map (λm=>(x,m))
theorem Qar (W:List Pt) (x:Pt) (i:Nat):p3j W x i 0=Mx i W:=by simp [p3j,Pe]
theorem Qat (W:List Pt) (x y:Pt) (i j:Nat):p3k W x y i j 0=p3j W x i j:=by simp [p3k,p3j]
theorem Qas {W:List Pt} {x y z:Pt} {i j k:Nat} (h:((W.drop (i+1)).drop (j+1))[k]? = some z):p3k W x y i j (k+1)=p3k W x y i j k++[(x,y,z)]:=by
 unfold p3k;rw [Zw,h]; simp
theorem Qev {W:List Pt} {x y:Pt} {i j k:Nat} (hy:(W.drop (i+1))[j]? = some y) (hk:((W.drop (i+1)).drop (j+1)).length<=k):p3k W x y i j k=p3j W x i (j+1):=by
 unfold p3k p3j;rw [Qk hk,Er _ j y hy]
theorem Qet {W:List Pt} {x:Pt} {i j:Nat} (hx:W[i]? = some x) (hj:j=(W.drop (i+1)).length):p3j W x i j=Mx (i+1) W:=by
 unfold p3j;rw [hj,Qb5 W i x hx]; rfl
theorem Qjl {W:List Pt} {i:Nat} (h:i=W.length):Mx i W=Hf W:=by rw [h]; rfl
def p4j (W:List Pt) (x:Pt) (i j:Nat):List P4:=Ba i W++(Mx j (W.drop (i+1))).map (λm=>(x,m))
def p4k (W:List Pt) (x y:Pt) (i j k:Nat):List P4:=Ba i W++(p3j (W.drop (i+1)) y j k).map (λm=>(x,m))
def p4m (W:List Pt) (x y z:Pt) (i j k m:Nat):List P4:=Ba i W++(p3k (W.drop (i+1)) y z j k m).map (λm=>(x,m))
theorem Qu9 (W:List Pt) (x:Pt) (i:Nat):p4j W x i 0=Ba i W:=by simp [p4j,Mx]
theorem Qva (W:List Pt) (x y:Pt) (i j:Nat):p4k W x y i j 0=p4j W x i j:=by unfold p4k p4j; rw [Qar]
theorem Qvd (W:List Pt) (x y z:Pt) (i j k:Nat):p4m W x y z i j k 0=p4k W x y i j k:=by unfold p4m p4k; rw [Qat]
theorem Qvc {W:List Pt} {x y z u:Pt} {i j k m:Nat} (h:(((W.drop (i+1)).drop (j+1)).drop (k+1))[m]? = some u):p4m W x y z i j k (m+1)=p4m W x y z i j k m++[(x,y,z,u)]:=by
 unfold p4m;rw [Qas h]; simp
theorem Q21 {W:List Pt} {x y z:Pt} {i j k m:Nat} (hz:((W.drop (i+1)).drop (j+1))[k]? = some z) (hm:(((W.drop (i+1)).drop (j+1)).drop (k+1)).length<=m):p4m W x y z i j k m=p4k W x y i j (k+1):=by
 unfold p4m p4k;rw [Qev hz hm]
theorem Q20 {W:List Pt} {x y:Pt} {i j k:Nat} (hy:(W.drop (i+1))[j]? = some y) (hk:k=((W.drop (i+1)).drop (j+1)).length):p4k W x y i j k=p4j W x i (j+1):=by
 unfold p4k p4j;rw [Qet hy hk]
theorem Q2z {W:List Pt} {x:Pt} {i j:Nat} (hx:W[i]? = some x) (hj:j=(W.drop (i+1)).length):p4j W x i j=Ba (i+1) W:=by
 unfold p4j;rw [hj,Qg1 W i x hx]; rfl
theorem Q3h {W:List Pt} {i:Nat} (h:i=W.length):Ba i W=Ls W:=by rw [h]; rfl
theorem Qde:∀ (k:Nat) (l:List Pt),∃ r,Dm l=Pe k l++r
 | 0,l=>⟨Dm l,rfl⟩
 | k+1,[]=>⟨[],rfl⟩
 |
  k+1,x::l=>by
  obtain ⟨r,h⟩:=Qde k l;exact ⟨r,by show l.map _++Pe l.length l=l.map _++Pe k l++r; rw [show Pe l.length l=Dm l from rfl,h,Zg]⟩
theorem Qmh:∀ (k:Nat) (l:List Pt),∃ r,Hf l=Mx k l++r
 | 0,l=>⟨Hf l,rfl⟩
 | k+1,[]=>⟨[],rfl⟩
 |
  k+1,x::l=>by
  obtain ⟨r,h⟩:=Qmh k l;exact ⟨r,by show (Dm l).map _++Mx l.length l=(Dm l).map _++Mx k l++r; rw [show Mx l.length l=Hf l from rfl,h,Zg]⟩
theorem Qvw:∀ (k:Nat) (l:List Pt),∃ r,Ls l=Ba k l++r
 | 0,l=>⟨Ls l,rfl⟩
 | k+1,[]=>⟨[],rfl⟩
 |
  k+1,x::l=>by
  obtain ⟨r,h⟩:=Qvw k l;exact ⟨r,by show (Hf l).map _++Ba l.length l=(Hf l).map _++Ba k l++r; rw [show Ba l.length l=Ls l from rfl,h,Zg]⟩
theorem Qi9 {W:List Pt} (h6:W.length<=6) {x y:Pt} {i j k:Nat} (hx:W[i]? = some x) (hy:(W.drop (i+1))[j]? = some y):(p3k W x y i j k).length<=20:=by
 have h0:=(Oa h6).1;obtain ⟨r,hr⟩:=Qmh (i+1) W;rw [Qb5 W i x hx] at hr;obtain ⟨r2,hr2⟩:=Qde (j+1) (W.drop (i+1));rw [Er _ j y hy] at hr2;have e1:=congrArg List.length hr;have e2:=congrArg List.length hr2;have e3:(((W.drop (i+1)).drop (j+1)).take k).length<=((W.drop (i+1)).drop (j+1)).length:=by rw [Qx]; exact Nat.min_le_right _ _
 unfold p3k;simp only [Q7,Q8] at e1 e2 ⊢;omega
theorem Q22 {W:List Pt} (h6:W.length<=6) {x y z:Pt} {i j k m:Nat} (hx:W[i]? = some x) (hy:(W.drop (i+1))[j]? = some y) (hz:((W.drop (i+1)).drop (j+1))[k]? = some z):(p4m W x y z i j k m).length<=15:=by
 have h0:=(Oa h6).2;obtain ⟨r,hr⟩:=Qvw (i+1) W;rw [Qg1 W i x hx] at hr;obtain ⟨r1,hr1⟩:=Qmh (j+1) (W.drop (i+1));rw [Qb5 _ j y hy] at hr1;obtain ⟨r2,hr2⟩:=Qde (k+1) ((W.drop (i+1)).drop (j+1));rw [Er _ k z hz] at hr2;have e1:=congrArg List.length hr;have e2:=congrArg List.length hr1;have e4:=congrArg List.length hr2;have e3:((((W.drop (i+1)).drop (j+1)).drop (k+1)).take m).length<=(((W.drop (i+1)).drop (j+1)).drop (k+1)).length:=by rw [Qx]; exact Nat.min_le_right _ _
 unfold p4m p3k;simp only [Q7,Q8] at e1 e2 e4 ⊢;omega
theorem Qoa {sg:List Int->Int} (hg:∀ p,-1<=Mp sg p/\Mp sg p<=1) (ps:List P3):Qpo (Ev (Qa8 sg ps)):=by
 have key:∀ (ps:List P3) (M:Ml),Qpo M->Qpo ((Qa8 sg ps).foldl (λM e=>Cz M e.1 (.int .i64 e.2)) M):=by
  intro ps
  induction ps with
  | nil=>intro M h; exact h
  | cons m ps ih=>intro M h; exact ih _ (Zak h (hg _))
 exact key ps [] Zaj
theorem Qjt (sg:List Int->Int) (T:Ml) (ps:List P4):Qca (Ck T (A5 sg ps)):=by
 have key:∀ (ps:List P4) (F:Ml),Qca F->Qca ((A5 sg ps).foldl (λF e=>Qnw T e.2 e.1 F) F):=by
  intro ps
  induction ps with
  | nil=>intro M h; exact h
  | cons m ps ih=>intro M h; exact ih _ (Qw2 h)
 exact key ps [] Q35
theorem Qo0 (p:List Int) (q:Rat):-1<=Fc p q/\Fc p q<=1:=by
 rw [Tu]; unfold Uz
 split
 ·exact ⟨by decide,by decide⟩
 ·split <;> exact ⟨by decide,by decide⟩
theorem Zcz {p:List Int} {a:Tm} {s:Int} (h:Qcl p a=some s):-1<=s/\s<=1:=by
 unfold Qcl at h
 split at h
 ·injection h with h; subst h; exact ⟨by decide,by decide⟩
 ·split at h
  ·injection h with h; subst h; exact Qo0 _ _
  ·obtain ⟨g,_,h⟩:=Qf.1 h
   split at h
   ·injection h with h; subst h; exact ⟨by decide,by decide⟩
   ·obtain ⟨c,_,h⟩:=Qf.1 h;obtain ⟨x,_,h⟩:=Qf.1 h;injection h with h; subst h; exact Qo0 _ _
theorem Qt8 (a:Tm) (p:List Int):-1<=Mp (Pi a) p/\Mp (Pi a) p<=1:=by
 have hs:∀ p,-1<=Pi a p/\Pi a p<=1:=λp=>by
  unfold Pi;cases h:Qcl p a with
  | none=>exact ⟨by decide,by decide⟩
  | some s=>exact Zcz h
 have key:∀ (k:Nat) (p:List Int),-1<=Rh (Pi a) k p/\Rh (Pi a) k p<=1:=by
  intro k
  induction k with
  | zero=>intro p; exact ⟨by simp [Rh],by simp [Rh]⟩
  |
   succ k ih =>
   intro p;simp only [Rh]
   split
   ·exact ⟨by decide,by decide⟩
   ·split
    ·exact ih _
    ·exact hs p
 exact key _ p
end Orq
namespace Orr
open Go Go.Proofs Orq
set_option maxRecDepth 10000
theorem ozM {P:Program} [Mo P] {n:Nat} {Q:Exit->Sg->List OB->Prop} {L L':Sg} {B B':List OB} (d off T sz:Nat) {it:List It} (hs:Re it=true) (h:Q5q (P:=P) d L B [.oc d off T sz]=some (L',B',[],[])) (k:AK P n Q it L' B'):AK P n Q it L B:=AK.sub (Qrs h EqOk.nil) hs k
theorem Qp4 {k:Crv} (hk:Sc k):Uk Tryz.prog 213 [.agg (cl k)] [.one (.row (Qa0 (Oo k)))]:=by
 have ok:=Qeq hk.n hk.c;have l1:=H8 k.x k.x;have l2:=H8 k.y k.y;have:=hk.c.lx;have:=hk.c.ly;have bx:Bd 258 (U5 k.x k.x):=To (u:=2) hk.c.x hk.c.x (by omega);have by_:Bd 258 (U5 k.y k.y):=To (u:=2) hk.c.y hk.c.y (by omega);have c1:=Qdw (p:=k.x) (c:=k.d) (by omega) (Uj hk.c.x (by decide)) (Qc hk.c.d (by decide));have c2:=Qdw (p:=k.y) (c:=k.d) (by omega) (Uj hk.c.y (by decide)) (Qc hk.c.d (by decide));have c3:=Qpx (p:=k.x) (q:=k.x) hk.n.1 hk.n.1 (by omega) (by omega) hk.c.x hk.c.x (by decide);have c4:=Qpx (p:=k.y) (q:=k.y) hk.n.2.1 hk.n.2.1 (by omega) (by omega) hk.c.y hk.c.y (by decide);have c5:=Qxe (p:=U5 k.x k.x) (q:=U5 k.y k.y) (by omega) (by omega) (Uj bx (by decide)) (Uj by_ (by decide));have c6:=D8 (Ul k.d) (Ul k.d) (Qc hk.c.d (by decide)) (Qc hk.c.d (by decide));have hl:∀ p∈Oo k,p.length≤1000000:=λp hp=>by
  obtain ⟨j,hj⟩:=Jb hp;have h1:=ok.2 j p hj;have:[2,2,4,0].getD j 0<=4:=by
   match j with
   | 0=>decide
   | 1=>decide
   | 2=>decide
   | 3=>decide
   | j+4=>simp
  omega
 have cd:=Q7a (r:=Oo k) (λp hp=>(ok.1 p hp).1) (λp hp=>Uj (ok.1 p hp).2 (by decide)) hl (by show 4<=1000; decide);exact w tt Tryz.func213 rfl [.c [] (Q07 hk.n (hk.c.mono (by decide) (by decide))),.c [] c1,.c [] c2,.c [] c3,.c [] c4,.c [] c5,.c [] c6,.c [] cd] rfl rfl trivial
theorem Q7h {a b c d:Crv} (ha:Sc a) (hb:Sc b) (hc:Sc c) (hd:Sc d):Uk Tryz.prog 172 [.agg (cl a),.agg (cl b),.agg (cl c),.agg (cl d)] [pr (Oq a b c d)]:=by
 have cd:=Zi5 (by decide) (k:=4) (ds:=[2,2,4,0]) (by decide) rfl (by decide) (Qmb ha.n hb.n hc.n hd.n ha.c hb.c hc.c hd.c);exact w tt Tryz.func172 rfl [.c [] (Qp4 ha),.c [] (Qp4 hb),.c [] (Qp4 hc),.c [] (Qp4 hd),.c [] cd] rfl rfl trivial
set_option maxHeartbeats 1000000 in
theorem Q0w {a b c d:Pt} {t:Tm} (ha:Sc a.c) (hb:Sc b.c) (hc:Sc c.c) (hd:Sc d.c) (ht:Va t):Uk Tryz.prog 120 [.one (.int .i64 4),.agg (ta t),.one (.row [G0 a,G0 b,G0 c,G0 d])] [.agg (Qep (Qlh (Pi t) a b c d)),.one (.int .i64 0)]:=by
 have hp:=(Q1l ha hb hc hd).dp;have e:Qep (Qlh (Pi t) a b c d)=[.int .i64 4,.int .i64 a.id,.int .i64 b.id,.int .i64 c.id,.int .i64 d.id,pl (Oq a.c b.c c.c d.c),.int .i64 (Mp (Pi t) (Oq a.c b.c c.c d.c))]:=by rw [Qlh]
 rw [e];have cg:=Zjb hp ht;have cf:=Q7h ha hb hc hd;generalize Oq a.c b.c c.c d.c=F at *;refine Gm Tryz.func120 rfl ?_;refine go tt [.c [] Q4i,.f rfl] rfl trivial ?_;refine lp (S:=Nat) 3 (λL1 i=>(22,.v (.one (.int .i64 (i:Int))))::L1) (λi=>[.blk 79 (ta t),.blk 99 zCt,.blk 99 [.int .i64 4,.int .i64 (if 1<=i then a.id else 0),.int .i64 (if 2<=i then b.id else 0),.int .i64 (if 3<=i then c.id else 0),.int .i64 (if 4<=i then d.id else 0),.nils,.int .i64 0]]) (λi=>4-i) (λi=>i<=4) 0 (Qh _) rfl (λ_ _=>rfl) rfl λi hi=>?_
 rcases (show i=0\/i=1\/i=2\/i=3\/i=4 by omega) with rfl | rfl | rfl | rfl | rfl
 ·refine go tt [.t rfl,.x (i:=0) (xs:=G0 a) rfl,.i 0] rfl (by simp [Ui]) ?_;exact rd 1 (by omega) (by omega) rfl
 ·refine go tt [.t rfl,.x (i:=1) (xs:=G0 b) rfl,.i 1] rfl (by simp [Ui]) ?_;exact rd 2 (by omega) (by omega) rfl
 ·refine go tt [.t rfl,.x (i:=2) (xs:=G0 c) rfl,.i 2] rfl (by simp [Ui]) ?_;exact rd 3 (by omega) (by omega) rfl
 ·refine go tt [.t rfl,.x (i:=3) (xs:=G0 d) rfl,.i 3] rfl (by simp [Ui]) ?_;exact rd 4 (by omega) (by omega) rfl
 ·exact en tt [.f rfl,.f rfl,.f rfl,.f rfl,.t rfl,.x (i:=0) (xs:=G0 a) rfl,.x (i:=1) (xs:=G0 b) rfl,.x (i:=2) (xs:=G0 c) rfl,.x (i:=3) (xs:=G0 d) rfl,.c [] cf,.c [] cg] rfl rfl trivial
def Qt3 (T:Ml) (s:Int) (n:List Int) (F:Ml) (k:Nat):Ml:=(List.range k).foldl (Ak T s n) F
theorem Qyd (T:Ml) (s:Int) (n:List Int) (F:Ml) (k:Nat):Qt3 T s n F (k+1)=Ak T s n (Qt3 T s n F k) k:=by unfold Qt3; rw [List.range_succ,List.foldl_append]; rfl
theorem Qyc (T:Ml) (s:Int) (n:List Int) (F:Ml):Qt3 T s n F 4=Qnw T s n F:=rfl
set_option maxHeartbeats 4000000 in
theorem Q79 {F T:Ml} {s n0 n1 n2 n3:Int} (hT:Qpo T) (hs:-1<=s/\s<=1):Ht Tryz.prog 121 [.one (.omap 0),.one (.omap 1),.one (.int .i64 s),.agg [.int .i64 n0,.int .i64 n1,.int .i64 n2,.int .i64 n3]] [.mpb F,.mpb T] [] [.mpb (Qnw T s [n0,n1,n2,n3] F),.mpb T]:=by
 have hm:Q6s T:=λk=>(hT k).1
 have hb:=λ(k:List Int) (x:Int) (hx:-1<=x/\x<=1)=>Q5i (hT k).2 hx
 rw [<-Qyc];obtain ⟨f,hf⟩:=nmE (Qt3 T s [n0,n1,n2,n3] F);have f0:F=f 0:=by rw [hf]; rfl
 have fs:∀ k,f (k+1)=Ak T s [n0,n1,n2,n3] (f k) k:=λk=>by rw [hf]; exact Qyd ..
 rw [<-hf];rw [f0];clear hf f0;refine Gm Tryz.func121 rfl ?_;refine go tt [] rfl trivial ?_;refine lp (S:=Nat) 3 (λL1 k=>(14,.v (.one (.int .i64 (k:Int))))::L1) (λk=>[.mpb (f k),.mpb T,.blk 95 [.int .i64 n0,.int .i64 n1,.int .i64 n2,.int .i64 n3]]) (λk=>4-k) (λk=>k<=4) 0 (by decide) rfl (λ_ _=>rfl) rfl λk hk=>?_
 rcases (show k=0\/k=1\/k=2\/k=3\/k=4 by omega) with rfl | rfl | rfl | rfl | rfl
 ·have e1:=fs 0;have e2:Ak T s [n0,n1,n2,n3] (f 0) 0=if I0 T [n1,n2,n3]*(-s)>0 then Cz (f 0) [n1,n2,n3] (.bool true) else f 0:=rfl
  rw [e2] at e1;refine go tt [.t rfl] rfl trivial ?_;refine lp (S:=Nat) 4 (λL1 i=>(18,.v (.one (.int .i64 (i:Int))))::(10,.v (.one (.int .i64 (if i<=0 then (i:Int) else (i:Int)-1))))::L1) (λi=>[.mpb (f 0),.mpb T,.blk 95 [.int .i64 n0,.int .i64 n1,.int .i64 n2,.int .i64 n3],.blk 50 [.int .i64 (if 2<=i then n1 else 0),.int .i64 (if 3<=i then n2 else 0),.int .i64 (if 4<=i then n3 else 0)]]) (λi=>4-i) (λi=>i<=4) 0 (by decide) rfl (λ_ _=>rfl) rfl λi hi=>?_
  rcases (show i=0\/i=1\/i=2\/i=3\/i=4 by omega) with rfl | rfl | rfl | rfl | rfl
  ·refine go tt [.t rfl,.i 0,.f rfl] rfl (by simp [Ui]) ?_;exact rd 1 (by omega) (by omega) rfl
  ·refine go tt [.t rfl,.i 1,.t rfl,.i 0] rfl (by simp [Ui]) ?_;exact rd 2 (by omega) (by omega) rfl
  ·refine go tt [.t rfl,.i 2,.t rfl,.i 1] rfl (by simp [Ui]) ?_;exact rd 3 (by omega) (by omega) rfl
  ·refine go tt [.t rfl,.i 3,.t rfl,.i 2] rfl (by simp [Ui]) ?_;exact rd 4 (by omega) (by omega) rfl
  ·have hbb:=hb [n1,n2,n3] (-s) (by omega);by_cases hc:I0 T [n1,n2,n3]*(-s)>0
   ·rw [if_pos hc] at e1;refine go tt [.f rfl,.t rfl,.t (decide_eq_true hc)] rfl (by simp only [Ui]; first | exact ⟨⟨by omega,by omega⟩,hbb,hm,⟨by omega,by omega⟩,by decide,by omega,by omega⟩ | exact ⟨⟨by omega,by omega⟩,hbb,hm,by decide,by omega,by omega⟩) ?_;exact rd 1 (by omega) (by omega) (by rw [e1]; rfl)
   ·rw [if_neg hc] at e1;refine go tt [.f rfl,.t rfl,.f (decide_eq_false hc)] rfl (by simp only [Ui]; first | exact ⟨⟨by omega,by omega⟩,hbb,hm,⟨by omega,by omega⟩,by decide,by omega,by omega⟩ | exact ⟨⟨by omega,by omega⟩,hbb,hm,by decide,by omega,by omega⟩) ?_;exact rd 1 (by omega) (by omega) (by rw [e1]; rfl)
 ·have e1:=fs 1;have e2:Ak T s [n0,n1,n2,n3] (f 1) 1=if I0 T [n0,n2,n3]*s>0 then Cz (f 1) [n0,n2,n3] (.bool true) else f 1:=rfl
  rw [e2] at e1;refine go tt [.t rfl] rfl trivial ?_;refine lp (S:=Nat) 4 (λL1 i=>(18,.v (.one (.int .i64 (i:Int))))::(10,.v (.one (.int .i64 (if i<=1 then (i:Int) else (i:Int)-1))))::L1) (λi=>[.mpb (f 1),.mpb T,.blk 95 [.int .i64 n0,.int .i64 n1,.int .i64 n2,.int .i64 n3],.blk 50 [.int .i64 (if 1<=i then n0 else 0),.int .i64 (if 3<=i then n2 else 0),.int .i64 (if 4<=i then n3 else 0)]]) (λi=>4-i) (λi=>i<=4) 0 (by decide) rfl (λ_ _=>rfl) rfl λi hi=>?_
  rcases (show i=0\/i=1\/i=2\/i=3\/i=4 by omega) with rfl | rfl | rfl | rfl | rfl
  ·refine go tt [.t rfl,.i 0,.t rfl,.i 0] rfl (by simp [Ui]) ?_;exact rd 1 (by omega) (by omega) rfl
  ·refine go tt [.t rfl,.i 1,.f rfl] rfl (by simp [Ui]) ?_;exact rd 2 (by omega) (by omega) rfl
  ·refine go tt [.t rfl,.i 2,.t rfl,.i 1] rfl (by simp [Ui]) ?_;exact rd 3 (by omega) (by omega) rfl
  ·refine go tt [.t rfl,.i 3,.t rfl,.i 2] rfl (by simp [Ui]) ?_;exact rd 4 (by omega) (by omega) rfl
  ·have hbb:=hb [n0,n2,n3] s (by omega);by_cases hc:I0 T [n0,n2,n3]*s>0
   ·rw [if_pos hc] at e1;refine go tt [.f rfl,.f rfl,.t (decide_eq_true hc)] rfl (by simp only [Ui]; first | exact ⟨⟨by omega,by omega⟩,hbb,hm,⟨by omega,by omega⟩,by decide,by omega,by omega⟩ | exact ⟨⟨by omega,by omega⟩,hbb,hm,by decide,by omega,by omega⟩) ?_;exact rd 2 (by omega) (by omega) (by rw [e1]; rfl)
   ·rw [if_neg hc] at e1;refine go tt [.f rfl,.f rfl,.f (decide_eq_false hc)] rfl (by simp only [Ui]; first | exact ⟨⟨by omega,by omega⟩,hbb,hm,⟨by omega,by omega⟩,by decide,by omega,by omega⟩ | exact ⟨⟨by omega,by omega⟩,hbb,hm,by decide,by omega,by omega⟩) ?_;exact rd 2 (by omega) (by omega) (by rw [e1]; rfl)
 ·have e1:=fs 2;have e2:Ak T s [n0,n1,n2,n3] (f 2) 2=if I0 T [n0,n1,n3]*(-s)>0 then Cz (f 2) [n0,n1,n3] (.bool true) else f 2:=rfl
  rw [e2] at e1;refine go tt [.t rfl] rfl trivial ?_;refine lp (S:=Nat) 4 (λL1 i=>(18,.v (.one (.int .i64 (i:Int))))::(10,.v (.one (.int .i64 (if i<=2 then (i:Int) else (i:Int)-1))))::L1) (λi=>[.mpb (f 2),.mpb T,.blk 95 [.int .i64 n0,.int .i64 n1,.int .i64 n2,.int .i64 n3],.blk 50 [.int .i64 (if 1<=i then n0 else 0),.int .i64 (if 2<=i then n1 else 0),.int .i64 (if 4<=i then n3 else 0)]]) (λi=>4-i) (λi=>i<=4) 0 (by decide) rfl (λ_ _=>rfl) rfl λi hi=>?_
  rcases (show i=0\/i=1\/i=2\/i=3\/i=4 by omega) with rfl | rfl | rfl | rfl | rfl
  ·refine go tt [.t rfl,.i 0,.t rfl,.i 0] rfl (by simp [Ui]) ?_;exact rd 1 (by omega) (by omega) rfl
  ·refine go tt [.t rfl,.i 1,.t rfl,.i 1] rfl (by simp [Ui]) ?_;exact rd 2 (by omega) (by omega) rfl
  ·refine go tt [.t rfl,.i 2,.f rfl] rfl (by simp [Ui]) ?_;exact rd 3 (by omega) (by omega) rfl
  ·refine go tt [.t rfl,.i 3,.t rfl,.i 2] rfl (by simp [Ui]) ?_;exact rd 4 (by omega) (by omega) rfl
  ·have hbb:=hb [n0,n1,n3] (-s) (by omega);by_cases hc:I0 T [n0,n1,n3]*(-s)>0
   ·rw [if_pos hc] at e1;refine go tt [.f rfl,.t rfl,.t (decide_eq_true hc)] rfl (by simp only [Ui]; first | exact ⟨⟨by omega,by omega⟩,hbb,hm,⟨by omega,by omega⟩,by decide,by omega,by omega⟩ | exact ⟨⟨by omega,by omega⟩,hbb,hm,by decide,by omega,by omega⟩) ?_;exact rd 3 (by omega) (by omega) (by rw [e1]; rfl)
   ·rw [if_neg hc] at e1;refine go tt [.f rfl,.t rfl,.f (decide_eq_false hc)] rfl (by simp only [Ui]; first | exact ⟨⟨by omega,by omega⟩,hbb,hm,⟨by omega,by omega⟩,by decide,by omega,by omega⟩ | exact ⟨⟨by omega,by omega⟩,hbb,hm,by decide,by omega,by omega⟩) ?_;exact rd 3 (by omega) (by omega) (by rw [e1]; rfl)
 ·have e1:=fs 3;have e2:Ak T s [n0,n1,n2,n3] (f 3) 3=if I0 T [n0,n1,n2]*s>0 then Cz (f 3) [n0,n1,n2] (.bool true) else f 3:=rfl
  rw [e2] at e1;refine go tt [.t rfl] rfl trivial ?_;refine lp (S:=Nat) 4 (λL1 i=>(18,.v (.one (.int .i64 (i:Int))))::(10,.v (.one (.int .i64 (if i<=3 then (i:Int) else (i:Int)-1))))::L1) (λi=>[.mpb (f 3),.mpb T,.blk 95 [.int .i64 n0,.int .i64 n1,.int .i64 n2,.int .i64 n3],.blk 50 [.int .i64 (if 1<=i then n0 else 0),.int .i64 (if 2<=i then n1 else 0),.int .i64 (if 3<=i then n2 else 0)]]) (λi=>4-i) (λi=>i<=4) 0 (by decide) rfl (λ_ _=>rfl) rfl λi hi=>?_
  rcases (show i=0\/i=1\/i=2\/i=3\/i=4 by omega) with rfl | rfl | rfl | rfl | rfl
  ·refine go tt [.t rfl,.i 0,.t rfl,.i 0] rfl (by simp [Ui]) ?_;exact rd 1 (by omega) (by omega) rfl
  ·refine go tt [.t rfl,.i 1,.t rfl,.i 1] rfl (by simp [Ui]) ?_;exact rd 2 (by omega) (by omega) rfl
  ·refine go tt [.t rfl,.i 2,.t rfl,.i 2] rfl (by simp [Ui]) ?_;exact rd 3 (by omega) (by omega) rfl
  ·refine go tt [.t rfl,.i 3,.f rfl] rfl (by simp [Ui]) ?_;exact rd 4 (by omega) (by omega) rfl
  ·have hbb:=hb [n0,n1,n2] s (by omega);by_cases hc:I0 T [n0,n1,n2]*s>0
   ·rw [if_pos hc] at e1;refine go tt [.f rfl,.f rfl,.t (decide_eq_true hc)] rfl (by simp only [Ui]; first | exact ⟨⟨by omega,by omega⟩,hbb,hm,⟨by omega,by omega⟩,by decide,by omega,by omega⟩ | exact ⟨⟨by omega,by omega⟩,hbb,hm,by decide,by omega,by omega⟩) ?_;exact rd 4 (by omega) (by omega) (by rw [e1]; rfl)
   ·rw [if_neg hc] at e1;refine go tt [.f rfl,.f rfl,.f (decide_eq_false hc)] rfl (by simp only [Ui]; first | exact ⟨⟨by omega,by omega⟩,hbb,hm,⟨by omega,by omega⟩,by decide,by omega,by omega⟩ | exact ⟨⟨by omega,by omega⟩,hbb,hm,by decide,by omega,by omega⟩) ?_;exact rd 4 (by omega) (by omega) (by rw [e1]; rfl)
 ·exact ed tt [] [0,1] [.f rfl] rfl trivial
set_option maxHeartbeats 8000000 in
theorem Q39 {l:List Pt} {a:Tm} {c:Cr} {r1:List (List LV)} (hl:∀ p∈l,Sc p.c) (hn:l.length≤6) (ha:Va a):Ht Tryz.prog 61 [.one (.ow 0 0),.agg (ta a)] [.blk 86 (M3 c (Ut l) r1)] [.one (.row (Fa (bcD l a)))] [.blk 86 (M3 c (Ut l) (brD l a))]:=by
 have hwl:=Qbc l;have cw:=Q75 (l:=l) (Q3x hl) (by omega);have hgb:=Qt8 a;unfold brD bcD Qoh Bl;obtain ⟨sg',hsg⟩:∃ s,s=Pi a:=⟨_,rfl⟩;obtain ⟨W,hW⟩:=nmE (Ds l);have hWs:∀ p∈W,Sc p.c:=λp hp=>hl p (Qfn (by rw [<-hW]; exact hp))
 have mR:=λ{x y z:Pt} (hx:x∈W) (hy:y∈W) (hz:z∈W)=>Q0x (t:=a) (hWs x hx) (hWs y hy) (hWs z hz) ha
 have mC:=λ{x y z u:Pt} (hx:x∈W) (hy:y∈W) (hz:z∈W) (hu:u∈W)=>Q0w (t:=a) (hWs x hx) (hWs y hy) (hWs z hz) (hWs u hu) ha
 rw [<-hW] at cw hwl ⊢;rw [<-hsg] at hgb mR mC ⊢;have hW6:W.length<=6:=by omega
 have hTi:=λps=>Qoa hgb ps
 have hcp:(W.map G0).length=W.length:=by simp
 have hcp2:=Tl W;have hdr:∀ i,(Ut W).drop i=Ut (W.drop i):=λi=>by unfold Ut; rw [List.map_drop]
 have hel:∀ z∈Ut W,z.length=5:=λz hz=>by obtain ⟨p,_,rfl⟩:=Za.1 hz; rfl
 have s7:∀ x:Ct,∀ y∈[Qep x],y.length=7:=λx y hy=>by rw [Ql.1 hy]; rfl
 have s3:∀ x:P3,∀ y∈[trL x],y.length=3:=λx y hy=>by rw [Ql.1 hy]; rfl
 obtain ⟨T,hT⟩:=nmE (Ev (Qa8 sg' (Hf W)));obtain ⟨G,hG⟩:=nmE (Ck T (A5 sg' (Ls W)));have hTI:Qpo T:=by rw [hT]; exact hTi _
 have hTm:Q6s T:=λk=>(hTI k).1
 have hGB:Q0g G:=λk=>by rw [hG]; exact Qjt _ _ _ k
 rw [<-hT,<-hG];have e0:(Fa (((Mx 0 W).map (Qaq sg'))))=[]:=rfl;refine Gm Tryz.func61 rfl ?_;refine go tt [.c [] cw,.o 6 99 7] rfl trivial ?_;refine lp (S:=Nat) 4 (λL1 i=>(42,.v (.one (.int .i64 (i:Int))))::(6,.v (.one (.orow 2 7 none)))::L1) (λi=>[.blk 86 (M3 c (Ut l) r1),.blk 79 (ta a),.row false 99 7 (Fa ((Mx i W).map (Qaq sg'))),.mpb (Ev (Qa8 sg' (Mx i W)))]) (λi=>W.length-i) (λi=>i<=W.length) 0 (Qh _) rfl (λ_ _=>rfl) rfl λi hi=>?_
 by_cases hlt:i<W.length
 ·obtain ⟨x,hx⟩:=gxE (l:=W) (i:=i) hlt;have xm:=Qa hx;obtain ⟨V,hV⟩:=nmE (W.drop (i+1));have hVl:V.length=W.length-(i+1):=by rw [hV,Z0]
  have hVm:∀ p∈V,p∈W:=λp hp=>by rw [hV] at hp; exact Q0 hp
  have eV:(Ut W).drop (i+1)=Ut V:=by rw [hdr,<-hV]
  rw [<-Qar W x i];refine go tt [.t (decide_eq_true (by omega)),.x (Hb hx),.r 49 (eI (b:=((i+1:Nat):Int)) (by omega)),.i (i+1),.r 50 (En eV)] rfl (by simp only [Ui]; (repeat' apply And.intro) <;> first | omega | exact hel) ?_;have hVr:=Tl V;refine lp (S:=Nat) 5 (λL1 j=>(52,.v (.one (.int .i64 (j:Int))))::(6,.v (.one (.orow 2 7 none)))::L1) (λj=>[.blk 86 (M3 c (Ut l) r1),.blk 79 (ta a),.row false 99 7 (Fa ((p3j W x i j).map (Qaq sg'))),.mpb (Ev (Qa8 sg' (p3j W x i j))),.blk 114 (G0 x)]) (λj=>V.length-j) (λj=>j<=V.length) 0 (Qh _) rfl (λ_ _=>rfl) rfl λj hj=>?_
  by_cases hltj:j<V.length
  ·obtain ⟨y,hy⟩:=gxE (l:=V) (i:=j) hltj;have ym:=hVm y (Qa hy);have hy':(W.drop (i+1))[j]? = some y:=by rw [<-hV]; exact hy
   obtain ⟨U,hU⟩:=nmE (V.drop (j+1));have hUl:U.length=V.length-(j+1):=by rw [hU,Z0]
   have hUm:∀ p∈U,p∈W:=λp hp=>by rw [hU] at hp; exact hVm p (Q0 hp)
   have hUW:U=(W.drop (i+1)).drop (j+1):=by rw [hU,hV]
   have eU:(Ut W).drop (i+j+2)=Ut U:=by rw [hdr,hU,hV,Ja]; congr 2; omega
   have hUr:=Tl U;rw [<-Qat W x y i j];refine go tt [.t (decide_eq_true (by omega)),.x (Hb hy),.r 61 (eI (b:=((i+j+2:Nat):Int)) (by omega)),.i (i+j+2),.r 62 (En eU)] rfl (by simp only [Ui]; (repeat' apply And.intro) <;> first | omega | exact hel) ?_;refine lp (S:=Nat) 6 (λL1 k=>(64,.v (.one (.int .i64 (k:Int))))::(6,.v (.one (.orow 2 7 none)))::L1) (λk=>[.blk 86 (M3 c (Ut l) r1),.blk 79 (ta a),.row false 99 7 (Fa ((p3k W x y i j k).map (Qaq sg'))),.mpb (Ev (Qa8 sg' (p3k W x y i j k))),.blk 114 (G0 x),.blk 114 (G0 y)]) (λk=>U.length-k) (λk=>k<=U.length) 0 (Qh _) rfl (λ_ _=>rfl) rfl λk hk=>?_
   by_cases hltk:k<U.length
   ·obtain ⟨z,hz⟩:=gxE (l:=U) (i:=k) hltk;have zm:=hUm z (Qa hz);have hlen:=Qi9 hW6 (k:=k) hx hy';have en:=Qas (x:=x) (y:=y) (by rw [<-hUW]; exact hz);have et:=Qml sg' (p3k W x y i j k) (x,y,z);rw [<-en] at et;refine go tt [.t (decide_eq_true (by omega)),.x (Hb hz),.c [] (mR xm ym zm),.s (sz:=7) (s7 _)] rfl (by simp [Ui,Nf] <;> omega) ?_;exact rd (k+1) (by omega) hltk (by rw [et,en,Xv]; simp [Fa]; rfl)
   ·have e:=Qev (x:=x) (k:=k) hy' (by rw [<-hUW]; omega);rw [e];refine go tt [.f (decide_eq_false (by omega))] rfl (by simp [Ui] <;> omega) ?_;exact rd (j+1) (by omega) hltj rfl
  ·have e:=Qet (x:=x) (j:=j) hx (by rw [<-hV]; omega);rw [e];refine go tt [.f (decide_eq_false (by omega))] rfl (by simp [Ui] <;> omega) ?_;exact rd (i+1) (by omega) hlt rfl
 rw [Qjl (show i=W.length by omega),<-hT];have hiW:¬i<W.length:=hlt;clear hlt;obtain ⟨C3,hC3⟩:=nmE ((Hf W).map (Qaq sg'));have hC3l:C3.length<=20:=by rw [hC3,Q8]; exact (Oa hW6).1
 rw [<-hC3];refine go tt [.f (decide_eq_false (by omega))] rfl trivial ?_;have eC:Fa C3=Fa (C3++(Ba 0 W).map (Im sg')):=by rw [show Ba 0 W=[] from rfl,X8,Xi]
 rw [eC];refine lp (S:=Nat) 5 (λL1 i=>(97,.v (.one (.int .i64 (i:Int))))::(6,.v (.one (.orow 2 7 none)))::L1) (λi=>[.blk 86 (M3 c (Ut l) r1),.blk 79 (ta a),.row false 99 7 (Fa (C3++(Ba i W).map (Im sg'))),.mpb T,.mpb (Ck T (A5 sg' (Ba i W)))]) (λi=>W.length-i) (λi=>i<=W.length) 0 (Qh _) rfl (λ_ _=>rfl) rfl λi hi=>?_
 by_cases hlt:i<W.length
 ·obtain ⟨x,hx⟩:=gxE (l:=W) (i:=i) hlt;have xm:=Qa hx;obtain ⟨V,hV⟩:=nmE (W.drop (i+1));have hVl:V.length=W.length-(i+1):=by rw [hV,Z0]
  have hVm:∀ p∈V,p∈W:=λp hp=>by rw [hV] at hp; exact Q0 hp
  have eV:(Ut W).drop (i+1)=Ut V:=by rw [hdr,<-hV]
  have hVr:=Tl V;rw [<-Qu9 W x i];refine go tt [.t (decide_eq_true (by omega)),.x (Hb hx),.r 104 (eI (b:=((i+1:Nat):Int)) (by omega)),.i (i+1),.r 105 (En eV)] rfl (by simp only [Ui]; (repeat' apply And.intro) <;> first | omega | exact hel) ?_;refine lp (S:=Nat) 6 (λL1 j=>(107,.v (.one (.int .i64 (j:Int))))::(6,.v (.one (.orow 2 7 none)))::L1) (λj=>[.blk 86 (M3 c (Ut l) r1),.blk 79 (ta a),.row false 99 7 (Fa (C3++(p4j W x i j).map (Im sg'))),.mpb T,.mpb (Ck T (A5 sg' (p4j W x i j))),.blk 114 (G0 x)]) (λj=>V.length-j) (λj=>j<=V.length) 0 (Qh _) rfl (λ_ _=>rfl) rfl λj hj=>?_
  by_cases hltj:j<V.length
  ·obtain ⟨y,hy⟩:=gxE (l:=V) (i:=j) hltj;have ym:=hVm y (Qa hy);have hy':(W.drop (i+1))[j]? = some y:=by rw [<-hV]; exact hy
   obtain ⟨U,hU⟩:=nmE (V.drop (j+1));have hUl:U.length=V.length-(j+1):=by rw [hU,Z0]
   have hUm:∀ p∈U,p∈W:=λp hp=>by rw [hU] at hp; exact hVm p (Q0 hp)
   have hUW:U=(W.drop (i+1)).drop (j+1):=by rw [hU,hV]
   have eU:(Ut W).drop (i+j+2)=Ut U:=by rw [hdr,hU,hV,Ja]; congr 2; omega
   have hUr:=Tl U;rw [<-Qva W x y i j];refine go tt [.t (decide_eq_true (by omega)),.x (Hb hy),.r 116 (eI (b:=((i+j+2:Nat):Int)) (by omega)),.i (i+j+2),.r 117 (En eU)] rfl (by simp only [Ui]; (repeat' apply And.intro) <;> first | omega | exact hel) ?_;refine lp (S:=Nat) 7 (λL1 k=>(119,.v (.one (.int .i64 (k:Int))))::(6,.v (.one (.orow 2 7 none)))::L1) (λk=>[.blk 86 (M3 c (Ut l) r1),.blk 79 (ta a),.row false 99 7 (Fa (C3++(p4k W x y i j k).map (Im sg'))),.mpb T,.mpb (Ck T (A5 sg' (p4k W x y i j k))),.blk 114 (G0 x),.blk 114 (G0 y)]) (λk=>U.length-k) (λk=>k<=U.length) 0 (Qh _) rfl (λ_ _=>rfl) rfl λk hk=>?_
   by_cases hltk:k<U.length
   ·obtain ⟨z,hz⟩:=gxE (l:=U) (i:=k) hltk;have zm:=hUm z (Qa hz);have hz':((W.drop (i+1)).drop (j+1))[k]? = some z:=by rw [<-hUW]; exact hz
    obtain ⟨R,hR⟩:=nmE (U.drop (k+1));have hRl:R.length=U.length-(k+1):=by rw [hR,Z0]
    have hRm:∀ p∈R,p∈W:=λp hp=>by rw [hR] at hp; exact hUm p (Q0 hp)
    have hRW:R=((W.drop (i+1)).drop (j+1)).drop (k+1):=by rw [hR,hUW]
    have eR:(Ut W).drop (i+j+k+3)=Ut R:=by rw [hdr,hRW,Ja,Ja]; congr 2; omega
    have hRr:=Tl R;rw [<-Qvd W x y z i j k];refine go tt [.t (decide_eq_true (by omega)),.x (Hb hz),.r 130 (eI (b:=((i+j+k+3:Nat):Int)) (by omega)),.i (i+j+k+3),.r 131 (En eR)] rfl (by simp only [Ui]; (repeat' apply And.intro) <;> first | omega | exact hel) ?_;refine lp (S:=Nat) 8 (λL1 m=>(133,.v (.one (.int .i64 (m:Int))))::(6,.v (.one (.orow 2 7 none)))::L1) (λm=>[.blk 86 (M3 c (Ut l) r1),.blk 79 (ta a),.row false 99 7 (Fa (C3++(p4m W x y z i j k m).map (Im sg'))),.mpb T,.mpb (Ck T (A5 sg' (p4m W x y z i j k m))),.blk 114 (G0 x),.blk 114 (G0 y),.blk 114 (G0 z)]) (λm=>R.length-m) (λm=>m<=R.length) 0 (Qh _) rfl (λ_ _=>rfl) rfl λm hm=>?_
    by_cases hltm:m<R.length
    ·obtain ⟨u,hu⟩:=gxE (l:=R) (i:=m) hltm;have um:=hRm u (Qa hu);have hlen:=Q22 hW6 (m:=m) hx hy' hz';have en:=Qvc (x:=x) (y:=y) (z:=z) (by rw [<-hRW]; exact hu);have et:=Qk1 sg' T (p4m W x y z i j k m) (x,y,z,u);rw [<-en] at et;have cf:=Q79 (F:=Ck T (A5 sg' (p4m W x y z i j k m))) (s:=(Qlh sg' x y z u).want) (n0:=x.id) (n1:=y.id) (n2:=z.id) (n3:=u.id) hTI (hgb _);refine go tt [.t (decide_eq_true (by omega)),.x (Hb hu),.c [] (mC xm ym zm um),.s (sz:=7) (s7 _),.c [4,3] cf] rfl (by simp [Ui,Nf] <;> omega) ?_;exact rd (m+1) (by omega) hltm (by rw [et,en,Xv,<-Zg]; simp [Fa]; rfl)
    ·have e:=Q21 (x:=x) (y:=y) (m:=m) hz' (by rw [<-hRW]; omega);rw [e];refine go tt [.f (decide_eq_false (by omega))] rfl (by simp [Ui] <;> omega) ?_;exact rd (k+1) (by omega) hltk rfl
   ·have e:=Q20 (x:=x) (k:=k) hy' (by rw [<-hUW]; omega);rw [e];refine go tt [.f (decide_eq_false (by omega))] rfl (by simp [Ui] <;> omega) ?_;exact rd (j+1) (by omega) hltj rfl
  ·have e:=Q2z (x:=x) (j:=j) hx (by rw [<-hV]; omega);rw [e];refine go tt [.f (decide_eq_false (by omega))] rfl (by simp [Ui] <;> omega) ?_;exact rd (i+1) (by omega) hlt rfl
 rw [Q3h (show i=W.length by omega),<-hG];obtain ⟨C4,hC4⟩:=nmE (C3++(Ls W).map (Im sg'));rw [<-hC4];refine go tt [.f (decide_eq_false (by omega))] rfl trivial ?_;refine ozM 0 13 50 3 rfl rfl ?_;have eT:([]:List (List LV))=Bb ((Mx 0 W).filter (isT T G)):=rfl;rw [eT];refine lp (S:=Nat) 6 (λL1 i=>(174,.v (.one (.int .i64 (i:Int))))::L1) (λi=>[.blk 86 [.bool true,pl c.now.p,sg c.now.lo.num,mg c.now.lo.num,sg (c.now.lo.den:Int),mg (c.now.lo.den:Int),sg c.now.hi.num,mg c.now.hi.num,sg (c.now.hi.den:Int),mg (c.now.hi.den:Int),.row (Og c.l),.int .i64 c.ev,.row (Ut l),.orow 5 3 none],.blk 79 (ta a),.row false 99 7 (Fa C4),.mpb T,.mpb G,.row false 50 3 (Bb ((Mx i W).filter (isT T G)))]) (λi=>W.length-i) (λi=>i<=W.length) 0 (Qh _) rfl (λ_ _=>rfl) rfl λi hi=>?_
 by_cases hlt:i<W.length
 ·obtain ⟨x,hx⟩:=gxE (l:=W) (i:=i) hlt;obtain ⟨V,hV⟩:=nmE (W.drop (i+1));have hVl:V.length=W.length-(i+1):=by rw [hV,Z0]
  have eV:(Ut W).drop (i+1)=Ut V:=by rw [hdr,<-hV]
  have hVr:=Tl V;rw [<-Qar W x i];refine go tt [.t (decide_eq_true (by omega)),.x (Hb hx),.r 181 (eI (b:=((i+1:Nat):Int)) (by omega)),.i (i+1),.r 182 (En eV)] rfl (by simp only [Ui]; (repeat' apply And.intro) <;> first | omega | exact hel) ?_;refine lp (S:=Nat) 7 (λL1 j=>(184,.v (.one (.int .i64 (j:Int))))::L1) (λj=>[.blk 86 [.bool true,pl c.now.p,sg c.now.lo.num,mg c.now.lo.num,sg (c.now.lo.den:Int),mg (c.now.lo.den:Int),sg c.now.hi.num,mg c.now.hi.num,sg (c.now.hi.den:Int),mg (c.now.hi.den:Int),.row (Og c.l),.int .i64 c.ev,.row (Ut l),.orow 5 3 none],.blk 79 (ta a),.row false 99 7 (Fa C4),.mpb T,.mpb G,.row false 50 3 (Bb ((p3j W x i j).filter (isT T G))),.blk 114 (G0 x)]) (λj=>V.length-j) (λj=>j<=V.length) 0 (Qh _) rfl (λ_ _=>rfl) rfl λj hj=>?_
  by_cases hltj:j<V.length
  ·obtain ⟨y,hy⟩:=gxE (l:=V) (i:=j) hltj;have hy':(W.drop (i+1))[j]? = some y:=by rw [<-hV]; exact hy
   obtain ⟨U,hU⟩:=nmE (V.drop (j+1));have hUl:U.length=V.length-(j+1):=by rw [hU,Z0]
   have hUW:U=(W.drop (i+1)).drop (j+1):=by rw [hU,hV]
   have eU:(Ut W).drop (i+j+2)=Ut U:=by rw [hdr,hU,hV,Ja]; congr 2; omega
   have hUr:=Tl U;rw [<-Qat W x y i j];refine go tt [.t (decide_eq_true (by omega)),.x (Hb hy),.r 193 (eI (b:=((i+j+2:Nat):Int)) (by omega)),.i (i+j+2),.r 194 (En eU)] rfl (by simp only [Ui]; (repeat' apply And.intro) <;> first | omega | exact hel) ?_;refine lp (S:=Nat) 8 (λL1 k=>(196,.v (.one (.int .i64 (k:Int))))::L1) (λk=>[.blk 86 [.bool true,pl c.now.p,sg c.now.lo.num,mg c.now.lo.num,sg (c.now.lo.den:Int),mg (c.now.lo.den:Int),sg c.now.hi.num,mg c.now.hi.num,sg (c.now.hi.den:Int),mg (c.now.hi.den:Int),.row (Og c.l),.int .i64 c.ev,.row (Ut l),.orow 5 3 none],.blk 79 (ta a),.row false 99 7 (Fa C4),.mpb T,.mpb G,.row false 50 3 (Bb ((p3k W x y i j k).filter (isT T G))),.blk 114 (G0 x),.blk 114 (G0 y)]) (λk=>U.length-k) (λk=>k<=U.length) 0 (Qh _) rfl (λ_ _=>rfl) rfl λk hk=>?_
   by_cases hltk:k<U.length
   ·obtain ⟨z,hz⟩:=gxE (l:=U) (i:=k) hltk;have hlen:=Qi9 hW6 (k:=k) hx hy';have en:=Qas (x:=x) (y:=y) (by rw [<-hUW]; exact hz);have hfl:=Vu (isT T G) (p3k W x y i j k);have htl:=A9 ((p3k W x y i j k).filter (isT T G));by_cases h1:I0 T [x.id,y.id,z.id]≠0
    ·by_cases h2:Qdu G [x.id,y.id,z.id]=true
     ·have ef:isT T G (x,y,z)=false:=by unfold isT Qmz; simp [h2]
      have eF:=Qqq (ps:=p3k W x y i j k) ef;rw [<-en] at eF;refine go tt [.t (decide_eq_true (by omega)),.x (Hb hz),.g 211 true (decide_eq_true h1),.f (by rw [h2]; rfl)] rfl (by simp only [Ui]; (repeat' apply And.intro) <;> first | exact hTm | exact hGB | omega | (simp only [Q6,Jc]; omega)) ?_;exact rd (k+1) (by omega) hltk (by rw [eF]; rfl)
     ·have h2:Qdu G [x.id,y.id,z.id]=false:=by simpa using h2
      have ef:isT T G (x,y,z)=true:=by unfold isT Qmz; simp [h2,h1]
      have eF:=Q9v (ps:=p3k W x y i j k) ef;rw [<-en] at eF;refine go tt [.t (decide_eq_true (by omega)),.x (Hb hz),.g 211 true (decide_eq_true h1),.t (by rw [h2]; rfl),.s (sz:=3) (s3 (x,y,z))] rfl (by simp only [Ui]; (repeat' apply And.intro) <;> first | exact hTm | exact hGB | omega | (simp only [Q6,Jc]; omega)) ?_;exact rd (k+1) (by omega) hltk (by rw [eF]; simp [Bb]; rfl)
    ·have ef:isT T G (x,y,z)=false:=by unfold isT Qmz; simp [h1]
     have eF:=Qqq (ps:=p3k W x y i j k) ef;rw [<-en] at eF;refine go tt [.t (decide_eq_true (by omega)),.x (Hb hz),.g 211 false (decide_eq_false h1),.f rfl] rfl (by simp only [Ui]; (repeat' apply And.intro) <;> first | exact hTm | exact hGB | omega | (simp only [Q6,Jc]; omega)) ?_;exact rd (k+1) (by omega) hltk (by rw [eF]; rfl)
   ·have e:=Qev (x:=x) (k:=k) hy' (by rw [<-hUW]; omega);rw [e];refine go tt [.f (decide_eq_false (by omega))] rfl (by simp [Ui] <;> omega) ?_;exact rd (j+1) (by omega) hltj rfl
  ·have e:=Qet (x:=x) (j:=j) hx (by rw [<-hV]; omega);rw [e];refine go tt [.f (decide_eq_false (by omega))] rfl (by simp [Ui] <;> omega) ?_;exact rd (i+1) (by omega) hlt rfl
 rw [Qjl (show i=W.length by omega)];rw [hC4,hC3];exact ed tt [2,5] [0] [.f (decide_eq_false (by omega))] rfl trivial
set_option maxHeartbeats 8000000 in
theorem Q38 {l:List Pt} {a:Tm} (hl:∀ p∈l,Sc p.c) (hn:l.length≤6) (ha:Va a):Ht Tryz.prog 61 [.one (.ow 0 0),.agg (ta a)] [.blk 86 (crz (.row (Ut l)) .nils)] [.one (.row (Fa (bcD l a)))] [.blk 86 (crz (.row (Ut l)) (.row (brD l a)))]:=by
 have hwl:=Qbc l;have cw:=Q75 (l:=l) (Q3x hl) (by omega);have hgb:=Qt8 a;unfold brD bcD Qoh Bl;obtain ⟨sg',hsg⟩:∃ s,s=Pi a:=⟨_,rfl⟩;obtain ⟨W,hW⟩:=nmE (Ds l);have hWs:∀ p∈W,Sc p.c:=λp hp=>hl p (Qfn (by rw [<-hW]; exact hp))
 have mR:=λ{x y z:Pt} (hx:x∈W) (hy:y∈W) (hz:z∈W)=>Q0x (t:=a) (hWs x hx) (hWs y hy) (hWs z hz) ha
 have mC:=λ{x y z u:Pt} (hx:x∈W) (hy:y∈W) (hz:z∈W) (hu:u∈W)=>Q0w (t:=a) (hWs x hx) (hWs y hy) (hWs z hz) (hWs u hu) ha
 rw [<-hW] at cw hwl ⊢;rw [<-hsg] at hgb mR mC ⊢;have hW6:W.length<=6:=by omega
 have hTi:=λps=>Qoa hgb ps
 have hcp:(W.map G0).length=W.length:=by simp
 have hcp2:=Tl W;have hdr:∀ i,(Ut W).drop i=Ut (W.drop i):=λi=>by unfold Ut; rw [List.map_drop]
 have hel:∀ z∈Ut W,z.length=5:=λz hz=>by obtain ⟨p,_,rfl⟩:=Za.1 hz; rfl
 have s7:∀ x:Ct,∀ y∈[Qep x],y.length=7:=λx y hy=>by rw [Ql.1 hy]; rfl
 have s3:∀ x:P3,∀ y∈[trL x],y.length=3:=λx y hy=>by rw [Ql.1 hy]; rfl
 obtain ⟨T,hT⟩:=nmE (Ev (Qa8 sg' (Hf W)));obtain ⟨G,hG⟩:=nmE (Ck T (A5 sg' (Ls W)));have hTI:Qpo T:=by rw [hT]; exact hTi _
 have hTm:Q6s T:=λk=>(hTI k).1
 have hGB:Q0g G:=λk=>by rw [hG]; exact Qjt _ _ _ k
 rw [<-hT,<-hG];have e0:(Fa (((Mx 0 W).map (Qaq sg'))))=[]:=rfl;refine Gm Tryz.func61 rfl ?_;refine go tt [.c [] cw,.o 6 99 7] rfl trivial ?_;refine lp (S:=Nat) 4 (λL1 i=>(42,.v (.one (.int .i64 (i:Int))))::(6,.v (.one (.orow 2 7 none)))::L1) (λi=>[.blk 86 (crz (.row (Ut l)) .nils),.blk 79 (ta a),.row false 99 7 (Fa ((Mx i W).map (Qaq sg'))),.mpb (Ev (Qa8 sg' (Mx i W)))]) (λi=>W.length-i) (λi=>i<=W.length) 0 (Qh _) rfl (λ_ _=>rfl) rfl λi hi=>?_
 by_cases hlt:i<W.length
 ·obtain ⟨x,hx⟩:=gxE (l:=W) (i:=i) hlt;have xm:=Qa hx;obtain ⟨V,hV⟩:=nmE (W.drop (i+1));have hVl:V.length=W.length-(i+1):=by rw [hV,Z0]
  have hVm:∀ p∈V,p∈W:=λp hp=>by rw [hV] at hp; exact Q0 hp
  have eV:(Ut W).drop (i+1)=Ut V:=by rw [hdr,<-hV]
  rw [<-Qar W x i];refine go tt [.t (decide_eq_true (by omega)),.x (Hb hx),.r 49 (eI (b:=((i+1:Nat):Int)) (by omega)),.i (i+1),.r 50 (En eV)] rfl (by simp only [Ui]; (repeat' apply And.intro) <;> first | omega | exact hel) ?_;have hVr:=Tl V;refine lp (S:=Nat) 5 (λL1 j=>(52,.v (.one (.int .i64 (j:Int))))::(6,.v (.one (.orow 2 7 none)))::L1) (λj=>[.blk 86 (crz (.row (Ut l)) .nils),.blk 79 (ta a),.row false 99 7 (Fa ((p3j W x i j).map (Qaq sg'))),.mpb (Ev (Qa8 sg' (p3j W x i j))),.blk 114 (G0 x)]) (λj=>V.length-j) (λj=>j<=V.length) 0 (Qh _) rfl (λ_ _=>rfl) rfl λj hj=>?_
  by_cases hltj:j<V.length
  ·obtain ⟨y,hy⟩:=gxE (l:=V) (i:=j) hltj;have ym:=hVm y (Qa hy);have hy':(W.drop (i+1))[j]? = some y:=by rw [<-hV]; exact hy
   obtain ⟨U,hU⟩:=nmE (V.drop (j+1));have hUl:U.length=V.length-(j+1):=by rw [hU,Z0]
   have hUm:∀ p∈U,p∈W:=λp hp=>by rw [hU] at hp; exact hVm p (Q0 hp)
   have hUW:U=(W.drop (i+1)).drop (j+1):=by rw [hU,hV]
   have eU:(Ut W).drop (i+j+2)=Ut U:=by rw [hdr,hU,hV,Ja]; congr 2; omega
   have hUr:=Tl U;rw [<-Qat W x y i j];refine go tt [.t (decide_eq_true (by omega)),.x (Hb hy),.r 61 (eI (b:=((i+j+2:Nat):Int)) (by omega)),.i (i+j+2),.r 62 (En eU)] rfl (by simp only [Ui]; (repeat' apply And.intro) <;> first | omega | exact hel) ?_;refine lp (S:=Nat) 6 (λL1 k=>(64,.v (.one (.int .i64 (k:Int))))::(6,.v (.one (.orow 2 7 none)))::L1) (λk=>[.blk 86 (crz (.row (Ut l)) .nils),.blk 79 (ta a),.row false 99 7 (Fa ((p3k W x y i j k).map (Qaq sg'))),.mpb (Ev (Qa8 sg' (p3k W x y i j k))),.blk 114 (G0 x),.blk 114 (G0 y)]) (λk=>U.length-k) (λk=>k<=U.length) 0 (Qh _) rfl (λ_ _=>rfl) rfl λk hk=>?_
   by_cases hltk:k<U.length
   ·obtain ⟨z,hz⟩:=gxE (l:=U) (i:=k) hltk;have zm:=hUm z (Qa hz);have hlen:=Qi9 hW6 (k:=k) hx hy';have en:=Qas (x:=x) (y:=y) (by rw [<-hUW]; exact hz);have et:=Qml sg' (p3k W x y i j k) (x,y,z);rw [<-en] at et;refine go tt [.t (decide_eq_true (by omega)),.x (Hb hz),.c [] (mR xm ym zm),.s (sz:=7) (s7 _)] rfl (by simp [Ui,Nf] <;> omega) ?_;exact rd (k+1) (by omega) hltk (by rw [et,en,Xv]; simp [Fa]; rfl)
   ·have e:=Qev (x:=x) (k:=k) hy' (by rw [<-hUW]; omega);rw [e];refine go tt [.f (decide_eq_false (by omega))] rfl (by simp [Ui] <;> omega) ?_;exact rd (j+1) (by omega) hltj rfl
  ·have e:=Qet (x:=x) (j:=j) hx (by rw [<-hV]; omega);rw [e];refine go tt [.f (decide_eq_false (by omega))] rfl (by simp [Ui] <;> omega) ?_;exact rd (i+1) (by omega) hlt rfl
 rw [Qjl (show i=W.length by omega),<-hT];have hiW:¬i<W.length:=hlt;clear hlt;obtain ⟨C3,hC3⟩:=nmE ((Hf W).map (Qaq sg'));have hC3l:C3.length<=20:=by rw [hC3,Q8]; exact (Oa hW6).1
 rw [<-hC3];refine go tt [.f (decide_eq_false (by omega))] rfl trivial ?_;have eC:Fa C3=Fa (C3++(Ba 0 W).map (Im sg')):=by rw [show Ba 0 W=[] from rfl,X8,Xi]
 rw [eC];refine lp (S:=Nat) 5 (λL1 i=>(97,.v (.one (.int .i64 (i:Int))))::(6,.v (.one (.orow 2 7 none)))::L1) (λi=>[.blk 86 (crz (.row (Ut l)) .nils),.blk 79 (ta a),.row false 99 7 (Fa (C3++(Ba i W).map (Im sg'))),.mpb T,.mpb (Ck T (A5 sg' (Ba i W)))]) (λi=>W.length-i) (λi=>i<=W.length) 0 (Qh _) rfl (λ_ _=>rfl) rfl λi hi=>?_
 by_cases hlt:i<W.length
 ·obtain ⟨x,hx⟩:=gxE (l:=W) (i:=i) hlt;have xm:=Qa hx;obtain ⟨V,hV⟩:=nmE (W.drop (i+1));have hVl:V.length=W.length-(i+1):=by rw [hV,Z0]
  have hVm:∀ p∈V,p∈W:=λp hp=>by rw [hV] at hp; exact Q0 hp
  have eV:(Ut W).drop (i+1)=Ut V:=by rw [hdr,<-hV]
  have hVr:=Tl V;rw [<-Qu9 W x i];refine go tt [.t (decide_eq_true (by omega)),.x (Hb hx),.r 104 (eI (b:=((i+1:Nat):Int)) (by omega)),.i (i+1),.r 105 (En eV)] rfl (by simp only [Ui]; (repeat' apply And.intro) <;> first | omega | exact hel) ?_;refine lp (S:=Nat) 6 (λL1 j=>(107,.v (.one (.int .i64 (j:Int))))::(6,.v (.one (.orow 2 7 none)))::L1) (λj=>[.blk 86 (crz (.row (Ut l)) .nils),.blk 79 (ta a),.row false 99 7 (Fa (C3++(p4j W x i j).map (Im sg'))),.mpb T,.mpb (Ck T (A5 sg' (p4j W x i j))),.blk 114 (G0 x)]) (λj=>V.length-j) (λj=>j<=V.length) 0 (Qh _) rfl (λ_ _=>rfl) rfl λj hj=>?_
  by_cases hltj:j<V.length
  ·obtain ⟨y,hy⟩:=gxE (l:=V) (i:=j) hltj;have ym:=hVm y (Qa hy);have hy':(W.drop (i+1))[j]? = some y:=by rw [<-hV]; exact hy
   obtain ⟨U,hU⟩:=nmE (V.drop (j+1));have hUl:U.length=V.length-(j+1):=by rw [hU,Z0]
   have hUm:∀ p∈U,p∈W:=λp hp=>by rw [hU] at hp; exact hVm p (Q0 hp)
   have hUW:U=(W.drop (i+1)).drop (j+1):=by rw [hU,hV]
   have eU:(Ut W).drop (i+j+2)=Ut U:=by rw [hdr,hU,hV,Ja]; congr 2; omega
   have hUr:=Tl U;rw [<-Qva W x y i j];refine go tt [.t (decide_eq_true (by omega)),.x (Hb hy),.r 116 (eI (b:=((i+j+2:Nat):Int)) (by omega)),.i (i+j+2),.r 117 (En eU)] rfl (by simp only [Ui]; (repeat' apply And.intro) <;> first | omega | exact hel) ?_;refine lp (S:=Nat) 7 (λL1 k=>(119,.v (.one (.int .i64 (k:Int))))::(6,.v (.one (.orow 2 7 none)))::L1) (λk=>[.blk 86 (crz (.row (Ut l)) .nils),.blk 79 (ta a),.row false 99 7 (Fa (C3++(p4k W x y i j k).map (Im sg'))),.mpb T,.mpb (Ck T (A5 sg' (p4k W x y i j k))),.blk 114 (G0 x),.blk 114 (G0 y)]) (λk=>U.length-k) (λk=>k<=U.length) 0 (Qh _) rfl (λ_ _=>rfl) rfl λk hk=>?_
   by_cases hltk:k<U.length
   ·obtain ⟨z,hz⟩:=gxE (l:=U) (i:=k) hltk;have zm:=hUm z (Qa hz);have hz':((W.drop (i+1)).drop (j+1))[k]? = some z:=by rw [<-hUW]; exact hz
    obtain ⟨R,hR⟩:=nmE (U.drop (k+1));have hRl:R.length=U.length-(k+1):=by rw [hR,Z0]
    have hRm:∀ p∈R,p∈W:=λp hp=>by rw [hR] at hp; exact hUm p (Q0 hp)
    have hRW:R=((W.drop (i+1)).drop (j+1)).drop (k+1):=by rw [hR,hUW]
    have eR:(Ut W).drop (i+j+k+3)=Ut R:=by rw [hdr,hRW,Ja,Ja]; congr 2; omega
    have hRr:=Tl R;rw [<-Qvd W x y z i j k];refine go tt [.t (decide_eq_true (by omega)),.x (Hb hz),.r 130 (eI (b:=((i+j+k+3:Nat):Int)) (by omega)),.i (i+j+k+3),.r 131 (En eR)] rfl (by simp only [Ui]; (repeat' apply And.intro) <;> first | omega | exact hel) ?_;refine lp (S:=Nat) 8 (λL1 m=>(133,.v (.one (.int .i64 (m:Int))))::(6,.v (.one (.orow 2 7 none)))::L1) (λm=>[.blk 86 (crz (.row (Ut l)) .nils),.blk 79 (ta a),.row false 99 7 (Fa (C3++(p4m W x y z i j k m).map (Im sg'))),.mpb T,.mpb (Ck T (A5 sg' (p4m W x y z i j k m))),.blk 114 (G0 x),.blk 114 (G0 y),.blk 114 (G0 z)]) (λm=>R.length-m) (λm=>m<=R.length) 0 (Qh _) rfl (λ_ _=>rfl) rfl λm hm=>?_
    by_cases hltm:m<R.length
    ·obtain ⟨u,hu⟩:=gxE (l:=R) (i:=m) hltm;have um:=hRm u (Qa hu);have hlen:=Q22 hW6 (m:=m) hx hy' hz';have en:=Qvc (x:=x) (y:=y) (z:=z) (by rw [<-hRW]; exact hu);have et:=Qk1 sg' T (p4m W x y z i j k m) (x,y,z,u);rw [<-en] at et;have cf:=Q79 (F:=Ck T (A5 sg' (p4m W x y z i j k m))) (s:=(Qlh sg' x y z u).want) (n0:=x.id) (n1:=y.id) (n2:=z.id) (n3:=u.id) hTI (hgb _);refine go tt [.t (decide_eq_true (by omega)),.x (Hb hu),.c [] (mC xm ym zm um),.s (sz:=7) (s7 _),.c [4,3] cf] rfl (by simp [Ui,Nf] <;> omega) ?_;exact rd (m+1) (by omega) hltm (by rw [et,en,Xv,<-Zg]; simp [Fa]; rfl)
    ·have e:=Q21 (x:=x) (y:=y) (m:=m) hz' (by rw [<-hRW]; omega);rw [e];refine go tt [.f (decide_eq_false (by omega))] rfl (by simp [Ui] <;> omega) ?_;exact rd (k+1) (by omega) hltk rfl
   ·have e:=Q20 (x:=x) (k:=k) hy' (by rw [<-hUW]; omega);rw [e];refine go tt [.f (decide_eq_false (by omega))] rfl (by simp [Ui] <;> omega) ?_;exact rd (j+1) (by omega) hltj rfl
  ·have e:=Q2z (x:=x) (j:=j) hx (by rw [<-hV]; omega);rw [e];refine go tt [.f (decide_eq_false (by omega))] rfl (by simp [Ui] <;> omega) ?_;exact rd (i+1) (by omega) hlt rfl
 rw [Q3h (show i=W.length by omega),<-hG];obtain ⟨C4,hC4⟩:=nmE (C3++(Ls W).map (Im sg'));rw [<-hC4];refine go tt [.f (decide_eq_false (by omega))] rfl trivial ?_;refine ozM 0 13 50 3 rfl rfl ?_;have eT:([]:List (List LV))=Bb ((Mx 0 W).filter (isT T G)):=rfl;rw [eT];refine lp (S:=Nat) 6 (λL1 i=>(174,.v (.one (.int .i64 (i:Int))))::L1) (λi=>[.blk 86 [.bool false,.nils,.bool false,.nils,.bool false,.nils,.bool false,.nils,.bool false,.nils,.nils,.int .i64 0,.row (Ut l),.orow 5 3 none],.blk 79 (ta a),.row false 99 7 (Fa C4),.mpb T,.mpb G,.row false 50 3 (Bb ((Mx i W).filter (isT T G)))]) (λi=>W.length-i) (λi=>i<=W.length) 0 (Qh _) rfl (λ_ _=>rfl) rfl λi hi=>?_
 by_cases hlt:i<W.length
 ·obtain ⟨x,hx⟩:=gxE (l:=W) (i:=i) hlt;obtain ⟨V,hV⟩:=nmE (W.drop (i+1));have hVl:V.length=W.length-(i+1):=by rw [hV,Z0]
  have eV:(Ut W).drop (i+1)=Ut V:=by rw [hdr,<-hV]
  have hVr:=Tl V;rw [<-Qar W x i];refine go tt [.t (decide_eq_true (by omega)),.x (Hb hx),.r 181 (eI (b:=((i+1:Nat):Int)) (by omega)),.i (i+1),.r 182 (En eV)] rfl (by simp only [Ui]; (repeat' apply And.intro) <;> first | omega | exact hel) ?_;refine lp (S:=Nat) 7 (λL1 j=>(184,.v (.one (.int .i64 (j:Int))))::L1) (λj=>[.blk 86 [.bool false,.nils,.bool false,.nils,.bool false,.nils,.bool false,.nils,.bool false,.nils,.nils,.int .i64 0,.row (Ut l),.orow 5 3 none],.blk 79 (ta a),.row false 99 7 (Fa C4),.mpb T,.mpb G,.row false 50 3 (Bb ((p3j W x i j).filter (isT T G))),.blk 114 (G0 x)]) (λj=>V.length-j) (λj=>j<=V.length) 0 (Qh _) rfl (λ_ _=>rfl) rfl λj hj=>?_
  by_cases hltj:j<V.length
  ·obtain ⟨y,hy⟩:=gxE (l:=V) (i:=j) hltj;have hy':(W.drop (i+1))[j]? = some y:=by rw [<-hV]; exact hy
   obtain ⟨U,hU⟩:=nmE (V.drop (j+1));have hUl:U.length=V.length-(j+1):=by rw [hU,Z0]
   have hUW:U=(W.drop (i+1)).drop (j+1):=by rw [hU,hV]
   have eU:(Ut W).drop (i+j+2)=Ut U:=by rw [hdr,hU,hV,Ja]; congr 2; omega
   have hUr:=Tl U;rw [<-Qat W x y i j];refine go tt [.t (decide_eq_true (by omega)),.x (Hb hy),.r 193 (eI (b:=((i+j+2:Nat):Int)) (by omega)),.i (i+j+2),.r 194 (En eU)] rfl (by simp only [Ui]; (repeat' apply And.intro) <;> first | omega | exact hel) ?_;refine lp (S:=Nat) 8 (λL1 k=>(196,.v (.one (.int .i64 (k:Int))))::L1) (λk=>[.blk 86 [.bool false,.nils,.bool false,.nils,.bool false,.nils,.bool false,.nils,.bool false,.nils,.nils,.int .i64 0,.row (Ut l),.orow 5 3 none],.blk 79 (ta a),.row false 99 7 (Fa C4),.mpb T,.mpb G,.row false 50 3 (Bb ((p3k W x y i j k).filter (isT T G))),.blk 114 (G0 x),.blk 114 (G0 y)]) (λk=>U.length-k) (λk=>k<=U.length) 0 (Qh _) rfl (λ_ _=>rfl) rfl λk hk=>?_
   by_cases hltk:k<U.length
   ·obtain ⟨z,hz⟩:=gxE (l:=U) (i:=k) hltk;have hlen:=Qi9 hW6 (k:=k) hx hy';have en:=Qas (x:=x) (y:=y) (by rw [<-hUW]; exact hz);have hfl:=Vu (isT T G) (p3k W x y i j k);have htl:=A9 ((p3k W x y i j k).filter (isT T G));by_cases h1:I0 T [x.id,y.id,z.id]≠0
    ·by_cases h2:Qdu G [x.id,y.id,z.id]=true
     ·have ef:isT T G (x,y,z)=false:=by unfold isT Qmz; simp [h2]
      have eF:=Qqq (ps:=p3k W x y i j k) ef;rw [<-en] at eF;refine go tt [.t (decide_eq_true (by omega)),.x (Hb hz),.g 211 true (decide_eq_true h1),.f (by rw [h2]; rfl)] rfl (by simp only [Ui]; (repeat' apply And.intro) <;> first | exact hTm | exact hGB | omega | (simp only [Q6,Jc]; omega)) ?_;exact rd (k+1) (by omega) hltk (by rw [eF]; rfl)
     ·have h2:Qdu G [x.id,y.id,z.id]=false:=by simpa using h2
      have ef:isT T G (x,y,z)=true:=by unfold isT Qmz; simp [h2,h1]
      have eF:=Q9v (ps:=p3k W x y i j k) ef;rw [<-en] at eF;refine go tt [.t (decide_eq_true (by omega)),.x (Hb hz),.g 211 true (decide_eq_true h1),.t (by rw [h2]; rfl),.s (sz:=3) (s3 (x,y,z))] rfl (by simp only [Ui]; (repeat' apply And.intro) <;> first | exact hTm | exact hGB | omega | (simp only [Q6,Jc]; omega)) ?_;exact rd (k+1) (by omega) hltk (by rw [eF]; simp [Bb]; rfl)
    ·have ef:isT T G (x,y,z)=false:=by unfold isT Qmz; simp [h1]
     have eF:=Qqq (ps:=p3k W x y i j k) ef;rw [<-en] at eF;refine go tt [.t (decide_eq_true (by omega)),.x (Hb hz),.g 211 false (decide_eq_false h1),.f rfl] rfl (by simp only [Ui]; (repeat' apply And.intro) <;> first | exact hTm | exact hGB | omega | (simp only [Q6,Jc]; omega)) ?_;exact rd (k+1) (by omega) hltk (by rw [eF]; rfl)
   ·have e:=Qev (x:=x) (k:=k) hy' (by rw [<-hUW]; omega);rw [e];refine go tt [.f (decide_eq_false (by omega))] rfl (by simp [Ui] <;> omega) ?_;exact rd (j+1) (by omega) hltj rfl
  ·have e:=Qet (x:=x) (j:=j) hx (by rw [<-hV]; omega);rw [e];refine go tt [.f (decide_eq_false (by omega))] rfl (by simp [Ui] <;> omega) ?_;exact rd (i+1) (by omega) hlt rfl
 rw [Qjl (show i=W.length by omega)];rw [hC4,hC3];exact ed tt [2,5] [0] [.f (decide_eq_false (by omega))] rfl trivial
end Orr
namespace Orr
open Go Go.Proofs Orq
theorem Zcp {x y:Int} (hx:-9223372036854775808<=x/\x<=9223372036854775807) (hy:-9223372036854775808<=y/\y<=9223372036854775807):Sc (Qpc x y):=⟨Crv.nml _,((Qto hx hy).norm (by decide)).mono (by decide) (by decide)⟩
theorem Sc.pt {p:Pt} (h:Sc p.c):Qws 4294967294 1073741824 p:=⟨h.n,h.c.mono (by decide) (by decide)⟩
end Orr
namespace Orr
open Go Go.Proofs Orq
set_option maxRecDepth 10000
theorem Znr {T:Nat} {t:Rat} {Bc:Tm->List Ct} {Br:Tm->List (List LV)} {r0:List (List LV)} (ht:Qs 1640000 t) (hB:BuildOk Bc)
 (hb:∀ a c r1,Va a->CrOk c->Ht Tryz.prog 61 [.one (.ow 0 0),.agg (ta a)] [.blk T (M3 c r0 r1)] [.one (.row (Fa (Bc a)))] [.blk T (M3 c r0 (Br a))])
 {K:Nat} {c c':Cr} {r1 r1':List (List LV)} {n:Int} (hc:CrOk c) (hev:0<=c.ev/\c.ev+K<=1000000000000000000) (h:U0 c.now t<=0) (hg:goF Bc Br t K c r1 0=some (c',r1',n)) :
 Ht Tryz.prog 59 [.one (.ow 0 0),.agg (rl t),.one (.ofn 61 [.ow 0 0] [])] [.blk T (M3 c r0 r1)] [.one (.int .i64 n),.one (.int .i64 0)] [.blk T (M3 c' r0 r1')]:=by
 have qt:Qb t:=ht.mono (by decide);have c1:=Qjx hc.n.tb qt;refine Gm Tryz.func59 rfl ?_;refine go tt [.c [0] (Qxb hc.n),.c [] c1,.f (by simpa using h)] rfl trivial ?_;refine lp (S:=Nat×Cr×List (List LV)×Int) 2 (λL1 s=>(8,.v (.one (.int .i64 s.2.2.2)))::L1) (λs=>[.blk T (M3 s.2.1 r0 s.2.2.1),.blk 74 (rl t)]) (λs=>s.1) (λs=>CrOk s.2.1/\(0<=s.2.1.ev/\s.2.1.ev+s.1<=1000000000000000000)/\(0<=s.2.2.2/\s.2.2.2+s.1<=1000000000000000000)/\goF Bc Br t s.1 s.2.1 s.2.2.1 s.2.2.2=some (c',r1',n)) (K,c,r1,0) ⟨hc,hev,⟨Int.le_refl 0,by dsimp only; omega⟩,hg⟩ rfl (λ_ _=>rfl) rfl λ⟨k,x,r,m⟩ ⟨j1,j2,j3,j4⟩=>?_
 dsimp only at j1 j2 j3 j4 ⊢;cases k with
 | zero=>cases j4
 |
  succ k =>
  simp only [goF] at j4;obtain ⟨ws,w1,j4⟩:=Qf.1 j4;obtain ⟨o,o1,j4⟩:=Qf.1 j4;have cn:=Qpw (T:=T) (r0:=r0) (r1:=r) j1 w1 o1;have ca:=Zja (Ul t.num) (Ul (t.den:Int)) (Qc ht.1 (by decide)) (Qc ht.2 (by decide)) (by rw [I9]; exact ht.mono (by decide));rw [I9] at ca;cases o with
  |
   none =>
   injection j4 with j4; injection j4 with e1 j4; injection j4 with e2 e3;subst e1; subst e2; subst e3;exact ed tt [] [0] [.c [0] cn,.g 25 true rfl,.t rfl,.c [] ca] rfl trivial
  |
   some a =>
   have ha:=Zl3 j1 w1 o1;dsimp only at j4;have cc:=Qjx ha.tb qt;by_cases h0:0<U0 a t
   ·rw [if_pos h0] at j4;injection j4 with j4; injection j4 with e1 j4; injection j4 with e2 e3;subst e1; subst e2; subst e3;exact ed tt [] [0] [.c [0] cn,.g 25 false rfl,.c [] cc,.t (by simpa using h0),.c [] ca] rfl trivial
   ·rw [if_neg h0] at j4;obtain ⟨w2,l1,j4⟩:=Qf.1 j4;have j1':=Qbr j1 w1;have cl:=Af (b:=a) (l:=[]) ha.tb (λt ht=>by cases ht) (by decide) rfl;have cb:=hb a { x with l:=ws } r ha j1';have cy:=Zex (T:=T) (r0:=r0) (r1:=Br a) j1' ha (hB.p a ha) (hB.n a ha) l1;have hf:decide (0<U0 a t)=false:=by simpa using h0
    refine go tt [.c [0] cn,.g 25 false rfl,.c [] cc,.f hf,.c [] cl,.c [0] cb,.c [0] cy] rfl (by simp [Ui]; omega) ?_;exact rd (k,⟨a,w2,x.ev+1⟩,Br a,m+1) (by dsimp only; omega) ⟨lay_ok _ j1' ha (hB.p a ha) (hB.n a ha) l1,by dsimp only; omega,by dsimp only; omega,j4⟩ rfl
theorem Q0s {zs:List (List LV)} {qs l:List Pt} {x y x' y':LV} {n d:Int} (hz:IsPts 4294967294 1073741824 zs qs) (hq:qs.length≤6) (hnl:Ts [] qs=(l,0)) (hl:∀ p∈l,Sc p.c) (hn:l.length≤6) (h1:Hu x y n) (h2:Hu x' y' d) (bn:Uv n≤4294967295) (bd:Uv d≤4294967295) (ht:Qs 1640000 (Gb n d)) :
 Ht Tryz.prog 46 [.agg [x,y,x',y'],.one (.row zs)] [] [.one (.ow 0 0),.one (.int .i64 0)] [.blk 86 (M3 (Q65 l (tq (Gb n d))) (Ut l) (brD l (tq (Gb n d))))]:=by
 have cn:=Znt hz hq;rw [hnl] at cn;have co:=Zja h1 h2 bn bd (ht.mono (by decide));have hv:=Zdr ht;have hB:=Qwx hl hn;have cb:=Q38 hl hn hv;have cg:=Q4d (T:=86) (r0:=Ut l) (r1:=brD l (tq (Gb n d))) hv (hB.p _ hv) (hB.n _ hv);obtain ⟨b,l1,rfl,rfl,_⟩:=h1;obtain ⟨b',l2,rfl,rfl,_⟩:=h2;refine Gm Tryz.func46 rfl ?_;exact ed tt [] [2] [.c [] cn,.f rfl,.c [] co,.c [2] cb,.c [2] cg] rfl trivial
theorem Q69 {t:Rat} {l:List Pt} {K:Nat} {c c':Cr} {r1 r1':List (List LV)} {n:Int} (ht:Qs 1640000 t) (hl:∀ p∈l,Sc p.c) (hn:l.length≤6) (hc:CrOk c) (hev:0≤c.ev/\c.ev+K≤1000000000000000000) (h:U0 c.now t≤0) (hg:goF (bcD l) (brD l) t K c r1 0=some (c',r1',n)) :
 Ht Tryz.prog 18 [.one (.ow 0 0),.agg (rl t)] [.blk 86 (M3 c (Ut l) r1)] [.one (.int .i64 n),.one (.int .i64 0)] [.blk 86 (M3 c' (Ut l) r1')]:=by
 have cg:=Znr (T:=86) (r0:=Ut l) ht (Qwx hl hn) (λa c r1 ha _=>Q39 (c:=c) (r1:=r1) hl hn ha) hc hev h hg;refine Gm Tryz.func18 rfl ?_;exact ed tt [] [0] [.c [] (Ik (ht.mono (by decide))),.c [0] cg] rfl trivial
abbrev Bv (e:Int×Int):List LV:=[.int .i64 e.1,.int .i64 e.2]
def Ca (l:List (Int×Int)):List (List LV):=l.map Bv
theorem Gy (l:List (Int×Int)):(Ca l).length=l.length:=by simp [Ca]
theorem Qd5 {l:List (Int×Int)} {i:Nat} {e:Int×Int} (h:l[i]? = some e):(Ca l)[i]? = some (Bv e):=Gh h
theorem Qbl (l:List (Int×Int)):∀ c∈Ca l,c.length=2:=λc hc=>by
 obtain ⟨x,_,rfl⟩:=Za.1 hc; rfl
def Bi (a b:Int×Int):Bool:=decide (a.1<b.1) || (decide (a.1=b.1) && decide (a.2<b.2))
def Cy (e:Int×Int):List (Int×Int)->Nat
 | []=>0
 | x::l=>if Bi x e=true then Cy e l+1 else 0
theorem Qey (e:Int×Int):∀ l,Cy e l<=l.length
 | []=>Qm _
 |
  x::l=>by
  have:=Qey e l;simp only [Cy,Q6]
  split <;> omega
theorem Qrn {e x:Int×Int} {l:List (Int×Int)} {k:Nat} (hx:l[k]? = some x) (h:Bi x e=true):Cy e (l.drop k)=Cy e (l.drop (k+1))+1:=by
 obtain ⟨hk,hx⟩:=Qd.1 hx;rw [Zl hk,hx];simp only [Cy,h,if_true]
theorem Qlt {e x:Int×Int} {l:List (Int×Int)} {k:Nat} (hx:l[k]? = some x) (h:Bi x e=false):Cy e (l.drop k)=0:=by
 obtain ⟨hk,hx⟩:=Qd.1 hx;rw [Zl hk,hx];simp [Cy,h]
theorem Qls {e:Int×Int} {l:List (Int×Int)} {k:Nat} (h:¬k<l.length):Cy e (l.drop k)=0:=by
 rw [Yx (by omega)]; rfl
def An (out:List (Int×Int)) (e:Int×Int):List (Int×Int):=if out[Cy e out]? = some e then out else out.take (Cy e out)++e::out.drop (Cy e out)
theorem Ao (out:List (Int×Int)) (e:Int×Int):(An out e).length<=out.length+1:=by
 have:=Qey e out;unfold An
 split
 ·omega
 ·simp; omega
def Qc0 (out:List (Int×Int)) (m:P3):List (Int×Int):=An (An (An out (m.1.id,m.2.1.id)) (m.1.id,m.2.2.id)) (m.2.1.id,m.2.2.id)
def Cw (ts:List P3):List (Int×Int):=ts.foldl Qc0 []
theorem Qt0 {ts:List P3} {i:Nat} {m:P3} (h:ts[i]? = some m):Cw (ts.take (i+1))=Qc0 (Cw (ts.take i)) m:=by
 rw [Zw,h]; simp [Cw,Y6]
theorem Qx7 (out:List (Int×Int)) (m:P3):(Qc0 out m).length<=out.length+3:=by
 have h1:=Ao out (m.1.id,m.2.1.id);have h2:=Ao (An out (m.1.id,m.2.1.id)) (m.1.id,m.2.2.id);have h3:=Ao (An (An out (m.1.id,m.2.1.id)) (m.1.id,m.2.2.id)) (m.2.1.id,m.2.2.id);unfold Qc0; omega
theorem Qcz:∀ (ts:List P3) (out:List (Int×Int)),(ts.foldl Qc0 out).length<=out.length+3*ts.length
 | [],out=>by simp
 |
  m::ts,out=>by
  have h1:=Qcz ts (Qc0 out m);have h2:=Qx7 out m;simp only [Xe,Q6]; omega
theorem Mh {O:List (Int×Int)} {z:List LV} {e:Int×Int} {k m:Nat} {l2:List (List LV)} (hk:k<=O.length) (hp:Cy e O=k) (hne:O[k]? ≠ some e) (hm:m=O.length-k) (h2:l2.take m=((Ca O++[z]).drop k).take m) :
 ((Ca O++[z]).take (k+1)++(l2.take m++(Ca O++[z]).drop (k+1+m))).set k (Bv e)=Ca (An O e):=by
 rw [h2,<-Zg,Quh (Ca O) z (Bv e) (by rw [Gy]; omega) (by rw [Gy]; omega)];simp [An,hp,hne,Ca,Yn,Ws]
theorem Qcr {c:Cr} {r0:List (List LV)} {ts:List P3} (ht:ts.length<=1000):Ht Tryz.prog 10 [.one (.ow 0 0)] [.blk 86 (M3 c r0 (Bb ts))] [.one (.row (Bb ts))] [.blk 86 (M3 c r0 (Bb ts))]:=by
 have hl:=A9 ts;have h3:∀ y∈Bb ts,y.length=3:=λy hy=>by obtain ⟨m,_,rfl⟩:=Za.1 hy; rfl
 refine Gm Tryz.func10 rfl ?_;exact ed tt [1] [0] [.s (sz:=3) h3] rfl (by simp [Ui] <;> omega)
set_option maxHeartbeats 8000000 in
theorem Qjy {c:Cr} {r0:List (List LV)} {ts:List P3} (ht:ts.length<=1000):Ht Tryz.prog 58 [.one (.ow 0 0)] [.blk 86 (M3 c r0 (Bb ts))] [.one (.row (Ca (Cw ts)))] [.blk 86 (M3 c r0 (Bb ts))]:=by
 have hl:=A9 ts;refine Gm Tryz.func58 rfl ?_;refine go tt [.o 3 143 2] rfl trivial ?_;refine lp (S:=Nat) 2 (λL1 i=>(14,.v (.one (.int .i64 (i:Int))))::(3,.v (.one (.orow 1 2 none)))::L1) (λi=>[.blk 86 (M3 c r0 (Bb ts)),.row false 143 2 (Ca (Cw (ts.take i)))]) (λi=>ts.length-i) (λi=>i<=ts.length) 0 (Qh _) rfl (λ_ _=>rfl) rfl λi hi=>?_
 by_cases hlt:i<ts.length
 ·obtain ⟨m,hm⟩:=gxE (l:=ts) (i:=i) hlt;have hst:=Qt0 hm;have hEl:=Qcz (ts.take i) [];have htk:(ts.take i).length<=1000:=by rw [Qx]; omega
  obtain ⟨G,hG⟩:=nmE (Cw (ts.take i));have hGl:G.length<=3000:=by rw [hG]; unfold Cw; simp only [List.length_nil] at hEl; omega
  rw [<-hG] at hst ⊢;obtain ⟨g,hg⟩:∃ g:Nat->List (Int×Int),g=λk=>([(m.1.id,m.2.1.id),(m.1.id,m.2.2.id),(m.2.1.id,m.2.2.id)].take k).foldl An G:=⟨_,rfl⟩
  have g0:g 0=G:=by rw [hg]; rfl
  have g1:g 1=An (g 0) (m.1.id,m.2.1.id):=by rw [hg]; rfl
  have g2:g 2=An (g 1) (m.1.id,m.2.2.id):=by rw [hg]; rfl
  have g3:g 3=An (g 2) (m.2.1.id,m.2.2.id):=by rw [hg]; rfl
  have g4:g 3=Qc0 G m:=by rw [hg]; rfl
  clear hg;have l1:=Ao (g 0) (m.1.id,m.2.1.id);have l2:=Ao (g 1) (m.1.id,m.2.2.id);have l3:=Ao (g 2) (m.2.1.id,m.2.2.id);rw [<-g1] at l1;rw [<-g2] at l2;rw [<-g3] at l3;rw [<-g4] at hst;rw [<-g0] at hGl ⊢;refine go tt [.t (decide_eq_true (by omega)),.x (Qmj hm),.i 0,.i 1,.i 0,.i 2,.i 1,.i 2] rfl (by simp [Ui]) ?_;refine lp (S:=Nat) 3 (λL1 k=>(34,.v (.one (.int .i64 (k:Int))))::(3,.v (.one (.orow 1 2 none)))::L1) (λk=>[.blk 86 (M3 c r0 (Bb ts)),.row false 143 2 (Ca (g k)),.blk 50 (trL m)]) (λk=>3-k) (λk=>k<=3) 0 (by decide) rfl (λ_ _=>rfl) rfl λk hk=>?_
  rcases (show k=0\/k=1\/k=2\/k=3 by omega) with rfl | rfl | rfl | rfl
  ·obtain ⟨e,he⟩:∃ e:Int×Int,e=(m.1.id,m.2.1.id):=⟨_,rfl⟩;have gs:g 1=An (g 0) e:=by rw [he]; exact g1
   have hOl:(g 0).length<=4000:=by omega
   obtain ⟨O,hO⟩:=nmE (g 0);rw [<-hO] at gs hOl ⊢;have e1:m.1.id=e.1:=by rw [he]
   have e2:m.2.1.id=e.2:=by rw [he]
   rw [show Ca O=Ca O from rfl];refine go tt [.t rfl,.i 0] rfl (by simp [Ui]) ?_;rw [e1,e2];have hpl:=Qey e O;have hol:=Gy O;refine lp (S:=Nat) 4 (λL1 j=>(8,.v (.one (.int .i64 (j:Int))))::L1) (λ_=>[.blk 86 (M3 c r0 (Bb ts)),.row false 143 2 (Ca O),.blk 50 (trL m),.blk 143 (Bv e)]) (λj=>O.length-j) (λj=>j<=O.length/\Cy e (O.drop j)+j=Cy e O) 0 ⟨Qh _,by rw [Xs]; rfl⟩ rfl (λ_ _=>rfl) rfl λj ⟨hj,hp⟩=>?_
   by_cases hjl:j<O.length
   ·obtain ⟨x,hx⟩:=gxE (l:=O) (i:=j) hjl;have hxe:=Qd5 hx;by_cases hle:Bi x e=true
    ·have hp':=Qrn hx hle;by_cases c1:x.1<e.1
     ·refine go tt [.g 41 true (decide_eq_true (by omega)),.i j,.i 0,.x hxe,.i 0,.g 50 true (decide_eq_true c1),.t rfl] rfl (by simp [Ui] <;> omega) ?_;exact rd (j+1) (by omega) ⟨hjl,by omega⟩ rfl
     ·have hc:x.1=e.1/\x.2<e.2:=by unfold Bi at hle; simpa [c1] using hle
      refine go tt [.g 41 true (decide_eq_true (by omega)),.i j,.i 0,.x hxe,.i 0,.g 50 false (decide_eq_false c1),.i j,.i 0,.x hxe,.i 0,.g 59 true (decide_eq_true hc.1),.i j,.i 1,.x hxe,.i 1,.t (decide_eq_true hc.2)] rfl (by simp [Ui] <;> omega) ?_;exact rd (j+1) (by omega) ⟨hjl,by omega⟩ rfl
    ·have hle:Bi x e=false:=by simpa using hle
     have hp':=Qlt hx hle;have hpj:Cy e O=j:=by omega
     have c1:¬x.1<e.1:=λh=>by unfold Bi at hle; simp [h] at hle
     have out:∀ {Q:Prop},(x.1=e.1->¬x.2<e.2->Q)->(x.1≠e.1->Q)->Q:=λh1 h2=>by
      by_cases h:x.1=e.1
      ·exact h1 h λh'=>by unfold Bi at hle; simp [h,h'] at hle
      ·exact h2 h
     by_cases heq:x=e
     ·have gs':g 1=O:=by rw [gs]; unfold An; rw [hpj,hx,heq,if_pos rfl]
      have c2:x.1=e.1:=by rw [heq]
      have c3:¬x.2<e.2:=by rw [heq]; exact Wq _
      refine go tt [.g 41 true (decide_eq_true (by omega)),.i j,.i 0,.x hxe,.i 0,.g 50 false (decide_eq_false c1),.i j,.i 0,.x hxe,.i 0,.g 59 true (decide_eq_true c2),.i j,.i 1,.x hxe,.i 1,.f (decide_eq_false c3),.g 77 true (decide_eq_true (by omega)),.i j,.x hxe,.t (decide_eq_true (by rw [heq]))] rfl (by simp [Ui] <;> omega) ?_;exact rd 1 (by omega) (by omega) (by rw [gs']; rfl)
     ·have hne:O[j]? ≠ some e:=λh=>by rw [hx] at h; injection h with h; exact heq h
      have hneL:¬[x.1,x.2]=[e.1,e.2]:=λh=>by simp at h; exact heq (Prod.ext h.1 h.2)
      have hz:∀ y∈[Bv e],y.length=2:=λy hy=>by rw [Ql.1 hy]; rfl
      have h22:∀ y∈Ca O++[Bv e],y.length=2:=λy hy=>by
       rcases Qw.1 hy with hy | hy
       ·exact Qbl O y hy
       ·exact hz y hy
      cases j with
      |
       zero =>
       have fz:=Mh (z:=Bv e) (l2:=(Ca O++[Bv e]).take ((Ca O++[Bv e]).length-0)) (k:=0) (m:=O.length) (by omega) hpj hne (by omega) (by congr 1; exact Qk (by simp));refine out (λc2 c3=>?_) λc2=>?_
       ·refine go tt [.g 41 true (decide_eq_true (by omega)),.i 0,.i 0,.x hxe,.i 0,.g 50 false (decide_eq_false c1),.i 0,.i 0,.x hxe,.i 0,.g 59 true (decide_eq_true c2),.i 0,.i 1,.x hxe,.i 1,.f (decide_eq_false c3),.g 77 true (decide_eq_true (by omega)),.i 0,.x hxe,.f (decide_eq_false hneL),.s (sz:=2) hz,.r 91 (eI (b:=((0+1:Nat):Int)) (by simp)),.i (0+1),.i 0,.s (sz:=2) (λy hy=>h22 y (Qn hy)),.i (O.length),.i 0] rfl (by simp [Ui,Gy] <;> omega) ?_;exact rd 1 (by omega) (by omega) (by rw [gs,<-fz]; rfl)
       ·refine go tt [.g 41 true (decide_eq_true (by omega)),.i 0,.i 0,.x hxe,.i 0,.g 50 false (decide_eq_false c1),.i 0,.i 0,.x hxe,.i 0,.g 59 false (decide_eq_false c2),.f rfl,.g 77 true (decide_eq_true (by omega)),.i 0,.x hxe,.f (decide_eq_false hneL),.s (sz:=2) hz,.r 91 (eI (b:=((0+1:Nat):Int)) (by simp)),.i (0+1),.i 0,.s (sz:=2) (λy hy=>h22 y (Qn hy)),.i (O.length),.i 0] rfl (by simp [Ui,Gy] <;> omega) ?_;exact rd 1 (by omega) (by omega) (by rw [gs,<-fz]; rfl)
      |
       succ j =>
       have fz:=Mh (z:=Bv e) (l2:=((Ca O++[Bv e]).drop (j+1)).take ((Ca O++[Bv e]).length-(j+1))) (k:=j+1) (m:=O.length-(j+1)) (by omega) hpj hne (by omega) (by congr 1; exact Qk (by simp));refine out (λc2 c3=>?_) λc2=>?_
       ·refine go tt [.g 41 true (decide_eq_true (by omega)),.i (j+1),.i 0,.x hxe,.i 0,.g 50 false (decide_eq_false c1),.i (j+1),.i 0,.x hxe,.i 0,.g 59 true (decide_eq_true c2),.i (j+1),.i 1,.x hxe,.i 1,.f (decide_eq_false c3),.g 77 true (decide_eq_true (by omega)),.i (j+1),.x hxe,.f (decide_eq_false hneL),.s (sz:=2) hz,.r 91 (eI (b:=((j+1+1:Nat):Int)) (by simp)),.i (j+1+1),.i (j+1),.s (sz:=2) (λy hy=>h22 y (Q0 (Qn hy))),.i (O.length-(j+1)),.i (j+1)] rfl (by simp [Ui,Gy] <;> omega) ?_;exact rd 1 (by omega) (by omega) (by rw [gs,<-fz]; rfl)
       ·refine go tt [.g 41 true (decide_eq_true (by omega)),.i (j+1),.i 0,.x hxe,.i 0,.g 50 false (decide_eq_false c1),.i (j+1),.i 0,.x hxe,.i 0,.g 59 false (decide_eq_false c2),.f rfl,.g 77 true (decide_eq_true (by omega)),.i (j+1),.x hxe,.f (decide_eq_false hneL),.s (sz:=2) hz,.r 91 (eI (b:=((j+1+1:Nat):Int)) (by simp)),.i (j+1+1),.i (j+1),.s (sz:=2) (λy hy=>h22 y (Q0 (Qn hy))),.i (O.length-(j+1)),.i (j+1)] rfl (by simp [Ui,Gy] <;> omega) ?_;exact rd 1 (by omega) (by omega) (by rw [gs,<-fz]; rfl)
   ·have hpj:Cy e O=j:=by have:=Qls (e:=e) hjl; omega
    have hne:O[j]? ≠ some e:=λh=>hjl (Qd.1 h).1
    have hz:∀ y∈[Bv e],y.length=2:=λy hy=>by rw [Ql.1 hy]; rfl
    have h22:∀ y∈Ca O++[Bv e],y.length=2:=λy hy=>by
     rcases Qw.1 hy with hy | hy
     ·exact Qbl O y hy
     ·exact hz y hy
    cases j with
    |
     zero =>
     have fz:=Mh (z:=Bv e) (l2:=(Ca O++[Bv e]).take ((Ca O++[Bv e]).length-0)) (k:=0) (m:=O.length) (by omega) hpj hne (by omega) (by congr 1; exact Qk (by simp));refine go tt [.g 41 false (decide_eq_false (by omega)),.f rfl,.g 77 false (decide_eq_false (by omega)),.f rfl,.s (sz:=2) hz,.r 91 (eI (b:=((0+1:Nat):Int)) (by simp)),.i (0+1),.i 0,.s (sz:=2) (λy hy=>h22 y (Qn hy)),.i (O.length),.i 0] rfl (by simp [Ui,Gy] <;> omega) ?_;exact rd 1 (by omega) (by omega) (by rw [gs,<-fz]; rfl)
    |
     succ j =>
     have fz:=Mh (z:=Bv e) (l2:=((Ca O++[Bv e]).drop (j+1)).take ((Ca O++[Bv e]).length-(j+1))) (k:=j+1) (m:=O.length-(j+1)) (by omega) hpj hne (by omega) (by congr 1; exact Qk (by simp));refine go tt [.g 41 false (decide_eq_false (by omega)),.f rfl,.g 77 false (decide_eq_false (by omega)),.f rfl,.s (sz:=2) hz,.r 91 (eI (b:=((j+1+1:Nat):Int)) (by simp)),.i (j+1+1),.i (j+1),.s (sz:=2) (λy hy=>h22 y (Q0 (Qn hy))),.i (O.length-(j+1)),.i (j+1)] rfl (by simp [Ui,Gy] <;> omega) ?_;exact rd 1 (by omega) (by omega) (by rw [gs,<-fz]; rfl)
  ·obtain ⟨e,he⟩:∃ e:Int×Int,e=(m.1.id,m.2.2.id):=⟨_,rfl⟩;have gs:g 2=An (g 1) e:=by rw [he]; exact g2
   have hOl:(g 1).length<=4000:=by omega
   obtain ⟨O,hO⟩:=nmE (g 1);rw [<-hO] at gs hOl ⊢;have e1:m.1.id=e.1:=by rw [he]
   have e2:m.2.2.id=e.2:=by rw [he]
   rw [show Ca O=Ca O from rfl];refine go tt [.t rfl,.i 1] rfl (by simp [Ui]) ?_;rw [e1,e2];have hpl:=Qey e O;have hol:=Gy O;refine lp (S:=Nat) 4 (λL1 j=>(8,.v (.one (.int .i64 (j:Int))))::L1) (λ_=>[.blk 86 (M3 c r0 (Bb ts)),.row false 143 2 (Ca O),.blk 50 (trL m),.blk 143 (Bv e)]) (λj=>O.length-j) (λj=>j<=O.length/\Cy e (O.drop j)+j=Cy e O) 0 ⟨Qh _,by rw [Xs]; rfl⟩ rfl (λ_ _=>rfl) rfl λj ⟨hj,hp⟩=>?_
   by_cases hjl:j<O.length
   ·obtain ⟨x,hx⟩:=gxE (l:=O) (i:=j) hjl;have hxe:=Qd5 hx;by_cases hle:Bi x e=true
    ·have hp':=Qrn hx hle;by_cases c1:x.1<e.1
     ·refine go tt [.g 41 true (decide_eq_true (by omega)),.i j,.i 0,.x hxe,.i 0,.g 50 true (decide_eq_true c1),.t rfl] rfl (by simp [Ui] <;> omega) ?_;exact rd (j+1) (by omega) ⟨hjl,by omega⟩ rfl
     ·have hc:x.1=e.1/\x.2<e.2:=by unfold Bi at hle; simpa [c1] using hle
      refine go tt [.g 41 true (decide_eq_true (by omega)),.i j,.i 0,.x hxe,.i 0,.g 50 false (decide_eq_false c1),.i j,.i 0,.x hxe,.i 0,.g 59 true (decide_eq_true hc.1),.i j,.i 1,.x hxe,.i 1,.t (decide_eq_true hc.2)] rfl (by simp [Ui] <;> omega) ?_;exact rd (j+1) (by omega) ⟨hjl,by omega⟩ rfl
    ·have hle:Bi x e=false:=by simpa using hle
     have hp':=Qlt hx hle;have hpj:Cy e O=j:=by omega
     have c1:¬x.1<e.1:=λh=>by unfold Bi at hle; simp [h] at hle
     have out:∀ {Q:Prop},(x.1=e.1->¬x.2<e.2->Q)->(x.1≠e.1->Q)->Q:=λh1 h2=>by
      by_cases h:x.1=e.1
      ·exact h1 h λh'=>by unfold Bi at hle; simp [h,h'] at hle
      ·exact h2 h
     by_cases heq:x=e
     ·have gs':g 2=O:=by rw [gs]; unfold An; rw [hpj,hx,heq,if_pos rfl]
      have c2:x.1=e.1:=by rw [heq]
      have c3:¬x.2<e.2:=by rw [heq]; exact Wq _
      refine go tt [.g 41 true (decide_eq_true (by omega)),.i j,.i 0,.x hxe,.i 0,.g 50 false (decide_eq_false c1),.i j,.i 0,.x hxe,.i 0,.g 59 true (decide_eq_true c2),.i j,.i 1,.x hxe,.i 1,.f (decide_eq_false c3),.g 77 true (decide_eq_true (by omega)),.i j,.x hxe,.t (decide_eq_true (by rw [heq]))] rfl (by simp [Ui] <;> omega) ?_;exact rd 2 (by omega) (by omega) (by rw [gs']; rfl)
     ·have hne:O[j]? ≠ some e:=λh=>by rw [hx] at h; injection h with h; exact heq h
      have hneL:¬[x.1,x.2]=[e.1,e.2]:=λh=>by simp at h; exact heq (Prod.ext h.1 h.2)
      have hz:∀ y∈[Bv e],y.length=2:=λy hy=>by rw [Ql.1 hy]; rfl
      have h22:∀ y∈Ca O++[Bv e],y.length=2:=λy hy=>by
       rcases Qw.1 hy with hy | hy
       ·exact Qbl O y hy
       ·exact hz y hy
      cases j with
      |
       zero =>
       have fz:=Mh (z:=Bv e) (l2:=(Ca O++[Bv e]).take ((Ca O++[Bv e]).length-0)) (k:=0) (m:=O.length) (by omega) hpj hne (by omega) (by congr 1; exact Qk (by simp));refine out (λc2 c3=>?_) λc2=>?_
       ·refine go tt [.g 41 true (decide_eq_true (by omega)),.i 0,.i 0,.x hxe,.i 0,.g 50 false (decide_eq_false c1),.i 0,.i 0,.x hxe,.i 0,.g 59 true (decide_eq_true c2),.i 0,.i 1,.x hxe,.i 1,.f (decide_eq_false c3),.g 77 true (decide_eq_true (by omega)),.i 0,.x hxe,.f (decide_eq_false hneL),.s (sz:=2) hz,.r 91 (eI (b:=((0+1:Nat):Int)) (by simp)),.i (0+1),.i 0,.s (sz:=2) (λy hy=>h22 y (Qn hy)),.i (O.length),.i 0] rfl (by simp [Ui,Gy] <;> omega) ?_;exact rd 2 (by omega) (by omega) (by rw [gs,<-fz]; rfl)
       ·refine go tt [.g 41 true (decide_eq_true (by omega)),.i 0,.i 0,.x hxe,.i 0,.g 50 false (decide_eq_false c1),.i 0,.i 0,.x hxe,.i 0,.g 59 false (decide_eq_false c2),.f rfl,.g 77 true (decide_eq_true (by omega)),.i 0,.x hxe,.f (decide_eq_false hneL),.s (sz:=2) hz,.r 91 (eI (b:=((0+1:Nat):Int)) (by simp)),.i (0+1),.i 0,.s (sz:=2) (λy hy=>h22 y (Qn hy)),.i (O.length),.i 0] rfl (by simp [Ui,Gy] <;> omega) ?_;exact rd 2 (by omega) (by omega) (by rw [gs,<-fz]; rfl)
      |
       succ j =>
       have fz:=Mh (z:=Bv e) (l2:=((Ca O++[Bv e]).drop (j+1)).take ((Ca O++[Bv e]).length-(j+1))) (k:=j+1) (m:=O.length-(j+1)) (by omega) hpj hne (by omega) (by congr 1; exact Qk (by simp));refine out (λc2 c3=>?_) λc2=>?_
       ·refine go tt [.g 41 true (decide_eq_true (by omega)),.i (j+1),.i 0,.x hxe,.i 0,.g 50 false (decide_eq_false c1),.i (j+1),.i 0,.x hxe,.i 0,.g 59 true (decide_eq_true c2),.i (j+1),.i 1,.x hxe,.i 1,.f (decide_eq_false c3),.g 77 true (decide_eq_true (by omega)),.i (j+1),.x hxe,.f (decide_eq_false hneL),.s (sz:=2) hz,.r 91 (eI (b:=((j+1+1:Nat):Int)) (by simp)),.i (j+1+1),.i (j+1),.s (sz:=2) (λy hy=>h22 y (Q0 (Qn hy))),.i (O.length-(j+1)),.i (j+1)] rfl (by simp [Ui,Gy] <;> omega) ?_;exact rd 2 (by omega) (by omega) (by rw [gs,<-fz]; rfl)
       ·refine go tt [.g 41 true (decide_eq_true (by omega)),.i (j+1),.i 0,.x hxe,.i 0,.g 50 false (decide_eq_false c1),.i (j+1),.i 0,.x hxe,.i 0,.g 59 false (decide_eq_false c2),.f rfl,.g 77 true (decide_eq_true (by omega)),.i (j+1),.x hxe,.f (decide_eq_false hneL),.s (sz:=2) hz,.r 91 (eI (b:=((j+1+1:Nat):Int)) (by simp)),.i (j+1+1),.i (j+1),.s (sz:=2) (λy hy=>h22 y (Q0 (Qn hy))),.i (O.length-(j+1)),.i (j+1)] rfl (by simp [Ui,Gy] <;> omega) ?_;exact rd 2 (by omega) (by omega) (by rw [gs,<-fz]; rfl)
   ·have hpj:Cy e O=j:=by have:=Qls (e:=e) hjl; omega
    have hne:O[j]? ≠ some e:=λh=>hjl (Qd.1 h).1
    have hz:∀ y∈[Bv e],y.length=2:=λy hy=>by rw [Ql.1 hy]; rfl
    have h22:∀ y∈Ca O++[Bv e],y.length=2:=λy hy=>by
     rcases Qw.1 hy with hy | hy
     ·exact Qbl O y hy
     ·exact hz y hy
    cases j with
    |
     zero =>
     have fz:=Mh (z:=Bv e) (l2:=(Ca O++[Bv e]).take ((Ca O++[Bv e]).length-0)) (k:=0) (m:=O.length) (by omega) hpj hne (by omega) (by congr 1; exact Qk (by simp));refine go tt [.g 41 false (decide_eq_false (by omega)),.f rfl,.g 77 false (decide_eq_false (by omega)),.f rfl,.s (sz:=2) hz,.r 91 (eI (b:=((0+1:Nat):Int)) (by simp)),.i (0+1),.i 0,.s (sz:=2) (λy hy=>h22 y (Qn hy)),.i (O.length),.i 0] rfl (by simp [Ui,Gy] <;> omega) ?_;exact rd 2 (by omega) (by omega) (by rw [gs,<-fz]; rfl)
    |
     succ j =>
     have fz:=Mh (z:=Bv e) (l2:=((Ca O++[Bv e]).drop (j+1)).take ((Ca O++[Bv e]).length-(j+1))) (k:=j+1) (m:=O.length-(j+1)) (by omega) hpj hne (by omega) (by congr 1; exact Qk (by simp));refine go tt [.g 41 false (decide_eq_false (by omega)),.f rfl,.g 77 false (decide_eq_false (by omega)),.f rfl,.s (sz:=2) hz,.r 91 (eI (b:=((j+1+1:Nat):Int)) (by simp)),.i (j+1+1),.i (j+1),.s (sz:=2) (λy hy=>h22 y (Q0 (Qn hy))),.i (O.length-(j+1)),.i (j+1)] rfl (by simp [Ui,Gy] <;> omega) ?_;exact rd 2 (by omega) (by omega) (by rw [gs,<-fz]; rfl)
  ·obtain ⟨e,he⟩:∃ e:Int×Int,e=(m.2.1.id,m.2.2.id):=⟨_,rfl⟩;have gs:g 3=An (g 2) e:=by rw [he]; exact g3
   have hOl:(g 2).length<=4000:=by omega
   obtain ⟨O,hO⟩:=nmE (g 2);rw [<-hO] at gs hOl ⊢;have e1:m.2.1.id=e.1:=by rw [he]
   have e2:m.2.2.id=e.2:=by rw [he]
   rw [show Ca O=Ca O from rfl];refine go tt [.t rfl,.i 2] rfl (by simp [Ui]) ?_;rw [e1,e2];have hpl:=Qey e O;have hol:=Gy O;refine lp (S:=Nat) 4 (λL1 j=>(8,.v (.one (.int .i64 (j:Int))))::L1) (λ_=>[.blk 86 (M3 c r0 (Bb ts)),.row false 143 2 (Ca O),.blk 50 (trL m),.blk 143 (Bv e)]) (λj=>O.length-j) (λj=>j<=O.length/\Cy e (O.drop j)+j=Cy e O) 0 ⟨Qh _,by rw [Xs]; rfl⟩ rfl (λ_ _=>rfl) rfl λj ⟨hj,hp⟩=>?_
   by_cases hjl:j<O.length
   ·obtain ⟨x,hx⟩:=gxE (l:=O) (i:=j) hjl;have hxe:=Qd5 hx;by_cases hle:Bi x e=true
    ·have hp':=Qrn hx hle;by_cases c1:x.1<e.1
     ·refine go tt [.g 41 true (decide_eq_true (by omega)),.i j,.i 0,.x hxe,.i 0,.g 50 true (decide_eq_true c1),.t rfl] rfl (by simp [Ui] <;> omega) ?_;exact rd (j+1) (by omega) ⟨hjl,by omega⟩ rfl
     ·have hc:x.1=e.1/\x.2<e.2:=by unfold Bi at hle; simpa [c1] using hle
      refine go tt [.g 41 true (decide_eq_true (by omega)),.i j,.i 0,.x hxe,.i 0,.g 50 false (decide_eq_false c1),.i j,.i 0,.x hxe,.i 0,.g 59 true (decide_eq_true hc.1),.i j,.i 1,.x hxe,.i 1,.t (decide_eq_true hc.2)] rfl (by simp [Ui] <;> omega) ?_;exact rd (j+1) (by omega) ⟨hjl,by omega⟩ rfl
    ·have hle:Bi x e=false:=by simpa using hle
     have hp':=Qlt hx hle;have hpj:Cy e O=j:=by omega
     have c1:¬x.1<e.1:=λh=>by unfold Bi at hle; simp [h] at hle
     have out:∀ {Q:Prop},(x.1=e.1->¬x.2<e.2->Q)->(x.1≠e.1->Q)->Q:=λh1 h2=>by
      by_cases h:x.1=e.1
      ·exact h1 h λh'=>by unfold Bi at hle; simp [h,h'] at hle
      ·exact h2 h
     by_cases heq:x=e
     ·have gs':g 3=O:=by rw [gs]; unfold An; rw [hpj,hx,heq,if_pos rfl]
      have c2:x.1=e.1:=by rw [heq]
      have c3:¬x.2<e.2:=by rw [heq]; exact Wq _
      refine go tt [.g 41 true (decide_eq_true (by omega)),.i j,.i 0,.x hxe,.i 0,.g 50 false (decide_eq_false c1),.i j,.i 0,.x hxe,.i 0,.g 59 true (decide_eq_true c2),.i j,.i 1,.x hxe,.i 1,.f (decide_eq_false c3),.g 77 true (decide_eq_true (by omega)),.i j,.x hxe,.t (decide_eq_true (by rw [heq]))] rfl (by simp [Ui] <;> omega) ?_;exact rd 3 (by omega) (by omega) (by rw [gs']; rfl)
     ·have hne:O[j]? ≠ some e:=λh=>by rw [hx] at h; injection h with h; exact heq h
      have hneL:¬[x.1,x.2]=[e.1,e.2]:=λh=>by simp at h; exact heq (Prod.ext h.1 h.2)
      have hz:∀ y∈[Bv e],y.length=2:=λy hy=>by rw [Ql.1 hy]; rfl
      have h22:∀ y∈Ca O++[Bv e],y.length=2:=λy hy=>by
       rcases Qw.1 hy with hy | hy
       ·exact Qbl O y hy
       ·exact hz y hy
      cases j with
      |
       zero =>
       have fz:=Mh (z:=Bv e) (l2:=(Ca O++[Bv e]).take ((Ca O++[Bv e]).length-0)) (k:=0) (m:=O.length) (by omega) hpj hne (by omega) (by congr 1; exact Qk (by simp));refine out (λc2 c3=>?_) λc2=>?_
       ·refine go tt [.g 41 true (decide_eq_true (by omega)),.i 0,.i 0,.x hxe,.i 0,.g 50 false (decide_eq_false c1),.i 0,.i 0,.x hxe,.i 0,.g 59 true (decide_eq_true c2),.i 0,.i 1,.x hxe,.i 1,.f (decide_eq_false c3),.g 77 true (decide_eq_true (by omega)),.i 0,.x hxe,.f (decide_eq_false hneL),.s (sz:=2) hz,.r 91 (eI (b:=((0+1:Nat):Int)) (by simp)),.i (0+1),.i 0,.s (sz:=2) (λy hy=>h22 y (Qn hy)),.i (O.length),.i 0] rfl (by simp [Ui,Gy] <;> omega) ?_;exact rd 3 (by omega) (by omega) (by rw [gs,<-fz]; rfl)
       ·refine go tt [.g 41 true (decide_eq_true (by omega)),.i 0,.i 0,.x hxe,.i 0,.g 50 false (decide_eq_false c1),.i 0,.i 0,.x hxe,.i 0,.g 59 false (decide_eq_false c2),.f rfl,.g 77 true (decide_eq_true (by omega)),.i 0,.x hxe,.f (decide_eq_false hneL),.s (sz:=2) hz,.r 91 (eI (b:=((0+1:Nat):Int)) (by simp)),.i (0+1),.i 0,.s (sz:=2) (λy hy=>h22 y (Qn hy)),.i (O.length),.i 0] rfl (by simp [Ui,Gy] <;> omega) ?_;exact rd 3 (by omega) (by omega) (by rw [gs,<-fz]; rfl)
      |
       succ j =>
       have fz:=Mh (z:=Bv e) (l2:=((Ca O++[Bv e]).drop (j+1)).take ((Ca O++[Bv e]).length-(j+1))) (k:=j+1) (m:=O.length-(j+1)) (by omega) hpj hne (by omega) (by congr 1; exact Qk (by simp));refine out (λc2 c3=>?_) λc2=>?_
       ·refine go tt [.g 41 true (decide_eq_true (by omega)),.i (j+1),.i 0,.x hxe,.i 0,.g 50 false (decide_eq_false c1),.i (j+1),.i 0,.x hxe,.i 0,.g 59 true (decide_eq_true c2),.i (j+1),.i 1,.x hxe,.i 1,.f (decide_eq_false c3),.g 77 true (decide_eq_true (by omega)),.i (j+1),.x hxe,.f (decide_eq_false hneL),.s (sz:=2) hz,.r 91 (eI (b:=((j+1+1:Nat):Int)) (by simp)),.i (j+1+1),.i (j+1),.s (sz:=2) (λy hy=>h22 y (Q0 (Qn hy))),.i (O.length-(j+1)),.i (j+1)] rfl (by simp [Ui,Gy] <;> omega) ?_;exact rd 3 (by omega) (by omega) (by rw [gs,<-fz]; rfl)
       ·refine go tt [.g 41 true (decide_eq_true (by omega)),.i (j+1),.i 0,.x hxe,.i 0,.g 50 false (decide_eq_false c1),.i (j+1),.i 0,.x hxe,.i 0,.g 59 false (decide_eq_false c2),.f rfl,.g 77 true (decide_eq_true (by omega)),.i (j+1),.x hxe,.f (decide_eq_false hneL),.s (sz:=2) hz,.r 91 (eI (b:=((j+1+1:Nat):Int)) (by simp)),.i (j+1+1),.i (j+1),.s (sz:=2) (λy hy=>h22 y (Q0 (Qn hy))),.i (O.length-(j+1)),.i (j+1)] rfl (by simp [Ui,Gy] <;> omega) ?_;exact rd 3 (by omega) (by omega) (by rw [gs,<-fz]; rfl)
   ·have hpj:Cy e O=j:=by have:=Qls (e:=e) hjl; omega
    have hne:O[j]? ≠ some e:=λh=>hjl (Qd.1 h).1
    have hz:∀ y∈[Bv e],y.length=2:=λy hy=>by rw [Ql.1 hy]; rfl
    have h22:∀ y∈Ca O++[Bv e],y.length=2:=λy hy=>by
     rcases Qw.1 hy with hy | hy
     ·exact Qbl O y hy
     ·exact hz y hy
    cases j with
    |
     zero =>
     have fz:=Mh (z:=Bv e) (l2:=(Ca O++[Bv e]).take ((Ca O++[Bv e]).length-0)) (k:=0) (m:=O.length) (by omega) hpj hne (by omega) (by congr 1; exact Qk (by simp));refine go tt [.g 41 false (decide_eq_false (by omega)),.f rfl,.g 77 false (decide_eq_false (by omega)),.f rfl,.s (sz:=2) hz,.r 91 (eI (b:=((0+1:Nat):Int)) (by simp)),.i (0+1),.i 0,.s (sz:=2) (λy hy=>h22 y (Qn hy)),.i (O.length),.i 0] rfl (by simp [Ui,Gy] <;> omega) ?_;exact rd 3 (by omega) (by omega) (by rw [gs,<-fz]; rfl)
    |
     succ j =>
     have fz:=Mh (z:=Bv e) (l2:=((Ca O++[Bv e]).drop (j+1)).take ((Ca O++[Bv e]).length-(j+1))) (k:=j+1) (m:=O.length-(j+1)) (by omega) hpj hne (by omega) (by congr 1; exact Qk (by simp));refine go tt [.g 41 false (decide_eq_false (by omega)),.f rfl,.g 77 false (decide_eq_false (by omega)),.f rfl,.s (sz:=2) hz,.r 91 (eI (b:=((j+1+1:Nat):Int)) (by simp)),.i (j+1+1),.i (j+1),.s (sz:=2) (λy hy=>h22 y (Q0 (Qn hy))),.i (O.length-(j+1)),.i (j+1)] rfl (by simp [Ui,Gy] <;> omega) ?_;exact rd 3 (by omega) (by omega) (by rw [gs,<-fz]; rfl)
  ·refine go tt [.f rfl] rfl (by simp [Ui] <;> omega) ?_;exact rd (i+1) (by omega) hlt (by rw [hst]; rfl)
 ·obtain rfl:i=ts.length:=by omega
  rw [Q4];exact ed tt [1] [0] [.f (decide_eq_false (by omega))] rfl trivial

theorem Ze4 {l:List P3} (hl:l.length<=1000000):Uk Tryz.prog 63 [.one (.row (Bb l)),.one (.row (Bb l))] [.one (.bool true)]:=by
 have hll:=A9 l;refine Gm Tryz.func63 rfl ?_;refine go tt [.f (decide_eq_false (λh=>h rfl))] rfl trivial ?_;refine lp (S:=Nat) 0 (λL1 i=>(5,.v (.one (.int .i64 (i:Int))))::L1) (λ_=>[]) (λi=>l.length-i) (λi=>i<=l.length) 0 (Qh _) rfl (λ_ _=>rfl) rfl λi hi=>?_
 by_cases h:i<l.length
 ·obtain ⟨x,hx⟩:=gxE (l:=l) (i:=i) h;refine go tt [.t (decide_eq_true (by omega)),.x (Qmj hx),.x (Qmj hx),.f (by simp)] rfl (by simp [Ui]; omega) ?_;exact rd (i+1) (by omega) h rfl
 ·exact en tt [.f (decide_eq_false (by omega))] rfl rfl trivial
theorem Ze3 {l:List (Int×Int)} (hl:l.length<=1000000):Uk Tryz.prog 64 [.one (.row (Ca l)),.one (.row (Ca l))] [.one (.bool true)]:=by
 have hll:=Gy l;refine Gm Tryz.func64 rfl ?_;refine go tt [.f (decide_eq_false (λh=>h rfl))] rfl trivial ?_;refine lp (S:=Nat) 0 (λL1 i=>(5,.v (.one (.int .i64 (i:Int))))::L1) (λ_=>[]) (λi=>l.length-i) (λi=>i<=l.length) 0 (Qh _) rfl (λ_ _=>rfl) rfl λi hi=>?_
 by_cases h:i<l.length
 ·obtain ⟨x,hx⟩:=gxE (l:=l) (i:=i) h;refine go tt [.t (decide_eq_true (by omega)),.x (Qd5 hx),.x (Qd5 hx),.f (by simp)] rfl (by simp [Ui]; omega) ?_;exact rd (i+1) (by omega) h rfl
 ·exact en tt [.f (decide_eq_false (by omega))] rfl rfl trivial
theorem Q67 {c c':Cr} {l l' m:List Pt} {a:Tm} {r:List (List LV)} (hm:m.length<=6) (hr:r=brD m a):Ht Tryz.prog 23 [.one (.ow 0 0),.one (.ow 1 0)] [.blk 86 (M3 c (Ut l) r),.blk 86 (M3 c' (Ut l') r)] [.one (.bool true)] [.blk 86 (M3 c (Ut l) r),.blk 86 (M3 c' (Ut l') r)]:=by
 have hl:=Q5g (Pi a) hm;have hr:r=Bb (Bl (Pi a) m):=hr;rw [hr];have he:=Qcz (Bl (Pi a) m) [];have he:(Cw (Bl (Pi a) m)).length<=0+3*(Bl (Pi a) m).length:=he;have c1:=Qcr (c:=c) (r0:=Ut l) (ts:=Bl (Pi a) m) (by omega);have c2:=Qcr (c:=c') (r0:=Ut l') (ts:=Bl (Pi a) m) (by omega);have c3:=Qjy (c:=c) (r0:=Ut l) (ts:=Bl (Pi a) m) (by omega);have c4:=Qjy (c:=c') (r0:=Ut l') (ts:=Bl (Pi a) m) (by omega);have s1:=Ze4 (l:=Bl (Pi a) m) (by omega);have s2:=Ze3 (l:=Cw (Bl (Pi a) m)) (by omega);refine Gm Tryz.func23 rfl ?_;exact ed tt [] [0,1] [.c [0] c1,.c [1] c2,.c [] s1,.g 10 true rfl,.c [0] c3,.c [1] c4,.c [] s2] rfl trivial
end Orr
namespace Orr
open Go Go.Proofs
set_option maxRecDepth 10000
theorem Cs.up {s n s' n':Nat} {k:Crv} (h:Cs s n k) (hs:s<=s') (hn:n<=n'):Cs s' n' k:=⟨Uj h.x hs,Uj h.y hs,Qc h.d hs,Qc h.lx hn,Qc h.ly hn⟩
end Orr
namespace Orr
open Go Go.Proofs Orq
set_option maxRecDepth 10000
theorem Q4w {l m:List Pt} (h:l.Perm m) (hd:Ew l):Ew m:=(h.pairwise_iff (λh=>λe=>h e.symm)).1 hd
end Orr
