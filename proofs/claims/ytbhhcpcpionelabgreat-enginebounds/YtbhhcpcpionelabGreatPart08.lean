/- H1 HullQ HullS HullT PairQ PW1 DigL R1 R2 S2 S3 NewsN PW2 TouL TouQ MeshN EnL BndL KT EnS SD1 -/
import Derived.Test.YtbhhcpcpionelabGreatPart07
import Derived.Test.YtbhhcpcpionelabGreatPart05
import Derived.Test.YtbhhcpcpionelabGreatPart00
import Derived.Test.YtbhhcpcpionelabGreatPart04
set_option linter.all false
namespace Orr
open Go Go.Proofs Tryz Orq
set_option maxRecDepth 10000
theorem gz {P:Program} [Mo P] {n:Nat} {Q:Exit->Sg->Us->Prop} {L L':Sg} {B B':Us} (i:Nat) {it:List It} (hs:H9 it=true) (h:Qcx [i] L B=some (L',B')) (k:AK P n Q it L' B'):AK P n Q it L B:=AK.sub (FM h) hs k
theorem EW {r:Um} {i:Nat} {p:Ul} (h:r[i]? = some p):(JQ r)[i]? = some [pl p]:=G7 h
theorem En {l:List Um} {i:Nat} {r:Um} (h:l[i]? = some r):(Ic l)[i]? = some [.row (JQ r)]:=G7 h
theorem Qeb {r:Um} (ht:∀ p∈r,U6 p) (hb:∀ p∈r,Bd 1000000 p) (hl:∀ p∈r,p.length≤1000000) (hn:r.length≤1000):Ui 239 [.one (.row (JQ r))] [.one (.row (JQ r))]:=by
 have hrl:(JQ r).length=r.length:=by simp
 refine Fw func239 rfl ?_;refine Uc [.o 3 31 1] rfl ?_;refine Uh (S:=Nat) 1 (λL1 i=>(8,.v (.oi i))::(3,.v (.one (.orow 0 1 none)))::L1) (λi=>[.row false 31 1 (JQ (r.take i))]) (λi=>r.length-i) (λi=>i<=r.length) 0 (Qh _) rfl rfl λi hi=>?_
 by_cases h:i<r.length
 ·obtain ⟨p,hp⟩:=gxE (l:=r) (i:=i) h;have hm:=Qa hp;have hs:∀ y∈[[pl p]],y.length=1:=λy hy=>by rw [Qk.1 hy]; rfl
  have e:JQ (r.take (i+1))=JQ (r.take i)++[[pl p]]:=by rw [Z3,hp]; simp
  refine go tt [.T,.x (EW hp),.k (Hp (ht p hm) (by have:=hl p hm; omega) (Ux (hb p hm) (by decide))),.s (sz:=1) hs] rfl (by simp [Uw] <;> omega) ?_;exact rd (i+1) (by omega) h (by rw [e]; rfl)
 ·obtain rfl:i=r.length:=by omega
  rw [Q7];exact Ue [.F] rfl
theorem Qxv {s k w:Nat} {ds:Un} {rows:List Um} (h:Sq s ds k k rows) (_hw:w=k) (hk:k<=4):Ui 269 [.one (.row (Ic rows))] [.one (.bool true)]:=by
 have hrl:=YH rows;have hl:=h.l;refine Fw func269 rfl ?_;refine Uc [] rfl ?_;refine Uh (S:=Nat) 0 (λL1 i=>(7,.v (.oi i))::L1) (λ_=>[]) (λi=>rows.length-i) (λi=>i<=rows.length) 0 (Qh _) rfl rfl λi hi=>?_
 by_cases hlt:i<rows.length
 ·obtain ⟨r,hr⟩:=gxE (l:=rows) (i:=i) hlt;have hw:=h.w r (Qa hr);have hql:(JQ r).length=r.length:=by simp
  refine go tt [.T,.x (En hr),.f (decide_eq_false (λh=>h (by omega)))] rfl (by simp [Uw] <;> omega) ?_;exact rd (i+1) (by omega) hlt rfl
 ·exact Ue [.F] rfl (by rw [decide_eq_true (by omega:((Ic rows).length:Int)<=4)]) trivial
theorem Qnh {s k w:Nat} {ds:Un} {rows:List Um} (h:Sq s ds k w rows) (hs:s<=1000000) (hk:k<=4) (hw:w<=4) (hd:∀ j,ds.getD j 0<=1000) (i:Nat):Ui 293 [.oi i,.oi 0,.one (.row (Ic rows))] [.one (.row (Ic (VX rows i)))]:=by
 have hrl:=YH rows;have hl:=h.l;have hml:∀ j,j<=rows.length->(Ic (XR i rows j)).length<=4:=λj hj=>by
  rw [YH,LQ]; split <;> omega
 refine Fw func293 rfl ?_;refine Uc [.o 7 306 1] rfl ?_;refine Uh (S:=Nat) 1 (λL1 j=>(15,.v (.oi j))::(7,.v (.one (.orow 0 1 none)))::L1) (λj=>[.row false 306 1 (Ic (XR i rows j))]) (λj=>rows.length-j) (λj=>j<=rows.length) 0 (Qh _) rfl rfl λj hj=>?_
 have hmlj:=hml j hj;by_cases hlt:j<rows.length
 ·obtain ⟨r,hr⟩:=gxE (l:=rows) (i:=j) hlt;have hm:=Qa hr;have hw:=h.w r hm;have hql:(JQ r).length=r.length:=by simp
  by_cases hij:j=i
  ·have e:XR i rows (j+1)=XR i rows j:=by simp only [XR]; rw [if_pos hij]
   refine go tt [.T,.x (En hr),.T] rfl (by simp [Uw] <;> omega) ?_;exact rd (j+1) (by omega) hlt (by rw [e]; rfl)
  ·have e:XR i rows (j+1)=XR i rows j++[r.drop 1]:=by
    simp only [XR]; rw [if_neg hij,Qi,hr]; rfl
   refine Uc [.T,.x (En hr),.F,.o 10 31 1] rfl ?_ (by simp [Uw]);refine Uh (S:=Nat) 2 (λL1 c=>(25,.v (.oi c))::(10,.v (.one (.orow 1 1 none)))::L1) (λc=>[.row false 306 1 (Ic (XR i rows j)),.row false 31 1 (JQ ((r.take c).drop 1))]) (λc=>r.length-c) (λc=>c<=r.length) 0 (Qh _) rfl rfl λc hc=>?_
   by_cases hcl:c<r.length
   ·obtain ⟨p,hp⟩:=gxE (l:=r) (i:=c) hcl;have hpm:=Qa hp;by_cases h0:c=0
    ·subst h0;refine Uc [.T,.x (EW hp),.f (decide_eq_false (by simp))] rfl ?_ (by simp [Uw]);exact rd 1 (by omega) hcl (by rw [Z3,hp]; rfl)
    ·have hs1:∀ y∈[[pl p]],y.length=1:=λy hy=>by rw [Qk.1 hy]; rfl
     have e2:JQ ((r.take (c+1)).drop 1)=JQ ((r.take c).drop 1)++[[pl p]]:=by
      rw [Z3,hp,Wg (by rw [Qr]; omega)]; simp
     refine go tt [.T,.x (EW hp),.T,.k (Hp (h.t r hm p hpm) (by have:=h.n r hm c p hp; have:=hd c; omega) (Ux (h.b r hm p hpm) (by omega))),.s (sz:=1) hs1] rfl (by simp [Uw] <;> omega) ?_;exact rd (c+1) (by omega) hcl (by rw [e2]; rfl)
   ·obtain rfl:c=r.length:=by omega
    rw [Q7];have hs1:∀ y∈[[LV.row (JQ (r.drop 1))]],y.length=1:=λy hy=>by rw [Qk.1 hy]; rfl
    refine Uc [.F] rfl ?_;refine gz 1 rfl rfl ?_;refine go tt [.s (sz:=1) hs1] rfl (by simp [Uw] <;> omega) ?_;exact rd (j+1) (by omega) hlt (by rw [e]; simp [Ic]; rfl)
 ·obtain rfl:j=rows.length:=by omega
  exact Ue [.F] rfl
theorem TO:∀ (ds:Un) (j:Nat),ds.getD j 0<=ds.sum
 | [],j=>by simp
 | d::ds,0=>by simp
 |
  d::ds,j+1=>by
  have:=TO ds j;rw [Kv];show ds.getD j 0<=_;omega
theorem Qrn {s:Nat} (hs:s<=100000):∀ (k:Nat) (ds:Un) (rows:List Um),k<=4->ds.length=k->ds.sum<31->Sq s ds k k rows->Ui 270 [.one (.row (Ic rows))] [pr (D8 k rows)]
 |
  0,ds,rows,_,_,_,h=>by
  have e:=Qj h.l;subst e;have co:=lK (p:=[1]) (by decide) (by decide);exact Uf func270 rfl [.t rfl,.k co] rfl
 | k+1,[],_,_,hl,_,_=>by simp at hl
 |
  k+1,d::ds,rows,hk,hl,hd,h=>by
  rw [Kv] at hd;have hl':ds.length=k:=by simpa using hl
  have hrl:=YH rows;have hrn:=h.l;have hmin:=λi (hi:i<k+1)=>h.min hi
  have ih:=λi (hi:i<k+1)=>Qrn hs k ds (VX rows i) (by omega) hl' (by omega) (hmin i hi)
  have hok:=λi (hi:i<k+1)=>YF k ds (VX rows i) (by omega) hl' (by omega) (hmin i hi)
  have hb:k*(s+10)+1<=500000:=by
   have:k*(s+10)<=4*(100010):=Za (by omega) (by omega);omega
  have hds:=jK (f:=λi=>D8 k (VX rows i)) (B:=k*(s+10)+1) (L:=ds.sum) h (by omega) (λi hi=>⟨(hok i hi).2.1,(hok i hi).2.2⟩);have cm:=Qnh h (by omega) hk hk (λj=>by have:=TO (d::ds) j; rw [Kv] at this; omega);show Ui 270 [.one (.row (Ic rows))] [pr (C6 (λi=>D8 k (VX rows i)) rows (k+1))];obtain ⟨f,hf⟩:=nmE (λi=>D8 k (VX rows i));rw [<-hf] at hds ⊢;have hfi:∀ i,f i=D8 k (VX rows i):=λi=>by rw [hf]
  refine Fw func270 rfl ?_;refine Uc [.F,.z 3] rfl ?_;refine Uh (S:=Nat) 0 (λL1 i=>(14,.v (.oi i))::(3,.v (pr (C6 f rows i)))::L1) (λ_=>[]) (λi=>k+1-i) (λi=>i<=k+1) 0 (Qh _) rfl rfl λi hi=>?_
  obtain ⟨d1,d2,d3⟩:=hds i hi;by_cases hlt:i<k+1
  ·obtain ⟨p,r,hr,e,t,b,l⟩:=h.at hlt;have hx0:(JQ (p::r))[0]? = some [pl p]:=rfl;have hpl:(p.map Hg).length=p.length:=by simp
   have cn:=Hp t (by omega) (Ux b (by omega));by_cases h0:p.length=0
   ·have es:C6 f rows (i+1)=C6 f rows i:=by simp only [C6]; rw [e,if_pos h0]
    refine go tt [.T,.x (En hr),.x hx0,.k cn,.T] rfl (by simp [Uw] <;> omega) ?_;exact rd (i+1) (by omega) hlt (by rw [es]; rfl)
   ·obtain ⟨k1,k2,k3⟩:=hok i hlt;have ci:=ih i hlt;have cp:=HY (p:=p) (q:=f i) t (by rw [hfi]; exact k1) (by omega) (by rw [hfi]; omega) b (by rw [hfi]; exact k2) (by omega);have hmb:Bd (s+(k*(s+10)+1)+5) (Gf p (f i)):=Mi b (by rw [hfi]; exact k2) (by omega);have hml:=Rq p (f i);have hfl:(f i).length<=ds.sum+1:=by rw [hfi]; exact k3
    rw [<-hfi] at ci;by_cases h2:i % 2=0
    ·have es:C6 f rows (i+1)=ZU (C6 f rows i) (Gf p (f i)):=by simp only [C6]; rw [e,if_neg h0,if_pos h2]
     refine go tt [.T,.x (En hr),.x hx0,.k cn,.F,.x hx0,.k (cm i),.k ci,.k cp,.r 34 (eI (b:=((i % 2:Nat):Int)) rfl),.T,.k (xR (p:=C6 f rows i) (q:=Gf p (f i)) (by omega) (by omega) (Ux d2 (by omega)) (Ux hmb (by omega)))] rfl (by simp [Uw] <;> omega) ?_;exact rd (i+1) (by omega) hlt (by rw [es]; rfl)
    ·have es:C6 f rows (i+1)=Mx (C6 f rows i) (Gf p (f i)):=by simp only [C6]; rw [e,if_neg h0,if_neg h2]
     refine go tt [.T,.x (En hr),.x hx0,.k cn,.F,.x hx0,.k (cm i),.k ci,.k cp,.r 34 (eI (b:=((i % 2:Nat):Int)) rfl),.F,.k (HV (p:=C6 f rows i) (q:=Gf p (f i)) (by omega) (by omega) (Ux d2 (by omega)) (Ux hmb (by omega)))] rfl (by simp [Uw] <;> omega) ?_;exact rd (i+1) (by omega) hlt (by rw [es]; rfl)
  ·obtain rfl:i=k+1:=by omega
   exact Ue [.F] rfl
theorem Qrg {s:Nat} (hs:s<=100000) {k:Nat} {ds:Un} {rows:List Um} (hk:k<=4) (hl:ds.length=k) (hd:ds.sum<31) (h:Sq s ds k k rows):Ui 240 [.one (.row (Ic rows))] [pr (D8 k rows),.oi 0] :=
 Uf func240 rfl [.k (Qxv h rfl hk),.f rfl,.k (Qrn hs k ds rows hk hl hd h)] rfl
theorem mQ {k:Crv} (hk:Sc k):Ui 238 [.agg (cl k)] [.one (.row (JQ [k.x,k.y,[k.d]]))]:=by
 have h0:k.d≠0:=by have:=hk.n.2.2.1; omega
 have td:U6 [k.d]:=by unfold U6; simp [trim,h0]
 have cd:=Qeb (r:=[k.x,k.y,[k.d]]) (λp hp=>by
  rcases Qm.1 hp with rfl | hp
  ·exact hk.n.1
  rcases Qm.1 hp with rfl | hp
  ·exact hk.n.2.1
  ·rw [Qk.1 hp]; exact td) (λp hp=>by
  rcases Qm.1 hp with rfl | hp
  ·exact Ux hk.c.x (by decide)
  rcases Qm.1 hp with rfl | hp
  ·exact Ux hk.c.y (by decide)
  ·rw [Qk.1 hp];intro z hz; rw [Qk.1 hz]; exact Qc hk.c.d (by decide)) (λp hp=>by
  rcases Qm.1 hp with rfl | hp
  ·have:=hk.c.lx; omega
  rcases Qm.1 hp with rfl | hp
  ·have:=hk.c.ly; omega
  ·rw [Qk.1 hp]; show 1<=1000000; decide) (by show 3<=1000; decide)
 exact Uf func238 rfl [.k (Dh hk.n (hk.c.mono (by decide) (by decide))),.k cd] rfl
theorem EM {a b c:Crv} (ha:Sc a) (hb:Sc b) (hc:Sc c):Sq 128 [2,2,0] 3 3 (LF a b c):=by
 have key:∀ k:Crv,Sc k->(∀ p∈[k.x,k.y,[k.d]],U6 p/\Bd 128 p)/\∀ (j:Nat) (p:Ul),[k.x,k.y,[k.d]][j]? = some p->p.length≤[2,2,0].getD j 0+1:=λk hk=>by
  have h0:k.d≠0:=by have:=hk.n.2.2.1; omega
  have td:U6 [k.d]:=by unfold U6; simp [trim,h0]
  refine ⟨λp hp=>?_,λj p hp=>?_⟩
  ·rcases Qm.1 hp with rfl | hp
   ·exact ⟨hk.n.1,hk.c.x⟩
   rcases Qm.1 hp with rfl | hp
   ·exact ⟨hk.n.2.1,hk.c.y⟩
   ·rw [Qk.1 hp];exact ⟨td,λz hz=>by rw [Qk.1 hz]; exact hk.c.d⟩
  ·match j,hp with
   | 0,hp=>injection hp with hp; subst hp; exact hk.c.lx
   | 1,hp=>injection hp with hp; subst hp; exact hk.c.ly
   | 2,hp=>injection hp with hp; subst hp; exact Ql _
   | j+3,hp=>simp at hp
 have hr:∀ r∈LF a b c,∃ k:Crv,Sc k/\r=[k.x,k.y,[k.d]]:=λr hr=>by
  rcases Qm.1 hr with rfl | hr
  ·exact ⟨a,ha,rfl⟩
  rcases Qm.1 hr with rfl | hr
  ·exact ⟨b,hb,rfl⟩
  ·rw [Qk.1 hr]; exact ⟨c,hc,rfl⟩
 refine ⟨rfl,λr h=>?_,λr h p hp=>?_,λr h p hp=>?_,λr h j p hp=>?_⟩
 all_goals obtain ⟨k,hk,rfl⟩:=hr r h
 ·rfl
 ·exact ((key k hk).1 p hp).1
 ·exact ((key k hk).1 p hp).2
 ·exact (key k hk).2 j p hp
theorem JE {a b c:Crv} (ha:Sc a) (hb:Sc b) (hc:Sc c):Cp (Gt a b c):=by
 obtain ⟨h1,h2,h3⟩:=YF 3 [2,2,0] (LF a b c) (by decide) rfl (by decide) (EM ha hb hc);exact ⟨h1,Qc h3 (by decide),Ux h2 (by decide)⟩
theorem wG {a b c:Crv} (ha:Sc a) (hb:Sc b) (hc:Sc c):Ui 198 [.agg (cl a),.agg (cl b),.agg (cl c)] [pr (Gt a b c)]:=by
 have cd:=Qrg (by decide) (k:=3) (ds:=[2,2,0]) (by decide) rfl (by decide) (EM ha hb hc);exact Uf func198 rfl [.k (mQ ha),.k (mQ hb),.k (mQ hc),.k cd] rfl
end Orr
namespace Orq
open Orr Go
theorem sV {p q:Ul} (tp:U6 p) (tq:U6 q) (h:∀ i,p.getD i 0=q.getD i 0):p=q:=by
 have hl:∀ {p q:Ul},U6 p->(∀ i,p.getD i 0=q.getD i 0)->p.length<=q.length:=λ{p q} tp h=>by
  refine Nat.not_lt.1 λhn=>?_
  have h1:=Hy tp (by omega);rw [h,Qi,Qw (by omega)] at h1;exact h1 rfl
 have e:=Kc (hl tp h) (hl tq λi=>(h i).symm);refine List.ext_getElem e λi h1 h2=>?_
 have:=h i;rw [Qi,Qi,Qe h1,Qe h2] at this;exact this
theorem fG {p:Ul} (h:p=[]) (i:Nat):p.getD i 0=0:=by rw [h]; simp
theorem Eb (p:Ul) (c:Int) (i:Nat):(Fo p c).getD i 0=p.getD i 0*c:=by
 unfold Fo;rw [S4]
 split
 ·rfl
 ·rename_i h;rw [Qi,Qw (by omega)]; simp
theorem EY (p q:Ul) (i:Nat):(Mx p q).getD i 0=p.getD i 0-q.getD i 0:=by
 unfold Mx;rw [S4]
 split
 ·rfl
 ·rename_i h;rw [Qi,Qi,Qw (by omega),Qw (by omega)]; simp
theorem Qo7 {x y:Crv} (hx:JR x) (hy:JR y) (h1:Fu x y=[]) (h2:Ft x y=[]):x=y:=by
 have e1:∀ i,y.x.getD i 0*x.d=x.x.getD i 0*y.d:=λi=>by
  have:=fG h1 i;unfold Fu at this;rw [EY,Eb,Eb] at this;omega
 have e2:∀ i,y.y.getD i 0*x.d=x.y.getD i 0*y.d:=λi=>by
  have:=fG h2 i;unfold Ft at this;rw [EY,Eb,Eb] at this;omega
 have key:∀ {x y:Crv},JR x->JR y->(∀ i,y.x.getD i 0*x.d=x.x.getD i 0*y.d)->(∀ i,y.y.getD i 0*x.d=x.y.getD i 0*y.d)->x.d∣y.d:=λ{x y} hx hy e1 e2=>by
  have hd:=uL (d:=x.d) (l:=(x.d::(x.x++x.y)).map (· * y.d)) λz hz=>by
   obtain ⟨w,hw,rfl⟩:=Q6.1 hz;rcases Qm.1 hw with rfl | hw
   ·exact Int.dvd_mul_right _ _
   ·rcases Qq.1 hw with hw | hw
    ·obtain ⟨i,hi,rfl⟩:=V2.1 hw;have:=e1 i;rw [show x.x.getD i 0=x.x[i] from by rw [Qi,Qe hi]; rfl] at this;rw [<-this]; exact Y8 _ _
    ·obtain ⟨i,hi,rfl⟩:=V2.1 hw;have:=e2 i;rw [show x.y.getD i 0=x.y[i] from by rw [Qi,Qe hi]; rfl] at this;rw [<-this]; exact Y8 _ _
  rw [Qhj,hx.2.2.2,Kt] at hd;exact V7 hd (Int.natAbs_dvd.2 (K8 _))
 have hd:x.d=y.d:=Int.dvd_antisymm (Int.le_of_lt hx.2.2.1) (Int.le_of_lt hy.2.2.1) (key hx hy e1 e2) (key hy hx (λi=>(e1 i).symm) λi=>(e2 i).symm);have hd0:y.d≠0:=by have:=hy.2.2.1; omega
 rw [hd] at e1 e2;have ex:x.x=y.x:=sV hx.1 hy.1 λi=>(Y0 hd0 (e1 i)).symm
 have ey:x.y=y.y:=sV hx.2.1 hy.2.1 λi=>(Y0 hd0 (e2 i)).symm
 cases x; cases y;simp only at hd ex ey;rw [hd,ex,ey]
theorem Qqr (l:List Pt):(Rj l).Pairwise λx y=>x.c≠y.c:=by
 have key:∀ (l out:List Pt),out.Pairwise (λx y=>x.c≠y.c)->(l.foldl Bi out).Pairwise λx y=>x.c≠y.c:=by
  intro l
  induction l with
  | nil=>intro out h; exact h
  |
   cons p l ih =>
   intro out h;refine ih _ ?_;unfold Bi
   split
   ·exact h
   ·rename_i hn;refine X2.2 ⟨h,Kl _ _,λa ha b hb e=>hn ?_⟩;rw [Qk.1 hb] at e;rw [List.any_eq_true];exact ⟨a,ha,by rw [<-e]; simp [A5]⟩
 exact key l [] .nil
theorem Qlb (l:List Pt):(Rj l).Sublist l:=by
 have key:∀ (l out o:List Pt),out.Sublist o->(l.foldl Bi out).Sublist (o++l):=by
  intro l
  induction l with
  | nil=>intro out o h; rw [Zv]; exact h
  |
   cons p l ih =>
   intro out o h;have:(Bi out p).Sublist (o++[p]):=by
    unfold Bi
    split
    ·exact h.trans (List.sublist_append_left _ _)
    ·exact h.append (List.Sublist.refl _)
   have:=ih _ _ this;rwa [Ze] at this
 exact key l [] [] (List.Sublist.refl _)
theorem Of (f:Nat->Ul) (rows:List Um) (q:Rat) (i:Nat):U3 (C6 f rows (i+1)) q=U3 (C6 f rows i) q+(if i % 2=0 then 1 else -1)*(U3 ((rows.getD i []).getD 0 []) q*U3 (f i) q):=by
 simp only [C6]
 split
 ·rename_i h;have:U3 ((rows.getD i []).getD 0 []) q=0:=by rw [Qj h]; rfl
  rw [this]; grind
 ·split
  ·rw [LN,Gb]; grind
  ·rw [Ty,Gb]; grind
theorem iL (z:Int) (q:Rat):U3 [z] q=(z:Rat):=by simp [U3,Rat.add_zero]
theorem rH (p:Ul) (q:Rat):U3 (D8 1 [[p]]) q=U3 p q:=by
 show U3 (C6 (λi=>D8 0 (VX [[p]] i)) [[p]] (0+1)) q=_;rw [Of];show (0:Rat)+1*(U3 p q*U3 [1] q)=_;rw [iL];have:((1:Int):Rat)=1:=rfl;grind
theorem LM (p r s t:Ul) (q:Rat):U3 (D8 2 [[p,r],[s,t]]) q=U3 p q*U3 t q-U3 s q*U3 r q:=by
 show U3 (C6 (λi=>D8 1 (VX [[p,r],[s,t]] i)) [[p,r],[s,t]] (0+1+1)) q=_;rw [Of,Of];show (0:Rat)+1*(U3 p q*U3 (D8 1 [[t]]) q)+(-1)*(U3 s q*U3 (D8 1 [[r]]) q)=_;rw [rH,rH]; grind
theorem Qjg (a1 a2 a3 b1 b2 b3 c1 c2 c3:Ul) (q:Rat):U3 (D8 3 [[a1,a2,a3],[b1,b2,b3],[c1,c2,c3]]) q=U3 a1 q*(U3 b2 q*U3 c3 q-U3 c2 q*U3 b3 q)-U3 b1 q*(U3 a2 q*U3 c3 q-U3 c2 q*U3 a3 q)+U3 c1 q*(U3 a2 q*U3 b3 q-U3 b2 q*U3 a3 q):=by
 show U3 (C6 (λi=>D8 2 (VX [[a1,a2,a3],[b1,b2,b3],[c1,c2,c3]] i)) [[a1,a2,a3],[b1,b2,b3],[c1,c2,c3]] (0+1+1+1)) q=_;rw [Of,Of,Of];show (0:Rat)+1*(U3 a1 q*U3 (D8 2 [[b2,b3],[c2,c3]]) q)+(-1)*(U3 b1 q*U3 (D8 2 [[a2,a3],[c2,c3]]) q)+1*(U3 c1 q*U3 (D8 2 [[a2,a3],[b2,b3]]) q)=_;rw [LM,LM,LM]; grind
theorem cP {a b c:Pt} (ha:Sc a.c) (hb:Sc b.c) (hc:Sc c.c) (q:Rat):U7 (U3 (Gt a.c b.c c.c) q)=U7 (Nq (px · q) (py · q) a b c):=by
 have Ro:∀ {k:Crv},Sc k->(0:Rat)<(k.d:Rat):=λh=>by exact_mod_cast h.n.2.2.1
 have pa:=Ro ha;have pb:=Ro hb;have pc:=Ro hc;have xx:∀ {p:Pt},0<(p.c.d:Rat)->U3 p.c.x q=px p q*(p.c.d:Rat)/\U3 p.c.y q=py p q*(p.c.d:Rat):=λ{p} h=>by
  unfold px py;exact ⟨(Zl (by grind)).symm,(Zl (by grind)).symm⟩
 obtain ⟨xa,ya⟩:=xx pa;obtain ⟨xb,yb⟩:=xx pb;obtain ⟨xc,yc⟩:=xx pc;have e:U3 (Gt a.c b.c c.c) q=((a.c.d:Rat)*(b.c.d:Rat)*(c.c.d:Rat))*Nq (px · q) (py · q) a b c:=by
  unfold Gt LF Nq;rw [Qjg,iL,iL,iL,xa,xb,xc,ya,yb,yc];grind
 rw [e,Cf (Xu (Xu pa pb) pc)]
def UL (sg:Ul->Int) (a b c:Pt):Bool:=decide (0<He sg (Gt a.c b.c c.c))
def S8 (sg:Ul->Int) (row:List Pt):List Pt:=(Pn (UL sg) [] row).reverse
def Lq (sg:Ul->Int) (row:List Pt):List Pt:=if row.length<3 then row else (S8 sg row).dropLast++(S8 sg row.reverse).dropLast
def Pd (l:List Pt) (a:Tm):List Pt:=Lq (Fl a) (Sf a (Rj l))
def Rl (C:List Pt):List (Pt×Pt):=C.zip (C.drop 1++C.take 1)
def D2 (sg:Ul->Int) (a b c:Pt):Ct:=⟨3,a.id,b.id,c.id,0,Gt a.c b.c c.c,He sg (Gt a.c b.c c.c)⟩
def VY (e:Pt×Pt) (c:Pt):Bool:=decide (c.id≠e.1.id) && decide (c.id≠e.2.id)
def E5 (sg:Ul->Int) (l:List Pt) (e:Pt×Pt):List Ct:=(l.filter (VY e)).map λc=>D2 sg e.1 e.2 c
def Nn (sg:Ul->Int) (l C:List Pt):List Ct:=if C.length<2 then [] else (Rl C).flatMap (E5 sg l)
def GO (l:List Pt) (a:Tm):List Ct:=O2 l a++Nn (Fl a) l (Pd l a)
abbrev brH (l:List Pt) (a:Tm):Ur:=Uv (Pd l a)
def GL (l:List Pt):Um:=l.flatMap λx=>l.flatMap λy=>l.map λz=>Gt x.c y.c z.c
theorem kA {l:List Pt} {x y z:Pt} (hx:x∈l) (hy:y∈l) (hz:z∈l):Gt x.c y.c z.c∈GL l :=
 Zc.2 ⟨x,hx,Zc.2 ⟨y,hy,Q6.2 ⟨z,hz,rfl⟩⟩⟩
theorem Ql6 {l:List Pt} (hl:∀ p∈l,Sc p.c):∀ p∈GL l,Cp p:=λp hp=>by
 obtain ⟨x,hx,hp⟩:=Zc.1 hp;obtain ⟨y,hy,hp⟩:=Zc.1 hp;obtain ⟨z,hz,rfl⟩:=Q6.1 hp;exact JE (hl x hx) (hl y hy) (hl z hz)
theorem LI {α:Type} (s:α->α->α->Bool) (c:α):∀ st:List α,(La s c st).Sublist st
 | []=>List.Sublist.refl _
 | [_]=>List.Sublist.refl _
 |
  b::a::r=>by
  simp only [La]
  split
  ·exact List.Sublist.refl _
  ·exact (LI s c (a::r)).trans (List.sublist_cons_self _ _)
theorem KX {α:Type} {s:α->α->α->Bool}:∀ {l acc:List α} {x:α},x∈Pn s acc l->x∈acc\/x∈l
 | [],acc,x,h=>.inl h
 |
  c::l,acc,x,h=>by
  rcases KX (l:=l) h with h | h
  ·rcases Qm.1 h with rfl | h
   ·exact .inr (by simp)
   ·exact .inl ((LI s c acc).subset h)
  ·exact .inr (Qg _ h)
theorem KZ {α:Type} (s:α->α->α->Bool):∀ (l acc:List α),(Pn s acc l).length<=acc.length+l.length
 | [],acc=>by simp [Pn]
 |
  c::l,acc=>by
  have h1:=KZ s l (c::La s c acc);have h2:=(LI s c acc).length_le;simp only [Pn,Q4] at h1 ⊢;omega
theorem BR {sg:Ul->Int} {row:List Pt} {x:Pt} (h:x∈S8 sg row):x∈row:=by
 unfold S8 at h;rcases KX (Jl.1 h) with h | h
 ·cases h
 ·exact h
theorem QJ (sg:Ul->Int) (row:List Pt):(S8 sg row).length<=row.length:=by
 have:=KZ (UL sg) row [];unfold S8; rw [List.length_reverse]; simpa using this
theorem cU {sg:Ul->Int} {row:List Pt} {x:Pt} (h:x∈Lq sg row):x∈row:=by
 unfold Lq at h
 split at h
 ·exact h
 ·rcases Qq.1 h with h | h
  ·exact BR ((List.dropLast_sublist _).subset h)
  ·exact Jl.1 (BR ((List.dropLast_sublist _).subset h))
theorem cK (sg:Ul->Int) (row:List Pt):(Lq sg row).length<=2*row.length:=by
 unfold Lq
 split
 ·omega
 ·have h1:=QJ sg row;have h2:=QJ sg row.reverse;rw [Xs] at h2;rw [Qu,List.length_dropLast,List.length_dropLast]; omega
theorem Iz {l:List Pt} {a:Tm} {x:Pt} (h:x∈Pd l a):x∈l:=Mf (Hj.1 (cU h))
theorem HG (l:List Pt) (a:Tm):(Pd l a).length<=2*l.length:=by
 have h1:=cK (Fl a) (Sf a (Rj l));rw [Cd] at h1;have:=As l;unfold Pd; omega
theorem TL {C:List Pt} {e:Pt×Pt} (h:e∈Rl C):e.1∈C/\e.2∈C:=by
 unfold Rl at h;have h1:=List.of_mem_zip (show (e.1,e.2)∈_ from h);refine ⟨h1.1,?_⟩;rcases Qq.1 h1.2 with h | h
 ·exact Q0 h
 ·exact Qo h
theorem nV {sg:Ul->Int} {l C:List Pt} {x:Ct} (h:x∈Nn sg l C):∃ e∈Rl C,∃ c∈l,VY e c=true/\x=D2 sg e.1 e.2 c:=by
 unfold Nn at h
 split at h
 ·cases h
 ·obtain ⟨e,he,h⟩:=Zc.1 h;obtain ⟨c,hc,rfl⟩:=Q6.1 h;obtain ⟨h1,h2⟩:=Yg.1 hc;exact ⟨e,he,c,h1,h2,rfl⟩
theorem xU {l:List Pt} {a:Tm}:∀ x∈GO l a,x.p∈Lf l++GL l:=λx hx=>by
 rcases Qq.1 hx with hx | hx
 ·exact Z6 _ (lQ x hx)
 ·obtain ⟨e,he,c,hc,_,rfl⟩:=nV hx;obtain ⟨h1,h2⟩:=TL he;exact Z4 _ (kA (Iz h1) (Iz h2) hc)
theorem PS {l:List Pt} (hl:∀ p∈l,Sc p.c):∀ p∈Lf l++GL l,Cp p:=λp hp=>by
 rcases Qq.1 hp with h | h
 ·exact O4 hl p h
 ·exact Ql6 hl p h
theorem KW {α β:Type} (f:α->List β) (n:Nat):∀ (m:List α),(∀ x∈m,(f x).length≤n)->(m.flatMap f).length≤m.length*n
 | [],_=>by simp
 |
  x::m,h=>by
  have:=KW f n m λy hy=>h y (Qg _ hy)
  have:=h x (by simp);rw [Jn,Qu,Q4,Xc]; omega
theorem nY (sg:Ul->Int) (l C:List Pt):(Nn sg l C).length<=C.length*l.length:=by
 unfold Nn
 split
 ·simp
 ·refine Qc (KW _ l.length _ λe _=>?_) (Qz _ ?_)
  ·unfold E5; rw [List.length_map]; exact List.length_filter_le _ _
  ·unfold Rl; rw [List.length_zip]; exact Nat.min_le_left _ _
theorem pX {l:List Pt} (hl:∀ p∈l,Sc p.c) (hn:l.length≤10):BuildOk (GO l) :=
 ⟨λ_ _ x hx=>PS hl _ (xU x hx),λa _=>by
  have h1:=nY (Fl a) l (Pd l a);have h2:=HG l a;have h3:(Pd l a).length*l.length<=20*10:=Za (by omega) hn;show (O2 l a++Nn (Fl a) l (Pd l a)).length<=1000;have h4:(O2 l a).length<=l.length:=by unfold O2; rw [Bb,Cd]; omega
  rw [Qu]; omega⟩
def A4 {α:Type} (l:List α):List (α×α):=l.zip (l.drop 1)
theorem jF {α:Type} {Q:α->α->Prop}:∀ {l:List α},Edg Q l↔∀ e∈A4 l,Q e.1 e.2
 | []=>by simp [Edg,A4]
 | [_]=>by simp [Edg,A4]
 |
  a::b::l=>by
  have ih:=jF (Q:=Q) (l:=b::l);have e:A4 (a::b::l)=(a,b)::A4 (b::l):=rfl;rw [e];constructor
  ·rintro ⟨h1,h2⟩ x hx
   rcases Qm.1 hx with rfl | hx
   ·exact h1
   ·exact ih.1 h2 x hx
  ·intro h;exact ⟨h (a,b) (by simp),ih.2 λx hx=>h x (Qg _ hx)⟩
theorem BC {α:Type} (f z:α) (A:List α):A4 (f::A++[z])=(f::A).zip (A++[z]):=by
 unfold A4;rw [Xd,List.drop_succ_cons,X9];have:f::(A++[z])=(f::A)++[z]:=rfl;rw [this];have h:A++[z]=(A++[z])++[]:=(Zv _).symm
 conv=>lhs; rw [h]
 rw [List.zip_append (by simp)];simp
theorem uO {f z:Pt} {A B:List Pt}:Rl ((f::A++[z]).dropLast++(z::B++[f]).dropLast)=A4 (f::A++[z])++A4 (z::B++[f]):=by
 rw [V1,V1,BC,BC,<-List.zip_append (by simp)];unfold Rl;congr 1;simp
theorem Edg.rev {α:Type} {Q:α->α->Prop}:∀ {l:List α},Edg Q l->Edg (λa b=>Q b a) l.reverse:=by
 have app:∀ {Q:α->α->Prop} {l:List α} {b a:α},Edg Q (l++[b])->Q b a->Edg Q (l++[b]++[a]):=by
  intro Q l
  induction l with
  | nil=>intro b a _ h; exact ⟨h,trivial⟩
  |
   cons x l ih =>
   intro b a h h2;cases l with
   | nil=>exact ⟨h.1,ih h.2 h2⟩
   | cons y l=>exact ⟨h.1,ih h.2 h2⟩
 intro l
 induction l with
 | nil=>intro _; trivial
 |
  cons a l ih =>
  intro h;cases l with
  | nil=>trivial
  |
   cons b l =>
   have:=ih h.2;rw [Ym] at this ⊢;rw [Ym];exact app this h.1
theorem Cnv.rev {α:Type} {R:α->α->α->Prop}:∀ {l:List α},Cnv R l->Cnv (λa b c=>R c b a) l.reverse:=by
 have app:∀ {R:α->α->α->Prop} {l:List α} {c b a:α},Cnv R (l++[c,b])->R c b a->Cnv R (l++[c,b,a]):=by
  intro R l
  induction l with
  | nil=>intro c b a _ h; exact ⟨h,trivial⟩
  |
   cons x l ih =>
   intro c b a h h2;cases l with
   | nil=>exact ⟨h.1,ih h.2 h2⟩
   |
    cons y l =>
    cases l with
    | nil=>exact ⟨h.1,ih h.2 h2⟩
    | cons w l=>exact ⟨h.1,ih h.2 h2⟩
 intro l
 induction l with
 | nil=>intro _; trivial
 |
  cons a l ih =>
  intro h
  match l,h with
  | [],_=>trivial
  | [_],_=>trivial
  |
   b::c::l,h =>
   have:=ih h.2;rw [Ym,Ym,Ze] at this;rw [Ym,Ym,Ym,Ze,Ze];exact app this h.1
section
variable {α:Type} {lt lt':α->α->Bool}
theorem LO {out:List α} {x:α} (h:∀ y∈out,lt x y=lt' x y):∀ k,Lo lt out x k=Lo lt' out x k
 | 0=>rfl
 |
  k+1=>by
  simp only [Lo];cases hy:out[k]? with
  | none=>rfl
  | some y=>simp only [h y (Qa hy),LO h k]
theorem TA {l:List α} (h:∀ u∈l,∀ v∈l,lt u v=lt' u v):∀ (m out:List α),(∀ x∈m,x∈l)->(∀ x∈out,x∈l)->m.foldl (Lj lt) out=m.foldl (Lj lt') out
 | [],_,_,_=>rfl
 |
  x::m,out,h1,h2=>by
  have e:Lj lt out x=Lj lt' out x:=by
   unfold Lj; rw [LO λy hy=>h x (h1 x (by simp)) y (h2 y hy)]
  simp only [Z5];rw [e];exact TA h m _ (λy hy=>h1 y (Qg _ hy)) λy hy=>by
   rcases UD.1 hy with rfl | hy
   ·exact h1 _ (by simp)
   ·exact h2 y hy
end
theorem cF {a:Tm} {l:List Pt} {q:Rat} (hb:∀ u∈l,∀ v∈l,(Ti (Fl a) u v=true↔Cn q u v)) (hd:l.Pairwise λx y=>x.id≠y.id):(Sf a l).Pairwise (Cn q) :=
 DZ (S:=λx=>x∈l) (D:=λx y=>x.id≠y.id) (YV q) (λu v hu hv h=>(hb u hu v hv).1 h) (λu v hu hv hne h=>gZ (λe=>hne e.symm) λh'=>by
  rw [(hb u hu v hv).2 h'] at h; cases h) l [] .nil (λx hx=>by cases hx) (λx hx=>hx) hd (λx hx=>by cases hx)
theorem Qu2 {a:Tm} (ha:Va a) {u v:Pt} (hu:Sc u.c) (hv:Sc v.c) {q:Rat} (h1:He (Fl a) (Fu u.c v.c)=U7 (U3 (Fu u.c v.c) q)) (h2:He (Fl a) (Ft u.c v.c)=U7 (U3 (Ft u.c v.c) q)) (hne:u.c≠v.c) (h:Cn q u v):lx (px · q) (py · q) u v:=by
 rcases h with h | ⟨h,h3⟩
 ·exact .inl h
 rcases h3 with h3 | ⟨h3,_⟩
 ·exact .inr ⟨h,h3⟩
 ·exfalso;rw [TY hu hv] at h1;rw [TJ hu hv] at h2;have z1:U7 (px v q-px u q)=0:=Gg.2 (by grind);have z2:U7 (py v q-py u q)=0:=Gg.2 (by grind);rw [z1] at h1;rw [z2] at h2;have e1:(Fu u.c v.c).length=0:=Decidable.byContradiction λe=>(L6 ha (P5 hu hv).dp e).2 h1
  have e2:(Ft u.c v.c).length=0:=Decidable.byContradiction λe=>(L6 ha (P0 hu hv).dp e).2 h2
  exact hne (Qo7 hu.n hv.n (Qj e1) (Qj e2))
structure LowC (X Y:Pt->Rat) (R L:List Pt):Prop where
 hd:L.head? = R.head?
 la:L.getLast? = R.getLast?
 srt:L.Pairwise (lx X Y)
 mem:∀ p∈L,p∈R
 edg:Edg (λa b=>∀ p∈R,0≤Nq X Y a b p) L
 cnv:Cnv (λa b c=>0<Nq X Y a b c) L
theorem IR {X Y:Pt->Rat} {sg:Ul->Int} {R:List Pt} (hs:∀ a∈R,∀ b∈R,∀ c∈R,(UL sg a b c=true↔0<Nq X Y a b c)) (hR:R.Pairwise (lx X Y)) (h0:R≠[]):LowC X Y R (S8 sg R):=by
 cases R with
 | nil=>exact absurd rfl h0
 |
  cons f R =>
  obtain ⟨t,st,g1,g2,g3,g4⟩:=IT hs hR R [f] f [] rfl ⟨Kl _ _,λp hp=>by rw [Qk.1 hp]; simp,trivial,trivial⟩ rfl rfl;have e:S8 sg (f::R)=(t::st).reverse:=by
   unfold S8;rw [<-g1]; rfl
  rw [e];exact ⟨by rw [List.head?_reverse,g4],by rw [List.getLast?_reverse]; exact g3.symm,Kz.2 g2.srt,λp hp=>g2.mem p (Jl.1 hp),g2.edg.rev,g2.cnv.rev⟩
theorem Qvs {X Y:Pt->Rat} {R:List Pt} (hR:R.Pairwise (lx X Y)):∀ p∈R,∀ q∈R,p=q\/lx X Y p q\/lx X Y q p:=λp hp q hq=>by
 by_cases e:p=q
 ·exact .inl e
 ·exact .inr (qI hR hp hq e)
theorem Qih {X Y:Pt->Rat} {R L L':List Pt} (hR:R.Pairwise (lx X Y)) (h:LowC X Y R L) (h':LowC X Y R L'):L=L':=by
 have hh:=h.hd.trans h'.hd.symm;have hl:=h.la.trans h'.la.symm;cases L with
 |
  nil=>cases L' with
  | nil=>rfl
  | cons _ _=>simp at hh
 |
  cons f M=>cases L' with
  | nil=>simp at hh
  |
   cons f' M' =>
   simp at hh;subst hh;obtain ⟨z,hz⟩:∃ z,(f::M).getLast? = some z:=⟨_,Yo (by simp)⟩;rw [Qf8 (Qvs hR) M M' f h.srt h'.srt h.mem h'.mem h.edg h'.edg h.cnv h'.cnv hz (hl ▸ hz)]
theorem tN {x y:Rat} (h:U7 x=U7 y):(0<=x->0<=y)/\(0<x->0<y):=by
 have h1:=Fv x;have h2:=Fv y;grind
theorem uX {X Y X' Y':Pt->Rat} {R:List Pt}:∀ {L:List Pt},(∀ p∈L,p∈R)->(∀ e∈A4 L,∀ p∈R,U7 (Nq X Y e.1 e.2 p)=U7 (Nq X' Y' e.1 e.2 p))->Cnv (λa b c=>0<Nq X Y a b c) L->Cnv (λa b c=>0<Nq X' Y' a b c) L
 | [],_,_,_=>trivial
 | [_],_,_,_=>trivial
 | [_,_],_,_,_=>trivial
 | a::b::c::l,hm,he,h=>⟨(tN (he (a,b) (by simp [A4]) c (hm c (by simp)))).2 h.1,uX (λp hp=>hm p (Qg _ hp)) (λe hx=>he e (Qg _ hx)) h.2⟩
theorem gX {X Y X' Y':Pt->Rat} {R L:List Pt} (h:LowC X Y R L) (hl:∀ u∈R,∀ v∈R,lx X Y u v->lx X' Y' u v) (he:∀ e∈A4 L,∀ p∈R,U7 (Nq X Y e.1 e.2 p)=U7 (Nq X' Y' e.1 e.2 p)):LowC X' Y' R L :=
 ⟨h.hd,h.la,h.srt.imp_of_mem λhu hv h'=>hl _ (h.mem _ hu) _ (h.mem _ hv) h',h.mem,jF.2 λe hx p hp=>(tN (he e hx p hp)).1 (jF.1 h.edg e hx p hp),uX h.mem he h.cnv⟩
theorem yN (X Y:Pt->Rat) (a b c:Pt):Nq (λp=>-X p) (λp=>-Y p) a b c=Nq X Y a b c:=by unfold Nq; grind
theorem yV {X Y:Pt->Rat} {a b:Pt}:lx (λp=>-X p) (λp=>-Y p) a b↔lx X Y b a:=by unfold lx; grind
theorem Qsg {L:List Pt} {f z:Pt} (h1:L.head? = some f) (h2:L.getLast? = some z) (hne:f≠z):∃ A,L=f::A++[z]:=by
 cases L with
 | nil=>cases h1
 |
  cons g M =>
  simp at h1;subst h1;cases M with
  | nil=>simp at h2; exact absurd h2 hne
  |
   cons x M =>
   rw [Jx] at h2;obtain ⟨A,hA⟩:=Y6.1 h2;exact ⟨A,by rw [hA]; rfl⟩
theorem CE {α β:Type} {f g:α->List β}:∀ {m:List α},(∀ x∈m,f x=g x)->m.flatMap f=m.flatMap g
 | [],_=>rfl
 | x::m,h=>by rw [Jn,Jn,h x (by simp),CE λy hy=>h y (Qg _ hy)]
theorem fM {sa sb:Ul->Int} {l C:List Pt} (h:∀ x∈Nn sa l C,He sb x.p=He sa x.p):Nn sb l C=Nn sa l C:=by
 by_cases h2:C.length<2
 ·unfold Nn; rw [if_pos h2,if_pos h2]
 ·have e:∀ s,Nn s l C=(Rl C).flatMap (E5 s l):=λs=>if_neg h2
  rw [e] at h ⊢;rw [e];refine CE λx hx=>Xt λc hc=>?_
  have:=h (D2 sa x.1 x.2 c) (Zc.2 ⟨x,hx,Wh hc⟩);show (⟨3,x.1.id,x.2.id,c.id,0,Gt x.1.c x.2.c c.c,He sb (Gt x.1.c x.2.c c.c)⟩:Ct)=⟨3,x.1.id,x.2.id,c.id,0,Gt x.1.c x.2.c c.c,He sa (Gt x.1.c x.2.c c.c)⟩;have this:He sb (Gt x.1.c x.2.c c.c)=He sa (Gt x.1.c x.2.c c.c):=this;rw [this]
theorem oI {l:List Pt} (hd:l.Pairwise λx y=>x.id≠y.id) {u v:Pt} (hu:u∈l) (hv:v∈l) (h:u.id=v.id):u=v:=by
 refine Classical.byContradiction λe=>?_
 rcases qI hd hu hv e with h' | h'
 ·exact h' h
 ·exact h' h.symm
structure Soon (l:List Pt) (a:Tm) (q:Rat):Prop where
 g:∀ p∈Lf l++GL l,He (Fl a) p=U7 (U3 p q)
 b:∀ u∈l,∀ v∈l,(Ti (Fl a) u v=true↔Cn q u v)
 o:∀ u∈l,∀ v∈l,∀ w∈l,He (Fl a) (Gt u.c v.c w.c)=U7 (Nq (px · q) (py · q) u v w)
 t:∀ u∈l,∀ v∈l,∀ w∈l,(UL (Fl a) u v w=true↔0<Nq (px · q) (py · q) u v w)
 r:(Sf a (Rj l)).Pairwise (lx (px · q) (py · q))
theorem Qks {l:List Pt} (hl:∀ p∈l,Sc p.c) (hd:l.Pairwise λx y=>x.id≠y.id) {a:Tm} (ha:Va a):∃ y,Ff a y=-1/\∀ q,Ff a q=-1->q≤y->Soon l a q:=by
 obtain ⟨y,y1,y2⟩:=ZO ha (Lf l++GL l) λp hp=>(PS hl p hp).dp
 refine ⟨y,y1,λq q1 q2=>?_⟩;have g:=y2 q q1 q2;have gP:=λp hp=>g p (Z6 _ hp)
 have b:∀ u∈l,∀ v∈l,(Ti (Fl a) u v=true↔Cn q u v):=λu hu v hv=>NN ha (hl u hu) (hl v hv) (gP _ (Tu hu hv).1) (gP _ (Tu hu hv).2)
 have o:∀ u∈l,∀ v∈l,∀ w∈l,He (Fl a) (Gt u.c v.c w.c)=U7 (Nq (px · q) (py · q) u v w):=λu hu v hv w hw=>by
  rw [g _ (Z4 _ (kA hu hv hw)),cP (hl u hu) (hl v hv) (hl w hw)]
 refine ⟨g,b,o,λu hu v hv w hw=>?_,?_⟩
 ·unfold UL;rw [o u hu v hv w hw,decide_eq_true_eq];have:=Fv (Nq (px · q) (py · q) u v w);grind
 ·have hw:∀ u∈Rj l,u∈l:=λu hu=>Mf hu
  have h1:=cF (a:=a) (l:=Rj l) (q:=q) (λu hu v hv=>b u (hw u hu) v (hw v hv)) (List.Pairwise.sublist (Qlb l) hd);have h2:(Sf a (Rj l)).Pairwise λx y=>x.c≠y.c:=(List.Perm.pairwise_iff (λ{x y} h e=>h e.symm) (cI (lt:=Ti (Fl a)) (Rj l))).2 (Qqr l)
  refine (h1.and h2).imp_of_mem λ{u v} hu hv h=>?_
  have hu:=hw u (Hj.1 hu);have hv:=hw v (Hj.1 hv);exact Qu2 ha (hl u hu) (hl v hv) (gP _ (Tu hu hv).1) (gP _ (Tu hu hv).2) h.2 h.1
theorem Qaa {l:List Pt} (hl:∀ p∈l,Sc p.c) (hd:l.Pairwise λx y=>x.id≠y.id) {a:Tm} (ha:Va a):∃ q,Soon l a q :=
 let ⟨y,h1,h2⟩:=Qks hl hd ha
 ⟨y,h2 y h1 Qp⟩
theorem BD {l:List Pt} {a:Tm} {q:Rat} (S:Soon l a q) (h3:3<=(Sf a (Rj l)).length):∃ f z A B,S8 (Fl a) (Sf a (Rj l))=f::A++[z]/\S8 (Fl a) (Sf a (Rj l)).reverse=z::B++[f]/\LowC (px · q) (py · q) (Sf a (Rj l)) (f::A++[z])/\LowC (λp=>-px p q) (λp=>-py p q) (Sf a (Rj l)).reverse (z::B++[f])/\Rl (Pd l a)=A4 (f::A++[z])++A4 (z::B++[f])/\2<=(Pd l a).length:=by
 obtain ⟨R,hR⟩:=nmE (Sf a (Rj l));have hm:∀ x∈R,x∈l:=λx hx=>by rw [hR] at hx; exact Mf (Hj.1 hx)
 have r:=S.r;rw [<-hR] at r h3 ⊢;have h0:R≠[]:=λe=>by rw [e] at h3; simp at h3
 have c1:=IR (sg:=Fl a) (λu hu v hv w hw=>S.t u (hm u hu) v (hm v hv) w (hm w hw)) r h0;have r2:R.reverse.Pairwise (lx (λp=>-px p q) (λp=>-py p q)):=Kz.2 (r.imp λh=>yV.2 h);have c2:=IR (sg:=Fl a) (R:=R.reverse) (X:=λp=>-px p q) (Y:=λp=>-py p q) (λu hu v hv w hw=>by
  rw [yN (px · q) (py · q)];exact S.t u (hm u (Jl.1 hu)) v (hm v (Jl.1 hv)) w (hm w (Jl.1 hw))) r2 (by simpa using h0)
 obtain ⟨f,hf⟩:∃ f,R.head? = some f:=by cases R with
  | nil=>exact absurd rfl h0
  | cons f _=>exact ⟨f,rfl⟩
 obtain ⟨z,hz⟩:∃ z,R.getLast? = some z:=⟨_,Yo h0⟩;have hne:f≠z:=λe=>by
  subst e;cases R with
  | nil=>exact absurd rfl h0
  |
   cons g M =>
   simp at hf; subst hf;cases M with
   | nil=>simp at h3
   |
    cons x M =>
    rw [Jx] at hz;exact Lk _ ((Zh.1 r).1 g (V3 hz))
 obtain ⟨A,hA⟩:=Qsg (c1.hd.trans hf) (c1.la.trans hz) hne;obtain ⟨B,hB⟩:=Qsg (c2.hd.trans (by rw [List.head?_reverse]; exact hz)) (c2.la.trans (by rw [List.getLast?_reverse]; exact hf)) (Ne.symm hne);have hc:Pd l a=(f::A++[z]).dropLast++(z::B++[f]).dropLast:=by
  unfold Pd Lq;rw [<-hR,if_neg (by omega),hA,hB]
 rw [hA] at c1;rw [hB] at c2;refine ⟨f,z,A,B,hA,hB,c1,c2,by rw [hc]; exact uO,?_⟩;rw [hc,V1,V1];simp; omega
theorem Qb8 {l:List Pt} (hl:∀ p∈l,Sc p.c) (hd:l.Pairwise λx y=>x.id≠y.id) {a b:Tm} (ha:Va a) (hb:Va b) (h:∀ x∈GO l a,He (Fl b) x.p=He (Fl a) x.p):Pd l b=Pd l a/\GO l b=GO l a:=by
 obtain ⟨q,Sa⟩:=Qaa hl hd ha;obtain ⟨r,Sb⟩:=Qaa hl hd hb;obtain ⟨k1,k2⟩:=tG hl hd ha hb λx hx=>h x (Z6 _ hx)
 have pa:=cF Sa.b hd;have pb:=cF Sb.b hd;rw [k1] at pb;have pab:=pa.and pb;have lexs:∀ u∈l,∀ v∈l,(Cn q u v↔Cn r u v):=λu hu v hv=>by
  by_cases e:u=v
  ·subst e; exact ⟨λh=>absurd h (XU _ _),λh=>absurd h (XU _ _)⟩
  ·rcases qI pab (Hj.2 hu) (Hj.2 hv) e with h' | h'
   ·exact ⟨λ_=>h'.2,λ_=>h'.1⟩
   ·exact ⟨λh=>absurd (YV _ _ _ _ h h'.1) (XU _ _),λh=>absurd (YV _ _ _ _ h h'.2) (XU _ _)⟩
 have bef:∀ u∈l,∀ v∈l,Ti (Fl b) u v=Ti (Fl a) u v:=λu hu v hv=>by
  have h1:=Sa.b u hu v hv;have h2:=Sb.b u hu v hv;have h3:=lexs u hu v hv;cases e1:Ti (Fl a) u v <;> cases e2:Ti (Fl b) u v <;> rw [e1] at h1 <;> rw [e2] at h2 <;> simp_all
 have eR:Sf b (Rj l)=Sf a (Rj l):=TA (l:=Rj l) (λu hu v hv=>bef u (Mf hu) v (Mf hv)) (Rj l) [] (λx hx=>hx) λx hx=>by cases hx
 have hm:∀ x∈Sf a (Rj l),x∈l:=λx hx=>Mf (Hj.1 hx)
 have rb:=Sb.r;rw [eR] at rb;have hc:Pd l b=Pd l a:=by
  by_cases h3:(Sf a (Rj l)).length<3
  ·unfold Pd Lq;rw [eR,if_pos h3,if_pos h3]
  ·obtain ⟨f,z,A,B,hA,hB,c1,c2,hE,hC2⟩:=BD Sa (by omega);obtain ⟨f',z',A',B',hA',hB',c1',c2',hE',_⟩:=BD Sb (by rw [eR]; omega);rw [eR] at hA' hB' c1' c2';have sgs:∀ e∈Rl (Pd l a),∀ p∈Sf a (Rj l),U7 (Nq (px · q) (py · q) e.1 e.2 p)=U7 (Nq (px · r) (py · r) e.1 e.2 p):=λe he p hp=>by
    obtain ⟨m1,m2⟩:=TL he;have m1:=Iz m1;have m2:=Iz m2;have m3:=hm p hp;by_cases ho:VY e p=true
    ·have hx:D2 (Fl a) e.1 e.2 p∈GO l a:=by
      refine Z4 _ ?_;unfold Nn;rw [if_neg (by omega)];exact Zc.2 ⟨e,he,Wh (Yg.2 ⟨m3,ho⟩)⟩
     have hg:He (Fl b) (Gt e.1.c e.2.c p.c)=He (Fl a) (Gt e.1.c e.2.c p.c):=h _ hx;rw [<-Sa.o _ m1 _ m2 _ m3,<-Sb.o _ m1 _ m2 _ m3,hg]
    ·have hz:∀ X Y:Pt->Rat,Nq X Y e.1 e.2 p=0:=λX Y=>by
      by_cases e1:p.id=e.1.id
      ·rw [oI hd m3 m1 e1]; exact (FK _ _).1
      ·by_cases e2:p.id=e.2.id
       ·rw [oI hd m3 m2 e2]; exact (FK _ _).2
       ·exact absurd (by simp [VY,e1,e2]) ho
     rw [hz,hz]
   have hlx:∀ u∈Sf a (Rj l),∀ v∈Sf a (Rj l),lx (px · q) (py · q) u v->lx (px · r) (py · r) u v:=λu hu v hv huv=>by
    have ra:=Sa.r;by_cases e:u=v
    ·subst e; exact absurd huv (Lk _)
    ·rcases qI (ra.and rb) hu hv e with h' | h'
     ·exact h'.2
     ·exact absurd (gV huv h'.1) (Lk _)
   have e1:=Qih rb (gX c1 hlx λe he=>sgs e (by rw [hE]; exact Z6 _ he)) c1';have rb2:(Sf a (Rj l)).reverse.Pairwise (lx (λp=>-px p r) (λp=>-py p r)):=Kz.2 (rb.imp λh=>yV.2 h);have e2:=Qih rb2 (gX c2 (λu hu v hv huv=>yV.2 (hlx v (Jl.1 hv) u (Jl.1 hu) (yV.1 huv))) λe he p hp=>by
    rw [yN (px · q) (py · q),yN (px · r) (py · r)];exact sgs e (by rw [hE]; exact Z4 _ he) p (Jl.1 hp)) c2'
   unfold Pd Lq;rw [eR,if_neg h3,if_neg h3,hA,hB,hA',hB',e1,e2]
 refine ⟨hc,?_⟩;unfold GO;rw [hc,k2,fM λx hx=>h x (Z4 _ hx)]
theorem Qyz {l:List Pt} (hl:∀ p∈l,Sc p.c) (hn:l.length≤10) (hd:l.Pairwise λx y=>x.id≠y.id):Stab (GO l) (brH l):=by
 refine ⟨pX hl hn,⟨Lf l++GL l,PS hl,λa _ x hx=>xU x hx⟩,λa b ha hb h=>?_⟩;obtain ⟨e1,e2⟩:=Qb8 hl hd ha hb h;exact ⟨e2,by show Uv _=Uv _; rw [e1]⟩
end Orq
namespace Orq
open Orr Go
theorem KY {a b c d:Crv} (ha:Sc a) (hb:Sc b) (hc:Sc c) (hd:Sc d):Cp (G8 a b c d):=by
 have lr:∀ {a b:Crv},Sc a->Sc b->(Fu a b).length<=3/\(Ft a b).length<=3:=λ{a b} ha hb=>by
  have:=S5 (Fo b.x a.d) (Fo a.x b.d); have:=Fh b.x a.d; have:=Fh a.x b.d;have:=S5 (Fo b.y a.d) (Fo a.y b.d); have:=Fh b.y a.d; have:=Fh a.y b.d;have:=ha.c.lx; have:=hb.c.lx; have:=ha.c.ly; have:=hb.c.ly;unfold Fu Ft; omega
 have ap:∀ {a b:Crv},Sc a->Sc b->(Re a b).length<=5/\Bd 517 (Re a b):=λ{a b} ha hb=>by
  obtain ⟨l1,l2⟩:=lr ha hb;have b1:Bd 257 (Fu a b):=Dd (Gd hb.c.x ha.c.d) (Gd ha.c.x hb.c.d);have b2:Bd 257 (Ft a b):=Dd (Gd hb.c.y ha.c.d) (Gd ha.c.y hb.c.d);have q1:=Mi (u:=2) b1 b1 (by omega);have q2:=Mi (u:=2) b2 b2 (by omega);refine ⟨?_,Ux (WB q1 q2) (by omega)⟩;have:=Ac (Gf (Fu a b) (Fu a b)) (Gf (Ft a b) (Ft a b));have:=Rq (Fu a b) (Fu a b); have:=Rq (Ft a b) (Ft a b);unfold Re; omega
 have dd:∀ {a b:Crv},Sc a->Sc b->U9 ((a.d*b.d)*(a.d*b.d))<=512:=λ{a b} ha hb=>by
  have:=Gh a.d b.d; have:=Gh (a.d*b.d) (a.d*b.d); have:=ha.c.d; have:=hb.c.d; omega
 obtain ⟨l1,b1⟩:=ap hc hd;obtain ⟨l2,b2⟩:=ap ha hb;refine ⟨Fq _ _,?_,Ux (Dd (Gd b1 (dd ha hb)) (Gd b2 (dd hc hd))) (by omega)⟩;have:=S5 (Fo (Re c d) ((a.d*b.d)*(a.d*b.d))) (Fo (Re a b) ((c.d*d.d)*(c.d*d.d)));have:=Fh (Re c d) ((a.d*b.d)*(a.d*b.d)); have:=Fh (Re a b) ((c.d*d.d)*(c.d*d.d));unfold G8; omega
def sC (m:Pt×Pt) (q:Rat):Rat:=(px m.2 q-px m.1 q)*(px m.2 q-px m.1 q)+(py m.2 q-py m.1 q)*(py m.2 q-py m.1 q)
theorem Qoe {a b c d:Pt} (ha:Sc a.c) (hb:Sc b.c) (hc:Sc c.c) (hd:Sc d.c) (q:Rat):U7 (U3 (G8 a.c b.c c.c d.c) q)=U7 (sC (c,d) q-sC (a,b) q):=by
 have Ro:∀ {z:Int},0<z->(0:Rat)<(z:Rat):=λ{z} h=>by exact_mod_cast h
 have pa:=Ro ha.n.2.2.1;have pb:=Ro hb.n.2.2.1;have pc:=Ro hc.n.2.2.1;have pd:=Ro hd.n.2.2.1;have xx:∀ {p:Pt},0<(p.c.d:Rat)->U3 p.c.x q=px p q*(p.c.d:Rat)/\U3 p.c.y q=py p q*(p.c.d:Rat):=λ{p} h=>by
  unfold px py;exact ⟨(Zl (by grind)).symm,(Zl (by grind)).symm⟩
 obtain ⟨xa,ya⟩:=xx pa;obtain ⟨xb,yb⟩:=xx pb;obtain ⟨xc,yc⟩:=xx pc;obtain ⟨xd,yd⟩:=xx pd;have e:U3 (G8 a.c b.c c.c d.c) q=(((a.c.d:Rat)*b.c.d)*((a.c.d:Rat)*b.c.d))*(((c.c.d:Rat)*d.c.d)*((c.c.d:Rat)*d.c.d))*(sC (c,d) q-sC (a,b) q):=by
  unfold G8 Re Fu Ft sC;simp only [Ty,Rf,LN,Gb,X5];rw [xa,xb,xc,xd,ya,yb,yc,yd];grind
 rw [e,Cf];have h1:=Xu pa pb;have h2:=Xu pc pd;exact Xu (Xu h1 h1) (Xu h2 h2)
def PQ (l:List Pt):Um:=l.flatMap λa=>l.flatMap λb=>l.flatMap λc=>l.map λd=>G8 a.c b.c c.c d.c
theorem NU {l:List Pt} {a b c d:Pt} (ha:a∈l) (hb:b∈l) (hc:c∈l) (hd:d∈l):G8 a.c b.c c.c d.c∈PQ l :=
 Zc.2 ⟨a,ha,Zc.2 ⟨b,hb,Zc.2 ⟨c,hc,Q6.2 ⟨d,hd,rfl⟩⟩⟩⟩
theorem WM {l:List Pt} (hl:∀ p∈l,Sc p.c):∀ p∈PQ l,Cp p:=λp hp=>by
 obtain ⟨a,ha,hp⟩:=Zc.1 hp;obtain ⟨b,hb,hp⟩:=Zc.1 hp;obtain ⟨c,hc,hp⟩:=Zc.1 hp;obtain ⟨d,hd,rfl⟩:=Q6.1 hp;exact KY (hl a ha) (hl b hb) (hl c hc) (hl d hd)
theorem aY {l:List Pt} (hl:∀ p∈l,Sc p.c) {a:Tm} (ha:Va a):∃ y,Ff a y=-1/\∀ q,Ff a q=-1->q≤y->∀ s m:Pt×Pt,s.1∈l->s.2∈l->m.1∈l->m.2∈l->He (Fl a) (G8 s.1.c s.2.c m.1.c m.2.c)=U7 (sC m q-sC s q):=by
 obtain ⟨y,y1,y2⟩:=ZO ha (PQ l) λp hp=>(WM hl p hp).dp
 refine ⟨y,y1,λq q1 q2 s m h1 h2 h3 h4=>?_⟩;rw [y2 q q1 q2 _ (NU h1 h2 h3 h4),Qoe (hl _ h1) (hl _ h2) (hl _ h3) (hl _ h4)]
def Ds (f:Pt×Pt->Rat) (P:List (Pt×Pt)) (r:Pt×Pt):Prop:=∃ P1 P2,P=P1++r::P2/\(∀ m∈P1,f r<f m)/\∀ m∈P2,f r≤f m
theorem OF {f:Pt×Pt->Rat}:∀ {P:List (Pt×Pt)} {r r':Pt×Pt},Ds f P r->Ds f P r'->r=r'
 | [],r,r',⟨P1,P2,h,_⟩,_=>by simp at h
 |
  x::P,r,r',⟨P1,P2,h,h1,h2⟩,⟨Q1,Q2,h',h1',h2'⟩=>by
  cases P1 with
  |
   nil =>
   simp at h;cases Q1 with
   | nil=>simp at h'; exact h.1.symm.trans h'.1
   |
    cons y Q1 =>
    simp at h';exfalso;obtain ⟨rfl,rfl⟩:=h;obtain ⟨rfl,rfl⟩:=h';have a1:=h1' x (by simp);have a2:=h2 r' (by simp);grind
  |
   cons y P1 =>
   simp at h;cases Q1 with
   |
    nil =>
    simp at h';exfalso;obtain ⟨rfl,rfl⟩:=h;obtain ⟨rfl,rfl⟩:=h';have a1:=h1 x (by simp);have a2:=h2' r (by simp);grind
   |
    cons z Q1 =>
    simp at h h';exact OF (P:=P) ⟨P1,P2,h.2,λm hm=>h1 m (by simp [hm]),h2⟩ ⟨Q1,Q2,h'.2,λm hm=>h1' m (by simp [hm]),h2'⟩
theorem Qof {f:Pt×Pt->Rat} {P:List (Pt×Pt)} {r m:Pt×Pt} (h:Ds f P r):Ds f (P++[m]) (if f m<f r then m else r):=by
 obtain ⟨P1,P2,rfl,h1,h2⟩:=h;by_cases e:f m<f r
 ·rw [if_pos e];refine ⟨P1++r::P2,[],rfl,λx hx=>?_,λx hx=>by cases hx⟩;rcases Qq.1 hx with hx | hx
  ·have:=h1 x hx; grind
  ·rcases Qm.1 hx with rfl | hx
   ·exact e
   ·have:=h2 x hx; grind
 ·rw [if_neg e];refine ⟨P1,P2++[m],by simp,h1,λx hx=>?_⟩;rcases Qq.1 hx with hx | hx
  ·exact h2 x hx
  ·rw [Qk.1 hx]; grind
theorem aW {f:Pt×Pt->Rat} {sg:Ul->Int} {l:List Pt} (hg:∀ s m:Pt×Pt,s.1∈l->s.2∈l->m.1∈l->m.2∈l->He sg (G8 s.1.c s.2.c m.1.c m.2.c)=U7 (f m-f s)):∀ (ps P:List (Pt×Pt)) (s:Pt×Pt),s.1∈l/\s.2∈l->(∀ m∈ps,m.1∈l/\m.2∈l)->Ds f P s->Ds f (P++ps) (Hh sg s ps)
 | [],P,s,_,_,h=>by rw [Zv]; exact h
 |
  m::ps,P,s,hs,hp,h=>by
  rw [QB];have hm:=hp m (by simp);have e:Po sg s m=if f m<f s then m else s:=by
   unfold Po;rw [hg s m hs.1 hs.2 hm.1 hm.2];have:=Fv (f m-f s);by_cases h:f m<f s
   ·rw [if_pos h,if_pos (by grind)]
   ·rw [if_neg h,if_neg (by grind)]
  have hn:(Po sg s m).1∈l/\(Po sg s m).2∈l:=by
   rcases RR sg s m with e | e <;> rw [e] <;> assumption
  have:=aW hg ps (P++[m]) (Po sg s m) hn (λx hx=>hp x (Qg _ hx)) (by rw [e]; exact Qof h);rwa [Ze] at this
theorem bV (a b:Pt) (l:List Pt):∃ P,Fx (a::b::l)=(a,b)::P:=⟨_,rfl⟩
theorem iR {f:Pt×Pt->Rat} {sg:Ul->Int} {a b:Pt} {l:List Pt} (hg:∀ s m:Pt×Pt,s.1∈a::b::l->s.2∈a::b::l->m.1∈a::b::l->m.2∈a::b::l->He sg (G8 s.1.c s.2.c m.1.c m.2.c)=U7 (f m-f s)):Ds f (Fx (a::b::l)) (Hh sg (a,b) (Fx (a::b::l))):=by
 obtain ⟨P,hP⟩:=bV a b l;have hm:=Tl (a::b::l).length (a::b::l);have hm:∀ m∈Fx (a::b::l),m.1∈a::b::l/\m.2∈a::b::l:=hm;rw [hP] at hm ⊢;have h:=aW hg P [(a,b)] (a,b) (hm (a,b) (by simp)) (λm h=>hm m (by simp [h])) ⟨[],[],rfl,λm h=>(by cases h),λm h=>(by cases h)⟩;rw [QB];have e:Po sg (a,b) (a,b)=(a,b):=by rcases RR sg (a,b) (a,b) with e | e <;> exact e
 rw [e]; exact h
theorem oO {l:List Pt} (hd:l.Pairwise λx y=>x.id≠y.id) {u v:Pt} (hu:u∈l) (hv:v∈l) (h:u.id=v.id):u=v:=by
 by_cases e:u=v
 ·exact e
 ·rcases qI hd hu hv e with h' | h'
  ·exact absurd h h'
  ·exact absurd h.symm h'
theorem Qcu {l:List Pt} (hl:∀ p∈l,Sc p.c) (hd:l.Pairwise λx y=>x.id≠y.id) {a b:Tm} (ha:Va a) (hb:Va b) (h:∀ x∈D6 (Fl a) l,He (Fl b) x.p=He (Fl a) x.p):XB (Fl b) l=XB (Fl a) l/\D6 (Fl b) l=D6 (Fl a) l:=by
 match l,hl,hd,h with
 | [],_,_,_=>exact ⟨rfl,rfl⟩
 | [x],_,_,_=>exact ⟨rfl,rfl⟩
 |
  u::v::l',hl,hd,h =>
  obtain ⟨y,y1,y2⟩:=aY hl ha;obtain ⟨z,z1,z2⟩:=aY hl hb;have ga:=y2 y y1 Qp;have gb:=z2 z z1 Qp;have fa:=iR (f:=λm=>sC m y) ga;have fb:=iR (f:=λm=>sC m z) gb;simp only [XB,D6] at h ⊢;have hm:∀ m∈Fx (u::v::l'),m.1∈u::v::l'/\m.2∈u::v::l':=Tl _ _;generalize u::v::l'=l at *;obtain ⟨r,hr⟩:=nmE (Hh (Fl a) (u,v) (Fx l));rw [<-hr] at fa h ⊢;obtain ⟨P1,P2,hP,h1,h2⟩:=fa;have hrm:r∈Fx l:=by rw [hP]; simp
  have hrl:=hm r hrm;have key:∀ m∈Fx l,m=r\/He (Fl b) (G8 r.1.c r.2.c m.1.c m.2.c)=He (Fl a) (G8 r.1.c r.2.c m.1.c m.2.c):=λm hmm=>by
   have hml:=hm m hmm;by_cases e:ZX r m=true
   ·right;have h0:=h (No (Fl a) r.1 r.2 m.1 m.2) (by unfold Mr; exact List.mem_map.2 ⟨m,List.mem_filter.2 ⟨hmm,e⟩,rfl⟩);rw [LX] at h0; exact h0
   ·left;unfold ZX at e;simp at e;have e1:=oO hd hml.1 hrl.1 e.1;have e2:=oO hd hml.2 hrl.2 e.2;exact Prod.ext e1 e2
  have fb':Ds (λm=>sC m z) (Fx l) r:=by
   refine ⟨P1,P2,hP,λm hmm=>?_,λm hmm=>?_⟩
   ·have hmp:m∈Fx l:=by rw [hP]; simp [hmm]
    have hlt:=h1 m hmm;have hml:=hm m hmp;rcases key m hmp with e | e
    ·exfalso; rw [e] at hlt; dsimp only at hlt; grind
    ·rw [ga r m hrl.1 hrl.2 hml.1 hml.2,gb r m hrl.1 hrl.2 hml.1 hml.2] at e;dsimp only at hlt ⊢;rw [Hk.2 (by grind:0<sC m y-sC r y)] at e;have:=Hk.1 e; grind
   ·have hmp:m∈Fx l:=by rw [hP]; simp [hmm]
    have hlt:=h2 m hmm;have hml:=hm m hmp;rcases key m hmp with e | e
    ·rw [e]; exact Qp
    ·rw [ga r m hrl.1 hrl.2 hml.1 hml.2,gb r m hrl.1 hrl.2 hml.1 hml.2] at e;dsimp only at hlt ⊢;have t1:=Fv (sC m y-sC r y);have t2:=Fv (sC m z-sC r z);grind
  have er:=OF fb fb';rw [er];refine ⟨rfl,?_⟩;unfold Mr;refine Xt λm hmm=>?_
  have hmp:=(Yg.1 hmm).1;rcases key m hmp with e | e
  ·exfalso;have:=(Yg.1 hmm).2;rw [e] at this; unfold ZX at this; simp at this
  ·unfold No; rw [e]
theorem Qy0 {l:List Pt} (hl:∀ p∈l,Sc p.c) (hn:l.length≤10) (hd:l.Pairwise λx y=>x.id≠y.id):Stab (λa=>D6 (Fl a) l) (λa=>Uv (XB (Fl a) l)):=by
 have hcp:∀ a,∀ x∈D6 (Fl a) l,x.p∈PQ l:=λa x hx=>by
  match l,hx with
  |
   u::v::l',hx =>
   simp only [D6] at hx;obtain ⟨h3,h4⟩:=D4 (Fl a) (l:=u::v::l') (Fx (u::v::l')) (u,v) ⟨by simp,by simp⟩ (Tl _ _);obtain ⟨m,hm,rfl⟩:=IB hx;obtain ⟨h1,h2⟩:=Tl _ _ m hm;rw [LX];exact NU h3 h4 h1 h2
 refine ⟨⟨λa _ x hx=>WM hl _ (hcp a x hx),λa _=>?_⟩,⟨PQ l,WM hl,λa _=>hcp a⟩,λa b ha hb h=>?_⟩
 ·have:=qP (Fl a) l;have:l.length*l.length<=10*10:=Za hn hn;show (D6 (Fl a) l).length<=1000;omega
 ·obtain ⟨h1,h2⟩:=Qcu hl hd ha hb h;exact ⟨h2,by show Uv _=Uv _; rw [h1]⟩
end Orq
namespace Orr
open Go Go.Proofs Tryz Orq
set_option maxRecDepth 10000
def XS:Nat->Uq->Uq
 | _,[]=>[]
 | 0,x::l=>FQ x::l
 | k+1,x::l=>x::XS k l
theorem qG:∀ (k:Nat) (l:Uq),(XS k l).length=l.length
 | _,[]=>by cases ‹Nat› <;> rfl
 | 0,x::l=>rfl
 | k+1,x::l=>by simp only [XS,Q4,qG k l]
theorem qF:∀ (k:Nat) (l:Uq) {j:Nat} {y:LV},(XS k l)[j]? = some y->∃ x,l[j]? = some x/\(y=x\/y=FQ x)
 | 0,[],_,_,h=>by simp [XS] at h
 | _+1,[],_,_,h=>by simp [XS] at h
 | 0,x::l,0,y,h=>by simp [XS] at h; exact ⟨x,rfl,.inr h.symm⟩
 | 0,x::l,j+1,y,h=>by simp [XS] at h; exact ⟨y,by simpa using h,.inl rfl⟩
 | k+1,x::l,0,y,h=>by simp [XS] at h; exact ⟨x,rfl,.inl h.symm⟩
 |
  k+1,x::l,j+1,y,h=>by
  simp only [XS,Jj] at h;obtain ⟨z,h1,h2⟩:=qF k l h;exact ⟨z,by simpa using h1,h2⟩
theorem nlc {P:Program} [Mo P] {n:Nat} {Q:Exit->Sg->Us->Prop} {L:Sg} {B B':Us} (i d:Nat) {T:TypeId} {xs:Uq} {it:List It} (hs:H9 it=true) (hb:Aw B i=some (.blk T xs)) (hB:Ao B i (.blk T (XS d xs))=some B') (k:AK P n Q it L B'):AK P n Q it L B:=by
 obtain ⟨rfl,hl⟩:=Nh hB;have hbi:B[i]? = some (.blk T xs):=Sx ▸ hb;refine AK.sub (λF E M a w h=>⟨E,M,?_,h.size,h.defers,h.slots⟩) hs k;rw [KB,XN hbi];refine h.hs.re (λj=>?_) (λj=>?_) (λj=>?_) λj hj=>?_
 ·by_cases e:j=i
  ·subst e;rw [Fe];obtain ⟨g,c,m,h1,cs,h2,h3⟩:=h.blk hb;refine ⟨g,c,m,h1,cs,h2,F2.of (by rw [qG]; exact h3.len) λk v x hv hx=>?_⟩;obtain ⟨y,hy,hyx⟩:=qF _ _ hx;rcases hyx with rfl | rfl
   ·exact h3.get' hv hy
   ·exact iP (h3.get' hv hy)
  ·rw [Fz _ _ e]; exact h.hs.blk j
 ·by_cases e:j=i
  ·subst e; rw [Fe,Rr hbi]; rfl
  ·rw [Fz _ _ e]
 ·by_cases e:j=i
  ·subst e; rw [Fe,Rr hbi]; rfl
  ·rw [Fz _ _ e]
 ·by_cases e:j=i
  ·subst e; rw [Rr hbi] at hj; cases hj
  ·rw [Fz _ _ e]; exact hj
theorem UU {l m:Ur} (h:l=m):TV.one (LV.row l)=.one (.row m):=h ▸ rfl
theorem wB {a b:Crv} (ha:JR a) (hb:JR b) (ca:Cb a) (cb:Cb b):Ui 206 [.agg (cl a),.agg (cl b)] [pr (Re a b)]:=by
 obtain ⟨p1,l1,b1⟩:=rG ca cb;obtain ⟨p2,l2,b2⟩:=rU ca cb;have m1:=Rq (Fu a b) (Fu a b);have m2:=Rq (Ft a b) (Ft a b);have q1:=Mi (u:=5) b1 b1 (by omega);have q2:=Mi (u:=5) b2 b2 (by omega);exact Uf func206 rfl [.k (WA ha hb ca cb),.k (WL ha hb ca cb),.k (HY p1.t p1.t (by omega) (by omega) b1 b1 (by omega)),.k (HY p2.t p2.t (by omega) (by omega) b2 b2 (by omega)),.k (xR (by omega) (by omega) (Ux q1 (by omega)) (Ux q2 (by omega)))] rfl
theorem Qa5 {a b c d:Crv} (ha:JR a) (hb:JR b) (hc:JR c) (hd:JR d) (ca:Cb a) (cb:Cb b) (cc:Cb c) (cd:Cb d):Ui 169 [.agg (cl a),.agg (cl b),.agg (cl c),.agg (cl d)] [pr (G8 a b c d)]:=by
 have na:=Dh ha (ca.mono (by omega) (by omega));have nb:=Dh hb (cb.mono (by omega) (by omega));have nc:=Dh hc (cc.mono (by omega) (by omega));have nd:=Dh hd (cd.mono (by omega) (by omega));have s1:=nU ca cb;have s2:=nU cc cd;have s3:=aM ca cb;have s4:=aM cc cd;have da:=ca.d;have db:=cb.d;have dc:=cc.d;have dd:=cd.d;obtain ⟨t1,l1,b1⟩:=rF cc cd;obtain ⟨t2,l2,b2⟩:=rF ca cb;have k1:=Fh (Re c d) ((a.d*b.d)*(a.d*b.d));have k2:=Fh (Re a b) ((c.d*d.d)*(c.d*d.d));have w1:=Nj (Uy a.d) (Uy b.d) (by omega) (by omega);have w2:=Nj (Uy c.d) (Uy d.d) (by omega) (by omega);have w3:=Nj (Uy (a.d*b.d)) (Uy (a.d*b.d)) (by omega) (by omega);have w4:=Nj (Uy (c.d*d.d)) (Uy (c.d*d.d)) (by omega) (by omega);have p1:=Mz (p:=Re c d) (c:=(a.d*b.d)*(a.d*b.d)) (by omega) (Ux b1 (by omega)) (by omega);have p2:=Mz (p:=Re a b) (c:=(c.d*d.d)*(c.d*d.d)) (by omega) (Ux b2 (by omega)) (by omega);have p3:=HV (p:=Fo (Re c d) ((a.d*b.d)*(a.d*b.d))) (q:=Fo (Re a b) ((c.d*d.d)*(c.d*d.d))) (by omega) (by omega) (Ux (Gd b1 s3) (by omega)) (Ux (Gd b2 s4) (by omega));exact Uf func169 rfl [.k na,.k nb,.k w1,.k nc,.k nd,.k w2,.k (wB hc hd cc cd),.k w3,.k p1,.k (wB ha hb ca cb),.k w4,.k p2,.k p3] rfl
theorem NL {a b c d:Pt} (ha:Sc a.c) (hb:Sc b.c) (hc:Sc c.c) (hd:Sc d.c):Ui 169 [.agg (cl a.c),.agg (cl b.c),.agg (cl c.c),.agg (cl d.c)] [pr (G8 a.c b.c c.c d.c)]:=Qa5 ha.n hb.n hc.n hd.n ha.cb hb.cb hc.cb hd.cb
set_option maxHeartbeats 1000000 in
theorem Qmt {a b c d:Pt} {t:Tm} (ha:Sc a.c) (hb:Sc b.c) (hc:Sc c.c) (hd:Sc d.c) (ht:Va t):Ui 163 [.oi 5,.agg (ta t),.one (.row [U5 a,U5 b,U5 c,U5 d])] [.agg (Lm (No (Fl t) a b c d)),.oi 0]:=by
 have hp:=(KY ha hb hc hd).dp;have e:Lm (No (Fl t) a b c d)=[.int .i64 5,.int .i64 a.id,.int .i64 b.id,.int .i64 c.id,.int .i64 d.id,pl (G8 a.c b.c c.c d.c),.int .i64 (He (Fl t) (G8 a.c b.c c.c d.c))]:=by rw [No]
 rw [e];have cg:=TC hp ht;have cf:=NL ha hb hc hd;generalize G8 a.c b.c c.c d.c=F at *;refine Fw func163 rfl ?_;refine Uc [.k Qbi,.f rfl] rfl ?_;refine Uh (S:=Nat) 3 (λL1 i=>(22,.v (.oi i))::L1) (λi=>[.blk 189 (ta t),.blk 136 zCt,.blk 136 [.int .i64 5,.int .i64 (if 1<=i then a.id else 0),.int .i64 (if 2<=i then b.id else 0),.int .i64 (if 3<=i then c.id else 0),.int .i64 (if 4<=i then d.id else 0),.nils,.int .i64 0]]) (λi=>4-i) (λi=>i<=4) 0 (Qh _) rfl rfl λi hi=>?_
 rcases (show i=0\/i=1\/i=2\/i=3\/i=4 by omega) with rfl | rfl | rfl | rfl | rfl
 ·refine Uc [.t rfl,.x (i:=0) (xs:=U5 a) rfl,.i 0] rfl ?_ (by simp [Uw]);exact rd 1 (by omega) (by omega) rfl
 ·refine Uc [.t rfl,.x (i:=1) (xs:=U5 b) rfl,.i 1] rfl ?_ (by simp [Uw]);exact rd 2 (by omega) (by omega) rfl
 ·refine Uc [.t rfl,.x (i:=2) (xs:=U5 c) rfl,.i 2] rfl ?_ (by simp [Uw]);exact rd 3 (by omega) (by omega) rfl
 ·refine Uc [.t rfl,.x (i:=3) (xs:=U5 d) rfl,.i 3] rfl ?_ (by simp [Uw]);exact rd 4 (by omega) (by omega) rfl
 ·exact Ue [.f rfl,.f rfl,.f rfl,.f rfl,.f rfl,.x (i:=0) (xs:=U5 a) rfl,.x (i:=1) (xs:=U5 b) rfl,.x (i:=2) (xs:=U5 c) rfl,.x (i:=3) (xs:=U5 d) rfl,.k cf,.k cg] rfl
theorem Qtw {s m:Pt×Pt} {t:Tm} (h1:Sc s.1.c) (h2:Sc s.2.c) (h3:Sc m.1.c) (h4:Sc m.2.c) (ht:Va t):Uz prog 167 [.agg (U5 m.1),.agg (U5 m.2),.one (.ow 0 0),.one (.ow 1 0),.one (.ow 2 0)] [.blk 38 (U5 s.1),.blk 38 (U5 s.2),.blk 189 (ta t)] [] [.blk 38 (U5 (Po (Fl t) s m).1),.blk 38 (U5 (Po (Fl t) s m).2),.blk 189 (ta t)]:=by
 have cf:=NL h1 h2 h3 h4;have cg:=TC (KY h1 h2 h3 h4).dp ht;unfold Po;refine Fw func167 rfl ?_;by_cases h:He (Fl t) (G8 s.1.c s.2.c m.1.c m.2.c)<0
 ·rw [if_pos h];exact Ug [] [0,1,2] [.k cf,.k cg,.t (decide_eq_true h)] rfl
 ·rw [if_neg h];exact Ug [] [0,1,2] [.k cf,.k cg,.f (decide_eq_false h)] rfl
theorem Qtr {s m:Pt×Pt} {t:Tm} {L:List Ct} (h1:Sc s.1.c) (h2:Sc s.2.c) (h3:Sc m.1.c) (h4:Sc m.2.c) (ht:Va t) (hL:L.length<=1000000):Uz prog 170 [.agg (U5 m.1),.agg (U5 m.2),.one (.ow 0 0),.one (.ow 1 0),.one (.ow 2 0),.one (.ow 3 0)] [.blk 38 (U5 s.1),.blk 38 (U5 s.2),.blk 189 (ta t),.blk 79 [.orow 4 7 none],.row false 136 7 (Fg L)] [] [.blk 38 (U5 s.1),.blk 38 (U5 s.2),.blk 189 (ta t),.blk 79 [.orow 4 7 none],.row false 136 7 (Fg (if ZX s m=true then L++[No (Fl t) s.1 s.2 m.1 m.2] else L))]:=by
 have cm:=Qmt h1 h2 h3 h4 ht;have hq:∀ y∈[Lm (No (Fl t) s.1 s.2 m.1 m.2)],y.length=7:=λy hy=>by rw [Qk.1 hy]; rfl
 have hcl:=Nk L;have hsn:Fg (L++[No (Fl t) s.1 s.2 m.1 m.2])=Fg L++[Lm (No (Fl t) s.1 s.2 m.1 m.2)]:=by simp [Fg]
 refine Fw func170 rfl ?_;by_cases e1:m.1.id=s.1.id
 ·by_cases e2:m.2.id=s.2.id
  ·rw [if_neg (by simp [ZX,e1,e2])];exact Ug [] [0,1,2,3,4] [.g 15 false (by simp [e1]),.f (by simp [e2])] rfl
  ·rw [if_pos (by simp [ZX,e2]),hsn];exact Ug [] [0,1,2,3,4] [.g 15 false (by simp [e1]),.t (by simp [e2]),.k cm,.s (sz:=7) hq] rfl (by simp [Uw,hcl]; omega)
 ·rw [if_pos (by simp [ZX,e1]),hsn];exact Ug [] [0,1,2,3,4] [.g 15 true (by simp [e1]),.t rfl,.k cm,.s (sz:=7) hq] rfl (by simp [Uw,hcl]; omega)
theorem SH (M:List Pt):Hx 0 M=[]:=by cases M <;> rfl
def vX (M:List Pt) (x:Pt) (i j:Nat):List (Pt×Pt):=Hx i M++((M.drop (i+1)).take j).map (λy=>(x,y))
theorem rE (M:List Pt) (x:Pt) (i:Nat):vX M x i 0=Hx i M:=by rw [vX,Y7,Jb,Zv]
theorem rL {M:List Pt} {i j:Nat} {x y:Pt} (hy:(M.drop (i+1))[j]? = some y):vX M x i (j+1)=vX M x i j++[(x,y)]:=by
 unfold vX;rw [Z3,hy,Option.toList_some,Yf,Ze]; rfl
theorem oK {M:List Pt} {i j:Nat} {x:Pt} (hx:M[i]? = some x) (hj:(M.drop (i+1)).length<=j):vX M x i j=Hx (i+1) M:=by
 unfold vX;rw [Qn hj,D7 M i x hx]
theorem Qpi {M:List Pt} {i j:Nat} {x:Pt} (hx:M[i]? = some x):∀ m∈vX M x i j,m.1∈M/\m.2∈M:=λm hm=>by
 rcases Qq.1 hm with h | h
 ·exact Tl _ _ m h
 ·obtain ⟨y,hy,rfl⟩:=Q6.1 h;exact ⟨Qa hx,Q0 (Qo hy)⟩
theorem Qfo {l:List Pt} {t:Tm} {s0:Pt×Pt} (hl:∀ p∈l,Sc p.c) (hs:s0.1∈l/\s0.2∈l) (hn:l.length≤1000) (ht:Va t):Uz prog 166 [.one (pts l),.one (.ofn 167 [] [.ow 0 0,.ow 1 0,.ow 2 0])] [.blk 38 (U5 s0.1),.blk 38 (U5 s0.2),.blk 189 (ta t)] [] [.blk 38 (U5 (Hh (Fl t) s0 (Fx l)).1),.blk 38 (U5 (Hh (Fl t) s0 (Fx l)).2),.blk 189 (ta t)]:=by
 have hcl:=Gu l;have hsc:∀ ps:List (Pt×Pt),(∀ m∈ps,m.1∈l/\m.2∈l)->Sc (Hh (Fl t) s0 ps).1.c/\Sc (Hh (Fl t) s0 ps).2.c:=λps h=>by
  obtain ⟨h1,h2⟩:=D4 (Fl t) ps s0 hs h;exact ⟨hl _ h1,hl _ h2⟩
 show Uz prog 166 [.one (.row (Uv l)),.one (.ofn 167 [] [.ow 0 0,.ow 1 0,.ow 2 0])] _ _ _;refine Fw func166 rfl ?_;refine Uc [] rfl ?_;refine lp (S:=Nat) 3 (λL1 i=>(10,.v (.oi i))::L1) (λi=>[.blk 38 (U5 (Hh (Fl t) s0 (Hx i l)).1),.blk 38 (U5 (Hh (Fl t) s0 (Hx i l)).2),.blk 189 (ta t)]) (λi=>l.length-i) (λi=>i<=l.length) 0 (Qh _) rfl (λ_ _=>rfl) (by rw [SH]; rfl) λi hi=>?_
 by_cases hlt:i<l.length
 ·obtain ⟨x,hx⟩:=gxE (l:=l) (i:=i) hlt;have ed1:(Uv l).drop (i+1)=Uv (l.drop (i+1)):=by simp [Uv,Vh]
  have hdl:=Gu (l.drop (i+1));have hdl2:(l.drop (i+1)).length<=1000:=by rw [Q9]; omega
  rw [<-rE l x i];refine go tt [.t (by simp [hcl]; omega),.x (Sp hx),.r 17 (eI (b:=((i+1:Nat):Int)) (by simp)),.i (i+1),.r 18 (UU ed1)] rfl (by simp [Uw,Gu,eq_true (p:=∀ z,z∈Uv l->z.length=ti38.sz) (YT l)]; omega) ?_;refine Uh (S:=Nat) 4 (λL1 j=>(20,.v (.oi j))::L1) (λj=>[.blk 38 (U5 (Hh (Fl t) s0 (vX l x i j)).1),.blk 38 (U5 (Hh (Fl t) s0 (vX l x i j)).2),.blk 189 (ta t),.blk 38 (U5 x)]) (λj=>(l.drop (i+1)).length-j) (λj=>j<=(l.drop (i+1)).length) 0 (Qh _) rfl rfl λj hj=>?_
  by_cases hltj:j<(l.drop (i+1)).length
  ·obtain ⟨y,hy⟩:=gxE (l:=(l.drop (i+1))) (i:=j) hltj;obtain ⟨s1,s2⟩:=hsc (vX l x i j) (Qpi hx);have cn:=Qtw (s:=Hh (Fl t) s0 (vX l x i j)) (m:=(x,y)) s1 s2 (hl x (Qa hx)) (hl y (Q0 (Qa hy))) ht;rw [<-yH,<-rL hy] at cn;refine go tt [.T,.x (Sp hy),.c [0,1,2] cn] rfl (by simp [Uw,-List.length_drop]; omega) ?_;exact rd (j+1) (by omega) hltj rfl
  ·have e:=oK hx (J7 hltj);rw [e];refine go tt [.F] rfl (by simp [Uw,-List.length_drop]; omega) ?_;exact rd (i+1) (by omega) hlt rfl
 ·obtain rfl:i=l.length:=by omega
  exact Ug [] [0,1,2] [.f (by simp [hcl])] rfl
theorem Qfp {l:List Pt} {t:Tm} {s:Pt×Pt} (hl:∀ p∈l,Sc p.c) (hs:s.1∈l/\s.2∈l) (hn:l.length≤10) (ht:Va t):Uz prog 166 [.one (pts l),.one (.ofn 170 [] [.ow 0 0,.ow 1 0,.ow 2 0,.ow 3 0])] [.blk 38 (U5 s.1),.blk 38 (U5 s.2),.blk 189 (ta t),.blk 79 [.orow 4 7 none],.row false 136 7 []] [] [.blk 38 (U5 s.1),.blk 38 (U5 s.2),.blk 189 (ta t),.blk 79 [.orow 4 7 none],.row false 136 7 (Fg (Mr (Fl t) s (Fx l)))]:=by
 have hcl:=Gu l;have hpk:∀ i,i<=l.length->(Hx i l).length<=100:=λi hi=>by
  have:=KL i l;have:i*l.length<=10*10:=Za (by omega) hn;omega
 show Uz prog 166 [.one (.row (Uv l)),.one (.ofn 170 [] [.ow 0 0,.ow 1 0,.ow 2 0,.ow 3 0])] _ _ _;refine Fw func166 rfl ?_;refine Uc [] rfl ?_;refine lp (S:=Nat) 5 (λL1 i=>(10,.v (.oi i))::L1) (λi=>[.blk 38 (U5 s.1),.blk 38 (U5 s.2),.blk 189 (ta t),.blk 79 [.orow 4 7 none],.row false 136 7 (Fg (Mr (Fl t) s (Hx i l)))]) (λi=>l.length-i) (λi=>i<=l.length) 0 (Qh _) rfl (λ_ _=>rfl) (by rw [SH]; rfl) λi hi=>?_
 by_cases hlt:i<l.length
 ·obtain ⟨x,hx⟩:=gxE (l:=l) (i:=i) hlt;have ed1:(Uv l).drop (i+1)=Uv (l.drop (i+1)):=by simp [Uv,Vh]
  have hdl:=Gu (l.drop (i+1));have hdl2:(l.drop (i+1)).length<=10:=by rw [Q9]; omega
  rw [<-rE l x i];refine go tt [.t (by simp [hcl]; omega),.x (Sp hx),.r 17 (eI (b:=((i+1:Nat):Int)) (by simp)),.i (i+1),.r 18 (UU ed1)] rfl (by simp [Uw,Gu,eq_true (p:=∀ z,z∈Uv l->z.length=ti38.sz) (YT l)]; omega) ?_;refine Uh (S:=Nat) 6 (λL1 j=>(20,.v (.oi j))::L1) (λj=>[.blk 38 (U5 s.1),.blk 38 (U5 s.2),.blk 189 (ta t),.blk 79 [.orow 4 7 none],.row false 136 7 (Fg (Mr (Fl t) s (vX l x i j))),.blk 38 (U5 x)]) (λj=>(l.drop (i+1)).length-j) (λj=>j<=(l.drop (i+1)).length) 0 (Qh _) rfl rfl λj hj=>?_
  by_cases hltj:j<(l.drop (i+1)).length
  ·obtain ⟨y,hy⟩:=gxE (l:=(l.drop (i+1))) (i:=j) hltj;have hdn:(Mr (Fl t) s (vX l x i j)).length<=1000000:=by
    refine Qc (IN _ _ _) ?_;unfold vX;rw [Qu,Q8,Qr];have:=hpk i hi; omega
   have cn:=Qtr (s:=s) (m:=(x,y)) (L:=Mr (Fl t) s (vX l x i j)) (hl _ hs.1) (hl _ hs.2) (hl x (Qa hx)) (hl y (Q0 (Qa hy))) ht hdn;have en1:(if ZX s (x,y)=true then Mr (Fl t) s (vX l x i j)++[No (Fl t) s.1 s.2 x y] else Mr (Fl t) s (vX l x i j))=Mr (Fl t) s (vX l x i (j+1)):=by
    rw [rL hy];cases h:ZX s (x,y) with
    | true=>rw [if_pos rfl,Qn6 h]
    | false=>rw [if_neg (by decide),Qn5 h]
   dsimp only at cn;rw [en1] at cn;refine go tt [.T,.x (Sp hy),.c [0,1,2,3,4] cn] rfl (by simp [Uw,-List.length_drop]; omega) ?_;exact rd (j+1) (by omega) hltj rfl
  ·have e:=oK hx (J7 hltj);rw [e];refine go tt [.F] rfl (by simp [Uw,-List.length_drop]; omega) ?_;exact rd (i+1) (by omega) hlt rfl
 ·obtain rfl:i=l.length:=by omega
  exact Ug [] [0,1,2,3,4] [.f (by simp [hcl])] rfl
theorem IW {l:List Pt} {a:Tm} {c:Cr} {r1:Ur} (hl:∀ p∈l,Sc p.c) (hn:l.length≤10) (ha:Va a):Uz prog 130 [.one (.ow 0 0),.agg (ta a)] [.blk 203 (Hn c (Uv l) r1)] [.one (.row (Fg (D6 (Fl a) l)))] [.blk 203 (Hn c (Uv l) (Uv (XB (Fl a) l)))]:=by
 have hcl:=Gu l;refine Fw func130 rfl ?_;by_cases h2:l.length<2
 ·obtain ⟨e1,e2⟩:=Qct (Fl a) h2;rw [e1,e2];refine Uc [.k Ii] rfl ?_;refine nlc 0 13 rfl rfl rfl ?_;have hml:(l.map U5).length=l.length:=Q8 _;exact Ug [] [0] [.T] rfl
 ·obtain ⟨x,y,l',rfl⟩:=Qwg h2;obtain ⟨l,hle⟩:=nmE (x::y::l');have hx0:(Uv l)[0]? = some (U5 x):=by rw [hle]; rfl
  have hy0:(Uv l)[1]? = some (U5 y):=by rw [hle]; rfl
  have hxl:x∈l:=by rw [hle]; simp
  have hyl:y∈l:=by rw [hle]; simp
  have eB:XB (Fl a) (x::y::l')=[(Hh (Fl a) (x,y) (Fx l)).1,(Hh (Fl a) (x,y) (Fx l)).2]:=by rw [hle]; rfl
  have eC:D6 (Fl a) (x::y::l')=Mr (Fl a) (Hh (Fl a) (x,y) (Fx l)) (Fx l):=by rw [hle]; rfl
  rw [eB,eC];rw [<-hle] at hl hn h2 hcl ⊢;have c1:=Qfo (t:=a) (s0:=(x,y)) hl ⟨hxl,hyl⟩ (by omega) ha;obtain ⟨n1,n2⟩:=D4 (Fl a) (l:=l) (Fx l) (x,y) ⟨hxl,hyl⟩ (Tl _ _);generalize Hh (Fl a) (x,y) (Fx l)=s at *;have c2:=Qfp (t:=a) (s:=s) hl ⟨n1,n2⟩ hn ha;have hml:(l.map U5).length=l.length:=Q8 _;exact Ug [5] [0] [.k Ii,.F,.x hx0,.x hy0,.c [2,3,1] c1,.oc 8 0 136 7,.c [2,3,1,4,5] c2] rfl
theorem Qtd {T:Nat} {t:Rat} {Bc:Tm->List Ct} {Br:Tm->Ur} {r0:Ur} (ht:Qs 1640000 t) (hB:BuildOk Bc)
 (hb:∀ a c r1,Va a->CrOk c->Uz prog 130 [.one (.ow 0 0),.agg (ta a)] [.blk T (Hn c r0 r1)] [.one (.row (Fg (Bc a)))] [.blk T (Hn c r0 (Br a))])
 {K:Nat} {c c':Cr} {r1 r1':Ur} {n:Int} (hc:CrOk c) (hev:0<=c.ev/\c.ev+K<=1000000000000000000) (h:Ff c.now t<=0) (hg:WS Bc Br t K c r1 0=some (c',r1',n)) :
 Uz prog 366 [.one (.ow 0 0),.agg (rl t),.one (.ofn 130 [.ow 0 0] [])] [.blk T (Hn c r0 r1)] [.oi n,.oi 0] [.blk T (Hn c' r0 r1')]:=by
 have qt:Qb t:=ht.mono (by decide);have c1:=C0 hc.n.tb qt;refine Fw func366 rfl ?_;refine Uc [.c [0] (O8 hc.n),.k c1,.f (by simpa using h)] rfl ?_;refine Uh (S:=Nat×Cr×Ur×Int) 2 (λL1 s=>(8,.v (.oi s.2.2.2))::L1) (λs=>[.blk T (Hn s.2.1 r0 s.2.2.1),.blk 40 (rl t)]) (λs=>s.1) (λs=>CrOk s.2.1/\(0<=s.2.1.ev/\s.2.1.ev+s.1<=1000000000000000000)/\(0<=s.2.2.2/\s.2.2.2+s.1<=1000000000000000000)/\WS Bc Br t s.1 s.2.1 s.2.2.1 s.2.2.2=some (c',r1',n)) (K,c,r1,0) ⟨hc,hev,⟨Int.le_refl 0,by dsimp only; omega⟩,hg⟩ rfl rfl λ⟨k,x,r,m⟩ ⟨j1,j2,j3,j4⟩=>?_
 dsimp only at j1 j2 j3 j4 ⊢;cases k with
 | zero=>cases j4
 |
  succ k =>
  simp only [WS] at j4;obtain ⟨ws,w1,j4⟩:=Qd.1 j4;obtain ⟨o,o1,j4⟩:=Qd.1 j4;have cn:=PC (T:=T) (r0:=r0) (r1:=r) j1 w1 o1;have ca:=VG (Uy t.num) (Uy (t.den:Int)) (Qc ht.1 (by decide)) (Qc ht.2 (by decide)) (by rw [Pa]; exact ht.mono (by decide));rw [Pa] at ca;cases o with
  |
   none =>
   injection j4 with j4; injection j4 with e1 j4; injection j4 with e2 e3;subst e1; subst e2; subst e3;exact Ug [] [0] [.c [0] cn,.g 25 true rfl,.t rfl,.k ca] rfl
  |
   some a =>
   have ha:=LK j1 w1 o1;dsimp only at j4;have cc:=C0 ha.tb qt;by_cases h0:0<Ff a t
   ·rw [if_pos h0] at j4;injection j4 with j4; injection j4 with e1 j4; injection j4 with e2 e3;subst e1; subst e2; subst e3;exact Ug [] [0] [.c [0] cn,.g 25 false rfl,.k cc,.t (by simpa using h0),.k ca] rfl
   ·rw [if_neg h0] at j4;obtain ⟨w2,l1,j4⟩:=Qd.1 j4;have j1':=L9 j1 w1;have cl:=Sy (b:=a) (l:=[]) ha.tb (λt ht=>by cases ht) (by decide) rfl;have cb:=hb a { x with l:=ws } r ha j1';have cy:=WE (T:=T) (r0:=r0) (r1:=Br a) j1' ha (hB.p a ha) (hB.n a ha) l1;have hf:decide (0<Ff a t)=false:=by simpa using h0
    refine Ud [.c [0] cn,.g 25 false rfl,.k cc,.f hf,.k cl,.c [0] cb,.c [0] cy] rfl ?_;exact rd (k,⟨a,w2,x.ev+1⟩,Br a,m+1) (by dsimp only; omega) ⟨lay_ok _ j1' ha (hB.p a ha) (hB.n a ha) l1,by dsimp only; omega,by dsimp only; omega,j4⟩ rfl
end Orr
namespace Orr
open Go
def Rx:Un->Nat
 | []=>0
 | x::l=>x+10000*Rx l
def Dg (l:Un):Prop:=∀ x∈l,x<10000
def Ge (x:Nat):Un:=if h:x=0 then [] else (x % 10000)::Ge (x / 10000)
termination_by x
decreasing_by omega
theorem Hw:Ge 0=[]:=by unfold Ge; simp
theorem JI {x:Nat} (h:x≠0):Ge x=(x % 10000)::Ge (x / 10000):=by rw [Ge]; simp [h]
theorem H6 (x:Nat):Rx (Ge x)=x:=by
 induction x using Nat.strongRecOn with
 |
  _ x ih =>
  rcases Q3 x with h | h
  ·subst h; rw [Hw]; rfl
  ·rw [JI (by omega)];simp only [Rx];rw [ih _ (by omega)]; omega
theorem Bw (x:Nat):Dg (Ge x):=by
 induction x using Nat.strongRecOn with
 |
  _ x ih =>
  rcases Q3 x with h | h
  ·subst h; rw [Hw]; intro y hy; cases hy
  ·rw [JI (by omega)];intro y hy;rcases Qm.1 hy with rfl | hy
   ·omega
   ·exact ih _ (by omega) y hy
theorem MY {x:Nat}:(Ge x).length=0↔x=0:=by
 constructor
 ·intro h;have h0:=Qj h;have:=H6 x;rw [h0] at this;exact this.symm
 ·rintro rfl; rw [Hw]; rfl
theorem A6 {x:Nat} (h:x≠0):(Ge (x / 10000)).length+1=(Ge x).length:=by rw [JI h]; rfl
theorem Qbu {x:Nat} (h:x<1000000000000):(Ge x).length<=3:=by
 by_cases h0:x=0
 ·subst h0; rw [Hw]; exact Qh _
 ·have h1:=A6 h0;by_cases h2:x / 10000=0
  ·rw [h2,Hw] at h1; simp at h1; omega
  ·have h3:=A6 h2;by_cases h4:x / 10000 / 10000=0
   ·rw [h4,Hw] at h3; simp at h3; omega
   ·have h5:=A6 h4;have h6:x / 10000 / 10000 / 10000=0:=by omega
    rw [h6,Hw] at h5; simp at h5; omega
theorem Mj (x:Nat):(Ge x).length<=sz x:=by
 induction x using Nat.strongRecOn with
 |
  _ x ih =>
  by_cases h0:x=0
  ·subst h0; rw [Hw]; exact Qh _
  ·have h1:=A6 h0;have h2:=ih (x / 10000) (by omega);have h3:sz (x / 10000)+1<=sz x:=by
    have h4:x<2^sz x:=UI x;rcases hs:sz x with _ | k
    ·rw [hs] at h4; simp at h4; omega
    ·rw [hs] at h4;have:sz (x / 10000)<=k:=Be.2 (by rw [Zr] at h4; omega);omega
   omega
theorem S9 (a b:Un):Rx (a++b)=Rx a+10000^a.length*Rx b:=by
 induction a with
 | nil=>simp [Rx]
 |
  cons x a ih =>
  simp only [Xd,Rx,ih,Q4,Zr];rw [Xk,<-X4,Zq 10000 (10000^a.length)]; omega
theorem Tj {l:Un} {i x:Nat} (h:l[i]? = some x):Rx (l.take (i+1))=Rx (l.take i)+10000^i*x:=by
 have hi:=(Qf.1 h).1;rw [show l.take (i+1)=l.take i++[x] by rw [Z3,h]; rfl,S9,Qr,Zx (by omega)];simp [Rx]
theorem CV:∀ {l:Un},Dg l->Rx l<10000^l.length
 | [],_=>by simp [Rx]
 |
  x::l,h=>by
  have h1:=h x (Qy ..);have h2:=CV (l:=l) λy hy=>h y (Qg _ hy)
  simp only [Rx,Q4,Zr]; omega
theorem CW:∀ {l:Un},(∀ x∈l,x=0)->Rx l=0
 | [],_=>rfl
 |
  x::l,h=>by
  have h1:=h x (Qy ..);have h2:=CW (l:=l) λy hy=>h y (Qg _ hy)
  simp [Rx,h1,h2]
theorem Dg.take {l:Un} (h:Dg l) (k:Nat):Dg (l.take k):=λx hx=>h x (Qo hx)
theorem Dg.snoc {l:Un} (h:Dg l) {x:Nat} (hx:x<10000):Dg (l++[x]):=by
 intro y hy;rcases Qq.1 hy with hy | hy
 ·exact h y hy
 ·rw [Qk.1 hy]; exact hx
theorem Dg.nil:Dg []:=λx h=>by cases h
theorem mH:∀ {l:Un},Dg l->(∀ x,l[l.length-1]? = some x->x≠0)->l=Ge (Rx l)
 | [],_,_=>by rw [Rx,Hw]
 |
  x::l,h,hl=>by
  have h1:=h x (Qy ..);have h2:l=Ge (Rx l):=mH (λy hy=>h y (Qg _ hy)) λy hy=>hl y (by
   rcases l with _ | ⟨z,t⟩
   ·simp at hy
   ·simpa using hy)
  have h3:x+10000*Rx l≠0:=by
   intro e;have hx:x=0:=by omega
   have hd:Rx l=0:=by omega
   rw [hd,Hw] at h2;subst h2;exact hl x rfl hx
  simp only [Rx];rw [JI h3,show (x+10000*Rx l) % 10000=x by omega,show (x+10000*Rx l) / 10000=Rx l by omega,<-h2]
theorem uR {l:Un} {m:Nat} (hd:Dg l) (hm:m<=l.length) (h1:∀ j x,m<=j->l[j]? = some x->x=0) (h2:0<m->∃ y,l[m-1]? = some y/\y≠0):l.take m=Ge (Rx l):=by
 have e:Rx l=Rx (l.take m):=by
  conv=>lhs; rw [<-Zi m l,S9]
  rw [CW (l:=l.drop m) λx hx=>?_]
  ·omega
  ·obtain ⟨j,hj⟩:=Zm.1 hx;rw [Xe] at hj;exact h1 (m+j) x (by omega) hj
 rw [e];refine mH (hd.take m) λx hx=>?_
 have hl:(l.take m).length=m:=by rw [Qr]; omega
 rw [hl] at hx;rcases Q3 m with h0 | h0
 ·subst h0; simp at hx
 ·obtain ⟨y,hy,hy0⟩:=h2 h0;rw [Kf (by omega),hy] at hx;injection hx with hx; rw [<-hx]; exact hy0
theorem IC {o c i d m P V:Nat} (hP:P=10000^i) (h:o+c*P=V):o+P*((c+d*m) % 10000)+(c+d*m) / 10000*(P*10000)=V+P*d*m:=by
 have e:=Xg (c+d*m) 10000;generalize (c+d*m) / 10000=q at *;generalize (c+d*m) % 10000=r at *;have e2:P*(c+d*m)=P*(10000*q+r):=by rw [e]
 grind
theorem ZN {x y:Nat} (h:x<=y):(Ge x).length<=(Ge y).length:=by
 induction y using Nat.strongRecOn generalizing x with
 |
  _ y ih =>
  by_cases h0:x=0
  ·subst h0; rw [Hw]; exact Qh _
  ·have h1:=A6 h0;have h2:=A6 (x:=y) (by omega);have:=ih (y / 10000) (by omega) (x:=x / 10000) (Nat.div_le_div_right h);omega
theorem Qbt {n x:Nat} (h:10000^n<=x):n+1<=(Ge x).length:=by
 have h1:=CV (Bw x);rw [H6] at h1;have h2:n<(Ge x).length:=(Nat.pow_lt_pow_iff_right (by decide)).1 (Z2 h h1);omega
theorem uG {x y:Nat} (h:(Ge x).length<(Ge y).length):x<y:=by
 rcases Zd x y with h1 | h1
 ·exact h1
 ·have:=ZN h1; omega
theorem Qbv {k y:Nat} (h:y<10000^k):(Ge y).length<=k:=by
 induction k generalizing y with
 |
  zero =>
  have:y=0:=by simpa using h
  subst this; rw [Hw]; exact Ql _
 |
  succ k ih =>
  by_cases hy0:y=0
  ·subst hy0; rw [Hw]; exact Qh _
  ·have h8:=A6 hy0;have:=ih (y:=y / 10000) (by rw [Zr] at h; omega);omega
theorem Qgh {o:Un} (h:Dg o) (hl:o.length<=(Ge (Rx o)).length):o=Ge (Rx o):=by
 refine mH h λx hx h0=>?_
 subst h0;have hne:0<o.length:=by
  rcases o with _ | ⟨a,o⟩
  ·simp at hx
  ·simp
 have h1:Rx o=Rx (o.take (o.length-1)):=by
  have:=Tj hx;rw [show o.length-1+1=o.length by omega,Q7] at this;omega
 have h2:=CV (h.take (o.length-1));rw [<-h1,Qr,Zx (by omega)] at h2;have:=Qbv h2;omega
theorem ZD {l:Un} {j d:Nat} (h:l[j]? = some d):Rx (l.drop j)=d+10000*Rx (l.drop (j+1)):=by
 obtain ⟨hj,he⟩:=Qf.1 h;rw [Zu hj,he]; rfl
theorem HT {l:Un} {j y:Nat} (h:j<l.length):(l.set j y).drop j=y::l.drop (j+1):=by
 rw [Zu (by simpa using h)];simp only [List.getElem_set_self];rw [List.drop_set_of_lt (by omega)]
theorem Dg.set {l:Un} (h:Dg l) {j y:Nat} (hy:y<10000):Dg (l.set j y):=by
 intro x hx;rcases Jp hx with hx | rfl
 ·exact h x hx
 ·exact hy
theorem Dg.zeros (n:Nat):Dg (List.replicate n 0):=by
 intro x hx; rw [Zw hx]; decide
theorem uN {V kd d:Nat} (hk:0<kd):(d+10000*V) / kd=(V % kd*10000+d) / kd+10000*(V / kd)/\(d+10000*V) % kd=(V % kd*10000+d) % kd/\(d<10000->(V % kd*10000+d) / kd<10000):=by
 have e:=Xg V kd;have e2:d+10000*V=(V % kd*10000+d)+kd*(10000*(V / kd)):=by
  conv=>lhs; rw [<-e]
  grind
 refine ⟨?_,?_,λhd=>?_⟩
 ·rw [e2,We _ _ hk]
 ·rw [e2,Kb]
 ·have:=Z7 V hk;exact (Vx hk).2 (by grind)
theorem MV (l:Un) (j:Nat) (h:j<=l.length):Rx l=Rx (l.take j)+10000^j*Rx (l.drop j):=by
 conv=>lhs; rw [<-Zi j l,S9]
 rw [Qr,Zx h]
theorem CQ {a b:Un} {j d e:Nat} (ha:Dg a) (hd:a[j]? = some d) (he:b[j]? = some e) (hs:a.drop (j+1)=b.drop (j+1)) (h:d<e):Rx a<Rx b:=by
 have h1:=(Qf.1 hd).1;have h2:=(Qf.1 he).1;rw [MV a j (by omega),MV b j (by omega),ZD hd,ZD he,hs];have h3:=CV (ha.take j);rw [Qr,Zx (by omega)] at h3;generalize 10000^j=P at *;have h4:P*(d+10000*Rx (b.drop (j+1)))+P<=P*(e+10000*Rx (b.drop (j+1))):=by
  rw [<-Nat.mul_succ]; exact Zp _ (by omega)
 omega
def dl (l:Un):LV:=.row (l.map λ(x:Nat)=>[.int .i64 (x:Int)])
theorem Tn (l:Un):(l.map λ(x:Nat)=>[LV.int .i64 (x:Int)]).length=l.length:=by simp
theorem Gq {l:Un} {i x:Nat} (h:l[i]? = some x):(l.map λ(x:Nat)=>[LV.int .i64 (x:Int)])[i]? = some [.int .i64 (x:Int)]:=by rw [Zb,h]; rfl
abbrev nd (x:Nat):LV:=dl (Ge x)
end Orr
namespace Orr
open Go Go.Proofs Tryz
set_option maxRecDepth 10000
abbrev Bl (l:Un):Ur:=l.map λ(x:Nat)=>[.int .i64 (x:Int)]
theorem Que (l:Un):∀ c∈Bl l,c.length=1:=λc hc=>by obtain ⟨x,_,rfl⟩:=Q6.1 hc; rfl
theorem HW {l:Un} (hd:Dg l):Ui 154 [.one (.row (Bl l))] [.one (nd (Rx l))]:=by
 refine Fw func154 rfl (ln 0 rfl rfl λhl=>?_);rw [Q8] at hl;refine Uc [] rfl ?_;refine lp (S:=Nat) 0 (λL1 n=>(3,.v (.oi n))::L1) (λ_=>[]) id (λn=>n<=l.length/\∀ j x,n<=j->l[j]? = some x->x=0) (Bl l).length ⟨by simp,λj x h1 h2=>by
  have:=(Qf.1 h2).1; simp at h1; omega⟩ rfl (λ_ _=>rfl) rfl λn ⟨h1,h2⟩=>?_
 cases n with
 | zero=>exact Ue [.g 8 false (by simp),.f rfl,.i 0] rfl (by have:=uR hd h1 h2 (λh=>by omega); unfold nd; rw [<-this]; simp [dl]) (by simp [Uw])
 |
  succ n =>
  obtain ⟨x,hx⟩:=gxE (l:=l) (i:=n) (by omega);by_cases h0:x=0
  ·refine Ud [.g 8 true (by simp),.r 11 (v:=.oi n) (by simp),.x (Gq hx),.t (by simp [h0]),.r 17 (v:=.oi n) (by simp)] rfl ?_;exact rd n (by simp) ⟨by omega,λj y h3 h4=>by
    rcases Vl h3 with rfl | h3
    ·rw [hx] at h4; injection h4 with h4; rw [<-h4,h0]
    ·exact h2 j y h3 h4⟩ rfl
  ·exact Ue [.g 8 true (by simp),.r 11 (v:=.oi n) (by simp),.x (Gq hx),.f (by simp [h0]),.i (n+1)] rfl (by have:=uR hd h1 h2 (λ_=>⟨x,hx,h0⟩); unfold nd; rw [<-this]; simp [dl,List.map_take]) (by simp [Uw] <;> omega)
theorem lD {x kd:Nat} (hxs:sz x<=100000000) (hk:0<kd/\kd<=65536):Ui 118 [.one (nd x),.oi kd] [.one (nd (x / kd)),.oi ((x % kd:Nat):Int)]:=by
 have hln:=Qc (Mj x) hxs;obtain ⟨l,hl⟩:=nmE (Ge x);have hx:Rx l=x:=by rw [hl,H6]
 have hd:Dg l:=by rw [hl]; exact Bw x
 show Ui 118 [.one (.row (Bl (Ge x))),.oi kd] _;rw [<-hl] at hln ⊢;rw [<-hx];have hll:=Tn l;refine Fw func118 rfl ?_;refine Ud [.i (Bl l).length,.i (Bl l).length] rfl ?_;rw [hll,show List.replicate l.length [LV.int .i64 0]=Bl (List.replicate l.length 0) from by simp [Bl]];refine Uh (S:=Nat×Un×Nat) 1 (λL1 s=>(8,.v (.oi ((s.1:Int)-1)))::(7,.v (.oi (s.2.2:Int)))::L1) (λs=>[.row false 3 1 (Bl s.2.1)]) (λs=>s.1) (λs=>s.1<=l.length/\s.2.1.length=l.length/\Dg s.2.1/\Rx (s.2.1.drop s.1)=Rx (l.drop s.1) / kd/\s.2.2=Rx (l.drop s.1) % kd) (l.length,List.replicate l.length 0,0) ⟨Ql _,by simp,Dg.zeros _,by simp [Rx],by simp [Rx]⟩ rfl rfl λ⟨k,o,R⟩ ⟨j1,j2,j3,j4,hR⟩=>?_
 dsimp only at j1 j2 j3 j4 hR ⊢;cases k with
 |
  zero =>
  have cc:=HW j3;rw [X9,X9] at j4;rw [j4] at cc;exact Ue [.f (by simp),.k cc] rfl (by rw [hR,X9]) trivial
 |
  succ k =>
  obtain ⟨d,hdk⟩:=gxE (l:=l) (i:=k) (by omega);have hd0:=hd d (Qa hdk);have hdd:=ZD hdk;obtain ⟨s1,s2,s3⟩:=uN (V:=Rx (l.drop (k+1))) (kd:=kd) (d:=d) hk.1;rw [<-hdd] at s1 s2;have hr:=Z7 (Rx (l.drop (k+1))) hk.1;rw [<-hR] at s1 s2 s3 hr;have e:((k+1:Nat):Int)-1=(k:Int):=by omega
  have htd:((R:Int)*10000+(d:Int)).tdiv (kd:Int)=(((R*10000+d) / kd:Nat):Int):=rfl;have hle:=Jz (R*10000+d) kd;have htb:0<=((R:Int)*10000+(d:Int)).tdiv (kd:Int)/\((R:Int)*10000+(d:Int)).tdiv (kd:Int)<=655369999:=by
   rw [htd]; revert hle; generalize (R*10000+d) / kd=Q; intro hle; omega
  rw [e];refine Ud [.t (by simp),.x (Gq hdk),.r 26 (eI (b:=((R*10000+d:Nat):Int)) (by omega)),.r 31 (eI (b:=(((R*10000+d) / kd:Nat):Int)) (by rfl)),.i k,.r 35 (eI (b:=(((R*10000+d) % kd:Nat):Int)) (by rfl))] rfl ?_;exact rd (k,o.set k ((R*10000+d) / kd),(R*10000+d) % kd) (by dsimp only; omega) ⟨by dsimp only; omega,by simp [j2],j3.set (s3 hd0),by dsimp only; rw [HT (by omega)]; simp only [Rx]; rw [j4,s1],by dsimp only; exact s2.symm⟩ (by simp [Bl,List.map_set]; rfl)
theorem Qwd (x k:Nat):sz (x / k)<=sz x:=Sw (Jz _ _)
theorem nT {x y:Nat} {o:Un} (h:Fy x=o++Fy y) (h0:y≠0):Fy x=(o++[y % 4294967296])++Fy (y / 4294967296):=by
 rw [h,Ei h0]; simp
theorem Qor (o:Un) (z:Nat):lm (o++[z])=lm o++[[.int .u32 (z:Int)]]:=by simp [lm]
theorem Qxu {x:Nat} (hx:sz x<=100000000):Ui 76 [.one (nd x)] [lr (Fy x)]:=by
 have hlx:=Tf hx;refine Fw func76 rfl ?_;refine Uc [.o 3 113 1] rfl ?_;refine Uh (S:=Nat×Un) 1 (λL1 s=>(0,.v (.one (nd s.1)))::(3,.v (.one (.orow 0 1 none)))::L1) (λs=>[.row false 113 1 (lm s.2)]) (λs=>s.1) (λs=>Fy x=s.2++Fy s.1/\s.1<=x) (x,[]) ⟨rfl,Ql _⟩ rfl rfl λ⟨y,o⟩ ⟨j1,j2⟩=>?_
 dsimp only at j1 j2 ⊢;by_cases h0:y=0
 ·subst h0;rw [Gz,Zv] at j1;rw [j1];exact Ue [.f (by simp [Hw])] rfl
 ·have hs:=nT j1 h0;have hsy:sz y<=100000000:=Qc (Sw j2) hx;have c1:=lD (x:=y) (kd:=65536) hsy (by decide);have c2:=lD (x:=y / 65536) (kd:=65536) (Qc (Qwd _ _) hsy) (by decide);have hl:(Ge y).length≠0:=λh=>h0 (MY.1 h)
  have ol:o.length<=(Fy x).length:=by rw [j1]; simp
  have e:y / 65536 % 65536*65536+y % 65536=y % 4294967296:=by omega
  have e2:y / 65536 / 65536=y / 4294967296:=by omega
  refine go tt [.t (by simp; omega),.k c1,.k c2,.r 26 (E4 (b:=((y % 4294967296:Nat):Int)) (by omega)),.s (sz:=1) (l:=[[.int .u32 ((y % 4294967296:Nat):Int)]]) (λc hc=>by rw [Qk.1 hc]; rfl)] rfl (by simp [Uw,U0]; omega) ?_;rw [<-e2] at hs;exact rd (y / 65536 / 65536,o++[y % 4294967296]) (by dsimp only; omega) ⟨hs,by dsimp only; omega⟩ (by rw [Qor]; rfl)
abbrev ri (z:Int):Uq:=[nd z.natAbs,sg z]
theorem Qyq (b:Bool) (m:Nat):[nd m,LV.bool (b && decide (0<m))]=ri (U8 b m):=by
 simp only [ri,sg,Rm,LU]
theorem Qvk (x:Nat):(0<(Ge x).length)↔0<x:=by
 have:=MY (x:=x); omega
theorem QQ (b:Bool) (m:Nat):Ui 77 [.one (nd m),.one (.bool b)] [.agg (ri (U8 b m))]:=by
 rw [<-Qyq];have e:=Qvk m;cases b with
 | false=>exact Uf func77 rfl [.g 7 false rfl] rfl
 | true=>exact Uf func77 rfl [.g 7 true rfl] rfl (by simp [e]) trivial
theorem Df {z:Int}:Ui 102 [.agg (ri z)] [.one (.bool (decide (z=0)))] :=
 Uf func102 rfl [] rfl (by have h:=MY (x:=z.natAbs); simp only [Tn]; congr 3; rw [decide_eq_decide]; omega) trivial
theorem O9 {z:Int}:Ui 103 [.agg (ri z)] [.agg (ri (-z))]:=by
 have h:=QQ (!decide (z<0)) z.natAbs;have e:U8 (!decide (z<0)) z.natAbs=-z:=by unfold U8; by_cases h:z<0 <;> simp [h] <;> omega
 rw [e] at h;exact Uf func103 rfl [.k h] rfl
theorem Qtq {z:Int} (hz:U9 z<=100000000):Ui 34 [.agg (ri z)] [.agg (Hg z)] :=
 Uf func34 rfl [.k (Qxu hz)] rfl
theorem eBo {a b:Bool} (h:a=b):TV.one (LV.bool a)=.one (.bool b):=h ▸ rfl
theorem A8 (l:Un) (x:Nat):Bl (l++[x])=Bl l++[[.int .i64 (x:Int)]]:=by simp [Bl]
theorem uH {x y:Nat} {o:Un} (h:Ge x=o++Ge y) (h0:y≠0):Ge x=(o++[y % 10000])++Ge (y / 10000):=by
 rw [h,JI h0]; simp
theorem Qts {b:Bool} {x:Nat} (hx:x<=4000000000000000000) (hb:b=true->0<x):Ui 35 [.oi (U8 b x)] [.agg (ri (U8 b x))]:=by
 have hl:(Ge x).length<=100:=by
  have:=Mj x;have h2:sz x<=64:=Be.2 (by omega);omega
 have hm:=QQ b x;refine Fw func35 rfl ?_;cases b with
 |
  false =>
  show AK prog _ _ _ (VF 0 [.oi x]) [];refine Uc [.f (by simp <;> omega),.r 3 (eBo (b:=false) (by simp)),.f rfl,.o 4 3 1] rfl ?_;refine Uh (S:=Nat×Un) 2 (λL1 s=>(0,.v (.oi (s.1:Int)))::(4,.v (.one (.orow 1 1 none)))::L1) (λs=>[.blk 52 [.nils,.bool false],.row false 3 1 (Bl s.2)]) (λs=>s.1) (λs=>Ge x=s.2++Ge s.1/\s.1<=x) (x,[]) ⟨rfl,Ql _⟩ rfl rfl λ⟨y,o⟩ ⟨j1,j2⟩=>?_
  dsimp only at j1 j2 ⊢;by_cases h0:y=0
  ·subst h0;rw [Hw,Zv] at j1;rw [<-j1];exact Ue [.f (by simp),.k hm] rfl
  ·have hs:=uH j1 h0;have ol:o.length<=(Ge x).length:=by rw [j1]; simp
   refine go tt [.t (by simp; omega),.r 18 (eI (b:=((y % 10000:Nat):Int)) (by rfl)),.s (sz:=1) (l:=[[.int .i64 ((y % 10000:Nat):Int)]]) (λc hc=>by rw [Qk.1 hc]; rfl),.r 22 (eI (b:=((y / 10000:Nat):Int)) (by rfl))] rfl (by simp [Uw,Tn]; omega) ?_;exact rd (y / 10000,o++[y % 10000]) (by dsimp only; omega) ⟨hs,by dsimp only; omega⟩ (by rw [A8]; rfl)
 |
  true =>
  show AK prog _ _ _ (VF 0 [.oi (-(x:Int))]) [];refine Ud [.f (by simp <;> omega),.r 3 (eBo (b:=true) (by simpa using hb rfl)),.t rfl,.r 0 (eI (b:=(x:Int)) (by omega)),.o 4 3 1] rfl ?_;refine Uh (S:=Nat×Un) 2 (λL1 s=>(0,.v (.oi (s.1:Int)))::(4,.v (.one (.orow 1 1 none)))::L1) (λs=>[.blk 52 [.nils,.bool false],.row false 3 1 (Bl s.2)]) (λs=>s.1) (λs=>Ge x=s.2++Ge s.1/\s.1<=x) (x,[]) ⟨rfl,Ql _⟩ rfl rfl λ⟨y,o⟩ ⟨j1,j2⟩=>?_
  dsimp only at j1 j2 ⊢;by_cases h0:y=0
  ·subst h0;rw [Hw,Zv] at j1;rw [<-j1];exact Ue [.f (by simp),.k hm] rfl
  ·have hs:=uH j1 h0;have ol:o.length<=(Ge x).length:=by rw [j1]; simp
   refine go tt [.t (by simp; omega),.r 18 (eI (b:=((y % 10000:Nat):Int)) (by rfl)),.s (sz:=1) (l:=[[.int .i64 ((y % 10000:Nat):Int)]]) (λc hc=>by rw [Qk.1 hc]; rfl),.r 22 (eI (b:=((y / 10000:Nat):Int)) (by rfl))] rfl (by simp [Uw,Tn]; omega) ?_;exact rd (y / 10000,o++[y % 10000]) (by dsimp only; omega) ⟨hs,by dsimp only; omega⟩ (by rw [A8]; rfl)
theorem VR {n:Int} (hn:-4000000000000000000<=n/\n<=4000000000000000000):Ui 35 [.oi n] [.agg (ri n)]:=by
 have e:U8 (decide (n<0)) n.natAbs=n:=by unfold U8; by_cases h:n<0 <;> simp [h] <;> omega
 have h:=Qts (b:=decide (n<0)) (x:=n.natAbs) (by omega) (λh=>by have:=of_decide_eq_true h; omega);rwa [e] at h
abbrev fr (q:Rat):Uq:=ri q.num++ri (q.den:Int)
theorem A7:Ge 1=[1]:=by rw [JI (by decide)]; rw [Hw]
theorem Et {n:Int}:Ui 52 [.agg (ri n),.agg (ri 1)] [.agg (fr (n:Rat))]:=by
 have h0:(Bl (Ge (1:Int).natAbs))[0]? = some [LV.int .i64 1]:=by rw [show (1:Int).natAbs=1 from rfl,A7]; rfl
 have h1:decide (((Bl (Ge (1:Int).natAbs)).length:Int)=1)=true:=by rw [show (1:Int).natAbs=1 from rfl,A7]; rfl
 exact Uf func52 rfl [.k (Df (z:=1)),.f rfl,.f rfl,.g 19 true h1,.x h0,.t rfl] rfl
theorem VI {n:Int} (hn:-4000000000000000000<=n/\n<=4000000000000000000):Ui 15 [.oi n,.oi 1] [.agg (fr (n:Rat))] :=
 Uf func15 rfl [.k (VR hn),.k (VR (n:=1) (by decide)),.k Et] rfl
theorem Qrk {q:Rat} (hq:Qs 100000000 q):Ui 14 [.agg (fr q)] [.agg (rl q)] :=
 Uf func14 rfl [.k (Qtq hq.1),.k (Qtq hq.2)] rfl
end Orr
namespace Orr
open Go Go.Proofs Tryz Orq
set_option maxRecDepth 10000
theorem Ix {a:Tm} (ha:Va a):UX a a=some 0:=by
 obtain ⟨c,c1,c2⟩:=UJ ha ha;rcases c2 with ⟨_,h⟩ | ⟨e,_⟩ | ⟨_,h⟩
 ·exact absurd h λh=>Io ha.cut ha.cut h h
 ·rw [c1,e]
 ·exact absurd h λh=>Io ha.cut ha.cut h h
theorem xP {c:Cr} {l l':List Pt} {r1:Ur} {ws:List Wt} (hc:CrOk c) (hl:∀ p∈l',Sc p.c) (hn:l'.length≤1000) (h:Rz c.l c.now (Fp (O2 l' c.now))=some ws) :
 Uz prog 367 [.one (.ow 0 0),.agg [pts l'],.oi 0] [.blk 196 (Hn c (Uv l) r1)] [.oi 0] [.blk 196 (Hn ⟨c.now,ws,c.ev⟩ (Uv l') (IJ l' c.now))]:=by
 have hB:=pJ hl hn;have cn:=O8 (T:=196) (c:=c) (r0:=Uv l') (r1:=r1) hc.n;have cb:=IU (c:=c) (r1:=r1) hl hn hc.n;have cg:=JB (T:=196) (r0:=Uv l') (r1:=IJ l' c.now) hc hc.n (Ix hc.n) (J3 0) (hB.p _ hc.n) (hB.n _ hc.n) h;refine Fw func367 rfl ?_;exact Ug [] [0] [.f rfl,.c [0] cn,.c [0] cb,.c [0] cg] rfl
theorem Qtn {c:Cr} {l s:List Pt} (hs:s.length<=1000000):Uz prog 63 [.one (.ow 0 0)] [.blk 196 (Hn c (Uv l) (Uv s))] [.one (ids (s.map (·.id)))] [.blk 196 (Hn c (Uv l) (Uv s))]:=by
 have hcl:=Gu s;refine Fw func63 rfl ?_;refine Uc [.o 3 3 1] rfl ?_;refine Uh (S:=Nat) 2 (λL1 i=>(11,.v (.oi i))::(3,.v (.one (.orow 1 1 none)))::L1) (λi=>[.blk 196 (Hn c (Uv l) (Uv s)),.row false 3 1 (((s.take i).map (·.id)).map λ(z:Int)=>[LV.int .i64 z])]) (λi=>s.length-i) (λi=>i<=s.length) 0 (Qh _) rfl rfl λi hi=>?_
 by_cases hlt:i<s.length
 ·obtain ⟨p,hp⟩:=gxE (l:=s) (i:=i) hlt;have hg:(((s.take (i+1)).map (·.id)).map λ(z:Int)=>[LV.int .i64 z])=(((s.take i).map (·.id)).map λ(z:Int)=>[LV.int .i64 z])++[[.int .i64 p.id]]:=by
   rw [Z3,hp]; simp
  refine Ud [.t (by simp [hcl]; omega),.x (Sp hp),.s (sz:=1) (l:=[[.int .i64 p.id]]) (λc hc=>by rw [Qk.1 hc]; rfl)] rfl ?_;exact rd (i+1) (by omega) hlt (by rw [hg]; rfl)
 ·obtain rfl:i=s.length:=by omega
  rw [Q7];exact Ug [1] [0] [.f (by simp [hcl])] rfl
theorem Qto {lx ly:Ur} {px py:Ul} {x y:LV} {d id:Int} {c:Cr} {l:List Pt} {r1:Ur} {ws:List Wt} (hx:IsInts lx px) (hy:IsInts ly py) (hd:Gj x y d) (hk:Cs 4294967294 1073741824 (Crv.mk px py d)) (hll:l.length<=900)
 (he:WQ l ⟨Crv.norm (Crv.mk px py d),id⟩=0) (hc:CrOk c) (hl:∀ p∈put l ⟨Crv.norm (Crv.mk px py d),id⟩,Sc p.c) (hn:(put l ⟨Crv.norm (Crv.mk px py d),id⟩).length≤1000) (h:Rz c.l c.now (Fp (O2 (put l ⟨Crv.norm (Crv.mk px py d),id⟩) c.now))=some ws) :
 Uz prog 363 [.one (.ow 0 0),.agg [.row lx,.row ly,x,y,.int .i64 id]] [.blk 196 (Hn c (Uv l) r1)] [.oi 0] [.blk 196 (Hn ⟨c.now,ws,c.ev⟩ (Uv (put l ⟨Crv.norm (Crv.mk px py d),id⟩)) (IJ (put l ⟨Crv.norm (Crv.mk px py d),id⟩) c.now))]:=by
 have cp:=wR (l:=l) (id:=id) hx hy hd hk (by omega);rw [if_pos he,he] at cp;have cw:=xP (l:=l) (r1:=r1) hc hl hn h;refine Fw func363 rfl ?_;obtain ⟨b,l',rfl,rfl,_⟩:=hd;exact Ug [] [0] [.k cp,.c [0] cw] rfl
theorem Qtm {t:Rat} {l:List Pt} {K:Nat} {c c':Cr} {r1 r1':Ur} {n:Int} (ht:Qs 1640000 t) (hl:∀ p∈l,Sc p.c) (hn:l.length≤1000) (hc:CrOk c) (hev:0≤c.ev/\c.ev+K≤1000000000000000000) (h:Ff c.now t≤0) (hg:WS (O2 l) (IJ l) t K c r1 0=some (c',r1',n)) :
 Uz prog 359 [.one (.ow 0 0),.agg (rl t)] [.blk 196 (Hn c (Uv l) r1)] [.oi n,.oi 0] [.blk 196 (Hn c' (Uv l) r1')]:=by
 have cg:=Qxl (T:=196) (r0:=Uv l) ht (pJ hl hn) (λa c r1 ha _=>IU (c:=c) (r1:=r1) hl hn ha) hc hev h hg;refine Fw func359 rfl ?_;exact Ug [] [0] [.k (Bu (ht.mono (by decide))),.c [0] cg] rfl
abbrev idl (l:Ul):Ur:=l.map λ(z:Int)=>[.int .i64 z]
theorem MG {l:Ul} {i:Nat} {z:Int} (h:l[i]? = some z):(idl l)[i]? = some [.int .i64 z]:=G7 h
theorem Qe4 {a b:Ul} (ha:a.length<=1000000) (hb:b.length<=1000000):Ui 22 [.one (ids a),.one (ids b)] [.one (.bool (decide (a=b)))]:=by
 show Ui 22 [.one (.row (idl a)),.one (.row (idl b))] _;have la:(idl a).length=a.length:=by simp
 have lb:(idl b).length=b.length:=by simp
 refine Fw func22 rfl ?_;by_cases hl:a.length=b.length
 ·refine Uc [.f (by simp; omega)] rfl ?_;refine Uh (S:=Nat) 0 (λL1 i=>(5,.v (.oi i))::L1) (λ_=>[]) (λi=>a.length-i) (λi=>i<=a.length/\a.take i=b.take i) 0 ⟨Qh _,rfl⟩ rfl rfl λi ⟨hi,he⟩=>?_
  by_cases hlt:i<a.length
  ·obtain ⟨x,hx⟩:=gxE (l:=a) (i:=i) hlt;obtain ⟨y,hy⟩:=gxE (l:=b) (i:=i) (by omega);by_cases e:x=y
   ·refine Ud [.t (by simp; omega),.x (MG hx),.x (MG hy),.f (by simpa using e)] rfl ?_;exact rd (i+1) (by omega) ⟨hlt,by rw [Z3,Z3,hx,hy,he,e]⟩ rfl
   ·have hne:a≠b:=λh=>by rw [h,hy] at hx; injection hx with hx; exact e hx.symm
    exact Ue [.t (by simp; omega),.x (MG hx),.x (MG hy),.t (by simpa using e)] rfl (by simp [hne]) trivial
  ·obtain rfl:i=a.length:=by omega
   have hab:a=b:=by rw [Q7] at he; rw [he,hl,Q7]
   exact Ue [.f (by simp)] rfl (by simp [hab]) trivial
 ·have hne:a≠b:=λh=>hl (by rw [h])
  exact Ue [.t (by simp; omega)] rfl (by simp [hne]) trivial
def Bn (v n:Int):Int:=if n<1 then 0 else v.emod n
theorem Qde {v n:Int} (h:0<n):(if v.tmod n<0 then v.tmod n+n else v.tmod n)=v % n:=by
 have h3:=Vi v (show n≠0 by omega);have h4:=Yv v h;have h1:=Int.tmod_eq_emod (a:=v) (b:=n);have hn:((n.natAbs:Nat):Int)=n:=by omega
 split at h1
 ·rw [h1]; simp; omega
 ·rename_i hc;rw [h1,hn];have:v % n≠0:=λe=>hc (.inr (Vf e))
  rw [if_pos (by omega)]; omega
theorem Er {v n:Int} (hv:-9223372036854775808<=v/\v<=9223372036854775807) (hn:n<=1000000000):Ui 9 [.oi v,.oi n] [.oi (Bn v n)]:=by
 unfold Bn;by_cases h:n<1
 ·rw [if_pos h];exact Uf func9 rfl [.t (by simpa using h)] rfl
 ·rw [if_neg h];have e:=Qde (v:=v) (n:=n) (by omega);have h3:=Vi v (show n≠0 by omega);have h4:=Yv v (show 0<n by omega);show Ui 9 [.oi v,.oi n] [.oi (v % n)];by_cases h0:v.tmod n<0
  ·rw [if_pos h0] at e;have b:-n<=v.tmod n:=by omega
   exact Uf func9 rfl [.f (by simpa using h),.t (by simpa using h0)] rfl (by rw [e]) (by simp [Uw]; omega)
  ·rw [if_neg h0] at e;exact Uf func9 rfl [.f (by simpa using h),.f (by simpa using h0)] rfl (by rw [e]) (by simp [Uw]; omega)
end Orr
namespace Orr
open Go Go.Proofs Tryz Orq
theorem tM {x y:Int} (hx:-9223372036854775808<=x/\x<=9223372036854775807) (hy:-9223372036854775808<=y/\y<=9223372036854775807):Sc (Oy x y):=⟨Crv.nml _,((uK hx hy).norm (by decide)).mono (by decide) (by decide)⟩
theorem Sc.pt {p:Pt} (h:Sc p.c):Qsq 4294967294 1073741824 p:=⟨h.n,h.c.mono (by decide) (by decide)⟩
end Orr
namespace Orr
open Go Go.Proofs Tryz Orq
set_option maxRecDepth 10000
def IX (l:List Pt) (a:Tm):List Ct:=D6 (Fl a) l
abbrev brP (l:List Pt) (a:Tm):Ur:=Uv (XB (Fl a) l)
theorem dO {l:List Pt} {a:Tm}:∀ x∈IX l a,x.p∈PQ l:=λx hx=>by
 match l,hx with
 |
  u::v::l',hx =>
  unfold IX at hx;simp only [D6] at hx;obtain ⟨h3,h4⟩:=D4 (Fl a) (l:=u::v::l') (Fx (u::v::l')) (u,v) ⟨by simp,by simp⟩ (Tl _ _);obtain ⟨m,hm,rfl⟩:=IB hx;obtain ⟨h1,h2⟩:=Tl _ _ m hm;rw [LX];exact NU h3 h4 h1 h2
theorem Qd3 {l:List Pt} (hl:∀ p∈l,Sc p.c) (hn:l.length≤10):BuildOk (IX l) :=
 ⟨λ_ _ x hx=>WM hl _ (dO x hx),λa _=>by
  have:=qP (Fl a) l;have:l.length*l.length<=10*10:=Za hn hn;show (D6 (Fl a) l).length<=1000;omega⟩
def Qxa (l:List Pt) (a:Tm):Cr:=⟨a,(Fp (IX l a)).map fresh,0⟩
theorem Qmw {t:Rat} {l:List Pt} {K:Nat} {c c':Cr} {r1 r1':Ur} {n:Int} (ht:Qs 1640000 t) (hl:∀ p∈l,Sc p.c) (hn:l.length≤10) (hc:CrOk c) (hev:0≤c.ev/\c.ev+K≤1000000000000000000) (h:Ff c.now t≤0) (hg:WS (IX l) (brP l) t K c r1 0=some (c',r1',n)) :
 Uz prog 398 [.one (.ow 0 0),.agg (rl t)] [.blk 203 (Hn c (Uv l) r1)] [.oi n,.oi 0] [.blk 203 (Hn c' (Uv l) r1')]:=by
 have cg:=Qtd (T:=203) (r0:=Uv l) ht (Qd3 hl hn) (λa c r1 ha _=>IW (c:=c) (r1:=r1) hl hn ha) hc hev h hg;refine Fw func398 rfl ?_;exact Ug [] [0] [.k (Bu (ht.mono (by decide))),.c [0] cg] rfl
theorem lU {c:Cr} {r0:Ur} {a b:Pt}:Uz prog 67 [.one (.ow 0 0)] [.blk 203 (Hn c r0 (Uv [a,b]))] [.oi a.id,.oi b.id,.one (.bool true)] [.blk 203 (Hn c r0 (Uv [a,b]))]:=by
 refine Fw func67 rfl ?_;exact Ug [] [0] [.f rfl,.x (l:=Uv [a,b]) (i:=0) (xs:=U5 a) rfl,.x (l:=Uv [a,b]) (i:=1) (xs:=U5 b) rfl] rfl
theorem wH {c:Cr} {r0:Ur}:Uz prog 67 [.one (.ow 0 0)] [.blk 203 (Hn c r0 [])] [.oi 0,.oi 0,.one (.bool false)] [.blk 203 (Hn c r0 [])]:=by
 refine Fw func67 rfl ?_;exact Ug [] [0] [.t rfl] rfl
end Orr
namespace Orr
open Go
def PK (q:Ul->Int) (a b:Pt):Pt×Pt:=if Bs q a b=true then (a,b) else (b,a)
def Oj (q:Ul->Int):Nat->List Pt->List Pt×List (Pt×Pt)
 | 0,l=>(l,[])
 |
  k+1,l=>if l.length<2 then (l,[]) else
  match (Oj q k (l.take ((l.length+1) / 2))).1,(Oj q k (l.drop ((l.length+1) / 2))).1 with
  | a::_,b::_=>([(PK q a b).1],(Oj q k (l.take ((l.length+1) / 2))).2++(Oj q k (l.drop ((l.length+1) / 2))).2++[PK q a b])
  | _,_=>([],[])
theorem C9 (q:Ul->Int):∀ (k:Nat) (l:List Pt),l.length<=k->Oj q k l=Oj q l.length l
 | 0,l,h=>by rw [show l.length=0 by omega]
 |
  k+1,l,h=>by
  cases hl:l.length with
  | zero=>simp [Oj,hl]
  |
   succ m =>
   simp only [Oj];by_cases h2:l.length<2
   ·rw [if_pos h2,if_pos h2]
   ·rw [if_neg h2,if_neg h2];have h3:(l.take ((l.length+1) / 2)).length<=m:=by rw [Qr]; omega
    have h4:(l.drop ((l.length+1) / 2)).length<=m:=by rw [Q9]; omega
    rw [C9 q k (l.take ((l.length+1) / 2)) (by omega),C9 q k (l.drop ((l.length+1) / 2)) (by omega),C9 q m (l.take ((l.length+1) / 2)) h3,C9 q m (l.drop ((l.length+1) / 2)) h4]
termination_by k=>k
def Bm (q:Ul->Int) (l:List Pt):List Pt×List (Pt×Pt):=Oj q l.length l
theorem B9 (q:Ul->Int) {l:List Pt} (h:l.length<2):Bm q l=(l,[]):=by
 unfold Bm;cases hl:l.length with
 | zero=>rfl
 | succ m=>simp only [Oj]; rw [if_pos h]
theorem Ol (q:Ul->Int) {l:List Pt} (h:¬l.length<2) {a b:Pt} (ha:(Bm q (l.take ((l.length+1) / 2))).1=[a]) (hb:(Bm q (l.drop ((l.length+1) / 2))).1=[b]) :
 Bm q l=([(PK q a b).1],(Bm q (l.take ((l.length+1) / 2))).2++(Bm q (l.drop ((l.length+1) / 2))).2++[PK q a b]):=by
 unfold Bm at ha hb ⊢;obtain ⟨m,hm⟩:∃ m,l.length=m+1:=⟨l.length-1,by omega⟩;have h3:(l.take ((l.length+1) / 2)).length<=m:=by rw [Qr]; omega
 have h4:(l.drop ((l.length+1) / 2)).length<=m:=by rw [Q9]; omega
 rw [<-C9 q m _ h3] at ha ⊢;rw [<-C9 q m _ h4] at hb ⊢;rw [show Oj q l.length l=Oj q (m+1) l by rw [hm]];simp only [Oj];rw [if_neg h,ha,hb]
theorem M7 (q:Ul->Int):∀ (k:Nat) (l:List Pt),l.length≤k->0<l.length->∃ a,(Bm q l).1=[a]/\a∈l/\∀ m∈(Bm q l).2,m.1∈l/\m.2∈l
 | 0,l,h,h0=>by omega
 |
  k+1,l,h,h0=>by
  by_cases h2:l.length<2
  ·rw [B9 q h2]
   match l,h0,h2 with
   | [a],_,_=>exact ⟨a,rfl,by simp,by simp⟩
  ·obtain ⟨a,ha,hal,ham⟩:=M7 q k (l.take ((l.length+1) / 2)) (by rw [Qr]; omega) (by rw [Qr]; omega);obtain ⟨b,hb,hbl,hbm⟩:=M7 q k (l.drop ((l.length+1) / 2)) (by rw [Q9]; omega) (by rw [Q9]; omega);rw [Ol q h2 ha hb];have hd:(PK q a b).1∈l/\(PK q a b).2∈l:=by
    unfold PK; split
    ·exact ⟨Qo hal,Q0 hbl⟩
    ·exact ⟨Q0 hbl,Qo hal⟩
   refine ⟨_,rfl,hd.1,λm hm=>?_⟩;rcases Qq.1 hm with hm | hm
   ·rcases Qq.1 hm with hm | hm
    ·exact ⟨Qo (ham m hm).1,Qo (ham m hm).2⟩
    ·exact ⟨Q0 (hbm m hm).1,Q0 (hbm m hm).2⟩
   ·rw [Qk.1 hm]; exact hd
theorem Da (q:Ul->Int):∀ (k:Nat) (l:List Pt),l.length<=k->(Bm q l).2.length<=l.length-1
 | 0,l,h=>by rw [B9 q (by omega)]; simp
 |
  k+1,l,h=>by
  by_cases h2:l.length<2
  ·rw [B9 q h2]; simp
  ·obtain ⟨a,ha,_⟩:=M7 q l.length (l.take ((l.length+1) / 2)) (by rw [Qr]; omega) (by rw [Qr]; omega);obtain ⟨b,hb,_⟩:=M7 q l.length (l.drop ((l.length+1) / 2)) (by rw [Q9]; omega) (by rw [Q9]; omega);rw [Ol q h2 ha hb];have h3:=Da q k (l.take ((l.length+1) / 2)) (by rw [Qr]; omega);have h4:=Da q k (l.drop ((l.length+1) / 2)) (by rw [Q9]; omega);rw [Qr] at h3;rw [Q9] at h4;simp only [Qu,Vv];omega
abbrev Qcn (m:Pt×Pt):Uq:=[pl m.1.c.x,pl m.1.c.y,sg m.1.c.d,mg m.1.c.d,.int .i64 m.1.id,pl m.2.c.x,pl m.2.c.y,sg m.2.c.d,mg m.2.c.d,.int .i64 m.2.id]
end Orr
namespace Orq
open Orr Go
def UE (q:Rat) (x y:Pt):Prop:=py y q<py x q\/py y q=py x q/\(px y q<px x q\/px y q=px x q/\x.id<y.id)
theorem Qid (q:Rat) (x:Pt):¬UE q x x:=by unfold UE; grind
theorem Qop (q:Rat) (x y z:Pt) (h:UE q x y) (h':UE q y z):UE q x z:=by unfold UE at *; grind
theorem Qie {q:Rat} {x y:Pt} (h:x.id≠y.id) (h':¬UE q x y):UE q y x:=by unfold UE at *; grind
theorem Qaw {a:Tm} (ha:Va a) {x y:Pt} (hx:Sc x.c) (hy:Sc y.c) {q:Rat} (h1:He (Fl a) (Ft y.c x.c)=U7 (U3 (Ft y.c x.c) q)) (h2:He (Fl a) (Fu y.c x.c)=U7 (U3 (Fu y.c x.c) q)):Bs (Fl a) x y=true↔UE q x y:=by
 rw [TJ hy hx] at h1;rw [TY hy hx] at h2;have d1:=(P0 hy hx).dp;have d2:=(P5 hy hx).dp;unfold Bs;simp only [Ln];have t1:=Fv (py x q-py y q);have t2:=Fv (px x q-px y q);by_cases e1:(Ft y.c x.c).length=0
 ·rw [if_neg (by omega)];rw [Qj e1,ZI] at h1;have:py x q=py y q:=by grind
  by_cases e2:(Fu y.c x.c).length=0
  ·rw [if_neg (by omega)];rw [Qj e2,ZI] at h2;unfold UE;simp only [decide_eq_true_eq];grind
  ·rw [if_pos (by omega)];have:=(L6 ha d2 e2).2;unfold UE;simp only [decide_eq_true_eq];grind
 ·rw [if_pos (by omega)];have:=(L6 ha d1 e1).2;unfold UE;simp only [decide_eq_true_eq];grind
theorem wJ {l:List Pt} (hl:∀ p∈l,Sc p.c) {a:Tm} (ha:Va a):∃ y,Ff a y=-1/\∀ q,Ff a q=-1->q≤y->∀ u∈l,∀ v∈l,(Bs (Fl a) u v=true↔UE q u v):=by
 obtain ⟨y,y1,y2⟩:=ZO ha (Lf l) λp hp=>(O4 hl p hp).dp
 refine ⟨y,y1,λq q1 q2 u hu v hv=>?_⟩;have h:=y2 q q1 q2;exact Qaw ha (hl u hu) (hl v hv) (h _ (Tu hv hu).2) (h _ (Tu hv hu).1)
theorem nC {a b:Tm} {x y:Pt} (h:He (Fl b) (Ag x y)=He (Fl a) (Ag x y)):Bs (Fl b) x y=Bs (Fl a) x y:=by
 unfold Ag Li at h;unfold Bs;simp only [Ln];by_cases e1:0<(Ft y.c x.c).length
 ·rw [if_pos e1,if_pos e1]; rw [if_pos e1] at h; rw [h]
 ·rw [if_neg e1,if_neg e1]; rw [if_neg e1] at h; rw [h]
theorem Qhw {l:List Pt} {k:Nat} (h2:¬l.length<2) (hk:l.length<=k+1):(l.take ((l.length+1) / 2)).length<=k/\(l.drop ((l.length+1) / 2)).length<=k/\0<(l.take ((l.length+1) / 2)).length/\0<(l.drop ((l.length+1) / 2)).length:=by
 rw [Qr,Q9]; omega
theorem RD {sa sb:Ul->Int}:∀ (k:Nat) (l:List Pt),l.length≤k->l.Pairwise (λx y=>x.id≠y.id)->(∀ u∈l,∀ v∈l,u.id≠v.id->Bs sa u v=false->Bs sa v u=true)->(∀ u∈l,∀ v∈l,Bs sb v u=true->Bs sb u v=false)->(∀ m∈(Bm sa l).2,Bs sb m.1 m.2=Bs sa m.1 m.2)->Bm sb l=Bm sa l
 | 0,l,hk,_,_,_,_=>by rw [B9 _ (by omega),B9 _ (by omega)]
 |
  k+1,l,hk,hd,h1,h2,hm=>by
  by_cases hs:l.length<2
  ·rw [B9 _ hs,B9 _ hs]
  ·obtain ⟨k1,k2,k3,k4⟩:=Qhw hs hk;obtain ⟨a,ha,hal,_⟩:=M7 sa k (l.take ((l.length+1) / 2)) k1 k3;obtain ⟨b,hb,hbl,_⟩:=M7 sa k (l.drop ((l.length+1) / 2)) k2 k4;have hpl:=Ol sa hs ha hb;rw [hpl] at hm;have hd':=hd;rw [<-Zi ((l.length+1) / 2) l] at hd';obtain ⟨d1,d2,d3⟩:=X2.1 hd';have i1:=RD k _ k1 d1 (λu hu v hv=>h1 u (Qo hu) v (Qo hv)) (λu hu v hv=>h2 u (Qo hu) v (Qo hv)) λm hm'=>hm m (by simp [hm'])
   have i2:=RD k _ k2 d2 (λu hu v hv=>h1 u (Q0 hu) v (Q0 hv)) (λu hu v hv=>h2 u (Q0 hu) v (Q0 hv)) λm hm'=>hm m (by simp [hm'])
   have hal':=Qo hal;have hbl':=Q0 hbl;have e:PK sb a b=PK sa a b:=by
    have hmem:=hm (PK sa a b) (by simp);unfold PK at hmem ⊢;by_cases h:Bs sa a b=true
    ·rw [if_pos h] at hmem ⊢;rw [if_pos (hmem.trans h)]
    ·rw [if_neg h] at hmem ⊢;have h:Bs sa a b=false:=by simpa using h
     have:=h2 a hal' b hbl' (hmem.trans (h1 a hal' b hbl' (d3 a hal b hbl) h));rw [if_neg (by simp [this])]
   rw [hpl,Ol sb hs (by rw [i1]; exact ha) (by rw [i2]; exact hb),i1,i2,e]
end Orq
namespace Orr
open Orq Go
def PZ (l:List Pt) (a:Tm):List Ct:=(Bm (Fl a) l).2.map λm=>Dm (Fl a) m.1 m.2
def pT (l:List Pt) (a:Tm):Ur×Ur:=((Bm (Fl a) l).1.map U5,(Bm (Fl a) l).2.map Qcn)
theorem XL {sg:Ul->Int} {l:List Pt}:∀ m∈(Bm sg l).2,m.1∈l/\m.2∈l:=λm hm=>by
 by_cases h:0<l.length
 ·obtain ⟨_,_,_,h3⟩:=M7 sg l.length l (Ql _) h;exact h3 m hm
 ·rw [B9 _ (by omega)] at hm; cases hm
theorem Qsy {l:List Pt} (hl:∀ p∈l,Sc p.c) {a:Tm}:∀ x∈PZ l a,Cp x.p:=λx hx=>by
 obtain ⟨m,hm,rfl⟩:=Q6.1 hx;obtain ⟨h1,h2⟩:=XL m hm;exact JO (P0 (hl _ h2) (hl _ h1)) (P5 (hl _ h2) (hl _ h1))
theorem pY {l:List Pt} (hl:∀ p∈l,Sc p.c) (hn:l.length≤1000):BuildOk (PZ l) :=
 ⟨λa _=>Qsy hl,λa _=>by
  unfold PZ; rw [List.length_map];have:=Da (Fl a) l.length l (Ql _); omega⟩
theorem Ql9 {l:List Pt} {a:Tm}:∀ x∈PZ l a,x.p∈Lf l:=λx hx=>by
 obtain ⟨m,hm,rfl⟩:=Q6.1 hx;obtain ⟨h1,h2⟩:=XL m hm;show Ag m.1 m.2∈Lf l;unfold Ag Li; split
 ·exact (Tu h2 h1).2
 ·exact (Tu h2 h1).1
theorem Qy2 {l:List Pt} (hl:∀ p∈l,Sc p.c) (hn:l.length≤1000) (hd:l.Pairwise λx y=>x.id≠y.id):Stab (PZ l) (pT l):=by
 refine ⟨pY hl hn,⟨Lf l,O4 hl,λa _ x hx=>?_⟩,λa b ha hb h=>?_⟩
 ·obtain ⟨m,hm,rfl⟩:=Q6.1 hx;obtain ⟨h1,h2⟩:=XL m hm;show Ag m.1 m.2∈Lf l;unfold Ag Li; split
  ·exact (Tu h2 h1).2
  ·exact (Tu h2 h1).1
 ·obtain ⟨y,y1,y2⟩:=wJ hl ha;obtain ⟨z,z1,z2⟩:=wJ hl hb;have ga:=y2 y y1 Qp;have gb:=z2 z z1 Qp;have e:Bm (Fl b) l=Bm (Fl a) l:=RD l.length l (Ql _) hd (λu hu v hv hne hf=>(ga v hv u hu).2 (Qie hne λh=>by
   rw [(ga u hu v hv).2 h] at hf; cases hf)) (λu hu v hv ht=>by
   cases hb':Bs (Fl b) u v
   ·rfl
   ·exact absurd (Qop z u v u ((gb u hu v hv).1 hb') ((gb v hv u hu).1 ht)) (Qid z u)) λm hm=>nC (h (Dm (Fl a) m.1 m.2) (Q6.2 ⟨m,hm,rfl⟩))
  refine ⟨?_,by unfold pT; rw [e]⟩;unfold PZ;rw [e];refine Xt λm hm=>?_
  have:=h (Dm (Fl a) m.1 m.2) (Q6.2 ⟨m,hm,rfl⟩);unfold Dm;rw [show He (Fl b) (Ag m.1 m.2)=He (Fl a) (Ag m.1 m.2) from this]
end Orr
namespace Orq
open Orr Go
def Ib (a:Crv):Um:=[Fo a.x a.d,Fo a.y a.d,ZU (Gf a.x a.x) (Gf a.y a.y),[a.d*a.d]]
def BL (a b c d:Crv):List Um:=[Ib a,Ib b,Ib c,Ib d]
def ZJ (a b c d:Crv):Ul:=D8 4 (BL a b c d)
theorem FW {s:Nat} {k:Crv} (hn:JR k) (hc:Cs s 3 k):(∀ p∈Ib k,U6 p/\Bd (s+s+3) p)/\∀ (j:Nat) (p:Ul),(Ib k)[j]? = some p->p.length≤[2,2,4,0].getD j 0+1:=by
 have l1:=Fh k.x k.d;have l2:=Fh k.y k.d;have l3:=Rq k.x k.x;have l4:=Rq k.y k.y;have l5:=Ac (Gf k.x k.x) (Gf k.y k.y);have kx:=hc.lx;have ky:=hc.ly;have bx:Bd (s+s+2) (Gf k.x k.x):=Mi hc.x hc.x (by omega);have by_:Bd (s+s+2) (Gf k.y k.y):=Mi hc.y hc.y (by omega);have hd:=hn.2.2.1;have hd0:k.d*k.d≠0:=λe=>by rcases Yd.1 e with e | e <;> omega
 have td:U6 [k.d*k.d]:=by unfold U6; simp [trim,hd0]
 refine ⟨λp hp=>?_,λj p hp=>?_⟩
 ·simp only [Ib,Qm,Xw,or_false] at hp;rcases hp with rfl | rfl | rfl | rfl
  ·exact ⟨Fq _ _,Ux (Gd hc.x hc.d) (by omega)⟩
  ·exact ⟨Fq _ _,Ux (Gd hc.y hc.d) (by omega)⟩
  ·exact ⟨Fq _ _,Ux (WB bx by_) (by omega)⟩
  ·refine ⟨td,λz hz=>?_⟩;rw [Qk.1 hz];have:=Gh k.d k.d; have:=hc.d; omega
 ·match j,hp with
  | 0,hp=>injection hp with hp; subst hp; show _<=3; omega
  | 1,hp=>injection hp with hp; subst hp; show _<=3; omega
  | 2,hp=>injection hp with hp; subst hp; show _<=5; omega
  | 3,hp=>injection hp with hp; subst hp; exact Ql _
  | j+4,hp=>simp [Ib] at hp
theorem EP {s:Nat} {a b c d:Crv} (na:JR a) (nb:JR b) (nc:JR c) (nd:JR d) (ca:Cs s 3 a) (cb:Cs s 3 b) (cc:Cs s 3 c) (cd:Cs s 3 d):Sq (s+s+3) [2,2,4,0] 4 4 (BL a b c d):=by
 have hr:∀ r∈BL a b c d,∃ k:Crv,JR k/\Cs s 3 k/\r=Ib k:=λr hr=>by
  simp only [BL,Qm,Xw,or_false] at hr;rcases hr with rfl | rfl | rfl | rfl
  ·exact ⟨a,na,ca,rfl⟩
  ·exact ⟨b,nb,cb,rfl⟩
  ·exact ⟨c,nc,cc,rfl⟩
  ·exact ⟨d,nd,cd,rfl⟩
 refine ⟨rfl,λr h=>?_,λr h p hp=>?_,λr h p hp=>?_,λr h j p hp=>?_⟩
 all_goals obtain ⟨k,kn,kc,rfl⟩:=hr r h
 ·rfl
 ·exact ((FW kn kc).1 p hp).1
 ·exact ((FW kn kc).1 p hp).2
 ·exact (FW kn kc).2 j p hp
theorem eP {a b c d:Crv} (ha:Sc a) (hb:Sc b) (hc:Sc c) (hd:Sc d):Cp (ZJ a b c d):=by
 obtain ⟨h1,h2,h3⟩:=YF 4 [2,2,4,0] (BL a b c d) (by decide) rfl (by decide) (EP ha.n hb.n hc.n hd.n ha.c hb.c hc.c hd.c);exact ⟨h1,Qc h3 (by decide),Ux h2 (by decide)⟩
def qK (sg:Ul->Int) (a b c d:Pt):Ct:=⟨4,a.id,b.id,c.id,d.id,ZJ a.c b.c c.c d.c,He sg (ZJ a.c b.c c.c d.c)⟩
abbrev P3:=Pt×(Pt×Pt)
abbrev P4:=Pt×P3
def Ch:Nat->List Pt->List P3
 | 0,_=>[]
 | _+1,[]=>[]
 | k+1,x::l=>(Fx l).map (λm=>(x,m))++Ch k l
def Hl (l:List Pt):List P3:=Ch l.length l
def Db:Nat->List Pt->List P4
 | 0,_=>[]
 | _+1,[]=>[]
 | k+1,x::l=>(Hl l).map (λm=>(x,m))++Db k l
def Al (l:List Pt):List P4:=Db l.length l
theorem YD:∀ (l:List Pt) (i:Nat) (x:Pt),l[i]? = some x->Ch (i+1) l=Ch i l++(Fx (l.drop (i+1))).map (λm=>(x,m))
 | [],i,x,h=>by simp at h
 | y::l,0,x,h=>by simp at h; subst h; simp [Ch]
 |
  y::l,i+1,x,h=>by
  have ih:=YD l i x (by simpa using h);show (Fx l).map _++Ch (i+1) l=((Fx l).map _++Ch i l)++_;rw [ih,Ze]; rfl
theorem RE:∀ (l:List Pt) (i:Nat) (x:Pt),l[i]? = some x->Db (i+1) l=Db i l++(Hl (l.drop (i+1))).map (λm=>(x,m))
 | [],i,x,h=>by simp at h
 | y::l,0,x,h=>by simp at h; subst h; simp [Db]
 |
  y::l,i+1,x,h=>by
  have ih:=RE l i x (by simpa using h);show (Hl l).map _++Db (i+1) l=((Hl l).map _++Db i l)++_;rw [ih,Ze]; rfl
theorem GW:∀ (k:Nat) (l:List Pt),∀ m∈Ch k l,m.1∈l/\m.2.1∈l/\m.2.2∈l
 | 0,l,m,h=>by simp [Ch] at h
 | k+1,[],m,h=>by simp [Ch] at h
 |
  k+1,x::l,m,h=>by
  rcases Qq.1 h with h | h
  ·obtain ⟨y,hy,rfl⟩:=Q6.1 h;obtain ⟨h1,h2⟩:=Tl _ _ y hy;exact ⟨Qy ..,Qg _ h1,Qg _ h2⟩
  ·obtain ⟨h1,h2,h3⟩:=GW k l m h;exact ⟨Qg _ h1,Qg _ h2,Qg _ h3⟩
theorem EU:∀ (k:Nat) (l:List Pt),∀ m∈Db k l,m.1∈l/\m.2.1∈l/\m.2.2.1∈l/\m.2.2.2∈l
 | 0,l,m,h=>by simp [Db] at h
 | k+1,[],m,h=>by simp [Db] at h
 |
  k+1,x::l,m,h=>by
  rcases Qq.1 h with h | h
  ·obtain ⟨y,hy,rfl⟩:=Q6.1 h;obtain ⟨h1,h2,h3⟩:=GW _ _ y hy;exact ⟨Qy ..,Qg _ h1,Qg _ h2,Qg _ h3⟩
  ·obtain ⟨h1,h2,h3,h4⟩:=EU k l m h;exact ⟨Qg _ h1,Qg _ h2,Qg _ h3,Qg _ h4⟩
theorem YP {l:List Pt} (h:l.length<=6):(Hl l).length<=20/\(Al l).length<=15:=by
 match l,h with
 | [],_=>exact ⟨Zg rfl,Zg rfl⟩
 | [_],_=>exact ⟨Zg rfl,Zg rfl⟩
 | [_,_],_=>exact ⟨Zg rfl,Zg rfl⟩
 | [_,_,_],_=>exact ⟨Zg rfl,Zg rfl⟩
 | [_,_,_,_],_=>exact ⟨Zg rfl,Zg rfl⟩
 | [_,_,_,_,_],_=>exact ⟨Zg rfl,Zg rfl⟩
 | [_,_,_,_,_,_],_=>exact ⟨Zg rfl,Zg rfl⟩
 | _::_::_::_::_::_::_::_,h=>simp at h
abbrev Ni:=List (Ul×LV)
def PG (sg:Ul->Int) (m:P3):Ct:=D2 sg m.1 m.2.1 m.2.2
def HU (sg:Ul->Int) (m:P4):Ct:=qK sg m.1 m.2.1 m.2.2.1 m.2.2.2
def nF (m:P3):Ul:=[m.1.id,m.2.1.id,m.2.2.id]
def Qyc (m:P4):Ul:=[m.1.id,m.2.1.id,m.2.2.1.id,m.2.2.2.id]
def Aq (V:List (Ul×Int)):Ni:=V.foldl (λM e=>Lp M e.1 (.int .i64 e.2)) []
def ZF (sg:Ul->Int) (ps:List P3):List (Ul×Int):=ps.map λm=>(nF m,(PG sg m).want)
def VV (sg:Ul->Int) (ps:List P4):List (Ul×Int):=ps.map λm=>(Qyc m,(HU sg m).want)
theorem dH (sg:Ul->Int) (ps:List P3) (m:P3):Aq (ZF sg (ps++[m]))=Lp (Aq (ZF sg ps)) (nF m) (.int .i64 (PG sg m).want):=by simp [Aq,ZF]
def I2 (T:Ni) (s:Int) (n:Ul) (F:Ni) (skip:Nat):Ni:=if ZW T (n.eraseIdx skip)*(if (3-skip) % 2=1 then -s else s)>0 then Lp F (n.eraseIdx skip) (.bool true) else F
def OV (T:Ni) (s:Int) (n:Ul) (F:Ni):Ni:=I2 T s n (I2 T s n (I2 T s n (I2 T s n F 0) 1) 2) 3
def I5 (T:Ni) (V:List (Ul×Int)):Ni:=V.foldl (λF e=>OV T e.2 e.1 F) []
theorem nQ (sg:Ul->Int) (T:Ni) (ps:List P4) (m:P4):I5 T (VV sg (ps++[m]))=OV T (HU sg m).want (Qyc m) (I5 T (VV sg ps)):=by simp [I5,VV]
def jL (T F:Ni) (m:P3):Bool:=decide (ZW T (nF m)≠0) && !(NB F (nF m))
theorem Qur {T F:Ni} {ps:List P3} {m:P3} (h:jL T F m=true):(ps++[m]).filter (jL T F)=ps.filter (jL T F)++[m]:=by simp [Vk,h]
theorem Qha {T F:Ni} {ps:List P3} {m:P3} (h:jL T F m=false):(ps++[m]).filter (jL T F)=ps.filter (jL T F):=by simp [Vk,h]
def gU (sg:Ul->Int) (l:List Pt):List Ct:=(Hl (Rj l)).map (PG sg)++(Al (Rj l)).map (HU sg)
def gG (sg:Ul->Int) (l:List Pt):List P3:=(Hl (Rj l)).filter (jL (Aq (ZF sg (Hl (Rj l)))) (I5 (Aq (ZF sg (Hl (Rj l)))) (VV sg (Al (Rj l)))))
abbrev trL (m:P3):Uq:=[.int .i64 m.1.id,.int .i64 m.2.1.id,.int .i64 m.2.2.id]
def WG (l:List P3):Ur:=l.map trL
theorem sW (l:List P3):(WG l).length=l.length:=by simp [WG]
theorem Qci (sg:Ul->Int) {l:List Pt} (h:l.length<=6):(gG sg l).length<=20:=by
 have hw:=As l;exact Qc (Yy _ _) (YP (l:=Rj l) (by omega)).1
theorem Qch (sg:Ul->Int) {l:List Pt} (h:l.length<=6):(gU sg l).length<=35:=by
 have hw:=As l;obtain ⟨h1,h2⟩:=YP (l:=Rj l) (by omega);unfold gU;rw [Qu,Q8,Q8]; omega
def NH (l:List Pt) (a:Tm):List Ct:=gU (Fl a) l
abbrev pR (l:List Pt) (a:Tm):Ur:=WG (gG (Fl a) l)
def kE (l:List Pt):Um:=(Hl (Rj l)).map (λm=>Gt m.1.c m.2.1.c m.2.2.c)++(Al (Rj l)).map λm=>ZJ m.1.c m.2.1.c m.2.2.1.c m.2.2.2.c
theorem xY {l:List Pt} (hl:∀ p∈l,Sc p.c):∀ p∈kE l,Cp p:=λp hp=>by
 have hw:=λ(x:Pt) (h:x∈Rj l)=>hl x (Mf h)
 rcases Qq.1 hp with hp | hp
 ·obtain ⟨m,hm,rfl⟩:=Q6.1 hp;obtain ⟨h1,h2,h3⟩:=GW _ _ m hm;exact JE (hw _ h1) (hw _ h2) (hw _ h3)
 ·obtain ⟨m,hm,rfl⟩:=Q6.1 hp;obtain ⟨h1,h2,h3,h4⟩:=EU _ _ m hm;exact eP (hw _ h1) (hw _ h2) (hw _ h3) (hw _ h4)
theorem xW {l:List Pt} {a:Tm}:∀ x∈NH l a,x.p∈kE l:=λx hx=>by
 rcases Qq.1 hx with hx | hx
 ·obtain ⟨m,hm,rfl⟩:=Q6.1 hx;exact Z6 _ (Q6.2 ⟨m,hm,rfl⟩)
 ·obtain ⟨m,hm,rfl⟩:=Q6.1 hx;exact Z4 _ (Q6.2 ⟨m,hm,rfl⟩)
theorem Qdy {l:List Pt} (h:l.length<=6):(kE l).length<=1000000:=by
 have hw:=As l;obtain ⟨h1,h2⟩:=YP (l:=Rj l) (by omega);unfold kE;rw [Qu,Q8,Q8]; omega
theorem pZ {l:List Pt} (hl:∀ p∈l,Sc p.c) (hn:l.length≤6):BuildOk (NH l) :=
 ⟨λ_ _ x hx=>xY hl _ (xW x hx),λa _=>Qc (Qch _ hn) (by decide)⟩
theorem Qyy {l:List Pt} (hl:∀ p∈l,Sc p.c) (hn:l.length≤6):Stab (NH l) (pR l):=by
 refine ⟨pZ hl hn,⟨kE l,xY hl,λa _=>xW⟩,λa b _ _ h=>?_⟩;have e1:∀ m∈Hl (Rj l),PG (Fl b) m=PG (Fl a) m:=λm hm=>by
  have:=h (PG (Fl a) m) (Z6 _ (Q6.2 ⟨m,hm,rfl⟩));have e:He (Fl b) (Gt m.1.c m.2.1.c m.2.2.c)=He (Fl a) (Gt m.1.c m.2.1.c m.2.2.c):=this;unfold PG D2; rw [e]
 have e2:∀ m∈Al (Rj l),HU (Fl b) m=HU (Fl a) m:=λm hm=>by
  have:=h (HU (Fl a) m) (Z4 _ (Q6.2 ⟨m,hm,rfl⟩));have e:He (Fl b) (ZJ m.1.c m.2.1.c m.2.2.1.c m.2.2.2.c)=He (Fl a) (ZJ m.1.c m.2.1.c m.2.2.1.c m.2.2.2.c):=this;unfold HU qK; rw [e]
 have t1:ZF (Fl b) (Hl (Rj l))=ZF (Fl a) (Hl (Rj l)):=Xt λm hm=>by rw [e1 m hm]
 have t2:VV (Fl b) (Al (Rj l))=VV (Fl a) (Al (Rj l)):=Xt λm hm=>by rw [e2 m hm]
 constructor
 ·unfold NH gU;rw [Xt e1,Xt e2]
 ·unfold pR gG;rw [t1,t2]
def Qw8 (l:List Pt) (a:Tm):Cr:=⟨a,(Fp (NH l a)).map fresh,0⟩
def kN (M:Ni):Prop:=∀ k,(E8 M k).getD (.int .i64 0)=.int .i64 (ZW M k)/\-1<=ZW M k/\ZW M k<=1
def VU (M:Ni):Prop:=∀ k,(E8 M k).getD (.bool false)=.bool (NB M k)
theorem OL (M:Ni) (k:Ul) (x:LV) (k':Ul):E8 (Lp M k x) k'=if k'=k then some x else E8 M k':=by
 induction M with
 | nil=>simp [Lp,E8]
 |
  cons e M ih =>
  simp only [Lp];by_cases h:k=e.1
  ·rw [if_pos h];simp only [E8];by_cases h2:k'=k
   ·rw [if_pos h2,if_pos h2]
   ·rw [if_neg h2,if_neg h2,if_neg (λe2=>h2 (e2.trans h.symm))]
  ·rw [if_neg h];simp only [E8];by_cases h2:k'=e.1
   ·rw [if_pos h2,if_pos h2,if_neg (λe2=>h (e2.symm.trans h2))]
   ·rw [if_neg h2,if_neg h2,ih]
theorem Qh5:kN []:=λ_=>⟨rfl,show (-1:Int)<=0 by decide,show (0:Int)<=1 by decide⟩
theorem Qax:VU []:=λ_=>rfl
theorem Qh6 {M:Ni} (h:kN M) {k:Ul} {n:Int} (hn:-1<=n/\n<=1):kN (Lp M k (.int .i64 n)):=by
 intro k';have h1:=h k';unfold ZW at h1 ⊢;rw [OL];by_cases e:k'=k
 ·rw [if_pos e]; exact ⟨rfl,hn.1,hn.2⟩
 ·rw [if_neg e]; exact h1
theorem Qay {M:Ni} (h:VU M) {k:Ul} {b:Bool}:VU (Lp M k (.bool b)):=by
 intro k';have h1:=h k';unfold NB at h1 ⊢;rw [OL];by_cases e:k'=k
 ·rw [if_pos e]; rfl
 ·rw [if_neg e]; exact h1
theorem Ax {T F:Ni} {s:Int} {n:Ul} {k:Nat} (h:VU F):VU (I2 T s n F k):=by
 unfold I2;generalize (if (3-k) % 2=1 then -s else s)=s'
 split
 ·exact Qay h
 ·exact h
theorem pG {T F:Ni} {s:Int} {n:Ul} (h:VU F):VU (OV T s n F):=Ax (Ax (Ax (Ax h)))
theorem Qck {x s:Int} (hx:-1<=x/\x<=1) (hs:-1<=s/\s<=1):-9223372036854775808<=x*s/\x*s<=9223372036854775807:=by
 have h:x=-1\/x=0\/x=1:=by omega
 rcases h with rfl | rfl | rfl <;> omega
structure MOk (M:List Pt):Prop where
 sc:∀ p∈M,Sc p.c
 ln:M.length<=6
 so:Nc M
theorem MOk.df {M:List Pt} (h:MOk M):M.Pairwise λx y=>x.id≠y.id:=h.so.imp λh e=>by omega
structure Knd (β:Type) where
 bc:List Pt->Tm->List Ct
 br:List Pt->Tm->β
 al:List Pt->List (List Int)
structure KndOk {β:Type} (k:Knd β):Prop where
 st:∀ M,MOk M->Stab (k.bc M) (k.br M)
 cp:∀ M,MOk M->∀ p∈k.al M,Cp p
 al:∀ M a,∀ x∈k.bc M a,x.p∈k.al M
 ln:∀ M,MOk M->(k.al M).length<=1000000
abbrev kS:Knd Ur:=⟨O2,IJ,Lf⟩
abbrev kT:Knd (Ur×Ur):=⟨PZ,pT,Lf⟩
abbrev kH:Knd Ur:=⟨GO,brH,λl=>Lf l++GL l⟩
abbrev kP:Knd Ur:=⟨IX,brP,PQ⟩
abbrev kD:Knd Ur:=⟨NH,pR,kE⟩
theorem NF {l:List Pt} (h:l.length<=6):(Lf l).length<=72:=by
 rw [kO];exact Qc (Za h (Za h (Ql 2))) (by decide)
theorem US {α β:Type} {f:α->List β} {n:Nat} (l:List α) (h:∀ x∈l,(f x).length=n):(l.flatMap f).length=l.length*n:=by
 induction l with
 | nil=>simp
 |
  cons x l ih =>
  rw [Jn,Qu,h x (by simp),ih λy hy=>h y (Qg _ hy),Q4,Xm]; omega
theorem dC (l:List Pt):(GL l).length=l.length*(l.length*l.length):=by
 unfold GL;exact US l λx _=>US l λy _=>by simp
theorem dB (l:List Pt):(PQ l).length=l.length*(l.length*(l.length*l.length)):=by
 unfold PQ;exact US l λx _=>US l λy _=>US l λz _=>by simp
theorem okS:KndOk kS:=⟨λM h=>Qy1 h.sc (by have:=h.ln; omega) h.df,λM h=>O4 h.sc,λM a=>lQ,λM h=>Qc (NF h.ln) (by decide)⟩
theorem okT:KndOk kT:=⟨λM h=>Qy2 h.sc (by have:=h.ln; omega) h.df,λM h=>O4 h.sc,λM a=>Ql9,λM h=>Qc (NF h.ln) (by decide)⟩
theorem okH:KndOk kH:=⟨λM h=>Qyz h.sc (by have:=h.ln; omega) h.df,λM h=>PS h.sc,λM a=>xU,λM h=>by
 have h1:=NF h.ln;have h2:=dC M;have h3:M.length*(M.length*M.length)<=6*(6*6):=Za h.ln (Za h.ln h.ln);show (Lf M++GL M).length<=_;rw [Qu]; omega⟩
theorem okP:KndOk kP:=⟨λM h=>Qy0 h.sc (by have:=h.ln; omega) h.df,λM h=>WM h.sc,λM a=>dO,λM h=>by
 have h3:M.length*(M.length*(M.length*M.length))<=6*(6*(6*6)):=Za h.ln (Za h.ln (Za h.ln h.ln));show (PQ M).length<=_;rw [dB]; omega⟩
theorem okD:KndOk kD:=⟨λM h=>Qyy h.sc h.ln,λM h=>xY h.sc,λM a=>xW,λM h=>Qdy h.ln⟩
open Classical in
noncomputable def cnt (bc:Tm->List Ct) (q t:Rat):Nat:=if h:∃ E,Evs bc t (tq q) E then (Classical.choose h).length else 0
theorem mW {β:Type} {Bc:Tm->List Ct} {Br:Tm->β} (S:Stab Bc Br) {q t:Rat} (hq:Va (tq q)) {E:List Tm} (h:Evs Bc t (tq q) E):cnt Bc q t=E.length:=by
 have hx:∃ E,Evs Bc t (tq q) E:=⟨E,h⟩;unfold cnt;rw [dif_pos hx];exact Quq S hq (Classical.choose_spec hx) h
structure At {β:Type} (k:Knd β) (M:List Pt) (q:Rat) (c:Cr):Prop where
 now:c.now=tq q
 st:KSt (k.bc M) (k.br M) c (k.br M (tq q))
section
variable {β:Type} {k:Knd β} (ok:KndOk k) {M M':List Pt} {q t:Rat} {c:Cr}
include ok
theorem At.again (h:At k M q c) (hM:MOk M'):∃ ws,Rz c.l c.now (Fp (k.bc M' c.now))=some ws/\At k M' q ⟨tq q,ws,c.ev⟩:=by
 obtain ⟨⟨o,kk⟩,hcs,hr⟩:=h.st;have S:=ok.st M' hM;obtain ⟨ws,l1,l2⟩:=nG o.n o.l (Fp (k.bc M' c.now));have o':=Orr.lay_ok c.ev o o.n (S.ok.p _ o.n) (S.ok.n _ o.n) l1;have hl:=aE o.n o.n (λh=>Io o.n.cut o.n.cut h h) o.l kk l1;rw [h.now] at o' hl l2;exact ⟨ws,l1,rfl,⟨⟨o',hl⟩,l2,rfl⟩⟩
theorem At.adv (h:At k M q c) (hM:MOk M) (ht:Qs 1640000 t) (hqt:q<=t) :
 ∃ (K:Nat) (c':Cr),K<=67000001/\WS (k.bc M) (k.br M) t K c (k.br M (tq q)) 0=some (c',k.br M (tq t),((cnt (k.bc M) q t:Nat):Int))/\At k M t c'/\c'.ev=c.ev+((cnt (k.bc M) q t:Nat):Int)/\cnt (k.bc M) q t<=67000000/\cnt (k.bc M) q t<=((k.al M).flatMap JK).length:=by
 have S:=ok.st M hM;have hP:=ok.cp M hM;have hm:=vC hP;have hmu:=Qis ((k.al M).flatMap JK) c.now;have hl:=ok.ln M hM;have hv:=h.st.inv.ok.n;have hc:Ff c.now t<=0:=by rw [h.now,SI]; rcases S0 q t with ⟨e,e'⟩ | ⟨e,e'⟩ | ⟨e,e'⟩ <;> first | omega | (exfalso; grind)
 obtain ⟨c',r',E,g1,g2,g3,g4,g5,g6⟩:=Qhs S ht hP (λa _=>ok.al M a) (mu ((k.al M).flatMap JK) c.now) c _ 0 (Ql _) h.st λh'=>by
  have:=(ZS hv.cut).2 h'; omega
 have hr:r'=k.br M (tq t):=by rw [g3.r,g2]
 rw [hr] at g1 g3;rw [Int.zero_add] at g1;rw [h.now] at g6;have he:=mW S (by rw [<-h.now]; exact hv) g6;rw [he];exact ⟨_,c',by omega,g1,⟨g2,g3⟩,g4,by omega,by omega⟩
theorem jT (hM:MOk M) (hq:Qs 1640000 q) (ht:Qs 1640000 t) (hqt:q<=t):∃ E,Evs (k.bc M) t (tq q) E/\E.length=cnt (k.bc M) q t:=by
 have S:=ok.st M hM;have hv:=GG hq;have hc:¬Pu (tq t) (tq q):=λh'=>by
  have:=(ZS hv.cut).2 h';rw [SI] at this;rcases S0 q t with ⟨e,e'⟩ | ⟨e,e'⟩ | ⟨e,e'⟩ <;> first | omega | grind
 obtain ⟨c',r',E,g1,g2,g3,g4,g5,g6⟩:=Qhs S ht (ok.cp M hM) (λa _=>ok.al M a) (mu ((k.al M).flatMap JK) (tq q)) ⟨tq q,(Fp (k.bc M (tq q))).map fresh,0⟩ (k.br M (tq q)) 0 (Ql _) (pW S hv) hc;exact ⟨E,g6,(mW S hv g6).symm⟩
theorem JL {s:Rat} (hM:MOk M) (hq:Qs 1640000 q) (hs:Qs 1640000 s) (ht:Qs 1640000 t) (hqs:q<=s) (hst:s<=t):cnt (k.bc M) q t=cnt (k.bc M) q s+cnt (k.bc M) s t:=by
 obtain ⟨E1,h1,e1⟩:=jT ok hM hq hs hqs;obtain ⟨E2,h2,e2⟩:=jT ok hM hs ht hst;obtain ⟨E,h,e⟩:=jT ok hM hq ht (Zk hqs hst);have hv:=GG hq;have:=Qod (ok.st M hM) hst (GG hs) h1 hv (λh'=>by
  have:=(ZS hv.cut).2 h';rw [SI] at this;rcases S0 q s with ⟨e,e'⟩ | ⟨e,e'⟩ | ⟨e,e'⟩ <;> first | omega | grind) h2 h
 omega
theorem ZP (hM:MOk M) (hq:Qs 1640000 q):cnt (k.bc M) q q=0:=by
 have:=JL ok hM hq hq hq Qp Qp;omega
end
theorem At.begin {β:Type} {k:Knd β} (ok:KndOk k) {M:List Pt} {q:Rat} (hM:MOk M) (hq:Qs 1640000 q):At k M q ⟨tq q,(Fp (k.bc M (tq q))).map fresh,0⟩:=⟨rfl,pW (ok.st M hM) (GG hq)⟩
end Orq
namespace Orq
open Orr Go
theorem Qae (x:Rat):∀ L:Up,L≠[]->tc x 0 L+1<=L.length
 | [],h=>absurd rfl h
 |
  f::l,_=>by
  simp only [tc,Q4]
  split
  ·by_cases h:l=[]
   ·subst h; simp [tc]
   ·have:=Qae x l h; omega
  ·have:=dF x l (U7 (ev f x));rw [if_neg (by omega)]; omega
theorem eZ:∀ {k:Nat} {a b:Ul} {l:Um},U6 a->U6 b->a.length<=60->b.length<=60->kR k a b=some l->l.length<=b.length
 | 0,_,_,_,_,_,_,_,h=>by cases h
 |
  k+1,a,b,l,ta,tb,ha,hb,h=>by
  simp only [kR] at h
  split at h
  ·injection h with h; subst h; exact Qh _
  ·rename_i h0;obtain ⟨_,r2,_⟩:=FC ta tb h0 ha;obtain ⟨r,hr,h⟩:=Qd.1 h;obtain ⟨l',h1,h⟩:=Qd.1 h;injection h with h; subst h;unfold AX at hr
   split at hr
   ·injection hr with hr; subst hr;have h2:=I7 (Rk a b);have:=eZ (b:=P9 (Rk a b)) tb (Fq _ _) hb (by omega) h1;rw [Q4]; omega
   ·cases hr
theorem Qbn {p q:Ul} {c:Um} (hq:Sv p=some q) (tq:U6 q) (h9:q.length<=60) (h:Cq p=some c):c.length<=q.length/\c≠[]:=by
 unfold Cq at h;rw [hq] at h;simp only [Xy] at h
 split at h
 ·cases h
 ·rename_i h0;obtain ⟨d,hd,h⟩:=Qd.1 h;obtain ⟨l,h1,h⟩:=Qd.1 h;injection h with h; subst h;refine ⟨?_,by simp⟩;have h2:d=Gk q:=by
   unfold AX at hd
   split at hd
   ·injection hd with hd; exact hd.symm
   ·cases hd
  subst h2;have h3:=P7 q;have h4:U6 (Fb (Gk q))/\(Fb (Gk q)).length<=(Gk q).length:=by
   by_cases e:(Gk q).length=0
   ·have e':Fb (Gk q)=[]:=by unfold Fb; rw [if_pos e]
    rw [e']; exact ⟨rfl,Qh _⟩
   ·obtain ⟨t1,t2,_⟩:=Ma (p:=Gk q) (Fq _ _) e;exact ⟨t1,by omega⟩
  have:=eZ tq h4.1 h9 (by omega) h1;rw [Q4]; omega
theorem YC {p:Ul} (h:Cp p):(JK p).length<=p.length-1:=by
 unfold JK;cases hl:QI p with
 | none=>exact Qh _
 |
  some l =>
  show l.length<=_;unfold QI at hl;by_cases h0:p.length=0
  ·have e:p=[]:=Qj h0;subst e;injection hl with hl;rw [<-hl]; exact Qh _
  ·obtain ⟨qp,o,q1,o1,hpt⟩:=bX (n:=9) (s:=1110) (p:=p) ⟨⟨by decide,by decide⟩,h.t,h0,h.l,h.b⟩;obtain ⟨p1,p2,p3,p4,p5,p6,p7⟩:=Ma h.t h0;have hpl:=h.l;obtain ⟨hh,th,eh⟩:=hpt.oh;have bo:Bd 1179 o:=QU (p5 1110 h.b) (by omega) p1 hpt.ot th (by omega) eh;obtain ⟨lo1,lo2⟩:=Ri p1 (by omega) eh;have hlen:=Pw hpt.ot th p1 eh lo1 lo2;have ho:o.length≠0:=by omega
   have oko:Okp 9 1180 o:=⟨yP,hpt.ot,by omega,by omega,Ux bo (by omega)⟩;obtain ⟨q,c,l',r1,r2,r3,_,hRI,_,_,hlq,_⟩:=tV (Ql _) oko;obtain ⟨g',q',s1,s2⟩:=Ox oko;rw [r1] at s1;injection s1 with s1;subst s1;rw [o1,Xy,if_neg ho,r3] at hl;have hl:=Option.some.inj hl;subst hl;obtain ⟨c1,c2⟩:=Qbn r1 s2.pq.t (by omega) r2;have hll:=hRI.len;have h2:tc (-Gp q) 0 (c.map cz)+1<=(c.map cz).length:=Qae _ _ (by simpa using c2);rw [Q8] at h2;have h3:vv (c.map cz) (-Gp q)=tc (-Gp q) 0 (c.map cz):=rfl;omega
theorem Qvj {T:List Tm} {a b:Tm} (h:∀ q,Ff a q=Ff b q):mu T a=mu T b:=by
 unfold mu;congr 1;refine Wv λt _=>?_
 have:Pu a t↔Pu b t:=by unfold Pu; simp only [h]
 simp [this]
theorem Qo3 {p p':Ul} (tp:U6 p) (h':∀ t,U3 p' t=-U3 p t) {a t:Tm} (h:Sr p a (some t)):Sr p' a (some t):=by
 obtain ⟨h1,h2,h3,s,h4,h5,h6⟩:=h;have key:∀ {c:Rat->Int} {s:Int},RS (cz p) c s->RS (cz p') c (-s):=λ⟨y,y1,y2⟩=>⟨y,y1,λq q1 q2=>by
  have:=y2 q q1 q2;rw [U4] at this ⊢;rw [h',Qc5,this]⟩
 refine ⟨λe=>h1 (yL tp λt=>?_),h2,h3,-s,by omega,λc hc ha hm=>key (h5 c hc ha hm),?_⟩
 ·have:=h' t;rw [e] at this;have h0:U3 [] t=0:=rfl;rw [h0] at this; grind
 ·have:=key h6;exact this
theorem Qup {Bc:Tm->List Ct} {Q:Um} (hQ:∀ p∈Q,Cp p) (hv:∀ a,Va a->∀ x∈Bc a,Cp x.p) (hB:∀ a,Va a->∀ x∈Bc a,x.p=[]\/∃ p∈Q,p=x.p\/∀ t,U3 p t=-U3 x.p t) {t:Rat} {a:Tm} {E:List Tm} (h:Evs Bc t a E) (ha:Va a):E.length≤mu (Q.flatMap JK) a:=by
 have hT:∀ t∈Q.flatMap JK,Va t:=λu hu=>by
  obtain ⟨p,p1,p2⟩:=Zc.1 hu;exact Qk4 (hQ p p1) u p2
 induction h with
 | nil _=>exact Qh _
 |
  @cons a e E he h1 h2 h3 h4 h5 ih =>
  obtain ⟨x,hx,hn⟩:=h4;have ih:=ih he;rcases hB a ha x hx with e0 | ⟨p,hp,hpp⟩
  ·exact absurd e0 hn.1
  ·have hn':Sr p a (some e):=by
    rcases hpp with rfl | hpp
    ·exact hn
    ·exact Qo3 (hv a ha x hx).t hpp hn
   obtain ⟨r,_,r2,r3⟩:=KN (hQ p hp) ha;cases r with
   | none=>exact (Pf ha hn' r2).elim
   |
    some u =>
    have hu:=r3 u rfl;have hm:u∈Q.flatMap JK:=Zc.2 ⟨p,hp,hu⟩;have e1:=Qvj (T:=Q.flatMap JK) (Iq ha hn' r2);have:=Qit ha.cut (hT u hm).cut (λt ht=>(hT t ht).cut) r2.2.2.1 hm;rw [Q4]; omega
theorem UT {Q:Um} {n:Nat} (h:∀ p∈Q,(JK p).length≤n):(Q.flatMap JK).length≤Q.length*n:=by
 induction Q with
 | nil=>simp
 |
  cons p Q ih =>
  have h1:=h p (by simp);have h2:=ih λq hq=>h q (Qg _ hq)
  rw [Jn,Qu,Q4,Xm]; omega
structure DgC (D:Nat) (k:Crv):Prop where
 x:k.x.length<=D+1
 y:k.y.length<=D+1
section
variable {D:Nat} {a b c d:Crv}
theorem uP (ha:DgC D a) (hb:DgC D b):(Fu a b).length<=D+1:=by
 have h1:=S5 (Fo b.x a.d) (Fo a.x b.d); have h2:=Fh b.x a.d; have h3:=Fh a.x b.d; have h4:=ha.x; have h5:=hb.x;unfold Fu; omega
theorem uT (ha:DgC D a) (hb:DgC D b):(Ft a b).length<=D+1:=by
 have h1:=S5 (Fo b.y a.d) (Fo a.y b.d); have h2:=Fh b.y a.d; have h3:=Fh a.y b.d; have h4:=ha.y; have h5:=hb.y;unfold Ft; omega
theorem uS (ha:DgC D a) (hb:DgC D b):(Re a b).length<=2*D+1:=by
 have h1:=uP ha hb; have h2:=uT ha hb;have h3:=Rq (Fu a b) (Fu a b); have h4:=Rq (Ft a b) (Ft a b);have h5:=Ac (Gf (Fu a b) (Fu a b)) (Gf (Ft a b) (Ft a b));unfold Re; omega
theorem mT (ha:DgC D a) (hb:DgC D b) (hc:DgC D c) (hd:DgC D d):(G8 a b c d).length<=2*D+1:=by
 have h1:=uS ha hb; have h2:=uS hc hd;have h3:=S5 (Fo (Re c d) ((a.d*b.d)*(a.d*b.d))) (Fo (Re a b) ((c.d*d.d)*(c.d*d.d)));have h4:=Fh (Re c d) ((a.d*b.d)*(a.d*b.d)); have h5:=Fh (Re a b) ((c.d*d.d)*(c.d*d.d));unfold G8; omega
theorem IM (sa:Sc a) (sb:Sc b) (sc:Sc c) (hD:D<=2) (ha:DgC D a) (hb:DgC D b) (hc:DgC D c):(Gt a b c).length<=2*D+1:=by
 have h:=EM sa sb sc;have h':Sq 128 [D,D,0] 3 3 (LF a b c):=⟨h.l,h.w,h.t,h.b,λr hr j p hp=>by
  have:∃ k:Crv,DgC D k/\r=[k.x,k.y,[k.d]]:=by
   simp only [LF,Qm,Xw,or_false] at hr;rcases hr with rfl | rfl | rfl
   ·exact ⟨a,ha,rfl⟩
   ·exact ⟨b,hb,rfl⟩
   ·exact ⟨c,hc,rfl⟩
  obtain ⟨k,hk,rfl⟩:=this
  match j,hp with
  | 0,hp=>injection hp with hp; subst hp; exact hk.x
  | 1,hp=>injection hp with hp; subst hp; exact hk.y
  | 2,hp=>injection hp with hp; subst hp; exact Ql _
  | j+3,hp=>simp at hp⟩
 have:=(YF 3 [D,D,0] _ (by decide) rfl (by simp; omega) h').2.2;have e:[D,D,0].sum=2*D:=by simp; omega
 rw [e] at this;exact this
theorem Qn3 (sa:Sc a) (sb:Sc b) (sc:Sc c) (sd:Sc d) (hD:D<=2) (ha:DgC D a) (hb:DgC D b) (hc:DgC D c) (hd:DgC D d):(ZJ a b c d).length<=4*D+1:=by
 have h:=EP sa.n sb.n sc.n sd.n sa.c sb.c sc.c sd.c;have h':Sq (128+128+3) [D,D,2*D,0] 4 4 (BL a b c d):=⟨h.l,h.w,h.t,h.b,λr hr j p hp=>by
  have:∃ k:Crv,DgC D k/\r=Ib k:=by
   simp only [BL,Qm,Xw,or_false] at hr;rcases hr with rfl | rfl | rfl | rfl
   ·exact ⟨a,ha,rfl⟩
   ·exact ⟨b,hb,rfl⟩
   ·exact ⟨c,hc,rfl⟩
   ·exact ⟨d,hd,rfl⟩
  obtain ⟨k,hk,rfl⟩:=this;have l1:=Fh k.x k.d;have l2:=Fh k.y k.d;have l3:=Rq k.x k.x;have l4:=Rq k.y k.y;have l5:=Ac (Gf k.x k.x) (Gf k.y k.y);have kx:=hk.x;have ky:=hk.y
  match j,hp with
  | 0,hp=>injection hp with hp; subst hp; show _<=D+1; omega
  | 1,hp=>injection hp with hp; subst hp; show _<=D+1; omega
  | 2,hp=>injection hp with hp; subst hp; show _<=2*D+1; omega
  | 3,hp=>injection hp with hp; subst hp; exact Ql _
  | j+4,hp=>simp [Ib] at hp⟩
 have:=(YF 4 [D,D,2*D,0] _ (by decide) rfl (by simp; omega) h').2.2;have e:[D,D,2*D,0].sum=4*D:=by simp; omega
 rw [e] at this;exact this
end
theorem FU (x:Pt) (l:List Pt):Fx (x::l)=l.map (λy=>(x,y))++Fx l:=rfl
theorem KA:∀ l:List Pt,2*(Fx l).length<=l.length*l.length
 | []=>Qh _
 |
  x::l=>by
  have:=KA l;rw [FU,Qu,Q8,Q4];simp only [Xm,Xk,Kt,Yc]; omega
theorem qM:∀ {l:List Pt} {x y:Pt},x∈l->y∈l->x=y\/(x,y)∈Fx l\/(y,x)∈Fx l
 | [],_,_,h,_=>by cases h
 |
  z::l,x,y,hx,hy=>by
  rw [FU];rcases Qm.1 hx with e | h1
  ·rcases Qm.1 hy with e' | h2
   ·exact .inl (e.trans e'.symm)
   ·exact .inr (.inl (Z6 _ (Q6.2 ⟨y,h2,by rw [e]⟩)))
  ·rcases Qm.1 hy with e' | h2
   ·exact .inr (.inr (Z6 _ (Q6.2 ⟨x,h1,by rw [e']⟩)))
   rcases qM h1 h2 with h | h | h
   ·exact .inl h
   ·exact .inr (.inl (Z4 _ h))
   ·exact .inr (.inr (Z4 _ h))
def DW (l:List Pt):Um:=(Fx l).map (λm=>Fu m.1.c m.2.c)++(Fx l).map λm=>Ft m.1.c m.2.c
theorem zW (a b:Crv) (t:Rat):U3 (Fu b a) t=-U3 (Fu a b) t:=by
 unfold Fu; rw [Ty,Ty]; grind
theorem IZ (a b:Crv) (t:Rat):U3 (Ft b a) t=-U3 (Ft a b) t:=by
 unfold Ft; rw [Ty,Ty]; grind
theorem DU {l:List Pt} {p:Ul} (tp:U6 p) (h:p∈Lf l):p=[]\/∃ p'∈DW l,p'=p\/∀ t,U3 p' t=-U3 p t:=by
 obtain ⟨x,hx,h⟩:=Zc.1 h;obtain ⟨y,hy,h⟩:=Zc.1 h;simp only [Qm,Xw,or_false] at h;rcases qM hx hy with rfl | e | e
 ·left;refine yL tp λt=>?_
  rcases h with rfl | rfl
  ·have:=zW x.c x.c t; grind
  ·have:=IZ x.c x.c t; grind
 ·right;rcases h with rfl | rfl
  ·exact ⟨_,Z6 _ (Q6.2 ⟨_,e,rfl⟩),.inl rfl⟩
  ·exact ⟨_,Z4 _ (Q6.2 ⟨_,e,rfl⟩),.inl rfl⟩
 ·right;rcases h with rfl | rfl
  ·exact ⟨_,Z6 _ (Q6.2 ⟨_,e,rfl⟩),.inr (zW _ _)⟩
  ·exact ⟨_,Z4 _ (Q6.2 ⟨_,e,rfl⟩),.inr (IZ _ _)⟩
theorem Qhv {l:List Pt} {p:Ul} (h:p∈DW l):∃ x∈l,∃ y∈l,p=Fu x.c y.c\/p=Ft x.c y.c:=by
 rcases Qq.1 h with h | h
 all_goals
  obtain ⟨m,hm,rfl⟩:=Q6.1 h;obtain ⟨h1,h2⟩:=Tl _ _ m hm
 ·exact ⟨_,h1,_,h2,.inl rfl⟩
 ·exact ⟨_,h1,_,h2,.inr rfl⟩
theorem EI:∀ (k:Nat) (l:List Pt),k<=l.length->(Ch k l).length<=k*(l.length*l.length)
 | 0,l,_=>by simp [Ch]
 | k+1,[],h=>by simp at h
 |
  k+1,x::l,h=>by
  have ih:=EI k l (by simpa using h);have h2:=KA l;have h3:l.length*l.length<=(l.length+1)*(l.length+1):=Za (by omega) (by omega);have h4:k*(l.length*l.length)<=k*((l.length+1)*(l.length+1)):=Zp _ h3;show ((Fx l).map _++Ch k l).length<=_;rw [Qu,Q8,Q4,Xm]; omega
theorem tQ:∀ (k:Nat) (l:List Pt),k<=l.length->(Db k l).length<=k*(l.length*(l.length*l.length))
 | 0,l,_=>by simp [Db]
 | k+1,[],h=>by simp at h
 |
  k+1,x::l,h=>by
  have ih:=tQ k l (by simpa using h);have h2:(Hl l).length<=l.length*(l.length*l.length):=EI l.length l (Ql _);have h3:l.length*(l.length*l.length)<=(l.length+1)*((l.length+1)*(l.length+1)):=Za (by omega) (Za (by omega) (by omega));have h4:k*(l.length*(l.length*l.length))<=k*((l.length+1)*((l.length+1)*(l.length+1))):=Zp _ h3;show ((Hl l).map _++Db k l).length<=_;rw [Qu,Q8,Q4,Xm]; omega
section
variable {M:List Pt} {D:Nat} (hM:MOk M) (hd:∀ p∈M,DgC D p.c)
include hM hd
theorem MF:∀ p∈DW M,Cp p/\(JK p).length≤D:=λp hp=>by
 obtain ⟨x,hx,y,hy,rfl | rfl⟩:=Qhv hp
 ·have h:=P5 (hM.sc x hx) (hM.sc y hy);have:=YC h; have:=uP (hd x hx) (hd y hy);exact ⟨h,by omega⟩
 ·have h:=P0 (hM.sc x hx) (hM.sc y hy);have:=YC h; have:=uT (hd x hx) (hd y hy);exact ⟨h,by omega⟩
theorem DF:((DW M).flatMap JK).length<=M.length*M.length*D:=by
 have h1:=UT λp hp=>(MF hM hd p hp).2
 have h2:=KA M;have h3:(DW M).length<=M.length*M.length:=by unfold DW; rw [List.length_append,List.length_map,List.length_map]; omega
 exact Qc h1 (Qz _ h3)
theorem BB {β:Type} {k:Knd β} (ok:KndOk k) {q t:Rat} (hq:Qs 1640000 q) (ht:Qs 1640000 t) (hqt:q≤t) {Q:Um} (hQ:∀ p∈Q,Cp p) (hB:∀ p∈k.al M,p=[]\/∃ p'∈Q,p'=p\/∀ t,U3 p' t=-U3 p t) {n:Nat} (hn:(Q.flatMap JK).length≤n):cnt (k.bc M) q t≤n:=by
 obtain ⟨E,h1,h2⟩:=jT ok hM hq ht hqt;have:=Qup hQ (λa _ x hx=>ok.cp M hM _ (ok.al M a x hx)) (λa _ x hx=>hB _ (ok.al M a x hx)) h1 (GG hq);have:=Qis (Q.flatMap JK) (tq q);omega
theorem Qxf {q t:Rat} (hq:Qs 1640000 q) (ht:Qs 1640000 t) (hqt:q<=t):cnt (O2 M) q t<=M.length*M.length*D :=
 BB hM hd okS hq ht hqt (λp hp=>(MF hM hd p hp).1) (λp hp=>DU (okS.cp M hM p hp).t hp) (DF hM hd)
theorem Qxg {q t:Rat} (hq:Qs 1640000 q) (ht:Qs 1640000 t) (hqt:q<=t):cnt (PZ M) q t<=M.length*M.length*D :=
 BB hM hd okT hq ht hqt (λp hp=>(MF hM hd p hp).1) (λp hp=>DU (okT.cp M hM p hp).t hp) (DF hM hd)
theorem Qxd (hD:D<=2) {q t:Rat} (hq:Qs 1640000 q) (ht:Qs 1640000 t) (hqt:q<=t):cnt (GO M) q t<=2*(M.length*M.length*M.length*D)+M.length*M.length*D:=by
 have hO:∀ p∈GL M,Cp p/\(JK p).length≤2*D:=λp hp=>by
  have hc:=okH.cp M hM p (Z4 _ hp);obtain ⟨x,hx,hp⟩:=Zc.1 hp;obtain ⟨y,hy,hp⟩:=Zc.1 hp;obtain ⟨z,hz,rfl⟩:=Q6.1 hp;have:=YC hc; have:=IM (hM.sc x hx) (hM.sc y hy) (hM.sc z hz) hD (hd x hx) (hd y hy) (hd z hz);exact ⟨hc,by omega⟩
 refine BB hM hd okH hq ht hqt (Q:=DW M++GL M) (λp hp=>?_) (λp hp=>?_) ?_
 ·rcases Qq.1 hp with hp | hp
  ·exact (MF hM hd p hp).1
  ·exact (hO p hp).1
 ·have hc:=(okH.cp M hM p hp).t;rcases Qq.1 hp with hp | hp
  ·rcases DU hc hp with e | ⟨p',h1,h2⟩
   ·exact .inl e
   ·exact .inr ⟨p',Z6 _ h1,h2⟩
  ·exact .inr ⟨p,Z4 _ hp,.inl rfl⟩
 ·have h1:=DF hM hd;have h2:=UT λp hp=>(hO p hp).2
  rw [dC] at h2;have e:M.length*(M.length*M.length)*(2*D)=2*(M.length*M.length*M.length*D):=by grind
  rw [List.flatMap_append,Qu]; omega
theorem Qxe {q t:Rat} (hq:Qs 1640000 q) (ht:Qs 1640000 t) (hqt:q<=t):cnt (IX M) q t<=2*(M.length*M.length*M.length*M.length*D):=by
 refine BB hM hd okP hq ht hqt (Q:=PQ M) (okP.cp M hM) (λp hp=>.inr ⟨p,hp,.inl rfl⟩) ?_;have h2:=UT (Q:=PQ M) (n:=2*D) λp hp=>by
  have hc:=okP.cp M hM p hp;obtain ⟨x,hx,hp⟩:=Zc.1 hp;obtain ⟨y,hy,hp⟩:=Zc.1 hp;obtain ⟨z,hz,hp⟩:=Zc.1 hp;obtain ⟨w,hw,rfl⟩:=Q6.1 hp;have:=YC hc; have:=mT (hd x hx) (hd y hy) (hd z hz) (hd w hw);omega
 rw [dB] at h2;have e:M.length*(M.length*(M.length*M.length))*(2*D)=2*(M.length*M.length*M.length*M.length*D):=by grind
 omega
theorem Qxc (hD:D<=2) {q t:Rat} (hq:Qs 1640000 q) (ht:Qs 1640000 t) (hqt:q<=t):cnt (NH M) q t<=2*(M.length*M.length*M.length*D)+4*(M.length*M.length*M.length*M.length*D):=by
 refine BB hM hd okD hq ht hqt (Q:=kE M) (okD.cp M hM) (λp hp=>.inr ⟨p,hp,.inl rfl⟩) ?_;have hc:=okD.cp M hM;have hw:=λ(x:Pt) (h:x∈Rj M)=>Mf h
 have h1:=UT (Q:=(Hl (Rj M)).map λm=>Gt m.1.c m.2.1.c m.2.2.c) (n:=2*D) λp hp=>by
  have hc:=hc p (Z6 _ hp);obtain ⟨m,hm,rfl⟩:=Q6.1 hp;obtain ⟨a1,a2,a3⟩:=GW _ _ m hm;have:=YC hc; have:=IM (hM.sc _ (hw _ a1)) (hM.sc _ (hw _ a2)) (hM.sc _ (hw _ a3)) hD (hd _ (hw _ a1)) (hd _ (hw _ a2)) (hd _ (hw _ a3));omega
 have h2:=UT (Q:=(Al (Rj M)).map λm=>ZJ m.1.c m.2.1.c m.2.2.1.c m.2.2.2.c) (n:=4*D) λp hp=>by
  have hc:=hc p (Z4 _ hp);obtain ⟨m,hm,rfl⟩:=Q6.1 hp;obtain ⟨a1,a2,a3,a4⟩:=EU _ _ m hm;have:=YC hc; have:=Qn3 (hM.sc _ (hw _ a1)) (hM.sc _ (hw _ a2)) (hM.sc _ (hw _ a3)) (hM.sc _ (hw _ a4)) hD (hd _ (hw _ a1)) (hd _ (hw _ a2)) (hd _ (hw _ a3)) (hd _ (hw _ a4));omega
 have hl:=As M;have t1:(Hl (Rj M)).length<=M.length*(M.length*M.length):=Qc (EI _ _ (Ql _)) (Za hl (Za hl hl));have t2:(Al (Rj M)).length<=M.length*(M.length*(M.length*M.length)):=Qc (tQ _ _ (Ql _)) (Za hl (Za hl (Za hl hl)));rw [Q8] at h1 h2;have h1:=Qc h1 (Qz _ t1);have h2:=Qc h2 (Qz _ t2);have e1:M.length*(M.length*M.length)*(2*D)=2*(M.length*M.length*M.length*D):=by grind
 have e2:M.length*(M.length*(M.length*M.length))*(4*D)=4*(M.length*M.length*M.length*M.length*D):=by grind
 unfold kE;rw [List.flatMap_append,Qu]; omega
end
end Orq
namespace Orr
open Go Go.Proofs Tryz Orq
set_option maxRecDepth 10000
abbrev To (c:Cr) (r0:Ur) (r1:Ur×Ur):Uq:=.bool true::pl c.now.p::sg c.now.lo.num::mg c.now.lo.num::sg (c.now.lo.den:Int)::mg (c.now.lo.den:Int)::sg c.now.hi.num::mg c.now.hi.num::sg (c.now.hi.den:Int)::mg (c.now.hi.den:Int)::.row (Co c.l)::.int .i64 c.ev::[.row r0,.row r1.1,.row r1.2]
abbrev Qua (r0:LV) (r1:LV×LV):Uq:=[.bool false,.nils,.bool false,.nils,.bool false,.nils,.bool false,.nils,.bool false,.nils,.nils,.int .i64 0,r0,r1.1,r1.2]
theorem pE {T:Nat} {c:Cr} {r0:Ur} {r1:Ur×Ur} (hc:Va c.now):Uz prog 370 [.one (.ow 0 0)] [.blk T (To c r0 r1)] [.agg (ta c.now)] [.blk T (To c r0 r1)]:=by
 have cl:=Sy (b:=c.now) (l:=[]) hc.tb (λt ht=>by cases ht) (by decide) rfl;refine Fw func370 rfl ?_;exact Ug [] [0] [.f rfl,.k cl] rfl
theorem Qm4 {T:Nat} {c:Cr} {r0:Ur} {r1:Ur×Ur} {x:Ct} {at_:Tm} {w:Wt} (hc:CrOk c) (hx:Cp x.p) (ha:Va at_) (h:B5 c.l x at_=some w):Uz prog 184 [.one (.ow 0 0),.agg (Lm x),.agg (ta at_)] [.blk T (To c r0 r1)] [.agg (wl w)] [.blk T (To c r0 r1)]:=by
 have hk:=hc.k;have hw:=Sk c.l;refine Fw func184 rfl ?_;refine Uc [] rfl ?_;refine Uh (S:=Nat) 4 (λL1 i=>(14,.v (.oi i))::L1) (λ_=>[.blk T (To c r0 r1),.blk 136 (Lm x),.blk 189 (ta at_),.blk 276 [.int .i64 0,.int .i64 0,.int .i64 0,.int .i64 0,.int .i64 0,.nils,.int .i64 0,.bool false,.bool false,.nils,.bool false,.nils,.bool false,.nils,.bool false,.nils,.bool false,.nils]]) (λi=>c.l.length-i) (λi=>i<=c.l.length/\B5 (c.l.drop i) x at_=some w) 0 ⟨Qh _,h⟩ rfl rfl λi ⟨hi,hf⟩=>?_
 by_cases hlt:i<c.l.length
 ·obtain ⟨v,hv⟩:=gxE (l:=c.l) (i:=i) hlt;have hdr:c.l.drop i=v::c.l.drop (i+1):=by
   rw [Zu hlt]; congr 1;have:=Qe hlt; rw [hv] at this; injection this with this; exact this.symm
  have hvo:=hc.l v (Qa hv);rw [hdr] at hf;simp only [B5] at hf;have hl:decide ((i:Int)<((Co c.l).length:Int))=true:=by simp [hw]; omega
  by_cases A:tP v.c x=true
  ·have A':(!decide ([v.c.kind,v.c.i0,v.c.i1,v.c.i2,v.c.i3]=[x.kind,x.i0,x.i1,x.i2,x.i3]))=false:=by
    unfold tP at A; rw [A]; rfl
   by_cases B:v.known=true
   ·have B':(!v.known)=false:=by rw [B]; rfl
    have cs:=PD (p:=v.c.p) (q:=x.p) (Dp.pb hvo.p.dp).ln (Dp.pb hx.dp).ln (Dp.pb hvo.p.dp).bd (Dp.pb hx.dp).bd;rw [hvo.p.t,hx.t] at cs;by_cases C:v.c.p=x.p
    ·have C':(!decide (v.c.p=x.p))=false:=by simp [C]
     rw [if_pos ⟨A,B,C⟩] at hf;obtain ⟨vc,vk,vf⟩:=v;cases vf with
     |
      none =>
      injection hf with hf; subst hf;exact Ug [] [0] [.t hl,.x (Hr hv),.g 24 false A',.g 29 false B',.k cs,.f C',.g 41 true rfl,.t rfl] rfl
     |
      some t =>
      obtain ⟨r,r1',hf⟩:=Qd.1 hf;have cc:=VE (hvo.f t rfl).tb ha.tb r1';by_cases D:0<r
      ·rw [if_pos D] at hf;injection hf with hf; subst hf;exact Ug [] [0] [.t hl,.x (Hr hv),.g 24 false A',.g 29 false B',.k cs,.f C',.g 41 false rfl,.k cc,.t (by simpa using D)] rfl
      ·rw [if_neg D] at hf;refine Ud [.t hl,.x (Hr hv),.g 24 false A',.g 29 false B',.k cs,.f C',.g 41 false rfl,.k cc,.f (by simpa using D)] rfl ?_;exact rd (i+1) (by omega) ⟨hlt,hf⟩ rfl
    ·rw [if_neg λh=>C h.2.2] at hf;refine Ud [.t hl,.x (Hr hv),.g 24 false A',.g 29 false B',.k cs,.t (by simp [C])] rfl ?_;exact rd (i+1) (by omega) ⟨hlt,hf⟩ rfl
   ·rw [if_neg λh=>B h.2.1] at hf;refine Ud [.t hl,.x (Hr hv),.g 24 false A',.g 29 true (by simpa using B),.t rfl] rfl ?_;exact rd (i+1) (by omega) ⟨hlt,hf⟩ rfl
  ·rw [if_neg λh=>A h.1] at hf;refine Ud [.t hl,.x (Hr hv),.g 24 true (by rw [show decide ([v.c.kind,v.c.i0,v.c.i1,v.c.i2,v.c.i3]=[x.kind,x.i0,x.i1,x.i2,x.i3])=false from Ws.2 A]; rfl),.g 29 true rfl,.t rfl] rfl ?_;exact rd (i+1) (by omega) ⟨hlt,hf⟩ rfl
 ·obtain rfl:i=c.l.length:=by omega
  rw [Y9] at hf;simp only [B5] at hf;injection hf with hf; subst hf;exact Ug [] [0] [.f (by simp [hw])] rfl
theorem lG {T:Nat} {c:Cr} {r0:Ur} {r1:Ur×Ur} {at_:Tm} {l:List Ct} {ws:List Wt} (hc:CrOk c) (ha:Va at_) (hl:∀ x∈l,Cp x.p) (hn:l.length≤1000) (h:Rz c.l at_ (Fp l)=some ws):Uz prog 157 [.one (.ow 0 0),.agg (ta at_),.one (.bool true),.one (.row (Fg l))] [.blk T (To c r0 r1)] [] [.blk T (To ⟨at_,ws,c.ev⟩ r0 r1)]:=by
 have cs:=xM (l:=l) (λx hx=>Dp.pb (hl x hx).dp) (by omega);have cl:=Sy (b:=at_) (l:=[]) ha.tb (λt ht=>by cases ht) (by decide) rfl;obtain ⟨h1,h2⟩:=XV h;have hs:(Fp l).length=l.length:=Dc l;refine Fw func157 rfl ?_;refine Uc [.o 8 276 18,.k cs] rfl ?_;refine Uh (S:=Nat) 3 (λL1 i=>(15,.v (.oi i))::(8,.v (.one (.orow 2 18 none)))::L1) (λi=>[.blk T (To c r0 r1),.blk 189 (ta at_),.row false 276 18 (Co (ws.take i))]) (λi=>ws.length-i) (λi=>i<=ws.length) 0 (Qh _) rfl rfl λi hi=>?_
 by_cases hlt:i<ws.length
 ·obtain ⟨x,hx⟩:=gxE (l:=(Fp l)) (i:=i) (by omega);obtain ⟨w,hw,hw'⟩:=h2 i x hx;have hm:∀ y∈[wl w],y.length=18:=λy hy=>by rw [Qk.1 hy]; rfl
  have hlt':decide ((i:Int)<((Fg (Fp l)).length:Int))=true:=by simp [Fg]; omega
  have ck:=Qm4 (T:=T) (r0:=r0) (r1:=r1) hc (hl x (YN (Qa hx))) ha hw;have hg:=Ep hw';obtain ⟨wc,wk,wf⟩:=w;cases wf <;> (refine go tt [.t hlt',.x (KV hx),.t rfl,.c [0] ck,.s (sz:=18) hm] rfl (by simp [Uw,Sk]; omega) ?_; exact rd (i+1) (by omega) hlt (by rw [hg]; rfl))
 ·obtain rfl:i=ws.length:=by omega
  rw [Q7];have hge:decide ((ws.length:Int)<((Fg (Fp l)).length:Int))=false:=by simp [Fg]; omega
  exact Ug [] [0] [.f hge,.p 2,.k cl] rfl
theorem Qm5 {T:Nat} {r0:Ur} {r1:Ur×Ur} {at_:Tm} {l:List Ct} (ha:Va at_) (hl:∀ x∈l,Cp x.p) (hn:l.length≤1000):Uz prog 157 [.one (.ow 0 0),.agg (ta at_),.one (.bool false),.one (.row (Fg l))] [.blk T (Qua (.row r0) (.row r1.1,.row r1.2))] [] [.blk T (To ⟨at_,(Fp l).map fresh,0⟩ r0 r1)]:=by
 have cs:=xM (l:=l) (λx hx=>Dp.pb (hl x hx).dp) (by omega);have cl:=Sy (b:=at_) (l:=[]) ha.tb (λt ht=>by cases ht) (by decide) rfl;have hs:(Fp l).length=l.length:=Dc l;refine Fw func157 rfl ?_;refine Uc [.o 8 276 18,.k cs] rfl ?_;refine Uh (S:=Nat) 3 (λL1 i=>(15,.v (.oi i))::(8,.v (.one (.orow 2 18 none)))::L1) (λi=>[.blk T (Qua (.row r0) (.row r1.1,.row r1.2)),.blk 189 (ta at_),.row false 276 18 (Co (((Fp l).map fresh).take i))]) (λi=>l.length-i) (λi=>i<=l.length) 0 (Qh _) rfl rfl λi hi=>?_
 by_cases hlt:i<l.length
 ·obtain ⟨x,hx⟩:=gxE (l:=(Fp l)) (i:=i) (by omega);have hm:∀ y∈[wl (fresh x)],y.length=18:=λy hy=>by rw [Qk.1 hy]; rfl
  have hlt':decide ((i:Int)<((Fg (Fp l)).length:Int))=true:=by simp [Fg]; omega
  have hg:=Ep (l:=(Fp l).map fresh) (i:=i) (w:=fresh x) (by rw [Zb,hx]; rfl);refine go tt [.t hlt',.x (KV hx),.z 20,.f rfl,.s (sz:=18) hm] rfl (by simp [Uw,Sk]; omega) ?_;exact rd (i+1) (by omega) hlt (by rw [hg]; rfl)
 ·obtain rfl:i=l.length:=by omega
  rw [Qn (by simp; omega)];have hge:decide ((l.length:Int)<((Fg (Fp l)).length:Int))=false:=by simp [Fg]; omega
  exact Ug [] [0] [.f hge,.p 2,.k cl] rfl
theorem Qba {T:Nat} {r0:Ur} {r1:Ur×Ur} {at_:Tm} {l:List Ct} (ha:Va at_) (hl:∀ x∈l,Cp x.p) (hn:l.length≤1000):Uz prog 126 [.one (.ow 0 0),.agg (ta at_),.one (.row (Fg l))] [.blk T (Qua (.row r0) (.row r1.1,.row r1.2))] [] [.blk T (To ⟨at_,(Fp l).map fresh,0⟩ r0 r1)]:=by
 have cl:=Qm5 (T:=T) (r0:=r0) (r1:=r1) ha hl hn;refine Fw func126 rfl ?_;exact Ug [] [0] [.g 12 false rfl,.c [0] cl] rfl
theorem Qbb {T:Nat} {c:Cr} {r0:Ur} {r1:Ur×Ur} {at_:Tm} {l:List Ct} {ws:List Wt} {k:Int} (hc:CrOk c) (ha:Va at_) (hk:UX at_ c.now=some k) (h0:0≤k) (hl:∀ x∈l,Cp x.p) (hn:l.length≤1000) (h:Rz c.l at_ (Fp l)=some ws):Uz prog 126 [.one (.ow 0 0),.agg (ta at_),.one (.row (Fg l))] [.blk T (To c r0 r1)] [] [.blk T (To ⟨at_,ws,c.ev⟩ r0 r1)]:=by
 have cl:=lG (T:=T) (r0:=r0) (r1:=r1) hc ha hl hn h;have cc:=VE ha.tb hc.n.tb hk;refine Fw func126 rfl ?_;exact Ug [] [0] [.g 12 true rfl,.k cc,.r 20 (eB (show decide (0<=k)=true by simpa using h0)),.c [0] cl] rfl
theorem Qm6 {T:Nat} {c:Cr} {r0:Ur} {r1:Ur×Ur} {ws:List Wt} (hc:CrOk c) (h:I8 c.now c.l=some ws):Uz prog 365 [.one (.ow 0 0)] [.blk T (To c r0 r1)] [] [.blk T (To { c with l:=ws } r0 r1)]:=by
 have hk:=hc.k;have hw:=Sk c.l;obtain ⟨h1,h2⟩:=YK h;refine Fw func365 rfl ?_;refine Uc [.o 2 276 18,.c [0] (pE hc.n)] rfl ?_;refine Uh (S:=Nat) 3 (λL1 i=>(13,.v (.oi i))::(2,.v (.one (.orow 1 18 none)))::L1) (λi=>[.blk T (To c r0 r1),.row false 276 18 (Co (ws.take i)),.blk 189 (ta c.now)]) (λi=>c.l.length-i) (λi=>i<=c.l.length) 0 (Qh _) rfl rfl λi hi=>?_
 by_cases hlt:i<c.l.length
 ·obtain ⟨w,hx⟩:=gxE (l:=c.l) (i:=i) hlt;obtain ⟨v,hv,h3⟩:=h2 i w hx;have hm:∀ y∈[wl v],y.length=18:=λy hy=>by rw [Qk.1 hy]; rfl
  have hg:=Ep hv;have hl:decide ((i:Int)<((Co c.l).length:Int))=true:=by simp [hw]; omega
  rcases h3 with ⟨k1,rfl⟩ | ⟨k1,r,k2,rfl⟩
  ·obtain ⟨vc,vk,vf⟩:=v;cases vf <;> (refine go tt [.t hl,.x (Hr hx),.f (by rw [show vk=true from k1]; rfl),.s (sz:=18) hm] rfl (by simp [Uw,Sk]; omega) ?_; exact rd (i+1) (by omega) hlt (by rw [hg]; rfl))
  ·have cg:=wU (hc.l w (Qa hx)).p hc.n k2;obtain ⟨wc,wk,wf⟩:=w;cases r <;> cases wf <;> (refine go tt [.t hl,.x (Hr hx),.t (by rw [show wk=false from k1]; rfl),.k cg,.s (sz:=18) hm] rfl (by simp [Uw,Sk]; omega) ?_; exact rd (i+1) (by omega) hlt (by rw [hg]; rfl))
 ·obtain rfl:i=c.l.length:=by omega
  rw [<-h1,Q7];exact Ug [1] [0] [.f (by simp [hw,h1])] rfl
theorem Qm7 {T:Nat} {c:Cr} {r0:Ur} {r1:Ur×Ur} {ws:List Wt} {r:Option Tm} (hc:CrOk c) (h:I8 c.now c.l=some ws) (hr:AA ws=some r):Uz prog 371 [.one (.ow 0 0)] [.blk T (To c r0 r1)] [.agg (ota r),.one (.bool r.isSome)] [.blk T (To { c with l:=ws } r0 r1)]:=by
 have hcl:=Qm6 (T:=T) (r0:=r0) (r1:=r1) hc h;have hc':=L9 hc h;have hk:=hc'.k;have hw:=Sk ws;have hvb:∀ t∈ws.filterMap (·.fails),Tb t:=λt ht=>by
  obtain ⟨w,w1,w2⟩:=Ji.1 ht;exact ((hc'.l w w1).f t w2).tb
 refine Fw func371 rfl ?_;refine Uc [.c [0] hcl,.o 4 189 9] rfl ?_;refine Uh (S:=Nat) 3 (λL1 i=>(14,.v (.oi i))::(4,.v (.one (.orow 2 9 none)))::L1) (λi=>[.blk T (To { c with l:=ws } r0 r1),.blk 189 zTm,.row false 189 9 (tal ((ws.take i).filterMap (·.fails)))]) (λi=>ws.length-i) (λi=>i<=ws.length) 0 (Qh _) rfl rfl λi hi=>?_
 by_cases hlt:i<ws.length
 ·obtain ⟨w,hx⟩:=gxE (l:=ws) (i:=i) hlt;have hl:decide ((i:Int)<((Co ws).length:Int))=true:=by simp [hw]; omega
  have hfl:((ws.take i).filterMap (·.fails)).length<=i:=Qc (Vb _ _) (by rw [Qr]; omega);have hg:(ws.take (i+1)).filterMap (·.fails)=(ws.take i).filterMap (·.fails)++(match w.fails with | none=>[] | some t=>[t]):=by
   rw [Z3,hx,List.filterMap_append];show _++List.filterMap (·.fails) [w]=_;cases hwf:w.fails <;> simp [hwf]
  obtain ⟨wc,wk,wf⟩:=w;have hk:ws.length<=1000:=hk;cases wf with
  |
   none =>
   refine Ud [.t hl,.x (Hr hx),.f rfl] rfl ?_;exact rd (i+1) (by omega) hlt (by rw [hg]; simp; rfl)
  |
   some t =>
   refine Ud [.t hl,.x (Hr hx),.t rfl,.s (l:=[ta t]) (sz:=9) (λc hc=>by rw [Qk.1 hc]; rfl)] rfl ?_;exact rd (i+1) (by omega) hlt (by rw [hg]; simp [tal]; rfl)
 ·obtain rfl:i=ws.length:=by omega
  rw [Q7];have hf:decide ((ws.length:Int)<((Co ws).length:Int))=false:=by simp [hw]
  have hln:(ws.filterMap (·.fails)).length<=1000:=Qc (Vb _ _) hk;unfold AA at hr;cases hfm:ws.filterMap (·.fails) with
  |
   nil =>
   rw [hfm] at hr;injection hr with hr; subst hr;exact Ug [] [0] [.f hf,.p 2,.k wF] rfl
  |
   cons b l =>
   rw [hfm] at hr hvb hln;obtain ⟨m,m1,rfl⟩:=Yu.1 hr;have cl:=Sy (hvb b (Qy ..)) (λt ht=>hvb t (Qg _ ht)) (by simp at hln; omega) m1;exact Ug [] [0] [.f hf,.p 2,.k cl] rfl
theorem Qxt {T:Nat} {t:Rat} {Bc:Tm->List Ct} {Br:Tm->Ur×Ur} {r0:Ur} (ht:Qs 1640000 t) (hB:BuildOk Bc)
 (hb:∀ a c r1,Va a->CrOk c->Uz prog 128 [.one (.ow 0 0),.agg (ta a)] [.blk T (To c r0 r1)] [.one (.row (Fg (Bc a)))] [.blk T (To c r0 (Br a))])
 {K:Nat} {c c':Cr} {r1 r1':Ur×Ur} {n:Int} (hc:CrOk c) (hev:0<=c.ev/\c.ev+K<=1000000000000000000) (h:Ff c.now t<=0) (hg:WS Bc Br t K c r1 0=some (c',r1',n)) :
 Uz prog 366 [.one (.ow 0 0),.agg (rl t),.one (.ofn 128 [.ow 0 0] [])] [.blk T (To c r0 r1)] [.oi n,.oi 0] [.blk T (To c' r0 r1')]:=by
 have qt:Qb t:=ht.mono (by decide);have c1:=C0 hc.n.tb qt;refine Fw func366 rfl ?_;refine Uc [.c [0] (pE hc.n),.k c1,.f (by simpa using h)] rfl ?_;refine Uh (S:=Nat×Cr×(Ur×Ur)×Int) 2 (λL1 s=>(8,.v (.oi s.2.2.2))::L1) (λs=>[.blk T (To s.2.1 r0 s.2.2.1),.blk 40 (rl t)]) (λs=>s.1) (λs=>CrOk s.2.1/\(0<=s.2.1.ev/\s.2.1.ev+s.1<=1000000000000000000)/\(0<=s.2.2.2/\s.2.2.2+s.1<=1000000000000000000)/\WS Bc Br t s.1 s.2.1 s.2.2.1 s.2.2.2=some (c',r1',n)) (K,c,r1,0) ⟨hc,hev,⟨Int.le_refl 0,by dsimp only; omega⟩,hg⟩ rfl rfl λ⟨k,x,r,m⟩ ⟨j1,j2,j3,j4⟩=>?_
 dsimp only at j1 j2 j3 j4 ⊢;cases k with
 | zero=>cases j4
 |
  succ k =>
  simp only [WS] at j4;obtain ⟨ws,w1,j4⟩:=Qd.1 j4;obtain ⟨o,o1,j4⟩:=Qd.1 j4;have cn:=Qm7 (T:=T) (r0:=r0) (r1:=r) j1 w1 o1;have ca:=VG (Uy t.num) (Uy (t.den:Int)) (Qc ht.1 (by decide)) (Qc ht.2 (by decide)) (by rw [Pa]; exact ht.mono (by decide));rw [Pa] at ca;cases o with
  |
   none =>
   injection j4 with j4; injection j4 with e1 j4; injection j4 with e2 e3;subst e1; subst e2; subst e3;exact Ug [] [0] [.c [0] cn,.g 25 true rfl,.t rfl,.k ca] rfl
  |
   some a =>
   have ha:=LK j1 w1 o1;dsimp only at j4;have cc:=C0 ha.tb qt;by_cases h0:0<Ff a t
   ·rw [if_pos h0] at j4;injection j4 with j4; injection j4 with e1 j4; injection j4 with e2 e3;subst e1; subst e2; subst e3;exact Ug [] [0] [.c [0] cn,.g 25 false rfl,.k cc,.t (by simpa using h0),.k ca] rfl
   ·rw [if_neg h0] at j4;obtain ⟨w2,l1,j4⟩:=Qd.1 j4;have j1':=L9 j1 w1;have cl:=Sy (b:=a) (l:=[]) ha.tb (λt ht=>by cases ht) (by decide) rfl;have cb:=hb a { x with l:=ws } r ha j1';have cy:=lG (T:=T) (r0:=r0) (r1:=Br a) j1' ha (hB.p a ha) (hB.n a ha) l1;have hf:decide (0<Ff a t)=false:=by simpa using h0
    refine Ud [.c [0] cn,.g 25 false rfl,.k cc,.f hf,.k cl,.c [0] cb,.c [0] cy] rfl ?_;exact rd (k,⟨a,w2,x.ev+1⟩,Br a,m+1) (by dsimp only; omega) ⟨lay_ok _ j1' ha (hB.p a ha) (hB.n a ha) l1,by dsimp only; omega,by dsimp only; omega,j4⟩ rfl
theorem Qbc {T:Nat} {c:Cr} {r0:Ur} {r1:Ur×Ur}:Uz prog 362 [.one (.ow 0 0)] [.blk T (To c r0 r1)] [.oi c.ev] [.blk T (To c r0 r1)]:=by
 refine Fw func362 rfl ?_;exact Ug [] [0] [] rfl
end Orr
namespace Orr
open Go Go.Proofs Tryz Orq
def Ex (k:Crv):Int:=max (max 0 ((k.x.length:Int)-1)) ((k.y.length:Int)-1)
structure Es where
 np:Int
 nd:Int
 M:List Pt
 q:Rat
 s:Cr
 t:Cr
 h:Cr
 p:Cr
 d:Cr
structure Em where
 np:Int
 nd:Int
 M:List Pt
 q:Rat
 s:Int
 t:Int
 h:Int
 p:Int
 d:Int
def Es.m (E:Es):Em:=⟨E.np,E.nd,E.M,E.q,E.s.ev,E.t.ev,E.h.ev,E.p.ev,E.d.ev⟩
structure MEn (np nd:Int) (M:List Pt):Prop where
 m:MOk M
 len:(M.length:Int)<=np
 deg:∀ p∈M,Ex p.c≤nd
 id:∀ p∈M,0≤p.id/\p.id≤1048576
structure EOk (b:Int) (E:Es):Prop where
 np:1<=E.np/\E.np<=6
 nd:0<=E.nd/\E.nd<=2
 m:MEn E.np E.nd E.M
 q:Qs 128 E.q
 s:At kS E.M E.q E.s
 t:At kT E.M E.q E.t
 h:At kH E.M E.q E.h
 p:At kP E.M E.q E.p
 d:At kD E.M E.q E.d
 es:0<=E.s.ev/\E.s.ev<=b
 et:0<=E.t.ev/\E.t.ev<=b
 eh:0<=E.h.ev/\E.h.ev<=b
 ep:0<=E.p.ev/\E.p.ev<=b
 ed:0<=E.d.ev/\E.d.ev<=b
theorem EOk.mono {b c:Int} {E:Es} (h:EOk b E) (hb:b<=c):EOk c E:={ h with es:=⟨h.es.1,by have:=h.es.2; omega⟩,et:=⟨h.et.1,by have:=h.et.2; omega⟩,eh:=⟨h.eh.1,by have:=h.eh.2; omega⟩,ep:=⟨h.ep.1,by have:=h.ep.2; omega⟩,ed:=⟨h.ed.1,by have:=h.ed.2; omega⟩ }
abbrev enR (k:Nat) (q:Rat):Uq:=[.ow (k+1) 0,sg q.num,mg q.num,sg (q.den:Int),mg (q.den:Int),.ow (k+2) 0,.ow (k+3) 0,.ow (k+4) 0,.ow (k+5) 0,.ow (k+6) 0]
abbrev taR (np nd:Int) (M:List Pt):Uq:=[.int .i64 np,.int .i64 nd,pts M]
abbrev bS (c:Cr) (M:List Pt) (q:Rat):OB:=.blk 196 (Hn c (Uv M) (IJ M (tq q)))
abbrev bT (c:Cr) (M:List Pt) (q:Rat):OB:=.blk 199 (To c (Uv M) (pT M (tq q)))
abbrev bH (c:Cr) (M:List Pt) (q:Rat):OB:=.blk 201 (Hn c (Uv M) (brH M (tq q)))
abbrev bP (c:Cr) (M:List Pt) (q:Rat):OB:=.blk 203 (Hn c (Uv M) (brP M (tq q)))
abbrev bD (c:Cr) (M:List Pt) (q:Rat):OB:=.blk 205 (Hn c (Uv M) (pR M (tq q)))
abbrev enB (k:Nat) (E:Es):Us:=[.blk 90 (enR k E.q),.blk 139 (taR E.np E.nd E.M),bS E.s E.M E.q,bT E.t E.M E.q,bH E.h E.M E.q,bP E.p E.M E.q,bD E.d E.M E.q]
end Orr
namespace Orr
open Go Go.Proofs Tryz Orq
set_option maxRecDepth 10000
theorem YG {l:List Pt} {id:Int} (h:has l id=true):Ro l id<l.length:=by
 rcases Zd (Ro l id) l.length with h1 | h1
 ·exact h1
 ·simp [has,Qw h1] at h
theorem UQ {lx ly:Ur} {px py:Ul} {x y:LV} {d id:Int} {l:List Pt} (hx:IsInts lx px) (hy:IsInts ly py) (hd:Gj x y d) (hk:Cs 4294967294 1073741824 (Crv.mk px py d)) (hl:l.length<=1000000) (h:has l id=true) :
 Ui 369 [.agg [pts l],.agg [.row lx,.row ly,x,y,.int .i64 id]] [.agg [pts (l.set (Ro l id) (Pt.mk (Crv.norm (Crv.mk px py d)) id))],.oi 0]:=by
 have ca:=Qff (l:=l) id (by omega);have cf:=lP hx hy hd hk id;obtain ⟨b,r,rfl,rfl,_⟩:=hd;obtain ⟨q,hq⟩:=nmE (Pt.mk (Crv.norm (Crv.mk px py d)) id);rw [<-hq] at cf ⊢;have hpl:=YG h;rw [h] at ca;have e:pts (l.set (Ro l id) q)=.row ((l.map U5).set (Ro l id) (U5 q)):=by unfold pts; rw [List.map_set]
 rw [e];exact Uf func369 rfl [.k ca,.f rfl,.s (Tz l),.k cf,.i (Ro l id)] rfl rfl (by simp [Uw]; omega)
theorem WI {l:List Pt} {id:Int} (hl:l.length<=1000000) (h:has l id=true) :
 Ui 368 [.agg [pts l],.oi id] [.agg [pts (l.take (Ro l id)++l.drop (Ro l id+1))],.oi 0]:=by
 have ca:=Qff (l:=l) id (by omega);have hpl:=YG h;rw [h] at ca;have s1:∀ c∈(l.map U5).take (Ro l id),c.length=5:=λc hc=>Tz l c (Qo hc)
 have s3:∀ c∈(l.map U5).drop (Ro l id+1),c.length=5:=λc hc=>Tz l c (Q0 hc)
 have e:pts (l.take (Ro l id)++l.drop (Ro l id+1))=.row ((l.map U5).take (Ro l id)++(l.map U5).drop (Ro l id+1)):=by unfold pts; rw [List.map_append,List.map_take,List.map_drop]
 rw [e];refine Uf func368 rfl [.k ca,.f rfl,.i (Ro l id),.s s1,.i (Ro l id+1),.s s3] rfl ?_ ?_
 ·simp
 ·have h1:(List.map U5 l).length=l.length:=by simp
  have h2:∀ z∈List.map U5 l,z.length=ti38.sz:=Tz l;simp only [Uw,Qr,Q9,h1]
  and_intros <;> first | exact h2 | omega
end Orr
