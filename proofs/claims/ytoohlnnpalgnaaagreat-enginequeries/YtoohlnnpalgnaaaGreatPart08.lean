/- H1 HullQ HullS HullT PairQ PW1 DigL R1 R2 S2 S3 NewsN PW2 TouL TouQ MeshN EnL KT EnS SD1 En1 -/
import Derived.Test.YtoohlnnpalgnaaaGreatPart07
import Derived.Test.YtoohlnnpalgnaaaGreatPart05
import Derived.Test.YtoohlnnpalgnaaaGreatPart00
import Derived.Test.YtoohlnnpalgnaaaGreatPart04
set_option linter.all false
namespace Orr
open Go Go.Proofs Tryz Orq
set_option maxRecDepth 10000
theorem gz {P:Program} [Mo P] {n:Nat} {Q:Exit->Sg->Ut->Prop} {L L':Sg} {B B':Ut} (i:Nat) {it:List It} (hs:Rk it=true) (h:Qcz [i] L B=some (L',B')) (k:AK P n Q it L' B'):AK P n Q it L B:=AK.sub (GX h) hs k
theorem ES {r:Un} {i:Nat} {p:Um} (h:r[i]? = some p):(JG r)[i]? = some [pl p]:=G6 h
theorem E9 {l:List Un} {i:Nat} {r:Un} (h:l[i]? = some r):(Ij l)[i]? = some [.row (JG r)]:=G6 h
theorem Qeb {r:Un} (ht:∀ p∈r,Ff p) (hb:∀ p∈r,Bd 1000000 p) (hl:∀ p∈r,p.length≤1000000) (hn:r.length≤1000):Uj 277 [.one (.row (JG r))] [.one (.row (JG r))]:=by
 have hrl:(JG r).length=r.length:=by simp
 refine Fw func277 rfl ?_;refine Ud [.o 3 33 1] rfl ?_;refine Ui (S:=Nat) 1 (λL1 i=>(8,.v (.oi i))::(3,.v (.one (.orow 0 1 none)))::L1) (λi=>[.row false 33 1 (JG (r.take i))]) (λi=>r.length-i) (λi=>i<=r.length) 0 (Qh _) rfl rfl λi hi=>?_
 by_cases h:i<r.length
 ·obtain ⟨p,hp⟩:=gxE (l:=r) (i:=i) h;have hm:=Qc hp;have hs:∀ y∈[[pl p]],y.length=1:=λy hy=>by rw [Qk.1 hy]; rfl
  have e:JG (r.take (i+1))=JG (r.take i)++[[pl p]]:=by rw [Z1,hp]; simp
  refine go tt [.T,.x (ES hp),.k (Ht (ht p hm) (by have:=hl p hm; omega) (U6 (hb p hm) (by decide))),.s (sz:=1) hs] rfl (by simp [U4] <;> omega) ?_;exact rd (i+1) (by omega) h (by rw [e]; rfl)
 ·obtain rfl:i=r.length:=by omega
  rw [Q6];exact Uf [.F] rfl
theorem Qxt {s k w:Nat} {ds:Uo} {rows:List Un} (h:Sq s ds k k rows) (_hw:w=k) (hk:k<=4):Uj 315 [.one (.row (Ij rows))] [.one (.bool true)]:=by
 have hrl:=YL rows;have hl:=h.l;refine Fw func315 rfl ?_;refine Ud [] rfl ?_;refine Ui (S:=Nat) 0 (λL1 i=>(7,.v (.oi i))::L1) (λ_=>[]) (λi=>rows.length-i) (λi=>i<=rows.length) 0 (Qh _) rfl rfl λi hi=>?_
 by_cases hlt:i<rows.length
 ·obtain ⟨r,hr⟩:=gxE (l:=rows) (i:=i) hlt;have hw:=h.w r (Qc hr);have hql:(JG r).length=r.length:=by simp
  refine go tt [.T,.x (E9 hr),.f (decide_eq_false (λh=>h (by omega)))] rfl (by simp [U4] <;> omega) ?_;exact rd (i+1) (by omega) hlt rfl
 ·exact Uf [.F] rfl (by rw [decide_eq_true (by omega:((Ij rows).length:Int)<=4)]) trivial
theorem Qnm {s k w:Nat} {ds:Uo} {rows:List Un} (h:Sq s ds k w rows) (hs:s<=1000000) (hk:k<=4) (hw:w<=4) (hd:∀ j,ds.getD j 0<=1000) (i:Nat):Uj 337 [.oi i,.oi 0,.one (.row (Ij rows))] [.one (.row (Ij (VR rows i)))]:=by
 have hrl:=YL rows;have hl:=h.l;have hml:∀ j,j<=rows.length->(Ij (XA i rows j)).length<=4:=λj hj=>by
  rw [YL,LK]; split <;> omega
 refine Fw func337 rfl ?_;refine Ud [.o 7 340 1] rfl ?_;refine Ui (S:=Nat) 1 (λL1 j=>(15,.v (.oi j))::(7,.v (.one (.orow 0 1 none)))::L1) (λj=>[.row false 340 1 (Ij (XA i rows j))]) (λj=>rows.length-j) (λj=>j<=rows.length) 0 (Qh _) rfl rfl λj hj=>?_
 have hmlj:=hml j hj;by_cases hlt:j<rows.length
 ·obtain ⟨r,hr⟩:=gxE (l:=rows) (i:=j) hlt;have hm:=Qc hr;have hw:=h.w r hm;have hql:(JG r).length=r.length:=by simp
  by_cases hij:j=i
  ·have e:XA i rows (j+1)=XA i rows j:=by simp only [XA]; rw [if_pos hij]
   refine go tt [.T,.x (E9 hr),.T] rfl (by simp [U4] <;> omega) ?_;exact rd (j+1) (by omega) hlt (by rw [e]; rfl)
  ·have e:XA i rows (j+1)=XA i rows j++[r.drop 1]:=by
    simp only [XA]; rw [if_neg hij,Qi,hr]; rfl
   refine Ud [.T,.x (E9 hr),.F,.o 10 33 1] rfl ?_ (by simp [U4]);refine Ui (S:=Nat) 2 (λL1 c=>(25,.v (.oi c))::(10,.v (.one (.orow 1 1 none)))::L1) (λc=>[.row false 340 1 (Ij (XA i rows j)),.row false 33 1 (JG ((r.take c).drop 1))]) (λc=>r.length-c) (λc=>c<=r.length) 0 (Qh _) rfl rfl λc hc=>?_
   by_cases hcl:c<r.length
   ·obtain ⟨p,hp⟩:=gxE (l:=r) (i:=c) hcl;have hpm:=Qc hp;by_cases h0:c=0
    ·subst h0;refine Ud [.T,.x (ES hp),.f (decide_eq_false (by simp))] rfl ?_ (by simp [U4]);exact rd 1 (by omega) hcl (by rw [Z1,hp]; rfl)
    ·have hs1:∀ y∈[[pl p]],y.length=1:=λy hy=>by rw [Qk.1 hy]; rfl
     have e2:JG ((r.take (c+1)).drop 1)=JG ((r.take c).drop 1)++[[pl p]]:=by
      rw [Z1,hp,Wg (by rw [Qq]; omega)]; simp
     refine go tt [.T,.x (ES hp),.T,.k (Ht (h.t r hm p hpm) (by have:=h.n r hm c p hp; have:=hd c; omega) (U6 (h.b r hm p hpm) (by omega))),.s (sz:=1) hs1] rfl (by simp [U4] <;> omega) ?_;exact rd (c+1) (by omega) hcl (by rw [e2]; rfl)
   ·obtain rfl:c=r.length:=by omega
    rw [Q6];have hs1:∀ y∈[[LV.row (JG (r.drop 1))]],y.length=1:=λy hy=>by rw [Qk.1 hy]; rfl
    refine Ud [.F] rfl ?_;refine gz 1 rfl rfl ?_;refine go tt [.s (sz:=1) hs1] rfl (by simp [U4] <;> omega) ?_;exact rd (j+1) (by omega) hlt (by rw [e]; simp [Ij]; rfl)
 ·obtain rfl:j=rows.length:=by omega
  exact Uf [.F] rfl
theorem SV:∀ (ds:Uo) (j:Nat),ds.getD j 0<=ds.sum
 | [],j=>by simp
 | d::ds,0=>by simp
 |
  d::ds,j+1=>by
  have:=SV ds j;rw [Ku];show ds.getD j 0<=_;omega
theorem Qrr {s:Nat} (hs:s<=100000):∀ (k:Nat) (ds:Uo) (rows:List Un),k<=4->ds.length=k->ds.sum<31->Sq s ds k k rows->Uj 316 [.one (.row (Ij rows))] [pr (Ll k rows)]
 |
  0,ds,rows,_,_,_,h=>by
  have e:=Qj h.l;subst e;have co:=lK (p:=[1]) (by decide) (by decide);exact Ug func316 rfl [.t rfl,.k co] rfl
 | k+1,[],_,_,hl,_,_=>by simp at hl
 |
  k+1,d::ds,rows,hk,hl,hd,h=>by
  rw [Ku] at hd;have hl':ds.length=k:=by simpa using hl
  have hrl:=YL rows;have hrn:=h.l;have hmin:=λi (hi:i<k+1)=>h.min hi
  have ih:=λi (hi:i<k+1)=>Qrr hs k ds (VR rows i) (by omega) hl' (by omega) (hmin i hi)
  have hok:=λi (hi:i<k+1)=>MO k ds (VR rows i) (by omega) hl' (by omega) (hmin i hi)
  have hb:k*(s+10)+1<=500000:=by
   have:k*(s+10)<=4*(100010):=Zc (by omega) (by omega);omega
  have hds:=jK (f:=λi=>Ll k (VR rows i)) (B:=k*(s+10)+1) (L:=ds.sum) h (by omega) (λi hi=>⟨(hok i hi).2.1,(hok i hi).2.2⟩);have cm:=Qnm h (by omega) hk hk (λj=>by have:=SV (d::ds) j; rw [Ku] at this; omega);show Uj 316 [.one (.row (Ij rows))] [pr (Dk (λi=>Ll k (VR rows i)) rows (k+1))];obtain ⟨f,hf⟩:=nmE (λi=>Ll k (VR rows i));rw [<-hf] at hds ⊢;have hfi:∀ i,f i=Ll k (VR rows i):=λi=>by rw [hf]
  refine Fw func316 rfl ?_;refine Ud [.F,.z 3] rfl ?_;refine Ui (S:=Nat) 0 (λL1 i=>(14,.v (.oi i))::(3,.v (pr (Dk f rows i)))::L1) (λ_=>[]) (λi=>k+1-i) (λi=>i<=k+1) 0 (Qh _) rfl rfl λi hi=>?_
  obtain ⟨d1,d2,d3⟩:=hds i hi;by_cases hlt:i<k+1
  ·obtain ⟨p,r,hr,e,t,b,l⟩:=h.at hlt;have hx0:(JG (p::r))[0]? = some [pl p]:=rfl;have hpl:(p.map Hg).length=p.length:=by simp
   have cn:=Ht t (by omega) (U6 b (by omega));by_cases h0:p.length=0
   ·have es:Dk f rows (i+1)=Dk f rows i:=by simp only [Dk]; rw [e,if_pos h0]
    refine go tt [.T,.x (E9 hr),.x hx0,.k cn,.T] rfl (by simp [U4] <;> omega) ?_;exact rd (i+1) (by omega) hlt (by rw [es]; rfl)
   ·obtain ⟨k1,k2,k3⟩:=hok i hlt;have ci:=ih i hlt;have cp:=KF (p:=p) (q:=f i) t (by rw [hfi]; exact k1) (by omega) (by rw [hfi]; omega) b (by rw [hfi]; exact k2) (by omega);have hmb:Bd (s+(k*(s+10)+1)+5) (Gl p (f i)):=Ph b (by rw [hfi]; exact k2) (by omega);have hml:=Ty p (f i);have hfl:(f i).length<=ds.sum+1:=by rw [hfi]; exact k3
    rw [<-hfi] at ci;by_cases h2:i % 2=0
    ·have es:Dk f rows (i+1)=A4 (Dk f rows i) (Gl p (f i)):=by simp only [Dk]; rw [e,if_neg h0,if_pos h2]
     refine go tt [.T,.x (E9 hr),.x hx0,.k cn,.F,.x hx0,.k (cm i),.k ci,.k cp,.r 34 (eI (b:=((i % 2:Nat):Int)) rfl),.T,.k (BG (p:=Dk f rows i) (q:=Gl p (f i)) (by omega) (by omega) (U6 d2 (by omega)) (U6 hmb (by omega)))] rfl (by simp [U4] <;> omega) ?_;exact rd (i+1) (by omega) hlt (by rw [es]; rfl)
    ·have es:Dk f rows (i+1)=M4 (Dk f rows i) (Gl p (f i)):=by simp only [Dk]; rw [e,if_neg h0,if_neg h2]
     refine go tt [.T,.x (E9 hr),.x hx0,.k cn,.F,.x hx0,.k (cm i),.k ci,.k cp,.r 34 (eI (b:=((i % 2:Nat):Int)) rfl),.F,.k (HG (p:=Dk f rows i) (q:=Gl p (f i)) (by omega) (by omega) (U6 d2 (by omega)) (U6 hmb (by omega)))] rfl (by simp [U4] <;> omega) ?_;exact rd (i+1) (by omega) hlt (by rw [es]; rfl)
  ·obtain rfl:i=k+1:=by omega
   exact Uf [.F] rfl
theorem Qrk {s:Nat} (hs:s<=100000) {k:Nat} {ds:Uo} {rows:List Un} (hk:k<=4) (hl:ds.length=k) (hd:ds.sum<31) (h:Sq s ds k k rows):Uj 278 [.one (.row (Ij rows))] [pr (Ll k rows),.oi 0] :=
 Ug func278 rfl [.k (Qxt h rfl hk),.f rfl,.k (Qrr hs k ds rows hk hl hd h)] rfl
theorem mX {k:Crv} (hk:Sc k):Uj 276 [.agg (cl k)] [.one (.row (JG [k.x,k.y,[k.d]]))]:=by
 have h0:k.d≠0:=by have:=hk.n.2.2.1; omega
 have td:Ff [k.d]:=by unfold Ff; simp [trim,h0]
 have cd:=Qeb (r:=[k.x,k.y,[k.d]]) (λp hp=>by
  rcases Qm.1 hp with rfl | hp
  ·exact hk.n.1
  rcases Qm.1 hp with rfl | hp
  ·exact hk.n.2.1
  ·rw [Qk.1 hp]; exact td) (λp hp=>by
  rcases Qm.1 hp with rfl | hp
  ·exact U6 hk.c.x (by decide)
  rcases Qm.1 hp with rfl | hp
  ·exact U6 hk.c.y (by decide)
  ·rw [Qk.1 hp];intro z hz; rw [Qk.1 hz]; exact Qa hk.c.d (by decide)) (λp hp=>by
  rcases Qm.1 hp with rfl | hp
  ·have:=hk.c.lx; omega
  rcases Qm.1 hp with rfl | hp
  ·have:=hk.c.ly; omega
  ·rw [Qk.1 hp]; show 1<=1000000; decide) (by show 3<=1000; decide)
 exact Ug func276 rfl [.k (Du hk.n (hk.c.mono (by decide) (by decide))),.k cd] rfl
theorem tN {a b c:Crv} (ha:Sc a) (hb:Sc b) (hc:Sc c):Sq 128 [2,2,0] 3 3 (gA a b c):=by
 have key:∀ k:Crv,Sc k->(∀ p∈[k.x,k.y,[k.d]],Ff p/\Bd 128 p)/\∀ (j:Nat) (p:Um),[k.x,k.y,[k.d]][j]? = some p->p.length≤[2,2,0].getD j 0+1:=λk hk=>by
  have h0:k.d≠0:=by have:=hk.n.2.2.1; omega
  have td:Ff [k.d]:=by unfold Ff; simp [trim,h0]
  refine ⟨λp hp=>?_,λj p hp=>?_⟩
  ·rcases Qm.1 hp with rfl | hp
   ·exact ⟨hk.n.1,hk.c.x⟩
   rcases Qm.1 hp with rfl | hp
   ·exact ⟨hk.n.2.1,hk.c.y⟩
   ·rw [Qk.1 hp];exact ⟨td,λz hz=>by rw [Qk.1 hz]; exact hk.c.d⟩
  ·match j,hp with
   | 0,hp=>injection hp with hp; subst hp; exact hk.c.lx
   | 1,hp=>injection hp with hp; subst hp; exact hk.c.ly
   | 2,hp=>injection hp with hp; subst hp; exact Ql _
   | j+3,hp=>simp at hp
 have hr:∀ r∈gA a b c,∃ k:Crv,Sc k/\r=[k.x,k.y,[k.d]]:=λr hr=>by
  rcases Qm.1 hr with rfl | hr
  ·exact ⟨a,ha,rfl⟩
  rcases Qm.1 hr with rfl | hr
  ·exact ⟨b,hb,rfl⟩
  ·rw [Qk.1 hr]; exact ⟨c,hc,rfl⟩
 refine ⟨rfl,λr h=>?_,λr h p hp=>?_,λr h p hp=>?_,λr h j p hp=>?_⟩
 all_goals obtain ⟨k,hk,rfl⟩:=hr r h
 ·rfl
 ·exact ((key k hk).1 p hp).1
 ·exact ((key k hk).1 p hp).2
 ·exact (key k hk).2 j p hp
theorem YV {a b c:Crv} (ha:Sc a) (hb:Sc b) (hc:Sc c):Cp (Hi a b c):=by
 obtain ⟨h1,h2,h3⟩:=MO 3 [2,2,0] (gA a b c) (by decide) rfl (by decide) (tN ha hb hc);exact ⟨h1,Qa h3 (by decide),U6 h2 (by decide)⟩
theorem wW {a b c:Crv} (ha:Sc a) (hb:Sc b) (hc:Sc c):Uj 237 [.agg (cl a),.agg (cl b),.agg (cl c)] [pr (Hi a b c)]:=by
 have cd:=Qrk (by decide) (k:=3) (ds:=[2,2,0]) (by decide) rfl (by decide) (tN ha hb hc);exact Ug func237 rfl [.k (mX ha),.k (mX hb),.k (mX hc),.k cd] rfl
end Orr
namespace Orq
open Orr Go
theorem sX {p q:Um} (tp:Ff p) (tq:Ff q) (h:∀ i,p.getD i 0=q.getD i 0):p=q:=by
 have hl:∀ {p q:Um},Ff p->(∀ i,p.getD i 0=q.getD i 0)->p.length<=q.length:=λ{p q} tp h=>by
  refine Nat.not_lt.1 λhn=>?_
  have h1:=H9 tp (by omega);rw [h,Qi,Qu (by omega)] at h1;exact h1 rfl
 have e:=Kb (hl tp h) (hl tq λi=>(h i).symm);refine List.ext_getElem e λi h1 h2=>?_
 have:=h i;rw [Qi,Qi,Qe h1,Qe h2] at this;exact this
theorem fJ {p:Um} (h:p=[]) (i:Nat):p.getD i 0=0:=by rw [h]; simp
theorem Er (p:Um) (c:Int) (i:Nat):(Fv p c).getD i 0=p.getD i 0*c:=by
 unfold Fv;rw [Pd]
 split
 ·rfl
 ·rename_i h;rw [Qi,Qu (by omega)]; simp
theorem EG (p q:Um) (i:Nat):(M4 p q).getD i 0=p.getD i 0-q.getD i 0:=by
 unfold M4;rw [Pd]
 split
 ·rfl
 ·rename_i h;rw [Qi,Qi,Qu (by omega),Qu (by omega)]; simp
theorem Qpd {x y:Crv} (hx:ZB x) (hy:ZB y) (h1:Gn x y=[]) (h2:Gm x y=[]):x=y:=by
 have e1:∀ i,y.x.getD i 0*x.d=x.x.getD i 0*y.d:=λi=>by
  have:=fJ h1 i;unfold Gn at this;rw [EG,Er,Er] at this;omega
 have e2:∀ i,y.y.getD i 0*x.d=x.y.getD i 0*y.d:=λi=>by
  have:=fJ h2 i;unfold Gm at this;rw [EG,Er,Er] at this;omega
 have key:∀ {x y:Crv},ZB x->ZB y->(∀ i,y.x.getD i 0*x.d=x.x.getD i 0*y.d)->(∀ i,y.y.getD i 0*x.d=x.y.getD i 0*y.d)->x.d∣y.d:=λ{x y} hx hy e1 e2=>by
  have hd:=uS (d:=x.d) (l:=(x.d::(x.x++x.y)).map (· * y.d)) λz hz=>by
   obtain ⟨w,hw,rfl⟩:=Za.1 hz;rcases Qm.1 hw with rfl | hw
   ·exact Int.dvd_mul_right _ _
   ·rcases Qr.1 hw with hw | hw
    ·obtain ⟨i,hi,rfl⟩:=V0.1 hw;have:=e1 i;rw [show x.x.getD i 0=x.x[i] from by rw [Qi,Qe hi]; rfl] at this;rw [<-this]; exact Y9 _ _
    ·obtain ⟨i,hi,rfl⟩:=V0.1 hw;have:=e2 i;rw [show x.y.getD i 0=x.y[i] from by rw [Qi,Qe hi]; rfl] at this;rw [<-this]; exact Y9 _ _
  rw [Qhm,hx.2.2.2,Wn] at hd;exact V5 hd (Int.natAbs_dvd.2 (K7 _))
 have hd:x.d=y.d:=Int.dvd_antisymm (Int.le_of_lt hx.2.2.1) (Int.le_of_lt hy.2.2.1) (key hx hy e1 e2) (key hy hx (λi=>(e1 i).symm) λi=>(e2 i).symm);have hd0:y.d≠0:=by have:=hy.2.2.1; omega
 rw [hd] at e1 e2;have ex:x.x=y.x:=sX hx.1 hy.1 λi=>(Y4 hd0 (e1 i)).symm
 have ey:x.y=y.y:=sX hx.2.1 hy.2.1 λi=>(Y4 hd0 (e2 i)).symm
 cases x; cases y;simp only at hd ex ey;rw [hd,ex,ey]
theorem Qqy (l:List Pt):(Tp l).Pairwise λx y=>x.c≠y.c:=by
 have key:∀ (l out:List Pt),out.Pairwise (λx y=>x.c≠y.c)->(l.foldl B6 out).Pairwise λx y=>x.c≠y.c:=by
  intro l
  induction l with
  | nil=>intro out h; exact h
  |
   cons p l ih =>
   intro out h;refine ih _ ?_;unfold B6
   split
   ·exact h
   ·rename_i hn;refine Xv.2 ⟨h,Kl _ _,λa ha b hb e=>hn ?_⟩;rw [Qk.1 hb] at e;rw [List.any_eq_true];exact ⟨a,ha,by rw [<-e]; simp [Ec]⟩
 exact key l [] .nil
theorem Qld (l:List Pt):(Tp l).Sublist l:=by
 have key:∀ (l out o:List Pt),out.Sublist o->(l.foldl B6 out).Sublist (o++l):=by
  intro l
  induction l with
  | nil=>intro out o h; rw [Zv]; exact h
  |
   cons p l ih =>
   intro out o h;have:(B6 out p).Sublist (o++[p]):=by
    unfold B6
    split
    ·exact h.trans (List.sublist_append_left _ _)
    ·exact h.append (List.Sublist.refl _)
   have:=ih _ _ this;rwa [Zd] at this
 exact key l [] [] (List.Sublist.refl _)
theorem Oo (f:Nat->Um) (rows:List Un) (q:Rat) (i:Nat):U9 (Dk f rows (i+1)) q=U9 (Dk f rows i) q+(if i % 2=0 then 1 else -1)*(U9 ((rows.getD i []).getD 0 []) q*U9 (f i) q):=by
 simp only [Dk]
 split
 ·rename_i h;have:U9 ((rows.getD i []).getD 0 []) q=0:=by rw [Qj h]; rfl
  rw [this]; grind
 ·split
  ·rw [LO,Gk]; grind
  ·rw [Nh,Gk]; grind
theorem iD (z:Int) (q:Rat):U9 [z] q=(z:Rat):=by simp [U9,Rat.add_zero]
theorem rJ (p:Um) (q:Rat):U9 (Ll 1 [[p]]) q=U9 p q:=by
 show U9 (Dk (λi=>Ll 0 (VR [[p]] i)) [[p]] (0+1)) q=_;rw [Oo];show (0:Rat)+1*(U9 p q*U9 [1] q)=_;rw [iD];have:((1:Int):Rat)=1:=rfl;grind
theorem LI (p r s t:Um) (q:Rat):U9 (Ll 2 [[p,r],[s,t]]) q=U9 p q*U9 t q-U9 s q*U9 r q:=by
 show U9 (Dk (λi=>Ll 1 (VR [[p,r],[s,t]] i)) [[p,r],[s,t]] (0+1+1)) q=_;rw [Oo,Oo];show (0:Rat)+1*(U9 p q*U9 (Ll 1 [[t]]) q)+(-1)*(U9 s q*U9 (Ll 1 [[r]]) q)=_;rw [rJ,rJ]; grind
theorem Qjh (a1 a2 a3 b1 b2 b3 c1 c2 c3:Um) (q:Rat):U9 (Ll 3 [[a1,a2,a3],[b1,b2,b3],[c1,c2,c3]]) q=U9 a1 q*(U9 b2 q*U9 c3 q-U9 c2 q*U9 b3 q)-U9 b1 q*(U9 a2 q*U9 c3 q-U9 c2 q*U9 a3 q)+U9 c1 q*(U9 a2 q*U9 b3 q-U9 b2 q*U9 a3 q):=by
 show U9 (Dk (λi=>Ll 2 (VR [[a1,a2,a3],[b1,b2,b3],[c1,c2,c3]] i)) [[a1,a2,a3],[b1,b2,b3],[c1,c2,c3]] (0+1+1+1)) q=_;rw [Oo,Oo,Oo];show (0:Rat)+1*(U9 a1 q*U9 (Ll 2 [[b2,b3],[c2,c3]]) q)+(-1)*(U9 b1 q*U9 (Ll 2 [[a2,a3],[c2,c3]]) q)+1*(U9 c1 q*U9 (Ll 2 [[a2,a3],[b2,b3]]) q)=_;rw [LI,LI,LI]; grind
theorem cP {a b c:Pt} (ha:Sc a.c) (hb:Sc b.c) (hc:Sc c.c) (q:Rat):Fg (U9 (Hi a.c b.c c.c) q)=Fg (Bi (px · q) (py · q) a b c):=by
 have Rv:∀ {k:Crv},Sc k->(0:Rat)<(k.d:Rat):=λh=>by exact_mod_cast h.n.2.2.1
 have pa:=Rv ha;have pb:=Rv hb;have pc:=Rv hc;have xx:∀ {p:Pt},0<(p.c.d:Rat)->U9 p.c.x q=px p q*(p.c.d:Rat)/\U9 p.c.y q=py p q*(p.c.d:Rat):=λ{p} h=>by
  unfold px py;exact ⟨(Zj (by grind)).symm,(Zj (by grind)).symm⟩
 obtain ⟨xa,ya⟩:=xx pa;obtain ⟨xb,yb⟩:=xx pb;obtain ⟨xc,yc⟩:=xx pc;have e:U9 (Hi a.c b.c c.c) q=((a.c.d:Rat)*(b.c.d:Rat)*(c.c.d:Rat))*Bi (px · q) (py · q) a b c:=by
  unfold Hi gA Bi;rw [Qjh,iD,iD,iD,xa,xb,xc,ya,yb,yc];grind
 rw [e,Cx (Xq (Xq pa pb) pc)]
def FK (sg:Um->Int) (a b c:Pt):Bool:=decide (0<Hk sg (Hi a.c b.c c.c))
def Pi (sg:Um->Int) (row:List Pt):List Pt:=(Pz (FK sg) [] row).reverse
def L9 (sg:Um->Int) (row:List Pt):List Pt:=if row.length<3 then row else (Pi sg row).dropLast++(Pi sg row.reverse).dropLast
def Pa (l:List Pt) (a:Tm):List Pt:=L9 (Fq a) (Tu a (Tp l))
def Rr (C:List Pt):List (Pt×Pt):=C.zip (C.drop 1++C.take 1)
def Lc (sg:Um->Int) (a b c:Pt):Ct:=⟨3,a.id,b.id,c.id,0,Hi a.c b.c c.c,Hk sg (Hi a.c b.c c.c)⟩
def VS (e:Pt×Pt) (c:Pt):Bool:=decide (c.id≠e.1.id) && decide (c.id≠e.2.id)
def Ah (sg:Um->Int) (l:List Pt) (e:Pt×Pt):List Ct:=(l.filter (VS e)).map λc=>Lc sg e.1 e.2 c
def Be (sg:Um->Int) (l C:List Pt):List Ct:=if C.length<2 then [] else (Rr C).flatMap (Ah sg l)
def AB (l:List Pt) (a:Tm):List Ct:=JA l a++Be (Fq a) l (Pa l a)
abbrev brH (l:List Pt) (a:Tm):Us:=U3 (Pa l a)
def NC (l:List Pt):Un:=l.flatMap λx=>l.flatMap λy=>l.map λz=>Hi x.c y.c z.c
theorem kC {l:List Pt} {x y z:Pt} (hx:x∈l) (hy:y∈l) (hz:z∈l):Hi x.c y.c z.c∈NC l :=
 Zo.2 ⟨x,hx,Zo.2 ⟨y,hy,Za.2 ⟨z,hz,rfl⟩⟩⟩
theorem Qma {l:List Pt} (hl:∀ p∈l,Sc p.c):∀ p∈NC l,Cp p:=λp hp=>by
 obtain ⟨x,hx,hp⟩:=Zo.1 hp;obtain ⟨y,hy,hp⟩:=Zo.1 hp;obtain ⟨z,hz,rfl⟩:=Za.1 hp;exact YV (hl x hx) (hl y hy) (hl z hz)
theorem EY {α:Type} (s:α->α->α->Bool) (c:α):∀ st:List α,(Ln s c st).Sublist st
 | []=>List.Sublist.refl _
 | [_]=>List.Sublist.refl _
 |
  b::a::r=>by
  simp only [Ln]
  split
  ·exact List.Sublist.refl _
  ·exact (EY s c (a::r)).trans (List.sublist_cons_self _ _)
theorem KP {α:Type} {s:α->α->α->Bool}:∀ {l acc:List α} {x:α},x∈Pz s acc l->x∈acc\/x∈l
 | [],acc,x,h=>.inl h
 |
  c::l,acc,x,h=>by
  rcases KP (l:=l) h with h | h
  ·rcases Qm.1 h with rfl | h
   ·exact .inr (by simp)
   ·exact .inl ((EY s c acc).subset h)
  ·exact .inr (Qg _ h)
theorem KR {α:Type} (s:α->α->α->Bool):∀ (l acc:List α),(Pz s acc l).length<=acc.length+l.length
 | [],acc=>by simp [Pz]
 |
  c::l,acc=>by
  have h1:=KR s l (c::Ln s c acc);have h2:=(EY s c acc).length_le;simp only [Pz,Q5] at h1 ⊢;omega
theorem BI {sg:Um->Int} {row:List Pt} {x:Pt} (h:x∈Pi sg row):x∈row:=by
 unfold Pi at h;rcases KP (Jl.1 h) with h | h
 ·cases h
 ·exact h
theorem QG (sg:Um->Int) (row:List Pt):(Pi sg row).length<=row.length:=by
 have:=KR (FK sg) row [];unfold Pi; rw [List.length_reverse]; simpa using this
theorem cU {sg:Um->Int} {row:List Pt} {x:Pt} (h:x∈L9 sg row):x∈row:=by
 unfold L9 at h
 split at h
 ·exact h
 ·rcases Qr.1 h with h | h
  ·exact BI ((List.dropLast_sublist _).subset h)
  ·exact Jl.1 (BI ((List.dropLast_sublist _).subset h))
theorem cK (sg:Um->Int) (row:List Pt):(L9 sg row).length<=2*row.length:=by
 unfold L9
 split
 ·omega
 ·have h1:=QG sg row;have h2:=QG sg row.reverse;rw [Xo] at h2;rw [Qy,List.length_dropLast,List.length_dropLast]; omega
theorem I5 {l:List Pt} {a:Tm} {x:Pt} (h:x∈Pa l a):x∈l:=Np (Hr.1 (cU h))
theorem I4 (l:List Pt) (a:Tm):(Pa l a).length<=2*l.length:=by
 have h1:=cK (Fq a) (Tu a (Tp l));rw [Mg] at h1;have:=QQ l;unfold Pa; omega
theorem SX {C:List Pt} {e:Pt×Pt} (h:e∈Rr C):e.1∈C/\e.2∈C:=by
 unfold Rr at h;have h1:=List.of_mem_zip (show (e.1,e.2)∈_ from h);refine ⟨h1.1,?_⟩;rcases Qr.1 h1.2 with h | h
 ·exact Qz h
 ·exact Qn h
theorem nK {sg:Um->Int} {l C:List Pt} {x:Ct} (h:x∈Be sg l C):∃ e∈Rr C,∃ c∈l,VS e c=true/\x=Lc sg e.1 e.2 c:=by
 unfold Be at h
 split at h
 ·cases h
 ·obtain ⟨e,he,h⟩:=Zo.1 h;obtain ⟨c,hc,rfl⟩:=Za.1 h;obtain ⟨h1,h2⟩:=Yi.1 hc;exact ⟨e,he,c,h1,h2,rfl⟩
theorem xF {l:List Pt} {a:Tm}:∀ x∈AB l a,x.p∈Eh l++NC l:=λx hx=>by
 rcases Qr.1 hx with hx | hx
 ·exact X7 _ (dA x hx)
 ·obtain ⟨e,he,c,hc,_,rfl⟩:=nK hx;obtain ⟨h1,h2⟩:=SX he;exact Je _ (kC (I5 h1) (I5 h2) hc)
theorem PI {l:List Pt} (hl:∀ p∈l,Sc p.c):∀ p∈Eh l++NC l,Cp p:=λp hp=>by
 rcases Qr.1 hp with h | h
 ·exact QX hl p h
 ·exact Qma hl p h
theorem KL {α β:Type} (f:α->List β) (n:Nat):∀ (m:List α),(∀ x∈m,(f x).length≤n)->(m.flatMap f).length≤m.length*n
 | [],_=>by simp
 |
  x::m,h=>by
  have:=KL f n m λy hy=>h y (Qg _ hy)
  have:=h x (by simp);rw [J1,Qy,Q5,Xa]; omega
theorem nV (sg:Um->Int) (l C:List Pt):(Be sg l C).length<=C.length*l.length:=by
 unfold Be
 split
 ·simp
 ·refine Qa (KL _ l.length _ λe _=>?_) (Q0 _ ?_)
  ·unfold Ah; rw [List.length_map]; exact List.length_filter_le _ _
  ·unfold Rr; rw [List.length_zip]; exact Nat.min_le_left _ _
theorem pZ {l:List Pt} (hl:∀ p∈l,Sc p.c) (hn:l.length≤10):BuildOk (AB l) :=
 ⟨λ_ _ x hx=>PI hl _ (xF x hx),λa _=>by
  have h1:=nV (Fq a) l (Pa l a);have h2:=I4 l a;have h3:(Pa l a).length*l.length<=20*10:=Zc (by omega) hn;show (JA l a++Be (Fq a) l (Pa l a)).length<=1000;have h4:(JA l a).length<=l.length:=by unfold JA; rw [By,Mg]; omega
  rw [Qy]; omega⟩
def Ic {α:Type} (l:List α):List (α×α):=l.zip (l.drop 1)
theorem jG {α:Type} {Q:α->α->Prop}:∀ {l:List α},Edg Q l↔∀ e∈Ic l,Q e.1 e.2
 | []=>by simp [Edg,Ic]
 | [_]=>by simp [Edg,Ic]
 |
  a::b::l=>by
  have ih:=jG (Q:=Q) (l:=b::l);have e:Ic (a::b::l)=(a,b)::Ic (b::l):=rfl;rw [e];constructor
  ·rintro ⟨h1,h2⟩ x hx
   rcases Qm.1 hx with rfl | hx
   ·exact h1
   ·exact ih.1 h2 x hx
  ·intro h;exact ⟨h (a,b) (by simp),ih.2 λx hx=>h x (Qg _ hx)⟩
theorem CJ {α:Type} (f z:α) (A:List α):Ic (f::A++[z])=(f::A).zip (A++[z]):=by
 unfold Ic;rw [Xb,Wh,Xx];have:f::(A++[z])=(f::A)++[z]:=rfl;rw [this];have h:A++[z]=(A++[z])++[]:=(Zv _).symm
 conv=>lhs; rw [h]
 rw [List.zip_append (by simp)];simp
theorem uB {f z:Pt} {A B:List Pt}:Rr ((f::A++[z]).dropLast++(z::B++[f]).dropLast)=Ic (f::A++[z])++Ic (z::B++[f]):=by
 rw [Vz,Vz,CJ,CJ,<-List.zip_append (by simp)];unfold Rr;congr 1;simp
theorem Edg.rev {α:Type} {Q:α->α->Prop}:∀ {l:List α},Edg Q l->Edg (λa b=>Q b a) l.reverse:=by
 have app:∀ {Q:α->α->Prop} {l:List α} {b a:α},Edg Q (l++[b])->Q b a->Edg Q (l++[b]++[a]):=by
  intro Q l
  induction l with
  | nil=>intro b a _ h; exact ⟨h,trivial⟩
  |
   cons x l ih =>
   intro b a h h2;cases l with
   | nil=>exact ⟨h.1,ih h.2 h2⟩
   | cons y l=>exact ⟨h.1,ih h.2 h2⟩
 intro l
 induction l with
 | nil=>intro _; trivial
 |
  cons a l ih =>
  intro h;cases l with
  | nil=>trivial
  |
   cons b l =>
   have:=ih h.2;rw [Yo] at this ⊢;rw [Yo];exact app this h.1
theorem Cnv.rev {α:Type} {R:α->α->α->Prop}:∀ {l:List α},Cnv R l->Cnv (λa b c=>R c b a) l.reverse:=by
 have app:∀ {R:α->α->α->Prop} {l:List α} {c b a:α},Cnv R (l++[c,b])->R c b a->Cnv R (l++[c,b,a]):=by
  intro R l
  induction l with
  | nil=>intro c b a _ h; exact ⟨h,trivial⟩
  |
   cons x l ih =>
   intro c b a h h2;cases l with
   | nil=>exact ⟨h.1,ih h.2 h2⟩
   |
    cons y l =>
    cases l with
    | nil=>exact ⟨h.1,ih h.2 h2⟩
    | cons w l=>exact ⟨h.1,ih h.2 h2⟩
 intro l
 induction l with
 | nil=>intro _; trivial
 |
  cons a l ih =>
  intro h
  match l,h with
  | [],_=>trivial
  | [_],_=>trivial
  |
   b::c::l,h =>
   have:=ih h.2;rw [Yo,Yo,Zd] at this;rw [Yo,Yo,Yo,Zd,Zd];exact app this h.1
section
variable {α:Type} {lt lt':α->α->Bool}
theorem EV {out:List α} {x:α} (h:∀ y∈out,lt x y=lt' x y):∀ k,Lz lt out x k=Lz lt' out x k
 | 0=>rfl
 |
  k+1=>by
  simp only [Lz];cases hy:out[k]? with
  | none=>rfl
  | some y=>simp only [h y (Qc hy),EV h k]
theorem SY {l:List α} (h:∀ u∈l,∀ v∈l,lt u v=lt' u v):∀ (m out:List α),(∀ x∈m,x∈l)->(∀ x∈out,x∈l)->m.foldl (Lt lt) out=m.foldl (Lt lt') out
 | [],_,_,_=>rfl
 |
  x::m,out,h1,h2=>by
  have e:Lt lt out x=Lt lt' out x:=by
   unfold Lt; rw [EV λy hy=>h x (h1 x (by simp)) y (h2 y hy)]
  simp only [Z9];rw [e];exact SY h m _ (λy hy=>h1 y (Qg _ hy)) λy hy=>by
   rcases FV.1 hy with rfl | hy
   ·exact h1 _ (by simp)
   ·exact h2 y hy
end
theorem cF {a:Tm} {l:List Pt} {q:Rat} (hb:∀ u∈l,∀ v∈l,(Tv (Fq a) u v=true↔C6 q u v)) (hd:l.Pairwise λx y=>x.id≠y.id):(Tu a l).Pairwise (C6 q) :=
 DU (S:=λx=>x∈l) (D:=λx y=>x.id≠y.id) (YM q) (λu v hu hv h=>(hb u hu v hv).1 h) (λu v hu hv hne h=>fB (λe=>hne e.symm) λh'=>by
  rw [(hb u hu v hv).2 h'] at h; cases h) l [] .nil (λx hx=>by cases hx) (λx hx=>hx) hd (λx hx=>by cases hx)
theorem Qu3 {a:Tm} (ha:Va a) {u v:Pt} (hu:Sc u.c) (hv:Sc v.c) {q:Rat} (h1:Hk (Fq a) (Gn u.c v.c)=Fg (U9 (Gn u.c v.c) q)) (h2:Hk (Fq a) (Gm u.c v.c)=Fg (U9 (Gm u.c v.c) q)) (hne:u.c≠v.c) (h:C6 q u v):lx (px · q) (py · q) u v:=by
 rcases h with h | ⟨h,h3⟩
 ·exact .inl h
 rcases h3 with h3 | ⟨h3,_⟩
 ·exact .inr ⟨h,h3⟩
 ·exfalso;rw [TS hu hv] at h1;rw [TR hu hv] at h2;have z1:Fg (px v q-px u q)=0:=Gs.2 (by grind);have z2:Fg (py v q-py u q)=0:=Gs.2 (by grind);rw [z1] at h1;rw [z2] at h2;have e1:(Gn u.c v.c).length=0:=Decidable.byContradiction λe=>(El ha (M8 hu hv).dp e).2 h1
  have e2:(Gm u.c v.c).length=0:=Decidable.byContradiction λe=>(El ha (M7 hu hv).dp e).2 h2
  exact hne (Qpd hu.n hv.n (Qj e1) (Qj e2))
structure LowC (X Y:Pt->Rat) (R L:List Pt):Prop where
 hd:L.head? = R.head?
 la:L.getLast? = R.getLast?
 srt:L.Pairwise (lx X Y)
 mem:∀ p∈L,p∈R
 edg:Edg (λa b=>∀ p∈R,0≤Bi X Y a b p) L
 cnv:Cnv (λa b c=>0<Bi X Y a b c) L
theorem ID {X Y:Pt->Rat} {sg:Um->Int} {R:List Pt} (hs:∀ a∈R,∀ b∈R,∀ c∈R,(FK sg a b c=true↔0<Bi X Y a b c)) (hR:R.Pairwise (lx X Y)) (h0:R≠[]):LowC X Y R (Pi sg R):=by
 cases R with
 | nil=>exact absurd rfl h0
 |
  cons f R =>
  obtain ⟨t,st,g1,g2,g3,g4⟩:=IL hs hR R [f] f [] rfl ⟨Kl _ _,λp hp=>by rw [Qk.1 hp]; simp,trivial,trivial⟩ rfl rfl;have e:Pi sg (f::R)=(t::st).reverse:=by
   unfold Pi;rw [<-g1]; rfl
  rw [e];exact ⟨by rw [List.head?_reverse,g4],by rw [List.getLast?_reverse]; exact g3.symm,Ky.2 g2.srt,λp hp=>g2.mem p (Jl.1 hp),g2.edg.rev,g2.cnv.rev⟩
theorem Qvt {X Y:Pt->Rat} {R:List Pt} (hR:R.Pairwise (lx X Y)):∀ p∈R,∀ q∈R,p=q\/lx X Y p q\/lx X Y q p:=λp hp q hq=>by
 by_cases e:p=q
 ·exact .inl e
 ·exact .inr (zZ hR hp hq e)
theorem Qii {X Y:Pt->Rat} {R L L':List Pt} (hR:R.Pairwise (lx X Y)) (h:LowC X Y R L) (h':LowC X Y R L'):L=L':=by
 have hh:=h.hd.trans h'.hd.symm;have hl:=h.la.trans h'.la.symm;cases L with
 |
  nil=>cases L' with
  | nil=>rfl
  | cons _ _=>simp at hh
 |
  cons f M=>cases L' with
  | nil=>simp at hh
  |
   cons f' M' =>
   simp at hh;subst hh;obtain ⟨z,hz⟩:∃ z,(f::M).getLast? = some z:=⟨_,Yq (by simp)⟩;rw [Qgg (Qvt hR) M M' f h.srt h'.srt h.mem h'.mem h.edg h'.edg h.cnv h'.cnv hz (hl ▸ hz)]
theorem tU {x y:Rat} (h:Fg x=Fg y):(0<=x->0<=y)/\(0<x->0<y):=by
 have h1:=Ga x;have h2:=Ga y;grind
theorem wI {X Y X' Y':Pt->Rat} {R:List Pt}:∀ {L:List Pt},(∀ p∈L,p∈R)->(∀ e∈Ic L,∀ p∈R,Fg (Bi X Y e.1 e.2 p)=Fg (Bi X' Y' e.1 e.2 p))->Cnv (λa b c=>0<Bi X Y a b c) L->Cnv (λa b c=>0<Bi X' Y' a b c) L
 | [],_,_,_=>trivial
 | [_],_,_,_=>trivial
 | [_,_],_,_,_=>trivial
 | a::b::c::l,hm,he,h=>⟨(tU (he (a,b) (by simp [Ic]) c (hm c (by simp)))).2 h.1,wI (λp hp=>hm p (Qg _ hp)) (λe hx=>he e (Qg _ hx)) h.2⟩
theorem fC {X Y X' Y':Pt->Rat} {R L:List Pt} (h:LowC X Y R L) (hl:∀ u∈R,∀ v∈R,lx X Y u v->lx X' Y' u v) (he:∀ e∈Ic L,∀ p∈R,Fg (Bi X Y e.1 e.2 p)=Fg (Bi X' Y' e.1 e.2 p)):LowC X' Y' R L :=
 ⟨h.hd,h.la,h.srt.imp_of_mem λhu hv h'=>hl _ (h.mem _ hu) _ (h.mem _ hv) h',h.mem,jG.2 λe hx p hp=>(tU (he e hx p hp)).1 (jG.1 h.edg e hx p hp),wI h.mem he h.cnv⟩
theorem yP (X Y:Pt->Rat) (a b c:Pt):Bi (λp=>-X p) (λp=>-Y p) a b c=Bi X Y a b c:=by unfold Bi; grind
theorem yV {X Y:Pt->Rat} {a b:Pt}:lx (λp=>-X p) (λp=>-Y p) a b↔lx X Y b a:=by unfold lx; grind
theorem Qsl {L:List Pt} {f z:Pt} (h1:L.head? = some f) (h2:L.getLast? = some z) (hne:f≠z):∃ A,L=f::A++[z]:=by
 cases L with
 | nil=>cases h1
 |
  cons g M =>
  simp at h1;subst h1;cases M with
  | nil=>simp at h2; exact absurd h2 hne
  |
   cons x M =>
   rw [J0] at h2;obtain ⟨A,hA⟩:=Y8.1 h2;exact ⟨A,by rw [hA]; rfl⟩
theorem DK {α β:Type} {f g:α->List β}:∀ {m:List α},(∀ x∈m,f x=g x)->m.flatMap f=m.flatMap g
 | [],_=>rfl
 | x::m,h=>by rw [J1,J1,h x (by simp),DK λy hy=>h y (Qg _ hy)]
theorem fU {sa sb:Um->Int} {l C:List Pt} (h:∀ x∈Be sa l C,Hk sb x.p=Hk sa x.p):Be sb l C=Be sa l C:=by
 by_cases h2:C.length<2
 ·unfold Be; rw [if_pos h2,if_pos h2]
 ·have e:∀ s,Be s l C=(Rr C).flatMap (Ah s l):=λs=>if_neg h2
  rw [e] at h ⊢;rw [e];refine DK λx hx=>Xp λc hc=>?_
  have:=h (Lc sa x.1 x.2 c) (Zo.2 ⟨x,hx,Wi hc⟩);show (⟨3,x.1.id,x.2.id,c.id,0,Hi x.1.c x.2.c c.c,Hk sb (Hi x.1.c x.2.c c.c)⟩:Ct)=⟨3,x.1.id,x.2.id,c.id,0,Hi x.1.c x.2.c c.c,Hk sa (Hi x.1.c x.2.c c.c)⟩;have this:Hk sb (Hi x.1.c x.2.c c.c)=Hk sa (Hi x.1.c x.2.c c.c):=this;rw [this]
theorem oL {l:List Pt} (hd:l.Pairwise λx y=>x.id≠y.id) {u v:Pt} (hu:u∈l) (hv:v∈l) (h:u.id=v.id):u=v:=by
 refine Classical.byContradiction λe=>?_
 rcases zZ hd hu hv e with h' | h'
 ·exact h' h
 ·exact h' h.symm
structure Soon (l:List Pt) (a:Tm) (q:Rat):Prop where
 g:∀ p∈Eh l++NC l,Hk (Fq a) p=Fg (U9 p q)
 b:∀ u∈l,∀ v∈l,(Tv (Fq a) u v=true↔C6 q u v)
 o:∀ u∈l,∀ v∈l,∀ w∈l,Hk (Fq a) (Hi u.c v.c w.c)=Fg (Bi (px · q) (py · q) u v w)
 t:∀ u∈l,∀ v∈l,∀ w∈l,(FK (Fq a) u v w=true↔0<Bi (px · q) (py · q) u v w)
 r:(Tu a (Tp l)).Pairwise (lx (px · q) (py · q))
theorem Qkt {l:List Pt} (hl:∀ p∈l,Sc p.c) (hd:l.Pairwise λx y=>x.id≠y.id) {a:Tm} (ha:Va a):∃ y,Fp a y=-1/\∀ q,Fp a q=-1->q≤y->Soon l a q:=by
 obtain ⟨y,y1,y2⟩:=XU ha (Eh l++NC l) λp hp=>(PI hl p hp).dp
 refine ⟨y,y1,λq q1 q2=>?_⟩;have g:=y2 q q1 q2;have gP:=λp hp=>g p (X7 _ hp)
 have b:∀ u∈l,∀ v∈l,(Tv (Fq a) u v=true↔C6 q u v):=λu hu v hv=>BX ha (hl u hu) (hl v hv) (gP _ (Sl hu hv).1) (gP _ (Sl hu hv).2)
 have o:∀ u∈l,∀ v∈l,∀ w∈l,Hk (Fq a) (Hi u.c v.c w.c)=Fg (Bi (px · q) (py · q) u v w):=λu hu v hv w hw=>by
  rw [g _ (Je _ (kC hu hv hw)),cP (hl u hu) (hl v hv) (hl w hw)]
 refine ⟨g,b,o,λu hu v hv w hw=>?_,?_⟩
 ·unfold FK;rw [o u hu v hv w hw,decide_eq_true_eq];have:=Ga (Bi (px · q) (py · q) u v w);grind
 ·have hw:∀ u∈Tp l,u∈l:=λu hu=>Np hu
  have h1:=cF (a:=a) (l:=Tp l) (q:=q) (λu hu v hv=>b u (hw u hu) v (hw v hv)) (List.Pairwise.sublist (Qld l) hd);have h2:(Tu a (Tp l)).Pairwise λx y=>x.c≠y.c:=(List.Perm.pairwise_iff (λ{x y} h e=>h e.symm) (cA (lt:=Tv (Fq a)) (Tp l))).2 (Qqy l)
  refine (h1.and h2).imp_of_mem λ{u v} hu hv h=>?_
  have hu:=hw u (Hr.1 hu);have hv:=hw v (Hr.1 hv);exact Qu3 ha (hl u hu) (hl v hv) (gP _ (Sl hu hv).1) (gP _ (Sl hu hv).2) h.2 h.1
theorem oO {l:List Pt} (hl:∀ p∈l,Sc p.c) (hd:l.Pairwise λx y=>x.id≠y.id) {a:Tm} (ha:Va a):∃ q,Soon l a q :=
 let ⟨y,h1,h2⟩:=Qkt hl hd ha
 ⟨y,h2 y h1 Qp⟩
theorem CY {l:List Pt} {a:Tm} {q:Rat} (S:Soon l a q) (h3:3<=(Tu a (Tp l)).length):∃ f z A B,Pi (Fq a) (Tu a (Tp l))=f::A++[z]/\Pi (Fq a) (Tu a (Tp l)).reverse=z::B++[f]/\LowC (px · q) (py · q) (Tu a (Tp l)) (f::A++[z])/\LowC (λp=>-px p q) (λp=>-py p q) (Tu a (Tp l)).reverse (z::B++[f])/\Rr (Pa l a)=Ic (f::A++[z])++Ic (z::B++[f])/\2<=(Pa l a).length:=by
 obtain ⟨R,hR⟩:=nmE (Tu a (Tp l));have hm:∀ x∈R,x∈l:=λx hx=>by rw [hR] at hx; exact Np (Hr.1 hx)
 have r:=S.r;rw [<-hR] at r h3 ⊢;have h0:R≠[]:=λe=>by rw [e] at h3; simp at h3
 have c1:=ID (sg:=Fq a) (λu hu v hv w hw=>S.t u (hm u hu) v (hm v hv) w (hm w hw)) r h0;have r2:R.reverse.Pairwise (lx (λp=>-px p q) (λp=>-py p q)):=Ky.2 (r.imp λh=>yV.2 h);have c2:=ID (sg:=Fq a) (R:=R.reverse) (X:=λp=>-px p q) (Y:=λp=>-py p q) (λu hu v hv w hw=>by
  rw [yP (px · q) (py · q)];exact S.t u (hm u (Jl.1 hu)) v (hm v (Jl.1 hv)) w (hm w (Jl.1 hw))) r2 (by simpa using h0)
 obtain ⟨f,hf⟩:∃ f,R.head? = some f:=by cases R with
  | nil=>exact absurd rfl h0
  | cons f _=>exact ⟨f,rfl⟩
 obtain ⟨z,hz⟩:∃ z,R.getLast? = some z:=⟨_,Yq h0⟩;have hne:f≠z:=λe=>by
  subst e;cases R with
  | nil=>exact absurd rfl h0
  |
   cons g M =>
   simp at hf; subst hf;cases M with
   | nil=>simp at h3
   |
    cons x M =>
    rw [J0] at hz;exact Lu _ ((Zg.1 r).1 g (V1 hz))
 obtain ⟨A,hA⟩:=Qsl (c1.hd.trans hf) (c1.la.trans hz) hne;obtain ⟨B,hB⟩:=Qsl (c2.hd.trans (by rw [List.head?_reverse]; exact hz)) (c2.la.trans (by rw [List.getLast?_reverse]; exact hf)) (Ne.symm hne);have hc:Pa l a=(f::A++[z]).dropLast++(z::B++[f]).dropLast:=by
  unfold Pa L9;rw [<-hR,if_neg (by omega),hA,hB]
 rw [hA] at c1;rw [hB] at c2;refine ⟨f,z,A,B,hA,hB,c1,c2,by rw [hc]; exact uB,?_⟩;rw [hc,Vz,Vz];simp; omega
theorem Qcc {l:List Pt} (hl:∀ p∈l,Sc p.c) (hd:l.Pairwise λx y=>x.id≠y.id) {a b:Tm} (ha:Va a) (hb:Va b) (h:∀ x∈AB l a,Hk (Fq b) x.p=Hk (Fq a) x.p):Pa l b=Pa l a/\AB l b=AB l a:=by
 obtain ⟨q,Sa⟩:=oO hl hd ha;obtain ⟨r,Sb⟩:=oO hl hd hb;obtain ⟨k1,k2⟩:=tJ hl hd ha hb λx hx=>h x (X7 _ hx)
 have pa:=cF Sa.b hd;have pb:=cF Sb.b hd;rw [k1] at pb;have pab:=pa.and pb;have lexs:∀ u∈l,∀ v∈l,(C6 q u v↔C6 r u v):=λu hu v hv=>by
  by_cases e:u=v
  ·subst e; exact ⟨λh=>absurd h (XC _ _),λh=>absurd h (XC _ _)⟩
  ·rcases zZ pab (Hr.2 hu) (Hr.2 hv) e with h' | h'
   ·exact ⟨λ_=>h'.2,λ_=>h'.1⟩
   ·exact ⟨λh=>absurd (YM _ _ _ _ h h'.1) (XC _ _),λh=>absurd (YM _ _ _ _ h h'.2) (XC _ _)⟩
 have bef:∀ u∈l,∀ v∈l,Tv (Fq b) u v=Tv (Fq a) u v:=λu hu v hv=>by
  have h1:=Sa.b u hu v hv;have h2:=Sb.b u hu v hv;have h3:=lexs u hu v hv;cases e1:Tv (Fq a) u v <;> cases e2:Tv (Fq b) u v <;> rw [e1] at h1 <;> rw [e2] at h2 <;> simp_all
 have eR:Tu b (Tp l)=Tu a (Tp l):=SY (l:=Tp l) (λu hu v hv=>bef u (Np hu) v (Np hv)) (Tp l) [] (λx hx=>hx) λx hx=>by cases hx
 have hm:∀ x∈Tu a (Tp l),x∈l:=λx hx=>Np (Hr.1 hx)
 have rb:=Sb.r;rw [eR] at rb;have hc:Pa l b=Pa l a:=by
  by_cases h3:(Tu a (Tp l)).length<3
  ·unfold Pa L9;rw [eR,if_pos h3,if_pos h3]
  ·obtain ⟨f,z,A,B,hA,hB,c1,c2,hE,hC2⟩:=CY Sa (by omega);obtain ⟨f',z',A',B',hA',hB',c1',c2',hE',_⟩:=CY Sb (by rw [eR]; omega);rw [eR] at hA' hB' c1' c2';have sgs:∀ e∈Rr (Pa l a),∀ p∈Tu a (Tp l),Fg (Bi (px · q) (py · q) e.1 e.2 p)=Fg (Bi (px · r) (py · r) e.1 e.2 p):=λe he p hp=>by
    obtain ⟨m1,m2⟩:=SX he;have m1:=I5 m1;have m2:=I5 m2;have m3:=hm p hp;by_cases ho:VS e p=true
    ·have hx:Lc (Fq a) e.1 e.2 p∈AB l a:=by
      refine Je _ ?_;unfold Be;rw [if_neg (by omega)];exact Zo.2 ⟨e,he,Wi (Yi.2 ⟨m3,ho⟩)⟩
     have hg:Hk (Fq b) (Hi e.1.c e.2.c p.c)=Hk (Fq a) (Hi e.1.c e.2.c p.c):=h _ hx;rw [<-Sa.o _ m1 _ m2 _ m3,<-Sb.o _ m1 _ m2 _ m3,hg]
    ·have hz:∀ X Y:Pt->Rat,Bi X Y e.1 e.2 p=0:=λX Y=>by
      by_cases e1:p.id=e.1.id
      ·rw [oL hd m3 m1 e1]; exact (FB _ _).1
      ·by_cases e2:p.id=e.2.id
       ·rw [oL hd m3 m2 e2]; exact (FB _ _).2
       ·exact absurd (by simp [VS,e1,e2]) ho
     rw [hz,hz]
   have hlx:∀ u∈Tu a (Tp l),∀ v∈Tu a (Tp l),lx (px · q) (py · q) u v->lx (px · r) (py · r) u v:=λu hu v hv huv=>by
    have ra:=Sa.r;by_cases e:u=v
    ·subst e; exact absurd huv (Lu _)
    ·rcases zZ (ra.and rb) hu hv e with h' | h'
     ·exact h'.2
     ·exact absurd (fE huv h'.1) (Lu _)
   have e1:=Qii rb (fC c1 hlx λe he=>sgs e (by rw [hE]; exact X7 _ he)) c1';have rb2:(Tu a (Tp l)).reverse.Pairwise (lx (λp=>-px p r) (λp=>-py p r)):=Ky.2 (rb.imp λh=>yV.2 h);have e2:=Qii rb2 (fC c2 (λu hu v hv huv=>yV.2 (hlx v (Jl.1 hv) u (Jl.1 hu) (yV.1 huv))) λe he p hp=>by
    rw [yP (px · q) (py · q),yP (px · r) (py · r)];exact sgs e (by rw [hE]; exact Je _ he) p (Jl.1 hp)) c2'
   unfold Pa L9;rw [eR,if_neg h3,if_neg h3,hA,hB,hA',hB',e1,e2]
 refine ⟨hc,?_⟩;unfold AB;rw [hc,k2,fU λx hx=>h x (Je _ hx)]
theorem Qy1 {l:List Pt} (hl:∀ p∈l,Sc p.c) (hn:l.length≤10) (hd:l.Pairwise λx y=>x.id≠y.id):Stab (AB l) (brH l):=by
 refine ⟨pZ hl hn,⟨Eh l++NC l,PI hl,λa _ x hx=>xF x hx⟩,λa b ha hb h=>?_⟩;obtain ⟨e1,e2⟩:=Qcc hl hd ha hb h;exact ⟨e2,by show U3 _=U3 _; rw [e1]⟩
end Orq
namespace Orq
open Orr Go
theorem KC {a b c d:Crv} (ha:Sc a) (hb:Sc b) (hc:Sc c) (hd:Sc d):Cp (Hq a b c d):=by
 have lr:∀ {a b:Crv},Sc a->Sc b->(Gn a b).length<=3/\(Gm a b).length<=3:=λ{a b} ha hb=>by
  have:=Nc (Fv b.x a.d) (Fv a.x b.d); have:=Fy b.x a.d; have:=Fy a.x b.d;have:=Nc (Fv b.y a.d) (Fv a.y b.d); have:=Fy b.y a.d; have:=Fy a.y b.d;have:=ha.c.lx; have:=hb.c.lx; have:=ha.c.ly; have:=hb.c.ly;unfold Gn Gm; omega
 have ap:∀ {a b:Crv},Sc a->Sc b->(S4 a b).length<=5/\Bd 517 (S4 a b):=λ{a b} ha hb=>by
  obtain ⟨l1,l2⟩:=lr ha hb;have b1:Bd 257 (Gn a b):=Dq (Gg hb.c.x ha.c.d) (Gg ha.c.x hb.c.d);have b2:Bd 257 (Gm a b):=Dq (Gg hb.c.y ha.c.d) (Gg ha.c.y hb.c.d);have q1:=Ph (u:=2) b1 b1 (by omega);have q2:=Ph (u:=2) b2 b2 (by omega);refine ⟨?_,U6 (JO q1 q2) (by omega)⟩;have:=Oe (Gl (Gn a b) (Gn a b)) (Gl (Gm a b) (Gm a b));have:=Ty (Gn a b) (Gn a b); have:=Ty (Gm a b) (Gm a b);unfold S4; omega
 have dd:∀ {a b:Crv},Sc a->Sc b->Fe ((a.d*b.d)*(a.d*b.d))<=512:=λ{a b} ha hb=>by
  have:=Gb a.d b.d; have:=Gb (a.d*b.d) (a.d*b.d); have:=ha.c.d; have:=hb.c.d; omega
 obtain ⟨l1,b1⟩:=ap hc hd;obtain ⟨l2,b2⟩:=ap ha hb;refine ⟨Fz _ _,?_,U6 (Dq (Gg b1 (dd ha hb)) (Gg b2 (dd hc hd))) (by omega)⟩;have:=Nc (Fv (S4 c d) ((a.d*b.d)*(a.d*b.d))) (Fv (S4 a b) ((c.d*d.d)*(c.d*d.d)));have:=Fy (S4 c d) ((a.d*b.d)*(a.d*b.d)); have:=Fy (S4 a b) ((c.d*d.d)*(c.d*d.d));unfold Hq; omega
def sN (m:Pt×Pt) (q:Rat):Rat:=(px m.2 q-px m.1 q)*(px m.2 q-px m.1 q)+(py m.2 q-py m.1 q)*(py m.2 q-py m.1 q)
theorem Qol {a b c d:Pt} (ha:Sc a.c) (hb:Sc b.c) (hc:Sc c.c) (hd:Sc d.c) (q:Rat):Fg (U9 (Hq a.c b.c c.c d.c) q)=Fg (sN (c,d) q-sN (a,b) q):=by
 have Rv:∀ {z:Int},0<z->(0:Rat)<(z:Rat):=λ{z} h=>by exact_mod_cast h
 have pa:=Rv ha.n.2.2.1;have pb:=Rv hb.n.2.2.1;have pc:=Rv hc.n.2.2.1;have pd:=Rv hd.n.2.2.1;have xx:∀ {p:Pt},0<(p.c.d:Rat)->U9 p.c.x q=px p q*(p.c.d:Rat)/\U9 p.c.y q=py p q*(p.c.d:Rat):=λ{p} h=>by
  unfold px py;exact ⟨(Zj (by grind)).symm,(Zj (by grind)).symm⟩
 obtain ⟨xa,ya⟩:=xx pa;obtain ⟨xb,yb⟩:=xx pb;obtain ⟨xc,yc⟩:=xx pc;obtain ⟨xd,yd⟩:=xx pd;have e:U9 (Hq a.c b.c c.c d.c) q=(((a.c.d:Rat)*b.c.d)*((a.c.d:Rat)*b.c.d))*(((c.c.d:Rat)*d.c.d)*((c.c.d:Rat)*d.c.d))*(sN (c,d) q-sN (a,b) q):=by
  unfold Hq S4 Gn Gm sN;simp only [Nh,Rm,LO,Gk,Xz];rw [xa,xb,xc,xd,ya,yb,yc,yd];grind
 rw [e,Cx];have h1:=Xq pa pb;have h2:=Xq pc pd;exact Xq (Xq h1 h1) (Xq h2 h2)
def AM (l:List Pt):Un:=l.flatMap λa=>l.flatMap λb=>l.flatMap λc=>l.map λd=>Hq a.c b.c c.c d.c
theorem NB {l:List Pt} {a b c d:Pt} (ha:a∈l) (hb:b∈l) (hc:c∈l) (hd:d∈l):Hq a.c b.c c.c d.c∈AM l :=
 Zo.2 ⟨a,ha,Zo.2 ⟨b,hb,Zo.2 ⟨c,hc,Za.2 ⟨d,hd,rfl⟩⟩⟩⟩
theorem UQ {l:List Pt} (hl:∀ p∈l,Sc p.c):∀ p∈AM l,Cp p:=λp hp=>by
 obtain ⟨a,ha,hp⟩:=Zo.1 hp;obtain ⟨b,hb,hp⟩:=Zo.1 hp;obtain ⟨c,hc,hp⟩:=Zo.1 hp;obtain ⟨d,hd,rfl⟩:=Za.1 hp;exact KC (hl a ha) (hl b hb) (hl c hc) (hl d hd)
theorem aY {l:List Pt} (hl:∀ p∈l,Sc p.c) {a:Tm} (ha:Va a):∃ y,Fp a y=-1/\∀ q,Fp a q=-1->q≤y->∀ s m:Pt×Pt,s.1∈l->s.2∈l->m.1∈l->m.2∈l->Hk (Fq a) (Hq s.1.c s.2.c m.1.c m.2.c)=Fg (sN m q-sN s q):=by
 obtain ⟨y,y1,y2⟩:=XU ha (AM l) λp hp=>(UQ hl p hp).dp
 refine ⟨y,y1,λq q1 q2 s m h1 h2 h3 h4=>?_⟩;rw [y2 q q1 q2 _ (NB h1 h2 h3 h4),Qol (hl _ h1) (hl _ h2) (hl _ h3) (hl _ h4)]
def D4 (f:Pt×Pt->Rat) (P:List (Pt×Pt)) (r:Pt×Pt):Prop:=∃ P1 P2,P=P1++r::P2/\(∀ m∈P1,f r<f m)/\∀ m∈P2,f r≤f m
theorem OS {f:Pt×Pt->Rat}:∀ {P:List (Pt×Pt)} {r r':Pt×Pt},D4 f P r->D4 f P r'->r=r'
 | [],r,r',⟨P1,P2,h,_⟩,_=>by simp at h
 |
  x::P,r,r',⟨P1,P2,h,h1,h2⟩,⟨Q1,Q2,h',h1',h2'⟩=>by
  cases P1 with
  |
   nil =>
   simp at h;cases Q1 with
   | nil=>simp at h'; exact h.1.symm.trans h'.1
   |
    cons y Q1 =>
    simp at h';exfalso;obtain ⟨rfl,rfl⟩:=h;obtain ⟨rfl,rfl⟩:=h';have a1:=h1' x (by simp);have a2:=h2 r' (by simp);grind
  |
   cons y P1 =>
   simp at h;cases Q1 with
   |
    nil =>
    simp at h';exfalso;obtain ⟨rfl,rfl⟩:=h;obtain ⟨rfl,rfl⟩:=h';have a1:=h1 x (by simp);have a2:=h2' r (by simp);grind
   |
    cons z Q1 =>
    simp at h h';exact OS (P:=P) ⟨P1,P2,h.2,λm hm=>h1 m (by simp [hm]),h2⟩ ⟨Q1,Q2,h'.2,λm hm=>h1' m (by simp [hm]),h2'⟩
theorem Qom {f:Pt×Pt->Rat} {P:List (Pt×Pt)} {r m:Pt×Pt} (h:D4 f P r):D4 f (P++[m]) (if f m<f r then m else r):=by
 obtain ⟨P1,P2,rfl,h1,h2⟩:=h;by_cases e:f m<f r
 ·rw [if_pos e];refine ⟨P1++r::P2,[],rfl,λx hx=>?_,λx hx=>by cases hx⟩;rcases Qr.1 hx with hx | hx
  ·have:=h1 x hx; grind
  ·rcases Qm.1 hx with rfl | hx
   ·exact e
   ·have:=h2 x hx; grind
 ·rw [if_neg e];refine ⟨P1,P2++[m],by simp,h1,λx hx=>?_⟩;rcases Qr.1 hx with hx | hx
  ·exact h2 x hx
  ·rw [Qk.1 hx]; grind
theorem aW {f:Pt×Pt->Rat} {sg:Um->Int} {l:List Pt} (hg:∀ s m:Pt×Pt,s.1∈l->s.2∈l->m.1∈l->m.2∈l->Hk sg (Hq s.1.c s.2.c m.1.c m.2.c)=Fg (f m-f s)):∀ (ps P:List (Pt×Pt)) (s:Pt×Pt),s.1∈l/\s.2∈l->(∀ m∈ps,m.1∈l/\m.2∈l)->D4 f P s->D4 f (P++ps) (Ho sg s ps)
 | [],P,s,_,_,h=>by rw [Zv]; exact h
 |
  m::ps,P,s,hs,hp,h=>by
  rw [QO];have hm:=hp m (by simp);have e:P0 sg s m=if f m<f s then m else s:=by
   unfold P0;rw [hg s m hs.1 hs.2 hm.1 hm.2];have:=Ga (f m-f s);by_cases h:f m<f s
   ·rw [if_pos h,if_pos (by grind)]
   ·rw [if_neg h,if_neg (by grind)]
  have hn:(P0 sg s m).1∈l/\(P0 sg s m).2∈l:=by
   rcases RE sg s m with e | e <;> rw [e] <;> assumption
  have:=aW hg ps (P++[m]) (P0 sg s m) hn (λx hx=>hp x (Qg _ hx)) (by rw [e]; exact Qom h);rwa [Zd] at this
theorem bK (a b:Pt) (l:List Pt):∃ P,Gt (a::b::l)=(a,b)::P:=⟨_,rfl⟩
theorem iF {f:Pt×Pt->Rat} {sg:Um->Int} {a b:Pt} {l:List Pt} (hg:∀ s m:Pt×Pt,s.1∈a::b::l->s.2∈a::b::l->m.1∈a::b::l->m.2∈a::b::l->Hk sg (Hq s.1.c s.2.c m.1.c m.2.c)=Fg (f m-f s)):D4 f (Gt (a::b::l)) (Ho sg (a,b) (Gt (a::b::l))):=by
 obtain ⟨P,hP⟩:=bK a b l;have hm:=S0 (a::b::l).length (a::b::l);have hm:∀ m∈Gt (a::b::l),m.1∈a::b::l/\m.2∈a::b::l:=hm;rw [hP] at hm ⊢;have h:=aW hg P [(a,b)] (a,b) (hm (a,b) (by simp)) (λm h=>hm m (by simp [h])) ⟨[],[],rfl,λm h=>(by cases h),λm h=>(by cases h)⟩;rw [QO];have e:P0 sg (a,b) (a,b)=(a,b):=by rcases RE sg (a,b) (a,b) with e | e <;> exact e
 rw [e]; exact h
theorem oI {l:List Pt} (hd:l.Pairwise λx y=>x.id≠y.id) {u v:Pt} (hu:u∈l) (hv:v∈l) (h:u.id=v.id):u=v:=by
 by_cases e:u=v
 ·exact e
 ·rcases zZ hd hu hv e with h' | h'
  ·exact absurd h h'
  ·exact absurd h.symm h'
theorem Qcw {l:List Pt} (hl:∀ p∈l,Sc p.c) (hd:l.Pairwise λx y=>x.id≠y.id) {a b:Tm} (ha:Va a) (hb:Va b) (h:∀ x∈Lj (Fq a) l,Hk (Fq b) x.p=Hk (Fq a) x.p):Om (Fq b) l=Om (Fq a) l/\Lj (Fq b) l=Lj (Fq a) l:=by
 match l,hl,hd,h with
 | [],_,_,_=>exact ⟨rfl,rfl⟩
 | [x],_,_,_=>exact ⟨rfl,rfl⟩
 |
  u::v::l',hl,hd,h =>
  obtain ⟨y,y1,y2⟩:=aY hl ha;obtain ⟨z,z1,z2⟩:=aY hl hb;have ga:=y2 y y1 Qp;have gb:=z2 z z1 Qp;have fa:=iF (f:=λm=>sN m y) ga;have fb:=iF (f:=λm=>sN m z) gb;simp only [Om,Lj] at h ⊢;have hm:∀ m∈Gt (u::v::l'),m.1∈u::v::l'/\m.2∈u::v::l':=S0 _ _;generalize u::v::l'=l at *;obtain ⟨r,hr⟩:=nmE (Ho (Fq a) (u,v) (Gt l));rw [<-hr] at fa h ⊢;obtain ⟨P1,P2,hP,h1,h2⟩:=fa;have hrm:r∈Gt l:=by rw [hP]; simp
  have hrl:=hm r hrm;have key:∀ m∈Gt l,m=r\/Hk (Fq b) (Hq r.1.c r.2.c m.1.c m.2.c)=Hk (Fq a) (Hq r.1.c r.2.c m.1.c m.2.c):=λm hmm=>by
   have hml:=hm m hmm;by_cases e:ZF r m=true
   ·right;have h0:=h (Bf (Fq a) r.1 r.2 m.1 m.2) (by unfold Mx; exact List.mem_map.2 ⟨m,List.mem_filter.2 ⟨hmm,e⟩,rfl⟩);rw [LF] at h0; exact h0
   ·left;unfold ZF at e;simp at e;have e1:=oI hd hml.1 hrl.1 e.1;have e2:=oI hd hml.2 hrl.2 e.2;exact Prod.ext e1 e2
  have fb':D4 (λm=>sN m z) (Gt l) r:=by
   refine ⟨P1,P2,hP,λm hmm=>?_,λm hmm=>?_⟩
   ·have hmp:m∈Gt l:=by rw [hP]; simp [hmm]
    have hlt:=h1 m hmm;have hml:=hm m hmp;rcases key m hmp with e | e
    ·exfalso; rw [e] at hlt; dsimp only at hlt; grind
    ·rw [ga r m hrl.1 hrl.2 hml.1 hml.2,gb r m hrl.1 hrl.2 hml.1 hml.2] at e;dsimp only at hlt ⊢;rw [Hy.2 (by grind:0<sN m y-sN r y)] at e;have:=Hy.1 e; grind
   ·have hmp:m∈Gt l:=by rw [hP]; simp [hmm]
    have hlt:=h2 m hmm;have hml:=hm m hmp;rcases key m hmp with e | e
    ·rw [e]; exact Qp
    ·rw [ga r m hrl.1 hrl.2 hml.1 hml.2,gb r m hrl.1 hrl.2 hml.1 hml.2] at e;dsimp only at hlt ⊢;have t1:=Ga (sN m y-sN r y);have t2:=Ga (sN m z-sN r z);grind
  have er:=OS fb fb';rw [er];refine ⟨rfl,?_⟩;unfold Mx;refine Xp λm hmm=>?_
  have hmp:=(Yi.1 hmm).1;rcases key m hmp with e | e
  ·exfalso;have:=(Yi.1 hmm).2;rw [e] at this; unfold ZF at this; simp at this
  ·unfold Bf; rw [e]
theorem Qy2 {l:List Pt} (hl:∀ p∈l,Sc p.c) (hn:l.length≤10) (hd:l.Pairwise λx y=>x.id≠y.id):Stab (λa=>Lj (Fq a) l) (λa=>U3 (Om (Fq a) l)):=by
 have hcp:∀ a,∀ x∈Lj (Fq a) l,x.p∈AM l:=λa x hx=>by
  match l,hx with
  |
   u::v::l',hx =>
   simp only [Lj] at hx;obtain ⟨h3,h4⟩:=Lf (Fq a) (l:=u::v::l') (Gt (u::v::l')) (u,v) ⟨by simp,by simp⟩ (S0 _ _);obtain ⟨m,hm,rfl⟩:=OQ hx;obtain ⟨h1,h2⟩:=S0 _ _ m hm;rw [LF];exact NB h3 h4 h1 h2
 refine ⟨⟨λa _ x hx=>UQ hl _ (hcp a x hx),λa _=>?_⟩,⟨AM l,UQ hl,λa _=>hcp a⟩,λa b ha hb h=>?_⟩
 ·have:=qC (Fq a) l;have:l.length*l.length<=10*10:=Zc hn hn;show (Lj (Fq a) l).length<=1000;omega
 ·obtain ⟨h1,h2⟩:=Qcw hl hd ha hb h;exact ⟨h2,by show U3 _=U3 _; rw [h1]⟩
end Orq
namespace Orr
open Go Go.Proofs Tryz Orq
set_option maxRecDepth 10000
def XO:Nat->Ur->Ur
 | _,[]=>[]
 | 0,x::l=>FT x::l
 | k+1,x::l=>x::XO k l
theorem qS:∀ (k:Nat) (l:Ur),(XO k l).length=l.length
 | _,[]=>by cases ‹Nat› <;> rfl
 | 0,x::l=>rfl
 | k+1,x::l=>by simp only [XO,Q5,qS k l]
theorem qT:∀ (k:Nat) (l:Ur) {j:Nat} {y:LV},(XO k l)[j]? = some y->∃ x,l[j]? = some x/\(y=x\/y=FT x)
 | 0,[],_,_,h=>by simp [XO] at h
 | _+1,[],_,_,h=>by simp [XO] at h
 | 0,x::l,0,y,h=>by simp [XO] at h; exact ⟨x,rfl,.inr h.symm⟩
 | 0,x::l,j+1,y,h=>by simp [XO] at h; exact ⟨y,by simpa using h,.inl rfl⟩
 | k+1,x::l,0,y,h=>by simp [XO] at h; exact ⟨x,rfl,.inl h.symm⟩
 |
  k+1,x::l,j+1,y,h=>by
  simp only [XO,Jj] at h;obtain ⟨z,h1,h2⟩:=qT k l h;exact ⟨z,by simpa using h1,h2⟩
theorem nlc {P:Program} [Mo P] {n:Nat} {Q:Exit->Sg->Ut->Prop} {L:Sg} {B B':Ut} (i d:Nat) {T:TypeId} {xs:Ur} {it:List It} (hs:Rk it=true) (hb:A6 B i=some (.blk T xs)) (hB:Aw B i (.blk T (XO d xs))=some B') (k:AK P n Q it L B'):AK P n Q it L B:=by
 obtain ⟨rfl,hl⟩:=Nx hB;have hbi:B[i]? = some (.blk T xs):=S8 ▸ hb;refine AK.sub (λF E M a w h=>⟨E,M,?_,h.size,h.defers,h.slots⟩) hs k;rw [WJ,JX hbi];refine h.hs.re (λj=>?_) (λj=>?_) (λj=>?_) λj hj=>?_
 ·by_cases e:j=i
  ·subst e;rw [Fl];obtain ⟨g,c,m,h1,cs,h2,h3⟩:=h.blk hb;refine ⟨g,c,m,h1,cs,h2,F2.of (by rw [qS]; exact h3.len) λk v x hv hx=>?_⟩;obtain ⟨y,hy,hyx⟩:=qT _ _ hx;rcases hyx with rfl | rfl
   ·exact h3.get' hv hy
   ·exact iR (h3.get' hv hy)
  ·rw [Gh _ _ e]; exact h.hs.blk j
 ·by_cases e:j=i
  ·subst e; rw [Fl,Rz hbi]; rfl
  ·rw [Gh _ _ e]
 ·by_cases e:j=i
  ·subst e; rw [Fl,Rz hbi]; rfl
  ·rw [Gh _ _ e]
 ·by_cases e:j=i
  ·subst e; rw [Rz hbi] at hj; cases hj
  ·rw [Gh _ _ e]; exact hj
theorem UC {l m:Us} (h:l=m):TV.one (LV.row l)=.one (.row m):=h ▸ rfl
theorem wS {a b:Crv} (ha:ZB a) (hb:ZB b) (ca:Cb a) (cb:Cb b):Uj 244 [.agg (cl a),.agg (cl b)] [pr (S4 a b)]:=by
 obtain ⟨p1,l1,b1⟩:=rX ca cb;obtain ⟨p2,l2,b2⟩:=rQ ca cb;have m1:=Ty (Gn a b) (Gn a b);have m2:=Ty (Gm a b) (Gm a b);have q1:=Ph (u:=5) b1 b1 (by omega);have q2:=Ph (u:=5) b2 b2 (by omega);exact Ug func244 rfl [.k (UV ha hb ca cb),.k (UJ ha hb ca cb),.k (KF p1.t p1.t (by omega) (by omega) b1 b1 (by omega)),.k (KF p2.t p2.t (by omega) (by omega) b2 b2 (by omega)),.k (BG (by omega) (by omega) (U6 q1 (by omega)) (U6 q2 (by omega)))] rfl
theorem Qa4 {a b c d:Crv} (ha:ZB a) (hb:ZB b) (hc:ZB c) (hd:ZB d) (ca:Cb a) (cb:Cb b) (cc:Cb c) (cd:Cb d):Uj 176 [.agg (cl a),.agg (cl b),.agg (cl c),.agg (cl d)] [pr (Hq a b c d)]:=by
 have na:=Du ha (ca.mono (by omega) (by omega));have nb:=Du hb (cb.mono (by omega) (by omega));have nc:=Du hc (cc.mono (by omega) (by omega));have nd:=Du hd (cd.mono (by omega) (by omega));have s1:=nF ca cb;have s2:=nF cc cd;have s3:=aS ca cb;have s4:=aS cc cd;have da:=ca.d;have db:=cb.d;have dc:=cc.d;have dd:=cd.d;obtain ⟨t1,l1,b1⟩:=rZ cc cd;obtain ⟨t2,l2,b2⟩:=rZ ca cb;have k1:=Fy (S4 c d) ((a.d*b.d)*(a.d*b.d));have k2:=Fy (S4 a b) ((c.d*d.d)*(c.d*d.d));have w1:=Px (U5 a.d) (U5 b.d) (by omega) (by omega);have w2:=Px (U5 c.d) (U5 d.d) (by omega) (by omega);have w3:=Px (U5 (a.d*b.d)) (U5 (a.d*b.d)) (by omega) (by omega);have w4:=Px (U5 (c.d*d.d)) (U5 (c.d*d.d)) (by omega) (by omega);have p1:=Pn (p:=S4 c d) (c:=(a.d*b.d)*(a.d*b.d)) (by omega) (U6 b1 (by omega)) (by omega);have p2:=Pn (p:=S4 a b) (c:=(c.d*d.d)*(c.d*d.d)) (by omega) (U6 b2 (by omega)) (by omega);have p3:=HG (p:=Fv (S4 c d) ((a.d*b.d)*(a.d*b.d))) (q:=Fv (S4 a b) ((c.d*d.d)*(c.d*d.d))) (by omega) (by omega) (U6 (Gg b1 s3) (by omega)) (U6 (Gg b2 s4) (by omega));exact Ug func176 rfl [.k na,.k nb,.k w1,.k nc,.k nd,.k w2,.k (wS hc hd cc cd),.k w3,.k p1,.k (wS ha hb ca cb),.k w4,.k p2,.k p3] rfl
theorem BK {a b c d:Pt} (ha:Sc a.c) (hb:Sc b.c) (hc:Sc c.c) (hd:Sc d.c):Uj 176 [.agg (cl a.c),.agg (cl b.c),.agg (cl c.c),.agg (cl d.c)] [pr (Hq a.c b.c c.c d.c)]:=Qa4 ha.n hb.n hc.n hd.n ha.cb hb.cb hc.cb hd.cb
set_option maxHeartbeats 1000000 in
theorem Qmw {a b c d:Pt} {t:Tm} (ha:Sc a.c) (hb:Sc b.c) (hc:Sc c.c) (hd:Sc d.c) (ht:Va t):Uj 255 [.oi 5,.agg (ta t),.one (.row [Fc a,Fc b,Fc c,Fc d])] [.agg (Lx (Bf (Fq t) a b c d)),.oi 0]:=by
 have hp:=(KC ha hb hc hd).dp;have e:Lx (Bf (Fq t) a b c d)=[.int .i64 5,.int .i64 a.id,.int .i64 b.id,.int .i64 c.id,.int .i64 d.id,pl (Hq a.c b.c c.c d.c),.int .i64 (Hk (Fq t) (Hq a.c b.c c.c d.c))]:=by rw [Bf]
 rw [e];have cg:=SQ hp ht;have cf:=BK ha hb hc hd;generalize Hq a.c b.c c.c d.c=F at *;refine Fw func255 rfl ?_;refine Ud [.k Qbm,.f rfl] rfl ?_;refine Ui (S:=Nat) 3 (λL1 i=>(22,.v (.oi i))::L1) (λi=>[.blk 105 (ta t),.blk 99 zCt,.blk 99 [.int .i64 5,.int .i64 (if 1<=i then a.id else 0),.int .i64 (if 2<=i then b.id else 0),.int .i64 (if 3<=i then c.id else 0),.int .i64 (if 4<=i then d.id else 0),.nils,.int .i64 0]]) (λi=>4-i) (λi=>i<=4) 0 (Qh _) rfl rfl λi hi=>?_
 rcases (show i=0\/i=1\/i=2\/i=3\/i=4 by omega) with rfl | rfl | rfl | rfl | rfl
 ·refine Ud [.t rfl,.x (i:=0) (xs:=Fc a) rfl,.i 0] rfl ?_ (by simp [U4]);exact rd 1 (by omega) (by omega) rfl
 ·refine Ud [.t rfl,.x (i:=1) (xs:=Fc b) rfl,.i 1] rfl ?_ (by simp [U4]);exact rd 2 (by omega) (by omega) rfl
 ·refine Ud [.t rfl,.x (i:=2) (xs:=Fc c) rfl,.i 2] rfl ?_ (by simp [U4]);exact rd 3 (by omega) (by omega) rfl
 ·refine Ud [.t rfl,.x (i:=3) (xs:=Fc d) rfl,.i 3] rfl ?_ (by simp [U4]);exact rd 4 (by omega) (by omega) rfl
 ·exact Uf [.f rfl,.f rfl,.f rfl,.f rfl,.f rfl,.x (i:=0) (xs:=Fc a) rfl,.x (i:=1) (xs:=Fc b) rfl,.x (i:=2) (xs:=Fc c) rfl,.x (i:=3) (xs:=Fc d) rfl,.k cf,.k cg] rfl
theorem Qtv {s m:Pt×Pt} {t:Tm} (h1:Sc s.1.c) (h2:Sc s.2.c) (h3:Sc m.1.c) (h4:Sc m.2.c) (ht:Va t):U7 prog 259 [.agg (Fc m.1),.agg (Fc m.2),.one (.ow 0 0),.one (.ow 1 0),.one (.ow 2 0)] [.blk 40 (Fc s.1),.blk 40 (Fc s.2),.blk 105 (ta t)] [] [.blk 40 (Fc (P0 (Fq t) s m).1),.blk 40 (Fc (P0 (Fq t) s m).2),.blk 105 (ta t)]:=by
 have cf:=BK h1 h2 h3 h4;have cg:=SQ (KC h1 h2 h3 h4).dp ht;unfold P0;refine Fw func259 rfl ?_;by_cases h:Hk (Fq t) (Hq s.1.c s.2.c m.1.c m.2.c)<0
 ·rw [if_pos h];exact Uh [] [0,1,2] [.k cf,.k cg,.t (decide_eq_true h)] rfl
 ·rw [if_neg h];exact Uh [] [0,1,2] [.k cf,.k cg,.f (decide_eq_false h)] rfl
theorem Qtr {s m:Pt×Pt} {t:Tm} {L:List Ct} (h1:Sc s.1.c) (h2:Sc s.2.c) (h3:Sc m.1.c) (h4:Sc m.2.c) (ht:Va t) (hL:L.length<=1000000):U7 prog 260 [.agg (Fc m.1),.agg (Fc m.2),.one (.ow 0 0),.one (.ow 1 0),.one (.ow 2 0),.one (.ow 3 0)] [.blk 40 (Fc s.1),.blk 40 (Fc s.2),.blk 105 (ta t),.blk 66 [.orow 4 7 none],.row false 99 7 (Fo L)] [] [.blk 40 (Fc s.1),.blk 40 (Fc s.2),.blk 105 (ta t),.blk 66 [.orow 4 7 none],.row false 99 7 (Fo (if ZF s m=true then L++[Bf (Fq t) s.1 s.2 m.1 m.2] else L))]:=by
 have cm:=Qmw h1 h2 h3 h4 ht;have hq:∀ y∈[Lx (Bf (Fq t) s.1 s.2 m.1 m.2)],y.length=7:=λy hy=>by rw [Qk.1 hy]; rfl
 have hcl:=Nz L;have hsn:Fo (L++[Bf (Fq t) s.1 s.2 m.1 m.2])=Fo L++[Lx (Bf (Fq t) s.1 s.2 m.1 m.2)]:=by simp [Fo]
 refine Fw func260 rfl ?_;by_cases e1:m.1.id=s.1.id
 ·by_cases e2:m.2.id=s.2.id
  ·rw [if_neg (by simp [ZF,e1,e2])];exact Uh [] [0,1,2,3,4] [.g 15 false (by simp [e1]),.f (by simp [e2])] rfl
  ·rw [if_pos (by simp [ZF,e2]),hsn];exact Uh [] [0,1,2,3,4] [.g 15 false (by simp [e1]),.t (by simp [e2]),.k cm,.s (sz:=7) hq] rfl (by simp [U4,hcl]; omega)
 ·rw [if_pos (by simp [ZF,e1]),hsn];exact Uh [] [0,1,2,3,4] [.g 15 true (by simp [e1]),.t rfl,.k cm,.s (sz:=7) hq] rfl (by simp [U4,hcl]; omega)
theorem SL (M:List Pt):H7 0 M=[]:=by cases M <;> rfl
def yO (M:List Pt) (x:Pt) (i j:Nat):List (Pt×Pt):=H7 i M++((M.drop (i+1)).take j).map (λy=>(x,y))
theorem rS (M:List Pt) (x:Pt) (i:Nat):yO M x i 0=H7 i M:=by rw [yO,Vu,X6,Zv]
theorem rT {M:List Pt} {i j:Nat} {x y:Pt} (hy:(M.drop (i+1))[j]? = some y):yO M x i (j+1)=yO M x i j++[(x,y)]:=by
 unfold yO;rw [Z1,hy,Option.toList_some,Yh,Zd]; rfl
theorem oV {M:List Pt} {i j:Nat} {x:Pt} (hx:M[i]? = some x) (hj:(M.drop (i+1)).length<=j):yO M x i j=H7 (i+1) M:=by
 unfold yO;rw [Qo hj,Lk M i x hx]
theorem Qpp {M:List Pt} {i j:Nat} {x:Pt} (hx:M[i]? = some x):∀ m∈yO M x i j,m.1∈M/\m.2∈M:=λm hm=>by
 rcases Qr.1 hm with h | h
 ·exact S0 _ _ m h
 ·obtain ⟨y,hy,rfl⟩:=Za.1 h;exact ⟨Qc hx,Qz (Qn hy)⟩
theorem Qft {l:List Pt} {t:Tm} {s0:Pt×Pt} (hl:∀ p∈l,Sc p.c) (hs:s0.1∈l/\s0.2∈l) (hn:l.length≤1000) (ht:Va t):U7 prog 258 [.one (pts l),.one (.ofn 259 [] [.ow 0 0,.ow 1 0,.ow 2 0])] [.blk 40 (Fc s0.1),.blk 40 (Fc s0.2),.blk 105 (ta t)] [] [.blk 40 (Fc (Ho (Fq t) s0 (Gt l)).1),.blk 40 (Fc (Ho (Fq t) s0 (Gt l)).2),.blk 105 (ta t)]:=by
 have hcl:=G7 l;have hsc:∀ ps:List (Pt×Pt),(∀ m∈ps,m.1∈l/\m.2∈l)->Sc (Ho (Fq t) s0 ps).1.c/\Sc (Ho (Fq t) s0 ps).2.c:=λps h=>by
  obtain ⟨h1,h2⟩:=Lf (Fq t) ps s0 hs h;exact ⟨hl _ h1,hl _ h2⟩
 show U7 prog 258 [.one (.row (U3 l)),.one (.ofn 259 [] [.ow 0 0,.ow 1 0,.ow 2 0])] _ _ _;refine Fw func258 rfl ?_;refine Ud [] rfl ?_;refine lp (S:=Nat) 3 (λL1 i=>(10,.v (.oi i))::L1) (λi=>[.blk 40 (Fc (Ho (Fq t) s0 (H7 i l)).1),.blk 40 (Fc (Ho (Fq t) s0 (H7 i l)).2),.blk 105 (ta t)]) (λi=>l.length-i) (λi=>i<=l.length) 0 (Qh _) rfl (λ_ _=>rfl) (by rw [SL]; rfl) λi hi=>?_
 by_cases hlt:i<l.length
 ·obtain ⟨x,hx⟩:=gxE (l:=l) (i:=i) hlt;have ed1:(U3 l).drop (i+1)=U3 (l.drop (i+1)):=by simp [U3,Vh]
  have hdl:=G7 (l.drop (i+1));have hdl2:(l.drop (i+1)).length<=1000:=by rw [Q8]; omega
  rw [<-rS l x i];refine go tt [.t (by simp [hcl]; omega),.x (S5 hx),.r 17 (eI (b:=((i+1:Nat):Int)) (by simp)),.i (i+1),.r 18 (UC ed1)] rfl (by simp [U4,G7,eq_true (p:=∀ z,z∈U3 l->z.length=ti40.sz) (YI l)]; omega) ?_;refine Ui (S:=Nat) 4 (λL1 j=>(20,.v (.oi j))::L1) (λj=>[.blk 40 (Fc (Ho (Fq t) s0 (yO l x i j)).1),.blk 40 (Fc (Ho (Fq t) s0 (yO l x i j)).2),.blk 105 (ta t),.blk 40 (Fc x)]) (λj=>(l.drop (i+1)).length-j) (λj=>j<=(l.drop (i+1)).length) 0 (Qh _) rfl rfl λj hj=>?_
  by_cases hltj:j<(l.drop (i+1)).length
  ·obtain ⟨y,hy⟩:=gxE (l:=(l.drop (i+1))) (i:=j) hltj;obtain ⟨s1,s2⟩:=hsc (yO l x i j) (Qpp hx);have cn:=Qtv (s:=Ho (Fq t) s0 (yO l x i j)) (m:=(x,y)) s1 s2 (hl x (Qc hx)) (hl y (Qz (Qc hy))) ht;rw [<-yH,<-rT hy] at cn;refine go tt [.T,.x (S5 hy),.c [0,1,2] cn] rfl (by simp [U4,-List.length_drop]; omega) ?_;exact rd (j+1) (by omega) hltj rfl
  ·have e:=oV hx (J8 hltj);rw [e];refine go tt [.F] rfl (by simp [U4,-List.length_drop]; omega) ?_;exact rd (i+1) (by omega) hlt rfl
 ·obtain rfl:i=l.length:=by omega
  exact Uh [] [0,1,2] [.f (by simp [hcl])] rfl
theorem Qfu {l:List Pt} {t:Tm} {s:Pt×Pt} (hl:∀ p∈l,Sc p.c) (hs:s.1∈l/\s.2∈l) (hn:l.length≤10) (ht:Va t):U7 prog 258 [.one (pts l),.one (.ofn 260 [] [.ow 0 0,.ow 1 0,.ow 2 0,.ow 3 0])] [.blk 40 (Fc s.1),.blk 40 (Fc s.2),.blk 105 (ta t),.blk 66 [.orow 4 7 none],.row false 99 7 []] [] [.blk 40 (Fc s.1),.blk 40 (Fc s.2),.blk 105 (ta t),.blk 66 [.orow 4 7 none],.row false 99 7 (Fo (Mx (Fq t) s (Gt l)))]:=by
 have hcl:=G7 l;have hpk:∀ i,i<=l.length->(H7 i l).length<=100:=λi hi=>by
  have:=WW i l;have:i*l.length<=10*10:=Zc (by omega) hn;omega
 show U7 prog 258 [.one (.row (U3 l)),.one (.ofn 260 [] [.ow 0 0,.ow 1 0,.ow 2 0,.ow 3 0])] _ _ _;refine Fw func258 rfl ?_;refine Ud [] rfl ?_;refine lp (S:=Nat) 5 (λL1 i=>(10,.v (.oi i))::L1) (λi=>[.blk 40 (Fc s.1),.blk 40 (Fc s.2),.blk 105 (ta t),.blk 66 [.orow 4 7 none],.row false 99 7 (Fo (Mx (Fq t) s (H7 i l)))]) (λi=>l.length-i) (λi=>i<=l.length) 0 (Qh _) rfl (λ_ _=>rfl) (by rw [SL]; rfl) λi hi=>?_
 by_cases hlt:i<l.length
 ·obtain ⟨x,hx⟩:=gxE (l:=l) (i:=i) hlt;have ed1:(U3 l).drop (i+1)=U3 (l.drop (i+1)):=by simp [U3,Vh]
  have hdl:=G7 (l.drop (i+1));have hdl2:(l.drop (i+1)).length<=10:=by rw [Q8]; omega
  rw [<-rS l x i];refine go tt [.t (by simp [hcl]; omega),.x (S5 hx),.r 17 (eI (b:=((i+1:Nat):Int)) (by simp)),.i (i+1),.r 18 (UC ed1)] rfl (by simp [U4,G7,eq_true (p:=∀ z,z∈U3 l->z.length=ti40.sz) (YI l)]; omega) ?_;refine Ui (S:=Nat) 6 (λL1 j=>(20,.v (.oi j))::L1) (λj=>[.blk 40 (Fc s.1),.blk 40 (Fc s.2),.blk 105 (ta t),.blk 66 [.orow 4 7 none],.row false 99 7 (Fo (Mx (Fq t) s (yO l x i j))),.blk 40 (Fc x)]) (λj=>(l.drop (i+1)).length-j) (λj=>j<=(l.drop (i+1)).length) 0 (Qh _) rfl rfl λj hj=>?_
  by_cases hltj:j<(l.drop (i+1)).length
  ·obtain ⟨y,hy⟩:=gxE (l:=(l.drop (i+1))) (i:=j) hltj;have hdn:(Mx (Fq t) s (yO l x i j)).length<=1000000:=by
    refine Qa (II _ _ _) ?_;unfold yO;rw [Qy,Q7,Qq];have:=hpk i hi; omega
   have cn:=Qtr (s:=s) (m:=(x,y)) (L:=Mx (Fq t) s (yO l x i j)) (hl _ hs.1) (hl _ hs.2) (hl x (Qc hx)) (hl y (Qz (Qc hy))) ht hdn;have en1:(if ZF s (x,y)=true then Mx (Fq t) s (yO l x i j)++[Bf (Fq t) s.1 s.2 x y] else Mx (Fq t) s (yO l x i j))=Mx (Fq t) s (yO l x i (j+1)):=by
    rw [rT hy];cases h:ZF s (x,y) with
    | true=>rw [if_pos rfl,Qob h]
    | false=>rw [if_neg (by decide),Qoa h]
   dsimp only at cn;rw [en1] at cn;refine go tt [.T,.x (S5 hy),.c [0,1,2,3,4] cn] rfl (by simp [U4,-List.length_drop]; omega) ?_;exact rd (j+1) (by omega) hltj rfl
  ·have e:=oV hx (J8 hltj);rw [e];refine go tt [.F] rfl (by simp [U4,-List.length_drop]; omega) ?_;exact rd (i+1) (by omega) hlt rfl
 ·obtain rfl:i=l.length:=by omega
  exact Uh [] [0,1,2,3,4] [.f (by simp [hcl])] rfl
theorem IP {l:List Pt} {a:Tm} {c:Cr} {r1:Us} (hl:∀ p∈l,Sc p.c) (hn:l.length≤10) (ha:Va a):U7 prog 198 [.one (.ow 0 0),.agg (ta a)] [.blk 227 (Hm c (U3 l) r1)] [.one (.row (Fo (Lj (Fq a) l)))] [.blk 227 (Hm c (U3 l) (U3 (Om (Fq a) l)))]:=by
 have hcl:=G7 l;refine Fw func198 rfl ?_;by_cases h2:l.length<2
 ·obtain ⟨e1,e2⟩:=Qcv (Fq a) h2;rw [e1,e2];refine Ud [.k Ip] rfl ?_;refine nlc 0 13 rfl rfl rfl ?_;have hml:(l.map Fc).length=l.length:=Q7 _;exact Uh [] [0] [.T] rfl
 ·obtain ⟨x,y,l',rfl⟩:=Qwj h2;obtain ⟨l,hle⟩:=nmE (x::y::l');have hx0:(U3 l)[0]? = some (Fc x):=by rw [hle]; rfl
  have hy0:(U3 l)[1]? = some (Fc y):=by rw [hle]; rfl
  have hxl:x∈l:=by rw [hle]; simp
  have hyl:y∈l:=by rw [hle]; simp
  have eB:Om (Fq a) (x::y::l')=[(Ho (Fq a) (x,y) (Gt l)).1,(Ho (Fq a) (x,y) (Gt l)).2]:=by rw [hle]; rfl
  have eC:Lj (Fq a) (x::y::l')=Mx (Fq a) (Ho (Fq a) (x,y) (Gt l)) (Gt l):=by rw [hle]; rfl
  rw [eB,eC];rw [<-hle] at hl hn h2 hcl ⊢;have c1:=Qft (t:=a) (s0:=(x,y)) hl ⟨hxl,hyl⟩ (by omega) ha;obtain ⟨n1,n2⟩:=Lf (Fq a) (l:=l) (Gt l) (x,y) ⟨hxl,hyl⟩ (S0 _ _);generalize Ho (Fq a) (x,y) (Gt l)=s at *;have c2:=Qfu (t:=a) (s:=s) hl ⟨n1,n2⟩ hn ha;have hml:(l.map Fc).length=l.length:=Q7 _;exact Uh [5] [0] [.k Ip,.F,.x hx0,.x hy0,.c [2,3,1] c1,.oc 8 0 99 7,.c [2,3,1,4,5] c2] rfl
theorem Qtd {T:Nat} {t:Rat} {Bc:Tm->List Ct} {Br:Tm->Us} {r0:Us} (ht:Qs 1640000 t) (hB:BuildOk Bc)
 (hb:∀ a c r1,Va a->CrOk c->U7 prog 198 [.one (.ow 0 0),.agg (ta a)] [.blk T (Hm c r0 r1)] [.one (.row (Fo (Bc a)))] [.blk T (Hm c r0 (Br a))])
 {K:Nat} {c c':Cr} {r1 r1':Us} {n:Int} (hc:CrOk c) (hev:0<=c.ev/\c.ev+K<=1000000000000000000) (h:Fp c.now t<=0) (hg:KI Bc Br t K c r1 0=some (c',r1',n)) :
 U7 prog 396 [.one (.ow 0 0),.agg (rl t),.one (.ofn 198 [.ow 0 0] [])] [.blk T (Hm c r0 r1)] [.oi n,.oi 0] [.blk T (Hm c' r0 r1')]:=by
 have qt:Qb t:=ht.mono (by decide);have c1:=Df hc.n.tb qt;refine Fw func396 rfl ?_;refine Ud [.c [0] (QK hc.n),.k c1,.f (by simpa using h)] rfl ?_;refine Ui (S:=Nat×Cr×Us×Int) 2 (λL1 s=>(8,.v (.oi s.2.2.2))::L1) (λs=>[.blk T (Hm s.2.1 r0 s.2.2.1),.blk 42 (rl t)]) (λs=>s.1) (λs=>CrOk s.2.1/\(0<=s.2.1.ev/\s.2.1.ev+s.1<=1000000000000000000)/\(0<=s.2.2.2/\s.2.2.2+s.1<=1000000000000000000)/\KI Bc Br t s.1 s.2.1 s.2.2.1 s.2.2.2=some (c',r1',n)) (K,c,r1,0) ⟨hc,hev,⟨Int.le_refl 0,by dsimp only; omega⟩,hg⟩ rfl rfl λ⟨k,x,r,m⟩ ⟨j1,j2,j3,j4⟩=>?_
 dsimp only at j1 j2 j3 j4 ⊢;cases k with
 | zero=>cases j4
 |
  succ k =>
  simp only [KI] at j4;obtain ⟨ws,w1,j4⟩:=Qd.1 j4;obtain ⟨o,o1,j4⟩:=Qd.1 j4;have cn:=MX (T:=T) (r0:=r0) (r1:=r) j1 w1 o1;have ca:=VD (U5 t.num) (U5 (t.den:Int)) (Qa ht.1 (by decide)) (Qa ht.2 (by decide)) (by rw [Ts]; exact ht.mono (by decide));rw [Ts] at ca;cases o with
  |
   none =>
   injection j4 with j4; injection j4 with e1 j4; injection j4 with e2 e3;subst e1; subst e2; subst e3;exact Uh [] [0] [.c [0] cn,.g 25 true rfl,.t rfl,.k ca] rfl
  |
   some a =>
   have ha:=LM j1 w1 o1;dsimp only at j4;have cc:=Df ha.tb qt;by_cases h0:0<Fp a t
   ·rw [if_pos h0] at j4;injection j4 with j4; injection j4 with e1 j4; injection j4 with e2 e3;subst e1; subst e2; subst e3;exact Uh [] [0] [.c [0] cn,.g 25 false rfl,.k cc,.t (by simpa using h0),.k ca] rfl
   ·rw [if_neg h0] at j4;obtain ⟨w2,l1,j4⟩:=Qd.1 j4;have j1':=Eo j1 w1;have cl:=S9 (b:=a) (l:=[]) ha.tb (λt ht=>by cases ht) (by decide) rfl;have cb:=hb a { x with l:=ws } r ha j1';have cy:=UY (T:=T) (r0:=r0) (r1:=Br a) j1' ha (hB.p a ha) (hB.n a ha) l1;have hf:decide (0<Fp a t)=false:=by simpa using h0
    refine Ue [.c [0] cn,.g 25 false rfl,.k cc,.f hf,.k cl,.c [0] cb,.c [0] cy] rfl ?_;exact rd (k,⟨a,w2,x.ev+1⟩,Br a,m+1) (by dsimp only; omega) ⟨lay_ok _ j1' ha (hB.p a ha) (hB.n a ha) l1,by dsimp only; omega,by dsimp only; omega,j4⟩ rfl
end Orr
namespace Orr
open Go
def Tj:Uo->Nat
 | []=>0
 | x::l=>x+10000*Tj l
def Dg (l:Uo):Prop:=∀ x∈l,x<10000
def Gj (x:Nat):Uo:=if h:x=0 then [] else (x % 10000)::Gj (x / 10000)
termination_by x
decreasing_by omega
theorem Hx:Gj 0=[]:=by unfold Gj; simp
theorem YU {x:Nat} (h:x≠0):Gj x=(x % 10000)::Gj (x / 10000):=by rw [Gj]; simp [h]
theorem Rf (x:Nat):Tj (Gj x)=x:=by
 induction x using Nat.strongRecOn with
 |
  _ x ih =>
  rcases Q3 x with h | h
  ·subst h; rw [Hx]; rfl
  ·rw [YU (by omega)];simp only [Tj];rw [ih _ (by omega)]; omega
theorem Cg (x:Nat):Dg (Gj x):=by
 induction x using Nat.strongRecOn with
 |
  _ x ih =>
  rcases Q3 x with h | h
  ·subst h; rw [Hx]; intro y hy; cases hy
  ·rw [YU (by omega)];intro y hy;rcases Qm.1 hy with rfl | hy
   ·omega
   ·exact ih _ (by omega) y hy
theorem MR {x:Nat}:(Gj x).length=0↔x=0:=by
 constructor
 ·intro h;have h0:=Qj h;have:=Rf x;rw [h0] at this;exact this.symm
 ·rintro rfl; rw [Hx]; rfl
theorem Ie {x:Nat} (h:x≠0):(Gj (x / 10000)).length+1=(Gj x).length:=by rw [YU h]; rfl
theorem Qbw {x:Nat} (h:x<1000000000000):(Gj x).length<=3:=by
 by_cases h0:x=0
 ·subst h0; rw [Hx]; exact Qh _
 ·have h1:=Ie h0;by_cases h2:x / 10000=0
  ·rw [h2,Hx] at h1; simp at h1; omega
  ·have h3:=Ie h2;by_cases h4:x / 10000 / 10000=0
   ·rw [h4,Hx] at h3; simp at h3; omega
   ·have h5:=Ie h4;have h6:x / 10000 / 10000 / 10000=0:=by omega
    rw [h6,Hx] at h5; simp at h5; omega
theorem Ml (x:Nat):(Gj x).length<=sz x:=by
 induction x using Nat.strongRecOn with
 |
  _ x ih =>
  by_cases h0:x=0
  ·subst h0; rw [Hx]; exact Qh _
  ·have h1:=Ie h0;have h2:=ih (x / 10000) (by omega);have h3:sz (x / 10000)+1<=sz x:=by
    have h4:x<2^sz x:=FG x;rcases hs:sz x with _ | k
    ·rw [hs] at h4; simp at h4; omega
    ·rw [hs] at h4;have:sz (x / 10000)<=k:=Nm.2 (by rw [Zr] at h4; omega);omega
   omega
theorem Pj (a b:Uo):Tj (a++b)=Tj a+10000^a.length*Tj b:=by
 induction a with
 | nil=>simp [Tj]
 |
  cons x a ih =>
  simp only [Xb,Tj,ih,Q5,Zr];rw [Xj,<-Xy,Zq 10000 (10000^a.length)]; omega
theorem Tw {l:Uo} {i x:Nat} (h:l[i]? = some x):Tj (l.take (i+1))=Tj (l.take i)+10000^i*x:=by
 have hi:=(Qf.1 h).1;rw [show l.take (i+1)=l.take i++[x] by rw [Z1,h]; rfl,Pj,Qq,Zx (by omega)];simp [Tj]
theorem CN:∀ {l:Uo},Dg l->Tj l<10000^l.length
 | [],_=>by simp [Tj]
 |
  x::l,h=>by
  have h1:=h x (Qx ..);have h2:=CN (l:=l) λy hy=>h y (Qg _ hy)
  simp only [Tj,Q5,Zr]; omega
theorem CB:∀ {l:Uo},(∀ x∈l,x=0)->Tj l=0
 | [],_=>rfl
 |
  x::l,h=>by
  have h1:=h x (Qx ..);have h2:=CB (l:=l) λy hy=>h y (Qg _ hy)
  simp [Tj,h1,h2]
theorem Dg.take {l:Uo} (h:Dg l) (k:Nat):Dg (l.take k):=λx hx=>h x (Qn hx)
theorem Dg.snoc {l:Uo} (h:Dg l) {x:Nat} (hx:x<10000):Dg (l++[x]):=by
 intro y hy;rcases Qr.1 hy with hy | hy
 ·exact h y hy
 ·rw [Qk.1 hy]; exact hx
theorem Dg.nil:Dg []:=λx h=>by cases h
theorem mT:∀ {l:Uo},Dg l->(∀ x,l[l.length-1]? = some x->x≠0)->l=Gj (Tj l)
 | [],_,_=>by rw [Tj,Hx]
 |
  x::l,h,hl=>by
  have h1:=h x (Qx ..);have h2:l=Gj (Tj l):=mT (λy hy=>h y (Qg _ hy)) λy hy=>hl y (by
   rcases l with _ | ⟨z,t⟩
   ·simp at hy
   ·simpa using hy)
  have h3:x+10000*Tj l≠0:=by
   intro e;have hx:x=0:=by omega
   have hd:Tj l=0:=by omega
   rw [hd,Hx] at h2;subst h2;exact hl x rfl hx
  simp only [Tj];rw [YU h3,show (x+10000*Tj l) % 10000=x by omega,show (x+10000*Tj l) / 10000=Tj l by omega,<-h2]
theorem uU {l:Uo} {m:Nat} (hd:Dg l) (hm:m<=l.length) (h1:∀ j x,m<=j->l[j]? = some x->x=0) (h2:0<m->∃ y,l[m-1]? = some y/\y≠0):l.take m=Gj (Tj l):=by
 have e:Tj l=Tj (l.take m):=by
  conv=>lhs; rw [<-Zh m l,Pj]
  rw [CB (l:=l.drop m) λx hx=>?_]
  ·omega
  ·obtain ⟨j,hj⟩:=Zk.1 hx;rw [Xc] at hj;exact h1 (m+j) x (by omega) hj
 rw [e];refine mT (hd.take m) λx hx=>?_
 have hl:(l.take m).length=m:=by rw [Qq]; omega
 rw [hl] at hx;rcases Q3 m with h0 | h0
 ·subst h0; simp at hx
 ·obtain ⟨y,hy,hy0⟩:=h2 h0;rw [Kf (by omega),hy] at hx;injection hx with hx; rw [<-hx]; exact hy0
theorem OZ {o c i d m P V:Nat} (hP:P=10000^i) (h:o+c*P=V):o+P*((c+d*m) % 10000)+(c+d*m) / 10000*(P*10000)=V+P*d*m:=by
 have e:=Xe (c+d*m) 10000;generalize (c+d*m) / 10000=q at *;generalize (c+d*m) % 10000=r at *;have e2:P*(c+d*m)=P*(10000*q+r):=by rw [e]
 grind
theorem ZO {x y:Nat} (h:x<=y):(Gj x).length<=(Gj y).length:=by
 induction y using Nat.strongRecOn generalizing x with
 |
  _ y ih =>
  by_cases h0:x=0
  ·subst h0; rw [Hx]; exact Qh _
  ·have h1:=Ie h0;have h2:=Ie (x:=y) (by omega);have:=ih (y / 10000) (by omega) (x:=x / 10000) (Nat.div_le_div_right h);omega
theorem Qbv {n x:Nat} (h:10000^n<=x):n+1<=(Gj x).length:=by
 have h1:=CN (Cg x);rw [Rf] at h1;have h2:n<(Gj x).length:=(Nat.pow_lt_pow_iff_right (by decide)).1 (Z3 h h1);omega
theorem uK {x y:Nat} (h:(Gj x).length<(Gj y).length):x<y:=by
 rcases Zb x y with h1 | h1
 ·exact h1
 ·have:=ZO h1; omega
theorem Qbx {k y:Nat} (h:y<10000^k):(Gj y).length<=k:=by
 induction k generalizing y with
 |
  zero =>
  have:y=0:=by simpa using h
  subst this; rw [Hx]; exact Ql _
 |
  succ k ih =>
  by_cases hy0:y=0
  ·subst hy0; rw [Hx]; exact Qh _
  ·have h8:=Ie hy0;have:=ih (y:=y / 10000) (by rw [Zr] at h; omega);omega
theorem Qgp {o:Uo} (h:Dg o) (hl:o.length<=(Gj (Tj o)).length):o=Gj (Tj o):=by
 refine mT h λx hx h0=>?_
 subst h0;have hne:0<o.length:=by
  rcases o with _ | ⟨a,o⟩
  ·simp at hx
  ·simp
 have h1:Tj o=Tj (o.take (o.length-1)):=by
  have:=Tw hx;rw [show o.length-1+1=o.length by omega,Q6] at this;omega
 have h2:=CN (h.take (o.length-1));rw [<-h1,Qq,Zx (by omega)] at h2;have:=Qbx h2;omega
theorem XX {l:Uo} {j d:Nat} (h:l[j]? = some d):Tj (l.drop j)=d+10000*Tj (l.drop (j+1)):=by
 obtain ⟨hj,he⟩:=Qf.1 h;rw [Zp hj,he]; rfl
theorem HE {l:Uo} {j y:Nat} (h:j<l.length):(l.set j y).drop j=y::l.drop (j+1):=by
 rw [Zp (by simpa using h)];simp only [List.getElem_set_self];rw [List.drop_set_of_lt (by omega)]
theorem Dg.set {l:Uo} (h:Dg l) {j y:Nat} (hy:y<10000):Dg (l.set j y):=by
 intro x hx;rcases Jp hx with hx | rfl
 ·exact h x hx
 ·exact hy
theorem Dg.zeros (n:Nat):Dg (List.replicate n 0):=by
 intro x hx; rw [Zw hx]; decide
theorem uG {V kd d:Nat} (hk:0<kd):(d+10000*V) / kd=(V % kd*10000+d) / kd+10000*(V / kd)/\(d+10000*V) % kd=(V % kd*10000+d) % kd/\(d<10000->(V % kd*10000+d) / kd<10000):=by
 have e:=Xe V kd;have e2:d+10000*V=(V % kd*10000+d)+kd*(10000*(V / kd)):=by
  conv=>lhs; rw [<-e]
  grind
 refine ⟨?_,?_,λhd=>?_⟩
 ·rw [e2,Wc _ _ hk]
 ·rw [e2,Ka]
 ·have:=Z4 V hk;exact (Vv hk).2 (by grind)
theorem MS (l:Uo) (j:Nat) (h:j<=l.length):Tj l=Tj (l.take j)+10000^j*Tj (l.drop j):=by
 conv=>lhs; rw [<-Zh j l,Pj]
 rw [Qq,Zx h]
theorem CG {a b:Uo} {j d e:Nat} (ha:Dg a) (hd:a[j]? = some d) (he:b[j]? = some e) (hs:a.drop (j+1)=b.drop (j+1)) (h:d<e):Tj a<Tj b:=by
 have h1:=(Qf.1 hd).1;have h2:=(Qf.1 he).1;rw [MS a j (by omega),MS b j (by omega),XX hd,XX he,hs];have h3:=CN (ha.take j);rw [Qq,Zx (by omega)] at h3;generalize 10000^j=P at *;have h4:P*(d+10000*Tj (b.drop (j+1)))+P<=P*(e+10000*Tj (b.drop (j+1))):=by
  rw [<-W4]; exact Zu _ (by omega)
 omega
def dl (l:Uo):LV:=.row (l.map λ(x:Nat)=>[.int .i64 (x:Int)])
theorem T0 (l:Uo):(l.map λ(x:Nat)=>[LV.int .i64 (x:Int)]).length=l.length:=by simp
theorem Gz {l:Uo} {i x:Nat} (h:l[i]? = some x):(l.map λ(x:Nat)=>[LV.int .i64 (x:Int)])[i]? = some [.int .i64 (x:Int)]:=by rw [Q9,h]; rfl
abbrev nd (x:Nat):LV:=dl (Gj x)
end Orr
namespace Orr
open Go Go.Proofs Tryz
set_option maxRecDepth 10000
abbrev Bt (l:Uo):Us:=l.map λ(x:Nat)=>[.int .i64 (x:Int)]
theorem Qub (l:Uo):∀ c∈Bt l,c.length=1:=λc hc=>by obtain ⟨x,_,rfl⟩:=Za.1 hc; rfl
theorem HM {l:Uo} (hd:Dg l):Uj 214 [.one (.row (Bt l))] [.one (nd (Tj l))]:=by
 refine Fw func214 rfl (ln 0 rfl rfl λhl=>?_);rw [Q7] at hl;refine Ud [] rfl ?_;refine lp (S:=Nat) 0 (λL1 n=>(3,.v (.oi n))::L1) (λ_=>[]) id (λn=>n<=l.length/\∀ j x,n<=j->l[j]? = some x->x=0) (Bt l).length ⟨by simp,λj x h1 h2=>by
  have:=(Qf.1 h2).1; simp at h1; omega⟩ rfl (λ_ _=>rfl) rfl λn ⟨h1,h2⟩=>?_
 cases n with
 | zero=>exact Uf [.g 8 false (by simp),.f rfl,.i 0] rfl (by have:=uU hd h1 h2 (λh=>by omega); unfold nd; rw [<-this]; simp [dl]) (by simp [U4])
 |
  succ n =>
  obtain ⟨x,hx⟩:=gxE (l:=l) (i:=n) (by omega);by_cases h0:x=0
  ·refine Ue [.g 8 true (by simp),.r 11 (v:=.oi n) (by simp),.x (Gz hx),.t (by simp [h0]),.r 17 (v:=.oi n) (by simp)] rfl ?_;exact rd n (by simp) ⟨by omega,λj y h3 h4=>by
    rcases Vk h3 with rfl | h3
    ·rw [hx] at h4; injection h4 with h4; rw [<-h4,h0]
    ·exact h2 j y h3 h4⟩ rfl
  ·exact Uf [.g 8 true (by simp),.r 11 (v:=.oi n) (by simp),.x (Gz hx),.f (by simp [h0]),.i (n+1)] rfl (by have:=uU hd h1 h2 (λ_=>⟨x,hx,h0⟩); unfold nd; rw [<-this]; simp [dl,List.map_take]) (by simp [U4] <;> omega)
theorem lL {x kd:Nat} (hxs:sz x<=100000000) (hk:0<kd/\kd<=65536):Uj 179 [.one (nd x),.oi kd] [.one (nd (x / kd)),.oi ((x % kd:Nat):Int)]:=by
 have hln:=Qa (Ml x) hxs;obtain ⟨l,hl⟩:=nmE (Gj x);have hx:Tj l=x:=by rw [hl,Rf]
 have hd:Dg l:=by rw [hl]; exact Cg x
 show Uj 179 [.one (.row (Bt (Gj x))),.oi kd] _;rw [<-hl] at hln ⊢;rw [<-hx];have hll:=T0 l;refine Fw func179 rfl ?_;refine Ue [.i (Bt l).length,.i (Bt l).length] rfl ?_;rw [hll,show List.replicate l.length [LV.int .i64 0]=Bt (List.replicate l.length 0) from by simp [Bt]];refine Ui (S:=Nat×Uo×Nat) 1 (λL1 s=>(8,.v (.oi ((s.1:Int)-1)))::(7,.v (.oi (s.2.2:Int)))::L1) (λs=>[.row false 3 1 (Bt s.2.1)]) (λs=>s.1) (λs=>s.1<=l.length/\s.2.1.length=l.length/\Dg s.2.1/\Tj (s.2.1.drop s.1)=Tj (l.drop s.1) / kd/\s.2.2=Tj (l.drop s.1) % kd) (l.length,List.replicate l.length 0,0) ⟨Ql _,by simp,Dg.zeros _,by simp [Tj],by simp [Tj]⟩ rfl rfl λ⟨k,o,R⟩ ⟨j1,j2,j3,j4,hR⟩=>?_
 dsimp only at j1 j2 j3 j4 hR ⊢;cases k with
 |
  zero =>
  have cc:=HM j3;rw [Xx,Xx] at j4;rw [j4] at cc;exact Uf [.f (by simp),.k cc] rfl (by rw [hR,Xx]) trivial
 |
  succ k =>
  obtain ⟨d,hdk⟩:=gxE (l:=l) (i:=k) (by omega);have hd0:=hd d (Qc hdk);have hdd:=XX hdk;obtain ⟨s1,s2,s3⟩:=uG (V:=Tj (l.drop (k+1))) (kd:=kd) (d:=d) hk.1;rw [<-hdd] at s1 s2;have hr:=Z4 (Tj (l.drop (k+1))) hk.1;rw [<-hR] at s1 s2 s3 hr;have e:((k+1:Nat):Int)-1=(k:Int):=by omega
  have htd:((R:Int)*10000+(d:Int)).tdiv (kd:Int)=(((R*10000+d) / kd:Nat):Int):=rfl;have hle:=Jq (R*10000+d) kd;have htb:0<=((R:Int)*10000+(d:Int)).tdiv (kd:Int)/\((R:Int)*10000+(d:Int)).tdiv (kd:Int)<=655369999:=by
   rw [htd]; revert hle; generalize (R*10000+d) / kd=Q; intro hle; omega
  rw [e];refine Ue [.t (by simp),.x (Gz hdk),.r 26 (eI (b:=((R*10000+d:Nat):Int)) (by omega)),.r 31 (eI (b:=(((R*10000+d) / kd:Nat):Int)) (by rfl)),.i k,.r 35 (eI (b:=(((R*10000+d) % kd:Nat):Int)) (by rfl))] rfl ?_;exact rd (k,o.set k ((R*10000+d) / kd),(R*10000+d) % kd) (by dsimp only; omega) ⟨by dsimp only; omega,by simp [j2],j3.set (s3 hd0),by dsimp only; rw [HE (by omega)]; simp only [Tj]; rw [j4,s1],by dsimp only; exact s2.symm⟩ (by simp [Bt,List.map_set]; rfl)
theorem Qwf (x k:Nat):sz (x / k)<=sz x:=Ri (Jq _ _)
theorem nS {x y:Nat} {o:Uo} (h:Gd x=o++Gd y) (h0:y≠0):Gd x=(o++[y % 4294967296])++Gd (y / 4294967296):=by
 rw [h,E5 h0]; simp
theorem Qoy (o:Uo) (z:Nat):lm (o++[z])=lm o++[[.int .u32 (z:Int)]]:=by simp [lm]
theorem Qxs {x:Nat} (hx:sz x<=100000000):Uj 107 [.one (nd x)] [lr (Gd x)]:=by
 have hlx:=Td hx;refine Fw func107 rfl ?_;refine Ud [.o 3 151 1] rfl ?_;refine Ui (S:=Nat×Uo) 1 (λL1 s=>(0,.v (.one (nd s.1)))::(3,.v (.one (.orow 0 1 none)))::L1) (λs=>[.row false 151 1 (lm s.2)]) (λs=>s.1) (λs=>Gd x=s.2++Gd s.1/\s.1<=x) (x,[]) ⟨rfl,Ql _⟩ rfl rfl λ⟨y,o⟩ ⟨j1,j2⟩=>?_
 dsimp only at j1 j2 ⊢;by_cases h0:y=0
 ·subst h0;rw [Hb,Zv] at j1;rw [j1];exact Uf [.f (by simp [Hx])] rfl
 ·have hs:=nS j1 h0;have hsy:sz y<=100000000:=Qa (Ri j2) hx;have c1:=lL (x:=y) (kd:=65536) hsy (by decide);have c2:=lL (x:=y / 65536) (kd:=65536) (Qa (Qwf _ _) hsy) (by decide);have hl:(Gj y).length≠0:=λh=>h0 (MR.1 h)
  have ol:o.length<=(Gd x).length:=by rw [j1]; simp
  have e:y / 65536 % 65536*65536+y % 65536=y % 4294967296:=by omega
  have e2:y / 65536 / 65536=y / 4294967296:=by omega
  refine go tt [.t (by simp; omega),.k c1,.k c2,.r 26 (Ek (b:=((y % 4294967296:Nat):Int)) (by omega)),.s (sz:=1) (l:=[[.int .u32 ((y % 4294967296:Nat):Int)]]) (λc hc=>by rw [Qk.1 hc]; rfl)] rfl (by simp [U4,U8]; omega) ?_;rw [<-e2] at hs;exact rd (y / 65536 / 65536,o++[y % 4294967296]) (by dsimp only; omega) ⟨hs,by dsimp only; omega⟩ (by rw [Qoy]; rfl)
abbrev ri (z:Int):Ur:=[nd z.natAbs,sg z]
theorem Qys (b:Bool) (m:Nat):[nd m,LV.bool (b && decide (0<m))]=ri (Fb b m):=by
 simp only [ri,sg,Rt,LN]
theorem Qvk (x:Nat):(0<(Gj x).length)↔0<x:=by
 have:=MR (x:=x); omega
theorem Nt (b:Bool) (m:Nat):Uj 108 [.one (nd m),.one (.bool b)] [.agg (ri (Fb b m))]:=by
 rw [<-Qys];have e:=Qvk m;cases b with
 | false=>exact Ug func108 rfl [.g 7 false rfl] rfl
 | true=>exact Ug func108 rfl [.g 7 true rfl] rfl (by simp [e]) trivial
theorem Dt {z:Int}:Uj 136 [.agg (ri z)] [.one (.bool (decide (z=0)))] :=
 Ug func136 rfl [] rfl (by have h:=MR (x:=z.natAbs); simp only [T0]; congr 3; rw [decide_eq_decide]; omega) trivial
theorem QW {z:Int}:Uj 137 [.agg (ri z)] [.agg (ri (-z))]:=by
 have h:=Nt (!decide (z<0)) z.natAbs;have e:Fb (!decide (z<0)) z.natAbs=-z:=by unfold Fb; by_cases h:z<0 <;> simp [h] <;> omega
 rw [e] at h;exact Ug func137 rfl [.k h] rfl
theorem Qtq {z:Int} (hz:Fe z<=100000000):Uj 45 [.agg (ri z)] [.agg (Hg z)] :=
 Ug func45 rfl [.k (Qxs hz)] rfl
theorem eBo {a b:Bool} (h:a=b):TV.one (LV.bool a)=.one (.bool b):=h ▸ rfl
theorem Ig (l:Uo) (x:Nat):Bt (l++[x])=Bt l++[[.int .i64 (x:Int)]]:=by simp [Bt]
theorem uW {x y:Nat} {o:Uo} (h:Gj x=o++Gj y) (h0:y≠0):Gj x=(o++[y % 10000])++Gj (y / 10000):=by
 rw [h,YU h0]; simp
theorem Qts {b:Bool} {x:Nat} (hx:x<=4000000000000000000) (hb:b=true->0<x):Uj 46 [.oi (Fb b x)] [.agg (ri (Fb b x))]:=by
 have hl:(Gj x).length<=100:=by
  have:=Ml x;have h2:sz x<=64:=Nm.2 (by omega);omega
 have hm:=Nt b x;refine Fw func46 rfl ?_;cases b with
 |
  false =>
  show AK prog _ _ _ (VC 0 [.oi x]) [];refine Ud [.f (by simp <;> omega),.r 3 (eBo (b:=false) (by simp)),.f rfl,.o 4 3 1] rfl ?_;refine Ui (S:=Nat×Uo) 2 (λL1 s=>(0,.v (.oi (s.1:Int)))::(4,.v (.one (.orow 1 1 none)))::L1) (λs=>[.blk 49 [.nils,.bool false],.row false 3 1 (Bt s.2)]) (λs=>s.1) (λs=>Gj x=s.2++Gj s.1/\s.1<=x) (x,[]) ⟨rfl,Ql _⟩ rfl rfl λ⟨y,o⟩ ⟨j1,j2⟩=>?_
  dsimp only at j1 j2 ⊢;by_cases h0:y=0
  ·subst h0;rw [Hx,Zv] at j1;rw [<-j1];exact Uf [.f (by simp),.k hm] rfl
  ·have hs:=uW j1 h0;have ol:o.length<=(Gj x).length:=by rw [j1]; simp
   refine go tt [.t (by simp; omega),.r 18 (eI (b:=((y % 10000:Nat):Int)) (by rfl)),.s (sz:=1) (l:=[[.int .i64 ((y % 10000:Nat):Int)]]) (λc hc=>by rw [Qk.1 hc]; rfl),.r 22 (eI (b:=((y / 10000:Nat):Int)) (by rfl))] rfl (by simp [U4,T0]; omega) ?_;exact rd (y / 10000,o++[y % 10000]) (by dsimp only; omega) ⟨hs,by dsimp only; omega⟩ (by rw [Ig]; rfl)
 |
  true =>
  show AK prog _ _ _ (VC 0 [.oi (-(x:Int))]) [];refine Ue [.f (by simp <;> omega),.r 3 (eBo (b:=true) (by simpa using hb rfl)),.t rfl,.r 0 (eI (b:=(x:Int)) (by omega)),.o 4 3 1] rfl ?_;refine Ui (S:=Nat×Uo) 2 (λL1 s=>(0,.v (.oi (s.1:Int)))::(4,.v (.one (.orow 1 1 none)))::L1) (λs=>[.blk 49 [.nils,.bool false],.row false 3 1 (Bt s.2)]) (λs=>s.1) (λs=>Gj x=s.2++Gj s.1/\s.1<=x) (x,[]) ⟨rfl,Ql _⟩ rfl rfl λ⟨y,o⟩ ⟨j1,j2⟩=>?_
  dsimp only at j1 j2 ⊢;by_cases h0:y=0
  ·subst h0;rw [Hx,Zv] at j1;rw [<-j1];exact Uf [.f (by simp),.k hm] rfl
  ·have hs:=uW j1 h0;have ol:o.length<=(Gj x).length:=by rw [j1]; simp
   refine go tt [.t (by simp; omega),.r 18 (eI (b:=((y % 10000:Nat):Int)) (by rfl)),.s (sz:=1) (l:=[[.int .i64 ((y % 10000:Nat):Int)]]) (λc hc=>by rw [Qk.1 hc]; rfl),.r 22 (eI (b:=((y / 10000:Nat):Int)) (by rfl))] rfl (by simp [U4,T0]; omega) ?_;exact rd (y / 10000,o++[y % 10000]) (by dsimp only; omega) ⟨hs,by dsimp only; omega⟩ (by rw [Ig]; rfl)
theorem ZL {n:Int} (hn:-4000000000000000000<=n/\n<=4000000000000000000):Uj 46 [.oi n] [.agg (ri n)]:=by
 have e:Fb (decide (n<0)) n.natAbs=n:=by unfold Fb; by_cases h:n<0 <;> simp [h] <;> omega
 have h:=Qts (b:=decide (n<0)) (x:=n.natAbs) (by omega) (λh=>by have:=of_decide_eq_true h; omega);rwa [e] at h
abbrev fr (q:Rat):Ur:=ri q.num++ri (q.den:Int)
theorem If:Gj 1=[1]:=by rw [YU (by decide)]; rw [Hx]
theorem Ac {n:Int}:Uj 68 [.agg (ri n),.agg (ri 1)] [.agg (fr (n:Rat))]:=by
 have h0:(Bt (Gj (1:Int).natAbs))[0]? = some [LV.int .i64 1]:=by rw [show (1:Int).natAbs=1 from rfl,If]; rfl
 have h1:decide (((Bt (Gj (1:Int).natAbs)).length:Int)=1)=true:=by rw [show (1:Int).natAbs=1 from rfl,If]; rfl
 exact Ug func68 rfl [.k (Dt (z:=1)),.f rfl,.f rfl,.g 19 true h1,.x h0,.t rfl] rfl
theorem KU {n:Int} (hn:-4000000000000000000<=n/\n<=4000000000000000000):Uj 15 [.oi n,.oi 1] [.agg (fr (n:Rat))] :=
 Ug func15 rfl [.k (ZL hn),.k (ZL (n:=1) (by decide)),.k Ac] rfl
theorem IB {q:Rat} (hq:Qs 100000000 q):Uj 14 [.agg (fr q)] [.agg (rl q)] :=
 Ug func14 rfl [.k (Qtq hq.1),.k (Qtq hq.2)] rfl
end Orr
namespace Orr
open Go Go.Proofs Tryz Orq
set_option maxRecDepth 10000
theorem I2 {a:Tm} (ha:Va a):UR a a=some 0:=by
 obtain ⟨c,c1,c2⟩:=UT ha ha;rcases c2 with ⟨_,h⟩ | ⟨e,_⟩ | ⟨_,h⟩
 ·exact absurd h λh=>Iv ha.cut ha.cut h h
 ·rw [c1,e]
 ·exact absurd h λh=>Iv ha.cut ha.cut h h
theorem xN {c:Cr} {l l':List Pt} {r1:Us} {ws:List Wt} (hc:CrOk c) (hl:∀ p∈l',Sc p.c) (hn:l'.length≤1000) (h:Tl c.l c.now (Fx (JA l' c.now))=some ws) :
 U7 prog 397 [.one (.ow 0 0),.agg [pts l'],.oi 0] [.blk 220 (Hm c (U3 l) r1)] [.oi 0] [.blk 220 (Hm ⟨c.now,ws,c.ev⟩ (U3 l') (IG l' c.now))]:=by
 have hB:=pX hl hn;have cn:=QK (T:=220) (c:=c) (r0:=U3 l') (r1:=r1) hc.n;have cb:=IM (c:=c) (r1:=r1) hl hn hc.n;have cg:=YZ (T:=220) (r0:=U3 l') (r1:=IG l' c.now) hc hc.n (I2 hc.n) (Yd 0) (hB.p _ hc.n) (hB.n _ hc.n) h;refine Fw func397 rfl ?_;exact Uh [] [0] [.f rfl,.c [0] cn,.c [0] cb,.c [0] cg] rfl
theorem Qtn {c:Cr} {l s:List Pt} (hs:s.length<=1000000):U7 prog 81 [.one (.ow 0 0)] [.blk 220 (Hm c (U3 l) (U3 s))] [.one (ids (s.map (·.id)))] [.blk 220 (Hm c (U3 l) (U3 s))]:=by
 have hcl:=G7 s;refine Fw func81 rfl ?_;refine Ud [.o 3 3 1] rfl ?_;refine Ui (S:=Nat) 2 (λL1 i=>(11,.v (.oi i))::(3,.v (.one (.orow 1 1 none)))::L1) (λi=>[.blk 220 (Hm c (U3 l) (U3 s)),.row false 3 1 (((s.take i).map (·.id)).map λ(z:Int)=>[LV.int .i64 z])]) (λi=>s.length-i) (λi=>i<=s.length) 0 (Qh _) rfl rfl λi hi=>?_
 by_cases hlt:i<s.length
 ·obtain ⟨p,hp⟩:=gxE (l:=s) (i:=i) hlt;have hg:(((s.take (i+1)).map (·.id)).map λ(z:Int)=>[LV.int .i64 z])=(((s.take i).map (·.id)).map λ(z:Int)=>[LV.int .i64 z])++[[.int .i64 p.id]]:=by
   rw [Z1,hp]; simp
  refine Ue [.t (by simp [hcl]; omega),.x (S5 hp),.s (sz:=1) (l:=[[.int .i64 p.id]]) (λc hc=>by rw [Qk.1 hc]; rfl)] rfl ?_;exact rd (i+1) (by omega) hlt (by rw [hg]; rfl)
 ·obtain rfl:i=s.length:=by omega
  rw [Q6];exact Uh [1] [0] [.f (by simp [hcl])] rfl
theorem Qto {lx ly:Us} {px py:Um} {x y:LV} {d id:Int} {c:Cr} {l:List Pt} {r1:Us} {ws:List Wt} (hx:IsInts lx px) (hy:IsInts ly py) (hd:Ge x y d) (hk:Cs 4294967294 1073741824 (Crv.mk px py d)) (hll:l.length<=900)
 (he:WH l ⟨Crv.norm (Crv.mk px py d),id⟩=0) (hc:CrOk c) (hl:∀ p∈put l ⟨Crv.norm (Crv.mk px py d),id⟩,Sc p.c) (hn:(put l ⟨Crv.norm (Crv.mk px py d),id⟩).length≤1000) (h:Tl c.l c.now (Fx (JA (put l ⟨Crv.norm (Crv.mk px py d),id⟩) c.now))=some ws) :
 U7 prog 393 [.one (.ow 0 0),.agg [.row lx,.row ly,x,y,.int .i64 id]] [.blk 220 (Hm c (U3 l) r1)] [.oi 0] [.blk 220 (Hm ⟨c.now,ws,c.ev⟩ (U3 (put l ⟨Crv.norm (Crv.mk px py d),id⟩)) (IG (put l ⟨Crv.norm (Crv.mk px py d),id⟩) c.now))]:=by
 have cp:=wF (l:=l) (id:=id) hx hy hd hk (by omega);rw [if_pos he,he] at cp;have cw:=xN (l:=l) (r1:=r1) hc hl hn h;refine Fw func393 rfl ?_;obtain ⟨b,l',rfl,rfl,_⟩:=hd;exact Uh [] [0] [.k cp,.c [0] cw] rfl
theorem Qtm {t:Rat} {l:List Pt} {K:Nat} {c c':Cr} {r1 r1':Us} {n:Int} (ht:Qs 1640000 t) (hl:∀ p∈l,Sc p.c) (hn:l.length≤1000) (hc:CrOk c) (hev:0≤c.ev/\c.ev+K≤1000000000000000000) (h:Fp c.now t≤0) (hg:KI (JA l) (IG l) t K c r1 0=some (c',r1',n)) :
 U7 prog 388 [.one (.ow 0 0),.agg (rl t)] [.blk 220 (Hm c (U3 l) r1)] [.oi n,.oi 0] [.blk 220 (Hm c' (U3 l) r1')]:=by
 have cg:=Qxk (T:=220) (r0:=U3 l) ht (pX hl hn) (λa c r1 ha _=>IM (c:=c) (r1:=r1) hl hn ha) hc hev h hg;refine Fw func388 rfl ?_;exact Uh [] [0] [.k (Nu (ht.mono (by decide))),.c [0] cg] rfl
theorem Qe7 {c:Cr} {r0 r1:Us}:U7 prog 63 [.one (.ow 0 0)] [.blk 220 (Hm c r0 r1)] [.one (.ow 1 0)] [.blk 220 (Hm c r0 r1),.blk 220 (Hm c r0 r1)]:=by
 refine Fw func63 rfl ?_;exact Uh [] [0,1] [] rfl
abbrev idl (l:Um):Us:=l.map λ(z:Int)=>[.int .i64 z]
theorem MB {l:Um} {i:Nat} {z:Int} (h:l[i]? = some z):(idl l)[i]? = some [.int .i64 z]:=G6 h
theorem pL {a b:Um} (ha:a.length<=1000000) (hb:b.length<=1000000):Uj 40 [.one (ids a),.one (ids b)] [.one (.bool (decide (a=b)))]:=by
 show Uj 40 [.one (.row (idl a)),.one (.row (idl b))] _;have la:(idl a).length=a.length:=by simp
 have lb:(idl b).length=b.length:=by simp
 refine Fw func40 rfl ?_;by_cases hl:a.length=b.length
 ·refine Ud [.f (by simp; omega)] rfl ?_;refine Ui (S:=Nat) 0 (λL1 i=>(5,.v (.oi i))::L1) (λ_=>[]) (λi=>a.length-i) (λi=>i<=a.length/\a.take i=b.take i) 0 ⟨Qh _,rfl⟩ rfl rfl λi ⟨hi,he⟩=>?_
  by_cases hlt:i<a.length
  ·obtain ⟨x,hx⟩:=gxE (l:=a) (i:=i) hlt;obtain ⟨y,hy⟩:=gxE (l:=b) (i:=i) (by omega);by_cases e:x=y
   ·refine Ue [.t (by simp; omega),.x (MB hx),.x (MB hy),.f (by simpa using e)] rfl ?_;exact rd (i+1) (by omega) ⟨hlt,by rw [Z1,Z1,hx,hy,he,e]⟩ rfl
   ·have hne:a≠b:=λh=>by rw [h,hy] at hx; injection hx with hx; exact e hx.symm
    exact Uf [.t (by simp; omega),.x (MB hx),.x (MB hy),.t (by simpa using e)] rfl (by simp [hne]) trivial
  ·obtain rfl:i=a.length:=by omega
   have hab:a=b:=by rw [Q6] at he; rw [he,hl,Q6]
   exact Uf [.f (by simp)] rfl (by simp [hab]) trivial
 ·have hne:a≠b:=λh=>hl (by rw [h])
  exact Uf [.t (by simp; omega)] rfl (by simp [hne]) trivial
def S6 (v n:Int):Int:=if n<1 then 0 else v.emod n
theorem Qdf {v n:Int} (h:0<n):(if v.tmod n<0 then v.tmod n+n else v.tmod n)=v % n:=by
 have h3:=Ye v (show n≠0 by omega);have h4:=Js v h;have h1:=Int.tmod_eq_emod (a:=v) (b:=n);have hn:((n.natAbs:Nat):Int)=n:=by omega
 split at h1
 ·rw [h1]; simp; omega
 ·rename_i hc;rw [h1,hn];have:v % n≠0:=λe=>hc (.inr (Vf e))
  rw [if_pos (by omega)]; omega
theorem Cd {v n:Int} (hv:-9223372036854775808<=v/\v<=9223372036854775807) (hn:n<=1000000000):Uj 16 [.oi v,.oi n] [.oi (S6 v n)]:=by
 unfold S6;by_cases h:n<1
 ·rw [if_pos h];exact Ug func16 rfl [.t (by simpa using h)] rfl
 ·rw [if_neg h];have e:=Qdf (v:=v) (n:=n) (by omega);have h3:=Ye v (show n≠0 by omega);have h4:=Js v (show 0<n by omega);show Uj 16 [.oi v,.oi n] [.oi (v % n)];by_cases h0:v.tmod n<0
  ·rw [if_pos h0] at e;have b:-n<=v.tmod n:=by omega
   exact Ug func16 rfl [.f (by simpa using h),.t (by simpa using h0)] rfl (by rw [e]) (by simp [U4]; omega)
  ·rw [if_neg h0] at e;exact Ug func16 rfl [.f (by simpa using h),.f (by simpa using h0)] rfl (by rw [e]) (by simp [U4]; omega)
end Orr
namespace Orr
open Go Go.Proofs Tryz Orq
theorem tW {x y:Int} (hx:-9223372036854775808<=x/\x<=9223372036854775807) (hy:-9223372036854775808<=y/\y<=9223372036854775807):Sc (O7 x y):=⟨Crv.nml _,((uJ hx hy).norm (by decide)).mono (by decide) (by decide)⟩
theorem Sc.pt {p:Pt} (h:Sc p.c):Qaq 4294967294 1073741824 p:=⟨h.n,h.c.mono (by decide) (by decide)⟩
end Orr
namespace Orr
open Go Go.Proofs Tryz Orq
set_option maxRecDepth 10000
def dL (l:List Pt) (a:Tm):List Ct:=Lj (Fq a) l
abbrev brP (l:List Pt) (a:Tm):Us:=U3 (Om (Fq a) l)
theorem dE {l:List Pt} {a:Tm}:∀ x∈dL l a,x.p∈AM l:=λx hx=>by
 match l,hx with
 |
  u::v::l',hx =>
  unfold dL at hx;simp only [Lj] at hx;obtain ⟨h3,h4⟩:=Lf (Fq a) (l:=u::v::l') (Gt (u::v::l')) (u,v) ⟨by simp,by simp⟩ (S0 _ _);obtain ⟨m,hm,rfl⟩:=OQ hx;obtain ⟨h1,h2⟩:=S0 _ _ m hm;rw [LF];exact NB h3 h4 h1 h2
theorem Qd4 {l:List Pt} (hl:∀ p∈l,Sc p.c) (hn:l.length≤10):BuildOk (dL l) :=
 ⟨λ_ _ x hx=>UQ hl _ (dE x hx),λa _=>by
  have:=qC (Fq a) l;have:l.length*l.length<=10*10:=Zc hn hn;show (Lj (Fq a) l).length<=1000;omega⟩
def Qxe (l:List Pt) (a:Tm):Cr:=⟨a,(Fx (dL l a)).map fresh,0⟩
theorem Qmz {t:Rat} {l:List Pt} {K:Nat} {c c':Cr} {r1 r1':Us} {n:Int} (ht:Qs 1640000 t) (hl:∀ p∈l,Sc p.c) (hn:l.length≤10) (hc:CrOk c) (hev:0≤c.ev/\c.ev+K≤1000000000000000000) (h:Fp c.now t≤0) (hg:KI (dL l) (brP l) t K c r1 0=some (c',r1',n)) :
 U7 prog 427 [.one (.ow 0 0),.agg (rl t)] [.blk 227 (Hm c (U3 l) r1)] [.oi n,.oi 0] [.blk 227 (Hm c' (U3 l) r1')]:=by
 have cg:=Qtd (T:=227) (r0:=U3 l) ht (Qd4 hl hn) (λa c r1 ha _=>IP (c:=c) (r1:=r1) hl hn ha) hc hev h hg;refine Fw func427 rfl ?_;exact Uh [] [0] [.k (Nu (ht.mono (by decide))),.c [0] cg] rfl
theorem lU {c:Cr} {r0:Us} {a b:Pt}:U7 prog 85 [.one (.ow 0 0)] [.blk 227 (Hm c r0 (U3 [a,b]))] [.oi a.id,.oi b.id,.one (.bool true)] [.blk 227 (Hm c r0 (U3 [a,b]))]:=by
 refine Fw func85 rfl ?_;exact Uh [] [0] [.f rfl,.x (l:=U3 [a,b]) (i:=0) (xs:=Fc a) rfl,.x (l:=U3 [a,b]) (i:=1) (xs:=Fc b) rfl] rfl
theorem wU {c:Cr} {r0:Us}:U7 prog 85 [.one (.ow 0 0)] [.blk 227 (Hm c r0 [])] [.oi 0,.oi 0,.one (.bool false)] [.blk 227 (Hm c r0 [])]:=by
 refine Fw func85 rfl ?_;exact Uh [] [0] [.t rfl] rfl
end Orr
namespace Orr
open Go
def PP (q:Um->Int) (a b:Pt):Pt×Pt:=if Ca q a b=true then (a,b) else (b,a)
def Ow (q:Um->Int):Nat->List Pt->List Pt×List (Pt×Pt)
 | 0,l=>(l,[])
 |
  k+1,l=>if l.length<2 then (l,[]) else
  match (Ow q k (l.take ((l.length+1) / 2))).1,(Ow q k (l.drop ((l.length+1) / 2))).1 with
  | a::_,b::_=>([(PP q a b).1],(Ow q k (l.take ((l.length+1) / 2))).2++(Ow q k (l.drop ((l.length+1) / 2))).2++[PP q a b])
  | _,_=>([],[])
theorem Dm (q:Um->Int):∀ (k:Nat) (l:List Pt),l.length<=k->Ow q k l=Ow q l.length l
 | 0,l,h=>by rw [show l.length=0 by omega]
 |
  k+1,l,h=>by
  cases hl:l.length with
  | zero=>simp [Ow,hl]
  |
   succ m =>
   simp only [Ow];by_cases h2:l.length<2
   ·rw [if_pos h2,if_pos h2]
   ·rw [if_neg h2,if_neg h2];have h3:(l.take ((l.length+1) / 2)).length<=m:=by rw [Qq]; omega
    have h4:(l.drop ((l.length+1) / 2)).length<=m:=by rw [Q8]; omega
    rw [Dm q k (l.take ((l.length+1) / 2)) (by omega),Dm q k (l.drop ((l.length+1) / 2)) (by omega),Dm q m (l.take ((l.length+1) / 2)) h3,Dm q m (l.drop ((l.length+1) / 2)) h4]
termination_by k=>k
def Ni (q:Um->Int) (l:List Pt):List Pt×List (Pt×Pt):=Ow q l.length l
theorem Co (q:Um->Int) {l:List Pt} (h:l.length<2):Ni q l=(l,[]):=by
 unfold Ni;cases hl:l.length with
 | zero=>rfl
 | succ m=>simp only [Ow]; rw [if_pos h]
theorem Ox (q:Um->Int) {l:List Pt} (h:¬l.length<2) {a b:Pt} (ha:(Ni q (l.take ((l.length+1) / 2))).1=[a]) (hb:(Ni q (l.drop ((l.length+1) / 2))).1=[b]) :
 Ni q l=([(PP q a b).1],(Ni q (l.take ((l.length+1) / 2))).2++(Ni q (l.drop ((l.length+1) / 2))).2++[PP q a b]):=by
 unfold Ni at ha hb ⊢;obtain ⟨m,hm⟩:∃ m,l.length=m+1:=⟨l.length-1,by omega⟩;have h3:(l.take ((l.length+1) / 2)).length<=m:=by rw [Qq]; omega
 have h4:(l.drop ((l.length+1) / 2)).length<=m:=by rw [Q8]; omega
 rw [<-Dm q m _ h3] at ha ⊢;rw [<-Dm q m _ h4] at hb ⊢;rw [show Ow q l.length l=Ow q (m+1) l by rw [hm]];simp only [Ow];rw [if_neg h,ha,hb]
theorem Nj (q:Um->Int):∀ (k:Nat) (l:List Pt),l.length≤k->0<l.length->∃ a,(Ni q l).1=[a]/\a∈l/\∀ m∈(Ni q l).2,m.1∈l/\m.2∈l
 | 0,l,h,h0=>by omega
 |
  k+1,l,h,h0=>by
  by_cases h2:l.length<2
  ·rw [Co q h2]
   match l,h0,h2 with
   | [a],_,_=>exact ⟨a,rfl,by simp,by simp⟩
  ·obtain ⟨a,ha,hal,ham⟩:=Nj q k (l.take ((l.length+1) / 2)) (by rw [Qq]; omega) (by rw [Qq]; omega);obtain ⟨b,hb,hbl,hbm⟩:=Nj q k (l.drop ((l.length+1) / 2)) (by rw [Q8]; omega) (by rw [Q8]; omega);rw [Ox q h2 ha hb];have hd:(PP q a b).1∈l/\(PP q a b).2∈l:=by
    unfold PP; split
    ·exact ⟨Qn hal,Qz hbl⟩
    ·exact ⟨Qz hbl,Qn hal⟩
   refine ⟨_,rfl,hd.1,λm hm=>?_⟩;rcases Qr.1 hm with hm | hm
   ·rcases Qr.1 hm with hm | hm
    ·exact ⟨Qn (ham m hm).1,Qn (ham m hm).2⟩
    ·exact ⟨Qz (hbm m hm).1,Qz (hbm m hm).2⟩
   ·rw [Qk.1 hm]; exact hd
theorem Dn (q:Um->Int):∀ (k:Nat) (l:List Pt),l.length<=k->(Ni q l).2.length<=l.length-1
 | 0,l,h=>by rw [Co q (by omega)]; simp
 |
  k+1,l,h=>by
  by_cases h2:l.length<2
  ·rw [Co q h2]; simp
  ·obtain ⟨a,ha,_⟩:=Nj q l.length (l.take ((l.length+1) / 2)) (by rw [Qq]; omega) (by rw [Qq]; omega);obtain ⟨b,hb,_⟩:=Nj q l.length (l.drop ((l.length+1) / 2)) (by rw [Q8]; omega) (by rw [Q8]; omega);rw [Ox q h2 ha hb];have h3:=Dn q k (l.take ((l.length+1) / 2)) (by rw [Qq]; omega);have h4:=Dn q k (l.drop ((l.length+1) / 2)) (by rw [Q8]; omega);rw [Qq] at h3;rw [Q8] at h4;simp only [Qy,Vr];omega
abbrev Qcp (m:Pt×Pt):Ur:=[pl m.1.c.x,pl m.1.c.y,sg m.1.c.d,mg m.1.c.d,.int .i64 m.1.id,pl m.2.c.x,pl m.2.c.y,sg m.2.c.d,mg m.2.c.d,.int .i64 m.2.id]
end Orr
namespace Orq
open Orr Go
def FW (q:Rat) (x y:Pt):Prop:=py y q<py x q\/py y q=py x q/\(px y q<px x q\/px y q=px x q/\x.id<y.id)
theorem Qid (q:Rat) (x:Pt):¬FW q x x:=by unfold FW; grind
theorem Qow (q:Rat) (x y z:Pt) (h:FW q x y) (h':FW q y z):FW q x z:=by unfold FW at *; grind
theorem Qie {q:Rat} {x y:Pt} (h:x.id≠y.id) (h':¬FW q x y):FW q y x:=by unfold FW at *; grind
theorem Qau {a:Tm} (ha:Va a) {x y:Pt} (hx:Sc x.c) (hy:Sc y.c) {q:Rat} (h1:Hk (Fq a) (Gm y.c x.c)=Fg (U9 (Gm y.c x.c) q)) (h2:Hk (Fq a) (Gn y.c x.c)=Fg (U9 (Gn y.c x.c) q)):Ca (Fq a) x y=true↔FW q x y:=by
 rw [TR hy hx] at h1;rw [TS hy hx] at h2;have d1:=(M7 hy hx).dp;have d2:=(M8 hy hx).dp;unfold Ca;simp only [Ly];have t1:=Ga (py x q-py y q);have t2:=Ga (px x q-px y q);by_cases e1:(Gm y.c x.c).length=0
 ·rw [if_neg (by omega)];rw [Qj e1,XW] at h1;have:py x q=py y q:=by grind
  by_cases e2:(Gn y.c x.c).length=0
  ·rw [if_neg (by omega)];rw [Qj e2,XW] at h2;unfold FW;simp only [decide_eq_true_eq];grind
  ·rw [if_pos (by omega)];have:=(El ha d2 e2).2;unfold FW;simp only [decide_eq_true_eq];grind
 ·rw [if_pos (by omega)];have:=(El ha d1 e1).2;unfold FW;simp only [decide_eq_true_eq];grind
theorem wZ {l:List Pt} (hl:∀ p∈l,Sc p.c) {a:Tm} (ha:Va a):∃ y,Fp a y=-1/\∀ q,Fp a q=-1->q≤y->∀ u∈l,∀ v∈l,(Ca (Fq a) u v=true↔FW q u v):=by
 obtain ⟨y,y1,y2⟩:=XU ha (Eh l) λp hp=>(QX hl p hp).dp
 refine ⟨y,y1,λq q1 q2 u hu v hv=>?_⟩;have h:=y2 q q1 q2;exact Qau ha (hl u hu) (hl v hv) (h _ (Sl hv hu).2) (h _ (Sl hv hu).1)
theorem nD {a b:Tm} {x y:Pt} (h:Hk (Fq b) (Ap x y)=Hk (Fq a) (Ap x y)):Ca (Fq b) x y=Ca (Fq a) x y:=by
 unfold Ap Ls at h;unfold Ca;simp only [Ly];by_cases e1:0<(Gm y.c x.c).length
 ·rw [if_pos e1,if_pos e1]; rw [if_pos e1] at h; rw [h]
 ·rw [if_neg e1,if_neg e1]; rw [if_neg e1] at h; rw [h]
theorem Qhy {l:List Pt} {k:Nat} (h2:¬l.length<2) (hk:l.length<=k+1):(l.take ((l.length+1) / 2)).length<=k/\(l.drop ((l.length+1) / 2)).length<=k/\0<(l.take ((l.length+1) / 2)).length/\0<(l.drop ((l.length+1) / 2)).length:=by
 rw [Qq,Q8]; omega
theorem TX {sa sb:Um->Int}:∀ (k:Nat) (l:List Pt),l.length≤k->l.Pairwise (λx y=>x.id≠y.id)->(∀ u∈l,∀ v∈l,u.id≠v.id->Ca sa u v=false->Ca sa v u=true)->(∀ u∈l,∀ v∈l,Ca sb v u=true->Ca sb u v=false)->(∀ m∈(Ni sa l).2,Ca sb m.1 m.2=Ca sa m.1 m.2)->Ni sb l=Ni sa l
 | 0,l,hk,_,_,_,_=>by rw [Co _ (by omega),Co _ (by omega)]
 |
  k+1,l,hk,hd,h1,h2,hm=>by
  by_cases hs:l.length<2
  ·rw [Co _ hs,Co _ hs]
  ·obtain ⟨k1,k2,k3,k4⟩:=Qhy hs hk;obtain ⟨a,ha,hal,_⟩:=Nj sa k (l.take ((l.length+1) / 2)) k1 k3;obtain ⟨b,hb,hbl,_⟩:=Nj sa k (l.drop ((l.length+1) / 2)) k2 k4;have hpl:=Ox sa hs ha hb;rw [hpl] at hm;have hd':=hd;rw [<-Zh ((l.length+1) / 2) l] at hd';obtain ⟨d1,d2,d3⟩:=Xv.1 hd';have i1:=TX k _ k1 d1 (λu hu v hv=>h1 u (Qn hu) v (Qn hv)) (λu hu v hv=>h2 u (Qn hu) v (Qn hv)) λm hm'=>hm m (by simp [hm'])
   have i2:=TX k _ k2 d2 (λu hu v hv=>h1 u (Qz hu) v (Qz hv)) (λu hu v hv=>h2 u (Qz hu) v (Qz hv)) λm hm'=>hm m (by simp [hm'])
   have hal':=Qn hal;have hbl':=Qz hbl;have e:PP sb a b=PP sa a b:=by
    have hmem:=hm (PP sa a b) (by simp);unfold PP at hmem ⊢;by_cases h:Ca sa a b=true
    ·rw [if_pos h] at hmem ⊢;rw [if_pos (hmem.trans h)]
    ·rw [if_neg h] at hmem ⊢;have h:Ca sa a b=false:=by simpa using h
     have:=h2 a hal' b hbl' (hmem.trans (h1 a hal' b hbl' (d3 a hal b hbl) h));rw [if_neg (by simp [this])]
   rw [hpl,Ox sb hs (by rw [i1]; exact ha) (by rw [i2]; exact hb),i1,i2,e]
end Orq
namespace Orr
open Orq Go
def xG (l:List Pt) (a:Tm):List Ct:=(Ni (Fq a) l).2.map λm=>Dy (Fq a) m.1 m.2
def pR (l:List Pt) (a:Tm):Us×Us:=((Ni (Fq a) l).1.map Fc,(Ni (Fq a) l).2.map Qcp)
theorem JV {sg:Um->Int} {l:List Pt}:∀ m∈(Ni sg l).2,m.1∈l/\m.2∈l:=λm hm=>by
 by_cases h:0<l.length
 ·obtain ⟨_,_,_,h3⟩:=Nj sg l.length l (Ql _) h;exact h3 m hm
 ·rw [Co _ (by omega)] at hm; cases hm
theorem Qsz {l:List Pt} (hl:∀ p∈l,Sc p.c) {a:Tm}:∀ x∈xG l a,Cp x.p:=λx hx=>by
 obtain ⟨m,hm,rfl⟩:=Za.1 hx;obtain ⟨h1,h2⟩:=JV m hm;exact YF (M7 (hl _ h2) (hl _ h1)) (M8 (hl _ h2) (hl _ h1))
theorem pJ {l:List Pt} (hl:∀ p∈l,Sc p.c) (hn:l.length≤1000):BuildOk (xG l) :=
 ⟨λa _=>Qsz hl,λa _=>by
  unfold xG; rw [List.length_map];have:=Dn (Fq a) l.length l (Ql _); omega⟩
theorem Qme {l:List Pt} {a:Tm}:∀ x∈xG l a,x.p∈Eh l:=λx hx=>by
 obtain ⟨m,hm,rfl⟩:=Za.1 hx;obtain ⟨h1,h2⟩:=JV m hm;show Ap m.1 m.2∈Eh l;unfold Ap Ls; split
 ·exact (Sl h2 h1).2
 ·exact (Sl h2 h1).1
theorem Qy4 {l:List Pt} (hl:∀ p∈l,Sc p.c) (hn:l.length≤1000) (hd:l.Pairwise λx y=>x.id≠y.id):Stab (xG l) (pR l):=by
 refine ⟨pJ hl hn,⟨Eh l,QX hl,λa _ x hx=>?_⟩,λa b ha hb h=>?_⟩
 ·obtain ⟨m,hm,rfl⟩:=Za.1 hx;obtain ⟨h1,h2⟩:=JV m hm;show Ap m.1 m.2∈Eh l;unfold Ap Ls; split
  ·exact (Sl h2 h1).2
  ·exact (Sl h2 h1).1
 ·obtain ⟨y,y1,y2⟩:=wZ hl ha;obtain ⟨z,z1,z2⟩:=wZ hl hb;have ga:=y2 y y1 Qp;have gb:=z2 z z1 Qp;have e:Ni (Fq b) l=Ni (Fq a) l:=TX l.length l (Ql _) hd (λu hu v hv hne hf=>(ga v hv u hu).2 (Qie hne λh=>by
   rw [(ga u hu v hv).2 h] at hf; cases hf)) (λu hu v hv ht=>by
   cases hb':Ca (Fq b) u v
   ·rfl
   ·exact absurd (Qow z u v u ((gb u hu v hv).1 hb') ((gb v hv u hu).1 ht)) (Qid z u)) λm hm=>nD (h (Dy (Fq a) m.1 m.2) (Za.2 ⟨m,hm,rfl⟩))
  refine ⟨?_,by unfold pR; rw [e]⟩;unfold xG;rw [e];refine Xp λm hm=>?_
  have:=h (Dy (Fq a) m.1 m.2) (Za.2 ⟨m,hm,rfl⟩);unfold Dy;rw [show Hk (Fq b) (Ap m.1 m.2)=Hk (Fq a) (Ap m.1 m.2) from this]
end Orr
namespace Orq
open Orr Go
def ZU (a:Crv):Un:=[Fv a.x a.d,Fv a.y a.d,A4 (Gl a.x a.x) (Gl a.y a.y),[a.d*a.d]]
def uX (a b c d:Crv):List Un:=[ZU a,ZU b,ZU c,ZU d]
def VI (a b c d:Crv):Um:=Ll 4 (uX a b c d)
theorem FC {s:Nat} {k:Crv} (hn:ZB k) (hc:Cs s 3 k):(∀ p∈ZU k,Ff p/\Bd (s+s+3) p)/\∀ (j:Nat) (p:Um),(ZU k)[j]? = some p->p.length≤[2,2,4,0].getD j 0+1:=by
 have l1:=Fy k.x k.d;have l2:=Fy k.y k.d;have l3:=Ty k.x k.x;have l4:=Ty k.y k.y;have l5:=Oe (Gl k.x k.x) (Gl k.y k.y);have kx:=hc.lx;have ky:=hc.ly;have bx:Bd (s+s+2) (Gl k.x k.x):=Ph hc.x hc.x (by omega);have by_:Bd (s+s+2) (Gl k.y k.y):=Ph hc.y hc.y (by omega);have hd:=hn.2.2.1;have hd0:k.d*k.d≠0:=λe=>by rcases Yf.1 e with e | e <;> omega
 have td:Ff [k.d*k.d]:=by unfold Ff; simp [trim,hd0]
 refine ⟨λp hp=>?_,λj p hp=>?_⟩
 ·simp only [ZU,Qm,Jm,or_false] at hp;rcases hp with rfl | rfl | rfl | rfl
  ·exact ⟨Fz _ _,U6 (Gg hc.x hc.d) (by omega)⟩
  ·exact ⟨Fz _ _,U6 (Gg hc.y hc.d) (by omega)⟩
  ·exact ⟨Fz _ _,U6 (JO bx by_) (by omega)⟩
  ·refine ⟨td,λz hz=>?_⟩;rw [Qk.1 hz];have:=Gb k.d k.d; have:=hc.d; omega
 ·match j,hp with
  | 0,hp=>injection hp with hp; subst hp; show _<=3; omega
  | 1,hp=>injection hp with hp; subst hp; show _<=3; omega
  | 2,hp=>injection hp with hp; subst hp; show _<=5; omega
  | 3,hp=>injection hp with hp; subst hp; exact Ql _
  | j+4,hp=>simp [ZU] at hp
theorem tM {s:Nat} {a b c d:Crv} (na:ZB a) (nb:ZB b) (nc:ZB c) (nd:ZB d) (ca:Cs s 3 a) (cb:Cs s 3 b) (cc:Cs s 3 c) (cd:Cs s 3 d):Sq (s+s+3) [2,2,4,0] 4 4 (uX a b c d):=by
 have hr:∀ r∈uX a b c d,∃ k:Crv,ZB k/\Cs s 3 k/\r=ZU k:=λr hr=>by
  simp only [uX,Qm,Jm,or_false] at hr;rcases hr with rfl | rfl | rfl | rfl
  ·exact ⟨a,na,ca,rfl⟩
  ·exact ⟨b,nb,cb,rfl⟩
  ·exact ⟨c,nc,cc,rfl⟩
  ·exact ⟨d,nd,cd,rfl⟩
 refine ⟨rfl,λr h=>?_,λr h p hp=>?_,λr h p hp=>?_,λr h j p hp=>?_⟩
 all_goals obtain ⟨k,kn,kc,rfl⟩:=hr r h
 ·rfl
 ·exact ((FC kn kc).1 p hp).1
 ·exact ((FC kn kc).1 p hp).2
 ·exact (FC kn kc).2 j p hp
theorem eP {a b c d:Crv} (ha:Sc a) (hb:Sc b) (hc:Sc c) (hd:Sc d):Cp (VI a b c d):=by
 obtain ⟨h1,h2,h3⟩:=MO 4 [2,2,4,0] (uX a b c d) (by decide) rfl (by decide) (tM ha.n hb.n hc.n hd.n ha.c hb.c hc.c hd.c);exact ⟨h1,Qa h3 (by decide),U6 h2 (by decide)⟩
def qG (sg:Um->Int) (a b c d:Pt):Ct:=⟨4,a.id,b.id,c.id,d.id,VI a.c b.c c.c d.c,Hk sg (VI a.c b.c c.c d.c)⟩
abbrev P3:=Pt×(Pt×Pt)
abbrev P4:=Pt×P3
def Lq:Nat->List Pt->List P3
 | 0,_=>[]
 | _+1,[]=>[]
 | k+1,x::l=>(Gt l).map (λm=>(x,m))++Lq k l
def Ru (l:List Pt):List P3:=Lq l.length l
def Eu:Nat->List Pt->List P4
 | 0,_=>[]
 | _+1,[]=>[]
 | k+1,x::l=>(Ru l).map (λm=>(x,m))++Eu k l
def O4 (l:List Pt):List P4:=Eu l.length l
theorem VV:∀ (l:List Pt) (i:Nat) (x:Pt),l[i]? = some x->Lq (i+1) l=Lq i l++(Gt (l.drop (i+1))).map (λm=>(x,m))
 | [],i,x,h=>by simp at h
 | y::l,0,x,h=>by simp at h; subst h; simp [Lq]
 |
  y::l,i+1,x,h=>by
  have ih:=VV l i x (by simpa using h);show (Gt l).map _++Lq (i+1) l=((Gt l).map _++Lq i l)++_;rw [ih,Zd]; rfl
theorem TY:∀ (l:List Pt) (i:Nat) (x:Pt),l[i]? = some x->Eu (i+1) l=Eu i l++(Ru (l.drop (i+1))).map (λm=>(x,m))
 | [],i,x,h=>by simp at h
 | y::l,0,x,h=>by simp at h; subst h; simp [Eu]
 |
  y::l,i+1,x,h=>by
  have ih:=TY l i x (by simpa using h);show (Ru l).map _++Eu (i+1) l=((Ru l).map _++Eu i l)++_;rw [ih,Zd]; rfl
theorem AX:∀ (k:Nat) (l:List Pt),∀ m∈Lq k l,m.1∈l/\m.2.1∈l/\m.2.2∈l
 | 0,l,m,h=>by simp [Lq] at h
 | k+1,[],m,h=>by simp [Lq] at h
 |
  k+1,x::l,m,h=>by
  rcases Qr.1 h with h | h
  ·obtain ⟨y,hy,rfl⟩:=Za.1 h;obtain ⟨h1,h2⟩:=S0 _ _ y hy;exact ⟨Qx ..,Qg _ h1,Qg _ h2⟩
  ·obtain ⟨h1,h2,h3⟩:=AX k l m h;exact ⟨Qg _ h1,Qg _ h2,Qg _ h3⟩
theorem rD:∀ (k:Nat) (l:List Pt),∀ m∈Eu k l,m.1∈l/\m.2.1∈l/\m.2.2.1∈l/\m.2.2.2∈l
 | 0,l,m,h=>by simp [Eu] at h
 | k+1,[],m,h=>by simp [Eu] at h
 |
  k+1,x::l,m,h=>by
  rcases Qr.1 h with h | h
  ·obtain ⟨y,hy,rfl⟩:=Za.1 h;obtain ⟨h1,h2,h3⟩:=AX _ _ y hy;exact ⟨Qx ..,Qg _ h1,Qg _ h2,Qg _ h3⟩
  ·obtain ⟨h1,h2,h3,h4⟩:=rD k l m h;exact ⟨Qg _ h1,Qg _ h2,Qg _ h3,Qg _ h4⟩
theorem VQ {l:List Pt} (h:l.length<=6):(Ru l).length<=20/\(O4 l).length<=15:=by
 match l,h with
 | [],_=>exact ⟨Zf rfl,Zf rfl⟩
 | [_],_=>exact ⟨Zf rfl,Zf rfl⟩
 | [_,_],_=>exact ⟨Zf rfl,Zf rfl⟩
 | [_,_,_],_=>exact ⟨Zf rfl,Zf rfl⟩
 | [_,_,_,_],_=>exact ⟨Zf rfl,Zf rfl⟩
 | [_,_,_,_,_],_=>exact ⟨Zf rfl,Zf rfl⟩
 | [_,_,_,_,_,_],_=>exact ⟨Zf rfl,Zf rfl⟩
 | _::_::_::_::_::_::_::_,h=>simp at h
abbrev Ny:=List (Um×LV)
def PC (sg:Um->Int) (m:P3):Ct:=Lc sg m.1 m.2.1 m.2.2
def HB (sg:Um->Int) (m:P4):Ct:=qG sg m.1 m.2.1 m.2.2.1 m.2.2.2
def nG (m:P3):Um:=[m.1.id,m.2.1.id,m.2.2.id]
def Qya (m:P4):Um:=[m.1.id,m.2.1.id,m.2.2.1.id,m.2.2.2.id]
def Ay (V:List (Um×Int)):Ny:=V.foldl (λM e=>L6 M e.1 (.int .i64 e.2)) []
def ZP (sg:Um->Int) (ps:List P3):List (Um×Int):=ps.map λm=>(nG m,(PC sg m).want)
def VP (sg:Um->Int) (ps:List P4):List (Um×Int):=ps.map λm=>(Qya m,(HB sg m).want)
theorem dU (sg:Um->Int) (ps:List P3) (m:P3):Ay (ZP sg (ps++[m]))=L6 (Ay (ZP sg ps)) (nG m) (.int .i64 (PC sg m).want):=by simp [Ay,ZP]
def I9 (T:Ny) (s:Int) (n:Um) (F:Ny) (skip:Nat):Ny:=if ZT T (n.eraseIdx skip)*(if (3-skip) % 2=1 then -s else s)>0 then L6 F (n.eraseIdx skip) (.bool true) else F
def OG (T:Ny) (s:Int) (n:Um) (F:Ny):Ny:=I9 T s n (I9 T s n (I9 T s n (I9 T s n F 0) 1) 2) 3
def Oc (T:Ny) (V:List (Um×Int)):Ny:=V.foldl (λF e=>OG T e.2 e.1 F) []
theorem nZ (sg:Um->Int) (T:Ny) (ps:List P4) (m:P4):Oc T (VP sg (ps++[m]))=OG T (HB sg m).want (Qya m) (Oc T (VP sg ps)):=by simp [Oc,VP]
def jL (T F:Ny) (m:P3):Bool:=decide (ZT T (nG m)≠0) && !(BJ F (nG m))
theorem Qus {T F:Ny} {ps:List P3} {m:P3} (h:jL T F m=true):(ps++[m]).filter (jL T F)=ps.filter (jL T F)++[m]:=by simp [Vj,h]
theorem Qhd {T F:Ny} {ps:List P3} {m:P3} (h:jL T F m=false):(ps++[m]).filter (jL T F)=ps.filter (jL T F):=by simp [Vj,h]
def gZ (sg:Um->Int) (l:List Pt):List Ct:=(Ru (Tp l)).map (PC sg)++(O4 (Tp l)).map (HB sg)
def LY (sg:Um->Int) (l:List Pt):List P3:=(Ru (Tp l)).filter (jL (Ay (ZP sg (Ru (Tp l)))) (Oc (Ay (ZP sg (Ru (Tp l)))) (VP sg (O4 (Tp l)))))
abbrev trL (m:P3):Ur:=[.int .i64 m.1.id,.int .i64 m.2.1.id,.int .i64 m.2.2.id]
def A5 (l:List P3):Us:=l.map trL
theorem AU (l:List P3):(A5 l).length=l.length:=by simp [A5]
theorem sY {l:List P3} {i:Nat} {m:P3} (h:l[i]? = some m):(A5 l)[i]? = some (trL m):=G6 h
theorem RL (sg:Um->Int) {l:List Pt} (h:l.length<=6):(LY sg l).length<=20:=by
 have hw:=QQ l;exact Qa (Y0 _ _) (VQ (l:=Tp l) (by omega)).1
theorem Qck (sg:Um->Int) {l:List Pt} (h:l.length<=6):(gZ sg l).length<=35:=by
 have hw:=QQ l;obtain ⟨h1,h2⟩:=VQ (l:=Tp l) (by omega);unfold gZ;rw [Qy,Q7,Q7]; omega
def wQ (l:List Pt) (a:Tm):List Ct:=gZ (Fq a) l
abbrev pH (l:List Pt) (a:Tm):Us:=A5 (LY (Fq a) l)
def Qar (l:List Pt):Un:=(Ru (Tp l)).map (λm=>Hi m.1.c m.2.1.c m.2.2.c)++(O4 (Tp l)).map λm=>VI m.1.c m.2.1.c m.2.2.1.c m.2.2.2.c
theorem xY {l:List Pt} (hl:∀ p∈l,Sc p.c):∀ p∈Qar l,Cp p:=λp hp=>by
 have hw:=λ(x:Pt) (h:x∈Tp l)=>hl x (Np h)
 rcases Qr.1 hp with hp | hp
 ·obtain ⟨m,hm,rfl⟩:=Za.1 hp;obtain ⟨h1,h2,h3⟩:=AX _ _ m hm;exact YV (hw _ h1) (hw _ h2) (hw _ h3)
 ·obtain ⟨m,hm,rfl⟩:=Za.1 hp;obtain ⟨h1,h2,h3,h4⟩:=rD _ _ m hm;exact eP (hw _ h1) (hw _ h2) (hw _ h3) (hw _ h4)
theorem xU {l:List Pt} {a:Tm}:∀ x∈wQ l a,x.p∈Qar l:=λx hx=>by
 rcases Qr.1 hx with hx | hx
 ·obtain ⟨m,hm,rfl⟩:=Za.1 hx;exact X7 _ (Za.2 ⟨m,hm,rfl⟩)
 ·obtain ⟨m,hm,rfl⟩:=Za.1 hx;exact Je _ (Za.2 ⟨m,hm,rfl⟩)
theorem Qdz {l:List Pt} (h:l.length<=6):(Qar l).length<=1000000:=by
 have hw:=QQ l;obtain ⟨h1,h2⟩:=VQ (l:=Tp l) (by omega);unfold Qar;rw [Qy,Q7,Q7]; omega
theorem pQ {l:List Pt} (hl:∀ p∈l,Sc p.c) (hn:l.length≤6):BuildOk (wQ l) :=
 ⟨λ_ _ x hx=>xY hl _ (xU x hx),λa _=>Qa (Qck _ hn) (by decide)⟩
theorem Qy0 {l:List Pt} (hl:∀ p∈l,Sc p.c) (hn:l.length≤6):Stab (wQ l) (pH l):=by
 refine ⟨pQ hl hn,⟨Qar l,xY hl,λa _=>xU⟩,λa b _ _ h=>?_⟩;have e1:∀ m∈Ru (Tp l),PC (Fq b) m=PC (Fq a) m:=λm hm=>by
  have:=h (PC (Fq a) m) (X7 _ (Za.2 ⟨m,hm,rfl⟩));have e:Hk (Fq b) (Hi m.1.c m.2.1.c m.2.2.c)=Hk (Fq a) (Hi m.1.c m.2.1.c m.2.2.c):=this;unfold PC Lc; rw [e]
 have e2:∀ m∈O4 (Tp l),HB (Fq b) m=HB (Fq a) m:=λm hm=>by
  have:=h (HB (Fq a) m) (Je _ (Za.2 ⟨m,hm,rfl⟩));have e:Hk (Fq b) (VI m.1.c m.2.1.c m.2.2.1.c m.2.2.2.c)=Hk (Fq a) (VI m.1.c m.2.1.c m.2.2.1.c m.2.2.2.c):=this;unfold HB qG; rw [e]
 have t1:ZP (Fq b) (Ru (Tp l))=ZP (Fq a) (Ru (Tp l)):=Xp λm hm=>by rw [e1 m hm]
 have t2:VP (Fq b) (O4 (Tp l))=VP (Fq a) (O4 (Tp l)):=Xp λm hm=>by rw [e2 m hm]
 constructor
 ·unfold wQ gZ;rw [Xp e1,Xp e2]
 ·unfold pH LY;rw [t1,t2]
def Qxc (l:List Pt) (a:Tm):Cr:=⟨a,(Fx (wQ l a)).map fresh,0⟩
def kR (M:Ny):Prop:=∀ k,(Ak M k).getD (.int .i64 0)=.int .i64 (ZT M k)/\-1<=ZT M k/\ZT M k<=1
def VB (M:Ny):Prop:=∀ k,(Ak M k).getD (.bool false)=.bool (BJ M k)
theorem qQ (M:Ny) (k:Um) (x:LV) (k':Um):Ak (L6 M k x) k'=if k'=k then some x else Ak M k':=by
 induction M with
 | nil=>simp [L6,Ak]
 |
  cons e M ih =>
  simp only [L6];by_cases h:k=e.1
  ·rw [if_pos h];simp only [Ak];by_cases h2:k'=k
   ·rw [if_pos h2,if_pos h2]
   ·rw [if_neg h2,if_neg h2,if_neg (λe2=>h2 (e2.trans h.symm))]
  ·rw [if_neg h];simp only [Ak];by_cases h2:k'=e.1
   ·rw [if_pos h2,if_pos h2,if_neg (λe2=>h (e2.symm.trans h2))]
   ·rw [if_neg h2,if_neg h2,ih]
theorem Qh5:kR []:=λ_=>⟨rfl,show (-1:Int)<=0 by decide,show (0:Int)<=1 by decide⟩
theorem Qav:VB []:=λ_=>rfl
theorem Qh6 {M:Ny} (h:kR M) {k:Um} {n:Int} (hn:-1<=n/\n<=1):kR (L6 M k (.int .i64 n)):=by
 intro k';have h1:=h k';unfold ZT at h1 ⊢;rw [qQ];by_cases e:k'=k
 ·rw [if_pos e]; exact ⟨rfl,hn.1,hn.2⟩
 ·rw [if_neg e]; exact h1
theorem Qaw {M:Ny} (h:VB M) {k:Um} {b:Bool}:VB (L6 M k (.bool b)):=by
 intro k';have h1:=h k';unfold BJ at h1 ⊢;rw [qQ];by_cases e:k'=k
 ·rw [if_pos e]; rfl
 ·rw [if_neg e]; exact h1
theorem A7 {T F:Ny} {s:Int} {n:Um} {k:Nat} (h:VB F):VB (I9 T s n F k):=by
 unfold I9;generalize (if (3-k) % 2=1 then -s else s)=s'
 split
 ·exact Qaw h
 ·exact h
theorem pF {T F:Ny} {s:Int} {n:Um} (h:VB F):VB (OG T s n F):=A7 (A7 (A7 (A7 h)))
theorem Qcm {x s:Int} (hx:-1<=x/\x<=1) (hs:-1<=s/\s<=1):-9223372036854775808<=x*s/\x*s<=9223372036854775807:=by
 have h:x=-1\/x=0\/x=1:=by omega
 rcases h with rfl | rfl | rfl <;> omega
structure MOk (M:List Pt):Prop where
 sc:∀ p∈M,Sc p.c
 ln:M.length<=6
 so:Nq M
theorem MOk.df {M:List Pt} (h:MOk M):M.Pairwise λx y=>x.id≠y.id:=h.so.imp λh e=>by omega
structure Knd (β:Type) where
 bc:List Pt->Tm->List Ct
 br:List Pt->Tm->β
 al:List Pt->List (List Int)
structure KndOk {β:Type} (k:Knd β):Prop where
 st:∀ M,MOk M->Stab (k.bc M) (k.br M)
 cp:∀ M,MOk M->∀ p∈k.al M,Cp p
 al:∀ M a,∀ x∈k.bc M a,x.p∈k.al M
 ln:∀ M,MOk M->(k.al M).length<=1000000
abbrev kS:Knd Us:=⟨JA,IG,Eh⟩
abbrev kT:Knd (Us×Us):=⟨xG,pR,Eh⟩
abbrev kH:Knd Us:=⟨AB,brH,λl=>Eh l++NC l⟩
abbrev kP:Knd Us:=⟨dL,brP,AM⟩
abbrev kD:Knd Us:=⟨wQ,pH,Qar⟩
theorem ND {l:List Pt} (h:l.length<=6):(Eh l).length<=72:=by
 rw [kL];exact Qa (Zc h (Zc h (Ql 2))) (by decide)
theorem UI {α β:Type} {f:α->List β} {n:Nat} (l:List α) (h:∀ x∈l,(f x).length=n):(l.flatMap f).length=l.length*n:=by
 induction l with
 | nil=>simp
 |
  cons x l ih =>
  rw [J1,Qy,h x (by simp),ih λy hy=>h y (Qg _ hy),Q5,X3]; omega
theorem Qmb (l:List Pt):(NC l).length=l.length*(l.length*l.length):=by
 unfold NC;exact UI l λx _=>UI l λy _=>by simp
theorem Ql9 (l:List Pt):(AM l).length=l.length*(l.length*(l.length*l.length)):=by
 unfold AM;exact UI l λx _=>UI l λy _=>UI l λz _=>by simp
theorem okS:KndOk kS:=⟨λM h=>Qy3 h.sc (by have:=h.ln; omega) h.df,λM h=>QX h.sc,λM a=>dA,λM h=>Qa (ND h.ln) (by decide)⟩
theorem okT:KndOk kT:=⟨λM h=>Qy4 h.sc (by have:=h.ln; omega) h.df,λM h=>QX h.sc,λM a=>Qme,λM h=>Qa (ND h.ln) (by decide)⟩
theorem okH:KndOk kH:=⟨λM h=>Qy1 h.sc (by have:=h.ln; omega) h.df,λM h=>PI h.sc,λM a=>xF,λM h=>by
 have h1:=ND h.ln;have h2:=Qmb M;have h3:M.length*(M.length*M.length)<=6*(6*6):=Zc h.ln (Zc h.ln h.ln);show (Eh M++NC M).length<=_;rw [Qy]; omega⟩
theorem okP:KndOk kP:=⟨λM h=>Qy2 h.sc (by have:=h.ln; omega) h.df,λM h=>UQ h.sc,λM a=>dE,λM h=>by
 have h3:M.length*(M.length*(M.length*M.length))<=6*(6*(6*6)):=Zc h.ln (Zc h.ln (Zc h.ln h.ln));show (AM M).length<=_;rw [Ql9]; omega⟩
theorem okD:KndOk kD:=⟨λM h=>Qy0 h.sc h.ln,λM h=>xY h.sc,λM a=>xU,λM h=>Qdz h.ln⟩
open Classical in
noncomputable def cnt (bc:Tm->List Ct) (q t:Rat):Nat:=if h:∃ E,Evs bc t (tq q) E then (Classical.choose h).length else 0
theorem Qgl {β:Type} {Bc:Tm->List Ct} {Br:Tm->β} (S:Stab Bc Br) {q t:Rat} (hq:Va (tq q)) {E:List Tm} (h:Evs Bc t (tq q) E):cnt Bc q t=E.length:=by
 have hx:∃ E,Evs Bc t (tq q) E:=⟨E,h⟩;unfold cnt;rw [dif_pos hx];exact Qur S hq (Classical.choose_spec hx) h
structure At {β:Type} (k:Knd β) (M:List Pt) (q:Rat) (c:Cr):Prop where
 now:c.now=tq q
 st:KSt (k.bc M) (k.br M) c (k.br M (tq q))
section
variable {β:Type} {k:Knd β} (ok:KndOk k) {M M':List Pt} {q t:Rat} {c:Cr}
include ok
theorem At.again (h:At k M q c) (hM:MOk M'):∃ ws,Tl c.l c.now (Fx (k.bc M' c.now))=some ws/\At k M' q ⟨tq q,ws,c.ev⟩:=by
 obtain ⟨⟨o,kk⟩,hcs,hr⟩:=h.st;have S:=ok.st M' hM;obtain ⟨ws,l1,l2⟩:=nH o.n o.l (Fx (k.bc M' c.now));have o':=Orr.lay_ok c.ev o o.n (S.ok.p _ o.n) (S.ok.n _ o.n) l1;have hl:=aC o.n o.n (λh=>Iv o.n.cut o.n.cut h h) o.l kk l1;rw [h.now] at o' hl l2;exact ⟨ws,l1,rfl,⟨⟨o',hl⟩,l2,rfl⟩⟩
theorem At.adv (h:At k M q c) (hM:MOk M) (ht:Qs 1640000 t) (hqt:q<=t) :
 ∃ (K:Nat) (c':Cr),K<=67000001/\KI (k.bc M) (k.br M) t K c (k.br M (tq q)) 0=some (c',k.br M (tq t),((cnt (k.bc M) q t:Nat):Int))/\At k M t c'/\c'.ev=c.ev+((cnt (k.bc M) q t:Nat):Int)/\cnt (k.bc M) q t<=67000000/\cnt (k.bc M) q t<=((k.al M).flatMap AZ).length:=by
 have S:=ok.st M hM;have hP:=ok.cp M hM;have hm:=NS hP;have hmu:=Qiu ((k.al M).flatMap AZ) c.now;have hl:=ok.ln M hM;have hv:=h.st.inv.ok.n;have hc:Fp c.now t<=0:=by rw [h.now,sQ]; rcases M6 q t with ⟨e,e'⟩ | ⟨e,e'⟩ | ⟨e,e'⟩ <;> first | omega | (exfalso; grind)
 obtain ⟨c',r',E,g1,g2,g3,g4,g5,g6⟩:=Qhv S ht hP (λa _=>ok.al M a) (mu ((k.al M).flatMap AZ) c.now) c _ 0 (Ql _) h.st λh'=>by
  have:=(KB hv.cut).2 h'; omega
 have hr:r'=k.br M (tq t):=by rw [g3.r,g2]
 rw [hr] at g1 g3;rw [Int.zero_add] at g1;rw [h.now] at g6;have he:=Qgl S (by rw [<-h.now]; exact hv) g6;rw [he];exact ⟨_,c',by omega,g1,⟨g2,g3⟩,g4,by omega,by omega⟩
end
theorem At.begin {β:Type} {k:Knd β} (ok:KndOk k) {M:List Pt} {q:Rat} (hM:MOk M) (hq:Qs 1640000 q):At k M q ⟨tq q,(Fx (k.bc M (tq q))).map fresh,0⟩:=⟨rfl,Qd7 (ok.st M hM) (IK hq)⟩
end Orq
namespace Orr
open Go Go.Proofs Tryz Orq
set_option maxRecDepth 10000
abbrev Tt (c:Cr) (r0:Us) (r1:Us×Us):Ur:=.bool true::pl c.now.p::sg c.now.lo.num::mg c.now.lo.num::sg (c.now.lo.den:Int)::mg (c.now.lo.den:Int)::sg c.now.hi.num::mg c.now.hi.num::sg (c.now.hi.den:Int)::mg (c.now.hi.den:Int)::.row (C7 c.l)::.int .i64 c.ev::[.row r0,.row r1.1,.row r1.2]
abbrev Qt7 (r0:LV) (r1:LV×LV):Ur:=[.bool false,.nils,.bool false,.nils,.bool false,.nils,.bool false,.nils,.bool false,.nils,.nils,.int .i64 0,r0,r1.1,r1.2]
theorem pI {T:Nat} {c:Cr} {r0:Us} {r1:Us×Us} (hc:Va c.now):U7 prog 400 [.one (.ow 0 0)] [.blk T (Tt c r0 r1)] [.agg (ta c.now)] [.blk T (Tt c r0 r1)]:=by
 have cl:=S9 (b:=c.now) (l:=[]) hc.tb (λt ht=>by cases ht) (by decide) rfl;refine Fw func400 rfl ?_;exact Uh [] [0] [.f rfl,.k cl] rfl
theorem Qm9 {T:Nat} {c:Cr} {r0:Us} {r1:Us×Us} {x:Ct} {at_:Tm} {w:Wt} (hc:CrOk c) (hx:Cp x.p) (ha:Va at_) (h:Cj c.l x at_=some w):U7 prog 289 [.one (.ow 0 0),.agg (Lx x),.agg (ta at_)] [.blk T (Tt c r0 r1)] [.agg (wl w)] [.blk T (Tt c r0 r1)]:=by
 have hk:=hc.k;have hw:=Sx c.l;refine Fw func289 rfl ?_;refine Ud [] rfl ?_;refine Ui (S:=Nat) 4 (λL1 i=>(14,.v (.oi i))::L1) (λ_=>[.blk T (Tt c r0 r1),.blk 99 (Lx x),.blk 105 (ta at_),.blk 352 [.int .i64 0,.int .i64 0,.int .i64 0,.int .i64 0,.int .i64 0,.nils,.int .i64 0,.bool false,.bool false,.nils,.bool false,.nils,.bool false,.nils,.bool false,.nils,.bool false,.nils]]) (λi=>c.l.length-i) (λi=>i<=c.l.length/\Cj (c.l.drop i) x at_=some w) 0 ⟨Qh _,h⟩ rfl rfl λi ⟨hi,hf⟩=>?_
 by_cases hlt:i<c.l.length
 ·obtain ⟨v,hv⟩:=gxE (l:=c.l) (i:=i) hlt;have hdr:c.l.drop i=v::c.l.drop (i+1):=by
   rw [Zp hlt]; congr 1;have:=Qe hlt; rw [hv] at this; injection this with this; exact this.symm
  have hvo:=hc.l v (Qc hv);rw [hdr] at hf;simp only [Cj] at hf;have hl:decide ((i:Int)<((C7 c.l).length:Int))=true:=by simp [hw]; omega
  by_cases A:tK v.c x=true
  ·have A':(!decide ([v.c.kind,v.c.i0,v.c.i1,v.c.i2,v.c.i3]=[x.kind,x.i0,x.i1,x.i2,x.i3]))=false:=by
    unfold tK at A; rw [A]; rfl
   by_cases B:v.known=true
   ·have B':(!v.known)=false:=by rw [B]; rfl
    have cs:=MJ (p:=v.c.p) (q:=x.p) (Dp.pb hvo.p.dp).ln (Dp.pb hx.dp).ln (Dp.pb hvo.p.dp).bd (Dp.pb hx.dp).bd;rw [hvo.p.t,hx.t] at cs;by_cases C:v.c.p=x.p
    ·have C':(!decide (v.c.p=x.p))=false:=by simp [C]
     rw [if_pos ⟨A,B,C⟩] at hf;obtain ⟨vc,vk,vf⟩:=v;cases vf with
     |
      none =>
      injection hf with hf; subst hf;exact Uh [] [0] [.t hl,.x (H5 hv),.g 24 false A',.g 29 false B',.k cs,.f C',.g 41 true rfl,.t rfl] rfl
     |
      some t =>
      obtain ⟨r,r1',hf⟩:=Qd.1 hf;have cc:=KV (hvo.f t rfl).tb ha.tb r1';by_cases D:0<r
      ·rw [if_pos D] at hf;injection hf with hf; subst hf;exact Uh [] [0] [.t hl,.x (H5 hv),.g 24 false A',.g 29 false B',.k cs,.f C',.g 41 false rfl,.k cc,.t (by simpa using D)] rfl
      ·rw [if_neg D] at hf;refine Ue [.t hl,.x (H5 hv),.g 24 false A',.g 29 false B',.k cs,.f C',.g 41 false rfl,.k cc,.f (by simpa using D)] rfl ?_;exact rd (i+1) (by omega) ⟨hlt,hf⟩ rfl
    ·rw [if_neg λh=>C h.2.2] at hf;refine Ue [.t hl,.x (H5 hv),.g 24 false A',.g 29 false B',.k cs,.t (by simp [C])] rfl ?_;exact rd (i+1) (by omega) ⟨hlt,hf⟩ rfl
   ·rw [if_neg λh=>B h.2.1] at hf;refine Ue [.t hl,.x (H5 hv),.g 24 false A',.g 29 true (by simpa using B),.t rfl] rfl ?_;exact rd (i+1) (by omega) ⟨hlt,hf⟩ rfl
  ·rw [if_neg λh=>A h.1] at hf;refine Ue [.t hl,.x (H5 hv),.g 24 true (by rw [show decide ([v.c.kind,v.c.i0,v.c.i1,v.c.i2,v.c.i3]=[x.kind,x.i0,x.i1,x.i2,x.i3])=false from Wu.2 A]; rfl),.g 29 true rfl,.t rfl] rfl ?_;exact rd (i+1) (by omega) ⟨hlt,hf⟩ rfl
 ·obtain rfl:i=c.l.length:=by omega
  rw [Yt] at hf;simp only [Cj] at hf;injection hf with hf; subst hf;exact Uh [] [0] [.f (by simp [hw])] rfl
theorem lG {T:Nat} {c:Cr} {r0:Us} {r1:Us×Us} {at_:Tm} {l:List Ct} {ws:List Wt} (hc:CrOk c) (ha:Va at_) (hl:∀ x∈l,Cp x.p) (hn:l.length≤1000) (h:Tl c.l at_ (Fx l)=some ws):U7 prog 250 [.one (.ow 0 0),.agg (ta at_),.one (.bool true),.one (.row (Fo l))] [.blk T (Tt c r0 r1)] [] [.blk T (Tt ⟨at_,ws,c.ev⟩ r0 r1)]:=by
 have cs:=xB (l:=l) (λx hx=>Dp.pb (hl x hx).dp) (by omega);have cl:=S9 (b:=at_) (l:=[]) ha.tb (λt ht=>by cases ht) (by decide) rfl;obtain ⟨h1,h2⟩:=XP h;have hs:(Fx l).length=l.length:=Do l;refine Fw func250 rfl ?_;refine Ud [.o 8 352 18,.k cs] rfl ?_;refine Ui (S:=Nat) 3 (λL1 i=>(15,.v (.oi i))::(8,.v (.one (.orow 2 18 none)))::L1) (λi=>[.blk T (Tt c r0 r1),.blk 105 (ta at_),.row false 352 18 (C7 (ws.take i))]) (λi=>ws.length-i) (λi=>i<=ws.length) 0 (Qh _) rfl rfl λi hi=>?_
 by_cases hlt:i<ws.length
 ·obtain ⟨x,hx⟩:=gxE (l:=(Fx l)) (i:=i) (by omega);obtain ⟨w,hw,hw'⟩:=h2 i x hx;have hm:∀ y∈[wl w],y.length=18:=λy hy=>by rw [Qk.1 hy]; rfl
  have hlt':decide ((i:Int)<((Fo (Fx l)).length:Int))=true:=by simp [Fo]; omega
  have ck:=Qm9 (T:=T) (r0:=r0) (r1:=r1) hc (hl x (VX (Qc hx))) ha hw;have hg:=Ab hw';obtain ⟨wc,wk,wf⟩:=w;cases wf <;> (refine go tt [.t hlt',.x (KD hx),.t rfl,.c [0] ck,.s (sz:=18) hm] rfl (by simp [U4,Sx]; omega) ?_; exact rd (i+1) (by omega) hlt (by rw [hg]; rfl))
 ·obtain rfl:i=ws.length:=by omega
  rw [Q6];have hge:decide ((ws.length:Int)<((Fo (Fx l)).length:Int))=false:=by simp [Fo]; omega
  exact Uh [] [0] [.f hge,.p 2,.k cl] rfl
theorem Qna {T:Nat} {r0:Us} {r1:Us×Us} {at_:Tm} {l:List Ct} (ha:Va at_) (hl:∀ x∈l,Cp x.p) (hn:l.length≤1000):U7 prog 250 [.one (.ow 0 0),.agg (ta at_),.one (.bool false),.one (.row (Fo l))] [.blk T (Qt7 (.row r0) (.row r1.1,.row r1.2))] [] [.blk T (Tt ⟨at_,(Fx l).map fresh,0⟩ r0 r1)]:=by
 have cs:=xB (l:=l) (λx hx=>Dp.pb (hl x hx).dp) (by omega);have cl:=S9 (b:=at_) (l:=[]) ha.tb (λt ht=>by cases ht) (by decide) rfl;have hs:(Fx l).length=l.length:=Do l;refine Fw func250 rfl ?_;refine Ud [.o 8 352 18,.k cs] rfl ?_;refine Ui (S:=Nat) 3 (λL1 i=>(15,.v (.oi i))::(8,.v (.one (.orow 2 18 none)))::L1) (λi=>[.blk T (Qt7 (.row r0) (.row r1.1,.row r1.2)),.blk 105 (ta at_),.row false 352 18 (C7 (((Fx l).map fresh).take i))]) (λi=>l.length-i) (λi=>i<=l.length) 0 (Qh _) rfl rfl λi hi=>?_
 by_cases hlt:i<l.length
 ·obtain ⟨x,hx⟩:=gxE (l:=(Fx l)) (i:=i) (by omega);have hm:∀ y∈[wl (fresh x)],y.length=18:=λy hy=>by rw [Qk.1 hy]; rfl
  have hlt':decide ((i:Int)<((Fo (Fx l)).length:Int))=true:=by simp [Fo]; omega
  have hg:=Ab (l:=(Fx l).map fresh) (i:=i) (w:=fresh x) (by rw [Q9,hx]; rfl);refine go tt [.t hlt',.x (KD hx),.z 20,.f rfl,.s (sz:=18) hm] rfl (by simp [U4,Sx]; omega) ?_;exact rd (i+1) (by omega) hlt (by rw [hg]; rfl)
 ·obtain rfl:i=l.length:=by omega
  rw [Qo (by simp; omega)];have hge:decide ((l.length:Int)<((Fo (Fx l)).length:Int))=false:=by simp [Fo]; omega
  exact Uh [] [0] [.f hge,.p 2,.k cl] rfl
theorem Qbc {T:Nat} {r0:Us} {r1:Us×Us} {at_:Tm} {l:List Ct} (ha:Va at_) (hl:∀ x∈l,Cp x.p) (hn:l.length≤1000):U7 prog 194 [.one (.ow 0 0),.agg (ta at_),.one (.row (Fo l))] [.blk T (Qt7 (.row r0) (.row r1.1,.row r1.2))] [] [.blk T (Tt ⟨at_,(Fx l).map fresh,0⟩ r0 r1)]:=by
 have cl:=Qna (T:=T) (r0:=r0) (r1:=r1) ha hl hn;refine Fw func194 rfl ?_;exact Uh [] [0] [.g 12 false rfl,.c [0] cl] rfl
theorem Qbd {T:Nat} {c:Cr} {r0:Us} {r1:Us×Us} {at_:Tm} {l:List Ct} {ws:List Wt} {k:Int} (hc:CrOk c) (ha:Va at_) (hk:UR at_ c.now=some k) (h0:0≤k) (hl:∀ x∈l,Cp x.p) (hn:l.length≤1000) (h:Tl c.l at_ (Fx l)=some ws):U7 prog 194 [.one (.ow 0 0),.agg (ta at_),.one (.row (Fo l))] [.blk T (Tt c r0 r1)] [] [.blk T (Tt ⟨at_,ws,c.ev⟩ r0 r1)]:=by
 have cl:=lG (T:=T) (r0:=r0) (r1:=r1) hc ha hl hn h;have cc:=KV ha.tb hc.n.tb hk;refine Fw func194 rfl ?_;exact Uh [] [0] [.g 12 true rfl,.k cc,.r 20 (eB (show decide (0<=k)=true by simpa using h0)),.c [0] cl] rfl
theorem Qnb {T:Nat} {c:Cr} {r0:Us} {r1:Us×Us} {ws:List Wt} (hc:CrOk c) (h:Of c.now c.l=some ws):U7 prog 395 [.one (.ow 0 0)] [.blk T (Tt c r0 r1)] [] [.blk T (Tt { c with l:=ws } r0 r1)]:=by
 have hk:=hc.k;have hw:=Sx c.l;obtain ⟨h1,h2⟩:=YN h;refine Fw func395 rfl ?_;refine Ud [.o 2 352 18,.c [0] (pI hc.n)] rfl ?_;refine Ui (S:=Nat) 3 (λL1 i=>(13,.v (.oi i))::(2,.v (.one (.orow 1 18 none)))::L1) (λi=>[.blk T (Tt c r0 r1),.row false 352 18 (C7 (ws.take i)),.blk 105 (ta c.now)]) (λi=>c.l.length-i) (λi=>i<=c.l.length) 0 (Qh _) rfl rfl λi hi=>?_
 by_cases hlt:i<c.l.length
 ·obtain ⟨w,hx⟩:=gxE (l:=c.l) (i:=i) hlt;obtain ⟨v,hv,h3⟩:=h2 i w hx;have hm:∀ y∈[wl v],y.length=18:=λy hy=>by rw [Qk.1 hy]; rfl
  have hg:=Ab hv;have hl:decide ((i:Int)<((C7 c.l).length:Int))=true:=by simp [hw]; omega
  rcases h3 with ⟨k1,rfl⟩ | ⟨k1,r,k2,rfl⟩
  ·obtain ⟨vc,vk,vf⟩:=v;cases vf <;> (refine go tt [.t hl,.x (H5 hx),.f (by rw [show vk=true from k1]; rfl),.s (sz:=18) hm] rfl (by simp [U4,Sx]; omega) ?_; exact rd (i+1) (by omega) hlt (by rw [hg]; rfl))
  ·have cg:=wV (hc.l w (Qc hx)).p hc.n k2;obtain ⟨wc,wk,wf⟩:=w;cases r <;> cases wf <;> (refine go tt [.t hl,.x (H5 hx),.t (by rw [show wk=false from k1]; rfl),.k cg,.s (sz:=18) hm] rfl (by simp [U4,Sx]; omega) ?_; exact rd (i+1) (by omega) hlt (by rw [hg]; rfl))
 ·obtain rfl:i=c.l.length:=by omega
  rw [<-h1,Q6];exact Uh [1] [0] [.f (by simp [hw,h1])] rfl
theorem Qnc {T:Nat} {c:Cr} {r0:Us} {r1:Us×Us} {ws:List Wt} {r:Option Tm} (hc:CrOk c) (h:Of c.now c.l=some ws) (hr:IJ ws=some r):U7 prog 392 [.one (.ow 0 0)] [.blk T (Tt c r0 r1)] [.agg (ota r),.one (.bool r.isSome)] [.blk T (Tt { c with l:=ws } r0 r1)]:=by
 have hcl:=Qnb (T:=T) (r0:=r0) (r1:=r1) hc h;have hc':=Eo hc h;have hk:=hc'.k;have hw:=Sx ws;have hvb:∀ t∈ws.filterMap (·.fails),Tb t:=λt ht=>by
  obtain ⟨w,w1,w2⟩:=Ji.1 ht;exact ((hc'.l w w1).f t w2).tb
 refine Fw func392 rfl ?_;refine Ud [.c [0] hcl,.o 4 105 9] rfl ?_;refine Ui (S:=Nat) 3 (λL1 i=>(14,.v (.oi i))::(4,.v (.one (.orow 2 9 none)))::L1) (λi=>[.blk T (Tt { c with l:=ws } r0 r1),.blk 105 zTm,.row false 105 9 (tal ((ws.take i).filterMap (·.fails)))]) (λi=>ws.length-i) (λi=>i<=ws.length) 0 (Qh _) rfl rfl λi hi=>?_
 by_cases hlt:i<ws.length
 ·obtain ⟨w,hx⟩:=gxE (l:=ws) (i:=i) hlt;have hl:decide ((i:Int)<((C7 ws).length:Int))=true:=by simp [hw]; omega
  have hfl:((ws.take i).filterMap (·.fails)).length<=i:=Qa (Vb _ _) (by rw [Qq]; omega);have hg:(ws.take (i+1)).filterMap (·.fails)=(ws.take i).filterMap (·.fails)++(match w.fails with | none=>[] | some t=>[t]):=by
   rw [Z1,hx,List.filterMap_append];show _++List.filterMap (·.fails) [w]=_;cases hwf:w.fails <;> simp [hwf]
  obtain ⟨wc,wk,wf⟩:=w;have hk:ws.length<=1000:=hk;cases wf with
  |
   none =>
   refine Ue [.t hl,.x (H5 hx),.f rfl] rfl ?_;exact rd (i+1) (by omega) hlt (by rw [hg]; simp; rfl)
  |
   some t =>
   refine Ue [.t hl,.x (H5 hx),.t rfl,.s (l:=[ta t]) (sz:=9) (λc hc=>by rw [Qk.1 hc]; rfl)] rfl ?_;exact rd (i+1) (by omega) hlt (by rw [hg]; simp [tal]; rfl)
 ·obtain rfl:i=ws.length:=by omega
  rw [Q6];have hf:decide ((ws.length:Int)<((C7 ws).length:Int))=false:=by simp [hw]
  have hln:(ws.filterMap (·.fails)).length<=1000:=Qa (Vb _ _) hk;unfold IJ at hr;cases hfm:ws.filterMap (·.fails) with
  |
   nil =>
   rw [hfm] at hr;injection hr with hr; subst hr;exact Uh [] [0] [.f hf,.p 2,.k wK] rfl
  |
   cons b l =>
   rw [hfm] at hr hvb hln;obtain ⟨m,m1,rfl⟩:=Yx.1 hr;have cl:=S9 (hvb b (Qx ..)) (λt ht=>hvb t (Qg _ ht)) (by simp at hln; omega) m1;exact Uh [] [0] [.f hf,.p 2,.k cl] rfl
theorem Qxr {T:Nat} {t:Rat} {Bc:Tm->List Ct} {Br:Tm->Us×Us} {r0:Us} (ht:Qs 1640000 t) (hB:BuildOk Bc)
 (hb:∀ a c r1,Va a->CrOk c->U7 prog 196 [.one (.ow 0 0),.agg (ta a)] [.blk T (Tt c r0 r1)] [.one (.row (Fo (Bc a)))] [.blk T (Tt c r0 (Br a))])
 {K:Nat} {c c':Cr} {r1 r1':Us×Us} {n:Int} (hc:CrOk c) (hev:0<=c.ev/\c.ev+K<=1000000000000000000) (h:Fp c.now t<=0) (hg:KI Bc Br t K c r1 0=some (c',r1',n)) :
 U7 prog 396 [.one (.ow 0 0),.agg (rl t),.one (.ofn 196 [.ow 0 0] [])] [.blk T (Tt c r0 r1)] [.oi n,.oi 0] [.blk T (Tt c' r0 r1')]:=by
 have qt:Qb t:=ht.mono (by decide);have c1:=Df hc.n.tb qt;refine Fw func396 rfl ?_;refine Ud [.c [0] (pI hc.n),.k c1,.f (by simpa using h)] rfl ?_;refine Ui (S:=Nat×Cr×(Us×Us)×Int) 2 (λL1 s=>(8,.v (.oi s.2.2.2))::L1) (λs=>[.blk T (Tt s.2.1 r0 s.2.2.1),.blk 42 (rl t)]) (λs=>s.1) (λs=>CrOk s.2.1/\(0<=s.2.1.ev/\s.2.1.ev+s.1<=1000000000000000000)/\(0<=s.2.2.2/\s.2.2.2+s.1<=1000000000000000000)/\KI Bc Br t s.1 s.2.1 s.2.2.1 s.2.2.2=some (c',r1',n)) (K,c,r1,0) ⟨hc,hev,⟨Int.le_refl 0,by dsimp only; omega⟩,hg⟩ rfl rfl λ⟨k,x,r,m⟩ ⟨j1,j2,j3,j4⟩=>?_
 dsimp only at j1 j2 j3 j4 ⊢;cases k with
 | zero=>cases j4
 |
  succ k =>
  simp only [KI] at j4;obtain ⟨ws,w1,j4⟩:=Qd.1 j4;obtain ⟨o,o1,j4⟩:=Qd.1 j4;have cn:=Qnc (T:=T) (r0:=r0) (r1:=r) j1 w1 o1;have ca:=VD (U5 t.num) (U5 (t.den:Int)) (Qa ht.1 (by decide)) (Qa ht.2 (by decide)) (by rw [Ts]; exact ht.mono (by decide));rw [Ts] at ca;cases o with
  |
   none =>
   injection j4 with j4; injection j4 with e1 j4; injection j4 with e2 e3;subst e1; subst e2; subst e3;exact Uh [] [0] [.c [0] cn,.g 25 true rfl,.t rfl,.k ca] rfl
  |
   some a =>
   have ha:=LM j1 w1 o1;dsimp only at j4;have cc:=Df ha.tb qt;by_cases h0:0<Fp a t
   ·rw [if_pos h0] at j4;injection j4 with j4; injection j4 with e1 j4; injection j4 with e2 e3;subst e1; subst e2; subst e3;exact Uh [] [0] [.c [0] cn,.g 25 false rfl,.k cc,.t (by simpa using h0),.k ca] rfl
   ·rw [if_neg h0] at j4;obtain ⟨w2,l1,j4⟩:=Qd.1 j4;have j1':=Eo j1 w1;have cl:=S9 (b:=a) (l:=[]) ha.tb (λt ht=>by cases ht) (by decide) rfl;have cb:=hb a { x with l:=ws } r ha j1';have cy:=lG (T:=T) (r0:=r0) (r1:=Br a) j1' ha (hB.p a ha) (hB.n a ha) l1;have hf:decide (0<Fp a t)=false:=by simpa using h0
    refine Ue [.c [0] cn,.g 25 false rfl,.k cc,.f hf,.k cl,.c [0] cb,.c [0] cy] rfl ?_;exact rd (k,⟨a,w2,x.ev+1⟩,Br a,m+1) (by dsimp only; omega) ⟨lay_ok _ j1' ha (hB.p a ha) (hB.n a ha) l1,by dsimp only; omega,by dsimp only; omega,j4⟩ rfl
theorem Qbe {T:Nat} {c:Cr} {r0:Us} {r1:Us×Us}:U7 prog 391 [.one (.ow 0 0)] [.blk T (Tt c r0 r1)] [.oi c.ev] [.blk T (Tt c r0 r1)]:=by
 refine Fw func391 rfl ?_;exact Uh [] [0] [] rfl
end Orr
namespace Orr
open Go Go.Proofs Tryz Orq
def PT (k:Crv):Int:=max (max 0 ((k.x.length:Int)-1)) ((k.y.length:Int)-1)
structure Es where
 np:Int
 nd:Int
 M:List Pt
 q:Rat
 s:Cr
 t:Cr
 h:Cr
 p:Cr
 d:Cr
structure Em where
 np:Int
 nd:Int
 M:List Pt
 q:Rat
 s:Int
 t:Int
 h:Int
 p:Int
 d:Int
def Es.m (E:Es):Em:=⟨E.np,E.nd,E.M,E.q,E.s.ev,E.t.ev,E.h.ev,E.p.ev,E.d.ev⟩
structure MEn (np nd:Int) (M:List Pt):Prop where
 m:MOk M
 len:(M.length:Int)<=np
 deg:∀ p∈M,PT p.c≤nd
 id:∀ p∈M,0≤p.id/\p.id≤1048576
structure EOk (b:Int) (E:Es):Prop where
 np:1<=E.np/\E.np<=6
 nd:0<=E.nd/\E.nd<=2
 m:MEn E.np E.nd E.M
 q:Qs 128 E.q
 s:At kS E.M E.q E.s
 t:At kT E.M E.q E.t
 h:At kH E.M E.q E.h
 p:At kP E.M E.q E.p
 d:At kD E.M E.q E.d
 es:0<=E.s.ev/\E.s.ev<=b
 et:0<=E.t.ev/\E.t.ev<=b
 eh:0<=E.h.ev/\E.h.ev<=b
 ep:0<=E.p.ev/\E.p.ev<=b
 ed:0<=E.d.ev/\E.d.ev<=b
theorem EOk.mono {b c:Int} {E:Es} (h:EOk b E) (hb:b<=c):EOk c E:={ h with es:=⟨h.es.1,by have:=h.es.2; omega⟩,et:=⟨h.et.1,by have:=h.et.2; omega⟩,eh:=⟨h.eh.1,by have:=h.eh.2; omega⟩,ep:=⟨h.ep.1,by have:=h.ep.2; omega⟩,ed:=⟨h.ed.1,by have:=h.ed.2; omega⟩ }
abbrev mD (k:Nat) (q:Rat):Ur:=[.ow (k+1) 0,sg q.num,mg q.num,sg (q.den:Int),mg (q.den:Int),.ow (k+2) 0,.ow (k+3) 0,.ow (k+4) 0,.ow (k+5) 0,.ow (k+6) 0]
abbrev taR (np nd:Int) (M:List Pt):Ur:=[.int .i64 np,.int .i64 nd,pts M]
abbrev bS (c:Cr) (M:List Pt) (q:Rat):OB:=.blk 220 (Hm c (U3 M) (IG M (tq q)))
abbrev bT (c:Cr) (M:List Pt) (q:Rat):OB:=.blk 223 (Tt c (U3 M) (pR M (tq q)))
abbrev bH (c:Cr) (M:List Pt) (q:Rat):OB:=.blk 225 (Hm c (U3 M) (brH M (tq q)))
abbrev bP (c:Cr) (M:List Pt) (q:Rat):OB:=.blk 227 (Hm c (U3 M) (brP M (tq q)))
abbrev bD (c:Cr) (M:List Pt) (q:Rat):OB:=.blk 229 (Hm c (U3 M) (pH M (tq q)))
abbrev enB (k:Nat) (E:Es):Ut:=[.blk 80 (mD k E.q),.blk 159 (taR E.np E.nd E.M),bS E.s E.M E.q,bT E.t E.M E.q,bH E.h E.M E.q,bP E.p E.M E.q,bD E.d E.M E.q]
end Orr
namespace Orr
open Go Go.Proofs Tryz Orq
set_option maxRecDepth 10000
theorem YD {l:List Pt} {id:Int} (h:has l id=true):Rv l id<l.length:=by
 rcases Zb (Rv l id) l.length with h1 | h1
 ·exact h1
 ·simp [has,Qu h1] at h
theorem UU {lx ly:Us} {px py:Um} {x y:LV} {d id:Int} {l:List Pt} (hx:IsInts lx px) (hy:IsInts ly py) (hd:Ge x y d) (hk:Cs 4294967294 1073741824 (Crv.mk px py d)) (hl:l.length<=1000000) (h:has l id=true) :
 Uj 399 [.agg [pts l],.agg [.row lx,.row ly,x,y,.int .i64 id]] [.agg [pts (l.set (Rv l id) (Pt.mk (Crv.norm (Crv.mk px py d)) id))],.oi 0]:=by
 have ca:=Qfj (l:=l) id (by omega);have cf:=lM hx hy hd hk id;obtain ⟨b,r,rfl,rfl,_⟩:=hd;obtain ⟨q,hq⟩:=nmE (Pt.mk (Crv.norm (Crv.mk px py d)) id);rw [<-hq] at cf ⊢;have hpl:=YD h;rw [h] at ca;have e:pts (l.set (Rv l id) q)=.row ((l.map Fc).set (Rv l id) (Fc q)):=by unfold pts; rw [List.map_set]
 rw [e];exact Ug func399 rfl [.k ca,.f rfl,.s (Ss l),.k cf,.i (Rv l id)] rfl rfl (by simp [U4]; omega)
theorem UK {l:List Pt} {id:Int} (hl:l.length<=1000000) (h:has l id=true) :
 Uj 398 [.agg [pts l],.oi id] [.agg [pts (l.take (Rv l id)++l.drop (Rv l id+1))],.oi 0]:=by
 have ca:=Qfj (l:=l) id (by omega);have hpl:=YD h;rw [h] at ca;have s1:∀ c∈(l.map Fc).take (Rv l id),c.length=5:=λc hc=>Ss l c (Qn hc)
 have s3:∀ c∈(l.map Fc).drop (Rv l id+1),c.length=5:=λc hc=>Ss l c (Qz hc)
 have e:pts (l.take (Rv l id)++l.drop (Rv l id+1))=.row ((l.map Fc).take (Rv l id)++(l.map Fc).drop (Rv l id+1)):=by unfold pts; rw [List.map_append,List.map_take,List.map_drop]
 rw [e];refine Ug func398 rfl [.k ca,.f rfl,.i (Rv l id),.s s1,.i (Rv l id+1),.s s3] rfl ?_ ?_
 ·simp
 ·have h1:(List.map Fc l).length=l.length:=by simp
  have h2:∀ z∈List.map Fc l,z.length=ti40.sz:=Ss l;simp only [U4,Qq,Q8,h1]
  and_intros <;> first | exact h2 | omega
theorem kF (l:Uo):(lm l).length=l.length:=by simp [lm]
theorem ZS {z:Int}:(Gd z.natAbs).length<=4↔Fe z<=128:=by
 constructor
 ·intro h;have h1:=Bs (Gd z.natAbs) (Dl z.natAbs).1;rw [G9] at h1;refine Sf.2 (Z6 h1 (Qa (Zs (by decide) h) (by decide)))
 ·intro h;have:=Td (x:=z.natAbs) (k:=128) h;omega
def ZX (k:Crv):Bool:=(k.x++k.y++[k.d]).all λz=>decide (Fe z<=128)
theorem EC {k:Crv}:ZX k=true↔(∀ z∈k.x,Fe z≤128)/\(∀ z∈k.y,Fe z≤128)/\Fe k.d≤128:=by
 unfold ZX;simp only [List.all_append,Zn,Jt,decide_eq_true_iff,Qk,forall_eq];constructor
 ·rintro ⟨⟨h1,h2⟩,h3⟩; exact ⟨h1,h2,h3⟩
 ·rintro ⟨h1,h2,h3⟩; exact ⟨⟨h1,h2⟩,h3⟩
theorem WN {k:Crv} {z:Int} (hz:z∈k.x++k.y++[k.d]) (h:¬Fe z<=128):ZX k=false:=by
 unfold ZX;rw [<-Bool.not_eq_true,Jt];intro h';exact h (of_decide_eq_true (h' z hz))
abbrev tB (np nd:Int) (l:List Pt):OB:=.blk 159 (taR np nd l)
theorem lE {np nd:Int} {l:List Pt} (id:Int) (hl:l.length<1073741824):U7 prog 183 [.one (.ow 0 0),.oi id] [tB np nd l] [.oi (Rv l id:Int),.one (.bool (has l id))] [tB np nd l]:=by
 refine Fw func183 rfl ?_;refine Ud [] rfl ?_;refine ct 2 (S:=Unit) (λ_=>[(1,.v (.oi id)),(0,.v (.one (.ow 0 0))),(6,.v (.oi (Rv l id:Int)))]) (λ_=>[tB np nd l]) (λ_=>True) rfl ?_ ?_
 ·refine Ui (S:=Nat) 1 (λL1 k=>(6,.v (.oi k))::L1) (λ_=>[tB np nd l]) (λk=>l.length-k) (λk=>k<=l.length/\∀ j p,j<k->l[j]? = some p->p.id<id) 0 ⟨Qh _,λj p h=>by omega⟩ rfl rfl λk ⟨hk,hlt⟩=>?_
  by_cases h:k<l.length
  ·obtain ⟨p,hp⟩:=gxE (l:=l) (i:=k) h;by_cases hid:p.id<id
   ·refine Ue [.t (by simp; omega),.x (Ti hp),.t (by simpa using hid)] rfl ?_;exact rd (k+1) (by omega) ⟨h,λj q hj hq=>by
     rcases Zb j k with h2 | h2
     ·exact hlt j q h2 hq
     ·have:j=k:=by omega
      subst this; rw [hp] at hq; injection hq with hq; rw [<-hq]; exact hid⟩ rfl
   ·have e:=EK hlt (.inr ⟨p,hp,hid⟩);refine Ud [.t (by simp; omega),.x (Ti hp),.f (by simpa using hid)] rfl ?_;rw [e];exact rc () trivial rfl
  ·obtain rfl:k=l.length:=by omega
   have e:=EK hlt (.inl rfl);refine Ud [.f (by simp),.f rfl] rfl ?_;rw [e];exact rc () trivial rfl
 ·intro _ _;by_cases h:Rv l id<l.length
  ·obtain ⟨p,hp⟩:=gxE (l:=l) (i:=Rv l id) h;have e:has l id=decide (p.id=id):=by simp [has,hp]
   rw [e];exact Uh [] [0] [.g 36 true (by simp; omega),.x (Ti hp)] rfl
  ·have e:has l id=false:=by simp [has,Qu (J8 h)]
   rw [e];exact Uh [] [0] [.g 36 false (by simp; omega)] rfl
theorem HN {lx ly:Us} {px py:Um} {x y:LV} {d:Int} (hx:IsInts lx px) (hy:IsInts ly py) (hd:Ge x y d) (hk:Cs 4294967294 1073741824 (Crv.mk px py d)) (id:Int):Uj 86 [.agg [.row lx,.row ly,x,y,.int .i64 id]] [.agg (Fc ⟨Crv.norm (Crv.mk px py d),id⟩)]:=by
 have cd:=Mk hd (Qa hk.d (by omega));by_cases h0:d=0
 ·subst h0;have ck:Cs 4294967294 1073741824 (Crv.mk px py 1):=⟨hk.x,hk.y,show Fe 1<=4294967294 by decide,hk.lx,hk.ly⟩;have cm:=UW hx hy (U5 1) ck (by decide);have e:Crv.norm (Crv.mk px py 1)=Crv.norm (Crv.mk px py 0):=by simp only [Crv.norm,Crv.g,Crv.d']; rfl
  rw [e] at cm;obtain ⟨b,l,rfl,rfl,_⟩:=hd;exact Ug func86 rfl [.k cd,.k Dh,.t (by simp),.k (BF (z:=1) (by decide)),.k cm] rfl
 ·have cm:=UW hx hy hd hk h0;obtain ⟨b,l,rfl,rfl,_⟩:=hd;exact Ug func86 rfl [.k cd,.k Dh,.f (by simpa using h0),.k cm] rfl
theorem mV {p:Pt} (hn:ZB p.c) (hk:Cs 4294967294 1073741824 p.c):Uj 86 [.agg (Fc p)] [.agg (Fc p)]:=by
 have h:=HN (Gp p.c.x) (Gp p.c.y) (U5 p.c.d) hk p.id;rw [show Crv.mk p.c.x p.c.y p.c.d=p.c from rfl,Crv.norm_of hn] at h; exact h
theorem Qf4 {k:Crv} (hk:Cs 4294967294 1073741824 k):Uj 245 [.agg (cl k)] [.one (.bool (ZX k))]:=by
 have hlx:=hk.lx;have hly:=hk.ly;refine Fw func245 rfl ?_;refine Ud [] rfl ?_;refine Ui (S:=Nat) 1 (λL1 i=>(15,.v (.oi i))::L1) (λ_=>[.blk 38 (cl k)]) (λi=>3-i) (λi=>i≤3/\(0<i->∀ z∈k.x,Fe z≤128)/\(1<i->∀ z∈k.y,Fe z≤128)/\(2<i->Fe k.d≤128)) 0 ⟨by decide,by omega,by omega,by omega⟩ rfl rfl λi ⟨hi,g0,g1,g2⟩=>?_
 rcases (show i=0\/i=1\/i=2\/i=3 by omega) with rfl | rfl | rfl | rfl
 ·have hl:((k.x).map Hg).length=(k.x).length:=by simp
  refine Ud [.t rfl,.i 0] rfl ?_ (by simp [U4]);refine Ui (S:=Nat) 1 (λL1 j=>(20,.v (.oi j))::L1) (λ_=>[.blk 38 (cl k)]) (λj=>(k.x).length-j) (λj=>j<=(k.x).length/\∀ n z,n<j->(k.x)[n]? = some z->Fe z<=128) 0 ⟨Qh _,λn z h=>by omega⟩ rfl rfl λj ⟨hj,hs⟩=>?_
  by_cases h:j<(k.x).length
  ·obtain ⟨z,hz⟩:=gxE (l:=(k.x)) (i:=j) h;by_cases hb:Fe z<=128
   ·have hb4:=ZS.2 hb;refine Ue [.t (by simp; omega),.x (G6 (f:=Hg) hz),.f (by simp [kF]; omega)] rfl ?_;exact rd (j+1) (by omega) ⟨h,λn y hn hy=>by
     rcases Zb n j with h2 | h2
     ·exact hs n y h2 hy
     ·have:n=j:=by omega
      subst this; rw [hz] at hy; injection hy with hy; rw [<-hy]; exact hb⟩ rfl
   ·have hb4:=mt ZS.1 hb;rw [WN (Qr.2 (.inl (Qr.2 (.inl (Qc hz))))) hb];exact Uf [.t (by simp; omega),.x (G6 (f:=Hg) hz),.t (by simp [kF]; omega)] rfl
  ·have hall:∀ z∈k.x,Fe z≤128:=λz hz=>by
    obtain ⟨n,hn⟩:=Xu hz;exact hs n z (by have:=(Qf.1 hn).1; omega) hn
   refine Ud [.f (by simp; omega)] rfl ?_ (by simp [U4]);exact rd 1 (by omega) ⟨by omega,λ_=>hall,by omega,by omega⟩ rfl
 ·have hl:((k.y).map Hg).length=(k.y).length:=by simp
  refine Ud [.t rfl,.i 1] rfl ?_ (by simp [U4]);refine Ui (S:=Nat) 1 (λL1 j=>(20,.v (.oi j))::L1) (λ_=>[.blk 38 (cl k)]) (λj=>(k.y).length-j) (λj=>j<=(k.y).length/\∀ n z,n<j->(k.y)[n]? = some z->Fe z<=128) 0 ⟨Qh _,λn z h=>by omega⟩ rfl rfl λj ⟨hj,hs⟩=>?_
  by_cases h:j<(k.y).length
  ·obtain ⟨z,hz⟩:=gxE (l:=(k.y)) (i:=j) h;by_cases hb:Fe z<=128
   ·have hb4:=ZS.2 hb;refine Ue [.t (by simp; omega),.x (G6 (f:=Hg) hz),.f (by simp [kF]; omega)] rfl ?_;exact rd (j+1) (by omega) ⟨h,λn y hn hy=>by
     rcases Zb n j with h2 | h2
     ·exact hs n y h2 hy
     ·have:n=j:=by omega
      subst this; rw [hz] at hy; injection hy with hy; rw [<-hy]; exact hb⟩ rfl
   ·have hb4:=mt ZS.1 hb;rw [WN (Qr.2 (.inl (Qr.2 (.inr (Qc hz))))) hb];exact Uf [.t (by simp; omega),.x (G6 (f:=Hg) hz),.t (by simp [kF]; omega)] rfl
  ·have hall:∀ z∈k.y,Fe z≤128:=λz hz=>by
    obtain ⟨n,hn⟩:=Xu hz;exact hs n z (by have:=(Qf.1 hn).1; omega) hn
   refine Ud [.f (by simp; omega)] rfl ?_ (by simp [U4]);exact rd 2 (by omega) ⟨by omega,λ_=>g0 (by omega),λ_=>hall,by omega⟩ rfl
 ·have hl:(([k.d]).map Hg).length=([k.d]).length:=by simp
  have h1:([k.d]).length=1:=rfl;refine Ud [.t rfl,.i 2] rfl ?_ (by simp [U4]);refine Ui (S:=Nat) 1 (λL1 j=>(20,.v (.oi j))::L1) (λ_=>[.blk 38 (cl k)]) (λj=>([k.d]).length-j) (λj=>j<=([k.d]).length/\∀ n z,n<j->([k.d])[n]? = some z->Fe z<=128) 0 ⟨Qh _,λn z h=>by omega⟩ rfl rfl λj ⟨hj,hs⟩=>?_
  by_cases h:j<([k.d]).length
  ·obtain ⟨z,hz⟩:=gxE (l:=([k.d])) (i:=j) h;by_cases hb:Fe z<=128
   ·have hb4:=ZS.2 hb;refine Ue [.t (by simp; omega),.x (G6 (f:=Hg) hz),.f (by simp [kF]; omega)] rfl ?_;exact rd (j+1) (by omega) ⟨h,λn y hn hy=>by
     rcases Zb n j with h2 | h2
     ·exact hs n y h2 hy
     ·have:n=j:=by omega
      subst this; rw [hz] at hy; injection hy with hy; rw [<-hy]; exact hb⟩ rfl
   ·have hb4:=mt ZS.1 hb;rw [WN (Qr.2 (.inr (Qc hz))) hb];exact Uf [.t (by simp; omega),.x (G6 (f:=Hg) hz),.t (by simp [kF]; omega)] rfl
  ·have hall:∀ z∈[k.d],Fe z≤128:=λz hz=>by
    obtain ⟨n,hn⟩:=Xu hz;exact hs n z (by have:=(Qf.1 hn).1; omega) hn
   refine Ud [.f (by simp; omega)] rfl ?_ (by simp [U4]);exact rd 3 (by omega) ⟨by omega,λ_=>g0 (by omega),λ_=>g1 (by omega),λ_=>hall k.d (by simp)⟩ rfl
 ·rw [EC.2 ⟨g0 (by omega),g1 (by omega),g2 (by omega)⟩];exact Uf [.f rfl] rfl
def XL (p:Pt):Bool:=decide (0<=p.id) && (decide (p.id<=1048576) && ZX p.c)
theorem Qga {p:Pt} (hk:Cs 4294967294 1073741824 p.c):Uj 184 [.agg (Fc p)] [.one (.bool (XL p))]:=by
 have cs:=Qf4 hk;by_cases h0:0<=p.id
 ·by_cases h1:p.id<=1048576
  ·have e:XL p=ZX p.c:=by simp [XL,h0,h1]
   rw [e];exact Ug func184 rfl [.t (by simpa using h0),.t (by simpa using h1),.k cs] rfl
  ·have e:XL p=false:=by simp [XL,h1]
   rw [e];exact Ug func184 rfl [.t (by simpa using h0),.f (by simpa using h1)] rfl
 ·have e:XL p=false:=by simp [XL,h0]
  rw [e];exact Ug func184 rfl [.f (by simpa using h0),.f rfl] rfl
theorem Qfi {k:Crv} (hn:ZB k) (hk:Cs 4294967294 1073741824 k):Uj 185 [.agg (cl k)] [.oi (PT k)] :=
 Ug func185 rfl [.k (BN hn hk),.k (P7 k.x),.k (P7 k.y)] rfl
def No (np nd:Int) (M:List Pt) (p:Pt):Int:=if XL p=false then 1 else if has M p.id=true then 6 else if nd<PT p.c then 7 else if np<=(M.length:Int) then 9 else 0
theorem Qt2 {lx ly:Us} {px py:Um} {x y:LV} {d id np nd:Int} {l:List Pt} (hx:IsInts lx px) (hy:IsInts ly py) (hd:Ge x y d) (hk:Cs 4294967294 1073741824 (Crv.mk px py d)) (hl:l.length<=1000000) :
 U7 prog 132 [.one (.ow 0 0),.agg [.row lx,.row ly,x,y,.int .i64 id]] [tB np nd l] [.oi (No np nd l (Pt.mk (Crv.norm (Crv.mk px py d)) id))] [tB np nd (if No np nd l (Pt.mk (Crv.norm (Crv.mk px py d)) id)=0 then put l (Pt.mk (Crv.norm (Crv.mk px py d)) id) else l)]:=by
 have cf:=HN hx hy hd hk id;have hkn:=hk.norm (by omega);have hnm:=Crv.nml (Crv.mk px py d);obtain ⟨b,r,rfl,rfl,_⟩:=hd;obtain ⟨q,hq⟩:=nmE (Pt.mk (Crv.norm (Crv.mk px py d)) id);have hqi:q.id=id:=by rw [hq]
 have hqc:q.c=Crv.norm (Crv.mk px py d):=by rw [hq]
 rw [<-hq] at cf ⊢;rw [<-hqc] at hkn hnm;have ca:U7 prog 183 [.one (.ow 0 0),.oi q.id] [tB np nd l] [.oi (Rv l id:Int),.one (.bool (has l id))] [tB np nd l]:=by rw [hqi]; exact lE id (by omega)
 have cm:=Qga (p:=q) hkn;have cd:=Qfi hnm hkn;have hpl:=yI l id;have hll:(l.map Fc).length=l.length:=by simp
 by_cases h0:XL q=false
 ·have e:No np nd l q=1:=by simp [No,h0]
  rw [e,if_neg (by decide)];refine Fw func132 rfl ?_;exact Uh [] [0] [.k cf,.c [0] ca,.k cm,.t (by simp [h0])] rfl
 by_cases h1:has l id=true
 ·have e:No np nd l q=6:=by simp [No,h0,hqi,h1]
  rw [e,if_neg (by decide)];refine Fw func132 rfl ?_;exact Uh [] [0] [.k cf,.c [0] ca,.k cm,.f (by simpa using h0),.t h1] rfl
 by_cases h2:nd<PT q.c
 ·have e:No np nd l q=7:=by simp [No,h0,hqi,h1,h2]
  rw [e,if_neg (by decide)];refine Fw func132 rfl ?_;exact Uh [] [0] [.k cf,.c [0] ca,.k cm,.f (by simpa using h0),.f (by simpa using h1),.k cd,.t (by simpa using h2)] rfl
 by_cases h3:np<=(l.length:Int)
 ·have e:No np nd l q=9:=by simp [No,h0,hqi,h1,h2,h3]
  rw [e,if_neg (by decide)];refine Fw func132 rfl ?_;exact Uh [] [0] [.k cf,.c [0] ca,.k cm,.f (by simpa using h0),.f (by simpa using h1),.k cd,.f (by simpa using h2),.t (by simp; omega)] rfl
 have e:No np nd l q=0:=by simp [No,h0,hqi,h1,h2,h3]
 rw [e,if_pos rfl];have s1:∀ c∈(l.map Fc).take (Rv l id),c.length=5:=λc hc=>Ss l c (Qn hc)
 have s3:∀ c∈(l.map Fc).drop (Rv l id),c.length=5:=λc hc=>Ss l c (Qz hc)
 have ep:pts (put l q)=.row ((l.map Fc).take (Rv l id)++[Fc q]++(l.map Fc).drop (Rv l id)):=by
  simp [put,hqi,pts,Jv,Vh]
 have eB:tB np nd (put l q)=.blk 159 [.int .i64 np,.int .i64 nd,.row ((l.map Fc).take (Rv l id)++[Fc q]++(l.map Fc).drop (Rv l id))]:=by
  show OB.blk 159 [.int .i64 np,.int .i64 nd,pts (put l q)]=_;rw [ep]
 rw [eB];refine Fw func132 rfl ?_;exact Uh [2] [0] [.k cf,.c [0] ca,.k cm,.f (by simpa using h0),.f (by simpa using h1),.k cd,.f (by simpa using h2),.f (by simp; omega),.i (Rv l id),.s s1,.i (Rv l id),.s s3] rfl (by
  simp only [U4,Qy,Q5,Jg,Qq,Q8,hll]
  and_intros <;> first | exact Ss l | omega)
def M5 (nd:Int) (M:List Pt) (p:Pt):Int:=if XL p=false then 1 else if has M p.id=false then 5 else if nd<PT p.c then 7 else 0
theorem Qnx {lx ly:Us} {px py:Um} {x y:LV} {d id np nd:Int} {l:List Pt} (hx:IsInts lx px) (hy:IsInts ly py) (hd:Ge x y d) (hk:Cs 4294967294 1073741824 (Crv.mk px py d)) (hl:l.length<=1000000) :
 U7 prog 114 [.one (.ow 0 0),.agg [.row lx,.row ly,x,y,.int .i64 id]] [tB np nd l] [.oi (M5 nd l (Pt.mk (Crv.norm (Crv.mk px py d)) id))] [tB np nd (if M5 nd l (Pt.mk (Crv.norm (Crv.mk px py d)) id)=0 then l.set (Rv l id) (Pt.mk (Crv.norm (Crv.mk px py d)) id) else l)]:=by
 have cf:=HN hx hy hd hk id;have hkn:=hk.norm (by omega);have hnm:=Crv.nml (Crv.mk px py d);obtain ⟨b,r,rfl,rfl,_⟩:=hd;obtain ⟨q,hq⟩:=nmE (Pt.mk (Crv.norm (Crv.mk px py d)) id);have hqi:q.id=id:=by rw [hq]
 have hqc:q.c=Crv.norm (Crv.mk px py d):=by rw [hq]
 rw [<-hq] at cf ⊢;rw [<-hqc] at hkn hnm;have ca:U7 prog 183 [.one (.ow 0 0),.oi q.id] [tB np nd l] [.oi (Rv l id:Int),.one (.bool (has l id))] [tB np nd l]:=by rw [hqi]; exact lE id (by omega)
 have cm:=Qga (p:=q) hkn;have cd:=Qfi hnm hkn;have hpl:=yI l id;have hll:(l.map Fc).length=l.length:=by simp
 by_cases h0:XL q=false
 ·have e:M5 nd l q=1:=by simp [M5,h0]
  rw [e,if_neg (by decide)];refine Fw func114 rfl ?_;exact Uh [] [0] [.k cf,.c [0] ca,.k cm,.t (by simp [h0])] rfl
 by_cases h1:has l id=false
 ·have e:M5 nd l q=5:=by simp [M5,h0,hqi,h1]
  rw [e,if_neg (by decide)];refine Fw func114 rfl ?_;exact Uh [] [0] [.k cf,.c [0] ca,.k cm,.f (by simpa using h0),.t (by simp [h1])] rfl
 by_cases h2:nd<PT q.c
 ·have e:M5 nd l q=7:=by simp [M5,h0,hqi,h1,h2]
  rw [e,if_neg (by decide)];refine Fw func114 rfl ?_;exact Uh [] [0] [.k cf,.c [0] ca,.k cm,.f (by simpa using h0),.f (by simpa using h1),.k cd,.t (by simpa using h2)] rfl
 have e:M5 nd l q=0:=by simp [M5,h0,hqi,h1,h2]
 rw [e,if_pos rfl];have hh:has l id=true:=by simpa using h1
 have hps:=YD hh;have eB:tB np nd (l.set (Rv l id) q)=.blk 159 [.int .i64 np,.int .i64 nd,.row ((l.map Fc).set (Rv l id) (Fc q))]:=by
  show OB.blk 159 [.int .i64 np,.int .i64 nd,pts (l.set (Rv l id) q)]=_;unfold pts; rw [List.map_set]
 rw [eB];refine Fw func114 rfl ?_;exact Uh [2] [0] [.k cf,.c [0] ca,.k cm,.f (by simpa using h0),.f (by simpa using h1),.k cd,.f (by simpa using h2),.s (Ss l),.i (Rv l id)] rfl (by
  simp only [U4,hll]
  and_intros <;> first | exact Ss l | omega)
theorem Qnw {id np nd:Int} {l:List Pt} (hl:l.length<=1000000) (h:has l id=true) :
 U7 prog 133 [.one (.ow 0 0),.oi id] [tB np nd l] [.oi 0] [tB np nd (l.take (Rv l id)++l.drop (Rv l id+1))]:=by
 have ca:=lE (np:=np) (nd:=nd) (l:=l) id (by omega);have hpl:=YD h;rw [h] at ca;have hll:(l.map Fc).length=l.length:=by simp
 have s1:∀ c∈(l.map Fc).take (Rv l id),c.length=5:=λc hc=>Ss l c (Qn hc)
 have s3:∀ c∈(l.map Fc).drop (Rv l id+1),c.length=5:=λc hc=>Ss l c (Qz hc)
 have eB:tB np nd (l.take (Rv l id)++l.drop (Rv l id+1))=.blk 159 [.int .i64 np,.int .i64 nd,.row ((l.map Fc).take (Rv l id)++(l.map Fc).drop (Rv l id+1))]:=by
  show OB.blk 159 [.int .i64 np,.int .i64 nd,pts (l.take (Rv l id)++l.drop (Rv l id+1))]=_;unfold pts; rw [List.map_append,List.map_take,List.map_drop]
 rw [eB];refine Fw func133 rfl ?_;exact Uh [1] [0] [.c [0] ca,.f rfl,.i (Rv l id),.s s1,.i (Rv l id+1),.s s3] rfl (by
  simp only [U4,Qy,Q5,Jg,Qq,Q8,hll]
  and_intros <;> first | exact Ss l | omega)
theorem Qf8 {id np nd:Int} {l:List Pt} (hl:l.length<=1000000) (h:has l id=false) :
 U7 prog 133 [.one (.ow 0 0),.oi id] [tB np nd l] [.oi 5] [tB np nd l]:=by
 have ca:=lE (np:=np) (nd:=nd) (l:=l) id (by omega);rw [h] at ca;refine Fw func133 rfl ?_;exact Uh [] [0] [.c [0] ca,.t rfl] rfl
theorem Qf6 {np nd:Int} {l:List Pt} (hok:∀ p∈l,Qaq 4294967294 1073741824 p) (hl:l.length≤1000000):U7 prog 29 [.one (.ow 0 0)] [tB np nd l] [.one (pts l)] [tB np nd l]:=by
 have hll:(l.map Fc).length=l.length:=by simp
 refine Fw func29 rfl ?_;refine Ud [.o 3 40 5] rfl ?_;refine Ui (S:=Nat) 2 (λL1 i=>(11,.v (.oi i))::(3,.v (.one (.orow 1 5 none)))::L1) (λi=>[tB np nd l,.row false 40 5 ((l.take i).map Fc)]) (λi=>l.length-i) (λi=>i<=l.length) 0 (Qh _) rfl rfl λi hi=>?_
 by_cases h:i<l.length
 ·obtain ⟨p,hp⟩:=gxE (l:=l) (i:=i) h;have hpo:=hok p (Qc hp);have cf:=mV hpo.1 hpo.2;have s2:∀ c∈[Fc p],c.length=5:=λc hc=>by rw [Qk.1 hc]; rfl
  have hg:(l.take (i+1)).map Fc=(l.take i).map Fc++[Fc p]:=by rw [Z1,hp]; simp
  refine Ue [.t (by simp; omega),.x (Ti hp),.k cf,.s s2] rfl ?_;exact rd (i+1) (by omega) h (by rw [hg]; rfl)
 ·obtain rfl:i=l.length:=by omega
  rw [Q6];exact Uh [1] [0] [.f (by simp)] rfl
theorem Qf7 {np nd:Int} {l:List Pt}:U7 prog 62 [.one (.ow 0 0)] [tB np nd l] [.one (.ow 1 0)] [tB np nd l,tB np nd l]:=by
 refine Fw func62 rfl ?_;exact Uh [] [0,1] [] rfl
end Orr
