/- H1 R22 HullG TurnL HullQ HullS H2 H3 R23 R24 R25 R29 R30 MeshN MeshK MD1 MD2 MD3 NewsN MD4 MD5 SC1 -/
import Derived.Test.YtpnhifedfcgjbaaGreatPart08
import Derived.Test.YtpnhifedfcgjbaaGreatPart05
import Derived.Test.YtpnhifedfcgjbaaGreatPart07
import Derived.Test.YtpnhifedfcgjbaaGreatPart00
import Derived.Test.YtpnhifedfcgjbaaGreatPart06
set_option linter.all false
namespace Orr
open Go Go.Proofs Orq
set_option maxRecDepth 10000
theorem gz {P:Program} [Mo P] {n:Nat} {Q:Exit->Sg->List OB->Prop} {L L':Sg} {B B':List OB} (i:Nat) {it:List It} (hs:Hn it=true) (h:Q4a [i] L B=some (L',B')) (k:AK P n Q it L' B'):AK P n Q it L B:=AK.sub (Qd6 h) hs k
theorem Qk4 {r:List (List Int)} {i:Nat} {p:List Int} (h:r[i]? = some p):(O5 r)[i]? = some [pl p]:=Ff h
theorem Cx {l:List (List (List Int))} {i:Nat} {r:List (List Int)} (h:l[i]? = some r):(Lr l)[i]? = some [.row (O5 r)]:=Ff h
theorem Q5l {r:List (List Int)} (ht:∀ p∈r,Ud p) (hb:∀ p∈r,Bd 1000000 p) (hl:∀ p∈r,p.length≤1000000) (hn:r.length≤1000):W8 Tryz.prog 211 [.one (.row (O5 r))] [.one (.row (O5 r))]:=by
 have hrl:(O5 r).length=r.length:=by simp
 refine Fv Tryz.func211 rfl ?_;refine go tt [.o 3 52 1] rfl trivial ?_;refine lp (S:=Nat) 1 (λL1 i=>(8,.v (.one (.int .i64 (i:Int))))::(3,.v (.one (.orow 0 1 none)))::L1) (λi=>[.row false 52 1 (O5 (r.take i))]) (λi=>r.length-i) (λi=>i<=r.length) 0 (Qg _) rfl (λ_ _=>rfl) rfl λi hi=>?_
 by_cases h:i<r.length
 ·obtain ⟨p,hp⟩:=gxE (l:=r) (i:=i) h;have hm:=Qa hp;have hs:∀ y∈[[pl p]],y.length=1:=λy hy=>by rw [Qm.1 hy]; rfl
  have e:O5 (r.take (i+1))=O5 (r.take i)++[[pl p]]:=by rw [Zx,hp]; simp
  refine go tt [.t (decide_eq_true (by omega)),.x (Qk4 hp),.c [] (Gm (ht p hm) (by have:=hl p hm; omega) (W7 (hb p hm) (by decide))),.s (sz:=1) hs] rfl (by simp [W6] <;> omega) ?_;exact rd (i+1) (by omega) h (by rw [e]; rfl)
 ·obtain rfl:i=r.length:=by omega
  rw [Q4];exact en tt [.f (decide_eq_false (by omega))] rfl rfl trivial
theorem Zlx {s k w:Nat} {ds:List Nat} {rows:List (List (List Int))} (h:Sq s ds k k rows) (_hw:w=k) (hk:k<=4):W8 Tryz.prog 246 [.one (.row (Lr rows))] [.one (.bool true)]:=by
 have hrl:=Qaz rows;have hl:=h.l;refine Fv Tryz.func246 rfl ?_;refine go tt [] rfl trivial ?_;refine lp (S:=Nat) 0 (λL1 i=>(7,.v (.one (.int .i64 (i:Int))))::L1) (λ_=>[]) (λi=>rows.length-i) (λi=>i<=rows.length) 0 (Qg _) rfl (λ_ _=>rfl) rfl λi hi=>?_
 by_cases hlt:i<rows.length
 ·obtain ⟨r,hr⟩:=gxE (l:=rows) (i:=i) hlt;have hw:=h.w r (Qa hr);have hql:(O5 r).length=r.length:=by simp
  refine go tt [.t (decide_eq_true (by omega)),.x (Cx hr),.f (decide_eq_false (λh=>h (by omega)))] rfl (by simp [W6] <;> omega) ?_;exact rd (i+1) (by omega) hlt rfl
 ·exact en tt [.f (decide_eq_false (by omega))] rfl (by rw [decide_eq_true (by omega:((Lr rows).length:Int)<=4)]) trivial
theorem Zdi {s k w:Nat} {ds:List Nat} {rows:List (List (List Int))} (h:Sq s ds k w rows) (hs:s<=1000000) (hk:k<=4) (hw:w<=4) (hd:∀ j,ds.getD j 0<=1000) (i:Nat):W8 Tryz.prog 277 [.one (.int .i64 (i:Int)),.one (.int .i64 0),.one (.row (Lr rows))] [.one (.row (Lr (Qfx rows i)))]:=by
 have hrl:=Qaz rows;have hl:=h.l;have hml:∀ j,j<=rows.length->(Lr (Ol i rows j)).length<=4:=λj hj=>by
  rw [Qaz,Qkk]; split <;> omega
 refine Fv Tryz.func277 rfl ?_;refine go tt [.o 7 251 1] rfl trivial ?_;refine lp (S:=Nat) 1 (λL1 j=>(15,.v (.one (.int .i64 (j:Int))))::(7,.v (.one (.orow 0 1 none)))::L1) (λj=>[.row false 251 1 (Lr (Ol i rows j))]) (λj=>rows.length-j) (λj=>j<=rows.length) 0 (Qg _) rfl (λ_ _=>rfl) rfl λj hj=>?_
 have hmlj:=hml j hj;by_cases hlt:j<rows.length
 ·obtain ⟨r,hr⟩:=gxE (l:=rows) (i:=j) hlt;have hm:=Qa hr;have hw:=h.w r hm;have hql:(O5 r).length=r.length:=by simp
  by_cases hij:j=i
  ·have e:Ol i rows (j+1)=Ol i rows j:=by simp only [Ol]; rw [if_pos hij]
   refine go tt [.t (decide_eq_true (by omega)),.x (Cx hr),.t (decide_eq_true (by omega))] rfl (by simp [W6] <;> omega) ?_;exact rd (j+1) (by omega) hlt (by rw [e]; rfl)
  ·have e:Ol i rows (j+1)=Ol i rows j++[r.drop 1]:=by
    simp only [Ol]; rw [if_neg hij,Qh,hr]; rfl
   refine go tt [.t (decide_eq_true (by omega)),.x (Cx hr),.f (decide_eq_false (by omega)),.o 10 52 1] rfl (by simp [W6]) ?_;refine lp (S:=Nat) 2 (λL1 c=>(25,.v (.one (.int .i64 (c:Int))))::(10,.v (.one (.orow 1 1 none)))::L1) (λc=>[.row false 251 1 (Lr (Ol i rows j)),.row false 52 1 (O5 ((r.take c).drop 1))]) (λc=>r.length-c) (λc=>c<=r.length) 0 (Qg _) rfl (λ_ _=>rfl) rfl λc hc=>?_
   by_cases hcl:c<r.length
   ·obtain ⟨p,hp⟩:=gxE (l:=r) (i:=c) hcl;have hpm:=Qa hp;by_cases h0:c=0
    ·subst h0;refine go tt [.t (decide_eq_true (by omega)),.x (Qk4 hp),.f (decide_eq_false (by simp))] rfl (by simp [W6]) ?_;exact rd 1 (by omega) hcl (by rw [Zx,hp]; rfl)
    ·have hs1:∀ y∈[[pl p]],y.length=1:=λy hy=>by rw [Qm.1 hy]; rfl
     have e2:O5 ((r.take (c+1)).drop 1)=O5 ((r.take c).drop 1)++[[pl p]]:=by
      rw [Zx,hp,Yg (by rw [Qp]; omega)]; simp
     refine go tt [.t (decide_eq_true (by omega)),.x (Qk4 hp),.t (decide_eq_true (by omega)),.c [] (Gm (h.t r hm p hpm) (by have:=h.n r hm c p hp; have:=hd c; omega) (W7 (h.b r hm p hpm) (by omega))),.s (sz:=1) hs1] rfl (by simp [W6] <;> omega) ?_;exact rd (c+1) (by omega) hcl (by rw [e2]; rfl)
   ·obtain rfl:c=r.length:=by omega
    rw [Q4];have hs1:∀ y∈[[LV.row (O5 (r.drop 1))]],y.length=1:=λy hy=>by rw [Qm.1 hy]; rfl
    refine go tt [.f (decide_eq_false (by omega))] rfl trivial ?_;refine gz 1 rfl rfl ?_;refine go tt [.s (sz:=1) hs1] rfl (by simp [W6] <;> omega) ?_;exact rd (j+1) (by omega) hlt (by rw [e]; simp [Lr]; rfl)
 ·obtain rfl:j=rows.length:=by omega
  exact en tt [.f (decide_eq_false (by omega))] rfl rfl trivial
theorem Qgp:∀ (ds:List Nat) (j:Nat),ds.getD j 0<=ds.sum
 | [],j=>by simp
 | d::ds,0=>by simp
 |
  d::ds,j+1=>by
  have:=Qgp ds j;rw [Vu];show ds.getD j 0<=_;omega
theorem Zg9 {s:Nat} (hs:s<=100000):∀ (k:Nat) (ds:List Nat) (rows:List (List (List Int))),k<=4->ds.length=k->ds.sum<31->Sq s ds k k rows->W8 Tryz.prog 247 [.one (.row (Lr rows))] [pr (Qci k rows)]
 |
  0,ds,rows,_,_,_,h=>by
  have e:=Qk h.l;subst e;have co:=Qyy (p:=[1]) (by decide) (by decide);exact w tt Tryz.func247 rfl [.t rfl,.c [] co] rfl rfl trivial
 | k+1,[],_,_,hl,_,_=>by simp at hl
 |
  k+1,d::ds,rows,hk,hl,hd,h=>by
  rw [Vu] at hd;have hl':ds.length=k:=by simpa using hl
  have hrl:=Qaz rows;have hrn:=h.l;have hmin:=λi (hi:i<k+1)=>h.min hi
  have ih:=λi (hi:i<k+1)=>Zg9 hs k ds (Qfx rows i) (by omega) hl' (by omega) (hmin i hi)
  have hok:=λi (hi:i<k+1)=>Qh7 k ds (Qfx rows i) (by omega) hl' (by omega) (hmin i hi)
  have hb:k*(s+10)+1<=500000:=by
   have:k*(s+10)<=4*(100010):=Zy (by omega) (by omega);omega
  have hds:=Qo9 (f:=λi=>Qci k (Qfx rows i)) (B:=k*(s+10)+1) (L:=ds.sum) h (by omega) (λi hi=>⟨(hok i hi).2.1,(hok i hi).2.2⟩);have cm:=Zdi h (by omega) hk hk (λj=>by have:=Qgp (d::ds) j; rw [Vu] at this; omega);show W8 Tryz.prog 247 [.one (.row (Lr rows))] [pr (Lz (λi=>Qci k (Qfx rows i)) rows (k+1))];obtain ⟨f,hf⟩:=nmE (λi=>Qci k (Qfx rows i));rw [<-hf] at hds ⊢;have hfi:∀ i,f i=Qci k (Qfx rows i):=λi=>by rw [hf]
  refine Fv Tryz.func247 rfl ?_;refine go tt [.f (decide_eq_false (by omega)),.z 3] rfl trivial ?_;refine lp (S:=Nat) 0 (λL1 i=>(14,.v (.one (.int .i64 (i:Int))))::(3,.v (pr (Lz f rows i)))::L1) (λ_=>[]) (λi=>k+1-i) (λi=>i<=k+1) 0 (Qg _) rfl (λ_ _=>rfl) rfl λi hi=>?_
  obtain ⟨d1,d2,d3⟩:=hds i hi;by_cases hlt:i<k+1
  ·obtain ⟨p,r,hr,e,t,b,l⟩:=h.at hlt;have hx0:(O5 (p::r))[0]? = some [pl p]:=rfl;have hpl:(p.map Fi).length=p.length:=by simp
   have cn:=Gm t (by omega) (W7 b (by omega));by_cases h0:p.length=0
   ·have es:Lz f rows (i+1)=Lz f rows i:=by simp only [Lz]; rw [e,if_pos h0]
    refine go tt [.t (decide_eq_true (by omega)),.x (Cx hr),.x hx0,.c [] cn,.t (decide_eq_true (by omega))] rfl (by simp [W6] <;> omega) ?_;exact rd (i+1) (by omega) hlt (by rw [es]; rfl)
   ·obtain ⟨k1,k2,k3⟩:=hok i hlt;have ci:=ih i hlt;have cp:=Qor (p:=p) (q:=f i) t (by rw [hfi]; exact k1) (by omega) (by rw [hfi]; omega) b (by rw [hfi]; exact k2) (by omega);have hmb:Bd (s+(k*(s+10)+1)+5) (Uo p (f i)):=Rk b (by rw [hfi]; exact k2) (by omega);have hml:=Hl p (f i);have hfl:(f i).length<=ds.sum+1:=by rw [hfi]; exact k3
    rw [<-hfi] at ci;by_cases h2:i % 2=0
    ·have es:Lz f rows (i+1)=D6 (Lz f rows i) (Uo p (f i)):=by simp only [Lz]; rw [e,if_neg h0,if_pos h2]
     refine go tt [.t (decide_eq_true (by omega)),.x (Cx hr),.x hx0,.c [] cn,.f (decide_eq_false (by omega)),.x hx0,.c [] (cm i),.c [] ci,.c [] cp,.r 34 (eI (b:=((i % 2:Nat):Int)) rfl),.t (decide_eq_true (by omega)),.c [] (Qvp (p:=Lz f rows i) (q:=Uo p (f i)) (by omega) (by omega) (W7 d2 (by omega)) (W7 hmb (by omega)))] rfl (by simp [W6] <;> omega) ?_;exact rd (i+1) (by omega) hlt (by rw [es]; rfl)
    ·have es:Lz f rows (i+1)=S9 (Lz f rows i) (Uo p (f i)):=by simp only [Lz]; rw [e,if_neg h0,if_neg h2]
     refine go tt [.t (decide_eq_true (by omega)),.x (Cx hr),.x hx0,.c [] cn,.f (decide_eq_false (by omega)),.x hx0,.c [] (cm i),.c [] ci,.c [] cp,.r 34 (eI (b:=((i % 2:Nat):Int)) rfl),.f (decide_eq_false (by omega)),.c [] (Qvq (p:=Lz f rows i) (q:=Uo p (f i)) (by omega) (by omega) (W7 d2 (by omega)) (W7 hmb (by omega)))] rfl (by simp [W6] <;> omega) ?_;exact rd (i+1) (by omega) hlt (by rw [es]; rfl)
  ·obtain rfl:i=k+1:=by omega
   exact en tt [.f (decide_eq_false (by omega))] rfl rfl trivial
theorem Zg0 {s:Nat} (hs:s<=100000) {k:Nat} {ds:List Nat} {rows:List (List (List Int))} (hk:k<=4) (hl:ds.length=k) (hd:ds.sum<31) (h:Sq s ds k k rows):W8 Tryz.prog 212 [.one (.row (Lr rows))] [pr (Qci k rows),.one (.int .i64 0)] :=
 w tt Tryz.func212 rfl [.c [] (Zlx h rfl hk),.f rfl,.c [] (Zg9 hs k ds rows hk hl hd h)] rfl rfl trivial
theorem Qvx {k:Crv} (hk:Sc k):W8 Tryz.prog 210 [.agg (cl k)] [.one (.row (O5 [k.x,k.y,[k.d]]))]:=by
 have h0:k.d≠0:=by have:=hk.n.2.2.1; omega
 have td:Ud [k.d]:=by unfold Ud; simp [trim,h0]
 have cd:=Q5l (r:=[k.x,k.y,[k.d]]) (λp hp=>by
  rcases Qo.1 hp with rfl | hp
  ·exact hk.n.1
  rcases Qo.1 hp with rfl | hp
  ·exact hk.n.2.1
  ·rw [Qm.1 hp]; exact td) (λp hp=>by
  rcases Qo.1 hp with rfl | hp
  ·exact W7 hk.c.x (by decide)
  rcases Qo.1 hp with rfl | hp
  ·exact W7 hk.c.y (by decide)
  ·rw [Qm.1 hp];intro z hz; rw [Qm.1 hz]; exact Qd hk.c.d (by decide)) (λp hp=>by
  rcases Qo.1 hp with rfl | hp
  ·have:=hk.c.lx; omega
  rcases Qo.1 hp with rfl | hp
  ·have:=hk.c.ly; omega
  ·rw [Qm.1 hp]; show 1<=1000000; decide) (by show 3<=1000; decide)
 exact w tt Tryz.func210 rfl [.c [] (Qza hk.n (hk.c.mono (by decide) (by decide))),.c [] cd] rfl rfl trivial
theorem Quk {a b c:Crv} (ha:Sc a) (hb:Sc b) (hc:Sc c):Sq 128 [2,2,0] 3 3 (Lo a b c):=by
 have key:∀ k:Crv,Sc k->(∀ p∈[k.x,k.y,[k.d]],Ud p/\Bd 128 p)/\∀ (j:Nat) (p:List Int),[k.x,k.y,[k.d]][j]? = some p->p.length≤[2,2,0].getD j 0+1:=λk hk=>by
  have h0:k.d≠0:=by have:=hk.n.2.2.1; omega
  have td:Ud [k.d]:=by unfold Ud; simp [trim,h0]
  refine ⟨λp hp=>?_,λj p hp=>?_⟩
  ·rcases Qo.1 hp with rfl | hp
   ·exact ⟨hk.n.1,hk.c.x⟩
   rcases Qo.1 hp with rfl | hp
   ·exact ⟨hk.n.2.1,hk.c.y⟩
   ·rw [Qm.1 hp];exact ⟨td,λz hz=>by rw [Qm.1 hz]; exact hk.c.d⟩
  ·match j,hp with
   | 0,hp=>injection hp with hp; subst hp; exact hk.c.lx
   | 1,hp=>injection hp with hp; subst hp; exact hk.c.ly
   | 2,hp=>injection hp with hp; subst hp; exact Qn _
   | j+3,hp=>simp at hp
 have hr:∀ r∈Lo a b c,∃ k:Crv,Sc k/\r=[k.x,k.y,[k.d]]:=λr hr=>by
  rcases Qo.1 hr with rfl | hr
  ·exact ⟨a,ha,rfl⟩
  rcases Qo.1 hr with rfl | hr
  ·exact ⟨b,hb,rfl⟩
  ·rw [Qm.1 hr]; exact ⟨c,hc,rfl⟩
 refine ⟨rfl,λr h=>?_,λr h p hp=>?_,λr h p hp=>?_,λr h j p hp=>?_⟩
 all_goals obtain ⟨k,hk,rfl⟩:=hr r h
 ·rfl
 ·exact ((key k hk).1 p hp).1
 ·exact ((key k hk).1 p hp).2
 ·exact (key k hk).2 j p hp
theorem Qmh {a b c:Crv} (ha:Sc a) (hb:Sc b) (hc:Sc c):Cp (Ny a b c):=by
 obtain ⟨h1,h2,h3⟩:=Qh7 3 [2,2,0] (Lo a b c) (by decide) rfl (by decide) (Quk ha hb hc);exact ⟨h1,Qd h3 (by decide),W7 h2 (by decide)⟩
theorem Q51 {a b c:Crv} (ha:Sc a) (hb:Sc b) (hc:Sc c):W8 Tryz.prog 171 [.agg (cl a),.agg (cl b),.agg (cl c)] [pr (Ny a b c)]:=by
 have cd:=Zg0 (by decide) (k:=3) (ds:=[2,2,0]) (by decide) rfl (by decide) (Quk ha hb hc);exact w tt Tryz.func171 rfl [.c [] (Qvx ha),.c [] (Qvx hb),.c [] (Qvx hc),.c [] cd] rfl rfl trivial
abbrev zrw (r:List (List Int)):List (List LV):=r.map λp=>[rp (zp p)]
def zmt (M:List (List (List Int))):List (List LV):=M.map λr=>[.row (zrw r)]
theorem Qrb (M:List (List (List Int))):(zmt M).length=M.length:=by simp [zmt]
theorem Qre {r:List (List Int)} {i:Nat} {p:List Int} (h:r[i]? = some p):(zrw r)[i]? = some [rp (zp p)]:=Ff h
theorem Qim {l:List (List (List Int))} {i:Nat} {r:List (List Int)} (h:l[i]? = some r):(zmt l)[i]? = some [.row (zrw r)]:=Ff h
theorem Qwi {α:Type} {R:List α} {j k:Nat} {x:α} (h:R[j]? = some x):(R.take (j+1)).eraseIdx k=if j=k then (R.take j).eraseIdx k else (R.take j).eraseIdx k++[x]:=by
 have hj:=(Qc.1 h).1;have hl:(R.take j).length=j:=by rw [Qp]; omega
 rw [Zx,h,Vb];rcases V7 k j with hk | hk | hk
 ·rw [if_neg (by omega),List.eraseIdx_append_of_lt_length (by omega)]
 ·subst hk;rw [if_pos rfl,Ka (by omega),hl,Ys,Vs (l:=R.take k) (by omega)];show R.take k++[]=_;rw [Xe]
 ·rw [if_neg (by omega),Ka (by omega),hl,Vs (l:=[x]) (by simp; omega),Vs (by omega)]
def Gb (M:List (List (List Int))) (k:Nat):List (List (List Int)):=(M.drop 1).map (·.eraseIdx k)
theorem Qs7 {M:List (List (List Int))} {i k:Nat} {R:List (List Int)} (h:M[i]? = some R) (h0:0<i):Gb (M.take (i+1)) k=Gb (M.take i) k++[R.eraseIdx k]:=by
 have hi:=(Qc.1 h).1;unfold Gb;rw [Zx,h,Vb,Yg (by rw [Qp]; omega),Xx]; rfl
theorem Qw2 {M:List (List (List Int))} {i k:Nat} (hi:i<=M.length):(Gb (M.take i) k).length=i-1:=by
 unfold Gb; rw [List.length_map,List.length_drop,List.length_take]; omega
theorem Q63 {M:List (List (List Int))} {k:Nat} (hn:M.length≤100) (hM:∀ R∈M,R.length≤100):W8 Tryz.prog 109 [.one (.row (zmt M)),.one (.int .i64 0),.one (.int .i64 (k:Int))] [.one (.row (zmt (Gb M k)))]:=by
 have hrl:=Qrb M;refine Fv Tryz.func109 rfl ?_;refine go tt [.o 7 29 1] rfl trivial ?_;refine lp (S:=Nat) 1 (λL1 i=>(13,.v (.one (.int .i64 (i:Int))))::(7,.v (.one (.orow 0 1 none)))::L1) (λi=>[.row false 29 1 (zmt (Gb (M.take i) k))]) (λi=>M.length-i) (λi=>i<=M.length) 0 (Qg _) rfl (λ_ _=>rfl) rfl λi hi=>?_
 have hml:(zmt (Gb (M.take i) k)).length=i-1:=by rw [Qrb,Qw2 hi]
 by_cases hlt:i<M.length
 ·obtain ⟨r,hr⟩:=gxE (l:=M) (i:=i) hlt;have hm:=hM r (Qa hr);have hql:(zrw r).length=r.length:=by simp
  by_cases h0:i=0
  ·subst h0;have e:Gb (M.take 1) k=Gb (M.take 0) k:=by unfold Gb; simp
   refine go tt [.t (decide_eq_true (by omega)),.t rfl] rfl (by simp [W6]) ?_;exact rd 1 (by omega) hlt (by rw [e]; rfl)
  ·have e:=Qs7 (k:=k) hr (by omega);refine go tt [.t (decide_eq_true (by omega)),.f (decide_eq_false (by omega)),.o 9 28 1,.x (Qim hr)] rfl (by simp [W6] <;> omega) ?_;refine lp (S:=Nat) 2 (λL1 c=>(24,.v (.one (.int .i64 (c:Int))))::(9,.v (.one (.orow 1 1 none)))::L1) (λc=>[.row false 29 1 (zmt (Gb (M.take i) k)),.row false 28 1 (zrw ((r.take c).eraseIdx k))]) (λc=>r.length-c) (λc=>c<=r.length) 0 (Qg _) rfl (λ_ _=>rfl) rfl λc hc=>?_
   have hzl:((r.take c).eraseIdx k).length<=c:=by
    exact Qd (List.eraseIdx_sublist ..).length_le (by rw [Qp]; omega)
   by_cases hcl:c<r.length
   ·obtain ⟨p,hp⟩:=gxE (l:=r) (i:=c) hcl;have e2:=Qwi (k:=k) hp;by_cases hck:c=k
    ·rw [if_pos hck] at e2;refine go tt [.t (decide_eq_true (by omega)),.f (decide_eq_false (by omega))] rfl (by simp [W6] <;> omega) ?_;exact rd (c+1) (by omega) hcl (by rw [e2]; rfl)
    ·rw [if_neg hck] at e2;have hs1:∀ y∈[[rp (zp p)]],y.length=1:=λy hy=>by rw [Qm.1 hy]; rfl
     refine go tt [.t (decide_eq_true (by omega)),.t (decide_eq_true (by omega)),.x (Qim hr),.x (Qre hp),.s (sz:=1) hs1] rfl (by simp [W6] <;> omega) ?_;exact rd (c+1) (by omega) hcl (by rw [e2]; simp [zrw]; rfl)
   ·obtain rfl:c=r.length:=by omega
    rw [Q4];have hs1:∀ y∈[[LV.row (zrw (r.eraseIdx k))]],y.length=1:=λy hy=>by rw [Qm.1 hy]; rfl
    refine go tt [.f (decide_eq_false (by omega))] rfl trivial ?_;refine gz 1 rfl rfl ?_;refine go tt [.s (sz:=1) hs1] rfl (by simp [W6] <;> omega) ?_;exact rd (i+1) (by omega) hlt (by rw [e]; simp [zmt]; rfl)
 ·obtain rfl:i=M.length:=by omega
  rw [Q4];exact en tt [.f (decide_eq_false (by omega))] rfl rfl trivial
def Qxy (k:Nat) (p:List Int):List Int:=if k % 2=1 then Tg p else p
def Dc (f:List (List (List Int))->List Int) (M:List (List (List Int))):Nat->List Int
 | 0=>[]
 | k+1=>D6 (Dc f M k) (Qxy k (Uo ((M.getD 0 []).getD k []) (f (Gb M k))))
def Qc9:Nat->List (List (List Int))->List Int
 | 0,_=>[1]
 | n+1,M=>Dc (Qc9 n) M (n+1)
structure SqR (s:Nat) (ds:List Nat) (M:List (List (List Int))):Prop where
 l:M.length=ds.length
 w:∀ r∈M,r.length=ds.length
 b:∀ r∈M,∀ p∈r,Bd s p
 n:∀ r∈M,∀ (j:Nat) (p:List Int),r[j]? = some p->p.length≤ds.getD j 0+1
theorem C0:∀ {ds:List Nat} {k:Nat},k<ds.length->(ds.eraseIdx k).sum+ds.getD k 0=ds.sum
 | [],_,h=>by simp at h
 | d::ds,0,_=>by simp [Jz]
 |
  d::ds,k+1,h=>by
  have:=C0 (ds:=ds) (k:=k) (by simpa using h);simp only [List.eraseIdx_cons_succ,Vu,Q3];omega
theorem SqR.minor {s:Nat} {ds:List Nat} {M:List (List (List Int))} (h:SqR s ds M) {k:Nat} (hk:k<ds.length):SqR s (ds.eraseIdx k) (Gb M k):=by
 have hl:=h.l;unfold Gb;refine ⟨by rw [Q6,Zq,Jf hk]; omega,λr hr=>?_,λr hr p hp=>?_,λr hr j p hp=>?_⟩
 all_goals obtain ⟨q,hq,rfl⟩:=Zc.1 hr
 all_goals have hq:=Qz hq
 ·rw [Jf (by rw [h.w q hq]; exact hk),Jf hk,h.w q hq]
 ·exact h.b q hq p (List.mem_of_mem_eraseIdx hp)
 ·rw [List.getElem?_eraseIdx] at hp;rw [Qh,List.getElem?_eraseIdx]
  split at hp <;> rename_i hj
  ·rw [if_pos hj,<-Qh]; exact h.n q hq j p hp
  ·rw [if_neg hj,<-Qh]; exact h.n q hq (j+1) p hp
theorem SqR.at {s:Nat} {ds:List Nat} {M:List (List (List Int))} (h:SqR s ds M) {k:Nat} (hk:k<ds.length):∃ r p,M[0]? = some r/\r[k]? = some p/\(M.getD 0 []).getD k []=p/\Bd s p/\p.length<=ds.getD k 0+1:=by
 obtain ⟨r,hr⟩:=gxE (l:=M) (i:=0) (by rw [h.l]; omega);have hm:=Qa hr;obtain ⟨p,hp⟩:=gxE (l:=r) (i:=k) (by rw [h.w r hm]; exact hk);refine ⟨r,p,hr,hp,?_,h.b r hm p (Qa hp),h.n r hm k p hp⟩;rw [Qh (l:=M),hr,Y4,Qh,hp]; rfl
theorem Zf4 {k s:Nat} {p:List Int} (h:Bd s p):Bd s (Qxy k p):=by
 unfold Qxy; split
 ·exact Qal h
 ·exact h
theorem Za4 (k:Nat) (p:List Int):(Qxy k p).length<=p.length:=by
 unfold Qxy; split
 ·exact Dm _
 ·exact Qn _
theorem Qje {s B:Nat} {ds:List Nat} {f:List (List (List Int))->List Int} {M:List (List (List Int))} (h:SqR s ds M) (hs:ds.sum<64) (hf:∀ k,k<ds.length->Bd B (f (Gb M k))/\(f (Gb M k)).length<=(ds.eraseIdx k).sum+1):∀ i,i<=ds.length->Bd (s+B+7+i) (Dc f M i)/\(Dc f M i).length<=ds.sum+1
 | 0,_=>⟨λz hz=>(by cases hz),Qg _⟩
 |
  i+1,hi=>by
  obtain ⟨h2,h3⟩:=Qje h hs hf i (by omega);obtain ⟨r,p,_,_,e,b,l⟩:=h.at (k:=i) (by omega);obtain ⟨f1,f2⟩:=hf i (by omega);have hd:=C0 (ds:=ds) (k:=i) (by omega);have hp1:Bd (s+B+7) (Uo p (f (Gb M i))):=Rk b f1 (Zt l (by omega));have hp2:=Hl p (f (Gb M i));have hp3:=Za4 i (Uo p (f (Gb M i)));simp only [Dc];rw [e];exact ⟨W7 (Qcx h2 (Zf4 hp1)) (by omega),Qd (Of _ _) (by omega)⟩
theorem Qht {s:Nat}:∀ (n:Nat) (ds:List Nat) (M:List (List (List Int))),ds.length=n->ds.sum<64->SqR s ds M->Bd (n*(s+20)+1) (Qc9 n M)/\(Qc9 n M).length<=ds.sum+1/\n<=9\/9<n
 | 0,ds,M,_,_,_=>.inl ⟨λz hz=>(by simp [Qc9] at hz; subst hz; rw [J1]; decide),by simp [Qc9],by omega⟩
 |
  n+1,ds,M,hl,hs,h=>by
  by_cases h9:9<n+1
  ·exact .inr h9
  have hsum:=λk (hk:k<ds.length)=>C0 (ds:=ds) (k:=k) hk
  have:=Qje (f:=Qc9 n) (B:=n*(s+20)+1) h hs (λk hk=>by
   have hd:=hsum k hk;rcases Qht n (ds.eraseIdx k) (Gb M k) (by rw [Jf hk]; omega) (by omega) (h.minor hk) with h' | h'
   ·exact ⟨h'.1,h'.2.1⟩
   ·omega) (n+1) (by omega)
  have e1:(n+1)*(s+20)=n*(s+20)+(s+20):=Z6 ..;exact .inl ⟨W7 this.1 (by omega),this.2,by omega⟩
theorem Qv5 {s:Nat} (hs:s<=1000000):∀ (n:Nat) (ds:List Nat) (M:List (List (List Int))),n<=4->ds.length=n->ds.sum<64->SqR s ds M->W8 Tryz.prog 54 [.one (.row (zmt M))] [.one (rp (zp (Qc9 n M)))]
 |
  0,ds,M,_,hl,_,h=>by
  have e:=Qk (h.l.trans hl);subst e;exact w tt Tryz.func54 rfl [.t rfl,.c [] Qv4] rfl rfl trivial
 |
  n+1,ds,M,hn,hl,hd,h=>by
  have hrl:=Qrb M;have hMl:=h.l;have ih:=λk (hk:k<ds.length)=>Qv5 hs n (ds.eraseIdx k) (Gb M k) (by omega) (by rw [Jf hk]; omega) (by have:=C0 (ds:=ds) (k:=k) hk; omega) (h.minor hk)
  have hb:n*(s+20)+1<=3*1000020+1:=Nat.add_le_add_right (Zy (by omega) (by omega)) 1;have hok:∀ k,k<ds.length->Bd (n*(s+20)+1) (Qc9 n (Gb M k))/\(Qc9 n (Gb M k)).length<=(ds.eraseIdx k).sum+1:=λk hk=>by
   have hd':=C0 (ds:=ds) (k:=k) hk;rcases Qht n (ds.eraseIdx k) (Gb M k) (by rw [Jf hk]; omega) (by omega) (h.minor hk) with h' | h'
   ·exact ⟨h'.1,h'.2.1⟩
   ·omega
  have hds:=Qje (f:=Qc9 n) (B:=n*(s+20)+1) h hd hok;have cm:=λk=>Q63 (M:=M) (k:=k) (by omega) (λr hr=>by rw [h.w r hr]; omega)
  show W8 Tryz.prog 54 [.one (.row (zmt M))] [.one (rp (zp (Dc (Qc9 n) M (n+1))))];obtain ⟨f,hf⟩:=nmE (Qc9 n);rw [<-hf] at hds hok ih ⊢;refine Fv Tryz.func54 rfl ?_;refine go tt [.f (decide_eq_false (by omega)),.z 3] rfl trivial ?_;refine lp (S:=Nat) 0 (λL1 i=>(13,.v (.one (.int .i64 (i:Int))))::(3,.v (.one (rp (zp (Dc f M i)))))::L1) (λ_=>[]) (λi=>M.length-i) (λi=>i<=M.length) 0 (Qg _) rfl (λ_ _=>rfl) rfl λi hi=>?_
  obtain ⟨d2,d3⟩:=hds i (by omega);by_cases hlt:i<M.length
  ·obtain ⟨r,p,hr,hp,e,b,l⟩:=h.at (k:=i) (by omega);obtain ⟨k2,k3⟩:=hok i (by omega);have hse:=C0 (ds:=ds) (k:=i) (by omega);have ci:=ih i (by omega);have cp:=Qb1 (p:=p) (q:=f (Gb M i)) (by omega) (by omega) b k2 (by omega);have hmb:Bd (s+(n*(s+20)+1)+7) (Uo p (f (Gb M i))):=Rk b k2 (Zt l (by omega));have hml:=Hl p (f (Gb M i));by_cases h2:i % 2=1
   ·have es:Dc f M (i+1)=D6 (Dc f M i) (Tg (Uo p (f (Gb M i)))):=by simp only [Dc,Qxy]; rw [e,if_pos h2]
    have hnl:=Dm (Uo p (f (Gb M i)));refine go tt [.t (decide_eq_true (by omega)),.x (Qim hr),.x (Qre hp),.c [] (cm i),.c [] ci,.c [] cp,.r 28 (eI (b:=((i % 2:Nat):Int)) rfl),.t (decide_eq_true (by omega)),.c [] (Qvz (W7 hmb (by omega)) (by omega)),.c [] (Qo0 (p:=Dc f M i) (q:=Tg (Uo p (f (Gb M i)))) (W7 d2 (by omega)) (W7 (Qal hmb) (by omega)) (by omega) (by omega))] rfl (by simp [W6] <;> omega) ?_;exact rd (i+1) (by omega) hlt (by rw [es]; rfl)
   ·have es:Dc f M (i+1)=D6 (Dc f M i) (Uo p (f (Gb M i))):=by simp only [Dc,Qxy]; rw [e,if_neg h2]
    refine go tt [.t (decide_eq_true (by omega)),.x (Qim hr),.x (Qre hp),.c [] (cm i),.c [] ci,.c [] cp,.r 28 (eI (b:=((i % 2:Nat):Int)) rfl),.f (decide_eq_false (by omega)),.c [] (Qo0 (p:=Dc f M i) (q:=Uo p (f (Gb M i))) (W7 d2 (by omega)) (W7 hmb (by omega)) (by omega) (by omega))] rfl (by simp [W6] <;> omega) ?_;exact rd (i+1) (by omega) hlt (by rw [es]; rfl)
  ·obtain rfl:i=n+1:=by omega
   exact en tt [.f (decide_eq_false (by omega))] rfl rfl trivial
theorem Qtm {a b c:Crv} (ha:Rs a) (hb:Rs b) (hc:Rs c):SqR 100000 [15,15,0] (Lo a b c):=by
 have key:∀ k:Crv,Rs k->(∀ p∈[k.x,k.y,[k.d]],Bd 100000 p)/\∀ (j:Nat) (p:List Int),[k.x,k.y,[k.d]][j]? = some p->p.length≤[15,15,0].getD j 0+1:=λk hk=>by
  refine ⟨λp hp=>?_,λj p hp=>?_⟩
  ·simp only [Qo,J3,or_false] at hp;rcases hp with rfl | rfl | rfl
   ·exact hk.c.x
   ·exact hk.c.y
   ·exact Zh9 hk.c.d
  ·match j,hp with
   | 0,hp=>injection hp with hp; subst hp; exact hk.c.lx
   | 1,hp=>injection hp with hp; subst hp; exact hk.c.ly
   | 2,hp=>injection hp with hp; subst hp; exact Qn _
   | j+3,hp=>simp at hp
 have h3:∀ r∈Lo a b c,r=[a.x,a.y,[a.d]]\/r=[b.x,b.y,[b.d]]\/r=[c.x,c.y,[c.d]]:=λr hr=>by
  simpa [Lo] using hr
 refine ⟨rfl,λr hr=>?_,λr hr=>?_,λr hr=>?_⟩
 ·rcases h3 r hr with rfl | rfl | rfl <;> rfl
 ·rcases h3 r hr with rfl | rfl | rfl
  ·exact (key a ha).1
  ·exact (key b hb).1
  ·exact (key c hc).1
 ·rcases h3 r hr with rfl | rfl | rfl
  ·exact (key a ha).2
  ·exact (key b hb).2
  ·exact (key c hc).2
def Ln (a b c:Crv):List Int:=Qc9 3 (Lo a b c)
theorem Qw7 {a b c:Crv} (ha:Rs a) (hb:Rs b) (hc:Rs c):Bd 400000 (Ln a b c)/\(Ln a b c).length<=31:=by
 rcases Qht 3 [15,15,0] (Lo a b c) rfl (by decide) (Qtm ha hb hc) with h | h
 ·exact ⟨W7 h.1 (by decide),h.2.1⟩
 ·omega
theorem Q22 {a b c:Crv} (ha:Rs a) (hb:Rs b) (hc:Rs c):W8 Tryz.prog 12 [.agg (Bu a),.agg (Bu b),.agg (Bu c)] [.one (rp (zp (Ln a b c)))]:=by
 have cd:=Qv5 (by decide) 3 [15,15,0] (Lo a b c) (by decide) rfl (by decide) (Qtm ha hb hc);have x0:[Bu a,Bu b,Bu c][0]? = some (Bu a):=rfl;have x1:[Bu a,Bu b,Bu c][1]? = some (Bu b):=rfl;have x2:[Bu a,Bu b,Bu c][2]? = some (Bu c):=rfl;have hs1:∀ k:Crv,∀ y∈[[LV.row (zrw [k.x,k.y,[k.d]])]],y.length=1:=λk y hy=>by rw [Qm.1 hy]; rfl
 refine Fv Tryz.func12 rfl ?_;refine go tt [.o 7 29 1] rfl trivial ?_;refine lp (S:=Nat) 4 (λL1 i=>(18,.v (.one (.int .i64 (i:Int))))::(7,.v (.one (.orow 3 1 none)))::L1) (λi=>[.blk 59 (Bu a),.blk 59 (Bu b),.blk 59 (Bu c),.row false 29 1 (zmt ((Lo a b c).take i))]) (λi=>3-i) (λi=>i<=3) 0 (by decide) rfl (λ_ _=>rfl) rfl λi hi=>?_
 rcases (show i=0\/i=1\/i=2\/i=3 by omega) with rfl | rfl | rfl | rfl
 ·exact go tt [.t rfl,.x x0,.c [] (Qb2 ha),.s (sz:=1) (hs1 a)] rfl (by simp [W6,zmt,Lo]) (rd 1 (by omega) (by omega) rfl)
 ·exact go tt [.t rfl,.x x1,.c [] (Qb2 hb),.s (sz:=1) (hs1 b)] rfl (by simp [W6,zmt,Lo]) (rd 2 (by omega) (by omega) rfl)
 ·exact go tt [.t rfl,.x x2,.c [] (Qb2 hc),.s (sz:=1) (hs1 c)] rfl (by simp [W6,zmt,Lo]) (rd 3 (by omega) (by omega) rfl)
 ·exact en tt [.f rfl,.c [] cd] rfl rfl trivial
end Orr
namespace Orq
section
variable {α:Type} (X Y:α->Rat)
def lx (a b:α):Prop:=X a<X b\/X a=X b/\Y a<Y b
def ori (a b c:α):Rat:=(X b-X a)*(Y c-Y a)-(X c-X a)*(Y b-Y a)
variable {X Y}
def Edg (Q:α->α->Prop):List α->Prop
 | a::b::r=>Q a b/\Edg Q (b::r)
 | _=>True
def Cnv (R:α->α->α->Prop):List α->Prop
 | a::b::c::r=>R a b c/\Cnv R (b::c::r)
 | _=>True
theorem Edg.tail {Q:α->α->Prop} {a:α} {l:List α} (h:Edg Q (a::l)):Edg Q l:=by
 cases l with
 | nil=>trivial
 | cons b l=>exact h.2
theorem Cnv.tail {R:α->α->α->Prop} {a:α} {l:List α} (h:Cnv R (a::l)):Cnv R l:=by
 match l,h with
 | [],_=>trivial
 | [_],_=>trivial
 | b::c::l,h=>exact h.2
theorem Edg.imp {Q Q':α->α->Prop}:∀ {l:List α},(∀ a∈l,∀ b∈l,Q a b->Q' a b)->Edg Q l->Edg Q' l
 | [],_,_=>trivial
 | [_],_,_=>trivial
 | a::b::l,hq,h=>⟨hq a (by simp) b (by simp) h.1,Edg.imp (l:=b::l) (λx hx y hy=>hq x (Qi _ hx) y (Qi _ hy)) h.2⟩
theorem Cnv.imp {R R':α->α->α->Prop}:∀ {l:List α},(∀ a∈l,∀ b∈l,∀ c∈l,R a b c->R' a b c)->Cnv R l->Cnv R' l
 | [],_,_=>trivial
 | [_],_,_=>trivial
 | [_,_],_,_=>trivial
 | a::b::c::l,hq,h=>⟨hq a (by simp) b (by simp) c (by simp) h.1,Cnv.imp (l:=b::c::l) (λx hx y hy z hz=>hq x (Qi _ hx) y (Qi _ hy) z (Qi _ hz)) h.2⟩
structure Stk (X Y:α->Rat) (P:List α) (st:List α):Prop where
 srt:st.Pairwise λb a=>lx X Y a b
 mem:∀ p∈st,p∈P
 edg:Edg (λb a=>∀ p∈P,0≤ori X Y a b p) st
 cnv:Cnv (λc b a=>0<ori X Y a b c) st
theorem Stk.tail {P:List α} {a:α} {st:List α} (h:Stk X Y P (a::st)):Stk X Y P st:=⟨(Z8.1 h.srt).2,λp hp=>h.mem p (Qi _ hp),h.edg.tail,h.cnv.tail⟩
end
end Orq
namespace Orr
open Go
theorem Q8e (c:Int) (l:List Int):Gh (l.map (· * c))=Gh l*c.natAbs:=by
 have key:∀ (l:List Int) (g:Nat),(l.map (· * c)).foldl (λg z=>Nat.gcd g z.natAbs) (g*c.natAbs)=l.foldl (λg z=>Nat.gcd g z.natAbs) g*c.natAbs:=by
  intro l
  induction l with
  | nil=>intro g; rfl
  |
   cons z l ih =>
   intro g;simp only [Zv,Z3,Jm,Wi];exact ih _
 have:=key l 0;rwa [J1] at this
theorem Qup {l:List Int} {c:Int} (hc:c≠0) (ht:Ud l):Ud (l.map (· * c)):=by
 have h:=Qlk (l:=l.map (· * c)) (m:=l.length) (by simp) (λj y hj hy=>by rw [Qu (by simpa using hj)] at hy; cases hy) (λh0=>⟨l.getD (l.length-1) 0*c,by rw [Q8,Qar (by omega)]; rfl,X9 (Gp ht h0) hc⟩);unfold Ud;rw [h,Qj (by simp)]
theorem Q9g {k:Crv} (h:Nml k) {c:Int} (hc:c<0):Crv.norm ⟨k.x.map (· * c),k.y.map (· * c),k.d*c⟩=k:=by
 obtain ⟨hx,hy,hd,hg⟩:=h;obtain ⟨K,hK⟩:∃ K:Crv,K=⟨k.x.map (· * c),k.y.map (· * c),k.d*c⟩:=⟨_,rfl⟩;have hdc:k.d*c<0:=Yx hd hc;have hd':K.d'=k.d*c:=by rw [hK]; exact if_neg (by show ¬k.d*c=0; omega)
 have tx:trim K.x=k.x.map (· * c):=by rw [hK]; exact Qup (by omega) hx
 have ty:trim K.y=k.y.map (· * c):=by rw [hK]; exact Qup (by omega) hy
 have e:k.d*c::(k.x.map (· * c)++k.y.map (· * c))=(k.d::(k.x++k.y)).map (· * c):=by simp
 have hG:K.g=c:=by
  unfold Crv.g;rw [hd',tx,ty,if_pos hdc,e,Q8e,hg]; omega
 have back:∀ l:List Int,(l.map (· * c)).map (· / c)=l:=λl=>by
  rw [List.map_map]
  conv=>rhs; rw [<-List.map_id l]
  exact X7 λz _=>Int.mul_ediv_cancel z (by omega)
 rw [<-hK];unfold Crv.norm;rw [hG,tx,ty,hd',back,back,Int.mul_ediv_cancel _ (by omega),show trim k.x=k.x from hx,show trim k.y=k.y from hy]
theorem Q1v {M:List Pt} (hs:Hz M) {i j:Nat} {p r:Pt} (hij:i<j) (hi:M[i]? = some p) (hj:M[j]? = some r):p.id<r.id:=by
 obtain ⟨h1,e1⟩:=Qc.1 hi;obtain ⟨h2,e2⟩:=Qc.1 hj;rw [<-e1,<-e2];exact Vz.1 hs i j h1 h2 hij
theorem Qxe {M:List Pt} (hs:Hz M) {i:Nat} {p:Pt} (h:M[i]? = some p):Lq M p.id=i :=
 Qky (λj r hj hr=>Q1v hs hj hr h) (.inr ⟨p,h,Kc _⟩)
theorem Zjk {M:List Pt} (hs:Hz M) {i:Nat} {p:Pt} (h:M[i]? = some p):has M p.id=true:=by
 unfold has; rw [Qxe hs h,h]; exact decide_eq_true rfl
theorem Qj3 {M:List Pt} {i:Nat} (hi:i<M.length) (j:Nat):(M.take i++M.drop (i+1))[j]? = if j<i then M[j]? else M[j+1]? := by
 by_cases h:j<i
 ·rw [if_pos h,Zk (by rw [Qp]; omega),Xm,if_pos h]
 ·rw [if_neg h,Xc (by rw [Qp]; omega),Qp,Z2];congr 1; omega
theorem Qsp {M:List Pt} {i:Nat} (hi:i<M.length):(M.take i++M.drop (i+1)).length+1=M.length:=by
 rw [Q5,Qp,Zq]; omega
theorem Qtz {M:List Pt} (hs:Hz M) {i:Nat} {p:Pt} (h:M[i]? = some p):Lq (M.take i++M.drop (i+1)) p.id=i:=by
 have hi:=(Qc.1 h).1;refine Qky (λj r hj hr=>?_) ?_
 ·rw [Qj3 hi,if_pos hj] at hr; exact Q1v hs hj hr h
 ·by_cases hl:i+1<M.length
  ·refine .inr ⟨M[i+1],?_,?_⟩
   ·rw [Qj3 hi,if_neg (Vw _)]; exact Qe hl
   ·have:=Q1v hs (Wp i) h (Qe hl); omega
  ·left; have:=Qsp hi; omega
theorem Q8o {M:List Pt} (hs:Hz M) {i:Nat} {p:Pt} (h:M[i]? = some p):has (M.take i++M.drop (i+1)) p.id=false:=by
 have hi:=(Qc.1 h).1;unfold has;rw [Qtz hs h,Qj3 hi,if_neg (Vw _)];cases hn:M[i+1]? with
 | none=>rfl
 |
  some r =>
  have:=Q1v hs (Wp i) h hn;exact decide_eq_false (by omega)
theorem Q97 {M:List Pt} (hs:Hz M) {i:Nat} {p:Pt} (h:M[i]? = some p):put (M.take i++M.drop (i+1)) p=M:=by
 have hi:=(Qc.1 h).1;have hl:(M.take i).length=i:=by rw [Qp]; omega
 unfold put;rw [Qtz hs h,Jj (by omega),Qj (by omega),Yg (by omega),List.drop_of_length_le (by omega),Yb];have e:M=M.take i++M.drop i:=(Za i M).symm
 conv=>rhs; rw [e,Zj hi,(Qc.1 h).2]
theorem Za0 {M:List Pt} (hs:Hz M) {i:Nat} {p:Pt} (h:M[i]? = some p):M.set (Lq M p.id) p=M:=by
 rw [Qxe hs h];apply Xf;intro j;rw [Ju]
 split
 ·rename_i e;subst e;rw [if_pos (Qc.1 h).1,h]
 ·rfl
end Orr
namespace Orq
open Orr Go
def Qta (sg:List Int->Int) (a b c:Pt):Ct:=⟨3,a.id,b.id,c.id,0,Ny a.c b.c c.c,Bj sg (Ny a.c b.c c.c)⟩
end Orq
namespace Orr
open Go Go.Proofs Orq
set_option maxRecDepth 10000
theorem Qyx {a b c:Pt} {t:Tm} (ha:Sc a.c) (hb:Sc b.c) (hc:Sc c.c) (ht:Va t):W8 Tryz.prog 120 [.one (.int .i64 3),.agg (ta t),.one (.row [Fw a,Fw b,Fw c])] [.agg (Qdt (Qta (Pv t) a b c)),.one (.int .i64 0)]:=by
 have hp:=(Qmh ha hb hc).dp;have e:Qdt (Qta (Pv t) a b c)=[.int .i64 3,.int .i64 a.id,.int .i64 b.id,.int .i64 c.id,.int .i64 0,pl (Ny a.c b.c c.c),.int .i64 (Bj (Pv t) (Ny a.c b.c c.c))]:=by rw [Qta]
 rw [e];have cg:=Zg6 hp ht;have cf:=Q51 ha hb hc;generalize Ny a.c b.c c.c=F at *;refine Fv Tryz.func120 rfl ?_;refine go tt [.c [] Q2w,.f rfl] rfl trivial ?_;refine lp (S:=Nat) 3 (λL1 i=>(22,.v (.one (.int .i64 (i:Int))))::L1) (λi=>[.blk 79 (ta t),.blk 99 zCt,.blk 99 [.int .i64 3,.int .i64 (if 1<=i then a.id else 0),.int .i64 (if 2<=i then b.id else 0),.int .i64 (if 3<=i then c.id else 0),.int .i64 0,.nils,.int .i64 0]]) (λi=>3-i) (λi=>i<=3) 0 (Qg _) rfl (λ_ _=>rfl) rfl λi hi=>?_
 rcases (show i=0\/i=1\/i=2\/i=3 by omega) with rfl | rfl | rfl | rfl
 ·refine go tt [.t rfl,.x (i:=0) (xs:=Fw a) rfl,.i 0] rfl (by simp [W6]) ?_;exact rd 1 (by omega) (by omega) rfl
 ·refine go tt [.t rfl,.x (i:=1) (xs:=Fw b) rfl,.i 1] rfl (by simp [W6]) ?_;exact rd 2 (by omega) (by omega) rfl
 ·refine go tt [.t rfl,.x (i:=2) (xs:=Fw c) rfl,.i 2] rfl (by simp [W6]) ?_;exact rd 3 (by omega) (by omega) rfl
 ·exact en tt [.f rfl,.f rfl,.f rfl,.t rfl,.x (i:=0) (xs:=Fw a) rfl,.x (i:=1) (xs:=Fw b) rfl,.x (i:=2) (xs:=Fw c) rfl,.c [] cf,.c [] cg] rfl rfl trivial
theorem Q17 {l:List Pt} (hl:∀ p∈l,Sc p.c):∀ p∈l,Qu5 4294967294 1073741824 p:=λp hp=>⟨(hl p hp).n,(hl p hp).c.mono (by decide) (by decide)⟩
def Qla (a b:Crv):Bool:=decide ((Qk8 (Ei a.x a.d) (Ei b.x b.d)).length=0) && decide ((Qk8 (Ei a.y a.d) (Ei b.y b.d)).length=0)
theorem Zdr {a b:Crv} (ha:Rs a) (hb:Rs b):W8 Tryz.prog 50 [.agg (Bu a),.agg (Bu b)] [.one (.bool (Qla a b))]:=by
 have lx1:=ha.c.lx;have ly1:=ha.c.ly;have lx2:=hb.c.lx;have ly2:=hb.c.ly;have cx:=Q6v (p:=Ei a.x a.d) (q:=Ei b.x b.d) (Qcm (W7 ha.c.x (by decide)) (Qd ha.c.d (by decide)) (by decide)) (Qcm (W7 hb.c.x (by decide)) (Qd hb.c.d (by decide)) (by decide)) (by rw [Pi]; omega) (by rw [Pi]; omega);have cy:=Q6v (p:=Ei a.y a.d) (q:=Ei b.y b.d) (Qcm (W7 ha.c.y (by decide)) (Qd ha.c.d (by decide)) (by decide)) (Qcm (W7 hb.c.y (by decide)) (Qd hb.c.d (by decide)) (by decide)) (by rw [Pi]; omega) (by rw [Pi]; omega);unfold Qla;generalize Qk8 (Ei a.x a.d) (Ei b.x b.d)=X at *;generalize Qk8 (Ei a.y a.d) (Ei b.y b.d)=Y at *;have hX:(frow X).length=X.length:=by simp [frow]
 have hY:(frow Y).length=Y.length:=by simp [frow]
 by_cases h:X.length=0
 ·by_cases h':Y.length=0
  ·rw [decide_eq_true h,decide_eq_true h'];exact w tt Tryz.func50 rfl [.c [] cx,.g 12 true (decide_eq_true (by omega)),.c [] cy,.g 19 true (decide_eq_true (by omega))] rfl rfl trivial
  ·rw [decide_eq_true h,decide_eq_false h'];exact w tt Tryz.func50 rfl [.c [] cx,.g 12 true (decide_eq_true (by omega)),.c [] cy,.g 19 false (decide_eq_false (by omega))] rfl rfl trivial
 ·rw [decide_eq_false h];exact w tt Tryz.func50 rfl [.c [] cx,.g 12 false (decide_eq_false (by omega))] rfl rfl trivial
def Qhi (out:List Pt) (p:Pt):List Pt:=if (out.any λo=>Qla o.c p.c)=true then out else out++[p]
def Qbv (l:List Pt):List Pt:=(Hy D5 l).foldl Qhi []
theorem Qep:∀ (M O:List Pt),(∀ p∈M.foldl Qhi O,p∈O\/p∈M)/\(M.foldl Qhi O).length≤O.length+M.length
 | [],O=>⟨λp hp=>.inl hp,by simp⟩
 |
  x::M,O=>by
  obtain ⟨h1,h2⟩:=Qep M (Qhi O x);have e1:(Qhi O x).length<=O.length+1:=by unfold Qhi; split <;> simp
  refine ⟨λp hp=>?_,by rw [Z3,Q7]; omega⟩;rcases h1 p hp with h | h
  ·unfold Qhi at h
   split at h
   ·exact .inl h
   ·rcases Qx.1 h with h | h
    ·exact .inl h
    ·exact .inr (by rw [Qm.1 h]; simp)
  ·exact .inr (Qi _ h)
theorem Q4v {l:List Pt} {p:Pt} (h:p∈Qbv l):p∈l:=by
 rcases (Qep (Hy D5 l) []).1 p h with h | h
 ·cases h
 ·exact Aj.1 h
theorem Qog (l:List Pt):(Qbv l).length<=l.length:=by
 have:=(Qep (Hy D5 l) []).2;rw [Nn,X1,Z0] at this;exact this
theorem Zbp {α:Type} {f:α->Bool} {l:List α} {i:Nat} {x:α} (h:l[i]? = some x):(l.take (i+1)).any f=((l.take i).any f || f x):=by
 rw [Zx,h,List.any_append]; simp
theorem Zdt {l:List Pt} (hl:∀ p∈l,Rs p.c) (hn:l.length≤1000):W8 Tryz.prog 9 [.one (.row (Ux l))] [.one (.row (Ux (Qbv l)))]:=by
 have c1:=Qze (l:=l) (by omega);have hML:(Hy D5 l).length=l.length:=Nn _ _;have hMl:∀ p∈Hy D5 l,Rs p.c:=λp hp=>hl p (Aj.1 hp)
 unfold Qbv;obtain ⟨M,hM⟩:=nmE (Hy D5 l);rw [<-hM] at c1 hML hMl ⊢;have hcl:=Rv M;refine Fv Tryz.func9 rfl ?_;refine go tt [.o 3 61 7,.c [] c1] rfl trivial ?_;refine lp (S:=Nat) 1 (λL1 i=>(11,.v (.one (.int .i64 (i:Int))))::(3,.v (.one (.orow 0 7 none)))::L1) (λi=>[.row false 61 7 (Ux ((M.take i).foldl Qhi []))]) (λi=>M.length-i) (λi=>i<=M.length) 0 (Qg _) rfl (λ_ _=>rfl) rfl λi hi=>?_
 by_cases hlt:i<M.length
 ·obtain ⟨p,hp⟩:=gxE (l:=M) (i:=i) hlt;have hpr:=hMl p (Qa hp);have hst:=Hh Qhi [] M hp;have hsub:=Qep (M.take i) [];obtain ⟨O,hO⟩:=nmE ((M.take i).foldl Qhi []);rw [<-hO] at hst hsub ⊢;have hOl:O.length<=1000:=by have:=hsub.2; rw [X1,Qp] at this; omega
  have hOm:∀ o∈O,Rs o.c:=λo ho=>by
   rcases hsub.1 o ho with h | h
   ·cases h
   ·exact hMl o (Ql h)
  have hrl:=Rv O;refine go tt [.t (decide_eq_true (by omega))] rfl trivial ?_;refine lp (S:=Nat) 1 (λL1 k=>(16,.v (.one (.int .i64 (k:Int))))::(5,.v (.one (.bool ((O.take k).any λo=>Qla o.c p.c))))::L1) (λ_=>[.row false 61 7 (Ux O)]) (λk=>O.length-k) (λk=>k<=O.length) 0 (Qg _) rfl (λ_ _=>rfl) rfl λk hk=>?_
  by_cases hkl:k<O.length
  ·obtain ⟨o,ho⟩:=gxE (l:=O) (i:=k) hkl;have ha:=Zbp (f:=λo=>Qla o.c p.c) ho;cases hb:(O.take k).any λo=>Qla o.c p.c with
   |
    true =>
    rw [hb,Bool.true_or] at ha;refine go tt [.t (decide_eq_true (by omega)),.g 20 true rfl] rfl (by simp [W6] <;> omega) ?_;exact rd (k+1) (by omega) hkl (by rw [ha]; rfl)
   |
    false =>
    rw [hb,Bool.false_or] at ha;refine go tt [.t (decide_eq_true (by omega)),.g 20 false rfl,.i k,.x (H5 ho),.x (H5 hp),.c [] (Zdr (hOm o (Qa ho)) hpr)] rfl (by simp [W6] <;> omega) ?_;exact rd (k+1) (by omega) hkl (by rw [ha]; rfl)
  ·obtain rfl:k=O.length:=by omega
   rw [Q4];have h7z:∀ y∈[M5 p],y.length=7:=λy hy=>by rw [Qm.1 hy]; rfl
   cases hb:O.any λo=>Qla o.c p.c with
   |
    true =>
    have e:Qhi O p=O:=if_pos hb;refine go tt [.f (decide_eq_false (by omega)),.f rfl] rfl (by simp [W6] <;> omega) ?_;exact rd (i+1) (by omega) hlt (by rw [hst,e]; rfl)
   |
    false =>
    have e:Qhi O p=O++[p]:=if_neg (by rw [hb]; decide);refine go tt [.f (decide_eq_false (by omega)),.t rfl,.x (H5 hp),.s (sz:=7) h7z] rfl (by simp [W6] <;> omega) ?_;exact rd (i+1) (by omega) hlt (by rw [hst,e]; simp [Ux]; rfl)
 ·obtain rfl:i=M.length:=by omega
  rw [Q4];exact en tt [.f (decide_eq_false (by omega))] rfl rfl trivial

def Qcc (sg:List Int->Int) (a b c:Pt):Ct:=⟨3,a.id,b.id,c.id,0,Ln a.c b.c c.c,Bj sg (Ln a.c b.c c.c)⟩
theorem Q60 {a b u:Pt} {q:Rat} {c:List (List Int)} (ha:Rs a.c) (hb:Rs b.c) (hu:Rs u.c) (hq:Qs 1000000 q):W8 Tryz.prog 265 [.one (.int .i64 3),.agg (aq q c),.one (.row [M5 a,M5 b,M5 u])] [.agg (rct (Qcc (Ap q) a b u)),.one (.bool true)]:=by
 have x0:[M5 a,M5 b,M5 u][0]? = some (M5 a):=rfl;have x1:[M5 a,M5 b,M5 u][1]? = some (M5 b):=rfl;have x2:[M5 a,M5 b,M5 u][2]? = some (M5 u):=rfl;have cf:=Q22 ha hb hu;have hsz:=Qw7 ha hb hu;have cg:=Qrq (c:=c) (W7 hsz.1 (by decide)) (Qd hsz.2 (by decide)) hq;have e:rct (Qcc (Ap q) a b u)=[.int .i64 3,.int .i64 a.id,.int .i64 b.id,.int .i64 u.id,.int .i64 0,rp (zp (Ln a.c b.c u.c)),.int .i64 (Qj1 (Ln a.c b.c u.c) q),.row [],.bool false]:=by simp only [Qcc,rct,Qj2]
 rw [e];generalize Ln a.c b.c u.c=F at *;refine Fv Tryz.func265 rfl ?_;refine go tt [.g 14 false rfl,.g 18 false rfl,.x (l:=[[.int .i64 0],[.int .i64 2],[.int .i64 2],[.int .i64 3],[.int .i64 4],[.int .i64 4]]) (i:=3) (xs:=[.int .i64 3]) rfl,.f rfl] rfl trivial ?_;refine lp (S:=Nat) 3 (λL1 i=>(33,.v (.one (.int .i64 (i:Int))))::L1) (λi=>[.blk 37 (aq q c),.blk 227 rzc,.blk 227 [.int .i64 3,.int .i64 (if 0<i then a.id else 0),.int .i64 (if 1<i then b.id else 0),.int .i64 (if 2<i then u.id else 0),.int .i64 0,.nils,.int .i64 0,.nils,.bool false]]) (λi=>3-i) (λi=>i<=3) 0 (by decide) rfl (λ_ _=>rfl) rfl λi hi=>?_
 rcases (show i=0\/i=1\/i=2\/i=3 by omega) with rfl | rfl | rfl | rfl
 ·exact go tt [.t rfl,.x x0,.i 0] rfl (by simp [W6]) (rd 1 (by omega) (by omega) rfl)
 ·exact go tt [.t rfl,.x x1,.i 1] rfl (by simp [W6]) (rd 2 (by omega) (by omega) rfl)
 ·exact go tt [.t rfl,.x x2,.i 2] rfl (by simp [W6]) (rd 3 (by omega) (by omega) rfl)
 exact en tt [.f rfl,.f rfl,.f rfl,.t rfl,.x x0,.x x1,.x x2,.c [] cf,.c [] cg] rfl rfl trivial
theorem Zdu {a b u:Pt} {q:Rat} {c:List (List Int)} (ha:Rs a.c) (hb:Rs b.c) (hu:Rs u.c) (hq:Qs 1000000 q):W8 Tryz.prog 232 [.one (.int .i64 3),.agg (aq q c),.one (.row [M5 a,M5 b,M5 u])] [.agg (rct (Qcc (Ap q) a b u))] :=
 w tt Tryz.func232 rfl [.c [] (Q60 ha hb hu hq)] rfl rfl trivial
def Qbk (k:Crv):List (List Int):=[Uo k.x [k.d],Uo k.y [k.d],D6 (Uo k.x k.x) (Uo k.y k.y),Uo [k.d] [k.d]]
def Db (a b c d:Crv):List (List (List Int)):=[Qbk a,Qbk b,Qbk c,Qbk d]
def Qgl (a b c d:Crv):List Int:=Qc9 4 (Db a b c d)
theorem Qr2 {k:Crv} (hk:Rs k):(∀ p∈Qbk k,Bd 300000 p)/\∀ (j:Nat) (p:List Int),(Qbk k)[j]? = some p->p.length≤[15,15,30,0].getD j 0+1:=by
 have bd1:Bd 100000 [k.d]:=Zh9 hk.c.d;have l1:=Hl k.x [k.d];have l2:=Hl k.y [k.d];have l3:=Hl k.x k.x;have l4:=Hl k.y k.y;have l5:=Hl [k.d] [k.d];have l6:=Of (Uo k.x k.x) (Uo k.y k.y);have hx:=hk.c.lx;have hy:=hk.c.ly;have e1:[k.d].length=1:=rfl;have m1:Bd 200005 (Uo k.x [k.d]):=Rk (u:=5) hk.c.x bd1 (by omega);have m2:Bd 200005 (Uo k.y [k.d]):=Rk (u:=5) hk.c.y bd1 (by omega);have m3:Bd 200005 (Uo k.x k.x):=Rk (u:=5) hk.c.x hk.c.x (by omega);have m4:Bd 200005 (Uo k.y k.y):=Rk (u:=5) hk.c.y hk.c.y (by omega);have m5:Bd 200005 (Uo [k.d] [k.d]):=Rk (u:=5) bd1 bd1 (by omega);refine ⟨λp hp=>?_,λj p hp=>?_⟩
 ·simp only [Qbk,Qo,J3,or_false] at hp;rcases hp with rfl | rfl | rfl | rfl
  ·exact W7 m1 (by decide)
  ·exact W7 m2 (by decide)
  ·exact W7 (Qcx m3 m4) (by decide)
  ·exact W7 m5 (by decide)
 ·match j,hp with
  | 0,hp=>injection hp with hp; subst hp; show _<=16; omega
  | 1,hp=>injection hp with hp; subst hp; show _<=16; omega
  | 2,hp=>injection hp with hp; subst hp; show _<=31; omega
  | 3,hp=>injection hp with hp; subst hp; show _<=1; omega
  | j+4,hp=>simp [Qbk] at hp
theorem Qmi {a b c d:Crv} (ha:Rs a) (hb:Rs b) (hc:Rs c) (hd:Rs d):SqR 300000 [15,15,30,0] (Db a b c d):=by
 have hr:∀ r∈Db a b c d,∃ k:Crv,Rs k/\r=Qbk k:=λr hr=>by
  simp only [Db,Qo,J3,or_false] at hr;rcases hr with rfl | rfl | rfl | rfl
  ·exact ⟨a,ha,rfl⟩
  ·exact ⟨b,hb,rfl⟩
  ·exact ⟨c,hc,rfl⟩
  ·exact ⟨d,hd,rfl⟩
 refine ⟨rfl,λr h=>?_,λr h=>?_,λr h=>?_⟩
 all_goals obtain ⟨k,hk,rfl⟩:=hr r h
 ·rfl
 ·exact (Qr2 hk).1
 ·exact (Qr2 hk).2
theorem Q7e {a b c d:Crv} (ha:Rs a) (hb:Rs b) (hc:Rs c) (hd:Rs d):Bd 1300000 (Qgl a b c d)/\(Qgl a b c d).length<=61:=by
 rcases Qht 4 [15,15,30,0] (Db a b c d) rfl (by decide) (Qmi ha hb hc hd) with h | h
 ·exact ⟨W7 h.1 (by decide),h.2.1⟩
 ·omega
theorem Zdm {a b c d:Crv} (ha:Rs a) (hb:Rs b) (hc:Rs c) (hd:Rs d):W8 Tryz.prog 13 [.agg (Bu a),.agg (Bu b),.agg (Bu c),.agg (Bu d)] [.one (rp (zp (Qgl a b c d)))]:=by
 have cd:=Qv5 (by decide) 4 [15,15,30,0] (Db a b c d) (by decide) rfl (by decide) (Qmi ha hb hc hd);have x0:[Bu a,Bu b,Bu c,Bu d][0]? = some (Bu a):=rfl;have x1:[Bu a,Bu b,Bu c,Bu d][1]? = some (Bu b):=rfl;have x2:[Bu a,Bu b,Bu c,Bu d][2]? = some (Bu c):=rfl;have x3:[Bu a,Bu b,Bu c,Bu d][3]? = some (Bu d):=rfl;have hs1:∀ k:Crv,∀ y∈[[LV.row (zrw (Qbk k))]],y.length=1:=λk y hy=>by rw [Qm.1 hy]; rfl
 have bd1:∀ {k:Crv},Rs k->Bd 100000 [k.d]:=λhk=>Zh9 hk.c.d
 have q1:=λ{k:Crv} (hk:Rs k)=>Qb1 (p:=k.x) (q:=k.x) (by have:=hk.c.lx; omega) (by have:=hk.c.lx; omega) hk.c.x hk.c.x (by decide)
 have q2:=λ{k:Crv} (hk:Rs k)=>Qb1 (p:=k.y) (q:=k.y) (by have:=hk.c.ly; omega) (by have:=hk.c.ly; omega) hk.c.y hk.c.y (by decide)
 have q3:=λ{k:Crv} (hk:Rs k)=>Qb1 (p:=k.x) (q:=[k.d]) (by have:=hk.c.lx; omega) (by show 1<=1000000; decide) hk.c.x (bd1 hk) (by decide)
 have q4:=λ{k:Crv} (hk:Rs k)=>Qb1 (p:=k.y) (q:=[k.d]) (by have:=hk.c.ly; omega) (by show 1<=1000000; decide) hk.c.y (bd1 hk) (by decide)
 have q5:=λ{k:Crv} (hk:Rs k)=>Qb1 (p:=[k.d]) (q:=[k.d]) (by show 1<=1000000; decide) (by show 1<=1000000; decide) (bd1 hk) (bd1 hk) (by decide)
 have q6:=λ{k:Crv} (hk:Rs k)=>Qo0 (p:=Uo k.x k.x) (q:=Uo k.y k.y) (W7 (Rk (u:=5) hk.c.x hk.c.x (by have:=hk.c.lx; omega)) (by decide)) (W7 (Rk (u:=5) hk.c.y hk.c.y (by have:=hk.c.ly; omega)) (by decide)) (by have:=Hl k.x k.x; have:=hk.c.lx; omega) (by have:=Hl k.y k.y; have:=hk.c.ly; omega)
 refine Fv Tryz.func13 rfl ?_;refine go tt [.o 9 29 1] rfl trivial ?_;refine lp (S:=Nat) 5 (λL1 i=>(22,.v (.one (.int .i64 (i:Int))))::(9,.v (.one (.orow 4 1 none)))::L1) (λi=>[.blk 59 (Bu a),.blk 59 (Bu b),.blk 59 (Bu c),.blk 59 (Bu d),.row false 29 1 (zmt ((Db a b c d).take i))]) (λi=>4-i) (λi=>i<=4) 0 (by decide) rfl (λ_ _=>rfl) rfl λi hi=>?_
 rcases (show i=0\/i=1\/i=2\/i=3\/i=4 by omega) with rfl | rfl | rfl | rfl | rfl
 ·exact go tt [.t rfl,.x x0,.c [] (Qb2 ha),.c [] (q1 ha),.c [] (q2 ha),.c [] (q6 ha),.c [] (q3 ha),.c [] (q4 ha),.c [] (q5 ha),.s (sz:=1) (hs1 a)] rfl (by simp [W6,zmt,Db]) (rd 1 (by omega) (by omega) rfl)
 ·exact go tt [.t rfl,.x x1,.c [] (Qb2 hb),.c [] (q1 hb),.c [] (q2 hb),.c [] (q6 hb),.c [] (q3 hb),.c [] (q4 hb),.c [] (q5 hb),.s (sz:=1) (hs1 b)] rfl (by simp [W6,zmt,Db]) (rd 2 (by omega) (by omega) rfl)
 ·exact go tt [.t rfl,.x x2,.c [] (Qb2 hc),.c [] (q1 hc),.c [] (q2 hc),.c [] (q6 hc),.c [] (q3 hc),.c [] (q4 hc),.c [] (q5 hc),.s (sz:=1) (hs1 c)] rfl (by simp [W6,zmt,Db]) (rd 3 (by omega) (by omega) rfl)
 ·exact go tt [.t rfl,.x x3,.c [] (Qb2 hd),.c [] (q1 hd),.c [] (q2 hd),.c [] (q6 hd),.c [] (q3 hd),.c [] (q4 hd),.c [] (q5 hd),.s (sz:=1) (hs1 d)] rfl (by simp [W6,zmt,Db]) (rd 4 (by omega) (by omega) rfl)
 ·exact en tt [.f rfl,.c [] cd] rfl rfl trivial
def Om (sg:List Int->Int) (a b c d:Pt):Ct:=⟨4,a.id,b.id,c.id,d.id,Qgl a.c b.c c.c d.c,Bj sg (Qgl a.c b.c c.c d.c)⟩
theorem Q61 {a b u v:Pt} {q:Rat} {c:List (List Int)} (ha:Rs a.c) (hb:Rs b.c) (hu:Rs u.c) (hv:Rs v.c) (hq:Qs 1000000 q):W8 Tryz.prog 265 [.one (.int .i64 4),.agg (aq q c),.one (.row [M5 a,M5 b,M5 u,M5 v])] [.agg (rct (Om (Ap q) a b u v)),.one (.bool true)]:=by
 have x0:[M5 a,M5 b,M5 u,M5 v][0]? = some (M5 a):=rfl;have x1:[M5 a,M5 b,M5 u,M5 v][1]? = some (M5 b):=rfl;have x2:[M5 a,M5 b,M5 u,M5 v][2]? = some (M5 u):=rfl;have x3:[M5 a,M5 b,M5 u,M5 v][3]? = some (M5 v):=rfl;have cf:=Zdm ha hb hu hv;have hsz:=Q7e ha hb hu hv;have cg:=Qrq (c:=c) (W7 hsz.1 (by decide)) (Qd hsz.2 (by decide)) hq;have e:rct (Om (Ap q) a b u v)=[.int .i64 4,.int .i64 a.id,.int .i64 b.id,.int .i64 u.id,.int .i64 v.id,rp (zp (Qgl a.c b.c u.c v.c)),.int .i64 (Qj1 (Qgl a.c b.c u.c v.c) q),.row [],.bool false]:=by simp only [Om,rct,Qj2]
 rw [e];generalize Qgl a.c b.c u.c v.c=F at *;refine Fv Tryz.func265 rfl ?_;refine go tt [.g 14 false rfl,.g 18 false rfl,.x (l:=[[.int .i64 0],[.int .i64 2],[.int .i64 2],[.int .i64 3],[.int .i64 4],[.int .i64 4]]) (i:=4) (xs:=[.int .i64 4]) rfl,.f rfl] rfl trivial ?_;refine lp (S:=Nat) 3 (λL1 i=>(33,.v (.one (.int .i64 (i:Int))))::L1) (λi=>[.blk 37 (aq q c),.blk 227 rzc,.blk 227 [.int .i64 4,.int .i64 (if 0<i then a.id else 0),.int .i64 (if 1<i then b.id else 0),.int .i64 (if 2<i then u.id else 0),.int .i64 (if 3<i then v.id else 0),.nils,.int .i64 0,.nils,.bool false]]) (λi=>4-i) (λi=>i<=4) 0 (by decide) rfl (λ_ _=>rfl) rfl λi hi=>?_
 rcases (show i=0\/i=1\/i=2\/i=3\/i=4 by omega) with rfl | rfl | rfl | rfl | rfl
 ·exact go tt [.t rfl,.x x0,.i 0] rfl (by simp [W6]) (rd 1 (by omega) (by omega) rfl)
 ·exact go tt [.t rfl,.x x1,.i 1] rfl (by simp [W6]) (rd 2 (by omega) (by omega) rfl)
 ·exact go tt [.t rfl,.x x2,.i 2] rfl (by simp [W6]) (rd 3 (by omega) (by omega) rfl)
 ·exact go tt [.t rfl,.x x3,.i 3] rfl (by simp [W6]) (rd 4 (by omega) (by omega) rfl)
 exact en tt [.f rfl,.f rfl,.f rfl,.f rfl,.t rfl,.x x0,.x x1,.x x2,.x x3,.c [] cf,.c [] cg] rfl rfl trivial
theorem Zdv {a b u v:Pt} {q:Rat} {c:List (List Int)} (ha:Rs a.c) (hb:Rs b.c) (hu:Rs u.c) (hv:Rs v.c) (hq:Qs 1000000 q):W8 Tryz.prog 232 [.one (.int .i64 4),.agg (aq q c),.one (.row [M5 a,M5 b,M5 u,M5 v])] [.agg (rct (Om (Ap q) a b u v))] :=
 w tt Tryz.func232 rfl [.c [] (Q61 ha hb hu hv hq)] rfl rfl trivial
variable (sg:List Int->Int)
def cK (W:List Pt) (x y z:Pt) (k n:Nat):List Ct:=Qcc sg x y z::((W.drop (k+1)).take n).map (Om sg x y z)
def cJ (W:List Pt) (x y:Pt) (j:Nat):Nat->List Ct
 | 0=>[]
 | n+1=>cJ W x y j n++match W[j+1+n]? with | none=>[] | some z=>cK sg W x y z (j+1+n) (W.length-(j+1+n)-1)
def cI (W:List Pt) (x:Pt) (i:Nat):Nat->List Ct
 | 0=>[]
 | n+1=>cI W x i n++match W[i+1+n]? with | none=>[] | some y=>cJ sg W x y (i+1+n) (W.length-(i+1+n)-1)
def cW (W:List Pt):Nat->List Ct
 | 0=>[]
 | n+1=>cW W n++match W[n]? with | none=>[] | some x=>cI sg W x n (W.length-n-1)
variable {sg:List Int->Int}
theorem Q5i {W:List Pt} {x y z:Pt} {k n:Nat} (h:n<=5):(cK sg W x y z k n).length<=6:=by
 unfold cK;rw [Q7,Q6,Qp]; omega
theorem Zcr {W:List Pt} {x y z v:Pt} {k n:Nat} (h:W[k+1+n]? = some v):cK sg W x y z k (n+1)=cK sg W x y z k n++[Om sg x y z v]:=by
 unfold cK;rw [Yd,Z2,h];simp
theorem Zcq {W:List Pt} {x y z:Pt} {j n:Nat} (h:W[j+1+n]? = some z):cJ sg W x y j (n+1)=cJ sg W x y j n++cK sg W x y z (j+1+n) (W.length-(j+1+n)-1):=by
 show cJ sg W x y j n++(match W[j+1+n]? with | none=>[] | some z=>cK sg W x y z (j+1+n) (W.length-(j+1+n)-1))=_;rw [h]
theorem Zcp {W:List Pt} {x y:Pt} {i n:Nat} (h:W[i+1+n]? = some y):cI sg W x i (n+1)=cI sg W x i n++cJ sg W x y (i+1+n) (W.length-(i+1+n)-1):=by
 show cI sg W x i n++(match W[i+1+n]? with | none=>[] | some y=>cJ sg W x y (i+1+n) (W.length-(i+1+n)-1))=_;rw [h]
theorem Zcs {W:List Pt} {x:Pt} {n:Nat} (h:W[n]? = some x):cW sg W (n+1)=cW sg W n++cI sg W x n (W.length-n-1):=by
 show cW sg W n++(match W[n]? with | none=>[] | some x=>cI sg W x n (W.length-n-1))=_;rw [h]
theorem Qvi {W:List Pt} {x y:Pt} {j:Nat} (hW:W.length<=6):∀ n,(cJ sg W x y j n).length<=n*6
 | 0=>Qn _
 |
  n+1=>by
  have ih:=Qvi (x:=x) (y:=y) (j:=j) hW n;unfold cJ;rw [Q5];cases h:W[j+1+n]? with
  | none=>show _+0<=_; omega
  |
   some z =>
   have hk:=Q5i (sg:=sg) (W:=W) (x:=x) (y:=y) (z:=z) (k:=j+1+n) (n:=W.length-(j+1+n)-1) (by omega);dsimp only; omega
theorem Qvh {W:List Pt} {x:Pt} {i:Nat} (hW:W.length<=6):∀ n,(cI sg W x i n).length<=n*36
 | 0=>Qn _
 |
  n+1=>by
  have ih:=Qvh (x:=x) (i:=i) hW n;unfold cI;rw [Q5];cases h:W[i+1+n]? with
  | none=>show _+0<=_; omega
  |
   some y =>
   have hk:=Qvi (sg:=sg) (x:=x) (y:=y) (j:=i+1+n) hW (W.length-(i+1+n)-1);dsimp only; omega
theorem Qop {W:List Pt} (hW:W.length<=6):∀ n,(cW sg W n).length<=n*216
 | 0=>Qn _
 |
  n+1=>by
  have ih:=Qop hW n;unfold cW;rw [Q5];cases h:W[n]? with
  | none=>show _+0<=_; omega
  |
   some x =>
   have hk:=Qvh (sg:=sg) (x:=x) (i:=n) hW (W.length-n-1);dsimp only; omega
def Qbq (q:Rat) (l:List Pt):List Ct:=Hy M8 (cW (Ap q) (Qbv l) (Qbv l).length)
theorem Q4c (q:Rat) {l:List Pt} (hn:l.length<=6):(Qbq q l).length<=1000000:=by
 have hw:=Qog l;have h:=Qop (sg:=Ap q) (W:=Qbv l) (by omega) (Qbv l).length;unfold Qbq;rw [Nn]; omega
set_option maxHeartbeats 8000000 in
theorem Qo1 {l:List Pt} {q:Rat} {cs:List (List Int)} (hl:∀ p∈l,Rs p.c) (hn:l.length≤6) (hq:Qs 1000000 q):W8 Tryz.prog 195 [.one (.row (Ux l)),.agg (aq q cs)] [.one (.row (Gd (Qbq q l)))]:=by
 have c1:=Zdt hl (by omega);have hw:=Qog l;have hW:∀ p∈Qbv l,Rs p.c:=λp hp=>hl p (Q4v hp)
 unfold Qbq;obtain ⟨W,hWe⟩:=nmE (Qbv l);rw [<-hWe] at c1 hw hW ⊢;have hW6:W.length<=6:=by omega
 have hwl:=Qop (sg:=Ap q) hW6 W.length;have c9:=Zds (l:=cW (Ap q) W W.length) (by omega);have hrl:=Rv W;refine Fv Tryz.func195 rfl ?_;refine go tt [.c [] c1,.o 6 227 9] rfl trivial ?_;refine lp (S:=Nat) 2 (λL1 i=>(15,.v (.one (.int .i64 (i:Int))))::(6,.v (.one (.orow 1 9 none)))::L1) (λi=>[.blk 37 (aq q cs),.row false 227 9 (Gd (cW (Ap q) W i))]) (λi=>W.length-i) (λi=>i<=W.length) 0 (Qg _) rfl (λ_ _=>rfl) rfl λi hi=>?_
 by_cases hlt:i<W.length
 ·obtain ⟨x,hx⟩:=gxE (l:=W) (i:=i) hlt;have sx:=hW x (Qa hx);have hnx:=Zcs (sg:=Ap q) hx;have hl1:=Qop (sg:=Ap q) hW6 i;obtain ⟨F,hF⟩:=nmE (cW (Ap q) W i);rw [<-hF] at hnx hl1 ⊢;refine go tt [.t (decide_eq_true (by omega)),.r 19 (eI (b:=((i+1+0:Nat):Int)) (by simp))] rfl (by simp [W6] <;> omega) ?_;rw [show Gd F=Gd (F++cI (Ap q) W x i 0) by simp [cI]];refine lp (S:=Nat) 2 (λL1 n=>(8,.v (.one (.int .i64 ((i+1+n:Nat):Int))))::(6,.v (.one (.orow 1 9 none)))::L1) (λn=>[.blk 37 (aq q cs),.row false 227 9 (Gd (F++cI (Ap q) W x i n))]) (λn=>W.length-i-n) (λn=>n<=W.length-i-1) 0 (Qg _) rfl (λ_ _=>rfl) rfl λn hnn=>?_
  by_cases hlj:i+1+n<W.length
  ·obtain ⟨y,hy⟩:=gxE (l:=W) (i:=i+1+n) hlj;have sy:=hW y (Qa hy);have hnx2:=Zcp (sg:=Ap q) (x:=x) hy;have hl2:=Qvh (sg:=Ap q) (x:=x) (i:=i) hW6 n;obtain ⟨G,hG⟩:=nmE (F++cI (Ap q) W x i n);have hGl:G.length<=1296+216:=by rw [hG,Q5]; omega
   have hnx3:F++cI (Ap q) W x i (n+1)=G++cJ (Ap q) W x y (i+1+n) (W.length-(i+1+n)-1):=by rw [hnx2,hG,Ze]
   rw [<-hG];obtain ⟨j,hj⟩:=nmE (i+1+n);rw [<-hj] at hlj hy hnx3 ⊢;refine go tt [.t (decide_eq_true (by omega)),.r 27 (eI (b:=((j+1+0:Nat):Int)) (by simp))] rfl (by simp [W6] <;> omega) ?_;rw [show Gd G=Gd (G++cJ (Ap q) W x y j 0) by simp [cJ]];refine lp (S:=Nat) 2 (λL1 m=>(9,.v (.one (.int .i64 ((j+1+m:Nat):Int))))::(6,.v (.one (.orow 1 9 none)))::L1) (λm=>[.blk 37 (aq q cs),.row false 227 9 (Gd (G++cJ (Ap q) W x y j m))]) (λm=>W.length-j-m) (λm=>m<=W.length-j-1) 0 (Qg _) rfl (λ_ _=>rfl) rfl λm hm=>?_
   by_cases hlk:j+1+m<W.length
   ·obtain ⟨z,hz⟩:=gxE (l:=W) (i:=j+1+m) hlk;have sz:=hW z (Qa hz);have hnx4:=Zcq (sg:=Ap q) (x:=x) (y:=y) hz;have hl3:=Qvi (sg:=Ap q) (x:=x) (y:=y) (j:=j) hW6 m;obtain ⟨H,hH⟩:=nmE (G++cJ (Ap q) W x y j m);have hHl:H.length<=1296+216+36:=by rw [hH,Q5]; omega
    have hnx5:G++cJ (Ap q) W x y j (m+1)=H++cK (Ap q) W x y z (j+1+m) (W.length-(j+1+m)-1):=by rw [hnx4,hH,Ze]
    rw [<-hH];obtain ⟨k,hk⟩:=nmE (j+1+m);rw [<-hk] at hlk hz hnx5 ⊢;have hrH:=Du H;have h9:∀ v∈[rct (Qcc (Ap q) x y z)],v.length=9:=λv hv=>by rw [Qm.1 hv]; rfl
    refine go tt [.t (decide_eq_true (by omega)),.x (H5 hx),.x (H5 hy),.x (H5 hz),.c [] (Zdu sx sy sz hq),.s (sz:=9) h9,.r 53 (eI (b:=((k+1+0:Nat):Int)) (by simp))] rfl (by simp [W6,hrH] <;> omega) ?_;have h0:Gd (H++cK (Ap q) W x y z k 0)=Gd H++[rct (Qcc (Ap q) x y z)]:=by simp [cK,Gd]
    refine lp (S:=Nat) 2 (λL1 p=>(10,.v (.one (.int .i64 ((k+1+p:Nat):Int))))::(6,.v (.one (.orow 1 9 none)))::L1.filter λe => !Nat.beq e.1 51) (λp=>[.blk 37 (aq q cs),.row false 227 9 (Gd (H++cK (Ap q) W x y z k p))]) (λp=>W.length-k-p) (λp=>p<=W.length-k-1) 0 (Qg _) rfl (λ_ _=>rfl) (by rw [h0]; rfl) λp hp=>?_
    by_cases hlm:k+1+p<W.length
    ·obtain ⟨v,hv⟩:=gxE (l:=W) (i:=k+1+p) hlm;have sv:=hW v (Qa hv);have hnx6:=Zcr (sg:=Ap q) (x:=x) (y:=y) (z:=z) hv;have hl4:=Q5i (sg:=Ap q) (W:=W) (x:=x) (y:=y) (z:=z) (k:=k) (n:=p) (by omega);have hrK:=Du (H++cK (Ap q) W x y z k p);rw [Q5] at hrK;have h9v:∀ w∈[rct (Om (Ap q) x y z v)],w.length=9:=λw hw=>by rw [Qm.1 hw]; rfl
     have e3:Gd (H++cK (Ap q) W x y z k (p+1))=Gd (H++cK (Ap q) W x y z k p)++[rct (Om (Ap q) x y z v)]:=by rw [hnx6]; simp [Gd]
     refine go tt [.t (decide_eq_true (by omega)),.x (H5 hx),.x (H5 hy),.x (H5 hz),.x (H5 hv),.c [] (Zdv sx sy sz sv hq),.s (sz:=9) h9v,.r 59 (eI (b:=((k+1+(p+1):Nat):Int)) (by simp <;> omega))] rfl (by simp [W6,hrK] <;> omega) ?_;exact rd (p+1) (by omega) (by omega) (by rw [e3]; rfl)
    ·obtain rfl:p=W.length-k-1:=by omega
     rw [<-hnx5];refine go tt [.f (decide_eq_false (by omega)),.r 33 (eI (b:=((j+1+(m+1):Nat):Int)) (by simp <;> omega))] rfl (by simp [W6] <;> omega) ?_;exact rd (m+1) (by omega) (by omega) rfl
   ·obtain rfl:m=W.length-j-1:=by omega
    rw [<-hnx3];refine go tt [.f (decide_eq_false (by omega)),.r 25 (eI (b:=((i+1+(n+1):Nat):Int)) (by simp <;> omega))] rfl (by simp [W6] <;> omega) ?_;exact rd (n+1) (by omega) (by omega) rfl
  ·obtain rfl:n=W.length-i-1:=by omega
   rw [<-hnx];refine go tt [.f (decide_eq_false (by omega))] rfl (by simp [W6] <;> omega) ?_;exact rd (i+1) (by omega) hlt rfl
 ·obtain rfl:i=W.length:=by omega
  exact en tt [.f (decide_eq_false (by omega)),.c [] c9] rfl rfl (by simp [W6] <;> omega)
theorem Q21 {l:List Pt} {q:Rat} {cs:List (List Int)} (hl:∀ p∈l,Rs p.c) (hn:l.length≤6) (hq:Qs 1000000 q):W8 Tryz.prog 153 [.one (.int .i64 4),.one (.row (Ux l)),.agg (aq q cs)] [.one (.row (Gd (Qbq q l)))] :=
 w tt Tryz.func153 rfl [.f rfl,.f rfl,.f rfl,.f rfl,.c [] (Qo1 hl hn hq)] rfl rfl trivial
theorem Qvj {l:List Pt} {q:Rat} {cs:List (List Int)} (hl:∀ p∈l,Rs p.c) (hn:l.length≤6) (hq:Qs 1000000 q):W8 Tryz.prog 95 [.one (.int .i64 4),.one (.row (Ux l)),.agg (aq q cs)] [.one (.row (Gd (Qbq q l)))] :=
 w tt Tryz.func95 rfl [.c [] (Q21 hl hn hq)] rfl rfl trivial
end Orr
namespace Orq
open Orr Go
def Il (a:Crv):List (List Int):=[U3 a.x a.d,U3 a.y a.d,D6 (Uo a.x a.x) (Uo a.y a.y),[a.d*a.d]]
def Qr3 (a b c d:Crv):List (List (List Int)):=[Il a,Il b,Il c,Il d]
def Qbn (a b c d:Crv):List Int:=Qci 4 (Qr3 a b c d)
theorem Qdu {s:Nat} {k:Crv} (hn:Nml k) (hc:Cs s 3 k):(∀ p∈Il k,Ud p/\Bd (s+s+3) p)/\∀ (j:Nat) (p:List Int),(Il k)[j]? = some p->p.length≤[2,2,4,0].getD j 0+1:=by
 have l1:=Pn k.x k.d;have l2:=Pn k.y k.d;have l3:=Hl k.x k.x;have l4:=Hl k.y k.y;have l5:=Of (Uo k.x k.x) (Uo k.y k.y);have kx:=hc.lx;have ky:=hc.ly;have bx:Bd (s+s+2) (Uo k.x k.x):=Rk hc.x hc.x (by omega);have by_:Bd (s+s+2) (Uo k.y k.y):=Rk hc.y hc.y (by omega);have hd:=hn.2.2.1;have hd0:k.d*k.d≠0:=λe=>by rcases J8.1 e with e | e <;> omega
 have td:Ud [k.d*k.d]:=by unfold Ud; simp [trim,hd0]
 refine ⟨λp hp=>?_,λj p hp=>?_⟩
 ·simp only [Il,Qo,J3,or_false] at hp;rcases hp with rfl | rfl | rfl | rfl
  ·exact ⟨Uw _ _,W7 (Ng hc.x hc.d) (by omega)⟩
  ·exact ⟨Uw _ _,W7 (Ng hc.y hc.d) (by omega)⟩
  ·exact ⟨Uw _ _,W7 (Qcx bx by_) (by omega)⟩
  ·refine ⟨td,λz hz=>?_⟩;rw [Qm.1 hz];have:=Us k.d k.d; have:=hc.d; omega
 ·match j,hp with
  | 0,hp=>injection hp with hp; subst hp; show _<=3; omega
  | 1,hp=>injection hp with hp; subst hp; show _<=3; omega
  | 2,hp=>injection hp with hp; subst hp; show _<=5; omega
  | 3,hp=>injection hp with hp; subst hp; exact Qn _
  | j+4,hp=>simp [Il] at hp
theorem Quj {s:Nat} {a b c d:Crv} (na:Nml a) (nb:Nml b) (nc:Nml c) (nd:Nml d) (ca:Cs s 3 a) (cb:Cs s 3 b) (cc:Cs s 3 c) (cd:Cs s 3 d):Sq (s+s+3) [2,2,4,0] 4 4 (Qr3 a b c d):=by
 have hr:∀ r∈Qr3 a b c d,∃ k:Crv,Nml k/\Cs s 3 k/\r=Il k:=λr hr=>by
  simp only [Qr3,Qo,J3,or_false] at hr;rcases hr with rfl | rfl | rfl | rfl
  ·exact ⟨a,na,ca,rfl⟩
  ·exact ⟨b,nb,cb,rfl⟩
  ·exact ⟨c,nc,cc,rfl⟩
  ·exact ⟨d,nd,cd,rfl⟩
 refine ⟨rfl,λr h=>?_,λr h p hp=>?_,λr h p hp=>?_,λr h j p hp=>?_⟩
 all_goals obtain ⟨k,kn,kc,rfl⟩:=hr r h
 ·rfl
 ·exact ((Qdu kn kc).1 p hp).1
 ·exact ((Qdu kn kc).1 p hp).2
 ·exact (Qdu kn kc).2 j p hp
theorem Qzq {a b c d:Crv} (ha:Sc a) (hb:Sc b) (hc:Sc c) (hd:Sc d):Cp (Qbn a b c d):=by
 obtain ⟨h1,h2,h3⟩:=Qh7 4 [2,2,4,0] (Qr3 a b c d) (by decide) rfl (by decide) (Quj ha.n hb.n hc.n hd.n ha.c hb.c hc.c hd.c);exact ⟨h1,Qd h3 (by decide),W7 h2 (by decide)⟩
def Qkm (sg:List Int->Int) (a b c d:Pt):Ct:=⟨4,a.id,b.id,c.id,d.id,Qbn a.c b.c c.c d.c,Bj sg (Qbn a.c b.c c.c d.c)⟩
abbrev P3:=Pt×(Pt×Pt)
abbrev P4:=Pt×P3
def Px:Nat->List Pt->List P3
 | 0,_=>[]
 | _+1,[]=>[]
 | k+1,x::l=>(Cj l).map (λm=>(x,m))++Px k l
def Gt (l:List Pt):List P3:=Px l.length l
def M4:Nat->List Pt->List P4
 | 0,_=>[]
 | _+1,[]=>[]
 | k+1,x::l=>(Gt l).map (λm=>(x,m))++M4 k l
def Dt (l:List Pt):List P4:=M4 l.length l
theorem Qa8:∀ (l:List Pt) (i:Nat) (x:Pt),l[i]? = some x->Px (i+1) l=Px i l++(Cj (l.drop (i+1))).map (λm=>(x,m))
 | [],i,x,h=>by simp at h
 | y::l,0,x,h=>by simp at h; subst h; simp [Px]
 |
  y::l,i+1,x,h=>by
  have ih:=Qa8 l i x (by simpa using h);show (Cj l).map _++Px (i+1) l=((Cj l).map _++Px i l)++_;rw [ih,Ze]; rfl
theorem Qf4:∀ (l:List Pt) (i:Nat) (x:Pt),l[i]? = some x->M4 (i+1) l=M4 i l++(Gt (l.drop (i+1))).map (λm=>(x,m))
 | [],i,x,h=>by simp at h
 | y::l,0,x,h=>by simp at h; subst h; simp [M4]
 |
  y::l,i+1,x,h=>by
  have ih:=Qf4 l i x (by simpa using h);show (Gt l).map _++M4 (i+1) l=((Gt l).map _++M4 i l)++_;rw [ih,Ze]; rfl
theorem Qli:∀ (k:Nat) (l:List Pt),∀ m∈Px k l,m.1∈l/\m.2.1∈l/\m.2.2∈l
 | 0,l,m,h=>by simp [Px] at h
 | k+1,[],m,h=>by simp [Px] at h
 |
  k+1,x::l,m,h=>by
  rcases Qx.1 h with h | h
  ·obtain ⟨y,hy,rfl⟩:=Zc.1 h;obtain ⟨h1,h2⟩:=Qkp _ _ y hy;exact ⟨Qt ..,Qi _ h1,Qi _ h2⟩
  ·obtain ⟨h1,h2,h3⟩:=Qli k l m h;exact ⟨Qi _ h1,Qi _ h2,Qi _ h3⟩
theorem Qt6:∀ (k:Nat) (l:List Pt),∀ m∈M4 k l,m.1∈l/\m.2.1∈l/\m.2.2.1∈l/\m.2.2.2∈l
 | 0,l,m,h=>by simp [M4] at h
 | k+1,[],m,h=>by simp [M4] at h
 |
  k+1,x::l,m,h=>by
  rcases Qx.1 h with h | h
  ·obtain ⟨y,hy,rfl⟩:=Zc.1 h;obtain ⟨h1,h2,h3⟩:=Qli _ _ y hy;exact ⟨Qt ..,Qi _ h1,Qi _ h2,Qi _ h3⟩
  ·obtain ⟨h1,h2,h3,h4⟩:=Qt6 k l m h;exact ⟨Qi _ h1,Qi _ h2,Qi _ h3,Qi _ h4⟩
theorem If {l:List Pt} (h:l.length<=6):(Gt l).length<=20/\(Dt l).length<=15:=by
 match l,h with
 | [],_=>exact ⟨Zd rfl,Zd rfl⟩
 | [_],_=>exact ⟨Zd rfl,Zd rfl⟩
 | [_,_],_=>exact ⟨Zd rfl,Zd rfl⟩
 | [_,_,_],_=>exact ⟨Zd rfl,Zd rfl⟩
 | [_,_,_,_],_=>exact ⟨Zd rfl,Zd rfl⟩
 | [_,_,_,_,_],_=>exact ⟨Zd rfl,Zd rfl⟩
 | [_,_,_,_,_,_],_=>exact ⟨Zd rfl,Zd rfl⟩
 | _::_::_::_::_::_::_::_,h=>simp at h
abbrev Pj:=List (List Int×LV)
def Ot (sg:List Int->Int) (m:P3):Ct:=Qta sg m.1 m.2.1 m.2.2
def Ay (sg:List Int->Int) (m:P4):Ct:=Qkm sg m.1 m.2.1 m.2.2.1 m.2.2.2
def Qlz (m:P3):List Int:=[m.1.id,m.2.1.id,m.2.2.id]
def Zmc (m:P4):List Int:=[m.1.id,m.2.1.id,m.2.2.1.id,m.2.2.2.id]
def Lu (V:List (List Int×Int)):Pj:=V.foldl (λM e=>B5 M e.1 (.int .i64 e.2)) []
def Qad (sg:List Int->Int) (ps:List P3):List (List Int×Int):=ps.map λm=>(Qlz m,(Ot sg m).want)
def Ah (sg:List Int->Int) (ps:List P4):List (List Int×Int):=ps.map λm=>(Zmc m,(Ay sg m).want)
theorem Qlm (sg:List Int->Int) (ps:List P3) (m:P3):Lu (Qad sg (ps++[m]))=B5 (Lu (Qad sg ps)) (Qlz m) (.int .i64 (Ot sg m).want):=by simp [Lu,Qad]
def Eu (T:Pj) (s:Int) (n:List Int) (F:Pj) (skip:Nat):Pj:=if A7 T (n.eraseIdx skip)*(if (3-skip) % 2=1 then -s else s)>0 then B5 F (n.eraseIdx skip) (.bool true) else F
def Qmt (T:Pj) (s:Int) (n:List Int) (F:Pj):Pj:=Eu T s n (Eu T s n (Eu T s n (Eu T s n F 0) 1) 2) 3
def Bi (T:Pj) (V:List (List Int×Int)):Pj:=V.foldl (λF e=>Qmt T e.2 e.1 F) []
theorem Qjy (sg:List Int->Int) (T:Pj) (ps:List P4) (m:P4):Bi T (Ah sg (ps++[m]))=Qmt T (Ay sg m).want (Zmc m) (Bi T (Ah sg ps)):=by simp [Bi,Ah]
def isT (T F:Pj) (m:P3):Bool:=decide (A7 T (Qlz m)≠0) && !(Qcy F (Qlz m))
theorem Q74 {T F:Pj} {ps:List P3} {m:P3} (h:isT T F m=true):(ps++[m]).filter (isT T F)=ps.filter (isT T F)++[m]:=by simp [List.filter_append,h]
theorem Qpg {T F:Pj} {ps:List P3} {m:P3} (h:isT T F m=false):(ps++[m]).filter (isT T F)=ps.filter (isT T F):=by simp [List.filter_append,h]
def Qnh (sg:List Int->Int) (l:List Pt):List Ct:=(Gt (D3 l)).map (Ot sg)++(Dt (D3 l)).map (Ay sg)
def Na (sg:List Int->Int) (l:List Pt):List P3:=(Gt (D3 l)).filter (isT (Lu (Qad sg (Gt (D3 l)))) (Bi (Lu (Qad sg (Gt (D3 l)))) (Ah sg (Dt (D3 l)))))
abbrev trL (m:P3):List LV:=[.int .i64 m.1.id,.int .i64 m.2.1.id,.int .i64 m.2.2.id]
def M6 (l:List P3):List (List LV):=l.map trL
theorem Am (l:List P3):(M6 l).length=l.length:=by simp [M6]
theorem Qll {l:List P3} {i:Nat} {m:P3} (h:l[i]? = some m):(M6 l)[i]? = some (trL m):=Ff h
theorem Q3v (sg:List Int->Int) {l:List Pt} (h:l.length<=6):(Na sg l).length<=20:=by
 have hw:=Qah l;exact Qd (Vi _ _) (If (l:=D3 l) (by omega)).1
theorem Q3u (sg:List Int->Int) {l:List Pt} (h:l.length<=6):(Qnh sg l).length<=35:=by
 have hw:=Qah l;obtain ⟨h1,h2⟩:=If (l:=D3 l) (by omega);unfold Qnh;rw [Q5,Q6,Q6]; omega
def bcD (l:List Pt) (a:Tm):List Ct:=Qnh (Pv a) l
abbrev brD (l:List Pt) (a:Tm):List (List LV):=M6 (Na (Pv a) l)
def Q2d (l:List Pt):List (List Int):=(Gt (D3 l)).map (λm=>Ny m.1.c m.2.1.c m.2.2.c)++(Dt (D3 l)).map λm=>Qbn m.1.c m.2.1.c m.2.2.1.c m.2.2.2.c
theorem Qol {l:List Pt} (hl:∀ p∈l,Sc p.c):∀ p∈Q2d l,Cp p:=λp hp=>by
 have hw:=λ(x:Pt) (h:x∈D3 l)=>hl x (Qlo h)
 rcases Qx.1 hp with hp | hp
 ·obtain ⟨m,hm,rfl⟩:=Zc.1 hp;obtain ⟨h1,h2,h3⟩:=Qli _ _ m hm;exact Qmh (hw _ h1) (hw _ h2) (hw _ h3)
 ·obtain ⟨m,hm,rfl⟩:=Zc.1 hp;obtain ⟨h1,h2,h3,h4⟩:=Qt6 _ _ m hm;exact Qzq (hw _ h1) (hw _ h2) (hw _ h3) (hw _ h4)
theorem Qon {l:List Pt} {a:Tm}:∀ x∈bcD l a,x.p∈Q2d l:=λx hx=>by
 rcases Qx.1 hx with hx | hx
 ·obtain ⟨m,hm,rfl⟩:=Zc.1 hx;exact Kt _ (Zc.2 ⟨m,hm,rfl⟩)
 ·obtain ⟨m,hm,rfl⟩:=Zc.1 hx;exact Kj _ (Zc.2 ⟨m,hm,rfl⟩)
theorem Q49 {l:List Pt} (h:l.length<=6):(Q2d l).length<=1000000:=by
 have hw:=Qah l;obtain ⟨h1,h2⟩:=If (l:=D3 l) (by omega);unfold Q2d;rw [Q5,Q6,Q6]; omega
theorem Qio {l:List Pt} (hl:∀ p∈l,Sc p.c) (hn:l.length≤6):BuildOk (bcD l) :=
 ⟨λ_ _ x hx=>Qol hl _ (Qon x hx),λa _=>Qd (Q3u _ hn) (by decide)⟩
theorem Zmy {l:List Pt} (hl:∀ p∈l,Sc p.c) (hn:l.length≤6):Stab (bcD l) (brD l):=by
 refine ⟨Qio hl hn,⟨Q2d l,Qol hl,λa _=>Qon⟩,λa b _ _ h=>?_⟩;have e1:∀ m∈Gt (D3 l),Ot (Pv b) m=Ot (Pv a) m:=λm hm=>by
  have:=h (Ot (Pv a) m) (Kt _ (Zc.2 ⟨m,hm,rfl⟩));have e:Bj (Pv b) (Ny m.1.c m.2.1.c m.2.2.c)=Bj (Pv a) (Ny m.1.c m.2.1.c m.2.2.c):=this;unfold Ot Qta; rw [e]
 have e2:∀ m∈Dt (D3 l),Ay (Pv b) m=Ay (Pv a) m:=λm hm=>by
  have:=h (Ay (Pv a) m) (Kj _ (Zc.2 ⟨m,hm,rfl⟩));have e:Bj (Pv b) (Qbn m.1.c m.2.1.c m.2.2.1.c m.2.2.2.c)=Bj (Pv a) (Qbn m.1.c m.2.1.c m.2.2.1.c m.2.2.2.c):=this;unfold Ay Qkm; rw [e]
 have t1:Qad (Pv b) (Gt (D3 l))=Qad (Pv a) (Gt (D3 l)):=X7 λm hm=>by rw [e1 m hm]
 have t2:Ah (Pv b) (Dt (D3 l))=Ah (Pv a) (Dt (D3 l)):=X7 λm hm=>by rw [e2 m hm]
 constructor
 ·unfold bcD Qnh;rw [X7 e1,X7 e2]
 ·unfold brD Na;rw [t1,t2]
def Q5h (l:List Pt) (a:Tm):Cr:=⟨a,(Uz (bcD l a)).map fresh,0⟩
def Qoi (M:Pj):Prop:=∀ k,(Dh M k).getD (.int .i64 0)=.int .i64 (A7 M k)/\-1<=A7 M k/\A7 M k<=1
def Qbh (M:Pj):Prop:=∀ k,(Dh M k).getD (.bool false)=.bool (Qcy M k)
theorem Qm7 (M:Pj) (k:List Int) (x:LV) (k':List Int):Dh (B5 M k x) k'=if k'=k then some x else Dh M k':=by
 induction M with
 | nil=>simp [B5,Dh]
 |
  cons e M ih =>
  simp only [B5];by_cases h:k=e.1
  ·rw [if_pos h];simp only [Dh];by_cases h2:k'=k
   ·rw [if_pos h2,if_pos h2]
   ·rw [if_neg h2,if_neg h2,if_neg (λe2=>h2 (e2.trans h.symm))]
  ·rw [if_neg h];simp only [Dh];by_cases h2:k'=e.1
   ·rw [if_pos h2,if_pos h2,if_neg (λe2=>h (e2.symm.trans h2))]
   ·rw [if_neg h2,if_neg h2,ih]
theorem Q8t:Qoi []:=λ_=>⟨rfl,show (-1:Int)<=0 by decide,show (0:Int)<=1 by decide⟩
theorem Q2h:Qbh []:=λ_=>rfl
theorem Q8u {M:Pj} (h:Qoi M) {k:List Int} {n:Int} (hn:-1<=n/\n<=1):Qoi (B5 M k (.int .i64 n)):=by
 intro k';have h1:=h k';unfold A7 at h1 ⊢;rw [Qm7];by_cases e:k'=k
 ·rw [if_pos e]; exact ⟨rfl,hn.1,hn.2⟩
 ·rw [if_neg e]; exact h1
theorem Q2i {M:Pj} (h:Qbh M) {k:List Int} {b:Bool}:Qbh (B5 M k (.bool b)):=by
 intro k';have h1:=h k';unfold Qcy at h1 ⊢;rw [Qm7];by_cases e:k'=k
 ·rw [if_pos e]; rfl
 ·rw [if_neg e]; exact h1
theorem D8 {T F:Pj} {s:Int} {n:List Int} {k:Nat} (h:Qbh F):Qbh (Eu T s n F k):=by
 unfold Eu;generalize (if (3-k) % 2=1 then -s else s)=s'
 split
 ·exact Q2i h
 ·exact h
theorem Qvf {T F:Pj} {s:Int} {n:List Int} (h:Qbh F):Qbh (Qmt T s n F):=D8 (D8 (D8 (D8 h)))
theorem Q3y {x s:Int} (hx:-1<=x/\x<=1) (hs:-1<=s/\s<=1):-9223372036854775808<=x*s/\x*s<=9223372036854775807:=by
 have h:x=-1\/x=0\/x=1:=by omega
 rcases h with rfl | rfl | rfl <;> omega
def p3j (W:List Pt) (x:Pt) (i j:Nat):List P3:=Px i W++(Tv j (W.drop (i+1))).map (λm=>(x,m))
def p3k (W:List Pt) (x y:Pt) (i j k:Nat):List P3:=Px i W++(Tv j (W.drop (i+1))++(((W.drop (i+1)).drop (j+1)).take k).map (λz=>(y,z))).map (λm=>(x,m))
theorem Ou (W:List Pt) (x:Pt) (i:Nat):p3j W x i 0=Px i W:=by simp [p3j,Tv]
theorem Ox (W:List Pt) (x y:Pt) (i j:Nat):p3k W x y i j 0=p3j W x i j:=by simp [p3k,p3j]
theorem Ow {W:List Pt} {x y z:Pt} {i j k:Nat} (h:((W.drop (i+1)).drop (j+1))[k]? = some z):p3k W x y i j (k+1)=p3k W x y i j k++[(x,y,z)]:=by
 unfold p3k;rw [Zx,h]; simp
theorem Qdx {W:List Pt} {x y:Pt} {i j k:Nat} (hy:(W.drop (i+1))[j]? = some y) (hk:((W.drop (i+1)).drop (j+1)).length<=k):p3k W x y i j k=p3j W x i (j+1):=by
 unfold p3k p3j;rw [Qj hk,Lp _ j y hy]
theorem Qdv {W:List Pt} {x:Pt} {i j:Nat} (hx:W[i]? = some x) (hj:j=(W.drop (i+1)).length):p3j W x i j=Px (i+1) W:=by
 unfold p3j;rw [hj,Qa8 W i x hx]; rfl
theorem Qik {W:List Pt} {i:Nat} (h:i=W.length):Px i W=Gt W:=by rw [h]; rfl
def p4j (W:List Pt) (x:Pt) (i j:Nat):List P4:=M4 i W++(Px j (W.drop (i+1))).map (λm=>(x,m))
def p4k (W:List Pt) (x y:Pt) (i j k:Nat):List P4:=M4 i W++(p3j (W.drop (i+1)) y j k).map (λm=>(x,m))
def p4m (W:List Pt) (x y z:Pt) (i j k m:Nat):List P4:=M4 i W++(p3k (W.drop (i+1)) y z j k m).map (λm=>(x,m))
theorem Qtn (W:List Pt) (x:Pt) (i:Nat):p4j W x i 0=M4 i W:=by simp [p4j,Px]
theorem Qto (W:List Pt) (x y:Pt) (i j:Nat):p4k W x y i j 0=p4j W x i j:=by unfold p4k p4j; rw [Ou]
theorem Qtr (W:List Pt) (x y z:Pt) (i j k:Nat):p4m W x y z i j k 0=p4k W x y i j k:=by unfold p4m p4k; rw [Ox]
theorem Qtq {W:List Pt} {x y z u:Pt} {i j k m:Nat} (h:(((W.drop (i+1)).drop (j+1)).drop (k+1))[m]? = some u):p4m W x y z i j k (m+1)=p4m W x y z i j k m++[(x,y,z,u)]:=by
 unfold p4m;rw [Ow h]; simp
theorem Q06 {W:List Pt} {x y z:Pt} {i j k m:Nat} (hz:((W.drop (i+1)).drop (j+1))[k]? = some z) (hm:(((W.drop (i+1)).drop (j+1)).drop (k+1)).length<=m):p4m W x y z i j k m=p4k W x y i j (k+1):=by
 unfold p4m p4k;rw [Qdx hz hm]
theorem Q05 {W:List Pt} {x y:Pt} {i j k:Nat} (hy:(W.drop (i+1))[j]? = some y) (hk:k=((W.drop (i+1)).drop (j+1)).length):p4k W x y i j k=p4j W x i (j+1):=by
 unfold p4k p4j;rw [Qdv hy hk]
theorem Q04 {W:List Pt} {x:Pt} {i j:Nat} (hx:W[i]? = some x) (hj:j=(W.drop (i+1)).length):p4j W x i j=M4 (i+1) W:=by
 unfold p4j;rw [hj,Qf4 W i x hx]; rfl
theorem Q1o {W:List Pt} {i:Nat} (h:i=W.length):M4 i W=Dt W:=by rw [h]; rfl
theorem Qch:∀ (k:Nat) (l:List Pt),∃ r,Cj l=Tv k l++r
 | 0,l=>⟨Cj l,rfl⟩
 | k+1,[]=>⟨[],rfl⟩
 |
  k+1,x::l=>by
  obtain ⟨r,h⟩:=Qch k l;exact ⟨r,by show l.map _++Tv l.length l=l.map _++Tv k l++r; rw [show Tv l.length l=Cj l from rfl,h,Ze]⟩
theorem Qlj:∀ (k:Nat) (l:List Pt),∃ r,Gt l=Px k l++r
 | 0,l=>⟨Gt l,rfl⟩
 | k+1,[]=>⟨[],rfl⟩
 |
  k+1,x::l=>by
  obtain ⟨r,h⟩:=Qlj k l;exact ⟨r,by show (Cj l).map _++Px l.length l=(Cj l).map _++Px k l++r; rw [show Px l.length l=Gt l from rfl,h,Ze]⟩
theorem Qt7:∀ (k:Nat) (l:List Pt),∃ r,Dt l=M4 k l++r
 | 0,l=>⟨Dt l,rfl⟩
 | k+1,[]=>⟨[],rfl⟩
 |
  k+1,x::l=>by
  obtain ⟨r,h⟩:=Qt7 k l;exact ⟨r,by show (Gt l).map _++M4 l.length l=(Gt l).map _++M4 k l++r; rw [show M4 l.length l=Dt l from rfl,h,Ze]⟩
theorem Qh6 {W:List Pt} (h6:W.length<=6) {x y:Pt} {i j k:Nat} (hx:W[i]? = some x) (hy:(W.drop (i+1))[j]? = some y):(p3k W x y i j k).length<=20:=by
 have h0:=(If h6).1;obtain ⟨r,hr⟩:=Qlj (i+1) W;rw [Qa8 W i x hx] at hr;obtain ⟨r2,hr2⟩:=Qch (j+1) (W.drop (i+1));rw [Lp _ j y hy] at hr2;have e1:=congrArg List.length hr;have e2:=congrArg List.length hr2;have e3:(((W.drop (i+1)).drop (j+1)).take k).length<=((W.drop (i+1)).drop (j+1)).length:=by rw [Qp]; exact Nat.min_le_right _ _
 unfold p3k;simp only [Q5,Q6] at e1 e2 ⊢;omega
theorem Q07 {W:List Pt} (h6:W.length<=6) {x y z:Pt} {i j k m:Nat} (hx:W[i]? = some x) (hy:(W.drop (i+1))[j]? = some y) (hz:((W.drop (i+1)).drop (j+1))[k]? = some z):(p4m W x y z i j k m).length<=15:=by
 have h0:=(If h6).2;obtain ⟨r,hr⟩:=Qt7 (i+1) W;rw [Qf4 W i x hx] at hr;obtain ⟨r1,hr1⟩:=Qlj (j+1) (W.drop (i+1));rw [Qa8 _ j y hy] at hr1;obtain ⟨r2,hr2⟩:=Qch (k+1) ((W.drop (i+1)).drop (j+1));rw [Lp _ k z hz] at hr2;have e1:=congrArg List.length hr;have e2:=congrArg List.length hr1;have e4:=congrArg List.length hr2;have e3:((((W.drop (i+1)).drop (j+1)).drop (k+1)).take m).length<=(((W.drop (i+1)).drop (j+1)).drop (k+1)).length:=by rw [Qp]; exact Nat.min_le_right _ _
 unfold p4m p3k;simp only [Q5,Q6] at e1 e2 e4 ⊢;omega
theorem Qna {sg:List Int->Int} (hg:∀ p,-1<=Bj sg p/\Bj sg p<=1) (ps:List P3):Qoi (Lu (Qad sg ps)):=by
 have key:∀ (ps:List P3) (M:Pj),Qoi M->Qoi ((Qad sg ps).foldl (λM e=>B5 M e.1 (.int .i64 e.2)) M):=by
  intro ps
  induction ps with
  | nil=>intro M h; exact h
  | cons m ps ih=>intro M h; exact ih _ (Q8u h (hg _))
 exact key ps [] Q8t
theorem Qit (sg:List Int->Int) (T:Pj) (ps:List P4):Qbh (Bi T (Ah sg ps)):=by
 have key:∀ (ps:List P4) (F:Pj),Qbh F->Qbh ((Ah sg ps).foldl (λF e=>Qmt T e.2 e.1 F) F):=by
  intro ps
  induction ps with
  | nil=>intro M h; exact h
  | cons m ps ih=>intro M h; exact ih _ (Qvf h)
 exact key ps [] Q2h
theorem Qnu (p:List Int) (q:Rat):-1<=Ft p q/\Ft p q<=1:=by
 rw [S8]; unfold Un
 split
 ·exact ⟨by decide,by decide⟩
 ·split <;> exact ⟨by decide,by decide⟩
theorem Zba {p:List Int} {a:Tm} {s:Int} (h:Qee p a=some s):-1<=s/\s<=1:=by
 unfold Qee at h
 split at h
 ·injection h with h; subst h; exact ⟨by decide,by decide⟩
 ·split at h
  ·injection h with h; subst h; exact Qnu _ _
  ·obtain ⟨g,_,h⟩:=Qf.1 h
   split at h
   ·injection h with h; subst h; exact ⟨by decide,by decide⟩
   ·obtain ⟨c,_,h⟩:=Qf.1 h;obtain ⟨x,_,h⟩:=Qf.1 h;injection h with h; subst h; exact Qnu _ _
theorem Qso (a:Tm) (p:List Int):-1<=Bj (Pv a) p/\Bj (Pv a) p<=1:=by
 have hs:∀ p,-1<=Pv a p/\Pv a p<=1:=λp=>by
  unfold Pv;cases h:Qee p a with
  | none=>exact ⟨by decide,by decide⟩
  | some s=>exact Zba h
 have key:∀ (k:Nat) (p:List Int),-1<=Hr (Pv a) k p/\Hr (Pv a) k p<=1:=by
  intro k
  induction k with
  | zero=>intro p; exact ⟨by simp [Hr],by simp [Hr]⟩
  |
   succ k ih =>
   intro p;simp only [Hr]
   split
   ·exact ⟨by decide,by decide⟩
   ·split
    ·exact ih _
    ·exact hs p
 exact key _ p
end Orq
namespace Orr
open Go Go.Proofs Orq
set_option maxRecDepth 10000
theorem ozM {P:Program} [Mo P] {n:Nat} {Q:Exit->Sg->List OB->Prop} {L L':Sg} {B B':List OB} (d off T sz:Nat) {it:List It} (hs:Hn it=true) (h:Q37 (P:=P) d L B [.oc d off T sz]=some (L',B',[],[])) (k:AK P n Q it L' B'):AK P n Q it L B:=AK.sub (Qqb h EqOk.nil) hs k
theorem Qoy {k:Crv} (hk:Sc k):W8 Tryz.prog 213 [.agg (cl k)] [.one (.row (O5 (Il k)))]:=by
 have ok:=Qdu hk.n hk.c;have l1:=Hl k.x k.x;have l2:=Hl k.y k.y;have:=hk.c.lx;have:=hk.c.ly;have bx:Bd 258 (Uo k.x k.x):=Rk (u:=2) hk.c.x hk.c.x (by omega);have by_:Bd 258 (Uo k.y k.y):=Rk (u:=2) hk.c.y hk.c.y (by omega);have c1:=Qc0 (p:=k.x) (c:=k.d) (by omega) (W7 hk.c.x (by decide)) (Qd hk.c.d (by decide));have c2:=Qc0 (p:=k.y) (c:=k.d) (by omega) (W7 hk.c.y (by decide)) (Qd hk.c.d (by decide));have c3:=Qor (p:=k.x) (q:=k.x) hk.n.1 hk.n.1 (by omega) (by omega) hk.c.x hk.c.x (by decide);have c4:=Qor (p:=k.y) (q:=k.y) hk.n.2.1 hk.n.2.1 (by omega) (by omega) hk.c.y hk.c.y (by decide);have c5:=Qvp (p:=Uo k.x k.x) (q:=Uo k.y k.y) (by omega) (by omega) (W7 bx (by decide)) (W7 by_ (by decide));have c6:=C5 (W9 k.d) (W9 k.d) (Qd hk.c.d (by decide)) (Qd hk.c.d (by decide));have hl:∀ p∈Il k,p.length≤1000000:=λp hp=>by
  obtain ⟨j,hj⟩:=Jn hp;have h1:=ok.2 j p hj;have:[2,2,4,0].getD j 0<=4:=by
   match j with
   | 0=>decide
   | 1=>decide
   | 2=>decide
   | 3=>decide
   | j+4=>simp
  omega
 have cd:=Q5l (r:=Il k) (λp hp=>(ok.1 p hp).1) (λp hp=>W7 (ok.1 p hp).2 (by decide)) hl (by show 4<=1000; decide);exact w tt Tryz.func213 rfl [.c [] (Qza hk.n (hk.c.mono (by decide) (by decide))),.c [] c1,.c [] c2,.c [] c3,.c [] c4,.c [] c5,.c [] c6,.c [] cd] rfl rfl trivial
theorem Q5u {a b c d:Crv} (ha:Sc a) (hb:Sc b) (hc:Sc c) (hd:Sc d):W8 Tryz.prog 172 [.agg (cl a),.agg (cl b),.agg (cl c),.agg (cl d)] [pr (Qbn a b c d)]:=by
 have cd:=Zg0 (by decide) (k:=4) (ds:=[2,2,4,0]) (by decide) rfl (by decide) (Quj ha.n hb.n hc.n hd.n ha.c hb.c hc.c hd.c);exact w tt Tryz.func172 rfl [.c [] (Qoy ha),.c [] (Qoy hb),.c [] (Qoy hc),.c [] (Qoy hd),.c [] cd] rfl rfl trivial
set_option maxHeartbeats 1000000 in
theorem Qyw {a b c d:Pt} {t:Tm} (ha:Sc a.c) (hb:Sc b.c) (hc:Sc c.c) (hd:Sc d.c) (ht:Va t):W8 Tryz.prog 120 [.one (.int .i64 4),.agg (ta t),.one (.row [Fw a,Fw b,Fw c,Fw d])] [.agg (Qdt (Qkm (Pv t) a b c d)),.one (.int .i64 0)]:=by
 have hp:=(Qzq ha hb hc hd).dp;have e:Qdt (Qkm (Pv t) a b c d)=[.int .i64 4,.int .i64 a.id,.int .i64 b.id,.int .i64 c.id,.int .i64 d.id,pl (Qbn a.c b.c c.c d.c),.int .i64 (Bj (Pv t) (Qbn a.c b.c c.c d.c))]:=by rw [Qkm]
 rw [e];have cg:=Zg6 hp ht;have cf:=Q5u ha hb hc hd;generalize Qbn a.c b.c c.c d.c=F at *;refine Fv Tryz.func120 rfl ?_;refine go tt [.c [] Q2x,.f rfl] rfl trivial ?_;refine lp (S:=Nat) 3 (λL1 i=>(22,.v (.one (.int .i64 (i:Int))))::L1) (λi=>[.blk 79 (ta t),.blk 99 zCt,.blk 99 [.int .i64 4,.int .i64 (if 1<=i then a.id else 0),.int .i64 (if 2<=i then b.id else 0),.int .i64 (if 3<=i then c.id else 0),.int .i64 (if 4<=i then d.id else 0),.nils,.int .i64 0]]) (λi=>4-i) (λi=>i<=4) 0 (Qg _) rfl (λ_ _=>rfl) rfl λi hi=>?_
 rcases (show i=0\/i=1\/i=2\/i=3\/i=4 by omega) with rfl | rfl | rfl | rfl | rfl
 ·refine go tt [.t rfl,.x (i:=0) (xs:=Fw a) rfl,.i 0] rfl (by simp [W6]) ?_;exact rd 1 (by omega) (by omega) rfl
 ·refine go tt [.t rfl,.x (i:=1) (xs:=Fw b) rfl,.i 1] rfl (by simp [W6]) ?_;exact rd 2 (by omega) (by omega) rfl
 ·refine go tt [.t rfl,.x (i:=2) (xs:=Fw c) rfl,.i 2] rfl (by simp [W6]) ?_;exact rd 3 (by omega) (by omega) rfl
 ·refine go tt [.t rfl,.x (i:=3) (xs:=Fw d) rfl,.i 3] rfl (by simp [W6]) ?_;exact rd 4 (by omega) (by omega) rfl
 ·exact en tt [.f rfl,.f rfl,.f rfl,.f rfl,.t rfl,.x (i:=0) (xs:=Fw a) rfl,.x (i:=1) (xs:=Fw b) rfl,.x (i:=2) (xs:=Fw c) rfl,.x (i:=3) (xs:=Fw d) rfl,.c [] cf,.c [] cg] rfl rfl trivial
def Qsj (T:Pj) (s:Int) (n:List Int) (F:Pj) (k:Nat):Pj:=(List.range k).foldl (Eu T s n) F
theorem Qwk (T:Pj) (s:Int) (n:List Int) (F:Pj) (k:Nat):Qsj T s n F (k+1)=Eu T s n (Qsj T s n F k) k:=by unfold Qsj; rw [List.range_succ,List.foldl_append]; rfl
theorem Qwj (T:Pj) (s:Int) (n:List Int) (F:Pj):Qsj T s n F 4=Qmt T s n F:=rfl
set_option maxHeartbeats 4000000 in
theorem Q6m {F T:Pj} {s n0 n1 n2 n3:Int} (hT:Qoi T) (hs:-1<=s/\s<=1):Ge Tryz.prog 121 [.one (.omap 0),.one (.omap 1),.one (.int .i64 s),.agg [.int .i64 n0,.int .i64 n1,.int .i64 n2,.int .i64 n3]] [.mpb F,.mpb T] [] [.mpb (Qmt T s [n0,n1,n2,n3] F),.mpb T]:=by
 have hm:Q45 T:=λk=>(hT k).1
 have hb:=λ(k:List Int) (x:Int) (hx:-1<=x/\x<=1)=>Q3y (hT k).2 hx
 rw [<-Qwj];obtain ⟨f,hf⟩:=nmE (Qsj T s [n0,n1,n2,n3] F);have f0:F=f 0:=by rw [hf]; rfl
 have fs:∀ k,f (k+1)=Eu T s [n0,n1,n2,n3] (f k) k:=λk=>by rw [hf]; exact Qwk ..
 rw [<-hf];rw [f0];clear hf f0;refine Fv Tryz.func121 rfl ?_;refine go tt [] rfl trivial ?_;refine lp (S:=Nat) 3 (λL1 k=>(14,.v (.one (.int .i64 (k:Int))))::L1) (λk=>[.mpb (f k),.mpb T,.blk 95 [.int .i64 n0,.int .i64 n1,.int .i64 n2,.int .i64 n3]]) (λk=>4-k) (λk=>k<=4) 0 (by decide) rfl (λ_ _=>rfl) rfl λk hk=>?_
 rcases (show k=0\/k=1\/k=2\/k=3\/k=4 by omega) with rfl | rfl | rfl | rfl | rfl
 ·have e1:=fs 0;have e2:Eu T s [n0,n1,n2,n3] (f 0) 0=if A7 T [n1,n2,n3]*(-s)>0 then B5 (f 0) [n1,n2,n3] (.bool true) else f 0:=rfl
  rw [e2] at e1;refine go tt [.t rfl] rfl trivial ?_;refine lp (S:=Nat) 4 (λL1 i=>(18,.v (.one (.int .i64 (i:Int))))::(10,.v (.one (.int .i64 (if i<=0 then (i:Int) else (i:Int)-1))))::L1) (λi=>[.mpb (f 0),.mpb T,.blk 95 [.int .i64 n0,.int .i64 n1,.int .i64 n2,.int .i64 n3],.blk 50 [.int .i64 (if 2<=i then n1 else 0),.int .i64 (if 3<=i then n2 else 0),.int .i64 (if 4<=i then n3 else 0)]]) (λi=>4-i) (λi=>i<=4) 0 (by decide) rfl (λ_ _=>rfl) rfl λi hi=>?_
  rcases (show i=0\/i=1\/i=2\/i=3\/i=4 by omega) with rfl | rfl | rfl | rfl | rfl
  ·refine go tt [.t rfl,.i 0,.f rfl] rfl (by simp [W6]) ?_;exact rd 1 (by omega) (by omega) rfl
  ·refine go tt [.t rfl,.i 1,.t rfl,.i 0] rfl (by simp [W6]) ?_;exact rd 2 (by omega) (by omega) rfl
  ·refine go tt [.t rfl,.i 2,.t rfl,.i 1] rfl (by simp [W6]) ?_;exact rd 3 (by omega) (by omega) rfl
  ·refine go tt [.t rfl,.i 3,.t rfl,.i 2] rfl (by simp [W6]) ?_;exact rd 4 (by omega) (by omega) rfl
  ·have hbb:=hb [n1,n2,n3] (-s) (by omega);by_cases hc:A7 T [n1,n2,n3]*(-s)>0
   ·rw [if_pos hc] at e1;refine go tt [.f rfl,.t rfl,.t (decide_eq_true hc)] rfl (by simp only [W6]; first | exact ⟨⟨by omega,by omega⟩,hbb,hm,⟨by omega,by omega⟩,by decide,by omega,by omega⟩ | exact ⟨⟨by omega,by omega⟩,hbb,hm,by decide,by omega,by omega⟩) ?_;exact rd 1 (by omega) (by omega) (by rw [e1]; rfl)
   ·rw [if_neg hc] at e1;refine go tt [.f rfl,.t rfl,.f (decide_eq_false hc)] rfl (by simp only [W6]; first | exact ⟨⟨by omega,by omega⟩,hbb,hm,⟨by omega,by omega⟩,by decide,by omega,by omega⟩ | exact ⟨⟨by omega,by omega⟩,hbb,hm,by decide,by omega,by omega⟩) ?_;exact rd 1 (by omega) (by omega) (by rw [e1]; rfl)
 ·have e1:=fs 1;have e2:Eu T s [n0,n1,n2,n3] (f 1) 1=if A7 T [n0,n2,n3]*s>0 then B5 (f 1) [n0,n2,n3] (.bool true) else f 1:=rfl
  rw [e2] at e1;refine go tt [.t rfl] rfl trivial ?_;refine lp (S:=Nat) 4 (λL1 i=>(18,.v (.one (.int .i64 (i:Int))))::(10,.v (.one (.int .i64 (if i<=1 then (i:Int) else (i:Int)-1))))::L1) (λi=>[.mpb (f 1),.mpb T,.blk 95 [.int .i64 n0,.int .i64 n1,.int .i64 n2,.int .i64 n3],.blk 50 [.int .i64 (if 1<=i then n0 else 0),.int .i64 (if 3<=i then n2 else 0),.int .i64 (if 4<=i then n3 else 0)]]) (λi=>4-i) (λi=>i<=4) 0 (by decide) rfl (λ_ _=>rfl) rfl λi hi=>?_
  rcases (show i=0\/i=1\/i=2\/i=3\/i=4 by omega) with rfl | rfl | rfl | rfl | rfl
  ·refine go tt [.t rfl,.i 0,.t rfl,.i 0] rfl (by simp [W6]) ?_;exact rd 1 (by omega) (by omega) rfl
  ·refine go tt [.t rfl,.i 1,.f rfl] rfl (by simp [W6]) ?_;exact rd 2 (by omega) (by omega) rfl
  ·refine go tt [.t rfl,.i 2,.t rfl,.i 1] rfl (by simp [W6]) ?_;exact rd 3 (by omega) (by omega) rfl
  ·refine go tt [.t rfl,.i 3,.t rfl,.i 2] rfl (by simp [W6]) ?_;exact rd 4 (by omega) (by omega) rfl
  ·have hbb:=hb [n0,n2,n3] s (by omega);by_cases hc:A7 T [n0,n2,n3]*s>0
   ·rw [if_pos hc] at e1;refine go tt [.f rfl,.f rfl,.t (decide_eq_true hc)] rfl (by simp only [W6]; first | exact ⟨⟨by omega,by omega⟩,hbb,hm,⟨by omega,by omega⟩,by decide,by omega,by omega⟩ | exact ⟨⟨by omega,by omega⟩,hbb,hm,by decide,by omega,by omega⟩) ?_;exact rd 2 (by omega) (by omega) (by rw [e1]; rfl)
   ·rw [if_neg hc] at e1;refine go tt [.f rfl,.f rfl,.f (decide_eq_false hc)] rfl (by simp only [W6]; first | exact ⟨⟨by omega,by omega⟩,hbb,hm,⟨by omega,by omega⟩,by decide,by omega,by omega⟩ | exact ⟨⟨by omega,by omega⟩,hbb,hm,by decide,by omega,by omega⟩) ?_;exact rd 2 (by omega) (by omega) (by rw [e1]; rfl)
 ·have e1:=fs 2;have e2:Eu T s [n0,n1,n2,n3] (f 2) 2=if A7 T [n0,n1,n3]*(-s)>0 then B5 (f 2) [n0,n1,n3] (.bool true) else f 2:=rfl
  rw [e2] at e1;refine go tt [.t rfl] rfl trivial ?_;refine lp (S:=Nat) 4 (λL1 i=>(18,.v (.one (.int .i64 (i:Int))))::(10,.v (.one (.int .i64 (if i<=2 then (i:Int) else (i:Int)-1))))::L1) (λi=>[.mpb (f 2),.mpb T,.blk 95 [.int .i64 n0,.int .i64 n1,.int .i64 n2,.int .i64 n3],.blk 50 [.int .i64 (if 1<=i then n0 else 0),.int .i64 (if 2<=i then n1 else 0),.int .i64 (if 4<=i then n3 else 0)]]) (λi=>4-i) (λi=>i<=4) 0 (by decide) rfl (λ_ _=>rfl) rfl λi hi=>?_
  rcases (show i=0\/i=1\/i=2\/i=3\/i=4 by omega) with rfl | rfl | rfl | rfl | rfl
  ·refine go tt [.t rfl,.i 0,.t rfl,.i 0] rfl (by simp [W6]) ?_;exact rd 1 (by omega) (by omega) rfl
  ·refine go tt [.t rfl,.i 1,.t rfl,.i 1] rfl (by simp [W6]) ?_;exact rd 2 (by omega) (by omega) rfl
  ·refine go tt [.t rfl,.i 2,.f rfl] rfl (by simp [W6]) ?_;exact rd 3 (by omega) (by omega) rfl
  ·refine go tt [.t rfl,.i 3,.t rfl,.i 2] rfl (by simp [W6]) ?_;exact rd 4 (by omega) (by omega) rfl
  ·have hbb:=hb [n0,n1,n3] (-s) (by omega);by_cases hc:A7 T [n0,n1,n3]*(-s)>0
   ·rw [if_pos hc] at e1;refine go tt [.f rfl,.t rfl,.t (decide_eq_true hc)] rfl (by simp only [W6]; first | exact ⟨⟨by omega,by omega⟩,hbb,hm,⟨by omega,by omega⟩,by decide,by omega,by omega⟩ | exact ⟨⟨by omega,by omega⟩,hbb,hm,by decide,by omega,by omega⟩) ?_;exact rd 3 (by omega) (by omega) (by rw [e1]; rfl)
   ·rw [if_neg hc] at e1;refine go tt [.f rfl,.t rfl,.f (decide_eq_false hc)] rfl (by simp only [W6]; first | exact ⟨⟨by omega,by omega⟩,hbb,hm,⟨by omega,by omega⟩,by decide,by omega,by omega⟩ | exact ⟨⟨by omega,by omega⟩,hbb,hm,by decide,by omega,by omega⟩) ?_;exact rd 3 (by omega) (by omega) (by rw [e1]; rfl)
 ·have e1:=fs 3;have e2:Eu T s [n0,n1,n2,n3] (f 3) 3=if A7 T [n0,n1,n2]*s>0 then B5 (f 3) [n0,n1,n2] (.bool true) else f 3:=rfl
  rw [e2] at e1;refine go tt [.t rfl] rfl trivial ?_;refine lp (S:=Nat) 4 (λL1 i=>(18,.v (.one (.int .i64 (i:Int))))::(10,.v (.one (.int .i64 (if i<=3 then (i:Int) else (i:Int)-1))))::L1) (λi=>[.mpb (f 3),.mpb T,.blk 95 [.int .i64 n0,.int .i64 n1,.int .i64 n2,.int .i64 n3],.blk 50 [.int .i64 (if 1<=i then n0 else 0),.int .i64 (if 2<=i then n1 else 0),.int .i64 (if 3<=i then n2 else 0)]]) (λi=>4-i) (λi=>i<=4) 0 (by decide) rfl (λ_ _=>rfl) rfl λi hi=>?_
  rcases (show i=0\/i=1\/i=2\/i=3\/i=4 by omega) with rfl | rfl | rfl | rfl | rfl
  ·refine go tt [.t rfl,.i 0,.t rfl,.i 0] rfl (by simp [W6]) ?_;exact rd 1 (by omega) (by omega) rfl
  ·refine go tt [.t rfl,.i 1,.t rfl,.i 1] rfl (by simp [W6]) ?_;exact rd 2 (by omega) (by omega) rfl
  ·refine go tt [.t rfl,.i 2,.t rfl,.i 2] rfl (by simp [W6]) ?_;exact rd 3 (by omega) (by omega) rfl
  ·refine go tt [.t rfl,.i 3,.f rfl] rfl (by simp [W6]) ?_;exact rd 4 (by omega) (by omega) rfl
  ·have hbb:=hb [n0,n1,n2] s (by omega);by_cases hc:A7 T [n0,n1,n2]*s>0
   ·rw [if_pos hc] at e1;refine go tt [.f rfl,.f rfl,.t (decide_eq_true hc)] rfl (by simp only [W6]; first | exact ⟨⟨by omega,by omega⟩,hbb,hm,⟨by omega,by omega⟩,by decide,by omega,by omega⟩ | exact ⟨⟨by omega,by omega⟩,hbb,hm,by decide,by omega,by omega⟩) ?_;exact rd 4 (by omega) (by omega) (by rw [e1]; rfl)
   ·rw [if_neg hc] at e1;refine go tt [.f rfl,.f rfl,.f (decide_eq_false hc)] rfl (by simp only [W6]; first | exact ⟨⟨by omega,by omega⟩,hbb,hm,⟨by omega,by omega⟩,by decide,by omega,by omega⟩ | exact ⟨⟨by omega,by omega⟩,hbb,hm,by decide,by omega,by omega⟩) ?_;exact rd 4 (by omega) (by omega) (by rw [e1]; rfl)
 ·exact ed tt [] [0,1] [.f rfl] rfl trivial
set_option maxHeartbeats 8000000 in
theorem Ql9 {l:List Pt} {a:Tm} {c:Cr} {r1:List (List LV)} (hl:∀ p∈l,Sc p.c) (hn:l.length≤6) (ha:Va a):Ge Tryz.prog 61 [.one (.ow 0 0),.agg (ta a)] [.blk 86 (Rp c (Ub l) r1)] [.one (.row (Ur (bcD l a)))] [.blk 86 (Rp c (Ub l) (brD l a))]:=by
 have hwl:=Qah l;have cw:=Q6h (l:=l) (Q17 hl) (by omega);have hgb:=Qso a;unfold brD bcD Qnh Na;obtain ⟨sg',hsg⟩:∃ s,s=Pv a:=⟨_,rfl⟩;obtain ⟨W,hW⟩:=nmE (D3 l);have hWs:∀ p∈W,Sc p.c:=λp hp=>hl p (Qlo (by rw [<-hW]; exact hp))
 have mR:=λ{x y z:Pt} (hx:x∈W) (hy:y∈W) (hz:z∈W)=>Qyx (t:=a) (hWs x hx) (hWs y hy) (hWs z hz) ha
 have mC:=λ{x y z u:Pt} (hx:x∈W) (hy:y∈W) (hz:z∈W) (hu:u∈W)=>Qyw (t:=a) (hWs x hx) (hWs y hy) (hWs z hz) (hWs u hu) ha
 rw [<-hW] at cw hwl ⊢;rw [<-hsg] at hgb mR mC ⊢;have hW6:W.length<=6:=by omega
 have hTi:=λps=>Qna hgb ps
 have hcp:(W.map Fw).length=W.length:=by simp
 have hcp2:=Rj W;have hdr:∀ i,(Ub W).drop i=Ub (W.drop i):=λi=>by unfold Ub; rw [List.map_drop]
 have hel:∀ z∈Ub W,z.length=5:=λz hz=>by obtain ⟨p,_,rfl⟩:=Zc.1 hz; rfl
 have s7:∀ x:Ct,∀ y∈[Qdt x],y.length=7:=λx y hy=>by rw [Qm.1 hy]; rfl
 have s3:∀ x:P3,∀ y∈[trL x],y.length=3:=λx y hy=>by rw [Qm.1 hy]; rfl
 obtain ⟨T,hT⟩:=nmE (Lu (Qad sg' (Gt W)));obtain ⟨G,hG⟩:=nmE (Bi T (Ah sg' (Dt W)));have hTI:Qoi T:=by rw [hT]; exact hTi _
 have hTm:Q45 T:=λk=>(hTI k).1
 have hGB:Qyh G:=λk=>by rw [hG]; exact Qit _ _ _ k
 rw [<-hT,<-hG];have e0:(Ur (((Px 0 W).map (Ot sg'))))=[]:=rfl;refine Fv Tryz.func61 rfl ?_;refine go tt [.c [] cw,.o 6 99 7] rfl trivial ?_;refine lp (S:=Nat) 4 (λL1 i=>(42,.v (.one (.int .i64 (i:Int))))::(6,.v (.one (.orow 2 7 none)))::L1) (λi=>[.blk 86 (Rp c (Ub l) r1),.blk 79 (ta a),.row false 99 7 (Ur ((Px i W).map (Ot sg'))),.mpb (Lu (Qad sg' (Px i W)))]) (λi=>W.length-i) (λi=>i<=W.length) 0 (Qg _) rfl (λ_ _=>rfl) rfl λi hi=>?_
 by_cases hlt:i<W.length
 ·obtain ⟨x,hx⟩:=gxE (l:=W) (i:=i) hlt;have xm:=Qa hx;obtain ⟨V,hV⟩:=nmE (W.drop (i+1));have hVl:V.length=W.length-(i+1):=by rw [hV,Zq]
  have hVm:∀ p∈V,p∈W:=λp hp=>by rw [hV] at hp; exact Qz hp
  have eV:(Ub W).drop (i+1)=Ub V:=by rw [hdr,<-hV]
  rw [<-Ou W x i];refine go tt [.t (decide_eq_true (by omega)),.x (Gq hx),.r 49 (eI (b:=((i+1:Nat):Int)) (by omega)),.i (i+1),.r 50 (Lk eV)] rfl (by simp only [W6]; (repeat' apply And.intro) <;> first | omega | exact hel) ?_;have hVr:=Rj V;refine lp (S:=Nat) 5 (λL1 j=>(52,.v (.one (.int .i64 (j:Int))))::(6,.v (.one (.orow 2 7 none)))::L1) (λj=>[.blk 86 (Rp c (Ub l) r1),.blk 79 (ta a),.row false 99 7 (Ur ((p3j W x i j).map (Ot sg'))),.mpb (Lu (Qad sg' (p3j W x i j))),.blk 114 (Fw x)]) (λj=>V.length-j) (λj=>j<=V.length) 0 (Qg _) rfl (λ_ _=>rfl) rfl λj hj=>?_
  by_cases hltj:j<V.length
  ·obtain ⟨y,hy⟩:=gxE (l:=V) (i:=j) hltj;have ym:=hVm y (Qa hy);have hy':(W.drop (i+1))[j]? = some y:=by rw [<-hV]; exact hy
   obtain ⟨U,hU⟩:=nmE (V.drop (j+1));have hUl:U.length=V.length-(j+1):=by rw [hU,Zq]
   have hUm:∀ p∈U,p∈W:=λp hp=>by rw [hU] at hp; exact hVm p (Qz hp)
   have hUW:U=(W.drop (i+1)).drop (j+1):=by rw [hU,hV]
   have eU:(Ub W).drop (i+j+2)=Ub U:=by rw [hdr,hU,hV,Xz]; congr 2; omega
   have hUr:=Rj U;rw [<-Ox W x y i j];refine go tt [.t (decide_eq_true (by omega)),.x (Gq hy),.r 61 (eI (b:=((i+j+2:Nat):Int)) (by omega)),.i (i+j+2),.r 62 (Lk eU)] rfl (by simp only [W6]; (repeat' apply And.intro) <;> first | omega | exact hel) ?_;refine lp (S:=Nat) 6 (λL1 k=>(64,.v (.one (.int .i64 (k:Int))))::(6,.v (.one (.orow 2 7 none)))::L1) (λk=>[.blk 86 (Rp c (Ub l) r1),.blk 79 (ta a),.row false 99 7 (Ur ((p3k W x y i j k).map (Ot sg'))),.mpb (Lu (Qad sg' (p3k W x y i j k))),.blk 114 (Fw x),.blk 114 (Fw y)]) (λk=>U.length-k) (λk=>k<=U.length) 0 (Qg _) rfl (λ_ _=>rfl) rfl λk hk=>?_
   by_cases hltk:k<U.length
   ·obtain ⟨z,hz⟩:=gxE (l:=U) (i:=k) hltk;have zm:=hUm z (Qa hz);have hlen:=Qh6 hW6 (k:=k) hx hy';have en:=Ow (x:=x) (y:=y) (by rw [<-hUW]; exact hz);have et:=Qlm sg' (p3k W x y i j k) (x,y,z);rw [<-en] at et;refine go tt [.t (decide_eq_true (by omega)),.x (Gq hz),.c [] (mR xm ym zm),.s (sz:=7) (s7 _)] rfl (by simp [W6,Mh] <;> omega) ?_;exact rd (k+1) (by omega) hltk (by rw [et,en,Xx]; simp [Ur]; rfl)
   ·have e:=Qdx (x:=x) (k:=k) hy' (by rw [<-hUW]; omega);rw [e];refine go tt [.f (decide_eq_false (by omega))] rfl (by simp [W6] <;> omega) ?_;exact rd (j+1) (by omega) hltj rfl
  ·have e:=Qdv (x:=x) (j:=j) hx (by rw [<-hV]; omega);rw [e];refine go tt [.f (decide_eq_false (by omega))] rfl (by simp [W6] <;> omega) ?_;exact rd (i+1) (by omega) hlt rfl
 rw [Qik (show i=W.length by omega),<-hT];have hiW:¬i<W.length:=hlt;clear hlt;obtain ⟨C3,hC3⟩:=nmE ((Gt W).map (Ot sg'));have hC3l:C3.length<=20:=by rw [hC3,Q6]; exact (If hW6).1
 rw [<-hC3];refine go tt [.f (decide_eq_false (by omega))] rfl trivial ?_;have eC:Ur C3=Ur (C3++(M4 0 W).map (Ay sg')):=by rw [show M4 0 W=[] from rfl,X2,Xe]
 rw [eC];refine lp (S:=Nat) 5 (λL1 i=>(97,.v (.one (.int .i64 (i:Int))))::(6,.v (.one (.orow 2 7 none)))::L1) (λi=>[.blk 86 (Rp c (Ub l) r1),.blk 79 (ta a),.row false 99 7 (Ur (C3++(M4 i W).map (Ay sg'))),.mpb T,.mpb (Bi T (Ah sg' (M4 i W)))]) (λi=>W.length-i) (λi=>i<=W.length) 0 (Qg _) rfl (λ_ _=>rfl) rfl λi hi=>?_
 by_cases hlt:i<W.length
 ·obtain ⟨x,hx⟩:=gxE (l:=W) (i:=i) hlt;have xm:=Qa hx;obtain ⟨V,hV⟩:=nmE (W.drop (i+1));have hVl:V.length=W.length-(i+1):=by rw [hV,Zq]
  have hVm:∀ p∈V,p∈W:=λp hp=>by rw [hV] at hp; exact Qz hp
  have eV:(Ub W).drop (i+1)=Ub V:=by rw [hdr,<-hV]
  have hVr:=Rj V;rw [<-Qtn W x i];refine go tt [.t (decide_eq_true (by omega)),.x (Gq hx),.r 104 (eI (b:=((i+1:Nat):Int)) (by omega)),.i (i+1),.r 105 (Lk eV)] rfl (by simp only [W6]; (repeat' apply And.intro) <;> first | omega | exact hel) ?_;refine lp (S:=Nat) 6 (λL1 j=>(107,.v (.one (.int .i64 (j:Int))))::(6,.v (.one (.orow 2 7 none)))::L1) (λj=>[.blk 86 (Rp c (Ub l) r1),.blk 79 (ta a),.row false 99 7 (Ur (C3++(p4j W x i j).map (Ay sg'))),.mpb T,.mpb (Bi T (Ah sg' (p4j W x i j))),.blk 114 (Fw x)]) (λj=>V.length-j) (λj=>j<=V.length) 0 (Qg _) rfl (λ_ _=>rfl) rfl λj hj=>?_
  by_cases hltj:j<V.length
  ·obtain ⟨y,hy⟩:=gxE (l:=V) (i:=j) hltj;have ym:=hVm y (Qa hy);have hy':(W.drop (i+1))[j]? = some y:=by rw [<-hV]; exact hy
   obtain ⟨U,hU⟩:=nmE (V.drop (j+1));have hUl:U.length=V.length-(j+1):=by rw [hU,Zq]
   have hUm:∀ p∈U,p∈W:=λp hp=>by rw [hU] at hp; exact hVm p (Qz hp)
   have hUW:U=(W.drop (i+1)).drop (j+1):=by rw [hU,hV]
   have eU:(Ub W).drop (i+j+2)=Ub U:=by rw [hdr,hU,hV,Xz]; congr 2; omega
   have hUr:=Rj U;rw [<-Qto W x y i j];refine go tt [.t (decide_eq_true (by omega)),.x (Gq hy),.r 116 (eI (b:=((i+j+2:Nat):Int)) (by omega)),.i (i+j+2),.r 117 (Lk eU)] rfl (by simp only [W6]; (repeat' apply And.intro) <;> first | omega | exact hel) ?_;refine lp (S:=Nat) 7 (λL1 k=>(119,.v (.one (.int .i64 (k:Int))))::(6,.v (.one (.orow 2 7 none)))::L1) (λk=>[.blk 86 (Rp c (Ub l) r1),.blk 79 (ta a),.row false 99 7 (Ur (C3++(p4k W x y i j k).map (Ay sg'))),.mpb T,.mpb (Bi T (Ah sg' (p4k W x y i j k))),.blk 114 (Fw x),.blk 114 (Fw y)]) (λk=>U.length-k) (λk=>k<=U.length) 0 (Qg _) rfl (λ_ _=>rfl) rfl λk hk=>?_
   by_cases hltk:k<U.length
   ·obtain ⟨z,hz⟩:=gxE (l:=U) (i:=k) hltk;have zm:=hUm z (Qa hz);have hz':((W.drop (i+1)).drop (j+1))[k]? = some z:=by rw [<-hUW]; exact hz
    obtain ⟨R,hR⟩:=nmE (U.drop (k+1));have hRl:R.length=U.length-(k+1):=by rw [hR,Zq]
    have hRm:∀ p∈R,p∈W:=λp hp=>by rw [hR] at hp; exact hUm p (Qz hp)
    have hRW:R=((W.drop (i+1)).drop (j+1)).drop (k+1):=by rw [hR,hUW]
    have eR:(Ub W).drop (i+j+k+3)=Ub R:=by rw [hdr,hRW,Xz,Xz]; congr 2; omega
    have hRr:=Rj R;rw [<-Qtr W x y z i j k];refine go tt [.t (decide_eq_true (by omega)),.x (Gq hz),.r 130 (eI (b:=((i+j+k+3:Nat):Int)) (by omega)),.i (i+j+k+3),.r 131 (Lk eR)] rfl (by simp only [W6]; (repeat' apply And.intro) <;> first | omega | exact hel) ?_;refine lp (S:=Nat) 8 (λL1 m=>(133,.v (.one (.int .i64 (m:Int))))::(6,.v (.one (.orow 2 7 none)))::L1) (λm=>[.blk 86 (Rp c (Ub l) r1),.blk 79 (ta a),.row false 99 7 (Ur (C3++(p4m W x y z i j k m).map (Ay sg'))),.mpb T,.mpb (Bi T (Ah sg' (p4m W x y z i j k m))),.blk 114 (Fw x),.blk 114 (Fw y),.blk 114 (Fw z)]) (λm=>R.length-m) (λm=>m<=R.length) 0 (Qg _) rfl (λ_ _=>rfl) rfl λm hm=>?_
    by_cases hltm:m<R.length
    ·obtain ⟨u,hu⟩:=gxE (l:=R) (i:=m) hltm;have um:=hRm u (Qa hu);have hlen:=Q07 hW6 (m:=m) hx hy' hz';have en:=Qtq (x:=x) (y:=y) (z:=z) (by rw [<-hRW]; exact hu);have et:=Qjy sg' T (p4m W x y z i j k m) (x,y,z,u);rw [<-en] at et;have cf:=Q6m (F:=Bi T (Ah sg' (p4m W x y z i j k m))) (s:=(Qkm sg' x y z u).want) (n0:=x.id) (n1:=y.id) (n2:=z.id) (n3:=u.id) hTI (hgb _);refine go tt [.t (decide_eq_true (by omega)),.x (Gq hu),.c [] (mC xm ym zm um),.s (sz:=7) (s7 _),.c [4,3] cf] rfl (by simp [W6,Mh] <;> omega) ?_;exact rd (m+1) (by omega) hltm (by rw [et,en,Xx,<-Ze]; simp [Ur]; rfl)
    ·have e:=Q06 (x:=x) (y:=y) (m:=m) hz' (by rw [<-hRW]; omega);rw [e];refine go tt [.f (decide_eq_false (by omega))] rfl (by simp [W6] <;> omega) ?_;exact rd (k+1) (by omega) hltk rfl
   ·have e:=Q05 (x:=x) (k:=k) hy' (by rw [<-hUW]; omega);rw [e];refine go tt [.f (decide_eq_false (by omega))] rfl (by simp [W6] <;> omega) ?_;exact rd (j+1) (by omega) hltj rfl
  ·have e:=Q04 (x:=x) (j:=j) hx (by rw [<-hV]; omega);rw [e];refine go tt [.f (decide_eq_false (by omega))] rfl (by simp [W6] <;> omega) ?_;exact rd (i+1) (by omega) hlt rfl
 rw [Q1o (show i=W.length by omega),<-hG];obtain ⟨C4,hC4⟩:=nmE (C3++(Dt W).map (Ay sg'));rw [<-hC4];refine go tt [.f (decide_eq_false (by omega))] rfl trivial ?_;refine ozM 0 13 50 3 rfl rfl ?_;have eT:([]:List (List LV))=M6 ((Px 0 W).filter (isT T G)):=rfl;rw [eT];refine lp (S:=Nat) 6 (λL1 i=>(174,.v (.one (.int .i64 (i:Int))))::L1) (λi=>[.blk 86 [.bool true,pl c.now.p,sg c.now.lo.num,mg c.now.lo.num,sg (c.now.lo.den:Int),mg (c.now.lo.den:Int),sg c.now.hi.num,mg c.now.hi.num,sg (c.now.hi.den:Int),mg (c.now.hi.den:Int),.row (Iq c.l),.int .i64 c.ev,.row (Ub l),.orow 5 3 none],.blk 79 (ta a),.row false 99 7 (Ur C4),.mpb T,.mpb G,.row false 50 3 (M6 ((Px i W).filter (isT T G)))]) (λi=>W.length-i) (λi=>i<=W.length) 0 (Qg _) rfl (λ_ _=>rfl) rfl λi hi=>?_
 by_cases hlt:i<W.length
 ·obtain ⟨x,hx⟩:=gxE (l:=W) (i:=i) hlt;obtain ⟨V,hV⟩:=nmE (W.drop (i+1));have hVl:V.length=W.length-(i+1):=by rw [hV,Zq]
  have eV:(Ub W).drop (i+1)=Ub V:=by rw [hdr,<-hV]
  have hVr:=Rj V;rw [<-Ou W x i];refine go tt [.t (decide_eq_true (by omega)),.x (Gq hx),.r 181 (eI (b:=((i+1:Nat):Int)) (by omega)),.i (i+1),.r 182 (Lk eV)] rfl (by simp only [W6]; (repeat' apply And.intro) <;> first | omega | exact hel) ?_;refine lp (S:=Nat) 7 (λL1 j=>(184,.v (.one (.int .i64 (j:Int))))::L1) (λj=>[.blk 86 [.bool true,pl c.now.p,sg c.now.lo.num,mg c.now.lo.num,sg (c.now.lo.den:Int),mg (c.now.lo.den:Int),sg c.now.hi.num,mg c.now.hi.num,sg (c.now.hi.den:Int),mg (c.now.hi.den:Int),.row (Iq c.l),.int .i64 c.ev,.row (Ub l),.orow 5 3 none],.blk 79 (ta a),.row false 99 7 (Ur C4),.mpb T,.mpb G,.row false 50 3 (M6 ((p3j W x i j).filter (isT T G))),.blk 114 (Fw x)]) (λj=>V.length-j) (λj=>j<=V.length) 0 (Qg _) rfl (λ_ _=>rfl) rfl λj hj=>?_
  by_cases hltj:j<V.length
  ·obtain ⟨y,hy⟩:=gxE (l:=V) (i:=j) hltj;have hy':(W.drop (i+1))[j]? = some y:=by rw [<-hV]; exact hy
   obtain ⟨U,hU⟩:=nmE (V.drop (j+1));have hUl:U.length=V.length-(j+1):=by rw [hU,Zq]
   have hUW:U=(W.drop (i+1)).drop (j+1):=by rw [hU,hV]
   have eU:(Ub W).drop (i+j+2)=Ub U:=by rw [hdr,hU,hV,Xz]; congr 2; omega
   have hUr:=Rj U;rw [<-Ox W x y i j];refine go tt [.t (decide_eq_true (by omega)),.x (Gq hy),.r 193 (eI (b:=((i+j+2:Nat):Int)) (by omega)),.i (i+j+2),.r 194 (Lk eU)] rfl (by simp only [W6]; (repeat' apply And.intro) <;> first | omega | exact hel) ?_;refine lp (S:=Nat) 8 (λL1 k=>(196,.v (.one (.int .i64 (k:Int))))::L1) (λk=>[.blk 86 [.bool true,pl c.now.p,sg c.now.lo.num,mg c.now.lo.num,sg (c.now.lo.den:Int),mg (c.now.lo.den:Int),sg c.now.hi.num,mg c.now.hi.num,sg (c.now.hi.den:Int),mg (c.now.hi.den:Int),.row (Iq c.l),.int .i64 c.ev,.row (Ub l),.orow 5 3 none],.blk 79 (ta a),.row false 99 7 (Ur C4),.mpb T,.mpb G,.row false 50 3 (M6 ((p3k W x y i j k).filter (isT T G))),.blk 114 (Fw x),.blk 114 (Fw y)]) (λk=>U.length-k) (λk=>k<=U.length) 0 (Qg _) rfl (λ_ _=>rfl) rfl λk hk=>?_
   by_cases hltk:k<U.length
   ·obtain ⟨z,hz⟩:=gxE (l:=U) (i:=k) hltk;have hlen:=Qh6 hW6 (k:=k) hx hy';have en:=Ow (x:=x) (y:=y) (by rw [<-hUW]; exact hz);have hfl:=Vi (isT T G) (p3k W x y i j k);have htl:=Am ((p3k W x y i j k).filter (isT T G));by_cases h1:A7 T [x.id,y.id,z.id]≠0
    ·by_cases h2:Qcy G [x.id,y.id,z.id]=true
     ·have ef:isT T G (x,y,z)=false:=by unfold isT Qlz; simp [h2]
      have eF:=Qpg (ps:=p3k W x y i j k) ef;rw [<-en] at eF;refine go tt [.t (decide_eq_true (by omega)),.x (Gq hz),.g 211 true (decide_eq_true h1),.f (by rw [h2]; rfl)] rfl (by simp only [W6]; (repeat' apply And.intro) <;> first | exact hTm | exact hGB | omega | (simp only [Q7,X1]; omega)) ?_;exact rd (k+1) (by omega) hltk (by rw [eF]; rfl)
     ·have h2:Qcy G [x.id,y.id,z.id]=false:=by simpa using h2
      have ef:isT T G (x,y,z)=true:=by unfold isT Qlz; simp [h2,h1]
      have eF:=Q74 (ps:=p3k W x y i j k) ef;rw [<-en] at eF;refine go tt [.t (decide_eq_true (by omega)),.x (Gq hz),.g 211 true (decide_eq_true h1),.t (by rw [h2]; rfl),.s (sz:=3) (s3 (x,y,z))] rfl (by simp only [W6]; (repeat' apply And.intro) <;> first | exact hTm | exact hGB | omega | (simp only [Q7,X1]; omega)) ?_;exact rd (k+1) (by omega) hltk (by rw [eF]; simp [M6]; rfl)
    ·have ef:isT T G (x,y,z)=false:=by unfold isT Qlz; simp [h1]
     have eF:=Qpg (ps:=p3k W x y i j k) ef;rw [<-en] at eF;refine go tt [.t (decide_eq_true (by omega)),.x (Gq hz),.g 211 false (decide_eq_false h1),.f rfl] rfl (by simp only [W6]; (repeat' apply And.intro) <;> first | exact hTm | exact hGB | omega | (simp only [Q7,X1]; omega)) ?_;exact rd (k+1) (by omega) hltk (by rw [eF]; rfl)
   ·have e:=Qdx (x:=x) (k:=k) hy' (by rw [<-hUW]; omega);rw [e];refine go tt [.f (decide_eq_false (by omega))] rfl (by simp [W6] <;> omega) ?_;exact rd (j+1) (by omega) hltj rfl
  ·have e:=Qdv (x:=x) (j:=j) hx (by rw [<-hV]; omega);rw [e];refine go tt [.f (decide_eq_false (by omega))] rfl (by simp [W6] <;> omega) ?_;exact rd (i+1) (by omega) hlt rfl
 rw [Qik (show i=W.length by omega)];rw [hC4,hC3];exact ed tt [2,5] [0] [.f (decide_eq_false (by omega))] rfl trivial
set_option maxHeartbeats 8000000 in
theorem Q2k {l:List Pt} {a:Tm} (hl:∀ p∈l,Sc p.c) (hn:l.length≤6) (ha:Va a):Ge Tryz.prog 61 [.one (.ow 0 0),.agg (ta a)] [.blk 86 (crz (.row (Ub l)) .nils)] [.one (.row (Ur (bcD l a)))] [.blk 86 (crz (.row (Ub l)) (.row (brD l a)))]:=by
 have hwl:=Qah l;have cw:=Q6h (l:=l) (Q17 hl) (by omega);have hgb:=Qso a;unfold brD bcD Qnh Na;obtain ⟨sg',hsg⟩:∃ s,s=Pv a:=⟨_,rfl⟩;obtain ⟨W,hW⟩:=nmE (D3 l);have hWs:∀ p∈W,Sc p.c:=λp hp=>hl p (Qlo (by rw [<-hW]; exact hp))
 have mR:=λ{x y z:Pt} (hx:x∈W) (hy:y∈W) (hz:z∈W)=>Qyx (t:=a) (hWs x hx) (hWs y hy) (hWs z hz) ha
 have mC:=λ{x y z u:Pt} (hx:x∈W) (hy:y∈W) (hz:z∈W) (hu:u∈W)=>Qyw (t:=a) (hWs x hx) (hWs y hy) (hWs z hz) (hWs u hu) ha
 rw [<-hW] at cw hwl ⊢;rw [<-hsg] at hgb mR mC ⊢;have hW6:W.length<=6:=by omega
 have hTi:=λps=>Qna hgb ps
 have hcp:(W.map Fw).length=W.length:=by simp
 have hcp2:=Rj W;have hdr:∀ i,(Ub W).drop i=Ub (W.drop i):=λi=>by unfold Ub; rw [List.map_drop]
 have hel:∀ z∈Ub W,z.length=5:=λz hz=>by obtain ⟨p,_,rfl⟩:=Zc.1 hz; rfl
 have s7:∀ x:Ct,∀ y∈[Qdt x],y.length=7:=λx y hy=>by rw [Qm.1 hy]; rfl
 have s3:∀ x:P3,∀ y∈[trL x],y.length=3:=λx y hy=>by rw [Qm.1 hy]; rfl
 obtain ⟨T,hT⟩:=nmE (Lu (Qad sg' (Gt W)));obtain ⟨G,hG⟩:=nmE (Bi T (Ah sg' (Dt W)));have hTI:Qoi T:=by rw [hT]; exact hTi _
 have hTm:Q45 T:=λk=>(hTI k).1
 have hGB:Qyh G:=λk=>by rw [hG]; exact Qit _ _ _ k
 rw [<-hT,<-hG];have e0:(Ur (((Px 0 W).map (Ot sg'))))=[]:=rfl;refine Fv Tryz.func61 rfl ?_;refine go tt [.c [] cw,.o 6 99 7] rfl trivial ?_;refine lp (S:=Nat) 4 (λL1 i=>(42,.v (.one (.int .i64 (i:Int))))::(6,.v (.one (.orow 2 7 none)))::L1) (λi=>[.blk 86 (crz (.row (Ub l)) .nils),.blk 79 (ta a),.row false 99 7 (Ur ((Px i W).map (Ot sg'))),.mpb (Lu (Qad sg' (Px i W)))]) (λi=>W.length-i) (λi=>i<=W.length) 0 (Qg _) rfl (λ_ _=>rfl) rfl λi hi=>?_
 by_cases hlt:i<W.length
 ·obtain ⟨x,hx⟩:=gxE (l:=W) (i:=i) hlt;have xm:=Qa hx;obtain ⟨V,hV⟩:=nmE (W.drop (i+1));have hVl:V.length=W.length-(i+1):=by rw [hV,Zq]
  have hVm:∀ p∈V,p∈W:=λp hp=>by rw [hV] at hp; exact Qz hp
  have eV:(Ub W).drop (i+1)=Ub V:=by rw [hdr,<-hV]
  rw [<-Ou W x i];refine go tt [.t (decide_eq_true (by omega)),.x (Gq hx),.r 49 (eI (b:=((i+1:Nat):Int)) (by omega)),.i (i+1),.r 50 (Lk eV)] rfl (by simp only [W6]; (repeat' apply And.intro) <;> first | omega | exact hel) ?_;have hVr:=Rj V;refine lp (S:=Nat) 5 (λL1 j=>(52,.v (.one (.int .i64 (j:Int))))::(6,.v (.one (.orow 2 7 none)))::L1) (λj=>[.blk 86 (crz (.row (Ub l)) .nils),.blk 79 (ta a),.row false 99 7 (Ur ((p3j W x i j).map (Ot sg'))),.mpb (Lu (Qad sg' (p3j W x i j))),.blk 114 (Fw x)]) (λj=>V.length-j) (λj=>j<=V.length) 0 (Qg _) rfl (λ_ _=>rfl) rfl λj hj=>?_
  by_cases hltj:j<V.length
  ·obtain ⟨y,hy⟩:=gxE (l:=V) (i:=j) hltj;have ym:=hVm y (Qa hy);have hy':(W.drop (i+1))[j]? = some y:=by rw [<-hV]; exact hy
   obtain ⟨U,hU⟩:=nmE (V.drop (j+1));have hUl:U.length=V.length-(j+1):=by rw [hU,Zq]
   have hUm:∀ p∈U,p∈W:=λp hp=>by rw [hU] at hp; exact hVm p (Qz hp)
   have hUW:U=(W.drop (i+1)).drop (j+1):=by rw [hU,hV]
   have eU:(Ub W).drop (i+j+2)=Ub U:=by rw [hdr,hU,hV,Xz]; congr 2; omega
   have hUr:=Rj U;rw [<-Ox W x y i j];refine go tt [.t (decide_eq_true (by omega)),.x (Gq hy),.r 61 (eI (b:=((i+j+2:Nat):Int)) (by omega)),.i (i+j+2),.r 62 (Lk eU)] rfl (by simp only [W6]; (repeat' apply And.intro) <;> first | omega | exact hel) ?_;refine lp (S:=Nat) 6 (λL1 k=>(64,.v (.one (.int .i64 (k:Int))))::(6,.v (.one (.orow 2 7 none)))::L1) (λk=>[.blk 86 (crz (.row (Ub l)) .nils),.blk 79 (ta a),.row false 99 7 (Ur ((p3k W x y i j k).map (Ot sg'))),.mpb (Lu (Qad sg' (p3k W x y i j k))),.blk 114 (Fw x),.blk 114 (Fw y)]) (λk=>U.length-k) (λk=>k<=U.length) 0 (Qg _) rfl (λ_ _=>rfl) rfl λk hk=>?_
   by_cases hltk:k<U.length
   ·obtain ⟨z,hz⟩:=gxE (l:=U) (i:=k) hltk;have zm:=hUm z (Qa hz);have hlen:=Qh6 hW6 (k:=k) hx hy';have en:=Ow (x:=x) (y:=y) (by rw [<-hUW]; exact hz);have et:=Qlm sg' (p3k W x y i j k) (x,y,z);rw [<-en] at et;refine go tt [.t (decide_eq_true (by omega)),.x (Gq hz),.c [] (mR xm ym zm),.s (sz:=7) (s7 _)] rfl (by simp [W6,Mh] <;> omega) ?_;exact rd (k+1) (by omega) hltk (by rw [et,en,Xx]; simp [Ur]; rfl)
   ·have e:=Qdx (x:=x) (k:=k) hy' (by rw [<-hUW]; omega);rw [e];refine go tt [.f (decide_eq_false (by omega))] rfl (by simp [W6] <;> omega) ?_;exact rd (j+1) (by omega) hltj rfl
  ·have e:=Qdv (x:=x) (j:=j) hx (by rw [<-hV]; omega);rw [e];refine go tt [.f (decide_eq_false (by omega))] rfl (by simp [W6] <;> omega) ?_;exact rd (i+1) (by omega) hlt rfl
 rw [Qik (show i=W.length by omega),<-hT];have hiW:¬i<W.length:=hlt;clear hlt;obtain ⟨C3,hC3⟩:=nmE ((Gt W).map (Ot sg'));have hC3l:C3.length<=20:=by rw [hC3,Q6]; exact (If hW6).1
 rw [<-hC3];refine go tt [.f (decide_eq_false (by omega))] rfl trivial ?_;have eC:Ur C3=Ur (C3++(M4 0 W).map (Ay sg')):=by rw [show M4 0 W=[] from rfl,X2,Xe]
 rw [eC];refine lp (S:=Nat) 5 (λL1 i=>(97,.v (.one (.int .i64 (i:Int))))::(6,.v (.one (.orow 2 7 none)))::L1) (λi=>[.blk 86 (crz (.row (Ub l)) .nils),.blk 79 (ta a),.row false 99 7 (Ur (C3++(M4 i W).map (Ay sg'))),.mpb T,.mpb (Bi T (Ah sg' (M4 i W)))]) (λi=>W.length-i) (λi=>i<=W.length) 0 (Qg _) rfl (λ_ _=>rfl) rfl λi hi=>?_
 by_cases hlt:i<W.length
 ·obtain ⟨x,hx⟩:=gxE (l:=W) (i:=i) hlt;have xm:=Qa hx;obtain ⟨V,hV⟩:=nmE (W.drop (i+1));have hVl:V.length=W.length-(i+1):=by rw [hV,Zq]
  have hVm:∀ p∈V,p∈W:=λp hp=>by rw [hV] at hp; exact Qz hp
  have eV:(Ub W).drop (i+1)=Ub V:=by rw [hdr,<-hV]
  have hVr:=Rj V;rw [<-Qtn W x i];refine go tt [.t (decide_eq_true (by omega)),.x (Gq hx),.r 104 (eI (b:=((i+1:Nat):Int)) (by omega)),.i (i+1),.r 105 (Lk eV)] rfl (by simp only [W6]; (repeat' apply And.intro) <;> first | omega | exact hel) ?_;refine lp (S:=Nat) 6 (λL1 j=>(107,.v (.one (.int .i64 (j:Int))))::(6,.v (.one (.orow 2 7 none)))::L1) (λj=>[.blk 86 (crz (.row (Ub l)) .nils),.blk 79 (ta a),.row false 99 7 (Ur (C3++(p4j W x i j).map (Ay sg'))),.mpb T,.mpb (Bi T (Ah sg' (p4j W x i j))),.blk 114 (Fw x)]) (λj=>V.length-j) (λj=>j<=V.length) 0 (Qg _) rfl (λ_ _=>rfl) rfl λj hj=>?_
  by_cases hltj:j<V.length
  ·obtain ⟨y,hy⟩:=gxE (l:=V) (i:=j) hltj;have ym:=hVm y (Qa hy);have hy':(W.drop (i+1))[j]? = some y:=by rw [<-hV]; exact hy
   obtain ⟨U,hU⟩:=nmE (V.drop (j+1));have hUl:U.length=V.length-(j+1):=by rw [hU,Zq]
   have hUm:∀ p∈U,p∈W:=λp hp=>by rw [hU] at hp; exact hVm p (Qz hp)
   have hUW:U=(W.drop (i+1)).drop (j+1):=by rw [hU,hV]
   have eU:(Ub W).drop (i+j+2)=Ub U:=by rw [hdr,hU,hV,Xz]; congr 2; omega
   have hUr:=Rj U;rw [<-Qto W x y i j];refine go tt [.t (decide_eq_true (by omega)),.x (Gq hy),.r 116 (eI (b:=((i+j+2:Nat):Int)) (by omega)),.i (i+j+2),.r 117 (Lk eU)] rfl (by simp only [W6]; (repeat' apply And.intro) <;> first | omega | exact hel) ?_;refine lp (S:=Nat) 7 (λL1 k=>(119,.v (.one (.int .i64 (k:Int))))::(6,.v (.one (.orow 2 7 none)))::L1) (λk=>[.blk 86 (crz (.row (Ub l)) .nils),.blk 79 (ta a),.row false 99 7 (Ur (C3++(p4k W x y i j k).map (Ay sg'))),.mpb T,.mpb (Bi T (Ah sg' (p4k W x y i j k))),.blk 114 (Fw x),.blk 114 (Fw y)]) (λk=>U.length-k) (λk=>k<=U.length) 0 (Qg _) rfl (λ_ _=>rfl) rfl λk hk=>?_
   by_cases hltk:k<U.length
   ·obtain ⟨z,hz⟩:=gxE (l:=U) (i:=k) hltk;have zm:=hUm z (Qa hz);have hz':((W.drop (i+1)).drop (j+1))[k]? = some z:=by rw [<-hUW]; exact hz
    obtain ⟨R,hR⟩:=nmE (U.drop (k+1));have hRl:R.length=U.length-(k+1):=by rw [hR,Zq]
    have hRm:∀ p∈R,p∈W:=λp hp=>by rw [hR] at hp; exact hUm p (Qz hp)
    have hRW:R=((W.drop (i+1)).drop (j+1)).drop (k+1):=by rw [hR,hUW]
    have eR:(Ub W).drop (i+j+k+3)=Ub R:=by rw [hdr,hRW,Xz,Xz]; congr 2; omega
    have hRr:=Rj R;rw [<-Qtr W x y z i j k];refine go tt [.t (decide_eq_true (by omega)),.x (Gq hz),.r 130 (eI (b:=((i+j+k+3:Nat):Int)) (by omega)),.i (i+j+k+3),.r 131 (Lk eR)] rfl (by simp only [W6]; (repeat' apply And.intro) <;> first | omega | exact hel) ?_;refine lp (S:=Nat) 8 (λL1 m=>(133,.v (.one (.int .i64 (m:Int))))::(6,.v (.one (.orow 2 7 none)))::L1) (λm=>[.blk 86 (crz (.row (Ub l)) .nils),.blk 79 (ta a),.row false 99 7 (Ur (C3++(p4m W x y z i j k m).map (Ay sg'))),.mpb T,.mpb (Bi T (Ah sg' (p4m W x y z i j k m))),.blk 114 (Fw x),.blk 114 (Fw y),.blk 114 (Fw z)]) (λm=>R.length-m) (λm=>m<=R.length) 0 (Qg _) rfl (λ_ _=>rfl) rfl λm hm=>?_
    by_cases hltm:m<R.length
    ·obtain ⟨u,hu⟩:=gxE (l:=R) (i:=m) hltm;have um:=hRm u (Qa hu);have hlen:=Q07 hW6 (m:=m) hx hy' hz';have en:=Qtq (x:=x) (y:=y) (z:=z) (by rw [<-hRW]; exact hu);have et:=Qjy sg' T (p4m W x y z i j k m) (x,y,z,u);rw [<-en] at et;have cf:=Q6m (F:=Bi T (Ah sg' (p4m W x y z i j k m))) (s:=(Qkm sg' x y z u).want) (n0:=x.id) (n1:=y.id) (n2:=z.id) (n3:=u.id) hTI (hgb _);refine go tt [.t (decide_eq_true (by omega)),.x (Gq hu),.c [] (mC xm ym zm um),.s (sz:=7) (s7 _),.c [4,3] cf] rfl (by simp [W6,Mh] <;> omega) ?_;exact rd (m+1) (by omega) hltm (by rw [et,en,Xx,<-Ze]; simp [Ur]; rfl)
    ·have e:=Q06 (x:=x) (y:=y) (m:=m) hz' (by rw [<-hRW]; omega);rw [e];refine go tt [.f (decide_eq_false (by omega))] rfl (by simp [W6] <;> omega) ?_;exact rd (k+1) (by omega) hltk rfl
   ·have e:=Q05 (x:=x) (k:=k) hy' (by rw [<-hUW]; omega);rw [e];refine go tt [.f (decide_eq_false (by omega))] rfl (by simp [W6] <;> omega) ?_;exact rd (j+1) (by omega) hltj rfl
  ·have e:=Q04 (x:=x) (j:=j) hx (by rw [<-hV]; omega);rw [e];refine go tt [.f (decide_eq_false (by omega))] rfl (by simp [W6] <;> omega) ?_;exact rd (i+1) (by omega) hlt rfl
 rw [Q1o (show i=W.length by omega),<-hG];obtain ⟨C4,hC4⟩:=nmE (C3++(Dt W).map (Ay sg'));rw [<-hC4];refine go tt [.f (decide_eq_false (by omega))] rfl trivial ?_;refine ozM 0 13 50 3 rfl rfl ?_;have eT:([]:List (List LV))=M6 ((Px 0 W).filter (isT T G)):=rfl;rw [eT];refine lp (S:=Nat) 6 (λL1 i=>(174,.v (.one (.int .i64 (i:Int))))::L1) (λi=>[.blk 86 [.bool false,.nils,.bool false,.nils,.bool false,.nils,.bool false,.nils,.bool false,.nils,.nils,.int .i64 0,.row (Ub l),.orow 5 3 none],.blk 79 (ta a),.row false 99 7 (Ur C4),.mpb T,.mpb G,.row false 50 3 (M6 ((Px i W).filter (isT T G)))]) (λi=>W.length-i) (λi=>i<=W.length) 0 (Qg _) rfl (λ_ _=>rfl) rfl λi hi=>?_
 by_cases hlt:i<W.length
 ·obtain ⟨x,hx⟩:=gxE (l:=W) (i:=i) hlt;obtain ⟨V,hV⟩:=nmE (W.drop (i+1));have hVl:V.length=W.length-(i+1):=by rw [hV,Zq]
  have eV:(Ub W).drop (i+1)=Ub V:=by rw [hdr,<-hV]
  have hVr:=Rj V;rw [<-Ou W x i];refine go tt [.t (decide_eq_true (by omega)),.x (Gq hx),.r 181 (eI (b:=((i+1:Nat):Int)) (by omega)),.i (i+1),.r 182 (Lk eV)] rfl (by simp only [W6]; (repeat' apply And.intro) <;> first | omega | exact hel) ?_;refine lp (S:=Nat) 7 (λL1 j=>(184,.v (.one (.int .i64 (j:Int))))::L1) (λj=>[.blk 86 [.bool false,.nils,.bool false,.nils,.bool false,.nils,.bool false,.nils,.bool false,.nils,.nils,.int .i64 0,.row (Ub l),.orow 5 3 none],.blk 79 (ta a),.row false 99 7 (Ur C4),.mpb T,.mpb G,.row false 50 3 (M6 ((p3j W x i j).filter (isT T G))),.blk 114 (Fw x)]) (λj=>V.length-j) (λj=>j<=V.length) 0 (Qg _) rfl (λ_ _=>rfl) rfl λj hj=>?_
  by_cases hltj:j<V.length
  ·obtain ⟨y,hy⟩:=gxE (l:=V) (i:=j) hltj;have hy':(W.drop (i+1))[j]? = some y:=by rw [<-hV]; exact hy
   obtain ⟨U,hU⟩:=nmE (V.drop (j+1));have hUl:U.length=V.length-(j+1):=by rw [hU,Zq]
   have hUW:U=(W.drop (i+1)).drop (j+1):=by rw [hU,hV]
   have eU:(Ub W).drop (i+j+2)=Ub U:=by rw [hdr,hU,hV,Xz]; congr 2; omega
   have hUr:=Rj U;rw [<-Ox W x y i j];refine go tt [.t (decide_eq_true (by omega)),.x (Gq hy),.r 193 (eI (b:=((i+j+2:Nat):Int)) (by omega)),.i (i+j+2),.r 194 (Lk eU)] rfl (by simp only [W6]; (repeat' apply And.intro) <;> first | omega | exact hel) ?_;refine lp (S:=Nat) 8 (λL1 k=>(196,.v (.one (.int .i64 (k:Int))))::L1) (λk=>[.blk 86 [.bool false,.nils,.bool false,.nils,.bool false,.nils,.bool false,.nils,.bool false,.nils,.nils,.int .i64 0,.row (Ub l),.orow 5 3 none],.blk 79 (ta a),.row false 99 7 (Ur C4),.mpb T,.mpb G,.row false 50 3 (M6 ((p3k W x y i j k).filter (isT T G))),.blk 114 (Fw x),.blk 114 (Fw y)]) (λk=>U.length-k) (λk=>k<=U.length) 0 (Qg _) rfl (λ_ _=>rfl) rfl λk hk=>?_
   by_cases hltk:k<U.length
   ·obtain ⟨z,hz⟩:=gxE (l:=U) (i:=k) hltk;have hlen:=Qh6 hW6 (k:=k) hx hy';have en:=Ow (x:=x) (y:=y) (by rw [<-hUW]; exact hz);have hfl:=Vi (isT T G) (p3k W x y i j k);have htl:=Am ((p3k W x y i j k).filter (isT T G));by_cases h1:A7 T [x.id,y.id,z.id]≠0
    ·by_cases h2:Qcy G [x.id,y.id,z.id]=true
     ·have ef:isT T G (x,y,z)=false:=by unfold isT Qlz; simp [h2]
      have eF:=Qpg (ps:=p3k W x y i j k) ef;rw [<-en] at eF;refine go tt [.t (decide_eq_true (by omega)),.x (Gq hz),.g 211 true (decide_eq_true h1),.f (by rw [h2]; rfl)] rfl (by simp only [W6]; (repeat' apply And.intro) <;> first | exact hTm | exact hGB | omega | (simp only [Q7,X1]; omega)) ?_;exact rd (k+1) (by omega) hltk (by rw [eF]; rfl)
     ·have h2:Qcy G [x.id,y.id,z.id]=false:=by simpa using h2
      have ef:isT T G (x,y,z)=true:=by unfold isT Qlz; simp [h2,h1]
      have eF:=Q74 (ps:=p3k W x y i j k) ef;rw [<-en] at eF;refine go tt [.t (decide_eq_true (by omega)),.x (Gq hz),.g 211 true (decide_eq_true h1),.t (by rw [h2]; rfl),.s (sz:=3) (s3 (x,y,z))] rfl (by simp only [W6]; (repeat' apply And.intro) <;> first | exact hTm | exact hGB | omega | (simp only [Q7,X1]; omega)) ?_;exact rd (k+1) (by omega) hltk (by rw [eF]; simp [M6]; rfl)
    ·have ef:isT T G (x,y,z)=false:=by unfold isT Qlz; simp [h1]
     have eF:=Qpg (ps:=p3k W x y i j k) ef;rw [<-en] at eF;refine go tt [.t (decide_eq_true (by omega)),.x (Gq hz),.g 211 false (decide_eq_false h1),.f rfl] rfl (by simp only [W6]; (repeat' apply And.intro) <;> first | exact hTm | exact hGB | omega | (simp only [Q7,X1]; omega)) ?_;exact rd (k+1) (by omega) hltk (by rw [eF]; rfl)
   ·have e:=Qdx (x:=x) (k:=k) hy' (by rw [<-hUW]; omega);rw [e];refine go tt [.f (decide_eq_false (by omega))] rfl (by simp [W6] <;> omega) ?_;exact rd (j+1) (by omega) hltj rfl
  ·have e:=Qdv (x:=x) (j:=j) hx (by rw [<-hV]; omega);rw [e];refine go tt [.f (decide_eq_false (by omega))] rfl (by simp [W6] <;> omega) ?_;exact rd (i+1) (by omega) hlt rfl
 rw [Qik (show i=W.length by omega)];rw [hC4,hC3];exact ed tt [2,5] [0] [.f (decide_eq_false (by omega))] rfl trivial
end Orr
namespace Orr
open Go Go.Proofs Orq
theorem Zaz {x y:Int} (hx:-9223372036854775808<=x/\x<=9223372036854775807) (hy:-9223372036854775808<=y/\y<=9223372036854775807):Sc (Qn8 x y):=⟨Crv.nml _,((Qr4 hx hy).norm (by decide)).mono (by decide) (by decide)⟩
theorem Sc.pt {p:Pt} (h:Sc p.c):Qu5 4294967294 1073741824 p:=⟨h.n,h.c.mono (by decide) (by decide)⟩
end Orr
namespace Orr
open Go Go.Proofs Orq
set_option maxRecDepth 10000
theorem Zlm {T:Nat} {t:Rat} {Bc:Tm->List Ct} {Br:Tm->List (List LV)} {r0:List (List LV)} (ht:Qs 400000 t) (hB:BuildOk Bc)
 (hb:∀ a c r1,Va a->CrOk c->Ge Tryz.prog 61 [.one (.ow 0 0),.agg (ta a)] [.blk T (Rp c r0 r1)] [.one (.row (Ur (Bc a)))] [.blk T (Rp c r0 (Br a))])
 {K:Nat} {c c':Cr} {r1 r1':List (List LV)} {n:Int} (hc:CrOk c) (hev:0<=c.ev/\c.ev+K<=1000000000000000000) (h:Uq c.now t<=0) (hg:goF Bc Br t K c r1 0=some (c',r1',n)) :
 Ge Tryz.prog 59 [.one (.ow 0 0),.agg (rl t),.one (.ofn 61 [.ow 0 0] [])] [.blk T (Rp c r0 r1)] [.one (.int .i64 n),.one (.int .i64 0)] [.blk T (Rp c' r0 r1')]:=by
 have qt:Qb t:=ht.mono (by decide);have c1:=Qe2 hc.n.tb qt;refine Fv Tryz.func59 rfl ?_;refine go tt [.c [0] (Qoq hc.n),.c [] c1,.f (by simpa using h)] rfl trivial ?_;refine lp (S:=Nat×Cr×List (List LV)×Int) 2 (λL1 s=>(8,.v (.one (.int .i64 s.2.2.2)))::L1) (λs=>[.blk T (Rp s.2.1 r0 s.2.2.1),.blk 74 (rl t)]) (λs=>s.1) (λs=>CrOk s.2.1/\(0<=s.2.1.ev/\s.2.1.ev+s.1<=1000000000000000000)/\(0<=s.2.2.2/\s.2.2.2+s.1<=1000000000000000000)/\goF Bc Br t s.1 s.2.1 s.2.2.1 s.2.2.2=some (c',r1',n)) (K,c,r1,0) ⟨hc,hev,⟨Int.le_refl 0,by dsimp only; omega⟩,hg⟩ rfl (λ_ _=>rfl) rfl λ⟨k,x,r,m⟩ ⟨j1,j2,j3,j4⟩=>?_
 dsimp only at j1 j2 j3 j4 ⊢;cases k with
 | zero=>cases j4
 |
  succ k =>
  simp only [goF] at j4;obtain ⟨ws,w1,j4⟩:=Qf.1 j4;obtain ⟨o,o1,j4⟩:=Qf.1 j4;have cn:=Zc1 (T:=T) (r0:=r0) (r1:=r) j1 w1 o1;have ca:=Zg5 (W9 t.num) (W9 (t.den:Int)) (Qd ht.1 (by decide)) (Qd ht.2 (by decide)) (by rw [Ie]; exact ht.mono (by decide));rw [Ie] at ca;cases o with
  |
   none =>
   injection j4 with j4; injection j4 with e1 j4; injection j4 with e2 e3;subst e1; subst e2; subst e3;exact ed tt [] [0] [.c [0] cn,.g 25 true rfl,.t rfl,.c [] ca] rfl trivial
  |
   some a =>
   have ha:=Zjy j1 w1 o1;dsimp only at j4;have cc:=Qe2 ha.tb qt;by_cases h0:0<Uq a t
   ·rw [if_pos h0] at j4;injection j4 with j4; injection j4 with e1 j4; injection j4 with e2 e3;subst e1; subst e2; subst e3;exact ed tt [] [0] [.c [0] cn,.g 25 false rfl,.c [] cc,.t (by simpa using h0),.c [] ca] rfl trivial
   ·rw [if_neg h0] at j4;obtain ⟨w2,l1,j4⟩:=Qf.1 j4;have j1':=Qh1 j1 w1;have cl:=Ix (b:=a) (l:=[]) ha.tb (λt ht=>by cases ht) (by decide) rfl;have cb:=hb a { x with l:=ws } r ha j1';have cy:=Qyu (T:=T) (r0:=r0) (r1:=Br a) j1' ha (hB.p a ha) (hB.n a ha) l1;have hf:decide (0<Uq a t)=false:=by simpa using h0
    refine go tt [.c [0] cn,.g 25 false rfl,.c [] cc,.f hf,.c [] cl,.c [0] cb,.c [0] cy] rfl (by simp [W6]; omega) ?_;exact rd (k,⟨a,w2,x.ev+1⟩,Br a,m+1) (by dsimp only; omega) ⟨lay_ok _ j1' ha (hB.p a ha) (hB.n a ha) l1,by dsimp only; omega,by dsimp only; omega,j4⟩ rfl
theorem Q2l {T:Nat} {t:Rat} {c:Cr} {r0 r1:List (List LV)} (ht:Qb t) (hc:Va c.now) (h:0<Uq c.now t) :
 Ge Tryz.prog 59 [.one (.ow 0 0),.agg (rl t),.one (.ofn 61 [.ow 0 0] [])] [.blk T (Rp c r0 r1)] [.one (.int .i64 0),.one (.int .i64 8)] [.blk T (Rp c r0 r1)]:=by
 refine Fv Tryz.func59 rfl ?_;exact ed tt [] [0] [.c [0] (Qoq hc),.c [] (Qe2 hc.tb ht),.t (by simpa using h)] rfl trivial
theorem Qyt {zs:List (List LV)} {qs l:List Pt} {x y x' y':LV} {n d:Int} (hz:IsPts 4294967294 1073741824 zs qs) (hq:qs.length≤6) (hnl:Rm [] qs=(l,0)) (hl:∀ p∈l,Sc p.c) (hn:l.length≤6) (h1:Gu x y n) (h2:Gu x' y' d) (bn:Uh n≤4294967295) (bd:Uh d≤4294967295) (ht:Qs 400000 (Fx n d)) :
 Ge Tryz.prog 46 [.agg [x,y,x',y'],.one (.row zs)] [] [.one (.ow 0 0),.one (.int .i64 0)] [.blk 86 (Rp (Q5h l (tq (Fx n d))) (Ub l) (brD l (tq (Fx n d))))]:=by
 have cn:=Zlo hz hq;rw [hnl] at cn;have co:=Zg5 h1 h2 bn bd (ht.mono (by decide));have hv:=Zky ht;have hB:=Qio hl hn;have cb:=Q2k hl hn hv;have cg:=Q2q (T:=86) (r0:=Ub l) (r1:=brD l (tq (Fx n d))) hv (hB.p _ hv) (hB.n _ hv);obtain ⟨b,l1,rfl,rfl,_⟩:=h1;obtain ⟨b',l2,rfl,rfl,_⟩:=h2;refine Fv Tryz.func46 rfl ?_;exact ed tt [] [2] [.c [] cn,.f rfl,.c [] co,.c [2] cb,.c [2] cg] rfl trivial
theorem Zij {t:Rat} {l:List Pt} {K:Nat} {c c':Cr} {r1 r1':List (List LV)} {n:Int} (ht:Qs 400000 t) (hl:∀ p∈l,Sc p.c) (hn:l.length≤6) (hc:CrOk c) (hev:0≤c.ev/\c.ev+K≤1000000000000000000) (h:Uq c.now t≤0) (hg:goF (bcD l) (brD l) t K c r1 0=some (c',r1',n)) :
 Ge Tryz.prog 18 [.one (.ow 0 0),.agg (rl t)] [.blk 86 (Rp c (Ub l) r1)] [.one (.int .i64 n),.one (.int .i64 0)] [.blk 86 (Rp c' (Ub l) r1')]:=by
 have cg:=Zlm (T:=86) (r0:=Ub l) ht (Qio hl hn) (λa c r1 ha _=>Ql9 (c:=c) (r1:=r1) hl hn ha) hc hev h hg;refine Fv Tryz.func18 rfl ?_;exact ed tt [] [0] [.c [] (Lc (ht.mono (by decide))),.c [0] cg] rfl trivial
theorem Qvm {t:Rat} {l:List Pt} {c:Cr} {r1:List (List LV)} (ht:Qs 400000 t) (hc:Va c.now) (h:0<Uq c.now t) :
 Ge Tryz.prog 18 [.one (.ow 0 0),.agg (rl t)] [.blk 86 (Rp c (Ub l) r1)] [.one (.int .i64 0),.one (.int .i64 8)] [.blk 86 (Rp c (Ub l) r1)]:=by
 have cg:=Q2l (T:=86) (r0:=Ub l) (r1:=r1) (ht.mono (by decide)) hc h;refine Fv Tryz.func18 rfl ?_;exact ed tt [] [0] [.c [] (Lc (ht.mono (by decide))),.c [0] cg] rfl trivial
abbrev Nk (e:Int×Int):List LV:=[.int .i64 e.1,.int .i64 e.2]
def Nt (l:List (Int×Int)):List (List LV):=l.map Nk
theorem Gi (l:List (Int×Int)):(Nt l).length=l.length:=by simp [Nt]
theorem Qdb {l:List (Int×Int)} {i:Nat} {e:Int×Int} (h:l[i]? = some e):(Nt l)[i]? = some (Nk e):=Ff h
theorem Qaq (l:List (Int×Int)):∀ c∈Nt l,c.length=2:=λc hc=>by
 obtain ⟨x,_,rfl⟩:=Zc.1 hc; rfl
def M9 (a b:Int×Int):Bool:=decide (a.1<b.1) || (decide (a.1=b.1) && decide (a.2<b.2))
def Bz (e:Int×Int):List (Int×Int)->Nat
 | []=>0
 | x::l=>if M9 x e=true then Bz e l+1 else 0
theorem Qd0 (e:Int×Int):∀ l,Bz e l<=l.length
 | []=>Qn _
 |
  x::l=>by
  have:=Qd0 e l;simp only [Bz,Q7]
  split <;> omega
theorem Qp8 {e x:Int×Int} {l:List (Int×Int)} {k:Nat} (hx:l[k]? = some x) (h:M9 x e=true):Bz e (l.drop k)=Bz e (l.drop (k+1))+1:=by
 obtain ⟨hk,hx⟩:=Qc.1 hx;rw [Zj hk,hx];simp only [Bz,h,if_true]
theorem Qkw {e x:Int×Int} {l:List (Int×Int)} {k:Nat} (hx:l[k]? = some x) (h:M9 x e=false):Bz e (l.drop k)=0:=by
 obtain ⟨hk,hx⟩:=Qc.1 hx;rw [Zj hk,hx];simp [Bz,h]
theorem Qkv {e:Int×Int} {l:List (Int×Int)} {k:Nat} (h:¬k<l.length):Bz e (l.drop k)=0:=by
 rw [Ym (by omega)]; rfl
def Ex (out:List (Int×Int)) (e:Int×Int):List (Int×Int):=if out[Bz e out]? = some e then out else out.take (Bz e out)++e::out.drop (Bz e out)
theorem Ey (out:List (Int×Int)) (e:Int×Int):(Ex out e).length<=out.length+1:=by
 have:=Qd0 e out;unfold Ex
 split
 ·omega
 ·simp; omega
def Qb6 (out:List (Int×Int)) (m:P3):List (Int×Int):=Ex (Ex (Ex out (m.1.id,m.2.1.id)) (m.1.id,m.2.2.id)) (m.2.1.id,m.2.2.id)
def Bw (ts:List P3):List (Int×Int):=ts.foldl Qb6 []
theorem Qsg {ts:List P3} {i:Nat} {m:P3} (h:ts[i]? = some m):Bw (ts.take (i+1))=Qb6 (Bw (ts.take i)) m:=by
 rw [Zx,h]; simp [Bw,Yw]
theorem Qwf (out:List (Int×Int)) (m:P3):(Qb6 out m).length<=out.length+3:=by
 have h1:=Ey out (m.1.id,m.2.1.id);have h2:=Ey (Ex out (m.1.id,m.2.1.id)) (m.1.id,m.2.2.id);have h3:=Ey (Ex (Ex out (m.1.id,m.2.1.id)) (m.1.id,m.2.2.id)) (m.2.1.id,m.2.2.id);unfold Qb6; omega
theorem Qb5:∀ (ts:List P3) (out:List (Int×Int)),(ts.foldl Qb6 out).length<=out.length+3*ts.length
 | [],out=>by simp
 |
  m::ts,out=>by
  have h1:=Qb5 ts (Qb6 out m);have h2:=Qwf out m;simp only [Z3,Q7]; omega
theorem Pg {O:List (Int×Int)} {z:List LV} {e:Int×Int} {k m:Nat} {l2:List (List LV)} (hk:k<=O.length) (hp:Bz e O=k) (hne:O[k]? ≠ some e) (hm:m=O.length-k) (h2:l2.take m=((Nt O++[z]).drop k).take m) :
 ((Nt O++[z]).take (k+1)++(l2.take m++(Nt O++[z]).drop (k+1+m))).set k (Nk e)=Nt (Ex O e):=by
 rw [h2,<-Ze,Qsx (Nt O) z (Nk e) (by rw [Gi]; omega) (by rw [Gi]; omega)];simp [Ex,hp,hne,Nt,Ye,Wd]
theorem Qby {c:Cr} {r0:List (List LV)} {ts:List P3} (ht:ts.length<=1000):Ge Tryz.prog 10 [.one (.ow 0 0)] [.blk 86 (Rp c r0 (M6 ts))] [.one (.row (M6 ts))] [.blk 86 (Rp c r0 (M6 ts))]:=by
 have hl:=Am ts;have h3:∀ y∈M6 ts,y.length=3:=λy hy=>by obtain ⟨m,_,rfl⟩:=Zc.1 hy; rfl
 refine Fv Tryz.func10 rfl ?_;exact ed tt [1] [0] [.s (sz:=3) h3] rfl (by simp [W6] <;> omega)
set_option maxHeartbeats 8000000 in
theorem Qiw {c:Cr} {r0:List (List LV)} {ts:List P3} (ht:ts.length<=1000):Ge Tryz.prog 58 [.one (.ow 0 0)] [.blk 86 (Rp c r0 (M6 ts))] [.one (.row (Nt (Bw ts)))] [.blk 86 (Rp c r0 (M6 ts))]:=by
 have hl:=Am ts;refine Fv Tryz.func58 rfl ?_;refine go tt [.o 3 143 2] rfl trivial ?_;refine lp (S:=Nat) 2 (λL1 i=>(14,.v (.one (.int .i64 (i:Int))))::(3,.v (.one (.orow 1 2 none)))::L1) (λi=>[.blk 86 (Rp c r0 (M6 ts)),.row false 143 2 (Nt (Bw (ts.take i)))]) (λi=>ts.length-i) (λi=>i<=ts.length) 0 (Qg _) rfl (λ_ _=>rfl) rfl λi hi=>?_
 by_cases hlt:i<ts.length
 ·obtain ⟨m,hm⟩:=gxE (l:=ts) (i:=i) hlt;have hst:=Qsg hm;have hEl:=Qb5 (ts.take i) [];have htk:(ts.take i).length<=1000:=by rw [Qp]; omega
  obtain ⟨G,hG⟩:=nmE (Bw (ts.take i));have hGl:G.length<=3000:=by rw [hG]; unfold Bw; simp only [List.length_nil] at hEl; omega
  rw [<-hG] at hst ⊢;obtain ⟨g,hg⟩:∃ g:Nat->List (Int×Int),g=λk=>([(m.1.id,m.2.1.id),(m.1.id,m.2.2.id),(m.2.1.id,m.2.2.id)].take k).foldl Ex G:=⟨_,rfl⟩
  have g0:g 0=G:=by rw [hg]; rfl
  have g1:g 1=Ex (g 0) (m.1.id,m.2.1.id):=by rw [hg]; rfl
  have g2:g 2=Ex (g 1) (m.1.id,m.2.2.id):=by rw [hg]; rfl
  have g3:g 3=Ex (g 2) (m.2.1.id,m.2.2.id):=by rw [hg]; rfl
  have g4:g 3=Qb6 G m:=by rw [hg]; rfl
  clear hg;have l1:=Ey (g 0) (m.1.id,m.2.1.id);have l2:=Ey (g 1) (m.1.id,m.2.2.id);have l3:=Ey (g 2) (m.2.1.id,m.2.2.id);rw [<-g1] at l1;rw [<-g2] at l2;rw [<-g3] at l3;rw [<-g4] at hst;rw [<-g0] at hGl ⊢;refine go tt [.t (decide_eq_true (by omega)),.x (Qll hm),.i 0,.i 1,.i 0,.i 2,.i 1,.i 2] rfl (by simp [W6]) ?_;refine lp (S:=Nat) 3 (λL1 k=>(34,.v (.one (.int .i64 (k:Int))))::(3,.v (.one (.orow 1 2 none)))::L1) (λk=>[.blk 86 (Rp c r0 (M6 ts)),.row false 143 2 (Nt (g k)),.blk 50 (trL m)]) (λk=>3-k) (λk=>k<=3) 0 (by decide) rfl (λ_ _=>rfl) rfl λk hk=>?_
  rcases (show k=0\/k=1\/k=2\/k=3 by omega) with rfl | rfl | rfl | rfl
  ·obtain ⟨e,he⟩:∃ e:Int×Int,e=(m.1.id,m.2.1.id):=⟨_,rfl⟩;have gs:g 1=Ex (g 0) e:=by rw [he]; exact g1
   have hOl:(g 0).length<=4000:=by omega
   obtain ⟨O,hO⟩:=nmE (g 0);rw [<-hO] at gs hOl ⊢;have e1:m.1.id=e.1:=by rw [he]
   have e2:m.2.1.id=e.2:=by rw [he]
   rw [show Nt O=Nt O from rfl];refine go tt [.t rfl,.i 0] rfl (by simp [W6]) ?_;rw [e1,e2];have hpl:=Qd0 e O;have hol:=Gi O;refine lp (S:=Nat) 4 (λL1 j=>(8,.v (.one (.int .i64 (j:Int))))::L1) (λ_=>[.blk 86 (Rp c r0 (M6 ts)),.row false 143 2 (Nt O),.blk 50 (trL m),.blk 143 (Nk e)]) (λj=>O.length-j) (λj=>j<=O.length/\Bz e (O.drop j)+j=Bz e O) 0 ⟨Qg _,by rw [Xj]; rfl⟩ rfl (λ_ _=>rfl) rfl λj ⟨hj,hp⟩=>?_
   by_cases hjl:j<O.length
   ·obtain ⟨x,hx⟩:=gxE (l:=O) (i:=j) hjl;have hxe:=Qdb hx;by_cases hle:M9 x e=true
    ·have hp':=Qp8 hx hle;by_cases c1:x.1<e.1
     ·refine go tt [.g 41 true (decide_eq_true (by omega)),.i j,.i 0,.x hxe,.i 0,.g 50 true (decide_eq_true c1),.t rfl] rfl (by simp [W6] <;> omega) ?_;exact rd (j+1) (by omega) ⟨hjl,by omega⟩ rfl
     ·have hc:x.1=e.1/\x.2<e.2:=by unfold M9 at hle; simpa [c1] using hle
      refine go tt [.g 41 true (decide_eq_true (by omega)),.i j,.i 0,.x hxe,.i 0,.g 50 false (decide_eq_false c1),.i j,.i 0,.x hxe,.i 0,.g 59 true (decide_eq_true hc.1),.i j,.i 1,.x hxe,.i 1,.t (decide_eq_true hc.2)] rfl (by simp [W6] <;> omega) ?_;exact rd (j+1) (by omega) ⟨hjl,by omega⟩ rfl
    ·have hle:M9 x e=false:=by simpa using hle
     have hp':=Qkw hx hle;have hpj:Bz e O=j:=by omega
     have c1:¬x.1<e.1:=λh=>by unfold M9 at hle; simp [h] at hle
     have out:∀ {Q:Prop},(x.1=e.1->¬x.2<e.2->Q)->(x.1≠e.1->Q)->Q:=λh1 h2=>by
      by_cases h:x.1=e.1
      ·exact h1 h λh'=>by unfold M9 at hle; simp [h,h'] at hle
      ·exact h2 h
     by_cases heq:x=e
     ·have gs':g 1=O:=by rw [gs]; unfold Ex; rw [hpj,hx,heq,if_pos rfl]
      have c2:x.1=e.1:=by rw [heq]
      have c3:¬x.2<e.2:=by rw [heq]; exact Kc _
      refine go tt [.g 41 true (decide_eq_true (by omega)),.i j,.i 0,.x hxe,.i 0,.g 50 false (decide_eq_false c1),.i j,.i 0,.x hxe,.i 0,.g 59 true (decide_eq_true c2),.i j,.i 1,.x hxe,.i 1,.f (decide_eq_false c3),.g 77 true (decide_eq_true (by omega)),.i j,.x hxe,.t (decide_eq_true (by rw [heq]))] rfl (by simp [W6] <;> omega) ?_;exact rd 1 (by omega) (by omega) (by rw [gs']; rfl)
     ·have hne:O[j]? ≠ some e:=λh=>by rw [hx] at h; injection h with h; exact heq h
      have hneL:¬[x.1,x.2]=[e.1,e.2]:=λh=>by simp at h; exact heq (Prod.ext h.1 h.2)
      have hz:∀ y∈[Nk e],y.length=2:=λy hy=>by rw [Qm.1 hy]; rfl
      have h22:∀ y∈Nt O++[Nk e],y.length=2:=λy hy=>by
       rcases Qx.1 hy with hy | hy
       ·exact Qaq O y hy
       ·exact hz y hy
      cases j with
      |
       zero =>
       have fz:=Pg (z:=Nk e) (l2:=(Nt O++[Nk e]).take ((Nt O++[Nk e]).length-0)) (k:=0) (m:=O.length) (by omega) hpj hne (by omega) (by congr 1; exact Qj (by simp));refine out (λc2 c3=>?_) λc2=>?_
       ·refine go tt [.g 41 true (decide_eq_true (by omega)),.i 0,.i 0,.x hxe,.i 0,.g 50 false (decide_eq_false c1),.i 0,.i 0,.x hxe,.i 0,.g 59 true (decide_eq_true c2),.i 0,.i 1,.x hxe,.i 1,.f (decide_eq_false c3),.g 77 true (decide_eq_true (by omega)),.i 0,.x hxe,.f (decide_eq_false hneL),.s (sz:=2) hz,.r 91 (eI (b:=((0+1:Nat):Int)) (by simp)),.i (0+1),.i 0,.s (sz:=2) (λy hy=>h22 y (Ql hy)),.i (O.length),.i 0] rfl (by simp [W6,Gi] <;> omega) ?_;exact rd 1 (by omega) (by omega) (by rw [gs,<-fz]; rfl)
       ·refine go tt [.g 41 true (decide_eq_true (by omega)),.i 0,.i 0,.x hxe,.i 0,.g 50 false (decide_eq_false c1),.i 0,.i 0,.x hxe,.i 0,.g 59 false (decide_eq_false c2),.f rfl,.g 77 true (decide_eq_true (by omega)),.i 0,.x hxe,.f (decide_eq_false hneL),.s (sz:=2) hz,.r 91 (eI (b:=((0+1:Nat):Int)) (by simp)),.i (0+1),.i 0,.s (sz:=2) (λy hy=>h22 y (Ql hy)),.i (O.length),.i 0] rfl (by simp [W6,Gi] <;> omega) ?_;exact rd 1 (by omega) (by omega) (by rw [gs,<-fz]; rfl)
      |
       succ j =>
       have fz:=Pg (z:=Nk e) (l2:=((Nt O++[Nk e]).drop (j+1)).take ((Nt O++[Nk e]).length-(j+1))) (k:=j+1) (m:=O.length-(j+1)) (by omega) hpj hne (by omega) (by congr 1; exact Qj (by simp));refine out (λc2 c3=>?_) λc2=>?_
       ·refine go tt [.g 41 true (decide_eq_true (by omega)),.i (j+1),.i 0,.x hxe,.i 0,.g 50 false (decide_eq_false c1),.i (j+1),.i 0,.x hxe,.i 0,.g 59 true (decide_eq_true c2),.i (j+1),.i 1,.x hxe,.i 1,.f (decide_eq_false c3),.g 77 true (decide_eq_true (by omega)),.i (j+1),.x hxe,.f (decide_eq_false hneL),.s (sz:=2) hz,.r 91 (eI (b:=((j+1+1:Nat):Int)) (by simp)),.i (j+1+1),.i (j+1),.s (sz:=2) (λy hy=>h22 y (Qz (Ql hy))),.i (O.length-(j+1)),.i (j+1)] rfl (by simp [W6,Gi] <;> omega) ?_;exact rd 1 (by omega) (by omega) (by rw [gs,<-fz]; rfl)
       ·refine go tt [.g 41 true (decide_eq_true (by omega)),.i (j+1),.i 0,.x hxe,.i 0,.g 50 false (decide_eq_false c1),.i (j+1),.i 0,.x hxe,.i 0,.g 59 false (decide_eq_false c2),.f rfl,.g 77 true (decide_eq_true (by omega)),.i (j+1),.x hxe,.f (decide_eq_false hneL),.s (sz:=2) hz,.r 91 (eI (b:=((j+1+1:Nat):Int)) (by simp)),.i (j+1+1),.i (j+1),.s (sz:=2) (λy hy=>h22 y (Qz (Ql hy))),.i (O.length-(j+1)),.i (j+1)] rfl (by simp [W6,Gi] <;> omega) ?_;exact rd 1 (by omega) (by omega) (by rw [gs,<-fz]; rfl)
   ·have hpj:Bz e O=j:=by have:=Qkv (e:=e) hjl; omega
    have hne:O[j]? ≠ some e:=λh=>hjl (Qc.1 h).1
    have hz:∀ y∈[Nk e],y.length=2:=λy hy=>by rw [Qm.1 hy]; rfl
    have h22:∀ y∈Nt O++[Nk e],y.length=2:=λy hy=>by
     rcases Qx.1 hy with hy | hy
     ·exact Qaq O y hy
     ·exact hz y hy
    cases j with
    |
     zero =>
     have fz:=Pg (z:=Nk e) (l2:=(Nt O++[Nk e]).take ((Nt O++[Nk e]).length-0)) (k:=0) (m:=O.length) (by omega) hpj hne (by omega) (by congr 1; exact Qj (by simp));refine go tt [.g 41 false (decide_eq_false (by omega)),.f rfl,.g 77 false (decide_eq_false (by omega)),.f rfl,.s (sz:=2) hz,.r 91 (eI (b:=((0+1:Nat):Int)) (by simp)),.i (0+1),.i 0,.s (sz:=2) (λy hy=>h22 y (Ql hy)),.i (O.length),.i 0] rfl (by simp [W6,Gi] <;> omega) ?_;exact rd 1 (by omega) (by omega) (by rw [gs,<-fz]; rfl)
    |
     succ j =>
     have fz:=Pg (z:=Nk e) (l2:=((Nt O++[Nk e]).drop (j+1)).take ((Nt O++[Nk e]).length-(j+1))) (k:=j+1) (m:=O.length-(j+1)) (by omega) hpj hne (by omega) (by congr 1; exact Qj (by simp));refine go tt [.g 41 false (decide_eq_false (by omega)),.f rfl,.g 77 false (decide_eq_false (by omega)),.f rfl,.s (sz:=2) hz,.r 91 (eI (b:=((j+1+1:Nat):Int)) (by simp)),.i (j+1+1),.i (j+1),.s (sz:=2) (λy hy=>h22 y (Qz (Ql hy))),.i (O.length-(j+1)),.i (j+1)] rfl (by simp [W6,Gi] <;> omega) ?_;exact rd 1 (by omega) (by omega) (by rw [gs,<-fz]; rfl)
  ·obtain ⟨e,he⟩:∃ e:Int×Int,e=(m.1.id,m.2.2.id):=⟨_,rfl⟩;have gs:g 2=Ex (g 1) e:=by rw [he]; exact g2
   have hOl:(g 1).length<=4000:=by omega
   obtain ⟨O,hO⟩:=nmE (g 1);rw [<-hO] at gs hOl ⊢;have e1:m.1.id=e.1:=by rw [he]
   have e2:m.2.2.id=e.2:=by rw [he]
   rw [show Nt O=Nt O from rfl];refine go tt [.t rfl,.i 1] rfl (by simp [W6]) ?_;rw [e1,e2];have hpl:=Qd0 e O;have hol:=Gi O;refine lp (S:=Nat) 4 (λL1 j=>(8,.v (.one (.int .i64 (j:Int))))::L1) (λ_=>[.blk 86 (Rp c r0 (M6 ts)),.row false 143 2 (Nt O),.blk 50 (trL m),.blk 143 (Nk e)]) (λj=>O.length-j) (λj=>j<=O.length/\Bz e (O.drop j)+j=Bz e O) 0 ⟨Qg _,by rw [Xj]; rfl⟩ rfl (λ_ _=>rfl) rfl λj ⟨hj,hp⟩=>?_
   by_cases hjl:j<O.length
   ·obtain ⟨x,hx⟩:=gxE (l:=O) (i:=j) hjl;have hxe:=Qdb hx;by_cases hle:M9 x e=true
    ·have hp':=Qp8 hx hle;by_cases c1:x.1<e.1
     ·refine go tt [.g 41 true (decide_eq_true (by omega)),.i j,.i 0,.x hxe,.i 0,.g 50 true (decide_eq_true c1),.t rfl] rfl (by simp [W6] <;> omega) ?_;exact rd (j+1) (by omega) ⟨hjl,by omega⟩ rfl
     ·have hc:x.1=e.1/\x.2<e.2:=by unfold M9 at hle; simpa [c1] using hle
      refine go tt [.g 41 true (decide_eq_true (by omega)),.i j,.i 0,.x hxe,.i 0,.g 50 false (decide_eq_false c1),.i j,.i 0,.x hxe,.i 0,.g 59 true (decide_eq_true hc.1),.i j,.i 1,.x hxe,.i 1,.t (decide_eq_true hc.2)] rfl (by simp [W6] <;> omega) ?_;exact rd (j+1) (by omega) ⟨hjl,by omega⟩ rfl
    ·have hle:M9 x e=false:=by simpa using hle
     have hp':=Qkw hx hle;have hpj:Bz e O=j:=by omega
     have c1:¬x.1<e.1:=λh=>by unfold M9 at hle; simp [h] at hle
     have out:∀ {Q:Prop},(x.1=e.1->¬x.2<e.2->Q)->(x.1≠e.1->Q)->Q:=λh1 h2=>by
      by_cases h:x.1=e.1
      ·exact h1 h λh'=>by unfold M9 at hle; simp [h,h'] at hle
      ·exact h2 h
     by_cases heq:x=e
     ·have gs':g 2=O:=by rw [gs]; unfold Ex; rw [hpj,hx,heq,if_pos rfl]
      have c2:x.1=e.1:=by rw [heq]
      have c3:¬x.2<e.2:=by rw [heq]; exact Kc _
      refine go tt [.g 41 true (decide_eq_true (by omega)),.i j,.i 0,.x hxe,.i 0,.g 50 false (decide_eq_false c1),.i j,.i 0,.x hxe,.i 0,.g 59 true (decide_eq_true c2),.i j,.i 1,.x hxe,.i 1,.f (decide_eq_false c3),.g 77 true (decide_eq_true (by omega)),.i j,.x hxe,.t (decide_eq_true (by rw [heq]))] rfl (by simp [W6] <;> omega) ?_;exact rd 2 (by omega) (by omega) (by rw [gs']; rfl)
     ·have hne:O[j]? ≠ some e:=λh=>by rw [hx] at h; injection h with h; exact heq h
      have hneL:¬[x.1,x.2]=[e.1,e.2]:=λh=>by simp at h; exact heq (Prod.ext h.1 h.2)
      have hz:∀ y∈[Nk e],y.length=2:=λy hy=>by rw [Qm.1 hy]; rfl
      have h22:∀ y∈Nt O++[Nk e],y.length=2:=λy hy=>by
       rcases Qx.1 hy with hy | hy
       ·exact Qaq O y hy
       ·exact hz y hy
      cases j with
      |
       zero =>
       have fz:=Pg (z:=Nk e) (l2:=(Nt O++[Nk e]).take ((Nt O++[Nk e]).length-0)) (k:=0) (m:=O.length) (by omega) hpj hne (by omega) (by congr 1; exact Qj (by simp));refine out (λc2 c3=>?_) λc2=>?_
       ·refine go tt [.g 41 true (decide_eq_true (by omega)),.i 0,.i 0,.x hxe,.i 0,.g 50 false (decide_eq_false c1),.i 0,.i 0,.x hxe,.i 0,.g 59 true (decide_eq_true c2),.i 0,.i 1,.x hxe,.i 1,.f (decide_eq_false c3),.g 77 true (decide_eq_true (by omega)),.i 0,.x hxe,.f (decide_eq_false hneL),.s (sz:=2) hz,.r 91 (eI (b:=((0+1:Nat):Int)) (by simp)),.i (0+1),.i 0,.s (sz:=2) (λy hy=>h22 y (Ql hy)),.i (O.length),.i 0] rfl (by simp [W6,Gi] <;> omega) ?_;exact rd 2 (by omega) (by omega) (by rw [gs,<-fz]; rfl)
       ·refine go tt [.g 41 true (decide_eq_true (by omega)),.i 0,.i 0,.x hxe,.i 0,.g 50 false (decide_eq_false c1),.i 0,.i 0,.x hxe,.i 0,.g 59 false (decide_eq_false c2),.f rfl,.g 77 true (decide_eq_true (by omega)),.i 0,.x hxe,.f (decide_eq_false hneL),.s (sz:=2) hz,.r 91 (eI (b:=((0+1:Nat):Int)) (by simp)),.i (0+1),.i 0,.s (sz:=2) (λy hy=>h22 y (Ql hy)),.i (O.length),.i 0] rfl (by simp [W6,Gi] <;> omega) ?_;exact rd 2 (by omega) (by omega) (by rw [gs,<-fz]; rfl)
      |
       succ j =>
       have fz:=Pg (z:=Nk e) (l2:=((Nt O++[Nk e]).drop (j+1)).take ((Nt O++[Nk e]).length-(j+1))) (k:=j+1) (m:=O.length-(j+1)) (by omega) hpj hne (by omega) (by congr 1; exact Qj (by simp));refine out (λc2 c3=>?_) λc2=>?_
       ·refine go tt [.g 41 true (decide_eq_true (by omega)),.i (j+1),.i 0,.x hxe,.i 0,.g 50 false (decide_eq_false c1),.i (j+1),.i 0,.x hxe,.i 0,.g 59 true (decide_eq_true c2),.i (j+1),.i 1,.x hxe,.i 1,.f (decide_eq_false c3),.g 77 true (decide_eq_true (by omega)),.i (j+1),.x hxe,.f (decide_eq_false hneL),.s (sz:=2) hz,.r 91 (eI (b:=((j+1+1:Nat):Int)) (by simp)),.i (j+1+1),.i (j+1),.s (sz:=2) (λy hy=>h22 y (Qz (Ql hy))),.i (O.length-(j+1)),.i (j+1)] rfl (by simp [W6,Gi] <;> omega) ?_;exact rd 2 (by omega) (by omega) (by rw [gs,<-fz]; rfl)
       ·refine go tt [.g 41 true (decide_eq_true (by omega)),.i (j+1),.i 0,.x hxe,.i 0,.g 50 false (decide_eq_false c1),.i (j+1),.i 0,.x hxe,.i 0,.g 59 false (decide_eq_false c2),.f rfl,.g 77 true (decide_eq_true (by omega)),.i (j+1),.x hxe,.f (decide_eq_false hneL),.s (sz:=2) hz,.r 91 (eI (b:=((j+1+1:Nat):Int)) (by simp)),.i (j+1+1),.i (j+1),.s (sz:=2) (λy hy=>h22 y (Qz (Ql hy))),.i (O.length-(j+1)),.i (j+1)] rfl (by simp [W6,Gi] <;> omega) ?_;exact rd 2 (by omega) (by omega) (by rw [gs,<-fz]; rfl)
   ·have hpj:Bz e O=j:=by have:=Qkv (e:=e) hjl; omega
    have hne:O[j]? ≠ some e:=λh=>hjl (Qc.1 h).1
    have hz:∀ y∈[Nk e],y.length=2:=λy hy=>by rw [Qm.1 hy]; rfl
    have h22:∀ y∈Nt O++[Nk e],y.length=2:=λy hy=>by
     rcases Qx.1 hy with hy | hy
     ·exact Qaq O y hy
     ·exact hz y hy
    cases j with
    |
     zero =>
     have fz:=Pg (z:=Nk e) (l2:=(Nt O++[Nk e]).take ((Nt O++[Nk e]).length-0)) (k:=0) (m:=O.length) (by omega) hpj hne (by omega) (by congr 1; exact Qj (by simp));refine go tt [.g 41 false (decide_eq_false (by omega)),.f rfl,.g 77 false (decide_eq_false (by omega)),.f rfl,.s (sz:=2) hz,.r 91 (eI (b:=((0+1:Nat):Int)) (by simp)),.i (0+1),.i 0,.s (sz:=2) (λy hy=>h22 y (Ql hy)),.i (O.length),.i 0] rfl (by simp [W6,Gi] <;> omega) ?_;exact rd 2 (by omega) (by omega) (by rw [gs,<-fz]; rfl)
    |
     succ j =>
     have fz:=Pg (z:=Nk e) (l2:=((Nt O++[Nk e]).drop (j+1)).take ((Nt O++[Nk e]).length-(j+1))) (k:=j+1) (m:=O.length-(j+1)) (by omega) hpj hne (by omega) (by congr 1; exact Qj (by simp));refine go tt [.g 41 false (decide_eq_false (by omega)),.f rfl,.g 77 false (decide_eq_false (by omega)),.f rfl,.s (sz:=2) hz,.r 91 (eI (b:=((j+1+1:Nat):Int)) (by simp)),.i (j+1+1),.i (j+1),.s (sz:=2) (λy hy=>h22 y (Qz (Ql hy))),.i (O.length-(j+1)),.i (j+1)] rfl (by simp [W6,Gi] <;> omega) ?_;exact rd 2 (by omega) (by omega) (by rw [gs,<-fz]; rfl)
  ·obtain ⟨e,he⟩:∃ e:Int×Int,e=(m.2.1.id,m.2.2.id):=⟨_,rfl⟩;have gs:g 3=Ex (g 2) e:=by rw [he]; exact g3
   have hOl:(g 2).length<=4000:=by omega
   obtain ⟨O,hO⟩:=nmE (g 2);rw [<-hO] at gs hOl ⊢;have e1:m.2.1.id=e.1:=by rw [he]
   have e2:m.2.2.id=e.2:=by rw [he]
   rw [show Nt O=Nt O from rfl];refine go tt [.t rfl,.i 2] rfl (by simp [W6]) ?_;rw [e1,e2];have hpl:=Qd0 e O;have hol:=Gi O;refine lp (S:=Nat) 4 (λL1 j=>(8,.v (.one (.int .i64 (j:Int))))::L1) (λ_=>[.blk 86 (Rp c r0 (M6 ts)),.row false 143 2 (Nt O),.blk 50 (trL m),.blk 143 (Nk e)]) (λj=>O.length-j) (λj=>j<=O.length/\Bz e (O.drop j)+j=Bz e O) 0 ⟨Qg _,by rw [Xj]; rfl⟩ rfl (λ_ _=>rfl) rfl λj ⟨hj,hp⟩=>?_
   by_cases hjl:j<O.length
   ·obtain ⟨x,hx⟩:=gxE (l:=O) (i:=j) hjl;have hxe:=Qdb hx;by_cases hle:M9 x e=true
    ·have hp':=Qp8 hx hle;by_cases c1:x.1<e.1
     ·refine go tt [.g 41 true (decide_eq_true (by omega)),.i j,.i 0,.x hxe,.i 0,.g 50 true (decide_eq_true c1),.t rfl] rfl (by simp [W6] <;> omega) ?_;exact rd (j+1) (by omega) ⟨hjl,by omega⟩ rfl
     ·have hc:x.1=e.1/\x.2<e.2:=by unfold M9 at hle; simpa [c1] using hle
      refine go tt [.g 41 true (decide_eq_true (by omega)),.i j,.i 0,.x hxe,.i 0,.g 50 false (decide_eq_false c1),.i j,.i 0,.x hxe,.i 0,.g 59 true (decide_eq_true hc.1),.i j,.i 1,.x hxe,.i 1,.t (decide_eq_true hc.2)] rfl (by simp [W6] <;> omega) ?_;exact rd (j+1) (by omega) ⟨hjl,by omega⟩ rfl
    ·have hle:M9 x e=false:=by simpa using hle
     have hp':=Qkw hx hle;have hpj:Bz e O=j:=by omega
     have c1:¬x.1<e.1:=λh=>by unfold M9 at hle; simp [h] at hle
     have out:∀ {Q:Prop},(x.1=e.1->¬x.2<e.2->Q)->(x.1≠e.1->Q)->Q:=λh1 h2=>by
      by_cases h:x.1=e.1
      ·exact h1 h λh'=>by unfold M9 at hle; simp [h,h'] at hle
      ·exact h2 h
     by_cases heq:x=e
     ·have gs':g 3=O:=by rw [gs]; unfold Ex; rw [hpj,hx,heq,if_pos rfl]
      have c2:x.1=e.1:=by rw [heq]
      have c3:¬x.2<e.2:=by rw [heq]; exact Kc _
      refine go tt [.g 41 true (decide_eq_true (by omega)),.i j,.i 0,.x hxe,.i 0,.g 50 false (decide_eq_false c1),.i j,.i 0,.x hxe,.i 0,.g 59 true (decide_eq_true c2),.i j,.i 1,.x hxe,.i 1,.f (decide_eq_false c3),.g 77 true (decide_eq_true (by omega)),.i j,.x hxe,.t (decide_eq_true (by rw [heq]))] rfl (by simp [W6] <;> omega) ?_;exact rd 3 (by omega) (by omega) (by rw [gs']; rfl)
     ·have hne:O[j]? ≠ some e:=λh=>by rw [hx] at h; injection h with h; exact heq h
      have hneL:¬[x.1,x.2]=[e.1,e.2]:=λh=>by simp at h; exact heq (Prod.ext h.1 h.2)
      have hz:∀ y∈[Nk e],y.length=2:=λy hy=>by rw [Qm.1 hy]; rfl
      have h22:∀ y∈Nt O++[Nk e],y.length=2:=λy hy=>by
       rcases Qx.1 hy with hy | hy
       ·exact Qaq O y hy
       ·exact hz y hy
      cases j with
      |
       zero =>
       have fz:=Pg (z:=Nk e) (l2:=(Nt O++[Nk e]).take ((Nt O++[Nk e]).length-0)) (k:=0) (m:=O.length) (by omega) hpj hne (by omega) (by congr 1; exact Qj (by simp));refine out (λc2 c3=>?_) λc2=>?_
       ·refine go tt [.g 41 true (decide_eq_true (by omega)),.i 0,.i 0,.x hxe,.i 0,.g 50 false (decide_eq_false c1),.i 0,.i 0,.x hxe,.i 0,.g 59 true (decide_eq_true c2),.i 0,.i 1,.x hxe,.i 1,.f (decide_eq_false c3),.g 77 true (decide_eq_true (by omega)),.i 0,.x hxe,.f (decide_eq_false hneL),.s (sz:=2) hz,.r 91 (eI (b:=((0+1:Nat):Int)) (by simp)),.i (0+1),.i 0,.s (sz:=2) (λy hy=>h22 y (Ql hy)),.i (O.length),.i 0] rfl (by simp [W6,Gi] <;> omega) ?_;exact rd 3 (by omega) (by omega) (by rw [gs,<-fz]; rfl)
       ·refine go tt [.g 41 true (decide_eq_true (by omega)),.i 0,.i 0,.x hxe,.i 0,.g 50 false (decide_eq_false c1),.i 0,.i 0,.x hxe,.i 0,.g 59 false (decide_eq_false c2),.f rfl,.g 77 true (decide_eq_true (by omega)),.i 0,.x hxe,.f (decide_eq_false hneL),.s (sz:=2) hz,.r 91 (eI (b:=((0+1:Nat):Int)) (by simp)),.i (0+1),.i 0,.s (sz:=2) (λy hy=>h22 y (Ql hy)),.i (O.length),.i 0] rfl (by simp [W6,Gi] <;> omega) ?_;exact rd 3 (by omega) (by omega) (by rw [gs,<-fz]; rfl)
      |
       succ j =>
       have fz:=Pg (z:=Nk e) (l2:=((Nt O++[Nk e]).drop (j+1)).take ((Nt O++[Nk e]).length-(j+1))) (k:=j+1) (m:=O.length-(j+1)) (by omega) hpj hne (by omega) (by congr 1; exact Qj (by simp));refine out (λc2 c3=>?_) λc2=>?_
       ·refine go tt [.g 41 true (decide_eq_true (by omega)),.i (j+1),.i 0,.x hxe,.i 0,.g 50 false (decide_eq_false c1),.i (j+1),.i 0,.x hxe,.i 0,.g 59 true (decide_eq_true c2),.i (j+1),.i 1,.x hxe,.i 1,.f (decide_eq_false c3),.g 77 true (decide_eq_true (by omega)),.i (j+1),.x hxe,.f (decide_eq_false hneL),.s (sz:=2) hz,.r 91 (eI (b:=((j+1+1:Nat):Int)) (by simp)),.i (j+1+1),.i (j+1),.s (sz:=2) (λy hy=>h22 y (Qz (Ql hy))),.i (O.length-(j+1)),.i (j+1)] rfl (by simp [W6,Gi] <;> omega) ?_;exact rd 3 (by omega) (by omega) (by rw [gs,<-fz]; rfl)
       ·refine go tt [.g 41 true (decide_eq_true (by omega)),.i (j+1),.i 0,.x hxe,.i 0,.g 50 false (decide_eq_false c1),.i (j+1),.i 0,.x hxe,.i 0,.g 59 false (decide_eq_false c2),.f rfl,.g 77 true (decide_eq_true (by omega)),.i (j+1),.x hxe,.f (decide_eq_false hneL),.s (sz:=2) hz,.r 91 (eI (b:=((j+1+1:Nat):Int)) (by simp)),.i (j+1+1),.i (j+1),.s (sz:=2) (λy hy=>h22 y (Qz (Ql hy))),.i (O.length-(j+1)),.i (j+1)] rfl (by simp [W6,Gi] <;> omega) ?_;exact rd 3 (by omega) (by omega) (by rw [gs,<-fz]; rfl)
   ·have hpj:Bz e O=j:=by have:=Qkv (e:=e) hjl; omega
    have hne:O[j]? ≠ some e:=λh=>hjl (Qc.1 h).1
    have hz:∀ y∈[Nk e],y.length=2:=λy hy=>by rw [Qm.1 hy]; rfl
    have h22:∀ y∈Nt O++[Nk e],y.length=2:=λy hy=>by
     rcases Qx.1 hy with hy | hy
     ·exact Qaq O y hy
     ·exact hz y hy
    cases j with
    |
     zero =>
     have fz:=Pg (z:=Nk e) (l2:=(Nt O++[Nk e]).take ((Nt O++[Nk e]).length-0)) (k:=0) (m:=O.length) (by omega) hpj hne (by omega) (by congr 1; exact Qj (by simp));refine go tt [.g 41 false (decide_eq_false (by omega)),.f rfl,.g 77 false (decide_eq_false (by omega)),.f rfl,.s (sz:=2) hz,.r 91 (eI (b:=((0+1:Nat):Int)) (by simp)),.i (0+1),.i 0,.s (sz:=2) (λy hy=>h22 y (Ql hy)),.i (O.length),.i 0] rfl (by simp [W6,Gi] <;> omega) ?_;exact rd 3 (by omega) (by omega) (by rw [gs,<-fz]; rfl)
    |
     succ j =>
     have fz:=Pg (z:=Nk e) (l2:=((Nt O++[Nk e]).drop (j+1)).take ((Nt O++[Nk e]).length-(j+1))) (k:=j+1) (m:=O.length-(j+1)) (by omega) hpj hne (by omega) (by congr 1; exact Qj (by simp));refine go tt [.g 41 false (decide_eq_false (by omega)),.f rfl,.g 77 false (decide_eq_false (by omega)),.f rfl,.s (sz:=2) hz,.r 91 (eI (b:=((j+1+1:Nat):Int)) (by simp)),.i (j+1+1),.i (j+1),.s (sz:=2) (λy hy=>h22 y (Qz (Ql hy))),.i (O.length-(j+1)),.i (j+1)] rfl (by simp [W6,Gi] <;> omega) ?_;exact rd 3 (by omega) (by omega) (by rw [gs,<-fz]; rfl)
  ·refine go tt [.f rfl] rfl (by simp [W6] <;> omega) ?_;exact rd (i+1) (by omega) hlt (by rw [hst]; rfl)
 ·obtain rfl:i=ts.length:=by omega
  rw [Q4];exact ed tt [1] [0] [.f (decide_eq_false (by omega))] rfl trivial
theorem Zda {l:List Nat} (hl:l.length<=1000000000):W8 Tryz.prog 175 [.one (.row (lm l)),.one (.row (lm l))] [.one (.bool true)]:=by
 have hll:(lm l).length=l.length:=by simp [lm]
 refine Fv Tryz.func175 rfl ?_;refine go tt [.f (decide_eq_false (λh=>h rfl))] rfl trivial ?_;refine lp (S:=Nat) 0 (λL1 i=>(5,.v (.one (.int .i64 (i:Int))))::L1) (λ_=>[]) (λi=>l.length-i) (λi=>i<=l.length) 0 (Qg _) rfl (λ_ _=>rfl) rfl λi hi=>?_
 by_cases h:i<l.length
 ·have hx:(lm l)[i]? = some [.int .u32 ((l[i]:Nat):Int)]:=Ff (Qe h);refine go tt [.t (decide_eq_true (by omega)),.x hx,.x hx,.f (decide_eq_false (λh=>h rfl))] rfl (by simp [W6]; omega) ?_;exact rd (i+1) (by omega) h rfl
 ·exact en tt [.f (decide_eq_false (by omega))] rfl rfl trivial
theorem Zc7 {z:Int} (hz:Uh z<=4294967295):W8 Tryz.prog 124 [.agg (Fi z),.agg (Fi z)] [.one (.bool true)] :=
 w tt Tryz.func124 rfl [.g 10 true (decide_eq_true rfl),.c [] (Zda (l:=Up z.natAbs) (by have:=Hd (x:=z.natAbs) (k:=4294967295) hz; omega))] rfl rfl trivial
theorem Zc8 {p:List Int} (hp:Bd 4294967295 p) (hl:p.length<=1000000):W8 Tryz.prog 65 [pr p,pr p] [.one (.bool true)]:=by
 have hpl:(p.map Fi).length=p.length:=by simp
 show W8 Tryz.prog 65 [.one (.row (p.map Fi)),.one (.row (p.map Fi))] _;refine Fv Tryz.func65 rfl ?_;refine go tt [.f (decide_eq_false (λh=>h rfl))] rfl trivial ?_;refine lp (S:=Nat) 0 (λL1 i=>(13,.v (.one (.int .i64 (i:Int))))::L1) (λ_=>[]) (λi=>p.length-i) (λi=>i<=p.length) 0 (Qg _) rfl (λ_ _=>rfl) rfl λi hi=>?_
 by_cases h:i<p.length
 ·have hx:=Ru (Gy h);refine go tt [.t (decide_eq_true (by omega)),.x hx,.x hx,.c [] (Zc7 (Ul hp i)),.f rfl] rfl (by simp [W6]; omega) ?_;exact rd (i+1) (by omega) h rfl
 ·exact en tt [.f (decide_eq_false (by omega))] rfl rfl trivial
theorem Q6b {l:List Ct} (hl:∀ c∈l,Cp c.p) (hn:l.length≤1000000):W8 Tryz.prog 24 [.one (.row (Ur l)),.one (.row (Ur l))] [.one (.bool true)]:=by
 have hcl:=Mh l;refine Fv Tryz.func24 rfl ?_;refine go tt [.f (decide_eq_false (λh=>h rfl))] rfl trivial ?_;refine lp (S:=Nat) 0 (λL1 i=>(13,.v (.one (.int .i64 (i:Int))))::L1) (λ_=>[]) (λi=>l.length-i) (λi=>i<=l.length) 0 (Qg _) rfl (λ_ _=>rfl) rfl λi hi=>?_
 by_cases h:i<l.length
 ·obtain ⟨c,hc⟩:=gxE (l:=l) (i:=i) h;have hx:=Qe9 hc;have hp:=hl c (Qa hc);refine go tt [.t (decide_eq_true (by omega)),.x hx,.x hx,.g 27 false (by simp),.x hx,.x hx,.g 40 false (by simp),.x hx,.x hx,.c [] (Zc8 (W7 hp.b (by decide)) (by have:=hp.l; omega)),.f rfl] rfl (by simp [W6]; omega) ?_;exact rd (i+1) (by omega) h rfl
 ·exact en tt [.f (decide_eq_false (by omega))] rfl rfl trivial
end Orr
