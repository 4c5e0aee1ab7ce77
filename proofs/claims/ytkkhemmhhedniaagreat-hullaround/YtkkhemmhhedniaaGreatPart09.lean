/- R22 HullG TurnL HullQ HullS H2 H3 R23 R24 R25 HullT H4 SD1 SC1 NewsN W1 W2 WR18 WS18 X20 B20 TouL TouQ RiseL AscL HLineL A20 HAroL R26 Z1 Z2 Z3 Z4 Z5 Z6 Z7 HAro2 WL20 -/
import Derived.Test.YtkkhemmhhedniaaGreatPart08
import Derived.Test.YtkkhemmhhedniaaGreatPart00
import Derived.Test.YtkkhemmhhedniaaGreatPart06
import Derived.Test.YtkkhemmhhedniaaGreatPart07
import Derived.Test.YtkkhemmhhedniaaGreatPart04
import Derived.Test.YtkkhemmhhedniaaGreatPart05
set_option linter.all false
namespace Orr
open Go Go.Proofs Orq
set_option maxRecDepth 10000
abbrev zrw (r:List (List Int)):List (List LV):=r.map λp=>[rp (zp p)]
def zmt (M:List (List (List Int))):List (List LV):=M.map λr=>[.row (zrw r)]
theorem Qq3 (M:List (List (List Int))):(zmt M).length=M.length:=by simp [zmt]
theorem Qq6 {r:List (List Int)} {i:Nat} {p:List Int} (h:r[i]? = some p):(zrw r)[i]? = some [rp (zp p)]:=Ho h
theorem Qik {l:List (List (List Int))} {i:Nat} {r:List (List Int)} (h:l[i]? = some r):(zmt l)[i]? = some [.row (zrw r)]:=Ho h
theorem Qv1 {α:Type} {R:List α} {j k:Nat} {x:α} (h:R[j]? = some x):(R.take (j+1)).eraseIdx k=if j=k then (R.take j).eraseIdx k else (R.take j).eraseIdx k++[x]:=by
 have hj:=(Qc.1 h).1;have hl:(R.take j).length=j:=by rw [Qr]; omega
 rw [Zw,h,Vq];rcases Vy k j with hk | hk | hk
 ·rw [if_neg (by omega),List.eraseIdx_append_of_lt_length (by omega)]
 ·subst hk;rw [if_pos rfl,Kv (by omega),hl,Jn,Kb (l:=R.take k) (by omega)];show R.take k++[]=_;rw [Zy]
 ·rw [if_neg (by omega),Kv (by omega),hl,Kb (l:=[x]) (by simp; omega),Kb (by omega)]
def G6 (M:List (List (List Int))) (k:Nat):List (List (List Int)):=(M.drop 1).map (·.eraseIdx k)
theorem Qs1 {M:List (List (List Int))} {i k:Nat} {R:List (List Int)} (h:M[i]? = some R) (h0:0<i):G6 (M.take (i+1)) k=G6 (M.take i) k++[R.eraseIdx k]:=by
 have hi:=(Qc.1 h).1;unfold G6;rw [Zw,h,Vq,Vv (by rw [Qr]; omega),Yi]; rfl
theorem Qwo {M:List (List (List Int))} {i k:Nat} (hi:i<=M.length):(G6 (M.take i) k).length=i-1:=by
 unfold G6; rw [List.length_map,List.length_drop,List.length_take]; omega
theorem Q5y {M:List (List (List Int))} {k:Nat} (hn:M.length≤100) (hM:∀ R∈M,R.length≤100):Uw Tryz.prog 142 [.one (.row (zmt M)),.one (.int .i64 0),.one (.int .i64 (k:Int))] [.one (.row (zmt (G6 M k)))]:=by
 have hrl:=Qq3 M;refine Hn Tryz.func142 rfl ?_;refine go tt [.o 7 29 1] rfl trivial ?_;refine lp (S:=Nat) 1 (λL1 i=>(13,.v (.one (.int .i64 (i:Int))))::(7,.v (.one (.orow 0 1 none)))::L1) (λi=>[.row false 29 1 (zmt (G6 (M.take i) k))]) (λi=>M.length-i) (λi=>i<=M.length) 0 (Qg _) rfl (λ_ _=>rfl) rfl λi hi=>?_
 have hml:(zmt (G6 (M.take i) k)).length=i-1:=by rw [Qq3,Qwo hi]
 by_cases hlt:i<M.length
 ·obtain ⟨r,hr⟩:=gxE (l:=M) (i:=i) hlt;have hm:=hM r (Qa hr);have hql:(zrw r).length=r.length:=by simp
  by_cases h0:i=0
  ·subst h0;have e:G6 (M.take 1) k=G6 (M.take 0) k:=by unfold G6; simp
   refine go tt [.t (decide_eq_true (by omega)),.t rfl] rfl (by simp [Uu]) ?_;exact rd 1 (by omega) hlt (by rw [e]; rfl)
  ·have e:=Qs1 (k:=k) hr (by omega);refine go tt [.t (decide_eq_true (by omega)),.f (decide_eq_false (by omega)),.o 9 28 1,.x (Qik hr)] rfl (by simp [Uu] <;> omega) ?_;refine lp (S:=Nat) 2 (λL1 c=>(24,.v (.one (.int .i64 (c:Int))))::(9,.v (.one (.orow 1 1 none)))::L1) (λc=>[.row false 29 1 (zmt (G6 (M.take i) k)),.row false 28 1 (zrw ((r.take c).eraseIdx k))]) (λc=>r.length-c) (λc=>c<=r.length) 0 (Qg _) rfl (λ_ _=>rfl) rfl λc hc=>?_
   have hzl:((r.take c).eraseIdx k).length<=c:=by
    exact Qd (List.eraseIdx_sublist ..).length_le (by rw [Qr]; omega)
   by_cases hcl:c<r.length
   ·obtain ⟨p,hp⟩:=gxE (l:=r) (i:=c) hcl;have e2:=Qv1 (k:=k) hp;by_cases hck:c=k
    ·rw [if_pos hck] at e2;refine go tt [.t (decide_eq_true (by omega)),.f (decide_eq_false (by omega))] rfl (by simp [Uu] <;> omega) ?_;exact rd (c+1) (by omega) hcl (by rw [e2]; rfl)
    ·rw [if_neg hck] at e2;have hs1:∀ y∈[[rp (zp p)]],y.length=1:=λy hy=>by rw [Qj.1 hy]; rfl
     refine go tt [.t (decide_eq_true (by omega)),.t (decide_eq_true (by omega)),.x (Qik hr),.x (Qq6 hp),.s (sz:=1) hs1] rfl (by simp [Uu] <;> omega) ?_;exact rd (c+1) (by omega) hcl (by rw [e2]; simp [zrw]; rfl)
   ·obtain rfl:c=r.length:=by omega
    rw [Q0];have hs1:∀ y∈[[LV.row (zrw (r.eraseIdx k))]],y.length=1:=λy hy=>by rw [Qj.1 hy]; rfl
    refine go tt [.f (decide_eq_false (by omega))] rfl trivial ?_;refine gz 1 rfl rfl ?_;refine go tt [.s (sz:=1) hs1] rfl (by simp [Uu] <;> omega) ?_;exact rd (i+1) (by omega) hlt (by rw [e]; simp [zmt]; rfl)
 ·obtain rfl:i=M.length:=by omega
  rw [Q0];exact en tt [.f (decide_eq_false (by omega))] rfl rfl trivial
def Qbv (k:Nat) (p:List Int):List Int:=if k % 2=1 then S5 p else p
def D9 (f:List (List (List Int))->List Int) (M:List (List (List Int))):Nat->List Int
 | 0=>[]
 | k+1=>Bv (D9 f M k) (Qbv k (Fu ((M.getD 0 []).getD k []) (f (G6 M k))))
def Ls:Nat->List (List (List Int))->List Int
 | 0,_=>[1]
 | n+1,M=>D9 (Ls n) M (n+1)
structure SqR (s:Nat) (ds:List Nat) (M:List (List (List Int))):Prop where
 l:M.length=ds.length
 w:∀ r∈M,r.length=ds.length
 b:∀ r∈M,∀ p∈r,Bd s p
 n:∀ r∈M,∀ (j:Nat) (p:List Int),r[j]? = some p->p.length≤ds.getD j 0+1
theorem D3:∀ {ds:List Nat} {k:Nat},k<ds.length->(ds.eraseIdx k).sum+ds.getD k 0=ds.sum
 | [],_,h=>by simp at h
 | d::ds,0,_=>by simp [Jm]
 |
  d::ds,k+1,h=>by
  have:=D3 (ds:=ds) (k:=k) (by simpa using h);simp only [List.eraseIdx_cons_succ,Kc,Q3];omega
theorem SqR.minor {s:Nat} {ds:List Nat} {M:List (List (List Int))} (h:SqR s ds M) {k:Nat} (hk:k<ds.length):SqR s (ds.eraseIdx k) (G6 M k):=by
 have hl:=h.l;unfold G6;refine ⟨by rw [Zc,Xt,Jk hk]; omega,λr hr=>?_,λr hr p hp=>?_,λr hr j p hp=>?_⟩
 all_goals obtain ⟨q,hq,rfl⟩:=Zx.1 hr
 all_goals have hq:=Ze hq
 ·rw [Jk (by rw [h.w q hq]; exact hk),Jk hk,h.w q hq]
 ·exact h.b q hq p (List.mem_of_mem_eraseIdx hp)
 ·rw [List.getElem?_eraseIdx] at hp;rw [Qf,List.getElem?_eraseIdx]
  split at hp <;> rename_i hj
  ·rw [if_pos hj,<-Qf]; exact h.n q hq j p hp
  ·rw [if_neg hj,<-Qf]; exact h.n q hq (j+1) p hp
theorem SqR.at {s:Nat} {ds:List Nat} {M:List (List (List Int))} (h:SqR s ds M) {k:Nat} (hk:k<ds.length):∃ r p,M[0]? = some r/\r[k]? = some p/\(M.getD 0 []).getD k []=p/\Bd s p/\p.length<=ds.getD k 0+1:=by
 obtain ⟨r,hr⟩:=gxE (l:=M) (i:=0) (by rw [h.l]; omega);have hm:=Qa hr;obtain ⟨p,hp⟩:=gxE (l:=r) (i:=k) (by rw [h.w r hm]; exact hk);refine ⟨r,p,hr,hp,?_,h.b r hm p (Qa hp),h.n r hm k p hp⟩;rw [Qf (l:=M),hr,V8,Qf,hp]; rfl
theorem Zet {k s:Nat} {p:List Int} (h:Bd s p):Bd s (Qbv k p):=by
 unfold Qbv; split
 ·exact Qav h
 ·exact h
theorem Q9z (k:Nat) (p:List Int):(Qbv k p).length<=p.length:=by
 unfold Qbv; split
 ·exact Lf _
 ·exact Qi _
theorem Qi7 {s B:Nat} {ds:List Nat} {f:List (List (List Int))->List Int} {M:List (List (List Int))} (h:SqR s ds M) (hs:ds.sum<64) (hf:∀ k,k<ds.length->Bd B (f (G6 M k))/\(f (G6 M k)).length<=(ds.eraseIdx k).sum+1):∀ i,i<=ds.length->Bd (s+B+7+i) (D9 f M i)/\(D9 f M i).length<=ds.sum+1
 | 0,_=>⟨λz hz=>(by cases hz),Qg _⟩
 |
  i+1,hi=>by
  obtain ⟨h2,h3⟩:=Qi7 h hs hf i (by omega);obtain ⟨r,p,_,_,e,b,l⟩:=h.at (k:=i) (by omega);obtain ⟨f1,f2⟩:=hf i (by omega);have hd:=D3 (ds:=ds) (k:=i) (by omega);have hp1:Bd (s+B+7) (Fu p (f (G6 M i))):=Qc2 b f1 (Xa l (by omega));have hp2:=O5 p (f (G6 M i));have hp3:=Q9z i (Fu p (f (G6 M i)));simp only [D9];rw [e];exact ⟨Uv (Qob h2 (Zet hp1)) (by omega),Qd (Qj6 _ _) (by omega)⟩
theorem Qow {s:Nat}:∀ (n:Nat) (ds:List Nat) (M:List (List (List Int))),ds.length=n->ds.sum<64->SqR s ds M->Bd (n*(s+20)+1) (Ls n M)/\(Ls n M).length<=ds.sum+1/\n<=9\/9<n
 | 0,ds,M,_,_,_=>.inl ⟨λz hz=>(by simp [Ls] at hz; subst hz; rw [Ya]; decide),by simp [Ls],by omega⟩
 |
  n+1,ds,M,hl,hs,h=>by
  by_cases h9:9<n+1
  ·exact .inr h9
  have hsum:=λk (hk:k<ds.length)=>D3 (ds:=ds) (k:=k) hk
  have:=Qi7 (f:=Ls n) (B:=n*(s+20)+1) h hs (λk hk=>by
   have hd:=hsum k hk;rcases Qow n (ds.eraseIdx k) (G6 M k) (by rw [Jk hk]; omega) (by omega) (h.minor hk) with h' | h'
   ·exact ⟨h'.1,h'.2.1⟩
   ·omega) (n+1) (by omega)
  have e1:(n+1)*(s+20)=n*(s+20)+(s+20):=Xh ..;exact .inl ⟨Uv this.1 (by omega),this.2,by omega⟩
theorem Q5s {s:Nat} (hs:s<=1000000):∀ (n:Nat) (ds:List Nat) (M:List (List (List Int))),n<=4->ds.length=n->ds.sum<64->SqR s ds M->Uw Tryz.prog 73 [.one (.row (zmt M))] [.one (rp (zp (Ls n M)))]
 |
  0,ds,M,_,hl,_,h=>by
  have e:=Qh (h.l.trans hl);subst e;exact w tt Tryz.func73 rfl [.t rfl,.c [] Qvn] rfl rfl trivial
 |
  n+1,ds,M,hn,hl,hd,h=>by
  have hrl:=Qq3 M;have hMl:=h.l;have ih:=λk (hk:k<ds.length)=>Q5s hs n (ds.eraseIdx k) (G6 M k) (by omega) (by rw [Jk hk]; omega) (by have:=D3 (ds:=ds) (k:=k) hk; omega) (h.minor hk)
  have hb:n*(s+20)+1<=3*1000020+1:=Nat.add_le_add_right (Zr (by omega) (by omega)) 1;have hok:∀ k,k<ds.length->Bd (n*(s+20)+1) (Ls n (G6 M k))/\(Ls n (G6 M k)).length<=(ds.eraseIdx k).sum+1:=λk hk=>by
   have hd':=D3 (ds:=ds) (k:=k) hk;rcases Qow n (ds.eraseIdx k) (G6 M k) (by rw [Jk hk]; omega) (by omega) (h.minor hk) with h' | h'
   ·exact ⟨h'.1,h'.2.1⟩
   ·omega
  have hds:=Qi7 (f:=Ls n) (B:=n*(s+20)+1) h hd hok;have cm:=λk=>Q5y (M:=M) (k:=k) (by omega) (λr hr=>by rw [h.w r hr]; omega)
  show Uw Tryz.prog 73 [.one (.row (zmt M))] [.one (rp (zp (D9 (Ls n) M (n+1))))];obtain ⟨f,hf⟩:=nmE (Ls n);rw [<-hf] at hds hok ih ⊢;refine Hn Tryz.func73 rfl ?_;refine go tt [.f (decide_eq_false (by omega)),.z 3] rfl trivial ?_;refine lp (S:=Nat) 0 (λL1 i=>(13,.v (.one (.int .i64 (i:Int))))::(3,.v (.one (rp (zp (D9 f M i)))))::L1) (λ_=>[]) (λi=>M.length-i) (λi=>i<=M.length) 0 (Qg _) rfl (λ_ _=>rfl) rfl λi hi=>?_
  obtain ⟨d2,d3⟩:=hds i (by omega);by_cases hlt:i<M.length
  ·obtain ⟨r,p,hr,hp,e,b,l⟩:=h.at (k:=i) (by omega);obtain ⟨k2,k3⟩:=hok i (by omega);have hse:=D3 (ds:=ds) (k:=i) (by omega);have ci:=ih i (by omega);have cp:=Qvl (p:=p) (q:=f (G6 M i)) (by omega) (by omega) b k2 (by omega);have hmb:Bd (s+(n*(s+20)+1)+7) (Fu p (f (G6 M i))):=Qc2 b k2 (Xa l (by omega));have hml:=O5 p (f (G6 M i));by_cases h2:i % 2=1
   ·have es:D9 f M (i+1)=Bv (D9 f M i) (S5 (Fu p (f (G6 M i)))):=by simp only [D9,Qbv]; rw [e,if_pos h2]
    have hnl:=Lf (Fu p (f (G6 M i)));refine go tt [.t (decide_eq_true (by omega)),.x (Qik hr),.x (Qq6 hp),.c [] (cm i),.c [] ci,.c [] cp,.r 28 (eI (b:=((i % 2:Nat):Int)) rfl),.t (decide_eq_true (by omega)),.c [] (Qvh (Uv hmb (by omega)) (by omega)),.c [] (Qyu (p:=D9 f M i) (q:=S5 (Fu p (f (G6 M i)))) (Uv d2 (by omega)) (Uv (Qav hmb) (by omega)) (by omega) (by omega))] rfl (by simp [Uu] <;> omega) ?_;exact rd (i+1) (by omega) hlt (by rw [es]; rfl)
   ·have es:D9 f M (i+1)=Bv (D9 f M i) (Fu p (f (G6 M i))):=by simp only [D9,Qbv]; rw [e,if_neg h2]
    refine go tt [.t (decide_eq_true (by omega)),.x (Qik hr),.x (Qq6 hp),.c [] (cm i),.c [] ci,.c [] cp,.r 28 (eI (b:=((i % 2:Nat):Int)) rfl),.f (decide_eq_false (by omega)),.c [] (Qyu (p:=D9 f M i) (q:=Fu p (f (G6 M i))) (Uv d2 (by omega)) (Uv hmb (by omega)) (by omega) (by omega))] rfl (by simp [Uu] <;> omega) ?_;exact rd (i+1) (by omega) hlt (by rw [es]; rfl)
  ·obtain rfl:i=n+1:=by omega
   exact en tt [.f (decide_eq_false (by omega))] rfl rfl trivial
theorem Qtd {a b c:Crv} (ha:Rs a) (hb:Rs b) (hc:Rs c):SqR 100000 [15,15,0] (M6 a b c):=by
 have key:∀ k:Crv,Rs k->(∀ p∈[k.x,k.y,[k.d]],Bd 100000 p)/\∀ (j:Nat) (p:List Int),[k.x,k.y,[k.d]][j]? = some p->p.length≤[15,15,0].getD j 0+1:=λk hk=>by
  refine ⟨λp hp=>?_,λj p hp=>?_⟩
  ·simp only [Qq,Kz,or_false] at hp;rcases hp with rfl | rfl | rfl
   ·exact hk.c.x
   ·exact hk.c.y
   ·exact Zj7 hk.c.d
  ·match j,hp with
   | 0,hp=>injection hp with hp; subst hp; exact hk.c.lx
   | 1,hp=>injection hp with hp; subst hp; exact hk.c.ly
   | 2,hp=>injection hp with hp; subst hp; exact Qi _
   | j+3,hp=>simp at hp
 have h3:∀ r∈M6 a b c,r=[a.x,a.y,[a.d]]\/r=[b.x,b.y,[b.d]]\/r=[c.x,c.y,[c.d]]:=λr hr=>by
  simpa [M6] using hr
 refine ⟨rfl,λr hr=>?_,λr hr=>?_,λr hr=>?_⟩
 ·rcases h3 r hr with rfl | rfl | rfl <;> rfl
 ·rcases h3 r hr with rfl | rfl | rfl
  ·exact (key a ha).1
  ·exact (key b hb).1
  ·exact (key c hc).1
 ·rcases h3 r hr with rfl | rfl | rfl
  ·exact (key a ha).2
  ·exact (key b hb).2
  ·exact (key c hc).2
def S7 (a b c:Crv):List Int:=Ls 3 (M6 a b c)
theorem Qkk {a b c:Crv} (ha:Rs a) (hb:Rs b) (hc:Rs c):Bd 400000 (S7 a b c)/\(S7 a b c).length<=31:=by
 rcases Qow 3 [15,15,0] (M6 a b c) rfl (by decide) (Qtd ha hb hc) with h | h
 ·exact ⟨Uv h.1 (by decide),h.2.1⟩
 ·omega
theorem Qay {a b c:Crv} (ha:Rs a) (hb:Rs b) (hc:Rs c):Uw Tryz.prog 16 [.agg (rcl a),.agg (rcl b),.agg (rcl c)] [.one (rp (zp (S7 a b c)))]:=by
 have cd:=Q5s (by decide) 3 [15,15,0] (M6 a b c) (by decide) rfl (by decide) (Qtd ha hb hc);have x0:[rcl a,rcl b,rcl c][0]? = some (rcl a):=rfl;have x1:[rcl a,rcl b,rcl c][1]? = some (rcl b):=rfl;have x2:[rcl a,rcl b,rcl c][2]? = some (rcl c):=rfl;have hs1:∀ k:Crv,∀ y∈[[LV.row (zrw [k.x,k.y,[k.d]])]],y.length=1:=λk y hy=>by rw [Qj.1 hy]; rfl
 refine Hn Tryz.func16 rfl ?_;refine go tt [.o 7 29 1] rfl trivial ?_;refine lp (S:=Nat) 4 (λL1 i=>(18,.v (.one (.int .i64 (i:Int))))::(7,.v (.one (.orow 3 1 none)))::L1) (λi=>[.blk 55 (rcl a),.blk 55 (rcl b),.blk 55 (rcl c),.row false 29 1 (zmt ((M6 a b c).take i))]) (λi=>3-i) (λi=>i<=3) 0 (by decide) rfl (λ_ _=>rfl) rfl λi hi=>?_
 rcases (show i=0\/i=1\/i=2\/i=3 by omega) with rfl | rfl | rfl | rfl
 ·exact go tt [.t rfl,.x x0,.c [] (Qb6 ha),.s (sz:=1) (hs1 a)] rfl (by simp [Uu,zmt,M6]) (rd 1 (by omega) (by omega) rfl)
 ·exact go tt [.t rfl,.x x1,.c [] (Qb6 hb),.s (sz:=1) (hs1 b)] rfl (by simp [Uu,zmt,M6]) (rd 2 (by omega) (by omega) rfl)
 ·exact go tt [.t rfl,.x x2,.c [] (Qb6 hc),.s (sz:=1) (hs1 c)] rfl (by simp [Uu,zmt,M6]) (rd 3 (by omega) (by omega) rfl)
 ·exact en tt [.f rfl,.c [] cd] rfl rfl trivial
end Orr
namespace Orq
theorem ang {ux uy vx vy wx wy:Rat} (hu:0<ux\/ux=0/\0<uy) (hv:0<vx\/vx=0/\0<vy) (hw:0<wx\/wx=0/\0<wy)
 (h1:0<=ux*vy-vx*uy) (h2:0<=vx*wy-wx*vy):0<=ux*wy-wx*uy/\(0<ux*vy-vx*uy\/0<vx*wy-wx*vy->0<ux*wy-wx*uy):=by
 have ux0:0<=ux:=by grind
 have wx0:0<=wx:=by grind
 rcases hv with hv | ⟨hv,hv2⟩
 ·have e:vx*(ux*wy-wx*uy)=ux*(vx*wy-wx*vy)+wx*(ux*vy-vx*uy):=by grind
  have hux:0<ux:=by
   rcases hu with h | ⟨h,h'⟩
   ·exact h
   ·have:=Jh hv h';rw [h] at h1; grind
  have p1:=Vb ux0 h2;have p2:=Vb wx0 h1;have key:∀ z:Rat,vx*z=ux*(vx*wy-wx*vy)+wx*(ux*vy-vx*uy)->0<=z:=λz hz=>by
   refine Rat.not_lt.1 λhn=>?_
   have:=Jh hv (show 0 < -z by grind);grind
  refine ⟨key _ e,λhs=>?_⟩;rcases hw with hw | ⟨hw,hw2⟩
  ·have hpos:0<vx*(ux*wy-wx*uy):=by
    rcases hs with hs | hs
    ·have:=Jh hw hs; grind
    ·have:=Jh hux hs; grind
   have h0:=key _ e;refine Ji.1 λhn=>?_
   have:ux*wy-wx*uy=0:=by grind
   rw [this] at hpos; grind
  ·have:=Jh hux hw2;rw [hw]; grind
 ·rw [hv] at h1 h2;have hw0:wx=0:=by
   rcases hw with hw | hw
   ·have:=Jh hw hv2; grind
   ·exact hw.1
  have hwy:0<wy:=by grind
  have p:=Vb ux0 (Qp hwy);refine ⟨by rw [hw0]; grind,λhs=>?_⟩;rw [hv,hw0] at hs;have hux:0<ux:=by
   rcases hs with hs | hs
   ·refine Ji.1 λhn=>?_
    have:ux=0:=by grind
    rw [this] at hs; grind
   ·grind
  have:=Jh hux hwy;rw [hw0]; grind
section
variable {α:Type} (X Y:α->Rat)
def lx (a b:α):Prop:=X a<X b\/X a=X b/\Y a<Y b
def Nq (a b c:α):Rat:=(X b-X a)*(Y c-Y a)-(X c-X a)*(Y b-Y a)
variable {X Y}
theorem Qcj (a:α):¬lx X Y a a:=by unfold lx; grind
theorem Q71 {a b c:α} (h:lx X Y a b) (h':lx X Y b c):lx X Y a c:=by unfold lx at *; grind
theorem Is {a b:α} (h:lx X Y a b):0<X b-X a\/X b-X a=0/\0<Y b-Y a:=by unfold lx at h; grind
theorem Ai (a b:α):Nq X Y a b a=0/\Nq X Y a b b=0:=by unfold Nq; grind
theorem Q8k (a b c:α):Nq X Y a c b=- Nq X Y a b c:=by unfold Nq; grind
theorem Zdy (a b c:α):Nq X Y a b c=(X b-X a)*(Y c-Y b)-(X c-X b)*(Y b-Y a):=by unfold Nq; grind
def Edg (Q:α->α->Prop):List α->Prop
 | a::b::r=>Q a b/\Edg Q (b::r)
 | _=>True
def Cnv (R:α->α->α->Prop):List α->Prop
 | a::b::c::r=>R a b c/\Cnv R (b::c::r)
 | _=>True
theorem Edg.tail {Q:α->α->Prop} {a:α} {l:List α} (h:Edg Q (a::l)):Edg Q l:=by
 cases l with
 | nil=>trivial
 | cons b l=>exact h.2
theorem Cnv.tail {R:α->α->α->Prop} {a:α} {l:List α} (h:Cnv R (a::l)):Cnv R l:=by
 match l,h with
 | [],_=>trivial
 | [_],_=>trivial
 | b::c::l,h=>exact h.2
theorem Edg.imp {Q Q':α->α->Prop}:∀ {l:List α},(∀ a∈l,∀ b∈l,Q a b->Q' a b)->Edg Q l->Edg Q' l
 | [],_,_=>trivial
 | [_],_,_=>trivial
 | a::b::l,hq,h=>⟨hq a (by simp) b (by simp) h.1,Edg.imp (l:=b::l) (λx hx y hy=>hq x (Qk _ hx) y (Qk _ hy)) h.2⟩
theorem Cnv.imp {R R':α->α->α->Prop}:∀ {l:List α},(∀ a∈l,∀ b∈l,∀ c∈l,R a b c->R' a b c)->Cnv R l->Cnv R' l
 | [],_,_=>trivial
 | [_],_,_=>trivial
 | [_,_],_,_=>trivial
 | a::b::c::l,hq,h=>⟨hq a (by simp) b (by simp) c (by simp) h.1,Cnv.imp (l:=b::c::l) (λx hx y hy z hz=>hq x (Qk _ hx) y (Qk _ hy) z (Qk _ hz)) h.2⟩
def Cv (s:α->α->α->Bool) (c:α):List α->List α
 | b::a::r=>if s a b c=true then b::a::r else Cv s c (a::r)
 | l=>l
def Sy (s:α->α->α->Bool):List α->List α->List α
 | acc,[]=>acc
 | acc,c::l=>Sy s (c::Cv s c acc) l
structure Stk (X Y:α->Rat) (P:List α) (st:List α):Prop where
 srt:st.Pairwise λb a=>lx X Y a b
 mem:∀ p∈st,p∈P
 edg:Edg (λb a=>∀ p∈P,0≤Nq X Y a b p) st
 cnv:Cnv (λc b a=>0<Nq X Y a b c) st
theorem Stk.tail {P:List α} {a:α} {st:List α} (h:Stk X Y P (a::st)):Stk X Y P st:=⟨(Zf.1 h.srt).2,λp hp=>h.mem p (Qk _ hp),h.edg.tail,h.cnv.tail⟩
theorem Q8u {P:List α} {s:α->α->α->Bool} {c:α} (hs:∀ a∈P,∀ b∈P,(s a b c=true↔0<Nq X Y a b c)) (hc:∀ p∈P,lx X Y p c) :
 ∀ (st:List α) (t:α),Stk X Y P (t::st)->(∀ p∈P,lx X Y t p->0≤Nq X Y t c p) ->
 ∃ t' st',Cv s c (t::st)=t'::st'/\Stk X Y P (t'::st')/\(∀ p∈P,lx X Y t' p->0≤Nq X Y t' c p)/\(∀ a r,st'=a::r->0<Nq X Y a t' c)/\(t'::st').getLast? = (t::st).getLast?
 | [],t,h,h2=>⟨t,[],rfl,h,h2,λa r e=>(by cases e),rfl⟩
 |
  a::r,t,h,h2=>by
  have ht:=h.mem t (by simp);have ha:=h.mem a (by simp);by_cases e:s a t c=true
  ·refine ⟨t,a::r,by simp only [Cv]; rw [if_pos e],h,h2,λa' r' e'=>?_,rfl⟩;injection e' with e1 _
   rw [<-e1]; exact (hs a ha t ht).1 e
  ·have hle:Nq X Y a t c<=0:=Rat.not_lt.1 λh'=>e ((hs a ha t ht).2 h')
   have hat:lx X Y a t:=(Zf.1 h.srt).1 a (by simp);obtain ⟨t',st',g1,g2,g3,g4,g5⟩:=Q8u hs hc r a h.tail λp hp hap=>by
    have e1:=h.edg.1 p hp;have k:=ang (Is (hc a ha)) (Is hat) (Is hap) (by rw [Q8k] at *; unfold Nq at *; grind) (by unfold Nq at *; grind);unfold Nq; grind
   exact ⟨t',st',by simp only [Cv]; rw [if_neg e]; exact g1,g2,g3,g4,by rw [g5]; rfl⟩
theorem Ql9 {P:List α} {c:α}:∀ (st:List α) (t:α),Stk X Y P (t::st)->lx X Y t c->(∀ a r,st=a::r->0<Nq X Y a t c)->Edg (λb a=>0<Nq X Y a b c) (t::st)
 | [],_,_,_,_=>trivial
 | [a],t,_,_,h=>⟨h a [] rfl,trivial⟩
 |
  a::q::r,t,hS,htc,h=>by
  have h1:=h a (q::r) rfl;have h0:0<Nq X Y q a t:=hS.cnv.1;have p1:=Zf.1 hS.srt;have p2:=Zf.1 p1.2;have hat:lx X Y a t:=p1.1 a (by simp);have hqa:lx X Y q a:=p2.1 q (by simp);refine ⟨h1,Ql9 (q::r) a hS.tail (Q71 hat htc) λa' r' e=>?_⟩;injection e with e _;rw [<-e];rw [Zdy] at h0 h1 ⊢;have k:=(ang (Is hqa) (Is hat) (Is htc) (Qp h0) (Qp h1)).2 (.inl h0);grind
theorem Zea {P:List α} {t:α} {st:List α} {c:α} (h:Stk X Y P (t::st)) (hc:∀ p∈P,lx X Y p c) (hP:∀ p∈P,p=t\/lx X Y p t\/lx X Y t p) (hb:∀ p∈P,(t::st).getLast? = some p\/∃ b,(t::st).getLast? = some b/\lx X Y b p) (h2:∀ p∈P,lx X Y t p->0≤Nq X Y t c p) (h3:∀ a r,st=a::r->0<Nq X Y a t c):Stk X Y (P++[c]) (c::t::st):=by
 have ht:=h.mem t (by simp);have htc:=hc t ht;have hf:=Ql9 st t h htc h3;refine ⟨Zf.2 ⟨λp hp=>hc p (h.mem p hp),h.srt⟩,λp hp=>?_,⟨λp hp=>?_,?_⟩,?_⟩
 ·rcases Qq.1 hp with rfl | hp
  ·simp
  ·exact Jc _ (h.mem p hp)
 ·rcases Qt.1 hp with hp | hp
  ·rcases hP p hp with rfl | hpt | htp
   ·rw [(Ai p c).1]; exact Qo
   ·cases st with
    |
     nil =>
     exfalso;rcases hb p hp with e | ⟨b,e,hb⟩
     ·injection e with e; subst e; exact Qcj _ hpt
     ·injection e with e; subst e; exact Qcj _ (Q71 hpt hb)
    |
     cons a r =>
     have e1:=h.edg.1 p hp;have h3:=h3 a r rfl;have hat:lx X Y a t:=(Zf.1 h.srt).1 a (by simp);have k:=(ang (Is hpt) (Is hat) (Is htc) (by unfold Nq at *; grind) (by unfold Nq at *; grind)).1;unfold Nq; grind
   ·exact h2 p hp htp
  ·rw [Qj.1 hp,(Ai t c).2]; exact Qo
 ·cases st with
  | nil=>trivial
  |
   cons a r =>
   have key:∀ l:List α,Edg (λb a=>∀ p∈P,0≤Nq X Y a b p) l->Edg (λb a=>0<Nq X Y a b c) l->Edg (λb a=>∀ p∈P++[c],0≤Nq X Y a b p) l:=by
    intro l
    induction l with
    | nil=>intros; trivial
    |
     cons x l ih =>
     cases l with
     | nil=>intros; trivial
     |
      cons y l =>
      intro k1 k2;refine ⟨λp hp=>?_,ih k1.2 k2.2⟩;rcases Qt.1 hp with hp | hp
      ·exact k1.1 p hp
      ·rw [Qj.1 hp]; exact Qp k2.1
   exact key _ h.edg hf
 ·cases st with
  | nil=>trivial
  | cons a r=>exact ⟨h3 a r rfl,h.cnv⟩
theorem Qlx {s:α->α->α->Bool} {row:List α} (hs:∀ a∈row,∀ b∈row,∀ c∈row,(s a b c=true↔0<Nq X Y a b c)) (hrow:row.Pairwise (lx X Y)) :
 ∀ (l P:List α) (t:α) (st:List α),row=P++l->Stk X Y P (t::st)->P.getLast? = some t->(t::st).getLast? = P.head? ->
 ∃ t' st',Sy s (t::st) l=t'::st'/\Stk X Y row (t'::st')/\row.getLast? = some t'/\(t'::st').getLast? = row.head?
 |
  [],P,t,st,e,h,h1,h2=>by
  rw [Zy] at e; subst e;exact ⟨t,st,rfl,h,h1,h2⟩
 |
  c::l,P,t,st,e,h,h1,h2=>by
  have hPm:∀ p∈P,p∈row:=λp hp=>by rw [e]; exact Jc _ hp
  have hcm:c∈row:=by rw [e]; simp
  have hpw:=hrow;rw [e] at hpw;obtain ⟨w1,w2,w3⟩:=X4.1 hpw;have hc:∀ p∈P,lx X Y p c:=λp hp=>w3 p hp c (by simp)
  have htop:∀ p∈P,p=t\/lx X Y p t:=λp hp=>by
   obtain ⟨P1,rfl⟩:∃ P1,P=P1++[t]:=by
    have:=Y7.1 h1;exact this
   rcases Qt.1 hp with hp | hp
   ·exact .inr ((X4.1 w1).2.2 p hp t (by simp))
   ·exact .inl (Qj.1 hp)
  obtain ⟨t',st',g1,g2,g3,g4,g5⟩:=Q8u (λa ha b hb=>hs a (hPm a ha) b (hPm b hb) c hcm) hc st t h λp hp htp=>by
   rcases htop p hp with rfl | h'
   ·exact absurd htp (Qcj _)
   ·exact absurd (Q71 htp h') (Qcj _)
  have tot:∀ p∈P,p=t'\/lx X Y p t'\/lx X Y t' p:=λp hp=>by
   obtain ⟨i,hi,rfl⟩:=Y8.1 hp;obtain ⟨j,hj,e2⟩:=Y8.1 (g2.mem t' (by simp));rcases Vy i j with h' | h' | h'
   ·exact .inr (.inl (by rw [<-e2]; exact Ye.1 w1 i j hi hj h'))
   ·subst h'; exact .inl e2
   ·exact .inr (.inr (by rw [<-e2]; exact Ye.1 w1 j i hj hi h'))
  have hPne:P≠[]:=λh'=>by rw [h'] at h1; cases h1
  have hb:∀ p∈P,(t'::st').getLast? = some p\/∃ b,(t'::st').getLast? = some b/\lx X Y b p:=λp hp=>by
   rw [g5,h2];cases P with
   | nil=>exact absurd rfl hPne
   |
    cons f P' =>
    rcases Qq.1 hp with rfl | hp
    ·exact .inl rfl
    ·exact .inr ⟨f,rfl,(Zf.1 w1).1 p hp⟩
  have hpush:=Zea g2 hc tot hb g3 g4;obtain ⟨t2,st2,k1,k2,k3,k4⟩:=Qlx hs hrow l (P++[c]) c (t'::st') (by rw [e]; simp) hpush (by simp) (by
   rw [Kr,g5,h2];cases P with
   | nil=>exact absurd rfl hPne
   | cons f P'=>rfl)
  exact ⟨t2,st2,by simp only [Sy]; rw [g1]; exact k1,k2,k3,k4⟩
end
end Orq
namespace Orr
open Go
theorem Q7d (c:Int) (l:List Int):G9 (l.map (· * c))=G9 l*c.natAbs:=by
 have key:∀ (l:List Int) (g:Nat),(l.map (· * c)).foldl (λg z=>Nat.gcd g z.natAbs) (g*c.natAbs)=l.foldl (λg z=>Nat.gcd g z.natAbs) g*c.natAbs:=by
  intro l
  induction l with
  | nil=>intro g; rfl
  |
   cons z l ih =>
   intro g;simp only [Z8,Xg,Jy,Uc];exact ih _
 have:=key l 0;rwa [Ya] at this
end Orr
namespace Orq
open Orr Go
theorem Qua {p q:List Int} (tp:U3 p) (tq:U3 q) (h:∀ i,p.getD i 0=q.getD i 0):p=q:=by
 have hl:∀ {p q:List Int},U3 p->(∀ i,p.getD i 0=q.getD i 0)->p.length<=q.length:=λ{p q} tp h=>by
  refine Nat.not_lt.1 λhn=>?_
  have h1:=Hk tp (by omega);rw [h,Qf,Qu (by omega)] at h1;exact h1 rfl
 have e:=Kj (hl tp h) (hl tq λi=>(h i).symm);refine List.ext_getElem e λi h1 h2=>?_
 have:=h i;rw [Qf,Qf,Qe h1,Qe h2] at this;exact this
theorem Qsj {p:List Int} (h:p=[]) (i:Nat):p.getD i 0=0:=by rw [h]; simp
theorem Dl (p:List Int) (c:Int) (i:Nat):(Fi p c).getD i 0=p.getD i 0*c:=by
 unfold Fi;rw [Ti]
 split
 ·rfl
 ·rename_i h;rw [Qf,Qu (by omega)]; simp
theorem Qku (p q:List Int) (i:Nat):(Po p q).getD i 0=p.getD i 0-q.getD i 0:=by
 unfold Po;rw [Ti]
 split
 ·rfl
 ·rename_i h;rw [Qf,Qf,Qu (by omega),Qu (by omega)]; simp
theorem Zdw {x y:Crv} (hx:Nml x) (hy:Nml y) (h1:Hm x y=[]) (h2:Hr x y=[]):x=y:=by
 have e1:∀ i,y.x.getD i 0*x.d=x.x.getD i 0*y.d:=λi=>by
  have:=Qsj h1 i;unfold Hm at this;rw [Qku,Dl,Dl] at this;omega
 have e2:∀ i,y.y.getD i 0*x.d=x.y.getD i 0*y.d:=λi=>by
  have:=Qsj h2 i;unfold Hr at this;rw [Qku,Dl,Dl] at this;omega
 have key:∀ {x y:Crv},Nml x->Nml y->(∀ i,y.x.getD i 0*x.d=x.x.getD i 0*y.d)->(∀ i,y.y.getD i 0*x.d=x.y.getD i 0*y.d)->x.d∣y.d:=λ{x y} hx hy e1 e2=>by
  have hd:=Qsb (d:=x.d) (l:=(x.d::(x.x++x.y)).map (· * y.d)) λz hz=>by
   obtain ⟨w,hw,rfl⟩:=Zx.1 hz;rcases Qq.1 hw with rfl | hw
   ·exact W8 _ _
   ·rcases Qt.1 hw with hw | hw
    ·obtain ⟨i,hi,rfl⟩:=Y8.1 hw;have:=e1 i;rw [show x.x.getD i 0=x.x[i] from by rw [Qf,Qe hi]; rfl] at this;rw [<-this]; exact Vd _ _
    ·obtain ⟨i,hi,rfl⟩:=Y8.1 hw;have:=e2 i;rw [show x.y.getD i 0=x.y[i] from by rw [Qf,Qe hi]; rfl] at this;rw [<-this]; exact Vd _ _
  rw [Q7d,hx.2.2.2,Wx] at hd;exact Vl hd (Int.natAbs_dvd.2 (Wb _))
 have hd:x.d=y.d:=Int.dvd_antisymm (Wd hx.2.2.1) (Wd hy.2.2.1) (key hx hy e1 e2) (key hy hx (λi=>(e1 i).symm) λi=>(e2 i).symm);have hd0:y.d≠0:=by have:=hy.2.2.1; omega
 rw [hd] at e1 e2;have ex:x.x=y.x:=Qua hx.1 hy.1 λi=>(Y0 hd0 (e1 i)).symm
 have ey:x.y=y.y:=Qua hx.2.1 hy.2.1 λi=>(Y0 hd0 (e2 i)).symm
 cases x; cases y;simp only at hd ex ey;rw [hd,ex,ey]
theorem Zfa (l:List Pt):(Sb l).Pairwise λx y=>x.c≠y.c:=by
 have key:∀ (l out:List Pt),out.Pairwise (λx y=>x.c≠y.c)->(l.foldl Sv out).Pairwise λx y=>x.c≠y.c:=by
  intro l
  induction l with
  | nil=>intro out h; exact h
  |
   cons p l ih =>
   intro out h;refine ih _ ?_;unfold Sv
   split
   ·exact h
   ·rename_i hn;refine X4.2 ⟨h,Ks _ _,λa ha b hb e=>hn ?_⟩;rw [Qj.1 hb] at e;rw [Uf];exact ⟨a,ha,by rw [<-e]; simp [Ck]⟩
 exact key l [] .nil
theorem Qum (l:List Pt):(Sb l).Sublist l:=by
 have key:∀ (l out o:List Pt),out.Sublist o->(l.foldl Sv out).Sublist (o++l):=by
  intro l
  induction l with
  | nil=>intro out o h; rw [Zy]; exact h
  |
   cons p l ih =>
   intro out o h;have:(Sv out p).Sublist (o++[p]):=by
    unfold Sv
    split
    ·exact h.trans (List.sublist_append_left _ _)
    ·exact h.append (List.Sublist.refl _)
   have:=ih _ _ this;rwa [Zi] at this
 exact key l [] [] (List.Sublist.refl _)
theorem Al (f:Nat->List Int) (rows:List (List (List Int))) (q:Rat) (i:Nat):Uy (Nk f rows (i+1)) q=Uy (Nk f rows i) q+(if i % 2=0 then 1 else -1)*(Uy ((rows.getD i []).getD 0 []) q*Uy (f i) q):=by
 simp only [Nk]
 split
 ·rename_i h;have:Uy ((rows.getD i []).getD 0 []) q=0:=by rw [Qh h]; rfl
  rw [this]; grind
 ·split
  ·rw [Cu,Fh]; grind
  ·rw [Nt,Fh]; grind
theorem Q0n (z:Int) (q:Rat):Uy [z] q=(z:Rat):=by simp [Uy,Rat.add_zero]
theorem Qth (p:List Int) (q:Rat):Uy (Co 1 [[p]]) q=Uy p q:=by
 show Uy (Nk (λi=>Co 0 (Qbs [[p]] i)) [[p]] (0+1)) q=_;rw [Al];show (0:Rat)+1*(Uy p q*Uy [1] q)=_;rw [Q0n];have:((1:Int):Rat)=1:=rfl;grind
theorem Qkm (p r s t:List Int) (q:Rat):Uy (Co 2 [[p,r],[s,t]]) q=Uy p q*Uy t q-Uy s q*Uy r q:=by
 show Uy (Nk (λi=>Co 1 (Qbs [[p,r],[s,t]] i)) [[p,r],[s,t]] (0+1+1)) q=_;rw [Al,Al];show (0:Rat)+1*(Uy p q*Uy (Co 1 [[t]]) q)+(-1)*(Uy s q*Uy (Co 1 [[r]]) q)=_;rw [Qth,Qth]; grind
theorem Qti (a1 a2 a3 b1 b2 b3 c1 c2 c3:List Int) (q:Rat):Uy (Co 3 [[a1,a2,a3],[b1,b2,b3],[c1,c2,c3]]) q=Uy a1 q*(Uy b2 q*Uy c3 q-Uy c2 q*Uy b3 q)-Uy b1 q*(Uy a2 q*Uy c3 q-Uy c2 q*Uy a3 q)+Uy c1 q*(Uy a2 q*Uy b3 q-Uy b2 q*Uy a3 q):=by
 show Uy (Nk (λi=>Co 2 (Qbs [[a1,a2,a3],[b1,b2,b3],[c1,c2,c3]] i)) [[a1,a2,a3],[b1,b2,b3],[c1,c2,c3]] (0+1+1+1)) q=_;rw [Al,Al,Al];show (0:Rat)+1*(Uy a1 q*Uy (Co 2 [[b2,b3],[c2,c3]]) q)+(-1)*(Uy b1 q*Uy (Co 2 [[a2,a3],[c2,c3]]) q)+1*(Uy c1 q*Uy (Co 2 [[a2,a3],[b2,b3]]) q)=_;rw [Qkm,Qkm,Qkm]; grind
theorem Qxk {a b c:Pt} (ha:Sc a.c) (hb:Sc b.c) (hc:Sc c.c) (q:Rat):U6 (Uy (Hp a.c b.c c.c) q)=U6 (Nq (px · q) (py · q) a b c):=by
 have pos:∀ {k:Crv},Sc k->(0:Rat)<(k.d:Rat):=λh=>by exact_mod_cast h.n.2.2.1
 have pa:=pos ha;have pb:=pos hb;have pc:=pos hc;have xx:∀ {p:Pt},0<(p.c.d:Rat)->Uy p.c.x q=px p q*(p.c.d:Rat)/\Uy p.c.y q=py p q*(p.c.d:Rat):=λ{p} h=>by
  unfold px py;exact ⟨(Zj (by grind)).symm,(Zj (by grind)).symm⟩
 obtain ⟨xa,ya⟩:=xx pa;obtain ⟨xb,yb⟩:=xx pb;obtain ⟨xc,yc⟩:=xx pc;have e:Uy (Hp a.c b.c c.c) q=((a.c.d:Rat)*(b.c.d:Rat)*(c.c.d:Rat))*Nq (px · q) (py · q) a b c:=by
  unfold Hp M6 Nq;rw [Qti,Q0n,Q0n,Q0n,xa,xb,xc,ya,yb,yc];grind
 rw [e,Do (Jh (Jh pa pb) pc)]
def Qdt (sg:List Int->Int) (a b c:Pt):Bool:=decide (0<Nc sg (Hp a.c b.c c.c))
def Sf (sg:List Int->Int) (row:List Pt):List Pt:=(Sy (Qdt sg) [] row).reverse
def Pp (sg:List Int->Int) (row:List Pt):List Pt:=if row.length<3 then row else (Sf sg row).dropLast++(Sf sg row.reverse).dropLast
def Gz (l:List Pt) (a:Tm):List Pt:=Pp (Rp a) (Sk a (Sb l))
def Ge (C:List Pt):List (Pt×Pt):=C.zip (C.drop 1++C.take 1)
def Ae (sg:List Int->Int) (a b c:Pt):Ct:=⟨3,a.id,b.id,c.id,0,Hp a.c b.c c.c,Nc sg (Hp a.c b.c c.c)⟩
def Bu (e:Pt×Pt) (c:Pt):Bool:=decide (c.id≠e.1.id) && decide (c.id≠e.2.id)
def Eh (sg:List Int->Int) (l:List Pt) (e:Pt×Pt):List Ct:=(l.filter (Bu e)).map λc=>Ae sg e.1 e.2 c
def Il (sg:List Int->Int) (l C:List Pt):List Ct:=if C.length<2 then [] else (Ge C).flatMap (Eh sg l)
def bcH (l:List Pt) (a:Tm):List Ct:=bcS l a++Il (Rp a) l (Gz l a)
abbrev brH (l:List Pt) (a:Tm):List (List LV):=U8 (Gz l a)
def Q1p (l:List Pt):List (List Int):=l.flatMap λx=>l.flatMap λy=>l.map λz=>Hp x.c y.c z.c
theorem Qrc {l:List Pt} {x y z:Pt} (hx:x∈l) (hy:y∈l) (hz:z∈l):Hp x.c y.c z.c∈Q1p l :=
 Xj.2 ⟨x,hx,Xj.2 ⟨y,hy,Zx.2 ⟨z,hz,rfl⟩⟩⟩
theorem Zbi {l:List Pt} (hl:∀ p∈l,Sc p.c):∀ p∈Q1p l,Cp p:=λp hp=>by
 obtain ⟨x,hx,hp⟩:=Xj.1 hp;obtain ⟨y,hy,hp⟩:=Xj.1 hp;obtain ⟨z,hz,rfl⟩:=Zx.1 hp;exact Qe9 (hl x hx) (hl y hy) (hl z hz)
theorem Qkq {α:Type} (s:α->α->α->Bool) (c:α):∀ st:List α,(Cv s c st).Sublist st
 | []=>List.Sublist.refl _
 | [_]=>List.Sublist.refl _
 |
  b::a::r=>by
  simp only [Cv]
  split
  ·exact List.Sublist.refl _
  ·exact (Qkq s c (a::r)).trans (List.sublist_cons_self _ _)
theorem Qb8 {α:Type} {s:α->α->α->Bool}:∀ {l acc:List α} {x:α},x∈Sy s acc l->x∈acc\/x∈l
 | [],acc,x,h=>.inl h
 |
  c::l,acc,x,h=>by
  rcases Qb8 (l:=l) h with h | h
  ·rcases Qq.1 h with rfl | h
   ·exact .inr (by simp)
   ·exact .inl ((Qkq s c acc).subset h)
  ·exact .inr (Qk _ h)
theorem Qb7 {α:Type} (s:α->α->α->Bool):∀ (l acc:List α),(Sy s acc l).length<=acc.length+l.length
 | [],acc=>by simp [Sy]
 |
  c::l,acc=>by
  have h1:=Qb7 s l (c::Cv s c acc);have h2:=(Qkq s c acc).length_le;simp only [Sy,Q7] at h1 ⊢;omega
theorem Qiz {sg:List Int->Int} {row:List Pt} {x:Pt} (h:x∈Sf sg row):x∈row:=by
 unfold Sf at h;rcases Qb8 (X8.1 h) with h | h
 ·cases h
 ·exact h
theorem Ia (sg:List Int->Int) (row:List Pt):(Sf sg row).length<=row.length:=by
 have:=Qb7 (Qdt sg) row [];unfold Sf; rw [List.length_reverse]; simpa using this
theorem Qxf {sg:List Int->Int} {row:List Pt} {x:Pt} (h:x∈Pp sg row):x∈row:=by
 unfold Pp at h
 split at h
 ·exact h
 ·rcases Qt.1 h with h | h
  ·exact Qiz ((List.dropLast_sublist _).subset h)
  ·exact X8.1 (Qiz ((List.dropLast_sublist _).subset h))
theorem Qxe (sg:List Int->Int) (row:List Pt):(Pp sg row).length<=2*row.length:=by
 unfold Pp
 split
 ·omega
 ·have h1:=Ia sg row;have h2:=Ia sg row.reverse;rw [X3] at h2;rw [Q5,List.length_dropLast,List.length_dropLast]; omega
theorem Tg {l:List Pt} {a:Tm} {x:Pt} (h:x∈Gz l a):x∈l:=Cz (Mj.1 (Qxf h))
theorem Qa0 (l:List Pt) (a:Tm):(Gz l a).length<=2*l.length:=by
 have h1:=Qxe (Rp a) (Sk a (Sb l));rw [Qaj] at h1;have:=Quk l;unfold Gz; omega
theorem Qgl {C:List Pt} {e:Pt×Pt} (h:e∈Ge C):e.1∈C/\e.2∈C:=by
 unfold Ge at h;have h1:=List.of_mem_zip (show (e.1,e.2)∈_ from h);refine ⟨h1.1,?_⟩;rcases Qt.1 h1.2 with h | h
 ·exact Ze h
 ·exact Ql h
theorem Qwc {sg:List Int->Int} {l C:List Pt} {x:Ct} (h:x∈Il sg l C):∃ e∈Ge C,∃ c∈l,Bu e c=true/\x=Ae sg e.1 e.2 c:=by
 unfold Il at h
 split at h
 ·cases h
 ·obtain ⟨e,he,h⟩:=Xj.1 h;obtain ⟨c,hc,rfl⟩:=Zx.1 h;obtain ⟨h1,h2⟩:=Wi.1 hc;exact ⟨e,he,c,h1,h2,rfl⟩
theorem Zbm {l:List Pt} {a:Tm}:∀ x∈bcH l a,x.p∈Qn9 l++Q1p l:=λx hx=>by
 rcases Qt.1 hx with hx | hx
 ·exact Jc _ (Zbn x hx)
 ·obtain ⟨e,he,c,hc,_,rfl⟩:=Qwc hx;obtain ⟨h1,h2⟩:=Qgl he;exact K6 _ (Qrc (Tg h1) (Tg h2) hc)
theorem Qx8 {l:List Pt} (hl:∀ p∈l,Sc p.c):∀ p∈Qn9 l++Q1p l,Cp p:=λp hp=>by
 rcases Qt.1 hp with h | h
 ·exact Zbj hl p h
 ·exact Zbi hl p h
theorem Qcc {α β:Type} (f:α->List β) (n:Nat):∀ (m:List α),(∀ x∈m,(f x).length≤n)->(m.flatMap f).length≤m.length*n
 | [],_=>by simp
 |
  x::m,h=>by
  have:=Qcc f n m λy hy=>h y (Qk _ hy)
  have:=h x (by simp);rw [List.flatMap_cons,Q5,Q7,Xh]; omega
theorem Qwb (sg:List Int->Int) (l C:List Pt):(Il sg l C).length<=C.length*l.length:=by
 unfold Il
 split
 ·simp
 ·refine Qd (Qcc _ l.length _ λe _=>?_) (Qz _ ?_)
  ·unfold Eh; rw [List.length_map]; exact List.length_filter_le _ _
  ·unfold Ge; rw [List.length_zip]; exact Nat.min_le_left _ _
theorem Zgu {l:List Pt} (hl:∀ p∈l,Sc p.c) (hn:l.length≤10):BuildOk (bcH l) :=
 ⟨λ_ _ x hx=>Qx8 hl _ (Zbm x hx),λa _=>by
  have h1:=Qwb (Rp a) l (Gz l a);have h2:=Qa0 l a;have h3:(Gz l a).length*l.length<=20*10:=Zr (by omega) hn;show (bcS l a++Il (Rp a) l (Gz l a)).length<=1000;have h4:(bcS l a).length<=l.length:=by unfold bcS; rw [By,Qaj]; omega
  rw [Q5]; omega⟩
def D8 {α:Type} (l:List α):List (α×α):=l.zip (l.drop 1)
theorem Qdg {α:Type} {Q:α->α->Prop}:∀ {l:List α},Edg Q l↔∀ e∈D8 l,Q e.1 e.2
 | []=>by simp [Edg,D8]
 | [_]=>by simp [Edg,D8]
 |
  a::b::l=>by
  have ih:=Qdg (Q:=Q) (l:=b::l);have e:D8 (a::b::l)=(a,b)::D8 (b::l):=rfl;rw [e];constructor
  ·rintro ⟨h1,h2⟩ x hx
   rcases Qq.1 hx with rfl | hx
   ·exact h1
   ·exact ih.1 h2 x hx
  ·intro h;exact ⟨h (a,b) (by simp),ih.2 λx hx=>h x (Qk _ hx)⟩
theorem Qi2 {α:Type} (f z:α) (A:List α):D8 (f::A++[z])=(f::A).zip (A++[z]):=by
 unfold D8;rw [Xf,Kf,Xm];have:f::(A++[z])=(f::A)++[z]:=rfl;rw [this];have h:A++[z]=(A++[z])++[]:=(Zy _).symm
 conv=>lhs; rw [h]
 rw [List.zip_append (by simp)];simp
theorem Qsc {f z:Pt} {A B:List Pt}:Ge ((f::A++[z]).dropLast++(z::B++[f]).dropLast)=D8 (f::A++[z])++D8 (z::B++[f]):=by
 rw [Xp,Xp,Qi2,Qi2,<-List.zip_append (by simp)];unfold Ge;congr 1;simp
theorem Edg.rev {α:Type} {Q:α->α->Prop}:∀ {l:List α},Edg Q l->Edg (λa b=>Q b a) l.reverse:=by
 have app:∀ {Q:α->α->Prop} {l:List α} {b a:α},Edg Q (l++[b])->Q b a->Edg Q (l++[b]++[a]):=by
  intro Q l
  induction l with
  | nil=>intro b a _ h; exact ⟨h,trivial⟩
  |
   cons x l ih =>
   intro b a h h2;cases l with
   | nil=>exact ⟨h.1,ih h.2 h2⟩
   | cons y l=>exact ⟨h.1,ih h.2 h2⟩
 intro l
 induction l with
 | nil=>intro _; trivial
 |
  cons a l ih =>
  intro h;cases l with
  | nil=>trivial
  |
   cons b l =>
   have:=ih h.2;rw [Yj] at this ⊢;rw [Yj];exact app this h.1
theorem Cnv.rev {α:Type} {R:α->α->α->Prop}:∀ {l:List α},Cnv R l->Cnv (λa b c=>R c b a) l.reverse:=by
 have app:∀ {R:α->α->α->Prop} {l:List α} {c b a:α},Cnv R (l++[c,b])->R c b a->Cnv R (l++[c,b,a]):=by
  intro R l
  induction l with
  | nil=>intro c b a _ h; exact ⟨h,trivial⟩
  |
   cons x l ih =>
   intro c b a h h2;cases l with
   | nil=>exact ⟨h.1,ih h.2 h2⟩
   |
    cons y l =>
    cases l with
    | nil=>exact ⟨h.1,ih h.2 h2⟩
    | cons w l=>exact ⟨h.1,ih h.2 h2⟩
 intro l
 induction l with
 | nil=>intro _; trivial
 |
  cons a l ih =>
  intro h
  match l,h with
  | [],_=>trivial
  | [_],_=>trivial
  |
   b::c::l,h =>
   have:=ih h.2;rw [Yj,Yj,Zi] at this;rw [Yj,Yj,Yj,Zi,Zi];exact app this h.1
end Orq
namespace Orr
open Go Go.Proofs Orq
set_option maxRecDepth 10000
theorem Zbu {a b c:Pt} {t:Tm} (ha:Sc a.c) (hb:Sc b.c) (hc:Sc c.c) (ht:Va t):Uw Tryz.prog 179 [.one (.int .i64 3),.agg (ta t),.one (.row [Hi a,Hi b,Hi c])] [.agg (Qkh (Ae (Rp t) a b c)),.one (.int .i64 0)]:=by
 have hp:=(Qe9 ha hb hc).dp;have e:Qkh (Ae (Rp t) a b c)=[.int .i64 3,.int .i64 a.id,.int .i64 b.id,.int .i64 c.id,.int .i64 0,pl (Hp a.c b.c c.c),.int .i64 (Nc (Rp t) (Hp a.c b.c c.c))]:=by rw [Ae]
 rw [e];have cg:=Qys hp ht;have cf:=Qrk ha hb hc;generalize Hp a.c b.c c.c=F at *;refine Hn Tryz.func179 rfl ?_;refine go tt [.c [] Q14,.f rfl] rfl trivial ?_;refine lp (S:=Nat) 3 (λL1 i=>(22,.v (.one (.int .i64 (i:Int))))::L1) (λi=>[.blk 74 (ta t),.blk 90 zCt,.blk 90 [.int .i64 3,.int .i64 (if 1<=i then a.id else 0),.int .i64 (if 2<=i then b.id else 0),.int .i64 (if 3<=i then c.id else 0),.int .i64 0,.nils,.int .i64 0]]) (λi=>3-i) (λi=>i<=3) 0 (Qg _) rfl (λ_ _=>rfl) rfl λi hi=>?_
 rcases (show i=0\/i=1\/i=2\/i=3 by omega) with rfl | rfl | rfl | rfl
 ·refine go tt [.t rfl,.x (i:=0) (xs:=Hi a) rfl,.i 0] rfl (by simp [Uu]) ?_;exact rd 1 (by omega) (by omega) rfl
 ·refine go tt [.t rfl,.x (i:=1) (xs:=Hi b) rfl,.i 1] rfl (by simp [Uu]) ?_;exact rd 2 (by omega) (by omega) rfl
 ·refine go tt [.t rfl,.x (i:=2) (xs:=Hi c) rfl,.i 2] rfl (by simp [Uu]) ?_;exact rd 3 (by omega) (by omega) rfl
 ·exact en tt [.f rfl,.f rfl,.f rfl,.t rfl,.x (i:=0) (xs:=Hi a) rfl,.x (i:=1) (xs:=Hi b) rfl,.x (i:=2) (xs:=Hi c) rfl,.c [] cf,.c [] cg] rfl rfl trivial
theorem Ly {α:Type} (s:α->α->α->Bool):∀ (l acc:List α) (c:α),Sy s acc (l++[c])=c::Cv s c (Sy s acc l)
 | [],_,_=>rfl
 | _::l,_,c=>Ly s l _ c
theorem Qyo {R:List Pt} {t:Tm} (hR:∀ p∈R,Sc p.c) (hn:R.length≤1000000) (ht:Va t):Uw Tryz.prog 248 [.agg (ta t),.one (pts R)] [.one (pts (Sf (Rp t) R))]:=by
 have hcl:=Rv R;show Uw Tryz.prog 248 [.agg (ta t),.one (.row (U8 R))] [.one (.row (U8 (Sy (Qdt (Rp t)) [] R).reverse))];obtain ⟨s,hs⟩:=nmE (Qdt (Rp t));have hs':∀ a b c,s a b c=decide (0<Nc (Rp t) (Hp a.c b.c c.c)):=λa b c=>by rw [hs]; rfl
 rw [<-hs];refine Hn Tryz.func248 rfl ?_;refine go tt [.o 5 135 5] rfl trivial ?_;refine lp (S:=Nat) 2 (λL1 i=>(10,.v (.one (.int .i64 (i:Int))))::(5,.v (.one (.orow 1 5 none)))::L1) (λi=>[.blk 74 (ta t),.row false 135 5 (U8 (Sy s [] (R.take i)).reverse)]) (λi=>R.length-i) (λi=>i<=R.length) 0 (Qg _) rfl (λ_ _=>rfl) rfl λi hi=>?_
 by_cases hlt:i<R.length
 ·obtain ⟨c,hc⟩:=gxE (l:=R) (i:=i) hlt;have hcp:=hR c (Qa hc);have hst:Sy s [] (R.take (i+1))=c::Cv s c (Sy s [] (R.take i)):=by rw [Zw,hc]; exact Ly s _ _ c
  obtain ⟨O,hO⟩:=nmE (Sy s [] (R.take i));have hOl:O.length<=1000000:=by
   have:=Qb7 s (R.take i) [];rw [<-hO,Qr] at this; simp at this; omega
  have hOm:∀ x∈O,Sc x.c:=λx hx=>by
   rw [hO] at hx;rcases Qb8 hx with h | h
   ·cases h
   ·exact hR x (Ql h)
  rw [<-hO] at hst ⊢;have hrl:(U8 O.reverse).length=O.length:=by rw [Rv,X3]
  have hm:∀ y∈[Hi c],y.length=5:=λy hy=>by rw [Qj.1 hy]; rfl
  have hget:∀ {pre r:List Pt} {x:Pt},O=pre++x::r->∀ j,j=r.length->(U8 O.reverse)[j]? = some (Hi x):=λ{pre r x} e j hj=>by
   refine Ru ?_;rw [e,hj]; simp
  have hfin:∀ {pre st:List Pt},O=pre++st->U8 (c::st).reverse=(U8 O.reverse).take st.length++[Hi c]:=λ{pre st} e=>by
   rw [e]; simp [U8,Yb,List.take_append]
  have hfull:U8 (c::O).reverse=U8 O.reverse++[Hi c]:=by simp [U8]
  refine go tt [.t (by simp [hcl]; omega),.x (Ru hc)] rfl trivial ?_;refine lp (S:=Bool×List Pt) 3 (λL1 s=>(5,.v (.one (.orow 1 5 (cond s.1 (some (0,s.2.length)) none))))::L1) (λ_=>[.blk 74 (ta t),.row false 135 5 (U8 O.reverse),.blk 135 (Hi c)]) (λs=>s.2.length) (λst=>(∃ pre,O=pre++st.2/\(st.1=false->pre=[]))/\Cv s c st.2=Cv s c O) (false,O) ⟨⟨[],rfl,λ_=>rfl⟩,rfl⟩ rfl (λ_ _=>rfl) rfl λ⟨b,st⟩ ⟨⟨pre,h1,h2⟩,h3⟩=>?_
  have h1:O=pre++st:=h1;have h3:Cv s c st=Cv s c O:=h3;have hl1:O.length=pre.length+st.length:=by rw [h1,Q5]
  have fin:∀ {st:List Pt},O=pre++st->Cv s c st=Cv s c O->Cv s c st=st->U8 (Sy s [] (R.take (i+1))).reverse=(U8 O.reverse).take st.length++[Hi c]/\(pre=[]->U8 (Sy s [] (R.take (i+1))).reverse=U8 O.reverse++[Hi c]):=λ{st} e1 e2 e3=>by
   rw [hst,<-e2,e3];refine ⟨hfin e1,λhp=>?_⟩;rw [hp] at e1;rw [<-hfull,e1]; rfl
  rcases st with _ | ⟨z,_ | ⟨y,r⟩⟩
  ·obtain ⟨f1,f2⟩:=fin h1 h3 rfl;cases b with
   |
    false =>
    have hp:=h2 rfl;have f2:=f2 hp;rw [hp] at hl1;have hl2:(U8 O.reverse).length<=1:=by rw [hrl,hl1]; simp
    refine go tt [.g 17 false (decide_eq_false (by omega)),.f rfl,.s (sz:=5) hm] rfl (by simp [Uu]; omega) ?_;exact rd (i+1) (by omega) hlt (by rw [f2]; rfl)
   |
    true =>
    refine go tt [.g 17 false (decide_eq_false (by simp)),.f rfl,.s (sz:=5) hm] rfl (by simp [Uu]; omega) ?_;exact rd (i+1) (by omega) hlt (by rw [f1]; rfl)
  ·obtain ⟨f1,f2⟩:=fin h1 h3 rfl;cases b with
   |
    false =>
    have hp:=h2 rfl;have f2:=f2 hp;rw [hp] at hl1;have hl2:(U8 O.reverse).length<=1:=by rw [hrl,hl1]; simp
    refine go tt [.g 17 false (decide_eq_false (by omega)),.f rfl,.s (sz:=5) hm] rfl (by simp [Uu]; omega) ?_;exact rd (i+1) (by omega) hlt (by rw [f2]; rfl)
   |
    true =>
    refine go tt [.g 17 false (decide_eq_false (by simp)),.f rfl,.s (sz:=5) hm] rfl (by simp [Uu]; omega) ?_;exact rd (i+1) (by omega) hlt (by rw [f1]; rfl)
  ·have sz:=hOm z (by rw [h1]; simp);have sy:=hOm y (by rw [h1]; simp);have co:=Qrk sy sz hcp;have cg:=Qys (Qe9 sy sz hcp).dp ht;have gz:=hget h1 (r.length+1) rfl;have gy:=hget (pre:=pre++[z]) (r:=r) (x:=y) (by rw [h1]; simp) r.length rfl;have hl1:O.length=pre.length+(r.length+2):=hl1;have hls:=hs' y z c;by_cases hq:s y z c=true
   ·have hg:¬Nc (Rp t) (Hp y.c z.c c.c)<=0:=by rw [hls] at hq; have:=of_decide_eq_true hq; omega
    obtain ⟨f1,f2⟩:=fin h1 h3 (by simp only [Cv]; rw [if_pos hq]);cases b with
    |
     false =>
     have hp:=h2 rfl;have f2:=f2 hp;rw [hp] at hl1;have hl2:(U8 O.reverse).length=r.length+2:=by rw [hrl,hl1]; simp
     refine go tt [.g 17 true (decide_eq_true (by omega)),.r 21 (eI (b:=(r.length:Int)) (by omega)),.i r.length,.x gy,.r 28 (eI (b:=((r.length+1:Nat):Int)) (by omega)),.i (r.length+1),.x gz,.c [] co,.c [] cg,.f (decide_eq_false hg),.s (sz:=5) hm] rfl (by simp [Uu]; omega) ?_;exact rd (i+1) (by omega) hlt (by rw [f2]; rfl)
    |
     true =>
     refine go tt [.g 17 true (decide_eq_true (by simp; omega)),.r 21 (eI (b:=(r.length:Int)) (by simp; omega)),.i r.length,.x (l:=U8 O.reverse) (i:=0+r.length) (xs:=Hi y) (by rw [Zu]; exact gy),.r 28 (eI (b:=((r.length+1:Nat):Int)) (by simp)),.i (r.length+1),.x (l:=U8 O.reverse) (i:=0+(r.length+1)) (xs:=Hi z) (by rw [Zu]; exact gz),.c [] co,.c [] cg,.f (decide_eq_false hg),.s (sz:=5) hm] rfl (by simp [Uu]; omega) ?_;exact rd (i+1) (by omega) hlt (by rw [f1]; rfl)
   ·have hg:Nc (Rp t) (Hp y.c z.c c.c)<=0:=by
     rw [hls] at hq; have:=of_decide_eq_false (Bool.eq_false_iff.2 hq); omega
    have hpop:Cv s c (y::r)=Cv s c O:=by rw [<-h3]; simp only [Cv]; rw [if_neg hq]
    have hin:(∃ pre',O=pre'++(y::r)/\((true:Bool)=false->pre'=[]))/\Cv s c (y::r)=Cv s c O:=⟨⟨pre++[z],by rw [h1]; simp,λh=>by cases h⟩,hpop⟩;cases b with
    |
     false =>
     have hp:=h2 rfl;rw [hp] at hl1;have hl2:(U8 O.reverse).length=r.length+2:=by rw [hrl,hl1]; simp
     refine go tt [.g 17 true (decide_eq_true (by omega)),.r 21 (eI (b:=(r.length:Int)) (by omega)),.i r.length,.x gy,.r 28 (eI (b:=((r.length+1:Nat):Int)) (by omega)),.i (r.length+1),.x gz,.c [] co,.c [] cg,.t (decide_eq_true hg),.r 42 (eI (b:=((r.length+1:Nat):Int)) (by omega)),.i (r.length+1)] rfl (by simp [Uu]; omega) ?_;exact rd (true,y::r) (by simp) hin rfl
    |
     true =>
     refine go tt [.g 17 true (decide_eq_true (by simp; omega)),.r 21 (eI (b:=(r.length:Int)) (by simp; omega)),.i r.length,.x (l:=U8 O.reverse) (i:=0+r.length) (xs:=Hi y) (by rw [Zu]; exact gy),.r 28 (eI (b:=((r.length+1:Nat):Int)) (by simp)),.i (r.length+1),.x (l:=U8 O.reverse) (i:=0+(r.length+1)) (xs:=Hi z) (by rw [Zu]; exact gz),.c [] co,.c [] cg,.t (decide_eq_true hg),.r 42 (eI (b:=((r.length+1:Nat):Int)) (by simp)),.i (r.length+1)] rfl (by simp [Uu]; omega) ?_;exact rd (true,y::r) (by simp) hin rfl
 ·obtain rfl:i=R.length:=by omega
  rw [Q0];exact en tt [.f (by simp [hcl])] rfl rfl trivial
theorem Qvs {sg:List Int->Int} {R:List Pt} (h:R≠[]):0<(Sf sg R).length:=by
 unfold Sf;rw [X3];obtain ⟨x,hx⟩:∃ x,R.getLast? = some x:=⟨_,Yl h⟩;obtain ⟨l,hl⟩:=Y7.1 hx;rw [hl,Ly]; simp
theorem Qtl {α:Type} (s:α->α->α->Bool) (c:α):∀ {st:List α},st≠[]->0<(Cv s c st).length
 | [],h=>absurd rfl h
 | [_],_=>by simp [Cv]
 |
  b::a::r,_=>by
  simp only [Cv]
  split
  ·simp
  ·exact Qtl s c (by simp)
theorem Qi0 {sg:List Int->Int} {R:List Pt} (h:2<=R.length):2<=(Sf sg R).length:=by
 unfold Sf;rw [X3];obtain ⟨x,hx⟩:∃ x,R.getLast? = some x:=⟨_,Yl (by intro e; rw [e] at h; simp at h)⟩;obtain ⟨l,hl⟩:=Y7.1 hx;have hl0:l≠[]:=by intro e; rw [hl,e] at h; simp at h
 have:=Qvs (sg:=sg) hl0;unfold Sf at this;rw [X3] at this;have:=Qtl (Qdt sg) x (st:=Sy (Qdt sg) [] l) (by intro e; rw [e] at this; simp at this);rw [hl,Ly,Q7]; omega
theorem Zce {R:List Pt} {t:Tm} (hR:∀ p∈R,Sc p.c) (hn:R.length≤1000000) (ht:Va t):Uw Tryz.prog 188 [.agg (ta t),.one (pts R)] [.one (pts (Pp (Rp t) R))]:=by
 have hcl:=Rv R;have hrl:=Rv R.reverse;rw [X3] at hrl;show Uw Tryz.prog 188 [.agg (ta t),.one (.row (U8 R))] [.one (.row (U8 (Pp (Rp t) R)))];refine Hn Tryz.func188 rfl ?_;by_cases h3:R.length<3
 ·have e:Pp (Rp t) R=R:=if_pos h3;rw [e];exact en tt [.t (decide_eq_true (by omega))] rfl rfl trivial
 have c1:=Qyo hR hn ht;have c2:=Qyo (R:=R.reverse) (λp hp=>hR p (X8.1 hp)) (by rw [X3]; exact hn) ht;have p1:=Qi0 (sg:=Rp t) (R:=R) (by omega);have p2:=Qi0 (sg:=Rp t) (R:=R.reverse) (by rw [X3]; omega);have k1:=Ia (Rp t) R;have k2:=Ia (Rp t) R.reverse;rw [X3] at k2;refine go tt [.f (decide_eq_false (by omega)),.o 5 135 5,.r 15 (eI (b:=(R.length:Int)-1-((0:Nat):Int)) (by omega))] rfl (by simp [Uu,hcl]; omega) ?_;refine lp (S:=Nat) 2 (λL1 j=>(6,.v (.one (.int .i64 ((R.length:Int)-1-(j:Int)))))::(5,.v (.one (.orow 1 5 none)))::L1) (λj=>[.blk 74 (ta t),.row false 135 5 (U8 (R.reverse.take j))]) (λj=>R.length-j) (λj=>j<=R.length) 0 (Qg _) rfl (λ_ _=>rfl) rfl λj hj=>?_
 by_cases hlt:j<R.length
 ·obtain ⟨x,hx⟩:=gxE (l:=R) (i:=R.length-1-j) (by omega);have hx':R.reverse[j]? = some x:=by rw [List.getElem?_reverse (by omega)]; exact hx
  have hm:∀ y∈[Hi x],y.length=5:=λy hy=>by rw [Qj.1 hy]; rfl
  have e:U8 (R.reverse.take (j+1))=U8 (R.reverse.take j)++[Hi x]:=by rw [Zw,hx']; simp [U8]
  have htl:(U8 (R.reverse.take j)).length=j:=by rw [Rv,Qr,X3]; omega
  refine go tt [.t (decide_eq_true (by omega)),.r 22 (eI (b:=((R.length-1-j:Nat):Int)) (by omega)),.x (Ru hx),.s (sz:=5) hm,.r 19 (eI (b:=(R.length:Int)-1-((j+1:Nat):Int)) (by omega))] rfl (by simp [Uu,htl]; omega) ?_;exact rd (j+1) (by omega) hlt (by rw [e]; rfl)
 ·obtain rfl:j=R.length:=by omega
  rw [Qn (by rw [X3]; exact Qi _)];obtain ⟨A,hA⟩:=nmE (Sf (Rp t) R);obtain ⟨C,hC⟩:=nmE (Sf (Rp t) R.reverse);have e:Pp (Rp t) R=A.dropLast++C.dropLast:=by rw [hA,hC]; exact if_neg h3
  rw [<-hA] at c1 p1 k1;rw [<-hC] at c2 p2 k2;rw [e];have hs:∀ y∈(C.map Hi).take (C.length-1),y.length=5:=λy hy=>Qqd C y (Ql hy)
  have hs2:∀ y∈(A.map Hi).take (A.length-1),y.length=5:=λy hy=>Qqd A y (Ql hy)
  refine en tt [.f (decide_eq_false (by omega)),.p 1,.c [] c1,.c [] c2,.r 36 (eI (b:=((A.length-1:Nat):Int)) (by simp; omega)),.r 39 (eI (b:=((A.length-1:Nat):Int)) (by simp; omega)),.i (A.length-1),.r 44 (eI (b:=((C.length-1:Nat):Int)) (by simp; omega)),.i (C.length-1),.s (sz:=5) hs] rfl (by simp [U8,Yb,List.dropLast_eq_take]) ?_;simp only [Uu,Qr,Zc]
  and_intros <;> first | exact hs2 | omega
theorem Qrl {l:List Pt} {t:Tm} (hl:∀ p∈l,Sc p.c) (hn:l.length≤1000000) (ht:Va t):Se Tryz.prog 182 [.agg (ta t),.one (pts l)] [] [.one (.orow 0 7 none)] [.row false 90 7 (He (Mk (Rp t) l))]:=by
 have hcl:=Rv l;show Se Tryz.prog 182 [.agg (ta t),.one (.row (U8 l))] [] [.one (.orow 0 7 none)] [.row false 90 7 (He (Mk (Rp t) l))];refine Hn Tryz.func182 rfl ?_;refine go tt [.o 5 90 7] rfl trivial ?_;refine lp (S:=Nat) 2 (λL1 i=>(6,.v (.one (.int .i64 ((i+1:Nat):Int))))::(5,.v (.one (.orow 1 7 none)))::L1) (λi=>[.blk 74 (ta t),.row false 90 7 (He ((Mk (Rp t) l).take i))]) (λi=>l.length-i) (λi=>i<=l.length-1) 0 (Qg _) rfl (λ_ _=>rfl) rfl λi hi=>?_
 by_cases hlt:i+1<l.length
 ·obtain ⟨a,ha⟩:=gxE (l:=l) (i:=i) (by omega);obtain ⟨b,hb⟩:=gxE (l:=l) (i:=i+1) hlt;have hg:=Qf3 (Rp t) ha hb;have hm:∀ y∈[Qkh (Di (Rp t) a b)],y.length=7:=λy hy=>by rw [Qj.1 hy]; rfl
  refine go tt [.t (by simp [hcl]; omega),.r 19 (eI (b:=(i:Int)) (by simp)),.x (Ru ha),.x (Ru hb),.c [] (Zbt (hl a (Qa ha)) (hl b (Qa hb)) ht),.s (sz:=7) hm,.r 14 (eI (b:=((i+1+1:Nat):Int)) (by simp))] rfl (by simp [Uu,Rv,Eg,By]; omega) ?_;exact rd (i+1) (by omega) (by omega) (by rw [hg]; simp [He]; rfl)
 ·have e:(Mk (Rp t) l).take i=Mk (Rp t) l:=Qn (by rw [By]; omega);rw [e];exact ed tt [] [1] [.f (by simp [hcl]; omega)] rfl trivial
theorem Qgk {C:List Pt} {i:Nat} {a b:Pt} (ha:C[i]? = some a) (hb:C[(i+1) % C.length]? = some b):(Ge C)[i]? = some (a,b):=by
 have hi:=(Qc.1 ha).1;unfold Ge;rw [List.getElem?_zip_eq_some];refine ⟨ha,?_⟩;by_cases h:i+1<C.length
 ·rw [Xb h] at hb;rw [Q8 (by rw [Xt]; omega),Xe,Jm]; exact hb
 ·have e:i+1=C.length:=by omega
  rw [e,Uj] at hb;rw [Zn (by rw [Xt]; omega),Xt,show i-(C.length-1)=0 by omega,Ve (by omega)]; exact hb
theorem Oq (C:List Pt):(Ge C).length=C.length:=by
 unfold Ge;rw [List.length_zip,Q5,Xt,Qr]; omega
theorem Qao {α β:Type} {f:α->List β} {l:List α} {i:Nat} {x:α} (h:l[i]? = some x):(l.take (i+1)).flatMap f=(l.take i).flatMap f++f x:=by
 rw [Zw,h]; simp
theorem Ay {α β:Type} {f:α->β} {p:α->Bool} {l:List α} {i:Nat} {x:α} (h:l[i]? = some x):((l.take (i+1)).filter p).map f=((l.take i).filter p).map f++if p x=true then [f x] else []:=by
 rw [Zw,h,List.filter_append,Yi];congr 1;simp only [Option.toList];by_cases hp:p x=true
 ·rw [if_pos hp,List.filter_cons_of_pos hp]; rfl
 ·rw [if_neg hp,List.filter_cons_of_neg hp]; rfl
theorem Ow {α β:Type} {f:α->List β} {n:Nat} (hf:∀ x,(f x).length<=n) (l:List α):(l.flatMap f).length<=l.length*n:=Qcc f n l λx _=>hf x
theorem Ze9 {l:List Pt} (hl:∀ p∈l,Sc p.c):∀ p∈l,Quu 4294967294 1073741824 p:=λp hp=>⟨(hl p hp).n,(hl p hp).c.mono (by decide) (by decide)⟩
set_option maxHeartbeats 4000000 in
theorem Q1y {l:List Pt} {a:Tm} (hl:∀ p∈l,Sc p.c) (hn:l.length≤10) (ha:Va a):Se Tryz.prog 113 [.one (.ow 0 0),.agg (ta a)] [.blk 124 (crz (.row (U8 l)) .nils)] [.one (.row (He (bcH l a)))] [.blk 124 (crz (.row (U8 l)) (.row (brH l a)))]:=by
 have hwl:=Quk l;have cw:=Zhe (l:=l) (Ze9 hl) (by omega);have cr:=Zfp (l:=Sb l) (λp hp=>hl p (Cz hp)) (by omega) ha;have cn:=Zce (R:=Sk a (Sb l)) (λp hp=>hl p (Cz (Mj.1 hp))) (by rw [Qaj]; omega) ha;have cr2:=Zfp hl (by omega) ha;have cc:=Qrl (l:=Sk a l) (t:=a) (λp hp=>hl p (Mj.1 hp)) (by rw [Qaj]; omega) ha;have hCm:∀ p∈Gz l a,p∈l:=λp hp=>Tg hp
 have hCl:=Qa0 l a;have e0:bcH l a=bcS l a++Il (Rp a) l (Gz l a):=rfl;rw [e0];show Se Tryz.prog 113 _ _ _ [.blk 124 (crz (.row (U8 l)) (.row (U8 (Gz l a))))];have cn:Uw Tryz.prog 188 [.agg (ta a),.one (pts (Sk a (Sb l)))] [.one (pts (Gz l a))]:=cn;have cc:Se Tryz.prog 182 [.agg (ta a),.one (pts (Sk a l))] [] [.one (.orow 0 7 none)] [.row false 90 7 (He (bcS l a))]:=cc;have hbl:(bcS l a).length<=10:=by unfold bcS; rw [By,Qaj]; omega
 obtain ⟨C,hC⟩:=nmE (Gz l a);obtain ⟨cs0,hc0⟩:=nmE (bcS l a);rw [<-hC] at cn hCm hCl ⊢;rw [<-hc0] at cc hbl ⊢;have hcp:=Rv C;have hlp:=Rv l;have eel:∀ x,(Eh (Rp a) l x).length<=l.length:=λx=>by unfold Eh; rw [List.length_map]; exact List.length_filter_le _ _
 refine Hn Tryz.func113 rfl ?_;refine go tt [.c [] cw,.c [] cr,.c [] cn,.c [] Q4x,.c [] cr2,.c [2] cc] rfl trivial ?_;by_cases h2:C.length<2
 ·have e:Il (Rp a) l C=[]:=if_pos h2;rw [e,Zy];exact ed tt [2] [0] [.t (decide_eq_true (by simp; omega))] rfl trivial
 have e:Il (Rp a) l C=(Ge C).flatMap (Eh (Rp a) l):=if_neg h2;rw [e];refine go tt [.f (decide_eq_false (by simp; omega))] rfl trivial ?_;refine sb [(48,.v (.one (.int .i64 0))),(47,.v (.one (.int .i64 ((C.map Hi).length:Int)))),(46,.v (.one (pts C))),(6,.v (.one (.orow 2 7 none))),(3,.v (.one (.ow 1 0))),(0,.v (.one (.ow 0 0)))] [.blk 124 (crz (.row (U8 l)) (.row (U8 C))),.blk 74 (ta a),.row false 90 7 (He cs0)] rfl rfl ?_;rw [show He cs0=He (cs0++((Ge C).take 0).flatMap (Eh (Rp a) l)) by simp];refine lp (S:=Nat) 3 (λL1 i=>(48,.v (.one (.int .i64 (i:Int))))::(6,.v (.one (.orow 2 7 none)))::L1) (λi=>[.blk 124 (crz (.row (U8 l)) (.row (U8 C))),.blk 74 (ta a),.row false 90 7 (He (cs0++((Ge C).take i).flatMap (Eh (Rp a) l)))]) (λi=>C.length-i) (λi=>i<=C.length) 0 (Qg _) rfl (λ_ _=>rfl) rfl λi hi=>?_
 by_cases hlt:i<C.length
 ·obtain ⟨x,hx⟩:=gxE (l:=C) (i:=i) hlt;obtain ⟨y,hy⟩:=gxE (l:=C) (i:=(i+1) % C.length) (Z0 _ (by omega));have he:=Qgk hx hy;have sx:=hl x (hCm x (Qa hx));have sy:=hl y (hCm y (Qa hy));have hflat:=Qao (f:=Eh (Rp a) l) he;obtain ⟨F,hF⟩:=nmE (cs0++((Ge C).take i).flatMap (Eh (Rp a) l));have hFl:F.length<=10+20*10:=by
   have h1:=Ow eel ((Ge C).take i);have h2:((Ge C).take i).length*l.length<=20*10:=Zr (by rw [Qr]; omega) hn;rw [hF,Q5]; omega
  have hmod:(((i+1:Nat):Int)).tmod ((C.map Hi).length:Int)=(((i+1) % C.length:Nat):Int):=by rw [Zc]; exact (Int.ofNat_tmod _ _).symm
  have hm0:=Yv ((i+1:Nat):Int) (show (C.length:Int)≠0 by omega);have hm1:=Yc ((i+1:Nat):Int) (show (0:Int)<C.length by omega);have hnext:cs0++((Ge C).take (i+1)).flatMap (Eh (Rp a) l)=F++(l.filter (Bu (x,y))).map λc=>Ae (Rp a) x y c:=by rw [hflat,<-Zi,<-hF]; rfl
  rw [<-hF];refine go tt [.t (decide_eq_true (by simp; omega)),.x (Ru hx),.r 58 (eI (b:=((i+1:Nat):Int)) (by simp)),.r 64 (eI (b:=(((i+1) % C.length:Nat):Int)) hmod),.x (Ru hy),.c [] Q4x] rfl (by simp only [Uu]; omega) ?_;rw [show He F=He (F++((l.take 0).filter (Bu (x,y))).map λc=>Ae (Rp a) x y c) by simp];refine lp (S:=Nat) 5 (λL1 k=>(73,.v (.one (.int .i64 (k:Int))))::(6,.v (.one (.orow 2 7 none)))::L1) (λk=>[.blk 124 (crz (.row (U8 l)) (.row (U8 C))),.blk 74 (ta a),.row false 90 7 (He (F++((l.take k).filter (Bu (x,y))).map λc=>Ae (Rp a) x y c)),.blk 135 (Hi x),.blk 135 (Hi y)]) (λk=>l.length-k) (λk=>k<=l.length) 0 (Qg _) rfl (λ_ _=>rfl) rfl λk hk=>?_
  by_cases hlk:k<l.length
  ·obtain ⟨z,hz⟩:=gxE (l:=l) (i:=k) hlk;have sz:=hl z (Qa hz);have hflt:=Ay (f:=λc=>Ae (Rp a) x y c) (p:=Bu (x,y)) hz;obtain ⟨G,hG⟩:=nmE (((l.take k).filter (Bu (x,y))).map λc=>Ae (Rp a) x y c);have hGl:G.length<=10:=by
    have h1:=List.length_filter_le (Bu (x,y)) (l.take k);rw [Qr] at h1;rw [hG,Zc]; omega
   rw [<-hG] at hflt ⊢;by_cases h1:z.id=x.id
   ·rw [if_neg (show ¬Bu (x,y) z=true by simp [Bu,h1]),Zy] at hflt;refine go tt [.t (decide_eq_true (by simp; omega)),.x (Ru hz),.g 82 false (decide_eq_false (by simp [h1])),.f rfl] rfl (by simp [Uu]; omega) ?_;exact rd (k+1) (by omega) hlk (by rw [hflt]; rfl)
   ·by_cases h2:z.id=y.id
    ·rw [if_neg (show ¬Bu (x,y) z=true by simp [Bu,h2]),Zy] at hflt;refine go tt [.t (decide_eq_true (by simp; omega)),.x (Ru hz),.g 82 true (decide_eq_true h1),.f (decide_eq_false (by simp [h2]))] rfl (by simp [Uu]; omega) ?_;exact rd (k+1) (by omega) hlk (by rw [hflt]; rfl)
    ·rw [if_pos (show Bu (x,y) z=true by simp [Bu,h1,h2])] at hflt;have hm:∀ q∈[Qkh (Ae (Rp a) x y z)],q.length=7:=λq hq=>by rw [Qj.1 hq]; rfl
     refine go tt [.t (decide_eq_true (by simp; omega)),.x (Ru hz),.g 82 true (decide_eq_true h1),.t (decide_eq_true h2),.c [] (Zbu sx sy sz ha),.s (sz:=7) hm] rfl (by simp [Uu,Eg]; omega) ?_;have e3:He (F++(G++[Ae (Rp a) x y z]))=He (F++G)++[Qkh (Ae (Rp a) x y z)]:=by simp [He]
     exact rd (k+1) (by omega) hlk (by rw [hflt,e3]; rfl)
  ·obtain rfl:k=l.length:=by omega
   rw [Q0,<-hnext];refine go tt [.f (decide_eq_false (by simp))] rfl (by simp [Uu]; omega) ?_;exact rd (i+1) (by omega) hlt rfl
 ·obtain rfl:i=C.length:=by omega
  rw [Qn (by rw [Oq]; exact Qi _)];exact ed tt [2] [0] [.f (decide_eq_false (by simp))] rfl trivial
def Qk2 (a b:Crv):Bool:=decide ((Qk0 (Er a.x a.d) (Er b.x b.d)).length=0) && decide ((Qk0 (Er a.y a.d) (Er b.y b.d)).length=0)
theorem Zb9 {a b:Crv} (ha:Rs a) (hb:Rs b):Uw Tryz.prog 326 [.agg (rcl a),.agg (rcl b)] [.one (.bool (Qk2 a b))]:=by
 have lx1:=ha.c.lx;have ly1:=ha.c.ly;have lx2:=hb.c.lx;have ly2:=hb.c.ly;have cx:=Qvo (p:=Er a.x a.d) (q:=Er b.x b.d) (Qcq (Uv ha.c.x (by decide)) (Qd ha.c.d (by decide)) (by decide)) (Qcq (Uv hb.c.x (by decide)) (Qd hb.c.d (by decide)) (by decide)) (by rw [Mq]; omega) (by rw [Mq]; omega);have cy:=Qvo (p:=Er a.y a.d) (q:=Er b.y b.d) (Qcq (Uv ha.c.y (by decide)) (Qd ha.c.d (by decide)) (by decide)) (Qcq (Uv hb.c.y (by decide)) (Qd hb.c.d (by decide)) (by decide)) (by rw [Mq]; omega) (by rw [Mq]; omega);unfold Qk2;generalize Qk0 (Er a.x a.d) (Er b.x b.d)=X at *;generalize Qk0 (Er a.y a.d) (Er b.y b.d)=Y at *;have hX:(frow X).length=X.length:=by simp [frow]
 have hY:(frow Y).length=Y.length:=by simp [frow]
 by_cases h:X.length=0
 ·by_cases h':Y.length=0
  ·rw [decide_eq_true h,decide_eq_true h'];exact w tt Tryz.func326 rfl [.c [] cx,.g 12 true (decide_eq_true (by omega)),.c [] cy,.g 19 true (decide_eq_true (by omega))] rfl rfl trivial
  ·rw [decide_eq_true h,decide_eq_false h'];exact w tt Tryz.func326 rfl [.c [] cx,.g 12 true (decide_eq_true (by omega)),.c [] cy,.g 19 false (decide_eq_false (by omega))] rfl rfl trivial
 ·rw [decide_eq_false h];exact w tt Tryz.func326 rfl [.c [] cx,.g 12 false (decide_eq_false (by omega))] rfl rfl trivial
def Qhk (out:List Pt) (p:Pt):List Pt:=if (out.any λo=>Qk2 o.c p.c)=true then out else out++[p]
def Ee (l:List Pt):List Pt:=(Fx Lt l).foldl Qhk []
theorem Qer:∀ (M O:List Pt),(∀ p∈M.foldl Qhk O,p∈O\/p∈M)/\(M.foldl Qhk O).length≤O.length+M.length
 | [],O=>⟨λp hp=>.inl hp,by simp⟩
 |
  x::M,O=>by
  obtain ⟨h1,h2⟩:=Qer M (Qhk O x);have e1:(Qhk O x).length<=O.length+1:=by unfold Qhk; split <;> simp
  refine ⟨λp hp=>?_,by rw [Xg,Q7]; omega⟩;rcases h1 p hp with h | h
  ·unfold Qhk at h
   split at h
   ·exact .inl h
   ·rcases Qt.1 h with h | h
    ·exact .inl h
    ·exact .inr (by rw [Qj.1 h]; simp)
  ·exact .inr (Qk _ h)
theorem Qgc {l:List Pt} {p:Pt} (h:p∈Ee l):p∈l:=by
 rcases (Qer (Fx Lt l) []).1 p h with h | h
 ·cases h
 ·exact Sx.1 h
theorem Qn7 (l:List Pt):(Ee l).length<=l.length:=by
 have:=(Qer (Fx Lt l) []).2;rw [H5,Yx,Zu] at this;exact this
theorem Zak {α:Type} {f:α->Bool} {l:List α} {i:Nat} {x:α} (h:l[i]? = some x):(l.take (i+1)).any f=((l.take i).any f || f x):=by
 rw [Zw,h,List.any_append]; simp
theorem Zcb {l:List Pt} (hl:∀ p∈l,Rs p.c) (hn:l.length≤1000):Uw Tryz.prog 297 [.one (.row (Fc l))] [.one (.row (Fc (Ee l)))]:=by
 have c1:=Qy0 (l:=l) (by omega);have hML:(Fx Lt l).length=l.length:=H5 _ _;have hMl:∀ p∈Fx Lt l,Rs p.c:=λp hp=>hl p (Sx.1 hp)
 unfold Ee;obtain ⟨M,hM⟩:=nmE (Fx Lt l);rw [<-hM] at c1 hML hMl ⊢;have hcl:=Gy M;refine Hn Tryz.func297 rfl ?_;refine go tt [.o 3 57 7,.c [] c1] rfl trivial ?_;refine lp (S:=Nat) 1 (λL1 i=>(11,.v (.one (.int .i64 (i:Int))))::(3,.v (.one (.orow 0 7 none)))::L1) (λi=>[.row false 57 7 (Fc ((M.take i).foldl Qhk []))]) (λi=>M.length-i) (λi=>i<=M.length) 0 (Qg _) rfl (λ_ _=>rfl) rfl λi hi=>?_
 by_cases hlt:i<M.length
 ·obtain ⟨p,hp⟩:=gxE (l:=M) (i:=i) hlt;have hpr:=hMl p (Qa hp);have hst:=Tj Qhk [] M hp;have hsub:=Qer (M.take i) [];obtain ⟨O,hO⟩:=nmE ((M.take i).foldl Qhk []);rw [<-hO] at hst hsub ⊢;have hOl:O.length<=1000:=by have:=hsub.2; rw [Yx,Qr] at this; omega
  have hOm:∀ o∈O,Rs o.c:=λo ho=>by
   rcases hsub.1 o ho with h | h
   ·cases h
   ·exact hMl o (Ql h)
  have hrl:=Gy O;refine go tt [.t (decide_eq_true (by omega))] rfl trivial ?_;refine lp (S:=Nat) 1 (λL1 k=>(16,.v (.one (.int .i64 (k:Int))))::(5,.v (.one (.bool ((O.take k).any λo=>Qk2 o.c p.c))))::L1) (λ_=>[.row false 57 7 (Fc O)]) (λk=>O.length-k) (λk=>k<=O.length) 0 (Qg _) rfl (λ_ _=>rfl) rfl λk hk=>?_
  by_cases hkl:k<O.length
  ·obtain ⟨o,ho⟩:=gxE (l:=O) (i:=k) hkl;have ha:=Zak (f:=λo=>Qk2 o.c p.c) ho;cases hb:(O.take k).any λo=>Qk2 o.c p.c with
   |
    true =>
    rw [hb,Ud] at ha;refine go tt [.t (decide_eq_true (by omega)),.g 20 true rfl] rfl (by simp [Uu] <;> omega) ?_;exact rd (k+1) (by omega) hkl (by rw [ha]; rfl)
   |
    false =>
    rw [hb,V9] at ha;refine go tt [.t (decide_eq_true (by omega)),.g 20 false rfl,.i k,.x (Fa ho),.x (Fa hp),.c [] (Zb9 (hOm o (Qa ho)) hpr)] rfl (by simp [Uu] <;> omega) ?_;exact rd (k+1) (by omega) hkl (by rw [ha]; rfl)
  ·obtain rfl:k=O.length:=by omega
   rw [Q0];have h7z:∀ y∈[Cf p],y.length=7:=λy hy=>by rw [Qj.1 hy]; rfl
   cases hb:O.any λo=>Qk2 o.c p.c with
   |
    true =>
    have e:Qhk O p=O:=if_pos hb;refine go tt [.f (decide_eq_false (by omega)),.f rfl] rfl (by simp [Uu] <;> omega) ?_;exact rd (i+1) (by omega) hlt (by rw [hst,e]; rfl)
   |
    false =>
    have e:Qhk O p=O++[p]:=if_neg (by rw [hb]; decide);refine go tt [.f (decide_eq_false (by omega)),.t rfl,.x (Fa hp),.s (sz:=7) h7z] rfl (by simp [Uu] <;> omega) ?_;exact rd (i+1) (by omega) hlt (by rw [hst,e]; simp [Fc]; rfl)
 ·obtain rfl:i=M.length:=by omega
  rw [Q0];exact en tt [.f (decide_eq_false (by omega))] rfl rfl trivial
def Zg0 (q:Rat) (a b c:Pt):Bool:=(Nw q a c && Nw q c b) || (Nw q b c && Nw q c a)
def C9 (q:Rat) (a b c:Pt):Bool:=decide (c.id=a.id) || (decide (c.id=b.id) || !(decide (S0 (S7 a.c b.c c.c) q<0) || (decide (S0 (S7 a.c b.c c.c) q=0) && !Zg0 q a b c)))
def Qdh (q:Rat) (a b:Pt) (l:List Pt):Bool:=l.all (C9 q a b)
theorem Qoo {a b:Pt} {l:List Pt} {q:Rat} {cs:List (List Int)} (ha:Rs a.c) (hb:Rs b.c) (hl:∀ p∈l,Rs p.c) (hn:l.length≤1000) (hq:Qs 1000000 q):Uw Tryz.prog 324 [.agg (Cf a),.agg (Cf b),.one (.row (Fc l)),.agg (aq q cs)] [.one (.bool (Qdh q a b l))]:=by
 have hcl:=Gy l;refine Hn Tryz.func324 rfl ?_;refine go tt [] rfl trivial ?_;refine lp (S:=Nat) 3 (λL1 i=>(14,.v (.one (.int .i64 (i:Int))))::L1) (λ_=>[.blk 57 (Cf a),.blk 57 (Cf b),.blk 37 (aq q cs)]) (λi=>l.length-i) (λi=>i<=l.length/\Qdh q a b l=Qdh q a b (l.drop i)) 0 ⟨Qg _,rfl⟩ rfl (λ_ _=>rfl) rfl λi ⟨hi,he⟩=>?_
 by_cases hlt:i<l.length
 ·obtain ⟨c,hc⟩:=gxE (l:=l) (i:=i) hlt;have hcr:=hl c (Qa hc);have hdr:Qdh q a b (l.drop i)=(C9 q a b c && Qdh q a b (l.drop (i+1))):=by
   obtain ⟨h1,h2⟩:=Qc.1 hc;rw [Zl h1,h2]; rfl
  have co:=Qay ha hb hcr;have hsz:=Qkk ha hb hcr;have cA:=Ci (c:=cs) (Uv hsz.1 (by decide)) (Qd hsz.2 (by decide)) hq;have b1:=Dt (c:=cs) ha hcr hq;have b2:=Dt (c:=cs) hcr hb hq;have b3:=Dt (c:=cs) hb hcr hq;have b4:=Dt (c:=cs) hcr ha hq;by_cases h1:c.id=a.id
  ·have e:C9 q a b c=true:=by simp [C9,h1]
   rw [e,Vk] at hdr;refine go tt [.t (decide_eq_true (by omega)),.x (Fa hc),.g 26 true (decide_eq_true h1),.t rfl] rfl (by simp [Uu] <;> omega) ?_;exact rd (i+1) (by omega) ⟨hlt,by rw [he,hdr]⟩ rfl
  by_cases h2:c.id=b.id
  ·have e:C9 q a b c=true:=by simp [C9,h2]
   rw [e,Vk] at hdr;refine go tt [.t (decide_eq_true (by omega)),.x (Fa hc),.g 26 false (decide_eq_false h1),.t (decide_eq_true h2)] rfl (by simp [Uu] <;> omega) ?_;exact rd (i+1) (by omega) ⟨hlt,by rw [he,hdr]⟩ rfl
  have e0:C9 q a b c = !(decide (S0 (S7 a.c b.c c.c) q<0) || (decide (S0 (S7 a.c b.c c.c) q=0) && !Zg0 q a b c)):=by unfold C9; rw [decide_eq_false h1,decide_eq_false h2,Bool.false_or,Bool.false_or]
  generalize S0 (S7 a.c b.c c.c) q=s at *;by_cases hs:s<0
  ·rw [decide_eq_true hs,Ud] at e0;rw [e0] at hdr;rw [he,hdr];exact en tt [.t (decide_eq_true (by omega)),.x (Fa hc),.g 26 false (decide_eq_false h1),.f (decide_eq_false h2),.c [] co,.c [] cA,.g 44 true (decide_eq_true hs),.t rfl] rfl rfl trivial
  rw [decide_eq_false hs,V9] at e0;by_cases hz:s=0
  ·rw [decide_eq_true hz,Vk,Bool.not_not] at e0;unfold Zg0 at e0;cases k1:Nw q a c with
   |
    true =>
    rw [k1] at b1 e0;cases k2:Nw q c b with
    |
     true =>
     rw [k2] at b2 e0;have e0:C9 q a b c=true:=e0;rw [e0,Vk] at hdr;refine go tt [.t (decide_eq_true (by omega)),.x (Fa hc),.g 26 false (decide_eq_false h1),.f (decide_eq_false h2),.c [] co,.c [] cA,.g 44 false (decide_eq_false hs),.g 47 true (decide_eq_true hz),.c [] b1,.g 52 true rfl,.c [] b2,.g 58 true rfl,.f rfl] rfl (by simp [Uu] <;> omega) ?_;exact rd (i+1) (by omega) ⟨hlt,by rw [he,hdr]⟩ rfl
    |
     false =>
     rw [k2,Bool.and_false,V9] at e0;rw [k2] at b2;cases k3:Nw q b c with
     |
      true =>
      rw [k3] at b3 e0;cases k4:Nw q c a with
      |
       true =>
       rw [k4] at b4 e0;have e0:C9 q a b c=true:=e0;rw [e0,Vk] at hdr;refine go tt [.t (decide_eq_true (by omega)),.x (Fa hc),.g 26 false (decide_eq_false h1),.f (decide_eq_false h2),.c [] co,.c [] cA,.g 44 false (decide_eq_false hs),.g 47 true (decide_eq_true hz),.c [] b1,.g 52 true rfl,.c [] b2,.g 58 false rfl,.c [] b3,.g 63 true rfl,.c [] b4,.f rfl] rfl (by simp [Uu] <;> omega) ?_;exact rd (i+1) (by omega) ⟨hlt,by rw [he,hdr]⟩ rfl
      |
       false =>
       rw [k4] at b4 e0;have e0:C9 q a b c=false:=e0;rw [e0,Vz] at hdr;rw [he,hdr];exact en tt [.t (decide_eq_true (by omega)),.x (Fa hc),.g 26 false (decide_eq_false h1),.f (decide_eq_false h2),.c [] co,.c [] cA,.g 44 false (decide_eq_false hs),.g 47 true (decide_eq_true hz),.c [] b1,.g 52 true rfl,.c [] b2,.g 58 false rfl,.c [] b3,.g 63 true rfl,.c [] b4,.t rfl] rfl rfl trivial
     |
      false =>
      rw [k3] at b3 e0;have e0:C9 q a b c=false:=e0;rw [e0,Vz] at hdr;rw [he,hdr];exact en tt [.t (decide_eq_true (by omega)),.x (Fa hc),.g 26 false (decide_eq_false h1),.f (decide_eq_false h2),.c [] co,.c [] cA,.g 44 false (decide_eq_false hs),.g 47 true (decide_eq_true hz),.c [] b1,.g 52 true rfl,.c [] b2,.g 58 false rfl,.c [] b3,.g 63 false rfl,.t rfl] rfl rfl trivial
   |
    false =>
    rw [k1,Vz,V9] at e0;rw [k1] at b1;cases k3:Nw q b c with
    |
     true =>
     rw [k3] at b3 e0;cases k4:Nw q c a with
     |
      true =>
      rw [k4] at b4 e0;have e0:C9 q a b c=true:=e0;rw [e0,Vk] at hdr;refine go tt [.t (decide_eq_true (by omega)),.x (Fa hc),.g 26 false (decide_eq_false h1),.f (decide_eq_false h2),.c [] co,.c [] cA,.g 44 false (decide_eq_false hs),.g 47 true (decide_eq_true hz),.c [] b1,.g 52 false rfl,.g 58 false rfl,.c [] b3,.g 63 true rfl,.c [] b4,.f rfl] rfl (by simp [Uu] <;> omega) ?_;exact rd (i+1) (by omega) ⟨hlt,by rw [he,hdr]⟩ rfl
     |
      false =>
      rw [k4] at b4 e0;have e0:C9 q a b c=false:=e0;rw [e0,Vz] at hdr;rw [he,hdr];exact en tt [.t (decide_eq_true (by omega)),.x (Fa hc),.g 26 false (decide_eq_false h1),.f (decide_eq_false h2),.c [] co,.c [] cA,.g 44 false (decide_eq_false hs),.g 47 true (decide_eq_true hz),.c [] b1,.g 52 false rfl,.g 58 false rfl,.c [] b3,.g 63 true rfl,.c [] b4,.t rfl] rfl rfl trivial
    |
     false =>
     rw [k3] at b3 e0;have e0:C9 q a b c=false:=e0;rw [e0,Vz] at hdr;rw [he,hdr];exact en tt [.t (decide_eq_true (by omega)),.x (Fa hc),.g 26 false (decide_eq_false h1),.f (decide_eq_false h2),.c [] co,.c [] cA,.g 44 false (decide_eq_false hs),.g 47 true (decide_eq_true hz),.c [] b1,.g 52 false rfl,.g 58 false rfl,.c [] b3,.g 63 false rfl,.t rfl] rfl rfl trivial
  ·rw [decide_eq_false hz,Vz] at e0;have e0:C9 q a b c=true:=e0;rw [e0,Vk] at hdr;refine go tt [.t (decide_eq_true (by omega)),.x (Fa hc),.g 26 false (decide_eq_false h1),.f (decide_eq_false h2),.c [] co,.c [] cA,.g 44 false (decide_eq_false hs),.g 47 false (decide_eq_false hz),.f rfl] rfl (by simp [Uu] <;> omega) ?_;exact rd (i+1) (by omega) ⟨hlt,by rw [he,hdr]⟩ rfl
 ·obtain rfl:i=l.length:=by omega
  rw [he,Ky];exact en tt [.f (decide_eq_false (by omega))] rfl rfl trivial
def Qg0 (q:Rat) (W:List Pt) (a:Pt):Option Pt:=W.find? λp=>decide (p.id≠a.id) && Qdh q a p W
def C7 (q:Rat) (W:List Pt) (s0:Pt):Nat->Pt->List Pt->List Pt
 | 0,_,O=>O
 |
  k+1,a,O=>match Qg0 q W a with
  | none=>O
  | some b=>if b.id=s0.id then O else C7 q W s0 k b (O++[b])
def Qdc (q:Rat) (l:List Pt):List Pt:=if (Ee l).length<2 then Ee l else
 match Fx (Nw q) (Ee l) with
 | []=>[]
 | s::_=>C7 q (Ee l) s (Ee l).length s [s]
theorem Qm4 {q:Rat} {W:List Pt} {a b:Pt} (h:Qg0 q W a=some b):b∈W/\b.id≠a.id:=by
 have h1:=List.find?_some h;simp only [Zk,decide_eq_true_eq] at h1;exact ⟨List.mem_of_find?_eq_some h,h1.1⟩
theorem Qrx {q:Rat} {W:List Pt} {s0:Pt}:∀ (k:Nat) (a:Pt) (O:List Pt),(∀ p∈O,p∈W)->(∀ p∈C7 q W s0 k a O,p∈W)/\(C7 q W s0 k a O).length≤O.length+k
 | 0,_,O,h=>⟨h,Qi _⟩
 |
  k+1,a,O,h=>by
  unfold C7;cases hb:Qg0 q W a with
  | none=>exact ⟨h,Vf _ _⟩
  |
   some b =>
   have hm:=(Qm4 hb).1;dsimp only
   split
   ·exact ⟨h,Vf _ _⟩
   ·obtain ⟨h1,h2⟩:=Qrx (q:=q) (s0:=s0) k b (O++[b]) (λp hp=>(Qt.1 hp).elim (h p) λhp=>by rw [Qj.1 hp]; exact hm);rw [Q5,Yy] at h2;exact ⟨h1,by omega⟩
theorem Qry (q:Rat) (l:List Pt):(∀ p∈Qdc q l,p∈l)/\(Qdc q l).length≤l.length+1:=by
 have hw:=Qn7 l;unfold Qdc
 split
 ·exact ⟨λp hp=>Qgc hp,by omega⟩
 ·split
  ·exact ⟨λp hp=>(by cases hp),Qg _⟩
  ·rename_i s S hS;have hs:s∈Ee l:=Sx.1 (show s∈Fx (Nw q) (Ee l) by rw [hS]; simp);obtain ⟨h1,h2⟩:=Qrx (q:=q) (s0:=s) (Ee l).length s [s] (λp hp=>by rw [Qj.1 hp]; exact hs);exact ⟨λp hp=>Qgc (h1 p hp),by rw [Yy] at h2; omega⟩
theorem Q8c {q:Rat} {W:List Pt} {a b:Pt} (h:Qg0 q W a=some b):∃ j:Nat,W[j]? = some b/\b.id≠a.id/\Qdh q a b W=true/\∀ (i:Nat) (p:Pt),i<j->W[i]? = some p->p.id=a.id\/Qdh q a p W=false:=by
 unfold Qg0 at h;obtain ⟨h1,u,v,hW,h3⟩:=List.find?_eq_some_iff_append.1 h;simp only [Zk,decide_eq_true_eq] at h1;refine ⟨u.length,by rw [hW,Zn (Qi _),Jn]; rfl,h1.1,h1.2,λi p hi hp=>?_⟩;have hp':u[i]? = some p:=by rw [<-hp,hW,Q8 hi]
 have:=h3 p (Qa hp');simp only [Bool.not_eq_true',Bool.and_eq_false_iff,decide_eq_false_iff_not,Decidable.not_not] at this;exact this
theorem Q8d {q:Rat} {W:List Pt} {a:Pt} (h:Qg0 q W a=none):∀ p∈W,p.id=a.id\/Qdh q a p W=false:=λp hp=>by
 have:=List.find?_eq_none.1 h p hp;simp only [Bool.not_eq_true,Bool.and_eq_false_iff,decide_eq_false_iff_not,Decidable.not_not] at this;exact this
set_option maxHeartbeats 4000000 in
theorem Qvp {l:List Pt} {q:Rat} {cs:List (List Int)} (hl:∀ p∈l,Rs p.c) (hn:l.length≤1000) (hq:Qs 1000000 q):Uw Tryz.prog 295 [.one (.row (Fc l)),.agg (aq q cs)] [.one (.row (Fc (Qdc q l)))]:=by
 have c1:=Zcb hl hn;have hWl:∀ p∈Ee l,Rs p.c:=λp hp=>hl p (Qgc hp)
 have hWn:=Qn7 l;unfold Qdc;obtain ⟨W,hW⟩:=nmE (Ee l);rw [<-hW] at c1 hWl hWn ⊢;have hcl:=Gy W;by_cases h2:W.length<2
 ·rw [if_pos h2];exact w tt Tryz.func295 rfl [.c [] c1,.t (decide_eq_true (by omega))] rfl rfl trivial
 rw [if_neg h2];have c2:=Qlt (l:=W) (cs:=cs) hWl (by omega) hq;obtain ⟨s,S,hS⟩:∃ s S,Fx (Nw q) W=s::S:=by
  have:(Fx (Nw q) W).length=W.length:=H5 _ _;cases hs:Fx (Nw q) W with
  | nil=>rw [hs] at this; simp at this; omega
  | cons s S=>exact ⟨s,S,rfl⟩
 have hsW:s∈W:=Sx.1 (show s∈Fx (Nw q) W by rw [hS]; simp);rw [hS] at c2 ⊢;show Uw Tryz.prog 295 _ [.one (.row (Fc (C7 q W s W.length s [s])))];have hx0:(Fc (s::S))[0]? = some (Cf s):=rfl;refine Hn Tryz.func295 rfl ?_;refine go tt [.c [] c1,.f (decide_eq_false (by omega)),.c [] c2,.x hx0,.lo] rfl trivial ?_;refine sb [(7,.v (.one (.orow 1 7 none))),(6,.v (.one (.row (Fc (s::S))))),(5,.v (.one (.row (Fc W)))),(3,.v (.one (.ow 0 0)))] [.blk 37 (aq q cs),.row false 57 7 (Fc [s])] rfl rfl ?_;refine lp (S:=List Pt) 2 (λL1 _=>(7,.v (.one (.orow 1 7 none)))::L1) (λO=>[.blk 37 (aq q cs),.row false 57 7 (Fc O)]) (λO=>W.length+1-O.length) (λO=>O.length<=W.length+1/\∃ a,a∈W/\O[O.length-1]? = some a/\C7 q W s (W.length+1-O.length) a O=C7 q W s W.length s [s]) [s] ⟨by show 1<=_; omega,s,hsW,rfl,rfl⟩ rfl (λ_ _=>rfl) rfl λO ⟨hO,a,haW,hla,he⟩=>?_
 have har:=hWl a haW;have hrl:=Gy O;have hO1:0<O.length:=by
  have:=(Qc.1 hla).1; omega
 by_cases hlt:O.length<=W.length
 ·obtain ⟨k,hk⟩:∃ k,W.length+1-O.length=k+1:=⟨W.length-O.length,by omega⟩;rw [hk] at he;refine go tt [.t (decide_eq_true (by omega)),.r 31 (eI (b:=((O.length-1:Nat):Int)) (by omega)),.i (O.length-1),.x (Fa hla)] rfl (by simp [Uu] <;> omega) ?_;cases hb:Qg0 q W a with
  |
   none =>
   have hno:=Q8d hb;have ef:C7 q W s W.length s [s]=O:=by rw [<-he]; unfold C7; rw [hb]
   rw [ef];refine lp (S:=Nat) 3 (λL1 i=>(36,.v (.one (.int .i64 (i:Int))))::L1) (λ_=>[.blk 37 (aq q cs),.row false 57 7 (Fc O),.blk 57 (Cf a)]) (λi=>W.length-i) (λi=>i<=W.length) 0 (Qg _) rfl (λ_ _=>rfl) rfl λi hi=>?_
   by_cases hil:i<W.length
   ·obtain ⟨p,hp⟩:=gxE (l:=W) (i:=i) hil;have hpm:=Qa hp;by_cases h1:p.id=a.id
    ·refine go tt [.t (decide_eq_true (by omega)),.x (Fa hp),.g 47 false (decide_eq_false (by simpa using h1)),.f rfl] rfl (by simp [Uu] <;> omega) ?_;exact rd (i+1) (by omega) hil rfl
    ·have ce:=Qoo (cs:=cs) har (hWl p hpm) hWl (by omega) hq;rw [(hno p hpm).resolve_left h1] at ce;refine go tt [.t (decide_eq_true (by omega)),.x (Fa hp),.g 47 true (decide_eq_true h1),.x (Fa hp),.c [] ce,.f rfl] rfl (by simp [Uu] <;> omega) ?_;exact rd (i+1) (by omega) hil rfl
   ·by_cases h3:a.id=s.id
    ·exact en tt [.f (decide_eq_false (by omega)),.x hx0,.g 69 true (decide_eq_true h3),.t rfl] rfl rfl (by simp [Uu] <;> omega)
    ·exact en tt [.f (decide_eq_false (by omega)),.x hx0,.g 69 false (decide_eq_false h3),.r 75 (eI (b:=((O.length-1:Nat):Int)) (by omega)),.i (O.length-1),.x (Fa hla),.t (decide_eq_true rfl)] rfl rfl (by simp [Uu] <;> omega)
  |
   some b =>
   obtain ⟨j,hj,hba,heb,hjb⟩:=Q8c hb;have hbW:=(Qm4 hb).1;have hjl:=(Qc.1 hj).1;have hbr:=hWl b hbW;have h7z:∀ y∈[Cf b],y.length=7:=λy hy=>by rw [Qj.1 hy]; rfl
   have cb:=Qoo (cs:=cs) har hbr hWl (by omega) hq;rw [heb] at cb;refine lp (S:=Nat) 3 (λL1 i=>(36,.v (.one (.int .i64 (i:Int))))::L1) (λ_=>[.blk 37 (aq q cs),.row false 57 7 (Fc O),.blk 57 (Cf a)]) (λi=>j-i) (λi=>i<=j) 0 (Qg _) rfl (λ_ _=>rfl) rfl λi hi=>?_
   by_cases hij:i<j
   ·obtain ⟨p,hp⟩:=gxE (l:=W) (i:=i) (by omega);have hpm:=Qa hp;by_cases h1:p.id=a.id
    ·refine go tt [.t (decide_eq_true (by omega)),.x (Fa hp),.g 47 false (decide_eq_false (by simpa using h1)),.f rfl] rfl (by simp [Uu] <;> omega) ?_;exact rd (i+1) (by omega) hij rfl
    ·have ce:=Qoo (cs:=cs) har (hWl p hpm) hWl (by omega) hq;rw [(hjb i p hij hp).resolve_left h1] at ce;refine go tt [.t (decide_eq_true (by omega)),.x (Fa hp),.g 47 true (decide_eq_true h1),.x (Fa hp),.c [] ce,.f rfl] rfl (by simp [Uu] <;> omega) ?_;exact rd (i+1) (by omega) hij rfl
   ·obtain rfl:i=j:=by omega
    by_cases h3:b.id=s.id
    ·have ef:C7 q W s W.length s [s]=O:=by rw [<-he]; unfold C7; rw [hb]; exact if_pos h3
     rw [ef];exact en tt [.t (decide_eq_true (by omega)),.x (Fa hj),.g 47 true (decide_eq_true hba),.x (Fa hj),.c [] cb,.t rfl,.x (Fa hj),.x hx0,.g 69 true (decide_eq_true h3),.t rfl] rfl rfl (by simp [Uu] <;> omega)
    ·have ef:C7 q W s k b (O++[b])=C7 q W s W.length s [s]:=by
      rw [<-he];show _=(match Qg0 q W a with | none=>O | some b=>if b.id=s.id then O else C7 q W s k b (O++[b]));rw [hb];exact (if_neg h3).symm
     refine go tt [.t (decide_eq_true (by omega)),.x (Fa hj),.g 47 true (decide_eq_true hba),.x (Fa hj),.c [] cb,.t rfl,.x (Fa hj),.x hx0,.g 69 false (decide_eq_false h3),.r 75 (eI (b:=((O.length-1:Nat):Int)) (by omega)),.i (O.length-1),.x (Fa hla),.f (decide_eq_false hba),.s (sz:=7) h7z] rfl (by simp [Uu] <;> omega) ?_;have hl1:(O++[b]).length=O.length+1:=by simp
     exact rd (O++[b]) (by omega) ⟨by omega,b,hbW,by rw [hl1,Jv,Zn (Qi _),Jn]; rfl,by rw [hl1,show W.length+1-(O.length+1)=k by omega]; exact ef⟩ (by simp [Fc]; rfl)
 ·rw [show W.length+1-O.length=0 by omega] at he;have ef:C7 q W s W.length s [s]=O:=he.symm;rw [ef];exact en tt [.f (decide_eq_false (by omega))] rfl rfl trivial
def Bt (sg:List Int->Int) (a b c:Pt):Ct:=⟨3,a.id,b.id,c.id,0,S7 a.c b.c c.c,Nc sg (S7 a.c b.c c.c)⟩
theorem Q5w {a b u:Pt} {q:Rat} {c:List (List Int)} (ha:Rs a.c) (hb:Rs b.c) (hu:Rs u.c) (hq:Qs 1000000 q):Uw Tryz.prog 321 [.one (.int .i64 3),.agg (aq q c),.one (.row [Cf a,Cf b,Cf u])] [.agg (rct (Bt (sgq q) a b u)),.one (.bool true)]:=by
 have x0:[Cf a,Cf b,Cf u][0]? = some (Cf a):=rfl;have x1:[Cf a,Cf b,Cf u][1]? = some (Cf b):=rfl;have x2:[Cf a,Cf b,Cf u][2]? = some (Cf u):=rfl;have cf:=Qay ha hb hu;have hsz:=Qkk ha hb hu;have cg:=Ci (c:=c) (Uv hsz.1 (by decide)) (Qd hsz.2 (by decide)) hq;have e:rct (Bt (sgq q) a b u)=[.int .i64 3,.int .i64 a.id,.int .i64 b.id,.int .i64 u.id,.int .i64 0,rp (zp (S7 a.c b.c u.c)),.int .i64 (S0 (S7 a.c b.c u.c) q),.row [],.bool false]:=by simp only [Bt,rct,Qv7]
 rw [e];generalize S7 a.c b.c u.c=F at *;refine Hn Tryz.func321 rfl ?_;refine go tt [.g 14 false rfl,.g 18 false rfl,.x (l:=[[.int .i64 0],[.int .i64 2],[.int .i64 2],[.int .i64 3],[.int .i64 4],[.int .i64 4]]) (i:=3) (xs:=[.int .i64 3]) rfl,.f rfl] rfl trivial ?_;refine lp (S:=Nat) 3 (λL1 i=>(33,.v (.one (.int .i64 (i:Int))))::L1) (λi=>[.blk 37 (aq q c),.blk 272 rzc,.blk 272 [.int .i64 3,.int .i64 (if 0<i then a.id else 0),.int .i64 (if 1<i then b.id else 0),.int .i64 (if 2<i then u.id else 0),.int .i64 0,.nils,.int .i64 0,.nils,.bool false]]) (λi=>3-i) (λi=>i<=3) 0 (by decide) rfl (λ_ _=>rfl) rfl λi hi=>?_
 rcases (show i=0\/i=1\/i=2\/i=3 by omega) with rfl | rfl | rfl | rfl
 ·exact go tt [.t rfl,.x x0,.i 0] rfl (by simp [Uu]) (rd 1 (by omega) (by omega) rfl)
 ·exact go tt [.t rfl,.x x1,.i 1] rfl (by simp [Uu]) (rd 2 (by omega) (by omega) rfl)
 ·exact go tt [.t rfl,.x x2,.i 2] rfl (by simp [Uu]) (rd 3 (by omega) (by omega) rfl)
 exact en tt [.f rfl,.f rfl,.f rfl,.t rfl,.x x0,.x x1,.x x2,.c [] cf,.c [] cg] rfl rfl trivial
theorem Zcd {a b u:Pt} {q:Rat} {c:List (List Int)} (ha:Rs a.c) (hb:Rs b.c) (hu:Rs u.c) (hq:Qs 1000000 q):Uw Tryz.prog 292 [.one (.int .i64 3),.agg (aq q c),.one (.row [Cf a,Cf b,Cf u])] [.agg (rct (Bt (sgq q) a b u))] :=
 w tt Tryz.func292 rfl [.c [] (Q5w ha hb hu hq)] rfl rfl trivial
theorem Q5z {l:List Ct} (hn:l.length<=1000000):Se Tryz.prog 293 [.one (.row (Gl l))] [] [.one (.orow 0 9 none)] [.row false 272 9 (Gl (Fx Rz l))]:=by
 have hcl:=Mx l;refine Hn Tryz.func293 rfl ?_;refine go tt [.o 3 272 9] rfl trivial ?_;refine lp (S:=Nat) 1 (λL1 i=>(8,.v (.one (.int .i64 (i:Int))))::(3,.v (.one (.orow 0 9 none)))::L1) (λi=>[.row false 272 9 (Gl (Fx Rz (l.take i)))]) (λi=>l.length-i) (λi=>i<=l.length) 0 (Qg _) rfl (λ_ _=>rfl) rfl λi hi=>?_
 by_cases hlt:i<l.length
 ·obtain ⟨c,hc⟩:=gxE (l:=l) (i:=i) hlt;have hst:Fx Rz (l.take (i+1))=Nm Rz (Fx Rz (l.take i)) c:=Lo hc;obtain ⟨O,hO⟩:=nmE (Fx Rz (l.take i));have hOl:O.length=i:=by rw [hO,H5,Qr]; omega
  have hrl:=Mx O;rw [<-hO] at hst ⊢;refine go tt [.t (decide_eq_true (by omega))] rfl trivial ?_;refine lp (S:=Nat) 1 (λL1 k=>(5,.v (.one (.int .i64 (k:Int))))::L1) (λ_=>[.row false 272 9 (Gl O)]) id (λk=>k<=O.length/\Tu Rz O c k=Tu Rz O c O.length) (Gl O).length ⟨by omega,by rw [hrl]⟩ rfl (λ_ _=>rfl) rfl λk ⟨hk,hp⟩=>?_
  have h7:=Qg5 O;have h7z:∀ y∈[rct c],y.length=9:=λy hy=>by rw [Qj.1 hy]; rfl
  cases k with
  |
   zero =>
   have hp:Tu Rz O c O.length=0:=by rw [<-hp]; rfl
   refine go tt [.g 15 false (by simp),.f rfl,.i 0,.x (Mp hc),.lo,.i 0,.s (sz:=9) (λy hy=>h7 y (Ql hy)),.s (sz:=9) (λy hy=>(Qt.1 hy).elim (h7z y) λhy=>h7 y (Ql hy))] rfl (by simp [Uu]; omega) ?_;exact rd (i+1) (by omega) hlt (by rw [hst,<-Qdq hp]; rfl)
  |
   succ k =>
   obtain ⟨x,hx⟩:=gxE (l:=O) (i:=k) (by omega);have cb:=Qy1 (k:=c.kind) (i0:=c.i0) (i1:=c.i1) (i2:=c.i2) (i3:=c.i3) (l:=x.kind) (j0:=x.i0) (j1:=x.i1) (j2:=x.i2) (j3:=x.i3);by_cases hlc:Rz c x=true
   ·refine go tt [.g 15 true (by simp),.x (Mp hc),.r 23 (eI (b:=(k:Int)) (by simp)),.i k,.x (Mp hx),.c [] cb,.t hlc,.r 30 (eI (b:=(k:Int)) (by simp))] rfl (by simp [Uu]; omega) ?_;exact rd k (by simp) ⟨by omega,by rw [<-hp,Qbb hx hlc]⟩ rfl
   ·have hlc:Rz c x=false:=by simpa using hlc
    have hp:Tu Rz O c O.length=k+1:=by rw [<-hp,Ap hx hlc]
    refine go tt [.g 15 true (by simp),.x (Mp hc),.r 23 (eI (b:=(k:Int)) (by simp)),.i k,.x (Mp hx),.c [] cb,.f hlc,.i (k+1),.x (Mp hc),.lo,.i (k+1),.s (sz:=9) (λy hy=>h7 y (Ze (Ql hy))),.s (sz:=9) (λy hy=>(Qt.1 hy).elim (h7z y) λhy=>h7 y (Ze (Ql hy)))] rfl (by simp [Uu]; omega) ?_;exact rd (i+1) (by omega) hlt (by rw [hst,<-Qdq hp]; rfl)
 ·obtain rfl:i=l.length:=by omega
  rw [Q0];exact ed tt [] [0] [.f (decide_eq_false (by omega))] rfl trivial
theorem Qlf {l:List Pt} {q:Rat} {cs:List (List Int)} (hl:∀ p∈l,Rs p.c) (hn:l.length≤1000) (hq:Qs 1000000 q):Se Tryz.prog 254 [.one (.row (Fc l)),.agg (aq q cs)] [] [.one (.orow 0 9 none)] [.row false 272 9 (Gl (Qnh q l))]:=by
 have c1:=Qlt (cs:=cs) hl (by omega) hq;have hML:(Fx (Nw q) l).length=l.length:=H5 _ _;have hMl:∀ p∈Fx (Nw q) l,Rs p.c:=λp hp=>hl p (Sx.1 hp)
 unfold Qnh;obtain ⟨M,hM⟩:=nmE (Fx (Nw q) l);rw [<-hM] at c1 hML hMl ⊢;have hcl:=Gy M;have hrl:=By (sgq q) M;have c2:=Q5z (l:=Mk (sgq q) M) (by omega);refine Hn Tryz.func254 rfl ?_;refine go tt [.c [] c1,.o 6 272 9] rfl trivial ?_;refine lp (S:=Nat) 2 (λL1 i=>(7,.v (.one (.int .i64 (i:Int))))::(6,.v (.one (.orow 1 9 none)))::L1) (λi=>[.blk 37 (aq q cs),.row false 272 9 (Gl ((Mk (sgq q) M).take i))]) (λi=>M.length-i) (λi=>i<=M.length-1) 0 (Qg _) rfl (λ_ _=>rfl) rfl λi hi=>?_
 have htl:(Gl ((Mk (sgq q) M).take i)).length=i:=by rw [Mx,Qr]; omega
 by_cases hlt:i+1<M.length
 ·obtain ⟨a,ha⟩:=gxE (l:=M) (i:=i) (by omega);obtain ⟨b,hb⟩:=gxE (l:=M) (i:=i+1) hlt;have hg:=Qf3 (sgq q) ha hb;have hm:∀ y∈[rct (Di (sgq q) a b)],y.length=9:=λy hy=>by rw [Qj.1 hy]; rfl
  refine go tt [.t (decide_eq_true (by omega)),.x (Fa ha),.x (Fa hb),.c [] (Zcc (hMl a (Qa ha)) (hMl b (Qa hb)) hq),.s (sz:=9) hm] rfl (by simp [Uu,htl]; omega) ?_;exact rd (i+1) (by omega) (by omega) (by rw [hg]; simp [Gl]; rfl)
 ·have e:(Mk (sgq q) M).take i=Mk (sgq q) M:=Qn (by omega);rw [e];exact ed tt [] [2] [.f (decide_eq_false (by omega)),.p 1,.c [2] c2] rfl (by simp [Uu]; omega)
def Lb (q:Rat) (l:List Pt) (e:Pt×Pt):List Ct:=(l.filter (Bu e)).map λc=>Bt (sgq q) e.1 e.2 c
def Qfl (q:Rat) (l C:List Pt):List Ct:=if C.length<2 then [] else (Ge C).flatMap (Lb q l)
def Qeb (q:Rat) (l:List Pt):List Ct:=Fx Rz (Qnh q l++Qfl q l (Qdc q l))
theorem Qji {q:Rat} {l:List Pt} (x:Pt×Pt):(Lb q l x).length<=l.length:=by unfold Lb; rw [List.length_map]; exact List.length_filter_le _ _
theorem Qjy {q:Rat} {l C:List Pt} (hn:l.length<=10) (hC:C.length<=11):(Qfl q l C).length<=110:=by
 unfold Qfl
 split
 ·exact Qg _
 ·have h1:=Ow (f:=Lb q l) Qji (Ge C);rw [Oq] at h1;have h2:C.length*l.length<=11*10:=Zr hC hn;omega
theorem Qni (q:Rat) (l:List Pt):(Qnh q l).length<=l.length:=by
 unfold Qnh;rw [H5];have:=By (sgq q) (Fx (Nw q) l);rw [H5] at this;omega
theorem Q3m (q:Rat) {l:List Pt} (hn:l.length<=10):(Qeb q l).length<=1000000:=by
 unfold Qeb;have h1:=Qni q l;have h2:=Qjy (q:=q) (C:=Qdc q l) hn (Qd (Qry q l).2 (by omega));rw [H5,Q5]; omega
set_option maxHeartbeats 4000000 in
theorem Qom {l:List Pt} {q:Rat} {cs:List (List Int)} (hl:∀ p∈l,Rs p.c) (hn:l.length≤10) (hq:Qs 1000000 q):Uw Tryz.prog 256 [.one (.row (Fc l)),.agg (aq q cs)] [.one (.row (Gl (Qeb q l)))]:=by
 have c1:=Qlf (cs:=cs) hl (by omega) hq;have c2:=Qvp (cs:=cs) hl (by omega) hq;obtain ⟨hCm,hCl⟩:=Qry q l;have hrl:=Qni q l;have hhl:=Qjy (q:=q) (C:=Qdc q l) hn (by omega);unfold Qeb;obtain ⟨C,hC⟩:=nmE (Qdc q l);obtain ⟨cs0,hc0⟩:=nmE (Qnh q l);rw [<-hC] at c2 hCm hCl hhl ⊢;rw [<-hc0] at c1 hrl ⊢;have c9:=Zca (l:=cs0++Qfl q l C) (by rw [Q5]; omega);have hcp:=Gy C;have hlp:=Gy l;refine Hn Tryz.func256 rfl ?_;refine go tt [.c [1] c1,.c [] c2] rfl trivial ?_;by_cases h2:C.length<2
 ·have e:Qfl q l C=[]:=if_pos h2;rw [e,Zy] at c9 ⊢;refine lp (S:=Unit) 2 (λL1 _=>(7,.v (.one (.int .i64 0)))::(5,.v (.one (.orow 1 9 none)))::L1) (λ_=>[.blk 37 (aq q cs),.row false 272 9 (Gl cs0)]) (λ_=>0) (λ_=>True) () trivial rfl (λ_ _=>rfl) rfl λ_ _=>?_
  by_cases h0:C.length=0
  ·exact en tt [.g 21 false (decide_eq_false (by omega)),.f rfl,.c [] c9] rfl rfl (by simp [Uu] <;> omega)
  ·exact en tt [.g 21 true (decide_eq_true (by omega)),.f (decide_eq_false (by omega)),.c [] c9] rfl rfl (by simp [Uu] <;> omega)
 have e:Qfl q l C=(Ge C).flatMap (Lb q l):=if_neg h2;rw [e] at c9 ⊢;refine sb [(7,.v (.one (.int .i64 0))),(6,.v (.one (.row (Fc C)))),(5,.v (.one (.orow 1 9 none))),(3,.v (.one (.ow 0 0))),(0,.v (.one (.row (Fc l))))] [.blk 37 (aq q cs),.row false 272 9 (Gl cs0)] rfl rfl ?_;rw [show Gl cs0=Gl (cs0++((Ge C).take 0).flatMap (Lb q l)) by simp];refine lp (S:=Nat) 2 (λL1 i=>(7,.v (.one (.int .i64 (i:Int))))::(5,.v (.one (.orow 1 9 none)))::L1) (λi=>[.blk 37 (aq q cs),.row false 272 9 (Gl (cs0++((Ge C).take i).flatMap (Lb q l)))]) (λi=>C.length-i) (λi=>i<=C.length) 0 (Qg _) rfl (λ_ _=>rfl) rfl λi hi=>?_
 by_cases hlt:i<C.length
 ·obtain ⟨x,hx⟩:=gxE (l:=C) (i:=i) hlt;obtain ⟨y,hy⟩:=gxE (l:=C) (i:=(i+1) % C.length) (Z0 _ (by omega));have he:=Qgk hx hy;have sx:=hl x (hCm x (Qa hx));have sy:=hl y (hCm y (Qa hy));have hflat:=Qao (f:=Lb q l) he;obtain ⟨F,hF⟩:=nmE (cs0++((Ge C).take i).flatMap (Lb q l));have hFl:F.length<=10+20*10:=by
   have h1:=Ow (f:=Lb q l) Qji ((Ge C).take i);have h2:((Ge C).take i).length*l.length<=20*10:=Zr (by rw [Qr]; omega) hn;rw [hF,Q5]; omega
  have hmod:(((i+1:Nat):Int)).tmod ((Fc C).length:Int)=(((i+1) % C.length:Nat):Int):=by rw [hcp]; exact (Int.ofNat_tmod _ _).symm
  have hm0:=Yv ((i+1:Nat):Int) (show (C.length:Int)≠0 by omega);have hm1:=Yc ((i+1:Nat):Int) (show (0:Int)<C.length by omega);have hnext:cs0++((Ge C).take (i+1)).flatMap (Lb q l)=F++(l.filter (Bu (x,y))).map λc=>Bt (sgq q) x y c:=by rw [hflat,<-Zi,<-hF]; rfl
  rw [<-hF];refine go tt [.g 21 true (decide_eq_true (by omega)),.t (decide_eq_true (by omega)),.x (Fa hx),.r 34 (eI (b:=((i+1:Nat):Int)) (by simp)),.r 37 (eI (b:=(((i+1) % C.length:Nat):Int)) hmod),.x (Fa hy)] rfl (by simp only [Uu]; omega) ?_;rw [show Gl F=Gl (F++((l.take 0).filter (Bu (x,y))).map λc=>Bt (sgq q) x y c) by simp];refine lp (S:=Nat) 4 (λL1 k=>(42,.v (.one (.int .i64 (k:Int))))::(5,.v (.one (.orow 1 9 none)))::L1) (λk=>[.blk 37 (aq q cs),.row false 272 9 (Gl (F++((l.take k).filter (Bu (x,y))).map λc=>Bt (sgq q) x y c)),.blk 57 (Cf x),.blk 57 (Cf y)]) (λk=>l.length-k) (λk=>k<=l.length) 0 (Qg _) rfl (λ_ _=>rfl) rfl λk hk=>?_
  by_cases hlk:k<l.length
  ·obtain ⟨z,hz⟩:=gxE (l:=l) (i:=k) hlk;have sz:=hl z (Qa hz);have hflt:=Ay (f:=λc=>Bt (sgq q) x y c) (p:=Bu (x,y)) hz;obtain ⟨G,hG⟩:=nmE (((l.take k).filter (Bu (x,y))).map λc=>Bt (sgq q) x y c);have hGl:G.length<=10:=by
    have h1:=List.length_filter_le (Bu (x,y)) (l.take k);rw [Qr] at h1;rw [hG,Zc]; omega
   have hrF:=Mx (F++G);rw [Q5] at hrF;rw [<-hG] at hflt ⊢;by_cases h1:z.id=x.id
   ·rw [if_neg (show ¬Bu (x,y) z=true by simp [Bu,h1]),Zy] at hflt;refine go tt [.t (decide_eq_true (by omega)),.x (Fa hz),.g 53 false (decide_eq_false (by simp [h1])),.f rfl] rfl (by simp [Uu] <;> omega) ?_;exact rd (k+1) (by omega) hlk (by rw [hflt]; rfl)
   ·by_cases h2:z.id=y.id
    ·rw [if_neg (show ¬Bu (x,y) z=true by simp [Bu,h2]),Zy] at hflt;refine go tt [.t (decide_eq_true (by omega)),.x (Fa hz),.g 53 true (decide_eq_true h1),.x (Fa hz),.f (decide_eq_false (by simp [h2]))] rfl (by simp [Uu] <;> omega) ?_;exact rd (k+1) (by omega) hlk (by rw [hflt]; rfl)
    ·rw [if_pos (show Bu (x,y) z=true by simp [Bu,h1,h2])] at hflt;have hm:∀ v∈[rct (Bt (sgq q) x y z)],v.length=9:=λv hv=>by rw [Qj.1 hv]; rfl
     refine go tt [.t (decide_eq_true (by omega)),.x (Fa hz),.g 53 true (decide_eq_true h1),.x (Fa hz),.t (decide_eq_true h2),.x (Fa hz),.c [] (Zcd sx sy sz hq),.s (sz:=9) hm] rfl (by simp [Uu,hrF] <;> omega) ?_;have e3:Gl (F++(G++[Bt (sgq q) x y z]))=Gl (F++G)++[rct (Bt (sgq q) x y z)]:=by simp [Gl]
     exact rd (k+1) (by omega) hlk (by rw [hflt,e3]; rfl)
  ·obtain rfl:k=l.length:=by omega
   rw [Q0,<-hnext];refine go tt [.f (decide_eq_false (by omega))] rfl (by simp [Uu] <;> omega) ?_;exact rd (i+1) (by omega) hlt rfl
 ·obtain rfl:i=C.length:=by omega
  rw [Qn (by rw [Oq]; exact Qi _)];exact en tt [.g 21 false (decide_eq_false (by omega)),.f rfl,.c [] c9] rfl rfl (by simp [Uu] <;> omega)
theorem Q18 {l:List Pt} {q:Rat} {cs:List (List Int)} (hl:∀ p∈l,Rs p.c) (hn:l.length≤10) (hq:Qs 1000000 q):Uw Tryz.prog 200 [.one (.int .i64 2),.one (.row (Fc l)),.agg (aq q cs)] [.one (.row (Gl (Qeb q l)))] :=
 w tt Tryz.func200 rfl [.f rfl,.f rfl,.t rfl,.c [] (Qom hl hn hq)] rfl rfl trivial
theorem Qu4 {l:List Pt} {q:Rat} {cs:List (List Int)} (hl:∀ p∈l,Rs p.c) (hn:l.length≤10) (hq:Qs 1000000 q):Uw Tryz.prog 128 [.one (.int .i64 2),.one (.row (Fc l)),.agg (aq q cs)] [.one (.row (Gl (Qeb q l)))] :=
 w tt Tryz.func128 rfl [.c [] (Q18 hl hn hq)] rfl rfl trivial
end Orr
namespace Orq
open Orr Go
section
variable {α:Type} {lt lt':α->α->Bool}
end
theorem Q9o {a:Tm} {l:List Pt} {q:Rat} (hb:∀ u∈l,∀ v∈l,(Ms (Rp a) u v=true↔Qbr q u v)) (hd:l.Pairwise λx y=>x.id≠y.id):(Sk a l).Pairwise (Qbr q) :=
 foldG_pw (S:=λx=>x∈l) (D:=λx y=>x.id≠y.id) (Zdc q) (λu v hu hv h=>(hb u hu v hv).1 h) (λu v hu hv hne h=>Q7w (λe=>hne e.symm) λh'=>by
  rw [(hb u hu v hv).2 h'] at h; cases h) l [] .nil (λx hx=>by cases hx) (λx hx=>hx) hd (λx hx=>by cases hx)
theorem Zid {a:Tm} (ha:Va a) {u v:Pt} (hu:Sc u.c) (hv:Sc v.c) {q:Rat} (h1:Nc (Rp a) (Hm u.c v.c)=U6 (Uy (Hm u.c v.c) q)) (h2:Nc (Rp a) (Hr u.c v.c)=U6 (Uy (Hr u.c v.c) q)) (hne:u.c≠v.c) (h:Qbr q u v):lx (px · q) (py · q) u v:=by
 rcases h with h | ⟨h,h3⟩
 ·exact .inl h
 rcases h3 with h3 | ⟨h3,_⟩
 ·exact .inr ⟨h,h3⟩
 ·exfalso;rw [Qnv hu hv] at h1;rw [Qnt hu hv] at h2;have z1:U6 (px v q-px u q)=0:=Fq.2 (by grind);have z2:U6 (py v q-py u q)=0:=Fq.2 (by grind);rw [z1] at h1;rw [z2] at h2;have e1:(Hm u.c v.c).length=0:=Decidable.byContradiction λe=>(Dh ha (E4 hu hv).dp e).2 h1
  have e2:(Hr u.c v.c).length=0:=Decidable.byContradiction λe=>(Dh ha (E3 hu hv).dp e).2 h2
  exact hne (Zdw hu.n hv.n (Qh e1) (Qh e2))
structure LowC (X Y:Pt->Rat) (R L:List Pt):Prop where
 hd:L.head? = R.head?
 la:L.getLast? = R.getLast?
 srt:L.Pairwise (lx X Y)
 mem:∀ p∈L,p∈R
 edg:Edg (λa b=>∀ p∈R,0≤Nq X Y a b p) L
 cnv:Cnv (λa b c=>0<Nq X Y a b c) L
theorem Qlw {X Y:Pt->Rat} {sg:List Int->Int} {R:List Pt} (hs:∀ a∈R,∀ b∈R,∀ c∈R,(Qdt sg a b c=true↔0<Nq X Y a b c)) (hR:R.Pairwise (lx X Y)) (h0:R≠[]):LowC X Y R (Sf sg R):=by
 cases R with
 | nil=>exact absurd rfl h0
 |
  cons f R =>
  obtain ⟨t,st,g1,g2,g3,g4⟩:=Qlx hs hR R [f] f [] rfl ⟨Ks _ _,λp hp=>by rw [Qj.1 hp]; simp,trivial,trivial⟩ rfl rfl;have e:Sf sg (f::R)=(t::st).reverse:=by
   unfold Sf;rw [<-g1]; rfl
  rw [e];exact ⟨by rw [List.head?_reverse,g4],by rw [List.getLast?_reverse]; exact g3.symm,List.pairwise_reverse.2 g2.srt,λp hp=>g2.mem p (X8.1 hp),g2.edg.rev,g2.cnv.rev⟩
theorem Iv (X Y:Pt->Rat) (a b c:Pt):Nq (λp=>-X p) (λp=>-Y p) a b c=Nq X Y a b c:=by unfold Nq; grind
theorem Q70 {X Y:Pt->Rat} {a b:Pt}:lx (λp=>-X p) (λp=>-Y p) a b↔lx X Y b a:=by unfold lx; grind
theorem Zgi {L:List Pt} {f z:Pt} (h1:L.head? = some f) (h2:L.getLast? = some z) (hne:f≠z):∃ A,L=f::A++[z]:=by
 cases L with
 | nil=>cases h1
 |
  cons g M =>
  simp at h1;subst h1;cases M with
  | nil=>simp at h2; exact absurd h2 hne
  |
   cons x M =>
   rw [Kr] at h2;obtain ⟨A,hA⟩:=Y7.1 h2;exact ⟨A,by rw [hA]; rfl⟩
structure Soon (l:List Pt) (a:Tm) (q:Rat):Prop where
 g:∀ p∈Qn9 l++Q1p l,Nc (Rp a) p=U6 (Uy p q)
 b:∀ u∈l,∀ v∈l,(Ms (Rp a) u v=true↔Qbr q u v)
 o:∀ u∈l,∀ v∈l,∀ w∈l,Nc (Rp a) (Hp u.c v.c w.c)=U6 (Nq (px · q) (py · q) u v w)
 t:∀ u∈l,∀ v∈l,∀ w∈l,(Qdt (Rp a) u v w=true↔0<Nq (px · q) (py · q) u v w)
 r:(Sk a (Sb l)).Pairwise (lx (px · q) (py · q))
theorem Q99 {l:List Pt} (hl:∀ p∈l,Sc p.c) (hd:l.Pairwise λx y=>x.id≠y.id) {a:Tm} (ha:Va a):∃ y,Fw a y=-1/\∀ q,Fw a q=-1->q≤y->Soon l a q:=by
 obtain ⟨y,y1,y2⟩:=Qsi ha (Qn9 l++Q1p l) λp hp=>(Qx8 hl p hp).dp
 refine ⟨y,y1,λq q1 q2=>?_⟩;have g:=y2 q q1 q2;have gP:=λp hp=>g p (Jc _ hp)
 have b:∀ u∈l,∀ v∈l,(Ms (Rp a) u v=true↔Qbr q u v):=λu hu v hv=>Qu1 ha (hl u hu) (hl v hv) (gP _ (Ev hu hv).1) (gP _ (Ev hu hv).2)
 have o:∀ u∈l,∀ v∈l,∀ w∈l,Nc (Rp a) (Hp u.c v.c w.c)=U6 (Nq (px · q) (py · q) u v w):=λu hu v hv w hw=>by
  rw [g _ (K6 _ (Qrc hu hv hw)),Qxk (hl u hu) (hl v hv) (hl w hw)]
 refine ⟨g,b,o,λu hu v hv w hw=>?_,?_⟩
 ·unfold Qdt;rw [o u hu v hv w hw,decide_eq_true_eq];have:=Ga (Nq (px · q) (py · q) u v w);grind
 ·have hw:∀ u∈Sb l,u∈l:=λu hu=>Cz hu
  have h1:=Q9o (a:=a) (l:=Sb l) (q:=q) (λu hu v hv=>b u (hw u hu) v (hw v hv)) (List.Pairwise.sublist (Qum l) hd);have h2:(Sk a (Sb l)).Pairwise λx y=>x.c≠y.c:=(List.Perm.pairwise_iff (λ{x y} h e=>h e.symm) (Qk6 (lt:=Ms (Rp a)) (Sb l))).2 (Zfa l)
  refine (h1.and h2).imp_of_mem λ{u v} hu hv h=>?_
  have hu:=hw u (Mj.1 hu);have hv:=hw v (Mj.1 hv);exact Zid ha (hl u hu) (hl v hv) (gP _ (Ev hu hv).1) (gP _ (Ev hu hv).2) h.2 h.1
theorem Qif {l:List Pt} (hl:∀ p∈l,Sc p.c) (hd:l.Pairwise λx y=>x.id≠y.id) {a:Tm} (ha:Va a):∃ q,Soon l a q :=
 let ⟨y,h1,h2⟩:=Q99 hl hd ha
 ⟨y,h2 y h1 Qo⟩
theorem Ie {l:List Pt} {a:Tm} {q:Rat} (S:Soon l a q) (h3:3<=(Sk a (Sb l)).length):∃ f z A B,Sf (Rp a) (Sk a (Sb l))=f::A++[z]/\Sf (Rp a) (Sk a (Sb l)).reverse=z::B++[f]/\LowC (px · q) (py · q) (Sk a (Sb l)) (f::A++[z])/\LowC (λp=>-px p q) (λp=>-py p q) (Sk a (Sb l)).reverse (z::B++[f])/\Ge (Gz l a)=D8 (f::A++[z])++D8 (z::B++[f])/\2<=(Gz l a).length:=by
 obtain ⟨R,hR⟩:=nmE (Sk a (Sb l));have hm:∀ x∈R,x∈l:=λx hx=>by rw [hR] at hx; exact Cz (Mj.1 hx)
 have r:=S.r;rw [<-hR] at r h3 ⊢;have h0:R≠[]:=λe=>by rw [e] at h3; simp at h3
 have c1:=Qlw (sg:=Rp a) (λu hu v hv w hw=>S.t u (hm u hu) v (hm v hv) w (hm w hw)) r h0;have r2:R.reverse.Pairwise (lx (λp=>-px p q) (λp=>-py p q)):=List.pairwise_reverse.2 (r.imp λh=>Q70.2 h);have c2:=Qlw (sg:=Rp a) (R:=R.reverse) (X:=λp=>-px p q) (Y:=λp=>-py p q) (λu hu v hv w hw=>by
  rw [Iv (px · q) (py · q)];exact S.t u (hm u (X8.1 hu)) v (hm v (X8.1 hv)) w (hm w (X8.1 hw))) r2 (by simpa using h0)
 obtain ⟨f,hf⟩:∃ f,R.head? = some f:=by cases R with
  | nil=>exact absurd rfl h0
  | cons f _=>exact ⟨f,rfl⟩
 obtain ⟨z,hz⟩:∃ z,R.getLast? = some z:=⟨_,Yl h0⟩;have hne:f≠z:=λe=>by
  subst e;cases R with
  | nil=>exact absurd rfl h0
  |
   cons g M =>
   simp at hf; subst hf;cases M with
   | nil=>simp at h3
   |
    cons x M =>
    rw [Kr] at hz;exact Qcj _ ((Zf.1 r).1 g (List.mem_of_getLast? hz))
 obtain ⟨A,hA⟩:=Zgi (c1.hd.trans hf) (c1.la.trans hz) hne;obtain ⟨B,hB⟩:=Zgi (c2.hd.trans (by rw [List.head?_reverse]; exact hz)) (c2.la.trans (by rw [List.getLast?_reverse]; exact hf)) (Ne.symm hne);have hc:Gz l a=(f::A++[z]).dropLast++(z::B++[f]).dropLast:=by
  unfold Gz Pp;rw [<-hR,if_neg (by omega),hA,hB]
 rw [hA] at c1;rw [hB] at c2;refine ⟨f,z,A,B,hA,hB,c1,c2,by rw [hc]; exact Qsc,?_⟩;rw [hc,Xp,Xp];simp; omega
end Orq
namespace Orr
open Go Go.Proofs Orq
set_option maxRecDepth 10000
def Q1u (l:List Pt) (a:Tm):Cr:=⟨a,(Sr (bcH l a)).map fresh,0⟩
theorem Qyh {zs:List (List LV)} {qs l:List Pt} {x y x' y':LV} {n d:Int} (hz:IsPts 4294967294 1073741824 zs qs) (hq:qs.length≤6) (hnl:Tx [] qs=(l,0)) (hl:∀ p∈l,Sc p.c) (hn:l.length≤10) (h1:Rj x y n) (h2:Rj x' y' d) (bn:U9 n≤4294967295) (bd:U9 d≤4294967295) (ht:Qs 400000 (Gx n d)) :
 Se Tryz.prog 66 [.agg [x,y,x',y'],.one (.row zs)] [] [.one (.ow 0 0),.one (.int .i64 0)] [.blk 124 (crl (Q1u l (tq (Gx n d))) (U8 l) (brH l (tq (Gx n d))))]:=by
 have cn:=Zkg hz hq;rw [hnl] at cn;have co:=Zkp h1 h2 bn bd (ht.mono (by decide));have hv:=Zmo ht;have hB:=Zgu hl hn;have cb:=Q1y hl hn hv;have cg:=Q1z (T:=124) (r0:=U8 l) (r1:=brH l (tq (Gx n d))) hv (hB.p _ hv) (hB.n _ hv);obtain ⟨b,l1,rfl,rfl,_⟩:=h1;obtain ⟨b',l2,rfl,rfl,_⟩:=h2;refine Hn Tryz.func66 rfl ?_;exact ed tt [] [2] [.c [] cn,.f rfl,.c [] co,.c [2] cb,.c [2] cg] rfl trivial
theorem Q4u {c:Cr} {l s:List Pt} (hs:s.length<=1000000):Se Tryz.prog 11 [.one (.ow 0 0)] [.blk 124 (crl c (U8 l) (U8 s))] [.one (ids (s.map (·.id)))] [.blk 124 (crl c (U8 l) (U8 s))]:=by
 have hcl:=Rv s;refine Hn Tryz.func11 rfl ?_;refine go tt [.o 3 3 1] rfl trivial ?_;refine lp (S:=Nat) 2 (λL1 i=>(11,.v (.one (.int .i64 (i:Int))))::(3,.v (.one (.orow 1 1 none)))::L1) (λi=>[.blk 124 (crl c (U8 l) (U8 s)),.row false 3 1 (((s.take i).map (·.id)).map λ(z:Int)=>[LV.int .i64 z])]) (λi=>s.length-i) (λi=>i<=s.length) 0 (Qg _) rfl (λ_ _=>rfl) rfl λi hi=>?_
 by_cases hlt:i<s.length
 ·obtain ⟨p,hp⟩:=gxE (l:=s) (i:=i) hlt;have hg:(((s.take (i+1)).map (·.id)).map λ(z:Int)=>[LV.int .i64 z])=(((s.take i).map (·.id)).map λ(z:Int)=>[LV.int .i64 z])++[[.int .i64 p.id]]:=by
   rw [Zw,hp]; simp
  refine go tt [.t (by simp [hcl]; omega),.x (Ru hp),.s (sz:=1) (l:=[[.int .i64 p.id]]) (λc hc=>by rw [Qj.1 hc]; rfl)] rfl (by simp [Uu]; omega) ?_;exact rd (i+1) (by omega) hlt (by rw [hg]; rfl)
 ·obtain rfl:i=s.length:=by omega
  rw [Q0];exact ed tt [1] [0] [.f (by simp [hcl])] rfl trivial
theorem Q4v {c:Cr} {l s:List Pt} {id:Int} (hs:s.length<=1000000):Se Tryz.prog 14 [.one (.ow 0 0),.one (.int .i64 id)] [.blk 124 (crl c (U8 l) (U8 s))] [.one (.bool (s.any λp=>decide (p.id=id)))] [.blk 124 (crl c (U8 l) (U8 s))]:=by
 have hcl:=Rv s;refine Hn Tryz.func14 rfl ?_;refine go tt [] rfl trivial ?_;refine lp (S:=Nat) 1 (λL1 i=>(12,.v (.one (.int .i64 (i:Int))))::L1) (λ_=>[.blk 124 (crl c (U8 l) (U8 s))]) (λi=>s.length-i) (λi=>i<=s.length/\(s.any λp=>decide (p.id=id))=(s.drop i).any λp=>decide (p.id=id)) 0 ⟨Qg _,by rw [Xm]⟩ rfl (λ_ _=>rfl) rfl λi ⟨hi,he⟩=>?_
 by_cases hlt:i<s.length
 ·obtain ⟨p,hp⟩:=gxE (l:=s) (i:=i) hlt;have hdr:s.drop i=p::s.drop (i+1):=by
   rw [Zl hlt]; congr 1;have:=Qe hlt; rw [hp] at this; injection this with this; exact this.symm
  rw [hdr,List.any_cons] at he;by_cases h:p.id=id
  ·rw [decide_eq_true h,Ud] at he;rw [he];exact ed tt [] [0] [.t (by simp [hcl]; omega),.x (Ru hp),.t (decide_eq_true h)] rfl trivial
  ·rw [decide_eq_false h,V9] at he;refine go tt [.t (by simp [hcl]; omega),.x (Ru hp),.f (decide_eq_false h)] rfl (by simp [Uu]; omega) ?_;exact rd (i+1) (by omega) ⟨hlt,he⟩ rfl
 ·obtain rfl:i=s.length:=by omega
  rw [Ky,List.any_nil] at he;rw [he];exact ed tt [] [0] [.f (by simp [hcl])] rfl trivial

end Orr
namespace Orr
open Go Go.Proofs Orq
theorem Qk3 {x y:Int} (hx:-9223372036854775808<=x/\x<=9223372036854775807) (hy:-9223372036854775808<=y/\y<=9223372036854775807):Sc (Ed x y):=⟨Crv.nml _,((Qrz hx hy).norm (by decide)).mono (by decide) (by decide)⟩
theorem Sc.pt {p:Pt} (h:Sc p.c):Quu 4294967294 1073741824 p:=⟨h.n,h.c.mono (by decide) (by decide)⟩
end Orr
namespace Orr
open Go Go.Proofs
set_option maxRecDepth 10000
theorem Cs.up {s n s' n':Nat} {k:Crv} (h:Cs s n k) (hs:s<=s') (hn:n<=n'):Cs s' n' k:=⟨Uv h.x hs,Uv h.y hs,Qd h.d hs,Qd h.lx hn,Qd h.ly hn⟩
end Orr
namespace Orr
open Go Go.Proofs Orq
set_option maxRecDepth 10000
theorem Q2j {l m:List Pt} (h:l.Perm m) (hd:Lr l):Lr m:=(h.pairwise_iff (λh=>λe=>h e.symm)).1 hd


theorem Qvg {M:List Pt} {q:Rat} {c:List (List Int)} (hM:∀ p∈M,Rs p.c) (hl:M.length≤10) (hq:Qs 1000000 q) (hC:Qx5 q c):Se Tryz.prog 65 [.one (.ow 0 0)] [.blk 45 (plZ M q)] [] [.blk 45 (plB M q c (Qeb q M))]:=by
 refine Hn Tryz.func65 rfl ?_;exact ed tt [] [0] [.c [] (Qgi hq hC),.c [] (Qu4 (cs:=c) hM hl hq),.c [] (Q5u (Q3m q hl))] rfl trivial
theorem Q12 {zs:List RawPt} {n d:Int} {O M:List Pt} {e:Nat} {c:List (List Int)} (hz:∀ z∈zs,z.Ok) (hO:Qfz 4 20 zs=O) (he:e≤O.length) (hd:Lr (Sl O e)) (hm:e<O.length->¬Lr (Sl O (e+1))) (hn:-9223372036854775808≤n/\n≤9223372036854775807) (hdd:-9223372036854775808≤d/\d≤9223372036854775807) (hC:Qx5 (Ix n d) c) (hM:M=Fx Lt (Qbq O e)) :
 Se Tryz.prog 9 [.one (.row (Qef zs)),.one (.int .i64 n),.one (.int .i64 d)] [] [.one (.ow 0 0),.one (.ow 1 0),.one (.bool true)] [.blk 124 (crl (Q1u M (tq (Ix n d))) (U8 M) (brH M (tq (Ix n d)))),.blk 45 (plB M (Ix n d) c (Qeb (Ix n d) M))]:=by
 have hO4:O.length<=4:=by rw [<-hO]; exact Ox _ _ (Qg _)
 have hid:∀ p∈O,-9223372036854775808≤p.id/\p.id≤9223372036854775807:=λp hp=>by
  rw [<-hO] at hp; have:=Zd8 p hp; omega
 have hlit:∀ p∈O,Q1l p:=λp hp=>by rw [<-hO] at hp; exact Qmv (by decide) p hp
 have hcl:(Sl O e).length=e:=Qdd he;have hcn:(Qbq O e).length=e:=by rw [Qgz,hcl]
 have hMl:M.length=e:=by rw [hM,H5,hcn]
 have hok:∀ p∈M,Nml p.c/\Cs 10 3 p.c:=λp hp=>by rw [hM,Sx] at hp; exact Qzc hlit e p hp
 have hq:=Qnw n d;obtain ⟨q,hqq⟩:=nmE (Ix n d);have cb:=Qy0 (l:=Qbq O e) (by omega);rw [<-hM] at cb;rw [<-hqq] at hq hC ⊢;have csm:=Zbx hn hdd;have c2:=Qvg (M:=M) (q:=q) (c:=c) (λp hp=>⟨(hok p hp).1,(hok p hp).2.mono (by decide) (by decide)⟩) (by omega) (hq.mono (by decide)) hC;have ctr:=Zko (q:=q) (hq.mono (by decide));have hnl:=Q29 (qs:=Qbq O e) (by omega) (Ql1 hd);have hnl2:Tx [] (Qbq O e)=(M,0):=by rw [hM,<-hnl.2,<-hnl.1]
 have cs:=Qyh (zs:=U8 (Sl O e)) (qs:=Qbq O e) (l:=M) (n:=q.num) (d:=(q.den:Int)) (Qmr λp hp=>(Qr0 hlit e p hp).mono (by decide) (by decide)) (by omega) hnl2 (λp hp=>⟨(hok p hp).1,(hok p hp).2.mono (by decide) (by decide)⟩) (by omega) (U0 q.num) (U0 (q.den:Int)) (Qd hq.1 (by decide)) (Qd hq.2 (by decide)) (by rw [Qec]; exact hq.mono (by decide));rw [Qec] at cs;rw [show Gx (I9 n 61-30) (1+I9 d 6)=q from hqq.symm] at csm;have cp:=Q10 hz;rw [hO] at cp;refine Hn Tryz.func9 rfl ?_;refine go tt [.c [0,1] cp] rfl trivial ?_;have h0l:=Rv O;refine ct 2 (S:=Unit) (λ_=>[(1,.v (.one (.int .i64 n))),(2,.v (.one (.int .i64 d))),(9,.v (.one (.row (U8 (Sl O e))))),(10,.v (.one (.row (Fc (Qbq O e)))))]) (λ_=>[.gone,.gone]) (λ_=>True) rfl ?_ (λ_ _=>?_)
 ·refine lp (S:=Nat) 2 (λL1 i=>(23,.v (.one (.int .i64 (i:Int))))::(9,.v (.one (.orow 0 5 none)))::(10,.v (.one (.orow 1 7 none)))::L1) (λi=>[.row false 135 5 (U8 (mix O i)),.row false 57 7 (Fc ((mix O i).map Pt.nrm))]) (λi=>O.length-i) (λi=>i<=O.length/\i<=e/\Lr (Sl O i)) 0 ⟨Qg _,Qg _,List.Pairwise.nil⟩ rfl (λ_ _=>rfl) (by rw [Q75]; rfl) λi ⟨hi,hie,hdi⟩=>?_
  have hl1:(U8 (mix O (i+1))).length=O.length:=by rw [Rv,Qh1]
  have hl0:(U8 (mix O i)).length=O.length:=by rw [Rv,Qh1]
  have hr0:(Fc ((mix O i).map Pt.nrm)).length=O.length:=by rw [Gy,Zc,Qh1]
  have hr1:(Fc ((mix O (i+1)).map Pt.nrm)).length=O.length:=by rw [Gy,Zc,Qh1]
  by_cases h:i<O.length
  ·obtain ⟨p,hp⟩:=gxE (l:=O) (i:=i) h;have hx:=Zdj hp;have hxn:((mix O i).map Pt.nrm)[i]? = some p.nrm:=by rw [Zb,hx]; rfl
   have cw:=Qc4 (v:=p.id) (n:=5) (hid p (Qa hp)) (by decide);rw [show I9 p.id 5=p.m5.id from rfl] at cw;refine go tt [.t (decide_eq_true (by omega)),.i i,.x (Ru hx),.c [] cw,.i i,.x (Ru hx),.c [] cw,.i i,.x (Ru hx),.i i,.x (Fa hxn)] rfl (by simp [Uu,hl0,hr0]; omega) ?_;rw [Qp2 hp,Qln hp];refine lp (S:=Nat) 2 (λL1 j=>(12,.v (.one (.int .i64 (j:Int))))::(9,.v (.one (.orow 0 5 none)))::(10,.v (.one (.orow 1 7 none)))::L1) (λ_=>[.row false 135 5 (U8 (mix O (i+1))),.row false 57 7 (Fc ((mix O (i+1)).map Pt.nrm))]) (λj=>i-j) (λj=>j<=i/\∀ k x,k<j->O[k]? = some x->x.m5.id≠p.m5.id) 0 ⟨Qg _,λk x h=>absurd h (Ur _)⟩ rfl (λ_ _=>rfl) rfl λj ⟨hj,hjn⟩=>?_
   by_cases hji:j<i
   ·obtain ⟨x,hxj⟩:=gxE (l:=O) (i:=j) (by omega);have g1:=Q0d (i:=i+1) (show j<i+1 by omega) hxj;have g2:=Q0d (i:=i+1) (show i<i+1 by omega) hp;by_cases hq:x.m5.id=p.m5.id
    ·have hnd:¬Lr (Sl O (i+1)):=λhD=>by
      have:=Ye.1 hD j i (by rw [Qdd (by omega)]; omega) (by rw [Qdd (by omega)]; omega) hji;refine this ?_;have e1:(Sl O (i+1))[j]? = some x.m5:=by unfold Sl; rw [List.getElem?_map,List.getElem?_take,if_pos (by omega),hxj]; rfl
      have e2:(Sl O (i+1))[i]? = some p.m5:=by unfold Sl; rw [List.getElem?_map,List.getElem?_take,if_pos (by omega),hp]; rfl
      rw [(Qc.1 e1).2,(Qc.1 e2).2]; exact hq
     have hie2:i=e:=by
      rcases Q6 i e with h3 | h3
      ·exact absurd (Zcs hd h3) hnd
      ·omega
     have c1:(U8 (mix O (i+1))).take i=U8 (Sl O e):=by rw [Q3j (by omega) (by omega),hie2]
     have c2:(Fc ((mix O (i+1)).map Pt.nrm)).take i=Fc (Qbq O e):=by rw [Qxg (by omega) (by omega),hie2]
     refine go tt [.t (decide_eq_true (by omega)),.i j,.x (Ru g1),.i i,.x (Ru g2),.t (decide_eq_true hq),.i i,.i i] rfl (by simp [Uu,hl1,hr1]; omega) ?_;refine pz 0 rfl rfl ?_;refine pz 1 rfl rfl ?_;exact go tt [.t (decide_eq_true (by omega))] rfl trivial (rc () trivial (by rw [c1,c2]; rfl))
    ·refine go tt [.t (decide_eq_true (by omega)),.i j,.x (Ru g1),.i i,.x (Ru g2),.f (decide_eq_false hq)] rfl (by simp [Uu,hl1]; omega) ?_;exact rd (j+1) (by omega) ⟨hji,λk y hk hy=>by
      rcases Q6 k j with h3 | h3
      ·exact hjn k y h3 hy
      ·have:k=j:=by omega
       subst this; rw [hxj] at hy; injection hy with hy; rw [<-hy]; exact hq⟩ rfl
   ·have hji2:j=i:=by omega
    rw [hji2] at hjn;have hD:=Q2k hp hdi hjn;have hle:i+1<=e:=by
     rcases Q6 i e with h3 | h3
     ·exact h3
     ·have:i=e:=by omega
      rw [this] at hD h;exact absurd hD (hm h)
    refine go tt [.f (decide_eq_false (by omega)),.f (decide_eq_false (by omega))] rfl (by simp [Uu]; omega) ?_;exact rd (i+1) (by omega) ⟨h,hle,hD⟩ rfl
  ·have hiO:i=O.length:=by omega
   have hie2:i=e:=by omega
   have c1:U8 (mix O i)=U8 (Sl O e):=by rw [<-hie2,hiO,Qs2]
   have c2:Fc ((mix O i).map Pt.nrm)=Fc (Qbq O e):=by rw [<-hie2,hiO,Qs2]; rfl
   refine go tt [] rfl trivial ?_;rw [c1,c2];refine pz 0 rfl rfl ?_;refine pz 1 rfl rfl ?_;exact go tt [.f (decide_eq_false (by omega))] rfl trivial (rc () trivial rfl)
 ·exact ed tt [] [3,2] [.c [] cb,.c [] csm,.c [2] c2,.c [] ctr,.c [3] cs,.g 96 true rfl] rfl trivial
end Orr
namespace Orr
open Go
end Orr
namespace Orq
open Orr Go
end Orq
namespace Orr
open Orq Go
end Orr
namespace Orr
open Orq
end Orr
namespace Orq
open Orr Go
def Cf (s:List Int) (i:Nat):Pt:=⟨⟨trim [(i:Int)],trim [s.getD i 0,(i:Int)],1⟩,10-(i:Int)⟩
end Orq
namespace Orr
end Orr
namespace Orq
open Orr Go
section
variable {α:Type} {s:α->α->α->Bool} {S:α->Prop}
end
def hfn (s:List Int) (same:Bool) (i:Nat):List Int:=if same=true then [3,2] else trim [s.getD i 0,(i:Int)]
def hpt (s:List Int) (same:Bool) (i:Nat):Pt:=⟨⟨hfn s same i,Bv (hfn s same i) (hfn s same i),1⟩,(i:Int)⟩
def Dv (s:List Int) (t:Int) (i:Nat):Int:=s.getD i 0+(i:Int)*t
end Orq
namespace Orr
open Go Go.Proofs Orq
set_option maxRecDepth 10000
end Orr
namespace Orq
open Orr Go
theorem Qkc {x y:Rat} (hx:x<0) (hy:0<=y):x*y<=0:=by
 have:=Vb (show 0<=-x by grind) hy; grind
theorem Qkd {x y:Rat} (hx:x<0) (hy:x*y<=0):0<=y:=by
 rcases Fj 0 y with h | h
 ·exact h
 ·have:=Jh (show 0 < -x by grind) (show 0 < -y by grind); grind
theorem Q1r {ux uy vx vy dx dy:Rat} (hu:ux<0\/ux=0/\uy<0) (hv:vx<0\/vx=0/\vy<0) (h0:ux*vy-vx*uy=0) (h1:0<=-(ux*dy-dx*uy)) (h2:0<=vx*dy-dx*vy):ux*dy-dx*uy=0:=by
 have key:0<=ux*dy-dx*uy:=by
  rcases hu with hu | ⟨hu,hu'⟩
  ·have hvx:vx<0:=by
    rcases hv with h | ⟨h,h'⟩
    ·exact h
    ·exfalso;rw [h] at h0;have:=Jh (show 0 < -ux by grind) (show 0 < -vy by grind);grind
   have e:ux*(vx*dy-dx*vy)=vx*(ux*dy-dx*uy):=by grind
   have:=Qkc hu h2;rw [e] at this;exact Qkd hvx this
  ·subst hu;have hvx:vx=0:=by
    have:vx*uy=0:=by grind
    rcases Je.1 this with h | h
    ·exact h
    ·grind
   have hvy:vy<0:=by
    rcases hv with h | ⟨_,h⟩
    ·rw [hvx] at h; exact absurd h (by decide)
    ·exact h
   have e:uy*(vx*dy-dx*vy)=vy*(0*dy-dx*uy):=by rw [hvx]; grind
   have:=Qkc hu' h2;rw [e] at this;exact Qkd hvy this
 grind
theorem Q25 {ux uy a1 a2 b1 b2 c1 c2 z1 z2:Rat} (hu:ux<0\/ux=0/\uy<0) (ha:ux*(a2-z2)-(a1-z1)*uy=0) (hb:ux*(b2-z2)-(b1-z1)*uy=0) (hc:ux*(c2-z2)-(c1-z1)*uy=0):(b1-a1)*(c2-a2)-(c1-a1)*(b2-a2)=0:=by
 rcases hu with hu | ⟨hu,hu'⟩
 ·have e:ux*((b1-a1)*(c2-a2)-(c1-a1)*(b2-a2))=0:=by grind
  rcases Je.1 e with h | h
  ·grind
  ·exact h
 ·subst hu;have e1:(a1-z1)*uy=0:=by grind
  have e2:(b1-z1)*uy=0:=by grind
  have e3:(c1-z1)*uy=0:=by grind
  have f:∀ x:Rat,x*uy=0->x=0:=λx hx=>by
   rcases Je.1 hx with h | h
   ·exact h
   ·grind
  have:=f _ e1;have:=f _ e2;have:=f _ e3;have g1:b1-a1=0:=by grind
  have g2:c1-a1=0:=by grind
  rw [g1,g2]; grind
theorem Qzz {X Y:Pt->Rat} {R:List Pt} {f z:Pt} {A B:List Pt} (c1:LowC X Y R (f::A++[z])) (c2:LowC (λp=>-X p) (λp=>-Y p) R.reverse (z::B++[f])) (hAB:A≠[]\/B≠[]) {x w:Pt} {A' B':List Pt} (hx:f::A++[z]=A'++[x,z]) (hw:z::B++[f]=z::w::B'):0<Nq X Y x z w:=by
 have ex:(x,z)∈D8 (f::A++[z]):=by
  rw [hx]; unfold D8;clear hx
  induction A' with
  | nil=>simp
  |
   cons y A' ih =>
   cases A' with
   | nil=>simp
   |
    cons y' A' =>
    rw [Xf,Kf,Xm,Xf,List.zip_cons_cons];exact Qk _ ih
 have ew:(z,w)∈D8 (z::B++[f]):=by rw [hw]; unfold D8; simp
 have hxR:x∈R:=c1.mem x (by rw [hx]; simp);have hwR:w∈R:=X8.1 (c2.mem w (by rw [hw]; simp));have h1:∀ p∈R,0≤Nq X Y x z p:=Qdg.1 c1.edg _ ex;have h2:∀ p∈R,0≤Nq X Y z w p:=λp hp=>by
  have:=Qdg.1 c2.edg _ ew p (X8.2 hp);rwa [Iv X Y] at this
 have lx1:lx X Y x z:=by
  have:=c1.srt;rw [hx] at this;exact (Zf.1 (X4.1 this).2.1).1 z (by simp)
 have lw1:lx X Y w z:=by
  have:=c2.srt;rw [hw] at this;exact Q70.1 ((Zf.1 this).1 w (by simp))
 rcases Vi.1 (h1 w hwR) with h | h
 ·exact h
 exfalso;have hu:X x-X z<0\/X x-X z=0/\Y x-Y z<0:=by unfold lx at lx1; grind
 have hv:X w-X z<0\/X w-X z=0/\Y w-Y z<0:=by unfold lx at lw1; grind
 have h0:(X x-X z)*(Y w-Y z)-(X w-X z)*(Y x-Y z)=0:=by unfold Nq at h; grind
 have flat:∀ p∈R,(X x-X z)*(Y p-Y z)-(X p-X z)*(Y x-Y z)=0:=λp hp=>by
  have a:=h1 p hp;have b:=h2 p hp;refine Q1r hu hv h0 ?_ ?_
  ·unfold Nq at a; grind
  ·unfold Nq at b; grind
 have all0:∀ a∈R,∀ b∈R,∀ c∈R,Nq X Y a b c=0:=λa ha b hb c hc=>Q25 hu (flat a ha) (flat b hb) (flat c hc)
 rcases hAB with hA | hB
 ·cases A with
  | nil=>exact hA rfl
  |
   cons a A =>
   have hc:=c1.cnv;have hm:=c1.mem;cases A with
   |
    nil =>
    have:0<Nq X Y f a z:=hc.1;rw [all0 f (hm f (by simp)) a (hm a (by simp)) z (hm z (by simp))] at this;exact absurd this (by decide)
   |
    cons b A =>
    have:0<Nq X Y f a b:=hc.1;rw [all0 f (hm f (by simp)) a (hm a (by simp)) b (hm b (by simp))] at this;exact absurd this (by decide)
 ·cases B with
  | nil=>exact hB rfl
  |
   cons a B =>
   have hc:=c2.cnv;have hm:∀ p∈z::(a::B)++[f],p∈R:=λp hp=>X8.1 (c2.mem p hp)
   cases B with
   |
    nil =>
    have:0<Nq (λp=>-X p) (λp=>-Y p) z a f:=hc.1;rw [Iv X Y,all0 z (hm z (by simp)) a (hm a (by simp)) f (hm f (by simp))] at this;exact absurd this (by decide)
   |
    cons b B =>
    have:0<Nq (λp=>-X p) (λp=>-Y p) z a b:=hc.1;rw [Iv X Y,all0 z (hm z (by simp)) a (hm a (by simp)) b (hm b (by simp))] at this;exact absurd this (by decide)
theorem Q1a {α:Type} {l:List α} {x:α} (h:l.getLast? = some x):l=l.dropLast++[x]:=by
 cases l with
 | nil=>simp at h
 |
  cons a l =>
  have e:=List.dropLast_concat_getLast (l:=a::l) (by simp);rw [Yl (by simp)] at h;injection h with h;rw [<-h]; exact e.symm
theorem Qos {α:Type} {R:α->α->α->Prop}:∀ {L:List α} {i:Nat} {a b c:α},Cnv R L->L[i]? = some a->L[i+1]? = some b->L[i+2]? = some c->R a b c
 | [],_,_,_,_,_,h,_,_=>by simp at h
 | [_],_,_,_,_,_,_,h,_=>by simp at h
 | [_,_],i,_,_,_,_,_,_,h=>by simp at h
 |
  x::y::w::l,0,a,b,c,hc,h1,h2,h3=>by
  simp at h1 h2 h3; subst h1; subst h2; subst h3; exact hc.1
 | x::y::w::l,i+1,a,b,c,hc,h1,h2,h3=>Qos (L:=y::w::l) (i:=i) hc.2 (by simpa using h1) (by simpa using h2) (by simpa using h3)
theorem Zhn {x y:Crv}:Ck x y=true↔x=y:=by
 cases x; cases y; simp [Ck]
theorem Qul {l:List Pt} {p:Pt} (hp:p∈l):∃ w∈Sb l,w.c=p.c:=by
 have stay:∀ (l out:List Pt) (w:Pt),w∈out->w∈l.foldl Sv out:=by
  intro l
  induction l with
  | nil=>intro out w h; exact h
  |
   cons y l ih =>
   intro out w h;refine ih _ _ ?_;unfold Sv
   split
   ·exact h
   ·exact Jc _ h
 have key:∀ (l out:List Pt),p∈l->∃ w∈l.foldl Sv out,w.c=p.c:=by
  intro l
  induction l with
  | nil=>intro out h; cases h
  |
   cons y l ih =>
   intro out h;rcases Qq.1 h with rfl | h
   ·rw [Xg];by_cases hc:(out.any λq=>Ck p.c q.c)=true
    ·obtain ⟨w,hw,he⟩:=Uf.1 hc;refine ⟨w,stay l _ w ?_,(Zhn.1 he).symm⟩;unfold Sv; rw [if_pos hc]; exact hw
    ·refine ⟨p,stay l _ p ?_,rfl⟩;unfold Sv; rw [if_neg hc]; simp
   ·exact ih _ h
 exact key l [] hp
theorem Q8j (X Y:Pt->Rat) (a p:Pt):Nq X Y a a p=0:=by unfold Nq; grind
theorem Qrd {l:List Pt} (hl:∀ p∈l,Sc p.c) (hd:l.Pairwise λx y=>x.id≠y.id) {a:Tm} (ha:Va a) {e:Pt×Pt} (he:e∈Ge (Gz l a)) {p:Pt} (hp:p∈l):0≤Nc (Rp a) (Hp e.1.c e.2.c p.c):=by
 obtain ⟨q,S⟩:=Qif hl hd ha;obtain ⟨w,hw,hwc⟩:=Qul hp;obtain ⟨m1,m2⟩:=Qgl he;have hwl:=Cz hw;rw [<-hwc,S.o _ (Tg m1) _ (Tg m2) _ hwl];have hwR:w∈Sk a (Sb l):=Mj.2 hw;have nn:∀ {x:Rat},0<=x->0<=U6 x:=λ{x} hx=>by
  unfold U6
  split
  ·grind
  ·split <;> decide
 refine nn ?_;by_cases h3:3<=(Sk a (Sb l)).length
 ·obtain ⟨f,z,A,B,_,_,c1,c2,hE,_⟩:=Ie S h3;rw [hE] at he;rcases Qt.1 he with he | he
  ·exact Qdg.1 c1.edg _ he w hwR
  ·have:=Qdg.1 c2.edg _ he w (X8.2 hwR);rwa [Iv (px · q) (py · q)] at this
 ·have hC:Gz l a=Sk a (Sb l):=by unfold Gz Pp; rw [if_pos (by omega)]
  rw [hC] at he;generalize Sk a (Sb l)=R at *
  match R,h3,hwR,he with
  | [],_,hwR,_=>cases hwR
  |
   [f],_,hwR,he =>
   have:e=(f,f):=by simpa [Ge] using he
   subst this;rw [Q8j]; exact Qo
  |
   [f,z],_,hwR,he =>
   have h:e=(f,z)\/e=(z,f):=by simpa [Ge] using he
   have h':w=f\/w=z:=by simpa using hwR
   rcases h with rfl | rfl <;> rcases h' with rfl | rfl
   ·rw [(Ai _ _).1]; exact Qo
   ·rw [(Ai _ _).2]; exact Qo
   ·rw [(Ai _ _).2]; exact Qo
   ·rw [(Ai _ _).1]; exact Qo
  | _::_::_::_,h3,_,_=>simp at h3
theorem Qc1 {l:List Pt} (hl:∀ p∈l,Sc p.c) (hd:l.Pairwise λx y=>x.id≠y.id) {a:Tm} (ha:Va a) {i:Nat} {f c:Pt} (h0:(Gz l a)[0]? = some f) (hi:(Gz l a)[i]? = some c) (hi0:0<i):Ms (Rp a) f c=true:=by
 obtain ⟨q,S⟩:=Qif hl hd ha;have hfl:=Tg (Qa h0);have hcl:=Tg (Qa hi);have hs:Sk a (Sb l)=Sk a (Sb l):=rfl;have pw:=Q9o (a:=a) (l:=Sb l) (q:=q) (λu hu v hv=>S.b u (Cz hu) v (Cz hv)) (List.Pairwise.sublist (Qum l) hd);refine (S.b f hfl c hcl).2 ?_;by_cases h3:3<=(Sk a (Sb l)).length
 ·obtain ⟨f',z,A,B,hA,hB,c1,c2,_,_⟩:=Ie S h3;have hC:Gz l a=f'::A++(z::B):=by
   unfold Gz Pp;rw [if_neg (by omega),hA,hB,Xp,Xp]
  rw [hC] at h0 hi;have:f'=f:=by simpa using h0
  subst this;have hne:c≠f':=by
   cases i with
   | zero=>omega
   |
    succ i =>
    have hi':(A++(z::B))[i]? = some c:=by simpa using hi
    have hm:=Qa hi';intro e;subst e;rcases Qt.1 hm with hm | hm
    ·exact Qcj _ ((Zf.1 c1.srt).1 c (Jc _ hm))
    ·have:=c2.srt;rw [Xf] at this;have h9:(z::B++[c]).Pairwise (lx (λp=>-px p q) (λp=>-py p q)):=c2.srt;exact Qcj _ ((X4.1 h9).2.2 c hm c (by simp))
  have hh:(Sk a (Sb l)).head? = some f':=by rw [<-c1.hd]; rfl
  have hcR:c∈Sk a (Sb l):=by
   have hm:=Qa hi;rcases Qt.1 hm with hm | hm
   ·exact c1.mem c (Jc _ hm)
   ·exact X8.1 (c2.mem c (Jc _ hm))
  generalize Sk a (Sb l)=R at *;cases R with
  | nil=>cases hh
  |
   cons g R =>
   have:g=f':=by simpa using hh
   subst this;rcases Qq.1 hcR with e | e
   ·exact absurd e hne
   ·exact (Zf.1 pw).1 c e
 ·have hC:Gz l a=Sk a (Sb l):=by unfold Gz Pp; rw [if_pos (by omega)]
  rw [hC] at h0 hi;obtain ⟨k0,e0⟩:=Qc.1 h0;obtain ⟨k1,e1⟩:=Qc.1 hi;have:=Ye.1 pw 0 i k0 k1 hi0;rwa [e0,e1] at this
theorem Qre {l:List Pt} (hl:∀ p∈l,Sc p.c) (hd:l.Pairwise λx y=>x.id≠y.id) {a:Tm} (ha:Va a) (h2:2<(Gz l a).length) {i:Nat} {x y w:Pt} (hx:(Gz l a)[i]? = some x) (hy:(Gz l a)[(i+1) % (Gz l a).length]? = some y) (hw:(Gz l a)[(i+2) % (Gz l a).length]? = some w):0<Nc (Rp a) (Hp x.c y.c w.c):=by
 obtain ⟨q,S⟩:=Qif hl hd ha;rw [S.o _ (Tg (Qa hx)) _ (Tg (Qa hy)) _ (Tg (Qa hw))];have pp:∀ {r:Rat},0<r->0<U6 r:=λ{r} hr=>by
  unfold U6;rw [if_neg (by grind),if_pos hr]; decide
 refine pp ?_;have h3:3<=(Sk a (Sb l)).length:=by
  rcases Q6 (Sk a (Sb l)).length 3 with h | h
  ·have hC:Gz l a=Sk a (Sb l):=by unfold Gz Pp; rw [if_pos h]
   rw [hC] at h2; omega
  ·exact h
 obtain ⟨f,z,A,B,hA,hB,c1,c2,_,_⟩:=Ie S h3;have hC:Gz l a=f::A++(z::B):=by
  unfold Gz Pp;rw [if_neg (by omega),hA,hB,Xp,Xp]
 rw [hC] at h2 hx hy hw;have hn:(f::A++(z::B)).length=A.length+B.length+2:=by simp; omega
 rw [hn] at h2 hy hw;have hil:i<A.length+B.length+2:=by rw [<-hn]; exact (Qc.1 hx).1
 have d1:∀ {k:Nat} {u:Pt},k<=A.length+1->(f::A++(z::B))[k]? = some u->(f::A++[z])[k]? = some u:=λ{k u} hk h=>by
  have e:f::A++(z::B)=(f::A++[z])++B:=by simp
  rw [e,Q8 (by simp; omega)] at h;exact h
 have d2:∀ {k:Nat} {u:Pt},A.length+1<=k->k<A.length+B.length+2->(f::A++(z::B))[k]? = some u->(z::B++[f])[k-(A.length+1)]? = some u:=λ{k u} hk hk2 h=>by
  rw [Zn (by simp; omega)] at h;rw [Q8 (by simp; omega)];rw [show (f::A).length=A.length+1 from by simp] at h;exact h
 have d3:(z::B++[f])[B.length+1]? = some f:=by
  rw [Zn (by simp)]; simp
 have n1:(λa b c:Pt=>0<Nq (λp=>-px p q) (λp=>-py p q) a b c)=λa b c=>0<Nq (px · q) (py · q) a b c:=by
  funext a b c; rw [Iv (px · q) (py · q)]
 have hcnv2:Cnv (λa b c=>0<Nq (px · q) (py · q) a b c) (z::B++[f]):=by rw [<-n1]; exact c2.cnv
 rcases Q6 (i+2) (A.length+2) with k | k
 ·-- in the first C6
  rw [Xb (by omega)] at hy hw;exact Qos c1.cnv (d1 (by omega) hx) (d1 (by omega) hy) (d1 (by omega) hw)
 rcases Q6 i (A.length+1) with k' | k'
 ·-- at the Qzz z
  have hi:i=A.length:=by omega
  subst hi;rw [Xb (by omega)] at hy;have hx':=d1 (by omega) hx;have hy':=d1 (by omega) hy;have ez:y=z:=by
   rw [Zn (by simp)] at hy';simpa using hy'.symm
  subst ez;obtain ⟨A',hA'⟩:∃ A',f::A++[y]=A'++[x,y]:=by
   refine ⟨(f::A).dropLast,?_⟩;have:(f::A)=(f::A).dropLast++[x]:=by
    have hl':(f::A).getLast? = some x:=by
     rw [List.getLast?_eq_getElem?];rw [Q8 (by simp)] at hx';simpa using hx'
    exact Q1a hl'
   rw [this,Xp,Zi]; rfl
  obtain ⟨B',hB'⟩:∃ B',y::B++[f]=y::w::B':=by
   cases B with
   |
    nil =>
    simp only [Yx] at hw h2;rw [show (A.length+2) % (A.length+0+2)=0 by simp] at hw;have:w=f:=by simpa using hw.symm
    subst this; exact ⟨[],rfl⟩
   |
    cons b B =>
    rw [Xb (by rw [Q7] at *; omega)] at hw;have hw':=d2 (by omega) (by rw [Q7] at *; omega) hw;rw [show A.length+2-(A.length+1)=1 by omega] at hw';have:w=b:=by simpa using hw'.symm
    subst this; exact ⟨B++[f],rfl⟩
  exact Qzz c1 c2 (by
   rcases A with _ | ⟨_,A⟩
   ·right; intro e; rw [e] at h2; simp at h2
   ·left; exact λe=>by cases e) hA' hB'
 rcases Q6 (i+1) (A.length+B.length+2) with k'' | k''
 ·-- in the second C6
  rw [Xb (by omega)] at hy;have hx':=d2 (by omega) (by omega) hx;have hy':=d2 (by omega) (by omega) hy;rw [show i+1-(A.length+1)=i-(A.length+1)+1 by omega] at hy';have hw':(z::B++[f])[i-(A.length+1)+2]? = some w:=by
   rcases Q6 (i+2) (A.length+B.length+2) with k3 | k3
   ·rw [Xb k3] at hw;have:=d2 (by omega) (by omega) hw;rw [<-this]; congr 1; omega
   ·have e:i+2=A.length+B.length+2:=by omega
    rw [e,Uj] at hw;have:w=f:=by simpa using hw.symm
    subst this;rw [<-d3]; congr 1; omega
  exact Qos hcnv2 hx' hy' hw'
 ·-- at the Qzz f
  have hi:i+1=A.length+B.length+2:=by omega
  rw [hi,Uj] at hy;have ef:y=f:=by simpa using hy.symm
  subst ef;have hx':=d2 (by omega) (by omega) hx;obtain ⟨B',hB'⟩:∃ B',z::B++[y]=B'++[x,y]:=by
   refine ⟨(z::B).dropLast,?_⟩;have:(z::B)=(z::B).dropLast++[x]:=by
    have hl':(z::B).getLast? = some x:=by
     rw [List.getLast?_eq_getElem?];rw [Q8 (by simp; omega)] at hx';rw [<-hx']; congr 1; simp; omega
    exact Q1a hl'
   rw [this,Xp,Zi]; rfl
  obtain ⟨A',hA'⟩:∃ A',y::A++[z]=y::w::A':=by
   rw [show i+2=1+(A.length+B.length+2) by omega,Nat.add_mod_right,Xb (by omega)] at hw;cases A with
   |
    nil =>
    have:w=z:=by simpa using hw.symm
    subst this; exact ⟨[],rfl⟩
   |
    cons b A =>
    have:w=b:=by simpa using hw.symm
    subst this; exact ⟨A++[z],rfl⟩
  have hr:LowC (λp=>-(λp=>-px p q) p) (λp=>-(λp=>-py p q) p) (Sk a (Sb l)).reverse.reverse (y::A++[z]):=by
   rw [List.reverse_reverse];have e1:(λp:Pt=>-(λp=>-px p q) p)=(px · q):=by funext p; grind
   have e2:(λp:Pt=>-(λp=>-py p q) p)=(py · q):=by funext p; grind
   rw [e1,e2]; exact c1
  have:=Qzz c2 hr (by
   rcases B with _ | ⟨_,B⟩
   ·right; intro e; rw [e] at h2; simp at h2
   ·left; exact λe=>by cases e) hB' hA'
  rwa [Iv (px · q) (py · q)] at this
end Orq
namespace Orr
open Go Go.Proofs Orq
theorem Qfx (p:List Int) (q:Rat):Uy (Qbv 0 p) q=Uy p q:=rfl
theorem Qm9 (p:List Int) (q:Rat):Uy (Qbv 1 p) q=-Uy p q:=Qae p q
theorem Q3f (p:List Int) (q:Rat):Uy (Qbv 2 p) q=Uy p q:=rfl
theorem Q8q (p:List Int) (q:Rat):Uy (Ls 1 [[p]]) q=Uy p q:=by
 show Uy (Bv [] (Qbv 0 (Fu p [1]))) q=_;rw [Cu,Qfx,Fh,P3];show (0:Rat)+_=_;grind
theorem Qwu (p r s t:List Int) (q:Rat):Uy (Ls 2 [[p,r],[s,t]]) q=Uy p q*Uy t q-Uy r q*Uy s q:=by
 show Uy (Bv (Bv [] (Qbv 0 (Fu p (Ls 1 [[t]])))) (Qbv 1 (Fu r (Ls 1 [[s]])))) q=_;rw [Cu,Cu,Qfx,Qm9,Fh,Fh,Q8q,Q8q];show (0:Rat)+_+_=_;grind
theorem Zis (a1 a2 a3 b1 b2 b3 c1 c2 c3:List Int) (q:Rat):Uy (Ls 3 [[a1,a2,a3],[b1,b2,b3],[c1,c2,c3]]) q=Uy a1 q*(Uy b2 q*Uy c3 q-Uy b3 q*Uy c2 q)-Uy a2 q*(Uy b1 q*Uy c3 q-Uy b3 q*Uy c1 q)+Uy a3 q*(Uy b1 q*Uy c2 q-Uy b2 q*Uy c1 q):=by
 show Uy (Bv (Bv (Bv [] (Qbv 0 (Fu a1 (Ls 2 [[b2,b3],[c2,c3]])))) (Qbv 1 (Fu a2 (Ls 2 [[b1,b3],[c1,c3]])))) (Qbv 2 (Fu a3 (Ls 2 [[b1,b2],[c1,c2]])))) q=_;rw [Cu,Cu,Cu,Qfx,Qm9,Q3f,Fh,Fh,Fh,Qwu,Qwu,Qwu];show (0:Rat)+_+_+_=_;grind
theorem Ql5 {f:Nat->List Int} {rows:List (List (List Int))}:∀ i,U3 (Nk f rows i)
 | 0=>rfl
 |
  i+1=>by
  simp only [Nk]
  split
  ·exact Ql5 i
  ·split
   ·exact Fl _ _
   ·exact Fl _ _
theorem Qkj (a b c:Crv):S7 a b c=Hp a b c:=by
 refine Qpv (Fl _ _) (Ql5 3) λq=>?_
 show Uy (Ls 3 [[a.x,a.y,[a.d]],[b.x,b.y,[b.d]],[c.x,c.y,[c.d]]]) q=Uy (Co 3 [[a.x,a.y,[a.d]],[b.x,b.y,[b.d]],[c.x,c.y,[c.d]]]) q;rw [Zis,Qti];grind
end Orr
namespace Orq
open Orr Go

def crR (C:List (List Int)) (p:List Int) (lo hi t:Rat):Int :=
 if Gt lo hi=0 then Gt lo t else if Gt t lo<=0 then 1 else if 0<Gt t hi then -1 else if Tl C lo t=0 then 1 else if Gm p t=0 then 0 else -1
theorem Q6d {p:List Int} {C:List (List Int)} {lo hi:Rat} (V:Vt (cz p) (C.map cz) lo hi) (q:Rat):crR C p lo hi q=cq (cz p) lo hi q:=by
 have hl:=V.l;unfold crR;rw [if_neg (λh=>by have:=Qoq.1 h; grind)];rcases Classical.em (q<=lo) with h1 | h1
 ·rw [if_pos (Qdb.2 h1),Bi h1]
 rw [if_neg (λh=>h1 (Qdb.1 h))];rcases Classical.em (hi<q) with h2 | h2
 ·rw [if_pos (Nh.2 h2),I3 hl h2]
 rw [if_neg (λh=>h2 (Nh.1 h))];have h1':lo<q:=Ji.1 h1;have h2':q<=hi:=Rat.not_lt.1 h2;rw [D5 (Qp h1'),Sp];rcases V.two h1' h2' with ⟨a,b,_⟩ | ⟨a,b,_⟩
 ·rw [if_pos (by rw [a]; omega),b]
 ·rw [if_neg (by have:=V.v; omega)];rw [Ni h1' h2',Uz] at *
  split
  ·rfl
  ·rename_i h0;rw [if_neg h0] at b
   split at b
   ·exact absurd rfl b
   ·rename_i hne; rw [if_neg hne]
theorem Zdh {t:Tm} {L:List (List Rat)} {D M k:Nat} {lo hi:Rat} (hu:Hv t D M k ⟨t.p,lo,hi⟩) (V:Vt (cz t.p) L lo hi) :
 (cq (cz t.p) lo hi (mid lo hi)<=0->Hv t D M (k+1) ⟨t.p,lo,mid lo hi⟩/\Vt (cz t.p) L lo (mid lo hi))/\(¬cq (cz t.p) lo hi (mid lo hi)<=0->Hv t D M (k+1) ⟨t.p,mid lo hi,hi⟩/\Vt (cz t.p) L (mid lo hi) hi):=by
 have hl:=V.l;have h2:(lo+hi) / 2*2=lo+hi:=Gh (by decide);have gm:Gr D M (k+1) (mid lo hi):=by rw [Qfu]; exact Qv9 hu.l hu.h
 rw [Qfu] at *;generalize (lo+hi) / 2=m at *;have m1:lo<m:=by grind
 have m2:m<hi:=by grind
 have cut:∀ q,Fw ⟨t.p,lo,hi⟩ q=cq (cz t.p) lo hi q:=λq=>Tv (t:=⟨t.p,lo,hi⟩) hl q
 refine ⟨λh=>?_,λh=>?_⟩
 ·have hm:cq (cz t.p) lo hi m≠1:=λe=>by omega
  have V':Vt (cz t.p) L lo m:=⟨V.s,m1,by rw [V.eq_hi m1 (Qp m2) hm]; exact V.v⟩;refine ⟨⟨rfl,.inr ⟨L,V'⟩,λq=>?_,Qgr hu.l,gm⟩,V'⟩;rw [<-hu.c q,cut q];show Fw ⟨t.p,lo,m⟩ q=_;rw [Tv (t:=⟨t.p,lo,m⟩) m1 q];exact (V'.uniq V.cut (Bi Qo) hm V.van q).symm
 ·have hm:cq (cz t.p) lo hi m=1:=by
   rcases V.cut.val m with e | e | e <;> omega
  have V':Vt (cz t.p) L m hi:=⟨V.s,m2,by rw [V.eq_lo m1 (Qp m2) hm]; exact V.v⟩;refine ⟨⟨rfl,.inr ⟨L,V'⟩,λq=>?_,gm,Qgr hu.h⟩,V'⟩;rw [<-hu.c q,cut q];show Fw ⟨t.p,m,hi⟩ q=_;rw [Tv (t:=⟨t.p,m,hi⟩) m2 q];exact (V'.uniq V.cut hm V.hi1 V.van q).symm
def p2 (k:Nat):Rat:=((2^k:Nat):Rat)
theorem Qkl (a b:Nat):p2 (a+b)=p2 a*p2 b:=by unfold p2; rw [Nat.pow_add,Rat.natCast_mul]
theorem Qd1 {a b:Nat} (h:a<=b):p2 a<=p2 b:=Za.2 (Zs (by decide) h)
theorem Qm5 (k:Nat):0<=p2 k:=Xo
theorem Qh5 (k:Nat):p2 (k+1)=p2 k+p2 k:=by have:=Qnd k; unfold p2; rw [this]; grind
theorem Q8m (k:Nat):1<=p2 k:=Qd1 (Qg k)
theorem Qzn {S m:Nat} {R:Rat} (h0:0≤R) (hR:R≤p2 m):∀ {p:List Rat},(∀ a∈p,U7 a≤p2 S)->evB R p≤p2 (S+(m+1)*p.length)
 | [],_=>Qm5 _
 |
  a::p,h=>by
  have ih:=Qzn h0 hR (p:=p) (λx hx=>h x (Qk _ hx));have h1:=h a (Qx ..);have h2:=Pk h0 hR (Ij h0 p) ih;rw [<-Qkl] at h2;have e:S+(m+1)*(a::p).length=(m+(S+(m+1)*p.length))+1:=by rw [Q7,Ko]; omega
  rw [e,Qh5];have h3:=Qd1 (show S<=m+(S+(m+1)*p.length) by omega);simp only [evB]; grind
theorem Qzh {S m:Nat} {R:Rat} (h0:0≤R) (hR:R≤p2 m):∀ {p:List Rat},(∀ a∈p,U7 a≤p2 S)->dqB R p≤p2 (S+(m+1)*p.length)
 | [],_=>Qm5 _
 |
  a::p,h=>by
  have hp:=λx hx=>h x (Qk a hx)
  have ih:=Qzh h0 hR (p:=p) hp;have h1:=Qzn h0 hR (p:=p) hp;have h2:=Pk h0 hR (Ph h0 p) ih;rw [<-Qkl] at h2;have e:S+(m+1)*(a::p).length=(m+(S+(m+1)*p.length))+1:=by rw [Q7,Ko]; omega
  rw [e,Qh5];have h3:=Qd1 (show S+(m+1)*p.length<=m+(S+(m+1)*p.length) by omega);simp only [dqB]; grind
theorem Zhs {S:Nat} {p:List Int} (h:Bd S p):∀ a∈cz p,U7 a≤p2 S:=λa ha=>by
 obtain ⟨z,hz,rfl⟩:=Zx.1 ha;have h1:=Qcg (q:=(z:Rat));rw [Rat.num_intCast] at h1;exact Q9 h1 (Qd1 (h z hz))
theorem Q0s {D:Rat} {b:Nat} (h0:0<=D) (h:D<=p2 b):∀ n:Nat,D^n<=p2 (b*n)/\0<=D^n
 | 0=>by rw [Xi]; exact ⟨Q8m _,by decide⟩
 |
  n+1=>by
  obtain ⟨h1,h2⟩:=Q0s h0 h n;rw [Xc,Ko,Qkl];exact ⟨Pk h2 h1 h0 h,P9 h2 h0⟩
theorem Zd0 {p:List Int} {n b:Nat} (hl:p.length=n+1) {q:Rat} (hb:U9 (q.den:Int)<=b) (h:Uy p q≠0):1<=U7 (Uy p q)*p2 (b*n):=by
 have hd0:(0:Rat)<((q.den:Int):Rat):=by
  have := @Rat.intCast_lt_intCast 0 (q.den:Int);rw [show ((0:Int):Rat)=0 from rfl] at this;exact this.2 (den_pos q)
 have hd:((q.den:Int):Rat)≠0:=by intro h; rw [h] at hd0; exact absurd hd0 (by decide)
 obtain ⟨_,hv⟩:=Qqx p q.num q.den hd p.length (Qi _);rw [Jn,Xm,Hh,Zz] at hv;have hD:((q.den:Int):Rat)<=p2 b:=by
  have h1:=Te.1 hb;rw [Xd] at h1;exact Za.2 (Jw h1)
 generalize (Pu p q.num (q.den:Int) p.length).1=Z at hv;generalize ((q.den:Int):Rat)=D at *;rw [hl,Xc] at hv;have hZ:(Z:Rat)=D^n*Uy p q:=by
  have:((Z:Rat)-D^n*Uy p q)*D=0:=by grind
  rcases Je.1 this with h' | h'
  ·grind
  ·exact absurd h' hd
 obtain ⟨k1,k2⟩:=Q0s (Qp hd0) hD n;have hp0:=Qp1 hd0 n;have hz0:Z≠0:=λe=>by
  rw [e] at hZ;rcases Je.1 hZ.symm with h' | h'
  ·rw [h'] at hp0; exact absurd hp0 (by decide)
  ·exact h h'
 have h1:=Iu hz0;rw [hZ,Dm] at h1;have h2:U7 (D^n)=D^n:=by unfold U7; rw [if_neg (by grind)]
 rw [h2] at h1;have:=Q4 k1 (Hd (Uy p q));grind
theorem Zcz {p:List Int} {L:List (List Rat)} {lo hi r:Rat} (V:Vt (cz p) L lo hi) {n b m S:Nat} (hl:p.length=n+1) (hS:Bd S p) (h1:U7 r<=p2 m) (h2:U7 hi<=p2 m) (hr:lo<r) (hc:cq (cz p) lo hi r=1) (hb:U9 (r.den:Int)<=b):1<=(hi-r)*p2 (S+(m+1)*(n+1)+b*n):=by
 have hrh:r<hi:=by
  rcases Vi.1 (show r<=hi from by
   rcases Fj r hi with e | e
   ·exact e
   ·rw [I3 V.l e] at hc; exact absurd hc (by decide)) with e | e
  ·exact e
  ·rw [e] at hc; exact absurd hc V.hi1
 have s1:U6 (ev (cz p) r)=Sa (cz p) lo:=by
  rcases V.two hr (Qp hrh) with ⟨_,_,c⟩ | ⟨_,c,_⟩
  ·exact c
  ·exact absurd hc c
 have s0:=V.lowlo;have s2:U6 (ev (cz p) hi)≠Sa (cz p) lo:=λe=>by
  refine V.hi1 ?_;rw [Ni V.l Qo,if_neg (by rw [e]; exact s0),if_pos e]
 have hne:ev (cz p) r≠0:=λe=>s0 (by rw [<-s1]; exact Fq.2 e)
 have hd:U7 (ev (cz p) r)<=U7 (ev (cz p) hi-ev (cz p) r):=by
  rw [<-s1] at s2;unfold U6 at s2;unfold U7;generalize ev (cz p) r=x at *;generalize ev (cz p) hi=y at *
  repeat' split
  all_goals (repeat' split at s2)
  all_goals grind
 have h3:=Q6y (R:=p2 m) h2 h1 (cz p);have h4:=Qzh (S:=S) (Qm5 m) (Qo (a:=p2 m)) (Zhs hS);have hcl:(cz p).length=n+1:=by unfold cz; rw [List.length_map,hl]
 rw [hcl] at h4;have h5:=Zd0 hl hb (by rw [<-Uz]; exact hne);rw [<-Uz] at h5;have hq:U7 (hi-r)=hi-r:=by unfold U7; rw [if_neg (by grind)]
 rw [hq] at h3;have h6:U7 (ev (cz p) r)<=(hi-r)*p2 (S+(m+1)*(n+1)):=Q9 (Q9 hd h3) (by
  have:=Zp h4 (show 0<=hi-r by grind);exact this)
 have h7:=Q4 h6 (Qm5 (b*n));rw [Qkl];grind
theorem Znw {β:Type} {Bc:Tm->List Ct} {Br:Tm->β} {c:Cr} {r:β} (hS:KSt Bc Br c r):∃ ws o,Qgy c.now c.l=some ws/\Zim ws=some o/\KSt Bc Br { c with l:=ws } r/\match o with
 | none=>∀ x∈Bc c.now,Lu x.p c.now none
 | some a=>Va a/\TLt c.now a/\(∃ x∈Bc c.now,Lu x.p c.now (some a)/\a∈tms x.p)/\∀ x∈Bc c.now,∃ o',Lu x.p c.now o'/\∀ u,o'=some u->¬TLt u a:=by
 obtain ⟨⟨ok,kk⟩,hcs,hr⟩:=hS;obtain ⟨ws,w1,w2,w3⟩:=Qz7 ok.n ok.l kk;have ok':=Zdf ok w1;rw [hcs] at w2;have hc_w:∀ x∈Bc c.now,∃ w∈ws,w.c=x:=λx hx=>by
  have:x∈ws.map (·.c):=by rw [w2]; exact Qnx.2 hx
  exact Zx.1 this
 have hw_c:∀ w∈ws,w.c∈Bc c.now:=λw hw=>Qnx.1 (by rw [<-w2]; exact List.mem_map_of_mem hw)
 obtain ⟨o,o1,o2⟩:=Zin ok'.l;refine ⟨ws,o,w1,o1,⟨⟨ok',λw hw _=>(w3 w hw).2⟩,w2,hr⟩,?_⟩;cases o with
 | none =>
  intro x hx;obtain ⟨w,hw,rfl⟩:=hc_w x hx;have:=(w3 w hw).2.1;rw [o2 w hw] at this;exact this
 |
  some a =>
  obtain ⟨va,⟨w,hw,hwa⟩,hmin⟩:=o2;have k:=(w3 w hw).2.1;rw [hwa] at k;exact ⟨va,k.2.2.1,⟨w.c,hw_c w hw,k,(w3 w hw).2.2 a hwa⟩,λx hx=>by
   obtain ⟨v,hv,rfl⟩:=hc_w x hx;exact ⟨v.fails,(w3 v hv).2.1,λu hu=>hmin v hv u hu⟩⟩
structure LwS (t:Tm) (L:List (List Rat)) (D M k0 w0 j:Nat) (lo hi:Rat):Prop where
 hv:Hv t D M (k0+j) ⟨t.p,lo,hi⟩
 v:Vt (cz t.p) L lo hi
 w:(hi-lo)*p2 j<=p2 w0
theorem LwS.next {t:Tm} {L:List (List Rat)} {D M k0 w0 j:Nat} {lo hi:Rat} (h:LwS t L D M k0 w0 j lo hi) :
 (cq (cz t.p) lo hi (mid lo hi)<=0->LwS t L D M k0 w0 (j+1) lo (mid lo hi))/\(¬cq (cz t.p) lo hi (mid lo hi)<=0->LwS t L D M k0 w0 (j+1) (mid lo hi) hi):=by
 obtain ⟨s1,s2⟩:=Zdh h.hv h.v;have h2:(lo+hi) / 2*2=lo+hi:=Gh (by decide);have e:=Qfu lo hi;have hw:=h.w;have hj:=Qh5 j;refine ⟨λhc=>?_,λhc=>?_⟩
 ·obtain ⟨a,b⟩:=s1 hc;refine ⟨a,b,?_⟩;rw [e,hj];generalize (lo+hi) / 2=m at *;have:(m-lo)*(p2 j+p2 j)=(hi-lo)*p2 j:=by
   have:m+m=lo+hi:=by grind
   have:(m-lo)*(p2 j+p2 j)=(m+m-lo-lo)*p2 j:=by grind
   rw [this,‹m+m=lo+hi›]; grind
  rw [this]; exact hw
 ·obtain ⟨a,b⟩:=s2 hc;refine ⟨a,b,?_⟩;rw [e,hj];generalize (lo+hi) / 2=m at *;have:(hi-m)*(p2 j+p2 j)=(hi-lo)*p2 j:=by
   have:m+m=lo+hi:=by grind
   have:(hi-m)*(p2 j+p2 j)=(hi+hi-(m+m))*p2 j:=by grind
   rw [this,‹m+m=lo+hi›]; grind
  rw [this]; exact hw
theorem Q7l {D M k s:Nat} {x:Rat} (h:Gr D M k x) (hs:U9 (M:Int)<=s):U7 x<=p2 s:=by
 refine Q9 h.b ?_;have h1:=Te.1 hs;rw [Xd] at h1;exact Za.2 (Jw h1)
theorem LwS.few {t:Tm} {L:List (List Rat)} {D M k0 w0 j:Nat} {lo hi:Rat} (h:LwS t L D M k0 w0 j lo hi) {n S m b:Nat} (hl:t.p.length=n+1) (hS:Bd S t.p) (hM:U9 (M:Int)<=m) {r:Rat} (hb:U9 (r.den:Int)<=b) (hr:lo<r) (hc:Fw t r=1):j<=w0+(S+(m+1)*(n+1)+b*n):=by
 have hcq:cq (cz t.p) lo hi r=1:=by
  rw [<-Tv (t:=⟨t.p,lo,hi⟩) h.v.l r,h.hv.c]; exact hc
 have q1:=Q7l h.hv.l hM;have q2:=Q7l h.hv.h hM;have hrh:r<=hi:=by
  rcases Fj r hi with e | e
  ·exact e
  ·rw [I3 h.v.l e] at hcq; exact absurd hcq (by decide)
 have q3:U7 r<=p2 m:=by
  have a1:=Ty.1 q1;have a2:=Ty.1 q2;rw [Ty];constructor
  ·exact Q9 a1.1 (Qp hr)
  ·exact Q9 hrh a2.2
 have hg:=Zcz h.v hl hS q3 q2 hr hcq hb;obtain ⟨G,hG⟩:=nmE (S+(m+1)*(n+1)+b*n);rw [<-hG] at hg ⊢;rcases Q6 (w0+G) j with hj | hj
 ·exfalso;have h1:=Qd1 (show w0+G+1<=j from hj);rw [Qh5,Qkl] at h1;have hw:=h.w;have hlo:0<hi-lo:=by have:=h.v.l; grind
  have h2:(hi-r)*p2 G<=(hi-lo)*p2 G:=Q4 (by grind) (Qm5 G);have h3:=Zp h1 (Qp hlo);have h4:1<=(hi-lo)*p2 G:=Q9 hg h2;have h5:=Q4 h4 (Qm5 w0);have h6:=Q8m w0;have e1:(hi-lo)*(p2 w0*p2 G+p2 w0*p2 G)=(hi-lo)*p2 G*p2 w0+(hi-lo)*p2 G*p2 w0:=by grind
  rw [e1] at h3;grind
 ·exact hj
theorem Qj7 {a b c:Crv} (ha:Nml a/\Cs 10 3 a) (hb:Nml b/\Cs 10 3 b) (hc:Nml c/\Cs 10 3 c):Bd 86 (Hp a b c)/\(Hp a b c).length<=5:=by
 have key:∀ k:Crv,Nml k/\Cs 10 3 k->(∀ p∈[k.x,k.y,[k.d]],U3 p/\Bd 10 p)/\∀ (j:Nat) (p:List Int),[k.x,k.y,[k.d]][j]? = some p->p.length≤[2,2,0].getD j 0+1:=λk hk=>by
  have hd:=hk.1.2.2.1;refine ⟨λp hp=>?_,λj p hp=>?_⟩
  ·simp only [Qq,Kz,or_false] at hp;rcases hp with rfl | rfl | rfl
   ·exact ⟨hk.1.1,hk.2.x⟩
   ·exact ⟨hk.1.2.1,hk.2.y⟩
   ·exact ⟨by unfold U3; simp [trim]; omega,λz hz=>by simp at hz; subst hz; exact hk.2.d⟩
  ·match j,hp with
   | 0,hp=>injection hp with hp; subst hp; exact hk.2.lx
   | 1,hp=>injection hp with hp; subst hp; exact hk.2.ly
   | 2,hp=>injection hp with hp; subst hp; exact Qi _
   | j+3,hp=>simp at hp
 have h3:∀ r∈M6 a b c,r=[a.x,a.y,[a.d]]\/r=[b.x,b.y,[b.d]]\/r=[c.x,c.y,[c.d]]:=λr hr=>by simpa [M6] using hr
 have all:∀ r∈M6 a b c,r.length=3/\(∀ p∈r,U3 p/\Bd 10 p)/\∀ (j:Nat) (p:List Int),r[j]? = some p->p.length≤[2,2,0].getD j 0+1:=λr hr=>by
  rcases h3 r hr with rfl | rfl | rfl
  ·exact ⟨rfl,key a ha⟩
  ·exact ⟨rfl,key b hb⟩
  ·exact ⟨rfl,key c hc⟩
 have sq:Sq 10 [2,2,0] 3 3 (M6 a b c):=⟨rfl,λr hr=>(all r hr).1,λr hr p hp=>((all r hr).2.1 p hp).1,λr hr p hp=>((all r hr).2.1 p hp).2,λr hr=>(all r hr).2.2⟩;obtain ⟨_,h1,h2⟩:=Qh6 3 [2,2,0] (M6 a b c) (by decide) rfl (by decide) sq;exact ⟨Uv h1 (by decide),h2⟩
theorem Zi2 (q:Rat) (p:List Int):Rp (tq q) p=Gm p q:=by
 unfold Rp Qk4
 split
 ·rename_i h; rw [List.eq_nil_of_length_eq_zero h]; rfl
 ·rw [if_pos (P4.2 (Qo (a:=q)))]; rfl
theorem Ab (q:Rat) (p:List Int):Nc (Rp (tq q)) p=S0 p q:=by
 have:Rp (tq q)=λp=>Gm p q:=funext (Zi2 q)
 rw [this]; rfl
def bq (n:Nat):Nat->Nat
 | 0=>100
 | i+1=>17000+n*bq n i
structure HI (a:Tm) (L:List (List Rat)) (j:Nat) (lo hi:Rat):Prop where
 w:∃ D M k0,LwS a L D M k0 226 j lo hi/\0<M/\U9 (D:Int)<=224/\U9 (M:Int)<=225/\k0<=14925
structure HX (a:Tm) (C:List (List Int)) (q:Rat) (b j:Nat) (lo hi:Rat):Prop where
 ql:Qs b lo
 qh:Qs b hi
 c:lo=hi/\q<lo/\Fw a hi=0\/HI a (C.map cz) j lo hi
theorem HI.qs {a:Tm} {L:List (List Rat)} {j:Nat} {lo hi:Rat} (h:HI a L j lo hi) {b:Nat} (hb:15374+j<=b):Qs b lo/\Qs b hi:=by
 obtain ⟨D,M,k0,hw,hM,h1,h2,h3⟩:=h.w;exact ⟨Qmo hw.hv.l hM (by omega),Qmo hw.hv.h hM (by omega)⟩
theorem HI.cq {a:Tm} {L:List (List Rat)} {j:Nat} {lo hi:Rat} (h:HI a L j lo hi) (q:Rat):Orq.cq (cz a.p) lo hi q=Fw a q:=by
 obtain ⟨D,M,k0,hw,_⟩:=h.w;rw [<-Tv (t:=⟨a.p,lo,hi⟩) hw.v.l q]; exact hw.hv.c q
theorem HI.lt {a:Tm} {L:List (List Rat)} {j:Nat} {lo hi:Rat} (h:HI a L j lo hi):lo<hi:=by
 obtain ⟨D,M,k0,hw,_⟩:=h.w;exact hw.v.l
theorem HI.few {a:Tm} {L:List (List Rat)} {j:Nat} {lo hi:Rat} (h:HI a L j lo hi) {n b:Nat} (hn:a.p.length<=n+1) (h2:2<=a.p.length) (n4:n<=4) (hS:Bd 224 a.p) {r:Rat} (hb:Qs b r) (hr:lo<r) (hc:Fw a r=1):j<=1580+n*b:=by
 obtain ⟨D,M,k0,hw,hM,h1,hM2,h3⟩:=h.w;have h5:=hw.few (n:=a.p.length-1) (by omega) hS hM2 (b:=b) hb.2 hr hc;have h6:b*(a.p.length-1)<=n*b:=by rw [Zh]; exact Qz _ (by omega)
 have h7:(225+1)*(a.p.length-1+1)<=(225+1)*5:=Zm _ (by omega);omega
structure HA (a:Tm) (n:Nat) (C:List (List Int)):Prop where
 va:Va a
 pt:a.point=false
 n:a.p.length<=n+1
 b:Bd 224 a.p
 ch:ChRun a.p a.p C
 pr:Hw a.p=a.p
 i:HI a (C.map cz) 0 a.lo a.hi
def xlo (a:Tm):Rat:=if Gm a.p a.hi=0 then a.hi else a.lo
theorem HA.start {a:Tm} {n:Nat} {C:List (List Int)} (h:HA a n C) {q:Rat} {b:Nat} (hq:Fw a q=1) (hb:15374<=b):HX a C q b 0 (xlo a) a.hi:=by
 obtain ⟨q1,q2⟩:=h.i.qs (b:=b) (by omega);unfold xlo
 split
 ·rename_i h0;refine ⟨q2,q2,.inl ⟨rfl,?_,?_⟩⟩
  ·refine Ji.1 λhle=>?_
   have hc:=h.va.cut;have h1:Fw a a.hi=0:=?_
   ·rcases Vi.1 hle with h2 | h2
    ·have:=hc.mono' h2 (by omega); omega
    ·rw [h2] at h1; omega
   rw [<-h.i.cq,Ni h.i.lt Qo,if_pos (by rw [Uz,<-Sp]; exact h0)]
  ·rw [<-h.i.cq,Ni h.i.lt Qo,if_pos (by rw [Uz,<-Sp]; exact h0)]
 ·exact ⟨q1,q2,.inr h.i⟩
theorem HX.next {a:Tm} {n:Nat} {C:List (List Int)} (ha:HA a n C) (n4:n<=4) {q:Rat} {b0 j:Nat} {lo hi:Rat} (h:HX a C q (17000+n*b0) j lo hi) (hb:Qs b0 q) (hq:Fw a q=1) (hlo:lo<q) :
 lo<hi/\j<=1580+n*b0/\(crR C a.p lo hi (mid lo hi)<=0->HX a C q (17000+n*b0) (j+1) lo (mid lo hi))/\(¬crR C a.p lo hi (mid lo hi)<=0->HX a C q (17000+n*b0) (j+1) (mid lo hi) hi):=by
 rcases h.c with ⟨_,h1,_⟩ | h1
 ·grind
 ·have hj:=h1.few ha.n ha.va.n2 n4 ha.b hb hlo hq;obtain ⟨D,M,k0,hw,g1,g2,g3,g4⟩:=h1.w;obtain ⟨s1,s2⟩:=hw.next;refine ⟨h1.lt,hj,λhc=>?_,λhc=>?_⟩
  ·rw [Q6d hw.v] at hc;have hi':HI a (C.map cz) (j+1) lo (mid lo hi):=⟨D,M,k0,s1 hc,g1,g2,g3,g4⟩;obtain ⟨q1,q2⟩:=hi'.qs (b:=17000+n*b0) (by omega);exact ⟨q1,q2,.inr hi'⟩
  ·rw [Q6d hw.v] at hc;have hi':HI a (C.map cz) (j+1) (mid lo hi) hi:=⟨D,M,k0,s2 hc,g1,g2,g3,g4⟩;obtain ⟨q1,q2⟩:=hi'.qs (b:=17000+n*b0) (by omega);exact ⟨q1,q2,.inr hi'⟩
theorem HX.fin {a:Tm} {C:List (List Int)} {q:Rat} {b j:Nat} {lo hi:Rat} (ha:Va a) (h:HX a C q b j lo hi):(lo≠hi->Fw a lo=1)/\Fw a hi≠1/\lo<=hi:=by
 rcases h.c with ⟨h1,h2,h3⟩ | h1
 ·exact ⟨λh=>absurd h1 h,by omega,by rw [h1]; exact Qo⟩
 ·obtain ⟨D,M,k0,hw,_⟩:=h1.w;refine ⟨λ_=>by rw [<-h1.cq]; exact Bi Qo,by rw [<-h1.cq]; exact hw.v.hi1,Qp h1.lt⟩
theorem Qrh {q:Rat} {a b:Pt} (hq:Va (tq q)) (ha:Sc a.c) (hb:Sc b.c):Ms (Rp (tq q)) a b=Nw q a b:=by
 have h1:=(E4 ha hb).dp;have h2:=(E3 ha hb).dp;unfold Ms Nw;simp only [Iw];rw [Ab,Ab];have e0:S0 [] q=0:=rfl;by_cases k1:(Hm a.c b.c).length=0
 ·have e1:=Qh k1;rw [e1,e0,if_neg (show ¬0<([]:List Int).length by simp),if_neg (show ¬(0:Int)≠0 by simp)];by_cases k2:(Hr a.c b.c).length=0
  ·rw [Qh k2,e0,if_neg (show ¬0<([]:List Int).length by simp),if_neg (show ¬(0:Int)≠0 by simp)]
  ·have:=(Dh hq h2 k2).2;rw [Ab] at this;rw [if_pos (by omega),if_pos this]
 ·have:=(Dh hq h1 k1).2;rw [Ab] at this;rw [if_pos (by omega),if_pos this]
theorem Q6t {C:List Pt} {i:Nat} {x y:Pt} (hx:C[i]? = some x) (hy:C[(i+1) % C.length]? = some y):(x,y)∈Ge C:=by
 have hi:=(Qc.1 hx).1;unfold Ge;refine Qa (i:=i) ?_;rw [List.getElem?_zip_eq_some];refine ⟨hx,?_⟩;by_cases h:i+1<C.length
 ·rw [Xb h] at hy;rw [Q8 (by rw [Xt]; omega),Xe,Jm 1 i]; exact hy
 ·have e:i+1=C.length:=by omega
  rw [e,Uj] at hy;rw [Zn (by rw [Xt]; omega),Xt,show i-(C.length-1)=0 by omega,Ve (by decide)];exact hy
theorem Q2c {l:List Pt} (hl:∀ p∈l,Sc p.c) (hd:l.Pairwise λx y=>x.id≠y.id) {a:Tm} (ha:Va a) (h0:0<l.length):0<(Gz l a).length:=by
 obtain ⟨q,S⟩:=Qif hl hd ha;by_cases h3:3<=(Sk a (Sb l)).length
 ·obtain ⟨f,z,A,B,hA,hB,_⟩:=Ie S h3;unfold Gz Pp;rw [if_neg (by omega),hA,hB,Xp,Xp];simp
 ·have hC:Gz l a=Sk a (Sb l):=by unfold Gz Pp; rw [if_pos (by omega)]
  rw [hC];cases l with
  | nil=>exact absurd h0 (by decide)
  |
   cons p l =>
   obtain ⟨w,hw,_⟩:=Qul (l:=p::l) (p:=p) (by simp);exact List.length_pos_of_mem (Mj.2 hw)
theorem Qjn:∀ {M:List Pt} {j:Nat} {p:Pt},(M.Pairwise λx y=>x.id≠y.id)->M[j]? = some p->Md M p.id=(j:Int)
 | [],j,p,_,h=>by simp at h
 |
  x::M,0,p,_,h=>by
  have:x=p:=by simpa using h
  subst this; simp [Md]
 |
  x::M,j+1,p,hd,h=>by
  have h':M[j]? = some p:=by simpa using h
  have hne:=(Zf.1 hd).1 p (Qa h');have ih:=Qjn (Zf.1 hd).2 h';simp only [Md];rw [if_neg hne,ih,if_neg (by omega)]; omega
end Orq
namespace Orr
open Go Go.Proofs Orq
set_option maxRecDepth 10000
abbrev wkH:List Pt:=[⟨Ed 1 0,1⟩,⟨Ed 0 1,2⟩,⟨Ed 0 0,3⟩]
theorem Zfc:(Gz wkH (tq 0)).map (·.id)=[3,1,2]:=by decide +kernel
theorem Zjo:(Gz wkH (tq 0)).any (λp=>decide (p.id=2))=true:=by decide +kernel
theorem Zjp:(Gz wkH (tq 0)).any (λp=>decide (p.id=9))=false:=by decide +kernel
theorem Zat:∀ p∈wkH,Sc p.c:=λp hp=>by
 rcases Qq.1 hp with rfl | hp
 ·exact Qk3 (by decide) (by decide)
 rcases Qq.1 hp with rfl | hp
 ·exact Qk3 (by decide) (by decide)
 ·rw [Qj.1 hp]; exact Qk3 (by decide) (by decide)
theorem Q2f:Uw Tryz.prog 18 [] [.one (.bool true)]:=by
 have hq:Qs 400000 (Gx 0 0):=⟨by decide,by decide⟩;have ez:Gx 0 0=0:=by decide
 have zp:IsPts 4294967294 1073741824 (U8 [⟨Ed 0 0,3⟩,⟨Ed 0 1,2⟩,⟨Ed 1 0,1⟩]) [⟨Ed 0 0,3⟩,⟨Ed 0 1,2⟩,⟨Ed 1 0,1⟩]:=Qzx λp hp=>(Zat p (by simp at hp ⊢; rcases hp with h | h | h <;> simp [h])).pt
 have hnl:Tx [] [⟨Ed 0 0,3⟩,⟨Ed 0 1,2⟩,⟨Ed 1 0,1⟩]=(wkH,0):=rfl;have cn:=Qyh zp (by decide) hnl Zat (by decide) Im Im (by decide) (by decide) hq;rw [ez] at cn;have hl:(Gz wkH (tq 0)).length<=1000000:=Qd (Qa0 _ _) (by decide);have ci:=Q4u (c:=Q1u wkH (tq 0)) (l:=wkH) hl;have o2:=Q4v (c:=Q1u wkH (tq 0)) (l:=wkH) (id:=2) hl;have o9:=Q4v (c:=Q1u wkH (tq 0)) (l:=wkH) (id:=9) hl;rw [Zfc] at ci;rw [Zjo] at o2;rw [Zjp] at o9;have cs:=Zhb (a:=[3,1,2]) (b:=[3,1,2]) (by decide) (by decide);refine Hn Tryz.func18 rfl ?_;exact en tt [.c [] (Qoe (x:=0) (y:=0) (by decide) (by decide)),.c [] (Qoe (x:=0) (y:=1) (by decide) (by decide)),.c [] (Qoe (x:=1) (y:=0) (by decide) (by decide)),.c [0] cn,.g 17 true rfl,.g 21 true rfl,.c [0] ci,.c [] cs,.g 27 true rfl,.c [0] o2,.g 31 true rfl,.c [0] o9] rfl rfl trivial
end Orr
