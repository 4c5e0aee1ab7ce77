/- F3 F4 F5 T1 T2 T3 T4 T5 T6 T7 T8 T9 T10 T11 T12 T13 -/
import Derived.Test.YtbnjginelkkonaaGreatPart05
set_option linter.all false

namespace Orr
open Go Go.Proofs
set_option maxRecDepth 10000
structure Tb (t:Tm):Prop where
  p:Pb t.p
  lo:Qb t.lo
  hi:Qb t.hi
theorem Qox (x y:Int):-1≤Kl x y∧Kl x y≤1:=by unfold Kl; split <;> (try split) <;> omega
theorem Ta (a b:Rat):-1≤Zs a b∧Zs a b≤1:=Qox _ _
theorem Rh (p:List Int) (q:Rat):-1≤Z0 p q∧Z0 p q≤1:=Qox _ _
theorem Qme (p:List Int) (q:Rat):-1≤low p q∧low p q≤1:=by unfold low; split <;> exact Rh _ _
theorem Qb.s31 {q:Rat} (h:Qb q):Qs 2147483647 q:=h.mono (by decide)
theorem Qb.s32 {q:Rat} (h:Qb q):Qs 4294967295 q:=h.mono (by decide)
theorem Ax {p:List Int} {q:Rat} (hp:Pb p) (hq:Qb q):Qd Tryz.prog 192 [pr p,.agg (rl q)] [.one (.int .i64 (Z0 p q))]:=by
  have hm:p.length*(16777216+1)≤64*16777217:=Nat.mul_le_mul_right _ hp.l
  exact Qn8 hp.t hp.ln hp.b hq (by omega)
theorem Q9z {p:List Int} {q:Rat} (hp:Pb p) (hq:Qb q):Qd Tryz.prog 192 [pr (Zn p),.agg (rl q)] [.one (.int .i64 (Z0 (Zn p) q))]:=by
  have hl:=Nat.le_trans (Yy p) (show p.length-1≤64 by have:=hp.l; omega)
  have hm:(Zn p).length*(16777216+1)≤64*16777217:=Nat.mul_le_mul_right _ hl
  exact Qn8 (Q9 _ _) (Nat.lt_of_le_of_lt hl (by omega)) (A8 (t:=6) hp.b hp.l) hq (by omega)
theorem Uf {t:Tm} (ht:Tb t):Qd Tryz.prog 175 [.agg (ta t)] [.one (.bool t.point)] :=
  w tt Tryz.func175 rfl [.c [] (Fl ht.lo.s31 ht.hi.s31)] rfl rfl trivial
theorem Ie {t:Tm} (ht:Tb t):Qd Tryz.prog 174 [.agg (ta t)] [.agg (ta t)] :=
  w tt Tryz.func174 rfl [.c [] (Xz ht.p.t ht.p.ln ht.p.bd),.c [] (Gt ht.lo.s32),.c [] (Gt ht.hi.s32)] rfl rfl trivial
theorem Qvz {t:Tm} (ht:Tb t):Qd Tryz.prog 196 [.agg (ta t)] [.agg (ta t)]:=w tt Tryz.func196 rfl [.c [] (Ie ht)] rfl rfl trivial
theorem Qvh {p:List Int} {q:Rat} (hp:Pb p) (hq:Qb q):Qd Tryz.prog 193 [pr p,.agg (rl q)] [.one (.int .i64 (low p q))]:=by
  unfold low
  by_cases h:Z0 p q=0
  · rw [if_neg (by simpa using h)]
    exact w tt Tryz.func193 rfl [.c [] (Ax hp hq),.f (by simpa using h),.c [] (Ho hp.ln hp.bd),.c [] (Q9z hp hq)] rfl rfl trivial
  · rw [if_pos h]
    exact w tt Tryz.func193 rfl [.c [] (Ax hp hq),.t (by simpa using h)] rfl rfl trivial
theorem Qve {p:List Int} {lo hi:Rat} (hp:Pb p) (hl:Qb lo) (hh:Qb hi):Qd Tryz.prog 177 [pr p,.agg (rl lo),.agg (rl hi)] [.one (.bool (Co p lo hi))]:=by
  by_cases h:Z0 p hi=0
  · exact w tt Tryz.func177 rfl [.c [] (Ax hp hh),.t (by simpa using h)] rfl (by simp [Co,h]) trivial
  · exact w tt Tryz.func177 rfl [.c [] (Ax hp hh),.f (by simpa using h),.c [] (Qvh hp hl)] rfl (by simp [Co,h]) trivial
theorem Lh {t:Tm} {q:Rat} (ht:Tb t) (hq:Qb q):Qd Tryz.prog 133 [.agg (ta t),.agg (rl q)] [.one (.int .i64 (Qu t q))]:=by
  have cp:=Uf ht
  unfold Qu
  by_cases h1:t.point=true
  · rw [if_pos h1]
    exact w tt Tryz.func133 rfl [.c [] cp,.t h1,.c [] (Fl ht.lo.s31 hq.s31)] rfl rfl trivial
  rw [if_neg h1]
  have h1:t.point=false:=by simpa using h1
  have c1:=Fl hq.s31 ht.lo.s31
  have c2:=Fl hq.s31 ht.hi.s31
  by_cases h2:Zs q t.lo≤0
  · rw [if_pos h2]
    exact w tt Tryz.func133 rfl [.c [] cp,.f h1,.c [] c1,.t (by simpa using h2)] rfl rfl trivial
  rw [if_neg h2]
  by_cases h3:0<Zs q t.hi
  · rw [if_pos h3]
    exact w tt Tryz.func133 rfl [.c [] cp,.f h1,.c [] c1,.f (by simpa using h2),.c [] c2,.t (by simpa using h3)] rfl rfl trivial
  rw [if_neg h3]
  by_cases h4:Z0 t.p q=0
  · rw [if_pos h4]
    exact w tt Tryz.func133 rfl [.c [] cp,.f h1,.c [] c1,.f (by simpa using h2),.c [] c2,.f (by simpa using h3),.c [] (Ax ht.p hq),.t (by simpa using h4)] rfl rfl trivial
  rw [if_neg h4]
  by_cases h5:Z0 t.p q=low t.p t.lo
  · rw [if_pos h5]
    exact w tt Tryz.func133 rfl [.c [] cp,.f h1,.c [] c1,.f (by simpa using h2),.c [] c2,.f (by simpa using h3),.c [] (Ax ht.p hq),.f (by simpa using h4),.c [] (Qvh ht.p ht.lo),.t (by simpa using h5)] rfl rfl trivial
  · rw [if_neg h5]
    exact w tt Tryz.func133 rfl [.c [] cp,.f h1,.c [] c1,.f (by simpa using h2),.c [] c2,.f (by simpa using h3),.c [] (Ax ht.p hq),.f (by simpa using h4),.c [] (Qvh ht.p ht.lo),.f (by simpa using h5)] rfl rfl trivial
theorem Q2k (t:Tm) (q:Rat):-1≤Qu t q∧Qu t q≤1:=by
  unfold Qu
  have:=Ta t.lo q
  repeat' split
  all_goals omega
theorem Q2r (q:Rat):0<(q.den:Int):=by have:=q.den_pos; omega
theorem Q5f {a b:Rat} (ha:Qb a) (hb:Qb b):Qd Tryz.prog 268 [.agg (rl a),.agg (rl b)] [.agg (rl (mid a b))]:=by
  have h1:Ql (a.num*(b.den:Int))≤33554432:=Nat.le_trans (Q3 _ _) (by have:=ha.1; have:=hb.2; omega)
  have h2:Ql (b.num*(a.den:Int))≤33554432:=Nat.le_trans (Q3 _ _) (by have:=hb.1; have:=ha.2; omega)
  have h3:Ql ((a.den:Int)*(b.den:Int))≤33554432:=Nat.le_trans (Q3 _ _) (by have:=ha.2; have:=hb.2; omega)
  have h4:Ql (2:Int)≤2:=by decide
  have h5:Ql (a.num*(b.den:Int)+b.num*(a.den:Int))≤33554433:=Nat.le_trans (Ml _ _) (by omega)
  have h6:Ql ((a.den:Int)*(b.den:Int)*2)≤33554434:=Nat.le_trans (Q3 _ _) (by omega)
  have h0:(a.den:Int)*(b.den:Int)*2≠0:=by
    have:=Int.mul_pos (Q2r a) (Q2r b); omega
  exact w tt Tryz.func268 rfl [.c [] (Qeu ha.s31 hb.s31),.c [] (Nq (Qe _) (Qe _) (by omega) (by omega)),.c [] (Qlb (z:=2) (by decide)),.c [] (Ko (Qe _) (Qe _) (by omega) (by omega)),.c [] (Sr h0 (by omega) (by omega))] rfl rfl trivial
theorem Qe0 {a b:Rat} (ha:Qb a) (hb:Qb b):Qd Tryz.prog 227 [.agg (rl a),.agg (rl b)] [.agg (rl (Qbp a b))]:=by
  have h1:Ql (a.num*(b.den:Int))≤33554432:=Nat.le_trans (Q3 _ _) (by have:=ha.1; have:=hb.2; omega)
  have h2:Ql (b.num*(a.den:Int))≤33554432:=Nat.le_trans (Q3 _ _) (by have:=hb.1; have:=ha.2; omega)
  have h3:Ql ((a.den:Int)*(b.den:Int))≤33554432:=Nat.le_trans (Q3 _ _) (by have:=ha.2; have:=hb.2; omega)
  have h5:Ql (a.num*(b.den:Int)-b.num*(a.den:Int))≤33554433:=Nat.le_trans (Qfo _ _) (by omega)
  have h0:(a.den:Int)*(b.den:Int)≠0:=by
    have:=Int.mul_pos (Q2r a) (Q2r b); omega
  exact w tt Tryz.func227 rfl [.c [] (Qeu ha.s31 hb.s31),.c [] (Qva (Qe _) (Qe _) (by omega) (by omega)),.c [] (Sr h0 (by omega) (by omega))] rfl rfl trivial
theorem O1 {q r:Rat} (h:chq q=some r):r=q∧Qb q:=by
  unfold chq at h
  split at h
  · rename_i hc; injection h with h; exact ⟨h.symm,hc⟩
  · cases h
theorem Qli {t u:Tm} (ht:Tb t) (h:Qfh t=some u):Qd Tryz.prog 228 [.agg (ta t)] [.agg (ta u)]:=by
  have cp:=Uf ht
  unfold Qfh at h
  split at h
  · rename_i h1
    injection h with h; subst h
    exact w tt Tryz.func228 rfl [.c [] cp,.t h1] rfl rfl trivial
  · rename_i h1
    have h1:t.point=false:=by simpa using h1
    obtain ⟨m,hm0,h⟩:=Option.bind_eq_some_iff.1 h
    obtain ⟨rfl,hm⟩:=O1 hm0
    injection h with h
    subst h
    have cm:=Q5f ht.lo ht.hi
    have cc:=Lh ht hm
    by_cases h2:Qu t (mid t.lo t.hi)=0
    · rw [if_pos h2]
      exact w tt Tryz.func228 rfl [.c [] cp,.f h1,.c [] cm,.c [] cc,.t (by simpa using h2)] rfl rfl trivial
    rw [if_neg h2]
    by_cases h3:Qu t (mid t.lo t.hi)=-1
    · rw [if_pos h3]
      exact w tt Tryz.func228 rfl [.c [] cp,.f h1,.c [] cm,.c [] cc,.f (by simpa using h2),.t (by simpa using h3)] rfl rfl trivial
    · rw [if_neg h3]
      exact w tt Tryz.func228 rfl [.c [] cp,.f h1,.c [] cm,.c [] cc,.f (by simpa using h2),.f (by simpa using h3)] rfl rfl trivial
theorem Qgv {t u:Tm} (ht:Tb t) (h:Qfh t=some u):Tb u:=by
  unfold Qfh at h
  split at h
  · injection h with h; subst h; exact ht
  · obtain ⟨m,hm0,h⟩:=Option.bind_eq_some_iff.1 h
    obtain ⟨rfl,hm⟩:=O1 hm0
    injection h with h
    subst h
    repeat' split
    · exact ⟨ht.p,hm,hm⟩
    · exact ⟨ht.p,ht.lo,hm⟩
    · exact ⟨ht.p,hm,ht.hi⟩
theorem Rv {z:Int} (h:Ql z≤4294967296):Qd Tryz.prog 266 [.one (mg z)] [.one (.int .i64 (Ql z:Int))]:=by
  have h1:=Qk6 (l:=Q4 z.natAbs) (Um _) (by rw [Zj]; exact h)
  rw [Zj] at h1; exact h1
theorem Qbk {p:List Int} {i:Nat} {z:Int} (h:p[i]? = some z):Zp (p.take (i+1))=max (Zp (p.take i)) (Ql z):=by
  unfold Zp; rw [List.take_succ,h,Option.toList_some,List.foldl_append]; rfl
theorem Y4 {p:List Int} {s:Nat} (h:Bd s p):∀ i,Zp (p.take i)≤s
  | 0=>by simp [Zp]
  |
   i+1=>by
   cases hz:p[i]? with
   |
    none =>
    rw [List.take_of_length_le (by have:=List.getElem?_eq_none_iff.1 hz; omega),←List.take_of_length_le (l:=p) (i:=i) (by have:=List.getElem?_eq_none_iff.1 hz; omega)]
    exact Y4 h i
   | some z=>rw [Qbk hz]; have:=Y4 h i; have:=Qud h hz; omega
theorem Qe1 {p:List Int} (hp:Pb p):Qd Tryz.prog 267 [pr p] [.one (.int .i64 (Zp p:Int))]:=by
  have hl:=hp.l
  refine Z7 Tryz.func267 rfl ?_
  refine go tt [] rfl trivial ?_
  refine lp (S:=Nat) 0 (fun L1 i=>(8,.v (.one (.int .i64 (i:Int))))::(3,.v (.one (.int .i64 (Zp (p.take i):Int))))::L1) (fun _=>[]) (fun i=>p.length-i) (fun i=>i≤p.length) 0 (Nat.zero_le _) rfl (fun _ _=>rfl) rfl fun i hi=>?_
  by_cases hlt:i<p.length
  · have hg:=Xs hlt
    have hz:=Qq hp.b i
    have hs:=Qbk hg
    refine go tt [.t (by simp; omega),.x (Yc hg),.c [] (Rv (by omega)),.r 16 (eI (b:=(Zp (p.take (i+1)):Int)) (by rw [hs]; omega))] rfl (by simp [Qa]; omega) ?_
    exact rd (i+1) (by omega) hlt rfl
  · obtain rfl:i=p.length:=by omega
    rw [List.take_length]
    exact en tt [.f (by simp)] rfl rfl trivial
theorem Q2g {a:Tm} {b:Tm} (ha:Tb a) (hb:Tb b):Qd Tryz.prog 226 [.agg (ta a),.agg (ta b)] [.one (.int .i64 (Yo a b:Nat))]:=by
  have l1:=ha.p.l
  have l2:=hb.p.l
  have b1:=ha.lo.1
  have b2:=ha.hi.1
  have b3:=hb.lo.1
  have b4:=hb.hi.1
  have s1:Zp a.p≤16777216:=by have:=Y4 ha.p.b a.p.length; rwa [List.take_length] at this
  have s2:Zp b.p≤16777216:=by have:=Y4 hb.p.b b.p.length; rwa [List.take_length] at this
  obtain ⟨N,hN⟩:∃ N,N=4*(a.p.length+b.p.length):=⟨_,rfl⟩
  obtain ⟨S,hS⟩:∃ S,S=Zp a.p+Zp b.p+(a.p.length+b.p.length)+8:=⟨_,rfl⟩
  have hNS:N*S≤512*33554568:=Nat.mul_le_mul (by omega) (by omega)
  have h0:(N:Int)*(S:Int)=((N*S:Nat):Int):=(Int.natCast_mul _ _).symm
  have hst:Yo a b=64+2*(Ql a.lo.num+Ql a.hi.num+Ql b.lo.num+Ql b.hi.num)+N*S:=by rw [hN,hS]; rfl
  rw [hst]
  exact w tt Tryz.func226 rfl [.c [] (Rv (z:=a.lo.num) (by omega)),.c [] (Rv (z:=a.hi.num) (by omega)),.c [] (Rv (z:=b.lo.num) (by omega)),.c [] (Rv (z:=b.hi.num) (by omega)),.r 41 (eI (b:=(N:Int)) (by rw [hN]; simp)),.c [] (Qe1 ha.p),.c [] (Qe1 hb.p),.r 51 (eI (b:=(S:Int)) (by rw [hS]; simp)),.r 52 (eI (b:=((N*S:Nat):Int)) h0)] rfl (by simp) (by rw [h0]; simp [Qa]; omega)
def Qnk (p:List Int) (a:Tm):Nat:=64+2*(Ql a.lo.num+Ql a.hi.num)+4*(a.p.length+p.length)*(Zp a.p+Zp p+(a.p.length+p.length)+8)
theorem Qn6:Qd Tryz.prog 266 [lr []] [.one (.int .i64 0)]:=Qk6 (l:=[]) (by simp [Sm]) (by decide)
theorem Qvy {a:Tm} {p:List Int} (ha:Tb a) (hp:Pb p):Qd Tryz.prog 226 [.agg (ta a),.agg ([pl p,.bool false,.row [],.bool false,.row [],.bool false,.row [],.bool false,.row []])] [.one (.int .i64 (Qnk p a:Nat))]:=by
  have l1:=ha.p.l
  have l2:=hp.l
  have b1:=ha.lo.1
  have b2:=ha.hi.1
  have s1:Zp a.p≤16777216:=by have:=Y4 ha.p.b a.p.length; rwa [List.take_length] at this
  have s2:Zp p≤16777216:=by have:=Y4 hp.b p.length; rwa [List.take_length] at this
  obtain ⟨N,hN⟩:∃ N,N=4*(a.p.length+p.length):=⟨_,rfl⟩
  obtain ⟨S,hS⟩:∃ S,S=Zp a.p+Zp p+(a.p.length+p.length)+8:=⟨_,rfl⟩
  have hNS:N*S≤512*33554568:=Nat.mul_le_mul (by omega) (by omega)
  have h0:(N:Int)*(S:Int)=((N*S:Nat):Int):=(Int.natCast_mul _ _).symm
  have hst:Qnk p a=64+2*(Ql a.lo.num+Ql a.hi.num)+N*S:=by rw [hN,hS]; rfl
  rw [hst]
  exact w tt Tryz.func226 rfl [.c [] (Rv (z:=a.lo.num) (by omega)),.c [] (Rv (z:=a.hi.num) (by omega)),.c [] Qn6,.c [] Qn6,.r 41 (eI (b:=(N:Int)) (by rw [hN]; simp)),.c [] (Qe1 ha.p),.c [] (Qe1 hp),.r 51 (eI (b:=(S:Int)) (by rw [hS]; simp)),.r 52 (eI (b:=((N*S:Nat):Int)) h0)] rfl (by simp) (by rw [h0]; simp [Qa]; omega)
end Orr

namespace Orr
open Go Go.Proofs
set_option maxRecDepth 10000
def Nf (sg:List Int→Int) (l:List (List Int)) (i:Nat):Nat×Int:=(l.take i).foldl (Yh sg) (0,0)
theorem Qgz {sg:List Int→Int} (hs:∀ p,-1≤sg p∧sg p≤1) (l:List (List Int)):∀ i,(Nf sg l i).1≤i∧-1≤(Nf sg l i).2∧(Nf sg l i).2≤1
  | 0=>⟨Nat.le_refl _,show (-1:Int)≤0 by decide,show (0:Int)≤1 by decide⟩
  |
   i+1=>by
   obtain ⟨h1,h2,h3⟩:=Qgz hs l i
   cases h:l[i]? with
   |
    none =>
    have:Nf sg l (i+1)=Nf sg l i:=by unfold Nf; rw [List.take_of_length_le (by have:=List.getElem?_eq_none_iff.1 h; omega),List.take_of_length_le (List.getElem?_eq_none_iff.1 h)]
    rw [this]; omega
   |
    some p =>
    have:Nf sg l (i+1)=Yh sg (Nf sg l i) p:=Uq _ _ _ h
    rw [this]
    have:=hs p
    unfold Yh
    split
    · omega
    · dsimp only; split <;> omega
theorem Q2h {l:List (List Int)} {fid:Nat} {l1:List LV} {sg:List Int→Int} (hl:l.length≤1000) (hs:∀ p,-1≤sg p∧sg p≤1) (h:∀ p∈l,Qd Tryz.prog fid [pr p,.one (.sh l1)] [.one (.int .i64 (sg p))]):Qd Tryz.prog 300 [.one (.sh [.row (Yp l)]),.one (.fn fid [] [.sh l1])] [.one (.int .i64 (Kj sg l:Nat))]:=by
  have hpl:=Fg l
  refine Z7 Tryz.func300 rfl ?_
  refine go tt [] rfl trivial ?_
  refine lp (S:=Nat) 0 (fun L1 i=>(15,.v (.one (.int .i64 (i:Int))))::(5,.v (.one (.int .i64 ((Nf sg l i).1:Int))))::(6,.v (.one (.int .i64 (Nf sg l i).2)))::L1) (fun _=>[]) (fun i=>l.length-i) (fun i=>i≤l.length) 0 (Nat.zero_le _) rfl (fun _ _=>rfl) rfl fun i hi=>?_
  by_cases hlt:i<l.length
  · obtain ⟨p,hp⟩:∃ p,l[i]? = some p:=⟨_,List.getElem?_eq_getElem hlt⟩
    have hst:Nf sg l (i+1)=Yh sg (Nf sg l i) p:=Uq _ _ _ hp
    obtain ⟨b1,b2,b3⟩:=Qgz hs l i
    have b4:=hs p
    by_cases h0:sg p=0
    · refine go tt [.t (by simp [hpl]; omega),.x (Ji hp),.c [] (h p (List.mem_of_getElem? hp)),.t (by simpa using h0)] rfl (by simp [Qa]; omega) ?_
      exact rd (i+1) (by omega) hlt (by rw [hst,show Yh sg (Nf sg l i) p=Nf sg l i from by unfold Yh; rw [if_pos h0]]; rfl)
    · by_cases h1:(Nf sg l i).2=-(sg p)
      · refine go tt [.t (by simp [hpl]; omega),.x (Ji hp),.c [] (h p (List.mem_of_getElem? hp)),.f (by simpa using h0),.t (by simpa using h1)] rfl (by simp [Qa]; omega) ?_
        exact rd (i+1) (by omega) hlt (by rw [hst,show Yh sg (Nf sg l i) p=((Nf sg l i).1+1,sg p) from by unfold Yh; rw [if_neg h0,if_pos h1]]; rfl)
      · refine go tt [.t (by simp [hpl]; omega),.x (Ji hp),.c [] (h p (List.mem_of_getElem? hp)),.f (by simpa using h0),.f (by simpa using h1)] rfl (by simp [Qa]; omega) ?_
        exact rd (i+1) (by omega) hlt (by rw [hst,show Yh sg (Nf sg l i) p=((Nf sg l i).1,sg p) from by unfold Yh; rw [if_neg h0,if_neg h1]]; rfl)
  · obtain rfl:i=l.length:=by omega
    refine en tt [.f (by simp [hpl])] rfl ?_ trivial
    unfold Nf Kj; rw [List.take_length]
theorem Qu8 {p:List Int} {q:Rat} (hp:Pb p) (hq:Qb q):Qd Tryz.prog 301 [pr p,.one (.sh (rl q))] [.one (.int .i64 (Z0 p q))]:=w tt Tryz.func301 rfl [.c [] (Ax hp hq)] rfl rfl trivial
theorem Qod {l:List (List Int)} {q:Rat} (hl:l.length≤1000) (hp:∀ p∈l,Pb p) (hq:Qb q):Qd Tryz.prog 273 [.one (.sh [.row (Yp l)]),.agg (rl q)] [.one (.int .i64 (Wc l q:Nat))] :=
  w tt Tryz.func273 rfl [.c [] (Q2h (fid:=301) (l1:=rl q) (sg:=fun p=>Z0 p q) hl (fun p=>Rh p q) fun p h=>Qu8 (hp p h) hq)] rfl rfl trivial
theorem Un {sg:List Int→Int} (hs:∀ p,-1≤sg p∧sg p≤1) (l:List (List Int)):Kj sg l≤l.length:=by
  have:=(Qgz hs l l.length).1
  unfold Nf at this; rwa [List.take_length] at this
theorem Qce {l:List (List Int)} {lo hi:Rat} (hl:l.length≤1000) (hp:∀ p∈l,Pb p) (ql:Qb lo) (qh:Qb hi):Qd Tryz.prog 231 [.one (.sh [.row (Yp l)]),.agg (rl lo),.agg (rl hi)] [.one (.int .i64 (Jc l lo hi))]:=by
  have b1:Wc l lo≤l.length:=Un (fun p=>Rh p lo) l
  have b2:Wc l hi≤l.length:=Un (fun p=>Rh p hi) l
  have c1:=Fl qh.s31 ql.s31
  unfold Jc
  by_cases h:Zs hi lo<0
  · rw [if_pos h]
    exact w tt Tryz.func231 rfl [.c [] c1,.t (by simpa using h)] rfl rfl trivial
  · rw [if_neg h]
    exact w tt Tryz.func231 rfl [.c [] c1,.f (by simpa using h),.c [] (Qod hl hp ql),.c [] (Qod hl hp qh)] rfl rfl (by simp [Qa]; omega)
def zTm:List LV:=[.nils,.bool false,.nils,.bool false,.nils,.bool false,.nils,.bool false,.nils]
theorem Qtk {a b:Tm} (ha:Tb a) (hb:Tb b):Yo a b≤17179938816+200000000:=by
  have l1:=ha.p.l
  have l2:=hb.p.l
  have b1:=ha.lo.1
  have b2:=ha.hi.1
  have b3:=hb.lo.1
  have b4:=hb.hi.1
  have s1:Zp a.p≤16777216:=by have:=Y4 ha.p.b a.p.length; rwa [List.take_length] at this
  have s2:Zp b.p≤16777216:=by have:=Y4 hb.p.b b.p.length; rwa [List.take_length] at this
  have:4*(a.p.length+b.p.length)*(Zp a.p+Zp b.p+(a.p.length+b.p.length)+8)≤512*33554568:=Nat.mul_le_mul (by omega) (by omega)
  unfold Yo; omega
theorem Q37 {a b:Rat} (ha:Qb a) (hb:Qb b):Qs 2147483647 (Qbp a b):=by
  have h1:Ql (a.num*(b.den:Int))≤33554432:=Nat.le_trans (Q3 _ _) (by have:=ha.1; have:=hb.2; omega)
  have h2:Ql (b.num*(a.den:Int))≤33554432:=Nat.le_trans (Q3 _ _) (by have:=hb.1; have:=ha.2; omega)
  have h3:Ql ((a.den:Int)*(b.den:Int))≤33554432:=Nat.le_trans (Q3 _ _) (by have:=ha.2; have:=hb.2; omega)
  have h5:Ql (a.num*(b.den:Int)-b.num*(a.den:Int))≤33554433:=Nat.le_trans (Qfo _ _) (by omega)
  exact (Qs.divInt (s:=33554433) h5 (by omega) (by omega)).mono (by omega)
theorem Qes {a b:Tm} {r:Tm×Tm×Int} (ha:Tb a) (hb:Tb b) (h:apF (Yo a b) a b=some r):Qd Tryz.prog 178 [.agg (ta a),.agg (ta b)] [.agg (ta r.1),.agg (ta r.2.1),.one (.int .i64 r.2.2)]:=by
  have hsb:=Qtk ha hb
  refine Z7 Tryz.func178 rfl ?_
  refine go tt [.c [] (Q2g ha hb)] rfl trivial ?_
  obtain ⟨n,hn⟩:∃ n,n=Yo a b:=⟨_,rfl⟩
  rw [←hn] at h hsb ⊢
  refine sb [(10,.v (.one (.int .i64 0))),(9,.v (.one (.int .i64 (n:Int)))),(5,.v (.one (.ow 3 0))),(4,.v (.one (.ow 2 0))),(3,.v (.one (.ow 1 0))),(2,.v (.one (.ow 0 0)))] [.blk 67 (ta a),.blk 67 (ta b),.blk 67 zTm,.blk 67 zTm] rfl rfl ?_
  refine lp (S:=Nat×Tm×Tm) 4 (fun L1 s=>(10,.v (.one (.int .i64 (s.1:Int))))::L1) (fun s=>[.blk 67 (ta s.2.1),.blk 67 (ta s.2.2),.blk 67 zTm,.blk 67 zTm]) (fun s=>n-s.1) (fun s=>s.1≤n∧Tb s.2.1∧Tb s.2.2∧apF (n-s.1) s.2.1 s.2.2=some r) (0,a,b) ⟨Nat.zero_le _,ha,hb,h⟩ rfl (fun _ _=>rfl) rfl fun ⟨i,u,v⟩ ⟨j1,j2,j3,j4⟩=>?_
  dsimp only at j1 j2 j3 j4 ⊢
  by_cases hi:i<n
  · obtain ⟨k,hk⟩:∃ k,n-i=k+1:=⟨n-i-1,by omega⟩
    have hk':n-(i+1)=k:=by omega
    rw [hk] at j4
    have c1:=Fl j2.hi.s31 j3.lo.s31
    have c2:=Fl j3.hi.s31 j2.lo.s31
    have pu:=Uf j2
    have pv:=Uf j3
    have hlt:decide ((i:Int)<(n:Int))=true:=by simp; omega
    simp only [apF] at j4
    refine go tt [.t hlt] rfl trivial ?_
    refine ct 3 (S:=Unit) (fun _=>[(10,.v (.one (.int .i64 (i:Int)))),(9,.v (.one (.int .i64 (n:Int)))),(5,.v (.one (.ow 3 0))),(4,.v (.one (.ow 2 0))),(3,.v (.one (.ow 1 0))),(2,.v (.one (.ow 0 0)))]) (fun _=>[.blk 67 (ta u),.blk 67 (ta v),.blk 67 zTm,.blk 67 zTm]) (fun _=>¬Wi u v=true∧¬Wi v u=true) rfl ?_ ?_
    · have bA:Wi u v=(decide (Zs u.hi v.lo≤0) && !(u.point && v.point && decide (Zs u.hi v.lo=0))):=by
        unfold Wi; cases u.point <;> cases v.point <;> simp
      have bB:Wi v u=(decide (Zs v.hi u.lo≤0) && !(u.point && v.point && decide (Zs v.hi u.lo=0))):=by
        unfold Wi; cases u.point <;> cases v.point <;> simp
      obtain ⟨a0,A'⟩:∃ b,decide (Zs u.hi v.lo≤0)=b:=⟨_,rfl⟩
      obtain ⟨b0,B'⟩:∃ b,decide (Zs v.hi u.lo≤0)=b:=⟨_,rfl⟩
      obtain ⟨p0,P'⟩:∃ b,u.point=b:=⟨_,rfl⟩
      obtain ⟨q0,Q'⟩:∃ b,v.point=b:=⟨_,rfl⟩
      obtain ⟨x0,X'⟩:∃ b,decide (Zs u.hi v.lo=0)=b:=⟨_,rfl⟩
      obtain ⟨y0,Y'⟩:∃ b,decide (Zs v.hi u.lo=0)=b:=⟨_,rfl⟩
      rw [A',P',Q',X'] at bA
      rw [B',P',Q',Y'] at bB
      have r1:Wi u v=true→(u,v,-1)=r:=fun h=>by rw [if_pos h] at j4; injection j4
      have r2:¬Wi u v=true→Wi v u=true→(u,v,1)=r:=fun h h'=>by rw [if_neg h,if_pos h'] at j4; injection j4
      clear j4
      cases a0
      · cases b0
        · exact go tt [.c [] c1,.g 19 false A',.f rfl,.c [] c2,.g 45 false B',.f rfl] rfl trivial (rc () ⟨by rw [bA]; simp,by rw [bB]; simp⟩ rfl)
        · cases p0
          · obtain rfl:=r2 (by rw [bA]; simp) (by rw [bB]; rfl)
            exact en tt [.c [] c1,.g 19 false A',.f rfl,.c [] c2,.g 45 true B',.c [] pu,.g 48 false P',.g 52 false rfl,.t rfl] rfl rfl trivial
          · cases q0
            · obtain rfl:=r2 (by rw [bA]; simp) (by rw [bB]; rfl)
              exact en tt [.c [] c1,.g 19 false A',.f rfl,.c [] c2,.g 45 true B',.c [] pu,.g 48 true P',.c [] pv,.g 52 false Q',.t rfl] rfl rfl trivial
            · cases y0
              · obtain rfl:=r2 (by rw [bA]; simp) (by rw [bB]; rfl)
                exact en tt [.c [] c1,.g 19 false A',.f rfl,.c [] c2,.g 45 true B',.c [] pu,.g 48 true P',.c [] pv,.g 52 true Q',.c [] c2,.t (by simpa using Y')] rfl rfl trivial
              · exact go tt [.c [] c1,.g 19 false A',.f rfl,.c [] c2,.g 45 true B',.c [] pu,.g 48 true P',.c [] pv,.g 52 true Q',.c [] c2,.f (by simpa using Y')] rfl trivial (rc () ⟨by rw [bA]; simp,by rw [bB]; simp⟩ rfl)
      · cases p0
        · obtain rfl:=r1 (by rw [bA]; rfl)
          exact en tt [.c [] c1,.g 19 true A',.c [] pu,.g 22 false P',.g 26 false rfl,.t rfl] rfl rfl trivial
        · cases q0
          · obtain rfl:=r1 (by rw [bA]; rfl)
            exact en tt [.c [] c1,.g 19 true A',.c [] pu,.g 22 true P',.c [] pv,.g 26 false Q',.t rfl] rfl rfl trivial
          · cases x0
            · obtain rfl:=r1 (by rw [bA]; rfl)
              exact en tt [.c [] c1,.g 19 true A',.c [] pu,.g 22 true P',.c [] pv,.g 26 true Q',.c [] c1,.t (by simpa using X')] rfl rfl trivial
            · cases b0
              · exact go tt [.c [] c1,.g 19 true A',.c [] pu,.g 22 true P',.c [] pv,.g 26 true Q',.c [] c1,.f (by simpa using X'),.c [] c2,.g 45 false B',.f rfl] rfl trivial (rc () ⟨by rw [bA]; simp,by rw [bB]; simp⟩ rfl)
              · cases y0
                · obtain rfl:=r2 (by rw [bA]; simp) (by rw [bB]; rfl)
                  exact en tt [.c [] c1,.g 19 true A',.c [] pu,.g 22 true P',.c [] pv,.g 26 true Q',.c [] c1,.f (by simpa using X'),.c [] c2,.g 45 true B',.c [] pu,.g 48 true P',.c [] pv,.g 52 true Q',.c [] c2,.t (by simpa using Y')] rfl rfl trivial
                · exact go tt [.c [] c1,.g 19 true A',.c [] pu,.g 22 true P',.c [] pv,.g 26 true Q',.c [] c1,.f (by simpa using X'),.c [] c2,.g 45 true B',.c [] pu,.g 48 true P',.c [] pv,.g 52 true Q',.c [] c2,.f (by simpa using Y')] rfl trivial (rc () ⟨by rw [bA]; simp,by rw [bB]; simp⟩ rfl)
    · rintro _ ⟨n1,n2⟩
      rw [if_neg n1,if_neg n2] at j4
      have qr:∀ {x y:Rat},Qb x→Qb y→Qs 2147483647 (Qbp x y):=fun h1 h2=>Q37 h1 h2
      have cc:=Fl (qr j2.hi j2.lo) (qr j3.hi j3.lo)
      by_cases D:0≤Zs (Qbp u.hi u.lo) (Qbp v.hi v.lo)
      · rw [if_pos D] at j4
        obtain ⟨x,x1,x2⟩:=Option.bind_eq_some_iff.1 j4
        refine go tt [.c [] (Qe0 j2.hi j2.lo),.c [] (Qe0 j3.hi j3.lo),.c [] cc,.t (by simpa using D),.c [] (Qli j2 x1)] rfl (by simp [Qa]; omega) ?_
        exact rd (i+1,x,v) (by dsimp only; omega) ⟨hi,Qgv j2 x1,j3,by dsimp only; rw [hk']; exact x2⟩ rfl
      · rw [if_neg D] at j4
        obtain ⟨x,x1,x2⟩:=Option.bind_eq_some_iff.1 j4
        refine go tt [.c [] (Qe0 j2.hi j2.lo),.c [] (Qe0 j3.hi j3.lo),.c [] cc,.f (by simpa using D),.c [] (Qli j3 x1)] rfl (by simp [Qa]; omega) ?_
        exact rd (i+1,u,x) (by dsimp only; omega) ⟨hi,j2,Qgv j3 x1,by dsimp only; rw [hk']; exact x2⟩ rfl
  · obtain rfl:i=n:=by omega
    rw [Nat.sub_self] at j4
    simp only [apF] at j4
    injection j4 with j4; subst j4
    exact en tt [.f (by simp)] rfl rfl trivial
end Orr

namespace Orr
open Go Go.Proofs
set_option maxRecDepth 10000
theorem Q2d {a b:Rat} (ha:Qb a) (hb:Qb b):Qd Tryz.prog 82 [.agg (rl a),.one (.row [rl b])] [.agg (rl (if 0<Zs b a then b else a))]:=by
  have ca:=Ic (Qe a.num) (Qe (a.den:Int)) ha.s32.1 ha.s32.2
  have cb:=Ic (Qe b.num) (Qe (b.den:Int)) hb.s32.1 hb.s32.2
  rw [Tq] at ca cb
  have cc:=Fl hb.s31 ha.s31
  refine Z7 Tryz.func82 rfl ?_
  refine go tt [.c [] ca] rfl trivial ?_
  refine lp (S:=Nat) 3 (fun L1 i=>(12,.v (.one (.int .i64 (i:Int))))::L1) (fun i=>[.blk 41 (rl a),.blk 41 [.bool false,.nils,.bool false,.nils],.blk 41 (rl (if i=0 then a else if 0<Zs b a then b else a))]) (fun i=>1-i) (fun i=>i≤1) 0 (Nat.zero_le _) rfl (fun _ _=>rfl) rfl fun i hi=>?_
  rcases (show i=0∨i=1 by omega) with rfl | rfl
  · by_cases h:0<Zs b a
    · refine go tt [.t rfl,.x (i:=0) (xs:=rl b) rfl,.c [] cc,.t (by simpa using h),.c [] cb] rfl (by simp [Qa]) ?_
      exact rd 1 (by omega) (by omega) (by rw [if_pos h]; rfl)
    · refine go tt [.t rfl,.x (i:=0) (xs:=rl b) rfl,.c [] cc,.f (by simpa using h)] rfl (by simp [Qa]) ?_
      exact rd 1 (by omega) (by omega) (by rw [if_neg h]; rfl)
  · exact en tt [.f rfl] rfl rfl trivial
theorem Qem {a b:Tm} {c:Int} (ha:Tb a) (hb:Tb b) (h:O3 a b=some c):Qd Tryz.prog 125 [.agg (ta a),.agg (ta b)] [.one (.int .i64 c)]:=by
  have ca:=Ie ha
  have cb:=Ie hb
  have pa:=Uf ha
  have pb:=Uf hb
  unfold O3 at h
  by_cases h1:a.point=true
  · rw [if_pos h1] at h
    injection h with h; subst h
    have:=Q2k b a.lo
    exact w tt Tryz.func125 rfl [.c [] ca,.c [] cb,.c [] pa,.t h1,.c [] (Lh hb ha.lo)] rfl rfl (by simp [Qa]; omega)
  rw [if_neg h1] at h
  have h1:a.point=false:=by simpa using h1
  by_cases h2:b.point=true
  · rw [if_pos h2] at h
    injection h with h; subst h
    exact w tt Tryz.func125 rfl [.c [] ca,.c [] cb,.c [] pa,.f h1,.c [] pb,.t h2,.c [] (Lh ha hb.lo)] rfl rfl trivial
  rw [if_neg h2] at h
  have h2:b.point=false:=by simpa using h2
  obtain ⟨lo,hlo⟩:∃ lo,lo=if 0<Zs b.lo a.lo then b.lo else a.lo:=⟨_,rfl⟩
  obtain ⟨hi,hhi⟩:∃ hi,hi=if Zs b.hi a.hi<0 then b.hi else a.hi:=⟨_,rfl⟩
  have h:(if Zs lo hi<0 then (Qf8 a.p b.p).bind fun g=>if 1<g.length∧Co g lo hi=true then some 0 else (apF (Yo a b) a b).bind fun r=>some r.2.2 else (apF (Yo a b) a b).bind fun r=>some r.2.2)=some c:=by rw [hlo,hhi]; exact h
  have qlo:Qb lo:=by rw [hlo]; split; exact hb.lo; exact ha.lo
  have qhi:Qb hi:=by rw [hhi]; split; exact hb.hi; exact ha.hi
  have cm:=Q2d ha.lo hb.lo
  rw [←hlo] at cm
  have cc1:=Fl hb.hi.s31 ha.hi.s31
  have cc2:=Fl qlo.s31 qhi.s31
  refine Z7 Tryz.func125 rfl ?_
  refine go tt [.c [] ca,.c [] cb,.c [] pa,.f h1,.c [] pb,.f h2,.c [] cm] rfl trivial ?_
  refine ct 2 (S:=Unit) (fun _=>[(6,.v (.one (.ow 3 0))),(5,.v (.one (.ow 2 0))),(4,.v (.one (.int .i64 0))),(3,.v (.one (.ow 1 0))),(2,.v (.one (.ow 0 0)))]) (fun _=>[.blk 67 (ta a),.blk 67 (ta b),.blk 41 (rl lo),.blk 41 (rl hi)]) (fun _=>True) rfl ?_ ?_
  · by_cases D:Zs b.hi a.hi<0
    · rw [if_pos D] at hhi; subst hhi
      exact go tt [.c [] cc1,.t (by simpa using D)] rfl trivial (rc () trivial rfl)
    · rw [if_neg D] at hhi; subst hhi
      exact go tt [.c [] cc1,.f (by simpa using D)] rfl trivial (rc () trivial rfl)
  · rintro _ _
    by_cases D:Zs lo hi<0
    · rw [if_pos D] at h
      obtain ⟨g,g1,h⟩:=Option.bind_eq_some_iff.1 h
      have cg:=Quv ha.p hb.p g1
      have pg:=Qyg ha.p hb.p g1
      have ch:=Qve pg qlo qhi
      by_cases G:1<g.length
      · by_cases R:Co g lo hi=true
        · rw [if_pos ⟨G,R⟩] at h
          injection h with h; subst h
          exact en tt [.c [] cc2,.t (by simpa using D),.c [] cg,.c [] (V9 g),.g 58 true (by simp; omega),.c [] ch,.t R] rfl rfl trivial
        · rw [if_neg fun h=>R h.2] at h
          obtain ⟨r,r1,h⟩:=Option.bind_eq_some_iff.1 h
          injection h with h; subst h
          exact en tt [.c [] cc2,.t (by simpa using D),.c [] cg,.c [] (V9 g),.g 58 true (by simp; omega),.c [] ch,.f (by simpa using R),.c [] (Qes ha hb r1)] rfl rfl trivial
      · rw [if_neg fun h=>G h.1] at h
        obtain ⟨r,r1,h⟩:=Option.bind_eq_some_iff.1 h
        injection h with h; subst h
        exact en tt [.c [] cc2,.t (by simpa using D),.c [] cg,.c [] (V9 g),.g 58 false (by simp; omega),.f rfl,.c [] (Qes ha hb r1)] rfl rfl trivial
    · rw [if_neg D] at h
      obtain ⟨r,r1,h⟩:=Option.bind_eq_some_iff.1 h
      injection h with h; subst h
      exact en tt [.c [] cc2,.f (by simpa using D),.c [] (Qes ha hb r1)] rfl rfl trivial
theorem Q1i {p:List Int} {a:Tm} {s:Int} (hp:Pb p) (ha:Tb a) (h:Qd8 p a=some s):Qd Tryz.prog 181 [pr p,.agg (ta a)] [.one (.int .i64 s)]:=by
  have ca:=Ie ha
  have pa:=Uf ha
  have cn:=Xz hp.t hp.ln hp.bd
  unfold Qd8 at h
  by_cases h0:p.length=0
  · rw [if_pos h0] at h
    injection h with h; subst h
    exact w tt Tryz.func181 rfl [.c [] cn,.c [] ca,.t (by simp; exact List.eq_nil_of_length_eq_zero h0)] rfl rfl trivial
  rw [if_neg h0] at h
  have h0:p≠[]:=fun e=>h0 (by rw [e]; rfl)
  by_cases h1:a.point=true
  · rw [if_pos h1] at h
    injection h with h; subst h
    exact w tt Tryz.func181 rfl [.c [] cn,.c [] ca,.f (by simpa using h0),.c [] pa,.t h1,.c [] (Ax hp ha.lo)] rfl rfl trivial
  rw [if_neg h1] at h
  have h1:a.point=false:=by simpa using h1
  obtain ⟨g,g1,h⟩:=Option.bind_eq_some_iff.1 h
  have cg:=Quv hp ha.p g1
  have pg:=Qyg hp ha.p g1
  have ch:=Qve pg ha.lo ha.hi
  by_cases G:1<g.length∧Co g a.lo a.hi=true
  · rw [if_pos G] at h
    injection h with h; subst h
    exact w tt Tryz.func181 rfl [.c [] cn,.c [] ca,.f (by simpa using h0),.c [] pa,.f h1,.c [] cg,.c [] (V9 g),.g 29 true (by simp; omega),.c [] ch,.t G.2] rfl rfl trivial
  rw [if_neg G] at h
  obtain ⟨c,c1,h⟩:=Option.bind_eq_some_iff.1 h
  obtain ⟨u,u1,h⟩:=Option.bind_eq_some_iff.1 h
  injection h with h; subst h
  obtain ⟨cl,call⟩:=chain_ok hp c1
  obtain ⟨n,hn⟩:∃ n,n=64+2*(Ql a.lo.num+Ql a.hi.num)+4*(a.p.length+p.length)*(Zp a.p+Zp p+(a.p.length+p.length)+8):=⟨_,rfl⟩
  have cst:=Qvy ha hp
  rw [show Qnk p a=n from hn.symm] at cst
  rw [←hn] at u1
  have hnb:n≤17179938816+200000000:=by
    have l1:=ha.p.l
    have l2:=hp.l
    have b1:=ha.lo.1
    have b2:=ha.hi.1
    have s1:Zp a.p≤16777216:=by have:=Y4 ha.p.b a.p.length; rwa [List.take_length] at this
    have s2:Zp p≤16777216:=by have:=Y4 hp.b p.length; rwa [List.take_length] at this
    have:4*(a.p.length+p.length)*(Zp a.p+Zp p+(a.p.length+p.length)+8)≤512*33554568:=Nat.mul_le_mul (by omega) (by omega)
    omega
  refine Z7 Tryz.func181 rfl ?_
  refine go tt [.c [] cn,.c [] ca,.f (by simpa using h0),.c [] pa,.f h1,.c [] cg] rfl trivial ?_
  refine ct 2 (S:=Unit) (fun _=>[(3,.v (.one (.ow 0 0))),(0,.v (pr p))]) (fun _=>[.blk 67 (ta a)]) (fun _=>True) rfl ?_ ?_
  · by_cases G1:1<g.length
    · exact go tt [.c [] (V9 g),.g 29 true (by simp; omega),.c [] ch,.f (by simpa using fun h=>G ⟨G1,h⟩)] rfl trivial (rc () trivial rfl)
    · exact go tt [.c [] (V9 g),.g 29 false (by simp; omega),.f rfl] rfl trivial (rc () trivial rfl)
  rintro _ _
  refine go tt [.c [] (Qu2 hp c1),.c [] cst] rfl trivial ?_
  refine lp (S:=Nat×Tm) 1 (fun L1 s=>(46,.v (.one (.int .i64 (s.1:Int))))::L1) (fun s=>[.blk 67 (ta s.2)]) (fun s=>n-s.1) (fun s=>s.1≤n∧Tb s.2∧sgF c (n-s.1) s.2=some u) (0,a) ⟨Nat.zero_le _,ha,u1⟩ rfl (fun _ _=>rfl) rfl fun ⟨i,x⟩ ⟨j1,j2,j3⟩=>?_
  dsimp only at j1 j2 j3 ⊢
  by_cases hi:i<n
  · obtain ⟨k,hk⟩:∃ k,n-i=k+1:=⟨n-i-1,by omega⟩
    have hk':n-(i+1)=k:=by omega
    rw [hk] at j3
    simp only [sgF] at j3
    have px:=Uf j2
    have cb:=Qce (by omega) call j2.lo j2.hi
    have hlt:decide ((i:Int)<(n:Int))=true:=by simp; omega
    by_cases X:x.point=true
    · rw [if_pos (.inl X)] at j3
      injection j3 with j3; subst j3
      exact en tt [.t hlt,.c [] px,.g 50 true X,.t rfl,.c [] (Ax hp j2.hi)] rfl rfl trivial
    · have X':x.point=false:=by simpa using X
      by_cases Z:Jc c x.lo x.hi=0
      · rw [if_pos (.inr Z)] at j3
        injection j3 with j3; subst j3
        exact en tt [.t hlt,.c [] px,.g 50 false X',.c [] cb,.t (by simpa using Z),.c [] (Ax hp j2.hi)] rfl rfl trivial
      · rw [if_neg (by rintro (h | h); exact X h; exact Z h)] at j3
        obtain ⟨v,v1,v2⟩:=Option.bind_eq_some_iff.1 j3
        refine go tt [.t hlt,.c [] px,.g 50 false X',.c [] cb,.f (by simpa using Z),.c [] (Qli j2 v1)] rfl (by simp [Qa]; omega) ?_
        exact rd (i+1,v) (by dsimp only; omega) ⟨hi,Qgv j2 v1,by dsimp only; rw [hk']; exact v2⟩ rfl
  · obtain rfl:i=n:=by omega
    rw [Nat.sub_self] at j3
    simp only [sgF] at j3
    injection j3 with j3; subst j3
    exact en tt [.f (by simp),.c [] (Ax hp j2.hi)] rfl rfl trivial
abbrev tas (l:List Tm):LV:=.row (l.map fun t=>ta t)
theorem Ob {l:List Tm} {i:Nat} {t:Tm} (h:l[i]? = some t):(l.map fun t=>ta t)[i]? = some (ta t):=Xf h
def zTr:List LV:=[.row [],.bool false,.row [],.bool false,.row [],.bool false,.row [],.bool false,.row []]
theorem Qun:Qd Tryz.prog 136 [.one (.row [])] [.agg zTr,.one (.bool false)]:=w tt Tryz.func136 rfl [.t rfl] rfl rfl trivial
theorem Sq {b:Tm} {l:List Tm} {m:Tm} (hb:Tb b) (hl:∀ t∈l,Tb t) (hn:l.length≤1000000) (h:Tk b l=some m):Qd Tryz.prog 136 [.one (tas (b::l))] [.agg (ta m),.one (.bool true)]:=by
  refine Z7 Tryz.func136 rfl ?_
  refine go tt [.f (by simp; omega),.x (i:=0) (xs:=ta b) rfl,.i 1] rfl (by simp [Qa]; exact ⟨rfl,fun _ _=>rfl⟩) ?_
  refine lp (S:=Nat×Tm) 2 (fun L1 s=>(17,.v (.one (.int .i64 (s.1:Int))))::L1) (fun s=>[.blk 67 zTm,.blk 67 (ta s.2)]) (fun s=>l.length-s.1) (fun s=>s.1≤l.length∧Tb s.2∧Tk s.2 (l.drop s.1)=some m) (0,b) ⟨Nat.zero_le _,hb,h⟩ rfl (fun _ _=>rfl) rfl fun ⟨i,x⟩ ⟨j1,j2,j3⟩=>?_
  dsimp only at j1 j2 j3 ⊢
  by_cases hi:i<l.length
  · obtain ⟨a,ha⟩:∃ a,l[i]? = some a:=⟨_,List.getElem?_eq_getElem hi⟩
    have hdr:l.drop i=a::l.drop (i+1):=by
      rw [List.drop_eq_getElem_cons hi]; congr 1
      have:=List.getElem?_eq_getElem hi; rw [ha] at this; injection this with this; exact this.symm
    rw [hdr] at j3
    simp only [Tk] at j3
    obtain ⟨c,c1,j3⟩:=Option.bind_eq_some_iff.1 j3
    have ta':=hl a (List.mem_of_getElem? ha)
    by_cases hc:c<0
    · rw [if_pos hc] at j3
      refine go tt [.t (by simp; omega),.x (Ob ha),.c [] (Qem ta' j2 c1),.t (by simpa using hc)] rfl (by simp [Qa]; omega) ?_
      exact rd (i+1,a) (by dsimp only; omega) ⟨hi,ta',j3⟩ rfl
    · rw [if_neg hc] at j3
      refine go tt [.t (by simp; omega),.x (Ob ha),.c [] (Qem ta' j2 c1),.f (by simpa using hc)] rfl (by simp [Qa]; omega) ?_
      exact rd (i+1,x) (by dsimp only; omega) ⟨hi,j2,j3⟩ rfl
  · obtain rfl:i=l.length:=by omega
    rw [List.drop_length] at j3
    simp only [Tk] at j3
    injection j3 with j3; subst j3
    exact en tt [.f (by simp),.c [] (Qvz j2)] rfl rfl trivial
end Orr

namespace Orq
def Qm (x:Rat):Rat:=if x<0 then -x else x
theorem Xc (x:Rat):0≤Qm x:=by unfold Qm; split <;> grind
theorem Y5 {x b:Rat}:Qm x≤b↔-b≤x∧x≤b:=by unfold Qm; split <;> constructor <;> grind
theorem Qgf {x b:Rat}:Qm x<b↔-b<x∧x<b:=by unfold Qm; split <;> constructor <;> grind
theorem Ju (x y:Rat):Qm (x+y)≤Qm x+Qm y:=by unfold Qm; split <;> split <;> split <;> grind
theorem Qqt (x y:Rat):Qm (x-y)=Qm (y-x):=by unfold Qm; split <;> split <;> grind
theorem U9 (x:Rat):Qm (-x)=Qm x:=by unfold Qm; split <;> split <;> grind
theorem Xt:Qm 0=0:=by decide
theorem K7 {x:Rat} (h:x≠0):0<Qm x:=by unfold Qm; split <;> grind
theorem Q35 {x:Rat} (h:Qm x=0):x=0:=by unfold Qm at h; split at h <;> grind
theorem V5 {x y:Rat} (h1:0≤x) (h2:0≤y):0≤x*y:=Rat.mul_nonneg h1 h2
theorem Hg {x y:Rat} (h1:0<x) (h2:0<y):0<x*y:=Rat.mul_pos h1 h2
theorem Kv {a b c d:Rat} (h0:0≤a) (h1:a≤b) (h2:0≤c) (h3:c≤d):a*c≤b*d:=by
  have e1:=Rat.mul_le_mul_of_nonneg_right h1 h2
  have e2:=Rat.mul_le_mul_of_nonneg_left h3 (Rat.le_trans h0 h1)
  exact Rat.le_trans e1 e2
theorem G5 (x y:Rat):Qm (x*y)=Qm x*Qm y:=by
  unfold Qm
  by_cases h1:x<0 <;> by_cases h2:y<0
  · have:=Hg (x:=-x) (y:=-y) (by grind) (by grind); simp only [h1,h2,if_true]; split <;> grind
  · have:=V5 (x:=-x) (y:=y) (by grind) (by grind); simp only [h1,h2,if_true,if_false]; split <;> grind
  · have:=V5 (x:=x) (y:=-y) (by grind) (by grind); simp only [h1,h2,if_true,if_false]; split <;> grind
  · have:=V5 (x:=x) (y:=y) (by grind) (by grind); simp only [h1,h2,if_false]; split <;> grind
theorem Zr {x y a b:Rat} (h1:Qm x≤a) (h2:Qm y≤b):Qm (x*y)≤a*b:=by
  rw [G5]; exact Kv (Xc x) h1 (Xc y) h2
theorem Fu {x y:Rat} (h1:0<x) (h2:0<y):0<x / y:=by rw [Rat.div_def]; exact Hg h1 (Rat.inv_pos.2 h2)
theorem Zt {x y:Rat} (h2:0<y):x / y*y=x:=Rat.div_mul_cancel (by grind)
theorem Zv {b d:Rat} (hb:0≤b) (hd:0<d):∃ e:Rat,0<e∧e≤1∧e*b<d:=by
  have h1:0<d / (b+1):=Fu hd (by grind)
  have h2:d / (b+1)*(b+1)=d:=Zt (by grind)
  rcases Rat.le_total (a:=d / (b+1)) (b:=1) with h | h
  · exact ⟨d / (b+1),h1,h,by
     have:d / (b+1)*(b+1)=d / (b+1)*b+d / (b+1):=by grind
     grind⟩
  · refine ⟨1,by decide,by decide,?_⟩
    have:1*(b+1)≤d / (b+1)*(b+1):=Rat.mul_le_mul_of_nonneg_right h (by grind)
    grind
def ev:List Rat→Rat→Rat
  | [],_=>0
  | a::p,t=>a+t*ev p t
def dv:List Rat→Rat→Rat
  | [],_=>0
  | _::p,t=>ev p t+t*dv p t
def dq:List Rat→Rat→Rat→Rat
  | [],_,_=>0
  | _::p,x,y=>ev p x+y*dq p x y
def dd:List Rat→Rat→Rat→Rat
  | [],_,_=>0
  | _::p,x,y=>dq p x y+y*dd p x y
theorem Qct (x y:Rat):∀ p,ev p x-ev p y=(x-y)*dq p x y
  | []=>by simp only [ev,dq]; grind
  | a::p=>by have:=Qct x y p; simp only [ev,dq]; grind
theorem Qe7 (y:Rat):∀ p,dq p y y=dv p y
  | []=>rfl
  | a::p=>by simp only [dq,dv,Qe7 y p]
theorem Q5r (x y:Rat):∀ p,dq p x y-dv p y=(x-y)*dd p x y
  | []=>by simp only [dv,dq,dd]; grind
  |
   a::p=>by
   have h1:=Q5r x y p
   have h2:=Qct x y p
   simp only [dv,dq,dd]; grind
theorem Q5v (p:List Rat) (x y:Rat):ev p x-ev p y=(x-y)*dv p y+(x-y)*(x-y)*dd p x y:=by
  have h1:=Qct x y p
  have h2:=Q5r x y p
  grind
def evB (R:Rat):List Rat→Rat
  | []=>0
  | a::p=>Qm a+R*evB R p
def dqB (R:Rat):List Rat→Rat
  | []=>0
  | _::p=>evB R p+R*dqB R p
def ddB (R:Rat):List Rat→Rat
  | []=>0
  | _::p=>dqB R p+R*ddB R p
theorem S4 {R:Rat} (hR:0≤R):∀ p,0≤evB R p
  | []=>by simp only [evB]; grind
  | a::p=>by have:=V5 hR (S4 hR p); have:=Xc a; simp only [evB]; grind
theorem Vm {R:Rat} (hR:0≤R):∀ p,0≤dqB R p
  | []=>by simp only [dqB]; grind
  | a::p=>by have:=V5 hR (Vm hR p); have:=S4 hR p; simp only [dqB]; grind
theorem O8 {R:Rat} (hR:0≤R):∀ p,0≤ddB R p
  | []=>by simp only [ddB]; grind
  | a::p=>by have:=V5 hR (O8 hR p); have:=Vm hR p; simp only [ddB]; grind
theorem E9 {R x:Rat} (hx:Qm x≤R):∀ p,Qm (ev p x)≤evB R p
  | []=>by simp only [ev,evB,Xt]; grind
  |
   a::p=>by
   have h1:=Ju a (x*ev p x)
   have h2:=Zr hx (E9 hx p)
   simp only [ev,evB]; grind
theorem Qif {R x y:Rat} (hx:Qm x≤R) (hy:Qm y≤R):∀ p,Qm (dq p x y)≤dqB R p
  | []=>by simp only [dq,dqB,Xt]; grind
  |
   a::p=>by
   have h1:=Ju (ev p x) (y*dq p x y)
   have h2:=Zr hy (Qif hx hy p)
   have h3:=E9 hx p
   simp only [dq,dqB]; grind
theorem Qwd {R x y:Rat} (hx:Qm x≤R) (hy:Qm y≤R):∀ p,Qm (dd p x y)≤ddB R p
  | []=>by simp only [dd,ddB,Xt]; grind
  |
   a::p=>by
   have h1:=Ju (dq p x y) (y*dd p x y)
   have h2:=Zr hy (Qwd hx hy p)
   have h3:=Qif hx hy p
   simp only [dd,ddB]; grind
theorem Q7m {R x y:Rat} (hx:Qm x≤R) (hy:Qm y≤R) (p:List Rat):Qm (ev p x-ev p y)≤Qm (x-y)*dqB R p:=by
  rw [Qct,G5]; exact Kv (Xc _) Rat.le_refl (Xc _) (Qif hx hy p)
def Jv:List Rat→List Rat→List Rat
  | [],q=>q
  | a::p,[]=>a::p
  | a::p,b::q=>(a+b)::Jv p q
def Uc (c:Rat) (p:List Rat):List Rat:=p.map (c * ·)
def Zo:List Rat→List Rat→List Rat
  | [],_=>[]
  | a::p,q=>Jv (Uc a q) (0::Zo p q)
def V6:List Rat→List Rat
  | []=>[]
  | _::p=>Jv p (0::V6 p)
theorem Zl (t:Rat):∀ p q,ev (Jv p q) t=ev p t+ev q t
  | [],q=>by simp only [Jv,ev]; grind
  | a::p,[]=>by simp only [Jv,ev]; grind
  | a::p,b::q=>by have:=Zl t p q; simp only [Jv,ev]; grind
theorem Zb (c t:Rat):∀ p,ev (Uc c p) t=c*ev p t
  | []=>by simp only [Uc,List.map_nil,ev]; grind
  | a::p=>by have:=Zb c t p; simp only [Uc,List.map_cons,ev] at *; grind
theorem Qk (t:Rat):∀ p q,ev (Zo p q) t=ev p t*ev q t
  | [],q=>by simp only [Zo,ev]; grind
  | a::p,q=>by have:=Qk t p q; simp only [Zo,Zl,Zb,ev]; grind
theorem Jd (t:Rat):∀ p,ev (V6 p) t=dv p t
  | []=>rfl
  | a::p=>by have:=Jd t p; simp only [V6,Zl,ev,dv]; grind
theorem Qe8 (t:Rat):∀ p q,dv (Jv p q) t=dv p t+dv q t
  | [],q=>by simp only [Jv,dv]; grind
  | a::p,[]=>by simp only [Jv,dv]; grind
  | a::p,b::q=>by have:=Qe8 t p q; have:=Zl t p q; simp only [Jv,dv]; grind
theorem Lp (c t:Rat):∀ p,dv (Uc c p) t=c*dv p t
  | []=>by simp only [Uc,List.map_nil,dv]; grind
  | a::p=>by have:=Lp c t p; have:=Zb c t p; simp only [Uc,List.map_cons,dv] at *; grind
theorem Qe9 (t:Rat):∀ p q,dv (Zo p q) t=dv p t*ev q t+ev p t*dv q t
  | [],q=>by simp only [Zo,dv,ev]; grind
  | a::p,q=>by have:=Qe9 t p q; have:=Qk t p q; simp only [Zo,Qe8,Lp,dv,ev]; grind
theorem Qo9:∀ {p:List Rat},(∀ x∈p,x=0)→∀ t,ev p t=0
  | [],_,t=>rfl
  |
   a::p,h,t=>by
   have h1:=Qo9 (p:=p) (fun x hx=>h x (List.mem_cons_of_mem _ hx)) t
   have h2:=h a (List.mem_cons_self ..)
   simp only [ev,h1,h2]; grind
theorem Qo5:∀ {p:List Rat},(∀ x∈p,x=0)→∀ t,dv p t=0
  | [],_,t=>rfl
  |
   a::p,h,t=>by
   have h0:=fun x hx=>h x (List.mem_cons_of_mem _ hx)
   have h1:=Qo9 (p:=p) h0 t
   have h2:=Qo5 (p:=p) h0 t
   simp only [dv,h1,h2]; grind
theorem By:∀ {p:List Rat},(∀ t,0<t→t<1→ev p t=0)→∀ x∈p,x=0
  | [],_=>fun x hx=>by cases hx
  |
   a::p,h=>by
   have ha:a=0:=by
     rcases Classical.em (a=0) with h0 | h0
     · exact h0
     · obtain ⟨e,e1,e2,e3⟩:=Zv (S4 (R:=1) (by decide) p) (K7 h0)
       obtain ⟨f,f1,f2,f3⟩:=Zv (b:=1) (d:=e) (by decide) e1
       have h1:=h f f1 (by grind)
       have h2:=E9 (R:=1) (x:=f) (by unfold Qm; split <;> grind) p
       have h3:=G5 f (ev p f)
       have h4:Qm f=f:=by unfold Qm; split <;> grind
       have h5:a=-(f*ev p f):=by simp only [ev] at h1; grind
       have h6:Qm a=f*Qm (ev p f):=by rw [h5,U9,h3,h4]
       have h7:f*Qm (ev p f)≤e*evB 1 p:=Kv (Rat.le_of_lt f1) (by grind) (Xc _) h2
       grind
   intro x hx
   rcases List.mem_cons.1 hx with rfl | hx
   · exact ha
   · refine By (p:=p) (fun t h1 h2=>?_) x hx
     have:=h t h1 h2
     simp only [ev,ha] at this
     have h3:t*ev p t=0:=by grind
     rcases Rat.mul_eq_zero.1 h3 with h4 | h4
     · grind
     · exact h4
theorem Qwl {p q:List Rat} (h:∀ t,ev p t=ev q t) (t:Rat):dv p t=dv q t:=by
  have h1:=Qo5 (p:=Jv p (Uc (-1) q)) (By fun t _ _=>by rw [Zl,Zb,h t]; grind) t
  rw [Qe8,Lp] at h1; grind
end Orq

namespace Orq
def Qo (x:Rat):Int:=if x<0 then -1 else if 0<x then 1 else 0
theorem Zf {x:Rat}:Qo x=0↔x=0:=by
  unfold Qo; constructor
  · intro h; split at h <;> (try split at h) <;> grind
  · intro h; subst h; rfl
theorem Xd {x:Rat}:Qo x=1↔0<x:=by
  unfold Qo; constructor
  · intro h; split at h <;> (try split at h) <;> grind
  · intro h; rw [if_neg (by grind),if_pos h]
theorem J5 {x:Rat}:Qo x=-1↔x<0:=by
  unfold Qo; constructor
  · intro h; split at h <;> (try split at h) <;> grind
  · intro h; rw [if_pos h]
theorem Zd (x:Rat):Qo x=-1∧x<0∨Qo x=0∧x=0∨Qo x=1∧0<x:=by
  rcases Rat.le_total (a:=x) (b:=0) with h | h
  · rcases Classical.em (x=0) with h0 | h0
    · exact .inr (.inl ⟨Zf.2 h0,h0⟩)
    · exact .inl ⟨J5.2 (by grind),by grind⟩
  · rcases Classical.em (x=0) with h0 | h0
    · exact .inr (.inl ⟨Zf.2 h0,h0⟩)
    · exact .inr (.inr ⟨Xd.2 (by grind),by grind⟩)
theorem Jw (x y:Rat):Qo (x*y)=Qo x*Qo y:=by
  rcases Zd x with ⟨e1,h1⟩ | ⟨e1,h1⟩ | ⟨e1,h1⟩ <;> rcases Zd y with ⟨e2,h2⟩ | ⟨e2,h2⟩ | ⟨e2,h2⟩ <;> rw [e1,e2]
  · have:=Hg (x:=-x) (y:=-y) (by grind) (by grind); exact Xd.2 (by grind)
  · subst h2; exact Zf.2 (by grind)
  · have:=Hg (x:=-x) (y:=y) (by grind) (by grind); exact J5.2 (by grind)
  · subst h1; exact Zf.2 (by grind)
  · subst h1; exact Zf.2 (by grind)
  · subst h1; exact Zf.2 (by grind)
  · have:=Hg (x:=x) (y:=-y) (by grind) (by grind); exact J5.2 (by grind)
  · subst h2; exact Zf.2 (by grind)
  · exact Xd.2 (Hg h1 h2)
theorem Yl {a b d:Rat} (h1:d≤Qm a) (h2:Qm (b-a)<d):Qo b=Qo a∧Qo a≠0:=by
  rw [Qgf] at h2
  rcases Zd a with ⟨e,h⟩ | ⟨e,h⟩ | ⟨e,h⟩
  · rw [e,J5]; unfold Qm at h1; rw [if_pos h] at h1; exact ⟨by grind,by decide⟩
  · subst h; rw [Xt] at h1; grind
  · rw [e,Xd]; unfold Qm at h1; rw [if_neg (by grind)] at h1; exact ⟨by grind,by decide⟩
def tc (x:Rat):Int→List (List Rat)→Nat
  | _,[]=>0
  | s,p::l=>if Qo (ev p x)=0 then tc x s l else (if s=-(Qo (ev p x)) then 1 else 0)+tc x (Qo (ev p x)) l
inductive SCl:List Rat→List Rat→List (List Rat)→Prop
  | base {f g:List Rat} {c:Rat} (hc:c≠0) (hg:∀ t,ev g t=c):SCl f g []
  | step {f g h:List Rat} {l:List (List Rat)} {a b:Rat} {q:List Rat} (ha:0<a) (hb:0<b) (he:∀ t,a*ev f t=ev q t*ev g t-b*ev h t) (hl:SCl g h l):SCl f g (h::l)
theorem Q0g {x:Rat} {s:Int} {g h:List Rat} {l:List (List Rat)} (hh:Qo (ev h x)=-s) (hs:s≠0):tc x s (g::h::l)=1+tc x (-s) l:=by
  have h3:Qo (ev h x)≠0:=by omega
  have hv:s=1∨s=-1:=by rcases Zd (ev h x) with ⟨e,_⟩ | ⟨e,_⟩ | ⟨e,_⟩ <;> omega
  simp only [tc,if_neg h3,hh]
  rcases Zd (ev g x) with ⟨e,_⟩ | ⟨e,_⟩ | ⟨e,_⟩ <;> rw [e] <;> rcases hv with rfl | rfl <;> simp
theorem Dx {x:Rat} {s:Int} {p:List Rat} {l:List (List Rat)} (h:Qo (ev p x)≠0):tc x s (p::l)=(if s=-(Qo (ev p x)) then 1 else 0)+tc x (Qo (ev p x)) l:=by rw [tc,if_neg h]
theorem Yz {R x y e d:Rat} {p:List Rat} (hx:Qm x≤R) (hy:Qm y≤R) (hR:0≤R) (h:Qm (y-x)≤e) (hd:e*dqB R p<d):Qm (ev p y-ev p x)<d:=by
  have h1:=Q7m hy hx p
  have h2:=Rat.mul_le_mul_of_nonneg_right h (Vm hR p)
  grind
theorem Qdi {a x y:Rat} (ha:0<a) (h:a*x<a*y):x<y:=by
  rcases Rat.le_total (a:=y) (b:=x) with h' | h'
  · have:=Rat.mul_le_mul_of_nonneg_left h' (Rat.le_of_lt ha); grind
  · rcases Classical.em (x=y) with e | e
    · subst e; grind
    · grind
theorem Q8t {a b d d' B f g h q:Rat} (ha:0<a) (hb:0<b) (dp:0<d) (h7:B*d+a*d<b*d') (hq:Qm q≤B) (hg:Qm g<d) (hh:d'≤Qm h) (he:a*f=q*g-b*h) (hd':0<d'):Qo h=-Qo f∧d≤Qm f:=by
  have h4:=Zr hq (Rat.le_of_lt hg)
  rw [Y5] at h4
  have had:=Hg ha dp
  have h8:=Rat.mul_le_mul_of_nonneg_left hh (Rat.le_of_lt hb)
  rcases Zd h with ⟨s,p⟩ | ⟨s,p⟩ | ⟨s,p⟩
  · have:Qm h=-h:=by unfold Qm; rw [if_pos p]
    rw [this] at h8
    have h10:d<f:=Qdi ha (by grind)
    rw [s,Xd.2 (show 0<f by grind)]
    exact ⟨rfl,by unfold Qm; split <;> grind⟩
  · rw [p,Xt] at hh; grind
  · have:Qm h=h:=by unfold Qm; rw [if_neg (by grind)]
    rw [this] at h8
    have h10:f < -d:=Qdi ha (by grind)
    rw [s,J5.2 (show f<0 by grind)]
    exact ⟨rfl,by unfold Qm; split <;> grind⟩
theorem min2 {a b:Rat} (ha:0<a) (hb:0<b):∃ e:Rat,0<e∧e≤a∧e≤b:=by
  rcases Rat.le_total (a:=a) (b:=b) with h | h
  · exact ⟨a,ha,Rat.le_refl,h⟩
  · exact ⟨b,hb,h,Rat.le_refl⟩
theorem Q7 (a b:Rat):a≤b∨b<a:=by
  rcases Rat.le_total (a:=a) (b:=b) with h | h
  · exact .inl h
  · rcases Classical.em (a=b) with e | e
    · exact .inl (by grind)
    · exact .inr (by grind)
theorem Q74 {R:Rat} (hR:0≤R) {f g:List Rat} {l:List (List Rat)} (hc:SCl f g l):∃ d e:Rat,0<d∧0<e∧∀ x y,Qm x≤R→Qm y≤R→Qm (y-x)≤e →
    (d≤Qm (ev f x)∨d≤Qm (ev g x))∧(d≤Qm (ev f x)→Qo (ev f y)=Qo (ev f x)∧Qo (ev f x)≠0)∧(d≤Qm (ev g x)→Qo (ev g y)=Qo (ev g x)∧Qo (ev g x)≠0) ∧
    (Qo (ev f y)=Qo (ev f x)→Qo (ev f x)≠0→tc x (Qo (ev f x)) (g::l)=tc y (Qo (ev f x)) (g::l)) ∧
    (Qo (ev g y)=Qo (ev g x)→Qo (ev g x)≠0→tc x (Qo (ev g x)) l=tc y (Qo (ev g x)) l):=by
  induction hc with
  |
   @base f g c hc hg =>
   have hd:=K7 hc
   obtain ⟨e,e1,e2,e3⟩:=Zv (Vm hR f) hd
   refine ⟨Qm c,e,hd,e1,fun x y hx hy hxy=>⟨.inr (by rw [hg]; exact Rat.le_refl),fun h=>Yl h (Yz hx hy hR hxy e3),fun h=>?_,fun _ _=>?_,fun _ _=>rfl⟩⟩
   · rw [hg,hg]; exact ⟨rfl,fun h=>hc (Zf.1 h)⟩
   · simp only [tc,hg]
  |
   @step f g h l a b q ha hb he hl ih =>
   obtain ⟨d',e',hd',he',ih⟩:=ih
   obtain ⟨d1,d1p,_,d1b⟩:=Zv (b:=evB R q+a) (d:=b*d') (by have:=S4 hR q; grind) (Hg hb hd')
   obtain ⟨d,dp,hd1,hdd⟩:=min2 d1p hd'
   obtain ⟨ef,ef1,_,ef3⟩:=Zv (Vm hR f) dp
   obtain ⟨eg,eg1,_,eg3⟩:=Zv (Vm hR g) dp
   obtain ⟨e0,e0p,h1,h2⟩:=min2 ef1 eg1
   obtain ⟨e,ep,h0,h3⟩:=min2 e0p he'
   have h1:=Rat.le_trans h0 h1
   have h2:=Rat.le_trans h0 h2
   refine ⟨d,e,dp,ep,fun x y hx hy hxy=>?_⟩
   obtain ⟨i1,i2,i3,i4,i5⟩:=ih x y hx hy (Rat.le_trans hxy h3)
   have hsm:Qm (ev g x)<d→d'≤Qm (ev h x)∧Qo (ev h x)=-Qo (ev f x)∧d≤Qm (ev f x):=fun hg=>by
     have hh:d'≤Qm (ev h x):=by
       rcases i1 with i | i
       · exact absurd (Rat.le_trans hdd i) (Rat.not_le.2 hg)
       · exact i
     have h6:d*(evB R q+a)≤d1*(evB R q+a):=Rat.mul_le_mul_of_nonneg_right hd1 (by have:=S4 hR q; clear ih i1 i2 i3 i4 i5 he; grind)
     have h7:evB R q*d+a*d<b*d':=by clear ih i1 i2 i3 i4 i5 he; grind
     exact ⟨hh,Q8t ha hb dp h7 (E9 hx q) hg hh (he x) hd'⟩
   have hfs:d≤Qm (ev f x)→Qo (ev f y)=Qo (ev f x)∧Qo (ev f x)≠0:=fun h=>Yl h (Yz hx hy hR (Rat.le_trans hxy h1) ef3)
   have hgs:d≤Qm (ev g x)→Qo (ev g y)=Qo (ev g x)∧Qo (ev g x)≠0:=fun h=>Yl h (Yz hx hy hR (Rat.le_trans hxy h2) eg3)
   refine ⟨?_,hfs,hgs,fun s1 s2=>?_,i4⟩
   · rcases Q7 d (Qm (ev g x)) with h | h
     · exact .inr h
     · exact .inl (hsm h).2.2
   · rcases Q7 d (Qm (ev g x)) with h | h
     · obtain ⟨g1,g2⟩:=hgs h
       rw [Dx (x:=x) (p:=g) g2,Dx (x:=y) (p:=g) (by rw [g1]; exact g2),g1,i4 g1 g2]
     · obtain ⟨h4,h5,_⟩:=hsm h
       obtain ⟨h6,h7⟩:=i3 h4
       have i5:=i5 h6 h7
       rw [Q0g h5 s2,Q0g (h6.trans h5) s2,←h5,i5]
end Orq

namespace Orq
def Yf (p:List Rat) (x:Rat):Int:=if Qo (ev p x)≠0 then Qo (ev p x) else Qo (dv p x)
def vv (L:List (List Rat)) (x:Rat):Nat:=tc x 0 L
def Aw (f:List Rat) (L:List (List Rat)):Prop:=(∃ c:Rat,c≠0∧(∀ t,ev f t=c)∧L=[f])∨∃ g l,∃ k:Rat,0<k∧(∀ t,ev g t=k*dv f t)∧SCl f g l∧L=f::g::l
structure Sm (w:List Rat) (x y:Rat):Prop where
  s:Qo (ev w y)=Yf w x
  l:Yf w y=Yf w x
  n:Yf w x≠0
theorem Fz {p:List Rat} {x:Rat} (h:Qo (ev p x)≠0):Yf p x=Qo (ev p x):=by unfold Yf; rw [if_pos h]
theorem Qmf {p:List Rat} {x:Rat} (h:Qo (ev p x)=0):Yf p x=Qo (dv p x):=by unfold Yf; rw [if_neg (by simpa using h)]
theorem Qj8 {p:List Rat} {x y:Rat} (h:Qo (ev p y)=Qo (ev p x)) (h0:Qo (ev p x)≠0):Sm p x y:=by
  have h1:=Fz h0
  have h2:=Fz (p:=p) (x:=y) (by rw [h]; exact h0)
  exact ⟨by rw [h,h1],by rw [h2,h1,h],by rw [h1]; exact h0⟩
theorem Te {f w u:List Rat} (h:∀ t,ev f t=ev w t*ev u t) (x:Rat):dv f x=dv w x*ev u x+ev w x*dv u x:=by
  rw [←Qe9]; exact Qwl (fun t=>by rw [h,Qk]) x
theorem Qpx {f w u:List Rat} {x:Rat} (h:∀ t,ev f t=ev w t*ev u t) (hu:Qo (ev u x)≠0):Yf f x=Yf w x*Qo (ev u x):=by
  by_cases hw:Qo (ev w x)=0
  · have hw0:=Zf.1 hw
    have e1:ev f x=0:=by rw [h,hw0]; grind
    have e2:dv f x=dv w x*ev u x:=by rw [Te h,hw0]; grind
    rw [Qmf hw,Qmf (Zf.2 e1),e2,Jw]
  · have e1:Qo (ev f x)=Qo (ev w x)*Qo (ev u x):=by rw [h,Jw]
    rw [Fz hw,Fz (by rw [e1]; exact Int.mul_ne_zero hw hu),e1]
theorem Q8u {f w u:List Rat} {x y:Rat} (h:∀ t,ev f t=ev w t*ev u t) (hu:Qo (ev u y)=Qo (ev u x)) (h0:Qo (ev u x)≠0) (hf:Sm f x y):Sm w x y:=by
  have e1:=Qpx h h0
  have e2:=Qpx (x:=y) h (by rw [hu]; exact h0)
  have e3:Qo (ev f y)=Qo (ev w y)*Qo (ev u y):=by rw [h,Jw]
  obtain ⟨s,l,n⟩:=hf
  rw [hu] at e2 e3
  refine ⟨?_,?_,fun h=>n (by rw [e1,h,Int.zero_mul])⟩
  · rw [e3,e1] at s; exact Int.eq_of_mul_eq_mul_right h0 s
  · rw [e2,e1] at l; exact Int.eq_of_mul_eq_mul_right h0 l
theorem tc0 {x:Rat} {s:Int} {f g:List Rat} {l:List (List Rat)} (h:Qo (ev g x)=s) (hs:s≠0):tc x 0 (f::g::l)=(if Qo (ev f x)=-s then 1 else 0)+tc x s l:=by
  have hv:s=1∨s=-1:=by rcases Zd (ev g x) with ⟨e,_⟩ | ⟨e,_⟩ | ⟨e,_⟩ <;> omega
  have hg:Qo (ev g x)≠0:=by omega
  rw [tc]
  rcases Zd (ev f x) with ⟨e,_⟩ | ⟨e,_⟩ | ⟨e,_⟩ <;> rw [e] <;> rcases hv with rfl | rfl <;> simp [Dx hg,h]
theorem Qa9 {R x y e d:Rat} {p:List Rat} (hx:Qm x≤R) (hy:Qm y≤R) (hR:0≤R) (hxy:x<y) (h:y-x≤e) (hd:d≤Qm (dv p x)) (he:e*ddB R p<d):Qo (ev p y-ev p x)=Qo (dv p x):=by
  have h1:=Q5v p y x
  have h2:ev p y-ev p x=(y-x)*(dv p x+(y-x)*dd p y x):=by rw [h1]; grind
  have h3:=Zr (x:=y-x) (y:=dd p y x) (a:=e) (b:=ddB R p) (by rw [Y5]; constructor <;> grind) (Qwd hy hx p)
  have h4:=Yl (b:=dv p x+(y-x)*dd p y x) hd (by
    have:dv p x+(y-x)*dd p y x-dv p x=(y-x)*dd p y x:=by grind
    rw [this]; exact Rat.not_le.1 fun h=>absurd (Rat.le_trans h h3) (Rat.not_le.2 he))
  rw [h2,Jw,Xd.2 (show 0<y-x by grind),h4.1,Int.one_mul]
def Qt1 (f w:List Rat) (L:List (List Rat)) (x y:Rat):Prop :=
  (vv L x=vv L y∧Sm f x y∧Sm w x y)∨(vv L x=vv L y+1∧Yf f x≠0∧Yf f y=-Yf f x∧Qo (ev f x)=Yf f x∧(Qo (ev f y)=0∨Qo (ev f y)=-Yf f x))
theorem Qxg {R d:Rat} (hR:0≤R) (hd:0<d) {f w u:List Rat} (h:∀ t,ev f t=ev w t*ev u t):∃ e:Rat,0<e∧∀ x y,Qm x≤R→Qm y≤R→Qm (y-x)≤e→d≤Qm (ev f x)→Sm f x y∧Sm w x y:=by
  obtain ⟨ef,ef1,_,ef3⟩:=Zv (Vm hR f) hd
  obtain ⟨d1,d1p,_,d1b⟩:=Zv (S4 hR u) hd
  obtain ⟨ew,ew1,_,ew3⟩:=Zv (Vm hR w) d1p
  obtain ⟨e,ep,e1,e2⟩:=min2 ef1 ew1
  refine ⟨e,ep,fun x y hx hy hxy hf=>⟨?_,?_⟩⟩
  · have:=Yl hf (Yz hx hy hR (Rat.le_trans hxy e1) ef3)
    exact Qj8 this.1 this.2
  · have hw:d1≤Qm (ev w x):=by
      rcases Q7 d1 (Qm (ev w x)) with h' | h'
      · exact h'
      · have h5:=Zr (Rat.le_of_lt h') (E9 hx u)
        rw [←h] at h5
        exact absurd (Rat.le_trans hf h5) (Rat.not_le.2 d1b)
    have:=Yl hw (Yz hx hy hR (Rat.le_trans hxy e2) ew3)
    exact Qj8 this.1 this.2
theorem loc {R:Rat} (hR:0≤R) {f w u:List Rat} {L:List (List Rat)} (hc:Aw f L) (h:∀ t,ev f t=ev w t*ev u t):∃ e:Rat,0<e∧∀ x y,Qm x≤R→Qm y≤R→x<y→y-x≤e→Qt1 f w L x y:=by
  rcases hc with ⟨c,hc,hf,rfl⟩ | ⟨g,l,k,hk,hg,hc,rfl⟩
  · obtain ⟨e,ep,h1⟩:=Qxg hR (K7 hc) h
    refine ⟨e,ep,fun x y hx hy hxy he=>.inl ⟨?_,h1 x y hx hy (by rw [Y5]; constructor <;> grind) (by rw [hf]; exact Rat.le_refl)⟩⟩
    simp only [vv,tc,hf]
  · obtain ⟨d,e1,dp,e1p,h1⟩:=Q74 hR hc
    obtain ⟨e2,e2p,h2⟩:=Qxg hR dp h
    -- where f is small,its derivative is Qxg
    obtain ⟨d3,d3p,_,d3b⟩:=Zv (b:=k) (d:=d) (Rat.le_of_lt hk) dp
    obtain ⟨e3,e3p,_,e3b⟩:=Zv (O8 hR f) d3p
    obtain ⟨d4,d4p,_,d4b⟩:=Zv (b:=dqB R w+dqB R u) (d:=d3) (by have:=Vm hR w; have:=Vm hR u; grind) d3p
    obtain ⟨e4,e4p,_,e4b⟩:=Zv (Vm hR w) d4p
    obtain ⟨e5,e5p,_,e5b⟩:=Zv (Vm hR u) d4p
    obtain ⟨a1,a1p,a11,a12⟩:=min2 e1p e2p
    obtain ⟨a2,a2p,a21,a22⟩:=min2 e3p e4p
    obtain ⟨a3,a3p,a31,a32⟩:=min2 a1p a2p
    obtain ⟨e,ep,b1,b2⟩:=min2 a3p e5p
    refine ⟨e,ep,fun x y hx hy hxy he=>?_⟩
    have hab:Qm (y-x)≤e:=by rw [Y5]; clear h1 h2; constructor <;> grind
    have hab1:Qm (y-x)≤e1:=by clear h1 h2; grind
    have hab2:Qm (y-x)≤e2:=by clear h1 h2; grind
    obtain ⟨i1,i2,i3,i4,i5⟩:=h1 x y hx hy hab1
    rcases Q7 d (Qm (ev f x)) with hf | hf
    · obtain ⟨s1,s2⟩:=h2 x y hx hy hab2 hf
      obtain ⟨j1,j2⟩:=i2 hf
      refine .inl ⟨?_,s1,s2⟩
      have:=i4 j1 j2
      simp only [vv]
      rw [Dx (x:=x) (p:=f) j2,Dx (x:=y) (p:=f) (by rw [j1]; exact j2),j1,this]
    · have hg1:d≤Qm (ev g x):=by
        rcases i1 with i | i
        · exact absurd i (Rat.not_le.2 hf)
        · exact i
      obtain ⟨g1,g2⟩:=i3 hg1
      have i5:=i5 g1 g2
      have hD:d3≤Qm (dv f x):=by
        rcases Q7 d3 (Qm (dv f x)) with h' | h'
        · exact h'
        · have h5:=Zr (x:=k) (a:=k) (by unfold Qm; split <;> clear h1 h2 <;> grind) (Rat.le_of_lt h')
          rw [←hg] at h5
          have:k*d3=d3*k:=by grind
          exact absurd (Rat.le_trans hg1 h5) (Rat.not_le.2 (by rw [this]; exact d3b))
      have hm:=Qa9 hx hy hR hxy (by clear h1 h2; grind:y-x≤e3) hD e3b
      have s1:Qo (ev g x)=Qo (dv f x):=by rw [hg,Jw,Xd.2 hk,Int.one_mul]
      have s2:Qo (ev g y)=Qo (dv f y):=by rw [hg,Jw,Xd.2 hk,Int.one_mul]
      obtain ⟨s,hs⟩:∃ s,s=Qo (ev g x):=⟨_,rfl⟩
      rw [←hs] at g1 g2 i5 s1
      rw [g1] at s2
      have v1:=tc0 (f:=f) (l:=l) hs.symm g2
      have v2:=tc0 (f:=f) (l:=l) g1 g2
      rw [←i5] at v2
      rw [←s1] at hm
      have hw:Sm f x y→Sm w x y:=fun hf=>by
        rcases Q7 d4 (Qm (ev u x)) with hu | hu
        · have hu:=Yl hu (Yz hx hy hR (Rat.le_trans hab b2) e5b)
          exact Q8u h hu.1 hu.2 hf
        · have hw:d4≤Qm (ev w x):=by
            rcases Q7 d4 (Qm (ev w x)) with h' | h'
            · exact h'
            · have q1:=Zr (x:=dv w x) (y:=ev u x) (a:=dqB R w) (by rw [←Qe7]; exact Qif hx hx w) (Rat.le_of_lt hu)
              have q2:=Zr (x:=ev w x) (y:=dv u x) (b:=dqB R u) (Rat.le_of_lt h') (by rw [←Qe7]; exact Qif hx hx u)
              have q3:=Ju (dv w x*ev u x) (ev w x*dv u x)
              rw [←Te h] at q3
              have:d4*(dqB R w+dqB R u)=dqB R w*d4+d4*dqB R u:=by grind
              rw [this] at d4b
              exact absurd (Rat.le_trans hD (Rat.le_trans q3 (by clear h1 h2; grind:_≤dqB R w*d4+d4*dqB R u))) (Rat.not_le.2 d4b)
          have hw:=Yl hw (Yz hx hy hR (Rat.le_trans hab (by clear h1 h2; grind)) e4b)
          exact Qj8 hw.1 hw.2
      have lx:Yf f x=if Qo (ev f x)≠0 then Qo (ev f x) else s:=by rw [s1]; rfl
      have ly:Yf f y=if Qo (ev f y)≠0 then Qo (ev f y) else s:=by rw [s2]; rfl
      clear h1 h2 i1 i2 i3 i4
      have hsv:s=1∨s=-1:=by rcases Zd (ev g x) with ⟨e,_⟩ | ⟨e,_⟩ | ⟨e,_⟩ <;> omega
      unfold Qt1
      simp only [vv,v1,v2]
      rcases hsv with rfl | rfl
      · have hm:=Xd.1 hm
        rcases Zd (ev f x) with ⟨p1,p2⟩ | ⟨p1,p2⟩ | ⟨p1,p2⟩
        · rcases Zd (ev f y) with ⟨q1,q2⟩ | ⟨q1,q2⟩ | ⟨q1,q2⟩
          · rw [p1,q1]; have hsm:=Qj8 (p:=f) (x:=x) (y:=y) (by rw [p1,q1]) (by rw [p1]; decide)
            exact .inl ⟨rfl,hsm,hw hsm⟩
          · rw [lx,ly,p1,q1]; refine .inr ⟨by simp; omega,by decide,by decide,by decide,by decide⟩
          · rw [lx,ly,p1,q1]; refine .inr ⟨by simp; omega,by decide,by decide,by decide,by decide⟩
        · have q1:=Xd.2 (show 0<ev f y by grind)
          have hsm:Sm f x y:=⟨by rw [lx,q1,p1]; rfl,by rw [lx,ly,q1,p1]; rfl,by rw [lx,p1]; decide⟩
          rw [p1,q1]; exact .inl ⟨rfl,hsm,hw hsm⟩
        · have q1:=Xd.2 (show 0<ev f y by grind)
          have hsm:Sm f x y:=⟨by rw [lx,q1,p1]; rfl,by rw [lx,ly,q1,p1],by rw [lx,p1]; decide⟩
          rw [p1,q1]; exact .inl ⟨rfl,hsm,hw hsm⟩
      · have hm:=J5.1 hm
        rcases Zd (ev f x) with ⟨p1,p2⟩ | ⟨p1,p2⟩ | ⟨p1,p2⟩
        · have q1:=J5.2 (show ev f y<0 by grind)
          have hsm:Sm f x y:=⟨by rw [lx,q1,p1]; rfl,by rw [lx,ly,q1,p1],by rw [lx,p1]; decide⟩
          rw [p1,q1]; exact .inl ⟨rfl,hsm,hw hsm⟩
        · have q1:=J5.2 (show ev f y<0 by grind)
          have hsm:Sm f x y:=⟨by rw [lx,q1,p1]; rfl,by rw [lx,ly,q1,p1]; rfl,by rw [lx,p1]; decide⟩
          rw [p1,q1]; exact .inl ⟨rfl,hsm,hw hsm⟩
        · rcases Zd (ev f y) with ⟨q1,q2⟩ | ⟨q1,q2⟩ | ⟨q1,q2⟩
          · rw [lx,ly,p1,q1]; refine .inr ⟨by simp; omega,by decide,by decide,by decide,by decide⟩
          · rw [lx,ly,p1,q1]; refine .inr ⟨by simp; omega,by decide,by decide,by decide,by decide⟩
          · rw [p1,q1]; have hsm:=Qj8 (p:=f) (x:=x) (y:=y) (by rw [p1,q1]) (by rw [p1]; decide)
            exact .inl ⟨rfl,hsm,hw hsm⟩
end Orq

namespace Orq
theorem Zc3 (z:Rat):∃ n:Nat,z≤(n:Rat):=by
  refine ⟨z.ceil.toNat,?_⟩
  have h1:z≤(z.ceil:Rat):=Rat.le_ceil
  have h2:(z.ceil:Rat)≤((z.ceil.toNat:Int):Rat):=Rat.intCast_le_intCast.2 (Int.self_le_toNat _)
  exact Rat.le_trans h1 h2
theorem So {z e:Rat} (he:0<e):∃ n:Nat,z≤(n:Rat)*e:=by
  obtain ⟨n,hn⟩:=Zc3 (z / e)
  exact ⟨n,by have:=Rat.mul_le_mul_of_nonneg_right hn (Rat.le_of_lt he); rwa [Zt he] at this⟩
theorem Cu {R x y t:Rat} (hx:Qm x≤R) (hy:Qm y≤R) (h1:x≤t) (h2:t≤y):Qm t≤R:=by
  rw [Y5] at *; constructor <;> grind
def Qrm (f w:List Rat) (L:List (List Rat)) (x y:Rat):Prop :=
  vv L y≤vv L x∧(vv L x=vv L y→Sm f x y∧Sm w x y)∧(vv L x=vv L y+1→Yf f x≠0∧Yf f y=-Yf f x)
theorem Qpv {f w:List Rat} {L:List (List Rat)} {x y:Rat} (h:Qt1 f w L x y):Qrm f w L x y:=by
  rcases h with ⟨h1,h2,h3⟩ | ⟨h1,h2,h3,_⟩
  · exact ⟨by omega,fun _=>⟨h2,h3⟩,fun h=>by omega⟩
  · exact ⟨by omega,fun h=>by omega,fun _=>⟨h2,h3⟩⟩
theorem Qj9 {w:List Rat} {x y z:Rat} (h1:Sm w x y) (h2:Sm w y z):Sm w x z:=⟨by rw [h2.s,h1.l],by rw [h2.l,h1.l],h1.n⟩
theorem Qmd {f w:List Rat} {L:List (List Rat)} {x y z:Rat} (h:Qrm f w L x y) (h':Qrm f w L y z):Qrm f w L x z:=by
  obtain ⟨a1,a2,a3⟩:=h
  obtain ⟨b1,b2,b3⟩:=h'
  refine ⟨by omega,fun h=>?_,fun h=>?_⟩
  · obtain ⟨s1,s2⟩:=a2 (by omega)
    obtain ⟨s3,s4⟩:=b2 (by omega)
    exact ⟨Qj9 s1 s3,Qj9 s2 s4⟩
  · by_cases e:vv L x=vv L y
    · obtain ⟨s1,_⟩:=a2 e
      obtain ⟨s3,s4⟩:=b3 (by omega)
      exact ⟨s1.n,by rw [s4,s1.l]⟩
    · obtain ⟨s3,s4⟩:=a3 (by omega)
      obtain ⟨s1,_⟩:=b2 (by omega)
      exact ⟨s3,by rw [s1.l,s4]⟩
theorem Q7u {R:Rat} (hR:0≤R) {f w u:List Rat} {L:List (List Rat)} (hc:Aw f L) (h:∀ t,ev f t=ev w t*ev u t) {x y:Rat} (hx:Qm x≤R) (hy:Qm y≤R) (hxy:x<y):Qrm f w L x y:=by
  obtain ⟨e,ep,hl⟩:=loc hR hc h
  have key:∀ n:Nat,∀ x,Qm x≤R→x<y→y-x≤(n:Rat)*e→Qrm f w L x y:=by
    intro n
    induction n with
    | zero =>
     intro x hx hxy h; exfalso; have:((0:Nat):Rat)*e=0:=by simp
     grind
    |
     succ n ih =>
     intro x hx hxy hn
     rcases Q7 (y-x) e with h1 | h1
     · exact Qpv (hl x y hx hy hxy h1)
     · have hm:Qm (x+e)≤R:=Cu hx hy (by clear hl ih; grind) (by clear hl ih; grind)
       have hn':(((n+1:Nat):Rat))=(n:Rat)+1:=by push_cast; rfl
       refine Qmd (Qpv (hl x (x+e) hx hm (by clear hl ih; grind) (by clear hl ih; grind))) (ih (x+e) hm (by clear hl ih; grind) ?_)
       rw [hn'] at hn
       clear hl ih; grind
  obtain ⟨n,hn⟩:=So (z:=y-x) ep
  exact key n x hx hxy hn
theorem Qek (x y:Rat):∃ R:Rat,0≤R∧Qm x≤R∧Qm y≤R:=by
  refine ⟨Qm x+Qm y,?_,?_,?_⟩ <;> (have:=Xc x; have:=Xc y; grind)
theorem X7 (t:Rat):ev [1] t=1:=by simp only [ev]; grind
theorem Gk {f:List Rat} {L:List (List Rat)} (hc:Aw f L) {x y:Rat} (hxy:x<y):vv L y≤vv L x:=by
  obtain ⟨R,hR,hx,hy⟩:=Qek x y
  exact (Q7u hR hc (w:=f) (u:=[1]) (fun t=>by rw [X7]; grind) hx hy hxy).1
theorem Nn {f w u:List Rat} {L:List (List Rat)} (hc:Aw f L) (h:∀ t,ev f t=ev w t*ev u t) {x y:Rat} (hxy:x<y) (he:vv L x=vv L y):Sm w x y:=by
  obtain ⟨R,hR,hx,hy⟩:=Qek x y
  exact ((Q7u hR hc h hx hy hxy).2.1 he).2
theorem Qg8 {f:List Rat} {L:List (List Rat)} (hc:Aw f L) {x y:Rat} (hxy:x<y) (he:vv L x=vv L y):Sm f x y :=
  Nn hc (w:=f) (u:=[1]) (fun t=>by rw [X7]; grind) hxy he
theorem Qg7 {f:List Rat} {L:List (List Rat)} (hc:Aw f L) {x y:Rat} (hxy:x<y) (he:vv L x=vv L y+1):Yf f x≠0∧Yf f y=-Yf f x:=by
  obtain ⟨R,hR,hx,hy⟩:=Qek x y
  exact (Q7u hR hc (w:=f) (u:=[1]) (fun t=>by rw [X7]; grind) hx hy hxy).2.2 he
theorem Q0q {f:List Rat} {L:List (List Rat)} (hc:Aw f L) (R:Rat) (hR:0≤R):∃ e:Rat,0<e∧∀ x y,Qm x≤R→Qm y≤R→x<y→y-x≤e→vv L x≤vv L y+1:=by
  obtain ⟨e,ep,hl⟩:=loc hR hc (w:=f) (u:=[1]) (fun t=>by rw [X7]; grind)
  refine ⟨e,ep,fun x y hx hy hxy he=>?_⟩
  rcases hl x y hx hy hxy he with ⟨h,_⟩ | ⟨h,_⟩ <;> omega
theorem Na {p:List Rat} {x:Rat} (h:Qo (ev p x)≠0):∃ e:Rat,0<e∧∀ y,Qm (y-x)≤e→Qo (ev p y)=Qo (ev p x):=by
  have hd:=K7 (x:=ev p x) fun h0=>h (Zf.2 h0)
  have hR:0≤Qm x+1:=by have:=Xc x; grind
  obtain ⟨e,e1,e2,e3⟩:=Zv (Vm hR p) hd
  refine ⟨e,e1,fun y hy=>(Yl Rat.le_refl (Yz (x:=x) (by grind) ?_ hR hy e3)).1⟩
  have:=Ju (y-x) x
  have e:y-x+x=y:=by grind
  rw [e] at this; grind
theorem Q56 {R M:Rat} {p:List Rat} (hM:M=ddB R p) (hR:0≤R) {h:Rat} (hh:0<h):∀ (n:Nat) (x:Rat),Qm x≤R→Qm (x+(n:Rat)*h)≤R→(∀ t,x≤t→t≤x+(n:Rat)*h→0≤dv p t)→ev p x-(n:Rat)*(h*h*M)≤ev p (x+(n:Rat)*h)
  |
   0,x,_,_,_=>by
   have e1:x+((0:Nat):Rat)*h=x:=by rw [show ((0:Nat):Rat)=0 from rfl]; grind
   have e2:((0:Nat):Rat)*(h*h*M)=0:=by simp
   rw [e1,e2]; grind
  |
   n+1,x,hx,hy,hd=>by
   have hn':(((n+1:Nat):Rat))=(n:Rat)+1:=by push_cast; rfl
   rw [hn'] at hy hd ⊢
   have hn0:(0:Rat)≤(n:Rat):=Rat.natCast_nonneg
   have hnh:=V5 hn0 (Rat.le_of_lt hh)
   have e1:x+((n:Rat)+1)*h=(x+h)+(n:Rat)*h:=by grind
   rw [e1] at hy hd ⊢
   have hxh:Qm (x+h)≤R:=Cu hx hy (by clear hd; grind) (by clear hd; grind)
   have ih:=Q56 hM hR hh n (x+h) hxh hy fun t h1 h2=>hd t (by clear hd; grind) h2
   have h0:=hd x Rat.le_refl (by clear hd; grind)
   have h1:=Q5v p (x+h) x
   have h2:=Qwd hxh hx p
   rw [←hM,Y5] at h2
   have h3:=Rat.mul_le_mul_of_nonneg_left h2.1 (V5 (Rat.le_of_lt hh) (Rat.le_of_lt hh))
   have h4:=V5 (Rat.le_of_lt hh) h0
   have e2:x+h-x=h:=by grind
   rw [e2] at h1
   clear hd hx hy hxh
   grind
theorem Za0 {p:List Rat} {x y:Rat} (hxy:x<y) (hd:∀ t,x≤t→t≤y→0≤dv p t):ev p x≤ev p y:=by
  obtain ⟨R,hR,hx,hy⟩:=Qek x y
  rcases Q7 (ev p x) (ev p y) with h | h
  · exact h
  · exfalso
    obtain ⟨M,hM⟩:∃ M,M=ddB R p:=⟨_,rfl⟩
    have hM0:=O8 hR p
    rw [←hM] at hM0
    obtain ⟨e,ep,_,he⟩:=Zv (b:=(y-x)*M) (d:=ev p x-ev p y) (V5 (by grind) hM0) (by grind)
    obtain ⟨n,hn⟩:=So (z:=y-x) ep
    have hn0:0<(n:Rat):=by
      rcases Q7 (n:Rat) 0 with h' | h'
      · have:=Rat.mul_le_mul_of_nonneg_right h' (Rat.le_of_lt ep); clear hd; grind
      · exact h'
    have hh:0<(y-x) / n:=Fu (by grind) hn0
    have e1:(n:Rat)*((y-x) / n)=y-x:=by rw [Rat.mul_comm]; exact Zt hn0
    have e2:x+(n:Rat)*((y-x) / n)=y:=by rw [e1]; grind
    have h1:=Q56 hM hR hh n x hx (by rw [e2]; exact hy) (by rw [e2]; exact hd)
    rw [e2] at h1
    have h2:(y-x) / n≤e:=by
      rcases Q7 ((y-x) / n) e with h' | h'
      · exact h'
      · have:=Rat.mul_lt_mul_of_pos_left h' hn0; clear hd; grind
    have h3:(n:Rat)*((y-x) / n*((y-x) / n)*M)=((y-x) / n)*((y-x)*M):=by
      have:(n:Rat)*((y-x) / n*((y-x) / n)*M)=((n:Rat)*((y-x) / n))*(((y-x) / n)*M):=by grind
      rw [this,e1]; grind
    have h4:=Rat.mul_le_mul_of_nonneg_right h2 (V5 (x:=y-x) (y:=M) (by grind) hM0)
    rw [h3] at h1
    clear hd; grind
theorem Q4b {p:List Rat} {x y:Rat} (hxy:x<y) (hd:∀ t,x≤t→t≤y→0<dv p t):ev p x<ev p y:=by
  have hx:=hd x Rat.le_refl (by grind)
  have hR:0≤Qm x+1:=by have:=Xc x; grind
  obtain ⟨e,e1,e2,e3⟩:=Zv (O8 hR p) hx
  obtain ⟨f,f1,f2,f3⟩:=min2 (a:=e) (b:=y-x) e1 (by grind)
  have hq:Qm (x+f)≤Qm x+1:=by
   have:=Ju x f; have:Qm f=f:=by unfold Qm; split <;> grind
   clear hd; grind
  have h1:=Qa9 (p:=p) (x:=x) (y:=x+f) (R:=Qm x+1) (e:=e) (d:=dv p x) (by clear hd; grind) hq hR (by grind) (by grind) (by unfold Qm; split <;> clear hd <;> grind) e3
  rw [Xd.2 hx,Xd] at h1
  rcases Classical.em (x+f=y) with e | e
  · rw [←e]; clear hd; grind
  · have:=Za0 (p:=p) (x:=x+f) (y:=y) (by clear hd; grind) fun t h1 h2=>Rat.le_of_lt (hd t (by clear hd; grind) h2)
    clear hd; grind
end Orq

namespace Orq
structure Cut (c:Rat→Int):Prop where
  val:∀ q,c q=1∨c q=0∨c q=-1
  mono:∀ q r,q<r→c q≠1→c r=-1
  up:∀ q,c q=1→∃ r,q<r∧c r=1
  dn:∀ q,c q=-1→∃ r,r<q∧c r=-1
  lo:∃ q,c q=1
  hi:∃ q,c q=-1
theorem Cut.mono' {c:Rat→Int} (h:Cut c) {q r:Rat} (hqr:q<r) (hr:c r≠-1):c q=1:=by
  rcases Classical.em (c q=1) with e | e
  · exact e
  · exact absurd (h.mono q r hqr e) hr
theorem Cut.lt {c:Rat→Int} (h:Cut c) {q r:Rat} (hq:c q=1) (hr:c r=-1):q<r:=by
  rcases Q7 r q with e | e
  · rcases Classical.em (r=q) with e' | e'
    · rw [e'] at hr; omega
    · have:=h.mono r q (by grind) (by omega); omega
  · exact e
theorem Cut.near {c:Rat→Int} (h:Cut c) {e:Rat} (he:0<e):∃ x y,c x=1∧c y=-1∧y-x≤e:=by
  obtain ⟨a,ha⟩:=h.lo
  obtain ⟨b,hb⟩:=h.hi
  have he2:0<e / 2:=Fu he (by decide)
  have h2:e / 2*2=e:=Zt (by decide)
  have key:∀ (n:Nat) (a:Rat),c a=1→b-a≤(n:Rat)*(e / 2)→∃ x y,c x=1∧c y=-1∧y-x≤e:=by
    intro n
    induction n with
    |
     zero =>
     intro a ha hn
     have:=h.lt ha hb
     rw [show ((0:Nat):Rat)=0 from rfl] at hn
     exfalso; grind
    |
     succ n ih =>
     intro a ha hn
     have hn':(((n+1:Nat):Rat))=(n:Rat)+1:=by push_cast; rfl
     rw [hn'] at hn
     rcases h.val (a+e / 2) with h1 | h1 | h1
     · exact ih _ h1 (by grind)
     · exact ⟨a,a+e,ha,h.mono (a+e / 2) _ (by grind) (by omega),by grind⟩
     · exact ⟨a,a+e / 2,ha,h1,by grind⟩
  obtain ⟨n,hn⟩:=So (z:=b-a) he2
  exact key n a ha hn
def Hm (p:List Rat) (c:Rat→Int):Prop:=∀ d:Rat,0<d→∃ x y,c x=1∧c y=-1∧∀ q,x≤q→q≤y→Qm (ev p q)<d
def NZ (p:List Rat) (c:Rat→Int) (s:Int):Prop:=∃ d:Rat,0<d∧∃ x y,c x=1∧c y=-1∧∀ q,x≤q→q≤y→Qo (ev p q)=s∧d≤Qm (ev p q)
def Nr (c:Rat→Int) (P:Rat→Prop):Prop:=∃ x y,c x=1∧c y=-1∧∀ q,x≤q→q≤y→P q
theorem Qmh {c:Rat→Int} {P Q:Rat→Prop} (h1:Nr c P) (h2:Nr c Q):Nr c fun q=>P q∧Q q:=by
  obtain ⟨x,y,a1,a2,a3⟩:=h1
  obtain ⟨x',y',b1,b2,b3⟩:=h2
  refine ⟨if x≤x' then x' else x,if y≤y' then y else y',by split <;> assumption,by split <;> assumption,fun q q1 q2=>⟨a3 q ?_ ?_,b3 q ?_ ?_⟩⟩ <;> clear a3 b3 <;> grind
theorem Iv {c:Rat→Int} {P Q:Rat→Prop} (h1:Nr c P) (h:∀ q,P q→Q q):Nr c Q:=by
  obtain ⟨x,y,a1,a2,a3⟩:=h1
  exact ⟨x,y,a1,a2,fun q q1 q2=>h q (a3 q q1 q2)⟩
theorem Qja {c:Rat→Int} (hc:Cut c) {P:Rat→Prop} (h1:Nr c P):∃ q,P q∧c q=1:=by
  obtain ⟨x,y,a1,a2,a3⟩:=h1
  exact ⟨x,a3 x Rat.le_refl (Rat.le_of_lt (hc.lt a1 a2)),a1⟩
theorem Qx9 {c:Rat→Int} (hc:Cut c) {e:Rat} (he:0<e) {P:Rat→Prop} (h1:Nr c P):∃ x y,c x=1∧c y=-1∧y-x≤e∧x<y∧∀ q,x≤q→q≤y→P q:=by
  obtain ⟨x,y,a1,a2,a3⟩:=h1
  obtain ⟨x',y',b1,b2,b3⟩:=hc.near he
  refine ⟨if x≤x' then x' else x,if y≤y' then y else y',by split <;> assumption,by split <;> assumption,by clear a3; grind,hc.lt (by split <;> assumption) (by split <;> assumption),fun q q1 q2=>a3 q ?_ ?_⟩ <;> clear a3 <;> grind
theorem Q54 {c:Rat→Int} (hc:Cut c):∃ R:Rat,0≤R∧Nr c fun q=>Qm q≤R:=by
  obtain ⟨x,y,a1,a2,_⟩:=hc.near (e:=1) (by decide)
  obtain ⟨R,hR,h1,h2⟩:=Qek x y
  exact ⟨R,hR,x,y,a1,a2,fun q q1 q2=>Cu h1 h2 q1 q2⟩
theorem Mb {c:Rat→Int} (hc:Cut c) (p:List Rat):Hm p c∨∃ s,s≠0∧NZ p c s:=by
  rcases Classical.em (Hm p c) with h | h
  · exact .inl h
  · refine .inr ?_
    obtain ⟨d,hd0⟩:=Classical.not_forall.1 h
    obtain ⟨dp,hd⟩:=Classical.not_imp.1 hd0
    have hd:∀ x y,c x=1→c y=-1→∃ q,x≤q∧q≤y∧d≤Qm (ev p q):=fun x y hx hy=>by
      rcases Classical.em (∃ q,x≤q∧q≤y∧d≤Qm (ev p q)) with h' | h'
      · exact h'
      · refine absurd ⟨x,y,hx,hy,fun q h1 h2=>?_⟩ hd
        rcases Q7 d (Qm (ev p q)) with h3 | h3
        · exact absurd ⟨q,h1,h2,h3⟩ h'
        · exact h3
    obtain ⟨R,hR,hn⟩:=Q54 hc
    have hd2:0<d / 2:=Fu dp (by decide)
    have h2:d / 2*2=d:=Zt (by decide)
    obtain ⟨e,e1,_,e3⟩:=Zv (Vm hR p) hd2
    obtain ⟨x,y,hx,hy,hxy,_,hq⟩:=Qx9 hc e1 hn
    obtain ⟨r,r1,r2,r3⟩:=hd x y hx hy
    have key:∀ q,x≤q→q≤y→Qm (ev p q-ev p r)<d / 2:=fun q q1 q2 =>
      Yz (hq r r1 r2) (hq q q1 q2) hR (by rw [Y5]; clear hq hd; constructor <;> grind) e3
    refine ⟨Qo (ev p r),fun h0=>?_,d / 2,hd2,x,y,hx,hy,fun q q1 q2=>⟨(Yl (d:=d) r3 ?_).1,?_⟩⟩
    · rw [Zf.1 h0,Xt] at r3; clear hq hd key; grind
    · have:=key q q1 q2; clear hq hd key; grind
    · have h3:=key q q1 q2
      have h4:=Ju (ev p r-ev p q) (ev p q)
      rw [show ev p r-ev p q+ev p q=ev p r from by clear hq hd key; grind,Qqt] at h4
      clear hq hd key; grind
theorem Q89 {c:Rat→Int} (hc:Cut c) {p:List Rat} {s:Int} (h1:Hm p c) (h2:NZ p c s):False:=by
  obtain ⟨d,dp,h2⟩:=h2
  obtain ⟨q,⟨a,b⟩,_⟩:=Qja hc (Qmh (h1 d dp) h2)
  exact absurd b.2 (Rat.not_le.2 a)
theorem Yq {c:Rat→Int} (hc:Cut c) {f p q:List Rat} (hf:∀ t,ev f t=ev p t*ev q t) (h:Hm p c):Hm f c:=by
  intro d dp
  obtain ⟨R,hR,hn⟩:=Q54 hc
  obtain ⟨e,e1,_,e3⟩:=Zv (S4 hR q) dp
  refine Iv (Qmh hn (h e e1)) fun t ⟨h1,h2⟩=>?_
  rw [hf]
  have:=Zr (Rat.le_of_lt h2) (E9 h1 q)
  exact Rat.not_le.1 fun h=>absurd (Rat.le_trans h this) (Rat.not_le.2 e3)
theorem Oc {c:Rat→Int} {f p q:List Rat} (hf:∀ t,ev f t=ev p t+ev q t) (h:Hm p c) (h':Hm q c):Hm f c:=by
  intro d dp
  have hd2:0<d / 2:=Fu dp (by decide)
  have h2:d / 2*2=d:=Zt (by decide)
  refine Iv (Qmh (h _ hd2) (h' _ hd2)) fun t ⟨h1,h2⟩=>?_
  rw [hf]
  have:=Ju (ev p t) (ev q t)
  grind
def RS (p:List Rat) (c:Rat→Int) (s:Int):Prop:=∃ y,c y=-1∧∀ q,c q=-1→q≤y→Qo (ev p q)=s
def LS (p:List Rat) (c:Rat→Int) (s:Int):Prop:=∃ x,c x=1∧∀ q,c q=1→x≤q→Qo (ev p q)=s
theorem Qd2 {c:Rat→Int} (hc:Cut c) {p:List Rat} {s:Int} (h:NZ p c s):RS p c s:=by
  obtain ⟨d,dp,x,y,a1,a2,a3⟩:=h
  exact ⟨y,a2,fun q h1 h2=>(a3 q (Rat.le_of_lt (hc.lt a1 h1)) h2).1⟩
theorem Qpy {c:Rat→Int} (hc:Cut c) {p:List Rat} {s:Int} (h:NZ p c s):LS p c s:=by
  obtain ⟨d,dp,x,y,a1,a2,a3⟩:=h
  exact ⟨x,a1,fun q h1 h2=>(a3 q h2 (Rat.le_of_lt (hc.lt h1 a2))).1⟩
theorem Dn {c:Rat→Int} {p:List Rat} {s s':Int} (h:RS p c s) (h':RS p c s'):s=s':=by
  obtain ⟨y,a1,a2⟩:=h
  obtain ⟨y',b1,b2⟩:=h'
  rcases Q7 y y' with e | e
  · rw [←a2 y a1 Rat.le_refl,←b2 y a1 e]
  · rw [←a2 y' b1 (Rat.le_of_lt e),←b2 y' b1 Rat.le_refl]
theorem Q59 {c:Rat→Int} (hc:Cut c) {p:List Rat} (hv:Hm p c) {y:Rat} (hy:c y=-1) (h:∀ q,c q=-1→q≤y→0<dv p q) (q:Rat) (hq:c q=-1) (hqy:q≤y):0<ev p q:=by
  rcases Q7 (ev p q) 0 with h0 | h0
  · exfalso
    obtain ⟨r,r1,r2⟩:=hc.dn q hq
    have hr:ev p r<ev p q:=Q4b r1 fun t t1 t2=>h t (by
      rcases Classical.em (r=t) with e | e
      · rw [←e]; exact r2
      · exact hc.mono r t (by clear h; grind) (by omega)) (Rat.le_trans t2 hqy)
    obtain ⟨a,b,ha,hb,hab⟩:=hv (-ev p r) (by clear h; grind)
    obtain ⟨m,hm1,hm2,hm3⟩:∃ m,c m=-1∧m≤b∧m≤r:=by
      rcases Q7 b r with e | e
      · exact ⟨b,hb,Rat.le_refl,e⟩
      · exact ⟨r,r2,Rat.le_of_lt e,Rat.le_refl⟩
    have h1:=hab m (Rat.le_of_lt (hc.lt ha hm1)) hm2
    have h2:ev p m≤ev p r:=by
      rcases Classical.em (m=r) with e | e
      · rw [e]; exact Rat.le_refl
      · exact Rat.le_of_lt (Q4b (by clear h hab; grind) fun t t1 t2=>h t (by
          rcases Classical.em (m=t) with e | e
          · rw [←e]; exact hm1
          · exact hc.mono m t (by clear h hab; grind) (by omega)) (by clear h hab; grind))
    rw [Qgf] at h1
    clear h hab; grind
  · exact h0
theorem Qgm {c:Rat→Int} (hc:Cut c) {p:List Rat} {s:Int} (hv:Hm p c) (h:RS (V6 p) c s) (hs:s≠0):RS p c s:=by
  obtain ⟨y,hy,h⟩:=h
  have hsv:s=1∨s=-1:=by
    have:=h y hy Rat.le_refl
    rcases Zd (ev (V6 p) y) with ⟨e,_⟩ | ⟨e,_⟩ | ⟨e,_⟩ <;> omega
  rcases hsv with rfl | rfl
  · refine ⟨y,hy,fun q h1 h2=>Xd.2 (Q59 hc hv hy (fun q h1 h2=>?_) q h1 h2)⟩
    rw [←Jd]; exact Xd.1 (h q h1 h2)
  · refine ⟨y,hy,fun q h1 h2=>J5.2 ?_⟩
    have:=Q59 hc (p:=Uc (-1) p) (y:=y) (fun d dp=>Iv (hv d dp) fun q hq=>by rw [Zb,show -1*ev p q=-ev p q by grind,U9]; exact hq) hy (fun q h1 h2=>by
      rw [Lp,←Jd]
      have:=J5.1 (h q h1 h2); grind) q h1 h2
    rw [Zb] at this; grind
end Orq

namespace Orq
theorem Q51 {c:Rat→Int} (hc:Cut c) {p:List Rat} (hv:Hm p c) {x:Rat} (hx:c x=1) (h:∀ q,c q=1→x≤q→0<dv p q) (q:Rat) (hq:c q=1) (hxq:x≤q):ev p q<0:=by
  rcases Q7 0 (ev p q) with h0 | h0
  · exfalso
    obtain ⟨r,r1,r2⟩:=hc.up q hq
    have hr:ev p q<ev p r:=Q4b r1 fun t t1 t2=>h t (by
      rcases Classical.em (t=r) with e | e
      · rw [e]; exact r2
      · exact hc.mono' (q:=t) (r:=r) (by clear h; grind) (by omega)) (Rat.le_trans hxq t1)
    obtain ⟨a,b,ha,hb,hab⟩:=hv (ev p r) (by clear h; grind)
    obtain ⟨m,hm1,hm2,hm3⟩:∃ m,c m=1∧a≤m∧r≤m:=by
      rcases Q7 a r with e | e
      · exact ⟨r,r2,e,Rat.le_refl⟩
      · exact ⟨a,ha,Rat.le_refl,Rat.le_of_lt e⟩
    have h1:=hab m hm2 (Rat.le_of_lt (hc.lt hm1 hb))
    have h2:ev p r≤ev p m:=by
      rcases Classical.em (r=m) with e | e
      · rw [e]; exact Rat.le_refl
      · exact Rat.le_of_lt (Q4b (by clear h hab; grind) fun t t1 t2=>h t (by
          rcases Classical.em (t=m) with e | e
          · rw [e]; exact hm1
          · exact hc.mono' (q:=t) (r:=m) (by clear h hab; grind) (by omega)) (by clear h hab; grind))
    rw [Qgf] at h1
    clear h hab; grind
  · exact h0
theorem Qxw {c:Rat→Int} (hc:Cut c) {p:List Rat} {s:Int} (hv:Hm p c) (h:LS (V6 p) c s) (hs:s≠0):LS p c (-s):=by
  obtain ⟨x,hx,h⟩:=h
  have hsv:s=1∨s=-1:=by
    have:=h x hx Rat.le_refl
    rcases Zd (ev (V6 p) x) with ⟨e,_⟩ | ⟨e,_⟩ | ⟨e,_⟩ <;> omega
  rcases hsv with rfl | rfl
  · refine ⟨x,hx,fun q h1 h2=>J5.2 (Q51 hc hv hx (fun q h1 h2=>?_) q h1 h2)⟩
    rw [←Jd]; exact Xd.1 (h q h1 h2)
  · refine ⟨x,hx,fun q h1 h2=>Xd.2 ?_⟩
    have:=Q51 hc (p:=Uc (-1) p) (x:=x) (fun d dp=>Iv (hv d dp) fun q hq=>by rw [Zb,show -1*ev p q=-ev p q by grind,U9]; exact hq) hx (fun q h1 h2=>by
      rw [Lp,←Jd]
      have:=J5.1 (h q h1 h2); grind) q h1 h2
    rw [Zb] at this; grind
theorem Q4h {c:Rat→Int} (hc:Cut c) {f g:List Rat} {l:List (List Rat)} (h:SCl f g l):Hm f c→Hm g c→False:=by
  induction h with
  |
   @base f g k hk hg =>
   intro _ hv
   obtain ⟨q,hq,_⟩:=Qja hc (hv (Qm k) (K7 hk))
   rw [hg] at hq; grind
  |
   @step f g h l a b q ha hb he hl ih =>
   intro hf hg
   refine ih hg ?_
   have h1:Hm (Zo q g) c:=Yq hc (p:=g) (q:=q) (fun t=>by rw [Qk]; grind) hg
   have h2:Hm (Uc (-a) f) c:=Yq hc (p:=f) (q:=[-a]) (fun t=>by rw [Zb]; simp only [ev]; grind) hf
   have h3:Hm (Jv (Zo q g) (Uc (-a) f)) c:=Oc (fun t=>Zl t _ _) h1 h2
   refine Yq hc (p:=Jv (Zo q g) (Uc (-a) f)) (q:=[1 / b]) (fun t=>?_) h3
   have:=he t
   rw [Zl,Qk,Zb]
   simp only [ev]
   have hbb:1 / b*b=1:=Zt hb
   have:ev q t*ev g t+-a*ev f t=b*ev h t:=by rw [show -a*ev f t=-(a*ev f t) by grind,he t]; grind
   rw [this]
   have:b*ev h t*(1 / b+t*0)=ev h t*(1 / b*b):=by grind
   rw [this,hbb]; grind
theorem Qei {c:Rat→Int} (hc:Cut c) {f g:List Rat} {k:Rat} (h:∀ t,ev g t=k*ev f t) (hv:Hm f c):Hm g c :=
  Yq hc (p:=f) (q:=[k]) (fun t=>by rw [h]; simp only [ev]; grind) hv
theorem Q4r {c:Rat→Int} (hc:Cut c) {f:List Rat} {L:List (List Rat)} (h:Aw f L) (hv:Hm f c):∃ s,s≠0∧NZ (V6 f) c s:=by
  rcases Mb hc (V6 f) with h1 | h1
  · exfalso
    rcases h with ⟨k,hk,hf,_⟩ | ⟨g,l,k,hk,hg,h,_⟩
    · obtain ⟨q,hq,_⟩:=Qja hc (hv (Qm k) (K7 hk))
      rw [hf] at hq; grind
    · exact Q4h hc h hv (Qei hc (fun t=>by rw [hg,Jd]) h1)
  · exact h1
theorem Qo2 {c:Rat→Int} (hc:Cut c) {f w u:List Rat} {L:List (List Rat)} (h:Aw f L) (hf:∀ t,ev f t=ev w t*ev u t) (hv:Hm w c):∃ s,s≠0∧NZ (V6 w) c s:=by
  rcases Mb hc (V6 w) with h1 | h1
  · exfalso
    obtain ⟨s,_,hs⟩:=Q4r hc h (Yq hc hf hv)
    refine Q89 hc ?_ hs
    have a1:Hm (Zo (V6 w) u) c:=Yq hc (fun t=>Qk t _ _) h1
    have a2:Hm (Zo w (V6 u)) c:=Yq hc (fun t=>Qk t _ _) hv
    refine Oc (fun t=>?_) a1 a2
    rw [Jd,Te hf,Qk,Qk,Jd,Jd]
  · exact h1
theorem Qwa {c:Rat→Int} (hc:Cut c) {q:Rat} (h:c q=0) {x y:Rat} (hx:c x=1) (hy:c y=-1):x≤q∧q≤y:=by
  constructor
  · rcases Q7 x q with e | e
    · exact e
    · have:=hc.mono q x e (by omega); omega
  · rcases Q7 q y with e | e
    · exact e
    · have:=hc.mono y q e (by omega); omega
theorem Ey {c:Rat→Int} (hc:Cut c) {p:List Rat} {q:Rat} (h:c q=0) (hv:Hm p c):ev p q=0:=by
  rcases Classical.em (ev p q=0) with e | e
  · exact e
  · obtain ⟨x,y,hx,hy,hq⟩:=hv _ (K7 e)
    obtain ⟨h1,h2⟩:=Qwa hc h hx hy
    have:=hq q h1 h2; grind
theorem Qjd {c:Rat→Int} (hc:Cut c) {p:List Rat} {q:Rat} {s:Int} (h:c q=0) (hv:NZ p c s):Qo (ev p q)=s:=by
  obtain ⟨d,dp,x,y,hx,hy,hq⟩:=hv
  obtain ⟨h1,h2⟩:=Qwa hc h hx hy
  exact (hq q h1 h2).1
theorem Qls {c:Rat→Int} (hc:Cut c) {y z:Rat} (hy:c y=-1) (hz:c z=-1):∃ q,c q=-1∧q<y∧q<z:=by
  obtain ⟨a,a1,a2⟩:=hc.dn y hy
  obtain ⟨b,b1,b2⟩:=hc.dn z hz
  rcases Q7 a b with e | e
  · exact ⟨a,a2,a1,by grind⟩
  · exact ⟨b,b2,by grind,b1⟩
theorem O5 {c:Rat→Int} (hc:Cut c) {y z:Rat} (hy:c y=1) (hz:c z=1):∃ q,c q=1∧y<q∧z<q:=by
  obtain ⟨a,a1,a2⟩:=hc.up y hy
  obtain ⟨b,b1,b2⟩:=hc.up z hz
  rcases Q7 a b with e | e
  · exact ⟨b,b2,by grind,b1⟩
  · exact ⟨a,a2,a1,by grind⟩
theorem Qx8 {f w u:List Rat} {L:List (List Rat)} (h:Aw f L) (hf:∀ t,ev f t=ev w t*ev u t) {x y:Rat} (hv:vv L x=vv L y) {c:Rat→Int} (hc:Cut c) (hx:c x=1) (hy:c y≠1):¬Hm w c:=fun hw=>by
  have hxy:x<y:=by
    rcases Q7 y x with e | e
    · rcases Classical.em (y=x) with e' | e'
      · rw [e'] at hy; exact absurd hx hy
      · have:=hc.mono y x (by grind) hy; omega
    · exact e
  have hwv:=Nn h hf hxy hv
  rcases hc.val y with e | e | e
  · exact hy e
  · have:=Ey hc e hw
    have:=hwv.s
    rw [Zf.2 (by assumption)] at this
    exact hwv.n this.symm
  · obtain ⟨s,hs,hd⟩:=Qo2 hc h hf hw
    obtain ⟨a,ha,hal⟩:=Qxw hc hw (Qpy hc hd) hs
    obtain ⟨b,hb,hbr⟩:=Qgm hc hw (Qd2 hc hd) hs
    obtain ⟨q,q1,q2,q3⟩:=O5 hc hx ha
    obtain ⟨r,r1,r2,r3⟩:=Qls hc hb e
    have e1:=hal q q1 (Rat.le_of_lt q3)
    have e2:=hbr r r1 (Rat.le_of_lt r2)
    have hqr:=hc.lt q1 r1
    have v1:vv L q≤vv L x:=Gk h q2
    have v2:vv L y≤vv L r:=Gk h r3
    have v3:vv L r≤vv L q:=Gk h hqr
    have s1:=(Nn h hf q2 (by omega)).s
    have s2:=(Nn h hf (x:=x) (y:=r) (by grind) (by omega)).s
    omega
theorem Qg0 {f:List Rat} {L:List (List Rat)} (h:Aw f L) {x y:Rat} (hxy:x<y) (hv:vv L x≠vv L y) {d:Rat} (dp:0<d):∃ q,x≤q∧q≤y∧Qm (ev f q)<d:=by
  obtain ⟨R,hR,hx,hy⟩:=Qek x y
  obtain ⟨e1,e1p,hl⟩:=loc hR h (w:=f) (u:=[1]) (fun t=>by rw [X7]; grind)
  obtain ⟨e2,e2p,_,e2b⟩:=Zv (Vm hR f) dp
  obtain ⟨e,ep,h1,h2⟩:=min2 e1p e2p
  have key:∀ n:Nat,∀ x,Qm x≤R→x<y→vv L x≠vv L y→y-x≤(n:Rat)*e→∃ q,x≤q∧q≤y∧Qm (ev f q)<d:=by
    intro n
    induction n with
    | zero=>intro x hx hxy _ hn; rw [show ((0:Nat):Rat)=0 from rfl] at hn; exfalso; clear hl; grind
    |
     succ n ih =>
     intro x hx hxy hv hn
     have hstep:∀ z,Qm z≤R→x<z→z-x≤e→vv L x≠vv L z→Qm (ev f z)<d:=fun z hz hxz hze hv=>by
       rcases hl x z hx hz hxz (Rat.le_trans hze h1) with ⟨p,_⟩ | ⟨_,p1,p2,p3,p4⟩
       · exact absurd p hv
       · have hd:=Yz (p:=f) hx hz hR (e:=e2) (d:=d) (by rw [Y5]; clear hl ih; constructor <;> grind) e2b
         rw [←p3] at p1 p4
         clear hl ih p2 p3
         rw [Qgf] at *
         rcases Zd (ev f x) with ⟨a,a'⟩ | ⟨a,a'⟩ | ⟨a,a'⟩ <;> rcases Zd (ev f z) with ⟨b,b'⟩ | ⟨b,b'⟩ | ⟨b,b'⟩ <;> rw [a,b] at p4 <;> first | (exfalso; revert p4; decide) | skip
         all_goals first | (constructor <;> grind) | (exfalso; omega)
     rcases Q7 (y-x) e with h3 | h3
     · exact ⟨y,Rat.le_of_lt hxy,Rat.le_refl,hstep y hy hxy h3 hv⟩
     · have hm:Qm (x+e)≤R:=Cu hx hy (by clear hl ih hstep; grind) (by clear hl ih hstep; grind)
       rcases Classical.em (vv L x=vv L (x+e)) with e0 | e0
       · have hn':(((n+1:Nat):Rat))=(n:Rat)+1:=by push_cast; rfl
         rw [hn'] at hn
         obtain ⟨q,q1,q2,q3⟩:=ih (x+e) hm (by clear hl ih hstep; grind) (by omega) (by clear hl ih hstep; grind)
         exact ⟨q,by clear hl ih hstep; grind,q2,q3⟩
       · exact ⟨x+e,by clear hl ih hstep; grind,by clear hl ih hstep; grind,hstep (x+e) hm (by clear hl ih hstep; grind) (by clear hl ih hstep; grind) e0⟩
  obtain ⟨n,hn⟩:=So (z:=y-x) ep
  exact key n x hx hxy hv hn
end Orq

namespace Orq
theorem Q70 {p:List Rat} {x:Rat} (h:Yf p x≠0):∃ e:Rat,0<e∧∀ y,x<y→y-x≤e→Qo (ev p y)=Yf p x:=by
  by_cases h0:Qo (ev p x)=0
  · have hx:=Zf.1 h0
    rw [Qmf h0] at h ⊢
    have hR:0≤Qm x+1:=by have:=Xc x; grind
    obtain ⟨e,e1,e2,e3⟩:=Zv (O8 hR p) (K7 (x:=dv p x) fun h'=>h (Zf.2 h'))
    refine ⟨e,e1,fun y h1 h2=>?_⟩
    have hy:Qm y≤Qm x+1:=by
      have:=Ju x (y-x)
      have e:x+(y-x)=y:=by grind
      have e':Qm (y-x)=y-x:=by unfold Qm; split <;> grind
      rw [e,e'] at this; grind
    have:=Qa9 (p:=p) (by grind) hy hR h1 h2 Rat.le_refl e3
    rw [hx] at this
    rw [←this]; congr 1; grind
  · rw [Fz h0] at h ⊢
    obtain ⟨e,e1,e2⟩:=Na h
    exact ⟨e,e1,fun y h1 h2=>e2 y (by rw [Y5]; constructor <;> grind)⟩
def cq (P:List Rat) (lo hi q:Rat):Int:=if q≤lo then 1 else if hi<q then -1 else if Qo (ev P q)=0 then 0 else if Qo (ev P q)=Yf P lo then 1 else -1
structure Vt (P:List Rat) (L:List (List Rat)) (lo hi:Rat):Prop where
  s:Aw P L
  l:lo<hi
  v:vv L lo=vv L hi+1
variable {P:List Rat} {L:List (List Rat)} {lo hi:Rat}
theorem Fp {q:Rat} (h:q≤lo):cq P lo hi q=1:=by unfold cq; rw [if_pos h]
theorem Ce {q:Rat} (h:lo<hi) (h':hi<q):cq P lo hi q=-1:=by unfold cq; rw [if_neg (by grind),if_pos h']
theorem Ha {q:Rat} (h1:lo<q) (h2:q≤hi):cq P lo hi q=if Qo (ev P q)=0 then 0 else if Qo (ev P q)=Yf P lo then 1 else -1:=by
  unfold cq; rw [if_neg (by grind),if_neg (by grind)]
theorem Vt.two (V:Vt P L lo hi) {q:Rat} (h1:lo<q) (h2:q≤hi):vv L q=vv L lo∧cq P lo hi q=1∧Qo (ev P q)=Yf P lo∨vv L q=vv L hi∧cq P lo hi q≠1∧Yf P q=-Yf P lo∧Yf P lo≠0:=by
  have a:=Gk V.s h1
  have b:vv L hi≤vv L q:=by
    rcases Classical.em (q=hi) with e | e
    · rw [e]; exact Nat.le_refl _
    · exact Gk V.s (by grind)
  have hv:=V.v
  rcases (show vv L q=vv L lo∨vv L q=vv L hi by omega) with e | e
  · have hs:=Qg8 V.s h1 e.symm
    refine .inl ⟨e,?_,hs.s⟩
    rw [Ha h1 h2,hs.s,if_neg hs.n,if_pos rfl]
  · obtain ⟨o1,o2⟩:=Qg7 V.s h1 (by omega)
    refine .inr ⟨e,?_,o2,o1⟩
    rw [Ha h1 h2]
    split
    · decide
    · rename_i h0
      rw [Fz h0] at o2
      rw [if_neg (by omega)]; decide
theorem Vt.lowlo (V:Vt P L lo hi):Yf P lo≠0:=(Qg7 V.s V.l V.v).1
theorem Vt.eq_lo (V:Vt P L lo hi) {q:Rat} (h1:lo<q) (h2:q≤hi) (h:cq P lo hi q=1):vv L q=vv L lo:=by
  rcases V.two h1 h2 with ⟨e,_⟩ | ⟨_,e,_⟩
  · exact e
  · exact absurd h e
theorem Vt.eq_hi (V:Vt P L lo hi) {q:Rat} (h1:lo<q) (h2:q≤hi) (h:cq P lo hi q≠1):vv L q=vv L hi:=by
  rcases V.two h1 h2 with ⟨_,e,_⟩ | ⟨e,_⟩
  · exact absurd e h
  · exact e
theorem Vt.hi1 (V:Vt P L lo hi):cq P lo hi hi≠1:=fun h=>by have:=V.eq_lo V.l Rat.le_refl h; have:=V.v; omega
theorem Vt.cut (V:Vt P L lo hi):Cut (cq P lo hi) where
  val q:=by unfold cq; split <;> (try split) <;> (try split) <;> (try split) <;> simp
  mono q r h h1:=by
    have hq:lo<q:=by
     rcases Q7 q lo with e | e
     · exact absurd (Fp e) h1
     · exact e
    rcases Q7 r hi with e | e
    · have e1:=V.eq_hi hq (by grind) h1
      rcases V.two (q:=r) (by grind) e with ⟨e2,_⟩ | ⟨e2,_,e3,e4⟩
      · have:=Gk V.s h; have:=V.v; omega
      · have hs:=Qg8 V.s h (by omega)
        rcases V.two hq (by grind) with ⟨e5,_⟩ | ⟨_,_,e5,_⟩
        · have:=V.v; omega
        · rw [Ha (by grind) e,hs.s,if_neg hs.n,e5,if_neg (by omega)]
    · exact Ce V.l e
  up q h:=by
    rcases Q7 q lo with e | e
    · obtain ⟨d,dp,hd⟩:=Q70 V.lowlo
      obtain ⟨f,fp,f1,f2⟩:=min2 (a:=d) (b:=hi-lo) dp (by have:=V.l; grind)
      have h1:lo<lo+f:=by clear hd; grind
      have h2:lo+f≤hi:=by clear hd; grind
      have:=hd (lo+f) h1 (by clear hd; grind)
      exact ⟨lo+f,by clear hd; grind,by rw [Ha h1 h2,this,if_neg V.lowlo,if_pos rfl]⟩
    · have hh:q≤hi:=by
       rcases Q7 q hi with e' | e'
       · exact e'
       · have:=Ce (P:=P) V.l e'; omega
      rcases V.two e hh with ⟨e1,_,e2⟩ | ⟨_,e1,_⟩
      · have hn:q≠hi:=fun h=>by rw [h] at e1; have:=V.v; omega
        obtain ⟨d,dp,hd⟩:=Na (p:=P) (x:=q) (by rw [e2]; exact V.lowlo)
        obtain ⟨f,fp,f1,f2⟩:=min2 (a:=d) (b:=hi-q) dp (by clear hd; grind)
        have:=hd (q+f) (by rw [Y5]; clear hd; constructor <;> grind)
        exact ⟨q+f,by clear hd; grind,by rw [Ha (by clear hd; grind) (by clear hd; grind),this,e2,if_neg V.lowlo,if_pos rfl]⟩
      · exact absurd h e1
  dn q h:=by
    have hq:lo<q:=by
     rcases Q7 q lo with e | e
     · have:=Fp (P:=P) (hi:=hi) e; omega
     · exact e
    rcases Q7 q hi with e | e
    · rw [Ha hq e] at h
      split at h
      · cases h
      rename_i h0
      split at h
      · cases h
      rename_i h1
      obtain ⟨d,dp,hd⟩:=Na h0
      obtain ⟨f,fp,f1,f2⟩:=min2 (a:=d) (b:=(q-lo) / 2) dp (Fu (by clear hd; grind) (by decide))
      have h2:(q-lo) / 2*2=q-lo:=Zt (by decide)
      have:=hd (q-f) (by rw [Y5]; clear hd; constructor <;> grind)
      exact ⟨q-f,by clear hd; grind,by rw [Ha (by clear hd; grind) (by clear hd; grind),this,if_neg h0,if_neg h1]⟩
    · have h2:(q-hi) / 2*2=q-hi:=Zt (by decide)
      exact ⟨q-(q-hi) / 2,by grind,Ce V.l (by grind)⟩
  lo:=⟨lo,Fp Rat.le_refl⟩
  hi:=⟨hi+1,Ce V.l (by grind)⟩
theorem Vt.van (V:Vt P L lo hi):Hm P (cq P lo hi):=by
  have hc:=V.cut
  rcases Mb hc P with h | ⟨s,hs,h⟩
  · exact h
  · exfalso
    have e1:s=Yf P lo:=by
      obtain ⟨x,hx,hx1⟩:=Qpy hc h
      obtain ⟨q,q1,q2,q3⟩:=O5 hc hx (Fp (P:=P) (hi:=hi) (Rat.le_refl (a:=lo)))
      have hq:q≤hi:=by
       rcases Q7 q hi with e | e
       · exact e
       · have:=Ce (P:=P) V.l e; omega
      rcases V.two q3 hq with ⟨_,_,e⟩ | ⟨_,e,_⟩
      · rw [←hx1 q q1 (Rat.le_of_lt q2),e]
      · exact absurd q1 e
    rcases hc.val hi with e | e | e
    · exact V.hi1 e
    · have h0:=Qjd hc e h
      rw [Ha V.l Rat.le_refl] at e
      split at e
      · omega
      · split at e <;> omega
    · obtain ⟨y,hy,hy1⟩:=Qd2 hc h
      obtain ⟨q,q1,q2,q3⟩:=Qls hc hy e
      have hq:lo<q:=hc.lt (Fp (P:=P) (hi:=hi) (Rat.le_refl (a:=lo))) q1
      have:=hy1 q q1 (Rat.le_of_lt q2)
      rw [Ha hq (Rat.le_of_lt q3),this,if_neg hs,if_pos e1] at q1
      cases q1
def Ql5 (w:List Rat) (lo hi:Rat):Prop:=Qo (ev w hi)=0∨Qo (ev w hi)≠Yf w lo
theorem Vt.has (V:Vt P L lo hi) {w u:List Rat} (hf:∀ t,ev P t=ev w t*ev u t) {a b:Rat} (h1:lo≤a) (h2:a<b) (h3:b≤hi):Ql5 w a b↔Hm w (cq P lo hi)∧cq P lo hi a=1∧cq P lo hi b≠1:=by
  have hc:=V.cut
  have smno:vv L a=vv L b→¬Ql5 w a b:=fun h hh=>by
    have:=Nn V.s hf h2 h
    rcases hh with e | e
    · rw [this.s] at e; exact this.n e
    · exact e this.s
  by_cases ha:cq P lo hi a=1
  · by_cases hb:cq P lo hi b=1
    · have e1:=V.eq_lo (by grind) h3 hb
      have e2:vv L a=vv L lo:=by
        rcases Classical.em (lo=a) with e | e
        · rw [e]
        · exact V.eq_lo (by grind) (by grind) ha
      exact ⟨fun h=>absurd h (smno (by omega)),fun h=>absurd hb h.2.2⟩
    · have e1:=V.eq_hi (by grind) h3 hb
      have e2:vv L a=vv L lo:=by
        rcases Classical.em (lo=a) with e | e
        · rw [e]
        · exact V.eq_lo (by grind) (by grind) ha
      -- signs on both sides,within the piece
      have left:∀ s,LS w (cq P lo hi) s→s=Yf w a:=fun s hs=>by
        obtain ⟨x,hx,hx1⟩:=hs
        obtain ⟨q,q1,q2,q3⟩:=O5 hc hx ha
        have hqb:q<b:=by
          rcases Q7 b q with e | e
          · rcases Classical.em (b=q) with e' | e'
            · rw [e'] at hb; exact absurd q1 hb
            · have:=hc.mono b q (by clear hx1 smno; grind) hb; omega
          · exact e
        have:=V.eq_lo (q:=q) (by clear hx1 smno; grind) (by clear hx1 smno; grind) q1
        rw [←(Nn V.s hf q3 (by omega)).s,hx1 q q1 (Rat.le_of_lt q2)]
      have right:∀ s,RS w (cq P lo hi) s→cq P lo hi b=-1→s=Qo (ev w b):=fun s hs hb=>by
        obtain ⟨y,hy,hy1⟩:=hs
        obtain ⟨q,q1,q2,q3⟩:=Qls hc hy hb
        have hqa:=hc.lt ha q1
        have:=V.eq_hi (q:=q) (by clear hy1 smno; grind) (by clear hy1 smno; grind) (by omega)
        have hs:=Nn V.s hf q3 (by omega)
        have hl:=hy1 q q1 (Rat.le_of_lt q2)
        have h0:Qo (ev w q)≠0:=by
          have hs2:=Nn V.s hf (x:=q) (y:=b) q3 (by omega)
          intro h0
          obtain ⟨r,r1,r2⟩:=hc.dn q q1
          have har:=hc.lt ha r2
          have:=V.eq_hi (q:=r) (by clear hy1 smno; grind) (by clear hy1 smno; grind) (by omega)
          have hs3:=Nn V.s hf (x:=r) (y:=q) r1 (by omega)
          have hs4:=hs3.s
          rw [h0] at hs4; exact hs3.n hs4.symm
        rw [hs.s,Fz h0,hl]
      refine ⟨fun h=>⟨?_,ha,hb⟩,fun ⟨hw,_,_⟩=>?_⟩
      · rcases Mb hc w with e | ⟨s,hs0,hs⟩
        · exact e
        · exfalso
          have l1:=left s (Qpy hc hs)
          have r1:Qo (ev w b)=s:=by
            rcases hc.val b with e | e | e
            · exact absurd e hb
            · exact Qjd hc e hs
            · exact (right s (Qd2 hc hs) e).symm
          rcases h with h | h
          · exact hs0 (by rw [←r1]; exact h)
          · exact h (by rw [r1,l1])
      · rcases hc.val b with e | e | e
        · exact absurd e hb
        · exact .inl (Zf.2 (Ey hc e hw))
        · obtain ⟨s,hs0,hs⟩:=Qo2 hc V.s hf hw
          have l1:=left _ (Qxw hc hw (Qpy hc hs) hs0)
          have r1:=right _ (Qgm hc hw (Qd2 hc hs) hs0) e
          exact .inr (by rw [←l1,←r1]; omega)
  · have hla:lo<a:=by
     rcases Classical.em (lo=a) with e | e
     · rw [←e] at ha; exact absurd (Fp Rat.le_refl) ha
     · grind
    have hb:cq P lo hi b≠1:=by have:=hc.mono a b h2 ha; omega
    have e1:=V.eq_hi hla (by grind) ha
    have e2:=V.eq_hi (q:=b) (by grind) h3 hb
    exact ⟨fun h=>absurd h (smno (by omega)),fun h=>absurd h.2.1 ha⟩
theorem Qh8 {c c':Rat→Int} (hc:Cut c) (hc':Cut c') {q:Rat} (h:c q≠c' q):∃ r,(c r=-1∧c' r=1)∨(c r=1∧c' r=-1):=by
  rcases hc.val q with e | e | e <;> rcases hc'.val q with e' | e' | e'
  · omega
  · obtain ⟨r,r1,r2⟩:=hc.up q e
    exact ⟨r,.inr ⟨r2,hc'.mono q r r1 (by omega)⟩⟩
  · exact ⟨q,.inr ⟨e,e'⟩⟩
  · obtain ⟨r,r1,r2⟩:=hc'.up q e'
    exact ⟨r,.inl ⟨hc.mono q r r1 (by omega),r2⟩⟩
  · omega
  · obtain ⟨r,r1,r2⟩:=hc'.dn q e'
    exact ⟨r,.inr ⟨hc.mono' r1 (by omega),r2⟩⟩
  · exact ⟨q,.inl ⟨e,e'⟩⟩
  · obtain ⟨r,r1,r2⟩:=hc.dn q e
    exact ⟨r,.inl ⟨r2,hc'.mono' r1 (by omega)⟩⟩
  · omega
theorem Vt.uniq (V:Vt P L lo hi) {c:Rat→Int} (hc:Cut c) (h1:c lo=1) (h2:c hi≠1) (hv:Hm P c) (q:Rat):c q=cq P lo hi q:=by
  rcases Classical.em (c q=cq P lo hi q) with e | e
  · exact e
  · exfalso
    obtain ⟨r,⟨r1,r2⟩ | ⟨r1,r2⟩⟩:=Qh8 hc V.cut e
    · have hl:=hc.lt h1 r1
      have hh:r≤hi:=by
       rcases Q7 r hi with e | e
       · exact e
       · have:=Ce (P:=P) V.l e; omega
      have:=V.eq_lo hl hh r2
      exact Qx8 V.s (w:=P) (u:=[1]) (fun t=>by rw [X7]; grind) (x:=lo) (y:=r) (by omega) hc h1 (by omega) hv
    · have hl:lo<r:=by
       rcases Q7 r lo with e | e
       · have:=Fp (P:=P) (hi:=hi) e; omega
       · exact e
      have hh:r≤hi:=by
       rcases Q7 r hi with e | e
       · exact e
       · have:=hc.mono hi r e h2; omega
      have:=V.eq_hi hl hh (by omega)
      exact Qx8 V.s (w:=P) (u:=[1]) (fun t=>by rw [X7]; grind) (x:=r) (y:=hi) (by omega) hc r1 h2 hv
theorem Vt.same (V:Vt P L lo hi) {P':List Rat} {L':List (List Rat)} {lo' hi':Rat} (V':Vt P' L' lo' hi') {g u u' U W:List Rat} {k:Rat} (hk:k≠0) (h1:∀ t,ev P t=ev g t*ev u t) (h2:∀ t,ev P' t=ev g t*ev u' t) (h3:∀ t,k*ev g t=ev U t*ev P t+ev W t*ev P' t) {a b:Rat} (ha1:lo≤a) (ha2:lo'≤a) (ha:a=lo∨a=lo') (hb1:b≤hi) (hb2:b≤hi') (hb:b=hi∨b=hi'):(a<b∧Ql5 g a b)↔∀ q,cq P lo hi q=cq P' lo' hi' q:=by
  have hc:=V.cut
  have hc':=V'.cut
  constructor
  · rintro ⟨hab,hg⟩
    obtain ⟨g1,g2,g3⟩:=(V.has h1 ha1 hab hb1).1 hg
    obtain ⟨g4,g5,g6⟩:=(V'.has h2 ha2 hab hb2).1 hg
    intro q
    refine (V.uniq hc' (by
      rcases Classical.em (lo=a) with e | e
      · rw [e]; exact g5
      · exact hc'.mono' (q:=lo) (r:=a) (by grind) (by omega)) (fun h=>?_) (Yq hc' h1 g4) q).symm
    rcases Classical.em (b=hi) with e | e
    · rw [←e] at h; exact g6 h
    · have:=hc'.mono b hi (by grind) g6; omega
  · intro h
    have hcc:cq P' lo' hi'=cq P lo hi:=funext fun q=>(h q).symm
    have e1:cq P lo hi a=1:=by
     rcases ha with rfl | rfl
     · exact Fp Rat.le_refl
     · rw [h]; exact Fp Rat.le_refl
    have e2:cq P lo hi b≠1:=by
     rcases hb with rfl | rfl
     · exact V.hi1
     · rw [h]; exact V'.hi1
    have hab:a<b:=by
      rcases Q7 b a with e | e
      · rcases Classical.em (b=a) with e' | e'
        · rw [e'] at e2; exact absurd e1 e2
        · have:=hc.mono b a (by grind) e2; omega
      · exact e
    have v1:=V.van
    have v2:=V'.van
    rw [hcc] at v2
    have hg:Hm g (cq P lo hi):=by
      have a1:Hm (Zo U P) (cq P lo hi):=Yq hc (p:=P) (q:=U) (fun t=>by rw [Qk]; grind) v1
      have a2:Hm (Zo W P') (cq P lo hi):=Yq hc (p:=P') (q:=W) (fun t=>by rw [Qk]; grind) v2
      have a3:=Oc (fun t=>Zl t _ _) a1 a2
      refine Qei hc (k:=1 / k) (fun t=>?_) a3
      rw [Zl,Qk,Qk,←h3]
      have:1 / k*(k*ev g t)=1 / k*k*ev g t:=by grind
      rw [this,show 1 / k*k=1 from Rat.div_mul_cancel hk]; grind
    exact ⟨hab,(V.has h1 ha1 hab hb1).2 ⟨hg,e1,e2⟩⟩
end Orq

namespace Orq
theorem Qym:∀ (M:Nat) (f:Nat→Nat),(∀ i,i≤M→f i<M)→∃ i j,i<j∧j≤M∧f i=f j
  | 0,f,h=>absurd (h 0 (Nat.le_refl _)) (Nat.not_lt_zero _)
  |
   M+1,f,h=>by
   rcases Classical.em (∃ i,i≤M∧f i=f (M+1)) with ⟨i,h1,h2⟩ | hn
   · exact ⟨i,M+1,by omega,Nat.le_refl _,h2⟩
   · have hne:∀ i,i≤M→f i≠f (M+1):=fun i hi e=>hn ⟨i,hi,e⟩
     obtain ⟨i,j,h1,h2,h3⟩:=Qym M (fun i=>if f i=M then f (M+1) else f i) fun i hi=>by
       have a1:=h i (by omega)
       have a2:=h (M+1) (Nat.le_refl _)
       have a3:=hne i hi
       show (if f i=M then f (M+1) else f i)<M
       split <;> omega
     refine ⟨i,j,h1,by omega,?_⟩
     have a1:=hne i (by omega)
     have a2:=hne j h2
     split at h3 <;> split at h3 <;> omega
def dg (B k i:Nat):Nat:=k / B^i % B
theorem Qo0 (B k i:Nat):dg B k (i+1)=dg B (k / B) i:=by unfold dg; rw [Nat.pow_succ,Nat.mul_comm,Nat.div_div_eq_div_mul]
theorem Qwe {B:Nat}:∀ (N:Nat) {k k':Nat},k<B^N→k'<B^N→(∀ i,i<N→dg B k i=dg B k' i)→k=k'
  | 0,k,k',h,h',_=>by rw [Nat.pow_zero] at h h'; omega
  |
   N+1,k,k',h,h',he=>by
   have h0:=he 0 (by omega)
   unfold dg at h0
   rw [Nat.pow_zero,Nat.div_one,Nat.div_one] at h0
   have hB:0<B:=by
     rcases Nat.eq_zero_or_pos B with e | e
     · rw [e,Nat.pow_succ,Nat.mul_zero] at h; omega
     · exact e
   have h1:=Qwe N (k:=k / B) (k':=k' / B) (Nat.div_lt_of_lt_mul (by rw [Nat.mul_comm,←Nat.pow_succ]; exact h)) (Nat.div_lt_of_lt_mul (by rw [Nat.mul_comm,←Nat.pow_succ]; exact h')) fun i hi=>by
     rw [←Qo0,←Qo0]; exact he (i+1) (by omega)
   rw [←Nat.mod_add_div k B,←Nat.mod_add_div k' B,h0,h1]
def cd (B:Nat):Nat→(Nat→Nat)→Nat
  | 0,_=>0
  | E+1,x=>x 0+B*cd B E fun e=>x (e+1)
theorem Q5o {B:Nat}:∀ (E:Nat) {x:Nat→Nat},(∀ e,e<E→x e<B)→cd B E x<B^E
  | 0,_,_=>by simp [cd]
  |
   E+1,x,h=>by
   have h1:=h 0 (by omega)
   have h2:=Q5o E (x:=fun e=>x (e+1)) fun e he=>h (e+1) (by omega)
   simp only [cd]
   have h3:B*cd B E (fun e=>x (e+1))+B≤B*B^E:=by
     rw [←Nat.mul_succ]; exact Nat.mul_le_mul_left _ h2
   rw [Nat.pow_succ,Nat.mul_comm (B^E)]; omega
theorem Qv2 {B:Nat}:∀ (E:Nat) {x y:Nat→Nat},(∀ e,e<E→x e<B)→(∀ e,e<E→y e<B)→cd B E x=cd B E y→∀ e,e<E→x e=y e
  | 0,_,_,_,_,_,e,he=>by omega
  |
   E+1,x,y,hx,hy,h,e,he=>by
   have h1:=hx 0 (by omega)
   have h2:=hy 0 (by omega)
   simp only [cd] at h
   have e0:x 0=y 0:=by
     have:=congrArg (· % B) h
     simp only [Nat.add_mul_mod_self_left] at this
     rwa [Nat.mod_eq_of_lt h1,Nat.mod_eq_of_lt h2] at this
   have e1:cd B E (fun e=>x (e+1))=cd B E (fun e=>y (e+1)):=Nat.eq_of_mul_eq_mul_left (by omega:0<B) (by omega)
   cases e with
   | zero=>exact e0
   | succ e=>exact Qv2 E (fun e he=>hx (e+1) (by omega)) (fun e he=>hy (e+1) (by omega)) e1 e (by omega)
def sm:Nat→(Nat→Int)→Int
  | 0,_=>0
  | n+1,f=>sm n f+f n
theorem Qz3 (f g:Nat→Int):∀ n,sm n (fun i=>f i-g i)=sm n f-sm n g
  | 0=>rfl
  | n+1=>by simp only [sm,Qz3 f g n]; omega
theorem Ul {f g:Nat→Int}:∀ n,(∀ i,i<n→f i=g i)→sm n f=sm n g
  | 0,_=>rfl
  | n+1,h=>by simp only [sm,Ul n (fun i hi=>h i (by omega)),h n (by omega)]
theorem Qz2 {f:Nat→Int} {b:Nat}:∀ n,(∀ i,i<n→(f i).natAbs≤b)→(sm n f).natAbs≤n*b
  | 0,_=>by simp [sm]
  |
   n+1,h=>by
   have h1:=Qz2 n fun i hi=>h i (by omega)
   have h2:=h n (by omega)
   simp only [sm]
   rw [Nat.succ_mul]; omega
theorem My {f:Nat→Int}:∀ n,(∀ i,i<n→f i=0)→sm n f=0
  | 0,_=>rfl
  | n+1,h=>by simp only [sm,My n (fun i hi=>h i (by omega)),h n (by omega)]; rfl
theorem Qnd (f:Nat→Int) (m:Nat):∀ n,sm (m+n) f=sm m f+sm n fun i=>f (m+i)
  | 0=>by simp [sm]
  | n+1=>by rw [←Nat.add_assoc]; simp only [sm,Qnd f m n]; omega
theorem Qne (f:Nat→Int) (J:Nat):∀ b,sm (b*J) f=sm b fun i=>sm J fun j=>f (i*J+j)
  | 0=>by simp [sm]
  | b+1=>by rw [Nat.succ_mul,Qnd,Qne f J b]; rfl
theorem Qbr {f:Nat→Int} {k:Nat}:∀ n,k<n→(∀ i,i<n→i≠k→f i=0)→sm n f=f k
  | 0,h,_=>by omega
  |
   n+1,h,h1=>by
   simp only [sm]
   rcases Nat.lt_or_eq_of_le (Nat.le_of_lt_succ h) with e | e
   · rw [Qbr n e fun i hi=>h1 i (by omega),h1 n (by omega) (by omega)]; omega
   · subst e; rw [My k fun i hi=>h1 i (by omega) (by omega)]; omega
theorem Q8r {M:Nat→Nat→Int} {h N E H:Nat} (hM:∀ e i,(M e i).natAbs≤h) (hc:(2*(N*(h*H))+1)^E<(H+1)^N) :
    ∃ v:Nat→Int,(∀ i,(v i).natAbs≤H)∧(∃ i,i<N∧v i≠0)∧∀ e,e<E→sm N (fun i=>M e i*v i)=0:=by
  obtain ⟨T,hT⟩:∃ T,T=N*(h*H):=⟨_,rfl⟩
  rw [←hT] at hc
  have hv:∀ k i,dg (H+1) k i≤H:=fun k i=>Nat.le_of_lt_succ (Nat.mod_lt _ (by omega))
  have hs:∀ k e,(sm N fun i=>M e i*(dg (H+1) k i:Int)).natAbs≤T:=fun k e=>by
    rw [hT]
    refine Qz2 N fun i _=>?_
    rw [Int.natAbs_mul,Int.natAbs_natCast]
    exact Nat.mul_le_mul (hM e i) (hv k i)
  have him:∀ k e,((sm N fun i=>M e i*(dg (H+1) k i:Int))+T).toNat<2*T+1:=fun k e=>by have:=hs k e; omega
  obtain ⟨i,j,h1,h2,h3⟩:=Qym ((2*T+1)^E) (fun k=>cd (2*T+1) E fun e=>((sm N fun i=>M e i*(dg (H+1) k i:Int))+T).toNat) fun k _=>Q5o E fun e _=>him k e
  have h4:=Qv2 E (fun e _=>him i e) (fun e _=>him j e) h3
  refine ⟨fun n=>(dg (H+1) i n:Int)-dg (H+1) j n,fun n=>?_,?_,fun e he=>?_⟩
  · have a1:=hv i n
    have a2:=hv j n
    show ((dg (H+1) i n:Int)-dg (H+1) j n).natAbs≤H
    omega
  · rcases Classical.em (∃ n,n<N∧(dg (H+1) i n:Int)-dg (H+1) j n≠0) with e | e
    · exact e
    · exfalso
      have:i=j:=Qwe (B:=H+1) N (by omega) (by omega) fun n hn=>by
        rcases Classical.em (dg (H+1) i n=dg (H+1) j n) with e' | e'
        · exact e'
        · exact absurd ⟨n,hn,by omega⟩ e
      omega
  · have a1:=h4 e he
    have a2:=hs i e
    have a3:=hs j e
    have:(sm N fun n=>M e n*(dg (H+1) i n:Int))=sm N fun n=>M e n*(dg (H+1) j n:Int):=by omega
    have e1:=Qz3 (fun n=>M e n*(dg (H+1) i n:Int)) (fun n=>M e n*(dg (H+1) j n:Int)) N
    rw [this] at e1
    rw [Ul N (g:=fun n=>M e n*(dg (H+1) i n:Int)-M e n*(dg (H+1) j n:Int)) fun n _=>Int.mul_sub _ _ _,e1]; omega
end Orq

namespace Orq
def Qh:List Int→Rat→Rat
  | [],_=>0
  | a::p,t=>(a:Rat)+t*Qh p t
def sq:Nat→(Nat→Rat)→Rat
  | 0,_=>0
  | n+1,f=>sq n f+f n
theorem Yg {f g:Nat→Rat}:∀ n,(∀ i,i<n→f i=g i)→sq n f=sq n g
  | 0,_=>rfl
  | n+1,h=>by simp only [sq,Yg n (fun i hi=>h i (by omega)),h n (by omega)]
theorem Qnj (f g:Nat→Rat):∀ n,sq n (fun i=>f i+g i)=sq n f+sq n g
  | 0=>by simp only [sq]; grind
  | n+1=>by simp only [sq,Qnj f g n]; grind
theorem P6 (c:Rat) (f:Nat→Rat):∀ n,sq n (fun i=>c*f i)=c*sq n f
  | 0=>by simp only [sq]; grind
  | n+1=>by simp only [sq,P6 c f n]; grind
theorem Wb {f:Nat→Rat}:∀ n,(∀ i,i<n→f i=0)→sq n f=0
  | 0,_=>rfl
  | n+1,h=>by simp only [sq,Wb n (fun i hi=>h i (by omega)),h n (by omega)]; grind
theorem Rm (f:Nat→Rat):∀ n,sq (n+1) f=f 0+sq n fun i=>f (i+1)
  | 0=>by simp only [sq]; grind
  | n+1=>by rw [sq,Rm f n]; simp only [sq]; grind
theorem Q6b {f:Nat→Rat} {b:Rat}:∀ n,(∀ i,i<n→Qm (f i)≤b)→Qm (sq n f)≤(n:Rat)*b
  | 0,_=>by rw [show ((0:Nat):Rat)=0 from rfl]; simp only [sq,Xt]; grind
  |
   n+1,h=>by
   have h1:=Q6b n fun i hi=>h i (by omega)
   have h2:=h n (by omega)
   have h3:=Ju (sq n f) (f n)
   have hn':(((n+1:Nat):Rat))=(n:Rat)+1:=by push_cast; rfl
   rw [hn']; simp only [sq]; clear h; grind
def gc:List Int→Nat→Nat→Int
  | [],_,_=>0
  | c::B,k,j=>(if k=0∧j=0 then c else 0)+(if k=0 then 0 else gc B (k-1) j)-(if j=0 then 0 else gc B k (j-1))
def gB:List Int→Nat
  | []=>0
  | c::B=>max c.natAbs (2*gB B)
theorem Im:∀ (B:List Int) (k j:Nat),B.length≤k+j→gc B k j=0
  | [],_,_,_=>rfl
  |
   c::B,k,j,h=>by
   simp only [List.length_cons] at h
   simp only [gc]
   rw [if_neg (by omega)]
   have e1:(if k=0 then 0 else gc B (k-1) j)=0:=by
     split
     · rfl
     · exact Im B _ _ (by omega)
   have e2:(if j=0 then 0 else gc B k (j-1))=0:=by
     split
     · rfl
     · exact Im B _ _ (by omega)
   rw [e1,e2]; rfl
theorem Qw5:∀ (B:List Int) (k j:Nat),(gc B k j).natAbs≤gB B
  | [],_,_=>Nat.zero_le _
  |
   c::B,k,j=>by
   have h1:=Qw5 B (k-1) j
   have h2:=Qw5 B k (j-1)
   simp only [gc,gB]
   by_cases hk:k=0 <;> by_cases hj:j=0 <;> simp only [hk,hj,true_and,and_true,false_and,and_false,if_true,if_false] <;> (try subst hk) <;> (try subst hj) <;> omega
theorem Qw6:∀ (B:List Int) (b:Nat),B.length=b+1→(gc B 0 b).natAbs=(B.getD b 0).natAbs
  | [],_,h=>by simp at h
  | [c],0,_=>by simp [gc]
  | c::d::B,0,h=>by simp at h
  |
   c::B,b+1,h=>by
   have ih:=Qw6 B b (by simpa using h)
   simp only [gc]
   simp only [Nat.add_sub_cancel,List.getD_cons_succ]
   rw [if_pos trivial,if_neg (Nat.succ_ne_zero b),←ih]; omega
def E2 (F:Nat→Nat→Int) (K J:Nat) (x y:Rat):Rat:=sq K fun k=>sq J fun j=>(F k j:Rat)*(y^k*x^j)
theorem Qlw (F G:Nat→Nat→Int) (K J:Nat) (x y:Rat):E2 (fun k j=>F k j+G k j) K J x y=E2 F K J x y+E2 G K J x y:=by
  unfold E2
  rw [←Qnj]
  refine Yg K fun k _=>?_
  rw [←Qnj]
  exact Yg J fun j _=>by push_cast; grind
theorem Qwn (c:Int) (F:Nat→Nat→Int) (K J:Nat) (x y:Rat):E2 (fun k j=>F k j*c) K J x y=(c:Rat)*E2 F K J x y:=by
  unfold E2
  rw [←P6]
  refine Yg K fun k _=>?_
  rw [←P6]
  exact Yg J fun j _=>by push_cast; grind
theorem Qwo (φ:Nat→Nat→Nat→Int) (v:Nat→Int) (K J:Nat) (x y:Rat):∀ N,E2 (fun k j=>sm N fun n=>φ n k j*v n) K J x y=sq N fun n=>(v n:Rat)*E2 (φ n) K J x y
  |
   0=>by
   simp only [sq,sm]
   unfold E2
   refine Wb K fun k _=>Wb J fun j _=>?_
   rw [show ((0:Int):Rat)=0 from rfl]; grind
  |
   N+1=>by
   simp only [sq]
   rw [←Qwo φ v K J x y N,←Qwn,←Qlw]
   rfl
theorem Dm (t:Rat) (i:Nat):∀ k,t^(i+k)=t^i*t^k
  | 0=>by rw [Nat.add_zero,Rat.pow_zero]; grind
  | k+1=>by rw [←Nat.add_assoc,Rat.pow_succ,Rat.pow_succ,Dm t i k]; grind
theorem Qbt (f:Nat→Rat):∀ (i n:Nat),sq (i+n) (fun k=>if i≤k then f (k-i) else 0)=sq n f
  | i,0=>Wb _ fun k hk=>by rw [if_neg (by omega)]
  |
   i,n+1=>by
   rw [←Nat.add_assoc]; simp only [sq]
   rw [Qbt f i n,if_pos (by omega),Nat.add_sub_cancel_left]
def A2 (i j':Nat) (F:Nat→Nat→Int) (k j:Nat):Int:=if i≤k then (if j'≤j then F (k-i) (j-j') else 0) else 0
theorem Qag (F:Nat→Nat→Int) (i j' K J:Nat) (x y:Rat):E2 (A2 i j' F) (i+K) (j'+J) x y=y^i*x^j'*E2 F K J x y:=by
  unfold E2
  rw [←P6,←Qbt _ i K]
  refine Yg _ fun k _=>?_
  by_cases hk:i≤k
  · rw [if_pos hk,←P6,←Qbt _ j' J]
    refine Yg _ fun j _=>?_
    unfold A2
    rw [if_pos hk]
    by_cases hj:j'≤j
    · rw [if_pos hj,if_pos hj]
      have e1:y^k=y^i*y^(k-i):=by rw [←Dm]; congr 1; omega
      have e2:x^j=x^j'*x^(j-j'):=by rw [←Dm]; congr 1; omega
      rw [e1,e2]; grind
    · rw [if_neg hj,if_neg hj,show ((0:Int):Rat)=0 from rfl]; grind
  · rw [if_neg hk]
    refine Wb _ fun j _=>?_
    unfold A2
    rw [if_neg hk,show ((0:Int):Rat)=0 from rfl]; grind
def fA (A:List Int) (k j:Nat):Int:=if j=0 then A.getD k 0 else 0
theorem Qyk (y:Rat):∀ (A:List Int) (K:Nat),A.length≤K→sq K (fun k=>((A.getD k 0:Int):Rat)*y^k)=Qh A y
  | [],K,_=>by rw [Wb]; rfl; intro i _; simp
  | a::A,0,h=>by simp at h
  |
   a::A,K+1,h=>by
   have ih:=Qyk y A K (by simpa using h)
   rw [Rm]
   simp only [Qh,List.getD_cons_zero,List.getD_cons_succ,Rat.pow_zero]
   rw [←ih,←P6]
   have:(sq K fun i=>((A.getD i 0:Int):Rat)*y^(i+1))=sq K fun i=>y*(((A.getD i 0:Int):Rat)*y^i):=Yg K fun i _=>by rw [Rat.pow_succ]; grind
   rw [this]; grind
theorem Zaf (A:List Int) (K J:Nat) (x y:Rat) (h:A.length≤K):E2 (fA A) K (J+1) x y=Qh A y:=by
  rw [←Qyk y A K h]
  refine Yg K fun k _=>?_
  rw [Rm,Wb]
  · simp only [fA,if_true,Rat.pow_zero]; grind
  · intro j _
    simp only [fA]
    rw [if_neg (by omega),show ((0:Int):Rat)=0 from rfl]; grind
theorem Q7i (x y:Rat):∀ (B:List Int) (K J:Nat),B.length≤K→B.length≤J→E2 (gc B) K J x y=Qh B (y-x)
  |
   [],K,J,_,_=>by
   unfold E2
   simp only [gc,Qh]
   exact Wb K fun k _=>Wb J fun j _=>by rw [show ((0:Int):Rat)=0 from rfl]; grind
  | c::B,0,J,h,_=>by simp at h
  | c::B,K+1,0,_,h=>by simp at h
  |
   c::B,K+1,J+1,h1,h2=>by
   have i1:=Q7i x y B K (J+1) (by simpa using h1) (by simp at h2; omega)
   have i2:=Q7i x y B (K+1) J (by simp at h1; omega) (by simpa using h2)
   have s1:=Qag (gc B) 1 0 K (J+1) x y
   have s2:=Qag (gc B) 0 1 (K+1) J x y
   rw [Nat.zero_add,Nat.add_comm 1 K] at s1
   rw [Nat.zero_add,Nat.add_comm 1 J] at s2
   rw [i1] at s1
   rw [i2] at s2
   have e0:E2 (fA [c]) (K+1) (J+1) x y=(c:Rat):=by rw [Zaf [c] (K+1) J x y (by simp)]; simp only [Qh]; grind
   have e1:gc (c::B)=fun k j=>(fA [c] k j+A2 1 0 (gc B) k j)+A2 0 1 (gc B) k j*(-1):=by
     funext k j
     simp only [gc,fA,A2]
     by_cases hk:k=0 <;> by_cases hj:j=0
     · subst hk; subst hj; simp
     · subst hk; simp [hj,show 1≤j by omega]
       try omega
     · subst hj
       obtain ⟨m,rfl⟩:∃ m,k=m+1:=⟨k-1,by omega⟩
       simp
     · obtain ⟨m,rfl⟩:∃ m,k=m+1:=⟨k-1,by omega⟩
       obtain ⟨i,rfl⟩:∃ i,j=i+1:=⟨j-1,by omega⟩
       simp; omega
   rw [e1,Qlw (fun k j=>fA [c] k j+A2 1 0 (gc B) k j) (fun k j=>A2 0 1 (gc B) k j*(-1)),Qlw (fA [c]) (A2 1 0 (gc B)),Qwn,e0,s1,s2]
   simp only [Qh,Rat.pow_zero,show y^1=y by rw [Rat.pow_succ,Rat.pow_zero]; grind,show x^1=x by rw [Rat.pow_succ,Rat.pow_zero]; grind]
   rw [show (((-1:Int)):Rat)=-1 from rfl]
   grind
end Orq

namespace Orq
def phi (A B:List Int) (b J J' n k j:Nat):Int:=if n<b*J then A2 (n / J) (n % J) (fA A) k j else A2 ((n-b*J) / J') ((n-b*J) % J') (gc B) k j
theorem Qzx {F:Nat→Nat→Int} {h:Nat} (hF:∀ k j,(F k j).natAbs≤h) (i j' k j:Nat):(A2 i j' F k j).natAbs≤h:=by
  unfold A2; split
  · split
    · exact hF _ _
    · exact Nat.zero_le _
  · exact Nat.zero_le _
theorem Q50 {i b J j:Nat} (hi:i<b) (hj:j<J):i*J+j<b*J:=by
  have:(i+1)*J≤b*J:=Nat.mul_le_mul_right J hi
  rw [Nat.succ_mul] at this; omega
theorem L6 {i J j:Nat} (hj:j<J):(i*J+j) / J=i∧(i*J+j) % J=j:=by
  rw [Nat.mul_comm,Nat.mul_add_div (by omega),Nat.mul_add_mod,Nat.div_eq_of_lt hj,Nat.mod_eq_of_lt hj]; exact ⟨by omega,rfl⟩
theorem Qeb (A B:List Int) (a b J J':Nat) (v:Nat→Int) (k j:Nat):sm (b*J+a*J') (fun n=>phi A B b J J' n k j*v n) =
    (sm b fun i=>sm J fun j1=>A2 i j1 (fA A) k j*v (i*J+j1))+sm a fun i=>sm J' fun j1=>A2 i j1 (gc B) k j*v (b*J+(i*J'+j1)):=by
  rw [Qnd,Qne,Qne]
  congr 1
  · refine Ul b fun i hi=>Ul J fun j1 hj=>?_
    unfold phi
    rw [if_pos (Q50 hi hj),(L6 hj).1,(L6 hj).2]
  · refine Ul a fun i hi=>Ul J' fun j1 hj=>?_
    unfold phi
    rw [if_neg (by omega),Nat.add_sub_cancel_left,(L6 hj).1,(L6 hj).2]
theorem Q98 (A:List Int) (v:Nat→Int) {i J k j:Nat} (hj:j<J):(sm J fun j1=>A2 i j1 (fA A) k j*v (i*J+j1))=if i≤k then A.getD (k-i) 0*v (i*J+j) else 0:=by
  rw [Qbr (k:=j) J hj fun j1 _ hne=>?_]
  · unfold A2 fA
    by_cases h:i≤k
    · rw [if_pos h,if_pos h,if_pos (Nat.le_refl _),if_pos (Nat.sub_self _)]
    · rw [if_neg h,if_neg h,Int.zero_mul]
  · unfold A2 fA
    by_cases h:i≤k
    · rw [if_pos h]
      by_cases h':j1≤j
      · rw [if_pos h',if_neg (by omega),Int.zero_mul]
      · rw [if_neg h',Int.zero_mul]
    · rw [if_neg h,Int.zero_mul]
section
variable {A B:List Int} {a b J J':Nat} (hA:A.length=a+1) (hB:B.length=b+1) (lA:A.getD a 0≠0) (lB:B.getD b 0≠0) (hJ:J=J'+b) {v:Nat→Int} (hW:∀ k j,k<a+b→j<J→sm (b*J+a*J') (fun n=>phi A B b J J' n k j*v n)=0)
include hA lA hW in
theorem Q5q {jj:Nat} (hj:jj<J) (hV:∀ k,a≤k→k<a+b→(sm a fun i=>sm J' fun j1=>A2 i j1 (gc B) k jj*v (b*J+(i*J'+j1)))=0):∀ d i,i<b→b-i≤d→v (i*J+jj)=0:=by
  intro d
  induction d with
  | zero=>intro i hi hd; omega
  |
   succ d ih =>
   intro i hi hd
   have h1:=hW (i+a) jj (by omega) hj
   rw [Qeb,hV (i+a) (by omega) (by omega)] at h1
   rw [Ul b (fun i' hi'=>Q98 A v hj)] at h1
   rw [Qbr (k:=i) b hi fun i' hi' hne=>?_] at h1
   · rw [if_pos (by omega),Nat.add_sub_cancel_left,Int.add_zero] at h1
     rcases Int.mul_eq_zero.1 h1 with h2 | h2
     · exact absurd h2 lA
     · exact h2
   · rcases Nat.lt_or_ge i i' with h | h
     · rw [ih i' hi' (by omega)]; simp
     · rw [if_pos (by omega),List.getD_eq_getElem?_getD,List.getElem?_eq_none (by omega)]; simp
include hA hB lA lB hJ hW in
theorem Zad:∀ d js,js<J'→J'-js≤d→∀ i,i<a→v (b*J+(i*J'+js))=0:=by
  intro d
  induction d with
  | zero=>intro js hi hd; omega
  |
   succ d ih =>
   intro js hjs hd i hi
   have hin:∀ i' k,i'<a→(sm J' fun j1=>A2 i' j1 (gc B) k (js+b)*v (b*J+(i'*J'+j1)))=if i'=k then gc B 0 b*v (b*J+(i'*J'+js)) else 0:=fun i' k hi'=>by
     rw [Qbr (k:=js) J' hjs fun j1 hj1 hne=>?_]
     · unfold A2
       by_cases h:i'≤k
       · rw [if_pos h,if_pos (by omega),Nat.add_sub_cancel_left]
         by_cases h':i'=k
         · rw [if_pos h',h',Nat.sub_self]
         · rw [if_neg h',Im B _ _ (by omega),Int.zero_mul]
       · rw [if_neg h,if_neg (by omega),Int.zero_mul]
     · rcases Nat.lt_or_ge js j1 with h | h
       · rw [ih j1 hj1 (by omega) i' hi',Int.mul_zero]
       · unfold A2
         by_cases h':i'≤k
         · rw [if_pos h',if_pos (by omega),Im B _ _ (by omega),Int.zero_mul]
         · rw [if_neg h',Int.zero_mul]
   have hU:=Q5q hA lA hW (jj:=js+b) (by omega) (fun k hk hk'=>My a fun i' hi'=>by rw [hin i' k hi',if_neg (by omega)]) (b+1)
   have h1:=hW i (js+b) (by omega) (by omega)
   rw [Qeb,Ul a (fun i' hi'=>hin i' i hi')] at h1
   rw [My b fun i' hi'=>by
     rw [Q98 A v (by omega),hU i' hi' (by omega)]; simp] at h1
   rw [Qbr (k:=i) a hi fun i' hi' hne=>if_neg hne,if_pos rfl,Int.zero_add] at h1
   rcases Int.mul_eq_zero.1 h1 with h2 | h2
   · have:=Qw6 B b hB; rw [h2] at this; omega
   · exact h2
include hA hB lA lB hJ hW in
theorem Qt6:∀ n,n<b*J+a*J'→v n=0:=by
  intro n hn
  have hV:=Zad hA hB lA lB hJ hW
  rcases Nat.lt_or_ge n (b*J) with h | h
  · have hJp:0<J:=by
      rcases Nat.eq_zero_or_pos J with e | e
      · rw [e,Nat.mul_zero] at h; omega
      · exact e
    have e1:=Nat.mod_lt n hJp
    have e2:n / J<b:=Nat.div_lt_of_lt_mul (by rw [Nat.mul_comm]; exact h)
    have:=Q5q hA lA hW e1 (fun k _ _=>My a fun i hi=>My J' fun j1 hj1=>by rw [hV J' j1 hj1 (by omega) i hi,Int.mul_zero]) (b+1) (n / J) e2 (Nat.le_trans (Nat.sub_le _ _) (Nat.le_succ _))
    rwa [Nat.mul_comm,Nat.div_add_mod] at this
  · have hJp:0<J':=by
      rcases Nat.eq_zero_or_pos J' with e | e
      · rw [e,Nat.mul_zero] at hn; omega
      · exact e
    have e1:=Nat.mod_lt (n-b*J) hJp
    have e2:(n-b*J) / J'<a:=Nat.div_lt_of_lt_mul (by rw [Nat.mul_comm J' a]; omega)
    have:=hV J' _ e1 (by omega) _ e2
    rw [Nat.mul_comm ((n-b*J) / J'),Nat.div_add_mod] at this
    rwa [show b*J+(n-b*J)=n by omega] at this
end
theorem Mt {R x:Rat} (h1:1≤R) (hx:Qm x≤R):∀ k:Nat,Qm (x^k)≤R^k∧1≤R^k
  | 0=>by rw [Rat.pow_zero,Rat.pow_zero]; exact ⟨by decide,by decide⟩
  |
   k+1=>by
   obtain ⟨i1,i2⟩:=Mt h1 hx k
   rw [Rat.pow_succ,Rat.pow_succ]
   have:=Kv (a:=1) (c:=1) (by decide) i2 (by decide) h1
   exact ⟨Zr i1 hx,by grind⟩
theorem Qqu {R:Rat} (h1:1≤R) {i:Nat}:∀ k,i≤k→R^i≤R^k
  | 0,h=>by rw [show i=0 by omega]; exact Rat.le_refl
  |
   k+1,h=>by
   rcases Nat.lt_or_eq_of_le h with e | e
   · have:=Qqu h1 (i:=i) k (by omega)
     have h2:=(Mt h1 (x:=0) (by rw [Xt]; grind) k).2
     rw [Rat.pow_succ]
     have:=Kv (a:=R^k) (b:=R^k) (c:=1) (d:=R) (by grind) Rat.le_refl (by decide) h1
     grind
   · rw [e]; exact Rat.le_refl
theorem Qzw {F:Nat→Nat→Int} {i j' K J:Nat} {x y R X:Rat} {K2 J2:Nat} (h1:1≤R) (hx:Qm x≤R) (hy:Qm y≤R) (hK:K=i+K2) (hJ:J=j'+J2) (hF:E2 F K2 J2 x y=X):Qm (E2 (A2 i j' F) K J x y)≤R^(K+J)*Qm X:=by
  subst hK; subst hJ
  rw [Qag,hF,G5]
  have a1:=(Mt h1 hy i).1
  have a2:=(Mt h1 hx j').1
  have a3:=Zr a1 a2
  rw [←Dm] at a3
  have a4:=Qqu h1 (i:=i+j') (i+K2+(j'+J2)) (by omega)
  exact Kv (Xc _) (Rat.le_trans a3 a4) (Xc _) Rat.le_refl
theorem Q8n {A B:List Int} {a b h:Nat} (hA:A.length=a+1) (hB:B.length=b+1) (lA:A.getD a 0≠0) (lB:B.getD b 0≠0) (ha:0<a) (hb:0<b) (h0:1≤h) (bA:∀ k,(A.getD k 0).natAbs≤h) (bB:gB B≤h) {J J' N H:Nat} (hJ:J=2*(a*b)) (hJ':J=J'+b) (hN:N=b*J+a*J') (hH:H=(2*(N*h))^(2*(a+b-1))) :
    ∃ w:Nat→Int,(∃ j,j<J∧w j≠0)∧(∀ j,(w j).natAbs≤N*(h*H))∧∀ R:Rat,1≤R→∃ C:Rat,0≤C∧∀ x y,Qm x≤R→Qm y≤R→Qm (sq J fun j=>(w j:Rat)*x^j)≤C*(Qm (Qh A y)+Qm (Qh B (y-x))):=by
  have hab:0<a*b:=Nat.mul_pos ha hb
  have hbd:∀ n k j,(phi A B b J J' n k j).natAbs≤h:=fun n k j=>by
    unfold phi
    split
    · exact Qzx (fun k j=>by unfold fA; split; exact bA k; exact Nat.zero_le _) _ _ _ _
    · exact Qzx (fun k j=>Nat.le_trans (Qw5 B k j) bB) _ _ _ _
  have hJp:0<J:=by omega
  have hNp:1≤N:=by
    have:0<b*J:=Nat.mul_pos hb hJp
    omega
  have hNh:1≤N*h:=Nat.mul_pos hNp h0
  obtain ⟨E,hE⟩:∃ E,E=(a+b-1)*J:=⟨_,rfl⟩
  have hNE:N=E+a*b:=by
    have e1:(a+b-1)*J+J=(a+b)*J:=by
      rw [←Nat.succ_mul]; congr 1; omega
    have e2:a*J=a*J'+a*b:=by rw [hJ',Nat.mul_add]
    rw [Nat.add_mul] at e1
    omega
  have hc:(2*(N*(h*H))+1)^E<(H+1)^N:=by
    have c1:2*(N*(h*H))+1≤2*(N*h)*(H+1):=by
      rw [Nat.mul_add,Nat.mul_one,Nat.mul_assoc 2,Nat.mul_assoc N]; omega
    refine Nat.lt_of_le_of_lt (Nat.pow_le_pow_left c1 E) ?_
    rw [Nat.mul_pow,hNE,Nat.pow_add,Nat.mul_comm]
    refine Nat.mul_lt_mul_of_pos_left ?_ (Nat.pow_pos (by omega))
    have e1:(2*(N*h))^E=H^(a*b):=by
      rw [hH,←Nat.pow_mul,hE,hJ]; congr 1
      rw [Nat.mul_comm 2 (a+b-1),Nat.mul_assoc]
    rw [←hNE,e1]
    exact Nat.pow_lt_pow_left (by omega) (by omega)
  obtain ⟨v,v1,⟨n0,n1,n2⟩,v3⟩:=Q8r (M:=fun e n=>phi A B b J J' n (e / J+1) (e % J)) (h:=h) (N:=N) (E:=E) (H:=H) (fun e n=>hbd n _ _) hc
  have hW:∀ k j,1≤k→k<a+b→j<J→sm N (fun n=>phi A B b J J' n k j*v n)=0:=fun k j k1 k2 hj=>by
    have:=v3 ((k-1)*J+j) (by rw [hE]; exact Q50 (by omega) hj)
    rwa [(L6 hj).1,(L6 hj).2,show k-1+1=k by omega] at this
  refine ⟨fun j=>sm N fun n=>phi A B b J J' n 0 j*v n,?_,fun j=>?_,fun R hR=>?_⟩
  · rcases Classical.em (∃ j,j<J∧(sm N fun n=>phi A B b J J' n 0 j*v n)≠0) with e | e
    · exact e
    · exfalso
      refine n2 (Qt6 hA hB lA lB hJ' (v:=v) (fun k j hk hj=>?_) n0 (by rw [←hN]; exact n1))
      rw [←hN]
      rcases Nat.eq_zero_or_pos k with e' | e'
      · subst e'
        rcases Classical.em ((sm N fun n=>phi A B b J J' n 0 j*v n)=0) with e2 | e2
        · exact e2
        · exact absurd ⟨j,hj,e2⟩ e
      · exact hW k j e' hk hj
  · refine Qz2 N fun n _=>?_
    rw [Int.natAbs_mul]
    exact Nat.mul_le_mul (hbd n 0 j) (v1 n)
  · have hRp:∀ k:Nat,1≤R^k:=fun k=>(Mt hR (x:=0) (by rw [Xt]; grind) k).2
    have hHn:(0:Rat)≤(H:Rat):=Rat.natCast_nonneg
    have hNn:(0:Rat)≤(N:Rat):=Rat.natCast_nonneg
    refine ⟨(N:Rat)*((H:Rat)*R^(a+b+J)),V5 hNn (V5 hHn (by have:=hRp (a+b+J); grind)),fun x y hx hy=>?_⟩
    have e1:(sq J fun j=>((sm N fun n=>phi A B b J J' n 0 j*v n:Int):Rat)*x^j)=E2 (fun k j=>sm N fun n=>phi A B b J J' n k j*v n) (a+b) J x y:=by
      unfold E2
      obtain ⟨m,hm⟩:∃ m,a+b=m+1:=⟨a+b-1,by omega⟩
      rw [hm,Rm,Wb (n:=m)]
      · have:(sq J fun j=>((sm N fun n=>phi A B b J J' n 0 j*v n:Int):Rat)*(y^0*x^j))=sq J fun j=>((sm N fun n=>phi A B b J J' n 0 j*v n:Int):Rat)*x^j:=Yg J fun j _=>by rw [Rat.pow_zero]; grind
        rw [this]; grind
      · intro k hk
        refine Wb J fun j hj=>?_
        show ((sm N fun n=>phi A B b J J' n (k+1) j*v n:Int):Rat)*_=0
        rw [hW (k+1) j (by omega) (by omega) hj,show ((0:Int):Rat)=0 from rfl]; grind
    rw [e1,Qwo]
    have key:∀ n,n<N→Qm ((v n:Rat)*E2 (phi A B b J J' n) (a+b) J x y)≤(H:Rat)*(R^(a+b+J)*(Qm (Qh A y)+Qm (Qh B (y-x)))):=fun n hn=>by
      have hvn:Qm (v n:Rat)≤(H:Rat):=by
        have h1:=v1 n
        have h2:(v n)≤(H:Int):=by omega
        have h3:-(H:Int)≤v n:=by omega
        have h2:=Rat.intCast_le_intCast.2 h2
        have h3:=Rat.intCast_le_intCast.2 h3
        rw [Rat.intCast_neg] at h3
        rw [Y5]; exact ⟨h3,h2⟩
      refine Zr hvn ?_
      have hRk:=hRp (a+b+J)
      have n1:=Xc (Qh A y)
      have n2:=Xc (Qh B (y-x))
      rcases Nat.lt_or_ge n (b*J) with h | h
      · have e:phi A B b J J' n=A2 (n / J) (n % J) (fA A):=by funext k j; unfold phi; rw [if_pos h]
        have d1:n / J<b:=Nat.div_lt_of_lt_mul (by rw [Nat.mul_comm]; exact h)
        have d2:=Nat.mod_lt n hJp
        rw [e]
        refine Rat.le_trans (Qzw (K2:=a+b-n / J) (J2:=J-n % J) hR hx hy (by omega) (by omega) (X:=Qh A y) ?_) (Kv (by grind) Rat.le_refl n1 (by grind))
        obtain ⟨m,hm⟩:∃ m,J-n % J=m+1:=⟨J-n % J-1,by omega⟩
        rw [hm]; exact Zaf A _ _ x y (by omega)
      · have e:phi A B b J J' n=A2 ((n-b*J) / J') ((n-b*J) % J') (gc B):=by funext k j; unfold phi; rw [if_neg (by omega)]
        have hJp':0<J':=by
          rcases Nat.eq_zero_or_pos J' with e | e
          · rw [e,Nat.mul_zero] at hN; omega
          · exact e
        have d1:(n-b*J) / J'<a:=Nat.div_lt_of_lt_mul (by rw [Nat.mul_comm J' a]; omega)
        have d2:=Nat.mod_lt (n-b*J) hJp'
        rw [e]
        refine Rat.le_trans (Qzw (K2:=a+b-(n-b*J) / J') (J2:=J-(n-b*J) % J') hR hx hy (by omega) (by omega) (X:=Qh B (y-x)) ?_) (Kv (by grind) Rat.le_refl n2 (by grind))
        exact Q7i x y B _ _ (by omega) (by omega)
    have:=Q6b N key
    refine Rat.le_trans this ?_
    have:(N:Rat)*((H:Rat)*(R^(a+b+J)*(Qm (Qh A y)+Qm (Qh B (y-x)))))=(N:Rat)*((H:Rat)*R^(a+b+J))*(Qm (Qh A y)+Qm (Qh B (y-x))):=by grind
    rw [this]; exact Rat.le_refl
end Orq

namespace Orq
theorem Qz6 {w:Nat→Int} {x:Rat} {D:Rat} (hx:Qm x*2≤1) (hw:∀ j,Qm (w j:Rat)≤D):∀ J (k:Nat),Qm (sq J fun j=>(w (k+j):Rat)*x^j)≤2*D
  | 0,k=>by have:=hw 0; have:=Xc (w 0:Rat); simp only [sq,Xt]; clear hw; grind
  |
   J+1,k=>by
   have ih:=Qz6 hx hw J (k+1)
   rw [Rm]
   have e:(sq J fun i=>(w (k+(i+1)):Rat)*x^(i+1))=x*sq J fun i=>(w (k+1+i):Rat)*x^i:=by
     rw [←P6]; exact Yg J fun i _=>by rw [Rat.pow_succ,show k+(i+1)=k+1+i by omega]; grind
   rw [e,Rat.pow_zero,Nat.add_zero]
   have h1:=hw k
   have h2:=Ju ((w k:Rat)*1) (x*sq J fun i=>(w (k+1+i):Rat)*x^i)
   have h3:=Zr (x:=x) (y:=sq J fun i=>(w (k+1+i):Rat)*x^i) Rat.le_refl ih
   have h4:=Rat.mul_le_mul_of_nonneg_right hx (show (0:Rat)≤D by have:=Xc (w k:Rat); clear hw; grind)
   have h5:(w k:Rat)*1=w k:=by grind
   rw [h5] at h2 ⊢
   clear hw; grind
theorem Bh {z:Int} (h:z≠0):1≤Qm (z:Rat):=by
  unfold Qm
  rcases Int.lt_or_lt_of_ne h with h | h
  · have:((z:Int):Rat)<((0:Int):Rat):=Rat.intCast_lt_intCast.2 h
    have h2:((1:Int):Rat)≤((-z:Int):Rat):=Rat.intCast_le_intCast.2 (by omega)
    rw [if_pos (by simpa using this)]
    rw [Rat.intCast_neg] at h2
    simpa using h2
  · have:((0:Int):Rat)<((z:Int):Rat):=Rat.intCast_lt_intCast.2 h
    have h2:((1:Int):Rat)≤((z:Int):Rat):=Rat.intCast_le_intCast.2 (by omega)
    rw [if_neg (by
     have:(0:Rat)<z:=by simpa using this
     grind)]
    simpa using h2
theorem Qme {w:Nat→Int} {x:Rat} {D:Rat} (hD:1≤D) (hx0:0<Qm x) (hx:Qm x*(4*D)≤1) (hw:∀ j,Qm (w j:Rat)≤D):∀ J (k:Nat),(∃ j,j<J∧w (k+j)≠0)→Qm x^J / 2≤Qm (sq J fun j=>(w (k+j):Rat)*x^j)
  | 0,k,⟨j,h,_⟩=>by omega
  |
   J+1,k,⟨j,h1,h2⟩=>by
   have hx2:Qm x*2≤1:=by
     have:=Kv (a:=Qm x) (c:=2) (Rat.le_of_lt hx0) Rat.le_refl (by decide) (show (2:Rat)≤4*D by clear hw; grind)
     exact Rat.le_trans this hx
   have hx1:Qm x≤1:=by clear hw; grind
   have hp:∀ k:Nat,Qm x^k≤1∧0≤Qm x^k:=fun k=>by
     induction k with
     | zero=>rw [Rat.pow_zero]; exact ⟨by decide,by decide⟩
     |
      succ k ih =>
      rw [Rat.pow_succ]
      have:=Kv ih.2 ih.1 (Rat.le_of_lt hx0) hx1
      have:=V5 ih.2 (Rat.le_of_lt hx0)
      constructor <;> (clear hw; grind)
   rw [Rm]
   have e:(sq J fun i=>(w (k+(i+1)):Rat)*x^(i+1))=x*sq J fun i=>(w (k+1+i):Rat)*x^i:=by
     rw [←P6]; exact Yg J fun i _=>by rw [Rat.pow_succ,show k+(i+1)=k+1+i by omega]; grind
   rw [e,Rat.pow_zero,Nat.add_zero k,show (w k:Rat)*1=w k by grind]
   by_cases h0:w k=0
   · have hj:j≠0:=fun e=>h2 (by rw [e]; exact h0)
     have ih:=Qme hD hx0 hx hw J (k+1) ⟨j-1,by omega,by rw [show k+1+(j-1)=k+j by omega]; exact h2⟩
     rw [h0,show ((0:Int):Rat)+x*(sq J fun i=>(w (k+1+i):Rat)*x^i)=x*sq J fun i=>(w (k+1+i):Rat)*x^i by rw [show ((0:Int):Rat)=0 from rfl]; grind,G5,Rat.pow_succ]
     have:=Rat.mul_le_mul_of_nonneg_left ih (Rat.le_of_lt hx0)
     have e2:Qm x*(Qm x^J / 2)=Qm x^J*Qm x / 2:=by rw [Rat.div_def,Rat.div_def]; grind
     rw [e2] at this; exact this
   · have a1:=Bh h0
     have a2:=Qz6 hx2 hw J (k+1)
     have a3:=Zr (x:=x) (y:=sq J fun i=>(w (k+1+i):Rat)*x^i) Rat.le_refl a2
     have a4:=Ju ((w k:Rat)+x*sq J fun i=>(w (k+1+i):Rat)*x^i) (-(x*sq J fun i=>(w (k+1+i):Rat)*x^i))
     rw [U9,show (w k:Rat)+(x*sq J fun i=>(w (k+1+i):Rat)*x^i)+-(x*sq J fun i=>(w (k+1+i):Rat)*x^i)=w k by grind] at a4
     have a5:=(hp (J+1)).1
     have a6:Qm x^(J+1) / 2*2=Qm x^(J+1):=Zt (by decide)
     have a7:Qm x*(2*D)*2=Qm x*(4*D):=by grind
     clear hw hp; grind
theorem Q7r {A B:List Int} {a b h:Nat} (hA:A.length=a+1) (hB:B.length=b+1) (lA:A.getD a 0≠0) (lB:B.getD b 0≠0) (ha:0<a) (hb:0<b) (h0:1≤h) (bA:∀ k,(A.getD k 0).natAbs≤h) (bB:gB B≤h) {N D:Nat} (hN:b*(2*(a*b))+a*(2*(a*b)-b)=N) (hD:N*(h*(2*(N*h))^(2*(a+b-1)))≤D) {R d:Rat} (hR:1≤R) (dp:0<d)
    (hs:∀ e:Rat,0<e→∃ q r,Qm q≤R∧Qm r≤R∧d≤Qm (q-r)∧Qm (q-r)*(4*(D:Rat))≤1∧Qm (Qh A q)<e∧Qm (Qh B r)<e):False:=by
  have hab:0<a*b:=Nat.mul_pos ha hb
  have hbab:b≤a*b:=by
    have:=Nat.mul_le_mul_right b (show 1≤a from ha); omega
  obtain ⟨w,⟨j,hj,hw0⟩,hw,hC⟩:=Q8n hA hB lA lB ha hb h0 bA bB (J:=2*(a*b)) (J':=2*(a*b)-b) rfl (by omega) hN.symm rfl
  obtain ⟨C,hC0,hC⟩:=hC (2*R) (by grind)
  have hw':∀ j,Qm (w j:Rat)≤(D:Rat):=fun j=>by
    have h1:=Nat.le_trans (hw j) hD
    have h2:w j≤(D:Int):=by omega
    have h3:-(D:Int)≤w j:=by omega
    have h2:=Rat.intCast_le_intCast.2 h2
    have h3:=Rat.intCast_le_intCast.2 h3
    rw [Rat.intCast_neg] at h3
    rw [Y5]; exact ⟨h3,h2⟩
  have hD1:(1:Rat)≤(D:Rat):=by
    have:=Bh hw0
    exact Rat.le_trans this (hw' j)
  have hdJ:0<d^(2*(a*b)) / 2:=Fu (Rat.pow_pos dp) (by decide)
  obtain ⟨e,ep,_,he⟩:=Zv (b:=C*2) (d:=d^(2*(a*b)) / 2) (by grind) hdJ
  obtain ⟨q,r,q1,r1,d1,d2,aq,br⟩:=hs e ep
  have h1:=hC (q-r) q (by
   have:=Ju q (-r); rw [U9] at this; have:q-r=q+-r:=by grind
   grind) (by grind)
  rw [show q-(q-r)=r by grind] at h1
  have h2:=Qme (x:=q-r) hD1 (by grind) d2 hw' (2*(a*b)) 0 ⟨j,hj,by rw [Nat.zero_add]; exact hw0⟩
  simp only [Nat.zero_add] at h2
  have h3:C*(Qm (Qh A q)+Qm (Qh B r))≤C*(e+e):=Rat.mul_le_mul_of_nonneg_left (by grind) hC0
  have h4:d^(2*(a*b))≤Qm (q-r)^(2*(a*b)):=by
    generalize 2*(a*b)=J
    induction J with
    | zero=>rw [Rat.pow_zero,Rat.pow_zero]; exact Rat.le_refl
    |
     succ J ih =>
     rw [Rat.pow_succ,Rat.pow_succ]
     exact Kv (Rat.le_of_lt (Rat.pow_pos dp)) ih (Rat.le_of_lt dp) d1
  have h5:d^(2*(a*b)) / 2*2=d^(2*(a*b)):=Zt (by decide)
  have h6:Qm (q-r)^(2*(a*b)) / 2*2=Qm (q-r)^(2*(a*b)):=Zt (by decide)
  clear hC hs hw hw'
  grind
end Orq

namespace Orq
def HD (p:List Rat) (n:Nat):Prop:=p.getD n 0≠0∧∀ k,n<k→p.getD k 0=0
theorem Xu:∀ (p q:List Rat) (k:Nat),(Jv p q).getD k 0=p.getD k 0+q.getD k 0
  | [],q,k=>by simp only [Jv,List.getD_nil]; grind
  | a::p,[],k=>by simp only [Jv,List.getD_nil]; grind
  | a::p,b::q,0=>by simp only [Jv,List.getD_cons_zero]
  | a::p,b::q,k+1=>by simp only [Jv,List.getD_cons_succ]; exact Xu p q k
theorem Jt (c:Rat):∀ (p:List Rat) (k:Nat),(Uc c p).getD k 0=c*p.getD k 0
  | [],k=>by simp only [Uc,List.map_nil,List.getD_nil]; grind
  | a::p,0=>by simp [Uc]
  | a::p,k+1=>by have:=Jt c p k; simp only [Uc,List.map_cons,List.getD_cons_succ] at *; exact this
theorem Qxd {p:List Rat} {k:Nat} (h:∀ x∈p,x=0):p.getD k 0=0:=by
  rw [List.getD_eq_getElem?_getD]
  cases e:p[k]? with
  | none=>rfl
  | some x=>exact h x (List.mem_of_getElem? e)
theorem W8 {p q:List Rat} (h:∀ t,ev p t=ev q t) (k:Nat):p.getD k 0=q.getD k 0:=by
  have h1:=Qxd (k:=k) (By (p:=Jv p (Uc (-1) q)) fun t _ _=>by rw [Zl,Zb,h t]; grind)
  rw [Xu,Jt] at h1; grind
theorem Ug:∀ {p:List Rat},(∀ k,p.getD k 0=0)→∀ t,ev p t=0
  | [],_,t=>rfl
  |
   a::p,h,t=>by
   have h0:=h 0
   have h1:=Ug (p:=p) (fun k=>by have:=h (k+1); rwa [List.getD_cons_succ] at this) t
   rw [List.getD_cons_zero] at h0
   simp only [ev,h0,h1]; grind
theorem Qav:∀ (p:List Rat),(∀ t,ev p t=0)∨∃ n,n<p.length∧HD p n
  | []=>.inl fun _=>rfl
  |
   a::p=>by
   rcases Qav p with h | ⟨n,hn,h1,h2⟩
   · rcases Classical.em (a=0) with e | e
     · exact .inl fun t=>by simp only [ev,e,h t]; grind
     · refine .inr ⟨0,by simp,by simpa using e,fun k hk=>?_⟩
       obtain ⟨m,rfl⟩:∃ m,k=m+1:=⟨k-1,by omega⟩
       rw [List.getD_cons_succ]
       exact (W8 (p:=p) (q:=[]) h m).trans (by simp)
   · refine .inr ⟨n+1,by simp; omega,by rw [List.getD_cons_succ]; exact h1,fun k hk=>?_⟩
     obtain ⟨m,rfl⟩:∃ m,k=m+1:=⟨k-1,by omega⟩
     rw [List.getD_cons_succ]; exact h2 m (by omega)
theorem Q5y {p q:List Rat} {n:Nat} (h:∀ t,ev p t=ev q t) (hp:HD p n):HD q n :=
  ⟨by rw [←W8 h]; exact hp.1,fun k hk=>by rw [←W8 h]; exact hp.2 k hk⟩
theorem Q5z {p:List Rat} {n m:Nat} (h:HD p n) (h':HD p m):n=m:=by
  rcases Nat.lt_trichotomy n m with e | e | e
  · exact absurd (h.2 m e) h'.1
  · exact e
  · exact absurd (h'.2 n e) h.1
theorem Qpi {p:List Rat} {n:Nat} (h:HD p n):¬∀ t,ev p t=0:=fun h0=>h.1 ((W8 (p:=p) (q:=[]) h0 n).trans (by simp))
theorem Ae {p q:List Rat} (h:∀ k,p.getD k 0=0) (k:Nat):(Zo p q).getD k 0=0:=by
  have:=W8 (p:=Zo p q) (q:=[]) (fun t=>by rw [Qk,Ug h t]; simp only [ev]; grind) k
  rw [this]; simp
theorem Qaw:∀ {p q:List Rat} {m n:Nat},HD p m→HD q n→HD (Zo p q) (m+n)
  | [],q,m,n,h,_=>absurd (by simp) h.1
  |
   a::p,q,0,n,h,h'=>by
   have h1:∀ k,p.getD k 0=0:=fun k=>by have:=h.2 (k+1) (by omega); rwa [List.getD_cons_succ] at this
   have h2:∀ k,(Zo (a::p) q).getD k 0=a*q.getD k 0:=fun k=>by
     simp only [Zo]
     rw [Xu,Jt]
     cases k with
     | zero=>rw [List.getD_cons_zero]; grind
     | succ k=>rw [List.getD_cons_succ,Ae h1]; grind
   have h3:=h.1
   rw [List.getD_cons_zero] at h3
   refine ⟨?_,fun k hk=>?_⟩
   · rw [h2,Nat.zero_add]; exact fun h=>(Rat.mul_eq_zero.1 h).elim h3 h'.1
   · rw [h2,h'.2 k (by omega)]; grind
  |
   a::p,q,m+1,n,h,h'=>by
   have ih:=Qaw (p:=p) (q:=q) (m:=m) ⟨by have:=h.1; rwa [List.getD_cons_succ] at this,fun k hk=>by have:=h.2 (k+1) (by omega); rwa [List.getD_cons_succ] at this⟩ h'
   refine ⟨?_,fun k hk=>?_⟩
   · simp only [Zo]
     rw [Xu,Jt,show m+1+n=(m+n)+1 by omega,List.getD_cons_succ,h'.2 _ (by omega)]
     have:=ih.1; grind
   · obtain ⟨j,rfl⟩:∃ j,k=j+1:=⟨k-1,by omega⟩
     simp only [Zo]
     rw [Xu,Jt,List.getD_cons_succ,h'.2 _ (by omega),ih.2 j (by omega)]; grind
def Sj (g f:List Rat):Prop:=∃ u,∀ t,ev f t=ev g t*ev u t
theorem dvd_refl (f:List Rat):Sj f f:=⟨[1],fun t=>by rw [X7]; grind⟩
theorem dvd_trans {f g h:List Rat}:Sj f g→Sj g h→Sj f h
  | ⟨u,hu⟩,⟨v,hv⟩=>⟨Zo u v,fun t=>by rw [hv,hu,Qk]; grind⟩
theorem Qi8 {p q:List Rat} (h:∀ t,ev p t*ev q t=0) (hp:¬∀ t,ev p t=0):∀ t,ev q t=0:=by
  rcases Qav p with h1 | ⟨m,_,h1⟩
  · exact absurd h1 hp
  · rcases Qav q with h2 | ⟨n,_,h2⟩
    · exact h2
    · exact absurd (fun t=>by rw [Qk]; exact h t) (Qpi (Qaw h1 h2))
theorem Qlq {p q r:List Rat} (hp:¬∀ t,ev p t=0) (h:∀ t,ev p t*ev q t=ev p t*ev r t) (t:Rat):ev q t=ev r t:=by
  have:=Qi8 (p:=p) (q:=Jv q (Uc (-1) r)) (fun t=>by rw [Zl,Zb]; have:=h t; grind) hp t
  rw [Zl,Zb] at this; grind
theorem Qwg {b:List Rat} {n:Nat} (hb:HD b n):∀ (l:Nat) (a:List Rat),(∀ k,l≤k→a.getD k 0=0)→∃ q r,(∀ t,ev a t=ev q t*ev b t+ev r t)∧∀ k,n≤k→r.getD k 0=0
  | 0,a,ha=>⟨[],a,fun t=>by simp only [ev]; grind,fun k _=>ha k (Nat.zero_le _)⟩
  |
   l+1,a,ha=>by
   rcases Nat.lt_or_ge l n with h | h
   · exact ⟨[],a,fun t=>by simp only [ev]; grind,fun k hk=>ha k (by omega)⟩
   · -- the leading term is taken away
     obtain ⟨c,hc⟩:∃ c,c=a.getD l 0 / b.getD n 0:=⟨_,rfl⟩
     have hcb:c*b.getD n 0=a.getD l 0:=by rw [hc]; exact Rat.div_mul_cancel hb.1
     obtain ⟨m,hm⟩:∃ m:List Rat,m=List.replicate (l-n) 0++[c]:=⟨_,rfl⟩
     have hsh:∀ (i:Nat) (k:Nat),(Zo (List.replicate i 0++[c]) b).getD k 0=if i≤k then c*b.getD (k-i) 0 else 0:=fun i=>by
       induction i with
       | zero=>intro k; simp only [List.replicate_zero,List.nil_append,Zo]; rw [Xu,Jt]; cases k <;> simp <;> grind
       |
        succ i ih =>
        intro k
        simp only [List.replicate_succ,List.cons_append,Zo]
        rw [Xu,Jt]
        cases k with
        | zero=>rw [List.getD_cons_zero,if_neg (by omega)]; grind
        |
         succ k =>
         rw [List.getD_cons_succ,ih k]
         by_cases h:i≤k
         · rw [if_pos h,if_pos (by omega),Nat.add_sub_add_right]; grind
         · rw [if_neg h,if_neg (by omega)]; grind
     obtain ⟨q,r,h1,h2⟩:=Qwg hb l (Jv a (Uc (-1) (Zo m b))) fun k hk=>by
       rw [Xu,Jt,hm,hsh,if_pos (by omega)]
       rcases Nat.lt_or_eq_of_le hk with e | e
       · rw [ha k (by omega),hb.2 _ (by omega)]; grind
       · subst e; rw [show l-(l-n)=n by omega,hcb]; grind
     refine ⟨Jv q m,r,fun t=>?_,h2⟩
     have:=h1 t
     rw [Zl,Zb,Qk] at this
     rw [Zl]; grind
theorem Ql2:∀ (n:Nat) (a b:List Rat),(∀ k,n≤k→b.getD k 0=0)→∃ g U V,Sj g a∧Sj g b∧∀ t,ev g t=ev U t*ev a t+ev V t*ev b t
  |
   0,a,b,h=>by
   have h0:=Ug fun k=>h k (Nat.zero_le _)
   exact ⟨a,[1],[],dvd_refl a,⟨[],fun t=>by rw [h0]; simp only [ev]; grind⟩,fun t=>by rw [X7]; simp only [ev]; grind⟩
  |
   n+1,a,b,h=>by
   rcases Classical.em (b.getD n 0=0) with e | e
   · exact Ql2 n a b fun k hk=>by
       rcases Nat.lt_or_eq_of_le hk with e' | e'
       · exact h k (by omega)
       · rw [←e']; exact e
   · obtain ⟨q,r,h1,h2⟩:=Qwg (b:=b) (n:=n) ⟨e,fun k hk=>h k (by omega)⟩ a.length a fun k hk=>by rw [List.getD_eq_getElem?_getD,List.getElem?_eq_none hk]; rfl
     obtain ⟨g,U,V,⟨u,hu⟩,⟨v,hv⟩,hg⟩:=Ql2 n b r h2
     refine ⟨g,V,Jv U (Uc (-1) (Zo V q)),⟨Jv (Zo q u) v,fun t=>?_⟩,⟨u,hu⟩,fun t=>?_⟩
     · rw [h1,hv,Zl,Qk,hu]; grind
     · rw [hg,Zl,Zb,Qk,h1]; grind
theorem Qw8 (a b:List Rat):∃ g U V,Sj g a∧Sj g b∧∀ t,ev g t=ev U t*ev a t+ev V t*ev b t :=
  Ql2 b.length a b fun k hk=>by rw [List.getD_eq_getElem?_getD,List.getElem?_eq_none hk]; rfl
def Cop (a b:List Rat):Prop:=∃ U V,∀ t,ev U t*ev a t+ev V t*ev b t=1
theorem Qe2 {c d e:List Rat} (h:Cop c d) (h1:∃ u,∀ t,ev d t*ev e t=ev c t*ev u t):Sj c e:=by
  obtain ⟨U,V,h⟩:=h
  obtain ⟨u,hu⟩:=h1
  refine ⟨Jv (Zo U e) (Zo V u),fun t=>?_⟩
  rw [Zl,Qk,Qk]
  have a1:=h t
  have a2:=hu t
  have:ev e t=(ev U t*ev c t+ev V t*ev d t)*ev e t:=by rw [a1]; grind
  rw [this]
  have:(ev U t*ev c t+ev V t*ev d t)*ev e t=ev U t*ev c t*ev e t+ev V t*(ev d t*ev e t):=by grind
  rw [this,a2]; grind
def qpw (d:List Rat):Nat→List Rat
  | 0=>[1]
  | k+1=>Zo d (qpw d k)
theorem Qm2 (d:List Rat) (t:Rat):∀ k:Nat,ev d t*dv (qpw d k) t=(k:Rat)*(dv d t*ev (qpw d k) t)
  | 0=>by simp only [qpw,dv,ev]; rw [show ((0:Nat):Rat)=0 from rfl]; grind
  |
   k+1=>by
   have ih:=Qm2 d t k
   have hn':(((k+1:Nat):Rat))=(k:Rat)+1:=by push_cast; rfl
   simp only [qpw]
   rw [Qe9,Qk,hn']; grind
theorem Qy7 {d:List Rat} {m:Nat} (h:HD d m):∀ k,HD (qpw d k) (k*m)
  | 0=>by rw [Nat.zero_mul]; exact ⟨by simp [qpw],fun k hk=>by simp only [qpw]; rw [List.getD_eq_getElem?_getD,List.getElem?_eq_none (by simp; omega)]; rfl⟩
  | k+1=>by rw [Nat.succ_mul,Nat.add_comm (k*m) m]; exact Qaw h (Qy7 h k)
theorem Qdv {d g:List Rat} {m n:Nat} (hd:HD d m) (hg:HD g n) (h:∀ k,Sj (qpw d k) g):m=0:=by
  obtain ⟨u,hu⟩:=h (n+1)
  rcases Qav u with h1 | ⟨j,_,h1⟩
  · exact absurd (fun t=>by rw [hu,h1]; grind) (Qpi hg)
  · have:=Q5z (Q5y (fun t=>by rw [hu,Qk]) hg) (Qaw (Qy7 hd (n+1)) h1)
    rcases Nat.eq_zero_or_pos m with e | e
    · exact e
    · have:(n+1)*1≤(n+1)*m:=Nat.mul_le_mul_left _ e
      omega
theorem sqf {a g q d U V:List Rat} {k:Rat} (hk:k≠0) (ha:∀ t,ev a t=ev g t*ev q t) (hg:∀ t,k*ev g t=ev U t*ev a t+ev V t*dv a t) (h1:Sj d q) (h2:Sj d (V6 q)):∀ n,Sj (qpw d n) g
  | 0=>⟨g,fun t=>by simp only [qpw]; rw [X7]; grind⟩
  |
   n+1=>by
   obtain ⟨g1,e1⟩:=sqf hk ha hg h1 h2 n
   obtain ⟨q1,e2⟩:=h1
   obtain ⟨q2,e3⟩:=h2
   have d1:=fun t=>Te ha t
   have d2:=fun t=>Te e1 t
   have d3:=fun t=>Te e2 t
   have d4:=Qm2 d
   refine ⟨Uc (1 / k) (Jv (Zo U (Zo g1 q1)) (Zo V (Jv (Zo g1 q2) (Jv (Uc n (Zo g1 (Jv q2 (Uc (-1) (V6 q1))))) (Zo (V6 g1) q1))))),fun t=>?_⟩
   have hkk:1 / k*k=1:=Rat.div_mul_cancel hk
   simp only [qpw,Zb,Zl,Qk,Jd]
   have b1:=ha t; have b2:=hg t; have b3:=e1 t; have b4:=e2 t; have b5:=e3 t
   have b6:=d1 t; have b7:=d2 t; have b8:=d3 t; have b9:=d4 t n
   rw [Jd] at b5
   generalize ev d t=x0 at *
   generalize ev (qpw d n) t=x1 at *
   generalize ev g t=x2 at *
   generalize ev q t=x3 at *
   generalize ev a t=x4 at *
   generalize dv a t=x5 at *
   generalize dv g t=x6 at *
   generalize dv q t=x7 at *
   generalize ev g1 t=x8 at *
   generalize dv g1 t=x9 at *
   generalize ev q1 t=y0 at *
   generalize dv q1 t=y1 at *
   generalize ev q2 t=y2 at *
   generalize dv d t=y3 at *
   generalize dv (qpw d n) t=y4 at *
   generalize ev U t=y5 at *
   generalize ev V t=y6 at *
   generalize (n:Rat)=y7 at *
   have:x2=1 / k*(k*x2):=by grind
   rw [this,b2]
   have c1:x5=x0*x1*(x8*y2+(y7*(x8*(y2+-1*y1))+x9*y0)):=by
     rw [b6,b7,b4,b3]
     have:y3*y0=x0*y2-x0*y1:=by grind
     have:x0*y4*(x8*y0)=y7*(x1*x8*(x0*y2-x0*y1)):=by rw [b9,←this]; grind
     grind
   have c2:x4=x0*x1*(x8*y0):=by rw [b1,b3,b4]; grind
   rw [c1,c2]; grind
end Orq

namespace Orq
theorem Q2l {a b c:List Rat} (h1:Cop a b) (h2:Cop a c) {d:List Rat} (hd:∀ t,ev d t=ev b t*ev c t):Cop a d:=by
  obtain ⟨U,V,h1⟩:=h1
  obtain ⟨X,Y,h2⟩:=h2
  refine ⟨Jv U (Zo (Zo V b) X),Zo V Y,fun t=>?_⟩
  have a1:=h1 t
  have a2:=h2 t
  simp only [Zl,Qk,hd]
  have:ev V t*ev b t*(ev X t*ev a t+ev Y t*ev c t)=ev V t*ev b t:=by rw [a2]; grind
  grind
theorem Q4q {a g q z r X Y:List Rat} {n:Nat} (ha:∀ t,ev a t=ev g t*ev q t) (hz:∀ t,dv a t=ev g t*ev z t) (hg:HD g n) (hr:∀ t,ev X t*ev r t+ev Y t*dv r t=1) (h:Sj r a):Sj r q:=by
  obtain ⟨b,hb⟩:=h
  obtain ⟨e,U,V,⟨r1,e1⟩,⟨q3,e2⟩,e3⟩:=Qw8 r q
  have hr0:¬∀ t,ev r t=0:=fun h=>by
    have h1:=hr 0
    have h2:dv r 0=0:=by have:=Qwl (p:=r) (q:=[]) h 0; rw [this]; rfl
    rw [h,h2] at h1; grind
  have he0:¬∀ t,ev e t=0:=fun h=>hr0 fun t=>by rw [e1,h]; grind
  have d1:=fun t=>Te e1 t
  -- r1 has nothing in common with q3,with e,with its derivative
  have c1:Cop r1 q3:=⟨U,V,fun t=>by
    have:=Qlq (p:=e) (q:=Jv (Zo U r1) (Zo V q3)) (r:=[1]) he0 (fun t=>by
      rw [Zl,Qk,Qk,X7]
      have a1:=e1 t; have a2:=e2 t; have a3:=e3 t
      rw [a1,a2] at a3; grind) t
    rw [Zl,Qk,Qk,X7] at this; exact this⟩
  have c2:Cop r1 e:=⟨Jv (Zo X e) (Zo Y (V6 e)),Zo Y (V6 r1),fun t=>by
    have a1:=hr t; have a2:=e1 t; have a3:=d1 t
    simp only [Zl,Qk,Jd]
    rw [a2,a3] at a1; grind⟩
  have c3:Cop r1 (V6 r1):=⟨Jv (Zo X e) (Zo Y (V6 e)),Zo Y e,fun t=>by
    have a1:=hr t; have a2:=e1 t; have a3:=d1 t
    simp only [Zl,Qk,Jd]
    rw [a2,a3] at a1; grind⟩
  have c4:Cop r1 q:=Q2l c2 c1 e2
  have hgz:=Qpi hg
  -- so all its powers divide g
  have hp:∀ k,Sj (qpw r1 k) g:=fun k=>by
    induction k with
    | zero=>exact ⟨g,fun t=>by simp only [qpw]; rw [X7]; grind⟩
    |
     succ k ih =>
     obtain ⟨h,eh⟩:=ih
     have hpz:¬∀ t,ev (qpw r1 k) t=0:=fun h0=>hgz fun t=>by rw [eh,h0]; grind
     have key:Sj r1 h:=by
       cases k with
       |
        zero =>
        refine Qe2 c4 ⟨Zo e b,fun t=>?_⟩
        have a1:=ha t; have a2:=hb t; have a3:=e1 t; have a4:=eh t
        simp only [qpw] at a4
        rw [X7] at a4
        rw [Qk]; grind
       |
        succ k =>
        have hn:((k+1:Nat):Rat)≠0:=by
          have:(0:Rat)<((k+1:Nat):Rat):=by
            have h1:((0:Nat):Rat)<((k+1:Nat):Rat):=Rat.natCast_lt_natCast.2 (by omega)
            simpa using h1
          grind
        -- k r1' h q=r1 (..)
        have d2:=fun t=>Te (f:=a) (w:=qpw r1 (k+1)) (u:=Zo h q) (fun t=>by rw [ha,eh,Qk]; grind) t
        have d4:=Qm2 r1
        have h3:=Qlq (p:=qpw r1 (k+1)) (q:=Zo (V6 r1) (Zo h q)) (r:=Zo r1 (Uc (1 / ((k+1:Nat):Rat)) (Jv (Zo h z) (Uc (-1) (V6 (Zo h q)))))) hpz fun t=>by
          simp only [Qk,Zb,Zl,Jd]
          have a1:=d2 t; have a2:=d4 t (k+1); have a3:=hz t; have a4:=eh t
          rw [Qk] at a1
          generalize ((k+1:Nat):Rat)=c at *
          have hc:1 / c*c=1:=Rat.div_mul_cancel hn
          generalize ev (qpw r1 (k+1)) t=x0 at *
          generalize dv (qpw r1 (k+1)) t=x1 at *
          generalize dv (Zo h q) t=x2 at *
          generalize ev r1 t=x3 at *
          generalize dv r1 t=x4 at *
          generalize ev h t=x5 at *
          generalize ev q t=x6 at *
          generalize ev z t=x7 at *
          generalize dv a t=x8 at *
          generalize ev g t=x9 at *
          generalize 1 / c=c' at *
          have s1:x0*(x4*(x5*x6))=c'*(c*(x4*x0))*(x5*x6):=by
            have:c'*(c*(x4*x0))=(c'*c)*(x4*x0):=by grind
            rw [this,hc]; grind
          rw [s1,←a2]
          have s2:x3*(x1*(x5*x6))=x3*(x0*(x5*x7+-1*x2)):=by
            rw [a3,a4] at a1; grind
          grind
        refine Qe2 c4 ?_
        obtain ⟨u,hu⟩:=Qe2 (e:=Zo q h) c3 ⟨Uc (1 / ((k+1:Nat):Rat)) (Jv (Zo h z) (Uc (-1) (V6 (Zo h q)))),fun t=>by
          have:=h3 t
          simp only [Qk] at this ⊢
          rw [←this]; grind⟩
        exact ⟨u,fun t=>by rw [←hu,Qk]⟩
     obtain ⟨u,hu⟩:=key
     exact ⟨u,fun t=>by simp only [qpw]; rw [Qk,eh,hu]; grind⟩
  rcases Qav r1 with h1 | ⟨m,_,h1⟩
  · exact absurd (fun t=>by rw [e1,h1]; grind) hr0
  · obtain rfl:=Qdv h1 hg hp
    -- r1 is a number
    have h2:∀ t,ev r1 t=r1.getD 0 0:=fun t=>by
      cases r1 with
      | nil=>simp [ev]
      |
       cons c l =>
       have:∀ t,ev l t=0:=Ug fun k=>by have:=h1.2 (k+1) (by omega); rwa [List.getD_cons_succ] at this
       simp only [ev,this,List.getD_cons_zero]; grind
    have h3:=h1.1
    refine ⟨Uc (1 / r1.getD 0 0) q3,fun t=>?_⟩
    rw [e2,e1,h2,Zb]
    have:1 / r1.getD 0 0*r1.getD 0 0=1:=Rat.div_mul_cancel h3
    have:ev e t*r1.getD 0 0*(1 / r1.getD 0 0*ev q3 t)=ev e t*ev q3 t*(1 / r1.getD 0 0*r1.getD 0 0):=by grind
    rw [this,Rat.div_mul_cancel h3]; grind
def H8:List (List Rat)→List Rat
  | []=>[1]
  | w::l=>Zo w (H8 l)
def Lay:List (List Rat)→List (List Rat)→Prop
  | [],[]=>True
  | [w],[f]=>∀ t,ev w t=ev f t
  | w::v::l,f::fs=>(∀ t,ev w t=ev f t*ev v t)∧Lay (v::l) fs
  | _,_=>False
def Az:List (List Rat)→List Rat
  | []=>[1]
  | [f]=>f
  | f::_::l=>Zo f (Az l)
theorem Qpr:∀ {ws fs:List (List Rat)},Lay ws fs→∃ S,∀ t,ev (H8 ws) t=ev (Az fs) t*(ev S t*ev S t)
  | [],[],_=>⟨[1],fun t=>by simp only [H8,Az]; rw [X7]; grind⟩
  | [w],[f],h=>⟨[1],fun t=>by simp only [H8,Az]; rw [Qk,X7,h t]; grind⟩
  |
   [w,v],[f,f2],h=>⟨v,fun t=>by
   have h1:=h.1 t
   have h2:ev v t=ev f2 t:=h.2 t
   simp only [H8,Az,Qk]; rw [X7,h1]; grind⟩
  |
   w::v::x::l,f::f2::fs,h=>by
   obtain ⟨S,hS⟩:=Qpr h.2.2
   refine ⟨Zo v S,fun t=>?_⟩
   have h1:=h.1 t
   have h2:=hS t
   have e1:ev (H8 (w::v::x::l)) t=ev w t*(ev v t*ev (H8 (x::l)) t):=by simp only [H8,Qk]
   rw [e1,h2,h1]
   have e2:ev (Az (f::f2::fs)) t=ev f t*ev (Az fs) t:=by
     cases fs with
     | nil=>cases l <;> exact False.elim h.2.2
     | cons y l=>simp only [Az,Qk]
   rw [e2,Qk]; grind
  | [w],[],h=>h.elim
  | [w],_::_::_,h=>h.elim
  | [],_::_,h=>h.elim
  | [w,v],[f],h=>h.2.elim
  | [w,v],_::_::_::_,h=>h.2.elim
  | w::v::x::l,[f],h=>h.2.elim
  | w::v::l,[],h=>h.elim
end Orq
