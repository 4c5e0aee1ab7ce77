/- F3 F4 F5 T1 T2 T3 T4 T5 T6 T7 T8 T9 T10 T11 T12 T13 -/
import Derived.Test.YtbnjginelkkonaaGreatPart05
set_option linter.all false
namespace Orr
open Go Go.Proofs
set_option maxRecDepth 10000
structure Tb (t:Tm):Prop where
  p:Pb t.p
  lo:Qb t.lo
  hi:Qb t.hi
theorem Qo3 (x y:Int):-1≤Kk x y∧Kk x y≤1:=by unfold Kk; split <;> (try split) <;> omega
theorem Tc (a b:Rat):-1≤Z2 a b∧Z2 a b≤1:=Qo3 _ _
theorem Rf (p:List Int) (q:Rat):-1≤Z4 p q∧Z4 p q≤1:=Qo3 _ _
theorem Qmh (p:List Int) (q:Rat):-1≤low p q∧low p q≤1:=by unfold low; split <;> exact Rf _ _
theorem Qb.s31 {q:Rat} (h:Qb q):Qs 2147483647 q:=h.mono (by decide)
theorem Qb.s32 {q:Rat} (h:Qb q):Qs 4294967295 q:=h.mono (by decide)
theorem Au {p:List Int} {q:Rat} (hp:Pb p) (hq:Qb q):Qd Tryz.prog 192 [pr p,.agg (rl q)] [.one (.int .i64 (Z4 p q))]:=by
  have hm:p.length*(16777216+1)≤64*16777217:=Nat.mul_le_mul_right _ hp.l
  exact Qoc hp.t hp.ln hp.b hq (by omega)
theorem Zac {p:List Int} {q:Rat} (hp:Pb p) (hq:Qb q):Qd Tryz.prog 192 [pr (Zo p),.agg (rl q)] [.one (.int .i64 (Z4 (Zo p) q))]:=by
  have hl:=Nat.le_trans (Yx p) (show p.length-1≤64 by have:=hp.l; omega)
  have hm:(Zo p).length*(16777216+1)≤64*16777217:=Nat.mul_le_mul_right _ hl
  exact Qoc (Q9 _ _) (Nat.lt_of_le_of_lt hl (by omega)) (A5 (t:=6) hp.b hp.l) hq (by omega)
theorem Uc {t:Tm} (ht:Tb t):Qd Tryz.prog 175 [.agg (ta t)] [.one (.bool t.point)] :=
  w tt Tryz.func175 rfl [.c [] (Fj ht.lo.s31 ht.hi.s31)] rfl rfl trivial
theorem Ia {t:Tm} (ht:Tb t):Qd Tryz.prog 174 [.agg (ta t)] [.agg (ta t)] :=
  w tt Tryz.func174 rfl [.c [] (X1 ht.p.t ht.p.ln ht.p.bd),.c [] (Gq ht.lo.s32),.c [] (Gq ht.hi.s32)] rfl rfl trivial
theorem Qv6 {t:Tm} (ht:Tb t):Qd Tryz.prog 196 [.agg (ta t)] [.agg (ta t)]:=w tt Tryz.func196 rfl [.c [] (Ia ht)] rfl rfl trivial
theorem Qvn {p:List Int} {q:Rat} (hp:Pb p) (hq:Qb q):Qd Tryz.prog 193 [pr p,.agg (rl q)] [.one (.int .i64 (low p q))]:=by
  unfold low
  by_cases h:Z4 p q=0
  · rw [if_neg (by simpa using h)]
    exact w tt Tryz.func193 rfl [.c [] (Au hp hq),.f (by simpa using h),.c [] (Hp hp.ln hp.bd),.c [] (Zac hp hq)] rfl rfl trivial
  · rw [if_pos h]
    exact w tt Tryz.func193 rfl [.c [] (Au hp hq),.t (by simpa using h)] rfl rfl trivial
theorem Qvk {p:List Int} {lo hi:Rat} (hp:Pb p) (hl:Qb lo) (hh:Qb hi):Qd Tryz.prog 177 [pr p,.agg (rl lo),.agg (rl hi)] [.one (.bool (Ck p lo hi))]:=by
  by_cases h:Z4 p hi=0
  · exact w tt Tryz.func177 rfl [.c [] (Au hp hh),.t (by simpa using h)] rfl (by simp [Ck,h]) trivial
  · exact w tt Tryz.func177 rfl [.c [] (Au hp hh),.f (by simpa using h),.c [] (Qvn hp hl)] rfl (by simp [Ck,h]) trivial
theorem Lc {t:Tm} {q:Rat} (ht:Tb t) (hq:Qb q):Qd Tryz.prog 133 [.agg (ta t),.agg (rl q)] [.one (.int .i64 (Q3 t q))]:=by
  have cp:=Uc ht
  unfold Q3
  by_cases h1:t.point=true
  · rw [if_pos h1]
    exact w tt Tryz.func133 rfl [.c [] cp,.t h1,.c [] (Fj ht.lo.s31 hq.s31)] rfl rfl trivial
  rw [if_neg h1]
  have h1:t.point=false:=by simpa using h1
  have c1:=Fj hq.s31 ht.lo.s31
  have c2:=Fj hq.s31 ht.hi.s31
  by_cases h2:Z2 q t.lo≤0
  · rw [if_pos h2]
    exact w tt Tryz.func133 rfl [.c [] cp,.f h1,.c [] c1,.t (by simpa using h2)] rfl rfl trivial
  rw [if_neg h2]
  by_cases h3:0<Z2 q t.hi
  · rw [if_pos h3]
    exact w tt Tryz.func133 rfl [.c [] cp,.f h1,.c [] c1,.f (by simpa using h2),.c [] c2,.t (by simpa using h3)] rfl rfl trivial
  rw [if_neg h3]
  by_cases h4:Z4 t.p q=0
  · rw [if_pos h4]
    exact w tt Tryz.func133 rfl [.c [] cp,.f h1,.c [] c1,.f (by simpa using h2),.c [] c2,.f (by simpa using h3),.c [] (Au ht.p hq),.t (by simpa using h4)] rfl rfl trivial
  rw [if_neg h4]
  by_cases h5:Z4 t.p q=low t.p t.lo
  · rw [if_pos h5]
    exact w tt Tryz.func133 rfl [.c [] cp,.f h1,.c [] c1,.f (by simpa using h2),.c [] c2,.f (by simpa using h3),.c [] (Au ht.p hq),.f (by simpa using h4),.c [] (Qvn ht.p ht.lo),.t (by simpa using h5)] rfl rfl trivial
  · rw [if_neg h5]
    exact w tt Tryz.func133 rfl [.c [] cp,.f h1,.c [] c1,.f (by simpa using h2),.c [] c2,.f (by simpa using h3),.c [] (Au ht.p hq),.f (by simpa using h4),.c [] (Qvn ht.p ht.lo),.f (by simpa using h5)] rfl rfl trivial
theorem Q2s (t:Tm) (q:Rat):-1≤Q3 t q∧Q3 t q≤1:=by
  unfold Q3
  have:=Tc t.lo q
  repeat' split
  all_goals omega
theorem Q2z (q:Rat):0<(q.den:Int):=by have:=q.den_pos; omega
theorem Q5q {a b:Rat} (ha:Qb a) (hb:Qb b):Qd Tryz.prog 268 [.agg (rl a),.agg (rl b)] [.agg (rl (mid a b))]:=by
  have h1:Ql (a.num*(b.den:Int))≤33554432:=Nat.le_trans (Q0 _ _) (by have:=ha.1; have:=hb.2; omega)
  have h2:Ql (b.num*(a.den:Int))≤33554432:=Nat.le_trans (Q0 _ _) (by have:=hb.1; have:=ha.2; omega)
  have h3:Ql ((a.den:Int)*(b.den:Int))≤33554432:=Nat.le_trans (Q0 _ _) (by have:=ha.2; have:=hb.2; omega)
  have h4:Ql (2:Int)≤2:=by decide
  have h5:Ql (a.num*(b.den:Int)+b.num*(a.den:Int))≤33554433:=Nat.le_trans (Mj _ _) (by omega)
  have h6:Ql ((a.den:Int)*(b.den:Int)*2)≤33554434:=Nat.le_trans (Q0 _ _) (by omega)
  have h0:(a.den:Int)*(b.den:Int)*2≠0:=by
    have:=Int.mul_pos (Q2z a) (Q2z b); omega
  exact w tt Tryz.func268 rfl [.c [] (Qey ha.s31 hb.s31),.c [] (Nm (Qe _) (Qe _) (by omega) (by omega)),.c [] (Qld (z:=2) (by decide)),.c [] (Kn (Qe _) (Qe _) (by omega) (by omega)),.c [] (Ss h0 (by omega) (by omega))] rfl rfl trivial
theorem Qe3 {a b:Rat} (ha:Qb a) (hb:Qb b):Qd Tryz.prog 227 [.agg (rl a),.agg (rl b)] [.agg (rl (Qbp a b))]:=by
  have h1:Ql (a.num*(b.den:Int))≤33554432:=Nat.le_trans (Q0 _ _) (by have:=ha.1; have:=hb.2; omega)
  have h2:Ql (b.num*(a.den:Int))≤33554432:=Nat.le_trans (Q0 _ _) (by have:=hb.1; have:=ha.2; omega)
  have h3:Ql ((a.den:Int)*(b.den:Int))≤33554432:=Nat.le_trans (Q0 _ _) (by have:=ha.2; have:=hb.2; omega)
  have h5:Ql (a.num*(b.den:Int)-b.num*(a.den:Int))≤33554433:=Nat.le_trans (Qfr _ _) (by omega)
  have h0:(a.den:Int)*(b.den:Int)≠0:=by
    have:=Int.mul_pos (Q2z a) (Q2z b); omega
  exact w tt Tryz.func227 rfl [.c [] (Qey ha.s31 hb.s31),.c [] (Qvf (Qe _) (Qe _) (by omega) (by omega)),.c [] (Ss h0 (by omega) (by omega))] rfl rfl trivial
theorem Oz {q r:Rat} (h:chq q=some r):r=q∧Qb q:=by
  unfold chq at h
  split at h
  · rename_i hc; injection h with h; exact ⟨h.symm,hc⟩
  · cases h
theorem Qlk {t u:Tm} (ht:Tb t) (h:Qfk t=some u):Qd Tryz.prog 228 [.agg (ta t)] [.agg (ta u)]:=by
  have cp:=Uc ht
  unfold Qfk at h
  split at h
  · rename_i h1
    injection h with h; subst h
    exact w tt Tryz.func228 rfl [.c [] cp,.t h1] rfl rfl trivial
  · rename_i h1
    have h1:t.point=false:=by simpa using h1
    obtain ⟨m,hm0,h⟩:=Option.bind_eq_some_iff.1 h
    obtain ⟨rfl,hm⟩:=Oz hm0
    injection h with h
    subst h
    have cm:=Q5q ht.lo ht.hi
    have cc:=Lc ht hm
    by_cases h2:Q3 t (mid t.lo t.hi)=0
    · rw [if_pos h2]
      exact w tt Tryz.func228 rfl [.c [] cp,.f h1,.c [] cm,.c [] cc,.t (by simpa using h2)] rfl rfl trivial
    rw [if_neg h2]
    by_cases h3:Q3 t (mid t.lo t.hi)=-1
    · rw [if_pos h3]
      exact w tt Tryz.func228 rfl [.c [] cp,.f h1,.c [] cm,.c [] cc,.f (by simpa using h2),.t (by simpa using h3)] rfl rfl trivial
    · rw [if_neg h3]
      exact w tt Tryz.func228 rfl [.c [] cp,.f h1,.c [] cm,.c [] cc,.f (by simpa using h2),.f (by simpa using h3)] rfl rfl trivial
theorem Qgv {t u:Tm} (ht:Tb t) (h:Qfk t=some u):Tb u:=by
  unfold Qfk at h
  split at h
  · injection h with h; subst h; exact ht
  · obtain ⟨m,hm0,h⟩:=Option.bind_eq_some_iff.1 h
    obtain ⟨rfl,hm⟩:=Oz hm0
    injection h with h
    subst h
    repeat' split
    · exact ⟨ht.p,hm,hm⟩
    · exact ⟨ht.p,ht.lo,hm⟩
    · exact ⟨ht.p,hm,ht.hi⟩
theorem Rw {z:Int} (h:Ql z≤4294967296):Qd Tryz.prog 266 [.one (mg z)] [.one (.int .i64 (Ql z:Int))]:=by
  have h1:=Qk9 (l:=Q4 z.natAbs) (Uk _) (by rw [Zk]; exact h)
  rw [Zk] at h1; exact h1
theorem Qbk {p:List Int} {i:Nat} {z:Int} (h:p[i]? = some z):Zr (p.take (i+1))=max (Zr (p.take i)) (Ql z):=by
  unfold Zr; rw [List.take_succ,h,Option.toList_some,List.foldl_append]; rfl
theorem Y0 {p:List Int} {s:Nat} (h:Bd s p):∀ i,Zr (p.take i)≤s
  | 0=>by simp [Zr]
  |
   i+1=>by
   cases hz:p[i]? with
   |
    none =>
    rw [List.take_of_length_le (by have:=List.getElem?_eq_none_iff.1 hz; omega),←List.take_of_length_le (l:=p) (i:=i) (by have:=List.getElem?_eq_none_iff.1 hz; omega)]
    exact Y0 h i
   | some z=>rw [Qbk hz]; have:=Y0 h i; have:=Quh h hz; omega
theorem Qe4 {p:List Int} (hp:Pb p):Qd Tryz.prog 267 [pr p] [.one (.int .i64 (Zr p:Int))]:=by
  have hl:=hp.l
  refine Z7 Tryz.func267 rfl ?_
  refine go tt [] rfl trivial ?_
  refine lp (S:=Nat) 0 (fun L1 i=>(8,.v (.one (.int .i64 (i:Int))))::(3,.v (.one (.int .i64 (Zr (p.take i):Int))))::L1) (fun _=>[]) (fun i=>p.length-i) (fun i=>i≤p.length) 0 (Nat.zero_le _) rfl (fun _ _=>rfl) rfl fun i hi=>?_
  by_cases hlt:i<p.length
  · have hg:=Xt hlt
    have hz:=Qr hp.b i
    have hs:=Qbk hg
    refine go tt [.t (by simp; omega),.x (Yc hg),.c [] (Rw (by omega)),.r 16 (eI (b:=(Zr (p.take (i+1)):Int)) (by rw [hs]; omega))] rfl (by simp [Qa]; omega) ?_
    exact rd (i+1) (by omega) hlt rfl
  · obtain rfl:i=p.length:=by omega
    rw [List.take_length]
    exact en tt [.f (by simp)] rfl rfl trivial
theorem Q2o {a:Tm} {b:Tm} (ha:Tb a) (hb:Tb b):Qd Tryz.prog 226 [.agg (ta a),.agg (ta b)] [.one (.int .i64 (Yp a b:Nat))]:=by
  have l1:=ha.p.l
  have l2:=hb.p.l
  have b1:=ha.lo.1
  have b2:=ha.hi.1
  have b3:=hb.lo.1
  have b4:=hb.hi.1
  have s1:Zr a.p≤16777216:=by have:=Y0 ha.p.b a.p.length; rwa [List.take_length] at this
  have s2:Zr b.p≤16777216:=by have:=Y0 hb.p.b b.p.length; rwa [List.take_length] at this
  obtain ⟨N,hN⟩:∃ N,N=4*(a.p.length+b.p.length):=⟨_,rfl⟩
  obtain ⟨S,hS⟩:∃ S,S=Zr a.p+Zr b.p+(a.p.length+b.p.length)+8:=⟨_,rfl⟩
  have hNS:N*S≤512*33554568:=Nat.mul_le_mul (by omega) (by omega)
  have h0:(N:Int)*(S:Int)=((N*S:Nat):Int):=(Int.natCast_mul _ _).symm
  have hst:Yp a b=64+2*(Ql a.lo.num+Ql a.hi.num+Ql b.lo.num+Ql b.hi.num)+N*S:=by rw [hN,hS]; rfl
  rw [hst]
  exact w tt Tryz.func226 rfl [.c [] (Rw (z:=a.lo.num) (by omega)),.c [] (Rw (z:=a.hi.num) (by omega)),.c [] (Rw (z:=b.lo.num) (by omega)),.c [] (Rw (z:=b.hi.num) (by omega)),.r 41 (eI (b:=(N:Int)) (by rw [hN]; simp)),.c [] (Qe4 ha.p),.c [] (Qe4 hb.p),.r 51 (eI (b:=(S:Int)) (by rw [hS]; simp)),.r 52 (eI (b:=((N*S:Nat):Int)) h0)] rfl (by simp) (by rw [h0]; simp [Qa]; omega)
def Qno (p:List Int) (a:Tm):Nat:=64+2*(Ql a.lo.num+Ql a.hi.num)+4*(a.p.length+p.length)*(Zr a.p+Zr p+(a.p.length+p.length)+8)
theorem Qn9:Qd Tryz.prog 266 [lr []] [.one (.int .i64 0)]:=Qk9 (l:=[]) (by simp [Sm]) (by decide)
theorem Qv5 {a:Tm} {p:List Int} (ha:Tb a) (hp:Pb p):Qd Tryz.prog 226 [.agg (ta a),.agg ([pl p,.bool false,.row [],.bool false,.row [],.bool false,.row [],.bool false,.row []])] [.one (.int .i64 (Qno p a:Nat))]:=by
  have l1:=ha.p.l
  have l2:=hp.l
  have b1:=ha.lo.1
  have b2:=ha.hi.1
  have s1:Zr a.p≤16777216:=by have:=Y0 ha.p.b a.p.length; rwa [List.take_length] at this
  have s2:Zr p≤16777216:=by have:=Y0 hp.b p.length; rwa [List.take_length] at this
  obtain ⟨N,hN⟩:∃ N,N=4*(a.p.length+p.length):=⟨_,rfl⟩
  obtain ⟨S,hS⟩:∃ S,S=Zr a.p+Zr p+(a.p.length+p.length)+8:=⟨_,rfl⟩
  have hNS:N*S≤512*33554568:=Nat.mul_le_mul (by omega) (by omega)
  have h0:(N:Int)*(S:Int)=((N*S:Nat):Int):=(Int.natCast_mul _ _).symm
  have hst:Qno p a=64+2*(Ql a.lo.num+Ql a.hi.num)+N*S:=by rw [hN,hS]; rfl
  rw [hst]
  exact w tt Tryz.func226 rfl [.c [] (Rw (z:=a.lo.num) (by omega)),.c [] (Rw (z:=a.hi.num) (by omega)),.c [] Qn9,.c [] Qn9,.r 41 (eI (b:=(N:Int)) (by rw [hN]; simp)),.c [] (Qe4 ha.p),.c [] (Qe4 hp),.r 51 (eI (b:=(S:Int)) (by rw [hS]; simp)),.r 52 (eI (b:=((N*S:Nat):Int)) h0)] rfl (by simp) (by rw [h0]; simp [Qa]; omega)
end Orr

namespace Orr
open Go Go.Proofs
set_option maxRecDepth 10000
def Na (sg:List Int→Int) (l:List (List Int)) (i:Nat):Nat×Int:=(l.take i).foldl (Yh sg) (0,0)
theorem Qgz {sg:List Int→Int} (hs:∀ p,-1≤sg p∧sg p≤1) (l:List (List Int)):∀ i,(Na sg l i).1≤i∧-1≤(Na sg l i).2∧(Na sg l i).2≤1
  | 0=>⟨Nat.le_refl _,show (-1:Int)≤0 by decide,show (0:Int)≤1 by decide⟩
  |
   i+1=>by
   obtain ⟨h1,h2,h3⟩:=Qgz hs l i
   cases h:l[i]? with
   |
    none =>
    have:Na sg l (i+1)=Na sg l i:=by unfold Na; rw [List.take_of_length_le (by have:=List.getElem?_eq_none_iff.1 h; omega),List.take_of_length_le (List.getElem?_eq_none_iff.1 h)]
    rw [this]; omega
   |
    some p =>
    have:Na sg l (i+1)=Yh sg (Na sg l i) p:=Uo _ _ _ h
    rw [this]
    have:=hs p
    unfold Yh
    split
    · omega
    · dsimp only; split <;> omega
theorem Q2p {l:List (List Int)} {fid:Nat} {l1:List LV} {sg:List Int→Int} (hl:l.length≤1000) (hs:∀ p,-1≤sg p∧sg p≤1) (h:∀ p∈l,Qd Tryz.prog fid [pr p,.one (.sh l1)] [.one (.int .i64 (sg p))]):Qd Tryz.prog 300 [.one (.sh [.row (Yq l)]),.one (.fn fid [] [.sh l1])] [.one (.int .i64 (Ki sg l:Nat))]:=by
  have hpl:=Fe l
  refine Z7 Tryz.func300 rfl ?_
  refine go tt [] rfl trivial ?_
  refine lp (S:=Nat) 0 (fun L1 i=>(15,.v (.one (.int .i64 (i:Int))))::(5,.v (.one (.int .i64 ((Na sg l i).1:Int))))::(6,.v (.one (.int .i64 (Na sg l i).2)))::L1) (fun _=>[]) (fun i=>l.length-i) (fun i=>i≤l.length) 0 (Nat.zero_le _) rfl (fun _ _=>rfl) rfl fun i hi=>?_
  by_cases hlt:i<l.length
  · obtain ⟨p,hp⟩:∃ p,l[i]? = some p:=⟨_,List.getElem?_eq_getElem hlt⟩
    have hst:Na sg l (i+1)=Yh sg (Na sg l i) p:=Uo _ _ _ hp
    obtain ⟨b1,b2,b3⟩:=Qgz hs l i
    have b4:=hs p
    by_cases h0:sg p=0
    · refine go tt [.t (by simp [hpl]; omega),.x (Ji hp),.c [] (h p (List.mem_of_getElem? hp)),.t (by simpa using h0)] rfl (by simp [Qa]; omega) ?_
      exact rd (i+1) (by omega) hlt (by rw [hst,show Yh sg (Na sg l i) p=Na sg l i from by unfold Yh; rw [if_pos h0]]; rfl)
    · by_cases h1:(Na sg l i).2=-(sg p)
      · refine go tt [.t (by simp [hpl]; omega),.x (Ji hp),.c [] (h p (List.mem_of_getElem? hp)),.f (by simpa using h0),.t (by simpa using h1)] rfl (by simp [Qa]; omega) ?_
        exact rd (i+1) (by omega) hlt (by rw [hst,show Yh sg (Na sg l i) p=((Na sg l i).1+1,sg p) from by unfold Yh; rw [if_neg h0,if_pos h1]]; rfl)
      · refine go tt [.t (by simp [hpl]; omega),.x (Ji hp),.c [] (h p (List.mem_of_getElem? hp)),.f (by simpa using h0),.f (by simpa using h1)] rfl (by simp [Qa]; omega) ?_
        exact rd (i+1) (by omega) hlt (by rw [hst,show Yh sg (Na sg l i) p=((Na sg l i).1,sg p) from by unfold Yh; rw [if_neg h0,if_neg h1]]; rfl)
  · obtain rfl:i=l.length:=by omega
    refine en tt [.f (by simp [hpl])] rfl ?_ trivial
    unfold Na Ki; rw [List.take_length]
theorem Qvd {p:List Int} {q:Rat} (hp:Pb p) (hq:Qb q):Qd Tryz.prog 301 [pr p,.one (.sh (rl q))] [.one (.int .i64 (Z4 p q))]:=w tt Tryz.func301 rfl [.c [] (Au hp hq)] rfl rfl trivial
theorem Qoh {l:List (List Int)} {q:Rat} (hl:l.length≤1000) (hp:∀ p∈l,Pb p) (hq:Qb q):Qd Tryz.prog 273 [.one (.sh [.row (Yq l)]),.agg (rl q)] [.one (.int .i64 (Wa l q:Nat))] :=
  w tt Tryz.func273 rfl [.c [] (Q2p (fid:=301) (l1:=rl q) (sg:=fun p=>Z4 p q) hl (fun p=>Rf p q) fun p h=>Qvd (hp p h) hq)] rfl rfl trivial
theorem Ul {sg:List Int→Int} (hs:∀ p,-1≤sg p∧sg p≤1) (l:List (List Int)):Ki sg l≤l.length:=by
  have:=(Qgz hs l l.length).1
  unfold Na at this; rwa [List.take_length] at this
theorem Qci {l:List (List Int)} {lo hi:Rat} (hl:l.length≤1000) (hp:∀ p∈l,Pb p) (ql:Qb lo) (qh:Qb hi):Qd Tryz.prog 231 [.one (.sh [.row (Yq l)]),.agg (rl lo),.agg (rl hi)] [.one (.int .i64 (Jc l lo hi))]:=by
  have b1:Wa l lo≤l.length:=Ul (fun p=>Rf p lo) l
  have b2:Wa l hi≤l.length:=Ul (fun p=>Rf p hi) l
  have c1:=Fj qh.s31 ql.s31
  unfold Jc
  by_cases h:Z2 hi lo<0
  · rw [if_pos h]
    exact w tt Tryz.func231 rfl [.c [] c1,.t (by simpa using h)] rfl rfl trivial
  · rw [if_neg h]
    exact w tt Tryz.func231 rfl [.c [] c1,.f (by simpa using h),.c [] (Qoh hl hp ql),.c [] (Qoh hl hp qh)] rfl rfl (by simp [Qa]; omega)
def zTm:List LV:=[.nils,.bool false,.nils,.bool false,.nils,.bool false,.nils,.bool false,.nils]
theorem Qtq {a b:Tm} (ha:Tb a) (hb:Tb b):Yp a b≤17179938816+200000000:=by
  have l1:=ha.p.l
  have l2:=hb.p.l
  have b1:=ha.lo.1
  have b2:=ha.hi.1
  have b3:=hb.lo.1
  have b4:=hb.hi.1
  have s1:Zr a.p≤16777216:=by have:=Y0 ha.p.b a.p.length; rwa [List.take_length] at this
  have s2:Zr b.p≤16777216:=by have:=Y0 hb.p.b b.p.length; rwa [List.take_length] at this
  have:4*(a.p.length+b.p.length)*(Zr a.p+Zr b.p+(a.p.length+b.p.length)+8)≤512*33554568:=Nat.mul_le_mul (by omega) (by omega)
  unfold Yp; omega
theorem Q4g {a b:Rat} (ha:Qb a) (hb:Qb b):Qs 2147483647 (Qbp a b):=by
  have h1:Ql (a.num*(b.den:Int))≤33554432:=Nat.le_trans (Q0 _ _) (by have:=ha.1; have:=hb.2; omega)
  have h2:Ql (b.num*(a.den:Int))≤33554432:=Nat.le_trans (Q0 _ _) (by have:=hb.1; have:=ha.2; omega)
  have h3:Ql ((a.den:Int)*(b.den:Int))≤33554432:=Nat.le_trans (Q0 _ _) (by have:=ha.2; have:=hb.2; omega)
  have h5:Ql (a.num*(b.den:Int)-b.num*(a.den:Int))≤33554433:=Nat.le_trans (Qfr _ _) (by omega)
  exact (Qs.divInt (s:=33554433) h5 (by omega) (by omega)).mono (by omega)
theorem Qew {a b:Tm} {r:Tm×Tm×Int} (ha:Tb a) (hb:Tb b) (h:apF (Yp a b) a b=some r):Qd Tryz.prog 178 [.agg (ta a),.agg (ta b)] [.agg (ta r.1),.agg (ta r.2.1),.one (.int .i64 r.2.2)]:=by
  have hsb:=Qtq ha hb
  refine Z7 Tryz.func178 rfl ?_
  refine go tt [.c [] (Q2o ha hb)] rfl trivial ?_
  obtain ⟨n,hn⟩:∃ n,n=Yp a b:=⟨_,rfl⟩
  rw [←hn] at h hsb ⊢
  refine sb [(10,.v (.one (.int .i64 0))),(9,.v (.one (.int .i64 (n:Int)))),(5,.v (.one (.ow 3 0))),(4,.v (.one (.ow 2 0))),(3,.v (.one (.ow 1 0))),(2,.v (.one (.ow 0 0)))] [.blk 67 (ta a),.blk 67 (ta b),.blk 67 zTm,.blk 67 zTm] rfl rfl ?_
  refine lp (S:=Nat×Tm×Tm) 4 (fun L1 s=>(10,.v (.one (.int .i64 (s.1:Int))))::L1) (fun s=>[.blk 67 (ta s.2.1),.blk 67 (ta s.2.2),.blk 67 zTm,.blk 67 zTm]) (fun s=>n-s.1) (fun s=>s.1≤n∧Tb s.2.1∧Tb s.2.2∧apF (n-s.1) s.2.1 s.2.2=some r) (0,a,b) ⟨Nat.zero_le _,ha,hb,h⟩ rfl (fun _ _=>rfl) rfl fun ⟨i,u,v⟩ ⟨j1,j2,j3,j4⟩=>?_
  dsimp only at j1 j2 j3 j4 ⊢
  by_cases hi:i<n
  · obtain ⟨k,hk⟩:∃ k,n-i=k+1:=⟨n-i-1,by omega⟩
    have hk':n-(i+1)=k:=by omega
    rw [hk] at j4
    have c1:=Fj j2.hi.s31 j3.lo.s31
    have c2:=Fj j3.hi.s31 j2.lo.s31
    have pu:=Uc j2
    have pv:=Uc j3
    have hlt:decide ((i:Int)<(n:Int))=true:=by simp; omega
    simp only [apF] at j4
    refine go tt [.t hlt] rfl trivial ?_
    refine ct 3 (S:=Unit) (fun _=>[(10,.v (.one (.int .i64 (i:Int)))),(9,.v (.one (.int .i64 (n:Int)))),(5,.v (.one (.ow 3 0))),(4,.v (.one (.ow 2 0))),(3,.v (.one (.ow 1 0))),(2,.v (.one (.ow 0 0)))]) (fun _=>[.blk 67 (ta u),.blk 67 (ta v),.blk 67 zTm,.blk 67 zTm]) (fun _=>¬Wg u v=true∧¬Wg v u=true) rfl ?_ ?_
    · have bA:Wg u v=(decide (Z2 u.hi v.lo≤0) && !(u.point && v.point && decide (Z2 u.hi v.lo=0))):=by
        unfold Wg; cases u.point <;> cases v.point <;> simp
      have bB:Wg v u=(decide (Z2 v.hi u.lo≤0) && !(u.point && v.point && decide (Z2 v.hi u.lo=0))):=by
        unfold Wg; cases u.point <;> cases v.point <;> simp
      obtain ⟨a0,A'⟩:∃ b,decide (Z2 u.hi v.lo≤0)=b:=⟨_,rfl⟩
      obtain ⟨b0,B'⟩:∃ b,decide (Z2 v.hi u.lo≤0)=b:=⟨_,rfl⟩
      obtain ⟨p0,P'⟩:∃ b,u.point=b:=⟨_,rfl⟩
      obtain ⟨q0,Q'⟩:∃ b,v.point=b:=⟨_,rfl⟩
      obtain ⟨x0,X'⟩:∃ b,decide (Z2 u.hi v.lo=0)=b:=⟨_,rfl⟩
      obtain ⟨y0,Y'⟩:∃ b,decide (Z2 v.hi u.lo=0)=b:=⟨_,rfl⟩
      rw [A',P',Q',X'] at bA
      rw [B',P',Q',Y'] at bB
      have r1:Wg u v=true→(u,v,-1)=r:=fun h=>by rw [if_pos h] at j4; injection j4
      have r2:¬Wg u v=true→Wg v u=true→(u,v,1)=r:=fun h h'=>by rw [if_neg h,if_pos h'] at j4; injection j4
      clear j4
      cases a0
      · cases b0
        · exact go tt [.c [] c1,.g 19 false A',.f rfl,.c [] c2,.g 45 false B',.f rfl] rfl trivial (rc () ⟨by rw [bA]; simp,by rw [bB]; simp⟩ rfl)
        · cases p0
          · obtain rfl:=r2 (by rw [bA]; simp) (by rw [bB]; rfl)
            exact en tt [.c [] c1,.g 19 false A',.f rfl,.c [] c2,.g 45 true B',.c [] pu,.g 48 false P',.g 52 false rfl,.t rfl] rfl rfl trivial
          · cases q0
            · obtain rfl:=r2 (by rw [bA]; simp) (by rw [bB]; rfl)
              exact en tt [.c [] c1,.g 19 false A',.f rfl,.c [] c2,.g 45 true B',.c [] pu,.g 48 true P',.c [] pv,.g 52 false Q',.t rfl] rfl rfl trivial
            · cases y0
              · obtain rfl:=r2 (by rw [bA]; simp) (by rw [bB]; rfl)
                exact en tt [.c [] c1,.g 19 false A',.f rfl,.c [] c2,.g 45 true B',.c [] pu,.g 48 true P',.c [] pv,.g 52 true Q',.c [] c2,.t (by simpa using Y')] rfl rfl trivial
              · exact go tt [.c [] c1,.g 19 false A',.f rfl,.c [] c2,.g 45 true B',.c [] pu,.g 48 true P',.c [] pv,.g 52 true Q',.c [] c2,.f (by simpa using Y')] rfl trivial (rc () ⟨by rw [bA]; simp,by rw [bB]; simp⟩ rfl)
      · cases p0
        · obtain rfl:=r1 (by rw [bA]; rfl)
          exact en tt [.c [] c1,.g 19 true A',.c [] pu,.g 22 false P',.g 26 false rfl,.t rfl] rfl rfl trivial
        · cases q0
          · obtain rfl:=r1 (by rw [bA]; rfl)
            exact en tt [.c [] c1,.g 19 true A',.c [] pu,.g 22 true P',.c [] pv,.g 26 false Q',.t rfl] rfl rfl trivial
          · cases x0
            · obtain rfl:=r1 (by rw [bA]; rfl)
              exact en tt [.c [] c1,.g 19 true A',.c [] pu,.g 22 true P',.c [] pv,.g 26 true Q',.c [] c1,.t (by simpa using X')] rfl rfl trivial
            · cases b0
              · exact go tt [.c [] c1,.g 19 true A',.c [] pu,.g 22 true P',.c [] pv,.g 26 true Q',.c [] c1,.f (by simpa using X'),.c [] c2,.g 45 false B',.f rfl] rfl trivial (rc () ⟨by rw [bA]; simp,by rw [bB]; simp⟩ rfl)
              · cases y0
                · obtain rfl:=r2 (by rw [bA]; simp) (by rw [bB]; rfl)
                  exact en tt [.c [] c1,.g 19 true A',.c [] pu,.g 22 true P',.c [] pv,.g 26 true Q',.c [] c1,.f (by simpa using X'),.c [] c2,.g 45 true B',.c [] pu,.g 48 true P',.c [] pv,.g 52 true Q',.c [] c2,.t (by simpa using Y')] rfl rfl trivial
                · exact go tt [.c [] c1,.g 19 true A',.c [] pu,.g 22 true P',.c [] pv,.g 26 true Q',.c [] c1,.f (by simpa using X'),.c [] c2,.g 45 true B',.c [] pu,.g 48 true P',.c [] pv,.g 52 true Q',.c [] c2,.f (by simpa using Y')] rfl trivial (rc () ⟨by rw [bA]; simp,by rw [bB]; simp⟩ rfl)
    · rintro _ ⟨n1,n2⟩
      rw [if_neg n1,if_neg n2] at j4
      have qr:∀ {x y:Rat},Qb x→Qb y→Qs 2147483647 (Qbp x y):=fun h1 h2=>Q4g h1 h2
      have cc:=Fj (qr j2.hi j2.lo) (qr j3.hi j3.lo)
      by_cases D:0≤Z2 (Qbp u.hi u.lo) (Qbp v.hi v.lo)
      · rw [if_pos D] at j4
        obtain ⟨x,x1,x2⟩:=Option.bind_eq_some_iff.1 j4
        refine go tt [.c [] (Qe3 j2.hi j2.lo),.c [] (Qe3 j3.hi j3.lo),.c [] cc,.t (by simpa using D),.c [] (Qlk j2 x1)] rfl (by simp [Qa]; omega) ?_
        exact rd (i+1,x,v) (by dsimp only; omega) ⟨hi,Qgv j2 x1,j3,by dsimp only; rw [hk']; exact x2⟩ rfl
      · rw [if_neg D] at j4
        obtain ⟨x,x1,x2⟩:=Option.bind_eq_some_iff.1 j4
        refine go tt [.c [] (Qe3 j2.hi j2.lo),.c [] (Qe3 j3.hi j3.lo),.c [] cc,.f (by simpa using D),.c [] (Qlk j3 x1)] rfl (by simp [Qa]; omega) ?_
        exact rd (i+1,u,x) (by dsimp only; omega) ⟨hi,j2,Qgv j3 x1,by dsimp only; rw [hk']; exact x2⟩ rfl
  · obtain rfl:i=n:=by omega
    rw [Nat.sub_self] at j4
    simp only [apF] at j4
    injection j4 with j4; subst j4
    exact en tt [.f (by simp)] rfl rfl trivial
end Orr

namespace Orr
open Go Go.Proofs
set_option maxRecDepth 10000
theorem Q2l {a b:Rat} (ha:Qb a) (hb:Qb b):Qd Tryz.prog 82 [.agg (rl a),.one (.row [rl b])] [.agg (rl (if 0<Z2 b a then b else a))]:=by
  have ca:=A9 (Qe a.num) (Qe (a.den:Int)) ha.s32.1 ha.s32.2
  have cb:=A9 (Qe b.num) (Qe (b.den:Int)) hb.s32.1 hb.s32.2
  rw [Tr] at ca cb
  have cc:=Fj hb.s31 ha.s31
  refine Z7 Tryz.func82 rfl ?_
  refine go tt [.c [] ca] rfl trivial ?_
  refine lp (S:=Nat) 3 (fun L1 i=>(12,.v (.one (.int .i64 (i:Int))))::L1) (fun i=>[.blk 41 (rl a),.blk 41 [.bool false,.nils,.bool false,.nils],.blk 41 (rl (if i=0 then a else if 0<Z2 b a then b else a))]) (fun i=>1-i) (fun i=>i≤1) 0 (Nat.zero_le _) rfl (fun _ _=>rfl) rfl fun i hi=>?_
  rcases (show i=0∨i=1 by omega) with rfl | rfl
  · by_cases h:0<Z2 b a
    · refine go tt [.t rfl,.x (i:=0) (xs:=rl b) rfl,.c [] cc,.t (by simpa using h),.c [] cb] rfl (by simp [Qa]) ?_
      exact rd 1 (by omega) (by omega) (by rw [if_pos h]; rfl)
    · refine go tt [.t rfl,.x (i:=0) (xs:=rl b) rfl,.c [] cc,.f (by simpa using h)] rfl (by simp [Qa]) ?_
      exact rd 1 (by omega) (by omega) (by rw [if_neg h]; rfl)
  · exact en tt [.f rfl] rfl rfl trivial
theorem Og {a b:Tm} {c:Int} (ha:Tb a) (hb:Tb b) (h:Li a b=some c):Qd Tryz.prog 125 [.agg (ta a),.agg (ta b)] [.one (.int .i64 c)]:=by
  have ca:=Ia ha
  have cb:=Ia hb
  have pa:=Uc ha
  have pb:=Uc hb
  unfold Li at h
  by_cases h1:a.point=true
  · rw [if_pos h1] at h
    injection h with h; subst h
    have:=Q2s b a.lo
    exact w tt Tryz.func125 rfl [.c [] ca,.c [] cb,.c [] pa,.t h1,.c [] (Lc hb ha.lo)] rfl rfl (by simp [Qa]; omega)
  rw [if_neg h1] at h
  have h1:a.point=false:=by simpa using h1
  by_cases h2:b.point=true
  · rw [if_pos h2] at h
    injection h with h; subst h
    exact w tt Tryz.func125 rfl [.c [] ca,.c [] cb,.c [] pa,.f h1,.c [] pb,.t h2,.c [] (Lc ha hb.lo)] rfl rfl trivial
  rw [if_neg h2] at h
  have h2:b.point=false:=by simpa using h2
  obtain ⟨lo,hlo⟩:∃ lo,lo=if 0<Z2 b.lo a.lo then b.lo else a.lo:=⟨_,rfl⟩
  obtain ⟨hi,hhi⟩:∃ hi,hi=if Z2 b.hi a.hi<0 then b.hi else a.hi:=⟨_,rfl⟩
  have h:(if Z2 lo hi<0 then (Qf9 a.p b.p).bind fun g=>if 1<g.length∧Ck g lo hi=true then some 0 else (apF (Yp a b) a b).bind fun r=>some r.2.2 else (apF (Yp a b) a b).bind fun r=>some r.2.2)=some c:=by rw [hlo,hhi]; exact h
  have qlo:Qb lo:=by rw [hlo]; split; exact hb.lo; exact ha.lo
  have qhi:Qb hi:=by rw [hhi]; split; exact hb.hi; exact ha.hi
  have cm:=Q2l ha.lo hb.lo
  rw [←hlo] at cm
  have cc1:=Fj hb.hi.s31 ha.hi.s31
  have cc2:=Fj qlo.s31 qhi.s31
  refine Z7 Tryz.func125 rfl ?_
  refine go tt [.c [] ca,.c [] cb,.c [] pa,.f h1,.c [] pb,.f h2,.c [] cm] rfl trivial ?_
  refine ct 2 (S:=Unit) (fun _=>[(6,.v (.one (.ow 3 0))),(5,.v (.one (.ow 2 0))),(4,.v (.one (.int .i64 0))),(3,.v (.one (.ow 1 0))),(2,.v (.one (.ow 0 0)))]) (fun _=>[.blk 67 (ta a),.blk 67 (ta b),.blk 41 (rl lo),.blk 41 (rl hi)]) (fun _=>True) rfl ?_ ?_
  · by_cases D:Z2 b.hi a.hi<0
    · rw [if_pos D] at hhi; subst hhi
      exact go tt [.c [] cc1,.t (by simpa using D)] rfl trivial (rc () trivial rfl)
    · rw [if_neg D] at hhi; subst hhi
      exact go tt [.c [] cc1,.f (by simpa using D)] rfl trivial (rc () trivial rfl)
  · rintro _ _
    by_cases D:Z2 lo hi<0
    · rw [if_pos D] at h
      obtain ⟨g,g1,h⟩:=Option.bind_eq_some_iff.1 h
      have cg:=Quy ha.p hb.p g1
      have pg:=Qyn ha.p hb.p g1
      have ch:=Qvk pg qlo qhi
      by_cases G:1<g.length
      · by_cases R:Ck g lo hi=true
        · rw [if_pos ⟨G,R⟩] at h
          injection h with h; subst h
          exact en tt [.c [] cc2,.t (by simpa using D),.c [] cg,.c [] (V8 g),.g 58 true (by simp; omega),.c [] ch,.t R] rfl rfl trivial
        · rw [if_neg fun h=>R h.2] at h
          obtain ⟨r,r1,h⟩:=Option.bind_eq_some_iff.1 h
          injection h with h; subst h
          exact en tt [.c [] cc2,.t (by simpa using D),.c [] cg,.c [] (V8 g),.g 58 true (by simp; omega),.c [] ch,.f (by simpa using R),.c [] (Qew ha hb r1)] rfl rfl trivial
      · rw [if_neg fun h=>G h.1] at h
        obtain ⟨r,r1,h⟩:=Option.bind_eq_some_iff.1 h
        injection h with h; subst h
        exact en tt [.c [] cc2,.t (by simpa using D),.c [] cg,.c [] (V8 g),.g 58 false (by simp; omega),.f rfl,.c [] (Qew ha hb r1)] rfl rfl trivial
    · rw [if_neg D] at h
      obtain ⟨r,r1,h⟩:=Option.bind_eq_some_iff.1 h
      injection h with h; subst h
      exact en tt [.c [] cc2,.f (by simpa using D),.c [] (Qew ha hb r1)] rfl rfl trivial
theorem Q1n {p:List Int} {a:Tm} {s:Int} (hp:Pb p) (ha:Tb a) (h:Qee p a=some s):Qd Tryz.prog 181 [pr p,.agg (ta a)] [.one (.int .i64 s)]:=by
  have ca:=Ia ha
  have pa:=Uc ha
  have cn:=X1 hp.t hp.ln hp.bd
  unfold Qee at h
  by_cases h0:p.length=0
  · rw [if_pos h0] at h
    injection h with h; subst h
    exact w tt Tryz.func181 rfl [.c [] cn,.c [] ca,.t (by simp; exact List.eq_nil_of_length_eq_zero h0)] rfl rfl trivial
  rw [if_neg h0] at h
  have h0:p≠[]:=fun e=>h0 (by rw [e]; rfl)
  by_cases h1:a.point=true
  · rw [if_pos h1] at h
    injection h with h; subst h
    exact w tt Tryz.func181 rfl [.c [] cn,.c [] ca,.f (by simpa using h0),.c [] pa,.t h1,.c [] (Au hp ha.lo)] rfl rfl trivial
  rw [if_neg h1] at h
  have h1:a.point=false:=by simpa using h1
  obtain ⟨g,g1,h⟩:=Option.bind_eq_some_iff.1 h
  have cg:=Quy hp ha.p g1
  have pg:=Qyn hp ha.p g1
  have ch:=Qvk pg ha.lo ha.hi
  by_cases G:1<g.length∧Ck g a.lo a.hi=true
  · rw [if_pos G] at h
    injection h with h; subst h
    exact w tt Tryz.func181 rfl [.c [] cn,.c [] ca,.f (by simpa using h0),.c [] pa,.f h1,.c [] cg,.c [] (V8 g),.g 29 true (by simp; omega),.c [] ch,.t G.2] rfl rfl trivial
  rw [if_neg G] at h
  obtain ⟨c,c1,h⟩:=Option.bind_eq_some_iff.1 h
  obtain ⟨u,u1,h⟩:=Option.bind_eq_some_iff.1 h
  injection h with h; subst h
  obtain ⟨cl,call⟩:=chain_ok hp c1
  obtain ⟨n,hn⟩:∃ n,n=64+2*(Ql a.lo.num+Ql a.hi.num)+4*(a.p.length+p.length)*(Zr a.p+Zr p+(a.p.length+p.length)+8):=⟨_,rfl⟩
  have cst:=Qv5 ha hp
  rw [show Qno p a=n from hn.symm] at cst
  rw [←hn] at u1
  have hnb:n≤17179938816+200000000:=by
    have l1:=ha.p.l
    have l2:=hp.l
    have b1:=ha.lo.1
    have b2:=ha.hi.1
    have s1:Zr a.p≤16777216:=by have:=Y0 ha.p.b a.p.length; rwa [List.take_length] at this
    have s2:Zr p≤16777216:=by have:=Y0 hp.b p.length; rwa [List.take_length] at this
    have:4*(a.p.length+p.length)*(Zr a.p+Zr p+(a.p.length+p.length)+8)≤512*33554568:=Nat.mul_le_mul (by omega) (by omega)
    omega
  refine Z7 Tryz.func181 rfl ?_
  refine go tt [.c [] cn,.c [] ca,.f (by simpa using h0),.c [] pa,.f h1,.c [] cg] rfl trivial ?_
  refine ct 2 (S:=Unit) (fun _=>[(3,.v (.one (.ow 0 0))),(0,.v (pr p))]) (fun _=>[.blk 67 (ta a)]) (fun _=>True) rfl ?_ ?_
  · by_cases G1:1<g.length
    · exact go tt [.c [] (V8 g),.g 29 true (by simp; omega),.c [] ch,.f (by simpa using fun h=>G ⟨G1,h⟩)] rfl trivial (rc () trivial rfl)
    · exact go tt [.c [] (V8 g),.g 29 false (by simp; omega),.f rfl] rfl trivial (rc () trivial rfl)
  rintro _ _
  refine go tt [.c [] (Qu9 hp c1),.c [] cst] rfl trivial ?_
  refine lp (S:=Nat×Tm) 1 (fun L1 s=>(46,.v (.one (.int .i64 (s.1:Int))))::L1) (fun s=>[.blk 67 (ta s.2)]) (fun s=>n-s.1) (fun s=>s.1≤n∧Tb s.2∧sgF c (n-s.1) s.2=some u) (0,a) ⟨Nat.zero_le _,ha,u1⟩ rfl (fun _ _=>rfl) rfl fun ⟨i,x⟩ ⟨j1,j2,j3⟩=>?_
  dsimp only at j1 j2 j3 ⊢
  by_cases hi:i<n
  · obtain ⟨k,hk⟩:∃ k,n-i=k+1:=⟨n-i-1,by omega⟩
    have hk':n-(i+1)=k:=by omega
    rw [hk] at j3
    simp only [sgF] at j3
    have px:=Uc j2
    have cb:=Qci (by omega) call j2.lo j2.hi
    have hlt:decide ((i:Int)<(n:Int))=true:=by simp; omega
    by_cases X:x.point=true
    · rw [if_pos (.inl X)] at j3
      injection j3 with j3; subst j3
      exact en tt [.t hlt,.c [] px,.g 50 true X,.t rfl,.c [] (Au hp j2.hi)] rfl rfl trivial
    · have X':x.point=false:=by simpa using X
      by_cases Z:Jc c x.lo x.hi=0
      · rw [if_pos (.inr Z)] at j3
        injection j3 with j3; subst j3
        exact en tt [.t hlt,.c [] px,.g 50 false X',.c [] cb,.t (by simpa using Z),.c [] (Au hp j2.hi)] rfl rfl trivial
      · rw [if_neg (by rintro (h | h); exact X h; exact Z h)] at j3
        obtain ⟨v,v1,v2⟩:=Option.bind_eq_some_iff.1 j3
        refine go tt [.t hlt,.c [] px,.g 50 false X',.c [] cb,.f (by simpa using Z),.c [] (Qlk j2 v1)] rfl (by simp [Qa]; omega) ?_
        exact rd (i+1,v) (by dsimp only; omega) ⟨hi,Qgv j2 v1,by dsimp only; rw [hk']; exact v2⟩ rfl
  · obtain rfl:i=n:=by omega
    rw [Nat.sub_self] at j3
    simp only [sgF] at j3
    injection j3 with j3; subst j3
    exact en tt [.f (by simp),.c [] (Au hp j2.hi)] rfl rfl trivial
abbrev tas (l:List Tm):LV:=.row (l.map fun t=>ta t)
theorem I7 {l:List Tm} {i:Nat} {t:Tm} (h:l[i]? = some t):(l.map fun t=>ta t)[i]? = some (ta t):=Xd h
def zTr:List LV:=[.row [],.bool false,.row [],.bool false,.row [],.bool false,.row [],.bool false,.row []]
theorem Quq:Qd Tryz.prog 136 [.one (.row [])] [.agg zTr,.one (.bool false)]:=w tt Tryz.func136 rfl [.t rfl] rfl rfl trivial
theorem Sq {b:Tm} {l:List Tm} {m:Tm} (hb:Tb b) (hl:∀ t∈l,Tb t) (hn:l.length≤1000000) (h:Tn b l=some m):Qd Tryz.prog 136 [.one (tas (b::l))] [.agg (ta m),.one (.bool true)]:=by
  refine Z7 Tryz.func136 rfl ?_
  refine go tt [.f (by simp; omega),.x (i:=0) (xs:=ta b) rfl,.i 1] rfl (by simp [Qa]; exact ⟨rfl,fun _ _=>rfl⟩) ?_
  refine lp (S:=Nat×Tm) 2 (fun L1 s=>(17,.v (.one (.int .i64 (s.1:Int))))::L1) (fun s=>[.blk 67 zTm,.blk 67 (ta s.2)]) (fun s=>l.length-s.1) (fun s=>s.1≤l.length∧Tb s.2∧Tn s.2 (l.drop s.1)=some m) (0,b) ⟨Nat.zero_le _,hb,h⟩ rfl (fun _ _=>rfl) rfl fun ⟨i,x⟩ ⟨j1,j2,j3⟩=>?_
  dsimp only at j1 j2 j3 ⊢
  by_cases hi:i<l.length
  · obtain ⟨a,ha⟩:∃ a,l[i]? = some a:=⟨_,List.getElem?_eq_getElem hi⟩
    have hdr:l.drop i=a::l.drop (i+1):=by
      rw [List.drop_eq_getElem_cons hi]; congr 1
      have:=List.getElem?_eq_getElem hi; rw [ha] at this; injection this with this; exact this.symm
    rw [hdr] at j3
    simp only [Tn] at j3
    obtain ⟨c,c1,j3⟩:=Option.bind_eq_some_iff.1 j3
    have ta':=hl a (List.mem_of_getElem? ha)
    by_cases hc:c<0
    · rw [if_pos hc] at j3
      refine go tt [.t (by simp; omega),.x (I7 ha),.c [] (Og ta' j2 c1),.t (by simpa using hc)] rfl (by simp [Qa]; omega) ?_
      exact rd (i+1,a) (by dsimp only; omega) ⟨hi,ta',j3⟩ rfl
    · rw [if_neg hc] at j3
      refine go tt [.t (by simp; omega),.x (I7 ha),.c [] (Og ta' j2 c1),.f (by simpa using hc)] rfl (by simp [Qa]; omega) ?_
      exact rd (i+1,x) (by dsimp only; omega) ⟨hi,j2,j3⟩ rfl
  · obtain rfl:i=l.length:=by omega
    rw [List.drop_length] at j3
    simp only [Tn] at j3
    injection j3 with j3; subst j3
    exact en tt [.f (by simp),.c [] (Qv6 j2)] rfl rfl trivial
end Orr

namespace Orq
def Qm (x:Rat):Rat:=if x<0 then -x else x
theorem Xg (x:Rat):0≤Qm x:=by unfold Qm; split <;> grind
theorem Y3 {x b:Rat}:Qm x≤b↔-b≤x∧x≤b:=by unfold Qm; split <;> constructor <;> grind
theorem Qgg {x b:Rat}:Qm x<b↔-b<x∧x<b:=by unfold Qm; split <;> constructor <;> grind
theorem Jv (x y:Rat):Qm (x+y)≤Qm x+Qm y:=by unfold Qm; split <;> split <;> split <;> grind
theorem Qqz (x y:Rat):Qm (x-y)=Qm (y-x):=by unfold Qm; split <;> split <;> grind
theorem U7 (x:Rat):Qm (-x)=Qm x:=by unfold Qm; split <;> split <;> grind
theorem Xu:Qm 0=0:=by decide
theorem K5 {x:Rat} (h:x≠0):0<Qm x:=by unfold Qm; split <;> grind
theorem Q4e {x:Rat} (h:Qm x=0):x=0:=by unfold Qm at h; split at h <;> grind
theorem V4 {x y:Rat} (h1:0≤x) (h2:0≤y):0≤x*y:=Rat.mul_nonneg h1 h2
theorem Hf {x y:Rat} (h1:0<x) (h2:0<y):0<x*y:=Rat.mul_pos h1 h2
theorem Kt {a b c d:Rat} (h0:0≤a) (h1:a≤b) (h2:0≤c) (h3:c≤d):a*c≤b*d:=by
  have e1:=Rat.mul_le_mul_of_nonneg_right h1 h2
  have e2:=Rat.mul_le_mul_of_nonneg_left h3 (Rat.le_trans h0 h1)
  exact Rat.le_trans e1 e2
theorem G0 (x y:Rat):Qm (x*y)=Qm x*Qm y:=by
  unfold Qm
  by_cases h1:x<0 <;> by_cases h2:y<0
  · have:=Hf (x:=-x) (y:=-y) (by grind) (by grind); simp only [h1,h2,if_true]; split <;> grind
  · have:=V4 (x:=-x) (y:=y) (by grind) (by grind); simp only [h1,h2,if_true,if_false]; split <;> grind
  · have:=V4 (x:=x) (y:=-y) (by grind) (by grind); simp only [h1,h2,if_true,if_false]; split <;> grind
  · have:=V4 (x:=x) (y:=y) (by grind) (by grind); simp only [h1,h2,if_false]; split <;> grind
theorem Zv {x y a b:Rat} (h1:Qm x≤a) (h2:Qm y≤b):Qm (x*y)≤a*b:=by
  rw [G0]; exact Kt (Xg x) h1 (Xg y) h2
theorem Fq {x y:Rat} (h1:0<x) (h2:0<y):0<x / y:=by rw [Rat.div_def]; exact Hf h1 (Rat.inv_pos.2 h2)
theorem Zx {x y:Rat} (h2:0<y):x / y*y=x:=Rat.div_mul_cancel (by grind)
theorem Zy {b d:Rat} (hb:0≤b) (hd:0<d):∃ e:Rat,0<e∧e≤1∧e*b<d:=by
  have h1:0<d / (b+1):=Fq hd (by grind)
  have h2:d / (b+1)*(b+1)=d:=Zx (by grind)
  rcases Rat.le_total (a:=d / (b+1)) (b:=1) with h | h
  · exact ⟨d / (b+1),h1,h,by
     have:d / (b+1)*(b+1)=d / (b+1)*b+d / (b+1):=by grind
     grind⟩
  · refine ⟨1,by decide,by decide,?_⟩
    have:1*(b+1)≤d / (b+1)*(b+1):=Rat.mul_le_mul_of_nonneg_right h (by grind)
    grind
def ev:List Rat→Rat→Rat
  | [],_=>0
  | a::p,t=>a+t*ev p t
def dv:List Rat→Rat→Rat
  | [],_=>0
  | _::p,t=>ev p t+t*dv p t
def dq:List Rat→Rat→Rat→Rat
  | [],_,_=>0
  | _::p,x,y=>ev p x+y*dq p x y
def dd:List Rat→Rat→Rat→Rat
  | [],_,_=>0
  | _::p,x,y=>dq p x y+y*dd p x y
theorem Qcz (x y:Rat):∀ p,ev p x-ev p y=(x-y)*dq p x y
  | []=>by simp only [ev,dq]; grind
  | a::p=>by have:=Qcz x y p; simp only [ev,dq]; grind
theorem Qfa (y:Rat):∀ p,dq p y y=dv p y
  | []=>rfl
  | a::p=>by simp only [dq,dv,Qfa y p]
theorem Q53 (x y:Rat):∀ p,dq p x y-dv p y=(x-y)*dd p x y
  | []=>by simp only [dv,dq,dd]; grind
  |
   a::p=>by
   have h1:=Q53 x y p
   have h2:=Qcz x y p
   simp only [dv,dq,dd]; grind
theorem Q57 (p:List Rat) (x y:Rat):ev p x-ev p y=(x-y)*dv p y+(x-y)*(x-y)*dd p x y:=by
  have h1:=Qcz x y p
  have h2:=Q53 x y p
  grind
def evB (R:Rat):List Rat→Rat
  | []=>0
  | a::p=>Qm a+R*evB R p
def dqB (R:Rat):List Rat→Rat
  | []=>0
  | _::p=>evB R p+R*dqB R p
def ddB (R:Rat):List Rat→Rat
  | []=>0
  | _::p=>dqB R p+R*ddB R p
theorem S5 {R:Rat} (hR:0≤R):∀ p,0≤evB R p
  | []=>by simp only [evB]; grind
  | a::p=>by have:=V4 hR (S5 hR p); have:=Xg a; simp only [evB]; grind
theorem Vk {R:Rat} (hR:0≤R):∀ p,0≤dqB R p
  | []=>by simp only [dqB]; grind
  | a::p=>by have:=V4 hR (Vk hR p); have:=S5 hR p; simp only [dqB]; grind
theorem O5 {R:Rat} (hR:0≤R):∀ p,0≤ddB R p
  | []=>by simp only [ddB]; grind
  | a::p=>by have:=V4 hR (O5 hR p); have:=Vk hR p; simp only [ddB]; grind
theorem E6 {R x:Rat} (hx:Qm x≤R):∀ p,Qm (ev p x)≤evB R p
  | []=>by simp only [ev,evB,Xu]; grind
  |
   a::p=>by
   have h1:=Jv a (x*ev p x)
   have h2:=Zv hx (E6 hx p)
   simp only [ev,evB]; grind
theorem Qif {R x y:Rat} (hx:Qm x≤R) (hy:Qm y≤R):∀ p,Qm (dq p x y)≤dqB R p
  | []=>by simp only [dq,dqB,Xu]; grind
  |
   a::p=>by
   have h1:=Jv (ev p x) (y*dq p x y)
   have h2:=Zv hy (Qif hx hy p)
   have h3:=E6 hx p
   simp only [dq,dqB]; grind
theorem Qwk {R x y:Rat} (hx:Qm x≤R) (hy:Qm y≤R):∀ p,Qm (dd p x y)≤ddB R p
  | []=>by simp only [dd,ddB,Xu]; grind
  |
   a::p=>by
   have h1:=Jv (dq p x y) (y*dd p x y)
   have h2:=Zv hy (Qwk hx hy p)
   have h3:=Qif hx hy p
   simp only [dd,ddB]; grind
theorem Q7y {R x y:Rat} (hx:Qm x≤R) (hy:Qm y≤R) (p:List Rat):Qm (ev p x-ev p y)≤Qm (x-y)*dqB R p:=by
  rw [Qcz,G0]; exact Kt (Xg _) Rat.le_refl (Xg _) (Qif hx hy p)
def Jw:List Rat→List Rat→List Rat
  | [],q=>q
  | a::p,[]=>a::p
  | a::p,b::q=>(a+b)::Jw p q
def W8 (c:Rat) (p:List Rat):List Rat:=p.map (c * ·)
def Zq:List Rat→List Rat→List Rat
  | [],_=>[]
  | a::p,q=>Jw (W8 a q) (0::Zq p q)
def V5:List Rat→List Rat
  | []=>[]
  | _::p=>Jw p (0::V5 p)
theorem Zm (t:Rat):∀ p q,ev (Jw p q) t=ev p t+ev q t
  | [],q=>by simp only [Jw,ev]; grind
  | a::p,[]=>by simp only [Jw,ev]; grind
  | a::p,b::q=>by have:=Zm t p q; simp only [Jw,ev]; grind
theorem Zc (c t:Rat):∀ p,ev (W8 c p) t=c*ev p t
  | []=>by simp only [W8,List.map_nil,ev]; grind
  | a::p=>by have:=Zc c t p; simp only [W8,List.map_cons,ev] at *; grind
theorem Qk (t:Rat):∀ p q,ev (Zq p q) t=ev p t*ev q t
  | [],q=>by simp only [Zq,ev]; grind
  | a::p,q=>by have:=Qk t p q; simp only [Zq,Zm,Zc,ev]; grind
theorem Jd (t:Rat):∀ p,ev (V5 p) t=dv p t
  | []=>rfl
  | a::p=>by have:=Jd t p; simp only [V5,Zm,ev,dv]; grind
theorem Qfb (t:Rat):∀ p q,dv (Jw p q) t=dv p t+dv q t
  | [],q=>by simp only [Jw,dv]; grind
  | a::p,[]=>by simp only [Jw,dv]; grind
  | a::p,b::q=>by have:=Qfb t p q; have:=Zm t p q; simp only [Jw,dv]; grind
theorem Lo (c t:Rat):∀ p,dv (W8 c p) t=c*dv p t
  | []=>by simp only [W8,List.map_nil,dv]; grind
  | a::p=>by have:=Lo c t p; have:=Zc c t p; simp only [W8,List.map_cons,dv] at *; grind
theorem Qfc (t:Rat):∀ p q,dv (Zq p q) t=dv p t*ev q t+ev p t*dv q t
  | [],q=>by simp only [Zq,dv,ev]; grind
  | a::p,q=>by have:=Qfc t p q; have:=Qk t p q; simp only [Zq,Qfb,Lo,dv,ev]; grind
theorem Qpf:∀ {p:List Rat},(∀ x∈p,x=0)→∀ t,ev p t=0
  | [],_,t=>rfl
  |
   a::p,h,t=>by
   have h1:=Qpf (p:=p) (fun x hx=>h x (List.mem_cons_of_mem _ hx)) t
   have h2:=h a (List.mem_cons_self ..)
   simp only [ev,h1,h2]; grind
theorem Qpb:∀ {p:List Rat},(∀ x∈p,x=0)→∀ t,dv p t=0
  | [],_,t=>rfl
  |
   a::p,h,t=>by
   have h0:=fun x hx=>h x (List.mem_cons_of_mem _ hx)
   have h1:=Qpf (p:=p) h0 t
   have h2:=Qpb (p:=p) h0 t
   simp only [dv,h1,h2]; grind
theorem Bs:∀ {p:List Rat},(∀ t,0<t→t<1→ev p t=0)→∀ x∈p,x=0
  | [],_=>fun x hx=>by cases hx
  |
   a::p,h=>by
   have ha:a=0:=by
     rcases Classical.em (a=0) with h0 | h0
     · exact h0
     · obtain ⟨e,e1,e2,e3⟩:=Zy (S5 (R:=1) (by decide) p) (K5 h0)
       obtain ⟨f,f1,f2,f3⟩:=Zy (b:=1) (d:=e) (by decide) e1
       have h1:=h f f1 (by grind)
       have h2:=E6 (R:=1) (x:=f) (by unfold Qm; split <;> grind) p
       have h3:=G0 f (ev p f)
       have h4:Qm f=f:=by unfold Qm; split <;> grind
       have h5:a=-(f*ev p f):=by simp only [ev] at h1; grind
       have h6:Qm a=f*Qm (ev p f):=by rw [h5,U7,h3,h4]
       have h7:f*Qm (ev p f)≤e*evB 1 p:=Kt (Rat.le_of_lt f1) (by grind) (Xg _) h2
       grind
   intro x hx
   rcases List.mem_cons.1 hx with rfl | hx
   · exact ha
   · refine Bs (p:=p) (fun t h1 h2=>?_) x hx
     have:=h t h1 h2
     simp only [ev,ha] at this
     have h3:t*ev p t=0:=by grind
     rcases Rat.mul_eq_zero.1 h3 with h4 | h4
     · grind
     · exact h4
theorem Qws {p q:List Rat} (h:∀ t,ev p t=ev q t) (t:Rat):dv p t=dv q t:=by
  have h1:=Qpb (p:=Jw p (W8 (-1) q)) (Bs fun t _ _=>by rw [Zm,Zc,h t]; grind) t
  rw [Qfb,Lo] at h1; grind
end Orq

namespace Orq
def Qp (x:Rat):Int:=if x<0 then -1 else if 0<x then 1 else 0
theorem Zg {x:Rat}:Qp x=0↔x=0:=by
  unfold Qp; constructor
  · intro h; split at h <;> (try split at h) <;> grind
  · intro h; subst h; rfl
theorem Xh {x:Rat}:Qp x=1↔0<x:=by
  unfold Qp; constructor
  · intro h; split at h <;> (try split at h) <;> grind
  · intro h; rw [if_neg (by grind),if_pos h]
theorem J5 {x:Rat}:Qp x=-1↔x<0:=by
  unfold Qp; constructor
  · intro h; split at h <;> (try split at h) <;> grind
  · intro h; rw [if_pos h]
theorem Ze (x:Rat):Qp x=-1∧x<0∨Qp x=0∧x=0∨Qp x=1∧0<x:=by
  rcases Rat.le_total (a:=x) (b:=0) with h | h
  · rcases Classical.em (x=0) with h0 | h0
    · exact .inr (.inl ⟨Zg.2 h0,h0⟩)
    · exact .inl ⟨J5.2 (by grind),by grind⟩
  · rcases Classical.em (x=0) with h0 | h0
    · exact .inr (.inl ⟨Zg.2 h0,h0⟩)
    · exact .inr (.inr ⟨Xh.2 (by grind),by grind⟩)
theorem Jx (x y:Rat):Qp (x*y)=Qp x*Qp y:=by
  rcases Ze x with ⟨e1,h1⟩ | ⟨e1,h1⟩ | ⟨e1,h1⟩ <;> rcases Ze y with ⟨e2,h2⟩ | ⟨e2,h2⟩ | ⟨e2,h2⟩ <;> rw [e1,e2]
  · have:=Hf (x:=-x) (y:=-y) (by grind) (by grind); exact Xh.2 (by grind)
  · subst h2; exact Zg.2 (by grind)
  · have:=Hf (x:=-x) (y:=y) (by grind) (by grind); exact J5.2 (by grind)
  · subst h1; exact Zg.2 (by grind)
  · subst h1; exact Zg.2 (by grind)
  · subst h1; exact Zg.2 (by grind)
  · have:=Hf (x:=x) (y:=-y) (by grind) (by grind); exact J5.2 (by grind)
  · subst h2; exact Zg.2 (by grind)
  · exact Xh.2 (Hf h1 h2)
theorem Yl {a b d:Rat} (h1:d≤Qm a) (h2:Qm (b-a)<d):Qp b=Qp a∧Qp a≠0:=by
  rw [Qgg] at h2
  rcases Ze a with ⟨e,h⟩ | ⟨e,h⟩ | ⟨e,h⟩
  · rw [e,J5]; unfold Qm at h1; rw [if_pos h] at h1; exact ⟨by grind,by decide⟩
  · subst h; rw [Xu] at h1; grind
  · rw [e,Xh]; unfold Qm at h1; rw [if_neg (by grind)] at h1; exact ⟨by grind,by decide⟩
def tc (x:Rat):Int→List (List Rat)→Nat
  | _,[]=>0
  | s,p::l=>if Qp (ev p x)=0 then tc x s l else (if s=-(Qp (ev p x)) then 1 else 0)+tc x (Qp (ev p x)) l
inductive SCl:List Rat→List Rat→List (List Rat)→Prop
  | base {f g:List Rat} {c:Rat} (hc:c≠0) (hg:∀ t,ev g t=c):SCl f g []
  | step {f g h:List Rat} {l:List (List Rat)} {a b:Rat} {q:List Rat} (ha:0<a) (hb:0<b) (he:∀ t,a*ev f t=ev q t*ev g t-b*ev h t) (hl:SCl g h l):SCl f g (h::l)
theorem Q0o {x:Rat} {s:Int} {g h:List Rat} {l:List (List Rat)} (hh:Qp (ev h x)=-s) (hs:s≠0):tc x s (g::h::l)=1+tc x (-s) l:=by
  have h3:Qp (ev h x)≠0:=by omega
  have hv:s=1∨s=-1:=by rcases Ze (ev h x) with ⟨e,_⟩ | ⟨e,_⟩ | ⟨e,_⟩ <;> omega
  simp only [tc,if_neg h3,hh]
  rcases Ze (ev g x) with ⟨e,_⟩ | ⟨e,_⟩ | ⟨e,_⟩ <;> rw [e] <;> rcases hv with rfl | rfl <;> simp
theorem Du {x:Rat} {s:Int} {p:List Rat} {l:List (List Rat)} (h:Qp (ev p x)≠0):tc x s (p::l)=(if s=-(Qp (ev p x)) then 1 else 0)+tc x (Qp (ev p x)) l:=by rw [tc,if_neg h]
theorem Yy {R x y e d:Rat} {p:List Rat} (hx:Qm x≤R) (hy:Qm y≤R) (hR:0≤R) (h:Qm (y-x)≤e) (hd:e*dqB R p<d):Qm (ev p y-ev p x)<d:=by
  have h1:=Q7y hy hx p
  have h2:=Rat.mul_le_mul_of_nonneg_right h (Vk hR p)
  grind
theorem Qdo {a x y:Rat} (ha:0<a) (h:a*x<a*y):x<y:=by
  rcases Rat.le_total (a:=y) (b:=x) with h' | h'
  · have:=Rat.mul_le_mul_of_nonneg_left h' (Rat.le_of_lt ha); grind
  · rcases Classical.em (x=y) with e | e
    · subst e; grind
    · grind
theorem Q86 {a b d d' B f g h q:Rat} (ha:0<a) (hb:0<b) (dp:0<d) (h7:B*d+a*d<b*d') (hq:Qm q≤B) (hg:Qm g<d) (hh:d'≤Qm h) (he:a*f=q*g-b*h) (hd':0<d'):Qp h=-Qp f∧d≤Qm f:=by
  have h4:=Zv hq (Rat.le_of_lt hg)
  rw [Y3] at h4
  have had:=Hf ha dp
  have h8:=Rat.mul_le_mul_of_nonneg_left hh (Rat.le_of_lt hb)
  rcases Ze h with ⟨s,p⟩ | ⟨s,p⟩ | ⟨s,p⟩
  · have:Qm h=-h:=by unfold Qm; rw [if_pos p]
    rw [this] at h8
    have h10:d<f:=Qdo ha (by grind)
    rw [s,Xh.2 (show 0<f by grind)]
    exact ⟨rfl,by unfold Qm; split <;> grind⟩
  · rw [p,Xu] at hh; grind
  · have:Qm h=h:=by unfold Qm; rw [if_neg (by grind)]
    rw [this] at h8
    have h10:f < -d:=Qdo ha (by grind)
    rw [s,J5.2 (show f<0 by grind)]
    exact ⟨rfl,by unfold Qm; split <;> grind⟩
theorem min2 {a b:Rat} (ha:0<a) (hb:0<b):∃ e:Rat,0<e∧e≤a∧e≤b:=by
  rcases Rat.le_total (a:=a) (b:=b) with h | h
  · exact ⟨a,ha,Rat.le_refl,h⟩
  · exact ⟨b,hb,h,Rat.le_refl⟩
theorem Q7 (a b:Rat):a≤b∨b<a:=by
  rcases Rat.le_total (a:=a) (b:=b) with h | h
  · exact .inl h
  · rcases Classical.em (a=b) with e | e
    · exact .inl (by grind)
    · exact .inr (by grind)
theorem Q8g {R:Rat} (hR:0≤R) {f g:List Rat} {l:List (List Rat)} (hc:SCl f g l):∃ d e:Rat,0<d∧0<e∧∀ x y,Qm x≤R→Qm y≤R→Qm (y-x)≤e →
    (d≤Qm (ev f x)∨d≤Qm (ev g x))∧(d≤Qm (ev f x)→Qp (ev f y)=Qp (ev f x)∧Qp (ev f x)≠0)∧(d≤Qm (ev g x)→Qp (ev g y)=Qp (ev g x)∧Qp (ev g x)≠0) ∧
    (Qp (ev f y)=Qp (ev f x)→Qp (ev f x)≠0→tc x (Qp (ev f x)) (g::l)=tc y (Qp (ev f x)) (g::l)) ∧
    (Qp (ev g y)=Qp (ev g x)→Qp (ev g x)≠0→tc x (Qp (ev g x)) l=tc y (Qp (ev g x)) l):=by
  induction hc with
  |
   @base f g c hc hg =>
   have hd:=K5 hc
   obtain ⟨e,e1,e2,e3⟩:=Zy (Vk hR f) hd
   refine ⟨Qm c,e,hd,e1,fun x y hx hy hxy=>⟨.inr (by rw [hg]; exact Rat.le_refl),fun h=>Yl h (Yy hx hy hR hxy e3),fun h=>?_,fun _ _=>?_,fun _ _=>rfl⟩⟩
   · rw [hg,hg]; exact ⟨rfl,fun h=>hc (Zg.1 h)⟩
   · simp only [tc,hg]
  |
   @step f g h l a b q ha hb he hl ih =>
   obtain ⟨d',e',hd',he',ih⟩:=ih
   obtain ⟨d1,d1p,_,d1b⟩:=Zy (b:=evB R q+a) (d:=b*d') (by have:=S5 hR q; grind) (Hf hb hd')
   obtain ⟨d,dp,hd1,hdd⟩:=min2 d1p hd'
   obtain ⟨ef,ef1,_,ef3⟩:=Zy (Vk hR f) dp
   obtain ⟨eg,eg1,_,eg3⟩:=Zy (Vk hR g) dp
   obtain ⟨e0,e0p,h1,h2⟩:=min2 ef1 eg1
   obtain ⟨e,ep,h0,h3⟩:=min2 e0p he'
   have h1:=Rat.le_trans h0 h1
   have h2:=Rat.le_trans h0 h2
   refine ⟨d,e,dp,ep,fun x y hx hy hxy=>?_⟩
   obtain ⟨i1,i2,i3,i4,i5⟩:=ih x y hx hy (Rat.le_trans hxy h3)
   have hsm:Qm (ev g x)<d→d'≤Qm (ev h x)∧Qp (ev h x)=-Qp (ev f x)∧d≤Qm (ev f x):=fun hg=>by
     have hh:d'≤Qm (ev h x):=by
       rcases i1 with i | i
       · exact absurd (Rat.le_trans hdd i) (Rat.not_le.2 hg)
       · exact i
     have h6:d*(evB R q+a)≤d1*(evB R q+a):=Rat.mul_le_mul_of_nonneg_right hd1 (by have:=S5 hR q; clear ih i1 i2 i3 i4 i5 he; grind)
     have h7:evB R q*d+a*d<b*d':=by clear ih i1 i2 i3 i4 i5 he; grind
     exact ⟨hh,Q86 ha hb dp h7 (E6 hx q) hg hh (he x) hd'⟩
   have hfs:d≤Qm (ev f x)→Qp (ev f y)=Qp (ev f x)∧Qp (ev f x)≠0:=fun h=>Yl h (Yy hx hy hR (Rat.le_trans hxy h1) ef3)
   have hgs:d≤Qm (ev g x)→Qp (ev g y)=Qp (ev g x)∧Qp (ev g x)≠0:=fun h=>Yl h (Yy hx hy hR (Rat.le_trans hxy h2) eg3)
   refine ⟨?_,hfs,hgs,fun s1 s2=>?_,i4⟩
   · rcases Q7 d (Qm (ev g x)) with h | h
     · exact .inr h
     · exact .inl (hsm h).2.2
   · rcases Q7 d (Qm (ev g x)) with h | h
     · obtain ⟨g1,g2⟩:=hgs h
       rw [Du (x:=x) (p:=g) g2,Du (x:=y) (p:=g) (by rw [g1]; exact g2),g1,i4 g1 g2]
     · obtain ⟨h4,h5,_⟩:=hsm h
       obtain ⟨h6,h7⟩:=i3 h4
       have i5:=i5 h6 h7
       rw [Q0o h5 s2,Q0o (h6.trans h5) s2,←h5,i5]
end Orq

namespace Orq
def Yf (p:List Rat) (x:Rat):Int:=if Qp (ev p x)≠0 then Qp (ev p x) else Qp (dv p x)
def vv (L:List (List Rat)) (x:Rat):Nat:=tc x 0 L
def As (f:List Rat) (L:List (List Rat)):Prop:=(∃ c:Rat,c≠0∧(∀ t,ev f t=c)∧L=[f])∨∃ g l,∃ k:Rat,0<k∧(∀ t,ev g t=k*dv f t)∧SCl f g l∧L=f::g::l
structure Sm (w:List Rat) (x y:Rat):Prop where
  s:Qp (ev w y)=Yf w x
  l:Yf w y=Yf w x
  n:Yf w x≠0
theorem Fx {p:List Rat} {x:Rat} (h:Qp (ev p x)≠0):Yf p x=Qp (ev p x):=by unfold Yf; rw [if_pos h]
theorem Qmi {p:List Rat} {x:Rat} (h:Qp (ev p x)=0):Yf p x=Qp (dv p x):=by unfold Yf; rw [if_neg (by simpa using h)]
theorem Qka {p:List Rat} {x y:Rat} (h:Qp (ev p y)=Qp (ev p x)) (h0:Qp (ev p x)≠0):Sm p x y:=by
  have h1:=Fx h0
  have h2:=Fx (p:=p) (x:=y) (by rw [h]; exact h0)
  exact ⟨by rw [h,h1],by rw [h2,h1,h],by rw [h1]; exact h0⟩
theorem Tg {f w u:List Rat} (h:∀ t,ev f t=ev w t*ev u t) (x:Rat):dv f x=dv w x*ev u x+ev w x*dv u x:=by
  rw [←Qfc]; exact Qws (fun t=>by rw [h,Qk]) x
theorem Qp2 {f w u:List Rat} {x:Rat} (h:∀ t,ev f t=ev w t*ev u t) (hu:Qp (ev u x)≠0):Yf f x=Yf w x*Qp (ev u x):=by
  by_cases hw:Qp (ev w x)=0
  · have hw0:=Zg.1 hw
    have e1:ev f x=0:=by rw [h,hw0]; grind
    have e2:dv f x=dv w x*ev u x:=by rw [Tg h,hw0]; grind
    rw [Qmi hw,Qmi (Zg.2 e1),e2,Jx]
  · have e1:Qp (ev f x)=Qp (ev w x)*Qp (ev u x):=by rw [h,Jx]
    rw [Fx hw,Fx (by rw [e1]; exact Int.mul_ne_zero hw hu),e1]
theorem Q87 {f w u:List Rat} {x y:Rat} (h:∀ t,ev f t=ev w t*ev u t) (hu:Qp (ev u y)=Qp (ev u x)) (h0:Qp (ev u x)≠0) (hf:Sm f x y):Sm w x y:=by
  have e1:=Qp2 h h0
  have e2:=Qp2 (x:=y) h (by rw [hu]; exact h0)
  have e3:Qp (ev f y)=Qp (ev w y)*Qp (ev u y):=by rw [h,Jx]
  obtain ⟨s,l,n⟩:=hf
  rw [hu] at e2 e3
  refine ⟨?_,?_,fun h=>n (by rw [e1,h,Int.zero_mul])⟩
  · rw [e3,e1] at s; exact Int.eq_of_mul_eq_mul_right h0 s
  · rw [e2,e1] at l; exact Int.eq_of_mul_eq_mul_right h0 l
theorem tc0 {x:Rat} {s:Int} {f g:List Rat} {l:List (List Rat)} (h:Qp (ev g x)=s) (hs:s≠0):tc x 0 (f::g::l)=(if Qp (ev f x)=-s then 1 else 0)+tc x s l:=by
  have hv:s=1∨s=-1:=by rcases Ze (ev g x) with ⟨e,_⟩ | ⟨e,_⟩ | ⟨e,_⟩ <;> omega
  have hg:Qp (ev g x)≠0:=by omega
  rw [tc]
  rcases Ze (ev f x) with ⟨e,_⟩ | ⟨e,_⟩ | ⟨e,_⟩ <;> rw [e] <;> rcases hv with rfl | rfl <;> simp [Du hg,h]
theorem Qa9 {R x y e d:Rat} {p:List Rat} (hx:Qm x≤R) (hy:Qm y≤R) (hR:0≤R) (hxy:x<y) (h:y-x≤e) (hd:d≤Qm (dv p x)) (he:e*ddB R p<d):Qp (ev p y-ev p x)=Qp (dv p x):=by
  have h1:=Q57 p y x
  have h2:ev p y-ev p x=(y-x)*(dv p x+(y-x)*dd p y x):=by rw [h1]; grind
  have h3:=Zv (x:=y-x) (y:=dd p y x) (a:=e) (b:=ddB R p) (by rw [Y3]; constructor <;> grind) (Qwk hy hx p)
  have h4:=Yl (b:=dv p x+(y-x)*dd p y x) hd (by
    have:dv p x+(y-x)*dd p y x-dv p x=(y-x)*dd p y x:=by grind
    rw [this]; exact Rat.not_le.1 fun h=>absurd (Rat.le_trans h h3) (Rat.not_le.2 he))
  rw [h2,Jx,Xh.2 (show 0<y-x by grind),h4.1,Int.one_mul]
def Qt6 (f w:List Rat) (L:List (List Rat)) (x y:Rat):Prop :=
  (vv L x=vv L y∧Sm f x y∧Sm w x y)∨(vv L x=vv L y+1∧Yf f x≠0∧Yf f y=-Yf f x∧Qp (ev f x)=Yf f x∧(Qp (ev f y)=0∨Qp (ev f y)=-Yf f x))
theorem Qxn {R d:Rat} (hR:0≤R) (hd:0<d) {f w u:List Rat} (h:∀ t,ev f t=ev w t*ev u t):∃ e:Rat,0<e∧∀ x y,Qm x≤R→Qm y≤R→Qm (y-x)≤e→d≤Qm (ev f x)→Sm f x y∧Sm w x y:=by
  obtain ⟨ef,ef1,_,ef3⟩:=Zy (Vk hR f) hd
  obtain ⟨d1,d1p,_,d1b⟩:=Zy (S5 hR u) hd
  obtain ⟨ew,ew1,_,ew3⟩:=Zy (Vk hR w) d1p
  obtain ⟨e,ep,e1,e2⟩:=min2 ef1 ew1
  refine ⟨e,ep,fun x y hx hy hxy hf=>⟨?_,?_⟩⟩
  · have:=Yl hf (Yy hx hy hR (Rat.le_trans hxy e1) ef3)
    exact Qka this.1 this.2
  · have hw:d1≤Qm (ev w x):=by
      rcases Q7 d1 (Qm (ev w x)) with h' | h'
      · exact h'
      · have h5:=Zv (Rat.le_of_lt h') (E6 hx u)
        rw [←h] at h5
        exact absurd (Rat.le_trans hf h5) (Rat.not_le.2 d1b)
    have:=Yl hw (Yy hx hy hR (Rat.le_trans hxy e2) ew3)
    exact Qka this.1 this.2
theorem loc {R:Rat} (hR:0≤R) {f w u:List Rat} {L:List (List Rat)} (hc:As f L) (h:∀ t,ev f t=ev w t*ev u t):∃ e:Rat,0<e∧∀ x y,Qm x≤R→Qm y≤R→x<y→y-x≤e→Qt6 f w L x y:=by
  rcases hc with ⟨c,hc,hf,rfl⟩ | ⟨g,l,k,hk,hg,hc,rfl⟩
  · obtain ⟨e,ep,h1⟩:=Qxn hR (K5 hc) h
    refine ⟨e,ep,fun x y hx hy hxy he=>.inl ⟨?_,h1 x y hx hy (by rw [Y3]; constructor <;> grind) (by rw [hf]; exact Rat.le_refl)⟩⟩
    simp only [vv,tc,hf]
  · obtain ⟨d,e1,dp,e1p,h1⟩:=Q8g hR hc
    obtain ⟨e2,e2p,h2⟩:=Qxn hR dp h
    -- where f is small,its derivative is Qxn
    obtain ⟨d3,d3p,_,d3b⟩:=Zy (b:=k) (d:=d) (Rat.le_of_lt hk) dp
    obtain ⟨e3,e3p,_,e3b⟩:=Zy (O5 hR f) d3p
    obtain ⟨d4,d4p,_,d4b⟩:=Zy (b:=dqB R w+dqB R u) (d:=d3) (by have:=Vk hR w; have:=Vk hR u; grind) d3p
    obtain ⟨e4,e4p,_,e4b⟩:=Zy (Vk hR w) d4p
    obtain ⟨e5,e5p,_,e5b⟩:=Zy (Vk hR u) d4p
    obtain ⟨a1,a1p,a11,a12⟩:=min2 e1p e2p
    obtain ⟨a2,a2p,a21,a22⟩:=min2 e3p e4p
    obtain ⟨a3,a3p,a31,a32⟩:=min2 a1p a2p
    obtain ⟨e,ep,b1,b2⟩:=min2 a3p e5p
    refine ⟨e,ep,fun x y hx hy hxy he=>?_⟩
    have hab:Qm (y-x)≤e:=by rw [Y3]; clear h1 h2; constructor <;> grind
    have hab1:Qm (y-x)≤e1:=by clear h1 h2; grind
    have hab2:Qm (y-x)≤e2:=by clear h1 h2; grind
    obtain ⟨i1,i2,i3,i4,i5⟩:=h1 x y hx hy hab1
    rcases Q7 d (Qm (ev f x)) with hf | hf
    · obtain ⟨s1,s2⟩:=h2 x y hx hy hab2 hf
      obtain ⟨j1,j2⟩:=i2 hf
      refine .inl ⟨?_,s1,s2⟩
      have:=i4 j1 j2
      simp only [vv]
      rw [Du (x:=x) (p:=f) j2,Du (x:=y) (p:=f) (by rw [j1]; exact j2),j1,this]
    · have hg1:d≤Qm (ev g x):=by
        rcases i1 with i | i
        · exact absurd i (Rat.not_le.2 hf)
        · exact i
      obtain ⟨g1,g2⟩:=i3 hg1
      have i5:=i5 g1 g2
      have hD:d3≤Qm (dv f x):=by
        rcases Q7 d3 (Qm (dv f x)) with h' | h'
        · exact h'
        · have h5:=Zv (x:=k) (a:=k) (by unfold Qm; split <;> clear h1 h2 <;> grind) (Rat.le_of_lt h')
          rw [←hg] at h5
          have:k*d3=d3*k:=by grind
          exact absurd (Rat.le_trans hg1 h5) (Rat.not_le.2 (by rw [this]; exact d3b))
      have hm:=Qa9 hx hy hR hxy (by clear h1 h2; grind:y-x≤e3) hD e3b
      have s1:Qp (ev g x)=Qp (dv f x):=by rw [hg,Jx,Xh.2 hk,Int.one_mul]
      have s2:Qp (ev g y)=Qp (dv f y):=by rw [hg,Jx,Xh.2 hk,Int.one_mul]
      obtain ⟨s,hs⟩:∃ s,s=Qp (ev g x):=⟨_,rfl⟩
      rw [←hs] at g1 g2 i5 s1
      rw [g1] at s2
      have v1:=tc0 (f:=f) (l:=l) hs.symm g2
      have v2:=tc0 (f:=f) (l:=l) g1 g2
      rw [←i5] at v2
      rw [←s1] at hm
      have hw:Sm f x y→Sm w x y:=fun hf=>by
        rcases Q7 d4 (Qm (ev u x)) with hu | hu
        · have hu:=Yl hu (Yy hx hy hR (Rat.le_trans hab b2) e5b)
          exact Q87 h hu.1 hu.2 hf
        · have hw:d4≤Qm (ev w x):=by
            rcases Q7 d4 (Qm (ev w x)) with h' | h'
            · exact h'
            · have q1:=Zv (x:=dv w x) (y:=ev u x) (a:=dqB R w) (by rw [←Qfa]; exact Qif hx hx w) (Rat.le_of_lt hu)
              have q2:=Zv (x:=ev w x) (y:=dv u x) (b:=dqB R u) (Rat.le_of_lt h') (by rw [←Qfa]; exact Qif hx hx u)
              have q3:=Jv (dv w x*ev u x) (ev w x*dv u x)
              rw [←Tg h] at q3
              have:d4*(dqB R w+dqB R u)=dqB R w*d4+d4*dqB R u:=by grind
              rw [this] at d4b
              exact absurd (Rat.le_trans hD (Rat.le_trans q3 (by clear h1 h2; grind:_≤dqB R w*d4+d4*dqB R u))) (Rat.not_le.2 d4b)
          have hw:=Yl hw (Yy hx hy hR (Rat.le_trans hab (by clear h1 h2; grind)) e4b)
          exact Qka hw.1 hw.2
      have lx:Yf f x=if Qp (ev f x)≠0 then Qp (ev f x) else s:=by rw [s1]; rfl
      have ly:Yf f y=if Qp (ev f y)≠0 then Qp (ev f y) else s:=by rw [s2]; rfl
      clear h1 h2 i1 i2 i3 i4
      have hsv:s=1∨s=-1:=by rcases Ze (ev g x) with ⟨e,_⟩ | ⟨e,_⟩ | ⟨e,_⟩ <;> omega
      unfold Qt6
      simp only [vv,v1,v2]
      rcases hsv with rfl | rfl
      · have hm:=Xh.1 hm
        rcases Ze (ev f x) with ⟨p1,p2⟩ | ⟨p1,p2⟩ | ⟨p1,p2⟩
        · rcases Ze (ev f y) with ⟨q1,q2⟩ | ⟨q1,q2⟩ | ⟨q1,q2⟩
          · rw [p1,q1]; have hsm:=Qka (p:=f) (x:=x) (y:=y) (by rw [p1,q1]) (by rw [p1]; decide)
            exact .inl ⟨rfl,hsm,hw hsm⟩
          · rw [lx,ly,p1,q1]; refine .inr ⟨by simp; omega,by decide,by decide,by decide,by decide⟩
          · rw [lx,ly,p1,q1]; refine .inr ⟨by simp; omega,by decide,by decide,by decide,by decide⟩
        · have q1:=Xh.2 (show 0<ev f y by grind)
          have hsm:Sm f x y:=⟨by rw [lx,q1,p1]; rfl,by rw [lx,ly,q1,p1]; rfl,by rw [lx,p1]; decide⟩
          rw [p1,q1]; exact .inl ⟨rfl,hsm,hw hsm⟩
        · have q1:=Xh.2 (show 0<ev f y by grind)
          have hsm:Sm f x y:=⟨by rw [lx,q1,p1]; rfl,by rw [lx,ly,q1,p1],by rw [lx,p1]; decide⟩
          rw [p1,q1]; exact .inl ⟨rfl,hsm,hw hsm⟩
      · have hm:=J5.1 hm
        rcases Ze (ev f x) with ⟨p1,p2⟩ | ⟨p1,p2⟩ | ⟨p1,p2⟩
        · have q1:=J5.2 (show ev f y<0 by grind)
          have hsm:Sm f x y:=⟨by rw [lx,q1,p1]; rfl,by rw [lx,ly,q1,p1],by rw [lx,p1]; decide⟩
          rw [p1,q1]; exact .inl ⟨rfl,hsm,hw hsm⟩
        · have q1:=J5.2 (show ev f y<0 by grind)
          have hsm:Sm f x y:=⟨by rw [lx,q1,p1]; rfl,by rw [lx,ly,q1,p1]; rfl,by rw [lx,p1]; decide⟩
          rw [p1,q1]; exact .inl ⟨rfl,hsm,hw hsm⟩
        · rcases Ze (ev f y) with ⟨q1,q2⟩ | ⟨q1,q2⟩ | ⟨q1,q2⟩
          · rw [lx,ly,p1,q1]; refine .inr ⟨by simp; omega,by decide,by decide,by decide,by decide⟩
          · rw [lx,ly,p1,q1]; refine .inr ⟨by simp; omega,by decide,by decide,by decide,by decide⟩
          · rw [p1,q1]; have hsm:=Qka (p:=f) (x:=x) (y:=y) (by rw [p1,q1]) (by rw [p1]; decide)
            exact .inl ⟨rfl,hsm,hw hsm⟩
end Orq

namespace Orq
theorem Zdg (z:Rat):∃ n:Nat,z≤(n:Rat):=by
  refine ⟨z.ceil.toNat,?_⟩
  have h1:z≤(z.ceil:Rat):=Rat.le_ceil
  have h2:(z.ceil:Rat)≤((z.ceil.toNat:Int):Rat):=Rat.intCast_le_intCast.2 (Int.self_le_toNat _)
  exact Rat.le_trans h1 h2
theorem So {z e:Rat} (he:0<e):∃ n:Nat,z≤(n:Rat)*e:=by
  obtain ⟨n,hn⟩:=Zdg (z / e)
  exact ⟨n,by have:=Rat.mul_le_mul_of_nonneg_right hn (Rat.le_of_lt he); rwa [Zx he] at this⟩
theorem Cn {R x y t:Rat} (hx:Qm x≤R) (hy:Qm y≤R) (h1:x≤t) (h2:t≤y):Qm t≤R:=by
  rw [Y3] at *; constructor <;> grind
def Qrr (f w:List Rat) (L:List (List Rat)) (x y:Rat):Prop :=
  vv L y≤vv L x∧(vv L x=vv L y→Sm f x y∧Sm w x y)∧(vv L x=vv L y+1→Yf f x≠0∧Yf f y=-Yf f x)
theorem Qp0 {f w:List Rat} {L:List (List Rat)} {x y:Rat} (h:Qt6 f w L x y):Qrr f w L x y:=by
  rcases h with ⟨h1,h2,h3⟩ | ⟨h1,h2,h3,_⟩
  · exact ⟨by omega,fun _=>⟨h2,h3⟩,fun h=>by omega⟩
  · exact ⟨by omega,fun h=>by omega,fun _=>⟨h2,h3⟩⟩
theorem Qkb {w:List Rat} {x y z:Rat} (h1:Sm w x y) (h2:Sm w y z):Sm w x z:=⟨by rw [h2.s,h1.l],by rw [h2.l,h1.l],h1.n⟩
theorem Qmg {f w:List Rat} {L:List (List Rat)} {x y z:Rat} (h:Qrr f w L x y) (h':Qrr f w L y z):Qrr f w L x z:=by
  obtain ⟨a1,a2,a3⟩:=h
  obtain ⟨b1,b2,b3⟩:=h'
  refine ⟨by omega,fun h=>?_,fun h=>?_⟩
  · obtain ⟨s1,s2⟩:=a2 (by omega)
    obtain ⟨s3,s4⟩:=b2 (by omega)
    exact ⟨Qkb s1 s3,Qkb s2 s4⟩
  · by_cases e:vv L x=vv L y
    · obtain ⟨s1,_⟩:=a2 e
      obtain ⟨s3,s4⟩:=b3 (by omega)
      exact ⟨s1.n,by rw [s4,s1.l]⟩
    · obtain ⟨s3,s4⟩:=a3 (by omega)
      obtain ⟨s1,_⟩:=b2 (by omega)
      exact ⟨s3,by rw [s1.l,s4]⟩
theorem Q76 {R:Rat} (hR:0≤R) {f w u:List Rat} {L:List (List Rat)} (hc:As f L) (h:∀ t,ev f t=ev w t*ev u t) {x y:Rat} (hx:Qm x≤R) (hy:Qm y≤R) (hxy:x<y):Qrr f w L x y:=by
  obtain ⟨e,ep,hl⟩:=loc hR hc h
  have key:∀ n:Nat,∀ x,Qm x≤R→x<y→y-x≤(n:Rat)*e→Qrr f w L x y:=by
    intro n
    induction n with
    | zero =>
     intro x hx hxy h; exfalso; have:((0:Nat):Rat)*e=0:=by simp
     grind
    |
     succ n ih =>
     intro x hx hxy hn
     rcases Q7 (y-x) e with h1 | h1
     · exact Qp0 (hl x y hx hy hxy h1)
     · have hm:Qm (x+e)≤R:=Cn hx hy (by clear hl ih; grind) (by clear hl ih; grind)
       have hn':(((n+1:Nat):Rat))=(n:Rat)+1:=by push_cast; rfl
       refine Qmg (Qp0 (hl x (x+e) hx hm (by clear hl ih; grind) (by clear hl ih; grind))) (ih (x+e) hm (by clear hl ih; grind) ?_)
       rw [hn'] at hn
       clear hl ih; grind
  obtain ⟨n,hn⟩:=So (z:=y-x) ep
  exact key n x hx hxy hn
theorem Qep (x y:Rat):∃ R:Rat,0≤R∧Qm x≤R∧Qm y≤R:=by
  refine ⟨Qm x+Qm y,?_,?_,?_⟩ <;> (have:=Xg x; have:=Xg y; grind)
theorem X7 (t:Rat):ev [1] t=1:=by simp only [ev]; grind
theorem Gj {f:List Rat} {L:List (List Rat)} (hc:As f L) {x y:Rat} (hxy:x<y):vv L y≤vv L x:=by
  obtain ⟨R,hR,hx,hy⟩:=Qep x y
  exact (Q76 hR hc (w:=f) (u:=[1]) (fun t=>by rw [X7]; grind) hx hy hxy).1
theorem Nk {f w u:List Rat} {L:List (List Rat)} (hc:As f L) (h:∀ t,ev f t=ev w t*ev u t) {x y:Rat} (hxy:x<y) (he:vv L x=vv L y):Sm w x y:=by
  obtain ⟨R,hR,hx,hy⟩:=Qep x y
  exact ((Q76 hR hc h hx hy hxy).2.1 he).2
theorem Qg8 {f:List Rat} {L:List (List Rat)} (hc:As f L) {x y:Rat} (hxy:x<y) (he:vv L x=vv L y):Sm f x y :=
  Nk hc (w:=f) (u:=[1]) (fun t=>by rw [X7]; grind) hxy he
theorem Qg7 {f:List Rat} {L:List (List Rat)} (hc:As f L) {x y:Rat} (hxy:x<y) (he:vv L x=vv L y+1):Yf f x≠0∧Yf f y=-Yf f x:=by
  obtain ⟨R,hR,hx,hy⟩:=Qep x y
  exact (Q76 hR hc (w:=f) (u:=[1]) (fun t=>by rw [X7]; grind) hx hy hxy).2.2 he
theorem Q0v {f:List Rat} {L:List (List Rat)} (hc:As f L) (R:Rat) (hR:0≤R):∃ e:Rat,0<e∧∀ x y,Qm x≤R→Qm y≤R→x<y→y-x≤e→vv L x≤vv L y+1:=by
  obtain ⟨e,ep,hl⟩:=loc hR hc (w:=f) (u:=[1]) (fun t=>by rw [X7]; grind)
  refine ⟨e,ep,fun x y hx hy hxy he=>?_⟩
  rcases hl x y hx hy hxy he with ⟨h,_⟩ | ⟨h,_⟩ <;> omega
theorem M7 {p:List Rat} {x:Rat} (h:Qp (ev p x)≠0):∃ e:Rat,0<e∧∀ y,Qm (y-x)≤e→Qp (ev p y)=Qp (ev p x):=by
  have hd:=K5 (x:=ev p x) fun h0=>h (Zg.2 h0)
  have hR:0≤Qm x+1:=by have:=Xg x; grind
  obtain ⟨e,e1,e2,e3⟩:=Zy (Vk hR p) hd
  refine ⟨e,e1,fun y hy=>(Yl Rat.le_refl (Yy (x:=x) (by grind) ?_ hR hy e3)).1⟩
  have:=Jv (y-x) x
  have e:y-x+x=y:=by grind
  rw [e] at this; grind
theorem Q6i {R M:Rat} {p:List Rat} (hM:M=ddB R p) (hR:0≤R) {h:Rat} (hh:0<h):∀ (n:Nat) (x:Rat),Qm x≤R→Qm (x+(n:Rat)*h)≤R→(∀ t,x≤t→t≤x+(n:Rat)*h→0≤dv p t)→ev p x-(n:Rat)*(h*h*M)≤ev p (x+(n:Rat)*h)
  |
   0,x,_,_,_=>by
   have e1:x+((0:Nat):Rat)*h=x:=by rw [show ((0:Nat):Rat)=0 from rfl]; grind
   have e2:((0:Nat):Rat)*(h*h*M)=0:=by simp
   rw [e1,e2]; grind
  |
   n+1,x,hx,hy,hd=>by
   have hn':(((n+1:Nat):Rat))=(n:Rat)+1:=by push_cast; rfl
   rw [hn'] at hy hd ⊢
   have hn0:(0:Rat)≤(n:Rat):=Rat.natCast_nonneg
   have hnh:=V4 hn0 (Rat.le_of_lt hh)
   have e1:x+((n:Rat)+1)*h=(x+h)+(n:Rat)*h:=by grind
   rw [e1] at hy hd ⊢
   have hxh:Qm (x+h)≤R:=Cn hx hy (by clear hd; grind) (by clear hd; grind)
   have ih:=Q6i hM hR hh n (x+h) hxh hy fun t h1 h2=>hd t (by clear hd; grind) h2
   have h0:=hd x Rat.le_refl (by clear hd; grind)
   have h1:=Q57 p (x+h) x
   have h2:=Qwk hxh hx p
   rw [←hM,Y3] at h2
   have h3:=Rat.mul_le_mul_of_nonneg_left h2.1 (V4 (Rat.le_of_lt hh) (Rat.le_of_lt hh))
   have h4:=V4 (Rat.le_of_lt hh) h0
   have e2:x+h-x=h:=by grind
   rw [e2] at h1
   clear hd hx hy hxh
   grind
theorem Zbd {p:List Rat} {x y:Rat} (hxy:x<y) (hd:∀ t,x≤t→t≤y→0≤dv p t):ev p x≤ev p y:=by
  obtain ⟨R,hR,hx,hy⟩:=Qep x y
  rcases Q7 (ev p x) (ev p y) with h | h
  · exact h
  · exfalso
    obtain ⟨M,hM⟩:∃ M,M=ddB R p:=⟨_,rfl⟩
    have hM0:=O5 hR p
    rw [←hM] at hM0
    obtain ⟨e,ep,_,he⟩:=Zy (b:=(y-x)*M) (d:=ev p x-ev p y) (V4 (by grind) hM0) (by grind)
    obtain ⟨n,hn⟩:=So (z:=y-x) ep
    have hn0:0<(n:Rat):=by
      rcases Q7 (n:Rat) 0 with h' | h'
      · have:=Rat.mul_le_mul_of_nonneg_right h' (Rat.le_of_lt ep); clear hd; grind
      · exact h'
    have hh:0<(y-x) / n:=Fq (by grind) hn0
    have e1:(n:Rat)*((y-x) / n)=y-x:=by rw [Rat.mul_comm]; exact Zx hn0
    have e2:x+(n:Rat)*((y-x) / n)=y:=by rw [e1]; grind
    have h1:=Q6i hM hR hh n x hx (by rw [e2]; exact hy) (by rw [e2]; exact hd)
    rw [e2] at h1
    have h2:(y-x) / n≤e:=by
      rcases Q7 ((y-x) / n) e with h' | h'
      · exact h'
      · have:=Rat.mul_lt_mul_of_pos_left h' hn0; clear hd; grind
    have h3:(n:Rat)*((y-x) / n*((y-x) / n)*M)=((y-x) / n)*((y-x)*M):=by
      have:(n:Rat)*((y-x) / n*((y-x) / n)*M)=((n:Rat)*((y-x) / n))*(((y-x) / n)*M):=by grind
      rw [this,e1]; grind
    have h4:=Rat.mul_le_mul_of_nonneg_right h2 (V4 (x:=y-x) (y:=M) (by grind) hM0)
    rw [h3] at h1
    clear hd; grind
theorem Q4k {p:List Rat} {x y:Rat} (hxy:x<y) (hd:∀ t,x≤t→t≤y→0<dv p t):ev p x<ev p y:=by
  have hx:=hd x Rat.le_refl (by grind)
  have hR:0≤Qm x+1:=by have:=Xg x; grind
  obtain ⟨e,e1,e2,e3⟩:=Zy (O5 hR p) hx
  obtain ⟨f,f1,f2,f3⟩:=min2 (a:=e) (b:=y-x) e1 (by grind)
  have hq:Qm (x+f)≤Qm x+1:=by
   have:=Jv x f; have:Qm f=f:=by unfold Qm; split <;> grind
   clear hd; grind
  have h1:=Qa9 (p:=p) (x:=x) (y:=x+f) (R:=Qm x+1) (e:=e) (d:=dv p x) (by clear hd; grind) hq hR (by grind) (by grind) (by unfold Qm; split <;> clear hd <;> grind) e3
  rw [Xh.2 hx,Xh] at h1
  rcases Classical.em (x+f=y) with e | e
  · rw [←e]; clear hd; grind
  · have:=Zbd (p:=p) (x:=x+f) (y:=y) (by clear hd; grind) fun t h1 h2=>Rat.le_of_lt (hd t (by clear hd; grind) h2)
    clear hd; grind
end Orq

namespace Orq
structure Cut (c:Rat→Int):Prop where
  val:∀ q,c q=1∨c q=0∨c q=-1
  mono:∀ q r,q<r→c q≠1→c r=-1
  up:∀ q,c q=1→∃ r,q<r∧c r=1
  dn:∀ q,c q=-1→∃ r,r<q∧c r=-1
  lo:∃ q,c q=1
  hi:∃ q,c q=-1
theorem Cut.mono' {c:Rat→Int} (h:Cut c) {q r:Rat} (hqr:q<r) (hr:c r≠-1):c q=1:=by
  rcases Classical.em (c q=1) with e | e
  · exact e
  · exact absurd (h.mono q r hqr e) hr
theorem Cut.lt {c:Rat→Int} (h:Cut c) {q r:Rat} (hq:c q=1) (hr:c r=-1):q<r:=by
  rcases Q7 r q with e | e
  · rcases Classical.em (r=q) with e' | e'
    · rw [e'] at hr; omega
    · have:=h.mono r q (by grind) (by omega); omega
  · exact e
theorem Cut.near {c:Rat→Int} (h:Cut c) {e:Rat} (he:0<e):∃ x y,c x=1∧c y=-1∧y-x≤e:=by
  obtain ⟨a,ha⟩:=h.lo
  obtain ⟨b,hb⟩:=h.hi
  have he2:0<e / 2:=Fq he (by decide)
  have h2:e / 2*2=e:=Zx (by decide)
  have key:∀ (n:Nat) (a:Rat),c a=1→b-a≤(n:Rat)*(e / 2)→∃ x y,c x=1∧c y=-1∧y-x≤e:=by
    intro n
    induction n with
    |
     zero =>
     intro a ha hn
     have:=h.lt ha hb
     rw [show ((0:Nat):Rat)=0 from rfl] at hn
     exfalso; grind
    |
     succ n ih =>
     intro a ha hn
     have hn':(((n+1:Nat):Rat))=(n:Rat)+1:=by push_cast; rfl
     rw [hn'] at hn
     rcases h.val (a+e / 2) with h1 | h1 | h1
     · exact ih _ h1 (by grind)
     · exact ⟨a,a+e,ha,h.mono (a+e / 2) _ (by grind) (by omega),by grind⟩
     · exact ⟨a,a+e / 2,ha,h1,by grind⟩
  obtain ⟨n,hn⟩:=So (z:=b-a) he2
  exact key n a ha hn
def Hn (p:List Rat) (c:Rat→Int):Prop:=∀ d:Rat,0<d→∃ x y,c x=1∧c y=-1∧∀ q,x≤q→q≤y→Qm (ev p q)<d
def NZ (p:List Rat) (c:Rat→Int) (s:Int):Prop:=∃ d:Rat,0<d∧∃ x y,c x=1∧c y=-1∧∀ q,x≤q→q≤y→Qp (ev p q)=s∧d≤Qm (ev p q)
def Nr (c:Rat→Int) (P:Rat→Prop):Prop:=∃ x y,c x=1∧c y=-1∧∀ q,x≤q→q≤y→P q
theorem Qml {c:Rat→Int} {P Q:Rat→Prop} (h1:Nr c P) (h2:Nr c Q):Nr c fun q=>P q∧Q q:=by
  obtain ⟨x,y,a1,a2,a3⟩:=h1
  obtain ⟨x',y',b1,b2,b3⟩:=h2
  refine ⟨if x≤x' then x' else x,if y≤y' then y else y',by split <;> assumption,by split <;> assumption,fun q q1 q2=>⟨a3 q ?_ ?_,b3 q ?_ ?_⟩⟩ <;> clear a3 b3 <;> grind
theorem Iq {c:Rat→Int} {P Q:Rat→Prop} (h1:Nr c P) (h:∀ q,P q→Q q):Nr c Q:=by
  obtain ⟨x,y,a1,a2,a3⟩:=h1
  exact ⟨x,y,a1,a2,fun q q1 q2=>h q (a3 q q1 q2)⟩
theorem Qjb {c:Rat→Int} (hc:Cut c) {P:Rat→Prop} (h1:Nr c P):∃ q,P q∧c q=1:=by
  obtain ⟨x,y,a1,a2,a3⟩:=h1
  exact ⟨x,a3 x Rat.le_refl (Rat.le_of_lt (hc.lt a1 a2)),a1⟩
theorem Qyg {c:Rat→Int} (hc:Cut c) {e:Rat} (he:0<e) {P:Rat→Prop} (h1:Nr c P):∃ x y,c x=1∧c y=-1∧y-x≤e∧x<y∧∀ q,x≤q→q≤y→P q:=by
  obtain ⟨x,y,a1,a2,a3⟩:=h1
  obtain ⟨x',y',b1,b2,b3⟩:=hc.near he
  refine ⟨if x≤x' then x' else x,if y≤y' then y else y',by split <;> assumption,by split <;> assumption,by clear a3; grind,hc.lt (by split <;> assumption) (by split <;> assumption),fun q q1 q2=>a3 q ?_ ?_⟩ <;> clear a3 <;> grind
theorem Q6g {c:Rat→Int} (hc:Cut c):∃ R:Rat,0≤R∧Nr c fun q=>Qm q≤R:=by
  obtain ⟨x,y,a1,a2,_⟩:=hc.near (e:=1) (by decide)
  obtain ⟨R,hR,h1,h2⟩:=Qep x y
  exact ⟨R,hR,x,y,a1,a2,fun q q1 q2=>Cn h1 h2 q1 q2⟩
theorem Ma {c:Rat→Int} (hc:Cut c) (p:List Rat):Hn p c∨∃ s,s≠0∧NZ p c s:=by
  rcases Classical.em (Hn p c) with h | h
  · exact .inl h
  · refine .inr ?_
    obtain ⟨d,hd0⟩:=Classical.not_forall.1 h
    obtain ⟨dp,hd⟩:=Classical.not_imp.1 hd0
    have hd:∀ x y,c x=1→c y=-1→∃ q,x≤q∧q≤y∧d≤Qm (ev p q):=fun x y hx hy=>by
      rcases Classical.em (∃ q,x≤q∧q≤y∧d≤Qm (ev p q)) with h' | h'
      · exact h'
      · refine absurd ⟨x,y,hx,hy,fun q h1 h2=>?_⟩ hd
        rcases Q7 d (Qm (ev p q)) with h3 | h3
        · exact absurd ⟨q,h1,h2,h3⟩ h'
        · exact h3
    obtain ⟨R,hR,hn⟩:=Q6g hc
    have hd2:0<d / 2:=Fq dp (by decide)
    have h2:d / 2*2=d:=Zx (by decide)
    obtain ⟨e,e1,_,e3⟩:=Zy (Vk hR p) hd2
    obtain ⟨x,y,hx,hy,hxy,_,hq⟩:=Qyg hc e1 hn
    obtain ⟨r,r1,r2,r3⟩:=hd x y hx hy
    have key:∀ q,x≤q→q≤y→Qm (ev p q-ev p r)<d / 2:=fun q q1 q2 =>
      Yy (hq r r1 r2) (hq q q1 q2) hR (by rw [Y3]; clear hq hd; constructor <;> grind) e3
    refine ⟨Qp (ev p r),fun h0=>?_,d / 2,hd2,x,y,hx,hy,fun q q1 q2=>⟨(Yl (d:=d) r3 ?_).1,?_⟩⟩
    · rw [Zg.1 h0,Xu] at r3; clear hq hd key; grind
    · have:=key q q1 q2; clear hq hd key; grind
    · have h3:=key q q1 q2
      have h4:=Jv (ev p r-ev p q) (ev p q)
      rw [show ev p r-ev p q+ev p q=ev p r from by clear hq hd key; grind,Qqz] at h4
      clear hq hd key; grind
theorem Q9m {c:Rat→Int} (hc:Cut c) {p:List Rat} {s:Int} (h1:Hn p c) (h2:NZ p c s):False:=by
  obtain ⟨d,dp,h2⟩:=h2
  obtain ⟨q,⟨a,b⟩,_⟩:=Qjb hc (Qml (h1 d dp) h2)
  exact absurd b.2 (Rat.not_le.2 a)
theorem Ys {c:Rat→Int} (hc:Cut c) {f p q:List Rat} (hf:∀ t,ev f t=ev p t*ev q t) (h:Hn p c):Hn f c:=by
  intro d dp
  obtain ⟨R,hR,hn⟩:=Q6g hc
  obtain ⟨e,e1,_,e3⟩:=Zy (S5 hR q) dp
  refine Iq (Qml hn (h e e1)) fun t ⟨h1,h2⟩=>?_
  rw [hf]
  have:=Zv (Rat.le_of_lt h2) (E6 h1 q)
  exact Rat.not_le.1 fun h=>absurd (Rat.le_trans h this) (Rat.not_le.2 e3)
theorem I8 {c:Rat→Int} {f p q:List Rat} (hf:∀ t,ev f t=ev p t+ev q t) (h:Hn p c) (h':Hn q c):Hn f c:=by
  intro d dp
  have hd2:0<d / 2:=Fq dp (by decide)
  have h2:d / 2*2=d:=Zx (by decide)
  refine Iq (Qml (h _ hd2) (h' _ hd2)) fun t ⟨h1,h2⟩=>?_
  rw [hf]
  have:=Jv (ev p t) (ev q t)
  grind
def RS (p:List Rat) (c:Rat→Int) (s:Int):Prop:=∃ y,c y=-1∧∀ q,c q=-1→q≤y→Qp (ev p q)=s
def LS (p:List Rat) (c:Rat→Int) (s:Int):Prop:=∃ x,c x=1∧∀ q,c q=1→x≤q→Qp (ev p q)=s
theorem Qd8 {c:Rat→Int} (hc:Cut c) {p:List Rat} {s:Int} (h:NZ p c s):RS p c s:=by
  obtain ⟨d,dp,x,y,a1,a2,a3⟩:=h
  exact ⟨y,a2,fun q h1 h2=>(a3 q (Rat.le_of_lt (hc.lt a1 h1)) h2).1⟩
theorem Qp3 {c:Rat→Int} (hc:Cut c) {p:List Rat} {s:Int} (h:NZ p c s):LS p c s:=by
  obtain ⟨d,dp,x,y,a1,a2,a3⟩:=h
  exact ⟨x,a1,fun q h1 h2=>(a3 q h2 (Rat.le_of_lt (hc.lt h1 a2))).1⟩
theorem Qq8 {c:Rat→Int} {p:List Rat} {s s':Int} (h:RS p c s) (h':RS p c s'):s=s':=by
  obtain ⟨y,a1,a2⟩:=h
  obtain ⟨y',b1,b2⟩:=h'
  rcases Q7 y y' with e | e
  · rw [←a2 y a1 Rat.le_refl,←b2 y a1 e]
  · rw [←a2 y' b1 (Rat.le_of_lt e),←b2 y' b1 Rat.le_refl]
theorem Q6l {c:Rat→Int} (hc:Cut c) {p:List Rat} (hv:Hn p c) {y:Rat} (hy:c y=-1) (h:∀ q,c q=-1→q≤y→0<dv p q) (q:Rat) (hq:c q=-1) (hqy:q≤y):0<ev p q:=by
  rcases Q7 (ev p q) 0 with h0 | h0
  · exfalso
    obtain ⟨r,r1,r2⟩:=hc.dn q hq
    have hr:ev p r<ev p q:=Q4k r1 fun t t1 t2=>h t (by
      rcases Classical.em (r=t) with e | e
      · rw [←e]; exact r2
      · exact hc.mono r t (by clear h; grind) (by omega)) (Rat.le_trans t2 hqy)
    obtain ⟨a,b,ha,hb,hab⟩:=hv (-ev p r) (by clear h; grind)
    obtain ⟨m,hm1,hm2,hm3⟩:∃ m,c m=-1∧m≤b∧m≤r:=by
      rcases Q7 b r with e | e
      · exact ⟨b,hb,Rat.le_refl,e⟩
      · exact ⟨r,r2,Rat.le_of_lt e,Rat.le_refl⟩
    have h1:=hab m (Rat.le_of_lt (hc.lt ha hm1)) hm2
    have h2:ev p m≤ev p r:=by
      rcases Classical.em (m=r) with e | e
      · rw [e]; exact Rat.le_refl
      · exact Rat.le_of_lt (Q4k (by clear h hab; grind) fun t t1 t2=>h t (by
          rcases Classical.em (m=t) with e | e
          · rw [←e]; exact hm1
          · exact hc.mono m t (by clear h hab; grind) (by omega)) (by clear h hab; grind))
    rw [Qgg] at h1
    clear h hab; grind
  · exact h0
theorem Qgn {c:Rat→Int} (hc:Cut c) {p:List Rat} {s:Int} (hv:Hn p c) (h:RS (V5 p) c s) (hs:s≠0):RS p c s:=by
  obtain ⟨y,hy,h⟩:=h
  have hsv:s=1∨s=-1:=by
    have:=h y hy Rat.le_refl
    rcases Ze (ev (V5 p) y) with ⟨e,_⟩ | ⟨e,_⟩ | ⟨e,_⟩ <;> omega
  rcases hsv with rfl | rfl
  · refine ⟨y,hy,fun q h1 h2=>Xh.2 (Q6l hc hv hy (fun q h1 h2=>?_) q h1 h2)⟩
    rw [←Jd]; exact Xh.1 (h q h1 h2)
  · refine ⟨y,hy,fun q h1 h2=>J5.2 ?_⟩
    have:=Q6l hc (p:=W8 (-1) p) (y:=y) (fun d dp=>Iq (hv d dp) fun q hq=>by rw [Zc,show -1*ev p q=-ev p q by grind,U7]; exact hq) hy (fun q h1 h2=>by
      rw [Lo,←Jd]
      have:=J5.1 (h q h1 h2); grind) q h1 h2
    rw [Zc] at this; grind
end Orq

namespace Orq
theorem Q6d {c:Rat→Int} (hc:Cut c) {p:List Rat} (hv:Hn p c) {x:Rat} (hx:c x=1) (h:∀ q,c q=1→x≤q→0<dv p q) (q:Rat) (hq:c q=1) (hxq:x≤q):ev p q<0:=by
  rcases Q7 0 (ev p q) with h0 | h0
  · exfalso
    obtain ⟨r,r1,r2⟩:=hc.up q hq
    have hr:ev p q<ev p r:=Q4k r1 fun t t1 t2=>h t (by
      rcases Classical.em (t=r) with e | e
      · rw [e]; exact r2
      · exact hc.mono' (q:=t) (r:=r) (by clear h; grind) (by omega)) (Rat.le_trans hxq t1)
    obtain ⟨a,b,ha,hb,hab⟩:=hv (ev p r) (by clear h; grind)
    obtain ⟨m,hm1,hm2,hm3⟩:∃ m,c m=1∧a≤m∧r≤m:=by
      rcases Q7 a r with e | e
      · exact ⟨r,r2,e,Rat.le_refl⟩
      · exact ⟨a,ha,Rat.le_refl,Rat.le_of_lt e⟩
    have h1:=hab m hm2 (Rat.le_of_lt (hc.lt hm1 hb))
    have h2:ev p r≤ev p m:=by
      rcases Classical.em (r=m) with e | e
      · rw [e]; exact Rat.le_refl
      · exact Rat.le_of_lt (Q4k (by clear h hab; grind) fun t t1 t2=>h t (by
          rcases Classical.em (t=m) with e | e
          · rw [e]; exact hm1
          · exact hc.mono' (q:=t) (r:=m) (by clear h hab; grind) (by omega)) (by clear h hab; grind))
    rw [Qgg] at h1
    clear h hab; grind
  · exact h0
theorem Qx2 {c:Rat→Int} (hc:Cut c) {p:List Rat} {s:Int} (hv:Hn p c) (h:LS (V5 p) c s) (hs:s≠0):LS p c (-s):=by
  obtain ⟨x,hx,h⟩:=h
  have hsv:s=1∨s=-1:=by
    have:=h x hx Rat.le_refl
    rcases Ze (ev (V5 p) x) with ⟨e,_⟩ | ⟨e,_⟩ | ⟨e,_⟩ <;> omega
  rcases hsv with rfl | rfl
  · refine ⟨x,hx,fun q h1 h2=>J5.2 (Q6d hc hv hx (fun q h1 h2=>?_) q h1 h2)⟩
    rw [←Jd]; exact Xh.1 (h q h1 h2)
  · refine ⟨x,hx,fun q h1 h2=>Xh.2 ?_⟩
    have:=Q6d hc (p:=W8 (-1) p) (x:=x) (fun d dp=>Iq (hv d dp) fun q hq=>by rw [Zc,show -1*ev p q=-ev p q by grind,U7]; exact hq) hx (fun q h1 h2=>by
      rw [Lo,←Jd]
      have:=J5.1 (h q h1 h2); grind) q h1 h2
    rw [Zc] at this; grind
theorem Q4r {c:Rat→Int} (hc:Cut c) {f g:List Rat} {l:List (List Rat)} (h:SCl f g l):Hn f c→Hn g c→False:=by
  induction h with
  |
   @base f g k hk hg =>
   intro _ hv
   obtain ⟨q,hq,_⟩:=Qjb hc (hv (Qm k) (K5 hk))
   rw [hg] at hq; grind
  |
   @step f g h l a b q ha hb he hl ih =>
   intro hf hg
   refine ih hg ?_
   have h1:Hn (Zq q g) c:=Ys hc (p:=g) (q:=q) (fun t=>by rw [Qk]; grind) hg
   have h2:Hn (W8 (-a) f) c:=Ys hc (p:=f) (q:=[-a]) (fun t=>by rw [Zc]; simp only [ev]; grind) hf
   have h3:Hn (Jw (Zq q g) (W8 (-a) f)) c:=I8 (fun t=>Zm t _ _) h1 h2
   refine Ys hc (p:=Jw (Zq q g) (W8 (-a) f)) (q:=[1 / b]) (fun t=>?_) h3
   have:=he t
   rw [Zm,Qk,Zc]
   simp only [ev]
   have hbb:1 / b*b=1:=Zx hb
   have:ev q t*ev g t+-a*ev f t=b*ev h t:=by rw [show -a*ev f t=-(a*ev f t) by grind,he t]; grind
   rw [this]
   have:b*ev h t*(1 / b+t*0)=ev h t*(1 / b*b):=by grind
   rw [this,hbb]; grind
theorem Qen {c:Rat→Int} (hc:Cut c) {f g:List Rat} {k:Rat} (h:∀ t,ev g t=k*ev f t) (hv:Hn f c):Hn g c :=
  Ys hc (p:=f) (q:=[k]) (fun t=>by rw [h]; simp only [ev]; grind) hv
theorem Q41 {c:Rat→Int} (hc:Cut c) {f:List Rat} {L:List (List Rat)} (h:As f L) (hv:Hn f c):∃ s,s≠0∧NZ (V5 f) c s:=by
  rcases Ma hc (V5 f) with h1 | h1
  · exfalso
    rcases h with ⟨k,hk,hf,_⟩ | ⟨g,l,k,hk,hg,h,_⟩
    · obtain ⟨q,hq,_⟩:=Qjb hc (hv (Qm k) (K5 hk))
      rw [hf] at hq; grind
    · exact Q4r hc h hv (Qen hc (fun t=>by rw [hg,Jd]) h1)
  · exact h1
theorem Qo8 {c:Rat→Int} (hc:Cut c) {f w u:List Rat} {L:List (List Rat)} (h:As f L) (hf:∀ t,ev f t=ev w t*ev u t) (hv:Hn w c):∃ s,s≠0∧NZ (V5 w) c s:=by
  rcases Ma hc (V5 w) with h1 | h1
  · exfalso
    obtain ⟨s,_,hs⟩:=Q41 hc h (Ys hc hf hv)
    refine Q9m hc ?_ hs
    have a1:Hn (Zq (V5 w) u) c:=Ys hc (fun t=>Qk t _ _) h1
    have a2:Hn (Zq w (V5 u)) c:=Ys hc (fun t=>Qk t _ _) hv
    refine I8 (fun t=>?_) a1 a2
    rw [Jd,Tg hf,Qk,Qk,Jd,Jd]
  · exact h1
theorem Qwh {c:Rat→Int} (hc:Cut c) {q:Rat} (h:c q=0) {x y:Rat} (hx:c x=1) (hy:c y=-1):x≤q∧q≤y:=by
  constructor
  · rcases Q7 x q with e | e
    · exact e
    · have:=hc.mono q x e (by omega); omega
  · rcases Q7 q y with e | e
    · exact e
    · have:=hc.mono y q e (by omega); omega
theorem Ew {c:Rat→Int} (hc:Cut c) {p:List Rat} {q:Rat} (h:c q=0) (hv:Hn p c):ev p q=0:=by
  rcases Classical.em (ev p q=0) with e | e
  · exact e
  · obtain ⟨x,y,hx,hy,hq⟩:=hv _ (K5 e)
    obtain ⟨h1,h2⟩:=Qwh hc h hx hy
    have:=hq q h1 h2; grind
theorem Qjf {c:Rat→Int} (hc:Cut c) {p:List Rat} {q:Rat} {s:Int} (h:c q=0) (hv:NZ p c s):Qp (ev p q)=s:=by
  obtain ⟨d,dp,x,y,hx,hy,hq⟩:=hv
  obtain ⟨h1,h2⟩:=Qwh hc h hx hy
  exact (hq q h1 h2).1
theorem Qlu {c:Rat→Int} (hc:Cut c) {y z:Rat} (hy:c y=-1) (hz:c z=-1):∃ q,c q=-1∧q<y∧q<z:=by
  obtain ⟨a,a1,a2⟩:=hc.dn y hy
  obtain ⟨b,b1,b2⟩:=hc.dn z hz
  rcases Q7 a b with e | e
  · exact ⟨a,a2,a1,by grind⟩
  · exact ⟨b,b2,by grind,b1⟩
theorem O3 {c:Rat→Int} (hc:Cut c) {y z:Rat} (hy:c y=1) (hz:c z=1):∃ q,c q=1∧y<q∧z<q:=by
  obtain ⟨a,a1,a2⟩:=hc.up y hy
  obtain ⟨b,b1,b2⟩:=hc.up z hz
  rcases Q7 a b with e | e
  · exact ⟨b,b2,by grind,b1⟩
  · exact ⟨a,a2,a1,by grind⟩
theorem Qyf {f w u:List Rat} {L:List (List Rat)} (h:As f L) (hf:∀ t,ev f t=ev w t*ev u t) {x y:Rat} (hv:vv L x=vv L y) {c:Rat→Int} (hc:Cut c) (hx:c x=1) (hy:c y≠1):¬Hn w c:=fun hw=>by
  have hxy:x<y:=by
    rcases Q7 y x with e | e
    · rcases Classical.em (y=x) with e' | e'
      · rw [e'] at hy; exact absurd hx hy
      · have:=hc.mono y x (by grind) hy; omega
    · exact e
  have hwv:=Nk h hf hxy hv
  rcases hc.val y with e | e | e
  · exact hy e
  · have:=Ew hc e hw
    have:=hwv.s
    rw [Zg.2 (by assumption)] at this
    exact hwv.n this.symm
  · obtain ⟨s,hs,hd⟩:=Qo8 hc h hf hw
    obtain ⟨a,ha,hal⟩:=Qx2 hc hw (Qp3 hc hd) hs
    obtain ⟨b,hb,hbr⟩:=Qgn hc hw (Qd8 hc hd) hs
    obtain ⟨q,q1,q2,q3⟩:=O3 hc hx ha
    obtain ⟨r,r1,r2,r3⟩:=Qlu hc hb e
    have e1:=hal q q1 (Rat.le_of_lt q3)
    have e2:=hbr r r1 (Rat.le_of_lt r2)
    have hqr:=hc.lt q1 r1
    have v1:vv L q≤vv L x:=Gj h q2
    have v2:vv L y≤vv L r:=Gj h r3
    have v3:vv L r≤vv L q:=Gj h hqr
    have s1:=(Nk h hf q2 (by omega)).s
    have s2:=(Nk h hf (x:=x) (y:=r) (by grind) (by omega)).s
    omega
theorem Qg0 {f:List Rat} {L:List (List Rat)} (h:As f L) {x y:Rat} (hxy:x<y) (hv:vv L x≠vv L y) {d:Rat} (dp:0<d):∃ q,x≤q∧q≤y∧Qm (ev f q)<d:=by
  obtain ⟨R,hR,hx,hy⟩:=Qep x y
  obtain ⟨e1,e1p,hl⟩:=loc hR h (w:=f) (u:=[1]) (fun t=>by rw [X7]; grind)
  obtain ⟨e2,e2p,_,e2b⟩:=Zy (Vk hR f) dp
  obtain ⟨e,ep,h1,h2⟩:=min2 e1p e2p
  have key:∀ n:Nat,∀ x,Qm x≤R→x<y→vv L x≠vv L y→y-x≤(n:Rat)*e→∃ q,x≤q∧q≤y∧Qm (ev f q)<d:=by
    intro n
    induction n with
    | zero=>intro x hx hxy _ hn; rw [show ((0:Nat):Rat)=0 from rfl] at hn; exfalso; clear hl; grind
    |
     succ n ih =>
     intro x hx hxy hv hn
     have hstep:∀ z,Qm z≤R→x<z→z-x≤e→vv L x≠vv L z→Qm (ev f z)<d:=fun z hz hxz hze hv=>by
       rcases hl x z hx hz hxz (Rat.le_trans hze h1) with ⟨p,_⟩ | ⟨_,p1,p2,p3,p4⟩
       · exact absurd p hv
       · have hd:=Yy (p:=f) hx hz hR (e:=e2) (d:=d) (by rw [Y3]; clear hl ih; constructor <;> grind) e2b
         rw [←p3] at p1 p4
         clear hl ih p2 p3
         rw [Qgg] at *
         rcases Ze (ev f x) with ⟨a,a'⟩ | ⟨a,a'⟩ | ⟨a,a'⟩ <;> rcases Ze (ev f z) with ⟨b,b'⟩ | ⟨b,b'⟩ | ⟨b,b'⟩ <;> rw [a,b] at p4 <;> first | (exfalso; revert p4; decide) | skip
         all_goals first | (constructor <;> grind) | (exfalso; omega)
     rcases Q7 (y-x) e with h3 | h3
     · exact ⟨y,Rat.le_of_lt hxy,Rat.le_refl,hstep y hy hxy h3 hv⟩
     · have hm:Qm (x+e)≤R:=Cn hx hy (by clear hl ih hstep; grind) (by clear hl ih hstep; grind)
       rcases Classical.em (vv L x=vv L (x+e)) with e0 | e0
       · have hn':(((n+1:Nat):Rat))=(n:Rat)+1:=by push_cast; rfl
         rw [hn'] at hn
         obtain ⟨q,q1,q2,q3⟩:=ih (x+e) hm (by clear hl ih hstep; grind) (by omega) (by clear hl ih hstep; grind)
         exact ⟨q,by clear hl ih hstep; grind,q2,q3⟩
       · exact ⟨x+e,by clear hl ih hstep; grind,by clear hl ih hstep; grind,hstep (x+e) hm (by clear hl ih hstep; grind) (by clear hl ih hstep; grind) e0⟩
  obtain ⟨n,hn⟩:=So (z:=y-x) ep
  exact key n x hx hxy hv hn
end Orq

namespace Orq
theorem Q8c {p:List Rat} {x:Rat} (h:Yf p x≠0):∃ e:Rat,0<e∧∀ y,x<y→y-x≤e→Qp (ev p y)=Yf p x:=by
  by_cases h0:Qp (ev p x)=0
  · have hx:=Zg.1 h0
    rw [Qmi h0] at h ⊢
    have hR:0≤Qm x+1:=by have:=Xg x; grind
    obtain ⟨e,e1,e2,e3⟩:=Zy (O5 hR p) (K5 (x:=dv p x) fun h'=>h (Zg.2 h'))
    refine ⟨e,e1,fun y h1 h2=>?_⟩
    have hy:Qm y≤Qm x+1:=by
      have:=Jv x (y-x)
      have e:x+(y-x)=y:=by grind
      have e':Qm (y-x)=y-x:=by unfold Qm; split <;> grind
      rw [e,e'] at this; grind
    have:=Qa9 (p:=p) (by grind) hy hR h1 h2 Rat.le_refl e3
    rw [hx] at this
    rw [←this]; congr 1; grind
  · rw [Fx h0] at h ⊢
    obtain ⟨e,e1,e2⟩:=M7 h
    exact ⟨e,e1,fun y h1 h2=>e2 y (by rw [Y3]; constructor <;> grind)⟩
def cq (P:List Rat) (lo hi q:Rat):Int:=if q≤lo then 1 else if hi<q then -1 else if Qp (ev P q)=0 then 0 else if Qp (ev P q)=Yf P lo then 1 else -1
structure Vt (P:List Rat) (L:List (List Rat)) (lo hi:Rat):Prop where
  s:As P L
  l:lo<hi
  v:vv L lo=vv L hi+1
variable {P:List Rat} {L:List (List Rat)} {lo hi:Rat}
theorem Fo {q:Rat} (h:q≤lo):cq P lo hi q=1:=by unfold cq; rw [if_pos h]
theorem Ca {q:Rat} (h:lo<hi) (h':hi<q):cq P lo hi q=-1:=by unfold cq; rw [if_neg (by grind),if_pos h']
theorem G9 {q:Rat} (h1:lo<q) (h2:q≤hi):cq P lo hi q=if Qp (ev P q)=0 then 0 else if Qp (ev P q)=Yf P lo then 1 else -1:=by
  unfold cq; rw [if_neg (by grind),if_neg (by grind)]
theorem Vt.two (V:Vt P L lo hi) {q:Rat} (h1:lo<q) (h2:q≤hi):vv L q=vv L lo∧cq P lo hi q=1∧Qp (ev P q)=Yf P lo∨vv L q=vv L hi∧cq P lo hi q≠1∧Yf P q=-Yf P lo∧Yf P lo≠0:=by
  have a:=Gj V.s h1
  have b:vv L hi≤vv L q:=by
    rcases Classical.em (q=hi) with e | e
    · rw [e]; exact Nat.le_refl _
    · exact Gj V.s (by grind)
  have hv:=V.v
  rcases (show vv L q=vv L lo∨vv L q=vv L hi by omega) with e | e
  · have hs:=Qg8 V.s h1 e.symm
    refine .inl ⟨e,?_,hs.s⟩
    rw [G9 h1 h2,hs.s,if_neg hs.n,if_pos rfl]
  · obtain ⟨o1,o2⟩:=Qg7 V.s h1 (by omega)
    refine .inr ⟨e,?_,o2,o1⟩
    rw [G9 h1 h2]
    split
    · decide
    · rename_i h0
      rw [Fx h0] at o2
      rw [if_neg (by omega)]; decide
theorem Vt.lowlo (V:Vt P L lo hi):Yf P lo≠0:=(Qg7 V.s V.l V.v).1
theorem Vt.eq_lo (V:Vt P L lo hi) {q:Rat} (h1:lo<q) (h2:q≤hi) (h:cq P lo hi q=1):vv L q=vv L lo:=by
  rcases V.two h1 h2 with ⟨e,_⟩ | ⟨_,e,_⟩
  · exact e
  · exact absurd h e
theorem Vt.eq_hi (V:Vt P L lo hi) {q:Rat} (h1:lo<q) (h2:q≤hi) (h:cq P lo hi q≠1):vv L q=vv L hi:=by
  rcases V.two h1 h2 with ⟨_,e,_⟩ | ⟨e,_⟩
  · exact absurd e h
  · exact e
theorem Vt.hi1 (V:Vt P L lo hi):cq P lo hi hi≠1:=fun h=>by have:=V.eq_lo V.l Rat.le_refl h; have:=V.v; omega
theorem Vt.cut (V:Vt P L lo hi):Cut (cq P lo hi) where
  val q:=by unfold cq; split <;> (try split) <;> (try split) <;> (try split) <;> simp
  mono q r h h1:=by
    have hq:lo<q:=by
     rcases Q7 q lo with e | e
     · exact absurd (Fo e) h1
     · exact e
    rcases Q7 r hi with e | e
    · have e1:=V.eq_hi hq (by grind) h1
      rcases V.two (q:=r) (by grind) e with ⟨e2,_⟩ | ⟨e2,_,e3,e4⟩
      · have:=Gj V.s h; have:=V.v; omega
      · have hs:=Qg8 V.s h (by omega)
        rcases V.two hq (by grind) with ⟨e5,_⟩ | ⟨_,_,e5,_⟩
        · have:=V.v; omega
        · rw [G9 (by grind) e,hs.s,if_neg hs.n,e5,if_neg (by omega)]
    · exact Ca V.l e
  up q h:=by
    rcases Q7 q lo with e | e
    · obtain ⟨d,dp,hd⟩:=Q8c V.lowlo
      obtain ⟨f,fp,f1,f2⟩:=min2 (a:=d) (b:=hi-lo) dp (by have:=V.l; grind)
      have h1:lo<lo+f:=by clear hd; grind
      have h2:lo+f≤hi:=by clear hd; grind
      have:=hd (lo+f) h1 (by clear hd; grind)
      exact ⟨lo+f,by clear hd; grind,by rw [G9 h1 h2,this,if_neg V.lowlo,if_pos rfl]⟩
    · have hh:q≤hi:=by
       rcases Q7 q hi with e' | e'
       · exact e'
       · have:=Ca (P:=P) V.l e'; omega
      rcases V.two e hh with ⟨e1,_,e2⟩ | ⟨_,e1,_⟩
      · have hn:q≠hi:=fun h=>by rw [h] at e1; have:=V.v; omega
        obtain ⟨d,dp,hd⟩:=M7 (p:=P) (x:=q) (by rw [e2]; exact V.lowlo)
        obtain ⟨f,fp,f1,f2⟩:=min2 (a:=d) (b:=hi-q) dp (by clear hd; grind)
        have:=hd (q+f) (by rw [Y3]; clear hd; constructor <;> grind)
        exact ⟨q+f,by clear hd; grind,by rw [G9 (by clear hd; grind) (by clear hd; grind),this,e2,if_neg V.lowlo,if_pos rfl]⟩
      · exact absurd h e1
  dn q h:=by
    have hq:lo<q:=by
     rcases Q7 q lo with e | e
     · have:=Fo (P:=P) (hi:=hi) e; omega
     · exact e
    rcases Q7 q hi with e | e
    · rw [G9 hq e] at h
      split at h
      · cases h
      rename_i h0
      split at h
      · cases h
      rename_i h1
      obtain ⟨d,dp,hd⟩:=M7 h0
      obtain ⟨f,fp,f1,f2⟩:=min2 (a:=d) (b:=(q-lo) / 2) dp (Fq (by clear hd; grind) (by decide))
      have h2:(q-lo) / 2*2=q-lo:=Zx (by decide)
      have:=hd (q-f) (by rw [Y3]; clear hd; constructor <;> grind)
      exact ⟨q-f,by clear hd; grind,by rw [G9 (by clear hd; grind) (by clear hd; grind),this,if_neg h0,if_neg h1]⟩
    · have h2:(q-hi) / 2*2=q-hi:=Zx (by decide)
      exact ⟨q-(q-hi) / 2,by grind,Ca V.l (by grind)⟩
  lo:=⟨lo,Fo Rat.le_refl⟩
  hi:=⟨hi+1,Ca V.l (by grind)⟩
theorem Vt.van (V:Vt P L lo hi):Hn P (cq P lo hi):=by
  have hc:=V.cut
  rcases Ma hc P with h | ⟨s,hs,h⟩
  · exact h
  · exfalso
    have e1:s=Yf P lo:=by
      obtain ⟨x,hx,hx1⟩:=Qp3 hc h
      obtain ⟨q,q1,q2,q3⟩:=O3 hc hx (Fo (P:=P) (hi:=hi) (Rat.le_refl (a:=lo)))
      have hq:q≤hi:=by
       rcases Q7 q hi with e | e
       · exact e
       · have:=Ca (P:=P) V.l e; omega
      rcases V.two q3 hq with ⟨_,_,e⟩ | ⟨_,e,_⟩
      · rw [←hx1 q q1 (Rat.le_of_lt q2),e]
      · exact absurd q1 e
    rcases hc.val hi with e | e | e
    · exact V.hi1 e
    · have h0:=Qjf hc e h
      rw [G9 V.l Rat.le_refl] at e
      split at e
      · omega
      · split at e <;> omega
    · obtain ⟨y,hy,hy1⟩:=Qd8 hc h
      obtain ⟨q,q1,q2,q3⟩:=Qlu hc hy e
      have hq:lo<q:=hc.lt (Fo (P:=P) (hi:=hi) (Rat.le_refl (a:=lo))) q1
      have:=hy1 q q1 (Rat.le_of_lt q2)
      rw [G9 hq (Rat.le_of_lt q3),this,if_neg hs,if_pos e1] at q1
      cases q1
def Ql7 (w:List Rat) (lo hi:Rat):Prop:=Qp (ev w hi)=0∨Qp (ev w hi)≠Yf w lo
theorem Vt.has (V:Vt P L lo hi) {w u:List Rat} (hf:∀ t,ev P t=ev w t*ev u t) {a b:Rat} (h1:lo≤a) (h2:a<b) (h3:b≤hi):Ql7 w a b↔Hn w (cq P lo hi)∧cq P lo hi a=1∧cq P lo hi b≠1:=by
  have hc:=V.cut
  have smno:vv L a=vv L b→¬Ql7 w a b:=fun h hh=>by
    have:=Nk V.s hf h2 h
    rcases hh with e | e
    · rw [this.s] at e; exact this.n e
    · exact e this.s
  by_cases ha:cq P lo hi a=1
  · by_cases hb:cq P lo hi b=1
    · have e1:=V.eq_lo (by grind) h3 hb
      have e2:vv L a=vv L lo:=by
        rcases Classical.em (lo=a) with e | e
        · rw [e]
        · exact V.eq_lo (by grind) (by grind) ha
      exact ⟨fun h=>absurd h (smno (by omega)),fun h=>absurd hb h.2.2⟩
    · have e1:=V.eq_hi (by grind) h3 hb
      have e2:vv L a=vv L lo:=by
        rcases Classical.em (lo=a) with e | e
        · rw [e]
        · exact V.eq_lo (by grind) (by grind) ha
      -- signs on both sides,within the piece
      have left:∀ s,LS w (cq P lo hi) s→s=Yf w a:=fun s hs=>by
        obtain ⟨x,hx,hx1⟩:=hs
        obtain ⟨q,q1,q2,q3⟩:=O3 hc hx ha
        have hqb:q<b:=by
          rcases Q7 b q with e | e
          · rcases Classical.em (b=q) with e' | e'
            · rw [e'] at hb; exact absurd q1 hb
            · have:=hc.mono b q (by clear hx1 smno; grind) hb; omega
          · exact e
        have:=V.eq_lo (q:=q) (by clear hx1 smno; grind) (by clear hx1 smno; grind) q1
        rw [←(Nk V.s hf q3 (by omega)).s,hx1 q q1 (Rat.le_of_lt q2)]
      have right:∀ s,RS w (cq P lo hi) s→cq P lo hi b=-1→s=Qp (ev w b):=fun s hs hb=>by
        obtain ⟨y,hy,hy1⟩:=hs
        obtain ⟨q,q1,q2,q3⟩:=Qlu hc hy hb
        have hqa:=hc.lt ha q1
        have:=V.eq_hi (q:=q) (by clear hy1 smno; grind) (by clear hy1 smno; grind) (by omega)
        have hs:=Nk V.s hf q3 (by omega)
        have hl:=hy1 q q1 (Rat.le_of_lt q2)
        have h0:Qp (ev w q)≠0:=by
          have hs2:=Nk V.s hf (x:=q) (y:=b) q3 (by omega)
          intro h0
          obtain ⟨r,r1,r2⟩:=hc.dn q q1
          have har:=hc.lt ha r2
          have:=V.eq_hi (q:=r) (by clear hy1 smno; grind) (by clear hy1 smno; grind) (by omega)
          have hs3:=Nk V.s hf (x:=r) (y:=q) r1 (by omega)
          have hs4:=hs3.s
          rw [h0] at hs4; exact hs3.n hs4.symm
        rw [hs.s,Fx h0,hl]
      refine ⟨fun h=>⟨?_,ha,hb⟩,fun ⟨hw,_,_⟩=>?_⟩
      · rcases Ma hc w with e | ⟨s,hs0,hs⟩
        · exact e
        · exfalso
          have l1:=left s (Qp3 hc hs)
          have r1:Qp (ev w b)=s:=by
            rcases hc.val b with e | e | e
            · exact absurd e hb
            · exact Qjf hc e hs
            · exact (right s (Qd8 hc hs) e).symm
          rcases h with h | h
          · exact hs0 (by rw [←r1]; exact h)
          · exact h (by rw [r1,l1])
      · rcases hc.val b with e | e | e
        · exact absurd e hb
        · exact .inl (Zg.2 (Ew hc e hw))
        · obtain ⟨s,hs0,hs⟩:=Qo8 hc V.s hf hw
          have l1:=left _ (Qx2 hc hw (Qp3 hc hs) hs0)
          have r1:=right _ (Qgn hc hw (Qd8 hc hs) hs0) e
          exact .inr (by rw [←l1,←r1]; omega)
  · have hla:lo<a:=by
     rcases Classical.em (lo=a) with e | e
     · rw [←e] at ha; exact absurd (Fo Rat.le_refl) ha
     · grind
    have hb:cq P lo hi b≠1:=by have:=hc.mono a b h2 ha; omega
    have e1:=V.eq_hi hla (by grind) ha
    have e2:=V.eq_hi (q:=b) (by grind) h3 hb
    exact ⟨fun h=>absurd h (smno (by omega)),fun h=>absurd h.2.1 ha⟩
theorem Qh8 {c c':Rat→Int} (hc:Cut c) (hc':Cut c') {q:Rat} (h:c q≠c' q):∃ r,(c r=-1∧c' r=1)∨(c r=1∧c' r=-1):=by
  rcases hc.val q with e | e | e <;> rcases hc'.val q with e' | e' | e'
  · omega
  · obtain ⟨r,r1,r2⟩:=hc.up q e
    exact ⟨r,.inr ⟨r2,hc'.mono q r r1 (by omega)⟩⟩
  · exact ⟨q,.inr ⟨e,e'⟩⟩
  · obtain ⟨r,r1,r2⟩:=hc'.up q e'
    exact ⟨r,.inl ⟨hc.mono q r r1 (by omega),r2⟩⟩
  · omega
  · obtain ⟨r,r1,r2⟩:=hc'.dn q e'
    exact ⟨r,.inr ⟨hc.mono' r1 (by omega),r2⟩⟩
  · exact ⟨q,.inl ⟨e,e'⟩⟩
  · obtain ⟨r,r1,r2⟩:=hc.dn q e
    exact ⟨r,.inl ⟨r2,hc'.mono' r1 (by omega)⟩⟩
  · omega
theorem Vt.uniq (V:Vt P L lo hi) {c:Rat→Int} (hc:Cut c) (h1:c lo=1) (h2:c hi≠1) (hv:Hn P c) (q:Rat):c q=cq P lo hi q:=by
  rcases Classical.em (c q=cq P lo hi q) with e | e
  · exact e
  · exfalso
    obtain ⟨r,⟨r1,r2⟩ | ⟨r1,r2⟩⟩:=Qh8 hc V.cut e
    · have hl:=hc.lt h1 r1
      have hh:r≤hi:=by
       rcases Q7 r hi with e | e
       · exact e
       · have:=Ca (P:=P) V.l e; omega
      have:=V.eq_lo hl hh r2
      exact Qyf V.s (w:=P) (u:=[1]) (fun t=>by rw [X7]; grind) (x:=lo) (y:=r) (by omega) hc h1 (by omega) hv
    · have hl:lo<r:=by
       rcases Q7 r lo with e | e
       · have:=Fo (P:=P) (hi:=hi) e; omega
       · exact e
      have hh:r≤hi:=by
       rcases Q7 r hi with e | e
       · exact e
       · have:=hc.mono hi r e h2; omega
      have:=V.eq_hi hl hh (by omega)
      exact Qyf V.s (w:=P) (u:=[1]) (fun t=>by rw [X7]; grind) (x:=r) (y:=hi) (by omega) hc r1 h2 hv
theorem Vt.same (V:Vt P L lo hi) {P':List Rat} {L':List (List Rat)} {lo' hi':Rat} (V':Vt P' L' lo' hi') {g u u' U W:List Rat} {k:Rat} (hk:k≠0) (h1:∀ t,ev P t=ev g t*ev u t) (h2:∀ t,ev P' t=ev g t*ev u' t) (h3:∀ t,k*ev g t=ev U t*ev P t+ev W t*ev P' t) {a b:Rat} (ha1:lo≤a) (ha2:lo'≤a) (ha:a=lo∨a=lo') (hb1:b≤hi) (hb2:b≤hi') (hb:b=hi∨b=hi'):(a<b∧Ql7 g a b)↔∀ q,cq P lo hi q=cq P' lo' hi' q:=by
  have hc:=V.cut
  have hc':=V'.cut
  constructor
  · rintro ⟨hab,hg⟩
    obtain ⟨g1,g2,g3⟩:=(V.has h1 ha1 hab hb1).1 hg
    obtain ⟨g4,g5,g6⟩:=(V'.has h2 ha2 hab hb2).1 hg
    intro q
    refine (V.uniq hc' (by
      rcases Classical.em (lo=a) with e | e
      · rw [e]; exact g5
      · exact hc'.mono' (q:=lo) (r:=a) (by grind) (by omega)) (fun h=>?_) (Ys hc' h1 g4) q).symm
    rcases Classical.em (b=hi) with e | e
    · rw [←e] at h; exact g6 h
    · have:=hc'.mono b hi (by grind) g6; omega
  · intro h
    have hcc:cq P' lo' hi'=cq P lo hi:=funext fun q=>(h q).symm
    have e1:cq P lo hi a=1:=by
     rcases ha with rfl | rfl
     · exact Fo Rat.le_refl
     · rw [h]; exact Fo Rat.le_refl
    have e2:cq P lo hi b≠1:=by
     rcases hb with rfl | rfl
     · exact V.hi1
     · rw [h]; exact V'.hi1
    have hab:a<b:=by
      rcases Q7 b a with e | e
      · rcases Classical.em (b=a) with e' | e'
        · rw [e'] at e2; exact absurd e1 e2
        · have:=hc.mono b a (by grind) e2; omega
      · exact e
    have v1:=V.van
    have v2:=V'.van
    rw [hcc] at v2
    have hg:Hn g (cq P lo hi):=by
      have a1:Hn (Zq U P) (cq P lo hi):=Ys hc (p:=P) (q:=U) (fun t=>by rw [Qk]; grind) v1
      have a2:Hn (Zq W P') (cq P lo hi):=Ys hc (p:=P') (q:=W) (fun t=>by rw [Qk]; grind) v2
      have a3:=I8 (fun t=>Zm t _ _) a1 a2
      refine Qen hc (k:=1 / k) (fun t=>?_) a3
      rw [Zm,Qk,Qk,←h3]
      have:1 / k*(k*ev g t)=1 / k*k*ev g t:=by grind
      rw [this,show 1 / k*k=1 from Rat.div_mul_cancel hk]; grind
    exact ⟨hab,(V.has h1 ha1 hab hb1).2 ⟨hg,e1,e2⟩⟩
end Orq

namespace Orq
theorem Qyt:∀ (M:Nat) (f:Nat→Nat),(∀ i,i≤M→f i<M)→∃ i j,i<j∧j≤M∧f i=f j
  | 0,f,h=>absurd (h 0 (Nat.le_refl _)) (Nat.not_lt_zero _)
  |
   M+1,f,h=>by
   rcases Classical.em (∃ i,i≤M∧f i=f (M+1)) with ⟨i,h1,h2⟩ | hn
   · exact ⟨i,M+1,by omega,Nat.le_refl _,h2⟩
   · have hne:∀ i,i≤M→f i≠f (M+1):=fun i hi e=>hn ⟨i,hi,e⟩
     obtain ⟨i,j,h1,h2,h3⟩:=Qyt M (fun i=>if f i=M then f (M+1) else f i) fun i hi=>by
       have a1:=h i (by omega)
       have a2:=h (M+1) (Nat.le_refl _)
       have a3:=hne i hi
       show (if f i=M then f (M+1) else f i)<M
       split <;> omega
     refine ⟨i,j,h1,by omega,?_⟩
     have a1:=hne i (by omega)
     have a2:=hne j h2
     split at h3 <;> split at h3 <;> omega
def dg (B k i:Nat):Nat:=k / B^i % B
theorem Qo6 (B k i:Nat):dg B k (i+1)=dg B (k / B) i:=by unfold dg; rw [Nat.pow_succ,Nat.mul_comm,Nat.div_div_eq_div_mul]
theorem Qwl {B:Nat}:∀ (N:Nat) {k k':Nat},k<B^N→k'<B^N→(∀ i,i<N→dg B k i=dg B k' i)→k=k'
  | 0,k,k',h,h',_=>by rw [Nat.pow_zero] at h h'; omega
  |
   N+1,k,k',h,h',he=>by
   have h0:=he 0 (by omega)
   unfold dg at h0
   rw [Nat.pow_zero,Nat.div_one,Nat.div_one] at h0
   have hB:0<B:=by
     rcases Nat.eq_zero_or_pos B with e | e
     · rw [e,Nat.pow_succ,Nat.mul_zero] at h; omega
     · exact e
   have h1:=Qwl N (k:=k / B) (k':=k' / B) (Nat.div_lt_of_lt_mul (by rw [Nat.mul_comm,←Nat.pow_succ]; exact h)) (Nat.div_lt_of_lt_mul (by rw [Nat.mul_comm,←Nat.pow_succ]; exact h')) fun i hi=>by
     rw [←Qo6,←Qo6]; exact he (i+1) (by omega)
   rw [←Nat.mod_add_div k B,←Nat.mod_add_div k' B,h0,h1]
def cd (B:Nat):Nat→(Nat→Nat)→Nat
  | 0,_=>0
  | E+1,x=>x 0+B*cd B E fun e=>x (e+1)
theorem Q50 {B:Nat}:∀ (E:Nat) {x:Nat→Nat},(∀ e,e<E→x e<B)→cd B E x<B^E
  | 0,_,_=>by simp [cd]
  |
   E+1,x,h=>by
   have h1:=h 0 (by omega)
   have h2:=Q50 E (x:=fun e=>x (e+1)) fun e he=>h (e+1) (by omega)
   simp only [cd]
   have h3:B*cd B E (fun e=>x (e+1))+B≤B*B^E:=by
     rw [←Nat.mul_succ]; exact Nat.mul_le_mul_left _ h2
   rw [Nat.pow_succ,Nat.mul_comm (B^E)]; omega
theorem Qv9 {B:Nat}:∀ (E:Nat) {x y:Nat→Nat},(∀ e,e<E→x e<B)→(∀ e,e<E→y e<B)→cd B E x=cd B E y→∀ e,e<E→x e=y e
  | 0,_,_,_,_,_,e,he=>by omega
  |
   E+1,x,y,hx,hy,h,e,he=>by
   have h1:=hx 0 (by omega)
   have h2:=hy 0 (by omega)
   simp only [cd] at h
   have e0:x 0=y 0:=by
     have:=congrArg (· % B) h
     simp only [Nat.add_mul_mod_self_left] at this
     rwa [Nat.mod_eq_of_lt h1,Nat.mod_eq_of_lt h2] at this
   have e1:cd B E (fun e=>x (e+1))=cd B E (fun e=>y (e+1)):=Nat.eq_of_mul_eq_mul_left (by omega:0<B) (by omega)
   cases e with
   | zero=>exact e0
   | succ e=>exact Qv9 E (fun e he=>hx (e+1) (by omega)) (fun e he=>hy (e+1) (by omega)) e1 e (by omega)
def sm:Nat→(Nat→Int)→Int
  | 0,_=>0
  | n+1,f=>sm n f+f n
theorem Q0c (f g:Nat→Int):∀ n,sm n (fun i=>f i-g i)=sm n f-sm n g
  | 0=>rfl
  | n+1=>by simp only [sm,Q0c f g n]; omega
theorem Uj {f g:Nat→Int}:∀ n,(∀ i,i<n→f i=g i)→sm n f=sm n g
  | 0,_=>rfl
  | n+1,h=>by simp only [sm,Uj n (fun i hi=>h i (by omega)),h n (by omega)]
theorem Q0b {f:Nat→Int} {b:Nat}:∀ n,(∀ i,i<n→(f i).natAbs≤b)→(sm n f).natAbs≤n*b
  | 0,_=>by simp [sm]
  |
   n+1,h=>by
   have h1:=Q0b n fun i hi=>h i (by omega)
   have h2:=h n (by omega)
   simp only [sm]
   rw [Nat.succ_mul]; omega
theorem Mw {f:Nat→Int}:∀ n,(∀ i,i<n→f i=0)→sm n f=0
  | 0,_=>rfl
  | n+1,h=>by simp only [sm,Mw n (fun i hi=>h i (by omega)),h n (by omega)]; rfl
theorem Qnh (f:Nat→Int) (m:Nat):∀ n,sm (m+n) f=sm m f+sm n fun i=>f (m+i)
  | 0=>by simp [sm]
  | n+1=>by rw [←Nat.add_assoc]; simp only [sm,Qnh f m n]; omega
theorem Qni (f:Nat→Int) (J:Nat):∀ b,sm (b*J) f=sm b fun i=>sm J fun j=>f (i*J+j)
  | 0=>by simp [sm]
  | b+1=>by rw [Nat.succ_mul,Qnh,Qni f J b]; rfl
theorem Qbr {f:Nat→Int} {k:Nat}:∀ n,k<n→(∀ i,i<n→i≠k→f i=0)→sm n f=f k
  | 0,h,_=>by omega
  |
   n+1,h,h1=>by
   simp only [sm]
   rcases Nat.lt_or_eq_of_le (Nat.le_of_lt_succ h) with e | e
   · rw [Qbr n e fun i hi=>h1 i (by omega),h1 n (by omega) (by omega)]; omega
   · subst e; rw [Mw k fun i hi=>h1 i (by omega) (by omega)]; omega
theorem Q84 {M:Nat→Nat→Int} {h N E H:Nat} (hM:∀ e i,(M e i).natAbs≤h) (hc:(2*(N*(h*H))+1)^E<(H+1)^N) :
    ∃ v:Nat→Int,(∀ i,(v i).natAbs≤H)∧(∃ i,i<N∧v i≠0)∧∀ e,e<E→sm N (fun i=>M e i*v i)=0:=by
  obtain ⟨T,hT⟩:∃ T,T=N*(h*H):=⟨_,rfl⟩
  rw [←hT] at hc
  have hv:∀ k i,dg (H+1) k i≤H:=fun k i=>Nat.le_of_lt_succ (Nat.mod_lt _ (by omega))
  have hs:∀ k e,(sm N fun i=>M e i*(dg (H+1) k i:Int)).natAbs≤T:=fun k e=>by
    rw [hT]
    refine Q0b N fun i _=>?_
    rw [Int.natAbs_mul,Int.natAbs_natCast]
    exact Nat.mul_le_mul (hM e i) (hv k i)
  have him:∀ k e,((sm N fun i=>M e i*(dg (H+1) k i:Int))+T).toNat<2*T+1:=fun k e=>by have:=hs k e; omega
  obtain ⟨i,j,h1,h2,h3⟩:=Qyt ((2*T+1)^E) (fun k=>cd (2*T+1) E fun e=>((sm N fun i=>M e i*(dg (H+1) k i:Int))+T).toNat) fun k _=>Q50 E fun e _=>him k e
  have h4:=Qv9 E (fun e _=>him i e) (fun e _=>him j e) h3
  refine ⟨fun n=>(dg (H+1) i n:Int)-dg (H+1) j n,fun n=>?_,?_,fun e he=>?_⟩
  · have a1:=hv i n
    have a2:=hv j n
    show ((dg (H+1) i n:Int)-dg (H+1) j n).natAbs≤H
    omega
  · rcases Classical.em (∃ n,n<N∧(dg (H+1) i n:Int)-dg (H+1) j n≠0) with e | e
    · exact e
    · exfalso
      have:i=j:=Qwl (B:=H+1) N (by omega) (by omega) fun n hn=>by
        rcases Classical.em (dg (H+1) i n=dg (H+1) j n) with e' | e'
        · exact e'
        · exact absurd ⟨n,hn,by omega⟩ e
      omega
  · have a1:=h4 e he
    have a2:=hs i e
    have a3:=hs j e
    have:(sm N fun n=>M e n*(dg (H+1) i n:Int))=sm N fun n=>M e n*(dg (H+1) j n:Int):=by omega
    have e1:=Q0c (fun n=>M e n*(dg (H+1) i n:Int)) (fun n=>M e n*(dg (H+1) j n:Int)) N
    rw [this] at e1
    rw [Uj N (g:=fun n=>M e n*(dg (H+1) i n:Int)-M e n*(dg (H+1) j n:Int)) fun n _=>Int.mul_sub _ _ _,e1]; omega
end Orq

namespace Orq
def Qh:List Int→Rat→Rat
  | [],_=>0
  | a::p,t=>(a:Rat)+t*Qh p t
def sq:Nat→(Nat→Rat)→Rat
  | 0,_=>0
  | n+1,f=>sq n f+f n
theorem Yg {f g:Nat→Rat}:∀ n,(∀ i,i<n→f i=g i)→sq n f=sq n g
  | 0,_=>rfl
  | n+1,h=>by simp only [sq,Yg n (fun i hi=>h i (by omega)),h n (by omega)]
theorem Qnn (f g:Nat→Rat):∀ n,sq n (fun i=>f i+g i)=sq n f+sq n g
  | 0=>by simp only [sq]; grind
  | n+1=>by simp only [sq,Qnn f g n]; grind
theorem P6 (c:Rat) (f:Nat→Rat):∀ n,sq n (fun i=>c*f i)=c*sq n f
  | 0=>by simp only [sq]; grind
  | n+1=>by simp only [sq,P6 c f n]; grind
theorem K9 {f:Nat→Rat}:∀ n,(∀ i,i<n→f i=0)→sq n f=0
  | 0,_=>rfl
  | n+1,h=>by simp only [sq,K9 n (fun i hi=>h i (by omega)),h n (by omega)]; grind
theorem Rp (f:Nat→Rat):∀ n,sq (n+1) f=f 0+sq n fun i=>f (i+1)
  | 0=>by simp only [sq]; grind
  | n+1=>by rw [sq,Rp f n]; simp only [sq]; grind
theorem Q6n {f:Nat→Rat} {b:Rat}:∀ n,(∀ i,i<n→Qm (f i)≤b)→Qm (sq n f)≤(n:Rat)*b
  | 0,_=>by rw [show ((0:Nat):Rat)=0 from rfl]; simp only [sq,Xu]; grind
  |
   n+1,h=>by
   have h1:=Q6n n fun i hi=>h i (by omega)
   have h2:=h n (by omega)
   have h3:=Jv (sq n f) (f n)
   have hn':(((n+1:Nat):Rat))=(n:Rat)+1:=by push_cast; rfl
   rw [hn']; simp only [sq]; clear h; grind
def gc:List Int→Nat→Nat→Int
  | [],_,_=>0
  | c::B,k,j=>(if k=0∧j=0 then c else 0)+(if k=0 then 0 else gc B (k-1) j)-(if j=0 then 0 else gc B k (j-1))
def gB:List Int→Nat
  | []=>0
  | c::B=>max c.natAbs (2*gB B)
theorem Ii:∀ (B:List Int) (k j:Nat),B.length≤k+j→gc B k j=0
  | [],_,_,_=>rfl
  |
   c::B,k,j,h=>by
   simp only [List.length_cons] at h
   simp only [gc]
   rw [if_neg (by omega)]
   have e1:(if k=0 then 0 else gc B (k-1) j)=0:=by
     split
     · rfl
     · exact Ii B _ _ (by omega)
   have e2:(if j=0 then 0 else gc B k (j-1))=0:=by
     split
     · rfl
     · exact Ii B _ _ (by omega)
   rw [e1,e2]; rfl
theorem Qxb:∀ (B:List Int) (k j:Nat),(gc B k j).natAbs≤gB B
  | [],_,_=>Nat.zero_le _
  |
   c::B,k,j=>by
   have h1:=Qxb B (k-1) j
   have h2:=Qxb B k (j-1)
   simp only [gc,gB]
   by_cases hk:k=0 <;> by_cases hj:j=0 <;> simp only [hk,hj,true_and,and_true,false_and,and_false,if_true,if_false] <;> (try subst hk) <;> (try subst hj) <;> omega
theorem Qxc:∀ (B:List Int) (b:Nat),B.length=b+1→(gc B 0 b).natAbs=(B.getD b 0).natAbs
  | [],_,h=>by simp at h
  | [c],0,_=>by simp [gc]
  | c::d::B,0,h=>by simp at h
  |
   c::B,b+1,h=>by
   have ih:=Qxc B b (by simpa using h)
   simp only [gc]
   simp only [Nat.add_sub_cancel,List.getD_cons_succ]
   rw [if_pos trivial,if_neg (Nat.succ_ne_zero b),←ih]; omega
def E2 (F:Nat→Nat→Int) (K J:Nat) (x y:Rat):Rat:=sq K fun k=>sq J fun j=>(F k j:Rat)*(y^k*x^j)
theorem Qly (F G:Nat→Nat→Int) (K J:Nat) (x y:Rat):E2 (fun k j=>F k j+G k j) K J x y=E2 F K J x y+E2 G K J x y:=by
  unfold E2
  rw [←Qnn]
  refine Yg K fun k _=>?_
  rw [←Qnn]
  exact Yg J fun j _=>by push_cast; grind
theorem Qwu (c:Int) (F:Nat→Nat→Int) (K J:Nat) (x y:Rat):E2 (fun k j=>F k j*c) K J x y=(c:Rat)*E2 F K J x y:=by
  unfold E2
  rw [←P6]
  refine Yg K fun k _=>?_
  rw [←P6]
  exact Yg J fun j _=>by push_cast; grind
theorem Qwv (φ:Nat→Nat→Nat→Int) (v:Nat→Int) (K J:Nat) (x y:Rat):∀ N,E2 (fun k j=>sm N fun n=>φ n k j*v n) K J x y=sq N fun n=>(v n:Rat)*E2 (φ n) K J x y
  |
   0=>by
   simp only [sq,sm]
   unfold E2
   refine K9 K fun k _=>K9 J fun j _=>?_
   rw [show ((0:Int):Rat)=0 from rfl]; grind
  |
   N+1=>by
   simp only [sq]
   rw [←Qwv φ v K J x y N,←Qwu,←Qly]
   rfl
theorem Dh (t:Rat) (i:Nat):∀ k,t^(i+k)=t^i*t^k
  | 0=>by rw [Nat.add_zero,Rat.pow_zero]; grind
  | k+1=>by rw [←Nat.add_assoc,Rat.pow_succ,Rat.pow_succ,Dh t i k]; grind
theorem Qbt (f:Nat→Rat):∀ (i n:Nat),sq (i+n) (fun k=>if i≤k then f (k-i) else 0)=sq n f
  | i,0=>K9 _ fun k hk=>by rw [if_neg (by omega)]
  |
   i,n+1=>by
   rw [←Nat.add_assoc]; simp only [sq]
   rw [Qbt f i n,if_pos (by omega),Nat.add_sub_cancel_left]
def Az (i j':Nat) (F:Nat→Nat→Int) (k j:Nat):Int:=if i≤k then (if j'≤j then F (k-i) (j-j') else 0) else 0
theorem Qad (F:Nat→Nat→Int) (i j' K J:Nat) (x y:Rat):E2 (Az i j' F) (i+K) (j'+J) x y=y^i*x^j'*E2 F K J x y:=by
  unfold E2
  rw [←P6,←Qbt _ i K]
  refine Yg _ fun k _=>?_
  by_cases hk:i≤k
  · rw [if_pos hk,←P6,←Qbt _ j' J]
    refine Yg _ fun j _=>?_
    unfold Az
    rw [if_pos hk]
    by_cases hj:j'≤j
    · rw [if_pos hj,if_pos hj]
      have e1:y^k=y^i*y^(k-i):=by rw [←Dh]; congr 1; omega
      have e2:x^j=x^j'*x^(j-j'):=by rw [←Dh]; congr 1; omega
      rw [e1,e2]; grind
    · rw [if_neg hj,if_neg hj,show ((0:Int):Rat)=0 from rfl]; grind
  · rw [if_neg hk]
    refine K9 _ fun j _=>?_
    unfold Az
    rw [if_neg hk,show ((0:Int):Rat)=0 from rfl]; grind
def fA (A:List Int) (k j:Nat):Int:=if j=0 then A.getD k 0 else 0
theorem Qyr (y:Rat):∀ (A:List Int) (K:Nat),A.length≤K→sq K (fun k=>((A.getD k 0:Int):Rat)*y^k)=Qh A y
  | [],K,_=>by rw [K9]; rfl; intro i _; simp
  | a::A,0,h=>by simp at h
  |
   a::A,K+1,h=>by
   have ih:=Qyr y A K (by simpa using h)
   rw [Rp]
   simp only [Qh,List.getD_cons_zero,List.getD_cons_succ,Rat.pow_zero]
   rw [←ih,←P6]
   have:(sq K fun i=>((A.getD i 0:Int):Rat)*y^(i+1))=sq K fun i=>y*(((A.getD i 0:Int):Rat)*y^i):=Yg K fun i _=>by rw [Rat.pow_succ]; grind
   rw [this]; grind
theorem Zar (A:List Int) (K J:Nat) (x y:Rat) (h:A.length≤K):E2 (fA A) K (J+1) x y=Qh A y:=by
  rw [←Qyr y A K h]
  refine Yg K fun k _=>?_
  rw [Rp,K9]
  · simp only [fA,if_true,Rat.pow_zero]; grind
  · intro j _
    simp only [fA]
    rw [if_neg (by omega),show ((0:Int):Rat)=0 from rfl]; grind
theorem Q7u (x y:Rat):∀ (B:List Int) (K J:Nat),B.length≤K→B.length≤J→E2 (gc B) K J x y=Qh B (y-x)
  |
   [],K,J,_,_=>by
   unfold E2
   simp only [gc,Qh]
   exact K9 K fun k _=>K9 J fun j _=>by rw [show ((0:Int):Rat)=0 from rfl]; grind
  | c::B,0,J,h,_=>by simp at h
  | c::B,K+1,0,_,h=>by simp at h
  |
   c::B,K+1,J+1,h1,h2=>by
   have i1:=Q7u x y B K (J+1) (by simpa using h1) (by simp at h2; omega)
   have i2:=Q7u x y B (K+1) J (by simp at h1; omega) (by simpa using h2)
   have s1:=Qad (gc B) 1 0 K (J+1) x y
   have s2:=Qad (gc B) 0 1 (K+1) J x y
   rw [Nat.zero_add,Nat.add_comm 1 K] at s1
   rw [Nat.zero_add,Nat.add_comm 1 J] at s2
   rw [i1] at s1
   rw [i2] at s2
   have e0:E2 (fA [c]) (K+1) (J+1) x y=(c:Rat):=by rw [Zar [c] (K+1) J x y (by simp)]; simp only [Qh]; grind
   have e1:gc (c::B)=fun k j=>(fA [c] k j+Az 1 0 (gc B) k j)+Az 0 1 (gc B) k j*(-1):=by
     funext k j
     simp only [gc,fA,Az]
     by_cases hk:k=0 <;> by_cases hj:j=0
     · subst hk; subst hj; simp
     · subst hk; simp [hj,show 1≤j by omega]
       try omega
     · subst hj
       obtain ⟨m,rfl⟩:∃ m,k=m+1:=⟨k-1,by omega⟩
       simp
     · obtain ⟨m,rfl⟩:∃ m,k=m+1:=⟨k-1,by omega⟩
       obtain ⟨i,rfl⟩:∃ i,j=i+1:=⟨j-1,by omega⟩
       simp; omega
   rw [e1,Qly (fun k j=>fA [c] k j+Az 1 0 (gc B) k j) (fun k j=>Az 0 1 (gc B) k j*(-1)),Qly (fA [c]) (Az 1 0 (gc B)),Qwu,e0,s1,s2]
   simp only [Qh,Rat.pow_zero,show y^1=y by rw [Rat.pow_succ,Rat.pow_zero]; grind,show x^1=x by rw [Rat.pow_succ,Rat.pow_zero]; grind]
   rw [show (((-1:Int)):Rat)=-1 from rfl]
   grind
end Orq

namespace Orq
def phi (A B:List Int) (b J J' n k j:Nat):Int:=if n<b*J then Az (n / J) (n % J) (fA A) k j else Az ((n-b*J) / J') ((n-b*J) % J') (gc B) k j
theorem Qz6 {F:Nat→Nat→Int} {h:Nat} (hF:∀ k j,(F k j).natAbs≤h) (i j' k j:Nat):(Az i j' F k j).natAbs≤h:=by
  unfold Az; split
  · split
    · exact hF _ _
    · exact Nat.zero_le _
  · exact Nat.zero_le _
theorem Q6c {i b J j:Nat} (hi:i<b) (hj:j<J):i*J+j<b*J:=by
  have:(i+1)*J≤b*J:=Nat.mul_le_mul_right J hi
  rw [Nat.succ_mul] at this; omega
theorem Lz {i J j:Nat} (hj:j<J):(i*J+j) / J=i∧(i*J+j) % J=j:=by
  rw [Nat.mul_comm,Nat.mul_add_div (by omega),Nat.mul_add_mod,Nat.div_eq_of_lt hj,Nat.mod_eq_of_lt hj]; exact ⟨by omega,rfl⟩
theorem Qeh (A B:List Int) (a b J J':Nat) (v:Nat→Int) (k j:Nat):sm (b*J+a*J') (fun n=>phi A B b J J' n k j*v n) =
    (sm b fun i=>sm J fun j1=>Az i j1 (fA A) k j*v (i*J+j1))+sm a fun i=>sm J' fun j1=>Az i j1 (gc B) k j*v (b*J+(i*J'+j1)):=by
  rw [Qnh,Qni,Qni]
  congr 1
  · refine Uj b fun i hi=>Uj J fun j1 hj=>?_
    unfold phi
    rw [if_pos (Q6c hi hj),(Lz hj).1,(Lz hj).2]
  · refine Uj a fun i hi=>Uj J' fun j1 hj=>?_
    unfold phi
    rw [if_neg (by omega),Nat.add_sub_cancel_left,(Lz hj).1,(Lz hj).2]
theorem Zaj (A:List Int) (v:Nat→Int) {i J k j:Nat} (hj:j<J):(sm J fun j1=>Az i j1 (fA A) k j*v (i*J+j1))=if i≤k then A.getD (k-i) 0*v (i*J+j) else 0:=by
  rw [Qbr (k:=j) J hj fun j1 _ hne=>?_]
  · unfold Az fA
    by_cases h:i≤k
    · rw [if_pos h,if_pos h,if_pos (Nat.le_refl _),if_pos (Nat.sub_self _)]
    · rw [if_neg h,if_neg h,Int.zero_mul]
  · unfold Az fA
    by_cases h:i≤k
    · rw [if_pos h]
      by_cases h':j1≤j
      · rw [if_pos h',if_neg (by omega),Int.zero_mul]
      · rw [if_neg h',Int.zero_mul]
    · rw [if_neg h,Int.zero_mul]
section
variable {A B:List Int} {a b J J':Nat} (hA:A.length=a+1) (hB:B.length=b+1) (lA:A.getD a 0≠0) (lB:B.getD b 0≠0) (hJ:J=J'+b) {v:Nat→Int} (hW:∀ k j,k<a+b→j<J→sm (b*J+a*J') (fun n=>phi A B b J J' n k j*v n)=0)
include hA lA hW in
theorem Q52 {jj:Nat} (hj:jj<J) (hV:∀ k,a≤k→k<a+b→(sm a fun i=>sm J' fun j1=>Az i j1 (gc B) k jj*v (b*J+(i*J'+j1)))=0):∀ d i,i<b→b-i≤d→v (i*J+jj)=0:=by
  intro d
  induction d with
  | zero=>intro i hi hd; omega
  |
   succ d ih =>
   intro i hi hd
   have h1:=hW (i+a) jj (by omega) hj
   rw [Qeh,hV (i+a) (by omega) (by omega)] at h1
   rw [Uj b (fun i' hi'=>Zaj A v hj)] at h1
   rw [Qbr (k:=i) b hi fun i' hi' hne=>?_] at h1
   · rw [if_pos (by omega),Nat.add_sub_cancel_left,Int.add_zero] at h1
     rcases Int.mul_eq_zero.1 h1 with h2 | h2
     · exact absurd h2 lA
     · exact h2
   · rcases Nat.lt_or_ge i i' with h | h
     · rw [ih i' hi' (by omega)]; simp
     · rw [if_pos (by omega),List.getD_eq_getElem?_getD,List.getElem?_eq_none (by omega)]; simp
include hA hB lA lB hJ hW in
theorem Zap:∀ d js,js<J'→J'-js≤d→∀ i,i<a→v (b*J+(i*J'+js))=0:=by
  intro d
  induction d with
  | zero=>intro js hi hd; omega
  |
   succ d ih =>
   intro js hjs hd i hi
   have hin:∀ i' k,i'<a→(sm J' fun j1=>Az i' j1 (gc B) k (js+b)*v (b*J+(i'*J'+j1)))=if i'=k then gc B 0 b*v (b*J+(i'*J'+js)) else 0:=fun i' k hi'=>by
     rw [Qbr (k:=js) J' hjs fun j1 hj1 hne=>?_]
     · unfold Az
       by_cases h:i'≤k
       · rw [if_pos h,if_pos (by omega),Nat.add_sub_cancel_left]
         by_cases h':i'=k
         · rw [if_pos h',h',Nat.sub_self]
         · rw [if_neg h',Ii B _ _ (by omega),Int.zero_mul]
       · rw [if_neg h,if_neg (by omega),Int.zero_mul]
     · rcases Nat.lt_or_ge js j1 with h | h
       · rw [ih j1 hj1 (by omega) i' hi',Int.mul_zero]
       · unfold Az
         by_cases h':i'≤k
         · rw [if_pos h',if_pos (by omega),Ii B _ _ (by omega),Int.zero_mul]
         · rw [if_neg h',Int.zero_mul]
   have hU:=Q52 hA lA hW (jj:=js+b) (by omega) (fun k hk hk'=>Mw a fun i' hi'=>by rw [hin i' k hi',if_neg (by omega)]) (b+1)
   have h1:=hW i (js+b) (by omega) (by omega)
   rw [Qeh,Uj a (fun i' hi'=>hin i' i hi')] at h1
   rw [Mw b fun i' hi'=>by
     rw [Zaj A v (by omega),hU i' hi' (by omega)]; simp] at h1
   rw [Qbr (k:=i) a hi fun i' hi' hne=>if_neg hne,if_pos rfl,Int.zero_add] at h1
   rcases Int.mul_eq_zero.1 h1 with h2 | h2
   · have:=Qxc B b hB; rw [h2] at this; omega
   · exact h2
include hA hB lA lB hJ hW in
theorem Qub:∀ n,n<b*J+a*J'→v n=0:=by
  intro n hn
  have hV:=Zap hA hB lA lB hJ hW
  rcases Nat.lt_or_ge n (b*J) with h | h
  · have hJp:0<J:=by
      rcases Nat.eq_zero_or_pos J with e | e
      · rw [e,Nat.mul_zero] at h; omega
      · exact e
    have e1:=Nat.mod_lt n hJp
    have e2:n / J<b:=Nat.div_lt_of_lt_mul (by rw [Nat.mul_comm]; exact h)
    have:=Q52 hA lA hW e1 (fun k _ _=>Mw a fun i hi=>Mw J' fun j1 hj1=>by rw [hV J' j1 hj1 (by omega) i hi,Int.mul_zero]) (b+1) (n / J) e2 (Nat.le_trans (Nat.sub_le _ _) (Nat.le_succ _))
    rwa [Nat.mul_comm,Nat.div_add_mod] at this
  · have hJp:0<J':=by
      rcases Nat.eq_zero_or_pos J' with e | e
      · rw [e,Nat.mul_zero] at hn; omega
      · exact e
    have e1:=Nat.mod_lt (n-b*J) hJp
    have e2:(n-b*J) / J'<a:=Nat.div_lt_of_lt_mul (by rw [Nat.mul_comm J' a]; omega)
    have:=hV J' _ e1 (by omega) _ e2
    rw [Nat.mul_comm ((n-b*J) / J'),Nat.div_add_mod] at this
    rwa [show b*J+(n-b*J)=n by omega] at this
end
theorem Mr {R x:Rat} (h1:1≤R) (hx:Qm x≤R):∀ k:Nat,Qm (x^k)≤R^k∧1≤R^k
  | 0=>by rw [Rat.pow_zero,Rat.pow_zero]; exact ⟨by decide,by decide⟩
  |
   k+1=>by
   obtain ⟨i1,i2⟩:=Mr h1 hx k
   rw [Rat.pow_succ,Rat.pow_succ]
   have:=Kt (a:=1) (c:=1) (by decide) i2 (by decide) h1
   exact ⟨Zv i1 hx,by grind⟩
theorem Qq0 {R:Rat} (h1:1≤R) {i:Nat}:∀ k,i≤k→R^i≤R^k
  | 0,h=>by rw [show i=0 by omega]; exact Rat.le_refl
  |
   k+1,h=>by
   rcases Nat.lt_or_eq_of_le h with e | e
   · have:=Qq0 h1 (i:=i) k (by omega)
     have h2:=(Mr h1 (x:=0) (by rw [Xu]; grind) k).2
     rw [Rat.pow_succ]
     have:=Kt (a:=R^k) (b:=R^k) (c:=1) (d:=R) (by grind) Rat.le_refl (by decide) h1
     grind
   · rw [e]; exact Rat.le_refl
theorem Qz5 {F:Nat→Nat→Int} {i j' K J:Nat} {x y R X:Rat} {K2 J2:Nat} (h1:1≤R) (hx:Qm x≤R) (hy:Qm y≤R) (hK:K=i+K2) (hJ:J=j'+J2) (hF:E2 F K2 J2 x y=X):Qm (E2 (Az i j' F) K J x y)≤R^(K+J)*Qm X:=by
  subst hK; subst hJ
  rw [Qad,hF,G0]
  have a1:=(Mr h1 hy i).1
  have a2:=(Mr h1 hx j').1
  have a3:=Zv a1 a2
  rw [←Dh] at a3
  have a4:=Qq0 h1 (i:=i+j') (i+K2+(j'+J2)) (by omega)
  exact Kt (Xg _) (Rat.le_trans a3 a4) (Xg _) Rat.le_refl
theorem Q80 {A B:List Int} {a b h:Nat} (hA:A.length=a+1) (hB:B.length=b+1) (lA:A.getD a 0≠0) (lB:B.getD b 0≠0) (ha:0<a) (hb:0<b) (h0:1≤h) (bA:∀ k,(A.getD k 0).natAbs≤h) (bB:gB B≤h) {J J' N H:Nat} (hJ:J=2*(a*b)) (hJ':J=J'+b) (hN:N=b*J+a*J') (hH:H=(2*(N*h))^(2*(a+b-1))) :
    ∃ w:Nat→Int,(∃ j,j<J∧w j≠0)∧(∀ j,(w j).natAbs≤N*(h*H))∧∀ R:Rat,1≤R→∃ C:Rat,0≤C∧∀ x y,Qm x≤R→Qm y≤R→Qm (sq J fun j=>(w j:Rat)*x^j)≤C*(Qm (Qh A y)+Qm (Qh B (y-x))):=by
  have hab:0<a*b:=Nat.mul_pos ha hb
  have hbd:∀ n k j,(phi A B b J J' n k j).natAbs≤h:=fun n k j=>by
    unfold phi
    split
    · exact Qz6 (fun k j=>by unfold fA; split; exact bA k; exact Nat.zero_le _) _ _ _ _
    · exact Qz6 (fun k j=>Nat.le_trans (Qxb B k j) bB) _ _ _ _
  have hJp:0<J:=by omega
  have hNp:1≤N:=by
    have:0<b*J:=Nat.mul_pos hb hJp
    omega
  have hNh:1≤N*h:=Nat.mul_pos hNp h0
  obtain ⟨E,hE⟩:∃ E,E=(a+b-1)*J:=⟨_,rfl⟩
  have hNE:N=E+a*b:=by
    have e1:(a+b-1)*J+J=(a+b)*J:=by
      rw [←Nat.succ_mul]; congr 1; omega
    have e2:a*J=a*J'+a*b:=by rw [hJ',Nat.mul_add]
    rw [Nat.add_mul] at e1
    omega
  have hc:(2*(N*(h*H))+1)^E<(H+1)^N:=by
    have c1:2*(N*(h*H))+1≤2*(N*h)*(H+1):=by
      rw [Nat.mul_add,Nat.mul_one,Nat.mul_assoc 2,Nat.mul_assoc N]; omega
    refine Nat.lt_of_le_of_lt (Nat.pow_le_pow_left c1 E) ?_
    rw [Nat.mul_pow,hNE,Nat.pow_add,Nat.mul_comm]
    refine Nat.mul_lt_mul_of_pos_left ?_ (Nat.pow_pos (by omega))
    have e1:(2*(N*h))^E=H^(a*b):=by
      rw [hH,←Nat.pow_mul,hE,hJ]; congr 1
      rw [Nat.mul_comm 2 (a+b-1),Nat.mul_assoc]
    rw [←hNE,e1]
    exact Nat.pow_lt_pow_left (by omega) (by omega)
  obtain ⟨v,v1,⟨n0,n1,n2⟩,v3⟩:=Q84 (M:=fun e n=>phi A B b J J' n (e / J+1) (e % J)) (h:=h) (N:=N) (E:=E) (H:=H) (fun e n=>hbd n _ _) hc
  have hW:∀ k j,1≤k→k<a+b→j<J→sm N (fun n=>phi A B b J J' n k j*v n)=0:=fun k j k1 k2 hj=>by
    have:=v3 ((k-1)*J+j) (by rw [hE]; exact Q6c (by omega) hj)
    rwa [(Lz hj).1,(Lz hj).2,show k-1+1=k by omega] at this
  refine ⟨fun j=>sm N fun n=>phi A B b J J' n 0 j*v n,?_,fun j=>?_,fun R hR=>?_⟩
  · rcases Classical.em (∃ j,j<J∧(sm N fun n=>phi A B b J J' n 0 j*v n)≠0) with e | e
    · exact e
    · exfalso
      refine n2 (Qub hA hB lA lB hJ' (v:=v) (fun k j hk hj=>?_) n0 (by rw [←hN]; exact n1))
      rw [←hN]
      rcases Nat.eq_zero_or_pos k with e' | e'
      · subst e'
        rcases Classical.em ((sm N fun n=>phi A B b J J' n 0 j*v n)=0) with e2 | e2
        · exact e2
        · exact absurd ⟨j,hj,e2⟩ e
      · exact hW k j e' hk hj
  · refine Q0b N fun n _=>?_
    rw [Int.natAbs_mul]
    exact Nat.mul_le_mul (hbd n 0 j) (v1 n)
  · have hRp:∀ k:Nat,1≤R^k:=fun k=>(Mr hR (x:=0) (by rw [Xu]; grind) k).2
    have hHn:(0:Rat)≤(H:Rat):=Rat.natCast_nonneg
    have hNn:(0:Rat)≤(N:Rat):=Rat.natCast_nonneg
    refine ⟨(N:Rat)*((H:Rat)*R^(a+b+J)),V4 hNn (V4 hHn (by have:=hRp (a+b+J); grind)),fun x y hx hy=>?_⟩
    have e1:(sq J fun j=>((sm N fun n=>phi A B b J J' n 0 j*v n:Int):Rat)*x^j)=E2 (fun k j=>sm N fun n=>phi A B b J J' n k j*v n) (a+b) J x y:=by
      unfold E2
      obtain ⟨m,hm⟩:∃ m,a+b=m+1:=⟨a+b-1,by omega⟩
      rw [hm,Rp,K9 (n:=m)]
      · have:(sq J fun j=>((sm N fun n=>phi A B b J J' n 0 j*v n:Int):Rat)*(y^0*x^j))=sq J fun j=>((sm N fun n=>phi A B b J J' n 0 j*v n:Int):Rat)*x^j:=Yg J fun j _=>by rw [Rat.pow_zero]; grind
        rw [this]; grind
      · intro k hk
        refine K9 J fun j hj=>?_
        show ((sm N fun n=>phi A B b J J' n (k+1) j*v n:Int):Rat)*_=0
        rw [hW (k+1) j (by omega) (by omega) hj,show ((0:Int):Rat)=0 from rfl]; grind
    rw [e1,Qwv]
    have key:∀ n,n<N→Qm ((v n:Rat)*E2 (phi A B b J J' n) (a+b) J x y)≤(H:Rat)*(R^(a+b+J)*(Qm (Qh A y)+Qm (Qh B (y-x)))):=fun n hn=>by
      have hvn:Qm (v n:Rat)≤(H:Rat):=by
        have h1:=v1 n
        have h2:(v n)≤(H:Int):=by omega
        have h3:-(H:Int)≤v n:=by omega
        have h2:=Rat.intCast_le_intCast.2 h2
        have h3:=Rat.intCast_le_intCast.2 h3
        rw [Rat.intCast_neg] at h3
        rw [Y3]; exact ⟨h3,h2⟩
      refine Zv hvn ?_
      have hRk:=hRp (a+b+J)
      have n1:=Xg (Qh A y)
      have n2:=Xg (Qh B (y-x))
      rcases Nat.lt_or_ge n (b*J) with h | h
      · have e:phi A B b J J' n=Az (n / J) (n % J) (fA A):=by funext k j; unfold phi; rw [if_pos h]
        have d1:n / J<b:=Nat.div_lt_of_lt_mul (by rw [Nat.mul_comm]; exact h)
        have d2:=Nat.mod_lt n hJp
        rw [e]
        refine Rat.le_trans (Qz5 (K2:=a+b-n / J) (J2:=J-n % J) hR hx hy (by omega) (by omega) (X:=Qh A y) ?_) (Kt (by grind) Rat.le_refl n1 (by grind))
        obtain ⟨m,hm⟩:∃ m,J-n % J=m+1:=⟨J-n % J-1,by omega⟩
        rw [hm]; exact Zar A _ _ x y (by omega)
      · have e:phi A B b J J' n=Az ((n-b*J) / J') ((n-b*J) % J') (gc B):=by funext k j; unfold phi; rw [if_neg (by omega)]
        have hJp':0<J':=by
          rcases Nat.eq_zero_or_pos J' with e | e
          · rw [e,Nat.mul_zero] at hN; omega
          · exact e
        have d1:(n-b*J) / J'<a:=Nat.div_lt_of_lt_mul (by rw [Nat.mul_comm J' a]; omega)
        have d2:=Nat.mod_lt (n-b*J) hJp'
        rw [e]
        refine Rat.le_trans (Qz5 (K2:=a+b-(n-b*J) / J') (J2:=J-(n-b*J) % J') hR hx hy (by omega) (by omega) (X:=Qh B (y-x)) ?_) (Kt (by grind) Rat.le_refl n2 (by grind))
        exact Q7u x y B _ _ (by omega) (by omega)
    have:=Q6n N key
    refine Rat.le_trans this ?_
    have:(N:Rat)*((H:Rat)*(R^(a+b+J)*(Qm (Qh A y)+Qm (Qh B (y-x)))))=(N:Rat)*((H:Rat)*R^(a+b+J))*(Qm (Qh A y)+Qm (Qh B (y-x))):=by grind
    rw [this]; exact Rat.le_refl
end Orq

namespace Orq
theorem Q0e {w:Nat→Int} {x:Rat} {D:Rat} (hx:Qm x*2≤1) (hw:∀ j,Qm (w j:Rat)≤D):∀ J (k:Nat),Qm (sq J fun j=>(w (k+j):Rat)*x^j)≤2*D
  | 0,k=>by have:=hw 0; have:=Xg (w 0:Rat); simp only [sq,Xu]; clear hw; grind
  |
   J+1,k=>by
   have ih:=Q0e hx hw J (k+1)
   rw [Rp]
   have e:(sq J fun i=>(w (k+(i+1)):Rat)*x^(i+1))=x*sq J fun i=>(w (k+1+i):Rat)*x^i:=by
     rw [←P6]; exact Yg J fun i _=>by rw [Rat.pow_succ,show k+(i+1)=k+1+i by omega]; grind
   rw [e,Rat.pow_zero,Nat.add_zero]
   have h1:=hw k
   have h2:=Jv ((w k:Rat)*1) (x*sq J fun i=>(w (k+1+i):Rat)*x^i)
   have h3:=Zv (x:=x) (y:=sq J fun i=>(w (k+1+i):Rat)*x^i) Rat.le_refl ih
   have h4:=Rat.mul_le_mul_of_nonneg_right hx (show (0:Rat)≤D by have:=Xg (w k:Rat); clear hw; grind)
   have h5:(w k:Rat)*1=w k:=by grind
   rw [h5] at h2 ⊢
   clear hw; grind
theorem Nz {z:Int} (h:z≠0):1≤Qm (z:Rat):=by
  unfold Qm
  rcases Int.lt_or_lt_of_ne h with h | h
  · have:((z:Int):Rat)<((0:Int):Rat):=Rat.intCast_lt_intCast.2 h
    have h2:((1:Int):Rat)≤((-z:Int):Rat):=Rat.intCast_le_intCast.2 (by omega)
    rw [if_pos (by simpa using this)]
    rw [Rat.intCast_neg] at h2
    simpa using h2
  · have:((0:Int):Rat)<((z:Int):Rat):=Rat.intCast_lt_intCast.2 h
    have h2:((1:Int):Rat)≤((z:Int):Rat):=Rat.intCast_le_intCast.2 (by omega)
    rw [if_neg (by
     have:(0:Rat)<z:=by simpa using this
     grind)]
    simpa using h2
theorem Qmh {w:Nat→Int} {x:Rat} {D:Rat} (hD:1≤D) (hx0:0<Qm x) (hx:Qm x*(4*D)≤1) (hw:∀ j,Qm (w j:Rat)≤D):∀ J (k:Nat),(∃ j,j<J∧w (k+j)≠0)→Qm x^J / 2≤Qm (sq J fun j=>(w (k+j):Rat)*x^j)
  | 0,k,⟨j,h,_⟩=>by omega
  |
   J+1,k,⟨j,h1,h2⟩=>by
   have hx2:Qm x*2≤1:=by
     have:=Kt (a:=Qm x) (c:=2) (Rat.le_of_lt hx0) Rat.le_refl (by decide) (show (2:Rat)≤4*D by clear hw; grind)
     exact Rat.le_trans this hx
   have hx1:Qm x≤1:=by clear hw; grind
   have hp:∀ k:Nat,Qm x^k≤1∧0≤Qm x^k:=fun k=>by
     induction k with
     | zero=>rw [Rat.pow_zero]; exact ⟨by decide,by decide⟩
     |
      succ k ih =>
      rw [Rat.pow_succ]
      have:=Kt ih.2 ih.1 (Rat.le_of_lt hx0) hx1
      have:=V4 ih.2 (Rat.le_of_lt hx0)
      constructor <;> (clear hw; grind)
   rw [Rp]
   have e:(sq J fun i=>(w (k+(i+1)):Rat)*x^(i+1))=x*sq J fun i=>(w (k+1+i):Rat)*x^i:=by
     rw [←P6]; exact Yg J fun i _=>by rw [Rat.pow_succ,show k+(i+1)=k+1+i by omega]; grind
   rw [e,Rat.pow_zero,Nat.add_zero k,show (w k:Rat)*1=w k by grind]
   by_cases h0:w k=0
   · have hj:j≠0:=fun e=>h2 (by rw [e]; exact h0)
     have ih:=Qmh hD hx0 hx hw J (k+1) ⟨j-1,by omega,by rw [show k+1+(j-1)=k+j by omega]; exact h2⟩
     rw [h0,show ((0:Int):Rat)+x*(sq J fun i=>(w (k+1+i):Rat)*x^i)=x*sq J fun i=>(w (k+1+i):Rat)*x^i by rw [show ((0:Int):Rat)=0 from rfl]; grind,G0,Rat.pow_succ]
     have:=Rat.mul_le_mul_of_nonneg_left ih (Rat.le_of_lt hx0)
     have e2:Qm x*(Qm x^J / 2)=Qm x^J*Qm x / 2:=by rw [Rat.div_def,Rat.div_def]; grind
     rw [e2] at this; exact this
   · have a1:=Nz h0
     have a2:=Q0e hx2 hw J (k+1)
     have a3:=Zv (x:=x) (y:=sq J fun i=>(w (k+1+i):Rat)*x^i) Rat.le_refl a2
     have a4:=Jv ((w k:Rat)+x*sq J fun i=>(w (k+1+i):Rat)*x^i) (-(x*sq J fun i=>(w (k+1+i):Rat)*x^i))
     rw [U7,show (w k:Rat)+(x*sq J fun i=>(w (k+1+i):Rat)*x^i)+-(x*sq J fun i=>(w (k+1+i):Rat)*x^i)=w k by grind] at a4
     have a5:=(hp (J+1)).1
     have a6:Qm x^(J+1) / 2*2=Qm x^(J+1):=Zx (by decide)
     have a7:Qm x*(2*D)*2=Qm x*(4*D):=by grind
     clear hw hp; grind
theorem Q73 {A B:List Int} {a b h:Nat} (hA:A.length=a+1) (hB:B.length=b+1) (lA:A.getD a 0≠0) (lB:B.getD b 0≠0) (ha:0<a) (hb:0<b) (h0:1≤h) (bA:∀ k,(A.getD k 0).natAbs≤h) (bB:gB B≤h) {N D:Nat} (hN:b*(2*(a*b))+a*(2*(a*b)-b)=N) (hD:N*(h*(2*(N*h))^(2*(a+b-1)))≤D) {R d:Rat} (hR:1≤R) (dp:0<d)
    (hs:∀ e:Rat,0<e→∃ q r,Qm q≤R∧Qm r≤R∧d≤Qm (q-r)∧Qm (q-r)*(4*(D:Rat))≤1∧Qm (Qh A q)<e∧Qm (Qh B r)<e):False:=by
  have hab:0<a*b:=Nat.mul_pos ha hb
  have hbab:b≤a*b:=by
    have:=Nat.mul_le_mul_right b (show 1≤a from ha); omega
  obtain ⟨w,⟨j,hj,hw0⟩,hw,hC⟩:=Q80 hA hB lA lB ha hb h0 bA bB (J:=2*(a*b)) (J':=2*(a*b)-b) rfl (by omega) hN.symm rfl
  obtain ⟨C,hC0,hC⟩:=hC (2*R) (by grind)
  have hw':∀ j,Qm (w j:Rat)≤(D:Rat):=fun j=>by
    have h1:=Nat.le_trans (hw j) hD
    have h2:w j≤(D:Int):=by omega
    have h3:-(D:Int)≤w j:=by omega
    have h2:=Rat.intCast_le_intCast.2 h2
    have h3:=Rat.intCast_le_intCast.2 h3
    rw [Rat.intCast_neg] at h3
    rw [Y3]; exact ⟨h3,h2⟩
  have hD1:(1:Rat)≤(D:Rat):=by
    have:=Nz hw0
    exact Rat.le_trans this (hw' j)
  have hdJ:0<d^(2*(a*b)) / 2:=Fq (Rat.pow_pos dp) (by decide)
  obtain ⟨e,ep,_,he⟩:=Zy (b:=C*2) (d:=d^(2*(a*b)) / 2) (by grind) hdJ
  obtain ⟨q,r,q1,r1,d1,d2,aq,br⟩:=hs e ep
  have h1:=hC (q-r) q (by
   have:=Jv q (-r); rw [U7] at this; have:q-r=q+-r:=by grind
   grind) (by grind)
  rw [show q-(q-r)=r by grind] at h1
  have h2:=Qmh (x:=q-r) hD1 (by grind) d2 hw' (2*(a*b)) 0 ⟨j,hj,by rw [Nat.zero_add]; exact hw0⟩
  simp only [Nat.zero_add] at h2
  have h3:C*(Qm (Qh A q)+Qm (Qh B r))≤C*(e+e):=Rat.mul_le_mul_of_nonneg_left (by grind) hC0
  have h4:d^(2*(a*b))≤Qm (q-r)^(2*(a*b)):=by
    generalize 2*(a*b)=J
    induction J with
    | zero=>rw [Rat.pow_zero,Rat.pow_zero]; exact Rat.le_refl
    |
     succ J ih =>
     rw [Rat.pow_succ,Rat.pow_succ]
     exact Kt (Rat.le_of_lt (Rat.pow_pos dp)) ih (Rat.le_of_lt dp) d1
  have h5:d^(2*(a*b)) / 2*2=d^(2*(a*b)):=Zx (by decide)
  have h6:Qm (q-r)^(2*(a*b)) / 2*2=Qm (q-r)^(2*(a*b)):=Zx (by decide)
  clear hC hs hw hw'
  grind
end Orq

namespace Orq
def HD (p:List Rat) (n:Nat):Prop:=p.getD n 0≠0∧∀ k,n<k→p.getD k 0=0
theorem Xv:∀ (p q:List Rat) (k:Nat),(Jw p q).getD k 0=p.getD k 0+q.getD k 0
  | [],q,k=>by simp only [Jw,List.getD_nil]; grind
  | a::p,[],k=>by simp only [Jw,List.getD_nil]; grind
  | a::p,b::q,0=>by simp only [Jw,List.getD_cons_zero]
  | a::p,b::q,k+1=>by simp only [Jw,List.getD_cons_succ]; exact Xv p q k
theorem Ju (c:Rat):∀ (p:List Rat) (k:Nat),(W8 c p).getD k 0=c*p.getD k 0
  | [],k=>by simp only [W8,List.map_nil,List.getD_nil]; grind
  | a::p,0=>by simp [W8]
  | a::p,k+1=>by have:=Ju c p k; simp only [W8,List.map_cons,List.getD_cons_succ] at *; exact this
theorem Qxk {p:List Rat} {k:Nat} (h:∀ x∈p,x=0):p.getD k 0=0:=by
  rw [List.getD_eq_getElem?_getD]
  cases e:p[k]? with
  | none=>rfl
  | some x=>exact h x (List.mem_of_getElem? e)
theorem W4 {p q:List Rat} (h:∀ t,ev p t=ev q t) (k:Nat):p.getD k 0=q.getD k 0:=by
  have h1:=Qxk (k:=k) (Bs (p:=Jw p (W8 (-1) q)) fun t _ _=>by rw [Zm,Zc,h t]; grind)
  rw [Xv,Ju] at h1; grind
theorem Ue:∀ {p:List Rat},(∀ k,p.getD k 0=0)→∀ t,ev p t=0
  | [],_,t=>rfl
  |
   a::p,h,t=>by
   have h0:=h 0
   have h1:=Ue (p:=p) (fun k=>by have:=h (k+1); rwa [List.getD_cons_succ] at this) t
   rw [List.getD_cons_zero] at h0
   simp only [ev,h0,h1]; grind
theorem Qat:∀ (p:List Rat),(∀ t,ev p t=0)∨∃ n,n<p.length∧HD p n
  | []=>.inl fun _=>rfl
  |
   a::p=>by
   rcases Qat p with h | ⟨n,hn,h1,h2⟩
   · rcases Classical.em (a=0) with e | e
     · exact .inl fun t=>by simp only [ev,e,h t]; grind
     · refine .inr ⟨0,by simp,by simpa using e,fun k hk=>?_⟩
       obtain ⟨m,rfl⟩:∃ m,k=m+1:=⟨k-1,by omega⟩
       rw [List.getD_cons_succ]
       exact (W4 (p:=p) (q:=[]) h m).trans (by simp)
   · refine .inr ⟨n+1,by simp; omega,by rw [List.getD_cons_succ]; exact h1,fun k hk=>?_⟩
     obtain ⟨m,rfl⟩:∃ m,k=m+1:=⟨k-1,by omega⟩
     rw [List.getD_cons_succ]; exact h2 m (by omega)
theorem Q6a {p q:List Rat} {n:Nat} (h:∀ t,ev p t=ev q t) (hp:HD p n):HD q n :=
  ⟨by rw [←W4 h]; exact hp.1,fun k hk=>by rw [←W4 h]; exact hp.2 k hk⟩
theorem Q6b {p:List Rat} {n m:Nat} (h:HD p n) (h':HD p m):n=m:=by
  rcases Nat.lt_trichotomy n m with e | e | e
  · exact absurd (h.2 m e) h'.1
  · exact e
  · exact absurd (h'.2 n e) h.1
theorem Qpn {p:List Rat} {n:Nat} (h:HD p n):¬∀ t,ev p t=0:=fun h0=>h.1 ((W4 (p:=p) (q:=[]) h0 n).trans (by simp))
theorem Ab {p q:List Rat} (h:∀ k,p.getD k 0=0) (k:Nat):(Zq p q).getD k 0=0:=by
  have:=W4 (p:=Zq p q) (q:=[]) (fun t=>by rw [Qk,Ue h t]; simp only [ev]; grind) k
  rw [this]; simp
theorem Qau:∀ {p q:List Rat} {m n:Nat},HD p m→HD q n→HD (Zq p q) (m+n)
  | [],q,m,n,h,_=>absurd (by simp) h.1
  |
   a::p,q,0,n,h,h'=>by
   have h1:∀ k,p.getD k 0=0:=fun k=>by have:=h.2 (k+1) (by omega); rwa [List.getD_cons_succ] at this
   have h2:∀ k,(Zq (a::p) q).getD k 0=a*q.getD k 0:=fun k=>by
     simp only [Zq]
     rw [Xv,Ju]
     cases k with
     | zero=>rw [List.getD_cons_zero]; grind
     | succ k=>rw [List.getD_cons_succ,Ab h1]; grind
   have h3:=h.1
   rw [List.getD_cons_zero] at h3
   refine ⟨?_,fun k hk=>?_⟩
   · rw [h2,Nat.zero_add]; exact fun h=>(Rat.mul_eq_zero.1 h).elim h3 h'.1
   · rw [h2,h'.2 k (by omega)]; grind
  |
   a::p,q,m+1,n,h,h'=>by
   have ih:=Qau (p:=p) (q:=q) (m:=m) ⟨by have:=h.1; rwa [List.getD_cons_succ] at this,fun k hk=>by have:=h.2 (k+1) (by omega); rwa [List.getD_cons_succ] at this⟩ h'
   refine ⟨?_,fun k hk=>?_⟩
   · simp only [Zq]
     rw [Xv,Ju,show m+1+n=(m+n)+1 by omega,List.getD_cons_succ,h'.2 _ (by omega)]
     have:=ih.1; grind
   · obtain ⟨j,rfl⟩:∃ j,k=j+1:=⟨k-1,by omega⟩
     simp only [Zq]
     rw [Xv,Ju,List.getD_cons_succ,h'.2 _ (by omega),ih.2 j (by omega)]; grind
def Sj (g f:List Rat):Prop:=∃ u,∀ t,ev f t=ev g t*ev u t
theorem dvd_refl (f:List Rat):Sj f f:=⟨[1],fun t=>by rw [X7]; grind⟩
theorem dvd_trans {f g h:List Rat}:Sj f g→Sj g h→Sj f h
  | ⟨u,hu⟩,⟨v,hv⟩=>⟨Zq u v,fun t=>by rw [hv,hu,Qk]; grind⟩
theorem Qi9 {p q:List Rat} (h:∀ t,ev p t*ev q t=0) (hp:¬∀ t,ev p t=0):∀ t,ev q t=0:=by
  rcases Qat p with h1 | ⟨m,_,h1⟩
  · exact absurd h1 hp
  · rcases Qat q with h2 | ⟨n,_,h2⟩
    · exact h2
    · exact absurd (fun t=>by rw [Qk]; exact h t) (Qpn (Qau h1 h2))
theorem Qls {p q r:List Rat} (hp:¬∀ t,ev p t=0) (h:∀ t,ev p t*ev q t=ev p t*ev r t) (t:Rat):ev q t=ev r t:=by
  have:=Qi9 (p:=p) (q:=Jw q (W8 (-1) r)) (fun t=>by rw [Zm,Zc]; have:=h t; grind) hp t
  rw [Zm,Zc] at this; grind
theorem Qwn {b:List Rat} {n:Nat} (hb:HD b n):∀ (l:Nat) (a:List Rat),(∀ k,l≤k→a.getD k 0=0)→∃ q r,(∀ t,ev a t=ev q t*ev b t+ev r t)∧∀ k,n≤k→r.getD k 0=0
  | 0,a,ha=>⟨[],a,fun t=>by simp only [ev]; grind,fun k _=>ha k (Nat.zero_le _)⟩
  |
   l+1,a,ha=>by
   rcases Nat.lt_or_ge l n with h | h
   · exact ⟨[],a,fun t=>by simp only [ev]; grind,fun k hk=>ha k (by omega)⟩
   · -- the leading term is taken away
     obtain ⟨c,hc⟩:∃ c,c=a.getD l 0 / b.getD n 0:=⟨_,rfl⟩
     have hcb:c*b.getD n 0=a.getD l 0:=by rw [hc]; exact Rat.div_mul_cancel hb.1
     obtain ⟨m,hm⟩:∃ m:List Rat,m=List.replicate (l-n) 0++[c]:=⟨_,rfl⟩
     have hsh:∀ (i:Nat) (k:Nat),(Zq (List.replicate i 0++[c]) b).getD k 0=if i≤k then c*b.getD (k-i) 0 else 0:=fun i=>by
       induction i with
       | zero=>intro k; simp only [List.replicate_zero,List.nil_append,Zq]; rw [Xv,Ju]; cases k <;> simp <;> grind
       |
        succ i ih =>
        intro k
        simp only [List.replicate_succ,List.cons_append,Zq]
        rw [Xv,Ju]
        cases k with
        | zero=>rw [List.getD_cons_zero,if_neg (by omega)]; grind
        |
         succ k =>
         rw [List.getD_cons_succ,ih k]
         by_cases h:i≤k
         · rw [if_pos h,if_pos (by omega),Nat.add_sub_add_right]; grind
         · rw [if_neg h,if_neg (by omega)]; grind
     obtain ⟨q,r,h1,h2⟩:=Qwn hb l (Jw a (W8 (-1) (Zq m b))) fun k hk=>by
       rw [Xv,Ju,hm,hsh,if_pos (by omega)]
       rcases Nat.lt_or_eq_of_le hk with e | e
       · rw [ha k (by omega),hb.2 _ (by omega)]; grind
       · subst e; rw [show l-(l-n)=n by omega,hcb]; grind
     refine ⟨Jw q m,r,fun t=>?_,h2⟩
     have:=h1 t
     rw [Zm,Zc,Qk] at this
     rw [Zm]; grind
theorem Ql4:∀ (n:Nat) (a b:List Rat),(∀ k,n≤k→b.getD k 0=0)→∃ g U V,Sj g a∧Sj g b∧∀ t,ev g t=ev U t*ev a t+ev V t*ev b t
  |
   0,a,b,h=>by
   have h0:=Ue fun k=>h k (Nat.zero_le _)
   exact ⟨a,[1],[],dvd_refl a,⟨[],fun t=>by rw [h0]; simp only [ev]; grind⟩,fun t=>by rw [X7]; simp only [ev]; grind⟩
  |
   n+1,a,b,h=>by
   rcases Classical.em (b.getD n 0=0) with e | e
   · exact Ql4 n a b fun k hk=>by
       rcases Nat.lt_or_eq_of_le hk with e' | e'
       · exact h k (by omega)
       · rw [←e']; exact e
   · obtain ⟨q,r,h1,h2⟩:=Qwn (b:=b) (n:=n) ⟨e,fun k hk=>h k (by omega)⟩ a.length a fun k hk=>by rw [List.getD_eq_getElem?_getD,List.getElem?_eq_none hk]; rfl
     obtain ⟨g,U,V,⟨u,hu⟩,⟨v,hv⟩,hg⟩:=Ql4 n b r h2
     refine ⟨g,V,Jw U (W8 (-1) (Zq V q)),⟨Jw (Zq q u) v,fun t=>?_⟩,⟨u,hu⟩,fun t=>?_⟩
     · rw [h1,hv,Zm,Qk,hu]; grind
     · rw [hg,Zm,Zc,Qk,h1]; grind
theorem Qxf (a b:List Rat):∃ g U V,Sj g a∧Sj g b∧∀ t,ev g t=ev U t*ev a t+ev V t*ev b t :=
  Ql4 b.length a b fun k hk=>by rw [List.getD_eq_getElem?_getD,List.getElem?_eq_none hk]; rfl
def Cop (a b:List Rat):Prop:=∃ U V,∀ t,ev U t*ev a t+ev V t*ev b t=1
theorem Qe5 {c d e:List Rat} (h:Cop c d) (h1:∃ u,∀ t,ev d t*ev e t=ev c t*ev u t):Sj c e:=by
  obtain ⟨U,V,h⟩:=h
  obtain ⟨u,hu⟩:=h1
  refine ⟨Jw (Zq U e) (Zq V u),fun t=>?_⟩
  rw [Zm,Qk,Qk]
  have a1:=h t
  have a2:=hu t
  have:ev e t=(ev U t*ev c t+ev V t*ev d t)*ev e t:=by rw [a1]; grind
  rw [this]
  have:(ev U t*ev c t+ev V t*ev d t)*ev e t=ev U t*ev c t*ev e t+ev V t*(ev d t*ev e t):=by grind
  rw [this,a2]; grind
def qpw (d:List Rat):Nat→List Rat
  | 0=>[1]
  | k+1=>Zq d (qpw d k)
theorem Qm6 (d:List Rat) (t:Rat):∀ k:Nat,ev d t*dv (qpw d k) t=(k:Rat)*(dv d t*ev (qpw d k) t)
  | 0=>by simp only [qpw,dv,ev]; rw [show ((0:Nat):Rat)=0 from rfl]; grind
  |
   k+1=>by
   have ih:=Qm6 d t k
   have hn':(((k+1:Nat):Rat))=(k:Rat)+1:=by push_cast; rfl
   simp only [qpw]
   rw [Qfc,Qk,hn']; grind
theorem Qzf {d:List Rat} {m:Nat} (h:HD d m):∀ k,HD (qpw d k) (k*m)
  | 0=>by rw [Nat.zero_mul]; exact ⟨by simp [qpw],fun k hk=>by simp only [qpw]; rw [List.getD_eq_getElem?_getD,List.getElem?_eq_none (by simp; omega)]; rfl⟩
  | k+1=>by rw [Nat.succ_mul,Nat.add_comm (k*m) m]; exact Qau h (Qzf h k)
theorem Qd1 {d g:List Rat} {m n:Nat} (hd:HD d m) (hg:HD g n) (h:∀ k,Sj (qpw d k) g):m=0:=by
  obtain ⟨u,hu⟩:=h (n+1)
  rcases Qat u with h1 | ⟨j,_,h1⟩
  · exact absurd (fun t=>by rw [hu,h1]; grind) (Qpn hg)
  · have:=Q6b (Q6a (fun t=>by rw [hu,Qk]) hg) (Qau (Qzf hd (n+1)) h1)
    rcases Nat.eq_zero_or_pos m with e | e
    · exact e
    · have:(n+1)*1≤(n+1)*m:=Nat.mul_le_mul_left _ e
      omega
theorem sqf {a g q d U V:List Rat} {k:Rat} (hk:k≠0) (ha:∀ t,ev a t=ev g t*ev q t) (hg:∀ t,k*ev g t=ev U t*ev a t+ev V t*dv a t) (h1:Sj d q) (h2:Sj d (V5 q)):∀ n,Sj (qpw d n) g
  | 0=>⟨g,fun t=>by simp only [qpw]; rw [X7]; grind⟩
  |
   n+1=>by
   obtain ⟨g1,e1⟩:=sqf hk ha hg h1 h2 n
   obtain ⟨q1,e2⟩:=h1
   obtain ⟨q2,e3⟩:=h2
   have d1:=fun t=>Tg ha t
   have d2:=fun t=>Tg e1 t
   have d3:=fun t=>Tg e2 t
   have d4:=Qm6 d
   refine ⟨W8 (1 / k) (Jw (Zq U (Zq g1 q1)) (Zq V (Jw (Zq g1 q2) (Jw (W8 n (Zq g1 (Jw q2 (W8 (-1) (V5 q1))))) (Zq (V5 g1) q1))))),fun t=>?_⟩
   have hkk:1 / k*k=1:=Rat.div_mul_cancel hk
   simp only [qpw,Zc,Zm,Qk,Jd]
   have b1:=ha t; have b2:=hg t; have b3:=e1 t; have b4:=e2 t; have b5:=e3 t
   have b6:=d1 t; have b7:=d2 t; have b8:=d3 t; have b9:=d4 t n
   rw [Jd] at b5
   generalize ev d t=x0 at *
   generalize ev (qpw d n) t=x1 at *
   generalize ev g t=x2 at *
   generalize ev q t=x3 at *
   generalize ev a t=x4 at *
   generalize dv a t=x5 at *
   generalize dv g t=x6 at *
   generalize dv q t=x7 at *
   generalize ev g1 t=x8 at *
   generalize dv g1 t=x9 at *
   generalize ev q1 t=y0 at *
   generalize dv q1 t=y1 at *
   generalize ev q2 t=y2 at *
   generalize dv d t=y3 at *
   generalize dv (qpw d n) t=y4 at *
   generalize ev U t=y5 at *
   generalize ev V t=y6 at *
   generalize (n:Rat)=y7 at *
   have:x2=1 / k*(k*x2):=by grind
   rw [this,b2]
   have c1:x5=x0*x1*(x8*y2+(y7*(x8*(y2+-1*y1))+x9*y0)):=by
     rw [b6,b7,b4,b3]
     have:y3*y0=x0*y2-x0*y1:=by grind
     have:x0*y4*(x8*y0)=y7*(x1*x8*(x0*y2-x0*y1)):=by rw [b9,←this]; grind
     grind
   have c2:x4=x0*x1*(x8*y0):=by rw [b1,b3,b4]; grind
   rw [c1,c2]; grind
end Orq

namespace Orq
theorem Q2t {a b c:List Rat} (h1:Cop a b) (h2:Cop a c) {d:List Rat} (hd:∀ t,ev d t=ev b t*ev c t):Cop a d:=by
  obtain ⟨U,V,h1⟩:=h1
  obtain ⟨X,Y,h2⟩:=h2
  refine ⟨Jw U (Zq (Zq V b) X),Zq V Y,fun t=>?_⟩
  have a1:=h1 t
  have a2:=h2 t
  simp only [Zm,Qk,hd]
  have:ev V t*ev b t*(ev X t*ev a t+ev Y t*ev c t)=ev V t*ev b t:=by rw [a2]; grind
  grind
theorem Q40 {a g q z r X Y:List Rat} {n:Nat} (ha:∀ t,ev a t=ev g t*ev q t) (hz:∀ t,dv a t=ev g t*ev z t) (hg:HD g n) (hr:∀ t,ev X t*ev r t+ev Y t*dv r t=1) (h:Sj r a):Sj r q:=by
  obtain ⟨b,hb⟩:=h
  obtain ⟨e,U,V,⟨r1,e1⟩,⟨q3,e2⟩,e3⟩:=Qxf r q
  have hr0:¬∀ t,ev r t=0:=fun h=>by
    have h1:=hr 0
    have h2:dv r 0=0:=by have:=Qws (p:=r) (q:=[]) h 0; rw [this]; rfl
    rw [h,h2] at h1; grind
  have he0:¬∀ t,ev e t=0:=fun h=>hr0 fun t=>by rw [e1,h]; grind
  have d1:=fun t=>Tg e1 t
  -- r1 has nothing in common with q3,with e,with its derivative
  have c1:Cop r1 q3:=⟨U,V,fun t=>by
    have:=Qls (p:=e) (q:=Jw (Zq U r1) (Zq V q3)) (r:=[1]) he0 (fun t=>by
      rw [Zm,Qk,Qk,X7]
      have a1:=e1 t; have a2:=e2 t; have a3:=e3 t
      rw [a1,a2] at a3; grind) t
    rw [Zm,Qk,Qk,X7] at this; exact this⟩
  have c2:Cop r1 e:=⟨Jw (Zq X e) (Zq Y (V5 e)),Zq Y (V5 r1),fun t=>by
    have a1:=hr t; have a2:=e1 t; have a3:=d1 t
    simp only [Zm,Qk,Jd]
    rw [a2,a3] at a1; grind⟩
  have c3:Cop r1 (V5 r1):=⟨Jw (Zq X e) (Zq Y (V5 e)),Zq Y e,fun t=>by
    have a1:=hr t; have a2:=e1 t; have a3:=d1 t
    simp only [Zm,Qk,Jd]
    rw [a2,a3] at a1; grind⟩
  have c4:Cop r1 q:=Q2t c2 c1 e2
  have hgz:=Qpn hg
  -- so all its powers divide g
  have hp:∀ k,Sj (qpw r1 k) g:=fun k=>by
    induction k with
    | zero=>exact ⟨g,fun t=>by simp only [qpw]; rw [X7]; grind⟩
    |
     succ k ih =>
     obtain ⟨h,eh⟩:=ih
     have hpz:¬∀ t,ev (qpw r1 k) t=0:=fun h0=>hgz fun t=>by rw [eh,h0]; grind
     have key:Sj r1 h:=by
       cases k with
       |
        zero =>
        refine Qe5 c4 ⟨Zq e b,fun t=>?_⟩
        have a1:=ha t; have a2:=hb t; have a3:=e1 t; have a4:=eh t
        simp only [qpw] at a4
        rw [X7] at a4
        rw [Qk]; grind
       |
        succ k =>
        have hn:((k+1:Nat):Rat)≠0:=by
          have:(0:Rat)<((k+1:Nat):Rat):=by
            have h1:((0:Nat):Rat)<((k+1:Nat):Rat):=Rat.natCast_lt_natCast.2 (by omega)
            simpa using h1
          grind
        -- k r1' h q=r1 (..)
        have d2:=fun t=>Tg (f:=a) (w:=qpw r1 (k+1)) (u:=Zq h q) (fun t=>by rw [ha,eh,Qk]; grind) t
        have d4:=Qm6 r1
        have h3:=Qls (p:=qpw r1 (k+1)) (q:=Zq (V5 r1) (Zq h q)) (r:=Zq r1 (W8 (1 / ((k+1:Nat):Rat)) (Jw (Zq h z) (W8 (-1) (V5 (Zq h q)))))) hpz fun t=>by
          simp only [Qk,Zc,Zm,Jd]
          have a1:=d2 t; have a2:=d4 t (k+1); have a3:=hz t; have a4:=eh t
          rw [Qk] at a1
          generalize ((k+1:Nat):Rat)=c at *
          have hc:1 / c*c=1:=Rat.div_mul_cancel hn
          generalize ev (qpw r1 (k+1)) t=x0 at *
          generalize dv (qpw r1 (k+1)) t=x1 at *
          generalize dv (Zq h q) t=x2 at *
          generalize ev r1 t=x3 at *
          generalize dv r1 t=x4 at *
          generalize ev h t=x5 at *
          generalize ev q t=x6 at *
          generalize ev z t=x7 at *
          generalize dv a t=x8 at *
          generalize ev g t=x9 at *
          generalize 1 / c=c' at *
          have s1:x0*(x4*(x5*x6))=c'*(c*(x4*x0))*(x5*x6):=by
            have:c'*(c*(x4*x0))=(c'*c)*(x4*x0):=by grind
            rw [this,hc]; grind
          rw [s1,←a2]
          have s2:x3*(x1*(x5*x6))=x3*(x0*(x5*x7+-1*x2)):=by
            rw [a3,a4] at a1; grind
          grind
        refine Qe5 c4 ?_
        obtain ⟨u,hu⟩:=Qe5 (e:=Zq q h) c3 ⟨W8 (1 / ((k+1:Nat):Rat)) (Jw (Zq h z) (W8 (-1) (V5 (Zq h q)))),fun t=>by
          have:=h3 t
          simp only [Qk] at this ⊢
          rw [←this]; grind⟩
        exact ⟨u,fun t=>by rw [←hu,Qk]⟩
     obtain ⟨u,hu⟩:=key
     exact ⟨u,fun t=>by simp only [qpw]; rw [Qk,eh,hu]; grind⟩
  rcases Qat r1 with h1 | ⟨m,_,h1⟩
  · exact absurd (fun t=>by rw [e1,h1]; grind) hr0
  · obtain rfl:=Qd1 h1 hg hp
    -- r1 is a number
    have h2:∀ t,ev r1 t=r1.getD 0 0:=fun t=>by
      cases r1 with
      | nil=>simp [ev]
      |
       cons c l =>
       have:∀ t,ev l t=0:=Ue fun k=>by have:=h1.2 (k+1) (by omega); rwa [List.getD_cons_succ] at this
       simp only [ev,this,List.getD_cons_zero]; grind
    have h3:=h1.1
    refine ⟨W8 (1 / r1.getD 0 0) q3,fun t=>?_⟩
    rw [e2,e1,h2,Zc]
    have:1 / r1.getD 0 0*r1.getD 0 0=1:=Rat.div_mul_cancel h3
    have:ev e t*r1.getD 0 0*(1 / r1.getD 0 0*ev q3 t)=ev e t*ev q3 t*(1 / r1.getD 0 0*r1.getD 0 0):=by grind
    rw [this,Rat.div_mul_cancel h3]; grind
def H7:List (List Rat)→List Rat
  | []=>[1]
  | w::l=>Zq w (H7 l)
def Lay:List (List Rat)→List (List Rat)→Prop
  | [],[]=>True
  | [w],[f]=>∀ t,ev w t=ev f t
  | w::v::l,f::fs=>(∀ t,ev w t=ev f t*ev v t)∧Lay (v::l) fs
  | _,_=>False
def Aw:List (List Rat)→List Rat
  | []=>[1]
  | [f]=>f
  | f::_::l=>Zq f (Aw l)
theorem Qpw:∀ {ws fs:List (List Rat)},Lay ws fs→∃ S,∀ t,ev (H7 ws) t=ev (Aw fs) t*(ev S t*ev S t)
  | [],[],_=>⟨[1],fun t=>by simp only [H7,Aw]; rw [X7]; grind⟩
  | [w],[f],h=>⟨[1],fun t=>by simp only [H7,Aw]; rw [Qk,X7,h t]; grind⟩
  |
   [w,v],[f,f2],h=>⟨v,fun t=>by
   have h1:=h.1 t
   have h2:ev v t=ev f2 t:=h.2 t
   simp only [H7,Aw,Qk]; rw [X7,h1]; grind⟩
  |
   w::v::x::l,f::f2::fs,h=>by
   obtain ⟨S,hS⟩:=Qpw h.2.2
   refine ⟨Zq v S,fun t=>?_⟩
   have h1:=h.1 t
   have h2:=hS t
   have e1:ev (H7 (w::v::x::l)) t=ev w t*(ev v t*ev (H7 (x::l)) t):=by simp only [H7,Qk]
   rw [e1,h2,h1]
   have e2:ev (Aw (f::f2::fs)) t=ev f t*ev (Aw fs) t:=by
     cases fs with
     | nil=>cases l <;> exact False.elim h.2.2
     | cons y l=>simp only [Aw,Qk]
   rw [e2,Qk]; grind
  | [w],[],h=>h.elim
  | [w],_::_::_,h=>h.elim
  | [],_::_,h=>h.elim
  | [w,v],[f],h=>h.2.elim
  | [w,v],_::_::_::_,h=>h.2.elim
  | w::v::x::l,[f],h=>h.2.elim
  | w::v::l,[],h=>h.elim
end Orq
