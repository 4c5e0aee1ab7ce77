/- F3 F4 F5 T1 T2 T3 T4 T5 T6 T7 T8 T9 T10 T11 T12 T13 -/
import Derived.Test.YtbnjginelkkonaaGreatPart05
set_option linter.all false

namespace Orr
open Go Go.Proofs
set_option maxRecDepth 10000
structure Tb (t:Tm):Prop where
  p:Pb t.p
  lo:Qb t.lo
  hi:Qb t.hi
theorem Qn0 (x y:Int):-1≤Ka x y∧Ka x y≤1:=by unfold Ka; split <;> (try split) <;> omega
theorem Rl (a b:Rat):-1≤Zw a b∧Zw a b≤1:=Qn0 _ _
theorem Hy (p:List Int) (q:Rat):-1≤Zx p q∧Zx p q≤1:=Qn0 _ _
theorem Qld (p:List Int) (q:Rat):-1≤low p q∧low p q≤1:=by unfold low; split <;> exact Hy _ _
theorem Qb.s31 {q:Rat} (h:Qb q):Qs 2147483647 q:=h.mono (by decide)
theorem Qb.s32 {q:Rat} (h:Qb q):Qs 4294967295 q:=h.mono (by decide)
theorem Aj {p:List Int} {q:Rat} (hp:Pb p) (hq:Qb q):Qc Tryz.prog 192 [pr p,.agg (rl q)] [.one (.int .i64 (Zx p q))]:=by
  have hm:p.length*(16777216+1)≤64*16777217:=Nat.mul_le_mul_right _ hp.l
  exact Qm9 hp.t hp.ln hp.b hq (by omega)
theorem Q9k {p:List Int} {q:Rat} (hp:Pb p) (hq:Qb q):Qc Tryz.prog 192 [pr (Zm p),.agg (rl q)] [.one (.int .i64 (Zx (Zm p) q))]:=by
  have hl:=Nat.le_trans (Ys p) (show p.length-1≤64 by have:=hp.l; omega)
  have hm:(Zm p).length*(16777216+1)≤64*16777217:=Nat.mul_le_mul_right _ hl
  exact Qm9 (Za _ _) (Nat.lt_of_le_of_lt hl (by omega)) (Aw (t:=6) hp.b hp.l) hq (by omega)
theorem W7 {t:Tm} (ht:Tb t):Qc Tryz.prog 175 [.agg (ta t)] [.one (.bool t.point)] :=
  w tt Tryz.func175 rfl [.c [] (Fa ht.lo.s31 ht.hi.s31)] rfl rfl trivial
theorem Az {t:Tm} (ht:Tb t):Qc Tryz.prog 174 [.agg (ta t)] [.agg (ta t)] :=
  w tt Tryz.func174 rfl [.c [] (Xa ht.p.t ht.p.ln ht.p.bd),.c [] (Gd ht.lo.s32),.c [] (Gd ht.hi.s32)] rfl rfl trivial
theorem Quy {t:Tm} (ht:Tb t):Qc Tryz.prog 196 [.agg (ta t)] [.agg (ta t)]:=w tt Tryz.func196 rfl [.c [] (Az ht)] rfl rfl trivial
theorem Quf {p:List Int} {q:Rat} (hp:Pb p) (hq:Qb q):Qc Tryz.prog 193 [pr p,.agg (rl q)] [.one (.int .i64 (low p q))]:=by
  unfold low
  by_cases h:Zx p q=0
  · rw [if_neg (by simpa using h)]
    exact w tt Tryz.func193 rfl [.c [] (Aj hp hq),.f (by simpa using h),.c [] (Hd hp.ln hp.bd),.c [] (Q9k hp hq)] rfl rfl trivial
  · rw [if_pos h]
    exact w tt Tryz.func193 rfl [.c [] (Aj hp hq),.t (by simpa using h)] rfl rfl trivial
theorem Quc {p:List Int} {lo hi:Rat} (hp:Pb p) (hl:Qb lo) (hh:Qb hi):Qc Tryz.prog 177 [pr p,.agg (rl lo),.agg (rl hi)] [.one (.bool (B9 p lo hi))]:=by
  by_cases h:Zx p hi=0
  · exact w tt Tryz.func177 rfl [.c [] (Aj hp hh),.t (by simpa using h)] rfl (by simp [B9,h]) trivial
  · exact w tt Tryz.func177 rfl [.c [] (Aj hp hh),.f (by simpa using h),.c [] (Quf hp hl)] rfl (by simp [B9,h]) trivial
theorem Dz {t:Tm} {q:Rat} (ht:Tb t) (hq:Qb q):Qc Tryz.prog 133 [.agg (ta t),.agg (rl q)] [.one (.int .i64 (Qu t q))]:=by
  have cp:=W7 ht
  unfold Qu
  by_cases h1:t.point=true
  · rw [if_pos h1]
    exact w tt Tryz.func133 rfl [.c [] cp,.t h1,.c [] (Fa ht.lo.s31 hq.s31)] rfl rfl trivial
  rw [if_neg h1]
  have h1:t.point=false:=by simpa using h1
  have c1:=Fa hq.s31 ht.lo.s31
  have c2:=Fa hq.s31 ht.hi.s31
  by_cases h2:Zw q t.lo≤0
  · rw [if_pos h2]
    exact w tt Tryz.func133 rfl [.c [] cp,.f h1,.c [] c1,.t (by simpa using h2)] rfl rfl trivial
  rw [if_neg h2]
  by_cases h3:0<Zw q t.hi
  · rw [if_pos h3]
    exact w tt Tryz.func133 rfl [.c [] cp,.f h1,.c [] c1,.f (by simpa using h2),.c [] c2,.t (by simpa using h3)] rfl rfl trivial
  rw [if_neg h3]
  by_cases h4:Zx t.p q=0
  · rw [if_pos h4]
    exact w tt Tryz.func133 rfl [.c [] cp,.f h1,.c [] c1,.f (by simpa using h2),.c [] c2,.f (by simpa using h3),.c [] (Aj ht.p hq),.t (by simpa using h4)] rfl rfl trivial
  rw [if_neg h4]
  by_cases h5:Zx t.p q=low t.p t.lo
  · rw [if_pos h5]
    exact w tt Tryz.func133 rfl [.c [] cp,.f h1,.c [] c1,.f (by simpa using h2),.c [] c2,.f (by simpa using h3),.c [] (Aj ht.p hq),.f (by simpa using h4),.c [] (Quf ht.p ht.lo),.t (by simpa using h5)] rfl rfl trivial
  · rw [if_neg h5]
    exact w tt Tryz.func133 rfl [.c [] cp,.f h1,.c [] c1,.f (by simpa using h2),.c [] c2,.f (by simpa using h3),.c [] (Aj ht.p hq),.f (by simpa using h4),.c [] (Quf ht.p ht.lo),.f (by simpa using h5)] rfl rfl trivial
theorem Q1w (t:Tm) (q:Rat):-1≤Qu t q∧Qu t q≤1:=by
  unfold Qu
  have:=Rl t.lo q
  repeat' split
  all_goals omega
theorem Q13 (q:Rat):0<(q.den:Int):=by have:=q.den_pos; omega
theorem Q4w {a b:Rat} (ha:Qb a) (hb:Qb b):Qc Tryz.prog 268 [.agg (rl a),.agg (rl b)] [.agg (rl (mid a b))]:=by
  have h1:Qm (a.num*(b.den:Int))≤33554432:=Nat.le_trans (Q0 _ _) (by have:=ha.1; have:=hb.2; omega)
  have h2:Qm (b.num*(a.den:Int))≤33554432:=Nat.le_trans (Q0 _ _) (by have:=hb.1; have:=ha.2; omega)
  have h3:Qm ((a.den:Int)*(b.den:Int))≤33554432:=Nat.le_trans (Q0 _ _) (by have:=ha.2; have:=hb.2; omega)
  have h4:Qm (2:Int)≤2:=by decide
  have h5:Qm (a.num*(b.den:Int)+b.num*(a.den:Int))≤33554433:=Nat.le_trans (P7 _ _) (by omega)
  have h6:Qm ((a.den:Int)*(b.den:Int)*2)≤33554434:=Nat.le_trans (Q0 _ _) (by omega)
  have h0:(a.den:Int)*(b.den:Int)*2≠0:=by
    have:=Int.mul_pos (Q13 a) (Q13 b); omega
  exact w tt Tryz.func268 rfl [.c [] (Qeg ha.s31 hb.s31),.c [] (Nb (Qe _) (Qe _) (by omega) (by omega)),.c [] (Qbm (z:=2) (by decide)),.c [] (Wg (Qe _) (Qe _) (by omega) (by omega)),.c [] (Tw h0 (by omega) (by omega))] rfl rfl trivial
theorem Qek {a b:Rat} (ha:Qb a) (hb:Qb b):Qc Tryz.prog 227 [.agg (rl a),.agg (rl b)] [.agg (rl (Qba a b))]:=by
  have h1:Qm (a.num*(b.den:Int))≤33554432:=Nat.le_trans (Q0 _ _) (by have:=ha.1; have:=hb.2; omega)
  have h2:Qm (b.num*(a.den:Int))≤33554432:=Nat.le_trans (Q0 _ _) (by have:=hb.1; have:=ha.2; omega)
  have h3:Qm ((a.den:Int)*(b.den:Int))≤33554432:=Nat.le_trans (Q0 _ _) (by have:=ha.2; have:=hb.2; omega)
  have h5:Qm (a.num*(b.den:Int)-b.num*(a.den:Int))≤33554433:=Nat.le_trans (Qe6 _ _) (by omega)
  have h0:(a.den:Int)*(b.den:Int)≠0:=by
    have:=Int.mul_pos (Q13 a) (Q13 b); omega
  exact w tt Tryz.func227 rfl [.c [] (Qeg ha.s31 hb.s31),.c [] (Qt5 (Qe _) (Qe _) (by omega) (by omega)),.c [] (Tw h0 (by omega) (by omega))] rfl rfl trivial
theorem Og {q r:Rat} (h:chq q=some r):r=q∧Qb q:=by
  unfold chq at h
  split at h
  · rename_i hc; injection h with h; exact ⟨h.symm,hc⟩
  · cases h
theorem Qkj {t u:Tm} (ht:Tb t) (h:Qez t=some u):Qc Tryz.prog 228 [.agg (ta t)] [.agg (ta u)]:=by
  have cp:=W7 ht
  unfold Qez at h
  split at h
  · rename_i h1
    injection h with h; subst h
    exact w tt Tryz.func228 rfl [.c [] cp,.t h1] rfl rfl trivial
  · rename_i h1
    have h1:t.point=false:=by simpa using h1
    obtain ⟨m,hm0,h⟩:=Option.bind_eq_some_iff.1 h
    obtain ⟨rfl,hm⟩:=Og hm0
    injection h with h
    subst h
    have cm:=Q4w ht.lo ht.hi
    have cc:=Dz ht hm
    by_cases h2:Qu t (mid t.lo t.hi)=0
    · rw [if_pos h2]
      exact w tt Tryz.func228 rfl [.c [] cp,.f h1,.c [] cm,.c [] cc,.t (by simpa using h2)] rfl rfl trivial
    rw [if_neg h2]
    by_cases h3:Qu t (mid t.lo t.hi)=-1
    · rw [if_pos h3]
      exact w tt Tryz.func228 rfl [.c [] cp,.f h1,.c [] cm,.c [] cc,.f (by simpa using h2),.t (by simpa using h3)] rfl rfl trivial
    · rw [if_neg h3]
      exact w tt Tryz.func228 rfl [.c [] cp,.f h1,.c [] cm,.c [] cc,.f (by simpa using h2),.f (by simpa using h3)] rfl rfl trivial
theorem Qf7 {t u:Tm} (ht:Tb t) (h:Qez t=some u):Tb u:=by
  unfold Qez at h
  split at h
  · injection h with h; subst h; exact ht
  · obtain ⟨m,hm0,h⟩:=Option.bind_eq_some_iff.1 h
    obtain ⟨rfl,hm⟩:=Og hm0
    injection h with h
    subst h
    repeat' split
    · exact ⟨ht.p,hm,hm⟩
    · exact ⟨ht.p,ht.lo,hm⟩
    · exact ⟨ht.p,hm,ht.hi⟩
theorem Rf {z:Int} (h:Qm z≤4294967296):Qc Tryz.prog 266 [.one (mg z)] [.one (.int .i64 (Qm z:Int))]:=by
  have h1:=Qj7 (l:=Qx z.natAbs) (Ug _) (by rw [Zh]; exact h)
  rw [Zh] at h1; exact h1
theorem Qa4 {p:List Int} {i:Nat} {z:Int} (h:p[i]? = some z):Zq (p.take (i+1))=max (Zq (p.take i)) (Qm z):=by
  unfold Zq; rw [List.take_succ,h,Option.toList_some,List.foldl_append]; rfl
theorem Yv {p:List Int} {s:Nat} (h:Bd s p):∀ i,Zq (p.take i)≤s
  | 0=>by simp [Zq]
  |
   i+1=>by
   cases hz:p[i]? with
   |
    none =>
    rw [List.take_of_length_le (by have:=List.getElem?_eq_none_iff.1 hz; omega),←List.take_of_length_le (l:=p) (i:=i) (by have:=List.getElem?_eq_none_iff.1 hz; omega)]
    exact Yv h i
   | some z=>rw [Qa4 hz]; have:=Yv h i; have:=Qs5 h hz; omega
theorem Qem {p:List Int} (hp:Pb p):Qc Tryz.prog 267 [pr p] [.one (.int .i64 (Zq p:Int))]:=by
  have hl:=hp.l
  refine Zy Tryz.func267 rfl ?_
  refine go tt [] rfl trivial ?_
  refine lp (S:=Nat) 0 (fun L1 i=>(8,.v (.one (.int .i64 (i:Int))))::(3,.v (.one (.int .i64 (Zq (p.take i):Int))))::L1) (fun _=>[]) (fun i=>p.length-i) (fun i=>i≤p.length) 0 (Nat.zero_le _) rfl (fun _ _=>rfl) rfl fun i hi=>?_
  by_cases hlt:i<p.length
  · have hg:=Xj hlt
    have hz:=Qq hp.b i
    have hs:=Qa4 hg
    refine go tt [.t (by simp; omega),.x (J4 hg),.c [] (Rf (by omega)),.r 16 (eI (b:=(Zq (p.take (i+1)):Int)) (by rw [hs]; omega))] rfl (by simp [Qa]; omega) ?_
    exact rd (i+1) (by omega) hlt rfl
  · obtain rfl:i=p.length:=by omega
    rw [List.take_length]
    exact en tt [.f (by simp)] rfl rfl trivial
theorem Q1s {a:Tm} {b:Tm} (ha:Tb a) (hb:Tb b):Qc Tryz.prog 226 [.agg (ta a),.agg (ta b)] [.one (.int .i64 (Yi a b:Nat))]:=by
  have l1:=ha.p.l
  have l2:=hb.p.l
  have b1:=ha.lo.1
  have b2:=ha.hi.1
  have b3:=hb.lo.1
  have b4:=hb.hi.1
  have s1:Zq a.p≤16777216:=by have:=Yv ha.p.b a.p.length; rwa [List.take_length] at this
  have s2:Zq b.p≤16777216:=by have:=Yv hb.p.b b.p.length; rwa [List.take_length] at this
  obtain ⟨N,hN⟩:∃ N,N=4*(a.p.length+b.p.length):=⟨_,rfl⟩
  obtain ⟨S,hS⟩:∃ S,S=Zq a.p+Zq b.p+(a.p.length+b.p.length)+8:=⟨_,rfl⟩
  have hNS:N*S≤512*33554568:=Nat.mul_le_mul (by omega) (by omega)
  have h0:(N:Int)*(S:Int)=((N*S:Nat):Int):=(Int.natCast_mul _ _).symm
  have hst:Yi a b=64+2*(Qm a.lo.num+Qm a.hi.num+Qm b.lo.num+Qm b.hi.num)+N*S:=by rw [hN,hS]; rfl
  rw [hst]
  exact w tt Tryz.func226 rfl [.c [] (Rf (z:=a.lo.num) (by omega)),.c [] (Rf (z:=a.hi.num) (by omega)),.c [] (Rf (z:=b.lo.num) (by omega)),.c [] (Rf (z:=b.hi.num) (by omega)),.r 41 (eI (b:=(N:Int)) (by rw [hN]; simp)),.c [] (Qem ha.p),.c [] (Qem hb.p),.r 51 (eI (b:=(S:Int)) (by rw [hS]; simp)),.r 52 (eI (b:=((N*S:Nat):Int)) h0)] rfl (by simp) (by rw [h0]; simp [Qa]; omega)
def Qml (p:List Int) (a:Tm):Nat:=64+2*(Qm a.lo.num+Qm a.hi.num)+4*(a.p.length+p.length)*(Zq a.p+Zq p+(a.p.length+p.length)+8)
theorem Qm6:Qc Tryz.prog 266 [lr []] [.one (.int .i64 0)]:=Qj7 (l:=[]) (by simp [Sm]) (by decide)
theorem Qux {a:Tm} {p:List Int} (ha:Tb a) (hp:Pb p):Qc Tryz.prog 226 [.agg (ta a),.agg ([pl p,.bool false,.row [],.bool false,.row [],.bool false,.row [],.bool false,.row []])] [.one (.int .i64 (Qml p a:Nat))]:=by
  have l1:=ha.p.l
  have l2:=hp.l
  have b1:=ha.lo.1
  have b2:=ha.hi.1
  have s1:Zq a.p≤16777216:=by have:=Yv ha.p.b a.p.length; rwa [List.take_length] at this
  have s2:Zq p≤16777216:=by have:=Yv hp.b p.length; rwa [List.take_length] at this
  obtain ⟨N,hN⟩:∃ N,N=4*(a.p.length+p.length):=⟨_,rfl⟩
  obtain ⟨S,hS⟩:∃ S,S=Zq a.p+Zq p+(a.p.length+p.length)+8:=⟨_,rfl⟩
  have hNS:N*S≤512*33554568:=Nat.mul_le_mul (by omega) (by omega)
  have h0:(N:Int)*(S:Int)=((N*S:Nat):Int):=(Int.natCast_mul _ _).symm
  have hst:Qml p a=64+2*(Qm a.lo.num+Qm a.hi.num)+N*S:=by rw [hN,hS]; rfl
  rw [hst]
  exact w tt Tryz.func226 rfl [.c [] (Rf (z:=a.lo.num) (by omega)),.c [] (Rf (z:=a.hi.num) (by omega)),.c [] Qm6,.c [] Qm6,.r 41 (eI (b:=(N:Int)) (by rw [hN]; simp)),.c [] (Qem ha.p),.c [] (Qem hp),.r 51 (eI (b:=(S:Int)) (by rw [hS]; simp)),.r 52 (eI (b:=((N*S:Nat):Int)) h0)] rfl (by simp) (by rw [h0]; simp [Qa]; omega)
end Orr

namespace Orr
open Go Go.Proofs
set_option maxRecDepth 10000
def Mw (sg:List Int→Int) (l:List (List Int)) (i:Nat):Nat×Int:=(l.take i).foldl (Ya sg) (0,0)
theorem Qgb {sg:List Int→Int} (hs:∀ p,-1≤sg p∧sg p≤1) (l:List (List Int)):∀ i,(Mw sg l i).1≤i∧-1≤(Mw sg l i).2∧(Mw sg l i).2≤1
  | 0=>⟨Nat.le_refl _,show (-1:Int)≤0 by decide,show (0:Int)≤1 by decide⟩
  |
   i+1=>by
   obtain ⟨h1,h2,h3⟩:=Qgb hs l i
   cases h:l[i]? with
   |
    none =>
    have:Mw sg l (i+1)=Mw sg l i:=by unfold Mw; rw [List.take_of_length_le (by have:=List.getElem?_eq_none_iff.1 h; omega),List.take_of_length_le (List.getElem?_eq_none_iff.1 h)]
    rw [this]; omega
   |
    some p =>
    have:Mw sg l (i+1)=Ya sg (Mw sg l i) p:=Ul _ _ _ h
    rw [this]
    have:=hs p
    unfold Ya
    split
    · omega
    · dsimp only; split <;> omega
theorem Q1t {l:List (List Int)} {fid:Nat} {l1:List LV} {sg:List Int→Int} (hl:l.length≤1000) (hs:∀ p,-1≤sg p∧sg p≤1) (h:∀ p∈l,Qc Tryz.prog fid [pr p,.one (.sh l1)] [.one (.int .i64 (sg p))]):Qc Tryz.prog 300 [.one (.sh [.row (Jw l)]),.one (.fn fid [] [.sh l1])] [.one (.int .i64 (V8 sg l:Nat))]:=by
  have hpl:=U4 l
  refine Zy Tryz.func300 rfl ?_
  refine go tt [] rfl trivial ?_
  refine lp (S:=Nat) 0 (fun L1 i=>(15,.v (.one (.int .i64 (i:Int))))::(5,.v (.one (.int .i64 ((Mw sg l i).1:Int))))::(6,.v (.one (.int .i64 (Mw sg l i).2)))::L1) (fun _=>[]) (fun i=>l.length-i) (fun i=>i≤l.length) 0 (Nat.zero_le _) rfl (fun _ _=>rfl) rfl fun i hi=>?_
  by_cases hlt:i<l.length
  · obtain ⟨p,hp⟩:∃ p,l[i]? = some p:=⟨_,List.getElem?_eq_getElem hlt⟩
    have hst:Mw sg l (i+1)=Ya sg (Mw sg l i) p:=Ul _ _ _ hp
    obtain ⟨b1,b2,b3⟩:=Qgb hs l i
    have b4:=hs p
    by_cases h0:sg p=0
    · refine go tt [.t (by simp [hpl]; omega),.x (Xo hp),.c [] (h p (List.mem_of_getElem? hp)),.t (by simpa using h0)] rfl (by simp [Qa]; omega) ?_
      exact rd (i+1) (by omega) hlt (by rw [hst,show Ya sg (Mw sg l i) p=Mw sg l i from by unfold Ya; rw [if_pos h0]]; rfl)
    · by_cases h1:(Mw sg l i).2=-(sg p)
      · refine go tt [.t (by simp [hpl]; omega),.x (Xo hp),.c [] (h p (List.mem_of_getElem? hp)),.f (by simpa using h0),.t (by simpa using h1)] rfl (by simp [Qa]; omega) ?_
        exact rd (i+1) (by omega) hlt (by rw [hst,show Ya sg (Mw sg l i) p=((Mw sg l i).1+1,sg p) from by unfold Ya; rw [if_neg h0,if_pos h1]]; rfl)
      · refine go tt [.t (by simp [hpl]; omega),.x (Xo hp),.c [] (h p (List.mem_of_getElem? hp)),.f (by simpa using h0),.f (by simpa using h1)] rfl (by simp [Qa]; omega) ?_
        exact rd (i+1) (by omega) hlt (by rw [hst,show Ya sg (Mw sg l i) p=((Mw sg l i).1,sg p) from by unfold Ya; rw [if_neg h0,if_neg h1]]; rfl)
  · obtain rfl:i=l.length:=by omega
    refine en tt [.f (by simp [hpl])] rfl ?_ trivial
    unfold Mw V8; rw [List.take_length]
theorem Qt3 {p:List Int} {q:Rat} (hp:Pb p) (hq:Qb q):Qc Tryz.prog 301 [pr p,.one (.sh (rl q))] [.one (.int .i64 (Zx p q))]:=w tt Tryz.func301 rfl [.c [] (Aj hp hq)] rfl rfl trivial
theorem Qne {l:List (List Int)} {q:Rat} (hl:l.length≤1000) (hp:∀ p∈l,Pb p) (hq:Qb q):Qc Tryz.prog 273 [.one (.sh [.row (Jw l)]),.agg (rl q)] [.one (.int .i64 (Kw l q:Nat))] :=
  w tt Tryz.func273 rfl [.c [] (Q1t (fid:=301) (l1:=rl q) (sg:=fun p=>Zx p q) hl (fun p=>Hy p q) fun p h=>Qt3 (hp p h) hq)] rfl rfl trivial
theorem Uh {sg:List Int→Int} (hs:∀ p,-1≤sg p∧sg p≤1) (l:List (List Int)):V8 sg l≤l.length:=by
  have:=(Qgb hs l l.length).1
  unfold Mw at this; rwa [List.take_length] at this
theorem Qb2 {l:List (List Int)} {lo hi:Rat} (hl:l.length≤1000) (hp:∀ p∈l,Pb p) (ql:Qb lo) (qh:Qb hi):Qc Tryz.prog 231 [.one (.sh [.row (Jw l)]),.agg (rl lo),.agg (rl hi)] [.one (.int .i64 (X7 l lo hi))]:=by
  have b1:Kw l lo≤l.length:=Uh (fun p=>Hy p lo) l
  have b2:Kw l hi≤l.length:=Uh (fun p=>Hy p hi) l
  have c1:=Fa qh.s31 ql.s31
  unfold X7
  by_cases h:Zw hi lo<0
  · rw [if_pos h]
    exact w tt Tryz.func231 rfl [.c [] c1,.t (by simpa using h)] rfl rfl trivial
  · rw [if_neg h]
    exact w tt Tryz.func231 rfl [.c [] c1,.f (by simpa using h),.c [] (Qne hl hp ql),.c [] (Qne hl hp qh)] rfl rfl (by simp [Qa]; omega)
def zTm:List LV:=[.nils,.bool false,.nils,.bool false,.nils,.bool false,.nils,.bool false,.nils]
theorem Qsg {a b:Tm} (ha:Tb a) (hb:Tb b):Yi a b≤17179938816+200000000:=by
  have l1:=ha.p.l
  have l2:=hb.p.l
  have b1:=ha.lo.1
  have b2:=ha.hi.1
  have b3:=hb.lo.1
  have b4:=hb.hi.1
  have s1:Zq a.p≤16777216:=by have:=Yv ha.p.b a.p.length; rwa [List.take_length] at this
  have s2:Zq b.p≤16777216:=by have:=Yv hb.p.b b.p.length; rwa [List.take_length] at this
  have:4*(a.p.length+b.p.length)*(Zq a.p+Zq b.p+(a.p.length+b.p.length)+8)≤512*33554568:=Nat.mul_le_mul (by omega) (by omega)
  unfold Yi; omega
theorem Q3j {a b:Rat} (ha:Qb a) (hb:Qb b):Qs 2147483647 (Qba a b):=by
  have h1:Qm (a.num*(b.den:Int))≤33554432:=Nat.le_trans (Q0 _ _) (by have:=ha.1; have:=hb.2; omega)
  have h2:Qm (b.num*(a.den:Int))≤33554432:=Nat.le_trans (Q0 _ _) (by have:=hb.1; have:=ha.2; omega)
  have h3:Qm ((a.den:Int)*(b.den:Int))≤33554432:=Nat.le_trans (Q0 _ _) (by have:=ha.2; have:=hb.2; omega)
  have h5:Qm (a.num*(b.den:Int)-b.num*(a.den:Int))≤33554433:=Nat.le_trans (Qe6 _ _) (by omega)
  exact (Qs.divInt (s:=33554433) h5 (by omega) (by omega)).mono (by omega)
theorem Qed {a b:Tm} {r:Tm×Tm×Int} (ha:Tb a) (hb:Tb b) (h:apF (Yi a b) a b=some r):Qc Tryz.prog 178 [.agg (ta a),.agg (ta b)] [.agg (ta r.1),.agg (ta r.2.1),.one (.int .i64 r.2.2)]:=by
  have hsb:=Qsg ha hb
  refine Zy Tryz.func178 rfl ?_
  refine go tt [.c [] (Q1s ha hb)] rfl trivial ?_
  obtain ⟨n,hn⟩:∃ n,n=Yi a b:=⟨_,rfl⟩
  rw [←hn] at h hsb ⊢
  refine sb [(10,.v (.one (.int .i64 0))),(9,.v (.one (.int .i64 (n:Int)))),(5,.v (.one (.ow 3 0))),(4,.v (.one (.ow 2 0))),(3,.v (.one (.ow 1 0))),(2,.v (.one (.ow 0 0)))] [.blk 67 (ta a),.blk 67 (ta b),.blk 67 zTm,.blk 67 zTm] rfl rfl ?_
  refine lp (S:=Nat×Tm×Tm) 4 (fun L1 s=>(10,.v (.one (.int .i64 (s.1:Int))))::L1) (fun s=>[.blk 67 (ta s.2.1),.blk 67 (ta s.2.2),.blk 67 zTm,.blk 67 zTm]) (fun s=>n-s.1) (fun s=>s.1≤n∧Tb s.2.1∧Tb s.2.2∧apF (n-s.1) s.2.1 s.2.2=some r) (0,a,b) ⟨Nat.zero_le _,ha,hb,h⟩ rfl (fun _ _=>rfl) rfl fun ⟨i,u,v⟩ ⟨j1,j2,j3,j4⟩=>?_
  dsimp only at j1 j2 j3 j4 ⊢
  by_cases hi:i<n
  · obtain ⟨k,hk⟩:∃ k,n-i=k+1:=⟨n-i-1,by omega⟩
    have hk':n-(i+1)=k:=by omega
    rw [hk] at j4
    have c1:=Fa j2.hi.s31 j3.lo.s31
    have c2:=Fa j3.hi.s31 j2.lo.s31
    have pu:=W7 j2
    have pv:=W7 j3
    have hlt:decide ((i:Int)<(n:Int))=true:=by simp; omega
    simp only [apF] at j4
    refine go tt [.t hlt] rfl trivial ?_
    refine ct 3 (S:=Unit) (fun _=>[(10,.v (.one (.int .i64 (i:Int)))),(9,.v (.one (.int .i64 (n:Int)))),(5,.v (.one (.ow 3 0))),(4,.v (.one (.ow 2 0))),(3,.v (.one (.ow 1 0))),(2,.v (.one (.ow 0 0)))]) (fun _=>[.blk 67 (ta u),.blk 67 (ta v),.blk 67 zTm,.blk 67 zTm]) (fun _=>¬K6 u v=true∧¬K6 v u=true) rfl ?_ ?_
    · have bA:K6 u v=(decide (Zw u.hi v.lo≤0) && !(u.point && v.point && decide (Zw u.hi v.lo=0))):=by
        unfold K6; cases u.point <;> cases v.point <;> simp
      have bB:K6 v u=(decide (Zw v.hi u.lo≤0) && !(u.point && v.point && decide (Zw v.hi u.lo=0))):=by
        unfold K6; cases u.point <;> cases v.point <;> simp
      obtain ⟨a0,A'⟩:∃ b,decide (Zw u.hi v.lo≤0)=b:=⟨_,rfl⟩
      obtain ⟨b0,B'⟩:∃ b,decide (Zw v.hi u.lo≤0)=b:=⟨_,rfl⟩
      obtain ⟨p0,P'⟩:∃ b,u.point=b:=⟨_,rfl⟩
      obtain ⟨q0,Q'⟩:∃ b,v.point=b:=⟨_,rfl⟩
      obtain ⟨x0,X'⟩:∃ b,decide (Zw u.hi v.lo=0)=b:=⟨_,rfl⟩
      obtain ⟨y0,Y'⟩:∃ b,decide (Zw v.hi u.lo=0)=b:=⟨_,rfl⟩
      rw [A',P',Q',X'] at bA
      rw [B',P',Q',Y'] at bB
      have r1:K6 u v=true→(u,v,-1)=r:=fun h=>by rw [if_pos h] at j4; injection j4
      have r2:¬K6 u v=true→K6 v u=true→(u,v,1)=r:=fun h h'=>by rw [if_neg h,if_pos h'] at j4; injection j4
      clear j4
      cases a0
      · cases b0
        · exact go tt [.c [] c1,.g 19 false A',.f rfl,.c [] c2,.g 45 false B',.f rfl] rfl trivial (rc () ⟨by rw [bA]; simp,by rw [bB]; simp⟩ rfl)
        · cases p0
          · obtain rfl:=r2 (by rw [bA]; simp) (by rw [bB]; rfl)
            exact en tt [.c [] c1,.g 19 false A',.f rfl,.c [] c2,.g 45 true B',.c [] pu,.g 48 false P',.g 52 false rfl,.t rfl] rfl rfl trivial
          · cases q0
            · obtain rfl:=r2 (by rw [bA]; simp) (by rw [bB]; rfl)
              exact en tt [.c [] c1,.g 19 false A',.f rfl,.c [] c2,.g 45 true B',.c [] pu,.g 48 true P',.c [] pv,.g 52 false Q',.t rfl] rfl rfl trivial
            · cases y0
              · obtain rfl:=r2 (by rw [bA]; simp) (by rw [bB]; rfl)
                exact en tt [.c [] c1,.g 19 false A',.f rfl,.c [] c2,.g 45 true B',.c [] pu,.g 48 true P',.c [] pv,.g 52 true Q',.c [] c2,.t (by simpa using Y')] rfl rfl trivial
              · exact go tt [.c [] c1,.g 19 false A',.f rfl,.c [] c2,.g 45 true B',.c [] pu,.g 48 true P',.c [] pv,.g 52 true Q',.c [] c2,.f (by simpa using Y')] rfl trivial (rc () ⟨by rw [bA]; simp,by rw [bB]; simp⟩ rfl)
      · cases p0
        · obtain rfl:=r1 (by rw [bA]; rfl)
          exact en tt [.c [] c1,.g 19 true A',.c [] pu,.g 22 false P',.g 26 false rfl,.t rfl] rfl rfl trivial
        · cases q0
          · obtain rfl:=r1 (by rw [bA]; rfl)
            exact en tt [.c [] c1,.g 19 true A',.c [] pu,.g 22 true P',.c [] pv,.g 26 false Q',.t rfl] rfl rfl trivial
          · cases x0
            · obtain rfl:=r1 (by rw [bA]; rfl)
              exact en tt [.c [] c1,.g 19 true A',.c [] pu,.g 22 true P',.c [] pv,.g 26 true Q',.c [] c1,.t (by simpa using X')] rfl rfl trivial
            · cases b0
              · exact go tt [.c [] c1,.g 19 true A',.c [] pu,.g 22 true P',.c [] pv,.g 26 true Q',.c [] c1,.f (by simpa using X'),.c [] c2,.g 45 false B',.f rfl] rfl trivial (rc () ⟨by rw [bA]; simp,by rw [bB]; simp⟩ rfl)
              · cases y0
                · obtain rfl:=r2 (by rw [bA]; simp) (by rw [bB]; rfl)
                  exact en tt [.c [] c1,.g 19 true A',.c [] pu,.g 22 true P',.c [] pv,.g 26 true Q',.c [] c1,.f (by simpa using X'),.c [] c2,.g 45 true B',.c [] pu,.g 48 true P',.c [] pv,.g 52 true Q',.c [] c2,.t (by simpa using Y')] rfl rfl trivial
                · exact go tt [.c [] c1,.g 19 true A',.c [] pu,.g 22 true P',.c [] pv,.g 26 true Q',.c [] c1,.f (by simpa using X'),.c [] c2,.g 45 true B',.c [] pu,.g 48 true P',.c [] pv,.g 52 true Q',.c [] c2,.f (by simpa using Y')] rfl trivial (rc () ⟨by rw [bA]; simp,by rw [bB]; simp⟩ rfl)
    · rintro _ ⟨n1,n2⟩
      rw [if_neg n1,if_neg n2] at j4
      have qr:∀ {x y:Rat},Qb x→Qb y→Qs 2147483647 (Qba x y):=fun h1 h2=>Q3j h1 h2
      have cc:=Fa (qr j2.hi j2.lo) (qr j3.hi j3.lo)
      by_cases D:0≤Zw (Qba u.hi u.lo) (Qba v.hi v.lo)
      · rw [if_pos D] at j4
        obtain ⟨x,x1,x2⟩:=Option.bind_eq_some_iff.1 j4
        refine go tt [.c [] (Qek j2.hi j2.lo),.c [] (Qek j3.hi j3.lo),.c [] cc,.t (by simpa using D),.c [] (Qkj j2 x1)] rfl (by simp [Qa]; omega) ?_
        exact rd (i+1,x,v) (by dsimp only; omega) ⟨hi,Qf7 j2 x1,j3,by dsimp only; rw [hk']; exact x2⟩ rfl
      · rw [if_neg D] at j4
        obtain ⟨x,x1,x2⟩:=Option.bind_eq_some_iff.1 j4
        refine go tt [.c [] (Qek j2.hi j2.lo),.c [] (Qek j3.hi j3.lo),.c [] cc,.f (by simpa using D),.c [] (Qkj j3 x1)] rfl (by simp [Qa]; omega) ?_
        exact rd (i+1,u,x) (by dsimp only; omega) ⟨hi,j2,Qf7 j3 x1,by dsimp only; rw [hk']; exact x2⟩ rfl
  · obtain rfl:i=n:=by omega
    rw [Nat.sub_self] at j4
    simp only [apF] at j4
    injection j4 with j4; subst j4
    exact en tt [.f (by simp)] rfl rfl trivial
end Orr

namespace Orr
open Go Go.Proofs
set_option maxRecDepth 10000
theorem Q1o {a b:Rat} (ha:Qb a) (hb:Qb b):Qc Tryz.prog 82 [.agg (rl a),.one (.row [rl b])] [.agg (rl (if 0<Zw b a then b else a))]:=by
  have ca:=Bp (Qe a.num) (Qe (a.den:Int)) ha.s32.1 ha.s32.2
  have cb:=Bp (Qe b.num) (Qe (b.den:Int)) hb.s32.1 hb.s32.2
  rw [Tc] at ca cb
  have cc:=Fa hb.s31 ha.s31
  refine Zy Tryz.func82 rfl ?_
  refine go tt [.c [] ca] rfl trivial ?_
  refine lp (S:=Nat) 3 (fun L1 i=>(12,.v (.one (.int .i64 (i:Int))))::L1) (fun i=>[.blk 41 (rl a),.blk 41 [.bool false,.nils,.bool false,.nils],.blk 41 (rl (if i=0 then a else if 0<Zw b a then b else a))]) (fun i=>1-i) (fun i=>i≤1) 0 (Nat.zero_le _) rfl (fun _ _=>rfl) rfl fun i hi=>?_
  rcases (show i=0∨i=1 by omega) with rfl | rfl
  · by_cases h:0<Zw b a
    · refine go tt [.t rfl,.x (i:=0) (xs:=rl b) rfl,.c [] cc,.t (by simpa using h),.c [] cb] rfl (by simp [Qa]) ?_
      exact rd 1 (by omega) (by omega) (by rw [if_pos h]; rfl)
    · refine go tt [.t rfl,.x (i:=0) (xs:=rl b) rfl,.c [] cc,.f (by simpa using h)] rfl (by simp [Qa]) ?_
      exact rd 1 (by omega) (by omega) (by rw [if_neg h]; rfl)
  · exact en tt [.f rfl] rfl rfl trivial
theorem I3 {a b:Tm} {c:Int} (ha:Tb a) (hb:Tb b) (h:D6 a b=some c):Qc Tryz.prog 125 [.agg (ta a),.agg (ta b)] [.one (.int .i64 c)]:=by
  have ca:=Az ha
  have cb:=Az hb
  have pa:=W7 ha
  have pb:=W7 hb
  unfold D6 at h
  by_cases h1:a.point=true
  · rw [if_pos h1] at h
    injection h with h; subst h
    have:=Q1w b a.lo
    exact w tt Tryz.func125 rfl [.c [] ca,.c [] cb,.c [] pa,.t h1,.c [] (Dz hb ha.lo)] rfl rfl (by simp [Qa]; omega)
  rw [if_neg h1] at h
  have h1:a.point=false:=by simpa using h1
  by_cases h2:b.point=true
  · rw [if_pos h2] at h
    injection h with h; subst h
    exact w tt Tryz.func125 rfl [.c [] ca,.c [] cb,.c [] pa,.f h1,.c [] pb,.t h2,.c [] (Dz ha hb.lo)] rfl rfl trivial
  rw [if_neg h2] at h
  have h2:b.point=false:=by simpa using h2
  obtain ⟨lo,hlo⟩:∃ lo,lo=if 0<Zw b.lo a.lo then b.lo else a.lo:=⟨_,rfl⟩
  obtain ⟨hi,hhi⟩:∃ hi,hi=if Zw b.hi a.hi<0 then b.hi else a.hi:=⟨_,rfl⟩
  have h:(if Zw lo hi<0 then (Qfo a.p b.p).bind fun g=>if 1<g.length∧B9 g lo hi=true then some 0 else (apF (Yi a b) a b).bind fun r=>some r.2.2 else (apF (Yi a b) a b).bind fun r=>some r.2.2)=some c:=by rw [hlo,hhi]; exact h
  have qlo:Qb lo:=by rw [hlo]; split; exact hb.lo; exact ha.lo
  have qhi:Qb hi:=by rw [hhi]; split; exact hb.hi; exact ha.hi
  have cm:=Q1o ha.lo hb.lo
  rw [←hlo] at cm
  have cc1:=Fa hb.hi.s31 ha.hi.s31
  have cc2:=Fa qlo.s31 qhi.s31
  refine Zy Tryz.func125 rfl ?_
  refine go tt [.c [] ca,.c [] cb,.c [] pa,.f h1,.c [] pb,.f h2,.c [] cm] rfl trivial ?_
  refine ct 2 (S:=Unit) (fun _=>[(6,.v (.one (.ow 3 0))),(5,.v (.one (.ow 2 0))),(4,.v (.one (.int .i64 0))),(3,.v (.one (.ow 1 0))),(2,.v (.one (.ow 0 0)))]) (fun _=>[.blk 67 (ta a),.blk 67 (ta b),.blk 41 (rl lo),.blk 41 (rl hi)]) (fun _=>True) rfl ?_ ?_
  · by_cases D:Zw b.hi a.hi<0
    · rw [if_pos D] at hhi; subst hhi
      exact go tt [.c [] cc1,.t (by simpa using D)] rfl trivial (rc () trivial rfl)
    · rw [if_neg D] at hhi; subst hhi
      exact go tt [.c [] cc1,.f (by simpa using D)] rfl trivial (rc () trivial rfl)
  · rintro _ _
    by_cases D:Zw lo hi<0
    · rw [if_pos D] at h
      obtain ⟨g,g1,h⟩:=Option.bind_eq_some_iff.1 h
      have cg:=Qtm ha.p hb.p g1
      have pg:=Qxj ha.p hb.p g1
      have ch:=Quc pg qlo qhi
      by_cases G:1<g.length
      · by_cases R:B9 g lo hi=true
        · rw [if_pos ⟨G,R⟩] at h
          injection h with h; subst h
          exact en tt [.c [] cc2,.t (by simpa using D),.c [] cg,.c [] (Vb g),.g 58 true (by simp; omega),.c [] ch,.t R] rfl rfl trivial
        · rw [if_neg fun h=>R h.2] at h
          obtain ⟨r,r1,h⟩:=Option.bind_eq_some_iff.1 h
          injection h with h; subst h
          exact en tt [.c [] cc2,.t (by simpa using D),.c [] cg,.c [] (Vb g),.g 58 true (by simp; omega),.c [] ch,.f (by simpa using R),.c [] (Qed ha hb r1)] rfl rfl trivial
      · rw [if_neg fun h=>G h.1] at h
        obtain ⟨r,r1,h⟩:=Option.bind_eq_some_iff.1 h
        injection h with h; subst h
        exact en tt [.c [] cc2,.t (by simpa using D),.c [] cg,.c [] (Vb g),.g 58 false (by simp; omega),.f rfl,.c [] (Qed ha hb r1)] rfl rfl trivial
    · rw [if_neg D] at h
      obtain ⟨r,r1,h⟩:=Option.bind_eq_some_iff.1 h
      injection h with h; subst h
      exact en tt [.c [] cc2,.f (by simpa using D),.c [] (Qed ha hb r1)] rfl rfl trivial
theorem Q0n {p:List Int} {a:Tm} {s:Int} (hp:Pb p) (ha:Tb a) (h:Qdu p a=some s):Qc Tryz.prog 181 [pr p,.agg (ta a)] [.one (.int .i64 s)]:=by
  have ca:=Az ha
  have pa:=W7 ha
  have cn:=Xa hp.t hp.ln hp.bd
  unfold Qdu at h
  by_cases h0:p.length=0
  · rw [if_pos h0] at h
    injection h with h; subst h
    exact w tt Tryz.func181 rfl [.c [] cn,.c [] ca,.t (by simp; exact List.eq_nil_of_length_eq_zero h0)] rfl rfl trivial
  rw [if_neg h0] at h
  have h0:p≠[]:=fun e=>h0 (by rw [e]; rfl)
  by_cases h1:a.point=true
  · rw [if_pos h1] at h
    injection h with h; subst h
    exact w tt Tryz.func181 rfl [.c [] cn,.c [] ca,.f (by simpa using h0),.c [] pa,.t h1,.c [] (Aj hp ha.lo)] rfl rfl trivial
  rw [if_neg h1] at h
  have h1:a.point=false:=by simpa using h1
  obtain ⟨g,g1,h⟩:=Option.bind_eq_some_iff.1 h
  have cg:=Qtm hp ha.p g1
  have pg:=Qxj hp ha.p g1
  have ch:=Quc pg ha.lo ha.hi
  by_cases G:1<g.length∧B9 g a.lo a.hi=true
  · rw [if_pos G] at h
    injection h with h; subst h
    exact w tt Tryz.func181 rfl [.c [] cn,.c [] ca,.f (by simpa using h0),.c [] pa,.f h1,.c [] cg,.c [] (Vb g),.g 29 true (by simp; omega),.c [] ch,.t G.2] rfl rfl trivial
  rw [if_neg G] at h
  obtain ⟨c,c1,h⟩:=Option.bind_eq_some_iff.1 h
  obtain ⟨u,u1,h⟩:=Option.bind_eq_some_iff.1 h
  injection h with h; subst h
  obtain ⟨cl,call⟩:=chain_ok hp c1
  obtain ⟨n,hn⟩:∃ n,n=64+2*(Qm a.lo.num+Qm a.hi.num)+4*(a.p.length+p.length)*(Zq a.p+Zq p+(a.p.length+p.length)+8):=⟨_,rfl⟩
  have cst:=Qux ha hp
  rw [show Qml p a=n from hn.symm] at cst
  rw [←hn] at u1
  have hnb:n≤17179938816+200000000:=by
    have l1:=ha.p.l
    have l2:=hp.l
    have b1:=ha.lo.1
    have b2:=ha.hi.1
    have s1:Zq a.p≤16777216:=by have:=Yv ha.p.b a.p.length; rwa [List.take_length] at this
    have s2:Zq p≤16777216:=by have:=Yv hp.b p.length; rwa [List.take_length] at this
    have:4*(a.p.length+p.length)*(Zq a.p+Zq p+(a.p.length+p.length)+8)≤512*33554568:=Nat.mul_le_mul (by omega) (by omega)
    omega
  refine Zy Tryz.func181 rfl ?_
  refine go tt [.c [] cn,.c [] ca,.f (by simpa using h0),.c [] pa,.f h1,.c [] cg] rfl trivial ?_
  refine ct 2 (S:=Unit) (fun _=>[(3,.v (.one (.ow 0 0))),(0,.v (pr p))]) (fun _=>[.blk 67 (ta a)]) (fun _=>True) rfl ?_ ?_
  · by_cases G1:1<g.length
    · exact go tt [.c [] (Vb g),.g 29 true (by simp; omega),.c [] ch,.f (by simpa using fun h=>G ⟨G1,h⟩)] rfl trivial (rc () trivial rfl)
    · exact go tt [.c [] (Vb g),.g 29 false (by simp; omega),.f rfl] rfl trivial (rc () trivial rfl)
  rintro _ _
  refine go tt [.c [] (Qty hp c1),.c [] cst] rfl trivial ?_
  refine lp (S:=Nat×Tm) 1 (fun L1 s=>(46,.v (.one (.int .i64 (s.1:Int))))::L1) (fun s=>[.blk 67 (ta s.2)]) (fun s=>n-s.1) (fun s=>s.1≤n∧Tb s.2∧sgF c (n-s.1) s.2=some u) (0,a) ⟨Nat.zero_le _,ha,u1⟩ rfl (fun _ _=>rfl) rfl fun ⟨i,x⟩ ⟨j1,j2,j3⟩=>?_
  dsimp only at j1 j2 j3 ⊢
  by_cases hi:i<n
  · obtain ⟨k,hk⟩:∃ k,n-i=k+1:=⟨n-i-1,by omega⟩
    have hk':n-(i+1)=k:=by omega
    rw [hk] at j3
    simp only [sgF] at j3
    have px:=W7 j2
    have cb:=Qb2 (by omega) call j2.lo j2.hi
    have hlt:decide ((i:Int)<(n:Int))=true:=by simp; omega
    by_cases X:x.point=true
    · rw [if_pos (.inl X)] at j3
      injection j3 with j3; subst j3
      exact en tt [.t hlt,.c [] px,.g 50 true X,.t rfl,.c [] (Aj hp j2.hi)] rfl rfl trivial
    · have X':x.point=false:=by simpa using X
      by_cases Z:X7 c x.lo x.hi=0
      · rw [if_pos (.inr Z)] at j3
        injection j3 with j3; subst j3
        exact en tt [.t hlt,.c [] px,.g 50 false X',.c [] cb,.t (by simpa using Z),.c [] (Aj hp j2.hi)] rfl rfl trivial
      · rw [if_neg (by rintro (h | h); exact X h; exact Z h)] at j3
        obtain ⟨v,v1,v2⟩:=Option.bind_eq_some_iff.1 j3
        refine go tt [.t hlt,.c [] px,.g 50 false X',.c [] cb,.f (by simpa using Z),.c [] (Qkj j2 v1)] rfl (by simp [Qa]; omega) ?_
        exact rd (i+1,v) (by dsimp only; omega) ⟨hi,Qf7 j2 v1,by dsimp only; rw [hk']; exact v2⟩ rfl
  · obtain rfl:i=n:=by omega
    rw [Nat.sub_self] at j3
    simp only [sgF] at j3
    injection j3 with j3; subst j3
    exact en tt [.f (by simp),.c [] (Aj hp j2.hi)] rfl rfl trivial
abbrev tas (l:List Tm):LV:=.row (l.map fun t=>ta t)
theorem Iu {l:List Tm} {i:Nat} {t:Tm} (h:l[i]? = some t):(l.map fun t=>ta t)[i]? = some (ta t):=Z4 h
def zTr:List LV:=[.row [],.bool false,.row [],.bool false,.row [],.bool false,.row [],.bool false,.row []]
theorem Qte:Qc Tryz.prog 136 [.one (.row [])] [.agg zTr,.one (.bool false)]:=w tt Tryz.func136 rfl [.t rfl] rfl rfl trivial
theorem Tu {b:Tm} {l:List Tm} {m:Tm} (hb:Tb b) (hl:∀ t∈l,Tb t) (hn:l.length≤1000000) (h:Rw b l=some m):Qc Tryz.prog 136 [.one (tas (b::l))] [.agg (ta m),.one (.bool true)]:=by
  refine Zy Tryz.func136 rfl ?_
  refine go tt [.f (by simp; omega),.x (i:=0) (xs:=ta b) rfl,.i 1] rfl (by simp [Qa]; exact ⟨rfl,fun _ _=>rfl⟩) ?_
  refine lp (S:=Nat×Tm) 2 (fun L1 s=>(17,.v (.one (.int .i64 (s.1:Int))))::L1) (fun s=>[.blk 67 zTm,.blk 67 (ta s.2)]) (fun s=>l.length-s.1) (fun s=>s.1≤l.length∧Tb s.2∧Rw s.2 (l.drop s.1)=some m) (0,b) ⟨Nat.zero_le _,hb,h⟩ rfl (fun _ _=>rfl) rfl fun ⟨i,x⟩ ⟨j1,j2,j3⟩=>?_
  dsimp only at j1 j2 j3 ⊢
  by_cases hi:i<l.length
  · obtain ⟨a,ha⟩:∃ a,l[i]? = some a:=⟨_,List.getElem?_eq_getElem hi⟩
    have hdr:l.drop i=a::l.drop (i+1):=by
      rw [List.drop_eq_getElem_cons hi]; congr 1
      have:=List.getElem?_eq_getElem hi; rw [ha] at this; injection this with this; exact this.symm
    rw [hdr] at j3
    simp only [Rw] at j3
    obtain ⟨c,c1,j3⟩:=Option.bind_eq_some_iff.1 j3
    have ta':=hl a (List.mem_of_getElem? ha)
    by_cases hc:c<0
    · rw [if_pos hc] at j3
      refine go tt [.t (by simp; omega),.x (Iu ha),.c [] (I3 ta' j2 c1),.t (by simpa using hc)] rfl (by simp [Qa]; omega) ?_
      exact rd (i+1,a) (by dsimp only; omega) ⟨hi,ta',j3⟩ rfl
    · rw [if_neg hc] at j3
      refine go tt [.t (by simp; omega),.x (Iu ha),.c [] (I3 ta' j2 c1),.f (by simpa using hc)] rfl (by simp [Qa]; omega) ?_
      exact rd (i+1,x) (by dsimp only; omega) ⟨hi,j2,j3⟩ rfl
  · obtain rfl:i=l.length:=by omega
    rw [List.drop_length] at j3
    simp only [Rw] at j3
    injection j3 with j3; subst j3
    exact en tt [.f (by simp),.c [] (Quy j2)] rfl rfl trivial
end Orr

namespace Orq
def Qn (x:Rat):Rat:=if x<0 then -x else x
theorem Z9 (x:Rat):0≤Qn x:=by unfold Qn; split <;> grind
theorem Yw {x b:Rat}:Qn x≤b↔-b≤x∧x≤b:=by unfold Qn; split <;> constructor <;> grind
theorem Qfu {x b:Rat}:Qn x<b↔-b<x∧x<b:=by unfold Qn; split <;> constructor <;> grind
theorem Jm (x y:Rat):Qn (x+y)≤Qn x+Qn y:=by unfold Qn; split <;> split <;> split <;> grind
theorem Qpr (x y:Rat):Qn (x-y)=Qn (y-x):=by unfold Qn; split <;> split <;> grind
theorem Uw (x:Rat):Qn (-x)=Qn x:=by unfold Qn; split <;> split <;> grind
theorem Xk:Qn 0=0:=by decide
theorem Kq {x:Rat} (h:x≠0):0<Qn x:=by unfold Qn; split <;> grind
theorem Q3h {x:Rat} (h:Qn x=0):x=0:=by unfold Qn at h; split at h <;> grind
theorem Vw {x y:Rat} (h1:0≤x) (h2:0≤y):0≤x*y:=Rat.mul_nonneg h1 h2
theorem Gy {x y:Rat} (h1:0<x) (h2:0<y):0<x*y:=Rat.mul_pos h1 h2
theorem Kj {a b c d:Rat} (h0:0≤a) (h1:a≤b) (h2:0≤c) (h3:c≤d):a*c≤b*d:=by
  have e1:=Rat.mul_le_mul_of_nonneg_right h1 h2
  have e2:=Rat.mul_le_mul_of_nonneg_left h3 (Rat.le_trans h0 h1)
  exact Rat.le_trans e1 e2
theorem Gm (x y:Rat):Qn (x*y)=Qn x*Qn y:=by
  unfold Qn
  by_cases h1:x<0 <;> by_cases h2:y<0
  · have:=Gy (x:=-x) (y:=-y) (by grind) (by grind); simp only [h1,h2,if_true]; split <;> grind
  · have:=Vw (x:=-x) (y:=y) (by grind) (by grind); simp only [h1,h2,if_true,if_false]; split <;> grind
  · have:=Vw (x:=x) (y:=-y) (by grind) (by grind); simp only [h1,h2,if_true,if_false]; split <;> grind
  · have:=Vw (x:=x) (y:=y) (by grind) (by grind); simp only [h1,h2,if_false]; split <;> grind
theorem Zs {x y a b:Rat} (h1:Qn x≤a) (h2:Qn y≤b):Qn (x*y)≤a*b:=by
  rw [Gm]; exact Kj (Z9 x) h1 (Z9 y) h2
theorem Ff {x y:Rat} (h1:0<x) (h2:0<y):0<x / y:=by rw [Rat.div_def]; exact Gy h1 (Rat.inv_pos.2 h2)
theorem Zt {x y:Rat} (h2:0<y):x / y*y=x:=Rat.div_mul_cancel (by grind)
theorem Zu {b d:Rat} (hb:0≤b) (hd:0<d):∃ e:Rat,0<e∧e≤1∧e*b<d:=by
  have h1:0<d / (b+1):=Ff hd (by grind)
  have h2:d / (b+1)*(b+1)=d:=Zt (by grind)
  rcases Rat.le_total (a:=d / (b+1)) (b:=1) with h | h
  · exact ⟨d / (b+1),h1,h,by
     have:d / (b+1)*(b+1)=d / (b+1)*b+d / (b+1):=by grind
     grind⟩
  · refine ⟨1,by decide,by decide,?_⟩
    have:1*(b+1)≤d / (b+1)*(b+1):=Rat.mul_le_mul_of_nonneg_right h (by grind)
    grind
def ev:List Rat→Rat→Rat
  | [],_=>0
  | a::p,t=>a+t*ev p t
def dv:List Rat→Rat→Rat
  | [],_=>0
  | _::p,t=>ev p t+t*dv p t
def dq:List Rat→Rat→Rat→Rat
  | [],_,_=>0
  | _::p,x,y=>ev p x+y*dq p x y
def dd:List Rat→Rat→Rat→Rat
  | [],_,_=>0
  | _::p,x,y=>dq p x y+y*dd p x y
theorem Qch (x y:Rat):∀ p,ev p x-ev p y=(x-y)*dq p x y
  | []=>by simp only [ev,dq]; grind
  | a::p=>by have:=Qch x y p; simp only [ev,dq]; grind
theorem Qeq (y:Rat):∀ p,dq p y y=dv p y
  | []=>rfl
  | a::p=>by simp only [dq,dv,Qeq y p]
theorem Q49 (x y:Rat):∀ p,dq p x y-dv p y=(x-y)*dd p x y
  | []=>by simp only [dv,dq,dd]; grind
  |
   a::p=>by
   have h1:=Q49 x y p
   have h2:=Qch x y p
   simp only [dv,dq,dd]; grind
theorem Q5c (p:List Rat) (x y:Rat):ev p x-ev p y=(x-y)*dv p y+(x-y)*(x-y)*dd p x y:=by
  have h1:=Qch x y p
  have h2:=Q49 x y p
  grind
def evB (R:Rat):List Rat→Rat
  | []=>0
  | a::p=>Qn a+R*evB R p
def dqB (R:Rat):List Rat→Rat
  | []=>0
  | _::p=>evB R p+R*dqB R p
def ddB (R:Rat):List Rat→Rat
  | []=>0
  | _::p=>dqB R p+R*ddB R p
theorem Sl {R:Rat} (hR:0≤R):∀ p,0≤evB R p
  | []=>by simp only [evB]; grind
  | a::p=>by have:=Vw hR (Sl hR p); have:=Z9 a; simp only [evB]; grind
theorem Ve {R:Rat} (hR:0≤R):∀ p,0≤dqB R p
  | []=>by simp only [dqB]; grind
  | a::p=>by have:=Vw hR (Ve hR p); have:=Sl hR p; simp only [dqB]; grind
theorem Om {R:Rat} (hR:0≤R):∀ p,0≤ddB R p
  | []=>by simp only [ddB]; grind
  | a::p=>by have:=Vw hR (Om hR p); have:=Ve hR p; simp only [ddB]; grind
theorem Eu {R x:Rat} (hx:Qn x≤R):∀ p,Qn (ev p x)≤evB R p
  | []=>by simp only [ev,evB,Xk]; grind
  |
   a::p=>by
   have h1:=Jm a (x*ev p x)
   have h2:=Zs hx (Eu hx p)
   simp only [ev,evB]; grind
theorem Qhk {R x y:Rat} (hx:Qn x≤R) (hy:Qn y≤R):∀ p,Qn (dq p x y)≤dqB R p
  | []=>by simp only [dq,dqB,Xk]; grind
  |
   a::p=>by
   have h1:=Jm (ev p x) (y*dq p x y)
   have h2:=Zs hy (Qhk hx hy p)
   have h3:=Eu hx p
   simp only [dq,dqB]; grind
theorem Qvd {R x y:Rat} (hx:Qn x≤R) (hy:Qn y≤R):∀ p,Qn (dd p x y)≤ddB R p
  | []=>by simp only [dd,ddB,Xk]; grind
  |
   a::p=>by
   have h1:=Jm (dq p x y) (y*dd p x y)
   have h2:=Zs hy (Qvd hx hy p)
   have h3:=Qhk hx hy p
   simp only [dd,ddB]; grind
theorem Q64 {R x y:Rat} (hx:Qn x≤R) (hy:Qn y≤R) (p:List Rat):Qn (ev p x-ev p y)≤Qn (x-y)*dqB R p:=by
  rw [Qch,Gm]; exact Kj (Z9 _) Rat.le_refl (Z9 _) (Qhk hx hy p)
def Jn:List Rat→List Rat→List Rat
  | [],q=>q
  | a::p,[]=>a::p
  | a::p,b::q=>(a+b)::Jn p q
def W3 (c:Rat) (p:List Rat):List Rat:=p.map (c * ·)
def Zn:List Rat→List Rat→List Rat
  | [],_=>[]
  | a::p,q=>Jn (W3 a q) (0::Zn p q)
def Vy:List Rat→List Rat
  | []=>[]
  | _::p=>Jn p (0::Vy p)
theorem Zj (t:Rat):∀ p q,ev (Jn p q) t=ev p t+ev q t
  | [],q=>by simp only [Jn,ev]; grind
  | a::p,[]=>by simp only [Jn,ev]; grind
  | a::p,b::q=>by have:=Zj t p q; simp only [Jn,ev]; grind
theorem Q7 (c t:Rat):∀ p,ev (W3 c p) t=c*ev p t
  | []=>by simp only [W3,List.map_nil,ev]; grind
  | a::p=>by have:=Q7 c t p; simp only [W3,List.map_cons,ev] at *; grind
theorem Qk (t:Rat):∀ p q,ev (Zn p q) t=ev p t*ev q t
  | [],q=>by simp only [Zn,ev]; grind
  | a::p,q=>by have:=Qk t p q; simp only [Zn,Zj,Q7,ev]; grind
theorem X8 (t:Rat):∀ p,ev (Vy p) t=dv p t
  | []=>rfl
  | a::p=>by have:=X8 t p; simp only [Vy,Zj,ev,dv]; grind
theorem Qer (t:Rat):∀ p q,dv (Jn p q) t=dv p t+dv q t
  | [],q=>by simp only [Jn,dv]; grind
  | a::p,[]=>by simp only [Jn,dv]; grind
  | a::p,b::q=>by have:=Qer t p q; have:=Zj t p q; simp only [Jn,dv]; grind
theorem Lc (c t:Rat):∀ p,dv (W3 c p) t=c*dv p t
  | []=>by simp only [W3,List.map_nil,dv]; grind
  | a::p=>by have:=Lc c t p; have:=Q7 c t p; simp only [W3,List.map_cons,dv] at *; grind
theorem Qes (t:Rat):∀ p q,dv (Zn p q) t=dv p t*ev q t+ev p t*dv q t
  | [],q=>by simp only [Zn,dv,ev]; grind
  | a::p,q=>by have:=Qes t p q; have:=Qk t p q; simp only [Zn,Qer,Lc,dv,ev]; grind
theorem Qoc:∀ {p:List Rat},(∀ x∈p,x=0)→∀ t,ev p t=0
  | [],_,t=>rfl
  |
   a::p,h,t=>by
   have h1:=Qoc (p:=p) (fun x hx=>h x (List.mem_cons_of_mem _ hx)) t
   have h2:=h a (List.mem_cons_self ..)
   simp only [ev,h1,h2]; grind
theorem Qn8:∀ {p:List Rat},(∀ x∈p,x=0)→∀ t,dv p t=0
  | [],_,t=>rfl
  |
   a::p,h,t=>by
   have h0:=fun x hx=>h x (List.mem_cons_of_mem _ hx)
   have h1:=Qoc (p:=p) h0 t
   have h2:=Qn8 (p:=p) h0 t
   simp only [dv,h1,h2]; grind
theorem Ba:∀ {p:List Rat},(∀ t,0<t→t<1→ev p t=0)→∀ x∈p,x=0
  | [],_=>fun x hx=>by cases hx
  |
   a::p,h=>by
   have ha:a=0:=by
     rcases Classical.em (a=0) with h0 | h0
     · exact h0
     · obtain ⟨e,e1,e2,e3⟩:=Zu (Sl (R:=1) (by decide) p) (Kq h0)
       obtain ⟨f,f1,f2,f3⟩:=Zu (b:=1) (d:=e) (by decide) e1
       have h1:=h f f1 (by grind)
       have h2:=Eu (R:=1) (x:=f) (by unfold Qn; split <;> grind) p
       have h3:=Gm f (ev p f)
       have h4:Qn f=f:=by unfold Qn; split <;> grind
       have h5:a=-(f*ev p f):=by simp only [ev] at h1; grind
       have h6:Qn a=f*Qn (ev p f):=by rw [h5,Uw,h3,h4]
       have h7:f*Qn (ev p f)≤e*evB 1 p:=Kj (Rat.le_of_lt f1) (by grind) (Z9 _) h2
       grind
   intro x hx
   rcases List.mem_cons.1 hx with rfl | hx
   · exact ha
   · refine Ba (p:=p) (fun t h1 h2=>?_) x hx
     have:=h t h1 h2
     simp only [ev,ha] at this
     have h3:t*ev p t=0:=by grind
     rcases Rat.mul_eq_zero.1 h3 with h4 | h4
     · grind
     · exact h4
theorem Qvl {p q:List Rat} (h:∀ t,ev p t=ev q t) (t:Rat):dv p t=dv q t:=by
  have h1:=Qn8 (p:=Jn p (W3 (-1) q)) (Ba fun t _ _=>by rw [Zj,Q7,h t]; grind) t
  rw [Qer,Lc] at h1; grind
end Orq

namespace Orq
def Qp (x:Rat):Int:=if x<0 then -1 else if 0<x then 1 else 0
theorem Zb {x:Rat}:Qp x=0↔x=0:=by
  unfold Qp; constructor
  · intro h; split at h <;> (try split at h) <;> grind
  · intro h; subst h; rfl
theorem Xl {x:Rat}:Qp x=1↔0<x:=by
  unfold Qp; constructor
  · intro h; split at h <;> (try split at h) <;> grind
  · intro h; rw [if_neg (by grind),if_pos h]
theorem Jy {x:Rat}:Qp x=-1↔x<0:=by
  unfold Qp; constructor
  · intro h; split at h <;> (try split at h) <;> grind
  · intro h; rw [if_pos h]
theorem Zf (x:Rat):Qp x=-1∧x<0∨Qp x=0∧x=0∨Qp x=1∧0<x:=by
  rcases Rat.le_total (a:=x) (b:=0) with h | h
  · rcases Classical.em (x=0) with h0 | h0
    · exact .inr (.inl ⟨Zb.2 h0,h0⟩)
    · exact .inl ⟨Jy.2 (by grind),by grind⟩
  · rcases Classical.em (x=0) with h0 | h0
    · exact .inr (.inl ⟨Zb.2 h0,h0⟩)
    · exact .inr (.inr ⟨Xl.2 (by grind),by grind⟩)
theorem Jp (x y:Rat):Qp (x*y)=Qp x*Qp y:=by
  rcases Zf x with ⟨e1,h1⟩ | ⟨e1,h1⟩ | ⟨e1,h1⟩ <;> rcases Zf y with ⟨e2,h2⟩ | ⟨e2,h2⟩ | ⟨e2,h2⟩ <;> rw [e1,e2]
  · have:=Gy (x:=-x) (y:=-y) (by grind) (by grind); exact Xl.2 (by grind)
  · subst h2; exact Zb.2 (by grind)
  · have:=Gy (x:=-x) (y:=y) (by grind) (by grind); exact Jy.2 (by grind)
  · subst h1; exact Zb.2 (by grind)
  · subst h1; exact Zb.2 (by grind)
  · subst h1; exact Zb.2 (by grind)
  · have:=Gy (x:=x) (y:=-y) (by grind) (by grind); exact Jy.2 (by grind)
  · subst h2; exact Zb.2 (by grind)
  · exact Xl.2 (Gy h1 h2)
theorem Ye {a b d:Rat} (h1:d≤Qn a) (h2:Qn (b-a)<d):Qp b=Qp a∧Qp a≠0:=by
  rw [Qfu] at h2
  rcases Zf a with ⟨e,h⟩ | ⟨e,h⟩ | ⟨e,h⟩
  · rw [e,Jy]; unfold Qn at h1; rw [if_pos h] at h1; exact ⟨by grind,by decide⟩
  · subst h; rw [Xk] at h1; grind
  · rw [e,Xl]; unfold Qn at h1; rw [if_neg (by grind)] at h1; exact ⟨by grind,by decide⟩
def tc (x:Rat):Int→List (List Rat)→Nat
  | _,[]=>0
  | s,p::l=>if Qp (ev p x)=0 then tc x s l else (if s=-(Qp (ev p x)) then 1 else 0)+tc x (Qp (ev p x)) l
inductive SCl:List Rat→List Rat→List (List Rat)→Prop
  | base {f g:List Rat} {c:Rat} (hc:c≠0) (hg:∀ t,ev g t=c):SCl f g []
  | step {f g h:List Rat} {l:List (List Rat)} {a b:Rat} {q:List Rat} (ha:0<a) (hb:0<b) (he:∀ t,a*ev f t=ev q t*ev g t-b*ev h t) (hl:SCl g h l):SCl f g (h::l)
theorem Qzo {x:Rat} {s:Int} {g h:List Rat} {l:List (List Rat)} (hh:Qp (ev h x)=-s) (hs:s≠0):tc x s (g::h::l)=1+tc x (-s) l:=by
  have h3:Qp (ev h x)≠0:=by omega
  have hv:s=1∨s=-1:=by rcases Zf (ev h x) with ⟨e,_⟩ | ⟨e,_⟩ | ⟨e,_⟩ <;> omega
  simp only [tc,if_neg h3,hh]
  rcases Zf (ev g x) with ⟨e,_⟩ | ⟨e,_⟩ | ⟨e,_⟩ <;> rw [e] <;> rcases hv with rfl | rfl <;> simp
theorem De {x:Rat} {s:Int} {p:List Rat} {l:List (List Rat)} (h:Qp (ev p x)≠0):tc x s (p::l)=(if s=-(Qp (ev p x)) then 1 else 0)+tc x (Qp (ev p x)) l:=by rw [tc,if_neg h]
theorem Yt {R x y e d:Rat} {p:List Rat} (hx:Qn x≤R) (hy:Qn y≤R) (hR:0≤R) (h:Qn (y-x)≤e) (hd:e*dqB R p<d):Qn (ev p y-ev p x)<d:=by
  have h1:=Q64 hy hx p
  have h2:=Rat.mul_le_mul_of_nonneg_right h (Ve hR p)
  grind
theorem Qc6 {a x y:Rat} (ha:0<a) (h:a*x<a*y):x<y:=by
  rcases Rat.le_total (a:=y) (b:=x) with h' | h'
  · have:=Rat.mul_le_mul_of_nonneg_left h' (Rat.le_of_lt ha); grind
  · rcases Classical.em (x=y) with e | e
    · subst e; grind
    · grind
theorem Q8c {a b d d' B f g h q:Rat} (ha:0<a) (hb:0<b) (dp:0<d) (h7:B*d+a*d<b*d') (hq:Qn q≤B) (hg:Qn g<d) (hh:d'≤Qn h) (he:a*f=q*g-b*h) (hd':0<d'):Qp h=-Qp f∧d≤Qn f:=by
  have h4:=Zs hq (Rat.le_of_lt hg)
  rw [Yw] at h4
  have had:=Gy ha dp
  have h8:=Rat.mul_le_mul_of_nonneg_left hh (Rat.le_of_lt hb)
  rcases Zf h with ⟨s,p⟩ | ⟨s,p⟩ | ⟨s,p⟩
  · have:Qn h=-h:=by unfold Qn; rw [if_pos p]
    rw [this] at h8
    have h10:d<f:=Qc6 ha (by grind)
    rw [s,Xl.2 (show 0<f by grind)]
    exact ⟨rfl,by unfold Qn; split <;> grind⟩
  · rw [p,Xk] at hh; grind
  · have:Qn h=h:=by unfold Qn; rw [if_neg (by grind)]
    rw [this] at h8
    have h10:f < -d:=Qc6 ha (by grind)
    rw [s,Jy.2 (show f<0 by grind)]
    exact ⟨rfl,by unfold Qn; split <;> grind⟩
theorem min2 {a b:Rat} (ha:0<a) (hb:0<b):∃ e:Rat,0<e∧e≤a∧e≤b:=by
  rcases Rat.le_total (a:=a) (b:=b) with h | h
  · exact ⟨a,ha,Rat.le_refl,h⟩
  · exact ⟨b,hb,h,Rat.le_refl⟩
theorem Qy (a b:Rat):a≤b∨b<a:=by
  rcases Rat.le_total (a:=a) (b:=b) with h | h
  · exact .inl h
  · rcases Classical.em (a=b) with e | e
    · exact .inl (by grind)
    · exact .inr (by grind)
theorem Q7m {R:Rat} (hR:0≤R) {f g:List Rat} {l:List (List Rat)} (hc:SCl f g l):∃ d e:Rat,0<d∧0<e∧∀ x y,Qn x≤R→Qn y≤R→Qn (y-x)≤e →
    (d≤Qn (ev f x)∨d≤Qn (ev g x))∧(d≤Qn (ev f x)→Qp (ev f y)=Qp (ev f x)∧Qp (ev f x)≠0)∧(d≤Qn (ev g x)→Qp (ev g y)=Qp (ev g x)∧Qp (ev g x)≠0) ∧
    (Qp (ev f y)=Qp (ev f x)→Qp (ev f x)≠0→tc x (Qp (ev f x)) (g::l)=tc y (Qp (ev f x)) (g::l)) ∧
    (Qp (ev g y)=Qp (ev g x)→Qp (ev g x)≠0→tc x (Qp (ev g x)) l=tc y (Qp (ev g x)) l):=by
  induction hc with
  |
   @base f g c hc hg =>
   have hd:=Kq hc
   obtain ⟨e,e1,e2,e3⟩:=Zu (Ve hR f) hd
   refine ⟨Qn c,e,hd,e1,fun x y hx hy hxy=>⟨.inr (by rw [hg]; exact Rat.le_refl),fun h=>Ye h (Yt hx hy hR hxy e3),fun h=>?_,fun _ _=>?_,fun _ _=>rfl⟩⟩
   · rw [hg,hg]; exact ⟨rfl,fun h=>hc (Zb.1 h)⟩
   · simp only [tc,hg]
  |
   @step f g h l a b q ha hb he hl ih =>
   obtain ⟨d',e',hd',he',ih⟩:=ih
   obtain ⟨d1,d1p,_,d1b⟩:=Zu (b:=evB R q+a) (d:=b*d') (by have:=Sl hR q; grind) (Gy hb hd')
   obtain ⟨d,dp,hd1,hdd⟩:=min2 d1p hd'
   obtain ⟨ef,ef1,_,ef3⟩:=Zu (Ve hR f) dp
   obtain ⟨eg,eg1,_,eg3⟩:=Zu (Ve hR g) dp
   obtain ⟨e0,e0p,h1,h2⟩:=min2 ef1 eg1
   obtain ⟨e,ep,h0,h3⟩:=min2 e0p he'
   have h1:=Rat.le_trans h0 h1
   have h2:=Rat.le_trans h0 h2
   refine ⟨d,e,dp,ep,fun x y hx hy hxy=>?_⟩
   obtain ⟨i1,i2,i3,i4,i5⟩:=ih x y hx hy (Rat.le_trans hxy h3)
   have hsm:Qn (ev g x)<d→d'≤Qn (ev h x)∧Qp (ev h x)=-Qp (ev f x)∧d≤Qn (ev f x):=fun hg=>by
     have hh:d'≤Qn (ev h x):=by
       rcases i1 with i | i
       · exact absurd (Rat.le_trans hdd i) (Rat.not_le.2 hg)
       · exact i
     have h6:d*(evB R q+a)≤d1*(evB R q+a):=Rat.mul_le_mul_of_nonneg_right hd1 (by have:=Sl hR q; clear ih i1 i2 i3 i4 i5 he; grind)
     have h7:evB R q*d+a*d<b*d':=by clear ih i1 i2 i3 i4 i5 he; grind
     exact ⟨hh,Q8c ha hb dp h7 (Eu hx q) hg hh (he x) hd'⟩
   have hfs:d≤Qn (ev f x)→Qp (ev f y)=Qp (ev f x)∧Qp (ev f x)≠0:=fun h=>Ye h (Yt hx hy hR (Rat.le_trans hxy h1) ef3)
   have hgs:d≤Qn (ev g x)→Qp (ev g y)=Qp (ev g x)∧Qp (ev g x)≠0:=fun h=>Ye h (Yt hx hy hR (Rat.le_trans hxy h2) eg3)
   refine ⟨?_,hfs,hgs,fun s1 s2=>?_,i4⟩
   · rcases Qy d (Qn (ev g x)) with h | h
     · exact .inr h
     · exact .inl (hsm h).2.2
   · rcases Qy d (Qn (ev g x)) with h | h
     · obtain ⟨g1,g2⟩:=hgs h
       rw [De (x:=x) (p:=g) g2,De (x:=y) (p:=g) (by rw [g1]; exact g2),g1,i4 g1 g2]
     · obtain ⟨h4,h5,_⟩:=hsm h
       obtain ⟨h6,h7⟩:=i3 h4
       have i5:=i5 h6 h7
       rw [Qzo h5 s2,Qzo (h6.trans h5) s2,←h5,i5]
end Orq

namespace Orq
def J7 (p:List Rat) (x:Rat):Int:=if Qp (ev p x)≠0 then Qp (ev p x) else Qp (dv p x)
def vv (L:List (List Rat)) (x:Rat):Nat:=tc x 0 L
def Ah (f:List Rat) (L:List (List Rat)):Prop:=(∃ c:Rat,c≠0∧(∀ t,ev f t=c)∧L=[f])∨∃ g l,∃ k:Rat,0<k∧(∀ t,ev g t=k*dv f t)∧SCl f g l∧L=f::g::l
structure Sm (w:List Rat) (x y:Rat):Prop where
  s:Qp (ev w y)=J7 w x
  l:J7 w y=J7 w x
  n:J7 w x≠0
theorem Fl {p:List Rat} {x:Rat} (h:Qp (ev p x)≠0):J7 p x=Qp (ev p x):=by unfold J7; rw [if_pos h]
theorem Qle {p:List Rat} {x:Rat} (h:Qp (ev p x)=0):J7 p x=Qp (dv p x):=by unfold J7; rw [if_neg (by simpa using h)]
theorem Qi9 {p:List Rat} {x y:Rat} (h:Qp (ev p y)=Qp (ev p x)) (h0:Qp (ev p x)≠0):Sm p x y:=by
  have h1:=Fl h0
  have h2:=Fl (p:=p) (x:=y) (by rw [h]; exact h0)
  exact ⟨by rw [h,h1],by rw [h2,h1,h],by rw [h1]; exact h0⟩
theorem Rq {f w u:List Rat} (h:∀ t,ev f t=ev w t*ev u t) (x:Rat):dv f x=dv w x*ev u x+ev w x*dv u x:=by
  rw [←Qes]; exact Qvl (fun t=>by rw [h,Qk]) x
theorem Qox {f w u:List Rat} {x:Rat} (h:∀ t,ev f t=ev w t*ev u t) (hu:Qp (ev u x)≠0):J7 f x=J7 w x*Qp (ev u x):=by
  by_cases hw:Qp (ev w x)=0
  · have hw0:=Zb.1 hw
    have e1:ev f x=0:=by rw [h,hw0]; grind
    have e2:dv f x=dv w x*ev u x:=by rw [Rq h,hw0]; grind
    rw [Qle hw,Qle (Zb.2 e1),e2,Jp]
  · have e1:Qp (ev f x)=Qp (ev w x)*Qp (ev u x):=by rw [h,Jp]
    rw [Fl hw,Fl (by rw [e1]; exact Int.mul_ne_zero hw hu),e1]
theorem Q8d {f w u:List Rat} {x y:Rat} (h:∀ t,ev f t=ev w t*ev u t) (hu:Qp (ev u y)=Qp (ev u x)) (h0:Qp (ev u x)≠0) (hf:Sm f x y):Sm w x y:=by
  have e1:=Qox h h0
  have e2:=Qox (x:=y) h (by rw [hu]; exact h0)
  have e3:Qp (ev f y)=Qp (ev w y)*Qp (ev u y):=by rw [h,Jp]
  obtain ⟨s,l,n⟩:=hf
  rw [hu] at e2 e3
  refine ⟨?_,?_,fun h=>n (by rw [e1,h,Int.zero_mul])⟩
  · rw [e3,e1] at s; exact Int.eq_of_mul_eq_mul_right h0 s
  · rw [e2,e1] at l; exact Int.eq_of_mul_eq_mul_right h0 l
theorem tc0 {x:Rat} {s:Int} {f g:List Rat} {l:List (List Rat)} (h:Qp (ev g x)=s) (hs:s≠0):tc x 0 (f::g::l)=(if Qp (ev f x)=-s then 1 else 0)+tc x s l:=by
  have hv:s=1∨s=-1:=by rcases Zf (ev g x) with ⟨e,_⟩ | ⟨e,_⟩ | ⟨e,_⟩ <;> omega
  have hg:Qp (ev g x)≠0:=by omega
  rw [tc]
  rcases Zf (ev f x) with ⟨e,_⟩ | ⟨e,_⟩ | ⟨e,_⟩ <;> rw [e] <;> rcases hv with rfl | rfl <;> simp [De hg,h]
theorem Qat {R x y e d:Rat} {p:List Rat} (hx:Qn x≤R) (hy:Qn y≤R) (hR:0≤R) (hxy:x<y) (h:y-x≤e) (hd:d≤Qn (dv p x)) (he:e*ddB R p<d):Qp (ev p y-ev p x)=Qp (dv p x):=by
  have h1:=Q5c p y x
  have h2:ev p y-ev p x=(y-x)*(dv p x+(y-x)*dd p y x):=by rw [h1]; grind
  have h3:=Zs (x:=y-x) (y:=dd p y x) (a:=e) (b:=ddB R p) (by rw [Yw]; constructor <;> grind) (Qvd hy hx p)
  have h4:=Ye (b:=dv p x+(y-x)*dd p y x) hd (by
    have:dv p x+(y-x)*dd p y x-dv p x=(y-x)*dd p y x:=by grind
    rw [this]; exact Rat.not_le.1 fun h=>absurd (Rat.le_trans h h3) (Rat.not_le.2 he))
  rw [h2,Jp,Xl.2 (show 0<y-x by grind),h4.1,Int.one_mul]
def Qsu (f w:List Rat) (L:List (List Rat)) (x y:Rat):Prop :=
  (vv L x=vv L y∧Sm f x y∧Sm w x y)∨(vv L x=vv L y+1∧J7 f x≠0∧J7 f y=-J7 f x∧Qp (ev f x)=J7 f x∧(Qp (ev f y)=0∨Qp (ev f y)=-J7 f x))
theorem Qwg {R d:Rat} (hR:0≤R) (hd:0<d) {f w u:List Rat} (h:∀ t,ev f t=ev w t*ev u t):∃ e:Rat,0<e∧∀ x y,Qn x≤R→Qn y≤R→Qn (y-x)≤e→d≤Qn (ev f x)→Sm f x y∧Sm w x y:=by
  obtain ⟨ef,ef1,_,ef3⟩:=Zu (Ve hR f) hd
  obtain ⟨d1,d1p,_,d1b⟩:=Zu (Sl hR u) hd
  obtain ⟨ew,ew1,_,ew3⟩:=Zu (Ve hR w) d1p
  obtain ⟨e,ep,e1,e2⟩:=min2 ef1 ew1
  refine ⟨e,ep,fun x y hx hy hxy hf=>⟨?_,?_⟩⟩
  · have:=Ye hf (Yt hx hy hR (Rat.le_trans hxy e1) ef3)
    exact Qi9 this.1 this.2
  · have hw:d1≤Qn (ev w x):=by
      rcases Qy d1 (Qn (ev w x)) with h' | h'
      · exact h'
      · have h5:=Zs (Rat.le_of_lt h') (Eu hx u)
        rw [←h] at h5
        exact absurd (Rat.le_trans hf h5) (Rat.not_le.2 d1b)
    have:=Ye hw (Yt hx hy hR (Rat.le_trans hxy e2) ew3)
    exact Qi9 this.1 this.2
theorem loc {R:Rat} (hR:0≤R) {f w u:List Rat} {L:List (List Rat)} (hc:Ah f L) (h:∀ t,ev f t=ev w t*ev u t):∃ e:Rat,0<e∧∀ x y,Qn x≤R→Qn y≤R→x<y→y-x≤e→Qsu f w L x y:=by
  rcases hc with ⟨c,hc,hf,rfl⟩ | ⟨g,l,k,hk,hg,hc,rfl⟩
  · obtain ⟨e,ep,h1⟩:=Qwg hR (Kq hc) h
    refine ⟨e,ep,fun x y hx hy hxy he=>.inl ⟨?_,h1 x y hx hy (by rw [Yw]; constructor <;> grind) (by rw [hf]; exact Rat.le_refl)⟩⟩
    simp only [vv,tc,hf]
  · obtain ⟨d,e1,dp,e1p,h1⟩:=Q7m hR hc
    obtain ⟨e2,e2p,h2⟩:=Qwg hR dp h
    -- where f is small,its derivative is Qwg
    obtain ⟨d3,d3p,_,d3b⟩:=Zu (b:=k) (d:=d) (Rat.le_of_lt hk) dp
    obtain ⟨e3,e3p,_,e3b⟩:=Zu (Om hR f) d3p
    obtain ⟨d4,d4p,_,d4b⟩:=Zu (b:=dqB R w+dqB R u) (d:=d3) (by have:=Ve hR w; have:=Ve hR u; grind) d3p
    obtain ⟨e4,e4p,_,e4b⟩:=Zu (Ve hR w) d4p
    obtain ⟨e5,e5p,_,e5b⟩:=Zu (Ve hR u) d4p
    obtain ⟨a1,a1p,a11,a12⟩:=min2 e1p e2p
    obtain ⟨a2,a2p,a21,a22⟩:=min2 e3p e4p
    obtain ⟨a3,a3p,a31,a32⟩:=min2 a1p a2p
    obtain ⟨e,ep,b1,b2⟩:=min2 a3p e5p
    refine ⟨e,ep,fun x y hx hy hxy he=>?_⟩
    have hab:Qn (y-x)≤e:=by rw [Yw]; clear h1 h2; constructor <;> grind
    have hab1:Qn (y-x)≤e1:=by clear h1 h2; grind
    have hab2:Qn (y-x)≤e2:=by clear h1 h2; grind
    obtain ⟨i1,i2,i3,i4,i5⟩:=h1 x y hx hy hab1
    rcases Qy d (Qn (ev f x)) with hf | hf
    · obtain ⟨s1,s2⟩:=h2 x y hx hy hab2 hf
      obtain ⟨j1,j2⟩:=i2 hf
      refine .inl ⟨?_,s1,s2⟩
      have:=i4 j1 j2
      simp only [vv]
      rw [De (x:=x) (p:=f) j2,De (x:=y) (p:=f) (by rw [j1]; exact j2),j1,this]
    · have hg1:d≤Qn (ev g x):=by
        rcases i1 with i | i
        · exact absurd i (Rat.not_le.2 hf)
        · exact i
      obtain ⟨g1,g2⟩:=i3 hg1
      have i5:=i5 g1 g2
      have hD:d3≤Qn (dv f x):=by
        rcases Qy d3 (Qn (dv f x)) with h' | h'
        · exact h'
        · have h5:=Zs (x:=k) (a:=k) (by unfold Qn; split <;> clear h1 h2 <;> grind) (Rat.le_of_lt h')
          rw [←hg] at h5
          have:k*d3=d3*k:=by grind
          exact absurd (Rat.le_trans hg1 h5) (Rat.not_le.2 (by rw [this]; exact d3b))
      have hm:=Qat hx hy hR hxy (by clear h1 h2; grind:y-x≤e3) hD e3b
      have s1:Qp (ev g x)=Qp (dv f x):=by rw [hg,Jp,Xl.2 hk,Int.one_mul]
      have s2:Qp (ev g y)=Qp (dv f y):=by rw [hg,Jp,Xl.2 hk,Int.one_mul]
      obtain ⟨s,hs⟩:∃ s,s=Qp (ev g x):=⟨_,rfl⟩
      rw [←hs] at g1 g2 i5 s1
      rw [g1] at s2
      have v1:=tc0 (f:=f) (l:=l) hs.symm g2
      have v2:=tc0 (f:=f) (l:=l) g1 g2
      rw [←i5] at v2
      rw [←s1] at hm
      have hw:Sm f x y→Sm w x y:=fun hf=>by
        rcases Qy d4 (Qn (ev u x)) with hu | hu
        · have hu:=Ye hu (Yt hx hy hR (Rat.le_trans hab b2) e5b)
          exact Q8d h hu.1 hu.2 hf
        · have hw:d4≤Qn (ev w x):=by
            rcases Qy d4 (Qn (ev w x)) with h' | h'
            · exact h'
            · have q1:=Zs (x:=dv w x) (y:=ev u x) (a:=dqB R w) (by rw [←Qeq]; exact Qhk hx hx w) (Rat.le_of_lt hu)
              have q2:=Zs (x:=ev w x) (y:=dv u x) (b:=dqB R u) (Rat.le_of_lt h') (by rw [←Qeq]; exact Qhk hx hx u)
              have q3:=Jm (dv w x*ev u x) (ev w x*dv u x)
              rw [←Rq h] at q3
              have:d4*(dqB R w+dqB R u)=dqB R w*d4+d4*dqB R u:=by grind
              rw [this] at d4b
              exact absurd (Rat.le_trans hD (Rat.le_trans q3 (by clear h1 h2; grind:_≤dqB R w*d4+d4*dqB R u))) (Rat.not_le.2 d4b)
          have hw:=Ye hw (Yt hx hy hR (Rat.le_trans hab (by clear h1 h2; grind)) e4b)
          exact Qi9 hw.1 hw.2
      have lx:J7 f x=if Qp (ev f x)≠0 then Qp (ev f x) else s:=by rw [s1]; rfl
      have ly:J7 f y=if Qp (ev f y)≠0 then Qp (ev f y) else s:=by rw [s2]; rfl
      clear h1 h2 i1 i2 i3 i4
      have hsv:s=1∨s=-1:=by rcases Zf (ev g x) with ⟨e,_⟩ | ⟨e,_⟩ | ⟨e,_⟩ <;> omega
      unfold Qsu
      simp only [vv,v1,v2]
      rcases hsv with rfl | rfl
      · have hm:=Xl.1 hm
        rcases Zf (ev f x) with ⟨p1,p2⟩ | ⟨p1,p2⟩ | ⟨p1,p2⟩
        · rcases Zf (ev f y) with ⟨q1,q2⟩ | ⟨q1,q2⟩ | ⟨q1,q2⟩
          · rw [p1,q1]; have hsm:=Qi9 (p:=f) (x:=x) (y:=y) (by rw [p1,q1]) (by rw [p1]; decide)
            exact .inl ⟨rfl,hsm,hw hsm⟩
          · rw [lx,ly,p1,q1]; refine .inr ⟨by simp; omega,by decide,by decide,by decide,by decide⟩
          · rw [lx,ly,p1,q1]; refine .inr ⟨by simp; omega,by decide,by decide,by decide,by decide⟩
        · have q1:=Xl.2 (show 0<ev f y by grind)
          have hsm:Sm f x y:=⟨by rw [lx,q1,p1]; rfl,by rw [lx,ly,q1,p1]; rfl,by rw [lx,p1]; decide⟩
          rw [p1,q1]; exact .inl ⟨rfl,hsm,hw hsm⟩
        · have q1:=Xl.2 (show 0<ev f y by grind)
          have hsm:Sm f x y:=⟨by rw [lx,q1,p1]; rfl,by rw [lx,ly,q1,p1],by rw [lx,p1]; decide⟩
          rw [p1,q1]; exact .inl ⟨rfl,hsm,hw hsm⟩
      · have hm:=Jy.1 hm
        rcases Zf (ev f x) with ⟨p1,p2⟩ | ⟨p1,p2⟩ | ⟨p1,p2⟩
        · have q1:=Jy.2 (show ev f y<0 by grind)
          have hsm:Sm f x y:=⟨by rw [lx,q1,p1]; rfl,by rw [lx,ly,q1,p1],by rw [lx,p1]; decide⟩
          rw [p1,q1]; exact .inl ⟨rfl,hsm,hw hsm⟩
        · have q1:=Jy.2 (show ev f y<0 by grind)
          have hsm:Sm f x y:=⟨by rw [lx,q1,p1]; rfl,by rw [lx,ly,q1,p1]; rfl,by rw [lx,p1]; decide⟩
          rw [p1,q1]; exact .inl ⟨rfl,hsm,hw hsm⟩
        · rcases Zf (ev f y) with ⟨q1,q2⟩ | ⟨q1,q2⟩ | ⟨q1,q2⟩
          · rw [lx,ly,p1,q1]; refine .inr ⟨by simp; omega,by decide,by decide,by decide,by decide⟩
          · rw [lx,ly,p1,q1]; refine .inr ⟨by simp; omega,by decide,by decide,by decide,by decide⟩
          · rw [p1,q1]; have hsm:=Qi9 (p:=f) (x:=x) (y:=y) (by rw [p1,q1]) (by rw [p1]; decide)
            exact .inl ⟨rfl,hsm,hw hsm⟩
end Orq

namespace Orq
theorem Zcp (z:Rat):∃ n:Nat,z≤(n:Rat):=by
  refine ⟨z.ceil.toNat,?_⟩
  have h1:z≤(z.ceil:Rat):=Rat.le_ceil
  have h2:(z.ceil:Rat)≤((z.ceil.toNat:Int):Rat):=Rat.intCast_le_intCast.2 (Int.self_le_toNat _)
  exact Rat.le_trans h1 h2
theorem Tt {z e:Rat} (he:0<e):∃ n:Nat,z≤(n:Rat)*e:=by
  obtain ⟨n,hn⟩:=Zcp (z / e)
  exact ⟨n,by have:=Rat.mul_le_mul_of_nonneg_right hn (Rat.le_of_lt he); rwa [Zt he] at this⟩
theorem Cc {R x y t:Rat} (hx:Qn x≤R) (hy:Qn y≤R) (h1:x≤t) (h2:t≤y):Qn t≤R:=by
  rw [Yw] at *; constructor <;> grind
def Qqg (f w:List Rat) (L:List (List Rat)) (x y:Rat):Prop :=
  vv L y≤vv L x∧(vv L x=vv L y→Sm f x y∧Sm w x y)∧(vv L x=vv L y+1→J7 f x≠0∧J7 f y=-J7 f x)
theorem Qov {f w:List Rat} {L:List (List Rat)} {x y:Rat} (h:Qsu f w L x y):Qqg f w L x y:=by
  rcases h with ⟨h1,h2,h3⟩ | ⟨h1,h2,h3,_⟩
  · exact ⟨by omega,fun _=>⟨h2,h3⟩,fun h=>by omega⟩
  · exact ⟨by omega,fun h=>by omega,fun _=>⟨h2,h3⟩⟩
theorem Qja {w:List Rat} {x y z:Rat} (h1:Sm w x y) (h2:Sm w y z):Sm w x z:=⟨by rw [h2.s,h1.l],by rw [h2.l,h1.l],h1.n⟩
theorem Qlc {f w:List Rat} {L:List (List Rat)} {x y z:Rat} (h:Qqg f w L x y) (h':Qqg f w L y z):Qqg f w L x z:=by
  obtain ⟨a1,a2,a3⟩:=h
  obtain ⟨b1,b2,b3⟩:=h'
  refine ⟨by omega,fun h=>?_,fun h=>?_⟩
  · obtain ⟨s1,s2⟩:=a2 (by omega)
    obtain ⟨s3,s4⟩:=b2 (by omega)
    exact ⟨Qja s1 s3,Qja s2 s4⟩
  · by_cases e:vv L x=vv L y
    · obtain ⟨s1,_⟩:=a2 e
      obtain ⟨s3,s4⟩:=b3 (by omega)
      exact ⟨s1.n,by rw [s4,s1.l]⟩
    · obtain ⟨s3,s4⟩:=a3 (by omega)
      obtain ⟨s1,_⟩:=b2 (by omega)
      exact ⟨s3,by rw [s1.l,s4]⟩
theorem Q7c {R:Rat} (hR:0≤R) {f w u:List Rat} {L:List (List Rat)} (hc:Ah f L) (h:∀ t,ev f t=ev w t*ev u t) {x y:Rat} (hx:Qn x≤R) (hy:Qn y≤R) (hxy:x<y):Qqg f w L x y:=by
  obtain ⟨e,ep,hl⟩:=loc hR hc h
  have key:∀ n:Nat,∀ x,Qn x≤R→x<y→y-x≤(n:Rat)*e→Qqg f w L x y:=by
    intro n
    induction n with
    | zero =>
     intro x hx hxy h; exfalso; have:((0:Nat):Rat)*e=0:=by simp
     grind
    |
     succ n ih =>
     intro x hx hxy hn
     rcases Qy (y-x) e with h1 | h1
     · exact Qov (hl x y hx hy hxy h1)
     · have hm:Qn (x+e)≤R:=Cc hx hy (by clear hl ih; grind) (by clear hl ih; grind)
       have hn':(((n+1:Nat):Rat))=(n:Rat)+1:=by push_cast; rfl
       refine Qlc (Qov (hl x (x+e) hx hm (by clear hl ih; grind) (by clear hl ih; grind))) (ih (x+e) hm (by clear hl ih; grind) ?_)
       rw [hn'] at hn
       clear hl ih; grind
  obtain ⟨n,hn⟩:=Tt (z:=y-x) ep
  exact key n x hx hxy hn
theorem Qd5 (x y:Rat):∃ R:Rat,0≤R∧Qn x≤R∧Qn y≤R:=by
  refine ⟨Qn x+Qn y,?_,?_,?_⟩ <;> (have:=Z9 x; have:=Z9 y; grind)
theorem X1 (t:Rat):ev [1] t=1:=by simp only [ev]; grind
theorem Fy {f:List Rat} {L:List (List Rat)} (hc:Ah f L) {x y:Rat} (hxy:x<y):vv L y≤vv L x:=by
  obtain ⟨R,hR,hx,hy⟩:=Qd5 x y
  exact (Q7c hR hc (w:=f) (u:=[1]) (fun t=>by rw [X1]; grind) hx hy hxy).1
theorem M9 {f w u:List Rat} {L:List (List Rat)} (hc:Ah f L) (h:∀ t,ev f t=ev w t*ev u t) {x y:Rat} (hxy:x<y) (he:vv L x=vv L y):Sm w x y:=by
  obtain ⟨R,hR,hx,hy⟩:=Qd5 x y
  exact ((Q7c hR hc h hx hy hxy).2.1 he).2
theorem Qgj {f:List Rat} {L:List (List Rat)} (hc:Ah f L) {x y:Rat} (hxy:x<y) (he:vv L x=vv L y):Sm f x y :=
  M9 hc (w:=f) (u:=[1]) (fun t=>by rw [X1]; grind) hxy he
theorem Qgi {f:List Rat} {L:List (List Rat)} (hc:Ah f L) {x y:Rat} (hxy:x<y) (he:vv L x=vv L y+1):J7 f x≠0∧J7 f y=-J7 f x:=by
  obtain ⟨R,hR,hx,hy⟩:=Qd5 x y
  exact (Q7c hR hc (w:=f) (u:=[1]) (fun t=>by rw [X1]; grind) hx hy hxy).2.2 he
theorem Qzu {f:List Rat} {L:List (List Rat)} (hc:Ah f L) (R:Rat) (hR:0≤R):∃ e:Rat,0<e∧∀ x y,Qn x≤R→Qn y≤R→x<y→y-x≤e→vv L x≤vv L y+1:=by
  obtain ⟨e,ep,hl⟩:=loc hR hc (w:=f) (u:=[1]) (fun t=>by rw [X1]; grind)
  refine ⟨e,ep,fun x y hx hy hxy he=>?_⟩
  rcases hl x y hx hy hxy he with ⟨h,_⟩ | ⟨h,_⟩ <;> omega
theorem Mr {p:List Rat} {x:Rat} (h:Qp (ev p x)≠0):∃ e:Rat,0<e∧∀ y,Qn (y-x)≤e→Qp (ev p y)=Qp (ev p x):=by
  have hd:=Kq (x:=ev p x) fun h0=>h (Zb.2 h0)
  have hR:0≤Qn x+1:=by have:=Z9 x; grind
  obtain ⟨e,e1,e2,e3⟩:=Zu (Ve hR p) hd
  refine ⟨e,e1,fun y hy=>(Ye Rat.le_refl (Yt (x:=x) (by grind) ?_ hR hy e3)).1⟩
  have:=Jm (y-x) x
  have e:y-x+x=y:=by grind
  rw [e] at this; grind
theorem Q5o {R M:Rat} {p:List Rat} (hM:M=ddB R p) (hR:0≤R) {h:Rat} (hh:0<h):∀ (n:Nat) (x:Rat),Qn x≤R→Qn (x+(n:Rat)*h)≤R→(∀ t,x≤t→t≤x+(n:Rat)*h→0≤dv p t)→ev p x-(n:Rat)*(h*h*M)≤ev p (x+(n:Rat)*h)
  |
   0,x,_,_,_=>by
   have e1:x+((0:Nat):Rat)*h=x:=by rw [show ((0:Nat):Rat)=0 from rfl]; grind
   have e2:((0:Nat):Rat)*(h*h*M)=0:=by simp
   rw [e1,e2]; grind
  |
   n+1,x,hx,hy,hd=>by
   have hn':(((n+1:Nat):Rat))=(n:Rat)+1:=by push_cast; rfl
   rw [hn'] at hy hd ⊢
   have hn0:(0:Rat)≤(n:Rat):=Rat.natCast_nonneg
   have hnh:=Vw hn0 (Rat.le_of_lt hh)
   have e1:x+((n:Rat)+1)*h=(x+h)+(n:Rat)*h:=by grind
   rw [e1] at hy hd ⊢
   have hxh:Qn (x+h)≤R:=Cc hx hy (by clear hd; grind) (by clear hd; grind)
   have ih:=Q5o hM hR hh n (x+h) hxh hy fun t h1 h2=>hd t (by clear hd; grind) h2
   have h0:=hd x Rat.le_refl (by clear hd; grind)
   have h1:=Q5c p (x+h) x
   have h2:=Qvd hxh hx p
   rw [←hM,Yw] at h2
   have h3:=Rat.mul_le_mul_of_nonneg_left h2.1 (Vw (Rat.le_of_lt hh) (Rat.le_of_lt hh))
   have h4:=Vw (Rat.le_of_lt hh) h0
   have e2:x+h-x=h:=by grind
   rw [e2] at h1
   clear hd hx hy hxh
   grind
theorem Zal {p:List Rat} {x y:Rat} (hxy:x<y) (hd:∀ t,x≤t→t≤y→0≤dv p t):ev p x≤ev p y:=by
  obtain ⟨R,hR,hx,hy⟩:=Qd5 x y
  rcases Qy (ev p x) (ev p y) with h | h
  · exact h
  · exfalso
    obtain ⟨M,hM⟩:∃ M,M=ddB R p:=⟨_,rfl⟩
    have hM0:=Om hR p
    rw [←hM] at hM0
    obtain ⟨e,ep,_,he⟩:=Zu (b:=(y-x)*M) (d:=ev p x-ev p y) (Vw (by grind) hM0) (by grind)
    obtain ⟨n,hn⟩:=Tt (z:=y-x) ep
    have hn0:0<(n:Rat):=by
      rcases Qy (n:Rat) 0 with h' | h'
      · have:=Rat.mul_le_mul_of_nonneg_right h' (Rat.le_of_lt ep); clear hd; grind
      · exact h'
    have hh:0<(y-x) / n:=Ff (by grind) hn0
    have e1:(n:Rat)*((y-x) / n)=y-x:=by rw [Rat.mul_comm]; exact Zt hn0
    have e2:x+(n:Rat)*((y-x) / n)=y:=by rw [e1]; grind
    have h1:=Q5o hM hR hh n x hx (by rw [e2]; exact hy) (by rw [e2]; exact hd)
    rw [e2] at h1
    have h2:(y-x) / n≤e:=by
      rcases Qy ((y-x) / n) e with h' | h'
      · exact h'
      · have:=Rat.mul_lt_mul_of_pos_left h' hn0; clear hd; grind
    have h3:(n:Rat)*((y-x) / n*((y-x) / n)*M)=((y-x) / n)*((y-x)*M):=by
      have:(n:Rat)*((y-x) / n*((y-x) / n)*M)=((n:Rat)*((y-x) / n))*(((y-x) / n)*M):=by grind
      rw [this,e1]; grind
    have h4:=Rat.mul_le_mul_of_nonneg_right h2 (Vw (x:=y-x) (y:=M) (by grind) hM0)
    rw [h3] at h1
    clear hd; grind
theorem Q3o {p:List Rat} {x y:Rat} (hxy:x<y) (hd:∀ t,x≤t→t≤y→0<dv p t):ev p x<ev p y:=by
  have hx:=hd x Rat.le_refl (by grind)
  have hR:0≤Qn x+1:=by have:=Z9 x; grind
  obtain ⟨e,e1,e2,e3⟩:=Zu (Om hR p) hx
  obtain ⟨f,f1,f2,f3⟩:=min2 (a:=e) (b:=y-x) e1 (by grind)
  have hq:Qn (x+f)≤Qn x+1:=by
   have:=Jm x f; have:Qn f=f:=by unfold Qn; split <;> grind
   clear hd; grind
  have h1:=Qat (p:=p) (x:=x) (y:=x+f) (R:=Qn x+1) (e:=e) (d:=dv p x) (by clear hd; grind) hq hR (by grind) (by grind) (by unfold Qn; split <;> clear hd <;> grind) e3
  rw [Xl.2 hx,Xl] at h1
  rcases Classical.em (x+f=y) with e | e
  · rw [←e]; clear hd; grind
  · have:=Zal (p:=p) (x:=x+f) (y:=y) (by clear hd; grind) fun t h1 h2=>Rat.le_of_lt (hd t (by clear hd; grind) h2)
    clear hd; grind
end Orq

namespace Orq
structure Cut (c:Rat→Int):Prop where
  val:∀ q,c q=1∨c q=0∨c q=-1
  mono:∀ q r,q<r→c q≠1→c r=-1
  up:∀ q,c q=1→∃ r,q<r∧c r=1
  dn:∀ q,c q=-1→∃ r,r<q∧c r=-1
  lo:∃ q,c q=1
  hi:∃ q,c q=-1
theorem Cut.mono' {c:Rat→Int} (h:Cut c) {q r:Rat} (hqr:q<r) (hr:c r≠-1):c q=1:=by
  rcases Classical.em (c q=1) with e | e
  · exact e
  · exact absurd (h.mono q r hqr e) hr
theorem Cut.lt {c:Rat→Int} (h:Cut c) {q r:Rat} (hq:c q=1) (hr:c r=-1):q<r:=by
  rcases Qy r q with e | e
  · rcases Classical.em (r=q) with e' | e'
    · rw [e'] at hr; omega
    · have:=h.mono r q (by grind) (by omega); omega
  · exact e
theorem Cut.near {c:Rat→Int} (h:Cut c) {e:Rat} (he:0<e):∃ x y,c x=1∧c y=-1∧y-x≤e:=by
  obtain ⟨a,ha⟩:=h.lo
  obtain ⟨b,hb⟩:=h.hi
  have he2:0<e / 2:=Ff he (by decide)
  have h2:e / 2*2=e:=Zt (by decide)
  have key:∀ (n:Nat) (a:Rat),c a=1→b-a≤(n:Rat)*(e / 2)→∃ x y,c x=1∧c y=-1∧y-x≤e:=by
    intro n
    induction n with
    |
     zero =>
     intro a ha hn
     have:=h.lt ha hb
     rw [show ((0:Nat):Rat)=0 from rfl] at hn
     exfalso; grind
    |
     succ n ih =>
     intro a ha hn
     have hn':(((n+1:Nat):Rat))=(n:Rat)+1:=by push_cast; rfl
     rw [hn'] at hn
     rcases h.val (a+e / 2) with h1 | h1 | h1
     · exact ih _ h1 (by grind)
     · exact ⟨a,a+e,ha,h.mono (a+e / 2) _ (by grind) (by omega),by grind⟩
     · exact ⟨a,a+e / 2,ha,h1,by grind⟩
  obtain ⟨n,hn⟩:=Tt (z:=b-a) he2
  exact key n a ha hn
def Ha (p:List Rat) (c:Rat→Int):Prop:=∀ d:Rat,0<d→∃ x y,c x=1∧c y=-1∧∀ q,x≤q→q≤y→Qn (ev p q)<d
def NZ (p:List Rat) (c:Rat→Int) (s:Int):Prop:=∃ d:Rat,0<d∧∃ x y,c x=1∧c y=-1∧∀ q,x≤q→q≤y→Qp (ev p q)=s∧d≤Qn (ev p q)
def Nr (c:Rat→Int) (P:Rat→Prop):Prop:=∃ x y,c x=1∧c y=-1∧∀ q,x≤q→q≤y→P q
theorem Qlh {c:Rat→Int} {P Q:Rat→Prop} (h1:Nr c P) (h2:Nr c Q):Nr c fun q=>P q∧Q q:=by
  obtain ⟨x,y,a1,a2,a3⟩:=h1
  obtain ⟨x',y',b1,b2,b3⟩:=h2
  refine ⟨if x≤x' then x' else x,if y≤y' then y else y',by split <;> assumption,by split <;> assumption,fun q q1 q2=>⟨a3 q ?_ ?_,b3 q ?_ ?_⟩⟩ <;> clear a3 b3 <;> grind
theorem Ic {c:Rat→Int} {P Q:Rat→Prop} (h1:Nr c P) (h:∀ q,P q→Q q):Nr c Q:=by
  obtain ⟨x,y,a1,a2,a3⟩:=h1
  exact ⟨x,y,a1,a2,fun q q1 q2=>h q (a3 q q1 q2)⟩
theorem Qih {c:Rat→Int} (hc:Cut c) {P:Rat→Prop} (h1:Nr c P):∃ q,P q∧c q=1:=by
  obtain ⟨x,y,a1,a2,a3⟩:=h1
  exact ⟨x,a3 x Rat.le_refl (Rat.le_of_lt (hc.lt a1 a2)),a1⟩
theorem Qxd {c:Rat→Int} (hc:Cut c) {e:Rat} (he:0<e) {P:Rat→Prop} (h1:Nr c P):∃ x y,c x=1∧c y=-1∧y-x≤e∧x<y∧∀ q,x≤q→q≤y→P q:=by
  obtain ⟨x,y,a1,a2,a3⟩:=h1
  obtain ⟨x',y',b1,b2,b3⟩:=hc.near he
  refine ⟨if x≤x' then x' else x,if y≤y' then y else y',by split <;> assumption,by split <;> assumption,by clear a3; grind,hc.lt (by split <;> assumption) (by split <;> assumption),fun q q1 q2=>a3 q ?_ ?_⟩ <;> clear a3 <;> grind
theorem Q5m {c:Rat→Int} (hc:Cut c):∃ R:Rat,0≤R∧Nr c fun q=>Qn q≤R:=by
  obtain ⟨x,y,a1,a2,_⟩:=hc.near (e:=1) (by decide)
  obtain ⟨R,hR,h1,h2⟩:=Qd5 x y
  exact ⟨R,hR,x,y,a1,a2,fun q q1 q2=>Cc h1 h2 q1 q2⟩
theorem Pv {c:Rat→Int} (hc:Cut c) (p:List Rat):Ha p c∨∃ s,s≠0∧NZ p c s:=by
  rcases Classical.em (Ha p c) with h | h
  · exact .inl h
  · refine .inr ?_
    obtain ⟨d,hd0⟩:=Classical.not_forall.1 h
    obtain ⟨dp,hd⟩:=Classical.not_imp.1 hd0
    have hd:∀ x y,c x=1→c y=-1→∃ q,x≤q∧q≤y∧d≤Qn (ev p q):=fun x y hx hy=>by
      rcases Classical.em (∃ q,x≤q∧q≤y∧d≤Qn (ev p q)) with h' | h'
      · exact h'
      · refine absurd ⟨x,y,hx,hy,fun q h1 h2=>?_⟩ hd
        rcases Qy d (Qn (ev p q)) with h3 | h3
        · exact absurd ⟨q,h1,h2,h3⟩ h'
        · exact h3
    obtain ⟨R,hR,hn⟩:=Q5m hc
    have hd2:0<d / 2:=Ff dp (by decide)
    have h2:d / 2*2=d:=Zt (by decide)
    obtain ⟨e,e1,_,e3⟩:=Zu (Ve hR p) hd2
    obtain ⟨x,y,hx,hy,hxy,_,hq⟩:=Qxd hc e1 hn
    obtain ⟨r,r1,r2,r3⟩:=hd x y hx hy
    have key:∀ q,x≤q→q≤y→Qn (ev p q-ev p r)<d / 2:=fun q q1 q2 =>
      Yt (hq r r1 r2) (hq q q1 q2) hR (by rw [Yw]; clear hq hd; constructor <;> grind) e3
    refine ⟨Qp (ev p r),fun h0=>?_,d / 2,hd2,x,y,hx,hy,fun q q1 q2=>⟨(Ye (d:=d) r3 ?_).1,?_⟩⟩
    · rw [Zb.1 h0,Xk] at r3; clear hq hd key; grind
    · have:=key q q1 q2; clear hq hd key; grind
    · have h3:=key q q1 q2
      have h4:=Jm (ev p r-ev p q) (ev p q)
      rw [show ev p r-ev p q+ev p q=ev p r from by clear hq hd key; grind,Qpr] at h4
      clear hq hd key; grind
theorem Q8s {c:Rat→Int} (hc:Cut c) {p:List Rat} {s:Int} (h1:Ha p c) (h2:NZ p c s):False:=by
  obtain ⟨d,dp,h2⟩:=h2
  obtain ⟨q,⟨a,b⟩,_⟩:=Qih hc (Qlh (h1 d dp) h2)
  exact absurd b.2 (Rat.not_le.2 a)
theorem Yk {c:Rat→Int} (hc:Cut c) {f p q:List Rat} (hf:∀ t,ev f t=ev p t*ev q t) (h:Ha p c):Ha f c:=by
  intro d dp
  obtain ⟨R,hR,hn⟩:=Q5m hc
  obtain ⟨e,e1,_,e3⟩:=Zu (Sl hR q) dp
  refine Ic (Qlh hn (h e e1)) fun t ⟨h1,h2⟩=>?_
  rw [hf]
  have:=Zs (Rat.le_of_lt h2) (Eu h1 q)
  exact Rat.not_le.1 fun h=>absurd (Rat.le_trans h this) (Rat.not_le.2 e3)
theorem Iv {c:Rat→Int} {f p q:List Rat} (hf:∀ t,ev f t=ev p t+ev q t) (h:Ha p c) (h':Ha q c):Ha f c:=by
  intro d dp
  have hd2:0<d / 2:=Ff dp (by decide)
  have h2:d / 2*2=d:=Zt (by decide)
  refine Ic (Qlh (h _ hd2) (h' _ hd2)) fun t ⟨h1,h2⟩=>?_
  rw [hf]
  have:=Jm (ev p t) (ev q t)
  grind
def RS (p:List Rat) (c:Rat→Int) (s:Int):Prop:=∃ y,c y=-1∧∀ q,c q=-1→q≤y→Qp (ev p q)=s
def LS (p:List Rat) (c:Rat→Int) (s:Int):Prop:=∃ x,c x=1∧∀ q,c q=1→x≤q→Qp (ev p q)=s
theorem Qdn {c:Rat→Int} (hc:Cut c) {p:List Rat} {s:Int} (h:NZ p c s):RS p c s:=by
  obtain ⟨d,dp,x,y,a1,a2,a3⟩:=h
  exact ⟨y,a2,fun q h1 h2=>(a3 q (Rat.le_of_lt (hc.lt a1 h1)) h2).1⟩
theorem Qoy {c:Rat→Int} (hc:Cut c) {p:List Rat} {s:Int} (h:NZ p c s):LS p c s:=by
  obtain ⟨d,dp,x,y,a1,a2,a3⟩:=h
  exact ⟨x,a1,fun q h1 h2=>(a3 q h2 (Rat.le_of_lt (hc.lt h1 a2))).1⟩
theorem Qpy {c:Rat→Int} {p:List Rat} {s s':Int} (h:RS p c s) (h':RS p c s'):s=s':=by
  obtain ⟨y,a1,a2⟩:=h
  obtain ⟨y',b1,b2⟩:=h'
  rcases Qy y y' with e | e
  · rw [←a2 y a1 Rat.le_refl,←b2 y a1 e]
  · rw [←a2 y' b1 (Rat.le_of_lt e),←b2 y' b1 Rat.le_refl]
theorem Q5r {c:Rat→Int} (hc:Cut c) {p:List Rat} (hv:Ha p c) {y:Rat} (hy:c y=-1) (h:∀ q,c q=-1→q≤y→0<dv p q) (q:Rat) (hq:c q=-1) (hqy:q≤y):0<ev p q:=by
  rcases Qy (ev p q) 0 with h0 | h0
  · exfalso
    obtain ⟨r,r1,r2⟩:=hc.dn q hq
    have hr:ev p r<ev p q:=Q3o r1 fun t t1 t2=>h t (by
      rcases Classical.em (r=t) with e | e
      · rw [←e]; exact r2
      · exact hc.mono r t (by clear h; grind) (by omega)) (Rat.le_trans t2 hqy)
    obtain ⟨a,b,ha,hb,hab⟩:=hv (-ev p r) (by clear h; grind)
    obtain ⟨m,hm1,hm2,hm3⟩:∃ m,c m=-1∧m≤b∧m≤r:=by
      rcases Qy b r with e | e
      · exact ⟨b,hb,Rat.le_refl,e⟩
      · exact ⟨r,r2,Rat.le_of_lt e,Rat.le_refl⟩
    have h1:=hab m (Rat.le_of_lt (hc.lt ha hm1)) hm2
    have h2:ev p m≤ev p r:=by
      rcases Classical.em (m=r) with e | e
      · rw [e]; exact Rat.le_refl
      · exact Rat.le_of_lt (Q3o (by clear h hab; grind) fun t t1 t2=>h t (by
          rcases Classical.em (m=t) with e | e
          · rw [←e]; exact hm1
          · exact hc.mono m t (by clear h hab; grind) (by omega)) (by clear h hab; grind))
    rw [Qfu] at h1
    clear h hab; grind
  · exact h0
theorem Qf0 {c:Rat→Int} (hc:Cut c) {p:List Rat} {s:Int} (hv:Ha p c) (h:RS (Vy p) c s) (hs:s≠0):RS p c s:=by
  obtain ⟨y,hy,h⟩:=h
  have hsv:s=1∨s=-1:=by
    have:=h y hy Rat.le_refl
    rcases Zf (ev (Vy p) y) with ⟨e,_⟩ | ⟨e,_⟩ | ⟨e,_⟩ <;> omega
  rcases hsv with rfl | rfl
  · refine ⟨y,hy,fun q h1 h2=>Xl.2 (Q5r hc hv hy (fun q h1 h2=>?_) q h1 h2)⟩
    rw [←X8]; exact Xl.1 (h q h1 h2)
  · refine ⟨y,hy,fun q h1 h2=>Jy.2 ?_⟩
    have:=Q5r hc (p:=W3 (-1) p) (y:=y) (fun d dp=>Ic (hv d dp) fun q hq=>by rw [Q7,show -1*ev p q=-ev p q by grind,Uw]; exact hq) hy (fun q h1 h2=>by
      rw [Lc,←X8]
      have:=Jy.1 (h q h1 h2); grind) q h1 h2
    rw [Q7] at this; grind
end Orq

namespace Orq
theorem Q5j {c:Rat→Int} (hc:Cut c) {p:List Rat} (hv:Ha p c) {x:Rat} (hx:c x=1) (h:∀ q,c q=1→x≤q→0<dv p q) (q:Rat) (hq:c q=1) (hxq:x≤q):ev p q<0:=by
  rcases Qy 0 (ev p q) with h0 | h0
  · exfalso
    obtain ⟨r,r1,r2⟩:=hc.up q hq
    have hr:ev p q<ev p r:=Q3o r1 fun t t1 t2=>h t (by
      rcases Classical.em (t=r) with e | e
      · rw [e]; exact r2
      · exact hc.mono' (q:=t) (r:=r) (by clear h; grind) (by omega)) (Rat.le_trans hxq t1)
    obtain ⟨a,b,ha,hb,hab⟩:=hv (ev p r) (by clear h; grind)
    obtain ⟨m,hm1,hm2,hm3⟩:∃ m,c m=1∧a≤m∧r≤m:=by
      rcases Qy a r with e | e
      · exact ⟨r,r2,e,Rat.le_refl⟩
      · exact ⟨a,ha,Rat.le_refl,Rat.le_of_lt e⟩
    have h1:=hab m hm2 (Rat.le_of_lt (hc.lt hm1 hb))
    have h2:ev p r≤ev p m:=by
      rcases Classical.em (r=m) with e | e
      · rw [e]; exact Rat.le_refl
      · exact Rat.le_of_lt (Q3o (by clear h hab; grind) fun t t1 t2=>h t (by
          rcases Classical.em (t=m) with e | e
          · rw [e]; exact hm1
          · exact hc.mono' (q:=t) (r:=m) (by clear h hab; grind) (by omega)) (by clear h hab; grind))
    rw [Qfu] at h1
    clear h hab; grind
  · exact h0
theorem Qwz {c:Rat→Int} (hc:Cut c) {p:List Rat} {s:Int} (hv:Ha p c) (h:LS (Vy p) c s) (hs:s≠0):LS p c (-s):=by
  obtain ⟨x,hx,h⟩:=h
  have hsv:s=1∨s=-1:=by
    have:=h x hx Rat.le_refl
    rcases Zf (ev (Vy p) x) with ⟨e,_⟩ | ⟨e,_⟩ | ⟨e,_⟩ <;> omega
  rcases hsv with rfl | rfl
  · refine ⟨x,hx,fun q h1 h2=>Jy.2 (Q5j hc hv hx (fun q h1 h2=>?_) q h1 h2)⟩
    rw [←X8]; exact Xl.1 (h q h1 h2)
  · refine ⟨x,hx,fun q h1 h2=>Xl.2 ?_⟩
    have:=Q5j hc (p:=W3 (-1) p) (x:=x) (fun d dp=>Ic (hv d dp) fun q hq=>by rw [Q7,show -1*ev p q=-ev p q by grind,Uw]; exact hq) hx (fun q h1 h2=>by
      rw [Lc,←X8]
      have:=Jy.1 (h q h1 h2); grind) q h1 h2
    rw [Q7] at this; grind
theorem Q3x {c:Rat→Int} (hc:Cut c) {f g:List Rat} {l:List (List Rat)} (h:SCl f g l):Ha f c→Ha g c→False:=by
  induction h with
  |
   @base f g k hk hg =>
   intro _ hv
   obtain ⟨q,hq,_⟩:=Qih hc (hv (Qn k) (Kq hk))
   rw [hg] at hq; grind
  |
   @step f g h l a b q ha hb he hl ih =>
   intro hf hg
   refine ih hg ?_
   have h1:Ha (Zn q g) c:=Yk hc (p:=g) (q:=q) (fun t=>by rw [Qk]; grind) hg
   have h2:Ha (W3 (-a) f) c:=Yk hc (p:=f) (q:=[-a]) (fun t=>by rw [Q7]; simp only [ev]; grind) hf
   have h3:Ha (Jn (Zn q g) (W3 (-a) f)) c:=Iv (fun t=>Zj t _ _) h1 h2
   refine Yk hc (p:=Jn (Zn q g) (W3 (-a) f)) (q:=[1 / b]) (fun t=>?_) h3
   have:=he t
   rw [Zj,Qk,Q7]
   simp only [ev]
   have hbb:1 / b*b=1:=Zt hb
   have:ev q t*ev g t+-a*ev f t=b*ev h t:=by rw [show -a*ev f t=-(a*ev f t) by grind,he t]; grind
   rw [this]
   have:b*ev h t*(1 / b+t*0)=ev h t*(1 / b*b):=by grind
   rw [this,hbb]; grind
theorem Qd3 {c:Rat→Int} (hc:Cut c) {f g:List Rat} {k:Rat} (h:∀ t,ev g t=k*ev f t) (hv:Ha f c):Ha g c :=
  Yk hc (p:=f) (q:=[k]) (fun t=>by rw [h]; simp only [ev]; grind) hv
theorem Q37 {c:Rat→Int} (hc:Cut c) {f:List Rat} {L:List (List Rat)} (h:Ah f L) (hv:Ha f c):∃ s,s≠0∧NZ (Vy f) c s:=by
  rcases Pv hc (Vy f) with h1 | h1
  · exfalso
    rcases h with ⟨k,hk,hf,_⟩ | ⟨g,l,k,hk,hg,h,_⟩
    · obtain ⟨q,hq,_⟩:=Qih hc (hv (Qn k) (Kq hk))
      rw [hf] at hq; grind
    · exact Q3x hc h hv (Qd3 hc (fun t=>by rw [hg,X8]) h1)
  · exact h1
theorem Qn5 {c:Rat→Int} (hc:Cut c) {f w u:List Rat} {L:List (List Rat)} (h:Ah f L) (hf:∀ t,ev f t=ev w t*ev u t) (hv:Ha w c):∃ s,s≠0∧NZ (Vy w) c s:=by
  rcases Pv hc (Vy w) with h1 | h1
  · exfalso
    obtain ⟨s,_,hs⟩:=Q37 hc h (Yk hc hf hv)
    refine Q8s hc ?_ hs
    have a1:Ha (Zn (Vy w) u) c:=Yk hc (fun t=>Qk t _ _) h1
    have a2:Ha (Zn w (Vy u)) c:=Yk hc (fun t=>Qk t _ _) hv
    refine Iv (fun t=>?_) a1 a2
    rw [X8,Rq hf,Qk,Qk,X8,X8]
  · exact h1
theorem Qva {c:Rat→Int} (hc:Cut c) {q:Rat} (h:c q=0) {x y:Rat} (hx:c x=1) (hy:c y=-1):x≤q∧q≤y:=by
  constructor
  · rcases Qy x q with e | e
    · exact e
    · have:=hc.mono q x e (by omega); omega
  · rcases Qy q y with e | e
    · exact e
    · have:=hc.mono y q e (by omega); omega
theorem En {c:Rat→Int} (hc:Cut c) {p:List Rat} {q:Rat} (h:c q=0) (hv:Ha p c):ev p q=0:=by
  rcases Classical.em (ev p q=0) with e | e
  · exact e
  · obtain ⟨x,y,hx,hy,hq⟩:=hv _ (Kq e)
    obtain ⟨h1,h2⟩:=Qva hc h hx hy
    have:=hq q h1 h2; grind
theorem Qil {c:Rat→Int} (hc:Cut c) {p:List Rat} {q:Rat} {s:Int} (h:c q=0) (hv:NZ p c s):Qp (ev p q)=s:=by
  obtain ⟨d,dp,x,y,hx,hy,hq⟩:=hv
  obtain ⟨h1,h2⟩:=Qva hc h hx hy
  exact (hq q h1 h2).1
theorem Qkr {c:Rat→Int} (hc:Cut c) {y z:Rat} (hy:c y=-1) (hz:c z=-1):∃ q,c q=-1∧q<y∧q<z:=by
  obtain ⟨a,a1,a2⟩:=hc.dn y hy
  obtain ⟨b,b1,b2⟩:=hc.dn z hz
  rcases Qy a b with e | e
  · exact ⟨a,a2,a1,by grind⟩
  · exact ⟨b,b2,by grind,b1⟩
theorem Oj {c:Rat→Int} (hc:Cut c) {y z:Rat} (hy:c y=1) (hz:c z=1):∃ q,c q=1∧y<q∧z<q:=by
  obtain ⟨a,a1,a2⟩:=hc.up y hy
  obtain ⟨b,b1,b2⟩:=hc.up z hz
  rcases Qy a b with e | e
  · exact ⟨b,b2,by grind,b1⟩
  · exact ⟨a,a2,a1,by grind⟩
theorem Qxc {f w u:List Rat} {L:List (List Rat)} (h:Ah f L) (hf:∀ t,ev f t=ev w t*ev u t) {x y:Rat} (hv:vv L x=vv L y) {c:Rat→Int} (hc:Cut c) (hx:c x=1) (hy:c y≠1):¬Ha w c:=fun hw=>by
  have hxy:x<y:=by
    rcases Qy y x with e | e
    · rcases Classical.em (y=x) with e' | e'
      · rw [e'] at hy; exact absurd hx hy
      · have:=hc.mono y x (by grind) hy; omega
    · exact e
  have hwv:=M9 h hf hxy hv
  rcases hc.val y with e | e | e
  · exact hy e
  · have:=En hc e hw
    have:=hwv.s
    rw [Zb.2 (by assumption)] at this
    exact hwv.n this.symm
  · obtain ⟨s,hs,hd⟩:=Qn5 hc h hf hw
    obtain ⟨a,ha,hal⟩:=Qwz hc hw (Qoy hc hd) hs
    obtain ⟨b,hb,hbr⟩:=Qf0 hc hw (Qdn hc hd) hs
    obtain ⟨q,q1,q2,q3⟩:=Oj hc hx ha
    obtain ⟨r,r1,r2,r3⟩:=Qkr hc hb e
    have e1:=hal q q1 (Rat.le_of_lt q3)
    have e2:=hbr r r1 (Rat.le_of_lt r2)
    have hqr:=hc.lt q1 r1
    have v1:vv L q≤vv L x:=Fy h q2
    have v2:vv L y≤vv L r:=Fy h r3
    have v3:vv L r≤vv L q:=Fy h hqr
    have s1:=(M9 h hf q2 (by omega)).s
    have s2:=(M9 h hf (x:=x) (y:=r) (by grind) (by omega)).s
    omega
theorem Qgc {f:List Rat} {L:List (List Rat)} (h:Ah f L) {x y:Rat} (hxy:x<y) (hv:vv L x≠vv L y) {d:Rat} (dp:0<d):∃ q,x≤q∧q≤y∧Qn (ev f q)<d:=by
  obtain ⟨R,hR,hx,hy⟩:=Qd5 x y
  obtain ⟨e1,e1p,hl⟩:=loc hR h (w:=f) (u:=[1]) (fun t=>by rw [X1]; grind)
  obtain ⟨e2,e2p,_,e2b⟩:=Zu (Ve hR f) dp
  obtain ⟨e,ep,h1,h2⟩:=min2 e1p e2p
  have key:∀ n:Nat,∀ x,Qn x≤R→x<y→vv L x≠vv L y→y-x≤(n:Rat)*e→∃ q,x≤q∧q≤y∧Qn (ev f q)<d:=by
    intro n
    induction n with
    | zero=>intro x hx hxy _ hn; rw [show ((0:Nat):Rat)=0 from rfl] at hn; exfalso; clear hl; grind
    |
     succ n ih =>
     intro x hx hxy hv hn
     have hstep:∀ z,Qn z≤R→x<z→z-x≤e→vv L x≠vv L z→Qn (ev f z)<d:=fun z hz hxz hze hv=>by
       rcases hl x z hx hz hxz (Rat.le_trans hze h1) with ⟨p,_⟩ | ⟨_,p1,p2,p3,p4⟩
       · exact absurd p hv
       · have hd:=Yt (p:=f) hx hz hR (e:=e2) (d:=d) (by rw [Yw]; clear hl ih; constructor <;> grind) e2b
         rw [←p3] at p1 p4
         clear hl ih p2 p3
         rw [Qfu] at *
         rcases Zf (ev f x) with ⟨a,a'⟩ | ⟨a,a'⟩ | ⟨a,a'⟩ <;> rcases Zf (ev f z) with ⟨b,b'⟩ | ⟨b,b'⟩ | ⟨b,b'⟩ <;> rw [a,b] at p4 <;> first | (exfalso; revert p4; decide) | skip
         all_goals first | (constructor <;> grind) | (exfalso; omega)
     rcases Qy (y-x) e with h3 | h3
     · exact ⟨y,Rat.le_of_lt hxy,Rat.le_refl,hstep y hy hxy h3 hv⟩
     · have hm:Qn (x+e)≤R:=Cc hx hy (by clear hl ih hstep; grind) (by clear hl ih hstep; grind)
       rcases Classical.em (vv L x=vv L (x+e)) with e0 | e0
       · have hn':(((n+1:Nat):Rat))=(n:Rat)+1:=by push_cast; rfl
         rw [hn'] at hn
         obtain ⟨q,q1,q2,q3⟩:=ih (x+e) hm (by clear hl ih hstep; grind) (by omega) (by clear hl ih hstep; grind)
         exact ⟨q,by clear hl ih hstep; grind,q2,q3⟩
       · exact ⟨x+e,by clear hl ih hstep; grind,by clear hl ih hstep; grind,hstep (x+e) hm (by clear hl ih hstep; grind) (by clear hl ih hstep; grind) e0⟩
  obtain ⟨n,hn⟩:=Tt (z:=y-x) ep
  exact key n x hx hxy hv hn
end Orq

namespace Orq
theorem Q7i {p:List Rat} {x:Rat} (h:J7 p x≠0):∃ e:Rat,0<e∧∀ y,x<y→y-x≤e→Qp (ev p y)=J7 p x:=by
  by_cases h0:Qp (ev p x)=0
  · have hx:=Zb.1 h0
    rw [Qle h0] at h ⊢
    have hR:0≤Qn x+1:=by have:=Z9 x; grind
    obtain ⟨e,e1,e2,e3⟩:=Zu (Om hR p) (Kq (x:=dv p x) fun h'=>h (Zb.2 h'))
    refine ⟨e,e1,fun y h1 h2=>?_⟩
    have hy:Qn y≤Qn x+1:=by
      have:=Jm x (y-x)
      have e:x+(y-x)=y:=by grind
      have e':Qn (y-x)=y-x:=by unfold Qn; split <;> grind
      rw [e,e'] at this; grind
    have:=Qat (p:=p) (by grind) hy hR h1 h2 Rat.le_refl e3
    rw [hx] at this
    rw [←this]; congr 1; grind
  · rw [Fl h0] at h ⊢
    obtain ⟨e,e1,e2⟩:=Mr h
    exact ⟨e,e1,fun y h1 h2=>e2 y (by rw [Yw]; constructor <;> grind)⟩
def cq (P:List Rat) (lo hi q:Rat):Int:=if q≤lo then 1 else if hi<q then -1 else if Qp (ev P q)=0 then 0 else if Qp (ev P q)=J7 P lo then 1 else -1
structure Vt (P:List Rat) (L:List (List Rat)) (lo hi:Rat):Prop where
  s:Ah P L
  l:lo<hi
  v:vv L lo=vv L hi+1
variable {P:List Rat} {L:List (List Rat)} {lo hi:Rat}
theorem Fc {q:Rat} (h:q≤lo):cq P lo hi q=1:=by unfold cq; rw [if_pos h]
theorem Bt {q:Rat} (h:lo<hi) (h':hi<q):cq P lo hi q=-1:=by unfold cq; rw [if_neg (by grind),if_pos h']
theorem Gs {q:Rat} (h1:lo<q) (h2:q≤hi):cq P lo hi q=if Qp (ev P q)=0 then 0 else if Qp (ev P q)=J7 P lo then 1 else -1:=by
  unfold cq; rw [if_neg (by grind),if_neg (by grind)]
theorem Vt.two (V:Vt P L lo hi) {q:Rat} (h1:lo<q) (h2:q≤hi):vv L q=vv L lo∧cq P lo hi q=1∧Qp (ev P q)=J7 P lo∨vv L q=vv L hi∧cq P lo hi q≠1∧J7 P q=-J7 P lo∧J7 P lo≠0:=by
  have a:=Fy V.s h1
  have b:vv L hi≤vv L q:=by
    rcases Classical.em (q=hi) with e | e
    · rw [e]; exact Nat.le_refl _
    · exact Fy V.s (by grind)
  have hv:=V.v
  rcases (show vv L q=vv L lo∨vv L q=vv L hi by omega) with e | e
  · have hs:=Qgj V.s h1 e.symm
    refine .inl ⟨e,?_,hs.s⟩
    rw [Gs h1 h2,hs.s,if_neg hs.n,if_pos rfl]
  · obtain ⟨o1,o2⟩:=Qgi V.s h1 (by omega)
    refine .inr ⟨e,?_,o2,o1⟩
    rw [Gs h1 h2]
    split
    · decide
    · rename_i h0
      rw [Fl h0] at o2
      rw [if_neg (by omega)]; decide
theorem Vt.lowlo (V:Vt P L lo hi):J7 P lo≠0:=(Qgi V.s V.l V.v).1
theorem Vt.eq_lo (V:Vt P L lo hi) {q:Rat} (h1:lo<q) (h2:q≤hi) (h:cq P lo hi q=1):vv L q=vv L lo:=by
  rcases V.two h1 h2 with ⟨e,_⟩ | ⟨_,e,_⟩
  · exact e
  · exact absurd h e
theorem Vt.eq_hi (V:Vt P L lo hi) {q:Rat} (h1:lo<q) (h2:q≤hi) (h:cq P lo hi q≠1):vv L q=vv L hi:=by
  rcases V.two h1 h2 with ⟨_,e,_⟩ | ⟨e,_⟩
  · exact absurd e h
  · exact e
theorem Vt.hi1 (V:Vt P L lo hi):cq P lo hi hi≠1:=fun h=>by have:=V.eq_lo V.l Rat.le_refl h; have:=V.v; omega
theorem Vt.cut (V:Vt P L lo hi):Cut (cq P lo hi) where
  val q:=by unfold cq; split <;> (try split) <;> (try split) <;> (try split) <;> simp
  mono q r h h1:=by
    have hq:lo<q:=by
     rcases Qy q lo with e | e
     · exact absurd (Fc e) h1
     · exact e
    rcases Qy r hi with e | e
    · have e1:=V.eq_hi hq (by grind) h1
      rcases V.two (q:=r) (by grind) e with ⟨e2,_⟩ | ⟨e2,_,e3,e4⟩
      · have:=Fy V.s h; have:=V.v; omega
      · have hs:=Qgj V.s h (by omega)
        rcases V.two hq (by grind) with ⟨e5,_⟩ | ⟨_,_,e5,_⟩
        · have:=V.v; omega
        · rw [Gs (by grind) e,hs.s,if_neg hs.n,e5,if_neg (by omega)]
    · exact Bt V.l e
  up q h:=by
    rcases Qy q lo with e | e
    · obtain ⟨d,dp,hd⟩:=Q7i V.lowlo
      obtain ⟨f,fp,f1,f2⟩:=min2 (a:=d) (b:=hi-lo) dp (by have:=V.l; grind)
      have h1:lo<lo+f:=by clear hd; grind
      have h2:lo+f≤hi:=by clear hd; grind
      have:=hd (lo+f) h1 (by clear hd; grind)
      exact ⟨lo+f,by clear hd; grind,by rw [Gs h1 h2,this,if_neg V.lowlo,if_pos rfl]⟩
    · have hh:q≤hi:=by
       rcases Qy q hi with e' | e'
       · exact e'
       · have:=Bt (P:=P) V.l e'; omega
      rcases V.two e hh with ⟨e1,_,e2⟩ | ⟨_,e1,_⟩
      · have hn:q≠hi:=fun h=>by rw [h] at e1; have:=V.v; omega
        obtain ⟨d,dp,hd⟩:=Mr (p:=P) (x:=q) (by rw [e2]; exact V.lowlo)
        obtain ⟨f,fp,f1,f2⟩:=min2 (a:=d) (b:=hi-q) dp (by clear hd; grind)
        have:=hd (q+f) (by rw [Yw]; clear hd; constructor <;> grind)
        exact ⟨q+f,by clear hd; grind,by rw [Gs (by clear hd; grind) (by clear hd; grind),this,e2,if_neg V.lowlo,if_pos rfl]⟩
      · exact absurd h e1
  dn q h:=by
    have hq:lo<q:=by
     rcases Qy q lo with e | e
     · have:=Fc (P:=P) (hi:=hi) e; omega
     · exact e
    rcases Qy q hi with e | e
    · rw [Gs hq e] at h
      split at h
      · cases h
      rename_i h0
      split at h
      · cases h
      rename_i h1
      obtain ⟨d,dp,hd⟩:=Mr h0
      obtain ⟨f,fp,f1,f2⟩:=min2 (a:=d) (b:=(q-lo) / 2) dp (Ff (by clear hd; grind) (by decide))
      have h2:(q-lo) / 2*2=q-lo:=Zt (by decide)
      have:=hd (q-f) (by rw [Yw]; clear hd; constructor <;> grind)
      exact ⟨q-f,by clear hd; grind,by rw [Gs (by clear hd; grind) (by clear hd; grind),this,if_neg h0,if_neg h1]⟩
    · have h2:(q-hi) / 2*2=q-hi:=Zt (by decide)
      exact ⟨q-(q-hi) / 2,by grind,Bt V.l (by grind)⟩
  lo:=⟨lo,Fc Rat.le_refl⟩
  hi:=⟨hi+1,Bt V.l (by grind)⟩
theorem Vt.van (V:Vt P L lo hi):Ha P (cq P lo hi):=by
  have hc:=V.cut
  rcases Pv hc P with h | ⟨s,hs,h⟩
  · exact h
  · exfalso
    have e1:s=J7 P lo:=by
      obtain ⟨x,hx,hx1⟩:=Qoy hc h
      obtain ⟨q,q1,q2,q3⟩:=Oj hc hx (Fc (P:=P) (hi:=hi) (Rat.le_refl (a:=lo)))
      have hq:q≤hi:=by
       rcases Qy q hi with e | e
       · exact e
       · have:=Bt (P:=P) V.l e; omega
      rcases V.two q3 hq with ⟨_,_,e⟩ | ⟨_,e,_⟩
      · rw [←hx1 q q1 (Rat.le_of_lt q2),e]
      · exact absurd q1 e
    rcases hc.val hi with e | e | e
    · exact V.hi1 e
    · have h0:=Qil hc e h
      rw [Gs V.l Rat.le_refl] at e
      split at e
      · omega
      · split at e <;> omega
    · obtain ⟨y,hy,hy1⟩:=Qdn hc h
      obtain ⟨q,q1,q2,q3⟩:=Qkr hc hy e
      have hq:lo<q:=hc.lt (Fc (P:=P) (hi:=hi) (Rat.le_refl (a:=lo))) q1
      have:=hy1 q q1 (Rat.le_of_lt q2)
      rw [Gs hq (Rat.le_of_lt q3),this,if_neg hs,if_pos e1] at q1
      cases q1
def Qk4 (w:List Rat) (lo hi:Rat):Prop:=Qp (ev w hi)=0∨Qp (ev w hi)≠J7 w lo
theorem Vt.has (V:Vt P L lo hi) {w u:List Rat} (hf:∀ t,ev P t=ev w t*ev u t) {a b:Rat} (h1:lo≤a) (h2:a<b) (h3:b≤hi):Qk4 w a b↔Ha w (cq P lo hi)∧cq P lo hi a=1∧cq P lo hi b≠1:=by
  have hc:=V.cut
  have smno:vv L a=vv L b→¬Qk4 w a b:=fun h hh=>by
    have:=M9 V.s hf h2 h
    rcases hh with e | e
    · rw [this.s] at e; exact this.n e
    · exact e this.s
  by_cases ha:cq P lo hi a=1
  · by_cases hb:cq P lo hi b=1
    · have e1:=V.eq_lo (by grind) h3 hb
      have e2:vv L a=vv L lo:=by
        rcases Classical.em (lo=a) with e | e
        · rw [e]
        · exact V.eq_lo (by grind) (by grind) ha
      exact ⟨fun h=>absurd h (smno (by omega)),fun h=>absurd hb h.2.2⟩
    · have e1:=V.eq_hi (by grind) h3 hb
      have e2:vv L a=vv L lo:=by
        rcases Classical.em (lo=a) with e | e
        · rw [e]
        · exact V.eq_lo (by grind) (by grind) ha
      -- signs on both sides,within the piece
      have left:∀ s,LS w (cq P lo hi) s→s=J7 w a:=fun s hs=>by
        obtain ⟨x,hx,hx1⟩:=hs
        obtain ⟨q,q1,q2,q3⟩:=Oj hc hx ha
        have hqb:q<b:=by
          rcases Qy b q with e | e
          · rcases Classical.em (b=q) with e' | e'
            · rw [e'] at hb; exact absurd q1 hb
            · have:=hc.mono b q (by clear hx1 smno; grind) hb; omega
          · exact e
        have:=V.eq_lo (q:=q) (by clear hx1 smno; grind) (by clear hx1 smno; grind) q1
        rw [←(M9 V.s hf q3 (by omega)).s,hx1 q q1 (Rat.le_of_lt q2)]
      have right:∀ s,RS w (cq P lo hi) s→cq P lo hi b=-1→s=Qp (ev w b):=fun s hs hb=>by
        obtain ⟨y,hy,hy1⟩:=hs
        obtain ⟨q,q1,q2,q3⟩:=Qkr hc hy hb
        have hqa:=hc.lt ha q1
        have:=V.eq_hi (q:=q) (by clear hy1 smno; grind) (by clear hy1 smno; grind) (by omega)
        have hs:=M9 V.s hf q3 (by omega)
        have hl:=hy1 q q1 (Rat.le_of_lt q2)
        have h0:Qp (ev w q)≠0:=by
          have hs2:=M9 V.s hf (x:=q) (y:=b) q3 (by omega)
          intro h0
          obtain ⟨r,r1,r2⟩:=hc.dn q q1
          have har:=hc.lt ha r2
          have:=V.eq_hi (q:=r) (by clear hy1 smno; grind) (by clear hy1 smno; grind) (by omega)
          have hs3:=M9 V.s hf (x:=r) (y:=q) r1 (by omega)
          have hs4:=hs3.s
          rw [h0] at hs4; exact hs3.n hs4.symm
        rw [hs.s,Fl h0,hl]
      refine ⟨fun h=>⟨?_,ha,hb⟩,fun ⟨hw,_,_⟩=>?_⟩
      · rcases Pv hc w with e | ⟨s,hs0,hs⟩
        · exact e
        · exfalso
          have l1:=left s (Qoy hc hs)
          have r1:Qp (ev w b)=s:=by
            rcases hc.val b with e | e | e
            · exact absurd e hb
            · exact Qil hc e hs
            · exact (right s (Qdn hc hs) e).symm
          rcases h with h | h
          · exact hs0 (by rw [←r1]; exact h)
          · exact h (by rw [r1,l1])
      · rcases hc.val b with e | e | e
        · exact absurd e hb
        · exact .inl (Zb.2 (En hc e hw))
        · obtain ⟨s,hs0,hs⟩:=Qn5 hc V.s hf hw
          have l1:=left _ (Qwz hc hw (Qoy hc hs) hs0)
          have r1:=right _ (Qf0 hc hw (Qdn hc hs) hs0) e
          exact .inr (by rw [←l1,←r1]; omega)
  · have hla:lo<a:=by
     rcases Classical.em (lo=a) with e | e
     · rw [←e] at ha; exact absurd (Fc Rat.le_refl) ha
     · grind
    have hb:cq P lo hi b≠1:=by have:=hc.mono a b h2 ha; omega
    have e1:=V.eq_hi hla (by grind) ha
    have e2:=V.eq_hi (q:=b) (by grind) h3 hb
    exact ⟨fun h=>absurd h (smno (by omega)),fun h=>absurd h.2.1 ha⟩
theorem Qhd {c c':Rat→Int} (hc:Cut c) (hc':Cut c') {q:Rat} (h:c q≠c' q):∃ r,(c r=-1∧c' r=1)∨(c r=1∧c' r=-1):=by
  rcases hc.val q with e | e | e <;> rcases hc'.val q with e' | e' | e'
  · omega
  · obtain ⟨r,r1,r2⟩:=hc.up q e
    exact ⟨r,.inr ⟨r2,hc'.mono q r r1 (by omega)⟩⟩
  · exact ⟨q,.inr ⟨e,e'⟩⟩
  · obtain ⟨r,r1,r2⟩:=hc'.up q e'
    exact ⟨r,.inl ⟨hc.mono q r r1 (by omega),r2⟩⟩
  · omega
  · obtain ⟨r,r1,r2⟩:=hc'.dn q e'
    exact ⟨r,.inr ⟨hc.mono' r1 (by omega),r2⟩⟩
  · exact ⟨q,.inl ⟨e,e'⟩⟩
  · obtain ⟨r,r1,r2⟩:=hc.dn q e
    exact ⟨r,.inl ⟨r2,hc'.mono' r1 (by omega)⟩⟩
  · omega
theorem Vt.uniq (V:Vt P L lo hi) {c:Rat→Int} (hc:Cut c) (h1:c lo=1) (h2:c hi≠1) (hv:Ha P c) (q:Rat):c q=cq P lo hi q:=by
  rcases Classical.em (c q=cq P lo hi q) with e | e
  · exact e
  · exfalso
    obtain ⟨r,⟨r1,r2⟩ | ⟨r1,r2⟩⟩:=Qhd hc V.cut e
    · have hl:=hc.lt h1 r1
      have hh:r≤hi:=by
       rcases Qy r hi with e | e
       · exact e
       · have:=Bt (P:=P) V.l e; omega
      have:=V.eq_lo hl hh r2
      exact Qxc V.s (w:=P) (u:=[1]) (fun t=>by rw [X1]; grind) (x:=lo) (y:=r) (by omega) hc h1 (by omega) hv
    · have hl:lo<r:=by
       rcases Qy r lo with e | e
       · have:=Fc (P:=P) (hi:=hi) e; omega
       · exact e
      have hh:r≤hi:=by
       rcases Qy r hi with e | e
       · exact e
       · have:=hc.mono hi r e h2; omega
      have:=V.eq_hi hl hh (by omega)
      exact Qxc V.s (w:=P) (u:=[1]) (fun t=>by rw [X1]; grind) (x:=r) (y:=hi) (by omega) hc r1 h2 hv
theorem Vt.same (V:Vt P L lo hi) {P':List Rat} {L':List (List Rat)} {lo' hi':Rat} (V':Vt P' L' lo' hi') {g u u' U W:List Rat} {k:Rat} (hk:k≠0) (h1:∀ t,ev P t=ev g t*ev u t) (h2:∀ t,ev P' t=ev g t*ev u' t) (h3:∀ t,k*ev g t=ev U t*ev P t+ev W t*ev P' t) {a b:Rat} (ha1:lo≤a) (ha2:lo'≤a) (ha:a=lo∨a=lo') (hb1:b≤hi) (hb2:b≤hi') (hb:b=hi∨b=hi'):(a<b∧Qk4 g a b)↔∀ q,cq P lo hi q=cq P' lo' hi' q:=by
  have hc:=V.cut
  have hc':=V'.cut
  constructor
  · rintro ⟨hab,hg⟩
    obtain ⟨g1,g2,g3⟩:=(V.has h1 ha1 hab hb1).1 hg
    obtain ⟨g4,g5,g6⟩:=(V'.has h2 ha2 hab hb2).1 hg
    intro q
    refine (V.uniq hc' (by
      rcases Classical.em (lo=a) with e | e
      · rw [e]; exact g5
      · exact hc'.mono' (q:=lo) (r:=a) (by grind) (by omega)) (fun h=>?_) (Yk hc' h1 g4) q).symm
    rcases Classical.em (b=hi) with e | e
    · rw [←e] at h; exact g6 h
    · have:=hc'.mono b hi (by grind) g6; omega
  · intro h
    have hcc:cq P' lo' hi'=cq P lo hi:=funext fun q=>(h q).symm
    have e1:cq P lo hi a=1:=by
     rcases ha with rfl | rfl
     · exact Fc Rat.le_refl
     · rw [h]; exact Fc Rat.le_refl
    have e2:cq P lo hi b≠1:=by
     rcases hb with rfl | rfl
     · exact V.hi1
     · rw [h]; exact V'.hi1
    have hab:a<b:=by
      rcases Qy b a with e | e
      · rcases Classical.em (b=a) with e' | e'
        · rw [e'] at e2; exact absurd e1 e2
        · have:=hc.mono b a (by grind) e2; omega
      · exact e
    have v1:=V.van
    have v2:=V'.van
    rw [hcc] at v2
    have hg:Ha g (cq P lo hi):=by
      have a1:Ha (Zn U P) (cq P lo hi):=Yk hc (p:=P) (q:=U) (fun t=>by rw [Qk]; grind) v1
      have a2:Ha (Zn W P') (cq P lo hi):=Yk hc (p:=P') (q:=W) (fun t=>by rw [Qk]; grind) v2
      have a3:=Iv (fun t=>Zj t _ _) a1 a2
      refine Qd3 hc (k:=1 / k) (fun t=>?_) a3
      rw [Zj,Qk,Qk,←h3]
      have:1 / k*(k*ev g t)=1 / k*k*ev g t:=by grind
      rw [this,show 1 / k*k=1 from Rat.div_mul_cancel hk]; grind
    exact ⟨hab,(V.has h1 ha1 hab hb1).2 ⟨hg,e1,e2⟩⟩
end Orq

namespace Orq
theorem Qxp:∀ (M:Nat) (f:Nat→Nat),(∀ i,i≤M→f i<M)→∃ i j,i<j∧j≤M∧f i=f j
  | 0,f,h=>absurd (h 0 (Nat.le_refl _)) (Nat.not_lt_zero _)
  |
   M+1,f,h=>by
   rcases Classical.em (∃ i,i≤M∧f i=f (M+1)) with ⟨i,h1,h2⟩ | hn
   · exact ⟨i,M+1,by omega,Nat.le_refl _,h2⟩
   · have hne:∀ i,i≤M→f i≠f (M+1):=fun i hi e=>hn ⟨i,hi,e⟩
     obtain ⟨i,j,h1,h2,h3⟩:=Qxp M (fun i=>if f i=M then f (M+1) else f i) fun i hi=>by
       have a1:=h i (by omega)
       have a2:=h (M+1) (Nat.le_refl _)
       have a3:=hne i hi
       show (if f i=M then f (M+1) else f i)<M
       split <;> omega
     refine ⟨i,j,h1,by omega,?_⟩
     have a1:=hne i (by omega)
     have a2:=hne j h2
     split at h3 <;> split at h3 <;> omega
def dg (B k i:Nat):Nat:=k / B^i % B
theorem Qn3 (B k i:Nat):dg B k (i+1)=dg B (k / B) i:=by unfold dg; rw [Nat.pow_succ,Nat.mul_comm,Nat.div_div_eq_div_mul]
theorem Qve {B:Nat}:∀ (N:Nat) {k k':Nat},k<B^N→k'<B^N→(∀ i,i<N→dg B k i=dg B k' i)→k=k'
  | 0,k,k',h,h',_=>by rw [Nat.pow_zero] at h h'; omega
  |
   N+1,k,k',h,h',he=>by
   have h0:=he 0 (by omega)
   unfold dg at h0
   rw [Nat.pow_zero,Nat.div_one,Nat.div_one] at h0
   have hB:0<B:=by
     rcases Nat.eq_zero_or_pos B with e | e
     · rw [e,Nat.pow_succ,Nat.mul_zero] at h; omega
     · exact e
   have h1:=Qve N (k:=k / B) (k':=k' / B) (Nat.div_lt_of_lt_mul (by rw [Nat.mul_comm,←Nat.pow_succ]; exact h)) (Nat.div_lt_of_lt_mul (by rw [Nat.mul_comm,←Nat.pow_succ]; exact h')) fun i hi=>by
     rw [←Qn3,←Qn3]; exact he (i+1) (by omega)
   rw [←Nat.mod_add_div k B,←Nat.mod_add_div k' B,h0,h1]
def cd (B:Nat):Nat→(Nat→Nat)→Nat
  | 0,_=>0
  | E+1,x=>x 0+B*cd B E fun e=>x (e+1)
theorem Q46 {B:Nat}:∀ (E:Nat) {x:Nat→Nat},(∀ e,e<E→x e<B)→cd B E x<B^E
  | 0,_,_=>by simp [cd]
  |
   E+1,x,h=>by
   have h1:=h 0 (by omega)
   have h2:=Q46 E (x:=fun e=>x (e+1)) fun e he=>h (e+1) (by omega)
   simp only [cd]
   have h3:B*cd B E (fun e=>x (e+1))+B≤B*B^E:=by
     rw [←Nat.mul_succ]; exact Nat.mul_le_mul_left _ h2
   rw [Nat.pow_succ,Nat.mul_comm (B^E)]; omega
theorem Qu1 {B:Nat}:∀ (E:Nat) {x y:Nat→Nat},(∀ e,e<E→x e<B)→(∀ e,e<E→y e<B)→cd B E x=cd B E y→∀ e,e<E→x e=y e
  | 0,_,_,_,_,_,e,he=>by omega
  |
   E+1,x,y,hx,hy,h,e,he=>by
   have h1:=hx 0 (by omega)
   have h2:=hy 0 (by omega)
   simp only [cd] at h
   have e0:x 0=y 0:=by
     have:=congrArg (· % B) h
     simp only [Nat.add_mul_mod_self_left] at this
     rwa [Nat.mod_eq_of_lt h1,Nat.mod_eq_of_lt h2] at this
   have e1:cd B E (fun e=>x (e+1))=cd B E (fun e=>y (e+1)):=Nat.eq_of_mul_eq_mul_left (by omega:0<B) (by omega)
   cases e with
   | zero=>exact e0
   | succ e=>exact Qu1 E (fun e he=>hx (e+1) (by omega)) (fun e he=>hy (e+1) (by omega)) e1 e (by omega)
def sm:Nat→(Nat→Int)→Int
  | 0,_=>0
  | n+1,f=>sm n f+f n
theorem Qzb (f g:Nat→Int):∀ n,sm n (fun i=>f i-g i)=sm n f-sm n g
  | 0=>rfl
  | n+1=>by simp only [sm,Qzb f g n]; omega
theorem Uf {f g:Nat→Int}:∀ n,(∀ i,i<n→f i=g i)→sm n f=sm n g
  | 0,_=>rfl
  | n+1,h=>by simp only [sm,Uf n (fun i hi=>h i (by omega)),h n (by omega)]
theorem Qza {f:Nat→Int} {b:Nat}:∀ n,(∀ i,i<n→(f i).natAbs≤b)→(sm n f).natAbs≤n*b
  | 0,_=>by simp [sm]
  |
   n+1,h=>by
   have h1:=Qza n fun i hi=>h i (by omega)
   have h2:=h n (by omega)
   simp only [sm]
   rw [Nat.succ_mul]; omega
theorem Mi {f:Nat→Int}:∀ n,(∀ i,i<n→f i=0)→sm n f=0
  | 0,_=>rfl
  | n+1,h=>by simp only [sm,Mi n (fun i hi=>h i (by omega)),h n (by omega)]; rfl
theorem Qme (f:Nat→Int) (m:Nat):∀ n,sm (m+n) f=sm m f+sm n fun i=>f (m+i)
  | 0=>by simp [sm]
  | n+1=>by rw [←Nat.add_assoc]; simp only [sm,Qme f m n]; omega
theorem Qmf (f:Nat→Int) (J:Nat):∀ b,sm (b*J) f=sm b fun i=>sm J fun j=>f (i*J+j)
  | 0=>by simp [sm]
  | b+1=>by rw [Nat.succ_mul,Qme,Qmf f J b]; rfl
theorem Qbc {f:Nat→Int} {k:Nat}:∀ n,k<n→(∀ i,i<n→i≠k→f i=0)→sm n f=f k
  | 0,h,_=>by omega
  |
   n+1,h,h1=>by
   simp only [sm]
   rcases Nat.lt_or_eq_of_le (Nat.le_of_lt_succ h) with e | e
   · rw [Qbc n e fun i hi=>h1 i (by omega),h1 n (by omega) (by omega)]; omega
   · subst e; rw [Mi k fun i hi=>h1 i (by omega) (by omega)]; omega
theorem Q8a {M:Nat→Nat→Int} {h N E H:Nat} (hM:∀ e i,(M e i).natAbs≤h) (hc:(2*(N*(h*H))+1)^E<(H+1)^N) :
    ∃ v:Nat→Int,(∀ i,(v i).natAbs≤H)∧(∃ i,i<N∧v i≠0)∧∀ e,e<E→sm N (fun i=>M e i*v i)=0:=by
  obtain ⟨T,hT⟩:∃ T,T=N*(h*H):=⟨_,rfl⟩
  rw [←hT] at hc
  have hv:∀ k i,dg (H+1) k i≤H:=fun k i=>Nat.le_of_lt_succ (Nat.mod_lt _ (by omega))
  have hs:∀ k e,(sm N fun i=>M e i*(dg (H+1) k i:Int)).natAbs≤T:=fun k e=>by
    rw [hT]
    refine Qza N fun i _=>?_
    rw [Int.natAbs_mul,Int.natAbs_natCast]
    exact Nat.mul_le_mul (hM e i) (hv k i)
  have him:∀ k e,((sm N fun i=>M e i*(dg (H+1) k i:Int))+T).toNat<2*T+1:=fun k e=>by have:=hs k e; omega
  obtain ⟨i,j,h1,h2,h3⟩:=Qxp ((2*T+1)^E) (fun k=>cd (2*T+1) E fun e=>((sm N fun i=>M e i*(dg (H+1) k i:Int))+T).toNat) fun k _=>Q46 E fun e _=>him k e
  have h4:=Qu1 E (fun e _=>him i e) (fun e _=>him j e) h3
  refine ⟨fun n=>(dg (H+1) i n:Int)-dg (H+1) j n,fun n=>?_,?_,fun e he=>?_⟩
  · have a1:=hv i n
    have a2:=hv j n
    show ((dg (H+1) i n:Int)-dg (H+1) j n).natAbs≤H
    omega
  · rcases Classical.em (∃ n,n<N∧(dg (H+1) i n:Int)-dg (H+1) j n≠0) with e | e
    · exact e
    · exfalso
      have:i=j:=Qve (B:=H+1) N (by omega) (by omega) fun n hn=>by
        rcases Classical.em (dg (H+1) i n=dg (H+1) j n) with e' | e'
        · exact e'
        · exact absurd ⟨n,hn,by omega⟩ e
      omega
  · have a1:=h4 e he
    have a2:=hs i e
    have a3:=hs j e
    have:(sm N fun n=>M e n*(dg (H+1) i n:Int))=sm N fun n=>M e n*(dg (H+1) j n:Int):=by omega
    have e1:=Qzb (fun n=>M e n*(dg (H+1) i n:Int)) (fun n=>M e n*(dg (H+1) j n:Int)) N
    rw [this] at e1
    rw [Uf N (g:=fun n=>M e n*(dg (H+1) i n:Int)-M e n*(dg (H+1) j n:Int)) fun n _=>Int.mul_sub _ _ _,e1]; omega
end Orq

namespace Orq
def Qh:List Int→Rat→Rat
  | [],_=>0
  | a::p,t=>(a:Rat)+t*Qh p t
def sq:Nat→(Nat→Rat)→Rat
  | 0,_=>0
  | n+1,f=>sq n f+f n
theorem J9 {f g:Nat→Rat}:∀ n,(∀ i,i<n→f i=g i)→sq n f=sq n g
  | 0,_=>rfl
  | n+1,h=>by simp only [sq,J9 n (fun i hi=>h i (by omega)),h n (by omega)]
theorem Qmk (f g:Nat→Rat):∀ n,sq n (fun i=>f i+g i)=sq n f+sq n g
  | 0=>by simp only [sq]; grind
  | n+1=>by simp only [sq,Qmk f g n]; grind
theorem Po (c:Rat) (f:Nat→Rat):∀ n,sq n (fun i=>c*f i)=c*sq n f
  | 0=>by simp only [sq]; grind
  | n+1=>by simp only [sq,Po c f n]; grind
theorem Ku {f:Nat→Rat}:∀ n,(∀ i,i<n→f i=0)→sq n f=0
  | 0,_=>rfl
  | n+1,h=>by simp only [sq,Ku n (fun i hi=>h i (by omega)),h n (by omega)]; grind
theorem H7 (f:Nat→Rat):∀ n,sq (n+1) f=f 0+sq n fun i=>f (i+1)
  | 0=>by simp only [sq]; grind
  | n+1=>by rw [sq,H7 f n]; simp only [sq]; grind
theorem Q5t {f:Nat→Rat} {b:Rat}:∀ n,(∀ i,i<n→Qn (f i)≤b)→Qn (sq n f)≤(n:Rat)*b
  | 0,_=>by rw [show ((0:Nat):Rat)=0 from rfl]; simp only [sq,Xk]; grind
  |
   n+1,h=>by
   have h1:=Q5t n fun i hi=>h i (by omega)
   have h2:=h n (by omega)
   have h3:=Jm (sq n f) (f n)
   have hn':(((n+1:Nat):Rat))=(n:Rat)+1:=by push_cast; rfl
   rw [hn']; simp only [sq]; clear h; grind
def gc:List Int→Nat→Nat→Int
  | [],_,_=>0
  | c::B,k,j=>(if k=0∧j=0 then c else 0)+(if k=0 then 0 else gc B (k-1) j)-(if j=0 then 0 else gc B k (j-1))
def gB:List Int→Nat
  | []=>0
  | c::B=>max c.natAbs (2*gB B)
theorem A5:∀ (B:List Int) (k j:Nat),B.length≤k+j→gc B k j=0
  | [],_,_,_=>rfl
  |
   c::B,k,j,h=>by
   simp only [List.length_cons] at h
   simp only [gc]
   rw [if_neg (by omega)]
   have e1:(if k=0 then 0 else gc B (k-1) j)=0:=by
     split
     · rfl
     · exact A5 B _ _ (by omega)
   have e2:(if j=0 then 0 else gc B k (j-1))=0:=by
     split
     · rfl
     · exact A5 B _ _ (by omega)
   rw [e1,e2]; rfl
theorem Qv4:∀ (B:List Int) (k j:Nat),(gc B k j).natAbs≤gB B
  | [],_,_=>Nat.zero_le _
  |
   c::B,k,j=>by
   have h1:=Qv4 B (k-1) j
   have h2:=Qv4 B k (j-1)
   simp only [gc,gB]
   by_cases hk:k=0 <;> by_cases hj:j=0 <;> simp only [hk,hj,true_and,and_true,false_and,and_false,if_true,if_false] <;> (try subst hk) <;> (try subst hj) <;> omega
theorem Qv5:∀ (B:List Int) (b:Nat),B.length=b+1→(gc B 0 b).natAbs=(B.getD b 0).natAbs
  | [],_,h=>by simp at h
  | [c],0,_=>by simp [gc]
  | c::d::B,0,h=>by simp at h
  |
   c::B,b+1,h=>by
   have ih:=Qv5 B b (by simpa using h)
   simp only [gc]
   simp only [Nat.add_sub_cancel,List.getD_cons_succ]
   rw [if_pos trivial,if_neg (Nat.succ_ne_zero b),←ih]; omega
def E2 (F:Nat→Nat→Int) (K J:Nat) (x y:Rat):Rat:=sq K fun k=>sq J fun j=>(F k j:Rat)*(y^k*x^j)
theorem Qkv (F G:Nat→Nat→Int) (K J:Nat) (x y:Rat):E2 (fun k j=>F k j+G k j) K J x y=E2 F K J x y+E2 G K J x y:=by
  unfold E2
  rw [←Qmk]
  refine J9 K fun k _=>?_
  rw [←Qmk]
  exact J9 J fun j _=>by push_cast; grind
theorem Qvn (c:Int) (F:Nat→Nat→Int) (K J:Nat) (x y:Rat):E2 (fun k j=>F k j*c) K J x y=(c:Rat)*E2 F K J x y:=by
  unfold E2
  rw [←Po]
  refine J9 K fun k _=>?_
  rw [←Po]
  exact J9 J fun j _=>by push_cast; grind
theorem Qvo (φ:Nat→Nat→Nat→Int) (v:Nat→Int) (K J:Nat) (x y:Rat):∀ N,E2 (fun k j=>sm N fun n=>φ n k j*v n) K J x y=sq N fun n=>(v n:Rat)*E2 (φ n) K J x y
  |
   0=>by
   simp only [sq,sm]
   unfold E2
   refine Ku K fun k _=>Ku J fun j _=>?_
   rw [show ((0:Int):Rat)=0 from rfl]; grind
  |
   N+1=>by
   simp only [sq]
   rw [←Qvo φ v K J x y N,←Qvn,←Qkv]
   rfl
theorem C0 (t:Rat) (i:Nat):∀ k,t^(i+k)=t^i*t^k
  | 0=>by rw [Nat.add_zero,Rat.pow_zero]; grind
  | k+1=>by rw [←Nat.add_assoc,Rat.pow_succ,Rat.pow_succ,C0 t i k]; grind
theorem Qbd (f:Nat→Rat):∀ (i n:Nat),sq (i+n) (fun k=>if i≤k then f (k-i) else 0)=sq n f
  | i,0=>Ku _ fun k hk=>by rw [if_neg (by omega)]
  |
   i,n+1=>by
   rw [←Nat.add_assoc]; simp only [sq]
   rw [Qbd f i n,if_pos (by omega),Nat.add_sub_cancel_left]
def Aq (i j':Nat) (F:Nat→Nat→Int) (k j:Nat):Int:=if i≤k then (if j'≤j then F (k-i) (j-j') else 0) else 0
theorem Ox (F:Nat→Nat→Int) (i j' K J:Nat) (x y:Rat):E2 (Aq i j' F) (i+K) (j'+J) x y=y^i*x^j'*E2 F K J x y:=by
  unfold E2
  rw [←Po,←Qbd _ i K]
  refine J9 _ fun k _=>?_
  by_cases hk:i≤k
  · rw [if_pos hk,←Po,←Qbd _ j' J]
    refine J9 _ fun j _=>?_
    unfold Aq
    rw [if_pos hk]
    by_cases hj:j'≤j
    · rw [if_pos hj,if_pos hj]
      have e1:y^k=y^i*y^(k-i):=by rw [←C0]; congr 1; omega
      have e2:x^j=x^j'*x^(j-j'):=by rw [←C0]; congr 1; omega
      rw [e1,e2]; grind
    · rw [if_neg hj,if_neg hj,show ((0:Int):Rat)=0 from rfl]; grind
  · rw [if_neg hk]
    refine Ku _ fun j _=>?_
    unfold Aq
    rw [if_neg hk,show ((0:Int):Rat)=0 from rfl]; grind
def fA (A:List Int) (k j:Nat):Int:=if j=0 then A.getD k 0 else 0
theorem Qxo (y:Rat):∀ (A:List Int) (K:Nat),A.length≤K→sq K (fun k=>((A.getD k 0:Int):Rat)*y^k)=Qh A y
  | [],K,_=>by rw [Ku]; rfl; intro i _; simp
  | a::A,0,h=>by simp at h
  |
   a::A,K+1,h=>by
   have ih:=Qxo y A K (by simpa using h)
   rw [H7]
   simp only [Qh,List.getD_cons_zero,List.getD_cons_succ,Rat.pow_zero]
   rw [←ih,←Po]
   have:(sq K fun i=>((A.getD i 0:Int):Rat)*y^(i+1))=sq K fun i=>y*(((A.getD i 0:Int):Rat)*y^i):=J9 K fun i _=>by rw [Rat.pow_succ]; grind
   rw [this]; grind
theorem Q9z (A:List Int) (K J:Nat) (x y:Rat) (h:A.length≤K):E2 (fA A) K (J+1) x y=Qh A y:=by
  rw [←Qxo y A K h]
  refine J9 K fun k _=>?_
  rw [H7,Ku]
  · simp only [fA,if_true,Rat.pow_zero]; grind
  · intro j _
    simp only [fA]
    rw [if_neg (by omega),show ((0:Int):Rat)=0 from rfl]; grind
theorem Q60 (x y:Rat):∀ (B:List Int) (K J:Nat),B.length≤K→B.length≤J→E2 (gc B) K J x y=Qh B (y-x)
  |
   [],K,J,_,_=>by
   unfold E2
   simp only [gc,Qh]
   exact Ku K fun k _=>Ku J fun j _=>by rw [show ((0:Int):Rat)=0 from rfl]; grind
  | c::B,0,J,h,_=>by simp at h
  | c::B,K+1,0,_,h=>by simp at h
  |
   c::B,K+1,J+1,h1,h2=>by
   have i1:=Q60 x y B K (J+1) (by simpa using h1) (by simp at h2; omega)
   have i2:=Q60 x y B (K+1) J (by simp at h1; omega) (by simpa using h2)
   have s1:=Ox (gc B) 1 0 K (J+1) x y
   have s2:=Ox (gc B) 0 1 (K+1) J x y
   rw [Nat.zero_add,Nat.add_comm 1 K] at s1
   rw [Nat.zero_add,Nat.add_comm 1 J] at s2
   rw [i1] at s1
   rw [i2] at s2
   have e0:E2 (fA [c]) (K+1) (J+1) x y=(c:Rat):=by rw [Q9z [c] (K+1) J x y (by simp)]; simp only [Qh]; grind
   have e1:gc (c::B)=fun k j=>(fA [c] k j+Aq 1 0 (gc B) k j)+Aq 0 1 (gc B) k j*(-1):=by
     funext k j
     simp only [gc,fA,Aq]
     by_cases hk:k=0 <;> by_cases hj:j=0
     · subst hk; subst hj; simp
     · subst hk; simp [hj,show 1≤j by omega]
       try omega
     · subst hj
       obtain ⟨m,rfl⟩:∃ m,k=m+1:=⟨k-1,by omega⟩
       simp
     · obtain ⟨m,rfl⟩:∃ m,k=m+1:=⟨k-1,by omega⟩
       obtain ⟨i,rfl⟩:∃ i,j=i+1:=⟨j-1,by omega⟩
       simp; omega
   rw [e1,Qkv (fun k j=>fA [c] k j+Aq 1 0 (gc B) k j) (fun k j=>Aq 0 1 (gc B) k j*(-1)),Qkv (fA [c]) (Aq 1 0 (gc B)),Qvn,e0,s1,s2]
   simp only [Qh,Rat.pow_zero,show y^1=y by rw [Rat.pow_succ,Rat.pow_zero]; grind,show x^1=x by rw [Rat.pow_succ,Rat.pow_zero]; grind]
   rw [show (((-1:Int)):Rat)=-1 from rfl]
   grind
end Orq

namespace Orq
def phi (A B:List Int) (b J J' n k j:Nat):Int:=if n<b*J then Aq (n / J) (n % J) (fA A) k j else Aq ((n-b*J) / J') ((n-b*J) % J') (gc B) k j
theorem Qy5 {F:Nat→Nat→Int} {h:Nat} (hF:∀ k j,(F k j).natAbs≤h) (i j' k j:Nat):(Aq i j' F k j).natAbs≤h:=by
  unfold Aq; split
  · split
    · exact hF _ _
    · exact Nat.zero_le _
  · exact Nat.zero_le _
theorem Q5h {i b J j:Nat} (hi:i<b) (hj:j<J):i*J+j<b*J:=by
  have:(i+1)*J≤b*J:=Nat.mul_le_mul_right J hi
  rw [Nat.succ_mul] at this; omega
theorem Lo {i J j:Nat} (hj:j<J):(i*J+j) / J=i∧(i*J+j) % J=j:=by
  rw [Nat.mul_comm,Nat.mul_add_div (by omega),Nat.mul_add_mod,Nat.div_eq_of_lt hj,Nat.mod_eq_of_lt hj]; exact ⟨by omega,rfl⟩
theorem Qdx (A B:List Int) (a b J J':Nat) (v:Nat→Int) (k j:Nat):sm (b*J+a*J') (fun n=>phi A B b J J' n k j*v n) =
    (sm b fun i=>sm J fun j1=>Aq i j1 (fA A) k j*v (i*J+j1))+sm a fun i=>sm J' fun j1=>Aq i j1 (gc B) k j*v (b*J+(i*J'+j1)):=by
  rw [Qme,Qmf,Qmf]
  congr 1
  · refine Uf b fun i hi=>Uf J fun j1 hj=>?_
    unfold phi
    rw [if_pos (Q5h hi hj),(Lo hj).1,(Lo hj).2]
  · refine Uf a fun i hi=>Uf J' fun j1 hj=>?_
    unfold phi
    rw [if_neg (by omega),Nat.add_sub_cancel_left,(Lo hj).1,(Lo hj).2]
theorem Q9r (A:List Int) (v:Nat→Int) {i J k j:Nat} (hj:j<J):(sm J fun j1=>Aq i j1 (fA A) k j*v (i*J+j1))=if i≤k then A.getD (k-i) 0*v (i*J+j) else 0:=by
  rw [Qbc (k:=j) J hj fun j1 _ hne=>?_]
  · unfold Aq fA
    by_cases h:i≤k
    · rw [if_pos h,if_pos h,if_pos (Nat.le_refl _),if_pos (Nat.sub_self _)]
    · rw [if_neg h,if_neg h,Int.zero_mul]
  · unfold Aq fA
    by_cases h:i≤k
    · rw [if_pos h]
      by_cases h':j1≤j
      · rw [if_pos h',if_neg (by omega),Int.zero_mul]
      · rw [if_neg h',Int.zero_mul]
    · rw [if_neg h,Int.zero_mul]
section
variable {A B:List Int} {a b J J':Nat} (hA:A.length=a+1) (hB:B.length=b+1) (lA:A.getD a 0≠0) (lB:B.getD b 0≠0) (hJ:J=J'+b) {v:Nat→Int} (hW:∀ k j,k<a+b→j<J→sm (b*J+a*J') (fun n=>phi A B b J J' n k j*v n)=0)
include hA lA hW in
theorem Q48 {jj:Nat} (hj:jj<J) (hV:∀ k,a≤k→k<a+b→(sm a fun i=>sm J' fun j1=>Aq i j1 (gc B) k jj*v (b*J+(i*J'+j1)))=0):∀ d i,i<b→b-i≤d→v (i*J+jj)=0:=by
  intro d
  induction d with
  | zero=>intro i hi hd; omega
  |
   succ d ih =>
   intro i hi hd
   have h1:=hW (i+a) jj (by omega) hj
   rw [Qdx,hV (i+a) (by omega) (by omega)] at h1
   rw [Uf b (fun i' hi'=>Q9r A v hj)] at h1
   rw [Qbc (k:=i) b hi fun i' hi' hne=>?_] at h1
   · rw [if_pos (by omega),Nat.add_sub_cancel_left,Int.add_zero] at h1
     rcases Int.mul_eq_zero.1 h1 with h2 | h2
     · exact absurd h2 lA
     · exact h2
   · rcases Nat.lt_or_ge i i' with h | h
     · rw [ih i' hi' (by omega)]; simp
     · rw [if_pos (by omega),List.getD_eq_getElem?_getD,List.getElem?_eq_none (by omega)]; simp
include hA hB lA lB hJ hW in
theorem Q9x:∀ d js,js<J'→J'-js≤d→∀ i,i<a→v (b*J+(i*J'+js))=0:=by
  intro d
  induction d with
  | zero=>intro js hi hd; omega
  |
   succ d ih =>
   intro js hjs hd i hi
   have hin:∀ i' k,i'<a→(sm J' fun j1=>Aq i' j1 (gc B) k (js+b)*v (b*J+(i'*J'+j1)))=if i'=k then gc B 0 b*v (b*J+(i'*J'+js)) else 0:=fun i' k hi'=>by
     rw [Qbc (k:=js) J' hjs fun j1 hj1 hne=>?_]
     · unfold Aq
       by_cases h:i'≤k
       · rw [if_pos h,if_pos (by omega),Nat.add_sub_cancel_left]
         by_cases h':i'=k
         · rw [if_pos h',h',Nat.sub_self]
         · rw [if_neg h',A5 B _ _ (by omega),Int.zero_mul]
       · rw [if_neg h,if_neg (by omega),Int.zero_mul]
     · rcases Nat.lt_or_ge js j1 with h | h
       · rw [ih j1 hj1 (by omega) i' hi',Int.mul_zero]
       · unfold Aq
         by_cases h':i'≤k
         · rw [if_pos h',if_pos (by omega),A5 B _ _ (by omega),Int.zero_mul]
         · rw [if_neg h',Int.zero_mul]
   have hU:=Q48 hA lA hW (jj:=js+b) (by omega) (fun k hk hk'=>Mi a fun i' hi'=>by rw [hin i' k hi',if_neg (by omega)]) (b+1)
   have h1:=hW i (js+b) (by omega) (by omega)
   rw [Qdx,Uf a (fun i' hi'=>hin i' i hi')] at h1
   rw [Mi b fun i' hi'=>by
     rw [Q9r A v (by omega),hU i' hi' (by omega)]; simp] at h1
   rw [Qbc (k:=i) a hi fun i' hi' hne=>if_neg hne,if_pos rfl,Int.zero_add] at h1
   rcases Int.mul_eq_zero.1 h1 with h2 | h2
   · have:=Qv5 B b hB; rw [h2] at this; omega
   · exact h2
include hA hB lA lB hJ hW in
theorem Qsz:∀ n,n<b*J+a*J'→v n=0:=by
  intro n hn
  have hV:=Q9x hA hB lA lB hJ hW
  rcases Nat.lt_or_ge n (b*J) with h | h
  · have hJp:0<J:=by
      rcases Nat.eq_zero_or_pos J with e | e
      · rw [e,Nat.mul_zero] at h; omega
      · exact e
    have e1:=Nat.mod_lt n hJp
    have e2:n / J<b:=Nat.div_lt_of_lt_mul (by rw [Nat.mul_comm]; exact h)
    have:=Q48 hA lA hW e1 (fun k _ _=>Mi a fun i hi=>Mi J' fun j1 hj1=>by rw [hV J' j1 hj1 (by omega) i hi,Int.mul_zero]) (b+1) (n / J) e2 (Nat.le_trans (Nat.sub_le _ _) (Nat.le_succ _))
    rwa [Nat.mul_comm,Nat.div_add_mod] at this
  · have hJp:0<J':=by
      rcases Nat.eq_zero_or_pos J' with e | e
      · rw [e,Nat.mul_zero] at hn; omega
      · exact e
    have e1:=Nat.mod_lt (n-b*J) hJp
    have e2:(n-b*J) / J'<a:=Nat.div_lt_of_lt_mul (by rw [Nat.mul_comm J' a]; omega)
    have:=hV J' _ e1 (by omega) _ e2
    rw [Nat.mul_comm ((n-b*J) / J'),Nat.div_add_mod] at this
    rwa [show b*J+(n-b*J)=n by omega] at this
end
theorem Me {R x:Rat} (h1:1≤R) (hx:Qn x≤R):∀ k:Nat,Qn (x^k)≤R^k∧1≤R^k
  | 0=>by rw [Rat.pow_zero,Rat.pow_zero]; exact ⟨by decide,by decide⟩
  |
   k+1=>by
   obtain ⟨i1,i2⟩:=Me h1 hx k
   rw [Rat.pow_succ,Rat.pow_succ]
   have:=Kj (a:=1) (c:=1) (by decide) i2 (by decide) h1
   exact ⟨Zs i1 hx,by grind⟩
theorem Qps {R:Rat} (h1:1≤R) {i:Nat}:∀ k,i≤k→R^i≤R^k
  | 0,h=>by rw [show i=0 by omega]; exact Rat.le_refl
  |
   k+1,h=>by
   rcases Nat.lt_or_eq_of_le h with e | e
   · have:=Qps h1 (i:=i) k (by omega)
     have h2:=(Me h1 (x:=0) (by rw [Xk]; grind) k).2
     rw [Rat.pow_succ]
     have:=Kj (a:=R^k) (b:=R^k) (c:=1) (d:=R) (by grind) Rat.le_refl (by decide) h1
     grind
   · rw [e]; exact Rat.le_refl
theorem Qy4 {F:Nat→Nat→Int} {i j' K J:Nat} {x y R X:Rat} {K2 J2:Nat} (h1:1≤R) (hx:Qn x≤R) (hy:Qn y≤R) (hK:K=i+K2) (hJ:J=j'+J2) (hF:E2 F K2 J2 x y=X):Qn (E2 (Aq i j' F) K J x y)≤R^(K+J)*Qn X:=by
  subst hK; subst hJ
  rw [Ox,hF,Gm]
  have a1:=(Me h1 hy i).1
  have a2:=(Me h1 hx j').1
  have a3:=Zs a1 a2
  rw [←C0] at a3
  have a4:=Qps h1 (i:=i+j') (i+K2+(j'+J2)) (by omega)
  exact Kj (Z9 _) (Rat.le_trans a3 a4) (Z9 _) Rat.le_refl
theorem Q76 {A B:List Int} {a b h:Nat} (hA:A.length=a+1) (hB:B.length=b+1) (lA:A.getD a 0≠0) (lB:B.getD b 0≠0) (ha:0<a) (hb:0<b) (h0:1≤h) (bA:∀ k,(A.getD k 0).natAbs≤h) (bB:gB B≤h) {J J' N H:Nat} (hJ:J=2*(a*b)) (hJ':J=J'+b) (hN:N=b*J+a*J') (hH:H=(2*(N*h))^(2*(a+b-1))) :
    ∃ w:Nat→Int,(∃ j,j<J∧w j≠0)∧(∀ j,(w j).natAbs≤N*(h*H))∧∀ R:Rat,1≤R→∃ C:Rat,0≤C∧∀ x y,Qn x≤R→Qn y≤R→Qn (sq J fun j=>(w j:Rat)*x^j)≤C*(Qn (Qh A y)+Qn (Qh B (y-x))):=by
  have hab:0<a*b:=Nat.mul_pos ha hb
  have hbd:∀ n k j,(phi A B b J J' n k j).natAbs≤h:=fun n k j=>by
    unfold phi
    split
    · exact Qy5 (fun k j=>by unfold fA; split; exact bA k; exact Nat.zero_le _) _ _ _ _
    · exact Qy5 (fun k j=>Nat.le_trans (Qv4 B k j) bB) _ _ _ _
  have hJp:0<J:=by omega
  have hNp:1≤N:=by
    have:0<b*J:=Nat.mul_pos hb hJp
    omega
  have hNh:1≤N*h:=Nat.mul_pos hNp h0
  obtain ⟨E,hE⟩:∃ E,E=(a+b-1)*J:=⟨_,rfl⟩
  have hNE:N=E+a*b:=by
    have e1:(a+b-1)*J+J=(a+b)*J:=by
      rw [←Nat.succ_mul]; congr 1; omega
    have e2:a*J=a*J'+a*b:=by rw [hJ',Nat.mul_add]
    rw [Nat.add_mul] at e1
    omega
  have hc:(2*(N*(h*H))+1)^E<(H+1)^N:=by
    have c1:2*(N*(h*H))+1≤2*(N*h)*(H+1):=by
      rw [Nat.mul_add,Nat.mul_one,Nat.mul_assoc 2,Nat.mul_assoc N]; omega
    refine Nat.lt_of_le_of_lt (Nat.pow_le_pow_left c1 E) ?_
    rw [Nat.mul_pow,hNE,Nat.pow_add,Nat.mul_comm]
    refine Nat.mul_lt_mul_of_pos_left ?_ (Nat.pow_pos (by omega))
    have e1:(2*(N*h))^E=H^(a*b):=by
      rw [hH,←Nat.pow_mul,hE,hJ]; congr 1
      rw [Nat.mul_comm 2 (a+b-1),Nat.mul_assoc]
    rw [←hNE,e1]
    exact Nat.pow_lt_pow_left (by omega) (by omega)
  obtain ⟨v,v1,⟨n0,n1,n2⟩,v3⟩:=Q8a (M:=fun e n=>phi A B b J J' n (e / J+1) (e % J)) (h:=h) (N:=N) (E:=E) (H:=H) (fun e n=>hbd n _ _) hc
  have hW:∀ k j,1≤k→k<a+b→j<J→sm N (fun n=>phi A B b J J' n k j*v n)=0:=fun k j k1 k2 hj=>by
    have:=v3 ((k-1)*J+j) (by rw [hE]; exact Q5h (by omega) hj)
    rwa [(Lo hj).1,(Lo hj).2,show k-1+1=k by omega] at this
  refine ⟨fun j=>sm N fun n=>phi A B b J J' n 0 j*v n,?_,fun j=>?_,fun R hR=>?_⟩
  · rcases Classical.em (∃ j,j<J∧(sm N fun n=>phi A B b J J' n 0 j*v n)≠0) with e | e
    · exact e
    · exfalso
      refine n2 (Qsz hA hB lA lB hJ' (v:=v) (fun k j hk hj=>?_) n0 (by rw [←hN]; exact n1))
      rw [←hN]
      rcases Nat.eq_zero_or_pos k with e' | e'
      · subst e'
        rcases Classical.em ((sm N fun n=>phi A B b J J' n 0 j*v n)=0) with e2 | e2
        · exact e2
        · exact absurd ⟨j,hj,e2⟩ e
      · exact hW k j e' hk hj
  · refine Qza N fun n _=>?_
    rw [Int.natAbs_mul]
    exact Nat.mul_le_mul (hbd n 0 j) (v1 n)
  · have hRp:∀ k:Nat,1≤R^k:=fun k=>(Me hR (x:=0) (by rw [Xk]; grind) k).2
    have hHn:(0:Rat)≤(H:Rat):=Rat.natCast_nonneg
    have hNn:(0:Rat)≤(N:Rat):=Rat.natCast_nonneg
    refine ⟨(N:Rat)*((H:Rat)*R^(a+b+J)),Vw hNn (Vw hHn (by have:=hRp (a+b+J); grind)),fun x y hx hy=>?_⟩
    have e1:(sq J fun j=>((sm N fun n=>phi A B b J J' n 0 j*v n:Int):Rat)*x^j)=E2 (fun k j=>sm N fun n=>phi A B b J J' n k j*v n) (a+b) J x y:=by
      unfold E2
      obtain ⟨m,hm⟩:∃ m,a+b=m+1:=⟨a+b-1,by omega⟩
      rw [hm,H7,Ku (n:=m)]
      · have:(sq J fun j=>((sm N fun n=>phi A B b J J' n 0 j*v n:Int):Rat)*(y^0*x^j))=sq J fun j=>((sm N fun n=>phi A B b J J' n 0 j*v n:Int):Rat)*x^j:=J9 J fun j _=>by rw [Rat.pow_zero]; grind
        rw [this]; grind
      · intro k hk
        refine Ku J fun j hj=>?_
        show ((sm N fun n=>phi A B b J J' n (k+1) j*v n:Int):Rat)*_=0
        rw [hW (k+1) j (by omega) (by omega) hj,show ((0:Int):Rat)=0 from rfl]; grind
    rw [e1,Qvo]
    have key:∀ n,n<N→Qn ((v n:Rat)*E2 (phi A B b J J' n) (a+b) J x y)≤(H:Rat)*(R^(a+b+J)*(Qn (Qh A y)+Qn (Qh B (y-x)))):=fun n hn=>by
      have hvn:Qn (v n:Rat)≤(H:Rat):=by
        have h1:=v1 n
        have h2:(v n)≤(H:Int):=by omega
        have h3:-(H:Int)≤v n:=by omega
        have h2:=Rat.intCast_le_intCast.2 h2
        have h3:=Rat.intCast_le_intCast.2 h3
        rw [Rat.intCast_neg] at h3
        rw [Yw]; exact ⟨h3,h2⟩
      refine Zs hvn ?_
      have hRk:=hRp (a+b+J)
      have n1:=Z9 (Qh A y)
      have n2:=Z9 (Qh B (y-x))
      rcases Nat.lt_or_ge n (b*J) with h | h
      · have e:phi A B b J J' n=Aq (n / J) (n % J) (fA A):=by funext k j; unfold phi; rw [if_pos h]
        have d1:n / J<b:=Nat.div_lt_of_lt_mul (by rw [Nat.mul_comm]; exact h)
        have d2:=Nat.mod_lt n hJp
        rw [e]
        refine Rat.le_trans (Qy4 (K2:=a+b-n / J) (J2:=J-n % J) hR hx hy (by omega) (by omega) (X:=Qh A y) ?_) (Kj (by grind) Rat.le_refl n1 (by grind))
        obtain ⟨m,hm⟩:∃ m,J-n % J=m+1:=⟨J-n % J-1,by omega⟩
        rw [hm]; exact Q9z A _ _ x y (by omega)
      · have e:phi A B b J J' n=Aq ((n-b*J) / J') ((n-b*J) % J') (gc B):=by funext k j; unfold phi; rw [if_neg (by omega)]
        have hJp':0<J':=by
          rcases Nat.eq_zero_or_pos J' with e | e
          · rw [e,Nat.mul_zero] at hN; omega
          · exact e
        have d1:(n-b*J) / J'<a:=Nat.div_lt_of_lt_mul (by rw [Nat.mul_comm J' a]; omega)
        have d2:=Nat.mod_lt (n-b*J) hJp'
        rw [e]
        refine Rat.le_trans (Qy4 (K2:=a+b-(n-b*J) / J') (J2:=J-(n-b*J) % J') hR hx hy (by omega) (by omega) (X:=Qh B (y-x)) ?_) (Kj (by grind) Rat.le_refl n2 (by grind))
        exact Q60 x y B _ _ (by omega) (by omega)
    have:=Q5t N key
    refine Rat.le_trans this ?_
    have:(N:Rat)*((H:Rat)*(R^(a+b+J)*(Qn (Qh A y)+Qn (Qh B (y-x)))))=(N:Rat)*((H:Rat)*R^(a+b+J))*(Qn (Qh A y)+Qn (Qh B (y-x))):=by grind
    rw [this]; exact Rat.le_refl
end Orq

namespace Orq
theorem Qzd {w:Nat→Int} {x:Rat} {D:Rat} (hx:Qn x*2≤1) (hw:∀ j,Qn (w j:Rat)≤D):∀ J (k:Nat),Qn (sq J fun j=>(w (k+j):Rat)*x^j)≤2*D
  | 0,k=>by have:=hw 0; have:=Z9 (w 0:Rat); simp only [sq,Xk]; clear hw; grind
  |
   J+1,k=>by
   have ih:=Qzd hx hw J (k+1)
   rw [H7]
   have e:(sq J fun i=>(w (k+(i+1)):Rat)*x^(i+1))=x*sq J fun i=>(w (k+1+i):Rat)*x^i:=by
     rw [←Po]; exact J9 J fun i _=>by rw [Rat.pow_succ,show k+(i+1)=k+1+i by omega]; grind
   rw [e,Rat.pow_zero,Nat.add_zero]
   have h1:=hw k
   have h2:=Jm ((w k:Rat)*1) (x*sq J fun i=>(w (k+1+i):Rat)*x^i)
   have h3:=Zs (x:=x) (y:=sq J fun i=>(w (k+1+i):Rat)*x^i) Rat.le_refl ih
   have h4:=Rat.mul_le_mul_of_nonneg_right hx (show (0:Rat)≤D by have:=Z9 (w k:Rat); clear hw; grind)
   have h5:(w k:Rat)*1=w k:=by grind
   rw [h5] at h2 ⊢
   clear hw; grind
theorem Nn {z:Int} (h:z≠0):1≤Qn (z:Rat):=by
  unfold Qn
  rcases Int.lt_or_lt_of_ne h with h | h
  · have:((z:Int):Rat)<((0:Int):Rat):=Rat.intCast_lt_intCast.2 h
    have h2:((1:Int):Rat)≤((-z:Int):Rat):=Rat.intCast_le_intCast.2 (by omega)
    rw [if_pos (by simpa using this)]
    rw [Rat.intCast_neg] at h2
    simpa using h2
  · have:((0:Int):Rat)<((z:Int):Rat):=Rat.intCast_lt_intCast.2 h
    have h2:((1:Int):Rat)≤((z:Int):Rat):=Rat.intCast_le_intCast.2 (by omega)
    rw [if_neg (by
     have:(0:Rat)<z:=by simpa using this
     grind)]
    simpa using h2
theorem Qld {w:Nat→Int} {x:Rat} {D:Rat} (hD:1≤D) (hx0:0<Qn x) (hx:Qn x*(4*D)≤1) (hw:∀ j,Qn (w j:Rat)≤D):∀ J (k:Nat),(∃ j,j<J∧w (k+j)≠0)→Qn x^J / 2≤Qn (sq J fun j=>(w (k+j):Rat)*x^j)
  | 0,k,⟨j,h,_⟩=>by omega
  |
   J+1,k,⟨j,h1,h2⟩=>by
   have hx2:Qn x*2≤1:=by
     have:=Kj (a:=Qn x) (c:=2) (Rat.le_of_lt hx0) Rat.le_refl (by decide) (show (2:Rat)≤4*D by clear hw; grind)
     exact Rat.le_trans this hx
   have hx1:Qn x≤1:=by clear hw; grind
   have hp:∀ k:Nat,Qn x^k≤1∧0≤Qn x^k:=fun k=>by
     induction k with
     | zero=>rw [Rat.pow_zero]; exact ⟨by decide,by decide⟩
     |
      succ k ih =>
      rw [Rat.pow_succ]
      have:=Kj ih.2 ih.1 (Rat.le_of_lt hx0) hx1
      have:=Vw ih.2 (Rat.le_of_lt hx0)
      constructor <;> (clear hw; grind)
   rw [H7]
   have e:(sq J fun i=>(w (k+(i+1)):Rat)*x^(i+1))=x*sq J fun i=>(w (k+1+i):Rat)*x^i:=by
     rw [←Po]; exact J9 J fun i _=>by rw [Rat.pow_succ,show k+(i+1)=k+1+i by omega]; grind
   rw [e,Rat.pow_zero,Nat.add_zero k,show (w k:Rat)*1=w k by grind]
   by_cases h0:w k=0
   · have hj:j≠0:=fun e=>h2 (by rw [e]; exact h0)
     have ih:=Qld hD hx0 hx hw J (k+1) ⟨j-1,by omega,by rw [show k+1+(j-1)=k+j by omega]; exact h2⟩
     rw [h0,show ((0:Int):Rat)+x*(sq J fun i=>(w (k+1+i):Rat)*x^i)=x*sq J fun i=>(w (k+1+i):Rat)*x^i by rw [show ((0:Int):Rat)=0 from rfl]; grind,Gm,Rat.pow_succ]
     have:=Rat.mul_le_mul_of_nonneg_left ih (Rat.le_of_lt hx0)
     have e2:Qn x*(Qn x^J / 2)=Qn x^J*Qn x / 2:=by rw [Rat.div_def,Rat.div_def]; grind
     rw [e2] at this; exact this
   · have a1:=Nn h0
     have a2:=Qzd hx2 hw J (k+1)
     have a3:=Zs (x:=x) (y:=sq J fun i=>(w (k+1+i):Rat)*x^i) Rat.le_refl a2
     have a4:=Jm ((w k:Rat)+x*sq J fun i=>(w (k+1+i):Rat)*x^i) (-(x*sq J fun i=>(w (k+1+i):Rat)*x^i))
     rw [Uw,show (w k:Rat)+(x*sq J fun i=>(w (k+1+i):Rat)*x^i)+-(x*sq J fun i=>(w (k+1+i):Rat)*x^i)=w k by grind] at a4
     have a5:=(hp (J+1)).1
     have a6:Qn x^(J+1) / 2*2=Qn x^(J+1):=Zt (by decide)
     have a7:Qn x*(2*D)*2=Qn x*(4*D):=by grind
     clear hw hp; grind
theorem Q69 {A B:List Int} {a b h:Nat} (hA:A.length=a+1) (hB:B.length=b+1) (lA:A.getD a 0≠0) (lB:B.getD b 0≠0) (ha:0<a) (hb:0<b) (h0:1≤h) (bA:∀ k,(A.getD k 0).natAbs≤h) (bB:gB B≤h) {N D:Nat} (hN:b*(2*(a*b))+a*(2*(a*b)-b)=N) (hD:N*(h*(2*(N*h))^(2*(a+b-1)))≤D) {R d:Rat} (hR:1≤R) (dp:0<d)
    (hs:∀ e:Rat,0<e→∃ q r,Qn q≤R∧Qn r≤R∧d≤Qn (q-r)∧Qn (q-r)*(4*(D:Rat))≤1∧Qn (Qh A q)<e∧Qn (Qh B r)<e):False:=by
  have hab:0<a*b:=Nat.mul_pos ha hb
  have hbab:b≤a*b:=by
    have:=Nat.mul_le_mul_right b (show 1≤a from ha); omega
  obtain ⟨w,⟨j,hj,hw0⟩,hw,hC⟩:=Q76 hA hB lA lB ha hb h0 bA bB (J:=2*(a*b)) (J':=2*(a*b)-b) rfl (by omega) hN.symm rfl
  obtain ⟨C,hC0,hC⟩:=hC (2*R) (by grind)
  have hw':∀ j,Qn (w j:Rat)≤(D:Rat):=fun j=>by
    have h1:=Nat.le_trans (hw j) hD
    have h2:w j≤(D:Int):=by omega
    have h3:-(D:Int)≤w j:=by omega
    have h2:=Rat.intCast_le_intCast.2 h2
    have h3:=Rat.intCast_le_intCast.2 h3
    rw [Rat.intCast_neg] at h3
    rw [Yw]; exact ⟨h3,h2⟩
  have hD1:(1:Rat)≤(D:Rat):=by
    have:=Nn hw0
    exact Rat.le_trans this (hw' j)
  have hdJ:0<d^(2*(a*b)) / 2:=Ff (Rat.pow_pos dp) (by decide)
  obtain ⟨e,ep,_,he⟩:=Zu (b:=C*2) (d:=d^(2*(a*b)) / 2) (by grind) hdJ
  obtain ⟨q,r,q1,r1,d1,d2,aq,br⟩:=hs e ep
  have h1:=hC (q-r) q (by
   have:=Jm q (-r); rw [Uw] at this; have:q-r=q+-r:=by grind
   grind) (by grind)
  rw [show q-(q-r)=r by grind] at h1
  have h2:=Qld (x:=q-r) hD1 (by grind) d2 hw' (2*(a*b)) 0 ⟨j,hj,by rw [Nat.zero_add]; exact hw0⟩
  simp only [Nat.zero_add] at h2
  have h3:C*(Qn (Qh A q)+Qn (Qh B r))≤C*(e+e):=Rat.mul_le_mul_of_nonneg_left (by grind) hC0
  have h4:d^(2*(a*b))≤Qn (q-r)^(2*(a*b)):=by
    generalize 2*(a*b)=J
    induction J with
    | zero=>rw [Rat.pow_zero,Rat.pow_zero]; exact Rat.le_refl
    |
     succ J ih =>
     rw [Rat.pow_succ,Rat.pow_succ]
     exact Kj (Rat.le_of_lt (Rat.pow_pos dp)) ih (Rat.le_of_lt dp) d1
  have h5:d^(2*(a*b)) / 2*2=d^(2*(a*b)):=Zt (by decide)
  have h6:Qn (q-r)^(2*(a*b)) / 2*2=Qn (q-r)^(2*(a*b)):=Zt (by decide)
  clear hC hs hw hw'
  grind
end Orq

namespace Orq
def HD (p:List Rat) (n:Nat):Prop:=p.getD n 0≠0∧∀ k,n<k→p.getD k 0=0
theorem Xn:∀ (p q:List Rat) (k:Nat),(Jn p q).getD k 0=p.getD k 0+q.getD k 0
  | [],q,k=>by simp only [Jn,List.getD_nil]; grind
  | a::p,[],k=>by simp only [Jn,List.getD_nil]; grind
  | a::p,b::q,0=>by simp only [Jn,List.getD_cons_zero]
  | a::p,b::q,k+1=>by simp only [Jn,List.getD_cons_succ]; exact Xn p q k
theorem Jk (c:Rat):∀ (p:List Rat) (k:Nat),(W3 c p).getD k 0=c*p.getD k 0
  | [],k=>by simp only [W3,List.map_nil,List.getD_nil]; grind
  | a::p,0=>by simp [W3]
  | a::p,k+1=>by have:=Jk c p k; simp only [W3,List.map_cons,List.getD_cons_succ] at *; exact this
theorem Qwc {p:List Rat} {k:Nat} (h:∀ x∈p,x=0):p.getD k 0=0:=by
  rw [List.getD_eq_getElem?_getD]
  cases e:p[k]? with
  | none=>rfl
  | some x=>exact h x (List.mem_of_getElem? e)
theorem Wx {p q:List Rat} (h:∀ t,ev p t=ev q t) (k:Nat):p.getD k 0=q.getD k 0:=by
  have h1:=Qwc (k:=k) (Ba (p:=Jn p (W3 (-1) q)) fun t _ _=>by rw [Zj,Q7,h t]; grind)
  rw [Xn,Jk] at h1; grind
theorem W9:∀ {p:List Rat},(∀ k,p.getD k 0=0)→∀ t,ev p t=0
  | [],_,t=>rfl
  |
   a::p,h,t=>by
   have h0:=h 0
   have h1:=W9 (p:=p) (fun k=>by have:=h (k+1); rwa [List.getD_cons_succ] at this) t
   rw [List.getD_cons_zero] at h0
   simp only [ev,h0,h1]; grind
theorem Qae:∀ (p:List Rat),(∀ t,ev p t=0)∨∃ n,n<p.length∧HD p n
  | []=>.inl fun _=>rfl
  |
   a::p=>by
   rcases Qae p with h | ⟨n,hn,h1,h2⟩
   · rcases Classical.em (a=0) with e | e
     · exact .inl fun t=>by simp only [ev,e,h t]; grind
     · refine .inr ⟨0,by simp,by simpa using e,fun k hk=>?_⟩
       obtain ⟨m,rfl⟩:∃ m,k=m+1:=⟨k-1,by omega⟩
       rw [List.getD_cons_succ]
       exact (Wx (p:=p) (q:=[]) h m).trans (by simp)
   · refine .inr ⟨n+1,by simp; omega,by rw [List.getD_cons_succ]; exact h1,fun k hk=>?_⟩
     obtain ⟨m,rfl⟩:∃ m,k=m+1:=⟨k-1,by omega⟩
     rw [List.getD_cons_succ]; exact h2 m (by omega)
theorem Q5f {p q:List Rat} {n:Nat} (h:∀ t,ev p t=ev q t) (hp:HD p n):HD q n :=
  ⟨by rw [←Wx h]; exact hp.1,fun k hk=>by rw [←Wx h]; exact hp.2 k hk⟩
theorem Q5g {p:List Rat} {n m:Nat} (h:HD p n) (h':HD p m):n=m:=by
  rcases Nat.lt_trichotomy n m with e | e | e
  · exact absurd (h.2 m e) h'.1
  · exact e
  · exact absurd (h'.2 n e) h.1
theorem Qoi {p:List Rat} {n:Nat} (h:HD p n):¬∀ t,ev p t=0:=fun h0=>h.1 ((Wx (p:=p) (q:=[]) h0 n).trans (by simp))
theorem Ez {p q:List Rat} (h:∀ k,p.getD k 0=0) (k:Nat):(Zn p q).getD k 0=0:=by
  have:=Wx (p:=Zn p q) (q:=[]) (fun t=>by rw [Qk,W9 h t]; simp only [ev]; grind) k
  rw [this]; simp
theorem Qaf:∀ {p q:List Rat} {m n:Nat},HD p m→HD q n→HD (Zn p q) (m+n)
  | [],q,m,n,h,_=>absurd (by simp) h.1
  |
   a::p,q,0,n,h,h'=>by
   have h1:∀ k,p.getD k 0=0:=fun k=>by have:=h.2 (k+1) (by omega); rwa [List.getD_cons_succ] at this
   have h2:∀ k,(Zn (a::p) q).getD k 0=a*q.getD k 0:=fun k=>by
     simp only [Zn]
     rw [Xn,Jk]
     cases k with
     | zero=>rw [List.getD_cons_zero]; grind
     | succ k=>rw [List.getD_cons_succ,Ez h1]; grind
   have h3:=h.1
   rw [List.getD_cons_zero] at h3
   refine ⟨?_,fun k hk=>?_⟩
   · rw [h2,Nat.zero_add]; exact fun h=>(Rat.mul_eq_zero.1 h).elim h3 h'.1
   · rw [h2,h'.2 k (by omega)]; grind
  |
   a::p,q,m+1,n,h,h'=>by
   have ih:=Qaf (p:=p) (q:=q) (m:=m) ⟨by have:=h.1; rwa [List.getD_cons_succ] at this,fun k hk=>by have:=h.2 (k+1) (by omega); rwa [List.getD_cons_succ] at this⟩ h'
   refine ⟨?_,fun k hk=>?_⟩
   · simp only [Zn]
     rw [Xn,Jk,show m+1+n=(m+n)+1 by omega,List.getD_cons_succ,h'.2 _ (by omega)]
     have:=ih.1; grind
   · obtain ⟨j,rfl⟩:∃ j,k=j+1:=⟨k-1,by omega⟩
     simp only [Zn]
     rw [Xn,Jk,List.getD_cons_succ,h'.2 _ (by omega),ih.2 j (by omega)]; grind
def Tr (g f:List Rat):Prop:=∃ u,∀ t,ev f t=ev g t*ev u t
theorem dvd_refl (f:List Rat):Tr f f:=⟨[1],fun t=>by rw [X1]; grind⟩
theorem dvd_trans {f g h:List Rat}:Tr f g→Tr g h→Tr f h
  | ⟨u,hu⟩,⟨v,hv⟩=>⟨Zn u v,fun t=>by rw [hv,hu,Qk]; grind⟩
theorem Qie {p q:List Rat} (h:∀ t,ev p t*ev q t=0) (hp:¬∀ t,ev p t=0):∀ t,ev q t=0:=by
  rcases Qae p with h1 | ⟨m,_,h1⟩
  · exact absurd h1 hp
  · rcases Qae q with h2 | ⟨n,_,h2⟩
    · exact h2
    · exact absurd (fun t=>by rw [Qk]; exact h t) (Qoi (Qaf h1 h2))
theorem Qkp {p q r:List Rat} (hp:¬∀ t,ev p t=0) (h:∀ t,ev p t*ev q t=ev p t*ev r t) (t:Rat):ev q t=ev r t:=by
  have:=Qie (p:=p) (q:=Jn q (W3 (-1) r)) (fun t=>by rw [Zj,Q7]; have:=h t; grind) hp t
  rw [Zj,Q7] at this; grind
theorem Qvg {b:List Rat} {n:Nat} (hb:HD b n):∀ (l:Nat) (a:List Rat),(∀ k,l≤k→a.getD k 0=0)→∃ q r,(∀ t,ev a t=ev q t*ev b t+ev r t)∧∀ k,n≤k→r.getD k 0=0
  | 0,a,ha=>⟨[],a,fun t=>by simp only [ev]; grind,fun k _=>ha k (Nat.zero_le _)⟩
  |
   l+1,a,ha=>by
   rcases Nat.lt_or_ge l n with h | h
   · exact ⟨[],a,fun t=>by simp only [ev]; grind,fun k hk=>ha k (by omega)⟩
   · -- the leading term is taken away
     obtain ⟨c,hc⟩:∃ c,c=a.getD l 0 / b.getD n 0:=⟨_,rfl⟩
     have hcb:c*b.getD n 0=a.getD l 0:=by rw [hc]; exact Rat.div_mul_cancel hb.1
     obtain ⟨m,hm⟩:∃ m:List Rat,m=List.replicate (l-n) 0++[c]:=⟨_,rfl⟩
     have hsh:∀ (i:Nat) (k:Nat),(Zn (List.replicate i 0++[c]) b).getD k 0=if i≤k then c*b.getD (k-i) 0 else 0:=fun i=>by
       induction i with
       | zero=>intro k; simp only [List.replicate_zero,List.nil_append,Zn]; rw [Xn,Jk]; cases k <;> simp <;> grind
       |
        succ i ih =>
        intro k
        simp only [List.replicate_succ,List.cons_append,Zn]
        rw [Xn,Jk]
        cases k with
        | zero=>rw [List.getD_cons_zero,if_neg (by omega)]; grind
        |
         succ k =>
         rw [List.getD_cons_succ,ih k]
         by_cases h:i≤k
         · rw [if_pos h,if_pos (by omega),Nat.add_sub_add_right]; grind
         · rw [if_neg h,if_neg (by omega)]; grind
     obtain ⟨q,r,h1,h2⟩:=Qvg hb l (Jn a (W3 (-1) (Zn m b))) fun k hk=>by
       rw [Xn,Jk,hm,hsh,if_pos (by omega)]
       rcases Nat.lt_or_eq_of_le hk with e | e
       · rw [ha k (by omega),hb.2 _ (by omega)]; grind
       · subst e; rw [show l-(l-n)=n by omega,hcb]; grind
     refine ⟨Jn q m,r,fun t=>?_,h2⟩
     have:=h1 t
     rw [Zj,Q7,Qk] at this
     rw [Zj]; grind
theorem Qk1:∀ (n:Nat) (a b:List Rat),(∀ k,n≤k→b.getD k 0=0)→∃ g U V,Tr g a∧Tr g b∧∀ t,ev g t=ev U t*ev a t+ev V t*ev b t
  |
   0,a,b,h=>by
   have h0:=W9 fun k=>h k (Nat.zero_le _)
   exact ⟨a,[1],[],dvd_refl a,⟨[],fun t=>by rw [h0]; simp only [ev]; grind⟩,fun t=>by rw [X1]; simp only [ev]; grind⟩
  |
   n+1,a,b,h=>by
   rcases Classical.em (b.getD n 0=0) with e | e
   · exact Qk1 n a b fun k hk=>by
       rcases Nat.lt_or_eq_of_le hk with e' | e'
       · exact h k (by omega)
       · rw [←e']; exact e
   · obtain ⟨q,r,h1,h2⟩:=Qvg (b:=b) (n:=n) ⟨e,fun k hk=>h k (by omega)⟩ a.length a fun k hk=>by rw [List.getD_eq_getElem?_getD,List.getElem?_eq_none hk]; rfl
     obtain ⟨g,U,V,⟨u,hu⟩,⟨v,hv⟩,hg⟩:=Qk1 n b r h2
     refine ⟨g,V,Jn U (W3 (-1) (Zn V q)),⟨Jn (Zn q u) v,fun t=>?_⟩,⟨u,hu⟩,fun t=>?_⟩
     · rw [h1,hv,Zj,Qk,hu]; grind
     · rw [hg,Zj,Q7,Qk,h1]; grind
theorem Qv8 (a b:List Rat):∃ g U V,Tr g a∧Tr g b∧∀ t,ev g t=ev U t*ev a t+ev V t*ev b t :=
  Qk1 b.length a b fun k hk=>by rw [List.getD_eq_getElem?_getD,List.getElem?_eq_none hk]; rfl
def Cop (a b:List Rat):Prop:=∃ U V,∀ t,ev U t*ev a t+ev V t*ev b t=1
theorem Qen {c d e:List Rat} (h:Cop c d) (h1:∃ u,∀ t,ev d t*ev e t=ev c t*ev u t):Tr c e:=by
  obtain ⟨U,V,h⟩:=h
  obtain ⟨u,hu⟩:=h1
  refine ⟨Jn (Zn U e) (Zn V u),fun t=>?_⟩
  rw [Zj,Qk,Qk]
  have a1:=h t
  have a2:=hu t
  have:ev e t=(ev U t*ev c t+ev V t*ev d t)*ev e t:=by rw [a1]; grind
  rw [this]
  have:(ev U t*ev c t+ev V t*ev d t)*ev e t=ev U t*ev c t*ev e t+ev V t*(ev d t*ev e t):=by grind
  rw [this,a2]; grind
def qpw (d:List Rat):Nat→List Rat
  | 0=>[1]
  | k+1=>Zn d (qpw d k)
theorem Ql2 (d:List Rat) (t:Rat):∀ k:Nat,ev d t*dv (qpw d k) t=(k:Rat)*(dv d t*ev (qpw d k) t)
  | 0=>by simp only [qpw,dv,ev]; rw [show ((0:Nat):Rat)=0 from rfl]; grind
  |
   k+1=>by
   have ih:=Ql2 d t k
   have hn':(((k+1:Nat):Rat))=(k:Rat)+1:=by push_cast; rfl
   simp only [qpw]
   rw [Qes,Qk,hn']; grind
theorem Qya {d:List Rat} {m:Nat} (h:HD d m):∀ k,HD (qpw d k) (k*m)
  | 0=>by rw [Nat.zero_mul]; exact ⟨by simp [qpw],fun k hk=>by simp only [qpw]; rw [List.getD_eq_getElem?_getD,List.getElem?_eq_none (by simp; omega)]; rfl⟩
  | k+1=>by rw [Nat.succ_mul,Nat.add_comm (k*m) m]; exact Qaf h (Qya h k)
theorem Qdg {d g:List Rat} {m n:Nat} (hd:HD d m) (hg:HD g n) (h:∀ k,Tr (qpw d k) g):m=0:=by
  obtain ⟨u,hu⟩:=h (n+1)
  rcases Qae u with h1 | ⟨j,_,h1⟩
  · exact absurd (fun t=>by rw [hu,h1]; grind) (Qoi hg)
  · have:=Q5g (Q5f (fun t=>by rw [hu,Qk]) hg) (Qaf (Qya hd (n+1)) h1)
    rcases Nat.eq_zero_or_pos m with e | e
    · exact e
    · have:(n+1)*1≤(n+1)*m:=Nat.mul_le_mul_left _ e
      omega
theorem sqf {a g q d U V:List Rat} {k:Rat} (hk:k≠0) (ha:∀ t,ev a t=ev g t*ev q t) (hg:∀ t,k*ev g t=ev U t*ev a t+ev V t*dv a t) (h1:Tr d q) (h2:Tr d (Vy q)):∀ n,Tr (qpw d n) g
  | 0=>⟨g,fun t=>by simp only [qpw]; rw [X1]; grind⟩
  |
   n+1=>by
   obtain ⟨g1,e1⟩:=sqf hk ha hg h1 h2 n
   obtain ⟨q1,e2⟩:=h1
   obtain ⟨q2,e3⟩:=h2
   have d1:=fun t=>Rq ha t
   have d2:=fun t=>Rq e1 t
   have d3:=fun t=>Rq e2 t
   have d4:=Ql2 d
   refine ⟨W3 (1 / k) (Jn (Zn U (Zn g1 q1)) (Zn V (Jn (Zn g1 q2) (Jn (W3 n (Zn g1 (Jn q2 (W3 (-1) (Vy q1))))) (Zn (Vy g1) q1))))),fun t=>?_⟩
   have hkk:1 / k*k=1:=Rat.div_mul_cancel hk
   simp only [qpw,Q7,Zj,Qk,X8]
   have b1:=ha t; have b2:=hg t; have b3:=e1 t; have b4:=e2 t; have b5:=e3 t
   have b6:=d1 t; have b7:=d2 t; have b8:=d3 t; have b9:=d4 t n
   rw [X8] at b5
   generalize ev d t=x0 at *
   generalize ev (qpw d n) t=x1 at *
   generalize ev g t=x2 at *
   generalize ev q t=x3 at *
   generalize ev a t=x4 at *
   generalize dv a t=x5 at *
   generalize dv g t=x6 at *
   generalize dv q t=x7 at *
   generalize ev g1 t=x8 at *
   generalize dv g1 t=x9 at *
   generalize ev q1 t=y0 at *
   generalize dv q1 t=y1 at *
   generalize ev q2 t=y2 at *
   generalize dv d t=y3 at *
   generalize dv (qpw d n) t=y4 at *
   generalize ev U t=y5 at *
   generalize ev V t=y6 at *
   generalize (n:Rat)=y7 at *
   have:x2=1 / k*(k*x2):=by grind
   rw [this,b2]
   have c1:x5=x0*x1*(x8*y2+(y7*(x8*(y2+-1*y1))+x9*y0)):=by
     rw [b6,b7,b4,b3]
     have:y3*y0=x0*y2-x0*y1:=by grind
     have:x0*y4*(x8*y0)=y7*(x1*x8*(x0*y2-x0*y1)):=by rw [b9,←this]; grind
     grind
   have c2:x4=x0*x1*(x8*y0):=by rw [b1,b3,b4]; grind
   rw [c1,c2]; grind
end Orq

namespace Orq
theorem Q1x {a b c:List Rat} (h1:Cop a b) (h2:Cop a c) {d:List Rat} (hd:∀ t,ev d t=ev b t*ev c t):Cop a d:=by
  obtain ⟨U,V,h1⟩:=h1
  obtain ⟨X,Y,h2⟩:=h2
  refine ⟨Jn U (Zn (Zn V b) X),Zn V Y,fun t=>?_⟩
  have a1:=h1 t
  have a2:=h2 t
  simp only [Zj,Qk,hd]
  have:ev V t*ev b t*(ev X t*ev a t+ev Y t*ev c t)=ev V t*ev b t:=by rw [a2]; grind
  grind
theorem Q36 {a g q z r X Y:List Rat} {n:Nat} (ha:∀ t,ev a t=ev g t*ev q t) (hz:∀ t,dv a t=ev g t*ev z t) (hg:HD g n) (hr:∀ t,ev X t*ev r t+ev Y t*dv r t=1) (h:Tr r a):Tr r q:=by
  obtain ⟨b,hb⟩:=h
  obtain ⟨e,U,V,⟨r1,e1⟩,⟨q3,e2⟩,e3⟩:=Qv8 r q
  have hr0:¬∀ t,ev r t=0:=fun h=>by
    have h1:=hr 0
    have h2:dv r 0=0:=by have:=Qvl (p:=r) (q:=[]) h 0; rw [this]; rfl
    rw [h,h2] at h1; grind
  have he0:¬∀ t,ev e t=0:=fun h=>hr0 fun t=>by rw [e1,h]; grind
  have d1:=fun t=>Rq e1 t
  -- r1 has nothing in common with q3,with e,with its derivative
  have c1:Cop r1 q3:=⟨U,V,fun t=>by
    have:=Qkp (p:=e) (q:=Jn (Zn U r1) (Zn V q3)) (r:=[1]) he0 (fun t=>by
      rw [Zj,Qk,Qk,X1]
      have a1:=e1 t; have a2:=e2 t; have a3:=e3 t
      rw [a1,a2] at a3; grind) t
    rw [Zj,Qk,Qk,X1] at this; exact this⟩
  have c2:Cop r1 e:=⟨Jn (Zn X e) (Zn Y (Vy e)),Zn Y (Vy r1),fun t=>by
    have a1:=hr t; have a2:=e1 t; have a3:=d1 t
    simp only [Zj,Qk,X8]
    rw [a2,a3] at a1; grind⟩
  have c3:Cop r1 (Vy r1):=⟨Jn (Zn X e) (Zn Y (Vy e)),Zn Y e,fun t=>by
    have a1:=hr t; have a2:=e1 t; have a3:=d1 t
    simp only [Zj,Qk,X8]
    rw [a2,a3] at a1; grind⟩
  have c4:Cop r1 q:=Q1x c2 c1 e2
  have hgz:=Qoi hg
  -- so all its powers divide g
  have hp:∀ k,Tr (qpw r1 k) g:=fun k=>by
    induction k with
    | zero=>exact ⟨g,fun t=>by simp only [qpw]; rw [X1]; grind⟩
    |
     succ k ih =>
     obtain ⟨h,eh⟩:=ih
     have hpz:¬∀ t,ev (qpw r1 k) t=0:=fun h0=>hgz fun t=>by rw [eh,h0]; grind
     have key:Tr r1 h:=by
       cases k with
       |
        zero =>
        refine Qen c4 ⟨Zn e b,fun t=>?_⟩
        have a1:=ha t; have a2:=hb t; have a3:=e1 t; have a4:=eh t
        simp only [qpw] at a4
        rw [X1] at a4
        rw [Qk]; grind
       |
        succ k =>
        have hn:((k+1:Nat):Rat)≠0:=by
          have:(0:Rat)<((k+1:Nat):Rat):=by
            have h1:((0:Nat):Rat)<((k+1:Nat):Rat):=Rat.natCast_lt_natCast.2 (by omega)
            simpa using h1
          grind
        -- k r1' h q=r1 (..)
        have d2:=fun t=>Rq (f:=a) (w:=qpw r1 (k+1)) (u:=Zn h q) (fun t=>by rw [ha,eh,Qk]; grind) t
        have d4:=Ql2 r1
        have h3:=Qkp (p:=qpw r1 (k+1)) (q:=Zn (Vy r1) (Zn h q)) (r:=Zn r1 (W3 (1 / ((k+1:Nat):Rat)) (Jn (Zn h z) (W3 (-1) (Vy (Zn h q)))))) hpz fun t=>by
          simp only [Qk,Q7,Zj,X8]
          have a1:=d2 t; have a2:=d4 t (k+1); have a3:=hz t; have a4:=eh t
          rw [Qk] at a1
          generalize ((k+1:Nat):Rat)=c at *
          have hc:1 / c*c=1:=Rat.div_mul_cancel hn
          generalize ev (qpw r1 (k+1)) t=x0 at *
          generalize dv (qpw r1 (k+1)) t=x1 at *
          generalize dv (Zn h q) t=x2 at *
          generalize ev r1 t=x3 at *
          generalize dv r1 t=x4 at *
          generalize ev h t=x5 at *
          generalize ev q t=x6 at *
          generalize ev z t=x7 at *
          generalize dv a t=x8 at *
          generalize ev g t=x9 at *
          generalize 1 / c=c' at *
          have s1:x0*(x4*(x5*x6))=c'*(c*(x4*x0))*(x5*x6):=by
            have:c'*(c*(x4*x0))=(c'*c)*(x4*x0):=by grind
            rw [this,hc]; grind
          rw [s1,←a2]
          have s2:x3*(x1*(x5*x6))=x3*(x0*(x5*x7+-1*x2)):=by
            rw [a3,a4] at a1; grind
          grind
        refine Qen c4 ?_
        obtain ⟨u,hu⟩:=Qen (e:=Zn q h) c3 ⟨W3 (1 / ((k+1:Nat):Rat)) (Jn (Zn h z) (W3 (-1) (Vy (Zn h q)))),fun t=>by
          have:=h3 t
          simp only [Qk] at this ⊢
          rw [←this]; grind⟩
        exact ⟨u,fun t=>by rw [←hu,Qk]⟩
     obtain ⟨u,hu⟩:=key
     exact ⟨u,fun t=>by simp only [qpw]; rw [Qk,eh,hu]; grind⟩
  rcases Qae r1 with h1 | ⟨m,_,h1⟩
  · exact absurd (fun t=>by rw [e1,h1]; grind) hr0
  · obtain rfl:=Qdg h1 hg hp
    -- r1 is a number
    have h2:∀ t,ev r1 t=r1.getD 0 0:=fun t=>by
      cases r1 with
      | nil=>simp [ev]
      |
       cons c l =>
       have:∀ t,ev l t=0:=W9 fun k=>by have:=h1.2 (k+1) (by omega); rwa [List.getD_cons_succ] at this
       simp only [ev,this,List.getD_cons_zero]; grind
    have h3:=h1.1
    refine ⟨W3 (1 / r1.getD 0 0) q3,fun t=>?_⟩
    rw [e2,e1,h2,Q7]
    have:1 / r1.getD 0 0*r1.getD 0 0=1:=Rat.div_mul_cancel h3
    have:ev e t*r1.getD 0 0*(1 / r1.getD 0 0*ev q3 t)=ev e t*ev q3 t*(1 / r1.getD 0 0*r1.getD 0 0):=by grind
    rw [this,Rat.div_mul_cancel h3]; grind
def Hr:List (List Rat)→List Rat
  | []=>[1]
  | w::l=>Zn w (Hr l)
def Lay:List (List Rat)→List (List Rat)→Prop
  | [],[]=>True
  | [w],[f]=>∀ t,ev w t=ev f t
  | w::v::l,f::fs=>(∀ t,ev w t=ev f t*ev v t)∧Lay (v::l) fs
  | _,_=>False
def Ao:List (List Rat)→List Rat
  | []=>[1]
  | [f]=>f
  | f::_::l=>Zn f (Ao l)
theorem Qor:∀ {ws fs:List (List Rat)},Lay ws fs→∃ S,∀ t,ev (Hr ws) t=ev (Ao fs) t*(ev S t*ev S t)
  | [],[],_=>⟨[1],fun t=>by simp only [Hr,Ao]; rw [X1]; grind⟩
  | [w],[f],h=>⟨[1],fun t=>by simp only [Hr,Ao]; rw [Qk,X1,h t]; grind⟩
  |
   [w,v],[f,f2],h=>⟨v,fun t=>by
   have h1:=h.1 t
   have h2:ev v t=ev f2 t:=h.2 t
   simp only [Hr,Ao,Qk]; rw [X1,h1]; grind⟩
  |
   w::v::x::l,f::f2::fs,h=>by
   obtain ⟨S,hS⟩:=Qor h.2.2
   refine ⟨Zn v S,fun t=>?_⟩
   have h1:=h.1 t
   have h2:=hS t
   have e1:ev (Hr (w::v::x::l)) t=ev w t*(ev v t*ev (Hr (x::l)) t):=by simp only [Hr,Qk]
   rw [e1,h2,h1]
   have e2:ev (Ao (f::f2::fs)) t=ev f t*ev (Ao fs) t:=by
     cases fs with
     | nil=>cases l <;> exact False.elim h.2.2
     | cons y l=>simp only [Ao,Qk]
   rw [e2,Qk]; grind
  | [w],[],h=>h.elim
  | [w],_::_::_,h=>h.elim
  | [],_::_,h=>h.elim
  | [w,v],[f],h=>h.2.elim
  | [w,v],_::_::_::_,h=>h.2.elim
  | w::v::x::l,[f],h=>h.2.elim
  | w::v::l,[],h=>h.elim
end Orq
