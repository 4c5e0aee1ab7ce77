/- PolyL RatL R2 R4 RefPL CrvL CrowdL PredL CertL Y1 Y2 Q1 C1 C2 D1 E1 AlgL F1 F2 -/
import Derived.Test.YtbnjginelkkonaaGreatPart04
set_option linter.all false

namespace Orr
def Bd (s:Nat) (p:List Int):Prop:=∀ z∈p,Qm z≤s
theorem Vq:Qm 0=0:=rfl
theorem Qsl {s:Nat} {p:List Int} (h:Bd s p) {i:Nat} {z:Int} (hz:p[i]? = some z):Qm z≤s:=h z (List.mem_of_getElem? hz)
theorem Qp {s:Nat} {p:List Int} (h:Bd s p) (k:Nat):Qm (p.getD k 0)≤s:=by
  rw [List.getD_eq_getElem?_getD]
  cases hk:p[k]? with
  | none=>rw [Option.getD_none,Vq]; exact Nat.zero_le _
  | some z=>exact Qsl h hk
theorem Qd {s t:Nat} {p:List Int} (h:Bd s p) (ht:s≤t):Bd t p:=fun z hz=>Nat.le_trans (h z hz) ht
theorem Tp {s:Nat}:Bd s []:=fun z hz=>by cases hz
theorem Q4y {s:Nat} {n:Nat} {g:Nat→Int} (h:∀ k,k<n→Qm (g k)≤s):Bd s ((List.range n).map g):=fun z hz=>by
  obtain ⟨k,hk,rfl⟩:=List.mem_map.1 hz
  exact h k (List.mem_range.1 hk)
theorem Qix:∀ (l:List Int),∀ z∈trim l,z∈l
  | [],z,h=>by cases h
  |
   x::l,z,h=>by
   have ih:=Qix l
   cases hl:trim l with
   |
    nil =>
    simp only [trim,hl] at h
    split at h
    · cases h
    · rw [List.mem_singleton] at h; rw [h]; exact List.mem_cons_self ..
   |
    cons y k =>
    simp only [trim,hl] at h
    rcases List.mem_cons.1 h with rfl | h
    · exact List.mem_cons_self ..
    · exact List.mem_cons_of_mem _ (ih z (by rw [hl]; exact h))
theorem Xc (l:List Int):(trim l).length≤l.length:=by
  induction l with
  | nil=>exact Nat.le_refl _
  |
   cons x l ih =>
   cases hl:trim l with
   | nil=>simp only [trim,hl]; split <;> simp
   | cons y k=>simp only [trim,hl]; rw [hl] at ih; simp at ih ⊢; exact ih
theorem Jj {s:Nat} {p:List Int} (h:Bd s p):Bd s (trim p):=fun z hz=>h z (Qix p z hz)
theorem U9:∀ (l:List Int) (k:Nat),(trim l).getD k 0=l.getD k 0
  | [],k=>rfl
  |
   x::l,k=>by
   have ih:=U9 l
   cases hl:trim l with
   |
    nil =>
    rw [hl] at ih
    simp only [trim,hl]
    split
    · rename_i hx
      cases k with
      | zero=>simp [hx]
      | succ k=>have:=ih k; simp at this ⊢; exact this
    · cases k with
      | zero=>simp
      | succ k=>have:=ih k; simp at this ⊢; exact this
   |
    cons y m =>
    rw [hl] at ih
    simp only [trim,hl]
    cases k with
    | zero=>simp
    | succ k=>have:=ih k; simp at this ⊢; exact this
def Vk (n:Nat) (g:Nat→Int):List Int:=trim ((List.range n).map g)
theorem Q9 (n:Nat) (g:Nat→Int):Qj (Vk n g):=Xp _
theorem Hf (n:Nat) (g:Nat→Int):(Vk n g).length≤n:=Nat.le_trans (Xc _) (by simp)
theorem Yh (n:Nat) (g:Nat→Int) (k:Nat):(Vk n g).getD k 0=if k<n then g k else 0:=by
  unfold Vk
  rw [U9,List.getD_eq_getElem?_getD,List.getElem?_map]
  split
  · rename_i h; rw [List.getElem?_range h]; rfl
  · rename_i h; rw [List.getElem?_eq_none (by simpa using h)]; rfl
theorem Pp {s n:Nat} {g:Nat→Int} (h:∀ k,k<n→Qm (g k)≤s):Bd s (Vk n g):=Jj (Q4y h)
def Ca (p q:List Int):List Int:=Vk (max p.length q.length) fun k=>p.getD k 0+q.getD k 0
def V0 (p q:List Int):List Int:=Vk (max p.length q.length) fun k=>p.getD k 0-q.getD k 0
def Vd (p:List Int):List Int:=Vk p.length fun k=>-(p.getD k 0)
def Qx (p:List Int) (c:Int):List Int:=Vk p.length fun k=>p.getD k 0*c
def Zi (p:List Int):List Int:=Vk (p.length-1) fun k=>p.getD (k+1) 0*((k+1:Nat):Int)
theorem Qzs {s t:Nat} {p q:List Int} (h:Bd s p) (h':Bd t q):Bd (max s t+1) (Ca p q):=Pp fun k _=>Nat.le_trans (P0 _ _) (by have:=Qp h k; have:=Qp h' k; omega)
theorem Pq {s t:Nat} {p q:List Int} (h:Bd s p) (h':Bd t q):Bd (max s t+1) (V0 p q):=Pp fun k _=>Nat.le_trans (Qei _ _) (by have:=Qp h k; have:=Qp h' k; omega)
theorem Ae {s:Nat} {p:List Int} (h:Bd s p):Bd s (Vd p):=Pp fun k _=>by rw [Z3]; exact Qp h k
theorem Zk {s t:Nat} {p:List Int} {c:Int} (h:Bd s p) (hc:Qm c≤t):Bd (s+t) (Qx p c):=Pp fun k _=>Nat.le_trans (Q3 _ _) (by have:=Qp h k; omega)
theorem Qv5 (p q:List Int):(Ca p q).length≤max p.length q.length:=Hf _ _
theorem Hl (p q:List Int):(V0 p q).length≤max p.length q.length:=Hf _ _
theorem So (p:List Int):(Vd p).length≤p.length:=Hf _ _
theorem Q7 (p:List Int) (c:Int):(Qx p c).length≤p.length:=Hf _ _
theorem Yw (p:List Int):(Zi p).length≤p.length-1:=Hf _ _
theorem Qeh {k t:Nat} (h:k<2^t):Qm (k:Int)≤t:=by rw [Jz]; simpa using h
theorem Qq3 {k:Nat} (h:k<274877906944):Qm (k:Int)≤4294967295:=Nat.le_trans (Qeh (t:=38) (Nat.lt_of_lt_of_eq h (by decide))) (by omega)
theorem Ad {s t:Nat} {p:List Int} (h:Bd s p) (hl:p.length≤2^t):Bd (s+t) (Zi p):=Pp fun k hk=>Nat.le_trans (Q3 _ _) (by
  have:=Qp h (k+1)
  have:=Qeh (k:=k+1) (t:=t) (by omega)
  omega)
def Ho (x:Int) (b:List Int) (i:Nat) (o:List Int):Nat→List Int
  | 0=>o
  | k+1=>(Ho x b i o k).set (i+k) ((Ho x b i o k).getD (i+k) 0+x*b.getD k 0)
def Kq (a b o:List Int):Nat→List Int
  | 0=>o
  | i+1=>Ho (a.getD i 0) b i (Kq a b o i) b.length
def Zr (a b:List Int):List Int:=if a.length=0∨b.length=0 then [] else trim (Kq a b (List.replicate (a.length+b.length-1) 0) a.length)
theorem Hp (x:Int) (b:List Int) (i:Nat) (o:List Int) (k:Nat):(Ho x b i o k).length=o.length:=by
  induction k with
  | zero=>rfl
  | succ k ih=>simp [Ho,ih]
theorem Kr (a b o:List Int) (i:Nat):(Kq a b o i).length=o.length:=by
  induction i with
  | zero=>rfl
  | succ i ih=>simp [Kq,Hp,ih]
theorem Qvq (l:List Int) (i m:Nat) (v:Int) (h:i<l.length):(l.set i v).getD m 0=if m=i then v else l.getD m 0:=by
  rw [List.getD_eq_getElem?_getD,List.getElem?_set,List.getD_eq_getElem?_getD]
  by_cases e:i=m
  · subst e; simp [h]
  · rw [if_neg e,if_neg (fun h=>e h.symm)]
theorem Li (x:Int) (b:List Int) (i:Nat) (o:List Int) (k m:Nat) (h:i+k≤o.length):(Ho x b i o k).getD m 0=if i≤m∧m<i+k then o.getD m 0+x*b.getD (m-i) 0 else o.getD m 0:=by
  induction k with
  | zero=>simp only [Ho]; rw [if_neg (by omega)]
  |
   succ k ih =>
   have ih:=ih (by omega)
   simp only [Ho]
   rw [Qvq _ _ _ _ (by rw [Hp]; omega)]
   by_cases e:m=i+k
   · subst e
     rw [if_pos rfl,if_pos (by omega),show i+k-i=k from by omega]
     rw [ih,if_neg (by omega)]
   · rw [if_neg e,ih]
     by_cases h1:i≤m∧m<i+k
     · rw [if_pos h1,if_pos (by omega)]
     · rw [if_neg h1,if_neg (by omega)]
theorem Vr {x y:Int} {s t:Nat} (hx:Qm x≤s) (hy:Qm y≤t):(x*y).natAbs≤2^(s+t):=by
  have h:=Nat.le_trans (Q3 x y) (show _≤s+t by omega)
  rw [Jz] at h; omega
theorem Qer {x:Int} {b:List Int} {i:Nat} {o:List Int} {k M:Nat} (h:i+k≤o.length) (ho:∀ m,(o.getD m 0).natAbs≤i*M) (hx:∀ j,(x*b.getD j 0).natAbs≤M) (m:Nat):((Ho x b i o k).getD m 0).natAbs≤(i+1)*M:=by
  rw [Li x b i o k m h,Nat.succ_mul]
  have h1:=ho m
  split
  · have h2:=hx (m-i)
    generalize i*M=q at *
    omega
  · omega
theorem Qeq {a b o:List Int} {i M:Nat} (h:∀ j,j<i→j+b.length≤o.length) (ho:∀ m,o.getD m 0=0) (hx:∀ i j,(a.getD i 0*b.getD j 0).natAbs≤M) (m:Nat):((Kq a b o i).getD m 0).natAbs≤i*M:=by
  induction i generalizing m with
  | zero=>simp only [Kq]; rw [ho]; simp
  |
   succ i ih =>
   simp only [Kq]
   exact Qer (by rw [Kr]; exact h i (by omega)) (ih fun j hj=>h j (by omega)) (hx i) m
theorem Gu {z:Int} {i s t:Nat} (h:z.natAbs≤i*2^s) (hi:i<2^t):Qm z≤s+t:=by
  rw [Jz]
  have h1:i*2^s<2^t*2^s:=Nat.mul_lt_mul_of_pos_right hi (Nat.pow_pos (by decide))
  rw [←Nat.pow_add,Nat.add_comm t s] at h1
  omega
theorem Jy (n m:Nat):(List.replicate n (0:Int)).getD m 0=0:=by
  rw [List.getD_eq_getElem?_getD,List.getElem?_replicate]; split <;> rfl
theorem Id {s:Nat} {p:List Int} (h:∀ m,Qm (p.getD m 0)≤s):Bd s p:=fun z hz=>by
  obtain ⟨i,hi⟩:=List.mem_iff_getElem?.1 hz
  have:=h i
  rw [List.getD_eq_getElem?_getD,hi] at this
  exact this
theorem Qv6 (a b:List Int):(Zr a b).length≤a.length+b.length-1:=by
  unfold Zr
  split
  · simp
  · refine Nat.le_trans (Xc _) ?_
    rw [Kr]; simp
theorem Qzt {s t u:Nat} {a b:List Int} (ha:Bd s a) (hb:Bd t b) (hl:a.length<2^u):Bd (s+t+u) (Zr a b):=by
  unfold Zr
  split
  · exact Tp
  · refine Jj (Id fun m=>?_)
    exact Gu (Qeq (M:=2^(s+t)) (fun j hj=>by simp; omega) (Jy _) (fun i j=>Vr (Qp ha i) (Qp hb j)) m) hl
theorem Zx (a b:List Int):Qj (Zr a b):=by
  unfold Zr
  split
  · rfl
  · exact Xp _
def Vh (a:List Int) (n d:Int):Nat→Int×Int
  | 0=>(0,1)
  | k+1=>((Vh a n d k).1*n+a.getD (a.length-1-k) 0*(Vh a n d k).2,(Vh a n d k).2*d)
def Q2g (a:List Int) (n d:Int):Int:=(Vh a n d a.length).1
theorem Qfx {a:List Int} {n d:Int} {s t k:Nat} (ha:Bd s a) (hn:Qm n≤t) (hd:Qm d≤t):Qm (Vh a n d k).1≤s+2+k*(t+1)∧Qm (Vh a n d k).2≤1+k*t:=by
  induction k with
  | zero=>exact ⟨by simp [Vh,Vq],by simp [Vh]; decide⟩
  |
   succ k ih =>
   obtain ⟨h1,h2⟩:=ih
   have h3:=Qp ha (a.length-1-k)
   have e1:k*(t+1)=k*t+k:=by rw [Nat.mul_add,Nat.mul_one]
   rw [Nat.succ_mul,Nat.succ_mul]
   refine ⟨?_,?_⟩
   · simp only [Vh]
     refine Nat.le_trans (P0 _ _) ?_
     have h4:=Q3 (Vh a n d k).1 n
     have h5:=Q3 (a.getD (a.length-1-k) 0) (Vh a n d k).2
     generalize k*t=q at *
     rw [e1] at h1 ⊢
     omega
   · simp only [Vh]
     have h4:=Q3 (Vh a n d k).2 d
     generalize k*t=q at *
     omega
end Orr
namespace Orr
theorem getD_some {l:List Int} {i:Nat} (h:i<l.length):l[i]? = some (l.getD i 0):=by
  rw [List.getD_eq_getElem?_getD,List.getElem?_eq_getElem h]; rfl
theorem Qne {x y:Int}:Ke x y=0↔x=y:=by
  unfold Ke
  constructor
  · intro h
    split at h
    · omega
    · split at h <;> omega
  · rintro rfl; simp
theorem Xd {p:List Int} (h:Qj p) (h0:0<p.length):p.getD (p.length-1) 0≠0:=by
  induction p with
  | nil=>simp at h0
  |
   cons x l ih =>
   unfold Qj at h
   cases hl:trim l with
   |
    nil =>
    simp only [trim,hl] at h
    split at h
    · cases h
    · rename_i hx
      injection h with h1 h2
      subst h2
      simpa using hx
   |
    cons y k =>
    simp only [trim,hl] at h
    injection h with h1 h2
    rw [←hl] at h2
    have ih:=ih h2 (by rw [←h2,hl]; simp)
    have h3:0<l.length:=by rw [←h2,hl]; simp
    simp only [List.length_cons,Nat.add_sub_cancel]
    obtain ⟨m,hm⟩:∃ m,l.length=m+1:=⟨l.length-1,by omega⟩
    rw [hm] at ih ⊢
    simpa using ih
end Orr
namespace Orr
theorem O6 (p:List Int):(List.range p.length).map (fun k=>p.getD k 0)=p:=by
  apply List.ext_getElem?
  intro i
  rw [List.getElem?_map]
  rcases Nat.lt_or_ge i p.length with h | h
  · rw [List.getElem?_range h]
    simp [List.getElem?_eq_getElem h]
  · rw [List.getElem?_eq_none (by simpa using h),List.getElem?_eq_none h]; rfl
theorem Ob {p q:List Int} (hl:p.length=q.length) (h:∀ j,j<p.length→p.getD j 0=q.getD j 0):p=q:=by
  rw [←O6 p,←O6 q,←hl]
  exact List.map_congr_left fun j hj=>h j (List.mem_range.1 hj)
end Orr

namespace Orr
abbrev rl (q:Rat):List LV:=[sg q.num,mg q.num,sg (q.den:Int),mg (q.den:Int)]
theorem Kk (n d:Int):Z7 [n,d]=Int.gcd d n:=by
  unfold Z7
  simp only [List.foldl_cons,List.foldl_nil,Nat.gcd_zero_left]
  exact Nat.gcd_comm _ _
theorem Qhb {n d:Int} (hd:d≠0):(0:Int)<((Z7 [n,d]:Nat):Int):=by
  rw [Kk]
  have:=Int.gcd_pos_of_ne_zero_left n hd
  omega
theorem Om (n d:Int):n % ((Z7 [n,d]:Nat):Int)=0:=by
  rw [Kk]; exact Int.emod_eq_zero_of_dvd (Int.gcd_dvd_right ..)
theorem On (n d:Int):d % ((Z7 [n,d]:Nat):Int)=0:=by
  rw [Kk]; exact Int.emod_eq_zero_of_dvd (Int.gcd_dvd_left ..)
theorem Qok {n g:Int} (h:n % g=0):-n % g=0:=by
  exact Int.emod_eq_zero_of_dvd (Int.dvd_neg.2 (Int.dvd_of_emod_eq_zero h))
theorem Qn0 {n d:Int} {s:Nat} (hd:d≠0) (h:Qm d≤s):Qm ((Z7 [n,d]:Nat):Int)≤s:=by
  rw [Kk]
  refine Nat.le_trans (X3 ?_) h
  have:=Nat.le_of_dvd (by omega:0<d.natAbs) (show Int.gcd d n∣d.natAbs from Nat.gcd_dvd_left _ _)
  simpa using this
theorem Qen {n d:Int} (hd:0<d):n / ((Z7 [n,d]:Nat):Int)=(Rat.divInt n d).num∧d / ((Z7 [n,d]:Nat):Int)=((Rat.divInt n d).den:Int):=by
  rw [Kk,Rat.num_divInt,Rat.den_divInt,if_neg (by omega),Int.sign_eq_one_of_pos hd,Int.one_mul]
  refine ⟨rfl,?_⟩
  rw [Int.natCast_ediv,Int.natAbs_of_nonneg (by omega)]
theorem Q1q {n d:Int} (hd:d<0):-n / ((Z7 [n,d]:Nat):Int)=(Rat.divInt n d).num∧-d / ((Z7 [n,d]:Nat):Int)=((Rat.divInt n d).den:Int):=by
  rw [Kk,Rat.num_divInt,Rat.den_divInt,if_neg (by omega),Int.sign_eq_neg_one_of_neg hd,Int.neg_mul,Int.one_mul]
  refine ⟨rfl,?_⟩
  rw [Int.natCast_ediv,Int.ofNat_natAbs_of_nonpos (by omega)]
theorem Sl (u g:Int):Qm (u / g)≤Qm u:=by
  unfold Qm
  exact X3 (Int.natAbs_ediv_le_natAbs u g)
theorem Oz {n d:Int} {s:Nat} (h:Qm n≤s):Qm (Rat.divInt n d).num≤s:=by
  rw [Rat.num_divInt]
  refine Nat.le_trans (Sl _ _) ?_
  unfold Qm
  rw [Int.natAbs_mul]
  refine Nat.le_trans (X3 ?_) h
  have:d.sign.natAbs≤1:=by rcases Fu d with ⟨_,e⟩ | ⟨_,e⟩ | ⟨_,e⟩ <;> rw [e] <;> decide
  calc d.sign.natAbs*n.natAbs≤1*n.natAbs:=Nat.mul_le_mul_right _ this
    _=n.natAbs:=Nat.one_mul _
theorem Oy {n d:Int} {s:Nat} (h:Qm d≤s) (h1:1≤s):Qm ((Rat.divInt n d).den:Int)≤s:=by
  rw [Rat.den_divInt]
  split
  · exact h1
  · refine Nat.le_trans (X3 ?_) h
    exact Nat.div_le_self _ _
def Qs (s:Nat) (q:Rat):Prop:=Qm q.num≤s∧Qm (q.den:Int)≤s
theorem Qs.mono {s t:Nat} {q:Rat} (h:Qs s q) (ht:s≤t):Qs t q:=⟨Nat.le_trans h.1 ht,Nat.le_trans h.2 ht⟩
theorem Qs.divInt {s:Nat} {n d:Int} (h:Qm n≤s) (h':Qm d≤s) (h1:1≤s):Qs s (Rat.divInt n d):=⟨Oz h,Oy h' h1⟩
theorem Wh (q:Rat):(q.den:Int)≠0:=by have:=q.den_nz; omega
theorem den_pos (q:Rat):(0:Int)<(q.den:Int):=by have:=q.den_nz; omega
def Zs (n d:Int):Rat:=Rat.divInt n (if d=0 then 1 else d)
theorem Rw (q:Rat):Zs q.num q.den=q:=by
  unfold Zs
  rw [if_neg (Wh q)]; exact Rat.num_divInt_den q
def Zo (a b:Rat):Int:=Ke (a.num*(b.den:Int)) (b.num*(a.den:Int))
theorem Kh {a b:Rat}:Zo a b<0↔a<b:=by
  rw [Rat.lt_iff]; unfold Zo Ke
  constructor
  · intro h; split at h
    · assumption
    · split at h <;> omega
  · intro h; rw [if_pos h]; decide
theorem Ww {a b:Rat}:0<Zo a b↔b<a:=by
  rw [Rat.lt_iff]; unfold Zo Ke
  constructor
  · intro h; split at h
    · omega
    · split at h
      · assumption
      · omega
  · intro h; rw [if_neg (by omega),if_pos h]; decide
theorem Wg (a:Rat):Zo a a=0:=by unfold Zo Ke; simp
end Orr

namespace Orr
open Go Go.Proofs
set_option maxRecDepth 10000
abbrev fr (q:Rat):List LV:=ri q.num++ri (q.den:Int)
theorem Gd:Qz 1=[1]:=by rw [Rh (by decide)]; rw [Zy]
theorem Vo {n:Int}:Qc Tryz.prog 83 [.agg (ri n),.agg (ri 1)] [.agg (fr (n:Rat))]:=by
  have h0:(V5 (Qz (1:Int).natAbs))[0]? = some [LV.int .i64 1]:=by rw [show (1:Int).natAbs=1 from rfl,Gd]; rfl
  have h1:decide (((V5 (Qz (1:Int).natAbs)).length:Int)=1)=true:=by rw [show (1:Int).natAbs=1 from rfl,Gd]; rfl
  exact w tt Tryz.func83 rfl [.c [] (Vv (z:=1)),.f rfl,.f rfl,.g 19 true h1,.x h0,.t rfl] rfl rfl trivial
theorem M4 {n:Int} (hn:-4000000000000000000≤n∧n≤4000000000000000000):Qc Tryz.prog 22 [.one (.int .i64 n),.one (.int .i64 1)] [.agg (fr (n:Rat))] :=
  w tt Tryz.func22 rfl [.c [] (Uo hn),.c [] (Uo (n:=1) (by decide)),.c [] Vo] rfl rfl trivial
theorem Qth {q:Rat} (hq:Qs 100000000 q):Qc Tryz.prog 21 [.agg (fr q)] [.agg (rl q)] :=
  w tt Tryz.func21 rfl [.c [] (Qtg hq.1),.c [] (Qtg hq.2)] rfl rfl trivial
end Orr

namespace Orr
open Go Go.Proofs
set_option maxRecDepth 10000
theorem Q2y {a b:Int} (h:(decide (a<0) == decide (b<0))=true):Qi (decide (a<0)) (a.natAbs+b.natAbs)=a+b:=by
  unfold Qi
  by_cases h1:a<0 <;> by_cases h2:b<0 <;> simp [h1,h2] at h ⊢ <;> omega
theorem Q21 {a b:Int} (h:¬(decide (a<0) == decide (b<0))=true) (hl:b.natAbs≤a.natAbs):Qi (decide (a<0)) (a.natAbs-b.natAbs)=a+b:=by
  unfold Qi
  by_cases h1:a<0 <;> by_cases h2:b<0 <;> simp [h1,h2] at h ⊢ <;> omega
theorem Qx8 {a b:Int} (h:¬(decide (a<0) == decide (b<0))=true) (hl:¬b.natAbs≤a.natAbs):Qi (decide (b<0)) (b.natAbs-a.natAbs)=a+b:=by
  unfold Qi
  by_cases h1:a<0 <;> by_cases h2:b<0 <;> simp [h1,h2] at h ⊢ <;> omega
theorem Mc (a:Int):(∃ m:Nat,a=(m:Int))∨∃ m:Nat,a=-(m:Int)∧0<m:=by
  rcases Int.lt_or_le a 0 with h | h
  · exact .inr ⟨a.natAbs,by omega,by omega⟩
  · exact .inl ⟨a.natAbs,by omega⟩
theorem Q20 (a b:Int):Qi (!(decide (a<0) == decide (b<0))) (a.natAbs*b.natAbs)=a*b:=by
  rcases Mc a with ⟨m,rfl⟩ | ⟨m,rfl,hm⟩ <;> rcases Mc b with ⟨n,rfl⟩ | ⟨n,rfl,hn⟩
  · simp [Qi,show ¬((m:Int)<0) by omega,show ¬((n:Int)<0) by omega]
  · simp [Qi,show ¬((m:Int)<0) by omega,show (-(n:Int)<0) by omega,hn,Int.mul_neg]
  · simp [Qi,show (-(m:Int)<0) by omega,show ¬((n:Int)<0) by omega,hm,Int.neg_mul]
  · simp [Qi,show (-(m:Int)<0) by omega,show (-(n:Int)<0) by omega,hm,hn,Int.neg_mul_neg]
theorem Q2z {a b:Int} (h:a % b=0):Qi (!(decide (a<0) == decide (b<0))) (a.natAbs / b.natAbs)=a / b:=by
  by_cases hb:b=0
  · subst hb; simp [Qi]
  obtain ⟨c,rfl⟩:=Int.dvd_of_emod_eq_zero h
  rw [Int.mul_ediv_cancel_left _ hb,Int.natAbs_mul,Nat.mul_div_cancel_left _ (by omega)]
  rcases Mc b with ⟨n,rfl⟩ | ⟨n,rfl,hn⟩ <;> rcases Mc c with ⟨m,rfl⟩ | ⟨m,rfl,hm⟩
  · have:¬((n:Int)*(m:Int)<0):=by rw [←Int.natCast_mul]; omega
    simp [Qi,this,show ¬((n:Int)<0) by omega]
  · have h1:0<n*m:=Nat.mul_pos (by omega) hm
    have:((n:Int)*-(m:Int)<0):=by rw [Int.mul_neg,←Int.natCast_mul]; omega
    simp only [this,show ¬((n:Int)<0) by omega]
    simp [Qi]
  · by_cases h0:m=0
    · subst h0; simp [Qi]
    · have h1:0<n*m:=Nat.mul_pos hn (by omega)
      have:(-(n:Int)*(m:Int)<0):=by rw [Int.neg_mul,←Int.natCast_mul]; omega
      simp only [this,show (-(n:Int)<0) by omega]
      simp [Qi]
  · have:¬(-(n:Int)*-(m:Int)<0):=by rw [Int.neg_mul_neg,←Int.natCast_mul]; omega
    simp only [this,show (-(n:Int)<0) by omega]
    simp [Qi]
theorem Qye (a b:Int):Int.sign (a-b)=Ke a b:=by
  unfold Ke
  rcases Int.lt_trichotomy a b with h | h | h
  · rw [if_pos h,Int.sign_eq_neg_one_of_neg (by omega)]
  · rw [if_neg (by omega),if_neg (by omega),h,Int.sub_self]; rfl
  · rw [if_neg (by omega),if_pos h,Int.sign_eq_one_of_pos (by omega)]
theorem Qna {x y:Nat}:0≤Tg x y↔y≤x:=by
  unfold Tg
  constructor
  · intro h; split at h
    · omega
    · omega
  · intro h; split
    · omega
    · split <;> omega
theorem I0 {x e:Nat} (h:(Qz x).length=1) (he:(Qz x)[0]? = some e):x=e:=by
  rcases hd:Qz x with _ | ⟨u,l⟩
  · rw [hd] at h; cases h
  · rcases l with _ | ⟨w,l⟩
    · rw [hd] at he; simp at he
      have:=Xg x
      rw [hd] at this; simp [X9] at this; omega
    · rw [hd] at h; simp at h
theorem Qkc {a b:Int} (hb:0<b):ri (a / ((Int.gcd a b:Nat):Int))++ri (b / ((Int.gcd a b:Nat):Int))=fr (Rat.divInt a b):=by
  obtain ⟨h1,h2⟩:=Qen (n:=a) hb
  rw [Kk,Int.gcd_comm] at h1 h2
  rw [h1,h2]
theorem Qkd (a:Int):ri a++ri 1=fr (Rat.divInt a 1):=by
  have h:=Qkc (a:=a) (b:=1) (by decide)
  rw [show ((Int.gcd a 1:Nat):Int)=1 by simp] at h
  simpa using h
theorem Qb6 {a b:Int} (hb:b≠0) (ha2:Qm a≤90000000) (hb2:Qm b≤90000000):Qm ((Int.gcd a b:Nat):Int)≤90000000∧((Int.gcd a b:Nat):Int)≠0∧a % ((Int.gcd a b:Nat):Int)=0∧b % ((Int.gcd a b:Nat):Int)=0:=by
  have h1:=Qn0 (n:=a) hb hb2
  have h2:=Qhb (n:=a) hb
  have h3:=Om a b
  have h4:=On a b
  rw [Kk,Int.gcd_comm] at h1 h2 h3 h4
  exact ⟨h1,by omega,h3,h4⟩
theorem Qcu {a b:Int} (h:b<0):Zs a b=Rat.divInt (-a) (-b):=by
  unfold Zs; rw [if_neg (by omega)]
  exact (Rat.neg_divInt_neg a b).symm
theorem Qcv {a b:Int} (h:0<b):Zs a b=Rat.divInt a b:=by
  unfold Zs; rw [if_neg (by omega)]
theorem Qpu (a b:Rat):Zs (a.num*(b.den:Int)+b.num*(a.den:Int)) ((a.den:Int)*(b.den:Int))=a+b:=by
  unfold Zs
  rw [if_neg (Int.mul_ne_zero (Wh a) (Wh b)),←Rat.divInt_add_divInt _ _ (Wh a) (Wh b),Rat.num_divInt_den,Rat.num_divInt_den]
theorem Qcj (a b:Rat):Zs (a.num*b.num) ((a.den:Int)*(b.den:Int))=a*b:=by
  unfold Zs
  rw [if_neg (Int.mul_ne_zero (Wh a) (Wh b)),←Rat.divInt_mul_divInt,Rat.num_divInt_den,Rat.num_divInt_den]
theorem Qct {a b:Rat} (h:b≠0):Zs (a.num*(b.den:Int)) ((a.den:Int)*b.num)=a / b:=by
  have hn:b.num≠0:=fun e=>h (Rat.num_eq_zero.1 e)
  unfold Zs
  rw [if_neg (Int.mul_ne_zero (Wh a) hn),←Rat.divInt_mul_divInt,Rat.num_divInt_den,Rat.div_def]
  congr 1
  conv=>rhs; rw [←Rat.num_divInt_den b,Rat.inv_divInt]
theorem Qdj {z:Int} (hz:Qm z≤100000000):Qc Tryz.prog 48 [.agg (Zv z)] [.agg (ri z)]:=by
  have hl:(Qw z.natAbs).length≤1099511627776:=by have h2:32*(Qw z.natAbs).length≤100000000+31:=X1 hz; omega
  have h:=Qzy (l:=Qw z.natAbs) (fun u hu=>(Wm _).1 u hu) hl (by rw [Ze]; exact hz)
  rw [Ze] at h
  have hm:=Fy (decide (z<0)) z.natAbs
  have e:Qi (decide (z<0)) z.natAbs=z:=by unfold Qi; by_cases h:z<0 <;> simp [h] <;> omega
  rw [e] at hm
  exact w tt Tryz.func48 rfl [.c [] h,.c [] hm] rfl rfl trivial
theorem Qmv {z:Int}:Qc Tryz.prog 150 [.agg (ri z)] [.one (.int .i64 (Int.sign z))]:=by
  have hn:=Bi (x:=z.natAbs)
  have hl:=M8 z.natAbs
  rcases Int.lt_trichotomy z 0 with h | h | h
  · rw [Int.sign_eq_neg_one_of_neg h]
    exact w tt Tryz.func150 rfl [.f (by simp only [Xt]; exact decide_eq_false (by omega)),.t (decide_eq_true h)] rfl rfl trivial
  · subst h
    exact w tt Tryz.func150 rfl [.t (by simp only [Xt]; show decide (((Qz 0).length:Int)=0)=true; rw [Zy]; rfl)] rfl rfl trivial
  · rw [Int.sign_eq_one_of_pos h]
    exact w tt Tryz.func150 rfl [.f (by simp only [Xt]; exact decide_eq_false (by omega)),.f (decide_eq_false (by omega))] rfl rfl trivial
theorem Qjv {a b:Int} (ha:Qm a≤200000000) (hb:Qm b≤200000000):Qc Tryz.prog 210 [.agg (ri a),.agg (ri b)] [.agg (ri (a+b))]:=by
  by_cases hs:(decide (a<0) == decide (b<0))=true
  · have cm:=Fy (decide (a<0)) (a.natAbs+b.natAbs)
    rw [Q2y hs] at cm
    exact w tt Tryz.func210 rfl [.t hs,.c [] (Q45 ha hb),.c [] cm] rfl rfl trivial
  · have hs':(decide (a<0) == decide (b<0))=false:=by simpa using hs
    by_cases hl:b.natAbs≤a.natAbs
    · have cm:=Fy (decide (a<0)) (a.natAbs-b.natAbs)
      rw [Q21 hs hl] at cm
      exact w tt Tryz.func210 rfl [.f hs',.c [] (Qjn ha hb),.t (decide_eq_true (Qna.2 hl)),.c [] (Qjt ha hb hl),.c [] cm] rfl rfl trivial
    · have cm:=Fy (decide (b<0)) (b.natAbs-a.natAbs)
      rw [Qx8 hs hl] at cm
      exact w tt Tryz.func210 rfl [.f hs',.c [] (Qjn ha hb),.f (decide_eq_false fun h=>hl (Qna.1 h)),.c [] (Qjt hb ha (by omega)),.c [] cm] rfl rfl trivial
theorem Qto {a b:Int} (ha:Qm a≤200000000) (hb:Qm b≤200000000):Qc Tryz.prog 151 [.agg (ri a),.agg (ri b)] [.agg (ri (a-b))]:=by
  have ca:=Qjv (a:=a) (b:=-b) ha (by rw [Z3]; exact hb)
  rw [show a+-b=a-b from by omega] at ca
  exact w tt Tryz.func151 rfl [.c [] (Ra (z:=b)),.c [] ca] rfl rfl trivial
theorem Yv {a b:Int} (ha:Qm a≤200000000) (hb:Qm b≤200000000):Qc Tryz.prog 47 [.agg (ri a),.agg (ri b)] [.agg (ri (a*b))]:=by
  have cm:=Fy (!(decide (a<0) == decide (b<0))) (a.natAbs*b.natAbs)
  rw [Q20] at cm
  exact w tt Tryz.func47 rfl [.c [] (Q48 ha hb),.c [] cm] rfl rfl trivial
theorem Q5f {a b:Int} (ha:Qm a≤200000000) (hb:Qm b≤200000000):Qc Tryz.prog 88 [.agg (ri a),.agg (ri b)] [.one (.int .i64 (Ke a b))]:=by
  have h:=Qmv (z:=a-b)
  rw [Qye] at h
  exact w tt Tryz.func88 rfl [.c [] (Qto ha hb),.c [] h] rfl rfl trivial
theorem Dn {a b:Int} (ha:Qm a≤90000000) (hb:Qm b≤90000000) (h0:b≠0) (hd:a % b=0):Qc Tryz.prog 142 [.agg (ri a),.agg (ri b)] [.agg (ri (a / b))]:=by
  have cm:=Fy (!(decide (a<0) == decide (b<0))) (a.natAbs / b.natAbs)
  rw [Q2z hd] at cm
  exact w tt Tryz.func142 rfl [.c [] (Qsq ha hb (by omega)),.c [] cm] rfl rfl trivial
theorem Q6w (x:Nat):ri ((x:Nat):Int)=[nd x,.bool false]:=by
  unfold ri sg
  rw [Int.natAbs_natCast,decide_eq_false (by omega)]
theorem In {a b:Int} (ha:Qm a≤90000000) (hb:Qm b≤90000000):Qc Tryz.prog 141 [.agg (ri a),.agg (ri b)] [.agg (ri ((Int.gcd a b:Nat):Int))]:=by
  rw [Q6w]
  refine Z1 Tryz.func141 rfl ?_
  refine go tt [] rfl trivial ?_
  refine lp (S:=Nat×Nat) 3 (fun L1 s=>(5,.v (.one (nd s.1)))::(6,.v (.one (nd s.2)))::L1) (fun _=>[.blk 47 (ri a),.blk 47 (ri b),.blk 47 [.nils,.bool false]]) (fun s=>s.2) (fun s=>Nat.gcd s.1 s.2=Int.gcd a b∧sz s.1≤90000000∧sz s.2≤90000000) (a.natAbs,b.natAbs) ⟨rfl,ha,hb⟩ rfl (fun _ _=>rfl) rfl fun s hs=>?_
  obtain ⟨x,y⟩:=s
  obtain ⟨hp0,hp1,hp2⟩:=hs
  dsimp only at hp0 hp1 hp2 ⊢
  have hyn:=Bi (x:=y)
  have hyl:=M8 y
  by_cases h1:y=0
  · have e:Int.gcd a b=x:=by rw [←hp0,h1,Nat.gcd_zero_right]
    rw [e]
    exact en tt [.f (by simp only [Xt]; exact decide_eq_false (by omega))] rfl rfl trivial
  · have hlt:=Nat.mod_lt x (show 0<y by omega)
    refine go tt [.t (by simp only [Xt]; exact decide_eq_true (by omega)),.c [] (Qsq hp1 hp2 (by omega))] rfl trivial ?_
    exact rd (y,x % y) (by dsimp only; omega) ⟨by dsimp only; rw [←hp0,Nat.gcd_comm x y,Nat.gcd_rec y x,Nat.gcd_comm],hp2,Nat.le_trans (X3 (by dsimp only; omega)) hp2⟩ rfl
theorem N0 {a b:Int} (ha:Qm a≤90000000) (hb:Qm b≤90000000):Qc Tryz.prog 83 [.agg (ri a),.agg (ri b)] [.agg (fr (Zs a b))]:=by
  rcases Int.lt_trichotomy b 0 with hs | hs | hs
  · skip
    by_cases h1:-b=1
    · have h0:(V5 (Qz (-b).natAbs))[0]? = some [LV.int .i64 1]:=by rw [h1,show (1:Int).natAbs=1 from rfl,Gd]; rfl
      have hl1:decide (((V5 (Qz (-b).natAbs)).length:Int)=1)=true:=by rw [h1,show (1:Int).natAbs=1 from rfl,Gd]; rfl
      have e:fr (Zs a b)=ri (-a)++ri (-b):=by rw [Qcu hs,h1]; exact (Qkd _).symm
      rw [e]
      exact w tt Tryz.func83 rfl [.c [] (Vv (z:=b)),.f (decide_eq_false (by omega)),.t (decide_eq_true hs),.c [] (Ra (z:=a)),.c [] (Ra (z:=b)),.g 19 true hl1,.x h0,.t rfl] rfl rfl trivial
    · have hgf:=Qb6 (a:=-a) (b:=-b) (by omega) (by first | exact ha | (rw [Z3]; exact ha)) (by first | exact hb | (rw [Z3]; exact hb))
      have cg:=In (a:=-a) (b:=-b) (by first | exact ha | (rw [Z3]; exact ha)) (by first | exact hb | (rw [Z3]; exact hb))
      have q1:=Dn (a:=-a) (b:=((Int.gcd (-a) (-b):Nat):Int)) (by first | exact ha | (rw [Z3]; exact ha)) hgf.1 hgf.2.1 hgf.2.2.1
      have q2:=Dn (a:=-b) (b:=((Int.gcd (-a) (-b):Nat):Int)) (by first | exact hb | (rw [Z3]; exact hb)) hgf.1 hgf.2.1 hgf.2.2.2
      have e:fr (Zs a b)=ri ((-a) / ((Int.gcd (-a) (-b):Nat):Int))++ri ((-b) / ((Int.gcd (-a) (-b):Nat):Int)):=by rw [Qcu hs]; exact (Qkc (by omega)).symm
      rw [e]
      have hl:=M8 (-b).natAbs
      by_cases hl1:(Qz (-b).natAbs).length=1
      · obtain ⟨u,hu⟩:∃ u,(Qz (-b).natAbs)[0]? = some u:=⟨_,List.getElem?_eq_getElem (by omega)⟩
        have hue:=I0 hl1 hu
        exact w tt Tryz.func83 rfl [.c [] (Vv (z:=b)),.f (decide_eq_false (by omega)),.t (decide_eq_true hs),.c [] (Ra (z:=a)),.c [] (Ra (z:=b)),.g 19 true (by simp only [Xt]; exact decide_eq_true (by omega)),.x (Zf hu),.f (decide_eq_false (by omega)),.c [] cg,.c [] q1,.c [] q2] rfl rfl trivial
      · exact w tt Tryz.func83 rfl [.c [] (Vv (z:=b)),.f (decide_eq_false (by omega)),.t (decide_eq_true hs),.c [] (Ra (z:=a)),.c [] (Ra (z:=b)),.g 19 false (by simp only [Xt]; exact decide_eq_false (by omega)),.f rfl,.c [] cg,.c [] q1,.c [] q2] rfl rfl trivial
  · subst hs
    have h0:(V5 (Qz (1:Int).natAbs))[0]? = some [LV.int .i64 1]:=by rw [show (1:Int).natAbs=1 from rfl,Gd]; rfl
    have h1:decide (((V5 (Qz (1:Int).natAbs)).length:Int)=1)=true:=by rw [show (1:Int).natAbs=1 from rfl,Gd]; rfl
    have e:fr (Zs a 0)=ri a++ri 1:=(Qkd a).symm
    rw [e]
    exact w tt Tryz.func83 rfl [.c [] (Vv (z:=0)),.t rfl,.c [] (Uo (n:=1) (by decide)),.f rfl,.g 19 true h1,.x h0,.t rfl] rfl rfl trivial
  · skip
    by_cases h1:b=1
    · have h0:(V5 (Qz (b).natAbs))[0]? = some [LV.int .i64 1]:=by rw [h1,show (1:Int).natAbs=1 from rfl,Gd]; rfl
      have hl1:decide (((V5 (Qz (b).natAbs)).length:Int)=1)=true:=by rw [h1,show (1:Int).natAbs=1 from rfl,Gd]; rfl
      have e:fr (Zs a b)=ri (a)++ri (b):=by rw [Qcv hs,h1]; exact (Qkd _).symm
      rw [e]
      exact w tt Tryz.func83 rfl [.c [] (Vv (z:=b)),.f (decide_eq_false (by omega)),.f (decide_eq_false (by omega)),.g 19 true hl1,.x h0,.t rfl] rfl rfl trivial
    · have hgf:=Qb6 (a:=a) (b:=b) (by omega) (by first | exact ha | (rw [Z3]; exact ha)) (by first | exact hb | (rw [Z3]; exact hb))
      have cg:=In (a:=a) (b:=b) (by first | exact ha | (rw [Z3]; exact ha)) (by first | exact hb | (rw [Z3]; exact hb))
      have q1:=Dn (a:=a) (b:=((Int.gcd (a) (b):Nat):Int)) (by first | exact ha | (rw [Z3]; exact ha)) hgf.1 hgf.2.1 hgf.2.2.1
      have q2:=Dn (a:=b) (b:=((Int.gcd (a) (b):Nat):Int)) (by first | exact hb | (rw [Z3]; exact hb)) hgf.1 hgf.2.1 hgf.2.2.2
      have e:fr (Zs a b)=ri ((a) / ((Int.gcd (a) (b):Nat):Int))++ri ((b) / ((Int.gcd (a) (b):Nat):Int)):=by rw [Qcv hs]; exact (Qkc (by omega)).symm
      rw [e]
      have hl:=M8 (b).natAbs
      by_cases hl1:(Qz (b).natAbs).length=1
      · obtain ⟨u,hu⟩:∃ u,(Qz (b).natAbs)[0]? = some u:=⟨_,List.getElem?_eq_getElem (by omega)⟩
        have hue:=I0 hl1 hu
        exact w tt Tryz.func83 rfl [.c [] (Vv (z:=b)),.f (decide_eq_false (by omega)),.f (decide_eq_false (by omega)),.g 19 true (by simp only [Xt]; exact decide_eq_true (by omega)),.x (Zf hu),.f (decide_eq_false (by omega)),.c [] cg,.c [] q1,.c [] q2] rfl rfl trivial
      · exact w tt Tryz.func83 rfl [.c [] (Vv (z:=b)),.f (decide_eq_false (by omega)),.f (decide_eq_false (by omega)),.g 19 false (by simp only [Xt]; exact decide_eq_false (by omega)),.f rfl,.c [] cg,.c [] q1,.c [] q2] rfl rfl trivial
theorem Q8b {n d:Int} (hn:-1000000000≤n∧n≤1000000000) (hd:-1000000000≤d∧d≤1000000000):Qc Tryz.prog 22 [.one (.int .i64 n),.one (.int .i64 d)] [.agg (fr (Zs n d))]:=by
  have b1:Qm n≤90000000:=Nat.le_trans (Jz.2 (show n.natAbs<2^40 by omega)) (by decide)
  have b2:Qm d≤90000000:=Nat.le_trans (Jz.2 (show d.natAbs<2^40 by omega)) (by decide)
  exact w tt Tryz.func22 rfl [.c [] (Uo (by omega)),.c [] (Uo (by omega)),.c [] (N0 b1 b2)] rfl rfl trivial
theorem Q5a {a:Rat}:Qc Tryz.prog 206 [.agg (fr a)] [.agg (fr (-a))]:=by
  have e:fr (-a)=ri (-a.num)++ri (a.den:Int):=rfl
  rw [e]
  exact w tt Tryz.func206 rfl [.c [] (Ra (z:=a.num))] rfl rfl trivial
theorem Qsn {a b:Rat} (ha:Qs 20000000 a) (hb:Qs 20000000 b):Qc Tryz.prog 285 [.agg (fr a),.agg (fr b)] [.agg (fr (a+b))]:=by
  have k1:=Q3 a.num (b.den:Int)
  have k2:=Q3 b.num (a.den:Int)
  have k3:=Q3 (a.den:Int) (b.den:Int)
  have k4:=P0 (a.num*(b.den:Int)) (b.num*(a.den:Int))
  have h1:=ha.1; have h2:=ha.2; have h3:=hb.1; have h4:=hb.2
  have cm:=N0 (a:=a.num*(b.den:Int)+b.num*(a.den:Int)) (b:=(a.den:Int)*(b.den:Int)) (by omega) (by omega)
  rw [Qpu] at cm
  exact w tt Tryz.func285 rfl [.c [] (Yv (a:=a.num) (b:=(b.den:Int)) (by omega) (by omega)),.c [] (Yv (a:=b.num) (b:=(a.den:Int)) (by omega) (by omega)),.c [] (Qjv (by omega) (by omega)),.c [] (Yv (a:=(a.den:Int)) (b:=(b.den:Int)) (by omega) (by omega)),.c [] cm] rfl rfl trivial
theorem Qsz {a b:Rat} (ha:Qs 40000000 a) (hb:Qs 40000000 b):Qc Tryz.prog 279 [.agg (fr a),.agg (fr b)] [.agg (fr (a*b))]:=by
  have k1:=Q3 a.num b.num
  have k3:=Q3 (a.den:Int) (b.den:Int)
  have h1:=ha.1; have h2:=ha.2; have h3:=hb.1; have h4:=hb.2
  have cm:=N0 (a:=a.num*b.num) (b:=(a.den:Int)*(b.den:Int)) (by omega) (by omega)
  rw [Qcj] at cm
  exact w tt Tryz.func279 rfl [.c [] (Yv (a:=a.num) (b:=b.num) (by omega) (by omega)),.c [] (Yv (a:=(a.den:Int)) (b:=(b.den:Int)) (by omega) (by omega)),.c [] cm] rfl rfl trivial
theorem Qjq {a b:Rat} (ha:Qs 40000000 a) (hb:Qs 40000000 b) (h0:b≠0):Qc Tryz.prog 309 [.agg (fr a),.agg (fr b)] [.agg (fr (a / b))]:=by
  have k1:=Q3 a.num (b.den:Int)
  have k3:=Q3 (a.den:Int) b.num
  have h1:=ha.1; have h2:=ha.2; have h3:=hb.1; have h4:=hb.2
  have cm:=N0 (a:=a.num*(b.den:Int)) (b:=(a.den:Int)*b.num) (by omega) (by omega)
  rw [Qct h0] at cm
  exact w tt Tryz.func309 rfl [.c [] (Yv (a:=a.num) (b:=(b.den:Int)) (by omega) (by omega)),.c [] (Yv (a:=(a.den:Int)) (b:=b.num) (by omega) (by omega)),.c [] cm] rfl rfl trivial
theorem Qds {a b:Rat} (ha:Qs 40000000 a) (hb:Qs 40000000 b):Qc Tryz.prog 33 [.agg (fr a),.agg (fr b)] [.one (.int .i64 (Zo a b))]:=by
  have k1:=Q3 a.num (b.den:Int)
  have k2:=Q3 b.num (a.den:Int)
  have h1:=ha.1; have h2:=ha.2; have h3:=hb.1; have h4:=hb.2
  exact w tt Tryz.func33 rfl [.c [] (Yv (a:=a.num) (b:=(b.den:Int)) (by omega) (by omega)),.c [] (Yv (a:=b.num) (b:=(a.den:Int)) (by omega) (by omega)),.c [] (Q5f (a:=a.num*(b.den:Int)) (b:=b.num*(a.den:Int)) (by omega) (by omega))] rfl rfl trivial
end Orr

namespace Orr
def Wc:List Rat→List Rat
  | []=>[]
  |
   x::l=>match Wc l with
   | []=>if x=0 then [] else [x]
   | y::k=>x::y::k
theorem Pe:∀ {l:List Rat},(∀ x∈l,x=0)→Wc l=[]
  | [],_=>rfl
  |
   x::l,h=>by
   have ih:=Pe (l:=l) (fun y hy=>h y (List.mem_cons_of_mem _ hy))
   simp [Wc,ih,h x (List.mem_cons_self ..)]
theorem Qaq:∀ {l:List Rat} {m:Nat} {y:Rat},(∀ j x,m<j→l[j]? = some x→x=0)→l[m]? = some y→y≠0→Wc l=l.take (m+1)
  | [],m,y,_,h,_=>by simp at h
  |
   x::l,0,y,h1,h2,h3=>by
   have h0:Wc l=[]:=Pe fun z hz=>by
     obtain ⟨j,hj⟩:=List.mem_iff_getElem?.1 hz
     exact h1 (j+1) z (by omega) (by simpa using hj)
   simp at h2
   subst h2
   simp [Wc,h0,h3]
  |
   x::l,m+1,y,h1,h2,h3=>by
   have ih:=Qaq (l:=l) (m:=m) (y:=y) (fun j z hj hz=>h1 (j+1) z (by omega) (by simpa using hz)) (by simpa using h2) h3
   cases hl:l with
   | nil=>subst hl; simp at h2
   |
    cons u k =>
    subst hl
    rw [List.take_succ_cons] at ih
    simp only [Wc] at ih ⊢
    rw [ih]
    simp
theorem Lt {l:List Rat} {m:Nat} (hm:m≤l.length) (h1:∀ j x,m≤j→l[j]? = some x→x=0) (h2:0<m→∃ y,l[m-1]? = some y∧y≠0):Wc l=l.take m:=by
  rcases Nat.eq_zero_or_pos m with h0 | h0
  · subst h0
    rw [Pe fun z hz=>?_]; rfl
    obtain ⟨j,hj⟩:=List.mem_iff_getElem?.1 hz
    exact h1 j z (by omega) hj
  · obtain ⟨y,hy,hy0⟩:=h2 h0
    have:=Qaq (l:=l) (m:=m-1) (y:=y) (fun j x hj hx=>h1 j x (by omega) hx) hy hy0
    rwa [show m-1+1=m from by omega] at this
theorem Qc2:∀ (l:List Rat),∀ z∈Wc l,z∈l
  | [],z,h=>h
  |
   x::l,z,h=>by
   simp only [Wc] at h
   have ih:=Qc2 l
   split at h
   · split at h
     · cases h
     · simp at h; simp [h]
   · rename_i y k e
     rw [e] at ih
     rcases List.mem_cons.1 h with h | h
     · simp [h]
     · exact List.mem_cons_of_mem _ (ih z h)
theorem Qc1:∀ (l:List Rat),(Wc l).length≤l.length
  | []=>Nat.le_refl _
  |
   x::l=>by
   have ih:=Qc1 l
   simp only [Wc]
   split
   · split <;> simp
   · rename_i y k e
     rw [e] at ih
     simp at ih ⊢; omega
def zp (p:List Int):List Rat:=p.map fun (z:Int)=>(z:Rat)
theorem K6:∀ (p:List Int),Wc (zp p)=zp (trim p)
  | []=>rfl
  |
   x::l=>by
   have ih:=K6 l
   unfold zp at ih ⊢
   simp only [List.map_cons,Wc,trim,ih]
   cases h:trim l with
   |
    nil =>
    simp only [List.map_nil]
    by_cases hx:x=0
    · subst hx; simp
    · have:(x:Rat)≠0:=fun e=>hx (by exact_mod_cast e)
      simp [hx,this]
   | cons y k=>simp
theorem Ym (p:List Int):(zp p).length=p.length:=List.length_map _
theorem Qzb {p:List Int} {i:Nat} {z:Int} (h:p[i]? = some z):(zp p)[i]? = some (z:Rat):=by simp [zp,h]
theorem Db (p:List Int) (i:Nat):(zp p).getD i 0=((p.getD i 0:Int):Rat):=by
  simp only [List.getD_eq_getElem?_getD,zp,List.getElem?_map]
  cases p[i]? <;> rfl
def Rb (s:Nat) (p:List Rat):Prop:=∀ q∈p,Qs s q
theorem Rb.mono {s t:Nat} {p:List Rat} (h:Rb s p) (ht:s≤t):Rb t p:=fun q hq=>(h q hq).mono ht
theorem Rb.get {s:Nat} {p:List Rat} (h:Rb s p) {i:Nat} {q:Rat} (hq:p[i]? = some q):Qs s q:=h q (List.mem_of_getElem? hq)
theorem Um {s:Nat} {z:Int} (h:Qm z≤s) (h1:1≤s):Qs s (z:Rat):=⟨by simpa using h,Nat.le_trans (show Qm ((1:Nat):Int)≤1 by decide) h1⟩
theorem Mx {s:Nat} {p:List Int} (h:Bd s p) (h1:1≤s):Rb s (zp p):=fun q hq=>by
  obtain ⟨z,hz,rfl⟩:=List.mem_map.1 hq
  exact Um (h z hz) h1
theorem Q2k {s:Nat} (h1:1≤s):Qs s 0:=Um (z:=0) (by simp [Vq]) h1
theorem Rb.getD {s:Nat} {p:List Rat} (h:Rb s p) (h1:1≤s) (i:Nat):Qs s (p.getD i 0):=by
  rw [List.getD_eq_getElem?_getD]
  cases e:p[i]? with
  | none=>exact Q2k h1
  | some q=>exact h.get e
theorem Rb.trim {s:Nat} {p:List Rat} (h:Rb s p):Rb s (Wc p):=fun q hq=>h q (Qc2 p q hq)
def Ti (f:Nat→Rat) (n:Nat):List Rat:=(List.range n).map f
theorem Cy (f:Nat→Rat) (n:Nat):(Ti f n).length=n:=by simp [Ti]
theorem Qc8 (f:Nat→Rat) (n:Nat):Ti f (n+1)=Ti f n++[f n]:=by simp [Ti,List.range_succ]
theorem Q29 {s n:Nat} {f:Nat→Rat} (h:∀ i,i<n→Qs s (f i)):Rb s (Ti f n):=fun q hq=>by
  obtain ⟨i,hi,rfl⟩:=List.mem_map.1 hq
  exact h i (List.mem_range.1 hi)
theorem A8 {f:Nat→Rat} {g:Nat→Int} (n:Nat) (h:∀ i,i<n→f i=(g i:Rat)):Ti f n=zp ((List.range n).map g):=by
  simp only [Ti,zp,List.map_map]
  exact List.map_congr_left fun i hi=>h i (List.mem_range.1 hi)
def Qrn (p q:List Rat):List Rat:=Wc (Ti (fun i=>p.getD i 0+q.getD i 0) (max p.length q.length))
def Vm (p:List Rat) (c:Rat):List Rat:=Wc (Ti (fun i=>p.getD i 0*c) p.length)
def Qfd (p:List Rat):List Rat:=Vm p (-1)
def Qxz (p q:List Rat):List Rat:=Qrn p (Qfd q)
theorem Q2m (p q:List Int):Qrn (zp p) (zp q)=zp (Ca p q):=by
  unfold Qrn Ca Vk
  rw [A8 (g:=fun k=>p.getD k 0+q.getD k 0) _ fun i _=>by rw [Db,Db,Rat.intCast_add],K6,Ym,Ym]
theorem Qcy (p:List Int) (c:Int):Vm (zp p) (c:Rat)=zp (Qx p c):=by
  unfold Vm Qx Vk
  rw [A8 (g:=fun k=>p.getD k 0*c) _ fun i _=>by rw [Db,Rat.intCast_mul],K6,Ym]
theorem Qk4 (p:List Int):Qx p (-1)=Vd p:=by
  unfold Qx Vd Vk
  congr 2
  funext k
  omega
theorem Qo6 (p:List Int):Qfd (zp p)=zp (Vd p):=by
  rw [←Qk4,←Qcy]; rfl
theorem Sa {p q:List Int} (hp:Qj p) (hq:Qj q) (h:∀ k,p.getD k 0=q.getD k 0):p=q:=by
  have key:∀ {p q:List Int},Qj q→(∀ k,p.getD k 0=q.getD k 0)→q.length≤p.length:=by
    intro p q hq h
    rcases Nat.lt_or_ge p.length q.length with h1 | h1
    · have h2:=Xd hq (by omega)
      rw [←h,List.getD_eq_getElem?_getD,List.getElem?_eq_none (by omega)] at h2
      exact (h2 rfl).elim
    · exact h1
  exact Ob (Nat.le_antisymm (key hp fun k=>(h k).symm) (key hq h)) fun j _=>h j
theorem Qj9 {n m:Nat} {f g:Nat→Int} (hn:n≤m) (h:∀ k,k<n→f k=g k) (h0:∀ k,n≤k→k<m→g k=0):Vk n f=Vk m g:=by
  refine Sa (Q9 _ _) (Q9 _ _) fun k=>?_
  rw [Yh,Yh]
  by_cases h1:k<n
  · rw [if_pos h1,if_pos (by omega),h k h1]
  · rw [if_neg h1]
    by_cases h2:k<m
    · rw [if_pos h2,h0 k (by omega) h2]
    · rw [if_neg h2]
theorem Qpa (p q:List Int):Qxz (zp p) (zp q)=zp (V0 p q):=by
  unfold Qxz
  rw [Qo6,Q2m]
  congr 1
  have hl:=So q
  unfold Ca V0
  refine Qj9 (by omega) (fun k _=>?_) fun k h1 h2=>?_
  · unfold Vd
    rw [Yh]
    split
    · omega
    · rename_i h
      have:q.getD k 0=0:=by rw [List.getD_eq_getElem?_getD,List.getElem?_eq_none (by omega)]; rfl
      omega
  · have h3:p.getD k 0=0:=by rw [List.getD_eq_getElem?_getD,List.getElem?_eq_none (by omega)]; rfl
    have h4:(Vd q).getD k 0=0:=by rw [List.getD_eq_getElem?_getD,List.getElem?_eq_none (by omega)]; rfl
    unfold Vd at h4
    rw [Yh] at h4
    split at h4
    · omega
    · have:q.getD k 0=0:=by rw [List.getD_eq_getElem?_getD,List.getElem?_eq_none (by omega)]; rfl
      omega
end Orr

namespace Orr
structure Crv where
  x:List Int
  y:List Int
  d:Int
abbrev cl (k:Crv):List LV:=[pl k.x,pl k.y,sg k.d,mg k.d]
def Crv.d' (k:Crv):Int:=if k.d=0 then 1 else k.d
def Crv.g (k:Crv):Int:=if k.d'<0 then -((Z7 (k.d'::(trim k.x++trim k.y)):Nat):Int) else (Z7 (k.d'::(trim k.x++trim k.y)):Nat)
def Crv.norm (k:Crv):Crv:=⟨trim ((trim k.x).map (· / k.g)),trim ((trim k.y).map (· / k.g)),k.d' / k.g⟩
theorem Sf {l:List Int}:∀ z∈l,((Z7 l:Nat):Int)∣z:=by
  have key:∀ (l:List Int) (g:Nat),(l.foldl (fun g z=>Nat.gcd g z.natAbs) g∣g)∧∀ z∈l,l.foldl (fun g z=>Nat.gcd g z.natAbs) g∣z.natAbs:=by
    intro l
    induction l with
    | nil=>intro g; exact ⟨Nat.dvd_refl _,by simp⟩
    |
     cons u l ih =>
     intro g
     obtain ⟨h1,h2⟩:=ih (Nat.gcd g u.natAbs)
     refine ⟨Nat.dvd_trans h1 (Nat.gcd_dvd_left _ _),fun z hz=>?_⟩
     rcases List.mem_cons.1 hz with rfl | hz
     · exact Nat.dvd_trans h1 (Nat.gcd_dvd_right _ _)
     · exact h2 z hz
  intro z hz
  have:=(key l 0).2 z hz
  exact Int.ofNat_dvd_left.2 this
theorem Crv.d'_ne (k:Crv):k.d'≠0:=by unfold Crv.d'; split <;> omega
theorem Crv.gcd_ne (k:Crv):Z7 (k.d'::(trim k.x++trim k.y))≠0:=by
  intro e
  have h:=Sf (l:=k.d'::(trim k.x++trim k.y)) k.d' (List.mem_cons_self ..)
  rw [e] at h
  exact k.d'_ne (by simpa using h)
theorem Crv.g_ne (k:Crv):k.g≠0:=by
  have h0:=k.gcd_ne
  unfold Crv.g
  split <;> omega
theorem Crv.g_dvd (k:Crv):∀ z∈k.d'::(trim k.x++trim k.y),z % k.g=0:=by
  intro z hz
  have h:=Sf z hz
  refine Int.emod_eq_zero_of_dvd ?_
  unfold Crv.g
  split
  · exact Int.neg_dvd.2 h
  · exact h
theorem Crv.isz_g (k:Crv) {s:Nat} (h:Qm k.d'≤s):Qm k.g≤s:=by
  have hd:=Sf (l:=k.d'::(trim k.x++trim k.y)) k.d' (List.mem_cons_self ..)
  have hle:Z7 (k.d'::(trim k.x++trim k.y))≤k.d'.natAbs:=Nat.le_of_dvd (by have:=k.d'_ne; omega) (Int.ofNat_dvd_left.1 hd)
  refine Nat.le_trans (X3 ?_) h
  unfold Crv.g
  split <;> simp <;> exact hle
structure Cs (s n:Nat) (k:Crv):Prop where
  x:Bd s k.x
  y:Bd s k.y
  d:Qm k.d≤s
  lx:k.x.length≤n
  ly:k.y.length≤n
theorem Qeg {k:Crv} {s:Nat} (h:Qm k.d≤s) (h1:1≤s):Qm k.d'≤s:=by unfold Crv.d'; split <;> first | exact h1 | exact h
theorem Dh {s:Nat} {p:List Int} (h:Bd s p) (g:Int):Bd s (p.map (· / g)):=fun z hz=>by
  obtain ⟨u,hu,rfl⟩:=List.mem_map.1 hz
  exact Nat.le_trans (Sl u g) (h u hu)
theorem Cs.norm {s n:Nat} {k:Crv} (h:Cs s n k) (h1:1≤s):Cs s n k.norm:=by
  refine ⟨Jj (Dh (Jj h.x) _),Jj (Dh (Jj h.y) _),Nat.le_trans (Sl _ _) (Qeg h.d h1),?_,?_⟩
  · refine Nat.le_trans (Xc _) ?_; rw [List.length_map]; exact Nat.le_trans (Xc _) h.lx
  · refine Nat.le_trans (Xc _) ?_; rw [List.length_map]; exact Nat.le_trans (Xc _) h.ly
theorem Cs.mono {s n t m:Nat} {k:Crv} (h:Cs s n k) (hs:s≤t) (hn:n≤m):Cs t m k:=⟨Qd h.x hs,Qd h.y hs,Nat.le_trans h.d hs,Nat.le_trans h.lx hn,Nat.le_trans h.ly hn⟩
def Nml (k:Crv):Prop:=Qj k.x∧Qj k.y∧0<k.d∧Z7 (k.d::(k.x++k.y))=1
theorem Crv.norm_of {k:Crv} (h:Nml k):k.norm=k:=by
  obtain ⟨h1,h2,h3,h4⟩:=h
  have hd:k.d'=k.d:=by unfold Crv.d'; rw [if_neg (by omega)]
  have hx:trim k.x=k.x:=h1
  have hy:trim k.y=k.y:=h2
  have hg:k.g=1:=by unfold Crv.g; rw [hd,hx,hy,h4,if_neg (by omega)]; rfl
  unfold Crv.norm
  rw [hg,hd,hx,hy]
  simp [hx,hy]
theorem Qd8 {l:List Int} {g:Int} (hg:g≠0) (hga:g.natAbs=Z7 l):Z7 (l.map (· / g))=1:=by
  have key:∀ (l:List Int) (a:Nat),(∀ z∈l,g∣z)→l.foldl (fun a z=>Nat.gcd a z.natAbs) (a*g.natAbs)=((l.map (· / g)).foldl (fun a z=>Nat.gcd a z.natAbs) a)*g.natAbs:=by
    intro l
    induction l with
    | nil=>intro a _; rfl
    |
     cons z l ih =>
     intro a h
     simp only [List.map_cons,List.foldl_cons]
     have hz:z.natAbs=(z / g).natAbs*g.natAbs:=by
       obtain ⟨q,rfl⟩:=h z (List.mem_cons_self ..)
       rw [Int.mul_ediv_cancel_left _ hg,Int.natAbs_mul,Nat.mul_comm]
     rw [hz,Nat.gcd_mul_right]
     exact ih _ fun u hu=>h u (List.mem_cons_of_mem _ hu)
  have h:=key l 0 fun z hz=>Int.natAbs_dvd_natAbs.1 (by rw [hga]; exact Int.natAbs_dvd_natAbs.2 (Sf z hz))
  rw [Nat.zero_mul] at h
  have h':Z7 l=Z7 (l.map (· / g))*g.natAbs:=h
  rw [←hga] at h'
  have hp:0<g.natAbs:=by omega
  exact Nat.eq_of_mul_eq_mul_right hp (by rw [Nat.one_mul]; exact h'.symm)
theorem Fv {l:List Int} {g:Int} (ht:Qj l) (hg:g≠0) (hd:∀ z∈l,g∣z):Qj (l.map (· / g)):=by
  induction l with
  | nil=>rfl
  |
   cons x l ih =>
   have hne:∀ z∈x::l,z≠0→z / g≠0:=fun z hz h0 h1=>by
     obtain ⟨q,rfl⟩:=hd z hz
     rw [Int.mul_ediv_cancel_left _ hg] at h1
     rw [h1] at h0; simp at h0
   unfold Qj at ht ih ⊢
   cases hl:trim l with
   |
    nil =>
    simp only [trim,hl] at ht
    split at ht
    · cases ht
    · rename_i hx
      injection ht with _ h2
      subst h2
      simp [trim,hne x (List.mem_cons_self ..) hx]
   |
    cons y k =>
    simp only [trim,hl] at ht
    injection ht with _ h2
    have hll:trim l=l:=by rw [hl]; exact h2
    have ih:=ih hll fun z hz=>hd z (List.mem_cons_of_mem _ hz)
    rw [List.map_cons]
    have hne2:l.map (· / g)≠[]:=by rw [←hll,hl]; simp
    cases hm:l.map (· / g) with
    | nil=>exact absurd hm hne2
    |
     cons u w =>
     rw [hm] at ih
     have e:trim (x / g::u::w)=match trim (u::w) with | []=>if x / g=0 then [] else [x / g] | y::k=>x / g::y::k:=rfl
     rw [e,ih]
theorem Crv.nml (k:Crv):Nml k.norm:=by
  have hg:=k.g_ne
  have hdv:∀ z∈k.d'::(trim k.x++trim k.y),k.g∣z:=fun z hz=>Int.dvd_of_emod_eq_zero (k.g_dvd z hz)
  have hx:=Fv (g:=k.g) (Xp k.x) hg fun z hz=>hdv z (by simp [hz])
  have hy:=Fv (g:=k.g) (Xp k.y) hg fun z hz=>hdv z (by simp [hz])
  refine ⟨Xp _,Xp _,?_,?_⟩
  · show 0<k.d' / k.g
    obtain ⟨q,hq⟩:=hdv k.d' (List.mem_cons_self ..)
    have h0:=k.d'_ne
    have hgc:=k.gcd_ne
    have e:k.d' / k.g=q:=by rw [hq,Int.mul_ediv_cancel_left _ hg]
    rw [e]
    unfold Crv.g at hq hg
    have hq0:q≠0:=fun e=>by rw [e,Int.mul_zero] at hq; exact h0 hq
    split at hq
    · rename_i hneg
      rcases Int.lt_or_gt_of_ne hq0 with h | h
      · have:=Int.mul_pos_of_neg_of_neg (a:=-((Z7 (k.d'::(trim k.x++trim k.y)):Nat):Int)) (b:=q) (by omega) h
        omega
      · exact h
    · rename_i hneg
      rcases Int.lt_or_gt_of_ne hq0 with h | h
      · have:=Int.mul_neg_of_pos_of_neg (a:=((Z7 (k.d'::(trim k.x++trim k.y)):Nat):Int)) (b:=q) (by omega) h
        omega
      · exact h
  · show Z7 (k.d' / k.g::(trim ((trim k.x).map (· / k.g))++trim ((trim k.y).map (· / k.g))))=1
    rw [show trim ((trim k.x).map (· / k.g))=(trim k.x).map (· / k.g) from hx,show trim ((trim k.y).map (· / k.g))=(trim k.y).map (· / k.g) from hy,←List.map_append,←List.map_cons (f:=(· / k.g))]
    refine Qd8 hg ?_
    unfold Crv.g
    split <;> omega
structure Pt where
  c:Crv
  id:Int
def X5 (p:Pt):List LV:=[pl p.c.x,pl p.c.y,sg p.c.d,mg p.c.d,.int .i64 p.id]
def pts (l:List Pt):LV:=.row (l.map X5)
end Orr

namespace Orr
def pos:List Pt→Int→Nat
  | [],_=>0
  | p::l,id=>if p.id<id then pos l id+1 else 0
def has (l:List Pt) (id:Int):Bool:=match l[pos l id]? with
  | some p=>decide (p.id=id)
  | none=>false
theorem Qw3 (l:List Pt) (id:Int):pos l id≤l.length:=by
  induction l with
  | nil=>exact Nat.le_refl _
  | cons p l ih=>simp only [pos]; split <;> simp <;> omega
theorem Qk2:∀ {l:List Pt} {id:Int} {k:Nat},(∀ j p,j<k→l[j]? = some p→p.id<id)→(k=l.length∨∃ p,l[k]? = some p∧¬p.id<id)→pos l id=k
  |
   [],id,k,_,h=>by
   rcases h with h | ⟨p,h,_⟩
   · subst h; rfl
   · simp at h
  |
   q::l,id,0,_,h=>by
   rcases h with h | ⟨p,h,h2⟩
   · simp at h
   · simp at h; subst h; simp [pos,h2]
  |
   q::l,id,k+1,h1,h=>by
   have hq:=h1 0 q (by omega) rfl
   simp only [pos,hq,if_true]
   rw [Qk2 (k:=k) (fun j p hj hp=>h1 (j+1) p (by omega) (by simpa using hp))]
   rcases h with h | ⟨p,h,h2⟩
   · left; simpa using h
   · right; exact ⟨p,by simpa using h,h2⟩
def put (l:List Pt) (q:Pt):List Pt:=l.take (pos l q.id)++q::l.drop (pos l q.id)
def S7 (l:List Pt) (q:Pt):Int:=if has l q.id=true then 6 else if 6≤l.length then 9 else 0
def Qsb (s n:Nat) (p:Pt):Prop:=Nml p.c∧Cs s n p.c
theorem Qo1 (l:List Pt) (q:Pt):(put l q).length=l.length+1:=by
  have:=Qw3 l q.id
  simp [put]; omega
theorem Qo2 {l:List Pt} {q p:Pt} (h:p∈put l q):p=q∨p∈l:=by
  unfold put at h
  rcases List.mem_append.1 h with h | h
  · exact .inr (List.mem_of_mem_take h)
  · rcases List.mem_cons.1 h with h | h
    · exact .inl h
    · exact .inr (List.mem_of_mem_drop h)
def J0:List Pt→List Pt→List Pt×Int
  | acc,[]=>(acc,0)
  | acc,q::qs=>if S7 acc q=0 then J0 (put acc q) qs else ([],S7 acc q)
def Q8n (a b:Crv):Bool:=decide (a.x=b.x∧a.y=b.y∧a.d=b.d)
def Zal (out:List Pt) (p:Pt):List Pt:=if out.any (fun q=>Q8n p.c q.c)=true then out else out++[p]
def Zds (l:List Pt):List Pt:=l.foldl Zal []
theorem Ul {α β:Type} (f:β→α→β) (b:β) (l:List α) {i:Nat} {x:α} (h:l[i]? = some x):(l.take (i+1)).foldl f b=f ((l.take i).foldl f b) x:=by
  rw [List.take_add_one,h]; simp [List.foldl_append]
def IsPt (s n:Nat) (z:List LV) (q:Pt):Prop:=∃ lx ly b l px py d,z=[.row lx,.row ly,.bool b,Q7j l,.int .i64 q.id]∧IsInts lx px∧IsInts ly py∧Xy (.bool b) (Q7j l) d∧Cs s n ⟨px,py,d⟩∧q.c=Crv.norm ⟨px,py,d⟩
theorem Q6c {s n:Nat} {p:Pt} (h:Qsb s n p):IsPt s n (X5 p) p:=by
  obtain ⟨b,l,h1,h2,h3,h4⟩:=Qf p.c.d
  refine ⟨_,_,decide (p.c.d<0),Qw p.c.d.natAbs,_,_,p.c.d,rfl,Xb _,Xb _,Qf _,h.2,(Crv.norm_of h.1).symm⟩
def IsPts (s n:Nat):List (List LV)→List Pt→Prop
  | [],[]=>True
  | z::zs,q::qs=>IsPt s n z q∧IsPts s n zs qs
  | _,_=>False
theorem IsPts.len {s n:Nat}:∀ {zs:List (List LV)} {qs:List Pt},IsPts s n zs qs→zs.length=qs.length
  | [],[],_=>rfl
  | _::_,_::_,h=>by simp [h.2.len]
  | [],_::_,h=>h.elim
  | _::_,[],h=>h.elim
theorem IsPts.get {s n:Nat}:∀ {zs:List (List LV)} {qs:List Pt},IsPts s n zs qs→∀ {i:Nat} {q:Pt},qs[i]? = some q→∃ z,zs[i]? = some z∧IsPt s n z q
  | [],[],_,i,q,h=>by simp at h
  | z::zs,q::qs,h,0,r,hr=>by simp at hr; subst hr; exact ⟨z,rfl,h.1⟩
  | z::zs,q::qs,h,i+1,r,hr=>by simpa using h.2.get (i:=i) (by simpa using hr)
  | [],_::_,h,_,_,_=>h.elim
  | _::_,[],h,_,_,_=>h.elim
theorem Qnz {s n:Nat}:∀ {l:List Pt},(∀ p∈l,Qsb s n p)→IsPts s n (l.map X5) l
  | [],_=>trivial
  | p::l,h=>⟨Q6c (h p (List.mem_cons_self ..)),Qnz fun q hq=>h q (List.mem_cons_of_mem _ hq)⟩
theorem IsPt.ok {s n:Nat} {z:List LV} {q:Pt} (h:IsPt s n z q) (h1:1≤s):Qsb s n q:=by
  obtain ⟨lx,ly,b,l,px,py,d,_,_,_,_,hc,e⟩:=h
  unfold Qsb
  rw [e]
  exact ⟨Crv.nml _,hc.norm h1⟩
theorem Qrc (acc qs:List Pt) {i:Nat} {q:Pt} (hi:qs[i]? = some q) (h:J0 acc (qs.take i)=((J0 acc (qs.take i)).1,0)):J0 acc (qs.take (i+1))=if S7 (J0 acc (qs.take i)).1 q=0 then (put (J0 acc (qs.take i)).1 q,0) else ([],S7 (J0 acc (qs.take i)).1 q):=by
  induction qs generalizing acc i with
  | nil=>simp at hi
  |
   cons x qs ih =>
   cases i with
   | zero=>simp at hi; subst hi; simp [J0]
   |
    succ i =>
    simp only [List.take_succ_cons,J0] at h ⊢
    by_cases h0:S7 acc x=0
    · simp only [h0,if_true] at h ⊢
      exact ih (put acc x) (by simpa using hi) h
    · simp only [h0,if_false] at h
      injection h with _ h
      exact absurd h h0
theorem Qwk (acc qs:List Pt) {i:Nat} {e:Int} (he:e≠0) (h:J0 acc (qs.take i)=([],e)):J0 acc qs=([],e):=by
  induction qs generalizing acc i with
  | nil=>simp [J0] at h; exact absurd h.2.symm he
  |
   cons x qs ih =>
   cases i with
   | zero=>simp [J0] at h; exact absurd h.2.symm he
   |
    succ i =>
    simp only [List.take_succ_cons,J0] at h ⊢
    by_cases h0:S7 acc x=0
    · simp only [h0,if_true] at h ⊢; exact ih _ h
    · simp only [h0,if_false] at h ⊢; exact h
end Orr

namespace Orr
def Zw (p:List Int) (q:Rat):Int:=Ke (Q2g p q.num q.den) 0
abbrev qa (q:Rat):List LV:=pl [-q.num,(q.den:Int)]::(rl q++rl q)
def J6 (sgn:List Int→Int):Nat→List Int→Int
  | 0,_=>0
  | k+1,p=>if p.length=0 then 0 else if sgn p=0 then J6 sgn k (Zi p) else sgn p
theorem Si (sgn:List Int→Int):∀ (k:Nat) (p:List Int),p.length≤k→J6 sgn k p=J6 sgn p.length p
  |
   0,p,h=>by
   have:p.length=0:=by omega
   rw [this]
  |
   k+1,p,h=>by
   cases hp:p.length with
   | zero=>simp [J6,hp]
   |
    succ m =>
    simp only [J6]
    have h1:=Yw p
    rw [Si sgn k (Zi p) (by omega),Si sgn m (Zi p) (by omega)]
theorem Ee (sgn:List Int→Int) {p:List Int} (h:p.length=0):J6 sgn p.length p=0:=by rw [h]; rfl
theorem Ec (sgn:List Int→Int) {p:List Int} (h:0<p.length) (hs:sgn p≠0):J6 sgn p.length p=sgn p:=by
  obtain ⟨m,hm⟩:∃ m,p.length=m+1:=⟨p.length-1,by omega⟩
  rw [hm]; simp only [J6]; rw [if_neg (by omega),if_neg hs]
theorem Ed (sgn:List Int→Int) {p:List Int} (h:0<p.length) (hs:sgn p=0):J6 sgn p.length p=J6 sgn (Zi p).length (Zi p):=by
  obtain ⟨m,hm⟩:∃ m,p.length=m+1:=⟨p.length-1,by omega⟩
  rw [hm]; simp only [J6]; rw [if_neg (by omega),if_pos hs]
  exact Si sgn m _ (by have:=Yw p; omega)
structure Tm where
  p:List Int
  lo:Rat
  hi:Rat
abbrev ta (t:Tm):List LV:=pl t.p::(rl t.lo++rl t.hi)
abbrev tq (q:Rat):Tm:=⟨[-q.num,(q.den:Int)],q,q⟩
def Hj (sg:List Int→Int) (p:List Int):Int:=J6 sg p.length p
def Sh (p:List Int) (q:Rat):Int:=Hj (fun p=>Zw p q) p
structure Pb (p:List Int):Prop where
  t:Qj p
  l:p.length≤64
  b:Bd 16777216 p
abbrev Qb (q:Rat):Prop:=Qs 16777216 q
abbrev Cb (k:Crv):Prop:=Cs 1048576 16 k
def X8 (a b:Crv):List Int:=V0 (Qx b.x a.d) (Qx a.x b.d)
def Xf (a b:Crv):List Int:=V0 (Qx b.y a.d) (Qx a.y b.d)
def Gw (sg:List Int→Int) (a b:Pt):List (List Int)→Bool
  | []=>decide (a.id<b.id)
  | p::l=>if 0<p.length then decide (0<Hj sg p) else Gw sg a b l
def Vn (sg:List Int→Int) (a b:Pt):Bool:=Gw sg a b [Xf b.c a.c,X8 b.c a.c]
def Qjh (sg:List Int→Int) (a b:Pt):Bool:=Gw sg a b [X8 a.c b.c,Xf a.c b.c]
end Orr

namespace Orr
open Go
structure Ct where
  kind:Int
  i0:Int
  i1:Int
  i2:Int
  i3:Int
  p:List Int
  want:Int
abbrev Qaa (c:Ct):List LV:=[.int .i64 c.kind,.int .i64 c.i0,.int .i64 c.i1,.int .i64 c.i2,.int .i64 c.i3,pl c.p,.int .i64 c.want]
def Rk (p q:List Int):List Int:=if 0<p.length then p else q
def Xz:List Int→List Int→Bool
  | x::l,y::m=>if x=y then Xz l m else decide (x<y)
  | _,_=>false
def Km (a b:Ct):Bool:=Xz [a.kind,a.i0,a.i1,a.i2,a.i3] [b.kind,b.i0,b.i1,b.i2,b.i3]
def Sy (out:List Ct) (c:Ct):Nat→Nat
  | 0=>0
  |
   k+1=>match out[k]? with
   | some x=>if Km c x=true then Sy out c k else k+1
   | none=>k+1
theorem Qou (out:List Ct) (c:Ct):∀ k,Sy out c k≤k
  | 0=>Nat.le_refl _
  |
   k+1=>by
   simp only [Sy]
   split
   · split
     · exact Nat.le_succ_of_le (Qou out c k)
     · exact Nat.le_refl _
   · exact Nat.le_refl _
theorem Q18 {out:List Ct} {c x:Ct} {k:Nat} (hx:out[k]? = some x) (h:Km c x=true):Sy out c (k+1)=Sy out c k:=by
  simp only [Sy,hx,h,if_true]
theorem Qw2 {out:List Ct} {c x:Ct} {k:Nat} (hx:out[k]? = some x) (h:Km c x=false):Sy out c (k+1)=k+1:=by
  simp [Sy,hx,h]
def Na (out:List Ct) (c:Ct):List Ct:=out.take (Sy out c out.length)++c::out.drop (Sy out c out.length)
theorem Qvv (out:List Ct) (c:Ct):(Na out c).length=out.length+1:=by
  have:=Qou out c out.length
  simp [Na]; omega
theorem Qvw {out:List Ct} {c x:Ct} (h:x∈Na out c):x=c∨x∈out:=by
  simp only [Na,List.mem_append,List.mem_cons] at h
  rcases h with h | h | h
  · exact .inr (List.mem_of_mem_take h)
  · exact .inl h
  · exact .inr (List.mem_of_mem_drop h)
def Z4 (l:List Ct):List Ct:=l.foldl Na []
theorem Qlq (l:List Ct) (c:Ct):Z4 (l++[c])=Na (Z4 l) c:=by simp [Z4,List.foldl_append]
theorem Qlr {l:List Ct} {i:Nat} {c:Ct} (h:l[i]? = some c):Z4 (l.take (i+1))=Na (Z4 (l.take i)) c:=by
  rw [List.take_succ,h]; exact Qlq _ _
theorem Qb0:∀ (l acc:List Ct),(l.foldl Na acc).length=acc.length+l.length
  | [],acc=>by simp
  | c::l,acc=>by simp only [List.foldl_cons]; rw [Qb0 l (Na acc c),Qvv]; simp; omega
theorem U8 (l:List Ct):(Z4 l).length=l.length:=by unfold Z4; rw [Qb0]; simp
theorem Qb1:∀ (l acc:List Ct) {x:Ct},x∈l.foldl Na acc→x∈l∨x∈acc
  | [],acc,x,h=>.inr h
  |
   c::l,acc,x,h=>by
   simp only [List.foldl_cons] at h
   rcases Qb1 l _ h with h | h
   · exact .inl (List.mem_cons_of_mem _ h)
   · rcases Qvw h with rfl | h
     · exact .inl (List.mem_cons_self ..)
     · exact .inr h
theorem Me {l:List Ct} {x:Ct} (h:x∈Z4 l):x∈l:=by
  rcases Qb1 l [] h with h | h
  · exact h
  · cases h
theorem Qhk {α:Type} (l:List α) (z x:α) {k m':Nat} (hk:k≤l.length) (hm:m'=l.length-k) :
    ((l++[z]).take (k+1)++((l++[z]).drop k).take m'++(l++[z]).drop (k+1+m')).set k x=l.take k++x::l.drop k:=by
  subst hm
  have e1:((l++[z]).drop k).take (l.length-k)=l.drop k:=by
    rw [List.drop_append_of_le_length hk,List.take_append_of_le_length (by simp),List.take_of_length_le (by simp)]
  have e2:(l++[z]).drop (k+1+(l.length-k))=[]:=List.drop_eq_nil_of_le (by simp; omega)
  rw [e1,e2,List.append_nil]
  have e3:(l++[z]).take (k+1)=(l++[z]).take k++[(l++[z])[k]'(by simp; omega)]:=by rw [List.take_succ_eq_append_getElem]
  rw [e3,List.take_append_of_le_length hk,List.append_assoc,List.set_append,if_neg (by simp; omega)]
  simp [Nat.min_eq_left hk]
def Wl (a b:Pt):List Int:=Rk (Xf b.c a.c) (X8 b.c a.c)
def Z9 (sg:List Int→Int) (a b:Pt):Ct:={ kind:=2,i0:=a.id,i1:=b.id,i2:=0,i3:=0,p:=Wl a b,want:=Hj sg (Wl a b) }
end Orr

namespace Orr
open Go Go.Proofs
set_option maxRecDepth 10000
abbrev pr (p:List Int):TV:=.one (pl p)
theorem J7 {p:List Int} {i:Nat} {z:Int} (h:p[i]? = some z):(p.map Zv)[i]? = some (Zv z):=Zq h
theorem Io (p:List Int):Qc Tryz.prog 76 [pr p] [pr (trim p)]:=by
  refine Z1 Tryz.func76 rfl (ln 0 rfl rfl fun hl=>?_)
  rw [List.length_map] at hl
  refine go tt [] rfl trivial ?_
  refine lp (S:=Nat) 0 (fun L1 n=>(3,.v (.one (.int .i64 (n:Int))))::L1) (fun _=>[]) id (fun n=>n≤p.length∧∀ j x,n≤j→p[j]? = some x→x=0) (p.map Zv).length ⟨by simp,fun j x h1 h2=>by
    have:=(List.getElem?_eq_some_iff.1 h2).1; simp at h1; omega⟩ rfl (fun _ _=>rfl) rfl fun n ⟨h1,h2⟩=>?_
  cases n with
  | zero=>exact en tt [.f (by simp),.f rfl,.i 0] rfl (by rw [Qiw h1 h2 (fun h=>by omega)]; simp [pl]) (by simp [Qa])
  |
   succ n =>
   obtain ⟨x,hx⟩:∃ x,p[n]? = some x:=⟨_,List.getElem?_eq_getElem (by omega)⟩
   by_cases h0:x=0
   · refine go tt [.t (by simp),.r 11 (v:=.one (.int .i64 (n:Int))) (by simp),.x (J7 hx),.c [] Gn,.t (by simp [h0]),.r 17 (v:=.one (.int .i64 (n:Int))) (by simp)] rfl (by simp [Qa]; omega) ?_
     exact rd n (by simp) ⟨by omega,fun j y h3 h4=>by
         rcases Nat.eq_or_lt_of_le h3 with rfl | h3
         · rw [hx] at h4; injection h4 with h4; rw [←h4,h0]
         · exact h2 j y h3 h4⟩ rfl
   · exact en tt [.t (by simp),.r 11 (v:=.one (.int .i64 (n:Int))) (by simp),.x (J7 hx),.c [] Gn,.f (by simp [h0]),.i (n+1)] rfl (by rw [Qiw h1 h2 (fun _=>⟨x,hx,h0⟩)]; simp [pl,List.map_take]) (by simp [Qa] <;> omega)
theorem Qmx (p:List Int) (k:Nat):Qc Tryz.prog 112 [pr p,.one (.int .i64 (k:Int))] [.agg (Zv (p.getD k 0))]:=by
  by_cases h:k<p.length
  · have hx:=List.getElem?_eq_getElem h
    have e:p.getD k 0=p[k]:=by simp [List.getD,hx]
    rw [e]
    exact w tt Tryz.func112 rfl [.t (by simp; omega),.x (J7 hx)] rfl rfl trivial
  · have e:p.getD k 0=0:=by simp [List.getD,List.getElem?_eq_none (Nat.le_of_not_lt h)]
    rw [e,Fm]
    exact w tt Tryz.func112 rfl [.f (by simp; omega)] rfl rfl trivial
def fil (f:Nat→List LV) (z:List LV) (n k:Nat):List (List LV):=(List.range n).map fun i=>if i<k then f i else z
theorem Gg (f:Nat→List LV) (z:List LV) (n k:Nat):(fil f z n k).length=n:=by simp [fil]
theorem Ff (f:Nat→List LV) (z:List LV) (n:Nat):List.replicate n z=fil f z n 0:=by
  refine List.ext_getElem? fun i=>?_
  simp only [fil,List.getElem?_replicate,List.getElem?_map]
  by_cases h:i<n
  · simp [h]
  · simp [h]
theorem Rl (f:Nat→List LV) (z:List LV) (n:Nat):fil f z n n=(List.range n).map f:=by
  refine List.map_congr_left fun i hi=>?_
  rw [if_pos (List.mem_range.1 hi)]
theorem Rm (f:Nat→List LV) (z:List LV) {n k:Nat} (h:k<n):(fil f z n k).set k (f k)=fil f z n (k+1):=by
  refine List.ext_getElem? fun i=>?_
  rw [List.getElem?_set]
  simp only [fil,List.getElem?_map,List.length_map,List.length_range,h,if_true]
  by_cases e:k=i
  · subst e; simp [h]
  · simp only [e,if_false]
    by_cases hi:i<n
    · simp only [List.getElem?_range hi,Option.map_some]
      congr 1
      by_cases h2:i<k
      · rw [if_pos h2,if_pos (by omega)]
      · rw [if_neg h2,if_neg (by omega)]
    · simp [List.getElem?_eq_none,hi]
theorem Qdr {n fid:Nat} {l1 l2:List LV} {g:Nat→Int} (hn:n<274877906944) (h:∀ k,k<n→Qc Tryz.prog fid [.one (.int .i64 (k:Int)),.one (.sh l1),.one (.sh l2)] [.agg (Zv (g k))]):Qc Tryz.prog 109 [.one (.int .i64 (n:Int)),.one (.fn fid [] [.sh l1,.sh l2])] [pr (Vk n g)]:=by
  refine Z1 Tryz.func109 rfl ?_
  refine go tt [.i n,.i n,.r 10 (eI (b:=(n:Int)) (by simp))] rfl (by simp [Qa]; omega) ?_
  rw [Ff fun k=>Zv (g k)]
  refine lp (S:=Nat) 1 (fun L1 k=>(11,.v (.one (.int .i64 (k:Int))))::L1) (fun k=>[.row false 29 2 (fil (fun k=>Zv (g k)) [.bool false,.nils] n k)]) (fun k=>n-k) (fun k=>k≤n) 0 (Nat.zero_le _) rfl (fun _ _=>rfl) rfl fun k hk=>?_
  by_cases hlt:k<n
  · refine go tt [.t (by simp; omega),.c [] (h k hlt),.i k] rfl (by simp [Qa,Gg]; omega) ?_
    have e:=Rm (fun k=>Zv (g k)) [.bool false,.nils] hlt
    rw [e]
    exact rd (k+1) (by omega) hlt rfl
  · obtain rfl:k=n:=by omega
    have e:fil (fun k=>Zv (g k)) [.bool false,.nils] k k=((List.range k).map g).map Zv:=by rw [Rl]; simp
    rw [e]
    exact en tt [.f (by simp),.c [] (Io _)] rfl rfl trivial
theorem Qmu {n fid:Nat} {l1:List LV} {g:Nat→Int} (hn:n<274877906944) (h:∀ k,k<n→Qc Tryz.prog fid [.one (.int .i64 (k:Int)),.one (.sh l1)] [.agg (Zv (g k))]):Qc Tryz.prog 109 [.one (.int .i64 (n:Int)),.one (.fn fid [] [.sh l1])] [pr (Vk n g)]:=by
  refine Z1 Tryz.func109 rfl ?_
  refine go tt [.i n,.i n,.r 10 (eI (b:=(n:Int)) (by simp))] rfl (by simp [Qa]; omega) ?_
  rw [Ff fun k=>Zv (g k)]
  refine lp (S:=Nat) 1 (fun L1 k=>(11,.v (.one (.int .i64 (k:Int))))::L1) (fun k=>[.row false 29 2 (fil (fun k=>Zv (g k)) [.bool false,.nils] n k)]) (fun k=>n-k) (fun k=>k≤n) 0 (Nat.zero_le _) rfl (fun _ _=>rfl) rfl fun k hk=>?_
  by_cases hlt:k<n
  · refine go tt [.t (by simp; omega),.c [] (h k hlt),.i k] rfl (by simp [Qa,Gg]; omega) ?_
    have e:=Rm (fun k=>Zv (g k)) [.bool false,.nils] hlt
    rw [e]
    exact rd (k+1) (by omega) hlt rfl
  · obtain rfl:k=n:=by omega
    have e:fil (fun k=>Zv (g k)) [.bool false,.nils] k k=((List.range k).map g).map Zv:=by rw [Rl]; simp
    rw [e]
    exact en tt [.f (by simp),.c [] (Io _)] rfl rfl trivial
theorem Q44 {p q:List Int} (k:Nat) (hp:Bd 4294967295 p) (hq:Bd 4294967295 q):Qc Tryz.prog 110 [.one (.int .i64 (k:Int)),.one (.sh [pl p]),.one (.sh [pl q])] [.agg (Zv (p.getD k 0+q.getD k 0))] :=
  w tt Tryz.func110 rfl [.c [] (Qmx p k),.c [] (Qmx q k),.c [] (M5 (Qf _) (Qf _) (Qp hp k) (Qp hq k))] rfl rfl trivial
theorem Q5e {p q:List Int} (k:Nat) (hp:Bd 4294967295 p) (hq:Bd 4294967295 q):Qc Tryz.prog 233 [.one (.int .i64 (k:Int)),.one (.sh [pl p]),.one (.sh [pl q])] [.agg (Zv (p.getD k 0-q.getD k 0))] :=
  w tt Tryz.func233 rfl [.c [] (Qmx p k),.c [] (Qmx q k),.c [] (Qtk (Qf _) (Qf _) (Qp hp k) (Qp hq k))] rfl rfl trivial
theorem Xj {p:List Int} {k:Nat} (h:k<p.length):p[k]? = some (p.getD k 0):=by simp [List.getD,List.getElem?_eq_getElem h]
theorem Qtc {p:List Int} {c:Int} {k:Nat} (hk:k<p.length) (hp:Bd 4294967295 p) (hc:Qm c≤4294967295):Qc Tryz.prog 214 [.one (.int .i64 (k:Int)),.one (.sh [pl p]),.one (.sh (Zv c))] [.agg (Zv (p.getD k 0*c))] :=
  w tt Tryz.func214 rfl [.x (J7 (Xj hk)),.c [] (Gm (Qf _) (Qf _) (Qp hp k) hc)] rfl rfl trivial
theorem Q49 {p:List Int} {k:Nat} (hk:k<p.length) (hp:Bd 4294967295 p):Qc Tryz.prog 299 [.one (.int .i64 (k:Int)),.one (.sh [pl p])] [.agg (Zv (-(p.getD k 0)))] :=
  w tt Tryz.func299 rfl [.x (J7 (Xj hk)),.c [] (Ii (Qf _) (Qp hp k))] rfl rfl trivial
theorem Qp0 {p:List Int} {k:Nat} (hk:k+1<p.length) (hl:p.length<274877906944) (hp:Bd 4294967295 p):Qc Tryz.prog 269 [.one (.int .i64 (k:Int)),.one (.sh [pl p])] [.agg (Zv (p.getD (k+1) 0*((k+1:Nat):Int)))] :=
  w tt Tryz.func269 rfl [.x (J7 (Xj hk)),.r 10 (eI (b:=((k+1:Nat):Int)) (by omega)),.c [] (Qjp (by omega)),.c [] (Gm (Qf _) (Qf _) (Qp hp _) (Qq3 (show k+1<274877906944 by omega)))] rfl rfl (by simp [Qa] <;> omega)
theorem Q5c {p q:List Int} (hlp:p.length<274877906944) (hlq:q.length<274877906944) (hp:Bd 4294967295 p) (hq:Bd 4294967295 q):Qc Tryz.prog 66 [pr p,pr q] [pr (Ca p q)] :=
  w tt Tryz.func66 rfl [.r 9 (eI (b:=((max p.length q.length:Nat):Int)) (by simp; omega)),.c [] (Qdr (by omega) fun k _=>Q44 k hp hq)] rfl rfl trivial
theorem Qdl {p q:List Int} (hlp:p.length<274877906944) (hlq:q.length<274877906944) (hp:Bd 4294967295 p) (hq:Bd 4294967295 q):Qc Tryz.prog 184 [pr p,pr q] [pr (V0 p q)] :=
  w tt Tryz.func184 rfl [.r 9 (eI (b:=((max p.length q.length:Nat):Int)) (by simp; omega)),.c [] (Qdr (by omega) fun k _=>Q5e k hp hq)] rfl rfl trivial
theorem Qs4 {p:List Int} (hlp:p.length<274877906944) (hp:Bd 4294967295 p):Qc Tryz.prog 272 [pr p] [pr (Vd p)] :=
  w tt Tryz.func272 rfl [.r 4 (eI (b:=(p.length:Int)) (by simp)),.c [] (Qmu hlp fun k hk=>Q49 hk hp)] rfl rfl trivial
theorem Ha {p:List Int} {c:Int} (hlp:p.length<274877906944) (hp:Bd 4294967295 p) (hc:Qm c≤4294967295):Qc Tryz.prog 159 [pr p,.agg (Zv c)] [pr (Qx p c)] :=
  w tt Tryz.func159 rfl [.r 6 (eI (b:=(p.length:Int)) (by simp)),.c [] (Qdr hlp fun k hk=>Qtc hk hp hc)] rfl rfl trivial
theorem G9 {p:List Int} (hlp:p.length<274877906944) (hp:Bd 4294967295 p):Qc Tryz.prog 229 [pr p] [pr (Zi p)] :=
  w tt Tryz.func229 rfl [.r 6 (eI (b:=((p.length-1:Nat):Int)) (by simp; omega)),.c [] (Qmu (by omega) fun k hk=>Qp0 (by omega) hlp hp)] rfl rfl (by simp [Qa]; omega)
theorem Us {ls:List (List LV)} {p:List Int} (hi:IsInts ls p) (hl:p.length<274877906944) (hs:Bd 4294967295 p):Qc Tryz.prog 115 [.one (.row ls)] [pr (trim p)]:=by
  refine Z1 Tryz.func115 rfl ?_
  have hlen:=hi.len
  refine go tt [.i ls.length,.i ls.length] rfl (by simp [Qa]; omega) ?_
  rw [Ff fun k=>Zv (p.getD k 0)]
  refine lp (S:=Nat) 1 (fun L1 k=>(11,.v (.one (.int .i64 (k:Int))))::L1) (fun k=>[.row false 29 2 (fil (fun k=>Zv (p.getD k 0)) [.bool false,.nils] ls.length k)]) (fun k=>ls.length-k) (fun k=>k≤ls.length) 0 (Nat.zero_le _) rfl (fun _ _=>rfl) rfl fun k hk=>?_
  by_cases hlt:k<ls.length
  · obtain ⟨x,y,hx,hxy⟩:=hi.get (Xj (p:=p) (k:=k) (by omega))
    have cn:=Ut hxy (Qp hs k)
    obtain ⟨b,l,rfl,rfl,_⟩:=hxy
    refine go tt [.t (by simp; omega),.x hx,.c [] cn,.i k] rfl (by simp [Qa,Gg]; omega) ?_
    have e:=Rm (fun k=>Zv (p.getD k 0)) [.bool false,.nils] hlt
    rw [e]
    exact rd (k+1) (by omega) hlt rfl
  · obtain rfl:k=ls.length:=by omega
    have e:fil (fun k=>Zv (p.getD k 0)) [.bool false,.nils] ls.length ls.length=p.map Zv:=by
      rw [Rl,hlen]
      refine List.ext_getElem? fun i=>?_
      by_cases hi:i<p.length
      · simp [List.getElem?_range hi,List.getD,List.getElem?_eq_getElem hi]
      · simp [List.getElem?_eq_none,hi]
    rw [e]
    exact en tt [.f (by simp),.c [] (Io _)] rfl rfl trivial
theorem Xv {p:List Int} (ht:Qj p) (hl:p.length<274877906944) (hs:Bd 4294967295 p):Qc Tryz.prog 115 [pr p] [pr p]:=by
  have:=Us (Xb p) hl hs
  rw [ht] at this; exact this
theorem Q1c {p:List Int} {i:Nat} {z:Int} (h:p[i]? = some z):(p.map fun (x:Int)=>[LV.int .i64 x])[i]? = some [.int .i64 z]:=Zq h
theorem Qs5 {p:List Int} (hl:p.length<274877906944) (hr:∀ z∈p,-9223372036854775808≤z∧z≤9223372036854775807):Qc Tryz.prog 18 [.one (ids p)] [pr (trim p)]:=by
  refine Z1 Tryz.func18 rfl ?_
  refine go tt [.r 7 (eI (b:=(p.length:Int)) (by simp)),.i p.length,.i p.length,.r 10 (eI (b:=(p.length:Int)) (by simp))] rfl (by simp [Qa]; omega) ?_
  rw [Ff fun k=>Zv (p.getD k 0)]
  refine lp (S:=Nat) 1 (fun L1 k=>(11,.v (.one (.int .i64 (k:Int))))::L1) (fun k=>[.row false 29 2 (fil (fun k=>Zv (p.getD k 0)) [.bool false,.nils] p.length k)]) (fun k=>p.length-k) (fun k=>k≤p.length) 0 (Nat.zero_le _) rfl (fun _ _=>rfl) rfl fun k hk=>?_
  by_cases hlt:k<p.length
  · have hg:=Xj hlt
    refine go tt [.t (by simp; omega),.x (Q1c hg),.c [] (Qjp (hr _ (List.mem_of_getElem? hg))),.i k] rfl (by simp [Qa,Gg]; omega) ?_
    have e:=Rm (fun k=>Zv (p.getD k 0)) [.bool false,.nils] hlt
    rw [e]
    exact rd (k+1) (by omega) hlt rfl
  · obtain rfl:k=p.length:=by omega
    have e:fil (fun k=>Zv (p.getD k 0)) [.bool false,.nils] p.length p.length=p.map Zv:=by
      rw [Rl]
      refine List.ext_getElem? fun i=>?_
      by_cases hi:i<p.length
      · simp [List.getElem?_range hi,List.getD,List.getElem?_eq_getElem hi]
      · simp [List.getElem?_eq_none,hi]
    rw [e]
    exact en tt [.f (by simp),.c [] (Io _)] rfl rfl trivial
end Orr

namespace Orr
open Go Go.Proofs
set_option maxRecDepth 10000
theorem Qky (l:List Int) (i:Nat) (z:Int):(l.map Zv).set i (Zv z)=(l.set i z).map Zv:=by rw [List.map_set]
theorem A0 (m:Nat):((List.replicate m [LV.bool false,LV.nils]).map fun c=>c.map E4)=(List.replicate m (0:Int)).map Zv:=by
  simp [Fm,E4]
theorem Qdk {p0 q:List Int} {s t:Nat} (tq:Qj q) (hlp:p0.length<137438953472) (hlq:q.length<137438953472) (hp:Bd s p0) (hq:Bd t q) (hst:s+t≤4294967000):Qc Tryz.prog 213 [pr p0,pr q] [pr (Zr (trim p0) q)]:=by
  have cp:=Us (Xb p0) (by omega) (Qd hp (show s≤4294967295 by omega))
  have hp:=Jj hp
  have hlp:=Nat.lt_of_le_of_lt (Xc p0) hlp
  obtain ⟨p,ep⟩:∃ p,p=trim p0:=⟨_,rfl⟩
  rw [←ep] at cp hp hlp ⊢
  have cq:=Xv tq (by omega) (Qd hq (show t≤4294967295 by omega))
  by_cases h0:p.length=0
  · have e:Zr p q=[]:=by unfold Zr; rw [if_pos (.inl h0)]
    rw [e]
    exact w tt Tryz.func213 rfl [.c [] cp,.c [] cq,.t (by simp; exact List.eq_nil_of_length_eq_zero h0),.t rfl] rfl rfl trivial
  by_cases h1:q.length=0
  · have e:Zr p q=[]:=by unfold Zr; rw [if_pos (.inr h1)]
    rw [e]
    exact w tt Tryz.func213 rfl [.c [] cp,.c [] cq,.f (by simp; intro h; subst h; simp at h0),.t (by simp; exact List.eq_nil_of_length_eq_zero h1)] rfl rfl trivial
  refine Z1 Tryz.func213 rfl ?_
  have e:Zr p q=trim (Kq p q (List.replicate (p.length+q.length-1) 0) p.length):=by unfold Zr; rw [if_neg (by omega)]
  rw [e]
  obtain ⟨N,hN⟩:∃ N,N=p.length+q.length-1:=⟨_,rfl⟩
  rw [←hN]
  obtain ⟨o,ho⟩:∃ o,o=List.replicate N (0:Int):=⟨_,rfl⟩
  rw [←ho]
  have hol:o.length=N:=by rw [ho]; simp
  have ho0:∀ m,o.getD m 0=0:=fun m=>by rw [ho]; exact Jy N m
  refine go tt [.c [] cp,.c [] cq,.f (by simp; intro h; subst h; simp at h0),.f (by simp; intro h; subst h; simp at h1),.r 27 (eI (b:=(N:Int)) (by simp; omega)),.i N,.i N] rfl (by simp [Qa]; omega) ?_
  refine nl 0 rfl rfl rfl ?_
  rw [A0,←ho]
  refine lp (S:=Nat) 1 (fun L1 i=>(31,.v (.one (.int .i64 (i:Int))))::L1) (fun i=>[.row false 29 2 ((Kq p q o i).map Zv)]) (fun i=>p.length-i) (fun i=>i≤p.length) 0 (Nat.zero_le _) rfl (fun _ _=>rfl) rfl fun i hi=>?_
  by_cases hlt:i<p.length
  · refine go tt [.t (by simp; omega),.x (J7 (Xj hlt))] rfl trivial ?_
    refine lp (S:=Nat) 2 (fun L1 k=>(38,.v (.one (.int .i64 (k:Int))))::L1) (fun k=>[.row false 29 2 ((Ho (p.getD i 0) q i (Kq p q o i) k).map Zv),.blk 29 (Zv (p.getD i 0))]) (fun k=>q.length-k) (fun k=>k≤q.length) 0 (Nat.zero_le _) rfl (fun _ _=>rfl) rfl fun k hk=>?_
    by_cases hk2:k<q.length
    · have hm1:Qm ((Ho (p.getD i 0) q i (Kq p q o i) k).getD (i+k) 0)≤4294967295:=Nat.le_trans (Gu (t:=39) (Qer (by rw [Kr]; omega) (Qeq (fun j hj=>by omega) ho0 (fun i j=>Vr (Qp hp i) (Qp hq j))) (fun j=>Vr (Qp hp i) (Qp hq j)) (i+k)) (Nat.lt_of_lt_of_eq (show i+1<549755813888 by omega) (by decide))) (by omega)
      have hm2:Qm (p.getD i 0*q.getD k 0)≤4294967295:=Nat.le_trans (Q3 _ _) (by have:=Qp hp i; have:=Qp hq k; omega)
      have hg:(Ho (p.getD i 0) q i (Kq p q o i) k)[i+k]? = some ((Ho (p.getD i 0) q i (Kq p q o i) k).getD (i+k) 0):=Xj (by rw [Hp,Kr]; omega)
      refine go tt [.t (by simp; omega),.x (J7 (Xj hk2)),.i (i+k),.x (J7 hg),.c [] (Gm (Qf _) (Qf _) (Nat.le_trans (Qp hp i) (by omega)) (Nat.le_trans (Qp hq k) (by omega))),.c [] (M5 (Qf _) (Qf _) hm1 hm2),.i (i+k)] rfl (by simp [Qa,Hp,Kr] <;> omega) ?_
      rw [Qky]
      exact rd (k+1) (by omega) hk2 rfl
    · obtain rfl:k=q.length:=by omega
      exact go tt [.f (by simp)] rfl (by simp [Qa]; omega) (rd (i+1) (by omega) hlt rfl)
  · obtain rfl:i=p.length:=by omega
    exact en tt [.f (by simp),.c [] (Io _)] rfl rfl trivial
theorem Q5d {p q:List Int} {s t:Nat} (tp:Qj p) (tq:Qj q) (hlp:p.length<137438953472) (hlq:q.length<137438953472) (hp:Bd s p) (hq:Bd t q) (hst:s+t≤4294967000):Qc Tryz.prog 213 [pr p,pr q] [pr (Zr p q)]:=by
  have h:=Qdk tq hlp hlq hp hq hst
  rw [show trim p=p from tp] at h
  exact h
theorem Qz1 {p q:List Int} (hlp:p.length<274877906944) (hlq:q.length<274877906944) (hp:Bd 4294967295 p) (hq:Bd 4294967295 q):Qc Tryz.prog 224 [pr p,pr q] [.one (.bool (decide (trim p=trim q)))]:=by
  refine Z1 Tryz.func224 rfl ?_
  have cp:=Us (Xb p) hlp hp
  have cq:=Us (Xb q) hlq hq
  have bp:=Jj hp
  have bq:=Jj hq
  have l1:=Xc p
  have l2:=Xc q
  obtain ⟨a,ha⟩:∃ a,a=trim p:=⟨_,rfl⟩
  obtain ⟨b,hb⟩:∃ b,b=trim q:=⟨_,rfl⟩
  rw [←ha] at cp bp l1 ⊢
  rw [←hb] at cq bq l2 ⊢
  by_cases hl:a.length=b.length
  · refine go tt [.c [] cp,.c [] cq,.f (by simp; omega)] rfl trivial ?_
    refine lp (S:=Nat) 0 (fun L1 i=>(18,.v (.one (.int .i64 (i:Int))))::L1) (fun _=>[]) (fun i=>a.length-i) (fun i=>i≤a.length∧a.take i=b.take i) 0 ⟨Nat.zero_le _,rfl⟩ rfl (fun _ _=>rfl) rfl fun i ⟨hi,he⟩=>?_
    by_cases hlt:i<a.length
    · have ga:=Xj hlt
      have gb:=Xj (p:=b) (k:=i) (by omega)
      have cc:=Im (Qf (a.getD i 0)) (Qf (b.getD i 0)) (Qp bp i) (Qp bq i)
      by_cases hz:a.getD i 0=b.getD i 0
      · refine go tt [.t (by simp; omega),.x (J7 ga),.x (J7 gb),.c [] cc,.f (by simpa using Qne.2 hz)] rfl (by simp [Qa]; omega) ?_
        exact rd (i+1) (by omega) ⟨hlt,by rw [List.take_add_one,List.take_add_one,he,ga,gb,hz]⟩ rfl
      · exact en tt [.t (by simp; omega),.x (J7 ga),.x (J7 gb),.c [] cc,.t (by have:=mt Qne.1 hz; simpa using this)] rfl (by rw [decide_eq_false]; intro h; exact hz (by rw [h])) trivial
    · obtain rfl:i=a.length:=by omega
      rw [List.take_length,hl,List.take_length] at he
      exact en tt [.f (by simp)] rfl (by rw [decide_eq_true he]) trivial
  · exact en tt [.c [] cp,.c [] cq,.t (by simp; omega)] rfl (by rw [decide_eq_false]; intro h; exact hl (by rw [h])) trivial
theorem Qs7 {p:List Int} {n d:Int} {s t:Nat} (hl:p.length<274877906944) (hp:Bd s p) (hn:Qm n≤t) (hd:Qm d≤t) (hst:s+p.length*(t+1)+2*t+10≤4294967295):Qc Tryz.prog 240 [pr p,.agg (Zv n),.agg (Zv d)] [.agg (Zv (Q2g p n d))]:=by
  refine Z1 Tryz.func240 rfl ?_
  refine go tt [.c [] (Qjp (z:=1) (by decide)),.r 13 (eI (b:=(p.length:Int)-1-((0:Nat):Int)) (by simp))] rfl (by simp [Qa]; omega) ?_
  refine nlb 3 rfl rfl rfl ?_
  have e0:[LV.bool false,LV.nils].map E4=Zv (Vh p n d 0).1:=by simp [E4,Vh,Fm]
  rw [e0]
  refine lp (S:=Nat) 5 (fun L1 j=>(9,.v (.one (.int .i64 ((p.length:Int)-1-(j:Int)))))::L1) (fun j=>[.blk 29 (Zv n),.blk 29 (Zv d),.blk 29 [.bool false,.nils],.blk 29 (Zv (Vh p n d j).1),.blk 29 (Zv (Vh p n d j).2)]) (fun j=>p.length-j) (fun j=>j≤p.length) 0 (Nat.zero_le _) rfl (fun _ _=>rfl) rfl fun j hj=>?_
  have hv:=Qfx (k:=j) hp hn hd
  have hjl:j*(t+1)≤p.length*(t+1):=Nat.mul_le_mul_right _ (by omega)
  have hjl2:j*t≤j*(t+1):=Nat.mul_le_mul_left _ (by omega)
  by_cases hlt:j<p.length
  · have hc:=Qp hp (p.length-1-j)
    have hm1:Qm ((Vh p n d j).1*n)≤4294967295:=Nat.le_trans (Q3 _ _) (by omega)
    have hm2:Qm (p.getD (p.length-1-j) 0*(Vh p n d j).2)≤4294967295:=Nat.le_trans (Q3 _ _) (by omega)
    refine go tt [.t (by simp; omega),.c [] (Gm (Qf _) (Qf _) (by omega) (by omega)),.r 22 (eI (b:=((p.length-1-j:Nat):Int)) (by omega)),.x (J7 (Xj (p:=p) (k:=p.length-1-j) (by omega))),.c [] (Gm (Qf _) (Qf _) (by omega) (by omega)),.c [] (M5 (Qf _) (Qf _) hm1 hm2),.c [] (Gm (Qf _) (Qf _) (by omega) (by omega)),.r 17 (eI (b:=(p.length:Int)-1-((j+1:Nat):Int)) (by omega))] rfl (by simp [Qa] <;> omega) ?_
    exact rd (j+1) (by omega) hlt rfl
  · obtain rfl:j=p.length:=by omega
    exact en tt [.f (by simp; omega)] rfl rfl trivial
theorem Wv {p:List Int} (tp:Qj p) (hl:p.length<274877906944) (hp:Bd 4294967295 p):Qc Tryz.prog 295 [pr p] [.agg (Zv (p.getD (p.length-1) 0))]:=by
  have cn:=Xv tp hl hp
  by_cases h0:p=[]
  · subst h0
    exact w tt Tryz.func295 rfl [.c [] cn,.t (by simp)] rfl (by simp [Fm]) trivial
  · have hpl:0<p.length:=List.length_pos_iff.2 h0
    exact w tt Tryz.func295 rfl [.c [] cn,.f (by simpa using h0),.r 12 (eI (b:=((p.length-1:Nat):Int)) (by simp; omega)),.x (J7 (Xj (by omega)))] rfl rfl (by simp [Qa]; omega)
end Orr

namespace Orr
open Go Go.Proofs
set_option maxRecDepth 10000
theorem Q4k {a b:Int} {q:Rat} (h1:a=q.num) (h2:b=(q.den:Int)):[sg a,mg a,sg b,mg b]=rl q:=by rw [h1,h2]
theorem Tr {n d:Int} (h0:d≠0) (hn:Qm n≤4294967295) (hd:Qm d≤4294967295):Qc Tryz.prog 197 [.agg (Zv n),.agg (Zv d)] [.agg (rl (Rat.divInt n d))]:=by
  have cg:=Qsu (Xb [n,d]) (fun z hz=>by simp at hz; rcases hz with rfl | rfl <;> assumption)
  have gp:=Qhb (n:=n) h0
  have gs:=Qn0 (n:=n) h0 hd
  have m1:=Om n d
  have m2:=On n d
  obtain ⟨g,hg⟩:∃ g,g=((Z7 [n,d]:Nat):Int):=⟨_,rfl⟩
  rw [←hg] at cg gp gs m1 m2
  by_cases hneg:d<0
  · obtain ⟨e1,e2⟩:=Q1q (n:=n) hneg
    rw [←hg] at e1 e2
    rw [←Q4k e1 e2]
    exact w tt Tryz.func197 rfl [.c [] cg,.t (by simpa using hneg),.c [] (Ii (Qf n) hn),.c [] (Ii (Qf d) hd),.c [] (Fx (Qf _) (Qf _) (by rw [Z3]; exact hn) gs (by omega) (Qok m1)),.c [] (Fx (Qf _) (Qf _) (by rw [Z3]; exact hd) gs (by omega) (Qok m2))] rfl rfl trivial
  · obtain ⟨e1,e2⟩:=Qen (n:=n) (d:=d) (by omega)
    rw [←hg] at e1 e2
    rw [←Q4k e1 e2]
    exact w tt Tryz.func197 rfl [.c [] cg,.f (by simpa using hneg),.c [] (Fx (Qf _) (Qf _) hn gs (by omega) m1),.c [] (Fx (Qf _) (Qf _) hd gs (by omega) m2)] rfl rfl trivial
theorem Ag {x y x' y':LV} {n d:Int} (h1:Xy x y n) (h2:Xy x' y' d) (hn:Qm n≤4294967295) (hd:Qm d≤4294967295):Qc Tryz.prog 137 [.agg [x,y,x',y']] [.agg (rl (Zs n d))]:=by
  have c1:=Ut h1 hn
  have c2:=Ut h2 hd
  obtain ⟨b,l,rfl,rfl,_⟩:=h1
  obtain ⟨b',l',rfl,rfl,_⟩:=h2
  by_cases h0:d=0
  · have e:Zs n d=Rat.divInt n 1:=by unfold Zs; rw [if_pos h0]
    rw [e]
    exact w tt Tryz.func137 rfl [.c [] c2,.c [] Gn,.t (by simpa using h0),.c [] (Qjp (z:=1) (by decide)),.c [] c1,.c [] (Tr (by decide) hn (by decide))] rfl rfl trivial
  · have e:Zs n d=Rat.divInt n d:=by unfold Zs; rw [if_neg h0]
    rw [e]
    exact w tt Tryz.func137 rfl [.c [] c2,.c [] Gn,.f (by simpa using h0),.c [] c1,.c [] (Tr h0 hn hd)] rfl rfl trivial
theorem Ir {q:Rat} (hq:Qs 4294967295 q):Qc Tryz.prog 137 [.agg (rl q)] [.agg (rl q)]:=by
  have:=Ag (Qf q.num) (Qf (q.den:Int)) hq.1 hq.2
  rwa [Rw] at this
theorem Qdq {a b:Rat} (ha:Qs 2147483647 a) (hb:Qs 2147483647 b):Qc Tryz.prog 198 [.agg (rl a),.agg (rl b)] [.agg (Zv (a.num*(b.den:Int))),.agg (Zv (b.num*(a.den:Int))),.agg (Zv ((a.den:Int)*(b.den:Int)))] :=
  w tt Tryz.func198 rfl [.c [] (Ir (ha.mono (by decide))),.c [] (Ir (hb.mono (by decide))),.c [] (Gm (Qf _) (Qf _) (Nat.le_trans ha.1 (by decide)) (Nat.le_trans hb.2 (by decide))),.c [] (Gm (Qf _) (Qf _) (Nat.le_trans hb.1 (by decide)) (Nat.le_trans ha.2 (by decide))),.c [] (Gm (Qf _) (Qf _) (Nat.le_trans ha.2 (by decide)) (Nat.le_trans hb.2 (by decide)))] rfl rfl trivial
theorem Fa {a b:Rat} (ha:Qs 2147483647 a) (hb:Qs 2147483647 b):Qc Tryz.prog 138 [.agg (rl a),.agg (rl b)] [.one (.int .i64 (Zo a b))] :=
  w tt Tryz.func138 rfl [.c [] (Qdq ha hb),.c [] (Im (Qf _) (Qf _) (Nat.le_trans (Q3 _ _) (by have:=ha.1; have:=hb.2; omega)) (Nat.le_trans (Q3 _ _) (by have:=hb.1; have:=ha.2; omega)))] rfl rfl trivial
theorem Qt8 {x y x' y':LV} {n d:Int} (h1:Xy x y n) (h2:Xy x' y' d) (hn:Qm n≤4294967295) (hd:Qm d≤4294967295):Qc Tryz.prog 82 [.agg [x,y,x',y'],.one (.row [])] [.agg (rl (Zs n d))]:=by
  have c1:=Ag h1 h2 hn hd
  obtain ⟨b,l,rfl,rfl,_⟩:=h1
  obtain ⟨b',l',rfl,rfl,_⟩:=h2
  refine Z1 Tryz.func82 rfl ?_
  refine go tt [.c [] c1] rfl trivial ?_
  refine lp (S:=Unit) 3 (fun L1 _=>(12,.v (.one (.int .i64 0)))::L1) (fun _=>[.blk 41 [.bool b,.row (lm l),.bool b',.row (lm l')],.blk 41 [.bool false,.nils,.bool false,.nils],.blk 41 (rl (Zs n d))]) (fun _=>0) (fun _=>True) () trivial rfl (fun _ _=>rfl) rfl fun _ _=>?_
  exact en tt [.f (by simp)] rfl rfl trivial
theorem F0 {q:Rat} (hq:Qs 4294967295 q):Qc Tryz.prog 82 [.agg (rl q),.one (.row [])] [.agg (rl q)]:=by
  have:=Qt8 (Qf q.num) (Qf (q.den:Int)) hq.1 hq.2
  rwa [Rw] at this
theorem Q0j {q:Rat} (hq:Qs 4294967295 q):Qc Tryz.prog 239 [.agg (rl q)] [.agg (rl q)]:=w tt Tryz.func239 rfl [.c [] (F0 hq)] rfl rfl trivial
theorem Qmm {p:List Int} {q:Rat} {s t:Nat} (tp:Qj p) (hl:p.length<274877906944) (hp:Bd s p) (hq:Qs t q) (hst:s+p.length*(t+1)+2*t+10≤4294967295):Qc Tryz.prog 192 [pr p,.agg (rl q)] [.one (.int .i64 (Zw p q))]:=by
  have cc:=Im (Qf (Q2g p q.num q.den)) Wj (Nat.le_trans (Qfx hp hq.1 hq.2).1 (by omega)) (by decide)
  exact w tt Tryz.func192 rfl [.c [] (Q0j (hq.mono (by omega))),.c [] (Xv tp hl (Qd hp (by omega))),.c [] (Qs7 hl hp hq.1 hq.2 hst),.c [] cc] rfl rfl trivial
end Orr

namespace Orr
open Go Go.Proofs
set_option maxRecDepth 10000
theorem Qtu {p:List Int} {g:Int} (hl:p.length<274877906944) (hp:Bd 4294967295 p) (hg:Qm g≤4294967295) (h0:g≠0) (hd:∀ z∈p,z % g=0):Qc Tryz.prog 121 [pr p,.agg (Zv g)] [pr (trim (p.map (· / g)))]:=by
  refine Z1 Tryz.func121 rfl ?_
  refine go tt [.r 9 (eI (b:=(p.length:Int)) (by simp)),.i p.length,.i p.length,.r 12 (eI (b:=(p.length:Int)) (by simp))] rfl (by simp [Qa]; omega) ?_
  rw [Ff fun k=>Zv (p.getD k 0 / g)]
  refine lp (S:=Nat) 2 (fun L1 k=>(13,.v (.one (.int .i64 (k:Int))))::L1) (fun k=>[.blk 29 (Zv g),.row false 29 2 (fil (fun k=>Zv (p.getD k 0 / g)) [.bool false,.nils] p.length k)]) (fun k=>p.length-k) (fun k=>k≤p.length) 0 (Nat.zero_le _) rfl (fun _ _=>rfl) rfl fun k hk=>?_
  by_cases hlt:k<p.length
  · have hg2:=Xj hlt
    refine go tt [.t (by simp; omega),.x (J7 hg2),.c [] (Fx (Qf _) (Qf _) (Qp hp k) hg h0 (hd _ (List.mem_of_getElem? hg2))),.i k] rfl (by simp [Qa,Gg]; omega) ?_
    have e:=Rm (fun k=>Zv (p.getD k 0 / g)) [.bool false,.nils] hlt
    rw [e]
    exact rd (k+1) (by omega) hlt rfl
  · obtain rfl:k=p.length:=by omega
    have e:fil (fun k=>Zv (p.getD k 0 / g)) [.bool false,.nils] p.length p.length=(p.map (· / g)).map Zv:=by
      rw [Rl]
      refine List.ext_getElem? fun i=>?_
      by_cases hi:i<p.length
      · simp [List.getElem?_range hi,List.getD,List.getElem?_eq_getElem hi]
      · simp [List.getElem?_eq_none,hi]
    rw [e]
    exact en tt [.f (by simp),.c [] (Us (Xb (p.map (· / g))) (by simp; exact hl) (Dh hp g))] rfl rfl trivial
theorem Qae (p:List Int):∀ c∈p.map Zv,c.length=2:=Q4f p fun _=>rfl
theorem Qms {lx ly:List (List LV)} {px py:List Int} {x y:LV} {d:Int} (hx:IsInts lx px) (hy:IsInts ly py) (hd:Xy x y d) (hk:Cs 4294967294 1073741824 (Crv.mk px py d)):Qc Tryz.prog 74 [.agg [.row lx,.row ly,x,y]] [.agg (cl (Crv.norm (Crv.mk px py d)))]:=by
  have hlx:=hk.lx
  have hly:=hk.ly
  simp only at hlx hly
  have htx:=Xc px
  have hty:=Xc py
  have hd1:Qm (Crv.mk px py d).d'≤4294967295:=Nat.le_trans (Qeg hk.d (by omega)) (by omega)
  have hg1:=Crv.isz_g (Crv.mk px py d) hd1
  have hg0:=Crv.g_ne (Crv.mk px py d)
  have hgd:=Crv.g_dvd (Crv.mk px py d)
  have cx:=Us hx (by omega) (Qd hk.x (by omega))
  have cy:=Us hy (by omega) (Qd hk.y (by omega))
  have cd:=Ut hd (Nat.le_trans hk.d (by omega))
  have bx:Bd 4294967295 (trim px):=Qd (Jj hk.x) (by omega)
  have by_:Bd 4294967295 (trim py):=Qd (Jj hk.y) (by omega)
  obtain ⟨b,l,rfl,rfl,_⟩:=hd
  obtain ⟨e,he⟩:∃ e,e=(Crv.mk px py d).d':=⟨_,rfl⟩
  obtain ⟨g,hgg⟩:∃ g,g=(Crv.mk px py d).g:=⟨_,rfl⟩
  obtain ⟨X,hX⟩:∃ X,X=trim px:=⟨_,rfl⟩
  obtain ⟨Y,hY⟩:∃ Y,Y=trim py:=⟨_,rfl⟩
  have hnorm:(Crv.mk px py d).norm=⟨trim (X.map (· / g)),trim (Y.map (· / g)),e / g⟩:=by rw [he,hgg,hX,hY]; rfl
  rw [hnorm]
  have hgdef:g=if e<0 then -((Z7 (e::(X++Y)):Nat):Int) else (Z7 (e::(X++Y)):Nat):=by rw [hgg,he,hX,hY]; rfl
  have hde:e=if d=0 then 1 else d:=by rw [he]; rfl
  simp only [←he,←hgg,←hX,←hY] at hd1 hg1 hg0 hgd htx hty cx cy bx by_
  clear hnorm hgg he hX hY
  refine Z1 Tryz.func74 rfl ?_
  refine go tt [.c [] cx,.c [] cy,.c [] cd,.c [] Gn] rfl trivial ?_
  refine ct 1 (S:=Unit) (fun _=>[(2,.v (.one (.ow 1 0))),(3,.v (pr X)),(4,.v (pr Y)),(5,.v (.one (.ow 2 0)))]) (fun _=>[.blk 31 [.row lx,.row ly,.bool b,.row (lm l)],.blk 31 [.nils,.nils,.bool false,.nils],.blk 29 (Zv e)]) (fun _=>True) rfl ?_ ?_
  · by_cases h0:d=0
    · rw [hde,if_pos h0]
      exact go tt [.t (by simpa using h0),.c [] (Qjp (z:=1) (by decide))] rfl trivial (rc () trivial rfl)
    · rw [hde,if_neg h0]
      exact go tt [.f (by simpa using h0)] rfl trivial (rc () trivial rfl)
  · intro _ _
    have hgi:IsInts ([Zv e]++X.map Zv++Y.map Zv) (e::(X++Y)):=by
      have:=Xb (e::(X++Y))
      simpa using this
    have hgs:∀ z∈e::(X++Y),Qm z≤4294967295:=fun z hz=>by
      rcases List.mem_cons.1 hz with rfl | hz
      · exact hd1
      · rcases List.mem_append.1 hz with hz | hz
        · exact bx z hz
        · exact by_ z hz
    have cg:=Qsu hgi hgs
    have co1:=Qtu (p:=X) (by omega) bx hg1 hg0 fun z hz=>hgd z (List.mem_cons_of_mem _ (List.mem_append_left _ hz))
    have co2:=Qtu (p:=Y) (by omega) by_ hg1 hg0 fun z hz=>hgd z (List.mem_cons_of_mem _ (List.mem_append_right _ hz))
    have ce:=Fx (Qf e) (Qf g) hd1 hg1 hg0 (hgd e (List.mem_cons_self ..))
    have hszg:=Ap hgs
    by_cases hneg:e<0
    · rw [if_pos hneg] at hgdef
      have cn:=Ii (Qf ((Z7 (e::(X++Y)):Nat):Int)) hszg
      rw [←hgdef] at cn
      exact en tt [.lo,.s (Qae X),.s (Qae Y),.c [] cg,.t (by simpa using hneg),.c [] cn,.c [] ce,.c [] co1,.c [] co2] rfl rfl (by simp [Qa]; omega)
    · rw [if_neg hneg] at hgdef
      rw [←hgdef] at cg
      exact en tt [.lo,.s (Qae X),.s (Qae Y),.c [] cg,.f (by simpa using hneg),.c [] ce,.c [] co1,.c [] co2] rfl rfl (by simp [Qa]; omega)
theorem Qdp {lx ly:List (List LV)} {px py:List Int} {x y:LV} {d:Int} (hx:IsInts lx px) (hy:IsInts ly py) (hd:Xy x y d) (hk:Cs 4294967294 1073741824 (Crv.mk px py d)) (h0:d≠0):Qc Tryz.prog 215 [.one (.row lx),.one (.row ly),.agg [x,y]] [.agg (cl (Crv.norm (Crv.mk px py d))),.one (.int .i64 0)]:=by
  have cd:=Ut hd (Nat.le_trans hk.d (by omega))
  have cn:=Qms hx hy hd hk
  obtain ⟨b,l,rfl,rfl,_⟩:=hd
  exact w tt Tryz.func215 rfl [.c [] cd,.c [] Gn,.f (by simpa using h0),.c [] cn] rfl rfl trivial
theorem Q8j {lx ly:List (List LV)} {px py:List Int} (hx:IsInts lx px) (hy:IsInts ly py) (hk:Cs 4294967294 1073741824 (Crv.mk px py 0)):Qc Tryz.prog 17 [.one (.row lx),.one (.row ly)] [.agg (cl (Crv.norm (Crv.mk px py 0)))] :=
  w tt Tryz.func17 rfl [.c [] (Qms hx hy Wj hk)] rfl rfl trivial
def Ug (x y:Int):Crv:=Crv.norm ⟨trim [x],trim [y],0⟩
theorem Qgt {x y:Int} (hx:-9223372036854775808≤x∧x≤9223372036854775807) (hy:-9223372036854775808≤y∧y≤9223372036854775807):Cs 64 1 ⟨trim [x],trim [y],0⟩:=by
  have key:∀ z:Int,-9223372036854775808≤z∧z≤9223372036854775807→Qm z≤64:=fun z hz=>by
    rw [Jz]
    have:(2:Nat)^64=18446744073709551616:=by decide
    omega
  refine ⟨Jj fun z hz=>?_,Jj fun z hz=>?_,Nat.zero_le _,Xc [x],Xc [y]⟩
  · rw [List.mem_singleton] at hz; rw [hz]; exact key x hx
  · rw [List.mem_singleton] at hz; rw [hz]; exact key y hy
theorem Qz9 {x y:Int} (hx:-9223372036854775808≤x∧x≤9223372036854775807) (hy:-9223372036854775808≤y∧y≤9223372036854775807):Qc Tryz.prog 59 [.one (.int .i64 x),.one (.int .i64 y)] [.agg (cl (Ug x y))] :=
  w tt Tryz.func59 rfl [.c [] (Qs5 (p:=[x]) (show 1<274877906944 by decide) (by intro z hz; rw [List.mem_singleton] at hz; rw [hz]; exact hx)),.c [] (Qs5 (p:=[y]) (show 1<274877906944 by decide) (by intro z hz; rw [List.mem_singleton] at hz; rw [hz]; exact hy)),.c [] (Q8j (Xb _) (Xb _) ((Qgt hx hy).mono (by omega) (by omega)))] rfl rfl trivial
end Orr

namespace Orr
open Go Go.Proofs
set_option maxRecDepth 10000
theorem Qk7 {l:List Pt} {i:Nat} {p:Pt} (h:l[i]? = some p):(l.map X5)[i]? = some [pl p.c.x,pl p.c.y,sg p.c.d,mg p.c.d,.int .i64 p.id]:=Zq h
theorem Qii (l:List Pt):∀ c∈l.map X5,c.length=5:=Q4f l fun _=>rfl
theorem Q0h {lx ly:List (List LV)} {px py:List Int} {x y:LV} {d:Int} (hx:IsInts lx px) (hy:IsInts ly py) (hd:Xy x y d) (hk:Cs 4294967294 1073741824 (Crv.mk px py d)) (id:Int):Qc Tryz.prog 165 [.agg [.row lx,.row ly,x,y,.int .i64 id]] [.agg (X5 ⟨Crv.norm (Crv.mk px py d),id⟩)]:=by
  have cd:=Ut hd (Nat.le_trans hk.d (by omega))
  by_cases h0:d=0
  · subst h0
    have ck:Cs 4294967294 1073741824 (Crv.mk px py 1):=⟨hk.x,hk.y,show Qm 1≤4294967294 by decide,hk.lx,hk.ly⟩
    have cm:=Qdp hx hy (Qf 1) ck (by decide)
    have e:Crv.norm (Crv.mk px py 1)=Crv.norm (Crv.mk px py 0):=by simp only [Crv.norm,Crv.g,Crv.d']; rfl
    rw [e] at cm
    obtain ⟨b,l,rfl,rfl,_⟩:=hd
    exact w tt Tryz.func165 rfl [.c [] cd,.c [] Gn,.t (by simp),.c [] (Qjp (z:=1) (by decide)),.c [] cm] rfl rfl trivial
  · have cm:=Qdp hx hy hd hk h0
    obtain ⟨b,l,rfl,rfl,_⟩:=hd
    exact w tt Tryz.func165 rfl [.c [] cd,.c [] Gn,.f (by simpa using h0),.c [] cm] rfl rfl trivial
theorem Q8k {l:List Pt} (id:Int) (hl:l.length<1073741824):Qc Tryz.prog 164 [.agg [pts l],.one (.int .i64 id)] [.one (.int .i64 (pos l id:Int)),.one (.bool (has l id))]:=by
  refine Z1 Tryz.func164 rfl ?_
  refine go tt [] rfl trivial ?_
  refine ct 2 (S:=Unit) (fun _=>[(1,.v (.one (.int .i64 id))),(2,.v (.one (.ow 0 0))),(6,.v (.one (.int .i64 (pos l id:Int))))]) (fun _=>[.blk 72 [pts l]]) (fun _=>True) rfl ?_ ?_
  · refine lp (S:=Nat) 1 (fun L1 k=>(6,.v (.one (.int .i64 (k:Int))))::L1) (fun _=>[.blk 72 [pts l]]) (fun k=>l.length-k) (fun k=>k≤l.length∧∀ j p,j<k→l[j]? = some p→p.id<id) 0 ⟨Nat.zero_le _,fun j p h=>by omega⟩ rfl (fun _ _=>rfl) rfl fun k ⟨hk,hlt⟩=>?_
    by_cases h:k<l.length
    · obtain ⟨p,hp⟩:∃ p,l[k]? = some p:=⟨_,List.getElem?_eq_getElem h⟩
      by_cases hid:p.id<id
      · refine go tt [.t (by simp; omega),.x (Qk7 hp),.t (by simpa using hid)] rfl (by simp [Qa]; omega) ?_
        exact rd (k+1) (by omega) ⟨h,fun j q hj hq=>by
          rcases Nat.lt_or_ge j k with h2 | h2
          · exact hlt j q h2 hq
          · have:j=k:=by omega
            subst this; rw [hp] at hq; injection hq with hq; rw [←hq]; exact hid⟩ rfl
      · have e:=Qk2 hlt (.inr ⟨p,hp,hid⟩)
        refine go tt [.t (by simp; omega),.x (Qk7 hp),.f (by simpa using hid)] rfl trivial ?_
        rw [e]
        exact rc () trivial rfl
    · obtain rfl:k=l.length:=by omega
      have e:=Qk2 hlt (.inl rfl)
      refine go tt [.f (by simp),.f rfl] rfl trivial ?_
      rw [e]
      exact rc () trivial rfl
  · intro _ _
    by_cases h:pos l id<l.length
    · obtain ⟨p,hp⟩:∃ p,l[pos l id]? = some p:=⟨_,List.getElem?_eq_getElem h⟩
      have e:has l id=decide (p.id=id):=by simp [has,hp]
      rw [e]
      exact en tt [.g 30 true (by simp; omega),.x (Qk7 hp)] rfl rfl trivial
    · have e:has l id=false:=by simp [has,List.getElem?_eq_none (Nat.le_of_not_lt h)]
      rw [e]
      exact en tt [.g 30 false (by simp; omega)] rfl rfl trivial
theorem Qsx {l:List Pt}:Qc Tryz.prog 126 [.agg [pts l]] [.one (pts l)]:=w tt Tryz.func126 rfl [] rfl rfl trivial
theorem Q8d {lx ly:List (List LV)} {px py:List Int} {x y:LV} {d id:Int} {l:List Pt} (hx:IsInts lx px) (hy:IsInts ly py) (hd:Xy x y d) (hk:Cs 4294967294 1073741824 (Crv.mk px py d)) (hl:l.length≤1000000) :
    Qc Tryz.prog 104 [.agg [pts l],.agg [.row lx,.row ly,x,y,.int .i64 id]] [.agg [pts (if S7 l (Pt.mk (Crv.norm (Crv.mk px py d)) id)=0 then put l (Pt.mk (Crv.norm (Crv.mk px py d)) id) else l)],.one (.int .i64 (S7 l (Pt.mk (Crv.norm (Crv.mk px py d)) id)))]:=by
  have ca:=Q8k (l:=l) id (by omega)
  have cf:=Q0h hx hy hd hk id
  obtain ⟨b,r,rfl,rfl,_⟩:=hd
  obtain ⟨q,hq⟩:∃ q,q=Pt.mk (Crv.norm (Crv.mk px py d)) id:=⟨_,rfl⟩
  have hqi:q.id=id:=by rw [hq]
  rw [←hq] at cf ⊢
  have hpl:=Qw3 l id
  by_cases h1:has l id=true
  · have e:S7 l q=6:=by simp [S7,hqi,h1]
    rw [e,if_neg (by decide)]
    exact w tt Tryz.func104 rfl [.c [] ca,.t h1] rfl rfl trivial
  by_cases h2:6≤l.length
  · have e:S7 l q=9:=by simp [S7,hqi,h1,h2]
    rw [e,if_neg (by decide)]
    exact w tt Tryz.func104 rfl [.c [] ca,.f (by simpa using h1),.t (by simp; omega)] rfl rfl trivial
  have e:S7 l q=0:=by simp [S7,hqi,h1,h2]
  rw [e,if_pos rfl]
  have s1:∀ c∈(l.map X5).take (pos l id),c.length=5:=fun c hc=>Qii l c (List.mem_of_mem_take hc)
  have s3:∀ c∈(l.map X5).drop (pos l id),c.length=5:=fun c hc=>Qii l c (List.mem_of_mem_drop hc)
  refine w tt Tryz.func104 rfl [.c [] ca,.f (by simpa using h1),.f (by simp; omega),.i (pos l id),.s s1,.c [] cf,.i (pos l id),.s s3] rfl ?_ ?_
  · simp [put,hqi,pts,List.map_take,List.map_drop,X5]
  · simp [Qa]
    exact ⟨by omega,hpl,fun _ _=>rfl,by omega,by omega,hpl⟩
theorem Qwl:∀ (qs:List Pt),(J0 [] qs).1.length≤qs.length:=by
  have key:∀ (qs acc:List Pt),(J0 acc qs).1.length≤acc.length+qs.length:=by
    intro qs
    induction qs with
    | nil=>intro acc; simp [J0]
    |
     cons q qs ih =>
     intro acc
     simp only [J0]
     split
     · have:=ih (put acc q); rw [Qo1] at this; simp only [List.length_cons]; omega
     · simp
  intro qs
  have:=key qs []
  simpa using this
theorem Q79 {zs:List (List LV)} {qs:List Pt} (hz:IsPts 4294967294 1073741824 zs qs) (hl:qs.length≤6):Qc Tryz.prog 77 [.one (.row zs)] [.agg [pts (J0 [] qs).1],.one (.int .i64 (J0 [] qs).2)]:=by
  refine Z1 Tryz.func77 rfl ?_
  have hzl:=hz.len
  refine go tt [.f (by simp; omega)] rfl trivial ?_
  refine nlb 1 rfl rfl rfl ?_
  refine lp (S:=Nat) 2 (fun L1 i=>(14,.v (.one (.int .i64 (i:Int))))::L1) (fun i=>[.blk 72 [.nils],.blk 72 [pts (J0 [] (qs.take i)).1]]) (fun i=>qs.length-i) (fun i=>i≤qs.length∧(J0 [] (qs.take i)).2=0) 0 ⟨Nat.zero_le _,rfl⟩ rfl (fun _ _=>rfl) rfl fun i ⟨hi,h0⟩=>?_
  by_cases hlt:i<qs.length
  · have hqi:qs[i]? = some qs[i]:=List.getElem?_eq_getElem hlt
    obtain ⟨z,hzi,lx,ly,b,r,px,py,d,rfl,hx,hy,hd,hk,hc⟩:=hz.get hqi
    have hq:(Pt.mk (Crv.norm (Crv.mk px py d)) qs[i].id)=qs[i]:=by rw [←hc]
    have hst:=Qrc [] qs hqi (by rw [←h0])
    have hnl:=Qwl (qs.take i)
    have cp:=Q8d (l:=(J0 [] (qs.take i)).1) (id:=qs[i].id) hx hy hd hk (by rw [List.length_take] at hnl; omega)
    rw [hq] at cp
    by_cases he:S7 (J0 [] (qs.take i)).1 qs[i]=0
    · rw [if_pos he] at hst
      rw [he,if_pos rfl] at cp
      refine go tt [.t (by simp; omega),.x hzi,.c [] cp,.f rfl] rfl (by simp [Qa]; omega) ?_
      exact rd (i+1) (by omega) ⟨hlt,by rw [hst]⟩ (by rw [hst]; rfl)
    · rw [if_neg he] at hst
      have herr:=Qwk [] qs he hst
      rw [herr]
      exact en tt [.t (by simp; omega),.x hzi,.c [] cp,.t (by simpa using he)] rfl rfl trivial
  · obtain rfl:i=qs.length:=by omega
    rw [List.take_length] at h0
    rw [List.take_length,h0]
    exact en tt [.f (by simp; omega)] rfl rfl trivial
end Orr

namespace Orr
open Go Go.Proofs
set_option maxRecDepth 10000
theorem Qpl (q:Rat):Qj [-q.num,(q.den:Int)]:=by
  have:=q.den_nz
  simp [Qj,trim,this]
theorem Q74 {s:Nat} {q:Rat} (h:Qs s q):Bd s [-q.num,(q.den:Int)]:=fun z hz=>by
  simp at hz
  rcases hz with rfl | rfl
  · rw [Z3]; exact h.1
  · exact h.2
theorem Q3w {x y x' y':LV} {n d:Int} (h1:Xy x y n) (h2:Xy x' y' d) (hn:Qm n≤4294967295) (hd:Qm d≤4294967295) (hq:Qs 4294967295 (Zs n d)):Qc Tryz.prog 78 [.agg [x,y,x',y']] [.agg (qa (Zs n d))]:=by
  have c1:=Qt8 h1 h2 hn hd
  obtain ⟨b,l,rfl,rfl,_⟩:=h1
  obtain ⟨b',l',rfl,rfl,_⟩:=h2
  exact w tt Tryz.func78 rfl [.c [] c1,.c [] (Ii (Qf _) hq.1),.c [] (F0 hq)] rfl rfl trivial
theorem Af {k:Crv} (hn:Nml k) (hk:Cs 4294967294 1073741824 k):Qc Tryz.prog 183 [.agg (cl k)] [.agg (cl k)]:=by
  have h0:k.d≠0:=by have:=hn.2.2.1; omega
  have cm:=Qdp (Xb k.x) (Xb k.y) (Qf k.d) hk h0
  rw [show Crv.mk k.x k.y k.d=k from rfl,Crv.norm_of hn] at cm
  exact w tt Tryz.func183 rfl [.c [] (Ut (Qf k.d) (Nat.le_trans hk.d (by omega))),.c [] Gn,.f (by simpa using h0),.c [] cm] rfl rfl trivial
theorem Qmo {a b:Crv} (ha:Nml a) (hb:Nml b) (ca:Cb a) (cb:Cb b):Qc Tryz.prog 188 [.agg (cl a),.agg (cl b)] [pr (X8 a b)]:=by
  have l1:=ca.lx
  have l2:=cb.lx
  have l3:=Q7 b.x a.d
  have l4:=Q7 a.x b.d
  exact w tt Tryz.func188 rfl [.c [] (Af ha (ca.mono (by omega) (by omega))),.c [] (Af hb (cb.mono (by omega) (by omega))),.c [] (Ha (by omega) (Qd cb.x (by omega)) (Nat.le_trans ca.d (by omega))),.c [] (Ha (by omega) (Qd ca.x (by omega)) (Nat.le_trans cb.d (by omega))),.c [] (Qdl (by omega) (by omega) (Qd (Zk cb.x ca.d) (by omega)) (Qd (Zk ca.x cb.d) (by omega)))] rfl rfl trivial
theorem Qmh {a b:Crv} (ha:Nml a) (hb:Nml b) (ca:Cb a) (cb:Cb b):Qc Tryz.prog 189 [.agg (cl a),.agg (cl b)] [pr (Xf a b)]:=by
  have l1:=ca.ly
  have l2:=cb.ly
  have l3:=Q7 b.y a.d
  have l4:=Q7 a.y b.d
  exact w tt Tryz.func189 rfl [.c [] (Af ha (ca.mono (by omega) (by omega))),.c [] (Af hb (cb.mono (by omega) (by omega))),.c [] (Ha (by omega) (Qd cb.y (by omega)) (Nat.le_trans ca.d (by omega))),.c [] (Ha (by omega) (Qd ca.y (by omega)) (Nat.le_trans cb.d (by omega))),.c [] (Qdl (by omega) (by omega) (Qd (Zk cb.y ca.d) (by omega)) (Qd (Zk ca.y cb.d) (by omega)))] rfl rfl trivial
def J1 (ps:List (List Int)):List (List LV):=ps.map fun p=>[pl p]
theorem Xo {ps:List (List Int)} {i:Nat} {p:List Int} (h:ps[i]? = some p):(J1 ps)[i]? = some [pl p]:=Zq h
end Orr

namespace Orr
open Go Go.Proofs
set_option maxRecDepth 10000
theorem Qtm {p q:List Int}:Qc Tryz.prog 187 [pr p,pr q] [pr (Rk p q)]:=by
  by_cases h:0<p.length
  · exact w tt Tryz.func187 rfl [.t (by simp; omega)] rfl (by simp only [Rk]; rw [if_pos h]) trivial
  · exact w tt Tryz.func187 rfl [.f (by simp; exact List.eq_nil_of_length_eq_zero (by omega))] rfl (by simp only [Rk]; rw [if_neg h]) trivial
theorem Qqb:Qc Tryz.prog 186 [.one (.int .i64 2)] [.one (.int .i64 2)]:=w tt Tryz.func186 rfl [.f rfl,.t rfl] rfl rfl trivial
theorem Qsw {k i0 i1 i2 i3 l j0 j1 j2 j3:Int}:Qc Tryz.prog 153 [.agg [.int .i64 k,.int .i64 i0,.int .i64 i1,.int .i64 i2,.int .i64 i3],.agg [.int .i64 l,.int .i64 j0,.int .i64 j1,.int .i64 j2,.int .i64 j3]] [.one (.bool (Xz [k,i0,i1,i2,i3] [l,j0,j1,j2,j3]))]:=by
  by_cases hk:k=l
  · subst hk
    rw [show Xz [k,i0,i1,i2,i3] [k,j0,j1,j2,j3]=Xz [i0,i1,i2,i3] [j0,j1,j2,j3] from by simp [Xz]]
    refine Z1 Tryz.func153 rfl ?_
    refine go tt [.f (by simp)] rfl trivial ?_
    refine lp (S:=Nat) 2 (fun L1 i=>(19,.v (.one (.int .i64 (i:Int))))::L1) (fun _=>[.blk 159 [.int .i64 k,.int .i64 i0,.int .i64 i1,.int .i64 i2,.int .i64 i3],.blk 159 [.int .i64 k,.int .i64 j0,.int .i64 j1,.int .i64 j2,.int .i64 j3]]) (fun i=>4-i) (fun i=>i≤4∧Xz ([i0,i1,i2,i3].drop i) ([j0,j1,j2,j3].drop i)=Xz [i0,i1,i2,i3] [j0,j1,j2,j3]) 0 ⟨by omega,rfl⟩ rfl (fun _ _=>rfl) rfl fun i ⟨hi,he⟩=>?_
    rw [←he]
    rcases (show i=0∨i=1∨i=2∨i=3∨i=4 by omega) with rfl | rfl | rfl | rfl | rfl
    · by_cases h:i0=j0
      · exact go tt [.t rfl,.i 0,.i 0,.f (by simpa using h)] rfl (by simp [Qa]) (rd 1 (by omega) ⟨by omega,by simp [Xz,h]⟩ rfl)
      · exact en tt [.t rfl,.i 0,.i 0,.t (by simpa using h),.i 0] rfl (by simp [Xz,h]) trivial
    · by_cases h:i1=j1
      · exact go tt [.t rfl,.i 1,.i 1,.f (by simpa using h)] rfl (by simp [Qa]) (rd 2 (by omega) ⟨by omega,by simp [Xz,h]⟩ rfl)
      · exact en tt [.t rfl,.i 1,.i 1,.t (by simpa using h),.i 1] rfl (by simp [Xz,h]) trivial
    · by_cases h:i2=j2
      · exact go tt [.t rfl,.i 2,.i 2,.f (by simpa using h)] rfl (by simp [Qa]) (rd 3 (by omega) ⟨by omega,by simp [Xz,h]⟩ rfl)
      · exact en tt [.t rfl,.i 2,.i 2,.t (by simpa using h),.i 2] rfl (by simp [Xz,h]) trivial
    · by_cases h:i3=j3
      · exact go tt [.t rfl,.i 3,.i 3,.f (by simpa using h)] rfl (by simp [Qa]) (rd 4 (by omega) ⟨by omega,by simp [Xz,h]⟩ rfl)
      · exact en tt [.t rfl,.i 3,.i 3,.t (by simpa using h),.i 3] rfl (by simp [Xz,h]) trivial
    · exact en tt [.f rfl] rfl (by simp [Xz]) trivial
  · exact w tt Tryz.func153 rfl [.t (by simpa using hk)] rfl (by simp [Xz,hk]) trivial
abbrev zCt:List LV:=[.int .i64 0,.int .i64 0,.int .i64 0,.int .i64 0,.int .i64 0,.nils,.int .i64 0]
def Z2 (l:List Ct):List (List LV):=l.map Qaa
theorem Dr {l:List Ct} {i:Nat} {c:Ct} (h:l[i]? = some c):(Z2 l)[i]? = some (Qaa c):=Zq h
theorem Uk (l:List Ct):(Z2 l).length=l.length:=by simp [Z2]
theorem Qum (l:List Ct):∀ c∈Z2 l,c.length=7:=fun c hc=>by
  obtain ⟨x,_,rfl⟩:=List.mem_map.1 hc; rfl
theorem Qvy {O:List Ct} {z:List LV} {c:Ct} {k m:Nat} {l2:List (List LV)} (hk:k≤O.length) (hp:Sy O c O.length=k) (hm:m=O.length-k) (h2:l2.take m=((Z2 O++[z]).drop k).take m) :
    ((Z2 O++[z]).take (k+1)++(l2.take m++(Z2 O++[z]).drop (k+1+m))).set k (Qaa c)=Z2 (Na O c):=by
  rw [h2,←List.append_assoc,Qhk (Z2 O) z (Qaa c) (by rw [Uk]; omega) (by rw [Uk]; omega)]
  simp [Na,hp,Z2,List.map_take,List.map_drop]
theorem Qjs {l:List Ct} (hl:∀ c∈l,Pb c.p) (hn:l.length≤1000000):Qc Tryz.prog 90 [.one (.row (Z2 l))] [.one (.row (Z2 (Z4 l)))]:=by
  have hcl:=Uk l
  refine Z1 Tryz.func90 rfl ?_
  refine go tt [.o 3 161 7] rfl trivial ?_
  refine lp (S:=Nat) 1 (fun L1 i=>(9,.v (.one (.int .i64 (i:Int))))::(3,.v (.one (.orow 0 7 none)))::L1) (fun i=>[.row false 161 7 (Z2 (Z4 (l.take i)))]) (fun i=>l.length-i) (fun i=>i≤l.length) 0 (Nat.zero_le _) rfl (fun _ _=>rfl) rfl fun i hi=>?_
  by_cases hlt:i<l.length
  · obtain ⟨c,hc⟩:∃ c,l[i]? = some c:=⟨_,List.getElem?_eq_getElem hlt⟩
    have hst:=Qlr hc
    have hcp:=hl c (List.mem_of_getElem? hc)
    obtain ⟨O,hO⟩:∃ O,O=Z4 (l.take i):=⟨_,rfl⟩
    have hOl:O.length=i:=by rw [hO,U8,List.length_take]; omega
    rw [←hO] at hst ⊢
    refine go tt [.t (by simp [hcl]; omega),.x (Dr hc)] rfl trivial ?_
    refine lp (S:=Nat) 2 (fun L1 k=>(6,.v (.one (.int .i64 (k:Int))))::L1) (fun k=>[.row false 161 7 (Z2 O),.blk 161 (Qaa c)]) id (fun k=>k≤O.length∧Sy O c k=Sy O c O.length) (Z2 O).length ⟨by rw [Uk]; exact Nat.le_refl _,by rw [Uk]⟩ rfl (fun _ _=>rfl) rfl fun k ⟨hk,hp⟩=>?_
    have hz:∀ y∈[zCt],y.length=7:=fun y hy=>by rw [List.mem_singleton.1 hy]; rfl
    have h77:∀ y∈Z2 O++[zCt],y.length=7:=fun y hy=>by
      rcases List.mem_append.1 hy with hy | hy
      · exact Qum O y hy
      · exact hz y hy
    cases k with
    |
     zero =>
     have hp:Sy O c O.length=0:=by rw [←hp]; rfl
     refine go tt [.g 17 false (by simp),.f rfl,.s (sz:=7) hz,.r 36 (eI (b:=((0+1:Nat):Int)) (by simp)),.i (0+1),.i (0),.s (sz:=7) (fun y hy=>h77 y (List.mem_of_mem_take hy)),.i (O.length),.c [] (Xv hcp.t (by have:=hcp.l; omega) (Qd hcp.b (by omega))),.i (0)] rfl (by simp [Qa,Uk]; omega) ?_
     exact rd (i+1) (by omega) hlt (by rw [hst,←Qvy (z:=zCt) (l2:=(Z2 O++[zCt]).take ((Z2 O++[zCt]).length-0)) (k:=0) (m:=O.length) (by omega) hp (by omega) (by congr 1; exact List.take_of_length_le (by simp))]; rfl)
    |
     succ k =>
     obtain ⟨x,hx⟩:∃ x,O[k]? = some x:=⟨_,List.getElem?_eq_getElem (by omega)⟩
     by_cases hlc:Km c x=true
     · refine go tt [.g 17 true (by simp),.r 22 (eI (b:=(k:Int)) (by simp)),.i k,.x (Dr hx),.c [] Qsw,.t hlc,.r 29 (eI (b:=(k:Int)) (by simp))] rfl (by simp [Qa,Uk]; omega) ?_
       exact rd k (by simp) ⟨by omega,by rw [←hp,Q18 hx hlc]⟩ rfl
     · have hlc:Km c x=false:=by simpa using hlc
       have hp:Sy O c O.length=k+1:=by rw [←hp,Qw2 hx hlc]
       refine go tt [.g 17 true (by simp),.r 22 (eI (b:=(k:Int)) (by simp)),.i k,.x (Dr hx),.c [] Qsw,.f hlc,.s (sz:=7) hz,.r 36 (eI (b:=((k+1+1:Nat):Int)) (by simp)),.i (k+1+1),.i (k+1),.s (sz:=7) (fun y hy=>h77 y (List.mem_of_mem_drop (List.mem_of_mem_take hy))),.i (O.length-(k+1)),.c [] (Xv hcp.t (by have:=hcp.l; omega) (Qd hcp.b (by omega))),.i (k+1)] rfl (by simp [Qa,Uk]; omega) ?_
       exact rd (i+1) (by omega) hlt (by rw [hst,←Qvy (z:=zCt) (l2:=((Z2 O++[zCt]).drop (k+1)).take ((Z2 O++[zCt]).length-(k+1))) (k:=k+1) (m:=O.length-(k+1)) (by omega) hp (by omega) (by congr 1; exact List.take_of_length_le (by simp))]; rfl)
  · obtain rfl:i=l.length:=by omega
    rw [List.take_length]
    exact en tt [.f (by simp [hcl])] rfl rfl trivial
end Orr

namespace Orr
def Qq (p:List Int):Int:=p.getD (p.length-1) 0
def chk (p:List Int):Option (List Int):=if p.length≤64∧(p.all fun z=>Nat.ble (Qm z) 16777216)=true then some p else none
def chq (q:Rat):Option Rat:=if Qm q.num≤16777216∧Qm (q.den:Int)≤16777216 then some q else none
def J4 (p:List Int):Int:=(Z7 p:Nat)
def Wb (p:List Int) (c:Int):List Int:=trim (p.map (· / c))
def Zz (p:List Int):Int:=if Qq p<0 then -J4 p else J4 p
def Qn (p:List Int):List Int:=if p.length=0 then [] else Wb p (Zz p)
def mono (i:Nat) (x:Int):List Int:=List.replicate i 0++[x]
def psd (b:List Int) (c:Int):Nat→List Int×List Int→List Int×List Int
  | 0,s=>s
  |
   i+1,(q,r) =>
   psd b c i (Ca (Qx q c) (mono i (if r.length=b.length+i then Qq r else 0)),V0 (Qx r c) (Zr (trim (mono i (if r.length=b.length+i then Qq r else 0))) b))
def Ys (a b:List Int):List Int:=(psd b (Qq b) (a.length+1-b.length) ([],a)).2
def V9 (a b r:List Int):List Int:=if (a.length+1-b.length) % 2=1∧Qq b<0 then Vd r else r
def Mu (r:List Int):List Int:=if r.length=0 then [] else Wb r (J4 r)
def X2 (a b:List Int):List Int:=Mu (V9 a b (Ys a b))
def Qez (b:List Int):Nat→List Int→List Int→Option (List Int)
  | 0,a,q=>if a.length=0 then some q else none
  | i+1,a,q=>if a.length<b.length+i then Qez b i a q else if Qq a % Qq b=0 then Qez b i (V0 a (Zr (trim (mono i (Qq a / Qq b))) b)) (q.set i (Qq a / Qq b)) else none
def S0 (a b:List Int):Option (List Int):=if b.length=0 then none else (Qez b (a.length+1-b.length) a (List.replicate (a.length+1-b.length) 0)).bind fun q=>chk (trim q)
def Lv:Nat→List Int→List Int→Option (List Int)
  | 0,_,_=>none
  | k+1,a,b=>if b.length=0 then some a else (chk (X2 a b)).bind fun r=>Lv k b r
def S5 (a b:List Int):Option (List Int):=(Lv 66 (Qn a) (Qn b)).map Qn
def Qe1 (a b:List Int):Option (List Int):=(S5 [] a).bind fun g=>S5 g b
def Ve (a:List Int):Option (List Int):=if (Qn a).length<2 then some (Qn a) else (chk (Zi (Qn a))).bind fun d=>(S5 (Qn a) d).bind fun g=>S0 (Qn a) g
def D9:Nat→List Int→Option (List (List Int))
  | 0,_=>none
  | k+1,g=>if g.length<2 then some [] else (chk (Zi g)).bind fun d=>(S5 g d).bind fun h=>(S0 g h).bind fun w=>(D9 k h).bind fun l=>some (w::l)
def Qa4:List (List Int)→Option (List (List Int))
  | []=>some []
  | [w]=>some [w]
  | w::v::l=>(S0 w v).bind fun f=>(Qa4 (v::l)).bind fun r=>some (f::r)
def B9:Nat→List Int→List (List Int)→Option (List Int)
  | _,p,[]=>some p
  | i,p,f::l=>if i % 2=0 then (chk (Zr p f)).bind fun q=>B9 (i+1) q l else B9 (i+1) p l
def Qk0 (a:List Int):Option (List Int):=if (Qn a).length=0 then some [] else (D9 66 (Qn a)).bind fun l=>(Qa4 l).bind fun fs=>B9 0 [1] fs
def chF:Nat→List Int→List Int→Option (List (List Int))
  | 0,_,_=>none
  | k+1,a,b=>if b.length=0 then some [] else (chk (X2 a b)).bind fun r=>(chF k b (Vd r)).bind fun l=>some (b::l)
def Hc (p:List Int):Option (List (List Int)):=(Ve p).bind fun a=>if a.length=0 then none else (chk (Zi a)).bind fun d=>(chF 66 a (Qn d)).bind fun l=>some (a::l)
def Yf (sg:List Int→Int) (s:Nat×Int) (p:List Int):Nat×Int:=if sg p=0 then s else (if s.2=-(sg p) then s.1+1 else s.1,sg p)
def Kc (sg:List Int→Int) (l:List (List Int)):Nat:=(l.foldl (Yf sg) (0,0)).1
def K0 (l:List (List Int)) (q:Rat):Nat:=Kc (fun p=>Zw p q) l
def Jc (l:List (List Int)) (lo hi:Rat):Int:=if Zo hi lo<0 then 0 else (K0 l lo:Int)-(K0 l hi:Int)
def Bk (p:List Int):Int:=Int.sign (Qq p)
def Th (p:List Int):Int:=if p.length % 2=0 then -Int.sign (Qq p) else Int.sign (Qq p)
def S9 (l:List (List Int)):Int:=(Kc Th l:Int)-(Kc Bk l:Int)
def most:List Int→Nat:=fun l=>l.foldl (fun m z=>if m<z.natAbs then z.natAbs else m) 0
def Zu (p:List Int):Rat:=Rat.divInt (((Qq p).natAbs:Int)+(most (p.take (p.length-1)):Int)) ((Qq p).natAbs:Int)
def mid (a b:Rat):Rat:=Rat.divInt (a.num*(b.den:Int)+b.num*(a.den:Int)) ((a.den:Int)*(b.den:Int)*2)
def Fo (p:List Int) (c:List (List Int)):Nat→Rat→Rat→Int→Option (List Tm)
  | 0,_,_,_=>none
  | k+1,lo,hi,n=>if n=0 then some [] else if n=1 then some [⟨p,lo,hi⟩] else (chq (mid lo hi)).bind fun m=>(Fo p c k lo m (Jc c lo m)).bind fun l=>(Fo p c k m hi (n-Jc c lo m)).bind fun r=>some (l++r)
def Qam (p:List Int):Option (List Tm):=(Hc p).bind fun c=>(Ve p).bind fun q=>(chq (Zu q)).bind fun b=>Fo q c 100000 (-b) b (S9 c)
def Tm.point (a:Tm):Bool:=decide (0≤Zo a.lo a.hi)
def low (p:List Int) (q:Rat):Int:=if Zw p q≠0 then Zw p q else Zw (Zi p) q
def Bs (p:List Int) (lo hi:Rat):Bool:=decide (Zw p hi=0∨Zw p hi≠low p lo)
def Qt (a:Tm) (t:Rat):Int :=
  if a.point=true then Zo a.lo t else if Zo t a.lo≤0 then 1 else if 0<Zo t a.hi then -1 else if Zw a.p t=0 then 0 else if Zw a.p t=low a.p a.lo then 1 else -1
def Qea (a:Tm):Option Tm:=if a.point=true then some a else (chq (mid a.lo a.hi)).bind fun m =>
  some (if Qt a m=0 then ⟨a.p,m,m⟩ else if Qt a m=-1 then ⟨a.p,a.lo,m⟩ else ⟨a.p,m,a.hi⟩)
def Zl (p:List Int):Nat:=p.foldl (fun n z=>max n (Qm z)) 0
def Yl (a b:Tm):Nat:=64+2*(Qm a.lo.num+Qm a.hi.num+Qm b.lo.num+Qm b.hi.num)+4*(a.p.length+b.p.length)*(Zl a.p+Zl b.p+(a.p.length+b.p.length)+8)
def Qap (a b:Rat):Rat:=Rat.divInt (a.num*(b.den:Int)-b.num*(a.den:Int)) ((a.den:Int)*(b.den:Int))
def K9 (a b:Tm):Bool:=decide (Zo a.hi b.lo≤0∧¬((a.point=true∧b.point=true)∧Zo a.hi b.lo=0))
def apF:Nat→Tm→Tm→Option (Tm×Tm×Int)
  | 0,a,b=>some (a,b,0)
  |
   k+1,a,b=>if K9 a b=true then some (a,b,-1) else if K9 b a=true then some (a,b,1) else
   if 0≤Zo (Qap a.hi a.lo) (Qap b.hi b.lo) then (Qea a).bind fun x=>apF k x b else (Qea b).bind fun x=>apF k a x
def Iv (a b:Tm):Option Int:=if a.point=true then some (-Qt b a.lo) else if b.point=true then some (Qt a b.lo) else
  let lo:=if 0<Zo b.lo a.lo then b.lo else a.lo
  let hi:=if Zo b.hi a.hi<0 then b.hi else a.hi
  if Zo lo hi<0 then (Qe1 a.p b.p).bind fun g=>if 1<g.length∧Bs g lo hi=true then some 0 else (apF (Yl a b) a b).bind fun r=>some r.2.2
  else (apF (Yl a b) a b).bind fun r=>some r.2.2
def sgF (c:List (List Int)):Nat→Tm→Option Tm
  | 0,a=>some a
  | k+1,a=>if a.point=true∨Jc c a.lo a.hi=0 then some a else (Qea a).bind fun x=>sgF c k x
def Qc4 (p:List Int) (a:Tm):Option Int:=if p.length=0 then some 0 else if a.point=true then some (Zw p a.lo) else
  (Qe1 p a.p).bind fun g=>if 1<g.length∧Bs g a.lo a.hi=true then some 0 else (Hc p).bind fun c=>(sgF c (64+2*(Qm a.lo.num+Qm a.hi.num)+4*(a.p.length+p.length)*(Zl a.p+Zl p+(a.p.length+p.length)+8)) a).bind fun x=>some (Zw p x.hi)
def Rq:Tm→List Tm→Option Tm
  | b,[]=>some b
  | b,a::l=>(Iv a b).bind fun c=>Rq (if c<0 then a else b) l
def Mt (a:Tm):List Tm→Option (Option Tm)
  | []=>some none
  | r::l=>(Iv r a).bind fun c=>if 0<c then some (some r) else Mt a l
def Nq (p:List Int):Option (List Tm):=(Qk0 p).bind fun q=>if q.length=0 then some [] else Qam q
def El (p:List Int) (a:Tm):Option (Option Tm):=(Nq p).bind fun l=>Mt a l
end Orr

namespace Orr
open Go Go.Proofs
set_option maxRecDepth 10000
theorem Uv {p:List Int} (tp:Qj p) (h:p.length≠0):Qq p≠0:=Xd tp (by omega)
theorem O4 {p:List Int} (h:p.length≠0):Qq p∈p:=List.mem_of_getElem? (Xj (by omega))
theorem Vp {s:Nat} {p:List Int} (h:Bd s p):Qm (Qq p)≤s:=Qp h _
theorem U4 {p:List Int}:∀ z∈p,J4 p∣z:=Sf
theorem Sw {p:List Int} (tp:Qj p) (h:p.length≠0):J4 p≠0:=fun h0=>Uv tp h (Int.zero_dvd.1 (h0 ▸ U4 _ (O4 h)))
theorem P3 {p:List Int} (h:Bd 4294967295 p):Qm (J4 p)≤4294967295:=Ap h
theorem Qot {p:List Int} (tp:Qj p) (h:p.length≠0):Zz p≠0:=by
  have:=Sw tp h
  unfold Zz; split <;> omega
theorem Cd {p:List Int}:∀ z∈p,Zz p∣z:=fun z hz=>by
  unfold Zz; split
  · exact Int.neg_dvd.2 (U4 z hz)
  · exact U4 z hz
theorem Qv0 {p:List Int} (h:Bd 4294967295 p):Qm (Zz p)≤4294967295:=by
  unfold Zz; split
  · rw [Z3]; exact P3 h
  · exact P3 h
theorem Ie {s:Nat} {p:List Int} (h:Bd s p) (c:Int):Bd s (Wb p c):=Jj (Dh h c)
theorem Qce (p:List Int) (c:Int):(Wb p c).length≤p.length:=Nat.le_trans (Xc _) (by simp)
theorem Ta (p:List Int) (c:Int):Qj (Wb p c):=Xp _
theorem Qwx {p:List Int} (h:Pb p) (c:Int):Pb (Wb p c):=⟨Ta _ _,Nat.le_trans (Qce _ _) h.l,Ie h.b c⟩
theorem Lk:Pb []:=⟨rfl,by simp,Tp⟩
theorem Xx {p:List Int} (h:Pb p):Pb (Qn p):=by
  unfold Qn; split
  · exact Lk
  · exact Qwx h _
theorem Pb.bd {p:List Int} (h:Pb p):Bd 4294967295 p:=Qd h.b (by omega)
theorem Pb.ln {p:List Int} (h:Pb p):p.length<274877906944:=Nat.lt_of_le_of_lt h.l (by omega)
theorem Pb.ln' {p:List Int} (h:Pb p):p.length<8589934592:=Nat.lt_of_le_of_lt h.l (by omega)
theorem Rf {p q:List Int} (tp:Qj p) (h:chk p=some q):q=p∧Pb p:=by
  unfold chk at h
  split at h
  · rename_i hc
    injection h with h
    refine ⟨h.symm,tp,hc.1,fun z hz=>?_⟩
    have:=List.all_eq_true.1 hc.2 z hz
    exact Nat.le_of_ble_eq_true this
  · cases h
theorem Qmt {p:List Int} {g:Int} (hl:p.length<274877906944) (hp:Bd 4294967295 p) (hg:Qm g≤4294967295) (h0:g≠0) (hd:∀ z∈p,g∣z):Qc Tryz.prog 296 [pr p,.agg (Zv g)] [pr (Wb p g)]:=by
  refine Z1 Tryz.func296 rfl ?_
  refine go tt [.r 9 (eI (b:=(p.length:Int)) (by simp)),.i p.length,.i p.length,.r 12 (eI (b:=(p.length:Int)) (by simp))] rfl (by simp [Qa]; omega) ?_
  rw [Ff fun k=>Zv (p.getD k 0 / g)]
  refine lp (S:=Nat) 2 (fun L1 k=>(13,.v (.one (.int .i64 (k:Int))))::L1) (fun k=>[.blk 29 (Zv g),.row false 29 2 (fil (fun k=>Zv (p.getD k 0 / g)) [.bool false,.nils] p.length k)]) (fun k=>p.length-k) (fun k=>k≤p.length) 0 (Nat.zero_le _) rfl (fun _ _=>rfl) rfl fun k hk=>?_
  by_cases hlt:k<p.length
  · have hg2:=Xj hlt
    refine go tt [.t (by simp; omega),.x (J7 hg2),.c [] (Fx (Qf _) (Qf _) (Qp hp k) hg h0 (Int.emod_eq_zero_of_dvd (hd _ (List.mem_of_getElem? hg2)))),.i k] rfl (by simp [Qa,Gg]; omega) ?_
    have e:=Rm (fun k=>Zv (p.getD k 0 / g)) [.bool false,.nils] hlt
    rw [e]
    exact rd (k+1) (by omega) hlt rfl
  · obtain rfl:k=p.length:=by omega
    have e:fil (fun k=>Zv (p.getD k 0 / g)) [.bool false,.nils] p.length p.length=(p.map (· / g)).map Zv:=by
      rw [Rl]
      refine List.ext_getElem? fun i=>?_
      by_cases hi:i<p.length
      · simp [List.getElem?_range hi,List.getD,List.getElem?_eq_getElem hi]
      · simp [List.getElem?_eq_none,hi]
    rw [e]
    exact en tt [.f (by simp),.c [] (Us (Xb (p.map (· / g))) (by simp; exact hl) (Dh hp g))] rfl rfl trivial
theorem Dm {p:List Int} (hl:p.length<8589934592) (hp:Bd 4294967295 p):Qc Tryz.prog 297 [.one (.row [[pl p]])] [.agg (Zv (J4 p))]:=by
  refine Z1 Tryz.func297 rfl ?_
  refine go tt [.o 3 29 2] rfl trivial ?_
  refine lp (S:=Nat) 2 (fun L1 i=>(8,.v (.one (.int .i64 (i:Int))))::(3,.v (.one (.orow 1 2 none)))::L1) (fun i=>[.blk 29 [.bool false,.nils],.row false 29 2 (if i=0 then [] else p.map Zv)]) (fun i=>1-i) (fun i=>i≤1) 0 (Nat.zero_le _) rfl (fun _ _=>rfl) rfl fun i hi=>?_
  rcases (show i=0∨i=1 by omega) with rfl | rfl
  · refine go tt [.t rfl,.x (i:=0) (xs:=[pl p]) rfl,.s (Qae p)] rfl (by simp [Qa]; omega) ?_
    exact rd 1 (by omega) (by omega) rfl
  · exact en tt [.f rfl,.c [] (Qsu (Xb p) hp)] rfl rfl trivial
theorem Qtx {p:List Int} (tp:Qj p) (hl':p.length<8589934592) (hp:Bd 4294967295 p):Qc Tryz.prog 271 [pr p] [.agg (Zv (if p.length=0 then 0 else Zz p)),pr (Qn p)]:=by
  have hl:p.length<274877906944:=by omega
  have cn:=Xv tp hl hp
  by_cases h0:p.length=0
  · have e:p=[]:=List.eq_nil_of_length_eq_zero h0
    subst e
    exact w tt Tryz.func271 rfl [.c [] cn,.t rfl] rfl (by simp [Fm,Qn]; rfl) trivial
  · have hpf:Qn p=Wb p (Zz p):=by unfold Qn; rw [if_neg h0]
    rw [if_neg h0,hpf]
    have co:=Qmt hl hp (Qv0 hp) (Qot tp h0) Cd
    by_cases hneg:Qq p<0
    · have e:Zz p=-J4 p:=by unfold Zz; rw [if_pos hneg]
      rw [e] at co ⊢
      exact w tt Tryz.func271 rfl [.c [] cn,.f (by simpa using h0),.c [] (Dm hl' hp),.c [] (Wv tp hl hp),.t (by simpa [Qq] using hneg),.c [] (Ii (Qf _) (P3 hp)),.c [] co] rfl rfl trivial
    · have e:Zz p=J4 p:=by unfold Zz; rw [if_neg hneg]
      rw [e] at co ⊢
      exact w tt Tryz.func271 rfl [.c [] cn,.f (by simpa using h0),.c [] (Dm hl' hp),.c [] (Wv tp hl hp),.f (by simpa [Qq] using hneg),.c [] co] rfl rfl trivial
theorem Fz {p:List Int} (hp:Pb p):Qc Tryz.prog 264 [pr p] [pr (Qn p)] :=
  w tt Tryz.func264 rfl [.c [] (Qtx hp.t hp.ln' hp.bd)] rfl rfl trivial
theorem V4 (p:List Int):Qc Tryz.prog 158 [pr p] [.one (.int .i64 ((p.length:Int)-1))]:=by
  have h:Qc Tryz.prog 158 [pr p] [.one (.int .i64 (((p.map Zv).length:Int)-1))]:=Z1 Tryz.func158 rfl (ln 0 rfl rfl fun hl=>en tt [] rfl rfl (by simp [Qa] at hl ⊢; omega))
  rw [List.length_map] at h; exact h
theorem Hn (i:Nat) (x:Int):(mono i x).length=i+1:=by simp [mono]
theorem Ic {s i:Nat} {x:Int} (h:Qm x≤s):Bd s (mono i x):=fun z hz=>by
  simp only [mono,List.mem_append,List.mem_singleton] at hz
  rcases hz with hz | rfl
  · rw [(List.mem_replicate.1 hz).2,Vq]; exact Nat.zero_le _
  · exact h
def stq (c:Int) (i:Nat) (x:Int) (q:List Int):List Int:=Ca (Qx q c) (mono i x)
def str (b:List Int) (c:Int) (i:Nat) (x:Int) (r:List Int):List Int:=V0 (Qx r c) (Zr (trim (mono i x)) b)
theorem Q41 {u t i:Nat} {c x:Int} {q:List Int} (hq:Bd u q) (hc:Qm c≤t) (hx:Qm x≤u):Bd (u+t+8) (stq c i x q) :=
  Qd (Qzs (Zk hq hc) (Ic hx)) (by omega)
theorem Q1m {c x:Int} {i:Nat} {q:List Int}:(stq c i x q).length≤max q.length (i+1):=by
  have h:=Qv5 (Qx q c) (mono i x)
  have h1:=Q7 q c
  rw [Hn] at h
  unfold stq; omega
theorem Qej {i:Nat} {x:Int} {b:List Int}:(Zr (trim (mono i x)) b).length≤i+b.length:=by
  have h:=Qv6 (trim (mono i x)) b
  have h1:=Xc (mono i x)
  rw [Hn] at h1; omega
theorem Qmg {u t i:Nat} {x:Int} {b:List Int} (hb:Bd t b) (hx:Qm x≤u) (hi:i≤64):Bd (u+t+7) (Zr (trim (mono i x)) b) :=
  Qzt (Jj (Ic hx)) hb (Nat.lt_of_le_of_lt (Xc _) (by rw [Hn]; omega))
theorem Qjg {u t i:Nat} {c x:Int} {b r:List Int} (hr:Bd u r) (hb:Bd t b) (hc:Qm c≤t) (hx:Qm x≤u) (hi:i≤64):Bd (u+t+8) (str b c i x r) :=
  Qd (Pq (Zk hr hc) (Qmg hb hx hi)) (by omega)
theorem Qek {c x:Int} {i:Nat} {b r:List Int}:(str b c i x r).length≤max r.length (i+b.length):=by
  have h:=Hl (Qx r c) (Zr (trim (mono i x)) b)
  have h1:=Q7 r c
  have h2:=Qej (i:=i) (x:=x) (b:=b)
  unfold str; omega
theorem Qhw (i:Nat) (x:Int):((List.replicate (i+1) (0:Int)).map Zv).set i (Zv x)=(mono i x).map Zv:=by
  rw [Qky,mono]
  congr 1
  refine List.ext_getElem? fun j=>?_
  simp only [List.getElem?_set,List.getElem?_append,List.getElem?_replicate,List.length_replicate]
  by_cases h:j=i
  · subst h; simp
  · rw [if_neg (by omega)]
    by_cases h2:j<i
    · simp [h2]; omega
    · rw [if_neg (by omega),if_neg h2]
      cases hj:j-i with
      | zero=>omega
      | succ m=>simp
theorem Qoh (i:Nat) {x:Int} {y:List LV} (h:y.map E4=Zv x):(((List.replicate (i+1) [LV.bool false,LV.nils]).set i y).map fun c=>c.map E4)=(mono i x).map Zv:=by
  rw [List.map_set,A0,h]; exact Qhw i x
theorem S4 {b:List Int} {c:Int} {i:Nat} {q r:List Int} {x:Int} (hx:x=if r.length=b.length+i then Qq r else 0):psd b c (i+1) (q,r)=psd b c i (stq c i x q,str b c i x r):=by
  subst hx; rfl
theorem Qs6 {a b:List Int} (ha:Pb a) (hb:Pb b) (h0:b.length≠0):Qc Tryz.prog 294 [pr a,pr b] [pr (psd b (Qq b) (a.length+1-b.length) ([],a)).1,pr (Ys a b),.one (.int .i64 ((a.length+1-b.length:Nat):Int)),.one (.int .i64 0)]:=by
  have hal:=ha.l
  have hbl:=hb.l
  have hlb:Qm (Qq b)≤16777216:=Vp hb.b
  obtain ⟨c,hc⟩:∃ c,c=Qq b:=⟨_,rfl⟩
  have cl:=Wv hb.t hb.ln hb.bd
  rw [show b.getD (b.length-1) 0=c from hc.symm] at cl
  obtain ⟨k,hk⟩:∃ k,k=a.length+1-b.length:=⟨_,rfl⟩
  unfold Ys
  rw [←hc,←hk]
  rw [←hc] at hlb
  refine Z1 Tryz.func294 rfl ?_
  refine go tt [.z 4,.c [] (Xv ha.t ha.ln ha.bd),.c [] (Xv hb.t hb.ln hb.bd),.f (by simpa using h0),.c [] cl,.c [] (V4 a),.c [] (V4 b),.r 27 (eI (b:=(k:Int)) (by omega))] rfl (by simp [Qa]; omega) ?_
  refine lp (S:=Nat×List Int×List Int) 1 (fun L1 s=>(4,.v (pr s.2.1))::(5,.v (pr s.2.2))::(9,.v (.one (.int .i64 ((s.1:Int)-1))))::L1) (fun _=>[.blk 29 (Zv c)]) (fun s=>s.1) (fun s=>s.1≤k∧Qj s.2.2∧s.2.1.length≤66∧s.2.2.length≤a.length∧Bd (16777216+(k-s.1)*16777224) s.2.1∧Bd (16777216+(k-s.1)*16777224) s.2.2∧psd b c s.1 s.2=psd b c k ([],a)) (k,[],a) ⟨Nat.le_refl _,ha.t,by simp,Nat.le_refl _,Tp,by simpa using ha.b,rfl⟩ rfl (fun _ _=>rfl) rfl fun ⟨i,q,r⟩ ⟨j1,j2,j3,j4,j5,j6,j7⟩=>?_
  dsimp only at j1 j2 j3 j4 j5 j6 j7 ⊢
  rw [←j7]
  cases i with
  | zero=>exact en tt [.f (by simp)] rfl rfl trivial
  |
   succ i =>
   obtain ⟨x,hx⟩:∃ x,x=if r.length=b.length+i then Qq r else 0:=⟨_,rfl⟩
   obtain ⟨u,hu⟩:∃ u,u=16777216+(k-(i+1))*16777224:=⟨_,rfl⟩
   rw [←hu] at j5 j6
   have hub:u≤1107296256:=by
     have:(k-(i+1))*16777224≤64*16777224:=Nat.mul_le_mul_right _ (by omega)
     omega
   have hxs:Qm x≤u:=by
     rw [hx]; split
     · exact Vp j6
     · rw [Vq]; exact Nat.zero_le _
   have cs:=Ha (p:=q) (c:=c) (by omega) (Qd j5 (by omega)) (by omega)
   have cs2:=Ha (p:=r) (c:=c) (by omega) (Qd j6 (by omega)) (by omega)
   have l1:=Q7 q c
   have l2:=Q7 r c
   have ca:=Q5c (p:=Qx q c) (q:=mono i x) (by omega) (by rw [Hn]; omega) (Qd (Zk j5 hlb) (by omega)) (Qd (Ic hxs) (by omega))
   have cm:=Qdk (p0:=mono i x) hb.t (by rw [Hn]; omega) (by omega) (Ic hxs) hb.b (by omega)
   have l3:=Qej (i:=i) (x:=x) (b:=b)
   have cb:=Qdl (p:=Qx r c) (q:=Zr (trim (mono i x)) b) (by omega) (by omega) (Qd (Zk j6 hlb) (by omega)) (Qd (Qmg hb.b hxs (by omega)) (by omega))
   have hst:=S4 (b:=b) (c:=c) (q:=q) hx
   have hI:i≤k∧Qj (str b c i x r)∧(stq c i x q).length≤66∧(str b c i x r).length≤a.length∧Bd (16777216+(k-i)*16777224) (stq c i x q)∧Bd (16777216+(k-i)*16777224) (str b c i x r):=by
     have l5:=Q1m (c:=c) (x:=x) (i:=i) (q:=q)
     have l6:=Qek (c:=c) (x:=x) (i:=i) (b:=b) (r:=r)
     have hku:u+16777216+8=16777216+(k-i)*16777224:=by
       rw [hu,show k-i=(k-(i+1))+1 from by omega,Nat.add_mul]; omega
     refine ⟨by omega,Q9 _ _,by omega,by omega,?_,?_⟩
     · rw [←hku]; exact Q41 j5 hlb hxs
     · rw [←hku]; exact Qjg j6 hb.b hlb hxs (by omega)
   rw [hst]
   by_cases h:r.length=b.length+i
   · refine go tt [.t (by simp <;> omega),.c [] (V4 r),.c [] (V4 b),.t (by simp; omega),.c [] (Wv j2 (by omega) (Qd j6 (by omega))),.r 44 (eI (b:=((i+1:Nat):Int)) (by omega)),.i (i+1),.i (i+1),.r 47 (eI (b:=(i:Int)) (by omega)),.i i] rfl (by simp [Qa]; omega) ?_
     refine nl 2 rfl rfl rfl ?_
     rw [Qoh i (x:=x) (by rw [hx,if_pos h]; rfl)]
     refine go tt [.c [] cs,.c [] ca,.c [] cs2,.c [] cm,.c [] cb,.r 33 (eI (b:=(i:Int)-1) (by omega))] rfl (by simp [Qa]; omega) ?_
     exact rd (i,stq c i x q,str b c i x r) (by dsimp only; omega) ⟨hI.1,hI.2.1,hI.2.2.1,hI.2.2.2.1,hI.2.2.2.2.1,hI.2.2.2.2.2,rfl⟩ rfl
   · refine go tt [.t (by simp <;> omega),.c [] (V4 r),.c [] (V4 b),.f (by simp; omega),.r 44 (eI (b:=((i+1:Nat):Int)) (by omega)),.i (i+1),.i (i+1),.r 47 (eI (b:=(i:Int)) (by omega)),.i i] rfl (by simp [Qa]; omega) ?_
     refine nl 2 rfl rfl rfl ?_
     rw [Qoh i (x:=x) (by rw [hx,if_neg h,Fm]; rfl)]
     refine go tt [.c [] cs,.c [] ca,.c [] cs2,.c [] cm,.c [] cb,.r 33 (eI (b:=(i:Int)-1) (by omega))] rfl (by simp [Qa]; omega) ?_
     exact rd (i,stq c i x q,str b c i x r) (by dsimp only; omega) ⟨hI.1,hI.2.1,hI.2.2.1,hI.2.2.2.1,hI.2.2.2.2.1,hI.2.2.2.2.2,rfl⟩ rfl
theorem Qw7 {b:List Int} {c:Int} (hb:Bd 16777216 b) (hc:Qm c≤16777216) {n:Nat}:∀ (i u:Nat) (q r:List Int),i≤64→i+b.length≤n+1→Qj r→r.length≤n→Bd u r→Qj (psd b c i (q,r)).2∧(psd b c i (q,r)).2.length≤n∧Bd (u+i*16777224) (psd b c i (q,r)).2
  | 0,u,q,r,_,_,h1,h2,h3=>⟨h1,h2,by simpa [psd] using h3⟩
  |
   i+1,u,q,r,hi,hn,h1,h2,h3=>by
   rw [S4 rfl]
   have hx:Qm (if r.length=b.length+i then Qq r else 0)≤u:=by
     split
     · exact Vp h3
     · rw [Vq]; exact Nat.zero_le _
   have l6:=Qek (c:=c) (x:=if r.length=b.length+i then Qq r else 0) (i:=i) (b:=b) (r:=r)
   have:=Qw7 hb hc (n:=n) i (u+16777216+8) (stq c i (if r.length=b.length+i then Qq r else 0) q) (str b c i (if r.length=b.length+i then Qq r else 0) r) (by omega) (by omega) (Q9 _ _) (by omega) (Qjg h3 hb hc hx (by omega))
   exact ⟨this.1,this.2.1,Qd this.2.2 (by omega)⟩
theorem Qow {a b:List Int} (ha:Pb a) (hb:Pb b) (h0:b.length≠0):Qj (Ys a b)∧(Ys a b).length≤a.length∧Bd 1107296256 (Ys a b):=by
  have hal:=ha.l
  by_cases h:b.length≤a.length+1
  · obtain ⟨h1,h2,h3⟩:=Qw7 hb.b (Vp hb.b) (n:=a.length) (a.length+1-b.length) 16777216 [] a (by omega) (by omega) ha.t (Nat.le_refl _) ha.b
    refine ⟨h1,h2,Qd h3 ?_⟩
    have:(a.length+1-b.length)*16777224≤64*16777224:=Nat.mul_le_mul_right _ (by omega)
    omega
  · have e:Ys a b=a:=by unfold Ys; rw [show a.length+1-b.length=0 from by omega]; rfl
    rw [e]
    exact ⟨ha.t,Nat.le_refl _,Qd ha.b (by omega)⟩
theorem Ci {a b r:List Int} {s n:Nat} (h1:Qj r) (h2:r.length≤n) (h3:Bd s r):Qj (V9 a b r)∧(V9 a b r).length≤n∧Bd s (V9 a b r):=by
  unfold V9; split
  · exact ⟨Q9 _ _,Nat.le_trans (So r) h2,Ae h3⟩
  · exact ⟨h1,h2,h3⟩
theorem Qag {r:List Int} {s n:Nat} (h2:r.length≤n) (h3:Bd s r):Qj (Mu r)∧(Mu r).length≤n∧Bd s (Mu r):=by
  unfold Mu; split
  · exact ⟨rfl,by simp,Tp⟩
  · exact ⟨Ta _ _,Nat.le_trans (Qce _ _) h2,Ie h3 _⟩
theorem Cf {a b:List Int} (ha:Pb a) (hb:Pb b) (h0:b.length≠0):Qj (X2 a b)∧(X2 a b).length≤a.length∧Bd 1107296256 (X2 a b):=by
  obtain ⟨h1,h2,h3⟩:=Qow ha hb h0
  obtain ⟨h4,h5,h6⟩:=Ci (a:=a) (b:=b) h1 h2 h3
  exact Qag h5 h6
theorem Qs8 {a b:List Int} (ha:Pb a) (hb:Pb b) (h0:b.length≠0):Qc Tryz.prog 265 [pr a,pr b] [pr (X2 a b),.one (.int .i64 0)]:=by
  obtain ⟨h1,h2,h3⟩:=Qow ha hb h0
  obtain ⟨h4,h5,h6⟩:=Ci (a:=a) (b:=b) h1 h2 h3
  have hal:=ha.l
  have cp:=Qs6 ha hb h0
  have cl:=Wv hb.t hb.ln hb.bd
  have cn:=Qs4 (p:=Ys a b) (by omega) (Qd h3 (by omega))
  unfold X2
  obtain ⟨r,hr⟩:∃ r,r=V9 a b (Ys a b):=⟨_,rfl⟩
  have cc:=Dm (p:=r) (by rw [hr]; omega) (by rw [hr]; exact Qd h6 (by omega))
  rw [←hr] at h4 h5 h6 ⊢
  obtain ⟨k,hk⟩:∃ k,k=a.length+1-b.length:=⟨_,rfl⟩
  rw [←hk] at cp
  have em:((k:Int).tmod 2)=((k % 2:Nat):Int):=by rw [Int.tmod_eq_emod_of_nonneg (by omega)]; omega
  have key:Mu r=if r.length=0 then [] else Wb r (J4 r):=rfl
  by_cases hz:r.length=0
  · rw [key,if_pos hz]
    by_cases hodd:k % 2=1
    · by_cases hneg:Qq b<0
      · have e:r=Vd (Ys a b):=by rw [hr]; unfold V9; rw [if_pos ⟨by rw [←hk]; exact hodd,hneg⟩]
        rw [e] at hz
        exact w tt Tryz.func265 rfl [.c [] cp,.f (by simp),.r 22 (eI em),.t (by simp; omega),.c [] cl,.t (by simpa [Qq] using hneg),.c [] cn,.t (by simpa using hz)] rfl rfl (by simp [Qa])
      · have e:r=Ys a b:=by rw [hr]; unfold V9; rw [if_neg (fun h=>hneg h.2)]
        rw [e] at hz
        exact w tt Tryz.func265 rfl [.c [] cp,.f (by simp),.r 22 (eI em),.t (by simp; omega),.c [] cl,.f (by simpa [Qq] using hneg),.t (by simpa using hz)] rfl rfl (by simp [Qa])
    · have e:r=Ys a b:=by rw [hr]; unfold V9; rw [if_neg (fun h=>hodd (by rw [hk]; exact h.1))]
      rw [e] at hz
      exact w tt Tryz.func265 rfl [.c [] cp,.f (by simp),.r 22 (eI em),.f (by simp; omega),.f rfl,.t (by simpa using hz)] rfl rfl (by simp [Qa])
  · rw [key,if_neg hz]
    have cd:=Qmt (p:=r) (g:=J4 r) (by omega) (Qd h6 (by omega)) (P3 (Qd h6 (by omega))) (Sw h4 hz) U4
    by_cases hodd:k % 2=1
    · by_cases hneg:Qq b<0
      · have e:r=Vd (Ys a b):=by rw [hr]; unfold V9; rw [if_pos ⟨by rw [←hk]; exact hodd,hneg⟩]
        rw [e] at hz cc cd ⊢
        exact w tt Tryz.func265 rfl [.c [] cp,.f (by simp),.r 22 (eI em),.t (by simp; omega),.c [] cl,.t (by simpa [Qq] using hneg),.c [] cn,.f (by simpa using hz),.c [] cc,.c [] cd] rfl rfl (by simp [Qa])
      · have e:r=Ys a b:=by rw [hr]; unfold V9; rw [if_neg (fun h=>hneg h.2)]
        rw [e] at hz cc cd ⊢
        exact w tt Tryz.func265 rfl [.c [] cp,.f (by simp),.r 22 (eI em),.t (by simp; omega),.c [] cl,.f (by simpa [Qq] using hneg),.f (by simpa using hz),.c [] cc,.c [] cd] rfl rfl (by simp [Qa])
    · have e:r=Ys a b:=by rw [hr]; unfold V9; rw [if_neg (fun h=>hodd (by rw [hk]; exact h.1))]
      rw [e] at hz cc cd ⊢
      exact w tt Tryz.func265 rfl [.c [] cp,.f (by simp),.r 22 (eI em),.f (by simp; omega),.f rfl,.f (by simpa using hz),.c [] cc,.c [] cd] rfl rfl (by simp [Qa])
end Orr

namespace Orr
open Go Go.Proofs
set_option maxRecDepth 10000
theorem Q1g {s:Nat} {x:Int} (h:Qm x≤s) (g:Int):Qm (x / g)≤s:=Dh (p:=[x]) (fun z hz=>by rw [List.mem_singleton.1 hz]; exact h) g _ (by simp)
def sta (b:List Int) (i:Nat) (x:Int) (a:List Int):List Int:=V0 a (Zr (trim (mono i x)) b)
theorem Q40 {u t i:Nat} {x:Int} {b a:List Int} (ha:Bd u a) (hb:Bd t b) (hx:Qm x≤u) (hi:i≤64):Bd (u+t+8) (sta b i x a) :=
  Qd (Pq ha (Qmg hb hx hi)) (by omega)
theorem Qn7 {x:Int} {i:Nat} {b a:List Int}:(sta b i x a).length≤max a.length (i+b.length):=by
  have h:=Hl a (Zr (trim (mono i x)) b)
  have h2:=Qej (i:=i) (x:=x) (b:=b)
  unfold sta; omega
theorem Qzu (s n:Nat):Bd s (List.replicate n 0):=fun z hz=>by rw [(List.mem_replicate.1 hz).2,Vq]; exact Nat.zero_le _
theorem Q4z {s i:Nat} {l:List Int} {x:Int} (h:Bd s l) (hx:Qm x≤s):Bd s (l.set i x):=fun z hz=>by
  rcases List.mem_or_eq_of_mem_set hz with hz | rfl
  · exact h z hz
  · exact hx
theorem Qs2 {a b q:List Int} (ha:Pb a) (hb:Pb b) (h:S0 a b=some q):Qc Tryz.prog 318 [pr a,pr b] [pr q,.one (.int .i64 0)]:=by
  unfold S0 at h
  split at h
  · cases h
  rename_i h0
  obtain ⟨k,hk⟩:∃ k,k=a.length+1-b.length:=⟨_,rfl⟩
  rw [←hk] at h
  obtain ⟨q',hq,hq2⟩:=Option.bind_eq_some_iff.1 h
  obtain ⟨rfl,hpb⟩:=Rf (Xp _) hq2
  have hal:=ha.l
  have hbl:=hb.l
  refine Z1 Tryz.func318 rfl ?_
  refine go tt [.c [] (Xv ha.t ha.ln ha.bd),.c [] (Xv hb.t hb.ln hb.bd),.f (by simpa using h0),.r 24 (eI (b:=(k:Int)) (by simp; omega)),.i k,.i k,.r 27 (eI (b:=(k:Int)) (by simp))] rfl (by simp [Qa]; omega) ?_
  refine nl 0 rfl rfl rfl ?_
  rw [A0]
  refine lp (S:=Nat×List Int×List Int) 1 (fun L1 s=>(0,.v (pr s.2.1))::(7,.v (.one (.int .i64 ((s.1:Int)-1))))::L1) (fun s=>[.row false 29 2 (s.2.2.map Zv)]) (fun s=>s.1) (fun s=>s.1≤k∧Qj s.2.1∧s.2.1.length≤a.length∧Bd (16777216+(k-s.1)*16777224) s.2.1∧s.2.2.length=k∧Bd 1107296256 s.2.2∧Qez b s.1 s.2.1 s.2.2=some q') (k,a,List.replicate k 0) ⟨Nat.le_refl _,ha.t,Nat.le_refl _,by simpa using ha.b,by simp,Qzu _ _,hq⟩ rfl (fun _ _=>rfl) rfl fun ⟨i,A,Q⟩ ⟨j1,j2,j3,j4,j5,j7,j6⟩=>?_
  dsimp only at j1 j2 j3 j4 j5 j6 j7 ⊢
  cases i with
  |
   zero =>
   simp only [Qez] at j6
   split at j6
   · rename_i hA
     injection j6 with j6; subst j6
     exact en tt [.f (by simp),.f (by simpa using hA),.c [] (Us (Xb Q) (by omega) (Qd j7 (by omega)))] rfl rfl trivial
   · cases j6
  |
   succ i =>
   obtain ⟨u,hu⟩:∃ u,u=16777216+(k-(i+1))*16777224:=⟨_,rfl⟩
   rw [←hu] at j4
   have hub:u≤1107296256:=by
     have:(k-(i+1))*16777224≤64*16777224:=Nat.mul_le_mul_right _ (by omega)
     omega
   have hku:u+16777216+8=16777216+(k-i)*16777224:=by
     rw [hu,show k-i=(k-(i+1))+1 from by omega,Nat.add_mul]; omega
   simp only [Qez] at j6
   by_cases hlt:A.length<b.length+i
   · rw [if_pos hlt] at j6
     refine go tt [.t (by simp <;> omega),.c [] (V4 A),.c [] (V4 b),.t (by simp; omega),.r 32 (eI (b:=(i:Int)-1) (by omega))] rfl (by simp [Qa]; omega) ?_
     exact rd (i,A,Q) (by dsimp only; omega) ⟨by dsimp only; omega,j2,j3,Qd j4 (by dsimp only; omega),j5,j7,j6⟩ rfl
   · rw [if_neg hlt] at j6
     split at j6
     · rename_i hdv
       obtain ⟨x,hx⟩:∃ x,x=Qq A / Qq b:=⟨_,rfl⟩
       rw [←hx] at j6
       have hxs:Qm x≤u:=by rw [hx]; exact Q1g (Vp j4) _
       have ce:=Fx (Qf (Qq A)) (Qf (Qq b)) (Nat.le_trans (Vp j4) (by omega)) (Nat.le_trans (Vp hb.b) (by omega)) (Uv hb.t h0) hdv
       rw [←hx] at ce
       have cm:Qc Tryz.prog 213 [.one (.row ((mono i x).map Zv)),pr b] [pr (Zr (trim (mono i x)) b)]:=Qdk (p0:=mono i x) hb.t (by rw [Hn]; omega) (by omega) (Ic hxs) hb.b (by omega)
       have l3:=Qej (i:=i) (x:=x) (b:=b)
       have l4:=Qn7 (i:=i) (x:=x) (b:=b) (a:=A)
       have cb:=Qdl (p:=A) (q:=Zr (trim (mono i x)) b) (by omega) (by omega) (Qd j4 (by omega)) (Qd (Qmg hb.b hxs (by omega)) (by omega))
       refine go tt [.t (by simp <;> omega),.c [] (V4 A),.c [] (V4 b),.f (by simp; omega),.c [] (Wv j2 (by omega) (Qd j4 (by omega))),.c [] (Wv hb.t hb.ln hb.bd),.c [] ce,.f rfl,.r 51 (eI (b:=(i:Int)) (by omega)),.i i,.r 55 (eI (b:=((i+1:Nat):Int)) (by omega)),.i (i+1),.i (i+1),.r 58 (eI (b:=(i:Int)) (by omega))] rfl (by simp [Qa]; omega) ?_
       refine nl 2 rfl rfl rfl ?_
       rw [A0,Qky]
       rw [←Qhw i x] at cm
       refine go tt [.i i,.c [] cm,.c [] cb,.r 32 (eI (b:=(i:Int)-1) (by omega))] rfl (by simp [Qa]; omega) ?_
       exact rd (i,sta b i x A,Q.set i x) (by dsimp only; omega) ⟨by dsimp only; omega,Q9 _ _,by dsimp only; omega,by dsimp only; rw [←hku]; exact Q40 j4 hb.b hxs (by omega),by simpa using j5,Q4z j7 (Nat.le_trans hxs hub),j6⟩ rfl
     · cases j6
theorem Qkw {a b q:List Int} (h:S0 a b=some q):Pb q:=by
  unfold S0 at h
  split at h
  · cases h
  · obtain ⟨q',_,hq2⟩:=Option.bind_eq_some_iff.1 h
    obtain ⟨rfl,hpb⟩:=Rf (Xp _) hq2
    exact hpb
theorem Qt3 {a b q:List Int} (ha:Pb a) (hb:Pb b) (h:S0 a b=some q):Qc Tryz.prog 298 [pr a,pr b] [pr q] :=
  w tt Tryz.func298 rfl [.c [] (Qs2 ha hb h)] rfl rfl trivial
theorem Qft:∀ {k:Nat} {a b g:List Int},Pb a→Pb b→Lv k a b=some g→Pb g
  | 0,_,_,_,_,_,h=>by cases h
  |
   k+1,a,b,g,ha,hb,h=>by
   simp only [Lv] at h
   split at h
   · injection h with h; subst h; exact ha
   · rename_i h0
     obtain ⟨r,hr,h⟩:=Option.bind_eq_some_iff.1 h
     obtain ⟨rfl,hpb⟩:=Rf (Cf ha hb h0).1 hr
     exact Qft hb hpb h
theorem Qm4 {a b g:List Int} (ha:Pb a) (hb:Pb b) (h:S5 a b=some g):Qc Tryz.prog 225 [pr a,pr b] [pr g]:=by
  unfold S5 at h
  obtain ⟨g',h2,rfl⟩:=Option.map_eq_some_iff.1 h
  have hg:=Qft (Xx ha) (Xx hb) h2
  refine Z1 Tryz.func225 rfl ?_
  refine go tt [.c [] (Fz ha),.c [] (Fz hb)] rfl trivial ?_
  refine lp (S:=Nat×List Int×List Int) 0 (fun L1 s=>(0,.v (pr s.2.1))::(1,.v (pr s.2.2))::L1) (fun _=>[]) (fun s=>s.1) (fun s=>Pb s.2.1∧Pb s.2.2∧Lv s.1 s.2.1 s.2.2=some g') (66,Qn a,Qn b) ⟨Xx ha,Xx hb,h2⟩ rfl (fun _ _=>rfl) rfl fun ⟨k,A,C⟩ ⟨j1,j2,j3⟩=>?_
  dsimp only at j1 j2 j3 ⊢
  cases k with
  | zero=>cases j3
  |
   succ k =>
   simp only [Lv] at j3
   split at j3
   · rename_i h0
     injection j3 with j3; subst j3
     exact en tt [.f (by simpa using h0),.c [] (Fz j1)] rfl rfl trivial
   · rename_i h0
     obtain ⟨r,hr,j3⟩:=Option.bind_eq_some_iff.1 j3
     obtain ⟨rfl,hpb⟩:=Rf (Cf j1 j2 h0).1 hr
     refine go tt [.t (by simp; omega),.c [] (Qs8 j1 j2 h0)] rfl trivial ?_
     exact rd (k,C,X2 A C) (by dsimp only; omega) ⟨j2,hpb,j3⟩ rfl
theorem Lm {a b g:List Int} (ha:Pb a) (hb:Pb b) (h:S5 a b=some g):Pb g:=by
  unfold S5 at h
  obtain ⟨g',h2,rfl⟩:=Option.map_eq_some_iff.1 h
  exact Xx (Qft (Xx ha) (Xx hb) h2)
theorem Qs3 {a b g:List Int} (ha:Pb a) (hb:Pb b) (h:Qe1 a b=some g):Qc Tryz.prog 176 [.one (.row (J1 [a,b]))] [pr g]:=by
  unfold Qe1 at h
  obtain ⟨g1,h1,h2⟩:=Option.bind_eq_some_iff.1 h
  have hg1:=Lm Lk ha h1
  refine Z1 Tryz.func176 rfl ?_
  refine go tt [.z 3] rfl trivial ?_
  refine lp (S:=Nat) 0 (fun L1 i=>(8,.v (.one (.int .i64 (i:Int))))::(3,.v (pr (if i=0 then [] else if i=1 then g1 else g)))::L1) (fun _=>[]) (fun i=>2-i) (fun i=>i≤2) 0 (Nat.zero_le _) rfl (fun _ _=>rfl) rfl fun i hi=>?_
  rcases (show i=0∨i=1∨i=2 by omega) with rfl | rfl | rfl
  · refine go tt [.t rfl,.x (Xo (i:=0) (p:=a) rfl),.c [] (Qm4 Lk ha h1)] rfl (by simp [Qa]) ?_
    exact rd 1 (by omega) (by omega) rfl
  · refine go tt [.t rfl,.x (Xo (i:=1) (p:=b) rfl),.c [] (Qm4 hg1 hb h2)] rfl (by simp [Qa]) ?_
    exact rd 2 (by omega) (by omega) rfl
  · exact en tt [.f rfl] rfl rfl trivial
theorem Qwu {a b g:List Int} (ha:Pb a) (hb:Pb b) (h:Qe1 a b=some g):Pb g:=by
  unfold Qe1 at h
  obtain ⟨g1,h1,h2⟩:=Option.bind_eq_some_iff.1 h
  exact Lm (Lm Lk ha h1) hb h2
theorem Qac {p d:List Int} (h:chk (Zi p)=some d):d=Zi p∧Pb (Zi p):=Rf (Q9 _ _) h
theorem Ij {a g:List Int} (ha:Pb a) (h:Ve a=some g):Qc Tryz.prog 270 [pr a] [pr g]:=by
  have hp:=Xx ha
  unfold Ve at h
  split at h
  · rename_i h0
    injection h with h; subst h
    exact w tt Tryz.func270 rfl [.c [] (Fz ha),.c [] (V4 _),.t (by simp; omega)] rfl rfl trivial
  · rename_i h0
    obtain ⟨d,h1,h⟩:=Option.bind_eq_some_iff.1 h
    obtain ⟨rfl,hd⟩:=Qac h1
    obtain ⟨g1,h1,h⟩:=Option.bind_eq_some_iff.1 h
    exact w tt Tryz.func270 rfl [.c [] (Fz ha),.c [] (V4 _),.f (by simp; omega),.c [] (G9 hp.ln hp.bd),.c [] (Qm4 hp hd h1),.c [] (Qt3 hp (Lm hp hd h1) h)] rfl rfl trivial
theorem Ll {a g:List Int} (ha:Pb a) (h:Ve a=some g):Pb g:=by
  unfold Ve at h
  split at h
  · injection h with h; subst h; exact Xx ha
  · obtain ⟨d,h1,h⟩:=Option.bind_eq_some_iff.1 h
    obtain ⟨g1,h1,h⟩:=Option.bind_eq_some_iff.1 h
    exact Qkw h
theorem Qwv {p:List Int} (h:Pb p):Pb (Vd p):=⟨Q9 _ _,Nat.le_trans (So p) h.l,Ae h.b⟩
theorem Qj3:∀ {k:Nat} {a b:List Int} {l:List (List Int)},Pb a→Pb b→chF k a b=some l→l.length≤k∧∀ p∈l,Pb p
  | 0,_,_,_,_,_,h=>by cases h
  |
   k+1,a,b,l,ha,hb,h=>by
   simp only [chF] at h
   split at h
   · injection h with h; subst h; exact ⟨by simp,fun p hp=>by cases hp⟩
   · rename_i h0
     obtain ⟨r,hr,h⟩:=Option.bind_eq_some_iff.1 h
     obtain ⟨rfl,hpb⟩:=Rf (Cf ha hb h0).1 hr
     obtain ⟨l',h1,h⟩:=Option.bind_eq_some_iff.1 h
     injection h with h; subst h
     obtain ⟨i1,i2⟩:=Qj3 hb (Qwv hpb) h1
     refine ⟨by simp; exact i1,fun p hp=>?_⟩
     rcases List.mem_cons.1 hp with rfl | hp
     · exact hb
     · exact i2 p hp
theorem chain_ok {p:List Int} {l:List (List Int)} (hp:Pb p) (h:Hc p=some l):l.length≤67∧∀ q∈l,Pb q:=by
  unfold Hc at h
  obtain ⟨a,h1,h⟩:=Option.bind_eq_some_iff.1 h
  have ha:=Ll hp h1
  split at h
  · cases h
  · obtain ⟨d,h2,h⟩:=Option.bind_eq_some_iff.1 h
    obtain ⟨rfl,hd⟩:=Qac h2
    obtain ⟨l',h3,h⟩:=Option.bind_eq_some_iff.1 h
    injection h with h; subst h
    obtain ⟨i1,i2⟩:=Qj3 ha (Xx hd) h3
    refine ⟨by simp; omega,fun p hp=>?_⟩
    rcases List.mem_cons.1 hp with rfl | hp
    · exact ha
    · exact i2 p hp
theorem Qaf (l:List (List Int)) (p:List Int):J1 l++[[pl p]]=J1 (l++[p]):=by simp [J1]
theorem U6 (l:List (List Int)):(J1 l).length=l.length:=by simp [J1]
theorem Qta {p:List Int} {l:List (List Int)} (hp:Pb p) (h:Hc p=some l):Qc Tryz.prog 230 [pr p] [.one (.sh [.row (J1 l)]),.one (.int .i64 0)]:=by
  unfold Hc at h
  obtain ⟨a,h1,h⟩:=Option.bind_eq_some_iff.1 h
  have ha:=Ll hp h1
  split at h
  · cases h
  rename_i h0
  obtain ⟨d,h2,h⟩:=Option.bind_eq_some_iff.1 h
  obtain ⟨rfl,hd⟩:=Qac h2
  obtain ⟨l',h3,h⟩:=Option.bind_eq_some_iff.1 h
  injection h with h; subst h
  refine Z1 Tryz.func230 rfl ?_
  refine go tt [.c [] (Ij hp h1),.f (by simpa using h0),.lo,.c [] (G9 ha.ln ha.bd),.c [] (Qtx hd.t hd.ln' hd.bd)] rfl (by simp [Qa]) ?_
  obtain ⟨z,hz⟩:∃ z,z=if (Zi a).length=0 then 0 else Zz (Zi a):=⟨_,rfl⟩
  rw [←hz]
  refine sb [(4,.v (pr a)),(7,.v (pr (Qn (Zi a)))),(5,.v (.one (.ow 1 0)))] [.row false 26 1 [[pl a]],.blk 299 [.orow 0 1 none],.blk 29 (Zv z)] rfl rfl ?_
  have hll:=(Qj3 ha (Xx hd) h3).1
  refine lp (S:=Nat×List (List Int)×List Int×List Int) 3 (fun L1 s=>(4,.v (pr s.2.2.1))::(7,.v (pr s.2.2.2))::L1) (fun s=>[.row false 26 1 (J1 s.2.1),.blk 299 [.orow 0 1 none],.blk 29 (Zv z)]) (fun s=>s.1) (fun s=>Pb s.2.2.1∧Pb s.2.2.2∧∃ m,chF s.1 s.2.2.1 s.2.2.2=some m∧s.2.1++m=a::l') (66,[a],a,Qn (Zi a)) ⟨ha,Xx hd,l',h3,rfl⟩ rfl (fun _ _=>rfl) rfl fun ⟨k,out,A,C⟩ ⟨j1,j2,m,j3,j4⟩=>?_
  dsimp only at j1 j2 j3 j4 ⊢
  have hol:out.length≤67:=by have:=congrArg List.length j4; simp at this; omega
  cases k with
  | zero=>cases j3
  |
   succ k =>
   simp only [chF] at j3
   split at j3
   · rename_i h0
     injection j3 with j3; subst j3
     rw [List.append_nil] at j4
     rw [←j4]
     exact en tt [.f (by simpa using h0)] rfl rfl trivial
   · rename_i h0
     obtain ⟨r,hr,j3⟩:=Option.bind_eq_some_iff.1 j3
     obtain ⟨rfl,hpb⟩:=Rf (Cf j1 j2 h0).1 hr
     obtain ⟨m',j6,j5⟩:=Option.bind_eq_some_iff.1 j3
     injection j5 with j5; subst j5
     refine go tt [.t (by simp; omega),.s (sz:=1) (fun c hc=>by rw [List.mem_singleton.1 hc]; rfl),.c [] (Qs8 j1 j2 h0),.c [] (Qs4 hpb.ln hpb.bd)] rfl (by simp [Qa,U6]; omega) ?_
     exact rd (k,out++[C],C,Vd (X2 A C)) (by dsimp only; omega) ⟨j2,Qwv hpb,m',j6,by rw [←j4]; simp⟩ (by rw [Qaf]; rfl)
end Orr
