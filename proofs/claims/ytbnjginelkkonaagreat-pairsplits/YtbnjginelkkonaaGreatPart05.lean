/- PolyL RatL R2 R4 RefPL CrvL CrowdL PredL CertL Y1 Y2 Q1 C1 C2 D1 E1 AlgL F1 F2 -/
import Derived.Test.YtbnjginelkkonaaGreatPart04
set_option linter.all false

namespace Orr
def Bd (s:Nat) (p:List Int):Prop:=∀ z∈p,Ql z≤s
theorem Vu:Ql 0=0:=rfl
theorem Qud {s:Nat} {p:List Int} (h:Bd s p) {i:Nat} {z:Int} (hz:p[i]? = some z):Ql z≤s:=h z (List.mem_of_getElem? hz)
theorem Qq {s:Nat} {p:List Int} (h:Bd s p) (k:Nat):Ql (p.getD k 0)≤s:=by
  rw [List.getD_eq_getElem?_getD]
  cases hk:p[k]? with
  | none=>rw [Option.getD_none,Vu]; exact Nat.zero_le _
  | some z=>exact Qud h hk
theorem Qc {s t:Nat} {p:List Int} (h:Bd s p) (ht:s≤t):Bd t p:=fun z hz=>Nat.le_trans (h z hz) ht
theorem Sp {s:Nat}:Bd s []:=fun z hz=>by cases hz
theorem Q6k {s:Nat} {n:Nat} {g:Nat→Int} (h:∀ k,k<n→Ql (g k)≤s):Bd s ((List.range n).map g):=fun z hz=>by
  obtain ⟨k,hk,rfl⟩:=List.mem_map.1 hz
  exact h k (List.mem_range.1 hk)
theorem Qkg:∀ (l:List Int),∀ z∈trim l,z∈l
  | [],z,h=>by cases h
  |
   x::l,z,h=>by
   have ih:=Qkg l
   cases hl:trim l with
   |
    nil =>
    simp only [trim,hl] at h
    split at h
    · cases h
    · rw [List.mem_singleton] at h; rw [h]; exact List.mem_cons_self ..
   |
    cons y k =>
    simp only [trim,hl] at h
    rcases List.mem_cons.1 h with rfl | h
    · exact List.mem_cons_self ..
    · exact List.mem_cons_of_mem _ (ih z (by rw [hl]; exact h))
theorem Xl (l:List Int):(trim l).length≤l.length:=by
  induction l with
  | nil=>exact Nat.le_refl _
  |
   cons x l ih =>
   cases hl:trim l with
   | nil=>simp only [trim,hl]; split <;> simp
   | cons y k=>simp only [trim,hl]; rw [hl] at ih; simp at ih ⊢; exact ih
theorem Jo {s:Nat} {p:List Int} (h:Bd s p):Bd s (trim p):=fun z hz=>h z (Qkg p z hz)
theorem Fj:∀ (l:List Int) (k:Nat),(trim l).getD k 0=l.getD k 0
  | [],k=>rfl
  |
   x::l,k=>by
   have ih:=Fj l
   cases hl:trim l with
   |
    nil =>
    rw [hl] at ih
    simp only [trim,hl]
    split
    · rename_i hx
      cases k with
      | zero=>simp [hx]
      | succ k=>have:=ih k; simp at this ⊢; exact this
    · cases k with
      | zero=>simp
      | succ k=>have:=ih k; simp at this ⊢; exact this
   |
    cons y m =>
    rw [hl] at ih
    simp only [trim,hl]
    cases k with
    | zero=>simp
    | succ k=>have:=ih k; simp at this ⊢; exact this
def Vn (n:Nat) (g:Nat→Int):List Int:=trim ((List.range n).map g)
theorem Q9 (n:Nat) (g:Nat→Int):Qj (Vn n g):=Xv _
theorem Hw (n:Nat) (g:Nat→Int):(Vn n g).length≤n:=Nat.le_trans (Xl _) (by simp)
theorem Yj (n:Nat) (g:Nat→Int) (k:Nat):(Vn n g).getD k 0=if k<n then g k else 0:=by
  unfold Vn
  rw [Fj,List.getD_eq_getElem?_getD,List.getElem?_map]
  split
  · rename_i h; rw [List.getElem?_range h]; rfl
  · rename_i h; rw [List.getElem?_eq_none (by simpa using h)]; rfl
theorem Me {s n:Nat} {g:Nat→Int} (h:∀ k,k<n→Ql (g k)≤s):Bd s (Vn n g):=Jo (Q6k h)
def Nc (p q:List Int):List Int:=Vn (max p.length q.length) fun k=>p.getD k 0+q.getD k 0
def Vp (p q:List Int):List Int:=Vn (max p.length q.length) fun k=>p.getD k 0-q.getD k 0
def Vg (p:List Int):List Int:=Vn p.length fun k=>-(p.getD k 0)
def Qx (p:List Int) (c:Int):List Int:=Vn p.length fun k=>p.getD k 0*c
def Zn (p:List Int):List Int:=Vn (p.length-1) fun k=>p.getD (k+1) 0*((k+1:Nat):Int)
theorem A7 {s t:Nat} {p q:List Int} (h:Bd s p) (h':Bd t q):Bd (max s t+1) (Nc p q):=Me fun k _=>Nat.le_trans (Ml _ _) (by have:=Qq h k; have:=Qq h' k; omega)
theorem W3 {s t:Nat} {p q:List Int} (h:Bd s p) (h':Bd t q):Bd (max s t+1) (Vp p q):=Me fun k _=>Nat.le_trans (Qfo _ _) (by have:=Qq h k; have:=Qq h' k; omega)
theorem A9 {s:Nat} {p:List Int} (h:Bd s p):Bd s (Vg p):=Me fun k _=>by rw [Z8]; exact Qq h k
theorem Qz {s t:Nat} {p:List Int} {c:Int} (h:Bd s p) (hc:Ql c≤t):Bd (s+t) (Qx p c):=Me fun k _=>Nat.le_trans (Q3 _ _) (by have:=Qq h k; omega)
theorem Cx (p q:List Int):(Nc p q).length≤max p.length q.length:=Hw _ _
theorem Vv (p q:List Int):(Vp p q).length≤max p.length q.length:=Hw _ _
theorem Pg (p:List Int):(Vg p).length≤p.length:=Hw _ _
theorem Qt (p:List Int) (c:Int):(Qx p c).length≤p.length:=Hw _ _
theorem Yy (p:List Int):(Zn p).length≤p.length-1:=Hw _ _
theorem Qfn {k t:Nat} (h:k<2^t):Ql (k:Int)≤t:=by rw [J3]; simpa using h
theorem Qsv {k:Nat} (h:k<274877906944):Ql (k:Int)≤4294967295:=Nat.le_trans (Qfn (t:=38) (Nat.lt_of_lt_of_eq h (by decide))) (by omega)
theorem A8 {s t:Nat} {p:List Int} (h:Bd s p) (hl:p.length≤2^t):Bd (s+t) (Zn p):=Me fun k hk=>Nat.le_trans (Q3 _ _) (by
  have:=Qq h (k+1)
  have:=Qfn (k:=k+1) (t:=t) (by omega)
  omega)
def H5 (x:Int) (b:List Int) (i:Nat) (o:List Int):Nat→List Int
  | 0=>o
  | k+1=>(H5 x b i o k).set (i+k) ((H5 x b i o k).getD (i+k) 0+x*b.getD k 0)
def Kw (a b o:List Int):Nat→List Int
  | 0=>o
  | i+1=>H5 (a.getD i 0) b i (Kw a b o i) b.length
def Zh (a b:List Int):List Int:=if a.length=0∨b.length=0 then [] else trim (Kw a b (List.replicate (a.length+b.length-1) 0) a.length)
theorem H6 (x:Int) (b:List Int) (i:Nat) (o:List Int) (k:Nat):(H5 x b i o k).length=o.length:=by
  induction k with
  | zero=>rfl
  | succ k ih=>simp [H5,ih]
theorem Kx (a b o:List Int) (i:Nat):(Kw a b o i).length=o.length:=by
  induction i with
  | zero=>rfl
  | succ i ih=>simp [Kw,H6,ih]
theorem Qxe (l:List Int) (i m:Nat) (v:Int) (h:i<l.length):(l.set i v).getD m 0=if m=i then v else l.getD m 0:=by
  rw [List.getD_eq_getElem?_getD,List.getElem?_set,List.getD_eq_getElem?_getD]
  by_cases e:i=m
  · subst e; simp [h]
  · rw [if_neg e,if_neg (fun h=>e h.symm)]
theorem Eh (x:Int) (b:List Int) (i:Nat) (o:List Int) (k m:Nat) (h:i+k≤o.length):(H5 x b i o k).getD m 0=if i≤m∧m<i+k then o.getD m 0+x*b.getD (m-i) 0 else o.getD m 0:=by
  induction k with
  | zero=>simp only [H5]; rw [if_neg (by omega)]
  |
   succ k ih =>
   have ih:=ih (by omega)
   simp only [H5]
   rw [Qxe _ _ _ _ (by rw [H6]; omega)]
   by_cases e:m=i+k
   · subst e
     rw [if_pos rfl,if_pos (by omega),show i+k-i=k from by omega]
     rw [ih,if_neg (by omega)]
   · rw [if_neg e,ih]
     by_cases h1:i≤m∧m<i+k
     · rw [if_pos h1,if_pos (by omega)]
     · rw [if_neg h1,if_neg (by omega)]
theorem Vw {x y:Int} {s t:Nat} (hx:Ql x≤s) (hy:Ql y≤t):(x*y).natAbs≤2^(s+t):=by
  have h:=Nat.le_trans (Q3 x y) (show _≤s+t by omega)
  rw [J3] at h; omega
theorem Qfy {x:Int} {b:List Int} {i:Nat} {o:List Int} {k M:Nat} (h:i+k≤o.length) (ho:∀ m,(o.getD m 0).natAbs≤i*M) (hx:∀ j,(x*b.getD j 0).natAbs≤M) (m:Nat):((H5 x b i o k).getD m 0).natAbs≤(i+1)*M:=by
  rw [Eh x b i o k m h,Nat.succ_mul]
  have h1:=ho m
  split
  · have h2:=hx (m-i)
    generalize i*M=q at *
    omega
  · omega
theorem Qfx {a b o:List Int} {i M:Nat} (h:∀ j,j<i→j+b.length≤o.length) (ho:∀ m,o.getD m 0=0) (hx:∀ i j,(a.getD i 0*b.getD j 0).natAbs≤M) (m:Nat):((Kw a b o i).getD m 0).natAbs≤i*M:=by
  induction i generalizing m with
  | zero=>simp only [Kw]; rw [ho]; simp
  |
   succ i ih =>
   simp only [Kw]
   exact Qfy (by rw [Kx]; exact h i (by omega)) (ih fun j hj=>h j (by omega)) (hx i) m
theorem Hf {z:Int} {i s t:Nat} (h:z.natAbs≤i*2^s) (hi:i<2^t):Ql z≤s+t:=by
  rw [J3]
  have h1:i*2^s<2^t*2^s:=Nat.mul_lt_mul_of_pos_right hi (Nat.pow_pos (by decide))
  rw [←Nat.pow_add,Nat.add_comm t s] at h1
  omega
theorem J1 (n m:Nat):(List.replicate n (0:Int)).getD m 0=0:=by
  rw [List.getD_eq_getElem?_getD,List.getElem?_replicate]; split <;> rfl
theorem Og {s:Nat} {p:List Int} (h:∀ m,Ql (p.getD m 0)≤s):Bd s p:=fun z hz=>by
  obtain ⟨i,hi⟩:=List.mem_iff_getElem?.1 hz
  have:=h i
  rw [List.getD_eq_getElem?_getD,hi] at this
  exact this
theorem Ui (a b:List Int):(Zh a b).length≤a.length+b.length-1:=by
  unfold Zh
  split
  · simp
  · refine Nat.le_trans (Xl _) ?_
    rw [Kx]; simp
theorem Gm {s t u:Nat} {a b:List Int} (ha:Bd s a) (hb:Bd t b) (hl:a.length<2^u):Bd (s+t+u) (Zh a b):=by
  unfold Zh
  split
  · exact Sp
  · refine Jo (Og fun m=>?_)
    exact Hf (Qfx (M:=2^(s+t)) (fun j hj=>by simp; omega) (J1 _) (fun i j=>Vw (Qq ha i) (Qq hb j)) m) hl
theorem Z2 (a b:List Int):Qj (Zh a b):=by
  unfold Zh
  split
  · rfl
  · exact Xv _
def Vk (a:List Int) (n d:Int):Nat→Int×Int
  | 0=>(0,1)
  | k+1=>((Vk a n d k).1*n+a.getD (a.length-1-k) 0*(Vk a n d k).2,(Vk a n d k).2*d)
def Q34 (a:List Int) (n d:Int):Int:=(Vk a n d a.length).1
theorem Qg6 {a:List Int} {n d:Int} {s t k:Nat} (ha:Bd s a) (hn:Ql n≤t) (hd:Ql d≤t):Ql (Vk a n d k).1≤s+2+k*(t+1)∧Ql (Vk a n d k).2≤1+k*t:=by
  induction k with
  | zero=>exact ⟨by simp [Vk,Vu],by simp [Vk]; decide⟩
  |
   succ k ih =>
   obtain ⟨h1,h2⟩:=ih
   have h3:=Qq ha (a.length-1-k)
   have e1:k*(t+1)=k*t+k:=by rw [Nat.mul_add,Nat.mul_one]
   rw [Nat.succ_mul,Nat.succ_mul]
   refine ⟨?_,?_⟩
   · simp only [Vk]
     refine Nat.le_trans (Ml _ _) ?_
     have h4:=Q3 (Vk a n d k).1 n
     have h5:=Q3 (a.getD (a.length-1-k) 0) (Vk a n d k).2
     generalize k*t=q at *
     rw [e1] at h1 ⊢
     omega
   · simp only [Vk]
     have h4:=Q3 (Vk a n d k).2 d
     generalize k*t=q at *
     omega
end Orr
namespace Orr
theorem getD_some {l:List Int} {i:Nat} (h:i<l.length):l[i]? = some (l.getD i 0):=by
  rw [List.getD_eq_getElem?_getD,List.getElem?_eq_getElem h]; rfl
theorem Qoy {x y:Int}:Kl x y=0↔x=y:=by
  unfold Kl
  constructor
  · intro h
    split at h
    · omega
    · split at h <;> omega
  · rintro rfl; simp
theorem Xm {p:List Int} (h:Qj p) (h0:0<p.length):p.getD (p.length-1) 0≠0:=by
  induction p with
  | nil=>simp at h0
  |
   cons x l ih =>
   unfold Qj at h
   cases hl:trim l with
   |
    nil =>
    simp only [trim,hl] at h
    split at h
    · cases h
    · rename_i hx
      injection h with h1 h2
      subst h2
      simpa using hx
   |
    cons y k =>
    simp only [trim,hl] at h
    injection h with h1 h2
    rw [←hl] at h2
    have ih:=ih h2 (by rw [←h2,hl]; simp)
    have h3:0<l.length:=by rw [←h2,hl]; simp
    simp only [List.length_cons,Nat.add_sub_cancel]
    obtain ⟨m,hm⟩:∃ m,l.length=m+1:=⟨l.length-1,by omega⟩
    rw [hm] at ih ⊢
    simpa using ih
end Orr
namespace Orr
theorem Qa7 (p:List Int):(List.range p.length).map (fun k=>p.getD k 0)=p:=by
  apply List.ext_getElem?
  intro i
  rw [List.getElem?_map]
  rcases Nat.lt_or_ge i p.length with h | h
  · rw [List.getElem?_range h]
    simp [List.getElem?_eq_getElem h]
  · rw [List.getElem?_eq_none (by simpa using h),List.getElem?_eq_none h]; rfl
theorem Qai {p q:List Int} (hl:p.length=q.length) (h:∀ j,j<p.length→p.getD j 0=q.getD j 0):p=q:=by
  rw [←Qa7 p,←Qa7 q,←hl]
  exact List.map_congr_left fun j hj=>h j (List.mem_range.1 hj)
end Orr

namespace Orr
abbrev rl (q:Rat):List LV:=[sg q.num,mg q.num,sg (q.den:Int),mg (q.den:Int)]
theorem Kt (n d:Int):Xb [n,d]=Int.gcd d n:=by
  unfold Xb
  simp only [List.foldl_cons,List.foldl_nil,Nat.gcd_zero_left]
  exact Nat.gcd_comm _ _
theorem Qin {n d:Int} (hd:d≠0):(0:Int)<((Xb [n,d]:Nat):Int):=by
  rw [Kt]
  have:=Int.gcd_pos_of_ne_zero_left n hd
  omega
theorem Qas (n d:Int):n % ((Xb [n,d]:Nat):Int)=0:=by
  rw [Kt]; exact Int.emod_eq_zero_of_dvd (Int.gcd_dvd_right ..)
theorem Qat (n d:Int):d % ((Xb [n,d]:Nat):Int)=0:=by
  rw [Kt]; exact Int.emod_eq_zero_of_dvd (Int.gcd_dvd_left ..)
theorem Qp8 {n g:Int} (h:n % g=0):-n % g=0:=by
  exact Int.emod_eq_zero_of_dvd (Int.dvd_neg.2 (Int.dvd_of_emod_eq_zero h))
theorem Qpn {n d:Int} {s:Nat} (hd:d≠0) (h:Ql d≤s):Ql ((Xb [n,d]:Nat):Int)≤s:=by
  rw [Kt]
  refine Nat.le_trans (X6 ?_) h
  have:=Nat.le_of_dvd (by omega:0<d.natAbs) (show Int.gcd d n∣d.natAbs from Nat.gcd_dvd_left _ _)
  simpa using this
theorem Qfu {n d:Int} (hd:0<d):n / ((Xb [n,d]:Nat):Int)=(Rat.divInt n d).num∧d / ((Xb [n,d]:Nat):Int)=((Rat.divInt n d).den:Int):=by
  rw [Kt,Rat.num_divInt,Rat.den_divInt,if_neg (by omega),Int.sign_eq_one_of_pos hd,Int.one_mul]
  refine ⟨rfl,?_⟩
  rw [Int.natCast_ediv,Int.natAbs_of_nonneg (by omega)]
theorem Q3f {n d:Int} (hd:d<0):-n / ((Xb [n,d]:Nat):Int)=(Rat.divInt n d).num∧-d / ((Xb [n,d]:Nat):Int)=((Rat.divInt n d).den:Int):=by
  rw [Kt,Rat.num_divInt,Rat.den_divInt,if_neg (by omega),Int.sign_eq_neg_one_of_neg hd,Int.neg_mul,Int.one_mul]
  refine ⟨rfl,?_⟩
  rw [Int.natCast_ediv,Int.ofNat_natAbs_of_nonpos (by omega)]
theorem Pe (u g:Int):Ql (u / g)≤Ql u:=by
  unfold Ql
  exact X6 (Int.natAbs_ediv_le_natAbs u g)
theorem Qa1 {n d:Int} {s:Nat} (h:Ql n≤s):Ql (Rat.divInt n d).num≤s:=by
  rw [Rat.num_divInt]
  refine Nat.le_trans (Pe _ _) ?_
  unfold Ql
  rw [Int.natAbs_mul]
  refine Nat.le_trans (X6 ?_) h
  have:d.sign.natAbs≤1:=by rcases Gi d with ⟨_,e⟩ | ⟨_,e⟩ | ⟨_,e⟩ <;> rw [e] <;> decide
  calc d.sign.natAbs*n.natAbs≤1*n.natAbs:=Nat.mul_le_mul_right _ this
    _=n.natAbs:=Nat.one_mul _
theorem Qa0 {n d:Int} {s:Nat} (h:Ql d≤s) (h1:1≤s):Ql ((Rat.divInt n d).den:Int)≤s:=by
  rw [Rat.den_divInt]
  split
  · exact h1
  · refine Nat.le_trans (X6 ?_) h
    exact Nat.div_le_self _ _
def Qs (s:Nat) (q:Rat):Prop:=Ql q.num≤s∧Ql (q.den:Int)≤s
theorem Qs.mono {s t:Nat} {q:Rat} (h:Qs s q) (ht:s≤t):Qs t q:=⟨Nat.le_trans h.1 ht,Nat.le_trans h.2 ht⟩
theorem Qs.divInt {s:Nat} {n d:Int} (h:Ql n≤s) (h':Ql d≤s) (h1:1≤s):Qs s (Rat.divInt n d):=⟨Qa1 h,Qa0 h' h1⟩
theorem Wq (q:Rat):(q.den:Int)≠0:=by have:=q.den_nz; omega
theorem den_pos (q:Rat):(0:Int)<(q.den:Int):=by have:=q.den_nz; omega
def Zu (n d:Int):Rat:=Rat.divInt n (if d=0 then 1 else d)
theorem Tq (q:Rat):Zu q.num q.den=q:=by
  unfold Zu
  rw [if_neg (Wq q)]; exact Rat.num_divInt_den q
def Zs (a b:Rat):Int:=Kl (a.num*(b.den:Int)) (b.num*(a.den:Int))
theorem Kq {a b:Rat}:Zs a b<0↔a<b:=by
  rw [Rat.lt_iff]; unfold Zs Kl
  constructor
  · intro h; split at h
    · assumption
    · split at h <;> omega
  · intro h; rw [if_pos h]; decide
theorem W5 {a b:Rat}:0<Zs a b↔b<a:=by
  rw [Rat.lt_iff]; unfold Zs Kl
  constructor
  · intro h; split at h
    · omega
    · split at h
      · assumption
      · omega
  · intro h; rw [if_neg (by omega),if_pos h]; decide
theorem Wp (a:Rat):Zs a a=0:=by unfold Zs Kl; simp
end Orr

namespace Orr
open Go Go.Proofs
set_option maxRecDepth 10000
abbrev fr (q:Rat):List LV:=ri q.num++ri (q.den:Int)
theorem Gw:Q8 1=[1]:=by rw [Tc (by decide)]; rw [Z3]
theorem Vr {n:Int}:Qd Tryz.prog 83 [.agg (ri n),.agg (ri 1)] [.agg (fr (n:Rat))]:=by
  have h0:(Ka (Q8 (1:Int).natAbs))[0]? = some [LV.int .i64 1]:=by rw [show (1:Int).natAbs=1 from rfl,Gw]; rfl
  have h1:decide (((Ka (Q8 (1:Int).natAbs)).length:Int)=1)=true:=by rw [show (1:Int).natAbs=1 from rfl,Gw]; rfl
  exact w tt Tryz.func83 rfl [.c [] (Vz (z:=1)),.f rfl,.f rfl,.g 19 true h1,.x h0,.t rfl] rfl rfl trivial
theorem Np {n:Int} (hn:-4000000000000000000≤n∧n≤4000000000000000000):Qd Tryz.prog 22 [.one (.int .i64 n),.one (.int .i64 1)] [.agg (fr (n:Rat))] :=
  w tt Tryz.func22 rfl [.c [] (Uv hn),.c [] (Uv (n:=1) (by decide)),.c [] Vr] rfl rfl trivial
theorem Qu7 {q:Rat} (hq:Qs 100000000 q):Qd Tryz.prog 21 [.agg (fr q)] [.agg (rl q)] :=
  w tt Tryz.func21 rfl [.c [] (Qu6 hq.1),.c [] (Qu6 hq.2)] rfl rfl trivial
end Orr

namespace Orr
open Go Go.Proofs
set_option maxRecDepth 10000
theorem Q4k {a b:Int} (h:(decide (a<0) == decide (b<0))=true):Qi (decide (a<0)) (a.natAbs+b.natAbs)=a+b:=by
  unfold Qi
  by_cases h1:a<0 <;> by_cases h2:b<0 <;> simp [h1,h2] at h ⊢ <;> omega
theorem Q4n {a b:Int} (h:¬(decide (a<0) == decide (b<0))=true) (hl:b.natAbs≤a.natAbs):Qi (decide (a<0)) (a.natAbs-b.natAbs)=a+b:=by
  unfold Qi
  by_cases h1:a<0 <;> by_cases h2:b<0 <;> simp [h1,h2] at h ⊢ <;> omega
theorem Qzv {a b:Int} (h:¬(decide (a<0) == decide (b<0))=true) (hl:¬b.natAbs≤a.natAbs):Qi (decide (b<0)) (b.natAbs-a.natAbs)=a+b:=by
  unfold Qi
  by_cases h1:a<0 <;> by_cases h2:b<0 <;> simp [h1,h2] at h ⊢ <;> omega
theorem Mx (a:Int):(∃ m:Nat,a=(m:Int))∨∃ m:Nat,a=-(m:Int)∧0<m:=by
  rcases Int.lt_or_le a 0 with h | h
  · exact .inr ⟨a.natAbs,by omega,by omega⟩
  · exact .inl ⟨a.natAbs,by omega⟩
theorem Q4m (a b:Int):Qi (!(decide (a<0) == decide (b<0))) (a.natAbs*b.natAbs)=a*b:=by
  rcases Mx a with ⟨m,rfl⟩ | ⟨m,rfl,hm⟩ <;> rcases Mx b with ⟨n,rfl⟩ | ⟨n,rfl,hn⟩
  · simp [Qi,show ¬((m:Int)<0) by omega,show ¬((n:Int)<0) by omega]
  · simp [Qi,show ¬((m:Int)<0) by omega,show (-(n:Int)<0) by omega,hn,Int.mul_neg]
  · simp [Qi,show (-(m:Int)<0) by omega,show ¬((n:Int)<0) by omega,hm,Int.neg_mul]
  · simp [Qi,show (-(m:Int)<0) by omega,show (-(n:Int)<0) by omega,hm,hn,Int.neg_mul_neg]
theorem Q4l {a b:Int} (h:a % b=0):Qi (!(decide (a<0) == decide (b<0))) (a.natAbs / b.natAbs)=a / b:=by
  by_cases hb:b=0
  · subst hb; simp [Qi]
  obtain ⟨c,rfl⟩:=Int.dvd_of_emod_eq_zero h
  rw [Int.mul_ediv_cancel_left _ hb,Int.natAbs_mul,Nat.mul_div_cancel_left _ (by omega)]
  rcases Mx b with ⟨n,rfl⟩ | ⟨n,rfl,hn⟩ <;> rcases Mx c with ⟨m,rfl⟩ | ⟨m,rfl,hm⟩
  · have:¬((n:Int)*(m:Int)<0):=by rw [←Int.natCast_mul]; omega
    simp [Qi,this,show ¬((n:Int)<0) by omega]
  · have h1:0<n*m:=Nat.mul_pos (by omega) hm
    have:((n:Int)*-(m:Int)<0):=by rw [Int.mul_neg,←Int.natCast_mul]; omega
    simp only [this,show ¬((n:Int)<0) by omega]
    simp [Qi]
  · by_cases h0:m=0
    · subst h0; simp [Qi]
    · have h1:0<n*m:=Nat.mul_pos hn (by omega)
      have:(-(n:Int)*(m:Int)<0):=by rw [Int.neg_mul,←Int.natCast_mul]; omega
      simp only [this,show (-(n:Int)<0) by omega]
      simp [Qi]
  · have:¬(-(n:Int)*-(m:Int)<0):=by rw [Int.neg_mul_neg,←Int.natCast_mul]; omega
    simp only [this,show (-(n:Int)<0) by omega]
    simp [Qi]
theorem Qz1 (a b:Int):Int.sign (a-b)=Kl a b:=by
  unfold Kl
  rcases Int.lt_trichotomy a b with h | h | h
  · rw [if_pos h,Int.sign_eq_neg_one_of_neg (by omega)]
  · rw [if_neg (by omega),if_neg (by omega),h,Int.sub_self]; rfl
  · rw [if_neg (by omega),if_pos h,Int.sign_eq_one_of_pos (by omega)]
theorem Qou {x y:Nat}:0≤Sb x y↔y≤x:=by
  unfold Sb
  constructor
  · intro h; split at h
    · omega
    · omega
  · intro h; split
    · omega
    · split <;> omega
theorem O7 {x e:Nat} (h:(Q8 x).length=1) (he:(Q8 x)[0]? = some e):x=e:=by
  rcases hd:Q8 x with _ | ⟨u,l⟩
  · rw [hd] at h; cases h
  · rcases l with _ | ⟨w,l⟩
    · rw [hd] at he; simp at he
      have:=Xp x
      rw [hd] at this; simp [X9] at this; omega
    · rw [hd] at h; simp at h
theorem Ql0 {a b:Int} (hb:0<b):ri (a / ((Int.gcd a b:Nat):Int))++ri (b / ((Int.gcd a b:Nat):Int))=fr (Rat.divInt a b):=by
  obtain ⟨h1,h2⟩:=Qfu (n:=a) hb
  rw [Kt,Int.gcd_comm] at h1 h2
  rw [h1,h2]
theorem Ql1 (a:Int):ri a++ri 1=fr (Rat.divInt a 1):=by
  have h:=Ql0 (a:=a) (b:=1) (by decide)
  rw [show ((Int.gcd a 1:Nat):Int)=1 by simp] at h
  simpa using h
theorem Qc8 {a b:Int} (hb:b≠0) (ha2:Ql a≤90000000) (hb2:Ql b≤90000000):Ql ((Int.gcd a b:Nat):Int)≤90000000∧((Int.gcd a b:Nat):Int)≠0∧a % ((Int.gcd a b:Nat):Int)=0∧b % ((Int.gcd a b:Nat):Int)=0:=by
  have h1:=Qpn (n:=a) hb hb2
  have h2:=Qin (n:=a) hb
  have h3:=Qas a b
  have h4:=Qat a b
  rw [Kt,Int.gcd_comm] at h1 h2 h3 h4
  exact ⟨h1,by omega,h3,h4⟩
theorem Qdz {a b:Int} (h:b<0):Zu a b=Rat.divInt (-a) (-b):=by
  unfold Zu; rw [if_neg (by omega)]
  exact (Rat.neg_divInt_neg a b).symm
theorem Qd0 {a b:Int} (h:0<b):Zu a b=Rat.divInt a b:=by
  unfold Zu; rw [if_neg (by omega)]
theorem Qro (a b:Rat):Zu (a.num*(b.den:Int)+b.num*(a.den:Int)) ((a.den:Int)*(b.den:Int))=a+b:=by
  unfold Zu
  rw [if_neg (Int.mul_ne_zero (Wq a) (Wq b)),←Rat.divInt_add_divInt _ _ (Wq a) (Wq b),Rat.num_divInt_den,Rat.num_divInt_den]
theorem Qdj (a b:Rat):Zu (a.num*b.num) ((a.den:Int)*(b.den:Int))=a*b:=by
  unfold Zu
  rw [if_neg (Int.mul_ne_zero (Wq a) (Wq b)),←Rat.divInt_mul_divInt,Rat.num_divInt_den,Rat.num_divInt_den]
theorem Qdy {a b:Rat} (h:b≠0):Zu (a.num*(b.den:Int)) ((a.den:Int)*b.num)=a / b:=by
  have hn:b.num≠0:=fun e=>h (Rat.num_eq_zero.1 e)
  unfold Zu
  rw [if_neg (Int.mul_ne_zero (Wq a) hn),←Rat.divInt_mul_divInt,Rat.num_divInt_den,Rat.div_def]
  congr 1
  conv=>rhs; rw [←Rat.num_divInt_den b,Rat.inv_divInt]
theorem Qen {z:Int} (hz:Ql z≤100000000):Qd Tryz.prog 48 [.agg (Zx z)] [.agg (ri z)]:=by
  have hl:(Q4 z.natAbs).length≤1099511627776:=by have h2:32*(Q4 z.natAbs).length≤100000000+31:=X4 hz; omega
  have h:=Q1m (l:=Q4 z.natAbs) (fun u hu=>(Wu _).1 u hu) hl (by rw [Zj]; exact hz)
  rw [Zj] at h
  have hm:=Gp (decide (z<0)) z.natAbs
  have e:Qi (decide (z<0)) z.natAbs=z:=by unfold Qi; by_cases h:z<0 <;> simp [h] <;> omega
  rw [e] at hm
  exact w tt Tryz.func48 rfl [.c [] h,.c [] hm] rfl rfl trivial
theorem Qoh {z:Int}:Qd Tryz.prog 150 [.agg (ri z)] [.one (.int .i64 (Int.sign z))]:=by
  have hn:=Cg (x:=z.natAbs)
  have hl:=Nv z.natAbs
  rcases Int.lt_trichotomy z 0 with h | h | h
  · rw [Int.sign_eq_neg_one_of_neg h]
    exact w tt Tryz.func150 rfl [.f (by simp only [Xx]; exact decide_eq_false (by omega)),.t (decide_eq_true h)] rfl rfl trivial
  · subst h
    exact w tt Tryz.func150 rfl [.t (by simp only [Xx]; show decide (((Q8 0).length:Int)=0)=true; rw [Z3]; rfl)] rfl rfl trivial
  · rw [Int.sign_eq_one_of_pos h]
    exact w tt Tryz.func150 rfl [.f (by simp only [Xx]; exact decide_eq_false (by omega)),.f (decide_eq_false (by omega))] rfl rfl trivial
theorem Qlh {a b:Int} (ha:Ql a≤200000000) (hb:Ql b≤200000000):Qd Tryz.prog 210 [.agg (ri a),.agg (ri b)] [.agg (ri (a+b))]:=by
  by_cases hs:(decide (a<0) == decide (b<0))=true
  · have cm:=Gp (decide (a<0)) (a.natAbs+b.natAbs)
    rw [Q4k hs] at cm
    exact w tt Tryz.func210 rfl [.t hs,.c [] (Q6r ha hb),.c [] cm] rfl rfl trivial
  · have hs':(decide (a<0) == decide (b<0))=false:=by simpa using hs
    by_cases hl:b.natAbs≤a.natAbs
    · have cm:=Gp (decide (a<0)) (a.natAbs-b.natAbs)
      rw [Q4n hs hl] at cm
      exact w tt Tryz.func210 rfl [.f hs',.c [] (Qk7 ha hb),.t (decide_eq_true (Qou.2 hl)),.c [] (Qlg ha hb hl),.c [] cm] rfl rfl trivial
    · have cm:=Gp (decide (b<0)) (b.natAbs-a.natAbs)
      rw [Qzv hs hl] at cm
      exact w tt Tryz.func210 rfl [.f hs',.c [] (Qk7 ha hb),.f (decide_eq_false fun h=>hl (Qou.1 h)),.c [] (Qlg hb ha (by omega)),.c [] cm] rfl rfl trivial
theorem Qvd {a b:Int} (ha:Ql a≤200000000) (hb:Ql b≤200000000):Qd Tryz.prog 151 [.agg (ri a),.agg (ri b)] [.agg (ri (a-b))]:=by
  have ca:=Qlh (a:=a) (b:=-b) ha (by rw [Z8]; exact hb)
  rw [show a+-b=a-b from by omega] at ca
  exact w tt Tryz.func151 rfl [.c [] (Rw (z:=b)),.c [] ca] rfl rfl trivial
theorem Yx {a b:Int} (ha:Ql a≤200000000) (hb:Ql b≤200000000):Qd Tryz.prog 47 [.agg (ri a),.agg (ri b)] [.agg (ri (a*b))]:=by
  have cm:=Gp (!(decide (a<0) == decide (b<0))) (a.natAbs*b.natAbs)
  rw [Q4m] at cm
  exact w tt Tryz.func47 rfl [.c [] (Q6w ha hb),.c [] cm] rfl rfl trivial
theorem Q62 {a b:Int} (ha:Ql a≤200000000) (hb:Ql b≤200000000):Qd Tryz.prog 88 [.agg (ri a),.agg (ri b)] [.one (.int .i64 (Kl a b))]:=by
  have h:=Qoh (z:=a-b)
  rw [Qz1] at h
  exact w tt Tryz.func88 rfl [.c [] (Qvd ha hb),.c [] h] rfl rfl trivial
theorem Lj {a b:Int} (ha:Ql a≤90000000) (hb:Ql b≤90000000) (h0:b≠0) (hd:a % b=0):Qd Tryz.prog 142 [.agg (ri a),.agg (ri b)] [.agg (ri (a / b))]:=by
  have cm:=Gp (!(decide (a<0) == decide (b<0))) (a.natAbs / b.natAbs)
  rw [Q4l hd] at cm
  exact w tt Tryz.func142 rfl [.c [] (Qui ha hb (by omega)),.c [] cm] rfl rfl trivial
theorem Q8j (x:Nat):ri ((x:Nat):Int)=[nd x,.bool false]:=by
  unfold ri sg
  rw [Int.natAbs_natCast,decide_eq_false (by omega)]
theorem Ou {a b:Int} (ha:Ql a≤90000000) (hb:Ql b≤90000000):Qd Tryz.prog 141 [.agg (ri a),.agg (ri b)] [.agg (ri ((Int.gcd a b:Nat):Int))]:=by
  rw [Q8j]
  refine Z7 Tryz.func141 rfl ?_
  refine go tt [] rfl trivial ?_
  refine lp (S:=Nat×Nat) 3 (fun L1 s=>(5,.v (.one (nd s.1)))::(6,.v (.one (nd s.2)))::L1) (fun _=>[.blk 47 (ri a),.blk 47 (ri b),.blk 47 [.nils,.bool false]]) (fun s=>s.2) (fun s=>Nat.gcd s.1 s.2=Int.gcd a b∧sz s.1≤90000000∧sz s.2≤90000000) (a.natAbs,b.natAbs) ⟨rfl,ha,hb⟩ rfl (fun _ _=>rfl) rfl fun s hs=>?_
  obtain ⟨x,y⟩:=s
  obtain ⟨hp0,hp1,hp2⟩:=hs
  dsimp only at hp0 hp1 hp2 ⊢
  have hyn:=Cg (x:=y)
  have hyl:=Nv y
  by_cases h1:y=0
  · have e:Int.gcd a b=x:=by rw [←hp0,h1,Nat.gcd_zero_right]
    rw [e]
    exact en tt [.f (by simp only [Xx]; exact decide_eq_false (by omega))] rfl rfl trivial
  · have hlt:=Nat.mod_lt x (show 0<y by omega)
    refine go tt [.t (by simp only [Xx]; exact decide_eq_true (by omega)),.c [] (Qui hp1 hp2 (by omega))] rfl trivial ?_
    exact rd (y,x % y) (by dsimp only; omega) ⟨by dsimp only; rw [←hp0,Nat.gcd_comm x y,Nat.gcd_rec y x,Nat.gcd_comm],hp2,Nat.le_trans (X6 (by dsimp only; omega)) hp2⟩ rfl
theorem Ca {a b:Int} (ha:Ql a≤90000000) (hb:Ql b≤90000000):Qd Tryz.prog 83 [.agg (ri a),.agg (ri b)] [.agg (fr (Zu a b))]:=by
  rcases Int.lt_trichotomy b 0 with hs | hs | hs
  · skip
    by_cases h1:-b=1
    · have h0:(Ka (Q8 (-b).natAbs))[0]? = some [LV.int .i64 1]:=by rw [h1,show (1:Int).natAbs=1 from rfl,Gw]; rfl
      have hl1:decide (((Ka (Q8 (-b).natAbs)).length:Int)=1)=true:=by rw [h1,show (1:Int).natAbs=1 from rfl,Gw]; rfl
      have e:fr (Zu a b)=ri (-a)++ri (-b):=by rw [Qdz hs,h1]; exact (Ql1 _).symm
      rw [e]
      exact w tt Tryz.func83 rfl [.c [] (Vz (z:=b)),.f (decide_eq_false (by omega)),.t (decide_eq_true hs),.c [] (Rw (z:=a)),.c [] (Rw (z:=b)),.g 19 true hl1,.x h0,.t rfl] rfl rfl trivial
    · have hgf:=Qc8 (a:=-a) (b:=-b) (by omega) (by first | exact ha | (rw [Z8]; exact ha)) (by first | exact hb | (rw [Z8]; exact hb))
      have cg:=Ou (a:=-a) (b:=-b) (by first | exact ha | (rw [Z8]; exact ha)) (by first | exact hb | (rw [Z8]; exact hb))
      have q1:=Lj (a:=-a) (b:=((Int.gcd (-a) (-b):Nat):Int)) (by first | exact ha | (rw [Z8]; exact ha)) hgf.1 hgf.2.1 hgf.2.2.1
      have q2:=Lj (a:=-b) (b:=((Int.gcd (-a) (-b):Nat):Int)) (by first | exact hb | (rw [Z8]; exact hb)) hgf.1 hgf.2.1 hgf.2.2.2
      have e:fr (Zu a b)=ri ((-a) / ((Int.gcd (-a) (-b):Nat):Int))++ri ((-b) / ((Int.gcd (-a) (-b):Nat):Int)):=by rw [Qdz hs]; exact (Ql0 (by omega)).symm
      rw [e]
      have hl:=Nv (-b).natAbs
      by_cases hl1:(Q8 (-b).natAbs).length=1
      · obtain ⟨u,hu⟩:∃ u,(Q8 (-b).natAbs)[0]? = some u:=⟨_,List.getElem?_eq_getElem (by omega)⟩
        have hue:=O7 hl1 hu
        exact w tt Tryz.func83 rfl [.c [] (Vz (z:=b)),.f (decide_eq_false (by omega)),.t (decide_eq_true hs),.c [] (Rw (z:=a)),.c [] (Rw (z:=b)),.g 19 true (by simp only [Xx]; exact decide_eq_true (by omega)),.x (Zk hu),.f (decide_eq_false (by omega)),.c [] cg,.c [] q1,.c [] q2] rfl rfl trivial
      · exact w tt Tryz.func83 rfl [.c [] (Vz (z:=b)),.f (decide_eq_false (by omega)),.t (decide_eq_true hs),.c [] (Rw (z:=a)),.c [] (Rw (z:=b)),.g 19 false (by simp only [Xx]; exact decide_eq_false (by omega)),.f rfl,.c [] cg,.c [] q1,.c [] q2] rfl rfl trivial
  · subst hs
    have h0:(Ka (Q8 (1:Int).natAbs))[0]? = some [LV.int .i64 1]:=by rw [show (1:Int).natAbs=1 from rfl,Gw]; rfl
    have h1:decide (((Ka (Q8 (1:Int).natAbs)).length:Int)=1)=true:=by rw [show (1:Int).natAbs=1 from rfl,Gw]; rfl
    have e:fr (Zu a 0)=ri a++ri 1:=(Ql1 a).symm
    rw [e]
    exact w tt Tryz.func83 rfl [.c [] (Vz (z:=0)),.t rfl,.c [] (Uv (n:=1) (by decide)),.f rfl,.g 19 true h1,.x h0,.t rfl] rfl rfl trivial
  · skip
    by_cases h1:b=1
    · have h0:(Ka (Q8 (b).natAbs))[0]? = some [LV.int .i64 1]:=by rw [h1,show (1:Int).natAbs=1 from rfl,Gw]; rfl
      have hl1:decide (((Ka (Q8 (b).natAbs)).length:Int)=1)=true:=by rw [h1,show (1:Int).natAbs=1 from rfl,Gw]; rfl
      have e:fr (Zu a b)=ri (a)++ri (b):=by rw [Qd0 hs,h1]; exact (Ql1 _).symm
      rw [e]
      exact w tt Tryz.func83 rfl [.c [] (Vz (z:=b)),.f (decide_eq_false (by omega)),.f (decide_eq_false (by omega)),.g 19 true hl1,.x h0,.t rfl] rfl rfl trivial
    · have hgf:=Qc8 (a:=a) (b:=b) (by omega) (by first | exact ha | (rw [Z8]; exact ha)) (by first | exact hb | (rw [Z8]; exact hb))
      have cg:=Ou (a:=a) (b:=b) (by first | exact ha | (rw [Z8]; exact ha)) (by first | exact hb | (rw [Z8]; exact hb))
      have q1:=Lj (a:=a) (b:=((Int.gcd (a) (b):Nat):Int)) (by first | exact ha | (rw [Z8]; exact ha)) hgf.1 hgf.2.1 hgf.2.2.1
      have q2:=Lj (a:=b) (b:=((Int.gcd (a) (b):Nat):Int)) (by first | exact hb | (rw [Z8]; exact hb)) hgf.1 hgf.2.1 hgf.2.2.2
      have e:fr (Zu a b)=ri ((a) / ((Int.gcd (a) (b):Nat):Int))++ri ((b) / ((Int.gcd (a) (b):Nat):Int)):=by rw [Qd0 hs]; exact (Ql0 (by omega)).symm
      rw [e]
      have hl:=Nv (b).natAbs
      by_cases hl1:(Q8 (b).natAbs).length=1
      · obtain ⟨u,hu⟩:∃ u,(Q8 (b).natAbs)[0]? = some u:=⟨_,List.getElem?_eq_getElem (by omega)⟩
        have hue:=O7 hl1 hu
        exact w tt Tryz.func83 rfl [.c [] (Vz (z:=b)),.f (decide_eq_false (by omega)),.f (decide_eq_false (by omega)),.g 19 true (by simp only [Xx]; exact decide_eq_true (by omega)),.x (Zk hu),.f (decide_eq_false (by omega)),.c [] cg,.c [] q1,.c [] q2] rfl rfl trivial
      · exact w tt Tryz.func83 rfl [.c [] (Vz (z:=b)),.f (decide_eq_false (by omega)),.f (decide_eq_false (by omega)),.g 19 false (by simp only [Xx]; exact decide_eq_false (by omega)),.f rfl,.c [] cg,.c [] q1,.c [] q2] rfl rfl trivial
theorem Q9y {n d:Int} (hn:-1000000000≤n∧n≤1000000000) (hd:-1000000000≤d∧d≤1000000000):Qd Tryz.prog 22 [.one (.int .i64 n),.one (.int .i64 d)] [.agg (fr (Zu n d))]:=by
  have b1:Ql n≤90000000:=Nat.le_trans (J3.2 (show n.natAbs<2^40 by omega)) (by decide)
  have b2:Ql d≤90000000:=Nat.le_trans (J3.2 (show d.natAbs<2^40 by omega)) (by decide)
  exact w tt Tryz.func22 rfl [.c [] (Uv (by omega)),.c [] (Uv (by omega)),.c [] (Ca b1 b2)] rfl rfl trivial
theorem Q6y {a:Rat}:Qd Tryz.prog 206 [.agg (fr a)] [.agg (fr (-a))]:=by
  have e:fr (-a)=ri (-a.num)++ri (a.den:Int):=rfl
  rw [e]
  exact w tt Tryz.func206 rfl [.c [] (Rw (z:=a.num))] rfl rfl trivial
theorem Quf {a b:Rat} (ha:Qs 20000000 a) (hb:Qs 20000000 b):Qd Tryz.prog 285 [.agg (fr a),.agg (fr b)] [.agg (fr (a+b))]:=by
  have k1:=Q3 a.num (b.den:Int)
  have k2:=Q3 b.num (a.den:Int)
  have k3:=Q3 (a.den:Int) (b.den:Int)
  have k4:=Ml (a.num*(b.den:Int)) (b.num*(a.den:Int))
  have h1:=ha.1; have h2:=ha.2; have h3:=hb.1; have h4:=hb.2
  have cm:=Ca (a:=a.num*(b.den:Int)+b.num*(a.den:Int)) (b:=(a.den:Int)*(b.den:Int)) (by omega) (by omega)
  rw [Qro] at cm
  exact w tt Tryz.func285 rfl [.c [] (Yx (a:=a.num) (b:=(b.den:Int)) (by omega) (by omega)),.c [] (Yx (a:=b.num) (b:=(a.den:Int)) (by omega) (by omega)),.c [] (Qlh (by omega) (by omega)),.c [] (Yx (a:=(a.den:Int)) (b:=(b.den:Int)) (by omega) (by omega)),.c [] cm] rfl rfl trivial
theorem Quq {a b:Rat} (ha:Qs 40000000 a) (hb:Qs 40000000 b):Qd Tryz.prog 279 [.agg (fr a),.agg (fr b)] [.agg (fr (a*b))]:=by
  have k1:=Q3 a.num b.num
  have k3:=Q3 (a.den:Int) (b.den:Int)
  have h1:=ha.1; have h2:=ha.2; have h3:=hb.1; have h4:=hb.2
  have cm:=Ca (a:=a.num*b.num) (b:=(a.den:Int)*(b.den:Int)) (by omega) (by omega)
  rw [Qdj] at cm
  exact w tt Tryz.func279 rfl [.c [] (Yx (a:=a.num) (b:=b.num) (by omega) (by omega)),.c [] (Yx (a:=(a.den:Int)) (b:=(b.den:Int)) (by omega) (by omega)),.c [] cm] rfl rfl trivial
theorem Qld {a b:Rat} (ha:Qs 40000000 a) (hb:Qs 40000000 b) (h0:b≠0):Qd Tryz.prog 309 [.agg (fr a),.agg (fr b)] [.agg (fr (a / b))]:=by
  have k1:=Q3 a.num (b.den:Int)
  have k3:=Q3 (a.den:Int) b.num
  have h1:=ha.1; have h2:=ha.2; have h3:=hb.1; have h4:=hb.2
  have cm:=Ca (a:=a.num*(b.den:Int)) (b:=(a.den:Int)*b.num) (by omega) (by omega)
  rw [Qdy h0] at cm
  exact w tt Tryz.func309 rfl [.c [] (Yx (a:=a.num) (b:=(b.den:Int)) (by omega) (by omega)),.c [] (Yx (a:=(a.den:Int)) (b:=b.num) (by omega) (by omega)),.c [] cm] rfl rfl trivial
theorem Qew {a b:Rat} (ha:Qs 40000000 a) (hb:Qs 40000000 b):Qd Tryz.prog 33 [.agg (fr a),.agg (fr b)] [.one (.int .i64 (Zs a b))]:=by
  have k1:=Q3 a.num (b.den:Int)
  have k2:=Q3 b.num (a.den:Int)
  have h1:=ha.1; have h2:=ha.2; have h3:=hb.1; have h4:=hb.2
  exact w tt Tryz.func33 rfl [.c [] (Yx (a:=a.num) (b:=(b.den:Int)) (by omega) (by omega)),.c [] (Yx (a:=b.num) (b:=(a.den:Int)) (by omega) (by omega)),.c [] (Q62 (a:=a.num*(b.den:Int)) (b:=b.num*(a.den:Int)) (by omega) (by omega))] rfl rfl trivial
end Orr

namespace Orr
def Wm:List Rat→List Rat
  | []=>[]
  |
   x::l=>match Wm l with
   | []=>if x=0 then [] else [x]
   | y::k=>x::y::k
theorem P4:∀ {l:List Rat},(∀ x∈l,x=0)→Wm l=[]
  | [],_=>rfl
  |
   x::l,h=>by
   have ih:=P4 (l:=l) (fun y hy=>h y (List.mem_cons_of_mem _ hy))
   simp [Wm,ih,h x (List.mem_cons_self ..)]
theorem Qbq:∀ {l:List Rat} {m:Nat} {y:Rat},(∀ j x,m<j→l[j]? = some x→x=0)→l[m]? = some y→y≠0→Wm l=l.take (m+1)
  | [],m,y,_,h,_=>by simp at h
  |
   x::l,0,y,h1,h2,h3=>by
   have h0:Wm l=[]:=P4 fun z hz=>by
     obtain ⟨j,hj⟩:=List.mem_iff_getElem?.1 hz
     exact h1 (j+1) z (by omega) (by simpa using hj)
   simp at h2
   subst h2
   simp [Wm,h0,h3]
  |
   x::l,m+1,y,h1,h2,h3=>by
   have ih:=Qbq (l:=l) (m:=m) (y:=y) (fun j z hj hz=>h1 (j+1) z (by omega) (by simpa using hz)) (by simpa using h2) h3
   cases hl:l with
   | nil=>subst hl; simp at h2
   |
    cons u k =>
    subst hl
    rw [List.take_succ_cons] at ih
    simp only [Wm] at ih ⊢
    rw [ih]
    simp
theorem Et {l:List Rat} {m:Nat} (hm:m≤l.length) (h1:∀ j x,m≤j→l[j]? = some x→x=0) (h2:0<m→∃ y,l[m-1]? = some y∧y≠0):Wm l=l.take m:=by
  rcases Nat.eq_zero_or_pos m with h0 | h0
  · subst h0
    rw [P4 fun z hz=>?_]; rfl
    obtain ⟨j,hj⟩:=List.mem_iff_getElem?.1 hz
    exact h1 j z (by omega) hj
  · obtain ⟨y,hy,hy0⟩:=h2 h0
    have:=Qbq (l:=l) (m:=m-1) (y:=y) (fun j x hj hx=>h1 j x (by omega) hx) hy hy0
    rwa [show m-1+1=m from by omega] at this
theorem Qd7:∀ (l:List Rat),∀ z∈Wm l,z∈l
  | [],z,h=>h
  |
   x::l,z,h=>by
   simp only [Wm] at h
   have ih:=Qd7 l
   split at h
   · split at h
     · cases h
     · simp at h; simp [h]
   · rename_i y k e
     rw [e] at ih
     rcases List.mem_cons.1 h with h | h
     · simp [h]
     · exact List.mem_cons_of_mem _ (ih z h)
theorem Qd6:∀ (l:List Rat),(Wm l).length≤l.length
  | []=>Nat.le_refl _
  |
   x::l=>by
   have ih:=Qd6 l
   simp only [Wm]
   split
   · split <;> simp
   · rename_i y k e
     rw [e] at ih
     simp at ih ⊢; omega
def zp (p:List Int):List Rat:=p.map fun (z:Int)=>(z:Rat)
theorem We:∀ (p:List Int),Wm (zp p)=zp (trim p)
  | []=>rfl
  |
   x::l=>by
   have ih:=We l
   unfold zp at ih ⊢
   simp only [List.map_cons,Wm,trim,ih]
   cases h:trim l with
   |
    nil =>
    simp only [List.map_nil]
    by_cases hx:x=0
    · subst hx; simp
    · have:(x:Rat)≠0:=fun e=>hx (by exact_mod_cast e)
      simp [hx,this]
   | cons y k=>simp
theorem J6 (p:List Int):(zp p).length=p.length:=List.length_map _
theorem Q0z {p:List Int} {i:Nat} {z:Int} (h:p[i]? = some z):(zp p)[i]? = some (z:Rat):=by simp [zp,h]
theorem D8 (p:List Int) (i:Nat):(zp p).getD i 0=((p.getD i 0:Int):Rat):=by
  simp only [List.getD_eq_getElem?_getD,zp,List.getElem?_map]
  cases p[i]? <;> rfl
def Rb (s:Nat) (p:List Rat):Prop:=∀ q∈p,Qs s q
theorem Rb.mono {s t:Nat} {p:List Rat} (h:Rb s p) (ht:s≤t):Rb t p:=fun q hq=>(h q hq).mono ht
theorem Rb.get {s:Nat} {p:List Rat} (h:Rb s p) {i:Nat} {q:Rat} (hq:p[i]? = some q):Qs s q:=h q (List.mem_of_getElem? hq)
theorem Us {s:Nat} {z:Int} (h:Ql z≤s) (h1:1≤s):Qs s (z:Rat):=⟨by simpa using h,Nat.le_trans (show Ql ((1:Nat):Int)≤1 by decide) h1⟩
theorem Sa {s:Nat} {p:List Int} (h:Bd s p) (h1:1≤s):Rb s (zp p):=fun q hq=>by
  obtain ⟨z,hz,rfl⟩:=List.mem_map.1 hq
  exact Us (h z hz) h1
theorem Q38 {s:Nat} (h1:1≤s):Qs s 0:=Us (z:=0) (by simp [Vu]) h1
theorem Rb.getD {s:Nat} {p:List Rat} (h:Rb s p) (h1:1≤s) (i:Nat):Qs s (p.getD i 0):=by
  rw [List.getD_eq_getElem?_getD]
  cases e:p[i]? with
  | none=>exact Q38 h1
  | some q=>exact h.get e
theorem Rb.trim {s:Nat} {p:List Rat} (h:Rb s p):Rb s (Wm p):=fun q hq=>h q (Qd7 p q hq)
def Sf (f:Nat→Rat) (n:Nat):List Rat:=(List.range n).map f
theorem Dv (f:Nat→Rat) (n:Nat):(Sf f n).length=n:=by simp [Sf]
theorem Qec (f:Nat→Rat) (n:Nat):Sf f (n+1)=Sf f n++[f n]:=by simp [Sf,List.range_succ]
theorem Q4v {s n:Nat} {f:Nat→Rat} (h:∀ i,i<n→Qs s (f i)):Rb s (Sf f n):=fun q hq=>by
  obtain ⟨i,hi,rfl⟩:=List.mem_map.1 hq
  exact h i (List.mem_range.1 hi)
theorem Oa {f:Nat→Rat} {g:Nat→Int} (n:Nat) (h:∀ i,i<n→f i=(g i:Rat)):Sf f n=zp ((List.range n).map g):=by
  simp only [Sf,zp,List.map_map]
  exact List.map_congr_left fun i hi=>h i (List.mem_range.1 hi)
def Qtf (p q:List Rat):List Rat:=Wm (Sf (fun i=>p.getD i 0+q.getD i 0) (max p.length q.length))
def Vq (p:List Rat) (c:Rat):List Rat:=Wm (Sf (fun i=>p.getD i 0*c) p.length)
def Qgk (p:List Rat):List Rat:=Vq p (-1)
def Qzm (p q:List Rat):List Rat:=Qtf p (Qgk q)
theorem Qqv (p q:List Int):Qtf (zp p) (zp q)=zp (Nc p q):=by
  unfold Qtf Nc Vn
  rw [Oa (g:=fun k=>p.getD k 0+q.getD k 0) _ fun i _=>by rw [D8,D8,Rat.intCast_add],We,J6,J6]
theorem Qd3 (p:List Int) (c:Int):Vq (zp p) (c:Rat)=zp (Qx p c):=by
  unfold Vq Qx Vn
  rw [Oa (g:=fun k=>p.getD k 0*c) _ fun i _=>by rw [D8,Rat.intCast_mul],We,J6]
theorem Qmt (p:List Int):Qx p (-1)=Vg p:=by
  unfold Qx Vg Vn
  congr 2
  funext k
  omega
theorem Qqy (p:List Int):Qgk (zp p)=zp (Vg p):=by
  rw [←Qmt,←Qd3]; rfl
theorem S0 {p q:List Int} (hp:Qj p) (hq:Qj q) (h:∀ k,p.getD k 0=q.getD k 0):p=q:=by
  have key:∀ {p q:List Int},Qj q→(∀ k,p.getD k 0=q.getD k 0)→q.length≤p.length:=by
    intro p q hq h
    rcases Nat.lt_or_ge p.length q.length with h1 | h1
    · have h2:=Xm hq (by omega)
      rw [←h,List.getD_eq_getElem?_getD,List.getElem?_eq_none (by omega)] at h2
      exact (h2 rfl).elim
    · exact h1
  exact Qai (Nat.le_antisymm (key hp fun k=>(h k).symm) (key hq h)) fun j _=>h j
theorem Qlx {n m:Nat} {f g:Nat→Int} (hn:n≤m) (h:∀ k,k<n→f k=g k) (h0:∀ k,n≤k→k<m→g k=0):Vn n f=Vn m g:=by
  refine S0 (Q9 _ _) (Q9 _ _) fun k=>?_
  rw [Yj,Yj]
  by_cases h1:k<n
  · rw [if_pos h1,if_pos (by omega),h k h1]
  · rw [if_neg h1]
    by_cases h2:k<m
    · rw [if_pos h2,h0 k (by omega) h2]
    · rw [if_neg h2]
theorem Qq2 (p q:List Int):Qzm (zp p) (zp q)=zp (Vp p q):=by
  unfold Qzm
  rw [Qqy,Qqv]
  congr 1
  have hl:=Pg q
  unfold Nc Vp
  refine Qlx (by omega) (fun k _=>?_) fun k h1 h2=>?_
  · unfold Vg
    rw [Yj]
    split
    · omega
    · rename_i h
      have:q.getD k 0=0:=by rw [List.getD_eq_getElem?_getD,List.getElem?_eq_none (by omega)]; rfl
      omega
  · have h3:p.getD k 0=0:=by rw [List.getD_eq_getElem?_getD,List.getElem?_eq_none (by omega)]; rfl
    have h4:(Vg q).getD k 0=0:=by rw [List.getD_eq_getElem?_getD,List.getElem?_eq_none (by omega)]; rfl
    unfold Vg at h4
    rw [Yj] at h4
    split at h4
    · omega
    · have:q.getD k 0=0:=by rw [List.getD_eq_getElem?_getD,List.getElem?_eq_none (by omega)]; rfl
      omega
end Orr

namespace Orr
structure Crv where
  x:List Int
  y:List Int
  d:Int
abbrev cl (k:Crv):List LV:=[pl k.x,pl k.y,sg k.d,mg k.d]
def Crv.d' (k:Crv):Int:=if k.d=0 then 1 else k.d
def Crv.g (k:Crv):Int:=if k.d'<0 then -((Xb (k.d'::(trim k.x++trim k.y)):Nat):Int) else (Xb (k.d'::(trim k.x++trim k.y)):Nat)
def Crv.norm (k:Crv):Crv:=⟨trim ((trim k.x).map (· / k.g)),trim ((trim k.y).map (· / k.g)),k.d' / k.g⟩
theorem S7 {l:List Int}:∀ z∈l,((Xb l:Nat):Int)∣z:=by
  have key:∀ (l:List Int) (g:Nat),(l.foldl (fun g z=>Nat.gcd g z.natAbs) g∣g)∧∀ z∈l,l.foldl (fun g z=>Nat.gcd g z.natAbs) g∣z.natAbs:=by
    intro l
    induction l with
    | nil=>intro g; exact ⟨Nat.dvd_refl _,by simp⟩
    |
     cons u l ih =>
     intro g
     obtain ⟨h1,h2⟩:=ih (Nat.gcd g u.natAbs)
     refine ⟨Nat.dvd_trans h1 (Nat.gcd_dvd_left _ _),fun z hz=>?_⟩
     rcases List.mem_cons.1 hz with rfl | hz
     · exact Nat.dvd_trans h1 (Nat.gcd_dvd_right _ _)
     · exact h2 z hz
  intro z hz
  have:=(key l 0).2 z hz
  exact Int.ofNat_dvd_left.2 this
theorem Crv.d'_ne (k:Crv):k.d'≠0:=by unfold Crv.d'; split <;> omega
theorem Crv.gcd_ne (k:Crv):Xb (k.d'::(trim k.x++trim k.y))≠0:=by
  intro e
  have h:=S7 (l:=k.d'::(trim k.x++trim k.y)) k.d' (List.mem_cons_self ..)
  rw [e] at h
  exact k.d'_ne (by simpa using h)
theorem Crv.g_ne (k:Crv):k.g≠0:=by
  have h0:=k.gcd_ne
  unfold Crv.g
  split <;> omega
theorem Crv.g_dvd (k:Crv):∀ z∈k.d'::(trim k.x++trim k.y),z % k.g=0:=by
  intro z hz
  have h:=S7 z hz
  refine Int.emod_eq_zero_of_dvd ?_
  unfold Crv.g
  split
  · exact Int.neg_dvd.2 h
  · exact h
theorem Crv.isz_g (k:Crv) {s:Nat} (h:Ql k.d'≤s):Ql k.g≤s:=by
  have hd:=S7 (l:=k.d'::(trim k.x++trim k.y)) k.d' (List.mem_cons_self ..)
  have hle:Xb (k.d'::(trim k.x++trim k.y))≤k.d'.natAbs:=Nat.le_of_dvd (by have:=k.d'_ne; omega) (Int.ofNat_dvd_left.1 hd)
  refine Nat.le_trans (X6 ?_) h
  unfold Crv.g
  split <;> simp <;> exact hle
structure Cs (s n:Nat) (k:Crv):Prop where
  x:Bd s k.x
  y:Bd s k.y
  d:Ql k.d≤s
  lx:k.x.length≤n
  ly:k.y.length≤n
theorem Qfm {k:Crv} {s:Nat} (h:Ql k.d≤s) (h1:1≤s):Ql k.d'≤s:=by unfold Crv.d'; split <;> first | exact h1 | exact h
theorem Ld {s:Nat} {p:List Int} (h:Bd s p) (g:Int):Bd s (p.map (· / g)):=fun z hz=>by
  obtain ⟨u,hu,rfl⟩:=List.mem_map.1 hz
  exact Nat.le_trans (Pe u g) (h u hu)
theorem Cs.norm {s n:Nat} {k:Crv} (h:Cs s n k) (h1:1≤s):Cs s n k.norm:=by
  refine ⟨Jo (Ld (Jo h.x) _),Jo (Ld (Jo h.y) _),Nat.le_trans (Pe _ _) (Qfm h.d h1),?_,?_⟩
  · refine Nat.le_trans (Xl _) ?_; rw [List.length_map]; exact Nat.le_trans (Xl _) h.lx
  · refine Nat.le_trans (Xl _) ?_; rw [List.length_map]; exact Nat.le_trans (Xl _) h.ly
theorem Cs.mono {s n t m:Nat} {k:Crv} (h:Cs s n k) (hs:s≤t) (hn:n≤m):Cs t m k:=⟨Qc h.x hs,Qc h.y hs,Nat.le_trans h.d hs,Nat.le_trans h.lx hn,Nat.le_trans h.ly hn⟩
def Nml (k:Crv):Prop:=Qj k.x∧Qj k.y∧0<k.d∧Xb (k.d::(k.x++k.y))=1
theorem Crv.norm_of {k:Crv} (h:Nml k):k.norm=k:=by
  obtain ⟨h1,h2,h3,h4⟩:=h
  have hd:k.d'=k.d:=by unfold Crv.d'; rw [if_neg (by omega)]
  have hx:trim k.x=k.x:=h1
  have hy:trim k.y=k.y:=h2
  have hg:k.g=1:=by unfold Crv.g; rw [hd,hx,hy,h4,if_neg (by omega)]; rfl
  unfold Crv.norm
  rw [hg,hd,hx,hy]
  simp [hx,hy]
theorem Qfe {l:List Int} {g:Int} (hg:g≠0) (hga:g.natAbs=Xb l):Xb (l.map (· / g))=1:=by
  have key:∀ (l:List Int) (a:Nat),(∀ z∈l,g∣z)→l.foldl (fun a z=>Nat.gcd a z.natAbs) (a*g.natAbs)=((l.map (· / g)).foldl (fun a z=>Nat.gcd a z.natAbs) a)*g.natAbs:=by
    intro l
    induction l with
    | nil=>intro a _; rfl
    |
     cons z l ih =>
     intro a h
     simp only [List.map_cons,List.foldl_cons]
     have hz:z.natAbs=(z / g).natAbs*g.natAbs:=by
       obtain ⟨q,rfl⟩:=h z (List.mem_cons_self ..)
       rw [Int.mul_ediv_cancel_left _ hg,Int.natAbs_mul,Nat.mul_comm]
     rw [hz,Nat.gcd_mul_right]
     exact ih _ fun u hu=>h u (List.mem_cons_of_mem _ hu)
  have h:=key l 0 fun z hz=>Int.natAbs_dvd_natAbs.1 (by rw [hga]; exact Int.natAbs_dvd_natAbs.2 (S7 z hz))
  rw [Nat.zero_mul] at h
  have h':Xb l=Xb (l.map (· / g))*g.natAbs:=h
  rw [←hga] at h'
  have hp:0<g.natAbs:=by omega
  exact Nat.eq_of_mul_eq_mul_right hp (by rw [Nat.one_mul]; exact h'.symm)
theorem Gj {l:List Int} {g:Int} (ht:Qj l) (hg:g≠0) (hd:∀ z∈l,g∣z):Qj (l.map (· / g)):=by
  induction l with
  | nil=>rfl
  |
   cons x l ih =>
   have hne:∀ z∈x::l,z≠0→z / g≠0:=fun z hz h0 h1=>by
     obtain ⟨q,rfl⟩:=hd z hz
     rw [Int.mul_ediv_cancel_left _ hg] at h1
     rw [h1] at h0; simp at h0
   unfold Qj at ht ih ⊢
   cases hl:trim l with
   |
    nil =>
    simp only [trim,hl] at ht
    split at ht
    · cases ht
    · rename_i hx
      injection ht with _ h2
      subst h2
      simp [trim,hne x (List.mem_cons_self ..) hx]
   |
    cons y k =>
    simp only [trim,hl] at ht
    injection ht with _ h2
    have hll:trim l=l:=by rw [hl]; exact h2
    have ih:=ih hll fun z hz=>hd z (List.mem_cons_of_mem _ hz)
    rw [List.map_cons]
    have hne2:l.map (· / g)≠[]:=by rw [←hll,hl]; simp
    cases hm:l.map (· / g) with
    | nil=>exact absurd hm hne2
    |
     cons u w =>
     rw [hm] at ih
     have e:trim (x / g::u::w)=match trim (u::w) with | []=>if x / g=0 then [] else [x / g] | y::k=>x / g::y::k:=rfl
     rw [e,ih]
theorem Crv.nml (k:Crv):Nml k.norm:=by
  have hg:=k.g_ne
  have hdv:∀ z∈k.d'::(trim k.x++trim k.y),k.g∣z:=fun z hz=>Int.dvd_of_emod_eq_zero (k.g_dvd z hz)
  have hx:=Gj (g:=k.g) (Xv k.x) hg fun z hz=>hdv z (by simp [hz])
  have hy:=Gj (g:=k.g) (Xv k.y) hg fun z hz=>hdv z (by simp [hz])
  refine ⟨Xv _,Xv _,?_,?_⟩
  · show 0<k.d' / k.g
    obtain ⟨q,hq⟩:=hdv k.d' (List.mem_cons_self ..)
    have h0:=k.d'_ne
    have hgc:=k.gcd_ne
    have e:k.d' / k.g=q:=by rw [hq,Int.mul_ediv_cancel_left _ hg]
    rw [e]
    unfold Crv.g at hq hg
    have hq0:q≠0:=fun e=>by rw [e,Int.mul_zero] at hq; exact h0 hq
    split at hq
    · rename_i hneg
      rcases Int.lt_or_gt_of_ne hq0 with h | h
      · have:=Int.mul_pos_of_neg_of_neg (a:=-((Xb (k.d'::(trim k.x++trim k.y)):Nat):Int)) (b:=q) (by omega) h
        omega
      · exact h
    · rename_i hneg
      rcases Int.lt_or_gt_of_ne hq0 with h | h
      · have:=Int.mul_neg_of_pos_of_neg (a:=((Xb (k.d'::(trim k.x++trim k.y)):Nat):Int)) (b:=q) (by omega) h
        omega
      · exact h
  · show Xb (k.d' / k.g::(trim ((trim k.x).map (· / k.g))++trim ((trim k.y).map (· / k.g))))=1
    rw [show trim ((trim k.x).map (· / k.g))=(trim k.x).map (· / k.g) from hx,show trim ((trim k.y).map (· / k.g))=(trim k.y).map (· / k.g) from hy,←List.map_append,←List.map_cons (f:=(· / k.g))]
    refine Qfe hg ?_
    unfold Crv.g
    split <;> omega
structure Pt where
  c:Crv
  id:Int
def Z6 (p:Pt):List LV:=[pl p.c.x,pl p.c.y,sg p.c.d,mg p.c.d,.int .i64 p.id]
def pts (l:List Pt):LV:=.row (l.map Z6)
end Orr

namespace Orr
def En:List Pt→Int→Nat
  | [],_=>0
  | p::l,id=>if p.id<id then En l id+1 else 0
def has (l:List Pt) (id:Int):Bool:=match l[En l id]? with
  | some p=>decide (p.id=id)
  | none=>false
theorem Qyp (l:List Pt) (id:Int):En l id≤l.length:=by
  induction l with
  | nil=>exact Nat.le_refl _
  | cons p l ih=>simp only [En]; split <;> simp <;> omega
theorem Qmr:∀ {l:List Pt} {id:Int} {k:Nat},(∀ j p,j<k→l[j]? = some p→p.id<id)→(k=l.length∨∃ p,l[k]? = some p∧¬p.id<id)→En l id=k
  |
   [],id,k,_,h=>by
   rcases h with h | ⟨p,h,_⟩
   · subst h; rfl
   · simp at h
  |
   q::l,id,0,_,h=>by
   rcases h with h | ⟨p,h,h2⟩
   · simp at h
   · simp at h; subst h; simp [En,h2]
  |
   q::l,id,k+1,h1,h=>by
   have hq:=h1 0 q (by omega) rfl
   simp only [En,hq,if_true]
   rw [Qmr (k:=k) (fun j p hj hp=>h1 (j+1) p (by omega) (by simpa using hp))]
   rcases h with h | ⟨p,h,h2⟩
   · left; simpa using h
   · right; exact ⟨p,by simpa using h,h2⟩
def put (l:List Pt) (q:Pt):List Pt:=l.take (En l q.id)++q::l.drop (En l q.id)
def Py (l:List Pt) (q:Pt):Int:=if has l q.id=true then 6 else if 6≤l.length then 9 else 0
def Qt2 (s n:Nat) (p:Pt):Prop:=Nml p.c∧Cs s n p.c
theorem Qqr (l:List Pt) (q:Pt):(put l q).length=l.length+1:=by
  have:=Qyp l q.id
  simp [put]; omega
theorem Qqs {l:List Pt} {q p:Pt} (h:p∈put l q):p=q∨p∈l:=by
  unfold put at h
  rcases List.mem_append.1 h with h | h
  · exact .inr (List.mem_of_mem_take h)
  · rcases List.mem_cons.1 h with h | h
    · exact .inl h
    · exact .inr (List.mem_of_mem_drop h)
def J4:List Pt→List Pt→List Pt×Int
  | acc,[]=>(acc,0)
  | acc,q::qs=>if Py acc q=0 then J4 (put acc q) qs else ([],Py acc q)
def Q99 (a b:Crv):Bool:=decide (a.x=b.x∧a.y=b.y∧a.d=b.d)
def Zb7 (out:List Pt) (p:Pt):List Pt:=if out.any (fun q=>Q99 p.c q.c)=true then out else out++[p]
def Zfe (l:List Pt):List Pt:=l.foldl Zb7 []
theorem Uq {α β:Type} (f:β→α→β) (b:β) (l:List α) {i:Nat} {x:α} (h:l[i]? = some x):(l.take (i+1)).foldl f b=f ((l.take i).foldl f b) x:=by
  rw [List.take_add_one,h]; simp [List.foldl_append]
def IsPt (s n:Nat) (z:List LV) (q:Pt):Prop:=∃ lx ly b l px py d,z=[.row lx,.row ly,.bool b,Q85 l,.int .i64 q.id]∧IsInts lx px∧IsInts ly py∧X2 (.bool b) (Q85 l) d∧Cs s n ⟨px,py,d⟩∧q.c=Crv.norm ⟨px,py,d⟩
theorem Q7z {s n:Nat} {p:Pt} (h:Qt2 s n p):IsPt s n (Z6 p) p:=by
  obtain ⟨b,l,h1,h2,h3,h4⟩:=Qe p.c.d
  refine ⟨_,_,decide (p.c.d<0),Q4 p.c.d.natAbs,_,_,p.c.d,rfl,Xk _,Xk _,Qe _,h.2,(Crv.norm_of h.1).symm⟩
def IsPts (s n:Nat):List (List LV)→List Pt→Prop
  | [],[]=>True
  | z::zs,q::qs=>IsPt s n z q∧IsPts s n zs qs
  | _,_=>False
theorem IsPts.len {s n:Nat}:∀ {zs:List (List LV)} {qs:List Pt},IsPts s n zs qs→zs.length=qs.length
  | [],[],_=>rfl
  | _::_,_::_,h=>by simp [h.2.len]
  | [],_::_,h=>h.elim
  | _::_,[],h=>h.elim
theorem IsPts.get {s n:Nat}:∀ {zs:List (List LV)} {qs:List Pt},IsPts s n zs qs→∀ {i:Nat} {q:Pt},qs[i]? = some q→∃ z,zs[i]? = some z∧IsPt s n z q
  | [],[],_,i,q,h=>by simp at h
  | z::zs,q::qs,h,0,r,hr=>by simp at hr; subst hr; exact ⟨z,rfl,h.1⟩
  | z::zs,q::qs,h,i+1,r,hr=>by simpa using h.2.get (i:=i) (by simpa using hr)
  | [],_::_,h,_,_,_=>h.elim
  | _::_,[],h,_,_,_=>h.elim
theorem Qpl {s n:Nat}:∀ {l:List Pt},(∀ p∈l,Qt2 s n p)→IsPts s n (l.map Z6) l
  | [],_=>trivial
  | p::l,h=>⟨Q7z (h p (List.mem_cons_self ..)),Qpl fun q hq=>h q (List.mem_cons_of_mem _ hq)⟩
theorem IsPt.ok {s n:Nat} {z:List LV} {q:Pt} (h:IsPt s n z q) (h1:1≤s):Qt2 s n q:=by
  obtain ⟨lx,ly,b,l,px,py,d,_,_,_,_,hc,e⟩:=h
  unfold Qt2
  rw [e]
  exact ⟨Crv.nml _,hc.norm h1⟩
theorem Qs4 (acc qs:List Pt) {i:Nat} {q:Pt} (hi:qs[i]? = some q) (h:J4 acc (qs.take i)=((J4 acc (qs.take i)).1,0)):J4 acc (qs.take (i+1))=if Py (J4 acc (qs.take i)).1 q=0 then (put (J4 acc (qs.take i)).1 q,0) else ([],Py (J4 acc (qs.take i)).1 q):=by
  induction qs generalizing acc i with
  | nil=>simp at hi
  |
   cons x qs ih =>
   cases i with
   | zero=>simp at hi; subst hi; simp [J4]
   |
    succ i =>
    simp only [List.take_succ_cons,J4] at h ⊢
    by_cases h0:Py acc x=0
    · simp only [h0,if_true] at h ⊢
      exact ih (put acc x) (by simpa using hi) h
    · simp only [h0,if_false] at h
      injection h with _ h
      exact absurd h h0
theorem Qx5 (acc qs:List Pt) {i:Nat} {e:Int} (he:e≠0) (h:J4 acc (qs.take i)=([],e)):J4 acc qs=([],e):=by
  induction qs generalizing acc i with
  | nil=>simp [J4] at h; exact absurd h.2.symm he
  |
   cons x qs ih =>
   cases i with
   | zero=>simp [J4] at h; exact absurd h.2.symm he
   |
    succ i =>
    simp only [List.take_succ_cons,J4] at h ⊢
    by_cases h0:Py acc x=0
    · simp only [h0,if_true] at h ⊢; exact ih _ h
    · simp only [h0,if_false] at h ⊢; exact h
end Orr

namespace Orr
def Z0 (p:List Int) (q:Rat):Int:=Kl (Q34 p q.num q.den) 0
abbrev qa (q:Rat):List LV:=pl [-q.num,(q.den:Int)]::(rl q++rl q)
def Ya (sgn:List Int→Int):Nat→List Int→Int
  | 0,_=>0
  | k+1,p=>if p.length=0 then 0 else if sgn p=0 then Ya sgn k (Zn p) else sgn p
theorem S9 (sgn:List Int→Int):∀ (k:Nat) (p:List Int),p.length≤k→Ya sgn k p=Ya sgn p.length p
  |
   0,p,h=>by
   have:p.length=0:=by omega
   rw [this]
  |
   k+1,p,h=>by
   cases hp:p.length with
   | zero=>simp [Ya,hp]
   |
    succ m =>
    simp only [Ya]
    have h1:=Yy p
    rw [S9 sgn k (Zn p) (by omega),S9 sgn m (Zn p) (by omega)]
theorem Ac (sgn:List Int→Int) {p:List Int} (h:p.length=0):Ya sgn p.length p=0:=by rw [h]; rfl
theorem Aa (sgn:List Int→Int) {p:List Int} (h:0<p.length) (hs:sgn p≠0):Ya sgn p.length p=sgn p:=by
  obtain ⟨m,hm⟩:∃ m,p.length=m+1:=⟨p.length-1,by omega⟩
  rw [hm]; simp only [Ya]; rw [if_neg (by omega),if_neg hs]
theorem Ab (sgn:List Int→Int) {p:List Int} (h:0<p.length) (hs:sgn p=0):Ya sgn p.length p=Ya sgn (Zn p).length (Zn p):=by
  obtain ⟨m,hm⟩:∃ m,p.length=m+1:=⟨p.length-1,by omega⟩
  rw [hm]; simp only [Ya]; rw [if_neg (by omega),if_pos hs]
  exact S9 sgn m _ (by have:=Yy p; omega)
structure Tm where
  p:List Int
  lo:Rat
  hi:Rat
abbrev ta (t:Tm):List LV:=pl t.p::(rl t.lo++rl t.hi)
abbrev tq (q:Rat):Tm:=⟨[-q.num,(q.den:Int)],q,q⟩
def Ur (sg:List Int→Int) (p:List Int):Int:=Ya sg p.length p
def S8 (p:List Int) (q:Rat):Int:=Ur (fun p=>Z0 p q) p
structure Pb (p:List Int):Prop where
  t:Qj p
  l:p.length≤64
  b:Bd 16777216 p
abbrev Qb (q:Rat):Prop:=Qs 16777216 q
abbrev Cb (k:Crv):Prop:=Cs 1048576 16 k
def Xi (a b:Crv):List Int:=Vp (Qx b.x a.d) (Qx a.x b.d)
def Xh (a b:Crv):List Int:=Vp (Qx b.y a.d) (Qx a.y b.d)
theorem Qjm {a b:Crv} (ha:Cb a) (hb:Cb b):Pb (Xi a b)∧(Xi a b).length≤16∧Bd 2097153 (Xi a b):=by
  have h1:Bd 2097153 (Xi a b):=Qc (W3 (Qz hb.x ha.d) (Qz ha.x hb.d)) (by omega)
  have h2:(Xi a b).length≤16:=by
    refine Nat.le_trans (Vv _ _) ?_
    have:=Qt b.x a.d; have:=Qt a.x b.d; have:=ha.lx; have:=hb.lx
    omega
  exact ⟨⟨Q9 _ _,by omega,Qc h1 (by omega)⟩,h2,h1⟩
theorem Qjk {a b:Crv} (ha:Cb a) (hb:Cb b):Pb (Xh a b)∧(Xh a b).length≤16∧Bd 2097153 (Xh a b):=by
  have h1:Bd 2097153 (Xh a b):=Qc (W3 (Qz hb.y ha.d) (Qz ha.y hb.d)) (by omega)
  have h2:(Xh a b).length≤16:=by
    refine Nat.le_trans (Vv _ _) ?_
    have:=Qt b.y a.d; have:=Qt a.y b.d; have:=ha.ly; have:=hb.ly
    omega
  exact ⟨⟨Q9 _ _,by omega,Qc h1 (by omega)⟩,h2,h1⟩
def Qyl (sg:List Int→Int) (a b:Pt):List (List Int)→Bool
  | []=>decide (a.id<b.id)
  | p::l=>if 0<p.length then decide (0<Ur sg p) else Qyl sg a b l
def Qk1 (sg:List Int→Int) (a b:Pt):Bool:=Qyl sg a b [Xi a.c b.c,Xh a.c b.c]
end Orr

namespace Orr
open Go
structure Ct where
  kind:Int
  i0:Int
  i1:Int
  i2:Int
  i3:Int
  p:List Int
  want:Int
abbrev A0 (c:Ct):List LV:=[.int .i64 c.kind,.int .i64 c.i0,.int .i64 c.i1,.int .i64 c.i2,.int .i64 c.i3,pl c.p,.int .i64 c.want]
def X3:List Int→List Int→Bool
  | x::l,y::m=>if x=y then X3 l m else decide (x<y)
  | _,_=>false
def Kd (a b:Ct):Bool:=X3 [a.kind,a.i0,a.i1,a.i2,a.i3] [b.kind,b.i0,b.i1,b.i2,b.i3]
def Pu (out:List Ct) (c:Ct):Nat→Nat
  | 0=>0
  |
   k+1=>match out[k]? with
   | some x=>if Kd c x=true then Pu out c k else k+1
   | none=>k+1
theorem Qqj (out:List Ct) (c:Ct):∀ k,Pu out c k≤k
  | 0=>Nat.le_refl _
  |
   k+1=>by
   simp only [Pu]
   split
   · split
     · exact Nat.le_succ_of_le (Qqj out c k)
     · exact Nat.le_refl _
   · exact Nat.le_refl _
theorem Q3w {out:List Ct} {c x:Ct} {k:Nat} (hx:out[k]? = some x) (h:Kd c x=true):Pu out c (k+1)=Pu out c k:=by
  simp only [Pu,hx,h,if_true]
theorem Qyo {out:List Ct} {c x:Ct} {k:Nat} (hx:out[k]? = some x) (h:Kd c x=false):Pu out c (k+1)=k+1:=by
  simp [Pu,hx,h]
def Nx (out:List Ct) (c:Ct):List Ct:=out.take (Pu out c out.length)++c::out.drop (Pu out c out.length)
theorem Qxj (out:List Ct) (c:Ct):(Nx out c).length=out.length+1:=by
  have:=Qqj out c out.length
  simp [Nx]; omega
theorem Qxk {out:List Ct} {c x:Ct} (h:x∈Nx out c):x=c∨x∈out:=by
  simp only [Nx,List.mem_append,List.mem_cons] at h
  rcases h with h | h | h
  · exact .inr (List.mem_of_mem_take h)
  · exact .inl h
  · exact .inr (List.mem_of_mem_drop h)
def Z9 (l:List Ct):List Ct:=l.foldl Nx []
theorem Qnf (l:List Ct) (c:Ct):Z9 (l++[c])=Nx (Z9 l) c:=by simp [Z9,List.foldl_append]
theorem Qng {l:List Ct} {i:Nat} {c:Ct} (h:l[i]? = some c):Z9 (l.take (i+1))=Nx (Z9 (l.take i)) c:=by
  rw [List.take_succ,h]; exact Qnf _ _
theorem Qc2:∀ (l acc:List Ct),(l.foldl Nx acc).length=acc.length+l.length
  | [],acc=>by simp
  | c::l,acc=>by simp only [List.foldl_cons]; rw [Qc2 l (Nx acc c),Qxj]; simp; omega
theorem Fi (l:List Ct):(Z9 l).length=l.length:=by unfold Z9; rw [Qc2]; simp
theorem Qc3:∀ (l acc:List Ct) {x:Ct},x∈l.foldl Nx acc→x∈l∨x∈acc
  | [],acc,x,h=>.inr h
  |
   c::l,acc,x,h=>by
   simp only [List.foldl_cons] at h
   rcases Qc3 l _ h with h | h
   · exact .inl (List.mem_cons_of_mem _ h)
   · rcases Qxk h with rfl | h
     · exact .inl (List.mem_cons_self ..)
     · exact .inr h
theorem Mz {l:List Ct} {x:Ct} (h:x∈Z9 l):x∈l:=by
  rcases Qc3 l [] h with h | h
  · exact h
  · cases h
theorem Qxm {α:Type} (l:List α) (z x:α) {k m':Nat} (hk:k≤l.length) (hm:m'=l.length-k) :
    ((l++[z]).take (k+1)++((l++[z]).drop k).take m'++(l++[z]).drop (k+1+m')).set k x=l.take k++x::l.drop k:=by
  subst hm
  have e1:((l++[z]).drop k).take (l.length-k)=l.drop k:=by
    rw [List.drop_append_of_le_length hk,List.take_append_of_le_length (by simp),List.take_of_length_le (by simp)]
  have e2:(l++[z]).drop (k+1+(l.length-k))=[]:=List.drop_eq_nil_of_le (by simp; omega)
  rw [e1,e2,List.append_nil]
  have e3:(l++[z]).take (k+1)=(l++[z]).take k++[(l++[z])[k]'(by simp; omega)]:=by rw [List.take_succ_eq_append_getElem]
  rw [e3,List.take_append_of_le_length hk,List.append_assoc,List.set_append,if_neg (by simp; omega)]
  simp [Nat.min_eq_left hk]
end Orr

namespace Orr
open Go Go.Proofs
set_option maxRecDepth 10000
abbrev pr (p:List Int):TV:=.one (pl p)
theorem Yc {p:List Int} {i:Nat} {z:Int} (h:p[i]? = some z):(p.map Zx)[i]? = some (Zx z):=Xf h
theorem Ow (p:List Int):Qd Tryz.prog 76 [pr p] [pr (trim p)]:=by
  refine Z7 Tryz.func76 rfl (ln 0 rfl rfl fun hl=>?_)
  rw [List.length_map] at hl
  refine go tt [] rfl trivial ?_
  refine lp (S:=Nat) 0 (fun L1 n=>(3,.v (.one (.int .i64 (n:Int))))::L1) (fun _=>[]) id (fun n=>n≤p.length∧∀ j x,n≤j→p[j]? = some x→x=0) (p.map Zx).length ⟨by simp,fun j x h1 h2=>by
    have:=(List.getElem?_eq_some_iff.1 h2).1; simp at h1; omega⟩ rfl (fun _ _=>rfl) rfl fun n ⟨h1,h2⟩=>?_
  cases n with
  | zero=>exact en tt [.f (by simp),.f rfl,.i 0] rfl (by rw [Qkf h1 h2 (fun h=>by omega)]; simp [pl]) (by simp [Qa])
  |
   succ n =>
   obtain ⟨x,hx⟩:∃ x,p[n]? = some x:=⟨_,List.getElem?_eq_getElem (by omega)⟩
   by_cases h0:x=0
   · refine go tt [.t (by simp),.r 11 (v:=.one (.int .i64 (n:Int))) (by simp),.x (Yc hx),.c [] G9,.t (by simp [h0]),.r 17 (v:=.one (.int .i64 (n:Int))) (by simp)] rfl (by simp [Qa]; omega) ?_
     exact rd n (by simp) ⟨by omega,fun j y h3 h4=>by
         rcases Nat.eq_or_lt_of_le h3 with rfl | h3
         · rw [hx] at h4; injection h4 with h4; rw [←h4,h0]
         · exact h2 j y h3 h4⟩ rfl
   · exact en tt [.t (by simp),.r 11 (v:=.one (.int .i64 (n:Int))) (by simp),.x (Yc hx),.c [] G9,.f (by simp [h0]),.i (n+1)] rfl (by rw [Qkf h1 h2 (fun _=>⟨x,hx,h0⟩)]; simp [pl,List.map_take]) (by simp [Qa] <;> omega)
theorem Qoj (p:List Int) (k:Nat):Qd Tryz.prog 112 [pr p,.one (.int .i64 (k:Int))] [.agg (Zx (p.getD k 0))]:=by
  by_cases h:k<p.length
  · have hx:=List.getElem?_eq_getElem h
    have e:p.getD k 0=p[k]:=by simp [List.getD,hx]
    rw [e]
    exact w tt Tryz.func112 rfl [.t (by simp; omega),.x (Yc hx)] rfl rfl trivial
  · have e:p.getD k 0=0:=by simp [List.getD,List.getElem?_eq_none (Nat.le_of_not_lt h)]
    rw [e,Gb]
    exact w tt Tryz.func112 rfl [.f (by simp; omega)] rfl rfl trivial
def fil (f:Nat→List LV) (z:List LV) (n k:Nat):List (List LV):=(List.range n).map fun i=>if i<k then f i else z
theorem Gz (f:Nat→List LV) (z:List LV) (n k:Nat):(fil f z n k).length=n:=by simp [fil]
theorem Fv (f:Nat→List LV) (z:List LV) (n:Nat):List.replicate n z=fil f z n 0:=by
  refine List.ext_getElem? fun i=>?_
  simp only [fil,List.getElem?_replicate,List.getElem?_map]
  by_cases h:i<n
  · simp [h]
  · simp [h]
theorem Tf (f:Nat→List LV) (z:List LV) (n:Nat):fil f z n n=(List.range n).map f:=by
  refine List.map_congr_left fun i hi=>?_
  rw [if_pos (List.mem_range.1 hi)]
theorem Tg (f:Nat→List LV) (z:List LV) {n k:Nat} (h:k<n):(fil f z n k).set k (f k)=fil f z n (k+1):=by
  refine List.ext_getElem? fun i=>?_
  rw [List.getElem?_set]
  simp only [fil,List.getElem?_map,List.length_map,List.length_range,h,if_true]
  by_cases e:k=i
  · subst e; simp [h]
  · simp only [e,if_false]
    by_cases hi:i<n
    · simp only [List.getElem?_range hi,Option.map_some]
      congr 1
      by_cases h2:i<k
      · rw [if_pos h2,if_pos (by omega)]
      · rw [if_neg h2,if_neg (by omega)]
    · simp [List.getElem?_eq_none,hi]
theorem Qev {n fid:Nat} {l1 l2:List LV} {g:Nat→Int} (hn:n<274877906944) (h:∀ k,k<n→Qd Tryz.prog fid [.one (.int .i64 (k:Int)),.one (.sh l1),.one (.sh l2)] [.agg (Zx (g k))]):Qd Tryz.prog 109 [.one (.int .i64 (n:Int)),.one (.fn fid [] [.sh l1,.sh l2])] [pr (Vn n g)]:=by
  refine Z7 Tryz.func109 rfl ?_
  refine go tt [.i n,.i n,.r 10 (eI (b:=(n:Int)) (by simp))] rfl (by simp [Qa]; omega) ?_
  rw [Fv fun k=>Zx (g k)]
  refine lp (S:=Nat) 1 (fun L1 k=>(11,.v (.one (.int .i64 (k:Int))))::L1) (fun k=>[.row false 29 2 (fil (fun k=>Zx (g k)) [.bool false,.nils] n k)]) (fun k=>n-k) (fun k=>k≤n) 0 (Nat.zero_le _) rfl (fun _ _=>rfl) rfl fun k hk=>?_
  by_cases hlt:k<n
  · refine go tt [.t (by simp; omega),.c [] (h k hlt),.i k] rfl (by simp [Qa,Gz]; omega) ?_
    have e:=Tg (fun k=>Zx (g k)) [.bool false,.nils] hlt
    rw [e]
    exact rd (k+1) (by omega) hlt rfl
  · obtain rfl:k=n:=by omega
    have e:fil (fun k=>Zx (g k)) [.bool false,.nils] k k=((List.range k).map g).map Zx:=by rw [Tf]; simp
    rw [e]
    exact en tt [.f (by simp),.c [] (Ow _)] rfl rfl trivial
theorem Qog {n fid:Nat} {l1:List LV} {g:Nat→Int} (hn:n<274877906944) (h:∀ k,k<n→Qd Tryz.prog fid [.one (.int .i64 (k:Int)),.one (.sh l1)] [.agg (Zx (g k))]):Qd Tryz.prog 109 [.one (.int .i64 (n:Int)),.one (.fn fid [] [.sh l1])] [pr (Vn n g)]:=by
  refine Z7 Tryz.func109 rfl ?_
  refine go tt [.i n,.i n,.r 10 (eI (b:=(n:Int)) (by simp))] rfl (by simp [Qa]; omega) ?_
  rw [Fv fun k=>Zx (g k)]
  refine lp (S:=Nat) 1 (fun L1 k=>(11,.v (.one (.int .i64 (k:Int))))::L1) (fun k=>[.row false 29 2 (fil (fun k=>Zx (g k)) [.bool false,.nils] n k)]) (fun k=>n-k) (fun k=>k≤n) 0 (Nat.zero_le _) rfl (fun _ _=>rfl) rfl fun k hk=>?_
  by_cases hlt:k<n
  · refine go tt [.t (by simp; omega),.c [] (h k hlt),.i k] rfl (by simp [Qa,Gz]; omega) ?_
    have e:=Tg (fun k=>Zx (g k)) [.bool false,.nils] hlt
    rw [e]
    exact rd (k+1) (by omega) hlt rfl
  · obtain rfl:k=n:=by omega
    have e:fil (fun k=>Zx (g k)) [.bool false,.nils] k k=((List.range k).map g).map Zx:=by rw [Tf]; simp
    rw [e]
    exact en tt [.f (by simp),.c [] (Ow _)] rfl rfl trivial
theorem Q6q {p q:List Int} (k:Nat) (hp:Bd 4294967295 p) (hq:Bd 4294967295 q):Qd Tryz.prog 110 [.one (.int .i64 (k:Int)),.one (.sh [pl p]),.one (.sh [pl q])] [.agg (Zx (p.getD k 0+q.getD k 0))] :=
  w tt Tryz.func110 rfl [.c [] (Qoj p k),.c [] (Qoj q k),.c [] (Nq (Qe _) (Qe _) (Qq hp k) (Qq hq k))] rfl rfl trivial
theorem Q60 {p q:List Int} (k:Nat) (hp:Bd 4294967295 p) (hq:Bd 4294967295 q):Qd Tryz.prog 233 [.one (.int .i64 (k:Int)),.one (.sh [pl p]),.one (.sh [pl q])] [.agg (Zx (p.getD k 0-q.getD k 0))] :=
  w tt Tryz.func233 rfl [.c [] (Qoj p k),.c [] (Qoj q k),.c [] (Qva (Qe _) (Qe _) (Qq hp k) (Qq hq k))] rfl rfl trivial
theorem Xs {p:List Int} {k:Nat} (h:k<p.length):p[k]? = some (p.getD k 0):=by simp [List.getD,List.getElem?_eq_getElem h]
theorem Qu4 {p:List Int} {c:Int} {k:Nat} (hk:k<p.length) (hp:Bd 4294967295 p) (hc:Ql c≤4294967295):Qd Tryz.prog 214 [.one (.int .i64 (k:Int)),.one (.sh [pl p]),.one (.sh (Zx c))] [.agg (Zx (p.getD k 0*c))] :=
  w tt Tryz.func214 rfl [.x (Yc (Xs hk)),.c [] (Ko (Qe _) (Qe _) (Qq hp k) hc)] rfl rfl trivial
theorem Q6x {p:List Int} {k:Nat} (hk:k<p.length) (hp:Bd 4294967295 p):Qd Tryz.prog 299 [.one (.int .i64 (k:Int)),.one (.sh [pl p])] [.agg (Zx (-(p.getD k 0)))] :=
  w tt Tryz.func299 rfl [.x (Yc (Xs hk)),.c [] (On (Qe _) (Qq hp k))] rfl rfl trivial
theorem Qrt {p:List Int} {k:Nat} (hk:k+1<p.length) (hl:p.length<274877906944) (hp:Bd 4294967295 p):Qd Tryz.prog 269 [.one (.int .i64 (k:Int)),.one (.sh [pl p])] [.agg (Zx (p.getD (k+1) 0*((k+1:Nat):Int)))] :=
  w tt Tryz.func269 rfl [.x (Yc (Xs hk)),.r 10 (eI (b:=((k+1:Nat):Int)) (by omega)),.c [] (Qlb (by omega)),.c [] (Ko (Qe _) (Qe _) (Qq hp _) (Qsv (show k+1<274877906944 by omega)))] rfl rfl (by simp [Qa] <;> omega)
theorem Qut {p q:List Int} (hlp:p.length<274877906944) (hlq:q.length<274877906944) (hp:Bd 4294967295 p) (hq:Bd 4294967295 q):Qd Tryz.prog 66 [pr p,pr q] [pr (Nc p q)] :=
  w tt Tryz.func66 rfl [.r 9 (eI (b:=((max p.length q.length:Nat):Int)) (by simp; omega)),.c [] (Qev (by omega) fun k _=>Q6q k hp hq)] rfl rfl trivial
theorem Oo {p q:List Int} (hlp:p.length<274877906944) (hlq:q.length<274877906944) (hp:Bd 4294967295 p) (hq:Bd 4294967295 q):Qd Tryz.prog 184 [pr p,pr q] [pr (Vp p q)] :=
  w tt Tryz.func184 rfl [.r 9 (eI (b:=((max p.length q.length:Nat):Int)) (by simp; omega)),.c [] (Qev (by omega) fun k _=>Q60 k hp hq)] rfl rfl trivial
theorem Quw {p:List Int} (hlp:p.length<274877906944) (hp:Bd 4294967295 p):Qd Tryz.prog 272 [pr p] [pr (Vg p)] :=
  w tt Tryz.func272 rfl [.r 4 (eI (b:=(p.length:Int)) (by simp)),.c [] (Qog hlp fun k hk=>Q6x hk hp)] rfl rfl trivial
theorem Ue {p:List Int} {c:Int} (hlp:p.length<274877906944) (hp:Bd 4294967295 p) (hc:Ql c≤4294967295):Qd Tryz.prog 159 [pr p,.agg (Zx c)] [pr (Qx p c)] :=
  w tt Tryz.func159 rfl [.r 6 (eI (b:=(p.length:Int)) (by simp)),.c [] (Qev hlp fun k hk=>Qu4 hk hp hc)] rfl rfl trivial
theorem Ho {p:List Int} (hlp:p.length<274877906944) (hp:Bd 4294967295 p):Qd Tryz.prog 229 [pr p] [pr (Zn p)] :=
  w tt Tryz.func229 rfl [.r 6 (eI (b:=((p.length-1:Nat):Int)) (by simp; omega)),.c [] (Qog (by omega) fun k hk=>Qrt (by omega) hlp hp)] rfl rfl (by simp [Qa]; omega)
theorem Uz {ls:List (List LV)} {p:List Int} (hi:IsInts ls p) (hl:p.length<274877906944) (hs:Bd 4294967295 p):Qd Tryz.prog 115 [.one (.row ls)] [pr (trim p)]:=by
  refine Z7 Tryz.func115 rfl ?_
  have hlen:=hi.len
  refine go tt [.i ls.length,.i ls.length] rfl (by simp [Qa]; omega) ?_
  rw [Fv fun k=>Zx (p.getD k 0)]
  refine lp (S:=Nat) 1 (fun L1 k=>(11,.v (.one (.int .i64 (k:Int))))::L1) (fun k=>[.row false 29 2 (fil (fun k=>Zx (p.getD k 0)) [.bool false,.nils] ls.length k)]) (fun k=>ls.length-k) (fun k=>k≤ls.length) 0 (Nat.zero_le _) rfl (fun _ _=>rfl) rfl fun k hk=>?_
  by_cases hlt:k<ls.length
  · obtain ⟨x,y,hx,hxy⟩:=hi.get (Xs (p:=p) (k:=k) (by omega))
    have cn:=U0 hxy (Qq hs k)
    obtain ⟨b,l,rfl,rfl,_⟩:=hxy
    refine go tt [.t (by simp; omega),.x hx,.c [] cn,.i k] rfl (by simp [Qa,Gz]; omega) ?_
    have e:=Tg (fun k=>Zx (p.getD k 0)) [.bool false,.nils] hlt
    rw [e]
    exact rd (k+1) (by omega) hlt rfl
  · obtain rfl:k=ls.length:=by omega
    have e:fil (fun k=>Zx (p.getD k 0)) [.bool false,.nils] ls.length ls.length=p.map Zx:=by
      rw [Tf,hlen]
      refine List.ext_getElem? fun i=>?_
      by_cases hi:i<p.length
      · simp [List.getElem?_range hi,List.getD,List.getElem?_eq_getElem hi]
      · simp [List.getElem?_eq_none,hi]
    rw [e]
    exact en tt [.f (by simp),.c [] (Ow _)] rfl rfl trivial
theorem Xz {p:List Int} (ht:Qj p) (hl:p.length<274877906944) (hs:Bd 4294967295 p):Qd Tryz.prog 115 [pr p] [pr p]:=by
  have:=Uz (Xk p) hl hs
  rw [ht] at this; exact this
theorem Q22 {p:List Int} {i:Nat} {z:Int} (h:p[i]? = some z):(p.map fun (x:Int)=>[LV.int .i64 x])[i]? = some [.int .i64 z]:=Xf h
theorem Qux {p:List Int} (hl:p.length<274877906944) (hr:∀ z∈p,-9223372036854775808≤z∧z≤9223372036854775807):Qd Tryz.prog 18 [.one (ids p)] [pr (trim p)]:=by
  refine Z7 Tryz.func18 rfl ?_
  refine go tt [.r 7 (eI (b:=(p.length:Int)) (by simp)),.i p.length,.i p.length,.r 10 (eI (b:=(p.length:Int)) (by simp))] rfl (by simp [Qa]; omega) ?_
  rw [Fv fun k=>Zx (p.getD k 0)]
  refine lp (S:=Nat) 1 (fun L1 k=>(11,.v (.one (.int .i64 (k:Int))))::L1) (fun k=>[.row false 29 2 (fil (fun k=>Zx (p.getD k 0)) [.bool false,.nils] p.length k)]) (fun k=>p.length-k) (fun k=>k≤p.length) 0 (Nat.zero_le _) rfl (fun _ _=>rfl) rfl fun k hk=>?_
  by_cases hlt:k<p.length
  · have hg:=Xs hlt
    refine go tt [.t (by simp; omega),.x (Q22 hg),.c [] (Qlb (hr _ (List.mem_of_getElem? hg))),.i k] rfl (by simp [Qa,Gz]; omega) ?_
    have e:=Tg (fun k=>Zx (p.getD k 0)) [.bool false,.nils] hlt
    rw [e]
    exact rd (k+1) (by omega) hlt rfl
  · obtain rfl:k=p.length:=by omega
    have e:fil (fun k=>Zx (p.getD k 0)) [.bool false,.nils] p.length p.length=p.map Zx:=by
      rw [Tf]
      refine List.ext_getElem? fun i=>?_
      by_cases hi:i<p.length
      · simp [List.getElem?_range hi,List.getD,List.getElem?_eq_getElem hi]
      · simp [List.getElem?_eq_none,hi]
    rw [e]
    exact en tt [.f (by simp),.c [] (Ow _)] rfl rfl trivial
end Orr

namespace Orr
open Go Go.Proofs
set_option maxRecDepth 10000
theorem Qmn (l:List Int) (i:Nat) (z:Int):(l.map Zx).set i (Zx z)=(l.set i z).map Zx:=by rw [List.map_set]
theorem I2 (m:Nat):((List.replicate m [LV.bool false,LV.nils]).map fun c=>c.map C5)=(List.replicate m (0:Int)).map Zx:=by
  simp [Gb,C5]
theorem Qep {p0 q:List Int} {s t:Nat} (tq:Qj q) (hlp:p0.length<137438953472) (hlq:q.length<137438953472) (hp:Bd s p0) (hq:Bd t q) (hst:s+t≤4294967000):Qd Tryz.prog 213 [pr p0,pr q] [pr (Zh (trim p0) q)]:=by
  have cp:=Uz (Xk p0) (by omega) (Qc hp (show s≤4294967295 by omega))
  have hp:=Jo hp
  have hlp:=Nat.lt_of_le_of_lt (Xl p0) hlp
  obtain ⟨p,ep⟩:∃ p,p=trim p0:=⟨_,rfl⟩
  rw [←ep] at cp hp hlp ⊢
  have cq:=Xz tq (by omega) (Qc hq (show t≤4294967295 by omega))
  by_cases h0:p.length=0
  · have e:Zh p q=[]:=by unfold Zh; rw [if_pos (.inl h0)]
    rw [e]
    exact w tt Tryz.func213 rfl [.c [] cp,.c [] cq,.t (by simp; exact List.eq_nil_of_length_eq_zero h0),.t rfl] rfl rfl trivial
  by_cases h1:q.length=0
  · have e:Zh p q=[]:=by unfold Zh; rw [if_pos (.inr h1)]
    rw [e]
    exact w tt Tryz.func213 rfl [.c [] cp,.c [] cq,.f (by simp; intro h; subst h; simp at h0),.t (by simp; exact List.eq_nil_of_length_eq_zero h1)] rfl rfl trivial
  refine Z7 Tryz.func213 rfl ?_
  have e:Zh p q=trim (Kw p q (List.replicate (p.length+q.length-1) 0) p.length):=by unfold Zh; rw [if_neg (by omega)]
  rw [e]
  obtain ⟨N,hN⟩:∃ N,N=p.length+q.length-1:=⟨_,rfl⟩
  rw [←hN]
  obtain ⟨o,ho⟩:∃ o,o=List.replicate N (0:Int):=⟨_,rfl⟩
  rw [←ho]
  have hol:o.length=N:=by rw [ho]; simp
  have ho0:∀ m,o.getD m 0=0:=fun m=>by rw [ho]; exact J1 N m
  refine go tt [.c [] cp,.c [] cq,.f (by simp; intro h; subst h; simp at h0),.f (by simp; intro h; subst h; simp at h1),.r 27 (eI (b:=(N:Int)) (by simp; omega)),.i N,.i N] rfl (by simp [Qa]; omega) ?_
  refine nl 0 rfl rfl rfl ?_
  rw [I2,←ho]
  refine lp (S:=Nat) 1 (fun L1 i=>(31,.v (.one (.int .i64 (i:Int))))::L1) (fun i=>[.row false 29 2 ((Kw p q o i).map Zx)]) (fun i=>p.length-i) (fun i=>i≤p.length) 0 (Nat.zero_le _) rfl (fun _ _=>rfl) rfl fun i hi=>?_
  by_cases hlt:i<p.length
  · refine go tt [.t (by simp; omega),.x (Yc (Xs hlt))] rfl trivial ?_
    refine lp (S:=Nat) 2 (fun L1 k=>(38,.v (.one (.int .i64 (k:Int))))::L1) (fun k=>[.row false 29 2 ((H5 (p.getD i 0) q i (Kw p q o i) k).map Zx),.blk 29 (Zx (p.getD i 0))]) (fun k=>q.length-k) (fun k=>k≤q.length) 0 (Nat.zero_le _) rfl (fun _ _=>rfl) rfl fun k hk=>?_
    by_cases hk2:k<q.length
    · have hm1:Ql ((H5 (p.getD i 0) q i (Kw p q o i) k).getD (i+k) 0)≤4294967295:=Nat.le_trans (Hf (t:=39) (Qfy (by rw [Kx]; omega) (Qfx (fun j hj=>by omega) ho0 (fun i j=>Vw (Qq hp i) (Qq hq j))) (fun j=>Vw (Qq hp i) (Qq hq j)) (i+k)) (Nat.lt_of_lt_of_eq (show i+1<549755813888 by omega) (by decide))) (by omega)
      have hm2:Ql (p.getD i 0*q.getD k 0)≤4294967295:=Nat.le_trans (Q3 _ _) (by have:=Qq hp i; have:=Qq hq k; omega)
      have hg:(H5 (p.getD i 0) q i (Kw p q o i) k)[i+k]? = some ((H5 (p.getD i 0) q i (Kw p q o i) k).getD (i+k) 0):=Xs (by rw [H6,Kx]; omega)
      refine go tt [.t (by simp; omega),.x (Yc (Xs hk2)),.i (i+k),.x (Yc hg),.c [] (Ko (Qe _) (Qe _) (Nat.le_trans (Qq hp i) (by omega)) (Nat.le_trans (Qq hq k) (by omega))),.c [] (Nq (Qe _) (Qe _) hm1 hm2),.i (i+k)] rfl (by simp [Qa,H6,Kx] <;> omega) ?_
      rw [Qmn]
      exact rd (k+1) (by omega) hk2 rfl
    · obtain rfl:k=q.length:=by omega
      exact go tt [.f (by simp)] rfl (by simp [Qa]; omega) (rd (i+1) (by omega) hlt rfl)
  · obtain rfl:i=p.length:=by omega
    exact en tt [.f (by simp),.c [] (Ow _)] rfl rfl trivial
theorem Qlc {p q:List Int} {s t:Nat} (tp:Qj p) (tq:Qj q) (hlp:p.length<137438953472) (hlq:q.length<137438953472) (hp:Bd s p) (hq:Bd t q) (hst:s+t≤4294967000):Qd Tryz.prog 213 [pr p,pr q] [pr (Zh p q)]:=by
  have h:=Qep tq hlp hlq hp hq hst
  rw [show trim p=p from tp] at h
  exact h
theorem Q1u {p q:List Int} (hlp:p.length<274877906944) (hlq:q.length<274877906944) (hp:Bd 4294967295 p) (hq:Bd 4294967295 q):Qd Tryz.prog 224 [pr p,pr q] [.one (.bool (decide (trim p=trim q)))]:=by
  refine Z7 Tryz.func224 rfl ?_
  have cp:=Uz (Xk p) hlp hp
  have cq:=Uz (Xk q) hlq hq
  have bp:=Jo hp
  have bq:=Jo hq
  have l1:=Xl p
  have l2:=Xl q
  obtain ⟨a,ha⟩:∃ a,a=trim p:=⟨_,rfl⟩
  obtain ⟨b,hb⟩:∃ b,b=trim q:=⟨_,rfl⟩
  rw [←ha] at cp bp l1 ⊢
  rw [←hb] at cq bq l2 ⊢
  by_cases hl:a.length=b.length
  · refine go tt [.c [] cp,.c [] cq,.f (by simp; omega)] rfl trivial ?_
    refine lp (S:=Nat) 0 (fun L1 i=>(18,.v (.one (.int .i64 (i:Int))))::L1) (fun _=>[]) (fun i=>a.length-i) (fun i=>i≤a.length∧a.take i=b.take i) 0 ⟨Nat.zero_le _,rfl⟩ rfl (fun _ _=>rfl) rfl fun i ⟨hi,he⟩=>?_
    by_cases hlt:i<a.length
    · have ga:=Xs hlt
      have gb:=Xs (p:=b) (k:=i) (by omega)
      have cc:=Ot (Qe (a.getD i 0)) (Qe (b.getD i 0)) (Qq bp i) (Qq bq i)
      by_cases hz:a.getD i 0=b.getD i 0
      · refine go tt [.t (by simp; omega),.x (Yc ga),.x (Yc gb),.c [] cc,.f (by simpa using Qoy.2 hz)] rfl (by simp [Qa]; omega) ?_
        exact rd (i+1) (by omega) ⟨hlt,by rw [List.take_add_one,List.take_add_one,he,ga,gb,hz]⟩ rfl
      · exact en tt [.t (by simp; omega),.x (Yc ga),.x (Yc gb),.c [] cc,.t (by have:=mt Qoy.1 hz; simpa using this)] rfl (by rw [decide_eq_false]; intro h; exact hz (by rw [h])) trivial
    · obtain rfl:i=a.length:=by omega
      rw [List.take_length,hl,List.take_length] at he
      exact en tt [.f (by simp)] rfl (by rw [decide_eq_true he]) trivial
  · exact en tt [.c [] cp,.c [] cq,.t (by simp; omega)] rfl (by rw [decide_eq_false]; intro h; exact hl (by rw [h])) trivial
theorem Quz {p:List Int} {n d:Int} {s t:Nat} (hl:p.length<274877906944) (hp:Bd s p) (hn:Ql n≤t) (hd:Ql d≤t) (hst:s+p.length*(t+1)+2*t+10≤4294967295):Qd Tryz.prog 240 [pr p,.agg (Zx n),.agg (Zx d)] [.agg (Zx (Q34 p n d))]:=by
  refine Z7 Tryz.func240 rfl ?_
  refine go tt [.c [] (Qlb (z:=1) (by decide)),.r 13 (eI (b:=(p.length:Int)-1-((0:Nat):Int)) (by simp))] rfl (by simp [Qa]; omega) ?_
  refine nlb 3 rfl rfl rfl ?_
  have e0:[LV.bool false,LV.nils].map C5=Zx (Vk p n d 0).1:=by simp [C5,Vk,Gb]
  rw [e0]
  refine lp (S:=Nat) 5 (fun L1 j=>(9,.v (.one (.int .i64 ((p.length:Int)-1-(j:Int)))))::L1) (fun j=>[.blk 29 (Zx n),.blk 29 (Zx d),.blk 29 [.bool false,.nils],.blk 29 (Zx (Vk p n d j).1),.blk 29 (Zx (Vk p n d j).2)]) (fun j=>p.length-j) (fun j=>j≤p.length) 0 (Nat.zero_le _) rfl (fun _ _=>rfl) rfl fun j hj=>?_
  have hv:=Qg6 (k:=j) hp hn hd
  have hjl:j*(t+1)≤p.length*(t+1):=Nat.mul_le_mul_right _ (by omega)
  have hjl2:j*t≤j*(t+1):=Nat.mul_le_mul_left _ (by omega)
  by_cases hlt:j<p.length
  · have hc:=Qq hp (p.length-1-j)
    have hm1:Ql ((Vk p n d j).1*n)≤4294967295:=Nat.le_trans (Q3 _ _) (by omega)
    have hm2:Ql (p.getD (p.length-1-j) 0*(Vk p n d j).2)≤4294967295:=Nat.le_trans (Q3 _ _) (by omega)
    refine go tt [.t (by simp; omega),.c [] (Ko (Qe _) (Qe _) (by omega) (by omega)),.r 22 (eI (b:=((p.length-1-j:Nat):Int)) (by omega)),.x (Yc (Xs (p:=p) (k:=p.length-1-j) (by omega))),.c [] (Ko (Qe _) (Qe _) (by omega) (by omega)),.c [] (Nq (Qe _) (Qe _) hm1 hm2),.c [] (Ko (Qe _) (Qe _) (by omega) (by omega)),.r 17 (eI (b:=(p.length:Int)-1-((j+1:Nat):Int)) (by omega))] rfl (by simp [Qa] <;> omega) ?_
    exact rd (j+1) (by omega) hlt rfl
  · obtain rfl:j=p.length:=by omega
    exact en tt [.f (by simp; omega)] rfl rfl trivial
theorem W4 {p:List Int} (tp:Qj p) (hl:p.length<274877906944) (hp:Bd 4294967295 p):Qd Tryz.prog 295 [pr p] [.agg (Zx (p.getD (p.length-1) 0))]:=by
  have cn:=Xz tp hl hp
  by_cases h0:p=[]
  · subst h0
    exact w tt Tryz.func295 rfl [.c [] cn,.t (by simp)] rfl (by simp [Gb]) trivial
  · have hpl:0<p.length:=List.length_pos_iff.2 h0
    exact w tt Tryz.func295 rfl [.c [] cn,.f (by simpa using h0),.r 12 (eI (b:=((p.length-1:Nat):Int)) (by simp; omega)),.x (Yc (Xs (by omega)))] rfl rfl (by simp [Qa]; omega)
end Orr

namespace Orr
open Go Go.Proofs
set_option maxRecDepth 10000
theorem Q57 {a b:Int} {q:Rat} (h1:a=q.num) (h2:b=(q.den:Int)):[sg a,mg a,sg b,mg b]=rl q:=by rw [h1,h2]
theorem Sr {n d:Int} (h0:d≠0) (hn:Ql n≤4294967295) (hd:Ql d≤4294967295):Qd Tryz.prog 197 [.agg (Zx n),.agg (Zx d)] [.agg (rl (Rat.divInt n d))]:=by
  have cg:=Qum (Xk [n,d]) (fun z hz=>by simp at hz; rcases hz with rfl | rfl <;> assumption)
  have gp:=Qin (n:=n) h0
  have gs:=Qpn (n:=n) h0 hd
  have m1:=Qas n d
  have m2:=Qat n d
  obtain ⟨g,hg⟩:∃ g,g=((Xb [n,d]:Nat):Int):=⟨_,rfl⟩
  rw [←hg] at cg gp gs m1 m2
  by_cases hneg:d<0
  · obtain ⟨e1,e2⟩:=Q3f (n:=n) hneg
    rw [←hg] at e1 e2
    rw [←Q57 e1 e2]
    exact w tt Tryz.func197 rfl [.c [] cg,.t (by simpa using hneg),.c [] (On (Qe n) hn),.c [] (On (Qe d) hd),.c [] (Gn (Qe _) (Qe _) (by rw [Z8]; exact hn) gs (by omega) (Qp8 m1)),.c [] (Gn (Qe _) (Qe _) (by rw [Z8]; exact hd) gs (by omega) (Qp8 m2))] rfl rfl trivial
  · obtain ⟨e1,e2⟩:=Qfu (n:=n) (d:=d) (by omega)
    rw [←hg] at e1 e2
    rw [←Q57 e1 e2]
    exact w tt Tryz.func197 rfl [.c [] cg,.f (by simpa using hneg),.c [] (Gn (Qe _) (Qe _) hn gs (by omega) m1),.c [] (Gn (Qe _) (Qe _) hd gs (by omega) m2)] rfl rfl trivial
theorem Ic {x y x' y':LV} {n d:Int} (h1:X2 x y n) (h2:X2 x' y' d) (hn:Ql n≤4294967295) (hd:Ql d≤4294967295):Qd Tryz.prog 137 [.agg [x,y,x',y']] [.agg (rl (Zu n d))]:=by
  have c1:=U0 h1 hn
  have c2:=U0 h2 hd
  obtain ⟨b,l,rfl,rfl,_⟩:=h1
  obtain ⟨b',l',rfl,rfl,_⟩:=h2
  by_cases h0:d=0
  · have e:Zu n d=Rat.divInt n 1:=by unfold Zu; rw [if_pos h0]
    rw [e]
    exact w tt Tryz.func137 rfl [.c [] c2,.c [] G9,.t (by simpa using h0),.c [] (Qlb (z:=1) (by decide)),.c [] c1,.c [] (Sr (by decide) hn (by decide))] rfl rfl trivial
  · have e:Zu n d=Rat.divInt n d:=by unfold Zu; rw [if_neg h0]
    rw [e]
    exact w tt Tryz.func137 rfl [.c [] c2,.c [] G9,.f (by simpa using h0),.c [] c1,.c [] (Sr h0 hn hd)] rfl rfl trivial
theorem Oz {q:Rat} (hq:Qs 4294967295 q):Qd Tryz.prog 137 [.agg (rl q)] [.agg (rl q)]:=by
  have:=Ic (Qe q.num) (Qe (q.den:Int)) hq.1 hq.2
  rwa [Tq] at this
theorem Qeu {a b:Rat} (ha:Qs 2147483647 a) (hb:Qs 2147483647 b):Qd Tryz.prog 198 [.agg (rl a),.agg (rl b)] [.agg (Zx (a.num*(b.den:Int))),.agg (Zx (b.num*(a.den:Int))),.agg (Zx ((a.den:Int)*(b.den:Int)))] :=
  w tt Tryz.func198 rfl [.c [] (Oz (ha.mono (by decide))),.c [] (Oz (hb.mono (by decide))),.c [] (Ko (Qe _) (Qe _) (Nat.le_trans ha.1 (by decide)) (Nat.le_trans hb.2 (by decide))),.c [] (Ko (Qe _) (Qe _) (Nat.le_trans hb.1 (by decide)) (Nat.le_trans ha.2 (by decide))),.c [] (Ko (Qe _) (Qe _) (Nat.le_trans ha.2 (by decide)) (Nat.le_trans hb.2 (by decide)))] rfl rfl trivial
theorem Fl {a b:Rat} (ha:Qs 2147483647 a) (hb:Qs 2147483647 b):Qd Tryz.prog 138 [.agg (rl a),.agg (rl b)] [.one (.int .i64 (Zs a b))] :=
  w tt Tryz.func138 rfl [.c [] (Qeu ha hb),.c [] (Ot (Qe _) (Qe _) (Nat.le_trans (Q3 _ _) (by have:=ha.1; have:=hb.2; omega)) (Nat.le_trans (Q3 _ _) (by have:=hb.1; have:=ha.2; omega)))] rfl rfl trivial
theorem Qvv {x y x' y':LV} {n d:Int} (h1:X2 x y n) (h2:X2 x' y' d) (hn:Ql n≤4294967295) (hd:Ql d≤4294967295):Qd Tryz.prog 82 [.agg [x,y,x',y'],.one (.row [])] [.agg (rl (Zu n d))]:=by
  have c1:=Ic h1 h2 hn hd
  obtain ⟨b,l,rfl,rfl,_⟩:=h1
  obtain ⟨b',l',rfl,rfl,_⟩:=h2
  refine Z7 Tryz.func82 rfl ?_
  refine go tt [.c [] c1] rfl trivial ?_
  refine lp (S:=Unit) 3 (fun L1 _=>(12,.v (.one (.int .i64 0)))::L1) (fun _=>[.blk 41 [.bool b,.row (lm l),.bool b',.row (lm l')],.blk 41 [.bool false,.nils,.bool false,.nils],.blk 41 (rl (Zu n d))]) (fun _=>0) (fun _=>True) () trivial rfl (fun _ _=>rfl) rfl fun _ _=>?_
  exact en tt [.f (by simp)] rfl rfl trivial
theorem Gt {q:Rat} (hq:Qs 4294967295 q):Qd Tryz.prog 82 [.agg (rl q),.one (.row [])] [.agg (rl q)]:=by
  have:=Qvv (Qe q.num) (Qe (q.den:Int)) hq.1 hq.2
  rwa [Tq] at this
theorem Q17 {q:Rat} (hq:Qs 4294967295 q):Qd Tryz.prog 239 [.agg (rl q)] [.agg (rl q)]:=w tt Tryz.func239 rfl [.c [] (Gt hq)] rfl rfl trivial
theorem Qn8 {p:List Int} {q:Rat} {s t:Nat} (tp:Qj p) (hl:p.length<274877906944) (hp:Bd s p) (hq:Qs t q) (hst:s+p.length*(t+1)+2*t+10≤4294967295):Qd Tryz.prog 192 [pr p,.agg (rl q)] [.one (.int .i64 (Z0 p q))]:=by
  have cc:=Ot (Qe (Q34 p q.num q.den)) Ws (Nat.le_trans (Qg6 hp hq.1 hq.2).1 (by omega)) (by decide)
  exact w tt Tryz.func192 rfl [.c [] (Q17 (hq.mono (by omega))),.c [] (Xz tp hl (Qc hp (by omega))),.c [] (Quz hl hp hq.1 hq.2 hst),.c [] cc] rfl rfl trivial
end Orr

namespace Orr
open Go Go.Proofs
set_option maxRecDepth 10000
theorem Qvj {p:List Int} {g:Int} (hl:p.length<274877906944) (hp:Bd 4294967295 p) (hg:Ql g≤4294967295) (h0:g≠0) (hd:∀ z∈p,z % g=0):Qd Tryz.prog 121 [pr p,.agg (Zx g)] [pr (trim (p.map (· / g)))]:=by
  refine Z7 Tryz.func121 rfl ?_
  refine go tt [.r 9 (eI (b:=(p.length:Int)) (by simp)),.i p.length,.i p.length,.r 12 (eI (b:=(p.length:Int)) (by simp))] rfl (by simp [Qa]; omega) ?_
  rw [Fv fun k=>Zx (p.getD k 0 / g)]
  refine lp (S:=Nat) 2 (fun L1 k=>(13,.v (.one (.int .i64 (k:Int))))::L1) (fun k=>[.blk 29 (Zx g),.row false 29 2 (fil (fun k=>Zx (p.getD k 0 / g)) [.bool false,.nils] p.length k)]) (fun k=>p.length-k) (fun k=>k≤p.length) 0 (Nat.zero_le _) rfl (fun _ _=>rfl) rfl fun k hk=>?_
  by_cases hlt:k<p.length
  · have hg2:=Xs hlt
    refine go tt [.t (by simp; omega),.x (Yc hg2),.c [] (Gn (Qe _) (Qe _) (Qq hp k) hg h0 (hd _ (List.mem_of_getElem? hg2))),.i k] rfl (by simp [Qa,Gz]; omega) ?_
    have e:=Tg (fun k=>Zx (p.getD k 0 / g)) [.bool false,.nils] hlt
    rw [e]
    exact rd (k+1) (by omega) hlt rfl
  · obtain rfl:k=p.length:=by omega
    have e:fil (fun k=>Zx (p.getD k 0 / g)) [.bool false,.nils] p.length p.length=(p.map (· / g)).map Zx:=by
      rw [Tf]
      refine List.ext_getElem? fun i=>?_
      by_cases hi:i<p.length
      · simp [List.getElem?_range hi,List.getD,List.getElem?_eq_getElem hi]
      · simp [List.getElem?_eq_none,hi]
    rw [e]
    exact en tt [.f (by simp),.c [] (Uz (Xk (p.map (· / g))) (by simp; exact hl) (Ld hp g))] rfl rfl trivial
theorem Qbe (p:List Int):∀ c∈p.map Zx,c.length=2:=Q52 p fun _=>rfl
theorem Qoe {lx ly:List (List LV)} {px py:List Int} {x y:LV} {d:Int} (hx:IsInts lx px) (hy:IsInts ly py) (hd:X2 x y d) (hk:Cs 4294967294 1073741824 (Crv.mk px py d)):Qd Tryz.prog 74 [.agg [.row lx,.row ly,x,y]] [.agg (cl (Crv.norm (Crv.mk px py d)))]:=by
  have hlx:=hk.lx
  have hly:=hk.ly
  simp only at hlx hly
  have htx:=Xl px
  have hty:=Xl py
  have hd1:Ql (Crv.mk px py d).d'≤4294967295:=Nat.le_trans (Qfm hk.d (by omega)) (by omega)
  have hg1:=Crv.isz_g (Crv.mk px py d) hd1
  have hg0:=Crv.g_ne (Crv.mk px py d)
  have hgd:=Crv.g_dvd (Crv.mk px py d)
  have cx:=Uz hx (by omega) (Qc hk.x (by omega))
  have cy:=Uz hy (by omega) (Qc hk.y (by omega))
  have cd:=U0 hd (Nat.le_trans hk.d (by omega))
  have bx:Bd 4294967295 (trim px):=Qc (Jo hk.x) (by omega)
  have by_:Bd 4294967295 (trim py):=Qc (Jo hk.y) (by omega)
  obtain ⟨b,l,rfl,rfl,_⟩:=hd
  obtain ⟨e,he⟩:∃ e,e=(Crv.mk px py d).d':=⟨_,rfl⟩
  obtain ⟨g,hgg⟩:∃ g,g=(Crv.mk px py d).g:=⟨_,rfl⟩
  obtain ⟨X,hX⟩:∃ X,X=trim px:=⟨_,rfl⟩
  obtain ⟨Y,hY⟩:∃ Y,Y=trim py:=⟨_,rfl⟩
  have hnorm:(Crv.mk px py d).norm=⟨trim (X.map (· / g)),trim (Y.map (· / g)),e / g⟩:=by rw [he,hgg,hX,hY]; rfl
  rw [hnorm]
  have hgdef:g=if e<0 then -((Xb (e::(X++Y)):Nat):Int) else (Xb (e::(X++Y)):Nat):=by rw [hgg,he,hX,hY]; rfl
  have hde:e=if d=0 then 1 else d:=by rw [he]; rfl
  simp only [←he,←hgg,←hX,←hY] at hd1 hg1 hg0 hgd htx hty cx cy bx by_
  clear hnorm hgg he hX hY
  refine Z7 Tryz.func74 rfl ?_
  refine go tt [.c [] cx,.c [] cy,.c [] cd,.c [] G9] rfl trivial ?_
  refine ct 1 (S:=Unit) (fun _=>[(2,.v (.one (.ow 1 0))),(3,.v (pr X)),(4,.v (pr Y)),(5,.v (.one (.ow 2 0)))]) (fun _=>[.blk 31 [.row lx,.row ly,.bool b,.row (lm l)],.blk 31 [.nils,.nils,.bool false,.nils],.blk 29 (Zx e)]) (fun _=>True) rfl ?_ ?_
  · by_cases h0:d=0
    · rw [hde,if_pos h0]
      exact go tt [.t (by simpa using h0),.c [] (Qlb (z:=1) (by decide))] rfl trivial (rc () trivial rfl)
    · rw [hde,if_neg h0]
      exact go tt [.f (by simpa using h0)] rfl trivial (rc () trivial rfl)
  · intro _ _
    have hgi:IsInts ([Zx e]++X.map Zx++Y.map Zx) (e::(X++Y)):=by
      have:=Xk (e::(X++Y))
      simpa using this
    have hgs:∀ z∈e::(X++Y),Ql z≤4294967295:=fun z hz=>by
      rcases List.mem_cons.1 hz with rfl | hz
      · exact hd1
      · rcases List.mem_append.1 hz with hz | hz
        · exact bx z hz
        · exact by_ z hz
    have cg:=Qum hgi hgs
    have co1:=Qvj (p:=X) (by omega) bx hg1 hg0 fun z hz=>hgd z (List.mem_cons_of_mem _ (List.mem_append_left _ hz))
    have co2:=Qvj (p:=Y) (by omega) by_ hg1 hg0 fun z hz=>hgd z (List.mem_cons_of_mem _ (List.mem_append_right _ hz))
    have ce:=Gn (Qe e) (Qe g) hd1 hg1 hg0 (hgd e (List.mem_cons_self ..))
    have hszg:=Io hgs
    by_cases hneg:e<0
    · rw [if_pos hneg] at hgdef
      have cn:=On (Qe ((Xb (e::(X++Y)):Nat):Int)) hszg
      rw [←hgdef] at cn
      exact en tt [.lo,.s (Qbe X),.s (Qbe Y),.c [] cg,.t (by simpa using hneg),.c [] cn,.c [] ce,.c [] co1,.c [] co2] rfl rfl (by simp [Qa]; omega)
    · rw [if_neg hneg] at hgdef
      rw [←hgdef] at cg
      exact en tt [.lo,.s (Qbe X),.s (Qbe Y),.c [] cg,.f (by simpa using hneg),.c [] ce,.c [] co1,.c [] co2] rfl rfl (by simp [Qa]; omega)
theorem Qet {lx ly:List (List LV)} {px py:List Int} {x y:LV} {d:Int} (hx:IsInts lx px) (hy:IsInts ly py) (hd:X2 x y d) (hk:Cs 4294967294 1073741824 (Crv.mk px py d)) (h0:d≠0):Qd Tryz.prog 215 [.one (.row lx),.one (.row ly),.agg [x,y]] [.agg (cl (Crv.norm (Crv.mk px py d))),.one (.int .i64 0)]:=by
  have cd:=U0 hd (Nat.le_trans hk.d (by omega))
  have cn:=Qoe hx hy hd hk
  obtain ⟨b,l,rfl,rfl,_⟩:=hd
  exact w tt Tryz.func215 rfl [.c [] cd,.c [] G9,.f (by simpa using h0),.c [] cn] rfl rfl trivial
theorem Q95 {lx ly:List (List LV)} {px py:List Int} (hx:IsInts lx px) (hy:IsInts ly py) (hk:Cs 4294967294 1073741824 (Crv.mk px py 0)):Qd Tryz.prog 17 [.one (.row lx),.one (.row ly)] [.agg (cl (Crv.norm (Crv.mk px py 0)))] :=
  w tt Tryz.func17 rfl [.c [] (Qoe hx hy Ws hk)] rfl rfl trivial
def Qq8 (x y:Int):Crv:=Crv.norm ⟨trim [x],trim [y],0⟩
theorem Qh6 {x y:Int} (hx:-9223372036854775808≤x∧x≤9223372036854775807) (hy:-9223372036854775808≤y∧y≤9223372036854775807):Cs 64 1 ⟨trim [x],trim [y],0⟩:=by
  have key:∀ z:Int,-9223372036854775808≤z∧z≤9223372036854775807→Ql z≤64:=fun z hz=>by
    rw [J3]
    have:(2:Nat)^64=18446744073709551616:=by decide
    omega
  refine ⟨Jo fun z hz=>?_,Jo fun z hz=>?_,Nat.zero_le _,Xl [x],Xl [y]⟩
  · rw [List.mem_singleton] at hz; rw [hz]; exact key x hx
  · rw [List.mem_singleton] at hz; rw [hz]; exact key y hy
theorem Qoc {x y:Int} (hx:-9223372036854775808≤x∧x≤9223372036854775807) (hy:-9223372036854775808≤y∧y≤9223372036854775807):Qd Tryz.prog 59 [.one (.int .i64 x),.one (.int .i64 y)] [.agg (cl (Qq8 x y))] :=
  w tt Tryz.func59 rfl [.c [] (Qux (p:=[x]) (show 1<274877906944 by decide) (by intro z hz; rw [List.mem_singleton] at hz; rw [hz]; exact hx)),.c [] (Qux (p:=[y]) (show 1<274877906944 by decide) (by intro z hz; rw [List.mem_singleton] at hz; rw [hz]; exact hy)),.c [] (Q95 (Xk _) (Xk _) ((Qh6 hx hy).mono (by omega) (by omega)))] rfl rfl trivial
end Orr

namespace Orr
open Go Go.Proofs
set_option maxRecDepth 10000
theorem Qmx {l:List Pt} {i:Nat} {p:Pt} (h:l[i]? = some p):(l.map Z6)[i]? = some [pl p.c.x,pl p.c.y,sg p.c.d,mg p.c.d,.int .i64 p.id]:=Xf h
theorem Qjy (l:List Pt):∀ c∈l.map Z6,c.length=5:=Q52 l fun _=>rfl
theorem Q14 {lx ly:List (List LV)} {px py:List Int} {x y:LV} {d:Int} (hx:IsInts lx px) (hy:IsInts ly py) (hd:X2 x y d) (hk:Cs 4294967294 1073741824 (Crv.mk px py d)) (id:Int):Qd Tryz.prog 165 [.agg [.row lx,.row ly,x,y,.int .i64 id]] [.agg (Z6 ⟨Crv.norm (Crv.mk px py d),id⟩)]:=by
  have cd:=U0 hd (Nat.le_trans hk.d (by omega))
  by_cases h0:d=0
  · subst h0
    have ck:Cs 4294967294 1073741824 (Crv.mk px py 1):=⟨hk.x,hk.y,show Ql 1≤4294967294 by decide,hk.lx,hk.ly⟩
    have cm:=Qet hx hy (Qe 1) ck (by decide)
    have e:Crv.norm (Crv.mk px py 1)=Crv.norm (Crv.mk px py 0):=by simp only [Crv.norm,Crv.g,Crv.d']; rfl
    rw [e] at cm
    obtain ⟨b,l,rfl,rfl,_⟩:=hd
    exact w tt Tryz.func165 rfl [.c [] cd,.c [] G9,.t (by simp),.c [] (Qlb (z:=1) (by decide)),.c [] cm] rfl rfl trivial
  · have cm:=Qet hx hy hd hk h0
    obtain ⟨b,l,rfl,rfl,_⟩:=hd
    exact w tt Tryz.func165 rfl [.c [] cd,.c [] G9,.f (by simpa using h0),.c [] cm] rfl rfl trivial
theorem Q96 {l:List Pt} (id:Int) (hl:l.length<1073741824):Qd Tryz.prog 164 [.agg [pts l],.one (.int .i64 id)] [.one (.int .i64 (En l id:Int)),.one (.bool (has l id))]:=by
  refine Z7 Tryz.func164 rfl ?_
  refine go tt [] rfl trivial ?_
  refine ct 2 (S:=Unit) (fun _=>[(1,.v (.one (.int .i64 id))),(2,.v (.one (.ow 0 0))),(6,.v (.one (.int .i64 (En l id:Int))))]) (fun _=>[.blk 72 [pts l]]) (fun _=>True) rfl ?_ ?_
  · refine lp (S:=Nat) 1 (fun L1 k=>(6,.v (.one (.int .i64 (k:Int))))::L1) (fun _=>[.blk 72 [pts l]]) (fun k=>l.length-k) (fun k=>k≤l.length∧∀ j p,j<k→l[j]? = some p→p.id<id) 0 ⟨Nat.zero_le _,fun j p h=>by omega⟩ rfl (fun _ _=>rfl) rfl fun k ⟨hk,hlt⟩=>?_
    by_cases h:k<l.length
    · obtain ⟨p,hp⟩:∃ p,l[k]? = some p:=⟨_,List.getElem?_eq_getElem h⟩
      by_cases hid:p.id<id
      · refine go tt [.t (by simp; omega),.x (Qmx hp),.t (by simpa using hid)] rfl (by simp [Qa]; omega) ?_
        exact rd (k+1) (by omega) ⟨h,fun j q hj hq=>by
          rcases Nat.lt_or_ge j k with h2 | h2
          · exact hlt j q h2 hq
          · have:j=k:=by omega
            subst this; rw [hp] at hq; injection hq with hq; rw [←hq]; exact hid⟩ rfl
      · have e:=Qmr hlt (.inr ⟨p,hp,hid⟩)
        refine go tt [.t (by simp; omega),.x (Qmx hp),.f (by simpa using hid)] rfl trivial ?_
        rw [e]
        exact rc () trivial rfl
    · obtain rfl:k=l.length:=by omega
      have e:=Qmr hlt (.inl rfl)
      refine go tt [.f (by simp),.f rfl] rfl trivial ?_
      rw [e]
      exact rc () trivial rfl
  · intro _ _
    by_cases h:En l id<l.length
    · obtain ⟨p,hp⟩:∃ p,l[En l id]? = some p:=⟨_,List.getElem?_eq_getElem h⟩
      have e:has l id=decide (p.id=id):=by simp [has,hp]
      rw [e]
      exact en tt [.g 30 true (by simp; omega),.x (Qmx hp)] rfl rfl trivial
    · have e:has l id=false:=by simp [has,List.getElem?_eq_none (Nat.le_of_not_lt h)]
      rw [e]
      exact en tt [.g 30 false (by simp; omega)] rfl rfl trivial
theorem Qeo {l:List Pt}:Qd Tryz.prog 126 [.agg [pts l]] [.one (pts l)]:=w tt Tryz.func126 rfl [] rfl rfl trivial
theorem Q90 {lx ly:List (List LV)} {px py:List Int} {x y:LV} {d id:Int} {l:List Pt} (hx:IsInts lx px) (hy:IsInts ly py) (hd:X2 x y d) (hk:Cs 4294967294 1073741824 (Crv.mk px py d)) (hl:l.length≤1000000) :
    Qd Tryz.prog 104 [.agg [pts l],.agg [.row lx,.row ly,x,y,.int .i64 id]] [.agg [pts (if Py l (Pt.mk (Crv.norm (Crv.mk px py d)) id)=0 then put l (Pt.mk (Crv.norm (Crv.mk px py d)) id) else l)],.one (.int .i64 (Py l (Pt.mk (Crv.norm (Crv.mk px py d)) id)))]:=by
  have ca:=Q96 (l:=l) id (by omega)
  have cf:=Q14 hx hy hd hk id
  obtain ⟨b,r,rfl,rfl,_⟩:=hd
  obtain ⟨q,hq⟩:∃ q,q=Pt.mk (Crv.norm (Crv.mk px py d)) id:=⟨_,rfl⟩
  have hqi:q.id=id:=by rw [hq]
  rw [←hq] at cf ⊢
  have hpl:=Qyp l id
  by_cases h1:has l id=true
  · have e:Py l q=6:=by simp [Py,hqi,h1]
    rw [e,if_neg (by decide)]
    exact w tt Tryz.func104 rfl [.c [] ca,.t h1] rfl rfl trivial
  by_cases h2:6≤l.length
  · have e:Py l q=9:=by simp [Py,hqi,h1,h2]
    rw [e,if_neg (by decide)]
    exact w tt Tryz.func104 rfl [.c [] ca,.f (by simpa using h1),.t (by simp; omega)] rfl rfl trivial
  have e:Py l q=0:=by simp [Py,hqi,h1,h2]
  rw [e,if_pos rfl]
  have s1:∀ c∈(l.map Z6).take (En l id),c.length=5:=fun c hc=>Qjy l c (List.mem_of_mem_take hc)
  have s3:∀ c∈(l.map Z6).drop (En l id),c.length=5:=fun c hc=>Qjy l c (List.mem_of_mem_drop hc)
  refine w tt Tryz.func104 rfl [.c [] ca,.f (by simpa using h1),.f (by simp; omega),.i (En l id),.s s1,.c [] cf,.i (En l id),.s s3] rfl ?_ ?_
  · simp [put,hqi,pts,List.map_take,List.map_drop,Z6]
  · simp [Qa]
    exact ⟨by omega,hpl,fun _ _=>rfl,by omega,by omega,hpl⟩
theorem Qx6:∀ (qs:List Pt),(J4 [] qs).1.length≤qs.length:=by
  have key:∀ (qs acc:List Pt),(J4 acc qs).1.length≤acc.length+qs.length:=by
    intro qs
    induction qs with
    | nil=>intro acc; simp [J4]
    |
     cons q qs ih =>
     intro acc
     simp only [J4]
     split
     · have:=ih (put acc q); rw [Qqr] at this; simp only [List.length_cons]; omega
     · simp
  intro qs
  have:=key qs []
  simpa using this
theorem Q9w {zs:List (List LV)} {qs:List Pt} (hz:IsPts 4294967294 1073741824 zs qs) (hl:qs.length≤6):Qd Tryz.prog 77 [.one (.row zs)] [.agg [pts (J4 [] qs).1],.one (.int .i64 (J4 [] qs).2)]:=by
  refine Z7 Tryz.func77 rfl ?_
  have hzl:=hz.len
  refine go tt [.f (by simp; omega)] rfl trivial ?_
  refine nlb 1 rfl rfl rfl ?_
  refine lp (S:=Nat) 2 (fun L1 i=>(14,.v (.one (.int .i64 (i:Int))))::L1) (fun i=>[.blk 72 [.nils],.blk 72 [pts (J4 [] (qs.take i)).1]]) (fun i=>qs.length-i) (fun i=>i≤qs.length∧(J4 [] (qs.take i)).2=0) 0 ⟨Nat.zero_le _,rfl⟩ rfl (fun _ _=>rfl) rfl fun i ⟨hi,h0⟩=>?_
  by_cases hlt:i<qs.length
  · have hqi:qs[i]? = some qs[i]:=List.getElem?_eq_getElem hlt
    obtain ⟨z,hzi,lx,ly,b,r,px,py,d,rfl,hx,hy,hd,hk,hc⟩:=hz.get hqi
    have hq:(Pt.mk (Crv.norm (Crv.mk px py d)) qs[i].id)=qs[i]:=by rw [←hc]
    have hst:=Qs4 [] qs hqi (by rw [←h0])
    have hnl:=Qx6 (qs.take i)
    have cp:=Q90 (l:=(J4 [] (qs.take i)).1) (id:=qs[i].id) hx hy hd hk (by rw [List.length_take] at hnl; omega)
    rw [hq] at cp
    by_cases he:Py (J4 [] (qs.take i)).1 qs[i]=0
    · rw [if_pos he] at hst
      rw [he,if_pos rfl] at cp
      refine go tt [.t (by simp; omega),.x hzi,.c [] cp,.f rfl] rfl (by simp [Qa]; omega) ?_
      exact rd (i+1) (by omega) ⟨hlt,by rw [hst]⟩ (by rw [hst]; rfl)
    · rw [if_neg he] at hst
      have herr:=Qx5 [] qs he hst
      rw [herr]
      exact en tt [.t (by simp; omega),.x hzi,.c [] cp,.t (by simpa using he)] rfl rfl trivial
  · obtain rfl:i=qs.length:=by omega
    rw [List.take_length] at h0
    rw [List.take_length,h0]
    exact en tt [.f (by simp; omega)] rfl rfl trivial
end Orr

namespace Orr
open Go Go.Proofs
set_option maxRecDepth 10000
theorem Qrf (q:Rat):Qj [-q.num,(q.den:Int)]:=by
  have:=q.den_nz
  simp [Qj,trim,this]
theorem Q9r {s:Nat} {q:Rat} (h:Qs s q):Bd s [-q.num,(q.den:Int)]:=fun z hz=>by
  simp at hz
  rcases hz with rfl | rfl
  · rw [Z8]; exact h.1
  · exact h.2
theorem Q5i {x y x' y':LV} {n d:Int} (h1:X2 x y n) (h2:X2 x' y' d) (hn:Ql n≤4294967295) (hd:Ql d≤4294967295) (hq:Qs 4294967295 (Zu n d)):Qd Tryz.prog 78 [.agg [x,y,x',y']] [.agg (qa (Zu n d))]:=by
  have c1:=Qvv h1 h2 hn hd
  obtain ⟨b,l,rfl,rfl,_⟩:=h1
  obtain ⟨b',l',rfl,rfl,_⟩:=h2
  exact w tt Tryz.func78 rfl [.c [] c1,.c [] (On (Qe _) hq.1),.c [] (Gt hq)] rfl rfl trivial
theorem Gq {k:Crv} (hn:Nml k) (hk:Cs 4294967294 1073741824 k):Qd Tryz.prog 183 [.agg (cl k)] [.agg (cl k)]:=by
  have h0:k.d≠0:=by have:=hn.2.2.1; omega
  have cm:=Qet (Xk k.x) (Xk k.y) (Qe k.d) hk h0
  rw [show Crv.mk k.x k.y k.d=k from rfl,Crv.norm_of hn] at cm
  exact w tt Tryz.func183 rfl [.c [] (U0 (Qe k.d) (Nat.le_trans hk.d (by omega))),.c [] G9,.f (by simpa using h0),.c [] cm] rfl rfl trivial
theorem Q1w {a b:Crv} (ha:Nml a) (hb:Nml b) (ca:Cb a) (cb:Cb b):Qd Tryz.prog 188 [.agg (cl a),.agg (cl b)] [pr (Xi a b)]:=by
  have l1:=ca.lx
  have l2:=cb.lx
  have l3:=Qt b.x a.d
  have l4:=Qt a.x b.d
  exact w tt Tryz.func188 rfl [.c [] (Gq ha (ca.mono (by omega) (by omega))),.c [] (Gq hb (cb.mono (by omega) (by omega))),.c [] (Ue (by omega) (Qc cb.x (by omega)) (Nat.le_trans ca.d (by omega))),.c [] (Ue (by omega) (Qc ca.x (by omega)) (Nat.le_trans cb.d (by omega))),.c [] (Oo (by omega) (by omega) (Qc (Qz cb.x ca.d) (by omega)) (Qc (Qz ca.x cb.d) (by omega)))] rfl rfl trivial
theorem Q1j {a b:Crv} (ha:Nml a) (hb:Nml b) (ca:Cb a) (cb:Cb b):Qd Tryz.prog 189 [.agg (cl a),.agg (cl b)] [pr (Xh a b)]:=by
  have l1:=ca.ly
  have l2:=cb.ly
  have l3:=Qt b.y a.d
  have l4:=Qt a.y b.d
  exact w tt Tryz.func189 rfl [.c [] (Gq ha (ca.mono (by omega) (by omega))),.c [] (Gq hb (cb.mono (by omega) (by omega))),.c [] (Ue (by omega) (Qc cb.y (by omega)) (Nat.le_trans ca.d (by omega))),.c [] (Ue (by omega) (Qc ca.y (by omega)) (Nat.le_trans cb.d (by omega))),.c [] (Oo (by omega) (by omega) (Qc (Qz cb.y ca.d) (by omega)) (Qc (Qz ca.y cb.d) (by omega)))] rfl rfl trivial
def Yp (ps:List (List Int)):List (List LV):=ps.map fun p=>[pl p]
theorem Ji {ps:List (List Int)} {i:Nat} {p:List Int} (h:ps[i]? = some p):(Yp ps)[i]? = some [pl p]:=Xf h
end Orr

namespace Orr
open Go Go.Proofs
set_option maxRecDepth 10000
theorem Qr3:Qd Tryz.prog 186 [.one (.int .i64 5)] [.one (.int .i64 4)]:=w tt Tryz.func186 rfl [.f rfl,.f rfl,.f rfl,.f rfl,.t rfl] rfl rfl trivial
theorem Quo {k i0 i1 i2 i3 l j0 j1 j2 j3:Int}:Qd Tryz.prog 153 [.agg [.int .i64 k,.int .i64 i0,.int .i64 i1,.int .i64 i2,.int .i64 i3],.agg [.int .i64 l,.int .i64 j0,.int .i64 j1,.int .i64 j2,.int .i64 j3]] [.one (.bool (X3 [k,i0,i1,i2,i3] [l,j0,j1,j2,j3]))]:=by
  by_cases hk:k=l
  · subst hk
    rw [show X3 [k,i0,i1,i2,i3] [k,j0,j1,j2,j3]=X3 [i0,i1,i2,i3] [j0,j1,j2,j3] from by simp [X3]]
    refine Z7 Tryz.func153 rfl ?_
    refine go tt [.f (by simp)] rfl trivial ?_
    refine lp (S:=Nat) 2 (fun L1 i=>(19,.v (.one (.int .i64 (i:Int))))::L1) (fun _=>[.blk 159 [.int .i64 k,.int .i64 i0,.int .i64 i1,.int .i64 i2,.int .i64 i3],.blk 159 [.int .i64 k,.int .i64 j0,.int .i64 j1,.int .i64 j2,.int .i64 j3]]) (fun i=>4-i) (fun i=>i≤4∧X3 ([i0,i1,i2,i3].drop i) ([j0,j1,j2,j3].drop i)=X3 [i0,i1,i2,i3] [j0,j1,j2,j3]) 0 ⟨by omega,rfl⟩ rfl (fun _ _=>rfl) rfl fun i ⟨hi,he⟩=>?_
    rw [←he]
    rcases (show i=0∨i=1∨i=2∨i=3∨i=4 by omega) with rfl | rfl | rfl | rfl | rfl
    · by_cases h:i0=j0
      · exact go tt [.t rfl,.i 0,.i 0,.f (by simpa using h)] rfl (by simp [Qa]) (rd 1 (by omega) ⟨by omega,by simp [X3,h]⟩ rfl)
      · exact en tt [.t rfl,.i 0,.i 0,.t (by simpa using h),.i 0] rfl (by simp [X3,h]) trivial
    · by_cases h:i1=j1
      · exact go tt [.t rfl,.i 1,.i 1,.f (by simpa using h)] rfl (by simp [Qa]) (rd 2 (by omega) ⟨by omega,by simp [X3,h]⟩ rfl)
      · exact en tt [.t rfl,.i 1,.i 1,.t (by simpa using h),.i 1] rfl (by simp [X3,h]) trivial
    · by_cases h:i2=j2
      · exact go tt [.t rfl,.i 2,.i 2,.f (by simpa using h)] rfl (by simp [Qa]) (rd 3 (by omega) ⟨by omega,by simp [X3,h]⟩ rfl)
      · exact en tt [.t rfl,.i 2,.i 2,.t (by simpa using h),.i 2] rfl (by simp [X3,h]) trivial
    · by_cases h:i3=j3
      · exact go tt [.t rfl,.i 3,.i 3,.f (by simpa using h)] rfl (by simp [Qa]) (rd 4 (by omega) ⟨by omega,by simp [X3,h]⟩ rfl)
      · exact en tt [.t rfl,.i 3,.i 3,.t (by simpa using h),.i 3] rfl (by simp [X3,h]) trivial
    · exact en tt [.f rfl] rfl (by simp [X3]) trivial
  · exact w tt Tryz.func153 rfl [.t (by simpa using hk)] rfl (by simp [X3,hk]) trivial
abbrev zCt:List LV:=[.int .i64 0,.int .i64 0,.int .i64 0,.int .i64 0,.int .i64 0,.nils,.int .i64 0]
def Zy (l:List Ct):List (List LV):=l.map A0
theorem Lm {l:List Ct} {i:Nat} {c:Ct} (h:l[i]? = some c):(Zy l)[i]? = some (A0 c):=Xf h
theorem Fq (l:List Ct):(Zy l).length=l.length:=by simp [Zy]
theorem Qv9 (l:List Ct):∀ c∈Zy l,c.length=7:=fun c hc=>by
  obtain ⟨x,_,rfl⟩:=List.mem_map.1 hc; rfl
theorem Qxn {O:List Ct} {z:List LV} {c:Ct} {k m:Nat} {l2:List (List LV)} (hk:k≤O.length) (hp:Pu O c O.length=k) (hm:m=O.length-k) (h2:l2.take m=((Zy O++[z]).drop k).take m) :
    ((Zy O++[z]).take (k+1)++(l2.take m++(Zy O++[z]).drop (k+1+m))).set k (A0 c)=Zy (Nx O c):=by
  rw [h2,←List.append_assoc,Qxm (Zy O) z (A0 c) (by rw [Fq]; omega) (by rw [Fq]; omega)]
  simp [Nx,hp,Zy,List.map_take,List.map_drop]
theorem Qlf {l:List Ct} (hl:∀ c∈l,Pb c.p) (hn:l.length≤1000000):Qd Tryz.prog 90 [.one (.row (Zy l))] [.one (.row (Zy (Z9 l)))]:=by
  have hcl:=Fq l
  refine Z7 Tryz.func90 rfl ?_
  refine go tt [.o 3 161 7] rfl trivial ?_
  refine lp (S:=Nat) 1 (fun L1 i=>(9,.v (.one (.int .i64 (i:Int))))::(3,.v (.one (.orow 0 7 none)))::L1) (fun i=>[.row false 161 7 (Zy (Z9 (l.take i)))]) (fun i=>l.length-i) (fun i=>i≤l.length) 0 (Nat.zero_le _) rfl (fun _ _=>rfl) rfl fun i hi=>?_
  by_cases hlt:i<l.length
  · obtain ⟨c,hc⟩:∃ c,l[i]? = some c:=⟨_,List.getElem?_eq_getElem hlt⟩
    have hst:=Qng hc
    have hcp:=hl c (List.mem_of_getElem? hc)
    obtain ⟨O,hO⟩:∃ O,O=Z9 (l.take i):=⟨_,rfl⟩
    have hOl:O.length=i:=by rw [hO,Fi,List.length_take]; omega
    rw [←hO] at hst ⊢
    refine go tt [.t (by simp [hcl]; omega),.x (Lm hc)] rfl trivial ?_
    refine lp (S:=Nat) 2 (fun L1 k=>(6,.v (.one (.int .i64 (k:Int))))::L1) (fun k=>[.row false 161 7 (Zy O),.blk 161 (A0 c)]) id (fun k=>k≤O.length∧Pu O c k=Pu O c O.length) (Zy O).length ⟨by rw [Fq]; exact Nat.le_refl _,by rw [Fq]⟩ rfl (fun _ _=>rfl) rfl fun k ⟨hk,hp⟩=>?_
    have hz:∀ y∈[zCt],y.length=7:=fun y hy=>by rw [List.mem_singleton.1 hy]; rfl
    have h77:∀ y∈Zy O++[zCt],y.length=7:=fun y hy=>by
      rcases List.mem_append.1 hy with hy | hy
      · exact Qv9 O y hy
      · exact hz y hy
    cases k with
    |
     zero =>
     have hp:Pu O c O.length=0:=by rw [←hp]; rfl
     refine go tt [.g 17 false (by simp),.f rfl,.s (sz:=7) hz,.r 36 (eI (b:=((0+1:Nat):Int)) (by simp)),.i (0+1),.i (0),.s (sz:=7) (fun y hy=>h77 y (List.mem_of_mem_take hy)),.i (O.length),.c [] (Xz hcp.t (by have:=hcp.l; omega) (Qc hcp.b (by omega))),.i (0)] rfl (by simp [Qa,Fq]; omega) ?_
     exact rd (i+1) (by omega) hlt (by rw [hst,←Qxn (z:=zCt) (l2:=(Zy O++[zCt]).take ((Zy O++[zCt]).length-0)) (k:=0) (m:=O.length) (by omega) hp (by omega) (by congr 1; exact List.take_of_length_le (by simp))]; rfl)
    |
     succ k =>
     obtain ⟨x,hx⟩:∃ x,O[k]? = some x:=⟨_,List.getElem?_eq_getElem (by omega)⟩
     by_cases hlc:Kd c x=true
     · refine go tt [.g 17 true (by simp),.r 22 (eI (b:=(k:Int)) (by simp)),.i k,.x (Lm hx),.c [] Quo,.t hlc,.r 29 (eI (b:=(k:Int)) (by simp))] rfl (by simp [Qa,Fq]; omega) ?_
       exact rd k (by simp) ⟨by omega,by rw [←hp,Q3w hx hlc]⟩ rfl
     · have hlc:Kd c x=false:=by simpa using hlc
       have hp:Pu O c O.length=k+1:=by rw [←hp,Qyo hx hlc]
       refine go tt [.g 17 true (by simp),.r 22 (eI (b:=(k:Int)) (by simp)),.i k,.x (Lm hx),.c [] Quo,.f hlc,.s (sz:=7) hz,.r 36 (eI (b:=((k+1+1:Nat):Int)) (by simp)),.i (k+1+1),.i (k+1),.s (sz:=7) (fun y hy=>h77 y (List.mem_of_mem_drop (List.mem_of_mem_take hy))),.i (O.length-(k+1)),.c [] (Xz hcp.t (by have:=hcp.l; omega) (Qc hcp.b (by omega))),.i (k+1)] rfl (by simp [Qa,Fq]; omega) ?_
       exact rd (i+1) (by omega) hlt (by rw [hst,←Qxn (z:=zCt) (l2:=((Zy O++[zCt]).drop (k+1)).take ((Zy O++[zCt]).length-(k+1))) (k:=k+1) (m:=O.length-(k+1)) (by omega) hp (by omega) (by congr 1; exact List.take_of_length_le (by simp))]; rfl)
  · obtain rfl:i=l.length:=by omega
    rw [List.take_length]
    exact en tt [.f (by simp [hcl])] rfl rfl trivial
end Orr

namespace Orr
def Qr (p:List Int):Int:=p.getD (p.length-1) 0
def chk (p:List Int):Option (List Int):=if p.length≤64∧(p.all fun z=>Nat.ble (Ql z) 16777216)=true then some p else none
def chq (q:Rat):Option Rat:=if Ql q.num≤16777216∧Ql (q.den:Int)≤16777216 then some q else none
def J8 (p:List Int):Int:=(Xb p:Nat)
def Wl (p:List Int) (c:Int):List Int:=trim (p.map (· / c))
def Z4 (p:List Int):Int:=if Qr p<0 then -J8 p else J8 p
def Qn (p:List Int):List Int:=if p.length=0 then [] else Wl p (Z4 p)
def mono (i:Nat) (x:Int):List Int:=List.replicate i 0++[x]
def psd (b:List Int) (c:Int):Nat→List Int×List Int→List Int×List Int
  | 0,s=>s
  |
   i+1,(q,r) =>
   psd b c i (Nc (Qx q c) (mono i (if r.length=b.length+i then Qr r else 0)),Vp (Qx r c) (Zh (trim (mono i (if r.length=b.length+i then Qr r else 0))) b))
def Yv (a b:List Int):List Int:=(psd b (Qr b) (a.length+1-b.length) ([],a)).2
def Kg (a b r:List Int):List Int:=if (a.length+1-b.length) % 2=1∧Qr b<0 then Vg r else r
def Nj (r:List Int):List Int:=if r.length=0 then [] else Wl r (J8 r)
def X5 (a b:List Int):List Int:=Nj (Kg a b (Yv a b))
def Qf6 (b:List Int):Nat→List Int→List Int→Option (List Int)
  | 0,a,q=>if a.length=0 then some q else none
  | i+1,a,q=>if a.length<b.length+i then Qf6 b i a q else if Qr a % Qr b=0 then Qf6 b i (Vp a (Zh (trim (mono i (Qr a / Qr b))) b)) (q.set i (Qr a / Qr b)) else none
def Pv (a b:List Int):Option (List Int):=if b.length=0 then none else (Qf6 b (a.length+1-b.length) a (List.replicate (a.length+1-b.length) 0)).bind fun q=>chk (trim q)
def Ev:Nat→List Int→List Int→Option (List Int)
  | 0,_,_=>none
  | k+1,a,b=>if b.length=0 then some a else (chk (X5 a b)).bind fun r=>Ev k b r
def Px (a b:List Int):Option (List Int):=(Ev 66 (Qn a) (Qn b)).map Qn
def Qf8 (a b:List Int):Option (List Int):=(Px [] a).bind fun g=>Px g b
def Vh (a:List Int):Option (List Int):=if (Qn a).length<2 then some (Qn a) else (chk (Zn (Qn a))).bind fun d=>(Px (Qn a) d).bind fun g=>Pv (Qn a) g
def Ea:Nat→List Int→Option (List (List Int))
  | 0,_=>none
  | k+1,g=>if g.length<2 then some [] else (chk (Zn g)).bind fun d=>(Px g d).bind fun h=>(Pv g h).bind fun w=>(Ea k h).bind fun l=>some (w::l)
def Qb5:List (List Int)→Option (List (List Int))
  | []=>some []
  | [w]=>some [w]
  | w::v::l=>(Pv w v).bind fun f=>(Qb5 (v::l)).bind fun r=>some (f::r)
def Da:Nat→List Int→List (List Int)→Option (List Int)
  | _,p,[]=>some p
  | i,p,f::l=>if i % 2=0 then (chk (Zh p f)).bind fun q=>Da (i+1) q l else Da (i+1) p l
def Qmp (a:List Int):Option (List Int):=if (Qn a).length=0 then some [] else (Ea 66 (Qn a)).bind fun l=>(Qb5 l).bind fun fs=>Da 0 [1] fs
def chF:Nat→List Int→List Int→Option (List (List Int))
  | 0,_,_=>none
  | k+1,a,b=>if b.length=0 then some [] else (chk (X5 a b)).bind fun r=>(chF k b (Vg r)).bind fun l=>some (b::l)
def Hq (p:List Int):Option (List (List Int)):=(Vh p).bind fun a=>if a.length=0 then none else (chk (Zn a)).bind fun d=>(chF 66 a (Qn d)).bind fun l=>some (a::l)
def Yh (sg:List Int→Int) (s:Nat×Int) (p:List Int):Nat×Int:=if sg p=0 then s else (if s.2=-(sg p) then s.1+1 else s.1,sg p)
def Kj (sg:List Int→Int) (l:List (List Int)):Nat:=(l.foldl (Yh sg) (0,0)).1
def Wc (l:List (List Int)) (q:Rat):Nat:=Kj (fun p=>Z0 p q) l
def Jc (l:List (List Int)) (lo hi:Rat):Int:=if Zs hi lo<0 then 0 else (Wc l lo:Int)-(Wc l hi:Int)
def Ci (p:List Int):Int:=Int.sign (Qr p)
def Se (p:List Int):Int:=if p.length % 2=0 then -Int.sign (Qr p) else Int.sign (Qr p)
def Pz (l:List (List Int)):Int:=(Kj Se l:Int)-(Kj Ci l:Int)
def most:List Int→Nat:=fun l=>l.foldl (fun m z=>if m<z.natAbs then z.natAbs else m) 0
def Zw (p:List Int):Rat:=Rat.divInt (((Qr p).natAbs:Int)+(most (p.take (p.length-1)):Int)) ((Qr p).natAbs:Int)
def mid (a b:Rat):Rat:=Rat.divInt (a.num*(b.den:Int)+b.num*(a.den:Int)) ((a.den:Int)*(b.den:Int)*2)
def Gf (p:List Int) (c:List (List Int)):Nat→Rat→Rat→Int→Option (List Tm)
  | 0,_,_,_=>none
  | k+1,lo,hi,n=>if n=0 then some [] else if n=1 then some [⟨p,lo,hi⟩] else (chq (mid lo hi)).bind fun m=>(Gf p c k lo m (Jc c lo m)).bind fun l=>(Gf p c k m hi (n-Jc c lo m)).bind fun r=>some (l++r)
def Qbn (p:List Int):Option (List Tm):=(Hq p).bind fun c=>(Vh p).bind fun q=>(chq (Zw q)).bind fun b=>Gf q c 100000 (-b) b (Pz c)
def Tm.point (a:Tm):Bool:=decide (0≤Zs a.lo a.hi)
def low (p:List Int) (q:Rat):Int:=if Z0 p q≠0 then Z0 p q else Z0 (Zn p) q
def Co (p:List Int) (lo hi:Rat):Bool:=decide (Z0 p hi=0∨Z0 p hi≠low p lo)
def Qu (a:Tm) (t:Rat):Int :=
  if a.point=true then Zs a.lo t else if Zs t a.lo≤0 then 1 else if 0<Zs t a.hi then -1 else if Z0 a.p t=0 then 0 else if Z0 a.p t=low a.p a.lo then 1 else -1
def Qfh (a:Tm):Option Tm:=if a.point=true then some a else (chq (mid a.lo a.hi)).bind fun m =>
  some (if Qu a m=0 then ⟨a.p,m,m⟩ else if Qu a m=-1 then ⟨a.p,a.lo,m⟩ else ⟨a.p,m,a.hi⟩)
def Zp (p:List Int):Nat:=p.foldl (fun n z=>max n (Ql z)) 0
def Yo (a b:Tm):Nat:=64+2*(Ql a.lo.num+Ql a.hi.num+Ql b.lo.num+Ql b.hi.num)+4*(a.p.length+b.p.length)*(Zp a.p+Zp b.p+(a.p.length+b.p.length)+8)
def Qbp (a b:Rat):Rat:=Rat.divInt (a.num*(b.den:Int)-b.num*(a.den:Int)) ((a.den:Int)*(b.den:Int))
def Wi (a b:Tm):Bool:=decide (Zs a.hi b.lo≤0∧¬((a.point=true∧b.point=true)∧Zs a.hi b.lo=0))
def apF:Nat→Tm→Tm→Option (Tm×Tm×Int)
  | 0,a,b=>some (a,b,0)
  |
   k+1,a,b=>if Wi a b=true then some (a,b,-1) else if Wi b a=true then some (a,b,1) else
   if 0≤Zs (Qbp a.hi a.lo) (Qbp b.hi b.lo) then (Qfh a).bind fun x=>apF k x b else (Qfh b).bind fun x=>apF k a x
def O3 (a b:Tm):Option Int:=if a.point=true then some (-Qu b a.lo) else if b.point=true then some (Qu a b.lo) else
  let lo:=if 0<Zs b.lo a.lo then b.lo else a.lo
  let hi:=if Zs b.hi a.hi<0 then b.hi else a.hi
  if Zs lo hi<0 then (Qf8 a.p b.p).bind fun g=>if 1<g.length∧Co g lo hi=true then some 0 else (apF (Yo a b) a b).bind fun r=>some r.2.2
  else (apF (Yo a b) a b).bind fun r=>some r.2.2
def sgF (c:List (List Int)):Nat→Tm→Option Tm
  | 0,a=>some a
  | k+1,a=>if a.point=true∨Jc c a.lo a.hi=0 then some a else (Qfh a).bind fun x=>sgF c k x
def Qd8 (p:List Int) (a:Tm):Option Int:=if p.length=0 then some 0 else if a.point=true then some (Z0 p a.lo) else
  (Qf8 p a.p).bind fun g=>if 1<g.length∧Co g a.lo a.hi=true then some 0 else (Hq p).bind fun c=>(sgF c (64+2*(Ql a.lo.num+Ql a.hi.num)+4*(a.p.length+p.length)*(Zp a.p+Zp p+(a.p.length+p.length)+8)) a).bind fun x=>some (Z0 p x.hi)
def Tk:Tm→List Tm→Option Tm
  | b,[]=>some b
  | b,a::l=>(O3 a b).bind fun c=>Tk (if c<0 then a else b) l
def Ni (a:Tm):List Tm→Option (Option Tm)
  | []=>some none
  | r::l=>(O3 r a).bind fun c=>if 0<c then some (some r) else Ni a l
def Bt (p:List Int):Option (List Tm):=(Qmp p).bind fun q=>if q.length=0 then some [] else Qbn q
def Aj (p:List Int) (a:Tm):Option (Option Tm):=(Bt p).bind fun l=>Ni a l
end Orr

namespace Orr
open Go Go.Proofs
set_option maxRecDepth 10000
theorem U6 {p:List Int} (tp:Qj p) (h:p.length≠0):Qr p≠0:=Xm tp (by omega)
theorem Qa5 {p:List Int} (h:p.length≠0):Qr p∈p:=List.mem_of_getElem? (Xs (by omega))
theorem Vs {s:Nat} {p:List Int} (h:Bd s p):Ql (Qr p)≤s:=Qq h _
theorem Ff {p:List Int}:∀ z∈p,J8 p∣z:=S7
theorem Pp {p:List Int} (tp:Qj p) (h:p.length≠0):J8 p≠0:=fun h0=>U6 tp h (Int.zero_dvd.1 (h0 ▸ Ff _ (Qa5 h)))
theorem Mm {p:List Int} (h:Bd 4294967295 p):Ql (J8 p)≤4294967295:=Io h
theorem Qqi {p:List Int} (tp:Qj p) (h:p.length≠0):Z4 p≠0:=by
  have:=Pp tp h
  unfold Z4; split <;> omega
theorem Dc {p:List Int}:∀ z∈p,Z4 p∣z:=fun z hz=>by
  unfold Z4; split
  · exact Int.neg_dvd.2 (Ff z hz)
  · exact Ff z hz
theorem Qxp {p:List Int} (h:Bd 4294967295 p):Ql (Z4 p)≤4294967295:=by
  unfold Z4; split
  · rw [Z8]; exact Mm h
  · exact Mm h
theorem Oh {s:Nat} {p:List Int} (h:Bd s p) (c:Int):Bd s (Wl p c):=Jo (Ld h c)
theorem Qdf (p:List Int) (c:Int):(Wl p c).length≤p.length:=Nat.le_trans (Xl _) (by simp)
theorem Tt (p:List Int) (c:Int):Qj (Wl p c):=Xv _
theorem Qyj {p:List Int} (h:Pb p) (c:Int):Pb (Wl p c):=⟨Tt _ _,Nat.le_trans (Qdf _ _) h.l,Oh h.b c⟩
theorem Ek:Pb []:=⟨rfl,by simp,Sp⟩
theorem X1 {p:List Int} (h:Pb p):Pb (Qn p):=by
  unfold Qn; split
  · exact Ek
  · exact Qyj h _
theorem Pb.bd {p:List Int} (h:Pb p):Bd 4294967295 p:=Qc h.b (by omega)
theorem Pb.ln {p:List Int} (h:Pb p):p.length<274877906944:=Nat.lt_of_le_of_lt h.l (by omega)
theorem Pb.ln' {p:List Int} (h:Pb p):p.length<8589934592:=Nat.lt_of_le_of_lt h.l (by omega)
theorem Rz {p q:List Int} (tp:Qj p) (h:chk p=some q):q=p∧Pb p:=by
  unfold chk at h
  split at h
  · rename_i hc
    injection h with h
    refine ⟨h.symm,tp,hc.1,fun z hz=>?_⟩
    have:=List.all_eq_true.1 hc.2 z hz
    exact Nat.le_of_ble_eq_true this
  · cases h
theorem Qof {p:List Int} {g:Int} (hl:p.length<274877906944) (hp:Bd 4294967295 p) (hg:Ql g≤4294967295) (h0:g≠0) (hd:∀ z∈p,g∣z):Qd Tryz.prog 296 [pr p,.agg (Zx g)] [pr (Wl p g)]:=by
  refine Z7 Tryz.func296 rfl ?_
  refine go tt [.r 9 (eI (b:=(p.length:Int)) (by simp)),.i p.length,.i p.length,.r 12 (eI (b:=(p.length:Int)) (by simp))] rfl (by simp [Qa]; omega) ?_
  rw [Fv fun k=>Zx (p.getD k 0 / g)]
  refine lp (S:=Nat) 2 (fun L1 k=>(13,.v (.one (.int .i64 (k:Int))))::L1) (fun k=>[.blk 29 (Zx g),.row false 29 2 (fil (fun k=>Zx (p.getD k 0 / g)) [.bool false,.nils] p.length k)]) (fun k=>p.length-k) (fun k=>k≤p.length) 0 (Nat.zero_le _) rfl (fun _ _=>rfl) rfl fun k hk=>?_
  by_cases hlt:k<p.length
  · have hg2:=Xs hlt
    refine go tt [.t (by simp; omega),.x (Yc hg2),.c [] (Gn (Qe _) (Qe _) (Qq hp k) hg h0 (Int.emod_eq_zero_of_dvd (hd _ (List.mem_of_getElem? hg2)))),.i k] rfl (by simp [Qa,Gz]; omega) ?_
    have e:=Tg (fun k=>Zx (p.getD k 0 / g)) [.bool false,.nils] hlt
    rw [e]
    exact rd (k+1) (by omega) hlt rfl
  · obtain rfl:k=p.length:=by omega
    have e:fil (fun k=>Zx (p.getD k 0 / g)) [.bool false,.nils] p.length p.length=(p.map (· / g)).map Zx:=by
      rw [Tf]
      refine List.ext_getElem? fun i=>?_
      by_cases hi:i<p.length
      · simp [List.getElem?_range hi,List.getD,List.getElem?_eq_getElem hi]
      · simp [List.getElem?_eq_none,hi]
    rw [e]
    exact en tt [.f (by simp),.c [] (Uz (Xk (p.map (· / g))) (by simp; exact hl) (Ld hp g))] rfl rfl trivial
theorem Li {p:List Int} (hl:p.length<8589934592) (hp:Bd 4294967295 p):Qd Tryz.prog 297 [.one (.row [[pl p]])] [.agg (Zx (J8 p))]:=by
  refine Z7 Tryz.func297 rfl ?_
  refine go tt [.o 3 29 2] rfl trivial ?_
  refine lp (S:=Nat) 2 (fun L1 i=>(8,.v (.one (.int .i64 (i:Int))))::(3,.v (.one (.orow 1 2 none)))::L1) (fun i=>[.blk 29 [.bool false,.nils],.row false 29 2 (if i=0 then [] else p.map Zx)]) (fun i=>1-i) (fun i=>i≤1) 0 (Nat.zero_le _) rfl (fun _ _=>rfl) rfl fun i hi=>?_
  rcases (show i=0∨i=1 by omega) with rfl | rfl
  · refine go tt [.t rfl,.x (i:=0) (xs:=[pl p]) rfl,.s (Qbe p)] rfl (by simp [Qa]; omega) ?_
    exact rd 1 (by omega) (by omega) rfl
  · exact en tt [.f rfl,.c [] (Qum (Xk p) hp)] rfl rfl trivial
theorem Qvl {p:List Int} (tp:Qj p) (hl':p.length<8589934592) (hp:Bd 4294967295 p):Qd Tryz.prog 271 [pr p] [.agg (Zx (if p.length=0 then 0 else Z4 p)),pr (Qn p)]:=by
  have hl:p.length<274877906944:=by omega
  have cn:=Xz tp hl hp
  by_cases h0:p.length=0
  · have e:p=[]:=List.eq_nil_of_length_eq_zero h0
    subst e
    exact w tt Tryz.func271 rfl [.c [] cn,.t rfl] rfl (by simp [Gb,Qn]; rfl) trivial
  · have hpf:Qn p=Wl p (Z4 p):=by unfold Qn; rw [if_neg h0]
    rw [if_neg h0,hpf]
    have co:=Qof hl hp (Qxp hp) (Qqi tp h0) Dc
    by_cases hneg:Qr p<0
    · have e:Z4 p=-J8 p:=by unfold Z4; rw [if_pos hneg]
      rw [e] at co ⊢
      exact w tt Tryz.func271 rfl [.c [] cn,.f (by simpa using h0),.c [] (Li hl' hp),.c [] (W4 tp hl hp),.t (by simpa [Qr] using hneg),.c [] (On (Qe _) (Mm hp)),.c [] co] rfl rfl trivial
    · have e:Z4 p=J8 p:=by unfold Z4; rw [if_neg hneg]
      rw [e] at co ⊢
      exact w tt Tryz.func271 rfl [.c [] cn,.f (by simpa using h0),.c [] (Li hl' hp),.c [] (W4 tp hl hp),.f (by simpa [Qr] using hneg),.c [] co] rfl rfl trivial
theorem Gs {p:List Int} (hp:Pb p):Qd Tryz.prog 264 [pr p] [pr (Qn p)] :=
  w tt Tryz.func264 rfl [.c [] (Qvl hp.t hp.ln' hp.bd)] rfl rfl trivial
theorem V9 (p:List Int):Qd Tryz.prog 158 [pr p] [.one (.int .i64 ((p.length:Int)-1))]:=by
  have h:Qd Tryz.prog 158 [pr p] [.one (.int .i64 (((p.map Zx).length:Int)-1))]:=Z7 Tryz.func158 rfl (ln 0 rfl rfl fun hl=>en tt [] rfl rfl (by simp [Qa] at hl ⊢; omega))
  rw [List.length_map] at h; exact h
theorem H4 (i:Nat) (x:Int):(mono i x).length=i+1:=by simp [mono]
theorem Of {s i:Nat} {x:Int} (h:Ql x≤s):Bd s (mono i x):=fun z hz=>by
  simp only [mono,List.mem_append,List.mem_singleton] at hz
  rcases hz with hz | rfl
  · rw [(List.mem_replicate.1 hz).2,Vu]; exact Nat.zero_le _
  · exact h
def stq (c:Int) (i:Nat) (x:Int) (q:List Int):List Int:=Nc (Qx q c) (mono i x)
def str (b:List Int) (c:Int) (i:Nat) (x:Int) (r:List Int):List Int:=Vp (Qx r c) (Zh (trim (mono i x)) b)
theorem Q6n {u t i:Nat} {c x:Int} {q:List Int} (hq:Bd u q) (hc:Ql c≤t) (hx:Ql x≤u):Bd (u+t+8) (stq c i x q) :=
  Qc (A7 (Qz hq hc) (Of hx)) (by omega)
theorem Q3c {c x:Int} {i:Nat} {q:List Int}:(stq c i x q).length≤max q.length (i+1):=by
  have h:=Cx (Qx q c) (mono i x)
  have h1:=Qt q c
  rw [H4] at h
  unfold stq; omega
theorem Qfp {i:Nat} {x:Int} {b:List Int}:(Zh (trim (mono i x)) b).length≤i+b.length:=by
  have h:=Ui (trim (mono i x)) b
  have h1:=Xl (mono i x)
  rw [H4] at h1; omega
theorem Qn4 {u t i:Nat} {x:Int} {b:List Int} (hb:Bd t b) (hx:Ql x≤u) (hi:i≤64):Bd (u+t+7) (Zh (trim (mono i x)) b) :=
  Gm (Jo (Of hx)) hb (Nat.lt_of_le_of_lt (Xl _) (by rw [H4]; omega))
theorem Qk0 {u t i:Nat} {c x:Int} {b r:List Int} (hr:Bd u r) (hb:Bd t b) (hc:Ql c≤t) (hx:Ql x≤u) (hi:i≤64):Bd (u+t+8) (str b c i x r) :=
  Qc (W3 (Qz hr hc) (Qn4 hb hx hi)) (by omega)
theorem Qfr {c x:Int} {i:Nat} {b r:List Int}:(str b c i x r).length≤max r.length (i+b.length):=by
  have h:=Vv (Qx r c) (Zh (trim (mono i x)) b)
  have h1:=Qt r c
  have h2:=Qfp (i:=i) (x:=x) (b:=b)
  unfold str; omega
theorem Qi7 (i:Nat) (x:Int):((List.replicate (i+1) (0:Int)).map Zx).set i (Zx x)=(mono i x).map Zx:=by
  rw [Qmn,mono]
  congr 1
  refine List.ext_getElem? fun j=>?_
  simp only [List.getElem?_set,List.getElem?_append,List.getElem?_replicate,List.length_replicate]
  by_cases h:j=i
  · subst h; simp
  · rw [if_neg (by omega)]
    by_cases h2:j<i
    · simp [h2]; omega
    · rw [if_neg (by omega),if_neg h2]
      cases hj:j-i with
      | zero=>omega
      | succ m=>simp
theorem Qp4 (i:Nat) {x:Int} {y:List LV} (h:y.map C5=Zx x):(((List.replicate (i+1) [LV.bool false,LV.nils]).set i y).map fun c=>c.map C5)=(mono i x).map Zx:=by
  rw [List.map_set,I2,h]; exact Qi7 i x
theorem Pw {b:List Int} {c:Int} {i:Nat} {q r:List Int} {x:Int} (hx:x=if r.length=b.length+i then Qr r else 0):psd b c (i+1) (q,r)=psd b c i (stq c i x q,str b c i x r):=by
  subst hx; rfl
theorem Quy {a b:List Int} (ha:Pb a) (hb:Pb b) (h0:b.length≠0):Qd Tryz.prog 294 [pr a,pr b] [pr (psd b (Qr b) (a.length+1-b.length) ([],a)).1,pr (Yv a b),.one (.int .i64 ((a.length+1-b.length:Nat):Int)),.one (.int .i64 0)]:=by
  have hal:=ha.l
  have hbl:=hb.l
  have hlb:Ql (Qr b)≤16777216:=Vs hb.b
  obtain ⟨c,hc⟩:∃ c,c=Qr b:=⟨_,rfl⟩
  have cl:=W4 hb.t hb.ln hb.bd
  rw [show b.getD (b.length-1) 0=c from hc.symm] at cl
  obtain ⟨k,hk⟩:∃ k,k=a.length+1-b.length:=⟨_,rfl⟩
  unfold Yv
  rw [←hc,←hk]
  rw [←hc] at hlb
  refine Z7 Tryz.func294 rfl ?_
  refine go tt [.z 4,.c [] (Xz ha.t ha.ln ha.bd),.c [] (Xz hb.t hb.ln hb.bd),.f (by simpa using h0),.c [] cl,.c [] (V9 a),.c [] (V9 b),.r 27 (eI (b:=(k:Int)) (by omega))] rfl (by simp [Qa]; omega) ?_
  refine lp (S:=Nat×List Int×List Int) 1 (fun L1 s=>(4,.v (pr s.2.1))::(5,.v (pr s.2.2))::(9,.v (.one (.int .i64 ((s.1:Int)-1))))::L1) (fun _=>[.blk 29 (Zx c)]) (fun s=>s.1) (fun s=>s.1≤k∧Qj s.2.2∧s.2.1.length≤66∧s.2.2.length≤a.length∧Bd (16777216+(k-s.1)*16777224) s.2.1∧Bd (16777216+(k-s.1)*16777224) s.2.2∧psd b c s.1 s.2=psd b c k ([],a)) (k,[],a) ⟨Nat.le_refl _,ha.t,by simp,Nat.le_refl _,Sp,by simpa using ha.b,rfl⟩ rfl (fun _ _=>rfl) rfl fun ⟨i,q,r⟩ ⟨j1,j2,j3,j4,j5,j6,j7⟩=>?_
  dsimp only at j1 j2 j3 j4 j5 j6 j7 ⊢
  rw [←j7]
  cases i with
  | zero=>exact en tt [.f (by simp)] rfl rfl trivial
  |
   succ i =>
   obtain ⟨x,hx⟩:∃ x,x=if r.length=b.length+i then Qr r else 0:=⟨_,rfl⟩
   obtain ⟨u,hu⟩:∃ u,u=16777216+(k-(i+1))*16777224:=⟨_,rfl⟩
   rw [←hu] at j5 j6
   have hub:u≤1107296256:=by
     have:(k-(i+1))*16777224≤64*16777224:=Nat.mul_le_mul_right _ (by omega)
     omega
   have hxs:Ql x≤u:=by
     rw [hx]; split
     · exact Vs j6
     · rw [Vu]; exact Nat.zero_le _
   have cs:=Ue (p:=q) (c:=c) (by omega) (Qc j5 (by omega)) (by omega)
   have cs2:=Ue (p:=r) (c:=c) (by omega) (Qc j6 (by omega)) (by omega)
   have l1:=Qt q c
   have l2:=Qt r c
   have ca:=Qut (p:=Qx q c) (q:=mono i x) (by omega) (by rw [H4]; omega) (Qc (Qz j5 hlb) (by omega)) (Qc (Of hxs) (by omega))
   have cm:=Qep (p0:=mono i x) hb.t (by rw [H4]; omega) (by omega) (Of hxs) hb.b (by omega)
   have l3:=Qfp (i:=i) (x:=x) (b:=b)
   have cb:=Oo (p:=Qx r c) (q:=Zh (trim (mono i x)) b) (by omega) (by omega) (Qc (Qz j6 hlb) (by omega)) (Qc (Qn4 hb.b hxs (by omega)) (by omega))
   have hst:=Pw (b:=b) (c:=c) (q:=q) hx
   have hI:i≤k∧Qj (str b c i x r)∧(stq c i x q).length≤66∧(str b c i x r).length≤a.length∧Bd (16777216+(k-i)*16777224) (stq c i x q)∧Bd (16777216+(k-i)*16777224) (str b c i x r):=by
     have l5:=Q3c (c:=c) (x:=x) (i:=i) (q:=q)
     have l6:=Qfr (c:=c) (x:=x) (i:=i) (b:=b) (r:=r)
     have hku:u+16777216+8=16777216+(k-i)*16777224:=by
       rw [hu,show k-i=(k-(i+1))+1 from by omega,Nat.add_mul]; omega
     refine ⟨by omega,Q9 _ _,by omega,by omega,?_,?_⟩
     · rw [←hku]; exact Q6n j5 hlb hxs
     · rw [←hku]; exact Qk0 j6 hb.b hlb hxs (by omega)
   rw [hst]
   by_cases h:r.length=b.length+i
   · refine go tt [.t (by simp <;> omega),.c [] (V9 r),.c [] (V9 b),.t (by simp; omega),.c [] (W4 j2 (by omega) (Qc j6 (by omega))),.r 44 (eI (b:=((i+1:Nat):Int)) (by omega)),.i (i+1),.i (i+1),.r 47 (eI (b:=(i:Int)) (by omega)),.i i] rfl (by simp [Qa]; omega) ?_
     refine nl 2 rfl rfl rfl ?_
     rw [Qp4 i (x:=x) (by rw [hx,if_pos h]; rfl)]
     refine go tt [.c [] cs,.c [] ca,.c [] cs2,.c [] cm,.c [] cb,.r 33 (eI (b:=(i:Int)-1) (by omega))] rfl (by simp [Qa]; omega) ?_
     exact rd (i,stq c i x q,str b c i x r) (by dsimp only; omega) ⟨hI.1,hI.2.1,hI.2.2.1,hI.2.2.2.1,hI.2.2.2.2.1,hI.2.2.2.2.2,rfl⟩ rfl
   · refine go tt [.t (by simp <;> omega),.c [] (V9 r),.c [] (V9 b),.f (by simp; omega),.r 44 (eI (b:=((i+1:Nat):Int)) (by omega)),.i (i+1),.i (i+1),.r 47 (eI (b:=(i:Int)) (by omega)),.i i] rfl (by simp [Qa]; omega) ?_
     refine nl 2 rfl rfl rfl ?_
     rw [Qp4 i (x:=x) (by rw [hx,if_neg h,Gb]; rfl)]
     refine go tt [.c [] cs,.c [] ca,.c [] cs2,.c [] cm,.c [] cb,.r 33 (eI (b:=(i:Int)-1) (by omega))] rfl (by simp [Qa]; omega) ?_
     exact rd (i,stq c i x q,str b c i x r) (by dsimp only; omega) ⟨hI.1,hI.2.1,hI.2.2.1,hI.2.2.2.1,hI.2.2.2.2.1,hI.2.2.2.2.2,rfl⟩ rfl
theorem Qyu {b:List Int} {c:Int} (hb:Bd 16777216 b) (hc:Ql c≤16777216) {n:Nat}:∀ (i u:Nat) (q r:List Int),i≤64→i+b.length≤n+1→Qj r→r.length≤n→Bd u r→Qj (psd b c i (q,r)).2∧(psd b c i (q,r)).2.length≤n∧Bd (u+i*16777224) (psd b c i (q,r)).2
  | 0,u,q,r,_,_,h1,h2,h3=>⟨h1,h2,by simpa [psd] using h3⟩
  |
   i+1,u,q,r,hi,hn,h1,h2,h3=>by
   rw [Pw rfl]
   have hx:Ql (if r.length=b.length+i then Qr r else 0)≤u:=by
     split
     · exact Vs h3
     · rw [Vu]; exact Nat.zero_le _
   have l6:=Qfr (c:=c) (x:=if r.length=b.length+i then Qr r else 0) (i:=i) (b:=b) (r:=r)
   have:=Qyu hb hc (n:=n) i (u+16777216+8) (stq c i (if r.length=b.length+i then Qr r else 0) q) (str b c i (if r.length=b.length+i then Qr r else 0) r) (by omega) (by omega) (Q9 _ _) (by omega) (Qk0 h3 hb hc hx (by omega))
   exact ⟨this.1,this.2.1,Qc this.2.2 (by omega)⟩
theorem Qql {a b:List Int} (ha:Pb a) (hb:Pb b) (h0:b.length≠0):Qj (Yv a b)∧(Yv a b).length≤a.length∧Bd 1107296256 (Yv a b):=by
  have hal:=ha.l
  by_cases h:b.length≤a.length+1
  · obtain ⟨h1,h2,h3⟩:=Qyu hb.b (Vs hb.b) (n:=a.length) (a.length+1-b.length) 16777216 [] a (by omega) (by omega) ha.t (Nat.le_refl _) ha.b
    refine ⟨h1,h2,Qc h3 ?_⟩
    have:(a.length+1-b.length)*16777224≤64*16777224:=Nat.mul_le_mul_right _ (by omega)
    omega
  · have e:Yv a b=a:=by unfold Yv; rw [show a.length+1-b.length=0 from by omega]; rfl
    rw [e]
    exact ⟨ha.t,Nat.le_refl _,Qc ha.b (by omega)⟩
theorem Dk {a b r:List Int} {s n:Nat} (h1:Qj r) (h2:r.length≤n) (h3:Bd s r):Qj (Kg a b r)∧(Kg a b r).length≤n∧Bd s (Kg a b r):=by
  unfold Kg; split
  · exact ⟨Q9 _ _,Nat.le_trans (Pg r) h2,A9 h3⟩
  · exact ⟨h1,h2,h3⟩
theorem Qbg {r:List Int} {s n:Nat} (h2:r.length≤n) (h3:Bd s r):Qj (Nj r)∧(Nj r).length≤n∧Bd s (Nj r):=by
  unfold Nj; split
  · exact ⟨rfl,by simp,Sp⟩
  · exact ⟨Tt _ _,Nat.le_trans (Qdf _ _) h2,Oh h3 _⟩
theorem Dd {a b:List Int} (ha:Pb a) (hb:Pb b) (h0:b.length≠0):Qj (X5 a b)∧(X5 a b).length≤a.length∧Bd 1107296256 (X5 a b):=by
  obtain ⟨h1,h2,h3⟩:=Qql ha hb h0
  obtain ⟨h4,h5,h6⟩:=Dk (a:=a) (b:=b) h1 h2 h3
  exact Qbg h5 h6
theorem Qu0 {a b:List Int} (ha:Pb a) (hb:Pb b) (h0:b.length≠0):Qd Tryz.prog 265 [pr a,pr b] [pr (X5 a b),.one (.int .i64 0)]:=by
  obtain ⟨h1,h2,h3⟩:=Qql ha hb h0
  obtain ⟨h4,h5,h6⟩:=Dk (a:=a) (b:=b) h1 h2 h3
  have hal:=ha.l
  have cp:=Quy ha hb h0
  have cl:=W4 hb.t hb.ln hb.bd
  have cn:=Quw (p:=Yv a b) (by omega) (Qc h3 (by omega))
  unfold X5
  obtain ⟨r,hr⟩:∃ r,r=Kg a b (Yv a b):=⟨_,rfl⟩
  have cc:=Li (p:=r) (by rw [hr]; omega) (by rw [hr]; exact Qc h6 (by omega))
  rw [←hr] at h4 h5 h6 ⊢
  obtain ⟨k,hk⟩:∃ k,k=a.length+1-b.length:=⟨_,rfl⟩
  rw [←hk] at cp
  have em:((k:Int).tmod 2)=((k % 2:Nat):Int):=by rw [Int.tmod_eq_emod_of_nonneg (by omega)]; omega
  have key:Nj r=if r.length=0 then [] else Wl r (J8 r):=rfl
  by_cases hz:r.length=0
  · rw [key,if_pos hz]
    by_cases hodd:k % 2=1
    · by_cases hneg:Qr b<0
      · have e:r=Vg (Yv a b):=by rw [hr]; unfold Kg; rw [if_pos ⟨by rw [←hk]; exact hodd,hneg⟩]
        rw [e] at hz
        exact w tt Tryz.func265 rfl [.c [] cp,.f (by simp),.r 22 (eI em),.t (by simp; omega),.c [] cl,.t (by simpa [Qr] using hneg),.c [] cn,.t (by simpa using hz)] rfl rfl (by simp [Qa])
      · have e:r=Yv a b:=by rw [hr]; unfold Kg; rw [if_neg (fun h=>hneg h.2)]
        rw [e] at hz
        exact w tt Tryz.func265 rfl [.c [] cp,.f (by simp),.r 22 (eI em),.t (by simp; omega),.c [] cl,.f (by simpa [Qr] using hneg),.t (by simpa using hz)] rfl rfl (by simp [Qa])
    · have e:r=Yv a b:=by rw [hr]; unfold Kg; rw [if_neg (fun h=>hodd (by rw [hk]; exact h.1))]
      rw [e] at hz
      exact w tt Tryz.func265 rfl [.c [] cp,.f (by simp),.r 22 (eI em),.f (by simp; omega),.f rfl,.t (by simpa using hz)] rfl rfl (by simp [Qa])
  · rw [key,if_neg hz]
    have cd:=Qof (p:=r) (g:=J8 r) (by omega) (Qc h6 (by omega)) (Mm (Qc h6 (by omega))) (Pp h4 hz) Ff
    by_cases hodd:k % 2=1
    · by_cases hneg:Qr b<0
      · have e:r=Vg (Yv a b):=by rw [hr]; unfold Kg; rw [if_pos ⟨by rw [←hk]; exact hodd,hneg⟩]
        rw [e] at hz cc cd ⊢
        exact w tt Tryz.func265 rfl [.c [] cp,.f (by simp),.r 22 (eI em),.t (by simp; omega),.c [] cl,.t (by simpa [Qr] using hneg),.c [] cn,.f (by simpa using hz),.c [] cc,.c [] cd] rfl rfl (by simp [Qa])
      · have e:r=Yv a b:=by rw [hr]; unfold Kg; rw [if_neg (fun h=>hneg h.2)]
        rw [e] at hz cc cd ⊢
        exact w tt Tryz.func265 rfl [.c [] cp,.f (by simp),.r 22 (eI em),.t (by simp; omega),.c [] cl,.f (by simpa [Qr] using hneg),.f (by simpa using hz),.c [] cc,.c [] cd] rfl rfl (by simp [Qa])
    · have e:r=Yv a b:=by rw [hr]; unfold Kg; rw [if_neg (fun h=>hodd (by rw [hk]; exact h.1))]
      rw [e] at hz cc cd ⊢
      exact w tt Tryz.func265 rfl [.c [] cp,.f (by simp),.r 22 (eI em),.f (by simp; omega),.f rfl,.f (by simpa using hz),.c [] cc,.c [] cd] rfl rfl (by simp [Qa])
end Orr

namespace Orr
open Go Go.Proofs
set_option maxRecDepth 10000
theorem Q26 {s:Nat} {x:Int} (h:Ql x≤s) (g:Int):Ql (x / g)≤s:=Ld (p:=[x]) (fun z hz=>by rw [List.mem_singleton.1 hz]; exact h) g _ (by simp)
def sta (b:List Int) (i:Nat) (x:Int) (a:List Int):List Int:=Vp a (Zh (trim (mono i x)) b)
theorem Q6m {u t i:Nat} {x:Int} {b a:List Int} (ha:Bd u a) (hb:Bd t b) (hx:Ql x≤u) (hi:i≤64):Bd (u+t+8) (sta b i x a) :=
  Qc (W3 ha (Qn4 hb hx hi)) (by omega)
theorem Qpu {x:Int} {i:Nat} {b a:List Int}:(sta b i x a).length≤max a.length (i+b.length):=by
  have h:=Vv a (Zh (trim (mono i x)) b)
  have h2:=Qfp (i:=i) (x:=x) (b:=b)
  unfold sta; omega
theorem Q1h (s n:Nat):Bd s (List.replicate n 0):=fun z hz=>by rw [(List.mem_replicate.1 hz).2,Vu]; exact Nat.zero_le _
theorem Q6l {s i:Nat} {l:List Int} {x:Int} (h:Bd s l) (hx:Ql x≤s):Bd s (l.set i x):=fun z hz=>by
  rcases List.mem_or_eq_of_mem_set hz with hz | rfl
  · exact h z hz
  · exact hx
theorem Quu {a b q:List Int} (ha:Pb a) (hb:Pb b) (h:Pv a b=some q):Qd Tryz.prog 318 [pr a,pr b] [pr q,.one (.int .i64 0)]:=by
  unfold Pv at h
  split at h
  · cases h
  rename_i h0
  obtain ⟨k,hk⟩:∃ k,k=a.length+1-b.length:=⟨_,rfl⟩
  rw [←hk] at h
  obtain ⟨q',hq,hq2⟩:=Option.bind_eq_some_iff.1 h
  obtain ⟨rfl,hpb⟩:=Rz (Xv _) hq2
  have hal:=ha.l
  have hbl:=hb.l
  refine Z7 Tryz.func318 rfl ?_
  refine go tt [.c [] (Xz ha.t ha.ln ha.bd),.c [] (Xz hb.t hb.ln hb.bd),.f (by simpa using h0),.r 24 (eI (b:=(k:Int)) (by simp; omega)),.i k,.i k,.r 27 (eI (b:=(k:Int)) (by simp))] rfl (by simp [Qa]; omega) ?_
  refine nl 0 rfl rfl rfl ?_
  rw [I2]
  refine lp (S:=Nat×List Int×List Int) 1 (fun L1 s=>(0,.v (pr s.2.1))::(7,.v (.one (.int .i64 ((s.1:Int)-1))))::L1) (fun s=>[.row false 29 2 (s.2.2.map Zx)]) (fun s=>s.1) (fun s=>s.1≤k∧Qj s.2.1∧s.2.1.length≤a.length∧Bd (16777216+(k-s.1)*16777224) s.2.1∧s.2.2.length=k∧Bd 1107296256 s.2.2∧Qf6 b s.1 s.2.1 s.2.2=some q') (k,a,List.replicate k 0) ⟨Nat.le_refl _,ha.t,Nat.le_refl _,by simpa using ha.b,by simp,Q1h _ _,hq⟩ rfl (fun _ _=>rfl) rfl fun ⟨i,A,Q⟩ ⟨j1,j2,j3,j4,j5,j7,j6⟩=>?_
  dsimp only at j1 j2 j3 j4 j5 j6 j7 ⊢
  cases i with
  |
   zero =>
   simp only [Qf6] at j6
   split at j6
   · rename_i hA
     injection j6 with j6; subst j6
     exact en tt [.f (by simp),.f (by simpa using hA),.c [] (Uz (Xk Q) (by omega) (Qc j7 (by omega)))] rfl rfl trivial
   · cases j6
  |
   succ i =>
   obtain ⟨u,hu⟩:∃ u,u=16777216+(k-(i+1))*16777224:=⟨_,rfl⟩
   rw [←hu] at j4
   have hub:u≤1107296256:=by
     have:(k-(i+1))*16777224≤64*16777224:=Nat.mul_le_mul_right _ (by omega)
     omega
   have hku:u+16777216+8=16777216+(k-i)*16777224:=by
     rw [hu,show k-i=(k-(i+1))+1 from by omega,Nat.add_mul]; omega
   simp only [Qf6] at j6
   by_cases hlt:A.length<b.length+i
   · rw [if_pos hlt] at j6
     refine go tt [.t (by simp <;> omega),.c [] (V9 A),.c [] (V9 b),.t (by simp; omega),.r 32 (eI (b:=(i:Int)-1) (by omega))] rfl (by simp [Qa]; omega) ?_
     exact rd (i,A,Q) (by dsimp only; omega) ⟨by dsimp only; omega,j2,j3,Qc j4 (by dsimp only; omega),j5,j7,j6⟩ rfl
   · rw [if_neg hlt] at j6
     split at j6
     · rename_i hdv
       obtain ⟨x,hx⟩:∃ x,x=Qr A / Qr b:=⟨_,rfl⟩
       rw [←hx] at j6
       have hxs:Ql x≤u:=by rw [hx]; exact Q26 (Vs j4) _
       have ce:=Gn (Qe (Qr A)) (Qe (Qr b)) (Nat.le_trans (Vs j4) (by omega)) (Nat.le_trans (Vs hb.b) (by omega)) (U6 hb.t h0) hdv
       rw [←hx] at ce
       have cm:Qd Tryz.prog 213 [.one (.row ((mono i x).map Zx)),pr b] [pr (Zh (trim (mono i x)) b)]:=Qep (p0:=mono i x) hb.t (by rw [H4]; omega) (by omega) (Of hxs) hb.b (by omega)
       have l3:=Qfp (i:=i) (x:=x) (b:=b)
       have l4:=Qpu (i:=i) (x:=x) (b:=b) (a:=A)
       have cb:=Oo (p:=A) (q:=Zh (trim (mono i x)) b) (by omega) (by omega) (Qc j4 (by omega)) (Qc (Qn4 hb.b hxs (by omega)) (by omega))
       refine go tt [.t (by simp <;> omega),.c [] (V9 A),.c [] (V9 b),.f (by simp; omega),.c [] (W4 j2 (by omega) (Qc j4 (by omega))),.c [] (W4 hb.t hb.ln hb.bd),.c [] ce,.f rfl,.r 51 (eI (b:=(i:Int)) (by omega)),.i i,.r 55 (eI (b:=((i+1:Nat):Int)) (by omega)),.i (i+1),.i (i+1),.r 58 (eI (b:=(i:Int)) (by omega))] rfl (by simp [Qa]; omega) ?_
       refine nl 2 rfl rfl rfl ?_
       rw [I2,Qmn]
       rw [←Qi7 i x] at cm
       refine go tt [.i i,.c [] cm,.c [] cb,.r 32 (eI (b:=(i:Int)-1) (by omega))] rfl (by simp [Qa]; omega) ?_
       exact rd (i,sta b i x A,Q.set i x) (by dsimp only; omega) ⟨by dsimp only; omega,Q9 _ _,by dsimp only; omega,by dsimp only; rw [←hku]; exact Q6m j4 hb.b hxs (by omega),by simpa using j5,Q6l j7 (Nat.le_trans hxs hub),j6⟩ rfl
     · cases j6
theorem Qml {a b q:List Int} (h:Pv a b=some q):Pb q:=by
  unfold Pv at h
  split at h
  · cases h
  · obtain ⟨q',_,hq2⟩:=Option.bind_eq_some_iff.1 h
    obtain ⟨rfl,hpb⟩:=Rz (Xv _) hq2
    exact hpb
theorem Qvq {a b q:List Int} (ha:Pb a) (hb:Pb b) (h:Pv a b=some q):Qd Tryz.prog 298 [pr a,pr b] [pr q] :=
  w tt Tryz.func298 rfl [.c [] (Quu ha hb h)] rfl rfl trivial
theorem Qg2:∀ {k:Nat} {a b g:List Int},Pb a→Pb b→Ev k a b=some g→Pb g
  | 0,_,_,_,_,_,h=>by cases h
  |
   k+1,a,b,g,ha,hb,h=>by
   simp only [Ev] at h
   split at h
   · injection h with h; subst h; exact ha
   · rename_i h0
     obtain ⟨r,hr,h⟩:=Option.bind_eq_some_iff.1 h
     obtain ⟨rfl,hpb⟩:=Rz (Dd ha hb h0).1 hr
     exact Qg2 hb hpb h
theorem Qoo {a b g:List Int} (ha:Pb a) (hb:Pb b) (h:Px a b=some g):Qd Tryz.prog 225 [pr a,pr b] [pr g]:=by
  unfold Px at h
  obtain ⟨g',h2,rfl⟩:=Option.map_eq_some_iff.1 h
  have hg:=Qg2 (X1 ha) (X1 hb) h2
  refine Z7 Tryz.func225 rfl ?_
  refine go tt [.c [] (Gs ha),.c [] (Gs hb)] rfl trivial ?_
  refine lp (S:=Nat×List Int×List Int) 0 (fun L1 s=>(0,.v (pr s.2.1))::(1,.v (pr s.2.2))::L1) (fun _=>[]) (fun s=>s.1) (fun s=>Pb s.2.1∧Pb s.2.2∧Ev s.1 s.2.1 s.2.2=some g') (66,Qn a,Qn b) ⟨X1 ha,X1 hb,h2⟩ rfl (fun _ _=>rfl) rfl fun ⟨k,A,C⟩ ⟨j1,j2,j3⟩=>?_
  dsimp only at j1 j2 j3 ⊢
  cases k with
  | zero=>cases j3
  |
   succ k =>
   simp only [Ev] at j3
   split at j3
   · rename_i h0
     injection j3 with j3; subst j3
     exact en tt [.f (by simpa using h0),.c [] (Gs j1)] rfl rfl trivial
   · rename_i h0
     obtain ⟨r,hr,j3⟩:=Option.bind_eq_some_iff.1 j3
     obtain ⟨rfl,hpb⟩:=Rz (Dd j1 j2 h0).1 hr
     refine go tt [.t (by simp; omega),.c [] (Qu0 j1 j2 h0)] rfl trivial ?_
     exact rd (k,C,X5 A C) (by dsimp only; omega) ⟨j2,hpb,j3⟩ rfl
theorem Em {a b g:List Int} (ha:Pb a) (hb:Pb b) (h:Px a b=some g):Pb g:=by
  unfold Px at h
  obtain ⟨g',h2,rfl⟩:=Option.map_eq_some_iff.1 h
  exact X1 (Qg2 (X1 ha) (X1 hb) h2)
theorem Quv {a b g:List Int} (ha:Pb a) (hb:Pb b) (h:Qf8 a b=some g):Qd Tryz.prog 176 [.one (.row (Yp [a,b]))] [pr g]:=by
  unfold Qf8 at h
  obtain ⟨g1,h1,h2⟩:=Option.bind_eq_some_iff.1 h
  have hg1:=Em Ek ha h1
  refine Z7 Tryz.func176 rfl ?_
  refine go tt [.z 3] rfl trivial ?_
  refine lp (S:=Nat) 0 (fun L1 i=>(8,.v (.one (.int .i64 (i:Int))))::(3,.v (pr (if i=0 then [] else if i=1 then g1 else g)))::L1) (fun _=>[]) (fun i=>2-i) (fun i=>i≤2) 0 (Nat.zero_le _) rfl (fun _ _=>rfl) rfl fun i hi=>?_
  rcases (show i=0∨i=1∨i=2 by omega) with rfl | rfl | rfl
  · refine go tt [.t rfl,.x (Ji (i:=0) (p:=a) rfl),.c [] (Qoo Ek ha h1)] rfl (by simp [Qa]) ?_
    exact rd 1 (by omega) (by omega) rfl
  · refine go tt [.t rfl,.x (Ji (i:=1) (p:=b) rfl),.c [] (Qoo hg1 hb h2)] rfl (by simp [Qa]) ?_
    exact rd 2 (by omega) (by omega) rfl
  · exact en tt [.f rfl] rfl rfl trivial
theorem Qyg {a b g:List Int} (ha:Pb a) (hb:Pb b) (h:Qf8 a b=some g):Pb g:=by
  unfold Qf8 at h
  obtain ⟨g1,h1,h2⟩:=Option.bind_eq_some_iff.1 h
  exact Em (Em Ek ha h1) hb h2
theorem Qbc {p d:List Int} (h:chk (Zn p)=some d):d=Zn p∧Pb (Zn p):=Rz (Q9 _ _) h
theorem Oq {a g:List Int} (ha:Pb a) (h:Vh a=some g):Qd Tryz.prog 270 [pr a] [pr g]:=by
  have hp:=X1 ha
  unfold Vh at h
  split at h
  · rename_i h0
    injection h with h; subst h
    exact w tt Tryz.func270 rfl [.c [] (Gs ha),.c [] (V9 _),.t (by simp; omega)] rfl rfl trivial
  · rename_i h0
    obtain ⟨d,h1,h⟩:=Option.bind_eq_some_iff.1 h
    obtain ⟨rfl,hd⟩:=Qbc h1
    obtain ⟨g1,h1,h⟩:=Option.bind_eq_some_iff.1 h
    exact w tt Tryz.func270 rfl [.c [] (Gs ha),.c [] (V9 _),.f (by simp; omega),.c [] (Ho hp.ln hp.bd),.c [] (Qoo hp hd h1),.c [] (Qvq hp (Em hp hd h1) h)] rfl rfl trivial
theorem El {a g:List Int} (ha:Pb a) (h:Vh a=some g):Pb g:=by
  unfold Vh at h
  split at h
  · injection h with h; subst h; exact X1 ha
  · obtain ⟨d,h1,h⟩:=Option.bind_eq_some_iff.1 h
    obtain ⟨g1,h1,h⟩:=Option.bind_eq_some_iff.1 h
    exact Qml h
theorem Qyh {p:List Int} (h:Pb p):Pb (Vg p):=⟨Q9 _ _,Nat.le_trans (Pg p) h.l,A9 h.b⟩
theorem Qlr:∀ {k:Nat} {a b:List Int} {l:List (List Int)},Pb a→Pb b→chF k a b=some l→l.length≤k∧∀ p∈l,Pb p
  | 0,_,_,_,_,_,h=>by cases h
  |
   k+1,a,b,l,ha,hb,h=>by
   simp only [chF] at h
   split at h
   · injection h with h; subst h; exact ⟨by simp,fun p hp=>by cases hp⟩
   · rename_i h0
     obtain ⟨r,hr,h⟩:=Option.bind_eq_some_iff.1 h
     obtain ⟨rfl,hpb⟩:=Rz (Dd ha hb h0).1 hr
     obtain ⟨l',h1,h⟩:=Option.bind_eq_some_iff.1 h
     injection h with h; subst h
     obtain ⟨i1,i2⟩:=Qlr hb (Qyh hpb) h1
     refine ⟨by simp; exact i1,fun p hp=>?_⟩
     rcases List.mem_cons.1 hp with rfl | hp
     · exact hb
     · exact i2 p hp
theorem chain_ok {p:List Int} {l:List (List Int)} (hp:Pb p) (h:Hq p=some l):l.length≤67∧∀ q∈l,Pb q:=by
  unfold Hq at h
  obtain ⟨a,h1,h⟩:=Option.bind_eq_some_iff.1 h
  have ha:=El hp h1
  split at h
  · cases h
  · obtain ⟨d,h2,h⟩:=Option.bind_eq_some_iff.1 h
    obtain ⟨rfl,hd⟩:=Qbc h2
    obtain ⟨l',h3,h⟩:=Option.bind_eq_some_iff.1 h
    injection h with h; subst h
    obtain ⟨i1,i2⟩:=Qlr ha (X1 hd) h3
    refine ⟨by simp; omega,fun p hp=>?_⟩
    rcases List.mem_cons.1 hp with rfl | hp
    · exact ha
    · exact i2 p hp
theorem Qbf (l:List (List Int)) (p:List Int):Yp l++[[pl p]]=Yp (l++[p]):=by simp [Yp]
theorem Fg (l:List (List Int)):(Yp l).length=l.length:=by simp [Yp]
theorem Qu2 {p:List Int} {l:List (List Int)} (hp:Pb p) (h:Hq p=some l):Qd Tryz.prog 230 [pr p] [.one (.sh [.row (Yp l)]),.one (.int .i64 0)]:=by
  unfold Hq at h
  obtain ⟨a,h1,h⟩:=Option.bind_eq_some_iff.1 h
  have ha:=El hp h1
  split at h
  · cases h
  rename_i h0
  obtain ⟨d,h2,h⟩:=Option.bind_eq_some_iff.1 h
  obtain ⟨rfl,hd⟩:=Qbc h2
  obtain ⟨l',h3,h⟩:=Option.bind_eq_some_iff.1 h
  injection h with h; subst h
  refine Z7 Tryz.func230 rfl ?_
  refine go tt [.c [] (Oq hp h1),.f (by simpa using h0),.lo,.c [] (Ho ha.ln ha.bd),.c [] (Qvl hd.t hd.ln' hd.bd)] rfl (by simp [Qa]) ?_
  obtain ⟨z,hz⟩:∃ z,z=if (Zn a).length=0 then 0 else Z4 (Zn a):=⟨_,rfl⟩
  rw [←hz]
  refine sb [(4,.v (pr a)),(7,.v (pr (Qn (Zn a)))),(5,.v (.one (.ow 1 0)))] [.row false 26 1 [[pl a]],.blk 299 [.orow 0 1 none],.blk 29 (Zx z)] rfl rfl ?_
  have hll:=(Qlr ha (X1 hd) h3).1
  refine lp (S:=Nat×List (List Int)×List Int×List Int) 3 (fun L1 s=>(4,.v (pr s.2.2.1))::(7,.v (pr s.2.2.2))::L1) (fun s=>[.row false 26 1 (Yp s.2.1),.blk 299 [.orow 0 1 none],.blk 29 (Zx z)]) (fun s=>s.1) (fun s=>Pb s.2.2.1∧Pb s.2.2.2∧∃ m,chF s.1 s.2.2.1 s.2.2.2=some m∧s.2.1++m=a::l') (66,[a],a,Qn (Zn a)) ⟨ha,X1 hd,l',h3,rfl⟩ rfl (fun _ _=>rfl) rfl fun ⟨k,out,A,C⟩ ⟨j1,j2,m,j3,j4⟩=>?_
  dsimp only at j1 j2 j3 j4 ⊢
  have hol:out.length≤67:=by have:=congrArg List.length j4; simp at this; omega
  cases k with
  | zero=>cases j3
  |
   succ k =>
   simp only [chF] at j3
   split at j3
   · rename_i h0
     injection j3 with j3; subst j3
     rw [List.append_nil] at j4
     rw [←j4]
     exact en tt [.f (by simpa using h0)] rfl rfl trivial
   · rename_i h0
     obtain ⟨r,hr,j3⟩:=Option.bind_eq_some_iff.1 j3
     obtain ⟨rfl,hpb⟩:=Rz (Dd j1 j2 h0).1 hr
     obtain ⟨m',j6,j5⟩:=Option.bind_eq_some_iff.1 j3
     injection j5 with j5; subst j5
     refine go tt [.t (by simp; omega),.s (sz:=1) (fun c hc=>by rw [List.mem_singleton.1 hc]; rfl),.c [] (Qu0 j1 j2 h0),.c [] (Quw hpb.ln hpb.bd)] rfl (by simp [Qa,Fg]; omega) ?_
     exact rd (k,out++[C],C,Vg (X5 A C)) (by dsimp only; omega) ⟨j2,Qyh hpb,m',j6,by rw [←j4]; simp⟩ (by rw [Qbf]; rfl)
end Orr
