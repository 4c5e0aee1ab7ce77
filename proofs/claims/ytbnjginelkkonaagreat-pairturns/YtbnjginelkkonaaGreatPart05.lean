/- PolyL RatL R2 R4 RefPL CrvL CrowdL PredL CertL Y1 Y2 Q1 C1 C2 D1 E1 AlgL F1 F2 -/
import Derived.Test.YtbnjginelkkonaaGreatPart04
set_option linter.all false
namespace Orr
def Bd (s:Nat) (p:List Int):Prop:=∀ z∈p,Ql z≤s
theorem Vr:Ql 0=0:=rfl
theorem Quh {s:Nat} {p:List Int} (h:Bd s p) {i:Nat} {z:Int} (hz:p[i]? = some z):Ql z≤s:=h z (List.mem_of_getElem? hz)
theorem Qr {s:Nat} {p:List Int} (h:Bd s p) (k:Nat):Ql (p.getD k 0)≤s:=by
  rw [List.getD_eq_getElem?_getD]
  cases hk:p[k]? with
  | none=>rw [Option.getD_none,Vr]; exact Nat.zero_le _
  | some z=>exact Quh h hk
theorem Qc {s t:Nat} {p:List Int} (h:Bd s p) (ht:s≤t):Bd t p:=fun z hz=>Nat.le_trans (h z hz) ht
theorem Sp {s:Nat}:Bd s []:=fun z hz=>by cases hz
theorem Q6w {s:Nat} {n:Nat} {g:Nat→Int} (h:∀ k,k<n→Ql (g k)≤s):Bd s ((List.range n).map g):=fun z hz=>by
  obtain ⟨k,hk,rfl⟩:=List.mem_map.1 hz
  exact h k (List.mem_range.1 hk)
theorem Qkj:∀ (l:List Int),∀ z∈trim l,z∈l
  | [],z,h=>by cases h
  |
   x::l,z,h=>by
   have ih:=Qkj l
   cases hl:trim l with
   |
    nil =>
    simp only [trim,hl] at h
    split at h
    · cases h
    · rw [List.mem_singleton] at h; rw [h]; exact List.mem_cons_self ..
   |
    cons y k =>
    simp only [trim,hl] at h
    rcases List.mem_cons.1 h with rfl | h
    · exact List.mem_cons_self ..
    · exact List.mem_cons_of_mem _ (ih z (by rw [hl]; exact h))
theorem Xm (l:List Int):(trim l).length≤l.length:=by
  induction l with
  | nil=>exact Nat.le_refl _
  |
   cons x l ih =>
   cases hl:trim l with
   | nil=>simp only [trim,hl]; split <;> simp
   | cons y k=>simp only [trim,hl]; rw [hl] at ih; simp at ih ⊢; exact ih
theorem Jp {s:Nat} {p:List Int} (h:Bd s p):Bd s (trim p):=fun z hz=>h z (Qkj p z hz)
theorem Fi:∀ (l:List Int) (k:Nat),(trim l).getD k 0=l.getD k 0
  | [],k=>rfl
  |
   x::l,k=>by
   have ih:=Fi l
   cases hl:trim l with
   |
    nil =>
    rw [hl] at ih
    simp only [trim,hl]
    split
    · rename_i hx
      cases k with
      | zero=>simp [hx]
      | succ k=>have:=ih k; simp at this ⊢; exact this
    · cases k with
      | zero=>simp
      | succ k=>have:=ih k; simp at this ⊢; exact this
   |
    cons y m =>
    rw [hl] at ih
    simp only [trim,hl]
    cases k with
    | zero=>simp
    | succ k=>have:=ih k; simp at this ⊢; exact this
def Vl (n:Nat) (g:Nat→Int):List Int:=trim ((List.range n).map g)
theorem Q9 (n:Nat) (g:Nat→Int):Qi (Vl n g):=Xw _
theorem Hx (n:Nat) (g:Nat→Int):(Vl n g).length≤n:=Nat.le_trans (Xm _) (by simp)
theorem Yj (n:Nat) (g:Nat→Int) (k:Nat):(Vl n g).getD k 0=if k<n then g k else 0:=by
  unfold Vl
  rw [Fi,List.getD_eq_getElem?_getD,List.getElem?_map]
  split
  · rename_i h; rw [List.getElem?_range h]; rfl
  · rename_i h; rw [List.getElem?_eq_none (by simpa using h)]; rfl
theorem Md {s n:Nat} {g:Nat→Int} (h:∀ k,k<n→Ql (g k)≤s):Bd s (Vl n g):=Jp (Q6w h)
def M9 (p q:List Int):List Int:=Vl (max p.length q.length) fun k=>p.getD k 0+q.getD k 0
def Vn (p q:List Int):List Int:=Vl (max p.length q.length) fun k=>p.getD k 0-q.getD k 0
def Ve (p:List Int):List Int:=Vl p.length fun k=>-(p.getD k 0)
def Qx (p:List Int) (c:Int):List Int:=Vl p.length fun k=>p.getD k 0*c
def Zo (p:List Int):List Int:=Vl (p.length-1) fun k=>p.getD (k+1) 0*((k+1:Nat):Int)
theorem A4 {s t:Nat} {p q:List Int} (h:Bd s p) (h':Bd t q):Bd (max s t+1) (M9 p q):=Md fun k _=>Nat.le_trans (Mj _ _) (by have:=Qr h k; have:=Qr h' k; omega)
theorem Wx {s t:Nat} {p q:List Int} (h:Bd s p) (h':Bd t q):Bd (max s t+1) (Vn p q):=Md fun k _=>Nat.le_trans (Qfr _ _) (by have:=Qr h k; have:=Qr h' k; omega)
theorem A6 {s:Nat} {p:List Int} (h:Bd s p):Bd s (Ve p):=Md fun k _=>by rw [Xc]; exact Qr h k
theorem Qz {s t:Nat} {p:List Int} {c:Int} (h:Bd s p) (hc:Ql c≤t):Bd (s+t) (Qx p c):=Md fun k _=>Nat.le_trans (Q0 _ _) (by have:=Qr h k; omega)
theorem Cq (p q:List Int):(M9 p q).length≤max p.length q.length:=Hx _ _
theorem Vs (p q:List Int):(Vn p q).length≤max p.length q.length:=Hx _ _
theorem Ph (p:List Int):(Ve p).length≤p.length:=Hx _ _
theorem Qu (p:List Int) (c:Int):(Qx p c).length≤p.length:=Hx _ _
theorem Yx (p:List Int):(Zo p).length≤p.length-1:=Hx _ _
theorem Qfq {k t:Nat} (h:k<2^t):Ql (k:Int)≤t:=by rw [J3]; simpa using h
theorem Qs2 {k:Nat} (h:k<274877906944):Ql (k:Int)≤4294967295:=Nat.le_trans (Qfq (t:=38) (Nat.lt_of_lt_of_eq h (by decide))) (by omega)
theorem A5 {s t:Nat} {p:List Int} (h:Bd s p) (hl:p.length≤2^t):Bd (s+t) (Zo p):=Md fun k hk=>Nat.le_trans (Q0 _ _) (by
  have:=Qr h (k+1)
  have:=Qfq (k:=k+1) (t:=t) (by omega)
  omega)
def H5 (x:Int) (b:List Int) (i:Nat) (o:List Int):Nat→List Int
  | 0=>o
  | k+1=>(H5 x b i o k).set (i+k) ((H5 x b i o k).getD (i+k) 0+x*b.getD k 0)
def Ku (a b o:List Int):Nat→List Int
  | 0=>o
  | i+1=>H5 (a.getD i 0) b i (Ku a b o i) b.length
def Zi (a b:List Int):List Int:=if a.length=0∨b.length=0 then [] else trim (Ku a b (List.replicate (a.length+b.length-1) 0) a.length)
theorem H6 (x:Int) (b:List Int) (i:Nat) (o:List Int) (k:Nat):(H5 x b i o k).length=o.length:=by
  induction k with
  | zero=>rfl
  | succ k ih=>simp [H5,ih]
theorem Kv (a b o:List Int) (i:Nat):(Ku a b o i).length=o.length:=by
  induction i with
  | zero=>rfl
  | succ i ih=>simp [Ku,H6,ih]
theorem Qxl (l:List Int) (i m:Nat) (v:Int) (h:i<l.length):(l.set i v).getD m 0=if m=i then v else l.getD m 0:=by
  rw [List.getD_eq_getElem?_getD,List.getElem?_set,List.getD_eq_getElem?_getD]
  by_cases e:i=m
  · subst e; simp [h]
  · rw [if_neg e,if_neg (fun h=>e h.symm)]
theorem Eg (x:Int) (b:List Int) (i:Nat) (o:List Int) (k m:Nat) (h:i+k≤o.length):(H5 x b i o k).getD m 0=if i≤m∧m<i+k then o.getD m 0+x*b.getD (m-i) 0 else o.getD m 0:=by
  induction k with
  | zero=>simp only [H5]; rw [if_neg (by omega)]
  |
   succ k ih =>
   have ih:=ih (by omega)
   simp only [H5]
   rw [Qxl _ _ _ _ (by rw [H6]; omega)]
   by_cases e:m=i+k
   · subst e
     rw [if_pos rfl,if_pos (by omega),show i+k-i=k from by omega]
     rw [ih,if_neg (by omega)]
   · rw [if_neg e,ih]
     by_cases h1:i≤m∧m<i+k
     · rw [if_pos h1,if_pos (by omega)]
     · rw [if_neg h1,if_neg (by omega)]
theorem Vv {x y:Int} {s t:Nat} (hx:Ql x≤s) (hy:Ql y≤t):(x*y).natAbs≤2^(s+t):=by
  have h:=Nat.le_trans (Q0 x y) (show _≤s+t by omega)
  rw [J3] at h; omega
theorem Qf0 {x:Int} {b:List Int} {i:Nat} {o:List Int} {k M:Nat} (h:i+k≤o.length) (ho:∀ m,(o.getD m 0).natAbs≤i*M) (hx:∀ j,(x*b.getD j 0).natAbs≤M) (m:Nat):((H5 x b i o k).getD m 0).natAbs≤(i+1)*M:=by
  rw [Eg x b i o k m h,Nat.succ_mul]
  have h1:=ho m
  split
  · have h2:=hx (m-i)
    generalize i*M=q at *
    omega
  · omega
theorem Qfz {a b o:List Int} {i M:Nat} (h:∀ j,j<i→j+b.length≤o.length) (ho:∀ m,o.getD m 0=0) (hx:∀ i j,(a.getD i 0*b.getD j 0).natAbs≤M) (m:Nat):((Ku a b o i).getD m 0).natAbs≤i*M:=by
  induction i generalizing m with
  | zero=>simp only [Ku]; rw [ho]; simp
  |
   succ i ih =>
   simp only [Ku]
   exact Qf0 (by rw [Kv]; exact h i (by omega)) (ih fun j hj=>h j (by omega)) (hx i) m
theorem He {z:Int} {i s t:Nat} (h:z.natAbs≤i*2^s) (hi:i<2^t):Ql z≤s+t:=by
  rw [J3]
  have h1:i*2^s<2^t*2^s:=Nat.mul_lt_mul_of_pos_right hi (Nat.pow_pos (by decide))
  rw [←Nat.pow_add,Nat.add_comm t s] at h1
  omega
theorem J1 (n m:Nat):(List.replicate n (0:Int)).getD m 0=0:=by
  rw [List.getD_eq_getElem?_getD,List.getElem?_replicate]; split <;> rfl
theorem Oc {s:Nat} {p:List Int} (h:∀ m,Ql (p.getD m 0)≤s):Bd s p:=fun z hz=>by
  obtain ⟨i,hi⟩:=List.mem_iff_getElem?.1 hz
  have:=h i
  rw [List.getD_eq_getElem?_getD,hi] at this
  exact this
theorem Ug (a b:List Int):(Zi a b).length≤a.length+b.length-1:=by
  unfold Zi
  split
  · simp
  · refine Nat.le_trans (Xm _) ?_
    rw [Kv]; simp
theorem Gk {s t u:Nat} {a b:List Int} (ha:Bd s a) (hb:Bd t b) (hl:a.length<2^u):Bd (s+t+u) (Zi a b):=by
  unfold Zi
  split
  · exact Sp
  · refine Jp (Oc fun m=>?_)
    exact He (Qfz (M:=2^(s+t)) (fun j hj=>by simp; omega) (J1 _) (fun i j=>Vv (Qr ha i) (Qr hb j)) m) hl
theorem Z6 (a b:List Int):Qi (Zi a b):=by
  unfold Zi
  split
  · rfl
  · exact Xw _
def Vi (a:List Int) (n d:Int):Nat→Int×Int
  | 0=>(0,1)
  | k+1=>((Vi a n d k).1*n+a.getD (a.length-1-k) 0*(Vi a n d k).2,(Vi a n d k).2*d)
def Q4d (a:List Int) (n d:Int):Int:=(Vi a n d a.length).1
theorem Qg6 {a:List Int} {n d:Int} {s t k:Nat} (ha:Bd s a) (hn:Ql n≤t) (hd:Ql d≤t):Ql (Vi a n d k).1≤s+2+k*(t+1)∧Ql (Vi a n d k).2≤1+k*t:=by
  induction k with
  | zero=>exact ⟨by simp [Vi,Vr],by simp [Vi]; decide⟩
  |
   succ k ih =>
   obtain ⟨h1,h2⟩:=ih
   have h3:=Qr ha (a.length-1-k)
   have e1:k*(t+1)=k*t+k:=by rw [Nat.mul_add,Nat.mul_one]
   rw [Nat.succ_mul,Nat.succ_mul]
   refine ⟨?_,?_⟩
   · simp only [Vi]
     refine Nat.le_trans (Mj _ _) ?_
     have h4:=Q0 (Vi a n d k).1 n
     have h5:=Q0 (a.getD (a.length-1-k) 0) (Vi a n d k).2
     generalize k*t=q at *
     rw [e1] at h1 ⊢
     omega
   · simp only [Vi]
     have h4:=Q0 (Vi a n d k).2 d
     generalize k*t=q at *
     omega
end Orr
namespace Orr
theorem getD_some {l:List Int} {i:Nat} (h:i<l.length):l[i]? = some (l.getD i 0):=by
  rw [List.getD_eq_getElem?_getD,List.getElem?_eq_getElem h]; rfl
theorem Qo4 {x y:Int}:Kk x y=0↔x=y:=by
  unfold Kk
  constructor
  · intro h
    split at h
    · omega
    · split at h <;> omega
  · rintro rfl; simp
theorem Xj {p:List Int} (h:Qi p) (h0:0<p.length):p.getD (p.length-1) 0≠0:=by
  induction p with
  | nil=>simp at h0
  |
   cons x l ih =>
   unfold Qi at h
   cases hl:trim l with
   |
    nil =>
    simp only [trim,hl] at h
    split at h
    · cases h
    · rename_i hx
      injection h with h1 h2
      subst h2
      simpa using hx
   |
    cons y k =>
    simp only [trim,hl] at h
    injection h with h1 h2
    rw [←hl] at h2
    have ih:=ih h2 (by rw [←h2,hl]; simp)
    have h3:0<l.length:=by rw [←h2,hl]; simp
    simp only [List.length_cons,Nat.add_sub_cancel]
    obtain ⟨m,hm⟩:∃ m,l.length=m+1:=⟨l.length-1,by omega⟩
    rw [hm] at ih ⊢
    simpa using ih
end Orr
namespace Orr
theorem Qa7 (p:List Int):(List.range p.length).map (fun k=>p.getD k 0)=p:=by
  apply List.ext_getElem?
  intro i
  rw [List.getElem?_map]
  rcases Nat.lt_or_ge i p.length with h | h
  · rw [List.getElem?_range h]
    simp [List.getElem?_eq_getElem h]
  · rw [List.getElem?_eq_none (by simpa using h),List.getElem?_eq_none h]; rfl
theorem Qaf {p q:List Int} (hl:p.length=q.length) (h:∀ j,j<p.length→p.getD j 0=q.getD j 0):p=q:=by
  rw [←Qa7 p,←Qa7 q,←hl]
  exact List.map_congr_left fun j hj=>h j (List.mem_range.1 hj)
end Orr

namespace Orr
abbrev rl (q:Rat):List LV:=[sg q.num,mg q.num,sg (q.den:Int),mg (q.den:Int)]
theorem Kr (n d:Int):Xb [n,d]=Int.gcd d n:=by
  unfold Xb
  simp only [List.foldl_cons,List.foldl_nil,Nat.gcd_zero_left]
  exact Nat.gcd_comm _ _
theorem Qin {n d:Int} (hd:d≠0):(0:Int)<((Xb [n,d]:Nat):Int):=by
  rw [Kr]
  have:=Int.gcd_pos_of_ne_zero_left n hd
  omega
theorem Qap (n d:Int):n % ((Xb [n,d]:Nat):Int)=0:=by
  rw [Kr]; exact Int.emod_eq_zero_of_dvd (Int.gcd_dvd_right ..)
theorem Qaq (n d:Int):d % ((Xb [n,d]:Nat):Int)=0:=by
  rw [Kr]; exact Int.emod_eq_zero_of_dvd (Int.gcd_dvd_left ..)
theorem Qqd {n g:Int} (h:n % g=0):-n % g=0:=by
  exact Int.emod_eq_zero_of_dvd (Int.dvd_neg.2 (Int.dvd_of_emod_eq_zero h))
theorem Qps {n d:Int} {s:Nat} (hd:d≠0) (h:Ql d≤s):Ql ((Xb [n,d]:Nat):Int)≤s:=by
  rw [Kr]
  refine Nat.le_trans (X6 ?_) h
  have:=Nat.le_of_dvd (by omega:0<d.natAbs) (show Int.gcd d n∣d.natAbs from Nat.gcd_dvd_left _ _)
  simpa using this
theorem Qfx {n d:Int} (hd:0<d):n / ((Xb [n,d]:Nat):Int)=(Rat.divInt n d).num∧d / ((Xb [n,d]:Nat):Int)=((Rat.divInt n d).den:Int):=by
  rw [Kr,Rat.num_divInt,Rat.den_divInt,if_neg (by omega),Int.sign_eq_one_of_pos hd,Int.one_mul]
  refine ⟨rfl,?_⟩
  rw [Int.natCast_ediv,Int.natAbs_of_nonneg (by omega)]
theorem Q3o {n d:Int} (hd:d<0):-n / ((Xb [n,d]:Nat):Int)=(Rat.divInt n d).num∧-d / ((Xb [n,d]:Nat):Int)=((Rat.divInt n d).den:Int):=by
  rw [Kr,Rat.num_divInt,Rat.den_divInt,if_neg (by omega),Int.sign_eq_neg_one_of_neg hd,Int.neg_mul,Int.one_mul]
  refine ⟨rfl,?_⟩
  rw [Int.natCast_ediv,Int.ofNat_natAbs_of_nonpos (by omega)]
theorem Pf (u g:Int):Ql (u / g)≤Ql u:=by
  unfold Ql
  exact X6 (Int.natAbs_ediv_le_natAbs u g)
theorem Qaz {n d:Int} {s:Nat} (h:Ql n≤s):Ql (Rat.divInt n d).num≤s:=by
  rw [Rat.num_divInt]
  refine Nat.le_trans (Pf _ _) ?_
  unfold Ql
  rw [Int.natAbs_mul]
  refine Nat.le_trans (X6 ?_) h
  have:d.sign.natAbs≤1:=by rcases Gh d with ⟨_,e⟩ | ⟨_,e⟩ | ⟨_,e⟩ <;> rw [e] <;> decide
  calc d.sign.natAbs*n.natAbs≤1*n.natAbs:=Nat.mul_le_mul_right _ this
    _=n.natAbs:=Nat.one_mul _
theorem Qay {n d:Int} {s:Nat} (h:Ql d≤s) (h1:1≤s):Ql ((Rat.divInt n d).den:Int)≤s:=by
  rw [Rat.den_divInt]
  split
  · exact h1
  · refine Nat.le_trans (X6 ?_) h
    exact Nat.div_le_self _ _
def Qs (s:Nat) (q:Rat):Prop:=Ql q.num≤s∧Ql (q.den:Int)≤s
theorem Qs.mono {s t:Nat} {q:Rat} (h:Qs s q) (ht:s≤t):Qs t q:=⟨Nat.le_trans h.1 ht,Nat.le_trans h.2 ht⟩
theorem Qs.divInt {s:Nat} {n d:Int} (h:Ql n≤s) (h':Ql d≤s) (h1:1≤s):Qs s (Rat.divInt n d):=⟨Qaz h,Qay h' h1⟩
theorem Wo (q:Rat):(q.den:Int)≠0:=by have:=q.den_nz; omega
theorem den_pos (q:Rat):(0:Int)<(q.den:Int):=by have:=q.den_nz; omega
def Z1 (n d:Int):Rat:=Rat.divInt n (if d=0 then 1 else d)
theorem Tr (q:Rat):Z1 q.num q.den=q:=by
  unfold Z1
  rw [if_neg (Wo q)]; exact Rat.num_divInt_den q
def Z2 (a b:Rat):Int:=Kk (a.num*(b.den:Int)) (b.num*(a.den:Int))
theorem W0 {a b:Rat}:Z2 a b<0↔a<b:=by
  rw [Rat.lt_iff]; unfold Z2 Kk
  constructor
  · intro h; split at h
    · assumption
    · split at h <;> omega
  · intro h; rw [if_pos h]; decide
theorem Wz {a b:Rat}:0<Z2 a b↔b<a:=by
  rw [Rat.lt_iff]; unfold Z2 Kk
  constructor
  · intro h; split at h
    · omega
    · split at h
      · assumption
      · omega
  · intro h; rw [if_neg (by omega),if_pos h]; decide
theorem Wn (a:Rat):Z2 a a=0:=by unfold Z2 Kk; simp
end Orr

namespace Orr
open Go Go.Proofs
set_option maxRecDepth 10000
abbrev fr (q:Rat):List LV:=ri q.num++ri (q.den:Int)
theorem Gu:Q8 1=[1]:=by rw [Td (by decide)]; rw [Z8]
theorem Vp {n:Int}:Qd Tryz.prog 83 [.agg (ri n),.agg (ri 1)] [.agg (fr (n:Rat))]:=by
  have h0:(V9 (Q8 (1:Int).natAbs))[0]? = some [LV.int .i64 1]:=by rw [show (1:Int).natAbs=1 from rfl,Gu]; rfl
  have h1:decide (((V9 (Q8 (1:Int).natAbs)).length:Int)=1)=true:=by rw [show (1:Int).natAbs=1 from rfl,Gu]; rfl
  exact w tt Tryz.func83 rfl [.c [] (Vy (z:=1)),.f rfl,.f rfl,.g 19 true h1,.x h0,.t rfl] rfl rfl trivial
theorem Ol {n:Int} (hn:-4000000000000000000≤n∧n≤4000000000000000000):Qd Tryz.prog 22 [.one (.int .i64 n),.one (.int .i64 1)] [.agg (fr (n:Rat))] :=
  w tt Tryz.func22 rfl [.c [] (Ub hn),.c [] (Ub (n:=1) (by decide)),.c [] Vp] rfl rfl trivial
theorem Q5t {q:Rat} (hq:Qs 100000000 q):Qd Tryz.prog 21 [.agg (fr q)] [.agg (rl q)] :=
  w tt Tryz.func21 rfl [.c [] (Qr7 hq.1),.c [] (Qr7 hq.2)] rfl rfl trivial
end Orr

namespace Orr
open Go Go.Proofs
set_option maxRecDepth 10000
theorem Q4u {a b:Int} (h:(decide (a<0) == decide (b<0))=true):Qj (decide (a<0)) (a.natAbs+b.natAbs)=a+b:=by
  unfold Qj
  by_cases h1:a<0 <;> by_cases h2:b<0 <;> simp [h1,h2] at h ⊢ <;> omega
theorem Q4x {a b:Int} (h:¬(decide (a<0) == decide (b<0))=true) (hl:b.natAbs≤a.natAbs):Qj (decide (a<0)) (a.natAbs-b.natAbs)=a+b:=by
  unfold Qj
  by_cases h1:a<0 <;> by_cases h2:b<0 <;> simp [h1,h2] at h ⊢ <;> omega
theorem Qz4 {a b:Int} (h:¬(decide (a<0) == decide (b<0))=true) (hl:¬b.natAbs≤a.natAbs):Qj (decide (b<0)) (b.natAbs-a.natAbs)=a+b:=by
  unfold Qj
  by_cases h1:a<0 <;> by_cases h2:b<0 <;> simp [h1,h2] at h ⊢ <;> omega
theorem Mv (a:Int):(∃ m:Nat,a=(m:Int))∨∃ m:Nat,a=-(m:Int)∧0<m:=by
  rcases Int.lt_or_le a 0 with h | h
  · exact .inr ⟨a.natAbs,by omega,by omega⟩
  · exact .inl ⟨a.natAbs,by omega⟩
theorem Q4w (a b:Int):Qj (!(decide (a<0) == decide (b<0))) (a.natAbs*b.natAbs)=a*b:=by
  rcases Mv a with ⟨m,rfl⟩ | ⟨m,rfl,hm⟩ <;> rcases Mv b with ⟨n,rfl⟩ | ⟨n,rfl,hn⟩
  · simp [Qj,show ¬((m:Int)<0) by omega,show ¬((n:Int)<0) by omega]
  · simp [Qj,show ¬((m:Int)<0) by omega,show (-(n:Int)<0) by omega,hn,Int.mul_neg]
  · simp [Qj,show (-(m:Int)<0) by omega,show ¬((n:Int)<0) by omega,hm,Int.neg_mul]
  · simp [Qj,show (-(m:Int)<0) by omega,show (-(n:Int)<0) by omega,hm,hn,Int.neg_mul_neg]
theorem Q4v {a b:Int} (h:a % b=0):Qj (!(decide (a<0) == decide (b<0))) (a.natAbs / b.natAbs)=a / b:=by
  by_cases hb:b=0
  · subst hb; simp [Qj]
  obtain ⟨c,rfl⟩:=Int.dvd_of_emod_eq_zero h
  rw [Int.mul_ediv_cancel_left _ hb,Int.natAbs_mul,Nat.mul_div_cancel_left _ (by omega)]
  rcases Mv b with ⟨n,rfl⟩ | ⟨n,rfl,hn⟩ <;> rcases Mv c with ⟨m,rfl⟩ | ⟨m,rfl,hm⟩
  · have:¬((n:Int)*(m:Int)<0):=by rw [←Int.natCast_mul]; omega
    simp [Qj,this,show ¬((n:Int)<0) by omega]
  · have h1:0<n*m:=Nat.mul_pos (by omega) hm
    have:((n:Int)*-(m:Int)<0):=by rw [Int.mul_neg,←Int.natCast_mul]; omega
    simp only [this,show ¬((n:Int)<0) by omega]
    simp [Qj]
  · by_cases h0:m=0
    · subst h0; simp [Qj]
    · have h1:0<n*m:=Nat.mul_pos hn (by omega)
      have:(-(n:Int)*(m:Int)<0):=by rw [Int.neg_mul,←Int.natCast_mul]; omega
      simp only [this,show (-(n:Int)<0) by omega]
      simp [Qj]
  · have:¬(-(n:Int)*-(m:Int)<0):=by rw [Int.neg_mul_neg,←Int.natCast_mul]; omega
    simp only [this,show (-(n:Int)<0) by omega]
    simp [Qj]
theorem Q0a (a b:Int):Int.sign (a-b)=Kk a b:=by
  unfold Kk
  rcases Int.lt_trichotomy a b with h | h | h
  · rw [if_pos h,Int.sign_eq_neg_one_of_neg (by omega)]
  · rw [if_neg (by omega),if_neg (by omega),h,Int.sub_self]; rfl
  · rw [if_neg (by omega),if_pos h,Int.sign_eq_one_of_pos (by omega)]
theorem Qo0 {x y:Nat}:0≤Sb x y↔y≤x:=by
  unfold Sb
  constructor
  · intro h; split at h
    · omega
    · omega
  · intro h; split
    · omega
    · split <;> omega
theorem O4 {x e:Nat} (h:(Q8 x).length=1) (he:(Q8 x)[0]? = some e):x=e:=by
  rcases hd:Q8 x with _ | ⟨u,l⟩
  · rw [hd] at h; cases h
  · rcases l with _ | ⟨w,l⟩
    · rw [hd] at he; simp at he
      have:=Xq x
      rw [hd] at this; simp [X9] at this; omega
    · rw [hd] at h; simp at h
theorem Ql2 {a b:Int} (hb:0<b):ri (a / ((Int.gcd a b:Nat):Int))++ri (b / ((Int.gcd a b:Nat):Int))=fr (Rat.divInt a b):=by
  obtain ⟨h1,h2⟩:=Qfx (n:=a) hb
  rw [Kr,Int.gcd_comm] at h1 h2
  rw [h1,h2]
theorem Ql3 (a:Int):ri a++ri 1=fr (Rat.divInt a 1):=by
  have h:=Ql2 (a:=a) (b:=1) (by decide)
  rw [show ((Int.gcd a 1:Nat):Int)=1 by simp] at h
  simpa using h
theorem Qde {a b:Int} (hb:b≠0) (ha2:Ql a≤90000000) (hb2:Ql b≤90000000):Ql ((Int.gcd a b:Nat):Int)≤90000000∧((Int.gcd a b:Nat):Int)≠0∧a % ((Int.gcd a b:Nat):Int)=0∧b % ((Int.gcd a b:Nat):Int)=0:=by
  have h1:=Qps (n:=a) hb hb2
  have h2:=Qin (n:=a) hb
  have h3:=Qap a b
  have h4:=Qaq a b
  rw [Kr,Int.gcd_comm] at h1 h2 h3 h4
  exact ⟨h1,by omega,h3,h4⟩
theorem Qd5 {a b:Int} (h:b<0):Z1 a b=Rat.divInt (-a) (-b):=by
  unfold Z1; rw [if_neg (by omega)]
  exact (Rat.neg_divInt_neg a b).symm
theorem Qd6 {a b:Int} (h:0<b):Z1 a b=Rat.divInt a b:=by
  unfold Z1; rw [if_neg (by omega)]
theorem Qrt (a b:Rat):Z1 (a.num*(b.den:Int)+b.num*(a.den:Int)) ((a.den:Int)*(b.den:Int))=a+b:=by
  unfold Z1
  rw [if_neg (Int.mul_ne_zero (Wo a) (Wo b)),←Rat.divInt_add_divInt _ _ (Wo a) (Wo b),Rat.num_divInt_den,Rat.num_divInt_den]
theorem Qdp (a b:Rat):Z1 (a.num*b.num) ((a.den:Int)*(b.den:Int))=a*b:=by
  unfold Z1
  rw [if_neg (Int.mul_ne_zero (Wo a) (Wo b)),←Rat.divInt_mul_divInt,Rat.num_divInt_den,Rat.num_divInt_den]
theorem Qd4 {a b:Rat} (h:b≠0):Z1 (a.num*(b.den:Int)) ((a.den:Int)*b.num)=a / b:=by
  have hn:b.num≠0:=fun e=>h (Rat.num_eq_zero.1 e)
  unfold Z1
  rw [if_neg (Int.mul_ne_zero (Wo a) hn),←Rat.divInt_mul_divInt,Rat.num_divInt_den,Rat.div_def]
  congr 1
  conv=>rhs; rw [←Rat.num_divInt_den b,Rat.inv_divInt]
theorem Oi {z:Int} (hz:Ql z≤100000000):Qd Tryz.prog 48 [.agg (Zt z)] [.agg (ri z)]:=by
  have hl:(Q4 z.natAbs).length≤1099511627776:=by have h2:32*(Q4 z.natAbs).length≤100000000+31:=X4 hz; omega
  have h:=Q1r (l:=Q4 z.natAbs) (fun u hu=>(Wq _).1 u hu) hl (by rw [Zk]; exact hz)
  rw [Zk] at h
  have hm:=Gm (decide (z<0)) z.natAbs
  have e:Qj (decide (z<0)) z.natAbs=z:=by unfold Qj; by_cases h:z<0 <;> simp [h] <;> omega
  rw [e] at hm
  exact w tt Tryz.func48 rfl [.c [] h,.c [] hm] rfl rfl trivial
theorem Qom {z:Int}:Qd Tryz.prog 150 [.agg (ri z)] [.one (.int .i64 (Int.sign z))]:=by
  have hn:=Cd (x:=z.natAbs)
  have hl:=Nq z.natAbs
  rcases Int.lt_trichotomy z 0 with h | h | h
  · rw [Int.sign_eq_neg_one_of_neg h]
    exact w tt Tryz.func150 rfl [.f (by simp only [Xy]; exact decide_eq_false (by omega)),.t (decide_eq_true h)] rfl rfl trivial
  · subst h
    exact w tt Tryz.func150 rfl [.t (by simp only [Xy]; show decide (((Q8 0).length:Int)=0)=true; rw [Z8]; rfl)] rfl rfl trivial
  · rw [Int.sign_eq_one_of_pos h]
    exact w tt Tryz.func150 rfl [.f (by simp only [Xy]; exact decide_eq_false (by omega)),.f (decide_eq_false (by omega))] rfl rfl trivial
theorem Qlj {a b:Int} (ha:Ql a≤200000000) (hb:Ql b≤200000000):Qd Tryz.prog 210 [.agg (ri a),.agg (ri b)] [.agg (ri (a+b))]:=by
  by_cases hs:(decide (a<0) == decide (b<0))=true
  · have cm:=Gm (decide (a<0)) (a.natAbs+b.natAbs)
    rw [Q4u hs] at cm
    exact w tt Tryz.func210 rfl [.t hs,.c [] (Q63 ha hb),.c [] cm] rfl rfl trivial
  · have hs':(decide (a<0) == decide (b<0))=false:=by simpa using hs
    by_cases hl:b.natAbs≤a.natAbs
    · have cm:=Gm (decide (a<0)) (a.natAbs-b.natAbs)
      rw [Q4x hs hl] at cm
      exact w tt Tryz.func210 rfl [.f hs',.c [] (Qla ha hb),.t (decide_eq_true (Qo0.2 hl)),.c [] (Qli ha hb hl),.c [] cm] rfl rfl trivial
    · have cm:=Gm (decide (b<0)) (b.natAbs-a.natAbs)
      rw [Qz4 hs hl] at cm
      exact w tt Tryz.func210 rfl [.f hs',.c [] (Qla ha hb),.f (decide_eq_false fun h=>hl (Qo0.1 h)),.c [] (Qli hb ha (by omega)),.c [] cm] rfl rfl trivial
theorem Qvj {a b:Int} (ha:Ql a≤200000000) (hb:Ql b≤200000000):Qd Tryz.prog 151 [.agg (ri a),.agg (ri b)] [.agg (ri (a-b))]:=by
  have ca:=Qlj (a:=a) (b:=-b) ha (by rw [Xc]; exact hb)
  rw [show a+-b=a-b from by omega] at ca
  exact w tt Tryz.func151 rfl [.c [] (Rx (z:=b)),.c [] ca] rfl rfl trivial
theorem Yn {a b:Int} (ha:Ql a≤200000000) (hb:Ql b≤200000000):Qd Tryz.prog 47 [.agg (ri a),.agg (ri b)] [.agg (ri (a*b))]:=by
  have cm:=Gm (!(decide (a<0) == decide (b<0))) (a.natAbs*b.natAbs)
  rw [Q4w] at cm
  exact w tt Tryz.func47 rfl [.c [] (Q68 ha hb),.c [] cm] rfl rfl trivial
theorem Q7e {a b:Int} (ha:Ql a≤200000000) (hb:Ql b≤200000000):Qd Tryz.prog 88 [.agg (ri a),.agg (ri b)] [.one (.int .i64 (Kk a b))]:=by
  have h:=Qom (z:=a-b)
  rw [Q0a] at h
  exact w tt Tryz.func88 rfl [.c [] (Qvj ha hb),.c [] h] rfl rfl trivial
theorem Lf {a b:Int} (ha:Ql a≤90000000) (hb:Ql b≤90000000) (h0:b≠0) (hd:a % b=0):Qd Tryz.prog 142 [.agg (ri a),.agg (ri b)] [.agg (ri (a / b))]:=by
  have cm:=Gm (!(decide (a<0) == decide (b<0))) (a.natAbs / b.natAbs)
  rw [Q4v hd] at cm
  exact w tt Tryz.func142 rfl [.c [] (Qul ha hb (by omega)),.c [] cm] rfl rfl trivial
theorem Q8w (x:Nat):ri ((x:Nat):Int)=[nd x,.bool false]:=by
  unfold ri sg
  rw [Int.natAbs_natCast,decide_eq_false (by omega)]
theorem Ot {a b:Int} (ha:Ql a≤90000000) (hb:Ql b≤90000000):Qd Tryz.prog 141 [.agg (ri a),.agg (ri b)] [.agg (ri ((Int.gcd a b:Nat):Int))]:=by
  rw [Q8w]
  refine Z7 Tryz.func141 rfl ?_
  refine go tt [] rfl trivial ?_
  refine lp (S:=Nat×Nat) 3 (fun L1 s=>(5,.v (.one (nd s.1)))::(6,.v (.one (nd s.2)))::L1) (fun _=>[.blk 47 (ri a),.blk 47 (ri b),.blk 47 [.nils,.bool false]]) (fun s=>s.2) (fun s=>Nat.gcd s.1 s.2=Int.gcd a b∧sz s.1≤90000000∧sz s.2≤90000000) (a.natAbs,b.natAbs) ⟨rfl,ha,hb⟩ rfl (fun _ _=>rfl) rfl fun s hs=>?_
  obtain ⟨x,y⟩:=s
  obtain ⟨hp0,hp1,hp2⟩:=hs
  dsimp only at hp0 hp1 hp2 ⊢
  have hyn:=Cd (x:=y)
  have hyl:=Nq y
  by_cases h1:y=0
  · have e:Int.gcd a b=x:=by rw [←hp0,h1,Nat.gcd_zero_right]
    rw [e]
    exact en tt [.f (by simp only [Xy]; exact decide_eq_false (by omega))] rfl rfl trivial
  · have hlt:=Nat.mod_lt x (show 0<y by omega)
    refine go tt [.t (by simp only [Xy]; exact decide_eq_true (by omega)),.c [] (Qul hp1 hp2 (by omega))] rfl trivial ?_
    exact rd (y,x % y) (by dsimp only; omega) ⟨by dsimp only; rw [←hp0,Nat.gcd_comm x y,Nat.gcd_rec y x,Nat.gcd_comm],hp2,Nat.le_trans (X6 (by dsimp only; omega)) hp2⟩ rfl
theorem B5 {a b:Int} (ha:Ql a≤90000000) (hb:Ql b≤90000000):Qd Tryz.prog 83 [.agg (ri a),.agg (ri b)] [.agg (fr (Z1 a b))]:=by
  rcases Int.lt_trichotomy b 0 with hs | hs | hs
  · skip
    by_cases h1:-b=1
    · have h0:(V9 (Q8 (-b).natAbs))[0]? = some [LV.int .i64 1]:=by rw [h1,show (1:Int).natAbs=1 from rfl,Gu]; rfl
      have hl1:decide (((V9 (Q8 (-b).natAbs)).length:Int)=1)=true:=by rw [h1,show (1:Int).natAbs=1 from rfl,Gu]; rfl
      have e:fr (Z1 a b)=ri (-a)++ri (-b):=by rw [Qd5 hs,h1]; exact (Ql3 _).symm
      rw [e]
      exact w tt Tryz.func83 rfl [.c [] (Vy (z:=b)),.f (decide_eq_false (by omega)),.t (decide_eq_true hs),.c [] (Rx (z:=a)),.c [] (Rx (z:=b)),.g 19 true hl1,.x h0,.t rfl] rfl rfl trivial
    · have hgf:=Qde (a:=-a) (b:=-b) (by omega) (by first | exact ha | (rw [Xc]; exact ha)) (by first | exact hb | (rw [Xc]; exact hb))
      have cg:=Ot (a:=-a) (b:=-b) (by first | exact ha | (rw [Xc]; exact ha)) (by first | exact hb | (rw [Xc]; exact hb))
      have q1:=Lf (a:=-a) (b:=((Int.gcd (-a) (-b):Nat):Int)) (by first | exact ha | (rw [Xc]; exact ha)) hgf.1 hgf.2.1 hgf.2.2.1
      have q2:=Lf (a:=-b) (b:=((Int.gcd (-a) (-b):Nat):Int)) (by first | exact hb | (rw [Xc]; exact hb)) hgf.1 hgf.2.1 hgf.2.2.2
      have e:fr (Z1 a b)=ri ((-a) / ((Int.gcd (-a) (-b):Nat):Int))++ri ((-b) / ((Int.gcd (-a) (-b):Nat):Int)):=by rw [Qd5 hs]; exact (Ql2 (by omega)).symm
      rw [e]
      have hl:=Nq (-b).natAbs
      by_cases hl1:(Q8 (-b).natAbs).length=1
      · obtain ⟨u,hu⟩:∃ u,(Q8 (-b).natAbs)[0]? = some u:=⟨_,List.getElem?_eq_getElem (by omega)⟩
        have hue:=O4 hl1 hu
        exact w tt Tryz.func83 rfl [.c [] (Vy (z:=b)),.f (decide_eq_false (by omega)),.t (decide_eq_true hs),.c [] (Rx (z:=a)),.c [] (Rx (z:=b)),.g 19 true (by simp only [Xy]; exact decide_eq_true (by omega)),.x (Zl hu),.f (decide_eq_false (by omega)),.c [] cg,.c [] q1,.c [] q2] rfl rfl trivial
      · exact w tt Tryz.func83 rfl [.c [] (Vy (z:=b)),.f (decide_eq_false (by omega)),.t (decide_eq_true hs),.c [] (Rx (z:=a)),.c [] (Rx (z:=b)),.g 19 false (by simp only [Xy]; exact decide_eq_false (by omega)),.f rfl,.c [] cg,.c [] q1,.c [] q2] rfl rfl trivial
  · subst hs
    have h0:(V9 (Q8 (1:Int).natAbs))[0]? = some [LV.int .i64 1]:=by rw [show (1:Int).natAbs=1 from rfl,Gu]; rfl
    have h1:decide (((V9 (Q8 (1:Int).natAbs)).length:Int)=1)=true:=by rw [show (1:Int).natAbs=1 from rfl,Gu]; rfl
    have e:fr (Z1 a 0)=ri a++ri 1:=(Ql3 a).symm
    rw [e]
    exact w tt Tryz.func83 rfl [.c [] (Vy (z:=0)),.t rfl,.c [] (Ub (n:=1) (by decide)),.f rfl,.g 19 true h1,.x h0,.t rfl] rfl rfl trivial
  · skip
    by_cases h1:b=1
    · have h0:(V9 (Q8 (b).natAbs))[0]? = some [LV.int .i64 1]:=by rw [h1,show (1:Int).natAbs=1 from rfl,Gu]; rfl
      have hl1:decide (((V9 (Q8 (b).natAbs)).length:Int)=1)=true:=by rw [h1,show (1:Int).natAbs=1 from rfl,Gu]; rfl
      have e:fr (Z1 a b)=ri (a)++ri (b):=by rw [Qd6 hs,h1]; exact (Ql3 _).symm
      rw [e]
      exact w tt Tryz.func83 rfl [.c [] (Vy (z:=b)),.f (decide_eq_false (by omega)),.f (decide_eq_false (by omega)),.g 19 true hl1,.x h0,.t rfl] rfl rfl trivial
    · have hgf:=Qde (a:=a) (b:=b) (by omega) (by first | exact ha | (rw [Xc]; exact ha)) (by first | exact hb | (rw [Xc]; exact hb))
      have cg:=Ot (a:=a) (b:=b) (by first | exact ha | (rw [Xc]; exact ha)) (by first | exact hb | (rw [Xc]; exact hb))
      have q1:=Lf (a:=a) (b:=((Int.gcd (a) (b):Nat):Int)) (by first | exact ha | (rw [Xc]; exact ha)) hgf.1 hgf.2.1 hgf.2.2.1
      have q2:=Lf (a:=b) (b:=((Int.gcd (a) (b):Nat):Int)) (by first | exact hb | (rw [Xc]; exact hb)) hgf.1 hgf.2.1 hgf.2.2.2
      have e:fr (Z1 a b)=ri ((a) / ((Int.gcd (a) (b):Nat):Int))++ri ((b) / ((Int.gcd (a) (b):Nat):Int)):=by rw [Qd6 hs]; exact (Ql2 (by omega)).symm
      rw [e]
      have hl:=Nq (b).natAbs
      by_cases hl1:(Q8 (b).natAbs).length=1
      · obtain ⟨u,hu⟩:∃ u,(Q8 (b).natAbs)[0]? = some u:=⟨_,List.getElem?_eq_getElem (by omega)⟩
        have hue:=O4 hl1 hu
        exact w tt Tryz.func83 rfl [.c [] (Vy (z:=b)),.f (decide_eq_false (by omega)),.f (decide_eq_false (by omega)),.g 19 true (by simp only [Xy]; exact decide_eq_true (by omega)),.x (Zl hu),.f (decide_eq_false (by omega)),.c [] cg,.c [] q1,.c [] q2] rfl rfl trivial
      · exact w tt Tryz.func83 rfl [.c [] (Vy (z:=b)),.f (decide_eq_false (by omega)),.f (decide_eq_false (by omega)),.g 19 false (by simp only [Xy]; exact decide_eq_false (by omega)),.f rfl,.c [] cg,.c [] q1,.c [] q2] rfl rfl trivial
theorem Zab {n d:Int} (hn:-1000000000≤n∧n≤1000000000) (hd:-1000000000≤d∧d≤1000000000):Qd Tryz.prog 22 [.one (.int .i64 n),.one (.int .i64 d)] [.agg (fr (Z1 n d))]:=by
  have b1:Ql n≤90000000:=Nat.le_trans (J3.2 (show n.natAbs<2^40 by omega)) (by decide)
  have b2:Ql d≤90000000:=Nat.le_trans (J3.2 (show d.natAbs<2^40 by omega)) (by decide)
  exact w tt Tryz.func22 rfl [.c [] (Ub (by omega)),.c [] (Ub (by omega)),.c [] (B5 b1 b2)] rfl rfl trivial
theorem Q7a {a:Rat}:Qd Tryz.prog 206 [.agg (fr a)] [.agg (fr (-a))]:=by
  have e:fr (-a)=ri (-a.num)++ri (a.den:Int):=rfl
  rw [e]
  exact w tt Tryz.func206 rfl [.c [] (Rx (z:=a.num))] rfl rfl trivial
theorem Quj {a b:Rat} (ha:Qs 20000000 a) (hb:Qs 20000000 b):Qd Tryz.prog 285 [.agg (fr a),.agg (fr b)] [.agg (fr (a+b))]:=by
  have k1:=Q0 a.num (b.den:Int)
  have k2:=Q0 b.num (a.den:Int)
  have k3:=Q0 (a.den:Int) (b.den:Int)
  have k4:=Mj (a.num*(b.den:Int)) (b.num*(a.den:Int))
  have h1:=ha.1; have h2:=ha.2; have h3:=hb.1; have h4:=hb.2
  have cm:=B5 (a:=a.num*(b.den:Int)+b.num*(a.den:Int)) (b:=(a.den:Int)*(b.den:Int)) (by omega) (by omega)
  rw [Qrt] at cm
  exact w tt Tryz.func285 rfl [.c [] (Yn (a:=a.num) (b:=(b.den:Int)) (by omega) (by omega)),.c [] (Yn (a:=b.num) (b:=(a.den:Int)) (by omega) (by omega)),.c [] (Qlj (by omega) (by omega)),.c [] (Yn (a:=(a.den:Int)) (b:=(b.den:Int)) (by omega) (by omega)),.c [] cm] rfl rfl trivial
theorem Qut {a b:Rat} (ha:Qs 40000000 a) (hb:Qs 40000000 b):Qd Tryz.prog 279 [.agg (fr a),.agg (fr b)] [.agg (fr (a*b))]:=by
  have k1:=Q0 a.num b.num
  have k3:=Q0 (a.den:Int) (b.den:Int)
  have h1:=ha.1; have h2:=ha.2; have h3:=hb.1; have h4:=hb.2
  have cm:=B5 (a:=a.num*b.num) (b:=(a.den:Int)*(b.den:Int)) (by omega) (by omega)
  rw [Qdp] at cm
  exact w tt Tryz.func279 rfl [.c [] (Yn (a:=a.num) (b:=b.num) (by omega) (by omega)),.c [] (Yn (a:=(a.den:Int)) (b:=(b.den:Int)) (by omega) (by omega)),.c [] cm] rfl rfl trivial
theorem Qlf {a b:Rat} (ha:Qs 40000000 a) (hb:Qs 40000000 b) (h0:b≠0):Qd Tryz.prog 309 [.agg (fr a),.agg (fr b)] [.agg (fr (a / b))]:=by
  have k1:=Q0 a.num (b.den:Int)
  have k3:=Q0 (a.den:Int) b.num
  have h1:=ha.1; have h2:=ha.2; have h3:=hb.1; have h4:=hb.2
  have cm:=B5 (a:=a.num*(b.den:Int)) (b:=(a.den:Int)*b.num) (by omega) (by omega)
  rw [Qd4 h0] at cm
  exact w tt Tryz.func309 rfl [.c [] (Yn (a:=a.num) (b:=(b.den:Int)) (by omega) (by omega)),.c [] (Yn (a:=(a.den:Int)) (b:=b.num) (by omega) (by omega)),.c [] cm] rfl rfl trivial
theorem Q2b {a b:Rat} (ha:Qs 40000000 a) (hb:Qs 40000000 b):Qd Tryz.prog 33 [.agg (fr a),.agg (fr b)] [.one (.int .i64 (Z2 a b))]:=by
  have k1:=Q0 a.num (b.den:Int)
  have k2:=Q0 b.num (a.den:Int)
  have h1:=ha.1; have h2:=ha.2; have h3:=hb.1; have h4:=hb.2
  exact w tt Tryz.func33 rfl [.c [] (Yn (a:=a.num) (b:=(b.den:Int)) (by omega) (by omega)),.c [] (Yn (a:=b.num) (b:=(a.den:Int)) (by omega) (by omega)),.c [] (Q7e (a:=a.num*(b.den:Int)) (b:=b.num*(a.den:Int)) (by omega) (by omega))] rfl rfl trivial
end Orr

namespace Orr
def Wj:List Rat→List Rat
  | []=>[]
  |
   x::l=>match Wj l with
   | []=>if x=0 then [] else [x]
   | y::k=>x::y::k
theorem P4:∀ {l:List Rat},(∀ x∈l,x=0)→Wj l=[]
  | [],_=>rfl
  |
   x::l,h=>by
   have ih:=P4 (l:=l) (fun y hy=>h y (List.mem_cons_of_mem _ hy))
   simp [Wj,ih,h x (List.mem_cons_self ..)]
theorem Qbq:∀ {l:List Rat} {m:Nat} {y:Rat},(∀ j x,m<j→l[j]? = some x→x=0)→l[m]? = some y→y≠0→Wj l=l.take (m+1)
  | [],m,y,_,h,_=>by simp at h
  |
   x::l,0,y,h1,h2,h3=>by
   have h0:Wj l=[]:=P4 fun z hz=>by
     obtain ⟨j,hj⟩:=List.mem_iff_getElem?.1 hz
     exact h1 (j+1) z (by omega) (by simpa using hj)
   simp at h2
   subst h2
   simp [Wj,h0,h3]
  |
   x::l,m+1,y,h1,h2,h3=>by
   have ih:=Qbq (l:=l) (m:=m) (y:=y) (fun j z hj hz=>h1 (j+1) z (by omega) (by simpa using hz)) (by simpa using h2) h3
   cases hl:l with
   | nil=>subst hl; simp at h2
   |
    cons u k =>
    subst hl
    rw [List.take_succ_cons] at ih
    simp only [Wj] at ih ⊢
    rw [ih]
    simp
theorem Er {l:List Rat} {m:Nat} (hm:m≤l.length) (h1:∀ j x,m≤j→l[j]? = some x→x=0) (h2:0<m→∃ y,l[m-1]? = some y∧y≠0):Wj l=l.take m:=by
  rcases Nat.eq_zero_or_pos m with h0 | h0
  · subst h0
    rw [P4 fun z hz=>?_]; rfl
    obtain ⟨j,hj⟩:=List.mem_iff_getElem?.1 hz
    exact h1 j z (by omega) hj
  · obtain ⟨y,hy,hy0⟩:=h2 h0
    have:=Qbq (l:=l) (m:=m-1) (y:=y) (fun j x hj hx=>h1 j x (by omega) hx) hy hy0
    rwa [show m-1+1=m from by omega] at this
theorem Qed:∀ (l:List Rat),∀ z∈Wj l,z∈l
  | [],z,h=>h
  |
   x::l,z,h=>by
   simp only [Wj] at h
   have ih:=Qed l
   split at h
   · split at h
     · cases h
     · simp at h; simp [h]
   · rename_i y k e
     rw [e] at ih
     rcases List.mem_cons.1 h with h | h
     · simp [h]
     · exact List.mem_cons_of_mem _ (ih z h)
theorem Qec:∀ (l:List Rat),(Wj l).length≤l.length
  | []=>Nat.le_refl _
  |
   x::l=>by
   have ih:=Qec l
   simp only [Wj]
   split
   · split <;> simp
   · rename_i y k e
     rw [e] at ih
     simp at ih ⊢; omega
def zp (p:List Int):List Rat:=p.map fun (z:Int)=>(z:Rat)
theorem Wc:∀ (p:List Int),Wj (zp p)=zp (trim p)
  | []=>rfl
  |
   x::l=>by
   have ih:=Wc l
   unfold zp at ih ⊢
   simp only [List.map_cons,Wj,trim,ih]
   cases h:trim l with
   |
    nil =>
    simp only [List.map_nil]
    by_cases hx:x=0
    · subst hx; simp
    · have:(x:Rat)≠0:=fun e=>hx (by exact_mod_cast e)
      simp [hx,this]
   | cons y k=>simp
theorem J6 (p:List Int):(zp p).length=p.length:=List.length_map _
theorem Q04 {p:List Int} {i:Nat} {z:Int} (h:p[i]? = some z):(zp p)[i]? = some (z:Rat):=by simp [zp,h]
theorem D5 (p:List Int) (i:Nat):(zp p).getD i 0=((p.getD i 0:Int):Rat):=by
  simp only [List.getD_eq_getElem?_getD,zp,List.getElem?_map]
  cases p[i]? <;> rfl
def Rb (s:Nat) (p:List Rat):Prop:=∀ q∈p,Qs s q
theorem Rb.mono {s t:Nat} {p:List Rat} (h:Rb s p) (ht:s≤t):Rb t p:=fun q hq=>(h q hq).mono ht
theorem Rb.get {s:Nat} {p:List Rat} (h:Rb s p) {i:Nat} {q:Rat} (hq:p[i]? = some q):Qs s q:=h q (List.mem_of_getElem? hq)
theorem Uq {s:Nat} {z:Int} (h:Ql z≤s) (h1:1≤s):Qs s (z:Rat):=⟨by simpa using h,Nat.le_trans (show Ql ((1:Nat):Int)≤1 by decide) h1⟩
theorem Sa {s:Nat} {p:List Int} (h:Bd s p) (h1:1≤s):Rb s (zp p):=fun q hq=>by
  obtain ⟨z,hz,rfl⟩:=List.mem_map.1 hq
  exact Uq (h z hz) h1
theorem Q4h {s:Nat} (h1:1≤s):Qs s 0:=Uq (z:=0) (by simp [Vr]) h1
theorem Rb.getD {s:Nat} {p:List Rat} (h:Rb s p) (h1:1≤s) (i:Nat):Qs s (p.getD i 0):=by
  rw [List.getD_eq_getElem?_getD]
  cases e:p[i]? with
  | none=>exact Q4h h1
  | some q=>exact h.get e
theorem Rb.trim {s:Nat} {p:List Rat} (h:Rb s p):Rb s (Wj p):=fun q hq=>h q (Qed p q hq)
def Sf (f:Nat→Rat) (n:Nat):List Rat:=(List.range n).map f
theorem Ds (f:Nat→Rat) (n:Nat):(Sf f n).length=n:=by simp [Sf]
theorem Qei (f:Nat→Rat) (n:Nat):Sf f (n+1)=Sf f n++[f n]:=by simp [Sf,List.range_succ]
theorem Q45 {s n:Nat} {f:Nat→Rat} (h:∀ i,i<n→Qs s (f i)):Rb s (Sf f n):=fun q hq=>by
  obtain ⟨i,hi,rfl⟩:=List.mem_map.1 hq
  exact h i (List.mem_range.1 hi)
theorem I6 {f:Nat→Rat} {g:Nat→Int} (n:Nat) (h:∀ i,i<n→f i=(g i:Rat)):Sf f n=zp ((List.range n).map g):=by
  simp only [Sf,zp,List.map_map]
  exact List.map_congr_left fun i hi=>h i (List.mem_range.1 hi)
def Qtl (p q:List Rat):List Rat:=Wj (Sf (fun i=>p.getD i 0+q.getD i 0) (max p.length q.length))
def Vo (p:List Rat) (c:Rat):List Rat:=Wj (Sf (fun i=>p.getD i 0*c) p.length)
def Qgl (p:List Rat):List Rat:=Vo p (-1)
def Qzu (p q:List Rat):List Rat:=Qtl p (Qgl q)
theorem Qq1 (p q:List Int):Qtl (zp p) (zp q)=zp (M9 p q):=by
  unfold Qtl M9 Vl
  rw [I6 (g:=fun k=>p.getD k 0+q.getD k 0) _ fun i _=>by rw [D5,D5,Rat.intCast_add],Wc,J6,J6]
theorem Qd9 (p:List Int) (c:Int):Vo (zp p) (c:Rat)=zp (Qx p c):=by
  unfold Vo Qx Vl
  rw [I6 (g:=fun k=>p.getD k 0*c) _ fun i _=>by rw [D5,Rat.intCast_mul],Wc,J6]
theorem Qmx (p:List Int):Qx p (-1)=Ve p:=by
  unfold Qx Ve Vl
  congr 2
  funext k
  omega
theorem Qq4 (p:List Int):Qgl (zp p)=zp (Ve p):=by
  rw [←Qmx,←Qd9]; rfl
theorem S4 {p q:List Int} (hp:Qi p) (hq:Qi q) (h:∀ k,p.getD k 0=q.getD k 0):p=q:=by
  have key:∀ {p q:List Int},Qi q→(∀ k,p.getD k 0=q.getD k 0)→q.length≤p.length:=by
    intro p q hq h
    rcases Nat.lt_or_ge p.length q.length with h1 | h1
    · have h2:=Xj hq (by omega)
      rw [←h,List.getD_eq_getElem?_getD,List.getElem?_eq_none (by omega)] at h2
      exact (h2 rfl).elim
    · exact h1
  exact Qaf (Nat.le_antisymm (key hp fun k=>(h k).symm) (key hq h)) fun j _=>h j
theorem Qlz {n m:Nat} {f g:Nat→Int} (hn:n≤m) (h:∀ k,k<n→f k=g k) (h0:∀ k,n≤k→k<m→g k=0):Vl n f=Vl m g:=by
  refine S4 (Q9 _ _) (Q9 _ _) fun k=>?_
  rw [Yj,Yj]
  by_cases h1:k<n
  · rw [if_pos h1,if_pos (by omega),h k h1]
  · rw [if_neg h1]
    by_cases h2:k<m
    · rw [if_pos h2,h0 k (by omega) h2]
    · rw [if_neg h2]
theorem Qq9 (p q:List Int):Qzu (zp p) (zp q)=zp (Vn p q):=by
  unfold Qzu
  rw [Qq4,Qq1]
  congr 1
  have hl:=Ph q
  unfold M9 Vn
  refine Qlz (by omega) (fun k _=>?_) fun k h1 h2=>?_
  · unfold Ve
    rw [Yj]
    split
    · omega
    · rename_i h
      have:q.getD k 0=0:=by rw [List.getD_eq_getElem?_getD,List.getElem?_eq_none (by omega)]; rfl
      omega
  · have h3:p.getD k 0=0:=by rw [List.getD_eq_getElem?_getD,List.getElem?_eq_none (by omega)]; rfl
    have h4:(Ve q).getD k 0=0:=by rw [List.getD_eq_getElem?_getD,List.getElem?_eq_none (by omega)]; rfl
    unfold Ve at h4
    rw [Yj] at h4
    split at h4
    · omega
    · have:q.getD k 0=0:=by rw [List.getD_eq_getElem?_getD,List.getElem?_eq_none (by omega)]; rfl
      omega
end Orr

namespace Orr
structure Crv where
  x:List Int
  y:List Int
  d:Int
abbrev cl (k:Crv):List LV:=[pl k.x,pl k.y,sg k.d,mg k.d]
def Crv.d' (k:Crv):Int:=if k.d=0 then 1 else k.d
def Crv.g (k:Crv):Int:=if k.d'<0 then -((Xb (k.d'::(trim k.x++trim k.y)):Nat):Int) else (Xb (k.d'::(trim k.x++trim k.y)):Nat)
def Crv.norm (k:Crv):Crv:=⟨trim ((trim k.x).map (· / k.g)),trim ((trim k.y).map (· / k.g)),k.d' / k.g⟩
theorem S8 {l:List Int}:∀ z∈l,((Xb l:Nat):Int)∣z:=by
  have key:∀ (l:List Int) (g:Nat),(l.foldl (fun g z=>Nat.gcd g z.natAbs) g∣g)∧∀ z∈l,l.foldl (fun g z=>Nat.gcd g z.natAbs) g∣z.natAbs:=by
    intro l
    induction l with
    | nil=>intro g; exact ⟨Nat.dvd_refl _,by simp⟩
    |
     cons u l ih =>
     intro g
     obtain ⟨h1,h2⟩:=ih (Nat.gcd g u.natAbs)
     refine ⟨Nat.dvd_trans h1 (Nat.gcd_dvd_left _ _),fun z hz=>?_⟩
     rcases List.mem_cons.1 hz with rfl | hz
     · exact Nat.dvd_trans h1 (Nat.gcd_dvd_right _ _)
     · exact h2 z hz
  intro z hz
  have:=(key l 0).2 z hz
  exact Int.ofNat_dvd_left.2 this
theorem Crv.d'_ne (k:Crv):k.d'≠0:=by unfold Crv.d'; split <;> omega
theorem Crv.gcd_ne (k:Crv):Xb (k.d'::(trim k.x++trim k.y))≠0:=by
  intro e
  have h:=S8 (l:=k.d'::(trim k.x++trim k.y)) k.d' (List.mem_cons_self ..)
  rw [e] at h
  exact k.d'_ne (by simpa using h)
theorem Crv.g_ne (k:Crv):k.g≠0:=by
  have h0:=k.gcd_ne
  unfold Crv.g
  split <;> omega
theorem Crv.g_dvd (k:Crv):∀ z∈k.d'::(trim k.x++trim k.y),z % k.g=0:=by
  intro z hz
  have h:=S8 z hz
  refine Int.emod_eq_zero_of_dvd ?_
  unfold Crv.g
  split
  · exact Int.neg_dvd.2 h
  · exact h
theorem Crv.isz_g (k:Crv) {s:Nat} (h:Ql k.d'≤s):Ql k.g≤s:=by
  have hd:=S8 (l:=k.d'::(trim k.x++trim k.y)) k.d' (List.mem_cons_self ..)
  have hle:Xb (k.d'::(trim k.x++trim k.y))≤k.d'.natAbs:=Nat.le_of_dvd (by have:=k.d'_ne; omega) (Int.ofNat_dvd_left.1 hd)
  refine Nat.le_trans (X6 ?_) h
  unfold Crv.g
  split <;> simp <;> exact hle
structure Cs (s n:Nat) (k:Crv):Prop where
  x:Bd s k.x
  y:Bd s k.y
  d:Ql k.d≤s
  lx:k.x.length≤n
  ly:k.y.length≤n
theorem Qfo {k:Crv} {s:Nat} (h:Ql k.d≤s) (h1:1≤s):Ql k.d'≤s:=by unfold Crv.d'; split <;> first | exact h1 | exact h
theorem La {s:Nat} {p:List Int} (h:Bd s p) (g:Int):Bd s (p.map (· / g)):=fun z hz=>by
  obtain ⟨u,hu,rfl⟩:=List.mem_map.1 hz
  exact Nat.le_trans (Pf u g) (h u hu)
theorem Cs.norm {s n:Nat} {k:Crv} (h:Cs s n k) (h1:1≤s):Cs s n k.norm:=by
  refine ⟨Jp (La (Jp h.x) _),Jp (La (Jp h.y) _),Nat.le_trans (Pf _ _) (Qfo h.d h1),?_,?_⟩
  · refine Nat.le_trans (Xm _) ?_; rw [List.length_map]; exact Nat.le_trans (Xm _) h.lx
  · refine Nat.le_trans (Xm _) ?_; rw [List.length_map]; exact Nat.le_trans (Xm _) h.ly
theorem Cs.mono {s n t m:Nat} {k:Crv} (h:Cs s n k) (hs:s≤t) (hn:n≤m):Cs t m k:=⟨Qc h.x hs,Qc h.y hs,Nat.le_trans h.d hs,Nat.le_trans h.lx hn,Nat.le_trans h.ly hn⟩
def Nml (k:Crv):Prop:=Qi k.x∧Qi k.y∧0<k.d∧Xb (k.d::(k.x++k.y))=1
theorem Crv.norm_of {k:Crv} (h:Nml k):k.norm=k:=by
  obtain ⟨h1,h2,h3,h4⟩:=h
  have hd:k.d'=k.d:=by unfold Crv.d'; rw [if_neg (by omega)]
  have hx:trim k.x=k.x:=h1
  have hy:trim k.y=k.y:=h2
  have hg:k.g=1:=by unfold Crv.g; rw [hd,hx,hy,h4,if_neg (by omega)]; rfl
  unfold Crv.norm
  rw [hg,hd,hx,hy]
  simp [hx,hy]
theorem Qfh {l:List Int} {g:Int} (hg:g≠0) (hga:g.natAbs=Xb l):Xb (l.map (· / g))=1:=by
  have key:∀ (l:List Int) (a:Nat),(∀ z∈l,g∣z)→l.foldl (fun a z=>Nat.gcd a z.natAbs) (a*g.natAbs)=((l.map (· / g)).foldl (fun a z=>Nat.gcd a z.natAbs) a)*g.natAbs:=by
    intro l
    induction l with
    | nil=>intro a _; rfl
    |
     cons z l ih =>
     intro a h
     simp only [List.map_cons,List.foldl_cons]
     have hz:z.natAbs=(z / g).natAbs*g.natAbs:=by
       obtain ⟨q,rfl⟩:=h z (List.mem_cons_self ..)
       rw [Int.mul_ediv_cancel_left _ hg,Int.natAbs_mul,Nat.mul_comm]
     rw [hz,Nat.gcd_mul_right]
     exact ih _ fun u hu=>h u (List.mem_cons_of_mem _ hu)
  have h:=key l 0 fun z hz=>Int.natAbs_dvd_natAbs.1 (by rw [hga]; exact Int.natAbs_dvd_natAbs.2 (S8 z hz))
  rw [Nat.zero_mul] at h
  have h':Xb l=Xb (l.map (· / g))*g.natAbs:=h
  rw [←hga] at h'
  have hp:0<g.natAbs:=by omega
  exact Nat.eq_of_mul_eq_mul_right hp (by rw [Nat.one_mul]; exact h'.symm)
theorem Gi {l:List Int} {g:Int} (ht:Qi l) (hg:g≠0) (hd:∀ z∈l,g∣z):Qi (l.map (· / g)):=by
  induction l with
  | nil=>rfl
  |
   cons x l ih =>
   have hne:∀ z∈x::l,z≠0→z / g≠0:=fun z hz h0 h1=>by
     obtain ⟨q,rfl⟩:=hd z hz
     rw [Int.mul_ediv_cancel_left _ hg] at h1
     rw [h1] at h0; simp at h0
   unfold Qi at ht ih ⊢
   cases hl:trim l with
   |
    nil =>
    simp only [trim,hl] at ht
    split at ht
    · cases ht
    · rename_i hx
      injection ht with _ h2
      subst h2
      simp [trim,hne x (List.mem_cons_self ..) hx]
   |
    cons y k =>
    simp only [trim,hl] at ht
    injection ht with _ h2
    have hll:trim l=l:=by rw [hl]; exact h2
    have ih:=ih hll fun z hz=>hd z (List.mem_cons_of_mem _ hz)
    rw [List.map_cons]
    have hne2:l.map (· / g)≠[]:=by rw [←hll,hl]; simp
    cases hm:l.map (· / g) with
    | nil=>exact absurd hm hne2
    |
     cons u w =>
     rw [hm] at ih
     have e:trim (x / g::u::w)=match trim (u::w) with | []=>if x / g=0 then [] else [x / g] | y::k=>x / g::y::k:=rfl
     rw [e,ih]
theorem Crv.nml (k:Crv):Nml k.norm:=by
  have hg:=k.g_ne
  have hdv:∀ z∈k.d'::(trim k.x++trim k.y),k.g∣z:=fun z hz=>Int.dvd_of_emod_eq_zero (k.g_dvd z hz)
  have hx:=Gi (g:=k.g) (Xw k.x) hg fun z hz=>hdv z (by simp [hz])
  have hy:=Gi (g:=k.g) (Xw k.y) hg fun z hz=>hdv z (by simp [hz])
  refine ⟨Xw _,Xw _,?_,?_⟩
  · show 0<k.d' / k.g
    obtain ⟨q,hq⟩:=hdv k.d' (List.mem_cons_self ..)
    have h0:=k.d'_ne
    have hgc:=k.gcd_ne
    have e:k.d' / k.g=q:=by rw [hq,Int.mul_ediv_cancel_left _ hg]
    rw [e]
    unfold Crv.g at hq hg
    have hq0:q≠0:=fun e=>by rw [e,Int.mul_zero] at hq; exact h0 hq
    split at hq
    · rename_i hneg
      rcases Int.lt_or_gt_of_ne hq0 with h | h
      · have:=Int.mul_pos_of_neg_of_neg (a:=-((Xb (k.d'::(trim k.x++trim k.y)):Nat):Int)) (b:=q) (by omega) h
        omega
      · exact h
    · rename_i hneg
      rcases Int.lt_or_gt_of_ne hq0 with h | h
      · have:=Int.mul_neg_of_pos_of_neg (a:=((Xb (k.d'::(trim k.x++trim k.y)):Nat):Int)) (b:=q) (by omega) h
        omega
      · exact h
  · show Xb (k.d' / k.g::(trim ((trim k.x).map (· / k.g))++trim ((trim k.y).map (· / k.g))))=1
    rw [show trim ((trim k.x).map (· / k.g))=(trim k.x).map (· / k.g) from hx,show trim ((trim k.y).map (· / k.g))=(trim k.y).map (· / k.g) from hy,←List.map_append,←List.map_cons (f:=(· / k.g))]
    refine Qfh hg ?_
    unfold Crv.g
    split <;> omega
structure Pt where
  c:Crv
  id:Int
def Zu (p:Pt):List LV:=[pl p.c.x,pl p.c.y,sg p.c.d,mg p.c.d,.int .i64 p.id]
def pts (l:List Pt):LV:=.row (l.map Zu)
end Orr

namespace Orr
def U6:List Pt→Int→Nat
  | [],_=>0
  | p::l,id=>if p.id<id then U6 l id+1 else 0
def has (l:List Pt) (id:Int):Bool:=match l[U6 l id]? with
  | some p=>decide (p.id=id)
  | none=>false
theorem Qyw (l:List Pt) (id:Int):U6 l id≤l.length:=by
  induction l with
  | nil=>exact Nat.le_refl _
  | cons p l ih=>simp only [U6]; split <;> simp <;> omega
theorem Qbh:∀ {l:List Pt} {id:Int} {k:Nat},(∀ j p,j<k→l[j]? = some p→p.id<id)→(k=l.length∨∃ p,l[k]? = some p∧¬p.id<id)→U6 l id=k
  |
   [],id,k,_,h=>by
   rcases h with h | ⟨p,h,_⟩
   · subst h; rfl
   · simp at h
  |
   q::l,id,0,_,h=>by
   rcases h with h | ⟨p,h,h2⟩
   · simp at h
   · simp at h; subst h; simp [U6,h2]
  |
   q::l,id,k+1,h1,h=>by
   have hq:=h1 0 q (by omega) rfl
   simp only [U6,hq,if_true]
   rw [Qbh (k:=k) (fun j p hj hp=>h1 (j+1) p (by omega) (by simpa using hp))]
   rcases h with h | ⟨p,h,h2⟩
   · left; simpa using h
   · right; exact ⟨p,by simpa using h,h2⟩
def put (l:List Pt) (q:Pt):List Pt:=l.take (U6 l q.id)++q::l.drop (U6 l q.id)
def Gd (l:List Pt) (q:Pt):Int:=if has l q.id=true then 6 else if 6≤l.length then 9 else 0
def Qt7 (s n:Nat) (p:Pt):Prop:=Nml p.c∧Cs s n p.c
theorem Qqx (l:List Pt) (q:Pt):(put l q).length=l.length+1:=by
  have:=Qyw l q.id
  simp [put]; omega
theorem Qqy {l:List Pt} {q p:Pt} (h:p∈put l q):p=q∨p∈l:=by
  unfold put at h
  rcases List.mem_append.1 h with h | h
  · exact .inr (List.mem_of_mem_take h)
  · rcases List.mem_cons.1 h with h | h
    · exact .inl h
    · exact .inr (List.mem_of_mem_drop h)
def J4:List Pt→List Pt→List Pt×Int
  | acc,[]=>(acc,0)
  | acc,q::qs=>if Gd acc q=0 then J4 (put acc q) qs else ([],Gd acc q)
def Zak (a b:Crv):Bool:=decide (a.x=b.x∧a.y=b.y∧a.d=b.d)
def Zck (out:List Pt) (p:Pt):List Pt:=if out.any (fun q=>Zak p.c q.c)=true then out else out++[p]
def Zfr (l:List Pt):List Pt:=l.foldl Zck []
theorem Uo {α β:Type} (f:β→α→β) (b:β) (l:List α) {i:Nat} {x:α} (h:l[i]? = some x):(l.take (i+1)).foldl f b=f ((l.take i).foldl f b) x:=by
  rw [List.take_add_one,h]; simp [List.foldl_append]
def IsPt (s n:Nat) (z:List LV) (q:Pt):Prop:=∃ lx ly b l px py d,z=[.row lx,.row ly,.bool b,Q9i l,.int .i64 q.id]∧IsInts lx px∧IsInts ly py∧Xn (.bool b) (Q9i l) d∧Cs s n ⟨px,py,d⟩∧q.c=Crv.norm ⟨px,py,d⟩
theorem Q8b {s n:Nat} {p:Pt} (h:Qt7 s n p):IsPt s n (Zu p) p:=by
  obtain ⟨b,l,h1,h2,h3,h4⟩:=Qe p.c.d
  refine ⟨_,_,decide (p.c.d<0),Q4 p.c.d.natAbs,_,_,p.c.d,rfl,Zp _,Zp _,Qe _,h.2,(Crv.norm_of h.1).symm⟩
def IsPts (s n:Nat):List (List LV)→List Pt→Prop
  | [],[]=>True
  | z::zs,q::qs=>IsPt s n z q∧IsPts s n zs qs
  | _,_=>False
theorem IsPts.len {s n:Nat}:∀ {zs:List (List LV)} {qs:List Pt},IsPts s n zs qs→zs.length=qs.length
  | [],[],_=>rfl
  | _::_,_::_,h=>by simp [h.2.len]
  | [],_::_,h=>h.elim
  | _::_,[],h=>h.elim
theorem IsPts.get {s n:Nat}:∀ {zs:List (List LV)} {qs:List Pt},IsPts s n zs qs→∀ {i:Nat} {q:Pt},qs[i]? = some q→∃ z,zs[i]? = some z∧IsPt s n z q
  | [],[],_,i,q,h=>by simp at h
  | z::zs,q::qs,h,0,r,hr=>by simp at hr; subst hr; exact ⟨z,rfl,h.1⟩
  | z::zs,q::qs,h,i+1,r,hr=>by simpa using h.2.get (i:=i) (by simpa using hr)
  | [],_::_,h,_,_,_=>h.elim
  | _::_,[],h,_,_,_=>h.elim
theorem Qpq {s n:Nat}:∀ {l:List Pt},(∀ p∈l,Qt7 s n p)→IsPts s n (l.map Zu) l
  | [],_=>trivial
  | p::l,h=>⟨Q8b (h p (List.mem_cons_self ..)),Qpq fun q hq=>h q (List.mem_cons_of_mem _ hq)⟩
theorem IsPt.ok {s n:Nat} {z:List LV} {q:Pt} (h:IsPt s n z q) (h1:1≤s):Qt7 s n q:=by
  obtain ⟨lx,ly,b,l,px,py,d,_,_,_,_,hc,e⟩:=h
  unfold Qt7
  rw [e]
  exact ⟨Crv.nml _,hc.norm h1⟩
theorem Qta (acc qs:List Pt) {i:Nat} {q:Pt} (hi:qs[i]? = some q) (h:J4 acc (qs.take i)=((J4 acc (qs.take i)).1,0)):J4 acc (qs.take (i+1))=if Gd (J4 acc (qs.take i)).1 q=0 then (put (J4 acc (qs.take i)).1 q,0) else ([],Gd (J4 acc (qs.take i)).1 q):=by
  induction qs generalizing acc i with
  | nil=>simp at hi
  |
   cons x qs ih =>
   cases i with
   | zero=>simp at hi; subst hi; simp [J4]
   |
    succ i =>
    simp only [List.take_succ_cons,J4] at h ⊢
    by_cases h0:Gd acc x=0
    · simp only [h0,if_true] at h ⊢
      exact ih (put acc x) (by simpa using hi) h
    · simp only [h0,if_false] at h
      injection h with _ h
      exact absurd h h0
theorem Qyb (acc qs:List Pt) {i:Nat} {e:Int} (he:e≠0) (h:J4 acc (qs.take i)=([],e)):J4 acc qs=([],e):=by
  induction qs generalizing acc i with
  | nil=>simp [J4] at h; exact absurd h.2.symm he
  |
   cons x qs ih =>
   cases i with
   | zero=>simp [J4] at h; exact absurd h.2.symm he
   |
    succ i =>
    simp only [List.take_succ_cons,J4] at h ⊢
    by_cases h0:Gd acc x=0
    · simp only [h0,if_true] at h ⊢; exact ih _ h
    · simp only [h0,if_false] at h ⊢; exact h
end Orr

namespace Orr
def Z4 (p:List Int) (q:Rat):Int:=Kk (Q4d p q.num q.den) 0
abbrev qa (q:Rat):List LV:=pl [-q.num,(q.den:Int)]::(rl q++rl q)
def Ya (sgn:List Int→Int):Nat→List Int→Int
  | 0,_=>0
  | k+1,p=>if p.length=0 then 0 else if sgn p=0 then Ya sgn k (Zo p) else sgn p
theorem Pa (sgn:List Int→Int):∀ (k:Nat) (p:List Int),p.length≤k→Ya sgn k p=Ya sgn p.length p
  |
   0,p,h=>by
   have:p.length=0:=by omega
   rw [this]
  |
   k+1,p,h=>by
   cases hp:p.length with
   | zero=>simp [Ya,hp]
   |
    succ m =>
    simp only [Ya]
    have h1:=Yx p
    rw [Pa sgn k (Zo p) (by omega),Pa sgn m (Zo p) (by omega)]
theorem E9 (sgn:List Int→Int) {p:List Int} (h:p.length=0):Ya sgn p.length p=0:=by rw [h]; rfl
theorem E7 (sgn:List Int→Int) {p:List Int} (h:0<p.length) (hs:sgn p≠0):Ya sgn p.length p=sgn p:=by
  obtain ⟨m,hm⟩:∃ m,p.length=m+1:=⟨p.length-1,by omega⟩
  rw [hm]; simp only [Ya]; rw [if_neg (by omega),if_neg hs]
theorem E8 (sgn:List Int→Int) {p:List Int} (h:0<p.length) (hs:sgn p=0):Ya sgn p.length p=Ya sgn (Zo p).length (Zo p):=by
  obtain ⟨m,hm⟩:∃ m,p.length=m+1:=⟨p.length-1,by omega⟩
  rw [hm]; simp only [Ya]; rw [if_neg (by omega),if_pos hs]
  exact Pa sgn m _ (by have:=Yx p; omega)
structure Tm where
  p:List Int
  lo:Rat
  hi:Rat
abbrev ta (t:Tm):List LV:=pl t.p::(rl t.lo++rl t.hi)
abbrev tq (q:Rat):Tm:=⟨[-q.num,(q.den:Int)],q,q⟩
def Up (sg:List Int→Int) (p:List Int):Int:=Ya sg p.length p
def S9 (p:List Int) (q:Rat):Int:=Up (fun p=>Z4 p q) p
structure Pb (p:List Int):Prop where
  t:Qi p
  l:p.length≤64
  b:Bd 16777216 p
abbrev Qb (q:Rat):Prop:=Qs 16777216 q
abbrev Cb (k:Crv):Prop:=Cs 1048576 16 k
def Xl (a b:Crv):List Int:=Vn (Qx b.x a.d) (Qx a.x b.d)
def Xk (a b:Crv):List Int:=Vn (Qx b.y a.d) (Qx a.y b.d)
theorem Qjo {a b:Crv} (ha:Cb a) (hb:Cb b):Pb (Xl a b)∧(Xl a b).length≤16∧Bd 2097153 (Xl a b):=by
  have h1:Bd 2097153 (Xl a b):=Qc (Wx (Qz hb.x ha.d) (Qz ha.x hb.d)) (by omega)
  have h2:(Xl a b).length≤16:=by
    refine Nat.le_trans (Vs _ _) ?_
    have:=Qu b.x a.d; have:=Qu a.x b.d; have:=ha.lx; have:=hb.lx
    omega
  exact ⟨⟨Q9 _ _,by omega,Qc h1 (by omega)⟩,h2,h1⟩
theorem Qjm {a b:Crv} (ha:Cb a) (hb:Cb b):Pb (Xk a b)∧(Xk a b).length≤16∧Bd 2097153 (Xk a b):=by
  have h1:Bd 2097153 (Xk a b):=Qc (Wx (Qz hb.y ha.d) (Qz ha.y hb.d)) (by omega)
  have h2:(Xk a b).length≤16:=by
    refine Nat.le_trans (Vs _ _) ?_
    have:=Qu b.y a.d; have:=Qu a.y b.d; have:=ha.ly; have:=hb.ly
    omega
  exact ⟨⟨Q9 _ _,by omega,Qc h1 (by omega)⟩,h2,h1⟩
def Qys (sg:List Int→Int) (a b:Pt):List (List Int)→Bool
  | []=>decide (a.id<b.id)
  | p::l=>if 0<p.length then decide (0<Up sg p) else Qys sg a b l
def Qk4 (sg:List Int→Int) (a b:Pt):Bool:=Qys sg a b [Xl a.c b.c,Xk a.c b.c]
end Orr

namespace Orr
open Go
structure Ct where
  kind:Int
  i0:Int
  i1:Int
  i2:Int
  i3:Int
  p:List Int
  want:Int
abbrev Ax (c:Ct):List LV:=[.int .i64 c.kind,.int .i64 c.i0,.int .i64 c.i1,.int .i64 c.i2,.int .i64 c.i3,pl c.p,.int .i64 c.want]
def X3:List Int→List Int→Bool
  | x::l,y::m=>if x=y then X3 l m else decide (x<y)
  | _,_=>false
def Kc (a b:Ct):Bool:=X3 [a.kind,a.i0,a.i1,a.i2,a.i3] [b.kind,b.i0,b.i1,b.i2,b.i3]
def Pw (out:List Ct) (c:Ct):Nat→Nat
  | 0=>0
  |
   k+1=>match out[k]? with
   | some x=>if Kc c x=true then Pw out c k else k+1
   | none=>k+1
theorem Qqo (out:List Ct) (c:Ct):∀ k,Pw out c k≤k
  | 0=>Nat.le_refl _
  |
   k+1=>by
   simp only [Pw]
   split
   · split
     · exact Nat.le_succ_of_le (Qqo out c k)
     · exact Nat.le_refl _
   · exact Nat.le_refl _
theorem Q35 {out:List Ct} {c x:Ct} {k:Nat} (hx:out[k]? = some x) (h:Kc c x=true):Pw out c (k+1)=Pw out c k:=by
  simp only [Pw,hx,h,if_true]
theorem Qyv {out:List Ct} {c x:Ct} {k:Nat} (hx:out[k]? = some x) (h:Kc c x=false):Pw out c (k+1)=k+1:=by
  simp [Pw,hx,h]
def Nt (out:List Ct) (c:Ct):List Ct:=out.take (Pw out c out.length)++c::out.drop (Pw out c out.length)
theorem Qxq (out:List Ct) (c:Ct):(Nt out c).length=out.length+1:=by
  have:=Qqo out c out.length
  simp [Nt]; omega
theorem Qxr {out:List Ct} {c x:Ct} (h:x∈Nt out c):x=c∨x∈out:=by
  simp only [Nt,List.mem_append,List.mem_cons] at h
  rcases h with h | h | h
  · exact .inr (List.mem_of_mem_take h)
  · exact .inl h
  · exact .inr (List.mem_of_mem_drop h)
def Zb (l:List Ct):List Ct:=l.foldl Nt []
theorem Qnj (l:List Ct) (c:Ct):Zb (l++[c])=Nt (Zb l) c:=by simp [Zb,List.foldl_append]
theorem Qnk {l:List Ct} {i:Nat} {c:Ct} (h:l[i]? = some c):Zb (l.take (i+1))=Nt (Zb (l.take i)) c:=by
  rw [List.take_succ,h]; exact Qnj _ _
theorem Qc8:∀ (l acc:List Ct),(l.foldl Nt acc).length=acc.length+l.length
  | [],acc=>by simp
  | c::l,acc=>by simp only [List.foldl_cons]; rw [Qc8 l (Nt acc c),Qxq]; simp; omega
theorem Fh (l:List Ct):(Zb l).length=l.length:=by unfold Zb; rw [Qc8]; simp
theorem Qc9:∀ (l acc:List Ct) {x:Ct},x∈l.foldl Nt acc→x∈l∨x∈acc
  | [],acc,x,h=>.inr h
  |
   c::l,acc,x,h=>by
   simp only [List.foldl_cons] at h
   rcases Qc9 l _ h with h | h
   · exact .inl (List.mem_cons_of_mem _ h)
   · rcases Qxr h with rfl | h
     · exact .inl (List.mem_cons_self ..)
     · exact .inr h
theorem Rm {l:List Ct} {x:Ct} (h:x∈Zb l):x∈l:=by
  rcases Qc9 l [] h with h | h
  · exact h
  · cases h
theorem Qxt {α:Type} (l:List α) (z x:α) {k m':Nat} (hk:k≤l.length) (hm:m'=l.length-k) :
    ((l++[z]).take (k+1)++((l++[z]).drop k).take m'++(l++[z]).drop (k+1+m')).set k x=l.take k++x::l.drop k:=by
  subst hm
  have e1:((l++[z]).drop k).take (l.length-k)=l.drop k:=by
    rw [List.drop_append_of_le_length hk,List.take_append_of_le_length (by simp),List.take_of_length_le (by simp)]
  have e2:(l++[z]).drop (k+1+(l.length-k))=[]:=List.drop_eq_nil_of_le (by simp; omega)
  rw [e1,e2,List.append_nil]
  have e3:(l++[z]).take (k+1)=(l++[z]).take k++[(l++[z])[k]'(by simp; omega)]:=by rw [List.take_succ_eq_append_getElem]
  rw [e3,List.take_append_of_le_length hk,List.append_assoc,List.set_append,if_neg (by simp; omega)]
  simp [Nat.min_eq_left hk]
end Orr

namespace Orr
open Go Go.Proofs
set_option maxRecDepth 10000
abbrev pr (p:List Int):TV:=.one (pl p)
theorem Yc {p:List Int} {i:Nat} {z:Int} (h:p[i]? = some z):(p.map Zt)[i]? = some (Zt z):=Xd h
theorem Ou (p:List Int):Qd Tryz.prog 76 [pr p] [pr (trim p)]:=by
  refine Z7 Tryz.func76 rfl (ln 0 rfl rfl fun hl=>?_)
  rw [List.length_map] at hl
  refine go tt [] rfl trivial ?_
  refine lp (S:=Nat) 0 (fun L1 n=>(3,.v (.one (.int .i64 (n:Int))))::L1) (fun _=>[]) id (fun n=>n≤p.length∧∀ j x,n≤j→p[j]? = some x→x=0) (p.map Zt).length ⟨by simp,fun j x h1 h2=>by
    have:=(List.getElem?_eq_some_iff.1 h2).1; simp at h1; omega⟩ rfl (fun _ _=>rfl) rfl fun n ⟨h1,h2⟩=>?_
  cases n with
  | zero=>exact en tt [.f (by simp),.f rfl,.i 0] rfl (by rw [Qbx h1 h2 (fun h=>by omega)]; simp [pl]) (by simp [Qa])
  |
   succ n =>
   obtain ⟨x,hx⟩:∃ x,p[n]? = some x:=⟨_,List.getElem?_eq_getElem (by omega)⟩
   by_cases h0:x=0
   · refine go tt [.t (by simp),.r 11 (v:=.one (.int .i64 (n:Int))) (by simp),.x (Yc hx),.c [] G8,.t (by simp [h0]),.r 17 (v:=.one (.int .i64 (n:Int))) (by simp)] rfl (by simp [Qa]; omega) ?_
     exact rd n (by simp) ⟨by omega,fun j y h3 h4=>by
         rcases Nat.eq_or_lt_of_le h3 with rfl | h3
         · rw [hx] at h4; injection h4 with h4; rw [←h4,h0]
         · exact h2 j y h3 h4⟩ rfl
   · exact en tt [.t (by simp),.r 11 (v:=.one (.int .i64 (n:Int))) (by simp),.x (Yc hx),.c [] G8,.f (by simp [h0]),.i (n+1)] rfl (by rw [Qbx h1 h2 (fun _=>⟨x,hx,h0⟩)]; simp [pl,List.map_take]) (by simp [Qa] <;> omega)
theorem Qop (p:List Int) (k:Nat):Qd Tryz.prog 112 [pr p,.one (.int .i64 (k:Int))] [.agg (Zt (p.getD k 0))]:=by
  by_cases h:k<p.length
  · have hx:=List.getElem?_eq_getElem h
    have e:p.getD k 0=p[k]:=by simp [List.getD,hx]
    rw [e]
    exact w tt Tryz.func112 rfl [.t (by simp; omega),.x (Yc hx)] rfl rfl trivial
  · have e:p.getD k 0=0:=by simp [List.getD,List.getElem?_eq_none (Nat.le_of_not_lt h)]
    rw [e,Fz]
    exact w tt Tryz.func112 rfl [.f (by simp; omega)] rfl rfl trivial
def fil (f:Nat→List LV) (z:List LV) (n k:Nat):List (List LV):=(List.range n).map fun i=>if i<k then f i else z
theorem Gx (f:Nat→List LV) (z:List LV) (n k:Nat):(fil f z n k).length=n:=by simp [fil]
theorem Ft (f:Nat→List LV) (z:List LV) (n:Nat):List.replicate n z=fil f z n 0:=by
  refine List.ext_getElem? fun i=>?_
  simp only [fil,List.getElem?_replicate,List.getElem?_map]
  by_cases h:i<n
  · simp [h]
  · simp [h]
theorem Ti (f:Nat→List LV) (z:List LV) (n:Nat):fil f z n n=(List.range n).map f:=by
  refine List.map_congr_left fun i hi=>?_
  rw [if_pos (List.mem_range.1 hi)]
theorem Tj (f:Nat→List LV) (z:List LV) {n k:Nat} (h:k<n):(fil f z n k).set k (f k)=fil f z n (k+1):=by
  refine List.ext_getElem? fun i=>?_
  rw [List.getElem?_set]
  simp only [fil,List.getElem?_map,List.length_map,List.length_range,h,if_true]
  by_cases e:k=i
  · subst e; simp [h]
  · simp only [e,if_false]
    by_cases hi:i<n
    · simp only [List.getElem?_range hi,Option.map_some]
      congr 1
      by_cases h2:i<k
      · rw [if_pos h2,if_pos (by omega)]
      · rw [if_neg h2,if_neg (by omega)]
    · simp [List.getElem?_eq_none,hi]
theorem Qez {n fid:Nat} {l1 l2:List LV} {g:Nat→Int} (hn:n<274877906944) (h:∀ k,k<n→Qd Tryz.prog fid [.one (.int .i64 (k:Int)),.one (.sh l1),.one (.sh l2)] [.agg (Zt (g k))]):Qd Tryz.prog 109 [.one (.int .i64 (n:Int)),.one (.fn fid [] [.sh l1,.sh l2])] [pr (Vl n g)]:=by
  refine Z7 Tryz.func109 rfl ?_
  refine go tt [.i n,.i n,.r 10 (eI (b:=(n:Int)) (by simp))] rfl (by simp [Qa]; omega) ?_
  rw [Ft fun k=>Zt (g k)]
  refine lp (S:=Nat) 1 (fun L1 k=>(11,.v (.one (.int .i64 (k:Int))))::L1) (fun k=>[.row false 29 2 (fil (fun k=>Zt (g k)) [.bool false,.nils] n k)]) (fun k=>n-k) (fun k=>k≤n) 0 (Nat.zero_le _) rfl (fun _ _=>rfl) rfl fun k hk=>?_
  by_cases hlt:k<n
  · refine go tt [.t (by simp; omega),.c [] (h k hlt),.i k] rfl (by simp [Qa,Gx]; omega) ?_
    have e:=Tj (fun k=>Zt (g k)) [.bool false,.nils] hlt
    rw [e]
    exact rd (k+1) (by omega) hlt rfl
  · obtain rfl:k=n:=by omega
    have e:fil (fun k=>Zt (g k)) [.bool false,.nils] k k=((List.range k).map g).map Zt:=by rw [Ti]; simp
    rw [e]
    exact en tt [.f (by simp),.c [] (Ou _)] rfl rfl trivial
theorem Qol {n fid:Nat} {l1:List LV} {g:Nat→Int} (hn:n<274877906944) (h:∀ k,k<n→Qd Tryz.prog fid [.one (.int .i64 (k:Int)),.one (.sh l1)] [.agg (Zt (g k))]):Qd Tryz.prog 109 [.one (.int .i64 (n:Int)),.one (.fn fid [] [.sh l1])] [pr (Vl n g)]:=by
  refine Z7 Tryz.func109 rfl ?_
  refine go tt [.i n,.i n,.r 10 (eI (b:=(n:Int)) (by simp))] rfl (by simp [Qa]; omega) ?_
  rw [Ft fun k=>Zt (g k)]
  refine lp (S:=Nat) 1 (fun L1 k=>(11,.v (.one (.int .i64 (k:Int))))::L1) (fun k=>[.row false 29 2 (fil (fun k=>Zt (g k)) [.bool false,.nils] n k)]) (fun k=>n-k) (fun k=>k≤n) 0 (Nat.zero_le _) rfl (fun _ _=>rfl) rfl fun k hk=>?_
  by_cases hlt:k<n
  · refine go tt [.t (by simp; omega),.c [] (h k hlt),.i k] rfl (by simp [Qa,Gx]; omega) ?_
    have e:=Tj (fun k=>Zt (g k)) [.bool false,.nils] hlt
    rw [e]
    exact rd (k+1) (by omega) hlt rfl
  · obtain rfl:k=n:=by omega
    have e:fil (fun k=>Zt (g k)) [.bool false,.nils] k k=((List.range k).map g).map Zt:=by rw [Ti]; simp
    rw [e]
    exact en tt [.f (by simp),.c [] (Ou _)] rfl rfl trivial
theorem Q62 {p q:List Int} (k:Nat) (hp:Bd 4294967295 p) (hq:Bd 4294967295 q):Qd Tryz.prog 110 [.one (.int .i64 (k:Int)),.one (.sh [pl p]),.one (.sh [pl q])] [.agg (Zt (p.getD k 0+q.getD k 0))] :=
  w tt Tryz.func110 rfl [.c [] (Qop p k),.c [] (Qop q k),.c [] (Nm (Qe _) (Qe _) (Qr hp k) (Qr hq k))] rfl rfl trivial
theorem Q7c {p q:List Int} (k:Nat) (hp:Bd 4294967295 p) (hq:Bd 4294967295 q):Qd Tryz.prog 233 [.one (.int .i64 (k:Int)),.one (.sh [pl p]),.one (.sh [pl q])] [.agg (Zt (p.getD k 0-q.getD k 0))] :=
  w tt Tryz.func233 rfl [.c [] (Qop p k),.c [] (Qop q k),.c [] (Qvf (Qe _) (Qe _) (Qr hp k) (Qr hq k))] rfl rfl trivial
theorem Xt {p:List Int} {k:Nat} (h:k<p.length):p[k]? = some (p.getD k 0):=by simp [List.getD,List.getElem?_eq_getElem h]
theorem Qvb {p:List Int} {c:Int} {k:Nat} (hk:k<p.length) (hp:Bd 4294967295 p) (hc:Ql c≤4294967295):Qd Tryz.prog 214 [.one (.int .i64 (k:Int)),.one (.sh [pl p]),.one (.sh (Zt c))] [.agg (Zt (p.getD k 0*c))] :=
  w tt Tryz.func214 rfl [.x (Yc (Xt hk)),.c [] (Kn (Qe _) (Qe _) (Qr hp k) hc)] rfl rfl trivial
theorem Q69 {p:List Int} {k:Nat} (hk:k<p.length) (hp:Bd 4294967295 p):Qd Tryz.prog 299 [.one (.int .i64 (k:Int)),.one (.sh [pl p])] [.agg (Zt (-(p.getD k 0)))] :=
  w tt Tryz.func299 rfl [.x (Yc (Xt hk)),.c [] (Oj (Qe _) (Qr hp k))] rfl rfl trivial
theorem Qry {p:List Int} {k:Nat} (hk:k+1<p.length) (hl:p.length<274877906944) (hp:Bd 4294967295 p):Qd Tryz.prog 269 [.one (.int .i64 (k:Int)),.one (.sh [pl p])] [.agg (Zt (p.getD (k+1) 0*((k+1:Nat):Int)))] :=
  w tt Tryz.func269 rfl [.x (Yc (Xt hk)),.r 10 (eI (b:=((k+1:Nat):Int)) (by omega)),.c [] (Qld (by omega)),.c [] (Kn (Qe _) (Qe _) (Qr hp _) (Qs2 (show k+1<274877906944 by omega)))] rfl rfl (by simp [Qa] <;> omega)
theorem Quw {p q:List Int} (hlp:p.length<274877906944) (hlq:q.length<274877906944) (hp:Bd 4294967295 p) (hq:Bd 4294967295 q):Qd Tryz.prog 66 [pr p,pr q] [pr (M9 p q)] :=
  w tt Tryz.func66 rfl [.r 9 (eI (b:=((max p.length q.length:Nat):Int)) (by simp; omega)),.c [] (Qez (by omega) fun k _=>Q62 k hp hq)] rfl rfl trivial
theorem Om {p q:List Int} (hlp:p.length<274877906944) (hlq:q.length<274877906944) (hp:Bd 4294967295 p) (hq:Bd 4294967295 q):Qd Tryz.prog 184 [pr p,pr q] [pr (Vn p q)] :=
  w tt Tryz.func184 rfl [.r 9 (eI (b:=((max p.length q.length:Nat):Int)) (by simp; omega)),.c [] (Qez (by omega) fun k _=>Q7c k hp hq)] rfl rfl trivial
theorem Quz {p:List Int} (hlp:p.length<274877906944) (hp:Bd 4294967295 p):Qd Tryz.prog 272 [pr p] [pr (Ve p)] :=
  w tt Tryz.func272 rfl [.r 4 (eI (b:=(p.length:Int)) (by simp)),.c [] (Qol hlp fun k hk=>Q69 hk hp)] rfl rfl trivial
theorem Ua {p:List Int} {c:Int} (hlp:p.length<274877906944) (hp:Bd 4294967295 p) (hc:Ql c≤4294967295):Qd Tryz.prog 159 [pr p,.agg (Zt c)] [pr (Qx p c)] :=
  w tt Tryz.func159 rfl [.r 6 (eI (b:=(p.length:Int)) (by simp)),.c [] (Qez hlp fun k hk=>Qvb hk hp hc)] rfl rfl trivial
theorem Hp {p:List Int} (hlp:p.length<274877906944) (hp:Bd 4294967295 p):Qd Tryz.prog 229 [pr p] [pr (Zo p)] :=
  w tt Tryz.func229 rfl [.r 6 (eI (b:=((p.length-1:Nat):Int)) (by simp; omega)),.c [] (Qol (by omega) fun k hk=>Qry (by omega) hlp hp)] rfl rfl (by simp [Qa]; omega)
theorem Ux {ls:List (List LV)} {p:List Int} (hi:IsInts ls p) (hl:p.length<274877906944) (hs:Bd 4294967295 p):Qd Tryz.prog 115 [.one (.row ls)] [pr (trim p)]:=by
  refine Z7 Tryz.func115 rfl ?_
  have hlen:=hi.len
  refine go tt [.i ls.length,.i ls.length] rfl (by simp [Qa]; omega) ?_
  rw [Ft fun k=>Zt (p.getD k 0)]
  refine lp (S:=Nat) 1 (fun L1 k=>(11,.v (.one (.int .i64 (k:Int))))::L1) (fun k=>[.row false 29 2 (fil (fun k=>Zt (p.getD k 0)) [.bool false,.nils] ls.length k)]) (fun k=>ls.length-k) (fun k=>k≤ls.length) 0 (Nat.zero_le _) rfl (fun _ _=>rfl) rfl fun k hk=>?_
  by_cases hlt:k<ls.length
  · obtain ⟨x,y,hx,hxy⟩:=hi.get (Xt (p:=p) (k:=k) (by omega))
    have cn:=Uy hxy (Qr hs k)
    obtain ⟨b,l,rfl,rfl,_⟩:=hxy
    refine go tt [.t (by simp; omega),.x hx,.c [] cn,.i k] rfl (by simp [Qa,Gx]; omega) ?_
    have e:=Tj (fun k=>Zt (p.getD k 0)) [.bool false,.nils] hlt
    rw [e]
    exact rd (k+1) (by omega) hlt rfl
  · obtain rfl:k=ls.length:=by omega
    have e:fil (fun k=>Zt (p.getD k 0)) [.bool false,.nils] ls.length ls.length=p.map Zt:=by
      rw [Ti,hlen]
      refine List.ext_getElem? fun i=>?_
      by_cases hi:i<p.length
      · simp [List.getElem?_range hi,List.getD,List.getElem?_eq_getElem hi]
      · simp [List.getElem?_eq_none,hi]
    rw [e]
    exact en tt [.f (by simp),.c [] (Ou _)] rfl rfl trivial
theorem X1 {p:List Int} (ht:Qi p) (hl:p.length<274877906944) (hs:Bd 4294967295 p):Qd Tryz.prog 115 [pr p] [pr p]:=by
  have:=Ux (Zp p) hl hs
  rw [ht] at this; exact this
theorem Q3a {p:List Int} {i:Nat} {z:Int} (h:p[i]? = some z):(p.map fun (x:Int)=>[LV.int .i64 x])[i]? = some [.int .i64 z]:=Xd h
theorem Qu0 {p:List Int} (hl:p.length<274877906944) (hr:∀ z∈p,-9223372036854775808≤z∧z≤9223372036854775807):Qd Tryz.prog 18 [.one (ids p)] [pr (trim p)]:=by
  refine Z7 Tryz.func18 rfl ?_
  refine go tt [.r 7 (eI (b:=(p.length:Int)) (by simp)),.i p.length,.i p.length,.r 10 (eI (b:=(p.length:Int)) (by simp))] rfl (by simp [Qa]; omega) ?_
  rw [Ft fun k=>Zt (p.getD k 0)]
  refine lp (S:=Nat) 1 (fun L1 k=>(11,.v (.one (.int .i64 (k:Int))))::L1) (fun k=>[.row false 29 2 (fil (fun k=>Zt (p.getD k 0)) [.bool false,.nils] p.length k)]) (fun k=>p.length-k) (fun k=>k≤p.length) 0 (Nat.zero_le _) rfl (fun _ _=>rfl) rfl fun k hk=>?_
  by_cases hlt:k<p.length
  · have hg:=Xt hlt
    refine go tt [.t (by simp; omega),.x (Q3a hg),.c [] (Qld (hr _ (List.mem_of_getElem? hg))),.i k] rfl (by simp [Qa,Gx]; omega) ?_
    have e:=Tj (fun k=>Zt (p.getD k 0)) [.bool false,.nils] hlt
    rw [e]
    exact rd (k+1) (by omega) hlt rfl
  · obtain rfl:k=p.length:=by omega
    have e:fil (fun k=>Zt (p.getD k 0)) [.bool false,.nils] p.length p.length=p.map Zt:=by
      rw [Ti]
      refine List.ext_getElem? fun i=>?_
      by_cases hi:i<p.length
      · simp [List.getElem?_range hi,List.getD,List.getElem?_eq_getElem hi]
      · simp [List.getElem?_eq_none,hi]
    rw [e]
    exact en tt [.f (by simp),.c [] (Ou _)] rfl rfl trivial
end Orr

namespace Orr
open Go Go.Proofs
set_option maxRecDepth 10000
theorem Qmr (l:List Int) (i:Nat) (z:Int):(l.map Zt).set i (Zt z)=(l.set i z).map Zt:=by rw [List.map_set]
theorem Iy (m:Nat):((List.replicate m [LV.bool false,LV.nils]).map fun c=>c.map Cz)=(List.replicate m (0:Int)).map Zt:=by
  simp [Fz,Cz]
theorem Qeu {p0 q:List Int} {s t:Nat} (tq:Qi q) (hlp:p0.length<137438953472) (hlq:q.length<137438953472) (hp:Bd s p0) (hq:Bd t q) (hst:s+t≤4294967000):Qd Tryz.prog 213 [pr p0,pr q] [pr (Zi (trim p0) q)]:=by
  have cp:=Ux (Zp p0) (by omega) (Qc hp (show s≤4294967295 by omega))
  have hp:=Jp hp
  have hlp:=Nat.lt_of_le_of_lt (Xm p0) hlp
  obtain ⟨p,ep⟩:∃ p,p=trim p0:=⟨_,rfl⟩
  rw [←ep] at cp hp hlp ⊢
  have cq:=X1 tq (by omega) (Qc hq (show t≤4294967295 by omega))
  by_cases h0:p.length=0
  · have e:Zi p q=[]:=by unfold Zi; rw [if_pos (.inl h0)]
    rw [e]
    exact w tt Tryz.func213 rfl [.c [] cp,.c [] cq,.t (by simp; exact List.eq_nil_of_length_eq_zero h0),.t rfl] rfl rfl trivial
  by_cases h1:q.length=0
  · have e:Zi p q=[]:=by unfold Zi; rw [if_pos (.inr h1)]
    rw [e]
    exact w tt Tryz.func213 rfl [.c [] cp,.c [] cq,.f (by simp; intro h; subst h; simp at h0),.t (by simp; exact List.eq_nil_of_length_eq_zero h1)] rfl rfl trivial
  refine Z7 Tryz.func213 rfl ?_
  have e:Zi p q=trim (Ku p q (List.replicate (p.length+q.length-1) 0) p.length):=by unfold Zi; rw [if_neg (by omega)]
  rw [e]
  obtain ⟨N,hN⟩:∃ N,N=p.length+q.length-1:=⟨_,rfl⟩
  rw [←hN]
  obtain ⟨o,ho⟩:∃ o,o=List.replicate N (0:Int):=⟨_,rfl⟩
  rw [←ho]
  have hol:o.length=N:=by rw [ho]; simp
  have ho0:∀ m,o.getD m 0=0:=fun m=>by rw [ho]; exact J1 N m
  refine go tt [.c [] cp,.c [] cq,.f (by simp; intro h; subst h; simp at h0),.f (by simp; intro h; subst h; simp at h1),.r 27 (eI (b:=(N:Int)) (by simp; omega)),.i N,.i N] rfl (by simp [Qa]; omega) ?_
  refine nl 0 rfl rfl rfl ?_
  rw [Iy,←ho]
  refine lp (S:=Nat) 1 (fun L1 i=>(31,.v (.one (.int .i64 (i:Int))))::L1) (fun i=>[.row false 29 2 ((Ku p q o i).map Zt)]) (fun i=>p.length-i) (fun i=>i≤p.length) 0 (Nat.zero_le _) rfl (fun _ _=>rfl) rfl fun i hi=>?_
  by_cases hlt:i<p.length
  · refine go tt [.t (by simp; omega),.x (Yc (Xt hlt))] rfl trivial ?_
    refine lp (S:=Nat) 2 (fun L1 k=>(38,.v (.one (.int .i64 (k:Int))))::L1) (fun k=>[.row false 29 2 ((H5 (p.getD i 0) q i (Ku p q o i) k).map Zt),.blk 29 (Zt (p.getD i 0))]) (fun k=>q.length-k) (fun k=>k≤q.length) 0 (Nat.zero_le _) rfl (fun _ _=>rfl) rfl fun k hk=>?_
    by_cases hk2:k<q.length
    · have hm1:Ql ((H5 (p.getD i 0) q i (Ku p q o i) k).getD (i+k) 0)≤4294967295:=Nat.le_trans (He (t:=39) (Qf0 (by rw [Kv]; omega) (Qfz (fun j hj=>by omega) ho0 (fun i j=>Vv (Qr hp i) (Qr hq j))) (fun j=>Vv (Qr hp i) (Qr hq j)) (i+k)) (Nat.lt_of_lt_of_eq (show i+1<549755813888 by omega) (by decide))) (by omega)
      have hm2:Ql (p.getD i 0*q.getD k 0)≤4294967295:=Nat.le_trans (Q0 _ _) (by have:=Qr hp i; have:=Qr hq k; omega)
      have hg:(H5 (p.getD i 0) q i (Ku p q o i) k)[i+k]? = some ((H5 (p.getD i 0) q i (Ku p q o i) k).getD (i+k) 0):=Xt (by rw [H6,Kv]; omega)
      refine go tt [.t (by simp; omega),.x (Yc (Xt hk2)),.i (i+k),.x (Yc hg),.c [] (Kn (Qe _) (Qe _) (Nat.le_trans (Qr hp i) (by omega)) (Nat.le_trans (Qr hq k) (by omega))),.c [] (Nm (Qe _) (Qe _) hm1 hm2),.i (i+k)] rfl (by simp [Qa,H6,Kv] <;> omega) ?_
      rw [Qmr]
      exact rd (k+1) (by omega) hk2 rfl
    · obtain rfl:k=q.length:=by omega
      exact go tt [.f (by simp)] rfl (by simp [Qa]; omega) (rd (i+1) (by omega) hlt rfl)
  · obtain rfl:i=p.length:=by omega
    exact en tt [.f (by simp),.c [] (Ou _)] rfl rfl trivial
theorem Qle {p q:List Int} {s t:Nat} (tp:Qi p) (tq:Qi q) (hlp:p.length<137438953472) (hlq:q.length<137438953472) (hp:Bd s p) (hq:Bd t q) (hst:s+t≤4294967000):Qd Tryz.prog 213 [pr p,pr q] [pr (Zi p q)]:=by
  have h:=Qeu tq hlp hlq hp hq hst
  rw [show trim p=p from tp] at h
  exact h
theorem Q1y {p q:List Int} (hlp:p.length<274877906944) (hlq:q.length<274877906944) (hp:Bd 4294967295 p) (hq:Bd 4294967295 q):Qd Tryz.prog 224 [pr p,pr q] [.one (.bool (decide (trim p=trim q)))]:=by
  refine Z7 Tryz.func224 rfl ?_
  have cp:=Ux (Zp p) hlp hp
  have cq:=Ux (Zp q) hlq hq
  have bp:=Jp hp
  have bq:=Jp hq
  have l1:=Xm p
  have l2:=Xm q
  obtain ⟨a,ha⟩:∃ a,a=trim p:=⟨_,rfl⟩
  obtain ⟨b,hb⟩:∃ b,b=trim q:=⟨_,rfl⟩
  rw [←ha] at cp bp l1 ⊢
  rw [←hb] at cq bq l2 ⊢
  by_cases hl:a.length=b.length
  · refine go tt [.c [] cp,.c [] cq,.f (by simp; omega)] rfl trivial ?_
    refine lp (S:=Nat) 0 (fun L1 i=>(18,.v (.one (.int .i64 (i:Int))))::L1) (fun _=>[]) (fun i=>a.length-i) (fun i=>i≤a.length∧a.take i=b.take i) 0 ⟨Nat.zero_le _,rfl⟩ rfl (fun _ _=>rfl) rfl fun i ⟨hi,he⟩=>?_
    by_cases hlt:i<a.length
    · have ga:=Xt hlt
      have gb:=Xt (p:=b) (k:=i) (by omega)
      have cc:=Or (Qe (a.getD i 0)) (Qe (b.getD i 0)) (Qr bp i) (Qr bq i)
      by_cases hz:a.getD i 0=b.getD i 0
      · refine go tt [.t (by simp; omega),.x (Yc ga),.x (Yc gb),.c [] cc,.f (by simpa using Qo4.2 hz)] rfl (by simp [Qa]; omega) ?_
        exact rd (i+1) (by omega) ⟨hlt,by rw [List.take_add_one,List.take_add_one,he,ga,gb,hz]⟩ rfl
      · exact en tt [.t (by simp; omega),.x (Yc ga),.x (Yc gb),.c [] cc,.t (by have:=mt Qo4.1 hz; simpa using this)] rfl (by rw [decide_eq_false]; intro h; exact hz (by rw [h])) trivial
    · obtain rfl:i=a.length:=by omega
      rw [List.take_length,hl,List.take_length] at he
      exact en tt [.f (by simp)] rfl (by rw [decide_eq_true he]) trivial
  · exact en tt [.c [] cp,.c [] cq,.t (by simp; omega)] rfl (by rw [decide_eq_false]; intro h; exact hl (by rw [h])) trivial
theorem Qu6 {p:List Int} {n d:Int} {s t:Nat} (hl:p.length<274877906944) (hp:Bd s p) (hn:Ql n≤t) (hd:Ql d≤t) (hst:s+p.length*(t+1)+2*t+10≤4294967295):Qd Tryz.prog 240 [pr p,.agg (Zt n),.agg (Zt d)] [.agg (Zt (Q4d p n d))]:=by
  refine Z7 Tryz.func240 rfl ?_
  refine go tt [.c [] (Qld (z:=1) (by decide)),.r 13 (eI (b:=(p.length:Int)-1-((0:Nat):Int)) (by simp))] rfl (by simp [Qa]; omega) ?_
  refine nlb 3 rfl rfl rfl ?_
  have e0:[LV.bool false,LV.nils].map Cz=Zt (Vi p n d 0).1:=by simp [Cz,Vi,Fz]
  rw [e0]
  refine lp (S:=Nat) 5 (fun L1 j=>(9,.v (.one (.int .i64 ((p.length:Int)-1-(j:Int)))))::L1) (fun j=>[.blk 29 (Zt n),.blk 29 (Zt d),.blk 29 [.bool false,.nils],.blk 29 (Zt (Vi p n d j).1),.blk 29 (Zt (Vi p n d j).2)]) (fun j=>p.length-j) (fun j=>j≤p.length) 0 (Nat.zero_le _) rfl (fun _ _=>rfl) rfl fun j hj=>?_
  have hv:=Qg6 (k:=j) hp hn hd
  have hjl:j*(t+1)≤p.length*(t+1):=Nat.mul_le_mul_right _ (by omega)
  have hjl2:j*t≤j*(t+1):=Nat.mul_le_mul_left _ (by omega)
  by_cases hlt:j<p.length
  · have hc:=Qr hp (p.length-1-j)
    have hm1:Ql ((Vi p n d j).1*n)≤4294967295:=Nat.le_trans (Q0 _ _) (by omega)
    have hm2:Ql (p.getD (p.length-1-j) 0*(Vi p n d j).2)≤4294967295:=Nat.le_trans (Q0 _ _) (by omega)
    refine go tt [.t (by simp; omega),.c [] (Kn (Qe _) (Qe _) (by omega) (by omega)),.r 22 (eI (b:=((p.length-1-j:Nat):Int)) (by omega)),.x (Yc (Xt (p:=p) (k:=p.length-1-j) (by omega))),.c [] (Kn (Qe _) (Qe _) (by omega) (by omega)),.c [] (Nm (Qe _) (Qe _) hm1 hm2),.c [] (Kn (Qe _) (Qe _) (by omega) (by omega)),.r 17 (eI (b:=(p.length:Int)-1-((j+1:Nat):Int)) (by omega))] rfl (by simp [Qa] <;> omega) ?_
    exact rd (j+1) (by omega) hlt rfl
  · obtain rfl:j=p.length:=by omega
    exact en tt [.f (by simp; omega)] rfl rfl trivial
theorem Wy {p:List Int} (tp:Qi p) (hl:p.length<274877906944) (hp:Bd 4294967295 p):Qd Tryz.prog 295 [pr p] [.agg (Zt (p.getD (p.length-1) 0))]:=by
  have cn:=X1 tp hl hp
  by_cases h0:p=[]
  · subst h0
    exact w tt Tryz.func295 rfl [.c [] cn,.t (by simp)] rfl (by simp [Fz]) trivial
  · have hpl:0<p.length:=List.length_pos_iff.2 h0
    exact w tt Tryz.func295 rfl [.c [] cn,.f (by simpa using h0),.r 12 (eI (b:=((p.length-1:Nat):Int)) (by simp; omega)),.x (Yc (Xt (by omega)))] rfl rfl (by simp [Qa]; omega)
end Orr

namespace Orr
open Go Go.Proofs
set_option maxRecDepth 10000
theorem Q6j {a b:Int} {q:Rat} (h1:a=q.num) (h2:b=(q.den:Int)):[sg a,mg a,sg b,mg b]=rl q:=by rw [h1,h2]
theorem Ss {n d:Int} (h0:d≠0) (hn:Ql n≤4294967295) (hd:Ql d≤4294967295):Qd Tryz.prog 197 [.agg (Zt n),.agg (Zt d)] [.agg (rl (Rat.divInt n d))]:=by
  have cg:=Qup (Zp [n,d]) (fun z hz=>by simp at hz; rcases hz with rfl | rfl <;> assumption)
  have gp:=Qin (n:=n) h0
  have gs:=Qps (n:=n) h0 hd
  have m1:=Qap n d
  have m2:=Qaq n d
  obtain ⟨g,hg⟩:∃ g,g=((Xb [n,d]:Nat):Int):=⟨_,rfl⟩
  rw [←hg] at cg gp gs m1 m2
  by_cases hneg:d<0
  · obtain ⟨e1,e2⟩:=Q3o (n:=n) hneg
    rw [←hg] at e1 e2
    rw [←Q6j e1 e2]
    exact w tt Tryz.func197 rfl [.c [] cg,.t (by simpa using hneg),.c [] (Oj (Qe n) hn),.c [] (Oj (Qe d) hd),.c [] (Gl (Qe _) (Qe _) (by rw [Xc]; exact hn) gs (by omega) (Qqd m1)),.c [] (Gl (Qe _) (Qe _) (by rw [Xc]; exact hd) gs (by omega) (Qqd m2))] rfl rfl trivial
  · obtain ⟨e1,e2⟩:=Qfx (n:=n) (d:=d) (by omega)
    rw [←hg] at e1 e2
    rw [←Q6j e1 e2]
    exact w tt Tryz.func197 rfl [.c [] cg,.f (by simpa using hneg),.c [] (Gl (Qe _) (Qe _) hn gs (by omega) m1),.c [] (Gl (Qe _) (Qe _) hd gs (by omega) m2)] rfl rfl trivial
theorem A9 {x y x' y':LV} {n d:Int} (h1:Xn x y n) (h2:Xn x' y' d) (hn:Ql n≤4294967295) (hd:Ql d≤4294967295):Qd Tryz.prog 137 [.agg [x,y,x',y']] [.agg (rl (Z1 n d))]:=by
  have c1:=Uy h1 hn
  have c2:=Uy h2 hd
  obtain ⟨b,l,rfl,rfl,_⟩:=h1
  obtain ⟨b',l',rfl,rfl,_⟩:=h2
  by_cases h0:d=0
  · have e:Z1 n d=Rat.divInt n 1:=by unfold Z1; rw [if_pos h0]
    rw [e]
    exact w tt Tryz.func137 rfl [.c [] c2,.c [] G8,.t (by simpa using h0),.c [] (Qld (z:=1) (by decide)),.c [] c1,.c [] (Ss (by decide) hn (by decide))] rfl rfl trivial
  · have e:Z1 n d=Rat.divInt n d:=by unfold Z1; rw [if_neg h0]
    rw [e]
    exact w tt Tryz.func137 rfl [.c [] c2,.c [] G8,.f (by simpa using h0),.c [] c1,.c [] (Ss h0 hn hd)] rfl rfl trivial
theorem Oy {q:Rat} (hq:Qs 4294967295 q):Qd Tryz.prog 137 [.agg (rl q)] [.agg (rl q)]:=by
  have:=A9 (Qe q.num) (Qe (q.den:Int)) hq.1 hq.2
  rwa [Tr] at this
theorem Qey {a b:Rat} (ha:Qs 2147483647 a) (hb:Qs 2147483647 b):Qd Tryz.prog 198 [.agg (rl a),.agg (rl b)] [.agg (Zt (a.num*(b.den:Int))),.agg (Zt (b.num*(a.den:Int))),.agg (Zt ((a.den:Int)*(b.den:Int)))] :=
  w tt Tryz.func198 rfl [.c [] (Oy (ha.mono (by decide))),.c [] (Oy (hb.mono (by decide))),.c [] (Kn (Qe _) (Qe _) (Nat.le_trans ha.1 (by decide)) (Nat.le_trans hb.2 (by decide))),.c [] (Kn (Qe _) (Qe _) (Nat.le_trans hb.1 (by decide)) (Nat.le_trans ha.2 (by decide))),.c [] (Kn (Qe _) (Qe _) (Nat.le_trans ha.2 (by decide)) (Nat.le_trans hb.2 (by decide)))] rfl rfl trivial
theorem Fj {a b:Rat} (ha:Qs 2147483647 a) (hb:Qs 2147483647 b):Qd Tryz.prog 138 [.agg (rl a),.agg (rl b)] [.one (.int .i64 (Z2 a b))] :=
  w tt Tryz.func138 rfl [.c [] (Qey ha hb),.c [] (Or (Qe _) (Qe _) (Nat.le_trans (Q0 _ _) (by have:=ha.1; have:=hb.2; omega)) (Nat.le_trans (Q0 _ _) (by have:=hb.1; have:=ha.2; omega)))] rfl rfl trivial
theorem Qv1 {x y x' y':LV} {n d:Int} (h1:Xn x y n) (h2:Xn x' y' d) (hn:Ql n≤4294967295) (hd:Ql d≤4294967295):Qd Tryz.prog 82 [.agg [x,y,x',y'],.one (.row [])] [.agg (rl (Z1 n d))]:=by
  have c1:=A9 h1 h2 hn hd
  obtain ⟨b,l,rfl,rfl,_⟩:=h1
  obtain ⟨b',l',rfl,rfl,_⟩:=h2
  refine Z7 Tryz.func82 rfl ?_
  refine go tt [.c [] c1] rfl trivial ?_
  refine lp (S:=Unit) 3 (fun L1 _=>(12,.v (.one (.int .i64 0)))::L1) (fun _=>[.blk 41 [.bool b,.row (lm l),.bool b',.row (lm l')],.blk 41 [.bool false,.nils,.bool false,.nils],.blk 41 (rl (Z1 n d))]) (fun _=>0) (fun _=>True) () trivial rfl (fun _ _=>rfl) rfl fun _ _=>?_
  exact en tt [.f (by simp)] rfl rfl trivial
theorem Gq {q:Rat} (hq:Qs 4294967295 q):Qd Tryz.prog 82 [.agg (rl q),.one (.row [])] [.agg (rl q)]:=by
  have:=Qv1 (Qe q.num) (Qe (q.den:Int)) hq.1 hq.2
  rwa [Tr] at this
theorem Q2f {q:Rat} (hq:Qs 4294967295 q):Qd Tryz.prog 239 [.agg (rl q)] [.agg (rl q)]:=w tt Tryz.func239 rfl [.c [] (Gq hq)] rfl rfl trivial
theorem Qoc {p:List Int} {q:Rat} {s t:Nat} (tp:Qi p) (hl:p.length<274877906944) (hp:Bd s p) (hq:Qs t q) (hst:s+p.length*(t+1)+2*t+10≤4294967295):Qd Tryz.prog 192 [pr p,.agg (rl q)] [.one (.int .i64 (Z4 p q))]:=by
  have cc:=Or (Qe (Q4d p q.num q.den)) Wp (Nat.le_trans (Qg6 hp hq.1 hq.2).1 (by omega)) (by decide)
  exact w tt Tryz.func192 rfl [.c [] (Q2f (hq.mono (by omega))),.c [] (X1 tp hl (Qc hp (by omega))),.c [] (Qu6 hl hp hq.1 hq.2 hst),.c [] cc] rfl rfl trivial
end Orr

namespace Orr
open Go Go.Proofs
set_option maxRecDepth 10000
theorem Qvp {p:List Int} {g:Int} (hl:p.length<274877906944) (hp:Bd 4294967295 p) (hg:Ql g≤4294967295) (h0:g≠0) (hd:∀ z∈p,z % g=0):Qd Tryz.prog 121 [pr p,.agg (Zt g)] [pr (trim (p.map (· / g)))]:=by
  refine Z7 Tryz.func121 rfl ?_
  refine go tt [.r 9 (eI (b:=(p.length:Int)) (by simp)),.i p.length,.i p.length,.r 12 (eI (b:=(p.length:Int)) (by simp))] rfl (by simp [Qa]; omega) ?_
  rw [Ft fun k=>Zt (p.getD k 0 / g)]
  refine lp (S:=Nat) 2 (fun L1 k=>(13,.v (.one (.int .i64 (k:Int))))::L1) (fun k=>[.blk 29 (Zt g),.row false 29 2 (fil (fun k=>Zt (p.getD k 0 / g)) [.bool false,.nils] p.length k)]) (fun k=>p.length-k) (fun k=>k≤p.length) 0 (Nat.zero_le _) rfl (fun _ _=>rfl) rfl fun k hk=>?_
  by_cases hlt:k<p.length
  · have hg2:=Xt hlt
    refine go tt [.t (by simp; omega),.x (Yc hg2),.c [] (Gl (Qe _) (Qe _) (Qr hp k) hg h0 (hd _ (List.mem_of_getElem? hg2))),.i k] rfl (by simp [Qa,Gx]; omega) ?_
    have e:=Tj (fun k=>Zt (p.getD k 0 / g)) [.bool false,.nils] hlt
    rw [e]
    exact rd (k+1) (by omega) hlt rfl
  · obtain rfl:k=p.length:=by omega
    have e:fil (fun k=>Zt (p.getD k 0 / g)) [.bool false,.nils] p.length p.length=(p.map (· / g)).map Zt:=by
      rw [Ti]
      refine List.ext_getElem? fun i=>?_
      by_cases hi:i<p.length
      · simp [List.getElem?_range hi,List.getD,List.getElem?_eq_getElem hi]
      · simp [List.getElem?_eq_none,hi]
    rw [e]
    exact en tt [.f (by simp),.c [] (Ux (Zp (p.map (· / g))) (by simp; exact hl) (La hp g))] rfl rfl trivial
theorem Qbd (p:List Int):∀ c∈p.map Zt,c.length=2:=Q6e p fun _=>rfl
theorem Qoj {lx ly:List (List LV)} {px py:List Int} {x y:LV} {d:Int} (hx:IsInts lx px) (hy:IsInts ly py) (hd:Xn x y d) (hk:Cs 4294967294 1073741824 (Crv.mk px py d)):Qd Tryz.prog 74 [.agg [.row lx,.row ly,x,y]] [.agg (cl (Crv.norm (Crv.mk px py d)))]:=by
  have hlx:=hk.lx
  have hly:=hk.ly
  simp only at hlx hly
  have htx:=Xm px
  have hty:=Xm py
  have hd1:Ql (Crv.mk px py d).d'≤4294967295:=Nat.le_trans (Qfo hk.d (by omega)) (by omega)
  have hg1:=Crv.isz_g (Crv.mk px py d) hd1
  have hg0:=Crv.g_ne (Crv.mk px py d)
  have hgd:=Crv.g_dvd (Crv.mk px py d)
  have cx:=Ux hx (by omega) (Qc hk.x (by omega))
  have cy:=Ux hy (by omega) (Qc hk.y (by omega))
  have cd:=Uy hd (Nat.le_trans hk.d (by omega))
  have bx:Bd 4294967295 (trim px):=Qc (Jp hk.x) (by omega)
  have by_:Bd 4294967295 (trim py):=Qc (Jp hk.y) (by omega)
  obtain ⟨b,l,rfl,rfl,_⟩:=hd
  obtain ⟨e,he⟩:∃ e,e=(Crv.mk px py d).d':=⟨_,rfl⟩
  obtain ⟨g,hgg⟩:∃ g,g=(Crv.mk px py d).g:=⟨_,rfl⟩
  obtain ⟨X,hX⟩:∃ X,X=trim px:=⟨_,rfl⟩
  obtain ⟨Y,hY⟩:∃ Y,Y=trim py:=⟨_,rfl⟩
  have hnorm:(Crv.mk px py d).norm=⟨trim (X.map (· / g)),trim (Y.map (· / g)),e / g⟩:=by rw [he,hgg,hX,hY]; rfl
  rw [hnorm]
  have hgdef:g=if e<0 then -((Xb (e::(X++Y)):Nat):Int) else (Xb (e::(X++Y)):Nat):=by rw [hgg,he,hX,hY]; rfl
  have hde:e=if d=0 then 1 else d:=by rw [he]; rfl
  simp only [←he,←hgg,←hX,←hY] at hd1 hg1 hg0 hgd htx hty cx cy bx by_
  clear hnorm hgg he hX hY
  refine Z7 Tryz.func74 rfl ?_
  refine go tt [.c [] cx,.c [] cy,.c [] cd,.c [] G8] rfl trivial ?_
  refine ct 1 (S:=Unit) (fun _=>[(2,.v (.one (.ow 1 0))),(3,.v (pr X)),(4,.v (pr Y)),(5,.v (.one (.ow 2 0)))]) (fun _=>[.blk 31 [.row lx,.row ly,.bool b,.row (lm l)],.blk 31 [.nils,.nils,.bool false,.nils],.blk 29 (Zt e)]) (fun _=>True) rfl ?_ ?_
  · by_cases h0:d=0
    · rw [hde,if_pos h0]
      exact go tt [.t (by simpa using h0),.c [] (Qld (z:=1) (by decide))] rfl trivial (rc () trivial rfl)
    · rw [hde,if_neg h0]
      exact go tt [.f (by simpa using h0)] rfl trivial (rc () trivial rfl)
  · intro _ _
    have hgi:IsInts ([Zt e]++X.map Zt++Y.map Zt) (e::(X++Y)):=by
      have:=Zp (e::(X++Y))
      simpa using this
    have hgs:∀ z∈e::(X++Y),Ql z≤4294967295:=fun z hz=>by
      rcases List.mem_cons.1 hz with rfl | hz
      · exact hd1
      · rcases List.mem_append.1 hz with hz | hz
        · exact bx z hz
        · exact by_ z hz
    have cg:=Qup hgi hgs
    have co1:=Qvp (p:=X) (by omega) bx hg1 hg0 fun z hz=>hgd z (List.mem_cons_of_mem _ (List.mem_append_left _ hz))
    have co2:=Qvp (p:=Y) (by omega) by_ hg1 hg0 fun z hz=>hgd z (List.mem_cons_of_mem _ (List.mem_append_right _ hz))
    have ce:=Gl (Qe e) (Qe g) hd1 hg1 hg0 (hgd e (List.mem_cons_self ..))
    have hszg:=Ij hgs
    by_cases hneg:e<0
    · rw [if_pos hneg] at hgdef
      have cn:=Oj (Qe ((Xb (e::(X++Y)):Nat):Int)) hszg
      rw [←hgdef] at cn
      exact en tt [.lo,.s (Qbd X),.s (Qbd Y),.c [] cg,.t (by simpa using hneg),.c [] cn,.c [] ce,.c [] co1,.c [] co2] rfl rfl (by simp [Qa]; omega)
    · rw [if_neg hneg] at hgdef
      rw [←hgdef] at cg
      exact en tt [.lo,.s (Qbd X),.s (Qbd Y),.c [] cg,.f (by simpa using hneg),.c [] ce,.c [] co1,.c [] co2] rfl rfl (by simp [Qa]; omega)
theorem Qex {lx ly:List (List LV)} {px py:List Int} {x y:LV} {d:Int} (hx:IsInts lx px) (hy:IsInts ly py) (hd:Xn x y d) (hk:Cs 4294967294 1073741824 (Crv.mk px py d)) (h0:d≠0):Qd Tryz.prog 215 [.one (.row lx),.one (.row ly),.agg [x,y]] [.agg (cl (Crv.norm (Crv.mk px py d))),.one (.int .i64 0)]:=by
  have cd:=Uy hd (Nat.le_trans hk.d (by omega))
  have cn:=Qoj hx hy hd hk
  obtain ⟨b,l,rfl,rfl,_⟩:=hd
  exact w tt Tryz.func215 rfl [.c [] cd,.c [] G8,.f (by simpa using h0),.c [] cn] rfl rfl trivial
theorem Zah {lx ly:List (List LV)} {px py:List Int} (hx:IsInts lx px) (hy:IsInts ly py) (hk:Cs 4294967294 1073741824 (Crv.mk px py 0)):Qd Tryz.prog 17 [.one (.row lx),.one (.row ly)] [.agg (cl (Crv.norm (Crv.mk px py 0)))] :=
  w tt Tryz.func17 rfl [.c [] (Qoj hx hy Wp hk)] rfl rfl trivial
def Qrf (x y:Int):Crv:=Crv.norm ⟨trim [x],trim [y],0⟩
theorem Qh6 {x y:Int} (hx:-9223372036854775808≤x∧x≤9223372036854775807) (hy:-9223372036854775808≤y∧y≤9223372036854775807):Cs 64 1 ⟨trim [x],trim [y],0⟩:=by
  have key:∀ z:Int,-9223372036854775808≤z∧z≤9223372036854775807→Ql z≤64:=fun z hz=>by
    rw [J3]
    have:(2:Nat)^64=18446744073709551616:=by decide
    omega
  refine ⟨Jp fun z hz=>?_,Jp fun z hz=>?_,Nat.zero_le _,Xm [x],Xm [y]⟩
  · rw [List.mem_singleton] at hz; rw [hz]; exact key x hx
  · rw [List.mem_singleton] at hz; rw [hz]; exact key y hy
theorem Qog {x y:Int} (hx:-9223372036854775808≤x∧x≤9223372036854775807) (hy:-9223372036854775808≤y∧y≤9223372036854775807):Qd Tryz.prog 59 [.one (.int .i64 x),.one (.int .i64 y)] [.agg (cl (Qrf x y))] :=
  w tt Tryz.func59 rfl [.c [] (Qu0 (p:=[x]) (show 1<274877906944 by decide) (by intro z hz; rw [List.mem_singleton] at hz; rw [hz]; exact hx)),.c [] (Qu0 (p:=[y]) (show 1<274877906944 by decide) (by intro z hz; rw [List.mem_singleton] at hz; rw [hz]; exact hy)),.c [] (Zah (Zp _) (Zp _) ((Qh6 hx hy).mono (by omega) (by omega)))] rfl rfl trivial
end Orr

namespace Orr
open Go Go.Proofs
set_option maxRecDepth 10000
theorem Qm1 {l:List Pt} {i:Nat} {p:Pt} (h:l[i]? = some p):(l.map Zu)[i]? = some [pl p.c.x,pl p.c.y,sg p.c.d,mg p.c.d,.int .i64 p.id]:=Xd h
theorem Rk (l:List Pt):∀ c∈l.map Zu,c.length=5:=Q6e l fun _=>rfl
theorem Qon {lx ly:List (List LV)} {px py:List Int} {x y:LV} {d:Int} (hx:IsInts lx px) (hy:IsInts ly py) (hd:Xn x y d) (hk:Cs 4294967294 1073741824 (Crv.mk px py d)) (id:Int):Qd Tryz.prog 165 [.agg [.row lx,.row ly,x,y,.int .i64 id]] [.agg (Zu ⟨Crv.norm (Crv.mk px py d),id⟩)]:=by
  have cd:=Uy hd (Nat.le_trans hk.d (by omega))
  by_cases h0:d=0
  · subst h0
    have ck:Cs 4294967294 1073741824 (Crv.mk px py 1):=⟨hk.x,hk.y,show Ql 1≤4294967294 by decide,hk.lx,hk.ly⟩
    have cm:=Qex hx hy (Qe 1) ck (by decide)
    have e:Crv.norm (Crv.mk px py 1)=Crv.norm (Crv.mk px py 0):=by simp only [Crv.norm,Crv.g,Crv.d']; rfl
    rw [e] at cm
    obtain ⟨b,l,rfl,rfl,_⟩:=hd
    exact w tt Tryz.func165 rfl [.c [] cd,.c [] G8,.t (by simp),.c [] (Qld (z:=1) (by decide)),.c [] cm] rfl rfl trivial
  · have cm:=Qex hx hy hd hk h0
    obtain ⟨b,l,rfl,rfl,_⟩:=hd
    exact w tt Tryz.func165 rfl [.c [] cd,.c [] G8,.f (by simpa using h0),.c [] cm] rfl rfl trivial
theorem Qoi {l:List Pt} (id:Int) (hl:l.length<1073741824):Qd Tryz.prog 164 [.agg [pts l],.one (.int .i64 id)] [.one (.int .i64 (U6 l id:Int)),.one (.bool (has l id))]:=by
  refine Z7 Tryz.func164 rfl ?_
  refine go tt [] rfl trivial ?_
  refine ct 2 (S:=Unit) (fun _=>[(1,.v (.one (.int .i64 id))),(2,.v (.one (.ow 0 0))),(6,.v (.one (.int .i64 (U6 l id:Int))))]) (fun _=>[.blk 72 [pts l]]) (fun _=>True) rfl ?_ ?_
  · refine lp (S:=Nat) 1 (fun L1 k=>(6,.v (.one (.int .i64 (k:Int))))::L1) (fun _=>[.blk 72 [pts l]]) (fun k=>l.length-k) (fun k=>k≤l.length∧∀ j p,j<k→l[j]? = some p→p.id<id) 0 ⟨Nat.zero_le _,fun j p h=>by omega⟩ rfl (fun _ _=>rfl) rfl fun k ⟨hk,hlt⟩=>?_
    by_cases h:k<l.length
    · obtain ⟨p,hp⟩:∃ p,l[k]? = some p:=⟨_,List.getElem?_eq_getElem h⟩
      by_cases hid:p.id<id
      · refine go tt [.t (by simp; omega),.x (Qm1 hp),.t (by simpa using hid)] rfl (by simp [Qa]; omega) ?_
        exact rd (k+1) (by omega) ⟨h,fun j q hj hq=>by
          rcases Nat.lt_or_ge j k with h2 | h2
          · exact hlt j q h2 hq
          · have:j=k:=by omega
            subst this; rw [hp] at hq; injection hq with hq; rw [←hq]; exact hid⟩ rfl
      · have e:=Qbh hlt (.inr ⟨p,hp,hid⟩)
        refine go tt [.t (by simp; omega),.x (Qm1 hp),.f (by simpa using hid)] rfl trivial ?_
        rw [e]
        exact rc () trivial rfl
    · obtain rfl:k=l.length:=by omega
      have e:=Qbh hlt (.inl rfl)
      refine go tt [.f (by simp),.f rfl] rfl trivial ?_
      rw [e]
      exact rc () trivial rfl
  · intro _ _
    by_cases h:U6 l id<l.length
    · obtain ⟨p,hp⟩:∃ p,l[U6 l id]? = some p:=⟨_,List.getElem?_eq_getElem h⟩
      have e:has l id=decide (p.id=id):=by simp [has,hp]
      rw [e]
      exact en tt [.g 30 true (by simp; omega),.x (Qm1 hp)] rfl rfl trivial
    · have e:has l id=false:=by simp [has,List.getElem?_eq_none (Nat.le_of_not_lt h)]
      rw [e]
      exact en tt [.g 30 false (by simp; omega)] rfl rfl trivial
theorem Qet {l:List Pt}:Qd Tryz.prog 126 [.agg [pts l]] [.one (pts l)]:=w tt Tryz.func126 rfl [] rfl rfl trivial
theorem Qu5 {lx ly:List (List LV)} {px py:List Int} {x y:LV} {d id:Int} {l:List Pt} (hx:IsInts lx px) (hy:IsInts ly py) (hd:Xn x y d) (hk:Cs 4294967294 1073741824 (Crv.mk px py d)) (hl:l.length≤1000000) :
    Qd Tryz.prog 104 [.agg [pts l],.agg [.row lx,.row ly,x,y,.int .i64 id]] [.agg [pts (if Gd l (Pt.mk (Crv.norm (Crv.mk px py d)) id)=0 then put l (Pt.mk (Crv.norm (Crv.mk px py d)) id) else l)],.one (.int .i64 (Gd l (Pt.mk (Crv.norm (Crv.mk px py d)) id)))]:=by
  have ca:=Qoi (l:=l) id (by omega)
  have cf:=Qon hx hy hd hk id
  obtain ⟨b,r,rfl,rfl,_⟩:=hd
  obtain ⟨q,hq⟩:∃ q,q=Pt.mk (Crv.norm (Crv.mk px py d)) id:=⟨_,rfl⟩
  have hqi:q.id=id:=by rw [hq]
  rw [←hq] at cf ⊢
  have hpl:=Qyw l id
  by_cases h1:has l id=true
  · have e:Gd l q=6:=by simp [Gd,hqi,h1]
    rw [e,if_neg (by decide)]
    exact w tt Tryz.func104 rfl [.c [] ca,.t h1] rfl rfl trivial
  by_cases h2:6≤l.length
  · have e:Gd l q=9:=by simp [Gd,hqi,h1,h2]
    rw [e,if_neg (by decide)]
    exact w tt Tryz.func104 rfl [.c [] ca,.f (by simpa using h1),.t (by simp; omega)] rfl rfl trivial
  have e:Gd l q=0:=by simp [Gd,hqi,h1,h2]
  rw [e,if_pos rfl]
  have s1:∀ c∈(l.map Zu).take (U6 l id),c.length=5:=fun c hc=>Rk l c (List.mem_of_mem_take hc)
  have s3:∀ c∈(l.map Zu).drop (U6 l id),c.length=5:=fun c hc=>Rk l c (List.mem_of_mem_drop hc)
  refine w tt Tryz.func104 rfl [.c [] ca,.f (by simpa using h1),.f (by simp; omega),.i (U6 l id),.s s1,.c [] cf,.i (U6 l id),.s s3] rfl ?_ ?_
  · simp [put,hqi,pts,List.map_take,List.map_drop,Zu]
  · simp [Qa]
    exact ⟨by omega,hpl,fun _ _=>rfl,by omega,by omega,hpl⟩
theorem Qyc:∀ (qs:List Pt),(J4 [] qs).1.length≤qs.length:=by
  have key:∀ (qs acc:List Pt),(J4 acc qs).1.length≤acc.length+qs.length:=by
    intro qs
    induction qs with
    | nil=>intro acc; simp [J4]
    |
     cons q qs ih =>
     intro acc
     simp only [J4]
     split
     · have:=ih (put acc q); rw [Qqx] at this; simp only [List.length_cons]; omega
     · simp
  intro qs
  have:=key qs []
  simpa using this
theorem Q99 {zs:List (List LV)} {qs:List Pt} (hz:IsPts 4294967294 1073741824 zs qs) (hl:qs.length≤6):Qd Tryz.prog 77 [.one (.row zs)] [.agg [pts (J4 [] qs).1],.one (.int .i64 (J4 [] qs).2)]:=by
  refine Z7 Tryz.func77 rfl ?_
  have hzl:=hz.len
  refine go tt [.f (by simp; omega)] rfl trivial ?_
  refine nlb 1 rfl rfl rfl ?_
  refine lp (S:=Nat) 2 (fun L1 i=>(14,.v (.one (.int .i64 (i:Int))))::L1) (fun i=>[.blk 72 [.nils],.blk 72 [pts (J4 [] (qs.take i)).1]]) (fun i=>qs.length-i) (fun i=>i≤qs.length∧(J4 [] (qs.take i)).2=0) 0 ⟨Nat.zero_le _,rfl⟩ rfl (fun _ _=>rfl) rfl fun i ⟨hi,h0⟩=>?_
  by_cases hlt:i<qs.length
  · have hqi:qs[i]? = some qs[i]:=List.getElem?_eq_getElem hlt
    obtain ⟨z,hzi,lx,ly,b,r,px,py,d,rfl,hx,hy,hd,hk,hc⟩:=hz.get hqi
    have hq:(Pt.mk (Crv.norm (Crv.mk px py d)) qs[i].id)=qs[i]:=by rw [←hc]
    have hst:=Qta [] qs hqi (by rw [←h0])
    have hnl:=Qyc (qs.take i)
    have cp:=Qu5 (l:=(J4 [] (qs.take i)).1) (id:=qs[i].id) hx hy hd hk (by rw [List.length_take] at hnl; omega)
    rw [hq] at cp
    by_cases he:Gd (J4 [] (qs.take i)).1 qs[i]=0
    · rw [if_pos he] at hst
      rw [he,if_pos rfl] at cp
      refine go tt [.t (by simp; omega),.x hzi,.c [] cp,.f rfl] rfl (by simp [Qa]; omega) ?_
      exact rd (i+1) (by omega) ⟨hlt,by rw [hst]⟩ (by rw [hst]; rfl)
    · rw [if_neg he] at hst
      have herr:=Qyb [] qs he hst
      rw [herr]
      exact en tt [.t (by simp; omega),.x hzi,.c [] cp,.t (by simpa using he)] rfl rfl trivial
  · obtain rfl:i=qs.length:=by omega
    rw [List.take_length] at h0
    rw [List.take_length,h0]
    exact en tt [.f (by simp; omega)] rfl rfl trivial
end Orr

namespace Orr
open Go Go.Proofs
set_option maxRecDepth 10000
theorem Qrk (q:Rat):Qi [-q.num,(q.den:Int)]:=by
  have:=q.den_nz
  simp [Qi,trim,this]
theorem Q94 {s:Nat} {q:Rat} (h:Qs s q):Bd s [-q.num,(q.den:Int)]:=fun z hz=>by
  simp at hz
  rcases hz with rfl | rfl
  · rw [Xc]; exact h.1
  · exact h.2
theorem Q5u {x y x' y':LV} {n d:Int} (h1:Xn x y n) (h2:Xn x' y' d) (hn:Ql n≤4294967295) (hd:Ql d≤4294967295) (hq:Qs 4294967295 (Z1 n d)):Qd Tryz.prog 78 [.agg [x,y,x',y']] [.agg (qa (Z1 n d))]:=by
  have c1:=Qv1 h1 h2 hn hd
  obtain ⟨b,l,rfl,rfl,_⟩:=h1
  obtain ⟨b',l',rfl,rfl,_⟩:=h2
  exact w tt Tryz.func78 rfl [.c [] c1,.c [] (Oj (Qe _) hq.1),.c [] (Gq hq)] rfl rfl trivial
theorem Gn {k:Crv} (hn:Nml k) (hk:Cs 4294967294 1073741824 k):Qd Tryz.prog 183 [.agg (cl k)] [.agg (cl k)]:=by
  have h0:k.d≠0:=by have:=hn.2.2.1; omega
  have cm:=Qex (Zp k.x) (Zp k.y) (Qe k.d) hk h0
  rw [show Crv.mk k.x k.y k.d=k from rfl,Crv.norm_of hn] at cm
  exact w tt Tryz.func183 rfl [.c [] (Uy (Qe k.d) (Nat.le_trans hk.d (by omega))),.c [] G8,.f (by simpa using h0),.c [] cm] rfl rfl trivial
theorem Q12 {a b:Crv} (ha:Nml a) (hb:Nml b) (ca:Cb a) (cb:Cb b):Qd Tryz.prog 188 [.agg (cl a),.agg (cl b)] [pr (Xl a b)]:=by
  have l1:=ca.lx
  have l2:=cb.lx
  have l3:=Qu b.x a.d
  have l4:=Qu a.x b.d
  exact w tt Tryz.func188 rfl [.c [] (Gn ha (ca.mono (by omega) (by omega))),.c [] (Gn hb (cb.mono (by omega) (by omega))),.c [] (Ua (by omega) (Qc cb.x (by omega)) (Nat.le_trans ca.d (by omega))),.c [] (Ua (by omega) (Qc ca.x (by omega)) (Nat.le_trans cb.d (by omega))),.c [] (Om (by omega) (by omega) (Qc (Qz cb.x ca.d) (by omega)) (Qc (Qz ca.x cb.d) (by omega)))] rfl rfl trivial
theorem Q1o {a b:Crv} (ha:Nml a) (hb:Nml b) (ca:Cb a) (cb:Cb b):Qd Tryz.prog 189 [.agg (cl a),.agg (cl b)] [pr (Xk a b)]:=by
  have l1:=ca.ly
  have l2:=cb.ly
  have l3:=Qu b.y a.d
  have l4:=Qu a.y b.d
  exact w tt Tryz.func189 rfl [.c [] (Gn ha (ca.mono (by omega) (by omega))),.c [] (Gn hb (cb.mono (by omega) (by omega))),.c [] (Ua (by omega) (Qc cb.y (by omega)) (Nat.le_trans ca.d (by omega))),.c [] (Ua (by omega) (Qc ca.y (by omega)) (Nat.le_trans cb.d (by omega))),.c [] (Om (by omega) (by omega) (Qc (Qz cb.y ca.d) (by omega)) (Qc (Qz ca.y cb.d) (by omega)))] rfl rfl trivial
def Yq (ps:List (List Int)):List (List LV):=ps.map fun p=>[pl p]
theorem Ji {ps:List (List Int)} {i:Nat} {p:List Int} (h:ps[i]? = some p):(Yq ps)[i]? = some [pl p]:=Xd h
end Orr

namespace Orr
open Go Go.Proofs
set_option maxRecDepth 10000
theorem Qsa:Qd Tryz.prog 186 [.one (.int .i64 5)] [.one (.int .i64 4)]:=w tt Tryz.func186 rfl [.f rfl,.f rfl,.f rfl,.f rfl,.t rfl] rfl rfl trivial
theorem Qur {k i0 i1 i2 i3 l j0 j1 j2 j3:Int}:Qd Tryz.prog 153 [.agg [.int .i64 k,.int .i64 i0,.int .i64 i1,.int .i64 i2,.int .i64 i3],.agg [.int .i64 l,.int .i64 j0,.int .i64 j1,.int .i64 j2,.int .i64 j3]] [.one (.bool (X3 [k,i0,i1,i2,i3] [l,j0,j1,j2,j3]))]:=by
  by_cases hk:k=l
  · subst hk
    rw [show X3 [k,i0,i1,i2,i3] [k,j0,j1,j2,j3]=X3 [i0,i1,i2,i3] [j0,j1,j2,j3] from by simp [X3]]
    refine Z7 Tryz.func153 rfl ?_
    refine go tt [.f (by simp)] rfl trivial ?_
    refine lp (S:=Nat) 2 (fun L1 i=>(19,.v (.one (.int .i64 (i:Int))))::L1) (fun _=>[.blk 159 [.int .i64 k,.int .i64 i0,.int .i64 i1,.int .i64 i2,.int .i64 i3],.blk 159 [.int .i64 k,.int .i64 j0,.int .i64 j1,.int .i64 j2,.int .i64 j3]]) (fun i=>4-i) (fun i=>i≤4∧X3 ([i0,i1,i2,i3].drop i) ([j0,j1,j2,j3].drop i)=X3 [i0,i1,i2,i3] [j0,j1,j2,j3]) 0 ⟨by omega,rfl⟩ rfl (fun _ _=>rfl) rfl fun i ⟨hi,he⟩=>?_
    rw [←he]
    rcases (show i=0∨i=1∨i=2∨i=3∨i=4 by omega) with rfl | rfl | rfl | rfl | rfl
    · by_cases h:i0=j0
      · exact go tt [.t rfl,.i 0,.i 0,.f (by simpa using h)] rfl (by simp [Qa]) (rd 1 (by omega) ⟨by omega,by simp [X3,h]⟩ rfl)
      · exact en tt [.t rfl,.i 0,.i 0,.t (by simpa using h),.i 0] rfl (by simp [X3,h]) trivial
    · by_cases h:i1=j1
      · exact go tt [.t rfl,.i 1,.i 1,.f (by simpa using h)] rfl (by simp [Qa]) (rd 2 (by omega) ⟨by omega,by simp [X3,h]⟩ rfl)
      · exact en tt [.t rfl,.i 1,.i 1,.t (by simpa using h),.i 1] rfl (by simp [X3,h]) trivial
    · by_cases h:i2=j2
      · exact go tt [.t rfl,.i 2,.i 2,.f (by simpa using h)] rfl (by simp [Qa]) (rd 3 (by omega) ⟨by omega,by simp [X3,h]⟩ rfl)
      · exact en tt [.t rfl,.i 2,.i 2,.t (by simpa using h),.i 2] rfl (by simp [X3,h]) trivial
    · by_cases h:i3=j3
      · exact go tt [.t rfl,.i 3,.i 3,.f (by simpa using h)] rfl (by simp [Qa]) (rd 4 (by omega) ⟨by omega,by simp [X3,h]⟩ rfl)
      · exact en tt [.t rfl,.i 3,.i 3,.t (by simpa using h),.i 3] rfl (by simp [X3,h]) trivial
    · exact en tt [.f rfl] rfl (by simp [X3]) trivial
  · exact w tt Tryz.func153 rfl [.t (by simpa using hk)] rfl (by simp [X3,hk]) trivial
abbrev zCt:List LV:=[.int .i64 0,.int .i64 0,.int .i64 0,.int .i64 0,.int .i64 0,.nils,.int .i64 0]
def Z0 (l:List Ct):List (List LV):=l.map Ax
theorem Lk {l:List Ct} {i:Nat} {c:Ct} (h:l[i]? = some c):(Z0 l)[i]? = some (Ax c):=Xd h
theorem Fp (l:List Ct):(Z0 l).length=l.length:=by simp [Z0]
theorem Qwg (l:List Ct):∀ c∈Z0 l,c.length=7:=fun c hc=>by
  obtain ⟨x,_,rfl⟩:=List.mem_map.1 hc; rfl
theorem Qxu {O:List Ct} {z:List LV} {c:Ct} {k m:Nat} {l2:List (List LV)} (hk:k≤O.length) (hp:Pw O c O.length=k) (hm:m=O.length-k) (h2:l2.take m=((Z0 O++[z]).drop k).take m) :
    ((Z0 O++[z]).take (k+1)++(l2.take m++(Z0 O++[z]).drop (k+1+m))).set k (Ax c)=Z0 (Nt O c):=by
  rw [h2,←List.append_assoc,Qxt (Z0 O) z (Ax c) (by rw [Fp]; omega) (by rw [Fp]; omega)]
  simp [Nt,hp,Z0,List.map_take,List.map_drop]
theorem Qlh {l:List Ct} (hl:∀ c∈l,Pb c.p) (hn:l.length≤1000000):Qd Tryz.prog 90 [.one (.row (Z0 l))] [.one (.row (Z0 (Zb l)))]:=by
  have hcl:=Fp l
  refine Z7 Tryz.func90 rfl ?_
  refine go tt [.o 3 161 7] rfl trivial ?_
  refine lp (S:=Nat) 1 (fun L1 i=>(9,.v (.one (.int .i64 (i:Int))))::(3,.v (.one (.orow 0 7 none)))::L1) (fun i=>[.row false 161 7 (Z0 (Zb (l.take i)))]) (fun i=>l.length-i) (fun i=>i≤l.length) 0 (Nat.zero_le _) rfl (fun _ _=>rfl) rfl fun i hi=>?_
  by_cases hlt:i<l.length
  · obtain ⟨c,hc⟩:∃ c,l[i]? = some c:=⟨_,List.getElem?_eq_getElem hlt⟩
    have hst:=Qnk hc
    have hcp:=hl c (List.mem_of_getElem? hc)
    obtain ⟨O,hO⟩:∃ O,O=Zb (l.take i):=⟨_,rfl⟩
    have hOl:O.length=i:=by rw [hO,Fh,List.length_take]; omega
    rw [←hO] at hst ⊢
    refine go tt [.t (by simp [hcl]; omega),.x (Lk hc)] rfl trivial ?_
    refine lp (S:=Nat) 2 (fun L1 k=>(6,.v (.one (.int .i64 (k:Int))))::L1) (fun k=>[.row false 161 7 (Z0 O),.blk 161 (Ax c)]) id (fun k=>k≤O.length∧Pw O c k=Pw O c O.length) (Z0 O).length ⟨by rw [Fp]; exact Nat.le_refl _,by rw [Fp]⟩ rfl (fun _ _=>rfl) rfl fun k ⟨hk,hp⟩=>?_
    have hz:∀ y∈[zCt],y.length=7:=fun y hy=>by rw [List.mem_singleton.1 hy]; rfl
    have h77:∀ y∈Z0 O++[zCt],y.length=7:=fun y hy=>by
      rcases List.mem_append.1 hy with hy | hy
      · exact Qwg O y hy
      · exact hz y hy
    cases k with
    |
     zero =>
     have hp:Pw O c O.length=0:=by rw [←hp]; rfl
     refine go tt [.g 17 false (by simp),.f rfl,.s (sz:=7) hz,.r 36 (eI (b:=((0+1:Nat):Int)) (by simp)),.i (0+1),.i (0),.s (sz:=7) (fun y hy=>h77 y (List.mem_of_mem_take hy)),.i (O.length),.c [] (X1 hcp.t (by have:=hcp.l; omega) (Qc hcp.b (by omega))),.i (0)] rfl (by simp [Qa,Fp]; omega) ?_
     exact rd (i+1) (by omega) hlt (by rw [hst,←Qxu (z:=zCt) (l2:=(Z0 O++[zCt]).take ((Z0 O++[zCt]).length-0)) (k:=0) (m:=O.length) (by omega) hp (by omega) (by congr 1; exact List.take_of_length_le (by simp))]; rfl)
    |
     succ k =>
     obtain ⟨x,hx⟩:∃ x,O[k]? = some x:=⟨_,List.getElem?_eq_getElem (by omega)⟩
     by_cases hlc:Kc c x=true
     · refine go tt [.g 17 true (by simp),.r 22 (eI (b:=(k:Int)) (by simp)),.i k,.x (Lk hx),.c [] Qur,.t hlc,.r 29 (eI (b:=(k:Int)) (by simp))] rfl (by simp [Qa,Fp]; omega) ?_
       exact rd k (by simp) ⟨by omega,by rw [←hp,Q35 hx hlc]⟩ rfl
     · have hlc:Kc c x=false:=by simpa using hlc
       have hp:Pw O c O.length=k+1:=by rw [←hp,Qyv hx hlc]
       refine go tt [.g 17 true (by simp),.r 22 (eI (b:=(k:Int)) (by simp)),.i k,.x (Lk hx),.c [] Qur,.f hlc,.s (sz:=7) hz,.r 36 (eI (b:=((k+1+1:Nat):Int)) (by simp)),.i (k+1+1),.i (k+1),.s (sz:=7) (fun y hy=>h77 y (List.mem_of_mem_drop (List.mem_of_mem_take hy))),.i (O.length-(k+1)),.c [] (X1 hcp.t (by have:=hcp.l; omega) (Qc hcp.b (by omega))),.i (k+1)] rfl (by simp [Qa,Fp]; omega) ?_
       exact rd (i+1) (by omega) hlt (by rw [hst,←Qxu (z:=zCt) (l2:=((Z0 O++[zCt]).drop (k+1)).take ((Z0 O++[zCt]).length-(k+1))) (k:=k+1) (m:=O.length-(k+1)) (by omega) hp (by omega) (by congr 1; exact List.take_of_length_le (by simp))]; rfl)
  · obtain rfl:i=l.length:=by omega
    rw [List.take_length]
    exact en tt [.f (by simp [hcl])] rfl rfl trivial
end Orr

namespace Orr
def Qt (p:List Int):Int:=p.getD (p.length-1) 0
def chk (p:List Int):Option (List Int):=if p.length≤64∧(p.all fun z=>Nat.ble (Ql z) 16777216)=true then some p else none
def chq (q:Rat):Option Rat:=if Ql q.num≤16777216∧Ql (q.den:Int)≤16777216 then some q else none
def J8 (p:List Int):Int:=(Xb p:Nat)
def Wi (p:List Int) (c:Int):List Int:=trim (p.map (· / c))
def Z9 (p:List Int):Int:=if Qt p<0 then -J8 p else J8 p
def Qo (p:List Int):List Int:=if p.length=0 then [] else Wi p (Z9 p)
def mono (i:Nat) (x:Int):List Int:=List.replicate i 0++[x]
def psd (b:List Int) (c:Int):Nat→List Int×List Int→List Int×List Int
  | 0,s=>s
  |
   i+1,(q,r) =>
   psd b c i (M9 (Qx q c) (mono i (if r.length=b.length+i then Qt r else 0)),Vn (Qx r c) (Zi (trim (mono i (if r.length=b.length+i then Qt r else 0))) b))
def Yw (a b:List Int):List Int:=(psd b (Qt b) (a.length+1-b.length) ([],a)).2
def Kf (a b r:List Int):List Int:=if (a.length+1-b.length) % 2=1∧Qt b<0 then Ve r else r
def Ng (r:List Int):List Int:=if r.length=0 then [] else Wi r (J8 r)
def X5 (a b:List Int):List Int:=Ng (Kf a b (Yw a b))
def Qf7 (b:List Int):Nat→List Int→List Int→Option (List Int)
  | 0,a,q=>if a.length=0 then some q else none
  | i+1,a,q=>if a.length<b.length+i then Qf7 b i a q else if Qt a % Qt b=0 then Qf7 b i (Vn a (Zi (trim (mono i (Qt a / Qt b))) b)) (q.set i (Qt a / Qt b)) else none
def Px (a b:List Int):Option (List Int):=if b.length=0 then none else (Qf7 b (a.length+1-b.length) a (List.replicate (a.length+1-b.length) 0)).bind fun q=>chk (trim q)
def Et:Nat→List Int→List Int→Option (List Int)
  | 0,_,_=>none
  | k+1,a,b=>if b.length=0 then some a else (chk (X5 a b)).bind fun r=>Et k b r
def Pz (a b:List Int):Option (List Int):=(Et 66 (Qo a) (Qo b)).map Qo
def Qf9 (a b:List Int):Option (List Int):=(Pz [] a).bind fun g=>Pz g b
def Vf (a:List Int):Option (List Int):=if (Qo a).length<2 then some (Qo a) else (chk (Zo (Qo a))).bind fun d=>(Pz (Qo a) d).bind fun g=>Px (Qo a) g
def L9:Nat→List Int→Option (List (List Int))
  | 0,_=>none
  | k+1,g=>if g.length<2 then some [] else (chk (Zo g)).bind fun d=>(Pz g d).bind fun h=>(Px g h).bind fun w=>(L9 k h).bind fun l=>some (w::l)
def Qb8:List (List Int)→Option (List (List Int))
  | []=>some []
  | [w]=>some [w]
  | w::v::l=>(Px w v).bind fun f=>(Qb8 (v::l)).bind fun r=>some (f::r)
def C5:Nat→List Int→List (List Int)→Option (List Int)
  | _,p,[]=>some p
  | i,p,f::l=>if i % 2=0 then (chk (Zi p f)).bind fun q=>C5 (i+1) q l else C5 (i+1) p l
def Qmt (a:List Int):Option (List Int):=if (Qo a).length=0 then some [] else (L9 66 (Qo a)).bind fun l=>(Qb8 l).bind fun fs=>C5 0 [1] fs
def chF:Nat→List Int→List Int→Option (List (List Int))
  | 0,_,_=>none
  | k+1,a,b=>if b.length=0 then some [] else (chk (X5 a b)).bind fun r=>(chF k b (Ve r)).bind fun l=>some (b::l)
def Hr (p:List Int):Option (List (List Int)):=(Vf p).bind fun a=>if a.length=0 then none else (chk (Zo a)).bind fun d=>(chF 66 a (Qo d)).bind fun l=>some (a::l)
def Yh (sg:List Int→Int) (s:Nat×Int) (p:List Int):Nat×Int:=if sg p=0 then s else (if s.2=-(sg p) then s.1+1 else s.1,sg p)
def Ki (sg:List Int→Int) (l:List (List Int)):Nat:=(l.foldl (Yh sg) (0,0)).1
def Wa (l:List (List Int)) (q:Rat):Nat:=Ki (fun p=>Z4 p q) l
def Jc (l:List (List Int)) (lo hi:Rat):Int:=if Z2 hi lo<0 then 0 else (Wa l lo:Int)-(Wa l hi:Int)
def Cf (p:List Int):Int:=Int.sign (Qt p)
def Se (p:List Int):Int:=if p.length % 2=0 then -Int.sign (Qt p) else Int.sign (Qt p)
def P0 (l:List (List Int)):Int:=(Ki Se l:Int)-(Ki Cf l:Int)
def most:List Int→Nat:=fun l=>l.foldl (fun m z=>if m<z.natAbs then z.natAbs else m) 0
def Zz (p:List Int):Rat:=Rat.divInt (((Qt p).natAbs:Int)+(most (p.take (p.length-1)):Int)) ((Qt p).natAbs:Int)
def mid (a b:Rat):Rat:=Rat.divInt (a.num*(b.den:Int)+b.num*(a.den:Int)) ((a.den:Int)*(b.den:Int)*2)
def Ge (p:List Int) (c:List (List Int)):Nat→Rat→Rat→Int→Option (List Tm)
  | 0,_,_,_=>none
  | k+1,lo,hi,n=>if n=0 then some [] else if n=1 then some [⟨p,lo,hi⟩] else (chq (mid lo hi)).bind fun m=>(Ge p c k lo m (Jc c lo m)).bind fun l=>(Ge p c k m hi (n-Jc c lo m)).bind fun r=>some (l++r)
def Qbn (p:List Int):Option (List Tm):=(Hr p).bind fun c=>(Vf p).bind fun q=>(chq (Zz q)).bind fun b=>Ge q c 100000 (-b) b (P0 c)
def Tm.point (a:Tm):Bool:=decide (0≤Z2 a.lo a.hi)
def low (p:List Int) (q:Rat):Int:=if Z4 p q≠0 then Z4 p q else Z4 (Zo p) q
def Ck (p:List Int) (lo hi:Rat):Bool:=decide (Z4 p hi=0∨Z4 p hi≠low p lo)
def Q3 (a:Tm) (t:Rat):Int :=
  if a.point=true then Z2 a.lo t else if Z2 t a.lo≤0 then 1 else if 0<Z2 t a.hi then -1 else if Z4 a.p t=0 then 0 else if Z4 a.p t=low a.p a.lo then 1 else -1
def Qfk (a:Tm):Option Tm:=if a.point=true then some a else (chq (mid a.lo a.hi)).bind fun m =>
  some (if Q3 a m=0 then ⟨a.p,m,m⟩ else if Q3 a m=-1 then ⟨a.p,a.lo,m⟩ else ⟨a.p,m,a.hi⟩)
def Zr (p:List Int):Nat:=p.foldl (fun n z=>max n (Ql z)) 0
def Yp (a b:Tm):Nat:=64+2*(Ql a.lo.num+Ql a.hi.num+Ql b.lo.num+Ql b.hi.num)+4*(a.p.length+b.p.length)*(Zr a.p+Zr b.p+(a.p.length+b.p.length)+8)
def Qbp (a b:Rat):Rat:=Rat.divInt (a.num*(b.den:Int)-b.num*(a.den:Int)) ((a.den:Int)*(b.den:Int))
def Wg (a b:Tm):Bool:=decide (Z2 a.hi b.lo≤0∧¬((a.point=true∧b.point=true)∧Z2 a.hi b.lo=0))
def apF:Nat→Tm→Tm→Option (Tm×Tm×Int)
  | 0,a,b=>some (a,b,0)
  |
   k+1,a,b=>if Wg a b=true then some (a,b,-1) else if Wg b a=true then some (a,b,1) else
   if 0≤Z2 (Qbp a.hi a.lo) (Qbp b.hi b.lo) then (Qfk a).bind fun x=>apF k x b else (Qfk b).bind fun x=>apF k a x
def Li (a b:Tm):Option Int:=if a.point=true then some (-Q3 b a.lo) else if b.point=true then some (Q3 a b.lo) else
  let lo:=if 0<Z2 b.lo a.lo then b.lo else a.lo
  let hi:=if Z2 b.hi a.hi<0 then b.hi else a.hi
  if Z2 lo hi<0 then (Qf9 a.p b.p).bind fun g=>if 1<g.length∧Ck g lo hi=true then some 0 else (apF (Yp a b) a b).bind fun r=>some r.2.2
  else (apF (Yp a b) a b).bind fun r=>some r.2.2
def sgF (c:List (List Int)):Nat→Tm→Option Tm
  | 0,a=>some a
  | k+1,a=>if a.point=true∨Jc c a.lo a.hi=0 then some a else (Qfk a).bind fun x=>sgF c k x
def Qee (p:List Int) (a:Tm):Option Int:=if p.length=0 then some 0 else if a.point=true then some (Z4 p a.lo) else
  (Qf9 p a.p).bind fun g=>if 1<g.length∧Ck g a.lo a.hi=true then some 0 else (Hr p).bind fun c=>(sgF c (64+2*(Ql a.lo.num+Ql a.hi.num)+4*(a.p.length+p.length)*(Zr a.p+Zr p+(a.p.length+p.length)+8)) a).bind fun x=>some (Z4 p x.hi)
def Tn:Tm→List Tm→Option Tm
  | b,[]=>some b
  | b,a::l=>(Li a b).bind fun c=>Tn (if c<0 then a else b) l
def Nf (a:Tm):List Tm→Option (Option Tm)
  | []=>some none
  | r::l=>(Li r a).bind fun c=>if 0<c then some (some r) else Nf a l
def Bm (p:List Int):Option (List Tm):=(Qmt p).bind fun q=>if q.length=0 then some [] else Qbn q
def Ag (p:List Int) (a:Tm):Option (Option Tm):=(Bm p).bind fun l=>Nf a l
end Orr

namespace Orr
open Go Go.Proofs
set_option maxRecDepth 10000
theorem U3 {p:List Int} (tp:Qi p) (h:p.length≠0):Qt p≠0:=Xj tp (by omega)
theorem Qa4 {p:List Int} (h:p.length≠0):Qt p∈p:=List.mem_of_getElem? (Xt (by omega))
theorem Vq {s:Nat} {p:List Int} (h:Bd s p):Ql (Qt p)≤s:=Qr h _
theorem Fc {p:List Int}:∀ z∈p,J8 p∣z:=S8
theorem Pu {p:List Int} (tp:Qi p) (h:p.length≠0):J8 p≠0:=fun h0=>U3 tp h (Int.zero_dvd.1 (h0 ▸ Fc _ (Qa4 h)))
theorem Mk {p:List Int} (h:Bd 4294967295 p):Ql (J8 p)≤4294967295:=Ij h
theorem Qqn {p:List Int} (tp:Qi p) (h:p.length≠0):Z9 p≠0:=by
  have:=Pu tp h
  unfold Z9; split <;> omega
theorem C7 {p:List Int}:∀ z∈p,Z9 p∣z:=fun z hz=>by
  unfold Z9; split
  · exact Int.neg_dvd.2 (Fc z hz)
  · exact Fc z hz
theorem Qxw {p:List Int} (h:Bd 4294967295 p):Ql (Z9 p)≤4294967295:=by
  unfold Z9; split
  · rw [Xc]; exact Mk h
  · exact Mk h
theorem Od {s:Nat} {p:List Int} (h:Bd s p) (c:Int):Bd s (Wi p c):=Jp (La h c)
theorem Qdl (p:List Int) (c:Int):(Wi p c).length≤p.length:=Nat.le_trans (Xm _) (by simp)
theorem Tu (p:List Int) (c:Int):Qi (Wi p c):=Xw _
theorem Qyq {p:List Int} (h:Pb p) (c:Int):Pb (Wi p c):=⟨Tu _ _,Nat.le_trans (Qdl _ _) h.l,Od h.b c⟩
theorem Ej:Pb []:=⟨rfl,by simp,Sp⟩
theorem X2 {p:List Int} (h:Pb p):Pb (Qo p):=by
  unfold Qo; split
  · exact Ej
  · exact Qyq h _
theorem Pb.bd {p:List Int} (h:Pb p):Bd 4294967295 p:=Qc h.b (by omega)
theorem Pb.ln {p:List Int} (h:Pb p):p.length<274877906944:=Nat.lt_of_le_of_lt h.l (by omega)
theorem Pb.ln' {p:List Int} (h:Pb p):p.length<8589934592:=Nat.lt_of_le_of_lt h.l (by omega)
theorem Ta {p q:List Int} (tp:Qi p) (h:chk p=some q):q=p∧Pb p:=by
  unfold chk at h
  split at h
  · rename_i hc
    injection h with h
    refine ⟨h.symm,tp,hc.1,fun z hz=>?_⟩
    have:=List.all_eq_true.1 hc.2 z hz
    exact Nat.le_of_ble_eq_true this
  · cases h
theorem Qok {p:List Int} {g:Int} (hl:p.length<274877906944) (hp:Bd 4294967295 p) (hg:Ql g≤4294967295) (h0:g≠0) (hd:∀ z∈p,g∣z):Qd Tryz.prog 296 [pr p,.agg (Zt g)] [pr (Wi p g)]:=by
  refine Z7 Tryz.func296 rfl ?_
  refine go tt [.r 9 (eI (b:=(p.length:Int)) (by simp)),.i p.length,.i p.length,.r 12 (eI (b:=(p.length:Int)) (by simp))] rfl (by simp [Qa]; omega) ?_
  rw [Ft fun k=>Zt (p.getD k 0 / g)]
  refine lp (S:=Nat) 2 (fun L1 k=>(13,.v (.one (.int .i64 (k:Int))))::L1) (fun k=>[.blk 29 (Zt g),.row false 29 2 (fil (fun k=>Zt (p.getD k 0 / g)) [.bool false,.nils] p.length k)]) (fun k=>p.length-k) (fun k=>k≤p.length) 0 (Nat.zero_le _) rfl (fun _ _=>rfl) rfl fun k hk=>?_
  by_cases hlt:k<p.length
  · have hg2:=Xt hlt
    refine go tt [.t (by simp; omega),.x (Yc hg2),.c [] (Gl (Qe _) (Qe _) (Qr hp k) hg h0 (Int.emod_eq_zero_of_dvd (hd _ (List.mem_of_getElem? hg2)))),.i k] rfl (by simp [Qa,Gx]; omega) ?_
    have e:=Tj (fun k=>Zt (p.getD k 0 / g)) [.bool false,.nils] hlt
    rw [e]
    exact rd (k+1) (by omega) hlt rfl
  · obtain rfl:k=p.length:=by omega
    have e:fil (fun k=>Zt (p.getD k 0 / g)) [.bool false,.nils] p.length p.length=(p.map (· / g)).map Zt:=by
      rw [Ti]
      refine List.ext_getElem? fun i=>?_
      by_cases hi:i<p.length
      · simp [List.getElem?_range hi,List.getD,List.getElem?_eq_getElem hi]
      · simp [List.getElem?_eq_none,hi]
    rw [e]
    exact en tt [.f (by simp),.c [] (Ux (Zp (p.map (· / g))) (by simp; exact hl) (La hp g))] rfl rfl trivial
theorem Ld {p:List Int} (hl:p.length<8589934592) (hp:Bd 4294967295 p):Qd Tryz.prog 297 [.one (.row [[pl p]])] [.agg (Zt (J8 p))]:=by
  refine Z7 Tryz.func297 rfl ?_
  refine go tt [.o 3 29 2] rfl trivial ?_
  refine lp (S:=Nat) 2 (fun L1 i=>(8,.v (.one (.int .i64 (i:Int))))::(3,.v (.one (.orow 1 2 none)))::L1) (fun i=>[.blk 29 [.bool false,.nils],.row false 29 2 (if i=0 then [] else p.map Zt)]) (fun i=>1-i) (fun i=>i≤1) 0 (Nat.zero_le _) rfl (fun _ _=>rfl) rfl fun i hi=>?_
  rcases (show i=0∨i=1 by omega) with rfl | rfl
  · refine go tt [.t rfl,.x (i:=0) (xs:=[pl p]) rfl,.s (Qbd p)] rfl (by simp [Qa]; omega) ?_
    exact rd 1 (by omega) (by omega) rfl
  · exact en tt [.f rfl,.c [] (Qup (Zp p) hp)] rfl rfl trivial
theorem Qvr {p:List Int} (tp:Qi p) (hl':p.length<8589934592) (hp:Bd 4294967295 p):Qd Tryz.prog 271 [pr p] [.agg (Zt (if p.length=0 then 0 else Z9 p)),pr (Qo p)]:=by
  have hl:p.length<274877906944:=by omega
  have cn:=X1 tp hl hp
  by_cases h0:p.length=0
  · have e:p=[]:=List.eq_nil_of_length_eq_zero h0
    subst e
    exact w tt Tryz.func271 rfl [.c [] cn,.t rfl] rfl (by simp [Fz,Qo]; rfl) trivial
  · have hpf:Qo p=Wi p (Z9 p):=by unfold Qo; rw [if_neg h0]
    rw [if_neg h0,hpf]
    have co:=Qok hl hp (Qxw hp) (Qqn tp h0) C7
    by_cases hneg:Qt p<0
    · have e:Z9 p=-J8 p:=by unfold Z9; rw [if_pos hneg]
      rw [e] at co ⊢
      exact w tt Tryz.func271 rfl [.c [] cn,.f (by simpa using h0),.c [] (Ld hl' hp),.c [] (Wy tp hl hp),.t (by simpa [Qt] using hneg),.c [] (Oj (Qe _) (Mk hp)),.c [] co] rfl rfl trivial
    · have e:Z9 p=J8 p:=by unfold Z9; rw [if_neg hneg]
      rw [e] at co ⊢
      exact w tt Tryz.func271 rfl [.c [] cn,.f (by simpa using h0),.c [] (Ld hl' hp),.c [] (Wy tp hl hp),.f (by simpa [Qt] using hneg),.c [] co] rfl rfl trivial
theorem Gp {p:List Int} (hp:Pb p):Qd Tryz.prog 264 [pr p] [pr (Qo p)] :=
  w tt Tryz.func264 rfl [.c [] (Qvr hp.t hp.ln' hp.bd)] rfl rfl trivial
theorem V8 (p:List Int):Qd Tryz.prog 158 [pr p] [.one (.int .i64 ((p.length:Int)-1))]:=by
  have h:Qd Tryz.prog 158 [pr p] [.one (.int .i64 (((p.map Zt).length:Int)-1))]:=Z7 Tryz.func158 rfl (ln 0 rfl rfl fun hl=>en tt [] rfl rfl (by simp [Qa] at hl ⊢; omega))
  rw [List.length_map] at h; exact h
theorem H4 (i:Nat) (x:Int):(mono i x).length=i+1:=by simp [mono]
theorem Ob {s i:Nat} {x:Int} (h:Ql x≤s):Bd s (mono i x):=fun z hz=>by
  simp only [mono,List.mem_append,List.mem_singleton] at hz
  rcases hz with hz | rfl
  · rw [(List.mem_replicate.1 hz).2,Vr]; exact Nat.zero_le _
  · exact h
def stq (c:Int) (i:Nat) (x:Int) (q:List Int):List Int:=M9 (Qx q c) (mono i x)
def str (b:List Int) (c:Int) (i:Nat) (x:Int) (r:List Int):List Int:=Vn (Qx r c) (Zi (trim (mono i x)) b)
theorem Q6z {u t i:Nat} {c x:Int} {q:List Int} (hq:Bd u q) (hc:Ql c≤t) (hx:Ql x≤u):Bd (u+t+8) (stq c i x q) :=
  Qc (A4 (Qz hq hc) (Ob hx)) (by omega)
theorem Q3l {c x:Int} {i:Nat} {q:List Int}:(stq c i x q).length≤max q.length (i+1):=by
  have h:=Cq (Qx q c) (mono i x)
  have h1:=Qu q c
  rw [H4] at h
  unfold stq; omega
theorem Qfs {i:Nat} {x:Int} {b:List Int}:(Zi (trim (mono i x)) b).length≤i+b.length:=by
  have h:=Ug (trim (mono i x)) b
  have h1:=Xm (mono i x)
  rw [H4] at h1; omega
theorem Qn7 {u t i:Nat} {x:Int} {b:List Int} (hb:Bd t b) (hx:Ql x≤u) (hi:i≤64):Bd (u+t+7) (Zi (trim (mono i x)) b) :=
  Gk (Jp (Ob hx)) hb (Nat.lt_of_le_of_lt (Xm _) (by rw [H4]; omega))
theorem Qk3 {u t i:Nat} {c x:Int} {b r:List Int} (hr:Bd u r) (hb:Bd t b) (hc:Ql c≤t) (hx:Ql x≤u) (hi:i≤64):Bd (u+t+8) (str b c i x r) :=
  Qc (Wx (Qz hr hc) (Qn7 hb hx hi)) (by omega)
theorem Qfu {c x:Int} {i:Nat} {b r:List Int}:(str b c i x r).length≤max r.length (i+b.length):=by
  have h:=Vs (Qx r c) (Zi (trim (mono i x)) b)
  have h1:=Qu r c
  have h2:=Qfs (i:=i) (x:=x) (b:=b)
  unfold str; omega
theorem Qi8 (i:Nat) (x:Int):((List.replicate (i+1) (0:Int)).map Zt).set i (Zt x)=(mono i x).map Zt:=by
  rw [Qmr,mono]
  congr 1
  refine List.ext_getElem? fun j=>?_
  simp only [List.getElem?_set,List.getElem?_append,List.getElem?_replicate,List.length_replicate]
  by_cases h:j=i
  · subst h; simp
  · rw [if_neg (by omega)]
    by_cases h2:j<i
    · simp [h2]; omega
    · rw [if_neg (by omega),if_neg h2]
      cases hj:j-i with
      | zero=>omega
      | succ m=>simp
theorem Qp9 (i:Nat) {x:Int} {y:List LV} (h:y.map Cz=Zt x):(((List.replicate (i+1) [LV.bool false,LV.nils]).set i y).map fun c=>c.map Cz)=(mono i x).map Zt:=by
  rw [List.map_set,Iy,h]; exact Qi8 i x
theorem Py {b:List Int} {c:Int} {i:Nat} {q r:List Int} {x:Int} (hx:x=if r.length=b.length+i then Qt r else 0):psd b c (i+1) (q,r)=psd b c i (stq c i x q,str b c i x r):=by
  subst hx; rfl
theorem Qu4 {a b:List Int} (ha:Pb a) (hb:Pb b) (h0:b.length≠0):Qd Tryz.prog 294 [pr a,pr b] [pr (psd b (Qt b) (a.length+1-b.length) ([],a)).1,pr (Yw a b),.one (.int .i64 ((a.length+1-b.length:Nat):Int)),.one (.int .i64 0)]:=by
  have hal:=ha.l
  have hbl:=hb.l
  have hlb:Ql (Qt b)≤16777216:=Vq hb.b
  obtain ⟨c,hc⟩:∃ c,c=Qt b:=⟨_,rfl⟩
  have cl:=Wy hb.t hb.ln hb.bd
  rw [show b.getD (b.length-1) 0=c from hc.symm] at cl
  obtain ⟨k,hk⟩:∃ k,k=a.length+1-b.length:=⟨_,rfl⟩
  unfold Yw
  rw [←hc,←hk]
  rw [←hc] at hlb
  refine Z7 Tryz.func294 rfl ?_
  refine go tt [.z 4,.c [] (X1 ha.t ha.ln ha.bd),.c [] (X1 hb.t hb.ln hb.bd),.f (by simpa using h0),.c [] cl,.c [] (V8 a),.c [] (V8 b),.r 27 (eI (b:=(k:Int)) (by omega))] rfl (by simp [Qa]; omega) ?_
  refine lp (S:=Nat×List Int×List Int) 1 (fun L1 s=>(4,.v (pr s.2.1))::(5,.v (pr s.2.2))::(9,.v (.one (.int .i64 ((s.1:Int)-1))))::L1) (fun _=>[.blk 29 (Zt c)]) (fun s=>s.1) (fun s=>s.1≤k∧Qi s.2.2∧s.2.1.length≤66∧s.2.2.length≤a.length∧Bd (16777216+(k-s.1)*16777224) s.2.1∧Bd (16777216+(k-s.1)*16777224) s.2.2∧psd b c s.1 s.2=psd b c k ([],a)) (k,[],a) ⟨Nat.le_refl _,ha.t,by simp,Nat.le_refl _,Sp,by simpa using ha.b,rfl⟩ rfl (fun _ _=>rfl) rfl fun ⟨i,q,r⟩ ⟨j1,j2,j3,j4,j5,j6,j7⟩=>?_
  dsimp only at j1 j2 j3 j4 j5 j6 j7 ⊢
  rw [←j7]
  cases i with
  | zero=>exact en tt [.f (by simp)] rfl rfl trivial
  |
   succ i =>
   obtain ⟨x,hx⟩:∃ x,x=if r.length=b.length+i then Qt r else 0:=⟨_,rfl⟩
   obtain ⟨u,hu⟩:∃ u,u=16777216+(k-(i+1))*16777224:=⟨_,rfl⟩
   rw [←hu] at j5 j6
   have hub:u≤1107296256:=by
     have:(k-(i+1))*16777224≤64*16777224:=Nat.mul_le_mul_right _ (by omega)
     omega
   have hxs:Ql x≤u:=by
     rw [hx]; split
     · exact Vq j6
     · rw [Vr]; exact Nat.zero_le _
   have cs:=Ua (p:=q) (c:=c) (by omega) (Qc j5 (by omega)) (by omega)
   have cs2:=Ua (p:=r) (c:=c) (by omega) (Qc j6 (by omega)) (by omega)
   have l1:=Qu q c
   have l2:=Qu r c
   have ca:=Quw (p:=Qx q c) (q:=mono i x) (by omega) (by rw [H4]; omega) (Qc (Qz j5 hlb) (by omega)) (Qc (Ob hxs) (by omega))
   have cm:=Qeu (p0:=mono i x) hb.t (by rw [H4]; omega) (by omega) (Ob hxs) hb.b (by omega)
   have l3:=Qfs (i:=i) (x:=x) (b:=b)
   have cb:=Om (p:=Qx r c) (q:=Zi (trim (mono i x)) b) (by omega) (by omega) (Qc (Qz j6 hlb) (by omega)) (Qc (Qn7 hb.b hxs (by omega)) (by omega))
   have hst:=Py (b:=b) (c:=c) (q:=q) hx
   have hI:i≤k∧Qi (str b c i x r)∧(stq c i x q).length≤66∧(str b c i x r).length≤a.length∧Bd (16777216+(k-i)*16777224) (stq c i x q)∧Bd (16777216+(k-i)*16777224) (str b c i x r):=by
     have l5:=Q3l (c:=c) (x:=x) (i:=i) (q:=q)
     have l6:=Qfu (c:=c) (x:=x) (i:=i) (b:=b) (r:=r)
     have hku:u+16777216+8=16777216+(k-i)*16777224:=by
       rw [hu,show k-i=(k-(i+1))+1 from by omega,Nat.add_mul]; omega
     refine ⟨by omega,Q9 _ _,by omega,by omega,?_,?_⟩
     · rw [←hku]; exact Q6z j5 hlb hxs
     · rw [←hku]; exact Qk3 j6 hb.b hlb hxs (by omega)
   rw [hst]
   by_cases h:r.length=b.length+i
   · refine go tt [.t (by simp <;> omega),.c [] (V8 r),.c [] (V8 b),.t (by simp; omega),.c [] (Wy j2 (by omega) (Qc j6 (by omega))),.r 44 (eI (b:=((i+1:Nat):Int)) (by omega)),.i (i+1),.i (i+1),.r 47 (eI (b:=(i:Int)) (by omega)),.i i] rfl (by simp [Qa]; omega) ?_
     refine nl 2 rfl rfl rfl ?_
     rw [Qp9 i (x:=x) (by rw [hx,if_pos h]; rfl)]
     refine go tt [.c [] cs,.c [] ca,.c [] cs2,.c [] cm,.c [] cb,.r 33 (eI (b:=(i:Int)-1) (by omega))] rfl (by simp [Qa]; omega) ?_
     exact rd (i,stq c i x q,str b c i x r) (by dsimp only; omega) ⟨hI.1,hI.2.1,hI.2.2.1,hI.2.2.2.1,hI.2.2.2.2.1,hI.2.2.2.2.2,rfl⟩ rfl
   · refine go tt [.t (by simp <;> omega),.c [] (V8 r),.c [] (V8 b),.f (by simp; omega),.r 44 (eI (b:=((i+1:Nat):Int)) (by omega)),.i (i+1),.i (i+1),.r 47 (eI (b:=(i:Int)) (by omega)),.i i] rfl (by simp [Qa]; omega) ?_
     refine nl 2 rfl rfl rfl ?_
     rw [Qp9 i (x:=x) (by rw [hx,if_neg h,Fz]; rfl)]
     refine go tt [.c [] cs,.c [] ca,.c [] cs2,.c [] cm,.c [] cb,.r 33 (eI (b:=(i:Int)-1) (by omega))] rfl (by simp [Qa]; omega) ?_
     exact rd (i,stq c i x q,str b c i x r) (by dsimp only; omega) ⟨hI.1,hI.2.1,hI.2.2.1,hI.2.2.2.1,hI.2.2.2.2.1,hI.2.2.2.2.2,rfl⟩ rfl
theorem Qy1 {b:List Int} {c:Int} (hb:Bd 16777216 b) (hc:Ql c≤16777216) {n:Nat}:∀ (i u:Nat) (q r:List Int),i≤64→i+b.length≤n+1→Qi r→r.length≤n→Bd u r→Qi (psd b c i (q,r)).2∧(psd b c i (q,r)).2.length≤n∧Bd (u+i*16777224) (psd b c i (q,r)).2
  | 0,u,q,r,_,_,h1,h2,h3=>⟨h1,h2,by simpa [psd] using h3⟩
  |
   i+1,u,q,r,hi,hn,h1,h2,h3=>by
   rw [Py rfl]
   have hx:Ql (if r.length=b.length+i then Qt r else 0)≤u:=by
     split
     · exact Vq h3
     · rw [Vr]; exact Nat.zero_le _
   have l6:=Qfu (c:=c) (x:=if r.length=b.length+i then Qt r else 0) (i:=i) (b:=b) (r:=r)
   have:=Qy1 hb hc (n:=n) i (u+16777216+8) (stq c i (if r.length=b.length+i then Qt r else 0) q) (str b c i (if r.length=b.length+i then Qt r else 0) r) (by omega) (by omega) (Q9 _ _) (by omega) (Qk3 h3 hb hc hx (by omega))
   exact ⟨this.1,this.2.1,Qc this.2.2 (by omega)⟩
theorem Qqr {a b:List Int} (ha:Pb a) (hb:Pb b) (h0:b.length≠0):Qi (Yw a b)∧(Yw a b).length≤a.length∧Bd 1107296256 (Yw a b):=by
  have hal:=ha.l
  by_cases h:b.length≤a.length+1
  · obtain ⟨h1,h2,h3⟩:=Qy1 hb.b (Vq hb.b) (n:=a.length) (a.length+1-b.length) 16777216 [] a (by omega) (by omega) ha.t (Nat.le_refl _) ha.b
    refine ⟨h1,h2,Qc h3 ?_⟩
    have:(a.length+1-b.length)*16777224≤64*16777224:=Nat.mul_le_mul_right _ (by omega)
    omega
  · have e:Yw a b=a:=by unfold Yw; rw [show a.length+1-b.length=0 from by omega]; rfl
    rw [e]
    exact ⟨ha.t,Nat.le_refl _,Qc ha.b (by omega)⟩
theorem De {a b r:List Int} {s n:Nat} (h1:Qi r) (h2:r.length≤n) (h3:Bd s r):Qi (Kf a b r)∧(Kf a b r).length≤n∧Bd s (Kf a b r):=by
  unfold Kf; split
  · exact ⟨Q9 _ _,Nat.le_trans (Ph r) h2,A6 h3⟩
  · exact ⟨h1,h2,h3⟩
theorem Qbf {r:List Int} {s n:Nat} (h2:r.length≤n) (h3:Bd s r):Qi (Ng r)∧(Ng r).length≤n∧Bd s (Ng r):=by
  unfold Ng; split
  · exact ⟨rfl,by simp,Sp⟩
  · exact ⟨Tu _ _,Nat.le_trans (Qdl _ _) h2,Od h3 _⟩
theorem C9 {a b:List Int} (ha:Pb a) (hb:Pb b) (h0:b.length≠0):Qi (X5 a b)∧(X5 a b).length≤a.length∧Bd 1107296256 (X5 a b):=by
  obtain ⟨h1,h2,h3⟩:=Qqr ha hb h0
  obtain ⟨h4,h5,h6⟩:=De (a:=a) (b:=b) h1 h2 h3
  exact Qbf h5 h6
theorem Qu7 {a b:List Int} (ha:Pb a) (hb:Pb b) (h0:b.length≠0):Qd Tryz.prog 265 [pr a,pr b] [pr (X5 a b),.one (.int .i64 0)]:=by
  obtain ⟨h1,h2,h3⟩:=Qqr ha hb h0
  obtain ⟨h4,h5,h6⟩:=De (a:=a) (b:=b) h1 h2 h3
  have hal:=ha.l
  have cp:=Qu4 ha hb h0
  have cl:=Wy hb.t hb.ln hb.bd
  have cn:=Quz (p:=Yw a b) (by omega) (Qc h3 (by omega))
  unfold X5
  obtain ⟨r,hr⟩:∃ r,r=Kf a b (Yw a b):=⟨_,rfl⟩
  have cc:=Ld (p:=r) (by rw [hr]; omega) (by rw [hr]; exact Qc h6 (by omega))
  rw [←hr] at h4 h5 h6 ⊢
  obtain ⟨k,hk⟩:∃ k,k=a.length+1-b.length:=⟨_,rfl⟩
  rw [←hk] at cp
  have em:((k:Int).tmod 2)=((k % 2:Nat):Int):=by rw [Int.tmod_eq_emod_of_nonneg (by omega)]; omega
  have key:Ng r=if r.length=0 then [] else Wi r (J8 r):=rfl
  by_cases hz:r.length=0
  · rw [key,if_pos hz]
    by_cases hodd:k % 2=1
    · by_cases hneg:Qt b<0
      · have e:r=Ve (Yw a b):=by rw [hr]; unfold Kf; rw [if_pos ⟨by rw [←hk]; exact hodd,hneg⟩]
        rw [e] at hz
        exact w tt Tryz.func265 rfl [.c [] cp,.f (by simp),.r 22 (eI em),.t (by simp; omega),.c [] cl,.t (by simpa [Qt] using hneg),.c [] cn,.t (by simpa using hz)] rfl rfl (by simp [Qa])
      · have e:r=Yw a b:=by rw [hr]; unfold Kf; rw [if_neg (fun h=>hneg h.2)]
        rw [e] at hz
        exact w tt Tryz.func265 rfl [.c [] cp,.f (by simp),.r 22 (eI em),.t (by simp; omega),.c [] cl,.f (by simpa [Qt] using hneg),.t (by simpa using hz)] rfl rfl (by simp [Qa])
    · have e:r=Yw a b:=by rw [hr]; unfold Kf; rw [if_neg (fun h=>hodd (by rw [hk]; exact h.1))]
      rw [e] at hz
      exact w tt Tryz.func265 rfl [.c [] cp,.f (by simp),.r 22 (eI em),.f (by simp; omega),.f rfl,.t (by simpa using hz)] rfl rfl (by simp [Qa])
  · rw [key,if_neg hz]
    have cd:=Qok (p:=r) (g:=J8 r) (by omega) (Qc h6 (by omega)) (Mk (Qc h6 (by omega))) (Pu h4 hz) Fc
    by_cases hodd:k % 2=1
    · by_cases hneg:Qt b<0
      · have e:r=Ve (Yw a b):=by rw [hr]; unfold Kf; rw [if_pos ⟨by rw [←hk]; exact hodd,hneg⟩]
        rw [e] at hz cc cd ⊢
        exact w tt Tryz.func265 rfl [.c [] cp,.f (by simp),.r 22 (eI em),.t (by simp; omega),.c [] cl,.t (by simpa [Qt] using hneg),.c [] cn,.f (by simpa using hz),.c [] cc,.c [] cd] rfl rfl (by simp [Qa])
      · have e:r=Yw a b:=by rw [hr]; unfold Kf; rw [if_neg (fun h=>hneg h.2)]
        rw [e] at hz cc cd ⊢
        exact w tt Tryz.func265 rfl [.c [] cp,.f (by simp),.r 22 (eI em),.t (by simp; omega),.c [] cl,.f (by simpa [Qt] using hneg),.f (by simpa using hz),.c [] cc,.c [] cd] rfl rfl (by simp [Qa])
    · have e:r=Yw a b:=by rw [hr]; unfold Kf; rw [if_neg (fun h=>hodd (by rw [hk]; exact h.1))]
      rw [e] at hz cc cd ⊢
      exact w tt Tryz.func265 rfl [.c [] cp,.f (by simp),.r 22 (eI em),.f (by simp; omega),.f rfl,.f (by simpa using hz),.c [] cc,.c [] cd] rfl rfl (by simp [Qa])
end Orr

namespace Orr
open Go Go.Proofs
set_option maxRecDepth 10000
theorem Q3e {s:Nat} {x:Int} (h:Ql x≤s) (g:Int):Ql (x / g)≤s:=La (p:=[x]) (fun z hz=>by rw [List.mem_singleton.1 hz]; exact h) g _ (by simp)
def sta (b:List Int) (i:Nat) (x:Int) (a:List Int):List Int:=Vn a (Zi (trim (mono i x)) b)
theorem Q6y {u t i:Nat} {x:Int} {b a:List Int} (ha:Bd u a) (hb:Bd t b) (hx:Ql x≤u) (hi:i≤64):Bd (u+t+8) (sta b i x a) :=
  Qc (Wx ha (Qn7 hb hx hi)) (by omega)
theorem Qpz {x:Int} {i:Nat} {b a:List Int}:(sta b i x a).length≤max a.length (i+b.length):=by
  have h:=Vs a (Zi (trim (mono i x)) b)
  have h2:=Qfs (i:=i) (x:=x) (b:=b)
  unfold sta; omega
theorem Q1m (s n:Nat):Bd s (List.replicate n 0):=fun z hz=>by rw [(List.mem_replicate.1 hz).2,Vr]; exact Nat.zero_le _
theorem Q6x {s i:Nat} {l:List Int} {x:Int} (h:Bd s l) (hx:Ql x≤s):Bd s (l.set i x):=fun z hz=>by
  rcases List.mem_or_eq_of_mem_set hz with hz | rfl
  · exact h z hz
  · exact hx
theorem Qux {a b q:List Int} (ha:Pb a) (hb:Pb b) (h:Px a b=some q):Qd Tryz.prog 318 [pr a,pr b] [pr q,.one (.int .i64 0)]:=by
  unfold Px at h
  split at h
  · cases h
  rename_i h0
  obtain ⟨k,hk⟩:∃ k,k=a.length+1-b.length:=⟨_,rfl⟩
  rw [←hk] at h
  obtain ⟨q',hq,hq2⟩:=Option.bind_eq_some_iff.1 h
  obtain ⟨rfl,hpb⟩:=Ta (Xw _) hq2
  have hal:=ha.l
  have hbl:=hb.l
  refine Z7 Tryz.func318 rfl ?_
  refine go tt [.c [] (X1 ha.t ha.ln ha.bd),.c [] (X1 hb.t hb.ln hb.bd),.f (by simpa using h0),.r 24 (eI (b:=(k:Int)) (by simp; omega)),.i k,.i k,.r 27 (eI (b:=(k:Int)) (by simp))] rfl (by simp [Qa]; omega) ?_
  refine nl 0 rfl rfl rfl ?_
  rw [Iy]
  refine lp (S:=Nat×List Int×List Int) 1 (fun L1 s=>(0,.v (pr s.2.1))::(7,.v (.one (.int .i64 ((s.1:Int)-1))))::L1) (fun s=>[.row false 29 2 (s.2.2.map Zt)]) (fun s=>s.1) (fun s=>s.1≤k∧Qi s.2.1∧s.2.1.length≤a.length∧Bd (16777216+(k-s.1)*16777224) s.2.1∧s.2.2.length=k∧Bd 1107296256 s.2.2∧Qf7 b s.1 s.2.1 s.2.2=some q') (k,a,List.replicate k 0) ⟨Nat.le_refl _,ha.t,Nat.le_refl _,by simpa using ha.b,by simp,Q1m _ _,hq⟩ rfl (fun _ _=>rfl) rfl fun ⟨i,A,Q⟩ ⟨j1,j2,j3,j4,j5,j7,j6⟩=>?_
  dsimp only at j1 j2 j3 j4 j5 j6 j7 ⊢
  cases i with
  |
   zero =>
   simp only [Qf7] at j6
   split at j6
   · rename_i hA
     injection j6 with j6; subst j6
     exact en tt [.f (by simp),.f (by simpa using hA),.c [] (Ux (Zp Q) (by omega) (Qc j7 (by omega)))] rfl rfl trivial
   · cases j6
  |
   succ i =>
   obtain ⟨u,hu⟩:∃ u,u=16777216+(k-(i+1))*16777224:=⟨_,rfl⟩
   rw [←hu] at j4
   have hub:u≤1107296256:=by
     have:(k-(i+1))*16777224≤64*16777224:=Nat.mul_le_mul_right _ (by omega)
     omega
   have hku:u+16777216+8=16777216+(k-i)*16777224:=by
     rw [hu,show k-i=(k-(i+1))+1 from by omega,Nat.add_mul]; omega
   simp only [Qf7] at j6
   by_cases hlt:A.length<b.length+i
   · rw [if_pos hlt] at j6
     refine go tt [.t (by simp <;> omega),.c [] (V8 A),.c [] (V8 b),.t (by simp; omega),.r 32 (eI (b:=(i:Int)-1) (by omega))] rfl (by simp [Qa]; omega) ?_
     exact rd (i,A,Q) (by dsimp only; omega) ⟨by dsimp only; omega,j2,j3,Qc j4 (by dsimp only; omega),j5,j7,j6⟩ rfl
   · rw [if_neg hlt] at j6
     split at j6
     · rename_i hdv
       obtain ⟨x,hx⟩:∃ x,x=Qt A / Qt b:=⟨_,rfl⟩
       rw [←hx] at j6
       have hxs:Ql x≤u:=by rw [hx]; exact Q3e (Vq j4) _
       have ce:=Gl (Qe (Qt A)) (Qe (Qt b)) (Nat.le_trans (Vq j4) (by omega)) (Nat.le_trans (Vq hb.b) (by omega)) (U3 hb.t h0) hdv
       rw [←hx] at ce
       have cm:Qd Tryz.prog 213 [.one (.row ((mono i x).map Zt)),pr b] [pr (Zi (trim (mono i x)) b)]:=Qeu (p0:=mono i x) hb.t (by rw [H4]; omega) (by omega) (Ob hxs) hb.b (by omega)
       have l3:=Qfs (i:=i) (x:=x) (b:=b)
       have l4:=Qpz (i:=i) (x:=x) (b:=b) (a:=A)
       have cb:=Om (p:=A) (q:=Zi (trim (mono i x)) b) (by omega) (by omega) (Qc j4 (by omega)) (Qc (Qn7 hb.b hxs (by omega)) (by omega))
       refine go tt [.t (by simp <;> omega),.c [] (V8 A),.c [] (V8 b),.f (by simp; omega),.c [] (Wy j2 (by omega) (Qc j4 (by omega))),.c [] (Wy hb.t hb.ln hb.bd),.c [] ce,.f rfl,.r 51 (eI (b:=(i:Int)) (by omega)),.i i,.r 55 (eI (b:=((i+1:Nat):Int)) (by omega)),.i (i+1),.i (i+1),.r 58 (eI (b:=(i:Int)) (by omega))] rfl (by simp [Qa]; omega) ?_
       refine nl 2 rfl rfl rfl ?_
       rw [Iy,Qmr]
       rw [←Qi8 i x] at cm
       refine go tt [.i i,.c [] cm,.c [] cb,.r 32 (eI (b:=(i:Int)-1) (by omega))] rfl (by simp [Qa]; omega) ?_
       exact rd (i,sta b i x A,Q.set i x) (by dsimp only; omega) ⟨by dsimp only; omega,Q9 _ _,by dsimp only; omega,by dsimp only; rw [←hku]; exact Q6y j4 hb.b hxs (by omega),by simpa using j5,Q6x j7 (Nat.le_trans hxs hub),j6⟩ rfl
     · cases j6
theorem Qmp {a b q:List Int} (h:Px a b=some q):Pb q:=by
  unfold Px at h
  split at h
  · cases h
  · obtain ⟨q',_,hq2⟩:=Option.bind_eq_some_iff.1 h
    obtain ⟨rfl,hpb⟩:=Ta (Xw _) hq2
    exact hpb
theorem Qvw {a b q:List Int} (ha:Pb a) (hb:Pb b) (h:Px a b=some q):Qd Tryz.prog 298 [pr a,pr b] [pr q] :=
  w tt Tryz.func298 rfl [.c [] (Qux ha hb h)] rfl rfl trivial
theorem Qg2:∀ {k:Nat} {a b g:List Int},Pb a→Pb b→Et k a b=some g→Pb g
  | 0,_,_,_,_,_,h=>by cases h
  |
   k+1,a,b,g,ha,hb,h=>by
   simp only [Et] at h
   split at h
   · injection h with h; subst h; exact ha
   · rename_i h0
     obtain ⟨r,hr,h⟩:=Option.bind_eq_some_iff.1 h
     obtain ⟨rfl,hpb⟩:=Ta (C9 ha hb h0).1 hr
     exact Qg2 hb hpb h
theorem Qou {a b g:List Int} (ha:Pb a) (hb:Pb b) (h:Pz a b=some g):Qd Tryz.prog 225 [pr a,pr b] [pr g]:=by
  unfold Pz at h
  obtain ⟨g',h2,rfl⟩:=Option.map_eq_some_iff.1 h
  have hg:=Qg2 (X2 ha) (X2 hb) h2
  refine Z7 Tryz.func225 rfl ?_
  refine go tt [.c [] (Gp ha),.c [] (Gp hb)] rfl trivial ?_
  refine lp (S:=Nat×List Int×List Int) 0 (fun L1 s=>(0,.v (pr s.2.1))::(1,.v (pr s.2.2))::L1) (fun _=>[]) (fun s=>s.1) (fun s=>Pb s.2.1∧Pb s.2.2∧Et s.1 s.2.1 s.2.2=some g') (66,Qo a,Qo b) ⟨X2 ha,X2 hb,h2⟩ rfl (fun _ _=>rfl) rfl fun ⟨k,A,C⟩ ⟨j1,j2,j3⟩=>?_
  dsimp only at j1 j2 j3 ⊢
  cases k with
  | zero=>cases j3
  |
   succ k =>
   simp only [Et] at j3
   split at j3
   · rename_i h0
     injection j3 with j3; subst j3
     exact en tt [.f (by simpa using h0),.c [] (Gp j1)] rfl rfl trivial
   · rename_i h0
     obtain ⟨r,hr,j3⟩:=Option.bind_eq_some_iff.1 j3
     obtain ⟨rfl,hpb⟩:=Ta (C9 j1 j2 h0).1 hr
     refine go tt [.t (by simp; omega),.c [] (Qu7 j1 j2 h0)] rfl trivial ?_
     exact rd (k,C,X5 A C) (by dsimp only; omega) ⟨j2,hpb,j3⟩ rfl
theorem El {a b g:List Int} (ha:Pb a) (hb:Pb b) (h:Pz a b=some g):Pb g:=by
  unfold Pz at h
  obtain ⟨g',h2,rfl⟩:=Option.map_eq_some_iff.1 h
  exact X2 (Qg2 (X2 ha) (X2 hb) h2)
theorem Quy {a b g:List Int} (ha:Pb a) (hb:Pb b) (h:Qf9 a b=some g):Qd Tryz.prog 176 [.one (.row (Yq [a,b]))] [pr g]:=by
  unfold Qf9 at h
  obtain ⟨g1,h1,h2⟩:=Option.bind_eq_some_iff.1 h
  have hg1:=El Ej ha h1
  refine Z7 Tryz.func176 rfl ?_
  refine go tt [.z 3] rfl trivial ?_
  refine lp (S:=Nat) 0 (fun L1 i=>(8,.v (.one (.int .i64 (i:Int))))::(3,.v (pr (if i=0 then [] else if i=1 then g1 else g)))::L1) (fun _=>[]) (fun i=>2-i) (fun i=>i≤2) 0 (Nat.zero_le _) rfl (fun _ _=>rfl) rfl fun i hi=>?_
  rcases (show i=0∨i=1∨i=2 by omega) with rfl | rfl | rfl
  · refine go tt [.t rfl,.x (Ji (i:=0) (p:=a) rfl),.c [] (Qou Ej ha h1)] rfl (by simp [Qa]) ?_
    exact rd 1 (by omega) (by omega) rfl
  · refine go tt [.t rfl,.x (Ji (i:=1) (p:=b) rfl),.c [] (Qou hg1 hb h2)] rfl (by simp [Qa]) ?_
    exact rd 2 (by omega) (by omega) rfl
  · exact en tt [.f rfl] rfl rfl trivial
theorem Qyn {a b g:List Int} (ha:Pb a) (hb:Pb b) (h:Qf9 a b=some g):Pb g:=by
  unfold Qf9 at h
  obtain ⟨g1,h1,h2⟩:=Option.bind_eq_some_iff.1 h
  exact El (El Ej ha h1) hb h2
theorem Qbb {p d:List Int} (h:chk (Zo p)=some d):d=Zo p∧Pb (Zo p):=Ta (Q9 _ _) h
theorem Oo {a g:List Int} (ha:Pb a) (h:Vf a=some g):Qd Tryz.prog 270 [pr a] [pr g]:=by
  have hp:=X2 ha
  unfold Vf at h
  split at h
  · rename_i h0
    injection h with h; subst h
    exact w tt Tryz.func270 rfl [.c [] (Gp ha),.c [] (V8 _),.t (by simp; omega)] rfl rfl trivial
  · rename_i h0
    obtain ⟨d,h1,h⟩:=Option.bind_eq_some_iff.1 h
    obtain ⟨rfl,hd⟩:=Qbb h1
    obtain ⟨g1,h1,h⟩:=Option.bind_eq_some_iff.1 h
    exact w tt Tryz.func270 rfl [.c [] (Gp ha),.c [] (V8 _),.f (by simp; omega),.c [] (Hp hp.ln hp.bd),.c [] (Qou hp hd h1),.c [] (Qvw hp (El hp hd h1) h)] rfl rfl trivial
theorem Ek {a g:List Int} (ha:Pb a) (h:Vf a=some g):Pb g:=by
  unfold Vf at h
  split at h
  · injection h with h; subst h; exact X2 ha
  · obtain ⟨d,h1,h⟩:=Option.bind_eq_some_iff.1 h
    obtain ⟨g1,h1,h⟩:=Option.bind_eq_some_iff.1 h
    exact Qmp h
theorem Qyo {p:List Int} (h:Pb p):Pb (Ve p):=⟨Q9 _ _,Nat.le_trans (Ph p) h.l,A6 h.b⟩
theorem Qlt:∀ {k:Nat} {a b:List Int} {l:List (List Int)},Pb a→Pb b→chF k a b=some l→l.length≤k∧∀ p∈l,Pb p
  | 0,_,_,_,_,_,h=>by cases h
  |
   k+1,a,b,l,ha,hb,h=>by
   simp only [chF] at h
   split at h
   · injection h with h; subst h; exact ⟨by simp,fun p hp=>by cases hp⟩
   · rename_i h0
     obtain ⟨r,hr,h⟩:=Option.bind_eq_some_iff.1 h
     obtain ⟨rfl,hpb⟩:=Ta (C9 ha hb h0).1 hr
     obtain ⟨l',h1,h⟩:=Option.bind_eq_some_iff.1 h
     injection h with h; subst h
     obtain ⟨i1,i2⟩:=Qlt hb (Qyo hpb) h1
     refine ⟨by simp; exact i1,fun p hp=>?_⟩
     rcases List.mem_cons.1 hp with rfl | hp
     · exact hb
     · exact i2 p hp
theorem chain_ok {p:List Int} {l:List (List Int)} (hp:Pb p) (h:Hr p=some l):l.length≤67∧∀ q∈l,Pb q:=by
  unfold Hr at h
  obtain ⟨a,h1,h⟩:=Option.bind_eq_some_iff.1 h
  have ha:=Ek hp h1
  split at h
  · cases h
  · obtain ⟨d,h2,h⟩:=Option.bind_eq_some_iff.1 h
    obtain ⟨rfl,hd⟩:=Qbb h2
    obtain ⟨l',h3,h⟩:=Option.bind_eq_some_iff.1 h
    injection h with h; subst h
    obtain ⟨i1,i2⟩:=Qlt ha (X2 hd) h3
    refine ⟨by simp; omega,fun p hp=>?_⟩
    rcases List.mem_cons.1 hp with rfl | hp
    · exact ha
    · exact i2 p hp
theorem Qbe (l:List (List Int)) (p:List Int):Yq l++[[pl p]]=Yq (l++[p]):=by simp [Yq]
theorem Fe (l:List (List Int)):(Yq l).length=l.length:=by simp [Yq]
theorem Qu9 {p:List Int} {l:List (List Int)} (hp:Pb p) (h:Hr p=some l):Qd Tryz.prog 230 [pr p] [.one (.sh [.row (Yq l)]),.one (.int .i64 0)]:=by
  unfold Hr at h
  obtain ⟨a,h1,h⟩:=Option.bind_eq_some_iff.1 h
  have ha:=Ek hp h1
  split at h
  · cases h
  rename_i h0
  obtain ⟨d,h2,h⟩:=Option.bind_eq_some_iff.1 h
  obtain ⟨rfl,hd⟩:=Qbb h2
  obtain ⟨l',h3,h⟩:=Option.bind_eq_some_iff.1 h
  injection h with h; subst h
  refine Z7 Tryz.func230 rfl ?_
  refine go tt [.c [] (Oo hp h1),.f (by simpa using h0),.lo,.c [] (Hp ha.ln ha.bd),.c [] (Qvr hd.t hd.ln' hd.bd)] rfl (by simp [Qa]) ?_
  obtain ⟨z,hz⟩:∃ z,z=if (Zo a).length=0 then 0 else Z9 (Zo a):=⟨_,rfl⟩
  rw [←hz]
  refine sb [(4,.v (pr a)),(7,.v (pr (Qo (Zo a)))),(5,.v (.one (.ow 1 0)))] [.row false 26 1 [[pl a]],.blk 299 [.orow 0 1 none],.blk 29 (Zt z)] rfl rfl ?_
  have hll:=(Qlt ha (X2 hd) h3).1
  refine lp (S:=Nat×List (List Int)×List Int×List Int) 3 (fun L1 s=>(4,.v (pr s.2.2.1))::(7,.v (pr s.2.2.2))::L1) (fun s=>[.row false 26 1 (Yq s.2.1),.blk 299 [.orow 0 1 none],.blk 29 (Zt z)]) (fun s=>s.1) (fun s=>Pb s.2.2.1∧Pb s.2.2.2∧∃ m,chF s.1 s.2.2.1 s.2.2.2=some m∧s.2.1++m=a::l') (66,[a],a,Qo (Zo a)) ⟨ha,X2 hd,l',h3,rfl⟩ rfl (fun _ _=>rfl) rfl fun ⟨k,out,A,C⟩ ⟨j1,j2,m,j3,j4⟩=>?_
  dsimp only at j1 j2 j3 j4 ⊢
  have hol:out.length≤67:=by have:=congrArg List.length j4; simp at this; omega
  cases k with
  | zero=>cases j3
  |
   succ k =>
   simp only [chF] at j3
   split at j3
   · rename_i h0
     injection j3 with j3; subst j3
     rw [List.append_nil] at j4
     rw [←j4]
     exact en tt [.f (by simpa using h0)] rfl rfl trivial
   · rename_i h0
     obtain ⟨r,hr,j3⟩:=Option.bind_eq_some_iff.1 j3
     obtain ⟨rfl,hpb⟩:=Ta (C9 j1 j2 h0).1 hr
     obtain ⟨m',j6,j5⟩:=Option.bind_eq_some_iff.1 j3
     injection j5 with j5; subst j5
     refine go tt [.t (by simp; omega),.s (sz:=1) (fun c hc=>by rw [List.mem_singleton.1 hc]; rfl),.c [] (Qu7 j1 j2 h0),.c [] (Quz hpb.ln hpb.bd)] rfl (by simp [Qa,Fe]; omega) ?_
     exact rd (k,out++[C],C,Ve (X5 A C)) (by dsimp only; omega) ⟨j2,Qyo hpb,m',j6,by rw [←j4]; simp⟩ (by rw [Qbe]; rfl)
end Orr
