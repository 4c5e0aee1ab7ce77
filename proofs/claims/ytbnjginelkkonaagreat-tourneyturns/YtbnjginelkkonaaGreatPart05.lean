/- PolyL RatL R2 R4 RefPL CrvL CrowdL PredL CertL Y1 Y2 Q1 C1 C2 D1 E1 AlgL F1 F2 -/
import Derived.Test.YtbnjginelkkonaaGreatPart04
set_option linter.all false

namespace Orr
def Bd (s:Nat) (p:List Int):Prop:=∀ z∈p,Qn z≤s
theorem Vo:Qn 0=0:=rfl
theorem Qtl {s:Nat} {p:List Int} (h:Bd s p) {i:Nat} {z:Int} (hz:p[i]? = some z):Qn z≤s:=h z (List.mem_of_getElem? hz)
theorem Qq {s:Nat} {p:List Int} (h:Bd s p) (k:Nat):Qn (p.getD k 0)≤s:=by
  rw [List.getD_eq_getElem?_getD]
  cases hk:p[k]? with
  | none=>rw [Option.getD_none,Vo]; exact Nat.zero_le _
  | some z=>exact Qtl h hk
theorem Qd {s t:Nat} {p:List Int} (h:Bd s p) (ht:s≤t):Bd t p:=fun z hz=>Nat.le_trans (h z hz) ht
theorem Sb {s:Nat}:Bd s []:=fun z hz=>by cases hz
theorem Q56 {s:Nat} {n:Nat} {g:Nat→Int} (h:∀ k,k<n→Qn (g k)≤s):Bd s ((List.range n).map g):=fun z hz=>by
  obtain ⟨k,hk,rfl⟩:=List.mem_map.1 hz
  exact h k (List.mem_range.1 hk)
theorem Qjv:∀ (l:List Int),∀ z∈trim l,z∈l
  | [],z,h=>by cases h
  |
   x::l,z,h=>by
   have ih:=Qjv l
   cases hl:trim l with
   |
    nil =>
    simp only [trim,hl] at h
    split at h
    · cases h
    · rw [List.mem_singleton] at h; rw [h]; exact List.mem_cons_self ..
   |
    cons y k =>
    simp only [trim,hl] at h
    rcases List.mem_cons.1 h with rfl | h
    · exact List.mem_cons_self ..
    · exact List.mem_cons_of_mem _ (ih z (by rw [hl]; exact h))
theorem Xf (l:List Int):(trim l).length≤l.length:=by
  induction l with
  | nil=>exact Nat.le_refl _
  |
   cons x l ih =>
   cases hl:trim l with
   | nil=>simp only [trim,hl]; split <;> simp
   | cons y k=>simp only [trim,hl]; rw [hl] at ih; simp at ih ⊢; exact ih
theorem Jk {s:Nat} {p:List Int} (h:Bd s p):Bd s (trim p):=fun z hz=>h z (Qjv p z hz)
theorem U8:∀ (l:List Int) (k:Nat),(trim l).getD k 0=l.getD k 0
  | [],k=>rfl
  |
   x::l,k=>by
   have ih:=U8 l
   cases hl:trim l with
   |
    nil =>
    rw [hl] at ih
    simp only [trim,hl]
    split
    · rename_i hx
      cases k with
      | zero=>simp [hx]
      | succ k=>have:=ih k; simp at this ⊢; exact this
    · cases k with
      | zero=>simp
      | succ k=>have:=ih k; simp at this ⊢; exact this
   |
    cons y m =>
    rw [hl] at ih
    simp only [trim,hl]
    cases k with
    | zero=>simp
    | succ k=>have:=ih k; simp at this ⊢; exact this
def Vi (n:Nat) (g:Nat→Int):List Int:=trim ((List.range n).map g)
theorem Za (n:Nat) (g:Nat→Int):Qk (Vi n g):=Xt _
theorem Hn (n:Nat) (g:Nat→Int):(Vi n g).length≤n:=Nat.le_trans (Xf _) (by simp)
theorem Yg (n:Nat) (g:Nat→Int) (k:Nat):(Vi n g).getD k 0=if k<n then g k else 0:=by
  unfold Vi
  rw [U8,List.getD_eq_getElem?_getD,List.getElem?_map]
  split
  · rename_i h; rw [List.getElem?_range h]; rfl
  · rename_i h; rw [List.getElem?_eq_none (by simpa using h)]; rfl
theorem Mb {s n:Nat} {g:Nat→Int} (h:∀ k,k<n→Qn (g k)≤s):Bd s (Vi n g):=Jk (Q56 h)
def C3 (p q:List Int):List Int:=Vi (max p.length q.length) fun k=>p.getD k 0+q.getD k 0
def Vz (p q:List Int):List Int:=Vi (max p.length q.length) fun k=>p.getD k 0-q.getD k 0
def Y9 (p:List Int):List Int:=Vi p.length fun k=>-(p.getD k 0)
def Qx (p:List Int) (c:Int):List Int:=Vi p.length fun k=>p.getD k 0*c
def Zj (p:List Int):List Int:=Vi (p.length-1) fun k=>p.getD (k+1) 0*((k+1:Nat):Int)
theorem Q0t {s t:Nat} {p q:List Int} (h:Bd s p) (h':Bd t q):Bd (max s t+1) (C3 p q):=Mb fun k _=>Nat.le_trans (Mi _ _) (by have:=Qq h k; have:=Qq h' k; omega)
theorem Mc {s t:Nat} {p q:List Int} (h:Bd s p) (h':Bd t q):Bd (max s t+1) (Vz p q):=Mb fun k _=>Nat.le_trans (Qfg _ _) (by have:=Qq h k; have:=Qq h' k; omega)
theorem A8 {s:Nat} {p:List Int} (h:Bd s p):Bd s (Y9 p):=Mb fun k _=>by rw [Z8]; exact Qq h k
theorem Zn {s t:Nat} {p:List Int} {c:Int} (h:Bd s p) (hc:Qn c≤t):Bd (s+t) (Qx p c):=Mb fun k _=>Nat.le_trans (Q0 _ _) (by have:=Qq h k; omega)
theorem Qw7 (p q:List Int):(C3 p q).length≤max p.length q.length:=Hn _ _
theorem Hu (p q:List Int):(Vz p q).length≤max p.length q.length:=Hn _ _
theorem S9 (p:List Int):(Y9 p).length≤p.length:=Hn _ _
theorem Q8 (p:List Int) (c:Int):(Qx p c).length≤p.length:=Hn _ _
theorem Yu (p:List Int):(Zj p).length≤p.length-1:=Hn _ _
theorem Qff {k t:Nat} (h:k<2^t):Qn (k:Int)≤t:=by rw [J0]; simpa using h
theorem Qr5 {k:Nat} (h:k<274877906944):Qn (k:Int)≤4294967295:=Nat.le_trans (Qff (t:=38) (Nat.lt_of_lt_of_eq h (by decide))) (by omega)
theorem A7 {s t:Nat} {p:List Int} (h:Bd s p) (hl:p.length≤2^t):Bd (s+t) (Zj p):=Mb fun k hk=>Nat.le_trans (Q0 _ _) (by
  have:=Qq h (k+1)
  have:=Qff (k:=k+1) (t:=t) (by omega)
  omega)
def Hx (x:Int) (b:List Int) (i:Nat) (o:List Int):Nat→List Int
  | 0=>o
  | k+1=>(Hx x b i o k).set (i+k) ((Hx x b i o k).getD (i+k) 0+x*b.getD k 0)
def Kn (a b o:List Int):Nat→List Int
  | 0=>o
  | i+1=>Hx (a.getD i 0) b i (Kn a b o i) b.length
def Zt (a b:List Int):List Int:=if a.length=0∨b.length=0 then [] else trim (Kn a b (List.replicate (a.length+b.length-1) 0) a.length)
theorem Hy (x:Int) (b:List Int) (i:Nat) (o:List Int) (k:Nat):(Hx x b i o k).length=o.length:=by
  induction k with
  | zero=>rfl
  | succ k ih=>simp [Hx,ih]
theorem Ko (a b o:List Int) (i:Nat):(Kn a b o i).length=o.length:=by
  induction i with
  | zero=>rfl
  | succ i ih=>simp [Kn,Hy,ih]
theorem Qwt (l:List Int) (i m:Nat) (v:Int) (h:i<l.length):(l.set i v).getD m 0=if m=i then v else l.getD m 0:=by
  rw [List.getD_eq_getElem?_getD,List.getElem?_set,List.getD_eq_getElem?_getD]
  by_cases e:i=m
  · subst e; simp [h]
  · rw [if_neg e,if_neg (fun h=>e h.symm)]
theorem Eh (x:Int) (b:List Int) (i:Nat) (o:List Int) (k m:Nat) (h:i+k≤o.length):(Hx x b i o k).getD m 0=if i≤m∧m<i+k then o.getD m 0+x*b.getD (m-i) 0 else o.getD m 0:=by
  induction k with
  | zero=>simp only [Hx]; rw [if_neg (by omega)]
  |
   succ k ih =>
   have ih:=ih (by omega)
   simp only [Hx]
   rw [Qwt _ _ _ _ (by rw [Hy]; omega)]
   by_cases e:m=i+k
   · subst e
     rw [if_pos rfl,if_pos (by omega),show i+k-i=k from by omega]
     rw [ih,if_neg (by omega)]
   · rw [if_neg e,ih]
     by_cases h1:i≤m∧m<i+k
     · rw [if_pos h1,if_pos (by omega)]
     · rw [if_neg h1,if_neg (by omega)]
theorem Vq {x y:Int} {s t:Nat} (hx:Qn x≤s) (hy:Qn y≤t):(x*y).natAbs≤2^(s+t):=by
  have h:=Nat.le_trans (Q0 x y) (show _≤s+t by omega)
  rw [J0] at h; omega
theorem Qfo {x:Int} {b:List Int} {i:Nat} {o:List Int} {k M:Nat} (h:i+k≤o.length) (ho:∀ m,(o.getD m 0).natAbs≤i*M) (hx:∀ j,(x*b.getD j 0).natAbs≤M) (m:Nat):((Hx x b i o k).getD m 0).natAbs≤(i+1)*M:=by
  rw [Eh x b i o k m h,Nat.succ_mul]
  have h1:=ho m
  split
  · have h2:=hx (m-i)
    generalize i*M=q at *
    omega
  · omega
theorem Qfn {a b o:List Int} {i M:Nat} (h:∀ j,j<i→j+b.length≤o.length) (ho:∀ m,o.getD m 0=0) (hx:∀ i j,(a.getD i 0*b.getD j 0).natAbs≤M) (m:Nat):((Kn a b o i).getD m 0).natAbs≤i*M:=by
  induction i generalizing m with
  | zero=>simp only [Kn]; rw [ho]; simp
  |
   succ i ih =>
   simp only [Kn]
   exact Qfo (by rw [Ko]; exact h i (by omega)) (ih fun j hj=>h j (by omega)) (hx i) m
theorem Gz {z:Int} {i s t:Nat} (h:z.natAbs≤i*2^s) (hi:i<2^t):Qn z≤s+t:=by
  rw [J0]
  have h1:i*2^s<2^t*2^s:=Nat.mul_lt_mul_of_pos_right hi (Nat.pow_pos (by decide))
  rw [←Nat.pow_add,Nat.add_comm t s] at h1
  omega
theorem Jz (n m:Nat):(List.replicate n (0:Int)).getD m 0=0:=by
  rw [List.getD_eq_getElem?_getD,List.getElem?_replicate]; split <;> rfl
theorem Oa {s:Nat} {p:List Int} (h:∀ m,Qn (p.getD m 0)≤s):Bd s p:=fun z hz=>by
  obtain ⟨i,hi⟩:=List.mem_iff_getElem?.1 hz
  have:=h i
  rw [List.getD_eq_getElem?_getD,hi] at this
  exact this
theorem Qw8 (a b:List Int):(Zt a b).length≤a.length+b.length-1:=by
  unfold Zt
  split
  · simp
  · refine Nat.le_trans (Xf _) ?_
    rw [Ko]; simp
theorem Q0u {s t u:Nat} {a b:List Int} (ha:Bd s a) (hb:Bd t b) (hl:a.length<2^u):Bd (s+t+u) (Zt a b):=by
  unfold Zt
  split
  · exact Sb
  · refine Jk (Oa fun m=>?_)
    exact Gz (Qfn (M:=2^(s+t)) (fun j hj=>by simp; omega) (Jz _) (fun i j=>Vq (Qq ha i) (Qq hb j)) m) hl
theorem Z2 (a b:List Int):Qk (Zt a b):=by
  unfold Zt
  split
  · rfl
  · exact Xt _
def Vf (a:List Int) (n d:Int):Nat→Int×Int
  | 0=>(0,1)
  | k+1=>((Vf a n d k).1*n+a.getD (a.length-1-k) 0*(Vf a n d k).2,(Vf a n d k).2*d)
def Q3l (a:List Int) (n d:Int):Int:=(Vf a n d a.length).1
theorem Qgs {a:List Int} {n d:Int} {s t k:Nat} (ha:Bd s a) (hn:Qn n≤t) (hd:Qn d≤t):Qn (Vf a n d k).1≤s+2+k*(t+1)∧Qn (Vf a n d k).2≤1+k*t:=by
  induction k with
  | zero=>exact ⟨by simp [Vf,Vo],by simp [Vf]; decide⟩
  |
   succ k ih =>
   obtain ⟨h1,h2⟩:=ih
   have h3:=Qq ha (a.length-1-k)
   have e1:k*(t+1)=k*t+k:=by rw [Nat.mul_add,Nat.mul_one]
   rw [Nat.succ_mul,Nat.succ_mul]
   refine ⟨?_,?_⟩
   · simp only [Vf]
     refine Nat.le_trans (Mi _ _) ?_
     have h4:=Q0 (Vf a n d k).1 n
     have h5:=Q0 (a.getD (a.length-1-k) 0) (Vf a n d k).2
     generalize k*t=q at *
     rw [e1] at h1 ⊢
     omega
   · simp only [Vf]
     have h4:=Q0 (Vf a n d k).2 d
     generalize k*t=q at *
     omega
end Orr
namespace Orr
theorem getD_some {l:List Int} {i:Nat} (h:i<l.length):l[i]? = some (l.getD i 0):=by
  rw [List.getD_eq_getElem?_getD,List.getElem?_eq_getElem h]; rfl
theorem Qof {x y:Int}:Kd x y=0↔x=y:=by
  unfold Kd
  constructor
  · intro h
    split at h
    · omega
    · split at h <;> omega
  · rintro rfl; simp
theorem Xc {p:List Int} (h:Qk p) (h0:0<p.length):p.getD (p.length-1) 0≠0:=by
  induction p with
  | nil=>simp at h0
  |
   cons x l ih =>
   unfold Qk at h
   cases hl:trim l with
   |
    nil =>
    simp only [trim,hl] at h
    split at h
    · cases h
    · rename_i hx
      injection h with h1 h2
      subst h2
      simpa using hx
   |
    cons y k =>
    simp only [trim,hl] at h
    injection h with h1 h2
    rw [←hl] at h2
    have ih:=ih h2 (by rw [←h2,hl]; simp)
    have h3:0<l.length:=by rw [←h2,hl]; simp
    simp only [List.length_cons,Nat.add_sub_cancel]
    obtain ⟨m,hm⟩:∃ m,l.length=m+1:=⟨l.length-1,by omega⟩
    rw [hm] at ih ⊢
    simpa using ih
end Orr
namespace Orr
theorem Qa5 (p:List Int):(List.range p.length).map (fun k=>p.getD k 0)=p:=by
  apply List.ext_getElem?
  intro i
  rw [List.getElem?_map]
  rcases Nat.lt_or_ge i p.length with h | h
  · rw [List.getElem?_range h]
    simp [List.getElem?_eq_getElem h]
  · rw [List.getElem?_eq_none (by simpa using h),List.getElem?_eq_none h]; rfl
theorem Qac {p q:List Int} (hl:p.length=q.length) (h:∀ j,j<p.length→p.getD j 0=q.getD j 0):p=q:=by
  rw [←Qa5 p,←Qa5 q,←hl]
  exact List.map_congr_left fun j hj=>h j (List.mem_range.1 hj)
end Orr

namespace Orr
abbrev rl (q:Rat):List LV:=[sg q.num,mg q.num,sg (q.den:Int),mg (q.den:Int)]
theorem Ki (n d:Int):Z7 [n,d]=Int.gcd d n:=by
  unfold Z7
  simp only [List.foldl_cons,List.foldl_nil,Nat.gcd_zero_left]
  exact Nat.gcd_comm _ _
theorem Qh6 {n d:Int} (hd:d≠0):(0:Int)<((Z7 [n,d]:Nat):Int):=by
  rw [Ki]
  have:=Int.gcd_pos_of_ne_zero_left n hd
  omega
theorem Qam (n d:Int):n % ((Z7 [n,d]:Nat):Int)=0:=by
  rw [Ki]; exact Int.emod_eq_zero_of_dvd (Int.gcd_dvd_right ..)
theorem Qan (n d:Int):d % ((Z7 [n,d]:Nat):Int)=0:=by
  rw [Ki]; exact Int.emod_eq_zero_of_dvd (Int.gcd_dvd_left ..)
theorem Qpk {n g:Int} (h:n % g=0):-n % g=0:=by
  exact Int.emod_eq_zero_of_dvd (Int.dvd_neg.2 (Int.dvd_of_emod_eq_zero h))
theorem Qo0 {n d:Int} {s:Nat} (hd:d≠0) (h:Qn d≤s):Qn ((Z7 [n,d]:Nat):Int)≤s:=by
  rw [Ki]
  refine Nat.le_trans (X4 ?_) h
  have:=Nat.le_of_dvd (by omega:0<d.natAbs) (show Int.gcd d n∣d.natAbs from Nat.gcd_dvd_left _ _)
  simpa using this
theorem Qfl {n d:Int} (hd:0<d):n / ((Z7 [n,d]:Nat):Int)=(Rat.divInt n d).num∧d / ((Z7 [n,d]:Nat):Int)=((Rat.divInt n d).den:Int):=by
  rw [Ki,Rat.num_divInt,Rat.den_divInt,if_neg (by omega),Int.sign_eq_one_of_pos hd,Int.one_mul]
  refine ⟨rfl,?_⟩
  rw [Int.natCast_ediv,Int.natAbs_of_nonneg (by omega)]
theorem Q2v {n d:Int} (hd:d<0):-n / ((Z7 [n,d]:Nat):Int)=(Rat.divInt n d).num∧-d / ((Z7 [n,d]:Nat):Int)=((Rat.divInt n d).den:Int):=by
  rw [Ki,Rat.num_divInt,Rat.den_divInt,if_neg (by omega),Int.sign_eq_neg_one_of_neg hd,Int.neg_mul,Int.one_mul]
  refine ⟨rfl,?_⟩
  rw [Int.natCast_ediv,Int.ofNat_natAbs_of_nonpos (by omega)]
theorem S7 (u g:Int):Qn (u / g)≤Qn u:=by
  unfold Qn
  exact X4 (Int.natAbs_ediv_le_natAbs u g)
theorem Qax {n d:Int} {s:Nat} (h:Qn n≤s):Qn (Rat.divInt n d).num≤s:=by
  rw [Rat.num_divInt]
  refine Nat.le_trans (S7 _ _) ?_
  unfold Qn
  rw [Int.natAbs_mul]
  refine Nat.le_trans (X4 ?_) h
  have:d.sign.natAbs≤1:=by rcases Fx d with ⟨_,e⟩ | ⟨_,e⟩ | ⟨_,e⟩ <;> rw [e] <;> decide
  calc d.sign.natAbs*n.natAbs≤1*n.natAbs:=Nat.mul_le_mul_right _ this
    _=n.natAbs:=Nat.one_mul _
theorem Qaw {n d:Int} {s:Nat} (h:Qn d≤s) (h1:1≤s):Qn ((Rat.divInt n d).den:Int)≤s:=by
  rw [Rat.den_divInt]
  split
  · exact h1
  · refine Nat.le_trans (X4 ?_) h
    exact Nat.div_le_self _ _
def Qs (s:Nat) (q:Rat):Prop:=Qn q.num≤s∧Qn (q.den:Int)≤s
theorem Qs.mono {s t:Nat} {q:Rat} (h:Qs s q) (ht:s≤t):Qs t q:=⟨Nat.le_trans h.1 ht,Nat.le_trans h.2 ht⟩
theorem Qs.divInt {s:Nat} {n d:Int} (h:Qn n≤s) (h':Qn d≤s) (h1:1≤s):Qs s (Rat.divInt n d):=⟨Qax h,Qaw h' h1⟩
theorem We (q:Rat):(q.den:Int)≠0:=by have:=q.den_nz; omega
theorem den_pos (q:Rat):(0:Int)<(q.den:Int):=by have:=q.den_nz; omega
def Zy (n d:Int):Rat:=Rat.divInt n (if d=0 then 1 else d)
theorem Tk (q:Rat):Zy q.num q.den=q:=by
  unfold Zy
  rw [if_neg (We q)]; exact Rat.num_divInt_den q
def Zz (a b:Rat):Int:=Kd (a.num*(b.den:Int)) (b.num*(a.den:Int))
theorem Ws {a b:Rat}:Zz a b<0↔a<b:=by
  rw [Rat.lt_iff]; unfold Zz Kd
  constructor
  · intro h; split at h
    · assumption
    · split at h <;> omega
  · intro h; rw [if_pos h]; decide
theorem Wq {a b:Rat}:0<Zz a b↔b<a:=by
  rw [Rat.lt_iff]; unfold Zz Kd
  constructor
  · intro h; split at h
    · omega
    · split at h
      · assumption
      · omega
  · intro h; rw [if_neg (by omega),if_pos h]; decide
theorem Wd (a:Rat):Zz a a=0:=by unfold Zz Kd; simp
end Orr

namespace Orr
open Go Go.Proofs
set_option maxRecDepth 10000
abbrev fr (q:Rat):List LV:=ri q.num++ri (q.den:Int)
theorem Gh:Qz 1=[1]:=by rw [Rv (by decide)]; rw [Z3]
theorem Vm {n:Int}:Qc Tryz.prog 83 [.agg (ri n),.agg (ri 1)] [.agg (fr (n:Rat))]:=by
  have h0:(V4 (Qz (1:Int).natAbs))[0]? = some [LV.int .i64 1]:=by rw [show (1:Int).natAbs=1 from rfl,Gh]; rfl
  have h1:decide (((V4 (Qz (1:Int).natAbs)).length:Int)=1)=true:=by rw [show (1:Int).natAbs=1 from rfl,Gh]; rfl
  exact w tt Tryz.func83 rfl [.c [] (Vu (z:=1)),.f rfl,.f rfl,.g 19 true h1,.x h0,.t rfl] rfl rfl trivial
theorem Oh {n:Int} (hn:-4000000000000000000≤n∧n≤4000000000000000000):Qc Tryz.prog 22 [.one (.int .i64 n),.one (.int .i64 1)] [.agg (fr (n:Rat))] :=
  w tt Tryz.func22 rfl [.c [] (W3 hn),.c [] (W3 (n:=1) (by decide)),.c [] Vm] rfl rfl trivial
theorem Q43 {q:Rat} (hq:Qs 100000000 q):Qc Tryz.prog 21 [.agg (fr q)] [.agg (rl q)] :=
  w tt Tryz.func21 rfl [.c [] (Qq8 hq.1),.c [] (Qq8 hq.2)] rfl rfl trivial
end Orr

namespace Orr
open Go Go.Proofs
set_option maxRecDepth 10000
theorem Q34 {a b:Int} (h:(decide (a<0) == decide (b<0))=true):Qi (decide (a<0)) (a.natAbs+b.natAbs)=a+b:=by
  unfold Qi
  by_cases h1:a<0 <;> by_cases h2:b<0 <;> simp [h1,h2] at h ⊢ <;> omega
theorem Q37 {a b:Int} (h:¬(decide (a<0) == decide (b<0))=true) (hl:b.natAbs≤a.natAbs):Qi (decide (a<0)) (a.natAbs-b.natAbs)=a+b:=by
  unfold Qi
  by_cases h1:a<0 <;> by_cases h2:b<0 <;> simp [h1,h2] at h ⊢ <;> omega
theorem Qzd {a b:Int} (h:¬(decide (a<0) == decide (b<0))=true) (hl:¬b.natAbs≤a.natAbs):Qi (decide (b<0)) (b.natAbs-a.natAbs)=a+b:=by
  unfold Qi
  by_cases h1:a<0 <;> by_cases h2:b<0 <;> simp [h1,h2] at h ⊢ <;> omega
theorem Mt (a:Int):(∃ m:Nat,a=(m:Int))∨∃ m:Nat,a=-(m:Int)∧0<m:=by
  rcases Int.lt_or_le a 0 with h | h
  · exact .inr ⟨a.natAbs,by omega,by omega⟩
  · exact .inl ⟨a.natAbs,by omega⟩
theorem Q36 (a b:Int):Qi (!(decide (a<0) == decide (b<0))) (a.natAbs*b.natAbs)=a*b:=by
  rcases Mt a with ⟨m,rfl⟩ | ⟨m,rfl,hm⟩ <;> rcases Mt b with ⟨n,rfl⟩ | ⟨n,rfl,hn⟩
  · simp [Qi,show ¬((m:Int)<0) by omega,show ¬((n:Int)<0) by omega]
  · simp [Qi,show ¬((m:Int)<0) by omega,show (-(n:Int)<0) by omega,hn,Int.mul_neg]
  · simp [Qi,show (-(m:Int)<0) by omega,show ¬((n:Int)<0) by omega,hm,Int.neg_mul]
  · simp [Qi,show (-(m:Int)<0) by omega,show (-(n:Int)<0) by omega,hm,hn,Int.neg_mul_neg]
theorem Q35 {a b:Int} (h:a % b=0):Qi (!(decide (a<0) == decide (b<0))) (a.natAbs / b.natAbs)=a / b:=by
  by_cases hb:b=0
  · subst hb; simp [Qi]
  obtain ⟨c,rfl⟩:=Int.dvd_of_emod_eq_zero h
  rw [Int.mul_ediv_cancel_left _ hb,Int.natAbs_mul,Nat.mul_div_cancel_left _ (by omega)]
  rcases Mt b with ⟨n,rfl⟩ | ⟨n,rfl,hn⟩ <;> rcases Mt c with ⟨m,rfl⟩ | ⟨m,rfl,hm⟩
  · have:¬((n:Int)*(m:Int)<0):=by rw [←Int.natCast_mul]; omega
    simp [Qi,this,show ¬((n:Int)<0) by omega]
  · have h1:0<n*m:=Nat.mul_pos (by omega) hm
    have:((n:Int)*-(m:Int)<0):=by rw [Int.mul_neg,←Int.natCast_mul]; omega
    simp only [this,show ¬((n:Int)<0) by omega]
    simp [Qi]
  · by_cases h0:m=0
    · subst h0; simp [Qi]
    · have h1:0<n*m:=Nat.mul_pos hn (by omega)
      have:(-(n:Int)*(m:Int)<0):=by rw [Int.neg_mul,←Int.natCast_mul]; omega
      simp only [this,show (-(n:Int)<0) by omega]
      simp [Qi]
  · have:¬(-(n:Int)*-(m:Int)<0):=by rw [Int.neg_mul_neg,←Int.natCast_mul]; omega
    simp only [this,show (-(n:Int)<0) by omega]
    simp [Qi]
theorem Qzj (a b:Int):Int.sign (a-b)=Kd a b:=by
  unfold Kd
  rcases Int.lt_trichotomy a b with h | h | h
  · rw [if_pos h,Int.sign_eq_neg_one_of_neg (by omega)]
  · rw [if_neg (by omega),if_neg (by omega),h,Int.sub_self]; rfl
  · rw [if_neg (by omega),if_pos h,Int.sign_eq_one_of_pos (by omega)]
theorem Qob {x y:Nat}:0≤Tu x y↔y≤x:=by
  unfold Tu
  constructor
  · intro h; split at h
    · omega
    · omega
  · intro h; split
    · omega
    · split <;> omega
theorem O1 {x e:Nat} (h:(Qz x).length=1) (he:(Qz x)[0]? = some e):x=e:=by
  rcases hd:Qz x with _ | ⟨u,l⟩
  · rw [hd] at h; cases h
  · rcases l with _ | ⟨w,l⟩
    · rw [hd] at he; simp at he
      have:=Xj x
      rw [hd] at this; simp [X9] at this; omega
    · rw [hd] at h; simp at h
theorem Qk8 {a b:Int} (hb:0<b):ri (a / ((Int.gcd a b:Nat):Int))++ri (b / ((Int.gcd a b:Nat):Int))=fr (Rat.divInt a b):=by
  obtain ⟨h1,h2⟩:=Qfl (n:=a) hb
  rw [Ki,Int.gcd_comm] at h1 h2
  rw [h1,h2]
theorem Qk9 (a:Int):ri a++ri 1=fr (Rat.divInt a 1):=by
  have h:=Qk8 (a:=a) (b:=1) (by decide)
  rw [show ((Int.gcd a 1:Nat):Int)=1 by simp] at h
  simpa using h
theorem Qc8 {a b:Int} (hb:b≠0) (ha2:Qn a≤90000000) (hb2:Qn b≤90000000):Qn ((Int.gcd a b:Nat):Int)≤90000000∧((Int.gcd a b:Nat):Int)≠0∧a % ((Int.gcd a b:Nat):Int)=0∧b % ((Int.gcd a b:Nat):Int)=0:=by
  have h1:=Qo0 (n:=a) hb hb2
  have h2:=Qh6 (n:=a) hb
  have h3:=Qam a b
  have h4:=Qan a b
  rw [Ki,Int.gcd_comm] at h1 h2 h3 h4
  exact ⟨h1,by omega,h3,h4⟩
theorem Qdw {a b:Int} (h:b<0):Zy a b=Rat.divInt (-a) (-b):=by
  unfold Zy; rw [if_neg (by omega)]
  exact (Rat.neg_divInt_neg a b).symm
theorem Qdx {a b:Int} (h:0<b):Zy a b=Rat.divInt a b:=by
  unfold Zy; rw [if_neg (by omega)]
theorem Qqu (a b:Rat):Zy (a.num*(b.den:Int)+b.num*(a.den:Int)) ((a.den:Int)*(b.den:Int))=a+b:=by
  unfold Zy
  rw [if_neg (Int.mul_ne_zero (We a) (We b)),←Rat.divInt_add_divInt _ _ (We a) (We b),Rat.num_divInt_den,Rat.num_divInt_den]
theorem Qdl (a b:Rat):Zy (a.num*b.num) ((a.den:Int)*(b.den:Int))=a*b:=by
  unfold Zy
  rw [if_neg (Int.mul_ne_zero (We a) (We b)),←Rat.divInt_mul_divInt,Rat.num_divInt_den,Rat.num_divInt_den]
theorem Qdv {a b:Rat} (h:b≠0):Zy (a.num*(b.den:Int)) ((a.den:Int)*b.num)=a / b:=by
  have hn:b.num≠0:=fun e=>h (Rat.num_eq_zero.1 e)
  unfold Zy
  rw [if_neg (Int.mul_ne_zero (We a) hn),←Rat.divInt_mul_divInt,Rat.num_divInt_den,Rat.div_def]
  congr 1
  conv=>rhs; rw [←Rat.num_divInt_den b,Rat.inv_divInt]
theorem Of {z:Int} (hz:Qn z≤100000000):Qc Tryz.prog 48 [.agg (Zq z)] [.agg (ri z)]:=by
  have hl:(Qw z.natAbs).length≤1099511627776:=by have h2:32*(Qw z.natAbs).length≤100000000+31:=X2 hz; omega
  have h:=Q0z (l:=Qw z.natAbs) (fun u hu=>(Wj _).1 u hu) hl (by rw [Zf]; exact hz)
  rw [Zf] at h
  have hm:=Gb (decide (z<0)) z.natAbs
  have e:Qi (decide (z<0)) z.natAbs=z:=by unfold Qi; by_cases h:z<0 <;> simp [h] <;> omega
  rw [e] at hm
  exact w tt Tryz.func48 rfl [.c [] h,.c [] hm] rfl rfl trivial
theorem Qnv {z:Int}:Qc Tryz.prog 150 [.agg (ri z)] [.one (.int .i64 (Int.sign z))]:=by
  have hn:=Ca (x:=z.natAbs)
  have hl:=Np z.natAbs
  rcases Int.lt_trichotomy z 0 with h | h | h
  · rw [Int.sign_eq_neg_one_of_neg h]
    exact w tt Tryz.func150 rfl [.f (by simp only [Xw]; exact decide_eq_false (by omega)),.t (decide_eq_true h)] rfl rfl trivial
  · subst h
    exact w tt Tryz.func150 rfl [.t (by simp only [Xw]; show decide (((Qz 0).length:Int)=0)=true; rw [Z3]; rfl)] rfl rfl trivial
  · rw [Int.sign_eq_one_of_pos h]
    exact w tt Tryz.func150 rfl [.f (by simp only [Xw]; exact decide_eq_false (by omega)),.f (decide_eq_false (by omega))] rfl rfl trivial
theorem Qkr {a b:Int} (ha:Qn a≤200000000) (hb:Qn b≤200000000):Qc Tryz.prog 210 [.agg (ri a),.agg (ri b)] [.agg (ri (a+b))]:=by
  by_cases hs:(decide (a<0) == decide (b<0))=true
  · have cm:=Gb (decide (a<0)) (a.natAbs+b.natAbs)
    rw [Q34 hs] at cm
    exact w tt Tryz.func210 rfl [.t hs,.c [] (Q6d ha hb),.c [] cm] rfl rfl trivial
  · have hs':(decide (a<0) == decide (b<0))=false:=by simpa using hs
    by_cases hl:b.natAbs≤a.natAbs
    · have cm:=Gb (decide (a<0)) (a.natAbs-b.natAbs)
      rw [Q37 hs hl] at cm
      exact w tt Tryz.func210 rfl [.f hs',.c [] (Qkk ha hb),.t (decide_eq_true (Qob.2 hl)),.c [] (Qkq ha hb hl),.c [] cm] rfl rfl trivial
    · have cm:=Gb (decide (b<0)) (b.natAbs-a.natAbs)
      rw [Qzd hs hl] at cm
      exact w tt Tryz.func210 rfl [.f hs',.c [] (Qkk ha hb),.f (decide_eq_false fun h=>hl (Qob.1 h)),.c [] (Qkq hb ha (by omega)),.c [] cm] rfl rfl trivial
theorem Quq {a b:Int} (ha:Qn a≤200000000) (hb:Qn b≤200000000):Qc Tryz.prog 151 [.agg (ri a),.agg (ri b)] [.agg (ri (a-b))]:=by
  have ca:=Qkr (a:=a) (b:=-b) ha (by rw [Z8]; exact hb)
  rw [show a+-b=a-b from by omega] at ca
  exact w tt Tryz.func151 rfl [.c [] (Rp (z:=b)),.c [] ca] rfl rfl trivial
theorem Yj {a b:Int} (ha:Qn a≤200000000) (hb:Qn b≤200000000):Qc Tryz.prog 47 [.agg (ri a),.agg (ri b)] [.agg (ri (a*b))]:=by
  have cm:=Gb (!(decide (a<0) == decide (b<0))) (a.natAbs*b.natAbs)
  rw [Q36] at cm
  exact w tt Tryz.func47 rfl [.c [] (Q6g ha hb),.c [] cm] rfl rfl trivial
theorem Q6n {a b:Int} (ha:Qn a≤200000000) (hb:Qn b≤200000000):Qc Tryz.prog 88 [.agg (ri a),.agg (ri b)] [.one (.int .i64 (Kd a b))]:=by
  have h:=Qnv (z:=a-b)
  rw [Qzj] at h
  exact w tt Tryz.func88 rfl [.c [] (Quq ha hb),.c [] h] rfl rfl trivial
theorem Lf {a b:Int} (ha:Qn a≤90000000) (hb:Qn b≤90000000) (h0:b≠0) (hd:a % b=0):Qc Tryz.prog 142 [.agg (ri a),.agg (ri b)] [.agg (ri (a / b))]:=by
  have cm:=Gb (!(decide (a<0) == decide (b<0))) (a.natAbs / b.natAbs)
  rw [Q35 hd] at cm
  exact w tt Tryz.func142 rfl [.c [] (Qtp ha hb (by omega)),.c [] cm] rfl rfl trivial
theorem Q75 (x:Nat):ri ((x:Nat):Int)=[nd x,.bool false]:=by
  unfold ri sg
  rw [Int.natAbs_natCast,decide_eq_false (by omega)]
theorem On {a b:Int} (ha:Qn a≤90000000) (hb:Qn b≤90000000):Qc Tryz.prog 141 [.agg (ri a),.agg (ri b)] [.agg (ri ((Int.gcd a b:Nat):Int))]:=by
  rw [Q75]
  refine Z1 Tryz.func141 rfl ?_
  refine go tt [] rfl trivial ?_
  refine lp (S:=Nat×Nat) 3 (fun L1 s=>(5,.v (.one (nd s.1)))::(6,.v (.one (nd s.2)))::L1) (fun _=>[.blk 47 (ri a),.blk 47 (ri b),.blk 47 [.nils,.bool false]]) (fun s=>s.2) (fun s=>Nat.gcd s.1 s.2=Int.gcd a b∧sz s.1≤90000000∧sz s.2≤90000000) (a.natAbs,b.natAbs) ⟨rfl,ha,hb⟩ rfl (fun _ _=>rfl) rfl fun s hs=>?_
  obtain ⟨x,y⟩:=s
  obtain ⟨hp0,hp1,hp2⟩:=hs
  dsimp only at hp0 hp1 hp2 ⊢
  have hyn:=Ca (x:=y)
  have hyl:=Np y
  by_cases h1:y=0
  · have e:Int.gcd a b=x:=by rw [←hp0,h1,Nat.gcd_zero_right]
    rw [e]
    exact en tt [.f (by simp only [Xw]; exact decide_eq_false (by omega))] rfl rfl trivial
  · have hlt:=Nat.mod_lt x (show 0<y by omega)
    refine go tt [.t (by simp only [Xw]; exact decide_eq_true (by omega)),.c [] (Qtp hp1 hp2 (by omega))] rfl trivial ?_
    exact rd (y,x % y) (by dsimp only; omega) ⟨by dsimp only; rw [←hp0,Nat.gcd_comm x y,Nat.gcd_rec y x,Nat.gcd_comm],hp2,Nat.le_trans (X4 (by dsimp only; omega)) hp2⟩ rfl
theorem Bw {a b:Int} (ha:Qn a≤90000000) (hb:Qn b≤90000000):Qc Tryz.prog 83 [.agg (ri a),.agg (ri b)] [.agg (fr (Zy a b))]:=by
  rcases Int.lt_trichotomy b 0 with hs | hs | hs
  · skip
    by_cases h1:-b=1
    · have h0:(V4 (Qz (-b).natAbs))[0]? = some [LV.int .i64 1]:=by rw [h1,show (1:Int).natAbs=1 from rfl,Gh]; rfl
      have hl1:decide (((V4 (Qz (-b).natAbs)).length:Int)=1)=true:=by rw [h1,show (1:Int).natAbs=1 from rfl,Gh]; rfl
      have e:fr (Zy a b)=ri (-a)++ri (-b):=by rw [Qdw hs,h1]; exact (Qk9 _).symm
      rw [e]
      exact w tt Tryz.func83 rfl [.c [] (Vu (z:=b)),.f (decide_eq_false (by omega)),.t (decide_eq_true hs),.c [] (Rp (z:=a)),.c [] (Rp (z:=b)),.g 19 true hl1,.x h0,.t rfl] rfl rfl trivial
    · have hgf:=Qc8 (a:=-a) (b:=-b) (by omega) (by first | exact ha | (rw [Z8]; exact ha)) (by first | exact hb | (rw [Z8]; exact hb))
      have cg:=On (a:=-a) (b:=-b) (by first | exact ha | (rw [Z8]; exact ha)) (by first | exact hb | (rw [Z8]; exact hb))
      have q1:=Lf (a:=-a) (b:=((Int.gcd (-a) (-b):Nat):Int)) (by first | exact ha | (rw [Z8]; exact ha)) hgf.1 hgf.2.1 hgf.2.2.1
      have q2:=Lf (a:=-b) (b:=((Int.gcd (-a) (-b):Nat):Int)) (by first | exact hb | (rw [Z8]; exact hb)) hgf.1 hgf.2.1 hgf.2.2.2
      have e:fr (Zy a b)=ri ((-a) / ((Int.gcd (-a) (-b):Nat):Int))++ri ((-b) / ((Int.gcd (-a) (-b):Nat):Int)):=by rw [Qdw hs]; exact (Qk8 (by omega)).symm
      rw [e]
      have hl:=Np (-b).natAbs
      by_cases hl1:(Qz (-b).natAbs).length=1
      · obtain ⟨u,hu⟩:∃ u,(Qz (-b).natAbs)[0]? = some u:=⟨_,List.getElem?_eq_getElem (by omega)⟩
        have hue:=O1 hl1 hu
        exact w tt Tryz.func83 rfl [.c [] (Vu (z:=b)),.f (decide_eq_false (by omega)),.t (decide_eq_true hs),.c [] (Rp (z:=a)),.c [] (Rp (z:=b)),.g 19 true (by simp only [Xw]; exact decide_eq_true (by omega)),.x (Zg hu),.f (decide_eq_false (by omega)),.c [] cg,.c [] q1,.c [] q2] rfl rfl trivial
      · exact w tt Tryz.func83 rfl [.c [] (Vu (z:=b)),.f (decide_eq_false (by omega)),.t (decide_eq_true hs),.c [] (Rp (z:=a)),.c [] (Rp (z:=b)),.g 19 false (by simp only [Xw]; exact decide_eq_false (by omega)),.f rfl,.c [] cg,.c [] q1,.c [] q2] rfl rfl trivial
  · subst hs
    have h0:(V4 (Qz (1:Int).natAbs))[0]? = some [LV.int .i64 1]:=by rw [show (1:Int).natAbs=1 from rfl,Gh]; rfl
    have h1:decide (((V4 (Qz (1:Int).natAbs)).length:Int)=1)=true:=by rw [show (1:Int).natAbs=1 from rfl,Gh]; rfl
    have e:fr (Zy a 0)=ri a++ri 1:=(Qk9 a).symm
    rw [e]
    exact w tt Tryz.func83 rfl [.c [] (Vu (z:=0)),.t rfl,.c [] (W3 (n:=1) (by decide)),.f rfl,.g 19 true h1,.x h0,.t rfl] rfl rfl trivial
  · skip
    by_cases h1:b=1
    · have h0:(V4 (Qz (b).natAbs))[0]? = some [LV.int .i64 1]:=by rw [h1,show (1:Int).natAbs=1 from rfl,Gh]; rfl
      have hl1:decide (((V4 (Qz (b).natAbs)).length:Int)=1)=true:=by rw [h1,show (1:Int).natAbs=1 from rfl,Gh]; rfl
      have e:fr (Zy a b)=ri (a)++ri (b):=by rw [Qdx hs,h1]; exact (Qk9 _).symm
      rw [e]
      exact w tt Tryz.func83 rfl [.c [] (Vu (z:=b)),.f (decide_eq_false (by omega)),.f (decide_eq_false (by omega)),.g 19 true hl1,.x h0,.t rfl] rfl rfl trivial
    · have hgf:=Qc8 (a:=a) (b:=b) (by omega) (by first | exact ha | (rw [Z8]; exact ha)) (by first | exact hb | (rw [Z8]; exact hb))
      have cg:=On (a:=a) (b:=b) (by first | exact ha | (rw [Z8]; exact ha)) (by first | exact hb | (rw [Z8]; exact hb))
      have q1:=Lf (a:=a) (b:=((Int.gcd (a) (b):Nat):Int)) (by first | exact ha | (rw [Z8]; exact ha)) hgf.1 hgf.2.1 hgf.2.2.1
      have q2:=Lf (a:=b) (b:=((Int.gcd (a) (b):Nat):Int)) (by first | exact hb | (rw [Z8]; exact hb)) hgf.1 hgf.2.1 hgf.2.2.2
      have e:fr (Zy a b)=ri ((a) / ((Int.gcd (a) (b):Nat):Int))++ri ((b) / ((Int.gcd (a) (b):Nat):Int)):=by rw [Qdx hs]; exact (Qk8 (by omega)).symm
      rw [e]
      have hl:=Np (b).natAbs
      by_cases hl1:(Qz (b).natAbs).length=1
      · obtain ⟨u,hu⟩:∃ u,(Qz (b).natAbs)[0]? = some u:=⟨_,List.getElem?_eq_getElem (by omega)⟩
        have hue:=O1 hl1 hu
        exact w tt Tryz.func83 rfl [.c [] (Vu (z:=b)),.f (decide_eq_false (by omega)),.f (decide_eq_false (by omega)),.g 19 true (by simp only [Xw]; exact decide_eq_true (by omega)),.x (Zg hu),.f (decide_eq_false (by omega)),.c [] cg,.c [] q1,.c [] q2] rfl rfl trivial
      · exact w tt Tryz.func83 rfl [.c [] (Vu (z:=b)),.f (decide_eq_false (by omega)),.f (decide_eq_false (by omega)),.g 19 false (by simp only [Xw]; exact decide_eq_false (by omega)),.f rfl,.c [] cg,.c [] q1,.c [] q2] rfl rfl trivial
theorem Q9k {n d:Int} (hn:-1000000000≤n∧n≤1000000000) (hd:-1000000000≤d∧d≤1000000000):Qc Tryz.prog 22 [.one (.int .i64 n),.one (.int .i64 d)] [.agg (fr (Zy n d))]:=by
  have b1:Qn n≤90000000:=Nat.le_trans (J0.2 (show n.natAbs<2^40 by omega)) (by decide)
  have b2:Qn d≤90000000:=Nat.le_trans (J0.2 (show d.natAbs<2^40 by omega)) (by decide)
  exact w tt Tryz.func22 rfl [.c [] (W3 (by omega)),.c [] (W3 (by omega)),.c [] (Bw b1 b2)] rfl rfl trivial
theorem Q6i {a:Rat}:Qc Tryz.prog 206 [.agg (fr a)] [.agg (fr (-a))]:=by
  have e:fr (-a)=ri (-a.num)++ri (a.den:Int):=rfl
  rw [e]
  exact w tt Tryz.func206 rfl [.c [] (Rp (z:=a.num))] rfl rfl trivial
theorem Qtn {a b:Rat} (ha:Qs 20000000 a) (hb:Qs 20000000 b):Qc Tryz.prog 285 [.agg (fr a),.agg (fr b)] [.agg (fr (a+b))]:=by
  have k1:=Q0 a.num (b.den:Int)
  have k2:=Q0 b.num (a.den:Int)
  have k3:=Q0 (a.den:Int) (b.den:Int)
  have k4:=Mi (a.num*(b.den:Int)) (b.num*(a.den:Int))
  have h1:=ha.1; have h2:=ha.2; have h3:=hb.1; have h4:=hb.2
  have cm:=Bw (a:=a.num*(b.den:Int)+b.num*(a.den:Int)) (b:=(a.den:Int)*(b.den:Int)) (by omega) (by omega)
  rw [Qqu] at cm
  exact w tt Tryz.func285 rfl [.c [] (Yj (a:=a.num) (b:=(b.den:Int)) (by omega) (by omega)),.c [] (Yj (a:=b.num) (b:=(a.den:Int)) (by omega) (by omega)),.c [] (Qkr (by omega) (by omega)),.c [] (Yj (a:=(a.den:Int)) (b:=(b.den:Int)) (by omega) (by omega)),.c [] cm] rfl rfl trivial
theorem Qty {a b:Rat} (ha:Qs 40000000 a) (hb:Qs 40000000 b):Qc Tryz.prog 279 [.agg (fr a),.agg (fr b)] [.agg (fr (a*b))]:=by
  have k1:=Q0 a.num b.num
  have k3:=Q0 (a.den:Int) (b.den:Int)
  have h1:=ha.1; have h2:=ha.2; have h3:=hb.1; have h4:=hb.2
  have cm:=Bw (a:=a.num*b.num) (b:=(a.den:Int)*(b.den:Int)) (by omega) (by omega)
  rw [Qdl] at cm
  exact w tt Tryz.func279 rfl [.c [] (Yj (a:=a.num) (b:=b.num) (by omega) (by omega)),.c [] (Yj (a:=(a.den:Int)) (b:=(b.den:Int)) (by omega) (by omega)),.c [] cm] rfl rfl trivial
theorem Qkn {a b:Rat} (ha:Qs 40000000 a) (hb:Qs 40000000 b) (h0:b≠0):Qc Tryz.prog 309 [.agg (fr a),.agg (fr b)] [.agg (fr (a / b))]:=by
  have k1:=Q0 a.num (b.den:Int)
  have k3:=Q0 (a.den:Int) b.num
  have h1:=ha.1; have h2:=ha.2; have h3:=hb.1; have h4:=hb.2
  have cm:=Bw (a:=a.num*(b.den:Int)) (b:=(a.den:Int)*b.num) (by omega) (by omega)
  rw [Qdv h0] at cm
  exact w tt Tryz.func309 rfl [.c [] (Yj (a:=a.num) (b:=(b.den:Int)) (by omega) (by omega)),.c [] (Yj (a:=(a.den:Int)) (b:=b.num) (by omega) (by omega)),.c [] cm] rfl rfl trivial
theorem Q1k {a b:Rat} (ha:Qs 40000000 a) (hb:Qs 40000000 b):Qc Tryz.prog 33 [.agg (fr a),.agg (fr b)] [.one (.int .i64 (Zz a b))]:=by
  have k1:=Q0 a.num (b.den:Int)
  have k2:=Q0 b.num (a.den:Int)
  have h1:=ha.1; have h2:=ha.2; have h3:=hb.1; have h4:=hb.2
  exact w tt Tryz.func33 rfl [.c [] (Yj (a:=a.num) (b:=(b.den:Int)) (by omega) (by omega)),.c [] (Yj (a:=b.num) (b:=(a.den:Int)) (by omega) (by omega)),.c [] (Q6n (a:=a.num*(b.den:Int)) (b:=b.num*(a.den:Int)) (by omega) (by omega))] rfl rfl trivial
end Orr

namespace Orr
def Wa:List Rat→List Rat
  | []=>[]
  |
   x::l=>match Wa l with
   | []=>if x=0 then [] else [x]
   | y::k=>x::y::k
theorem P0:∀ {l:List Rat},(∀ x∈l,x=0)→Wa l=[]
  | [],_=>rfl
  |
   x::l,h=>by
   have ih:=P0 (l:=l) (fun y hy=>h y (List.mem_cons_of_mem _ hy))
   simp [Wa,ih,h x (List.mem_cons_self ..)]
theorem Qbo:∀ {l:List Rat} {m:Nat} {y:Rat},(∀ j x,m<j→l[j]? = some x→x=0)→l[m]? = some y→y≠0→Wa l=l.take (m+1)
  | [],m,y,_,h,_=>by simp at h
  |
   x::l,0,y,h1,h2,h3=>by
   have h0:Wa l=[]:=P0 fun z hz=>by
     obtain ⟨j,hj⟩:=List.mem_iff_getElem?.1 hz
     exact h1 (j+1) z (by omega) (by simpa using hj)
   simp at h2
   subst h2
   simp [Wa,h0,h3]
  |
   x::l,m+1,y,h1,h2,h3=>by
   have ih:=Qbo (l:=l) (m:=m) (y:=y) (fun j z hj hz=>h1 (j+1) z (by omega) (by simpa using hz)) (by simpa using h2) h3
   cases hl:l with
   | nil=>subst hl; simp at h2
   |
    cons u k =>
    subst hl
    rw [List.take_succ_cons] at ih
    simp only [Wa] at ih ⊢
    rw [ih]
    simp
theorem Es {l:List Rat} {m:Nat} (hm:m≤l.length) (h1:∀ j x,m≤j→l[j]? = some x→x=0) (h2:0<m→∃ y,l[m-1]? = some y∧y≠0):Wa l=l.take m:=by
  rcases Nat.eq_zero_or_pos m with h0 | h0
  · subst h0
    rw [P0 fun z hz=>?_]; rfl
    obtain ⟨j,hj⟩:=List.mem_iff_getElem?.1 hz
    exact h1 j z (by omega) hj
  · obtain ⟨y,hy,hy0⟩:=h2 h0
    have:=Qbo (l:=l) (m:=m-1) (y:=y) (fun j x hj hx=>h1 j x (by omega) hx) hy hy0
    rwa [show m-1+1=m from by omega] at this
theorem Qd4:∀ (l:List Rat),∀ z∈Wa l,z∈l
  | [],z,h=>h
  |
   x::l,z,h=>by
   simp only [Wa] at h
   have ih:=Qd4 l
   split at h
   · split at h
     · cases h
     · simp at h; simp [h]
   · rename_i y k e
     rw [e] at ih
     rcases List.mem_cons.1 h with h | h
     · simp [h]
     · exact List.mem_cons_of_mem _ (ih z h)
theorem Qd3:∀ (l:List Rat),(Wa l).length≤l.length
  | []=>Nat.le_refl _
  |
   x::l=>by
   have ih:=Qd3 l
   simp only [Wa]
   split
   · split <;> simp
   · rename_i y k e
     rw [e] at ih
     simp at ih ⊢; omega
def zp (p:List Int):List Rat:=p.map fun (z:Int)=>(z:Rat)
theorem K0:∀ (p:List Int),Wa (zp p)=zp (trim p)
  | []=>rfl
  |
   x::l=>by
   have ih:=K0 l
   unfold zp at ih ⊢
   simp only [List.map_cons,Wa,trim,ih]
   cases h:trim l with
   |
    nil =>
    simp only [List.map_nil]
    by_cases hx:x=0
    · subst hx; simp
    · have:(x:Rat)≠0:=fun e=>hx (by exact_mod_cast e)
      simp [hx,this]
   | cons y k=>simp
theorem Ym (p:List Int):(zp p).length=p.length:=List.length_map _
theorem Q0c {p:List Int} {i:Nat} {z:Int} (h:p[i]? = some z):(zp p)[i]? = some (z:Rat):=by simp [zp,h]
theorem D4 (p:List Int) (i:Nat):(zp p).getD i 0=((p.getD i 0:Int):Rat):=by
  simp only [List.getD_eq_getElem?_getD,zp,List.getElem?_map]
  cases p[i]? <;> rfl
def Rb (s:Nat) (p:List Rat):Prop:=∀ q∈p,Qs s q
theorem Rb.mono {s t:Nat} {p:List Rat} (h:Rb s p) (ht:s≤t):Rb t p:=fun q hq=>(h q hq).mono ht
theorem Rb.get {s:Nat} {p:List Rat} (h:Rb s p) {i:Nat} {q:Rat} (hq:p[i]? = some q):Qs s q:=h q (List.mem_of_getElem? hq)
theorem Uk {s:Nat} {z:Int} (h:Qn z≤s) (h1:1≤s):Qs s (z:Rat):=⟨by simpa using h,Nat.le_trans (show Qn ((1:Nat):Int)≤1 by decide) h1⟩
theorem Nh {s:Nat} {p:List Int} (h:Bd s p) (h1:1≤s):Rb s (zp p):=fun q hq=>by
  obtain ⟨z,hz,rfl⟩:=List.mem_map.1 hq
  exact Uk (h z hz) h1
theorem Q3p {s:Nat} (h1:1≤s):Qs s 0:=Uk (z:=0) (by simp [Vo]) h1
theorem Rb.getD {s:Nat} {p:List Rat} (h:Rb s p) (h1:1≤s) (i:Nat):Qs s (p.getD i 0):=by
  rw [List.getD_eq_getElem?_getD]
  cases e:p[i]? with
  | none=>exact Q3p h1
  | some q=>exact h.get e
theorem Rb.trim {s:Nat} {p:List Rat} (h:Rb s p):Rb s (Wa p):=fun q hq=>h q (Qd4 p q hq)
def Tw (f:Nat→Rat) (n:Nat):List Rat:=(List.range n).map f
theorem Dq (f:Nat→Rat) (n:Nat):(Tw f n).length=n:=by simp [Tw]
theorem Qea (f:Nat→Rat) (n:Nat):Tw f (n+1)=Tw f n++[f n]:=by simp [Tw,List.range_succ]
theorem Q4f {s n:Nat} {f:Nat→Rat} (h:∀ i,i<n→Qs s (f i)):Rb s (Tw f n):=fun q hq=>by
  obtain ⟨i,hi,rfl⟩:=List.mem_map.1 hq
  exact h i (List.mem_range.1 hi)
theorem I4 {f:Nat→Rat} {g:Nat→Int} (n:Nat) (h:∀ i,i<n→f i=(g i:Rat)):Tw f n=zp ((List.range n).map g):=by
  simp only [Tw,zp,List.map_map]
  exact List.map_congr_left fun i hi=>h i (List.mem_range.1 hi)
def Qso (p q:List Rat):List Rat:=Wa (Tw (fun i=>p.getD i 0+q.getD i 0) (max p.length q.length))
def Vk (p:List Rat) (c:Rat):List Rat:=Wa (Tw (fun i=>p.getD i 0*c) p.length)
def Qf9 (p:List Rat):List Rat:=Vk p (-1)
def Qy3 (p q:List Rat):List Rat:=Qso p (Qf9 q)
theorem Q3r (p q:List Int):Qso (zp p) (zp q)=zp (C3 p q):=by
  unfold Qso C3 Vi
  rw [I4 (g:=fun k=>p.getD k 0+q.getD k 0) _ fun i _=>by rw [D4,D4,Rat.intCast_add],K0,Ym,Ym]
theorem Qd0 (p:List Int) (c:Int):Vk (zp p) (c:Rat)=zp (Qx p c):=by
  unfold Vk Qx Vi
  rw [I4 (g:=fun k=>p.getD k 0*c) _ fun i _=>by rw [D4,Rat.intCast_mul],K0,Ym]
theorem Ql2 (p:List Int):Qx p (-1)=Y9 p:=by
  unfold Qx Y9 Vi
  congr 2
  funext k
  omega
theorem Qp7 (p:List Int):Qf9 (zp p)=zp (Y9 p):=by
  rw [←Ql2,←Qd0]; rfl
theorem Sv {p q:List Int} (hp:Qk p) (hq:Qk q) (h:∀ k,p.getD k 0=q.getD k 0):p=q:=by
  have key:∀ {p q:List Int},Qk q→(∀ k,p.getD k 0=q.getD k 0)→q.length≤p.length:=by
    intro p q hq h
    rcases Nat.lt_or_ge p.length q.length with h1 | h1
    · have h2:=Xc hq (by omega)
      rw [←h,List.getD_eq_getElem?_getD,List.getElem?_eq_none (by omega)] at h2
      exact (h2 rfl).elim
    · exact h1
  exact Qac (Nat.le_antisymm (key hp fun k=>(h k).symm) (key hq h)) fun j _=>h j
theorem Qk5 {n m:Nat} {f g:Nat→Int} (hn:n≤m) (h:∀ k,k<n→f k=g k) (h0:∀ k,n≤k→k<m→g k=0):Vi n f=Vi m g:=by
  refine Sv (Za _ _) (Za _ _) fun k=>?_
  rw [Yg,Yg]
  by_cases h1:k<n
  · rw [if_pos h1,if_pos (by omega),h k h1]
  · rw [if_neg h1]
    by_cases h2:k<m
    · rw [if_pos h2,h0 k (by omega) h2]
    · rw [if_neg h2]
theorem Qqc (p q:List Int):Qy3 (zp p) (zp q)=zp (Vz p q):=by
  unfold Qy3
  rw [Qp7,Q3r]
  congr 1
  have hl:=S9 q
  unfold C3 Vz
  refine Qk5 (by omega) (fun k _=>?_) fun k h1 h2=>?_
  · unfold Y9
    rw [Yg]
    split
    · omega
    · rename_i h
      have:q.getD k 0=0:=by rw [List.getD_eq_getElem?_getD,List.getElem?_eq_none (by omega)]; rfl
      omega
  · have h3:p.getD k 0=0:=by rw [List.getD_eq_getElem?_getD,List.getElem?_eq_none (by omega)]; rfl
    have h4:(Y9 q).getD k 0=0:=by rw [List.getD_eq_getElem?_getD,List.getElem?_eq_none (by omega)]; rfl
    unfold Y9 at h4
    rw [Yg] at h4
    split at h4
    · omega
    · have:q.getD k 0=0:=by rw [List.getD_eq_getElem?_getD,List.getElem?_eq_none (by omega)]; rfl
      omega
end Orr

namespace Orr
structure Crv where
  x:List Int
  y:List Int
  d:Int
abbrev cl (k:Crv):List LV:=[pl k.x,pl k.y,sg k.d,mg k.d]
def Crv.d' (k:Crv):Int:=if k.d=0 then 1 else k.d
def Crv.g (k:Crv):Int:=if k.d'<0 then -((Z7 (k.d'::(trim k.x++trim k.y)):Nat):Int) else (Z7 (k.d'::(trim k.x++trim k.y)):Nat)
def Crv.norm (k:Crv):Crv:=⟨trim ((trim k.x).map (· / k.g)),trim ((trim k.y).map (· / k.g)),k.d' / k.g⟩
theorem Sz {l:List Int}:∀ z∈l,((Z7 l:Nat):Int)∣z:=by
  have key:∀ (l:List Int) (g:Nat),(l.foldl (fun g z=>Nat.gcd g z.natAbs) g∣g)∧∀ z∈l,l.foldl (fun g z=>Nat.gcd g z.natAbs) g∣z.natAbs:=by
    intro l
    induction l with
    | nil=>intro g; exact ⟨Nat.dvd_refl _,by simp⟩
    |
     cons u l ih =>
     intro g
     obtain ⟨h1,h2⟩:=ih (Nat.gcd g u.natAbs)
     refine ⟨Nat.dvd_trans h1 (Nat.gcd_dvd_left _ _),fun z hz=>?_⟩
     rcases List.mem_cons.1 hz with rfl | hz
     · exact Nat.dvd_trans h1 (Nat.gcd_dvd_right _ _)
     · exact h2 z hz
  intro z hz
  have:=(key l 0).2 z hz
  exact Int.ofNat_dvd_left.2 this
theorem Crv.d'_ne (k:Crv):k.d'≠0:=by unfold Crv.d'; split <;> omega
theorem Crv.gcd_ne (k:Crv):Z7 (k.d'::(trim k.x++trim k.y))≠0:=by
  intro e
  have h:=Sz (l:=k.d'::(trim k.x++trim k.y)) k.d' (List.mem_cons_self ..)
  rw [e] at h
  exact k.d'_ne (by simpa using h)
theorem Crv.g_ne (k:Crv):k.g≠0:=by
  have h0:=k.gcd_ne
  unfold Crv.g
  split <;> omega
theorem Crv.g_dvd (k:Crv):∀ z∈k.d'::(trim k.x++trim k.y),z % k.g=0:=by
  intro z hz
  have h:=Sz z hz
  refine Int.emod_eq_zero_of_dvd ?_
  unfold Crv.g
  split
  · exact Int.neg_dvd.2 h
  · exact h
theorem Crv.isz_g (k:Crv) {s:Nat} (h:Qn k.d'≤s):Qn k.g≤s:=by
  have hd:=Sz (l:=k.d'::(trim k.x++trim k.y)) k.d' (List.mem_cons_self ..)
  have hle:Z7 (k.d'::(trim k.x++trim k.y))≤k.d'.natAbs:=Nat.le_of_dvd (by have:=k.d'_ne; omega) (Int.ofNat_dvd_left.1 hd)
  refine Nat.le_trans (X4 ?_) h
  unfold Crv.g
  split <;> simp <;> exact hle
structure Cs (s n:Nat) (k:Crv):Prop where
  x:Bd s k.x
  y:Bd s k.y
  d:Qn k.d≤s
  lx:k.x.length≤n
  ly:k.y.length≤n
theorem Qfd {k:Crv} {s:Nat} (h:Qn k.d≤s) (h1:1≤s):Qn k.d'≤s:=by unfold Crv.d'; split <;> first | exact h1 | exact h
theorem D9 {s:Nat} {p:List Int} (h:Bd s p) (g:Int):Bd s (p.map (· / g)):=fun z hz=>by
  obtain ⟨u,hu,rfl⟩:=List.mem_map.1 hz
  exact Nat.le_trans (S7 u g) (h u hu)
theorem Cs.norm {s n:Nat} {k:Crv} (h:Cs s n k) (h1:1≤s):Cs s n k.norm:=by
  refine ⟨Jk (D9 (Jk h.x) _),Jk (D9 (Jk h.y) _),Nat.le_trans (S7 _ _) (Qfd h.d h1),?_,?_⟩
  · refine Nat.le_trans (Xf _) ?_; rw [List.length_map]; exact Nat.le_trans (Xf _) h.lx
  · refine Nat.le_trans (Xf _) ?_; rw [List.length_map]; exact Nat.le_trans (Xf _) h.ly
theorem Cs.mono {s n t m:Nat} {k:Crv} (h:Cs s n k) (hs:s≤t) (hn:n≤m):Cs t m k:=⟨Qd h.x hs,Qd h.y hs,Nat.le_trans h.d hs,Nat.le_trans h.lx hn,Nat.le_trans h.ly hn⟩
def Nml (k:Crv):Prop:=Qk k.x∧Qk k.y∧0<k.d∧Z7 (k.d::(k.x++k.y))=1
theorem Crv.norm_of {k:Crv} (h:Nml k):k.norm=k:=by
  obtain ⟨h1,h2,h3,h4⟩:=h
  have hd:k.d'=k.d:=by unfold Crv.d'; rw [if_neg (by omega)]
  have hx:trim k.x=k.x:=h1
  have hy:trim k.y=k.y:=h2
  have hg:k.g=1:=by unfold Crv.g; rw [hd,hx,hy,h4,if_neg (by omega)]; rfl
  unfold Crv.norm
  rw [hg,hd,hx,hy]
  simp [hx,hy]
theorem Qe6 {l:List Int} {g:Int} (hg:g≠0) (hga:g.natAbs=Z7 l):Z7 (l.map (· / g))=1:=by
  have key:∀ (l:List Int) (a:Nat),(∀ z∈l,g∣z)→l.foldl (fun a z=>Nat.gcd a z.natAbs) (a*g.natAbs)=((l.map (· / g)).foldl (fun a z=>Nat.gcd a z.natAbs) a)*g.natAbs:=by
    intro l
    induction l with
    | nil=>intro a _; rfl
    |
     cons z l ih =>
     intro a h
     simp only [List.map_cons,List.foldl_cons]
     have hz:z.natAbs=(z / g).natAbs*g.natAbs:=by
       obtain ⟨q,rfl⟩:=h z (List.mem_cons_self ..)
       rw [Int.mul_ediv_cancel_left _ hg,Int.natAbs_mul,Nat.mul_comm]
     rw [hz,Nat.gcd_mul_right]
     exact ih _ fun u hu=>h u (List.mem_cons_of_mem _ hu)
  have h:=key l 0 fun z hz=>Int.natAbs_dvd_natAbs.1 (by rw [hga]; exact Int.natAbs_dvd_natAbs.2 (Sz z hz))
  rw [Nat.zero_mul] at h
  have h':Z7 l=Z7 (l.map (· / g))*g.natAbs:=h
  rw [←hga] at h'
  have hp:0<g.natAbs:=by omega
  exact Nat.eq_of_mul_eq_mul_right hp (by rw [Nat.one_mul]; exact h'.symm)
theorem Fy {l:List Int} {g:Int} (ht:Qk l) (hg:g≠0) (hd:∀ z∈l,g∣z):Qk (l.map (· / g)):=by
  induction l with
  | nil=>rfl
  |
   cons x l ih =>
   have hne:∀ z∈x::l,z≠0→z / g≠0:=fun z hz h0 h1=>by
     obtain ⟨q,rfl⟩:=hd z hz
     rw [Int.mul_ediv_cancel_left _ hg] at h1
     rw [h1] at h0; simp at h0
   unfold Qk at ht ih ⊢
   cases hl:trim l with
   |
    nil =>
    simp only [trim,hl] at ht
    split at ht
    · cases ht
    · rename_i hx
      injection ht with _ h2
      subst h2
      simp [trim,hne x (List.mem_cons_self ..) hx]
   |
    cons y k =>
    simp only [trim,hl] at ht
    injection ht with _ h2
    have hll:trim l=l:=by rw [hl]; exact h2
    have ih:=ih hll fun z hz=>hd z (List.mem_cons_of_mem _ hz)
    rw [List.map_cons]
    have hne2:l.map (· / g)≠[]:=by rw [←hll,hl]; simp
    cases hm:l.map (· / g) with
    | nil=>exact absurd hm hne2
    |
     cons u w =>
     rw [hm] at ih
     have e:trim (x / g::u::w)=match trim (u::w) with | []=>if x / g=0 then [] else [x / g] | y::k=>x / g::y::k:=rfl
     rw [e,ih]
theorem Crv.nml (k:Crv):Nml k.norm:=by
  have hg:=k.g_ne
  have hdv:∀ z∈k.d'::(trim k.x++trim k.y),k.g∣z:=fun z hz=>Int.dvd_of_emod_eq_zero (k.g_dvd z hz)
  have hx:=Fy (g:=k.g) (Xt k.x) hg fun z hz=>hdv z (by simp [hz])
  have hy:=Fy (g:=k.g) (Xt k.y) hg fun z hz=>hdv z (by simp [hz])
  refine ⟨Xt _,Xt _,?_,?_⟩
  · show 0<k.d' / k.g
    obtain ⟨q,hq⟩:=hdv k.d' (List.mem_cons_self ..)
    have h0:=k.d'_ne
    have hgc:=k.gcd_ne
    have e:k.d' / k.g=q:=by rw [hq,Int.mul_ediv_cancel_left _ hg]
    rw [e]
    unfold Crv.g at hq hg
    have hq0:q≠0:=fun e=>by rw [e,Int.mul_zero] at hq; exact h0 hq
    split at hq
    · rename_i hneg
      rcases Int.lt_or_gt_of_ne hq0 with h | h
      · have:=Int.mul_pos_of_neg_of_neg (a:=-((Z7 (k.d'::(trim k.x++trim k.y)):Nat):Int)) (b:=q) (by omega) h
        omega
      · exact h
    · rename_i hneg
      rcases Int.lt_or_gt_of_ne hq0 with h | h
      · have:=Int.mul_neg_of_pos_of_neg (a:=((Z7 (k.d'::(trim k.x++trim k.y)):Nat):Int)) (b:=q) (by omega) h
        omega
      · exact h
  · show Z7 (k.d' / k.g::(trim ((trim k.x).map (· / k.g))++trim ((trim k.y).map (· / k.g))))=1
    rw [show trim ((trim k.x).map (· / k.g))=(trim k.x).map (· / k.g) from hx,show trim ((trim k.y).map (· / k.g))=(trim k.y).map (· / k.g) from hy,←List.map_append,←List.map_cons (f:=(· / k.g))]
    refine Qe6 hg ?_
    unfold Crv.g
    split <;> omega
structure Pt where
  c:Crv
  id:Int
def Xe (p:Pt):List LV:=[pl p.c.x,pl p.c.y,sg p.c.d,mg p.c.d,.int .i64 p.id]
def pts (l:List Pt):LV:=.row (l.map Xe)
end Orr

namespace Orr
def Gm:List Pt→Int→Nat
  | [],_=>0
  | p::l,id=>if p.id<id then Gm l id+1 else 0
def has (l:List Pt) (id:Int):Bool:=match l[Gm l id]? with
  | some p=>decide (p.id=id)
  | none=>false
theorem Qx6 (l:List Pt) (id:Int):Gm l id≤l.length:=by
  induction l with
  | nil=>exact Nat.le_refl _
  | cons p l ih=>simp only [Gm]; split <;> simp <;> omega
theorem Qbf:∀ {l:List Pt} {id:Int} {k:Nat},(∀ j p,j<k→l[j]? = some p→p.id<id)→(k=l.length∨∃ p,l[k]? = some p∧¬p.id<id)→Gm l id=k
  |
   [],id,k,_,h=>by
   rcases h with h | ⟨p,h,_⟩
   · subst h; rfl
   · simp at h
  |
   q::l,id,0,_,h=>by
   rcases h with h | ⟨p,h,h2⟩
   · simp at h
   · simp at h; subst h; simp [Gm,h2]
  |
   q::l,id,k+1,h1,h=>by
   have hq:=h1 0 q (by omega) rfl
   simp only [Gm,hq,if_true]
   rw [Qbf (k:=k) (fun j p hj hp=>h1 (j+1) p (by omega) (by simpa using hp))]
   rcases h with h | ⟨p,h,h2⟩
   · left; simpa using h
   · right; exact ⟨p,by simpa using h,h2⟩
def put (l:List Pt) (q:Pt):List Pt:=l.take (Gm l q.id)++q::l.drop (Gm l q.id)
def Fp (l:List Pt) (q:Pt):Int:=if has l q.id=true then 6 else if 6≤l.length then 9 else 0
def Qtb (s n:Nat) (p:Pt):Prop:=Nml p.c∧Cs s n p.c
theorem Qp2 (l:List Pt) (q:Pt):(put l q).length=l.length+1:=by
  have:=Qx6 l q.id
  simp [put]; omega
theorem Qp3 {l:List Pt} {q p:Pt} (h:p∈put l q):p=q∨p∈l:=by
  unfold put at h
  rcases List.mem_append.1 h with h | h
  · exact .inr (List.mem_of_mem_take h)
  · rcases List.mem_cons.1 h with h | h
    · exact .inl h
    · exact .inr (List.mem_of_mem_drop h)
def J1:List Pt→List Pt→List Pt×Int
  | acc,[]=>(acc,0)
  | acc,q::qs=>if Fp acc q=0 then J1 (put acc q) qs else ([],Fp acc q)
def Q9u (a b:Crv):Bool:=decide (a.x=b.x∧a.y=b.y∧a.d=b.d)
def Zbu (out:List Pt) (p:Pt):List Pt:=if out.any (fun q=>Q9u p.c q.c)=true then out else out++[p]
def Ze1 (l:List Pt):List Pt:=l.foldl Zbu []
theorem Uj {α β:Type} (f:β→α→β) (b:β) (l:List α) {i:Nat} {x:α} (h:l[i]? = some x):(l.take (i+1)).foldl f b=f ((l.take i).foldl f b) x:=by
  rw [List.take_add_one,h]; simp [List.foldl_append]
def IsPt (s n:Nat) (z:List LV) (q:Pt):Prop:=∃ lx ly b l px py d,z=[.row lx,.row ly,.bool b,Q8s l,.int .i64 q.id]∧IsInts lx px∧IsInts ly py∧Xg (.bool b) (Q8s l) d∧Cs s n ⟨px,py,d⟩∧q.c=Crv.norm ⟨px,py,d⟩
theorem Q7k {s n:Nat} {p:Pt} (h:Qtb s n p):IsPt s n (Xe p) p:=by
  obtain ⟨b,l,h1,h2,h3,h4⟩:=Qe p.c.d
  refine ⟨_,_,decide (p.c.d<0),Qw p.c.d.natAbs,_,_,p.c.d,rfl,Zk _,Zk _,Qe _,h.2,(Crv.norm_of h.1).symm⟩
def IsPts (s n:Nat):List (List LV)→List Pt→Prop
  | [],[]=>True
  | z::zs,q::qs=>IsPt s n z q∧IsPts s n zs qs
  | _,_=>False
theorem IsPts.len {s n:Nat}:∀ {zs:List (List LV)} {qs:List Pt},IsPts s n zs qs→zs.length=qs.length
  | [],[],_=>rfl
  | _::_,_::_,h=>by simp [h.2.len]
  | [],_::_,h=>h.elim
  | _::_,[],h=>h.elim
theorem IsPts.get {s n:Nat}:∀ {zs:List (List LV)} {qs:List Pt},IsPts s n zs qs→∀ {i:Nat} {q:Pt},qs[i]? = some q→∃ z,zs[i]? = some z∧IsPt s n z q
  | [],[],_,i,q,h=>by simp at h
  | z::zs,q::qs,h,0,r,hr=>by simp at hr; subst hr; exact ⟨z,rfl,h.1⟩
  | z::zs,q::qs,h,i+1,r,hr=>by simpa using h.2.get (i:=i) (by simpa using hr)
  | [],_::_,h,_,_,_=>h.elim
  | _::_,[],h,_,_,_=>h.elim
theorem Qoz {s n:Nat}:∀ {l:List Pt},(∀ p∈l,Qtb s n p)→IsPts s n (l.map Xe) l
  | [],_=>trivial
  | p::l,h=>⟨Q7k (h p (List.mem_cons_self ..)),Qoz fun q hq=>h q (List.mem_cons_of_mem _ hq)⟩
theorem IsPt.ok {s n:Nat} {z:List LV} {q:Pt} (h:IsPt s n z q) (h1:1≤s):Qtb s n q:=by
  obtain ⟨lx,ly,b,l,px,py,d,_,_,_,_,hc,e⟩:=h
  unfold Qtb
  rw [e]
  exact ⟨Crv.nml _,hc.norm h1⟩
theorem Qsd (acc qs:List Pt) {i:Nat} {q:Pt} (hi:qs[i]? = some q) (h:J1 acc (qs.take i)=((J1 acc (qs.take i)).1,0)):J1 acc (qs.take (i+1))=if Fp (J1 acc (qs.take i)).1 q=0 then (put (J1 acc (qs.take i)).1 q,0) else ([],Fp (J1 acc (qs.take i)).1 q):=by
  induction qs generalizing acc i with
  | nil=>simp at hi
  |
   cons x qs ih =>
   cases i with
   | zero=>simp at hi; subst hi; simp [J1]
   |
    succ i =>
    simp only [List.take_succ_cons,J1] at h ⊢
    by_cases h0:Fp acc x=0
    · simp only [h0,if_true] at h ⊢
      exact ih (put acc x) (by simpa using hi) h
    · simp only [h0,if_false] at h
      injection h with _ h
      exact absurd h h0
theorem Qxm (acc qs:List Pt) {i:Nat} {e:Int} (he:e≠0) (h:J1 acc (qs.take i)=([],e)):J1 acc qs=([],e):=by
  induction qs generalizing acc i with
  | nil=>simp [J1] at h; exact absurd h.2.symm he
  |
   cons x qs ih =>
   cases i with
   | zero=>simp [J1] at h; exact absurd h.2.symm he
   |
    succ i =>
    simp only [List.take_succ_cons,J1] at h ⊢
    by_cases h0:Fp acc x=0
    · simp only [h0,if_true] at h ⊢; exact ih _ h
    · simp only [h0,if_false] at h ⊢; exact h
end Orr

namespace Orr
def Z0 (p:List Int) (q:Rat):Int:=Kd (Q3l p q.num q.den) 0
abbrev qa (q:Rat):List LV:=pl [-q.num,(q.den:Int)]::(rl q++rl q)
def J7 (sgn:List Int→Int):Nat→List Int→Int
  | 0,_=>0
  | k+1,p=>if p.length=0 then 0 else if sgn p=0 then J7 sgn k (Zj p) else sgn p
theorem S4 (sgn:List Int→Int):∀ (k:Nat) (p:List Int),p.length≤k→J7 sgn k p=J7 sgn p.length p
  |
   0,p,h=>by
   have:p.length=0:=by omega
   rw [this]
  |
   k+1,p,h=>by
   cases hp:p.length with
   | zero=>simp [J7,hp]
   |
    succ m =>
    simp only [J7]
    have h1:=Yu p
    rw [S4 sgn k (Zj p) (by omega),S4 sgn m (Zj p) (by omega)]
theorem Aa (sgn:List Int→Int) {p:List Int} (h:p.length=0):J7 sgn p.length p=0:=by rw [h]; rfl
theorem E8 (sgn:List Int→Int) {p:List Int} (h:0<p.length) (hs:sgn p≠0):J7 sgn p.length p=sgn p:=by
  obtain ⟨m,hm⟩:∃ m,p.length=m+1:=⟨p.length-1,by omega⟩
  rw [hm]; simp only [J7]; rw [if_neg (by omega),if_neg hs]
theorem E9 (sgn:List Int→Int) {p:List Int} (h:0<p.length) (hs:sgn p=0):J7 sgn p.length p=J7 sgn (Zj p).length (Zj p):=by
  obtain ⟨m,hm⟩:∃ m,p.length=m+1:=⟨p.length-1,by omega⟩
  rw [hm]; simp only [J7]; rw [if_neg (by omega),if_pos hs]
  exact S4 sgn m _ (by have:=Yu p; omega)
structure Tm where
  p:List Int
  lo:Rat
  hi:Rat
abbrev ta (t:Tm):List LV:=pl t.p::(rl t.lo++rl t.hi)
abbrev tq (q:Rat):Tm:=⟨[-q.num,(q.den:Int)],q,q⟩
def Hr (sg:List Int→Int) (p:List Int):Int:=J7 sg p.length p
def S0 (p:List Int) (q:Rat):Int:=Hr (fun p=>Z0 p q) p
structure Pb (p:List Int):Prop where
  t:Qk p
  l:p.length≤64
  b:Bd 16777216 p
abbrev Qb (q:Rat):Prop:=Qs 16777216 q
abbrev Cb (k:Crv):Prop:=Cs 1048576 16 k
def X8 (a b:Crv):List Int:=Vz (Qx b.x a.d) (Qx a.x b.d)
def Xi (a b:Crv):List Int:=Vz (Qx b.y a.d) (Qx a.y b.d)
def G5 (sg:List Int→Int) (a b:Pt):List (List Int)→Bool
  | []=>decide (a.id<b.id)
  | p::l=>if 0<p.length then decide (0<Hr sg p) else G5 sg a b l
def Vl (sg:List Int→Int) (a b:Pt):Bool:=G5 sg a b [Xi b.c a.c,X8 b.c a.c]
def Qke (sg:List Int→Int) (a b:Pt):Bool:=G5 sg a b [X8 a.c b.c,Xi a.c b.c]
end Orr

namespace Orr
open Go
structure Ct where
  kind:Int
  i0:Int
  i1:Int
  i2:Int
  i3:Int
  p:List Int
  want:Int
abbrev Qa8 (c:Ct):List LV:=[.int .i64 c.kind,.int .i64 c.i0,.int .i64 c.i1,.int .i64 c.i2,.int .i64 c.i3,pl c.p,.int .i64 c.want]
def Rz (p q:List Int):List Int:=if 0<p.length then p else q
def X1:List Int→List Int→Bool
  | x::l,y::m=>if x=y then X1 l m else decide (x<y)
  | _,_=>false
def Kk (a b:Ct):Bool:=X1 [a.kind,a.i0,a.i1,a.i2,a.i3] [b.kind,b.i0,b.i1,b.i2,b.i3]
def Pm (out:List Ct) (c:Ct):Nat→Nat
  | 0=>0
  |
   k+1=>match out[k]? with
   | some x=>if Kk c x=true then Pm out c k else k+1
   | none=>k+1
theorem Qpu (out:List Ct) (c:Ct):∀ k,Pm out c k≤k
  | 0=>Nat.le_refl _
  |
   k+1=>by
   simp only [Pm]
   split
   · split
     · exact Nat.le_succ_of_le (Qpu out c k)
     · exact Nat.le_refl _
   · exact Nat.le_refl _
theorem Q3d {out:List Ct} {c x:Ct} {k:Nat} (hx:out[k]? = some x) (h:Kk c x=true):Pm out c (k+1)=Pm out c k:=by
  simp only [Pm,hx,h,if_true]
theorem Qx5 {out:List Ct} {c x:Ct} {k:Nat} (hx:out[k]? = some x) (h:Kk c x=false):Pm out c (k+1)=k+1:=by
  simp [Pm,hx,h]
def Ns (out:List Ct) (c:Ct):List Ct:=out.take (Pm out c out.length)++c::out.drop (Pm out c out.length)
theorem Qwy (out:List Ct) (c:Ct):(Ns out c).length=out.length+1:=by
  have:=Qpu out c out.length
  simp [Ns]; omega
theorem Qwz {out:List Ct} {c x:Ct} (h:x∈Ns out c):x=c∨x∈out:=by
  simp only [Ns,List.mem_append,List.mem_cons] at h
  rcases h with h | h | h
  · exact .inr (List.mem_of_mem_take h)
  · exact .inl h
  · exact .inr (List.mem_of_mem_drop h)
def Q6 (l:List Ct):List Ct:=l.foldl Ns []
theorem Qmo (l:List Ct) (c:Ct):Q6 (l++[c])=Ns (Q6 l) c:=by simp [Q6,List.foldl_append]
theorem Qmp {l:List Ct} {i:Nat} {c:Ct} (h:l[i]? = some c):Q6 (l.take (i+1))=Ns (Q6 (l.take i)) c:=by
  rw [List.take_succ,h]; exact Qmo _ _
theorem Qc2:∀ (l acc:List Ct),(l.foldl Ns acc).length=acc.length+l.length
  | [],acc=>by simp
  | c::l,acc=>by simp only [List.foldl_cons]; rw [Qc2 l (Ns acc c),Qwy]; simp; omega
theorem U7 (l:List Ct):(Q6 l).length=l.length:=by unfold Q6; rw [Qc2]; simp
theorem Qc3:∀ (l acc:List Ct) {x:Ct},x∈l.foldl Ns acc→x∈l∨x∈acc
  | [],acc,x,h=>.inr h
  |
   c::l,acc,x,h=>by
   simp only [List.foldl_cons] at h
   rcases Qc3 l _ h with h | h
   · exact .inl (List.mem_cons_of_mem _ h)
   · rcases Qwz h with rfl | h
     · exact .inl (List.mem_cons_self ..)
     · exact .inr h
theorem Rh {l:List Ct} {x:Ct} (h:x∈Q6 l):x∈l:=by
  rcases Qc3 l [] h with h | h
  · exact h
  · cases h
theorem Qig {α:Type} (l:List α) (z x:α) {k m':Nat} (hk:k≤l.length) (hm:m'=l.length-k) :
    ((l++[z]).take (k+1)++((l++[z]).drop k).take m'++(l++[z]).drop (k+1+m')).set k x=l.take k++x::l.drop k:=by
  subst hm
  have e1:((l++[z]).drop k).take (l.length-k)=l.drop k:=by
    rw [List.drop_append_of_le_length hk,List.take_append_of_le_length (by simp),List.take_of_length_le (by simp)]
  have e2:(l++[z]).drop (k+1+(l.length-k))=[]:=List.drop_eq_nil_of_le (by simp; omega)
  rw [e1,e2,List.append_nil]
  have e3:(l++[z]).take (k+1)=(l++[z]).take k++[(l++[z])[k]'(by simp; omega)]:=by rw [List.take_succ_eq_append_getElem]
  rw [e3,List.take_append_of_le_length hk,List.append_assoc,List.set_append,if_neg (by simp; omega)]
  simp [Nat.min_eq_left hk]
def Wi (a b:Pt):List Int:=Rz (Xi b.c a.c) (X8 b.c a.c)
def Xd (sg:List Int→Int) (a b:Pt):Ct:={ kind:=2,i0:=a.id,i1:=b.id,i2:=0,i3:=0,p:=Wi a b,want:=Hr sg (Wi a b) }
end Orr

namespace Orr
open Go Go.Proofs
set_option maxRecDepth 10000
abbrev pr (p:List Int):TV:=.one (pl p)
theorem J8 {p:List Int} {i:Nat} {z:Int} (h:p[i]? = some z):(p.map Zq)[i]? = some (Zq z):=Zm h
theorem Oo (p:List Int):Qc Tryz.prog 76 [pr p] [pr (trim p)]:=by
  refine Z1 Tryz.func76 rfl (ln 0 rfl rfl fun hl=>?_)
  rw [List.length_map] at hl
  refine go tt [] rfl trivial ?_
  refine lp (S:=Nat) 0 (fun L1 n=>(3,.v (.one (.int .i64 (n:Int))))::L1) (fun _=>[]) id (fun n=>n≤p.length∧∀ j x,n≤j→p[j]? = some x→x=0) (p.map Zq).length ⟨by simp,fun j x h1 h2=>by
    have:=(List.getElem?_eq_some_iff.1 h2).1; simp at h1; omega⟩ rfl (fun _ _=>rfl) rfl fun n ⟨h1,h2⟩=>?_
  cases n with
  | zero=>exact en tt [.f (by simp),.f rfl,.i 0] rfl (by rw [Qbt h1 h2 (fun h=>by omega)]; simp [pl]) (by simp [Qa])
  |
   succ n =>
   obtain ⟨x,hx⟩:∃ x,p[n]? = some x:=⟨_,List.getElem?_eq_getElem (by omega)⟩
   by_cases h0:x=0
   · refine go tt [.t (by simp),.r 11 (v:=.one (.int .i64 (n:Int))) (by simp),.x (J8 hx),.c [] Gu,.t (by simp [h0]),.r 17 (v:=.one (.int .i64 (n:Int))) (by simp)] rfl (by simp [Qa]; omega) ?_
     exact rd n (by simp) ⟨by omega,fun j y h3 h4=>by
         rcases Nat.eq_or_lt_of_le h3 with rfl | h3
         · rw [hx] at h4; injection h4 with h4; rw [←h4,h0]
         · exact h2 j y h3 h4⟩ rfl
   · exact en tt [.t (by simp),.r 11 (v:=.one (.int .i64 (n:Int))) (by simp),.x (J8 hx),.c [] Gu,.f (by simp [h0]),.i (n+1)] rfl (by rw [Qbt h1 h2 (fun _=>⟨x,hx,h0⟩)]; simp [pl,List.map_take]) (by simp [Qa] <;> omega)
theorem Qny (p:List Int) (k:Nat):Qc Tryz.prog 112 [pr p,.one (.int .i64 (k:Int))] [.agg (Zq (p.getD k 0))]:=by
  by_cases h:k<p.length
  · have hx:=List.getElem?_eq_getElem h
    have e:p.getD k 0=p[k]:=by simp [List.getD,hx]
    rw [e]
    exact w tt Tryz.func112 rfl [.t (by simp; omega),.x (J8 hx)] rfl rfl trivial
  · have e:p.getD k 0=0:=by simp [List.getD,List.getElem?_eq_none (Nat.le_of_not_lt h)]
    rw [e,Fl]
    exact w tt Tryz.func112 rfl [.f (by simp; omega)] rfl rfl trivial
def fil (f:Nat→List LV) (z:List LV) (n k:Nat):List (List LV):=(List.range n).map fun i=>if i<k then f i else z
theorem Gk (f:Nat→List LV) (z:List LV) (n k:Nat):(fil f z n k).length=n:=by simp [fil]
theorem Fe (f:Nat→List LV) (z:List LV) (n:Nat):List.replicate n z=fil f z n 0:=by
  refine List.ext_getElem? fun i=>?_
  simp only [fil,List.getElem?_replicate,List.getElem?_map]
  by_cases h:i<n
  · simp [h]
  · simp [h]
theorem Ta (f:Nat→List LV) (z:List LV) (n:Nat):fil f z n n=(List.range n).map f:=by
  refine List.map_congr_left fun i hi=>?_
  rw [if_pos (List.mem_range.1 hi)]
theorem Tc (f:Nat→List LV) (z:List LV) {n k:Nat} (h:k<n):(fil f z n k).set k (f k)=fil f z n (k+1):=by
  refine List.ext_getElem? fun i=>?_
  rw [List.getElem?_set]
  simp only [fil,List.getElem?_map,List.length_map,List.length_range,h,if_true]
  by_cases e:k=i
  · subst e; simp [h]
  · simp only [e,if_false]
    by_cases hi:i<n
    · simp only [List.getElem?_range hi,Option.map_some]
      congr 1
      by_cases h2:i<k
      · rw [if_pos h2,if_pos (by omega)]
      · rw [if_neg h2,if_neg (by omega)]
    · simp [List.getElem?_eq_none,hi]
theorem Qeq {n fid:Nat} {l1 l2:List LV} {g:Nat→Int} (hn:n<274877906944) (h:∀ k,k<n→Qc Tryz.prog fid [.one (.int .i64 (k:Int)),.one (.sh l1),.one (.sh l2)] [.agg (Zq (g k))]):Qc Tryz.prog 109 [.one (.int .i64 (n:Int)),.one (.fn fid [] [.sh l1,.sh l2])] [pr (Vi n g)]:=by
  refine Z1 Tryz.func109 rfl ?_
  refine go tt [.i n,.i n,.r 10 (eI (b:=(n:Int)) (by simp))] rfl (by simp [Qa]; omega) ?_
  rw [Fe fun k=>Zq (g k)]
  refine lp (S:=Nat) 1 (fun L1 k=>(11,.v (.one (.int .i64 (k:Int))))::L1) (fun k=>[.row false 29 2 (fil (fun k=>Zq (g k)) [.bool false,.nils] n k)]) (fun k=>n-k) (fun k=>k≤n) 0 (Nat.zero_le _) rfl (fun _ _=>rfl) rfl fun k hk=>?_
  by_cases hlt:k<n
  · refine go tt [.t (by simp; omega),.c [] (h k hlt),.i k] rfl (by simp [Qa,Gk]; omega) ?_
    have e:=Tc (fun k=>Zq (g k)) [.bool false,.nils] hlt
    rw [e]
    exact rd (k+1) (by omega) hlt rfl
  · obtain rfl:k=n:=by omega
    have e:fil (fun k=>Zq (g k)) [.bool false,.nils] k k=((List.range k).map g).map Zq:=by rw [Ta]; simp
    rw [e]
    exact en tt [.f (by simp),.c [] (Oo _)] rfl rfl trivial
theorem Qnu {n fid:Nat} {l1:List LV} {g:Nat→Int} (hn:n<274877906944) (h:∀ k,k<n→Qc Tryz.prog fid [.one (.int .i64 (k:Int)),.one (.sh l1)] [.agg (Zq (g k))]):Qc Tryz.prog 109 [.one (.int .i64 (n:Int)),.one (.fn fid [] [.sh l1])] [pr (Vi n g)]:=by
  refine Z1 Tryz.func109 rfl ?_
  refine go tt [.i n,.i n,.r 10 (eI (b:=(n:Int)) (by simp))] rfl (by simp [Qa]; omega) ?_
  rw [Fe fun k=>Zq (g k)]
  refine lp (S:=Nat) 1 (fun L1 k=>(11,.v (.one (.int .i64 (k:Int))))::L1) (fun k=>[.row false 29 2 (fil (fun k=>Zq (g k)) [.bool false,.nils] n k)]) (fun k=>n-k) (fun k=>k≤n) 0 (Nat.zero_le _) rfl (fun _ _=>rfl) rfl fun k hk=>?_
  by_cases hlt:k<n
  · refine go tt [.t (by simp; omega),.c [] (h k hlt),.i k] rfl (by simp [Qa,Gk]; omega) ?_
    have e:=Tc (fun k=>Zq (g k)) [.bool false,.nils] hlt
    rw [e]
    exact rd (k+1) (by omega) hlt rfl
  · obtain rfl:k=n:=by omega
    have e:fil (fun k=>Zq (g k)) [.bool false,.nils] k k=((List.range k).map g).map Zq:=by rw [Ta]; simp
    rw [e]
    exact en tt [.f (by simp),.c [] (Oo _)] rfl rfl trivial
theorem Q6c {p q:List Int} (k:Nat) (hp:Bd 4294967295 p) (hq:Bd 4294967295 q):Qc Tryz.prog 110 [.one (.int .i64 (k:Int)),.one (.sh [pl p]),.one (.sh [pl q])] [.agg (Zq (p.getD k 0+q.getD k 0))] :=
  w tt Tryz.func110 rfl [.c [] (Qny p k),.c [] (Qny q k),.c [] (Nm (Qe _) (Qe _) (Qq hp k) (Qq hq k))] rfl rfl trivial
theorem Q6m {p q:List Int} (k:Nat) (hp:Bd 4294967295 p) (hq:Bd 4294967295 q):Qc Tryz.prog 233 [.one (.int .i64 (k:Int)),.one (.sh [pl p]),.one (.sh [pl q])] [.agg (Zq (p.getD k 0-q.getD k 0))] :=
  w tt Tryz.func233 rfl [.c [] (Qny p k),.c [] (Qny q k),.c [] (Qul (Qe _) (Qe _) (Qq hp k) (Qq hq k))] rfl rfl trivial
theorem Xm {p:List Int} {k:Nat} (h:k<p.length):p[k]? = some (p.getD k 0):=by simp [List.getD,List.getElem?_eq_getElem h]
theorem Quc {p:List Int} {c:Int} {k:Nat} (hk:k<p.length) (hp:Bd 4294967295 p) (hc:Qn c≤4294967295):Qc Tryz.prog 214 [.one (.int .i64 (k:Int)),.one (.sh [pl p]),.one (.sh (Zq c))] [.agg (Zq (p.getD k 0*c))] :=
  w tt Tryz.func214 rfl [.x (J8 (Xm hk)),.c [] (Gt (Qe _) (Qe _) (Qq hp k) hc)] rfl rfl trivial
theorem Q6h {p:List Int} {k:Nat} (hk:k<p.length) (hp:Bd 4294967295 p):Qc Tryz.prog 299 [.one (.int .i64 (k:Int)),.one (.sh [pl p])] [.agg (Zq (-(p.getD k 0)))] :=
  w tt Tryz.func299 rfl [.x (J8 (Xm hk)),.c [] (Og (Qe _) (Qq hp k))] rfl rfl trivial
theorem Qq0 {p:List Int} {k:Nat} (hk:k+1<p.length) (hl:p.length<274877906944) (hp:Bd 4294967295 p):Qc Tryz.prog 269 [.one (.int .i64 (k:Int)),.one (.sh [pl p])] [.agg (Zq (p.getD (k+1) 0*((k+1:Nat):Int)))] :=
  w tt Tryz.func269 rfl [.x (J8 (Xm hk)),.r 10 (eI (b:=((k+1:Nat):Int)) (by omega)),.c [] (Qkm (by omega)),.c [] (Gt (Qe _) (Qe _) (Qq hp _) (Qr5 (show k+1<274877906944 by omega)))] rfl rfl (by simp [Qa] <;> omega)
theorem Q6k {p q:List Int} (hlp:p.length<274877906944) (hlq:q.length<274877906944) (hp:Bd 4294967295 p) (hq:Bd 4294967295 q):Qc Tryz.prog 66 [pr p,pr q] [pr (C3 p q)] :=
  w tt Tryz.func66 rfl [.r 9 (eI (b:=((max p.length q.length:Nat):Int)) (by simp; omega)),.c [] (Qeq (by omega) fun k _=>Q6c k hp hq)] rfl rfl trivial
theorem Qek {p q:List Int} (hlp:p.length<274877906944) (hlq:q.length<274877906944) (hp:Bd 4294967295 p) (hq:Bd 4294967295 q):Qc Tryz.prog 184 [pr p,pr q] [pr (Vz p q)] :=
  w tt Tryz.func184 rfl [.r 9 (eI (b:=((max p.length q.length:Nat):Int)) (by simp; omega)),.c [] (Qeq (by omega) fun k _=>Q6m k hp hq)] rfl rfl trivial
theorem Qt3 {p:List Int} (hlp:p.length<274877906944) (hp:Bd 4294967295 p):Qc Tryz.prog 272 [pr p] [pr (Y9 p)] :=
  w tt Tryz.func272 rfl [.r 4 (eI (b:=(p.length:Int)) (by simp)),.c [] (Qnu hlp fun k hk=>Q6h hk hp)] rfl rfl trivial
theorem Hi {p:List Int} {c:Int} (hlp:p.length<274877906944) (hp:Bd 4294967295 p) (hc:Qn c≤4294967295):Qc Tryz.prog 159 [pr p,.agg (Zq c)] [pr (Qx p c)] :=
  w tt Tryz.func159 rfl [.r 6 (eI (b:=(p.length:Int)) (by simp)),.c [] (Qeq hlp fun k hk=>Quc hk hp hc)] rfl rfl trivial
theorem Hh {p:List Int} (hlp:p.length<274877906944) (hp:Bd 4294967295 p):Qc Tryz.prog 229 [pr p] [pr (Zj p)] :=
  w tt Tryz.func229 rfl [.r 6 (eI (b:=((p.length-1:Nat):Int)) (by simp; omega)),.c [] (Qnu (by omega) fun k hk=>Qq0 (by omega) hlp hp)] rfl rfl (by simp [Qa]; omega)
theorem Uq {ls:List (List LV)} {p:List Int} (hi:IsInts ls p) (hl:p.length<274877906944) (hs:Bd 4294967295 p):Qc Tryz.prog 115 [.one (.row ls)] [pr (trim p)]:=by
  refine Z1 Tryz.func115 rfl ?_
  have hlen:=hi.len
  refine go tt [.i ls.length,.i ls.length] rfl (by simp [Qa]; omega) ?_
  rw [Fe fun k=>Zq (p.getD k 0)]
  refine lp (S:=Nat) 1 (fun L1 k=>(11,.v (.one (.int .i64 (k:Int))))::L1) (fun k=>[.row false 29 2 (fil (fun k=>Zq (p.getD k 0)) [.bool false,.nils] ls.length k)]) (fun k=>ls.length-k) (fun k=>k≤ls.length) 0 (Nat.zero_le _) rfl (fun _ _=>rfl) rfl fun k hk=>?_
  by_cases hlt:k<ls.length
  · obtain ⟨x,y,hx,hxy⟩:=hi.get (Xm (p:=p) (k:=k) (by omega))
    have cn:=Ur hxy (Qq hs k)
    obtain ⟨b,l,rfl,rfl,_⟩:=hxy
    refine go tt [.t (by simp; omega),.x hx,.c [] cn,.i k] rfl (by simp [Qa,Gk]; omega) ?_
    have e:=Tc (fun k=>Zq (p.getD k 0)) [.bool false,.nils] hlt
    rw [e]
    exact rd (k+1) (by omega) hlt rfl
  · obtain rfl:k=ls.length:=by omega
    have e:fil (fun k=>Zq (p.getD k 0)) [.bool false,.nils] ls.length ls.length=p.map Zq:=by
      rw [Ta,hlen]
      refine List.ext_getElem? fun i=>?_
      by_cases hi:i<p.length
      · simp [List.getElem?_range hi,List.getD,List.getElem?_eq_getElem hi]
      · simp [List.getElem?_eq_none,hi]
    rw [e]
    exact en tt [.f (by simp),.c [] (Oo _)] rfl rfl trivial
theorem Xy {p:List Int} (ht:Qk p) (hl:p.length<274877906944) (hs:Bd 4294967295 p):Qc Tryz.prog 115 [pr p] [pr p]:=by
  have:=Uq (Zk p) hl hs
  rw [ht] at this; exact this
theorem Q2g {p:List Int} {i:Nat} {z:Int} (h:p[i]? = some z):(p.map fun (x:Int)=>[LV.int .i64 x])[i]? = some [.int .i64 z]:=Zm h
theorem Qt4 {p:List Int} (hl:p.length<274877906944) (hr:∀ z∈p,-9223372036854775808≤z∧z≤9223372036854775807):Qc Tryz.prog 18 [.one (ids p)] [pr (trim p)]:=by
  refine Z1 Tryz.func18 rfl ?_
  refine go tt [.r 7 (eI (b:=(p.length:Int)) (by simp)),.i p.length,.i p.length,.r 10 (eI (b:=(p.length:Int)) (by simp))] rfl (by simp [Qa]; omega) ?_
  rw [Fe fun k=>Zq (p.getD k 0)]
  refine lp (S:=Nat) 1 (fun L1 k=>(11,.v (.one (.int .i64 (k:Int))))::L1) (fun k=>[.row false 29 2 (fil (fun k=>Zq (p.getD k 0)) [.bool false,.nils] p.length k)]) (fun k=>p.length-k) (fun k=>k≤p.length) 0 (Nat.zero_le _) rfl (fun _ _=>rfl) rfl fun k hk=>?_
  by_cases hlt:k<p.length
  · have hg:=Xm hlt
    refine go tt [.t (by simp; omega),.x (Q2g hg),.c [] (Qkm (hr _ (List.mem_of_getElem? hg))),.i k] rfl (by simp [Qa,Gk]; omega) ?_
    have e:=Tc (fun k=>Zq (p.getD k 0)) [.bool false,.nils] hlt
    rw [e]
    exact rd (k+1) (by omega) hlt rfl
  · obtain rfl:k=p.length:=by omega
    have e:fil (fun k=>Zq (p.getD k 0)) [.bool false,.nils] p.length p.length=p.map Zq:=by
      rw [Ta]
      refine List.ext_getElem? fun i=>?_
      by_cases hi:i<p.length
      · simp [List.getElem?_range hi,List.getD,List.getElem?_eq_getElem hi]
      · simp [List.getElem?_eq_none,hi]
    rw [e]
    exact en tt [.f (by simp),.c [] (Oo _)] rfl rfl trivial
end Orr

namespace Orr
open Go Go.Proofs
set_option maxRecDepth 10000
theorem Qlw (l:List Int) (i:Nat) (z:Int):(l.map Zq).set i (Zq z)=(l.set i z).map Zq:=by rw [List.map_set]
theorem Iw (m:Nat):((List.replicate m [LV.bool false,LV.nils]).map fun c=>c.map Ay)=(List.replicate m (0:Int)).map Zq:=by
  simp [Fl,Ay]
theorem Qej {p0 q:List Int} {s t:Nat} (tq:Qk q) (hlp:p0.length<137438953472) (hlq:q.length<137438953472) (hp:Bd s p0) (hq:Bd t q) (hst:s+t≤4294967000):Qc Tryz.prog 213 [pr p0,pr q] [pr (Zt (trim p0) q)]:=by
  have cp:=Uq (Zk p0) (by omega) (Qd hp (show s≤4294967295 by omega))
  have hp:=Jk hp
  have hlp:=Nat.lt_of_le_of_lt (Xf p0) hlp
  obtain ⟨p,ep⟩:∃ p,p=trim p0:=⟨_,rfl⟩
  rw [←ep] at cp hp hlp ⊢
  have cq:=Xy tq (by omega) (Qd hq (show t≤4294967295 by omega))
  by_cases h0:p.length=0
  · have e:Zt p q=[]:=by unfold Zt; rw [if_pos (.inl h0)]
    rw [e]
    exact w tt Tryz.func213 rfl [.c [] cp,.c [] cq,.t (by simp; exact List.eq_nil_of_length_eq_zero h0),.t rfl] rfl rfl trivial
  by_cases h1:q.length=0
  · have e:Zt p q=[]:=by unfold Zt; rw [if_pos (.inr h1)]
    rw [e]
    exact w tt Tryz.func213 rfl [.c [] cp,.c [] cq,.f (by simp; intro h; subst h; simp at h0),.t (by simp; exact List.eq_nil_of_length_eq_zero h1)] rfl rfl trivial
  refine Z1 Tryz.func213 rfl ?_
  have e:Zt p q=trim (Kn p q (List.replicate (p.length+q.length-1) 0) p.length):=by unfold Zt; rw [if_neg (by omega)]
  rw [e]
  obtain ⟨N,hN⟩:∃ N,N=p.length+q.length-1:=⟨_,rfl⟩
  rw [←hN]
  obtain ⟨o,ho⟩:∃ o,o=List.replicate N (0:Int):=⟨_,rfl⟩
  rw [←ho]
  have hol:o.length=N:=by rw [ho]; simp
  have ho0:∀ m,o.getD m 0=0:=fun m=>by rw [ho]; exact Jz N m
  refine go tt [.c [] cp,.c [] cq,.f (by simp; intro h; subst h; simp at h0),.f (by simp; intro h; subst h; simp at h1),.r 27 (eI (b:=(N:Int)) (by simp; omega)),.i N,.i N] rfl (by simp [Qa]; omega) ?_
  refine nl 0 rfl rfl rfl ?_
  rw [Iw,←ho]
  refine lp (S:=Nat) 1 (fun L1 i=>(31,.v (.one (.int .i64 (i:Int))))::L1) (fun i=>[.row false 29 2 ((Kn p q o i).map Zq)]) (fun i=>p.length-i) (fun i=>i≤p.length) 0 (Nat.zero_le _) rfl (fun _ _=>rfl) rfl fun i hi=>?_
  by_cases hlt:i<p.length
  · refine go tt [.t (by simp; omega),.x (J8 (Xm hlt))] rfl trivial ?_
    refine lp (S:=Nat) 2 (fun L1 k=>(38,.v (.one (.int .i64 (k:Int))))::L1) (fun k=>[.row false 29 2 ((Hx (p.getD i 0) q i (Kn p q o i) k).map Zq),.blk 29 (Zq (p.getD i 0))]) (fun k=>q.length-k) (fun k=>k≤q.length) 0 (Nat.zero_le _) rfl (fun _ _=>rfl) rfl fun k hk=>?_
    by_cases hk2:k<q.length
    · have hm1:Qn ((Hx (p.getD i 0) q i (Kn p q o i) k).getD (i+k) 0)≤4294967295:=Nat.le_trans (Gz (t:=39) (Qfo (by rw [Ko]; omega) (Qfn (fun j hj=>by omega) ho0 (fun i j=>Vq (Qq hp i) (Qq hq j))) (fun j=>Vq (Qq hp i) (Qq hq j)) (i+k)) (Nat.lt_of_lt_of_eq (show i+1<549755813888 by omega) (by decide))) (by omega)
      have hm2:Qn (p.getD i 0*q.getD k 0)≤4294967295:=Nat.le_trans (Q0 _ _) (by have:=Qq hp i; have:=Qq hq k; omega)
      have hg:(Hx (p.getD i 0) q i (Kn p q o i) k)[i+k]? = some ((Hx (p.getD i 0) q i (Kn p q o i) k).getD (i+k) 0):=Xm (by rw [Hy,Ko]; omega)
      refine go tt [.t (by simp; omega),.x (J8 (Xm hk2)),.i (i+k),.x (J8 hg),.c [] (Gt (Qe _) (Qe _) (Nat.le_trans (Qq hp i) (by omega)) (Nat.le_trans (Qq hq k) (by omega))),.c [] (Nm (Qe _) (Qe _) hm1 hm2),.i (i+k)] rfl (by simp [Qa,Hy,Ko] <;> omega) ?_
      rw [Qlw]
      exact rd (k+1) (by omega) hk2 rfl
    · obtain rfl:k=q.length:=by omega
      exact go tt [.f (by simp)] rfl (by simp [Qa]; omega) (rd (i+1) (by omega) hlt rfl)
  · obtain rfl:i=p.length:=by omega
    exact en tt [.f (by simp),.c [] (Oo _)] rfl rfl trivial
theorem Q6l {p q:List Int} {s t:Nat} (tp:Qk p) (tq:Qk q) (hlp:p.length<137438953472) (hlq:q.length<137438953472) (hp:Bd s p) (hq:Bd t q) (hst:s+t≤4294967000):Qc Tryz.prog 213 [pr p,pr q] [pr (Zt p q)]:=by
  have h:=Qej tq hlp hlq hp hq hst
  rw [show trim p=p from tp] at h
  exact h
theorem Q02 {p q:List Int} (hlp:p.length<274877906944) (hlq:q.length<274877906944) (hp:Bd 4294967295 p) (hq:Bd 4294967295 q):Qc Tryz.prog 224 [pr p,pr q] [.one (.bool (decide (trim p=trim q)))]:=by
  refine Z1 Tryz.func224 rfl ?_
  have cp:=Uq (Zk p) hlp hp
  have cq:=Uq (Zk q) hlq hq
  have bp:=Jk hp
  have bq:=Jk hq
  have l1:=Xf p
  have l2:=Xf q
  obtain ⟨a,ha⟩:∃ a,a=trim p:=⟨_,rfl⟩
  obtain ⟨b,hb⟩:∃ b,b=trim q:=⟨_,rfl⟩
  rw [←ha] at cp bp l1 ⊢
  rw [←hb] at cq bq l2 ⊢
  by_cases hl:a.length=b.length
  · refine go tt [.c [] cp,.c [] cq,.f (by simp; omega)] rfl trivial ?_
    refine lp (S:=Nat) 0 (fun L1 i=>(18,.v (.one (.int .i64 (i:Int))))::L1) (fun _=>[]) (fun i=>a.length-i) (fun i=>i≤a.length∧a.take i=b.take i) 0 ⟨Nat.zero_le _,rfl⟩ rfl (fun _ _=>rfl) rfl fun i ⟨hi,he⟩=>?_
    by_cases hlt:i<a.length
    · have ga:=Xm hlt
      have gb:=Xm (p:=b) (k:=i) (by omega)
      have cc:=Om (Qe (a.getD i 0)) (Qe (b.getD i 0)) (Qq bp i) (Qq bq i)
      by_cases hz:a.getD i 0=b.getD i 0
      · refine go tt [.t (by simp; omega),.x (J8 ga),.x (J8 gb),.c [] cc,.f (by simpa using Qof.2 hz)] rfl (by simp [Qa]; omega) ?_
        exact rd (i+1) (by omega) ⟨hlt,by rw [List.take_add_one,List.take_add_one,he,ga,gb,hz]⟩ rfl
      · exact en tt [.t (by simp; omega),.x (J8 ga),.x (J8 gb),.c [] cc,.t (by have:=mt Qof.1 hz; simpa using this)] rfl (by rw [decide_eq_false]; intro h; exact hz (by rw [h])) trivial
    · obtain rfl:i=a.length:=by omega
      rw [List.take_length,hl,List.take_length] at he
      exact en tt [.f (by simp)] rfl (by rw [decide_eq_true he]) trivial
  · exact en tt [.c [] cp,.c [] cq,.t (by simp; omega)] rfl (by rw [decide_eq_false]; intro h; exact hl (by rw [h])) trivial
theorem Qt7 {p:List Int} {n d:Int} {s t:Nat} (hl:p.length<274877906944) (hp:Bd s p) (hn:Qn n≤t) (hd:Qn d≤t) (hst:s+p.length*(t+1)+2*t+10≤4294967295):Qc Tryz.prog 240 [pr p,.agg (Zq n),.agg (Zq d)] [.agg (Zq (Q3l p n d))]:=by
  refine Z1 Tryz.func240 rfl ?_
  refine go tt [.c [] (Qkm (z:=1) (by decide)),.r 13 (eI (b:=(p.length:Int)-1-((0:Nat):Int)) (by simp))] rfl (by simp [Qa]; omega) ?_
  refine nlb 3 rfl rfl rfl ?_
  have e0:[LV.bool false,LV.nils].map Ay=Zq (Vf p n d 0).1:=by simp [Ay,Vf,Fl]
  rw [e0]
  refine lp (S:=Nat) 5 (fun L1 j=>(9,.v (.one (.int .i64 ((p.length:Int)-1-(j:Int)))))::L1) (fun j=>[.blk 29 (Zq n),.blk 29 (Zq d),.blk 29 [.bool false,.nils],.blk 29 (Zq (Vf p n d j).1),.blk 29 (Zq (Vf p n d j).2)]) (fun j=>p.length-j) (fun j=>j≤p.length) 0 (Nat.zero_le _) rfl (fun _ _=>rfl) rfl fun j hj=>?_
  have hv:=Qgs (k:=j) hp hn hd
  have hjl:j*(t+1)≤p.length*(t+1):=Nat.mul_le_mul_right _ (by omega)
  have hjl2:j*t≤j*(t+1):=Nat.mul_le_mul_left _ (by omega)
  by_cases hlt:j<p.length
  · have hc:=Qq hp (p.length-1-j)
    have hm1:Qn ((Vf p n d j).1*n)≤4294967295:=Nat.le_trans (Q0 _ _) (by omega)
    have hm2:Qn (p.getD (p.length-1-j) 0*(Vf p n d j).2)≤4294967295:=Nat.le_trans (Q0 _ _) (by omega)
    refine go tt [.t (by simp; omega),.c [] (Gt (Qe _) (Qe _) (by omega) (by omega)),.r 22 (eI (b:=((p.length-1-j:Nat):Int)) (by omega)),.x (J8 (Xm (p:=p) (k:=p.length-1-j) (by omega))),.c [] (Gt (Qe _) (Qe _) (by omega) (by omega)),.c [] (Nm (Qe _) (Qe _) hm1 hm2),.c [] (Gt (Qe _) (Qe _) (by omega) (by omega)),.r 17 (eI (b:=(p.length:Int)-1-((j+1:Nat):Int)) (by omega))] rfl (by simp [Qa] <;> omega) ?_
    exact rd (j+1) (by omega) hlt rfl
  · obtain rfl:j=p.length:=by omega
    exact en tt [.f (by simp; omega)] rfl rfl trivial
theorem Wp {p:List Int} (tp:Qk p) (hl:p.length<274877906944) (hp:Bd 4294967295 p):Qc Tryz.prog 295 [pr p] [.agg (Zq (p.getD (p.length-1) 0))]:=by
  have cn:=Xy tp hl hp
  by_cases h0:p=[]
  · subst h0
    exact w tt Tryz.func295 rfl [.c [] cn,.t (by simp)] rfl (by simp [Fl]) trivial
  · have hpl:0<p.length:=List.length_pos_iff.2 h0
    exact w tt Tryz.func295 rfl [.c [] cn,.f (by simpa using h0),.r 12 (eI (b:=((p.length-1:Nat):Int)) (by simp; omega)),.x (J8 (Xm (by omega)))] rfl rfl (by simp [Qa]; omega)
end Orr

namespace Orr
open Go Go.Proofs
set_option maxRecDepth 10000
theorem Q5s {a b:Int} {q:Rat} (h1:a=q.num) (h2:b=(q.den:Int)):[sg a,mg a,sg b,mg b]=rl q:=by rw [h1,h2]
theorem Si {n d:Int} (h0:d≠0) (hn:Qn n≤4294967295) (hd:Qn d≤4294967295):Qc Tryz.prog 197 [.agg (Zq n),.agg (Zq d)] [.agg (rl (Rat.divInt n d))]:=by
  have cg:=Qtt (Zk [n,d]) (fun z hz=>by simp at hz; rcases hz with rfl | rfl <;> assumption)
  have gp:=Qh6 (n:=n) h0
  have gs:=Qo0 (n:=n) h0 hd
  have m1:=Qam n d
  have m2:=Qan n d
  obtain ⟨g,hg⟩:∃ g,g=((Z7 [n,d]:Nat):Int):=⟨_,rfl⟩
  rw [←hg] at cg gp gs m1 m2
  by_cases hneg:d<0
  · obtain ⟨e1,e2⟩:=Q2v (n:=n) hneg
    rw [←hg] at e1 e2
    rw [←Q5s e1 e2]
    exact w tt Tryz.func197 rfl [.c [] cg,.t (by simpa using hneg),.c [] (Og (Qe n) hn),.c [] (Og (Qe d) hd),.c [] (Ga (Qe _) (Qe _) (by rw [Z8]; exact hn) gs (by omega) (Qpk m1)),.c [] (Ga (Qe _) (Qe _) (by rw [Z8]; exact hd) gs (by omega) (Qpk m2))] rfl rfl trivial
  · obtain ⟨e1,e2⟩:=Qfl (n:=n) (d:=d) (by omega)
    rw [←hg] at e1 e2
    rw [←Q5s e1 e2]
    exact w tt Tryz.func197 rfl [.c [] cg,.f (by simpa using hneg),.c [] (Ga (Qe _) (Qe _) hn gs (by omega) m1),.c [] (Ga (Qe _) (Qe _) hd gs (by omega) m2)] rfl rfl trivial
theorem Ia {x y x' y':LV} {n d:Int} (h1:Xg x y n) (h2:Xg x' y' d) (hn:Qn n≤4294967295) (hd:Qn d≤4294967295):Qc Tryz.prog 137 [.agg [x,y,x',y']] [.agg (rl (Zy n d))]:=by
  have c1:=Ur h1 hn
  have c2:=Ur h2 hd
  obtain ⟨b,l,rfl,rfl,_⟩:=h1
  obtain ⟨b',l',rfl,rfl,_⟩:=h2
  by_cases h0:d=0
  · have e:Zy n d=Rat.divInt n 1:=by unfold Zy; rw [if_pos h0]
    rw [e]
    exact w tt Tryz.func137 rfl [.c [] c2,.c [] Gu,.t (by simpa using h0),.c [] (Qkm (z:=1) (by decide)),.c [] c1,.c [] (Si (by decide) hn (by decide))] rfl rfl trivial
  · have e:Zy n d=Rat.divInt n d:=by unfold Zy; rw [if_neg h0]
    rw [e]
    exact w tt Tryz.func137 rfl [.c [] c2,.c [] Gu,.f (by simpa using h0),.c [] c1,.c [] (Si h0 hn hd)] rfl rfl trivial
theorem Ot {q:Rat} (hq:Qs 4294967295 q):Qc Tryz.prog 137 [.agg (rl q)] [.agg (rl q)]:=by
  have:=Ia (Qe q.num) (Qe (q.den:Int)) hq.1 hq.2
  rwa [Tk] at this
theorem Qep {a b:Rat} (ha:Qs 2147483647 a) (hb:Qs 2147483647 b):Qc Tryz.prog 198 [.agg (rl a),.agg (rl b)] [.agg (Zq (a.num*(b.den:Int))),.agg (Zq (b.num*(a.den:Int))),.agg (Zq ((a.den:Int)*(b.den:Int)))] :=
  w tt Tryz.func198 rfl [.c [] (Ot (ha.mono (by decide))),.c [] (Ot (hb.mono (by decide))),.c [] (Gt (Qe _) (Qe _) (Nat.le_trans ha.1 (by decide)) (Nat.le_trans hb.2 (by decide))),.c [] (Gt (Qe _) (Qe _) (Nat.le_trans hb.1 (by decide)) (Nat.le_trans ha.2 (by decide))),.c [] (Gt (Qe _) (Qe _) (Nat.le_trans ha.2 (by decide)) (Nat.le_trans hb.2 (by decide)))] rfl rfl trivial
theorem U9 {a b:Rat} (ha:Qs 2147483647 a) (hb:Qs 2147483647 b):Qc Tryz.prog 138 [.agg (rl a),.agg (rl b)] [.one (.int .i64 (Zz a b))] :=
  w tt Tryz.func138 rfl [.c [] (Qep ha hb),.c [] (Om (Qe _) (Qe _) (Nat.le_trans (Q0 _ _) (by have:=ha.1; have:=hb.2; omega)) (Nat.le_trans (Q0 _ _) (by have:=hb.1; have:=ha.2; omega)))] rfl rfl trivial
theorem Qva {x y x' y':LV} {n d:Int} (h1:Xg x y n) (h2:Xg x' y' d) (hn:Qn n≤4294967295) (hd:Qn d≤4294967295):Qc Tryz.prog 82 [.agg [x,y,x',y'],.one (.row [])] [.agg (rl (Zy n d))]:=by
  have c1:=Ia h1 h2 hn hd
  obtain ⟨b,l,rfl,rfl,_⟩:=h1
  obtain ⟨b',l',rfl,rfl,_⟩:=h2
  refine Z1 Tryz.func82 rfl ?_
  refine go tt [.c [] c1] rfl trivial ?_
  refine lp (S:=Unit) 3 (fun L1 _=>(12,.v (.one (.int .i64 0)))::L1) (fun _=>[.blk 41 [.bool b,.row (lm l),.bool b',.row (lm l')],.blk 41 [.bool false,.nils,.bool false,.nils],.blk 41 (rl (Zy n d))]) (fun _=>0) (fun _=>True) () trivial rfl (fun _ _=>rfl) rfl fun _ _=>?_
  exact en tt [.f (by simp)] rfl rfl trivial
theorem Ge {q:Rat} (hq:Qs 4294967295 q):Qc Tryz.prog 82 [.agg (rl q),.one (.row [])] [.agg (rl q)]:=by
  have:=Qva (Qe q.num) (Qe (q.den:Int)) hq.1 hq.2
  rwa [Tk] at this
theorem Q1n {q:Rat} (hq:Qs 4294967295 q):Qc Tryz.prog 239 [.agg (rl q)] [.agg (rl q)]:=w tt Tryz.func239 rfl [.c [] (Ge hq)] rfl rfl trivial
theorem Qnk {p:List Int} {q:Rat} {s t:Nat} (tp:Qk p) (hl:p.length<274877906944) (hp:Bd s p) (hq:Qs t q) (hst:s+p.length*(t+1)+2*t+10≤4294967295):Qc Tryz.prog 192 [pr p,.agg (rl q)] [.one (.int .i64 (Z0 p q))]:=by
  have cc:=Om (Qe (Q3l p q.num q.den)) Wh (Nat.le_trans (Qgs hp hq.1 hq.2).1 (by omega)) (by decide)
  exact w tt Tryz.func192 rfl [.c [] (Q1n (hq.mono (by omega))),.c [] (Xy tp hl (Qd hp (by omega))),.c [] (Qt7 hl hp hq.1 hq.2 hst),.c [] cc] rfl rfl trivial
end Orr

namespace Orr
open Go Go.Proofs
set_option maxRecDepth 10000
theorem Quw {p:List Int} {g:Int} (hl:p.length<274877906944) (hp:Bd 4294967295 p) (hg:Qn g≤4294967295) (h0:g≠0) (hd:∀ z∈p,z % g=0):Qc Tryz.prog 121 [pr p,.agg (Zq g)] [pr (trim (p.map (· / g)))]:=by
  refine Z1 Tryz.func121 rfl ?_
  refine go tt [.r 9 (eI (b:=(p.length:Int)) (by simp)),.i p.length,.i p.length,.r 12 (eI (b:=(p.length:Int)) (by simp))] rfl (by simp [Qa]; omega) ?_
  rw [Fe fun k=>Zq (p.getD k 0 / g)]
  refine lp (S:=Nat) 2 (fun L1 k=>(13,.v (.one (.int .i64 (k:Int))))::L1) (fun k=>[.blk 29 (Zq g),.row false 29 2 (fil (fun k=>Zq (p.getD k 0 / g)) [.bool false,.nils] p.length k)]) (fun k=>p.length-k) (fun k=>k≤p.length) 0 (Nat.zero_le _) rfl (fun _ _=>rfl) rfl fun k hk=>?_
  by_cases hlt:k<p.length
  · have hg2:=Xm hlt
    refine go tt [.t (by simp; omega),.x (J8 hg2),.c [] (Ga (Qe _) (Qe _) (Qq hp k) hg h0 (hd _ (List.mem_of_getElem? hg2))),.i k] rfl (by simp [Qa,Gk]; omega) ?_
    have e:=Tc (fun k=>Zq (p.getD k 0 / g)) [.bool false,.nils] hlt
    rw [e]
    exact rd (k+1) (by omega) hlt rfl
  · obtain rfl:k=p.length:=by omega
    have e:fil (fun k=>Zq (p.getD k 0 / g)) [.bool false,.nils] p.length p.length=(p.map (· / g)).map Zq:=by
      rw [Ta]
      refine List.ext_getElem? fun i=>?_
      by_cases hi:i<p.length
      · simp [List.getElem?_range hi,List.getD,List.getElem?_eq_getElem hi]
      · simp [List.getElem?_eq_none,hi]
    rw [e]
    exact en tt [.f (by simp),.c [] (Uq (Zk (p.map (· / g))) (by simp; exact hl) (D9 hp g))] rfl rfl trivial
theorem Qbc (p:List Int):∀ c∈p.map Zq,c.length=2:=Q5n p fun _=>rfl
theorem Qns {lx ly:List (List LV)} {px py:List Int} {x y:LV} {d:Int} (hx:IsInts lx px) (hy:IsInts ly py) (hd:Xg x y d) (hk:Cs 4294967294 1073741824 (Crv.mk px py d)):Qc Tryz.prog 74 [.agg [.row lx,.row ly,x,y]] [.agg (cl (Crv.norm (Crv.mk px py d)))]:=by
  have hlx:=hk.lx
  have hly:=hk.ly
  simp only at hlx hly
  have htx:=Xf px
  have hty:=Xf py
  have hd1:Qn (Crv.mk px py d).d'≤4294967295:=Nat.le_trans (Qfd hk.d (by omega)) (by omega)
  have hg1:=Crv.isz_g (Crv.mk px py d) hd1
  have hg0:=Crv.g_ne (Crv.mk px py d)
  have hgd:=Crv.g_dvd (Crv.mk px py d)
  have cx:=Uq hx (by omega) (Qd hk.x (by omega))
  have cy:=Uq hy (by omega) (Qd hk.y (by omega))
  have cd:=Ur hd (Nat.le_trans hk.d (by omega))
  have bx:Bd 4294967295 (trim px):=Qd (Jk hk.x) (by omega)
  have by_:Bd 4294967295 (trim py):=Qd (Jk hk.y) (by omega)
  obtain ⟨b,l,rfl,rfl,_⟩:=hd
  obtain ⟨e,he⟩:∃ e,e=(Crv.mk px py d).d':=⟨_,rfl⟩
  obtain ⟨g,hgg⟩:∃ g,g=(Crv.mk px py d).g:=⟨_,rfl⟩
  obtain ⟨X,hX⟩:∃ X,X=trim px:=⟨_,rfl⟩
  obtain ⟨Y,hY⟩:∃ Y,Y=trim py:=⟨_,rfl⟩
  have hnorm:(Crv.mk px py d).norm=⟨trim (X.map (· / g)),trim (Y.map (· / g)),e / g⟩:=by rw [he,hgg,hX,hY]; rfl
  rw [hnorm]
  have hgdef:g=if e<0 then -((Z7 (e::(X++Y)):Nat):Int) else (Z7 (e::(X++Y)):Nat):=by rw [hgg,he,hX,hY]; rfl
  have hde:e=if d=0 then 1 else d:=by rw [he]; rfl
  simp only [←he,←hgg,←hX,←hY] at hd1 hg1 hg0 hgd htx hty cx cy bx by_
  clear hnorm hgg he hX hY
  refine Z1 Tryz.func74 rfl ?_
  refine go tt [.c [] cx,.c [] cy,.c [] cd,.c [] Gu] rfl trivial ?_
  refine ct 1 (S:=Unit) (fun _=>[(2,.v (.one (.ow 1 0))),(3,.v (pr X)),(4,.v (pr Y)),(5,.v (.one (.ow 2 0)))]) (fun _=>[.blk 31 [.row lx,.row ly,.bool b,.row (lm l)],.blk 31 [.nils,.nils,.bool false,.nils],.blk 29 (Zq e)]) (fun _=>True) rfl ?_ ?_
  · by_cases h0:d=0
    · rw [hde,if_pos h0]
      exact go tt [.t (by simpa using h0),.c [] (Qkm (z:=1) (by decide))] rfl trivial (rc () trivial rfl)
    · rw [hde,if_neg h0]
      exact go tt [.f (by simpa using h0)] rfl trivial (rc () trivial rfl)
  · intro _ _
    have hgi:IsInts ([Zq e]++X.map Zq++Y.map Zq) (e::(X++Y)):=by
      have:=Zk (e::(X++Y))
      simpa using this
    have hgs:∀ z∈e::(X++Y),Qn z≤4294967295:=fun z hz=>by
      rcases List.mem_cons.1 hz with rfl | hz
      · exact hd1
      · rcases List.mem_append.1 hz with hz | hz
        · exact bx z hz
        · exact by_ z hz
    have cg:=Qtt hgi hgs
    have co1:=Quw (p:=X) (by omega) bx hg1 hg0 fun z hz=>hgd z (List.mem_cons_of_mem _ (List.mem_append_left _ hz))
    have co2:=Quw (p:=Y) (by omega) by_ hg1 hg0 fun z hz=>hgd z (List.mem_cons_of_mem _ (List.mem_append_right _ hz))
    have ce:=Ga (Qe e) (Qe g) hd1 hg1 hg0 (hgd e (List.mem_cons_self ..))
    have hszg:=Ij hgs
    by_cases hneg:e<0
    · rw [if_pos hneg] at hgdef
      have cn:=Og (Qe ((Z7 (e::(X++Y)):Nat):Int)) hszg
      rw [←hgdef] at cn
      exact en tt [.lo,.s (Qbc X),.s (Qbc Y),.c [] cg,.t (by simpa using hneg),.c [] cn,.c [] ce,.c [] co1,.c [] co2] rfl rfl (by simp [Qa]; omega)
    · rw [if_neg hneg] at hgdef
      rw [←hgdef] at cg
      exact en tt [.lo,.s (Qbc X),.s (Qbc Y),.c [] cg,.f (by simpa using hneg),.c [] ce,.c [] co1,.c [] co2] rfl rfl (by simp [Qa]; omega)
theorem Qeo {lx ly:List (List LV)} {px py:List Int} {x y:LV} {d:Int} (hx:IsInts lx px) (hy:IsInts ly py) (hd:Xg x y d) (hk:Cs 4294967294 1073741824 (Crv.mk px py d)) (h0:d≠0):Qc Tryz.prog 215 [.one (.row lx),.one (.row ly),.agg [x,y]] [.agg (cl (Crv.norm (Crv.mk px py d))),.one (.int .i64 0)]:=by
  have cd:=Ur hd (Nat.le_trans hk.d (by omega))
  have cn:=Qns hx hy hd hk
  obtain ⟨b,l,rfl,rfl,_⟩:=hd
  exact w tt Tryz.func215 rfl [.c [] cd,.c [] Gu,.f (by simpa using h0),.c [] cn] rfl rfl trivial
theorem Q9r {lx ly:List (List LV)} {px py:List Int} (hx:IsInts lx px) (hy:IsInts ly py) (hk:Cs 4294967294 1073741824 (Crv.mk px py 0)):Qc Tryz.prog 17 [.one (.row lx),.one (.row ly)] [.agg (cl (Crv.norm (Crv.mk px py 0)))] :=
  w tt Tryz.func17 rfl [.c [] (Qns hx hy Wh hk)] rfl rfl trivial
def Ue (x y:Int):Crv:=Crv.norm ⟨trim [x],trim [y],0⟩
theorem Qho {x y:Int} (hx:-9223372036854775808≤x∧x≤9223372036854775807) (hy:-9223372036854775808≤y∧y≤9223372036854775807):Cs 64 1 ⟨trim [x],trim [y],0⟩:=by
  have key:∀ z:Int,-9223372036854775808≤z∧z≤9223372036854775807→Qn z≤64:=fun z hz=>by
    rw [J0]
    have:(2:Nat)^64=18446744073709551616:=by decide
    omega
  refine ⟨Jk fun z hz=>?_,Jk fun z hz=>?_,Nat.zero_le _,Xf [x],Xf [y]⟩
  · rw [List.mem_singleton] at hz; rw [hz]; exact key x hx
  · rw [List.mem_singleton] at hz; rw [hz]; exact key y hy
theorem Q1a {x y:Int} (hx:-9223372036854775808≤x∧x≤9223372036854775807) (hy:-9223372036854775808≤y∧y≤9223372036854775807):Qc Tryz.prog 59 [.one (.int .i64 x),.one (.int .i64 y)] [.agg (cl (Ue x y))] :=
  w tt Tryz.func59 rfl [.c [] (Qt4 (p:=[x]) (show 1<274877906944 by decide) (by intro z hz; rw [List.mem_singleton] at hz; rw [hz]; exact hx)),.c [] (Qt4 (p:=[y]) (show 1<274877906944 by decide) (by intro z hz; rw [List.mem_singleton] at hz; rw [hz]; exact hy)),.c [] (Q9r (Zk _) (Zk _) ((Qho hx hy).mono (by omega) (by omega)))] rfl rfl trivial
end Orr

namespace Orr
open Go Go.Proofs
set_option maxRecDepth 10000
theorem Ql5 {l:List Pt} {i:Nat} {p:Pt} (h:l[i]? = some p):(l.map Xe)[i]? = some [pl p.c.x,pl p.c.y,sg p.c.d,mg p.c.d,.int .i64 p.id]:=Zm h
theorem Re (l:List Pt):∀ c∈l.map Xe,c.length=5:=Q5n l fun _=>rfl
theorem Qnw {lx ly:List (List LV)} {px py:List Int} {x y:LV} {d:Int} (hx:IsInts lx px) (hy:IsInts ly py) (hd:Xg x y d) (hk:Cs 4294967294 1073741824 (Crv.mk px py d)) (id:Int):Qc Tryz.prog 165 [.agg [.row lx,.row ly,x,y,.int .i64 id]] [.agg (Xe ⟨Crv.norm (Crv.mk px py d),id⟩)]:=by
  have cd:=Ur hd (Nat.le_trans hk.d (by omega))
  by_cases h0:d=0
  · subst h0
    have ck:Cs 4294967294 1073741824 (Crv.mk px py 1):=⟨hk.x,hk.y,show Qn 1≤4294967294 by decide,hk.lx,hk.ly⟩
    have cm:=Qeo hx hy (Qe 1) ck (by decide)
    have e:Crv.norm (Crv.mk px py 1)=Crv.norm (Crv.mk px py 0):=by simp only [Crv.norm,Crv.g,Crv.d']; rfl
    rw [e] at cm
    obtain ⟨b,l,rfl,rfl,_⟩:=hd
    exact w tt Tryz.func165 rfl [.c [] cd,.c [] Gu,.t (by simp),.c [] (Qkm (z:=1) (by decide)),.c [] cm] rfl rfl trivial
  · have cm:=Qeo hx hy hd hk h0
    obtain ⟨b,l,rfl,rfl,_⟩:=hd
    exact w tt Tryz.func165 rfl [.c [] cd,.c [] Gu,.f (by simpa using h0),.c [] cm] rfl rfl trivial
theorem Qnr {l:List Pt} (id:Int) (hl:l.length<1073741824):Qc Tryz.prog 164 [.agg [pts l],.one (.int .i64 id)] [.one (.int .i64 (Gm l id:Int)),.one (.bool (has l id))]:=by
  refine Z1 Tryz.func164 rfl ?_
  refine go tt [] rfl trivial ?_
  refine ct 2 (S:=Unit) (fun _=>[(1,.v (.one (.int .i64 id))),(2,.v (.one (.ow 0 0))),(6,.v (.one (.int .i64 (Gm l id:Int))))]) (fun _=>[.blk 72 [pts l]]) (fun _=>True) rfl ?_ ?_
  · refine lp (S:=Nat) 1 (fun L1 k=>(6,.v (.one (.int .i64 (k:Int))))::L1) (fun _=>[.blk 72 [pts l]]) (fun k=>l.length-k) (fun k=>k≤l.length∧∀ j p,j<k→l[j]? = some p→p.id<id) 0 ⟨Nat.zero_le _,fun j p h=>by omega⟩ rfl (fun _ _=>rfl) rfl fun k ⟨hk,hlt⟩=>?_
    by_cases h:k<l.length
    · obtain ⟨p,hp⟩:∃ p,l[k]? = some p:=⟨_,List.getElem?_eq_getElem h⟩
      by_cases hid:p.id<id
      · refine go tt [.t (by simp; omega),.x (Ql5 hp),.t (by simpa using hid)] rfl (by simp [Qa]; omega) ?_
        exact rd (k+1) (by omega) ⟨h,fun j q hj hq=>by
          rcases Nat.lt_or_ge j k with h2 | h2
          · exact hlt j q h2 hq
          · have:j=k:=by omega
            subst this; rw [hp] at hq; injection hq with hq; rw [←hq]; exact hid⟩ rfl
      · have e:=Qbf hlt (.inr ⟨p,hp,hid⟩)
        refine go tt [.t (by simp; omega),.x (Ql5 hp),.f (by simpa using hid)] rfl trivial ?_
        rw [e]
        exact rc () trivial rfl
    · obtain rfl:k=l.length:=by omega
      have e:=Qbf hlt (.inl rfl)
      refine go tt [.f (by simp),.f rfl] rfl trivial ?_
      rw [e]
      exact rc () trivial rfl
  · intro _ _
    by_cases h:Gm l id<l.length
    · obtain ⟨p,hp⟩:∃ p,l[Gm l id]? = some p:=⟨_,List.getElem?_eq_getElem h⟩
      have e:has l id=decide (p.id=id):=by simp [has,hp]
      rw [e]
      exact en tt [.g 30 true (by simp; omega),.x (Ql5 hp)] rfl rfl trivial
    · have e:has l id=false:=by simp [has,List.getElem?_eq_none (Nat.le_of_not_lt h)]
      rw [e]
      exact en tt [.g 30 false (by simp; omega)] rfl rfl trivial
theorem Qtw {l:List Pt}:Qc Tryz.prog 126 [.agg [pts l]] [.one (pts l)]:=w tt Tryz.func126 rfl [] rfl rfl trivial
theorem Qt6 {lx ly:List (List LV)} {px py:List Int} {x y:LV} {d id:Int} {l:List Pt} (hx:IsInts lx px) (hy:IsInts ly py) (hd:Xg x y d) (hk:Cs 4294967294 1073741824 (Crv.mk px py d)) (hl:l.length≤1000000) :
    Qc Tryz.prog 104 [.agg [pts l],.agg [.row lx,.row ly,x,y,.int .i64 id]] [.agg [pts (if Fp l (Pt.mk (Crv.norm (Crv.mk px py d)) id)=0 then put l (Pt.mk (Crv.norm (Crv.mk px py d)) id) else l)],.one (.int .i64 (Fp l (Pt.mk (Crv.norm (Crv.mk px py d)) id)))]:=by
  have ca:=Qnr (l:=l) id (by omega)
  have cf:=Qnw hx hy hd hk id
  obtain ⟨b,r,rfl,rfl,_⟩:=hd
  obtain ⟨q,hq⟩:∃ q,q=Pt.mk (Crv.norm (Crv.mk px py d)) id:=⟨_,rfl⟩
  have hqi:q.id=id:=by rw [hq]
  rw [←hq] at cf ⊢
  have hpl:=Qx6 l id
  by_cases h1:has l id=true
  · have e:Fp l q=6:=by simp [Fp,hqi,h1]
    rw [e,if_neg (by decide)]
    exact w tt Tryz.func104 rfl [.c [] ca,.t h1] rfl rfl trivial
  by_cases h2:6≤l.length
  · have e:Fp l q=9:=by simp [Fp,hqi,h1,h2]
    rw [e,if_neg (by decide)]
    exact w tt Tryz.func104 rfl [.c [] ca,.f (by simpa using h1),.t (by simp; omega)] rfl rfl trivial
  have e:Fp l q=0:=by simp [Fp,hqi,h1,h2]
  rw [e,if_pos rfl]
  have s1:∀ c∈(l.map Xe).take (Gm l id),c.length=5:=fun c hc=>Re l c (List.mem_of_mem_take hc)
  have s3:∀ c∈(l.map Xe).drop (Gm l id),c.length=5:=fun c hc=>Re l c (List.mem_of_mem_drop hc)
  refine w tt Tryz.func104 rfl [.c [] ca,.f (by simpa using h1),.f (by simp; omega),.i (Gm l id),.s s1,.c [] cf,.i (Gm l id),.s s3] rfl ?_ ?_
  · simp [put,hqi,pts,List.map_take,List.map_drop,Xe]
  · simp [Qa]
    exact ⟨by omega,hpl,fun _ _=>rfl,by omega,by omega,hpl⟩
theorem Qxn:∀ (qs:List Pt),(J1 [] qs).1.length≤qs.length:=by
  have key:∀ (qs acc:List Pt),(J1 acc qs).1.length≤acc.length+qs.length:=by
    intro qs
    induction qs with
    | nil=>intro acc; simp [J1]
    |
     cons q qs ih =>
     intro acc
     simp only [J1]
     split
     · have:=ih (put acc q); rw [Qp2] at this; simp only [List.length_cons]; omega
     · simp
  intro qs
  have:=key qs []
  simpa using this
theorem Q9i {zs:List (List LV)} {qs:List Pt} (hz:IsPts 4294967294 1073741824 zs qs) (hl:qs.length≤6):Qc Tryz.prog 77 [.one (.row zs)] [.agg [pts (J1 [] qs).1],.one (.int .i64 (J1 [] qs).2)]:=by
  refine Z1 Tryz.func77 rfl ?_
  have hzl:=hz.len
  refine go tt [.f (by simp; omega)] rfl trivial ?_
  refine nlb 1 rfl rfl rfl ?_
  refine lp (S:=Nat) 2 (fun L1 i=>(14,.v (.one (.int .i64 (i:Int))))::L1) (fun i=>[.blk 72 [.nils],.blk 72 [pts (J1 [] (qs.take i)).1]]) (fun i=>qs.length-i) (fun i=>i≤qs.length∧(J1 [] (qs.take i)).2=0) 0 ⟨Nat.zero_le _,rfl⟩ rfl (fun _ _=>rfl) rfl fun i ⟨hi,h0⟩=>?_
  by_cases hlt:i<qs.length
  · have hqi:qs[i]? = some qs[i]:=List.getElem?_eq_getElem hlt
    obtain ⟨z,hzi,lx,ly,b,r,px,py,d,rfl,hx,hy,hd,hk,hc⟩:=hz.get hqi
    have hq:(Pt.mk (Crv.norm (Crv.mk px py d)) qs[i].id)=qs[i]:=by rw [←hc]
    have hst:=Qsd [] qs hqi (by rw [←h0])
    have hnl:=Qxn (qs.take i)
    have cp:=Qt6 (l:=(J1 [] (qs.take i)).1) (id:=qs[i].id) hx hy hd hk (by rw [List.length_take] at hnl; omega)
    rw [hq] at cp
    by_cases he:Fp (J1 [] (qs.take i)).1 qs[i]=0
    · rw [if_pos he] at hst
      rw [he,if_pos rfl] at cp
      refine go tt [.t (by simp; omega),.x hzi,.c [] cp,.f rfl] rfl (by simp [Qa]; omega) ?_
      exact rd (i+1) (by omega) ⟨hlt,by rw [hst]⟩ (by rw [hst]; rfl)
    · rw [if_neg he] at hst
      have herr:=Qxm [] qs he hst
      rw [herr]
      exact en tt [.t (by simp; omega),.x hzi,.c [] cp,.t (by simpa using he)] rfl rfl trivial
  · obtain rfl:i=qs.length:=by omega
    rw [List.take_length] at h0
    rw [List.take_length,h0]
    exact en tt [.f (by simp; omega)] rfl rfl trivial
end Orr

namespace Orr
open Go Go.Proofs
set_option maxRecDepth 10000
theorem Qql (q:Rat):Qk [-q.num,(q.den:Int)]:=by
  have:=q.den_nz
  simp [Qk,trim,this]
theorem Q9d {s:Nat} {q:Rat} (h:Qs s q):Bd s [-q.num,(q.den:Int)]:=fun z hz=>by
  simp at hz
  rcases hz with rfl | rfl
  · rw [Z8]; exact h.1
  · exact h.2
theorem Q44 {x y x' y':LV} {n d:Int} (h1:Xg x y n) (h2:Xg x' y' d) (hn:Qn n≤4294967295) (hd:Qn d≤4294967295) (hq:Qs 4294967295 (Zy n d)):Qc Tryz.prog 78 [.agg [x,y,x',y']] [.agg (qa (Zy n d))]:=by
  have c1:=Qva h1 h2 hn hd
  obtain ⟨b,l,rfl,rfl,_⟩:=h1
  obtain ⟨b',l',rfl,rfl,_⟩:=h2
  exact w tt Tryz.func78 rfl [.c [] c1,.c [] (Og (Qe _) hq.1),.c [] (Ge hq)] rfl rfl trivial
theorem A9 {k:Crv} (hn:Nml k) (hk:Cs 4294967294 1073741824 k):Qc Tryz.prog 183 [.agg (cl k)] [.agg (cl k)]:=by
  have h0:k.d≠0:=by have:=hn.2.2.1; omega
  have cm:=Qeo (Zk k.x) (Zk k.y) (Qe k.d) hk h0
  rw [show Crv.mk k.x k.y k.d=k from rfl,Crv.norm_of hn] at cm
  exact w tt Tryz.func183 rfl [.c [] (Ur (Qe k.d) (Nat.le_trans hk.d (by omega))),.c [] Gu,.f (by simpa using h0),.c [] cm] rfl rfl trivial
theorem Qnm {a b:Crv} (ha:Nml a) (hb:Nml b) (ca:Cb a) (cb:Cb b):Qc Tryz.prog 188 [.agg (cl a),.agg (cl b)] [pr (X8 a b)]:=by
  have l1:=ca.lx
  have l2:=cb.lx
  have l3:=Q8 b.x a.d
  have l4:=Q8 a.x b.d
  exact w tt Tryz.func188 rfl [.c [] (A9 ha (ca.mono (by omega) (by omega))),.c [] (A9 hb (cb.mono (by omega) (by omega))),.c [] (Hi (by omega) (Qd cb.x (by omega)) (Nat.le_trans ca.d (by omega))),.c [] (Hi (by omega) (Qd ca.x (by omega)) (Nat.le_trans cb.d (by omega))),.c [] (Qek (by omega) (by omega) (Qd (Zn cb.x ca.d) (by omega)) (Qd (Zn ca.x cb.d) (by omega)))] rfl rfl trivial
theorem Qnf {a b:Crv} (ha:Nml a) (hb:Nml b) (ca:Cb a) (cb:Cb b):Qc Tryz.prog 189 [.agg (cl a),.agg (cl b)] [pr (Xi a b)]:=by
  have l1:=ca.ly
  have l2:=cb.ly
  have l3:=Q8 b.y a.d
  have l4:=Q8 a.y b.d
  exact w tt Tryz.func189 rfl [.c [] (A9 ha (ca.mono (by omega) (by omega))),.c [] (A9 hb (cb.mono (by omega) (by omega))),.c [] (Hi (by omega) (Qd cb.y (by omega)) (Nat.le_trans ca.d (by omega))),.c [] (Hi (by omega) (Qd ca.y (by omega)) (Nat.le_trans cb.d (by omega))),.c [] (Qek (by omega) (by omega) (Qd (Zn cb.y ca.d) (by omega)) (Qd (Zn ca.y cb.d) (by omega)))] rfl rfl trivial
def J3 (ps:List (List Int)):List (List LV):=ps.map fun p=>[pl p]
theorem Xs {ps:List (List Int)} {i:Nat} {p:List Int} (h:ps[i]? = some p):(J3 ps)[i]? = some [pl p]:=Zm h
end Orr

namespace Orr
open Go Go.Proofs
set_option maxRecDepth 10000
theorem Quo {p q:List Int}:Qc Tryz.prog 187 [pr p,pr q] [pr (Rz p q)]:=by
  by_cases h:0<p.length
  · exact w tt Tryz.func187 rfl [.t (by simp; omega)] rfl (by simp only [Rz]; rw [if_pos h]) trivial
  · exact w tt Tryz.func187 rfl [.f (by simp; exact List.eq_nil_of_length_eq_zero (by omega))] rfl (by simp only [Rz]; rw [if_neg h]) trivial
theorem Qrd:Qc Tryz.prog 186 [.one (.int .i64 2)] [.one (.int .i64 2)]:=w tt Tryz.func186 rfl [.f rfl,.t rfl] rfl rfl trivial
theorem Qtv {k i0 i1 i2 i3 l j0 j1 j2 j3:Int}:Qc Tryz.prog 153 [.agg [.int .i64 k,.int .i64 i0,.int .i64 i1,.int .i64 i2,.int .i64 i3],.agg [.int .i64 l,.int .i64 j0,.int .i64 j1,.int .i64 j2,.int .i64 j3]] [.one (.bool (X1 [k,i0,i1,i2,i3] [l,j0,j1,j2,j3]))]:=by
  by_cases hk:k=l
  · subst hk
    rw [show X1 [k,i0,i1,i2,i3] [k,j0,j1,j2,j3]=X1 [i0,i1,i2,i3] [j0,j1,j2,j3] from by simp [X1]]
    refine Z1 Tryz.func153 rfl ?_
    refine go tt [.f (by simp)] rfl trivial ?_
    refine lp (S:=Nat) 2 (fun L1 i=>(19,.v (.one (.int .i64 (i:Int))))::L1) (fun _=>[.blk 159 [.int .i64 k,.int .i64 i0,.int .i64 i1,.int .i64 i2,.int .i64 i3],.blk 159 [.int .i64 k,.int .i64 j0,.int .i64 j1,.int .i64 j2,.int .i64 j3]]) (fun i=>4-i) (fun i=>i≤4∧X1 ([i0,i1,i2,i3].drop i) ([j0,j1,j2,j3].drop i)=X1 [i0,i1,i2,i3] [j0,j1,j2,j3]) 0 ⟨by omega,rfl⟩ rfl (fun _ _=>rfl) rfl fun i ⟨hi,he⟩=>?_
    rw [←he]
    rcases (show i=0∨i=1∨i=2∨i=3∨i=4 by omega) with rfl | rfl | rfl | rfl | rfl
    · by_cases h:i0=j0
      · exact go tt [.t rfl,.i 0,.i 0,.f (by simpa using h)] rfl (by simp [Qa]) (rd 1 (by omega) ⟨by omega,by simp [X1,h]⟩ rfl)
      · exact en tt [.t rfl,.i 0,.i 0,.t (by simpa using h),.i 0] rfl (by simp [X1,h]) trivial
    · by_cases h:i1=j1
      · exact go tt [.t rfl,.i 1,.i 1,.f (by simpa using h)] rfl (by simp [Qa]) (rd 2 (by omega) ⟨by omega,by simp [X1,h]⟩ rfl)
      · exact en tt [.t rfl,.i 1,.i 1,.t (by simpa using h),.i 1] rfl (by simp [X1,h]) trivial
    · by_cases h:i2=j2
      · exact go tt [.t rfl,.i 2,.i 2,.f (by simpa using h)] rfl (by simp [Qa]) (rd 3 (by omega) ⟨by omega,by simp [X1,h]⟩ rfl)
      · exact en tt [.t rfl,.i 2,.i 2,.t (by simpa using h),.i 2] rfl (by simp [X1,h]) trivial
    · by_cases h:i3=j3
      · exact go tt [.t rfl,.i 3,.i 3,.f (by simpa using h)] rfl (by simp [Qa]) (rd 4 (by omega) ⟨by omega,by simp [X1,h]⟩ rfl)
      · exact en tt [.t rfl,.i 3,.i 3,.t (by simpa using h),.i 3] rfl (by simp [X1,h]) trivial
    · exact en tt [.f rfl] rfl (by simp [X1]) trivial
  · exact w tt Tryz.func153 rfl [.t (by simpa using hk)] rfl (by simp [X1,hk]) trivial
abbrev zCt:List LV:=[.int .i64 0,.int .i64 0,.int .i64 0,.int .i64 0,.int .i64 0,.nils,.int .i64 0]
def Z5 (l:List Ct):List (List LV):=l.map Qa8
theorem Lk {l:List Ct} {i:Nat} {c:Ct} (h:l[i]? = some c):(Z5 l)[i]? = some (Qa8 c):=Zm h
theorem Ui (l:List Ct):(Z5 l).length=l.length:=by simp [Z5]
theorem Qvp (l:List Ct):∀ c∈Z5 l,c.length=7:=fun c hc=>by
  obtain ⟨x,_,rfl⟩:=List.mem_map.1 hc; rfl
theorem Qw1 {O:List Ct} {z:List LV} {c:Ct} {k m:Nat} {l2:List (List LV)} (hk:k≤O.length) (hp:Pm O c O.length=k) (hm:m=O.length-k) (h2:l2.take m=((Z5 O++[z]).drop k).take m) :
    ((Z5 O++[z]).take (k+1)++(l2.take m++(Z5 O++[z]).drop (k+1+m))).set k (Qa8 c)=Z5 (Ns O c):=by
  rw [h2,←List.append_assoc,Qig (Z5 O) z (Qa8 c) (by rw [Ui]; omega) (by rw [Ui]; omega)]
  simp [Ns,hp,Z5,List.map_take,List.map_drop]
theorem Qkp {l:List Ct} (hl:∀ c∈l,Pb c.p) (hn:l.length≤1000000):Qc Tryz.prog 90 [.one (.row (Z5 l))] [.one (.row (Z5 (Q6 l)))]:=by
  have hcl:=Ui l
  refine Z1 Tryz.func90 rfl ?_
  refine go tt [.o 3 161 7] rfl trivial ?_
  refine lp (S:=Nat) 1 (fun L1 i=>(9,.v (.one (.int .i64 (i:Int))))::(3,.v (.one (.orow 0 7 none)))::L1) (fun i=>[.row false 161 7 (Z5 (Q6 (l.take i)))]) (fun i=>l.length-i) (fun i=>i≤l.length) 0 (Nat.zero_le _) rfl (fun _ _=>rfl) rfl fun i hi=>?_
  by_cases hlt:i<l.length
  · obtain ⟨c,hc⟩:∃ c,l[i]? = some c:=⟨_,List.getElem?_eq_getElem hlt⟩
    have hst:=Qmp hc
    have hcp:=hl c (List.mem_of_getElem? hc)
    obtain ⟨O,hO⟩:∃ O,O=Q6 (l.take i):=⟨_,rfl⟩
    have hOl:O.length=i:=by rw [hO,U7,List.length_take]; omega
    rw [←hO] at hst ⊢
    refine go tt [.t (by simp [hcl]; omega),.x (Lk hc)] rfl trivial ?_
    refine lp (S:=Nat) 2 (fun L1 k=>(6,.v (.one (.int .i64 (k:Int))))::L1) (fun k=>[.row false 161 7 (Z5 O),.blk 161 (Qa8 c)]) id (fun k=>k≤O.length∧Pm O c k=Pm O c O.length) (Z5 O).length ⟨by rw [Ui]; exact Nat.le_refl _,by rw [Ui]⟩ rfl (fun _ _=>rfl) rfl fun k ⟨hk,hp⟩=>?_
    have hz:∀ y∈[zCt],y.length=7:=fun y hy=>by rw [List.mem_singleton.1 hy]; rfl
    have h77:∀ y∈Z5 O++[zCt],y.length=7:=fun y hy=>by
      rcases List.mem_append.1 hy with hy | hy
      · exact Qvp O y hy
      · exact hz y hy
    cases k with
    |
     zero =>
     have hp:Pm O c O.length=0:=by rw [←hp]; rfl
     refine go tt [.g 17 false (by simp),.f rfl,.s (sz:=7) hz,.r 36 (eI (b:=((0+1:Nat):Int)) (by simp)),.i (0+1),.i (0),.s (sz:=7) (fun y hy=>h77 y (List.mem_of_mem_take hy)),.i (O.length),.c [] (Xy hcp.t (by have:=hcp.l; omega) (Qd hcp.b (by omega))),.i (0)] rfl (by simp [Qa,Ui]; omega) ?_
     exact rd (i+1) (by omega) hlt (by rw [hst,←Qw1 (z:=zCt) (l2:=(Z5 O++[zCt]).take ((Z5 O++[zCt]).length-0)) (k:=0) (m:=O.length) (by omega) hp (by omega) (by congr 1; exact List.take_of_length_le (by simp))]; rfl)
    |
     succ k =>
     obtain ⟨x,hx⟩:∃ x,O[k]? = some x:=⟨_,List.getElem?_eq_getElem (by omega)⟩
     by_cases hlc:Kk c x=true
     · refine go tt [.g 17 true (by simp),.r 22 (eI (b:=(k:Int)) (by simp)),.i k,.x (Lk hx),.c [] Qtv,.t hlc,.r 29 (eI (b:=(k:Int)) (by simp))] rfl (by simp [Qa,Ui]; omega) ?_
       exact rd k (by simp) ⟨by omega,by rw [←hp,Q3d hx hlc]⟩ rfl
     · have hlc:Kk c x=false:=by simpa using hlc
       have hp:Pm O c O.length=k+1:=by rw [←hp,Qx5 hx hlc]
       refine go tt [.g 17 true (by simp),.r 22 (eI (b:=(k:Int)) (by simp)),.i k,.x (Lk hx),.c [] Qtv,.f hlc,.s (sz:=7) hz,.r 36 (eI (b:=((k+1+1:Nat):Int)) (by simp)),.i (k+1+1),.i (k+1),.s (sz:=7) (fun y hy=>h77 y (List.mem_of_mem_drop (List.mem_of_mem_take hy))),.i (O.length-(k+1)),.c [] (Xy hcp.t (by have:=hcp.l; omega) (Qd hcp.b (by omega))),.i (k+1)] rfl (by simp [Qa,Ui]; omega) ?_
       exact rd (i+1) (by omega) hlt (by rw [hst,←Qw1 (z:=zCt) (l2:=((Z5 O++[zCt]).drop (k+1)).take ((Z5 O++[zCt]).length-(k+1))) (k:=k+1) (m:=O.length-(k+1)) (by omega) hp (by omega) (by congr 1; exact List.take_of_length_le (by simp))]; rfl)
  · obtain rfl:i=l.length:=by omega
    rw [List.take_length]
    exact en tt [.f (by simp [hcl])] rfl rfl trivial
end Orr

namespace Orr
def Qr (p:List Int):Int:=p.getD (p.length-1) 0
def chk (p:List Int):Option (List Int):=if p.length≤64∧(p.all fun z=>Nat.ble (Qn z) 16777216)=true then some p else none
def chq (q:Rat):Option Rat:=if Qn q.num≤16777216∧Qn (q.den:Int)≤16777216 then some q else none
def J5 (p:List Int):Int:=(Z7 p:Nat)
def K9 (p:List Int) (c:Int):List Int:=trim (p.map (· / c))
def Z4 (p:List Int):Int:=if Qr p<0 then -J5 p else J5 p
def Qo (p:List Int):List Int:=if p.length=0 then [] else K9 p (Z4 p)
def mono (i:Nat) (x:Int):List Int:=List.replicate i 0++[x]
def psd (b:List Int) (c:Int):Nat→List Int×List Int→List Int×List Int
  | 0,s=>s
  |
   i+1,(q,r) =>
   psd b c i (C3 (Qx q c) (mono i (if r.length=b.length+i then Qr r else 0)),Vz (Qx r c) (Zt (trim (mono i (if r.length=b.length+i then Qr r else 0))) b))
def Ys (a b:List Int):List Int:=(psd b (Qr b) (a.length+1-b.length) ([],a)).2
def V8 (a b r:List Int):List Int:=if (a.length+1-b.length) % 2=1∧Qr b<0 then Y9 r else r
def Nf (r:List Int):List Int:=if r.length=0 then [] else K9 r (J5 r)
def X3 (a b:List Int):List Int:=Nf (V8 a b (Ys a b))
def Qfv (b:List Int):Nat→List Int→List Int→Option (List Int)
  | 0,a,q=>if a.length=0 then some q else none
  | i+1,a,q=>if a.length<b.length+i then Qfv b i a q else if Qr a % Qr b=0 then Qfv b i (Vz a (Zt (trim (mono i (Qr a / Qr b))) b)) (q.set i (Qr a / Qr b)) else none
def Po (a b:List Int):Option (List Int):=if b.length=0 then none else (Qfv b (a.length+1-b.length) a (List.replicate (a.length+1-b.length) 0)).bind fun q=>chk (trim q)
def Eu:Nat→List Int→List Int→Option (List Int)
  | 0,_,_=>none
  | k+1,a,b=>if b.length=0 then some a else (chk (X3 a b)).bind fun r=>Eu k b r
def Pq (a b:List Int):Option (List Int):=(Eu 66 (Qo a) (Qo b)).map Qo
def Qfx (a b:List Int):Option (List Int):=(Pq [] a).bind fun g=>Pq g b
def Vb (a:List Int):Option (List Int):=if (Qo a).length<2 then some (Qo a) else (chk (Zj (Qo a))).bind fun d=>(Pq (Qo a) d).bind fun g=>Po (Qo a) g
def Ea:Nat→List Int→Option (List (List Int))
  | 0,_=>none
  | k+1,g=>if g.length<2 then some [] else (chk (Zj g)).bind fun d=>(Pq g d).bind fun h=>(Po g h).bind fun w=>(Ea k h).bind fun l=>some (w::l)
def Qb4:List (List Int)→Option (List (List Int))
  | []=>some []
  | [w]=>some [w]
  | w::v::l=>(Po w v).bind fun f=>(Qb4 (v::l)).bind fun r=>some (f::r)
def C0:Nat→List Int→List (List Int)→Option (List Int)
  | _,p,[]=>some p
  | i,p,f::l=>if i % 2=0 then (chk (Zt p f)).bind fun q=>C0 (i+1) q l else C0 (i+1) p l
def Qly (a:List Int):Option (List Int):=if (Qo a).length=0 then some [] else (Ea 66 (Qo a)).bind fun l=>(Qb4 l).bind fun fs=>C0 0 [1] fs
def chF:Nat→List Int→List Int→Option (List (List Int))
  | 0,_,_=>none
  | k+1,a,b=>if b.length=0 then some [] else (chk (X3 a b)).bind fun r=>(chF k b (Y9 r)).bind fun l=>some (b::l)
def Hk (p:List Int):Option (List (List Int)):=(Vb p).bind fun a=>if a.length=0 then none else (chk (Zj a)).bind fun d=>(chF 66 a (Qo d)).bind fun l=>some (a::l)
def Ye (sg:List Int→Int) (s:Nat×Int) (p:List Int):Nat×Int:=if sg p=0 then s else (if s.2=-(sg p) then s.1+1 else s.1,sg p)
def Kb (sg:List Int→Int) (l:List (List Int)):Nat:=(l.foldl (Ye sg) (0,0)).1
def Ky (l:List (List Int)) (q:Rat):Nat:=Kb (fun p=>Z0 p q) l
def Jc (l:List (List Int)) (lo hi:Rat):Int:=if Zz hi lo<0 then 0 else (Ky l lo:Int)-(Ky l hi:Int)
def Cd (p:List Int):Int:=Int.sign (Qr p)
def Tv (p:List Int):Int:=if p.length % 2=0 then -Int.sign (Qr p) else Int.sign (Qr p)
def Px (l:List (List Int)):Int:=(Kb Tv l:Int)-(Kb Cd l:Int)
def most:List Int→Nat:=fun l=>l.foldl (fun m z=>if m<z.natAbs then z.natAbs else m) 0
def Zx (p:List Int):Rat:=Rat.divInt (((Qr p).natAbs:Int)+(most (p.take (p.length-1)):Int)) ((Qr p).natAbs:Int)
def mid (a b:Rat):Rat:=Rat.divInt (a.num*(b.den:Int)+b.num*(a.den:Int)) ((a.den:Int)*(b.den:Int)*2)
def Fq (p:List Int) (c:List (List Int)):Nat→Rat→Rat→Int→Option (List Tm)
  | 0,_,_,_=>none
  | k+1,lo,hi,n=>if n=0 then some [] else if n=1 then some [⟨p,lo,hi⟩] else (chq (mid lo hi)).bind fun m=>(Fq p c k lo m (Jc c lo m)).bind fun l=>(Fq p c k m hi (n-Jc c lo m)).bind fun r=>some (l++r)
def Qbl (p:List Int):Option (List Tm):=(Hk p).bind fun c=>(Vb p).bind fun q=>(chq (Zx q)).bind fun b=>Fq q c 100000 (-b) b (Px c)
def Tm.point (a:Tm):Bool:=decide (0≤Zz a.lo a.hi)
def low (p:List Int) (q:Rat):Int:=if Z0 p q≠0 then Z0 p q else Z0 (Zj p) q
def Cj (p:List Int) (lo hi:Rat):Bool:=decide (Z0 p hi=0∨Z0 p hi≠low p lo)
def Qu (a:Tm) (t:Rat):Int :=
  if a.point=true then Zz a.lo t else if Zz t a.lo≤0 then 1 else if 0<Zz t a.hi then -1 else if Z0 a.p t=0 then 0 else if Z0 a.p t=low a.p a.lo then 1 else -1
def Qe8 (a:Tm):Option Tm:=if a.point=true then some a else (chq (mid a.lo a.hi)).bind fun m =>
  some (if Qu a m=0 then ⟨a.p,m,m⟩ else if Qu a m=-1 then ⟨a.p,a.lo,m⟩ else ⟨a.p,m,a.hi⟩)
def Zo (p:List Int):Nat:=p.foldl (fun n z=>max n (Qn z)) 0
def Yl (a b:Tm):Nat:=64+2*(Qn a.lo.num+Qn a.hi.num+Qn b.lo.num+Qn b.hi.num)+4*(a.p.length+b.p.length)*(Zo a.p+Zo b.p+(a.p.length+b.p.length)+8)
def Qbn (a b:Rat):Rat:=Rat.divInt (a.num*(b.den:Int)-b.num*(a.den:Int)) ((a.den:Int)*(b.den:Int))
def K7 (a b:Tm):Bool:=decide (Zz a.hi b.lo≤0∧¬((a.point=true∧b.point=true)∧Zz a.hi b.lo=0))
def apF:Nat→Tm→Tm→Option (Tm×Tm×Int)
  | 0,a,b=>some (a,b,0)
  |
   k+1,a,b=>if K7 a b=true then some (a,b,-1) else if K7 b a=true then some (a,b,1) else
   if 0≤Zz (Qbn a.hi a.lo) (Qbn b.hi b.lo) then (Qe8 a).bind fun x=>apF k x b else (Qe8 b).bind fun x=>apF k a x
def Li (a b:Tm):Option Int:=if a.point=true then some (-Qu b a.lo) else if b.point=true then some (Qu a b.lo) else
  let lo:=if 0<Zz b.lo a.lo then b.lo else a.lo
  let hi:=if Zz b.hi a.hi<0 then b.hi else a.hi
  if Zz lo hi<0 then (Qfx a.p b.p).bind fun g=>if 1<g.length∧Cj g lo hi=true then some 0 else (apF (Yl a b) a b).bind fun r=>some r.2.2
  else (apF (Yl a b) a b).bind fun r=>some r.2.2
def sgF (c:List (List Int)):Nat→Tm→Option Tm
  | 0,a=>some a
  | k+1,a=>if a.point=true∨Jc c a.lo a.hi=0 then some a else (Qe8 a).bind fun x=>sgF c k x
def Qd6 (p:List Int) (a:Tm):Option Int:=if p.length=0 then some 0 else if a.point=true then some (Z0 p a.lo) else
  (Qfx p a.p).bind fun g=>if 1<g.length∧Cj g a.lo a.hi=true then some 0 else (Hk p).bind fun c=>(sgF c (64+2*(Qn a.lo.num+Qn a.hi.num)+4*(a.p.length+p.length)*(Zo a.p+Zo p+(a.p.length+p.length)+8)) a).bind fun x=>some (Z0 p x.hi)
def Tf:Tm→List Tm→Option Tm
  | b,[]=>some b
  | b,a::l=>(Li a b).bind fun c=>Tf (if c<0 then a else b) l
def Nc (a:Tm):List Tm→Option (Option Tm)
  | []=>some none
  | r::l=>(Li r a).bind fun c=>if 0<c then some (some r) else Nc a l
def Bj (p:List Int):Option (List Tm):=(Qly p).bind fun q=>if q.length=0 then some [] else Qbl q
def Ah (p:List Int) (a:Tm):Option (Option Tm):=(Bj p).bind fun l=>Nc a l
end Orr

namespace Orr
open Go Go.Proofs
set_option maxRecDepth 10000
theorem Ut {p:List Int} (tp:Qk p) (h:p.length≠0):Qr p≠0:=Xc tp (by omega)
theorem Qa2 {p:List Int} (h:p.length≠0):Qr p∈p:=List.mem_of_getElem? (Xm (by omega))
theorem Vn {s:Nat} {p:List Int} (h:Bd s p):Qn (Qr p)≤s:=Qq h _
theorem U3 {p:List Int}:∀ z∈p,J5 p∣z:=Sz
theorem Pj {p:List Int} (tp:Qk p) (h:p.length≠0):J5 p≠0:=fun h0=>Ut tp h (Int.zero_dvd.1 (h0 ▸ U3 _ (Qa2 h)))
theorem Mj {p:List Int} (h:Bd 4294967295 p):Qn (J5 p)≤4294967295:=Ij h
theorem Qpt {p:List Int} (tp:Qk p) (h:p.length≠0):Z4 p≠0:=by
  have:=Pj tp h
  unfold Z4; split <;> omega
theorem C5 {p:List Int}:∀ z∈p,Z4 p∣z:=fun z hz=>by
  unfold Z4; split
  · exact Int.neg_dvd.2 (U3 z hz)
  · exact U3 z hz
theorem Qw3 {p:List Int} (h:Bd 4294967295 p):Qn (Z4 p)≤4294967295:=by
  unfold Z4; split
  · rw [Z8]; exact Mj h
  · exact Mj h
theorem Ob {s:Nat} {p:List Int} (h:Bd s p) (c:Int):Bd s (K9 p c):=Jk (D9 h c)
theorem Qdg (p:List Int) (c:Int):(K9 p c).length≤p.length:=Nat.le_trans (Xf _) (by simp)
theorem Tp (p:List Int) (c:Int):Qk (K9 p c):=Xt _
theorem Qx0 {p:List Int} (h:Pb p) (c:Int):Pb (K9 p c):=⟨Tp _ _,Nat.le_trans (Qdg _ _) h.l,Ob h.b c⟩
theorem Ej:Pb []:=⟨rfl,by simp,Sb⟩
theorem Xz {p:List Int} (h:Pb p):Pb (Qo p):=by
  unfold Qo; split
  · exact Ej
  · exact Qx0 h _
theorem Pb.bd {p:List Int} (h:Pb p):Bd 4294967295 p:=Qd h.b (by omega)
theorem Pb.ln {p:List Int} (h:Pb p):p.length<274877906944:=Nat.lt_of_le_of_lt h.l (by omega)
theorem Pb.ln' {p:List Int} (h:Pb p):p.length<8589934592:=Nat.lt_of_le_of_lt h.l (by omega)
theorem Rt {p q:List Int} (tp:Qk p) (h:chk p=some q):q=p∧Pb p:=by
  unfold chk at h
  split at h
  · rename_i hc
    injection h with h
    refine ⟨h.symm,tp,hc.1,fun z hz=>?_⟩
    have:=List.all_eq_true.1 hc.2 z hz
    exact Nat.le_of_ble_eq_true this
  · cases h
theorem Qnt {p:List Int} {g:Int} (hl:p.length<274877906944) (hp:Bd 4294967295 p) (hg:Qn g≤4294967295) (h0:g≠0) (hd:∀ z∈p,g∣z):Qc Tryz.prog 296 [pr p,.agg (Zq g)] [pr (K9 p g)]:=by
  refine Z1 Tryz.func296 rfl ?_
  refine go tt [.r 9 (eI (b:=(p.length:Int)) (by simp)),.i p.length,.i p.length,.r 12 (eI (b:=(p.length:Int)) (by simp))] rfl (by simp [Qa]; omega) ?_
  rw [Fe fun k=>Zq (p.getD k 0 / g)]
  refine lp (S:=Nat) 2 (fun L1 k=>(13,.v (.one (.int .i64 (k:Int))))::L1) (fun k=>[.blk 29 (Zq g),.row false 29 2 (fil (fun k=>Zq (p.getD k 0 / g)) [.bool false,.nils] p.length k)]) (fun k=>p.length-k) (fun k=>k≤p.length) 0 (Nat.zero_le _) rfl (fun _ _=>rfl) rfl fun k hk=>?_
  by_cases hlt:k<p.length
  · have hg2:=Xm hlt
    refine go tt [.t (by simp; omega),.x (J8 hg2),.c [] (Ga (Qe _) (Qe _) (Qq hp k) hg h0 (Int.emod_eq_zero_of_dvd (hd _ (List.mem_of_getElem? hg2)))),.i k] rfl (by simp [Qa,Gk]; omega) ?_
    have e:=Tc (fun k=>Zq (p.getD k 0 / g)) [.bool false,.nils] hlt
    rw [e]
    exact rd (k+1) (by omega) hlt rfl
  · obtain rfl:k=p.length:=by omega
    have e:fil (fun k=>Zq (p.getD k 0 / g)) [.bool false,.nils] p.length p.length=(p.map (· / g)).map Zq:=by
      rw [Ta]
      refine List.ext_getElem? fun i=>?_
      by_cases hi:i<p.length
      · simp [List.getElem?_range hi,List.getD,List.getElem?_eq_getElem hi]
      · simp [List.getElem?_eq_none,hi]
    rw [e]
    exact en tt [.f (by simp),.c [] (Uq (Zk (p.map (· / g))) (by simp; exact hl) (D9 hp g))] rfl rfl trivial
theorem Ld {p:List Int} (hl:p.length<8589934592) (hp:Bd 4294967295 p):Qc Tryz.prog 297 [.one (.row [[pl p]])] [.agg (Zq (J5 p))]:=by
  refine Z1 Tryz.func297 rfl ?_
  refine go tt [.o 3 29 2] rfl trivial ?_
  refine lp (S:=Nat) 2 (fun L1 i=>(8,.v (.one (.int .i64 (i:Int))))::(3,.v (.one (.orow 1 2 none)))::L1) (fun i=>[.blk 29 [.bool false,.nils],.row false 29 2 (if i=0 then [] else p.map Zq)]) (fun i=>1-i) (fun i=>i≤1) 0 (Nat.zero_le _) rfl (fun _ _=>rfl) rfl fun i hi=>?_
  rcases (show i=0∨i=1 by omega) with rfl | rfl
  · refine go tt [.t rfl,.x (i:=0) (xs:=[pl p]) rfl,.s (Qbc p)] rfl (by simp [Qa]; omega) ?_
    exact rd 1 (by omega) (by omega) rfl
  · exact en tt [.f rfl,.c [] (Qtt (Zk p) hp)] rfl rfl trivial
theorem Quz {p:List Int} (tp:Qk p) (hl':p.length<8589934592) (hp:Bd 4294967295 p):Qc Tryz.prog 271 [pr p] [.agg (Zq (if p.length=0 then 0 else Z4 p)),pr (Qo p)]:=by
  have hl:p.length<274877906944:=by omega
  have cn:=Xy tp hl hp
  by_cases h0:p.length=0
  · have e:p=[]:=List.eq_nil_of_length_eq_zero h0
    subst e
    exact w tt Tryz.func271 rfl [.c [] cn,.t rfl] rfl (by simp [Fl,Qo]; rfl) trivial
  · have hpf:Qo p=K9 p (Z4 p):=by unfold Qo; rw [if_neg h0]
    rw [if_neg h0,hpf]
    have co:=Qnt hl hp (Qw3 hp) (Qpt tp h0) C5
    by_cases hneg:Qr p<0
    · have e:Z4 p=-J5 p:=by unfold Z4; rw [if_pos hneg]
      rw [e] at co ⊢
      exact w tt Tryz.func271 rfl [.c [] cn,.f (by simpa using h0),.c [] (Ld hl' hp),.c [] (Wp tp hl hp),.t (by simpa [Qr] using hneg),.c [] (Og (Qe _) (Mj hp)),.c [] co] rfl rfl trivial
    · have e:Z4 p=J5 p:=by unfold Z4; rw [if_neg hneg]
      rw [e] at co ⊢
      exact w tt Tryz.func271 rfl [.c [] cn,.f (by simpa using h0),.c [] (Ld hl' hp),.c [] (Wp tp hl hp),.f (by simpa [Qr] using hneg),.c [] co] rfl rfl trivial
theorem Gd {p:List Int} (hp:Pb p):Qc Tryz.prog 264 [pr p] [pr (Qo p)] :=
  w tt Tryz.func264 rfl [.c [] (Quz hp.t hp.ln' hp.bd)] rfl rfl trivial
theorem V3 (p:List Int):Qc Tryz.prog 158 [pr p] [.one (.int .i64 ((p.length:Int)-1))]:=by
  have h:Qc Tryz.prog 158 [pr p] [.one (.int .i64 (((p.map Zq).length:Int)-1))]:=Z1 Tryz.func158 rfl (ln 0 rfl rfl fun hl=>en tt [] rfl rfl (by simp [Qa] at hl ⊢; omega))
  rw [List.length_map] at h; exact h
theorem Hw (i:Nat) (x:Int):(mono i x).length=i+1:=by simp [mono]
theorem I9 {s i:Nat} {x:Int} (h:Qn x≤s):Bd s (mono i x):=fun z hz=>by
  simp only [mono,List.mem_append,List.mem_singleton] at hz
  rcases hz with hz | rfl
  · rw [(List.mem_replicate.1 hz).2,Vo]; exact Nat.zero_le _
  · exact h
def stq (c:Int) (i:Nat) (x:Int) (q:List Int):List Int:=C3 (Qx q c) (mono i x)
def str (b:List Int) (c:Int) (i:Nat) (x:Int) (r:List Int):List Int:=Vz (Qx r c) (Zt (trim (mono i x)) b)
theorem Q59 {u t i:Nat} {c x:Int} {q:List Int} (hq:Bd u q) (hc:Qn c≤t) (hx:Qn x≤u):Bd (u+t+8) (stq c i x q) :=
  Qd (Q0t (Zn hq hc) (I9 hx)) (by omega)
theorem Q2r {c x:Int} {i:Nat} {q:List Int}:(stq c i x q).length≤max q.length (i+1):=by
  have h:=Qw7 (Qx q c) (mono i x)
  have h1:=Q8 q c
  rw [Hw] at h
  unfold stq; omega
theorem Qfh {i:Nat} {x:Int} {b:List Int}:(Zt (trim (mono i x)) b).length≤i+b.length:=by
  have h:=Qw8 (trim (mono i x)) b
  have h1:=Xf (mono i x)
  rw [Hw] at h1; omega
theorem Qne {u t i:Nat} {x:Int} {b:List Int} (hb:Bd t b) (hx:Qn x≤u) (hi:i≤64):Bd (u+t+7) (Zt (trim (mono i x)) b) :=
  Q0u (Jk (I9 hx)) hb (Nat.lt_of_le_of_lt (Xf _) (by rw [Hw]; omega))
theorem Qkd {u t i:Nat} {c x:Int} {b r:List Int} (hr:Bd u r) (hb:Bd t b) (hc:Qn c≤t) (hx:Qn x≤u) (hi:i≤64):Bd (u+t+8) (str b c i x r) :=
  Qd (Mc (Zn hr hc) (Qne hb hx hi)) (by omega)
theorem Qfi {c x:Int} {i:Nat} {b r:List Int}:(str b c i x r).length≤max r.length (i+b.length):=by
  have h:=Hu (Qx r c) (Zt (trim (mono i x)) b)
  have h1:=Q8 r c
  have h2:=Qfh (i:=i) (x:=x) (b:=b)
  unfold str; omega
theorem Qis (i:Nat) (x:Int):((List.replicate (i+1) (0:Int)).map Zq).set i (Zq x)=(mono i x).map Zq:=by
  rw [Qlw,mono]
  congr 1
  refine List.ext_getElem? fun j=>?_
  simp only [List.getElem?_set,List.getElem?_append,List.getElem?_replicate,List.length_replicate]
  by_cases h:j=i
  · subst h; simp
  · rw [if_neg (by omega)]
    by_cases h2:j<i
    · simp [h2]; omega
    · rw [if_neg (by omega),if_neg h2]
      cases hj:j-i with
      | zero=>omega
      | succ m=>simp
theorem Qph (i:Nat) {x:Int} {y:List LV} (h:y.map Ay=Zq x):(((List.replicate (i+1) [LV.bool false,LV.nils]).set i y).map fun c=>c.map Ay)=(mono i x).map Zq:=by
  rw [List.map_set,Iw,h]; exact Qis i x
theorem Pp {b:List Int} {c:Int} {i:Nat} {q r:List Int} {x:Int} (hx:x=if r.length=b.length+i then Qr r else 0):psd b c (i+1) (q,r)=psd b c i (stq c i x q,str b c i x r):=by
  subst hx; rfl
theorem Qt5 {a b:List Int} (ha:Pb a) (hb:Pb b) (h0:b.length≠0):Qc Tryz.prog 294 [pr a,pr b] [pr (psd b (Qr b) (a.length+1-b.length) ([],a)).1,pr (Ys a b),.one (.int .i64 ((a.length+1-b.length:Nat):Int)),.one (.int .i64 0)]:=by
  have hal:=ha.l
  have hbl:=hb.l
  have hlb:Qn (Qr b)≤16777216:=Vn hb.b
  obtain ⟨c,hc⟩:∃ c,c=Qr b:=⟨_,rfl⟩
  have cl:=Wp hb.t hb.ln hb.bd
  rw [show b.getD (b.length-1) 0=c from hc.symm] at cl
  obtain ⟨k,hk⟩:∃ k,k=a.length+1-b.length:=⟨_,rfl⟩
  unfold Ys
  rw [←hc,←hk]
  rw [←hc] at hlb
  refine Z1 Tryz.func294 rfl ?_
  refine go tt [.z 4,.c [] (Xy ha.t ha.ln ha.bd),.c [] (Xy hb.t hb.ln hb.bd),.f (by simpa using h0),.c [] cl,.c [] (V3 a),.c [] (V3 b),.r 27 (eI (b:=(k:Int)) (by omega))] rfl (by simp [Qa]; omega) ?_
  refine lp (S:=Nat×List Int×List Int) 1 (fun L1 s=>(4,.v (pr s.2.1))::(5,.v (pr s.2.2))::(9,.v (.one (.int .i64 ((s.1:Int)-1))))::L1) (fun _=>[.blk 29 (Zq c)]) (fun s=>s.1) (fun s=>s.1≤k∧Qk s.2.2∧s.2.1.length≤66∧s.2.2.length≤a.length∧Bd (16777216+(k-s.1)*16777224) s.2.1∧Bd (16777216+(k-s.1)*16777224) s.2.2∧psd b c s.1 s.2=psd b c k ([],a)) (k,[],a) ⟨Nat.le_refl _,ha.t,by simp,Nat.le_refl _,Sb,by simpa using ha.b,rfl⟩ rfl (fun _ _=>rfl) rfl fun ⟨i,q,r⟩ ⟨j1,j2,j3,j4,j5,j6,j7⟩=>?_
  dsimp only at j1 j2 j3 j4 j5 j6 j7 ⊢
  rw [←j7]
  cases i with
  | zero=>exact en tt [.f (by simp)] rfl rfl trivial
  |
   succ i =>
   obtain ⟨x,hx⟩:∃ x,x=if r.length=b.length+i then Qr r else 0:=⟨_,rfl⟩
   obtain ⟨u,hu⟩:∃ u,u=16777216+(k-(i+1))*16777224:=⟨_,rfl⟩
   rw [←hu] at j5 j6
   have hub:u≤1107296256:=by
     have:(k-(i+1))*16777224≤64*16777224:=Nat.mul_le_mul_right _ (by omega)
     omega
   have hxs:Qn x≤u:=by
     rw [hx]; split
     · exact Vn j6
     · rw [Vo]; exact Nat.zero_le _
   have cs:=Hi (p:=q) (c:=c) (by omega) (Qd j5 (by omega)) (by omega)
   have cs2:=Hi (p:=r) (c:=c) (by omega) (Qd j6 (by omega)) (by omega)
   have l1:=Q8 q c
   have l2:=Q8 r c
   have ca:=Q6k (p:=Qx q c) (q:=mono i x) (by omega) (by rw [Hw]; omega) (Qd (Zn j5 hlb) (by omega)) (Qd (I9 hxs) (by omega))
   have cm:=Qej (p0:=mono i x) hb.t (by rw [Hw]; omega) (by omega) (I9 hxs) hb.b (by omega)
   have l3:=Qfh (i:=i) (x:=x) (b:=b)
   have cb:=Qek (p:=Qx r c) (q:=Zt (trim (mono i x)) b) (by omega) (by omega) (Qd (Zn j6 hlb) (by omega)) (Qd (Qne hb.b hxs (by omega)) (by omega))
   have hst:=Pp (b:=b) (c:=c) (q:=q) hx
   have hI:i≤k∧Qk (str b c i x r)∧(stq c i x q).length≤66∧(str b c i x r).length≤a.length∧Bd (16777216+(k-i)*16777224) (stq c i x q)∧Bd (16777216+(k-i)*16777224) (str b c i x r):=by
     have l5:=Q2r (c:=c) (x:=x) (i:=i) (q:=q)
     have l6:=Qfi (c:=c) (x:=x) (i:=i) (b:=b) (r:=r)
     have hku:u+16777216+8=16777216+(k-i)*16777224:=by
       rw [hu,show k-i=(k-(i+1))+1 from by omega,Nat.add_mul]; omega
     refine ⟨by omega,Za _ _,by omega,by omega,?_,?_⟩
     · rw [←hku]; exact Q59 j5 hlb hxs
     · rw [←hku]; exact Qkd j6 hb.b hlb hxs (by omega)
   rw [hst]
   by_cases h:r.length=b.length+i
   · refine go tt [.t (by simp <;> omega),.c [] (V3 r),.c [] (V3 b),.t (by simp; omega),.c [] (Wp j2 (by omega) (Qd j6 (by omega))),.r 44 (eI (b:=((i+1:Nat):Int)) (by omega)),.i (i+1),.i (i+1),.r 47 (eI (b:=(i:Int)) (by omega)),.i i] rfl (by simp [Qa]; omega) ?_
     refine nl 2 rfl rfl rfl ?_
     rw [Qph i (x:=x) (by rw [hx,if_pos h]; rfl)]
     refine go tt [.c [] cs,.c [] ca,.c [] cs2,.c [] cm,.c [] cb,.r 33 (eI (b:=(i:Int)-1) (by omega))] rfl (by simp [Qa]; omega) ?_
     exact rd (i,stq c i x q,str b c i x r) (by dsimp only; omega) ⟨hI.1,hI.2.1,hI.2.2.1,hI.2.2.2.1,hI.2.2.2.2.1,hI.2.2.2.2.2,rfl⟩ rfl
   · refine go tt [.t (by simp <;> omega),.c [] (V3 r),.c [] (V3 b),.f (by simp; omega),.r 44 (eI (b:=((i+1:Nat):Int)) (by omega)),.i (i+1),.i (i+1),.r 47 (eI (b:=(i:Int)) (by omega)),.i i] rfl (by simp [Qa]; omega) ?_
     refine nl 2 rfl rfl rfl ?_
     rw [Qph i (x:=x) (by rw [hx,if_neg h,Fl]; rfl)]
     refine go tt [.c [] cs,.c [] ca,.c [] cs2,.c [] cm,.c [] cb,.r 33 (eI (b:=(i:Int)-1) (by omega))] rfl (by simp [Qa]; omega) ?_
     exact rd (i,stq c i x q,str b c i x r) (by dsimp only; omega) ⟨hI.1,hI.2.1,hI.2.2.1,hI.2.2.2.1,hI.2.2.2.2.1,hI.2.2.2.2.2,rfl⟩ rfl
theorem Qya {b:List Int} {c:Int} (hb:Bd 16777216 b) (hc:Qn c≤16777216) {n:Nat}:∀ (i u:Nat) (q r:List Int),i≤64→i+b.length≤n+1→Qk r→r.length≤n→Bd u r→Qk (psd b c i (q,r)).2∧(psd b c i (q,r)).2.length≤n∧Bd (u+i*16777224) (psd b c i (q,r)).2
  | 0,u,q,r,_,_,h1,h2,h3=>⟨h1,h2,by simpa [psd] using h3⟩
  |
   i+1,u,q,r,hi,hn,h1,h2,h3=>by
   rw [Pp rfl]
   have hx:Qn (if r.length=b.length+i then Qr r else 0)≤u:=by
     split
     · exact Vn h3
     · rw [Vo]; exact Nat.zero_le _
   have l6:=Qfi (c:=c) (x:=if r.length=b.length+i then Qr r else 0) (i:=i) (b:=b) (r:=r)
   have:=Qya hb hc (n:=n) i (u+16777216+8) (stq c i (if r.length=b.length+i then Qr r else 0) q) (str b c i (if r.length=b.length+i then Qr r else 0) r) (by omega) (by omega) (Za _ _) (by omega) (Qkd h3 hb hc hx (by omega))
   exact ⟨this.1,this.2.1,Qd this.2.2 (by omega)⟩
theorem Qpx {a b:List Int} (ha:Pb a) (hb:Pb b) (h0:b.length≠0):Qk (Ys a b)∧(Ys a b).length≤a.length∧Bd 1107296256 (Ys a b):=by
  have hal:=ha.l
  by_cases h:b.length≤a.length+1
  · obtain ⟨h1,h2,h3⟩:=Qya hb.b (Vn hb.b) (n:=a.length) (a.length+1-b.length) 16777216 [] a (by omega) (by omega) ha.t (Nat.le_refl _) ha.b
    refine ⟨h1,h2,Qd h3 ?_⟩
    have:(a.length+1-b.length)*16777224≤64*16777224:=Nat.mul_le_mul_right _ (by omega)
    omega
  · have e:Ys a b=a:=by unfold Ys; rw [show a.length+1-b.length=0 from by omega]; rfl
    rw [e]
    exact ⟨ha.t,Nat.le_refl _,Qd ha.b (by omega)⟩
theorem Db {a b r:List Int} {s n:Nat} (h1:Qk r) (h2:r.length≤n) (h3:Bd s r):Qk (V8 a b r)∧(V8 a b r).length≤n∧Bd s (V8 a b r):=by
  unfold V8; split
  · exact ⟨Za _ _,Nat.le_trans (S9 r) h2,A8 h3⟩
  · exact ⟨h1,h2,h3⟩
theorem Qbe {r:List Int} {s n:Nat} (h2:r.length≤n) (h3:Bd s r):Qk (Nf r)∧(Nf r).length≤n∧Bd s (Nf r):=by
  unfold Nf; split
  · exact ⟨rfl,by simp,Sb⟩
  · exact ⟨Tp _ _,Nat.le_trans (Qdg _ _) h2,Ob h3 _⟩
theorem C7 {a b:List Int} (ha:Pb a) (hb:Pb b) (h0:b.length≠0):Qk (X3 a b)∧(X3 a b).length≤a.length∧Bd 1107296256 (X3 a b):=by
  obtain ⟨h1,h2,h3⟩:=Qpx ha hb h0
  obtain ⟨h4,h5,h6⟩:=Db (a:=a) (b:=b) h1 h2 h3
  exact Qbe h5 h6
theorem Qt8 {a b:List Int} (ha:Pb a) (hb:Pb b) (h0:b.length≠0):Qc Tryz.prog 265 [pr a,pr b] [pr (X3 a b),.one (.int .i64 0)]:=by
  obtain ⟨h1,h2,h3⟩:=Qpx ha hb h0
  obtain ⟨h4,h5,h6⟩:=Db (a:=a) (b:=b) h1 h2 h3
  have hal:=ha.l
  have cp:=Qt5 ha hb h0
  have cl:=Wp hb.t hb.ln hb.bd
  have cn:=Qt3 (p:=Ys a b) (by omega) (Qd h3 (by omega))
  unfold X3
  obtain ⟨r,hr⟩:∃ r,r=V8 a b (Ys a b):=⟨_,rfl⟩
  have cc:=Ld (p:=r) (by rw [hr]; omega) (by rw [hr]; exact Qd h6 (by omega))
  rw [←hr] at h4 h5 h6 ⊢
  obtain ⟨k,hk⟩:∃ k,k=a.length+1-b.length:=⟨_,rfl⟩
  rw [←hk] at cp
  have em:((k:Int).tmod 2)=((k % 2:Nat):Int):=by rw [Int.tmod_eq_emod_of_nonneg (by omega)]; omega
  have key:Nf r=if r.length=0 then [] else K9 r (J5 r):=rfl
  by_cases hz:r.length=0
  · rw [key,if_pos hz]
    by_cases hodd:k % 2=1
    · by_cases hneg:Qr b<0
      · have e:r=Y9 (Ys a b):=by rw [hr]; unfold V8; rw [if_pos ⟨by rw [←hk]; exact hodd,hneg⟩]
        rw [e] at hz
        exact w tt Tryz.func265 rfl [.c [] cp,.f (by simp),.r 22 (eI em),.t (by simp; omega),.c [] cl,.t (by simpa [Qr] using hneg),.c [] cn,.t (by simpa using hz)] rfl rfl (by simp [Qa])
      · have e:r=Ys a b:=by rw [hr]; unfold V8; rw [if_neg (fun h=>hneg h.2)]
        rw [e] at hz
        exact w tt Tryz.func265 rfl [.c [] cp,.f (by simp),.r 22 (eI em),.t (by simp; omega),.c [] cl,.f (by simpa [Qr] using hneg),.t (by simpa using hz)] rfl rfl (by simp [Qa])
    · have e:r=Ys a b:=by rw [hr]; unfold V8; rw [if_neg (fun h=>hodd (by rw [hk]; exact h.1))]
      rw [e] at hz
      exact w tt Tryz.func265 rfl [.c [] cp,.f (by simp),.r 22 (eI em),.f (by simp; omega),.f rfl,.t (by simpa using hz)] rfl rfl (by simp [Qa])
  · rw [key,if_neg hz]
    have cd:=Qnt (p:=r) (g:=J5 r) (by omega) (Qd h6 (by omega)) (Mj (Qd h6 (by omega))) (Pj h4 hz) U3
    by_cases hodd:k % 2=1
    · by_cases hneg:Qr b<0
      · have e:r=Y9 (Ys a b):=by rw [hr]; unfold V8; rw [if_pos ⟨by rw [←hk]; exact hodd,hneg⟩]
        rw [e] at hz cc cd ⊢
        exact w tt Tryz.func265 rfl [.c [] cp,.f (by simp),.r 22 (eI em),.t (by simp; omega),.c [] cl,.t (by simpa [Qr] using hneg),.c [] cn,.f (by simpa using hz),.c [] cc,.c [] cd] rfl rfl (by simp [Qa])
      · have e:r=Ys a b:=by rw [hr]; unfold V8; rw [if_neg (fun h=>hneg h.2)]
        rw [e] at hz cc cd ⊢
        exact w tt Tryz.func265 rfl [.c [] cp,.f (by simp),.r 22 (eI em),.t (by simp; omega),.c [] cl,.f (by simpa [Qr] using hneg),.f (by simpa using hz),.c [] cc,.c [] cd] rfl rfl (by simp [Qa])
    · have e:r=Ys a b:=by rw [hr]; unfold V8; rw [if_neg (fun h=>hodd (by rw [hk]; exact h.1))]
      rw [e] at hz cc cd ⊢
      exact w tt Tryz.func265 rfl [.c [] cp,.f (by simp),.r 22 (eI em),.f (by simp; omega),.f rfl,.f (by simpa using hz),.c [] cc,.c [] cd] rfl rfl (by simp [Qa])
end Orr

namespace Orr
open Go Go.Proofs
set_option maxRecDepth 10000
theorem Q2k {s:Nat} {x:Int} (h:Qn x≤s) (g:Int):Qn (x / g)≤s:=D9 (p:=[x]) (fun z hz=>by rw [List.mem_singleton.1 hz]; exact h) g _ (by simp)
def sta (b:List Int) (i:Nat) (x:Int) (a:List Int):List Int:=Vz a (Zt (trim (mono i x)) b)
theorem Q58 {u t i:Nat} {x:Int} {b a:List Int} (ha:Bd u a) (hb:Bd t b) (hx:Qn x≤u) (hi:i≤64):Bd (u+t+8) (sta b i x a) :=
  Qd (Mc ha (Qne hb hx hi)) (by omega)
theorem Qo7 {x:Int} {i:Nat} {b a:List Int}:(sta b i x a).length≤max a.length (i+b.length):=by
  have h:=Hu a (Zt (trim (mono i x)) b)
  have h2:=Qfh (i:=i) (x:=x) (b:=b)
  unfold sta; omega
theorem Q0v (s n:Nat):Bd s (List.replicate n 0):=fun z hz=>by rw [(List.mem_replicate.1 hz).2,Vo]; exact Nat.zero_le _
theorem Q57 {s i:Nat} {l:List Int} {x:Int} (h:Bd s l) (hx:Qn x≤s):Bd s (l.set i x):=fun z hz=>by
  rcases List.mem_or_eq_of_mem_set hz with hz | rfl
  · exact h z hz
  · exact hx
theorem Qt1 {a b q:List Int} (ha:Pb a) (hb:Pb b) (h:Po a b=some q):Qc Tryz.prog 318 [pr a,pr b] [pr q,.one (.int .i64 0)]:=by
  unfold Po at h
  split at h
  · cases h
  rename_i h0
  obtain ⟨k,hk⟩:∃ k,k=a.length+1-b.length:=⟨_,rfl⟩
  rw [←hk] at h
  obtain ⟨q',hq,hq2⟩:=Option.bind_eq_some_iff.1 h
  obtain ⟨rfl,hpb⟩:=Rt (Xt _) hq2
  have hal:=ha.l
  have hbl:=hb.l
  refine Z1 Tryz.func318 rfl ?_
  refine go tt [.c [] (Xy ha.t ha.ln ha.bd),.c [] (Xy hb.t hb.ln hb.bd),.f (by simpa using h0),.r 24 (eI (b:=(k:Int)) (by simp; omega)),.i k,.i k,.r 27 (eI (b:=(k:Int)) (by simp))] rfl (by simp [Qa]; omega) ?_
  refine nl 0 rfl rfl rfl ?_
  rw [Iw]
  refine lp (S:=Nat×List Int×List Int) 1 (fun L1 s=>(0,.v (pr s.2.1))::(7,.v (.one (.int .i64 ((s.1:Int)-1))))::L1) (fun s=>[.row false 29 2 (s.2.2.map Zq)]) (fun s=>s.1) (fun s=>s.1≤k∧Qk s.2.1∧s.2.1.length≤a.length∧Bd (16777216+(k-s.1)*16777224) s.2.1∧s.2.2.length=k∧Bd 1107296256 s.2.2∧Qfv b s.1 s.2.1 s.2.2=some q') (k,a,List.replicate k 0) ⟨Nat.le_refl _,ha.t,Nat.le_refl _,by simpa using ha.b,by simp,Q0v _ _,hq⟩ rfl (fun _ _=>rfl) rfl fun ⟨i,A,Q⟩ ⟨j1,j2,j3,j4,j5,j7,j6⟩=>?_
  dsimp only at j1 j2 j3 j4 j5 j6 j7 ⊢
  cases i with
  |
   zero =>
   simp only [Qfv] at j6
   split at j6
   · rename_i hA
     injection j6 with j6; subst j6
     exact en tt [.f (by simp),.f (by simpa using hA),.c [] (Uq (Zk Q) (by omega) (Qd j7 (by omega)))] rfl rfl trivial
   · cases j6
  |
   succ i =>
   obtain ⟨u,hu⟩:∃ u,u=16777216+(k-(i+1))*16777224:=⟨_,rfl⟩
   rw [←hu] at j4
   have hub:u≤1107296256:=by
     have:(k-(i+1))*16777224≤64*16777224:=Nat.mul_le_mul_right _ (by omega)
     omega
   have hku:u+16777216+8=16777216+(k-i)*16777224:=by
     rw [hu,show k-i=(k-(i+1))+1 from by omega,Nat.add_mul]; omega
   simp only [Qfv] at j6
   by_cases hlt:A.length<b.length+i
   · rw [if_pos hlt] at j6
     refine go tt [.t (by simp <;> omega),.c [] (V3 A),.c [] (V3 b),.t (by simp; omega),.r 32 (eI (b:=(i:Int)-1) (by omega))] rfl (by simp [Qa]; omega) ?_
     exact rd (i,A,Q) (by dsimp only; omega) ⟨by dsimp only; omega,j2,j3,Qd j4 (by dsimp only; omega),j5,j7,j6⟩ rfl
   · rw [if_neg hlt] at j6
     split at j6
     · rename_i hdv
       obtain ⟨x,hx⟩:∃ x,x=Qr A / Qr b:=⟨_,rfl⟩
       rw [←hx] at j6
       have hxs:Qn x≤u:=by rw [hx]; exact Q2k (Vn j4) _
       have ce:=Ga (Qe (Qr A)) (Qe (Qr b)) (Nat.le_trans (Vn j4) (by omega)) (Nat.le_trans (Vn hb.b) (by omega)) (Ut hb.t h0) hdv
       rw [←hx] at ce
       have cm:Qc Tryz.prog 213 [.one (.row ((mono i x).map Zq)),pr b] [pr (Zt (trim (mono i x)) b)]:=Qej (p0:=mono i x) hb.t (by rw [Hw]; omega) (by omega) (I9 hxs) hb.b (by omega)
       have l3:=Qfh (i:=i) (x:=x) (b:=b)
       have l4:=Qo7 (i:=i) (x:=x) (b:=b) (a:=A)
       have cb:=Qek (p:=A) (q:=Zt (trim (mono i x)) b) (by omega) (by omega) (Qd j4 (by omega)) (Qd (Qne hb.b hxs (by omega)) (by omega))
       refine go tt [.t (by simp <;> omega),.c [] (V3 A),.c [] (V3 b),.f (by simp; omega),.c [] (Wp j2 (by omega) (Qd j4 (by omega))),.c [] (Wp hb.t hb.ln hb.bd),.c [] ce,.f rfl,.r 51 (eI (b:=(i:Int)) (by omega)),.i i,.r 55 (eI (b:=((i+1:Nat):Int)) (by omega)),.i (i+1),.i (i+1),.r 58 (eI (b:=(i:Int)) (by omega))] rfl (by simp [Qa]; omega) ?_
       refine nl 2 rfl rfl rfl ?_
       rw [Iw,Qlw]
       rw [←Qis i x] at cm
       refine go tt [.i i,.c [] cm,.c [] cb,.r 32 (eI (b:=(i:Int)-1) (by omega))] rfl (by simp [Qa]; omega) ?_
       exact rd (i,sta b i x A,Q.set i x) (by dsimp only; omega) ⟨by dsimp only; omega,Za _ _,by dsimp only; omega,by dsimp only; rw [←hku]; exact Q58 j4 hb.b hxs (by omega),by simpa using j5,Q57 j7 (Nat.le_trans hxs hub),j6⟩ rfl
     · cases j6
theorem Qlu {a b q:List Int} (h:Po a b=some q):Pb q:=by
  unfold Po at h
  split at h
  · cases h
  · obtain ⟨q',_,hq2⟩:=Option.bind_eq_some_iff.1 h
    obtain ⟨rfl,hpb⟩:=Rt (Xt _) hq2
    exact hpb
theorem Qu5 {a b q:List Int} (ha:Pb a) (hb:Pb b) (h:Po a b=some q):Qc Tryz.prog 298 [pr a,pr b] [pr q] :=
  w tt Tryz.func298 rfl [.c [] (Qt1 ha hb h)] rfl rfl trivial
theorem Qgo:∀ {k:Nat} {a b g:List Int},Pb a→Pb b→Eu k a b=some g→Pb g
  | 0,_,_,_,_,_,h=>by cases h
  |
   k+1,a,b,g,ha,hb,h=>by
   simp only [Eu] at h
   split at h
   · injection h with h; subst h; exact ha
   · rename_i h0
     obtain ⟨r,hr,h⟩:=Option.bind_eq_some_iff.1 h
     obtain ⟨rfl,hpb⟩:=Rt (C7 ha hb h0).1 hr
     exact Qgo hb hpb h
theorem Qn5 {a b g:List Int} (ha:Pb a) (hb:Pb b) (h:Pq a b=some g):Qc Tryz.prog 225 [pr a,pr b] [pr g]:=by
  unfold Pq at h
  obtain ⟨g',h2,rfl⟩:=Option.map_eq_some_iff.1 h
  have hg:=Qgo (Xz ha) (Xz hb) h2
  refine Z1 Tryz.func225 rfl ?_
  refine go tt [.c [] (Gd ha),.c [] (Gd hb)] rfl trivial ?_
  refine lp (S:=Nat×List Int×List Int) 0 (fun L1 s=>(0,.v (pr s.2.1))::(1,.v (pr s.2.2))::L1) (fun _=>[]) (fun s=>s.1) (fun s=>Pb s.2.1∧Pb s.2.2∧Eu s.1 s.2.1 s.2.2=some g') (66,Qo a,Qo b) ⟨Xz ha,Xz hb,h2⟩ rfl (fun _ _=>rfl) rfl fun ⟨k,A,C⟩ ⟨j1,j2,j3⟩=>?_
  dsimp only at j1 j2 j3 ⊢
  cases k with
  | zero=>cases j3
  |
   succ k =>
   simp only [Eu] at j3
   split at j3
   · rename_i h0
     injection j3 with j3; subst j3
     exact en tt [.f (by simpa using h0),.c [] (Gd j1)] rfl rfl trivial
   · rename_i h0
     obtain ⟨r,hr,j3⟩:=Option.bind_eq_some_iff.1 j3
     obtain ⟨rfl,hpb⟩:=Rt (C7 j1 j2 h0).1 hr
     refine go tt [.t (by simp; omega),.c [] (Qt8 j1 j2 h0)] rfl trivial ?_
     exact rd (k,C,X3 A C) (by dsimp only; omega) ⟨j2,hpb,j3⟩ rfl
theorem El {a b g:List Int} (ha:Pb a) (hb:Pb b) (h:Pq a b=some g):Pb g:=by
  unfold Pq at h
  obtain ⟨g',h2,rfl⟩:=Option.map_eq_some_iff.1 h
  exact Xz (Qgo (Xz ha) (Xz hb) h2)
theorem Qt2 {a b g:List Int} (ha:Pb a) (hb:Pb b) (h:Qfx a b=some g):Qc Tryz.prog 176 [.one (.row (J3 [a,b]))] [pr g]:=by
  unfold Qfx at h
  obtain ⟨g1,h1,h2⟩:=Option.bind_eq_some_iff.1 h
  have hg1:=El Ej ha h1
  refine Z1 Tryz.func176 rfl ?_
  refine go tt [.z 3] rfl trivial ?_
  refine lp (S:=Nat) 0 (fun L1 i=>(8,.v (.one (.int .i64 (i:Int))))::(3,.v (pr (if i=0 then [] else if i=1 then g1 else g)))::L1) (fun _=>[]) (fun i=>2-i) (fun i=>i≤2) 0 (Nat.zero_le _) rfl (fun _ _=>rfl) rfl fun i hi=>?_
  rcases (show i=0∨i=1∨i=2 by omega) with rfl | rfl | rfl
  · refine go tt [.t rfl,.x (Xs (i:=0) (p:=a) rfl),.c [] (Qn5 Ej ha h1)] rfl (by simp [Qa]) ?_
    exact rd 1 (by omega) (by omega) rfl
  · refine go tt [.t rfl,.x (Xs (i:=1) (p:=b) rfl),.c [] (Qn5 hg1 hb h2)] rfl (by simp [Qa]) ?_
    exact rd 2 (by omega) (by omega) rfl
  · exact en tt [.f rfl] rfl rfl trivial
theorem Qxx {a b g:List Int} (ha:Pb a) (hb:Pb b) (h:Qfx a b=some g):Pb g:=by
  unfold Qfx at h
  obtain ⟨g1,h1,h2⟩:=Option.bind_eq_some_iff.1 h
  exact El (El Ej ha h1) hb h2
theorem Qba {p d:List Int} (h:chk (Zj p)=some d):d=Zj p∧Pb (Zj p):=Rt (Za _ _) h
theorem Oi {a g:List Int} (ha:Pb a) (h:Vb a=some g):Qc Tryz.prog 270 [pr a] [pr g]:=by
  have hp:=Xz ha
  unfold Vb at h
  split at h
  · rename_i h0
    injection h with h; subst h
    exact w tt Tryz.func270 rfl [.c [] (Gd ha),.c [] (V3 _),.t (by simp; omega)] rfl rfl trivial
  · rename_i h0
    obtain ⟨d,h1,h⟩:=Option.bind_eq_some_iff.1 h
    obtain ⟨rfl,hd⟩:=Qba h1
    obtain ⟨g1,h1,h⟩:=Option.bind_eq_some_iff.1 h
    exact w tt Tryz.func270 rfl [.c [] (Gd ha),.c [] (V3 _),.f (by simp; omega),.c [] (Hh hp.ln hp.bd),.c [] (Qn5 hp hd h1),.c [] (Qu5 hp (El hp hd h1) h)] rfl rfl trivial
theorem Ek {a g:List Int} (ha:Pb a) (h:Vb a=some g):Pb g:=by
  unfold Vb at h
  split at h
  · injection h with h; subst h; exact Xz ha
  · obtain ⟨d,h1,h⟩:=Option.bind_eq_some_iff.1 h
    obtain ⟨g1,h1,h⟩:=Option.bind_eq_some_iff.1 h
    exact Qlu h
theorem Qxy {p:List Int} (h:Pb p):Pb (Y9 p):=⟨Za _ _,Nat.le_trans (S9 p) h.l,A8 h.b⟩
theorem Qkz:∀ {k:Nat} {a b:List Int} {l:List (List Int)},Pb a→Pb b→chF k a b=some l→l.length≤k∧∀ p∈l,Pb p
  | 0,_,_,_,_,_,h=>by cases h
  |
   k+1,a,b,l,ha,hb,h=>by
   simp only [chF] at h
   split at h
   · injection h with h; subst h; exact ⟨by simp,fun p hp=>by cases hp⟩
   · rename_i h0
     obtain ⟨r,hr,h⟩:=Option.bind_eq_some_iff.1 h
     obtain ⟨rfl,hpb⟩:=Rt (C7 ha hb h0).1 hr
     obtain ⟨l',h1,h⟩:=Option.bind_eq_some_iff.1 h
     injection h with h; subst h
     obtain ⟨i1,i2⟩:=Qkz hb (Qxy hpb) h1
     refine ⟨by simp; exact i1,fun p hp=>?_⟩
     rcases List.mem_cons.1 hp with rfl | hp
     · exact hb
     · exact i2 p hp
theorem chain_ok {p:List Int} {l:List (List Int)} (hp:Pb p) (h:Hk p=some l):l.length≤67∧∀ q∈l,Pb q:=by
  unfold Hk at h
  obtain ⟨a,h1,h⟩:=Option.bind_eq_some_iff.1 h
  have ha:=Ek hp h1
  split at h
  · cases h
  · obtain ⟨d,h2,h⟩:=Option.bind_eq_some_iff.1 h
    obtain ⟨rfl,hd⟩:=Qba h2
    obtain ⟨l',h3,h⟩:=Option.bind_eq_some_iff.1 h
    injection h with h; subst h
    obtain ⟨i1,i2⟩:=Qkz ha (Xz hd) h3
    refine ⟨by simp; omega,fun p hp=>?_⟩
    rcases List.mem_cons.1 hp with rfl | hp
    · exact ha
    · exact i2 p hp
theorem Qbd (l:List (List Int)) (p:List Int):J3 l++[[pl p]]=J3 (l++[p]):=by simp [J3]
theorem U5 (l:List (List Int)):(J3 l).length=l.length:=by simp [J3]
theorem Qua {p:List Int} {l:List (List Int)} (hp:Pb p) (h:Hk p=some l):Qc Tryz.prog 230 [pr p] [.one (.sh [.row (J3 l)]),.one (.int .i64 0)]:=by
  unfold Hk at h
  obtain ⟨a,h1,h⟩:=Option.bind_eq_some_iff.1 h
  have ha:=Ek hp h1
  split at h
  · cases h
  rename_i h0
  obtain ⟨d,h2,h⟩:=Option.bind_eq_some_iff.1 h
  obtain ⟨rfl,hd⟩:=Qba h2
  obtain ⟨l',h3,h⟩:=Option.bind_eq_some_iff.1 h
  injection h with h; subst h
  refine Z1 Tryz.func230 rfl ?_
  refine go tt [.c [] (Oi hp h1),.f (by simpa using h0),.lo,.c [] (Hh ha.ln ha.bd),.c [] (Quz hd.t hd.ln' hd.bd)] rfl (by simp [Qa]) ?_
  obtain ⟨z,hz⟩:∃ z,z=if (Zj a).length=0 then 0 else Z4 (Zj a):=⟨_,rfl⟩
  rw [←hz]
  refine sb [(4,.v (pr a)),(7,.v (pr (Qo (Zj a)))),(5,.v (.one (.ow 1 0)))] [.row false 26 1 [[pl a]],.blk 299 [.orow 0 1 none],.blk 29 (Zq z)] rfl rfl ?_
  have hll:=(Qkz ha (Xz hd) h3).1
  refine lp (S:=Nat×List (List Int)×List Int×List Int) 3 (fun L1 s=>(4,.v (pr s.2.2.1))::(7,.v (pr s.2.2.2))::L1) (fun s=>[.row false 26 1 (J3 s.2.1),.blk 299 [.orow 0 1 none],.blk 29 (Zq z)]) (fun s=>s.1) (fun s=>Pb s.2.2.1∧Pb s.2.2.2∧∃ m,chF s.1 s.2.2.1 s.2.2.2=some m∧s.2.1++m=a::l') (66,[a],a,Qo (Zj a)) ⟨ha,Xz hd,l',h3,rfl⟩ rfl (fun _ _=>rfl) rfl fun ⟨k,out,A,C⟩ ⟨j1,j2,m,j3,j4⟩=>?_
  dsimp only at j1 j2 j3 j4 ⊢
  have hol:out.length≤67:=by have:=congrArg List.length j4; simp at this; omega
  cases k with
  | zero=>cases j3
  |
   succ k =>
   simp only [chF] at j3
   split at j3
   · rename_i h0
     injection j3 with j3; subst j3
     rw [List.append_nil] at j4
     rw [←j4]
     exact en tt [.f (by simpa using h0)] rfl rfl trivial
   · rename_i h0
     obtain ⟨r,hr,j3⟩:=Option.bind_eq_some_iff.1 j3
     obtain ⟨rfl,hpb⟩:=Rt (C7 j1 j2 h0).1 hr
     obtain ⟨m',j6,j5⟩:=Option.bind_eq_some_iff.1 j3
     injection j5 with j5; subst j5
     refine go tt [.t (by simp; omega),.s (sz:=1) (fun c hc=>by rw [List.mem_singleton.1 hc]; rfl),.c [] (Qt8 j1 j2 h0),.c [] (Qt3 hpb.ln hpb.bd)] rfl (by simp [Qa,U5]; omega) ?_
     exact rd (k,out++[C],C,Y9 (X3 A C)) (by dsimp only; omega) ⟨j2,Qxy hpb,m',j6,by rw [←j4]; simp⟩ (by rw [Qbd]; rfl)
end Orr
