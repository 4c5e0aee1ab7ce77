/- AlgL F1 F2 F3 F4 F5 T1 T2 T3 T4 T5 T6 T7 -/
import Derived.Test.YtbnjginelkkonaaGreatPart05
set_option linter.all false

namespace Orr
def Qo (p : List Int) : Int := p.getD (p.length - 1) 0
def chk (p : List Int) : Option (List Int) := if p.length ≤ 64 ∧ (p.all fun z => Nat.ble (Qm z) 16777216) = true then some p else none
def chq (q : Rat) : Option Rat := if Qm q.num ≤ 16777216 ∧ Qm (q.den : Int) ≤ 16777216 then some q else none
def Ju (p : List Int) : Int := (Z4 p : Nat)
def Ky (p : List Int) (c : Int) : List Int := trim (p.map (· / c))
def Zy (p : List Int) : Int := if Qo p < 0 then -Ju p else Ju p
def Qn (p : List Int) : List Int := if p.length = 0 then [] else Ky p (Zy p)
def mono (i : Nat) (x : Int) : List Int := List.replicate i 0 ++ [x]
def psd (b : List Int) (c : Int) : Nat → List Int × List Int → List Int × List Int
  | 0,s => s
  |
   i + 1,(q,r) =>
   psd b c i (Pk (Qu q c) (mono i (if r.length = b.length + i then Qo r else 0)),Vr (Qu r c) (Zl (trim (mono i (if r.length = b.length + i then Qo r else 0))) b))
def Ye (a b : List Int) : List Int := (psd b (Qo b) (a.length + 1 - b.length) ([],a)).2
def V0 (a b r : List Int) : List Int := if (a.length + 1 - b.length) % 2 = 1 ∧ Qo b < 0 then Yx r else r
def Pq (r : List Int) : List Int := if r.length = 0 then [] else Ky r (Ju r)
def Xt (a b : List Int) : List Int := Pq (V0 a b (Ye a b))
def Qdo (b : List Int) : Nat → List Int → List Int → Option (List Int)
  | 0,a,q => if a.length = 0 then some q else none
  | i + 1,a,q => if a.length < b.length + i then Qdo b i a q else if Qo a % Qo b = 0 then Qdo b i (Vr a (Zl (trim (mono i (Qo a / Qo b))) b)) (q.set i (Qo a / Qo b)) else none
def Tv (a b : List Int) : Option (List Int) := if b.length = 0 then none else (Qdo b (a.length + 1 - b.length) a (List.replicate (a.length + 1 - b.length) 0)).bind fun q => chk (trim q)
def Dq : Nat → List Int → List Int → Option (List Int)
  | 0,_,_ => none
  | k + 1,a,b => if b.length = 0 then some a else (chk (Xt a b)).bind fun r => Dq k b r
def Tx (a b : List Int) : Option (List Int) := (Dq 66 (Qn a) (Qn b)).map Qn
def Qdq (a b : List Int) : Option (List Int) := (Tx [] a).bind fun g => Tx g b
def Yy (a : List Int) : Option (List Int) := if (Qn a).length < 2 then some (Qn a) else (chk (Zk (Qn a))).bind fun d => (Tx (Qn a) d).bind fun g => Tv (Qn a) g
def C6 : Nat → List Int → Option (List (List Int))
  | 0,_ => none
  | k + 1,g => if g.length < 2 then some [] else (chk (Zk g)).bind fun d => (Tx g d).bind fun h => (Tv g h).bind fun w => (C6 k h).bind fun l => some (w :: l)
def Ow : List (List Int) → Option (List (List Int))
  | [] => some []
  | [w] => some [w]
  | w :: v :: l => (Tv w v).bind fun f => (Ow (v :: l)).bind fun r => some (f :: r)
def Ns : Nat → List Int → List (List Int) → Option (List Int)
  | _,p,[] => some p
  | i,p,f :: l => if i % 2 = 0 then (chk (Zl p f)).bind fun q => Ns (i + 1) q l else Ns (i + 1) p l
def Qjh (a : List Int) : Option (List Int) := if (Qn a).length = 0 then some [] else (C6 66 (Qn a)).bind fun l => (Ow l).bind fun fs => Ns 0 [1] fs
def chF : Nat → List Int → List Int → Option (List (List Int))
  | 0,_,_ => none
  | k + 1,a,b => if b.length = 0 then some [] else (chk (Xt a b)).bind fun r => (chF k b (Yx r)).bind fun l => some (b :: l)
def Gi (p : List Int) : Option (List (List Int)) := (Yy p).bind fun a => if a.length = 0 then none else (chk (Zk a)).bind fun d => (chF 66 a (Qn d)).bind fun l => some (a :: l)
def J0 (sg : List Int → Int) (s : Nat × Int) (p : List Int) : Nat × Int := if sg p = 0 then s else (if s.2 = -(sg p) then s.1 + 1 else s.1,sg p)
def Kn (sg : List Int → Int) (l : List (List Int)) : Nat := (l.foldl (J0 sg) (0,0)).1
def Ko (l : List (List Int)) (q : Rat) : Nat := Kn (fun p => Zv p q) l
def X3 (l : List (List Int)) (lo hi : Rat) : Int := if Zu hi lo < 0 then 0 else (Ko l lo : Int) - (Ko l hi : Int)
def M9 (p : List Int) : Int := Int.sign (Qo p)
def Rf (p : List Int) : Int := if p.length % 2 = 0 then -Int.sign (Qo p) else Int.sign (Qo p)
def T0 (l : List (List Int)) : Int := (Kn Rf l : Int) - (Kn M9 l : Int)
def most : List Int → Nat := fun l => l.foldl (fun m z => if m < z.natAbs then z.natAbs else m) 0
def Zt (p : List Int) : Rat := Rat.divInt (((Qo p).natAbs : Int) + (most (p.take (p.length - 1)) : Int)) ((Qo p).natAbs : Int)
def mid (a b : Rat) : Rat := Rat.divInt (a.num * (b.den : Int) + b.num * (a.den : Int)) ((a.den : Int) * (b.den : Int) * 2)
def U9 (p : List Int) (c : List (List Int)) : Nat → Rat → Rat → Int → Option (List Tm)
  | 0,_,_,_ => none
  | k + 1,lo,hi,n => if n = 0 then some [] else if n = 1 then some [⟨p,lo,hi⟩] else (chq (mid lo hi)).bind fun m => (U9 p c k lo m (X3 c lo m)).bind fun l => (U9 p c k m hi (n - X3 c lo m)).bind fun r => some (l ++ r)
def I8 (p : List Int) : Option (List Tm) := (Gi p).bind fun c => (Yy p).bind fun q => (chq (Zt q)).bind fun b => U9 q c 100000 (-b) b (T0 c)
def Tm.point (a : Tm) : Bool := decide (0 ≤ Zu a.lo a.hi)
def low (p : List Int) (q : Rat) : Int := if Zv p q ≠ 0 then Zv p q else Zv (Zk p) q
def Nf (p : List Int) (lo hi : Rat) : Bool := decide (Zv p hi = 0 ∨ Zv p hi ≠ low p lo)
def Zn (a : Tm) (t : Rat) : Int :=
  if a.point = true then Zu a.lo t else if Zu t a.lo ≤ 0 then 1 else if 0 < Zu t a.hi then -1 else if Zv a.p t = 0 then 0 else if Zv a.p t = low a.p a.lo then 1 else -1
def Qc0 (a : Tm) : Option Tm := if a.point = true then some a else (chq (mid a.lo a.hi)).bind fun m =>
  some (if Zn a m = 0 then ⟨a.p,m,m⟩ else if Zn a m = -1 then ⟨a.p,a.lo,m⟩ else ⟨a.p,m,a.hi⟩)
def Zm (p : List Int) : Nat := p.foldl (fun n z => max n (Qm z)) 0
def J9 (a b : Tm) : Nat := 64 + 2 * (Qm a.lo.num + Qm a.hi.num + Qm b.lo.num + Qm b.hi.num) + 4 * (a.p.length + b.p.length) * (Zm a.p + Zm b.p + (a.p.length + b.p.length) + 8)
def Oa (a b : Rat) : Rat := Rat.divInt (a.num * (b.den : Int) - b.num * (a.den : Int)) ((a.den : Int) * (b.den : Int))
def Kv (a b : Tm) : Bool := decide (Zu a.hi b.lo ≤ 0 ∧ ¬ ((a.point = true ∧ b.point = true) ∧ Zu a.hi b.lo = 0))
def On : Nat → Tm → Tm → Option (Tm × Tm × Int)
  | 0,a,b => some (a,b,0)
  |
   k + 1,a,b => if Kv a b = true then some (a,b,-1) else if Kv b a = true then some (a,b,1) else
   if 0 ≤ Zu (Oa a.hi a.lo) (Oa b.hi b.lo) then (Qc0 a).bind fun x => On k x b else (Qc0 b).bind fun x => On k a x
def Oq (a b : Tm) : Option Int := if a.point = true then some (-Zn b a.lo) else if b.point = true then some (Zn a b.lo) else
  let lo := if 0 < Zu b.lo a.lo then b.lo else a.lo
  let hi := if Zu b.hi a.hi < 0 then b.hi else a.hi
  if Zu lo hi < 0 then (Qdq a.p b.p).bind fun g => if 1 < g.length ∧ Nf g lo hi = true then some 0 else (On (J9 a b) a b).bind fun r => some r.2.2
  else (On (J9 a b) a b).bind fun r => some r.2.2
def sgF (c : List (List Int)) : Nat → Tm → Option Tm
  | 0,a => some a
  | k + 1,a => if a.point = true ∨ X3 c a.lo a.hi = 0 then some a else (Qc0 a).bind fun x => sgF c k x
def Qbw (p : List Int) (a : Tm) : Option Int := if p.length = 0 then some 0 else if a.point = true then some (Zv p a.lo) else
  (Qdq p a.p).bind fun g => if 1 < g.length ∧ Nf g a.lo a.hi = true then some 0 else (Gi p).bind fun c => (sgF c (64 + 2 * (Qm a.lo.num + Qm a.hi.num) + 4 * (a.p.length + p.length) * (Zm a.p + Zm p + (a.p.length + p.length) + 8)) a).bind fun x => some (Zv p x.hi)
def Ti : Tm → List Tm → Option Tm
  | b,[] => some b
  | b,a :: l => (Oq a b).bind fun c => Ti (if c < 0 then a else b) l
def Pp (a : Tm) : List Tm → Option (Option Tm)
  | [] => some none
  | r :: l => (Oq r a).bind fun c => if 0 < c then some (some r) else Pp a l
def Mn (p : List Int) : Option (List Tm) := (Qjh p).bind fun q => if q.length = 0 then some [] else I8 q
def Qbf (p : List Int) (a : Tm) : Option (Option Tm) := (Mn p).bind fun l => Pp a l
end Orr

namespace Orr
open Go Go.Proofs
set_option maxRecDepth 10000
theorem Uk {p : List Int} (tp : Qj p) (h : p.length ≠ 0) : Qo p ≠ 0 := Xw tp (by omega)
theorem Iq {p : List Int} (h : p.length ≠ 0) : Qo p ∈ p := List.mem_of_getElem? (Xp (by omega))
theorem Ve {s : Nat} {p : List Int} (h : Bd s p) : Qm (Qo p) ≤ s := Qp h _
theorem Us {p : List Int} : ∀ z ∈ p,Ju p ∣ z := Td
theorem Tr {p : List Int} (tp : Qj p) (h : p.length ≠ 0) : Ju p ≠ 0 := fun h0 => Uk tp h (Int.zero_dvd.1 (h0 ▸ Us _ (Iq h)))
theorem Sv {p : List Int} (h : Bd 4294967295 p) : Qm (Ju p) ≤ 4294967295 := Ej h
theorem Qm5 {p : List Int} (tp : Qj p) (h : p.length ≠ 0) : Zy p ≠ 0 := by
  have := Tr tp h
  unfold Zy; split <;> omega
theorem Nu {p : List Int} : ∀ z ∈ p,Zy p ∣ z := fun z hz => by
  unfold Zy; split
  · exact Int.neg_dvd.2 (Us z hz)
  · exact Us z hz
theorem Qt2 {p : List Int} (h : Bd 4294967295 p) : Qm (Zy p) ≤ 4294967295 := by
  unfold Zy; split
  · rw [Z1]; exact Sv h
  · exact Sv h
theorem Aa {s : Nat} {p : List Int} (h : Bd s p) (c : Int) : Bd s (Ky p c) := X8 (Ca h c)
theorem Qa7 (p : List Int) (c : Int) : (Ky p c).length ≤ p.length := Nat.le_trans (Xa _) (by simp)
theorem H5 (p : List Int) (c : Int) : Qj (Ky p c) := Xk _
theorem Qux {p : List Int} (h : Pb p) (c : Int) : Pb (Ky p c) := ⟨H5 _ _,Nat.le_trans (Qa7 _ _) h.l,Aa h.b c⟩
theorem Dd : Pb [] := ⟨rfl,by simp,K5⟩
theorem Xq {p : List Int} (h : Pb p) : Pb (Qn p) := by
  unfold Qn; split
  · exact Dd
  · exact Qux h _
theorem Pb.bd {p : List Int} (h : Pb p) : Bd 4294967295 p := Qd h.b (by omega)
theorem Pb.ln {p : List Int} (h : Pb p) : p.length < 274877906944 := Nat.lt_of_le_of_lt h.l (by omega)
theorem Pb.ln' {p : List Int} (h : Pb p) : p.length < 8589934592 := Nat.lt_of_le_of_lt h.l (by omega)
theorem Hm {p q : List Int} (tp : Qj p) (h : chk p = some q) : q = p ∧ Pb p := by
  unfold chk at h
  split at h
  · rename_i hc
    injection h with h
    refine ⟨h.symm,tp,hc.1,fun z hz => ?_⟩
    have := List.all_eq_true.1 hc.2 z hz
    exact Nat.le_of_ble_eq_true this
  · cases h
theorem Qk7 {p : List Int} {g : Int} (hl : p.length < 274877906944) (hp : Bd 4294967295 p) (hg : Qm g ≤ 4294967295) (h0 : g ≠ 0) (hd : ∀ z ∈ p,g ∣ z) : Qc Tryz.prog 296 [pr p,.agg (Zg g)] [pr (Ky p g)] := by
  refine Z6 Tryz.func296 rfl ?_
  refine go tt [.r 9 (eI (b := (p.length : Int)) (by simp)),.i p.length,.i p.length,.r 12 (eI (b := (p.length : Int)) (by simp))] rfl (by simp [Qa]; omega) ?_
  rw [U3 fun k => Zg (p.getD k 0 / g)]
  refine lp (S := Nat) 2 (fun L1 k => (13,.v (.one (.int .i64 (k : Int)))) :: L1) (fun k => [.blk 29 (Zg g),.row false 29 2 (Ol (fun k => Zg (p.getD k 0 / g)) [.bool false,.nils] p.length k)]) (fun k => p.length - k) (fun k => k ≤ p.length) 0 (Nat.zero_le _) rfl (fun _ _ => rfl) rfl fun k hk => ?_
  by_cases hlt : k < p.length
  · have hg2 := Xp hlt
    refine go tt [.t (by simp; omega),.x (J8 hg2),.c [] (Fg (Qe _) (Qe _) (Qp hp k) hg h0 (Int.emod_eq_zero_of_dvd (hd _ (List.mem_of_getElem? hg2)))),.i k] rfl (by simp [Qa,Fo]; omega) ?_
    have e := Hu (fun k => Zg (p.getD k 0 / g)) [.bool false,.nils] hlt
    rw [e]
    exact rd (k + 1) (by omega) hlt rfl
  · obtain rfl : k = p.length := by omega
    have e : Ol (fun k => Zg (p.getD k 0 / g)) [.bool false,.nils] p.length p.length = (p.map (· / g)).map Zg := by
      rw [Ht]
      refine List.ext_getElem? fun i => ?_
      by_cases hi : i < p.length
      · simp [List.getElem?_range hi,List.getD,List.getElem?_eq_getElem hi]
      · simp [List.getElem?_eq_none,hi]
    rw [e]
    exact en tt [.f (by simp),.c [] (Wl (Z0 (p.map (· / g))) (by simp; exact hl) (Ca hp g))] rfl rfl trivial
theorem Ce {p : List Int} (hl : p.length < 8589934592) (hp : Bd 4294967295 p) : Qc Tryz.prog 297 [.one (.row [[pl p]])] [.agg (Zg (Ju p))] := by
  refine Z6 Tryz.func297 rfl ?_
  refine go tt [.o 3 29 2] rfl trivial ?_
  refine lp (S := Nat) 2 (fun L1 i => (8,.v (.one (.int .i64 (i : Int)))) :: (3,.v (.one (.orow 1 2 none))) :: L1) (fun i => [.blk 29 [.bool false,.nils],.row false 29 2 (if i = 0 then [] else p.map Zg)]) (fun i => 1 - i) (fun i => i ≤ 1) 0 (Nat.zero_le _) rfl (fun _ _ => rfl) rfl fun i hi => ?_
  rcases (show i = 0 ∨ i = 1 by omega) with rfl | rfl
  · refine go tt [.t rfl,.x (i := 0) (xs := [pl p]) rfl,.s (I0 p)] rfl (by simp [Qa]; omega) ?_
    exact rd 1 (by omega) (by omega) rfl
  · exact en tt [.f rfl,.c [] (Qqv (Z0 p) hp)] rfl rfl trivial
theorem Qr0 {p : List Int} (tp : Qj p) (hl' : p.length < 8589934592) (hp : Bd 4294967295 p) : Qc Tryz.prog 271 [pr p] [.agg (Zg (if p.length = 0 then 0 else Zy p)),pr (Qn p)] := by
  have hl : p.length < 274877906944 := by omega
  have cn := Z7 tp hl hp
  by_cases h0 : p.length = 0
  · have e : p = [] := List.eq_nil_of_length_eq_zero h0
    subst e
    exact w tt Tryz.func271 rfl [.c [] cn,.t rfl] rfl (by simp [U8,Qn]; rfl) trivial
  · have hpf : Qn p = Ky p (Zy p) := by unfold Qn; rw [if_neg h0]
    rw [if_neg h0,hpf]
    have co := Qk7 hl hp (Qt2 hp) (Qm5 tp h0) Nu
    by_cases hneg : Qo p < 0
    · have e : Zy p = -Ju p := by unfold Zy; rw [if_pos hneg]
      rw [e] at co ⊢
      exact w tt Tryz.func271 rfl [.c [] cn,.f (by simpa using h0),.c [] (Ce hl' hp),.c [] (Wj tp hl hp),.t (by simpa [Qo] using hneg),.c [] (Dy (Qe _) (Sv hp)),.c [] co] rfl rfl trivial
    · have e : Zy p = Ju p := by unfold Zy; rw [if_neg hneg]
      rw [e] at co ⊢
      exact w tt Tryz.func271 rfl [.c [] cn,.f (by simpa using h0),.c [] (Ce hl' hp),.c [] (Wj tp hl hp),.f (by simpa [Qo] using hneg),.c [] co] rfl rfl trivial
theorem Fi {p : List Int} (hp : Pb p) : Qc Tryz.prog 264 [pr p] [pr (Qn p)] :=
  w tt Tryz.func264 rfl [.c [] (Qr0 hp.t hp.ln' hp.bd)] rfl rfl trivial
theorem Y3 (p : List Int) : Qc Tryz.prog 158 [pr p] [.one (.int .i64 ((p.length : Int) - 1))] := by
  have h : Qc Tryz.prog 158 [pr p] [.one (.int .i64 (((p.map Zg).length : Int) - 1))] := Z6 Tryz.func158 rfl (ln 0 rfl rfl fun hl => en tt [] rfl rfl (by simp [Qa] at hl ⊢; omega))
  rw [List.length_map] at h; exact h
theorem Gv (i : Nat) (x : Int) : (mono i x).length = i + 1 := by simp [mono]
theorem E8 {s i : Nat} {x : Int} (h : Qm x ≤ s) : Bd s (mono i x) := fun z hz => by
  simp only [mono,List.mem_append,List.mem_singleton] at hz
  rcases hz with hz | rfl
  · rw [(List.mem_replicate.1 hz).2,Vf]; exact Nat.zero_le _
  · exact h
def stq (c : Int) (i : Nat) (x : Int) (q : List Int) : List Int := Pk (Qu q c) (mono i x)
def str (b : List Int) (c : Int) (i : Nat) (x : Int) (r : List Int) : List Int := Vr (Qu r c) (Zl (trim (mono i x)) b)
theorem Q24 {u t i : Nat} {c x : Int} {q : List Int} (hq : Bd u q) (hc : Qm c ≤ t) (hx : Qm x ≤ u) : Bd (u + t + 8) (stq c i x q) :=
  Qd (Qxr (Zj hq hc) (E8 hx)) (by omega)
theorem Qzn {c x : Int} {i : Nat} {q : List Int} : (stq c i x q).length ≤ max q.length (i + 1) := by
  have h := Qt7 (Qu q c) (mono i x)
  have h1 := Q6 q c
  rw [Gv] at h
  unfold stq; omega
theorem Qc8 {i : Nat} {x : Int} {b : List Int} : (Zl (trim (mono i x)) b).length ≤ i + b.length := by
  have h := Qt8 (trim (mono i x)) b
  have h1 := Xa (mono i x)
  rw [Gv] at h1; omega
theorem Qkx {u t i : Nat} {x : Int} {b : List Int} (hb : Bd t b) (hx : Qm x ≤ u) (hi : i ≤ 64) : Bd (u + t + 7) (Zl (trim (mono i x)) b) :=
  Qxs (X8 (E8 hx)) hb (Nat.lt_of_le_of_lt (Xa _) (by rw [Gv]; omega))
theorem Qhw {u t i : Nat} {c x : Int} {b r : List Int} (hr : Bd u r) (hb : Bd t b) (hc : Qm c ≤ t) (hx : Qm x ≤ u) (hi : i ≤ 64) : Bd (u + t + 8) (str b c i x r) :=
  Qd (Sn (Zj hr hc) (Qkx hb hx hi)) (by omega)
theorem Qc9 {c x : Int} {i : Nat} {b r : List Int} : (str b c i x r).length ≤ max r.length (i + b.length) := by
  have h := Gt (Qu r c) (Zl (trim (mono i x)) b)
  have h1 := Q6 r c
  have h2 := Qc8 (i := i) (x := x) (b := b)
  unfold str; omega
theorem Qgb (i : Nat) (x : Int) : ((List.replicate (i + 1) (0 : Int)).map Zg).set i (Zg x) = (mono i x).map Zg := by
  rw [Qjf,mono]
  congr 1
  refine List.ext_getElem? fun j => ?_
  simp only [List.getElem?_set,List.getElem?_append,List.getElem?_replicate,List.length_replicate]
  by_cases h : j = i
  · subst h; simp
  · rw [if_neg (by omega)]
    by_cases h2 : j < i
    · simp [h2]; omega
    · rw [if_neg (by omega),if_neg h2]
      cases hj : j - i with
      | zero => omega
      | succ m => simp
theorem Qms (i : Nat) {x : Int} {y : List LV} (h : y.map Lv = Zg x) : (((List.replicate (i + 1) [LV.bool false,LV.nils]).set i y).map fun c => c.map Lv) = (mono i x).map Zg := by
  rw [List.map_set,Et,h]; exact Qgb i x
theorem Tw {b : List Int} {c : Int} {i : Nat} {q r : List Int} {x : Int} (hx : x = if r.length = b.length + i then Qo r else 0) : psd b c (i + 1) (q,r) = psd b c i (stq c i x q,str b c i x r) := by
  subst hx; rfl
theorem Qra {a b : List Int} (ha : Pb a) (hb : Pb b) (h0 : b.length ≠ 0) : Qc Tryz.prog 294 [pr a,pr b] [pr (psd b (Qo b) (a.length + 1 - b.length) ([],a)).1,pr (Ye a b),.one (.int .i64 ((a.length + 1 - b.length : Nat) : Int)),.one (.int .i64 0)] := by
  have hal := ha.l
  have hbl := hb.l
  have hlb : Qm (Qo b) ≤ 16777216 := Ve hb.b
  obtain ⟨c,hc⟩ : ∃ c,c = Qo b := ⟨_,rfl⟩
  have cl := Wj hb.t hb.ln hb.bd
  rw [show b.getD (b.length - 1) 0 = c from hc.symm] at cl
  obtain ⟨k,hk⟩ : ∃ k,k = a.length + 1 - b.length := ⟨_,rfl⟩
  unfold Ye
  rw [← hc,← hk]
  rw [← hc] at hlb
  refine Z6 Tryz.func294 rfl ?_
  refine go tt [.z 4,.c [] (Z7 ha.t ha.ln ha.bd),.c [] (Z7 hb.t hb.ln hb.bd),.f (by simpa using h0),.c [] cl,.c [] (Y3 a),.c [] (Y3 b),.r 27 (eI (b := (k : Int)) (by omega))] rfl (by simp [Qa]; omega) ?_
  refine lp (S := Nat × List Int × List Int) 1 (fun L1 s => (4,.v (pr s.2.1)) :: (5,.v (pr s.2.2)) :: (9,.v (.one (.int .i64 ((s.1 : Int) - 1)))) :: L1) (fun _ => [.blk 29 (Zg c)]) (fun s => s.1) (fun s => s.1 ≤ k ∧ Qj s.2.2 ∧ s.2.1.length ≤ 66 ∧ s.2.2.length ≤ a.length ∧ Bd (16777216 + (k - s.1) * 16777224) s.2.1 ∧ Bd (16777216 + (k - s.1) * 16777224) s.2.2 ∧ psd b c s.1 s.2 = psd b c k ([],a)) (k,[],a) ⟨Nat.le_refl _,ha.t,by simp,Nat.le_refl _,K5,by simpa using ha.b,rfl⟩ rfl (fun _ _ => rfl) rfl fun ⟨i,q,r⟩ ⟨j1,j2,j3,j4,j5,j6,j7⟩ => ?_
  dsimp only at j1 j2 j3 j4 j5 j6 j7 ⊢
  rw [← j7]
  cases i with
  | zero => exact en tt [.f (by simp)] rfl rfl trivial
  |
   succ i =>
   obtain ⟨x,hx⟩ : ∃ x,x = if r.length = b.length + i then Qo r else 0 := ⟨_,rfl⟩
   obtain ⟨u,hu⟩ : ∃ u,u = 16777216 + (k - (i + 1)) * 16777224 := ⟨_,rfl⟩
   rw [← hu] at j5 j6
   have hub : u ≤ 1107296256 := by
     have : (k - (i + 1)) * 16777224 ≤ 64 * 16777224 := Nat.mul_le_mul_right _ (by omega)
     omega
   have hxs : Qm x ≤ u := by
     rw [hx]; split
     · exact Ve j6
     · rw [Vf]; exact Nat.zero_le _
   have cs := Wx (p := q) (c := c) (by omega) (Qd j5 (by omega)) (by omega)
   have cs2 := Wx (p := r) (c := c) (by omega) (Qd j6 (by omega)) (by omega)
   have l1 := Q6 q c
   have l2 := Q6 r c
   have ca := Qh5 (p := Qu q c) (q := mono i x) (by omega) (by rw [Gv]; omega) (Qd (Zj j5 hlb) (by omega)) (Qd (E8 hxs) (by omega))
   have cm := Qcb (p0 := mono i x) hb.t (by rw [Gv]; omega) (by omega) (E8 hxs) hb.b (by omega)
   have l3 := Qc8 (i := i) (x := x) (b := b)
   have cb := Qcc (p := Qu r c) (q := Zl (trim (mono i x)) b) (by omega) (by omega) (Qd (Zj j6 hlb) (by omega)) (Qd (Qkx hb.b hxs (by omega)) (by omega))
   have hst := Tw (b := b) (c := c) (q := q) hx
   have hI : i ≤ k ∧ Qj (str b c i x r) ∧ (stq c i x q).length ≤ 66 ∧ (str b c i x r).length ≤ a.length ∧ Bd (16777216 + (k - i) * 16777224) (stq c i x q) ∧ Bd (16777216 + (k - i) * 16777224) (str b c i x r) := by
     have l5 := Qzn (c := c) (x := x) (i := i) (q := q)
     have l6 := Qc9 (c := c) (x := x) (i := i) (b := b) (r := r)
     have hku : u + 16777216 + 8 = 16777216 + (k - i) * 16777224 := by
       rw [hu,show k - i = (k - (i + 1)) + 1 from by omega,Nat.add_mul]; omega
     refine ⟨by omega,Q8 _ _,by omega,by omega,?_,?_⟩
     · rw [← hku]; exact Q24 j5 hlb hxs
     · rw [← hku]; exact Qhw j6 hb.b hlb hxs (by omega)
   rw [hst]
   by_cases h : r.length = b.length + i
   · refine go tt [.t (by simp <;> omega),.c [] (Y3 r),.c [] (Y3 b),.t (by simp; omega),.c [] (Wj j2 (by omega) (Qd j6 (by omega))),.r 44 (eI (b := ((i + 1 : Nat) : Int)) (by omega)),.i (i + 1),.i (i + 1),.r 47 (eI (b := (i : Int)) (by omega)),.i i] rfl (by simp [Qa]; omega) ?_
     refine nl 2 rfl rfl rfl ?_
     rw [Qms i (x := x) (by rw [hx,if_pos h]; rfl)]
     refine go tt [.c [] cs,.c [] ca,.c [] cs2,.c [] cm,.c [] cb,.r 33 (eI (b := (i : Int) - 1) (by omega))] rfl (by simp [Qa]; omega) ?_
     exact rd (i,stq c i x q,str b c i x r) (by dsimp only; omega) ⟨hI.1,hI.2.1,hI.2.2.1,hI.2.2.2.1,hI.2.2.2.2.1,hI.2.2.2.2.2,rfl⟩ rfl
   · refine go tt [.t (by simp <;> omega),.c [] (Y3 r),.c [] (Y3 b),.f (by simp; omega),.r 44 (eI (b := ((i + 1 : Nat) : Int)) (by omega)),.i (i + 1),.i (i + 1),.r 47 (eI (b := (i : Int)) (by omega)),.i i] rfl (by simp [Qa]; omega) ?_
     refine nl 2 rfl rfl rfl ?_
     rw [Qms i (x := x) (by rw [hx,if_neg h,U8]; rfl)]
     refine go tt [.c [] cs,.c [] ca,.c [] cs2,.c [] cm,.c [] cb,.r 33 (eI (b := (i : Int) - 1) (by omega))] rfl (by simp [Qa]; omega) ?_
     exact rd (i,stq c i x q,str b c i x r) (by dsimp only; omega) ⟨hI.1,hI.2.1,hI.2.2.1,hI.2.2.2.1,hI.2.2.2.2.1,hI.2.2.2.2.2,rfl⟩ rfl
theorem Qu7 {b : List Int} {c : Int} (hb : Bd 16777216 b) (hc : Qm c ≤ 16777216) {n : Nat} : ∀ (i u : Nat) (q r : List Int),i ≤ 64 → i + b.length ≤ n + 1 → Qj r → r.length ≤ n → Bd u r → Qj (psd b c i (q,r)).2 ∧ (psd b c i (q,r)).2.length ≤ n ∧ Bd (u + i * 16777224) (psd b c i (q,r)).2
  | 0,u,q,r,_,_,h1,h2,h3 => ⟨h1,h2,by simpa [psd] using h3⟩
  |
   i + 1,u,q,r,hi,hn,h1,h2,h3 => by
   rw [Tw rfl]
   have hx : Qm (if r.length = b.length + i then Qo r else 0) ≤ u := by
     split
     · exact Ve h3
     · rw [Vf]; exact Nat.zero_le _
   have l6 := Qc9 (c := c) (x := if r.length = b.length + i then Qo r else 0) (i := i) (b := b) (r := r)
   have := Qu7 hb hc (n := n) i (u + 16777216 + 8) (stq c i (if r.length = b.length + i then Qo r else 0) q) (str b c i (if r.length = b.length + i then Qo r else 0) r) (by omega) (by omega) (Q8 _ _) (by omega) (Qhw h3 hb hc hx (by omega))
   exact ⟨this.1,this.2.1,Qd this.2.2 (by omega)⟩
theorem Qm8 {a b : List Int} (ha : Pb a) (hb : Pb b) (h0 : b.length ≠ 0) : Qj (Ye a b) ∧ (Ye a b).length ≤ a.length ∧ Bd 1107296256 (Ye a b) := by
  have hal := ha.l
  by_cases h : b.length ≤ a.length + 1
  · obtain ⟨h1,h2,h3⟩ := Qu7 hb.b (Ve hb.b) (n := a.length) (a.length + 1 - b.length) 16777216 [] a (by omega) (by omega) ha.t (Nat.le_refl _) ha.b
    refine ⟨h1,h2,Qd h3 ?_⟩
    have : (a.length + 1 - b.length) * 16777224 ≤ 64 * 16777224 := Nat.mul_le_mul_right _ (by omega)
    omega
  · have e : Ye a b = a := by unfold Ye; rw [show a.length + 1 - b.length = 0 from by omega]; rfl
    rw [e]
    exact ⟨ha.t,Nat.le_refl _,Qd ha.b (by omega)⟩
theorem Nz {a b r : List Int} {s n : Nat} (h1 : Qj r) (h2 : r.length ≤ n) (h3 : Bd s r) : Qj (V0 a b r) ∧ (V0 a b r).length ≤ n ∧ Bd s (V0 a b r) := by
  unfold V0; split
  · exact ⟨Q8 _ _,Nat.le_trans (Tk r) h2,Ea h3⟩
  · exact ⟨h1,h2,h3⟩
theorem I2 {r : List Int} {s n : Nat} (h2 : r.length ≤ n) (h3 : Bd s r) : Qj (Pq r) ∧ (Pq r).length ≤ n ∧ Bd s (Pq r) := by
  unfold Pq; split
  · exact ⟨rfl,by simp,K5⟩
  · exact ⟨H5 _ _,Nat.le_trans (Qa7 _ _) h2,Aa h3 _⟩
theorem Nw {a b : List Int} (ha : Pb a) (hb : Pb b) (h0 : b.length ≠ 0) : Qj (Xt a b) ∧ (Xt a b).length ≤ a.length ∧ Bd 1107296256 (Xt a b) := by
  obtain ⟨h1,h2,h3⟩ := Qm8 ha hb h0
  obtain ⟨h4,h5,h6⟩ := Nz (a := a) (b := b) h1 h2 h3
  exact I2 h5 h6
theorem Qrc {a b : List Int} (ha : Pb a) (hb : Pb b) (h0 : b.length ≠ 0) : Qc Tryz.prog 265 [pr a,pr b] [pr (Xt a b),.one (.int .i64 0)] := by
  obtain ⟨h1,h2,h3⟩ := Qm8 ha hb h0
  obtain ⟨h4,h5,h6⟩ := Nz (a := a) (b := b) h1 h2 h3
  have hal := ha.l
  have cp := Qra ha hb h0
  have cl := Wj hb.t hb.ln hb.bd
  have cn := Qq7 (p := Ye a b) (by omega) (Qd h3 (by omega))
  unfold Xt
  obtain ⟨r,hr⟩ : ∃ r,r = V0 a b (Ye a b) := ⟨_,rfl⟩
  have cc := Ce (p := r) (by rw [hr]; omega) (by rw [hr]; exact Qd h6 (by omega))
  rw [← hr] at h4 h5 h6 ⊢
  obtain ⟨k,hk⟩ : ∃ k,k = a.length + 1 - b.length := ⟨_,rfl⟩
  rw [← hk] at cp
  have em : ((k : Int).tmod 2) = ((k % 2 : Nat) : Int) := by rw [Int.tmod_eq_emod_of_nonneg (by omega)]; omega
  have key : Pq r = if r.length = 0 then [] else Ky r (Ju r) := rfl
  by_cases hz : r.length = 0
  · rw [key,if_pos hz]
    by_cases hodd : k % 2 = 1
    · by_cases hneg : Qo b < 0
      · have e : r = Yx (Ye a b) := by rw [hr]; unfold V0; rw [if_pos ⟨by rw [← hk]; exact hodd,hneg⟩]
        rw [e] at hz
        exact w tt Tryz.func265 rfl [.c [] cp,.f (by simp),.r 22 (eI em),.t (by simp; omega),.c [] cl,.t (by simpa [Qo] using hneg),.c [] cn,.t (by simpa using hz)] rfl rfl (by simp [Qa])
      · have e : r = Ye a b := by rw [hr]; unfold V0; rw [if_neg (fun h => hneg h.2)]
        rw [e] at hz
        exact w tt Tryz.func265 rfl [.c [] cp,.f (by simp),.r 22 (eI em),.t (by simp; omega),.c [] cl,.f (by simpa [Qo] using hneg),.t (by simpa using hz)] rfl rfl (by simp [Qa])
    · have e : r = Ye a b := by rw [hr]; unfold V0; rw [if_neg (fun h => hodd (by rw [hk]; exact h.1))]
      rw [e] at hz
      exact w tt Tryz.func265 rfl [.c [] cp,.f (by simp),.r 22 (eI em),.f (by simp; omega),.f rfl,.t (by simpa using hz)] rfl rfl (by simp [Qa])
  · rw [key,if_neg hz]
    have cd := Qk7 (p := r) (g := Ju r) (by omega) (Qd h6 (by omega)) (Sv (Qd h6 (by omega))) (Tr h4 hz) Us
    by_cases hodd : k % 2 = 1
    · by_cases hneg : Qo b < 0
      · have e : r = Yx (Ye a b) := by rw [hr]; unfold V0; rw [if_pos ⟨by rw [← hk]; exact hodd,hneg⟩]
        rw [e] at hz cc cd ⊢
        exact w tt Tryz.func265 rfl [.c [] cp,.f (by simp),.r 22 (eI em),.t (by simp; omega),.c [] cl,.t (by simpa [Qo] using hneg),.c [] cn,.f (by simpa using hz),.c [] cc,.c [] cd] rfl rfl (by simp [Qa])
      · have e : r = Ye a b := by rw [hr]; unfold V0; rw [if_neg (fun h => hneg h.2)]
        rw [e] at hz cc cd ⊢
        exact w tt Tryz.func265 rfl [.c [] cp,.f (by simp),.r 22 (eI em),.t (by simp; omega),.c [] cl,.f (by simpa [Qo] using hneg),.f (by simpa using hz),.c [] cc,.c [] cd] rfl rfl (by simp [Qa])
    · have e : r = Ye a b := by rw [hr]; unfold V0; rw [if_neg (fun h => hodd (by rw [hk]; exact h.1))]
      rw [e] at hz cc cd ⊢
      exact w tt Tryz.func265 rfl [.c [] cp,.f (by simp),.r 22 (eI em),.f (by simp; omega),.f rfl,.f (by simpa using hz),.c [] cc,.c [] cd] rfl rfl (by simp [Qa])
end Orr

namespace Orr
open Go Go.Proofs
set_option maxRecDepth 10000
theorem Qzi {s : Nat} {x : Int} (h : Qm x ≤ s) (g : Int) : Qm (x / g) ≤ s := Ca (p := [x]) (fun z hz => by rw [List.mem_singleton.1 hz]; exact h) g _ (by simp)
def sta (b : List Int) (i : Nat) (x : Int) (a : List Int) : List Int := Vr a (Zl (trim (mono i x)) b)
theorem Q23 {u t i : Nat} {x : Int} {b a : List Int} (ha : Bd u a) (hb : Bd t b) (hx : Qm x ≤ u) (hi : i ≤ 64) : Bd (u + t + 8) (sta b i x a) :=
  Qd (Sn ha (Qkx hb hx hi)) (by omega)
theorem Qmj {x : Int} {i : Nat} {b a : List Int} : (sta b i x a).length ≤ max a.length (i + b.length) := by
  have h := Gt a (Zl (trim (mono i x)) b)
  have h2 := Qc8 (i := i) (x := x) (b := b)
  unfold sta; omega
theorem Qxt (s n : Nat) : Bd s (List.replicate n 0) := fun z hz => by rw [(List.mem_replicate.1 hz).2,Vf]; exact Nat.zero_le _
theorem Q22 {s i : Nat} {l : List Int} {x : Int} (h : Bd s l) (hx : Qm x ≤ s) : Bd s (l.set i x) := fun z hz => by
  rcases List.mem_or_eq_of_mem_set hz with hz | rfl
  · exact h z hz
  · exact hx
theorem Qq5 {a b q : List Int} (ha : Pb a) (hb : Pb b) (h : Tv a b = some q) : Qc Tryz.prog 318 [pr a,pr b] [pr q,.one (.int .i64 0)] := by
  unfold Tv at h
  split at h
  · cases h
  rename_i h0
  obtain ⟨k,hk⟩ : ∃ k,k = a.length + 1 - b.length := ⟨_,rfl⟩
  rw [← hk] at h
  obtain ⟨q',hq,hq2⟩ := Option.bind_eq_some_iff.1 h
  obtain ⟨rfl,hpb⟩ := Hm (Xk _) hq2
  have hal := ha.l
  have hbl := hb.l
  refine Z6 Tryz.func318 rfl ?_
  refine go tt [.c [] (Z7 ha.t ha.ln ha.bd),.c [] (Z7 hb.t hb.ln hb.bd),.f (by simpa using h0),.r 24 (eI (b := (k : Int)) (by simp; omega)),.i k,.i k,.r 27 (eI (b := (k : Int)) (by simp))] rfl (by simp [Qa]; omega) ?_
  refine nl 0 rfl rfl rfl ?_
  rw [Et]
  refine lp (S := Nat × List Int × List Int) 1 (fun L1 s => (0,.v (pr s.2.1)) :: (7,.v (.one (.int .i64 ((s.1 : Int) - 1)))) :: L1) (fun s => [.row false 29 2 (s.2.2.map Zg)]) (fun s => s.1) (fun s => s.1 ≤ k ∧ Qj s.2.1 ∧ s.2.1.length ≤ a.length ∧ Bd (16777216 + (k - s.1) * 16777224) s.2.1 ∧ s.2.2.length = k ∧ Bd 1107296256 s.2.2 ∧ Qdo b s.1 s.2.1 s.2.2 = some q') (k,a,List.replicate k 0) ⟨Nat.le_refl _,ha.t,Nat.le_refl _,by simpa using ha.b,by simp,Qxt _ _,hq⟩ rfl (fun _ _ => rfl) rfl fun ⟨i,A,Q⟩ ⟨j1,j2,j3,j4,j5,j7,j6⟩ => ?_
  dsimp only at j1 j2 j3 j4 j5 j6 j7 ⊢
  cases i with
  |
   zero =>
   simp only [Qdo] at j6
   split at j6
   · rename_i hA
     injection j6 with j6; subst j6
     exact en tt [.f (by simp),.f (by simpa using hA),.c [] (Wl (Z0 Q) (by omega) (Qd j7 (by omega)))] rfl rfl trivial
   · cases j6
  |
   succ i =>
   obtain ⟨u,hu⟩ : ∃ u,u = 16777216 + (k - (i + 1)) * 16777224 := ⟨_,rfl⟩
   rw [← hu] at j4
   have hub : u ≤ 1107296256 := by
     have : (k - (i + 1)) * 16777224 ≤ 64 * 16777224 := Nat.mul_le_mul_right _ (by omega)
     omega
   have hku : u + 16777216 + 8 = 16777216 + (k - i) * 16777224 := by
     rw [hu,show k - i = (k - (i + 1)) + 1 from by omega,Nat.add_mul]; omega
   simp only [Qdo] at j6
   by_cases hlt : A.length < b.length + i
   · rw [if_pos hlt] at j6
     refine go tt [.t (by simp <;> omega),.c [] (Y3 A),.c [] (Y3 b),.t (by simp; omega),.r 32 (eI (b := (i : Int) - 1) (by omega))] rfl (by simp [Qa]; omega) ?_
     exact rd (i,A,Q) (by dsimp only; omega) ⟨by dsimp only; omega,j2,j3,Qd j4 (by dsimp only; omega),j5,j7,j6⟩ rfl
   · rw [if_neg hlt] at j6
     split at j6
     · rename_i hdv
       obtain ⟨x,hx⟩ : ∃ x,x = Qo A / Qo b := ⟨_,rfl⟩
       rw [← hx] at j6
       have hxs : Qm x ≤ u := by rw [hx]; exact Qzi (Ve j4) _
       have ce := Fg (Qe (Qo A)) (Qe (Qo b)) (Nat.le_trans (Ve j4) (by omega)) (Nat.le_trans (Ve hb.b) (by omega)) (Uk hb.t h0) hdv
       rw [← hx] at ce
       have cm : Qc Tryz.prog 213 [.one (.row ((mono i x).map Zg)),pr b] [pr (Zl (trim (mono i x)) b)] := Qcb (p0 := mono i x) hb.t (by rw [Gv]; omega) (by omega) (E8 hxs) hb.b (by omega)
       have l3 := Qc8 (i := i) (x := x) (b := b)
       have l4 := Qmj (i := i) (x := x) (b := b) (a := A)
       have cb := Qcc (p := A) (q := Zl (trim (mono i x)) b) (by omega) (by omega) (Qd j4 (by omega)) (Qd (Qkx hb.b hxs (by omega)) (by omega))
       refine go tt [.t (by simp <;> omega),.c [] (Y3 A),.c [] (Y3 b),.f (by simp; omega),.c [] (Wj j2 (by omega) (Qd j4 (by omega))),.c [] (Wj hb.t hb.ln hb.bd),.c [] ce,.f rfl,.r 51 (eI (b := (i : Int)) (by omega)),.i i,.r 55 (eI (b := ((i + 1 : Nat) : Int)) (by omega)),.i (i + 1),.i (i + 1),.r 58 (eI (b := (i : Int)) (by omega))] rfl (by simp [Qa]; omega) ?_
       refine nl 2 rfl rfl rfl ?_
       rw [Et,Qjf]
       rw [← Qgb i x] at cm
       refine go tt [.i i,.c [] cm,.c [] cb,.r 32 (eI (b := (i : Int) - 1) (by omega))] rfl (by simp [Qa]; omega) ?_
       exact rd (i,sta b i x A,Q.set i x) (by dsimp only; omega) ⟨by dsimp only; omega,Q8 _ _,by dsimp only; omega,by dsimp only; rw [← hku]; exact Q23 j4 hb.b hxs (by omega),by simpa using j5,Q22 j7 (Nat.le_trans hxs hub),j6⟩ rfl
     · cases j6
theorem Qjd {a b q : List Int} (h : Tv a b = some q) : Pb q := by
  unfold Tv at h
  split at h
  · cases h
  · obtain ⟨q',_,hq2⟩ := Option.bind_eq_some_iff.1 h
    obtain ⟨rfl,hpb⟩ := Hm (Xk _) hq2
    exact hpb
theorem Qr6 {a b q : List Int} (ha : Pb a) (hb : Pb b) (h : Tv a b = some q) : Qc Tryz.prog 298 [pr a,pr b] [pr q] :=
  w tt Tryz.func298 rfl [.c [] (Qq5 ha hb h)] rfl rfl trivial
theorem Qef : ∀ {k : Nat} {a b g : List Int},Pb a → Pb b → Dq k a b = some g → Pb g
  | 0,_,_,_,_,_,h => by cases h
  |
   k + 1,a,b,g,ha,hb,h => by
   simp only [Dq] at h
   split at h
   · injection h with h; subst h; exact ha
   · rename_i h0
     obtain ⟨r,hr,h⟩ := Option.bind_eq_some_iff.1 h
     obtain ⟨rfl,hpb⟩ := Hm (Nw ha hb h0).1 hr
     exact Qef hb hpb h
theorem Qlh {a b g : List Int} (ha : Pb a) (hb : Pb b) (h : Tx a b = some g) : Qc Tryz.prog 225 [pr a,pr b] [pr g] := by
  unfold Tx at h
  obtain ⟨g',h2,rfl⟩ := Option.map_eq_some_iff.1 h
  have hg := Qef (Xq ha) (Xq hb) h2
  refine Z6 Tryz.func225 rfl ?_
  refine go tt [.c [] (Fi ha),.c [] (Fi hb)] rfl trivial ?_
  refine lp (S := Nat × List Int × List Int) 0 (fun L1 s => (0,.v (pr s.2.1)) :: (1,.v (pr s.2.2)) :: L1) (fun _ => []) (fun s => s.1) (fun s => Pb s.2.1 ∧ Pb s.2.2 ∧ Dq s.1 s.2.1 s.2.2 = some g') (66,Qn a,Qn b) ⟨Xq ha,Xq hb,h2⟩ rfl (fun _ _ => rfl) rfl fun ⟨k,A,C⟩ ⟨j1,j2,j3⟩ => ?_
  dsimp only at j1 j2 j3 ⊢
  cases k with
  | zero => cases j3
  |
   succ k =>
   simp only [Dq] at j3
   split at j3
   · rename_i h0
     injection j3 with j3; subst j3
     exact en tt [.f (by simpa using h0),.c [] (Fi j1)] rfl rfl trivial
   · rename_i h0
     obtain ⟨r,hr,j3⟩ := Option.bind_eq_some_iff.1 j3
     obtain ⟨rfl,hpb⟩ := Hm (Nw j1 j2 h0).1 hr
     refine go tt [.t (by simp; omega),.c [] (Qrc j1 j2 h0)] rfl trivial ?_
     exact rd (k,C,Xt A C) (by dsimp only; omega) ⟨j2,hpb,j3⟩ rfl
theorem Df {a b g : List Int} (ha : Pb a) (hb : Pb b) (h : Tx a b = some g) : Pb g := by
  unfold Tx at h
  obtain ⟨g',h2,rfl⟩ := Option.map_eq_some_iff.1 h
  exact Xq (Qef (Xq ha) (Xq hb) h2)
theorem Qq6 {a b g : List Int} (ha : Pb a) (hb : Pb b) (h : Qdq a b = some g) : Qc Tryz.prog 176 [.one (.row (Js [a,b]))] [pr g] := by
  unfold Qdq at h
  obtain ⟨g1,h1,h2⟩ := Option.bind_eq_some_iff.1 h
  have hg1 := Df Dd ha h1
  refine Z6 Tryz.func176 rfl ?_
  refine go tt [.z 3] rfl trivial ?_
  refine lp (S := Nat) 0 (fun L1 i => (8,.v (.one (.int .i64 (i : Int)))) :: (3,.v (pr (if i = 0 then [] else if i = 1 then g1 else g))) :: L1) (fun _ => []) (fun i => 2 - i) (fun i => i ≤ 2) 0 (Nat.zero_le _) rfl (fun _ _ => rfl) rfl fun i hi => ?_
  rcases (show i = 0 ∨ i = 1 ∨ i = 2 by omega) with rfl | rfl | rfl
  · refine go tt [.t rfl,.x (Xj (i := 0) (p := a) rfl),.c [] (Qlh Dd ha h1)] rfl (by simp [Qa]) ?_
    exact rd 1 (by omega) (by omega) rfl
  · refine go tt [.t rfl,.x (Xj (i := 1) (p := b) rfl),.c [] (Qlh hg1 hb h2)] rfl (by simp [Qa]) ?_
    exact rd 2 (by omega) (by omega) rfl
  · exact en tt [.f rfl] rfl rfl trivial
theorem Quu {a b g : List Int} (ha : Pb a) (hb : Pb b) (h : Qdq a b = some g) : Pb g := by
  unfold Qdq at h
  obtain ⟨g1,h1,h2⟩ := Option.bind_eq_some_iff.1 h
  exact Df (Df Dd ha h1) hb h2
theorem Iy {p d : List Int} (h : chk (Zk p) = some d) : d = Zk p ∧ Pb (Zk p) := Hm (Q8 _ _) h
theorem Af {a g : List Int} (ha : Pb a) (h : Yy a = some g) : Qc Tryz.prog 270 [pr a] [pr g] := by
  have hp := Xq ha
  unfold Yy at h
  split at h
  · rename_i h0
    injection h with h; subst h
    exact w tt Tryz.func270 rfl [.c [] (Fi ha),.c [] (Y3 _),.t (by simp; omega)] rfl rfl trivial
  · rename_i h0
    obtain ⟨d,h1,h⟩ := Option.bind_eq_some_iff.1 h
    obtain ⟨rfl,hd⟩ := Iy h1
    obtain ⟨g1,h1,h⟩ := Option.bind_eq_some_iff.1 h
    exact w tt Tryz.func270 rfl [.c [] (Fi ha),.c [] (Y3 _),.f (by simp; omega),.c [] (Gg hp.ln hp.bd),.c [] (Qlh hp hd h1),.c [] (Qr6 hp (Df hp hd h1) h)] rfl rfl trivial
theorem De {a g : List Int} (ha : Pb a) (h : Yy a = some g) : Pb g := by
  unfold Yy at h
  split at h
  · injection h with h; subst h; exact Xq ha
  · obtain ⟨d,h1,h⟩ := Option.bind_eq_some_iff.1 h
    obtain ⟨g1,h1,h⟩ := Option.bind_eq_some_iff.1 h
    exact Qjd h
theorem Quv {p : List Int} (h : Pb p) : Pb (Yx p) := ⟨Q8 _ _,Nat.le_trans (Tk p) h.l,Ea h.b⟩
theorem Qik : ∀ {k : Nat} {a b : List Int} {l : List (List Int)},Pb a → Pb b → chF k a b = some l → l.length ≤ k ∧ ∀ p ∈ l,Pb p
  | 0,_,_,_,_,_,h => by cases h
  |
   k + 1,a,b,l,ha,hb,h => by
   simp only [chF] at h
   split at h
   · injection h with h; subst h; exact ⟨by simp,fun p hp => by cases hp⟩
   · rename_i h0
     obtain ⟨r,hr,h⟩ := Option.bind_eq_some_iff.1 h
     obtain ⟨rfl,hpb⟩ := Hm (Nw ha hb h0).1 hr
     obtain ⟨l',h1,h⟩ := Option.bind_eq_some_iff.1 h
     injection h with h; subst h
     obtain ⟨i1,i2⟩ := Qik hb (Quv hpb) h1
     refine ⟨by simp; exact i1,fun p hp => ?_⟩
     rcases List.mem_cons.1 hp with rfl | hp
     · exact hb
     · exact i2 p hp
theorem chain_ok {p : List Int} {l : List (List Int)} (hp : Pb p) (h : Gi p = some l) : l.length ≤ 67 ∧ ∀ q ∈ l,Pb q := by
  unfold Gi at h
  obtain ⟨a,h1,h⟩ := Option.bind_eq_some_iff.1 h
  have ha := De hp h1
  split at h
  · cases h
  · obtain ⟨d,h2,h⟩ := Option.bind_eq_some_iff.1 h
    obtain ⟨rfl,hd⟩ := Iy h2
    obtain ⟨l',h3,h⟩ := Option.bind_eq_some_iff.1 h
    injection h with h; subst h
    obtain ⟨i1,i2⟩ := Qik ha (Xq hd) h3
    refine ⟨by simp; omega,fun p hp => ?_⟩
    rcases List.mem_cons.1 hp with rfl | hp
    · exact ha
    · exact i2 p hp
theorem I1 (l : List (List Int)) (p : List Int) : Js l ++ [[pl p]] = Js (l ++ [p]) := by simp [Js]
theorem Ut (l : List (List Int)) : (Js l).length = l.length := by simp [Js]
theorem Qre {p : List Int} {l : List (List Int)} (hp : Pb p) (h : Gi p = some l) : Qc Tryz.prog 230 [pr p] [.one (.sh [.row (Js l)]),.one (.int .i64 0)] := by
  unfold Gi at h
  obtain ⟨a,h1,h⟩ := Option.bind_eq_some_iff.1 h
  have ha := De hp h1
  split at h
  · cases h
  rename_i h0
  obtain ⟨d,h2,h⟩ := Option.bind_eq_some_iff.1 h
  obtain ⟨rfl,hd⟩ := Iy h2
  obtain ⟨l',h3,h⟩ := Option.bind_eq_some_iff.1 h
  injection h with h; subst h
  refine Z6 Tryz.func230 rfl ?_
  refine go tt [.c [] (Af hp h1),.f (by simpa using h0),.lo,.c [] (Gg ha.ln ha.bd),.c [] (Qr0 hd.t hd.ln' hd.bd)] rfl (by simp [Qa]) ?_
  obtain ⟨z,hz⟩ : ∃ z,z = if (Zk a).length = 0 then 0 else Zy (Zk a) := ⟨_,rfl⟩
  rw [← hz]
  refine sb [(4,.v (pr a)),(7,.v (pr (Qn (Zk a)))),(5,.v (.one (.ow 1 0)))] [.row false 26 1 [[pl a]],.blk 299 [.orow 0 1 none],.blk 29 (Zg z)] rfl rfl ?_
  have hll := (Qik ha (Xq hd) h3).1
  refine lp (S := Nat × List (List Int) × List Int × List Int) 3 (fun L1 s => (4,.v (pr s.2.2.1)) :: (7,.v (pr s.2.2.2)) :: L1) (fun s => [.row false 26 1 (Js s.2.1),.blk 299 [.orow 0 1 none],.blk 29 (Zg z)]) (fun s => s.1) (fun s => Pb s.2.2.1 ∧ Pb s.2.2.2 ∧ ∃ m,chF s.1 s.2.2.1 s.2.2.2 = some m ∧ s.2.1 ++ m = a :: l') (66,[a],a,Qn (Zk a)) ⟨ha,Xq hd,l',h3,rfl⟩ rfl (fun _ _ => rfl) rfl fun ⟨k,out,A,C⟩ ⟨j1,j2,m,j3,j4⟩ => ?_
  dsimp only at j1 j2 j3 j4 ⊢
  have hol : out.length ≤ 67 := by have := congrArg List.length j4; simp at this; omega
  cases k with
  | zero => cases j3
  |
   succ k =>
   simp only [chF] at j3
   split at j3
   · rename_i h0
     injection j3 with j3; subst j3
     rw [List.append_nil] at j4
     rw [← j4]
     exact en tt [.f (by simpa using h0)] rfl rfl trivial
   · rename_i h0
     obtain ⟨r,hr,j3⟩ := Option.bind_eq_some_iff.1 j3
     obtain ⟨rfl,hpb⟩ := Hm (Nw j1 j2 h0).1 hr
     obtain ⟨m',j6,j5⟩ := Option.bind_eq_some_iff.1 j3
     injection j5 with j5; subst j5
     refine go tt [.t (by simp; omega),.s (sz := 1) (fun c hc => by rw [List.mem_singleton.1 hc]; rfl),.c [] (Qrc j1 j2 h0),.c [] (Qq7 hpb.ln hpb.bd)] rfl (by simp [Qa,Ut]; omega) ?_
     exact rd (k,out ++ [C],C,Yx (Xt A C)) (by dsimp only; omega) ⟨j2,Quv hpb,m',j6,by rw [← j4]; simp⟩ (by rw [I1]; rfl)
end Orr

namespace Orr
open Go Go.Proofs
set_option maxRecDepth 10000
structure Tb (t : Tm) : Prop where
  p : Pb t.p
  lo : Qb t.lo
  hi : Qb t.hi
theorem Qlr (x y : Int) : -1 ≤ V5 x y ∧ V5 x y ≤ 1 := by unfold V5; split <;> (try split) <;> omega
theorem Hn (a b : Rat) : -1 ≤ Zu a b ∧ Zu a b ≤ 1 := Qlr _ _
theorem G7 (p : List Int) (q : Rat) : -1 ≤ Zv p q ∧ Zv p q ≤ 1 := Qlr _ _
theorem Qi7 (p : List Int) (q : Rat) : -1 ≤ low p q ∧ low p q ≤ 1 := by unfold low; split <;> exact G7 _ _
theorem Qb.s31 {q : Rat} (h : Qb q) : Qs 2147483647 q := h.mono (by decide)
theorem Qb.s32 {q : Rat} (h : Qb q) : Qs 4294967295 q := h.mono (by decide)
theorem Lq {p : List Int} {q : Rat} (hp : Pb p) (hq : Qb q) : Qc Tryz.prog 192 [pr p,.agg (rl q)] [.one (.int .i64 (Zv p q))] := by
  have hm : p.length * (16777216 + 1) ≤ 64 * 16777217 := Nat.mul_le_mul_right _ hp.l
  exact Qk1 hp.t hp.ln hp.b hq (by omega)
theorem Q6e {p : List Int} {q : Rat} (hp : Pb p) (hq : Qb q) : Qc Tryz.prog 192 [pr (Zk p),.agg (rl q)] [.one (.int .i64 (Zv (Zk p) q))] := by
  have hl := Nat.le_trans (Vg p) (show p.length - 1 ≤ 64 by have := hp.l; omega)
  have hm : (Zk p).length * (16777216 + 1) ≤ 64 * 16777217 := Nat.mul_le_mul_right _ hl
  exact Qk1 (Q8 _ _) (Nat.lt_of_le_of_lt hl (by omega)) (L9 (t := 6) hp.b hp.l) hq (by omega)
theorem Wy {t : Tm} (ht : Tb t) : Qc Tryz.prog 175 [.agg (ta t)] [.one (.bool t.point)] :=
  w tt Tryz.func175 rfl [.c [] (Uw ht.lo.s31 ht.hi.s31)] rfl rfl trivial
theorem Ec {t : Tm} (ht : Tb t) : Qc Tryz.prog 174 [.agg (ta t)] [.agg (ta t)] :=
  w tt Tryz.func174 rfl [.c [] (Z7 ht.p.t ht.p.ln ht.p.bd),.c [] (Hl ht.lo.s32),.c [] (Hl ht.hi.s32)] rfl rfl trivial
theorem Qsd {t : Tm} (ht : Tb t) : Qc Tryz.prog 196 [.agg (ta t)] [.agg (ta t)] := w tt Tryz.func196 rfl [.c [] (Ec ht)] rfl rfl trivial
theorem Qrv {p : List Int} {q : Rat} (hp : Pb p) (hq : Qb q) : Qc Tryz.prog 193 [pr p,.agg (rl q)] [.one (.int .i64 (low p q))] := by
  unfold low
  by_cases h : Zv p q = 0
  · rw [if_neg (by simpa using h)]
    exact w tt Tryz.func193 rfl [.c [] (Lq hp hq),.f (by simpa using h),.c [] (Gg hp.ln hp.bd),.c [] (Q6e hp hq)] rfl rfl trivial
  · rw [if_pos h]
    exact w tt Tryz.func193 rfl [.c [] (Lq hp hq),.t (by simpa using h)] rfl rfl trivial
theorem Qrs {p : List Int} {lo hi : Rat} (hp : Pb p) (hl : Qb lo) (hh : Qb hi) : Qc Tryz.prog 177 [pr p,.agg (rl lo),.agg (rl hi)] [.one (.bool (Nf p lo hi))] := by
  by_cases h : Zv p hi = 0
  · exact w tt Tryz.func177 rfl [.c [] (Lq hp hh),.t (by simpa using h)] rfl (by simp [Nf,h]) trivial
  · exact w tt Tryz.func177 rfl [.c [] (Lq hp hh),.f (by simpa using h),.c [] (Qrv hp hl)] rfl (by simp [Nf,h]) trivial
theorem Ad {t : Tm} {q : Rat} (ht : Tb t) (hq : Qb q) : Qc Tryz.prog 133 [.agg (ta t),.agg (rl q)] [.one (.int .i64 (Zn t q))] := by
  have cp := Wy ht
  unfold Zn
  by_cases h1 : t.point = true
  · rw [if_pos h1]
    exact w tt Tryz.func133 rfl [.c [] cp,.t h1,.c [] (Uw ht.lo.s31 hq.s31)] rfl rfl trivial
  rw [if_neg h1]
  have h1 : t.point = false := by simpa using h1
  have c1 := Uw hq.s31 ht.lo.s31
  have c2 := Uw hq.s31 ht.hi.s31
  by_cases h2 : Zu q t.lo ≤ 0
  · rw [if_pos h2]
    exact w tt Tryz.func133 rfl [.c [] cp,.f h1,.c [] c1,.t (by simpa using h2)] rfl rfl trivial
  rw [if_neg h2]
  by_cases h3 : 0 < Zu q t.hi
  · rw [if_pos h3]
    exact w tt Tryz.func133 rfl [.c [] cp,.f h1,.c [] c1,.f (by simpa using h2),.c [] c2,.t (by simpa using h3)] rfl rfl trivial
  rw [if_neg h3]
  by_cases h4 : Zv t.p q = 0
  · rw [if_pos h4]
    exact w tt Tryz.func133 rfl [.c [] cp,.f h1,.c [] c1,.f (by simpa using h2),.c [] c2,.f (by simpa using h3),.c [] (Lq ht.p hq),.t (by simpa using h4)] rfl rfl trivial
  rw [if_neg h4]
  by_cases h5 : Zv t.p q = low t.p t.lo
  · rw [if_pos h5]
    exact w tt Tryz.func133 rfl [.c [] cp,.f h1,.c [] c1,.f (by simpa using h2),.c [] c2,.f (by simpa using h3),.c [] (Lq ht.p hq),.f (by simpa using h4),.c [] (Qrv ht.p ht.lo),.t (by simpa using h5)] rfl rfl trivial
  · rw [if_neg h5]
    exact w tt Tryz.func133 rfl [.c [] cp,.f h1,.c [] c1,.f (by simpa using h2),.c [] c2,.f (by simpa using h3),.c [] (Lq ht.p hq),.f (by simpa using h4),.c [] (Qrv ht.p ht.lo),.f (by simpa using h5)] rfl rfl trivial
theorem Qyy (t : Tm) (q : Rat) : -1 ≤ Zn t q ∧ Zn t q ≤ 1 := by
  unfold Zn
  have := Hn t.lo q
  repeat' split
  all_goals omega
theorem Qy5 (q : Rat) : 0 < (q.den : Int) := by have := q.den_pos; omega
theorem Q1u {a b : Rat} (ha : Qb a) (hb : Qb b) : Qc Tryz.prog 268 [.agg (rl a),.agg (rl b)] [.agg (rl (mid a b))] := by
  have h1 : Qm (a.num * (b.den : Int)) ≤ 33554432 := Nat.le_trans (Qz _ _) (by have := ha.1; have := hb.2; omega)
  have h2 : Qm (b.num * (a.den : Int)) ≤ 33554432 := Nat.le_trans (Qz _ _) (by have := hb.1; have := ha.2; omega)
  have h3 : Qm ((a.den : Int) * (b.den : Int)) ≤ 33554432 := Nat.le_trans (Qz _ _) (by have := ha.2; have := hb.2; omega)
  have h4 : Qm (2 : Int) ≤ 2 := by decide
  have h5 : Qm (a.num * (b.den : Int) + b.num * (a.den : Int)) ≤ 33554433 := Nat.le_trans (Su _ _) (by omega)
  have h6 : Qm ((a.den : Int) * (b.den : Int) * 2) ≤ 33554434 := Nat.le_trans (Qz _ _) (by omega)
  have h0 : (a.den : Int) * (b.den : Int) * 2 ≠ 0 := by
    have := Int.mul_pos (Qy5 a) (Qy5 b); omega
  exact w tt Tryz.func268 rfl [.c [] (Qcg ha.s31 hb.s31),.c [] (P3 (Qe _) (Qe _) (by omega) (by omega)),.c [] (Oo (z := 2) (by decide)),.c [] (K7 (Qe _) (Qe _) (by omega) (by omega)),.c [] (Ro h0 (by omega) (by omega))] rfl rfl trivial
theorem Qck {a b : Rat} (ha : Qb a) (hb : Qb b) : Qc Tryz.prog 227 [.agg (rl a),.agg (rl b)] [.agg (rl (Oa a b))] := by
  have h1 : Qm (a.num * (b.den : Int)) ≤ 33554432 := Nat.le_trans (Qz _ _) (by have := ha.1; have := hb.2; omega)
  have h2 : Qm (b.num * (a.den : Int)) ≤ 33554432 := Nat.le_trans (Qz _ _) (by have := hb.1; have := ha.2; omega)
  have h3 : Qm ((a.den : Int) * (b.den : Int)) ≤ 33554432 := Nat.le_trans (Qz _ _) (by have := ha.2; have := hb.2; omega)
  have h5 : Qm (a.num * (b.den : Int) - b.num * (a.den : Int)) ≤ 33554433 := Nat.le_trans (Qc6 _ _) (by omega)
  have h0 : (a.den : Int) * (b.den : Int) ≠ 0 := by
    have := Int.mul_pos (Qy5 a) (Qy5 b); omega
  exact w tt Tryz.func227 rfl [.c [] (Qcg ha.s31 hb.s31),.c [] (Qrl (Qe _) (Qe _) (by omega) (by omega)),.c [] (Ro h0 (by omega) (by omega))] rfl rfl trivial
theorem An {q r : Rat} (h : chq q = some r) : r = q ∧ Qb q := by
  unfold chq at h
  split at h
  · rename_i hc; injection h with h; exact ⟨h.symm,hc⟩
  · cases h
theorem Qid {t u : Tm} (ht : Tb t) (h : Qc0 t = some u) : Qc Tryz.prog 228 [.agg (ta t)] [.agg (ta u)] := by
  have cp := Wy ht
  unfold Qc0 at h
  split at h
  · rename_i h1
    injection h with h; subst h
    exact w tt Tryz.func228 rfl [.c [] cp,.t h1] rfl rfl trivial
  · rename_i h1
    have h1 : t.point = false := by simpa using h1
    obtain ⟨m,hm0,h⟩ := Option.bind_eq_some_iff.1 h
    obtain ⟨rfl,hm⟩ := An hm0
    injection h with h
    subst h
    have cm := Q1u ht.lo ht.hi
    have cc := Ad ht hm
    by_cases h2 : Zn t (mid t.lo t.hi) = 0
    · rw [if_pos h2]
      exact w tt Tryz.func228 rfl [.c [] cp,.f h1,.c [] cm,.c [] cc,.t (by simpa using h2)] rfl rfl trivial
    rw [if_neg h2]
    by_cases h3 : Zn t (mid t.lo t.hi) = -1
    · rw [if_pos h3]
      exact w tt Tryz.func228 rfl [.c [] cp,.f h1,.c [] cm,.c [] cc,.f (by simpa using h2),.t (by simpa using h3)] rfl rfl trivial
    · rw [if_neg h3]
      exact w tt Tryz.func228 rfl [.c [] cp,.f h1,.c [] cm,.c [] cc,.f (by simpa using h2),.f (by simpa using h3)] rfl rfl trivial
theorem Qd9 {t u : Tm} (ht : Tb t) (h : Qc0 t = some u) : Tb u := by
  unfold Qc0 at h
  split at h
  · injection h with h; subst h; exact ht
  · obtain ⟨m,hm0,h⟩ := Option.bind_eq_some_iff.1 h
    obtain ⟨rfl,hm⟩ := An hm0
    injection h with h
    subst h
    repeat' split
    · exact ⟨ht.p,hm,hm⟩
    · exact ⟨ht.p,ht.lo,hm⟩
    · exact ⟨ht.p,hm,ht.hi⟩
theorem Hh {z : Int} (h : Qm z ≤ 4294967296) : Qc Tryz.prog 266 [.one (mg z)] [.one (.int .i64 (Qm z : Int))] := by
  have h1 := Qh2 (l := Qw z.natAbs) (W7 _) (by rw [Zc]; exact h)
  rw [Zc] at h1; exact h1
theorem I5 {p : List Int} {i : Nat} {z : Int} (h : p[i]? = some z) : Zm (p.take (i + 1)) = max (Zm (p.take i)) (Qm z) := by
  unfold Zm; rw [List.take_succ,h,Option.toList_some,List.foldl_append]; rfl
theorem Ym {p : List Int} {s : Nat} (h : Bd s p) : ∀ i,Zm (p.take i) ≤ s
  | 0 => by simp [Zm]
  |
   i + 1 => by
   cases hz : p[i]? with
   |
    none =>
    rw [List.take_of_length_le (by have := List.getElem?_eq_none_iff.1 hz; omega),← List.take_of_length_le (l := p) (i := i) (by have := List.getElem?_eq_none_iff.1 hz; omega)]
    exact Ym h i
   | some z => rw [I5 hz]; have := Ym h i; have := Qqm h hz; omega
theorem Qcm {p : List Int} (hp : Pb p) : Qc Tryz.prog 267 [pr p] [.one (.int .i64 (Zm p : Int))] := by
  have hl := hp.l
  refine Z6 Tryz.func267 rfl ?_
  refine go tt [] rfl trivial ?_
  refine lp (S := Nat) 0 (fun L1 i => (8,.v (.one (.int .i64 (i : Int)))) :: (3,.v (.one (.int .i64 (Zm (p.take i) : Int)))) :: L1) (fun _ => []) (fun i => p.length - i) (fun i => i ≤ p.length) 0 (Nat.zero_le _) rfl (fun _ _ => rfl) rfl fun i hi => ?_
  by_cases hlt : i < p.length
  · have hg := Xp hlt
    have hz := Qp hp.b i
    have hs := I5 hg
    refine go tt [.t (by simp; omega),.x (J8 hg),.c [] (Hh (by omega)),.r 16 (eI (b := (Zm (p.take (i + 1)) : Int)) (by rw [hs]; omega))] rfl (by simp [Qa]; omega) ?_
    exact rd (i + 1) (by omega) hlt rfl
  · obtain rfl : i = p.length := by omega
    rw [List.take_length]
    exact en tt [.f (by simp)] rfl rfl trivial
theorem Qyu {a : Tm} {b : Tm} (ha : Tb a) (hb : Tb b) : Qc Tryz.prog 226 [.agg (ta a),.agg (ta b)] [.one (.int .i64 (J9 a b : Nat))] := by
  have l1 := ha.p.l
  have l2 := hb.p.l
  have b1 := ha.lo.1
  have b2 := ha.hi.1
  have b3 := hb.lo.1
  have b4 := hb.hi.1
  have s1 : Zm a.p ≤ 16777216 := by have := Ym ha.p.b a.p.length; rwa [List.take_length] at this
  have s2 : Zm b.p ≤ 16777216 := by have := Ym hb.p.b b.p.length; rwa [List.take_length] at this
  obtain ⟨N,hN⟩ : ∃ N,N = 4 * (a.p.length + b.p.length) := ⟨_,rfl⟩
  obtain ⟨S,hS⟩ : ∃ S,S = Zm a.p + Zm b.p + (a.p.length + b.p.length) + 8 := ⟨_,rfl⟩
  have hNS : N * S ≤ 512 * 33554568 := Nat.mul_le_mul (by omega) (by omega)
  have h0 : (N : Int) * (S : Int) = ((N * S : Nat) : Int) := (Int.natCast_mul _ _).symm
  have hst : J9 a b = 64 + 2 * (Qm a.lo.num + Qm a.hi.num + Qm b.lo.num + Qm b.hi.num) + N * S := by rw [hN,hS]; rfl
  rw [hst]
  exact w tt Tryz.func226 rfl [.c [] (Hh (z := a.lo.num) (by omega)),.c [] (Hh (z := a.hi.num) (by omega)),.c [] (Hh (z := b.lo.num) (by omega)),.c [] (Hh (z := b.hi.num) (by omega)),.r 41 (eI (b := (N : Int)) (by rw [hN]; simp)),.c [] (Qcm ha.p),.c [] (Qcm hb.p),.r 51 (eI (b := (S : Int)) (by rw [hS]; simp)),.r 52 (eI (b := ((N * S : Nat) : Int)) h0)] rfl (by simp) (by rw [h0]; simp [Qa]; omega)
def Qkd (p : List Int) (a : Tm) : Nat := 64 + 2 * (Qm a.lo.num + Qm a.hi.num) + 4 * (a.p.length + p.length) * (Zm a.p + Zm p + (a.p.length + p.length) + 8)
theorem Qkz : Qc Tryz.prog 266 [lr []] [.one (.int .i64 0)] := Qh2 (l := []) (by simp [Sm]) (by decide)
theorem Qsc {a : Tm} {p : List Int} (ha : Tb a) (hp : Pb p) : Qc Tryz.prog 226 [.agg (ta a),.agg ([pl p,.bool false,.row [],.bool false,.row [],.bool false,.row [],.bool false,.row []])] [.one (.int .i64 (Qkd p a : Nat))] := by
  have l1 := ha.p.l
  have l2 := hp.l
  have b1 := ha.lo.1
  have b2 := ha.hi.1
  have s1 : Zm a.p ≤ 16777216 := by have := Ym ha.p.b a.p.length; rwa [List.take_length] at this
  have s2 : Zm p ≤ 16777216 := by have := Ym hp.b p.length; rwa [List.take_length] at this
  obtain ⟨N,hN⟩ : ∃ N,N = 4 * (a.p.length + p.length) := ⟨_,rfl⟩
  obtain ⟨S,hS⟩ : ∃ S,S = Zm a.p + Zm p + (a.p.length + p.length) + 8 := ⟨_,rfl⟩
  have hNS : N * S ≤ 512 * 33554568 := Nat.mul_le_mul (by omega) (by omega)
  have h0 : (N : Int) * (S : Int) = ((N * S : Nat) : Int) := (Int.natCast_mul _ _).symm
  have hst : Qkd p a = 64 + 2 * (Qm a.lo.num + Qm a.hi.num) + N * S := by rw [hN,hS]; rfl
  rw [hst]
  exact w tt Tryz.func226 rfl [.c [] (Hh (z := a.lo.num) (by omega)),.c [] (Hh (z := a.hi.num) (by omega)),.c [] Qkz,.c [] Qkz,.r 41 (eI (b := (N : Int)) (by rw [hN]; simp)),.c [] (Qcm ha.p),.c [] (Qcm hp),.r 51 (eI (b := (S : Int)) (by rw [hS]; simp)),.r 52 (eI (b := ((N * S : Nat) : Int)) h0)] rfl (by simp) (by rw [h0]; simp [Qa]; omega)
end Orr

namespace Orr
open Go Go.Proofs
set_option maxRecDepth 10000
def Pm (sg : List Int → Int) (l : List (List Int)) (i : Nat) : Nat × Int := (l.take i).foldl (J0 sg) (0,0)
theorem Qec {sg : List Int → Int} (hs : ∀ p,-1 ≤ sg p ∧ sg p ≤ 1) (l : List (List Int)) : ∀ i,(Pm sg l i).1 ≤ i ∧ -1 ≤ (Pm sg l i).2 ∧ (Pm sg l i).2 ≤ 1
  | 0 => ⟨Nat.le_refl _,show (-1 : Int) ≤ 0 by decide,show (0 : Int) ≤ 1 by decide⟩
  |
   i + 1 => by
   obtain ⟨h1,h2,h3⟩ := Qec hs l i
   cases h : l[i]? with
   |
    none =>
    have : Pm sg l (i + 1) = Pm sg l i := by unfold Pm; rw [List.take_of_length_le (by have := List.getElem?_eq_none_iff.1 h; omega),List.take_of_length_le (List.getElem?_eq_none_iff.1 h)]
    rw [this]; omega
   |
    some p =>
    have : Pm sg l (i + 1) = J0 sg (Pm sg l i) p := Ub _ _ _ h
    rw [this]
    have := hs p
    unfold J0
    split
    · omega
    · dsimp only; split <;> omega
theorem Qyv {l : List (List Int)} {fid : Nat} {l1 : List LV} {sg : List Int → Int} (hl : l.length ≤ 1000) (hs : ∀ p,-1 ≤ sg p ∧ sg p ≤ 1) (h : ∀ p ∈ l,Qc Tryz.prog fid [pr p,.one (.sh l1)] [.one (.int .i64 (sg p))]) : Qc Tryz.prog 300 [.one (.sh [.row (Js l)]),.one (.fn fid [] [.sh l1])] [.one (.int .i64 (Kn sg l : Nat))] := by
  have hpl := Ut l
  refine Z6 Tryz.func300 rfl ?_
  refine go tt [] rfl trivial ?_
  refine lp (S := Nat) 0 (fun L1 i => (15,.v (.one (.int .i64 (i : Int)))) :: (5,.v (.one (.int .i64 ((Pm sg l i).1 : Int)))) :: (6,.v (.one (.int .i64 (Pm sg l i).2))) :: L1) (fun _ => []) (fun i => l.length - i) (fun i => i ≤ l.length) 0 (Nat.zero_le _) rfl (fun _ _ => rfl) rfl fun i hi => ?_
  by_cases hlt : i < l.length
  · obtain ⟨p,hp⟩ : ∃ p,l[i]? = some p := ⟨_,List.getElem?_eq_getElem hlt⟩
    have hst : Pm sg l (i + 1) = J0 sg (Pm sg l i) p := Ub _ _ _ hp
    obtain ⟨b1,b2,b3⟩ := Qec hs l i
    have b4 := hs p
    by_cases h0 : sg p = 0
    · refine go tt [.t (by simp [hpl]; omega),.x (Xj hp),.c [] (h p (List.mem_of_getElem? hp)),.t (by simpa using h0)] rfl (by simp [Qa]; omega) ?_
      exact rd (i + 1) (by omega) hlt (by rw [hst,show J0 sg (Pm sg l i) p = Pm sg l i from by unfold J0; rw [if_pos h0]]; rfl)
    · by_cases h1 : (Pm sg l i).2 = -(sg p)
      · refine go tt [.t (by simp [hpl]; omega),.x (Xj hp),.c [] (h p (List.mem_of_getElem? hp)),.f (by simpa using h0),.t (by simpa using h1)] rfl (by simp [Qa]; omega) ?_
        exact rd (i + 1) (by omega) hlt (by rw [hst,show J0 sg (Pm sg l i) p = ((Pm sg l i).1 + 1,sg p) from by unfold J0; rw [if_neg h0,if_pos h1]]; rfl)
      · refine go tt [.t (by simp [hpl]; omega),.x (Xj hp),.c [] (h p (List.mem_of_getElem? hp)),.f (by simpa using h0),.f (by simpa using h1)] rfl (by simp [Qa]; omega) ?_
        exact rd (i + 1) (by omega) hlt (by rw [hst,show J0 sg (Pm sg l i) p = ((Pm sg l i).1,sg p) from by unfold J0; rw [if_neg h0,if_neg h1]]; rfl)
  · obtain rfl : i = l.length := by omega
    refine en tt [.f (by simp [hpl])] rfl ?_ trivial
    unfold Pm Kn; rw [List.take_length]
theorem Qrj {p : List Int} {q : Rat} (hp : Pb p) (hq : Qb q) : Qc Tryz.prog 301 [pr p,.one (.sh (rl q))] [.one (.int .i64 (Zv p q))] := w tt Tryz.func301 rfl [.c [] (Lq hp hq)] rfl rfl trivial
theorem Qk6 {l : List (List Int)} {q : Rat} (hl : l.length ≤ 1000) (hp : ∀ p ∈ l,Pb p) (hq : Qb q) : Qc Tryz.prog 273 [.one (.sh [.row (Js l)]),.agg (rl q)] [.one (.int .i64 (Ko l q : Nat))] :=
  w tt Tryz.func273 rfl [.c [] (Qyv (fid := 301) (l1 := rl q) (sg := fun p => Zv p q) hl (fun p => G7 p q) fun p h => Qrj (hp p h) hq)] rfl rfl trivial
theorem W8 {sg : List Int → Int} (hs : ∀ p,-1 ≤ sg p ∧ sg p ≤ 1) (l : List (List Int)) : Kn sg l ≤ l.length := by
  have := (Qec hs l l.length).1
  unfold Pm at this; rwa [List.take_length] at this
theorem Qaa {l : List (List Int)} {lo hi : Rat} (hl : l.length ≤ 1000) (hp : ∀ p ∈ l,Pb p) (ql : Qb lo) (qh : Qb hi) : Qc Tryz.prog 231 [.one (.sh [.row (Js l)]),.agg (rl lo),.agg (rl hi)] [.one (.int .i64 (X3 l lo hi))] := by
  have b1 : Ko l lo ≤ l.length := W8 (fun p => G7 p lo) l
  have b2 : Ko l hi ≤ l.length := W8 (fun p => G7 p hi) l
  have c1 := Uw qh.s31 ql.s31
  unfold X3
  by_cases h : Zu hi lo < 0
  · rw [if_pos h]
    exact w tt Tryz.func231 rfl [.c [] c1,.t (by simpa using h)] rfl rfl trivial
  · rw [if_neg h]
    exact w tt Tryz.func231 rfl [.c [] c1,.f (by simpa using h),.c [] (Qk6 hl hp ql),.c [] (Qk6 hl hp qh)] rfl rfl (by simp [Qa]; omega)
def zTm : List LV := [.nils,.bool false,.nils,.bool false,.nils,.bool false,.nils,.bool false,.nils]
theorem Qpy {a b : Tm} (ha : Tb a) (hb : Tb b) : J9 a b ≤ 17179938816 + 200000000 := by
  have l1 := ha.p.l
  have l2 := hb.p.l
  have b1 := ha.lo.1
  have b2 := ha.hi.1
  have b3 := hb.lo.1
  have b4 := hb.hi.1
  have s1 : Zm a.p ≤ 16777216 := by have := Ym ha.p.b a.p.length; rwa [List.take_length] at this
  have s2 : Zm b.p ≤ 16777216 := by have := Ym hb.p.b b.p.length; rwa [List.take_length] at this
  have : 4 * (a.p.length + b.p.length) * (Zm a.p + Zm b.p + (a.p.length + b.p.length) + 8) ≤ 512 * 33554568 := Nat.mul_le_mul (by omega) (by omega)
  unfold J9; omega
theorem Q0j {a b : Rat} (ha : Qb a) (hb : Qb b) : Qs 2147483647 (Oa a b) := by
  have h1 : Qm (a.num * (b.den : Int)) ≤ 33554432 := Nat.le_trans (Qz _ _) (by have := ha.1; have := hb.2; omega)
  have h2 : Qm (b.num * (a.den : Int)) ≤ 33554432 := Nat.le_trans (Qz _ _) (by have := hb.1; have := ha.2; omega)
  have h3 : Qm ((a.den : Int) * (b.den : Int)) ≤ 33554432 := Nat.le_trans (Qz _ _) (by have := ha.2; have := hb.2; omega)
  have h5 : Qm (a.num * (b.den : Int) - b.num * (a.den : Int)) ≤ 33554433 := Nat.le_trans (Qc6 _ _) (by omega)
  exact (Qs.divInt (s := 33554433) h5 (by omega) (by omega)).mono (by omega)
theorem Qcd {a b : Tm} {r : Tm × Tm × Int} (ha : Tb a) (hb : Tb b) (h : On (J9 a b) a b = some r) : Qc Tryz.prog 178 [.agg (ta a),.agg (ta b)] [.agg (ta r.1),.agg (ta r.2.1),.one (.int .i64 r.2.2)] := by
  have hsb := Qpy ha hb
  refine Z6 Tryz.func178 rfl ?_
  refine go tt [.c [] (Qyu ha hb)] rfl trivial ?_
  obtain ⟨n,hn⟩ : ∃ n,n = J9 a b := ⟨_,rfl⟩
  rw [← hn] at h hsb ⊢
  refine sb [(10,.v (.one (.int .i64 0))),(9,.v (.one (.int .i64 (n : Int)))),(5,.v (.one (.ow 3 0))),(4,.v (.one (.ow 2 0))),(3,.v (.one (.ow 1 0))),(2,.v (.one (.ow 0 0)))] [.blk 67 (ta a),.blk 67 (ta b),.blk 67 zTm,.blk 67 zTm] rfl rfl ?_
  refine lp (S := Nat × Tm × Tm) 4 (fun L1 s => (10,.v (.one (.int .i64 (s.1 : Int)))) :: L1) (fun s => [.blk 67 (ta s.2.1),.blk 67 (ta s.2.2),.blk 67 zTm,.blk 67 zTm]) (fun s => n - s.1) (fun s => s.1 ≤ n ∧ Tb s.2.1 ∧ Tb s.2.2 ∧ On (n - s.1) s.2.1 s.2.2 = some r) (0,a,b) ⟨Nat.zero_le _,ha,hb,h⟩ rfl (fun _ _ => rfl) rfl fun ⟨i,u,v⟩ ⟨j1,j2,j3,j4⟩ => ?_
  dsimp only at j1 j2 j3 j4 ⊢
  by_cases hi : i < n
  · obtain ⟨k,hk⟩ : ∃ k,n - i = k + 1 := ⟨n - i - 1,by omega⟩
    have hk' : n - (i + 1) = k := by omega
    rw [hk] at j4
    have c1 := Uw j2.hi.s31 j3.lo.s31
    have c2 := Uw j3.hi.s31 j2.lo.s31
    have pu := Wy j2
    have pv := Wy j3
    have hlt : decide ((i : Int) < (n : Int)) = true := by simp; omega
    simp only [On] at j4
    refine go tt [.t hlt] rfl trivial ?_
    refine ct 3 (S := Unit) (fun _ => [(10,.v (.one (.int .i64 (i : Int)))),(9,.v (.one (.int .i64 (n : Int)))),(5,.v (.one (.ow 3 0))),(4,.v (.one (.ow 2 0))),(3,.v (.one (.ow 1 0))),(2,.v (.one (.ow 0 0)))]) (fun _ => [.blk 67 (ta u),.blk 67 (ta v),.blk 67 zTm,.blk 67 zTm]) (fun _ => ¬ Kv u v = true ∧ ¬ Kv v u = true) rfl ?_ ?_
    · have bA : Kv u v = (decide (Zu u.hi v.lo ≤ 0) && !(u.point && v.point && decide (Zu u.hi v.lo = 0))) := by
        unfold Kv; cases u.point <;> cases v.point <;> simp
      have bB : Kv v u = (decide (Zu v.hi u.lo ≤ 0) && !(u.point && v.point && decide (Zu v.hi u.lo = 0))) := by
        unfold Kv; cases u.point <;> cases v.point <;> simp
      obtain ⟨a0,A'⟩ : ∃ b,decide (Zu u.hi v.lo ≤ 0) = b := ⟨_,rfl⟩
      obtain ⟨b0,B'⟩ : ∃ b,decide (Zu v.hi u.lo ≤ 0) = b := ⟨_,rfl⟩
      obtain ⟨p0,P'⟩ : ∃ b,u.point = b := ⟨_,rfl⟩
      obtain ⟨q0,Q'⟩ : ∃ b,v.point = b := ⟨_,rfl⟩
      obtain ⟨x0,X'⟩ : ∃ b,decide (Zu u.hi v.lo = 0) = b := ⟨_,rfl⟩
      obtain ⟨y0,Y'⟩ : ∃ b,decide (Zu v.hi u.lo = 0) = b := ⟨_,rfl⟩
      rw [A',P',Q',X'] at bA
      rw [B',P',Q',Y'] at bB
      have r1 : Kv u v = true → (u,v,-1) = r := fun h => by rw [if_pos h] at j4; injection j4
      have r2 : ¬ Kv u v = true → Kv v u = true → (u,v,1) = r := fun h h' => by rw [if_neg h,if_pos h'] at j4; injection j4
      clear j4
      cases a0
      · cases b0
        · exact go tt [.c [] c1,.g 19 false A',.f rfl,.c [] c2,.g 45 false B',.f rfl] rfl trivial (rc () ⟨by rw [bA]; simp,by rw [bB]; simp⟩ rfl)
        · cases p0
          · obtain rfl := r2 (by rw [bA]; simp) (by rw [bB]; rfl)
            exact en tt [.c [] c1,.g 19 false A',.f rfl,.c [] c2,.g 45 true B',.c [] pu,.g 48 false P',.g 52 false rfl,.t rfl] rfl rfl trivial
          · cases q0
            · obtain rfl := r2 (by rw [bA]; simp) (by rw [bB]; rfl)
              exact en tt [.c [] c1,.g 19 false A',.f rfl,.c [] c2,.g 45 true B',.c [] pu,.g 48 true P',.c [] pv,.g 52 false Q',.t rfl] rfl rfl trivial
            · cases y0
              · obtain rfl := r2 (by rw [bA]; simp) (by rw [bB]; rfl)
                exact en tt [.c [] c1,.g 19 false A',.f rfl,.c [] c2,.g 45 true B',.c [] pu,.g 48 true P',.c [] pv,.g 52 true Q',.c [] c2,.t (by simpa using Y')] rfl rfl trivial
              · exact go tt [.c [] c1,.g 19 false A',.f rfl,.c [] c2,.g 45 true B',.c [] pu,.g 48 true P',.c [] pv,.g 52 true Q',.c [] c2,.f (by simpa using Y')] rfl trivial (rc () ⟨by rw [bA]; simp,by rw [bB]; simp⟩ rfl)
      · cases p0
        · obtain rfl := r1 (by rw [bA]; rfl)
          exact en tt [.c [] c1,.g 19 true A',.c [] pu,.g 22 false P',.g 26 false rfl,.t rfl] rfl rfl trivial
        · cases q0
          · obtain rfl := r1 (by rw [bA]; rfl)
            exact en tt [.c [] c1,.g 19 true A',.c [] pu,.g 22 true P',.c [] pv,.g 26 false Q',.t rfl] rfl rfl trivial
          · cases x0
            · obtain rfl := r1 (by rw [bA]; rfl)
              exact en tt [.c [] c1,.g 19 true A',.c [] pu,.g 22 true P',.c [] pv,.g 26 true Q',.c [] c1,.t (by simpa using X')] rfl rfl trivial
            · cases b0
              · exact go tt [.c [] c1,.g 19 true A',.c [] pu,.g 22 true P',.c [] pv,.g 26 true Q',.c [] c1,.f (by simpa using X'),.c [] c2,.g 45 false B',.f rfl] rfl trivial (rc () ⟨by rw [bA]; simp,by rw [bB]; simp⟩ rfl)
              · cases y0
                · obtain rfl := r2 (by rw [bA]; simp) (by rw [bB]; rfl)
                  exact en tt [.c [] c1,.g 19 true A',.c [] pu,.g 22 true P',.c [] pv,.g 26 true Q',.c [] c1,.f (by simpa using X'),.c [] c2,.g 45 true B',.c [] pu,.g 48 true P',.c [] pv,.g 52 true Q',.c [] c2,.t (by simpa using Y')] rfl rfl trivial
                · exact go tt [.c [] c1,.g 19 true A',.c [] pu,.g 22 true P',.c [] pv,.g 26 true Q',.c [] c1,.f (by simpa using X'),.c [] c2,.g 45 true B',.c [] pu,.g 48 true P',.c [] pv,.g 52 true Q',.c [] c2,.f (by simpa using Y')] rfl trivial (rc () ⟨by rw [bA]; simp,by rw [bB]; simp⟩ rfl)
    · rintro _ ⟨n1,n2⟩
      rw [if_neg n1,if_neg n2] at j4
      have qr : ∀ {x y : Rat},Qb x → Qb y → Qs 2147483647 (Oa x y) := fun h1 h2 => Q0j h1 h2
      have cc := Uw (qr j2.hi j2.lo) (qr j3.hi j3.lo)
      by_cases D : 0 ≤ Zu (Oa u.hi u.lo) (Oa v.hi v.lo)
      · rw [if_pos D] at j4
        obtain ⟨x,x1,x2⟩ := Option.bind_eq_some_iff.1 j4
        refine go tt [.c [] (Qck j2.hi j2.lo),.c [] (Qck j3.hi j3.lo),.c [] cc,.t (by simpa using D),.c [] (Qid j2 x1)] rfl (by simp [Qa]; omega) ?_
        exact rd (i + 1,x,v) (by dsimp only; omega) ⟨hi,Qd9 j2 x1,j3,by dsimp only; rw [hk']; exact x2⟩ rfl
      · rw [if_neg D] at j4
        obtain ⟨x,x1,x2⟩ := Option.bind_eq_some_iff.1 j4
        refine go tt [.c [] (Qck j2.hi j2.lo),.c [] (Qck j3.hi j3.lo),.c [] cc,.f (by simpa using D),.c [] (Qid j3 x1)] rfl (by simp [Qa]; omega) ?_
        exact rd (i + 1,u,x) (by dsimp only; omega) ⟨hi,j2,Qd9 j3 x1,by dsimp only; rw [hk']; exact x2⟩ rfl
  · obtain rfl : i = n := by omega
    rw [Nat.sub_self] at j4
    simp only [On] at j4
    injection j4 with j4; subst j4
    exact en tt [.f (by simp)] rfl rfl trivial
end Orr

namespace Orr
open Go Go.Proofs
set_option maxRecDepth 10000
theorem Qyq {a b : Rat} (ha : Qb a) (hb : Qb b) : Qc Tryz.prog 82 [.agg (rl a),.one (.row [rl b])] [.agg (rl (if 0 < Zu b a then b else a))] := by
  have ca := M4 (Qe a.num) (Qe (a.den : Int)) ha.s32.1 ha.s32.2
  have cb := M4 (Qe b.num) (Qe (b.den : Int)) hb.s32.1 hb.s32.2
  rw [H1] at ca cb
  have cc := Uw hb.s31 ha.s31
  refine Z6 Tryz.func82 rfl ?_
  refine go tt [.c [] ca] rfl trivial ?_
  refine lp (S := Nat) 3 (fun L1 i => (12,.v (.one (.int .i64 (i : Int)))) :: L1) (fun i => [.blk 41 (rl a),.blk 41 [.bool false,.nils,.bool false,.nils],.blk 41 (rl (if i = 0 then a else if 0 < Zu b a then b else a))]) (fun i => 1 - i) (fun i => i ≤ 1) 0 (Nat.zero_le _) rfl (fun _ _ => rfl) rfl fun i hi => ?_
  rcases (show i = 0 ∨ i = 1 by omega) with rfl | rfl
  · by_cases h : 0 < Zu b a
    · refine go tt [.t rfl,.x (i := 0) (xs := rl b) rfl,.c [] cc,.t (by simpa using h),.c [] cb] rfl (by simp [Qa]) ?_
      exact rd 1 (by omega) (by omega) (by rw [if_pos h]; rfl)
    · refine go tt [.t rfl,.x (i := 0) (xs := rl b) rfl,.c [] cc,.f (by simpa using h)] rfl (by simp [Qa]) ?_
      exact rd 1 (by omega) (by omega) (by rw [if_neg h]; rfl)
  · exact en tt [.f rfl] rfl rfl trivial
theorem Qb9 {a b : Tm} {c : Int} (ha : Tb a) (hb : Tb b) (h : Oq a b = some c) : Qc Tryz.prog 125 [.agg (ta a),.agg (ta b)] [.one (.int .i64 c)] := by
  have ca := Ec ha
  have cb := Ec hb
  have pa := Wy ha
  have pb := Wy hb
  unfold Oq at h
  by_cases h1 : a.point = true
  · rw [if_pos h1] at h
    injection h with h; subst h
    have := Qyy b a.lo
    exact w tt Tryz.func125 rfl [.c [] ca,.c [] cb,.c [] pa,.t h1,.c [] (Ad hb ha.lo)] rfl rfl (by simp [Qa]; omega)
  rw [if_neg h1] at h
  have h1 : a.point = false := by simpa using h1
  by_cases h2 : b.point = true
  · rw [if_pos h2] at h
    injection h with h; subst h
    exact w tt Tryz.func125 rfl [.c [] ca,.c [] cb,.c [] pa,.f h1,.c [] pb,.t h2,.c [] (Ad ha hb.lo)] rfl rfl trivial
  rw [if_neg h2] at h
  have h2 : b.point = false := by simpa using h2
  obtain ⟨lo,hlo⟩ : ∃ lo,lo = if 0 < Zu b.lo a.lo then b.lo else a.lo := ⟨_,rfl⟩
  obtain ⟨hi,hhi⟩ : ∃ hi,hi = if Zu b.hi a.hi < 0 then b.hi else a.hi := ⟨_,rfl⟩
  have h : (if Zu lo hi < 0 then (Qdq a.p b.p).bind fun g => if 1 < g.length ∧ Nf g lo hi = true then some 0 else (On (J9 a b) a b).bind fun r => some r.2.2 else (On (J9 a b) a b).bind fun r => some r.2.2) = some c := by rw [hlo,hhi]; exact h
  have qlo : Qb lo := by rw [hlo]; split; exact hb.lo; exact ha.lo
  have qhi : Qb hi := by rw [hhi]; split; exact hb.hi; exact ha.hi
  have cm := Qyq ha.lo hb.lo
  rw [← hlo] at cm
  have cc1 := Uw hb.hi.s31 ha.hi.s31
  have cc2 := Uw qlo.s31 qhi.s31
  refine Z6 Tryz.func125 rfl ?_
  refine go tt [.c [] ca,.c [] cb,.c [] pa,.f h1,.c [] pb,.f h2,.c [] cm] rfl trivial ?_
  refine ct 2 (S := Unit) (fun _ => [(6,.v (.one (.ow 3 0))),(5,.v (.one (.ow 2 0))),(4,.v (.one (.int .i64 0))),(3,.v (.one (.ow 1 0))),(2,.v (.one (.ow 0 0)))]) (fun _ => [.blk 67 (ta a),.blk 67 (ta b),.blk 41 (rl lo),.blk 41 (rl hi)]) (fun _ => True) rfl ?_ ?_
  · by_cases D : Zu b.hi a.hi < 0
    · rw [if_pos D] at hhi; subst hhi
      exact go tt [.c [] cc1,.t (by simpa using D)] rfl trivial (rc () trivial rfl)
    · rw [if_neg D] at hhi; subst hhi
      exact go tt [.c [] cc1,.f (by simpa using D)] rfl trivial (rc () trivial rfl)
  · rintro _ _
    by_cases D : Zu lo hi < 0
    · rw [if_pos D] at h
      obtain ⟨g,g1,h⟩ := Option.bind_eq_some_iff.1 h
      have cg := Qq6 ha.p hb.p g1
      have pg := Quu ha.p hb.p g1
      have ch := Qrs pg qlo qhi
      by_cases G : 1 < g.length
      · by_cases R : Nf g lo hi = true
        · rw [if_pos ⟨G,R⟩] at h
          injection h with h; subst h
          exact en tt [.c [] cc2,.t (by simpa using D),.c [] cg,.c [] (Y3 g),.g 58 true (by simp; omega),.c [] ch,.t R] rfl rfl trivial
        · rw [if_neg fun h => R h.2] at h
          obtain ⟨r,r1,h⟩ := Option.bind_eq_some_iff.1 h
          injection h with h; subst h
          exact en tt [.c [] cc2,.t (by simpa using D),.c [] cg,.c [] (Y3 g),.g 58 true (by simp; omega),.c [] ch,.f (by simpa using R),.c [] (Qcd ha hb r1)] rfl rfl trivial
      · rw [if_neg fun h => G h.1] at h
        obtain ⟨r,r1,h⟩ := Option.bind_eq_some_iff.1 h
        injection h with h; subst h
        exact en tt [.c [] cc2,.t (by simpa using D),.c [] cg,.c [] (Y3 g),.g 58 false (by simp; omega),.f rfl,.c [] (Qcd ha hb r1)] rfl rfl trivial
    · rw [if_neg D] at h
      obtain ⟨r,r1,h⟩ := Option.bind_eq_some_iff.1 h
      injection h with h; subst h
      exact en tt [.c [] cc2,.f (by simpa using D),.c [] (Qcd ha hb r1)] rfl rfl trivial
theorem Qxv {p : List Int} {a : Tm} {s : Int} (hp : Pb p) (ha : Tb a) (h : Qbw p a = some s) : Qc Tryz.prog 181 [pr p,.agg (ta a)] [.one (.int .i64 s)] := by
  have ca := Ec ha
  have pa := Wy ha
  have cn := Z7 hp.t hp.ln hp.bd
  unfold Qbw at h
  by_cases h0 : p.length = 0
  · rw [if_pos h0] at h
    injection h with h; subst h
    exact w tt Tryz.func181 rfl [.c [] cn,.c [] ca,.t (by simp; exact List.eq_nil_of_length_eq_zero h0)] rfl rfl trivial
  rw [if_neg h0] at h
  have h0 : p ≠ [] := fun e => h0 (by rw [e]; rfl)
  by_cases h1 : a.point = true
  · rw [if_pos h1] at h
    injection h with h; subst h
    exact w tt Tryz.func181 rfl [.c [] cn,.c [] ca,.f (by simpa using h0),.c [] pa,.t h1,.c [] (Lq hp ha.lo)] rfl rfl trivial
  rw [if_neg h1] at h
  have h1 : a.point = false := by simpa using h1
  obtain ⟨g,g1,h⟩ := Option.bind_eq_some_iff.1 h
  have cg := Qq6 hp ha.p g1
  have pg := Quu hp ha.p g1
  have ch := Qrs pg ha.lo ha.hi
  by_cases G : 1 < g.length ∧ Nf g a.lo a.hi = true
  · rw [if_pos G] at h
    injection h with h; subst h
    exact w tt Tryz.func181 rfl [.c [] cn,.c [] ca,.f (by simpa using h0),.c [] pa,.f h1,.c [] cg,.c [] (Y3 g),.g 29 true (by simp; omega),.c [] ch,.t G.2] rfl rfl trivial
  rw [if_neg G] at h
  obtain ⟨c,c1,h⟩ := Option.bind_eq_some_iff.1 h
  obtain ⟨u,u1,h⟩ := Option.bind_eq_some_iff.1 h
  injection h with h; subst h
  obtain ⟨cl,call⟩ := chain_ok hp c1
  obtain ⟨n,hn⟩ : ∃ n,n = 64 + 2 * (Qm a.lo.num + Qm a.hi.num) + 4 * (a.p.length + p.length) * (Zm a.p + Zm p + (a.p.length + p.length) + 8) := ⟨_,rfl⟩
  have cst := Qsc ha hp
  rw [show Qkd p a = n from hn.symm] at cst
  rw [← hn] at u1
  have hnb : n ≤ 17179938816 + 200000000 := by
    have l1 := ha.p.l
    have l2 := hp.l
    have b1 := ha.lo.1
    have b2 := ha.hi.1
    have s1 : Zm a.p ≤ 16777216 := by have := Ym ha.p.b a.p.length; rwa [List.take_length] at this
    have s2 : Zm p ≤ 16777216 := by have := Ym hp.b p.length; rwa [List.take_length] at this
    have : 4 * (a.p.length + p.length) * (Zm a.p + Zm p + (a.p.length + p.length) + 8) ≤ 512 * 33554568 := Nat.mul_le_mul (by omega) (by omega)
    omega
  refine Z6 Tryz.func181 rfl ?_
  refine go tt [.c [] cn,.c [] ca,.f (by simpa using h0),.c [] pa,.f h1,.c [] cg] rfl trivial ?_
  refine ct 2 (S := Unit) (fun _ => [(3,.v (.one (.ow 0 0))),(0,.v (pr p))]) (fun _ => [.blk 67 (ta a)]) (fun _ => True) rfl ?_ ?_
  · by_cases G1 : 1 < g.length
    · exact go tt [.c [] (Y3 g),.g 29 true (by simp; omega),.c [] ch,.f (by simpa using fun h => G ⟨G1,h⟩)] rfl trivial (rc () trivial rfl)
    · exact go tt [.c [] (Y3 g),.g 29 false (by simp; omega),.f rfl] rfl trivial (rc () trivial rfl)
  rintro _ _
  refine go tt [.c [] (Qre hp c1),.c [] cst] rfl trivial ?_
  refine lp (S := Nat × Tm) 1 (fun L1 s => (46,.v (.one (.int .i64 (s.1 : Int)))) :: L1) (fun s => [.blk 67 (ta s.2)]) (fun s => n - s.1) (fun s => s.1 ≤ n ∧ Tb s.2 ∧ sgF c (n - s.1) s.2 = some u) (0,a) ⟨Nat.zero_le _,ha,u1⟩ rfl (fun _ _ => rfl) rfl fun ⟨i,x⟩ ⟨j1,j2,j3⟩ => ?_
  dsimp only at j1 j2 j3 ⊢
  by_cases hi : i < n
  · obtain ⟨k,hk⟩ : ∃ k,n - i = k + 1 := ⟨n - i - 1,by omega⟩
    have hk' : n - (i + 1) = k := by omega
    rw [hk] at j3
    simp only [sgF] at j3
    have px := Wy j2
    have cb := Qaa (by omega) call j2.lo j2.hi
    have hlt : decide ((i : Int) < (n : Int)) = true := by simp; omega
    by_cases X : x.point = true
    · rw [if_pos (.inl X)] at j3
      injection j3 with j3; subst j3
      exact en tt [.t hlt,.c [] px,.g 50 true X,.t rfl,.c [] (Lq hp j2.hi)] rfl rfl trivial
    · have X' : x.point = false := by simpa using X
      by_cases Z : X3 c x.lo x.hi = 0
      · rw [if_pos (.inr Z)] at j3
        injection j3 with j3; subst j3
        exact en tt [.t hlt,.c [] px,.g 50 false X',.c [] cb,.t (by simpa using Z),.c [] (Lq hp j2.hi)] rfl rfl trivial
      · rw [if_neg (by rintro (h | h); exact X h; exact Z h)] at j3
        obtain ⟨v,v1,v2⟩ := Option.bind_eq_some_iff.1 j3
        refine go tt [.t hlt,.c [] px,.g 50 false X',.c [] cb,.f (by simpa using Z),.c [] (Qid j2 v1)] rfl (by simp [Qa]; omega) ?_
        exact rd (i + 1,v) (by dsimp only; omega) ⟨hi,Qd9 j2 v1,by dsimp only; rw [hk']; exact v2⟩ rfl
  · obtain rfl : i = n := by omega
    rw [Nat.sub_self] at j3
    simp only [sgF] at j3
    injection j3 with j3; subst j3
    exact en tt [.f (by simp),.c [] (Lq hp j2.hi)] rfl rfl trivial
abbrev tas (l : List Tm) : LV := .row (l.map fun t => ta t)
theorem E5 {l : List Tm} {i : Nat} {t : Tm} (h : l[i]? = some t) : (l.map fun t => ta t)[i]? = some (ta t) := Z9 h
def zTr : List LV := [.row [],.bool false,.row [],.bool false,.row [],.bool false,.row [],.bool false,.row []]
theorem Qqy : Qc Tryz.prog 136 [.one (.row [])] [.agg zTr,.one (.bool false)] := w tt Tryz.func136 rfl [.t rfl] rfl rfl trivial
theorem Rm {b : Tm} {l : List Tm} {m : Tm} (hb : Tb b) (hl : ∀ t ∈ l,Tb t) (hn : l.length ≤ 1000000) (h : Ti b l = some m) : Qc Tryz.prog 136 [.one (tas (b :: l))] [.agg (ta m),.one (.bool true)] := by
  refine Z6 Tryz.func136 rfl ?_
  refine go tt [.f (by simp; omega),.x (i := 0) (xs := ta b) rfl,.i 1] rfl (by simp [Qa]; exact ⟨rfl,fun _ _ => rfl⟩) ?_
  refine lp (S := Nat × Tm) 2 (fun L1 s => (17,.v (.one (.int .i64 (s.1 : Int)))) :: L1) (fun s => [.blk 67 zTm,.blk 67 (ta s.2)]) (fun s => l.length - s.1) (fun s => s.1 ≤ l.length ∧ Tb s.2 ∧ Ti s.2 (l.drop s.1) = some m) (0,b) ⟨Nat.zero_le _,hb,h⟩ rfl (fun _ _ => rfl) rfl fun ⟨i,x⟩ ⟨j1,j2,j3⟩ => ?_
  dsimp only at j1 j2 j3 ⊢
  by_cases hi : i < l.length
  · obtain ⟨a,ha⟩ : ∃ a,l[i]? = some a := ⟨_,List.getElem?_eq_getElem hi⟩
    have hdr : l.drop i = a :: l.drop (i + 1) := by
      rw [List.drop_eq_getElem_cons hi]; congr 1
      have := List.getElem?_eq_getElem hi; rw [ha] at this; injection this with this; exact this.symm
    rw [hdr] at j3
    simp only [Ti] at j3
    obtain ⟨c,c1,j3⟩ := Option.bind_eq_some_iff.1 j3
    have ta' := hl a (List.mem_of_getElem? ha)
    by_cases hc : c < 0
    · rw [if_pos hc] at j3
      refine go tt [.t (by simp; omega),.x (E5 ha),.c [] (Qb9 ta' j2 c1),.t (by simpa using hc)] rfl (by simp [Qa]; omega) ?_
      exact rd (i + 1,a) (by dsimp only; omega) ⟨hi,ta',j3⟩ rfl
    · rw [if_neg hc] at j3
      refine go tt [.t (by simp; omega),.x (E5 ha),.c [] (Qb9 ta' j2 c1),.f (by simpa using hc)] rfl (by simp [Qa]; omega) ?_
      exact rd (i + 1,x) (by dsimp only; omega) ⟨hi,j2,j3⟩ rfl
  · obtain rfl : i = l.length := by omega
    rw [List.drop_length] at j3
    simp only [Ti] at j3
    injection j3 with j3; subst j3
    exact en tt [.f (by simp),.c [] (Qsd j2)] rfl rfl trivial
end Orr

namespace Orq
def Ql (x : Rat) : Rat := if x < 0 then -x else x
theorem Z5 (x : Rat) : 0 ≤ Ql x := by unfold Ql; split <;> grind
theorem Yn {x b : Rat} : Ql x ≤ b ↔ -b ≤ x ∧ x ≤ b := by unfold Ql; split <;> constructor <;> grind
theorem Qdw {x b : Rat} : Ql x < b ↔ -b < x ∧ x < b := by unfold Ql; split <;> constructor <;> grind
theorem Ji (x y : Rat) : Ql (x + y) ≤ Ql x + Ql y := by unfold Ql; split <;> split <;> split <;> grind
theorem Qnf (x y : Rat) : Ql (x - y) = Ql (y - x) := by unfold Ql; split <;> split <;> grind
theorem Un (x : Rat) : Ql (-x) = Ql x := by unfold Ql; split <;> split <;> grind
theorem Xf : Ql 0 = 0 := by decide
theorem Wu {x : Rat} (h : x ≠ 0) : 0 < Ql x := by unfold Ql; split <;> grind
theorem Q0h {x : Rat} (h : Ql x = 0) : x = 0 := by unfold Ql at h; split at h <;> grind
theorem Vo {x y : Rat} (h1 : 0 ≤ x) (h2 : 0 ≤ y) : 0 ≤ x * y := Rat.mul_nonneg h1 h2
theorem Fy {x y : Rat} (h1 : 0 < x) (h2 : 0 < y) : 0 < x * y := Rat.mul_pos h1 h2
theorem Kd {a b c d : Rat} (h0 : 0 ≤ a) (h1 : a ≤ b) (h2 : 0 ≤ c) (h3 : c ≤ d) : a * c ≤ b * d := by
  have e1 := Rat.mul_le_mul_of_nonneg_right h1 h2
  have e2 := Rat.mul_le_mul_of_nonneg_left h3 (Rat.le_trans h0 h1)
  exact Rat.le_trans e1 e2
theorem Fp (x y : Rat) : Ql (x * y) = Ql x * Ql y := by
  unfold Ql
  by_cases h1 : x < 0 <;> by_cases h2 : y < 0
  · have := Fy (x := -x) (y := -y) (by grind) (by grind); simp only [h1,h2,if_true]; split <;> grind
  · have := Vo (x := -x) (y := y) (by grind) (by grind); simp only [h1,h2,if_true,if_false]; split <;> grind
  · have := Vo (x := x) (y := -y) (by grind) (by grind); simp only [h1,h2,if_true,if_false]; split <;> grind
  · have := Vo (x := x) (y := y) (by grind) (by grind); simp only [h1,h2,if_false]; split <;> grind
theorem Zp {x y a b : Rat} (h1 : Ql x ≤ a) (h2 : Ql y ≤ b) : Ql (x * y) ≤ a * b := by
  rw [Fp]; exact Kd (Z5 x) h1 (Z5 y) h2
theorem U0 {x y : Rat} (h1 : 0 < x) (h2 : 0 < y) : 0 < x / y := by rw [Rat.div_def]; exact Fy h1 (Rat.inv_pos.2 h2)
theorem Zr {x y : Rat} (h2 : 0 < y) : x / y * y = x := Rat.div_mul_cancel (by grind)
theorem Zs {b d : Rat} (hb : 0 ≤ b) (hd : 0 < d) : ∃ e : Rat,0 < e ∧ e ≤ 1 ∧ e * b < d := by
  have h1 : 0 < d / (b + 1) := U0 hd (by grind)
  have h2 : d / (b + 1) * (b + 1) = d := Zr (by grind)
  rcases Rat.le_total (a := d / (b + 1)) (b := 1) with h | h
  · exact ⟨d / (b + 1), h1, h, by
     have : d / (b + 1) * (b + 1) = d / (b + 1) * b + d / (b + 1) := by grind
     grind⟩
  · refine ⟨1,by decide,by decide,?_⟩
    have : 1 * (b + 1) ≤ d / (b + 1) * (b + 1) := Rat.mul_le_mul_of_nonneg_right h (by grind)
    grind
def ev : List Rat → Rat → Rat
  | [],_ => 0
  | a :: p,t => a + t * ev p t
def dv : List Rat → Rat → Rat
  | [],_ => 0
  | _ :: p,t => ev p t + t * dv p t
def dq : List Rat → Rat → Rat → Rat
  | [],_,_ => 0
  | _ :: p,x,y => ev p x + y * dq p x y
def dd : List Rat → Rat → Rat → Rat
  | [],_,_ => 0
  | _ :: p,x,y => dq p x y + y * dd p x y
theorem Qao (x y : Rat) : ∀ p,ev p x - ev p y = (x - y) * dq p x y
  | [] => by simp only [ev,dq]; grind
  | a :: p => by have := Qao x y p; simp only [ev,dq]; grind
theorem Qcr (y : Rat) : ∀ p,dq p y y = dv p y
  | [] => rfl
  | a :: p => by simp only [dq,dv,Qcr y p]
theorem Q18 (x y : Rat) : ∀ p,dq p x y - dv p y = (x - y) * dd p x y
  | [] => by simp only [dv,dq,dd]; grind
  |
   a :: p => by
   have h1 := Q18 x y p
   have h2 := Qao x y p
   simp only [dv,dq,dd]; grind
theorem Q2b (p : List Rat) (x y : Rat) : ev p x - ev p y = (x - y) * dv p y + (x - y) * (x - y) * dd p x y := by
  have h1 := Qao x y p
  have h2 := Q18 x y p
  grind
def evB (R : Rat) : List Rat → Rat
  | [] => 0
  | a :: p => Ql a + R * evB R p
def Ou (R : Rat) : List Rat → Rat
  | [] => 0
  | _ :: p => evB R p + R * Ou R p
def ddB (R : Rat) : List Rat → Rat
  | [] => 0
  | _ :: p => Ou R p + R * ddB R p
theorem Rz {R : Rat} (hR : 0 ≤ R) : ∀ p,0 ≤ evB R p
  | [] => by simp only [evB]; grind
  | a :: p => by have := Vo hR (Rz hR p); have := Z5 a; simp only [evB]; grind
theorem Y6 {R : Rat} (hR : 0 ≤ R) : ∀ p,0 ≤ Ou R p
  | [] => by simp only [Ou]; grind
  | a :: p => by have := Vo hR (Y6 hR p); have := Rz hR p; simp only [Ou]; grind
theorem Au {R : Rat} (hR : 0 ≤ R) : ∀ p,0 ≤ ddB R p
  | [] => by simp only [ddB]; grind
  | a :: p => by have := Vo hR (Au hR p); have := Y6 hR p; simp only [ddB]; grind
theorem D0 {R x : Rat} (hx : Ql x ≤ R) : ∀ p,Ql (ev p x) ≤ evB R p
  | [] => by simp only [ev,evB,Xf]; grind
  |
   a :: p => by
   have h1 := Ji a (x * ev p x)
   have h2 := Zp hx (D0 hx p)
   simp only [ev,evB]; grind
theorem Qfj {R x y : Rat} (hx : Ql x ≤ R) (hy : Ql y ≤ R) : ∀ p,Ql (dq p x y) ≤ Ou R p
  | [] => by simp only [dq,Ou,Xf]; grind
  |
   a :: p => by
   have h1 := Ji (ev p x) (y * dq p x y)
   have h2 := Zp hy (Qfj hx hy p)
   have h3 := D0 hx p
   simp only [dq,Ou]; grind
theorem Qss {R x y : Rat} (hx : Ql x ≤ R) (hy : Ql y ≤ R) : ∀ p,Ql (dd p x y) ≤ ddB R p
  | [] => by simp only [dd,ddB,Xf]; grind
  |
   a :: p => by
   have h1 := Ji (dq p x y) (y * dd p x y)
   have h2 := Zp hy (Qss hx hy p)
   have h3 := Qfj hx hy p
   simp only [dd,ddB]; grind
theorem Q30 {R x y : Rat} (hx : Ql x ≤ R) (hy : Ql y ≤ R) (p : List Rat) : Ql (ev p x - ev p y) ≤ Ql (x - y) * Ou R p := by
  rw [Qao,Fp]; exact Kd (Z5 _) Rat.le_refl (Z5 _) (Qfj hx hy p)
def Jj : List Rat → List Rat → List Rat
  | [],q => q
  | a :: p,[] => a :: p
  | a :: p,b :: q => (a + b) :: Jj p q
def Wv (c : Rat) (p : List Rat) : List Rat := p.map (c * ·)
def Zh : List Rat → List Rat → List Rat
  | [],_ => []
  | a :: p,q => Jj (Wv a q) (0 :: Zh p q)
def Vs : List Rat → List Rat
  | [] => []
  | _ :: p => Jj p (0 :: Vs p)
theorem Ze (t : Rat) : ∀ p q,ev (Jj p q) t = ev p t + ev q t
  | [],q => by simp only [Jj,ev]; grind
  | a :: p,[] => by simp only [Jj,ev]; grind
  | a :: p,b :: q => by have := Ze t p q; simp only [Jj,ev]; grind
theorem Q5 (c t : Rat) : ∀ p,ev (Wv c p) t = c * ev p t
  | [] => by simp only [Wv,List.map_nil,ev]; grind
  | a :: p => by have := Q5 c t p; simp only [Wv,List.map_cons,ev] at *; grind
theorem Qk (t : Rat) : ∀ p q,ev (Zh p q) t = ev p t * ev q t
  | [],q => by simp only [Zh,ev]; grind
  | a :: p,q => by have := Qk t p q; simp only [Zh,Ze,Q5,ev]; grind
theorem X9 (t : Rat) : ∀ p,ev (Vs p) t = dv p t
  | [] => rfl
  | a :: p => by have := X9 t p; simp only [Vs,Ze,ev,dv]; grind
theorem Qcs (t : Rat) : ∀ p q,dv (Jj p q) t = dv p t + dv q t
  | [],q => by simp only [Jj,dv]; grind
  | a :: p,[] => by simp only [Jj,dv]; grind
  | a :: p,b :: q => by have := Qcs t p q; have := Ze t p q; simp only [Jj,dv]; grind
theorem Cm (c t : Rat) : ∀ p,dv (Wv c p) t = c * dv p t
  | [] => by simp only [Wv,List.map_nil,dv]; grind
  | a :: p => by have := Cm c t p; have := Q5 c t p; simp only [Wv,List.map_cons,dv] at *; grind
theorem Qct (t : Rat) : ∀ p q,dv (Zh p q) t = dv p t * ev q t + ev p t * dv q t
  | [],q => by simp only [Zh,dv,ev]; grind
  | a :: p,q => by have := Qct t p q; have := Qk t p q; simp only [Zh,Qcs,Cm,dv,ev]; grind
theorem Ql3 : ∀ {p : List Rat},(∀ x ∈ p,x = 0) → ∀ t,ev p t = 0
  | [],_,t => rfl
  |
   a :: p,h,t => by
   have h1 := Ql3 (p := p) (fun x hx => h x (List.mem_cons_of_mem _ hx)) t
   have h2 := h a (List.mem_cons_self ..)
   simp only [ev,h1,h2]; grind
theorem Qlz : ∀ {p : List Rat},(∀ x ∈ p,x = 0) → ∀ t,dv p t = 0
  | [],_,t => rfl
  |
   a :: p,h,t => by
   have h0 := fun x hx => h x (List.mem_cons_of_mem _ hx)
   have h1 := Ql3 (p := p) h0 t
   have h2 := Qlz (p := p) h0 t
   simp only [dv,h1,h2]; grind
theorem Ms : ∀ {p : List Rat},(∀ t,0 < t → t < 1 → ev p t = 0) → ∀ x ∈ p,x = 0
  | [],_ => fun x hx => by cases hx
  |
   a :: p,h => by
   have ha : a = 0 := by
     rcases Classical.em (a = 0) with h0 | h0
     · exact h0
     · obtain ⟨e,e1,e2,e3⟩ := Zs (Rz (R := 1) (by decide) p) (Wu h0)
       obtain ⟨f,f1,f2,f3⟩ := Zs (b := 1) (d := e) (by decide) e1
       have h1 := h f f1 (by grind)
       have h2 := D0 (R := 1) (x := f) (by unfold Ql; split <;> grind) p
       have h3 := Fp f (ev p f)
       have h4 : Ql f = f := by unfold Ql; split <;> grind
       have h5 : a = -(f * ev p f) := by simp only [ev] at h1; grind
       have h6 : Ql a = f * Ql (ev p f) := by rw [h5,Un,h3,h4]
       have h7 : f * Ql (ev p f) ≤ e * evB 1 p := Kd (Rat.le_of_lt f1) (by grind) (Z5 _) h2
       grind
   intro x hx
   rcases List.mem_cons.1 hx with rfl | hx
   · exact ha
   · refine Ms (p := p) (fun t h1 h2 => ?_) x hx
     have := h t h1 h2
     simp only [ev,ha] at this
     have h3 : t * ev p t = 0 := by grind
     rcases Rat.mul_eq_zero.1 h3 with h4 | h4
     · grind
     · exact h4
theorem Qs0 {p q : List Rat} (h : ∀ t,ev p t = ev q t) (t : Rat) : dv p t = dv q t := by
  have h1 := Qlz (p := Jj p (Wv (-1) q)) (Ms fun t _ _ => by rw [Ze,Q5,h t]; grind) t
  rw [Qcs,Cm] at h1; grind
end Orq

namespace Orq
def Qq (x : Rat) : Int := if x < 0 then -1 else if 0 < x then 1 else 0
theorem Za {x : Rat} : Qq x = 0 ↔ x = 0 := by
  unfold Qq; constructor
  · intro h; split at h <;> (try split at h) <;> grind
  · intro h; subst h; rfl
theorem Xg {x : Rat} : Qq x = 1 ↔ 0 < x := by
  unfold Qq; constructor
  · intro h; split at h <;> (try split at h) <;> grind
  · intro h; rw [if_neg (by grind),if_pos h]
theorem Jt {x : Rat} : Qq x = -1 ↔ x < 0 := by
  unfold Qq; constructor
  · intro h; split at h <;> (try split at h) <;> grind
  · intro h; rw [if_pos h]
theorem Zq (x : Rat) : Qq x = -1 ∧ x < 0 ∨ Qq x = 0 ∧ x = 0 ∨ Qq x = 1 ∧ 0 < x := by
  rcases Rat.le_total (a := x) (b := 0) with h | h
  · rcases Classical.em (x = 0) with h0 | h0
    · exact .inr (.inl ⟨Za.2 h0,h0⟩)
    · exact .inl ⟨Jt.2 (by grind),by grind⟩
  · rcases Classical.em (x = 0) with h0 | h0
    · exact .inr (.inl ⟨Za.2 h0,h0⟩)
    · exact .inr (.inr ⟨Xg.2 (by grind),by grind⟩)
theorem Jl (x y : Rat) : Qq (x * y) = Qq x * Qq y := by
  rcases Zq x with ⟨e1,h1⟩ | ⟨e1,h1⟩ | ⟨e1,h1⟩ <;> rcases Zq y with ⟨e2,h2⟩ | ⟨e2,h2⟩ | ⟨e2,h2⟩ <;> rw [e1,e2]
  · have := Fy (x := -x) (y := -y) (by grind) (by grind); exact Xg.2 (by grind)
  · subst h2; exact Za.2 (by grind)
  · have := Fy (x := -x) (y := y) (by grind) (by grind); exact Jt.2 (by grind)
  · subst h1; exact Za.2 (by grind)
  · subst h1; exact Za.2 (by grind)
  · subst h1; exact Za.2 (by grind)
  · have := Fy (x := x) (y := -y) (by grind) (by grind); exact Jt.2 (by grind)
  · subst h2; exact Za.2 (by grind)
  · exact Xg.2 (Fy h1 h2)
theorem J5 {a b d : Rat} (h1 : d ≤ Ql a) (h2 : Ql (b - a) < d) : Qq b = Qq a ∧ Qq a ≠ 0 := by
  rw [Qdw] at h2
  rcases Zq a with ⟨e,h⟩ | ⟨e,h⟩ | ⟨e,h⟩
  · rw [e,Jt]; unfold Ql at h1; rw [if_pos h] at h1; exact ⟨by grind,by decide⟩
  · subst h; rw [Xf] at h1; grind
  · rw [e,Xg]; unfold Ql at h1; rw [if_neg (by grind)] at h1; exact ⟨by grind,by decide⟩
def tc (x : Rat) : Int → List (List Rat) → Nat
  | _,[] => 0
  | s,p :: l => if Qq (ev p x) = 0 then tc x s l else (if s = -(Qq (ev p x)) then 1 else 0) + tc x (Qq (ev p x)) l
inductive SCl : List Rat → List Rat → List (List Rat) → Prop
  | base {f g : List Rat} {c : Rat} (hc : c ≠ 0) (hg : ∀ t,ev g t = c) : SCl f g []
  | step {f g h : List Rat} {l : List (List Rat)} {a b : Rat} {q : List Rat} (ha : 0 < a) (hb : 0 < b) (he : ∀ t,a * ev f t = ev q t * ev g t - b * ev h t) (hl : SCl g h l) : SCl f g (h :: l)
theorem Qwv {x : Rat} {s : Int} {g h : List Rat} {l : List (List Rat)} (hh : Qq (ev h x) = -s) (hs : s ≠ 0) : tc x s (g :: h :: l) = 1 + tc x (-s) l := by
  have h3 : Qq (ev h x) ≠ 0 := by omega
  have hv : s = 1 ∨ s = -1 := by rcases Zq (ev h x) with ⟨e,_⟩ | ⟨e,_⟩ | ⟨e,_⟩ <;> omega
  simp only [tc,if_neg h3,hh]
  rcases Zq (ev g x) with ⟨e,_⟩ | ⟨e,_⟩ | ⟨e,_⟩ <;> rw [e] <;> rcases hv with rfl | rfl <;> simp
theorem Bs {x : Rat} {s : Int} {p : List Rat} {l : List (List Rat)} (h : Qq (ev p x) ≠ 0) : tc x s (p :: l) = (if s = -(Qq (ev p x)) then 1 else 0) + tc x (Qq (ev p x)) l := by rw [tc,if_neg h]
theorem Yi {R x y e d : Rat} {p : List Rat} (hx : Ql x ≤ R) (hy : Ql y ≤ R) (hR : 0 ≤ R) (h : Ql (y - x) ≤ e) (hd : e * Ou R p < d) : Ql (ev p y - ev p x) < d := by
  have h1 := Q30 hy hx p
  have h2 := Rat.mul_le_mul_of_nonneg_right h (Y6 hR p)
  grind
theorem Qba {a x y : Rat} (ha : 0 < a) (h : a * x < a * y) : x < y := by
  rcases Rat.le_total (a := y) (b := x) with h' | h'
  · have := Rat.mul_le_mul_of_nonneg_left h' (Rat.le_of_lt ha); grind
  · rcases Classical.em (x = y) with e | e
    · subst e; grind
    · grind
theorem Q46 {a b d d' B f g h q : Rat} (ha : 0 < a) (hb : 0 < b) (dp : 0 < d) (h7 : B * d + a * d < b * d') (hq : Ql q ≤ B) (hg : Ql g < d) (hh : d' ≤ Ql h) (he : a * f = q * g - b * h) (hd' : 0 < d') : Qq h = -Qq f ∧ d ≤ Ql f := by
  have h4 := Zp hq (Rat.le_of_lt hg)
  rw [Yn] at h4
  have had := Fy ha dp
  have h8 := Rat.mul_le_mul_of_nonneg_left hh (Rat.le_of_lt hb)
  rcases Zq h with ⟨s,p⟩ | ⟨s,p⟩ | ⟨s,p⟩
  · have : Ql h = -h := by unfold Ql; rw [if_pos p]
    rw [this] at h8
    have h10 : d < f := Qba ha (by grind)
    rw [s,Xg.2 (show 0 < f by grind)]
    exact ⟨rfl,by unfold Ql; split <;> grind⟩
  · rw [p,Xf] at hh; grind
  · have : Ql h = h := by unfold Ql; rw [if_neg (by grind)]
    rw [this] at h8
    have h10 : f < -d := Qba ha (by grind)
    rw [s,Jt.2 (show f < 0 by grind)]
    exact ⟨rfl,by unfold Ql; split <;> grind⟩
theorem min2 {a b : Rat} (ha : 0 < a) (hb : 0 < b) : ∃ e : Rat,0 < e ∧ e ≤ a ∧ e ≤ b := by
  rcases Rat.le_total (a := a) (b := b) with h | h
  · exact ⟨a,ha,Rat.le_refl,h⟩
  · exact ⟨b,hb,h,Rat.le_refl⟩
theorem Qy (a b : Rat) : a ≤ b ∨ b < a := by
  rcases Rat.le_total (a := a) (b := b) with h | h
  · exact .inl h
  · rcases Classical.em (a = b) with e | e
    · exact .inl (by grind)
    · exact .inr (by grind)
theorem Q4i {R : Rat} (hR : 0 ≤ R) {f g : List Rat} {l : List (List Rat)} (hc : SCl f g l) : ∃ d e : Rat, 0 < d ∧ 0 < e ∧ ∀ x y, Ql x ≤ R → Ql y ≤ R → Ql (y - x) ≤ e →
    (d ≤ Ql (ev f x) ∨ d ≤ Ql (ev g x)) ∧ (d ≤ Ql (ev f x) → Qq (ev f y) = Qq (ev f x) ∧ Qq (ev f x) ≠ 0) ∧ (d ≤ Ql (ev g x) → Qq (ev g y) = Qq (ev g x) ∧ Qq (ev g x) ≠ 0) ∧
    (Qq (ev f y) = Qq (ev f x) → Qq (ev f x) ≠ 0 → tc x (Qq (ev f x)) (g :: l) = tc y (Qq (ev f x)) (g :: l)) ∧
    (Qq (ev g y) = Qq (ev g x) → Qq (ev g x) ≠ 0 → tc x (Qq (ev g x)) l = tc y (Qq (ev g x)) l) := by
  induction hc with
  |
   @base f g c hc hg =>
   have hd := Wu hc
   obtain ⟨e,e1,e2,e3⟩ := Zs (Y6 hR f) hd
   refine ⟨Ql c,e,hd,e1,fun x y hx hy hxy => ⟨.inr (by rw [hg]; exact Rat.le_refl),fun h => J5 h (Yi hx hy hR hxy e3),fun h => ?_,fun _ _ => ?_,fun _ _ => rfl⟩⟩
   · rw [hg,hg]; exact ⟨rfl,fun h => hc (Za.1 h)⟩
   · simp only [tc,hg]
  |
   @step f g h l a b q ha hb he hl ih =>
   obtain ⟨d',e',hd',he',ih⟩ := ih
   obtain ⟨d1,d1p,_,d1b⟩ := Zs (b := evB R q + a) (d := b * d') (by have := Rz hR q; grind) (Fy hb hd')
   obtain ⟨d,dp,hd1,hdd⟩ := min2 d1p hd'
   obtain ⟨ef,ef1,_,ef3⟩ := Zs (Y6 hR f) dp
   obtain ⟨eg,eg1,_,eg3⟩ := Zs (Y6 hR g) dp
   obtain ⟨e0,e0p,h1,h2⟩ := min2 ef1 eg1
   obtain ⟨e,ep,h0,h3⟩ := min2 e0p he'
   have h1 := Rat.le_trans h0 h1
   have h2 := Rat.le_trans h0 h2
   refine ⟨d,e,dp,ep,fun x y hx hy hxy => ?_⟩
   obtain ⟨i1,i2,i3,i4,i5⟩ := ih x y hx hy (Rat.le_trans hxy h3)
   have hsm : Ql (ev g x) < d → d' ≤ Ql (ev h x) ∧ Qq (ev h x) = -Qq (ev f x) ∧ d ≤ Ql (ev f x) := fun hg => by
     have hh : d' ≤ Ql (ev h x) := by
       rcases i1 with i | i
       · exact absurd (Rat.le_trans hdd i) (Rat.not_le.2 hg)
       · exact i
     have h6 : d * (evB R q + a) ≤ d1 * (evB R q + a) := Rat.mul_le_mul_of_nonneg_right hd1 (by have := Rz hR q; clear ih i1 i2 i3 i4 i5 he; grind)
     have h7 : evB R q * d + a * d < b * d' := by clear ih i1 i2 i3 i4 i5 he; grind
     exact ⟨hh,Q46 ha hb dp h7 (D0 hx q) hg hh (he x) hd'⟩
   have hfs : d ≤ Ql (ev f x) → Qq (ev f y) = Qq (ev f x) ∧ Qq (ev f x) ≠ 0 := fun h => J5 h (Yi hx hy hR (Rat.le_trans hxy h1) ef3)
   have hgs : d ≤ Ql (ev g x) → Qq (ev g y) = Qq (ev g x) ∧ Qq (ev g x) ≠ 0 := fun h => J5 h (Yi hx hy hR (Rat.le_trans hxy h2) eg3)
   refine ⟨?_,hfs,hgs,fun s1 s2 => ?_,i4⟩
   · rcases Qy d (Ql (ev g x)) with h | h
     · exact .inr h
     · exact .inl (hsm h).2.2
   · rcases Qy d (Ql (ev g x)) with h | h
     · obtain ⟨g1,g2⟩ := hgs h
       rw [Bs (x := x) (p := g) g2,Bs (x := y) (p := g) (by rw [g1]; exact g2),g1,i4 g1 g2]
     · obtain ⟨h4,h5,_⟩ := hsm h
       obtain ⟨h6,h7⟩ := i3 h4
       have i5 := i5 h6 h7
       rw [Qwv h5 s2,Qwv (h6.trans h5) s2,← h5,i5]
end Orq

namespace Orq
def Jx (p : List Rat) (x : Rat) : Int := if Qq (ev p x) ≠ 0 then Qq (ev p x) else Qq (dv p x)
def vv (L : List (List Rat)) (x : Rat) : Nat := tc x 0 L
def Lo (f : List Rat) (L : List (List Rat)) : Prop := (∃ c : Rat,c ≠ 0 ∧ (∀ t,ev f t = c) ∧ L = [f]) ∨ ∃ g l,∃ k : Rat,0 < k ∧ (∀ t,ev g t = k * dv f t) ∧ SCl f g l ∧ L = f :: g :: l
structure Sm (w : List Rat) (x y : Rat) : Prop where
  s : Qq (ev w y) = Jx w x
  l : Jx w y = Jx w x
  n : Jx w x ≠ 0
theorem U6 {p : List Rat} {x : Rat} (h : Qq (ev p x) ≠ 0) : Jx p x = Qq (ev p x) := by unfold Jx; rw [if_pos h]
theorem Qi8 {p : List Rat} {x : Rat} (h : Qq (ev p x) = 0) : Jx p x = Qq (dv p x) := by unfold Jx; rw [if_neg (by simpa using h)]
theorem Qg5 {p : List Rat} {x y : Rat} (h : Qq (ev p y) = Qq (ev p x)) (h0 : Qq (ev p x) ≠ 0) : Sm p x y := by
  have h1 := U6 h0
  have h2 := U6 (p := p) (x := y) (by rw [h]; exact h0)
  exact ⟨by rw [h,h1],by rw [h2,h1,h],by rw [h1]; exact h0⟩
theorem Hs {f w u : List Rat} (h : ∀ t,ev f t = ev w t * ev u t) (x : Rat) : dv f x = dv w x * ev u x + ev w x * dv u x := by
  rw [← Qct]; exact Qs0 (fun t => by rw [h,Qk]) x
theorem Qml {f w u : List Rat} {x : Rat} (h : ∀ t,ev f t = ev w t * ev u t) (hu : Qq (ev u x) ≠ 0) : Jx f x = Jx w x * Qq (ev u x) := by
  by_cases hw : Qq (ev w x) = 0
  · have hw0 := Za.1 hw
    have e1 : ev f x = 0 := by rw [h,hw0]; grind
    have e2 : dv f x = dv w x * ev u x := by rw [Hs h,hw0]; grind
    rw [Qi8 hw,Qi8 (Za.2 e1),e2,Jl]
  · have e1 : Qq (ev f x) = Qq (ev w x) * Qq (ev u x) := by rw [h,Jl]
    rw [U6 hw,U6 (by rw [e1]; exact Int.mul_ne_zero hw hu),e1]
theorem Q47 {f w u : List Rat} {x y : Rat} (h : ∀ t,ev f t = ev w t * ev u t) (hu : Qq (ev u y) = Qq (ev u x)) (h0 : Qq (ev u x) ≠ 0) (hf : Sm f x y) : Sm w x y := by
  have e1 := Qml h h0
  have e2 := Qml (x := y) h (by rw [hu]; exact h0)
  have e3 : Qq (ev f y) = Qq (ev w y) * Qq (ev u y) := by rw [h,Jl]
  obtain ⟨s,l,n⟩ := hf
  rw [hu] at e2 e3
  refine ⟨?_,?_,fun h => n (by rw [e1,h,Int.zero_mul])⟩
  · rw [e3,e1] at s; exact Int.eq_of_mul_eq_mul_right h0 s
  · rw [e2,e1] at l; exact Int.eq_of_mul_eq_mul_right h0 l
theorem tc0 {x : Rat} {s : Int} {f g : List Rat} {l : List (List Rat)} (h : Qq (ev g x) = s) (hs : s ≠ 0) : tc x 0 (f :: g :: l) = (if Qq (ev f x) = -s then 1 else 0) + tc x s l := by
  have hv : s = 1 ∨ s = -1 := by rcases Zq (ev g x) with ⟨e,_⟩ | ⟨e,_⟩ | ⟨e,_⟩ <;> omega
  have hg : Qq (ev g x) ≠ 0 := by omega
  rw [tc]
  rcases Zq (ev f x) with ⟨e,_⟩ | ⟨e,_⟩ | ⟨e,_⟩ <;> rw [e] <;> rcases hv with rfl | rfl <;> simp [Bs hg,h]
theorem Iu {R x y e d : Rat} {p : List Rat} (hx : Ql x ≤ R) (hy : Ql y ≤ R) (hR : 0 ≤ R) (hxy : x < y) (h : y - x ≤ e) (hd : d ≤ Ql (dv p x)) (he : e * ddB R p < d) : Qq (ev p y - ev p x) = Qq (dv p x) := by
  have h1 := Q2b p y x
  have h2 : ev p y - ev p x = (y - x) * (dv p x + (y - x) * dd p y x) := by rw [h1]; grind
  have h3 := Zp (x := y - x) (y := dd p y x) (a := e) (b := ddB R p) (by rw [Yn]; constructor <;> grind) (Qss hy hx p)
  have h4 := J5 (b := dv p x + (y - x) * dd p y x) hd (by
    have : dv p x + (y - x) * dd p y x - dv p x = (y - x) * dd p y x := by grind
    rw [this]; exact Rat.not_le.1 fun h => absurd (Rat.le_trans h h3) (Rat.not_le.2 he))
  rw [h2,Jl,Xg.2 (show 0 < y - x by grind),h4.1,Int.one_mul]
def Qqc (f w : List Rat) (L : List (List Rat)) (x y : Rat) : Prop :=
  (vv L x = vv L y ∧ Sm f x y ∧ Sm w x y) ∨ (vv L x = vv L y + 1 ∧ Jx f x ≠ 0 ∧ Jx f y = -Jx f x ∧ Qq (ev f x) = Jx f x ∧ (Qq (ev f y) = 0 ∨ Qq (ev f y) = -Jx f x))
theorem Qtv {R d : Rat} (hR : 0 ≤ R) (hd : 0 < d) {f w u : List Rat} (h : ∀ t,ev f t = ev w t * ev u t) : ∃ e : Rat,0 < e ∧ ∀ x y,Ql x ≤ R → Ql y ≤ R → Ql (y - x) ≤ e → d ≤ Ql (ev f x) → Sm f x y ∧ Sm w x y := by
  obtain ⟨ef,ef1,_,ef3⟩ := Zs (Y6 hR f) hd
  obtain ⟨d1,d1p,_,d1b⟩ := Zs (Rz hR u) hd
  obtain ⟨ew,ew1,_,ew3⟩ := Zs (Y6 hR w) d1p
  obtain ⟨e,ep,e1,e2⟩ := min2 ef1 ew1
  refine ⟨e,ep,fun x y hx hy hxy hf => ⟨?_,?_⟩⟩
  · have := J5 hf (Yi hx hy hR (Rat.le_trans hxy e1) ef3)
    exact Qg5 this.1 this.2
  · have hw : d1 ≤ Ql (ev w x) := by
      rcases Qy d1 (Ql (ev w x)) with h' | h'
      · exact h'
      · have h5 := Zp (Rat.le_of_lt h') (D0 hx u)
        rw [← h] at h5
        exact absurd (Rat.le_trans hf h5) (Rat.not_le.2 d1b)
    have := J5 hw (Yi hx hy hR (Rat.le_trans hxy e2) ew3)
    exact Qg5 this.1 this.2
theorem loc {R : Rat} (hR : 0 ≤ R) {f w u : List Rat} {L : List (List Rat)} (hc : Lo f L) (h : ∀ t,ev f t = ev w t * ev u t) : ∃ e : Rat,0 < e ∧ ∀ x y,Ql x ≤ R → Ql y ≤ R → x < y → y - x ≤ e → Qqc f w L x y := by
  rcases hc with ⟨c,hc,hf,rfl⟩ | ⟨g,l,k,hk,hg,hc,rfl⟩
  · obtain ⟨e,ep,h1⟩ := Qtv hR (Wu hc) h
    refine ⟨e,ep,fun x y hx hy hxy he => .inl ⟨?_,h1 x y hx hy (by rw [Yn]; constructor <;> grind) (by rw [hf]; exact Rat.le_refl)⟩⟩
    simp only [vv,tc,hf]
  · obtain ⟨d,e1,dp,e1p,h1⟩ := Q4i hR hc
    obtain ⟨e2,e2p,h2⟩ := Qtv hR dp h
    -- where f is small,its derivative is Qtv
    obtain ⟨d3,d3p,_,d3b⟩ := Zs (b := k) (d := d) (Rat.le_of_lt hk) dp
    obtain ⟨e3,e3p,_,e3b⟩ := Zs (Au hR f) d3p
    obtain ⟨d4,d4p,_,d4b⟩ := Zs (b := Ou R w + Ou R u) (d := d3) (by have := Y6 hR w; have := Y6 hR u; grind) d3p
    obtain ⟨e4,e4p,_,e4b⟩ := Zs (Y6 hR w) d4p
    obtain ⟨e5,e5p,_,e5b⟩ := Zs (Y6 hR u) d4p
    obtain ⟨a1,a1p,a11,a12⟩ := min2 e1p e2p
    obtain ⟨a2,a2p,a21,a22⟩ := min2 e3p e4p
    obtain ⟨a3,a3p,a31,a32⟩ := min2 a1p a2p
    obtain ⟨e,ep,b1,b2⟩ := min2 a3p e5p
    refine ⟨e,ep,fun x y hx hy hxy he => ?_⟩
    have hab : Ql (y - x) ≤ e := by rw [Yn]; clear h1 h2; constructor <;> grind
    have hab1 : Ql (y - x) ≤ e1 := by clear h1 h2; grind
    have hab2 : Ql (y - x) ≤ e2 := by clear h1 h2; grind
    obtain ⟨i1,i2,i3,i4,i5⟩ := h1 x y hx hy hab1
    rcases Qy d (Ql (ev f x)) with hf | hf
    · obtain ⟨s1,s2⟩ := h2 x y hx hy hab2 hf
      obtain ⟨j1,j2⟩ := i2 hf
      refine .inl ⟨?_,s1,s2⟩
      have := i4 j1 j2
      simp only [vv]
      rw [Bs (x := x) (p := f) j2,Bs (x := y) (p := f) (by rw [j1]; exact j2),j1,this]
    · have hg1 : d ≤ Ql (ev g x) := by
        rcases i1 with i | i
        · exact absurd i (Rat.not_le.2 hf)
        · exact i
      obtain ⟨g1,g2⟩ := i3 hg1
      have i5 := i5 g1 g2
      have hD : d3 ≤ Ql (dv f x) := by
        rcases Qy d3 (Ql (dv f x)) with h' | h'
        · exact h'
        · have h5 := Zp (x := k) (a := k) (by unfold Ql; split <;> clear h1 h2 <;> grind) (Rat.le_of_lt h')
          rw [← hg] at h5
          have : k * d3 = d3 * k := by grind
          exact absurd (Rat.le_trans hg1 h5) (Rat.not_le.2 (by rw [this]; exact d3b))
      have hm := Iu hx hy hR hxy (by clear h1 h2; grind : y - x ≤ e3) hD e3b
      have s1 : Qq (ev g x) = Qq (dv f x) := by rw [hg,Jl,Xg.2 hk,Int.one_mul]
      have s2 : Qq (ev g y) = Qq (dv f y) := by rw [hg,Jl,Xg.2 hk,Int.one_mul]
      obtain ⟨s,hs⟩ : ∃ s,s = Qq (ev g x) := ⟨_,rfl⟩
      rw [← hs] at g1 g2 i5 s1
      rw [g1] at s2
      have v1 := tc0 (f := f) (l := l) hs.symm g2
      have v2 := tc0 (f := f) (l := l) g1 g2
      rw [← i5] at v2
      rw [← s1] at hm
      have hw : Sm f x y → Sm w x y := fun hf => by
        rcases Qy d4 (Ql (ev u x)) with hu | hu
        · have hu := J5 hu (Yi hx hy hR (Rat.le_trans hab b2) e5b)
          exact Q47 h hu.1 hu.2 hf
        · have hw : d4 ≤ Ql (ev w x) := by
            rcases Qy d4 (Ql (ev w x)) with h' | h'
            · exact h'
            · have q1 := Zp (x := dv w x) (y := ev u x) (a := Ou R w) (by rw [← Qcr]; exact Qfj hx hx w) (Rat.le_of_lt hu)
              have q2 := Zp (x := ev w x) (y := dv u x) (b := Ou R u) (Rat.le_of_lt h') (by rw [← Qcr]; exact Qfj hx hx u)
              have q3 := Ji (dv w x * ev u x) (ev w x * dv u x)
              rw [← Hs h] at q3
              have : d4 * (Ou R w + Ou R u) = Ou R w * d4 + d4 * Ou R u := by grind
              rw [this] at d4b
              exact absurd (Rat.le_trans hD (Rat.le_trans q3 (by clear h1 h2; grind : _ ≤ Ou R w * d4 + d4 * Ou R u))) (Rat.not_le.2 d4b)
          have hw := J5 hw (Yi hx hy hR (Rat.le_trans hab (by clear h1 h2; grind)) e4b)
          exact Qg5 hw.1 hw.2
      have lx : Jx f x = if Qq (ev f x) ≠ 0 then Qq (ev f x) else s := by rw [s1]; rfl
      have ly : Jx f y = if Qq (ev f y) ≠ 0 then Qq (ev f y) else s := by rw [s2]; rfl
      clear h1 h2 i1 i2 i3 i4
      have hsv : s = 1 ∨ s = -1 := by rcases Zq (ev g x) with ⟨e,_⟩ | ⟨e,_⟩ | ⟨e,_⟩ <;> omega
      unfold Qqc
      simp only [vv,v1,v2]
      rcases hsv with rfl | rfl
      · have hm := Xg.1 hm
        rcases Zq (ev f x) with ⟨p1,p2⟩ | ⟨p1,p2⟩ | ⟨p1,p2⟩
        · rcases Zq (ev f y) with ⟨q1,q2⟩ | ⟨q1,q2⟩ | ⟨q1,q2⟩
          · rw [p1,q1]; have hsm := Qg5 (p := f) (x := x) (y := y) (by rw [p1,q1]) (by rw [p1]; decide)
            exact .inl ⟨rfl,hsm,hw hsm⟩
          · rw [lx,ly,p1,q1]; refine .inr ⟨by simp; omega,by decide,by decide,by decide,by decide⟩
          · rw [lx,ly,p1,q1]; refine .inr ⟨by simp; omega,by decide,by decide,by decide,by decide⟩
        · have q1 := Xg.2 (show 0 < ev f y by grind)
          have hsm : Sm f x y := ⟨by rw [lx,q1,p1]; rfl,by rw [lx,ly,q1,p1]; rfl,by rw [lx,p1]; decide⟩
          rw [p1,q1]; exact .inl ⟨rfl,hsm,hw hsm⟩
        · have q1 := Xg.2 (show 0 < ev f y by grind)
          have hsm : Sm f x y := ⟨by rw [lx,q1,p1]; rfl,by rw [lx,ly,q1,p1],by rw [lx,p1]; decide⟩
          rw [p1,q1]; exact .inl ⟨rfl,hsm,hw hsm⟩
      · have hm := Jt.1 hm
        rcases Zq (ev f x) with ⟨p1,p2⟩ | ⟨p1,p2⟩ | ⟨p1,p2⟩
        · have q1 := Jt.2 (show ev f y < 0 by grind)
          have hsm : Sm f x y := ⟨by rw [lx,q1,p1]; rfl,by rw [lx,ly,q1,p1],by rw [lx,p1]; decide⟩
          rw [p1,q1]; exact .inl ⟨rfl,hsm,hw hsm⟩
        · have q1 := Jt.2 (show ev f y < 0 by grind)
          have hsm : Sm f x y := ⟨by rw [lx,q1,p1]; rfl,by rw [lx,ly,q1,p1]; rfl,by rw [lx,p1]; decide⟩
          rw [p1,q1]; exact .inl ⟨rfl,hsm,hw hsm⟩
        · rcases Zq (ev f y) with ⟨q1,q2⟩ | ⟨q1,q2⟩ | ⟨q1,q2⟩
          · rw [lx,ly,p1,q1]; refine .inr ⟨by simp; omega,by decide,by decide,by decide,by decide⟩
          · rw [lx,ly,p1,q1]; refine .inr ⟨by simp; omega,by decide,by decide,by decide,by decide⟩
          · rw [p1,q1]; have hsm := Qg5 (p := f) (x := x) (y := y) (by rw [p1,q1]) (by rw [p1]; decide)
            exact .inl ⟨rfl,hsm,hw hsm⟩
end Orq

namespace Orq
theorem Q9d (z : Rat) : ∃ n : Nat,z ≤ (n : Rat) := by
  refine ⟨z.ceil.toNat,?_⟩
  have h1 : z ≤ (z.ceil : Rat) := Rat.le_ceil
  have h2 : (z.ceil : Rat) ≤ ((z.ceil.toNat : Int) : Rat) := Rat.intCast_le_intCast.2 (Int.self_le_toNat _)
  exact Rat.le_trans h1 h2
theorem Rl {z e : Rat} (he : 0 < e) : ∃ n : Nat,z ≤ (n : Rat) * e := by
  obtain ⟨n,hn⟩ := Q9d (z / e)
  exact ⟨n,by have := Rat.mul_le_mul_of_nonneg_right hn (Rat.le_of_lt he); rwa [Zr he] at this⟩
theorem Ni {R x y t : Rat} (hx : Ql x ≤ R) (hy : Ql y ≤ R) (h1 : x ≤ t) (h2 : t ≤ y) : Ql t ≤ R := by
  rw [Yn] at *; constructor <;> grind
def Qn0 (f w : List Rat) (L : List (List Rat)) (x y : Rat) : Prop :=
  vv L y ≤ vv L x ∧ (vv L x = vv L y → Sm f x y ∧ Sm w x y) ∧ (vv L x = vv L y + 1 → Jx f x ≠ 0 ∧ Jx f y = -Jx f x)
theorem Qmk {f w : List Rat} {L : List (List Rat)} {x y : Rat} (h : Qqc f w L x y) : Qn0 f w L x y := by
  rcases h with ⟨h1,h2,h3⟩ | ⟨h1,h2,h3,_⟩
  · exact ⟨by omega,fun _ => ⟨h2,h3⟩,fun h => by omega⟩
  · exact ⟨by omega,fun h => by omega,fun _ => ⟨h2,h3⟩⟩
theorem Qg6 {w : List Rat} {x y z : Rat} (h1 : Sm w x y) (h2 : Sm w y z) : Sm w x z := ⟨by rw [h2.s,h1.l],by rw [h2.l,h1.l],h1.n⟩
theorem Qi6 {f w : List Rat} {L : List (List Rat)} {x y z : Rat} (h : Qn0 f w L x y) (h' : Qn0 f w L y z) : Qn0 f w L x z := by
  obtain ⟨a1,a2,a3⟩ := h
  obtain ⟨b1,b2,b3⟩ := h'
  refine ⟨by omega,fun h => ?_,fun h => ?_⟩
  · obtain ⟨s1,s2⟩ := a2 (by omega)
    obtain ⟨s3,s4⟩ := b2 (by omega)
    exact ⟨Qg6 s1 s3,Qg6 s2 s4⟩
  · by_cases e : vv L x = vv L y
    · obtain ⟨s1,_⟩ := a2 e
      obtain ⟨s3,s4⟩ := b3 (by omega)
      exact ⟨s1.n,by rw [s4,s1.l]⟩
    · obtain ⟨s3,s4⟩ := a3 (by omega)
      obtain ⟨s1,_⟩ := b2 (by omega)
      exact ⟨s3,by rw [s1.l,s4]⟩
theorem Q38 {R : Rat} (hR : 0 ≤ R) {f w u : List Rat} {L : List (List Rat)} (hc : Lo f L) (h : ∀ t,ev f t = ev w t * ev u t) {x y : Rat} (hx : Ql x ≤ R) (hy : Ql y ≤ R) (hxy : x < y) : Qn0 f w L x y := by
  obtain ⟨e,ep,hl⟩ := loc hR hc h
  have key : ∀ n : Nat,∀ x,Ql x ≤ R → x < y → y - x ≤ (n : Rat) * e → Qn0 f w L x y := by
    intro n
    induction n with
    | zero =>
     intro x hx hxy h; exfalso; have : ((0 : Nat) : Rat) * e = 0 := by simp
     grind
    |
     succ n ih =>
     intro x hx hxy hn
     rcases Qy (y - x) e with h1 | h1
     · exact Qmk (hl x y hx hy hxy h1)
     · have hm : Ql (x + e) ≤ R := Ni hx hy (by clear hl ih; grind) (by clear hl ih; grind)
       have hn' : (((n + 1 : Nat) : Rat)) = (n : Rat) + 1 := by push_cast; rfl
       refine Qi6 (Qmk (hl x (x + e) hx hm (by clear hl ih; grind) (by clear hl ih; grind))) (ih (x + e) hm (by clear hl ih; grind) ?_)
       rw [hn'] at hn
       clear hl ih; grind
  obtain ⟨n,hn⟩ := Rl (z := y - x) ep
  exact key n x hx hxy hn
theorem Qb7 (x y : Rat) : ∃ R : Rat,0 ≤ R ∧ Ql x ≤ R ∧ Ql y ≤ R := by
  refine ⟨Ql x + Ql y,?_,?_,?_⟩ <;> (have := Z5 x; have := Z5 y; grind)
theorem Xx (t : Rat) : ev [1] t = 1 := by simp only [ev]; grind
theorem Fe {f : List Rat} {L : List (List Rat)} (hc : Lo f L) {x y : Rat} (hxy : x < y) : vv L y ≤ vv L x := by
  obtain ⟨R,hR,hx,hy⟩ := Qb7 x y
  exact (Q38 hR hc (w := f) (u := [1]) (fun t => by rw [Xx]; grind) hx hy hxy).1
theorem Pz {f w u : List Rat} {L : List (List Rat)} (hc : Lo f L) (h : ∀ t,ev f t = ev w t * ev u t) {x y : Rat} (hxy : x < y) (he : vv L x = vv L y) : Sm w x y := by
  obtain ⟨R,hR,hx,hy⟩ := Qb7 x y
  exact ((Q38 hR hc h hx hy hxy).2.1 he).2
theorem Qek {f : List Rat} {L : List (List Rat)} (hc : Lo f L) {x y : Rat} (hxy : x < y) (he : vv L x = vv L y) : Sm f x y :=
  Pz hc (w := f) (u := [1]) (fun t => by rw [Xx]; grind) hxy he
theorem Qej {f : List Rat} {L : List (List Rat)} (hc : Lo f L) {x y : Rat} (hxy : x < y) (he : vv L x = vv L y + 1) : Jx f x ≠ 0 ∧ Jx f y = -Jx f x := by
  obtain ⟨R,hR,hx,hy⟩ := Qb7 x y
  exact (Q38 hR hc (w := f) (u := [1]) (fun t => by rw [Xx]; grind) hx hy hxy).2.2 he
theorem Qw1 {f : List Rat} {L : List (List Rat)} (hc : Lo f L) (R : Rat) (hR : 0 ≤ R) : ∃ e : Rat,0 < e ∧ ∀ x y,Ql x ≤ R → Ql y ≤ R → x < y → y - x ≤ e → vv L x ≤ vv L y + 1 := by
  obtain ⟨e,ep,hl⟩ := loc hR hc (w := f) (u := [1]) (fun t => by rw [Xx]; grind)
  refine ⟨e,ep,fun x y hx hy hxy he => ?_⟩
  rcases hl x y hx hy hxy he with ⟨h,_⟩ | ⟨h,_⟩ <;> omega
theorem Pi {p : List Rat} {x : Rat} (h : Qq (ev p x) ≠ 0) : ∃ e : Rat,0 < e ∧ ∀ y,Ql (y - x) ≤ e → Qq (ev p y) = Qq (ev p x) := by
  have hd := Wu (x := ev p x) fun h0 => h (Za.2 h0)
  have hR : 0 ≤ Ql x + 1 := by have := Z5 x; grind
  obtain ⟨e,e1,e2,e3⟩ := Zs (Y6 hR p) hd
  refine ⟨e,e1,fun y hy => (J5 Rat.le_refl (Yi (x := x) (by grind) ?_ hR hy e3)).1⟩
  have := Ji (y - x) x
  have e : y - x + x = y := by grind
  rw [e] at this; grind
theorem Q2n {R M : Rat} {p : List Rat} (hM : M = ddB R p) (hR : 0 ≤ R) {h : Rat} (hh : 0 < h) : ∀ (n : Nat) (x : Rat),Ql x ≤ R → Ql (x + (n : Rat) * h) ≤ R → (∀ t,x ≤ t → t ≤ x + (n : Rat) * h → 0 ≤ dv p t) → ev p x - (n : Rat) * (h * h * M) ≤ ev p (x + (n : Rat) * h)
  |
   0,x,_,_,_ => by
   have e1 : x + ((0 : Nat) : Rat) * h = x := by rw [show ((0 : Nat) : Rat) = 0 from rfl]; grind
   have e2 : ((0 : Nat) : Rat) * (h * h * M) = 0 := by simp
   rw [e1,e2]; grind
  |
   n + 1,x,hx,hy,hd => by
   have hn' : (((n + 1 : Nat) : Rat)) = (n : Rat) + 1 := by push_cast; rfl
   rw [hn'] at hy hd ⊢
   have hn0 : (0 : Rat) ≤ (n : Rat) := Rat.natCast_nonneg
   have hnh := Vo hn0 (Rat.le_of_lt hh)
   have e1 : x + ((n : Rat) + 1) * h = (x + h) + (n : Rat) * h := by grind
   rw [e1] at hy hd ⊢
   have hxh : Ql (x + h) ≤ R := Ni hx hy (by clear hd; grind) (by clear hd; grind)
   have ih := Q2n hM hR hh n (x + h) hxh hy fun t h1 h2 => hd t (by clear hd; grind) h2
   have h0 := hd x Rat.le_refl (by clear hd; grind)
   have h1 := Q2b p (x + h) x
   have h2 := Qss hxh hx p
   rw [← hM,Yn] at h2
   have h3 := Rat.mul_le_mul_of_nonneg_left h2.1 (Vo (Rat.le_of_lt hh) (Rat.le_of_lt hh))
   have h4 := Vo (Rat.le_of_lt hh) h0
   have e2 : x + h - x = h := by grind
   rw [e2] at h1
   clear hd hx hy hxh
   grind
theorem Q7c {p : List Rat} {x y : Rat} (hxy : x < y) (hd : ∀ t,x ≤ t → t ≤ y → 0 ≤ dv p t) : ev p x ≤ ev p y := by
  obtain ⟨R,hR,hx,hy⟩ := Qb7 x y
  rcases Qy (ev p x) (ev p y) with h | h
  · exact h
  · exfalso
    obtain ⟨M,hM⟩ : ∃ M,M = ddB R p := ⟨_,rfl⟩
    have hM0 := Au hR p
    rw [← hM] at hM0
    obtain ⟨e,ep,_,he⟩ := Zs (b := (y - x) * M) (d := ev p x - ev p y) (Vo (by grind) hM0) (by grind)
    obtain ⟨n,hn⟩ := Rl (z := y - x) ep
    have hn0 : 0 < (n : Rat) := by
      rcases Qy (n : Rat) 0 with h' | h'
      · have := Rat.mul_le_mul_of_nonneg_right h' (Rat.le_of_lt ep); clear hd; grind
      · exact h'
    have hh : 0 < (y - x) / n := U0 (by grind) hn0
    have e1 : (n : Rat) * ((y - x) / n) = y - x := by rw [Rat.mul_comm]; exact Zr hn0
    have e2 : x + (n : Rat) * ((y - x) / n) = y := by rw [e1]; grind
    have h1 := Q2n hM hR hh n x hx (by rw [e2]; exact hy) (by rw [e2]; exact hd)
    rw [e2] at h1
    have h2 : (y - x) / n ≤ e := by
      rcases Qy ((y - x) / n) e with h' | h'
      · exact h'
      · have := Rat.mul_lt_mul_of_pos_left h' hn0; clear hd; grind
    have h3 : (n : Rat) * ((y - x) / n * ((y - x) / n) * M) = ((y - x) / n) * ((y - x) * M) := by
      have : (n : Rat) * ((y - x) / n * ((y - x) / n) * M) = ((n : Rat) * ((y - x) / n)) * (((y - x) / n) * M) := by grind
      rw [this,e1]; grind
    have h4 := Rat.mul_le_mul_of_nonneg_right h2 (Vo (x := y - x) (y := M) (by grind) hM0)
    rw [h3] at h1
    clear hd; grind
theorem Q0o {p : List Rat} {x y : Rat} (hxy : x < y) (hd : ∀ t,x ≤ t → t ≤ y → 0 < dv p t) : ev p x < ev p y := by
  have hx := hd x Rat.le_refl (by grind)
  have hR : 0 ≤ Ql x + 1 := by have := Z5 x; grind
  obtain ⟨e,e1,e2,e3⟩ := Zs (Au hR p) hx
  obtain ⟨f,f1,f2,f3⟩ := min2 (a := e) (b := y - x) e1 (by grind)
  have hq : Ql (x + f) ≤ Ql x + 1 := by
   have := Ji x f; have : Ql f = f := by unfold Ql; split <;> grind
   clear hd; grind
  have h1 := Iu (p := p) (x := x) (y := x + f) (R := Ql x + 1) (e := e) (d := dv p x) (by clear hd; grind) hq hR (by grind) (by grind) (by unfold Ql; split <;> clear hd <;> grind) e3
  rw [Xg.2 hx,Xg] at h1
  rcases Classical.em (x + f = y) with e | e
  · rw [← e]; clear hd; grind
  · have := Q7c (p := p) (x := x + f) (y := y) (by clear hd; grind) fun t h1 h2 => Rat.le_of_lt (hd t (by clear hd; grind) h2)
    clear hd; grind
end Orq

namespace Orq
structure Cut (c : Rat → Int) : Prop where
  val : ∀ q,c q = 1 ∨ c q = 0 ∨ c q = -1
  mono : ∀ q r,q < r → c q ≠ 1 → c r = -1
  up : ∀ q,c q = 1 → ∃ r,q < r ∧ c r = 1
  dn : ∀ q,c q = -1 → ∃ r,r < q ∧ c r = -1
  lo : ∃ q,c q = 1
  hi : ∃ q,c q = -1
theorem Cut.mono' {c : Rat → Int} (h : Cut c) {q r : Rat} (hqr : q < r) (hr : c r ≠ -1) : c q = 1 := by
  rcases Classical.em (c q = 1) with e | e
  · exact e
  · exact absurd (h.mono q r hqr e) hr
theorem Cut.lt {c : Rat → Int} (h : Cut c) {q r : Rat} (hq : c q = 1) (hr : c r = -1) : q < r := by
  rcases Qy r q with e | e
  · rcases Classical.em (r = q) with e' | e'
    · rw [e'] at hr; omega
    · have := h.mono r q (by grind) (by omega); omega
  · exact e
theorem Cut.near {c : Rat → Int} (h : Cut c) {e : Rat} (he : 0 < e) : ∃ x y,c x = 1 ∧ c y = -1 ∧ y - x ≤ e := by
  obtain ⟨a,ha⟩ := h.lo
  obtain ⟨b,hb⟩ := h.hi
  have he2 : 0 < e / 2 := U0 he (by decide)
  have h2 : e / 2 * 2 = e := Zr (by decide)
  have key : ∀ (n : Nat) (a : Rat),c a = 1 → b - a ≤ (n : Rat) * (e / 2) → ∃ x y,c x = 1 ∧ c y = -1 ∧ y - x ≤ e := by
    intro n
    induction n with
    |
     zero =>
     intro a ha hn
     have := h.lt ha hb
     rw [show ((0 : Nat) : Rat) = 0 from rfl] at hn
     exfalso; grind
    |
     succ n ih =>
     intro a ha hn
     have hn' : (((n + 1 : Nat) : Rat)) = (n : Rat) + 1 := by push_cast; rfl
     rw [hn'] at hn
     rcases h.val (a + e / 2) with h1 | h1 | h1
     · exact ih _ h1 (by grind)
     · exact ⟨a,a + e,ha,h.mono (a + e / 2) _ (by grind) (by omega),by grind⟩
     · exact ⟨a,a + e / 2,ha,h1,by grind⟩
  obtain ⟨n,hn⟩ := Rl (z := b - a) he2
  exact key n a ha hn
def Ge (p : List Rat) (c : Rat → Int) : Prop := ∀ d : Rat,0 < d → ∃ x y,c x = 1 ∧ c y = -1 ∧ ∀ q,x ≤ q → q ≤ y → Ql (ev p q) < d
def NZ (p : List Rat) (c : Rat → Int) (s : Int) : Prop := ∃ d : Rat,0 < d ∧ ∃ x y,c x = 1 ∧ c y = -1 ∧ ∀ q,x ≤ q → q ≤ y → Qq (ev p q) = s ∧ d ≤ Ql (ev p q)
def Nr (c : Rat → Int) (P : Rat → Prop) : Prop := ∃ x y,c x = 1 ∧ c y = -1 ∧ ∀ q,x ≤ q → q ≤ y → P q
theorem Qja {c : Rat → Int} {P Q : Rat → Prop} (h1 : Nr c P) (h2 : Nr c Q) : Nr c fun q => P q ∧ Q q := by
  obtain ⟨x,y,a1,a2,a3⟩ := h1
  obtain ⟨x',y',b1,b2,b3⟩ := h2
  refine ⟨if x ≤ x' then x' else x,if y ≤ y' then y else y',by split <;> assumption,by split <;> assumption,fun q q1 q2 => ⟨a3 q ?_ ?_,b3 q ?_ ?_⟩⟩ <;> clear a3 b3 <;> grind
theorem En {c : Rat → Int} {P Q : Rat → Prop} (h1 : Nr c P) (h : ∀ q,P q → Q q) : Nr c Q := by
  obtain ⟨x,y,a1,a2,a3⟩ := h1
  exact ⟨x,y,a1,a2,fun q q1 q2 => h q (a3 q q1 q2)⟩
theorem Qmx {c : Rat → Int} (hc : Cut c) {P : Rat → Prop} (h1 : Nr c P) : ∃ q,P q ∧ c q = 1 := by
  obtain ⟨x,y,a1,a2,a3⟩ := h1
  exact ⟨x,a3 x Rat.le_refl (Rat.le_of_lt (hc.lt a1 a2)),a1⟩
theorem Quo {c : Rat → Int} (hc : Cut c) {e : Rat} (he : 0 < e) {P : Rat → Prop} (h1 : Nr c P) : ∃ x y,c x = 1 ∧ c y = -1 ∧ y - x ≤ e ∧ x < y ∧ ∀ q,x ≤ q → q ≤ y → P q := by
  obtain ⟨x,y,a1,a2,a3⟩ := h1
  obtain ⟨x',y',b1,b2,b3⟩ := hc.near he
  refine ⟨if x ≤ x' then x' else x,if y ≤ y' then y else y',by split <;> assumption,by split <;> assumption,by clear a3; grind,hc.lt (by split <;> assumption) (by split <;> assumption),fun q q1 q2 => a3 q ?_ ?_⟩ <;> clear a3 <;> grind
theorem Q2l {c : Rat → Int} (hc : Cut c) : ∃ R : Rat,0 ≤ R ∧ Nr c fun q => Ql q ≤ R := by
  obtain ⟨x,y,a1,a2,_⟩ := hc.near (e := 1) (by decide)
  obtain ⟨R,hR,h1,h2⟩ := Qb7 x y
  exact ⟨R,hR,x,y,a1,a2,fun q q1 q2 => Ni h1 h2 q1 q2⟩
theorem Si {c : Rat → Int} (hc : Cut c) (p : List Rat) : Ge p c ∨ ∃ s,s ≠ 0 ∧ NZ p c s := by
  rcases Classical.em (Ge p c) with h | h
  · exact .inl h
  · refine .inr ?_
    obtain ⟨d,hd0⟩ := Classical.not_forall.1 h
    obtain ⟨dp,hd⟩ := Classical.not_imp.1 hd0
    have hd : ∀ x y,c x = 1 → c y = -1 → ∃ q,x ≤ q ∧ q ≤ y ∧ d ≤ Ql (ev p q) := fun x y hx hy => by
      rcases Classical.em (∃ q,x ≤ q ∧ q ≤ y ∧ d ≤ Ql (ev p q)) with h' | h'
      · exact h'
      · refine absurd ⟨x,y,hx,hy,fun q h1 h2 => ?_⟩ hd
        rcases Qy d (Ql (ev p q)) with h3 | h3
        · exact absurd ⟨q,h1,h2,h3⟩ h'
        · exact h3
    obtain ⟨R,hR,hn⟩ := Q2l hc
    have hd2 : 0 < d / 2 := U0 dp (by decide)
    have h2 : d / 2 * 2 = d := Zr (by decide)
    obtain ⟨e,e1,_,e3⟩ := Zs (Y6 hR p) hd2
    obtain ⟨x,y,hx,hy,hxy,_,hq⟩ := Quo hc e1 hn
    obtain ⟨r,r1,r2,r3⟩ := hd x y hx hy
    have key : ∀ q,x ≤ q → q ≤ y → Ql (ev p q - ev p r) < d / 2 := fun q q1 q2 =>
      Yi (hq r r1 r2) (hq q q1 q2) hR (by rw [Yn]; clear hq hd; constructor <;> grind) e3
    refine ⟨Qq (ev p r),fun h0 => ?_,d / 2,hd2,x,y,hx,hy,fun q q1 q2 => ⟨(J5 (d := d) r3 ?_).1,?_⟩⟩
    · rw [Za.1 h0,Xf] at r3; clear hq hd key; grind
    · have := key q q1 q2; clear hq hd key; grind
    · have h3 := key q q1 q2
      have h4 := Ji (ev p r - ev p q) (ev p q)
      rw [show ev p r - ev p q + ev p q = ev p r from by clear hq hd key; grind,Qnf] at h4
      clear hq hd key; grind
theorem Q5m {c : Rat → Int} (hc : Cut c) {p : List Rat} {s : Int} (h1 : Ge p c) (h2 : NZ p c s) : False := by
  obtain ⟨d,dp,h2⟩ := h2
  obtain ⟨q,⟨a,b⟩,_⟩ := Qmx hc (Qja (h1 d dp) h2)
  exact absurd b.2 (Rat.not_le.2 a)
theorem Yb {c : Rat → Int} (hc : Cut c) {f p q : List Rat} (hf : ∀ t,ev f t = ev p t * ev q t) (h : Ge p c) : Ge f c := by
  intro d dp
  obtain ⟨R,hR,hn⟩ := Q2l hc
  obtain ⟨e,e1,_,e3⟩ := Zs (Rz hR q) dp
  refine En (Qja hn (h e e1)) fun t ⟨h1,h2⟩ => ?_
  rw [hf]
  have := Zp (Rat.le_of_lt h2) (D0 h1 q)
  exact Rat.not_le.1 fun h => absurd (Rat.le_trans h this) (Rat.not_le.2 e3)
theorem E6 {c : Rat → Int} {f p q : List Rat} (hf : ∀ t,ev f t = ev p t + ev q t) (h : Ge p c) (h' : Ge q c) : Ge f c := by
  intro d dp
  have hd2 : 0 < d / 2 := U0 dp (by decide)
  have h2 : d / 2 * 2 = d := Zr (by decide)
  refine En (Qja (h _ hd2) (h' _ hd2)) fun t ⟨h1,h2⟩ => ?_
  rw [hf]
  have := Ji (ev p t) (ev q t)
  grind
def RS (p : List Rat) (c : Rat → Int) (s : Int) : Prop := ∃ y,c y = -1 ∧ ∀ q,c q = -1 → q ≤ y → Qq (ev p q) = s
def LS (p : List Rat) (c : Rat → Int) (s : Int) : Prop := ∃ x,c x = 1 ∧ ∀ q,c q = 1 → x ≤ q → Qq (ev p q) = s
theorem Qg4 {c : Rat → Int} (hc : Cut c) {p : List Rat} {s : Int} (h : NZ p c s) : RS p c s := by
  obtain ⟨d,dp,x,y,a1,a2,a3⟩ := h
  exact ⟨y,a2,fun q h1 h2 => (a3 q (Rat.le_of_lt (hc.lt a1 h1)) h2).1⟩
theorem Qmm {c : Rat → Int} (hc : Cut c) {p : List Rat} {s : Int} (h : NZ p c s) : LS p c s := by
  obtain ⟨d,dp,x,y,a1,a2,a3⟩ := h
  exact ⟨x,a1,fun q h1 h2 => (a3 q h2 (Rat.le_of_lt (hc.lt h1 a2))).1⟩
theorem Q2q {c : Rat → Int} (hc : Cut c) {p : List Rat} (hv : Ge p c) {y : Rat} (hy : c y = -1) (h : ∀ q,c q = -1 → q ≤ y → 0 < dv p q) (q : Rat) (hq : c q = -1) (hqy : q ≤ y) : 0 < ev p q := by
  rcases Qy (ev p q) 0 with h0 | h0
  · exfalso
    obtain ⟨r,r1,r2⟩ := hc.dn q hq
    have hr : ev p r < ev p q := Q0o r1 fun t t1 t2 => h t (by
      rcases Classical.em (r = t) with e | e
      · rw [← e]; exact r2
      · exact hc.mono r t (by clear h; grind) (by omega)) (Rat.le_trans t2 hqy)
    obtain ⟨a,b,ha,hb,hab⟩ := hv (-ev p r) (by clear h; grind)
    obtain ⟨m,hm1,hm2,hm3⟩ : ∃ m,c m = -1 ∧ m ≤ b ∧ m ≤ r := by
      rcases Qy b r with e | e
      · exact ⟨b,hb,Rat.le_refl,e⟩
      · exact ⟨r,r2,Rat.le_of_lt e,Rat.le_refl⟩
    have h1 := hab m (Rat.le_of_lt (hc.lt ha hm1)) hm2
    have h2 : ev p m ≤ ev p r := by
      rcases Classical.em (m = r) with e | e
      · rw [e]; exact Rat.le_refl
      · exact Rat.le_of_lt (Q0o (by clear h hab; grind) fun t t1 t2 => h t (by
          rcases Classical.em (m = t) with e | e
          · rw [← e]; exact hm1
          · exact hc.mono m t (by clear h hab; grind) (by omega)) (by clear h hab; grind))
    rw [Qdw] at h1
    clear h hab; grind
  · exact h0
theorem Qj2 {c : Rat → Int} (hc : Cut c) {p : List Rat} {s : Int} (hv : Ge p c) (h : RS (Vs p) c s) (hs : s ≠ 0) : RS p c s := by
  obtain ⟨y,hy,h⟩ := h
  have hsv : s = 1 ∨ s = -1 := by
    have := h y hy Rat.le_refl
    rcases Zq (ev (Vs p) y) with ⟨e,_⟩ | ⟨e,_⟩ | ⟨e,_⟩ <;> omega
  rcases hsv with rfl | rfl
  · refine ⟨y,hy,fun q h1 h2 => Xg.2 (Q2q hc hv hy (fun q h1 h2 => ?_) q h1 h2)⟩
    rw [← X9]; exact Xg.1 (h q h1 h2)
  · refine ⟨y,hy,fun q h1 h2 => Jt.2 ?_⟩
    have := Q2q hc (p := Wv (-1) p) (y := y) (fun d dp => En (hv d dp) fun q hq => by rw [Q5,show -1 * ev p q = -ev p q by grind,Un]; exact hq) hy (fun q h1 h2 => by
      rw [Cm,← X9]
      have := Jt.1 (h q h1 h2); grind) q h1 h2
    rw [Q5] at this; grind
end Orq

namespace Orq
theorem Q2j {c : Rat → Int} (hc : Cut c) {p : List Rat} (hv : Ge p c) {x : Rat} (hx : c x = 1) (h : ∀ q,c q = 1 → x ≤ q → 0 < dv p q) (q : Rat) (hq : c q = 1) (hxq : x ≤ q) : ev p q < 0 := by
  rcases Qy 0 (ev p q) with h0 | h0
  · exfalso
    obtain ⟨r,r1,r2⟩ := hc.up q hq
    have hr : ev p q < ev p r := Q0o r1 fun t t1 t2 => h t (by
      rcases Classical.em (t = r) with e | e
      · rw [e]; exact r2
      · exact hc.mono' (q := t) (r := r) (by clear h; grind) (by omega)) (Rat.le_trans hxq t1)
    obtain ⟨a,b,ha,hb,hab⟩ := hv (ev p r) (by clear h; grind)
    obtain ⟨m,hm1,hm2,hm3⟩ : ∃ m,c m = 1 ∧ a ≤ m ∧ r ≤ m := by
      rcases Qy a r with e | e
      · exact ⟨r,r2,e,Rat.le_refl⟩
      · exact ⟨a,ha,Rat.le_refl,Rat.le_of_lt e⟩
    have h1 := hab m hm2 (Rat.le_of_lt (hc.lt hm1 hb))
    have h2 : ev p r ≤ ev p m := by
      rcases Classical.em (r = m) with e | e
      · rw [e]; exact Rat.le_refl
      · exact Rat.le_of_lt (Q0o (by clear h hab; grind) fun t t1 t2 => h t (by
          rcases Classical.em (t = m) with e | e
          · rw [e]; exact hm1
          · exact hc.mono' (q := t) (r := m) (by clear h hab; grind) (by omega)) (by clear h hab; grind))
    rw [Qdw] at h1
    clear h hab; grind
  · exact h0
theorem Qub {c : Rat → Int} (hc : Cut c) {p : List Rat} {s : Int} (hv : Ge p c) (h : LS (Vs p) c s) (hs : s ≠ 0) : LS p c (-s) := by
  obtain ⟨x,hx,h⟩ := h
  have hsv : s = 1 ∨ s = -1 := by
    have := h x hx Rat.le_refl
    rcases Zq (ev (Vs p) x) with ⟨e,_⟩ | ⟨e,_⟩ | ⟨e,_⟩ <;> omega
  rcases hsv with rfl | rfl
  · refine ⟨x,hx,fun q h1 h2 => Jt.2 (Q2j hc hv hx (fun q h1 h2 => ?_) q h1 h2)⟩
    rw [← X9]; exact Xg.1 (h q h1 h2)
  · refine ⟨x,hx,fun q h1 h2 => Xg.2 ?_⟩
    have := Q2j hc (p := Wv (-1) p) (x := x) (fun d dp => En (hv d dp) fun q hq => by rw [Q5,show -1 * ev p q = -ev p q by grind,Un]; exact hq) hx (fun q h1 h2 => by
      rw [Cm,← X9]
      have := Jt.1 (h q h1 h2); grind) q h1 h2
    rw [Q5] at this; grind
theorem Q0x {c : Rat → Int} (hc : Cut c) {f g : List Rat} {l : List (List Rat)} (h : SCl f g l) : Ge f c → Ge g c → False := by
  induction h with
  |
   @base f g k hk hg =>
   intro _ hv
   obtain ⟨q,hq,_⟩ := Qmx hc (hv (Ql k) (Wu hk))
   rw [hg] at hq; grind
  |
   @step f g h l a b q ha hb he hl ih =>
   intro hf hg
   refine ih hg ?_
   have h1 : Ge (Zh q g) c := Yb hc (p := g) (q := q) (fun t => by rw [Qk]; grind) hg
   have h2 : Ge (Wv (-a) f) c := Yb hc (p := f) (q := [-a]) (fun t => by rw [Q5]; simp only [ev]; grind) hf
   have h3 : Ge (Jj (Zh q g) (Wv (-a) f)) c := E6 (fun t => Ze t _ _) h1 h2
   refine Yb hc (p := Jj (Zh q g) (Wv (-a) f)) (q := [1 / b]) (fun t => ?_) h3
   have := he t
   rw [Ze,Qk,Q5]
   simp only [ev]
   have hbb : 1 / b * b = 1 := Zr hb
   have : ev q t * ev g t + -a * ev f t = b * ev h t := by rw [show -a * ev f t = -(a * ev f t) by grind,he t]; grind
   rw [this]
   have : b * ev h t * (1 / b + t * 0) = ev h t * (1 / b * b) := by grind
   rw [this,hbb]; grind
theorem Qb5 {c : Rat → Int} (hc : Cut c) {f g : List Rat} {k : Rat} (h : ∀ t,ev g t = k * ev f t) (hv : Ge f c) : Ge g c :=
  Yb hc (p := f) (q := [k]) (fun t => by rw [h]; simp only [ev]; grind) hv
theorem Q07 {c : Rat → Int} (hc : Cut c) {f : List Rat} {L : List (List Rat)} (h : Lo f L) (hv : Ge f c) : ∃ s,s ≠ 0 ∧ NZ (Vs f) c s := by
  rcases Si hc (Vs f) with h1 | h1
  · exfalso
    rcases h with ⟨k,hk,hf,_⟩ | ⟨g,l,k,hk,hg,h,_⟩
    · obtain ⟨q,hq,_⟩ := Qmx hc (hv (Ql k) (Wu hk))
      rw [hf] at hq; grind
    · exact Q0x hc h hv (Qb5 hc (fun t => by rw [hg,X9]) h1)
  · exact h1
theorem Qlw {c : Rat → Int} (hc : Cut c) {f w u : List Rat} {L : List (List Rat)} (h : Lo f L) (hf : ∀ t,ev f t = ev w t * ev u t) (hv : Ge w c) : ∃ s,s ≠ 0 ∧ NZ (Vs w) c s := by
  rcases Si hc (Vs w) with h1 | h1
  · exfalso
    obtain ⟨s,_,hs⟩ := Q07 hc h (Yb hc hf hv)
    refine Q5m hc ?_ hs
    have a1 : Ge (Zh (Vs w) u) c := Yb hc (fun t => Qk t _ _) h1
    have a2 : Ge (Zh w (Vs u)) c := Yb hc (fun t => Qk t _ _) hv
    refine E6 (fun t => ?_) a1 a2
    rw [X9,Hs hf,Qk,Qk,X9,X9]
  · exact h1
theorem Qsp {c : Rat → Int} (hc : Cut c) {q : Rat} (h : c q = 0) {x y : Rat} (hx : c x = 1) (hy : c y = -1) : x ≤ q ∧ q ≤ y := by
  constructor
  · rcases Qy x q with e | e
    · exact e
    · have := hc.mono q x e (by omega); omega
  · rcases Qy q y with e | e
    · exact e
    · have := hc.mono y q e (by omega); omega
theorem Dt {c : Rat → Int} (hc : Cut c) {p : List Rat} {q : Rat} (h : c q = 0) (hv : Ge p c) : ev p q = 0 := by
  rcases Classical.em (ev p q = 0) with e | e
  · exact e
  · obtain ⟨x,y,hx,hy,hq⟩ := hv _ (Wu e)
    obtain ⟨h1,h2⟩ := Qsp hc h hx hy
    have := hq q h1 h2; grind
theorem Qgg {c : Rat → Int} (hc : Cut c) {p : List Rat} {q : Rat} {s : Int} (h : c q = 0) (hv : NZ p c s) : Qq (ev p q) = s := by
  obtain ⟨d,dp,x,y,hx,hy,hq⟩ := hv
  obtain ⟨h1,h2⟩ := Qsp hc h hx hy
  exact (hq q h1 h2).1
theorem Qil {c : Rat → Int} (hc : Cut c) {y z : Rat} (hy : c y = -1) (hz : c z = -1) : ∃ q,c q = -1 ∧ q < y ∧ q < z := by
  obtain ⟨a,a1,a2⟩ := hc.dn y hy
  obtain ⟨b,b1,b2⟩ := hc.dn z hz
  rcases Qy a b with e | e
  · exact ⟨a,a2,a1,by grind⟩
  · exact ⟨b,b2,by grind,b1⟩
theorem As {c : Rat → Int} (hc : Cut c) {y z : Rat} (hy : c y = 1) (hz : c z = 1) : ∃ q,c q = 1 ∧ y < q ∧ z < q := by
  obtain ⟨a,a1,a2⟩ := hc.up y hy
  obtain ⟨b,b1,b2⟩ := hc.up z hz
  rcases Qy a b with e | e
  · exact ⟨b,b2,by grind,b1⟩
  · exact ⟨a,a2,a1,by grind⟩
theorem Qun {f w u : List Rat} {L : List (List Rat)} (h : Lo f L) (hf : ∀ t,ev f t = ev w t * ev u t) {x y : Rat} (hv : vv L x = vv L y) {c : Rat → Int} (hc : Cut c) (hx : c x = 1) (hy : c y ≠ 1) : ¬ Ge w c := fun hw => by
  have hxy : x < y := by
    rcases Qy y x with e | e
    · rcases Classical.em (y = x) with e' | e'
      · rw [e'] at hy; exact absurd hx hy
      · have := hc.mono y x (by grind) hy; omega
    · exact e
  have hwv := Pz h hf hxy hv
  rcases hc.val y with e | e | e
  · exact hy e
  · have := Dt hc e hw
    have := hwv.s
    rw [Za.2 (by assumption)] at this
    exact hwv.n this.symm
  · obtain ⟨s,hs,hd⟩ := Qlw hc h hf hw
    obtain ⟨a,ha,hal⟩ := Qub hc hw (Qmm hc hd) hs
    obtain ⟨b,hb,hbr⟩ := Qj2 hc hw (Qg4 hc hd) hs
    obtain ⟨q,q1,q2,q3⟩ := As hc hx ha
    obtain ⟨r,r1,r2,r3⟩ := Qil hc hb e
    have e1 := hal q q1 (Rat.le_of_lt q3)
    have e2 := hbr r r1 (Rat.le_of_lt r2)
    have hqr := hc.lt q1 r1
    have v1 : vv L q ≤ vv L x := Fe h q2
    have v2 : vv L y ≤ vv L r := Fe h r3
    have v3 : vv L r ≤ vv L q := Fe h hqr
    have s1 := (Pz h hf q2 (by omega)).s
    have s2 := (Pz h hf (x := x) (y := r) (by grind) (by omega)).s
    omega
theorem Qed {f : List Rat} {L : List (List Rat)} (h : Lo f L) {x y : Rat} (hxy : x < y) (hv : vv L x ≠ vv L y) {d : Rat} (dp : 0 < d) : ∃ q,x ≤ q ∧ q ≤ y ∧ Ql (ev f q) < d := by
  obtain ⟨R,hR,hx,hy⟩ := Qb7 x y
  obtain ⟨e1,e1p,hl⟩ := loc hR h (w := f) (u := [1]) (fun t => by rw [Xx]; grind)
  obtain ⟨e2,e2p,_,e2b⟩ := Zs (Y6 hR f) dp
  obtain ⟨e,ep,h1,h2⟩ := min2 e1p e2p
  have key : ∀ n : Nat,∀ x,Ql x ≤ R → x < y → vv L x ≠ vv L y → y - x ≤ (n : Rat) * e → ∃ q,x ≤ q ∧ q ≤ y ∧ Ql (ev f q) < d := by
    intro n
    induction n with
    | zero => intro x hx hxy _ hn; rw [show ((0 : Nat) : Rat) = 0 from rfl] at hn; exfalso; clear hl; grind
    |
     succ n ih =>
     intro x hx hxy hv hn
     have hstep : ∀ z,Ql z ≤ R → x < z → z - x ≤ e → vv L x ≠ vv L z → Ql (ev f z) < d := fun z hz hxz hze hv => by
       rcases hl x z hx hz hxz (Rat.le_trans hze h1) with ⟨p,_⟩ | ⟨_,p1,p2,p3,p4⟩
       · exact absurd p hv
       · have hd := Yi (p := f) hx hz hR (e := e2) (d := d) (by rw [Yn]; clear hl ih; constructor <;> grind) e2b
         rw [← p3] at p1 p4
         clear hl ih p2 p3
         rw [Qdw] at *
         rcases Zq (ev f x) with ⟨a,a'⟩ | ⟨a,a'⟩ | ⟨a,a'⟩ <;> rcases Zq (ev f z) with ⟨b,b'⟩ | ⟨b,b'⟩ | ⟨b,b'⟩ <;> rw [a,b] at p4 <;> first | (exfalso; revert p4; decide) | skip
         all_goals first | (constructor <;> grind) | (exfalso; omega)
     rcases Qy (y - x) e with h3 | h3
     · exact ⟨y,Rat.le_of_lt hxy,Rat.le_refl,hstep y hy hxy h3 hv⟩
     · have hm : Ql (x + e) ≤ R := Ni hx hy (by clear hl ih hstep; grind) (by clear hl ih hstep; grind)
       rcases Classical.em (vv L x = vv L (x + e)) with e0 | e0
       · have hn' : (((n + 1 : Nat) : Rat)) = (n : Rat) + 1 := by push_cast; rfl
         rw [hn'] at hn
         obtain ⟨q,q1,q2,q3⟩ := ih (x + e) hm (by clear hl ih hstep; grind) (by omega) (by clear hl ih hstep; grind)
         exact ⟨q,by clear hl ih hstep; grind,q2,q3⟩
       · exact ⟨x + e,by clear hl ih hstep; grind,by clear hl ih hstep; grind,hstep (x + e) hm (by clear hl ih hstep; grind) (by clear hl ih hstep; grind) e0⟩
  obtain ⟨n,hn⟩ := Rl (z := y - x) ep
  exact key n x hx hxy hv hn
end Orq

namespace Orq
theorem Q4e {p : List Rat} {x : Rat} (h : Jx p x ≠ 0) : ∃ e : Rat,0 < e ∧ ∀ y,x < y → y - x ≤ e → Qq (ev p y) = Jx p x := by
  by_cases h0 : Qq (ev p x) = 0
  · have hx := Za.1 h0
    rw [Qi8 h0] at h ⊢
    have hR : 0 ≤ Ql x + 1 := by have := Z5 x; grind
    obtain ⟨e,e1,e2,e3⟩ := Zs (Au hR p) (Wu (x := dv p x) fun h' => h (Za.2 h'))
    refine ⟨e,e1,fun y h1 h2 => ?_⟩
    have hy : Ql y ≤ Ql x + 1 := by
      have := Ji x (y - x)
      have e : x + (y - x) = y := by grind
      have e' : Ql (y - x) = y - x := by unfold Ql; split <;> grind
      rw [e,e'] at this; grind
    have := Iu (p := p) (by grind) hy hR h1 h2 Rat.le_refl e3
    rw [hx] at this
    rw [← this]; congr 1; grind
  · rw [U6 h0] at h ⊢
    obtain ⟨e,e1,e2⟩ := Pi h
    exact ⟨e,e1,fun y h1 h2 => e2 y (by rw [Yn]; constructor <;> grind)⟩
def cq (P : List Rat) (lo hi q : Rat) : Int := if q ≤ lo then 1 else if hi < q then -1 else if Qq (ev P q) = 0 then 0 else if Qq (ev P q) = Jx P lo then 1 else -1
structure Vt (P : List Rat) (L : List (List Rat)) (lo hi : Rat) : Prop where
  s : Lo P L
  l : lo < hi
  v : vv L lo = vv L hi + 1
variable {P : List Rat} {L : List (List Rat)} {lo hi : Rat}
theorem Uy {q : Rat} (h : q ≤ lo) : cq P lo hi q = 1 := by unfold cq; rw [if_pos h]
theorem M5 {q : Rat} (h : lo < hi) (h' : hi < q) : cq P lo hi q = -1 := by unfold cq; rw [if_neg (by grind),if_pos h']
theorem Ft {q : Rat} (h1 : lo < q) (h2 : q ≤ hi) : cq P lo hi q = if Qq (ev P q) = 0 then 0 else if Qq (ev P q) = Jx P lo then 1 else -1 := by
  unfold cq; rw [if_neg (by grind),if_neg (by grind)]
theorem Vt.two (V : Vt P L lo hi) {q : Rat} (h1 : lo < q) (h2 : q ≤ hi) : vv L q = vv L lo ∧ cq P lo hi q = 1 ∧ Qq (ev P q) = Jx P lo ∨ vv L q = vv L hi ∧ cq P lo hi q ≠ 1 ∧ Jx P q = -Jx P lo ∧ Jx P lo ≠ 0 := by
  have a := Fe V.s h1
  have b : vv L hi ≤ vv L q := by
    rcases Classical.em (q = hi) with e | e
    · rw [e]; exact Nat.le_refl _
    · exact Fe V.s (by grind)
  have hv := V.v
  rcases (show vv L q = vv L lo ∨ vv L q = vv L hi by omega) with e | e
  · have hs := Qek V.s h1 e.symm
    refine .inl ⟨e,?_,hs.s⟩
    rw [Ft h1 h2,hs.s,if_neg hs.n,if_pos rfl]
  · obtain ⟨o1,o2⟩ := Qej V.s h1 (by omega)
    refine .inr ⟨e,?_,o2,o1⟩
    rw [Ft h1 h2]
    split
    · decide
    · rename_i h0
      rw [U6 h0] at o2
      rw [if_neg (by omega)]; decide
theorem Vt.lowlo (V : Vt P L lo hi) : Jx P lo ≠ 0 := (Qej V.s V.l V.v).1
theorem Vt.eq_lo (V : Vt P L lo hi) {q : Rat} (h1 : lo < q) (h2 : q ≤ hi) (h : cq P lo hi q = 1) : vv L q = vv L lo := by
  rcases V.two h1 h2 with ⟨e,_⟩ | ⟨_,e,_⟩
  · exact e
  · exact absurd h e
theorem Vt.eq_hi (V : Vt P L lo hi) {q : Rat} (h1 : lo < q) (h2 : q ≤ hi) (h : cq P lo hi q ≠ 1) : vv L q = vv L hi := by
  rcases V.two h1 h2 with ⟨_,e,_⟩ | ⟨e,_⟩
  · exact absurd e h
  · exact e
theorem Vt.hi1 (V : Vt P L lo hi) : cq P lo hi hi ≠ 1 := fun h => by have := V.eq_lo V.l Rat.le_refl h; have := V.v; omega
theorem Vt.cut (V : Vt P L lo hi) : Cut (cq P lo hi) where
  val q := by unfold cq; split <;> (try split) <;> (try split) <;> (try split) <;> simp
  mono q r h h1 := by
    have hq : lo < q := by
     rcases Qy q lo with e | e
     · exact absurd (Uy e) h1
     · exact e
    rcases Qy r hi with e | e
    · have e1 := V.eq_hi hq (by grind) h1
      rcases V.two (q := r) (by grind) e with ⟨e2,_⟩ | ⟨e2,_,e3,e4⟩
      · have := Fe V.s h; have := V.v; omega
      · have hs := Qek V.s h (by omega)
        rcases V.two hq (by grind) with ⟨e5,_⟩ | ⟨_,_,e5,_⟩
        · have := V.v; omega
        · rw [Ft (by grind) e,hs.s,if_neg hs.n,e5,if_neg (by omega)]
    · exact M5 V.l e
  up q h := by
    rcases Qy q lo with e | e
    · obtain ⟨d,dp,hd⟩ := Q4e V.lowlo
      obtain ⟨f,fp,f1,f2⟩ := min2 (a := d) (b := hi - lo) dp (by have := V.l; grind)
      have h1 : lo < lo + f := by clear hd; grind
      have h2 : lo + f ≤ hi := by clear hd; grind
      have := hd (lo + f) h1 (by clear hd; grind)
      exact ⟨lo + f,by clear hd; grind,by rw [Ft h1 h2,this,if_neg V.lowlo,if_pos rfl]⟩
    · have hh : q ≤ hi := by
       rcases Qy q hi with e' | e'
       · exact e'
       · have := M5 (P := P) V.l e'; omega
      rcases V.two e hh with ⟨e1,_,e2⟩ | ⟨_,e1,_⟩
      · have hn : q ≠ hi := fun h => by rw [h] at e1; have := V.v; omega
        obtain ⟨d,dp,hd⟩ := Pi (p := P) (x := q) (by rw [e2]; exact V.lowlo)
        obtain ⟨f,fp,f1,f2⟩ := min2 (a := d) (b := hi - q) dp (by clear hd; grind)
        have := hd (q + f) (by rw [Yn]; clear hd; constructor <;> grind)
        exact ⟨q + f,by clear hd; grind,by rw [Ft (by clear hd; grind) (by clear hd; grind),this,e2,if_neg V.lowlo,if_pos rfl]⟩
      · exact absurd h e1
  dn q h := by
    have hq : lo < q := by
     rcases Qy q lo with e | e
     · have := Uy (P := P) (hi := hi) e; omega
     · exact e
    rcases Qy q hi with e | e
    · rw [Ft hq e] at h
      split at h
      · cases h
      rename_i h0
      split at h
      · cases h
      rename_i h1
      obtain ⟨d,dp,hd⟩ := Pi h0
      obtain ⟨f,fp,f1,f2⟩ := min2 (a := d) (b := (q - lo) / 2) dp (U0 (by clear hd; grind) (by decide))
      have h2 : (q - lo) / 2 * 2 = q - lo := Zr (by decide)
      have := hd (q - f) (by rw [Yn]; clear hd; constructor <;> grind)
      exact ⟨q - f,by clear hd; grind,by rw [Ft (by clear hd; grind) (by clear hd; grind),this,if_neg h0,if_neg h1]⟩
    · have h2 : (q - hi) / 2 * 2 = q - hi := Zr (by decide)
      exact ⟨q - (q - hi) / 2,by grind,M5 V.l (by grind)⟩
  lo := ⟨lo,Uy Rat.le_refl⟩
  hi := ⟨hi + 1,M5 V.l (by grind)⟩
theorem Vt.van (V : Vt P L lo hi) : Ge P (cq P lo hi) := by
  have hc := V.cut
  rcases Si hc P with h | ⟨s,hs,h⟩
  · exact h
  · exfalso
    have e1 : s = Jx P lo := by
      obtain ⟨x,hx,hx1⟩ := Qmm hc h
      obtain ⟨q,q1,q2,q3⟩ := As hc hx (Uy (P := P) (hi := hi) (Rat.le_refl (a := lo)))
      have hq : q ≤ hi := by
       rcases Qy q hi with e | e
       · exact e
       · have := M5 (P := P) V.l e; omega
      rcases V.two q3 hq with ⟨_,_,e⟩ | ⟨_,e,_⟩
      · rw [← hx1 q q1 (Rat.le_of_lt q2),e]
      · exact absurd q1 e
    rcases hc.val hi with e | e | e
    · exact V.hi1 e
    · have h0 := Qgg hc e h
      rw [Ft V.l Rat.le_refl] at e
      split at e
      · omega
      · split at e <;> omega
    · obtain ⟨y,hy,hy1⟩ := Qg4 hc h
      obtain ⟨q,q1,q2,q3⟩ := Qil hc hy e
      have hq : lo < q := hc.lt (Uy (P := P) (hi := hi) (Rat.le_refl (a := lo))) q1
      have := hy1 q q1 (Rat.le_of_lt q2)
      rw [Ft hq (Rat.le_of_lt q3),this,if_neg hs,if_pos e1] at q1
      cases q1
def Qiy (w : List Rat) (lo hi : Rat) : Prop := Qq (ev w hi) = 0 ∨ Qq (ev w hi) ≠ Jx w lo
theorem Vt.has (V : Vt P L lo hi) {w u : List Rat} (hf : ∀ t,ev P t = ev w t * ev u t) {a b : Rat} (h1 : lo ≤ a) (h2 : a < b) (h3 : b ≤ hi) : Qiy w a b ↔ Ge w (cq P lo hi) ∧ cq P lo hi a = 1 ∧ cq P lo hi b ≠ 1 := by
  have hc := V.cut
  have smno : vv L a = vv L b → ¬ Qiy w a b := fun h hh => by
    have := Pz V.s hf h2 h
    rcases hh with e | e
    · rw [this.s] at e; exact this.n e
    · exact e this.s
  by_cases ha : cq P lo hi a = 1
  · by_cases hb : cq P lo hi b = 1
    · have e1 := V.eq_lo (by grind) h3 hb
      have e2 : vv L a = vv L lo := by
        rcases Classical.em (lo = a) with e | e
        · rw [e]
        · exact V.eq_lo (by grind) (by grind) ha
      exact ⟨fun h => absurd h (smno (by omega)),fun h => absurd hb h.2.2⟩
    · have e1 := V.eq_hi (by grind) h3 hb
      have e2 : vv L a = vv L lo := by
        rcases Classical.em (lo = a) with e | e
        · rw [e]
        · exact V.eq_lo (by grind) (by grind) ha
      -- signs on both sides,within the piece
      have left : ∀ s,LS w (cq P lo hi) s → s = Jx w a := fun s hs => by
        obtain ⟨x,hx,hx1⟩ := hs
        obtain ⟨q,q1,q2,q3⟩ := As hc hx ha
        have hqb : q < b := by
          rcases Qy b q with e | e
          · rcases Classical.em (b = q) with e' | e'
            · rw [e'] at hb; exact absurd q1 hb
            · have := hc.mono b q (by clear hx1 smno; grind) hb; omega
          · exact e
        have := V.eq_lo (q := q) (by clear hx1 smno; grind) (by clear hx1 smno; grind) q1
        rw [← (Pz V.s hf q3 (by omega)).s,hx1 q q1 (Rat.le_of_lt q2)]
      have right : ∀ s,RS w (cq P lo hi) s → cq P lo hi b = -1 → s = Qq (ev w b) := fun s hs hb => by
        obtain ⟨y,hy,hy1⟩ := hs
        obtain ⟨q,q1,q2,q3⟩ := Qil hc hy hb
        have hqa := hc.lt ha q1
        have := V.eq_hi (q := q) (by clear hy1 smno; grind) (by clear hy1 smno; grind) (by omega)
        have hs := Pz V.s hf q3 (by omega)
        have hl := hy1 q q1 (Rat.le_of_lt q2)
        have h0 : Qq (ev w q) ≠ 0 := by
          have hs2 := Pz V.s hf (x := q) (y := b) q3 (by omega)
          intro h0
          obtain ⟨r,r1,r2⟩ := hc.dn q q1
          have har := hc.lt ha r2
          have := V.eq_hi (q := r) (by clear hy1 smno; grind) (by clear hy1 smno; grind) (by omega)
          have hs3 := Pz V.s hf (x := r) (y := q) r1 (by omega)
          have hs4 := hs3.s
          rw [h0] at hs4; exact hs3.n hs4.symm
        rw [hs.s,U6 h0,hl]
      refine ⟨fun h => ⟨?_,ha,hb⟩,fun ⟨hw,_,_⟩ => ?_⟩
      · rcases Si hc w with e | ⟨s,hs0,hs⟩
        · exact e
        · exfalso
          have l1 := left s (Qmm hc hs)
          have r1 : Qq (ev w b) = s := by
            rcases hc.val b with e | e | e
            · exact absurd e hb
            · exact Qgg hc e hs
            · exact (right s (Qg4 hc hs) e).symm
          rcases h with h | h
          · exact hs0 (by rw [← r1]; exact h)
          · exact h (by rw [r1,l1])
      · rcases hc.val b with e | e | e
        · exact absurd e hb
        · exact .inl (Za.2 (Dt hc e hw))
        · obtain ⟨s,hs0,hs⟩ := Qlw hc V.s hf hw
          have l1 := left _ (Qub hc hw (Qmm hc hs) hs0)
          have r1 := right _ (Qj2 hc hw (Qg4 hc hs) hs0) e
          exact .inr (by rw [← l1,← r1]; omega)
  · have hla : lo < a := by
     rcases Classical.em (lo = a) with e | e
     · rw [← e] at ha; exact absurd (Uy Rat.le_refl) ha
     · grind
    have hb : cq P lo hi b ≠ 1 := by have := hc.mono a b h2 ha; omega
    have e1 := V.eq_hi hla (by grind) ha
    have e2 := V.eq_hi (q := b) (by grind) h3 hb
    exact ⟨fun h => absurd h (smno (by omega)),fun h => absurd h.2.1 ha⟩
theorem Qfc {c c' : Rat → Int} (hc : Cut c) (hc' : Cut c') {q : Rat} (h : c q ≠ c' q) : ∃ r,(c r = -1 ∧ c' r = 1) ∨ (c r = 1 ∧ c' r = -1) := by
  rcases hc.val q with e | e | e <;> rcases hc'.val q with e' | e' | e'
  · omega
  · obtain ⟨r,r1,r2⟩ := hc.up q e
    exact ⟨r,.inr ⟨r2,hc'.mono q r r1 (by omega)⟩⟩
  · exact ⟨q,.inr ⟨e,e'⟩⟩
  · obtain ⟨r,r1,r2⟩ := hc'.up q e'
    exact ⟨r,.inl ⟨hc.mono q r r1 (by omega),r2⟩⟩
  · omega
  · obtain ⟨r,r1,r2⟩ := hc'.dn q e'
    exact ⟨r,.inr ⟨hc.mono' r1 (by omega),r2⟩⟩
  · exact ⟨q,.inl ⟨e,e'⟩⟩
  · obtain ⟨r,r1,r2⟩ := hc.dn q e
    exact ⟨r,.inl ⟨r2,hc'.mono' r1 (by omega)⟩⟩
  · omega
theorem Vt.uniq (V : Vt P L lo hi) {c : Rat → Int} (hc : Cut c) (h1 : c lo = 1) (h2 : c hi ≠ 1) (hv : Ge P c) (q : Rat) : c q = cq P lo hi q := by
  rcases Classical.em (c q = cq P lo hi q) with e | e
  · exact e
  · exfalso
    obtain ⟨r,⟨r1,r2⟩ | ⟨r1,r2⟩⟩ := Qfc hc V.cut e
    · have hl := hc.lt h1 r1
      have hh : r ≤ hi := by
       rcases Qy r hi with e | e
       · exact e
       · have := M5 (P := P) V.l e; omega
      have := V.eq_lo hl hh r2
      exact Qun V.s (w := P) (u := [1]) (fun t => by rw [Xx]; grind) (x := lo) (y := r) (by omega) hc h1 (by omega) hv
    · have hl : lo < r := by
       rcases Qy r lo with e | e
       · have := Uy (P := P) (hi := hi) e; omega
       · exact e
      have hh : r ≤ hi := by
       rcases Qy r hi with e | e
       · exact e
       · have := hc.mono hi r e h2; omega
      have := V.eq_hi hl hh (by omega)
      exact Qun V.s (w := P) (u := [1]) (fun t => by rw [Xx]; grind) (x := r) (y := hi) (by omega) hc r1 h2 hv
theorem Vt.same (V : Vt P L lo hi) {P' : List Rat} {L' : List (List Rat)} {lo' hi' : Rat} (V' : Vt P' L' lo' hi') {g u u' U W : List Rat} {k : Rat} (hk : k ≠ 0) (h1 : ∀ t,ev P t = ev g t * ev u t) (h2 : ∀ t,ev P' t = ev g t * ev u' t) (h3 : ∀ t,k * ev g t = ev U t * ev P t + ev W t * ev P' t) {a b : Rat} (ha1 : lo ≤ a) (ha2 : lo' ≤ a) (ha : a = lo ∨ a = lo') (hb1 : b ≤ hi) (hb2 : b ≤ hi') (hb : b = hi ∨ b = hi') : (a < b ∧ Qiy g a b) ↔ ∀ q,cq P lo hi q = cq P' lo' hi' q := by
  have hc := V.cut
  have hc' := V'.cut
  constructor
  · rintro ⟨hab,hg⟩
    obtain ⟨g1,g2,g3⟩ := (V.has h1 ha1 hab hb1).1 hg
    obtain ⟨g4,g5,g6⟩ := (V'.has h2 ha2 hab hb2).1 hg
    intro q
    refine (V.uniq hc' (by
      rcases Classical.em (lo = a) with e | e
      · rw [e]; exact g5
      · exact hc'.mono' (q := lo) (r := a) (by grind) (by omega)) (fun h => ?_) (Yb hc' h1 g4) q).symm
    rcases Classical.em (b = hi) with e | e
    · rw [← e] at h; exact g6 h
    · have := hc'.mono b hi (by grind) g6; omega
  · intro h
    have hcc : cq P' lo' hi' = cq P lo hi := funext fun q => (h q).symm
    have e1 : cq P lo hi a = 1 := by
     rcases ha with rfl | rfl
     · exact Uy Rat.le_refl
     · rw [h]; exact Uy Rat.le_refl
    have e2 : cq P lo hi b ≠ 1 := by
     rcases hb with rfl | rfl
     · exact V.hi1
     · rw [h]; exact V'.hi1
    have hab : a < b := by
      rcases Qy b a with e | e
      · rcases Classical.em (b = a) with e' | e'
        · rw [e'] at e2; exact absurd e1 e2
        · have := hc.mono b a (by grind) e2; omega
      · exact e
    have v1 := V.van
    have v2 := V'.van
    rw [hcc] at v2
    have hg : Ge g (cq P lo hi) := by
      have a1 : Ge (Zh U P) (cq P lo hi) := Yb hc (p := P) (q := U) (fun t => by rw [Qk]; grind) v1
      have a2 : Ge (Zh W P') (cq P lo hi) := Yb hc (p := P') (q := W) (fun t => by rw [Qk]; grind) v2
      have a3 := E6 (fun t => Ze t _ _) a1 a2
      refine Qb5 hc (k := 1 / k) (fun t => ?_) a3
      rw [Ze,Qk,Qk,← h3]
      have : 1 / k * (k * ev g t) = 1 / k * k * ev g t := by grind
      rw [this,show 1 / k * k = 1 from Rat.div_mul_cancel hk]; grind
    exact ⟨hab,(V.has h1 ha1 hab hb1).2 ⟨hg,e1,e2⟩⟩
end Orq
