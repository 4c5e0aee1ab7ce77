/- T20 T21 T22 T23 T24 T25 G1 G2 SortL KinL K1 K2 F6 F7 F8 F9 -/
import Derived.Test.YtbnjginelkkonaaGreatPart07
import Derived.Test.YtbnjginelkkonaaGreatPart06
import Derived.Test.YtbnjginelkkonaaGreatPart05
set_option linter.all false

namespace Orq
open Orr Go
structure Gr (D M k : Nat) (q : Rat) : Prop where
  u : ∃ u : Int,q * ((D * 2 ^ k : Nat) : Rat) = (u : Rat)
  b : Ql q ≤ (M : Rat)
  d : 0 < D
theorem nat_pos {n : Nat} (h : 0 < n) : (0 : Rat) < (n : Rat) := by
  have : ((0 : Nat) : Rat) < (n : Rat) := Rat.natCast_lt_natCast.2 h
  simpa using this
theorem Qa0 {D M k : Nat} {q : Rat} (h : Gr D M k q) : Gr D M (k + 1) q := by
  obtain ⟨u,hu⟩ := h.u
  refine ⟨⟨u * 2,?_⟩,h.b,h.d⟩
  rw [Nat.pow_succ,← Nat.mul_assoc]
  push_cast at hu ⊢
  rw [← hu]; grind
theorem Qtu {D M k : Nat} {a b : Rat} (ha : Gr D M k a) (hb : Gr D M k b) : Gr D M (k + 1) ((a + b) / 2) := by
  obtain ⟨u,hu⟩ := ha.u
  obtain ⟨v,hv⟩ := hb.u
  have h2 : (a + b) / 2 * 2 = a + b := Zr (by decide)
  refine ⟨⟨u + v,?_⟩,?_,ha.d⟩
  · rw [Nat.pow_succ,← Nat.mul_assoc]
    push_cast at hu hv ⊢
    rw [← hu,← hv]
    generalize (a + b) / 2 = c at *
    generalize (D : Rat) * 2 ^ k = z at *
    have : c * (z * 2) = (c * 2) * z := by grind
    rw [this,h2]; grind
  · have h3 := ha.b
    have h4 := hb.b
    rw [Yn] at *
    constructor <;> grind
theorem Q39 {D M k : Nat} {q : Rat} (h : Gr D M k q) : q.den ≤ D * 2 ^ k := by
  obtain ⟨u,hu⟩ := h.u
  have hp : 0 < D * 2 ^ k := Nat.mul_pos h.d (Nat.pow_pos (by decide))
  have e : q = Rat.divInt u ((D * 2 ^ k : Nat) : Int) := by
    rw [← Xb,← hu]
    have hz := nat_pos hp
    rw [show ((((D * 2 ^ k : Nat) : Int)) : Rat) = ((D * 2 ^ k : Nat) : Rat) from rfl]
    rw [Rat.div_def]
    have := Rat.mul_inv_cancel ((D * 2 ^ k : Nat) : Rat) (by grind)
    generalize ((D * 2 ^ k : Nat) : Rat) = z at *
    have : q * z * z⁻¹ = q * (z * z⁻¹) := by grind
    rw [this,‹z * z⁻¹ = 1›]; grind
  rw [e,Rat.den_divInt,if_neg (by omega),Int.natAbs_natCast]
  exact Nat.div_le_self _ _
theorem Io {a b k : Nat} {z : Int} (h : z.natAbs ≤ a * (b * 2 ^ k)) : Qm z ≤ Qm (a : Int) + Qm (b : Int) + k := by
  have h1 : Qm (a : Int) ≤ Qm (a : Int) := Nat.le_refl _
  have h2 : Qm (b : Int) ≤ Qm (b : Int) := Nat.le_refl _
  rw [Jq] at h1 h2 ⊢
  rw [Int.natAbs_natCast] at h1 h2
  rw [Nat.pow_add,Nat.pow_add]
  have h3 : a * b < 2 ^ Qm (a : Int) * 2 ^ Qm (b : Int) := Nat.mul_lt_mul_of_lt_of_le h1 (Nat.le_of_lt h2) (Nat.pow_pos (by decide))
  have h4 := Nat.mul_lt_mul_of_pos_right h3 (show 0 < 2 ^ k from Nat.pow_pos (by decide))
  rw [← Nat.mul_assoc] at h; omega
theorem Ql8 {D M k B : Nat} {q : Rat} (h : Gr D M k q) (hM : 0 < M) (hs : Qm (D : Int) + Qm (M : Int) + k ≤ B) : Qs B q := by
  have hd := Q39 h
  have hden := nat_pos q.den_pos
  have h1 : (q.num.natAbs : Rat) ≤ ((M * (D * 2 ^ k) : Nat) : Rat) := by
    have e : (q.num : Rat) = q * (q.den : Rat) := by
      have : (q.num : Rat) / (((q.den : Int)) : Rat) = q := by rw [Xb,Rat.num_divInt_den]
      have h2 : (q.num : Rat) / (q.den : Rat) * (q.den : Rat) = q.num := Rat.div_mul_cancel (by grind)
      rw [show (q.num : Rat) / (q.den : Rat) = q from this] at h2; exact h2.symm
    rw [← Jn,e]
    have h3 := Zp (x := q) (y := (q.den : Rat)) (b := ((D * 2 ^ k : Nat) : Rat)) h.b (by
      have : Ql (q.den : Rat) = (q.den : Rat) := by unfold Ql; rw [if_neg (by grind)]
      rw [this]; exact Rat.natCast_le_natCast.2 hd)
    push_cast at h3 ⊢; exact h3
  have h1 := Rat.natCast_le_natCast.1 h1
  refine ⟨?_,?_⟩
  · have := Io (z := q.num) h1; omega
  · have := Io (z := (q.den : Int)) (a := M) (b := D) (k := k) (by
      rw [Int.natAbs_natCast]
      exact Nat.le_trans hd (Nat.le_mul_of_pos_left _ hM))
    omega
theorem Qi9 (a b : Rat) : mid a b = (a + b) / 2 := by
  unfold mid
  rw [← Xb]
  have ha : (a.num : Rat) = a * (a.den : Rat) := by
    have : (a.num : Rat) / (((a.den : Int)) : Rat) = a := by rw [Xb,Rat.num_divInt_den]
    have h2 : (a.num : Rat) / (a.den : Rat) * (a.den : Rat) = a.num := Rat.div_mul_cancel (by have := nat_pos a.den_pos; grind)
    rw [show (a.num : Rat) / (a.den : Rat) = a from this] at h2; exact h2.symm
  have hb : (b.num : Rat) = b * (b.den : Rat) := by
    have : (b.num : Rat) / (((b.den : Int)) : Rat) = b := by rw [Xb,Rat.num_divInt_den]
    have h2 : (b.num : Rat) / (b.den : Rat) * (b.den : Rat) = b.num := Rat.div_mul_cancel (by have := nat_pos b.den_pos; grind)
    rw [show (b.num : Rat) / (b.den : Rat) = b from this] at h2; exact h2.symm
  have pa := nat_pos a.den_pos
  have pb := nat_pos b.den_pos
  rw [Rat.intCast_add,Rat.intCast_mul,Rat.intCast_mul,Rat.intCast_mul,Rat.intCast_mul,ha,hb]
  rw [show (((a.den : Int)) : Rat) = (a.den : Rat) from rfl,show (((b.den : Int)) : Rat) = (b.den : Rat) from rfl,show (((2 : Int)) : Rat) = 2 from rfl]
  generalize (a.den : Rat) = x at *
  generalize (b.den : Rat) = y at *
  have hxy := Fy (Fy pa pb) (show (0 : Rat) < 2 by decide)
  have h1 : (a * x * y + b * y * x) / (x * y * 2) * (x * y * 2) = a * x * y + b * y * x := Zr hxy
  have h2 : (a + b) / 2 * 2 = a + b := Zr (by decide)
  generalize (a * x * y + b * y * x) / (x * y * 2) = c at *
  generalize (a + b) / 2 = d at *
  have h3 : (x * y * 2) * (c - d) = 0 := by grind
  rcases Rat.mul_eq_zero.1 h3 with h4 | h4 <;> grind
theorem Ex (a b : Rat) : Oa a b = a - b := by
  unfold Oa
  rw [Rat.sub_def',← Rat.divInt_ofNat]
  push_cast; rfl
theorem Qlq {a b : Rat} : Zu a b = 0 ↔ a = b := by
  constructor
  · intro h
    have h1 : ¬ a < b := fun h' => by have := Wm.2 h'; omega
    have h2 : ¬ b < a := fun h' => by have := Ui.2 h'; omega
    grind
  · intro h; subst h; exact K8 a
theorem Qcn {a b : Rat} : Zu a b ≤ 0 ↔ a ≤ b := by
  constructor
  · intro h
    have h2 : ¬ b < a := fun h' => by have := Ui.2 h'; omega
    grind
  · intro h
    have h2 : ¬ 0 < Zu a b := fun h' => by have := Ui.1 h'; grind
    omega
theorem Ef {a b : Rat} : 0 ≤ Zu a b ↔ b ≤ a := by
  constructor
  · intro h
    have h2 : ¬ a < b := fun h' => by have := Wm.2 h'; omega
    grind
  · intro h
    have h2 : ¬ Zu a b < 0 := fun h' => by have := Wm.1 h'; grind
    omega
theorem Gj (a b : Rat) : Zu a b = 1 ∧ b < a ∨ Zu a b = 0 ∧ a = b ∨ Zu a b = -1 ∧ a < b := by
  have hb := Hn a b
  rcases (show Zu a b = 1 ∨ Zu a b = 0 ∨ Zu a b = -1 by omega) with h | h | h
  · exact .inl ⟨h,Ui.1 (by omega)⟩
  · exact .inr (.inl ⟨h,Qlq.1 h⟩)
  · exact .inr (.inr ⟨h,Wm.1 (by omega)⟩)
theorem Qf6 (p : List Int) (x : Rat) : low p x = Jx (cz p) x := by
  unfold low Jx
  rw [Ki,Ki,Qg,Tt]
theorem V8 {t : Tm} (h : t.lo < t.hi) (q : Rat) : Zn t q = cq (cz t.p) t.lo t.hi q := by
  have hp : t.point = false := by
    unfold Tm.point
    have : ¬ 0 ≤ Zu t.lo t.hi := fun h' => by have := Ef.1 h'; grind
    simp [this]
  unfold Zn cq
  rw [hp,if_neg (by decide)]
  have e1 : (Zu q t.lo ≤ 0) = (q ≤ t.lo) := propext Qcn
  have e2 : (0 < Zu q t.hi) = (t.hi < q) := propext Ui
  rw [Ki,Qf6,← Qg]
  simp only [e1,e2]
theorem Wc {t : Tm} : t.point = true ↔ t.hi ≤ t.lo := by
  unfold Tm.point
  rw [decide_eq_true_iff]; exact Ef
theorem Ho {t : Tm} (h : t.lo = t.hi) (q : Rat) : Zn t q = Zu t.lo q := by
  have hp : t.point = true := Wc.2 (by rw [h]; exact Rat.le_refl)
  unfold Zn; rw [if_pos hp]
theorem Q3t {c : Rat → Int} {x : Rat} (h : ∀ q,c q = Zu x q) : Cut c where
  val q := by rw [h]; have := Hn x q; omega
  mono q r hqr h1 := by
    rw [h] at h1 ⊢
    rcases Gj x q with ⟨e,e'⟩ | ⟨e,e'⟩ | ⟨e,e'⟩
    · exact absurd e h1
    · rcases Gj x r with ⟨f,f'⟩ | ⟨f,f'⟩ | ⟨f,f'⟩ <;> grind
    · rcases Gj x r with ⟨f,f'⟩ | ⟨f,f'⟩ | ⟨f,f'⟩ <;> grind
  up q h1 := by
    rw [h] at h1
    have h2 := Ui.1 (show 0 < Zu x q by omega)
    have h3 : (x + q) / 2 * 2 = x + q := Zr (by decide)
    have h4 := Ui.2 (show (x + q) / 2 < x by grind)
    have := Hn x ((x + q) / 2)
    exact ⟨(x + q) / 2,by grind,by rw [h]; omega⟩
  dn q h1 := by
    rw [h] at h1
    have h2 := Wm.1 (show Zu x q < 0 by omega)
    have h3 : (x + q) / 2 * 2 = x + q := Zr (by decide)
    have h4 := Wm.2 (show x < (x + q) / 2 by grind)
    have := Hn x ((x + q) / 2)
    exact ⟨(x + q) / 2,by grind,by rw [h]; omega⟩
  lo := ⟨x - 1,by
    rw [h]
    have h4 := Ui.2 (show x - 1 < x by grind)
    have := Hn x (x - 1); omega⟩
  hi := ⟨x + 1,by
    rw [h]
    have h4 := Wm.2 (show x < x + 1 by grind)
    have := Hn x (x + 1); omega⟩
structure Va (t : Tm) : Prop where
  i : t.lo = t.hi ∧ Qi t.p t.lo = 0 ∨ ∃ L,Vt (cz t.p) L t.lo t.hi
  tr : Qj t.p
  n : t.p.length ≤ 9
  n2 : 2 ≤ t.p.length
  b : Bd 1000 t.p
  g : ∃ D M k,Gr D M k t.lo ∧ Gr D M k t.hi ∧ 0 < M ∧ Qm (D : Int) + Qm (M : Int) + k ≤ 1000000
theorem Va.le {t : Tm} (h : Va t) : t.lo ≤ t.hi := by
  rcases h.i with ⟨e,_⟩ | ⟨L,V⟩
  · rw [e]; exact Rat.le_refl
  · exact Rat.le_of_lt V.l
theorem Va.pt {t : Tm} (h : Va t) (hp : t.point = true) : t.lo = t.hi ∧ Qi t.p t.lo = 0 := by
  rcases h.i with e | ⟨L,V⟩
  · exact e
  · have := Wc.1 hp
    have := V.l
    grind
theorem Va.iv {t : Tm} (h : Va t) (hp : t.point = false) : ∃ L,Vt (cz t.p) L t.lo t.hi := by
  rcases h.i with ⟨e,_⟩ | h
  · have := Wc.2 (show t.hi ≤ t.lo by rw [e]; exact Rat.le_refl)
    rw [hp] at this; cases this
  · exact h
theorem Va.cut {t : Tm} (h : Va t) : Cut (Zn t) := by
  rcases h.i with ⟨e,_⟩ | ⟨L,V⟩
  · exact Q3t (x := t.lo) fun q => Ho e q
  · have : Zn t = cq (cz t.p) t.lo t.hi := funext fun q => V8 V.l q
    rw [this]; exact V.cut
theorem Q5n {c : Rat → Int} (hc : Cut c) {p : List Rat} {x : Rat} (h : c x = 0) (h0 : ev p x = 0) : Ge p c := by
  rcases Si hc p with h1 | ⟨s,hs,h1⟩
  · exact h1
  · have := Qgg hc h h1
    rw [Za.2 h0] at this; exact absurd this.symm hs
theorem Va.van {t : Tm} (h : Va t) : Ge (cz t.p) (Zn t) := by
  have hc := h.cut
  rcases h.i with ⟨e,h0⟩ | ⟨L,V⟩
  · exact Q5n hc (x := t.lo) (by rw [Ho e,K8]) (by rw [Qg]; exact h0)
  · have : Zn t = cq (cz t.p) t.lo t.hi := funext fun q => V8 V.l q
    rw [this]; exact V.van
theorem Va.qs {t : Tm} (h : Va t) : Qs 1000000 t.lo ∧ Qs 1000000 t.hi := by
  obtain ⟨D,M,k,h1,h2,h3,h4⟩ := h.g
  exact ⟨Ql8 h1 h3 h4,Ql8 h2 h3 h4⟩
theorem Va.tb {t : Tm} (h : Va t) : Tb t := ⟨⟨h.tr,by have := h.n; omega,Qd h.b (by omega)⟩,h.qs.1.mono (t := 16777216) (by omega),h.qs.2.mono (t := 16777216) (by omega)⟩
structure Hv (t : Tm) (D M k : Nat) (u : Tm) : Prop where
  p : u.p = t.p
  i : u.lo = u.hi ∧ Qi u.p u.lo = 0 ∨ ∃ L,Vt (cz u.p) L u.lo u.hi
  c : ∀ q,Zn u q = Zn t q
  l : Gr D M k u.lo
  h : Gr D M k u.hi
theorem Qfd {c : Rat → Int} (hc : Cut c) {x : Rat} (h : c x = 0) (q : Rat) : c q = Zu x q := by
  rcases Gj x q with ⟨e,e'⟩ | ⟨e,e'⟩ | ⟨e,e'⟩
  · rw [e]; exact hc.mono' e' (by omega)
  · rw [e,← e',h]
  · rw [e]; exact hc.mono x q e' (by omega)
theorem Qc1 {t u : Tm} {D M k : Nat} (hu : Hv t D M k u) (hM : 0 < M) (hs : Qm (D : Int) + Qm (M : Int) + (k + 1) ≤ 16777216) : ∃ v,Qc0 u = some v ∧ Hv t D M (k + 1) v ∧ v.hi - v.lo ≤ (u.hi - u.lo) / 2 ∧ u.lo ≤ v.lo ∧ v.hi ≤ u.hi := by
  have h2 : ∀ x : Rat,x / 2 * 2 = x := fun x => Zr (by decide)
  unfold Qc0
  rcases hu.i with ⟨e,h0⟩ | ⟨L,V⟩
  · have hp : u.point = true := Wc.2 (by rw [e]; exact Rat.le_refl)
    rw [if_pos hp]
    refine ⟨u,rfl,⟨hu.p,hu.i,hu.c,Qa0 hu.l,Qa0 hu.h⟩,?_,Rat.le_refl,Rat.le_refl⟩
    rw [e]; have := h2 (u.hi - u.hi); grind
  · have hp : u.point = false := by
      have : ¬ u.point = true := fun h => by have := Wc.1 h; have := V.l; grind
      simpa using this
    rw [hp,if_neg (by decide)]
    obtain ⟨m,hm⟩ : ∃ m,m = (u.lo + u.hi) / 2 := ⟨_,rfl⟩
    have hmg : Gr D M (k + 1) m := by rw [hm]; exact Qtu hu.l hu.h
    have hmm := h2 (u.lo + u.hi)
    rw [← hm] at hmm
    have hl := V.l
    have hl1 : u.lo < m := by grind
    have hl2 : m < u.hi := by grind
    have hch : chq (mid u.lo u.hi) = some m := by
      rw [Qi9,← hm]
      have := Ql8 hmg hM hs
      unfold chq
      rw [if_pos ⟨this.1,this.2⟩]
    have hcm : mid u.lo u.hi = m := by rw [Qi9,← hm]
    rw [hch]
    show ∃ v,some (if Zn u m = 0 then (⟨u.p,m,m⟩ : Tm) else if Zn u m = -1 then ⟨u.p,u.lo,m⟩ else ⟨u.p,m,u.hi⟩) = some v ∧ _
    have hw := h2 (u.hi - u.lo)
    have hcu := V8 hl
    have hcut := V.cut
    have hcut' : Cut (Zn u) := by rw [show Zn u = cq (cz u.p) u.lo u.hi from funext hcu]; exact hcut
    by_cases c0 : Zn u m = 0
    · rw [if_pos c0]
      have hz : Qi u.p m = 0 := by
        have := Dt hcut (q := m) (by rw [← hcu]; exact c0) V.van
        rwa [Qg] at this
      refine ⟨_,rfl,⟨hu.p,.inl ⟨rfl,hz⟩,fun q => ?_,hmg,hmg⟩,by show m - m ≤ _; grind,by show u.lo ≤ m; grind,by show m ≤ u.hi; grind⟩
      rw [Ho rfl,← hu.c]
      exact (Qfd hcut' c0 q).symm
    · rw [if_neg c0]
      by_cases c1 : Zn u m = -1
      · rw [if_pos c1]
        have hv : vv L m = vv L u.hi := V.eq_hi hl1 (Rat.le_of_lt hl2) (by rw [← hcu,c1]; decide)
        have V' : Vt (cz u.p) L u.lo m := ⟨V.s,hl1,by rw [hv]; exact V.v⟩
        refine ⟨_,rfl,⟨hu.p,.inr ⟨L,V'⟩,fun q => ?_,Qa0 hu.l,hmg⟩,by show m - u.lo ≤ _; grind,Rat.le_refl,by show m ≤ u.hi; grind⟩
        rw [V8 hl1,← hu.c,hcu]
        exact V.uniq V'.cut (Uy Rat.le_refl) (by rw [M5 hl1 hl2]; decide) V'.van q
      · rw [if_neg c1]
        have c2 : Zn u m = 1 := by rcases hcut'.val m with h | h | h <;> omega
        have hv : vv L m = vv L u.lo := V.eq_lo hl1 (Rat.le_of_lt hl2) (by rw [← hcu]; exact c2)
        have V' : Vt (cz u.p) L m u.hi := ⟨V.s,hl2,by rw [hv]; exact V.v⟩
        refine ⟨_,rfl,⟨hu.p,.inr ⟨L,V'⟩,fun q => ?_,hmg,Qa0 hu.h⟩,by show u.hi - m ≤ _; grind,by show u.lo ≤ m; grind,Rat.le_refl⟩
        rw [V8 hl2,← hu.c,hcu]
        exact V.uniq V'.cut (Uy (by grind)) V'.hi1 V'.van q
end Orq

namespace Orq
open Orr Go
def Lp (a b : Tm) : Prop := ∃ q,Zn a q = -1 ∧ Zn b q = 1
def TEq (a b : Tm) : Prop := ∀ q,Zn a q = Zn b q
theorem tri {a b : Tm} (ha : Cut (Zn a)) (hb : Cut (Zn b)) : Lp a b ∨ TEq a b ∨ Lp b a := by
  rcases Classical.em (TEq a b) with h | h
  · exact .inr (.inl h)
  · obtain ⟨q,hq⟩ := Classical.not_forall.1 h
    obtain ⟨r,⟨h1,h2⟩ | ⟨h1,h2⟩⟩ := Qfc ha hb hq
    · exact .inl ⟨r,h1,h2⟩
    · exact .inr (.inr ⟨r,h2,h1⟩)
theorem Qde {a b : Tm} (ha : Cut (Zn a)) (hb : Cut (Zn b)) (h : Lp a b) (h' : Lp b a) : False := by
  obtain ⟨q,q1,q2⟩ := h
  obtain ⟨r,r1,r2⟩ := h'
  have := ha.lt r2 q1
  have := hb.lt q2 r1
  grind
theorem Qgv {p : List Int} (k : Nat) : (p.getD k 0).natAbs ≤ 2 ^ Zm p := by
  have h : Qm (p.getD k 0) ≤ Zm p := by
    have key : ∀ (l : List Int) (n : Nat),n ≤ l.foldl (fun n z => max n (Qm z)) n ∧ ∀ z ∈ l,Qm z ≤ l.foldl (fun n z => max n (Qm z)) n := by
      intro l
      induction l with
      | nil => exact fun n => ⟨Nat.le_refl _,fun z hz => by cases hz⟩
      |
       cons y l ih =>
       intro n
       obtain ⟨i1,i2⟩ := ih (max n (Qm y))
       refine ⟨by simp only [List.foldl_cons]; omega,fun z hz => ?_⟩
       simp only [List.foldl_cons]
       rcases List.mem_cons.1 hz with rfl | hz
       · omega
       · exact i2 z hz
    exact Qp (s := Zm p) (fun z hz => (key p 0).2 z hz) k
  rw [Jq] at h; omega
theorem Q2c {s : Nat} : ∀ (B : List Int),(∀ z ∈ B,z.natAbs ≤ 2 ^ s) → gB B ≤ 2 ^ (s + (B.length - 1))
  | [],_ => Nat.zero_le _
  |
   c :: B,h => by
   have h1 := h c (List.mem_cons_self ..)
   have h2 := Q2c B fun z hz => h z (List.mem_cons_of_mem _ hz)
   simp only [gB,List.length_cons,Nat.add_sub_cancel]
   have h3 : 2 ^ s ≤ 2 ^ (s + B.length) := Nat.pow_le_pow_right (by decide) (by omega)
   cases B with
   | nil => simp only [gB,List.length_nil] at *; omega
   |
    cons d B =>
    have h4 : 2 ^ (s + (d :: B).length) = 2 * 2 ^ (s + ((d :: B).length - 1)) := by
      rw [Nat.mul_comm,← Nat.pow_succ]; congr 1
    rw [h4]; omega
def Jb (A B : List Int) : Nat := (Zm A + Zm B + (A.length + B.length) + 8) * (2 * (A.length + B.length - 2) - 1)
theorem Qtg {A B : List Int} (tA : Qj A) (tB : Qj B) (nA : A.length ≤ 9) (nB : B.length ≤ 9) (lA : 2 ≤ A.length) (lB : 2 ≤ B.length) {R d : Rat} (hR : 1 ≤ R) (dp : 0 < d)
    (hs : ∀ e : Rat,0 < e → ∃ q r,Ql q ≤ R ∧ Ql r ≤ R ∧ d ≤ Ql (q - r) ∧ Ql (q - r) * ((2 ^ (Jb A B + 1) : Nat) : Rat) ≤ 1 ∧ Ql (Qi A q) < e ∧ Ql (Qi B r) < e) : False := by
  obtain ⟨a,ha⟩ : ∃ a,A.length = a + 1 := ⟨A.length - 1,by omega⟩
  obtain ⟨b,hb⟩ : ∃ b,B.length = b + 1 := ⟨B.length - 1,by omega⟩
  obtain ⟨s,hsd⟩ : ∃ s,s = Zm A + Zm B + b := ⟨_,rfl⟩
  obtain ⟨N,hN⟩ : ∃ N,b * (2 * (a * b)) + a * (2 * (a * b) - b) = N := ⟨_,rfl⟩
  have hNt : N ≤ 2 ^ (a + 9) := by
    rw [← hN]
    have hab : ∀ a b : Fin 9,b.1 * (2 * (a.1 * b.1)) + a.1 * (2 * (a.1 * b.1) - b.1) ≤ 2 ^ (a.1 + 9) := by decide
    exact hab ⟨a,by omega⟩ ⟨b,by omega⟩
  have hK : Jb A B = (s + a + 10) * (2 * (a + b - 1) + 1) := by
    unfold Jb
    rw [ha,hb,hsd,show a + 1 + (b + 1) - 2 = a + b by omega,show 2 * (a + b) - 1 = 2 * (a + b - 1) + 1 by omega]
    congr 1; omega
  have h0A : A.getD a 0 ≠ 0 := by have := Xw tA (by omega); rwa [ha] at this
  have h0B : B.getD b 0 ≠ 0 := by have := Xw tB (by omega); rwa [hb] at this
  have hp : ∀ m,1 ≤ 2 ^ m := fun m => Nat.pow_pos (by decide)
  refine Q35 (N := N) (D := 2 ^ (Jb A B - 1)) ha hb h0A h0B (by omega) (by omega) (h := 2 ^ s) (hp s) (fun k => Nat.le_trans (Qgv k) (Nat.pow_le_pow_right (by decide) (by omega))) ?_ hN ?_ hR dp fun e ep => ?_
  · refine Nat.le_trans (Q2c (s := Zm B) B fun z hz => ?_) (Nat.pow_le_pow_right (by decide) (by omega))
    obtain ⟨i,hi⟩ := List.mem_iff_getElem?.1 hz
    have := Qgv (p := B) i
    rwa [List.getD_eq_getElem?_getD,hi] at this
  · have h1 : 2 * (N * 2 ^ s) ≤ 2 ^ (s + a + 10) := by
      have : N * 2 ^ s ≤ 2 ^ (a + 9) * 2 ^ s := Nat.mul_le_mul_right _ hNt
      rw [← Nat.pow_add] at this
      rw [show s + a + 10 = (a + 9 + s) + 1 by omega,Nat.pow_succ]; omega
    have h2 : N * 2 ^ s ≤ 2 ^ (s + a + 9) := by
      rw [show s + a + 9 = (a + 9) + s by omega,Nat.pow_add]; exact Nat.mul_le_mul_right _ hNt
    have h3 := Nat.pow_le_pow_left h1 (2 * (a + b - 1))
    have h4 := Nat.mul_le_mul h2 h3
    rw [← Nat.pow_mul,← Nat.pow_add] at h4
    rw [← Nat.mul_assoc]
    refine Nat.le_trans h4 (Nat.pow_le_pow_right (by decide) ?_)
    rw [hK,Nat.mul_add,Nat.mul_one]; omega
  · obtain ⟨q,r,h1,h2,h3,h4,h5,h6⟩ := hs e ep
    refine ⟨q,r,h1,h2,h3,?_,h5,h6⟩
    have hK1 : 1 ≤ Jb A B := by
      rw [hK]; exact Nat.mul_pos (by omega) (by omega)
    have e1 : 2 ^ (Jb A B + 1) = 4 * 2 ^ (Jb A B - 1) := by
      obtain ⟨m,hm⟩ : ∃ m,Jb A B = m + 1 := ⟨Jb A B - 1,by omega⟩
      rw [hm,Nat.add_sub_cancel,Nat.pow_succ,Nat.pow_succ]; omega
    rw [e1] at h4
    push_cast at h4 ⊢
    exact h4
theorem Hv.lo' {t : Tm} {D M k : Nat} {u : Tm} (h : Hv t D M k u) : Zn t u.lo = 1 ∨ Zn t u.lo = 0 ∧ u.lo = u.hi := by
  rw [← h.c]
  rcases h.i with ⟨e,_⟩ | ⟨L,V⟩
  · exact .inr ⟨by rw [Ho e,K8],e⟩
  · exact .inl (by rw [V8 V.l]; exact Uy Rat.le_refl)
theorem Hv.hi' {t : Tm} {D M k : Nat} {u : Tm} (h : Hv t D M k u) : Zn t u.hi = 0 ∨ Zn t u.hi = -1 := by
  rw [← h.c]
  rcases h.i with ⟨e,_⟩ | ⟨L,V⟩
  · exact .inl (by rw [Ho e,e,K8])
  · rw [V8 V.l]
    have := V.hi1
    rcases V.cut.val u.hi with h | h | h <;> omega
theorem Hv.le {t : Tm} {D M k : Nat} {u : Tm} (h : Hv t D M k u) : u.lo ≤ u.hi := by
  rcases h.i with ⟨e,_⟩ | ⟨L,V⟩
  · rw [e]; exact Rat.le_refl
  · exact Rat.le_of_lt V.l
theorem Qth {a b : Tm} (ha : Va a) (hb : Va b) {D M k D' M' k' : Nat} {u v : Tm} (hu : Hv a D M k u) (hv : Hv b D' M' k' v) (h : Lp a b) : 1 < (v.hi - u.lo) * ((2 ^ (Jb a.p b.p + 1) : Nat) : Rat) := by
  rcases Qy ((v.hi - u.lo) * ((2 ^ (Jb a.p b.p + 1) : Nat) : Rat)) 1 with hw | hw
  · exfalso
    have ca := ha.cut
    have cb := hb.cut
    obtain ⟨m,m1,m2⟩ := h
    obtain ⟨m',hm',m3⟩ := ca.dn m m1
    have hpow : (0 : Rat) ≤ ((2 ^ (Jb a.p b.p + 1) : Nat) : Rat) := Rat.natCast_nonneg
    obtain ⟨R,hR⟩ : ∃ R,R = Ql u.lo + Ql m' + Ql m + Ql v.hi + 1 := ⟨_,rfl⟩
    have n1 := Z5 u.lo; have n2 := Z5 m'; have n3 := Z5 m; have n4 := Z5 v.hi
    refine Qtg (R := R) (d := m - m') ha.tr hb.tr ha.n hb.n ha.n2 hb.n2 (by grind) (by grind) fun e ep => ?_
    -- q near a,at most m',at least u.lo
    obtain ⟨q,q1,q2,q3⟩ : ∃ q,u.lo ≤ q ∧ q ≤ m' ∧ Ql (Qi a.p q) < e := by
      rcases hu.lo' with h1 | ⟨h1,_⟩
      · obtain ⟨x,y,hx,hy,hq⟩ := ha.van e ep
        rcases Qy x u.lo with e1 | e1
        · exact ⟨u.lo,Rat.le_refl,Rat.le_of_lt (ca.lt h1 m3),by rw [← Qg]; exact hq u.lo e1 (Rat.le_of_lt (ca.lt h1 hy))⟩
        · exact ⟨x,Rat.le_of_lt e1,Rat.le_of_lt (ca.lt hx m3),by rw [← Qg]; exact hq x Rat.le_refl (Rat.le_of_lt (ca.lt hx hy))⟩
      · refine ⟨u.lo,Rat.le_refl,?_,by rw [← Qg,Dt ca h1 ha.van,Xf]; exact ep⟩
        rcases Qy u.lo m' with e1 | e1
        · exact e1
        · have := ca.mono m' u.lo e1 (by omega); omega
    obtain ⟨r,r1,r2,r3⟩ : ∃ r,r ≤ v.hi ∧ m ≤ r ∧ Ql (Qi b.p r) < e := by
      rcases hv.hi' with h1 | h1
      · refine ⟨v.hi,Rat.le_refl,?_,by rw [← Qg,Dt cb h1 hb.van,Xf]; exact ep⟩
        rcases Qy m v.hi with e1 | e1
        · exact e1
        · have := cb.mono v.hi m e1 (by omega); omega
      · obtain ⟨x,y,hx,hy,hq⟩ := hb.van e ep
        rcases Qy v.hi y with e1 | e1
        · exact ⟨v.hi,Rat.le_refl,Rat.le_of_lt (cb.lt m2 h1),by rw [← Qg]; exact hq v.hi (Rat.le_of_lt (cb.lt hx h1)) e1⟩
        · exact ⟨y,Rat.le_of_lt e1,Rat.le_of_lt (cb.lt m2 hy),by rw [← Qg]; exact hq y (Rat.le_of_lt (cb.lt hx hy)) Rat.le_refl⟩
    have e1 : Ql (q - r) = r - q := by unfold Ql; split <;> grind
    have b1 : Ql q ≤ R := by
      have := Ni (R := R) (x := u.lo) (y := m') (t := q) (by grind) (by grind) q1 q2; exact this
    have b2 : Ql r ≤ R := by
      have := Ni (R := R) (x := m) (y := v.hi) (t := r) (by grind) (by grind) r2 r1; exact this
    refine ⟨q,r,b1,b2,by rw [e1]; grind,?_,q3,r3⟩
    rw [e1]
    have := Rat.mul_le_mul_of_nonneg_right (show r - q ≤ v.hi - u.lo by grind) hpow
    exact Rat.le_trans this hw
  · exact hw
theorem Qex {a b : Tm} (ha : Va a) (hb : Va b) {D M k D' M' k' : Nat} {u v : Tm} (hu : Hv a D M k u) (hv : Hv b D' M' k' v) (hne : ¬ TEq a b) (h : Kv u v = true) : Lp a b := by
  have h1 := (of_decide_eq_true h).1
  have h1 := Qcn.1 h1
  rcases tri ha.cut hb.cut with h2 | h2 | ⟨m,m1,m2⟩
  · exact h2
  · exact absurd h2 hne
  · exfalso
    have e1 : m < u.hi := by
      rcases Qy u.hi m with e | e
      · rcases Classical.em (u.hi = m) with e' | e'
        · have := hu.hi'; rw [e'] at this; omega
        · have := ha.cut.mono u.hi m (by grind) (by have := hu.hi'; omega); omega
      · exact e
    have e2 : v.lo < m := by
      rcases Qy m v.lo with e | e
      · rcases Classical.em (m = v.lo) with e' | e'
        · have := hv.lo'; rw [← e'] at this; omega
        · have := hb.cut.mono m v.lo (by grind) (by omega)
          have := hv.lo'; omega
      · exact e
    grind
theorem Qm1 {a b : Tm} (ha : Va a) (hb : Va b) {D M k D' M' k' : Nat} {u v : Tm} (hu : Hv a D M k u) (hv : Hv b D' M' k' v) (hlt : Lp a b) (h : Kv u v ≠ true) : v.lo ≤ u.hi := by
  rcases Qy v.lo u.hi with e | e
  · exact e
  · refine absurd (decide_eq_true ⟨Qcn.2 (Rat.le_of_lt e),fun h' => ?_⟩) h
    have := Qlq.1 h'.2; grind
theorem Qgr (m : Nat) : ((2 ^ (m + 1) : Nat) : Rat) = 2 * ((2 ^ m : Nat) : Rat) := by rw [Nat.pow_succ]; push_cast; grind
def Q2w (a b : Tm) (r : Tm × Tm × Int) : Prop := r.2.2 = -1 ∧ Lp a b ∨ r.2.2 = 1 ∧ Lp b a
theorem Qo7 (A B : List Int) : Jb A B = Jb B A := by unfold Jb; rw [Nat.add_comm A.length,Nat.add_comm (Zm A)]
theorem Q53 {a b : Tm} (ha : Va a) (hb : Va b) (hne : ¬ TEq a b) {D M D' M' : Nat} (hM : 0 < M) (hM' : 0 < M') : ∀ (i j : Nat) (u v : Tm) (k k' : Nat) (W : Rat),2 * i + 1 ≤ j → Hv a D M k u → Hv b D' M' k' v → Qm (D : Int) + Qm (M : Int) + (k + j) ≤ 16777216 → Qm (D' : Int) + Qm (M' : Int) + (k' + j) ≤ 16777216 → u.hi - u.lo ≤ W → v.hi - v.lo ≤ W → 2 * W * ((2 ^ (Jb a.p b.p + 1) : Nat) : Rat) ≤ ((2 ^ i : Nat) : Rat) → ∃ r,On j u v = some r ∧ Q2w a b r := by
  intro i
  -- one look,one step
  have step : ∀ (j : Nat) (u v : Tm) (k k' : Nat),Hv a D M k u → Hv b D' M' k' v → Qm (D : Int) + Qm (M : Int) + (k + (j + 1)) ≤ 16777216 → Qm (D' : Int) + Qm (M' : Int) + (k' + (j + 1)) ≤ 16777216 → (∃ r,On (j + 1) u v = some r ∧ Q2w a b r) ∨ (Kv u v ≠ true ∧ Kv v u ≠ true ∧ ∃ u' v' k1 k1',On (j + 1) u v = On j u' v' ∧ Hv a D M k1 u' ∧ Hv b D' M' k1' v' ∧ k1 ≤ k + 1 ∧ k1' ≤ k' + 1 ∧ (v.hi - v.lo ≤ u.hi - u.lo ∧ u'.hi - u'.lo ≤ (u.hi - u.lo) / 2 ∧ v' = v ∨ u.hi - u.lo ≤ v.hi - v.lo ∧ v'.hi - v'.lo ≤ (v.hi - v.lo) / 2 ∧ u' = u)) := by
    intro j u v k k' hu hv hs hs'
    by_cases h1 : Kv u v = true
    · exact .inl ⟨(u,v,-1),by simp only [On]; rw [if_pos h1],.inl ⟨rfl,Qex ha hb hu hv hne h1⟩⟩
    by_cases h2 : Kv v u = true
    · exact .inl ⟨(u,v,1),by simp only [On]; rw [if_neg h1,if_pos h2],.inr ⟨rfl,Qex hb ha hv hu (fun h => hne fun q => (h q).symm) h2⟩⟩
    refine .inr ⟨h1,h2,?_⟩
    by_cases h3 : 0 ≤ Zu (Oa u.hi u.lo) (Oa v.hi v.lo)
    · obtain ⟨x,x1,x2,x3,_⟩ := Qc1 hu hM (by omega)
      refine ⟨x,v,k + 1,k',?_,x2,hv,by omega,by omega,.inl ⟨?_,x3,rfl⟩⟩
      · simp only [On]; rw [if_neg h1,if_neg h2,if_pos h3,x1]; rfl
      · have := Ef.1 h3; rwa [Ex,Ex] at this
    · obtain ⟨x,x1,x2,x3,_⟩ := Qc1 hv hM' (by omega)
      refine ⟨u,x,k,k' + 1,?_,hu,x2,by omega,by omega,.inr ⟨?_,x3,rfl⟩⟩
      · simp only [On]; rw [if_neg h1,if_neg h2,if_neg h3,x1]; rfl
      · rcases Qy (u.hi - u.lo) (v.hi - v.lo) with e | e
        · exact e
        · refine absurd (Ef.2 ?_) h3
          rw [Ex,Ex]; exact Rat.le_of_lt e
  induction i with
  |
   zero =>
   intro j u v k k' W hj hu hv hs hs' hW hW' hK
   obtain ⟨j,rfl⟩ : ∃ m,j = m + 1 := ⟨j - 1,by omega⟩
   rcases step j u v k k' hu hv hs hs' with h | ⟨h1,h2,_⟩
   · exact h
   · exfalso
     have hpow : (0 : Rat) ≤ ((2 ^ (Jb a.p b.p + 1) : Nat) : Rat) := Rat.natCast_nonneg
     rw [Nat.pow_zero] at hK
     rcases tri ha.cut hb.cut with h3 | h3 | h3
     · have h4 := Qm1 ha hb hu hv h3 h1
       have h5 := Qth ha hb hu hv h3
       have h6 := Rat.mul_le_mul_of_nonneg_right (show v.hi - u.lo ≤ 2 * W by clear step; grind) hpow
       have h7 : ((1 : Nat) : Rat) = 1 := rfl
       rw [h7] at hK
       clear step; grind
     · exact hne h3
     · have h4 := Qm1 hb ha hv hu h3 h2
       have h5 := Qth hb ha hv hu h3
       rw [Qo7] at h5
       have h6 := Rat.mul_le_mul_of_nonneg_right (show u.hi - v.lo ≤ 2 * W by clear step; grind) hpow
       have h7 : ((1 : Nat) : Rat) = 1 := rfl
       rw [h7] at hK
       clear step; grind
  |
   succ i ih =>
   intro j u v k k' W hj hu hv hs hs' hW hW' hK
   obtain ⟨j,rfl⟩ : ∃ m,j = m + 2 := ⟨j - 2,by omega⟩
   have hd : ∀ x : Rat,x / 2 * 2 = x := fun x => Zr (by decide)
   rcases step (j + 1) u v k k' hu hv hs hs' with h | ⟨_,_,u1,v1,k1,k1',e1,hu1,hv1,hk1,hk1',hw1⟩
   · exact h
   · rw [e1]
     rcases step j u1 v1 k1 k1' hu1 hv1 (by omega) (by omega) with h | ⟨_,_,u2,v2,k2,k2',e2,hu2,hv2,hk2,hk2',hw2⟩
     · exact h
     · rw [e2]
       have a1 := hd (u.hi - u.lo); have a2 := hd (v.hi - v.lo); have a3 := hd (u1.hi - u1.lo); have a4 := hd (v1.hi - v1.lo); have a5 := hd W
       have b1 := hu.le; have b2 := hv.le; have b3 := hu1.le; have b4 := hv1.le; have b5 := hu2.le; have b6 := hv2.le
       have hww : u2.hi - u2.lo ≤ W / 2 ∧ v2.hi - v2.lo ≤ W / 2 := by
         clear step ih
         rcases hw1 with ⟨c1,c2,rfl⟩ | ⟨c1,c2,rfl⟩ <;> rcases hw2 with ⟨d1,d2,rfl⟩ | ⟨d1,d2,rfl⟩ <;> constructor <;> grind
       refine ih j u2 v2 k2 k2' (W / 2) (by omega) hu2 hv2 (by omega) (by omega) hww.1 hww.2 ?_
       rw [Qgr i] at hK
       have : 2 * (W / 2) * ((2 ^ (Jb a.p b.p + 1) : Nat) : Rat) * 2 = 2 * W * ((2 ^ (Jb a.p b.p + 1) : Nat) : Rat) := by clear step ih hw1 hw2; grind
       clear step ih hw1 hw2; grind
end Orq

namespace Orq
open Orr Go
def CmpOk (a b : Tm) (c : Int) : Prop := c = -1 ∧ Lp a b ∨ c = 0 ∧ TEq a b ∨ c = 1 ∧ Lp b a
theorem Va.hv0 {t : Tm} (h : Va t) : ∃ D M k,Hv t D M k t ∧ 0 < M ∧ Qm (D : Int) + Qm (M : Int) + k ≤ 1000000 := by
  obtain ⟨D,M,k,h1,h2,h3,h4⟩ := h.g
  exact ⟨D,M,k,⟨rfl,h.i,fun _ => rfl,h1,h2⟩,h3,h4⟩
theorem Qjo {a : Tm} (ha : Va a) (hp : a.point = true) (q : Rat) : Zn a q = Zu a.lo q := Ho (ha.pt hp).1 q
theorem Qsm {a b : Tm} (hb : Va b) {x : Rat} (hx : ∀ q,Zn a q = Zu x q) : CmpOk a b (-Zn b x) := by
  have cb := hb.cut
  rcases cb.val x with h | h | h
  · obtain ⟨q,q1,q2⟩ := cb.up x h
    refine .inl ⟨by omega,q,?_,q2⟩
    rw [hx]; rcases Gj x q with ⟨e,e'⟩ | ⟨e,e'⟩ | ⟨e,e'⟩ <;> grind
  · exact .inr (.inl ⟨by omega,fun q => by rw [hx,Qfd cb h]⟩)
  · obtain ⟨q,q1,q2⟩ := cb.dn x h
    refine .inr (.inr ⟨by omega,q,q2,?_⟩)
    rw [hx]; rcases Gj x q with ⟨e,e'⟩ | ⟨e,e'⟩ | ⟨e,e'⟩ <;> grind
theorem CmpOk.symm {a b : Tm} {c : Int} (h : CmpOk a b c) : CmpOk b a (-c) := by
  rcases h with ⟨h1,h2⟩ | ⟨h1,h2⟩ | ⟨h1,h2⟩
  · exact .inr (.inr ⟨by omega,h2⟩)
  · exact .inr (.inl ⟨by omega,fun q => (h2 q).symm⟩)
  · exact .inl ⟨by omega,h2⟩
theorem Q7i : Szz 9 1000 := ⟨by decide,by decide⟩
theorem Ng (g : List Int) (lo hi : Rat) : Nf g lo hi = true ↔ Qiy (cz g) lo hi := by
  unfold Nf Qiy
  rw [decide_eq_true_iff,Ki,Qf6,Qg]
theorem Qft {g : List Int} (tg : Qj g) (hn : g.length ≠ 0) {lo hi : Rat} (h : Qiy (cz g) lo hi) : 1 < g.length := by
  rcases Nat.lt_or_ge 1 g.length with e | e
  · exact e
  · exfalso
    obtain ⟨c,rfl⟩ : ∃ c,g = [c] := List.length_eq_one_iff.1 (by omega)
    have hc : c ≠ 0 := by have := Xw tg (by simp); simpa using this
    have hv : ∀ t,ev (cz [c]) t = (c : Rat) := fun t => by rw [Qg]; simp only [Qi]; grind
    have hs : Qq (c : Rat) ≠ 0 := fun h => P8 hc (Za.1 h)
    unfold Qiy at h
    rw [hv,U6 (by rw [hv]; exact hs),hv] at h
    rcases h with h | h
    · exact hs h
    · exact h rfl
theorem In {q : Rat} : Ql q ≤ ((2 ^ Qm q.num : Nat) : Rat) := by
  have h1 : Qm q.num ≤ Qm q.num := Nat.le_refl _
  rw [Jq] at h1
  have e : (q.num : Rat) = q * (q.den : Rat) := by
    have : (q.num : Rat) / (((q.den : Int)) : Rat) = q := by rw [Xb,Rat.num_divInt_den]
    have h2 : (q.num : Rat) / (q.den : Rat) * (q.den : Rat) = q.num := Rat.div_mul_cancel (by have := nat_pos q.den_pos; grind)
    rw [show (q.num : Rat) / (q.den : Rat) = q from this] at h2; exact h2.symm
  have hd : (1 : Rat) ≤ (q.den : Rat) := by
    have : ((1 : Nat) : Rat) ≤ (q.den : Rat) := Rat.natCast_le_natCast.2 q.den_pos
    exact this
  have h2 : Ql q ≤ Ql (q.num : Rat) := by
    rw [e,Fp]
    have : Ql (q.den : Rat) = (q.den : Rat) := by unfold Ql; rw [if_neg (by grind)]
    rw [this]
    have := Kd (a := Ql q) (c := 1) (Z5 q) Rat.le_refl (by decide) hd
    grind
  rw [Jn] at h2
  exact Rat.le_trans h2 (Rat.natCast_le_natCast.2 (Nat.le_of_lt h1))
theorem Du {a : Tm} {w : Nat} (h : Qm a.lo.num + Qm a.hi.num ≤ w) : a.hi - a.lo ≤ ((2 ^ (w + 1) : Nat) : Rat) := by
  have h1 := In (q := a.lo)
  have h2 := In (q := a.hi)
  have h3 : ((2 ^ Qm a.lo.num : Nat) : Rat) ≤ ((2 ^ w : Nat) : Rat) := Rat.natCast_le_natCast.2 (Nat.pow_le_pow_right (by decide) (by omega))
  have h4 : ((2 ^ Qm a.hi.num : Nat) : Rat) ≤ ((2 ^ w : Nat) : Rat) := Rat.natCast_le_natCast.2 (Nat.pow_le_pow_right (by decide) (by omega))
  rw [Qgr]
  rw [Yn] at h1 h2
  grind
theorem G8 {p : List Int} {s : Nat} (h : Bd s p) : Zm p ≤ s := by
  have := Ym h p.length; rwa [List.take_length] at this
theorem Qwl {a b : Tm} (ha : Va a) (hb : Va b) : J9 a b ≤ 9000000 := by
  have q1 := ha.qs; have q2 := hb.qs
  have l1 := ha.n; have l2 := hb.n
  have s1 := G8 ha.b; have s2 := G8 hb.b
  have b1 := q1.1.1; have b2 := q1.2.1; have b3 := q2.1.1; have b4 := q2.2.1
  have : 4 * (a.p.length + b.p.length) * (Zm a.p + Zm b.p + (a.p.length + b.p.length) + 8) ≤ 4 * 18 * 2100 := Nat.mul_le_mul (by omega) (by omega)
  unfold J9; omega
theorem Qqi {a b : Tm} (ha : Va a) (hb : Va b) (hne : ¬ TEq a b) : ∃ r,On (J9 a b) a b = some r ∧ Q2w a b r := by
  obtain ⟨D,M,k,h1,h2,h3⟩ := ha.hv0
  obtain ⟨D',M',k',h1',h2',h3'⟩ := hb.hv0
  have hst := Qwl ha hb
  obtain ⟨w,hw⟩ : ∃ w,w = Qm a.lo.num + Qm a.hi.num + Qm b.lo.num + Qm b.hi.num := ⟨_,rfl⟩
  obtain ⟨K,hK⟩ : ∃ K,K = Zm a.p + Zm b.p + (a.p.length + b.p.length) + 8 := ⟨_,rfl⟩
  obtain ⟨n,hn⟩ : ∃ n,n = a.p.length + b.p.length := ⟨_,rfl⟩
  have l1 := ha.n2; have l2 := hb.n2
  have hsteps : J9 a b = 64 + 2 * w + 4 * n * K := by unfold J9; rw [hw,hK,hn]
  have hg : Jb a.p b.p = K * (2 * (n - 2) - 1) := by unfold Jb; rw [hK,hn]
  have hgle : Jb a.p b.p + 5 * K ≤ 2 * n * K := by
    rw [hg,Nat.mul_comm K,← Nat.add_mul]
    exact Nat.mul_le_mul_right _ (by omega)
  have hKp : 8 ≤ K := by omega
  refine Q53 ha hb hne h2 h2' (31 + w + 2 * n * K) (J9 a b) a b k k' ((2 ^ (w + 1) : Nat) : Rat) ?_ h1 h1' (by omega) (by omega) (Du (by omega)) (Du (by omega)) ?_
  · rw [hsteps,Nat.mul_add,Nat.mul_assoc 4,Nat.mul_assoc 2 n]; omega
  · have e : 2 * (2 ^ (w + 1)) * (2 ^ (Jb a.p b.p + 1)) ≤ 2 ^ (31 + w + 2 * n * K) := by
      rw [Nat.mul_comm 2,← Nat.pow_succ,← Nat.pow_add]
      exact Nat.pow_le_pow_right (by decide) (by omega)
    have := Rat.natCast_le_natCast.2 e
    push_cast at this ⊢
    exact this
theorem Qlp {a b : Tm} (ha : Va a) (hb : Va b) : ∃ c,Oq a b = some c ∧ CmpOk a b c := by
  unfold Oq
  by_cases pa : a.point = true
  · rw [if_pos pa]
    exact ⟨_,rfl,Qsm hb (Qjo ha pa)⟩
  rw [if_neg pa]
  by_cases pb : b.point = true
  · rw [if_pos pb]
    have := (Qsm ha (Qjo hb pb)).symm
    rw [Int.neg_neg] at this
    exact ⟨_,rfl,this⟩
  rw [if_neg pb]
  have pa : a.point = false := by simpa using pa
  have pb : b.point = false := by simpa using pb
  obtain ⟨L,V⟩ := ha.iv pa
  obtain ⟨L',V'⟩ := hb.iv pb
  have eqa : ∀ q,Zn a q = cq (cz a.p) a.lo a.hi q := V8 V.l
  have eqb : ∀ q,Zn b q = cq (cz b.p) b.lo b.hi q := V8 V'.l
  obtain ⟨lo,hlo⟩ : ∃ lo,lo = if 0 < Zu b.lo a.lo then b.lo else a.lo := ⟨_,rfl⟩
  obtain ⟨hi,hhi⟩ : ∃ hi,hi = if Zu b.hi a.hi < 0 then b.hi else a.hi := ⟨_,rfl⟩
  show ∃ c,(if Zu (if 0 < Zu b.lo a.lo then b.lo else a.lo) (if Zu b.hi a.hi < 0 then b.hi else a.hi) < 0 then _ else _) = some c ∧ _
  rw [← hlo,← hhi]
  have e1 : (0 < Zu b.lo a.lo) = (a.lo < b.lo) := propext Ui
  have e2 : (Zu b.hi a.hi < 0) = (b.hi < a.hi) := propext Wm
  have e3 : (Zu lo hi < 0) = (lo < hi) := propext Wm
  simp only [e1] at hlo
  simp only [e2] at hhi
  simp only [e3]
  obtain ⟨g,g1,g2,g3,g4⟩ := Qto Q7i ha.tr hb.tr ha.n hb.n ha.b hb.b (by have := ha.n2; omega)
  obtain ⟨U,W,hc⟩ := g2.c
  obtain ⟨u,hu⟩ := g2.da
  obtain ⟨u',hu'⟩ := g2.db
  have key := V.same V' (g := cz g) (u := u) (u' := u') (U := U) (W := W) (k := 1) (by decide) hu hu' (fun t => by rw [Qg,Qg,Qg,hc]; grind) (a := lo) (b := hi) (by rw [hlo]; split <;> grind) (by rw [hlo]; split <;> grind) (by rw [hlo]; split <;> simp) (by rw [hhi]; split <;> grind) (by rw [hhi]; split <;> grind) (by rw [hhi]; split <;> simp)
  have hTE : (∀ q,cq (cz a.p) a.lo a.hi q = cq (cz b.p) b.lo b.hi q) ↔ TEq a b := by
    unfold TEq; constructor
    · intro h q; rw [eqa,eqb]; exact h q
    · intro h q; rw [← eqa,← eqb]; exact h q
  rw [hTE] at key
  have fin : ¬ TEq a b → ∃ c,((On (J9 a b) a b).bind fun r => some r.2.2) = some c ∧ CmpOk a b c := fun hne => by
    obtain ⟨r,r1,r2⟩ := Qqi ha hb hne
    refine ⟨r.2.2,by rw [r1]; rfl,?_⟩
    rcases r2 with h | h
    · exact .inl h
    · exact .inr (.inr h)
  by_cases hl : lo < hi
  · rw [if_pos hl,g1]
    show ∃ c,(if 1 < g.length ∧ Nf g lo hi = true then some 0 else (On (J9 a b) a b).bind fun r => some r.2.2) = some c ∧ _
    by_cases hh : Nf g lo hi = true
    · have hq := (Ng g lo hi).1 hh
      rw [if_pos ⟨Qft g2.t g2.n hq,hh⟩]
      exact ⟨0,rfl,.inr (.inl ⟨rfl,key.1 ⟨hl,hq⟩⟩)⟩
    · rw [if_neg fun h => hh h.2]
      exact fin fun h => hh ((Ng g lo hi).2 (key.2 h).2)
  · rw [if_neg hl]
    exact fin fun h => hl (key.2 h).1
def SgT (p : List Int) (a : Tm) (s : Int) : Prop := s = 0 ∧ Ge (cz p) (Zn a) ∨ s ≠ 0 ∧ NZ (cz p) (Zn a) s
theorem Q41 {p : List Int} {c : Rat → Int} (hc : Cut c) {x : Rat} (h : c x = 0) : Zv p x = 0 ∧ Ge (cz p) c ∨ Zv p x ≠ 0 ∧ NZ (cz p) c (Zv p x) := by
  rw [Ki,← Qg]
  rcases Si hc (cz p) with h1 | ⟨s,hs,h1⟩
  · exact .inl ⟨Za.2 (Dt hc h h1),h1⟩
  · have := Qgg hc h h1
    rw [this]; exact .inr ⟨hs,h1⟩
theorem Hf {l : List (List Int)} {lo hi : Rat} (h : lo ≤ hi) : X3 l lo hi = (vv (l.map cz) lo : Int) - (vv (l.map cz) hi : Int) := by
  unfold X3
  rw [if_neg fun h' => by have := Wm.1 h'; grind,H6,H6]
theorem Q42 {p q : List Int} {L : List (List Rat)} (hp : Qj p) (np : p.length ≤ 9) (lp : 2 ≤ p.length) (hS : Lo (cz q) L) (hpq : Rj (cz q) (cz p)) {a : Tm} (ha : Va a) {s : Int} (hnz : NZ (cz p) (Zn a) s) {D M k : Nat} {x : Tm} (hx : Hv a D M k x) (hl : x.lo < x.hi) (hv : vv L x.lo ≠ vv L x.hi) : 1 < (x.hi - x.lo) * ((2 ^ (Jb a.p p + 1) : Nat) : Rat) := by
  rcases Qy ((x.hi - x.lo) * ((2 ^ (Jb a.p p + 1) : Nat) : Rat)) 1 with hw | hw
  · exfalso
    have ca := ha.cut
    obtain ⟨d,dp,x1,y1,c1,c2,hn⟩ := hnz
    obtain ⟨x2,x12,c3⟩ := ca.up x1 c1
    obtain ⟨y2,y12,c4⟩ := ca.dn y1 c2
    have hpow : (0 : Rat) ≤ ((2 ^ (Jb a.p p + 1) : Nat) : Rat) := Rat.natCast_nonneg
    obtain ⟨z,zp,z1,z2⟩ := min2 (a := x2 - x1) (b := y1 - y2) (by clear hn; grind) (by clear hn; grind)
    obtain ⟨R0,hR0,r1,r2⟩ := Qb7 x.lo x.hi
    obtain ⟨u,hu⟩ := hpq
    refine Qtg (R := R0 + 1) (d := z) ha.tr hp ha.n np ha.n2 lp (by clear hn; grind) zp fun e ep => ?_
    -- q near a
    obtain ⟨q0,q1,q2,q3,q4,q5⟩ : ∃ q0,x.lo ≤ q0 ∧ q0 ≤ x.hi ∧ x2 ≤ q0 ∧ q0 ≤ y2 ∧ Ql (Qi a.p q0) < e := by
      rcases hx.lo' with h1 | ⟨h1,h2⟩
      · obtain ⟨x',y',hx',hy',hq⟩ := ha.van e ep
        obtain ⟨m,m1,m2,m3,m4⟩ : ∃ m,Zn a m = 1 ∧ x.lo ≤ m ∧ x2 ≤ m ∧ x' ≤ m := by
          rcases Qy x.lo x2 with e1 | e1
          · rcases Qy x2 x' with e2 | e2
            · exact ⟨x',hx',by clear hn hq; grind,e2,Rat.le_refl⟩
            · exact ⟨x2,c3,e1,Rat.le_refl,Rat.le_of_lt e2⟩
          · rcases Qy x.lo x' with e2 | e2
            · exact ⟨x',hx',e2,by clear hn hq; grind,Rat.le_refl⟩
            · exact ⟨x.lo,h1,Rat.le_refl,Rat.le_of_lt e1,Rat.le_of_lt e2⟩
        refine ⟨m,m2,?_,m3,Rat.le_of_lt (ca.lt m1 c4),by rw [← Qg]; exact hq m m4 (Rat.le_of_lt (ca.lt m1 hy'))⟩
        rcases hx.hi' with h3 | h3
        · rcases Qy m x.hi with e1 | e1
          · exact e1
          · have := ca.mono x.hi m e1 (by omega); omega
        · exact Rat.le_of_lt (ca.lt m1 h3)
      · exact absurd h2 (by clear hn; grind)
    -- r,a root of p nearly,within the interval
    obtain ⟨b,hb⟩ : ∃ b,b = evB R0 u := ⟨_,rfl⟩
    have hb0 : 0 ≤ b := by rw [hb]; exact Rz hR0 u
    obtain ⟨f,fp,_,hf⟩ := Zs (b := b) (d := if e ≤ d then e else d) hb0 (by split <;> assumption)
    obtain ⟨r,r3,r4,r5⟩ := Qed hS hl hv fp
    have hrR : Ql r ≤ R0 := Ni r1 r2 r3 r4
    have hpr : Ql (Qi p r) < (if e ≤ d then e else d) := by
      rw [← Qg,hu]
      have := Zp (Rat.le_of_lt r5) (D0 hrR u)
      rw [← hb] at this
      exact Rat.not_le.1 fun h => absurd (Rat.le_trans h this) (Rat.not_le.2 hf)
    have hpe : Ql (Qi p r) < e := by split at hpr <;> (clear hn; grind)
    have hpd : Ql (Qi p r) < d := by split at hpr <;> (clear hn; grind)
    have hrout : r < x1 ∨ y1 < r := by
      rcases Qy x1 r with e1 | e1
      · rcases Qy r y1 with e2 | e2
        · have := (hn r e1 e2).2
          rw [Qg] at this
          exact absurd this (Rat.not_le.2 hpd)
        · exact .inr e2
      · exact .inl e1
    have hqr : z ≤ Ql (q0 - r) := by
      clear hn
      rcases hrout with h | h
      · have : Ql (q0 - r) = q0 - r := by unfold Ql; split <;> grind
        rw [this]; grind
      · have : Ql (q0 - r) = r - q0 := by unfold Ql; split <;> grind
        rw [this]; grind
    have hq0R : Ql q0 ≤ R0 := Ni r1 r2 q1 q2
    refine ⟨q0,r,by clear hn; grind,by clear hn; grind,hqr,?_,q5,hpe⟩
    have h1 : Ql (q0 - r) ≤ x.hi - x.lo := by rw [Yn]; clear hn; constructor <;> grind
    exact Rat.le_trans (Rat.mul_le_mul_of_nonneg_right h1 hpow) hw
  · exact hw
theorem Qv8 {p q : List Int} {l : List (List Int)} (hp : Qj p) (np : p.length ≤ 9) (lp : 2 ≤ p.length) (hS : Lo (cz q) (l.map cz)) (hpq : Rj (cz q) (cz p)) {a : Tm} (ha : Va a) {s : Int} (hnz : NZ (cz p) (Zn a) s) {D M : Nat} (hM : 0 < M) : ∀ (j i : Nat) (x : Tm) (k : Nat) (W : Rat),i + 1 ≤ j → Hv a D M k x → Qm (D : Int) + Qm (M : Int) + (k + j) ≤ 16777216 → x.hi - x.lo ≤ W → W * ((2 ^ (Jb a.p p + 1) : Nat) : Rat) ≤ ((2 ^ i : Nat) : Rat) → ∃ u k',sgF l j x = some u ∧ Hv a D M k' u ∧ (u.point = true ∨ X3 l u.lo u.hi = 0)
  | 0,i,x,k,W,h,_,_,_,_ => by omega
  |
   j + 1,i,x,k,W,hj,hx,hs,hW,hK => by
   simp only [sgF]
   by_cases h : x.point = true ∨ X3 l x.lo x.hi = 0
   · rw [if_pos h]; exact ⟨x,k,rfl,hx,h⟩
   · rw [if_neg h]
     obtain ⟨v,v1,v2,v3,_⟩ := Qc1 hx hM (by omega)
     rw [v1]
     show ∃ u k',sgF l j v = some u ∧ _
     have hpt : ¬ x.hi ≤ x.lo := fun h' => h (.inl (Wc.2 h'))
     have hl : x.lo < x.hi := by grind
     have hvv : vv (l.map cz) x.lo ≠ vv (l.map cz) x.hi := fun h' => h (.inr (by rw [Hf (Rat.le_of_lt hl)]; omega))
     have hg := Q42 hp np lp hS hpq ha hnz hx hl hvv
     have hpow : (0 : Rat) ≤ ((2 ^ (Jb a.p p + 1) : Nat) : Rat) := Rat.natCast_nonneg
     have hd : ∀ x : Rat,x / 2 * 2 = x := fun x => Zr (by decide)
     cases i with
     |
      zero =>
      exfalso
      rw [Nat.pow_zero] at hK
      have := Rat.mul_le_mul_of_nonneg_right hW hpow
      have h7 : ((1 : Nat) : Rat) = 1 := rfl
      rw [h7] at hK
      grind
     |
      succ i =>
      refine Qv8 hp np lp hS hpq ha hnz hM j i v (k + 1) (W / 2) (by omega) v2 (by omega) ?_ ?_
      · have := hd (x.hi - x.lo); have := hd W; grind
      · rw [Qgr i] at hK
        have := hd W
        have : W / 2 * ((2 ^ (Jb a.p p + 1) : Nat) : Rat) * 2 = W * ((2 ^ (Jb a.p p + 1) : Nat) : Rat) := by grind
        grind
theorem Qgm {x y : Rat} : ∀ {ws : List (List Rat)},(∀ w ∈ ws,Qq (ev w x) = Qq (ev w y)) → Qq (ev (Gy ws) x) = Qq (ev (Gy ws) y)
  | [],_ => by simp only [Gy]; rw [Xx,Xx]
  |
   w :: l,h => by
   simp only [Gy]
   rw [Qk,Qk,Jl,Jl,h w (List.mem_cons_self ..),Qgm fun v hv => h v (List.mem_cons_of_mem _ hv)]
theorem Qpn {p q o : List Int} (hpt : Parts p q o) (tp : Qj p) (hp : p.length ≠ 0) {L : List (List Rat)} (hS : Lo (cz q) L) {x y : Rat} (hxy : x < y) (hv : vv L x = vv L y) : ∃ s,s ≠ 0 ∧ ∀ z,x < z → z ≤ y → Qq (Qi p z) = s := by
  obtain ⟨ws,w1,w2⟩ := hpt.ws
  obtain ⟨_,_,_,_,_,p6,p7⟩ := Kh tp hp
  have key : ∀ z,x < z → z ≤ y → ∀ w ∈ ws.map cz,Sm w x z := fun z h1 h2 w hw => by
    obtain ⟨v,hv',rfl⟩ := List.mem_map.1 hw
    obtain ⟨u,hu⟩ := (w1 v hv').2
    have a1 := Fe hS h1
    have a2 : vv L y ≤ vv L z := by
      rcases Classical.em (z = y) with e | e
      · rw [e]; exact Nat.le_refl _
      · exact Fe hS (by grind)
    exact Pz hS hu h1 (by omega)
  have hval : ∀ z,Qi p z = (Zy p : Rat) * ev (Gy (ws.map cz)) z := fun z => by rw [p7,w2]
  refine ⟨Qq (Qi p y),fun h0 => ?_,fun z h1 h2 => ?_⟩
  · rw [hval,Jl] at h0
    rcases Int.mul_eq_zero.1 h0 with h | h
    · exact P8 p6 (Za.1 h)
    · have : ∀ l : List (List Rat), (∀ w ∈ l, Qq (ev w y) ≠ 0) → Qq (ev (Gy l) y) ≠ 0 := by
        intro l
        induction l with
        | nil => intro _; simp only [Gy]; rw [Xx]; decide
        |
         cons w l ih =>
         intro h
         simp only [Gy]
         rw [Qk,Jl]
         exact Int.mul_ne_zero (h w (List.mem_cons_self ..)) (ih fun v hv => h v (List.mem_cons_of_mem _ hv))
      refine this _ (fun w hw => ?_) h
      have hs := key y hxy Rat.le_refl w hw
      rw [hs.s]; exact hs.n
  · rw [hval,hval,Jl,Jl,Qgm (y := y) fun w hw => (key z h1 h2 w hw).s.trans (key y hxy Rat.le_refl w hw).s.symm]
theorem Q36 {g p P : List Int} {c : Rat → Int} (hc : Cut c) (hg : Gc g p P) : Ge (cz g) c ↔ Ge (cz p) c ∧ Ge (cz P) c := by
  constructor
  · intro h
    obtain ⟨u,hu⟩ := hg.da
    obtain ⟨v,hv⟩ := hg.db
    exact ⟨Yb hc hu h,Yb hc hv h⟩
  · rintro ⟨h1,h2⟩
    obtain ⟨U,V,hcc⟩ := hg.c
    have a1 : Ge (Zh U (cz p)) c := Yb hc (p := cz p) (q := U) (fun t => by rw [Qk]; grind) h1
    have a2 : Ge (Zh V (cz P)) c := Yb hc (p := cz P) (q := V) (fun t => by rw [Qk]; grind) h2
    exact E6 (fun t => by rw [Qg,hcc,Qk,Qk,Qg,Qg]) a1 a2
theorem Qwf {p : List Int} (hp : Okp 9 900 p) {a : Tm} (ha : Va a) : ∃ s,Qbw p a = some s ∧ SgT p a s := by
  unfold Qbw
  rw [if_neg hp.nz]
  have ca := ha.cut
  by_cases pa : a.point = true
  · rw [if_pos pa]
    exact ⟨_,rfl,Q41 ca (x := a.lo) (by rw [Qjo ha pa,K8])⟩
  rw [if_neg pa]
  have pa : a.point = false := by simpa using pa
  obtain ⟨L,V⟩ := ha.iv pa
  have eqa : ∀ q,Zn a q = cq (cz a.p) a.lo a.hi q := V8 V.l
  obtain ⟨g,g1,g2,g3,g4⟩ := Qto Q7i hp.t ha.tr hp.l ha.n (Qd hp.b (by omega)) ha.b hp.nz
  obtain ⟨u',hu'⟩ := g2.db
  have hhas := V.has hu' (a := a.lo) (b := a.hi) Rat.le_refl V.l Rat.le_refl
  have hvan := Q36 ca g2
  rw [show cq (cz a.p) a.lo a.hi = Zn a from (funext eqa).symm] at hhas
  rw [g1]
  show ∃ s,(if 1 < g.length ∧ Nf g a.lo a.hi = true then some 0 else _) = some s ∧ _
  by_cases hh : Nf g a.lo a.hi = true
  · have hq := (Ng g _ _).1 hh
    rw [if_pos ⟨Qft g2.t g2.n hq,hh⟩]
    exact ⟨0,rfl,.inl ⟨rfl,(hvan.1 (hhas.1 hq).1).1⟩⟩
  · rw [if_neg fun h => hh h.2]
    have hnv : ¬ Ge (cz p) (Zn a) := fun h => hh ((Ng g _ _).2 (hhas.2 ⟨hvan.2 ⟨h,ha.van⟩,by rw [eqa]; exact Uy Rat.le_refl,by rw [eqa]; exact V.hi1⟩))
    rcases Si ca (cz p) with h | ⟨s,hs0,hnz⟩
    · exact absurd h hnv
    obtain ⟨q,o,q1,q2,hpt⟩ := Quq hp
    obtain ⟨q',l,r1,r2,hS,hl0⟩ := chain_ok hp
    rw [q1] at r1
    injection r1 with r1
    subst r1
    rw [r2]
    show ∃ s,((sgF (q :: l) (64 + 2 * (Qm a.lo.num + Qm a.hi.num) + 4 * (a.p.length + p.length) * (Zm a.p + Zm p + (a.p.length + p.length) + 8)) a).bind fun x => some (Zv p x.hi)) = some s ∧ _
    obtain ⟨w,hw⟩ : ∃ w,w = Qm a.lo.num + Qm a.hi.num := ⟨_,rfl⟩
    obtain ⟨K,hK⟩ : ∃ K,K = Zm a.p + Zm p + (a.p.length + p.length) + 8 := ⟨_,rfl⟩
    obtain ⟨n,hn⟩ : ∃ n,n = a.p.length + p.length := ⟨_,rfl⟩
    rw [← hw,← hK,← hn]
    obtain ⟨gg,sq⟩ := hpt.sq
    obtain ⟨_,_,_,_,_,pf0,pfe⟩ := Kh hp.t hp.nz
    have hpq : Rj (cz q) (cz p) := ⟨Wv (Zy p) (cz gg),fun t => by rw [Qg,Qg,Q5,Qg,pfe,sq.e]; grind⟩
    obtain ⟨D,M,k,h1,h2,h3⟩ := ha.hv0
    have b1 := ha.qs.1.1; have b2 := ha.qs.2.1
    have l1 := ha.n; have l2 := hp.l; have l3 := ha.n2
    have s1 := G8 ha.b; have s2 := G8 hp.b
    have hst : 4 * n * K ≤ 4 * 18 * 1926 := Nat.mul_le_mul (by omega) (by omega)
    -- the loop ends
    have hend : ∃ u k',sgF (q :: l) (64 + 2 * w + 4 * n * K) a = some u ∧ Hv a D M k' u ∧ (u.point = true ∨ X3 (q :: l) u.lo u.hi = 0) := by
      by_cases hpl : p.length < 2
      · have hq1 : (Qn p) = [1] := hp.pr.1.one (by have := hp.pr.2.1; omega)
        have hql : q.length < 2 := by
          have e := sq.e
          rw [hq1] at e
          obtain ⟨p1,p2⟩ := Xy (c := [1]) rfl (by simp) e
          have := Yw sq.pg.t sq.pq.t (c := [1]) rfl e p1 p2
          simp at this; omega
        have hbt : X3 (q :: l) a.lo a.hi = 0 := by
          rw [Hf (Rat.le_of_lt V.l),hl0 hql,sq.pq.one hql]
          have hv1 : ∀ x : Rat,ev (cz [1]) x = 1 := fun x => by rw [Qg,Vl]
          simp only [List.map_cons,List.map_nil,vv,tc,hv1]; omega
        refine ⟨a,k,?_,h1,.inr hbt⟩
        obtain ⟨m,hm⟩ : ∃ m,64 + 2 * w + 4 * n * K = m + 1 := ⟨63 + 2 * w + 4 * n * K,by omega⟩
        rw [hm]
        simp only [sgF]
        rw [if_pos (.inr hbt)]
      · have hg : Jb a.p p = K * (2 * (n - 2) - 1) := by unfold Jb; rw [hK,hn]
        have hgle : Jb a.p p + 5 * K ≤ 2 * n * K := by
          rw [hg,Nat.mul_comm K,← Nat.add_mul]
          exact Nat.mul_le_mul_right _ (by omega)
        have hKp : 8 ≤ K := by omega
        have hnK : 2 * n * K ≤ 4 * n * K := Nat.mul_le_mul_right _ (by omega)
        obtain ⟨u,k',u1,u2,u3⟩ := Qv8 hp.t hp.l (by omega) hS hpq ha hnz h2 (64 + 2 * w + 4 * n * K) (2 + w + 2 * n * K) a k ((2 ^ (w + 1) : Nat) : Rat) (by omega) h1 (by omega) (Du (by omega)) (by
          have e : (2 ^ (w + 1)) * (2 ^ (Jb a.p p + 1)) ≤ 2 ^ (2 + w + 2 * n * K) := by
            rw [← Nat.pow_add]
            exact Nat.pow_le_pow_right (by decide) (by omega)
          have := Rat.natCast_le_natCast.2 e
          push_cast at this ⊢
          exact this)
        exact ⟨u,k',u1,u2,u3⟩
    obtain ⟨u,k',u1,u2,u3⟩ := hend
    rw [u1]
    refine ⟨_,rfl,.inr ?_⟩
    have hfin : Zv p u.hi = s := by
      rcases u2.hi' with hz | hz
      · have := Qgg ca hz hnz
        rw [Ki,← Qg]; exact this
      · rcases u2.i with ⟨e,_⟩ | ⟨L',V'⟩
        · have := u2.c u.hi
          rw [Ho e,e,K8] at this; omega
        · have hup : u.point = false := by
            have : ¬ u.point = true := fun h => by have := Wc.1 h; have := V'.l; grind
            simpa using this
          rcases u3 with h | h
          · rw [hup] at h; cases h
          · rw [Hf (Rat.le_of_lt V'.l)] at h
            obtain ⟨s',hs',hps⟩ := Qpn hpt hp.t hp.nz hS V'.l (by omega)
            obtain ⟨d,dp,x,y,hx,hy,hq⟩ := hnz
            have hlo1 : Zn a u.lo = 1 := by
              rcases u2.lo' with h | ⟨_,h⟩
              · exact h
              · have := V'.l; clear hps hq; grind
            obtain ⟨m,m1,m2,m3⟩ := As ca hlo1 hx
            have e1 := (hq m (Rat.le_of_lt m3) (Rat.le_of_lt (ca.lt m1 hy))).1
            have e2 := hps m m2 (Rat.le_of_lt (ca.lt m1 hz))
            have e3 := hps u.hi V'.l Rat.le_refl
            rw [Ki,e3,← e2,← Qg,e1]
    rw [hfin]; exact ⟨hs0,hnz⟩
end Orq

namespace Orq
open Orr Go
structure Dp (p : List Int) : Prop where
  t : Qj p
  l : p.length ≤ 9
  b : Bd (860 + 4 * (9 - p.length)) p
theorem Qm0 : Szz 9 973 := ⟨by decide,by decide⟩
theorem Dp.ok {p : List Int} (h : Dp p) (h0 : p.length ≠ 0) : Okp 9 900 p := ⟨Qm0,h.t,h0,h.l,Qd h.b (by omega)⟩
theorem Dp.der {p : List Int} (h : Dp p) : Dp (Zk p) := by
  have hl := Vg p
  have hl2 := h.l
  refine ⟨Q8 _ _,by omega,?_⟩
  by_cases h0 : p.length = 0
  · rw [List.eq_nil_of_length_eq_zero (l := Zk p) (by omega)]; exact K5
  · exact Qd (Qhv h.b (by omega)) (by omega)
def Ll (a : Tm) (p : List Int) : Int := (Qbw p a).getD 0
theorem Q40 {p : List Int} (h : Dp p) {a : Tm} (ha : Va a) : Qbw p a = some (Ll a p) ∧ SgT p a (Ll a p) := by
  by_cases h0 : p.length = 0
  · have e : p = [] := List.eq_nil_of_length_eq_zero h0
    subst e
    refine ⟨rfl,.inl ⟨rfl,fun d dp => ?_⟩⟩
    obtain ⟨x,y,h1,h2,_⟩ := ha.cut.near (e := 1) (by decide)
    exact ⟨x,y,h1,h2,fun q _ _ => by simp only [cz,List.map_nil,ev,Xf]; exact dp⟩
  · obtain ⟨s,h1,h2⟩ := Qwf (h.ok h0) ha
    have e : Ll a p = s := by unfold Ll; rw [h1]; rfl
    rw [e]; exact ⟨h1,h2⟩
theorem Qzu {l : List Int} : ∀ z ∈ l,z.natAbs ≤ most l := by
  have key : ∀ (l : List Int) (m : Nat),m ≤ l.foldl (fun m z => if m < z.natAbs then z.natAbs else m) m ∧ ∀ z ∈ l,z.natAbs ≤ l.foldl (fun m z => if m < z.natAbs then z.natAbs else m) m := by
    intro l
    induction l with
    | nil => exact fun m => ⟨Nat.le_refl _,fun z hz => by cases hz⟩
    |
     cons y l ih =>
     intro m
     obtain ⟨e,he⟩ : ∃ e,e = if m < y.natAbs then y.natAbs else m := ⟨_,rfl⟩
     have h1 : m ≤ e ∧ y.natAbs ≤ e := by rw [he]; split <;> omega
     obtain ⟨i1,i2⟩ := ih e
     simp only [List.foldl_cons]
     rw [← he]
     refine ⟨by omega,fun z hz => ?_⟩
     rcases List.mem_cons.1 hz with rfl | hz
     · omega
     · exact i2 z hz
  exact (key l 0).2
theorem Ac {p : List Int} (h : Qo p ≠ 0) : Zt p * ((Qo p).natAbs : Rat) = ((Qo p).natAbs : Rat) + ((most (p.take (p.length - 1)) : Nat) : Rat) := by
  unfold Zt
  rw [← Xb]
  have hp : 0 < (Qo p).natAbs := by omega
  have := nat_pos hp
  rw [show ((((Qo p).natAbs : Int)) : Rat) = ((Qo p).natAbs : Rat) from rfl,Zr this]
  rw [Rat.intCast_add]; rfl
theorem Ql4 {m : Nat} {x : Rat} (hx : 1 ≤ Ql x) : ∀ (p : List Int) (lp : p.length ≠ 0),(∀ z ∈ p.take (p.length - 1),z.natAbs ≤ m) → Qo p ≠ 0 → (m : Rat) ≤ (Ql x - 1) * ((Qo p).natAbs : Rat) → ((Qo p).natAbs : Rat) ≤ Qi p x * (((Int.sign (Qo p)) * (if x < 0 ∧ p.length % 2 = 0 then -1 else 1) : Int) : Rat)
  | [],lp,_,_,_ => absurd rfl lp
  |
   [c],_,_,hc,_ => by
   have hl : Qo [c] = c := rfl
   rw [hl] at hc ⊢
   rw [if_neg (by simp),Int.mul_one]
   have h1 : Qi [c] x = (c : Rat) := by simp only [Qi]; grind
   rw [h1]
   have h2 : c * Int.sign c = (c.natAbs : Int) := Int.mul_sign_self c
   have := congrArg (fun z : Int => (z : Rat)) h2
   rw [Rat.intCast_mul] at this
   rw [this]; exact Rat.le_refl
  |
   c :: d :: p,_,hm,hc,hb => by
   have hl : Qo (c :: d :: p) = Qo (d :: p) := by unfold Qo; simp [List.getD_cons_succ]
   have ih := Ql4 hx (d :: p) (by simp) (fun z hz => hm z (by
     have e : (c :: d :: p).take ((c :: d :: p).length - 1) = c :: (d :: p).take ((d :: p).length - 1) := by simp
     rw [e]; exact List.mem_cons_of_mem _ hz)) (by rw [← hl]; exact hc) (by rw [← hl]; exact hb)
   rw [hl] at hc hb ⊢
   have hcm := hm c (by simp)
   obtain ⟨s,hs⟩ : ∃ s : Int,s = Int.sign (Qo (d :: p)) := ⟨_,rfl⟩
   have hsv : s = 1 ∨ s = -1 := by
     rw [hs]
     rcases Int.lt_or_lt_of_ne hc with h | h
     · exact .inr (Int.sign_eq_neg_one_of_neg h)
     · exact .inl (Int.sign_eq_one_of_pos h)
   rw [← hs] at ih ⊢
   obtain ⟨ld,hld⟩ : ∃ ld : Rat,ld = ((Qo (d :: p)).natAbs : Rat) := ⟨_,rfl⟩
   rw [← hld] at ih hb ⊢
   have hcq : Ql (c : Rat) ≤ (m : Rat) := by rw [Jn]; exact Rat.natCast_le_natCast.2 hcm
   rw [Yn] at hcq
   have e1 : Qi (c :: d :: p) x = (c : Rat) + x * Qi (d :: p) x := rfl
   rw [e1]
   have hlen : (c :: d :: p).length % 2 = 0 ↔ ¬ (d :: p).length % 2 = 0 := by simp only [List.length_cons]; omega
   generalize Qi (d :: p) x = y at *
   generalize (m : Rat) = mm at *
   generalize (c : Rat) = cc at *
   have hx0 := hx
   by_cases hneg : x < 0
   · have hq : Ql x = -x := by unfold Ql; rw [if_pos hneg]
     rw [hq] at hx0 hb
     by_cases hpar : (d :: p).length % 2 = 0
     · rw [if_pos ⟨hneg,hpar⟩] at ih
       rw [if_neg fun h => (hlen.1 h.2) hpar]
       rcases hsv with rfl | rfl
       · have ih : ld ≤ y * (-1) := by simpa using ih
         have := Rat.mul_le_mul_of_nonneg_left ih (show 0 ≤ -x by grind)
         have e : (((1 : Int) * 1 : Int) : Rat) = 1 := rfl
         rw [e]; grind
       · have ih : ld ≤ y * 1 := by simpa using ih
         have := Rat.mul_le_mul_of_nonneg_left ih (show 0 ≤ -x by grind)
         have e : (((-1 : Int) * 1 : Int) : Rat) = -1 := rfl
         rw [e]; grind
     · rw [if_neg fun h => hpar h.2] at ih
       rw [if_pos ⟨hneg,hlen.2 hpar⟩]
       rcases hsv with rfl | rfl
       · have ih : ld ≤ y * 1 := by simpa using ih
         have := Rat.mul_le_mul_of_nonneg_left ih (show 0 ≤ -x by grind)
         have e : (((1 : Int) * -1 : Int) : Rat) = -1 := rfl
         rw [e]; grind
       · have ih : ld ≤ y * (-1) := by simpa using ih
         have := Rat.mul_le_mul_of_nonneg_left ih (show 0 ≤ -x by grind)
         have e : (((-1 : Int) * -1 : Int) : Rat) = 1 := rfl
         rw [e]; grind
   · have hq : Ql x = x := by unfold Ql; rw [if_neg hneg]
     rw [hq] at hx0 hb
     rw [if_neg fun h => hneg h.1] at ih ⊢
     rcases hsv with rfl | rfl
     · have ih : ld ≤ y * 1 := by simpa using ih
       have := Rat.mul_le_mul_of_nonneg_left ih (show 0 ≤ x by grind)
       have e : (((1 : Int) * 1 : Int) : Rat) = 1 := rfl
       rw [e]; grind
     · have ih : ld ≤ y * (-1) := by simpa using ih
       have := Rat.mul_le_mul_of_nonneg_left ih (show 0 ≤ x by grind)
       have e : (((-1 : Int) * 1 : Int) : Rat) = -1 := rfl
       rw [e]; grind
theorem Qhz {p : List Int} (tp : Qj p) (lp : p.length ≠ 0) {x : Rat} (hx : Zt p ≤ Ql x) : 1 ≤ Ql (Qi p x) ∧ (0 ≤ x → Zv p x = M9 p) ∧ (x < 0 → Zv p x = Rf p) := by
  have hl := Uk tp lp
  have hpos : 0 < (Qo p).natAbs := by omega
  have h1 : (1 : Rat) ≤ ((Qo p).natAbs : Rat) := by
    have : ((1 : Nat) : Rat) ≤ ((Qo p).natAbs : Rat) := Rat.natCast_le_natCast.2 hpos
    exact this
  have hm0 : (0 : Rat) ≤ ((most (p.take (p.length - 1)) : Nat) : Rat) := Rat.natCast_nonneg
  have hb := Ac hl
  have hx1 := Rat.mul_le_mul_of_nonneg_right hx (show (0 : Rat) ≤ ((Qo p).natAbs : Rat) by grind)
  have hx2 : 1 ≤ Ql x := by
    rcases Qy 1 (Ql x) with h | h
    · exact h
    · exfalso
      have := Rat.mul_lt_mul_of_pos_right h (show (0 : Rat) < ((Qo p).natAbs : Rat) by grind)
      grind
  have key := Ql4 (m := most (p.take (p.length - 1))) hx2 p lp (fun z hz => Qzu z hz) hl (by grind)
  obtain ⟨s,hs⟩ : ∃ s : Int,s = Int.sign (Qo p) * (if x < 0 ∧ p.length % 2 = 0 then -1 else 1) := ⟨_,rfl⟩
  rw [← hs] at key
  have hsv : s = 1 ∨ s = -1 := by
    rw [hs]
    rcases Int.lt_or_lt_of_ne hl with h | h
    · rw [Int.sign_eq_neg_one_of_neg h]; split <;> simp
    · rw [Int.sign_eq_one_of_pos h]; split <;> simp
  have hsg : Zv p x = s ∧ 1 ≤ Ql (Qi p x) := by
    rw [Ki]
    rcases hsv with e | e
    · rw [e] at key ⊢
      have key : ((Qo p).natAbs : Rat) ≤ Qi p x := by simpa using key
      exact ⟨Xg.2 (by grind),by unfold Ql; rw [if_neg (by grind)]; grind⟩
    · rw [e] at key ⊢
      have key : ((Qo p).natAbs : Rat) ≤ Qi p x * (-1) := by simpa using key
      exact ⟨Jt.2 (by grind),by unfold Ql; rw [if_pos (by grind)]; grind⟩
  refine ⟨hsg.2,fun h => ?_,fun h => ?_⟩
  · rw [hsg.1,hs,if_neg fun h' => by have := h'.1; grind]; unfold M9; omega
  · rw [hsg.1,hs]; unfold Rf
    by_cases he : p.length % 2 = 0
    · rw [if_pos ⟨h,he⟩,if_pos he]; omega
    · rw [if_neg fun h' => he h'.2,if_neg he]; omega
theorem Sh {f g : List Int → Int} : ∀ {l : List (List Int)} (s : Nat × Int),(∀ p ∈ l,f p = g p) → l.foldl (J0 f) s = l.foldl (J0 g) s
  | [],s,_ => rfl
  |
   p :: l,s,h => by
   simp only [List.foldl_cons]
   have e : J0 f s p = J0 g s p := by unfold J0; rw [h p (List.mem_cons_self ..)]
   rw [e]; exact Sh _ fun q hq => h q (List.mem_cons_of_mem _ hq)
theorem Ql1 : ∀ (l : List (List Int)),(∀ p ∈ l,Qj p ∧ p.length ≠ 0) → ∃ X : Rat,0 < X ∧ ∀ x,X ≤ x → (∀ p ∈ l,Zv p x = M9 p) ∧ ∀ p ∈ l,Zv p (-x) = Rf p
  | [],_ => ⟨1,by decide,fun x _ => ⟨(fun p hp => by cases hp),(fun p hp => by cases hp)⟩⟩
  |
   p :: l,h => by
   obtain ⟨X,hX,hl⟩ := Ql1 l fun q hq => h q (List.mem_cons_of_mem _ hq)
   obtain ⟨tp,lp⟩ := h p (List.mem_cons_self ..)
   refine ⟨X + Ql (Zt p),by have := Z5 (Zt p); grind,fun x hx => ?_⟩
   have hb0 := Z5 (Zt p)
   have hb1 : Zt p ≤ Ql (Zt p) := by unfold Ql; split <;> grind
   obtain ⟨l1,l2⟩ := hl x (by grind)
   have e1 : Ql x = x := by unfold Ql; rw [if_neg (by grind)]
   have e2 : Ql (-x) = x := by rw [Un,e1]
   refine ⟨fun q hq => ?_,fun q hq => ?_⟩
   · rcases List.mem_cons.1 hq with rfl | hq
     · exact (Qhz tp lp (x := x) (by rw [e1]; grind)).2.1 (by grind)
     · exact l1 q hq
   · rcases List.mem_cons.1 hq with rfl | hq
     · exact (Qhz tp lp (x := -x) (by rw [e2]; grind)).2.2 (by grind)
     · exact l2 q hq
theorem Qkj {q : List Int} {L : List (List Rat)} (hS : Lo (cz q) L) (tq : Qj q) (lq : q.length ≠ 0) {x y : Rat} (hxy : x < y) (h : Zt q ≤ x ∨ y ≤ -Zt q) (hb : 0 < Zt q) : vv L x = vv L y := by
  rcases Classical.em (vv L x = vv L y) with e | e
  · exact e
  · exfalso
    obtain ⟨r,r1,r2,r3⟩ := Qed hS hxy e (d := 1) (by decide)
    have := (Qhz tq lq (x := r) (by rcases h with h | h <;> (unfold Ql; split <;> grind))).1
    rw [Qg] at r3; grind
theorem Cd {p : List Int} (h : Qo p ≠ 0) : 1 ≤ Zt p := by
  have hb := Ac h
  have hp := nat_pos (show 0 < (Qo p).natAbs by omega)
  have hm0 : (0 : Rat) ≤ ((most (p.take (p.length - 1)) : Nat) : Rat) := Rat.natCast_nonneg
  rcases Qy 1 (Zt p) with h' | h'
  · exact h'
  · have := Rat.mul_lt_mul_of_pos_right h' hp; grind
theorem Qpw {q : List Int} {l : List (List Int)} (hS : Lo (cz q) ((q :: l).map cz)) (hl : ∀ p ∈ q :: l,Qj p ∧ p.length ≠ 0) : T0 (q :: l) = (vv ((q :: l).map cz) (-Zt q) : Int) - (vv ((q :: l).map cz) (Zt q) : Int) := by
  obtain ⟨tq,lq⟩ := hl q (List.mem_cons_self ..)
  have hb := Cd (Uk tq lq)
  obtain ⟨X,hX,hx⟩ := Ql1 (q :: l) hl
  obtain ⟨h1,h2⟩ := hx (X + Zt q) (by grind)
  have e1 : Kn M9 (q :: l) = vv ((q :: l).map cz) (X + Zt q) := by
    rw [← H6]; unfold Ko Kn
    rw [Sh (f := M9) (g := fun p => Zv p (X + Zt q)) (0,0) fun p hp => (h1 p hp).symm]
  have e2 : Kn Rf (q :: l) = vv ((q :: l).map cz) (-(X + Zt q)) := by
    rw [← H6]; unfold Ko Kn
    rw [Sh (f := Rf) (g := fun p => Zv p (-(X + Zt q))) (0,0) fun p hp => (h2 p hp).symm]
  unfold T0
  rw [e1,e2,Qkj hS tq lq (x := -(X + Zt q)) (y := -Zt q) (by grind) (.inr Rat.le_refl) (by grind),← Qkj hS tq lq (x := Zt q) (y := X + Zt q) (by grind) (.inl Rat.le_refl) (by grind)]
theorem Q4k {f : List Rat} {L : List (List Rat)} (hS : Lo f L) {x y : Rat} (hxy : x < y) (hv : vv L y + 2 ≤ vv L x) : ∃ m,x < m ∧ m < y ∧ vv L m < vv L x ∧ vv L y < vv L m ∧ ev f m ≠ 0 := by
  obtain ⟨R,hR,hx,hy⟩ := Qb7 x y
  obtain ⟨e,ep,he⟩ := Qw1 hS R hR
  have key : ∀ n : Nat,∀ x,Ql x ≤ R → x < y → vv L y + 2 ≤ vv L x → y - x ≤ (n : Rat) * e → ∃ m,x < m ∧ m < y ∧ vv L m < vv L x ∧ vv L y < vv L m := by
    intro n
    induction n with
    | zero => intro x _ hxy _ hn; rw [show ((0 : Nat) : Rat) = 0 from rfl] at hn; exfalso; clear he; grind
    |
     succ n ih =>
     intro x hx hxy hv hn
     have hn' : (((n + 1 : Nat) : Rat)) = (n : Rat) + 1 := by push_cast; rfl
     rw [hn'] at hn
     rcases Qy (y - x) e with h1 | h1
     · have := he x y hx hy hxy h1; omega
     · have hm : Ql (x + e) ≤ R := Ni hx hy (by clear he ih; grind) (by clear he ih; grind)
       have h2 := he x (x + e) hx hm (by clear he ih; grind) (by clear he ih; grind)
       have h3 := Fe hS (show x < x + e by clear he ih; grind)
       by_cases h4 : vv L x = vv L (x + e)
       · obtain ⟨m,m1,m2,m3,m4⟩ := ih (x + e) hm (by clear he ih; grind) (by omega) (by clear he ih; grind)
         exact ⟨m,by clear he ih; grind,m2,by omega,m4⟩
       · exact ⟨x + e,by clear he ih; grind,by clear he ih; grind,by omega,by omega⟩
  obtain ⟨n,hn⟩ := Rl (z := y - x) ep
  obtain ⟨m,m1,m2,m3,m4⟩ := key n x hx hxy hv hn
  rcases Classical.em (ev f m = 0) with h0 | h0
  · -- a little farther on
    obtain ⟨e2,e2p,hl⟩ := loc hR hS (w := f) (u := [1]) (fun t => by rw [Xx]; grind)
    obtain ⟨d,dp,d1,d2⟩ := min2 (a := e2) (b := (y - m) / 2) e2p (U0 (by clear he key hl; grind) (by decide))
    have h2 : (y - m) / 2 * 2 = y - m := Zr (by decide)
    have hmR : Ql m ≤ R := Ni hx hy (Rat.le_of_lt m1) (Rat.le_of_lt m2)
    have hmR2 : Ql (m + d) ≤ R := Ni hx hy (by clear he key hl; grind) (by clear he key hl; grind)
    rcases hl m (m + d) hmR hmR2 (by clear he key hl; grind) (by clear he key hl; grind) with ⟨p1,p2,_⟩ | ⟨_,p1,_,p3,_⟩
    · refine ⟨m + d,by clear he key hl; grind,by clear he key hl; grind,by omega,by omega,fun h' => ?_⟩
      have := p2.s
      rw [Za.2 h'] at this; exact p2.n this.symm
    · rw [Za.2 h0] at p3; exact absurd p3.symm p1
  · exact ⟨m,m1,m2,m3,m4,h0⟩
theorem Q1e {q : List Int} {L : List (List Rat)} (hS : Lo (cz q) L) (tq : Qj q) (nq : q.length ≤ 9) (lq : 2 ≤ q.length) {lo hi : Rat} (hl : lo < hi) (hv : vv L hi + 2 ≤ vv L lo) : 1 < (hi - lo) * ((2 ^ (Jb q q + 1) : Nat) : Rat) := by
  rcases Qy ((hi - lo) * ((2 ^ (Jb q q + 1) : Nat) : Rat)) 1 with hw | hw
  · exfalso
    have hpow : (0 : Rat) ≤ ((2 ^ (Jb q q + 1) : Nat) : Rat) := Rat.natCast_nonneg
    obtain ⟨m,m1,m2,m3,m4,m0⟩ := Q4k hS hl hv
    obtain ⟨R,hR,r1,r2⟩ := Qb7 lo hi
    have hd := Wu m0
    obtain ⟨d,dp,_,db⟩ := Zs (b := Ou R (cz q)) (d := Ql (ev (cz q) m) / 2) (Y6 hR _) (U0 hd (by decide))
    have hd2 : Ql (ev (cz q) m) / 2 * 2 = Ql (ev (cz q) m) := Zr (by decide)
    have hmR : Ql m ≤ R := Ni r1 r2 (Rat.le_of_lt m1) (Rat.le_of_lt m2)
    -- near m q is not small
    have hnear : ∀ r,Ql r ≤ R → Ql (ev (cz q) r) < Ql (ev (cz q) m) / 2 → d < Ql (r - m) := fun r hr hs => by
      rcases Qy (Ql (r - m)) d with h | h
      · exfalso
        have h1 := Yi (p := cz q) hmR hr hR h db
        have h2 := Ji (ev (cz q) m - ev (cz q) r) (ev (cz q) r)
        rw [show ev (cz q) m - ev (cz q) r + ev (cz q) r = ev (cz q) m by grind,Qnf] at h2
        grind
      · exact h
    refine Qtg (R := R + 1) (d := d + d) tq tq nq nq lq lq (by grind) (by grind) fun e ep => ?_
    obtain ⟨e',ep',e1,e2⟩ := min2 (a := e) (b := Ql (ev (cz q) m) / 2) ep (U0 hd (by decide))
    obtain ⟨x,x1,x2,x3⟩ := Qed hS m1 (by omega) ep'
    obtain ⟨y,y1,y2,y3⟩ := Qed hS m2 (by omega) ep'
    have hxR : Ql x ≤ R := Ni r1 r2 x1 (by grind)
    have hyR : Ql y ≤ R := Ni r1 r2 (by grind) y2
    have nx := hnear x hxR (by grind)
    have ny := hnear y hyR (by grind)
    have ex : Ql (x - m) = m - x := by unfold Ql; split <;> grind
    have ey : Ql (y - m) = y - m := by unfold Ql; split <;> grind
    rw [ex] at nx
    rw [ey] at ny
    have exy : Ql (x - y) = y - x := by unfold Ql; split <;> grind
    refine ⟨x,y,by grind,by grind,by rw [exy]; grind,?_,by rw [← Qg]; grind,by rw [← Qg]; grind⟩
    rw [exy]
    exact Rat.le_trans (Rat.mul_le_mul_of_nonneg_right (show y - x ≤ hi - lo by grind) hpow) hw
  · exact hw
end Orq

namespace Orq
open Orr Go
theorem Qsh : ∀ {k : Nat} {a b : List Int} {l : List (List Int)},chF k a b = some l → ∀ p ∈ l,p.length ≠ 0
  | 0,_,_,_,h => by cases h
  |
   k + 1,a,b,l,h => by
   simp only [chF] at h
   split at h
   · injection h with h; subst h; exact fun p hp => by cases hp
   · rename_i h0
     obtain ⟨r,_,h⟩ := Option.bind_eq_some_iff.1 h
     obtain ⟨l',h1,h⟩ := Option.bind_eq_some_iff.1 h
     injection h with h; subst h
     intro p hp
     rcases List.mem_cons.1 hp with rfl | hp
     · exact h0
     · exact Qsh h1 p hp
theorem Okp.pb {n s : Nat} {p : List Int} (h : Okp n s p) (hs : s ≤ 16777216) : Pb p := ⟨h.t,by have := h.l; have := h.z.1; omega,Qd h.b hs⟩
theorem Qon {p : List Int} {q : List Int} {l : List (List Int)} (hp : Pb p) (h : Gi p = some (q :: l)) (hq : q.length ≠ 0) : ∀ r ∈ q :: l,Qj r ∧ r.length ≠ 0 := by
  have h1 := (Orr.chain_ok hp h).2
  unfold Gi at h
  obtain ⟨a,_,h⟩ := Option.bind_eq_some_iff.1 h
  split at h
  · cases h
  · obtain ⟨d,_,h⟩ := Option.bind_eq_some_iff.1 h
    obtain ⟨l',h3,h⟩ := Option.bind_eq_some_iff.1 h
    injection h with h
    injection h with e1 e2
    subst e1; subst e2
    intro r hr
    refine ⟨(h1 r hr).t,?_⟩
    rcases List.mem_cons.1 hr with rfl | hr
    · exact hq
    · exact Qsh h3 r hr
inductive RI (q : List Int) (L : List (List Rat)) : Rat → List Tm → Rat → Prop
  | nil {lo hi : Rat} (h : lo ≤ hi) (hv : vv L lo = vv L hi) : RI q L lo [] hi
  | cons {lo hi : Rat} {t : Tm} {l : List Tm} (h : lo ≤ t.lo) (hv : vv L lo = vv L t.lo) (ht : Vt (cz q) L t.lo t.hi) (hp : t.p = q) (hl : RI q L t.hi l hi) : RI q L lo (t :: l) hi
theorem RI.app {q : List Int} {L : List (List Rat)} {lo m hi : Rat} {l l' : List Tm} (h : RI q L lo l m) (h' : RI q L m l' hi) : RI q L lo (l ++ l') hi := by
  induction h with
  |
   nil h hv =>
   cases h' with
   | nil h2 hv2 => exact .nil (by grind) (by omega)
   | cons h2 hv2 ht hp hl => exact .cons (by grind) (by omega) ht hp hl
  | cons h hv ht hp _ ih => exact .cons h hv ht hp (ih h')
theorem Qsj {D M k : Nat} {m : Rat} (h : Gr D M k m) (hM : 0 < M) (hs : Qm (D : Int) + Qm (M : Int) + k ≤ 16777216) : chq m = some m := by
  have := Ql8 h hM hs
  unfold chq
  rw [if_pos ⟨this.1,this.2⟩]
theorem Es {q : List Int} {c : List (List Int)} (hS : Lo (cz q) (c.map cz)) (tq : Qj q) (nq : q.length ≤ 9) (hc1 : q.length < 2 → c = [q]) {D M : Nat} (hM : 0 < M) : ∀ (k j : Nat) (lo hi : Rat), lo < hi → Gr D M j lo → Gr D M j hi → Qm (D : Int) + Qm (M : Int) + (j + k) ≤ 16777216 → (hi - lo) * ((2 ^ (Jb q q + 1) : Nat) : Rat) ≤ ((2 ^ k : Nat) : Rat) →
    ∃ l,U9 q c (k + 1) lo hi ((vv (c.map cz) lo : Int) - (vv (c.map cz) hi : Int)) = some l ∧ RI q (c.map cz) lo l hi ∧ ∀ t ∈ l,∃ k',k' ≤ j + k ∧ Gr D M k' t.lo ∧ Gr D M k' t.hi := by
  intro k
  induction k with
  |
   zero =>
   intro j lo hi hl g1 g2 hs hK
   have hle := Fe hS hl
   have h2 : vv (c.map cz) lo < vv (c.map cz) hi + 2 := by
     rcases Nat.lt_or_ge (vv (c.map cz) lo) (vv (c.map cz) hi + 2) with h | h
     · exact h
     · exfalso
       have lq : 2 ≤ q.length := by
         rcases Nat.lt_or_ge q.length 2 with e | e
         · have hvv : ∀ x, vv (c.map cz) x = vv (c.map cz) 0 := fun x => by
             rcases hS with ⟨c0,hc0,hcc,hl'⟩ | ⟨g',l',k',hk,hg,hsc,hl'⟩
             · rw [hl']; simp only [vv,tc,hcc]
             · rw [hc1 e] at hl'; cases hl'
           rw [hvv lo,hvv hi] at h; omega
         · exact e
       have := Q1e hS tq nq lq hl h
       rw [Nat.pow_zero] at hK
       have h7 : ((1 : Nat) : Rat) = 1 := rfl
       rw [h7] at hK; grind
   simp only [U9]
   by_cases e0 : vv (c.map cz) lo = vv (c.map cz) hi
   · rw [if_pos (by omega)]
     exact ⟨[],rfl,.nil (Rat.le_of_lt hl) e0,fun t ht => by cases ht⟩
   · rw [if_neg (by omega),if_pos (by omega)]
     refine ⟨[⟨q,lo,hi⟩],rfl,.cons Rat.le_refl rfl ⟨hS,hl,by show vv _ lo = vv _ hi + 1; omega⟩ rfl (.nil Rat.le_refl rfl),fun t ht => ?_⟩
     rw [List.mem_singleton.1 ht]; exact ⟨j,by omega,g1,g2⟩
  |
   succ k ih =>
   intro j lo hi hl g1 g2 hs hK
   have hle := Fe hS hl
   show ∃ l,(if (vv (c.map cz) lo : Int) - (vv (c.map cz) hi : Int) = 0 then some [] else if (vv (c.map cz) lo : Int) - (vv (c.map cz) hi : Int) = 1 then some [⟨q,lo,hi⟩] else (chq (mid lo hi)).bind fun m => (U9 q c (k + 1) lo m (X3 c lo m)).bind fun l => (U9 q c (k + 1) m hi ((vv (c.map cz) lo : Int) - (vv (c.map cz) hi : Int) - X3 c lo m)).bind fun r => some (l ++ r)) = some l ∧ _
   by_cases e0 : vv (c.map cz) lo = vv (c.map cz) hi
   · rw [if_pos (by omega)]
     exact ⟨[],rfl,.nil (Rat.le_of_lt hl) e0,fun t ht => by cases ht⟩
   by_cases e1 : vv (c.map cz) lo = vv (c.map cz) hi + 1
   · rw [if_neg (by omega),if_pos (by omega)]
     refine ⟨[⟨q,lo,hi⟩],rfl,.cons Rat.le_refl rfl ⟨hS,hl,e1⟩ rfl (.nil Rat.le_refl rfl),fun t ht => ?_⟩
     rw [List.mem_singleton.1 ht]; exact ⟨j,by omega,g1,g2⟩
   · rw [if_neg (by omega),if_neg (by omega)]
     obtain ⟨m,hm⟩ : ∃ m,m = (lo + hi) / 2 := ⟨_,rfl⟩
     have h2 : (lo + hi) / 2 * 2 = lo + hi := Zr (by decide)
     rw [← hm] at h2
     have gm : Gr D M (j + 1) m := by rw [hm]; exact Qtu g1 g2
     have l1 : lo < m := by grind
     have l2 : m < hi := by grind
     rw [Qi9,← hm,Qsj gm hM (by omega)]
     show ∃ l,((U9 q c (k + 1) lo m (X3 c lo m)).bind fun l => (U9 q c (k + 1) m hi ((vv (c.map cz) lo : Int) - (vv (c.map cz) hi : Int) - X3 c lo m)).bind fun r => some (l ++ r)) = some l ∧ _
     rw [Hf (Rat.le_of_lt l1),show (vv (c.map cz) lo : Int) - (vv (c.map cz) hi : Int) - ((vv (c.map cz) lo : Int) - (vv (c.map cz) m : Int)) = (vv (c.map cz) m : Int) - (vv (c.map cz) hi : Int) by omega]
     rw [Qgr k] at hK
     have hp : ∀ x y : Rat,(y - x) * 2 = hi - lo → (y - x) * ((2 ^ (Jb q q + 1) : Nat) : Rat) ≤ ((2 ^ k : Nat) : Rat) := fun x y h => by
       have : (y - x) * ((2 ^ (Jb q q + 1) : Nat) : Rat) * 2 = (hi - lo) * ((2 ^ (Jb q q + 1) : Nat) : Rat) := by rw [← h]; grind
       grind
     obtain ⟨la,a1,a2,a3⟩ := ih (j + 1) lo m l1 (Qa0 g1) gm (by omega) (hp lo m (by grind))
     obtain ⟨lb,b1,b2,b3⟩ := ih (j + 1) m hi l2 gm (Qa0 g2) (by omega) (hp m hi (by grind))
     rw [a1]
     show ∃ l,((U9 q c (k + 1) m hi ((vv (c.map cz) m : Int) - (vv (c.map cz) hi : Int))).bind fun r => some (la ++ r)) = some l ∧ _
     rw [b1]
     refine ⟨la ++ lb,rfl,a2.app b2,fun t ht => ?_⟩
     rcases List.mem_append.1 ht with ht | ht
     · obtain ⟨k',h1,h2,h3⟩ := a3 t ht; exact ⟨k',by omega,h2,h3⟩
     · obtain ⟨k',h1,h2,h3⟩ := b3 t ht; exact ⟨k',by omega,h2,h3⟩
theorem Q4a {D M k : Nat} {q : Rat} (h : Gr D M k q) : Gr D M k (-q) := by
  obtain ⟨u,hu⟩ := h.u
  exact ⟨⟨-u,by rw [Rat.intCast_neg,← hu]; grind⟩,by rw [Un]; exact h.b,h.d⟩
theorem Qf1 {m s : Nat} (h : m < 2 ^ s) : Qm ((m + 1 : Nat) : Int) ≤ s + 1 := by
  rw [Jq,Int.natAbs_natCast,Nat.pow_succ]; omega
theorem Qpb {z : Int} {s : Nat} (h : Qm z ≤ s) : Qm ((z.natAbs + 1 : Nat) : Int) ≤ s + 1 := Qf1 (Jq.1 h)
theorem Q05 {x : Rat} {m s g N : Nat} (hx : x ≤ 2 * ((m + 1 : Nat) : Rat)) (hm : m + 1 ≤ 2 ^ s) (hN : s + 1 + g ≤ N) : x * ((2 ^ g : Nat) : Rat) ≤ ((2 ^ N : Nat) : Rat) := by
  have h3 := Rat.natCast_le_natCast.2 hm
  have e := Qgr s
  have h4 : (0 : Rat) ≤ ((2 ^ s : Nat) : Rat) := Rat.natCast_nonneg
  have h1 : x ≤ ((2 ^ (s + 1) : Nat) : Rat) := by rw [e]; grind
  have h5 : (0 : Rat) ≤ ((2 ^ g : Nat) : Rat) := Rat.natCast_nonneg
  refine Rat.le_trans (Rat.mul_le_mul_of_nonneg_right h1 h5) ?_
  have h6 : 2 ^ (s + 1) * 2 ^ g ≤ 2 ^ N := by
    rw [← Nat.pow_add]; exact Nat.pow_le_pow_right (by decide) hN
  have := Rat.natCast_le_natCast.2 h6
  rw [Rat.natCast_mul] at this
  exact this
theorem Qxq {s : Nat} {l : List Int} (h : Bd s l) : most l < 2 ^ s := by
  have key : ∀ (l : List Int) (m : Nat),m < 2 ^ s → Bd s l → l.foldl (fun m z => if m < z.natAbs then z.natAbs else m) m < 2 ^ s := by
    intro l
    induction l with
    | nil => exact fun m h _ => h
    |
     cons y l ih =>
     intro m hm hb
     simp only [List.foldl_cons]
     refine ih _ ?_ fun z hz => hb z (List.mem_cons_of_mem _ hz)
     have := hb y (List.mem_cons_self ..)
     rw [Jq] at this
     split <;> assumption
  exact key l 0 (Nat.pow_pos (by decide)) h
theorem Qvt {p : List Int} (h : Okp 9 900 p) : ∃ q c l,Yy p = some q ∧ Gi p = some c ∧ I8 p = some l ∧ Lo (cz q) (c.map cz) ∧ RI q (c.map cz) (-Zt q) l (Zt q) ∧ (∀ t ∈ l,Va t) ∧ (∀ x y,x < y → Zt q ≤ x ∨ y ≤ -Zt q → vv (c.map cz) x = vv (c.map cz) y) := by
  obtain ⟨pp,hpl,hpb⟩ := h.pr
  obtain ⟨g,q',hq',sq⟩ := Pa h
  obtain ⟨q,l,q1,q2,hS,hl0⟩ := chain_ok h
  rw [hq'] at q1
  injection q1 with q1
  subst q1
  have e1 : ∀ t,Qi (Qn p) t = Qi q' t * Qi g t := fun t => by rw [sq.e]; grind
  obtain ⟨p1,p2⟩ := Xy pp.t pp.n e1
  have hll := Yw sq.pq.t sq.pg.t pp.t e1 p1 p2
  have hl9 := h.l
  have bq : Bd 969 q' := Ta hpb (by omega) pp.t sq.pq.t sq.pg.t pp.n e1
  have hall := Qon (h.pb (by omega)) q2 sq.pq.n
  have hld : Qo q' ≠ 0 := by have := sq.pq.l; omega
  have hb1 := Cd hld
  -- the bound's size
  obtain ⟨D,hD⟩ : ∃ D,D = (Qo q').natAbs := ⟨_,rfl⟩
  obtain ⟨m,hm⟩ : ∃ m,m = most (q'.take (q'.length - 1)) := ⟨_,rfl⟩
  have hm2 : m < 2 ^ 969 := by rw [hm]; exact Qxq (s := 969) fun z hz => bq z (List.mem_of_mem_take hz)
  have hD0 : 0 < D := by omega
  have hDs : Qm (D : Int) ≤ 969 := by
    have := Ve bq
    rw [Jq] at this ⊢
    rw [Int.natAbs_natCast,hD]; exact this
  have hbe := Ac hld
  rw [← hD,← hm] at hbe
  have hDq := nat_pos hD0
  have hbm : Zt q' ≤ ((m + 1 : Nat) : Rat) := by
    have hD1 : (1 : Rat) ≤ (D : Rat) := by
      have : ((1 : Nat) : Rat) ≤ (D : Rat) := Rat.natCast_le_natCast.2 hD0
      exact this
    have hm0 : (0 : Rat) ≤ (m : Rat) := Rat.natCast_nonneg
    have h3 := Kd (a := (m : Rat)) (c := 1) hm0 Rat.le_refl (by decide) hD1
    rcases Qy (Zt q') ((m + 1 : Nat) : Rat) with h' | h'
    · exact h'
    · exfalso
      have := Rat.mul_lt_mul_of_pos_right h' hDq
      push_cast at this; grind
  have gb : Gr D (m + 1) 0 (Zt q') := by
    refine ⟨⟨(D + m : Nat),?_⟩,?_,hD0⟩
    · rw [Nat.pow_zero,Nat.mul_one,hbe]
      rw [show ((((D + m : Nat) : Int)) : Rat) = ((D + m : Nat) : Rat) from rfl]; push_cast; rfl
    · have : Ql (Zt q') = Zt q' := by unfold Ql; rw [if_neg (by grind)]
      rw [this]; exact hbm
  have hMs : Qm ((m + 1 : Nat) : Int) ≤ 970 := Qf1 (s := 969) hm2
  have hK : (Zt q' - -Zt q') * ((2 ^ (Jb q' q' + 1) : Nat) : Rat) ≤ ((2 ^ 99999 : Nat) : Rat) := by
    have hps := G8 bq
    have hg : Jb q' q' ≤ 1964 * 31 := by
      unfold Jb
      exact Nat.mul_le_mul (by omega) (by omega)
    exact Q05 (s := 969) (g := Jb q' q' + 1) (N := 99999) (by grind) hm2 (by omega)
  have hN : Qm (D : Int) + Qm ((m + 1 : Nat) : Int) + (0 + 99999) ≤ 16777216 := by omega
  obtain ⟨ls,r1,r2,r3⟩ := Es hS sq.pq.t (by omega) (fun h => by rw [hl0 h]) (Nat.succ_pos m) 99999 0 (-Zt q') (Zt q') (by grind) (Q4a gb) gb hN hK
  have hchq : chq (Zt q') = some (Zt q') := Qsj gb (Nat.succ_pos m) (by omega)
  refine ⟨q',q' :: l,ls,hq',q2,?_,hS,r2,fun t ht => ?_,fun x y hxy hb => Qkj hS sq.pq.t sq.pq.n hxy hb (by grind)⟩
  · unfold I8
    rw [q2,hq']
    show (chq (Zt q')).bind _ = _
    rw [hchq]
    show U9 q' (q' :: l) 100000 (-Zt q') (Zt q') (T0 (q' :: l)) = _
    rw [Qpw hS hall]
    exact r1
  · obtain ⟨k',k1,k2,k3⟩ := r3 t ht
    have hmem : ∀ {lo hi : Rat} {ls : List Tm},RI q' ((q' :: l).map cz) lo ls hi → t ∈ ls → Vt (cz q') ((q' :: l).map cz) t.lo t.hi ∧ t.p = q' := fun h => by
      induction h with
      | nil => intro ht; cases ht
      |
       cons h hv ht' hp hl ih =>
       intro ht
       rcases List.mem_cons.1 ht with rfl | ht
       · exact ⟨ht',hp⟩
       · exact ih ht
    obtain ⟨v1,v2⟩ := hmem r2 ht
    have lq2 : 2 ≤ q'.length := by
      rcases Nat.lt_or_ge q'.length 2 with e | e
      · exfalso
        have hvv : ∀ x,vv ((q' :: l).map cz) x = 0 := fun x => by
          rw [hl0 e,sq.pq.one e]
          have hv1 : ∀ x : Rat,ev (cz [1]) x = 1 := fun x => by rw [Qg,Vl]
          simp only [List.map_cons,List.map_nil,vv,tc,hv1]
          have : Qq 1 = 1 := by decide
          rw [this]; decide
        have := v1.v
        rw [hvv,hvv] at this; omega
      · exact e
    refine ⟨.inr ⟨_,by rw [v2]; exact v1⟩,by rw [v2]; exact sq.pq.t,by rw [v2]; omega,by rw [v2]; exact lq2,by rw [v2]; exact Qd bq (by omega),D,m + 1,k',k2,k3,Nat.succ_pos m,by omega⟩
theorem Uh {q : List Int} {L : List (List Rat)} (hS : Lo (cz q) L) {c : Rat → Int} (hc : Cut c) {lo : Rat} (hH : ∀ z,c z = -1 → z ≤ lo → vv L z = vv L lo) {y0 : Rat} (hy : c y0 = -1) (hv : ∀ z,lo < z → z ≤ y0 → vv L z = vv L lo) : ∃ s,s ≠ 0 ∧ ∀ z,c z = -1 → z ≤ y0 → Qq (ev (cz q) z) = s := by
  have hall : ∀ z,c z = -1 → z ≤ y0 → vv L z = vv L lo := fun z h1 h2 => by
    rcases Qy z lo with e | e
    · exact hH z h1 e
    · exact hv z e h2
  have hne : ∀ z,c z = -1 → z ≤ y0 → Qq (ev (cz q) z) ≠ 0 := fun z h1 h2 => by
    obtain ⟨w,w1,w2⟩ := hc.dn z h1
    have := Qek hS w1 (by rw [hall w w2 (by grind),hall z h1 h2])
    rw [this.s]; exact this.n
  refine ⟨Qq (ev (cz q) y0),hne y0 hy Rat.le_refl,fun z h1 h2 => ?_⟩
  rcases Classical.em (z = y0) with e | e
  · rw [e]
  · have := Qek hS (x := z) (y := y0) (by grind) (by rw [hall z h1 h2,hall y0 hy Rat.le_refl])
    rw [this.s,U6 (hne z h1 h2)]
structure Fst (o : List Int) (a t : Tm) : Prop where
  lt : Lp a t
  s : ∃ s,s ≠ 0 ∧ (∀ z,Zn a z = -1 → Zn t z = 1 → Qq (ev (cz o) z) = s) ∧ RS (cz o) (Zn t) (-s)
def Non (o : List Int) (a : Tm) : Prop := ∃ s,s ≠ 0 ∧ ∀ z,Zn a z = -1 → Qq (ev (cz o) z) = s
theorem Qpk {q : List Int} {L : List (List Rat)} (hS : Lo (cz q) L) {a : Tm} (ha : Va a) {lo hi : Rat} {l : List Tm} (hR : RI q L lo l hi) : (∀ t ∈ l, Va t) → (∀ z, hi < z → vv L z = vv L hi) → (∀ z, Zn a z = -1 → z ≤ lo → vv L z = vv L lo) → ∃ r, Pp a l = some r ∧ match r with
    | none => Non q a
    | some t => t ∈ l ∧ Fst q a t := by
  have ca := ha.cut
  induction hR with
  |
   @nil lo hi h hv =>
   intro _ hhi hH
   refine ⟨none,rfl,?_⟩
   obtain ⟨y1,hy1⟩ := ca.hi
   have hall : ∀ z,lo < z → vv L z = vv L lo := fun z hz => by
     rcases Qy z hi with e | e
     · have h1 := Fe hS hz
       have h2 : vv L hi ≤ vv L z := by
         rcases Classical.em (z = hi) with e' | e'
         · rw [e']; exact Nat.le_refl _
         · exact Fe hS (by grind)
       omega
     · rw [hhi z e,hv]
   obtain ⟨s,s0,hs⟩ := Uh hS ca hH hy1 fun z h1 _ => hall z h1
   refine ⟨s,s0,fun z hz => ?_⟩
   rcases Qy z y1 with e | e
   · exact hs z hz e
   · obtain ⟨s',s0',hs'⟩ := Uh hS ca hH hz fun z h1 _ => hall z h1
     rw [hs' z hz Rat.le_refl,← hs' y1 hy1 (Rat.le_of_lt e),hs y1 hy1 Rat.le_refl]
  |
   @cons lo hi t l h hv ht hp hl ih =>
   intro hV hhi hH
   have hvt := hV t (List.mem_cons_self ..)
   have ct := hvt.cut
   have ht' := ht
   rw [← hp] at ht'
   have ect : ∀ z,Zn t z = cq (cz t.p) t.lo t.hi z := V8 ht.l
   obtain ⟨c,c1,c2⟩ := Qlp hvt ha
   show ∃ r,((Oq t a).bind fun c => if 0 < c then some (some t) else Pp a l) = some r ∧ _
   rw [c1]
   show ∃ r,(if 0 < c then some (some t) else Pp a l) = some r ∧ _
   have hlo1 : Zn t t.lo = 1 := by rw [ect]; exact Uy Rat.le_refl
   have hlow : ∀ z,lo < z → Zn t z = 1 → vv L z = vv L lo := fun z h1 h2 => by
     rcases Qy z t.lo with e | e
     · have a1 := Fe hS h1
       have a2 : vv L t.lo ≤ vv L z := by
         rcases Classical.em (z = t.lo) with e' | e'
         · rw [e']; exact Nat.le_refl _
         · exact Fe hS (by grind)
       omega
     · rw [ect] at h2
       have hz : z ≤ t.hi := by
         rcases Qy z t.hi with e' | e'
         · exact e'
         · rw [M5 ht.l e'] at h2; omega
       rw [ht'.eq_lo e hz h2,hv]
   by_cases hc : 0 < c
   · rw [if_pos hc]
     refine ⟨some t,rfl,List.mem_cons_self ..,?_⟩
     have hlt : Lp a t := by
       rcases c2 with ⟨e,_⟩ | ⟨e,_⟩ | ⟨_,h⟩
       · omega
       · omega
       · exact h
     refine ⟨hlt,?_⟩
     obtain ⟨m,m1,m2⟩ := hlt
     obtain ⟨s,s0,hs⟩ := Uh hS ca hH m1 fun z h1 h2 => hlow z h1 (by
       rcases Classical.em (z = m) with e | e
       · rw [e]; exact m2
       · exact ct.mono' (q := z) (r := m) (by grind) (by omega))
     have hall : ∀ z,Zn a z = -1 → Zn t z = 1 → Qq (ev (cz q) z) = s := fun z h1 h2 => by
       rcases Qy z m with e | e
       · exact hs z h1 e
       · obtain ⟨s', s0', hs'⟩ := Uh hS ca hH h1 fun w w1 w2 => hlow w w1 (by
           rcases Classical.em (w = z) with e | e
           · rw [e]; exact h2
           · exact ct.mono' (q := w) (r := z) (by grind) (by omega))
         rw [hs' z h1 Rat.le_refl,← hs' m m1 (Rat.le_of_lt e),hs m m1 Rat.le_refl]
     refine ⟨s,s0,hall,?_⟩
     -- Q4e behind t
     obtain ⟨w,w1,w2,w3⟩ := As ct m2 hlo1
     have hwa : Zn a w = -1 := ca.mono m w w2 (by omega)
     have hsw := hall w hwa w1
     have hwh : w < t.hi := by
       rw [ect] at w1
       rcases Qy t.hi w with e | e
       · have := ht'.hi1
         rcases Classical.em (t.hi = w) with e' | e'
         · rw [← e'] at w1; exact absurd w1 this
         · rw [M5 ht.l (by grind)] at w1; omega
       · exact e
     have hww : vv L w = vv L t.lo := ht'.eq_lo w3 (Rat.le_of_lt hwh) (by rw [← ect]; exact w1)
     have hvv := ht.v
     have hone := Qej hS hwh (by omega)
     have hlw : Jx (cz q) w = s := by rw [U6 (by rw [hsw]; exact s0),hsw]
     rw [hlw] at hone
     have hd : ∀ z,w < z → z ≤ t.hi → Zn t z = -1 → Qq (ev (cz q) z) = -s := fun z z1 z2 z3 => by
       rw [ect] at z3
       have e1 := ht'.eq_hi (by grind) z2 (by omega)
       have e2 := Qej hS z1 (by omega)
       rw [hlw] at e2
       have hz0 : Qq (ev (cz q) z) ≠ 0 := by
         rw [Ft (by grind) z2,hp] at z3
         intro h0
         rw [if_pos h0] at z3; omega
       rw [U6 hz0] at e2; exact e2.2
     rcases ct.val t.hi with e | e | e
     · rw [ect] at e; exact absurd e ht'.hi1
     · obtain ⟨d,dp,hd'⟩ := Q4e (p := cz q) (x := t.hi) (by rw [hone.2]; omega)
       refine ⟨t.hi + d,ct.mono t.hi _ (by grind) (by omega),fun z h1 h2 => ?_⟩
       have hz : t.hi < z := by
         rcases Qy z t.hi with e' | e'
         · rcases Classical.em (z = t.hi) with e'' | e''
           · rw [e''] at h1; omega
           · have := ct.mono z t.hi (by grind) (by omega); omega
         · exact e'
       rw [hd' z hz (by grind),hone.2]
     · exact ⟨t.hi,e,fun z h1 h2 => hd z (ct.lt w1 h1) h2 h1⟩
   · rw [if_neg hc]
     have hle : ¬ Lp a t := fun h => by
       rcases c2 with ⟨e,h'⟩ | ⟨e,h'⟩ | ⟨e,_⟩
       · exact Qde ct ca h' h
       · obtain ⟨z,z1,z2⟩ := h
         have := h' z; omega
       · omega
     obtain ⟨r,r1,r2⟩ := ih (fun x hx => hV x (List.mem_cons_of_mem _ hx)) hhi fun z z1 z2 => by
       -- z lies behind a,so behind t
       have hz : Zn t z ≠ 1 := fun h => hle ⟨z,z1,h⟩
       have hzl : t.lo < z := by
         rcases Qy z t.lo with e | e
         · refine absurd ?_ hz
           rw [ect]; exact Uy e
         · exact e
       exact ht'.eq_hi hzl z2 (by rw [← ect]; exact hz)
     refine ⟨r,r1,?_⟩
     cases r with
     | none => exact r2
     | some x => exact ⟨List.mem_cons_of_mem _ r2.1,r2.2⟩
end Orq

namespace Orq
open Orr Go
theorem Q2p {c : Rat → Int} (hc : Cut c) : ∀ (n : Nat) (f : List Rat),HD f n → ∃ s,s ≠ 0 ∧ RS f c s
  |
   n,f,h => by
   rcases Si hc f with hv | ⟨s,hs,hn⟩
   · cases n with
     |
      zero =>
      exfalso
      obtain ⟨q,hq,_⟩ := Qmx hc (hv (Ql (f.getD 0 0)) (Wu h.1))
      cases f with
      | nil => exact h.1 (by simp)
      |
       cons a l =>
       have := Wz (p := l) fun k => by have := h.2 (k + 1) (by omega); rwa [List.getD_cons_succ] at this
       simp only [ev,this,List.getD_cons_zero] at hq; grind
     |
      succ n =>
      have hd : HD (Vs f) n := by
        have key : ∀ (f : List Rat) (k : Nat),(Vs f).getD k 0 = ((k + 1 : Nat) : Rat) * f.getD (k + 1) 0 := by
          intro f
          induction f with
          | nil => intro k; simp only [Vs,List.getD_nil]; grind
          |
           cons a f ih =>
           intro k
           simp only [Vs]
           rw [Xi,List.getD_cons_succ]
           cases k with
           | zero => rw [List.getD_cons_zero]; push_cast; grind
           | succ k => rw [List.getD_cons_succ,ih]; push_cast; grind
        refine ⟨fun h0 => ?_,fun k hk => by rw [key,h.2 (k + 1) (by omega)]; grind⟩
        rw [key] at h0
        rcases Rat.mul_eq_zero.1 h0 with h1 | h1
        · have := nat_pos (show 0 < n + 1 by omega); grind
        · exact h.1 h1
      obtain ⟨s,hs,h1⟩ := Q2p hc n (Vs f) hd
      exact ⟨s,hs,Qj2 hc hv h1 hs⟩
   · exact ⟨s,hs,Qg4 hc hn⟩
theorem Qvw {c : Rat → Int} (hc : Cut c) {f p q : List Rat} {s s' : Int} (hf : ∀ t,ev f t = ev p t * ev q t) (h : RS p c s) (h' : RS q c s') : RS f c (s * s') := by
  obtain ⟨y,h1,h2⟩ := h
  obtain ⟨y',h3,h4⟩ := h'
  refine ⟨if y ≤ y' then y else y',by split <;> assumption,fun z z1 z2 => ?_⟩
  rw [hf,Jl,h2 z z1 (by clear h2 h4; grind),h4 z z1 (by clear h2 h4; grind)]
theorem Qvx {c : Rat → Int} (hc : Cut c) {f o S : List Rat} {k : Rat} (hk : k ≠ 0) (hf : ∀ t,ev f t = k * (ev o t * (ev S t * ev S t))) (hnz : ¬ ∀ t,ev f t = 0) {s : Int} (h : RS o c s) : RS f c (Qq k * s) := by
  obtain ⟨n,_,hn⟩ : ∃ n,n < S.length ∧ HD S n := by
    rcases Ig S with h1 | h1
    · exact absurd (fun t => by rw [hf,h1]; grind) hnz
    · exact h1
  obtain ⟨s',hs',h'⟩ := Q2p hc n S hn
  have h1 := Qvw hc (f := Zh S S) (fun t => Qk t _ _) h' h'
  have h2 := Qvw hc (f := Zh o (Zh S S)) (fun t => Qk t _ _) h h1
  have hsq : s' * s' = 1 := by
    obtain ⟨y,y1,y2⟩ := h'
    have := y2 y y1 Rat.le_refl
    rcases Zq (ev S y) with ⟨e,_⟩ | ⟨e,_⟩ | ⟨e,_⟩
    · rw [← this,e]; rfl
    · omega
    · rw [← this,e]; rfl
  rw [hsq,Int.mul_one] at h2
  obtain ⟨y,y1,y2⟩ := h2
  exact ⟨y,y1,fun z z1 z2 => by
    have := y2 z z1 z2
    rw [Qk,Qk] at this
    rw [hf,Jl,this]⟩
structure Cp (p : List Int) : Prop where
  t : Qj p
  l : p.length ≤ 9
  b : Bd 800 p
theorem Cp.dp {p : List Int} (h : Cp p) : Dp p := ⟨h.t,h.l,Qd h.b (by omega)⟩
theorem Cp.ok {p : List Int} (h : Cp p) (h0 : p.length ≠ 0) : Okp 9 900 p := h.dp.ok h0
def Leq (a : Tm) (c : Rat → Int) : Prop := ∀ q,c q = -1 → Zn a q = -1
def O9 (p : List Int) (a : Tm) : Option Tm → Prop
  | none => p = [] ∨ ∃ s,s ≠ 0 ∧ ∀ c,Cut c → Leq a c → RS (cz p) c s
  | some t => p ≠ [] ∧ Va t ∧ Lp a t ∧ ∃ s,s ≠ 0 ∧ (∀ c,Cut c → Leq a c → (∃ m,c m = -1 ∧ Zn t m = 1) → RS (cz p) c s) ∧ RS (cz p) (Zn t) (-s)
theorem RI.len {q : List Int} {L : List (List Rat)} {lo hi : Rat} {l : List Tm} (h : RI q L lo l hi) : l.length + vv L hi ≤ vv L lo := by
  induction h with
  | nil h hv => simp; omega
  | cons h hv ht hp hl ih => have := ht.v; simp only [List.length_cons]; omega
theorem Qwu (x : Rat) : ∀ (L : List (List Rat)) (s : Int),tc x s L ≤ L.length
  | [],_ => Nat.le_refl _
  |
   f :: l,s => by
   have h1 := Qwu x l
   simp only [tc,List.length_cons]
   repeat' split
   all_goals (first | (have := h1 s; omega) | (have := h1 (Qq (ev f x)); omega))
theorem Q5o (L : List (List Rat)) (x : Rat) : vv L x ≤ L.length := Qwu x L 0
theorem Qhf {p : List Int} (h : Cp p) : ∃ l,Mn p = some l ∧ l.length ≤ 67 ∧ (∀ t ∈ l,Va t) ∧ ∀ a,Va a → ∃ r,Pp a l = some r ∧ O9 p a r ∧ ∀ t,r = some t → t ∈ l := by
  unfold Mn
  by_cases h0 : p.length = 0
  · have e : p = [] := List.eq_nil_of_length_eq_zero h0
    subst e
    exact ⟨[],rfl,by decide,(fun t ht => by cases ht),fun a _ => ⟨none,rfl,.inl rfl,fun t ht => by cases ht⟩⟩
  · obtain ⟨qp,o,q1,o1,hpt⟩ := Quq (n := 9) (s := 800) (p := p) ⟨⟨by decide,by decide⟩,h.t,h0,h.l,h.b⟩
    obtain ⟨g,sq⟩ := hpt.sq
    obtain ⟨S,hS⟩ := hpt.os
    obtain ⟨p1,p2,p3,p4,p5,p6,p7⟩ := Kh h.t h0
    have hpl := h.l
    obtain ⟨hh,th,eh⟩ := hpt.oh
    have bo : Bd 869 o := Ta (p5 800 h.b) (by omega) p1 hpt.ot th (by omega) eh
    obtain ⟨lo1,lo2⟩ := Xy p1 (by omega) eh
    have hlen := Yw hpt.ot th p1 eh lo1 lo2
    have oko : Okp 9 900 o := ⟨Qm0,hpt.ot,by omega,by omega,Qd bo (by omega)⟩
    obtain ⟨q,c,l,r1,r2,r3,hSt,hRI,hVa,hout⟩ := Qvt oko
    obtain ⟨g',q',s1,s2⟩ := Pa oko
    rw [r1] at s1
    injection s1 with s1
    subst s1
    obtain ⟨_,_,_,_,_,o6,o7⟩ := Kh hpt.ot (by omega)
    -- o has no multiple I8
    have hg1 : g' = [1] := by
      refine s2.pg.one ?_
      obtain ⟨E,hE⟩ := hpt.oq
      have hE : ∀ t,Qi qp t = Qi o t * ev E t := fun t => by have := hE t; rwa [Qg,Qg] at this
      obtain ⟨z,hz⟩ := s2.d
      have hd1 : ∀ t,Qi o t = Qi g' t * (Zy o * Qi q t) := fun t => by rw [o7,s2.e]; grind
      have hdo : ∀ t,dv (cz o) t = Qi g' t * (Zy o * ev z t) := fun t => by
        have := Qs0 (p := cz o) (q := Wv (Zy o) (cz (Qn o))) (fun t => by rw [Qg,Q5,Qg,o7]) t
        rw [this,Cm,hz]; grind
      obtain ⟨k,hk,hkk⟩ := sq.num (d := cz g') ⟨Zh (Wv (Zy o) (cz q)) E,fun t => by rw [Qg,Qg,hE,hd1,Qk,Q5,Qg]; grind⟩ ⟨Jj (Zh (Wv (Zy o) z) E) (Zh (Wv (Zy o) (cz q)) (Vs E)),fun t => by
        have := Hs (f := cz qp) (w := cz o) (u := E) (fun t => by rw [Qg,Qg,hE]) t
        rw [X9,this,hdo,Qg,Qg,hd1,Ze,Qk,Qk,Q5,Q5,X9,Qg]; grind⟩
      rcases Nat.lt_or_ge g'.length 2 with e | e
      · exact e
      · exfalso
        have h1 := (D5 s2.pg.t (by omega)).1
        have h2 := Wo (p := cz g') (q := [k]) (fun t => by rw [hkk]; simp only [ev]; grind) (g'.length - 1)
        rw [h2,List.getD_eq_getElem?_getD,List.getElem?_eq_none (by simp; omega)] at h1
        exact h1 rfl
    have hpq : ∀ t,ev (cz p) t = ((Zy p : Rat) * (Zy o : Rat)) * (ev (cz q) t * (ev S t * ev S t)) := fun t => by
      rw [Qg,Qg,p7,hS,o7,s2.e,hg1,Vl]; grind
    have hk0 : (Zy p : Rat) * (Zy o : Rat) ≠ 0 := fun h => (Rat.mul_eq_zero.1 h).elim (P8 p6) (P8 o6)
    have hpz : ¬ ∀ t,ev (cz p) t = 0 := fun h' => Dz h.t (by omega) fun t => by rw [← Qg]; exact h' t
    obtain ⟨k,hk⟩ : ∃ k,k = Qq ((Zy p : Rat) * (Zy o : Rat)) := ⟨_,rfl⟩
    have hkn : k ≠ 0 := fun h => hk0 (Za.1 (by rw [← hk]; exact h))
    have ho : o.length ≠ 0 := by omega
    rw [o1]
    show ∃ l,(if o.length = 0 then some [] else I8 o) = some l ∧ l.length ≤ 67 ∧ _
    rw [if_neg ho]
    have hb1 := Cd (Uk s2.pq.t s2.pq.n)
    have hll := hRI.len
    have hlv := Q5o (c.map cz) (-Zt q)
    have hcl := (Orr.chain_ok (p := o) ⟨hpt.ot,by omega,Qd bo (by omega)⟩ r2).1
    rw [List.length_map] at hlv
    refine ⟨l,r3,by omega,hVa,fun a ha => ?_⟩
    obtain ⟨r,n1,n2⟩ := Qpk hSt ha hRI hVa (fun z hz => (hout _ _ hz (.inl Rat.le_refl)).symm) fun z _ hz => by
      rcases Classical.em (z = -Zt q) with e | e
      · rw [e]
      · exact hout z _ (by grind) (.inr Rat.le_refl)
    refine ⟨r,n1,?_,fun t ht => by subst ht; exact n2.1⟩
    cases r with
    |
     none =>
     obtain ⟨s,hs,hz⟩ := n2
     refine .inr ⟨k * s,Int.mul_ne_zero hkn hs,fun c hc hac => ?_⟩
     obtain ⟨y,hy⟩ := hc.hi
     have h1 : RS (cz q) c s := ⟨y,hy,fun z z1 _ => hz z (hac z z1)⟩
     rw [hk]; exact Qvx hc hk0 hpq hpz h1
    |
     some t =>
     obtain ⟨hm,hlt,s,hs,hz,hrs⟩ := n2
     refine ⟨fun e => h0 (by rw [e]; rfl),hVa t hm,hlt,k * s,Int.mul_ne_zero hkn hs,fun c hc hac ⟨m,m1,m2⟩ => ?_,?_⟩
     · have h1 : RS (cz q) c s := ⟨m, m1, fun z z1 z2 => hz z (hac z z1) (by
         rcases Classical.em (z = m) with e | e
         · rw [e]; exact m2
         · exact (hVa t hm).cut.mono' (q := z) (r := m) (by grind) (by omega))⟩
       rw [hk]; exact Qvx hc hk0 hpq hpz h1
     · have := Qvx (hVa t hm).cut hk0 hpq hpz hrs
       rw [← hk] at this
       rw [show -(k * s) = k * -s by rw [Int.mul_neg]]; exact this
theorem Qum {p : List Int} (h : Cp p) {a : Tm} (ha : Va a) : ∃ r,Qbf p a = some r ∧ O9 p a r := by
  obtain ⟨l,l1,_,_,l3⟩ := Qhf h
  obtain ⟨r,r1,r2,_⟩ := l3 a ha
  refine ⟨r,?_,r2⟩
  unfold Qbf
  rw [l1]; exact r1
theorem Qa6 : ∀ (l : List Tm) (b : Tm),(∀ t ∈ b :: l,Va t) → ∃ m,Ti b l = some m ∧ m ∈ b :: l ∧ ∀ t ∈ b :: l,¬ Lp t m
  |
   [],b,h => ⟨b,rfl,List.mem_cons_self ..,fun t ht h' => by
   rw [List.mem_singleton.1 ht] at h'
   have hb := (h b (List.mem_cons_self ..)).cut
   exact Qde hb hb h' h'⟩
  |
   a :: l,b,h => by
   have ha := h a (by simp)
   have hb := h b (by simp)
   obtain ⟨c,c1,c2⟩ := Qlp ha hb
   obtain ⟨m,m1,m2,m3⟩ := Qa6 l (if c < 0 then a else b) fun t ht => by
     rcases List.mem_cons.1 ht with rfl | ht
     · split <;> assumption
     · exact h t (by simp [ht])
   refine ⟨m,by simp only [Ti]; rw [c1]; exact m1,?_,fun t ht => ?_⟩
   · rcases List.mem_cons.1 m2 with e | e
     · rw [e]; split <;> simp
     · simp [e]
   · have hm : Va m := by
       rcases List.mem_cons.1 m2 with e | e
       · rw [e]; split <;> assumption
       · exact h m (by simp [e])
     have hfst := m3 _ (List.mem_cons_self ..)
     -- what is not less stays so
     have tr : ∀ x y : Tm,Va x → Va y → ¬ Lp x y → ¬ Lp y m → ¬ Lp x m := fun x y hx hy h1 h2 h3 => by
       rcases tri hy.cut hm.cut with h4 | h4 | h4
       · exact h2 h4
       · obtain ⟨q,q1,q2⟩ := h3
         exact h1 ⟨q,q1,by rw [h4]; exact q2⟩
       · obtain ⟨q,q1,q2⟩ := h3
         obtain ⟨r,r1,r2⟩ := h4
         have := hm.cut.lt q2 r1
         exact h1 ⟨q,q1,hy.cut.mono' this (by omega)⟩
     rcases List.mem_cons.1 ht with rfl | ht
     · by_cases hc : c < 0
       · rw [if_pos hc] at hfst
         refine tr _ a hb ha ?_ hfst
         rcases c2 with ⟨_,h'⟩ | ⟨e,_⟩ | ⟨e,_⟩
         · exact fun h'' => Qde ha.cut hb.cut h' h''
         · omega
         · omega
       · rw [if_neg hc] at hfst; exact hfst
     · rcases List.mem_cons.1 ht with rfl | ht
       · by_cases hc : c < 0
         · rw [if_pos hc] at hfst; exact hfst
         · rw [if_neg hc] at hfst
           refine tr _ b ha hb ?_ hfst
           rcases c2 with ⟨e,_⟩ | ⟨_,h'⟩ | ⟨_,h'⟩
           · omega
           · rintro ⟨q,q1,q2⟩
             have := h' q; omega
           · exact fun h'' => Qde ha.cut hb.cut h'' h'
       · exact m3 t (by simp [ht])
end Orq

namespace Orr
open Go Go.Proofs Orq
set_option maxRecDepth 10000
theorem Dp.pb {p : List Int} (h : Dp p) : Pb p := ⟨h.t,by have := h.l; omega,Qd h.b (by have := h.l; omega)⟩
theorem Q6g {p : List Int} {a : Tm} (hp : Dp p) (ha : Va a) : Qc Tryz.prog 181 [pr p,.agg (ta a)] [.one (.int .i64 (Ll a p))] := Qxv (Dp.pb hp) ha.tb (Q40 hp ha).1
theorem Q57 {p : List Int} {a : Tm} (hp : Dp p) (ha : Va a) : Qc Tryz.prog 180 [pr p,.one (.sh (ta a))] [.one (.int .i64 (Ll a p))] := w tt Tryz.func180 rfl [.c [] (Q6g hp ha)] rfl rfl trivial
theorem Qyg {p : List Int} {fid : Nat} {l1 : List LV} {sgn : List Int → Int} (hp : Dp p) (h : ∀ p,Dp p → Qc Tryz.prog fid [pr p,.one (.sh l1)] [.one (.int .i64 (sgn p))]) : Qc Tryz.prog 179 [pr p,.one (.fn fid [] [.sh l1])] [.one (.int .i64 (Y8 sgn p.length p))] := by
  have hpb := Dp.pb hp
  refine Z6 Tryz.func179 rfl ?_
  refine go tt [.c [] (Z7 hpb.t hpb.ln hpb.bd)] rfl trivial ?_
  refine lp (S := List Int) 0 (fun L1 s => (0,.v (pr s)) :: L1) (fun _ => []) (fun s => s.length) (fun s => Dp s ∧ Y8 sgn s.length s = Y8 sgn p.length p) p ⟨hp,rfl⟩ rfl (fun _ _ => rfl) rfl fun r ⟨j1,j4⟩ => ?_
  rw [← j4]
  have jb := Dp.pb j1
  by_cases h0 : r.length = 0
  · have e := D4 sgn h0
    rw [e]
    exact en tt [.f (by simp; exact List.eq_nil_of_length_eq_zero h0)] rfl rfl trivial
  · have hs := h r j1
    by_cases hz : sgn r = 0
    · have hlp := Vg r
      refine go tt [.t (by simp; omega),.c [] hs,.f (by simpa using hz),.c [] (Gg jb.ln jb.bd)] rfl trivial ?_
      exact rd (Zk r) (by omega) ⟨j1.der,by rw [← D3 sgn (by omega) hz]⟩ rfl
    · rw [D2 sgn (by omega) hz]
      exact en tt [.t (by simp; omega),.c [] hs,.t (by simpa using hz)] rfl rfl trivial
abbrev gmA (a : Tm) (p : List Int) : Int := Qo8 (Ll a) p
theorem Q10 {p : List Int} {a : Tm} (hp : Dp p) (ha : Va a) : Qc Tryz.prog 129 [pr p,.agg (ta a)] [.one (.int .i64 (gmA a p))] :=
  w tt Tryz.func129 rfl [.c [] (Qyg (sgn := Ll a) hp fun _ h => Q57 h ha)] rfl rfl trivial
theorem Qry {t : Tm} {a b : Pt} {ps : List (List Int)} (hps : ∀ p ∈ ps,Dp p) (ht : Va t) (hl : ps.length < 1000) : Qc Tryz.prog 245 [.agg (ta t),.agg (Vp a),.agg (Vp b),.one (.row (Js ps))] [.one (.bool (Mf (Ll t) a b ps))] := by
  refine Z6 Tryz.func245 rfl ?_
  have hpl : (Js ps).length = ps.length := by simp [Js]
  refine go tt [] rfl trivial ?_
  refine lp (S := Nat) 3 (fun L1 i => (13,.v (.one (.int .i64 (i : Int)))) :: L1) (fun _ => [.blk 67 (ta t),.blk 35 (Vp a),.blk 35 (Vp b)]) (fun i => ps.length - i) (fun i => i ≤ ps.length ∧ Mf (Ll t) a b (ps.drop i) = Mf (Ll t) a b ps) 0 ⟨Nat.zero_le _,rfl⟩ rfl (fun _ _ => rfl) rfl fun i ⟨hi,he⟩ => ?_
  rw [← he]
  by_cases hlt : i < ps.length
  · obtain ⟨p,hp⟩ : ∃ p,ps[i]? = some p := ⟨_,List.getElem?_eq_getElem hlt⟩
    have hd : ps.drop i = p :: ps.drop (i + 1) := by
      rw [List.drop_eq_getElem_cons hlt]
      rw [List.getElem?_eq_getElem hlt] at hp; injection hp with hp; rw [hp]
    have hpb := hps p (List.mem_of_getElem? hp)
    rw [hd] at he ⊢
    by_cases h0 : 0 < p.length
    · exact en tt [.t (by simp [hpl]; omega),.x (Xj hp),.t (by simp; omega),.c [] (Q10 hpb ht)] rfl (by simp only [Mf]; rw [if_pos h0]) trivial
    · refine go tt [.t (by simp [hpl]; omega),.x (Xj hp),.f (by simp; exact List.eq_nil_of_length_eq_zero (by omega))] rfl (by simp [Qa]; omega) ?_
      exact rd (i + 1) (by omega) ⟨hlt,by simp only [Mf]; rw [if_neg h0]⟩ rfl
  · have hd : ps.drop i = [] := List.drop_eq_nil_of_le (by omega)
    rw [hd]
    exact en tt [.f (by simp [hpl]; omega)] rfl rfl trivial
structure Sc (k : Crv) : Prop where
  n : Nml k
  c : Cs 90 3 k
theorem Sc.cb {k : Crv} (h : Sc k) : Cb k := h.c.mono (by omega) (by omega)
theorem Aq {a b : Crv} (ha : Sc a) (hb : Sc b) : Cp (Yk a b) := by
  refine ⟨Q8 _ _,?_,Qd (Sn (Zj hb.c.x ha.c.d) (Zj ha.c.x hb.c.d)) (by omega)⟩
  have := Gt (Qu b.x a.d) (Qu a.x b.d)
  have := Q6 b.x a.d; have := Q6 a.x b.d; have := ha.c.lx; have := hb.c.lx
  unfold Yk; omega
theorem Ap {a b : Crv} (ha : Sc a) (hb : Sc b) : Cp (Vq a b) := by
  refine ⟨Q8 _ _,?_,Qd (Sn (Zj hb.c.y ha.c.d) (Zj ha.c.y hb.c.d)) (by omega)⟩
  have := Gt (Qu b.y a.d) (Qu a.y b.d)
  have := Q6 b.y a.d; have := Q6 a.y b.d; have := ha.c.ly; have := hb.c.ly
  unfold Vq; omega
theorem Qqp {a b : Pt} {t : Tm} (ha : Sc a.c) (hb : Sc b.c) (ht : Va t) : Qc Tryz.prog 212 [.agg (Vp a),.agg (Vp b),.agg (ta t)] [.one (.bool (Cc (Ll t) a b))] :=
  w tt Tryz.func212 rfl [.c [] (Qk3 ha.n hb.n ha.cb hb.cb),.c [] (Qky ha.n hb.n ha.cb hb.cb),.c [] (Qry (t := t) (a := a) (b := b) (ps := [Yk a.c b.c,Vq a.c b.c]) (fun p hp => by
    simp at hp
    rcases hp with rfl | rfl
    · exact (Aq ha hb).dp
    · exact (Ap ha hb).dp) ht (show 2 < 1000 by decide))] rfl rfl trivial
theorem Q5l {q : Rat} (hq : Qs 900 q) : Va (tq q) := by
  have hd := q.den_nz
  refine ⟨.inl ⟨rfl,?_⟩,Qns q,by show 2 ≤ 9; omega,by show 2 ≤ 2; omega,Q55 (hq.mono (by omega)),q.den,q.num.natAbs + 1,0,?_,?_,by omega,?_⟩
  · have e : (q.num : Rat) = q * (q.den : Rat) := by
      have : (q.num : Rat) / (((q.den : Int)) : Rat) = q := by rw [Xb,Rat.num_divInt_den]
      have h2 : (q.num : Rat) / (q.den : Rat) * (q.den : Rat) = q.num := Rat.div_mul_cancel (by have := Orq.nat_pos q.den_pos; grind)
      rw [show (q.num : Rat) / (q.den : Rat) = q from this] at h2; exact h2.symm
    show Qi [-q.num,(q.den : Int)] q = 0
    simp only [Qi]
    rw [Rat.intCast_neg,e,show (((q.den : Int)) : Rat) = (q.den : Rat) from rfl]; grind
  all_goals first | (have h1 : Qm (q.den : Int) ≤ 900 := hq.2; have h2 : Qm ((q.num.natAbs + 1 : Nat) : Int) ≤ 901 := Qpb hq.1; omega) | skip
  all_goals
    refine ⟨⟨q.num,?_⟩,?_,q.den_pos⟩
    · rw [Nat.pow_zero,Nat.mul_one]
      have : (q.num : Rat) / (((q.den : Int)) : Rat) = q := by rw [Xb,Rat.num_divInt_den]
      have h2 : (q.num : Rat) / (q.den : Rat) * (q.den : Rat) = q.num := Rat.div_mul_cancel (by have := Orq.nat_pos q.den_pos; grind)
      rw [show (q.num : Rat) / (q.den : Rat) = q from this] at h2; exact h2
    · have h1 : Ql q ≤ Ql (q.num : Rat) := by
        have e : (q.num : Rat) = q * (q.den : Rat) := by
          have : (q.num : Rat) / (((q.den : Int)) : Rat) = q := by rw [Xb,Rat.num_divInt_den]
          have h2 : (q.num : Rat) / (q.den : Rat) * (q.den : Rat) = q.num := Rat.div_mul_cancel (by have := Orq.nat_pos q.den_pos; grind)
          rw [show (q.num : Rat) / (q.den : Rat) = q from this] at h2; exact h2.symm
        rw [e,Fp]
        have hd1 : (1 : Rat) ≤ (q.den : Rat) := by
          have : ((1 : Nat) : Rat) ≤ (q.den : Rat) := Rat.natCast_le_natCast.2 q.den_pos
          exact this
        have e2 : Ql (q.den : Rat) = (q.den : Rat) := by unfold Ql; rw [if_neg (by grind)]
        rw [e2]
        have := Kd (a := Ql q) (c := 1) (Z5 q) Rat.le_refl (by decide) hd1
        grind
      rw [Jn] at h1
      refine Rat.le_trans h1 (Rat.natCast_le_natCast.2 (by omega))
end Orr

namespace Orr
open Go Go.Proofs Orq
set_option maxRecDepth 10000
theorem Qaj {p q : List Int} (hp : Cp p) (hq : Cp q) : Cp (Cn p q) := by unfold Cn; split <;> assumption
theorem Qx4 {a b : Pt} {t : Tm} (ha : Sc a.c) (hb : Sc b.c) (ht : Va t) : Qc Tryz.prog 132 [.one (.int .i64 1),.agg (ta t),.one (.row [Vp a,Vp b])] [.agg (O2 (Ul (Ll t) a b)),.one (.int .i64 0)] := by
  have h1 := Aq ha hb
  have h2 := Ap ha hb
  refine Z6 Tryz.func132 rfl ?_
  refine go tt [.c [] Qof,.f rfl] rfl trivial ?_
  refine lp (S := Nat) 3 (fun L1 i => (22,.v (.one (.int .i64 (i : Int)))) :: L1) (fun i => [.blk 67 (ta t),.blk 161 zCt,.blk 161 [.int .i64 1,.int .i64 (if 1 ≤ i then a.id else 0),.int .i64 (if 2 ≤ i then b.id else 0),.int .i64 0,.int .i64 0,.nils,.int .i64 0]]) (fun i => 2 - i) (fun i => i ≤ 2) 0 (Nat.zero_le _) rfl (fun _ _ => rfl) rfl fun i hi => ?_
  rcases (show i = 0 ∨ i = 1 ∨ i = 2 by omega) with rfl | rfl | rfl
  · refine go tt [.t rfl,.x (i := 0) (xs := Vp a) rfl,.i 0] rfl (by simp [Qa]) ?_
    exact rd 1 (by omega) (by omega) rfl
  · refine go tt [.t rfl,.x (i := 1) (xs := Vp b) rfl,.i 1] rfl (by simp [Qa]) ?_
    exact rd 2 (by omega) (by omega) rfl
  · exact en tt [.f rfl,.t rfl,.x (i := 0) (xs := Vp a) rfl,.x (i := 1) (xs := Vp b) rfl,.c [] (Qk3 ha.n hb.n ha.cb hb.cb),.x (i := 0) (xs := Vp a) rfl,.x (i := 1) (xs := Vp b) rfl,.c [] (Qky ha.n hb.n ha.cb hb.cb),.c [] Qro,.c [] (Q10 (Qaj h1 h2).dp ht)] rfl rfl trivial
end Orr

namespace Orr
variable {α : Type}
def Jy (lt : α → α → Bool) (out : List α) (x : α) : Nat → Nat
  | 0 => 0
  |
   k + 1 => match out[k]? with
   | some y => if lt x y = true then Jy lt out x k else k + 1
   | none => k + 1
theorem Qdr (lt : α → α → Bool) (out : List α) (x : α) : ∀ k,Jy lt out x k ≤ k
  | 0 => Nat.le_refl _
  |
   k + 1 => by
   simp only [Jy]
   split
   · split
     · exact Nat.le_succ_of_le (Qdr lt out x k)
     · exact Nat.le_refl _
   · exact Nat.le_refl _
theorem Nv {lt : α → α → Bool} {out : List α} {x y : α} {k : Nat} (hx : out[k]? = some y) (h : lt x y = true) : Jy lt out x (k + 1) = Jy lt out x k := by
  simp only [Jy,hx,h,if_true]
theorem Tu {lt : α → α → Bool} {out : List α} {x y : α} {k : Nat} (hx : out[k]? = some y) (h : lt x y = false) : Jy lt out x (k + 1) = k + 1 := by
  simp [Jy,hx,h]
def Kt (lt : α → α → Bool) (out : List α) (x : α) : List α := out.take (Jy lt out x out.length) ++ x :: out.drop (Jy lt out x out.length)
theorem Qtz (lt : α → α → Bool) (out : List α) (x : α) : (Kt lt out x).length = out.length + 1 := by
  have := Qdr lt out x out.length
  simp [Kt]; omega
theorem Ii {lt : α → α → Bool} {out : List α} {x y : α} : y ∈ Kt lt out x ↔ y = x ∨ y ∈ out := by
  have h : y ∈ out ↔ y ∈ out.take (Jy lt out x out.length) ∨ y ∈ out.drop (Jy lt out x out.length) := by
    rw [← List.mem_append,List.take_append_drop]
  simp only [Kt,List.mem_append,List.mem_cons,h]
  constructor
  · rintro (h | h | h)
    · exact .inr (.inl h)
    · exact .inl h
    · exact .inr (.inr h)
  · rintro (h | h | h)
    · exact .inr (.inl h)
    · exact .inl h
    · exact .inr (.inr h)
def Z8 (lt : α → α → Bool) (l : List α) : List α := l.foldl (Kt lt) []
theorem Qkb (lt : α → α → Bool) (l : List α) (x : α) : Z8 lt (l ++ [x]) = Kt lt (Z8 lt l) x := by simp [Z8,List.foldl_append]
theorem H4 {lt : α → α → Bool} {l : List α} {i : Nat} {x : α} (h : l[i]? = some x) : Z8 lt (l.take (i + 1)) = Kt lt (Z8 lt (l.take i)) x := by
  rw [List.take_succ,h]; exact Qkb _ _ _
theorem Ib (lt : α → α → Bool) : ∀ (l acc : List α),(l.foldl (Kt lt) acc).length = acc.length + l.length
  | [],acc => by simp
  | c :: l,acc => by simp only [List.foldl_cons]; rw [Ib lt l (Kt lt acc c),Qtz]; simp; omega
theorem J6 (lt : α → α → Bool) (l : List α) : (Z8 lt l).length = l.length := by unfold Z8; rw [Ib]; simp
theorem P6 (lt : α → α → Bool) : ∀ (l acc : List α) {y : α},y ∈ l.foldl (Kt lt) acc ↔ y ∈ l ∨ y ∈ acc
  | [],acc,y => by simp
  |
   c :: l,acc,y => by
   simp only [List.foldl_cons]
   rw [P6 lt l,Ii,List.mem_cons]
   constructor
   · rintro (h | h | h)
     · exact .inl (.inr h)
     · exact .inl (.inl h)
     · exact .inr h
   · rintro ((h | h) | h)
     · exact .inr (.inl h)
     · exact .inl h
     · exact .inr (.inr h)
theorem Wh {lt : α → α → Bool} {l : List α} {y : α} : y ∈ Z8 lt l ↔ y ∈ l := by
  unfold Z8; rw [P6]; simp
end Orr

namespace Orr
open Go Orq
structure Wt where
  c : Ct
  known : Bool
  fails : Option Tm
def f0 : Option Tm → LV | none => .row [] | some t => pl t.p
def f1 : Option Tm → LV | none => .bool false | some t => sg t.lo.num
def f2 : Option Tm → LV | none => .row [] | some t => mg t.lo.num
def f3 : Option Tm → LV | none => .bool false | some t => sg (t.lo.den : Int)
def f4 : Option Tm → LV | none => .row [] | some t => mg (t.lo.den : Int)
def f5 : Option Tm → LV | none => .bool false | some t => sg t.hi.num
def f6 : Option Tm → LV | none => .row [] | some t => mg t.hi.num
def f7 : Option Tm → LV | none => .bool false | some t => sg (t.hi.den : Int)
def f8 : Option Tm → LV | none => .row [] | some t => mg (t.hi.den : Int)
abbrev fl (o : Option Tm) : List LV := [f0 o,f1 o,f2 o,f3 o,f4 o,f5 o,f6 o,f7 o,f8 o]
abbrev wl (w : Wt) : List LV := [.int .i64 w.c.kind,.int .i64 w.c.i0,.int .i64 w.c.i1,.int .i64 w.c.i2,.int .i64 w.c.i3,pl w.c.p,.int .i64 w.c.want,.bool w.known,.bool w.fails.isSome,f0 w.fails,f1 w.fails,f2 w.fails,f3 w.fails,f4 w.fails,f5 w.fails,f6 w.fails,f7 w.fails,f8 w.fails]
def Mr (l : List Wt) : List (List LV) := l.map fun w => wl w
theorem Yp {l : List Wt} {i : Nat} {w : Wt} (h : l[i]? = some w) : (Mr l)[i]? = some (wl w) := Z9 h
theorem W9 (l : List Wt) : (Mr l).length = l.length := by simp [Mr]
structure Cr where
  now : Tm
  l : List Wt
  ev : Int
abbrev Re (c : Cr) (r0 r1 : List (List LV)) : List LV := .bool true :: pl c.now.p :: sg c.now.lo.num :: mg c.now.lo.num :: sg (c.now.lo.den : Int) :: mg (c.now.lo.den : Int) :: sg c.now.hi.num :: mg c.now.hi.num :: sg (c.now.hi.den : Int) :: mg (c.now.hi.den : Int) :: .row (Mr c.l) :: .int .i64 c.ev :: [.row r0,.row r1]
structure WtOk (w : Wt) : Prop where
  p : Cp w.c.p
  f : ∀ t,w.fails = some t → Va t
structure CrOk (c : Cr) : Prop where
  n : Va c.now
  l : ∀ w ∈ c.l,WtOk w
  k : c.l.length ≤ 1000
def Qv5 (a b : Ct) : Bool := decide ([a.kind,a.i0,a.i1,a.i2,a.i3] = [b.kind,b.i0,b.i1,b.i2,b.i3])
def fresh (x : Ct) : Wt := ⟨x,false,none⟩
def Ra : List Wt → Ct → Tm → Option Wt
  | [],x,_ => some (fresh x)
  |
   w :: l,x,at_ => if Qv5 w.c x = true ∧ w.known = true ∧ w.c.p = x.p then
     match w.fails with
     | none => some ⟨x,true,none⟩
     | some t => (Oq t at_).bind fun c => if 0 < c then some ⟨x,true,some t⟩ else Ra l x at_
   else Ra l x at_
def Qa5 (old : List Wt) (at_ : Tm) : List Ct → Option (List Wt)
  | [] => some []
  | x :: l => (Ra old x at_).bind fun w => (Qa5 old at_ l).bind fun r => some (w :: r)
end Orr

namespace Orr
open Go Go.Proofs Orq
set_option maxRecDepth 10000
theorem Qqx {T : Nat} {c : Cr} {r0 r1 : List (List LV)} (hc : Va c.now) : Ja Tryz.prog 134 [.one (.ow 0 0)] [.blk T (Re c r0 r1)] [.agg (ta c.now)] [.blk T (Re c r0 r1)] := by
  have cl := Rm (b := c.now) (l := []) hc.tb (fun t ht => by cases ht) (by decide) rfl
  refine Z6 Tryz.func134 rfl ?_
  exact ed tt [] [0] [.f rfl,.c [] cl] rfl trivial
theorem Qqw {T : Nat} {c : Cr} {r0 r1 : List (List LV)} (hc : CrOk c) : Ja Tryz.prog 37 [.one (.ow 0 0)] [.blk T (Re c r0 r1)] [.one (.row (Z2 (Xu (c.l.map (·.c)))))] [.blk T (Re c r0 r1)] := by
  have hk := hc.k
  have hw := W9 c.l
  refine Z6 Tryz.func37 rfl ?_
  refine go tt [.o 3 161 7] rfl trivial ?_
  refine lp (S := Nat) 2 (fun L1 i => (11,.v (.one (.int .i64 (i : Int)))) :: (3,.v (.one (.orow 1 7 none))) :: L1) (fun i => [.blk T (Re c r0 r1),.row false 161 7 (Z2 ((c.l.map (·.c)).take i))]) (fun i => c.l.length - i) (fun i => i ≤ c.l.length) 0 (Nat.zero_le _) rfl (fun _ _ => rfl) rfl fun i hi => ?_
  by_cases hlt : i < c.l.length
  · obtain ⟨x,hx⟩ : ∃ x,c.l[i]? = some x := ⟨_,List.getElem?_eq_getElem hlt⟩
    have hm : ∀ y ∈ [O2 x.c],y.length = 7 := fun y hy => by rw [List.mem_singleton.1 hy]; rfl
    have hg : (c.l.map (·.c)).take (i + 1) = (c.l.map (·.c)).take i ++ [x.c] := by
      rw [List.take_succ,List.getElem?_map,hx]; rfl
    have hl : decide ((i : Int) < ((Mr c.l).length : Int)) = true := by simp [hw]; omega
    obtain ⟨xc,xk,xf⟩ := x
    cases xf <;> (refine go tt [.t hl,.x (Yp hx),.s (sz := 7) hm] rfl (by simp [Qa,Uz]; omega) ?_; exact rd (i + 1) (by omega) hlt (by rw [hg]; simp [Z2]; rfl))
  · obtain rfl : i = c.l.length := by omega
    have e : (c.l.map (·.c)).take c.l.length = c.l.map (·.c) := List.take_of_length_le (by simp)
    rw [e]
    have cs := Qia (l := c.l.map (·.c)) (fun x hx => by
      obtain ⟨w,hw,rfl⟩ := List.mem_map.1 hx
      exact Dp.pb (hc.l w hw).p.dp) (by simp; omega)
    exact ed tt [] [0] [.f (by simp [hw]),.c [] cs] rfl trivial
theorem Q29 {T : Nat} {c : Cr} {r0 r1 : List (List LV)} {x : Ct} {at_ : Tm} {w : Wt} (hc : CrOk c) (hx : Cp x.p) (ha : Va at_) (h : Ra c.l x at_ = some w) : Ja Tryz.prog 173 [.one (.ow 0 0),.agg (O2 x),.agg (ta at_)] [.blk T (Re c r0 r1)] [.agg (wl w)] [.blk T (Re c r0 r1)] := by
  have hk := hc.k
  have hw := W9 c.l
  refine Z6 Tryz.func173 rfl ?_
  refine go tt [] rfl trivial ?_
  refine lp (S := Nat) 4 (fun L1 i => (14,.v (.one (.int .i64 (i : Int)))) :: L1) (fun _ => [.blk T (Re c r0 r1),.blk 161 (O2 x),.blk 67 (ta at_),.blk 164 [.int .i64 0,.int .i64 0,.int .i64 0,.int .i64 0,.int .i64 0,.nils,.int .i64 0,.bool false,.bool false,.nils,.bool false,.nils,.bool false,.nils,.bool false,.nils,.bool false,.nils]]) (fun i => c.l.length - i) (fun i => i ≤ c.l.length ∧ Ra (c.l.drop i) x at_ = some w) 0 ⟨Nat.zero_le _,h⟩ rfl (fun _ _ => rfl) rfl fun i ⟨hi,hf⟩ => ?_
  by_cases hlt : i < c.l.length
  · obtain ⟨v,hv⟩ : ∃ v,c.l[i]? = some v := ⟨_,List.getElem?_eq_getElem hlt⟩
    have hdr : c.l.drop i = v :: c.l.drop (i + 1) := by
      rw [List.drop_eq_getElem_cons hlt]; congr 1
      have := List.getElem?_eq_getElem hlt; rw [hv] at this; injection this with this; exact this.symm
    have hvo := hc.l v (List.mem_of_getElem? hv)
    rw [hdr] at hf
    simp only [Ra] at hf
    have hl : decide ((i : Int) < ((Mr c.l).length : Int)) = true := by simp [hw]; omega
    by_cases A : Qv5 v.c x = true
    · have A' : (!decide ([v.c.kind, v.c.i0, v.c.i1, v.c.i2, v.c.i3] = [x.kind, x.i0, x.i1, x.i2, x.i3])) = false := by
        unfold Qv5 at A; rw [A]; rfl
      by_cases B : v.known = true
      · have B' : (!v.known) = false := by rw [B]; rfl
        have cs := Qx8 (p := v.c.p) (q := x.p) (Dp.pb hvo.p.dp).ln (Dp.pb hx.dp).ln (Dp.pb hvo.p.dp).bd (Dp.pb hx.dp).bd
        rw [hvo.p.t,hx.t] at cs
        by_cases C : v.c.p = x.p
        · have C' : (!decide (v.c.p = x.p)) = false := by simp [C]
          rw [if_pos ⟨A,B,C⟩] at hf
          obtain ⟨vc,vk,vf⟩ := v
          cases vf with
          |
           none =>
           injection hf with hf; subst hf
           exact ed tt [] [0] [.t hl,.x (Yp hv),.g 24 false A',.g 29 false B',.c [] cs,.f C',.g 41 true rfl,.t rfl] rfl trivial
          |
           some t =>
           obtain ⟨r,r1',hf⟩ := Option.bind_eq_some_iff.1 hf
           have cc := Qb9 (hvo.f t rfl).tb ha.tb r1'
           by_cases D : 0 < r
           · rw [if_pos D] at hf
             injection hf with hf; subst hf
             exact ed tt [] [0] [.t hl,.x (Yp hv),.g 24 false A',.g 29 false B',.c [] cs,.f C',.g 41 false rfl,.c [] cc,.t (by simpa using D)] rfl trivial
           · rw [if_neg D] at hf
             refine go tt [.t hl,.x (Yp hv),.g 24 false A',.g 29 false B',.c [] cs,.f C',.g 41 false rfl,.c [] cc,.f (by simpa using D)] rfl (by simp [Qa]; omega) ?_
             exact rd (i + 1) (by omega) ⟨hlt,hf⟩ rfl
        · rw [if_neg fun h => C h.2.2] at hf
          refine go tt [.t hl,.x (Yp hv),.g 24 false A',.g 29 false B',.c [] cs,.t (by simp [C])] rfl (by simp [Qa]; omega) ?_
          exact rd (i + 1) (by omega) ⟨hlt,hf⟩ rfl
      · rw [if_neg fun h => B h.2.1] at hf
        refine go tt [.t hl,.x (Yp hv),.g 24 false A',.g 29 true (by simpa using B),.t rfl] rfl (by simp [Qa]; omega) ?_
        exact rd (i + 1) (by omega) ⟨hlt,hf⟩ rfl
    · rw [if_neg fun h => A h.1] at hf
      refine go tt [.t hl,.x (Yp hv),.g 24 true (by rw [show decide ([v.c.kind,v.c.i0,v.c.i1,v.c.i2,v.c.i3] = [x.kind,x.i0,x.i1,x.i2,x.i3]) = false from Bool.eq_false_iff.2 A]; rfl),.g 29 true rfl,.t rfl] rfl (by simp [Qa]; omega) ?_
      exact rd (i + 1) (by omega) ⟨hlt,hf⟩ rfl
  · obtain rfl : i = c.l.length := by omega
    rw [List.drop_length] at hf
    simp only [Ra] at hf
    injection hf with hf; subst hf
    exact ed tt [] [0] [.f (by simp [hw])] rfl trivial
end Orr

namespace Orr
open Go Go.Proofs Orq
set_option maxRecDepth 10000
theorem Ip {old : List Wt} {at_ : Tm} : ∀ {l : List Ct} {ws : List Wt},Qa5 old at_ l = some ws → ws.length = l.length ∧ ∀ (i : Nat) (x : Ct),l[i]? = some x → ∃ w,Ra old x at_ = some w ∧ ws[i]? = some w
  | [],ws,h => by injection h with h; subst h; exact ⟨rfl,fun i x hx => by simp at hx⟩
  |
   y :: l,ws,h => by
   simp only [Qa5] at h
   obtain ⟨w,hw,h⟩ := Option.bind_eq_some_iff.1 h
   obtain ⟨r,hr,h⟩ := Option.bind_eq_some_iff.1 h
   injection h with h; subst h
   obtain ⟨a,b⟩ := Ip hr
   refine ⟨by simp [a],fun i x hx => ?_⟩
   cases i with
   | zero => injection hx with hx; subst hx; exact ⟨w,hw,rfl⟩
   | succ i => exact b i x (by simpa using hx)
theorem Dv {l : List Wt} {i : Nat} {w : Wt} (h : l[i]? = some w) : Mr (l.take (i + 1)) = Mr (l.take i) ++ [wl w] := by
  rw [List.take_succ,h]; simp [Mr]
theorem Qx1 {T : Nat} {c : Cr} {r0 r1 : List (List LV)} {at_ : Tm} {l : List Ct} {ws : List Wt} (hc : CrOk c) (ha : Va at_) (hl : ∀ x ∈ l,Cp x.p) (hn : l.length ≤ 1000) (h : Qa5 c.l at_ (Xu l) = some ws) : Ja Tryz.prog 124 [.one (.ow 0 0),.agg (ta at_),.one (.bool true),.one (.row (Z2 l))] [.blk T (Re c r0 r1)] [] [.blk T (Re ⟨at_,ws,c.ev⟩ r0 r1)] := by
  have cs := Qia (l := l) (fun x hx => Dp.pb (hl x hx).dp) (by omega)
  have cl := Rm (b := at_) (l := []) ha.tb (fun t ht => by cases ht) (by decide) rfl
  obtain ⟨h1,h2⟩ := Ip h
  have hs : (Xu l).length = l.length := V1 l
  refine Z6 Tryz.func124 rfl ?_
  refine go tt [.o 8 164 18,.c [] cs] rfl trivial ?_
  refine lp (S := Nat) 3 (fun L1 i => (15,.v (.one (.int .i64 (i : Int)))) :: (8,.v (.one (.orow 2 18 none))) :: L1) (fun i => [.blk T (Re c r0 r1),.blk 67 (ta at_),.row false 164 18 (Mr (ws.take i))]) (fun i => ws.length - i) (fun i => i ≤ ws.length) 0 (Nat.zero_le _) rfl (fun _ _ => rfl) rfl fun i hi => ?_
  by_cases hlt : i < ws.length
  · obtain ⟨x,hx⟩ : ∃ x,(Xu l)[i]? = some x := ⟨_,List.getElem?_eq_getElem (by omega)⟩
    obtain ⟨w,hw,hw'⟩ := h2 i x hx
    have hm : ∀ y ∈ [wl w],y.length = 18 := fun y hy => by rw [List.mem_singleton.1 hy]; rfl
    have hlt' : decide ((i : Int) < ((Z2 (Xu l)).length : Int)) = true := by simp [Z2]; omega
    have ck := Q29 (T := T) (r0 := r0) (r1 := r1) hc (hl x (S9 (List.mem_of_getElem? hx))) ha hw
    have hg := Dv hw'
    obtain ⟨wc,wk,wf⟩ := w
    cases wf <;> (refine go tt [.t hlt',.x (Ar hx),.t rfl,.c [0] ck,.s (sz := 18) hm] rfl (by simp [Qa,W9]; omega) ?_; exact rd (i + 1) (by omega) hlt (by rw [hg]; rfl))
  · obtain rfl : i = ws.length := by omega
    rw [List.take_length]
    have hge : decide ((ws.length : Int) < ((Z2 (Xu l)).length : Int)) = false := by simp [Z2]; omega
    exact ed tt [] [0] [.f hge,.p 2,.c [] cl] rfl trivial
abbrev crz (r0 r1 : LV) : List LV := [.bool false,.nils,.bool false,.nils,.bool false,.nils,.bool false,.nils,.bool false,.nils,.nils,.int .i64 0,r0,r1]
theorem Qx0 {T : Nat} {r0 r1 : List (List LV)} {at_ : Tm} {l : List Ct} (ha : Va at_) (hl : ∀ x ∈ l,Cp x.p) (hn : l.length ≤ 1000) : Ja Tryz.prog 124 [.one (.ow 0 0),.agg (ta at_),.one (.bool false),.one (.row (Z2 l))] [.blk T (crz (.row r0) (.row r1))] [] [.blk T (Re ⟨at_,(Xu l).map fresh,0⟩ r0 r1)] := by
  have cs := Qia (l := l) (fun x hx => Dp.pb (hl x hx).dp) (by omega)
  have cl := Rm (b := at_) (l := []) ha.tb (fun t ht => by cases ht) (by decide) rfl
  have hs : (Xu l).length = l.length := V1 l
  refine Z6 Tryz.func124 rfl ?_
  refine go tt [.o 8 164 18,.c [] cs] rfl trivial ?_
  refine lp (S := Nat) 3 (fun L1 i => (15,.v (.one (.int .i64 (i : Int)))) :: (8,.v (.one (.orow 2 18 none))) :: L1) (fun i => [.blk T (crz (.row r0) (.row r1)),.blk 67 (ta at_),.row false 164 18 (Mr (((Xu l).map fresh).take i))]) (fun i => l.length - i) (fun i => i ≤ l.length) 0 (Nat.zero_le _) rfl (fun _ _ => rfl) rfl fun i hi => ?_
  by_cases hlt : i < l.length
  · obtain ⟨x,hx⟩ : ∃ x,(Xu l)[i]? = some x := ⟨_,List.getElem?_eq_getElem (by omega)⟩
    have hm : ∀ y ∈ [wl (fresh x)],y.length = 18 := fun y hy => by rw [List.mem_singleton.1 hy]; rfl
    have hlt' : decide ((i : Int) < ((Z2 (Xu l)).length : Int)) = true := by simp [Z2]; omega
    have hg := Dv (l := (Xu l).map fresh) (i := i) (w := fresh x) (by rw [List.getElem?_map,hx]; rfl)
    refine go tt [.t hlt',.x (Ar hx),.z 20,.f rfl,.s (sz := 18) hm] rfl (by simp [Qa,W9]; omega) ?_
    exact rd (i + 1) (by omega) hlt (by rw [hg]; rfl)
  · obtain rfl : i = l.length := by omega
    rw [List.take_of_length_le (by simp; omega)]
    have hge : decide ((l.length : Int) < ((Z2 (Xu l)).length : Int)) = false := by simp [Z2]; omega
    exact ed tt [] [0] [.f hge,.p 2,.c [] cl] rfl trivial
theorem Qn9 {T : Nat} {r0 r1 : List (List LV)} {at_ : Tm} {l : List Ct} (ha : Va at_) (hl : ∀ x ∈ l,Cp x.p) (hn : l.length ≤ 1000) : Ja Tryz.prog 79 [.one (.ow 0 0),.agg (ta at_),.one (.row (Z2 l))] [.blk T (crz (.row r0) (.row r1))] [] [.blk T (Re ⟨at_,(Xu l).map fresh,0⟩ r0 r1)] := by
  have cl := Qx0 (T := T) (r0 := r0) (r1 := r1) ha hl hn
  refine Z6 Tryz.func79 rfl ?_
  exact ed tt [] [0] [.g 12 false rfl,.c [0] cl] rfl trivial
theorem eB {a b : Bool} (h : a = b) : TV.one (LV.bool a) = .one (.bool b) := h ▸ rfl
end Orr

namespace Orr
open Go Go.Proofs Orq
set_option maxRecDepth 10000
theorem Ek : ∀ {k : Nat} {g : List Int} {l : List (List Int)},Pb g → C6 k g = some l → l.length ≤ k ∧ ∀ p ∈ l,Pb p
  | 0,_,_,_,h => by cases h
  |
   k + 1,g,l,hg,h => by
   simp only [C6] at h
   split at h
   · injection h with h; subst h; exact ⟨by simp,fun p hp => by cases hp⟩
   · obtain ⟨d,hd,h⟩ := Option.bind_eq_some_iff.1 h
     obtain ⟨rfl,hdp⟩ := Iy hd
     obtain ⟨x,hx,h⟩ := Option.bind_eq_some_iff.1 h
     obtain ⟨q,hq,h⟩ := Option.bind_eq_some_iff.1 h
     obtain ⟨r,hr,h⟩ := Option.bind_eq_some_iff.1 h
     injection h with h; subst h
     obtain ⟨i1,i2⟩ := Ek (Df hg hdp hx) hr
     refine ⟨by simp; exact i1,fun p hp => ?_⟩
     rcases List.mem_cons.1 hp with rfl | hp
     · exact Qjd hq
     · exact i2 p hp
theorem Qru {a : List Int} {l : List (List Int)} (ha : Pb a) (h : C6 66 (Qn a) = some l) : Qc Tryz.prog 334 [pr a] [.one (.row (Js l))] := by
  have hp := Xq ha
  refine Z6 Tryz.func334 rfl ?_
  refine go tt [.o 3 26 1,.c [] (Fi ha)] rfl trivial ?_
  refine lp (S := Nat × List (List Int) × List Int) 1 (fun L1 s => (4,.v (pr s.2.2)) :: (3,.v (.one (.orow 0 1 none))) :: L1) (fun s => [.row false 26 1 (Js s.2.1)]) (fun s => s.1) (fun s => Pb s.2.2 ∧ s.2.1.length + s.1 ≤ 66 ∧ ∃ m,C6 s.1 s.2.2 = some m ∧ s.2.1 ++ m = l) (66,[],Qn a) ⟨hp,Nat.le_refl _,l,h,rfl⟩ rfl (fun _ _ => rfl) rfl fun ⟨k,out,g⟩ ⟨j1,j2,m,j3,j4⟩ => ?_
  dsimp only at j1 j2 j3 j4 ⊢
  cases k with
  | zero => cases j3
  |
   succ k =>
   simp only [C6] at j3
   split at j3
   · rename_i h0
     injection j3 with j3; subst j3
     rw [List.append_nil] at j4
     subst j4
     exact en tt [.c [] (Y3 _),.f (by simp; omega)] rfl rfl trivial
   · rename_i h0
     obtain ⟨d,hd,j3⟩ := Option.bind_eq_some_iff.1 j3
     obtain ⟨rfl,hdp⟩ := Iy hd
     obtain ⟨x,hx,j3⟩ := Option.bind_eq_some_iff.1 j3
     obtain ⟨q,hq,j3⟩ := Option.bind_eq_some_iff.1 j3
     obtain ⟨r,hr,j3⟩ := Option.bind_eq_some_iff.1 j3
     injection j3 with j3; subst j3
     have hxp := Df j1 hdp hx
     refine go tt [.c [] (Y3 _),.t (by simp; omega),.c [] (Gg j1.ln j1.bd),.c [] (Qlh j1 hdp hx),.c [] (Qr6 j1 hxp hq),.s (sz := 1) (l := [[pl q]]) (fun c hc => by rw [List.mem_singleton.1 hc]; rfl)] rfl (by simp [Qa,Ut]; omega) ?_
     exact rd (k,out ++ [q],x) (by dsimp only; omega) ⟨hxp,by simp; omega,r,hr,by rw [← j4]; simp⟩ (by rw [I1]; rfl)
theorem A5 : ∀ {l r : List (List Int)}, Ow l = some r → r.length = l.length ∧ ∀ i w, l[i]? = some w → match l[i + 1]? with
    | some v => ∃ f,Tv w v = some f ∧ r[i]? = some f
    | none => r[i]? = some w
  | [],r,h => by injection h with h; subst h; exact ⟨rfl,fun i w hw => by simp at hw⟩
  |
   [w],r,h => by
   injection h with h; subst h
   refine ⟨rfl,fun i x hx => ?_⟩
   cases i with
   | zero => simpa using hx
   | succ i => simp at hx
  |
   w :: v :: l,r,h => by
   simp only [Ow] at h
   obtain ⟨f,hf,h⟩ := Option.bind_eq_some_iff.1 h
   obtain ⟨s,hs,h⟩ := Option.bind_eq_some_iff.1 h
   injection h with h; subst h
   obtain ⟨i1,i2⟩ := A5 hs
   refine ⟨by simp [i1],fun i x hx => ?_⟩
   cases i with
   |
    zero =>
    injection hx with hx; subst hx
    exact ⟨f,hf,rfl⟩
   |
    succ i =>
    have := i2 i x (by simpa using hx)
    simpa using this
theorem Qcw : ∀ {l r : List (List Int)},(∀ p ∈ l,Pb p) → Ow l = some r → ∀ p ∈ r,Pb p
  | [],r,_,h => by injection h with h; subst h; exact fun p hp => by cases hp
  | [w],r,hl,h => by injection h with h; subst h; exact hl
  |
   w :: v :: l,r,hl,h => by
   simp only [Ow] at h
   obtain ⟨f,hf,h⟩ := Option.bind_eq_some_iff.1 h
   obtain ⟨s,hs,h⟩ := Option.bind_eq_some_iff.1 h
   injection h with h; subst h
   intro p hp
   rcases List.mem_cons.1 hp with rfl | hp
   · exact Qjd hf
   · exact Qcw (fun p hp => hl p (List.mem_cons_of_mem _ hp)) hs p hp
theorem Qn8 {a : List Int} {l r : List (List Int)} (ha : Pb a) (h : C6 66 (Qn a) = some l) (hr : Ow l = some r) : Qc Tryz.prog 322 [pr a] [.one (.row (Js r))] := by
  obtain ⟨i1,i2⟩ := Ek (Xq ha) h
  obtain ⟨j1,j2⟩ := A5 hr
  have hw := Ut l
  refine Z6 Tryz.func322 rfl ?_
  refine go tt [.c [] (Qru ha h),.i (Js l).length,.i (Js l).length] rfl (by simp [Qa,hw]; omega) ?_
  rw [hw,U3 fun i => [pl (r.getD i [])]]
  refine lp (S := Nat) 1 (fun L1 k => (14,.v (.one (.int .i64 (k : Int)))) :: L1) (fun k => [.row false 26 1 (Ol (fun i => [pl (r.getD i [])]) [.nils] l.length k)]) (fun k => l.length - k) (fun k => k ≤ l.length) 0 (Nat.zero_le _) rfl (fun _ _ => rfl) rfl fun k hk => ?_
  by_cases hlt : k < l.length
  · obtain ⟨w,hx⟩ : ∃ w,l[k]? = some w := ⟨_,List.getElem?_eq_getElem hlt⟩
    have e := Hu (fun i => [pl (r.getD i [])]) [.nils] hlt
    have hg := j2 k w hx
    by_cases h2 : k + 1 < l.length
    · obtain ⟨v,hv⟩ : ∃ v,l[k + 1]? = some v := ⟨_,List.getElem?_eq_getElem h2⟩
      rw [hv] at hg
      obtain ⟨f,f1,f2⟩ := hg
      have e2 : r.getD k [] = f := by rw [List.getD_eq_getElem?_getD,f2]; rfl
      rw [e2] at e
      refine go tt [.t (by simp [hw]; omega),.x (Xj hx),.i k,.t (by simp [hw]; omega),.x (i := k + 1) (Xj hv),.c [] (Qr6 (i2 w (List.mem_of_getElem? hx)) (i2 v (List.mem_of_getElem? hv)) f1),.i k] rfl (by simp [Qa,Fo,hw]; omega) ?_
      rw [List.set_set,e]
      exact rd (k + 1) (by omega) hlt rfl
    · have hv : l[k + 1]? = none := List.getElem?_eq_none (by omega)
      rw [hv] at hg
      have e2 : r.getD k [] = w := by rw [List.getD_eq_getElem?_getD,hg]; rfl
      rw [e2] at e
      refine go tt [.t (by simp [hw]; omega),.x (Xj hx),.i k,.f (by simp [hw]; omega)] rfl (by simp [Qa,Fo,hw]; omega) ?_
      rw [e]
      exact rd (k + 1) (by omega) hlt rfl
  · obtain rfl : k = l.length := by omega
    have e : Ol (fun i => [pl (r.getD i [])]) [.nils] l.length l.length = Js r := by
      rw [Ht,← j1]
      refine List.ext_getElem? fun i => ?_
      simp only [Js,List.getElem?_map]
      by_cases hi : i < r.length
      · rw [List.getElem?_range hi]; simp [List.getD_eq_getElem?_getD,List.getElem?_eq_getElem hi]
      · rw [List.getElem?_eq_none (by simpa using hi),List.getElem?_eq_none (by simpa using hi)]; rfl
    rw [e]
    exact en tt [.f (by simp [hw])] rfl rfl trivial
theorem Qjk {p : List Int} (tp : Qj p) : Qn (Qn p) = Qn p := by
  by_cases h : p.length = 0
  · have e : Qn p = [] := by unfold Qn; rw [if_pos h]
    rw [e]; rfl
  · obtain ⟨h1,h2,h3,h4,_⟩ := Kh tp h
    have hc : Ju (Qn p) = 1 := by
      have h5 : Ju (Qn p) ∣ 1 := h3 _ fun k => by
        by_cases hk : k < (Qn p).length
        · rw [List.getD_eq_getElem?_getD,List.getElem?_eq_getElem hk]; exact Us _ (List.getElem_mem hk)
        · rw [List.getD_eq_getElem?_getD,List.getElem?_eq_none (by omega)]; exact Int.dvd_zero _
      have h6 : 0 ≤ Ju (Qn p) := by unfold Ju; omega
      exact Int.eq_one_of_dvd_one h6 h5
    have hf : ∀ q : List Int,0 < Qo q → Zy q = Ju q := fun q hq => by unfold Zy; rw [if_neg (by omega)]
    have hf := (hf _ h4).trans hc
    have e0 : ∀ q : List Int,q.length ≠ 0 → Qn q = Ky q (Zy q) := fun q hq => by unfold Qn; rw [if_neg hq]
    have e := e0 (Qn p) (by omega)
    rw [hf] at e
    rw [e]
    unfold Ky
    have e2 : (Qn p).map (· / (1 : Int)) = Qn p := by
      conv => rhs; rw [← List.map_id (Qn p)]
      exact List.map_congr_left fun z _ => by simp
    rw [e2]
    exact h1
theorem Qnq (i : Nat) : (i : Int).tmod 2 = ((i % 2 : Nat) : Int) := rfl
theorem Q3e {a : List Int} (ha : Pb a) (h : (Qn a).length = 0) : Qc Tryz.prog 304 [pr a] [pr []] :=
  w tt Tryz.func304 rfl [.c [] (Fi ha),.t (by simp [List.eq_nil_of_length_eq_zero h])] rfl rfl trivial
theorem Sy : ∀ {l : List (List Int)} {i : Nat} {p o : List Int},Pb p → (∀ f ∈ l,Pb f) → Ns i p l = some o → Pb o
  | [],i,p,o,hp,_,h => by simp only [Ns] at h; injection h with h; subst h; exact hp
  |
   f :: l,i,p,o,hp,hl,h => by
   simp only [Ns] at h
   split at h
   · obtain ⟨q,hq,h⟩ := Option.bind_eq_some_iff.1 h
     obtain ⟨rfl,hq'⟩ := Hm (Zw _ _) hq
     exact Sy hq' (fun f hf => hl f (List.mem_cons_of_mem _ hf)) h
   · exact Sy hp (fun f hf => hl f (List.mem_cons_of_mem _ hf)) h
theorem Quw : Pb [1] := ⟨rfl,by decide,fun z hz => by rw [List.mem_singleton.1 hz]; decide⟩
theorem Q6c {a o : List Int} (ha : Pb a) (h : Qjh a = some o) : Qc Tryz.prog 304 [pr a] [pr o] := by
  unfold Qjh at h
  split at h
  · rename_i h0
    injection h with h; subst h
    exact Q3e ha h0
  rename_i h0
  obtain ⟨l,hl,h⟩ := Option.bind_eq_some_iff.1 h
  obtain ⟨fs,hf,h⟩ := Option.bind_eq_some_iff.1 h
  have hpa := Xq ha
  have hl' : C6 66 (Qn (Qn a)) = some l := by rw [Qjk ha.t]; exact hl
  obtain ⟨i1,i2⟩ := Ek (Xq ha) hl
  have i3 := Qcw i2 hf
  obtain ⟨j1,_⟩ := A5 hf
  have hw := Ut fs
  have co := Qq8 (p := [1]) (by decide) (fun z hz => by rw [List.mem_singleton.1 hz]; decide)
  rw [show trim [1] = [1] from rfl] at co
  refine Z6 Tryz.func304 rfl ?_
  refine go tt [.c [] (Fi ha),.f (by simpa using h0),.c [] co,.c [] (Qn8 hpa hl' hf)] rfl (by simp [Qa]) ?_
  refine lp (S := Nat × List Int) 0 (fun L1 s => (16,.v (.one (.int .i64 (s.1 : Int)))) :: (3,.v (pr s.2)) :: L1) (fun _ => []) (fun s => fs.length - s.1) (fun s => s.1 ≤ fs.length ∧ Pb s.2 ∧ Ns s.1 s.2 (fs.drop s.1) = some o) (0,[1]) ⟨Nat.zero_le _,Quw,h⟩ rfl (fun _ _ => rfl) rfl fun ⟨i,p⟩ ⟨k1,k2,k3⟩ => ?_
  dsimp only at k1 k2 k3 ⊢
  by_cases hlt : i < fs.length
  · obtain ⟨f,hx⟩ : ∃ w,fs[i]? = some w := ⟨_,List.getElem?_eq_getElem hlt⟩
    have hdr : fs.drop i = f :: fs.drop (i + 1) := by
      rw [List.drop_eq_getElem_cons hlt]; congr 1
      have := List.getElem?_eq_getElem hlt; rw [hx] at this; injection this with this; exact this.symm
    rw [hdr] at k3
    simp only [Ns] at k3
    have pf := i3 f (List.mem_of_getElem? hx)
    by_cases h2 : i % 2 = 0
    · rw [if_pos h2] at k3
      obtain ⟨q,hq,k3⟩ := Option.bind_eq_some_iff.1 k3
      obtain ⟨rfl,hq'⟩ := Hm (Zw _ _) hq
      refine go tt [.t (by simp [hw]; omega),.x (Xj hx),.t (by rw [Qnq,h2]; rfl),.c [] (Qh6 k2.t pf.t (Nat.lt_of_le_of_lt k2.l (by decide)) (Nat.lt_of_le_of_lt pf.l (by decide)) k2.b pf.b (by decide))] rfl (by simp [Qa]; omega) ?_
      exact rd (i + 1,Zl p f) (by dsimp only; omega) ⟨hlt,hq',k3⟩ rfl
    · rw [if_neg h2] at k3
      refine go tt [.t (by simp [hw]; omega),.x (Xj hx),.f (by rw [Qnq,show i % 2 = 1 by omega]; rfl)] rfl (by simp [Qa]; omega) ?_
      exact rd (i + 1,p) (by dsimp only; omega) ⟨hlt,k2,k3⟩ rfl
  · obtain rfl : i = fs.length := by omega
    rw [List.drop_length] at k3
    simp only [Ns] at k3
    injection k3 with k3; subst k3
    exact en tt [.f (by simp [hw])] rfl rfl trivial
end Orr

namespace Orr
open Go Go.Proofs Orq
set_option maxRecDepth 10000
theorem Hx (z : Int) : Qm (z.natAbs : Int) = Qm z := by unfold Qm; simp
theorem Qrk {x y : LV} {z : Int} (hi : Xl x y z) (hs : Qm z ≤ 4294967295) : Qc Tryz.prog 330 [.agg [x,y]] [.agg (Zg (z.natAbs : Int))] := by
  obtain ⟨b,l,rfl,rfl,hl,rfl⟩ := hi
  have e : (Qh false (val l)) = ((Qh b (val l)).natAbs : Int) := by rw [Xo]; rfl
  rw [← e]
  exact w tt Tryz.func330 rfl [.c [] (P0 hl (Nat.le_trans (J4 hs) (by decide))),.c [] (J7 _ _)] rfl rfl trivial
theorem Qyp {n d : Int} (h0 : d ≠ 0) (hn : Qm n ≤ 4294967295) (hd : Qm d ≤ 4294967295) : Qc Tryz.prog 331 [.agg (Zg n),.agg (Zg d)] [.agg (rl (Rat.divInt n d)),.one (.int .i64 0)] :=
  w tt Tryz.func331 rfl [.c [] (Yt (Qe d) hd),.c [] Ua,.f (by simpa using h0),.c [] (Yt (Qe n) hn),.c [] (Ro h0 hn hd)] rfl rfl trivial
theorem Qpf (l : List Int) (z : Int) : most (l ++ [z]) = if most l < z.natAbs then z.natAbs else most l := by unfold most; rw [List.foldl_append]; rfl
theorem Qmt {s : Nat} : ∀ {l : List Int},Bd s l → Qm (most l : Int) ≤ s := fun {l} => by
  suffices h : ∀ (l : List Int) (m : Nat),Bd s l → Qm (m : Int) ≤ s → Qm ((l.foldl (fun m z => if m < z.natAbs then z.natAbs else m) m : Nat) : Int) ≤ s from fun hb => h l 0 hb (by simp [Qm,sz])
  intro l
  induction l with
  | nil => exact fun m _ h => h
  |
   cons z l ih =>
   intro m hb hm
   refine ih _ (fun y hy => hb y (List.mem_cons_of_mem _ hy)) ?_
   show Qm ((if m < z.natAbs then z.natAbs else m : Nat) : Int) ≤ s
   split
   · rw [Hx]; exact hb z (List.mem_cons_self ..)
   · exact hm
def ozi : Option Nat → List LV
  | none => [.bool false,.nils]
  | some m => Zg (m : Int)
def ozr : Option Nat → List LV
  | none => [.bool false,.row []]
  | some m => Zg (m : Int)
theorem Qxw {p : List Int} (hp : Pb p) (h0 : p.length ≠ 0) : Qc Tryz.prog 319 [pr p] [.agg (rl (Zt p)),.one (.int .i64 0)] := by
  have hl := hp.l
  have hll : (p.take (p.length - 1)).length = p.length - 1 := by simp
  have hbt : Bd 16777216 (p.take (p.length - 1)) := fun z hz => hp.b z (List.mem_of_mem_take hz)
  refine Z6 Tryz.func319 rfl ?_
  refine go tt [.c [] (Z7 hp.t hp.ln hp.bd),.f (by simpa using h0),.r 18 (eI (b := ((p.length - 1 : Nat) : Int)) (by simp; omega)),.i (p.length - 1)] rfl (by simp [Qa]; omega) ?_
  rw [← List.map_take]
  refine lp (S := Nat × Option Nat) 2 (fun L1 s => (21,.v (.one (.int .i64 (s.1 : Int)))) :: L1) (fun s => [.blk 41 [.bool false,.nils,.bool false,.nils],.blk 29 (ozi s.2)]) (fun s => p.length - 1 - s.1) (fun s => s.1 ≤ p.length - 1 ∧ most ((p.take (p.length - 1)).take s.1) = s.2.getD 0) (0,none) ⟨Nat.zero_le _,rfl⟩ rfl (fun _ _ => rfl) rfl fun ⟨i,o⟩ ⟨j1,j2⟩ => ?_
  dsimp only at j1 j2 ⊢
  by_cases hlt : i < p.length - 1
  · obtain ⟨z,hz⟩ : ∃ w,(p.take (p.length - 1))[i]? = some w := ⟨_,List.getElem?_eq_getElem (by omega)⟩
    have bz : Qm z ≤ 16777216 := hbt z (List.mem_of_getElem? hz)
    have hst : most ((p.take (p.length - 1)).take (i + 1)) = if o.getD 0 < z.natAbs then z.natAbs else o.getD 0 := by
      rw [List.take_succ,hz]; show most (_ ++ [z]) = _; rw [Qpf,j2]
    have ca := Qrk (Qe z) (Nat.le_trans bz (by decide))
    have hl1 : decide ((i : Int) < (((p.take (p.length - 1)).map Zg).length : Int)) = true := by simp; omega
    have bm : Qm ((o.getD 0 : Nat) : Int) ≤ 16777216 := by rw [← j2]; exact Qmt fun y hy => hbt y (List.mem_of_mem_take hy)
    have hcm : V5 (z.natAbs : Int) ((o.getD 0 : Nat) : Int) > 0 ↔ o.getD 0 < z.natAbs := by unfold V5; split <;> (try split) <;> omega
    have cc : Qc Tryz.prog 199 [.agg (Zg (z.natAbs : Int)),.agg (ozr o)] [.one (.int .i64 (V5 (z.natAbs : Int) ((o.getD 0 : Nat) : Int)))] := by
      cases o with
      | none => exact Ah (Qe _) Yh (by rw [Hx]; omega) (by decide)
      | some m => exact Ah (Qe _) (Qe _) (by rw [Hx]; omega) (Nat.le_trans bm (by decide))
    by_cases hc : o.getD 0 < z.natAbs
    · rw [if_pos hc] at hst
      have hd : decide (V5 (z.natAbs : Int) ((o.getD 0 : Nat) : Int) > 0) = true := by simpa using hcm.2 hc
      cases o <;> (refine go tt [.t hl1,.x (Z9 (f := Zg) hz),.c [] ca,.c [] cc,.t hd] rfl (by simp [Qa]; omega) ?_; exact rd (i + 1,some z.natAbs) (by dsimp only; omega) ⟨hlt,hst⟩ rfl)
    · rw [if_neg hc] at hst
      have hd : decide (V5 (z.natAbs : Int) ((o.getD 0 : Nat) : Int) > 0) = false := by
        have := mt hcm.1 hc; simpa using this
      cases o with
      | none => refine go tt [.t hl1,.x (Z9 (f := Zg) hz),.c [] ca,.c [] cc,.f hd] rfl (by simp [Qa]; omega) ?_; exact rd (i + 1,none) (by dsimp only; omega) ⟨hlt,hst⟩ rfl
      | some m => refine go tt [.t hl1,.x (Z9 (f := Zg) hz),.c [] ca,.c [] cc,.f hd] rfl (by simp [Qa]; omega) ?_; exact rd (i + 1,some m) (by dsimp only; omega) ⟨hlt,hst⟩ rfl
  · obtain rfl : i = p.length - 1 := by omega
    rw [List.take_of_length_le (by omega)] at j2
    have bl : Qm (Qo p) ≤ 16777216 := hp.b _ (Iq h0)
    have ln : ((Qo p).natAbs : Int) ≠ 0 := by have := Uk hp.t h0; omega
    have cl := Wj hp.t hp.ln hp.bd
    have ca := Qrk (Qe (Qo p)) (Nat.le_trans bl (by decide))
    have bm : Qm ((o.getD 0 : Nat) : Int) ≤ 16777216 := by rw [← j2]; exact Qmt hbt
    have cd : Qc Tryz.prog 111 [.agg (Zg ((Qo p).natAbs : Int)),.agg (ozr o)] [.agg (Zg (((Qo p).natAbs : Int) + (most (p.take (p.length - 1)) : Int)))] := by
      rw [j2]
      cases o with
      | none => exact P3 (Qe _) Yh (by rw [Hx]; omega) (by decide)
      | some m => exact P3 (Qe _) (Qe _) (by rw [Hx]; omega) (Nat.le_trans bm (by decide))
    have cm := Qyp (n := ((Qo p).natAbs : Int) + (most (p.take (p.length - 1)) : Int)) ln (Nat.le_trans (Su _ _) (by rw [Hx,j2]; omega)) (by rw [Hx]; omega)
    have hf : decide (((p.length - 1 : Nat) : Int) < (((p.take (p.length - 1)).map Zg).length : Int)) = false := by simp
    cases o <;> exact en tt [.f hf,.c [] cl,.c [] ca,.c [] cd,.c [] cm] rfl rfl trivial
end Orr

namespace Orr
open Go Go.Proofs Orq
set_option maxRecDepth 10000
theorem Q1w {z : Int} : Qc Tryz.prog 350 [.agg (Zg z)] [.one (.int .i64 (Int.sign z))] := by
  by_cases h0 : z = 0
  · subst h0
    exact w tt Tryz.func350 rfl [.t (by simp [Qf,Zo])] rfl rfl trivial
  · have hl : (Qw z.natAbs).length ≠ 0 := fun h => h0 (Qpd.1 h)
    have hl' : decide (((lm (Qw z.natAbs)).length : Int) = 0) = false := by simpa [Qf] using hl
    by_cases h1 : z < 0
    · rw [Int.sign_eq_neg_one_of_neg h1]
      exact w tt Tryz.func350 rfl [.f hl',.t (by simpa using h1)] rfl rfl trivial
    · rw [Int.sign_eq_one_of_pos (by omega)]
      exact w tt Tryz.func350 rfl [.f hl',.f (by simpa using h1)] rfl rfl trivial
theorem Qqs {p : List Int} (hp : Pb p) : Qc Tryz.prog 342 [pr p] [.one (.int .i64 (Rf p)),.one (.int .i64 (M9 p))] := by
  have hb : -1 ≤ (Qo p).sign ∧ (Qo p).sign ≤ 1 := by rcases Fc (Qo p) with h | h | h <;> omega
  by_cases h : p.length % 2 = 0
  · have e : Rf p = -(Qo p).sign := by unfold Rf; rw [if_pos h]
    rw [e]
    exact w tt Tryz.func342 rfl [.c [] (Z7 hp.t hp.ln hp.bd),.c [] (Wj hp.t hp.ln hp.bd),.c [] Q1w,.t (by rw [Qnq]; simp [h])] rfl rfl (by simp [Qa,Qo] at hb ⊢; omega)
  · have e : Rf p = (Qo p).sign := by unfold Rf; rw [if_neg h]
    rw [e]
    exact w tt Tryz.func342 rfl [.c [] (Z7 hp.t hp.ln hp.bd),.c [] (Wj hp.t hp.ln hp.bd),.c [] Q1w,.f (by rw [Qnq]; simp; omega)] rfl rfl (by simp [Qa])
theorem Qrw {p : List Int} (hp : Pb p) : Qc Tryz.prog 341 [pr p] [.one (.int .i64 (Rf p))] := w tt Tryz.func341 rfl [.c [] (Qqs hp)] rfl rfl trivial
theorem Qyk {p : List Int} (hp : Pb p) : Qc Tryz.prog 343 [pr p] [.one (.int .i64 (M9 p))] := w tt Tryz.func343 rfl [.c [] (Qqs hp)] rfl rfl trivial
theorem Q3o {q : Rat} (hq : Qs 4294967295 q) : Qc Tryz.prog 156 [.agg (rl q)] [.agg (rl (-q))] := by
  exact w tt Tryz.func156 rfl [.c [] (Am hq),.c [] (Dy (Qe _) hq.1)] rfl rfl trivial
theorem Qe3 {l : List (List Int)} {fid : Nat} {sg : List Int → Int} (hl : l.length ≤ 1000) (hs : ∀ p,-1 ≤ sg p ∧ sg p ≤ 1) (h : ∀ p ∈ l,Qc Tryz.prog fid [pr p] [.one (.int .i64 (sg p))]) : Qc Tryz.prog 300 [.one (.sh [.row (Js l)]),.one (.fn fid [] [])] [.one (.int .i64 (Kn sg l : Nat))] := by
  have hpl := Ut l
  refine Z6 Tryz.func300 rfl ?_
  refine go tt [] rfl trivial ?_
  refine lp (S := Nat) 0 (fun L1 i => (15,.v (.one (.int .i64 (i : Int)))) :: (5,.v (.one (.int .i64 ((Pm sg l i).1 : Int)))) :: (6,.v (.one (.int .i64 (Pm sg l i).2))) :: L1) (fun _ => []) (fun i => l.length - i) (fun i => i ≤ l.length) 0 (Nat.zero_le _) rfl (fun _ _ => rfl) rfl fun i hi => ?_
  by_cases hlt : i < l.length
  · obtain ⟨p,hp⟩ : ∃ p,l[i]? = some p := ⟨_,List.getElem?_eq_getElem hlt⟩
    have hst : Pm sg l (i + 1) = J0 sg (Pm sg l i) p := Ub _ _ _ hp
    obtain ⟨b1,b2,b3⟩ := Qec hs l i
    have b4 := hs p
    by_cases h0 : sg p = 0
    · refine go tt [.t (by simp [hpl]; omega),.x (Xj hp),.c [] (h p (List.mem_of_getElem? hp)),.t (by simpa using h0)] rfl (by simp [Qa]; omega) ?_
      exact rd (i + 1) (by omega) hlt (by rw [hst,show J0 sg (Pm sg l i) p = Pm sg l i from by unfold J0; rw [if_pos h0]]; rfl)
    · by_cases h1 : (Pm sg l i).2 = -(sg p)
      · refine go tt [.t (by simp [hpl]; omega),.x (Xj hp),.c [] (h p (List.mem_of_getElem? hp)),.f (by simpa using h0),.t (by simpa using h1)] rfl (by simp [Qa]; omega) ?_
        exact rd (i + 1) (by omega) hlt (by rw [hst,show J0 sg (Pm sg l i) p = ((Pm sg l i).1 + 1,sg p) from by unfold J0; rw [if_neg h0,if_pos h1]]; rfl)
      · refine go tt [.t (by simp [hpl]; omega),.x (Xj hp),.c [] (h p (List.mem_of_getElem? hp)),.f (by simpa using h0),.f (by simpa using h1)] rfl (by simp [Qa]; omega) ?_
        exact rd (i + 1) (by omega) hlt (by rw [hst,show J0 sg (Pm sg l i) p = ((Pm sg l i).1,sg p) from by unfold J0; rw [if_neg h0,if_neg h1]]; rfl)
  · obtain rfl : i = l.length := by omega
    refine en tt [.f (by simp [hpl])] rfl ?_ trivial
    unfold Pm Kn; rw [List.take_length]
theorem Co (p : List Int) : (-1 ≤ Rf p ∧ Rf p ≤ 1) ∧ -1 ≤ M9 p ∧ M9 p ≤ 1 := by
  have hb : -1 ≤ (Qo p).sign ∧ (Qo p).sign ≤ 1 := by rcases Fc (Qo p) with h | h | h <;> omega
  unfold Rf M9
  split <;> omega
theorem Qxx {l : List (List Int)} (hl : l.length ≤ 1000) (hp : ∀ p ∈ l,Pb p) : Qc Tryz.prog 321 [.one (.sh [.row (Js l)])] [.one (.int .i64 (T0 l))] := by
  have c1 : Qc Tryz.prog 332 [.one (.sh [.row (Js l)])] [.one (.int .i64 (Kn Rf l : Nat))] :=
    w tt Tryz.func332 rfl [.c [] (Qe3 hl (fun p => (Co p).1) fun p h => Qrw (hp p h))] rfl rfl trivial
  have c2 : Qc Tryz.prog 333 [.one (.sh [.row (Js l)])] [.one (.int .i64 (Kn M9 l : Nat))] :=
    w tt Tryz.func333 rfl [.c [] (Qe3 hl (fun p => (Co p).2) fun p h => Qyk (hp p h))] rfl rfl trivial
  have b1 : Kn Rf l ≤ l.length := W8 (fun p => (Co p).1) l
  have b2 : Kn M9 l ≤ l.length := W8 (fun p => (Co p).2) l
  exact w tt Tryz.func321 rfl [.c [] c1,.c [] c2] rfl rfl (by simp [Qa]; omega)
theorem Qhy {l : List (List Int)} {lo hi : Rat} (hl : l.length ≤ 1000) : -1000 ≤ X3 l lo hi ∧ X3 l lo hi ≤ 1000 := by
  have b1 : Ko l lo ≤ l.length := W8 (fun p => G7 p lo) l
  have b2 : Ko l hi ≤ l.length := W8 (fun p => G7 p hi) l
  unfold X3; split <;> omega
end Orr

namespace Orr
open Go Go.Proofs Orq
set_option maxRecDepth 10000
abbrev tal (l : List Tm) : List (List LV) := l.map fun t => ta t
theorem Es {p : List Int} {c : List (List Int)} (hp : Pb p) : ∀ {k : Nat} {lo hi : Rat} {n : Int} {r : List Tm},Qb lo → Qb hi → U9 p c k lo hi n = some r → ∀ t ∈ r,Tb t
  | 0,_,_,_,_,_,_,h => by cases h
  |
   k + 1,lo,hi,n,r,hl,hh,h => by
   simp only [U9] at h
   split at h
   · injection h with h; subst h; exact fun t ht => by cases ht
   · split at h
     · injection h with h; subst h
       intro t ht; rw [List.mem_singleton.1 ht]; exact ⟨hp,hl,hh⟩
     · obtain ⟨m,hm,h⟩ := Option.bind_eq_some_iff.1 h
       obtain ⟨rfl,qm⟩ := An hm
       obtain ⟨x,hx,h⟩ := Option.bind_eq_some_iff.1 h
       obtain ⟨y,hy,h⟩ := Option.bind_eq_some_iff.1 h
       injection h with h; subst h
       intro t ht
       rcases List.mem_append.1 ht with ht | ht
       · exact Es hp hl qm hx t ht
       · exact Es hp qm hh hy t ht
theorem Q5f (l : List Tm) : ∀ c ∈ tal l,c.length = 9 := fun c hc => by obtain ⟨t,_,rfl⟩ := List.mem_map.1 hc; rfl
theorem Qii {p : List Int} {c : List (List Int)} (hp : Pb p) (hcl : c.length ≤ 1000) (hc : ∀ q ∈ c,Pb q) : ∀ {k : Nat} {lo hi : Rat} {n : Int} {r : List Tm},Qb lo → Qb hi → k ≤ 100000 → -(1000 * (100001 - k : Nat)) ≤ n ∧ n ≤ 1000 * (100001 - k : Nat) → U9 p c k lo hi n = some r → r.length ≤ 1000000 → Ja Tryz.prog 320 [pr p,.one (.sh [.row (Js c)]),.agg (rl lo),.agg (rl hi),.one (.int .i64 n)] [] [.one (.orow 0 9 none)] [.row false 67 9 (tal r)]
  | 0,_,_,_,_,_,_,_,_,h,_ => by cases h
  |
   k + 1,lo,hi,n,r,hl,hh,hk,hn,h,hr => by
   simp only [U9] at h
   split at h
   · rename_i h0
     injection h with h; subst h
     refine Z6 Tryz.func320 rfl ?_
     exact ed tt [] [2] [.t (by simpa using h0),.o 10 67 9] rfl trivial
   · rename_i h0
     split at h
     · rename_i h1
       injection h with h; subst h
       refine Z6 Tryz.func320 rfl ?_
       exact ed tt [] [2] [.f (by simpa using h0),.t (by simpa using h1),.c [] (Z7 hp.t hp.ln hp.bd),.c [] (Hl hl.s32),.c [] (Hl hh.s32),.lo] rfl trivial
     · rename_i h1
       obtain ⟨m,hm,h⟩ := Option.bind_eq_some_iff.1 h
       obtain ⟨rfl,qm⟩ := An hm
       obtain ⟨x,hx,h⟩ := Option.bind_eq_some_iff.1 h
       obtain ⟨y,hy,h⟩ := Option.bind_eq_some_iff.1 h
       injection h with h; subst h
       have hb := Qhy (l := c) (lo := lo) (hi := mid lo hi) hcl
       rw [List.length_append] at hr
       have c1 := Qii hp hcl hc hl qm (by omega) (by omega) hx (by omega)
       have c2 := Qii hp hcl hc qm hh (by omega) (by omega) hy (by omega)
       rw [show tal (x ++ y) = tal x ++ tal y from List.map_append]
       refine Z6 Tryz.func320 rfl ?_
       exact ed tt [] [3] [.f (by simpa using h0),.f (by simpa using h1),.c [] (Q1u hl hh),.c [] (Qaa hcl hc hl qm),.c [3] c1,.c [4] c2,.s (Q5f y)] rfl (by simp [Qa]; omega)
theorem Qya {p : List Int} {r : List Tm} (hp : Pb p) (h : I8 p = some r) (hr : r.length ≤ 1000000) : Qc Tryz.prog 303 [pr p] [.one (tas r),.one (.int .i64 0)] := by
  unfold I8 at h
  obtain ⟨c,h1,h⟩ := Option.bind_eq_some_iff.1 h
  obtain ⟨q,h2,h⟩ := Option.bind_eq_some_iff.1 h
  obtain ⟨b,h3,h⟩ := Option.bind_eq_some_iff.1 h
  obtain ⟨rfl,hb⟩ := An h3
  obtain ⟨k1,k2⟩ := chain_ok hp h1
  have hq := De hp h2
  have q0 : q.length ≠ 0 := by
    unfold Gi at h1
    obtain ⟨a,a1,h1⟩ := Option.bind_eq_some_iff.1 h1
    rw [h2] at a1; injection a1 with a1; subst a1
    split at h1
    · cases h1
    · assumption
  have qn : Qb (-Zt q) := ⟨by rw [Rat.neg_num,Z1]; exact hb.1,by rw [Rat.neg_den]; exact hb.2⟩
  have bb1 : Kn Rf c ≤ c.length := W8 (fun p => (Co p).1) c
  have bb2 : Kn M9 c ≤ c.length := W8 (fun p => (Co p).2) c
  have hn : -(1000 * (100001 - 100000 : Nat) : Int) ≤ T0 c ∧ T0 c ≤ 1000 * (100001 - 100000 : Nat) := by unfold T0; omega
  have cr := Qii hq (by omega) k2 qn hb (Nat.le_refl _) hn h hr
  refine Z6 Tryz.func303 rfl ?_
  exact ed tt [1] [] [.c [] (Qre hp h1),.f rfl,.c [] (Af hp h2),.c [] (Qxw hq q0),.c [] (Q3o hb.s32),.c [] (Qxx (by omega) k2),.c [1] cr] rfl trivial
end Orr
