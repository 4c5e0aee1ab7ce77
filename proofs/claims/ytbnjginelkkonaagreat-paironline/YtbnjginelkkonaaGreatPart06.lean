/- Sturm's chains: how often signs turn, on short pieces and on long ones. Sturm's theorem on short pieces, and on long ones; divisors' signs. Long pieces; rising where the derivative is above 0; cuts. Cuts: places among the rational numbers; signs there and just behind. Roots in intervals: a time is the one root of a polynomial within an interval. Times: which root; whether a divisor has it; whether two are one. Small whole solutions of linear equations, by counting. Roots of two polynomials that are not one are apart: a small whole combination without y. Roots of two polynomials that are not one are apart: how far. The gap between two roots that are not one. Divisors of polynomials over the rational numbers. Layers of a polynomial; what stands an odd number of times. Polynomials with whole coefficients: their values at rationals. Whole polynomials: derivatives, degrees, Gauss's lemma. -/
import Derived.Test.YtbnjginelkkonaaGreatPart05
set_option linter.all false

namespace Orq
def sgnQ (x : Rat) : Int := if x < 0 then -1 else if 0 < x then 1 else 0
theorem sgnQ_zero {x : Rat} : sgnQ x = 0 ↔ x = 0 := by
  unfold sgnQ; constructor
  · intro h; split at h <;> (try split at h) <;> grind
  · intro h; subst h; rfl
theorem sgnQ_pos {x : Rat} : sgnQ x = 1 ↔ 0 < x := by
  unfold sgnQ; constructor
  · intro h; split at h <;> (try split at h) <;> grind
  · intro h; rw [if_neg (by grind), if_pos h]
theorem sgnQ_neg {x : Rat} : sgnQ x = -1 ↔ x < 0 := by
  unfold sgnQ; constructor
  · intro h; split at h <;> (try split at h) <;> grind
  · intro h; rw [if_pos h]
theorem sgnQ_three (x : Rat) : sgnQ x = -1 ∧ x < 0 ∨ sgnQ x = 0 ∧ x = 0 ∨ sgnQ x = 1 ∧ 0 < x := by
  rcases Rat.le_total (a := x) (b := 0) with h | h
  · rcases Classical.em (x = 0) with h0 | h0
    · exact .inr (.inl ⟨sgnQ_zero.2 h0, h0⟩)
    · exact .inl ⟨sgnQ_neg.2 (by grind), by grind⟩
  · rcases Classical.em (x = 0) with h0 | h0
    · exact .inr (.inl ⟨sgnQ_zero.2 h0, h0⟩)
    · exact .inr (.inr ⟨sgnQ_pos.2 (by grind), by grind⟩)
theorem sgnQ_mul (x y : Rat) : sgnQ (x * y) = sgnQ x * sgnQ y := by
  rcases sgnQ_three x with ⟨e1, h1⟩ | ⟨e1, h1⟩ | ⟨e1, h1⟩ <;> rcases sgnQ_three y with ⟨e2, h2⟩ | ⟨e2, h2⟩ | ⟨e2, h2⟩ <;> rw [e1, e2]
  · have := mul_po (x := -x) (y := -y) (by grind) (by grind); exact sgnQ_pos.2 (by grind)
  · subst h2; exact sgnQ_zero.2 (by grind)
  · have := mul_po (x := -x) (y := y) (by grind) (by grind); exact sgnQ_neg.2 (by grind)
  · subst h1; exact sgnQ_zero.2 (by grind)
  · subst h1; exact sgnQ_zero.2 (by grind)
  · subst h1; exact sgnQ_zero.2 (by grind)
  · have := mul_po (x := x) (y := -y) (by grind) (by grind); exact sgnQ_neg.2 (by grind)
  · subst h2; exact sgnQ_zero.2 (by grind)
  · exact sgnQ_pos.2 (mul_po h1 h2)
theorem sgnQ_near {a b d : Rat} (h1 : d ≤ qab a) (h2 : qab (b - a) < d) : sgnQ b = sgnQ a ∧ sgnQ a ≠ 0 := by
  rw [qab_lt] at h2
  rcases sgnQ_three a with ⟨e, h⟩ | ⟨e, h⟩ | ⟨e, h⟩
  · rw [e, sgnQ_neg]; unfold qab at h1; rw [if_pos h] at h1; exact ⟨by grind, by decide⟩
  · subst h; rw [qab_zero] at h1; grind
  · rw [e, sgnQ_pos]; unfold qab at h1; rw [if_neg (by grind)] at h1; exact ⟨by grind, by decide⟩
/-- how often signs turn, from a sign on -/
def tc (x : Rat) : Int → List (List Rat) → Nat
  | _, [] => 0
  | s, p :: l => if sgnQ (ev p x) = 0 then tc x s l else (if s = -(sgnQ (ev p x)) then 1 else 0) + tc x (sgnQ (ev p x)) l
inductive SCl : List Rat → List Rat → List (List Rat) → Prop
  | base {f g : List Rat} {c : Rat} (hc : c ≠ 0) (hg : ∀ t, ev g t = c) : SCl f g []
  | step {f g h : List Rat} {l : List (List Rat)} {a b : Rat} {q : List Rat} (ha : 0 < a) (hb : 0 < b) (he : ∀ t, a * ev f t = ev q t * ev g t - b * ev h t) (hl : SCl g h l) : SCl f g (h :: l)
theorem tc_mid {x : Rat} {s : Int} {g h : List Rat} {l : List (List Rat)} (hh : sgnQ (ev h x) = -s) (hs : s ≠ 0) : tc x s (g :: h :: l) = 1 + tc x (-s) l := by
  have h3 : sgnQ (ev h x) ≠ 0 := by omega
  have hv : s = 1 ∨ s = -1 := by rcases sgnQ_three (ev h x) with ⟨e, _⟩ | ⟨e, _⟩ | ⟨e, _⟩ <;> omega
  simp only [tc, if_neg h3, hh]
  rcases sgnQ_three (ev g x) with ⟨e, _⟩ | ⟨e, _⟩ | ⟨e, _⟩ <;> rw [e] <;> rcases hv with rfl | rfl <;> simp
theorem tc_cons {x : Rat} {s : Int} {p : List Rat} {l : List (List Rat)} (h : sgnQ (ev p x) ≠ 0) : tc x s (p :: l) = (if s = -(sgnQ (ev p x)) then 1 else 0) + tc x (sgnQ (ev p x)) l := by rw [tc, if_neg h]
/-- near places have near values -/
theorem lip_near {R x y e d : Rat} {p : List Rat} (hx : qab x ≤ R) (hy : qab y ≤ R) (hR : 0 ≤ R) (h : qab (y - x) ≤ e) (hd : e * dqB R p < d) : qab (ev p y - ev p x) < d := by
  have h1 := ev_lip hy hx p
  have h2 := Rat.mul_le_mul_of_nonneg_right h (dqB_nn hR p)
  grind
theorem lt_of_mul {a x y : Rat} (ha : 0 < a) (h : a * x < a * y) : x < y := by
  rcases Rat.le_total (a := y) (b := x) with h' | h'
  · have := Rat.mul_le_mul_of_nonneg_left h' (Rat.le_of_lt ha); grind
  · rcases Classical.em (x = y) with e | e
    · subst e; grind
    · grind
theorem sm_aux {a b d d' B f g h q : Rat} (ha : 0 < a) (hb : 0 < b) (dp : 0 < d) (h7 : B * d + a * d < b * d') (hq : qab q ≤ B) (hg : qab g < d) (hh : d' ≤ qab h) (he : a * f = q * g - b * h) (hd' : 0 < d') : sgnQ h = -sgnQ f ∧ d ≤ qab f := by
  have h4 := qab_mul_le hq (Rat.le_of_lt hg)
  rw [qab_le] at h4
  have had := mul_po ha dp
  have h8 := Rat.mul_le_mul_of_nonneg_left hh (Rat.le_of_lt hb)
  rcases sgnQ_three h with ⟨s, p⟩ | ⟨s, p⟩ | ⟨s, p⟩
  · have : qab h = -h := by unfold qab; rw [if_pos p]
    rw [this] at h8
    have h10 : d < f := lt_of_mul ha (by grind)
    rw [s, sgnQ_pos.2 (show 0 < f by grind)]
    exact ⟨rfl, by unfold qab; split <;> grind⟩
  · rw [p, qab_zero] at hh; grind
  · have : qab h = h := by unfold qab; rw [if_neg (by grind)]
    rw [this] at h8
    have h10 : f < -d := lt_of_mul ha (by grind)
    rw [s, sgnQ_neg.2 (show f < 0 by grind)]
    exact ⟨rfl, by unfold qab; split <;> grind⟩
theorem min2 {a b : Rat} (ha : 0 < a) (hb : 0 < b) : ∃ e : Rat, 0 < e ∧ e ≤ a ∧ e ≤ b := by
  rcases Rat.le_total (a := a) (b := b) with h | h
  · exact ⟨a, ha, Rat.le_refl, h⟩
  · exact ⟨b, hb, h, Rat.le_refl⟩
theorem le_or (a b : Rat) : a ≤ b ∨ b < a := by
  rcases Rat.le_total (a := a) (b := b) with h | h
  · exact .inl h
  · rcases Classical.em (a = b) with e | e
    · exact .inl (by grind)
    · exact .inr (by grind)
theorem loc_ch {R : Rat} (hR : 0 ≤ R) {f g : List Rat} {l : List (List Rat)} (hc : SCl f g l) : ∃ d e : Rat, 0 < d ∧ 0 < e ∧ ∀ x y, qab x ≤ R → qab y ≤ R → qab (y - x) ≤ e →
    (d ≤ qab (ev f x) ∨ d ≤ qab (ev g x)) ∧ (d ≤ qab (ev f x) → sgnQ (ev f y) = sgnQ (ev f x) ∧ sgnQ (ev f x) ≠ 0) ∧ (d ≤ qab (ev g x) → sgnQ (ev g y) = sgnQ (ev g x) ∧ sgnQ (ev g x) ≠ 0) ∧
    (sgnQ (ev f y) = sgnQ (ev f x) → sgnQ (ev f x) ≠ 0 → tc x (sgnQ (ev f x)) (g :: l) = tc y (sgnQ (ev f x)) (g :: l)) ∧
    (sgnQ (ev g y) = sgnQ (ev g x) → sgnQ (ev g x) ≠ 0 → tc x (sgnQ (ev g x)) l = tc y (sgnQ (ev g x)) l) := by
  induction hc with
  | @base f g c hc hg =>
    have hd := qab_pos hc
    obtain ⟨e, e1, e2, e3⟩ := small_ex (dqB_nn hR f) hd
    refine ⟨qab c, e, hd, e1, fun x y hx hy hxy => ⟨.inr (by rw [hg]; exact Rat.le_refl), fun h => sgnQ_near h (lip_near hx hy hR hxy e3), fun h => ?_, fun _ _ => ?_, fun _ _ => rfl⟩⟩
    · rw [hg, hg]; exact ⟨rfl, fun h => hc (sgnQ_zero.1 h)⟩
    · simp only [tc, hg]
  | @step f g h l a b q ha hb he hl ih =>
    obtain ⟨d', e', hd', he', ih⟩ := ih
    obtain ⟨d1, d1p, _, d1b⟩ := small_ex (b := evB R q + a) (d := b * d') (by have := evB_nn hR q; grind) (mul_po hb hd')
    obtain ⟨d, dp, hd1, hdd⟩ := min2 d1p hd'
    obtain ⟨ef, ef1, _, ef3⟩ := small_ex (dqB_nn hR f) dp
    obtain ⟨eg, eg1, _, eg3⟩ := small_ex (dqB_nn hR g) dp
    obtain ⟨e0, e0p, h1, h2⟩ := min2 ef1 eg1
    obtain ⟨e, ep, h0, h3⟩ := min2 e0p he'
    have h1 := Rat.le_trans h0 h1
    have h2 := Rat.le_trans h0 h2
    refine ⟨d, e, dp, ep, fun x y hx hy hxy => ?_⟩
    obtain ⟨i1, i2, i3, i4, i5⟩ := ih x y hx hy (Rat.le_trans hxy h3)
    have hsm : qab (ev g x) < d → d' ≤ qab (ev h x) ∧ sgnQ (ev h x) = -sgnQ (ev f x) ∧ d ≤ qab (ev f x) := fun hg => by
      have hh : d' ≤ qab (ev h x) := by
        rcases i1 with i | i
        · exact absurd (Rat.le_trans hdd i) (Rat.not_le.2 hg)
        · exact i
      have h6 : d * (evB R q + a) ≤ d1 * (evB R q + a) := Rat.mul_le_mul_of_nonneg_right hd1 (by have := evB_nn hR q; clear ih i1 i2 i3 i4 i5 he; grind)
      have h7 : evB R q * d + a * d < b * d' := by clear ih i1 i2 i3 i4 i5 he; grind
      exact ⟨hh, sm_aux ha hb dp h7 (ev_bd hx q) hg hh (he x) hd'⟩
    have hfs : d ≤ qab (ev f x) → sgnQ (ev f y) = sgnQ (ev f x) ∧ sgnQ (ev f x) ≠ 0 := fun h => sgnQ_near h (lip_near hx hy hR (Rat.le_trans hxy h1) ef3)
    have hgs : d ≤ qab (ev g x) → sgnQ (ev g y) = sgnQ (ev g x) ∧ sgnQ (ev g x) ≠ 0 := fun h => sgnQ_near h (lip_near hx hy hR (Rat.le_trans hxy h2) eg3)
    refine ⟨?_, hfs, hgs, fun s1 s2 => ?_, i4⟩
    · rcases le_or d (qab (ev g x)) with h | h
      · exact .inr h
      · exact .inl (hsm h).2.2
    · rcases le_or d (qab (ev g x)) with h | h
      · obtain ⟨g1, g2⟩ := hgs h

        rw [tc_cons (x := x) (p := g) g2, tc_cons (x := y) (p := g) (by rw [g1]; exact g2), g1, i4 g1 g2]
      · obtain ⟨h4, h5, _⟩ := hsm h
        obtain ⟨h6, h7⟩ := i3 h4
        have i5 := i5 h6 h7
        rw [tc_mid h5 s2, tc_mid (h6.trans h5) s2, ← h5, i5]
end Orq

namespace Orq
/-- the sign just after a place at which there is no root, or a simple one -/
def lowQ (p : List Rat) (x : Rat) : Int := if sgnQ (ev p x) ≠ 0 then sgnQ (ev p x) else sgnQ (dv p x)
def vv (L : List (List Rat)) (x : Rat) : Nat := tc x 0 L
/-- Sturm's chain of a polynomial without multiple roots -/
def Stm (f : List Rat) (L : List (List Rat)) : Prop := (∃ c : Rat, c ≠ 0 ∧ (∀ t, ev f t = c) ∧ L = [f]) ∨ ∃ g l, ∃ k : Rat, 0 < k ∧ (∀ t, ev g t = k * dv f t) ∧ SCl f g l ∧ L = f :: g :: l
structure Sm (w : List Rat) (x y : Rat) : Prop where
  s : sgnQ (ev w y) = lowQ w x
  l : lowQ w y = lowQ w x
  n : lowQ w x ≠ 0
theorem low_ne {p : List Rat} {x : Rat} (h : sgnQ (ev p x) ≠ 0) : lowQ p x = sgnQ (ev p x) := by unfold lowQ; rw [if_pos h]
theorem low_eq {p : List Rat} {x : Rat} (h : sgnQ (ev p x) = 0) : lowQ p x = sgnQ (dv p x) := by unfold lowQ; rw [if_neg (by simpa using h)]
theorem sm_of {p : List Rat} {x y : Rat} (h : sgnQ (ev p y) = sgnQ (ev p x)) (h0 : sgnQ (ev p x) ≠ 0) : Sm p x y := by
  have h1 := low_ne h0
  have h2 := low_ne (p := p) (x := y) (by rw [h]; exact h0)
  exact ⟨by rw [h, h1], by rw [h2, h1, h], by rw [h1]; exact h0⟩
theorem dv_mul {f w u : List Rat} (h : ∀ t, ev f t = ev w t * ev u t) (x : Rat) : dv f x = dv w x * ev u x + ev w x * dv u x := by
  rw [← dv_qmul]; exact dv_eq (fun t => by rw [h, ev_qmul]) x
theorem low_mul {f w u : List Rat} {x : Rat} (h : ∀ t, ev f t = ev w t * ev u t) (hu : sgnQ (ev u x) ≠ 0) : lowQ f x = lowQ w x * sgnQ (ev u x) := by
  by_cases hw : sgnQ (ev w x) = 0
  · have hw0 := sgnQ_zero.1 hw
    have e1 : ev f x = 0 := by rw [h, hw0]; grind
    have e2 : dv f x = dv w x * ev u x := by rw [dv_mul h, hw0]; grind
    rw [low_eq hw, low_eq (sgnQ_zero.2 e1), e2, sgnQ_mul]
  · have e1 : sgnQ (ev f x) = sgnQ (ev w x) * sgnQ (ev u x) := by rw [h, sgnQ_mul]
    rw [low_ne hw, low_ne (by rw [e1]; exact Int.mul_ne_zero hw hu), e1]
theorem sm_div {f w u : List Rat} {x y : Rat} (h : ∀ t, ev f t = ev w t * ev u t) (hu : sgnQ (ev u y) = sgnQ (ev u x)) (h0 : sgnQ (ev u x) ≠ 0) (hf : Sm f x y) : Sm w x y := by
  have e1 := low_mul h h0
  have e2 := low_mul (x := y) h (by rw [hu]; exact h0)
  have e3 : sgnQ (ev f y) = sgnQ (ev w y) * sgnQ (ev u y) := by rw [h, sgnQ_mul]
  obtain ⟨s, l, n⟩ := hf
  rw [hu] at e2 e3
  refine ⟨?_, ?_, fun h => n (by rw [e1, h, Int.zero_mul])⟩
  · rw [e3, e1] at s; exact Int.eq_of_mul_eq_mul_right h0 s
  · rw [e2, e1] at l; exact Int.eq_of_mul_eq_mul_right h0 l
theorem tc0 {x : Rat} {s : Int} {f g : List Rat} {l : List (List Rat)} (h : sgnQ (ev g x) = s) (hs : s ≠ 0) : tc x 0 (f :: g :: l) = (if sgnQ (ev f x) = -s then 1 else 0) + tc x s l := by
  have hv : s = 1 ∨ s = -1 := by rcases sgnQ_three (ev g x) with ⟨e, _⟩ | ⟨e, _⟩ | ⟨e, _⟩ <;> omega
  have hg : sgnQ (ev g x) ≠ 0 := by omega
  rw [tc]
  rcases sgnQ_three (ev f x) with ⟨e, _⟩ | ⟨e, _⟩ | ⟨e, _⟩ <;> rw [e] <;> rcases hv with rfl | rfl <;> simp [tc_cons hg, h]
theorem mono_sgn {R x y e d : Rat} {p : List Rat} (hx : qab x ≤ R) (hy : qab y ≤ R) (hR : 0 ≤ R) (hxy : x < y) (h : y - x ≤ e) (hd : d ≤ qab (dv p x)) (he : e * ddB R p < d) : sgnQ (ev p y - ev p x) = sgnQ (dv p x) := by
  have h1 := ev_dd p y x
  have h2 : ev p y - ev p x = (y - x) * (dv p x + (y - x) * dd p y x) := by rw [h1]; grind
  have h3 := qab_mul_le (x := y - x) (y := dd p y x) (a := e) (b := ddB R p) (by rw [qab_le]; constructor <;> grind) (dd_bd hy hx p)
  have h4 := sgnQ_near (b := dv p x + (y - x) * dd p y x) hd (by
    have : dv p x + (y - x) * dd p y x - dv p x = (y - x) * dd p y x := by grind
    rw [this]; exact Rat.not_le.1 fun h => absurd (Rat.le_trans h h3) (Rat.not_le.2 he))
  rw [h2, sgnQ_mul, sgnQ_pos.2 (show 0 < y - x by grind), h4.1, Int.one_mul]
/-- what a short piece may be -/
def Piece (f w : List Rat) (L : List (List Rat)) (x y : Rat) : Prop :=
  (vv L x = vv L y ∧ Sm f x y ∧ Sm w x y) ∨ (vv L x = vv L y + 1 ∧ lowQ f x ≠ 0 ∧ lowQ f y = -lowQ f x ∧ sgnQ (ev f x) = lowQ f x ∧ (sgnQ (ev f y) = 0 ∨ sgnQ (ev f y) = -lowQ f x))
/-- f and a divisor: both keep their sign where f is great -/
theorem great {R d : Rat} (hR : 0 ≤ R) (hd : 0 < d) {f w u : List Rat} (h : ∀ t, ev f t = ev w t * ev u t) : ∃ e : Rat, 0 < e ∧ ∀ x y, qab x ≤ R → qab y ≤ R → qab (y - x) ≤ e → d ≤ qab (ev f x) → Sm f x y ∧ Sm w x y := by
  obtain ⟨ef, ef1, _, ef3⟩ := small_ex (dqB_nn hR f) hd
  obtain ⟨d1, d1p, _, d1b⟩ := small_ex (evB_nn hR u) hd
  obtain ⟨ew, ew1, _, ew3⟩ := small_ex (dqB_nn hR w) d1p
  obtain ⟨e, ep, e1, e2⟩ := min2 ef1 ew1
  refine ⟨e, ep, fun x y hx hy hxy hf => ⟨?_, ?_⟩⟩
  · have := sgnQ_near hf (lip_near hx hy hR (Rat.le_trans hxy e1) ef3)
    exact sm_of this.1 this.2
  · have hw : d1 ≤ qab (ev w x) := by
      rcases le_or d1 (qab (ev w x)) with h' | h'
      · exact h'
      · have h5 := qab_mul_le (Rat.le_of_lt h') (ev_bd hx u)
        rw [← h] at h5
        exact absurd (Rat.le_trans hf h5) (Rat.not_le.2 d1b)
    have := sgnQ_near hw (lip_near hx hy hR (Rat.le_trans hxy e2) ew3)
    exact sm_of this.1 this.2
theorem loc {R : Rat} (hR : 0 ≤ R) {f w u : List Rat} {L : List (List Rat)} (hc : Stm f L) (h : ∀ t, ev f t = ev w t * ev u t) : ∃ e : Rat, 0 < e ∧ ∀ x y, qab x ≤ R → qab y ≤ R → x < y → y - x ≤ e → Piece f w L x y := by
  rcases hc with ⟨c, hc, hf, rfl⟩ | ⟨g, l, k, hk, hg, hc, rfl⟩
  · obtain ⟨e, ep, h1⟩ := great hR (qab_pos hc) h
    refine ⟨e, ep, fun x y hx hy hxy he => .inl ⟨?_, h1 x y hx hy (by rw [qab_le]; constructor <;> grind) (by rw [hf]; exact Rat.le_refl)⟩⟩
    simp only [vv, tc, hf]
  · obtain ⟨d, e1, dp, e1p, h1⟩ := loc_ch hR hc
    obtain ⟨e2, e2p, h2⟩ := great hR dp h
    -- where f is small, its derivative is great
    obtain ⟨d3, d3p, _, d3b⟩ := small_ex (b := k) (d := d) (Rat.le_of_lt hk) dp
    obtain ⟨e3, e3p, _, e3b⟩ := small_ex (ddB_nn hR f) d3p
    obtain ⟨d4, d4p, _, d4b⟩ := small_ex (b := dqB R w + dqB R u) (d := d3) (by have := dqB_nn hR w; have := dqB_nn hR u; grind) d3p
    obtain ⟨e4, e4p, _, e4b⟩ := small_ex (dqB_nn hR w) d4p
    obtain ⟨e5, e5p, _, e5b⟩ := small_ex (dqB_nn hR u) d4p
    obtain ⟨a1, a1p, a11, a12⟩ := min2 e1p e2p
    obtain ⟨a2, a2p, a21, a22⟩ := min2 e3p e4p
    obtain ⟨a3, a3p, a31, a32⟩ := min2 a1p a2p
    obtain ⟨e, ep, b1, b2⟩ := min2 a3p e5p
    refine ⟨e, ep, fun x y hx hy hxy he => ?_⟩
    have hab : qab (y - x) ≤ e := by rw [qab_le]; clear h1 h2; constructor <;> grind
    have hab1 : qab (y - x) ≤ e1 := by clear h1 h2; grind
    have hab2 : qab (y - x) ≤ e2 := by clear h1 h2; grind
    obtain ⟨i1, i2, i3, i4, i5⟩ := h1 x y hx hy hab1
    rcases le_or d (qab (ev f x)) with hf | hf
    · obtain ⟨s1, s2⟩ := h2 x y hx hy hab2 hf
      obtain ⟨j1, j2⟩ := i2 hf
      refine .inl ⟨?_, s1, s2⟩
      have := i4 j1 j2
      simp only [vv]
      rw [tc_cons (x := x) (p := f) j2, tc_cons (x := y) (p := f) (by rw [j1]; exact j2), j1, this]
    · have hg1 : d ≤ qab (ev g x) := by
        rcases i1 with i | i
        · exact absurd i (Rat.not_le.2 hf)
        · exact i
      obtain ⟨g1, g2⟩ := i3 hg1
      have i5 := i5 g1 g2
      have hD : d3 ≤ qab (dv f x) := by
        rcases le_or d3 (qab (dv f x)) with h' | h'
        · exact h'
        · have h5 := qab_mul_le (x := k) (a := k) (by unfold qab; split <;> clear h1 h2 <;> grind) (Rat.le_of_lt h')
          rw [← hg] at h5
          have : k * d3 = d3 * k := by grind
          exact absurd (Rat.le_trans hg1 h5) (Rat.not_le.2 (by rw [this]; exact d3b))
      have hm := mono_sgn hx hy hR hxy (by clear h1 h2; grind : y - x ≤ e3) hD e3b
      have s1 : sgnQ (ev g x) = sgnQ (dv f x) := by rw [hg, sgnQ_mul, sgnQ_pos.2 hk, Int.one_mul]
      have s2 : sgnQ (ev g y) = sgnQ (dv f y) := by rw [hg, sgnQ_mul, sgnQ_pos.2 hk, Int.one_mul]
      obtain ⟨s, hs⟩ : ∃ s, s = sgnQ (ev g x) := ⟨_, rfl⟩
      rw [← hs] at g1 g2 i5 s1
      rw [g1] at s2
      have v1 := tc0 (f := f) (l := l) hs.symm g2
      have v2 := tc0 (f := f) (l := l) g1 g2
      rw [← i5] at v2
      rw [← s1] at hm
      have hw : Sm f x y → Sm w x y := fun hf => by
        rcases le_or d4 (qab (ev u x)) with hu | hu
        · have hu := sgnQ_near hu (lip_near hx hy hR (Rat.le_trans hab b2) e5b)
          exact sm_div h hu.1 hu.2 hf
        · have hw : d4 ≤ qab (ev w x) := by
            rcases le_or d4 (qab (ev w x)) with h' | h'
            · exact h'
            · have q1 := qab_mul_le (x := dv w x) (y := ev u x) (a := dqB R w) (by rw [← dq_self]; exact dq_bd hx hx w) (Rat.le_of_lt hu)
              have q2 := qab_mul_le (x := ev w x) (y := dv u x) (b := dqB R u) (Rat.le_of_lt h') (by rw [← dq_self]; exact dq_bd hx hx u)
              have q3 := qab_add (dv w x * ev u x) (ev w x * dv u x)
              rw [← dv_mul h] at q3
              have : d4 * (dqB R w + dqB R u) = dqB R w * d4 + d4 * dqB R u := by grind
              rw [this] at d4b
              exact absurd (Rat.le_trans hD (Rat.le_trans q3 (by clear h1 h2; grind : _ ≤ dqB R w * d4 + d4 * dqB R u))) (Rat.not_le.2 d4b)
          have hw := sgnQ_near hw (lip_near hx hy hR (Rat.le_trans hab (by clear h1 h2; grind)) e4b)
          exact sm_of hw.1 hw.2
      have lx : lowQ f x = if sgnQ (ev f x) ≠ 0 then sgnQ (ev f x) else s := by rw [s1]; rfl
      have ly : lowQ f y = if sgnQ (ev f y) ≠ 0 then sgnQ (ev f y) else s := by rw [s2]; rfl
      clear h1 h2 i1 i2 i3 i4
      have hsv : s = 1 ∨ s = -1 := by rcases sgnQ_three (ev g x) with ⟨e, _⟩ | ⟨e, _⟩ | ⟨e, _⟩ <;> omega
      unfold Piece
      simp only [vv, v1, v2]
      rcases hsv with rfl | rfl
      · have hm := sgnQ_pos.1 hm
        rcases sgnQ_three (ev f x) with ⟨p1, p2⟩ | ⟨p1, p2⟩ | ⟨p1, p2⟩
        · rcases sgnQ_three (ev f y) with ⟨q1, q2⟩ | ⟨q1, q2⟩ | ⟨q1, q2⟩
          · rw [p1, q1]; have hsm := sm_of (p := f) (x := x) (y := y) (by rw [p1, q1]) (by rw [p1]; decide)
            exact .inl ⟨rfl, hsm, hw hsm⟩
          · rw [lx, ly, p1, q1]; refine .inr ⟨by simp; omega, by decide, by decide, by decide, by decide⟩
          · rw [lx, ly, p1, q1]; refine .inr ⟨by simp; omega, by decide, by decide, by decide, by decide⟩
        · have q1 := sgnQ_pos.2 (show 0 < ev f y by grind)
          have hsm : Sm f x y := ⟨by rw [lx, q1, p1]; rfl, by rw [lx, ly, q1, p1]; rfl, by rw [lx, p1]; decide⟩
          rw [p1, q1]; exact .inl ⟨rfl, hsm, hw hsm⟩
        · have q1 := sgnQ_pos.2 (show 0 < ev f y by grind)
          have hsm : Sm f x y := ⟨by rw [lx, q1, p1]; rfl, by rw [lx, ly, q1, p1], by rw [lx, p1]; decide⟩
          rw [p1, q1]; exact .inl ⟨rfl, hsm, hw hsm⟩
      · have hm := sgnQ_neg.1 hm
        rcases sgnQ_three (ev f x) with ⟨p1, p2⟩ | ⟨p1, p2⟩ | ⟨p1, p2⟩
        · have q1 := sgnQ_neg.2 (show ev f y < 0 by grind)
          have hsm : Sm f x y := ⟨by rw [lx, q1, p1]; rfl, by rw [lx, ly, q1, p1], by rw [lx, p1]; decide⟩
          rw [p1, q1]; exact .inl ⟨rfl, hsm, hw hsm⟩
        · have q1 := sgnQ_neg.2 (show ev f y < 0 by grind)
          have hsm : Sm f x y := ⟨by rw [lx, q1, p1]; rfl, by rw [lx, ly, q1, p1]; rfl, by rw [lx, p1]; decide⟩
          rw [p1, q1]; exact .inl ⟨rfl, hsm, hw hsm⟩
        · rcases sgnQ_three (ev f y) with ⟨q1, q2⟩ | ⟨q1, q2⟩ | ⟨q1, q2⟩
          · rw [lx, ly, p1, q1]; refine .inr ⟨by simp; omega, by decide, by decide, by decide, by decide⟩
          · rw [lx, ly, p1, q1]; refine .inr ⟨by simp; omega, by decide, by decide, by decide, by decide⟩
          · rw [p1, q1]; have hsm := sm_of (p := f) (x := x) (y := y) (by rw [p1, q1]) (by rw [p1]; decide)
            exact .inl ⟨rfl, hsm, hw hsm⟩
end Orq

namespace Orq
theorem arch (z : Rat) : ∃ n : Nat, z ≤ (n : Rat) := by
  refine ⟨z.ceil.toNat, ?_⟩
  have h1 : z ≤ (z.ceil : Rat) := Rat.le_ceil
  have h2 : (z.ceil : Rat) ≤ ((z.ceil.toNat : Int) : Rat) := Rat.intCast_le_intCast.2 (Int.self_le_toNat _)
  exact Rat.le_trans h1 h2
theorem arch_mul {z e : Rat} (he : 0 < e) : ∃ n : Nat, z ≤ (n : Rat) * e := by
  obtain ⟨n, hn⟩ := arch (z / e)
  exact ⟨n, by have := Rat.mul_le_mul_of_nonneg_right hn (Rat.le_of_lt he); rwa [div_mul he] at this⟩
theorem in_R {R x y t : Rat} (hx : qab x ≤ R) (hy : qab y ≤ R) (h1 : x ≤ t) (h2 : t ≤ y) : qab t ≤ R := by
  rw [qab_le] at *; constructor <;> grind
def Long (f w : List Rat) (L : List (List Rat)) (x y : Rat) : Prop :=
  vv L y ≤ vv L x ∧ (vv L x = vv L y → Sm f x y ∧ Sm w x y) ∧ (vv L x = vv L y + 1 → lowQ f x ≠ 0 ∧ lowQ f y = -lowQ f x)
theorem long_of {f w : List Rat} {L : List (List Rat)} {x y : Rat} (h : Piece f w L x y) : Long f w L x y := by
  rcases h with ⟨h1, h2, h3⟩ | ⟨h1, h2, h3, _⟩
  · exact ⟨by omega, fun _ => ⟨h2, h3⟩, fun h => by omega⟩
  · exact ⟨by omega, fun h => by omega, fun _ => ⟨h2, h3⟩⟩
theorem sm_trans {w : List Rat} {x y z : Rat} (h1 : Sm w x y) (h2 : Sm w y z) : Sm w x z := ⟨by rw [h2.s, h1.l], by rw [h2.l, h1.l], h1.n⟩
theorem long_trans {f w : List Rat} {L : List (List Rat)} {x y z : Rat} (h : Long f w L x y) (h' : Long f w L y z) : Long f w L x z := by
  obtain ⟨a1, a2, a3⟩ := h
  obtain ⟨b1, b2, b3⟩ := h'
  refine ⟨by omega, fun h => ?_, fun h => ?_⟩
  · obtain ⟨s1, s2⟩ := a2 (by omega)
    obtain ⟨s3, s4⟩ := b2 (by omega)
    exact ⟨sm_trans s1 s3, sm_trans s2 s4⟩
  · by_cases e : vv L x = vv L y
    · obtain ⟨s1, _⟩ := a2 e
      obtain ⟨s3, s4⟩ := b3 (by omega)
      exact ⟨s1.n, by rw [s4, s1.l]⟩
    · obtain ⟨s3, s4⟩ := a3 (by omega)
      obtain ⟨s1, _⟩ := b2 (by omega)
      exact ⟨s3, by rw [s1.l, s4]⟩
theorem glob {R : Rat} (hR : 0 ≤ R) {f w u : List Rat} {L : List (List Rat)} (hc : Stm f L) (h : ∀ t, ev f t = ev w t * ev u t) {x y : Rat} (hx : qab x ≤ R) (hy : qab y ≤ R) (hxy : x < y) : Long f w L x y := by
  obtain ⟨e, ep, hl⟩ := loc hR hc h
  have key : ∀ n : Nat, ∀ x, qab x ≤ R → x < y → y - x ≤ (n : Rat) * e → Long f w L x y := by
    intro n
    induction n with
    | zero => intro x hx hxy h; exfalso; have : ((0 : Nat) : Rat) * e = 0 := by simp
              grind
    | succ n ih =>
      intro x hx hxy hn
      rcases le_or (y - x) e with h1 | h1
      · exact long_of (hl x y hx hy hxy h1)
      · have hm : qab (x + e) ≤ R := in_R hx hy (by clear hl ih; grind) (by clear hl ih; grind)
        have hn' : (((n + 1 : Nat) : Rat)) = (n : Rat) + 1 := by push_cast; rfl
        refine long_trans (long_of (hl x (x + e) hx hm (by clear hl ih; grind) (by clear hl ih; grind))) (ih (x + e) hm (by clear hl ih; grind) ?_)
        rw [hn'] at hn
        clear hl ih; grind
  obtain ⟨n, hn⟩ := arch_mul (z := y - x) ep
  exact key n x hx hxy hn
theorem Rmax (x y : Rat) : ∃ R : Rat, 0 ≤ R ∧ qab x ≤ R ∧ qab y ≤ R := by
  refine ⟨qab x + qab y, ?_, ?_, ?_⟩ <;> (have := qab_nn x; have := qab_nn y; grind)
theorem ev_one (t : Rat) : ev [1] t = 1 := by simp only [ev]; grind
/-- signs turn less and less often -/
theorem vv_le {f : List Rat} {L : List (List Rat)} (hc : Stm f L) {x y : Rat} (hxy : x < y) : vv L y ≤ vv L x := by
  obtain ⟨R, hR, hx, hy⟩ := Rmax x y
  exact (glob hR hc (w := f) (u := [1]) (fun t => by rw [ev_one]; grind) hx hy hxy).1
theorem vv_sm {f w u : List Rat} {L : List (List Rat)} (hc : Stm f L) (h : ∀ t, ev f t = ev w t * ev u t) {x y : Rat} (hxy : x < y) (he : vv L x = vv L y) : Sm w x y := by
  obtain ⟨R, hR, hx, hy⟩ := Rmax x y
  exact ((glob hR hc h hx hy hxy).2.1 he).2
theorem vv_sm' {f : List Rat} {L : List (List Rat)} (hc : Stm f L) {x y : Rat} (hxy : x < y) (he : vv L x = vv L y) : Sm f x y :=
  vv_sm hc (w := f) (u := [1]) (fun t => by rw [ev_one]; grind) hxy he
theorem vv_one {f : List Rat} {L : List (List Rat)} (hc : Stm f L) {x y : Rat} (hxy : x < y) (he : vv L x = vv L y + 1) : lowQ f x ≠ 0 ∧ lowQ f y = -lowQ f x := by
  obtain ⟨R, hR, hx, hy⟩ := Rmax x y
  exact (glob hR hc (w := f) (u := [1]) (fun t => by rw [ev_one]; grind) hx hy hxy).2.2 he
/-- on short pieces they turn once less at most -/
theorem vv_short {f : List Rat} {L : List (List Rat)} (hc : Stm f L) (R : Rat) (hR : 0 ≤ R) : ∃ e : Rat, 0 < e ∧ ∀ x y, qab x ≤ R → qab y ≤ R → x < y → y - x ≤ e → vv L x ≤ vv L y + 1 := by
  obtain ⟨e, ep, hl⟩ := loc hR hc (w := f) (u := [1]) (fun t => by rw [ev_one]; grind)
  refine ⟨e, ep, fun x y hx hy hxy he => ?_⟩
  rcases hl x y hx hy hxy he with ⟨h, _⟩ | ⟨h, _⟩ <;> omega
/-! ### near places; rising -/
theorem cont {p : List Rat} {x : Rat} (h : sgnQ (ev p x) ≠ 0) : ∃ e : Rat, 0 < e ∧ ∀ y, qab (y - x) ≤ e → sgnQ (ev p y) = sgnQ (ev p x) := by
  have hd := qab_pos (x := ev p x) fun h0 => h (sgnQ_zero.2 h0)
  have hR : 0 ≤ qab x + 1 := by have := qab_nn x; grind
  obtain ⟨e, e1, e2, e3⟩ := small_ex (dqB_nn hR p) hd
  refine ⟨e, e1, fun y hy => (sgnQ_near Rat.le_refl (lip_near (x := x) (by grind) ?_ hR hy e3)).1⟩
  have := qab_add (y - x) x
  have e : y - x + x = y := by grind
  rw [e] at this; grind
theorem rise0 {R M : Rat} {p : List Rat} (hM : M = ddB R p) (hR : 0 ≤ R) {h : Rat} (hh : 0 < h) : ∀ (n : Nat) (x : Rat), qab x ≤ R → qab (x + (n : Rat) * h) ≤ R → (∀ t, x ≤ t → t ≤ x + (n : Rat) * h → 0 ≤ dv p t) → ev p x - (n : Rat) * (h * h * M) ≤ ev p (x + (n : Rat) * h)
  | 0, x, _, _, _ => by
    have e1 : x + ((0 : Nat) : Rat) * h = x := by rw [show ((0 : Nat) : Rat) = 0 from rfl]; grind
    have e2 : ((0 : Nat) : Rat) * (h * h * M) = 0 := by simp
    rw [e1, e2]; grind
  | n + 1, x, hx, hy, hd => by
    have hn' : (((n + 1 : Nat) : Rat)) = (n : Rat) + 1 := by push_cast; rfl
    rw [hn'] at hy hd ⊢
    have hn0 : (0 : Rat) ≤ (n : Rat) := Rat.natCast_nonneg
    have hnh := mul_nn hn0 (Rat.le_of_lt hh)
    have e1 : x + ((n : Rat) + 1) * h = (x + h) + (n : Rat) * h := by grind
    rw [e1] at hy hd ⊢
    have hxh : qab (x + h) ≤ R := in_R hx hy (by clear hd; grind) (by clear hd; grind)
    have ih := rise0 hM hR hh n (x + h) hxh hy fun t h1 h2 => hd t (by clear hd; grind) h2
    have h0 := hd x Rat.le_refl (by clear hd; grind)
    have h1 := ev_dd p (x + h) x
    have h2 := dd_bd hxh hx p
    rw [← hM, qab_le] at h2
    have h3 := Rat.mul_le_mul_of_nonneg_left h2.1 (mul_nn (Rat.le_of_lt hh) (Rat.le_of_lt hh))
    have h4 := mul_nn (Rat.le_of_lt hh) h0
    have e2 : x + h - x = h := by grind
    rw [e2] at h1
    clear hd hx hy hxh
    grind
theorem rise1 {p : List Rat} {x y : Rat} (hxy : x < y) (hd : ∀ t, x ≤ t → t ≤ y → 0 ≤ dv p t) : ev p x ≤ ev p y := by
  obtain ⟨R, hR, hx, hy⟩ := Rmax x y
  rcases le_or (ev p x) (ev p y) with h | h
  · exact h
  · exfalso
    obtain ⟨M, hM⟩ : ∃ M, M = ddB R p := ⟨_, rfl⟩
    have hM0 := ddB_nn hR p
    rw [← hM] at hM0
    obtain ⟨e, ep, _, he⟩ := small_ex (b := (y - x) * M) (d := ev p x - ev p y) (mul_nn (by grind) hM0) (by grind)
    obtain ⟨n, hn⟩ := arch_mul (z := y - x) ep
    have hn0 : 0 < (n : Rat) := by
      rcases le_or (n : Rat) 0 with h' | h'
      · have := Rat.mul_le_mul_of_nonneg_right h' (Rat.le_of_lt ep); clear hd; grind
      · exact h'
    have hh : 0 < (y - x) / n := div_po (by grind) hn0
    have e1 : (n : Rat) * ((y - x) / n) = y - x := by rw [Rat.mul_comm]; exact div_mul hn0
    have e2 : x + (n : Rat) * ((y - x) / n) = y := by rw [e1]; grind
    have h1 := rise0 hM hR hh n x hx (by rw [e2]; exact hy) (by rw [e2]; exact hd)
    rw [e2] at h1
    have h2 : (y - x) / n ≤ e := by
      rcases le_or ((y - x) / n) e with h' | h'
      · exact h'
      · have := Rat.mul_lt_mul_of_pos_left h' hn0; clear hd; grind
    have h3 : (n : Rat) * ((y - x) / n * ((y - x) / n) * M) = ((y - x) / n) * ((y - x) * M) := by
      have : (n : Rat) * ((y - x) / n * ((y - x) / n) * M) = ((n : Rat) * ((y - x) / n)) * (((y - x) / n) * M) := by grind
      rw [this, e1]; grind
    have h4 := Rat.mul_le_mul_of_nonneg_right h2 (mul_nn (x := y - x) (y := M) (by grind) hM0)
    rw [h3] at h1
    clear hd; grind
theorem rise {p : List Rat} {x y : Rat} (hxy : x < y) (hd : ∀ t, x ≤ t → t ≤ y → 0 < dv p t) : ev p x < ev p y := by
  have hx := hd x Rat.le_refl (by grind)
  have hR : 0 ≤ qab x + 1 := by have := qab_nn x; grind
  obtain ⟨e, e1, e2, e3⟩ := small_ex (ddB_nn hR p) hx
  obtain ⟨f, f1, f2, f3⟩ := min2 (a := e) (b := y - x) e1 (by grind)
  have hq : qab (x + f) ≤ qab x + 1 := by have := qab_add x f; have : qab f = f := by unfold qab; split <;> grind
                                          clear hd; grind
  have h1 := mono_sgn (p := p) (x := x) (y := x + f) (R := qab x + 1) (e := e) (d := dv p x) (by clear hd; grind) hq hR (by grind) (by grind) (by unfold qab; split <;> clear hd <;> grind) e3
  rw [sgnQ_pos.2 hx, sgnQ_pos] at h1
  rcases Classical.em (x + f = y) with e | e
  · rw [← e]; clear hd; grind
  · have := rise1 (p := p) (x := x + f) (y := y) (by clear hd; grind) fun t h1 h2 => Rat.le_of_lt (hd t (by clear hd; grind) h2)
    clear hd; grind
end Orq

namespace Orq
/-- c q: how the place compares with q -/
structure Cut (c : Rat → Int) : Prop where
  val : ∀ q, c q = 1 ∨ c q = 0 ∨ c q = -1
  mono : ∀ q r, q < r → c q ≠ 1 → c r = -1
  up : ∀ q, c q = 1 → ∃ r, q < r ∧ c r = 1
  dn : ∀ q, c q = -1 → ∃ r, r < q ∧ c r = -1
  lo : ∃ q, c q = 1
  hi : ∃ q, c q = -1
theorem Cut.mono' {c : Rat → Int} (h : Cut c) {q r : Rat} (hqr : q < r) (hr : c r ≠ -1) : c q = 1 := by
  rcases Classical.em (c q = 1) with e | e
  · exact e
  · exact absurd (h.mono q r hqr e) hr
theorem Cut.lt {c : Rat → Int} (h : Cut c) {q r : Rat} (hq : c q = 1) (hr : c r = -1) : q < r := by
  rcases le_or r q with e | e
  · rcases Classical.em (r = q) with e' | e'
    · rw [e'] at hr; omega
    · have := h.mono r q (by grind) (by omega); omega
  · exact e
/-- places near a cut, on both sides -/
theorem Cut.near {c : Rat → Int} (h : Cut c) {e : Rat} (he : 0 < e) : ∃ x y, c x = 1 ∧ c y = -1 ∧ y - x ≤ e := by
  obtain ⟨a, ha⟩ := h.lo
  obtain ⟨b, hb⟩ := h.hi
  have he2 : 0 < e / 2 := div_po he (by decide)
  have h2 : e / 2 * 2 = e := div_mul (by decide)
  have key : ∀ (n : Nat) (a : Rat), c a = 1 → b - a ≤ (n : Rat) * (e / 2) → ∃ x y, c x = 1 ∧ c y = -1 ∧ y - x ≤ e := by
    intro n
    induction n with
    | zero =>
      intro a ha hn
      have := h.lt ha hb
      rw [show ((0 : Nat) : Rat) = 0 from rfl] at hn
      exfalso; grind
    | succ n ih =>
      intro a ha hn
      have hn' : (((n + 1 : Nat) : Rat)) = (n : Rat) + 1 := by push_cast; rfl
      rw [hn'] at hn
      rcases h.val (a + e / 2) with h1 | h1 | h1
      · exact ih _ h1 (by grind)
      · exact ⟨a, a + e, ha, h.mono (a + e / 2) _ (by grind) (by omega), by grind⟩
      · exact ⟨a, a + e / 2, ha, h1, by grind⟩
  obtain ⟨n, hn⟩ := arch_mul (z := b - a) he2
  exact key n a ha hn
/-- p is 0 there -/
def Van (p : List Rat) (c : Rat → Int) : Prop := ∀ d : Rat, 0 < d → ∃ x y, c x = 1 ∧ c y = -1 ∧ ∀ q, x ≤ q → q ≤ y → qab (ev p q) < d
/-- p has the sign s there -/
def NZ (p : List Rat) (c : Rat → Int) (s : Int) : Prop := ∃ d : Rat, 0 < d ∧ ∃ x y, c x = 1 ∧ c y = -1 ∧ ∀ q, x ≤ q → q ≤ y → sgnQ (ev p q) = s ∧ d ≤ qab (ev p q)
/-- what holds near a place -/
def Nr (c : Rat → Int) (P : Rat → Prop) : Prop := ∃ x y, c x = 1 ∧ c y = -1 ∧ ∀ q, x ≤ q → q ≤ y → P q
theorem nr_and {c : Rat → Int} {P Q : Rat → Prop} (h1 : Nr c P) (h2 : Nr c Q) : Nr c fun q => P q ∧ Q q := by
  obtain ⟨x, y, a1, a2, a3⟩ := h1
  obtain ⟨x', y', b1, b2, b3⟩ := h2
  refine ⟨if x ≤ x' then x' else x, if y ≤ y' then y else y', by split <;> assumption, by split <;> assumption, fun q q1 q2 => ⟨a3 q ?_ ?_, b3 q ?_ ?_⟩⟩ <;> clear a3 b3 <;> grind
theorem nr_mono {c : Rat → Int} {P Q : Rat → Prop} (h1 : Nr c P) (h : ∀ q, P q → Q q) : Nr c Q := by
  obtain ⟨x, y, a1, a2, a3⟩ := h1
  exact ⟨x, y, a1, a2, fun q q1 q2 => h q (a3 q q1 q2)⟩
theorem nr_ex {c : Rat → Int} (hc : Cut c) {P : Rat → Prop} (h1 : Nr c P) : ∃ q, P q ∧ c q = 1 := by
  obtain ⟨x, y, a1, a2, a3⟩ := h1
  exact ⟨x, a3 x Rat.le_refl (Rat.le_of_lt (hc.lt a1 a2)), a1⟩
theorem nr_short {c : Rat → Int} (hc : Cut c) {e : Rat} (he : 0 < e) {P : Rat → Prop} (h1 : Nr c P) : ∃ x y, c x = 1 ∧ c y = -1 ∧ y - x ≤ e ∧ x < y ∧ ∀ q, x ≤ q → q ≤ y → P q := by
  obtain ⟨x, y, a1, a2, a3⟩ := h1
  obtain ⟨x', y', b1, b2, b3⟩ := hc.near he
  refine ⟨if x ≤ x' then x' else x, if y ≤ y' then y else y', by split <;> assumption, by split <;> assumption, by clear a3; grind, hc.lt (by split <;> assumption) (by split <;> assumption), fun q q1 q2 => a3 q ?_ ?_⟩ <;> clear a3 <;> grind
theorem nr_bd {c : Rat → Int} (hc : Cut c) : ∃ R : Rat, 0 ≤ R ∧ Nr c fun q => qab q ≤ R := by
  obtain ⟨x, y, a1, a2, _⟩ := hc.near (e := 1) (by decide)
  obtain ⟨R, hR, h1, h2⟩ := Rmax x y
  exact ⟨R, hR, x, y, a1, a2, fun q q1 q2 => in_R h1 h2 q1 q2⟩
theorem van_or {c : Rat → Int} (hc : Cut c) (p : List Rat) : Van p c ∨ ∃ s, s ≠ 0 ∧ NZ p c s := by
  rcases Classical.em (Van p c) with h | h
  · exact .inl h
  · refine .inr ?_
    obtain ⟨d, hd0⟩ := Classical.not_forall.1 h
    obtain ⟨dp, hd⟩ := Classical.not_imp.1 hd0
    have hd : ∀ x y, c x = 1 → c y = -1 → ∃ q, x ≤ q ∧ q ≤ y ∧ d ≤ qab (ev p q) := fun x y hx hy => by
      rcases Classical.em (∃ q, x ≤ q ∧ q ≤ y ∧ d ≤ qab (ev p q)) with h' | h'
      · exact h'
      · refine absurd ⟨x, y, hx, hy, fun q h1 h2 => ?_⟩ hd
        rcases le_or d (qab (ev p q)) with h3 | h3
        · exact absurd ⟨q, h1, h2, h3⟩ h'
        · exact h3
    obtain ⟨R, hR, hn⟩ := nr_bd hc
    have hd2 : 0 < d / 2 := div_po dp (by decide)
    have h2 : d / 2 * 2 = d := div_mul (by decide)
    obtain ⟨e, e1, _, e3⟩ := small_ex (dqB_nn hR p) hd2
    obtain ⟨x, y, hx, hy, hxy, _, hq⟩ := nr_short hc e1 hn
    obtain ⟨r, r1, r2, r3⟩ := hd x y hx hy
    have key : ∀ q, x ≤ q → q ≤ y → qab (ev p q - ev p r) < d / 2 := fun q q1 q2 =>
      lip_near (hq r r1 r2) (hq q q1 q2) hR (by rw [qab_le]; clear hq hd; constructor <;> grind) e3
    refine ⟨sgnQ (ev p r), fun h0 => ?_, d / 2, hd2, x, y, hx, hy, fun q q1 q2 => ⟨(sgnQ_near (d := d) r3 ?_).1, ?_⟩⟩
    · rw [sgnQ_zero.1 h0, qab_zero] at r3; clear hq hd key; grind
    · have := key q q1 q2; clear hq hd key; grind
    · have h3 := key q q1 q2
      have h4 := qab_add (ev p r - ev p q) (ev p q)
      rw [show ev p r - ev p q + ev p q = ev p r from by clear hq hd key; grind, qab_sub] at h4
      clear hq hd key; grind
theorem van_nz {c : Rat → Int} (hc : Cut c) {p : List Rat} {s : Int} (h1 : Van p c) (h2 : NZ p c s) : False := by
  obtain ⟨d, dp, h2⟩ := h2
  obtain ⟨q, ⟨a, b⟩, _⟩ := nr_ex hc (nr_and (h1 d dp) h2)
  exact absurd b.2 (Rat.not_le.2 a)
theorem van_mul {c : Rat → Int} (hc : Cut c) {f p q : List Rat} (hf : ∀ t, ev f t = ev p t * ev q t) (h : Van p c) : Van f c := by
  intro d dp
  obtain ⟨R, hR, hn⟩ := nr_bd hc
  obtain ⟨e, e1, _, e3⟩ := small_ex (evB_nn hR q) dp
  refine nr_mono (nr_and hn (h e e1)) fun t ⟨h1, h2⟩ => ?_
  rw [hf]
  have := qab_mul_le (Rat.le_of_lt h2) (ev_bd h1 q)
  exact Rat.not_le.1 fun h => absurd (Rat.le_trans h this) (Rat.not_le.2 e3)
theorem van_add {c : Rat → Int} {f p q : List Rat} (hf : ∀ t, ev f t = ev p t + ev q t) (h : Van p c) (h' : Van q c) : Van f c := by
  intro d dp
  have hd2 : 0 < d / 2 := div_po dp (by decide)
  have h2 : d / 2 * 2 = d := div_mul (by decide)
  refine nr_mono (nr_and (h _ hd2) (h' _ hd2)) fun t ⟨h1, h2⟩ => ?_
  rw [hf]
  have := qab_add (ev p t) (ev q t)
  grind
/-- the sign just behind a place -/
def RS (p : List Rat) (c : Rat → Int) (s : Int) : Prop := ∃ y, c y = -1 ∧ ∀ q, c q = -1 → q ≤ y → sgnQ (ev p q) = s
/-- and just ahead of it -/
def LS (p : List Rat) (c : Rat → Int) (s : Int) : Prop := ∃ x, c x = 1 ∧ ∀ q, c q = 1 → x ≤ q → sgnQ (ev p q) = s
theorem rs_nz {c : Rat → Int} (hc : Cut c) {p : List Rat} {s : Int} (h : NZ p c s) : RS p c s := by
  obtain ⟨d, dp, x, y, a1, a2, a3⟩ := h
  exact ⟨y, a2, fun q h1 h2 => (a3 q (Rat.le_of_lt (hc.lt a1 h1)) h2).1⟩
theorem ls_nz {c : Rat → Int} (hc : Cut c) {p : List Rat} {s : Int} (h : NZ p c s) : LS p c s := by
  obtain ⟨d, dp, x, y, a1, a2, a3⟩ := h
  exact ⟨x, a1, fun q h1 h2 => (a3 q h2 (Rat.le_of_lt (hc.lt h1 a2))).1⟩
theorem rs_un {c : Rat → Int} {p : List Rat} {s s' : Int} (h : RS p c s) (h' : RS p c s') : s = s' := by
  obtain ⟨y, a1, a2⟩ := h
  obtain ⟨y', b1, b2⟩ := h'
  rcases le_or y y' with e | e
  · rw [← a2 y a1 Rat.le_refl, ← b2 y a1 e]
  · rw [← a2 y' b1 (Rat.le_of_lt e), ← b2 y' b1 Rat.le_refl]
theorem rs_up {c : Rat → Int} (hc : Cut c) {p : List Rat} (hv : Van p c) {y : Rat} (hy : c y = -1) (h : ∀ q, c q = -1 → q ≤ y → 0 < dv p q) (q : Rat) (hq : c q = -1) (hqy : q ≤ y) : 0 < ev p q := by
  rcases le_or (ev p q) 0 with h0 | h0
  · exfalso
    obtain ⟨r, r1, r2⟩ := hc.dn q hq
    have hr : ev p r < ev p q := rise r1 fun t t1 t2 => h t (by
      rcases Classical.em (r = t) with e | e
      · rw [← e]; exact r2
      · exact hc.mono r t (by clear h; grind) (by omega)) (Rat.le_trans t2 hqy)
    obtain ⟨a, b, ha, hb, hab⟩ := hv (-ev p r) (by clear h; grind)
    obtain ⟨m, hm1, hm2, hm3⟩ : ∃ m, c m = -1 ∧ m ≤ b ∧ m ≤ r := by
      rcases le_or b r with e | e
      · exact ⟨b, hb, Rat.le_refl, e⟩
      · exact ⟨r, r2, Rat.le_of_lt e, Rat.le_refl⟩
    have h1 := hab m (Rat.le_of_lt (hc.lt ha hm1)) hm2
    have h2 : ev p m ≤ ev p r := by
      rcases Classical.em (m = r) with e | e
      · rw [e]; exact Rat.le_refl
      · exact Rat.le_of_lt (rise (by clear h hab; grind) fun t t1 t2 => h t (by
          rcases Classical.em (m = t) with e | e
          · rw [← e]; exact hm1
          · exact hc.mono m t (by clear h hab; grind) (by omega)) (by clear h hab; grind))
    rw [qab_lt] at h1
    clear h hab; grind
  · exact h0
/-- where p is 0, it has its derivative's sign just behind -/
theorem rs_der {c : Rat → Int} (hc : Cut c) {p : List Rat} {s : Int} (hv : Van p c) (h : RS (qder p) c s) (hs : s ≠ 0) : RS p c s := by
  obtain ⟨y, hy, h⟩ := h
  have hsv : s = 1 ∨ s = -1 := by
    have := h y hy Rat.le_refl
    rcases sgnQ_three (ev (qder p) y) with ⟨e, _⟩ | ⟨e, _⟩ | ⟨e, _⟩ <;> omega
  rcases hsv with rfl | rfl
  · refine ⟨y, hy, fun q h1 h2 => sgnQ_pos.2 (rs_up hc hv hy (fun q h1 h2 => ?_) q h1 h2)⟩
    rw [← ev_qder]; exact sgnQ_pos.1 (h q h1 h2)
  · refine ⟨y, hy, fun q h1 h2 => sgnQ_neg.2 ?_⟩
    have := rs_up hc (p := qsc (-1) p) (y := y) (fun d dp => nr_mono (hv d dp) fun q hq => by rw [ev_qsc, show -1 * ev p q = -ev p q by grind, qab_neg]; exact hq) hy (fun q h1 h2 => by
      rw [dv_qsc, ← ev_qder]
      have := sgnQ_neg.1 (h q h1 h2); grind) q h1 h2
    rw [ev_qsc] at this; grind
end Orq

namespace Orq
theorem ls_dn {c : Rat → Int} (hc : Cut c) {p : List Rat} (hv : Van p c) {x : Rat} (hx : c x = 1) (h : ∀ q, c q = 1 → x ≤ q → 0 < dv p q) (q : Rat) (hq : c q = 1) (hxq : x ≤ q) : ev p q < 0 := by
  rcases le_or 0 (ev p q) with h0 | h0
  · exfalso
    obtain ⟨r, r1, r2⟩ := hc.up q hq
    have hr : ev p q < ev p r := rise r1 fun t t1 t2 => h t (by
      rcases Classical.em (t = r) with e | e
      · rw [e]; exact r2
      · exact hc.mono' (q := t) (r := r) (by clear h; grind) (by omega)) (Rat.le_trans hxq t1)
    obtain ⟨a, b, ha, hb, hab⟩ := hv (ev p r) (by clear h; grind)
    obtain ⟨m, hm1, hm2, hm3⟩ : ∃ m, c m = 1 ∧ a ≤ m ∧ r ≤ m := by
      rcases le_or a r with e | e
      · exact ⟨r, r2, e, Rat.le_refl⟩
      · exact ⟨a, ha, Rat.le_refl, Rat.le_of_lt e⟩
    have h1 := hab m hm2 (Rat.le_of_lt (hc.lt hm1 hb))
    have h2 : ev p r ≤ ev p m := by
      rcases Classical.em (r = m) with e | e
      · rw [e]; exact Rat.le_refl
      · exact Rat.le_of_lt (rise (by clear h hab; grind) fun t t1 t2 => h t (by
          rcases Classical.em (t = m) with e | e
          · rw [e]; exact hm1
          · exact hc.mono' (q := t) (r := m) (by clear h hab; grind) (by omega)) (by clear h hab; grind))
    rw [qab_lt] at h1
    clear h hab; grind
  · exact h0
theorem ls_der {c : Rat → Int} (hc : Cut c) {p : List Rat} {s : Int} (hv : Van p c) (h : LS (qder p) c s) (hs : s ≠ 0) : LS p c (-s) := by
  obtain ⟨x, hx, h⟩ := h
  have hsv : s = 1 ∨ s = -1 := by
    have := h x hx Rat.le_refl
    rcases sgnQ_three (ev (qder p) x) with ⟨e, _⟩ | ⟨e, _⟩ | ⟨e, _⟩ <;> omega
  rcases hsv with rfl | rfl
  · refine ⟨x, hx, fun q h1 h2 => sgnQ_neg.2 (ls_dn hc hv hx (fun q h1 h2 => ?_) q h1 h2)⟩
    rw [← ev_qder]; exact sgnQ_pos.1 (h q h1 h2)
  · refine ⟨x, hx, fun q h1 h2 => sgnQ_pos.2 ?_⟩
    have := ls_dn hc (p := qsc (-1) p) (x := x) (fun d dp => nr_mono (hv d dp) fun q hq => by rw [ev_qsc, show -1 * ev p q = -ev p q by grind, qab_neg]; exact hq) hx (fun q h1 h2 => by
      rw [dv_qsc, ← ev_qder]
      have := sgnQ_neg.1 (h q h1 h2); grind) q h1 h2
    rw [ev_qsc] at this; grind
/-- two neighbours of a chain are not 0 together -/
theorem scl_van {c : Rat → Int} (hc : Cut c) {f g : List Rat} {l : List (List Rat)} (h : SCl f g l) : Van f c → Van g c → False := by
  induction h with
  | @base f g k hk hg =>
    intro _ hv
    obtain ⟨q, hq, _⟩ := nr_ex hc (hv (qab k) (qab_pos hk))
    rw [hg] at hq; grind
  | @step f g h l a b q ha hb he hl ih =>
    intro hf hg
    refine ih hg ?_
    have h1 : Van (qmul q g) c := van_mul hc (p := g) (q := q) (fun t => by rw [ev_qmul]; grind) hg
    have h2 : Van (qsc (-a) f) c := van_mul hc (p := f) (q := [-a]) (fun t => by rw [ev_qsc]; simp only [ev]; grind) hf
    have h3 : Van (qadd (qmul q g) (qsc (-a) f)) c := van_add (fun t => ev_qadd t _ _) h1 h2
    refine van_mul hc (p := qadd (qmul q g) (qsc (-a) f)) (q := [1 / b]) (fun t => ?_) h3
    have := he t
    rw [ev_qadd, ev_qmul, ev_qsc]
    simp only [ev]
    have hbb : 1 / b * b = 1 := div_mul hb
    have : ev q t * ev g t + -a * ev f t = b * ev h t := by rw [show -a * ev f t = -(a * ev f t) by grind, he t]; grind
    rw [this]
    have : b * ev h t * (1 / b + t * 0) = ev h t * (1 / b * b) := by grind
    rw [this, hbb]; grind
theorem van_scale {c : Rat → Int} (hc : Cut c) {f g : List Rat} {k : Rat} (h : ∀ t, ev g t = k * ev f t) (hv : Van f c) : Van g c :=
  van_mul hc (p := f) (q := [k]) (fun t => by rw [h]; simp only [ev]; grind) hv
theorem stm_van {c : Rat → Int} (hc : Cut c) {f : List Rat} {L : List (List Rat)} (h : Stm f L) (hv : Van f c) : ∃ s, s ≠ 0 ∧ NZ (qder f) c s := by
  rcases van_or hc (qder f) with h1 | h1
  · exfalso
    rcases h with ⟨k, hk, hf, _⟩ | ⟨g, l, k, hk, hg, h, _⟩
    · obtain ⟨q, hq, _⟩ := nr_ex hc (hv (qab k) (qab_pos hk))
      rw [hf] at hq; grind
    · exact scl_van hc h hv (van_scale hc (fun t => by rw [hg, ev_qder]) h1)
  · exact h1
/-- a divisor that is 0 there: its derivative is not -/
theorem div_der {c : Rat → Int} (hc : Cut c) {f w u : List Rat} {L : List (List Rat)} (h : Stm f L) (hf : ∀ t, ev f t = ev w t * ev u t) (hv : Van w c) : ∃ s, s ≠ 0 ∧ NZ (qder w) c s := by
  rcases van_or hc (qder w) with h1 | h1
  · exfalso
    obtain ⟨s, _, hs⟩ := stm_van hc h (van_mul hc hf hv)
    refine van_nz hc ?_ hs
    have a1 : Van (qmul (qder w) u) c := van_mul hc (fun t => ev_qmul t _ _) h1
    have a2 : Van (qmul w (qder u)) c := van_mul hc (fun t => ev_qmul t _ _) hv
    refine van_add (fun t => ?_) a1 a2
    rw [ev_qder, dv_mul hf, ev_qmul, ev_qmul, ev_qder, ev_qder]
  · exact h1
theorem cut_at {c : Rat → Int} (hc : Cut c) {q : Rat} (h : c q = 0) {x y : Rat} (hx : c x = 1) (hy : c y = -1) : x ≤ q ∧ q ≤ y := by
  constructor
  · rcases le_or x q with e | e
    · exact e
    · have := hc.mono q x e (by omega); omega
  · rcases le_or q y with e | e
    · exact e
    · have := hc.mono y q e (by omega); omega
theorem van_at {c : Rat → Int} (hc : Cut c) {p : List Rat} {q : Rat} (h : c q = 0) (hv : Van p c) : ev p q = 0 := by
  rcases Classical.em (ev p q = 0) with e | e
  · exact e
  · obtain ⟨x, y, hx, hy, hq⟩ := hv _ (qab_pos e)
    obtain ⟨h1, h2⟩ := cut_at hc h hx hy
    have := hq q h1 h2; grind
theorem nz_at {c : Rat → Int} (hc : Cut c) {p : List Rat} {q : Rat} {s : Int} (h : c q = 0) (hv : NZ p c s) : sgnQ (ev p q) = s := by
  obtain ⟨d, dp, x, y, hx, hy, hq⟩ := hv
  obtain ⟨h1, h2⟩ := cut_at hc h hx hy
  exact (hq q h1 h2).1
/-- a place between two cuts' neighbours -/
theorem cut_rt {c : Rat → Int} (hc : Cut c) {y z : Rat} (hy : c y = -1) (hz : c z = -1) : ∃ q, c q = -1 ∧ q < y ∧ q < z := by
  obtain ⟨a, a1, a2⟩ := hc.dn y hy
  obtain ⟨b, b1, b2⟩ := hc.dn z hz
  rcases le_or a b with e | e
  · exact ⟨a, a2, a1, by grind⟩
  · exact ⟨b, b2, by grind, b1⟩
theorem cut_lf {c : Rat → Int} (hc : Cut c) {y z : Rat} (hy : c y = 1) (hz : c z = 1) : ∃ q, c q = 1 ∧ y < q ∧ z < q := by
  obtain ⟨a, a1, a2⟩ := hc.up y hy
  obtain ⟨b, b1, b2⟩ := hc.up z hz
  rcases le_or a b with e | e
  · exact ⟨b, b2, by grind, b1⟩
  · exact ⟨a, a2, a1, by grind⟩
/-- where signs turn no more there is no root -/
theorem noroot {f w u : List Rat} {L : List (List Rat)} (h : Stm f L) (hf : ∀ t, ev f t = ev w t * ev u t) {x y : Rat} (hv : vv L x = vv L y) {c : Rat → Int} (hc : Cut c) (hx : c x = 1) (hy : c y ≠ 1) : ¬ Van w c := fun hw => by
  have hxy : x < y := by
    rcases le_or y x with e | e
    · rcases Classical.em (y = x) with e' | e'
      · rw [e'] at hy; exact absurd hx hy
      · have := hc.mono y x (by grind) hy; omega
    · exact e
  have hwv := vv_sm h hf hxy hv
  rcases hc.val y with e | e | e
  · exact hy e
  · have := van_at hc e hw
    have := hwv.s
    rw [sgnQ_zero.2 (by assumption)] at this
    exact hwv.n this.symm
  · obtain ⟨s, hs, hd⟩ := div_der hc h hf hw
    obtain ⟨a, ha, hal⟩ := ls_der hc hw (ls_nz hc hd) hs
    obtain ⟨b, hb, hbr⟩ := rs_der hc hw (rs_nz hc hd) hs
    obtain ⟨q, q1, q2, q3⟩ := cut_lf hc hx ha
    obtain ⟨r, r1, r2, r3⟩ := cut_rt hc hb e
    have e1 := hal q q1 (Rat.le_of_lt q3)
    have e2 := hbr r r1 (Rat.le_of_lt r2)
    have hqr := hc.lt q1 r1
    have v1 : vv L q ≤ vv L x := vv_le h q2
    have v2 : vv L y ≤ vv L r := vv_le h r3
    have v3 : vv L r ≤ vv L q := vv_le h hqr
    have s1 := (vv_sm h hf q2 (by omega)).s
    have s2 := (vv_sm h hf (x := x) (y := r) (by grind) (by omega)).s
    omega
/-- where they turn there are small values -/
theorem turned {f : List Rat} {L : List (List Rat)} (h : Stm f L) {x y : Rat} (hxy : x < y) (hv : vv L x ≠ vv L y) {d : Rat} (dp : 0 < d) : ∃ q, x ≤ q ∧ q ≤ y ∧ qab (ev f q) < d := by
  obtain ⟨R, hR, hx, hy⟩ := Rmax x y
  obtain ⟨e1, e1p, hl⟩ := loc hR h (w := f) (u := [1]) (fun t => by rw [ev_one]; grind)
  obtain ⟨e2, e2p, _, e2b⟩ := small_ex (dqB_nn hR f) dp
  obtain ⟨e, ep, h1, h2⟩ := min2 e1p e2p
  have key : ∀ n : Nat, ∀ x, qab x ≤ R → x < y → vv L x ≠ vv L y → y - x ≤ (n : Rat) * e → ∃ q, x ≤ q ∧ q ≤ y ∧ qab (ev f q) < d := by
    intro n
    induction n with
    | zero => intro x hx hxy _ hn; rw [show ((0 : Nat) : Rat) = 0 from rfl] at hn; exfalso; clear hl; grind
    | succ n ih =>
      intro x hx hxy hv hn
      have hstep : ∀ z, qab z ≤ R → x < z → z - x ≤ e → vv L x ≠ vv L z → qab (ev f z) < d := fun z hz hxz hze hv => by
        rcases hl x z hx hz hxz (Rat.le_trans hze h1) with ⟨p, _⟩ | ⟨_, p1, p2, p3, p4⟩
        · exact absurd p hv
        · have hd := lip_near (p := f) hx hz hR (e := e2) (d := d) (by rw [qab_le]; clear hl ih; constructor <;> grind) e2b
          rw [← p3] at p1 p4
          clear hl ih p2 p3
          rw [qab_lt] at *
          rcases sgnQ_three (ev f x) with ⟨a, a'⟩ | ⟨a, a'⟩ | ⟨a, a'⟩ <;> rcases sgnQ_three (ev f z) with ⟨b, b'⟩ | ⟨b, b'⟩ | ⟨b, b'⟩ <;> rw [a, b] at p4 <;> first | (exfalso; revert p4; decide) | skip
          all_goals first | (constructor <;> grind) | (exfalso; omega)
      rcases le_or (y - x) e with h3 | h3
      · exact ⟨y, Rat.le_of_lt hxy, Rat.le_refl, hstep y hy hxy h3 hv⟩
      · have hm : qab (x + e) ≤ R := in_R hx hy (by clear hl ih hstep; grind) (by clear hl ih hstep; grind)
        rcases Classical.em (vv L x = vv L (x + e)) with e0 | e0
        · have hn' : (((n + 1 : Nat) : Rat)) = (n : Rat) + 1 := by push_cast; rfl
          rw [hn'] at hn
          obtain ⟨q, q1, q2, q3⟩ := ih (x + e) hm (by clear hl ih hstep; grind) (by omega) (by clear hl ih hstep; grind)
          exact ⟨q, by clear hl ih hstep; grind, q2, q3⟩
        · exact ⟨x + e, by clear hl ih hstep; grind, by clear hl ih hstep; grind, hstep (x + e) hm (by clear hl ih hstep; grind) (by clear hl ih hstep; grind) e0⟩
  obtain ⟨n, hn⟩ := arch_mul (z := y - x) ep
  exact key n x hx hxy hv hn
end Orq

namespace Orq
theorem just {p : List Rat} {x : Rat} (h : lowQ p x ≠ 0) : ∃ e : Rat, 0 < e ∧ ∀ y, x < y → y - x ≤ e → sgnQ (ev p y) = lowQ p x := by
  by_cases h0 : sgnQ (ev p x) = 0
  · have hx := sgnQ_zero.1 h0
    rw [low_eq h0] at h ⊢
    have hR : 0 ≤ qab x + 1 := by have := qab_nn x; grind
    obtain ⟨e, e1, e2, e3⟩ := small_ex (ddB_nn hR p) (qab_pos (x := dv p x) fun h' => h (sgnQ_zero.2 h'))
    refine ⟨e, e1, fun y h1 h2 => ?_⟩
    have hy : qab y ≤ qab x + 1 := by
      have := qab_add x (y - x)
      have e : x + (y - x) = y := by grind
      have e' : qab (y - x) = y - x := by unfold qab; split <;> grind
      rw [e, e'] at this; grind
    have := mono_sgn (p := p) (by grind) hy hR h1 h2 Rat.le_refl e3
    rw [hx] at this
    rw [← this]; congr 1; grind
  · rw [low_ne h0] at h ⊢
    obtain ⟨e, e1, e2⟩ := cont h
    exact ⟨e, e1, fun y h1 h2 => e2 y (by rw [qab_le]; constructor <;> grind)⟩
/-- the place of a time -/
def cq (P : List Rat) (lo hi q : Rat) : Int := if q ≤ lo then 1 else if hi < q then -1 else if sgnQ (ev P q) = 0 then 0 else if sgnQ (ev P q) = lowQ P lo then 1 else -1
structure Vt (P : List Rat) (L : List (List Rat)) (lo hi : Rat) : Prop where
  s : Stm P L
  l : lo < hi
  v : vv L lo = vv L hi + 1
variable {P : List Rat} {L : List (List Rat)} {lo hi : Rat}
theorem cq_lo {q : Rat} (h : q ≤ lo) : cq P lo hi q = 1 := by unfold cq; rw [if_pos h]
theorem cq_hi {q : Rat} (h : lo < hi) (h' : hi < q) : cq P lo hi q = -1 := by unfold cq; rw [if_neg (by grind), if_pos h']
theorem cq_in' {q : Rat} (h1 : lo < q) (h2 : q ≤ hi) : cq P lo hi q = if sgnQ (ev P q) = 0 then 0 else if sgnQ (ev P q) = lowQ P lo then 1 else -1 := by
  unfold cq; rw [if_neg (by grind), if_neg (by grind)]
theorem Vt.two (V : Vt P L lo hi) {q : Rat} (h1 : lo < q) (h2 : q ≤ hi) : vv L q = vv L lo ∧ cq P lo hi q = 1 ∧ sgnQ (ev P q) = lowQ P lo ∨ vv L q = vv L hi ∧ cq P lo hi q ≠ 1 ∧ lowQ P q = -lowQ P lo ∧ lowQ P lo ≠ 0 := by
  have a := vv_le V.s h1
  have b : vv L hi ≤ vv L q := by
    rcases Classical.em (q = hi) with e | e
    · rw [e]; exact Nat.le_refl _
    · exact vv_le V.s (by grind)
  have hv := V.v
  rcases (show vv L q = vv L lo ∨ vv L q = vv L hi by omega) with e | e
  · have hs := vv_sm' V.s h1 e.symm
    refine .inl ⟨e, ?_, hs.s⟩
    rw [cq_in' h1 h2, hs.s, if_neg hs.n, if_pos rfl]
  · obtain ⟨o1, o2⟩ := vv_one V.s h1 (by omega)
    refine .inr ⟨e, ?_, o2, o1⟩
    rw [cq_in' h1 h2]
    split
    · decide
    · rename_i h0
      rw [low_ne h0] at o2
      rw [if_neg (by omega)]; decide
theorem Vt.lowlo (V : Vt P L lo hi) : lowQ P lo ≠ 0 := (vv_one V.s V.l V.v).1
theorem Vt.eq_lo (V : Vt P L lo hi) {q : Rat} (h1 : lo < q) (h2 : q ≤ hi) (h : cq P lo hi q = 1) : vv L q = vv L lo := by
  rcases V.two h1 h2 with ⟨e, _⟩ | ⟨_, e, _⟩
  · exact e
  · exact absurd h e
theorem Vt.eq_hi (V : Vt P L lo hi) {q : Rat} (h1 : lo < q) (h2 : q ≤ hi) (h : cq P lo hi q ≠ 1) : vv L q = vv L hi := by
  rcases V.two h1 h2 with ⟨_, e, _⟩ | ⟨e, _⟩
  · exact absurd e h
  · exact e
theorem Vt.hi1 (V : Vt P L lo hi) : cq P lo hi hi ≠ 1 := fun h => by have := V.eq_lo V.l Rat.le_refl h; have := V.v; omega
theorem Vt.cut (V : Vt P L lo hi) : Cut (cq P lo hi) where
  val q := by unfold cq; split <;> (try split) <;> (try split) <;> (try split) <;> simp
  mono q r h h1 := by
    have hq : lo < q := by rcases le_or q lo with e | e
                           · exact absurd (cq_lo e) h1
                           · exact e
    rcases le_or r hi with e | e
    · have e1 := V.eq_hi hq (by grind) h1
      rcases V.two (q := r) (by grind) e with ⟨e2, _⟩ | ⟨e2, _, e3, e4⟩
      · have := vv_le V.s h; have := V.v; omega
      · have hs := vv_sm' V.s h (by omega)
        rcases V.two hq (by grind) with ⟨e5, _⟩ | ⟨_, _, e5, _⟩
        · have := V.v; omega
        · rw [cq_in' (by grind) e, hs.s, if_neg hs.n, e5, if_neg (by omega)]
    · exact cq_hi V.l e
  up q h := by
    rcases le_or q lo with e | e
    · obtain ⟨d, dp, hd⟩ := just V.lowlo
      obtain ⟨f, fp, f1, f2⟩ := min2 (a := d) (b := hi - lo) dp (by have := V.l; grind)
      have h1 : lo < lo + f := by clear hd; grind
      have h2 : lo + f ≤ hi := by clear hd; grind
      have := hd (lo + f) h1 (by clear hd; grind)
      exact ⟨lo + f, by clear hd; grind, by rw [cq_in' h1 h2, this, if_neg V.lowlo, if_pos rfl]⟩
    · have hh : q ≤ hi := by rcases le_or q hi with e' | e'
                             · exact e'
                             · have := cq_hi (P := P) V.l e'; omega
      rcases V.two e hh with ⟨e1, _, e2⟩ | ⟨_, e1, _⟩
      · have hn : q ≠ hi := fun h => by rw [h] at e1; have := V.v; omega
        obtain ⟨d, dp, hd⟩ := cont (p := P) (x := q) (by rw [e2]; exact V.lowlo)
        obtain ⟨f, fp, f1, f2⟩ := min2 (a := d) (b := hi - q) dp (by clear hd; grind)
        have := hd (q + f) (by rw [qab_le]; clear hd; constructor <;> grind)
        exact ⟨q + f, by clear hd; grind, by rw [cq_in' (by clear hd; grind) (by clear hd; grind), this, e2, if_neg V.lowlo, if_pos rfl]⟩
      · exact absurd h e1
  dn q h := by
    have hq : lo < q := by rcases le_or q lo with e | e
                           · have := cq_lo (P := P) (hi := hi) e; omega
                           · exact e
    rcases le_or q hi with e | e
    · rw [cq_in' hq e] at h
      split at h
      · cases h
      rename_i h0
      split at h
      · cases h
      rename_i h1
      obtain ⟨d, dp, hd⟩ := cont h0
      obtain ⟨f, fp, f1, f2⟩ := min2 (a := d) (b := (q - lo) / 2) dp (div_po (by clear hd; grind) (by decide))
      have h2 : (q - lo) / 2 * 2 = q - lo := div_mul (by decide)
      have := hd (q - f) (by rw [qab_le]; clear hd; constructor <;> grind)
      exact ⟨q - f, by clear hd; grind, by rw [cq_in' (by clear hd; grind) (by clear hd; grind), this, if_neg h0, if_neg h1]⟩
    · have h2 : (q - hi) / 2 * 2 = q - hi := div_mul (by decide)
      exact ⟨q - (q - hi) / 2, by grind, cq_hi V.l (by grind)⟩
  lo := ⟨lo, cq_lo Rat.le_refl⟩
  hi := ⟨hi + 1, cq_hi V.l (by grind)⟩
theorem Vt.van (V : Vt P L lo hi) : Van P (cq P lo hi) := by
  have hc := V.cut
  rcases van_or hc P with h | ⟨s, hs, h⟩
  · exact h
  · exfalso
    have e1 : s = lowQ P lo := by
      obtain ⟨x, hx, hx1⟩ := ls_nz hc h
      obtain ⟨q, q1, q2, q3⟩ := cut_lf hc hx (cq_lo (P := P) (hi := hi) (Rat.le_refl (a := lo)))
      have hq : q ≤ hi := by rcases le_or q hi with e | e
                             · exact e
                             · have := cq_hi (P := P) V.l e; omega
      rcases V.two q3 hq with ⟨_, _, e⟩ | ⟨_, e, _⟩
      · rw [← hx1 q q1 (Rat.le_of_lt q2), e]
      · exact absurd q1 e
    rcases hc.val hi with e | e | e
    · exact V.hi1 e
    · have h0 := nz_at hc e h
      rw [cq_in' V.l Rat.le_refl] at e
      split at e
      · omega
      · split at e <;> omega
    · obtain ⟨y, hy, hy1⟩ := rs_nz hc h
      obtain ⟨q, q1, q2, q3⟩ := cut_rt hc hy e
      have hq : lo < q := hc.lt (cq_lo (P := P) (hi := hi) (Rat.le_refl (a := lo))) q1
      have := hy1 q q1 (Rat.le_of_lt q2)
      rw [cq_in' hq (Rat.le_of_lt q3), this, if_neg hs, if_pos e1] at q1
      cases q1
/-- has a divisor a root in a piece? -/
def hasQ (w : List Rat) (lo hi : Rat) : Prop := sgnQ (ev w hi) = 0 ∨ sgnQ (ev w hi) ≠ lowQ w lo
theorem Vt.has (V : Vt P L lo hi) {w u : List Rat} (hf : ∀ t, ev P t = ev w t * ev u t) {a b : Rat} (h1 : lo ≤ a) (h2 : a < b) (h3 : b ≤ hi) : hasQ w a b ↔ Van w (cq P lo hi) ∧ cq P lo hi a = 1 ∧ cq P lo hi b ≠ 1 := by
  have hc := V.cut
  have smno : vv L a = vv L b → ¬ hasQ w a b := fun h hh => by
    have := vv_sm V.s hf h2 h
    rcases hh with e | e
    · rw [this.s] at e; exact this.n e
    · exact e this.s
  by_cases ha : cq P lo hi a = 1
  · by_cases hb : cq P lo hi b = 1
    · have e1 := V.eq_lo (by grind) h3 hb
      have e2 : vv L a = vv L lo := by
        rcases Classical.em (lo = a) with e | e
        · rw [e]
        · exact V.eq_lo (by grind) (by grind) ha
      exact ⟨fun h => absurd h (smno (by omega)), fun h => absurd hb h.2.2⟩
    · have e1 := V.eq_hi (by grind) h3 hb
      have e2 : vv L a = vv L lo := by
        rcases Classical.em (lo = a) with e | e
        · rw [e]
        · exact V.eq_lo (by grind) (by grind) ha
      -- signs on both sides, within the piece
      have left : ∀ s, LS w (cq P lo hi) s → s = lowQ w a := fun s hs => by
        obtain ⟨x, hx, hx1⟩ := hs
        obtain ⟨q, q1, q2, q3⟩ := cut_lf hc hx ha
        have hqb : q < b := by
          rcases le_or b q with e | e
          · rcases Classical.em (b = q) with e' | e'
            · rw [e'] at hb; exact absurd q1 hb
            · have := hc.mono b q (by clear hx1 smno; grind) hb; omega
          · exact e
        have := V.eq_lo (q := q) (by clear hx1 smno; grind) (by clear hx1 smno; grind) q1
        rw [← (vv_sm V.s hf q3 (by omega)).s, hx1 q q1 (Rat.le_of_lt q2)]
      have right : ∀ s, RS w (cq P lo hi) s → cq P lo hi b = -1 → s = sgnQ (ev w b) := fun s hs hb => by
        obtain ⟨y, hy, hy1⟩ := hs
        obtain ⟨q, q1, q2, q3⟩ := cut_rt hc hy hb
        have hqa := hc.lt ha q1
        have := V.eq_hi (q := q) (by clear hy1 smno; grind) (by clear hy1 smno; grind) (by omega)
        have hs := vv_sm V.s hf q3 (by omega)
        have hl := hy1 q q1 (Rat.le_of_lt q2)
        have h0 : sgnQ (ev w q) ≠ 0 := by
          have hs2 := vv_sm V.s hf (x := q) (y := b) q3 (by omega)
          intro h0
          obtain ⟨r, r1, r2⟩ := hc.dn q q1
          have har := hc.lt ha r2
          have := V.eq_hi (q := r) (by clear hy1 smno; grind) (by clear hy1 smno; grind) (by omega)
          have hs3 := vv_sm V.s hf (x := r) (y := q) r1 (by omega)
          have hs4 := hs3.s
          rw [h0] at hs4; exact hs3.n hs4.symm
        rw [hs.s, low_ne h0, hl]
      refine ⟨fun h => ⟨?_, ha, hb⟩, fun ⟨hw, _, _⟩ => ?_⟩
      · rcases van_or hc w with e | ⟨s, hs0, hs⟩
        · exact e
        · exfalso
          have l1 := left s (ls_nz hc hs)
          have r1 : sgnQ (ev w b) = s := by
            rcases hc.val b with e | e | e
            · exact absurd e hb
            · exact nz_at hc e hs
            · exact (right s (rs_nz hc hs) e).symm
          rcases h with h | h
          · exact hs0 (by rw [← r1]; exact h)
          · exact h (by rw [r1, l1])
      · rcases hc.val b with e | e | e
        · exact absurd e hb
        · exact .inl (sgnQ_zero.2 (van_at hc e hw))
        · obtain ⟨s, hs0, hs⟩ := div_der hc V.s hf hw
          have l1 := left _ (ls_der hc hw (ls_nz hc hs) hs0)
          have r1 := right _ (rs_der hc hw (rs_nz hc hs) hs0) e
          exact .inr (by rw [← l1, ← r1]; omega)
  · have hla : lo < a := by rcases Classical.em (lo = a) with e | e
                            · rw [← e] at ha; exact absurd (cq_lo Rat.le_refl) ha
                            · grind
    have hb : cq P lo hi b ≠ 1 := by have := hc.mono a b h2 ha; omega
    have e1 := V.eq_hi hla (by grind) ha
    have e2 := V.eq_hi (q := b) (by grind) h3 hb
    exact ⟨fun h => absurd h (smno (by omega)), fun h => absurd h.2.1 ha⟩
theorem cut_diff {c c' : Rat → Int} (hc : Cut c) (hc' : Cut c') {q : Rat} (h : c q ≠ c' q) : ∃ r, (c r = -1 ∧ c' r = 1) ∨ (c r = 1 ∧ c' r = -1) := by
  rcases hc.val q with e | e | e <;> rcases hc'.val q with e' | e' | e'
  · omega
  · obtain ⟨r, r1, r2⟩ := hc.up q e
    exact ⟨r, .inr ⟨r2, hc'.mono q r r1 (by omega)⟩⟩
  · exact ⟨q, .inr ⟨e, e'⟩⟩
  · obtain ⟨r, r1, r2⟩ := hc'.up q e'
    exact ⟨r, .inl ⟨hc.mono q r r1 (by omega), r2⟩⟩
  · omega
  · obtain ⟨r, r1, r2⟩ := hc'.dn q e'
    exact ⟨r, .inr ⟨hc.mono' r1 (by omega), r2⟩⟩
  · exact ⟨q, .inl ⟨e, e'⟩⟩
  · obtain ⟨r, r1, r2⟩ := hc.dn q e
    exact ⟨r, .inl ⟨r2, hc'.mono' r1 (by omega)⟩⟩
  · omega
/-- the root is the only one -/
theorem Vt.uniq (V : Vt P L lo hi) {c : Rat → Int} (hc : Cut c) (h1 : c lo = 1) (h2 : c hi ≠ 1) (hv : Van P c) (q : Rat) : c q = cq P lo hi q := by
  rcases Classical.em (c q = cq P lo hi q) with e | e
  · exact e
  · exfalso
    obtain ⟨r, ⟨r1, r2⟩ | ⟨r1, r2⟩⟩ := cut_diff hc V.cut e
    · have hl := hc.lt h1 r1
      have hh : r ≤ hi := by rcases le_or r hi with e | e
                             · exact e
                             · have := cq_hi (P := P) V.l e; omega
      have := V.eq_lo hl hh r2
      exact noroot V.s (w := P) (u := [1]) (fun t => by rw [ev_one]; grind) (x := lo) (y := r) (by omega) hc h1 (by omega) hv
    · have hl : lo < r := by rcases le_or r lo with e | e
                             · have := cq_lo (P := P) (hi := hi) e; omega
                             · exact e
      have hh : r ≤ hi := by rcases le_or r hi with e | e
                             · exact e
                             · have := hc.mono hi r e h2; omega
      have := V.eq_hi hl hh (by omega)
      exact noroot V.s (w := P) (u := [1]) (fun t => by rw [ev_one]; grind) (x := r) (y := hi) (by omega) hc r1 h2 hv
/-- whether two are one: their common divisor has a root where both are -/
theorem Vt.same (V : Vt P L lo hi) {P' : List Rat} {L' : List (List Rat)} {lo' hi' : Rat} (V' : Vt P' L' lo' hi') {g u u' U W : List Rat} {k : Rat} (hk : k ≠ 0) (h1 : ∀ t, ev P t = ev g t * ev u t) (h2 : ∀ t, ev P' t = ev g t * ev u' t) (h3 : ∀ t, k * ev g t = ev U t * ev P t + ev W t * ev P' t) {a b : Rat} (ha1 : lo ≤ a) (ha2 : lo' ≤ a) (ha : a = lo ∨ a = lo') (hb1 : b ≤ hi) (hb2 : b ≤ hi') (hb : b = hi ∨ b = hi') : (a < b ∧ hasQ g a b) ↔ ∀ q, cq P lo hi q = cq P' lo' hi' q := by
  have hc := V.cut
  have hc' := V'.cut
  constructor
  · rintro ⟨hab, hg⟩
    obtain ⟨g1, g2, g3⟩ := (V.has h1 ha1 hab hb1).1 hg
    obtain ⟨g4, g5, g6⟩ := (V'.has h2 ha2 hab hb2).1 hg
    intro q
    refine (V.uniq hc' (by
      rcases Classical.em (lo = a) with e | e
      · rw [e]; exact g5
      · exact hc'.mono' (q := lo) (r := a) (by grind) (by omega)) (fun h => ?_) (van_mul hc' h1 g4) q).symm
    rcases Classical.em (b = hi) with e | e
    · rw [← e] at h; exact g6 h
    · have := hc'.mono b hi (by grind) g6; omega
  · intro h
    have hcc : cq P' lo' hi' = cq P lo hi := funext fun q => (h q).symm
    have e1 : cq P lo hi a = 1 := by rcases ha with rfl | rfl
                                     · exact cq_lo Rat.le_refl
                                     · rw [h]; exact cq_lo Rat.le_refl
    have e2 : cq P lo hi b ≠ 1 := by rcases hb with rfl | rfl
                                     · exact V.hi1
                                     · rw [h]; exact V'.hi1
    have hab : a < b := by
      rcases le_or b a with e | e
      · rcases Classical.em (b = a) with e' | e'
        · rw [e'] at e2; exact absurd e1 e2
        · have := hc.mono b a (by grind) e2; omega
      · exact e
    have v1 := V.van
    have v2 := V'.van
    rw [hcc] at v2
    have hg : Van g (cq P lo hi) := by
      have a1 : Van (qmul U P) (cq P lo hi) := van_mul hc (p := P) (q := U) (fun t => by rw [ev_qmul]; grind) v1
      have a2 : Van (qmul W P') (cq P lo hi) := van_mul hc (p := P') (q := W) (fun t => by rw [ev_qmul]; grind) v2
      have a3 := van_add (fun t => ev_qadd t _ _) a1 a2
      refine van_scale hc (k := 1 / k) (fun t => ?_) a3
      rw [ev_qadd, ev_qmul, ev_qmul, ← h3]
      have : 1 / k * (k * ev g t) = 1 / k * k * ev g t := by grind
      rw [this, show 1 / k * k = 1 from Rat.div_mul_cancel hk]; grind
    exact ⟨hab, (V.has h1 ha1 hab hb1).2 ⟨hg, e1, e2⟩⟩
end Orq

namespace Orq
theorem pigeon : ∀ (M : Nat) (f : Nat → Nat), (∀ i, i ≤ M → f i < M) → ∃ i j, i < j ∧ j ≤ M ∧ f i = f j
  | 0, f, h => absurd (h 0 (Nat.le_refl _)) (Nat.not_lt_zero _)
  | M + 1, f, h => by
    rcases Classical.em (∃ i, i ≤ M ∧ f i = f (M + 1)) with ⟨i, h1, h2⟩ | hn
    · exact ⟨i, M + 1, by omega, Nat.le_refl _, h2⟩
    · have hne : ∀ i, i ≤ M → f i ≠ f (M + 1) := fun i hi e => hn ⟨i, hi, e⟩
      obtain ⟨i, j, h1, h2, h3⟩ := pigeon M (fun i => if f i = M then f (M + 1) else f i) fun i hi => by
        have a1 := h i (by omega)
        have a2 := h (M + 1) (Nat.le_refl _)
        have a3 := hne i hi
        show (if f i = M then f (M + 1) else f i) < M
        split <;> omega
      refine ⟨i, j, h1, by omega, ?_⟩
      have a1 := hne i (by omega)
      have a2 := hne j h2
      split at h3 <;> split at h3 <;> omega
def dg (B k i : Nat) : Nat := k / B ^ i % B
theorem dg_succ (B k i : Nat) : dg B k (i + 1) = dg B (k / B) i := by unfold dg; rw [Nat.pow_succ, Nat.mul_comm, Nat.div_div_eq_div_mul]
theorem dg_inj {B : Nat} : ∀ (N : Nat) {k k' : Nat}, k < B ^ N → k' < B ^ N → (∀ i, i < N → dg B k i = dg B k' i) → k = k'
  | 0, k, k', h, h', _ => by rw [Nat.pow_zero] at h h'; omega
  | N + 1, k, k', h, h', he => by
    have h0 := he 0 (by omega)
    unfold dg at h0
    rw [Nat.pow_zero, Nat.div_one, Nat.div_one] at h0
    have hB : 0 < B := by
      rcases Nat.eq_zero_or_pos B with e | e
      · rw [e, Nat.pow_succ, Nat.mul_zero] at h; omega
      · exact e
    have h1 := dg_inj N (k := k / B) (k' := k' / B) (Nat.div_lt_of_lt_mul (by rw [Nat.mul_comm, ← Nat.pow_succ]; exact h)) (Nat.div_lt_of_lt_mul (by rw [Nat.mul_comm, ← Nat.pow_succ]; exact h')) fun i hi => by
      rw [← dg_succ, ← dg_succ]; exact he (i + 1) (by omega)
    rw [← Nat.mod_add_div k B, ← Nat.mod_add_div k' B, h0, h1]
def cd (B : Nat) : Nat → (Nat → Nat) → Nat
  | 0, _ => 0
  | E + 1, x => x 0 + B * cd B E fun e => x (e + 1)
theorem cd_lt {B : Nat} : ∀ (E : Nat) {x : Nat → Nat}, (∀ e, e < E → x e < B) → cd B E x < B ^ E
  | 0, _, _ => by simp [cd]
  | E + 1, x, h => by
    have h1 := h 0 (by omega)
    have h2 := cd_lt E (x := fun e => x (e + 1)) fun e he => h (e + 1) (by omega)
    simp only [cd]
    have h3 : B * cd B E (fun e => x (e + 1)) + B ≤ B * B ^ E := by
      rw [← Nat.mul_succ]; exact Nat.mul_le_mul_left _ h2
    rw [Nat.pow_succ, Nat.mul_comm (B ^ E)]; omega
theorem cd_inj {B : Nat} : ∀ (E : Nat) {x y : Nat → Nat}, (∀ e, e < E → x e < B) → (∀ e, e < E → y e < B) → cd B E x = cd B E y → ∀ e, e < E → x e = y e
  | 0, _, _, _, _, _, e, he => by omega
  | E + 1, x, y, hx, hy, h, e, he => by
    have h1 := hx 0 (by omega)
    have h2 := hy 0 (by omega)
    simp only [cd] at h
    have e0 : x 0 = y 0 := by
      have := congrArg (· % B) h
      simp only [Nat.add_mul_mod_self_left] at this
      rwa [Nat.mod_eq_of_lt h1, Nat.mod_eq_of_lt h2] at this
    have e1 : cd B E (fun e => x (e + 1)) = cd B E (fun e => y (e + 1)) := Nat.eq_of_mul_eq_mul_left (by omega : 0 < B) (by omega)
    cases e with
    | zero => exact e0
    | succ e => exact cd_inj E (fun e he => hx (e + 1) (by omega)) (fun e he => hy (e + 1) (by omega)) e1 e (by omega)
/-! ### sums -/
def sm : Nat → (Nat → Int) → Int
  | 0, _ => 0
  | n + 1, f => sm n f + f n
theorem sm_sub (f g : Nat → Int) : ∀ n, sm n (fun i => f i - g i) = sm n f - sm n g
  | 0 => rfl
  | n + 1 => by simp only [sm, sm_sub f g n]; omega
theorem sm_congr {f g : Nat → Int} : ∀ n, (∀ i, i < n → f i = g i) → sm n f = sm n g
  | 0, _ => rfl
  | n + 1, h => by simp only [sm, sm_congr n (fun i hi => h i (by omega)), h n (by omega)]
theorem sm_bd {f : Nat → Int} {b : Nat} : ∀ n, (∀ i, i < n → (f i).natAbs ≤ b) → (sm n f).natAbs ≤ n * b
  | 0, _ => by simp [sm]
  | n + 1, h => by
    have h1 := sm_bd n fun i hi => h i (by omega)
    have h2 := h n (by omega)
    simp only [sm]
    rw [Nat.succ_mul]; omega
theorem sm_zero {f : Nat → Int} : ∀ n, (∀ i, i < n → f i = 0) → sm n f = 0
  | 0, _ => rfl
  | n + 1, h => by simp only [sm, sm_zero n (fun i hi => h i (by omega)), h n (by omega)]; rfl
theorem sm_add (f : Nat → Int) (m : Nat) : ∀ n, sm (m + n) f = sm m f + sm n fun i => f (m + i)
  | 0 => by simp [sm]
  | n + 1 => by rw [← Nat.add_assoc]; simp only [sm, sm_add f m n]; omega
theorem sm_dbl (f : Nat → Int) (J : Nat) : ∀ b, sm (b * J) f = sm b fun i => sm J fun j => f (i * J + j)
  | 0 => by simp [sm]
  | b + 1 => by rw [Nat.succ_mul, sm_add, sm_dbl f J b]; rfl
theorem sm_one {f : Nat → Int} {k : Nat} : ∀ n, k < n → (∀ i, i < n → i ≠ k → f i = 0) → sm n f = f k
  | 0, h, _ => by omega
  | n + 1, h, h1 => by
    simp only [sm]
    rcases Nat.lt_or_eq_of_le (Nat.le_of_lt_succ h) with e | e
    · rw [sm_one n e fun i hi => h1 i (by omega), h1 n (by omega) (by omega)]; omega
    · subst e; rw [sm_zero k fun i hi => h1 i (by omega) (by omega)]; omega
/-- small solutions -/
theorem siegel {M : Nat → Nat → Int} {h N E H : Nat} (hM : ∀ e i, (M e i).natAbs ≤ h) (hc : (2 * (N * (h * H)) + 1) ^ E < (H + 1) ^ N) :
    ∃ v : Nat → Int, (∀ i, (v i).natAbs ≤ H) ∧ (∃ i, i < N ∧ v i ≠ 0) ∧ ∀ e, e < E → sm N (fun i => M e i * v i) = 0 := by
  obtain ⟨T, hT⟩ : ∃ T, T = N * (h * H) := ⟨_, rfl⟩
  rw [← hT] at hc
  have hv : ∀ k i, dg (H + 1) k i ≤ H := fun k i => Nat.le_of_lt_succ (Nat.mod_lt _ (by omega))
  have hs : ∀ k e, (sm N fun i => M e i * (dg (H + 1) k i : Int)).natAbs ≤ T := fun k e => by
    rw [hT]
    refine sm_bd N fun i _ => ?_
    rw [Int.natAbs_mul, Int.natAbs_natCast]
    exact Nat.mul_le_mul (hM e i) (hv k i)
  have him : ∀ k e, ((sm N fun i => M e i * (dg (H + 1) k i : Int)) + T).toNat < 2 * T + 1 := fun k e => by have := hs k e; omega
  obtain ⟨i, j, h1, h2, h3⟩ := pigeon ((2 * T + 1) ^ E) (fun k => cd (2 * T + 1) E fun e => ((sm N fun i => M e i * (dg (H + 1) k i : Int)) + T).toNat) fun k _ => cd_lt E fun e _ => him k e
  have h4 := cd_inj E (fun e _ => him i e) (fun e _ => him j e) h3
  refine ⟨fun n => (dg (H + 1) i n : Int) - dg (H + 1) j n, fun n => ?_, ?_, fun e he => ?_⟩
  · have a1 := hv i n
    have a2 := hv j n
    show ((dg (H + 1) i n : Int) - dg (H + 1) j n).natAbs ≤ H
    omega
  · rcases Classical.em (∃ n, n < N ∧ (dg (H + 1) i n : Int) - dg (H + 1) j n ≠ 0) with e | e
    · exact e
    · exfalso
      have : i = j := dg_inj (B := H + 1) N (by omega) (by omega) fun n hn => by
        rcases Classical.em (dg (H + 1) i n = dg (H + 1) j n) with e' | e'
        · exact e'
        · exact absurd ⟨n, hn, by omega⟩ e
      omega
  · have a1 := h4 e he
    have a2 := hs i e
    have a3 := hs j e
    have : (sm N fun n => M e n * (dg (H + 1) i n : Int)) = sm N fun n => M e n * (dg (H + 1) j n : Int) := by omega
    have e1 := sm_sub (fun n => M e n * (dg (H + 1) i n : Int)) (fun n => M e n * (dg (H + 1) j n : Int)) N
    rw [this] at e1
    rw [sm_congr N (g := fun n => M e n * (dg (H + 1) i n : Int) - M e n * (dg (H + 1) j n : Int)) fun n _ => Int.mul_sub _ _ _, e1]; omega
end Orq

namespace Orq
def pev : List Int → Rat → Rat
  | [], _ => 0
  | a :: p, t => (a : Rat) + t * pev p t
def sq : Nat → (Nat → Rat) → Rat
  | 0, _ => 0
  | n + 1, f => sq n f + f n
theorem sq_congr {f g : Nat → Rat} : ∀ n, (∀ i, i < n → f i = g i) → sq n f = sq n g
  | 0, _ => rfl
  | n + 1, h => by simp only [sq, sq_congr n (fun i hi => h i (by omega)), h n (by omega)]
theorem sq_add (f g : Nat → Rat) : ∀ n, sq n (fun i => f i + g i) = sq n f + sq n g
  | 0 => by simp only [sq]; grind
  | n + 1 => by simp only [sq, sq_add f g n]; grind
theorem sq_mul (c : Rat) (f : Nat → Rat) : ∀ n, sq n (fun i => c * f i) = c * sq n f
  | 0 => by simp only [sq]; grind
  | n + 1 => by simp only [sq, sq_mul c f n]; grind
theorem sq_zero {f : Nat → Rat} : ∀ n, (∀ i, i < n → f i = 0) → sq n f = 0
  | 0, _ => rfl
  | n + 1, h => by simp only [sq, sq_zero n (fun i hi => h i (by omega)), h n (by omega)]; grind
theorem sq_front (f : Nat → Rat) : ∀ n, sq (n + 1) f = f 0 + sq n fun i => f (i + 1)
  | 0 => by simp only [sq]; grind
  | n + 1 => by rw [sq, sq_front f n]; simp only [sq]; grind
theorem sq_bd {f : Nat → Rat} {b : Rat} : ∀ n, (∀ i, i < n → qab (f i) ≤ b) → qab (sq n f) ≤ (n : Rat) * b
  | 0, _ => by rw [show ((0 : Nat) : Rat) = 0 from rfl]; simp only [sq, qab_zero]; grind
  | n + 1, h => by
    have h1 := sq_bd n fun i hi => h i (by omega)
    have h2 := h n (by omega)
    have h3 := qab_add (sq n f) (f n)
    have hn' : (((n + 1 : Nat) : Rat)) = (n : Rat) + 1 := by push_cast; rfl
    rw [hn']; simp only [sq]; clear h; grind
/-- coefficients of B(y - x) -/
def gc : List Int → Nat → Nat → Int
  | [], _, _ => 0
  | c :: B, k, j => (if k = 0 ∧ j = 0 then c else 0) + (if k = 0 then 0 else gc B (k - 1) j) - (if j = 0 then 0 else gc B k (j - 1))
def gB : List Int → Nat
  | [] => 0
  | c :: B => max c.natAbs (2 * gB B)
theorem gc_zero : ∀ (B : List Int) (k j : Nat), B.length ≤ k + j → gc B k j = 0
  | [], _, _, _ => rfl
  | c :: B, k, j, h => by
    simp only [List.length_cons] at h
    simp only [gc]
    rw [if_neg (by omega)]
    have e1 : (if k = 0 then 0 else gc B (k - 1) j) = 0 := by
      split
      · rfl
      · exact gc_zero B _ _ (by omega)
    have e2 : (if j = 0 then 0 else gc B k (j - 1)) = 0 := by
      split
      · rfl
      · exact gc_zero B _ _ (by omega)
    rw [e1, e2]; rfl
theorem gc_bd : ∀ (B : List Int) (k j : Nat), (gc B k j).natAbs ≤ gB B
  | [], _, _ => Nat.zero_le _
  | c :: B, k, j => by
    have h1 := gc_bd B (k - 1) j
    have h2 := gc_bd B k (j - 1)
    simp only [gc, gB]
    by_cases hk : k = 0 <;> by_cases hj : j = 0 <;> simp only [hk, hj, true_and, and_true, false_and, and_false, if_true, if_false] <;> (try subst hk) <;> (try subst hj) <;> omega
theorem gc_top : ∀ (B : List Int) (b : Nat), B.length = b + 1 → (gc B 0 b).natAbs = (B.getD b 0).natAbs
  | [], _, h => by simp at h
  | [c], 0, _ => by simp [gc]
  | c :: d :: B, 0, h => by simp at h
  | c :: B, b + 1, h => by
    have ih := gc_top B b (by simpa using h)
    simp only [gc]
    simp only [Nat.add_sub_cancel, List.getD_cons_succ]
    rw [if_pos trivial, if_neg (Nat.succ_ne_zero b), ← ih]; omega
/-- the value of a table of coefficients -/
def E2 (F : Nat → Nat → Int) (K J : Nat) (x y : Rat) : Rat := sq K fun k => sq J fun j => (F k j : Rat) * (y ^ k * x ^ j)
theorem e2_add (F G : Nat → Nat → Int) (K J : Nat) (x y : Rat) : E2 (fun k j => F k j + G k j) K J x y = E2 F K J x y + E2 G K J x y := by
  unfold E2
  rw [← sq_add]
  refine sq_congr K fun k _ => ?_
  rw [← sq_add]
  exact sq_congr J fun j _ => by push_cast; grind
theorem e2_mul (c : Int) (F : Nat → Nat → Int) (K J : Nat) (x y : Rat) : E2 (fun k j => F k j * c) K J x y = (c : Rat) * E2 F K J x y := by
  unfold E2
  rw [← sq_mul]
  refine sq_congr K fun k _ => ?_
  rw [← sq_mul]
  exact sq_congr J fun j _ => by push_cast; grind
theorem e2_sum (φ : Nat → Nat → Nat → Int) (v : Nat → Int) (K J : Nat) (x y : Rat) : ∀ N, E2 (fun k j => sm N fun n => φ n k j * v n) K J x y = sq N fun n => (v n : Rat) * E2 (φ n) K J x y
  | 0 => by
    simp only [sq, sm]
    unfold E2
    refine sq_zero K fun k _ => sq_zero J fun j _ => ?_
    rw [show ((0 : Int) : Rat) = 0 from rfl]; grind
  | N + 1 => by
    simp only [sq]
    rw [← e2_sum φ v K J x y N, ← e2_mul, ← e2_add]
    rfl
theorem qpow_add (t : Rat) (i : Nat) : ∀ k, t ^ (i + k) = t ^ i * t ^ k
  | 0 => by rw [Nat.add_zero, Rat.pow_zero]; grind
  | k + 1 => by rw [← Nat.add_assoc, Rat.pow_succ, Rat.pow_succ, qpow_add t i k]; grind
/-- a sum that begins later -/
theorem sq_shift (f : Nat → Rat) : ∀ (i n : Nat), sq (i + n) (fun k => if i ≤ k then f (k - i) else 0) = sq n f
  | i, 0 => sq_zero _ fun k hk => by rw [if_neg (by omega)]
  | i, n + 1 => by
    rw [← Nat.add_assoc]; simp only [sq]
    rw [sq_shift f i n, if_pos (by omega), Nat.add_sub_cancel_left]
def shF (i j' : Nat) (F : Nat → Nat → Int) (k j : Nat) : Int := if i ≤ k then (if j' ≤ j then F (k - i) (j - j') else 0) else 0
theorem e2_shift (F : Nat → Nat → Int) (i j' K J : Nat) (x y : Rat) : E2 (shF i j' F) (i + K) (j' + J) x y = y ^ i * x ^ j' * E2 F K J x y := by
  unfold E2
  rw [← sq_mul, ← sq_shift _ i K]
  refine sq_congr _ fun k _ => ?_
  by_cases hk : i ≤ k
  · rw [if_pos hk, ← sq_mul, ← sq_shift _ j' J]
    refine sq_congr _ fun j _ => ?_
    unfold shF
    rw [if_pos hk]
    by_cases hj : j' ≤ j
    · rw [if_pos hj, if_pos hj]
      have e1 : y ^ k = y ^ i * y ^ (k - i) := by rw [← qpow_add]; congr 1; omega
      have e2 : x ^ j = x ^ j' * x ^ (j - j') := by rw [← qpow_add]; congr 1; omega
      rw [e1, e2]; grind
    · rw [if_neg hj, if_neg hj, show ((0 : Int) : Rat) = 0 from rfl]; grind
  · rw [if_neg hk]
    refine sq_zero _ fun j _ => ?_
    unfold shF
    rw [if_neg hk, show ((0 : Int) : Rat) = 0 from rfl]; grind
def fA (A : List Int) (k j : Nat) : Int := if j = 0 then A.getD k 0 else 0
theorem pev_sq (y : Rat) : ∀ (A : List Int) (K : Nat), A.length ≤ K → sq K (fun k => ((A.getD k 0 : Int) : Rat) * y ^ k) = pev A y
  | [], K, _ => by rw [sq_zero]; rfl; intro i _; simp
  | a :: A, 0, h => by simp at h
  | a :: A, K + 1, h => by
    have ih := pev_sq y A K (by simpa using h)
    rw [sq_front]
    simp only [pev, List.getD_cons_zero, List.getD_cons_succ, Rat.pow_zero]
    rw [← ih, ← sq_mul]
    have : (sq K fun i => ((A.getD i 0 : Int) : Rat) * y ^ (i + 1)) = sq K fun i => y * (((A.getD i 0 : Int) : Rat) * y ^ i) := sq_congr K fun i _ => by rw [Rat.pow_succ]; grind
    rw [this]; grind
theorem e2_A (A : List Int) (K J : Nat) (x y : Rat) (h : A.length ≤ K) : E2 (fA A) K (J + 1) x y = pev A y := by
  rw [← pev_sq y A K h]
  refine sq_congr K fun k _ => ?_
  rw [sq_front, sq_zero]
  · simp only [fA, if_true, Rat.pow_zero]; grind
  · intro j _
    simp only [fA]
    rw [if_neg (by omega), show ((0 : Int) : Rat) = 0 from rfl]; grind
theorem e2_G (x y : Rat) : ∀ (B : List Int) (K J : Nat), B.length ≤ K → B.length ≤ J → E2 (gc B) K J x y = pev B (y - x)
  | [], K, J, _, _ => by
    unfold E2
    simp only [gc, pev]
    exact sq_zero K fun k _ => sq_zero J fun j _ => by rw [show ((0 : Int) : Rat) = 0 from rfl]; grind
  | c :: B, 0, J, h, _ => by simp at h
  | c :: B, K + 1, 0, _, h => by simp at h
  | c :: B, K + 1, J + 1, h1, h2 => by
    have i1 := e2_G x y B K (J + 1) (by simpa using h1) (by simp at h2; omega)
    have i2 := e2_G x y B (K + 1) J (by simp at h1; omega) (by simpa using h2)
    have s1 := e2_shift (gc B) 1 0 K (J + 1) x y
    have s2 := e2_shift (gc B) 0 1 (K + 1) J x y
    rw [Nat.zero_add, Nat.add_comm 1 K] at s1
    rw [Nat.zero_add, Nat.add_comm 1 J] at s2
    rw [i1] at s1
    rw [i2] at s2
    have e0 : E2 (fA [c]) (K + 1) (J + 1) x y = (c : Rat) := by rw [e2_A [c] (K + 1) J x y (by simp)]; simp only [pev]; grind
    have e1 : gc (c :: B) = fun k j => (fA [c] k j + shF 1 0 (gc B) k j) + shF 0 1 (gc B) k j * (-1) := by
      funext k j
      simp only [gc, fA, shF]
      by_cases hk : k = 0 <;> by_cases hj : j = 0
      · subst hk; subst hj; simp
      · subst hk; simp [hj, show 1 ≤ j by omega]
        try omega
      · subst hj
        obtain ⟨m, rfl⟩ : ∃ m, k = m + 1 := ⟨k - 1, by omega⟩
        simp
      · obtain ⟨m, rfl⟩ : ∃ m, k = m + 1 := ⟨k - 1, by omega⟩
        obtain ⟨i, rfl⟩ : ∃ i, j = i + 1 := ⟨j - 1, by omega⟩
        simp; omega
    rw [e1, e2_add (fun k j => fA [c] k j + shF 1 0 (gc B) k j) (fun k j => shF 0 1 (gc B) k j * (-1)), e2_add (fA [c]) (shF 1 0 (gc B)), e2_mul, e0, s1, s2]
    simp only [pev, Rat.pow_zero, show y ^ 1 = y by rw [Rat.pow_succ, Rat.pow_zero]; grind, show x ^ 1 = x by rw [Rat.pow_succ, Rat.pow_zero]; grind]
    rw [show (((-1 : Int)) : Rat) = -1 from rfl]
    grind
end Orq

namespace Orq
def phi (A B : List Int) (b J J' n k j : Nat) : Int := if n < b * J then shF (n / J) (n % J) (fA A) k j else shF ((n - b * J) / J') ((n - b * J) % J') (gc B) k j
theorem shF_bd {F : Nat → Nat → Int} {h : Nat} (hF : ∀ k j, (F k j).natAbs ≤ h) (i j' k j : Nat) : (shF i j' F k j).natAbs ≤ h := by
  unfold shF; split
  · split
    · exact hF _ _
    · exact Nat.zero_le _
  · exact Nat.zero_le _
theorem ix_lt {i b J j : Nat} (hi : i < b) (hj : j < J) : i * J + j < b * J := by
  have : (i + 1) * J ≤ b * J := Nat.mul_le_mul_right J hi
  rw [Nat.succ_mul] at this; omega
theorem ix_div {i J j : Nat} (hj : j < J) : (i * J + j) / J = i ∧ (i * J + j) % J = j := by
  rw [Nat.mul_comm, Nat.mul_add_div (by omega), Nat.mul_add_mod, Nat.div_eq_of_lt hj, Nat.mod_eq_of_lt hj]; exact ⟨by omega, rfl⟩
theorem split_sum (A B : List Int) (a b J J' : Nat) (v : Nat → Int) (k j : Nat) : sm (b * J + a * J') (fun n => phi A B b J J' n k j * v n) =
    (sm b fun i => sm J fun j1 => shF i j1 (fA A) k j * v (i * J + j1)) + sm a fun i => sm J' fun j1 => shF i j1 (gc B) k j * v (b * J + (i * J' + j1)) := by
  rw [sm_add, sm_dbl, sm_dbl]
  congr 1
  · refine sm_congr b fun i hi => sm_congr J fun j1 hj => ?_
    unfold phi
    rw [if_pos (ix_lt hi hj), (ix_div hj).1, (ix_div hj).2]
  · refine sm_congr a fun i hi => sm_congr J' fun j1 hj => ?_
    unfold phi
    rw [if_neg (by omega), Nat.add_sub_cancel_left, (ix_div hj).1, (ix_div hj).2]
theorem colU (A : List Int) (v : Nat → Int) {i J k j : Nat} (hj : j < J) : (sm J fun j1 => shF i j1 (fA A) k j * v (i * J + j1)) = if i ≤ k then A.getD (k - i) 0 * v (i * J + j) else 0 := by
  rw [sm_one (k := j) J hj fun j1 _ hne => ?_]
  · unfold shF fA
    by_cases h : i ≤ k
    · rw [if_pos h, if_pos h, if_pos (Nat.le_refl _), if_pos (Nat.sub_self _)]
    · rw [if_neg h, if_neg h, Int.zero_mul]
  · unfold shF fA
    by_cases h : i ≤ k
    · rw [if_pos h]
      by_cases h' : j1 ≤ j
      · rw [if_pos h', if_neg (by omega), Int.zero_mul]
      · rw [if_neg h', Int.zero_mul]
    · rw [if_neg h, Int.zero_mul]
section
variable {A B : List Int} {a b J J' : Nat} (hA : A.length = a + 1) (hB : B.length = b + 1) (lA : A.getD a 0 ≠ 0) (lB : B.getD b 0 ≠ 0) (hJ : J = J' + b) {v : Nat → Int} (hW : ∀ k j, k < a + b → j < J → sm (b * J + a * J') (fun n => phi A B b J J' n k j * v n) = 0)
include hA lA hW in
/-- the first part: from the highest power of y down -/
theorem downU {jj : Nat} (hj : jj < J) (hV : ∀ k, a ≤ k → k < a + b → (sm a fun i => sm J' fun j1 => shF i j1 (gc B) k jj * v (b * J + (i * J' + j1))) = 0) : ∀ d i, i < b → b - i ≤ d → v (i * J + jj) = 0 := by
  intro d
  induction d with
  | zero => intro i hi hd; omega
  | succ d ih =>
    intro i hi hd
    have h1 := hW (i + a) jj (by omega) hj
    rw [split_sum, hV (i + a) (by omega) (by omega)] at h1
    rw [sm_congr b (fun i' hi' => colU A v hj)] at h1
    rw [sm_one (k := i) b hi fun i' hi' hne => ?_] at h1
    · rw [if_pos (by omega), Nat.add_sub_cancel_left, Int.add_zero] at h1
      rcases Int.mul_eq_zero.1 h1 with h2 | h2
      · exact absurd h2 lA
      · exact h2
    · rcases Nat.lt_or_ge i i' with h | h
      · rw [ih i' hi' (by omega)]; simp
      · rw [if_pos (by omega), List.getD_eq_getElem?_getD, List.getElem?_eq_none (by omega)]; simp
include hA hB lA lB hJ hW in
theorem downV : ∀ d js, js < J' → J' - js ≤ d → ∀ i, i < a → v (b * J + (i * J' + js)) = 0 := by
  intro d
  induction d with
  | zero => intro js hi hd; omega
  | succ d ih =>
    intro js hjs hd i hi
    have hin : ∀ i' k, i' < a → (sm J' fun j1 => shF i' j1 (gc B) k (js + b) * v (b * J + (i' * J' + j1))) = if i' = k then gc B 0 b * v (b * J + (i' * J' + js)) else 0 := fun i' k hi' => by
      rw [sm_one (k := js) J' hjs fun j1 hj1 hne => ?_]
      · unfold shF
        by_cases h : i' ≤ k
        · rw [if_pos h, if_pos (by omega), Nat.add_sub_cancel_left]
          by_cases h' : i' = k
          · rw [if_pos h', h', Nat.sub_self]
          · rw [if_neg h', gc_zero B _ _ (by omega), Int.zero_mul]
        · rw [if_neg h, if_neg (by omega), Int.zero_mul]
      · rcases Nat.lt_or_ge js j1 with h | h
        · rw [ih j1 hj1 (by omega) i' hi', Int.mul_zero]
        · unfold shF
          by_cases h' : i' ≤ k
          · rw [if_pos h', if_pos (by omega), gc_zero B _ _ (by omega), Int.zero_mul]
          · rw [if_neg h', Int.zero_mul]
    have hU := downU hA lA hW (jj := js + b) (by omega) (fun k hk hk' => sm_zero a fun i' hi' => by rw [hin i' k hi', if_neg (by omega)]) (b + 1)
    have h1 := hW i (js + b) (by omega) (by omega)
    rw [split_sum, sm_congr a (fun i' hi' => hin i' i hi')] at h1
    rw [sm_zero b fun i' hi' => by
      rw [colU A v (by omega), hU i' hi' (by omega)]; simp] at h1
    rw [sm_one (k := i) a hi fun i' hi' hne => if_neg hne, if_pos rfl, Int.zero_add] at h1
    rcases Int.mul_eq_zero.1 h1 with h2 | h2
    · have := gc_top B b hB; rw [h2] at this; omega
    · exact h2
include hA hB lA lB hJ hW in
theorem all_zero : ∀ n, n < b * J + a * J' → v n = 0 := by
  intro n hn
  have hV := downV hA hB lA lB hJ hW
  rcases Nat.lt_or_ge n (b * J) with h | h
  · have hJp : 0 < J := by
      rcases Nat.eq_zero_or_pos J with e | e
      · rw [e, Nat.mul_zero] at h; omega
      · exact e
    have e1 := Nat.mod_lt n hJp
    have e2 : n / J < b := Nat.div_lt_of_lt_mul (by rw [Nat.mul_comm]; exact h)
    have := downU hA lA hW e1 (fun k _ _ => sm_zero a fun i hi => sm_zero J' fun j1 hj1 => by rw [hV J' j1 hj1 (by omega) i hi, Int.mul_zero]) (b + 1) (n / J) e2 (Nat.le_trans (Nat.sub_le _ _) (Nat.le_succ _))
    rwa [Nat.mul_comm, Nat.div_add_mod] at this
  · have hJp : 0 < J' := by
      rcases Nat.eq_zero_or_pos J' with e | e
      · rw [e, Nat.mul_zero] at hn; omega
      · exact e
    have e1 := Nat.mod_lt (n - b * J) hJp
    have e2 : (n - b * J) / J' < a := Nat.div_lt_of_lt_mul (by rw [Nat.mul_comm J' a]; omega)
    have := hV J' _ e1 (by omega) _ e2
    rw [Nat.mul_comm ((n - b * J) / J'), Nat.div_add_mod] at this
    rwa [show b * J + (n - b * J) = n by omega] at this
end
theorem qpow_bd {R x : Rat} (h1 : 1 ≤ R) (hx : qab x ≤ R) : ∀ k : Nat, qab (x ^ k) ≤ R ^ k ∧ 1 ≤ R ^ k
  | 0 => by rw [Rat.pow_zero, Rat.pow_zero]; exact ⟨by decide, by decide⟩
  | k + 1 => by
    obtain ⟨i1, i2⟩ := qpow_bd h1 hx k
    rw [Rat.pow_succ, Rat.pow_succ]
    have := mul_mo (a := 1) (c := 1) (by decide) i2 (by decide) h1
    exact ⟨qab_mul_le i1 hx, by grind⟩
theorem qpow_le {R : Rat} (h1 : 1 ≤ R) {i : Nat} : ∀ k, i ≤ k → R ^ i ≤ R ^ k
  | 0, h => by rw [show i = 0 by omega]; exact Rat.le_refl
  | k + 1, h => by
    rcases Nat.lt_or_eq_of_le h with e | e
    · have := qpow_le h1 (i := i) k (by omega)
      have h2 := (qpow_bd h1 (x := 0) (by rw [qab_zero]; grind) k).2
      rw [Rat.pow_succ]
      have := mul_mo (a := R ^ k) (b := R ^ k) (c := 1) (d := R) (by grind) Rat.le_refl (by decide) h1
      grind
    · rw [e]; exact Rat.le_refl
theorem shE_bd {F : Nat → Nat → Int} {i j' K J : Nat} {x y R X : Rat} {K2 J2 : Nat} (h1 : 1 ≤ R) (hx : qab x ≤ R) (hy : qab y ≤ R) (hK : K = i + K2) (hJ : J = j' + J2) (hF : E2 F K2 J2 x y = X) : qab (E2 (shF i j' F) K J x y) ≤ R ^ (K + J) * qab X := by
  subst hK; subst hJ
  rw [e2_shift, hF, qab_mul]
  have a1 := (qpow_bd h1 hy i).1
  have a2 := (qpow_bd h1 hx j').1
  have a3 := qab_mul_le a1 a2
  rw [← qpow_add] at a3
  have a4 := qpow_le h1 (i := i + j') (i + K2 + (j' + J2)) (by omega)
  exact mul_mo (qab_nn _) (Rat.le_trans a3 a4) (qab_nn _) Rat.le_refl
/-- a whole polynomial in the difference, with small coefficients, that is small where both are -/
theorem sep_ex {A B : List Int} {a b h : Nat} (hA : A.length = a + 1) (hB : B.length = b + 1) (lA : A.getD a 0 ≠ 0) (lB : B.getD b 0 ≠ 0) (ha : 0 < a) (hb : 0 < b) (h0 : 1 ≤ h) (bA : ∀ k, (A.getD k 0).natAbs ≤ h) (bB : gB B ≤ h) {J J' N H : Nat} (hJ : J = 2 * (a * b)) (hJ' : J = J' + b) (hN : N = b * J + a * J') (hH : H = (2 * (N * h)) ^ (2 * (a + b - 1))) :
    ∃ w : Nat → Int, (∃ j, j < J ∧ w j ≠ 0) ∧ (∀ j, (w j).natAbs ≤ N * (h * H)) ∧ ∀ R : Rat, 1 ≤ R → ∃ C : Rat, 0 ≤ C ∧ ∀ x y, qab x ≤ R → qab y ≤ R → qab (sq J fun j => (w j : Rat) * x ^ j) ≤ C * (qab (pev A y) + qab (pev B (y - x))) := by
  have hab : 0 < a * b := Nat.mul_pos ha hb
  have hbd : ∀ n k j, (phi A B b J J' n k j).natAbs ≤ h := fun n k j => by
    unfold phi
    split
    · exact shF_bd (fun k j => by unfold fA; split; exact bA k; exact Nat.zero_le _) _ _ _ _
    · exact shF_bd (fun k j => Nat.le_trans (gc_bd B k j) bB) _ _ _ _
  have hJp : 0 < J := by omega
  have hNp : 1 ≤ N := by
    have : 0 < b * J := Nat.mul_pos hb hJp
    omega
  have hNh : 1 ≤ N * h := Nat.mul_pos hNp h0
  obtain ⟨E, hE⟩ : ∃ E, E = (a + b - 1) * J := ⟨_, rfl⟩
  have hNE : N = E + a * b := by
    have e1 : (a + b - 1) * J + J = (a + b) * J := by
      rw [← Nat.succ_mul]; congr 1; omega
    have e2 : a * J = a * J' + a * b := by rw [hJ', Nat.mul_add]
    rw [Nat.add_mul] at e1
    omega
  have hc : (2 * (N * (h * H)) + 1) ^ E < (H + 1) ^ N := by
    have c1 : 2 * (N * (h * H)) + 1 ≤ 2 * (N * h) * (H + 1) := by
      rw [Nat.mul_add, Nat.mul_one, Nat.mul_assoc 2, Nat.mul_assoc N]; omega
    refine Nat.lt_of_le_of_lt (Nat.pow_le_pow_left c1 E) ?_
    rw [Nat.mul_pow, hNE, Nat.pow_add, Nat.mul_comm]
    refine Nat.mul_lt_mul_of_pos_left ?_ (Nat.pow_pos (by omega))
    have e1 : (2 * (N * h)) ^ E = H ^ (a * b) := by
      rw [hH, ← Nat.pow_mul, hE, hJ]; congr 1
      rw [Nat.mul_comm 2 (a + b - 1), Nat.mul_assoc]
    rw [← hNE, e1]
    exact Nat.pow_lt_pow_left (by omega) (by omega)
  obtain ⟨v, v1, ⟨n0, n1, n2⟩, v3⟩ := siegel (M := fun e n => phi A B b J J' n (e / J + 1) (e % J)) (h := h) (N := N) (E := E) (H := H) (fun e n => hbd n _ _) hc
  have hW : ∀ k j, 1 ≤ k → k < a + b → j < J → sm N (fun n => phi A B b J J' n k j * v n) = 0 := fun k j k1 k2 hj => by
    have := v3 ((k - 1) * J + j) (by rw [hE]; exact ix_lt (by omega) hj)
    rwa [(ix_div hj).1, (ix_div hj).2, show k - 1 + 1 = k by omega] at this
  refine ⟨fun j => sm N fun n => phi A B b J J' n 0 j * v n, ?_, fun j => ?_, fun R hR => ?_⟩
  · rcases Classical.em (∃ j, j < J ∧ (sm N fun n => phi A B b J J' n 0 j * v n) ≠ 0) with e | e
    · exact e
    · exfalso
      refine n2 (all_zero hA hB lA lB hJ' (v := v) (fun k j hk hj => ?_) n0 (by rw [← hN]; exact n1))
      rw [← hN]
      rcases Nat.eq_zero_or_pos k with e' | e'
      · subst e'
        rcases Classical.em ((sm N fun n => phi A B b J J' n 0 j * v n) = 0) with e2 | e2
        · exact e2
        · exact absurd ⟨j, hj, e2⟩ e
      · exact hW k j e' hk hj
  · refine sm_bd N fun n _ => ?_
    rw [Int.natAbs_mul]
    exact Nat.mul_le_mul (hbd n 0 j) (v1 n)
  · have hRp : ∀ k : Nat, 1 ≤ R ^ k := fun k => (qpow_bd hR (x := 0) (by rw [qab_zero]; grind) k).2
    have hHn : (0 : Rat) ≤ (H : Rat) := Rat.natCast_nonneg
    have hNn : (0 : Rat) ≤ (N : Rat) := Rat.natCast_nonneg
    refine ⟨(N : Rat) * ((H : Rat) * R ^ (a + b + J)), mul_nn hNn (mul_nn hHn (by have := hRp (a + b + J); grind)), fun x y hx hy => ?_⟩
    have e1 : (sq J fun j => ((sm N fun n => phi A B b J J' n 0 j * v n : Int) : Rat) * x ^ j) = E2 (fun k j => sm N fun n => phi A B b J J' n k j * v n) (a + b) J x y := by
      unfold E2
      obtain ⟨m, hm⟩ : ∃ m, a + b = m + 1 := ⟨a + b - 1, by omega⟩
      rw [hm, sq_front, sq_zero (n := m)]
      · have : (sq J fun j => ((sm N fun n => phi A B b J J' n 0 j * v n : Int) : Rat) * (y ^ 0 * x ^ j)) = sq J fun j => ((sm N fun n => phi A B b J J' n 0 j * v n : Int) : Rat) * x ^ j := sq_congr J fun j _ => by rw [Rat.pow_zero]; grind
        rw [this]; grind
      · intro k hk
        refine sq_zero J fun j hj => ?_
        show ((sm N fun n => phi A B b J J' n (k + 1) j * v n : Int) : Rat) * _ = 0
        rw [hW (k + 1) j (by omega) (by omega) hj, show ((0 : Int) : Rat) = 0 from rfl]; grind
    rw [e1, e2_sum]
    have key : ∀ n, n < N → qab ((v n : Rat) * E2 (phi A B b J J' n) (a + b) J x y) ≤ (H : Rat) * (R ^ (a + b + J) * (qab (pev A y) + qab (pev B (y - x)))) := fun n hn => by
      have hvn : qab (v n : Rat) ≤ (H : Rat) := by
        have h1 := v1 n
        have h2 : (v n) ≤ (H : Int) := by omega
        have h3 : -(H : Int) ≤ v n := by omega
        have h2 := Rat.intCast_le_intCast.2 h2
        have h3 := Rat.intCast_le_intCast.2 h3
        rw [Rat.intCast_neg] at h3
        rw [qab_le]; exact ⟨h3, h2⟩
      refine qab_mul_le hvn ?_
      have hRk := hRp (a + b + J)
      have n1 := qab_nn (pev A y)
      have n2 := qab_nn (pev B (y - x))
      rcases Nat.lt_or_ge n (b * J) with h | h
      · have e : phi A B b J J' n = shF (n / J) (n % J) (fA A) := by funext k j; unfold phi; rw [if_pos h]
        have d1 : n / J < b := Nat.div_lt_of_lt_mul (by rw [Nat.mul_comm]; exact h)
        have d2 := Nat.mod_lt n hJp
        rw [e]
        refine Rat.le_trans (shE_bd (K2 := a + b - n / J) (J2 := J - n % J) hR hx hy (by omega) (by omega) (X := pev A y) ?_) (mul_mo (by grind) Rat.le_refl n1 (by grind))
        obtain ⟨m, hm⟩ : ∃ m, J - n % J = m + 1 := ⟨J - n % J - 1, by omega⟩
        rw [hm]; exact e2_A A _ _ x y (by omega)
      · have e : phi A B b J J' n = shF ((n - b * J) / J') ((n - b * J) % J') (gc B) := by funext k j; unfold phi; rw [if_neg (by omega)]
        have hJp' : 0 < J' := by
          rcases Nat.eq_zero_or_pos J' with e | e
          · rw [e, Nat.mul_zero] at hN; omega
          · exact e
        have d1 : (n - b * J) / J' < a := Nat.div_lt_of_lt_mul (by rw [Nat.mul_comm J' a]; omega)
        have d2 := Nat.mod_lt (n - b * J) hJp'
        rw [e]
        refine Rat.le_trans (shE_bd (K2 := a + b - (n - b * J) / J') (J2 := J - (n - b * J) % J') hR hx hy (by omega) (by omega) (X := pev B (y - x)) ?_) (mul_mo (by grind) Rat.le_refl n2 (by grind))
        exact e2_G x y B _ _ (by omega) (by omega)
    have := sq_bd N key
    refine Rat.le_trans this ?_
    have : (N : Rat) * ((H : Rat) * (R ^ (a + b + J) * (qab (pev A y) + qab (pev B (y - x))))) = (N : Rat) * ((H : Rat) * R ^ (a + b + J)) * (qab (pev A y) + qab (pev B (y - x))) := by grind
    rw [this]; exact Rat.le_refl
end Orq

namespace Orq
theorem sq_two {w : Nat → Int} {x : Rat} {D : Rat} (hx : qab x * 2 ≤ 1) (hw : ∀ j, qab (w j : Rat) ≤ D) : ∀ J (k : Nat), qab (sq J fun j => (w (k + j) : Rat) * x ^ j) ≤ 2 * D
  | 0, k => by have := hw 0; have := qab_nn (w 0 : Rat); simp only [sq, qab_zero]; clear hw; grind
  | J + 1, k => by
    have ih := sq_two hx hw J (k + 1)
    rw [sq_front]
    have e : (sq J fun i => (w (k + (i + 1)) : Rat) * x ^ (i + 1)) = x * sq J fun i => (w (k + 1 + i) : Rat) * x ^ i := by
      rw [← sq_mul]; exact sq_congr J fun i _ => by rw [Rat.pow_succ, show k + (i + 1) = k + 1 + i by omega]; grind
    rw [e, Rat.pow_zero, Nat.add_zero]
    have h1 := hw k
    have h2 := qab_add ((w k : Rat) * 1) (x * sq J fun i => (w (k + 1 + i) : Rat) * x ^ i)
    have h3 := qab_mul_le (x := x) (y := sq J fun i => (w (k + 1 + i) : Rat) * x ^ i) Rat.le_refl ih
    have h4 := Rat.mul_le_mul_of_nonneg_right hx (show (0 : Rat) ≤ D by have := qab_nn (w k : Rat); clear hw; grind)
    have h5 : (w k : Rat) * 1 = w k := by grind
    rw [h5] at h2 ⊢
    clear hw; grind
theorem one_le_int {z : Int} (h : z ≠ 0) : 1 ≤ qab (z : Rat) := by
  unfold qab
  rcases Int.lt_or_lt_of_ne h with h | h
  · have : ((z : Int) : Rat) < ((0 : Int) : Rat) := Rat.intCast_lt_intCast.2 h
    have h2 : ((1 : Int) : Rat) ≤ ((-z : Int) : Rat) := Rat.intCast_le_intCast.2 (by omega)
    rw [if_pos (by simpa using this)]
    rw [Rat.intCast_neg] at h2
    simpa using h2
  · have : ((0 : Int) : Rat) < ((z : Int) : Rat) := Rat.intCast_lt_intCast.2 h
    have h2 : ((1 : Int) : Rat) ≤ ((z : Int) : Rat) := Rat.intCast_le_intCast.2 (by omega)
    rw [if_neg (by have : (0 : Rat) < z := by simpa using this
                   grind)]
    simpa using h2
theorem low_bd {w : Nat → Int} {x : Rat} {D : Rat} (hD : 1 ≤ D) (hx0 : 0 < qab x) (hx : qab x * (4 * D) ≤ 1) (hw : ∀ j, qab (w j : Rat) ≤ D) : ∀ J (k : Nat), (∃ j, j < J ∧ w (k + j) ≠ 0) → qab x ^ J / 2 ≤ qab (sq J fun j => (w (k + j) : Rat) * x ^ j)
  | 0, k, ⟨j, h, _⟩ => by omega
  | J + 1, k, ⟨j, h1, h2⟩ => by
    have hx2 : qab x * 2 ≤ 1 := by
      have := mul_mo (a := qab x) (c := 2) (Rat.le_of_lt hx0) Rat.le_refl (by decide) (show (2 : Rat) ≤ 4 * D by clear hw; grind)
      exact Rat.le_trans this hx
    have hx1 : qab x ≤ 1 := by clear hw; grind
    have hp : ∀ k : Nat, qab x ^ k ≤ 1 ∧ 0 ≤ qab x ^ k := fun k => by
      induction k with
      | zero => rw [Rat.pow_zero]; exact ⟨by decide, by decide⟩
      | succ k ih =>
        rw [Rat.pow_succ]
        have := mul_mo ih.2 ih.1 (Rat.le_of_lt hx0) hx1
        have := mul_nn ih.2 (Rat.le_of_lt hx0)
        constructor <;> (clear hw; grind)
    rw [sq_front]
    have e : (sq J fun i => (w (k + (i + 1)) : Rat) * x ^ (i + 1)) = x * sq J fun i => (w (k + 1 + i) : Rat) * x ^ i := by
      rw [← sq_mul]; exact sq_congr J fun i _ => by rw [Rat.pow_succ, show k + (i + 1) = k + 1 + i by omega]; grind
    rw [e, Rat.pow_zero, Nat.add_zero k, show (w k : Rat) * 1 = w k by grind]
    by_cases h0 : w k = 0
    · have hj : j ≠ 0 := fun e => h2 (by rw [e]; exact h0)
      have ih := low_bd hD hx0 hx hw J (k + 1) ⟨j - 1, by omega, by rw [show k + 1 + (j - 1) = k + j by omega]; exact h2⟩
      rw [h0, show ((0 : Int) : Rat) + x * (sq J fun i => (w (k + 1 + i) : Rat) * x ^ i) = x * sq J fun i => (w (k + 1 + i) : Rat) * x ^ i by rw [show ((0 : Int) : Rat) = 0 from rfl]; grind, qab_mul, Rat.pow_succ]
      have := Rat.mul_le_mul_of_nonneg_left ih (Rat.le_of_lt hx0)
      have e2 : qab x * (qab x ^ J / 2) = qab x ^ J * qab x / 2 := by rw [Rat.div_def, Rat.div_def]; grind
      rw [e2] at this; exact this
    · have a1 := one_le_int h0
      have a2 := sq_two hx2 hw J (k + 1)
      have a3 := qab_mul_le (x := x) (y := sq J fun i => (w (k + 1 + i) : Rat) * x ^ i) Rat.le_refl a2
      have a4 := qab_add ((w k : Rat) + x * sq J fun i => (w (k + 1 + i) : Rat) * x ^ i) (-(x * sq J fun i => (w (k + 1 + i) : Rat) * x ^ i))
      rw [qab_neg, show (w k : Rat) + (x * sq J fun i => (w (k + 1 + i) : Rat) * x ^ i) + -(x * sq J fun i => (w (k + 1 + i) : Rat) * x ^ i) = w k by grind] at a4
      have a5 := (hp (J + 1)).1
      have a6 : qab x ^ (J + 1) / 2 * 2 = qab x ^ (J + 1) := div_mul (by decide)
      have a7 : qab x * (2 * D) * 2 = qab x * (4 * D) := by grind
      clear hw hp; grind
/-- no places near roots of two are that near without being near one -/
theorem gap_no {A B : List Int} {a b h : Nat} (hA : A.length = a + 1) (hB : B.length = b + 1) (lA : A.getD a 0 ≠ 0) (lB : B.getD b 0 ≠ 0) (ha : 0 < a) (hb : 0 < b) (h0 : 1 ≤ h) (bA : ∀ k, (A.getD k 0).natAbs ≤ h) (bB : gB B ≤ h) {N D : Nat} (hN : b * (2 * (a * b)) + a * (2 * (a * b) - b) = N) (hD : N * (h * (2 * (N * h)) ^ (2 * (a + b - 1))) ≤ D) {R d : Rat} (hR : 1 ≤ R) (dp : 0 < d)
    (hs : ∀ e : Rat, 0 < e → ∃ q r, qab q ≤ R ∧ qab r ≤ R ∧ d ≤ qab (q - r) ∧ qab (q - r) * (4 * (D : Rat)) ≤ 1 ∧ qab (pev A q) < e ∧ qab (pev B r) < e) : False := by
  have hab : 0 < a * b := Nat.mul_pos ha hb
  have hbab : b ≤ a * b := by
    have := Nat.mul_le_mul_right b (show 1 ≤ a from ha); omega
  obtain ⟨w, ⟨j, hj, hw0⟩, hw, hC⟩ := sep_ex hA hB lA lB ha hb h0 bA bB (J := 2 * (a * b)) (J' := 2 * (a * b) - b) rfl (by omega) hN.symm rfl
  obtain ⟨C, hC0, hC⟩ := hC (2 * R) (by grind)
  have hw' : ∀ j, qab (w j : Rat) ≤ (D : Rat) := fun j => by
    have h1 := Nat.le_trans (hw j) hD
    have h2 : w j ≤ (D : Int) := by omega
    have h3 : -(D : Int) ≤ w j := by omega
    have h2 := Rat.intCast_le_intCast.2 h2
    have h3 := Rat.intCast_le_intCast.2 h3
    rw [Rat.intCast_neg] at h3
    rw [qab_le]; exact ⟨h3, h2⟩
  have hD1 : (1 : Rat) ≤ (D : Rat) := by
    have := one_le_int hw0
    exact Rat.le_trans this (hw' j)
  have hdJ : 0 < d ^ (2 * (a * b)) / 2 := div_po (Rat.pow_pos dp) (by decide)
  obtain ⟨e, ep, _, he⟩ := small_ex (b := C * 2) (d := d ^ (2 * (a * b)) / 2) (by grind) hdJ
  obtain ⟨q, r, q1, r1, d1, d2, aq, br⟩ := hs e ep
  have h1 := hC (q - r) q (by have := qab_add q (-r); rw [qab_neg] at this; have : q - r = q + -r := by grind
                              grind) (by grind)
  rw [show q - (q - r) = r by grind] at h1
  have h2 := low_bd (x := q - r) hD1 (by grind) d2 hw' (2 * (a * b)) 0 ⟨j, hj, by rw [Nat.zero_add]; exact hw0⟩
  simp only [Nat.zero_add] at h2
  have h3 : C * (qab (pev A q) + qab (pev B r)) ≤ C * (e + e) := Rat.mul_le_mul_of_nonneg_left (by grind) hC0
  have h4 : d ^ (2 * (a * b)) ≤ qab (q - r) ^ (2 * (a * b)) := by
    generalize 2 * (a * b) = J
    induction J with
    | zero => rw [Rat.pow_zero, Rat.pow_zero]; exact Rat.le_refl
    | succ J ih =>
      rw [Rat.pow_succ, Rat.pow_succ]
      exact mul_mo (Rat.le_of_lt (Rat.pow_pos dp)) ih (Rat.le_of_lt dp) d1
  have h5 : d ^ (2 * (a * b)) / 2 * 2 = d ^ (2 * (a * b)) := div_mul (by decide)
  have h6 : qab (q - r) ^ (2 * (a * b)) / 2 * 2 = qab (q - r) ^ (2 * (a * b)) := div_mul (by decide)
  clear hC hs hw hw'
  grind
end Orq

namespace Orq
/-! ### degrees -/
def HD (p : List Rat) (n : Nat) : Prop := p.getD n 0 ≠ 0 ∧ ∀ k, n < k → p.getD k 0 = 0
theorem getD_qadd : ∀ (p q : List Rat) (k : Nat), (qadd p q).getD k 0 = p.getD k 0 + q.getD k 0
  | [], q, k => by simp only [qadd, List.getD_nil]; grind
  | a :: p, [], k => by simp only [qadd, List.getD_nil]; grind
  | a :: p, b :: q, 0 => by simp only [qadd, List.getD_cons_zero]
  | a :: p, b :: q, k + 1 => by simp only [qadd, List.getD_cons_succ]; exact getD_qadd p q k
theorem getD_qsc (c : Rat) : ∀ (p : List Rat) (k : Nat), (qsc c p).getD k 0 = c * p.getD k 0
  | [], k => by simp only [qsc, List.map_nil, List.getD_nil]; grind
  | a :: p, 0 => by simp [qsc]
  | a :: p, k + 1 => by have := getD_qsc c p k; simp only [qsc, List.map_cons, List.getD_cons_succ] at *; exact this
theorem getD_mem {p : List Rat} {k : Nat} (h : ∀ x ∈ p, x = 0) : p.getD k 0 = 0 := by
  rw [List.getD_eq_getElem?_getD]
  cases e : p[k]? with
  | none => rfl
  | some x => exact h x (List.mem_of_getElem? e)
/-- equal values, equal coefficients -/
theorem getD_ev {p q : List Rat} (h : ∀ t, ev p t = ev q t) (k : Nat) : p.getD k 0 = q.getD k 0 := by
  have h1 := getD_mem (k := k) (zero_of_ev (p := qadd p (qsc (-1) q)) fun t _ _ => by rw [ev_qadd, ev_qsc, h t]; grind)
  rw [getD_qadd, getD_qsc] at h1; grind
theorem ev_getD0 : ∀ {p : List Rat}, (∀ k, p.getD k 0 = 0) → ∀ t, ev p t = 0
  | [], _, t => rfl
  | a :: p, h, t => by
    have h0 := h 0
    have h1 := ev_getD0 (p := p) (fun k => by have := h (k + 1); rwa [List.getD_cons_succ] at this) t
    rw [List.getD_cons_zero] at h0
    simp only [ev, h0, h1]; grind
theorem hd_ex : ∀ (p : List Rat), (∀ t, ev p t = 0) ∨ ∃ n, n < p.length ∧ HD p n
  | [] => .inl fun _ => rfl
  | a :: p => by
    rcases hd_ex p with h | ⟨n, hn, h1, h2⟩
    · rcases Classical.em (a = 0) with e | e
      · exact .inl fun t => by simp only [ev, e, h t]; grind
      · refine .inr ⟨0, by simp, by simpa using e, fun k hk => ?_⟩
        obtain ⟨m, rfl⟩ : ∃ m, k = m + 1 := ⟨k - 1, by omega⟩
        rw [List.getD_cons_succ]
        exact (getD_ev (p := p) (q := []) h m).trans (by simp)
    · refine .inr ⟨n + 1, by simp; omega, by rw [List.getD_cons_succ]; exact h1, fun k hk => ?_⟩
      obtain ⟨m, rfl⟩ : ∃ m, k = m + 1 := ⟨k - 1, by omega⟩
      rw [List.getD_cons_succ]; exact h2 m (by omega)
theorem hd_ev {p q : List Rat} {n : Nat} (h : ∀ t, ev p t = ev q t) (hp : HD p n) : HD q n :=
  ⟨by rw [← getD_ev h]; exact hp.1, fun k hk => by rw [← getD_ev h]; exact hp.2 k hk⟩
theorem hd_un {p : List Rat} {n m : Nat} (h : HD p n) (h' : HD p m) : n = m := by
  rcases Nat.lt_trichotomy n m with e | e | e
  · exact absurd (h.2 m e) h'.1
  · exact e
  · exact absurd (h'.2 n e) h.1
theorem hd_nz {p : List Rat} {n : Nat} (h : HD p n) : ¬ ∀ t, ev p t = 0 := fun h0 => h.1 ((getD_ev (p := p) (q := []) h0 n).trans (by simp))
theorem hd_zero_mul {p q : List Rat} (h : ∀ k, p.getD k 0 = 0) (k : Nat) : (qmul p q).getD k 0 = 0 := by
  have := getD_ev (p := qmul p q) (q := []) (fun t => by rw [ev_qmul, ev_getD0 h t]; simp only [ev]; grind) k
  rw [this]; simp
theorem hd_mul : ∀ {p q : List Rat} {m n : Nat}, HD p m → HD q n → HD (qmul p q) (m + n)
  | [], q, m, n, h, _ => absurd (by simp) h.1
  | a :: p, q, 0, n, h, h' => by
    have h1 : ∀ k, p.getD k 0 = 0 := fun k => by have := h.2 (k + 1) (by omega); rwa [List.getD_cons_succ] at this
    have h2 : ∀ k, (qmul (a :: p) q).getD k 0 = a * q.getD k 0 := fun k => by
      simp only [qmul]
      rw [getD_qadd, getD_qsc]
      cases k with
      | zero => rw [List.getD_cons_zero]; grind
      | succ k => rw [List.getD_cons_succ, hd_zero_mul h1]; grind
    have h3 := h.1
    rw [List.getD_cons_zero] at h3
    refine ⟨?_, fun k hk => ?_⟩
    · rw [h2, Nat.zero_add]; exact fun h => (Rat.mul_eq_zero.1 h).elim h3 h'.1
    · rw [h2, h'.2 k (by omega)]; grind
  | a :: p, q, m + 1, n, h, h' => by
    have ih := hd_mul (p := p) (q := q) (m := m) ⟨by have := h.1; rwa [List.getD_cons_succ] at this, fun k hk => by have := h.2 (k + 1) (by omega); rwa [List.getD_cons_succ] at this⟩ h'
    refine ⟨?_, fun k hk => ?_⟩
    · simp only [qmul]
      rw [getD_qadd, getD_qsc, show m + 1 + n = (m + n) + 1 by omega, List.getD_cons_succ, h'.2 _ (by omega)]
      have := ih.1; grind
    · obtain ⟨j, rfl⟩ : ∃ j, k = j + 1 := ⟨k - 1, by omega⟩
      simp only [qmul]
      rw [getD_qadd, getD_qsc, List.getD_cons_succ, h'.2 _ (by omega), ih.2 j (by omega)]; grind
/-! ### divisors -/
def Dvd (g f : List Rat) : Prop := ∃ u, ∀ t, ev f t = ev g t * ev u t
theorem dvd_refl (f : List Rat) : Dvd f f := ⟨[1], fun t => by rw [ev_one]; grind⟩
theorem dvd_trans {f g h : List Rat} : Dvd f g → Dvd g h → Dvd f h
  | ⟨u, hu⟩, ⟨v, hv⟩ => ⟨qmul u v, fun t => by rw [hv, hu, ev_qmul]; grind⟩
/-- a product that is 0 everywhere -/
theorem mul_zero_ev {p q : List Rat} (h : ∀ t, ev p t * ev q t = 0) (hp : ¬ ∀ t, ev p t = 0) : ∀ t, ev q t = 0 := by
  rcases hd_ex p with h1 | ⟨m, _, h1⟩
  · exact absurd h1 hp
  · rcases hd_ex q with h2 | ⟨n, _, h2⟩
    · exact h2
    · exact absurd (fun t => by rw [ev_qmul]; exact h t) (hd_nz (hd_mul h1 h2))
theorem cancel {p q r : List Rat} (hp : ¬ ∀ t, ev p t = 0) (h : ∀ t, ev p t * ev q t = ev p t * ev r t) (t : Rat) : ev q t = ev r t := by
  have := mul_zero_ev (p := p) (q := qadd q (qsc (-1) r)) (fun t => by rw [ev_qadd, ev_qsc]; have := h t; grind) hp t
  rw [ev_qadd, ev_qsc] at this; grind
/-- division -/
theorem div_ex {b : List Rat} {n : Nat} (hb : HD b n) : ∀ (l : Nat) (a : List Rat), (∀ k, l ≤ k → a.getD k 0 = 0) → ∃ q r, (∀ t, ev a t = ev q t * ev b t + ev r t) ∧ ∀ k, n ≤ k → r.getD k 0 = 0
  | 0, a, ha => ⟨[], a, fun t => by simp only [ev]; grind, fun k _ => ha k (Nat.zero_le _)⟩
  | l + 1, a, ha => by
    rcases Nat.lt_or_ge l n with h | h
    · exact ⟨[], a, fun t => by simp only [ev]; grind, fun k hk => ha k (by omega)⟩
    · -- the leading term is taken away
      obtain ⟨c, hc⟩ : ∃ c, c = a.getD l 0 / b.getD n 0 := ⟨_, rfl⟩
      have hcb : c * b.getD n 0 = a.getD l 0 := by rw [hc]; exact Rat.div_mul_cancel hb.1
      obtain ⟨m, hm⟩ : ∃ m : List Rat, m = List.replicate (l - n) 0 ++ [c] := ⟨_, rfl⟩
      have hsh : ∀ (i : Nat) (k : Nat), (qmul (List.replicate i 0 ++ [c]) b).getD k 0 = if i ≤ k then c * b.getD (k - i) 0 else 0 := fun i => by
        induction i with
        | zero => intro k; simp only [List.replicate_zero, List.nil_append, qmul]; rw [getD_qadd, getD_qsc]; cases k <;> simp <;> grind
        | succ i ih =>
          intro k
          simp only [List.replicate_succ, List.cons_append, qmul]
          rw [getD_qadd, getD_qsc]
          cases k with
          | zero => rw [List.getD_cons_zero, if_neg (by omega)]; grind
          | succ k =>
            rw [List.getD_cons_succ, ih k]
            by_cases h : i ≤ k
            · rw [if_pos h, if_pos (by omega), Nat.add_sub_add_right]; grind
            · rw [if_neg h, if_neg (by omega)]; grind
      obtain ⟨q, r, h1, h2⟩ := div_ex hb l (qadd a (qsc (-1) (qmul m b))) fun k hk => by
        rw [getD_qadd, getD_qsc, hm, hsh, if_pos (by omega)]
        rcases Nat.lt_or_eq_of_le hk with e | e
        · rw [ha k (by omega), hb.2 _ (by omega)]; grind
        · subst e; rw [show l - (l - n) = n by omega, hcb]; grind
      refine ⟨qadd q m, r, fun t => ?_, h2⟩
      have := h1 t
      rw [ev_qadd, ev_qsc, ev_qmul] at this
      rw [ev_qadd]; grind
/-- common divisors as combinations -/
theorem gcd_ex : ∀ (n : Nat) (a b : List Rat), (∀ k, n ≤ k → b.getD k 0 = 0) → ∃ g U V, Dvd g a ∧ Dvd g b ∧ ∀ t, ev g t = ev U t * ev a t + ev V t * ev b t
  | 0, a, b, h => by
    have h0 := ev_getD0 fun k => h k (Nat.zero_le _)
    exact ⟨a, [1], [], dvd_refl a, ⟨[], fun t => by rw [h0]; simp only [ev]; grind⟩, fun t => by rw [ev_one]; simp only [ev]; grind⟩
  | n + 1, a, b, h => by
    rcases Classical.em (b.getD n 0 = 0) with e | e
    · exact gcd_ex n a b fun k hk => by
        rcases Nat.lt_or_eq_of_le hk with e' | e'
        · exact h k (by omega)
        · rw [← e']; exact e
    · obtain ⟨q, r, h1, h2⟩ := div_ex (b := b) (n := n) ⟨e, fun k hk => h k (by omega)⟩ a.length a fun k hk => by rw [List.getD_eq_getElem?_getD, List.getElem?_eq_none hk]; rfl
      obtain ⟨g, U, V, ⟨u, hu⟩, ⟨v, hv⟩, hg⟩ := gcd_ex n b r h2
      refine ⟨g, V, qadd U (qsc (-1) (qmul V q)), ⟨qadd (qmul q u) v, fun t => ?_⟩, ⟨u, hu⟩, fun t => ?_⟩
      · rw [h1, hv, ev_qadd, ev_qmul, hu]; grind
      · rw [hg, ev_qadd, ev_qsc, ev_qmul, h1]; grind
theorem gcd_of (a b : List Rat) : ∃ g U V, Dvd g a ∧ Dvd g b ∧ ∀ t, ev g t = ev U t * ev a t + ev V t * ev b t :=
  gcd_ex b.length a b fun k hk => by rw [List.getD_eq_getElem?_getD, List.getElem?_eq_none hk]; rfl
def Cop (a b : List Rat) : Prop := ∃ U V, ∀ t, ev U t * ev a t + ev V t * ev b t = 1
theorem cop_dvd {c d e : List Rat} (h : Cop c d) (h1 : ∃ u, ∀ t, ev d t * ev e t = ev c t * ev u t) : Dvd c e := by
  obtain ⟨U, V, h⟩ := h
  obtain ⟨u, hu⟩ := h1
  refine ⟨qadd (qmul U e) (qmul V u), fun t => ?_⟩
  rw [ev_qadd, ev_qmul, ev_qmul]
  have a1 := h t
  have a2 := hu t
  have : ev e t = (ev U t * ev c t + ev V t * ev d t) * ev e t := by rw [a1]; grind
  rw [this]
  have : (ev U t * ev c t + ev V t * ev d t) * ev e t = ev U t * ev c t * ev e t + ev V t * (ev d t * ev e t) := by grind
  rw [this, a2]; grind
/-! ### powers -/
def qpw (d : List Rat) : Nat → List Rat
  | 0 => [1]
  | k + 1 => qmul d (qpw d k)
theorem qpw_dv (d : List Rat) (t : Rat) : ∀ k : Nat, ev d t * dv (qpw d k) t = (k : Rat) * (dv d t * ev (qpw d k) t)
  | 0 => by simp only [qpw, dv, ev]; rw [show ((0 : Nat) : Rat) = 0 from rfl]; grind
  | k + 1 => by
    have ih := qpw_dv d t k
    have hn' : (((k + 1 : Nat) : Rat)) = (k : Rat) + 1 := by push_cast; rfl
    simp only [qpw]
    rw [dv_qmul, ev_qmul, hn']; grind
theorem qpw_hd {d : List Rat} {m : Nat} (h : HD d m) : ∀ k, HD (qpw d k) (k * m)
  | 0 => by rw [Nat.zero_mul]; exact ⟨by simp [qpw], fun k hk => by simp only [qpw]; rw [List.getD_eq_getElem?_getD, List.getElem?_eq_none (by simp; omega)]; rfl⟩
  | k + 1 => by rw [Nat.succ_mul, Nat.add_comm (k * m) m]; exact hd_mul h (qpw_hd h k)
/-- what divides with all its powers is a number -/
theorem pow_const {d g : List Rat} {m n : Nat} (hd : HD d m) (hg : HD g n) (h : ∀ k, Dvd (qpw d k) g) : m = 0 := by
  obtain ⟨u, hu⟩ := h (n + 1)
  rcases hd_ex u with h1 | ⟨j, _, h1⟩
  · exact absurd (fun t => by rw [hu, h1]; grind) (hd_nz hg)
  · have := hd_un (hd_ev (fun t => by rw [hu, ev_qmul]) hg) (hd_mul (qpw_hd hd (n + 1)) h1)
    rcases Nat.eq_zero_or_pos m with e | e
    · exact e
    · have : (n + 1) * 1 ≤ (n + 1) * m := Nat.mul_le_mul_left _ e
      omega
/-- a over its common divisor with its derivative has no multiple divisor -/
theorem sqf {a g q d U V : List Rat} {k : Rat} (hk : k ≠ 0) (ha : ∀ t, ev a t = ev g t * ev q t) (hg : ∀ t, k * ev g t = ev U t * ev a t + ev V t * dv a t) (h1 : Dvd d q) (h2 : Dvd d (qder q)) : ∀ n, Dvd (qpw d n) g
  | 0 => ⟨g, fun t => by simp only [qpw]; rw [ev_one]; grind⟩
  | n + 1 => by
    obtain ⟨g1, e1⟩ := sqf hk ha hg h1 h2 n
    obtain ⟨q1, e2⟩ := h1
    obtain ⟨q2, e3⟩ := h2
    have d1 := fun t => dv_mul ha t
    have d2 := fun t => dv_mul e1 t
    have d3 := fun t => dv_mul e2 t
    have d4 := qpw_dv d
    refine ⟨qsc (1 / k) (qadd (qmul U (qmul g1 q1)) (qmul V (qadd (qmul g1 q2) (qadd (qsc n (qmul g1 (qadd q2 (qsc (-1) (qder q1))))) (qmul (qder g1) q1))))), fun t => ?_⟩
    have hkk : 1 / k * k = 1 := Rat.div_mul_cancel hk
    simp only [qpw, ev_qsc, ev_qadd, ev_qmul, ev_qder]
    have b1 := ha t; have b2 := hg t; have b3 := e1 t; have b4 := e2 t; have b5 := e3 t
    have b6 := d1 t; have b7 := d2 t; have b8 := d3 t; have b9 := d4 t n
    rw [ev_qder] at b5
    generalize ev d t = x0 at *
    generalize ev (qpw d n) t = x1 at *
    generalize ev g t = x2 at *
    generalize ev q t = x3 at *
    generalize ev a t = x4 at *
    generalize dv a t = x5 at *
    generalize dv g t = x6 at *
    generalize dv q t = x7 at *
    generalize ev g1 t = x8 at *
    generalize dv g1 t = x9 at *
    generalize ev q1 t = y0 at *
    generalize dv q1 t = y1 at *
    generalize ev q2 t = y2 at *
    generalize dv d t = y3 at *
    generalize dv (qpw d n) t = y4 at *
    generalize ev U t = y5 at *
    generalize ev V t = y6 at *
    generalize (n : Rat) = y7 at *
    have : x2 = 1 / k * (k * x2) := by grind
    rw [this, b2]
    have c1 : x5 = x0 * x1 * (x8 * y2 + (y7 * (x8 * (y2 + -1 * y1)) + x9 * y0)) := by
      rw [b6, b7, b4, b3]
      have : y3 * y0 = x0 * y2 - x0 * y1 := by grind
      have : x0 * y4 * (x8 * y0) = y7 * (x1 * x8 * (x0 * y2 - x0 * y1)) := by rw [b9, ← this]; grind
      grind
    have c2 : x4 = x0 * x1 * (x8 * y0) := by rw [b1, b3, b4]; grind
    rw [c1, c2]; grind
end Orq

namespace Orq
theorem cop_mul {a b c : List Rat} (h1 : Cop a b) (h2 : Cop a c) {d : List Rat} (hd : ∀ t, ev d t = ev b t * ev c t) : Cop a d := by
  obtain ⟨U, V, h1⟩ := h1
  obtain ⟨X, Y, h2⟩ := h2
  refine ⟨qadd U (qmul (qmul V b) X), qmul V Y, fun t => ?_⟩
  have a1 := h1 t
  have a2 := h2 t
  simp only [ev_qadd, ev_qmul, hd]
  have : ev V t * ev b t * (ev X t * ev a t + ev Y t * ev c t) = ev V t * ev b t := by rw [a2]; grind
  grind
/-- a divisor without multiple roots divides the part without them -/
theorem sqf_dvd {a g q z r X Y : List Rat} {n : Nat} (ha : ∀ t, ev a t = ev g t * ev q t) (hz : ∀ t, dv a t = ev g t * ev z t) (hg : HD g n) (hr : ∀ t, ev X t * ev r t + ev Y t * dv r t = 1) (h : Dvd r a) : Dvd r q := by
  obtain ⟨b, hb⟩ := h
  obtain ⟨e, U, V, ⟨r1, e1⟩, ⟨q3, e2⟩, e3⟩ := gcd_of r q
  have hr0 : ¬ ∀ t, ev r t = 0 := fun h => by
    have h1 := hr 0
    have h2 : dv r 0 = 0 := by have := dv_eq (p := r) (q := []) h 0; rw [this]; rfl
    rw [h, h2] at h1; grind
  have he0 : ¬ ∀ t, ev e t = 0 := fun h => hr0 fun t => by rw [e1, h]; grind
  have d1 := fun t => dv_mul e1 t
  -- r1 has nothing in common with q3, with e, with its derivative
  have c1 : Cop r1 q3 := ⟨U, V, fun t => by
    have := cancel (p := e) (q := qadd (qmul U r1) (qmul V q3)) (r := [1]) he0 (fun t => by
      rw [ev_qadd, ev_qmul, ev_qmul, ev_one]
      have a1 := e1 t; have a2 := e2 t; have a3 := e3 t
      rw [a1, a2] at a3; grind) t
    rw [ev_qadd, ev_qmul, ev_qmul, ev_one] at this; exact this⟩
  have c2 : Cop r1 e := ⟨qadd (qmul X e) (qmul Y (qder e)), qmul Y (qder r1), fun t => by
    have a1 := hr t; have a2 := e1 t; have a3 := d1 t
    simp only [ev_qadd, ev_qmul, ev_qder]
    rw [a2, a3] at a1; grind⟩
  have c3 : Cop r1 (qder r1) := ⟨qadd (qmul X e) (qmul Y (qder e)), qmul Y e, fun t => by
    have a1 := hr t; have a2 := e1 t; have a3 := d1 t
    simp only [ev_qadd, ev_qmul, ev_qder]
    rw [a2, a3] at a1; grind⟩
  have c4 : Cop r1 q := cop_mul c2 c1 e2
  have hgz := hd_nz hg
  -- so all its powers divide g
  have hp : ∀ k, Dvd (qpw r1 k) g := fun k => by
    induction k with
    | zero => exact ⟨g, fun t => by simp only [qpw]; rw [ev_one]; grind⟩
    | succ k ih =>
      obtain ⟨h, eh⟩ := ih
      have hpz : ¬ ∀ t, ev (qpw r1 k) t = 0 := fun h0 => hgz fun t => by rw [eh, h0]; grind
      have key : Dvd r1 h := by
        cases k with
        | zero =>
          refine cop_dvd c4 ⟨qmul e b, fun t => ?_⟩
          have a1 := ha t; have a2 := hb t; have a3 := e1 t; have a4 := eh t
          simp only [qpw] at a4
          rw [ev_one] at a4
          rw [ev_qmul]; grind
        | succ k =>
          have hn : ((k + 1 : Nat) : Rat) ≠ 0 := by
            have : (0 : Rat) < ((k + 1 : Nat) : Rat) := by
              have h1 : ((0 : Nat) : Rat) < ((k + 1 : Nat) : Rat) := Rat.natCast_lt_natCast.2 (by omega)
              simpa using h1
            grind
          -- k r1' h q = r1 (..)
          have d2 := fun t => dv_mul (f := a) (w := qpw r1 (k + 1)) (u := qmul h q) (fun t => by rw [ha, eh, ev_qmul]; grind) t
          have d4 := qpw_dv r1
          have h3 := cancel (p := qpw r1 (k + 1)) (q := qmul (qder r1) (qmul h q)) (r := qmul r1 (qsc (1 / ((k + 1 : Nat) : Rat)) (qadd (qmul h z) (qsc (-1) (qder (qmul h q)))))) hpz fun t => by
            simp only [ev_qmul, ev_qsc, ev_qadd, ev_qder]
            have a1 := d2 t; have a2 := d4 t (k + 1); have a3 := hz t; have a4 := eh t
            rw [ev_qmul] at a1
            generalize ((k + 1 : Nat) : Rat) = c at *
            have hc : 1 / c * c = 1 := Rat.div_mul_cancel hn
            generalize ev (qpw r1 (k + 1)) t = x0 at *
            generalize dv (qpw r1 (k + 1)) t = x1 at *
            generalize dv (qmul h q) t = x2 at *
            generalize ev r1 t = x3 at *
            generalize dv r1 t = x4 at *
            generalize ev h t = x5 at *
            generalize ev q t = x6 at *
            generalize ev z t = x7 at *
            generalize dv a t = x8 at *
            generalize ev g t = x9 at *
            generalize 1 / c = c' at *
            have s1 : x0 * (x4 * (x5 * x6)) = c' * (c * (x4 * x0)) * (x5 * x6) := by
              have : c' * (c * (x4 * x0)) = (c' * c) * (x4 * x0) := by grind
              rw [this, hc]; grind
            rw [s1, ← a2]
            have s2 : x3 * (x1 * (x5 * x6)) = x3 * (x0 * (x5 * x7 + -1 * x2)) := by
              rw [a3, a4] at a1; grind
            grind
          refine cop_dvd c4 ?_
          obtain ⟨u, hu⟩ := cop_dvd (e := qmul q h) c3 ⟨qsc (1 / ((k + 1 : Nat) : Rat)) (qadd (qmul h z) (qsc (-1) (qder (qmul h q)))), fun t => by
            have := h3 t
            simp only [ev_qmul] at this ⊢
            rw [← this]; grind⟩
          exact ⟨u, fun t => by rw [← hu, ev_qmul]⟩
      obtain ⟨u, hu⟩ := key
      exact ⟨u, fun t => by simp only [qpw]; rw [ev_qmul, eh, hu]; grind⟩
  rcases hd_ex r1 with h1 | ⟨m, _, h1⟩
  · exact absurd (fun t => by rw [e1, h1]; grind) hr0
  · obtain rfl := pow_const h1 hg hp
    -- r1 is a number
    have h2 : ∀ t, ev r1 t = r1.getD 0 0 := fun t => by
      cases r1 with
      | nil => simp [ev]
      | cons c l =>
        have : ∀ t, ev l t = 0 := ev_getD0 fun k => by have := h1.2 (k + 1) (by omega); rwa [List.getD_cons_succ] at this
        simp only [ev, this, List.getD_cons_zero]; grind
    have h3 := h1.1
    refine ⟨qsc (1 / r1.getD 0 0) q3, fun t => ?_⟩
    rw [e2, e1, h2, ev_qsc]
    have : 1 / r1.getD 0 0 * r1.getD 0 0 = 1 := Rat.div_mul_cancel h3
    have : ev e t * r1.getD 0 0 * (1 / r1.getD 0 0 * ev q3 t) = ev e t * ev q3 t * (1 / r1.getD 0 0 * r1.getD 0 0) := by grind
    rw [this, Rat.div_mul_cancel h3]; grind
/-! ### layers -/
/-- a product of all -/
def pall : List (List Rat) → List Rat
  | [] => [1]
  | w :: l => qmul w (pall l)
/-- the layers, and what stands once, twice, ..: each divides the one ahead of it -/
def Lay : List (List Rat) → List (List Rat) → Prop
  | [], [] => True
  | [w], [f] => ∀ t, ev w t = ev f t
  | w :: v :: l, f :: fs => (∀ t, ev w t = ev f t * ev v t) ∧ Lay (v :: l) fs
  | _, _ => False
def odds : List (List Rat) → List Rat
  | [] => [1]
  | [f] => f
  | f :: _ :: l => qmul f (odds l)
theorem lay_odd : ∀ {ws fs : List (List Rat)}, Lay ws fs → ∃ S, ∀ t, ev (pall ws) t = ev (odds fs) t * (ev S t * ev S t)
  | [], [], _ => ⟨[1], fun t => by simp only [pall, odds]; rw [ev_one]; grind⟩
  | [w], [f], h => ⟨[1], fun t => by simp only [pall, odds]; rw [ev_qmul, ev_one, h t]; grind⟩
  | [w, v], [f, f2], h => ⟨v, fun t => by
    have h1 := h.1 t
    have h2 : ev v t = ev f2 t := h.2 t
    simp only [pall, odds, ev_qmul]; rw [ev_one, h1]; grind⟩
  | w :: v :: x :: l, f :: f2 :: fs, h => by
    obtain ⟨S, hS⟩ := lay_odd h.2.2
    refine ⟨qmul v S, fun t => ?_⟩
    have h1 := h.1 t
    have h2 := hS t
    have e1 : ev (pall (w :: v :: x :: l)) t = ev w t * (ev v t * ev (pall (x :: l)) t) := by simp only [pall, ev_qmul]
    rw [e1, h2, h1]
    have e2 : ev (odds (f :: f2 :: fs)) t = ev f t * ev (odds fs) t := by
      cases fs with
      | nil => cases l <;> exact False.elim h.2.2
      | cons y l => simp only [odds, ev_qmul]
    rw [e2, ev_qmul]; grind
  | [w], [], h => h.elim
  | [w], _ :: _ :: _, h => h.elim
  | [], _ :: _, h => h.elim
  | [w, v], [f], h => h.2.elim
  | [w, v], _ :: _ :: _ :: _, h => h.2.elim
  | w :: v :: x :: l, [f], h => h.2.elim
  | w :: v :: l, [], h => h.elim
end Orq

namespace Orq
open Orr Go
theorem pev_tl (p : List Int) (t : Rat) : pev p t = ((p.getD 0 0 : Int) : Rat) + t * pev p.tail t := by
  cases p with
  | nil => show (0 : Rat) = ((0 : Int) : Rat) + t * 0; grind
  | cons a p => rfl
theorem getD_tail (p : List Int) (k : Nat) : p.tail.getD k 0 = p.getD (k + 1) 0 := by
  cases p <;> simp
theorem pev_lin (c d : Int) (t : Rat) : ∀ (n : Nat) (p q r : List Int), p.length ≤ n → q.length ≤ n → r.length ≤ n → (∀ k, r.getD k 0 = c * p.getD k 0 + d * q.getD k 0) → pev r t = (c : Rat) * pev p t + (d : Rat) * pev q t
  | 0, p, q, r, hp, hq, hr, _ => by
    rw [List.eq_nil_of_length_eq_zero (Nat.le_zero.1 hp), List.eq_nil_of_length_eq_zero (Nat.le_zero.1 hq), List.eq_nil_of_length_eq_zero (Nat.le_zero.1 hr)]
    show (0 : Rat) = _ * 0 + _ * 0
    grind
  | n + 1, p, q, r, hp, hq, hr, h => by
    have ih := pev_lin c d t n p.tail q.tail r.tail (by rw [List.length_tail]; omega) (by rw [List.length_tail]; omega) (by rw [List.length_tail]; omega) fun k => by
      rw [getD_tail, getD_tail, getD_tail]; exact h (k + 1)
    rw [pev_tl p, pev_tl q, pev_tl r, ih, h 0]
    push_cast
    grind
theorem pev_ext {p q : List Int} (h : ∀ k, p.getD k 0 = q.getD k 0) (t : Rat) : pev p t = pev q t := by
  have := pev_lin 1 0 t (max p.length q.length) q q p (Nat.le_max_right ..) (Nat.le_max_right ..) (Nat.le_max_left ..) fun k => by rw [h k]; omega
  rw [this]
  push_cast
  grind
theorem pev_trim (p : List Int) (t : Rat) : pev (trim p) t = pev p t := pev_ext (trim_getD p) t
theorem getD_of_le {p : List Int} {k : Nat} (h : p.length ≤ k) : p.getD k 0 = 0 := by
  rw [List.getD_eq_getElem?_getD, List.getElem?_eq_none h]; rfl
theorem padd_getD (p q : List Int) (k : Nat) : (padd p q).getD k 0 = p.getD k 0 + q.getD k 0 := by
  unfold padd
  rw [each_getD]
  split
  · rfl
  · rename_i h; rw [getD_of_le (p := p) (by omega), getD_of_le (p := q) (by omega)]; rfl
theorem psub_getD (p q : List Int) (k : Nat) : (psub p q).getD k 0 = p.getD k 0 - q.getD k 0 := by
  unfold psub
  rw [each_getD]
  split
  · rfl
  · rename_i h; rw [getD_of_le (p := p) (by omega), getD_of_le (p := q) (by omega)]; rfl
theorem pscale_getD (p : List Int) (c : Int) (k : Nat) : (pscale p c).getD k 0 = p.getD k 0 * c := by
  unfold pscale
  rw [each_getD]
  split
  · rfl
  · rename_i h; rw [getD_of_le (p := p) (by omega), Int.zero_mul]
theorem pneg_getD (p : List Int) (k : Nat) : (pneg p).getD k 0 = -(p.getD k 0) := by
  unfold pneg
  rw [each_getD]
  split
  · rfl
  · rename_i h; rw [getD_of_le (p := p) (by omega)]; rfl
theorem pder_getD (p : List Int) (k : Nat) : (pder p).getD k 0 = p.getD (k + 1) 0 * ((k + 1 : Nat) : Int) := by
  unfold pder
  rw [each_getD]
  split
  · rfl
  · rename_i h; rw [getD_of_le (p := p) (by omega), Int.zero_mul]
theorem pev_padd (p q : List Int) (t : Rat) : pev (padd p q) t = pev p t + pev q t := by
  have := pev_lin 1 1 t (max (max p.length q.length) (padd p q).length) p q (padd p q) (by omega) (by omega) (by omega) fun k => by rw [padd_getD]; omega
  rw [this]; push_cast; grind
theorem pev_psub (p q : List Int) (t : Rat) : pev (psub p q) t = pev p t - pev q t := by
  have := pev_lin 1 (-1) t (max (max p.length q.length) (psub p q).length) p q (psub p q) (by omega) (by omega) (by omega) fun k => by rw [psub_getD]; omega
  rw [this]; push_cast; grind
theorem pev_pneg (p : List Int) (t : Rat) : pev (pneg p) t = -pev p t := by
  have := pev_lin (-1) 0 t (max p.length (pneg p).length) p p (pneg p) (by omega) (by omega) (by omega) fun k => by rw [pneg_getD]; omega
  rw [this]; push_cast; grind
theorem pev_pscale (p : List Int) (c : Int) (t : Rat) : pev (pscale p c) t = pev p t * (c : Rat) := by
  have := pev_lin c 0 t (max p.length (pscale p c).length) p p (pscale p c) (by omega) (by omega) (by omega) fun k => by rw [pscale_getD, Int.mul_comm]; omega
  rw [this]; push_cast; grind
theorem pev_set : ∀ (l : List Int) (j : Nat) (v : Int) (t : Rat), j < l.length → pev (l.set j v) t = pev l t + ((v : Rat) - ((l.getD j 0 : Int) : Rat)) * t ^ j
  | [], _, _, _, h => by simp at h
  | a :: l, 0, v, t, _ => by
    show (v : Rat) + t * pev l t = (a : Rat) + t * pev l t + ((v : Rat) - (a : Rat)) * t ^ 0
    rw [Rat.pow_zero]; grind
  | a :: l, j + 1, v, t, h => by
    have ih := pev_set l j v t (by simpa using h)
    show (a : Rat) + t * pev (l.set j v) t = (a : Rat) + t * pev l t + ((v : Rat) - ((l.getD j 0 : Int) : Rat)) * t ^ (j + 1)
    rw [ih, Rat.pow_succ]; grind
theorem pev_take : ∀ (l : List Int) (k : Nat) (t : Rat), k < l.length → pev (l.take (k + 1)) t = pev (l.take k) t + ((l.getD k 0 : Int) : Rat) * t ^ k
  | [], _, _, h => by simp at h
  | a :: l, 0, t, _ => by
    show (a : Rat) + t * pev (l.take 0) t = 0 + (a : Rat) * t ^ 0
    rw [Rat.pow_zero, List.take_zero]
    show (a : Rat) + t * 0 = _
    grind
  | a :: l, k + 1, t, h => by
    have ih := pev_take l k t (by simpa using h)
    show (a : Rat) + t * pev (l.take (k + 1)) t = (a : Rat) + t * pev (l.take k) t + ((l.getD k 0 : Int) : Rat) * t ^ (k + 1)
    rw [ih, Rat.pow_succ]; grind
theorem pev_zeros (n : Nat) (t : Rat) : pev (List.replicate n 0) t = 0 := by
  induction n with
  | zero => rfl
  | succ n ih =>
    show ((0 : Int) : Rat) + t * pev (List.replicate n 0) t = 0
    rw [ih]; push_cast; grind
theorem rpow_add (t : Rat) (i : Nat) : ∀ k, t ^ (i + k) = t ^ i * t ^ k
  | 0 => by rw [Nat.add_zero, Rat.pow_zero]; grind
  | k + 1 => by rw [← Nat.add_assoc, Rat.pow_succ, Rat.pow_succ, rpow_add t i k]; grind
theorem pev_mulk (x : Int) (b : List Int) (i : Nat) (o : List Int) (t : Rat) : ∀ k, k ≤ b.length → i + k ≤ o.length → pev (mulk x b i o k) t = pev o t + (x : Rat) * t ^ i * pev (b.take k) t
  | 0, _, _ => by
    show pev o t = pev o t + (x : Rat) * t ^ i * 0
    grind
  | k + 1, h1, h2 => by
    have ih := pev_mulk x b i o t k (by omega) (by omega)
    simp only [mulk]
    rw [pev_set _ _ _ _ (by rw [mulk_len]; omega), ih, pev_take b k t (by omega)]
    have hp : t ^ (i + k) = t ^ i * t ^ k := rpow_add t i k
    rw [hp]
    push_cast
    grind
theorem pev_muli (a b o : List Int) (t : Rat) : ∀ i, i ≤ a.length → i + b.length ≤ o.length + 1 → pev (muli a b o i) t = pev o t + pev (a.take i) t * pev b t
  | 0, _, _ => by
    show pev o t = pev o t + 0 * pev b t
    grind
  | i + 1, h1, h2 => by
    have ih := pev_muli a b o t i (by omega) (by omega)
    simp only [muli]
    rw [pev_mulk _ _ _ _ _ b.length (Nat.le_refl _) (by rw [muli_len]; omega), ih, pev_take a i t (by omega), List.take_length]
    grind
theorem pev_pmul (a b : List Int) (t : Rat) : pev (pmul a b) t = pev a t * pev b t := by
  unfold pmul
  split
  · rename_i h
    rcases h with h | h
    · rw [List.eq_nil_of_length_eq_zero h]; show (0 : Rat) = 0 * _; grind
    · rw [List.eq_nil_of_length_eq_zero h]; show (0 : Rat) = _ * 0; grind
  · rename_i h
    rw [pev_trim, pev_muli a b _ t a.length (Nat.le_refl _) (by rw [List.length_replicate]; omega), pev_zeros, List.take_length]
    grind

/-! ### signs -/
theorem div_divInt' (z d : Int) : (z : Rat) / (d : Rat) = Rat.divInt z d := by
  by_cases h : d = 0
  · subst h; simp; grind
  · rw [Rat.div_def]; exact (Rat.divInt_eq_div z d ▸ by rw [Rat.div_def])
theorem valk_ev (a : List Int) (n d : Int) (hd : (d : Rat) ≠ 0) : ∀ k, k ≤ a.length → (((valk a n d k).2 : Int) : Rat) = (d : Rat) ^ k ∧ (((valk a n d k).1 : Int) : Rat) * d = (d : Rat) ^ k * pev (a.drop (a.length - k)) ((n : Rat) / d)
  | 0, _ => by
    refine ⟨by rw [Rat.pow_zero]; rfl, ?_⟩
    rw [Nat.sub_zero, List.drop_length]
    show ((0 : Int) : Rat) * d = (d : Rat) ^ 0 * 0
    push_cast; grind
  | k + 1, hk => by
    obtain ⟨h1, h2⟩ := valk_ev a n d hd k (by omega)
    have hi : a.length - 1 - k < a.length := by omega
    have e1 : a.drop (a.length - (k + 1)) = a.getD (a.length - 1 - k) 0 :: a.drop (a.length - k) := by
      rw [show a.length - (k + 1) = a.length - 1 - k by omega, List.drop_eq_getElem_cons hi, show a.length - 1 - k + 1 = a.length - k by omega]
      congr 1
      rw [List.getD_eq_getElem?_getD, List.getElem?_eq_getElem hi]; rfl
    refine ⟨?_, ?_⟩
    · show (((valk a n d k).2 * d : Int) : Rat) = _
      rw [Rat.intCast_mul, h1, Rat.pow_succ]
    · rw [e1]
      show (((valk a n d k).1 * n + a.getD (a.length - 1 - k) 0 * (valk a n d k).2 : Int) : Rat) * d = _ * (((a.getD (a.length - 1 - k) 0 : Int) : Rat) + (n : Rat) / d * pev (a.drop (a.length - k)) ((n : Rat) / d))
      rw [Rat.intCast_add, Rat.intCast_mul, Rat.intCast_mul, h1, Rat.pow_succ]
      have h3 : (n : Rat) / d * d = n := by rw [Rat.div_mul_cancel hd]
      have h4 : (d : Rat) ^ k * d * ((n : Rat) / d * pev (a.drop (a.length - k)) ((n : Rat) / d)) = ((n : Rat) / d * d) * ((d : Rat) ^ k * pev (a.drop (a.length - k)) ((n : Rat) / d)) := by grind
      have h5 : (d : Rat) ^ k * d * (((a.getD (a.length - 1 - k) 0 : Int) : Rat) + (n : Rat) / d * pev (a.drop (a.length - k)) ((n : Rat) / d)) = (d : Rat) ^ k * d * ((a.getD (a.length - 1 - k) 0 : Int) : Rat) + (d : Rat) ^ k * d * ((n : Rat) / d * pev (a.drop (a.length - k)) ((n : Rat) / d)) := by grind
      rw [h5, h4, h3, ← h2]
      grind
theorem pos_pow {d : Rat} (h : 0 < d) : ∀ k : Nat, 0 < d ^ k
  | 0 => by rw [Rat.pow_zero]; decide
  | k + 1 => by rw [Rat.pow_succ]; exact Rat.mul_pos (pos_pow h k) h
theorem sgnQ_mul_pos {x y : Rat} (h : 0 < y) : sgnQ (y * x) = sgnQ x := by
  unfold sgnQ
  have h1 : y * x < 0 ↔ x < 0 := by
    constructor
    · intro h2
      rcases Rat.le_total (a := 0) (b := x) with h3 | h3
      · have := Rat.mul_nonneg (Rat.le_of_lt h) h3; grind
      · rcases Rat.le_iff_lt_or_eq.1 h3 with h4 | h4
        · exact h4
        · rw [h4] at h2; grind
    · intro h2
      have := Rat.mul_pos h (show 0 < -x by grind)
      grind
  have h2 : 0 < y * x ↔ 0 < x := by
    constructor
    · intro h2
      rcases Rat.le_total (a := x) (b := 0) with h3 | h3
      · have := Rat.mul_nonneg (Rat.le_of_lt h) (show 0 ≤ -x by grind); grind
      · rcases Rat.le_iff_lt_or_eq.1 h3 with h4 | h4
        · exact h4
        · rw [← h4] at h2; grind
    · intro h2; exact Rat.mul_pos h h2
  simp only [h1, h2]
theorem cmpZ_sgn (z : Int) : cmpZ z 0 = sgnQ (z : Rat) := by
  unfold cmpZ sgnQ
  have h1 : ((z : Int) : Rat) < 0 ↔ z < 0 := by
    have := @Rat.intCast_lt_intCast z 0; simpa using this
  have h2 : 0 < ((z : Int) : Rat) ↔ 0 < z := by
    have := @Rat.intCast_lt_intCast 0 z; simpa using this
  simp only [h1, h2]
theorem psign_ev (p : List Int) (q : Rat) : psign p q = sgnQ (pev p q) := by
  have hd0 : (0 : Rat) < ((q.den : Int) : Rat) := by
    have := @Rat.intCast_lt_intCast 0 (q.den : Int)
    rw [show ((0 : Int) : Rat) = 0 from rfl] at this
    exact this.2 (den_pos q)
  have hd : ((q.den : Int) : Rat) ≠ 0 := by intro h; rw [h] at hd0; exact absurd hd0 (by decide)
  obtain ⟨_, h⟩ := valk_ev p q.num q.den hd p.length (Nat.le_refl _)
  rw [Nat.sub_self, List.drop_zero, div_divInt', Rat.num_divInt_den] at h
  unfold psign
  rw [cmpZ_sgn, ← sgnQ_mul_pos hd0, Rat.mul_comm]
  show sgnQ ((((valk p q.num q.den p.length).1 : Int) : Rat) * _) = _
  rw [h, sgnQ_mul_pos (pos_pow hd0 _)]

end Orq

namespace Orq
open Orr Go
def cz (p : List Int) : List Rat := p.map fun z : Int => (z : Rat)
theorem ev_cz (t : Rat) : ∀ p, ev (cz p) t = pev p t
  | [] => rfl
  | a :: p => by have := ev_cz t p; simp only [cz, List.map_cons, ev, pev] at *; rw [this]
theorem getD_cz : ∀ (p : List Int) (k : Nat), (cz p).getD k 0 = ((p.getD k 0 : Int) : Rat)
  | [], k => by simp [cz]
  | a :: p, 0 => by simp [cz]
  | a :: p, k + 1 => by have := getD_cz p k; simp only [cz, List.map_cons, List.getD_cons_succ] at *; exact this
theorem pev_coef {p q : List Int} (h : ∀ t, pev p t = pev q t) (k : Nat) : p.getD k 0 = q.getD k 0 := by
  have := getD_ev (p := cz p) (q := cz q) (fun t => by rw [ev_cz, ev_cz, h]) k
  rw [getD_cz, getD_cz] at this
  exact_mod_cast this
theorem trim_eq {p q : List Int} (hp : Trim p) (hq : Trim q) (h : ∀ k, p.getD k 0 = q.getD k 0) : p = q := by
  have key : ∀ {p q : List Int}, Trim p → Trim q → (∀ k, p.getD k 0 = q.getD k 0) → p.length ≤ q.length := fun {p q} hp hq h => by
    rcases Nat.lt_or_ge q.length p.length with e | e
    · have := trim_zero hp (by omega)
      rw [h, List.getD_eq_getElem?_getD, List.getElem?_eq_none (by omega)] at this
      exact absurd rfl this
    · exact e
  exact eq_of_getD (Nat.le_antisymm (key hp hq h) (key hq hp fun k => (h k).symm)) fun j _ => h j
/-- a polynomial is told by its values -/
theorem pev_inj {p q : List Int} (hp : Trim p) (hq : Trim q) (h : ∀ t, pev p t = pev q t) : p = q := trim_eq hp hq (pev_coef h)
theorem pev_nil {p : List Int} (hp : Trim p) (h : ∀ t, pev p t = 0) : p = [] := pev_inj hp rfl fun t => by rw [h]; rfl
theorem nil_pev {p : List Int} (h : p.length = 0) (t : Rat) : pev p t = 0 := by rw [List.eq_nil_of_length_eq_zero h]; rfl
theorem pev_der : ∀ (p r : List Int) (t : Rat), (∀ k, r.getD k 0 = p.getD (k + 1) 0 * ((k + 1 : Nat) : Int)) → pev r t = dv (cz p) t
  | [], r, t, h => by
    rw [pev_ext (q := []) (fun k => by rw [h]; simp) t]; rfl
  | a :: p, r, t, h => by
    have ih := pev_der p (pder p) t fun k => pder_getD p k
    have e : pev r t = pev p t + t * pev (pder p) t := by
      have := pev_lin 1 1 t (max (max p.length (0 :: pder p).length) r.length) p (0 :: pder p) r (by omega) (by omega) (by omega) fun k => by
        rw [h, List.getD_cons_succ]
        cases k with
        | zero => simp
        | succ k => rw [List.getD_cons_succ, pder_getD]; push_cast; grind
      rw [this]; simp only [pev]; push_cast; grind
    rw [e, ih]
    show _ = ev (cz p) t + t * dv (cz p) t
    rw [ev_cz]
theorem pev_pder (p : List Int) (t : Rat) : pev (pder p) t = dv (cz p) t := pev_der p _ t fun k => pder_getD p k
theorem hd_cz {p : List Int} (hp : Trim p) (h : 0 < p.length) : HD (cz p) (p.length - 1) := by
  refine ⟨?_, fun k hk => ?_⟩
  · rw [getD_cz]
    have := trim_zero hp h
    exact fun e => this (by exact_mod_cast e)
  · rw [getD_cz, List.getD_eq_getElem?_getD, List.getElem?_eq_none (by omega)]; rfl
theorem cz_nz {p : List Int} (hp : Trim p) (h : 0 < p.length) : ¬ ∀ t, pev p t = 0 := fun h0 => by
  rw [pev_nil hp h0] at h; exact absurd h (by simp)
/-- a product's length -/
theorem len_mul {a b c : List Int} (ha : Trim a) (hb : Trim b) (hc : Trim c) (h : ∀ t, pev c t = pev a t * pev b t) (la : 0 < a.length) (lb : 0 < b.length) : c.length = a.length + b.length - 1 := by
  have h1 := hd_mul (hd_cz ha la) (hd_cz hb lb)
  have h2 : HD (cz c) (a.length - 1 + (b.length - 1)) := hd_ev (fun t => by rw [ev_qmul, ev_cz, ev_cz, ev_cz, h]) h1
  have lc : 0 < c.length := by
    rcases Nat.eq_zero_or_pos c.length with e | e
    · exact absurd (fun t => by rw [ev_cz]; exact nil_pev e t) (hd_nz h2)
    · exact e
  have := hd_un (hd_cz hc lc) h2
  omega
/-! ### Gauss's lemma -/
theorem prime_ex : ∀ (n m : Nat), m ≤ n → 2 ≤ m → ∃ P, 2 ≤ P ∧ P ∣ m ∧ ∀ d, 2 ≤ d → d ∣ P → d = P
  | 0, m, h, h2 => by omega
  | n + 1, m, h, h2 => by
    rcases Classical.em (∃ d, 2 ≤ d ∧ d < m ∧ d ∣ m) with ⟨d, d1, d2, d3⟩ | h0
    · obtain ⟨P, p1, p2, p3⟩ := prime_ex n d (by omega) d1
      exact ⟨P, p1, Nat.dvd_trans p2 d3, p3⟩
    · refine ⟨m, h2, Nat.dvd_refl m, fun d d1 d2 => ?_⟩
      rcases Nat.lt_or_eq_of_le (Nat.le_of_dvd (by omega) d2) with e | e
      · exact absurd ⟨d, d1, e, d2⟩ h0
      · exact e
theorem euclid {P : Nat} (h2 : 2 ≤ P) (hP : ∀ d, 2 ≤ d → d ∣ P → d = P) {x y : Int} (h : (P : Int) ∣ x * y) : (P : Int) ∣ x ∨ (P : Int) ∣ y := by
  have h := Int.natAbs_dvd_natAbs.2 h
  rw [Int.natAbs_mul, Int.natAbs_natCast] at h
  have hg := Nat.gcd_dvd_left P x.natAbs
  rcases Nat.lt_or_ge (Nat.gcd P x.natAbs) 2 with e | e
  · right
    have h1 : Nat.gcd P x.natAbs = 1 := by
      have := Nat.gcd_pos_of_pos_left x.natAbs (show 0 < P by omega); omega
    have := Nat.Coprime.dvd_of_dvd_mul_left h1 h
    exact Int.natAbs_dvd_natAbs.1 (by rwa [Int.natAbs_natCast])
  · left
    have := hP _ e hg
    have h3 := Nat.gcd_dvd_right P x.natAbs
    rw [this] at h3
    exact Int.natAbs_dvd_natAbs.1 (by rwa [Int.natAbs_natCast])
def AllD (P : Int) (l : List Int) : Prop := ∀ k, P ∣ l.getD k 0
/-- a prime that divides a product divides a factor -/
theorem all_prime {P : Nat} (h2 : 2 ≤ P) (hP : ∀ d, 2 ≤ d → d ∣ P → d = P) : ∀ (n : Nat) (b h c : List Int), b.length + h.length ≤ n → (∀ t, pev c t = pev b t * pev h t) → AllD P c → AllD P b ∨ AllD P h
  | _, [], h, c, _, _, _ => .inl fun k => by simp
  | _, x :: b, [], c, _, _, _ => .inr fun k => by simp
  | 0, x :: b, y :: h, c, hn, _, _ => by simp at hn
  | n + 1, x :: b, y :: h, c, hn, hc, hd => by
    simp only [List.length_cons] at hn
    by_cases hx : (P : Int) ∣ x
    · -- x h is taken away
      have e : ∀ t, pev (0 :: pmul b (y :: h)) t = pev (psub c (pscale (y :: h) x)) t := fun t => by
        rw [pev_psub, pev_pscale, hc]; simp only [pev]; rw [pev_pmul]; simp only [pev]; push_cast; grind
      have hd' : AllD P (pmul b (y :: h)) := fun k => by
        have := pev_coef e (k + 1)
        rw [List.getD_cons_succ, psub_getD, pscale_getD] at this
        rw [this]
        exact Int.dvd_sub (hd (k + 1)) (Int.dvd_trans hx (Int.dvd_mul_left _ _))
      rcases all_prime h2 hP n b (y :: h) _ (by simp only [List.length_cons]; omega) (fun t => pev_pmul _ _ t) hd' with h1 | h1
      · refine .inl fun k => ?_
        cases k with
        | zero => rw [List.getD_cons_zero]; exact hx
        | succ k => rw [List.getD_cons_succ]; exact h1 k
      · exact .inr h1
    · have h0 : (P : Int) ∣ y := by
        have e : c.getD 0 0 = x * y := by
          have := pev_coef (p := c) (q := pmul (x :: b) (y :: h)) (fun t => by rw [hc, pev_pmul]) 0
          have e2 := pev_coef (p := pmul (x :: b) (y :: h)) (q := padd (pscale (y :: h) x) (0 :: pmul b (y :: h))) (fun t => by
            rw [pev_padd, pev_pscale, pev_pmul]; simp only [pev]; rw [pev_pmul]; simp only [pev]; push_cast; grind) 0
          rw [this, e2, padd_getD, pscale_getD, List.getD_cons_zero, List.getD_cons_zero, Int.mul_comm]; omega
        have := hd 0
        rw [e] at this
        rcases euclid h2 hP this with h1 | h1
        · exact absurd h1 hx
        · exact h1
      have e : ∀ t, pev (0 :: pmul (x :: b) h) t = pev (psub c (pscale (x :: b) y)) t := fun t => by
        rw [pev_psub, pev_pscale, hc]; simp only [pev]; rw [pev_pmul]; simp only [pev]; push_cast; grind
      have hd' : AllD P (pmul (x :: b) h) := fun k => by
        have := pev_coef e (k + 1)
        rw [List.getD_cons_succ, psub_getD, pscale_getD] at this
        rw [this]
        exact Int.dvd_sub (hd (k + 1)) (Int.dvd_trans h0 (Int.dvd_mul_left _ _))
      rcases all_prime h2 hP n (x :: b) h _ (by simp only [List.length_cons]; omega) (fun t => pev_pmul _ _ t) hd' with h1 | h1
      · exact absurd (by have := h1 0; rwa [List.getD_cons_zero] at this) hx
      · refine .inr fun k => ?_
        cases k with
        | zero => rw [List.getD_cons_zero]; exact h0
        | succ k => rw [List.getD_cons_succ]; exact h1 k
/-- content 1 -/
def Prm (b : List Int) : Prop := ∀ d : Int, AllD d b → d ∣ 1
theorem gauss' {a b : List Int} (hb : Prm b) : ∀ (n : Nat) (c : Int) (h : List Int), c.natAbs ≤ n → c ≠ 0 → (∀ t, (c : Rat) * pev a t = pev b t * pev h t) → ∃ h', ∀ t, pev a t = pev b t * pev h' t
  | 0, c, h, hn, h0, _ => absurd (by omega) h0
  | n + 1, c, h, hn, h0, hc => by
    rcases Nat.lt_or_ge c.natAbs 2 with h1 | h1
    · refine ⟨pscale h c, fun t => ?_⟩
      have hcc : (c : Rat) * c = 1 := by
        have : c * c = 1 := by
          rcases (show c = 1 ∨ c = -1 by omega) with rfl | rfl <;> rfl
        have := congrArg (fun z : Int => (z : Rat)) this
        push_cast at this; exact this
      rw [pev_pscale]
      have := hc t
      have : pev a t = (c : Rat) * ((c : Rat) * pev a t) := by
        have : (c : Rat) * ((c : Rat) * pev a t) = ((c : Rat) * c) * pev a t := by grind
        rw [this, hcc]; grind
      rw [this, hc]; grind
    · obtain ⟨P, p1, p2, p3⟩ := prime_ex c.natAbs c.natAbs (Nat.le_refl _) h1
      obtain ⟨d, hd⟩ : ∃ d, c = (P : Int) * d := Int.ofNat_dvd_left.2 p2
      have hall : AllD P (pscale a c) := fun k => by
        rw [pscale_getD, hd]; exact Int.dvd_trans (Int.dvd_mul_right _ _) (Int.dvd_mul_left _ _)
      have hP0 : (P : Rat) ≠ 0 := by
        have : ((0 : Nat) : Rat) < (P : Rat) := Rat.natCast_lt_natCast.2 (by omega)
        grind
      rcases all_prime p1 p3 _ b h (pscale a c) (Nat.le_refl _) (fun t => by rw [pev_pscale, Rat.mul_comm, hc]) hall with e | e
      · have := hb P e
        have := Int.natAbs_dvd_natAbs.2 this
        rw [Int.natAbs_natCast] at this
        have := Nat.le_of_dvd (by decide) this
        exact absurd this (by show ¬ P ≤ 1; omega)
      · refine gauss' hb n d (h.map (· / (P : Int))) ?_ (fun e0 => h0 (by rw [hd, e0, Int.mul_zero])) fun t => ?_
        · rw [hd, Int.natAbs_mul, Int.natAbs_natCast] at hn h1
          have : 2 * d.natAbs ≤ P * d.natAbs := Nat.mul_le_mul_right _ p1
          omega
        · have e1 : pev h t = (P : Rat) * pev (h.map (· / (P : Int))) t := by
            have := pev_lin P 0 t (max h.length (h.map (· / (P : Int))).length) (h.map (· / (P : Int))) [] h (by omega) (by simp) (by omega) fun k => by
              have := e k
              have e2 : (h.map (· / (P : Int))).getD k 0 = h.getD k 0 / (P : Int) := by
                rw [List.getD_eq_getElem?_getD, List.getD_eq_getElem?_getD, List.getElem?_map]
                cases h[k]? <;> simp
              rw [e2, Int.mul_ediv_cancel' this]; simp
            rw [this]; simp only [pev]; push_cast; grind
          have := hc t
          rw [hd, e1] at this
          push_cast at this
          have h3 : (P : Rat) * ((d : Rat) * pev a t) = (P : Rat) * (pev b t * pev (h.map (· / (P : Int))) t) := by grind
          have h4 := Rat.mul_eq_zero.1 (show (P : Rat) * ((d : Rat) * pev a t - pev b t * pev (h.map (· / (P : Int))) t) = 0 by grind)
          rcases h4 with h4 | h4
          · exact absurd h4 hP0
          · grind
/-- a rational polynomial, times a number -/
theorem clear_den : ∀ u : List Rat, ∃ c : Int, c ≠ 0 ∧ ∃ h : List Int, ∀ t, (c : Rat) * ev u t = pev h t
  | [] => ⟨1, by decide, [], fun t => by simp only [ev, pev]; grind⟩
  | a :: u => by
    obtain ⟨c, hc, h, hh⟩ := clear_den u
    refine ⟨c * (a.den : Int), Int.mul_ne_zero hc (by have := a.den_nz; omega), (c * a.num) :: pscale h (a.den : Int), fun t => ?_⟩
    have e : (a.den : Rat) * a = a.num := by
      rw [Rat.mul_comm]
      have : (a.num : Rat) / (((a.den : Int)) : Rat) = a := by rw [div_divInt', Rat.num_divInt_den]
      have hd : (a.den : Rat) ≠ 0 := by
        have : ((0 : Nat) : Rat) < (a.den : Rat) := Rat.natCast_lt_natCast.2 a.den_pos
        grind
      have h2 : (a.num : Rat) / (a.den : Rat) * (a.den : Rat) = a.num := Rat.div_mul_cancel hd
      rw [show (a.num : Rat) / (a.den : Rat) = a from this] at h2; exact h2
    simp only [ev, pev]
    rw [pev_pscale, ← hh]
    push_cast
    rw [← e]
    have e3 : (((a.den : Int)) : Rat) = (a.den : Rat) := rfl
    grind
/-- what divides over the rationals, and has content 1, divides -/
theorem gauss {a b : List Int} (hb : Prm b) (h : Dvd (cz b) (cz a)) : ∃ h', Trim h' ∧ ∀ t, pev a t = pev b t * pev h' t := by
  obtain ⟨u, hu⟩ := h
  obtain ⟨c, hc, h, hh⟩ := clear_den u
  obtain ⟨h', e⟩ := gauss' hb c.natAbs c h (Nat.le_refl _) hc fun t => by
    have := hu t
    rw [ev_cz, ev_cz] at this
    rw [this, ← hh]; grind
  exact ⟨trim h', trim_trim _, fun t => by rw [pev_trim, e]⟩
end Orq
