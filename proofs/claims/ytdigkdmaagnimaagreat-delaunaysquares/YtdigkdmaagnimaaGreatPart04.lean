/- KnuthM KnuthN KnuthD Knuth -/
import Derived.Test.YtdigkdmaagnimaaGreatPart01
import Derived.Test.YtdigkdmaagnimaaGreatPart03
set_option linter.all false

namespace Orr
theorem est_start {B X Y q top nx Yr h3 Xr p : Nat} (hY : Y = (top * B + nx) * p + Yr) (hX : X = h3 * p + Xr) (hXr : Xr < p) (hq : q * Y ≤ X) {head x2 : Nat} (h3e : h3 = head * B + x2) (hx2 : x2 < B) (ht : 0 < top) :
    q ≤ head / top := by
  rw [Nat.le_div_iff_mul_le ht]
  rcases Nat.lt_or_ge head (q * top) with h | h
  · exfalso
    have h1 : (head + 1) * B * p ≤ q * top * B * p := Nat.mul_le_mul_right _ (Nat.mul_le_mul_right _ h)
    have h2 : q * top * B * p ≤ q * Y := by
      rw [hY, Nat.mul_add]
      have : q * ((top * B + nx) * p) = q * top * B * p + q * nx * p := by grind
      omega
    have h4 : h3 * p + p ≤ (head + 1) * B * p := by
      have : (h3 + 1) * p ≤ (head + 1) * B * p := Nat.mul_le_mul_right _ (by rw [h3e, Nat.succ_mul]; omega)
      have e : (h3 + 1) * p = h3 * p + p := by grind
      omega
    omega
  · exact h
theorem est_down {B X Y q top nx Yr h3 Xr p g r head x2 : Nat} (hY : Y = (top * B + nx) * p + Yr) (hX : X = h3 * p + Xr) (hXr : Xr < p) (hq : q * Y ≤ X) (h3e : h3 = head * B + x2) (hg : g * top + r = head)
    (hc : g * nx > r * B + x2) (hle : q ≤ g) : q ≤ g - 1 := by
  rcases Nat.eq_or_lt_of_le hle with h | h
  · exfalso
    subst h
    have h1 : h3 + 1 ≤ q * (top * B + nx) := by
      have e : q * (top * B + nx) = q * top * B + q * nx := by grind
      have e2 : head * B = q * top * B + r * B := by rw [← hg]; grind
      rw [h3e, e, e2]; omega
    have h2 : (h3 + 1) * p ≤ q * (top * B + nx) * p := Nat.mul_le_mul_right _ h1
    have h4 : q * (top * B + nx) * p ≤ q * Y := by
      have : q * ((top * B + nx) * p) = q * (top * B + nx) * p := by grind
      rw [hY, Nat.mul_add q ((top * B + nx) * p) Yr, this]; exact Nat.le_add_right _ _
    have e : (h3 + 1) * p = h3 * p + p := by grind
    omega
  · omega
theorem est_end {B X Y top nx Yr h3 Xr p g r head x2 : Nat} (hY : Y = (top * B + nx) * p + Yr) (hYr : Yr < p) (hX : X = h3 * p + Xr) (h3e : h3 = head * B + x2) (hg : g * top + r = head) (ht : 0 < top)
    (hc : g * nx ≤ r * B + x2) (hgB : g ≤ B) : (g - 1) * Y ≤ X := by
  rcases Nat.eq_zero_or_pos g with h0 | h0
  · subst h0; simp
  · obtain ⟨k, rfl⟩ : ∃ k, g = k + 1 := ⟨g - 1, by omega⟩
    simp only [Nat.add_sub_cancel]
    have h1 : (k + 1) * (top * B + nx) ≤ h3 := by
      have e : (k + 1) * (top * B + nx) = (k + 1) * top * B + (k + 1) * nx := by grind
      have e2 : head * B = (k + 1) * top * B + r * B := by rw [← hg]; grind
      rw [h3e, e, e2]; omega
    have h2 : (k + 1) * (top * B + nx) * p ≤ h3 * p := Nat.mul_le_mul_right _ h1
    have h3' : k * Yr ≤ k * p := Nat.mul_le_mul_left _ (by omega)
    have h5 : B ≤ top * B := Nat.le_mul_of_pos_left _ ht
    have h4 : k * p ≤ (top * B + nx) * p := Nat.mul_le_mul_right _ (by omega)
    have e1 : k * Y = k * (top * B + nx) * p + k * Yr := by rw [hY]; grind
    have e2 : (k + 1) * (top * B + nx) * p = k * (top * B + nx) * p + (top * B + nx) * p := by grind
    omega
theorem mulsub_step {o x y : List Nat} {i u w g c b p s : Nat} (ho : i < o.length) (hu : x[i]? = some u) (hw : y[i]? = some w) (hub : u < 4294967296) (hb : b ≤ 1)
    (h : val (o.take i) + g * val (y.take i) = val (x.take i) + (c + b) * 4294967296 ^ i) (hp : p = g * w + c)
    (hs : s = ((u + 18446744073709551616 - p % 4294967296) % 18446744073709551616 + 18446744073709551616 - b) % 18446744073709551616) :
    val ((o.set i (s % 4294967296)).take (i + 1)) + g * val (y.take (i + 1)) = val (x.take (i + 1)) + (p / 4294967296 + s / 9223372036854775808) * 4294967296 ^ (i + 1) ∧ s / 9223372036854775808 ≤ 1 := by
  rw [val_set o i _ ho, val_take_succ x i u hu, val_take_succ y i w hw, Nat.pow_succ]
  have ep : p = 4294967296 * (p / 4294967296) + p % 4294967296 := (Nat.div_add_mod p 4294967296).symm
  have hpl : p % 4294967296 < 4294967296 := Nat.mod_lt _ (by decide)
  generalize p / 4294967296 = ph at *
  generalize p % 4294967296 = pl at *
  have key : s % 4294967296 + pl + b = u + (s / 9223372036854775808) * 4294967296 ∧ s / 9223372036854775808 ≤ 1 := by omega
  refine ⟨?_, key.2⟩
  have k1 := key.1
  generalize s % 4294967296 = m at *
  generalize s / 9223372036854775808 = b' at *
  generalize (4294967296 : Nat) ^ i = P at *
  clear hs hub hu hw ho hpl key
  have e1 : g * (val (y.take i) + P * w) = g * val (y.take i) + P * (g * w) := by grind
  have e2 : g * w + c = 4294967296 * ph + pl := by omega
  have e3 : P * (g * w) + P * c = P * (4294967296 * ph) + P * pl := by rw [← Nat.mul_add, ← Nat.mul_add, e2]
  have e4 : P * m + P * pl + P * b = P * u + P * (b' * 4294967296) := by rw [← Nat.mul_add, ← Nat.mul_add, ← Nat.mul_add, k1]
  grind
end Orr

namespace Orr
theorem mulsub_step' {o x y : List Nat} {i u w g c b : Nat} (ho : i < o.length) (hu : x[i]? = some u) (hw : y[i]? = some w) (hub : u < 4294967296) (hb : b ≤ 1)
    (h : val (o.take i) + g * val (y.take i) = val (x.take i) + (c + b) * 4294967296 ^ i) {p s : Nat} (hp : p = g * w + c)
    (hs : s = ((u + 18446744073709551616 - p % 4294967296) % 18446744073709551616 + 18446744073709551616 - b) % 18446744073709551616) :
    val ((o.set i (s % 4294967296)).take (i + 1)) + g * val (y.take (i + 1)) = val (x.take (i + 1)) + (p / 2 ^ 32 + s / 2 ^ 63) * 4294967296 ^ (i + 1) ∧ s / 2 ^ 63 ≤ 1 :=
  mulsub_step ho hu hw hub hb h hp hs
theorem val_top1 {l : List Nat} {k c : Nat} (hl : l.length = k + 1) (hc : l[k]? = some c) : val l = val (l.take k) + 4294967296 ^ k * c := by
  rw [← val_take_succ l k c hc, List.take_of_length_le (by omega)]
theorem val_take_lt {l : List Nat} (hb : ∀ u ∈ l, u < 4294967296) {k : Nat} (hk : k ≤ l.length) : val (l.take k) < 4294967296 ^ k := by
  have := val_lt (l.take k) (fun u hu => hb u (List.mem_of_mem_take hu))
  rwa [List.length_take, Nat.min_eq_left hk] at this
theorem drop_get {o x : List Nat} {i : Nat} (h : o.drop i = x.drop i) : o[i]? = x[i]? := by
  have := congrArg (·[0]?) h
  simpa using this
theorem drop_next {o x : List Nat} {i v : Nat} (h : o.drop i = x.drop i) : (o.set i v).drop (i + 1) = x.drop (i + 1) := by
  rw [drop_set o i v (i + 1) (by omega)]
  have := congrArg (List.drop 1) h
  simpa [List.drop_drop] using this
structure Dig (x l : List Nat) (n top nx xn x1 x2 : Nat) : Prop where
  hn : 2 ≤ n
  hl : l.length = n
  hx : x.length = n + 1
  lb : ∀ u ∈ l, u < 4294967296
  xb : ∀ u ∈ x, u < 4294967296
  ltop : l[n - 1]? = some top
  lnx : l[n - 2]? = some nx
  xn : x[n]? = some xn
  x1 : x[n - 1]? = some x1
  x2 : x[n - 2]? = some x2
  top0 : 0 < top
  lt : val x < val l * 4294967296
section
variable {x l : List Nat} {n top nx xn x1 x2 : Nat} (D : Dig x l n top nx xn x1 x2)
include D
theorem Dig.parts : ∃ p Yr Xr, val l = (top * 4294967296 + nx) * p + Yr ∧ Yr < p ∧ val x = ((xn * 2 ^ 32 + x1) * 4294967296 + x2) * p + Xr ∧ Xr < p := by
  obtain ⟨hn, hl, hx, lb, xb, ltop, lnx, exn, ex1, ex2, _, _⟩ := D
  obtain ⟨k, rfl⟩ : ∃ k, n = k + 2 := ⟨n - 2, by omega⟩
  simp only [show k + 2 - 1 = k + 1 from by omega, Nat.add_sub_cancel] at *
  refine ⟨4294967296 ^ k, val (l.take k), val (x.take k), ?_, val_take_lt lb (by omega), ?_, val_take_lt xb (by omega)⟩
  · rw [val_top1 hl ltop, val_take_succ l k nx lnx, Nat.pow_succ]
    generalize (4294967296 : Nat) ^ k = p
    grind
  · have e32 : (2 : Nat) ^ 32 = 4294967296 := by decide
    have q1 : (4294967296 : Nat) ^ (k + 1) = 4294967296 ^ k * 4294967296 := Nat.pow_succ _ _
    have q2 : (4294967296 : Nat) ^ (k + 2) = 4294967296 ^ k * 4294967296 * 4294967296 := by rw [← q1]; exact Nat.pow_succ _ _
    rw [val_top1 hx exn, val_take_succ x (k + 1) x1 ex1, val_take_succ x k x2 ex2, q1, q2, e32]
    clear q1 q2
    generalize (4294967296 : Nat) ^ k = p
    grind
theorem Dig.Ypos : 0 < val l := by
  obtain ⟨p, Yr, Xr, hY, hYr, _, _⟩ := D.parts
  have h1 : 0 < top * 4294967296 + nx := by have := D.top0; omega
  have := Nat.mul_pos h1 (show 0 < p by omega)
  omega
theorem Dig.qlt : val x / val l < 4294967296 := Nat.div_lt_of_lt_mul D.lt
theorem Dig.qle : val x / val l * val l ≤ val x := Nat.div_mul_le_self _ _
theorem Dig.bnd : top < 4294967296 ∧ nx < 4294967296 ∧ xn < 4294967296 ∧ x1 < 4294967296 ∧ x2 < 4294967296 :=
  ⟨D.lb _ (List.mem_of_getElem? D.ltop), D.lb _ (List.mem_of_getElem? D.lnx), D.xb _ (List.mem_of_getElem? D.xn), D.xb _ (List.mem_of_getElem? D.x1), D.xb _ (List.mem_of_getElem? D.x2)⟩
theorem Dig.head_le : xn * 2 ^ 32 + x1 < top * 4294967296 + 4294967296 := by
  obtain ⟨p, Yr, Xr, hY, hYr, hX, hXr⟩ := D.parts
  have hlt := D.lt
  have hb := D.bnd
  have e32 : (2 : Nat) ^ 32 = 4294967296 := by decide
  rw [e32] at hX ⊢
  rcases Nat.lt_or_ge xn (top + 1) with h | h
  · omega
  · exfalso
    have h1 : val l < (top + 1) * 4294967296 * p := by
      have h2 : (top * 4294967296 + nx + 1) * p ≤ (top + 1) * 4294967296 * p := Nat.mul_le_mul_right _ (by omega)
      have e : (top * 4294967296 + nx + 1) * p = (top * 4294967296 + nx) * p + p := by grind
      omega
    have h3 : (top + 1) * 4294967296 * 4294967296 * p ≤ ((xn * 4294967296 + x1) * 4294967296 + x2) * p := Nat.mul_le_mul_right _ (by omega)
    have h4 : val l * 4294967296 < (top + 1) * 4294967296 * p * 4294967296 := Nat.mul_lt_mul_of_pos_right h1 (by decide)
    have e2 : (top + 1) * 4294967296 * p * 4294967296 = (top + 1) * 4294967296 * 4294967296 * p := by
      generalize (4294967296 : Nat) = B; grind
    omega
theorem Dig.start : val x / val l ≤ (xn * 2 ^ 32 + x1) / top := by
  obtain ⟨p, Yr, Xr, hY, hYr, hX, hXr⟩ := D.parts
  exact est_start hY hX hXr D.qle rfl D.bnd.2.2.2.2 D.top0
theorem Dig.fin {g r : Nat} (hg : g * top + r = xn * 2 ^ 32 + x1) (hc : g * nx ≤ r * 2 ^ 32 + x2) (hB : g ≤ 4294967296) : (g - 1) * val l ≤ val x := by
  obtain ⟨p, Yr, Xr, hY, hYr, hX, hXr⟩ := D.parts
  have e32 : (2 : Nat) ^ 32 = 4294967296 := by decide
  rw [e32] at hc
  exact est_end hY hYr hX rfl hg D.top0 hc hB
theorem Dig.round {g r : Nat} (hg : g * top + r = xn * 2 ^ 32 + x1) (hq : val x / val l ≤ g) (hc : 4294967296 ≤ g ∨ r * 2 ^ 32 + x2 < g * nx) :
    1 ≤ g ∧ val x / val l ≤ g - 1 ∧ (g - 1) * top + (r + top) = xn * 2 ^ 32 + x1 ∧ (4294967296 ≤ r + top → (g - 1 - 1) * val l ≤ val x ∧ g - 1 ≤ 4294967296) := by
  have e32 : (2 : Nat) ^ 32 = 4294967296 := by decide
  have hb := D.bnd
  have h1 : 1 ≤ g := by
    rcases hc with h | h
    · omega
    · rcases Nat.eq_zero_or_pos g with h0 | h0
      · subst h0; simp at h
      · exact h0
  have h2 : val x / val l ≤ g - 1 := by
    rcases hc with h | h
    · have := D.qlt; omega
    · obtain ⟨p, Yr, Xr, hY, hYr, hX, hXr⟩ := D.parts
      rw [e32] at h
      exact est_down hY hX hXr D.qle rfl hg h hq
  obtain ⟨k, rfl⟩ : ∃ k, g = k + 1 := ⟨g - 1, by omega⟩
  simp only [Nat.add_sub_cancel] at h2 ⊢
  have h3 : k * top + (r + top) = xn * 2 ^ 32 + x1 := by rw [← hg, Nat.succ_mul]; omega
  refine ⟨h1, h2, h3, fun hr => ?_⟩
  have hk : k < 4294967296 := by
    have hh := D.head_le
    rcases Nat.lt_or_ge k 4294967296 with h | h
    · exact h
    · have := Nat.mul_le_mul_right top h
      omega
  refine ⟨D.fin h3 ?_ (by omega), by omega⟩
  have h4 := mul_le_limb hk hb.2.1
  rw [e32]
  have h5 : 4294967296 * 4294967296 ≤ (r + top) * 4294967296 := Nat.mul_le_mul_right _ hr
  omega
theorem Dig.fin0 {o : List Nat} {g c b s : Nat} (ho : o.length = n + 1) (hc : c < 4294967296) (hb : b ≤ 1) (hq : val x / val l ≤ g)
    (h : val (o.take n) + g * val l = val (x.take n) + (c + b) * 4294967296 ^ n)
    (hs : s = ((xn + 18446744073709551616 - c) % 18446744073709551616 + 18446744073709551616 - b) % 18446744073709551616) (hs0 : s / 2 ^ 63 = 0) :
    g % 4294967296 = val x / val l ∧ val (o.set n (s % 4294967296)) = val x % val l := by
  have hbd := D.bnd
  have e63 : (2 : Nat) ^ 63 = 9223372036854775808 := by decide
  rw [e63] at hs0
  have hs1 : s = xn - c - b ∧ c + b ≤ xn := by omega
  have hsB : s % 4294967296 = xn - c - b := by omega
  have hset : (o.set n (s % 4294967296))[n]? = some (s % 4294967296) := by rw [List.getElem?_set_self (by omega)]
  have ev : val (o.set n (s % 4294967296)) = val (o.take n) + 4294967296 ^ n * (xn - c - b) := by
    rw [val_top1 (by rw [List.length_set]; exact ho) hset, take_set_same, hsB]
  have eX := val_top1 D.hx D.xn
  have key : val (o.set n (s % 4294967296)) + g * val l = val x := by
    rw [ev, eX]
    obtain ⟨m, rfl⟩ : ∃ m, xn = m + (c + b) := ⟨xn - (c + b), by omega⟩
    rw [show m + (c + b) - c - b = m from by omega]
    generalize (4294967296 : Nat) ^ n = p at *
    have : p * (m + (c + b)) = p * m + (c + b) * p := by grind
    omega
  have hg : g ≤ val x / val l := by
    rw [Nat.le_div_iff_mul_le D.Ypos]; omega
  have hgq : g = val x / val l := by omega
  have hgB := D.qlt
  have hdm := Nat.div_add_mod (val x) (val l)
  rw [← hgq] at hdm hgB ⊢
  refine ⟨Nat.mod_eq_of_lt hgB, ?_⟩
  rw [Nat.mul_comm] at hdm
  omega
theorem Dig.fin1 {o : List Nat} {g c b s : Nat} (ho : o.length = n + 1) (hob : ∀ u ∈ o, u < 4294967296) (hc : c < 4294967296) (hb : b ≤ 1) (hg1 : (g - 1) * val l ≤ val x)
    (h : val (o.take n) + g * val l = val (x.take n) + (c + b) * 4294967296 ^ n)
    (hs : s = ((xn + 18446744073709551616 - c) % 18446744073709551616 + 18446744073709551616 - b) % 18446744073709551616) (hs0 : ¬ s / 2 ^ 63 = 0) :
    g = val x / val l + 1 ∧ val (o.set n (s % 4294967296)) + val l = val x % val l + 4294967296 ^ n * 4294967296 := by
  have hbd := D.bnd
  have e63 : (2 : Nat) ^ 63 = 9223372036854775808 := by decide
  rw [e63] at hs0
  have hsB : s % 4294967296 + (c + b) = xn + 4294967296 := by omega
  have hset : (o.set n (s % 4294967296))[n]? = some (s % 4294967296) := by rw [List.getElem?_set_self (by omega)]
  have hm : s % 4294967296 < 4294967296 := Nat.mod_lt _ (by decide)
  have ev : val (o.set n (s % 4294967296)) = val (o.take n) + 4294967296 ^ n * (s % 4294967296) := by
    rw [val_top1 (by rw [List.length_set]; exact ho) hset, take_set_same]
  have eX := val_top1 D.hx D.xn
  have hlt : val (o.take n) < 4294967296 ^ n := val_take_lt hob (by omega)
  have key : val (o.set n (s % 4294967296)) + g * val l = val x + 4294967296 ^ n * 4294967296 := by
    rw [ev, eX]
    generalize (4294967296 : Nat) ^ n = p at *
    have e1 : p * (s % 4294967296 + (c + b)) = p * (xn + 4294967296) := by rw [hsB]
    rw [Nat.mul_add p (s % 4294967296) (c + b), Nat.mul_add p xn, Nat.mul_comm p (c + b)] at e1
    omega
  have hvlt : val (o.set n (s % 4294967296)) < 4294967296 ^ n * 4294967296 := by
    have := val_lt (o.set n (s % 4294967296)) (set_lt hob _ _ hm)
    rwa [List.length_set, ho, Nat.pow_succ] at this
  have hq1 : g - 1 ≤ val x / val l := (Nat.le_div_iff_mul_le D.Ypos).2 hg1
  have hq2 : val x / val l < g := by
    rw [Nat.div_lt_iff_lt_mul D.Ypos]; omega
  have hgq : g = val x / val l + 1 := by omega
  refine ⟨hgq, ?_⟩
  have hdm := Nat.div_add_mod (val x) (val l)
  rw [hgq, Nat.succ_mul] at key
  rw [Nat.mul_comm] at hdm
  omega
theorem Dig.fin2 {o1 o2 : List Nat} {v bk : Nat} (h1 : o1.length = n + 1) (h1b : ∀ u ∈ o1, u < 4294967296) (h2 : o2.length = n + 1) (h2b : ∀ u ∈ o2, u < 4294967296) (hv : o1[n]? = some v) (hbk : bk ≤ 1)
    (hk : val o1 + val l = val x % val l + 4294967296 ^ n * 4294967296) (h : val (o2.take n) + bk * 4294967296 ^ n = val (o1.take n) + val l) :
    val (o2.set n ((v + bk) % 4294967296)) = val x % val l := by
  have hset : (o2.set n ((v + bk) % 4294967296))[n]? = some ((v + bk) % 4294967296) := by rw [List.getElem?_set_self (by omega)]
  rw [val_top1 (by rw [List.length_set]; exact h2) hset, take_set_same]
  rw [val_top1 h1 hv] at hk
  have hvb := h1b _ (List.mem_of_getElem? hv)
  have hlt : val (o2.take n) < 4294967296 ^ n := val_take_lt h2b (by omega)
  have hY : val l < 4294967296 ^ n := by have := val_lt l D.lb; rwa [D.hl] at this
  have hR : val x % val l < val l := Nat.mod_lt _ D.Ypos
  generalize (4294967296 : Nat) ^ n = p at *
  have e : val (o2.take n) + p * (v + bk) = val x % val l + p * 4294967296 := by
    rw [Nat.mul_add, Nat.mul_comm p bk]; omega
  have hvk : v + bk = 4294967296 := by
    rcases Nat.lt_trichotomy (v + bk) 4294967296 with h' | h' | h'
    · have := Nat.mul_le_mul_left p h'
      rw [Nat.mul_succ] at this
      omega
    · exact h'
    · omega
  rw [hvk] at e ⊢
  simp
  omega
end
end Orr
namespace Orr
open Go
theorem dec64 {g : Nat} (h1 : 1 ≤ g) (h2 : g < 18446744073709551616) : (g + 18446744073709551616 - 1) % 18446744073709551616 = g - 1 := by omega
theorem sub32 {g q : Nat} (h : g = q + 1) (hq : q < 4294967296) : IntKind.u32.wrap (((g % 4294967296 : Nat) : Int) - 1) = (q : Int) := by
  subst h
  simp [IntKind.wrap, IntKind.bits, IntKind.signed]
  omega
end Orr

namespace Orr
def win (o : List Nat) (i n : Nat) : List Nat := (o.drop i).take (n + 1)
theorem win_split (o : List Nat) (i n : Nat) : o.take i ++ win o i n ++ o.drop (i + n + 1) = o := by
  unfold win
  rw [List.append_assoc, show o.drop (i + n + 1) = (o.drop i).drop (n + 1) from by rw [List.drop_drop]; congr 1]
  rw [List.take_append_drop, List.take_append_drop]
theorem win_len {o : List Nat} {i n : Nat} (h : i + n < o.length) : (win o i n).length = n + 1 := by
  unfold win
  rw [List.length_take, List.length_drop]; omega
theorem win_mem {o : List Nat} {i n x : Nat} (h : x ∈ win o i n) : x ∈ o := List.mem_of_mem_drop (List.mem_of_mem_take h)
theorem val_three (p w q : List Nat) : val (p ++ w ++ q) = val p + 4294967296 ^ p.length * (val w + 4294967296 ^ w.length * val q) := by
  rw [List.append_assoc, val_append, val_append]
structure Rest (o l : List Nat) (la n m : Nat) : Prop where
  ol : o.length = la + 1
  ob : ∀ u ∈ o, u < 4294967296
  ll : l.length = n
  lb : ∀ u ∈ l, u < 4294967296
  n2 : 2 ≤ n
  top : 4294967296 ^ (n - 1) ≤ val l
  hm : m + n ≤ la + 1
  lt : val o < val l * 4294967296 ^ m
section
variable {o l : List Nat} {la n m : Nat}
theorem Rest.zero (R : Rest o l la n (m + 1)) : val (o.drop (m + n + 1)) = 0 := by
  have hlen := win_len (o := o) (i := m) (n := n) (by have := R.ol; have := R.hm; omega)
  have h1 := val_three (o.take m) (win o m n) (o.drop (m + n + 1))
  rw [win_split, hlen, List.length_take, Nat.min_eq_left (by have := R.ol; have := R.hm; omega)] at h1
  have hY : val l < 4294967296 ^ n := by have := val_lt l R.lb; rwa [R.ll] at this
  have hlt := R.lt
  rcases Nat.eq_zero_or_pos (val (o.drop (m + n + 1))) with h | h
  · exact h
  · exfalso
    have h2 : 4294967296 ^ m * (4294967296 ^ (n + 1) * 1) ≤ 4294967296 ^ m * (val (win o m n) + 4294967296 ^ (n + 1) * val (o.drop (m + n + 1))) :=
      Nat.mul_le_mul_left _ (Nat.le_trans (Nat.mul_le_mul_left _ h) (Nat.le_add_left _ _))
    have h3 : val l * 4294967296 ^ (m + 1) < 4294967296 ^ n * 4294967296 ^ (m + 1) := Nat.mul_lt_mul_of_pos_right hY (Nat.pow_pos (by decide))
    have e : (4294967296 : Nat) ^ n * 4294967296 ^ (m + 1) = 4294967296 ^ m * (4294967296 ^ (n + 1) * 1) := by
      rw [Nat.mul_one, ← Nat.pow_add, ← Nat.pow_add]; congr 1; omega
    omega
theorem Rest.dig (R : Rest o l la n (m + 1)) : ∃ top nx xn x1 x2, Dig (win o m n) l n top nx xn x1 x2 := by
  have hwl := win_len (o := o) (i := m) (n := n) (by have := R.ol; have := R.hm; omega)
  have hz := R.zero
  obtain ⟨ol, ob, ll, lb, n2, htop, hm, hlt⟩ := R
  have g1 : ∀ k, k < n + 1 → ∃ u, (win o m n)[k]? = some u := fun k hk => ⟨_, List.getElem?_eq_getElem (by omega)⟩
  have g2 : ∀ k, k < n → ∃ u, l[k]? = some u := fun k hk => ⟨_, List.getElem?_eq_getElem (by omega)⟩
  obtain ⟨top, ht⟩ := g2 (n - 1) (by omega)
  obtain ⟨nx, hnx⟩ := g2 (n - 2) (by omega)
  obtain ⟨xn, hxn⟩ := g1 n (by omega)
  obtain ⟨x1, hx1⟩ := g1 (n - 1) (by omega)
  obtain ⟨x2, hx2⟩ := g1 (n - 2) (by omega)
  have h1 := val_three (o.take m) (win o m n) (o.drop (m + n + 1))
  rw [win_split, hz, List.length_take, Nat.min_eq_left (by omega)] at h1
  refine ⟨top, nx, xn, x1, x2, n2, ll, hwl, lb, fun u hu => ob u (win_mem hu), ht, hnx, hxn, hx1, hx2, ?_, ?_⟩
  · rcases Nat.eq_zero_or_pos top with h0 | h0
    · exfalso
      subst h0
      have e := val_top1 (l := l) (k := n - 1) (by omega) ht
      have := val_take_lt lb (k := n - 1) (by omega)
      omega
    · exact h0
  · rcases Nat.lt_or_ge (val (win o m n)) (val l * 4294967296) with h | h
    · exact h
    · exfalso
      have h2 : 4294967296 ^ m * (val l * 4294967296) ≤ 4294967296 ^ m * (val (win o m n)) := Nat.mul_le_mul_left _ h
      have e : val l * (4294967296 : Nat) ^ (m + 1) = 4294967296 ^ m * (val l * 4294967296) := by
        rw [Nat.pow_succ]; generalize (4294967296 : Nat) ^ m = p; grind
      simp only [Nat.mul_zero, Nat.add_zero] at h1
      omega
theorem Rest.next (R : Rest o l la n (m + 1)) {w' : List Nat} (hw : w'.length = (win o m n).length) (hb : ∀ u ∈ w', u < 4294967296) (hv : val w' = val (win o m n) % val l) {X0 : Nat} {q : List Nat} (hq : m < q.length)
    (hX : val (q.drop (m + 1)) * 4294967296 ^ (m + 1) * val l + val o = X0) :
    Rest (o.take m ++ w' ++ o.drop (m + n + 1)) l la n m ∧ val ((q.set m (val (win o m n) / val l)).drop m) * 4294967296 ^ m * val l + val (o.take m ++ w' ++ o.drop (m + n + 1)) = X0 := by
  have hwl := win_len (o := o) (i := m) (n := n) (by have := R.ol; have := R.hm; omega)
  have hz := R.zero
  obtain ⟨ol, ob, ll, lb, n2, htop, hm, hlt⟩ := R
  have hY : 0 < val l := Nat.lt_of_lt_of_le (Nat.pow_pos (by decide)) htop
  have h1 := val_three (o.take m) (win o m n) (o.drop (m + n + 1))
  have h2 := val_three (o.take m) w' (o.drop (m + n + 1))
  rw [win_split, hz, List.length_take, Nat.min_eq_left (by omega)] at h1
  rw [hz, List.length_take, Nat.min_eq_left (by omega)] at h2
  simp only [Nat.mul_zero, Nat.add_zero] at h1 h2
  have hp := val_take_lt ob (k := m) (by omega)
  have hr : val w' < val l := by rw [hv]; exact Nat.mod_lt _ hY
  have hdm := Nat.div_add_mod (val (win o m n)) (val l)
  rw [← hv] at hdm
  refine ⟨⟨?_, ?_, ll, lb, n2, htop, by omega, ?_⟩, ?_⟩
  · simp only [List.length_append, List.length_take, List.length_drop, hw, hwl]; omega
  · intro u hu
    rcases List.mem_append.1 hu with hu | hu
    · rcases List.mem_append.1 hu with hu | hu
      · exact ob u (List.mem_of_mem_take hu)
      · exact hb u hu
    · exact ob u (List.mem_of_mem_drop hu)
  · rw [h2]
    have : 4294967296 ^ m * (val w' + 1) ≤ 4294967296 ^ m * val l := Nat.mul_le_mul_left _ hr
    rw [Nat.mul_comm (val l)]
    rw [Nat.mul_add] at this
    omega
  · have hset : (q.set m (val (win o m n) / val l))[m]? = some (val (win o m n) / val l) := by rw [List.getElem?_set_self hq]
    rw [val_drop _ m _ hset, drop_set q m _ (m + 1) (by omega), h2, ← hX, h1, Nat.pow_succ]
    generalize val (win o m n) / val l = d at *
    generalize (4294967296 : Nat) ^ m = p at *
    generalize val (q.drop (m + 1)) = Q at *
    have e : p * val (win o m n) = p * (val l * d) + p * val w' := by rw [← hdm, Nat.mul_add]
    rw [e]
    clear h1 h2 hX hset hp hdm hv hz hwl hlt
    generalize val (o.take m) = A
    generalize (4294967296 : Nat) = B
    grind
end
theorem rest_start {x y : Nat} {X Y : List Nat} {la n s : Nat} (hX : val X = x * 2 ^ s) (hY : val Y = y * 2 ^ s) (hXl : X.length = la + 1) (hXb : ∀ u ∈ X, u < 4294967296) (hYl : Y.length = n) (hYb : ∀ u ∈ Y, u < 4294967296) (hn : 2 ≤ n)
    (hx : x < 4294967296 ^ la) (hy : 4294967296 ^ (n - 1) ≤ y) (hle : n ≤ la) : Rest X Y la n (la - n + 1) := by
  have hs : 0 < 2 ^ s := Nat.pow_pos (by decide)
  refine ⟨hXl, hXb, hYl, hYb, hn, ?_, by omega, ?_⟩
  · rw [hY]
    have := Nat.mul_le_mul hy hs
    omega
  · rw [hX, hY]
    have h1 : x * 2 ^ s < 4294967296 ^ la * 2 ^ s := Nat.mul_lt_mul_of_pos_right hx hs
    have h2 : 4294967296 ^ (n - 1) * 2 ^ s * 4294967296 ^ (la - n + 1) ≤ y * 2 ^ s * 4294967296 ^ (la - n + 1) := Nat.mul_le_mul_right _ (Nat.mul_le_mul_right _ hy)
    have e : 4294967296 ^ (n - 1) * 2 ^ s * 4294967296 ^ (la - n + 1) = 4294967296 ^ la * 2 ^ s := by
      rw [Nat.mul_right_comm, ← Nat.pow_add]; congr 2; omega
    omega
theorem rest_end {x y s r : Nat} {q : List Nat} (hy : 0 < y) (h : val q * (y * 2 ^ s) + r = x * 2 ^ s) (hr : r < y * 2 ^ s) : val q = x / y ∧ r = x % y * 2 ^ s := by
  have hs : 0 < 2 ^ s := Nat.pow_pos (by decide)
  have e1 : x * 2 ^ s / (y * 2 ^ s) = val q := by
    rw [← h, Nat.mul_comm, Nat.mul_add_div (Nat.mul_pos hy hs), Nat.div_eq_of_lt hr, Nat.add_zero]
  have e2 : x * 2 ^ s % (y * 2 ^ s) = r := by
    rw [← h, Nat.mul_comm (val q), Nat.mul_add_mod, Nat.mod_eq_of_lt hr]
  rw [Nat.mul_div_mul_right _ _ hs] at e1
  rw [Nat.mul_mod_mul_right] at e2
  exact ⟨e1.symm, e2.symm⟩
end Orr
namespace Orr
theorem take_small {o : List Nat} {n : Nat} (hn : n ≤ o.length) (h : val o < 4294967296 ^ n) : val (o.take n) = val o := by
  have h1 : val o = val (o.take n) + 4294967296 ^ (o.take n).length * val (o.drop n) := by rw [← val_append, List.take_append_drop]
  rw [List.length_take, Nat.min_eq_left hn] at h1
  rcases Nat.eq_zero_or_pos (val (o.drop n)) with h0 | h0
  · rw [h0] at h1; omega
  · have := Nat.mul_le_mul_left (4294967296 ^ n) h0
    omega
theorem u32s_take_at (o : List Nat) (n : Nat) : ∀ i, i < (o.take n).length → (u32s o)[i]? = (u32s (o.take n))[i]? := by
  intro i hi
  rw [getElem?_u32s, getElem?_u32s, List.getElem?_take, if_pos (by rw [List.length_take] at hi; omega)]
end Orr

namespace Orr
open Go Go.Proofs
variable (Ob : Nat → Prop) (W : World)
set_option maxHeartbeats 1000000 in
theorem bits_Lead (hO : ∀ b, Ob b → b < W.heap.size) {x : Nat} (hs : x < 4294967296) :
  Calls Tryz.prog 97 #[.int .u32 (x : Int)] W (Ret W Ob (eqF (.int .i64 ((32 - sz x : Nat) : Int)))) := by
 have hsz : sz x ≤ 32 := sz_le.2 (by omega)
 refine enter (vs := [(.int .u32 (x : Int))]) (Ob := Ob) (K := fun b => b < W.heap.size) (Fs := []) Tryz.func97 rfl Tryz.ntmps97 rfl (fun _ h => h) hO (fun f hf => by cases hf) fun a h => ?_
 refine seq_ (reg_ ?_)
 refine st_assign h rfl rfl fun a h => ?_
 refine wpList_nil ?_
 refine seq_ (reg_ ?_)
 refine st_move h rfl rfl fun a h => ?_
 refine st_call h Tryz.func131 rfl rfl rfl (bits_Len32 _ _ (fun b => h.owns_lt) (by omega)) rfl fun r w a hg hF h => ?_
 obtain rfl := hF
 refine st_subI h rfl rfl (by omega) rfl fun a h => ?_
 refine st_assign h rfl rfl fun a h => ?_
 refine wpList_nil ?_
 refine wp_ret ?_
 exact ret1 Tryz.results97 h (resv_tmp h rfl) ⟨_, rfl, h.grow0, congrArg _ (by omega)⟩
set_option maxHeartbeats 1000000 in
theorem limb_Shl (hO : ∀ b, Ob b → b < W.heap.size) {A : Option Addr} {n c x s : Nat} (hx0 : Rel.natA.at_ W Ob [.slice A n c] x) (hsx : sz x ≤ 4294967400) (hs : s ≤ 31) :
  Calls Tryz.prog 132 #[.slice A n c, .int .i64 (s : Int)] W (Ret W Ob (Rel.natN.sliceF (x * 2 ^ s))) := by
 refine enter (vs := [(.slice A n c), (.int .i64 (s : Int))]) (Ob := Ob) (K := fun b => b < W.heap.size) (Fs := [(Rel.natA).fact [.slice A n c] (x)]) Tryz.func132 rfl Tryz.ntmps132 rfl (fun _ h => h) hO (by simp only [List.mem_cons, List.not_mem_nil, or_false, forall_eq_or_imp, forall_eq, false_imp_iff, implies_true]; exact hx0) fun a h => ?_
 refine seq_ (reg_ ?_)
 refine st_assign h rfl rfl fun a h => ?_
 refine wpList_nil ?_
 refine seq_ (reg_ ?_)
 refine st_move h rfl rfl fun a h => ?_
 refine st_call h Tryz.func67 rfl rfl rfl (limb_cut _ _ (fun b => h.owns_lt) (h.fact 0 rfl)) rfl fun r w a hg hF h => ?_
 obtain ⟨A1, n2, c3, e5, f4⟩ := hF
 subst e5
 have h := h.add (f := (Rel.natN).fact [(.slice A1 n2 c3)] (x)) f4
 refine st_assign h rfl rfl fun a h => ?_
 refine wpList_nil ?_
 refine seq_ (reg_ ?_)
 refine st_move h rfl rfl fun a h => ?_
 refine st_min (r := (s : Int)) h rfl rfl (by split <;> omega) rfl fun a h => ?_
 refine st_max (r := (s : Int)) h rfl rfl (by split <;> omega) rfl fun a h => ?_
 refine st_assign h rfl rfl fun a h => ?_
 refine wpList_nil ?_
 refine seq_ (seq_ (reg_ ?_))
 refine st_move h rfl rfl fun a h => ?_
 refine st_len h rfl Tryz.runUnderlying28 rfl fun a h => ?_
 obtain ⟨l, hl1, hl2, hl3⟩ := h.fact 0 rfl
 have h := h.add (f := Rel.row32.fact [(.slice A1 n2 c3)] l) hl1
 obtain ⟨el, _, _⟩ := row_open hl1
 have hszl := nrm_len hl2
 rw [hl3] at hszl
 have h38 : (2 : Nat) ^ 38 = 274877906944 := by decide
 have h47 : (2 : Nat) ^ 47 = 140737488355328 := by decide
 have h63 : (2 : Nat) ^ 63 = 9223372036854775808 := by decide
 refine st_cmp h rfl rfl rfl rfl fun a h => ?_
 refine wpList_nil ?_
 refine cond_ h rfl (fun hb_if1 => ?_) (fun hb_if1 => ?_)
 ·try simp only [decide_eq_true_eq, decide_eq_false_iff_not, Bool.not_eq_true', Bool.not_eq_false'] at hb_if1
  refine seq_ (reg_ ?_)
  refine st_assign h rfl rfl fun a h => ?_
  refine wpList_nil ?_
  refine wp_ret ?_
  exact ret1 Tryz.results132 h (resv_tmp h rfl) ⟨_, rfl, h.grow0, _, _, _, rfl, by rw [show x = 0 from hl3 ▸ (nrm_zero hl2).2 (List.eq_nil_of_length_eq_zero (by omega)), Nat.zero_mul]; exact natN_nil⟩
 try simp only [decide_eq_true_eq, decide_eq_false_iff_not, Bool.not_eq_true', Bool.not_eq_false'] at hb_if1
 refine wp_skip ?_
 refine seq_ (reg_ ?_)
 refine st_move h rfl rfl fun a h => ?_
 refine st_quo h rfl rfl (by omega) rfl fun a h => ?_
 replace h := h.respell (u := .int .i64 (0 : Int)) (congrArg _ (quo32 hs))
 refine st_move h rfl rfl fun a h => ?_
 refine st_rem h rfl rfl (by omega) rfl fun a h => ?_
 replace h := h.respell (u := .int .i64 (s : Int)) (congrArg _ (rem32 hs))
 refine st_to64 (p := s) h rfl (by omega) Tryz.runUnderlying3 Tryz.runUnderlying105 rfl fun a h => ?_
 refine st_assign h rfl rfl fun a h => ?_
 refine st_assign h rfl rfl fun a h => ?_
 refine wpList_nil ?_
 refine seq_ (reg_ ?_)
 refine st_move h rfl rfl fun a h => ?_
 refine st_len h rfl Tryz.runUnderlying28 rfl fun a h => ?_
 refine st_move h rfl rfl fun a h => ?_
 refine st_addI h rfl rfl (by omega) rfl fun a h => ?_
 refine st_addI h rfl rfl (by omega) rfl fun a h => ?_
 refine st_make (m := (n2 + 1)) (zs := [(.int .u32 0)]) h (rfl) (rfl) Tryz.runUnderlying28 Tryz.typeInfo104 rfl Tryz.sizeOf104 Tryz.zeroValue104 rfl rfl (by omega) rfl fun g6 w a h => ?_
 replace h := h.respellB (reps_u32s _)
 refine st_assign h rfl rfl fun a h => ?_
 refine wpList_nil ?_
 refine seq_ (seq_ (reg_ ?_))
 refine st_move h rfl rfl fun a h => ?_
 refine st_len h rfl Tryz.runUnderlying28 rfl fun a h => ?_
 refine st_move h rfl rfl fun a h => ?_
 refine wpList_nil ?_
 refine wp_block ?_
 refine loop_ (fun m a w' => ∃ i o, i ≤ n2 ∧ o.length = n2 + 1 ∧ (∀ x ∈ o, x < 4294967296) ∧ (∃ z, o[i]? = some z ∧ z < 2 ^ s) ∧ val (o.take (i + 1)) = val (l.take i) * 2 ^ s ∧ m = n2 - i ∧ St (fun b => b < W.heap.size) Ob W w' a 67 [(0, (.slice A1 n2 c3)), (5, (.int .i64 0)), (6, (.int .u64 ((s : Nat) : Int))), (7, (.slice (some ⟨g6, 0, none⟩) (n2 + 1) (n2 + 1))), (30, (.slice A1 n2 c3)), (31, (.int .i64 (n2 : Int))), (32, (.int .i64 (i : Int)))] [(Rel.row32).fact [(.slice A1 n2 c3)] (l)] [(g6, 104, u32s o)]) (m := _) (⟨0, List.replicate (n2 + 1) 0, by omega, by simp, by simp, ⟨0, by simp, Nat.pow_pos (by decide)⟩, by simp [val], rfl, ((h.consL (t := 0) rfl (h.consL (t := 5) rfl (h.consL (t := 6) rfl (h.consL (t := 7) rfl (h.consL (t := 30) rfl (h.consL (t := 31) rfl (h.consL (t := 32) rfl h.nilL))))))).noFacts.add (h.fact 0 rfl))⟩) ?_
 clear h
 rintro m a w ⟨i, o, hp0, hp1, hp2, hp3, hp4, hm, h⟩
 by_cases hlt : i < n2
 ·obtain ⟨b1, o1, rfl, _, _, _⟩ := row_get (h.fact 0 rfl) (i := i) (by omega)
  obtain ⟨x1, hx1⟩ : ∃ x, l[i]? = some x := ⟨_, List.getElem?_eq_getElem (by omega)⟩
  have hx1b := row_lt (h.fact 0 rfl) _ (List.mem_of_getElem? hx1)
  obtain ⟨z, hz, hzs⟩ := hp3
  have hzb := hp2 _ (List.mem_of_getElem? hz)
  have hstep := shl_step hs hx1 hx1b hz hzs (by omega) hp4
  have hxs := shl_lt hs hx1b
  refine seq_ (reg_ ?_)
  refine st_cmp h rfl rfl rfl rfl fun a h => ?_
  refine wpList_nil ?_
  refine seq_ ?_
  refine cond_t h rfl (by simp; omega) ?_
  refine wp_skip ?_
  refine seq_ ?_
  refine wp_block ?_
  refine seq_ (reg_ ?_)
  refine st_move h rfl rfl fun a h => ?_
  refine st_indexI (i) h rfl rfl Tryz.runUnderlying28 Tryz.sizeOf104 (rfl) (by omega) rfl fun a h => ?_
  refine st_load h rfl Tryz.isAgg104 (row_cell (h.fact 0 rfl) hx1) rfl fun a h => ?_
  refine st_assign h rfl rfl fun a h => ?_
  refine st_assign h rfl rfl fun a h => ?_
  refine wpList_nil ?_
  refine seq_ (reg_ ?_)
  refine st_move h rfl rfl fun a h => ?_
  refine st_to64 (p := x1) h rfl (by omega) Tryz.runUnderlying104 Tryz.runUnderlying101 rfl fun a h => ?_
  refine st_move h rfl rfl fun a h => ?_
  refine st_shlN (p := x1) (m := s) h rfl rfl (by omega) (by omega) rfl fun a h => ?_
  refine st_assign h rfl rfl fun a h => ?_
  refine wpList_nil ?_
  refine seq_ (reg_ ?_)
  refine st_move h rfl rfl fun a h => ?_
  refine st_move h rfl rfl fun a h => ?_
  refine st_move h rfl rfl fun a h => ?_
  refine st_addI h rfl rfl (by omega) rfl fun a h => ?_
  refine st_move h rfl rfl fun a h => ?_
  refine st_move h rfl rfl fun a h => ?_
  refine st_move h rfl rfl fun a h => ?_
  refine st_addI h rfl rfl (by omega) rfl fun a h => ?_
  refine st_indexI (i) h rfl rfl Tryz.runUnderlying28 Tryz.sizeOf104 (by omega) (by omega) rfl fun a h => ?_
  refine st_load h rfl Tryz.isAgg104 (h.u32s_cell hz) rfl fun a h => ?_
  refine st_move h rfl rfl fun a h => ?_
  refine st_to32 (p := (x1) * 2 ^ s) h rfl Tryz.runUnderlying101 Tryz.runUnderlying104 rfl fun a h => ?_
  refine st_or32 (s := s) (p := z) (q := (x1) * 2 ^ s % 4294967296) h rfl rfl hstep.2.2.2 hzs (by omega) (Nat.mod_lt _ (by decide)) hstep.1 rfl fun a h => ?_
  refine st_indexI (i) h rfl rfl Tryz.runUnderlying28 Tryz.sizeOf104 (by omega) (by omega) rfl fun a h => ?_
  refine st_storeU (i := i) h rfl rfl Tryz.sizeOf104 (by omega) fun w h => ?_
  refine wpList_nil ?_
  refine reg_ ?_
  refine st_move h rfl rfl fun a h => ?_
  refine st_move h rfl rfl fun a h => ?_
  refine st_move h rfl rfl fun a h => ?_
  refine st_addI h rfl rfl (by omega) rfl fun a h => ?_
  refine st_addI h rfl rfl (by omega) rfl fun a h => ?_
  refine st_move h rfl rfl fun a h => ?_
  refine st_shrN (p := (x1) * 2 ^ s) (m := 32) h rfl rfl (by omega) rfl fun a h => ?_
  refine st_to32 (p := ((x1) * 2 ^ s) / 2 ^ 32) h rfl Tryz.runUnderlying101 Tryz.runUnderlying104 rfl fun a h => ?_
  refine st_indexI (i + 1) h rfl rfl Tryz.runUnderlying28 Tryz.sizeOf104 (by omega) (by omega) rfl fun a h => ?_
  refine st_storeU (i := i + 1) h rfl rfl Tryz.sizeOf104 (by rw [List.length_set]; omega) fun w h => ?_
  refine wpList_nil ?_
  refine reg_ ?_
  refine st_addI h rfl rfl (by omega) rfl fun a h => ?_
  refine st_move h rfl rfl fun a h => ?_
  refine wpList_nil ?_
  refine ⟨_, ?_, i + 1, (o.set i (z + (x1) * 2 ^ s % 4294967296)).set (i + 1) (((x1) * 2 ^ s) / 2 ^ 32 % 4294967296), by omega, by simp only [List.length_set]; omega, set_lt (set_lt hp2 _ _ hstep.1) _ _ (Nat.mod_lt _ (by decide)), ⟨_, by rw [List.getElem?_set_self (by rw [List.length_set]; omega)], Nat.lt_of_le_of_lt (Nat.mod_le _ _) hstep.2.1⟩, hstep.2.2.1, rfl, ((h.consL (t := 0) rfl (h.consL (t := 5) rfl (h.consL (t := 6) rfl (h.consL (t := 7) rfl (h.consL (t := 30) rfl (h.consL (t := 31) rfl (h.consL (t := 32) rfl h.nilL))))))).noFacts.add (h.fact 0 rfl))⟩
  omega
 skip
 refine seq_ (reg_ ?_)
 refine st_cmp h rfl rfl rfl rfl fun a h => ?_
 refine wpList_nil ?_
 refine seq_ ?_
 refine cond_f h rfl (by simp; omega) ?_
 refine wp_exit ?_
 repeat refine then_exit ?_
 refine inBlock_exit ?_
 refine seq_ (reg_ ?_)
 refine st_move h rfl rfl fun a h => ?_
 have hie : i = n2 := by omega
 have hlen := hp1
 rw [List.take_of_length_le (l := o) (by omega), List.take_of_length_le (l := l) (by omega), hl3] at hp4
 have hrow := own_row32 (r := o) ((n2 + 1)) h (fun _ _ => rfl) hp2 (by omega) (by omega) (by omega)
 replace h := h.publish
 have h := h.add (f := Rel.natA.fact [.slice (some ⟨g6, 0, none⟩) (n2 + 1) (n2 + 1)] (x * 2 ^ s)) ⟨_, hlen ▸ hrow, hp2, hp4⟩
 refine st_call h Tryz.func67 rfl rfl rfl (limb_cut _ _ (fun b => h.owns_lt) (h.fact 0 rfl)) rfl fun r w a hg hF h => ?_
 obtain ⟨A7, n8, c9, e11, f10⟩ := hF
 subst e11
 have h := h.add (f := (Rel.natN).fact [(.slice A7 n8 c9)] ((x * 2 ^ s))) f10
 refine st_assign h rfl rfl fun a h => ?_
 refine wpList_nil ?_
 refine wp_ret ?_
 exact ret1 Tryz.results132 h (resv_tmp h rfl) ⟨_, rfl, h.grow0, _, _, _, rfl, h.out 0 rfl⟩
set_option maxHeartbeats 1000000 in
theorem limb_Shr (hO : ∀ b, Ob b → b < W.heap.size) {A : Option Addr} {n c x s : Nat} (hx0 : Rel.natA.at_ W Ob [.slice A n c] x) (hsx : sz x ≤ 4294967400) (hs : s ≤ 31) :
  Calls Tryz.prog 100 #[.slice A n c, .int .i64 (s : Int)] W (Ret W Ob (Rel.natN.sliceF (x / 2 ^ s))) := by
 refine enter (vs := [(.slice A n c), (.int .i64 (s : Int))]) (Ob := Ob) (K := fun b => b < W.heap.size) (Fs := [(Rel.natA).fact [.slice A n c] (x)]) Tryz.func100 rfl Tryz.ntmps100 rfl (fun _ h => h) hO (by simp only [List.mem_cons, List.not_mem_nil, or_false, forall_eq_or_imp, forall_eq, false_imp_iff, implies_true]; exact hx0) fun a h => ?_
 refine seq_ (reg_ ?_)
 refine st_assign h rfl rfl fun a h => ?_
 refine wpList_nil ?_
 refine seq_ (reg_ ?_)
 refine st_move h rfl rfl fun a h => ?_
 refine st_call h Tryz.func67 rfl rfl rfl (limb_cut _ _ (fun b => h.owns_lt) (h.fact 0 rfl)) rfl fun r w a hg hF h => ?_
 obtain ⟨A1, n2, c3, e5, f4⟩ := hF
 subst e5
 have h := h.add (f := (Rel.natN).fact [(.slice A1 n2 c3)] (x)) f4
 refine st_assign h rfl rfl fun a h => ?_
 refine wpList_nil ?_
 refine seq_ (reg_ ?_)
 refine st_move h rfl rfl fun a h => ?_
 refine st_min (r := (s : Int)) h rfl rfl (by split <;> omega) rfl fun a h => ?_
 refine st_max (r := (s : Int)) h rfl rfl (by split <;> omega) rfl fun a h => ?_
 refine st_assign h rfl rfl fun a h => ?_
 refine wpList_nil ?_
 refine seq_ (reg_ ?_)
 refine st_move h rfl rfl fun a h => ?_
 refine st_quo h rfl rfl (by omega) rfl fun a h => ?_
 replace h := h.respell (u := .int .i64 (0 : Int)) (congrArg _ (quo32 hs))
 refine st_move h rfl rfl fun a h => ?_
 refine st_rem h rfl rfl (by omega) rfl fun a h => ?_
 replace h := h.respell (u := .int .i64 (s : Int)) (congrArg _ (rem32 hs))
 refine st_to64 (p := s) h rfl (by omega) Tryz.runUnderlying3 Tryz.runUnderlying105 rfl fun a h => ?_
 refine st_assign h rfl rfl fun a h => ?_
 refine st_assign h rfl rfl fun a h => ?_
 refine wpList_nil ?_
 refine seq_ (seq_ (reg_ ?_))
 refine st_move h rfl rfl fun a h => ?_
 refine st_move h rfl rfl fun a h => ?_
 refine st_len h rfl Tryz.runUnderlying28 rfl fun a h => ?_
 obtain ⟨l, hl1, hl2, hl3⟩ := h.fact 0 rfl
 have h := h.add (f := Rel.row32.fact [(.slice A1 n2 c3)] l) hl1
 obtain ⟨el, _, _⟩ := row_open hl1
 have hszl := nrm_len hl2
 rw [hl3] at hszl
 have h38 : (2 : Nat) ^ 38 = 274877906944 := by decide
 have h47 : (2 : Nat) ^ 47 = 140737488355328 := by decide
 have h63 : (2 : Nat) ^ 63 = 9223372036854775808 := by decide
 refine st_cmp h rfl rfl rfl rfl fun a h => ?_
 refine wpList_nil ?_
 refine cond_ h rfl (fun hb_if1 => ?_) (fun hb_if1 => ?_)
 ·try simp only [decide_eq_true_eq, decide_eq_false_iff_not, Bool.not_eq_true', Bool.not_eq_false'] at hb_if1
  refine seq_ (reg_ ?_)
  refine st_assign h rfl rfl fun a h => ?_
  refine wpList_nil ?_
  refine wp_ret ?_
  exact ret1 Tryz.results100 h (resv_tmp h rfl) ⟨_, rfl, h.grow0, _, _, _, rfl, by rw [show x = 0 from hl3 ▸ (nrm_zero hl2).2 (List.eq_nil_of_length_eq_zero (by omega)), Nat.zero_div]; exact natN_nil⟩
 try simp only [decide_eq_true_eq, decide_eq_false_iff_not, Bool.not_eq_true', Bool.not_eq_false'] at hb_if1
 refine wp_skip ?_
 refine seq_ (reg_ ?_)
 refine st_move h rfl rfl fun a h => ?_
 refine st_len h rfl Tryz.runUnderlying28 rfl fun a h => ?_
 refine st_move h rfl rfl fun a h => ?_
 refine st_subI h rfl rfl (by omega) rfl fun a h => ?_
 replace h := h.respell (u := .int .i64 (n2 : Int)) (congrArg _ (by omega))
 refine st_make (m := n2) (zs := [(.int .u32 0)]) h (rfl) (rfl) Tryz.runUnderlying28 Tryz.typeInfo104 rfl Tryz.sizeOf104 Tryz.zeroValue104 rfl rfl (by omega) rfl fun g6 w a h => ?_
 replace h := h.respellB (reps_u32s _)
 refine st_assign h rfl rfl fun a h => ?_
 refine wpList_nil ?_
 refine seq_ (seq_ (reg_ ?_))
 refine st_move h rfl rfl fun a h => ?_
 refine st_len h rfl Tryz.runUnderlying28 rfl fun a h => ?_
 refine st_move h rfl rfl fun a h => ?_
 refine wpList_nil ?_
 refine wp_block ?_
 refine loop_ (fun m a w' => ∃ i o, i ≤ n2 ∧ o.length = n2 ∧ (∀ x ∈ o, x < 4294967296) ∧ val (o.take i) = val l / 2 ^ s % 4294967296 ^ i ∧ m = n2 - i ∧ St (fun b => b < W.heap.size) Ob W w' a 69 [(0, (.slice A1 n2 c3)), (5, (.int .i64 0)), (6, (.int .u64 ((s : Nat) : Int))), (7, (.slice (some ⟨g6, 0, none⟩) n2 n2)), (30, (.int .i64 (n2 : Int))), (31, (.int .i64 (i : Int)))] [(Rel.row32).fact [(.slice A1 n2 c3)] (l)] [(g6, 104, u32s o)]) (m := _) (⟨0, List.replicate n2 0, by omega, by simp, by simp, by simp [val]; omega, rfl, ((h.consL (t := 0) rfl (h.consL (t := 5) rfl (h.consL (t := 6) rfl (h.consL (t := 7) rfl (h.consL (t := 30) rfl (h.consL (t := 31) rfl h.nilL)))))).noFacts.add (h.fact 0 rfl))⟩) ?_
 clear h
 rintro m a w ⟨i, o, hp0, hp1, hp2, hp3, hm, h⟩
 by_cases hlt : i < n2
 ·obtain ⟨b1, o1, rfl, _, _, _⟩ := row_get (h.fact 0 rfl) (i := i) (by omega)
  obtain ⟨x1, hx1⟩ : ∃ x, l[i]? = some x := ⟨_, List.getElem?_eq_getElem (by omega)⟩
  have hx1b := row_lt (h.fact 0 rfl) _ (List.mem_of_getElem? hx1)
  refine seq_ (reg_ ?_)
  refine st_cmp h rfl rfl rfl rfl fun a h => ?_
  refine wpList_nil ?_
  refine seq_ ?_
  refine cond_t h rfl (by simp; omega) ?_
  refine wp_skip ?_
  refine seq_ ?_
  refine wp_block ?_
  refine seq_ (reg_ ?_)
  refine st_move h rfl rfl fun a h => ?_
  refine st_assign h rfl rfl fun a h => ?_
  refine wpList_nil ?_
  refine seq_ (reg_ ?_)
  refine st_move h rfl rfl fun a h => ?_
  refine st_move h rfl rfl fun a h => ?_
  refine st_move h rfl rfl fun a h => ?_
  refine st_addI h rfl rfl (by omega) rfl fun a h => ?_
  refine st_indexI (i) h rfl rfl Tryz.runUnderlying28 Tryz.sizeOf104 (by omega) (by omega) rfl fun a h => ?_
  refine st_load h rfl Tryz.isAgg104 (row_cell (h.fact 0 rfl) hx1) rfl fun a h => ?_
  refine st_to64 (p := x1) h rfl (by omega) Tryz.runUnderlying104 Tryz.runUnderlying101 rfl fun a h => ?_
  refine st_assign h rfl rfl fun a h => ?_
  refine wpList_nil ?_
  refine seq_ (seq_ (reg_ ?_))
  refine st_move h rfl rfl fun a h => ?_
  refine st_move h rfl rfl fun a h => ?_
  refine st_addI h rfl rfl (by omega) rfl fun a h => ?_
  refine st_addI h rfl rfl (by omega) rfl fun a h => ?_
  refine st_move h rfl rfl fun a h => ?_
  refine st_len h rfl Tryz.runUnderlying28 rfl fun a h => ?_
  refine st_cmp h rfl rfl rfl rfl fun a h => ?_
  refine wpList_nil ?_
  refine cond_ h rfl (fun hb_if3 => ?_) (fun hb_if3 => ?_)
  ·try simp only [decide_eq_true_eq, decide_eq_false_iff_not, Bool.not_eq_true', Bool.not_eq_false'] at hb_if3
   obtain ⟨y1, hy1⟩ : ∃ y, l[i + 1]? = some y := ⟨_, List.getElem?_eq_getElem (by omega)⟩
   have hy1b := row_lt (h.fact 0 rfl) _ (List.mem_of_getElem? hy1)
   refine reg_ ?_
   refine st_move h rfl rfl fun a h => ?_
   refine st_move h rfl rfl fun a h => ?_
   refine st_move h rfl rfl fun a h => ?_
   refine st_move h rfl rfl fun a h => ?_
   refine st_addI h rfl rfl (by omega) rfl fun a h => ?_
   refine st_addI h rfl rfl (by omega) rfl fun a h => ?_
   refine st_indexI (i + 1) h rfl rfl Tryz.runUnderlying28 Tryz.sizeOf104 (by omega) (by omega) rfl fun a h => ?_
   refine st_load h rfl Tryz.isAgg104 (row_cell (h.fact 0 rfl) hy1) rfl fun a h => ?_
   refine st_to64 (p := y1) h rfl (by omega) Tryz.runUnderlying104 Tryz.runUnderlying101 rfl fun a h => ?_
   refine st_shlN (p := y1) (m := 32) h rfl rfl (by omega) (by omega) rfl fun a h => ?_
   refine st_orM (k' := y1) (p := x1) (q := y1 * 2 ^ 32) h rfl rfl (by omega) (by omega) (by omega) rfl fun a h => ?_
   refine st_assign h rfl rfl fun a h => ?_
   refine wpList_nil ?_
   refine reg_ ?_
   refine st_move h rfl rfl fun a h => ?_
   refine st_move h rfl rfl fun a h => ?_
   refine st_move h rfl rfl fun a h => ?_
   refine st_move h rfl rfl fun a h => ?_
   refine st_shrN (p := x1 + y1 * 2 ^ 32) (m := s) h rfl rfl (by omega) rfl fun a h => ?_
   refine st_to32 (p := (x1 + y1 * 2 ^ 32) / 2 ^ s) h rfl Tryz.runUnderlying101 Tryz.runUnderlying104 rfl fun a h => ?_
   refine st_indexI (i) h rfl rfl Tryz.runUnderlying28 Tryz.sizeOf104 (rfl) (by omega) rfl fun a h => ?_
   refine st_storeU (i := i) h rfl rfl Tryz.sizeOf104 (by omega) fun w h => ?_
   refine wpList_nil ?_
   refine reg_ ?_
   refine st_addI h rfl rfl (by omega) rfl fun a h => ?_
   refine st_move h rfl rfl fun a h => ?_
   refine wpList_nil ?_
   have hstep := shr_step hs hx1 (.inl hy1) (by omega) hl2.1 hp3
   refine ⟨_, ?_, i + 1, o.set i (((x1 + y1 * 2 ^ 32) / 2 ^ s) % 4294967296), by omega, by simp only [List.length_set]; omega, set_lt hp2 _ _ (Nat.mod_lt _ (by decide)), hstep, rfl, ((h.consL (t := 0) rfl (h.consL (t := 5) rfl (h.consL (t := 6) rfl (h.consL (t := 7) rfl (h.consL (t := 30) rfl (h.consL (t := 31) rfl h.nilL)))))).noFacts.add (h.fact 0 rfl))⟩
   omega
  try simp only [decide_eq_true_eq, decide_eq_false_iff_not, Bool.not_eq_true', Bool.not_eq_false'] at hb_if3
  refine wp_skip ?_
  refine reg_ ?_
  refine st_move h rfl rfl fun a h => ?_
  refine st_move h rfl rfl fun a h => ?_
  refine st_move h rfl rfl fun a h => ?_
  refine st_move h rfl rfl fun a h => ?_
  refine st_shrN (p := x1) (m := s) h rfl rfl (by omega) rfl fun a h => ?_
  refine st_to32 (p := (x1) / 2 ^ s) h rfl Tryz.runUnderlying101 Tryz.runUnderlying104 rfl fun a h => ?_
  refine st_indexI (i) h rfl rfl Tryz.runUnderlying28 Tryz.sizeOf104 (rfl) (by omega) rfl fun a h => ?_
  refine st_storeU (i := i) h rfl rfl Tryz.sizeOf104 (by omega) fun w h => ?_
  refine wpList_nil ?_
  refine reg_ ?_
  refine st_addI h rfl rfl (by omega) rfl fun a h => ?_
  refine st_move h rfl rfl fun a h => ?_
  refine wpList_nil ?_
  have hstep := shr_step (y := 0) hs hx1 (.inr ⟨by omega, rfl⟩) (by omega) hl2.1 hp3
  rw [Nat.zero_mul, Nat.add_zero] at hstep
  refine ⟨_, ?_, i + 1, o.set i (((x1) / 2 ^ s) % 4294967296), by omega, by simp only [List.length_set]; omega, set_lt hp2 _ _ (Nat.mod_lt _ (by decide)), hstep, rfl, ((h.consL (t := 0) rfl (h.consL (t := 5) rfl (h.consL (t := 6) rfl (h.consL (t := 7) rfl (h.consL (t := 30) rfl (h.consL (t := 31) rfl h.nilL)))))).noFacts.add (h.fact 0 rfl))⟩
  omega
 skip
 refine seq_ (reg_ ?_)
 refine st_cmp h rfl rfl rfl rfl fun a h => ?_
 refine wpList_nil ?_
 refine seq_ ?_
 refine cond_f h rfl (by simp; omega) ?_
 refine wp_exit ?_
 repeat refine then_exit ?_
 refine inBlock_exit ?_
 refine seq_ (reg_ ?_)
 refine st_move h rfl rfl fun a h => ?_
 have hie : i = n2 := by omega
 have hlen := hp1
 have hvl := val_lt l hl2.1
 rw [List.take_of_length_le (l := o) (by omega), show i = l.length from by omega, Nat.mod_eq_of_lt (Nat.lt_of_le_of_lt (Nat.div_le_self _ _) hvl), hl3] at hp3
 have hrow := own_row32 (r := o) (n2) h (fun _ _ => rfl) hp2 (by omega) (by omega) (by omega)
 replace h := h.publish
 have h := h.add (f := Rel.natA.fact [.slice (some ⟨g6, 0, none⟩) n2 n2] (x / 2 ^ s)) ⟨_, hlen ▸ hrow, hp2, hp3⟩
 refine st_call h Tryz.func67 rfl rfl rfl (limb_cut _ _ (fun b => h.owns_lt) (h.fact 0 rfl)) rfl fun r w a hg hF h => ?_
 obtain ⟨A7, n8, c9, e11, f10⟩ := hF
 subst e11
 have h := h.add (f := (Rel.natN).fact [(.slice A7 n8 c9)] ((x / 2 ^ s))) f10
 refine st_assign h rfl rfl fun a h => ?_
 refine wpList_nil ?_
 refine wp_ret ?_
 exact ret1 Tryz.results100 h (resv_tmp h rfl) ⟨_, rfl, h.grow0, _, _, _, rfl, h.out 0 rfl⟩
set_option maxHeartbeats 1000000 in
theorem limb_wide (hO : ∀ b, Ob b → b < W.heap.size) {A : Option Addr} {m c x s n : Nat} (hx0 : Rel.natA.at_ W Ob [.slice A m c] x) (hsx : sz x ≤ 4294967400) (hs : s ≤ 31) (hn : n < 274877906944) (hv : x * 2 ^ s < 4294967296 ^ n) :
  Calls Tryz.prog 98 #[.slice A m c, .int .i64 (s : Int), .int .i64 (n : Int)] W fun e w' => ∃ r, e = .returned r ∧ Grow W w' ∧ ∃ g cs, W.heap.size ≤ g ∧ w'.heap[g]? = some (.cells cs.toArray 104 (0, 0)) ∧ r = .slice (some ⟨g, 0, none⟩) n n ∧ ∃ l, cs = u32s l ∧ l.length = n ∧ (∀ u ∈ l, u < 4294967296) ∧ val l = x * 2 ^ s := by
 have h38 : (2 : Nat) ^ 38 = 274877906944 := by decide
 refine enter (vs := [(.slice A m c), (.int .i64 (s : Int)), (.int .i64 (n : Int))]) (Ob := Ob) (K := fun b => b < W.heap.size) (Fs := [(Rel.natA).fact [.slice A m c] (x)]) Tryz.func98 rfl Tryz.ntmps98 rfl (fun _ h => h) hO (by simp only [List.mem_cons, List.not_mem_nil, or_false, forall_eq_or_imp, forall_eq, false_imp_iff, implies_true]; exact hx0) fun a h => ?_
 refine seq_ (reg_ ?_)
 refine st_assign h rfl rfl fun a h => ?_
 refine wpList_nil ?_
 refine seq_ (reg_ ?_)
 refine st_move h rfl rfl fun a h => ?_
 refine st_make (m := n) (zs := [(.int .u32 0)]) h (rfl) (rfl) Tryz.runUnderlying28 Tryz.typeInfo104 rfl Tryz.sizeOf104 Tryz.zeroValue104 rfl rfl (by omega) rfl fun g1 w a h => ?_
 replace h := h.respellB (reps_u32s _)
 refine st_assign h rfl rfl fun a h => ?_
 refine wpList_nil ?_
 refine seq_ (reg_ ?_)
 refine st_move h rfl rfl fun a h => ?_
 refine st_move h rfl rfl fun a h => ?_
 refine st_move h rfl rfl fun a h => ?_
 refine st_call h Tryz.func132 rfl rfl rfl (limb_Shl _ _ (fun b => h.owns_lt) (h.fact 0 rfl) (by omega) (by omega)) rfl fun r w a hg hF h => ?_
 obtain ⟨A2, n3, c4, e6, f5⟩ := hF
 subst e6
 have h := h.add (f := (Rel.natN).fact [(.slice A2 n3 c4)] ((x) * 2 ^ (s))) f5
 obtain ⟨l, hl1, hl2, hl3⟩ := h.fact 0 rfl
 obtain ⟨el, _, _⟩ := row_open hl1
 have hle : l.length ≤ n := nrm_le_pow hl2 (by rw [hl3]; exact hv)
 subst el
 refine st_copy (m' := l.length) h 0 rfl rfl rfl Tryz.runUnderlying28 Tryz.sizeOf104 rfl (fun _ => rfl) (Nat.min_eq_left hle) (src_row32 hl1) (by rw [length_u32s, length_u32s, List.length_replicate]; omega) (u32s_one l) rfl fun w a h => ?_
 replace h := h.respellB (cs' := u32s (l ++ List.replicate (n - l.length) 0)) (by rw [upd_u32s_row _ _ (by rw [List.length_replicate]; exact hle), List.drop_replicate])
 refine wpList_nil ?_
 refine seq_ (reg_ ?_)
 refine st_move h rfl rfl fun a h => ?_
 refine st_assign h rfl rfl fun a h => ?_
 refine wpList_nil ?_
 refine wp_ret ?_
 refine ret1 Tryz.results98 h (resv_tmp h rfl) ⟨_, rfl, h.grow0, _, _, Nat.le_of_not_lt (h.own _ _ _ (List.mem_cons_self ..)).1, h.own0, rfl, _, rfl, by simp; omega, fun u hu => ?_, by rw [val_pad, hl3]⟩
 rcases List.mem_append.1 hu with hu | hu
 ·exact hl2.1 u hu
 have := List.eq_of_mem_replicate hu; omega
set_option maxHeartbeats 1000000 in
theorem limb_digit (hO : ∀ b, Ob b → b < W.heap.size) {g n c cx top nx xn x1 x2 : Nat} {A : Option Addr} {pre x post ly : List Nat} (hg : W.heap[g]? = some (.cells (u32s (pre ++ x ++ post)).toArray 104 (0, 0))) (hgO : ¬ Ob g) (hx0 : Rel.row32.at_ W (owns Ob [(g, 104, u32s (pre ++ x ++ post))]) [.slice A n c] ly)
  (hn38 : n < 274877906944) (D : Dig x ly n top nx xn x1 x2) :
  Calls Tryz.prog 99 #[.slice (some ⟨g, pre.length, none⟩) x.length cx, .slice A n c] W fun e w' => ∃ r, e = .returned r ∧ ∃ cs', Wrote W w' g 104 cs' ∧ ∃ x', cs' = u32s (pre ++ x' ++ post) ∧ x'.length = x.length ∧ (∀ u ∈ x', u < 4294967296) ∧ r = .int .u32 ((val x / val ly : Nat) : Int) ∧ val x' = val x % val ly := by
 have hxl := D.hx
 have hxb := D.xb
 have hll := D.hl
 have hn2 := D.hn
 have hbd := D.bnd
 have e32 : (2 : Nat) ^ 32 = 4294967296 := by decide
 have hhd : x1 + xn * 2 ^ 32 < 18446744073709551616 := by omega
 obtain ⟨b1, o1, rfl, _, _, _⟩ := row_get hx0 (i := 0) (by omega)
 refine enterOwn (vs := [(.slice (some ⟨g, pre.length, none⟩) x.length cx), (.slice (some ⟨b1, o1, none⟩) n c)]) (Ob := Ob) (Fs := [(Rel.row32).fact [.slice (some ⟨b1, o1, none⟩) n c] (ly)]) (g := g) (E := 104) (cs := u32s (pre ++ x ++ post)) Tryz.func99 rfl Tryz.ntmps99 rfl hO hg hgO (by simp only [List.mem_cons, List.not_mem_nil, or_false, forall_eq_or_imp, forall_eq, false_imp_iff, implies_true]; exact hx0) fun a h => ?_
 refine seq_ (reg_ ?_)
 refine st_assign h rfl rfl fun a h => ?_
 refine wpList_nil ?_
 refine seq_ (reg_ ?_)
 refine st_move h rfl rfl fun a h => ?_
 refine st_len h rfl Tryz.runUnderlying28 rfl fun a h => ?_
 refine st_assign h rfl rfl fun a h => ?_
 refine wpList_nil ?_
 refine seq_ ?_
 refine draw0_ mixed_ 13 [some 24, some 25, some 26, some 27, some 28, some 29, some 30, some 31, some 32, some 33, some 34, some 35, some 6] [[], [], [1], [0, 2], [3], [4], [], [], [7], [6, 8], [9], [10], [5]] [(eqF (.slice (some ⟨b1, o1, none⟩) n c)), (eqF (.int .i64 (n : Int))), (eqF (.int .i64 ((n : Int) - 1))), (eqF (.pointer (some ⟨b1, (o1 + (n - 1) * 1), none⟩))), (eqF (.int .u32 (top : Int))), (eqF (.int .u64 ((top : Nat) : Int))), (eqF (.slice (some ⟨b1, o1, none⟩) n c)), (eqF (.int .i64 (n : Int))), (eqF (.int .i64 ((n : Int) - 2))), (eqF (.pointer (some ⟨b1, (o1 + (n - 2) * 1), none⟩))), (eqF (.int .u32 (nx : Int))), (eqF (.int .u64 ((nx : Nat) : Int))), (eqF (.int .u64 ((top : Nat) : Int)))] rfl h rfl ⟨?_, ?_, ?_, ?_, ?_, ?_, ?_, ?_, ?_, ?_, ?_, ?_, ?_, trivial⟩ ?_
 ·intro dp hdp0 hdp dv Fx a w h
  refine st_move h rfl rfl fun a h => ?_
  refine wpList_nil ⟨rfl, ?_⟩
  exact ⟨_, h.drawEnd (F' := []) rfl rfl⟩
 ·intro dp hdp0 hdp dv Fx a w h
  refine st_move h rfl rfl fun a h => ?_
  refine wpList_nil ⟨rfl, ?_⟩
  exact ⟨_, h.drawEnd (F' := []) rfl rfl⟩
 ·intro dp hdp0 hdp dv Fx a w h
  have e1 : dv 1 = (.int .i64 (n : Int)) := h.fact 0 rfl
  replace h := (h.spellE (t := 25) e1 rfl h)
  refine st_subI h rfl rfl (by omega) rfl fun a h => ?_
  refine wpList_nil ⟨rfl, ?_⟩
  exact ⟨_, h.drawEnd (F' := [_]) rfl rfl⟩
 ·intro dp hdp0 hdp dv Fx a w h
  have e2 : dv 0 = (.slice (some ⟨b1, o1, none⟩) n c) := h.fact 0 rfl
  have e3 : dv 2 = (.int .i64 ((n : Int) - 1)) := h.fact 1 rfl
  replace h := (h.spellE (t := 26) e3 rfl (h.spellE (t := 24) e2 rfl h))
  refine st_indexI (n - 1) h rfl rfl Tryz.runUnderlying28 Tryz.sizeOf104 (by omega) (by omega) rfl fun a h => ?_
  refine wpList_nil ⟨rfl, ?_⟩
  exact ⟨_, h.drawEnd (F' := [_, _]) rfl rfl⟩
 ·intro dp hdp0 hdp dv Fx a w h
  have e4 : dv 3 = (.pointer (some ⟨b1, (o1 + (n - 1) * 1), none⟩)) := h.fact 0 rfl
  replace h := (h.spellE (t := 27) e4 rfl h)
  refine st_load h rfl Tryz.isAgg104 (row_cell (h.fact 1 rfl) D.ltop) rfl fun a h => ?_
  refine wpList_nil ⟨rfl, ?_⟩
  exact ⟨_, h.drawEnd (F' := [_]) rfl rfl⟩
 ·intro dp hdp0 hdp dv Fx a w h
  have e5 : dv 4 = (.int .u32 (top : Int)) := h.fact 0 rfl
  replace h := (h.spellE (t := 28) e5 rfl h)
  refine st_to64 (p := top) h rfl (by omega) Tryz.runUnderlying104 Tryz.runUnderlying101 rfl fun a h => ?_
  refine wpList_nil ⟨rfl, ?_⟩
  exact ⟨_, h.drawEnd (F' := [_]) rfl rfl⟩
 ·intro dp hdp0 hdp dv Fx a w h
  refine st_move h rfl rfl fun a h => ?_
  refine wpList_nil ⟨rfl, ?_⟩
  exact ⟨_, h.drawEnd (F' := []) rfl rfl⟩
 ·intro dp hdp0 hdp dv Fx a w h
  refine st_move h rfl rfl fun a h => ?_
  refine wpList_nil ⟨rfl, ?_⟩
  exact ⟨_, h.drawEnd (F' := []) rfl rfl⟩
 ·intro dp hdp0 hdp dv Fx a w h
  have e6 : dv 7 = (.int .i64 (n : Int)) := h.fact 0 rfl
  replace h := (h.spellE (t := 31) e6 rfl h)
  refine st_subI h rfl rfl (by omega) rfl fun a h => ?_
  refine wpList_nil ⟨rfl, ?_⟩
  exact ⟨_, h.drawEnd (F' := [_]) rfl rfl⟩
 ·intro dp hdp0 hdp dv Fx a w h
  have e7 : dv 6 = (.slice (some ⟨b1, o1, none⟩) n c) := h.fact 0 rfl
  have e8 : dv 8 = (.int .i64 ((n : Int) - 2)) := h.fact 1 rfl
  replace h := (h.spellE (t := 32) e8 rfl (h.spellE (t := 30) e7 rfl h))
  refine st_indexI (n - 2) h rfl rfl Tryz.runUnderlying28 Tryz.sizeOf104 (by omega) (by omega) rfl fun a h => ?_
  refine wpList_nil ⟨rfl, ?_⟩
  exact ⟨_, h.drawEnd (F' := [_, _]) rfl rfl⟩
 ·intro dp hdp0 hdp dv Fx a w h
  have e9 : dv 9 = (.pointer (some ⟨b1, (o1 + (n - 2) * 1), none⟩)) := h.fact 0 rfl
  replace h := (h.spellE (t := 33) e9 rfl h)
  refine st_load h rfl Tryz.isAgg104 (row_cell (h.fact 1 rfl) D.lnx) rfl fun a h => ?_
  refine wpList_nil ⟨rfl, ?_⟩
  exact ⟨_, h.drawEnd (F' := [_]) rfl rfl⟩
 ·intro dp hdp0 hdp dv Fx a w h
  have e10 : dv 10 = (.int .u32 (nx : Int)) := h.fact 0 rfl
  replace h := (h.spellE (t := 34) e10 rfl h)
  refine st_to64 (p := nx) h rfl (by omega) Tryz.runUnderlying104 Tryz.runUnderlying101 rfl fun a h => ?_
  refine wpList_nil ⟨rfl, ?_⟩
  exact ⟨_, h.drawEnd (F' := [_]) rfl rfl⟩
 ·intro dp hdp0 hdp dv Fx a w h
  have e11 : dv 5 = (.int .u64 ((top : Nat) : Int)) := h.fact 0 rfl
  replace h := (h.spellE (t := 29) e11 rfl h)
  refine st_assign h rfl rfl fun a h => ?_
  refine wpList_nil ⟨rfl, ?_⟩
  exact ⟨_, h.drawEnd (F' := [_]) rfl rfl⟩
 intro dv a w h
 have e12 : dv 11 = (.int .u64 ((nx : Nat) : Int)) := h.fact 11 rfl
 have e13 : dv 12 = (.int .u64 ((top : Nat) : Int)) := h.fact 12 rfl
 have h2 := (h.spellE (t := 6) e13 rfl (h.spellE (t := 35) e12 rfl (h.consL (t := 5) rfl (h.consL (t := 4) rfl (h.consL (t := 1) rfl (h.consL (t := 0) rfl h.nilL))))))
 have h3 := h2.noFacts
 have h3 := h3.add (h2.fact 13 rfl)
 clear h2
 replace h := h3
 clear h3
 refine st_assign h rfl rfl fun a h => ?_
 refine wpList_nil ?_
 refine seq_ ?_
 refine draw0_ mixed_ 12 [some 36, some 37, some 38, some 39, some 40, some 41, some 42, some 43, some 44, some 45, some 46, some 47] [[], [], [0, 1], [2], [3], [4], [], [], [7], [6, 8], [9], [10]] [(eqF (.slice (some ⟨g, pre.length, none⟩) x.length cx)), (eqF (.int .i64 (n : Int))), (eqF (.pointer (some ⟨g, (pre.length + (n) * 1), none⟩))), (eqF (.int .u32 (xn : Int))), (eqF (.int .u64 ((xn : Nat) : Int))), (eqF (.int .u64 (((xn) * 2 ^ 32 : Nat) : Int))), (eqF (.slice (some ⟨g, pre.length, none⟩) x.length cx)), (eqF (.int .i64 (n : Int))), (eqF (.int .i64 ((n : Int) - 1))), (eqF (.pointer (some ⟨g, (pre.length + (n - 1) * 1), none⟩))), (eqF (.int .u32 (x1 : Int))), (eqF (.int .u64 ((x1 : Nat) : Int)))] rfl h rfl ⟨?_, ?_, ?_, ?_, ?_, ?_, ?_, ?_, ?_, ?_, ?_, ?_, trivial⟩ ?_
 ·intro dp hdp0 hdp dv Fx a w h
  refine st_move h rfl rfl fun a h => ?_
  refine wpList_nil ⟨rfl, ?_⟩
  exact ⟨_, h.drawEnd (F' := []) rfl rfl⟩
 ·intro dp hdp0 hdp dv Fx a w h
  refine st_move h rfl rfl fun a h => ?_
  refine wpList_nil ⟨rfl, ?_⟩
  exact ⟨_, h.drawEnd (F' := []) rfl rfl⟩
 ·intro dp hdp0 hdp dv Fx a w h
  have e14 : dv 0 = (.slice (some ⟨g, pre.length, none⟩) x.length cx) := h.fact 0 rfl
  have e15 : dv 1 = (.int .i64 (n : Int)) := h.fact 1 rfl
  replace h := (h.spellE (t := 37) e15 rfl (h.spellE (t := 36) e14 rfl h))
  refine st_indexI (n) h rfl rfl Tryz.runUnderlying28 Tryz.sizeOf104 (rfl) (by omega) rfl fun a h => ?_
  refine wpList_nil ⟨rfl, ?_⟩
  exact ⟨_, h.drawEnd (F' := [_, _]) rfl rfl⟩
 ·intro dp hdp0 hdp dv Fx a w h
  have e16 : dv 2 = (.pointer (some ⟨g, (pre.length + (n) * 1), none⟩)) := h.fact 0 rfl
  replace h := (h.spellE (t := 38) e16 rfl h)
  refine st_load h rfl Tryz.isAgg104 (h.cellW D.xn) rfl fun a h => ?_
  refine wpList_nil ⟨rfl, ?_⟩
  exact ⟨_, h.drawEnd (F' := [_]) rfl rfl⟩
 ·intro dp hdp0 hdp dv Fx a w h
  have e17 : dv 3 = (.int .u32 (xn : Int)) := h.fact 0 rfl
  replace h := (h.spellE (t := 39) e17 rfl h)
  refine st_to64 (p := xn) h rfl (by omega) Tryz.runUnderlying104 Tryz.runUnderlying101 rfl fun a h => ?_
  refine wpList_nil ⟨rfl, ?_⟩
  exact ⟨_, h.drawEnd (F' := [_]) rfl rfl⟩
 ·intro dp hdp0 hdp dv Fx a w h
  have e18 : dv 4 = (.int .u64 ((xn : Nat) : Int)) := h.fact 0 rfl
  replace h := (h.spellE (t := 40) e18 rfl h)
  refine st_shlN (p := xn) (m := 32) h rfl rfl (by omega) (by omega) rfl fun a h => ?_
  refine wpList_nil ⟨rfl, ?_⟩
  exact ⟨_, h.drawEnd (F' := [_]) rfl rfl⟩
 ·intro dp hdp0 hdp dv Fx a w h
  refine st_move h rfl rfl fun a h => ?_
  refine wpList_nil ⟨rfl, ?_⟩
  exact ⟨_, h.drawEnd (F' := []) rfl rfl⟩
 ·intro dp hdp0 hdp dv Fx a w h
  refine st_move h rfl rfl fun a h => ?_
  refine wpList_nil ⟨rfl, ?_⟩
  exact ⟨_, h.drawEnd (F' := []) rfl rfl⟩
 ·intro dp hdp0 hdp dv Fx a w h
  have e19 : dv 7 = (.int .i64 (n : Int)) := h.fact 0 rfl
  replace h := (h.spellE (t := 43) e19 rfl h)
  refine st_subI h rfl rfl (by omega) rfl fun a h => ?_
  refine wpList_nil ⟨rfl, ?_⟩
  exact ⟨_, h.drawEnd (F' := [_]) rfl rfl⟩
 ·intro dp hdp0 hdp dv Fx a w h
  have e20 : dv 6 = (.slice (some ⟨g, pre.length, none⟩) x.length cx) := h.fact 0 rfl
  have e21 : dv 8 = (.int .i64 ((n : Int) - 1)) := h.fact 1 rfl
  replace h := (h.spellE (t := 44) e21 rfl (h.spellE (t := 42) e20 rfl h))
  refine st_indexI (n - 1) h rfl rfl Tryz.runUnderlying28 Tryz.sizeOf104 (by omega) (by omega) rfl fun a h => ?_
  refine wpList_nil ⟨rfl, ?_⟩
  exact ⟨_, h.drawEnd (F' := [_, _]) rfl rfl⟩
 ·intro dp hdp0 hdp dv Fx a w h
  have e22 : dv 9 = (.pointer (some ⟨g, (pre.length + (n - 1) * 1), none⟩)) := h.fact 0 rfl
  replace h := (h.spellE (t := 45) e22 rfl h)
  refine st_load h rfl Tryz.isAgg104 (h.cellW D.x1) rfl fun a h => ?_
  refine wpList_nil ⟨rfl, ?_⟩
  exact ⟨_, h.drawEnd (F' := [_]) rfl rfl⟩
 ·intro dp hdp0 hdp dv Fx a w h
  have e23 : dv 10 = (.int .u32 (x1 : Int)) := h.fact 0 rfl
  replace h := (h.spellE (t := 46) e23 rfl h)
  refine st_to64 (p := x1) h rfl (by omega) Tryz.runUnderlying104 Tryz.runUnderlying101 rfl fun a h => ?_
  refine wpList_nil ⟨rfl, ?_⟩
  exact ⟨_, h.drawEnd (F' := [_]) rfl rfl⟩
 intro dv a w h
 have e24 : dv 5 = (.int .u64 (((xn) * 2 ^ 32 : Nat) : Int)) := h.fact 5 rfl
 have e25 : dv 11 = (.int .u64 ((x1 : Nat) : Int)) := h.fact 11 rfl
 have h2 := (h.spellE (t := 47) e25 rfl (h.spellE (t := 41) e24 rfl (h.consL (t := 7) rfl (h.consL (t := 6) rfl (h.consL (t := 5) rfl (h.consL (t := 4) rfl (h.consL (t := 1) rfl (h.consL (t := 0) rfl h.nilL))))))))
 have h3 := h2.noFacts
 have h3 := h3.add (h2.fact 12 rfl)
 clear h2
 replace h := h3
 clear h3
 refine st_orN (k' := xn) (p := (xn) * 2 ^ 32) (q := x1) h rfl rfl (by omega) (by omega) (by omega) rfl fun a h => ?_
 refine st_assign h rfl rfl fun a h => ?_
 refine wpList_nil ?_
 refine seq_ (reg_ ?_)
 refine st_move h rfl rfl fun a h => ?_
 refine st_move h rfl rfl fun a h => ?_
 refine st_quoN (p := ((xn) * 2 ^ 32) + x1) (q := top) h rfl rfl (by omega) (D.top0) rfl fun a h => ?_
 refine st_assign h rfl rfl fun a h => ?_
 refine wpList_nil ?_
 refine seq_ (reg_ ?_)
 refine st_move h rfl rfl fun a h => ?_
 refine st_move h rfl rfl fun a h => ?_
 refine st_remN (p := ((xn) * 2 ^ 32) + x1) (q := top) h rfl rfl (D.top0) rfl fun a h => ?_
 refine st_assign h rfl rfl fun a h => ?_
 refine wpList_nil ?_
 refine seq_ ?_
 refine blk_cut (fun a w' => ∃ gq, val x / val ly ≤ gq ∧ (gq - 1) * val ly ≤ val x ∧ gq ≤ 4294967296 ∧ St (fun b => b < W.heap.size ∧ b ≠ g) Ob W w' a 170 [(0, (.slice (some ⟨g, pre.length, none⟩) x.length cx)), (1, (.slice (some ⟨b1, o1, none⟩) n c)), (5, (.int .i64 (n : Int))), (9, (.int .u64 ((gq : Nat) : Int)))] [(Rel.row32).fact [.slice (some ⟨b1, o1, none⟩) n c] (ly)] [(g, 104, u32s (pre ++ x ++ post))]) ?_ ?_
 ·skip
  refine wp_block ?_
  refine loop_ (fun m a w' => ∃ gq r, gq * top + r = xn * 2 ^ 32 + x1 ∧ val x / val ly ≤ gq ∧ r < 4294967296 ∧ gq < 18446744073709551616 ∧ m = 4294967296 - r ∧ St (fun b => b < W.heap.size ∧ b ≠ g) Ob W w' a 170 [(0, (.slice (some ⟨g, pre.length, none⟩) x.length cx)), (1, (.slice (some ⟨b1, o1, none⟩) n c)), (5, (.int .i64 (n : Int))), (6, (.int .u64 ((top : Nat) : Int))), (7, (.int .u64 ((nx : Nat) : Int))), (9, (.int .u64 ((gq : Nat) : Int))), (10, (.int .u64 ((r : Nat) : Int)))] [(Rel.row32).fact [.slice (some ⟨b1, o1, none⟩) n c] (ly)] [(g, 104, u32s (pre ++ x ++ post))]) (m := _) (⟨(xn * 2 ^ 32 + x1) / top, (xn * 2 ^ 32 + x1) % top, by rw [Nat.mul_comm]; exact Nat.div_add_mod _ _, D.start, Nat.lt_trans (Nat.mod_lt _ D.top0) D.bnd.1, Nat.lt_of_le_of_lt (Nat.div_le_self _ _) (by rw [Nat.add_comm]; exact hhd), rfl, ((h.consL (t := 0) rfl (h.consL (t := 1) rfl (h.consL (t := 5) rfl (h.consL (t := 6) rfl (h.consL (t := 7) rfl (h.consL (t := 9) rfl (h.consL (t := 10) rfl h.nilL))))))).noFacts.add (h.fact 0 rfl))⟩) ?_
  clear h
  rintro m a w ⟨gq, r, hp0, hp1, hp2, hp3, hm, h⟩
  rcases Nat.lt_or_ge gq 4294967296 with hlt | hge
  ·have hbd := D.bnd
   have hgn := mul_le_limb (x := gq) (y := nx) (by omega) hbd.2.1
   refine seq_ (seq_ (reg_ ?_))
   refine st_move h rfl rfl fun a h => ?_
   refine st_cmp h rfl rfl rfl rfl fun a h => ?_
   refine st_move h rfl rfl fun a h => ?_
   refine guard_run h rfl rfl (by simp; omega) ?_
   refine st_move h rfl rfl fun a h => ?_
   refine guard_run h rfl rfl (by simp; omega) ?_
   refine st_move h rfl rfl fun a h => ?_
   refine guard_run h rfl rfl (by simp; omega) ?_
   refine st_mulN (p := gq) (q := nx) h rfl rfl (by omega) rfl fun a h => ?_
   refine guard_run h rfl rfl (by simp; omega) ?_
   refine st_move h rfl rfl fun a h => ?_
   refine guard_run h rfl rfl (by simp; omega) ?_
   refine st_shlN (p := r) (m := 32) h rfl rfl (by omega) (by omega) rfl fun a h => ?_
   refine guard_run h rfl rfl (by simp; omega) ?_
   refine st_move h rfl rfl fun a h => ?_
   refine guard_run h rfl rfl (by simp; omega) ?_
   refine st_move h rfl rfl fun a h => ?_
   refine guard_run h rfl rfl (by simp; omega) ?_
   refine st_subI h rfl rfl (by omega) rfl fun a h => ?_
   refine guard_run h rfl rfl (by simp; omega) ?_
   refine st_indexI (n - 2) h rfl rfl Tryz.runUnderlying28 Tryz.sizeOf104 (by omega) (by omega) rfl fun a h => ?_
   refine guard_run h rfl rfl (by simp; omega) ?_
   refine st_load h rfl Tryz.isAgg104 (h.cellW D.x2) rfl fun a h => ?_
   refine guard_run h rfl rfl (by simp; omega) ?_
   refine st_to64 (p := x2) h rfl (by omega) Tryz.runUnderlying104 Tryz.runUnderlying101 rfl fun a h => ?_
   refine guard_run h rfl rfl (by simp; omega) ?_
   refine st_orN (k' := r) (p := (r) * 2 ^ 32) (q := x2) h rfl rfl (by omega) (by omega) (by omega) rfl fun a h => ?_
   refine guard_run h rfl rfl (by simp; omega) ?_
   refine st_cmp h rfl rfl rfl rfl fun a h => ?_
   refine st_pickF h rfl (by simp; omega) rfl rfl fun a h => ?_
   refine wpList_nil ?_
   refine cond_ h rfl (fun hb_if1 => ?_) (fun hb_if1 => ?_)
   ·try simp only [decide_eq_true_eq, decide_eq_false_iff_not, Bool.not_eq_true', Bool.not_eq_false'] at hb_if1
    have hrd := D.round hp0 hp1 (.inr (by omega))
    refine wp_skip ?_
    refine wp_block ?_
    refine seq_ (reg_ ?_)
    refine st_move h rfl rfl fun a h => ?_
    refine st_subN (p := gq) (q := 1) h rfl rfl (by omega) rfl fun a h => ?_
    refine st_assign h rfl rfl fun a h => ?_
    refine wpList_nil ?_
    refine seq_ (reg_ ?_)
    refine st_move h rfl rfl fun a h => ?_
    refine st_move h rfl rfl fun a h => ?_
    refine st_addN (p := r) (q := top) h rfl rfl (by omega) rfl fun a h => ?_
    refine st_assign h rfl rfl fun a h => ?_
    refine wpList_nil ?_
    refine seq_ (reg_ ?_)
    refine st_move h rfl rfl fun a h => ?_
    refine st_cmp h rfl rfl rfl rfl fun a h => ?_
    refine wpList_nil ?_
    refine cond_ h rfl (fun hb_if2 => ?_) (fun hb_if2 => ?_)
    ·try simp only [decide_eq_true_eq, decide_eq_false_iff_not, Bool.not_eq_true', Bool.not_eq_false'] at hb_if2
     refine wp_exit ?_
     repeat refine then_exit ?_
     refine inBlock_other rfl ?_
     repeat refine then_exit ?_
     refine inBlock_exit ?_
     have hfin := hrd.2.2.2 (by omega)
     exact ⟨gq - 1, hrd.2.1, hfin.1, hfin.2, ((h.consL (t := 0) rfl (h.consL (t := 1) rfl (h.consL (t := 5) rfl ((h.consL (t := 9) rfl h.nilL).respell (congrArg (fun z : Nat => Go.Value.int .u64 (z : Int)) (dec64 hrd.1 hp3)))))).noFacts.add (h.fact 0 rfl))⟩
    try simp only [decide_eq_true_eq, decide_eq_false_iff_not, Bool.not_eq_true', Bool.not_eq_false'] at hb_if2
    refine wp_skip ?_
    refine ⟨_, ?_, gq - 1, r + top, hrd.2.2.1, hrd.2.1, by omega, by omega, rfl, ((h.consL (t := 0) rfl (h.consL (t := 1) rfl (h.consL (t := 5) rfl (h.consL (t := 6) rfl (h.consL (t := 7) rfl ((h.consL (t := 9) rfl (h.consL (t := 10) rfl h.nilL)).respell (congrArg (fun z : Nat => Go.Value.int .u64 (z : Int)) (dec64 hrd.1 hp3)))))))).noFacts.add (h.fact 0 rfl))⟩
    have := D.top0; omega
   try simp only [decide_eq_true_eq, decide_eq_false_iff_not, Bool.not_eq_true', Bool.not_eq_false'] at hb_if1
   refine wp_exit ?_
   repeat refine then_exit ?_
   refine inBlock_exit ?_
   exact ⟨gq, hp1, D.fin hp0 (by omega) (by omega), by omega, ((h.consL (t := 0) rfl (h.consL (t := 1) rfl (h.consL (t := 5) rfl (h.consL (t := 9) rfl h.nilL)))).noFacts.add (h.fact 0 rfl))⟩
  have hrd := D.round hp0 hp1 (.inl hge)
  have hbd := D.bnd
  refine seq_ (seq_ (reg_ ?_))
  refine st_move h rfl rfl fun a h => ?_
  refine st_cmp h rfl rfl rfl rfl fun a h => ?_
  refine st_move h rfl rfl fun a h => ?_
  refine guard_skip h rfl rfl (by simp; omega) rfl fun a h => ?_
  refine guard_skip h rfl rfl (by simp; omega) rfl fun a h => ?_
  refine guard_skip h rfl rfl (by simp; omega) rfl fun a h => ?_
  refine guard_skip h rfl rfl (by simp; omega) rfl fun a h => ?_
  refine guard_skip h rfl rfl (by simp; omega) rfl fun a h => ?_
  refine guard_skip h rfl rfl (by simp; omega) rfl fun a h => ?_
  refine guard_skip h rfl rfl (by simp; omega) rfl fun a h => ?_
  refine guard_skip h rfl rfl (by simp; omega) rfl fun a h => ?_
  refine guard_skip h rfl rfl (by simp; omega) rfl fun a h => ?_
  refine guard_skip h rfl rfl (by simp; omega) rfl fun a h => ?_
  refine guard_skip h rfl rfl (by simp; omega) rfl fun a h => ?_
  refine guard_skip h rfl rfl (by simp; omega) rfl fun a h => ?_
  refine guard_skip h rfl rfl (by simp; omega) rfl fun a h => ?_
  refine st_pickT h rfl (by simp; omega) rfl rfl fun a h => ?_
  refine wpList_nil ?_
  refine cond_t h rfl (rfl) ?_
  refine wp_skip ?_
  refine wp_block ?_
  refine seq_ (reg_ ?_)
  refine st_move h rfl rfl fun a h => ?_
  refine st_subN (p := gq) (q := 1) h rfl rfl (by omega) rfl fun a h => ?_
  refine st_assign h rfl rfl fun a h => ?_
  refine wpList_nil ?_
  refine seq_ (reg_ ?_)
  refine st_move h rfl rfl fun a h => ?_
  refine st_move h rfl rfl fun a h => ?_
  refine st_addN (p := r) (q := top) h rfl rfl (by omega) rfl fun a h => ?_
  refine st_assign h rfl rfl fun a h => ?_
  refine wpList_nil ?_
  refine seq_ (reg_ ?_)
  refine st_move h rfl rfl fun a h => ?_
  refine st_cmp h rfl rfl rfl rfl fun a h => ?_
  refine wpList_nil ?_
  refine cond_ h rfl (fun hb_if2 => ?_) (fun hb_if2 => ?_)
  ·try simp only [decide_eq_true_eq, decide_eq_false_iff_not, Bool.not_eq_true', Bool.not_eq_false'] at hb_if2
   refine wp_exit ?_
   repeat refine then_exit ?_
   refine inBlock_other rfl ?_
   repeat refine then_exit ?_
   refine inBlock_exit ?_
   have hfin := hrd.2.2.2 (by omega)
   exact ⟨gq - 1, hrd.2.1, hfin.1, hfin.2, ((h.consL (t := 0) rfl (h.consL (t := 1) rfl (h.consL (t := 5) rfl ((h.consL (t := 9) rfl h.nilL).respell (congrArg (fun z : Nat => Go.Value.int .u64 (z : Int)) (dec64 hrd.1 hp3)))))).noFacts.add (h.fact 0 rfl))⟩
  try simp only [decide_eq_true_eq, decide_eq_false_iff_not, Bool.not_eq_true', Bool.not_eq_false'] at hb_if2
  refine wp_skip ?_
  refine ⟨_, ?_, gq - 1, r + top, hrd.2.2.1, hrd.2.1, by omega, by omega, rfl, ((h.consL (t := 0) rfl (h.consL (t := 1) rfl (h.consL (t := 5) rfl (h.consL (t := 6) rfl (h.consL (t := 7) rfl ((h.consL (t := 9) rfl (h.consL (t := 10) rfl h.nilL)).respell (congrArg (fun z : Nat => Go.Value.int .u64 (z : Int)) (dec64 hrd.1 hp3)))))))).noFacts.add (h.fact 0 rfl))⟩
  have := D.top0; omega
 clear h
 rintro a w ⟨gq, hq0, hq1, hq2, h⟩
 refine seq_ (reg_ ?_)
 refine st_assign h rfl rfl fun a h => ?_
 refine st_assign h rfl rfl fun a h => ?_
 refine wpList_nil ?_
 refine seq_ (seq_ (reg_ ?_))
 refine st_move h rfl rfl fun a h => ?_
 refine st_len h rfl Tryz.runUnderlying28 rfl fun a h => ?_
 refine st_move h rfl rfl fun a h => ?_
 refine wpList_nil ?_
 refine wp_block ?_
 refine loop_ (fun m a w' => ∃ i o cy bw, i ≤ n ∧ o.length = n + 1 ∧ (∀ u ∈ o, u < 4294967296) ∧ bw ≤ 1 ∧ cy < 4294967296 ∧ val (o.take i) + gq * val (ly.take i) = val (x.take i) + (cy + bw) * 4294967296 ^ i ∧ o.drop i = x.drop i ∧ m = n - i ∧ St (fun b => b < W.heap.size ∧ b ≠ g) Ob W w' a 170 [(0, (.slice (some ⟨g, pre.length, none⟩) x.length cx)), (1, (.slice (some ⟨b1, o1, none⟩) n c)), (5, (.int .i64 (n : Int))), (9, (.int .u64 ((gq : Nat) : Int))), (11, (.int .u64 ((cy : Nat) : Int))), (12, (.int .u64 ((bw : Nat) : Int))), (79, (.slice (some ⟨b1, o1, none⟩) n c)), (80, (.int .i64 (n : Int))), (81, (.int .i64 (i : Int)))] [(Rel.row32).fact [.slice (some ⟨b1, o1, none⟩) n c] (ly)] [(g, 104, u32s (pre ++ o ++ post))]) (m := _) (⟨0, x, 0, 0, by omega, hxl, hxb, by omega, by omega, by simp [val], rfl, rfl, ((h.consL (t := 0) rfl (h.consL (t := 1) rfl (h.consL (t := 5) rfl (h.consL (t := 9) rfl (h.consL (t := 11) rfl (h.consL (t := 12) rfl (h.consL (t := 79) rfl (h.consL (t := 80) rfl (h.consL (t := 81) rfl h.nilL))))))))).noFacts.add (h.fact 0 rfl))⟩) ?_
 clear h
 rintro m a w ⟨i, o, cy, bw, hp0, hp1, hp2, hp3, hp4, hp5, hp6, hm, h⟩
 by_cases hlt : i < n
 ·obtain ⟨w1, hw1⟩ : ∃ y, ly[i]? = some y := ⟨_, List.getElem?_eq_getElem (by omega)⟩
  obtain ⟨u, hu⟩ : ∃ y, x[i]? = some y := ⟨_, List.getElem?_eq_getElem (by omega)⟩
  have hw1b := row_lt (h.fact 0 rfl) _ (List.mem_of_getElem? hw1)
  have hub := hxb _ (List.mem_of_getElem? hu)
  have hou := (drop_get hp6).trans hu
  have hgw : gq * w1 ≤ 18446744069414584320 := by
   have := Nat.mul_le_mul hq2 (show w1 ≤ 4294967295 by omega)
   omega
  have hstep := mulsub_step' (p := gq * w1 + cy) (by omega) hu hw1 hub hp3 hp5 rfl rfl
  refine seq_ (reg_ ?_)
  refine st_cmp h rfl rfl rfl rfl fun a h => ?_
  refine wpList_nil ?_
  refine seq_ ?_
  refine cond_t h rfl (by simp; omega) ?_
  refine wp_skip ?_
  refine seq_ ?_
  refine wp_block ?_
  refine seq_ (reg_ ?_)
  refine st_move h rfl rfl fun a h => ?_
  refine st_indexI (i) h rfl rfl Tryz.runUnderlying28 Tryz.sizeOf104 (rfl) (by omega) rfl fun a h => ?_
  refine st_load h rfl Tryz.isAgg104 (row_cell (h.fact 0 rfl) hw1) rfl fun a h => ?_
  refine st_assign h rfl rfl fun a h => ?_
  refine st_assign h rfl rfl fun a h => ?_
  refine wpList_nil ?_
  refine seq_ (reg_ ?_)
  refine st_move h rfl rfl fun a h => ?_
  refine st_move h rfl rfl fun a h => ?_
  refine st_to64 (p := w1) h rfl (by omega) Tryz.runUnderlying104 Tryz.runUnderlying101 rfl fun a h => ?_
  refine st_mulN (p := gq) (q := w1) h rfl rfl (by omega) rfl fun a h => ?_
  refine st_move h rfl rfl fun a h => ?_
  refine st_addN (p := gq * w1) (q := cy) h rfl rfl (by omega) rfl fun a h => ?_
  refine st_assign h rfl rfl fun a h => ?_
  refine wpList_nil ?_
  refine seq_ (reg_ ?_)
  refine st_move h rfl rfl fun a h => ?_
  refine st_shrN (p := (gq * w1) + cy) (m := 32) h rfl rfl (by omega) rfl fun a h => ?_
  refine st_assign h rfl rfl fun a h => ?_
  refine wpList_nil ?_
  refine seq_ (reg_ ?_)
  refine st_move h rfl rfl fun a h => ?_
  refine st_move h rfl rfl fun a h => ?_
  refine st_indexI (i) h rfl rfl Tryz.runUnderlying28 Tryz.sizeOf104 (rfl) (by omega) rfl fun a h => ?_
  refine st_load h rfl Tryz.isAgg104 (h.cellW hou) rfl fun a h => ?_
  refine st_to64 (p := u) h rfl (by omega) Tryz.runUnderlying104 Tryz.runUnderlying101 rfl fun a h => ?_
  refine st_move h rfl rfl fun a h => ?_
  refine st_to32 (p := (gq * w1) + cy) h rfl Tryz.runUnderlying101 Tryz.runUnderlying104 rfl fun a h => ?_
  refine st_to64 (p := ((gq * w1) + cy) % 4294967296) h rfl (by omega) Tryz.runUnderlying104 Tryz.runUnderlying101 rfl fun a h => ?_
  refine st_subN (p := u) (q := ((gq * w1) + cy) % 4294967296) h rfl rfl (by omega) rfl fun a h => ?_
  refine st_move h rfl rfl fun a h => ?_
  refine st_subN (p := (u + 18446744073709551616 - (((gq * w1) + cy) % 4294967296)) % 18446744073709551616) (q := bw) h rfl rfl (by omega) rfl fun a h => ?_
  refine st_assign h rfl rfl fun a h => ?_
  refine wpList_nil ?_
  refine reg_ ?_
  refine st_move h rfl rfl fun a h => ?_
  refine st_move h rfl rfl fun a h => ?_
  refine st_move h rfl rfl fun a h => ?_
  refine st_to32 (p := ((u + 18446744073709551616 - (((gq * w1) + cy) % 4294967296)) % 18446744073709551616 + 18446744073709551616 - (bw)) % 18446744073709551616) h rfl Tryz.runUnderlying101 Tryz.runUnderlying104 rfl fun a h => ?_
  refine st_move h rfl rfl fun a h => ?_
  refine st_shrN (p := ((u + 18446744073709551616 - (((gq * w1) + cy) % 4294967296)) % 18446744073709551616 + 18446744073709551616 - (bw)) % 18446744073709551616) (m := 63) h rfl rfl (by omega) rfl fun a h => ?_
  refine st_indexI (i) h rfl rfl Tryz.runUnderlying28 Tryz.sizeOf104 (rfl) (by omega) rfl fun a h => ?_
  refine st_storeW (i := i) h rfl rfl Tryz.sizeOf104 (by omega) fun w h => ?_
  refine st_assign h rfl rfl fun a h => ?_
  refine wpList_nil ?_
  refine reg_ ?_
  refine st_addI h rfl rfl (by omega) rfl fun a h => ?_
  refine st_move h rfl rfl fun a h => ?_
  refine wpList_nil ?_
  refine ⟨_, ?_, i + 1, o.set i ((((u + 18446744073709551616 - (((gq * w1) + cy) % 4294967296)) % 18446744073709551616 + 18446744073709551616 - (bw)) % 18446744073709551616) % 4294967296), ((gq * w1) + cy) / 2 ^ 32, (((u + 18446744073709551616 - (((gq * w1) + cy) % 4294967296)) % 18446744073709551616 + 18446744073709551616 - (bw)) % 18446744073709551616) / 2 ^ 63, by omega, by rw [List.length_set]; omega, set_lt hp2 _ _ (Nat.mod_lt _ (by decide)), hstep.2, by omega, hstep.1, drop_next hp6, rfl, ((h.consL (t := 0) rfl (h.consL (t := 1) rfl (h.consL (t := 5) rfl (h.consL (t := 9) rfl (h.consL (t := 11) rfl (h.consL (t := 12) rfl (h.consL (t := 79) rfl (h.consL (t := 80) rfl (h.consL (t := 81) rfl h.nilL))))))))).noFacts.add (h.fact 0 rfl))⟩
  omega
 skip
 refine seq_ (reg_ ?_)
 refine st_cmp h rfl rfl rfl rfl fun a h => ?_
 refine wpList_nil ?_
 refine seq_ ?_
 refine cond_f h rfl (by simp; omega) ?_
 refine wp_exit ?_
 repeat refine then_exit ?_
 refine inBlock_exit ?_
 refine seq_ (reg_ ?_)
 refine st_move h rfl rfl fun a h => ?_
 refine st_move h rfl rfl fun a h => ?_
 have hie : i = n := by omega
 subst hie
 have hon := (drop_get hp6).trans D.xn
 rw [List.take_of_length_le (l := ly) (by omega)] at hp5
 have hbd := D.bnd
 refine st_indexI (i) h rfl rfl Tryz.runUnderlying28 Tryz.sizeOf104 (rfl) (by omega) rfl fun a h => ?_
 refine st_load h rfl Tryz.isAgg104 (h.cellW hon) rfl fun a h => ?_
 refine st_to64 (p := xn) h rfl (by omega) Tryz.runUnderlying104 Tryz.runUnderlying101 rfl fun a h => ?_
 refine st_move h rfl rfl fun a h => ?_
 refine st_subN (p := xn) (q := cy) h rfl rfl (by omega) rfl fun a h => ?_
 refine st_move h rfl rfl fun a h => ?_
 refine st_subN (p := (xn + 18446744073709551616 - (cy)) % 18446744073709551616) (q := bw) h rfl rfl (by omega) rfl fun a h => ?_
 refine st_assign h rfl rfl fun a h => ?_
 refine wpList_nil ?_
 refine seq_ (reg_ ?_)
 refine st_move h rfl rfl fun a h => ?_
 refine st_move h rfl rfl fun a h => ?_
 refine st_move h rfl rfl fun a h => ?_
 refine st_to32 (p := ((xn + 18446744073709551616 - (cy)) % 18446744073709551616 + 18446744073709551616 - (bw)) % 18446744073709551616) h rfl Tryz.runUnderlying101 Tryz.runUnderlying104 rfl fun a h => ?_
 refine st_indexI (i) h rfl rfl Tryz.runUnderlying28 Tryz.sizeOf104 (rfl) (by omega) rfl fun a h => ?_
 refine st_storeW (i := i) h rfl rfl Tryz.sizeOf104 (by omega) fun w h => ?_
 obtain ⟨oa, ho1⟩ : ∃ oa, oa = o.set i ((((xn + 18446744073709551616 - (cy)) % 18446744073709551616 + 18446744073709551616 - (bw)) % 18446744073709551616) % 4294967296) := ⟨_, rfl⟩
 rw [← ho1] at h
 have ho1l : oa.length = i + 1 := by rw [ho1, List.length_set]; exact hp1
 have ho1b : ∀ u ∈ oa, u < 4294967296 := by rw [ho1]; exact set_lt hp2 _ _ (Nat.mod_lt _ (by decide))
 obtain ⟨v1, hv1⟩ : ∃ y, oa[i]? = some y := ⟨_, List.getElem?_eq_getElem (by omega)⟩
 refine wpList_nil ?_
 refine seq_ (seq_ (reg_ ?_))
 refine st_move h rfl rfl fun a h => ?_
 refine st_shrN (p := ((xn + 18446744073709551616 - (cy)) % 18446744073709551616 + 18446744073709551616 - (bw)) % 18446744073709551616) (m := 63) h rfl rfl (by omega) rfl fun a h => ?_
 refine st_cmp h rfl rfl rfl rfl fun a h => ?_
 refine wpList_nil ?_
 refine cond_ h rfl (fun hb_if4 => ?_) (fun hb_if4 => ?_)
 ·try simp only [decide_eq_true_eq, decide_eq_false_iff_not, Bool.not_eq_true', Bool.not_eq_false'] at hb_if4
  have hf := D.fin0 hp1 hp4 hp3 hq0 hp5 rfl (by omega)
  refine seq_ (reg_ ?_)
  refine st_move h rfl rfl fun a h => ?_
  refine st_to32 (p := gq) h rfl Tryz.runUnderlying101 Tryz.runUnderlying104 rfl fun a h => ?_
  refine st_assign h rfl rfl fun a h => ?_
  refine wpList_nil ?_
  refine wp_ret ?_
  rw [← ho1] at hf
  repeat refine then_ret ?_
  refine ret1 Tryz.results99 h (resv_tmp h rfl) ?_
  exact ⟨_, rfl, _, h.wroteOut, _, rfl, by omega, ho1b, by rw [hf.1], hf.2⟩
 try simp only [decide_eq_true_eq, decide_eq_false_iff_not, Bool.not_eq_true', Bool.not_eq_false'] at hb_if4
 have hf := D.fin1 hp1 hp2 hp4 hp3 hq1 hp5 rfl (by omega)
 rw [← ho1] at hf
 refine wp_skip ?_
 refine seq_ (reg_ ?_)
 refine st_assign h rfl rfl fun a h => ?_
 refine wpList_nil ?_
 refine seq_ (seq_ (reg_ ?_))
 refine st_move h rfl rfl fun a h => ?_
 refine st_len h rfl Tryz.runUnderlying28 rfl fun a h => ?_
 refine st_move h rfl rfl fun a h => ?_
 refine wpList_nil ?_
 refine wp_block ?_
 refine loop_ (fun m a w' => ∃ j o2 bk, j ≤ i ∧ o2.length = i + 1 ∧ (∀ u ∈ o2, u < 4294967296) ∧ bk ≤ 1 ∧ val (o2.take j) + bk * 4294967296 ^ j = val (oa.take j) + val (ly.take j) ∧ o2.drop j = oa.drop j ∧ m = i - j ∧ St (fun b => b < W.heap.size ∧ b ≠ g) Ob W w' a 170 [(0, (.slice (some ⟨g, pre.length, none⟩) x.length cx)), (1, (.slice (some ⟨b1, o1, none⟩) i c)), (5, (.int .i64 (i : Int))), (9, (.int .u64 ((gq : Nat) : Int))), (18, (.int .u64 ((bk : Nat) : Int))), (132, (.slice (some ⟨b1, o1, none⟩) i c)), (133, (.int .i64 (i : Int))), (134, (.int .i64 (j : Int)))] [(Rel.row32).fact [.slice (some ⟨b1, o1, none⟩) i c] (ly)] [(g, 104, u32s (pre ++ o2 ++ post))]) (m := _) (⟨0, oa, 0, by omega, ho1l, ho1b, by omega, by simp [val], rfl, rfl, ((h.consL (t := 0) rfl (h.consL (t := 1) rfl (h.consL (t := 5) rfl (h.consL (t := 9) rfl (h.consL (t := 18) rfl (h.consL (t := 132) rfl (h.consL (t := 133) rfl (h.consL (t := 134) rfl h.nilL)))))))).noFacts.add (h.fact 0 rfl))⟩) ?_
 clear h
 rintro m a w ⟨j, o2, bk, hr0, hr1, hr2, hr3, hr4, hr5, hm, h⟩
 by_cases hlt3 : j < i
 ·obtain ⟨w1, hw1⟩ : ∃ y, ly[j]? = some y := ⟨_, List.getElem?_eq_getElem (by omega)⟩
  obtain ⟨u, hu⟩ : ∃ y, oa[j]? = some y := ⟨_, List.getElem?_eq_getElem (by omega)⟩
  have hw1b := row_lt (h.fact 0 rfl) _ (List.mem_of_getElem? hw1)
  have hub := ho1b _ (List.mem_of_getElem? hu)
  have hou := (drop_get hr5).trans hu
  have hstep := add_step (o := o2) (l := oa) (r := ly) (i := j) (s := u + w1 + bk) (cy := bk) (by omega) hu (.inl hw1) hr4 (by omega)
  rw [show (u + w1 + bk) / 4294967296 = (u + w1 + bk) / 2 ^ 32 from rfl] at hstep
  refine seq_ (reg_ ?_)
  refine st_cmp h rfl rfl rfl rfl fun a h => ?_
  refine wpList_nil ?_
  refine seq_ ?_
  refine cond_t h rfl (by simp; omega) ?_
  refine wp_skip ?_
  refine seq_ ?_
  refine wp_block ?_
  refine seq_ (reg_ ?_)
  refine st_move h rfl rfl fun a h => ?_
  refine st_indexI (j) h rfl rfl Tryz.runUnderlying28 Tryz.sizeOf104 (rfl) (by omega) rfl fun a h => ?_
  refine st_load h rfl Tryz.isAgg104 (row_cell (h.fact 0 rfl) hw1) rfl fun a h => ?_
  refine st_assign h rfl rfl fun a h => ?_
  refine st_assign h rfl rfl fun a h => ?_
  refine wpList_nil ?_
  refine seq_ (reg_ ?_)
  refine st_move h rfl rfl fun a h => ?_
  refine st_move h rfl rfl fun a h => ?_
  refine st_indexI (j) h rfl rfl Tryz.runUnderlying28 Tryz.sizeOf104 (rfl) (by omega) rfl fun a h => ?_
  refine st_load h rfl Tryz.isAgg104 (h.cellW hou) rfl fun a h => ?_
  refine st_to64 (p := u) h rfl (by omega) Tryz.runUnderlying104 Tryz.runUnderlying101 rfl fun a h => ?_
  refine st_move h rfl rfl fun a h => ?_
  refine st_to64 (p := w1) h rfl (by omega) Tryz.runUnderlying104 Tryz.runUnderlying101 rfl fun a h => ?_
  refine st_addN (p := u) (q := w1) h rfl rfl (by omega) rfl fun a h => ?_
  refine st_move h rfl rfl fun a h => ?_
  refine st_addN (p := u + w1) (q := bk) h rfl rfl (by omega) rfl fun a h => ?_
  refine st_assign h rfl rfl fun a h => ?_
  refine wpList_nil ?_
  refine reg_ ?_
  refine st_move h rfl rfl fun a h => ?_
  refine st_move h rfl rfl fun a h => ?_
  refine st_move h rfl rfl fun a h => ?_
  refine st_to32 (p := (u + w1) + bk) h rfl Tryz.runUnderlying101 Tryz.runUnderlying104 rfl fun a h => ?_
  refine st_move h rfl rfl fun a h => ?_
  refine st_shrN (p := (u + w1) + bk) (m := 32) h rfl rfl (by omega) rfl fun a h => ?_
  refine st_indexI (j) h rfl rfl Tryz.runUnderlying28 Tryz.sizeOf104 (rfl) (by omega) rfl fun a h => ?_
  refine st_storeW (i := j) h rfl rfl Tryz.sizeOf104 (by omega) fun w h => ?_
  refine st_assign h rfl rfl fun a h => ?_
  refine wpList_nil ?_
  refine reg_ ?_
  refine st_addI h rfl rfl (by omega) rfl fun a h => ?_
  refine st_move h rfl rfl fun a h => ?_
  refine wpList_nil ?_
  refine ⟨_, ?_, j + 1, o2.set j (((u + w1) + bk) % 4294967296), ((u + w1) + bk) / 2 ^ 32, by omega, by rw [List.length_set]; omega, set_lt hr2 _ _ (Nat.mod_lt _ (by decide)), by omega, hstep, drop_next hr5, rfl, ((h.consL (t := 0) rfl (h.consL (t := 1) rfl (h.consL (t := 5) rfl (h.consL (t := 9) rfl (h.consL (t := 18) rfl (h.consL (t := 132) rfl (h.consL (t := 133) rfl (h.consL (t := 134) rfl h.nilL)))))))).noFacts.add (h.fact 0 rfl))⟩
  omega
 skip
 refine seq_ (reg_ ?_)
 refine st_cmp h rfl rfl rfl rfl fun a h => ?_
 refine wpList_nil ?_
 refine seq_ ?_
 refine cond_f h rfl (by simp; omega) ?_
 refine wp_exit ?_
 repeat refine then_exit ?_
 refine inBlock_exit ?_
 refine seq_ (reg_ ?_)
 refine st_move h rfl rfl fun a h => ?_
 refine st_move h rfl rfl fun a h => ?_
 refine st_move h rfl rfl fun a h => ?_
 refine st_move h rfl rfl fun a h => ?_
 have hje : j = i := by omega
 subst hje
 have hon2 := (drop_get hr5).trans hv1
 rw [List.take_of_length_le (l := ly) (by omega)] at hr4
 refine st_indexI (j) h rfl rfl Tryz.runUnderlying28 Tryz.sizeOf104 (rfl) (by omega) rfl fun a h => ?_
 refine st_load h rfl Tryz.isAgg104 (h.cellW hon2) rfl fun a h => ?_
 refine st_move h rfl rfl fun a h => ?_
 refine st_to32 (p := bk) h rfl Tryz.runUnderlying101 Tryz.runUnderlying104 rfl fun a h => ?_
 refine st_add h rfl rfl rfl fun a h => ?_
 replace h := h.respell (u := .int .u32 (((v1 + bk) % 4294967296 : Nat) : Int)) (by congr 1; rw [← Int.natCast_add, wrapu32_of]; congr 1; omega)
 refine st_indexI (j) h rfl rfl Tryz.runUnderlying28 Tryz.sizeOf104 (rfl) (by omega) rfl fun a h => ?_
 refine st_storeW (i := j) h rfl rfl Tryz.sizeOf104 (by omega) fun w h => ?_
 refine wpList_nil ?_
 refine seq_ (reg_ ?_)
 refine st_move h rfl rfl fun a h => ?_
 refine st_to32 (p := gq) h rfl Tryz.runUnderlying101 Tryz.runUnderlying104 rfl fun a h => ?_
 refine st_sub h rfl rfl rfl fun a h => ?_
 replace h := h.respell (u := .int .u32 ((val x / val ly : Nat) : Int)) (congrArg _ (sub32 hf.1 D.qlt))
 refine st_assign h rfl rfl fun a h => ?_
 refine wpList_nil ?_
 refine wp_ret ?_
 repeat refine then_ret ?_
 refine ret1 Tryz.results99 h (resv_tmp h rfl) ?_
 exact ⟨_, rfl, _, h.wroteOut, _, rfl, by rw [List.length_set]; omega, set_lt hr2 _ _ (Nat.mod_lt _ (by decide)), rfl, D.fin2 ho1l ho1b hr1 hr2 hv1 hr3 hf.2 hr4⟩
set_option maxHeartbeats 1000000 in
theorem limb_DivMod (hO : ∀ b, Ob b → b < W.heap.size) {A : Option Addr} {n c x : Nat} {A' : Option Addr} {n' c' y : Nat} (hx0 : Rel.natA.at_ W Ob [.slice A n c] x) (hx1 : Rel.natA.at_ W Ob [.slice A' n' c'] y) (hsx : sz x ≤ 4294967296) (hsy : sz y ≤ 4294967296) (hy : 0 < y) :
  Calls Tryz.prog 65 #[.slice A n c, .slice A' n' c'] W (Ret W Ob (tup3 (Rel.natN.sliceF (x / y)) (Rel.natN.sliceF (x % y)) (eqF (.int .i64 0)))) := by
 refine enter (vs := [(.slice A n c), (.slice A' n' c')]) (Ob := Ob) (K := fun b => b < W.heap.size) (Fs := [(Rel.natA).fact [.slice A n c] (x), (Rel.natA).fact [(.slice A' n' c')] (y)]) Tryz.func65 rfl Tryz.ntmps65 rfl (fun _ h => h) hO (by simp only [List.mem_cons, List.not_mem_nil, or_false, forall_eq_or_imp, forall_eq, false_imp_iff, implies_true]; exact ⟨hx0, hx1⟩) fun a h => ?_
 refine seq_ (reg_ ?_)
 refine st_assign h rfl rfl fun a h => ?_
 refine st_assign h rfl rfl fun a h => ?_
 refine st_assign h rfl rfl fun a h => ?_
 refine wpList_nil ?_
 refine seq_ (reg_ ?_)
 refine st_move h rfl rfl fun a h => ?_
 refine st_call h Tryz.func67 rfl rfl rfl (limb_cut _ _ (fun b => h.owns_lt) (h.fact 0 rfl)) rfl fun r w a hg hF h => ?_
 obtain ⟨A1, n2, c3, e5, f4⟩ := hF
 subst e5
 have h := h.add (f := (Rel.natN).fact [(.slice A1 n2 c3)] (x)) f4
 refine st_move h rfl rfl fun a h => ?_
 refine st_call h Tryz.func67 rfl rfl rfl (limb_cut _ _ (fun b => h.owns_lt) (h.fact 2 rfl)) rfl fun r w a hg hF h => ?_
 obtain ⟨A6, n7, c8, e10, f9⟩ := hF
 subst e10
 have h := h.add (f := (Rel.natN).fact [(.slice A6 n7 c8)] (y)) f9
 refine st_assign h rfl rfl fun a h => ?_
 refine st_assign h rfl rfl fun a h => ?_
 refine wpList_nil ?_
 refine seq_ ?_
 refine wp_block ?_
 refine seq_ (reg_ ?_)
 refine st_move h rfl rfl fun a h => ?_
 refine st_len h rfl Tryz.runUnderlying28 rfl fun a h => ?_
 obtain ⟨l, hl1, hl2, hl3⟩ := h.fact 1 rfl
 have h := h.add (f := Rel.row32.fact [(.slice A1 n2 c3)] l) hl1
 obtain ⟨el, _, _⟩ := row_open hl1
 have hszl := nrm_len hl2
 rw [hl3] at hszl
 obtain ⟨r, hr1, hr2, hr3⟩ := h.fact 1 rfl
 have h := h.add (f := Rel.row32.fact [(.slice A6 n7 c8)] r) hr1
 obtain ⟨er, _, _⟩ := row_open hr1
 have hszr := nrm_len hr2
 rw [hr3] at hszr
 have h38 : (2 : Nat) ^ 38 = 274877906944 := by decide
 have h47 : (2 : Nat) ^ 47 = 140737488355328 := by decide
 have h63 : (2 : Nat) ^ 63 = 9223372036854775808 := by decide
 have hr0 : r.length = 0 ↔ y = 0 := by rw [← hr3, nrm_zero hr2]; exact List.length_eq_zero_iff
 refine st_cmp h rfl rfl rfl rfl fun a h => ?_
 refine st_assign h rfl rfl fun a h => ?_
 refine wpList_nil ?_
 refine cond_f h rfl (by simp; omega) ?_
 refine seq_ (reg_ ?_)
 refine st_move h rfl rfl fun a h => ?_
 refine st_len h rfl Tryz.runUnderlying28 rfl fun a h => ?_
 refine st_move h rfl rfl fun a h => ?_
 refine st_len h rfl Tryz.runUnderlying28 rfl fun a h => ?_
 refine st_cmp h rfl rfl rfl rfl fun a h => ?_
 refine st_assign h rfl rfl fun a h => ?_
 refine wpList_nil ?_
 refine cond_ h rfl (fun hb_if2 => ?_) (fun hb_if2 => ?_)
 ·try simp only [decide_eq_true_eq, decide_eq_false_iff_not, Bool.not_eq_true', Bool.not_eq_false'] at hb_if2
  have hlt := nrm_lt_of_len hl2 hr2 (by omega)
  rw [hl3, hr3] at hlt
  refine seq_ (reg_ ?_)
  refine st_move h rfl rfl fun a h => ?_
  refine st_call h Tryz.func40 rfl rfl rfl (limb_Norm _ _ (fun b => h.owns_lt) (natA_of_natN (h.fact 3 rfl)) (by omega)) rfl fun r w a hg hF h => ?_
  obtain ⟨A11, n12, c13, e15, f14⟩ := hF
  subst e15
  have h := h.add (f := (Rel.natN).fact [(.slice A11 n12 c13)] (x)) f14
  refine st_assign h rfl rfl fun a h => ?_
  refine st_assign h rfl rfl fun a h => ?_
  refine st_assign h rfl rfl fun a h => ?_
  refine wpList_nil ?_
  refine wp_ret ?_
  exact ret3 Tryz.results65 h (resv_tmp h rfl) (resv_tmp h rfl) (resv_tmp h rfl) ⟨_, rfl, h.grow0, _, _, _, rfl, ⟨_, _, _, rfl, by rw [Nat.div_eq_of_lt hlt]; exact natN_nil⟩, ⟨_, _, _, rfl, by rw [Nat.mod_eq_of_lt hlt]; exact h.out 0 rfl⟩, rfl⟩
 try simp only [decide_eq_true_eq, decide_eq_false_iff_not, Bool.not_eq_true', Bool.not_eq_false'] at hb_if2
 refine seq_ (reg_ ?_)
 refine st_move h rfl rfl fun a h => ?_
 refine st_len h rfl Tryz.runUnderlying28 rfl fun a h => ?_
 refine st_cmp h rfl rfl rfl rfl fun a h => ?_
 refine st_assign h rfl rfl fun a h => ?_
 refine wpList_nil ?_
 refine cond_ h rfl (fun hb_if3 => ?_) (fun hb_if3 => ?_)
 ·try simp only [decide_eq_true_eq, decide_eq_false_iff_not, Bool.not_eq_true', Bool.not_eq_false'] at hb_if3
  refine seq_ (reg_ ?_)
  refine st_move h rfl rfl fun a h => ?_
  refine st_move h rfl rfl fun a h => ?_
  obtain ⟨b1, o1, rfl, _, _, _⟩ := row_get (h.fact 0 rfl) (i := 0) (by omega)
  obtain ⟨y1, hy1⟩ : ∃ y, r[0]? = some y := ⟨_, List.getElem?_eq_getElem (by omega)⟩
  have hy1b := row_lt (h.fact 0 rfl) _ (List.mem_of_getElem? hy1)
  refine st_indexI (0) h rfl rfl Tryz.runUnderlying28 Tryz.sizeOf104 (by omega) (by omega) rfl fun a h => ?_
  have hyv : y = y1 := by rw [← hr3, val_top1 (l := r) (k := 0) (by omega) hy1]; simp [val]
  refine st_load h rfl Tryz.isAgg104 (row_cell (h.fact 0 rfl) hy1) rfl fun a h => ?_
  refine st_call h Tryz.func96 rfl rfl rfl (limb_one _ _ (fun b => h.owns_lt) (h.fact 1 rfl) (hl3) (by omega) (by omega) (hy1b)) rfl fun r w a hg hF h => ?_
  obtain ⟨y16, y17, e18, t19, t20⟩ := hF
  obtain ⟨A21, n22, c23, e25, f24⟩ := t19
  subst e25
  obtain rfl := t20
  subst e18
  have h := h.add (f := (Rel.natN).fact [(.slice A21 n22 c23)] (x / y1)) f24
  refine st_move h rfl rfl fun a h => ?_
  refine st_extract (vs := [(.slice A21 n22 c23), (.int .u32 ((x % y1 : Nat) : Int))]) h rfl rfl rfl fun a h => ?_
  refine st_extract (vs := [(.slice A21 n22 c23), (.int .u32 ((x % y1 : Nat) : Int))]) h rfl rfl rfl fun a h => ?_
  refine st_assign h rfl rfl fun a h => ?_
  refine st_assign h rfl rfl fun a h => ?_
  refine wpList_nil ?_
  refine seq_ (reg_ ?_)
  refine st_move h rfl rfl fun a h => ?_
  refine st_move h rfl rfl fun a h => ?_
  refine st_buildSlice h rfl (buildSlice_run (zs := [(.int .u32 0)]) Tryz.runUnderlying28 Tryz.sizeOf104 Tryz.zeroValue104 rfl rfl (by decide) (by decide) (by decide) rfl) rfl fun g26 w a h => ?_
  have hl1x : ∀ z ∈ [x % y1], z < 4294967296 := by intro z hz; simp at hz; subst hz; exact Nat.lt_of_lt_of_le (Nat.mod_lt _ (by omega)) (by omega)
  have hrow := own_row32 (r := [x % y1]) 1 h (fun i hi => by rcases i with _ | i <;> first | rfl | (simp at hi)) hl1x (show 1 < 2 ^ 47 by decide) (Nat.le_refl _) (by decide)
  replace h := h.publish
  have h := h.add (f := Rel.natA.fact [.slice (some ⟨g26, 0, none⟩) 1 1] (x % y1)) ⟨_, hrow, hl1x, by simp [val]⟩
  refine st_call h Tryz.func67 rfl rfl rfl (limb_cut _ _ (fun b => h.owns_lt) (h.fact 0 rfl)) rfl fun r w a hg hF h => ?_
  obtain ⟨A27, n28, c29, e31, f30⟩ := hF
  subst e31
  have h := h.add (f := (Rel.natN).fact [(.slice A27 n28 c29)] (x % y1)) f30
  refine st_assign h rfl rfl fun a h => ?_
  refine st_assign h rfl rfl fun a h => ?_
  refine st_assign h rfl rfl fun a h => ?_
  refine wpList_nil ?_
  refine wp_ret ?_
  exact ret3 Tryz.results65 h (resv_tmp h rfl) (resv_tmp h rfl) (resv_tmp h rfl) ⟨_, rfl, h.grow0, _, _, _, rfl, ⟨_, _, _, rfl, by rw [hyv]; exact h.out 2 rfl⟩, ⟨_, _, _, rfl, by rw [hyv]; exact h.out 0 rfl⟩, rfl⟩
 try simp only [decide_eq_true_eq, decide_eq_false_iff_not, Bool.not_eq_true', Bool.not_eq_false'] at hb_if3
 refine wp_skip ?_
 refine seq_ (reg_ ?_)
 refine st_move h rfl rfl fun a h => ?_
 refine st_move h rfl rfl fun a h => ?_
 refine st_len h rfl Tryz.runUnderlying28 rfl fun a h => ?_
 refine st_subI h rfl rfl (by omega) rfl fun a h => ?_
 obtain ⟨b1, o1, rfl, _, _, _⟩ := row_get (h.fact 0 rfl) (i := 0) (by omega)
 obtain ⟨y1, hy1⟩ : ∃ y, r[n7 - 1]? = some y := ⟨_, List.getElem?_eq_getElem (by omega)⟩
 have hy1b := row_lt (h.fact 0 rfl) _ (List.mem_of_getElem? hy1)
 refine st_indexI (n7 - 1) h rfl rfl Tryz.runUnderlying28 Tryz.sizeOf104 (by omega) (by omega) rfl fun a h => ?_
 have hy0 : 0 < y1 := by
  obtain ⟨z, hz, hz0⟩ := hr2.2 (by intro e; exact absurd (show r.length = 0 by rw [e]; rfl) (by omega))
  rw [← er, hy1] at hz; injection hz with hz; omega
 have hszt : sz y1 ≤ 32 := sz_le.2 (by omega)
 have hszp := sz_pos hy0
 have hszv := sz_val hr2 (y := y1) (by rw [← er]; exact hy1)
 rw [hr3] at hszv
 refine st_load h rfl Tryz.isAgg104 (row_cell (h.fact 0 rfl) hy1) rfl fun a h => ?_
 refine st_call h Tryz.func97 rfl rfl rfl (bits_Lead _ _ (fun b => h.owns_lt) (by omega)) rfl fun r w a hg hF h => ?_
 obtain rfl := hF
 refine st_assign h rfl rfl fun a h => ?_
 refine wpList_nil ?_
 refine seq_ (reg_ ?_)
 refine st_move h rfl rfl fun a h => ?_
 refine st_move h rfl rfl fun a h => ?_
 refine st_move h rfl rfl fun a h => ?_
 refine st_len h rfl Tryz.runUnderlying28 rfl fun a h => ?_
 refine st_addI h rfl rfl (by omega) rfl fun a h => ?_
 obtain ⟨s, hs⟩ : ∃ s, s = 32 - sz y1 := ⟨_, rfl⟩
 have hs31 : s ≤ 31 := by omega
 have e32 : (2 : Nat) ^ 32 = 4294967296 := by decide
 have hvx : x * 2 ^ s < 4294967296 ^ (n2 + 1) := by
  have h1 := val_lt l hl2.1
  rw [hl3, ← el] at h1
  rw [Nat.pow_succ]
  exact Nat.lt_of_lt_of_le (Nat.mul_lt_mul_of_pos_right h1 (show 0 < 2 ^ s from Nat.pow_pos (by decide))) (Nat.mul_le_mul_left _ (by rw [← e32]; exact Nat.pow_le_pow_right (by decide) (by omega)))
 have hvy : y * 2 ^ s < 4294967296 ^ n7 := by
  have h1 := lt_sz y
  rw [← e32, ← Nat.pow_mul]
  have h2 : y * 2 ^ s < 2 ^ sz y * 2 ^ s := Nat.mul_lt_mul_of_pos_right h1 (Nat.pow_pos (by decide))
  rw [← Nat.pow_add] at h2
  rw [show 32 * n7 = sz y + s from by omega]
  exact h2
 refine st_callNew (vs := [(.slice A1 n2 c3), .int .i64 (s : Int), .int .i64 ((n2 + 1 : Nat) : Int)]) h Tryz.func98 rfl rfl (by rw [hs]; rfl) (limb_wide _ _ (fun b => h.owns_lt) (natA_of_natN (h.fact 3 rfl)) (by omega) hs31 (by omega) hvx) rfl ?_
 rintro _ gX _ w a ⟨rfl, X, rfl, hXl, hXb, hXv⟩ h
 refine st_move h rfl rfl fun a h => ?_
 refine st_move h rfl rfl fun a h => ?_
 refine st_move h rfl rfl fun a h => ?_
 refine st_len h rfl Tryz.runUnderlying28 rfl fun a h => ?_
 refine st_callNew (vs := [(.slice (some ⟨b1, o1, none⟩) n7 c8), .int .i64 (s : Int), .int .i64 ((n7 : Nat) : Int)]) h Tryz.func98 rfl rfl (by rw [hs]; rfl) (limb_wide _ _ (fun b => h.owns_lt) (natA_of_natN (h.fact 2 rfl)) (by omega) hs31 (by omega) hvy) rfl ?_
 rintro _ gY _ w a ⟨rfl, Y, rfl, hYl, hYb, hYv⟩ h
 have hrowY := own_row32 (r := Y) n7 h (fun _ _ => rfl) hYb (by omega) (by omega) (by omega)
 rw [hYl] at hrowY
 replace h := h.publish
 have h := h.add (f := Rel.row32.fact [.slice (some ⟨gY, 0, none⟩) n7 n7] Y) hrowY
 refine st_assign h rfl rfl fun a h => ?_
 refine st_assign h rfl rfl fun a h => ?_
 refine wpList_nil ?_
 refine seq_ (reg_ ?_)
 refine st_move h rfl rfl fun a h => ?_
 refine st_len h rfl Tryz.runUnderlying28 rfl fun a h => ?_
 refine st_assign h rfl rfl fun a h => ?_
 refine wpList_nil ?_
 refine seq_ (reg_ ?_)
 refine st_move h rfl rfl fun a h => ?_
 refine st_len h rfl Tryz.runUnderlying28 rfl fun a h => ?_
 refine st_move h rfl rfl fun a h => ?_
 refine st_subI h rfl rfl (by omega) rfl fun a h => ?_
 refine st_addI h rfl rfl (by omega) rfl fun a h => ?_
 have hyB : 4294967296 ^ (n7 - 1) ≤ y := by
  rw [← hr3, val_top1 (l := r) (k := n7 - 1) (by omega) hy1]
  have := Nat.mul_le_mul_left (4294967296 ^ (n7 - 1)) hy0
  omega
 have hxB : x < 4294967296 ^ n2 := by have h1 := val_lt l hl2.1; rwa [hl3, ← el] at h1
 have hR := rest_start (la := n2) hXv hYv hXl hXb hYl hYb (by omega) hxB hyB (by omega)
 replace h := h.respell (u := .int .i64 ((n2 - n7 + 1 : Nat) : Int)) (congrArg _ (by omega))
 refine st_make (m := (n2 - n7 + 1)) (zs := [(.int .u32 0)]) h (rfl) (rfl) Tryz.runUnderlying28 Tryz.typeInfo104 rfl Tryz.sizeOf104 Tryz.zeroValue104 rfl rfl (by omega) rfl fun g32 w a h => ?_
 replace h := h.respellB (reps_u32s _)
 replace h := h.perm (List.Perm.swap _ _ _)
 refine st_assign h rfl rfl fun a h => ?_
 refine wpList_nil ?_
 refine seq_ (seq_ (reg_ ?_))
 refine st_move h rfl rfl fun a h => ?_
 refine st_len h rfl Tryz.runUnderlying28 rfl fun a h => ?_
 refine st_subI h rfl rfl (by omega) rfl fun a h => ?_
 refine st_assign h rfl rfl fun a h => ?_
 refine wpList_nil ?_
 refine wp_block ?_
 refine loop_ (fun m a w' => ∃ oq ox, oq.length = (n2 - n7 + 1) ∧ (∀ u ∈ oq, u < 4294967296) ∧ Rest ox Y n2 n7 m ∧ val (oq.drop m) * 4294967296 ^ m * val Y + val ox = val X ∧ True ∧ St (fun b => b < W.heap.size) Ob W w' a 98 [(4, (.slice (some ⟨g32, 0, none⟩) (n2 - n7 + 1) (n2 - n7 + 1))), (9, (.int .i64 ((32 - sz (y1) : Nat) : Int))), (10, (.slice (some ⟨gX, 0, none⟩) (n2 + 1) (n2 + 1))), (11, (.slice (some ⟨gY, 0, none⟩) n7 n7)), (12, (.int .i64 (n7 : Int))), (13, (.int .i64 ((m : Int) - 1)))] [(Rel.row32).fact [(.slice (some ⟨gY, 0, none⟩) n7 n7)] (Y)] [(gX, 104, u32s ox), (g32, 104, u32s oq)]) (m := (n2 - n7 + 1)) (⟨List.replicate (n2 - n7 + 1) 0, X, by simp, by simp, hR, by rw [List.drop_eq_nil_of_le (by simp)]; simp [val], trivial, ((h.consL (t := 4) rfl (h.consL (t := 9) rfl (h.consL (t := 10) rfl (h.consL (t := 11) rfl (h.consL (t := 12) rfl ((h.consL (t := 13) rfl h.nilL).respell (by congr 1 <;> omega))))))).noFacts.add (h.fact 0 rfl))⟩) ?_
 clear h
 rintro m a w ⟨oq, ox, hp0, hp1, hp2, hp3, hm, h⟩
 rcases m with _ | k
 ·skip
  refine seq_ (seq_ (reg_ ?_))
  refine st_move h rfl rfl fun a h => ?_
  refine st_cmp h rfl rfl rfl rfl fun a h => ?_
  refine wpList_nil ?_
  refine cond_f h rfl (by simp) ?_
  refine wp_exit ?_
  repeat refine then_exit ?_
  refine inBlock_exit ?_
  refine seq_ ?_
  have hfin := rest_end (x := x) (y := y) (s := s) (r := val ox) (q := oq) hy (by simpa [hXv, hYv] using hp3) (by have := hp2.lt; rw [hYv] at this; simpa using this)
  have hoxl := hp2.ol
  have hox := take_small (o := ox) (n := n7) (by omega) (Nat.lt_of_lt_of_le (show val ox < y * 2 ^ s by have := hp2.lt; rw [hYv] at this; simpa using this) (Nat.le_of_lt hvy))
  rw [hfin.2] at hox
  have hrX := own_row32 (r := ox.take n7) (n2 + 1) h (u32s_take_at ox n7) (fun u hu => hp2.ob u (List.mem_of_mem_take hu)) (by rw [List.length_take]; omega) (by rw [List.length_take]; omega) (by omega)
  rw [List.length_take, Nat.min_eq_left (by omega)] at hrX
  replace h := h.publish
  have h := h.add (f := Rel.natA.fact [.slice (some ⟨gX, 0, none⟩) n7 (n2 + 1)] (x % y * 2 ^ s)) ⟨_, hrX, fun u hu => hp2.ob u (List.mem_of_mem_take hu), hox⟩
  have hrq := own_row32 (r := oq) (n2 - n7 + 1) h (fun _ _ => rfl) hp1 (by omega) (by omega) (by omega)
  rw [hp0] at hrq
  replace h := h.publish
  have h := h.add (f := Rel.natA.fact [.slice (some ⟨g32, 0, none⟩) (n2 - n7 + 1) (n2 - n7 + 1)] (x / y)) ⟨_, hrq, hp1, hfin.1⟩
  have hszm : sz (x % y * 2 ^ s) ≤ 4294967400 := by
   have h1 := sz_mul (x % y) (2 ^ s)
   have h2 := sz_mono (Nat.le_of_lt (Nat.mod_lt x hy))
   have h3 : sz (2 ^ s) ≤ s + 1 := sz_le.2 (Nat.pow_lt_pow_right (by decide) (by omega))
   omega
  refine draw0_ mixed_ 6 [some 91, some 92, some 93, some 94, some 95, some 96] [[], [0], [], [], [2, 3], []] [(eqF (.slice (some ⟨g32, 0, none⟩) (n2 - n7 + 1) (n2 - n7 + 1))), (Rel.natN.sliceF (x / y)), (eqF (.slice (some ⟨gX, 0, none⟩) (n2 + 1) (n2 + 1))), (eqF (.int .i64 (n7 : Int))), (eqF (.slice (some ⟨gX, 0, none⟩) n7 (n2 + 1))), (eqF (.int .i64 ((32 - sz (y1) : Nat) : Int)))] rfl h rfl ⟨?_, ?_, ?_, ?_, ?_, ?_, trivial⟩ ?_
  ·intro dp hdp0 hdp dv Fx a w h
   refine st_move h rfl rfl fun a h => ?_
   refine wpList_nil ⟨rfl, ?_⟩
   exact ⟨_, h.drawEnd (F' := []) rfl rfl⟩
  ·intro dp hdp0 hdp dv Fx a w h
   have e38 : dv 0 = (.slice (some ⟨g32, 0, none⟩) (n2 - n7 + 1) (n2 - n7 + 1)) := h.fact 0 rfl
   replace h := (h.spellE (t := 91) e38 rfl h)
   refine st_call h Tryz.func67 rfl rfl rfl (limb_cut _ _ (fun b => h.owns_lt) (h.fact 1 rfl)) rfl fun r w a hg hF h => ?_
   obtain ⟨A39, n40, c41, e43, f42⟩ := hF
   subst e43
   have h := h.add (f := (Rel.natN).fact [(.slice A39 n40 c41)] (x / y)) f42
   refine wpList_nil ⟨rfl, ?_⟩
   exact ⟨_, h.drawEnd (F' := [_, _]) rfl ⟨_, _, _, rfl, h.fact 0 rfl⟩⟩
  ·intro dp hdp0 hdp dv Fx a w h
   refine st_move h rfl rfl fun a h => ?_
   refine wpList_nil ⟨rfl, ?_⟩
   exact ⟨_, h.drawEnd (F' := []) rfl rfl⟩
  ·intro dp hdp0 hdp dv Fx a w h
   refine st_move h rfl rfl fun a h => ?_
   refine wpList_nil ⟨rfl, ?_⟩
   exact ⟨_, h.drawEnd (F' := []) rfl rfl⟩
  ·intro dp hdp0 hdp dv Fx a w h
   have e44 : dv 2 = (.slice (some ⟨gX, 0, none⟩) (n2 + 1) (n2 + 1)) := h.fact 0 rfl
   have e45 : dv 3 = (.int .i64 (n7 : Int)) := h.fact 1 rfl
   replace h := (h.spellE (t := 94) e45 rfl (h.spellE (t := 93) e44 rfl h))
   refine st_cutHi (i := n7) h rfl rfl Tryz.runUnderlying28 Tryz.sizeOf104 (by omega) rfl fun a h => ?_
   replace h := h.respell (u := .slice (some ⟨gX, 0, none⟩) n7 (n2 + 1)) rfl
   refine wpList_nil ⟨rfl, ?_⟩
   exact ⟨_, h.drawEnd (F' := [_, _]) rfl rfl⟩
  ·intro dp hdp0 hdp dv Fx a w h
   refine st_move h rfl rfl fun a h => ?_
   refine wpList_nil ⟨rfl, ?_⟩
   exact ⟨_, h.drawEnd (F' := []) rfl rfl⟩
  intro dv a w h
  obtain ⟨A46, n47, c48, e50, f49⟩ := (h.fact 1 rfl)
  have e51 : dv 4 = (.slice (some ⟨gX, 0, none⟩) n7 (n2 + 1)) := h.fact 4 rfl
  have e52 : dv 5 = (.int .i64 ((32 - sz (y1) : Nat) : Int)) := h.fact 5 rfl
  have h2 := (h.spellE (t := 96) e52 rfl (h.spellE (t := 95) e51 rfl (h.spellE (t := 92) e50 rfl (h.consL (t := 76) rfl (h.consL (t := 13) rfl (h.consL (t := 12) rfl (h.consL (t := 11) rfl (h.consL (t := 10) rfl (h.consL (t := 9) rfl (h.consL (t := 4) rfl h.nilL))))))))))
  have h3 := h2.noFacts
  have h3 := h3.add (h2.fact 8 rfl)
  have h3 := h3.add (h2.fact 7 rfl)
  have h3 := h3.add (h2.fact 6 rfl)
  clear h2
  replace h := h3
  clear h3
  have h := h.add (f := (Rel.natN).fact [(.slice A46 n47 c48)] (x / y)) f49
  refine st_call h Tryz.func100 rfl rfl rfl (limb_Shr _ _ (fun b => h.owns_lt) (h.fact 2 rfl) (hszm) (by omega)) rfl fun r w a hg hF h => ?_
  obtain ⟨A53, n54, c55, e57, f56⟩ := hF
  subst e57
  have h := h.add (f := (Rel.natN).fact [(.slice A53 n54 c55)] ((x % y * 2 ^ s) / 2 ^ (32 - sz (y1)))) f56
  refine st_assign h rfl rfl fun a h => ?_
  refine st_assign h rfl rfl fun a h => ?_
  refine st_assign h rfl rfl fun a h => ?_
  refine wpList_nil ?_
  refine wp_ret ?_
  exact ret3 Tryz.results65 h (resv_tmp h rfl) (resv_tmp h rfl) (resv_tmp h rfl) ⟨_, rfl, h.grow0, _, _, _, rfl, ⟨_, _, _, rfl, h.out 1 rfl⟩, ⟨_, _, _, rfl, by have e := Nat.mul_div_cancel (x % y) (show 0 < 2 ^ s from Nat.pow_pos (by decide)); have o := h.out 0 rfl; rw [← hs, e] at o; exact o⟩, rfl⟩
 replace h := (h.spellE (t := 13) (c := .int .i64 ((k : Nat) : Int)) (by congr 1; omega) rfl h)
 have hR := hp2
 have hXq := hp3
 have hkm := hR.hm
 have hoxl := hR.ol
 refine seq_ (seq_ (reg_ ?_))
 refine st_move h rfl rfl fun a h => ?_
 refine st_cmp h rfl rfl rfl rfl fun a h => ?_
 refine wpList_nil ?_
 refine cond_t h rfl (by simp) ?_
 refine wp_skip ?_
 refine seq_ ?_
 refine wp_block ?_
 refine reg_ ?_
 refine st_move h rfl rfl fun a h => ?_
 refine st_move h rfl rfl fun a h => ?_
 refine st_move h rfl rfl fun a h => ?_
 refine st_move h rfl rfl fun a h => ?_
 refine st_move h rfl rfl fun a h => ?_
 refine st_move h rfl rfl fun a h => ?_
 refine st_addI h rfl rfl (by omega) rfl fun a h => ?_
 refine st_addI h rfl rfl (by omega) rfl fun a h => ?_
 refine st_cutLH (l := k) (r := k + n7 + 1) h rfl rfl rfl Tryz.runUnderlying28 Tryz.sizeOf104 (by omega) (by omega) (by omega) rfl fun a h => ?_
 replace h := h.respell (u := .slice (some ⟨gX, (ox.take k).length, none⟩) (win ox k n7).length (n2 + 1 - k)) (by rw [win_len (by omega), List.length_take, Nat.min_eq_left (by omega)]; congr 2 <;> (try congr 1) <;> omega)
 refine st_move h rfl rfl fun a h => ?_
 replace h := h.respellB (cs' := u32s (ox.take k ++ win ox k n7 ++ ox.drop (k + n7 + 1))) (by rw [win_split])
 obtain ⟨top, nx, xn, x1, x2, D⟩ := hR.dig
 refine st_callOwn h Tryz.func99 rfl rfl rfl (limb_digit _ _ (fun b => h.owns_lt0 b) h.own0 h.ownNot (h.factOwn 0 rfl) (by omega) D) rfl ?_
 rintro _ _ w a ⟨w', rfl, hwl, hwb, rfl, hwv⟩ h
 have hnx := hR.next hwl hwb hwv (by omega) hXq
 have hqd : val (win ox k n7) / val Y < 4294967296 := D.qlt
 refine st_indexI (k) h rfl rfl Tryz.runUnderlying28 Tryz.sizeOf104 (rfl) (by omega) rfl fun a h => ?_
 replace h := h.perm (List.Perm.swap _ _ _)
 refine st_storeU (i := k) h rfl rfl Tryz.sizeOf104 (by omega) fun w h => ?_
 replace h := h.perm (List.Perm.swap _ _ _)
 refine wpList_nil ?_
 refine reg_ ?_
 refine st_move h rfl rfl fun a h => ?_
 refine st_subI h rfl rfl (by omega) rfl fun a h => ?_
 refine st_assign h rfl rfl fun a h => ?_
 refine wpList_nil ?_
 refine ⟨k, ?_, oq.set k (val (win ox k n7) / val Y), ox.take k ++ w' ++ ox.drop (k + n7 + 1), by rw [List.length_set]; omega, set_lt hp1 _ _ hqd, hnx.1, hnx.2, trivial, ((h.consL (t := 4) rfl (h.consL (t := 9) rfl (h.consL (t := 10) rfl (h.consL (t := 11) rfl (h.consL (t := 12) rfl (h.consL (t := 13) rfl h.nilL)))))).noFacts.add (h.fact 0 rfl))⟩
 omega
end Orr
