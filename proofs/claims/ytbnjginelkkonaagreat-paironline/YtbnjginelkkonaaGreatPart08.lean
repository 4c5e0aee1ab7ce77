/- Roots, rising; the next time at which a sign turns. germ.Next: the next time at which a sign turns; the least of times. Signs just behind any time; who stands ahead, who wins. Certificates that hold just behind a time. Sorting by insertion, for any order: plain laws. What all structures share: a time, certificates and when each fails. What all structures share: walked. What all structures share, walked: new certificates, when each fails. Square factors, the odd part; how many roots, and where they lie at most. How many roots, where they lie at most, one by one. Roots one by one; when a polynomial's sign turns. Roots one by one: walked. A sorted row, and its certificates. When a polynomial's sign turns: walked. What all structures share, walked: looking when each fails, the next failure, going on. What all structures share, walked: from event to event. The sorted row: walked. Going from event to event, in plain: it ends; where it ends; what holds there. The sorted row: where neighbours keep their signs, the row stays. Plain. The closest pair: plain laws. The closest pair: where certificates keep their signs, it stays. Plain. However a way is cut, so many events. Plain. -/
import Derived.Test.YtbnjginelkkonaaGreatPart07
import Derived.Test.YtbnjginelkkonaaGreatPart05
import Derived.Test.YtbnjginelkkonaaGreatPart04
set_option linter.all false

namespace Orq
open Orr Go
theorem chF_ne : ∀ {k : Nat} {a b : List Int} {l : List (List Int)}, chF k a b = some l → ∀ p ∈ l, p.length ≠ 0
  | 0, _, _, _, h => by cases h
  | k + 1, a, b, l, h => by
    simp only [chF] at h
    split at h
    · injection h with h; subst h; exact fun p hp => by cases hp
    · rename_i h0
      obtain ⟨r, _, h⟩ := Option.bind_eq_some_iff.1 h
      obtain ⟨l', h1, h⟩ := Option.bind_eq_some_iff.1 h
      injection h with h; subst h
      intro p hp
      rcases List.mem_cons.1 hp with rfl | hp
      · exact h0
      · exact chF_ne h1 p hp
theorem Okp.pb {n s : Nat} {p : List Int} (h : Okp n s p) (hs : s ≤ 16777216) : Pb p := ⟨h.t, by have := h.l; have := h.z.1; omega, bd_mono h.b hs⟩
theorem chain_all {p : List Int} {q : List Int} {l : List (List Int)} (hp : Pb p) (h : chain p = some (q :: l)) (hq : q.length ≠ 0) : ∀ r ∈ q :: l, Trim r ∧ r.length ≠ 0 := by
  have h1 := (Orr.chain_ok hp h).2
  unfold chain at h
  obtain ⟨a, _, h⟩ := Option.bind_eq_some_iff.1 h
  split at h
  · cases h
  · obtain ⟨d, _, h⟩ := Option.bind_eq_some_iff.1 h
    obtain ⟨l', h3, h⟩ := Option.bind_eq_some_iff.1 h
    injection h with h
    injection h with e1 e2
    subst e1; subst e2
    intro r hr
    refine ⟨(h1 r hr).t, ?_⟩
    rcases List.mem_cons.1 hr with rfl | hr
    · exact hq
    · exact chF_ne h3 r hr
/-- roots in a piece, rising, with what lies between -/
inductive RI (q : List Int) (L : List (List Rat)) : Rat → List Tm → Rat → Prop
  | nil {lo hi : Rat} (h : lo ≤ hi) (hv : vv L lo = vv L hi) : RI q L lo [] hi
  | cons {lo hi : Rat} {t : Tm} {l : List Tm} (h : lo ≤ t.lo) (hv : vv L lo = vv L t.lo) (ht : Vt (cz q) L t.lo t.hi) (hp : t.p = q) (hl : RI q L t.hi l hi) : RI q L lo (t :: l) hi
theorem RI.app {q : List Int} {L : List (List Rat)} {lo m hi : Rat} {l l' : List Tm} (h : RI q L lo l m) (h' : RI q L m l' hi) : RI q L lo (l ++ l') hi := by
  induction h with
  | nil h hv =>
    cases h' with
    | nil h2 hv2 => exact .nil (by grind) (by omega)
    | cons h2 hv2 ht hp hl => exact .cons (by grind) (by omega) ht hp hl
  | cons h hv ht hp _ ih => exact .cons h hv ht hp (ih h')
theorem chq_gr {D M k : Nat} {m : Rat} (h : Gr D M k m) (hM : 0 < M) (hs : isz (D : Int) + isz (M : Int) + k ≤ 16777216) : chq m = some m := by
  have := gr_qs h hM hs
  unfold chq
  rw [if_pos ⟨this.1, this.2⟩]
theorem rcut_ok {q : List Int} {c : List (List Int)} (hS : Stm (cz q) (c.map cz)) (tq : Trim q) (nq : q.length ≤ 9) (hc1 : q.length < 2 → c = [q]) {D M : Nat} (hM : 0 < M) : ∀ (k j : Nat) (lo hi : Rat), lo < hi → Gr D M j lo → Gr D M j hi → isz (D : Int) + isz (M : Int) + (j + k) ≤ 16777216 → (hi - lo) * ((2 ^ (gapK q q + 1) : Nat) : Rat) ≤ ((2 ^ k : Nat) : Rat) →
    ∃ l, rcutF q c (k + 1) lo hi ((vv (c.map cz) lo : Int) - (vv (c.map cz) hi : Int)) = some l ∧ RI q (c.map cz) lo l hi ∧ ∀ t ∈ l, ∃ k', k' ≤ j + k ∧ Gr D M k' t.lo ∧ Gr D M k' t.hi := by
  intro k
  induction k with
  | zero =>
    intro j lo hi hl g1 g2 hs hK
    have hle := vv_le hS hl
    have h2 : vv (c.map cz) lo < vv (c.map cz) hi + 2 := by
      rcases Nat.lt_or_ge (vv (c.map cz) lo) (vv (c.map cz) hi + 2) with h | h
      · exact h
      · exfalso
        have lq : 2 ≤ q.length := by
          rcases Nat.lt_or_ge q.length 2 with e | e
          · have hvv : ∀ x, vv (c.map cz) x = vv (c.map cz) 0 := fun x => by
              rcases hS with ⟨c0, hc0, hcc, hl'⟩ | ⟨g', l', k', hk, hg, hsc, hl'⟩
              · rw [hl']; simp only [vv, tc, hcc]
              · rw [hc1 e] at hl'; cases hl'
            rw [hvv lo, hvv hi] at h; omega
          · exact e
        have := two_far hS tq nq lq hl h
        rw [Nat.pow_zero] at hK
        have h7 : ((1 : Nat) : Rat) = 1 := rfl
        rw [h7] at hK; grind
    simp only [rcutF]
    by_cases e0 : vv (c.map cz) lo = vv (c.map cz) hi
    · rw [if_pos (by omega)]
      exact ⟨[], rfl, .nil (Rat.le_of_lt hl) e0, fun t ht => by cases ht⟩
    · rw [if_neg (by omega), if_pos (by omega)]
      refine ⟨[⟨q, lo, hi⟩], rfl, .cons Rat.le_refl rfl ⟨hS, hl, by show vv _ lo = vv _ hi + 1; omega⟩ rfl (.nil Rat.le_refl rfl), fun t ht => ?_⟩
      rw [List.mem_singleton.1 ht]; exact ⟨j, by omega, g1, g2⟩
  | succ k ih =>
    intro j lo hi hl g1 g2 hs hK
    have hle := vv_le hS hl
    show ∃ l, (if (vv (c.map cz) lo : Int) - (vv (c.map cz) hi : Int) = 0 then some [] else if (vv (c.map cz) lo : Int) - (vv (c.map cz) hi : Int) = 1 then some [⟨q, lo, hi⟩] else (chq (mid lo hi)).bind fun m => (rcutF q c (k + 1) lo m (between c lo m)).bind fun l => (rcutF q c (k + 1) m hi ((vv (c.map cz) lo : Int) - (vv (c.map cz) hi : Int) - between c lo m)).bind fun r => some (l ++ r)) = some l ∧ _
    by_cases e0 : vv (c.map cz) lo = vv (c.map cz) hi
    · rw [if_pos (by omega)]
      exact ⟨[], rfl, .nil (Rat.le_of_lt hl) e0, fun t ht => by cases ht⟩
    by_cases e1 : vv (c.map cz) lo = vv (c.map cz) hi + 1
    · rw [if_neg (by omega), if_pos (by omega)]
      refine ⟨[⟨q, lo, hi⟩], rfl, .cons Rat.le_refl rfl ⟨hS, hl, e1⟩ rfl (.nil Rat.le_refl rfl), fun t ht => ?_⟩
      rw [List.mem_singleton.1 ht]; exact ⟨j, by omega, g1, g2⟩
    · rw [if_neg (by omega), if_neg (by omega)]
      obtain ⟨m, hm⟩ : ∃ m, m = (lo + hi) / 2 := ⟨_, rfl⟩
      have h2 : (lo + hi) / 2 * 2 = lo + hi := div_mul (by decide)
      rw [← hm] at h2
      have gm : Gr D M (j + 1) m := by rw [hm]; exact gr_mid g1 g2
      have l1 : lo < m := by grind
      have l2 : m < hi := by grind
      rw [mid_eq, ← hm, chq_gr gm hM (by omega)]
      show ∃ l, ((rcutF q c (k + 1) lo m (between c lo m)).bind fun l => (rcutF q c (k + 1) m hi ((vv (c.map cz) lo : Int) - (vv (c.map cz) hi : Int) - between c lo m)).bind fun r => some (l ++ r)) = some l ∧ _
      rw [between_eq (Rat.le_of_lt l1), show (vv (c.map cz) lo : Int) - (vv (c.map cz) hi : Int) - ((vv (c.map cz) lo : Int) - (vv (c.map cz) m : Int)) = (vv (c.map cz) m : Int) - (vv (c.map cz) hi : Int) by omega]
      rw [pow2R k] at hK
      have hp : ∀ x y : Rat, (y - x) * 2 = hi - lo → (y - x) * ((2 ^ (gapK q q + 1) : Nat) : Rat) ≤ ((2 ^ k : Nat) : Rat) := fun x y h => by
        have : (y - x) * ((2 ^ (gapK q q + 1) : Nat) : Rat) * 2 = (hi - lo) * ((2 ^ (gapK q q + 1) : Nat) : Rat) := by rw [← h]; grind
        grind
      obtain ⟨la, a1, a2, a3⟩ := ih (j + 1) lo m l1 (gr_up g1) gm (by omega) (hp lo m (by grind))
      obtain ⟨lb, b1, b2, b3⟩ := ih (j + 1) m hi l2 gm (gr_up g2) (by omega) (hp m hi (by grind))
      rw [a1]
      show ∃ l, ((rcutF q c (k + 1) m hi ((vv (c.map cz) m : Int) - (vv (c.map cz) hi : Int))).bind fun r => some (la ++ r)) = some l ∧ _
      rw [b1]
      refine ⟨la ++ lb, rfl, a2.app b2, fun t ht => ?_⟩
      rcases List.mem_append.1 ht with ht | ht
      · obtain ⟨k', h1, h2, h3⟩ := a3 t ht; exact ⟨k', by omega, h2, h3⟩
      · obtain ⟨k', h1, h2, h3⟩ := b3 t ht; exact ⟨k', by omega, h2, h3⟩
theorem gr_neg {D M k : Nat} {q : Rat} (h : Gr D M k q) : Gr D M k (-q) := by
  obtain ⟨u, hu⟩ := h.u
  exact ⟨⟨-u, by rw [Rat.intCast_neg, ← hu]; grind⟩, by rw [qab_neg]; exact h.b, h.d⟩
theorem isz_succ {m s : Nat} (h : m < 2 ^ s) : isz ((m + 1 : Nat) : Int) ≤ s + 1 := by
  rw [isz_le, Int.natAbs_natCast, Nat.pow_succ]; omega
theorem isz_succ' {z : Int} {s : Nat} (h : isz z ≤ s) : isz ((z.natAbs + 1 : Nat) : Int) ≤ s + 1 := isz_succ (isz_le.1 h)
theorem span_le {x : Rat} {m s g N : Nat} (hx : x ≤ 2 * ((m + 1 : Nat) : Rat)) (hm : m + 1 ≤ 2 ^ s) (hN : s + 1 + g ≤ N) : x * ((2 ^ g : Nat) : Rat) ≤ ((2 ^ N : Nat) : Rat) := by
  have h3 := Rat.natCast_le_natCast.2 hm
  have e := pow2R s
  have h4 : (0 : Rat) ≤ ((2 ^ s : Nat) : Rat) := Rat.natCast_nonneg
  have h1 : x ≤ ((2 ^ (s + 1) : Nat) : Rat) := by rw [e]; grind
  have h5 : (0 : Rat) ≤ ((2 ^ g : Nat) : Rat) := Rat.natCast_nonneg
  refine Rat.le_trans (Rat.mul_le_mul_of_nonneg_right h1 h5) ?_
  have h6 : 2 ^ (s + 1) * 2 ^ g ≤ 2 ^ N := by
    rw [← Nat.pow_add]; exact Nat.pow_le_pow_right (by decide) hN
  have := Rat.natCast_le_natCast.2 h6
  rw [Rat.natCast_mul] at this
  exact this
theorem bd_most {s : Nat} {l : List Int} (h : Bd s l) : most l < 2 ^ s := by
  have key : ∀ (l : List Int) (m : Nat), m < 2 ^ s → Bd s l → l.foldl (fun m z => if m < z.natAbs then z.natAbs else m) m < 2 ^ s := by
    intro l
    induction l with
    | nil => exact fun m h _ => h
    | cons y l ih =>
      intro m hm hb
      simp only [List.foldl_cons]
      refine ih _ ?_ fun z hz => hb z (List.mem_cons_of_mem _ hz)
      have := hb y (List.mem_cons_self ..)
      rw [isz_le] at this
      split <;> assumption
  exact key l 0 (Nat.pow_pos (by decide)) h
/-- all roots of p, as the code finds them: those of its part without multiple roots -/
theorem roots_ok {p : List Int} (h : Okp 9 900 p) : ∃ q c l, psquare p = some q ∧ chain p = some c ∧ roots p = some l ∧ Stm (cz q) (c.map cz) ∧ RI q (c.map cz) (-bound q) l (bound q) ∧ (∀ t ∈ l, Va t) ∧ (∀ x y, x < y → bound q ≤ x ∨ y ≤ -bound q → vv (c.map cz) x = vv (c.map cz) y) := by
  obtain ⟨pp, hpl, hpb⟩ := h.pr
  obtain ⟨g, q', hq', sq⟩ := square_ok h
  obtain ⟨q, l, q1, q2, hS, hl0⟩ := chain_ok h
  rw [hq'] at q1
  injection q1 with q1
  subst q1
  have e1 : ∀ t, pev (prime p) t = pev q' t * pev g t := fun t => by rw [sq.e]; grind
  obtain ⟨p1, p2⟩ := pos_of_mul pp.t pp.n e1
  have hll := len_mul sq.pq.t sq.pg.t pp.t e1 p1 p2
  have hl9 := h.l
  have bq : Bd 969 q' := fac_bd hpb (by omega) pp.t sq.pq.t sq.pg.t pp.n e1
  have hall := chain_all (h.pb (by omega)) q2 sq.pq.n
  have hld : lead q' ≠ 0 := by have := sq.pq.l; omega
  have hb1 := bound_pos hld
  -- the bound's size
  obtain ⟨D, hD⟩ : ∃ D, D = (lead q').natAbs := ⟨_, rfl⟩
  obtain ⟨m, hm⟩ : ∃ m, m = most (q'.take (q'.length - 1)) := ⟨_, rfl⟩
  have hm2 : m < 2 ^ 969 := by rw [hm]; exact bd_most (s := 969) fun z hz => bq z (List.mem_of_mem_take hz)
  have hD0 : 0 < D := by omega
  have hDs : isz (D : Int) ≤ 969 := by
    have := isz_lead bq
    rw [isz_le] at this ⊢
    rw [Int.natAbs_natCast, hD]; exact this
  have hbe := bound_eq hld
  rw [← hD, ← hm] at hbe
  have hDq := nat_pos hD0
  have hbm : bound q' ≤ ((m + 1 : Nat) : Rat) := by
    have hD1 : (1 : Rat) ≤ (D : Rat) := by
      have : ((1 : Nat) : Rat) ≤ (D : Rat) := Rat.natCast_le_natCast.2 hD0
      exact this
    have hm0 : (0 : Rat) ≤ (m : Rat) := Rat.natCast_nonneg
    have h3 := mul_mo (a := (m : Rat)) (c := 1) hm0 Rat.le_refl (by decide) hD1
    rcases le_or (bound q') ((m + 1 : Nat) : Rat) with h' | h'
    · exact h'
    · exfalso
      have := Rat.mul_lt_mul_of_pos_right h' hDq
      push_cast at this; grind
  have gb : Gr D (m + 1) 0 (bound q') := by
    refine ⟨⟨(D + m : Nat), ?_⟩, ?_, hD0⟩
    · rw [Nat.pow_zero, Nat.mul_one, hbe]
      rw [show ((((D + m : Nat) : Int)) : Rat) = ((D + m : Nat) : Rat) from rfl]; push_cast; rfl
    · have : qab (bound q') = bound q' := by unfold qab; rw [if_neg (by grind)]
      rw [this]; exact hbm
  have hMs : isz ((m + 1 : Nat) : Int) ≤ 970 := isz_succ (s := 969) hm2
  have hK : (bound q' - -bound q') * ((2 ^ (gapK q' q' + 1) : Nat) : Rat) ≤ ((2 ^ 99999 : Nat) : Rat) := by
    have hps := psize_bd' bq
    have hg : gapK q' q' ≤ 1964 * 31 := by
      unfold gapK
      exact Nat.mul_le_mul (by omega) (by omega)
    exact span_le (s := 969) (g := gapK q' q' + 1) (N := 99999) (by grind) hm2 (by omega)
  have hN : isz (D : Int) + isz ((m + 1 : Nat) : Int) + (0 + 99999) ≤ 16777216 := by omega
  obtain ⟨ls, r1, r2, r3⟩ := rcut_ok hS sq.pq.t (by omega) (fun h => by rw [hl0 h]) (Nat.succ_pos m) 99999 0 (-bound q') (bound q') (by grind) (gr_neg gb) gb hN hK
  have hchq : chq (bound q') = some (bound q') := chq_gr gb (Nat.succ_pos m) (by omega)
  refine ⟨q', q' :: l, ls, hq', q2, ?_, hS, r2, fun t ht => ?_, fun x y hxy hb => vv_out hS sq.pq.t sq.pq.n hxy hb (by grind)⟩
  · unfold roots
    rw [q2, hq']
    show (chq (bound q')).bind _ = _
    rw [hchq]
    show rcutF q' (q' :: l) 100000 (-bound q') (bound q') (rootsN (q' :: l)) = _
    rw [rootsN_ok hS hall]
    exact r1
  · obtain ⟨k', k1, k2, k3⟩ := r3 t ht
    have hmem : ∀ {lo hi : Rat} {ls : List Tm}, RI q' ((q' :: l).map cz) lo ls hi → t ∈ ls → Vt (cz q') ((q' :: l).map cz) t.lo t.hi ∧ t.p = q' := fun h => by
      induction h with
      | nil => intro ht; cases ht
      | cons h hv ht' hp hl ih =>
        intro ht
        rcases List.mem_cons.1 ht with rfl | ht
        · exact ⟨ht', hp⟩
        · exact ih ht
    obtain ⟨v1, v2⟩ := hmem r2 ht
    have lq2 : 2 ≤ q'.length := by
      rcases Nat.lt_or_ge q'.length 2 with e | e
      · exfalso
        have hvv : ∀ x, vv ((q' :: l).map cz) x = 0 := fun x => by
          rw [hl0 e, sq.pq.one e]
          have hv1 : ∀ x : Rat, ev (cz [1]) x = 1 := fun x => by rw [ev_cz, pev_one]
          simp only [List.map_cons, List.map_nil, vv, tc, hv1]
          have : sgnQ 1 = 1 := by decide
          rw [this]; decide
        have := v1.v
        rw [hvv, hvv] at this; omega
      · exact e
    refine ⟨.inr ⟨_, by rw [v2]; exact v1⟩, by rw [v2]; exact sq.pq.t, by rw [v2]; omega, by rw [v2]; exact lq2, by rw [v2]; exact bd_mono bq (by omega), D, m + 1, k', k2, k3, Nat.succ_pos m, by omega⟩
/-! ### the next time -/
/-- what lies between: just behind a, up to the root of t, signs turn as often as at lo -/
theorem between_root {q : List Int} {L : List (List Rat)} (hS : Stm (cz q) L) {c : Rat → Int} (hc : Cut c) {lo : Rat} (hH : ∀ z, c z = -1 → z ≤ lo → vv L z = vv L lo) {y0 : Rat} (hy : c y0 = -1) (hv : ∀ z, lo < z → z ≤ y0 → vv L z = vv L lo) : ∃ s, s ≠ 0 ∧ ∀ z, c z = -1 → z ≤ y0 → sgnQ (ev (cz q) z) = s := by
  have hall : ∀ z, c z = -1 → z ≤ y0 → vv L z = vv L lo := fun z h1 h2 => by
    rcases le_or z lo with e | e
    · exact hH z h1 e
    · exact hv z e h2
  have hne : ∀ z, c z = -1 → z ≤ y0 → sgnQ (ev (cz q) z) ≠ 0 := fun z h1 h2 => by
    obtain ⟨w, w1, w2⟩ := hc.dn z h1
    have := vv_sm' hS w1 (by rw [hall w w2 (by grind), hall z h1 h2])
    rw [this.s]; exact this.n
  refine ⟨sgnQ (ev (cz q) y0), hne y0 hy Rat.le_refl, fun z h1 h2 => ?_⟩
  rcases Classical.em (z = y0) with e | e
  · rw [e]
  · have := vv_sm' hS (x := z) (y := y0) (by grind) (by rw [hall z h1 h2, hall y0 hy Rat.le_refl])
    rw [this.s, low_ne (hne z h1 h2)]
/-- t is the first root behind a -/
structure Fst (o : List Int) (a t : Tm) : Prop where
  lt : TLt a t
  s : ∃ s, s ≠ 0 ∧ (∀ z, cmpR a z = -1 → cmpR t z = 1 → sgnQ (ev (cz o) z) = s) ∧ RS (cz o) (cmpR t) (-s)
/-- there is no root behind a -/
def Non (o : List Int) (a : Tm) : Prop := ∃ s, s ≠ 0 ∧ ∀ z, cmpR a z = -1 → sgnQ (ev (cz o) z) = s
theorem next_list {q : List Int} {L : List (List Rat)} (hS : Stm (cz q) L) {a : Tm} (ha : Va a) {lo hi : Rat} {l : List Tm} (hR : RI q L lo l hi) : (∀ t ∈ l, Va t) → (∀ z, hi < z → vv L z = vv L hi) → (∀ z, cmpR a z = -1 → z ≤ lo → vv L z = vv L lo) → ∃ r, nextF a l = some r ∧ match r with
    | none => Non q a
    | some t => t ∈ l ∧ Fst q a t := by
  have ca := ha.cut
  induction hR with
  | @nil lo hi h hv =>
    intro _ hhi hH
    refine ⟨none, rfl, ?_⟩
    obtain ⟨y1, hy1⟩ := ca.hi
    have hall : ∀ z, lo < z → vv L z = vv L lo := fun z hz => by
      rcases le_or z hi with e | e
      · have h1 := vv_le hS hz
        have h2 : vv L hi ≤ vv L z := by
          rcases Classical.em (z = hi) with e' | e'
          · rw [e']; exact Nat.le_refl _
          · exact vv_le hS (by grind)
        omega
      · rw [hhi z e, hv]
    obtain ⟨s, s0, hs⟩ := between_root hS ca hH hy1 fun z h1 _ => hall z h1
    refine ⟨s, s0, fun z hz => ?_⟩
    rcases le_or z y1 with e | e
    · exact hs z hz e
    · obtain ⟨s', s0', hs'⟩ := between_root hS ca hH hz fun z h1 _ => hall z h1
      rw [hs' z hz Rat.le_refl, ← hs' y1 hy1 (Rat.le_of_lt e), hs y1 hy1 Rat.le_refl]
  | @cons lo hi t l h hv ht hp hl ih =>
    intro hV hhi hH
    have hvt := hV t (List.mem_cons_self ..)
    have ct := hvt.cut
    have ht' := ht
    rw [← hp] at ht'
    have ect : ∀ z, cmpR t z = cq (cz t.p) t.lo t.hi z := cmpR_cq ht.l
    obtain ⟨c, c1, c2⟩ := cmpO_ok hvt ha
    show ∃ r, ((cmpO t a).bind fun c => if 0 < c then some (some t) else nextF a l) = some r ∧ _
    rw [c1]
    show ∃ r, (if 0 < c then some (some t) else nextF a l) = some r ∧ _
    have hlo1 : cmpR t t.lo = 1 := by rw [ect]; exact cq_lo Rat.le_refl
    have hlow : ∀ z, lo < z → cmpR t z = 1 → vv L z = vv L lo := fun z h1 h2 => by
      rcases le_or z t.lo with e | e
      · have a1 := vv_le hS h1
        have a2 : vv L t.lo ≤ vv L z := by
          rcases Classical.em (z = t.lo) with e' | e'
          · rw [e']; exact Nat.le_refl _
          · exact vv_le hS (by grind)
        omega
      · rw [ect] at h2
        have hz : z ≤ t.hi := by
          rcases le_or z t.hi with e' | e'
          · exact e'
          · rw [cq_hi ht.l e'] at h2; omega
        rw [ht'.eq_lo e hz h2, hv]
    by_cases hc : 0 < c
    · rw [if_pos hc]
      refine ⟨some t, rfl, List.mem_cons_self .., ?_⟩
      have hlt : TLt a t := by
        rcases c2 with ⟨e, _⟩ | ⟨e, _⟩ | ⟨_, h⟩
        · omega
        · omega
        · exact h
      refine ⟨hlt, ?_⟩
      obtain ⟨m, m1, m2⟩ := hlt
      obtain ⟨s, s0, hs⟩ := between_root hS ca hH m1 fun z h1 h2 => hlow z h1 (by
        rcases Classical.em (z = m) with e | e
        · rw [e]; exact m2
        · exact ct.mono' (q := z) (r := m) (by grind) (by omega))
      have hall : ∀ z, cmpR a z = -1 → cmpR t z = 1 → sgnQ (ev (cz q) z) = s := fun z h1 h2 => by
        rcases le_or z m with e | e
        · exact hs z h1 e
        · obtain ⟨s', s0', hs'⟩ := between_root hS ca hH h1 fun w w1 w2 => hlow w w1 (by
            rcases Classical.em (w = z) with e | e
            · rw [e]; exact h2
            · exact ct.mono' (q := w) (r := z) (by grind) (by omega))
          rw [hs' z h1 Rat.le_refl, ← hs' m m1 (Rat.le_of_lt e), hs m m1 Rat.le_refl]
      refine ⟨s, s0, hall, ?_⟩
      -- just behind t
      obtain ⟨w, w1, w2, w3⟩ := cut_lf ct m2 hlo1
      have hwa : cmpR a w = -1 := ca.mono m w w2 (by omega)
      have hsw := hall w hwa w1
      have hwh : w < t.hi := by
        rw [ect] at w1
        rcases le_or t.hi w with e | e
        · have := ht'.hi1
          rcases Classical.em (t.hi = w) with e' | e'
          · rw [← e'] at w1; exact absurd w1 this
          · rw [cq_hi ht.l (by grind)] at w1; omega
        · exact e
      have hww : vv L w = vv L t.lo := ht'.eq_lo w3 (Rat.le_of_lt hwh) (by rw [← ect]; exact w1)
      have hvv := ht.v
      have hone := vv_one hS hwh (by omega)
      have hlw : lowQ (cz q) w = s := by rw [low_ne (by rw [hsw]; exact s0), hsw]
      rw [hlw] at hone
      have hd : ∀ z, w < z → z ≤ t.hi → cmpR t z = -1 → sgnQ (ev (cz q) z) = -s := fun z z1 z2 z3 => by
        rw [ect] at z3
        have e1 := ht'.eq_hi (by grind) z2 (by omega)
        have e2 := vv_one hS z1 (by omega)
        rw [hlw] at e2
        have hz0 : sgnQ (ev (cz q) z) ≠ 0 := by
          rw [cq_in' (by grind) z2, hp] at z3
          intro h0
          rw [if_pos h0] at z3; omega
        rw [low_ne hz0] at e2; exact e2.2
      rcases ct.val t.hi with e | e | e
      · rw [ect] at e; exact absurd e ht'.hi1
      · obtain ⟨d, dp, hd'⟩ := just (p := cz q) (x := t.hi) (by rw [hone.2]; omega)
        refine ⟨t.hi + d, ct.mono t.hi _ (by grind) (by omega), fun z h1 h2 => ?_⟩
        have hz : t.hi < z := by
          rcases le_or z t.hi with e' | e'
          · rcases Classical.em (z = t.hi) with e'' | e''
            · rw [e''] at h1; omega
            · have := ct.mono z t.hi (by grind) (by omega); omega
          · exact e'
        rw [hd' z hz (by grind), hone.2]
      · exact ⟨t.hi, e, fun z h1 h2 => hd z (ct.lt w1 h1) h2 h1⟩
    · rw [if_neg hc]
      have hle : ¬ TLt a t := fun h => by
        rcases c2 with ⟨e, h'⟩ | ⟨e, h'⟩ | ⟨e, _⟩
        · exact lt_irr ct ca h' h
        · obtain ⟨z, z1, z2⟩ := h
          have := h' z; omega
        · omega
      obtain ⟨r, r1, r2⟩ := ih (fun x hx => hV x (List.mem_cons_of_mem _ hx)) hhi fun z z1 z2 => by
        -- z lies behind a, so behind t
        have hz : cmpR t z ≠ 1 := fun h => hle ⟨z, z1, h⟩
        have hzl : t.lo < z := by
          rcases le_or z t.lo with e | e
          · refine absurd ?_ hz
            rw [ect]; exact cq_lo e
          · exact e
        exact ht'.eq_hi hzl z2 (by rw [← ect]; exact hz)
      refine ⟨r, r1, ?_⟩
      cases r with
      | none => exact r2
      | some x => exact ⟨List.mem_cons_of_mem _ r2.1, r2.2⟩
end Orq

namespace Orq
open Orr Go
/-- each polynomial that is not 0 has a sign just behind each place -/
theorem rs_ex {c : Rat → Int} (hc : Cut c) : ∀ (n : Nat) (f : List Rat), HD f n → ∃ s, s ≠ 0 ∧ RS f c s
  | n, f, h => by
    rcases van_or hc f with hv | ⟨s, hs, hn⟩
    · cases n with
      | zero =>
        exfalso
        obtain ⟨q, hq, _⟩ := nr_ex hc (hv (qab (f.getD 0 0)) (qab_pos h.1))
        cases f with
        | nil => exact h.1 (by simp)
        | cons a l =>
          have := ev_getD0 (p := l) fun k => by have := h.2 (k + 1) (by omega); rwa [List.getD_cons_succ] at this
          simp only [ev, this, List.getD_cons_zero] at hq; grind
      | succ n =>
        have hd : HD (qder f) n := by
          have key : ∀ (f : List Rat) (k : Nat), (qder f).getD k 0 = ((k + 1 : Nat) : Rat) * f.getD (k + 1) 0 := by
            intro f
            induction f with
            | nil => intro k; simp only [qder, List.getD_nil]; grind
            | cons a f ih =>
              intro k
              simp only [qder]
              rw [getD_qadd, List.getD_cons_succ]
              cases k with
              | zero => rw [List.getD_cons_zero]; push_cast; grind
              | succ k => rw [List.getD_cons_succ, ih]; push_cast; grind
          refine ⟨fun h0 => ?_, fun k hk => by rw [key, h.2 (k + 1) (by omega)]; grind⟩
          rw [key] at h0
          rcases Rat.mul_eq_zero.1 h0 with h1 | h1
          · have := nat_pos (show 0 < n + 1 by omega); grind
          · exact h.1 h1
        obtain ⟨s, hs, h1⟩ := rs_ex hc n (qder f) hd
        exact ⟨s, hs, rs_der hc hv h1 hs⟩
    · exact ⟨s, hs, rs_nz hc hn⟩
theorem rs_mul {c : Rat → Int} (hc : Cut c) {f p q : List Rat} {s s' : Int} (hf : ∀ t, ev f t = ev p t * ev q t) (h : RS p c s) (h' : RS q c s') : RS f c (s * s') := by
  obtain ⟨y, h1, h2⟩ := h
  obtain ⟨y', h3, h4⟩ := h'
  refine ⟨if y ≤ y' then y else y', by split <;> assumption, fun z z1 z2 => ?_⟩
  rw [hf, sgnQ_mul, h2 z z1 (by clear h2 h4; grind), h4 z z1 (by clear h2 h4; grind)]
/-- a product with a square has the sign of the other factor, or its contrary -/
theorem rs_sq {c : Rat → Int} (hc : Cut c) {f o S : List Rat} {k : Rat} (hk : k ≠ 0) (hf : ∀ t, ev f t = k * (ev o t * (ev S t * ev S t))) (hnz : ¬ ∀ t, ev f t = 0) {s : Int} (h : RS o c s) : RS f c (sgnQ k * s) := by
  obtain ⟨n, _, hn⟩ : ∃ n, n < S.length ∧ HD S n := by
    rcases hd_ex S with h1 | h1
    · exact absurd (fun t => by rw [hf, h1]; grind) hnz
    · exact h1
  obtain ⟨s', hs', h'⟩ := rs_ex hc n S hn
  have h1 := rs_mul hc (f := qmul S S) (fun t => ev_qmul t _ _) h' h'
  have h2 := rs_mul hc (f := qmul o (qmul S S)) (fun t => ev_qmul t _ _) h h1
  have hsq : s' * s' = 1 := by
    obtain ⟨y, y1, y2⟩ := h'
    have := y2 y y1 Rat.le_refl
    rcases sgnQ_three (ev S y) with ⟨e, _⟩ | ⟨e, _⟩ | ⟨e, _⟩
    · rw [← this, e]; rfl
    · omega
    · rw [← this, e]; rfl
  rw [hsq, Int.mul_one] at h2
  obtain ⟨y, y1, y2⟩ := h2
  exact ⟨y, y1, fun z z1 z2 => by
    have := y2 z z1 z2
    rw [ev_qmul, ev_qmul] at this
    rw [hf, sgnQ_mul, this]⟩
/-- what is asked of a certificate's polynomial -/
structure Cp (p : List Int) : Prop where
  t : Trim p
  l : p.length ≤ 9
  b : Bd 800 p
theorem Cp.dp {p : List Int} (h : Cp p) : Dp p := ⟨h.t, h.l, bd_mono h.b (by omega)⟩
theorem Cp.ok {p : List Int} (h : Cp p) (h0 : p.length ≠ 0) : Okp 9 900 p := h.dp.ok h0
/-- a ≤ c -/
def Leq (a : Tm) (c : Rat → Int) : Prop := ∀ q, c q = -1 → cmpR a q = -1
/-- what Next tells -/
def NxtOk (p : List Int) (a : Tm) : Option Tm → Prop
  | none => p = [] ∨ ∃ s, s ≠ 0 ∧ ∀ c, Cut c → Leq a c → RS (cz p) c s
  | some t => p ≠ [] ∧ Va t ∧ TLt a t ∧ ∃ s, s ≠ 0 ∧ (∀ c, Cut c → Leq a c → (∃ m, c m = -1 ∧ cmpR t m = 1) → RS (cz p) c s) ∧ RS (cz p) (cmpR t) (-s)
theorem RI.len {q : List Int} {L : List (List Rat)} {lo hi : Rat} {l : List Tm} (h : RI q L lo l hi) : l.length + vv L hi ≤ vv L lo := by
  induction h with
  | nil h hv => simp; omega
  | cons h hv ht hp hl ih => have := ht.v; simp only [List.length_cons]; omega
theorem tc_len (x : Rat) : ∀ (L : List (List Rat)) (s : Int), tc x s L ≤ L.length
  | [], _ => Nat.le_refl _
  | f :: l, s => by
    have h1 := tc_len x l
    simp only [tc, List.length_cons]
    repeat' split
    all_goals (first | (have := h1 s; omega) | (have := h1 (sgnQ (ev f x)); omega))
theorem vv_len (L : List (List Rat)) (x : Rat) : vv L x ≤ L.length := tc_len x L 0
theorem turns_ok {p : List Int} (h : Cp p) : ∃ l, turnsP p = some l ∧ l.length ≤ 67 ∧ (∀ t ∈ l, Va t) ∧ ∀ a, Va a → ∃ r, nextF a l = some r ∧ NxtOk p a r ∧ ∀ t, r = some t → t ∈ l := by
  unfold turnsP
  by_cases h0 : p.length = 0
  · have e : p = [] := List.eq_nil_of_length_eq_zero h0
    subst e
    exact ⟨[], rfl, by decide, (fun t ht => by cases ht), fun a _ => ⟨none, rfl, .inl rfl, fun t ht => by cases ht⟩⟩
  · obtain ⟨qp, o, q1, o1, hpt⟩ := odd_ok (n := 9) (s := 800) (p := p) ⟨⟨by decide, by decide⟩, h.t, h0, h.l, h.b⟩
    obtain ⟨g, sq⟩ := hpt.sq
    obtain ⟨S, hS⟩ := hpt.os
    obtain ⟨p1, p2, p3, p4, p5, p6, p7⟩ := prime_ok h.t h0
    have hpl := h.l
    obtain ⟨hh, th, eh⟩ := hpt.oh
    have bo : Bd 869 o := fac_bd (p5 800 h.b) (by omega) p1 hpt.ot th (by omega) eh
    obtain ⟨lo1, lo2⟩ := pos_of_mul p1 (by omega) eh
    have hlen := len_mul hpt.ot th p1 eh lo1 lo2
    have oko : Okp 9 900 o := ⟨okp_szz, hpt.ot, by omega, by omega, bd_mono bo (by omega)⟩
    obtain ⟨q, c, l, r1, r2, r3, hSt, hRI, hVa, hout⟩ := roots_ok oko
    obtain ⟨g', q', s1, s2⟩ := square_ok oko
    rw [r1] at s1
    injection s1 with s1
    subst s1
    obtain ⟨_, _, _, _, _, o6, o7⟩ := prime_ok hpt.ot (by omega)
    -- o has no multiple roots
    have hg1 : g' = [1] := by
      refine s2.pg.one ?_
      obtain ⟨E, hE⟩ := hpt.oq
      have hE : ∀ t, pev qp t = pev o t * ev E t := fun t => by have := hE t; rwa [ev_cz, ev_cz] at this
      obtain ⟨z, hz⟩ := s2.d
      have hd1 : ∀ t, pev o t = pev g' t * (pfac o * pev q t) := fun t => by rw [o7, s2.e]; grind
      have hdo : ∀ t, dv (cz o) t = pev g' t * (pfac o * ev z t) := fun t => by
        have := dv_eq (p := cz o) (q := qsc (pfac o) (cz (prime o))) (fun t => by rw [ev_cz, ev_qsc, ev_cz, o7]) t
        rw [this, dv_qsc, hz]; grind
      obtain ⟨k, hk, hkk⟩ := sq.num (d := cz g') ⟨qmul (qsc (pfac o) (cz q)) E, fun t => by rw [ev_cz, ev_cz, hE, hd1, ev_qmul, ev_qsc, ev_cz]; grind⟩ ⟨qadd (qmul (qsc (pfac o) z) E) (qmul (qsc (pfac o) (cz q)) (qder E)), fun t => by
        have := dv_mul (f := cz qp) (w := cz o) (u := E) (fun t => by rw [ev_cz, ev_cz, hE]) t
        rw [ev_qder, this, hdo, ev_cz, ev_cz, hd1, ev_qadd, ev_qmul, ev_qmul, ev_qsc, ev_qsc, ev_qder, ev_cz]; grind⟩
      rcases Nat.lt_or_ge g'.length 2 with e | e
      · exact e
      · exfalso
        have h1 := (hd_cz s2.pg.t (by omega)).1
        have h2 := getD_ev (p := cz g') (q := [k]) (fun t => by rw [hkk]; simp only [ev]; grind) (g'.length - 1)
        rw [h2, List.getD_eq_getElem?_getD, List.getElem?_eq_none (by simp; omega)] at h1
        exact h1 rfl
    have hpq : ∀ t, ev (cz p) t = ((pfac p : Rat) * (pfac o : Rat)) * (ev (cz q) t * (ev S t * ev S t)) := fun t => by
      rw [ev_cz, ev_cz, p7, hS, o7, s2.e, hg1, pev_one]; grind
    have hk0 : (pfac p : Rat) * (pfac o : Rat) ≠ 0 := fun h => (Rat.mul_eq_zero.1 h).elim (int_ne p6) (int_ne o6)
    have hpz : ¬ ∀ t, ev (cz p) t = 0 := fun h' => cz_nz h.t (by omega) fun t => by rw [← ev_cz]; exact h' t
    obtain ⟨k, hk⟩ : ∃ k, k = sgnQ ((pfac p : Rat) * (pfac o : Rat)) := ⟨_, rfl⟩
    have hkn : k ≠ 0 := fun h => hk0 (sgnQ_zero.1 (by rw [← hk]; exact h))
    have ho : o.length ≠ 0 := by omega
    rw [o1]
    show ∃ l, (if o.length = 0 then some [] else roots o) = some l ∧ l.length ≤ 67 ∧ _
    rw [if_neg ho]
    have hb1 := bound_pos (lead_ne s2.pq.t s2.pq.n)
    have hll := hRI.len
    have hlv := vv_len (c.map cz) (-bound q)
    have hcl := (Orr.chain_ok (p := o) ⟨hpt.ot, by omega, bd_mono bo (by omega)⟩ r2).1
    rw [List.length_map] at hlv
    refine ⟨l, r3, by omega, hVa, fun a ha => ?_⟩
    obtain ⟨r, n1, n2⟩ := next_list hSt ha hRI hVa (fun z hz => (hout _ _ hz (.inl Rat.le_refl)).symm) fun z _ hz => by
      rcases Classical.em (z = -bound q) with e | e
      · rw [e]
      · exact hout z _ (by grind) (.inr Rat.le_refl)
    refine ⟨r, n1, ?_, fun t ht => by subst ht; exact n2.1⟩
    cases r with
    | none =>
      obtain ⟨s, hs, hz⟩ := n2
      refine .inr ⟨k * s, Int.mul_ne_zero hkn hs, fun c hc hac => ?_⟩
      obtain ⟨y, hy⟩ := hc.hi
      have h1 : RS (cz q) c s := ⟨y, hy, fun z z1 _ => hz z (hac z z1)⟩
      rw [hk]; exact rs_sq hc hk0 hpq hpz h1
    | some t =>
      obtain ⟨hm, hlt, s, hs, hz, hrs⟩ := n2
      refine ⟨fun e => h0 (by rw [e]; rfl), hVa t hm, hlt, k * s, Int.mul_ne_zero hkn hs, fun c hc hac ⟨m, m1, m2⟩ => ?_, ?_⟩
      · have h1 : RS (cz q) c s := ⟨m, m1, fun z z1 z2 => hz z (hac z z1) (by
          rcases Classical.em (z = m) with e | e
          · rw [e]; exact m2
          · exact (hVa t hm).cut.mono' (q := z) (r := m) (by grind) (by omega))⟩
        rw [hk]; exact rs_sq hc hk0 hpq hpz h1
      · have := rs_sq (hVa t hm).cut hk0 hpq hpz hrs
        rw [← hk] at this
        rw [show -(k * s) = k * -s by rw [Int.mul_neg]]; exact this
theorem nextO_ok {p : List Int} (h : Cp p) {a : Tm} (ha : Va a) : ∃ r, nextO p a = some r ∧ NxtOk p a r := by
  obtain ⟨l, l1, _, _, l3⟩ := turns_ok h
  obtain ⟨r, r1, r2, _⟩ := l3 a ha
  refine ⟨r, ?_, r2⟩
  unfold nextO
  rw [l1]; exact r1
/-! ### the least of all -/
theorem leastF_ok : ∀ (l : List Tm) (b : Tm), (∀ t ∈ b :: l, Va t) → ∃ m, leastF b l = some m ∧ m ∈ b :: l ∧ ∀ t ∈ b :: l, ¬ TLt t m
  | [], b, h => ⟨b, rfl, List.mem_cons_self .., fun t ht h' => by
    rw [List.mem_singleton.1 ht] at h'
    have hb := (h b (List.mem_cons_self ..)).cut
    exact lt_irr hb hb h' h'⟩
  | a :: l, b, h => by
    have ha := h a (by simp)
    have hb := h b (by simp)
    obtain ⟨c, c1, c2⟩ := cmpO_ok ha hb
    obtain ⟨m, m1, m2, m3⟩ := leastF_ok l (if c < 0 then a else b) fun t ht => by
      rcases List.mem_cons.1 ht with rfl | ht
      · split <;> assumption
      · exact h t (by simp [ht])
    refine ⟨m, by simp only [leastF]; rw [c1]; exact m1, ?_, fun t ht => ?_⟩
    · rcases List.mem_cons.1 m2 with e | e
      · rw [e]; split <;> simp
      · simp [e]
    · have hm : Va m := by
        rcases List.mem_cons.1 m2 with e | e
        · rw [e]; split <;> assumption
        · exact h m (by simp [e])
      have hfst := m3 _ (List.mem_cons_self ..)
      -- what is not less stays so
      have tr : ∀ x y : Tm, Va x → Va y → ¬ TLt x y → ¬ TLt y m → ¬ TLt x m := fun x y hx hy h1 h2 h3 => by
        rcases tri hy.cut hm.cut with h4 | h4 | h4
        · exact h2 h4
        · obtain ⟨q, q1, q2⟩ := h3
          exact h1 ⟨q, q1, by rw [h4]; exact q2⟩
        · obtain ⟨q, q1, q2⟩ := h3
          obtain ⟨r, r1, r2⟩ := h4
          have := hm.cut.lt q2 r1
          exact h1 ⟨q, q1, hy.cut.mono' this (by omega)⟩
      rcases List.mem_cons.1 ht with rfl | ht
      · by_cases hc : c < 0
        · rw [if_pos hc] at hfst
          refine tr _ a hb ha ?_ hfst
          rcases c2 with ⟨_, h'⟩ | ⟨e, _⟩ | ⟨e, _⟩
          · exact fun h'' => lt_irr ha.cut hb.cut h' h''
          · omega
          · omega
        · rw [if_neg hc] at hfst; exact hfst
      · rcases List.mem_cons.1 ht with rfl | ht
        · by_cases hc : c < 0
          · rw [if_pos hc] at hfst; exact hfst
          · rw [if_neg hc] at hfst
            refine tr _ b ha hb ?_ hfst
            rcases c2 with ⟨e, _⟩ | ⟨_, h'⟩ | ⟨_, h'⟩
            · omega
            · rintro ⟨q, q1, q2⟩
              have := h' q; omega
            · exact fun h'' => lt_irr ha.cut hb.cut h'' h'
        · exact m3 t (by simp [ht])
end Orq

namespace Orr
open Go Go.Proofs Orq
set_option maxRecDepth 10000
theorem Dp.pb {p : List Int} (h : Dp p) : Pb p := ⟨h.t, by have := h.l; omega, bd_mono h.b (by have := h.l; omega)⟩
theorem c_SgA {p : List Int} {a : Tm} (hp : Dp p) (ha : Va a) : Does Tryz.prog 181 [pr p, .agg (ta a)] [.one (.int .i64 (sgA a p))] := c_ASign (Dp.pb hp) ha.tb (sgA_ok hp ha).1
theorem c_At1 {p : List Int} {a : Tm} (hp : Dp p) (ha : Va a) : Does Tryz.prog 180 [pr p, .one (.sh (ta a))] [.one (.int .i64 (sgA a p))] := w tt Tryz.func180 rfl [.c [] (c_SgA hp ha)] rfl rfl trivial
theorem c_first {p : List Int} {fid : Nat} {l1 : List LV} {sgn : List Int → Int} (hp : Dp p) (h : ∀ p, Dp p → Does Tryz.prog fid [pr p, .one (.sh l1)] [.one (.int .i64 (sgn p))]) : Does Tryz.prog 179 [pr p, .one (.fn fid [] [.sh l1])] [.one (.int .i64 (gfirst sgn p.length p))] := by
  have hpb := Dp.pb hp
  refine fnD Tryz.func179 rfl ?_
  refine go tt [.c [] (c_PNormT hpb.t hpb.ln hpb.bd)] rfl trivial ?_
  refine lp (S := List Int) 0 (fun L1 s => (0, .v (pr s)) :: L1) (fun _ => []) (fun s => s.length) (fun s => Dp s ∧ gfirst sgn s.length s = gfirst sgn p.length p) p ⟨hp, rfl⟩ rfl (fun _ _ => rfl) rfl fun r ⟨j1, j4⟩ => ?_
  rw [← j4]
  have jb := Dp.pb j1
  by_cases h0 : r.length = 0
  · have e := gfirst_zero sgn h0
    rw [e]
    exact en tt [.f (by simp; exact List.eq_nil_of_length_eq_zero h0)] rfl rfl trivial
  · have hs := h r j1
    by_cases hz : sgn r = 0
    · have hlp := len_pder r
      refine go tt [.t (by simp; omega), .c [] hs, .f (by simpa using hz), .c [] (c_PDerive jb.ln jb.bd)] rfl trivial ?_
      exact rd (pder r) (by omega) ⟨j1.der, by rw [← gfirst_next sgn (by omega) hz]⟩ rfl
    · rw [gfirst_here sgn (by omega) hz]
      exact en tt [.t (by simp; omega), .c [] hs, .t (by simpa using hz)] rfl rfl trivial
/-- the sign just behind a time -/
abbrev gmA (a : Tm) (p : List Int) : Int := germ (sgA a) p
theorem c_gAt {p : List Int} {a : Tm} (hp : Dp p) (ha : Va a) : Does Tryz.prog 129 [pr p, .agg (ta a)] [.one (.int .i64 (gmA a p))] :=
  w tt Tryz.func129 rfl [.c [] (c_first (sgn := sgA a) hp fun _ h => c_At1 h ha)] rfl rfl trivial
/-- a small curve, as it counts -/
structure Sc (k : Crv) : Prop where
  n : Nml k
  c : Cs 90 3 k
theorem Sc.cb {k : Crv} (h : Sc k) : Cb k := h.c.mono (by omega) (by omega)
/-- a rational time is one -/
theorem va_q {q : Rat} (hq : Qs 900 q) : Va (tq q) := by
  have hd := q.den_nz
  refine ⟨.inl ⟨rfl, ?_⟩, trim_qa q, by show 2 ≤ 9; omega, by show 2 ≤ 2; omega, bd_qa (hq.mono (by omega)), q.den, q.num.natAbs + 1, 0, ?_, ?_, by omega, ?_⟩
  · have e : (q.num : Rat) = q * (q.den : Rat) := by
      have : (q.num : Rat) / (((q.den : Int)) : Rat) = q := by rw [div_divInt', Rat.num_divInt_den]
      have h2 : (q.num : Rat) / (q.den : Rat) * (q.den : Rat) = q.num := Rat.div_mul_cancel (by have := Orq.nat_pos q.den_pos; grind)
      rw [show (q.num : Rat) / (q.den : Rat) = q from this] at h2; exact h2.symm
    show pev [-q.num, (q.den : Int)] q = 0
    simp only [pev]
    rw [Rat.intCast_neg, e, show (((q.den : Int)) : Rat) = (q.den : Rat) from rfl]; grind
  all_goals first | (have h1 : isz (q.den : Int) ≤ 900 := hq.2
                     have h2 : isz ((q.num.natAbs + 1 : Nat) : Int) ≤ 901 := isz_succ' hq.1
                     omega) | skip
  all_goals
    refine ⟨⟨q.num, ?_⟩, ?_, q.den_pos⟩
    · rw [Nat.pow_zero, Nat.mul_one]
      have : (q.num : Rat) / (((q.den : Int)) : Rat) = q := by rw [div_divInt', Rat.num_divInt_den]
      have h2 : (q.num : Rat) / (q.den : Rat) * (q.den : Rat) = q.num := Rat.div_mul_cancel (by have := Orq.nat_pos q.den_pos; grind)
      rw [show (q.num : Rat) / (q.den : Rat) = q from this] at h2; exact h2
    · have h1 : qab q ≤ qab (q.num : Rat) := by
        have e : (q.num : Rat) = q * (q.den : Rat) := by
          have : (q.num : Rat) / (((q.den : Int)) : Rat) = q := by rw [div_divInt', Rat.num_divInt_den]
          have h2 : (q.num : Rat) / (q.den : Rat) * (q.den : Rat) = q.num := Rat.div_mul_cancel (by have := Orq.nat_pos q.den_pos; grind)
          rw [show (q.num : Rat) / (q.den : Rat) = q from this] at h2; exact h2.symm
        rw [e, qab_mul]
        have hd1 : (1 : Rat) ≤ (q.den : Rat) := by
          have : ((1 : Nat) : Rat) ≤ (q.den : Rat) := Rat.natCast_le_natCast.2 q.den_pos
          exact this
        have e2 : qab (q.den : Rat) = (q.den : Rat) := by unfold qab; rw [if_neg (by grind)]
        rw [e2]
        have := mul_mo (a := qab q) (c := 1) (qab_nn q) Rat.le_refl (by decide) hd1
        grind
      rw [natAbs_qab] at h1
      refine Rat.le_trans h1 (Rat.natCast_le_natCast.2 (by omega))
end Orr

namespace Orr
open Go Go.Proofs Orq
set_option maxRecDepth 10000
end Orr

namespace Orr
variable {α : Type}
end Orr

namespace Orr
open Go Orq
/-- a certificate, and when it fails, if one has asked -/
structure Wt where
  c : Ct
  known : Bool
  fails : Option Tm
def f0 : Option Tm → LV | none => .row [] | some t => pl t.p
def f1 : Option Tm → LV | none => .bool false | some t => sg t.lo.num
def f2 : Option Tm → LV | none => .row [] | some t => mg t.lo.num
def f3 : Option Tm → LV | none => .bool false | some t => sg (t.lo.den : Int)
def f4 : Option Tm → LV | none => .row [] | some t => mg (t.lo.den : Int)
def f5 : Option Tm → LV | none => .bool false | some t => sg t.hi.num
def f6 : Option Tm → LV | none => .row [] | some t => mg t.hi.num
def f7 : Option Tm → LV | none => .bool false | some t => sg (t.hi.den : Int)
def f8 : Option Tm → LV | none => .row [] | some t => mg (t.hi.den : Int)
abbrev fl (o : Option Tm) : List LV := [f0 o, f1 o, f2 o, f3 o, f4 o, f5 o, f6 o, f7 o, f8 o]
abbrev wl (w : Wt) : List LV := [.int .i64 w.c.kind, .int .i64 w.c.i0, .int .i64 w.c.i1, .int .i64 w.c.i2, .int .i64 w.c.i3, pl w.c.p, .int .i64 w.c.want, .bool w.known, .bool w.fails.isSome, f0 w.fails, f1 w.fails, f2 w.fails, f3 w.fails, f4 w.fails, f5 w.fails, f6 w.fails, f7 w.fails, f8 w.fails]
def wrow (l : List Wt) : List (List LV) := l.map fun w => wl w
theorem wrow_get {l : List Wt} {i : Nat} {w : Wt} (h : l[i]? = some w) : (wrow l)[i]? = some (wl w) := map_get h
theorem wrow_len (l : List Wt) : (wrow l).length = l.length := by simp [wrow]
structure Cr where
  now : Tm
  l : List Wt
  ev : Int
/-- a structure's leaves: its core, and what lies behind it -/
abbrev crl (c : Cr) (r0 r1 : List (List LV)) : List LV := .bool true :: pl c.now.p :: sg c.now.lo.num :: mg c.now.lo.num :: sg (c.now.lo.den : Int) :: mg (c.now.lo.den : Int) :: sg c.now.hi.num :: mg c.now.hi.num :: sg (c.now.hi.den : Int) :: mg (c.now.hi.den : Int) :: .row (wrow c.l) :: .int .i64 c.ev :: [.row r0, .row r1]
structure WtOk (w : Wt) : Prop where
  p : Cp w.c.p
  f : ∀ t, w.fails = some t → Va t
structure CrOk (c : Cr) : Prop where
  n : Va c.now
  l : ∀ w ∈ c.l, WtOk w
  k : c.l.length ≤ 1000
/-- the same name -/
def sameT (a b : Ct) : Bool := decide ([a.kind, a.i0, a.i1, a.i2, a.i3] = [b.kind, b.i0, b.i1, b.i2, b.i3])
def fresh (x : Ct) : Wt := ⟨x, false, none⟩
/-- what is known of a certificate that was there, at a later time -/
def keptF : List Wt → Ct → Tm → Option Wt
  | [], x, _ => some (fresh x)
  | w :: l, x, at_ => if sameT w.c x = true ∧ w.known = true ∧ w.c.p = x.p then
      match w.fails with
      | none => some ⟨x, true, none⟩
      | some t => (cmpO t at_).bind fun c => if 0 < c then some ⟨x, true, some t⟩ else keptF l x at_
    else keptF l x at_
def layF' (old : List Wt) (at_ : Tm) : List Ct → Option (List Wt)
  | [] => some []
  | x :: l => (keptF old x at_).bind fun w => (layF' old at_ l).bind fun r => some (w :: r)
end Orr

namespace Orr
open Go Go.Proofs Orq
set_option maxRecDepth 10000
theorem c_KNow {T : Nat} {c : Cr} {r0 r1 : List (List LV)} (hc : Va c.now) : DoesD Tryz.prog 134 [.one (.ow 0 0)] [.blk T (crl c r0 r1)] [.agg (ta c.now)] [.blk T (crl c r0 r1)] := by
  have cl := c_ALeast (b := c.now) (l := []) hc.tb (fun t ht => by cases ht) (by decide) rfl
  refine fnD Tryz.func134 rfl ?_
  exact ed tt [] [0] [.f rfl, .c [] cl] rfl trivial
theorem c_KCerts {T : Nat} {c : Cr} {r0 r1 : List (List LV)} (hc : CrOk c) : DoesD Tryz.prog 37 [.one (.ow 0 0)] [.blk T (crl c r0 r1)] [.one (.row (ctrow (sortC (c.l.map (·.c)))))] [.blk T (crl c r0 r1)] := by
  have hk := hc.k
  have hw := wrow_len c.l
  refine fnD Tryz.func37 rfl ?_
  refine go tt [.o 3 161 7] rfl trivial ?_
  refine lp (S := Nat) 2 (fun L1 i => (11, .v (.one (.int .i64 (i : Int)))) :: (3, .v (.one (.orow 1 7 none))) :: L1) (fun i => [.blk T (crl c r0 r1), .row false 161 7 (ctrow ((c.l.map (·.c)).take i))]) (fun i => c.l.length - i) (fun i => i ≤ c.l.length) 0 (Nat.zero_le _) rfl (fun _ _ => rfl) rfl fun i hi => ?_
  by_cases hlt : i < c.l.length
  · obtain ⟨x, hx⟩ : ∃ x, c.l[i]? = some x := ⟨_, List.getElem?_eq_getElem hlt⟩
    have hm : ∀ y ∈ [ofCt x.c], y.length = 7 := fun y hy => by rw [List.mem_singleton.1 hy]; rfl
    have hg : (c.l.map (·.c)).take (i + 1) = (c.l.map (·.c)).take i ++ [x.c] := by
      rw [List.take_succ, List.getElem?_map, hx]; rfl
    have hl : decide ((i : Int) < ((wrow c.l).length : Int)) = true := by simp [hw]; omega
    obtain ⟨xc, xk, xf⟩ := x
    cases xf <;> (refine go tt [.t hl, .x (wrow_get hx), .s (sz := 7) hm] rfl (by simp [AllP, ct_len]; omega) ?_; exact rd (i + 1) (by omega) hlt (by rw [hg]; simp [ctrow]; rfl))
  · obtain rfl : i = c.l.length := by omega
    have e : (c.l.map (·.c)).take c.l.length = c.l.map (·.c) := List.take_of_length_le (by simp)
    rw [e]
    have cs := c_Sort (l := c.l.map (·.c)) (fun x hx => by
      obtain ⟨w, hw, rfl⟩ := List.mem_map.1 hx
      exact Dp.pb (hc.l w hw).p.dp) (by simp; omega)
    exact ed tt [] [0] [.f (by simp [hw]), .c [] cs] rfl trivial
theorem c_Kept {T : Nat} {c : Cr} {r0 r1 : List (List LV)} {x : Ct} {at_ : Tm} {w : Wt} (hc : CrOk c) (hx : Cp x.p) (ha : Va at_) (h : keptF c.l x at_ = some w) : DoesD Tryz.prog 173 [.one (.ow 0 0), .agg (ofCt x), .agg (ta at_)] [.blk T (crl c r0 r1)] [.agg (wl w)] [.blk T (crl c r0 r1)] := by
  have hk := hc.k
  have hw := wrow_len c.l
  refine fnD Tryz.func173 rfl ?_
  refine go tt [] rfl trivial ?_
  refine lp (S := Nat) 4 (fun L1 i => (14, .v (.one (.int .i64 (i : Int)))) :: L1) (fun _ => [.blk T (crl c r0 r1), .blk 161 (ofCt x), .blk 67 (ta at_), .blk 164 [.int .i64 0, .int .i64 0, .int .i64 0, .int .i64 0, .int .i64 0, .nils, .int .i64 0, .bool false, .bool false, .nils, .bool false, .nils, .bool false, .nils, .bool false, .nils, .bool false, .nils]]) (fun i => c.l.length - i) (fun i => i ≤ c.l.length ∧ keptF (c.l.drop i) x at_ = some w) 0 ⟨Nat.zero_le _, h⟩ rfl (fun _ _ => rfl) rfl fun i ⟨hi, hf⟩ => ?_
  by_cases hlt : i < c.l.length
  · obtain ⟨v, hv⟩ : ∃ v, c.l[i]? = some v := ⟨_, List.getElem?_eq_getElem hlt⟩
    have hdr : c.l.drop i = v :: c.l.drop (i + 1) := by
      rw [List.drop_eq_getElem_cons hlt]; congr 1
      have := List.getElem?_eq_getElem hlt; rw [hv] at this; injection this with this; exact this.symm
    have hvo := hc.l v (List.mem_of_getElem? hv)
    rw [hdr] at hf
    simp only [keptF] at hf
    have hl : decide ((i : Int) < ((wrow c.l).length : Int)) = true := by simp [hw]; omega
    by_cases A : sameT v.c x = true
    · have A' : (!decide ([v.c.kind, v.c.i0, v.c.i1, v.c.i2, v.c.i3] = [x.kind, x.i0, x.i1, x.i2, x.i3])) = false := by
        unfold sameT at A; rw [A]; rfl
      by_cases B : v.known = true
      · have B' : (!v.known) = false := by rw [B]; rfl
        have cs := c_PSame (p := v.c.p) (q := x.p) (Dp.pb hvo.p.dp).ln (Dp.pb hx.dp).ln (Dp.pb hvo.p.dp).bd (Dp.pb hx.dp).bd
        rw [hvo.p.t, hx.t] at cs
        by_cases C : v.c.p = x.p
        · have C' : (!decide (v.c.p = x.p)) = false := by simp [C]
          rw [if_pos ⟨A, B, C⟩] at hf
          obtain ⟨vc, vk, vf⟩ := v
          cases vf with
          | none =>
            injection hf with hf; subst hf
            exact ed tt [] [0] [.t hl, .x (wrow_get hv), .g 24 false A', .g 29 false B', .c [] cs, .f C', .g 41 true rfl, .t rfl] rfl trivial
          | some t =>
            obtain ⟨r, r1', hf⟩ := Option.bind_eq_some_iff.1 hf
            have cc := c_ACmp (hvo.f t rfl).tb ha.tb r1'
            by_cases D : 0 < r
            · rw [if_pos D] at hf
              injection hf with hf; subst hf
              exact ed tt [] [0] [.t hl, .x (wrow_get hv), .g 24 false A', .g 29 false B', .c [] cs, .f C', .g 41 false rfl, .c [] cc, .t (by simpa using D)] rfl trivial
            · rw [if_neg D] at hf
              refine go tt [.t hl, .x (wrow_get hv), .g 24 false A', .g 29 false B', .c [] cs, .f C', .g 41 false rfl, .c [] cc, .f (by simpa using D)] rfl (by simp [AllP]; omega) ?_
              exact rd (i + 1) (by omega) ⟨hlt, hf⟩ rfl
        · rw [if_neg fun h => C h.2.2] at hf
          refine go tt [.t hl, .x (wrow_get hv), .g 24 false A', .g 29 false B', .c [] cs, .t (by simp [C])] rfl (by simp [AllP]; omega) ?_
          exact rd (i + 1) (by omega) ⟨hlt, hf⟩ rfl
      · rw [if_neg fun h => B h.2.1] at hf
        refine go tt [.t hl, .x (wrow_get hv), .g 24 false A', .g 29 true (by simpa using B), .t rfl] rfl (by simp [AllP]; omega) ?_
        exact rd (i + 1) (by omega) ⟨hlt, hf⟩ rfl
    · rw [if_neg fun h => A h.1] at hf
      refine go tt [.t hl, .x (wrow_get hv), .g 24 true (by rw [show decide ([v.c.kind, v.c.i0, v.c.i1, v.c.i2, v.c.i3] = [x.kind, x.i0, x.i1, x.i2, x.i3]) = false from Bool.eq_false_iff.2 A]; rfl), .g 29 true rfl, .t rfl] rfl (by simp [AllP]; omega) ?_
      exact rd (i + 1) (by omega) ⟨hlt, hf⟩ rfl
  · obtain rfl : i = c.l.length := by omega
    rw [List.drop_length] at hf
    simp only [keptF] at hf
    injection hf with hf; subst hf
    exact ed tt [] [0] [.f (by simp [hw])] rfl trivial
end Orr

namespace Orr
open Go Go.Proofs Orq
set_option maxRecDepth 10000
theorem layF_get {old : List Wt} {at_ : Tm} : ∀ {l : List Ct} {ws : List Wt}, layF' old at_ l = some ws → ws.length = l.length ∧ ∀ (i : Nat) (x : Ct), l[i]? = some x → ∃ w, keptF old x at_ = some w ∧ ws[i]? = some w
  | [], ws, h => by injection h with h; subst h; exact ⟨rfl, fun i x hx => by simp at hx⟩
  | y :: l, ws, h => by
    simp only [layF'] at h
    obtain ⟨w, hw, h⟩ := Option.bind_eq_some_iff.1 h
    obtain ⟨r, hr, h⟩ := Option.bind_eq_some_iff.1 h
    injection h with h; subst h
    obtain ⟨a, b⟩ := layF_get hr
    refine ⟨by simp [a], fun i x hx => ?_⟩
    cases i with
    | zero => injection hx with hx; subst hx; exact ⟨w, hw, rfl⟩
    | succ i => exact b i x (by simpa using hx)
theorem wrow_take {l : List Wt} {i : Nat} {w : Wt} (h : l[i]? = some w) : wrow (l.take (i + 1)) = wrow (l.take i) ++ [wl w] := by
  rw [List.take_succ, h]; simp [wrow]
theorem c_KLay1 {T : Nat} {c : Cr} {r0 r1 : List (List LV)} {at_ : Tm} {l : List Ct} {ws : List Wt} (hc : CrOk c) (ha : Va at_) (hl : ∀ x ∈ l, Cp x.p) (hn : l.length ≤ 1000) (h : layF' c.l at_ (sortC l) = some ws) : DoesD Tryz.prog 124 [.one (.ow 0 0), .agg (ta at_), .one (.bool true), .one (.row (ctrow l))] [.blk T (crl c r0 r1)] [] [.blk T (crl ⟨at_, ws, c.ev⟩ r0 r1)] := by
  have cs := c_Sort (l := l) (fun x hx => Dp.pb (hl x hx).dp) (by omega)
  have cl := c_ALeast (b := at_) (l := []) ha.tb (fun t ht => by cases ht) (by decide) rfl
  obtain ⟨h1, h2⟩ := layF_get h
  have hs : (sortC l).length = l.length := sortC_len l
  refine fnD Tryz.func124 rfl ?_
  refine go tt [.o 8 164 18, .c [] cs] rfl trivial ?_
  refine lp (S := Nat) 3 (fun L1 i => (15, .v (.one (.int .i64 (i : Int)))) :: (8, .v (.one (.orow 2 18 none))) :: L1) (fun i => [.blk T (crl c r0 r1), .blk 67 (ta at_), .row false 164 18 (wrow (ws.take i))]) (fun i => ws.length - i) (fun i => i ≤ ws.length) 0 (Nat.zero_le _) rfl (fun _ _ => rfl) rfl fun i hi => ?_
  by_cases hlt : i < ws.length
  · obtain ⟨x, hx⟩ : ∃ x, (sortC l)[i]? = some x := ⟨_, List.getElem?_eq_getElem (by omega)⟩
    obtain ⟨w, hw, hw'⟩ := h2 i x hx
    have hm : ∀ y ∈ [wl w], y.length = 18 := fun y hy => by rw [List.mem_singleton.1 hy]; rfl
    have hlt' : decide ((i : Int) < ((ctrow (sortC l)).length : Int)) = true := by simp [ctrow]; omega
    have ck := c_Kept (T := T) (r0 := r0) (r1 := r1) hc (hl x (sortC_mem (List.mem_of_getElem? hx))) ha hw
    have hg := wrow_take hw'
    obtain ⟨wc, wk, wf⟩ := w
    cases wf <;> (refine go tt [.t hlt', .x (ct_get hx), .t rfl, .c [0] ck, .s (sz := 18) hm] rfl (by simp [AllP, wrow_len]; omega) ?_; exact rd (i + 1) (by omega) hlt (by rw [hg]; rfl))
  · obtain rfl : i = ws.length := by omega
    rw [List.take_length]
    have hge : decide ((ws.length : Int) < ((ctrow (sortC l)).length : Int)) = false := by simp [ctrow]; omega
    exact ed tt [] [0] [.f hge, .p 2, .c [] cl] rfl trivial
/-- a structure that has not begun -/
abbrev crz (r0 r1 : LV) : List LV := [.bool false, .nils, .bool false, .nils, .bool false, .nils, .bool false, .nils, .bool false, .nils, .nils, .int .i64 0, r0, r1]
theorem c_KLay0 {T : Nat} {r0 r1 : List (List LV)} {at_ : Tm} {l : List Ct} (ha : Va at_) (hl : ∀ x ∈ l, Cp x.p) (hn : l.length ≤ 1000) : DoesD Tryz.prog 124 [.one (.ow 0 0), .agg (ta at_), .one (.bool false), .one (.row (ctrow l))] [.blk T (crz (.row r0) (.row r1))] [] [.blk T (crl ⟨at_, (sortC l).map fresh, 0⟩ r0 r1)] := by
  have cs := c_Sort (l := l) (fun x hx => Dp.pb (hl x hx).dp) (by omega)
  have cl := c_ALeast (b := at_) (l := []) ha.tb (fun t ht => by cases ht) (by decide) rfl
  have hs : (sortC l).length = l.length := sortC_len l
  refine fnD Tryz.func124 rfl ?_
  refine go tt [.o 8 164 18, .c [] cs] rfl trivial ?_
  refine lp (S := Nat) 3 (fun L1 i => (15, .v (.one (.int .i64 (i : Int)))) :: (8, .v (.one (.orow 2 18 none))) :: L1) (fun i => [.blk T (crz (.row r0) (.row r1)), .blk 67 (ta at_), .row false 164 18 (wrow (((sortC l).map fresh).take i))]) (fun i => l.length - i) (fun i => i ≤ l.length) 0 (Nat.zero_le _) rfl (fun _ _ => rfl) rfl fun i hi => ?_
  by_cases hlt : i < l.length
  · obtain ⟨x, hx⟩ : ∃ x, (sortC l)[i]? = some x := ⟨_, List.getElem?_eq_getElem (by omega)⟩
    have hm : ∀ y ∈ [wl (fresh x)], y.length = 18 := fun y hy => by rw [List.mem_singleton.1 hy]; rfl
    have hlt' : decide ((i : Int) < ((ctrow (sortC l)).length : Int)) = true := by simp [ctrow]; omega
    have hg := wrow_take (l := (sortC l).map fresh) (i := i) (w := fresh x) (by rw [List.getElem?_map, hx]; rfl)
    refine go tt [.t hlt', .x (ct_get hx), .z 20, .f rfl, .s (sz := 18) hm] rfl (by simp [AllP, wrow_len]; omega) ?_
    exact rd (i + 1) (by omega) hlt (by rw [hg]; rfl)
  · obtain rfl : i = l.length := by omega
    rw [List.take_of_length_le (by simp; omega)]
    have hge : decide ((l.length : Int) < ((ctrow (sortC l)).length : Int)) = false := by simp [ctrow]; omega
    exact ed tt [] [0] [.f hge, .p 2, .c [] cl] rfl trivial
theorem c_KBegin0 {T : Nat} {r0 r1 : List (List LV)} {at_ : Tm} {l : List Ct} (ha : Va at_) (hl : ∀ x ∈ l, Cp x.p) (hn : l.length ≤ 1000) : DoesD Tryz.prog 79 [.one (.ow 0 0), .agg (ta at_), .one (.row (ctrow l))] [.blk T (crz (.row r0) (.row r1))] [] [.blk T (crl ⟨at_, (sortC l).map fresh, 0⟩ r0 r1)] := by
  have cl := c_KLay0 (T := T) (r0 := r0) (r1 := r1) ha hl hn
  refine fnD Tryz.func79 rfl ?_
  exact ed tt [] [0] [.g 12 false rfl, .c [0] cl] rfl trivial
theorem eB {a b : Bool} (h : a = b) : TV.one (LV.bool a) = .one (.bool b) := h ▸ rfl
end Orr

namespace Orr
open Go Go.Proofs Orq
set_option maxRecDepth 10000
theorem layF_ok : ∀ {k : Nat} {g : List Int} {l : List (List Int)}, Pb g → layF k g = some l → l.length ≤ k ∧ ∀ p ∈ l, Pb p
  | 0, _, _, _, h => by cases h
  | k + 1, g, l, hg, h => by
    simp only [layF] at h
    split at h
    · injection h with h; subst h; exact ⟨by simp, fun p hp => by cases hp⟩
    · obtain ⟨d, hd, h⟩ := Option.bind_eq_some_iff.1 h
      obtain ⟨rfl, hdp⟩ := pb_der hd
      obtain ⟨x, hx, h⟩ := Option.bind_eq_some_iff.1 h
      obtain ⟨q, hq, h⟩ := Option.bind_eq_some_iff.1 h
      obtain ⟨r, hr, h⟩ := Option.bind_eq_some_iff.1 h
      injection h with h; subst h
      obtain ⟨i1, i2⟩ := layF_ok (pb_two hg hdp hx) hr
      refine ⟨by simp; exact i1, fun p hp => ?_⟩
      rcases List.mem_cons.1 hp with rfl | hp
      · exact pb_quo hq
      · exact i2 p hp
theorem c_layers {a : List Int} {l : List (List Int)} (ha : Pb a) (h : layF 66 (prime a) = some l) : Does Tryz.prog 334 [pr a] [.one (.row (plrow l))] := by
  have hp := pb_prime ha
  refine fnD Tryz.func334 rfl ?_
  refine go tt [.o 3 26 1, .c [] (c_prime ha)] rfl trivial ?_
  refine lp (S := Nat × List (List Int) × List Int) 1 (fun L1 s => (4, .v (pr s.2.2)) :: (3, .v (.one (.orow 0 1 none))) :: L1) (fun s => [.row false 26 1 (plrow s.2.1)]) (fun s => s.1) (fun s => Pb s.2.2 ∧ s.2.1.length + s.1 ≤ 66 ∧ ∃ m, layF s.1 s.2.2 = some m ∧ s.2.1 ++ m = l) (66, [], prime a) ⟨hp, Nat.le_refl _, l, h, rfl⟩ rfl (fun _ _ => rfl) rfl fun ⟨k, out, g⟩ ⟨j1, j2, m, j3, j4⟩ => ?_
  dsimp only at j1 j2 j3 j4 ⊢
  cases k with
  | zero => cases j3
  | succ k =>
    simp only [layF] at j3
    split at j3
    · rename_i h0
      injection j3 with j3; subst j3
      rw [List.append_nil] at j4
      subst j4
      exact en tt [.c [] (c_Deg _), .f (by simp; omega)] rfl rfl trivial
    · rename_i h0
      obtain ⟨d, hd, j3⟩ := Option.bind_eq_some_iff.1 j3
      obtain ⟨rfl, hdp⟩ := pb_der hd
      obtain ⟨x, hx, j3⟩ := Option.bind_eq_some_iff.1 j3
      obtain ⟨q, hq, j3⟩ := Option.bind_eq_some_iff.1 j3
      obtain ⟨r, hr, j3⟩ := Option.bind_eq_some_iff.1 j3
      injection j3 with j3; subst j3
      have hxp := pb_two j1 hdp hx
      refine go tt [.c [] (c_Deg _), .t (by simp; omega), .c [] (c_PDerive j1.ln j1.bd), .c [] (c_two j1 hdp hx), .c [] (c_quo j1 hxp hq), .s (sz := 1) (l := [[pl q]]) (fun c hc => by rw [List.mem_singleton.1 hc]; rfl)] rfl (by simp [AllP, plrow_len]; omega) ?_
      exact rd (k, out ++ [q], x) (by dsimp only; omega) ⟨hxp, by simp; omega, r, hr, by rw [← j4]; simp⟩ (by rw [plrow_snoc]; rfl)
theorem facL_get : ∀ {l r : List (List Int)}, facL l = some r → r.length = l.length ∧ ∀ i w, l[i]? = some w → match l[i + 1]? with
    | some v => ∃ f, pquo w v = some f ∧ r[i]? = some f
    | none => r[i]? = some w
  | [], r, h => by injection h with h; subst h; exact ⟨rfl, fun i w hw => by simp at hw⟩
  | [w], r, h => by
    injection h with h; subst h
    refine ⟨rfl, fun i x hx => ?_⟩
    cases i with
    | zero => simpa using hx
    | succ i => simp at hx
  | w :: v :: l, r, h => by
    simp only [facL] at h
    obtain ⟨f, hf, h⟩ := Option.bind_eq_some_iff.1 h
    obtain ⟨s, hs, h⟩ := Option.bind_eq_some_iff.1 h
    injection h with h; subst h
    obtain ⟨i1, i2⟩ := facL_get hs
    refine ⟨by simp [i1], fun i x hx => ?_⟩
    cases i with
    | zero =>
      injection hx with hx; subst hx
      exact ⟨f, hf, rfl⟩
    | succ i =>
      have := i2 i x (by simpa using hx)
      simpa using this
theorem facL_ok : ∀ {l r : List (List Int)}, (∀ p ∈ l, Pb p) → facL l = some r → ∀ p ∈ r, Pb p
  | [], r, _, h => by injection h with h; subst h; exact fun p hp => by cases hp
  | [w], r, hl, h => by injection h with h; subst h; exact hl
  | w :: v :: l, r, hl, h => by
    simp only [facL] at h
    obtain ⟨f, hf, h⟩ := Option.bind_eq_some_iff.1 h
    obtain ⟨s, hs, h⟩ := Option.bind_eq_some_iff.1 h
    injection h with h; subst h
    intro p hp
    rcases List.mem_cons.1 hp with rfl | hp
    · exact pb_quo hf
    · exact facL_ok (fun p hp => hl p (List.mem_cons_of_mem _ hp)) hs p hp
theorem c_Factors {a : List Int} {l r : List (List Int)} (ha : Pb a) (h : layF 66 (prime a) = some l) (hr : facL l = some r) : Does Tryz.prog 322 [pr a] [.one (.row (plrow r))] := by
  obtain ⟨i1, i2⟩ := layF_ok (pb_prime ha) h
  obtain ⟨j1, j2⟩ := facL_get hr
  have hw := plrow_len l
  refine fnD Tryz.func322 rfl ?_
  refine go tt [.c [] (c_layers ha h), .i (plrow l).length, .i (plrow l).length] rfl (by simp [AllP, hw]; omega) ?_
  rw [hw, fil_zero fun i => [pl (r.getD i [])]]
  refine lp (S := Nat) 1 (fun L1 k => (14, .v (.one (.int .i64 (k : Int)))) :: L1) (fun k => [.row false 26 1 (fil (fun i => [pl (r.getD i [])]) [.nils] l.length k)]) (fun k => l.length - k) (fun k => k ≤ l.length) 0 (Nat.zero_le _) rfl (fun _ _ => rfl) rfl fun k hk => ?_
  by_cases hlt : k < l.length
  · obtain ⟨w, hx⟩ : ∃ w, l[k]? = some w := ⟨_, List.getElem?_eq_getElem hlt⟩
    have e := fil_set (fun i => [pl (r.getD i [])]) [.nils] hlt
    have hg := j2 k w hx
    by_cases h2 : k + 1 < l.length
    · obtain ⟨v, hv⟩ : ∃ v, l[k + 1]? = some v := ⟨_, List.getElem?_eq_getElem h2⟩
      rw [hv] at hg
      obtain ⟨f, f1, f2⟩ := hg
      have e2 : r.getD k [] = f := by rw [List.getD_eq_getElem?_getD, f2]; rfl
      rw [e2] at e
      refine go tt [.t (by simp [hw]; omega), .x (plrow_get hx), .i k, .t (by simp [hw]; omega), .x (i := k + 1) (plrow_get hv), .c [] (c_quo (i2 w (List.mem_of_getElem? hx)) (i2 v (List.mem_of_getElem? hv)) f1), .i k] rfl (by simp [AllP, fil_len, hw]; omega) ?_
      rw [List.set_set, e]
      exact rd (k + 1) (by omega) hlt rfl
    · have hv : l[k + 1]? = none := List.getElem?_eq_none (by omega)
      rw [hv] at hg
      have e2 : r.getD k [] = w := by rw [List.getD_eq_getElem?_getD, hg]; rfl
      rw [e2] at e
      refine go tt [.t (by simp [hw]; omega), .x (plrow_get hx), .i k, .f (by simp [hw]; omega)] rfl (by simp [AllP, fil_len, hw]; omega) ?_
      rw [e]
      exact rd (k + 1) (by omega) hlt rfl
  · obtain rfl : k = l.length := by omega
    have e : fil (fun i => [pl (r.getD i [])]) [.nils] l.length l.length = plrow r := by
      rw [fil_all, ← j1]
      refine List.ext_getElem? fun i => ?_
      simp only [plrow, List.getElem?_map]
      by_cases hi : i < r.length
      · rw [List.getElem?_range hi]; simp [List.getD_eq_getElem?_getD, List.getElem?_eq_getElem hi]
      · rw [List.getElem?_eq_none (by simpa using hi), List.getElem?_eq_none (by simpa using hi)]; rfl
    rw [e]
    exact en tt [.f (by simp [hw])] rfl rfl trivial
theorem prime_idem {p : List Int} (tp : Trim p) : prime (prime p) = prime p := by
  by_cases h : p.length = 0
  · have e : prime p = [] := by unfold prime; rw [if_pos h]
    rw [e]; rfl
  · obtain ⟨h1, h2, h3, h4, _⟩ := prime_ok tp h
    have hc : pcont (prime p) = 1 := by
      have h5 : pcont (prime p) ∣ 1 := h3 _ fun k => by
        by_cases hk : k < (prime p).length
        · rw [List.getD_eq_getElem?_getD, List.getElem?_eq_getElem hk]; exact pcont_dvd _ (List.getElem_mem hk)
        · rw [List.getD_eq_getElem?_getD, List.getElem?_eq_none (by omega)]; exact Int.dvd_zero _
      have h6 : 0 ≤ pcont (prime p) := by unfold pcont; omega
      exact Int.eq_one_of_dvd_one h6 h5
    have hf : ∀ q : List Int, 0 < lead q → pfac q = pcont q := fun q hq => by unfold pfac; rw [if_neg (by omega)]
    have hf := (hf _ h4).trans hc
    have e0 : ∀ q : List Int, q.length ≠ 0 → prime q = pover q (pfac q) := fun q hq => by unfold prime; rw [if_neg hq]
    have e := e0 (prime p) (by omega)
    rw [hf] at e
    rw [e]
    unfold pover
    have e2 : (prime p).map (· / (1 : Int)) = prime p := by
      conv => rhs; rw [← List.map_id (prime p)]
      exact List.map_congr_left fun z _ => by simp
    rw [e2]
    exact h1
theorem tmod2 (i : Nat) : (i : Int).tmod 2 = ((i % 2 : Nat) : Int) := rfl
theorem c_Odd0 {a : List Int} (ha : Pb a) (h : (prime a).length = 0) : Does Tryz.prog 304 [pr a] [pr []] :=
  w tt Tryz.func304 rfl [.c [] (c_prime ha), .t (by simp [List.eq_nil_of_length_eq_zero h])] rfl rfl trivial
theorem oddF_ok : ∀ {l : List (List Int)} {i : Nat} {p o : List Int}, Pb p → (∀ f ∈ l, Pb f) → oddF i p l = some o → Pb o
  | [], i, p, o, hp, _, h => by simp only [oddF] at h; injection h with h; subst h; exact hp
  | f :: l, i, p, o, hp, hl, h => by
    simp only [oddF] at h
    split at h
    · obtain ⟨q, hq, h⟩ := Option.bind_eq_some_iff.1 h
      obtain ⟨rfl, hq'⟩ := chk_ok (trim_pmul _ _) hq
      exact oddF_ok hq' (fun f hf => hl f (List.mem_cons_of_mem _ hf)) h
    · exact oddF_ok hp (fun f hf => hl f (List.mem_cons_of_mem _ hf)) h
theorem pb_one : Pb [1] := ⟨rfl, by decide, fun z hz => by rw [List.mem_singleton.1 hz]; decide⟩
theorem c_Odd {a o : List Int} (ha : Pb a) (h : podd a = some o) : Does Tryz.prog 304 [pr a] [pr o] := by
  unfold podd at h
  split at h
  · rename_i h0
    injection h with h; subst h
    exact c_Odd0 ha h0
  rename_i h0
  obtain ⟨l, hl, h⟩ := Option.bind_eq_some_iff.1 h
  obtain ⟨fs, hf, h⟩ := Option.bind_eq_some_iff.1 h
  have hpa := pb_prime ha
  have hl' : layF 66 (prime (prime a)) = some l := by rw [prime_idem ha.t]; exact hl
  obtain ⟨i1, i2⟩ := layF_ok (pb_prime ha) hl
  have i3 := facL_ok i2 hf
  obtain ⟨j1, _⟩ := facL_get hf
  have hw := plrow_len fs
  have co := c_POf (p := [1]) (by decide) (fun z hz => by rw [List.mem_singleton.1 hz]; decide)
  rw [show trim [1] = [1] from rfl] at co
  refine fnD Tryz.func304 rfl ?_
  refine go tt [.c [] (c_prime ha), .f (by simpa using h0), .c [] co, .c [] (c_Factors hpa hl' hf)] rfl (by simp [AllP]) ?_
  refine lp (S := Nat × List Int) 0 (fun L1 s => (16, .v (.one (.int .i64 (s.1 : Int)))) :: (3, .v (pr s.2)) :: L1) (fun _ => []) (fun s => fs.length - s.1) (fun s => s.1 ≤ fs.length ∧ Pb s.2 ∧ oddF s.1 s.2 (fs.drop s.1) = some o) (0, [1]) ⟨Nat.zero_le _, pb_one, h⟩ rfl (fun _ _ => rfl) rfl fun ⟨i, p⟩ ⟨k1, k2, k3⟩ => ?_
  dsimp only at k1 k2 k3 ⊢
  by_cases hlt : i < fs.length
  · obtain ⟨f, hx⟩ : ∃ w, fs[i]? = some w := ⟨_, List.getElem?_eq_getElem hlt⟩
    have hdr : fs.drop i = f :: fs.drop (i + 1) := by
      rw [List.drop_eq_getElem_cons hlt]; congr 1
      have := List.getElem?_eq_getElem hlt; rw [hx] at this; injection this with this; exact this.symm
    rw [hdr] at k3
    simp only [oddF] at k3
    have pf := i3 f (List.mem_of_getElem? hx)
    by_cases h2 : i % 2 = 0
    · rw [if_pos h2] at k3
      obtain ⟨q, hq, k3⟩ := Option.bind_eq_some_iff.1 k3
      obtain ⟨rfl, hq'⟩ := chk_ok (trim_pmul _ _) hq
      refine go tt [.t (by simp [hw]; omega), .x (plrow_get hx), .t (by rw [tmod2, h2]; rfl), .c [] (c_PMul k2.t pf.t (Nat.lt_of_le_of_lt k2.l (by decide)) (Nat.lt_of_le_of_lt pf.l (by decide)) k2.b pf.b (by decide))] rfl (by simp [AllP]; omega) ?_
      exact rd (i + 1, pmul p f) (by dsimp only; omega) ⟨hlt, hq', k3⟩ rfl
    · rw [if_neg h2] at k3
      refine go tt [.t (by simp [hw]; omega), .x (plrow_get hx), .f (by rw [tmod2, show i % 2 = 1 by omega]; rfl)] rfl (by simp [AllP]; omega) ?_
      exact rd (i + 1, p) (by dsimp only; omega) ⟨hlt, k2, k3⟩ rfl
  · obtain rfl : i = fs.length := by omega
    rw [List.drop_length] at k3
    simp only [oddF] at k3
    injection k3 with k3; subst k3
    exact en tt [.f (by simp [hw])] rfl rfl trivial
end Orr

namespace Orr
open Go Go.Proofs Orq
set_option maxRecDepth 10000
theorem isz_abs (z : Int) : isz (z.natAbs : Int) = isz z := by unfold isz; simp
theorem c_WAbs {x y : LV} {z : Int} (hi : IsInt x y z) (hs : isz z ≤ 4294967295) : Does Tryz.prog 330 [.agg [x, y]] [.agg (ofI (z.natAbs : Int))] := by
  obtain ⟨b, l, rfl, rfl, hl, rfl⟩ := hi
  have e : (ofSign false (val l)) = ((ofSign b (val l)).natAbs : Int) := by rw [ofSign_natAbs]; rfl
  rw [← e]
  exact w tt Tryz.func330 rfl [.c [] (c_Norm hl (Nat.le_trans (ofSign_sz hs) (by decide))), .c [] (c_made _ _)] rfl rfl trivial
theorem c_rMake {n d : Int} (h0 : d ≠ 0) (hn : isz n ≤ 4294967295) (hd : isz d ≤ 4294967295) : Does Tryz.prog 331 [.agg (ofI n), .agg (ofI d)] [.agg (rl (Rat.divInt n d)), .one (.int .i64 0)] :=
  w tt Tryz.func331 rfl [.c [] (c_WNorm (isInt_n d) hd), .c [] c_Zero, .f (by simpa using h0), .c [] (c_WNorm (isInt_n n) hn), .c [] (c_lowest h0 hn hd)] rfl rfl trivial
theorem most_snoc (l : List Int) (z : Int) : most (l ++ [z]) = if most l < z.natAbs then z.natAbs else most l := by unfold most; rw [List.foldl_append]; rfl
theorem most_bd {s : Nat} : ∀ {l : List Int}, Bd s l → isz (most l : Int) ≤ s := fun {l} => by
  suffices h : ∀ (l : List Int) (m : Nat), Bd s l → isz (m : Int) ≤ s → isz ((l.foldl (fun m z => if m < z.natAbs then z.natAbs else m) m : Nat) : Int) ≤ s from fun hb => h l 0 hb (by simp [isz, sz])
  intro l
  induction l with
  | nil => exact fun m _ h => h
  | cons z l ih =>
    intro m hb hm
    refine ih _ (fun y hy => hb y (List.mem_cons_of_mem _ hy)) ?_
    show isz ((if m < z.natAbs then z.natAbs else m : Nat) : Int) ≤ s
    split
    · rw [isz_abs]; exact hb z (List.mem_cons_self ..)
    · exact hm
def ozi : Option Nat → List LV
  | none => [.bool false, .nils]
  | some m => ofI (m : Int)
def ozr : Option Nat → List LV
  | none => [.bool false, .row []]
  | some m => ofI (m : Int)
theorem c_Bound {p : List Int} (hp : Pb p) (h0 : p.length ≠ 0) : Does Tryz.prog 319 [pr p] [.agg (rl (bound p)), .one (.int .i64 0)] := by
  have hl := hp.l
  have hll : (p.take (p.length - 1)).length = p.length - 1 := by simp
  have hbt : Bd 16777216 (p.take (p.length - 1)) := fun z hz => hp.b z (List.mem_of_mem_take hz)
  refine fnD Tryz.func319 rfl ?_
  refine go tt [.c [] (c_PNormT hp.t hp.ln hp.bd), .f (by simpa using h0), .r 18 (eI (b := ((p.length - 1 : Nat) : Int)) (by simp; omega)), .i (p.length - 1)] rfl (by simp [AllP]; omega) ?_
  rw [← List.map_take]
  refine lp (S := Nat × Option Nat) 2 (fun L1 s => (21, .v (.one (.int .i64 (s.1 : Int)))) :: L1) (fun s => [.blk 41 [.bool false, .nils, .bool false, .nils], .blk 29 (ozi s.2)]) (fun s => p.length - 1 - s.1) (fun s => s.1 ≤ p.length - 1 ∧ most ((p.take (p.length - 1)).take s.1) = s.2.getD 0) (0, none) ⟨Nat.zero_le _, rfl⟩ rfl (fun _ _ => rfl) rfl fun ⟨i, o⟩ ⟨j1, j2⟩ => ?_
  dsimp only at j1 j2 ⊢
  by_cases hlt : i < p.length - 1
  · obtain ⟨z, hz⟩ : ∃ w, (p.take (p.length - 1))[i]? = some w := ⟨_, List.getElem?_eq_getElem (by omega)⟩
    have bz : isz z ≤ 16777216 := hbt z (List.mem_of_getElem? hz)
    have hst : most ((p.take (p.length - 1)).take (i + 1)) = if o.getD 0 < z.natAbs then z.natAbs else o.getD 0 := by
      rw [List.take_succ, hz]; show most (_ ++ [z]) = _; rw [most_snoc, j2]
    have ca := c_WAbs (isInt_n z) (Nat.le_trans bz (by decide))
    have hl1 : decide ((i : Int) < (((p.take (p.length - 1)).map ofI).length : Int)) = true := by simp; omega
    have bm : isz ((o.getD 0 : Nat) : Int) ≤ 16777216 := by rw [← j2]; exact most_bd fun y hy => hbt y (List.mem_of_mem_take hy)
    have hcm : cmpZ (z.natAbs : Int) ((o.getD 0 : Nat) : Int) > 0 ↔ o.getD 0 < z.natAbs := by unfold cmpZ; split <;> (try split) <;> omega
    have cc : Does Tryz.prog 199 [.agg (ofI (z.natAbs : Int)), .agg (ozr o)] [.one (.int .i64 (cmpZ (z.natAbs : Int) ((o.getD 0 : Nat) : Int)))] := by
      cases o with
      | none => exact c_WCmp (isInt_n _) isInt_zero (by rw [isz_abs]; omega) (by decide)
      | some m => exact c_WCmp (isInt_n _) (isInt_n _) (by rw [isz_abs]; omega) (Nat.le_trans bm (by decide))
    by_cases hc : o.getD 0 < z.natAbs
    · rw [if_pos hc] at hst
      have hd : decide (cmpZ (z.natAbs : Int) ((o.getD 0 : Nat) : Int) > 0) = true := by simpa using hcm.2 hc
      cases o <;> (refine go tt [.t hl1, .x (map_get (f := ofI) hz), .c [] ca, .c [] cc, .t hd] rfl (by simp [AllP]; omega) ?_; exact rd (i + 1, some z.natAbs) (by dsimp only; omega) ⟨hlt, hst⟩ rfl)
    · rw [if_neg hc] at hst
      have hd : decide (cmpZ (z.natAbs : Int) ((o.getD 0 : Nat) : Int) > 0) = false := by
        have := mt hcm.1 hc; simpa using this
      cases o with
      | none => refine go tt [.t hl1, .x (map_get (f := ofI) hz), .c [] ca, .c [] cc, .f hd] rfl (by simp [AllP]; omega) ?_; exact rd (i + 1, none) (by dsimp only; omega) ⟨hlt, hst⟩ rfl
      | some m => refine go tt [.t hl1, .x (map_get (f := ofI) hz), .c [] ca, .c [] cc, .f hd] rfl (by simp [AllP]; omega) ?_; exact rd (i + 1, some m) (by dsimp only; omega) ⟨hlt, hst⟩ rfl
  · obtain rfl : i = p.length - 1 := by omega
    rw [List.take_of_length_le (by omega)] at j2
    have bl : isz (lead p) ≤ 16777216 := hp.b _ (lead_mem h0)
    have ln : ((lead p).natAbs : Int) ≠ 0 := by have := lead_ne hp.t h0; omega
    have cl := c_PLead hp.t hp.ln hp.bd
    have ca := c_WAbs (isInt_n (lead p)) (Nat.le_trans bl (by decide))
    have bm : isz ((o.getD 0 : Nat) : Int) ≤ 16777216 := by rw [← j2]; exact most_bd hbt
    have cd : Does Tryz.prog 111 [.agg (ofI ((lead p).natAbs : Int)), .agg (ozr o)] [.agg (ofI (((lead p).natAbs : Int) + (most (p.take (p.length - 1)) : Int)))] := by
      rw [j2]
      cases o with
      | none => exact c_WAdd (isInt_n _) isInt_zero (by rw [isz_abs]; omega) (by decide)
      | some m => exact c_WAdd (isInt_n _) (isInt_n _) (by rw [isz_abs]; omega) (Nat.le_trans bm (by decide))
    have cm := c_rMake (n := ((lead p).natAbs : Int) + (most (p.take (p.length - 1)) : Int)) ln (Nat.le_trans (isz_add _ _) (by rw [isz_abs, j2]; omega)) (by rw [isz_abs]; omega)
    have hf : decide (((p.length - 1 : Nat) : Int) < (((p.take (p.length - 1)).map ofI).length : Int)) = false := by simp
    cases o <;> exact en tt [.f hf, .c [] cl, .c [] ca, .c [] cd, .c [] cm] rfl rfl trivial
end Orr

namespace Orr
open Go Go.Proofs Orq
set_option maxRecDepth 10000
theorem c_Sgn {z : Int} : Does Tryz.prog 350 [.agg (ofI z)] [.one (.int .i64 (Int.sign z))] := by
  by_cases h0 : z = 0
  · subst h0
    exact w tt Tryz.func350 rfl [.t (by simp [lm_len, limbs_zero])] rfl rfl trivial
  · have hl : (limbs z.natAbs).length ≠ 0 := fun h => h0 (limbs_nil.1 h)
    have hl' : decide (((lm (limbs z.natAbs)).length : Int) = 0) = false := by simpa [lm_len] using hl
    by_cases h1 : z < 0
    · rw [Int.sign_eq_neg_one_of_neg h1]
      exact w tt Tryz.func350 rfl [.f hl', .t (by simpa using h1)] rfl rfl trivial
    · rw [Int.sign_eq_one_of_pos (by omega)]
      exact w tt Tryz.func350 rfl [.f hl', .f (by simpa using h1)] rfl rfl trivial
theorem c_Ends {p : List Int} (hp : Pb p) : Does Tryz.prog 342 [pr p] [.one (.int .i64 (endM p)), .one (.int .i64 (endP p))] := by
  have hb : -1 ≤ (lead p).sign ∧ (lead p).sign ≤ 1 := by rcases sign_cases (lead p) with h | h | h <;> omega
  by_cases h : p.length % 2 = 0
  · have e : endM p = -(lead p).sign := by unfold endM; rw [if_pos h]
    rw [e]
    exact w tt Tryz.func342 rfl [.c [] (c_PNormT hp.t hp.ln hp.bd), .c [] (c_PLead hp.t hp.ln hp.bd), .c [] c_Sgn, .t (by rw [tmod2]; simp [h])] rfl rfl (by simp [AllP, lead] at hb ⊢; omega)
  · have e : endM p = (lead p).sign := by unfold endM; rw [if_neg h]
    rw [e]
    exact w tt Tryz.func342 rfl [.c [] (c_PNormT hp.t hp.ln hp.bd), .c [] (c_PLead hp.t hp.ln hp.bd), .c [] c_Sgn, .f (by rw [tmod2]; simp; omega)] rfl rfl (by simp [AllP])
theorem c_minus1 {p : List Int} (hp : Pb p) : Does Tryz.prog 341 [pr p] [.one (.int .i64 (endM p))] := w tt Tryz.func341 rfl [.c [] (c_Ends hp)] rfl rfl trivial
theorem c_plus1 {p : List Int} (hp : Pb p) : Does Tryz.prog 343 [pr p] [.one (.int .i64 (endP p))] := w tt Tryz.func343 rfl [.c [] (c_Ends hp)] rfl rfl trivial
theorem c_rNeg {q : Rat} (hq : Qs 4294967295 q) : Does Tryz.prog 156 [.agg (rl q)] [.agg (rl (-q))] := by
  exact w tt Tryz.func156 rfl [.c [] (c_rnormQ hq), .c [] (c_Neg (isInt_n _) hq.1)] rfl rfl trivial
theorem c_turns0 {l : List (List Int)} {fid : Nat} {sg : List Int → Int} (hl : l.length ≤ 1000) (hs : ∀ p, -1 ≤ sg p ∧ sg p ≤ 1) (h : ∀ p ∈ l, Does Tryz.prog fid [pr p] [.one (.int .i64 (sg p))]) : Does Tryz.prog 300 [.one (.sh [.row (plrow l)]), .one (.fn fid [] [])] [.one (.int .i64 (turns sg l : Nat))] := by
  have hpl := plrow_len l
  refine fnD Tryz.func300 rfl ?_
  refine go tt [] rfl trivial ?_
  refine lp (S := Nat) 0 (fun L1 i => (15, .v (.one (.int .i64 (i : Int)))) :: (5, .v (.one (.int .i64 ((tst sg l i).1 : Int)))) :: (6, .v (.one (.int .i64 (tst sg l i).2))) :: L1) (fun _ => []) (fun i => l.length - i) (fun i => i ≤ l.length) 0 (Nat.zero_le _) rfl (fun _ _ => rfl) rfl fun i hi => ?_
  by_cases hlt : i < l.length
  · obtain ⟨p, hp⟩ : ∃ p, l[i]? = some p := ⟨_, List.getElem?_eq_getElem hlt⟩
    have hst : tst sg l (i + 1) = turnF sg (tst sg l i) p := foldl_take_succ _ _ _ hp
    obtain ⟨b1, b2, b3⟩ := tst_bd hs l i
    have b4 := hs p
    by_cases h0 : sg p = 0
    · refine go tt [.t (by simp [hpl]; omega), .x (plrow_get hp), .c [] (h p (List.mem_of_getElem? hp)), .t (by simpa using h0)] rfl (by simp [AllP]; omega) ?_
      exact rd (i + 1) (by omega) hlt (by rw [hst, show turnF sg (tst sg l i) p = tst sg l i from by unfold turnF; rw [if_pos h0]]; rfl)
    · by_cases h1 : (tst sg l i).2 = -(sg p)
      · refine go tt [.t (by simp [hpl]; omega), .x (plrow_get hp), .c [] (h p (List.mem_of_getElem? hp)), .f (by simpa using h0), .t (by simpa using h1)] rfl (by simp [AllP]; omega) ?_
        exact rd (i + 1) (by omega) hlt (by rw [hst, show turnF sg (tst sg l i) p = ((tst sg l i).1 + 1, sg p) from by unfold turnF; rw [if_neg h0, if_pos h1]]; rfl)
      · refine go tt [.t (by simp [hpl]; omega), .x (plrow_get hp), .c [] (h p (List.mem_of_getElem? hp)), .f (by simpa using h0), .f (by simpa using h1)] rfl (by simp [AllP]; omega) ?_
        exact rd (i + 1) (by omega) hlt (by rw [hst, show turnF sg (tst sg l i) p = ((tst sg l i).1, sg p) from by unfold turnF; rw [if_neg h0, if_neg h1]]; rfl)
  · obtain rfl : i = l.length := by omega
    refine en tt [.f (by simp [hpl])] rfl ?_ trivial
    unfold tst turns; rw [List.take_length]
theorem end_bd (p : List Int) : (-1 ≤ endM p ∧ endM p ≤ 1) ∧ -1 ≤ endP p ∧ endP p ≤ 1 := by
  have hb : -1 ≤ (lead p).sign ∧ (lead p).sign ≤ 1 := by rcases sign_cases (lead p) with h | h | h <;> omega
  unfold endM endP
  split <;> omega
theorem c_Count {l : List (List Int)} (hl : l.length ≤ 1000) (hp : ∀ p ∈ l, Pb p) : Does Tryz.prog 321 [.one (.sh [.row (plrow l)])] [.one (.int .i64 (rootsN l))] := by
  have c1 : Does Tryz.prog 332 [.one (.sh [.row (plrow l)])] [.one (.int .i64 (turns endM l : Nat))] :=
    w tt Tryz.func332 rfl [.c [] (c_turns0 hl (fun p => (end_bd p).1) fun p h => c_minus1 (hp p h))] rfl rfl trivial
  have c2 : Does Tryz.prog 333 [.one (.sh [.row (plrow l)])] [.one (.int .i64 (turns endP l : Nat))] :=
    w tt Tryz.func333 rfl [.c [] (c_turns0 hl (fun p => (end_bd p).2) fun p h => c_plus1 (hp p h))] rfl rfl trivial
  have b1 : turns endM l ≤ l.length := turns_bd (fun p => (end_bd p).1) l
  have b2 : turns endP l ≤ l.length := turns_bd (fun p => (end_bd p).2) l
  exact w tt Tryz.func321 rfl [.c [] c1, .c [] c2] rfl rfl (by simp [AllP]; omega)
theorem between_bd {l : List (List Int)} {lo hi : Rat} (hl : l.length ≤ 1000) : -1000 ≤ between l lo hi ∧ between l lo hi ≤ 1000 := by
  have b1 : turnsAt l lo ≤ l.length := turns_bd (fun p => psign_bd p lo) l
  have b2 : turnsAt l hi ≤ l.length := turns_bd (fun p => psign_bd p hi) l
  unfold between; split <;> omega
end Orr

namespace Orr
open Go Go.Proofs Orq
set_option maxRecDepth 10000
abbrev tal (l : List Tm) : List (List LV) := l.map fun t => ta t
theorem rcut_ok {p : List Int} {c : List (List Int)} (hp : Pb p) : ∀ {k : Nat} {lo hi : Rat} {n : Int} {r : List Tm}, Qb lo → Qb hi → rcutF p c k lo hi n = some r → ∀ t ∈ r, Tb t
  | 0, _, _, _, _, _, _, h => by cases h
  | k + 1, lo, hi, n, r, hl, hh, h => by
    simp only [rcutF] at h
    split at h
    · injection h with h; subst h; exact fun t ht => by cases ht
    · split at h
      · injection h with h; subst h
        intro t ht; rw [List.mem_singleton.1 ht]; exact ⟨hp, hl, hh⟩
      · obtain ⟨m, hm, h⟩ := Option.bind_eq_some_iff.1 h
        obtain ⟨rfl, qm⟩ := chq_ok hm
        obtain ⟨x, hx, h⟩ := Option.bind_eq_some_iff.1 h
        obtain ⟨y, hy, h⟩ := Option.bind_eq_some_iff.1 h
        injection h with h; subst h
        intro t ht
        rcases List.mem_append.1 ht with ht | ht
        · exact rcut_ok hp hl qm hx t ht
        · exact rcut_ok hp qm hh hy t ht
theorem ta_len (l : List Tm) : ∀ c ∈ tal l, c.length = 9 := fun c hc => by obtain ⟨t, _, rfl⟩ := List.mem_map.1 hc; rfl
theorem c_rcut {p : List Int} {c : List (List Int)} (hp : Pb p) (hcl : c.length ≤ 1000) (hc : ∀ q ∈ c, Pb q) : ∀ {k : Nat} {lo hi : Rat} {n : Int} {r : List Tm}, Qb lo → Qb hi → k ≤ 100000 → -(1000 * (100001 - k : Nat)) ≤ n ∧ n ≤ 1000 * (100001 - k : Nat) → rcutF p c k lo hi n = some r → r.length ≤ 1000000 → DoesD Tryz.prog 320 [pr p, .one (.sh [.row (plrow c)]), .agg (rl lo), .agg (rl hi), .one (.int .i64 n)] [] [.one (.orow 0 9 none)] [.row false 67 9 (tal r)]
  | 0, _, _, _, _, _, _, _, _, h, _ => by cases h
  | k + 1, lo, hi, n, r, hl, hh, hk, hn, h, hr => by
    simp only [rcutF] at h
    split at h
    · rename_i h0
      injection h with h; subst h
      refine fnD Tryz.func320 rfl ?_
      exact ed tt [] [2] [.t (by simpa using h0), .o 10 67 9] rfl trivial
    · rename_i h0
      split at h
      · rename_i h1
        injection h with h; subst h
        refine fnD Tryz.func320 rfl ?_
        exact ed tt [] [2] [.f (by simpa using h0), .t (by simpa using h1), .c [] (c_PNormT hp.t hp.ln hp.bd), .c [] (c_rMaxQ hl.s32), .c [] (c_rMaxQ hh.s32), .lo] rfl trivial
      · rename_i h1
        obtain ⟨m, hm, h⟩ := Option.bind_eq_some_iff.1 h
        obtain ⟨rfl, qm⟩ := chq_ok hm
        obtain ⟨x, hx, h⟩ := Option.bind_eq_some_iff.1 h
        obtain ⟨y, hy, h⟩ := Option.bind_eq_some_iff.1 h
        injection h with h; subst h
        have hb := between_bd (l := c) (lo := lo) (hi := mid lo hi) hcl
        rw [List.length_append] at hr
        have c1 := c_rcut hp hcl hc hl qm (by omega) (by omega) hx (by omega)
        have c2 := c_rcut hp hcl hc qm hh (by omega) (by omega) hy (by omega)
        rw [show tal (x ++ y) = tal x ++ tal y from List.map_append]
        refine fnD Tryz.func320 rfl ?_
        exact ed tt [] [3] [.f (by simpa using h0), .f (by simpa using h1), .c [] (c_Mid hl hh), .c [] (c_Between hcl hc hl qm), .c [3] c1, .c [4] c2, .s (ta_len y)] rfl (by simp [AllP]; omega)
theorem c_Roots {p : List Int} {r : List Tm} (hp : Pb p) (h : roots p = some r) (hr : r.length ≤ 1000000) : Does Tryz.prog 303 [pr p] [.one (tas r), .one (.int .i64 0)] := by
  unfold roots at h
  obtain ⟨c, h1, h⟩ := Option.bind_eq_some_iff.1 h
  obtain ⟨q, h2, h⟩ := Option.bind_eq_some_iff.1 h
  obtain ⟨b, h3, h⟩ := Option.bind_eq_some_iff.1 h
  obtain ⟨rfl, hb⟩ := chq_ok h3
  obtain ⟨k1, k2⟩ := chain_ok hp h1
  have hq := pb_square hp h2
  have q0 : q.length ≠ 0 := by
    unfold chain at h1
    obtain ⟨a, a1, h1⟩ := Option.bind_eq_some_iff.1 h1
    rw [h2] at a1; injection a1 with a1; subst a1
    split at h1
    · cases h1
    · assumption
  have qn : Qb (-bound q) := ⟨by rw [Rat.neg_num, isz_neg]; exact hb.1, by rw [Rat.neg_den]; exact hb.2⟩
  have bb1 : turns endM c ≤ c.length := turns_bd (fun p => (end_bd p).1) c
  have bb2 : turns endP c ≤ c.length := turns_bd (fun p => (end_bd p).2) c
  have hn : -(1000 * (100001 - 100000 : Nat) : Int) ≤ rootsN c ∧ rootsN c ≤ 1000 * (100001 - 100000 : Nat) := by unfold rootsN; omega
  have cr := c_rcut hq (by omega) k2 qn hb (Nat.le_refl _) hn h hr
  refine fnD Tryz.func303 rfl ?_
  exact ed tt [1] [] [.c [] (c_SNew hp h1), .f rfl, .c [] (c_Square hp h2), .c [] (c_Bound hq q0), .c [] (c_rNeg hb.s32), .c [] (c_Count (by omega) k2), .c [1] cr] rfl trivial
end Orr

namespace Orr
open Go Go.Proofs Orq
set_option maxRecDepth 10000
def ptrow (l : List Pt) : List (List LV) := l.map ofPt
theorem rp_get {l : List Pt} {i : Nat} {c : Pt} (h : l[i]? = some c) : (ptrow l)[i]? = some (ofPt c) := map_get h
theorem rp_len (l : List Pt) : (ptrow l).length = l.length := by simp [ptrow]
theorem rp_five (l : List Pt) : ∀ c ∈ ptrow l, c.length = 5 := fun c hc => by
  obtain ⟨x, _, rfl⟩ := List.mem_map.1 hc; rfl
end Orr

namespace Orr
open Go Go.Proofs Orq
set_option maxRecDepth 10000
theorem c_SNew0 : Does Tryz.prog 230 [pr []] [.one .nilp, .one (.int .i64 2)] := by
  have h : psquare [] = some [] := rfl
  exact w tt Tryz.func230 rfl [.c [] (c_Square pb_nil h), .t rfl] rfl rfl trivial
theorem c_Roots0 : Does Tryz.prog 303 [pr []] [.one (.row []), .one (.int .i64 2)] :=
  w tt Tryz.func303 rfl [.c [] c_SNew0, .t rfl] rfl rfl trivial
theorem odd_pb {a o : List Int} (ha : Pb a) (h : podd a = some o) : Pb o := by
  unfold podd at h
  split at h
  · injection h with h; subst h; exact pb_nil
  · obtain ⟨l, hl, h⟩ := Option.bind_eq_some_iff.1 h
    obtain ⟨fs, hf, h⟩ := Option.bind_eq_some_iff.1 h
    exact oddF_ok pb_one (facL_ok (layF_ok (pb_prime ha) hl).2 hf) h
theorem c_GTurns {p : List Int} {l : List Tm} (hp : Pb p) (h : turnsP p = some l) (hl : l.length ≤ 1000000) : Does Tryz.prog 276 [pr p] [.one (tas l)] := by
  unfold turnsP at h
  obtain ⟨q, hq, h⟩ := Option.bind_eq_some_iff.1 h
  have qp := odd_pb hp hq
  have co := c_Odd hp hq
  split at h
  · rename_i h0
    injection h with h; subst h
    obtain rfl := List.eq_nil_of_length_eq_zero h0
    exact w tt Tryz.func276 rfl [.c [] co, .c [] c_Roots0, .t rfl] rfl rfl trivial
  · exact w tt Tryz.func276 rfl [.c [] co, .c [] (c_Roots qp h hl), .f rfl] rfl rfl trivial
/-- what Next answers -/
def ota : Option Tm → List LV
  | none => zTr
  | some t => ta t
theorem c_GNext {p : List Int} {a : Tm} {l : List Tm} {r : Option Tm} (hp : Pb p) (ha : Tb a) (h : turnsP p = some l) (hl : l.length ≤ 1000000) (ht : ∀ t ∈ l, Tb t) (hr : nextF a l = some r) : Does Tryz.prog 241 [pr p, .agg (ta a)] [.agg (ota r), .one (.bool r.isSome)] := by
  have hll : (l.map fun t => ta t).length = l.length := by simp
  refine fnD Tryz.func241 rfl ?_
  refine go tt [.c [] (c_GTurns hp h hl)] rfl trivial ?_
  refine lp (S := Nat) 2 (fun L1 i => (11, .v (.one (.int .i64 (i : Int)))) :: L1) (fun _ => [.blk 67 (ta a), .blk 67 zTm]) (fun i => l.length - i) (fun i => i ≤ l.length ∧ nextF a (l.drop i) = some r) 0 ⟨Nat.zero_le _, hr⟩ rfl (fun _ _ => rfl) rfl fun i ⟨hi, hf⟩ => ?_
  by_cases hlt : i < l.length
  · obtain ⟨t, hx⟩ : ∃ t, l[i]? = some t := ⟨_, List.getElem?_eq_getElem hlt⟩
    have hdr : l.drop i = t :: l.drop (i + 1) := by
      rw [List.drop_eq_getElem_cons hlt]; congr 1
      have := List.getElem?_eq_getElem hlt; rw [hx] at this; injection this with this; exact this.symm
    rw [hdr] at hf
    simp only [nextF] at hf
    obtain ⟨c, c1, hf⟩ := Option.bind_eq_some_iff.1 hf
    have cc := c_ACmp (ht t (List.mem_of_getElem? hx)) ha c1
    by_cases hc : 0 < c
    · rw [if_pos hc] at hf
      injection hf with hf; subst hf
      exact en tt [.t (by simp; omega), .x (tas_get hx), .c [] cc, .t (by simpa using hc)] rfl rfl trivial
    · rw [if_neg hc] at hf
      refine go tt [.t (by simp; omega), .x (tas_get hx), .c [] cc, .f (by simpa using hc)] rfl (by simp [AllP]; omega) ?_
      exact rd (i + 1) (by omega) ⟨hlt, hf⟩ rfl
  · obtain rfl : i = l.length := by omega
    rw [List.drop_length] at hf
    simp only [nextF] at hf
    injection hf with hf; subst hf
    exact en tt [.f (by simp)] rfl rfl trivial
end Orr

namespace Orr
open Go Go.Proofs Orq
set_option maxRecDepth 10000
/-- all watched -/
def lookF (now : Tm) : List Wt → Option (List Wt)
  | [] => some []
  | w :: l => (if w.known = true then some w else (nextO w.c.p now).bind fun r => some ⟨w.c, true, r⟩).bind fun w' => (lookF now l).bind fun r => some (w' :: r)
theorem lookF_get {now : Tm} : ∀ {l ws : List Wt}, lookF now l = some ws → ws.length = l.length ∧ ∀ (i : Nat) (w : Wt), l[i]? = some w → ∃ v, ws[i]? = some v ∧ (w.known = true ∧ v = w ∨ w.known = false ∧ ∃ r, nextO w.c.p now = some r ∧ v = ⟨w.c, true, r⟩)
  | [], ws, h => by injection h with h; subst h; exact ⟨rfl, fun i x hx => by simp at hx⟩
  | y :: l, ws, h => by
    simp only [lookF] at h
    obtain ⟨v, hv, h⟩ := Option.bind_eq_some_iff.1 h
    obtain ⟨r, hr, h⟩ := Option.bind_eq_some_iff.1 h
    injection h with h; subst h
    obtain ⟨a, b⟩ := lookF_get hr
    refine ⟨by simp [a], fun i x hx => ?_⟩
    cases i with
    | zero =>
      injection hx with hx; subst hx
      refine ⟨v, rfl, ?_⟩
      split at hv
      · rename_i hk; injection hv with hv; exact .inl ⟨hk, hv.symm⟩
      · rename_i hk
        obtain ⟨q, hq, hv⟩ := Option.bind_eq_some_iff.1 hv
        injection hv with hv
        exact .inr ⟨by simpa using hk, q, hq, hv.symm⟩
    | succ i => exact b i x (by simpa using hx)
theorem c_GNextO {p : List Int} {a : Tm} {r : Option Tm} (hp : Cp p) (ha : Va a) (h : nextO p a = some r) : Does Tryz.prog 241 [pr p, .agg (ta a)] [.agg (ota r), .one (.bool r.isSome)] := by
  obtain ⟨l, l1, l2, l3, _⟩ := turns_ok hp
  unfold nextO at h
  rw [l1] at h
  exact c_GNext (Dp.pb hp.dp) ha.tb l1 (by omega) (fun t ht => (l3 t ht).tb) h
theorem c_KLook {T : Nat} {c : Cr} {r0 r1 : List (List LV)} {ws : List Wt} (hc : CrOk c) (h : lookF c.now c.l = some ws) : DoesD Tryz.prog 195 [.one (.ow 0 0)] [.blk T (crl c r0 r1)] [] [.blk T (crl { c with l := ws } r0 r1)] := by
  have hk := hc.k
  have hw := wrow_len c.l
  obtain ⟨h1, h2⟩ := lookF_get h
  refine fnD Tryz.func195 rfl ?_
  refine go tt [.o 2 164 18, .c [0] (c_KNow hc.n)] rfl trivial ?_
  refine lp (S := Nat) 3 (fun L1 i => (13, .v (.one (.int .i64 (i : Int)))) :: (2, .v (.one (.orow 1 18 none))) :: L1) (fun i => [.blk T (crl c r0 r1), .row false 164 18 (wrow (ws.take i)), .blk 67 (ta c.now)]) (fun i => c.l.length - i) (fun i => i ≤ c.l.length) 0 (Nat.zero_le _) rfl (fun _ _ => rfl) rfl fun i hi => ?_
  by_cases hlt : i < c.l.length
  · obtain ⟨w, hx⟩ : ∃ w, c.l[i]? = some w := ⟨_, List.getElem?_eq_getElem hlt⟩
    obtain ⟨v, hv, h3⟩ := h2 i w hx
    have hm : ∀ y ∈ [wl v], y.length = 18 := fun y hy => by rw [List.mem_singleton.1 hy]; rfl
    have hg := wrow_take hv
    have hl : decide ((i : Int) < ((wrow c.l).length : Int)) = true := by simp [hw]; omega
    rcases h3 with ⟨k1, rfl⟩ | ⟨k1, r, k2, rfl⟩
    · obtain ⟨vc, vk, vf⟩ := v
      cases vf <;> (refine go tt [.t hl, .x (wrow_get hx), .f (by rw [show vk = true from k1]; rfl), .s (sz := 18) hm] rfl (by simp [AllP, wrow_len]; omega) ?_; exact rd (i + 1) (by omega) hlt (by rw [hg]; rfl))
    · have cg := c_GNextO (hc.l w (List.mem_of_getElem? hx)).p hc.n k2
      obtain ⟨wc, wk, wf⟩ := w
      cases r <;> cases wf <;> (refine go tt [.t hl, .x (wrow_get hx), .t (by rw [show wk = false from k1]; rfl), .c [] cg, .s (sz := 18) hm] rfl (by simp [AllP, wrow_len]; omega) ?_; exact rd (i + 1) (by omega) hlt (by rw [hg]; rfl))
  · obtain rfl : i = c.l.length := by omega
    rw [← h1, List.take_length]
    exact ed tt [1] [0] [.f (by simp [hw, h1])] rfl trivial
/-- the least failure -/
def nxtF (ws : List Wt) : Option (Option Tm) := match ws.filterMap (·.fails) with
  | [] => some none
  | b :: l => (leastF b l).map some
theorem look_ok {c : Cr} {ws : List Wt} (hc : CrOk c) (h : lookF c.now c.l = some ws) : CrOk { c with l := ws } := by
  obtain ⟨h1, h2⟩ := lookF_get h
  refine ⟨hc.n, fun v hv => ?_, by show ws.length ≤ 1000; rw [h1]; exact hc.k⟩
  obtain ⟨i, hi⟩ := List.getElem?_of_mem hv
  have hil : i < c.l.length := by rw [← h1]; exact (List.getElem?_eq_some_iff.1 hi).1
  obtain ⟨v', h3, h4⟩ := h2 i _ (List.getElem?_eq_getElem hil)
  rw [hi] at h3; injection h3 with h3; subst h3
  have hw := hc.l _ (List.getElem_mem hil)
  rcases h4 with ⟨_, rfl⟩ | ⟨_, r, k2, rfl⟩
  · exact hw
  · obtain ⟨r', r1, r2⟩ := nextO_ok hw.p hc.n
    rw [k2] at r1; injection r1 with r1; subst r1
    refine ⟨hw.p, fun t ht => ?_⟩
    have ht : r = some t := ht
    subst ht
    exact r2.2.1
theorem c_KNext {T : Nat} {c : Cr} {r0 r1 : List (List LV)} {ws : List Wt} {r : Option Tm} (hc : CrOk c) (h : lookF c.now c.l = some ws) (hr : nxtF ws = some r) : DoesD Tryz.prog 135 [.one (.ow 0 0)] [.blk T (crl c r0 r1)] [.agg (ota r), .one (.bool r.isSome)] [.blk T (crl { c with l := ws } r0 r1)] := by
  have hcl := c_KLook (T := T) (r0 := r0) (r1 := r1) hc h
  have hc' := look_ok hc h
  have hk := hc'.k
  have hw := wrow_len ws
  have hvb : ∀ t ∈ ws.filterMap (·.fails), Tb t := fun t ht => by
    obtain ⟨w, w1, w2⟩ := List.mem_filterMap.1 ht
    exact ((hc'.l w w1).f t w2).tb
  refine fnD Tryz.func135 rfl ?_
  refine go tt [.c [0] hcl, .o 4 67 9] rfl trivial ?_
  refine lp (S := Nat) 3 (fun L1 i => (14, .v (.one (.int .i64 (i : Int)))) :: (4, .v (.one (.orow 2 9 none))) :: L1) (fun i => [.blk T (crl { c with l := ws } r0 r1), .blk 67 zTm, .row false 67 9 (tal ((ws.take i).filterMap (·.fails)))]) (fun i => ws.length - i) (fun i => i ≤ ws.length) 0 (Nat.zero_le _) rfl (fun _ _ => rfl) rfl fun i hi => ?_
  by_cases hlt : i < ws.length
  · obtain ⟨w, hx⟩ : ∃ w, ws[i]? = some w := ⟨_, List.getElem?_eq_getElem hlt⟩
    have hl : decide ((i : Int) < ((wrow ws).length : Int)) = true := by simp [hw]; omega
    have hfl : ((ws.take i).filterMap (·.fails)).length ≤ i := Nat.le_trans (List.length_filterMap_le _ _) (by rw [List.length_take]; omega)
    have hg : (ws.take (i + 1)).filterMap (·.fails) = (ws.take i).filterMap (·.fails) ++ (match w.fails with | none => [] | some t => [t]) := by
      rw [List.take_succ, hx, List.filterMap_append]
      show _ ++ List.filterMap (·.fails) [w] = _
      cases hwf : w.fails <;> simp [hwf]
    obtain ⟨wc, wk, wf⟩ := w
    have hk : ws.length ≤ 1000 := hk
    cases wf with
    | none =>
      refine go tt [.t hl, .x (wrow_get hx), .f rfl] rfl (by simp [AllP]; omega) ?_
      exact rd (i + 1) (by omega) hlt (by rw [hg]; simp; rfl)
    | some t =>
      refine go tt [.t hl, .x (wrow_get hx), .t rfl, .s (l := [ta t]) (sz := 9) (fun c hc => by rw [List.mem_singleton.1 hc]; rfl)] rfl (by simp [AllP]; omega) ?_
      exact rd (i + 1) (by omega) hlt (by rw [hg]; simp [tal]; rfl)
  · obtain rfl : i = ws.length := by omega
    rw [List.take_length]
    have hf : decide ((ws.length : Int) < ((wrow ws).length : Int)) = false := by simp [hw]
    have hln : (ws.filterMap (·.fails)).length ≤ 1000 := Nat.le_trans (List.length_filterMap_le _ _) hk
    unfold nxtF at hr
    cases hfm : ws.filterMap (·.fails) with
    | nil =>
      rw [hfm] at hr
      injection hr with hr; subst hr
      exact ed tt [] [0] [.f hf, .p 2, .c [] c_Least0] rfl trivial
    | cons b l =>
      rw [hfm] at hr hvb hln
      obtain ⟨m, m1, rfl⟩ := Option.map_eq_some_iff.1 hr
      have cl := c_ALeast (hvb b (List.mem_cons_self ..)) (fun t ht => hvb t (List.mem_cons_of_mem _ ht)) (by simp at hln; omega) m1
      exact ed tt [] [0] [.f hf, .p 2, .c [] cl] rfl trivial
end Orr

namespace Orr
open Go Go.Proofs Orq
set_option maxRecDepth 10000
theorem keptF_ok {at_ : Tm} {x : Ct} : ∀ {l : List Wt} {w : Wt}, keptF l x at_ = some w → w = fresh x ∨ ∃ v ∈ l, v.known = true ∧ v.c.p = x.p ∧ w = ⟨x, true, v.fails⟩ ∧ ∀ t, v.fails = some t → ∃ c, cmpO t at_ = some c ∧ 0 < c
  | [], w, h => by simp only [keptF] at h; injection h with h; exact .inl h.symm
  | v :: l, w, h => by
    simp only [keptF] at h
    have tl : keptF l x at_ = some w → w = fresh x ∨ ∃ v' ∈ v :: l, v'.known = true ∧ v'.c.p = x.p ∧ w = ⟨x, true, v'.fails⟩ ∧ ∀ t, v'.fails = some t → ∃ c, cmpO t at_ = some c ∧ 0 < c := fun h => by
      rcases keptF_ok h with h | ⟨v', h1, h2⟩
      · exact .inl h
      · exact .inr ⟨v', List.mem_cons_of_mem _ h1, h2⟩
    split at h
    · rename_i hk
      cases hf : v.fails with
      | none =>
        rw [hf] at h
        injection h with h
        exact .inr ⟨v, List.mem_cons_self .., hk.2.1, hk.2.2, by rw [hf]; exact h.symm, fun t ht => by rw [hf] at ht; cases ht⟩
      | some t =>
        rw [hf] at h
        obtain ⟨c, c1, h⟩ := Option.bind_eq_some_iff.1 h
        split at h
        · rename_i h0
          injection h with h
          exact .inr ⟨v, List.mem_cons_self .., hk.2.1, hk.2.2, by rw [hf]; exact h.symm, fun u hu => by rw [hf] at hu; injection hu with hu; subst hu; exact ⟨c, c1, h0⟩⟩
        · exact tl h
    · exact tl h
theorem lay_ok {c : Cr} {at_ : Tm} {l : List Ct} {ws : List Wt} (ev : Int) (hc : CrOk c) (ha : Va at_) (hl : ∀ x ∈ l, Cp x.p) (hn : l.length ≤ 1000) (h : layF' c.l at_ (sortC l) = some ws) : CrOk ⟨at_, ws, ev⟩ := by
  obtain ⟨h1, h2⟩ := layF_get h
  refine ⟨ha, fun w hw => ?_, by show ws.length ≤ 1000; rw [h1, sortC_len]; exact hn⟩
  obtain ⟨i, hi⟩ := List.getElem?_of_mem hw
  have hil : i < (sortC l).length := by rw [← h1]; exact (List.getElem?_eq_some_iff.1 hi).1
  obtain ⟨v, h3, h4⟩ := h2 i _ (List.getElem?_eq_getElem hil)
  rw [hi] at h4; injection h4 with h4; subst h4
  have hx := hl _ (sortC_mem (List.getElem_mem hil))
  rcases keptF_ok h3 with e | ⟨v, v1, _, v3, e, _⟩
  · rw [e]; exact ⟨hx, fun t ht => by cases ht⟩
  · rw [e]; exact ⟨hx, fun t ht => (hc.l v v1).f t ht⟩
/-- from event to event, at most so many -/
def goF {β : Type} (Bc : Tm → List Ct) (Br : Tm → β) (t : Rat) : Nat → Cr → β → Int → Option (Cr × β × Int)
  | 0, _, _, _ => none
  | k + 1, c, r, n => (lookF c.now c.l).bind fun ws => (nxtF ws).bind fun o => match o with
    | none => some (⟨tq t, ws, c.ev⟩, r, n)
    | some a => if 0 < cmpR a t then some (⟨tq t, ws, c.ev⟩, r, n) else (layF' ws a (sortC (Bc a))).bind fun w2 => goF Bc Br t k ⟨a, w2, c.ev + 1⟩ (Br a) (n + 1)
theorem nxtF_mem {ws : List Wt} {a : Tm} (h : nxtF ws = some (some a)) (hv : ∀ t ∈ ws.filterMap (·.fails), Va t) : a ∈ ws.filterMap (·.fails) ∧ ∀ t ∈ ws.filterMap (·.fails), ¬ TLt t a := by
  unfold nxtF at h
  cases hf : ws.filterMap (·.fails) with
  | nil => rw [hf] at h; injection h with h; cases h
  | cons b l =>
    rw [hf] at h hv
    obtain ⟨m, m1, m2⟩ := Option.map_eq_some_iff.1 h
    injection m2 with m2; subst m2
    obtain ⟨m', n1, n2, n3⟩ := leastF_ok l b hv
    rw [m1] at n1; injection n1 with n1; subst n1
    exact ⟨n2, n3⟩
theorem nxt_va {c : Cr} {ws : List Wt} {a : Tm} (hc : CrOk c) (h : lookF c.now c.l = some ws) (hr : nxtF ws = some (some a)) : Va a := by
  have hc' := look_ok hc h
  have hv : ∀ t ∈ ws.filterMap (·.fails), Va t := fun t ht => by
    obtain ⟨w, w1, w2⟩ := List.mem_filterMap.1 ht
    exact (hc'.l w w1).f t w2
  exact hv a (nxtF_mem hr hv).1
structure BuildOk (Bc : Tm → List Ct) : Prop where
  p : ∀ a, Va a → ∀ x ∈ Bc a, Cp x.p
  n : ∀ a, Va a → (Bc a).length ≤ 1000
end Orr

namespace Orr
open Go Go.Proofs Orq
set_option maxRecDepth 10000
end Orr

namespace Orq
open Orr Go
theorem lt_tr {a b c : Tm} (hb : Cut (cmpR b)) (hc : Cut (cmpR c)) (h : TLt a b) (h' : TLt b c) : TLt a c := by
  obtain ⟨q, q1, q2⟩ := h
  obtain ⟨r, r1, r2⟩ := h'
  exact ⟨q, q1, hc.mono' (hb.lt q2 r1) (by omega)⟩
theorem leq_of {a b : Tm} (ha : Cut (cmpR a)) (hb : Cut (cmpR b)) (h : ¬ TLt b a) : Leq a (cmpR b) := fun q hq => by
  rcases ha.val q with e | e | e
  · exact absurd ⟨q, hq, e⟩ h
  · obtain ⟨r, r1, r2⟩ := hb.dn q hq
    exact absurd ⟨r, r2, ha.mono' r1 (by omega)⟩ h
  · exact e
theorem le_lt_r {a b c : Tm} (_ : Cut (cmpR a)) (hb : Cut (cmpR b)) (hc : Cut (cmpR c)) (h : TLt a b) (h' : ¬ TLt c b) : TLt a c := by
  obtain ⟨q, q1, q2⟩ := h
  refine ⟨q, q1, ?_⟩
  have hl := leq_of hb hc h'
  rcases hc.val q with e | e | e
  · exact e
  · obtain ⟨r, r1, r2⟩ := hb.up q q2
    have h1 := hc.mono q r r1 (by omega)
    have := hl r h1
    omega
  · have := hl q e; omega
theorem lt_nle {a b : Tm} (ha : Cut (cmpR a)) (hb : Cut (cmpR b)) (h : TLt a b) : ¬ TLt b a := fun h' => lt_irr ha hb h h'
theorem nxt_mono {p : List Int} {a b : Tm} {o : Option Tm} (ha : Cut (cmpR a)) (hb : Cut (cmpR b)) (hab : ¬ TLt b a) (h : NxtOk p a o) (ho : ∀ t, o = some t → TLt b t) : NxtOk p b o := by
  have hl := leq_of ha hb hab
  cases o with
  | none =>
    rcases h with h | ⟨s, s0, h⟩
    · exact .inl h
    · exact .inr ⟨s, s0, fun c hc hbc => h c hc fun q hq => hl q (hbc q hq)⟩
  | some t =>
    obtain ⟨h1, h2, _, s, s0, h4, h5⟩ := h
    exact ⟨h1, h2, ho t rfl, s, s0, fun c hc hbc hm => h4 c hc (fun q hq => hl q (hbc q hq)) hm, h5⟩
theorem germ_same {p : List Int} {a b : Tm} {o : Option Tm} (hp : Dp p) (ha : Va a) (hb : Va b) (hab : ¬ TLt b a) (h : NxtOk p a o) (ho : ∀ t, o = some t → TLt b t) : germ (sgA b) p = germ (sgA a) p := by
  by_cases h0 : p.length = 0
  · obtain rfl := List.eq_nil_of_length_eq_zero h0; rfl
  obtain ⟨ra, _⟩ := germ_rs ha hp h0
  obtain ⟨rb, _⟩ := germ_rs hb hp h0
  have hl := leq_of ha.cut hb.cut hab
  cases o with
  | none =>
    rcases h with h | ⟨s, s0, h⟩
    · exact absurd (by rw [h]; rfl) h0
    · exact (rs_un rb (h _ hb.cut hl)).trans (rs_un ra (h _ ha.cut fun _ h => h)).symm
  | some t =>
    obtain ⟨h1, h2, h3, s, s0, h4, h5⟩ := h
    exact (rs_un rb (h4 _ hb.cut hl (ho t rfl))).trans (rs_un ra (h4 _ ha.cut (fun _ h => h) h3)).symm
theorem tq_pt (t q : Rat) : cmpR (tq t) q = cmpQ t q := cmpR_pt (t := tq t) rfl q
theorem cmp_tq {a : Tm} {t : Rat} (ha : Cut (cmpR a)) : 0 < cmpR a t ↔ TLt (tq t) a := by
  constructor
  · intro h
    have h1 : cmpR a t = 1 := by rcases ha.val t with e | e | e <;> omega
    obtain ⟨r, r1, r2⟩ := ha.up t h1
    exact ⟨r, by rw [tq_pt]; rcases cmpQ_val t r with ⟨e, e'⟩ | ⟨e, e'⟩ | ⟨e, e'⟩ <;> first | exact e | (exfalso; grind), r2⟩
  · rintro ⟨q, q1, q2⟩
    rw [tq_pt] at q1
    have : t < q := by rcases cmpQ_val t q with ⟨e, e'⟩ | ⟨e, e'⟩ | ⟨e, e'⟩ <;> first | exact e' | omega
    have := ha.mono' this (by omega)
    omega
/-! ### how many of some times are still to come -/
open Classical in
noncomputable def mu (T : List Tm) (a : Tm) : Nat := (T.filter fun t => decide (TLt a t)).length
theorem filter_le {α : Type} {p q : α → Bool} (h : ∀ x, p x = true → q x = true) : ∀ l : List α, (l.filter p).length ≤ (l.filter q).length
  | [] => Nat.le_refl _
  | x :: l => by
    have ih := filter_le h l
    by_cases hp : p x = true
    · rw [List.filter_cons_of_pos hp, List.filter_cons_of_pos (h x hp)]; simp; exact ih
    · rw [List.filter_cons_of_neg hp]
      by_cases hq : q x = true
      · rw [List.filter_cons_of_pos hq]; simp; omega
      · rw [List.filter_cons_of_neg hq]; exact ih
theorem filter_lt {α : Type} {p q : α → Bool} (h : ∀ x, p x = true → q x = true) {y : α} (hp : p y = false) (hq : q y = true) : ∀ {l : List α}, y ∈ l → (l.filter p).length < (l.filter q).length
  | [], hy => by cases hy
  | x :: l, hy => by
    rcases List.mem_cons.1 hy with rfl | hy
    · rw [List.filter_cons_of_neg (by simp [hp]), List.filter_cons_of_pos hq]
      have := filter_le h l
      simp; omega
    · have ih := filter_lt h hp hq hy
      by_cases hp : p x = true
      · rw [List.filter_cons_of_pos hp, List.filter_cons_of_pos (h x hp)]; simp; exact ih
      · rw [List.filter_cons_of_neg hp]
        by_cases hq : q x = true
        · rw [List.filter_cons_of_pos hq]; simp; omega
        · rw [List.filter_cons_of_neg hq]; exact ih
open Classical in
theorem mu_lt {T : List Tm} {a b : Tm} (ha : Cut (cmpR a)) (hb : Cut (cmpR b)) (hT : ∀ t ∈ T, Cut (cmpR t)) (h : TLt a b) (hm : b ∈ T) : mu T b < mu T a := by
  have key : ∀ l : List Tm, (∀ t ∈ l, Cut (cmpR t)) → l.filter (fun t => decide (TLt b t)) = l.filter (fun t => decide (Cut (cmpR t) ∧ TLt b t)) := fun l hl => List.filter_congr fun x hx => by simp [hl x hx]
  have key2 : ∀ l : List Tm, (∀ t ∈ l, Cut (cmpR t)) → l.filter (fun t => decide (TLt a t)) = l.filter (fun t => decide (Cut (cmpR t) ∧ TLt a t)) := fun l hl => List.filter_congr fun x hx => by simp [hl x hx]
  unfold mu
  rw [key T hT, key2 T hT]
  refine filter_lt (fun x hx => ?_) (y := b) ?_ ?_ hm
  · have hx := of_decide_eq_true hx
    exact decide_eq_true ⟨hx.1, lt_tr hb hx.1 h hx.2⟩
  · exact decide_eq_false fun hx => lt_irr hb hb hx.2 hx.2
  · exact decide_eq_true ⟨hb, h⟩
/-! ### what is known of a structure's core -/
def tms (p : List Int) : List Tm := (turnsP p).getD []
structure KInv (c : Cr) : Prop where
  ok : CrOk c
  k : ∀ w ∈ c.l, w.known = true → NxtOk w.c.p c.now w.fails ∧ ∀ t, w.fails = some t → t ∈ tms w.c.p
theorem nextO_full {p : List Int} (h : Cp p) {a : Tm} (ha : Va a) : ∃ r, nextO p a = some r ∧ NxtOk p a r ∧ ∀ t, r = some t → t ∈ tms p := by
  obtain ⟨l, l1, _, _, l3⟩ := turns_ok h
  obtain ⟨r, r1, r2, r3⟩ := l3 a ha
  refine ⟨r, ?_, r2, fun t ht => by unfold tms; rw [l1]; exact r3 t ht⟩
  unfold nextO; rw [l1]; exact r1
theorem tms_va {p : List Int} (h : Cp p) : ∀ t ∈ tms p, Va t := by
  obtain ⟨l, l1, _, l2, _⟩ := turns_ok h
  unfold tms; rw [l1]; exact l2
theorem look_ex {now : Tm} (hn : Va now) : ∀ {l : List Wt}, (∀ w ∈ l, WtOk w) → (∀ w ∈ l, w.known = true → NxtOk w.c.p now w.fails ∧ ∀ t, w.fails = some t → t ∈ tms w.c.p) →
    ∃ ws, lookF now l = some ws ∧ ws.map (·.c) = l.map (·.c) ∧ ∀ w ∈ ws, w.known = true ∧ NxtOk w.c.p now w.fails ∧ ∀ t, w.fails = some t → t ∈ tms w.c.p
  | [], _, _ => ⟨[], rfl, rfl, fun w hw => by cases hw⟩
  | w :: l, h, h' => by
    obtain ⟨ws, w1, w2, w3⟩ := look_ex hn (fun v hv => h v (List.mem_cons_of_mem _ hv)) (fun v hv => h' v (List.mem_cons_of_mem _ hv))
    by_cases hk : w.known = true
    · refine ⟨w :: ws, by simp only [lookF, hk, if_true, w1]; rfl, by simp [w2], fun v hv => ?_⟩
      rcases List.mem_cons.1 hv with rfl | hv
      · exact ⟨hk, h' v (by simp) hk⟩
      · exact w3 v hv
    · obtain ⟨r, r1, r2, r3⟩ := nextO_full (h w (by simp)).p hn
      refine ⟨⟨w.c, true, r⟩ :: ws, by simp only [lookF]; rw [if_neg hk, r1, w1]; rfl, by simp [w2], fun v hv => ?_⟩
      rcases List.mem_cons.1 hv with rfl | hv
      · exact ⟨rfl, r2, r3⟩
      · exact w3 v hv
theorem kept_ex {at_ : Tm} (ha : Va at_) {x : Ct} : ∀ {l : List Wt}, (∀ w ∈ l, WtOk w) → ∃ w, keptF l x at_ = some w ∧ w.c = x
  | [], _ => ⟨fresh x, rfl, rfl⟩
  | v :: l, h => by
    obtain ⟨w, w1, w2⟩ := kept_ex ha (x := x) fun v hv => h v (List.mem_cons_of_mem _ hv)
    simp only [keptF]
    split
    · cases hf : v.fails with
      | none => exact ⟨_, rfl, rfl⟩
      | some t =>
        obtain ⟨c, c1, _⟩ := cmpO_ok ((h v (by simp)).f t hf) ha
        dsimp only
        rw [c1]
        show ∃ w, (if 0 < c then some ⟨x, true, some t⟩ else keptF l x at_) = some w ∧ w.c = x
        split
        · exact ⟨_, rfl, rfl⟩
        · exact ⟨w, w1, w2⟩
    · exact ⟨w, w1, w2⟩
theorem lay_ex {at_ : Tm} (ha : Va at_) {ol : List Wt} (ho : ∀ w ∈ ol, WtOk w) : ∀ l : List Ct, ∃ ws, layF' ol at_ l = some ws ∧ ws.map (·.c) = l
  | [] => ⟨[], rfl, rfl⟩
  | x :: l => by
    obtain ⟨w, w1, w2⟩ := kept_ex ha (x := x) ho
    obtain ⟨ws, s1, s2⟩ := lay_ex ha ho l
    exact ⟨w :: ws, by simp only [layF', w1, s1]; rfl, by simp [w2, s2]⟩
theorem insC_mem' {out : List Ct} {c x : Ct} : x ∈ insC out c ↔ x = c ∨ x ∈ out := by
  have h : x ∈ out ↔ x ∈ out.take (posC out c out.length) ∨ x ∈ out.drop (posC out c out.length) := by
    rw [← List.mem_append, List.take_append_drop]
  simp only [insC, List.mem_append, List.mem_cons, h]
  constructor
  · rintro (h | h | h)
    · exact .inr (.inl h)
    · exact .inl h
    · exact .inr (.inr h)
  · rintro (h | h | h)
    · exact .inr (.inl h)
    · exact .inl h
    · exact .inr (.inr h)
theorem foldC_mem : ∀ (l acc : List Ct) {y : Ct}, y ∈ l.foldl insC acc ↔ y ∈ l ∨ y ∈ acc
  | [], acc, y => by simp
  | c :: l, acc, y => by
    simp only [List.foldl_cons]
    rw [foldC_mem l, insC_mem', List.mem_cons]
    constructor
    · rintro (h | h | h)
      · exact .inl (.inr h)
      · exact .inl (.inl h)
      · exact .inr h
    · rintro ((h | h) | h)
      · exact .inr (.inl h)
      · exact .inl h
      · exact .inr (.inr h)
theorem sortC_iff {l : List Ct} {x : Ct} : x ∈ sortC l ↔ x ∈ l := by unfold sortC; rw [foldC_mem]; simp
theorem nxt_ex {ws : List Wt} (hw : ∀ w ∈ ws, WtOk w) : ∃ o, nxtF ws = some o ∧ match o with
    | none => ∀ w ∈ ws, w.fails = none
    | some a => Va a ∧ (∃ w ∈ ws, w.fails = some a) ∧ ∀ w ∈ ws, ∀ t, w.fails = some t → ¬ TLt t a := by
  have hv : ∀ t ∈ ws.filterMap (·.fails), Va t := fun t ht => by
    obtain ⟨w, w1, w2⟩ := List.mem_filterMap.1 ht
    exact (hw w w1).f t w2
  unfold nxtF
  cases hf : ws.filterMap (·.fails) with
  | nil =>
    refine ⟨none, rfl, fun w h => ?_⟩
    cases e : w.fails with
    | none => rfl
    | some t =>
      have : t ∈ ws.filterMap (·.fails) := List.mem_filterMap.2 ⟨w, h, e⟩
      rw [hf] at this; cases this
  | cons b l =>
    rw [hf] at hv
    obtain ⟨m, m1, m2, m3⟩ := leastF_ok l b hv
    refine ⟨some m, by show (leastF b l).map some = _; rw [m1]; rfl, hv m m2, ?_, fun w h t e => ?_⟩
    · rw [← hf] at m2
      exact List.mem_filterMap.1 m2
    · exact m3 t (by rw [← hf]; exact List.mem_filterMap.2 ⟨w, h, e⟩)
theorem cmp_gt {t a : Tm} (ht : Va t) (ha : Va a) {c : Int} (h : cmpO t a = some c) (h0 : 0 < c) : TLt a t := by
  obtain ⟨c', c1, c2⟩ := cmpO_ok ht ha
  rw [h] at c1; injection c1 with c1; subst c1
  rcases c2 with ⟨e, _⟩ | ⟨e, _⟩ | ⟨_, e⟩
  · omega
  · omega
  · exact e
theorem lay_inv {ol ws : List Wt} {now a : Tm} {l : List Ct} (hn : Va now) (ha : Va a) (hna : ¬ TLt a now) (ho : ∀ w ∈ ol, WtOk w) (hk : ∀ w ∈ ol, w.known = true → NxtOk w.c.p now w.fails ∧ ∀ t, w.fails = some t → t ∈ tms w.c.p) (h : layF' ol a l = some ws) :
    ∀ w ∈ ws, w.known = true → NxtOk w.c.p a w.fails ∧ ∀ t, w.fails = some t → t ∈ tms w.c.p := by
  obtain ⟨h1, h2⟩ := layF_get h
  intro w hw hkn
  obtain ⟨i, hi⟩ := List.getElem?_of_mem hw
  have hil : i < l.length := by rw [← h1]; exact (List.getElem?_eq_some_iff.1 hi).1
  obtain ⟨v, h3, h4⟩ := h2 i _ (List.getElem?_eq_getElem hil)
  rw [hi] at h4; injection h4 with h4; subst h4
  rcases keptF_ok h3 with e | ⟨v, v1, v2, v3, e, v5⟩
  · rw [e] at hkn; cases hkn
  · obtain ⟨k1, k2⟩ := hk v v1 v2
    rw [e]
    show NxtOk (l[i]).p a v.fails ∧ ∀ t, v.fails = some t → t ∈ tms (l[i]).p
    rw [← v3]
    refine ⟨nxt_mono hn.cut ha.cut hna k1 fun t ht => ?_, k2⟩
    obtain ⟨c, c1, c2⟩ := v5 t ht
    exact cmp_gt ((ho v v1).f t ht) ha c1 c2
/-- a structure whose certificates tell all of it -/
structure Stab {β : Type} (Bc : Tm → List Ct) (Br : Tm → β) : Prop where
  ok : BuildOk Bc
  fin : ∃ Ps : List (List Int), (∀ p ∈ Ps, Cp p) ∧ ∀ a, Va a → ∀ x ∈ Bc a, x.p ∈ Ps
  st : ∀ a b, Va a → Va b → (∀ x ∈ Bc a, germ (sgA b) x.p = germ (sgA a) x.p) → Bc b = Bc a ∧ Br b = Br a
structure KSt {β : Type} (Bc : Tm → List Ct) (Br : Tm → β) (c : Cr) (r1 : β) : Prop where
  inv : KInv c
  cs : c.l.map (·.c) = sortC (Bc c.now)
  r : r1 = Br c.now
/-- the events from a time on, up to another -/
inductive Evs (Bc : Tm → List Ct) (t : Rat) : Tm → List Tm → Prop
  | nil {a : Tm} (h : ∀ x ∈ Bc a, ∃ o, NxtOk x.p a o ∧ ∀ u, o = some u → TLt (tq t) u) : Evs Bc t a []
  | cons {a e : Tm} {E : List Tm} (he : Va e) (h1 : TLt a e) (h2 : ¬ TLt (tq t) e) (h3 : ∀ x ∈ Bc a, ∃ o, NxtOk x.p a o ∧ ∀ u, o = some u → ¬ TLt u e) (h4 : ∃ x ∈ Bc a, NxtOk x.p a (some e)) (h5 : Evs Bc t e E) : Evs Bc t a (e :: E)
theorem go_ok {β : Type} {Bc : Tm → List Ct} {Br : Tm → β} (S : Stab Bc Br) {t : Rat} (ht : Qs 900 t) {Ps : List (List Int)} (hP : ∀ p ∈ Ps, Cp p) (hPs : ∀ a, Va a → ∀ x ∈ Bc a, x.p ∈ Ps) :
    ∀ (m : Nat) (c : Cr) (r1 : β) (n : Int), mu (Ps.flatMap tms) c.now ≤ m → KSt Bc Br c r1 → ¬ TLt (tq t) c.now →
    ∃ c' r' E, goF Bc Br t (m + 1) c r1 n = some (c', r', n + (E.length : Nat)) ∧ c'.now = tq t ∧ KSt Bc Br c' r' ∧ c'.ev = c.ev + (E.length : Nat) ∧ E.length ≤ m ∧ Evs Bc t c.now E := by
  have hT : ∀ t ∈ Ps.flatMap tms, Cut (cmpR t) := fun u hu => by
    obtain ⟨p, p1, p2⟩ := List.mem_flatMap.1 hu
    exact (tms_va (hP p p1) u p2).cut
  have hq := va_q ht
  intro m
  induction m with
  | zero => ?_
  | succ m ih => ?_
  all_goals
    intro c r1 n hm hS hnow
    obtain ⟨⟨ok, kk⟩, hcs, hr⟩ := hS
    obtain ⟨ws, w1, w2, w3⟩ := look_ex ok.n ok.l kk
    have ok' := look_ok ok w1
    rw [hcs] at w2
    have hc_w : ∀ x ∈ Bc c.now, ∃ w ∈ ws, w.c = x := fun x hx => by
      have : x ∈ ws.map (·.c) := by rw [w2]; exact sortC_iff.2 hx
      exact List.mem_map.1 this
    have hw_c : ∀ w ∈ ws, w.c ∈ Bc c.now := fun w hw => sortC_iff.1 (by rw [← w2]; exact List.mem_map_of_mem hw)
    obtain ⟨o, o1, o2⟩ := nxt_ex ok'.l
    -- the end
    have fin : (∀ w ∈ ws, ∀ u, w.fails = some u → TLt (tq t) u) → KSt Bc Br ⟨tq t, ws, c.ev⟩ r1 ∧ Evs Bc t c.now [] := fun hall => by
      have hg : ∀ x ∈ Bc c.now, germ (sgA (tq t)) x.p = germ (sgA c.now) x.p := fun x hx => by
        obtain ⟨w, hw, rfl⟩ := hc_w x hx
        exact germ_same (S.ok.p _ ok.n _ hx).dp ok.n hq hnow (w3 w hw).2.1 (hall w hw)
      obtain ⟨s1, s2⟩ := S.st _ _ ok.n hq hg
      refine ⟨⟨⟨⟨hq, ok'.l, ok'.k⟩, fun w hw _ => ⟨nxt_mono ok.n.cut hq.cut hnow (w3 w hw).2.1 (hall w hw), (w3 w hw).2.2⟩⟩, ?_, ?_⟩, .nil fun x hx => ?_⟩
      · show ws.map (·.c) = sortC (Bc (tq t)); rw [w2, s1]
      · show r1 = Br (tq t); rw [s2, hr]
      · obtain ⟨w, hw, rfl⟩ := hc_w x hx
        exact ⟨_, (w3 w hw).2.1, hall w hw⟩
  · cases o with
    | none =>
      obtain ⟨f1, f2⟩ := fin fun w hw u hu => by rw [o2 w hw] at hu; cases hu
      exact ⟨_, _, [], by simp only [goF]; rw [w1]; simp only [Option.bind_some]; rw [o1]; simp, rfl, f1, by simp, by simp, f2⟩
    | some a =>
      obtain ⟨va, ⟨w, hw, hwa⟩, hmin⟩ := o2
      by_cases h0 : 0 < cmpR a t
      · obtain ⟨f1, f2⟩ := fin fun v hv u hu => by
          have hu' := (ok'.l v hv).f u hu
          exact le_lt_r hq.cut va.cut hu'.cut ((cmp_tq va.cut).1 h0) (hmin v hv u hu)
        exact ⟨_, _, [], by simp only [goF]; rw [w1]; simp only [Option.bind_some]; rw [o1]; simp [h0], rfl, f1, by simp, by simp, f2⟩
      · exfalso
        obtain ⟨k1, k2, k3⟩ := w3 w hw
        rw [hwa] at k2
        have : a ∈ Ps.flatMap tms := List.mem_flatMap.2 ⟨_, hPs _ ok.n _ (hw_c w hw), k3 a hwa⟩
        have := mu_lt ok.n.cut va.cut hT k2.2.2.1 this
        omega
  · cases o with
    | none =>
      obtain ⟨f1, f2⟩ := fin fun w hw u hu => by rw [o2 w hw] at hu; cases hu
      exact ⟨_, _, [], by simp only [goF]; rw [w1]; simp only [Option.bind_some]; rw [o1]; simp, rfl, f1, by simp, by simp, f2⟩
    | some a =>
      obtain ⟨va, ⟨w, hw, hwa⟩, hmin⟩ := o2
      by_cases h0 : 0 < cmpR a t
      · obtain ⟨f1, f2⟩ := fin fun v hv u hu => by
          have hu' := (ok'.l v hv).f u hu
          exact le_lt_r hq.cut va.cut hu'.cut ((cmp_tq va.cut).1 h0) (hmin v hv u hu)
        exact ⟨_, _, [], by simp only [goF]; rw [w1]; simp only [Option.bind_some]; rw [o1]; simp [h0], rfl, f1, by simp, by simp, f2⟩
      · obtain ⟨k1, k2, k3⟩ := w3 w hw
        rw [hwa] at k2
        have hna := lt_nle ok.n.cut va.cut k2.2.2.1
        have hmem : a ∈ Ps.flatMap tms := List.mem_flatMap.2 ⟨_, hPs _ ok.n _ (hw_c w hw), k3 a hwa⟩
        have hlt := mu_lt ok.n.cut va.cut hT k2.2.2.1 hmem
        obtain ⟨w2', l1, l2⟩ := lay_ex va ok'.l (sortC (Bc a))
        have hl := lay_inv ok.n va hna ok'.l (fun v hv _ => (w3 v hv).2) l1
        have hS' : KSt Bc Br ⟨a, w2', c.ev + 1⟩ (Br a) := ⟨⟨Orr.lay_ok _ ok' va (S.ok.p a va) (S.ok.n a va) l1, hl⟩, l2, rfl⟩
        obtain ⟨c', r', E, g1, g2, g3, g4, g5, g6⟩ := ih ⟨a, w2', c.ev + 1⟩ (Br a) (n + 1) (by show mu _ a ≤ m; omega) hS' (fun h => h0 ((cmp_tq va.cut).2 h))
        refine ⟨c', r', a :: E, ?_, g2, g3, by rw [g4]; simp; omega, by simp; omega, .cons va k2.2.2.1 (fun h => h0 ((cmp_tq va.cut).2 h)) (fun x hx => ?_) ⟨w.c, hw_c w hw, k2⟩ g6⟩
        · conv => lhs; unfold goF
          rw [w1]; simp only [Option.bind_some]; rw [o1]; simp only [Option.bind_some]; rw [if_neg h0, l1]; simp only [Option.bind_some]
          rw [g1]; simp; omega
        · obtain ⟨v, hv, rfl⟩ := hc_w x hx
          exact ⟨_, (w3 v hv).2.1, hmin v hv⟩
end Orq

namespace Orq
open Orr Go
theorem germs_ex {a : Tm} (ha : Va a) : ∀ (L : List (List Int)), (∀ p ∈ L, Dp p) → ∃ y, cmpR a y = -1 ∧ ∀ q, cmpR a q = -1 → q ≤ y → ∀ p ∈ L, germ (sgA a) p = sgnQ (pev p q)
  | [], _ => by
    obtain ⟨y, hy⟩ := ha.cut.hi
    exact ⟨y, hy, fun q _ _ p hp => by cases hp⟩
  | p :: L, h => by
    obtain ⟨y, y1, y2⟩ := germs_ex ha L (fun q hq => h q (List.mem_cons_of_mem _ hq))
    by_cases h0 : p.length = 0
    · obtain rfl := List.eq_nil_of_length_eq_zero h0
      refine ⟨y, y1, fun q q1 q2 r hr => ?_⟩
      rcases List.mem_cons.1 hr with rfl | hr
      · rw [germ_nil]; exact (sgnQ_zero.2 rfl).symm
      · exact y2 q q1 q2 r hr
    · obtain ⟨⟨z, z1, z2⟩, _⟩ := germ_rs ha (h p (by simp)) h0
      refine ⟨if y ≤ z then y else z, by split <;> assumption, fun q q1 q2 r hr => ?_⟩
      rcases List.mem_cons.1 hr with rfl | hr
      · rw [← ev_cz]; exact (z2 q q1 (by grind)).symm
      · exact y2 q q1 (by grind) r hr
/-! ### sorting, for a strict order -/
section Srt
variable {α : Type} {lt : α → α → Bool} {R : α → α → Prop}
theorem pw_or : ∀ {l : List α}, l.Pairwise R → ∀ {u v : α}, u ∈ l → v ∈ l → u ≠ v → R u v ∨ R v u
  | [], _, _, _, h, _, _ => by cases h
  | x :: l, hp, u, v, hu, hv, hne => by
    rw [List.pairwise_cons] at hp
    rcases List.mem_cons.1 hu with e | hu
    · rcases List.mem_cons.1 hv with e' | hv
      · exact absurd (e.trans e'.symm) hne
      · rw [e]; exact .inl (hp.1 v hv)
    · rcases List.mem_cons.1 hv with e' | hv
      · rw [e']; exact .inr (hp.1 u hu)
      · exact pw_or hp.2 hu hv hne
end Srt
theorem getD_bd {s : List Int} {b : Int} (hb : 0 < b) (hs : ∀ z ∈ s, 0 ≤ z ∧ z < b) (i : Nat) : 0 ≤ s.getD i 0 ∧ s.getD i 0 < b := by
  rw [List.getD_eq_getElem?_getD]
  cases h : s[i]? with
  | none => simp; exact hb
  | some z => simpa using hs z (List.mem_of_getElem? h)
/-! ### places -/
theorem inv1 : (1 : Rat)⁻¹ = 1 := by
  have := Rat.mul_inv_cancel (1 : Rat) (by decide)
  grind
def px (p : Pt) (q : Rat) : Rat := pev p.c.x q / (p.c.d : Rat)
def py (p : Pt) (q : Rat) : Rat := pev p.c.y q / (p.c.d : Rat)
end Orq

namespace Orr
/-- the squared distance, times the squares of both denominators -/
def papart (a b : Crv) : List Int := padd (pmul (pright a b) (pright a b)) (pmul (pabove a b) (pabove a b))
def pfarther (a b c d : Crv) : List Int := psub (pscale (papart c d) ((a.d * b.d) * (a.d * b.d))) (pscale (papart a b) ((c.d * d.d) * (c.d * d.d)))
theorem pb_apart {a b : Crv} (ha : Cb a) (hb : Cb b) : Trim (papart a b) ∧ (papart a b).length ≤ 31 ∧ Bd 4194312 (papart a b) := by
  obtain ⟨_, l1, b1⟩ := pb_right ha hb
  obtain ⟨_, l2, b2⟩ := pb_above ha hb
  have m1 := len_pmul (pright a b) (pright a b)
  have m2 := len_pmul (pabove a b) (pabove a b)
  have q1 := bd_pmul (u := 5) b1 b1 (by omega)
  have q2 := bd_pmul (u := 5) b2 b2 (by omega)
  refine ⟨each_trim _ _, ?_, bd_mono (bd_padd q1 q2) (by omega)⟩
  have := len_padd (pmul (pright a b) (pright a b)) (pmul (pabove a b) (pabove a b))
  unfold papart
  omega
theorem isz_dd {a b : Crv} (ha : Cb a) (hb : Cb b) : isz (a.d * b.d) ≤ 2097152 := by
  have := isz_mul a.d b.d; have := ha.d; have := hb.d; omega
theorem isz_dd2 {a b : Crv} (ha : Cb a) (hb : Cb b) : isz ((a.d * b.d) * (a.d * b.d)) ≤ 4194304 := by
  have := isz_mul (a.d * b.d) (a.d * b.d); have := isz_dd ha hb; omega
/-- the certificate that c and d are not nearer than a and b -/
def mkDist (sg : List Int → Int) (a b c d : Pt) : Ct := ⟨5, a.id, b.id, c.id, d.id, pfarther a.c b.c c.c d.c, germ sg (pfarther a.c b.c c.c d.c)⟩
theorem mkDist_p (sg : List Int → Int) (a b c d : Pt) : (mkDist sg a b c d).p = pfarther a.c b.c c.c d.c := by rw [mkDist]
/-- each two, up to the k-th one as the first -/
def pairsK : Nat → List Pt → List (Pt × Pt)
  | 0, _ => []
  | _ + 1, [] => []
  | k + 1, x :: l => l.map (fun y => (x, y)) ++ pairsK k l
def pairsOf (l : List Pt) : List (Pt × Pt) := pairsK l.length l
theorem pairsK_next : ∀ (l : List Pt) (i : Nat) (x : Pt), l[i]? = some x → pairsK (i + 1) l = pairsK i l ++ (l.drop (i + 1)).map (fun y => (x, y))
  | [], i, x, h => by simp at h
  | y :: l, 0, x, h => by
    simp at h; subst h
    simp [pairsK]
  | y :: l, i + 1, x, h => by
    have h : l[i]? = some x := by simpa using h
    have ih := pairsK_next l i x h
    show l.map (fun z => (y, z)) ++ pairsK (i + 1) l = (l.map (fun z => (y, z)) ++ pairsK i l) ++ _
    rw [ih, List.append_assoc]
    rfl
theorem pairsK_mem : ∀ (k : Nat) (l : List Pt), ∀ m ∈ pairsK k l, m.1 ∈ l ∧ m.2 ∈ l
  | 0, l, m, h => by simp [pairsK] at h
  | k + 1, [], m, h => by simp [pairsK] at h
  | k + 1, x :: l, m, h => by
    rcases List.mem_append.1 h with h | h
    · obtain ⟨y, hy, rfl⟩ := List.mem_map.1 h
      exact ⟨List.mem_cons_self .., List.mem_cons_of_mem _ hy⟩
    · obtain ⟨h1, h2⟩ := pairsK_mem k l m h
      exact ⟨List.mem_cons_of_mem _ h1, List.mem_cons_of_mem _ h2⟩
theorem pairsK_len : ∀ (k : Nat) (l : List Pt), (pairsK k l).length ≤ k * l.length
  | 0, l => by simp [pairsK]
  | k + 1, [] => by simp [pairsK]
  | k + 1, x :: l => by
    have := pairsK_len k l
    simp only [pairsK, List.length_append, List.length_map, List.length_cons]
    have e : (k + 1) * (l.length + 1) = k * l.length + k + l.length + 1 := by rw [Nat.add_mul, Nat.mul_add]; omega
    omega
/-- the nearer two -/
def nearer (sg : List Int → Int) (s m : Pt × Pt) : Pt × Pt := if germ sg (pfarther s.1.c s.2.c m.1.c m.2.c) < 0 then m else s
def nearest (sg : List Int → Int) (s : Pt × Pt) (ps : List (Pt × Pt)) : Pt × Pt := ps.foldl (nearer sg) s
theorem nearer_or (sg : List Int → Int) (s m : Pt × Pt) : nearer sg s m = m ∨ nearer sg s m = s := by
  unfold nearer
  split
  · exact .inl rfl
  · exact .inr rfl
theorem nearest_cons (sg : List Int → Int) (s m : Pt × Pt) (ps : List (Pt × Pt)) : nearest sg s (m :: ps) = nearest sg (nearer sg s m) ps := by unfold nearest; rw [List.foldl_cons]
theorem nearest_snoc (sg : List Int → Int) (s : Pt × Pt) (ps : List (Pt × Pt)) (m : Pt × Pt) : nearest sg s (ps ++ [m]) = nearer sg (nearest sg s ps) m := by simp [nearest]
theorem nearest_mem (sg : List Int → Int) {l : List Pt} : ∀ (ps : List (Pt × Pt)) (s : Pt × Pt), s.1 ∈ l ∧ s.2 ∈ l → (∀ m ∈ ps, m.1 ∈ l ∧ m.2 ∈ l) → (nearest sg s ps).1 ∈ l ∧ (nearest sg s ps).2 ∈ l
  | [], s, hs, _ => hs
  | m :: ps, s, hs, h => by
    have hn : (nearer sg s m).1 ∈ l ∧ (nearer sg s m).2 ∈ l := by
      rcases nearer_or sg s m with e | e
      · rw [e]; exact h m (List.mem_cons_self ..)
      · rw [e]; exact hs
    rw [nearest_cons]
    exact nearest_mem sg ps (nearer sg s m) hn fun x hx => h x (List.mem_cons_of_mem _ hx)
def other (s m : Pt × Pt) : Bool := decide (m.1.id ≠ s.1.id) || decide (m.2.id ≠ s.2.id)
/-- the certificates: of all others -/
def dists (sg : List Int → Int) (s : Pt × Pt) (ps : List (Pt × Pt)) : List Ct := (ps.filter (other s)).map fun m => mkDist sg s.1 s.2 m.1 m.2
theorem dists_t {sg : List Int → Int} {s m : Pt × Pt} {ps : List (Pt × Pt)} (h : other s m = true) : dists sg s (ps ++ [m]) = dists sg s ps ++ [mkDist sg s.1 s.2 m.1 m.2] := by simp [dists, List.filter_append, h]
theorem dists_f {sg : List Int → Int} {s m : Pt × Pt} {ps : List (Pt × Pt)} (h : other s m = false) : dists sg s (ps ++ [m]) = dists sg s ps := by simp [dists, List.filter_append, h]
theorem dists_mem {sg : List Int → Int} {s : Pt × Pt} {ps : List (Pt × Pt)} {c : Ct} (h : c ∈ dists sg s ps) : ∃ x ∈ ps, mkDist sg s.1 s.2 x.1 x.2 = c := by
  unfold dists at h
  obtain ⟨x, hx, e⟩ := List.mem_map.1 h
  exact ⟨x, (List.mem_filter.1 hx).1, e⟩
theorem dists_len (sg : List Int → Int) (s : Pt × Pt) (ps : List (Pt × Pt)) : (dists sg s ps).length ≤ ps.length := by
  unfold dists
  rw [List.length_map]
  exact List.length_filter_le _ _
/-- the pair of a row, as a row; its certificates -/
def pairB (sg : List Int → Int) : List Pt → List Pt
  | a :: b :: l => [(nearest sg (a, b) (pairsOf (a :: b :: l))).1, (nearest sg (a, b) (pairsOf (a :: b :: l))).2]
  | _ => []
def pairC (sg : List Int → Int) : List Pt → List Ct
  | a :: b :: l => dists sg (nearest sg (a, b) (pairsOf (a :: b :: l))) (pairsOf (a :: b :: l))
  | _ => []
theorem pairB_few (sg : List Int → Int) {l : List Pt} (h : l.length < 2) : pairB sg l = [] ∧ pairC sg l = [] := by
  match l, h with
  | [], _ => exact ⟨rfl, rfl⟩
  | [a], _ => exact ⟨rfl, rfl⟩
theorem two_of {l : List Pt} (h : ¬ l.length < 2) : ∃ a b m, l = a :: b :: m := by
  match l, h with
  | [], h => simp at h
  | [a], h => simp at h
  | a :: b :: m, _ => exact ⟨a, b, m, rfl⟩
theorem pairC_len (sg : List Int → Int) (l : List Pt) : (pairC sg l).length ≤ l.length * l.length := by
  match l with
  | [] => simp [pairC]
  | [a] => simp [pairC]
  | a :: b :: m => exact Nat.le_trans (dists_len _ _ _) (pairsK_len _ _)
end Orr

namespace Orq
open Orr Go
theorem cp_farther {a b c d : Crv} (ha : Sc a) (hb : Sc b) (hc : Sc c) (hd : Sc d) : Cp (pfarther a b c d) := by
  have lr : ∀ {a b : Crv}, Sc a → Sc b → (pright a b).length ≤ 3 ∧ (pabove a b).length ≤ 3 := fun {a b} ha hb => by
    have := len_psub (pscale b.x a.d) (pscale a.x b.d); have := len_pscale b.x a.d; have := len_pscale a.x b.d
    have := len_psub (pscale b.y a.d) (pscale a.y b.d); have := len_pscale b.y a.d; have := len_pscale a.y b.d
    have := ha.c.lx; have := hb.c.lx; have := ha.c.ly; have := hb.c.ly
    unfold pright pabove; omega
  have ap : ∀ {a b : Crv}, Sc a → Sc b → (papart a b).length ≤ 5 ∧ Bd 365 (papart a b) := fun {a b} ha hb => by
    obtain ⟨l1, l2⟩ := lr ha hb
    have b1 : Bd 181 (pright a b) := bd_psub (bd_pscale hb.c.x ha.c.d) (bd_pscale ha.c.x hb.c.d)
    have b2 : Bd 181 (pabove a b) := bd_psub (bd_pscale hb.c.y ha.c.d) (bd_pscale ha.c.y hb.c.d)
    have q1 := bd_pmul (u := 2) b1 b1 (by omega)
    have q2 := bd_pmul (u := 2) b2 b2 (by omega)
    refine ⟨?_, bd_mono (bd_padd q1 q2) (by omega)⟩
    have := len_padd (pmul (pright a b) (pright a b)) (pmul (pabove a b) (pabove a b))
    have := len_pmul (pright a b) (pright a b); have := len_pmul (pabove a b) (pabove a b)
    unfold papart; omega
  have dd : ∀ {a b : Crv}, Sc a → Sc b → isz ((a.d * b.d) * (a.d * b.d)) ≤ 360 := fun {a b} ha hb => by
    have := isz_mul a.d b.d; have := isz_mul (a.d * b.d) (a.d * b.d); have := ha.c.d; have := hb.c.d; omega
  obtain ⟨l1, b1⟩ := ap hc hd
  obtain ⟨l2, b2⟩ := ap ha hb
  refine ⟨each_trim _ _, ?_, bd_mono (bd_psub (bd_pscale b1 (dd ha hb)) (bd_pscale b2 (dd hc hd))) (by omega)⟩
  have := len_psub (pscale (papart c d) ((a.d * b.d) * (a.d * b.d))) (pscale (papart a b) ((c.d * d.d) * (c.d * d.d)))
  have := len_pscale (papart c d) ((a.d * b.d) * (a.d * b.d)); have := len_pscale (papart a b) ((c.d * d.d) * (c.d * d.d))
  unfold pfarther; omega
/-- the squared distance -/
def dsq (m : Pt × Pt) (q : Rat) : Rat := (px m.2 q - px m.1 q) * (px m.2 q - px m.1 q) + (py m.2 q - py m.1 q) * (py m.2 q - py m.1 q)
theorem far_pev {a b c d : Pt} (ha : Sc a.c) (hb : Sc b.c) (hc : Sc c.c) (hd : Sc d.c) (q : Rat) : sgnQ (pev (pfarther a.c b.c c.c d.c) q) = sgnQ (dsq (c, d) q - dsq (a, b) q) := by
  have pos : ∀ {z : Int}, 0 < z → (0 : Rat) < (z : Rat) := fun {z} h => by exact_mod_cast h
  have pa := pos ha.n.2.2.1
  have pb := pos hb.n.2.2.1
  have pc := pos hc.n.2.2.1
  have pd := pos hd.n.2.2.1
  have xx : ∀ {p : Pt}, 0 < (p.c.d : Rat) → pev p.c.x q = px p q * (p.c.d : Rat) ∧ pev p.c.y q = py p q * (p.c.d : Rat) := fun {p} h => by
    unfold px py
    exact ⟨(Rat.div_mul_cancel (by grind)).symm, (Rat.div_mul_cancel (by grind)).symm⟩
  obtain ⟨xa, ya⟩ := xx pa
  obtain ⟨xb, yb⟩ := xx pb
  obtain ⟨xc, yc⟩ := xx pc
  obtain ⟨xd, yd⟩ := xx pd
  have e : pev (pfarther a.c b.c c.c d.c) q = (((a.c.d : Rat) * b.c.d) * ((a.c.d : Rat) * b.c.d)) * (((c.c.d : Rat) * d.c.d) * ((c.c.d : Rat) * d.c.d)) * (dsq (c, d) q - dsq (a, b) q) := by
    unfold pfarther papart pright pabove dsq
    simp only [pev_psub, pev_pscale, pev_padd, pev_pmul, Rat.intCast_mul]
    rw [xa, xb, xc, xd, ya, yb, yc, yd]
    grind
  rw [e, sgnQ_mul_pos]
  have h1 := Rat.mul_pos pa pb
  have h2 := Rat.mul_pos pc pd
  exact Rat.mul_pos (Rat.mul_pos h1 h1) (Rat.mul_pos h2 h2)
def allF (l : List Pt) : List (List Int) := l.flatMap fun a => l.flatMap fun b => l.flatMap fun c => l.map fun d => pfarther a.c b.c c.c d.c
theorem allF_mem {l : List Pt} {a b c d : Pt} (ha : a ∈ l) (hb : b ∈ l) (hc : c ∈ l) (hd : d ∈ l) : pfarther a.c b.c c.c d.c ∈ allF l :=
  List.mem_flatMap.2 ⟨a, ha, List.mem_flatMap.2 ⟨b, hb, List.mem_flatMap.2 ⟨c, hc, List.mem_map.2 ⟨d, hd, rfl⟩⟩⟩⟩
theorem allF_cp {l : List Pt} (hl : ∀ p ∈ l, Sc p.c) : ∀ p ∈ allF l, Cp p := fun p hp => by
  obtain ⟨a, ha, hp⟩ := List.mem_flatMap.1 hp
  obtain ⟨b, hb, hp⟩ := List.mem_flatMap.1 hp
  obtain ⟨c, hc, hp⟩ := List.mem_flatMap.1 hp
  obtain ⟨d, hd, rfl⟩ := List.mem_map.1 hp
  exact cp_farther (hl a ha) (hl b hb) (hl c hc) (hl d hd)
/-- soon enough behind a time, the signs are those of the distances -/
theorem far_lex {l : List Pt} (hl : ∀ p ∈ l, Sc p.c) {a : Tm} (ha : Va a) : ∃ y, cmpR a y = -1 ∧ ∀ q, cmpR a q = -1 → q ≤ y → ∀ s m : Pt × Pt, s.1 ∈ l → s.2 ∈ l → m.1 ∈ l → m.2 ∈ l → germ (sgA a) (pfarther s.1.c s.2.c m.1.c m.2.c) = sgnQ (dsq m q - dsq s q) := by
  obtain ⟨y, y1, y2⟩ := germs_ex ha (allF l) fun p hp => (allF_cp hl p hp).dp
  refine ⟨y, y1, fun q q1 q2 s m h1 h2 h3 h4 => ?_⟩
  rw [y2 q q1 q2 _ (allF_mem h1 h2 h3 h4), far_pev (hl _ h1) (hl _ h2) (hl _ h3) (hl _ h4)]
/-- the first of the least -/
def FirstMin (f : Pt × Pt → Rat) (P : List (Pt × Pt)) (r : Pt × Pt) : Prop := ∃ P1 P2, P = P1 ++ r :: P2 ∧ (∀ m ∈ P1, f r < f m) ∧ ∀ m ∈ P2, f r ≤ f m
theorem fm_unique {f : Pt × Pt → Rat} : ∀ {P : List (Pt × Pt)} {r r' : Pt × Pt}, FirstMin f P r → FirstMin f P r' → r = r'
  | [], r, r', ⟨P1, P2, h, _⟩, _ => by simp at h
  | x :: P, r, r', ⟨P1, P2, h, h1, h2⟩, ⟨Q1, Q2, h', h1', h2'⟩ => by
    cases P1 with
    | nil =>
      simp at h
      cases Q1 with
      | nil => simp at h'; exact h.1.symm.trans h'.1
      | cons y Q1 =>
        simp at h'
        exfalso
        obtain ⟨rfl, rfl⟩ := h
        obtain ⟨rfl, rfl⟩ := h'
        have a1 := h1' x (by simp)
        have a2 := h2 r' (by simp)
        grind
    | cons y P1 =>
      simp at h
      cases Q1 with
      | nil =>
        simp at h'
        exfalso
        obtain ⟨rfl, rfl⟩ := h
        obtain ⟨rfl, rfl⟩ := h'
        have a1 := h1 x (by simp)
        have a2 := h2' r (by simp)
        grind
      | cons z Q1 =>
        simp at h h'
        exact fm_unique (P := P) ⟨P1, P2, h.2, fun m hm => h1 m (by simp [hm]), h2⟩ ⟨Q1, Q2, h'.2, fun m hm => h1' m (by simp [hm]), h2'⟩
theorem fm_step {f : Pt × Pt → Rat} {P : List (Pt × Pt)} {r m : Pt × Pt} (h : FirstMin f P r) : FirstMin f (P ++ [m]) (if f m < f r then m else r) := by
  obtain ⟨P1, P2, rfl, h1, h2⟩ := h
  by_cases e : f m < f r
  · rw [if_pos e]
    refine ⟨P1 ++ r :: P2, [], rfl, fun x hx => ?_, fun x hx => by cases hx⟩
    rcases List.mem_append.1 hx with hx | hx
    · have := h1 x hx; grind
    · rcases List.mem_cons.1 hx with rfl | hx
      · exact e
      · have := h2 x hx; grind
  · rw [if_neg e]
    refine ⟨P1, P2 ++ [m], by simp, h1, fun x hx => ?_⟩
    rcases List.mem_append.1 hx with hx | hx
    · exact h2 x hx
    · rw [List.mem_singleton.1 hx]; grind
theorem fm_fold {f : Pt × Pt → Rat} {sg : List Int → Int} {l : List Pt} (hg : ∀ s m : Pt × Pt, s.1 ∈ l → s.2 ∈ l → m.1 ∈ l → m.2 ∈ l → germ sg (pfarther s.1.c s.2.c m.1.c m.2.c) = sgnQ (f m - f s)) : ∀ (ps P : List (Pt × Pt)) (s : Pt × Pt), s.1 ∈ l ∧ s.2 ∈ l → (∀ m ∈ ps, m.1 ∈ l ∧ m.2 ∈ l) → FirstMin f P s → FirstMin f (P ++ ps) (nearest sg s ps)
  | [], P, s, _, _, h => by rw [List.append_nil]; exact h
  | m :: ps, P, s, hs, hp, h => by
    rw [nearest_cons]
    have hm := hp m (by simp)
    have e : nearer sg s m = if f m < f s then m else s := by
      unfold nearer
      rw [hg s m hs.1 hs.2 hm.1 hm.2]
      have := sgnQ_three (f m - f s)
      by_cases h : f m < f s
      · rw [if_pos h, if_pos (by grind)]
      · rw [if_neg h, if_neg (by grind)]
    have hn : (nearer sg s m).1 ∈ l ∧ (nearer sg s m).2 ∈ l := by
      rcases nearer_or sg s m with e | e <;> rw [e] <;> assumption
    have := fm_fold hg ps (P ++ [m]) (nearer sg s m) hn (fun x hx => hp x (List.mem_cons_of_mem _ hx)) (by rw [e]; exact fm_step h)
    rwa [List.append_assoc] at this
theorem pairs_head (a b : Pt) (l : List Pt) : ∃ P, pairsOf (a :: b :: l) = (a, b) :: P := ⟨_, rfl⟩
/-- the pair is the first of the least -/
theorem near_fm {f : Pt × Pt → Rat} {sg : List Int → Int} {a b : Pt} {l : List Pt} (hg : ∀ s m : Pt × Pt, s.1 ∈ a :: b :: l → s.2 ∈ a :: b :: l → m.1 ∈ a :: b :: l → m.2 ∈ a :: b :: l → germ sg (pfarther s.1.c s.2.c m.1.c m.2.c) = sgnQ (f m - f s)) : FirstMin f (pairsOf (a :: b :: l)) (nearest sg (a, b) (pairsOf (a :: b :: l))) := by
  obtain ⟨P, hP⟩ := pairs_head a b l
  have hm := pairsK_mem (a :: b :: l).length (a :: b :: l)
  have hm : ∀ m ∈ pairsOf (a :: b :: l), m.1 ∈ a :: b :: l ∧ m.2 ∈ a :: b :: l := hm
  rw [hP] at hm ⊢
  have h := fm_fold hg P [(a, b)] (a, b) (hm (a, b) (by simp)) (fun m h => hm m (by simp [h])) ⟨[], [], rfl, fun m h => (by cases h), fun m h => (by cases h)⟩
  rw [nearest_cons]
  have e : nearer sg (a, b) (a, b) = (a, b) := by rcases nearer_or sg (a, b) (a, b) with e | e <;> exact e
  rw [e]; exact h
theorem same_pt {l : List Pt} (hd : l.Pairwise fun x y => x.id ≠ y.id) {u v : Pt} (hu : u ∈ l) (hv : v ∈ l) (h : u.id = v.id) : u = v := by
  by_cases e : u = v
  · exact e
  · rcases pw_or hd hu hv e with h' | h'
    · exact absurd h h'
    · exact absurd h.symm h'
theorem pair_keep {l : List Pt} (hl : ∀ p ∈ l, Sc p.c) (hd : l.Pairwise fun x y => x.id ≠ y.id) {a b : Tm} (ha : Va a) (hb : Va b) (h : ∀ x ∈ pairC (sgA a) l, germ (sgA b) x.p = germ (sgA a) x.p) : pairB (sgA b) l = pairB (sgA a) l ∧ pairC (sgA b) l = pairC (sgA a) l := by
  match l, hl, hd, h with
  | [], _, _, _ => exact ⟨rfl, rfl⟩
  | [x], _, _, _ => exact ⟨rfl, rfl⟩
  | u :: v :: l', hl, hd, h =>
    obtain ⟨y, y1, y2⟩ := far_lex hl ha
    obtain ⟨z, z1, z2⟩ := far_lex hl hb
    have ga := y2 y y1 Rat.le_refl
    have gb := z2 z z1 Rat.le_refl
    have fa := near_fm (f := fun m => dsq m y) ga
    have fb := near_fm (f := fun m => dsq m z) gb
    simp only [pairB, pairC] at h ⊢
    have hm : ∀ m ∈ pairsOf (u :: v :: l'), m.1 ∈ u :: v :: l' ∧ m.2 ∈ u :: v :: l' := pairsK_mem _ _
    generalize u :: v :: l' = l at *
    obtain ⟨r, hr⟩ : ∃ r, r = nearest (sgA a) (u, v) (pairsOf l) := ⟨_, rfl⟩
    rw [← hr] at fa h ⊢
    obtain ⟨P1, P2, hP, h1, h2⟩ := fa
    have hrm : r ∈ pairsOf l := by rw [hP]; simp
    have hrl := hm r hrm
    -- signs that are told by certificates stay
    have key : ∀ m ∈ pairsOf l, m = r ∨ germ (sgA b) (pfarther r.1.c r.2.c m.1.c m.2.c) = germ (sgA a) (pfarther r.1.c r.2.c m.1.c m.2.c) := fun m hmm => by
      have hml := hm m hmm
      by_cases e : other r m = true
      · right
        have h0 := h (mkDist (sgA a) r.1 r.2 m.1 m.2) (by unfold dists; exact List.mem_map.2 ⟨m, List.mem_filter.2 ⟨hmm, e⟩, rfl⟩)
        rw [mkDist_p] at h0; exact h0
      · left
        unfold other at e
        simp at e
        have e1 := same_pt hd hml.1 hrl.1 e.1
        have e2 := same_pt hd hml.2 hrl.2 e.2
        exact Prod.ext e1 e2
    have fb' : FirstMin (fun m => dsq m z) (pairsOf l) r := by
      refine ⟨P1, P2, hP, fun m hmm => ?_, fun m hmm => ?_⟩
      · have hmp : m ∈ pairsOf l := by rw [hP]; simp [hmm]
        have hlt := h1 m hmm
        have hml := hm m hmp
        rcases key m hmp with e | e
        · exfalso; rw [e] at hlt; dsimp only at hlt; grind
        · rw [ga r m hrl.1 hrl.2 hml.1 hml.2, gb r m hrl.1 hrl.2 hml.1 hml.2] at e
          dsimp only at hlt ⊢
          rw [sgnQ_pos.2 (by grind : 0 < dsq m y - dsq r y)] at e
          have := sgnQ_pos.1 e; grind
      · have hmp : m ∈ pairsOf l := by rw [hP]; simp [hmm]
        have hlt := h2 m hmm
        have hml := hm m hmp
        rcases key m hmp with e | e
        · rw [e]; exact Rat.le_refl
        · rw [ga r m hrl.1 hrl.2 hml.1 hml.2, gb r m hrl.1 hrl.2 hml.1 hml.2] at e
          dsimp only at hlt ⊢
          have t1 := sgnQ_three (dsq m y - dsq r y)
          have t2 := sgnQ_three (dsq m z - dsq r z)
          grind
    have er := fm_unique fb fb'
    rw [er]
    refine ⟨rfl, ?_⟩
    unfold dists
    refine List.map_congr_left fun m hmm => ?_
    have hmp := (List.mem_filter.1 hmm).1
    rcases key m hmp with e | e
    · exfalso
      have := (List.mem_filter.1 hmm).2
      rw [e] at this; unfold other at this; simp at this
    · unfold mkDist; rw [e]
theorem stabP {l : List Pt} (hl : ∀ p ∈ l, Sc p.c) (hn : l.length ≤ 10) (hd : l.Pairwise fun x y => x.id ≠ y.id) : Stab (fun a => pairC (sgA a) l) (fun a => ptrow (pairB (sgA a) l)) := by
  have hcp : ∀ a, ∀ x ∈ pairC (sgA a) l, x.p ∈ allF l := fun a x hx => by
    match l, hx with
    | u :: v :: l', hx =>
      simp only [pairC] at hx
      obtain ⟨h3, h4⟩ := nearest_mem (sgA a) (l := u :: v :: l') (pairsOf (u :: v :: l')) (u, v) ⟨by simp, by simp⟩ (pairsK_mem _ _)
      obtain ⟨m, hm, rfl⟩ := dists_mem hx
      obtain ⟨h1, h2⟩ := pairsK_mem _ _ m hm
      rw [mkDist_p]
      exact allF_mem h3 h4 h1 h2
  refine ⟨⟨fun a _ x hx => allF_cp hl _ (hcp a x hx), fun a _ => ?_⟩, ⟨allF l, allF_cp hl, fun a _ => hcp a⟩, fun a b ha hb h => ?_⟩
  · have := pairC_len (sgA a) l
    have : l.length * l.length ≤ 10 * 10 := Nat.mul_le_mul hn hn
    show (pairC (sgA a) l).length ≤ 1000
    omega
  · obtain ⟨h1, h2⟩ := pair_keep hl hd ha hb h
    exact ⟨h2, by show ptrow _ = ptrow _; rw [h1]⟩
end Orq

namespace Orq
open Orr Go
/-- nothing happens from a on, up to b -/
structure Quiet {β : Type} (Bc : Tm → List Ct) (Br : Tm → β) (a b : Tm) : Prop where
  va : Va a
  vb : Va b
  le : ¬ TLt b a
  n : ∀ x ∈ Bc a, ∃ o, NxtOk x.p a o ∧ ∀ u, o = some u → TLt b u
section
variable {β : Type} {Bc : Tm → List Ct} {Br : Tm → β} (S : Stab Bc Br)
include S
theorem Quiet.same {a b : Tm} (h : Quiet Bc Br a b) : Bc b = Bc a ∧ Br b = Br a := by
  refine S.st a b h.va h.vb fun x hx => ?_
  obtain ⟨o, o1, o2⟩ := h.n x hx
  exact germ_same (S.ok.p _ h.va _ hx).dp h.va h.vb h.le o1 o2
end
theorem tms_len {p : List Int} (h : Cp p) : (tms p).length ≤ 67 := by
  obtain ⟨l, l1, l2, _⟩ := turns_ok h
  unfold tms; rw [l1]; exact l2
theorem tms_all : ∀ {Ps : List (List Int)}, (∀ p ∈ Ps, Cp p) → (Ps.flatMap tms).length ≤ 67 * Ps.length
  | [], _ => Nat.zero_le _
  | p :: Ps, h => by
    have h1 := tms_len (h p (by simp))
    have h2 := tms_all (Ps := Ps) fun q hq => h q (List.mem_cons_of_mem _ hq)
    rw [List.flatMap_cons, List.length_append, List.length_cons]; omega
theorem mu_le (T : List Tm) (a : Tm) : mu T a ≤ T.length := List.length_filter_le _ _
/-- an advance, from any state that is right -/
theorem adv_ok {β : Type} {Bc : Tm → List Ct} {Br : Tm → β} (S : Stab Bc Br) {Ps : List (List Int)} (hP : ∀ p ∈ Ps, Cp p) (hPs : ∀ a, Va a → ∀ x ∈ Bc a, x.p ∈ Ps) (hl : Ps.length ≤ 1000000) {t : Rat} (ht : Qs 900 t) {c : Cr} {r : β} (hS : KSt Bc Br c r) (h : cmpR c.now t ≤ 0) :
    ∃ (K : Nat) (c' : Cr) (E : List Tm), K ≤ 67000001 ∧ goF Bc Br t K c r 0 = some (c', Br (tq t), ((E.length : Nat) : Int)) ∧ c'.now = tq t ∧ KSt Bc Br c' (Br (tq t)) ∧ c'.ev = c.ev + ((E.length : Nat) : Int) ∧ E.length ≤ 67000000 ∧ Evs Bc t c.now E := by
  have hm := tms_all hP
  have hmu := mu_le (Ps.flatMap tms) c.now
  have hv := hS.inv.ok.n
  obtain ⟨c', r', E, g1, g2, g3, g4, g5, g6⟩ := go_ok S ht hP hPs (mu (Ps.flatMap tms) c.now) c r 0 (Nat.le_refl _) hS fun h' => by
    have := (cmp_tq hv.cut).2 h'; omega
  have hr : r' = Br (tq t) := by rw [g3.r, g2]
  rw [hr] at g1 g3
  rw [Int.zero_add] at g1
  exact ⟨_, c', E, by omega, g1, g2, g3, g4, by omega, g6⟩
theorem beg_st {β : Type} {Bc : Tm → List Ct} {Br : Tm → β} (S : Stab Bc Br) {a : Tm} (ha : Va a) : KSt Bc Br ⟨a, (sortC (Bc a)).map fresh, 0⟩ (Br a) := by
  refine ⟨⟨⟨ha, fun w hw => ?_, ?_⟩, fun w hw hk => ?_⟩, ?_, rfl⟩
  · obtain ⟨x, hx, rfl⟩ := List.mem_map.1 hw
    exact ⟨S.ok.p _ ha x (sortC_mem hx), fun t ht => by cases ht⟩
  · show ((sortC (Bc a)).map fresh).length ≤ 1000
    rw [List.length_map, sortC_len]; exact S.ok.n _ ha
  · obtain ⟨x, hx, rfl⟩ := List.mem_map.1 hw
    cases hk
  · show ((sortC (Bc a)).map fresh).map (·.c) = sortC (Bc a)
    rw [List.map_map]
    show (sortC (Bc a)).map (fun x => x) = _
    rw [List.map_id']
end Orq
